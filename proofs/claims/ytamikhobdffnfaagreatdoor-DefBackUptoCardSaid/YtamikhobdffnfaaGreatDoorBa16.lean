/-
  DefBack: for any definition of bulk at most 1048576 the call returns true; the argument reads as before, memory that was there is as it was (where the listed package-level variables hold what the text of the program lays).
-/
import Derived.Test.YtamikhobdffnfaaGreatDoorBa15
import Derived.WideShapes
import Derived.Test.YtamikhobdffnfaaGreatDoorBa05
import Derived.Test.YtamikhobdffnfaaGreatDoorBa06
import Derived.ChangeMaps5
import Derived.ReadAgain
set_option linter.all false
set_option maxRecDepth 99999
set_option maxHeartbeats 0
namespace Go.AV
open Go Go.Proofs Tryz
theorem Sx.sep(n:Nat)(c:List Wd):Sx c (fB n c) (if 0<n then 1 else 0):=by
 unfold fB;split
 .exact rT c aE
 .exact Sx.refl c
theorem Sx.right:∀(l:List Tm) (c:List Wd),(∀t,t∈l->Gd t)->Sx c (kM c l) (l.flatMap uA).length
 | [],c,_=>Sx.refl c
 | t::r,c,h=>by
  have m:=Sx.put c (s:=[61,62]) aE;have h2:=zP (h t (bU ..)) (aJ c [61,62]);have u:=Sx.right r (bS (aJ c [61,62]) t) (λy z=>h y (cP _ z));have B:=kN c;have F:=kN (aJ c [61,62]);exact((m.trans h2 (aV _)).trans u (aV _)).le (by simp only[kG,uA,aI,aG,aH];omega)
theorem Sx.part{p:Part}(h:PartG p)(n:Nat)(c:List Wd):Sx c (jV n c p) ((if 0<n then 2 else 1)+(rA p).length):=by
 have M:=Sx.sep n c;have h2:=Sx.put (fB n c) (jX h.c.n).1;have U:=kN (fB n c);unfold jV;simp only[];generalize aJ (fB n c) p.cell=c1 at h2⊢
 have y:Sx c1 (if p.at_=[] then c1 else bF c1 [[64],p.at_]) (if p.at_=[] then [] else 64::p.at_).length:=by
  split
  .exact Sx.refl c1
  .rename_i O;have k1:=rT c1 (s:=[64]) aE;have k2:=Sx.put (aJ c1 [64]) (jX (h.a.resolve_left O).n).1;rw[sW,aF aE]at k2;exact(k1.trans k2 (aV _)).le (by simp only[aG,aH];omega)
 generalize (if p.at_=[] then c1 else bF c1 [[64],p.at_])=c2 at y⊢;have F:=Sx.put c2 (s:=[58]) aE;have g4:=kN c2;have z:=zP h.l.g (aJ c2 [58]);have Z:=kN (aJ c2 [58])
 have S:=Sx.right p.right (bS (aJ c2 [58]) p.left) (λt m=>by
  rcases h.r with e|⟨u,e,B⟩
  .rw[e]at m;cases m
  .rw[e,cC]at m;rw[m];exact B.g)
 refine(((((M.trans h2 (aV _)).trans y (aV _)).trans F (aV _)).trans z (aV _)).trans S (aV _)).le ?_;unfold rA;simp only[aI,aG,aH];split<;>omega
theorem Sx.new{f:Fresh}(h:NewG f)(n:Nat)(c:List Wd):Sx c (kX n c f) ((if 0<n then 2 else 1)+(rX f).length):=by
 have y:=Sx.sep n c;have h2:=aEm (fB n c) (x:=[110,101,119]) aE;have B:=kN (fB n c);have m:=yO (f:=Tm.w2) f.cells (bF (fB n c) [[110,101,119],[40]]) (λx u=>zP (h.t x u).g);rw[show gp (bF (fB n c) [[110,101,119],[40]])=0 from(sW (aJ (fB n c) _) [40]).trans rfl]at m;have z:=rT (dL bS false (bF (fB n c) [[110,101,119],[40]]) f.cells) (s:=[41]) aE;unfold kX;refine(((y.trans h2 (aV _)).trans m (aV _)).trans z (aV _)).le ?_;unfold rX;simp only[aI,aG,aH];split<;>omega
theorem Sx.drop{x:aD}(h:NmG x)(n:Nat)(c:List Wd):Sx c (kW n c x) ((if 0<n then 2 else 1)+(sV x).length):=by
 have u:=Sx.sep n c;have h2:=Sx.put (fB n c) (s:=[100,114,111,112]) aE;have z:=kN (fB n c);have y:=rT (aJ (fB n c) [100,114,111,112]) (s:=[64]) aE;have m:=Sx.put (aJ (aJ (fB n c) [100,114,111,112]) [64]) (jX h.n).1;rw[sW,aF aE]at m;unfold kW;refine(((u.trans h2 (aV _)).trans y (aV _)).trans m (aV _)).le ?_;unfold sV;simp only[aI,aG,aH];split<;>omega
def er:Nat->List aD->Nat
 | _,[]=>0
 | n,x::r=>(if 0<n then 2 else 1)+x.length+er (n+1) r
theorem aHy:∀(a b:List aD) (n:Nat),er n (a++b)=er n a+er (n+a.length) b
 | [],b,n=>by simp[er]
 | x::a,b,n=>by rw[aZ,er,er,aHy a b,aG,show n+(a.length+1)=n+1+a.length by omega];omega
theorem aL9:∀(l:List aD) (n:Nat),er (n+1) l=sm 2 l
 | [],n=>rfl
 | x::r,n=>by rw[er,sm,aL9 r (n+1),aF (Nat.succ_pos n)];omega
theorem aUr(l:List aD):er 0 l<=1+(dS [59,32] false l).length:=by
 cases l with
 | nil=>exact aU _
 | cons x r =>
  rw[er,aL9,dS,aI,aI,aEr,aB (Nat.lt_irrefl 0)];simp only[cE,bR,aH,aG,fH,Nat.reduceAdd];omega
theorem aEf{α:Type}{one:Nat->List Wd->α->List Wd}{f:α->aD}:∀(l:List α) (n:Nat) (c:List Wd),(∀x,x∈l->∀n c,Sx c (one n c x) ((if 0<n then 2 else 1)+(f x).length))->Sx c (eZ one n c l) (er n (l.map f))
 | [],n,c,_=>Sx.refl c
 | x::r,n,c,h=>by
  have m:=h x (bU ..) n c;have h2:=aEf r (n+1) (one n c x) (λy u=>h y (cP _ u));exact m.trans h2 (aV _)
theorem aUn{r:Rul}(h:RulG r):Ln (mX r) (oQ r).length:=by
 have u:=aAX (ne3 (a:=[114,117,108,101]) aE (jX h.p.n.n).1 (by decide:([58]:aD)≠[45]));unfold mX;simp only[];generalize bF [] [[114,117,108,101],r.name,[58]]=c1 at u⊢;have h2:=aEf (one:=jV) (f:=rA) r.parts 0 c1 (λx m=>Sx.part (h.p.p x m));generalize eZ jV 0 c1 r.parts=c2 at h2⊢;have z:=aEf (one:=kX) (f:=rX) r.new r.parts.length c2 (λx m=>Sx.new (h.p.f x m));generalize eZ kX r.parts.length c2 r.new=c3 at z⊢;have y:=aEf (one:=kW) (f:=sV) r.drop (r.parts.length+r.new.length) c3 (λx m=>Sx.drop (h.p.d x m));generalize eZ kW (r.parts.length+r.new.length) c3 r.drop=c4 at y⊢;have B:=aLi h.c c4;have e:=aUr (nD r);rw[nD,aHy,aHy,aK,aK,fH]at e;refine Ln.of ((((u.trans h2 (aV _)).trans z (aV _)).trans y (aV _)).trans B (aV _)) ?_;unfold oQ;rw[nD];simp only[sm,aI,aG,aH]at e⊢;omega
def Lns(h:List (List Wd))(l:List aD):Prop:=(∀m,m∈h->Wk m)/\(iV h).length<=sm 2 l
theorem Lns.app{A B:List (List Wd)}{a b:List aD}(h:Lns A a)(g:Lns B b):Lns (A++B) (a++b):=by
 refine⟨λm u=>(cZ.1 u).elim (h.1 m) (g.1 m),?_⟩;have:=h.2;have:=g.2;rw[aAa];unfold iV at *;rw[List.flatMap_append,aI];omega
theorem Lns.nil:Lns [] []:=⟨λm h=>(by cases h),aV _⟩
theorem Lns.one{m:List Wd}{x:aD}(h:Ln m x.length):Lns [m] [x]:=by
 refine⟨λw u=>by rw[cC.1 u];exact h.1,?_⟩;have:=h.2;simp only[iV,kG,List.flatMap_nil,eH,aI,aG,aH,sm];omega
theorem Lns.map{α:Type}{f:α->List Wd}{g:α->aD}:∀l:List α,(∀x,x∈l->Ln (f x) (g x).length)->Lns (l.map f) (l.map g)
 | [],_=>Lns.nil
 | x::r,h=>(Lns.one (h x (bU ..))).app (Lns.map r (λy m=>h y (cP _ m)))
theorem Lns.names{k:aD}{l:List aD}(u:k≠[45])(h:∀x,x∈l->NmG x):Lns (nB k l) (lE (k++[32]) l):=by
 unfold nB lE;split
 .exact Lns.nil
 .have y:=Sx.put [] u;have h2:=yO (one:=aJ) (f:=id) l (aJ [] k) (λx m c=>Sx.put c (jX (h x m).n).1);rw[List.map_id]at h2;have g0:gp []=0:=rfl;have z:=kN (aJ [] k);exact Lns.one (Ln.of (y.trans h2 (aV _)) (by simp only[aI,aG,aH];omega))
theorem Lns.place{k x:aD}(u:k≠[45])(h:x=[]\/NmG x):Lns (mU k x) (kT (k++[32]) x):=by
 unfold mU kT;split
 .exact Lns.nil
 .rename_i m;exact Lns.one (Ln.of (aAX (ne2 u (jX (h.resolve_left m).n).1)) (by simp only[sm,aI,aG,aH];omega))
theorem Lns.many{k:aD}{l:List Cel}(B:k=[]\/NmG k)(h:∀x,x∈l->CelG x):Lns (if k=[] then [] else [aJ (aJ (dL gX false (bF [] [[109,97,110,121],k,[40]]) l) [41]) [46]]) (qU k l):=by
 unfold qU;split
 .exact Lns.nil
 .rename_i z;have y:=(B.resolve_left z).n;have F:=Sx.put [] (s:=[109,97,110,121]) aE;have h2:=aEm (aJ [] [109,97,110,121]) y;have m:=yO (one:=gX) (f:=nZ) l (bF [] [[109,97,110,121],k,[40]]) (λx u=>Sx.cell (h x u));rw[show gp (bF [] [[109,97,110,121],k,[40]])=0 from(sW (aJ (aJ [] _) k) [40]).trans rfl]at m;have M:=rT (dL gX false (bF [] [[109,97,110,121],k,[40]]) l) (s:=[41]) aE;have g0:gp []=0:=rfl;have O:=kN (aJ [] [109,97,110,121]);exact Lns.one (Ln.of (((F.trans h2 (aV _)).trans m (aV _)).trans M (aV _)) (by simp only[aI,aG,aH];omega))
theorem aJs{d:Dfn}(h:DfnG d):Lns (eD d) (iT d):=by
 have u:=Lns.one (x:=[108,97,110,103,117,97,103,101,32]++d.name) (Ln.of (aAX (ne2 (a:=[108,97,110,103,117,97,103,101]) aE (jX h.n.n).1)) (by simp only[sm,aI,aG,aH];omega))
 have e:iT d=([[108,97,110,103,117,97,103,101,32]++d.name]++((lE ([115,111,114,116]++[32]) d.sig.sorts++(d.sig.below.map pJ++(lE ([118,97,108,117,101]++[32]) d.sig.values++(d.sig.ops.map nL++d.sig.funs.map pR))))++(d.eqs.map pU++(d.once.map qY++(qU d.kind d.many++(kT ([115,116,97,114,116]++[32]) d.start++(kT ([119,97,116,99,104]++[32]) d.watch++d.rules.map oQ))))))):=by
  simp only[iT,pP,bG,aZ,bA]
 rw[e]
 exact u.app (((Lns.names aE h.so).app ((Lns.map _ λx m=>Ln.below (h.be x m)).app ((Lns.names aE h.va).app ((Lns.map _ λx m=>Ln.op (h.op x m)).app (Lns.map _ λx m=>Ln.fn (h.fu x m)))))).app
  ((Lns.map _ λx m=>Ln.eq (h.eq x m)).app ((Lns.map _ λx m=>Ln.once (h.ce x m)).app ((Lns.many (by rcases h.ki with⟨a,_⟩|⟨a,_⟩;exact .inl a;exact .inr a) h.ma).app ((Lns.place aE h.st).app ((Lns.place aE h.wa).app (Lns.map _ λx m=>aUn (h.ru x m))))))))
theorem aQp{d:Dfn}(h:DfnG d):(iV (eD d)).length<=(wU d).length:=by
 refine mR (aJs h).2 ?_
 have:∀l:List aD,l≠[]->sm 2 l=(dS [46,10] false l++[46,10]).length:=λl hl=>by
  cases l with
  | nil=>exact cM rfl hl
  | cons x r =>
   rw[aI,dS,aI,aI,aEr,sm];simp only[cE,bR,aH,aG,fH,Nat.reduceAdd];omega
 rw[this _ (by simp[iT])];exact aV _
def AG(l:List Tok):Prop:=∀t,t∈l->TokG t
theorem gL:AG []:=λt h=>by cases h
theorem aDT{t:Tok}{l:List Tok}(h:TokG t)(hl:AG l):AG (t::l):=λu m=>by
 rcases List.mem_cons.1 m with rfl|m
 .exact h
 .exact hl u m
theorem gJ{a b:List Tok}(h:AG a)(y:AG b):AG (a++b):=λu m=>(cZ.1 m).elim (h u) (y u)
theorem rU{c:Prop} [Decidable c] {a b:List Tok} (h:c->AG a) (u:¬ c->AG b):AG (if c then a else b):=by
 by_cases m:c
 .rw[aF m];exact h m
 .rw[aB m];exact u m
theorem gZ{x:aD}{l:List Tok}(hl:AG l)(h:dT x=true:=by decide):AG (bL x::l):=aDT (aBq h) hl
theorem iH{x:aD}{l:List Tok}(hl:AG l)(h:x∈dR\/x=[39]\/x=[95]:=by decide):AG (aW x::l):=aDT (aEx h) hl
theorem aNt{n:Int}(m:0<=n)(h:n<=2147483647):AG [tP n]:=aDT ⟨.inr (.inl ⟨rfl,rfl,m,h⟩)⟩ gL
theorem aAP{α:Type}{one:α->List Tok}:∀(b:Bool) (l:List α),(∀x,x∈l->AG (one x))->AG (jN one b l)
 | b,[],_=>gL
 | b,x::r,h=>gJ (rU (λ_=>iH gL) (λ_=>gL)) (gJ (h x (bU ..)) (aAP true r (λy m=>h y (cP _ m))))
theorem aD0{α:Type}{one:α->List Tok}:∀(l:List α) (n:Nat),(∀x,x∈l->AG (one x))->AG (gT one n l)
 | [],n,_=>gL
 | x::r,n,h=>gJ (rU (λ_=>iH gL) (λ_=>gL)) (gJ (h x (bU ..)) (aD0 r (n+1) (λy m=>h y (cP _ m))))
theorem aAZ{α:Type}{one:α->List Tok}{l:List α}(h:∀x,x∈l->AG (one x)):AG (l.flatMap one):=λt m=>by
 obtain⟨x,u,m⟩:=List.mem_flatMap.1 m;exact h x u t m
theorem aHw{α:Type}{one:α->Tok}{l:List α}(h:∀x,x∈l->TokG (one x)):AG (l.map one):=λt u=>by
 obtain⟨x,m,rfl⟩:=cH.1 u;exact h x m
theorem aHH:∀P:Pc,kA P->AG (bP P)
 | [],_=>gL
 | some t::P,h=>aDT h.1 (aHH P h.2.2.2)
 | none::P,h=>aHH P h.2
theorem aAd{t:Tm}(h:TmG t):AG (tK t):=by
 have:=h.g.ok [] trivial (λu m h=>by cases h);rw[eH]at this;exact aHH _ this
theorem aKG{l:List Tm}(h:TmsG l):AG (rV l):=rU (λ_=>gL) (λ_=>gZ (aAP false l (λx m=>aAd (h.t x m))))
theorem aVG{o:Opr}(h:OpG o):AG (vC o):=by
 refine gZ (gZ (iH (gJ (aHw λq z=>?_) (gJ (rU (λ_=>aHw λx y=>aBq (h.a x y).n) (λ_=>gL)) (iH (gZ (gJ (rU (λ_=>gZ (aNt h.c.1 (by have:=h.c.2;omega))) (λ_=>gL)) (gJ (rU (λ_=>gZ gL) (λ_=>rU (λ_=>gZ gL) (λ_=>gL)))
  (gJ (rU (λ_=>gL) (λ_=>gZ (iH (gJ (aAP false _ λn m=>aNt (by have:=(h.t n m).1;omega) (by have:=(h.t n m).2;omega)) (iH gL))))) (iH gL)))) h.s.n))))) h.n.n)
 unfold oO;rcases(h.pg q z).c with⟨u,h2⟩|⟨u,h2⟩
 .rw[aF u];exact⟨.inr (.inr (.inl ⟨rfl,rfl,h2⟩))⟩
 .rw[aB (λe=>by have:=h2.n;rw[e]at this;cases this)];exact aBq h2.n
theorem aU5{o:Opr}(h:FunG o):AG (uT o):=gZ (gZ (iH (gJ (aHw λx m=>aBq (h.a x m).n) (iH (gZ (iH gL) h.s.n)))) h.n.n)
theorem aMv{c:Cel}(h:CelG c):AG (uG c):=gZ (iH (gZ (iH (aAd h.i)) h.s.n)) h.n.n
theorem aTt{p:Part}(h:PartG p):AG (uK p):=by
 refine gZ (gJ (rU (λ_=>gL) (λy=>iH (gZ gL (h.a.resolve_left y).n))) (iH (gJ (aAd h.l) ?_))) h.c.n;rcases h.r with e|⟨u,e,m⟩
 .rw[e];exact gL
 .rw[e];exact iH (gJ (aAd m) gL)
theorem aTq{r:Rul}(h:RulG r):AG (uM r) :=
 gZ (gZ (iH (gJ (aD0 _ _ λx m=>aTt (h.p.p x m)) (gJ (aD0 _ _ λx m=>gZ (iH (gJ (aAP false _ λt u=>aAd ((h.p.f x m).t t u)) (iH gL)))) (gJ (aD0 _ _ λx m=>gZ (iH (gZ gL (h.p.d x m).n))) (gJ (aKG h.c) (iH gL)))))) h.p.n.n)
theorem aUM{x:Eqn}(h:EqG x):AG (uU x):=gZ (gJ (aAd h.l) (iH (gJ (aAd h.r) (gJ (aKG h.c) (iH gL)))))
theorem aK1{k:aD}{l:List aD}(u:dT k=true)(h:∀x,x∈l->NmG x):AG (qZ k l):=rU (λ_=>gL) (λ_=>gZ (gJ (aAP false l λx m=>gZ gL (h x m).n) (iH gL)) u)
theorem aLo{k x:aD}(u:dT k=true)(h:x=[]\/NmG x):AG (qX k x):=rU (λ_=>gL) (λm=>gZ (gZ (iH gL) (h.resolve_left m).n) u)
theorem aM1{d:Dfn}(h:DfnG d):AG (uQ d):=by
 refine gZ (gZ (iH (gJ (gJ (aK1 aE h.so) (gJ (aAZ λx m=>gZ (gZ (iH (gZ (iH gL) (h.be x m).2.n)) (h.be x m).1.n)) (gJ (aK1 aE h.va) (gJ (aAZ λx m=>aVG (h.op x m)) (aAZ λx m=>aU5 (h.fu x m))))))
  (gJ (aAZ λx m=>aUM (h.eq x m)) (gJ (aAZ λx m=>gZ (gJ (aMv (h.ce x m)) (iH gL))) (gJ (rU (λ_=>gL) (λu=>?_)) (gJ (aLo aE h.st) (gJ (aLo aE h.wa) (aAZ λx m=>aTq (h.ru x m))))))))) h.n.n)
 rcases h.ki with⟨e,_⟩|⟨e,_⟩
 .exact cM e u
 .exact gZ (gZ (iH (gJ (aAP false _ λx m=>aMv (h.ma x m)) (iH (iH gL)))) e.n)
theorem aJz{t:Tok}(h:TokG t)(O:t.kind=1\/t.kind=2):∃c,t.word.getLast?=some c/\fK c.toNat=true/\t.word≠[95]:=by
 rcases h.is with⟨e,_,c,r,F,u,h2,U⟩|⟨e,_,M,u⟩|⟨e,_⟩|⟨e,_⟩
 .have m:t.word=c::r:=by unfold Tok.word;rw[aB aC,aB aC,F]
  rw[m];refine⟨(c::r).getLast bJ,List.getLast?_eq_some_getLast _,?_,λe=>?_⟩
  .exact jF.1 h2 _ (List.getLast_mem _)
  .cases e;revert u;decide
 .have m:t.word=Lib.itoa t.n:=by unfold Tok.word;rw[aF e]
  have y:Lib.itoa t.n=Lib.decDigits t.n.natAbs:=by unfold Lib.itoa;rw[aB aC,show t.n.toNat=t.n.natAbs by omega]
  have hd:=(aD3 _ t.n.natAbs (iD _)).2;obtain⟨c,r,B,S,z⟩:=aAc _ t.n.natAbs (iD _);rw[m,y];rw[B]at hd⊢;refine⟨(c::r).getLast bJ,List.getLast?_eq_some_getLast _,?_,λe=>?_⟩
  .have:=hd _ (List.getLast_mem (l:=c::r) bJ);simp only[fK,oK,dE,cT];omega
  .cases e;revert z;decide
 .omega
 .omega
theorem aM5:∀l:List Tok,AG l->xX (sC l)
 | [],_=>trivial
 | [t],h=>⟨h t (bU ..),.inl rfl,λ_ _=>rfl,λ_ _ c r e=>(by cases e),trivial⟩
 | t::u::r,h=>by
  have O:=h t (bU ..);have Z:=h u (cP _ (bU ..));refine⟨O,?_,λh4 hm=>?_,λS hk=>?_,aM5 (u::r) (λv hv=>h v (cP _ hv))⟩
  .show(if _ then _ else _:aD)=_\/_;split
   .exact .inr (.inl rfl)
   .exact .inl rfl
  .have ew:t.word=[45]:=by unfold Tok.word;rw[h4,aB aE,aB aE];exact hm
   show(if _ then _ else _:aD)=_;rw[ew,aB (by unfold kE;simp[show fK 45=false from by decide])]
  .obtain⟨c,B,e2,e3⟩:=aJz O hk;obtain⟨d,s,M,_⟩:=aCk Z
   have m:¬ kE t.word u.word=true:=λm=>by
    have y:(if kE t.word u.word=true then [32] else []:aD)=[]:=S;rw[aF m]at y;cases y
   have F:t.word≠[]:=λe=>by rw[e]at B;cases B
   have hd:fK d.toNat=false:=by
    unfold kE at m;rw[B,M]at m;simpa [F,e2,e3]using m
   intro c' U e;have e':eN (sC (u::r))=c'::U:=e
   have:∃z,eN (sC (u::r))=d::z:=by
    cases r with
    | nil=>exact⟨_,by rw[sC,eN,M];rfl⟩
    | cons v r=>exact⟨_,by rw[sC,eN,M];rfl⟩
   obtain⟨z,hz⟩:=this;rw[hz]at e';cases e';exact hd
theorem aPs{d:Dfn}(h:DfnG d):∃m,kC dR true (lG (eD d))=.ok m/\Mv (uQ d) m:=by
 obtain⟨m,u,h2⟩:=aMo (aM5 _ (aM1 h));rw[aNf]at h2;refine⟨m,?_,h2⟩;have:=aNk (uQ d) [];rw[<-aMc h]at this;have e:lF [] (dN (eD d))=eN (sC (uQ d)):=this;clear this;have this:=e;unfold lG;rw[this];exact u
section
section
variable {fin:Fault} {n:Nat} {w:List Tok}
theorem lR{x:aD}(h:NmG x):eU fin (bL x::w) n=.ok x w n:=by
 unfold eU;simp only;rw[aF (aB0 h.r)];rfl
theorem zC{t:Tm}(h:TmG t):gS false fin (tK t++w) n=.ok t w n:=by
 obtain⟨u,P,e,z⟩:=h.g.hd;obtain⟨m,y⟩:=h.m;have:=aTj fin u 60 t 0 m w h.g y;unfold tK;rw[e,bP]at this⊢;rw[aZ]at this⊢;unfold gS;simp only;rw[this]
theorem aI9{α:Type}(one:α->List Tok):∀l:List α,l.length<=(jN one true l).length
 | []=>aU _
 | x::r=>by
  have:=aI9 one r;simp only[jN,bT,aI,aG,aH];omega
theorem aK6{α:Type}(one:α->List Tok):∀(l:List α) (m:Nat),l.length<=(gT one (m+1) l).length
 | [],m=>aU _
 | x::r,m=>by
  have:=aK6 one r (m+1);simp only[gT,uS,Nat.zero_lt_succ,bT,aI,aG,aH];omega
theorem aLO{α u:Type}{one:List u->List Tok->Nat->Rd u}{K:α->List Tok}{g:α->u}(B:Nat):∀(r:List α) (x:α) (m:List u) (f:Nat),(∀m y w,y∈x::r->m.length<B->one m (K y++w) n=.ok (g y) w n)->r.length+1<=f->m.length+(r.length+1)<=B->isT [44] w=false ->
  dK fin [44] (λm w n=>(one m w n).bind λa w n=>.ok (m++[a]) w n) f m (K x++(jN K true r++w)) n=.ok (m++g x::r.map g) w n
 | [],x,m,f,h,S,O,M=>by
  obtain⟨f,rfl⟩:∃F,f=F+1:=⟨f-1,by omega⟩
  rw[dK,h m x _ (bU ..) aC];simp only[bY,jN,bA];rw[aB (by rw[M];decide)];rfl
 | y::r,x,m,f,h,S,O,M=>by
  simp only[aG]at S O;obtain⟨f,rfl⟩:∃F,f=F+1:=⟨f-1,by omega⟩
  rw[dK,h m x _ (bU ..) aC];simp only[bY,jN,bT,aZ,bA,bG];rw[gG,aF aE,List.tail_cons,aLO B r y (m++[g x]) f (λm z w hz=>h m z w (cP _ hz)) aC (by simp only[aI,aG,aH];omega) M,bG];rfl
theorem aA5{α u:Type}{one:List u->List Tok->Nat->Rd u}{K:α->List Tok}{g:α->u}(B:Nat){l:List α}{m:List u}(h:∀m y w,y∈l->m.length<B->one m (K y++w) n=.ok (g y) w n)(hl:l≠[])(z:m.length+l.length<=B)(F:isT [44] w=false) :
  kP fin one m (jN K false l++w) n=.ok (m++l.map g) w n:=by
 cases l with
 | nil=>exact cM rfl hl
 | cons x r =>
  have e:jN K false (x::r)++w=K x++(jN K true r++w):=by
   simp only[jN,cE,bR,bA,bG]
  unfold kP;rw[e,aLO B r x m _ h ?_ (gQ z) F];rfl;have:=aI9 K r;simp only[aI];omega
theorem aVe{l:List Tm}(h:∀t,t∈l->TmG t)(hl:l≠[])(m:isT [44] w=false):kP fin (λ_=>gS false fin) [] (jN tK false l++w) n=.ok l w n:=by
 rw[aA5 (fin:=fin) (n:=n) (w:=w) (one:=λ_=>gS false fin) (K:=tK) (g:=λt=>t) l.length (λu y w z _=>zC (h y z)) hl bJ m];simp
theorem aKC{l:List Tm}(h:TmsG l):qT false fin (rV l++aW [46]::w) n=.ok l (aW [46]::w) n:=by
 unfold qT rV;by_cases hl:l=[]
 .rw[aF hl,bA,gG,aB aE,hl]
 .rw[aB hl,aZ,vV,aF aE,List.tail_cons];rw[aA5 (fin:=fin) (n:=n) (w:=aW [46]::w) (K:=tK) (g:=λt=>t) 20 (λF y w z M=>?_) hl (gQ h.n) (by rw[gG];decide)]
  .simp
  .have m:=zC (fin:=fin) (n:=n) (w:=w) (h.t y z);obtain⟨u,P,e,B⟩:=(h.t y z).g.hd;unfold tK at m⊢;rw[e,bP,aZ]at m⊢;simp only;rw[aF B.b];unfold wD;rw[aB aC,bY,m]
theorem aLQ{c:Cel}(h:CelG c):pQ false fin (uG c++w) n=.ok c.st w n:=by
 unfold uG pQ;simp only[aZ];rw[lR h.n,bY,iZ,bY,lR h.s,bY,iZ,bY,zC h.i];rfl
theorem aGm:∀(u:List Piece) (f:Nat) (z:List Piece) (az:List aD) (F:Bool),(∀q,q∈u->PcG q)->u.length+1<=f->z.length+u.length<=20->(az++lS u).length<=8 ->
  qL fin f z az F (u.map oO++aW [45,62]::w) n=.ok (z++u,az++lS u,F||u.any λq=>decide (q.sort=[])) w n
 | [],f,z,az,F,h,hf,M,O=>by
  obtain⟨f,rfl⟩:∃Z,f=Z+1:=⟨f-1,by omega⟩
  rw[dI,bA,qL,gG,aF aE,List.tail_cons];simp[lS]
 | q::u,f,z,az,F,h,hf,M,O=>by
  simp only[aG]at hf M;obtain⟨f,rfl⟩:∃Z,f=Z+1:=⟨f-1,by omega⟩
  have hq:=(h q (bU ..)).c;have ih:=λz az F=>aGm u f z az F (λr hr=>h r (cP _ hr)) aC
  rw[bN,aZ,qL];obtain⟨B,m⟩:=q;rcases hq with⟨rfl,h2⟩|⟨rfl,h2⟩
  .have U:oO ⟨B,[]⟩=tkt B:=rfl;have e2:isT [45,62] (tkt B::(u.map oO++aW [45,62]::w))=false:=rfl;rw[U,aB (by rw[e2];decide)];have S:lS (⟨B,[]⟩::u)=lS u:=by simp[lS]
   rw[aF (.inl rfl),aB aC,aF (by rfl)];rw[S]at O;have e3:(tkt B).text=B:=rfl;rw[e3,ih _ _ _ (by simp only[aI,aG,aH];omega) O,S];simp
  .have y:m≠[]:=λe=>by have:=h2.n;rw[e]at this;cases this
   have U:oO ⟨[],m⟩=bL m:=by unfold oO;rw[aB y]
   have e2:isT [45,62] (bL m::(u.map oO++aW [45,62]::w))=false:=by
    rw[vV,fR];rintro rfl;have:=h2.n;revert this;decide
   rw[U,aB (by rw[e2];decide)];have S:lS (⟨[],m⟩::u)=m::lS u:=by simp[lS,y]
   rw[S]at O;simp only[aI,aG]at O;have e3:(bL m).text=m:=rfl;rw[aF (.inr (aB0 h2.r)),aB aC,aB (by simp[bL]),aB aC,e3,ih _ _ _ (by simp only[aI,aG,aH];omega) (by simp only[aI,aG,aH];omega),S];simp[y]
theorem aMX{m x:Int}(h:1<=x/\x<=m):sR fin m (tP x::w) n=.ok x w n:=by
 unfold sR tP;simp only;rw[aF trivial,aB aC]
theorem aKJ(f:Nat)(o:Opr):jB fin (f+1) o (aW [46]::w) n=.ok o (aW [46]::w) n:=by
 rw[jB,gG,aF aE]
theorem aGM(f:Nat)(o:Opr)(l:List Int)(h:∀x,x∈l->1<=x/\x<=8)(ho:o.strict=[])(u:(if l=[] then 1 else 2)<=f) :
  jB fin f o ((if l=[] then [] else bL [115,116,114,105,99,116]::aW [40]::(jN (λn=>[tP n]) false l++[aW [41]]))++aW [46]::w) n=.ok { o with strict:=l } (aW [46]::w) n:=by
 by_cases hl:l=[]
 .rw[aF hl]at u;obtain⟨f,rfl⟩:∃m,f=m+1:=⟨f-1,by omega⟩
  rw[aF hl,bA,aKJ,hl,<-ho]
 .rw[aB hl]at u;obtain⟨f,rfl⟩:∃m,f=m+2:=⟨f-2,by omega⟩
  rw[aB hl,aZ,jB,vV,aB aE];simp only[aZ,bG,bA];rw[aB (by simp[bL]),xE,aB aE,aB aE,aB aE,aF rfl,aB (by rw[ho];simp),iZ,bY];rw[aA5 (fin:=fin) (n:=n) (K:=λn=>[tP n]) (g:=λx=>x) l.length (λz y w B _=>by rw[aZ];exact aMX (h y B)) hl bJ (by rw[gG];decide),bY,iZ,bY,aKJ];simp
theorem aLp(f:Nat)(o:Opr)(a:Int)(l:List Int)(z:a=0\/a=1\/a=2)(h:∀x,x∈l->1<=x/\x<=8)(ho:o.strict=[])(m:o.assoc=0)(u:(if a=0 then 0 else 1)+(if l=[] then 1 else 2)<=f) :
  jB fin f o ((if a=1 then [bL [108,101,102,116]] else if a=2 then [bL [114,105,103,104,116]] else [])++((if l=[] then [] else bL [115,116,114,105,99,116]::aW [40]::(jN (λn=>[tP n]) false l++[aW [41]]))++aW [46]::w)) n=.ok { o with assoc:=a,strict:=l } (aW [46]::w) n:=by
 have B:1<=(if l=[] then 1 else 2):=by split<;>omega
 rcases z with rfl|rfl|rfl
 .rw[aB aE,aB aE,bA,aGM _ _ _ h ho (gQ u),<-m]
 .rw[aB aE]at u;obtain⟨f,rfl⟩:∃y,f=y+1:=⟨f-1,by omega⟩
  rw[aF rfl,aZ,jB,vV,aB aE];simp only[bA];rw[aB (by simp[bL]),xE,aB aE,aF rfl,aF m,aGM _ { o with assoc:=1 } l h ho aC]
 .rw[aB aE]at u;obtain⟨f,rfl⟩:∃y,f=y+1:=⟨f-1,by omega⟩
  rw[aB aE,aF rfl,aZ,jB,vV,aB aE];simp only[bA];rw[aB (by simp[bL]),xE,aB aE,aB aE,aF rfl,aF m,aGM _ { o with assoc:=2 } l h ho aC]
theorem aSk(f:Nat)(x:aD)(az:List aD)(y:aD)(B:List Piece)(o:Opr)(h:OpG o)(u:(qS o).length+1<=f):jB fin f ⟨x,az,y,B,0,0,[]⟩ (qS o++w) n=.ok ⟨x,az,y,B,o.prec,o.assoc,o.strict⟩ (aW [46]::w) n:=by
 have m:(if 0<o.prec then 1 else 0)+((if o.assoc=0 then 0 else 1)+(if o.strict=[] then 1 else 2))<=f:=by
  unfold qS at u;simp only[aI,aG,aH]at u;rcases h.s2 with h2|h2|h2<;>by_cases O:0<o.prec<;>by_cases F:o.strict=[]<;>simp[O,h2,F]at u⊢<;>omega
 clear u;unfold qS;simp only[bG,aZ,bA];by_cases z:0<o.prec
 .rw[aF z]at m;obtain⟨f,rfl⟩:∃M,f=M+1:=⟨f-1,by omega⟩
  rw[aF z,aZ,jB,vV,aB aE];simp only[aZ,bA];rw[aB (by simp[bL]),xE,aF rfl,aB aE,aMX ⟨by omega,h.c.2⟩,bY,aLp _ _ _ _ h.s2 h.t rfl rfl aC]
 .rw[aB z]at m;rw[aB z,bA,aLp _ _ _ _ h.s2 h.t rfl rfl aC,show o.prec=0 by have:=h.c.1;omega]
theorem aL4:∀(xs:List aD) (f:Nat) (az:List aD),(∀x,x∈xs->NmG x)->xs.length+1<=f->az.length+xs.length<=8->nF fin f az (xs.map bL++aW [45,62]::w) n=.ok (az++xs) w n
 | [],f,az,h,z,B=>by
  obtain⟨f,rfl⟩:∃m,f=m+1:=⟨f-1,by omega⟩
  rw[dI,bA,nF,gG,aF aE,List.tail_cons,eH]
 | x::xs,f,az,h,z,B=>by
  simp only[aG]at z B;obtain⟨f,rfl⟩:∃m,f=m+1:=⟨f-1,by omega⟩
  have u:=h x (bU ..);rw[bN,aZ,nF,vV,aB (by rw[dE];rintro rfl;have:=u.n;revert this;decide)];unfold mK;simp only;rw[aB (λh=>by omega),lR u,bY,aL4 xs f _ (λy F=>h y (cP _ F)) aC (by simp only[aI,aG,aH];omega),bG];rfl
end
end
section
section
variable {fin:Fault} {n:Nat} {w:List Tok}
theorem eK(x y:aD):eO (bL x) y=decide (x=y):=by simp[eO,bL];exact gV.2 Iff.rfl
theorem aAe{x:aD}(h:NmG x):x≠[]:=λe=>by have:=h.n;rw[e]at this;cases this
theorem aVx{o:Opr}(h:OpG o):yB fin (bL o.name::aW [58]::(o.pieces.map oO++((if o.pieces=[] then o.args.map bL else [])++(aW [45,62]::bL o.sort::qS o)))++w) n=.ok o (aW [46]::w) n:=by
 have b0:1<=(qS o).length:=by unfold qS;simp only[aI,aG,aH];omega
 have z:∀(x:aD) (az:List aD) (y:aD) (B:List Piece),jB fin ((qS o++w).length+1) ⟨x,az,y,B,0,0,[]⟩ (qS o++w) n=.ok ⟨x,az,y,B,o.prec,o.assoc,o.strict⟩ (aW [46]::w) n:=by
  intro x az y B;exact aSk _ x az y B o h (by simp only[aI];omega)
 unfold yB;simp only[aZ,bG];rw[lR h.n,bY,iZ,bY];by_cases m:o.pieces=[]
 .have e:o.pieces.map oO++((if o.pieces=[] then o.args.map bL else [])++(aW [45,62]::bL o.sort::(qS o++w)))=(o.args.map λx=>(⟨[],x⟩:Piece)).map oO++(aW [45,62]::(bL o.sort::(qS o++w))):=by
   rw[aF m,m,dI,bA,List.map_map];congr 1;apply List.map_congr_left;intro x u;show _=oO ⟨[],x⟩;unfold oO;rw[aB (aAe (h.a x u))]
  have e2:lS (o.args.map λx=>(⟨[],x⟩:Piece))=o.args:=by
   have:∀l:List aD,(∀x,x∈l->NmG x)->lS (l.map λx=>(⟨[],x⟩:Piece))=l:=by
    intro l
    induction l with
    | nil=>intro _;rfl
    | cons x r ih =>
     intro hl;have:=ih (λy hy=>hl y (cP _ hy));simp only[lS,bN]at this⊢;rw[List.filter_cons_of_pos (by simp[aAe (hl x (bU ..))]),bN,this]
   exact this _ h.a
  have S:((o.args.map λx=>(⟨[],x⟩:Piece)).any λq=>decide (q.sort=[]))=false:=by
   rw[List.any_eq_false];intro q F;obtain⟨x,u,rfl⟩:=cH.1 F;simp[aAe (h.a x u)]
  rw[e,aGm _ _ [] [] false ?a1 ?a2 (by simp only[aK,aH];have:=h.an;omega) (by rw[e2];exact h.an),bY,lR h.s,bY]
  .simp only[e2,S,bA,kH,cE,bR];rw[z];obtain⟨_,_,_,_,_,_,_⟩:=o;simp only at m;rw[m]
  .intro q F;obtain⟨x,u,rfl⟩:=cH.1 F;exact⟨.inr ⟨rfl,h.a x u⟩⟩
  .simp only[aI,aK,aG];omega
 .rcases h.p with M|⟨⟨q,U,O⟩,Z⟩
  .exact cM M m
  rw[aB m,bA,aGm _ _ [] [] false h.pg (by simp only[aI,aK,aG];omega) (gQ h.pn) (by rw[bA,<-Z];exact h.an),bY,lR h.s,bY];have S:(o.pieces.any λq=>decide (q.sort=[]))=true:=List.any_eq_true.2 ⟨q,U,by simp[O]⟩;simp only[S,bA,kI,bT];rw[z,<-Z]
theorem aUV{o:Opr}(h:FunG o):xY fin (bL o.name::aW [58]::(o.args.map bL++[aW [45,62],bL o.sort,aW [46]])++w) n=.ok o (aW [46]::w) n:=by
 unfold xY;simp only[aZ,bG,bA];rw[lR h.n,bY,iZ,bY,aL4 _ _ _ h.a (by simp only[aI,aK,aG];omega) (gQ h.an),bY,lR h.s,bY];obtain⟨m,h2,y,u⟩:=h.z;obtain⟨_,_,_,_,_,_,_⟩:=o;simp only at m h2 y u;subst m h2 y u;rfl
inductive PIt where
 | p (p:Part)
 | f (f:Fresh)
 | d (x:aD)
def PIt.K:PIt->List Tok
 | .p x=>uK x
 | .f x=>wH x
 | .d x=>vZ x
def PIt.add(r:Rul):PIt->Rul
 | .p x=>{ r with parts:=r.parts++[x.st] }
 | .f x=>{ r with new:=r.new++[x] }
 | .d x=>{ r with drop:=r.drop++[x] }
def PIt.G:PIt->Prop
 | .p x=>PartG x
 | .f x=>NewG x
 | .d x=>NmG x
def wK(r:Rul):List PIt:=r.parts.map .p++(r.new.map .f++r.drop.map .d)
theorem aGA{α:Type}(K:α->List Tok):∀(a b:List α) (m:Nat),gT K m (a++b)=gT K m a++gT K (m+a.length) b
 | [],b,m=>rfl
 | x::a,b,m=>by
  rw[aZ,gT,gT,aGA K a b,aG,bG,bG,show m+1+a.length=m+(a.length+1)by omega]
theorem aDD{α h:Type}(K:h->List Tok)(g:α->h):∀(a:List α) (m:Nat),gT K m (a.map g)=gT (λx=>K (g x)) m a
 | [],m=>rfl
 | x::a,m=>by rw[bN,gT,gT,aDD K g a]
theorem aUA(r:Rul)(T:List Tok):gT uK 0 r.parts++(gT wH r.parts.length r.new++(gT vZ (r.parts.length+r.new.length) r.drop++T))=gT PIt.K 0 (wK r)++T:=by
 unfold wK;rw[aGA,aGA,aDD,aDD,aDD,aK,aK,bG,bG,fH];rfl
theorem aUh{p:Part}(h:PartG p)(r:Rul)(z:isT [61,62] w=false):pN false fin r (uK p++w) n=.ok { r with parts:=r.parts++[p.st] } w n:=by
 unfold uK pN;simp only[aZ,bG];have O:eO (bL p.cell) [110,101,119]=false:=by rw[eK,fR];intro e;have:=h.c.r;rw[e]at this;exact this aE
 have B:eO (bL p.cell) [100,114,111,112]=false:=by rw[eK,fR];intro e;have:=h.c.r;rw[e]at this;exact this aE
 rw[O,aB aE,B,aB aE,lR h.c,bY]
 have M:∀T:List Tok,(if isT [64] ((if p.at_=[] then [] else [aW [64],bL p.at_])++aW [58]::T)=true then eU fin ((if p.at_=[] then [] else [aW [64],bL p.at_])++aW [58]::T).tail n else Rd.ok [] ((if p.at_=[] then [] else [aW [64],bL p.at_])++aW [58]::T) n)=Rd.ok p.at_ (aW [58]::T) n:=by
  intro T;by_cases y:p.at_=[]
  .rw[aF y,bA,gG,aB aE,y]
  .rw[aB y,aZ,gG,aF aE,List.tail_cons,aZ,bA,lR (h.a.resolve_left y)]
 rw[M,bY,iZ,bY,zC h.l,bY];have m:∀l,({ r with parts:=r.parts++[⟨p.cell,p.at_,p.left,l,(bL p.cell).line,(bL p.cell).col⟩] }:Rul)={ r with parts:=r.parts++[({ p with right:=l }:Part).st] }:=λl=>rfl
 rcases h.r with e|⟨u,e,F⟩
 .rw[e,xN,bA,z,aB aE,bY,m];rw[<-e]
 .rw[e,xN,xN,eH,aZ,gG,aF aE,List.tail_cons,zC F,bY,bY,m,<-e]
theorem aUU{x:PIt}(h:x.G)(r:Rul)(m:isT [61,62] w=false):pN false fin r (x.K++w) n=.ok (x.add r) w n:=by
 cases x with
 | p p=>exact aUh h r m
 | f f =>
  show pN false fin r (wH f++w) n=_;unfold wH pN;simp only[aZ,bG];rw[eK,aF aE,iZ,bY,aVe h.t h.n (by rw[gG];decide),bY,iZ,bY];rfl
 | d x =>
  show pN false fin r (vZ x++w) n=_;unfold vZ pN;simp only[aZ,bG];rw[eK,aB aE,eK,aF aE,iZ,bY,bA,lR h,bY];rfl
theorem aUT(x:PIt):∃y T,x.K=bL y::T:=by
 cases x<;>exact⟨_,_,rfl⟩
theorem aMt:∀(l:List PIt) (x:PIt) (r:Rul) (k f m:Nat),(∀y,y∈x::l->y.G)->l.length+1<=f->k+(l.length+1)<=20->isT [59] w=false->isT [61,62] w=false ->
  dK fin [59] (sX false fin) f (r,k) (x.K++(gT PIt.K (m+1) l++w)) n=.ok ((x::l).foldl PIt.add r,k+(l.length+1)) w n
 | l,x,r,k,f,m,h,U,M,F,u=>by
  obtain⟨f,rfl⟩:∃S,f=S+1:=⟨f-1,by omega⟩
  have one:∀W,isT [61,62] W=false->sX false fin (r,k) (x.K++W) n=.ok (x.add r,k+1) W n:=by
   intro W O;have B:=aUU (fin:=fin) (n:=n) (w:=W) (h x (bU ..)) r O;obtain⟨y,T,e⟩:=aUT x;rw[e,aZ]at B⊢;unfold sX;simp only;rw[aB (λh=>by omega),B,bY]
  rw[dK];cases l with
  | nil =>
   simp only[gT,bA];rw[one w u,bY,aB (by rw[F];decide)];rfl
  | cons y l =>
   simp only[aG]at U M
   have e:gT PIt.K (m+1) (y::l)++w=aW [59]::(y.K++(gT PIt.K (m+1+1) l++w)):=by
    simp only[gT,uS,Nat.zero_lt_succ,bT,aZ,bA,bG]
   rw[e,one _ (by rw[gG];decide),bY,gG,aF aE,List.tail_cons,aMt l y (x.add r) (k+1) f (m+1) (λz hz=>h z (cP _ hz)) aC aC F u,aG,show k+1+(l.length+1)=k+(l.length+1+1)by omega];rfl
termination_by l=>l.length
theorem aM2:∀(l:List Part) (r:Rul),(l.map PIt.p).foldl PIt.add r={ r with parts:=r.parts++l.map Part.st }
 | [],r=>by simp
 | x::l,r=>by rw[bN,List.foldl_cons,aM2 l];simp[PIt.add]
theorem aMA:∀(l:List Fresh) (r:Rul),(l.map PIt.f).foldl PIt.add r={ r with new:=r.new++l }
 | [],r=>by simp
 | x::l,r=>by rw[bN,List.foldl_cons,aMA l];simp[PIt.add]
theorem aM9:∀(l:List aD) (r:Rul),(l.map PIt.d).foldl PIt.add r={ r with drop:=r.drop++l }
 | [],r=>by simp
 | x::l,r=>by rw[bN,List.foldl_cons,aM9 l];simp[PIt.add]
theorem aUd{r:Rul}(h:RulG r):xQ false fin 0 0 (bL r.name::aW [58]::(gT uK 0 r.parts++(gT wH r.parts.length r.new++(gT vZ (r.parts.length+r.new.length) r.drop++(rV r.cond++[aW [46]]))))++w) n=.ok r.st (aW [46]::w) n:=by
 unfold xQ;rw[aUA];simp only[aZ,bG,bA];rw[lR h.p.n,bY,iZ,bY]
 have O:∀y,y∈wK r->y.G:=by
  intro y m;unfold wK at m;rcases cZ.1 m with m|m
  .obtain⟨x,u,rfl⟩:=cH.1 m;exact h.p.p x u
  .rcases cZ.1 m with m|m
   .obtain⟨x,u,rfl⟩:=cH.1 m;exact h.p.f x u
   .obtain⟨x,u,rfl⟩:=cH.1 m;exact h.p.d x u
 have hl:(wK r).length=r.parts.length+r.new.length+r.drop.length:=by
  unfold wK;simp only[aI,aK];omega
 have z:∀B:Rul,(wK r).foldl PIt.add B={ B with parts:=B.parts++r.parts.map Part.st,new:=B.new++r.new,drop:=B.drop++r.drop }:=by
  intro B;unfold wK;rw[List.foldl_append,List.foldl_append,aM2,aMA,aM9]
 have F:∀x,x=[59]\/x=[61,62]->isT x (rV r.cond++aW [46]::w)=false:=by
  intro x u;unfold rV;by_cases M:r.cond=[]
  .rw[aF M,bA,gG];rcases u with rfl|rfl<;>decide
  .rw[aB M,aZ,vV];rcases u with rfl|rfl<;>decide
 cases e:wK r with
 | nil=>have:=h.l1;rw[e]at hl;simp only[aH]at hl;omega
 | cons x l =>
  rw[e,aG]at hl
  have S:gT PIt.K 0 (x::l)++(rV r.cond++aW [46]::w)=x.K++(gT PIt.K (0+1) l++(rV r.cond++aW [46]::w)):=by
   simp only[gT,uS,Nat.lt_irrefl,bR,bA,bG]
  rw[S,aMt l x _ 0 _ 0 (by rw[<-e];exact O) (by have:=aK6 PIt.K l 0;simp only[aI];omega) (by have:=h.l2;omega) (F _ (.inl rfl)) (F _ (.inr rfl)),bY,aKC h.c,bY,<-e,z];rfl
end
end
section
section
variable {fin:Fault} {α:Type} {P:α->Nat->Prop}
theorem aDJ(t:Tok)(r:List Tok)(n:Nat)(h:t.free=false):∃f,eU fin (t::r) n=.bad f:=by
 unfold eU;simp only[h];exact⟨_,rfl⟩
theorem aSG(t:Tok)(r:List Tok)(n:Nat)(h:t.free=false):∃f,pQ false fin (t::r) n=.bad f:=by
 obtain⟨f,e⟩:=aDJ (fin:=fin) t r n h;unfold pQ;simp only[e];exact⟨_,rfl⟩
theorem aGW{k:List Tok->Nat->Rd α}(y u n:Nat)(h:Gl P k n)(M:∀t r n,t.free=false->∃f,k (t::r) n=.bad f):Gl (λa m=>P a m/\u<y) (λw n=>mK fin y u w n k) n:=λw O=>by
 cases w with
 | nil=>trivial
 | cons t w =>
  refine dD _ (λ_=>trivial) (λF=>?_);cases B:t.free with
  | false =>
   obtain⟨f,e⟩:=M t w n B;rw[e];trivial
  | true =>
   have:=h (t::w) O;cases e:k (t::w) n with
   | bad f=>trivial
   | ok a z m =>
    rw[e]at this;exact⟨⟨this.1,Nat.lt_of_not_le (λh=>F ⟨B,h⟩)⟩,this.2⟩
theorem aLn(n:Nat):Gl (λl m=>TmsG l/\m=n) (qT false fin) n:=λw F=>by
 refine dD _ (λ_=>?_) (λ_=>eL ⟨⟨aU _,λt h=>by cases h⟩,rfl⟩ F);refine xI (I:=λl m=>TmsG l/\m=n) (J:=λl m=>TmsG l/\m=n) (Q:=λu k t m=>(TmG t/\m=k)/\u.length<20) (λu m M w F=>?_) (λu m t U M S=>⟨⟨by simp only[aI,aG,aH];omega,λx y=>?_⟩,by omega⟩) (λ_ _ h=>h) ⟨⟨aU _,λt h=>by cases h⟩,rfl⟩ _ (uN F)
 .cases w with
  | nil=>trivial
  | cons t w =>
   refine dD _ (λO=>?_) (λO=>?_)
   .unfold wD;by_cases B:20<=u.length
    .rw[aF B];trivial
    .rw[aB B];have:=zF (fin:=fin) m (t::w) F;show(gS false fin (t::w) m).gr _;cases h:gS false fin (t::w) m with
     | bad f=>trivial
     | ok a z k =>
      rw[h]at this;exact⟨⟨this.1,by omega⟩,this.2⟩
   .obtain⟨f,e⟩:=aKu (fin:=fin) t 60 t w 0 (gQ O);unfold gS;simp only[e];trivial
 .rcases cZ.1 y with y|y
  .exact M.1.t x y
  .rw[cC.1 y];exact S.1.1
theorem aMq(n:Nat):Gl (λc m=>CelG c/\m=n) (pQ false fin) n:=λw h=>by
 cases w with
 | nil=>trivial
 | cons t w =>
  refine cU (lQ n (t::w) h) (λx m u w h=>cU (kK [58] m w h) (λ_ O h2 w h=>cU (lQ O w h) (λy F B w h=>cU (kK [61] F w h) (λ_ z U w h=>cU (zF z w h) (λi S M w h=>eL ⟨⟨u.1,B.1,M.1⟩,?_⟩ h)))));omega
theorem aIV(a b:List Piece):lS (a++b)=lS a++lS b:=by simp[lS]
structure PcI (ps:List Piece) (az:List aD) (tx:Bool):Prop where
 g:∀q,q∈ps->PcG q
 a:az=lS ps
 n:∀x,x∈az->NmG x
 t:tx=true->∃q,q∈ps/\q.sort=[]
 pn:ps.length<=20
 an:az.length<=8
theorem aGk:∀(f:Nat) (M:List Piece) (az:List aD) (F:Bool) (n:Nat),PcI M az F->Gl (λp m=>PcI p.1 p.2.1 p.2.2/\m=n) (qL fin f M az F) n
 | 0,M,az,F,n,_=>λw B=>trivial
 | f+1,M,az,F,n,y=>λw B=>by
  refine dD _ (λ_=>eL ⟨y,rfl⟩ (uN B)) (λ_=>?_);cases w with
  | nil=>trivial
  | cons t w =>
   have Z:=B t (bU ..);refine dD _ (λhk=>dD _ (λ_=>trivial) (λb0=>dD _ (λU=>?_) (λU=>dD _ (λ_=>trivial) (λh8=>?_)))) (λ_=>trivial)
   .refine aGk f _ _ _ n ⟨λq u=>?_,?_,y.n,λ_=>⟨⟨t.text,[]⟩,by simp,rfl⟩,by simp only[aI,aG,aH];omega,y.an⟩ w (rW B)
    .rcases cZ.1 u with u|u
     .exact y.g q u
     .rw[cC.1 u];rcases Z.is with⟨e,_⟩|⟨e,_⟩|⟨_,_,h⟩|⟨e,_⟩
      .omega
      .omega
      .exact⟨.inl ⟨rfl,h⟩⟩
      .omega
    .rw[aIV,<-y.a];simp[lS]
   .have S:=aCb Z (hk.resolve_left U);have O:t.text≠[]:=λe=>by have:=S.n;rw[e]at this;cases this
    refine aGk f _ _ _ n ⟨λq u=>?_,?_,λx z=>?_,λh=>?_,by simp only[aI,aG,aH];omega,by simp only[aI,aG,aH];omega⟩ w (rW B)
    .rcases cZ.1 u with u|u
     .exact y.g q u
     .rw[cC.1 u];exact⟨.inr ⟨rfl,S⟩⟩
    .rw[aIV,<-y.a];simp[lS,O]
    .rcases cZ.1 z with z|z
     .exact y.n x z
     .rw[cC.1 z];exact S
    .obtain⟨q,h1,h2⟩:=y.t h;exact⟨q,cZ.2 (.inl h1),h2⟩
theorem aB7:∀(f:Nat) (o:Opr) (n:Nat),OpG o->Gl (λo m=>OpG o/\m=n) (jB fin f o) n
 | 0,o,n,_=>λw u=>trivial
 | f+1,o,n,ho=>λw u=>by
  refine dD _ (λ_=>eL ⟨ho,rfl⟩ u) (λ_=>?_);cases w with
  | nil=>trivial
  | cons t w =>
   have u:=rW u;obtain⟨O,q2,U,Z,q5,M,S,q8,q9,z⟩:=ho;refine dD _ (λ_=>trivial) (λ_=>dD _ (λ_=>dD _ (λ_=>trivial) (λ_=>?_)) (λ_=>dD _ (λ_=>dD _ (λ_=>?_) (λ_=>trivial)) (λ_=>dD _ (λ_=>dD _ (λ_=>?_) (λ_=>trivial)) (λ_=>dD _ (λ_=>dD _ (λ_=>trivial) (λ_=>?_)) (λ_=>trivial)))))
   .refine cU (aJ2 20 n w u) (λx m B w u=>?_);obtain⟨B,rfl⟩:=B;exact aB7 f { o with prec:=x } _ ⟨O,q2,U,Z,q5,M,S,⟨aP,B.2⟩,q9,z⟩ w u
   .exact aB7 f { o with assoc:=1 } n ⟨O,q2,U,Z,q5,M,S,q8,.inr (.inl rfl),z⟩ w u
   .exact aB7 f { o with assoc:=2 } n ⟨O,q2,U,Z,q5,M,S,q8,.inr (.inr rfl),z⟩ w u
   .refine cU (kK [40] n w u) (λ_ m hm w u=>cU (xI (I:=λl k=>(∀x,x∈l->1<=x/\x<=8)/\k=n) (J:=λl k=>(∀x,x∈l->1<=x/\x<=8)/\k=n) (λb0 k hI=>aJ2 8 k) (λb0 k x k' hI hq=>⟨λy F=>?_,by omega⟩) (λ_ _ h=>h) ⟨λx B=>(by cases B),hm⟩ w u)
     (λl m2 hl w u=>cU (kK [41] m2 w u) (λ_ m3 h3 w u=>?_)))
    .rcases cZ.1 F with F|F
     .exact hI.1 y F
     .rw[cC.1 F];exact hq.1
    .obtain⟨hl,rfl⟩:=hl;subst h3;exact aB7 f { o with strict:=l } _ ⟨O,q2,U,Z,q5,M,S,q8,q9,hl⟩ w u
theorem aVK(n:Nat):Gl (λo m=>OpG o/\m=n) (yB fin) n:=λw u=>by
 refine cU (lQ n w u) (λx m1 h1 w u=>cU (kK [58] m1 w u) (λ_ m2 h2 w u=>cU (aGk _ [] [] false m2 ⟨λq z=>(by cases z),rfl,λx M=>(by cases M),λh=>(by cases h),aU _,aU _⟩ w u) (λp m3 h3 w u=>cU (lQ m3 w u) (λy S U w u=>?_))));obtain⟨⟨g1,Z,O,g4,g5,g6⟩,e3⟩:=h3;have F:S=n:=by omega
 subst F;refine aB7 _ _ _ ⟨h1.1,U.1,O,g6,?_,λq z=>?_,?_,⟨yN _,(by decide:(0:Int)<=20)⟩,.inl rfl,λn F=>by cases F⟩ w u
 .simp only;by_cases B:p.2.2=true
  .rw[aF B];exact .inr ⟨g4 B,Z⟩
  .rw[aB B];exact .inl rfl
 .simp only at z;split at z
  .exact g1 q z
  .cases z
 .simp only;split
  .exact g5
  .exact aU _
theorem aMm:∀(f:Nat) (az:List aD) (n:Nat),(∀x,x∈az->NmG x)->az.length<=8->Gl (λl m=>((∀x,x∈l->NmG x)/\l.length<=8)/\m=n) (nF fin f az) n
 | 0,az,n,_,_=>λw z=>trivial
 | f+1,az,n,F,h2=>λw z=>by
  refine dD _ (λ_=>eL ⟨⟨F,h2⟩,rfl⟩ (uN z)) (λ_=>cU (aGW 8 az.length n (lQ n) (λt r n h=>aDJ t r n h) w z) (λx m B w z=>?_));obtain⟨⟨B,rfl⟩,M⟩:=B;refine aMm f _ _ (λy u=>?_) (by simp only[aI,aG,aH];omega) w z;rcases cZ.1 u with u|u
  .exact F y u
  .rw[cC.1 u];exact B
theorem aUL(n:Nat):Gl (λo m=>FunG o/\m=n) (xY fin) n:=λw h=>by
 refine cU (lQ n w h) (λx z M w h=>cU (kK [58] z w h) (λ_ S h2 w h=>cU (aMm _ [] S (λx B=>by cases B) (aU _) w h) (λaz F u w h=>cU (lQ F w h) (λy U O w h=>eL ⟨⟨M.1,O.1,u.1.1,u.1.2,rfl,rfl,rfl,rfl⟩,?_⟩ h))));omega
def wL(r:Rul):Nat:=r.parts.length+r.new.length+r.drop.length
theorem aKe{t:Tok}(u:TokG t){x:aD}(h:eO t x=true)(m:x ∉ dR/\x≠[39]/\x≠[95]):t.kind=1/\t.text=x:=by
 simp only[eO,cT,oK,dE]at h;obtain⟨y,rfl⟩:=h;refine⟨?_,rfl⟩;rcases u.is with⟨e,_⟩|⟨e,_⟩|⟨e,_⟩|⟨_,_,h⟩
 .exact e
 .omega
 .omega
 .rcases h with h|h|h
  .exact cM h m.1
  .exact cM h m.2.1
  .exact cM h m.2.2
theorem aTD(r:Rul)(hr:RulP r)(t:Tok)(w:List Tok)(n:Nat)(B:∀u,u∈t::w->TokG u) :
  (pN false fin r (t::w) n).gr (λx m=>(RulP x/\wL x=wL r+1/\x.cond=r.cond/\(t.kind=1/\(¬ t.text∈iM\/t.text=[110,101,119]\/t.text=[100,114,111,112])))/\m=n):=by
 have ht:=B t (bU ..);obtain⟨Z,q2,q3,q4⟩:=hr;refine dD _ (λh=>?_) (λh=>dD _ (λh=>?_) (λh=>?_))
 .obtain⟨k1,k2⟩:=aKe ht h aE
  refine cU (kK [40] n w (rW B)) (λ_ m hm w B=>cU (xI (I:=λl k=>(∀x,x∈l->TmG x)/\k=n) (J:=λl k=>((∀x,x∈l->TmG x)/\l≠[])/\k=n) (λb2 k hI=>zF k) (λb2 k x k' hI hq=>⟨⟨λy F=>?_,by simp⟩,by omega⟩) (λ_ _ h=>⟨h.1.1,h.2⟩) ⟨λx U=>(by cases U),hm⟩ w B)
   (λl S hl w B=>cU (kK [41] S w B) (λ_ m3 h3 w B=>eL ⟨⟨⟨Z,q2,λf M=>?_,q4⟩,?_,rfl,k1,.inr (.inl k2)⟩,by omega⟩ B)))
  .rcases cZ.1 F with F|F
   .exact hI.1 y F
   .rw[cC.1 F];exact hq.1
  .rcases cZ.1 M with M|M
   .exact q3 f M
   .rw[cC.1 M];exact⟨hl.1.2,hl.1.1⟩
  .simp only[wL,aI,aG,aH];omega
 .obtain⟨k1,k2⟩:=aKe ht h aE;refine cU (kK [64] n w (rW B)) (λ_ m hm w B=>cU (lQ m w B) (λx S U w B=>eL ⟨⟨⟨Z,q2,q3,λy F=>?_⟩,?_,rfl,k1,.inr (.inr k2)⟩,by omega⟩ B))
  .rcases cZ.1 F with F|F
   .exact q4 y F
   .rw[cC.1 F];exact U.1
  .simp only[wL,aI,aG,aH];omega
 .cases M:t.free with
  | false =>
   obtain⟨f,e⟩:=aDJ (fin:=fin) t w n M;rw[e];trivial
  | true =>
  have b0:=aCb ht M;have k1:t.kind=1:=by simp only[Tok.free,cT,dE]at M;exact M.1
  refine cU (lQ n (t::w) B) (λx m1 h1 w B=>cU (P:=λy m=>(y=[]\/NmG y)/\m=n) (dD _ (λ_=>?_) (λ_=>eL ⟨.inl rfl,h1.2⟩ B)) (λy S h2 w B=>cU (kK [58] S w B) (λ_ m3 h3 w B=>cU (zF m3 w B) (λl m4 h4 w B =>
   cU (P:=λrs m=>(rs=[]\/∃u,rs=[u]/\TmG u)/\m=n) (dD _ (λ_=>cU (zF m4 _ (uN B)) (λu m5 h5 w B=>eL ⟨.inr ⟨u,rfl,h5.1⟩,by omega⟩ B)) (λ_=>eL ⟨.inl rfl,by omega⟩ B)) (λrs m6 h6 w B=>eL ⟨⟨⟨Z,λp O=>?_,q3,q4⟩,?_,rfl,k1,.inl b0.r⟩,h6.2⟩ B)))))
  .have:=lQ (fin:=fin) m1 _ (uN B);cases e:eU fin w.tail m1 with
   | bad f=>trivial
   | ok a z k =>
    rw[e]at this;exact⟨⟨.inr this.1.1,by have:=this.1.2;have:=h1.2;omega⟩,this.2⟩
  .rcases cZ.1 O with O|O
   .exact q2 p O
   .rw[cC.1 O];exact⟨h1.1,h2.1,h4.1,h6.1⟩
  .simp only[wL,aI,aG,aH];omega
theorem aTy(S O:Int)(n:Nat):Gl (λr m=>RulG r/\m=n) (xQ false fin S O) n:=λw u=>by
 refine cU (lQ n w u) (λx m1 h1 w u=>cU (kK [58] m1 w u) (λ_ m2 h2 w u=>cU (aDW (I:=λ(c:Rul × Nat) m=>(RulP c.1/\c.2=wL c.1/\c.2<=20)/\m=n) (J:=λ(c:Rul × Nat) m=>(RulP c.1/\c.2=wL c.1/\c.2<=20/\1<=c.2)/\m=n) [59] (λc m M w u=>?_) (λc m h=>⟨⟨h.1.1,h.1.2.1,h.1.2.2.1⟩,h.2⟩) _ (⟨x,[],[],[],[],S,O⟩,0) m2
   ⟨⟨⟨h1.1,λp B=>(by cases B),λp B=>(by cases B),λp B=>(by cases B)⟩,rfl,aU _⟩,by omega⟩ w u) (λc m3 z w u=>cU (aLn m3 w u) (λl m4 Z w u=>eL ⟨⟨?_,Z.1,?_,?_⟩,by omega⟩ u))))
 .cases w with
  | nil=>trivial
  | cons t w =>
   refine dD _ (λ_=>trivial) (λU=>cU (aTD c.1 M.1.1 t w m u) (λy m' F w u=>eL ⟨⟨F.1.1,?_,?_,?_⟩,by omega⟩ u))
   .simp only;rw[F.1.2.1,M.1.2.1]
   .simp only;have:¬ 20<=c.2:=λh=>U ⟨F.1.2.2.2,h⟩
    omega
   .simp only;omega
 .exact⟨z.1.1.n,z.1.1.p,z.1.1.f,z.1.1.d⟩
 .have:=z.1;simp only[wL]at this;simp only;omega
 .have:=z.1;simp only[wL]at this;simp only;omega
end
end
section
section
variable {fin:Fault}
theorem vP{α:Type}{P:α->Prop}{l:List α}{a:α}(h:∀x,x∈l->P x)(u:P a):∀x,x∈l++[a]->P x:=λx m=>by
 rcases cZ.1 m with m|m
 .exact h x m
 .rw[cC.1 m];exact u
theorem aAT{α:Type}{l:List α}{a:α}{n:Nat}(h:l.length<n):(l++[a]).length<=n:=by simp only[aI,aG,aH];omega
theorem aRU(d:Dfn)(hd:DfnG d)(t:Tok)(n:Nat):Gl (λd m=>DfnG d/\m=n) (nX false fin d t) n:=λw u=>by
 obtain⟨a1,a2,a3,a4,a5,a6,a7,a8,a9,z,U,Z,b2,O,S,B,F,M,b0,a20⟩:=hd;refine dD _ (λ_=>dD _ (λ_=>?_) (λ_=>trivial)) (λ_=>dD _ (λ_=>dD _ (λ_=>?_) (λ_=>trivial)) (λ_=>dD _ (λ_=>dD _ (λ_=>trivial) (λb4=>?_)) (λ_=>dD _ (λ_=>dD _ (λhk=>?_) (λ_=>trivial)) (λ_=>trivial))))
 .refine cU (lQ n w u) (λx m y w u=>eL ⟨⟨a1,a2,a3,a4,a5,a6,a7,a8,a9,z,U,Z,b2,O,S,B,F,M,.inr y.1,a20⟩,y.2⟩ u)
 .refine cU (lQ n w u) (λx m y w u=>eL ⟨⟨a1,a2,a3,a4,a5,a6,a7,a8,a9,z,U,Z,b2,O,S,B,F,M,b0,.inr y.1⟩,y.2⟩ u)
 .refine cU (aMq n w u) (λx m y w u=>eL ⟨⟨a1,a2,a3,a4,a5,a6,a7,a8,a9,z,U,vP Z y.1,aAT aC,O,S,B,F,M,b0,a20⟩,y.2⟩ u)
 .have hm:d.many=[]:=by
   rcases B with h|h
   .exact h.2
   .exact cM hk (λe=>by have:=h.1.n;rw[e]at this;cases this)
  refine cU (lQ n w u) (λx m y w u=>cU (kK [40] m w u) (λ_ m2 h2 w u =>
   cU (xI (I:=λl k=>((∀x,x∈l->CelG x)/\l.length<=12)/\k=n) (J:=λl k=>((∀x,x∈l->CelG x)/\l.length<=12/\l≠[])/\k=n) (λb3 k hI=>aGW 12 b3.length k (aMq k) (λt r n h=>aSG t r n h)) (λb3 k c k' hI hq=>⟨⟨vP hI.1.1 hq.1.1,aAT hq.2,by simp⟩,by omega⟩) (λ_ _ h=>⟨⟨h.1.1,h.1.2.1⟩,h.2⟩) ⟨⟨O,S⟩,by omega⟩ w u) (λl m3 h3 w u =>
    cU (kK [41] m3 w u) (λ_ m4 h4 w u=>eL ⟨⟨a1,a2,a3,a4,a5,a6,a7,a8,a9,z,U,Z,b2,h3.1.1,h3.1.2.1,.inr ⟨y.1,h3.1.2.2⟩,F,M,b0,a20⟩,by omega⟩ u))))
theorem aTv(d:Dfn)(hd:DfnG d)(n:Nat):Gl (λd m=>DfnG d/\m=n) (iP false fin d) n:=λw u=>by
 have b4:=hd;obtain⟨a1,a2,a3,a4,a5,a6,a7,a8,a9,F,b2,Z,B,S,U,M,O,b0,z,a20⟩:=hd;cases w with
 | nil=>trivial
 | cons t w =>
  have u:=rW u;refine cU (P:=λd m=>DfnG d/\m=n) ?_ (λd m hd w u=>cU (kK [46] m w u) (λ_ m2 h2 w u=>eL ⟨hd.1,by omega⟩ u));refine dD _ (λ_=>?_) (λ_=>dD _ (λ_=>dD _ (λ_=>trivial) (λhl=>?_)) (λ_=>dD _ (λ_=>?_) (λ_=>dD _ (λ_=>dD _ (λ_=>trivial) (λhl=>dD _ (λ_=>?_) (λ_=>?_))) (λ_=>dD _ (λ_=>dD _ (λ_=>trivial) (λhl=>?_)) (λ_=>dD _ (λ_=>dD _ (λ_=>trivial) (λhl=>?_)) (λ_=>aRU d b4 t n w u))))))
  .refine cU (xI (I:=λl k=>((∀x,x∈l->NmG x)/\l.length<=40)/\k=n) (J:=λl k=>((∀x,x∈l->NmG x)/\l.length<=40)/\k=n) (λb3 k hI=>aGW 40 b3.length k (lQ k) (λt r n h=>aDJ t r n h)) (λb3 k c k' hI hq=>⟨⟨vP hI.1.1 hq.1.1,aAT hq.2⟩,by omega⟩) (λ_ _ h=>h) ⟨⟨a2,a3⟩,rfl⟩ w u) (λl m h w u=>eL ⟨⟨a1,h.1.1,h.1.2,a4,a5,a6,a7,a8,a9,F,b2,Z,B,S,U,M,O,b0,z,a20⟩,h.2⟩ u)
  .refine cU (lQ n w u) (λx m hx w u=>cU (kK [60] m w u) (λ_ m2 h2 w u=>cU (lQ m2 w u) (λy m3 hy w u=>eL ⟨⟨a1,a2,a3,vP a4 ⟨hx.1,hy.1⟩,aAT aC,a6,a7,a8,a9,F,b2,Z,B,S,U,M,O,b0,z,a20⟩,by omega⟩ u)))
  .refine cU (xI (I:=λl k=>(∀x,x∈l->NmG x)/\k=n) (J:=λl k=>(∀x,x∈l->NmG x)/\k=n) (λb3 k hI=>lQ k) (λb3 k c k' hI hq=>⟨vP hI.1 hq.1,by omega⟩) (λ_ _ h=>h) ⟨λx hx=>(by cases hx),rfl⟩ w u) (λl m h w u=>eL ⟨⟨a1,a2,a3,a4,a5,λx hx=>?_,a7,a8,a9,F,b2,Z,B,S,U,M,O,b0,z,a20⟩,h.2⟩ u);rcases cZ.1 hx with hx|hx
   .exact a6 x hx
   .exact h.1 x hx
  .refine cU (aVK n w u) (λo m h w u=>eL ⟨⟨a1,a2,a3,a4,a5,a6,vP a7 h.1,a8,by simp only[aI,aG,aH];omega,F,b2,Z,B,S,U,M,O,b0,z,a20⟩,h.2⟩ u)
  .refine cU (aUL n w u) (λo m h w u=>eL ⟨⟨a1,a2,a3,a4,a5,a6,a7,vP a8 h.1,by simp only[aI,aG,aH];omega,F,b2,Z,B,S,U,M,O,b0,z,a20⟩,h.2⟩ u)
  .refine cU (zF n w u) (λl m h1 w u=>cU (kK [61] m w u) (λ_ m2 h2 w u=>cU (zF m2 w u) (λr m3 h3 w u=>cU (aLn m3 w u) (λc m4 h4 w u =>
    eL ⟨⟨a1,a2,a3,a4,a5,a6,a7,a8,a9,vP F ⟨h1.1,h3.1,h4.1⟩,aAT aC,Z,B,S,U,M,O,b0,z,a20⟩,by omega⟩ u))))
  .refine cU (aTy _ _ n w u) (λr m h w u=>eL ⟨⟨a1,a2,a3,a4,a5,a6,a7,a8,a9,F,b2,Z,B,S,U,M,vP O h.1,aAT aC,z,a20⟩,h.2⟩ u)
theorem aKW:∀(f:Nat) (d:Dfn) (n:Nat),DfnG d->Gl (λd _=>DfnG d) (pK false fin f d) n
 | 0,d,n,_=>λw u=>trivial
 | f+1,d,n,hd=>λw u=>by
  cases w with
  | nil=>exact eL hd (λt h=>by cases h)
  | cons t w=>exact cU (aTv d hd n (t::w) u) (λd m h w u=>aKW f d m h.1 w u)
theorem aU0{T:List Tok}(z:∀t,t∈T->TokG t){d:Dfn}{w:List Tok}{n:Nat}(h:lW false fin T=.ok d w n):DfnG d:=by
 have:(lW false fin T).gr (λd _=>DfnG d):=by
  refine cU (kK [108,97,110,103,117,97,103,101] 0 T z) (λ_ m O w u=>cU (lQ m w u) (λx B y w u=>cU (kK [46] B w u) (λ_ M F w u=>aKW _ _ _ ?_ w u)));have e:∀{α:Type} {P:α->Prop},∀x,x∈([]:List α)->P x:=λx y=>by cases y
  exact⟨y.1,e,aU _,e,aU _,e,e,e,aU _,e,aU _,e,aU _,e,aU _,.inl ⟨rfl,rfl⟩,e,aU _,.inl rfl,.inl rfl⟩
 rw[h]at this;exact this.1
end
end
mutual
theorem Tm.same_id:∀a b:Tm,a.same b=true->a=b
 | .mk k n t s l r,.mk k' n' t' s' l' r',h=>by
  simp only[Tm.same,cT,dE]at h;obtain⟨rfl,rfl,rfl,rfl,h1,h2⟩:=h;rw[aFW l l' h1,aFW r r' h2]
theorem aFW:∀a b:List Tm,sO a b=true->a=b
 | [],[],_=>rfl
 | a::l,b::r,h=>by
  simp only[sO,cT]at h;rw[Tm.same_id a b h.1,aFW l r h.2]
 | [],_::_,h=>by simp[sO]at h
 | _::_,[],h=>by simp[sO]at h
end
theorem aAI{α z:Type}{f:α->z}{r:α->α->Bool}(h:∀a b,r a b=true->f a=f b){xs ys:List α}(e:cV r xs ys=true):xs.map f=ys.map f:=by
 have hl:xs.length=ys.length:=Classical.byContradiction λhl=>by rw[qI hl]at e;cases e
 refine List.ext_getElem? λi=>?_
 rw[lO,lO];by_cases y:i<xs.length
 .obtain⟨a,m⟩:∃a,xs[i]?=some a:=⟨_,aX y⟩
  obtain⟨b,u⟩:∃b,ys[i]?=some b:=⟨_,aX aC⟩
  rw[m,u,nO,nO,h a b ((jI hl).1 e i a b m u)]
 .rw[sG aC,sG aC]
theorem xB{α:Type}{r:α->α->Bool}(h:∀a b,r a b=true->a=b){xs ys:List α}(e:cV r xs ys=true):xs=ys:=by
 have:=aAI (f:=id) h e;simpa using this
theorem aEo{xs ys:List Tm}(e:cV Tm.same xs ys=true):xs=ys:=xB Tm.same_id e
theorem aDZ{xs ys:List aD}(e:cV (λa b=>decide (a=b)) xs ys=true):xs=ys:=xB (λa b h=>sJ h) e
theorem Eqn.same_st{a b:Eqn}(h:a.same b=true):a.st=b.st:=by
 simp only[Eqn.same,cT]at h;simp only[Eqn.st,Tm.same_id _ _ h.1,Tm.same_id _ _ h.2.1,aEo h.2.2]
theorem Cel.same_st{a b:Cel}(h:a.same b=true):a.st=b.st:=by
 simp only[Cel.same,cT,dE]at h;simp only[Cel.st,h.1,h.2.1,Tm.same_id _ _ h.2.2]
theorem Part.same_st{a b:Part}(h:a.same b=true):a.st=b.st:=by
 simp only[Part.same,cT,dE]at h;simp only[Part.st,h.1,h.2.1,Tm.same_id _ _ h.2.2.1,aEo h.2.2.2]
theorem Fresh.same_eq{a b:Fresh}(h:a.same b=true):a=b:=by
 cases a;cases b;simp only[Fresh.same]at h;rw[aEo h]
theorem aVc{xs ys:List Piece}(e:cV (λa b:Piece=>decide (a.text=b.text)&&decide (a.sort=b.sort)) xs ys=true):xs=ys:=xB (λa b h=>by
 cases a;cases b;simp only[cT,dE]at h;rw[h.1,h.2]) e
theorem aVa{xs ys:List Below}(e:cV (λa b:Below=>decide (a.low=b.low)&&decide (a.high=b.high)) xs ys=true):xs=ys:=xB (λa b h=>by
 cases a;cases b;simp only[cT,dE]at h;rw[h.1,h.2]) e
theorem Opr.same_id{a b:Opr}(h:a.same b=true):a=b:=by
 cases a;cases b;simp only[Opr.same,cT,dE]at h;obtain⟨rfl,rfl,rfl,rfl,m,h2,u⟩:=h;rw[aDZ m,aVc h2,xB (λa b h=>sJ h) u]
theorem Rul.same_st{a b:Rul}(h:a.same b=true):a.st=b.st:=by
 simp only[Rul.same,cT,dE]at h;obtain⟨u,h2,z,y,m⟩:=h;simp only[Rul.st,u,aAI (f:=Part.st) (λa b h=>Part.same_st h) h2,aEo z,xB (λa b h=>Fresh.same_eq h) y,aDZ m]
theorem Sig.same_id{a b:Sig}(h:a.same b=true):a=b:=by
 cases a;cases b;simp only[Sig.same,cT]at h;obtain⟨u,h2,z,y,m⟩:=h;rw[aDZ u,aVa h2,aDZ z,xB (λa b h=>Opr.same_id h) y,xB (λa b h=>Opr.same_id h) m]
theorem Dfn.same_st{a b:Dfn}(h:a.same b=true):DSt a b:=by
 simp only[Dfn.same,cT,dE]at h;obtain⟨y,h2,B,z,m,F,u,M,O⟩:=h;exact⟨y,Sig.same_id m,aAI (λa b h=>Eqn.same_st h) F,aAI (λa b h=>Cel.same_st h) u,h2,aAI (λa b h=>Cel.same_st h) M,aAI (λa b h=>Rul.same_st h) O,B,z⟩
theorem aCu{α u:Type}{f:α->u}{xs ys:List α}(h:xs.map f=ys.map f){x:α}(m:x∈xs):∃y,y∈ys/\f y=f x:=by
 have:f x∈ys.map f:=h▸qB m;exact cH.1 this
theorem EqG.of_st{x y:Eqn}(h:y.st=x.st)(g:EqG y):EqG x:=by
 have m:y.left=x.left:=(dV Eqn.left h :);have u:y.right=x.right:=(dV Eqn.right h :);have z:y.cond=x.cond:=(dV Eqn.cond h :);exact⟨m▸g.l,u▸g.r,z▸g.c⟩
theorem CelG.of_st{x y:Cel}(h:y.st=x.st)(g:CelG y):CelG x:=by
 have m:y.name=x.name:=(dV Cel.name h :);have u:y.sort=x.sort:=(dV Cel.sort h :);have z:y.init=x.init:=(dV Cel.init h :);exact⟨m▸g.n,u▸g.s,z▸g.i⟩
theorem PartG.of_st{x y:Part}(h:y.st=x.st)(g:PartG y):PartG x:=by
 have m:y.cell=x.cell:=(dV Part.cell h :);have u:y.at_=x.at_:=(dV Part.at_ h :);have B:y.left=x.left:=(dV Part.left h :);have z:y.right=x.right:=(dV Part.right h :);exact⟨m▸g.c,u▸g.a,B▸g.l,z▸g.r⟩
theorem RulG.of_st{x y:Rul}(h:y.st=x.st)(g:RulG y):RulG x:=by
 have h2:x.parts.map Part.st=y.parts.map Part.st:=(dV Rul.parts h.symm :);have hl:=tX h2;have M:y.name=x.name:=(dV Rul.name h :);have e2:y.cond=x.cond:=(dV Rul.cond h :);have z:y.new=x.new:=(dV Rul.new h :);have u:y.drop=x.drop:=(dV Rul.drop h :);obtain⟨⟨Z,S,B,g4⟩,U,g6,m⟩:=g;rw[z,u,<-hl]at g6 m
 exact⟨⟨M▸Z,λp F=>by
  obtain⟨q,O,e⟩:=aCu h2 F;exact(S q O).of_st e,z▸B,u▸g4⟩,e2▸U,g6,m⟩
theorem DfnG.of_st{d e:Dfn}(h:DSt d e)(g:DfnG e):DfnG d:=by
 obtain⟨h1,h2,h3,U,h5,h6,h7,h8,h9⟩:=h;obtain⟨a1,a2,a3,a4,a5,a6,a7,a8,a9,z,b4,O,b0,M,b3,B,F,b2,S,a20⟩:=g;rw[<-h2]at a2 a3 a4 a5 a6 a7 a8 a9;have l3:=tX h3;have l4:=tX U;have Z:=tX h6;have l7:=tX h7;refine⟨h1▸a1,a2,a3,a4,a5,a6,a7,a8,a9,λx m=>?_,by omega,λx m=>?_,by omega,λx m=>?_,by omega,?_,λx m=>?_,by omega,h8▸S,h9▸a20⟩
 .obtain⟨y,u,e⟩:=aCu h3 m;exact(z y u).of_st e
 .obtain⟨y,u,e⟩:=aCu U m;exact(O y u).of_st e
 .obtain⟨y,u,e⟩:=aCu h6 m;exact(M y u).of_st e
 .rw[h5];refine B.imp (λh=>⟨h.1,fW (by rw[Z,h.2];rfl)⟩) (λh=>⟨h.1,λe=>h.2 (fW (by rw[<-Z,e];rfl))⟩)
 .obtain⟨y,u,e⟩:=aCu h7 m;exact(F y u).of_st e
theorem aIK{d:Dfn}(h:jQ d=true):DfnG d:=by
 unfold jQ rdS at h;rw[cT]at h;obtain⟨_,h⟩:=h;cases hl:kC dR true (lG (eD d))with
 | bad f=>rw[hl]at h;cases h
 | ok T =>
  rw[hl]at h;simp only at h;cases hd:lW false (lB (lG (eD d))) T with
  | bad f=>rw[hd]at h;cases h
  | ok e w n =>
   rw[hd]at h;exact(aU0 (aUP hl) hd).of_st (Dfn.same_st h)
section
section
variable {fin:Fault} {n:Nat} {w:List Tok}
theorem aTA{l:List aD}(h:∀x,x∈l->NmG x)(hl:l≠[])(m:l.length<=40)(d:Dfn)(hd:d.sig.sorts=[]):iP false fin d (qZ [115,111,114,116] l++w) n=.ok { d with sig:={ d.sig with sorts:=l } } w n:=by
 unfold qZ iP;rw[aB hl];simp only[aZ,bG,bA];rw[eK,aF aE,hd,aA5 (fin:=fin) (n:=n) (K:=λx=>[bL x]) (g:=λx=>x) 40 (λu y w z B=>?_) hl (gQ m) (by rw[gG];decide),bY,bY,iZ,bY]
 .simp
 .rw[aZ,bA];unfold mK;simp only;rw[aB (λh=>by omega),lR (h y z)]
theorem aRT{l:List aD}(h:∀x,x∈l->NmG x)(hl:l≠[])(d:Dfn)(hd:d.sig.values=[]):iP false fin d (qZ [118,97,108,117,101] l++w) n=.ok { d with sig:={ d.sig with values:=l } } w n:=by
 unfold qZ iP;rw[aB hl];simp only[aZ,bG,bA];rw[eK,aB aE,eK,aB aE,eK,aF aE,hd,aA5 (fin:=fin) (n:=n) (K:=λx=>[bL x]) (g:=λx=>x) l.length (λm y w u z=>lR (h y u)) hl bJ (by rw[gG];decide),bY,bY,iZ,bY];simp
theorem aS2{x:Below}(h:NmG x.low/\NmG x.high)(d:Dfn)(hd:d.sig.below.length<200):iP false fin d (aAb x++w) n=.ok { d with sig:={ d.sig with below:=d.sig.below++[x] } } w n:=by
 unfold aAb iP;simp only[aZ,bG,bA];rw[eK,aB aE,eK,aF aE,aB aC,lR h.1,bY,iZ,bY,lR h.2,bY,bY,iZ,bY]
theorem aVD{x:Opr}(h:OpG x)(d:Dfn)(hd:d.sig.ops.length+d.sig.funs.length<200):iP false fin d (vC x++w) n=.ok { d with sig:={ d.sig with ops:=d.sig.ops++[x] } } w n:=by
 unfold vC iP;rw[aZ];simp only;rw[eK,aB aE,eK,aB aE,eK,aB aE,eK,aF (.inl aE),aB aC,xE,aF rfl,aVx h,bY,bY,iZ,bY]
theorem aU9{x:Opr}(h:FunG x)(d:Dfn)(hd:d.sig.ops.length+d.sig.funs.length<200):iP false fin d (uT x++w) n=.ok { d with sig:={ d.sig with funs:=d.sig.funs++[x] } } w n:=by
 unfold uT iP;rw[aZ];simp only;rw[eK,aB aE,eK,aB aE,eK,aB aE,eK,eK,aF (.inr aE),aB aC,xE,aB aE,aUV h,bY,bY,iZ,bY]
theorem aVr{x:Eqn}(h:EqG x)(d:Dfn)(hd:d.eqs.length<300):iP false fin d (uU x++w) n=.ok { d with eqs:=d.eqs++[x.st] } w n:=by
 unfold uU iP;simp only[aZ,bG,bA];rw[eK,aB aE,eK,aB aE,eK,aB aE,eK,eK,aB aE,eK,aF aE,aB aC,zC h.l,bY,iZ,bY,zC h.r,bY,aKC h.c,bY,bY,iZ,bY];rfl
theorem aTS{x:Rul}(h:RulG x)(d:Dfn)(hd:d.rules.length<300):iP false fin d (uM x++w) n=.ok { d with rules:=d.rules++[x.st] } w n:=by
 unfold uM iP;rw[aZ];simp only;rw[eK,aB aE,eK,aB aE,eK,aB aE,eK,eK,aB aE,eK,aB aE,eK,aF aE,aB aC,show(bL [114,117,108,101]).line=0 from rfl,show(bL [114,117,108,101]).col=0 from rfl,aUd h,bY,bY,iZ,bY]
theorem aDS(k:aD)(T:List Tok)(d:Dfn)(m:k=[115,116,97,114,116]\/k=[119,97,116,99,104]\/k=[99,101,108,108]\/k=[109,97,110,121]){u:Dfn}{W:List Tok}(h:nX false fin d (bL k) T n=.ok u (aW [46]::W) n):iP false fin d (bL k::T) n=.ok u W n:=by
 unfold iP;simp only
 rw[eK,aB (by rcases m with rfl|rfl|rfl|rfl<;>decide),eK,aB (by rcases m with rfl|rfl|rfl|rfl<;>decide),eK,aB (by rcases m with rfl|rfl|rfl|rfl<;>decide),eK,eK,aB (by rcases m with rfl|rfl|rfl|rfl<;>decide),
  eK,aB (by rcases m with rfl|rfl|rfl|rfl<;>decide),eK,aB (by rcases m with rfl|rfl|rfl|rfl<;>decide),h,bY,iZ,bY]
theorem aTa{x:Cel}(h:CelG x)(d:Dfn)(hd:d.once.length<12):iP false fin d (xS x++w) n=.ok { d with once:=d.once++[x.st] } w n:=by
 unfold xS;rw[aZ];refine aDS _ _ d aE ?_;unfold nX;simp only[bG,aZ,bA];rw[eK,aB aE,eK,aB aE,eK,aF aE,aB aC,aLQ h,bY]
theorem aSX{x:aD}(h:NmG x)(d:Dfn)(hd:d.start=[]):iP false fin d (qX [115,116,97,114,116] x++w) n=.ok { d with start:=x } w n:=by
 unfold qX;rw[aB (aAe h),aZ];refine aDS _ _ d aE ?_;unfold nX;simp only[bG,aZ,bA];rw[eK,aF aE,aF hd,lR h,bY]
theorem aR9{x:aD}(h:NmG x)(d:Dfn)(hd:d.watch=[]):iP false fin d (qX [119,97,116,99,104] x++w) n=.ok { d with watch:=x } w n:=by
 unfold qX;rw[aB (aAe h),aZ];refine aDS _ _ d aE ?_;unfold nX;simp only[bG,aZ,bA];rw[eK,aB aE,eK,aF aE,aF hd,lR h,bY]
theorem aTf{k:aD}{l:List Cel}(z:NmG k)(h:∀x,x∈l->CelG x)(hl:l≠[])(B:l.length<=12)(d:Dfn)(hd:d.kind=[])(m:d.many=[]):iP false fin d (aAh k l++w) n=.ok { d with kind:=k,many:=l.map Cel.st } w n:=by
 unfold aAh;rw[aB (aAe z),aZ];refine aDS _ _ d aE ?_;unfold nX;simp only[bG,aZ,bA]
 rw[eK,aB aE,eK,aB aE,eK,aB aE,eK,aF aE,aF hd,lR z,bY,iZ,bY,m,
  aA5 (fin:=fin) (n:=n) (K:=uG) (g:=Cel.st) 12 (λF y w M O=>?_) hl (gQ B) (by rw[gG];decide),bY,iZ,bY]
 .rfl
 .have u:=aLQ (fin:=fin) (n:=n) (w:=w) (h y M);unfold uG at u⊢;rw[aZ]at u⊢;unfold mK;simp only;rw[aB (λh=>by omega),u]
end
def Stg(fin:Fault)(d:Dfn)(w:List Tok)(m:Dfn)(w':List Tok):Prop:=∀f n,w.length+1<=f->∃h,w'.length+1<=h/\pK false fin f d w n=pK false fin h m w' n
section
variable {fin:Fault}
theorem Stg.refl(d:Dfn)(w:List Tok):Stg fin d w d w:=λf n h=>⟨f,h,rfl⟩
theorem Stg.trans{d d1 u:Dfn}{w m w2:List Tok}(h:Stg fin d w d1 m)(g:Stg fin d1 m u w2):Stg fin d w u w2:=λf n y=>by
 obtain⟨B,M,F⟩:=h f n y;obtain⟨f2,h2,z⟩:=g B n M;exact⟨f2,h2,by rw[F,z]⟩
theorem aLv{d m:Dfn}{K w:List Tok}(h:∀n,iP false fin d (K++w) n=.ok m w n)(B:1<=K.length):Stg fin d (K++w) m w:=λf n y=>by
 obtain⟨f,rfl⟩:∃z,f=z+1:=⟨f-1,by omega⟩
 refine⟨f,by simp only[aI]at y;omega,?_⟩;have u:=h n;cases K with
 | nil=>simp at B
 | cons t T =>
  rw[aZ]at u⊢;rw[pK,u,bY]
theorem aCd{d h:Dfn}{K w:List Tok}{c:Prop} [Decidable c] (y:c->K=[]/\h=d) (h2:¬ c->(∀n,iP false fin d (K++w) n=.ok h w n)/\1<=K.length):Stg fin d (K++w) h w:=by
 by_cases m:c
 .obtain⟨u,z⟩:=y m;rw[u,z];exact Stg.refl _ _
 .exact aLv (h2 m).1 (h2 m).2
theorem Stg.flat{α:Type}{K:α->List Tok}(u:List α->Dfn){l:List α}(h:∀pre x,x∈l->pre.length<l.length->∀w n,iP false fin (u pre) (K x++w) n=.ok (u (pre++[x])) w n)(y:∀x,1<=(K x).length)(w:List Tok):Stg fin (u []) (l.flatMap K++w) (u l) w:=by
 have:∀m pre,l=pre++m->Stg fin (u pre) (m.flatMap K++w) (u l) w:=by
  intro m
  induction m with
  | nil=>intro pre e;rw[eH]at e;rw[e];exact Stg.refl _ _
  | cons x r z =>
   intro pre e;rw[kG,bG];exact(aLv (λn=>h pre x (by rw[e];simp) (by rw[e];simp) _ n) (y x)).trans (z (pre++[x]) (by rw[e,bG];rfl))
 exact this l [] rfl
def tM(u:aD)(O:List aD)(y:List Below)(F:List aD)(op M:List Opr)(eq:List Eqn)(S:List Cel)(B:aD)(h:List Cel)(st z:aD)(m:List Rul):Dfn:=⟨u,⟨O,y,op,M,F⟩,eq,S,B,h,m,st,z⟩
theorem aRW{d:Dfn}(h:DfnG d):Stg fin { gY with name:=d.name } (xL d) d.st []:=by
 have e:xL d=qZ [115,111,114,116] d.sig.sorts++(d.sig.below.flatMap aAb++(qZ [118,97,108,117,101] d.sig.values++(d.sig.ops.flatMap vC++(d.sig.funs.flatMap uT++(d.eqs.flatMap uU++(d.once.flatMap xS++(aAh d.kind d.many++(qX [115,116,97,114,116] d.start++(qX [119,97,116,99,104] d.watch++(d.rules.flatMap uM++[])))))))))):=by
  unfold xL aH1;simp only[bG,eH]
 rw[e];refine Stg.trans (d1:=tM d.name d.sig.sorts [] [] [] [] [] [] [] [] [] [] []) (aCd (c:=d.sig.sorts=[]) (λc=>?_) (λc=>⟨λn=>aTA h.so c h.son _ rfl,?_⟩)) ?_
 .rw[c];exact⟨rfl,rfl⟩
 .unfold qZ;rw[aB c];exact Nat.succ_pos _
 refine Stg.trans (Stg.flat (K:=aAb) (λl=>tM d.name d.sig.sorts l [] [] [] [] [] [] [] [] [] []) (λpre x m y w n=>aS2 (h.be x m) _ (by have:=h.ben;show pre.length<200;omega)) (λx=>by unfold aAb;exact Nat.succ_pos _) _) ?_;refine Stg.trans (d1:=tM d.name d.sig.sorts d.sig.below d.sig.values [] [] [] [] [] [] [] [] []) (aCd (c:=d.sig.values=[]) (λc=>?_) (λc=>⟨λn=>aRT h.va c _ rfl,?_⟩)) ?_
 .rw[c];exact⟨rfl,rfl⟩
 .unfold qZ;rw[aB c];exact Nat.succ_pos _
 refine Stg.trans (Stg.flat (K:=vC) (λl=>tM d.name d.sig.sorts d.sig.below d.sig.values l [] [] [] [] [] [] [] []) (λpre x m y w n=>aVD (h.op x m) _ (by have:=h.on;show pre.length+0<200;omega)) (λx=>by unfold vC;exact Nat.succ_pos _) _) ?_;refine Stg.trans (Stg.flat (K:=uT) (λl=>tM d.name d.sig.sorts d.sig.below d.sig.values d.sig.ops l [] [] [] [] [] [] []) (λpre x m y w n=>aU9 (h.fu x m) _ (by have:=h.on;show d.sig.ops.length+pre.length<200;omega)) (λx=>by unfold uT;exact Nat.succ_pos _) _) ?_;refine Stg.trans (Stg.flat (K:=uU) (λl=>tM d.name d.sig.sorts d.sig.below d.sig.values d.sig.ops d.sig.funs (l.map Eqn.st) [] [] [] [] [] []) (λpre x m y w n=>by rw[cN];exact aVr (h.eq x m) _ (by have:=h.eqn;show(pre.map Eqn.st).length<300;rw[aK];omega)) (λx=>by unfold uU;exact Nat.succ_pos _) _) ?_;refine Stg.trans (Stg.flat (K:=xS) (λl=>tM d.name d.sig.sorts d.sig.below d.sig.values d.sig.ops d.sig.funs (d.eqs.map Eqn.st) (l.map Cel.st) [] [] [] [] []) (λpre x m y w n=>by rw[cN];exact aTa (h.ce x m) _ (by have:=h.cen;show(pre.map Cel.st).length<12;rw[aK];omega)) (λx=>by unfold xS;exact Nat.succ_pos _) _) ?_;refine Stg.trans (d1:=tM d.name d.sig.sorts d.sig.below d.sig.values d.sig.ops d.sig.funs (d.eqs.map Eqn.st) (d.once.map Cel.st) d.kind (d.many.map Cel.st) [] [] []) (aCd (c:=d.kind=[]) (λc=>?_) (λc=>?_)) ?_
 .rcases h.ki with⟨u,z⟩|⟨u,_⟩
  .rw[u,z];exact⟨rfl,rfl⟩
  .exact cM c (aAe u)
 .rcases h.ki with⟨u,_⟩|⟨u,z⟩
  .exact cM u c
  .exact⟨λn=>aTf u h.ma z h.man _ rfl rfl,by unfold aAh;rw[aB c];exact Nat.succ_pos _⟩
 refine Stg.trans (d1:=tM d.name d.sig.sorts d.sig.below d.sig.values d.sig.ops d.sig.funs (d.eqs.map Eqn.st) (d.once.map Cel.st) d.kind (d.many.map Cel.st) d.start [] []) (aCd (c:=d.start=[]) (λc=>?_) (λc=>⟨λn=>aSX (h.st.resolve_left c) _ rfl,?_⟩)) ?_
 .rw[c];exact⟨rfl,rfl⟩
 .unfold qX;rw[aB c];exact Nat.succ_pos _
 refine Stg.trans (d1:=tM d.name d.sig.sorts d.sig.below d.sig.values d.sig.ops d.sig.funs (d.eqs.map Eqn.st) (d.once.map Cel.st) d.kind (d.many.map Cel.st) d.start d.watch []) (aCd (c:=d.watch=[]) (λc=>?_) (λc=>⟨λn=>aR9 (h.wa.resolve_left c) _ rfl,?_⟩)) ?_
 .rw[c];exact⟨rfl,rfl⟩
 .unfold qX;rw[aB c];exact Nat.succ_pos _
 exact Stg.flat (K:=uM) (λl=>tM d.name d.sig.sorts d.sig.below d.sig.values d.sig.ops d.sig.funs (d.eqs.map Eqn.st) (d.once.map Cel.st) d.kind (d.many.map Cel.st) d.start d.watch (l.map Rul.st)) (λpre x m y w n=>by rw[cN];exact aTS (h.ru x m) _ (by have:=h.run;show(pre.map Rul.st).length<300;rw[aK];omega)) (λx=>by unfold uM;exact Nat.succ_pos _) _
theorem aEk{d:Dfn}(h:DfnG d):lW false fin (uQ d)=.ok d.st [] 0:=by
 unfold lW uQ
 have u:gP fin [108,97,110,103,117,97,103,101] (bL [108,97,110,103,117,97,103,101]::bL d.name::aW [46]::xL d) 0=.ok () (bL d.name::aW [46]::xL d) 0:=by
  unfold gP;rw[vV,aF aE,List.tail_cons]
 rw[u,bY,lR h.n,bY,iZ,bY];obtain⟨m,y,h2⟩:=aRW (fin:=fin) h ((xL d).length+1) 0 (aV _);rw[h2];obtain⟨f,rfl⟩:∃f,m=f+1:=⟨m-1,by omega⟩
 rw[pK]
end
theorem aNg{d:Dfn}:DSt d d.st:=by
 have u:Eqn.st ∘ Eqn.st=Eqn.st:=rfl;have h:Cel.st ∘ Cel.st=Cel.st:=rfl;have m:Part.st ∘ Part.st=Part.st:=rfl
 have y:Rul.st ∘ Rul.st=Rul.st:=by
  funext r;show({ r with parts:=(r.parts.map Part.st).map Part.st,line:=0,col:=0 }:Rul)={ r with parts:=r.parts.map Part.st,line:=0,col:=0 };rw[List.map_map,m]
 exact⟨rfl,rfl,by show _=(d.eqs.map Eqn.st).map Eqn.st;rw[List.map_map,u],by show _=(d.once.map Cel.st).map Cel.st;rw[List.map_map,h],rfl,by show _=(d.many.map Cel.st).map Cel.st;rw[List.map_map,h],by show _=(d.rules.map Rul.st).map Rul.st;rw[List.map_map,y],rfl,rfl⟩
theorem DSt.trans{a b c:Dfn}(h:DSt a b)(g:DSt b c):DSt a c:=⟨h.name.trans g.name,h.sig.trans g.sig,h.eqs.trans g.eqs,h.once.trans g.once,h.kind.trans g.kind,h.many.trans g.many,h.rules.trans g.rules,h.start.trans g.start,h.watch.trans g.watch⟩
theorem aUm{d:Dfn}(h:DfnG d):rdS d=true:=by
 obtain⟨F,y,h2⟩:=aPs h;unfold rdS;rw[y];rcases aGb (a1:=0) (b1:=0) (f2:=lB (lG (eD d))) h2 with⟨f,_,e⟩|⟨z,w,n,B,w',e,m,u⟩
 .rw[aEk h]at e;cases e
 .rw[aEk h]at e;cases e;simp only[m];exact(aNg.trans (Dfn.same_st u)).same
end
theorem aQM{x:aD}(h:dT x=true):rS x=false:=by
 obtain⟨c,r,e,y,h2,z⟩:=aKl h;cases m:rS x with
 | false=>rfl
 | true =>
  simp only[rS,cT,dE]at m;have u:=bZ m.2.1;rw[e]at u;have:=jF.1 h2 _ u;revert this;decide
theorem aUb{x:aD}(h:dT x=true):aCB x=true:=by
 unfold aCB;rw[aQM h,aB aE];exact h
theorem aKM{S:aD}(u:dT S=true){t:Tm}(h:wC S t.rest):t.shR S=true:=by
 rcases h with e|⟨x,e,m,_⟩
 .unfold Tm.shR;rw[e]
 .unfold Tm.shR;rw[e];simp[Tm.shV,Tm.leaf,Tm.kind,Tm.kids,Tm.rest,Tm.text,Tm.sort,Tm.n,m,u]
theorem Gd.shape{t:Tm}(h:Gd t):t.shape=true:=by
 cases h with
 | int n M h2=>simp[Tm.shape,Tm.leaf,aBj,Tm.kind,Tm.kids,Tm.rest,Tm.text,Tm.sort,Tm.n,M,h2]
 | bool n h=>rcases h with rfl|rfl<;>simp[Tm.shape,Tm.leaf,Tm.kind,Tm.kids,Tm.rest,Tm.text,Tm.sort,Tm.n]
 | text x h=>simp[Tm.shape,Tm.leaf,Tm.kind,Tm.kids,Tm.rest,Tm.text,Tm.sort,Tm.n,h]
 | id x h m=>simp[Tm.shape,Tm.leaf,Tm.kind,Tm.kids,Tm.rest,Tm.text,Tm.sort,Tm.n,h]
 | app x u h m hl z=>simp[Tm.shape,Tm.leaf,Tm.kind,Tm.kids,Tm.rest,Tm.text,Tm.sort,Tm.n,aUb h,hl]
 | opn x h=>rcases h with rfl|rfl<;>decide
 | var x s h m h2 F=>simp[Tm.shape,Tm.shV,Tm.leaf,Tm.kind,Tm.kids,Tm.rest,Tm.text,Tm.sort,Tm.n,h,h2]
 | list u y z m =>
  have:=aKM (t:=.mk 7 0 [] [] u y) aE m;simp[Tm.shape,Tm.kind,Tm.text,Tm.sort,Tm.n];exact this
 | map u y B z m =>
  have:=aKM (t:=.mk 8 0 [] [] u y) aE m;simp[Tm.shape,Tm.kind,Tm.text,Tm.sort,Tm.n,Tm.kids,B];exact this
theorem Gd.kid{t:Tm}(h:Gd t):∀x,x∈t.kids->Gd x:=by
 cases h with
 | app x u h y hl m=>exact m
 | list u B m y=>exact m
 | map u B F m y=>exact m
 | _=>intro x z;cases z
theorem aLE:∀(k:Nat) (t:Tm) (m n:Nat),Gd t->fM k t m=some n->Tm.val k t m=some n
 | 0,_,_,_,_,h=>by cases h
 | k+1,t,m,n,z,h=>by
  unfold Tm.val;have y:=z.kid;rw[z.shape,aF rfl];cases t with
  | mk a b c d u O =>
   simp only[fM,Tm.kids,Tm.rest]at h y⊢;split at h
   .rename_i h2;rw[aF h2];cases hl:eM (fM k) u (m+1)with
    | none=>rw[hl]at h;cases h
    | some c =>
     rw[hl]at h;obtain⟨_,F⟩:=aDC (P:=λ_=>True) (g:=Tm.val k) u (m+1) c (λx a b B M=>⟨trivial,aLE k x a b (y x B) M⟩) hl;rw[F];exact h
   .cases h
theorem TmG.val{t:Tm}(h:TmG t):gE t=true:=by
 obtain⟨m,u⟩:=h.m;unfold gE;rw[aLE 60 t 0 m h.g u];rfl
theorem aSq{d:Dfn}(h:DfnG d):∀t,t∈jK d->TmG t:=by
 have z:∀c,CelG c->∀t,t∈lZ c->TmG t:=by
  intro c z t m;simp only[lZ,cC]at m;rw[m];exact z.i
 intro t m;simp only[jK,cZ,List.mem_flatMap]at m;rcases m with⟨e,y,m⟩|⟨c,y,m⟩|⟨r,y,m⟩
 .have F:=h.eq e y;simp only[jL,cZ,eA,List.mem_nil_iff,eS]at m;rcases m with(rfl|rfl)|m
  .exact F.l
  .exact F.r
  .exact F.c.t t m
 .rcases y with y|y
  .exact z c (h.ce c y) t m
  .exact z c (h.ma c y) t m
 .have B:=h.ru r y;simp only[iW,kD,cZ,List.mem_flatMap,eA,List.mem_nil_iff,eS]at m;rcases m with⟨p,S,m⟩|m|⟨f,O,m⟩
  .have M:=B.p.p p S;rcases m with rfl|m
   .exact M.l
   .rcases M.r with e|⟨u,e,U⟩
    .rw[e]at m;cases m
    .rw[e,cC]at m;rw[m];exact U
  .exact B.c.t t m
  .exact(B.p.f f O).t t m
theorem aQv{d:Dfn}(h:DfnG d):jP d=true:=by
 have y:(jK d).all gE=true:=jF.2 λt u=>(aSq h t u).val
 have h2:d.rules.all wF=true:=jF.2 λr m=>by
  have:=(h.ru r m).l2;have:=(h.ru r m).c.n;simp only[wF,cT,dE];omega
 simp only[jP,y,h2,h.eqn,h.run,h.cen,h.man,h.on,tR,Bool.and_self]
theorem aQe{d:Dfn}(h:DfnG d):jQ d=true:=by
 rw[jQ,aQv h,aUm h];rfl
def aAj:List Wd->List aD
 | []=>[]
 | [_]=>[[10]]
 | _::v::r=>(if v.2=true then [] else [32])::aAj (v::r)
def lnT:List Wd->aD
 | []=>[]
 | w::r=>w.1++(kO r++[10])
theorem aGr{t:Tok}(h:TokG t)(y:t.kind=1\/t.kind=2){x:aD}(m:x∈tD\/x=[58]\/x=[45]):t.word≠x:=by
 obtain⟨c,u,h2,_⟩:=aJz h y;intro e;rw[e]at u;simp only[tD,eA,pF,eS]at m;rcases m with(rfl|rfl|rfl|rfl|rfl)|rfl|rfl<;>(cases u;revert h2;decide)
theorem aLx:∀(B:List Wd) (K:List Tok) (Q:Lt),B≠[]->Ch B->(∀a,B.getLast?=some a->a.1≠[45])->bD B=tw K->AG K->xX Q ->
  xX (K.zip (aAj B)++Q)/\eN (K.zip (aAj B)++Q)=lnT B++eN Q/\(K.zip (aAj B)++Q).map (·.1)=K++Q.map (·.1)
 | [],_,_,h,_,_,_,_,_=>cM rfl h
 | [w],K,Q,_,_,hl,m,y,U => by
  match K,m,y with
  | [],m,_=>cases m
  | _::_::_,m,_=>have:=dV List.length m;simp[bD,tw]at this
  | [t],m,y =>
   have e:w.1=t.word:=(List.cons.inj m).1;refine⟨⟨y t (bU ..),.inr (.inr rfl),λh4 hm=>?_,λh=>(by cases h),U⟩,?_,rfl⟩
   .have ew:t.word=[45]:=by unfold Tok.word;rw[h4,aB aE,aB aE];exact hm
    exact cM (e.trans ew) (hl w rfl)
   .show t.word++([10]++eN Q)=(w.1++([]++[10]))++eN Q;rw[e,bG];rfl
 | w::v::r,K,Q,_,Z,hl,m,y,U=>by
  match K,m,y with
  | [],m,_=>cases m
  | [_],m,_=>have:=dV List.length m;simp[bD,tw]at this
  | t::u::K,m,y =>
   have e:w.1=t.word:=(List.cons.inj m).1;have F:bD (v::r)=tw (u::K):=(List.cons.inj m).2;have e2:v.1=u.word:=(List.cons.inj F).1;have S:=y t (bU ..);obtain⟨g1,g2,g3⟩:=aLx (v::r) (u::K) Q bJ Z.2 (λa ha=>hl a (by rw[List.getLast?_cons_cons];exact ha)) F (λx hx=>y x (cP _ hx)) U;refine⟨⟨S,?_,λh4 hm=>?_,λh0 hk=>?_,g1⟩,?_,?_⟩
   .show(if _ then _ else _:aD)=_\/_;split
    .exact .inl rfl
    .exact .inr (.inl rfl)
   .have ew:t.word=[45]:=by unfold Tok.word;rw[h4,aB aE,aB aE];exact hm
    exact aF (Z.1.2 (e.trans ew))
   .have O:v.2=true:=by
     have M:(if v.2=true then [] else [32]:aD)=[]:=h0;by_cases O:v.2=true
     .exact O
     .rw[aB O]at M;cases M
    have hn:v.1∈xV\/v.1=[40]\/v.1=[58]:=by
     rcases Z.1.1 O with h|h|h|h
     .exact cM e.symm (aGr S hk (.inl h))
     .exact cM e.symm (aGr S hk (.inr (.inl h)))
     .exact cM e.symm (aGr S hk (.inr (.inr h)))
     .exact h
    show aHx (eN ((u::K).zip (aAj (v::r))++Q));rw[g2];show aHx ((v.1++(kO r++[10]))++eN Q);simp only[xV,eA,pF,eS]at hn;intro c z hz;rcases hn with(h|h|h|h|h|h|h)|h|h<;>(rw[h]at hz;cases hz;decide)
   .show t.word++((if v.2=true then [] else [32])++eN ((u::K).zip (aAj (v::r))++Q))=_;rw[g2,<-e];simp only[lnT,kO,kG,bG]
   .show t::((u::K).zip (aAj (v::r))++Q).map (·.1)=_;rw[g3];rfl
theorem aKH:∀(u:List (List Wd)) (K:List Tok),(∀m,m∈u->m≠[]/\Wk m)->dN u=tw K->AG K->∃P:Lt,P.map (·.1)=K/\eN P=iV u/\xX P
 | [],K,_,B,_=>⟨[],by simpa [dN,tw]using B.symm,rfl,trivial⟩
 | m::u,K,h,B,M=>by
  have e:dN (m::u)=bD m++dN u:=rfl;rw[e]at B;obtain⟨U,K2,rfl,h1,h2⟩:=List.map_eq_append_iff.1 B.symm;obtain⟨P,Z,p2,p3⟩:=aKH u K2 (λx y=>h x (cP _ y)) h2.symm (λx y=>M x (List.mem_append_right _ y));obtain⟨z,F⟩:=h m (bU ..);obtain⟨g1,S,O⟩:=aLx m U P z F.ch F.l h1.symm (λx y=>M x (List.mem_append_left _ y)) p3;refine⟨_,by rw[O,Z],?_,g1⟩;rw[S,p2]
  have:lnT m=kO m++[10]:=by
   cases m with
   | nil=>exact cM rfl z
   | cons w r =>
    have:=F.f w rfl;simp only[lnT,kO,kG,this,bT,bA,bG]
  rw[this];rfl
theorem aQi{d:Dfn}(h:DfnG d):∃m,kC dR true (iV (eD d))=.ok m/\Mv (uQ d) m:=by
 obtain⟨P,F,M,B⟩:=aKH (eD d) (uQ d) (λu y=>⟨aD7 d u y,(aJs h).1 u y⟩) (aMc h) (aM1 h);obtain⟨m,z,t2⟩:=aMo B;rw[F]at t2;rw[M]at z;exact⟨m,z,t2⟩
theorem aQN{d:Dfn}(h:DfnG d)(hl:(iV (eD d)).length<=20000):∃x,sZ (iV (eD d))=(x,Fault.none)/\DSt d x:=by
 obtain⟨F,z,h2⟩:=aQi h;unfold sZ aHC;rw[aB aC,z];rcases aGb (a1:=0) (b1:=0) (f2:=lB (iV (eD d))) h2 with⟨f,_,e⟩|⟨B,w,n,u,w',e,m,y⟩
 .rw[aEk h]at e;cases e
 .rw[aEk h]at e;cases e;refine⟨u,?_,aNg.trans (Dfn.same_st y)⟩;simp only[m]
theorem aMl{a b:Dfn}(h:DSt a b):eD b=eD a:=by
 have z:∀l:List Eqn,l.map rE=(l.map Eqn.st).map rE:=λl=>by rw[List.map_map];rfl
 have y:∀l:List Cel,l.map (λc=>aJ (gX (aJ [] [99,101,108,108]) c) [46])=(l.map Cel.st).map (λc=>aJ (gX (aJ [] [99,101,108,108]) c) [46]):=λl=>by rw[List.map_map];rfl
 have B:∀(l:List Cel) (b:Bool) (c:List Wd),dL gX b c l=dL gX b c (l.map Cel.st):=by
  intro l
  induction l with
  | nil=>intro b c;rfl
  | cons x r m=>intro b c;rw[bN,dL,dL,m];rfl
 have F:∀(l:List Part) (n:Nat) (c:List Wd),eZ jV n c l=eZ jV n c (l.map Part.st):=by
  intro l
  induction l with
  | nil=>intro b c;rfl
  | cons x r m=>intro b c;rw[bN,eZ,eZ,m];rfl
 have M:∀r:Rul,mX r=mX r.st:=λr=>by
  unfold mX;simp only[];rw[F r.parts];simp only[Rul.st,aK]
 have u:∀l:List Rul,l.map mX=(l.map Rul.st).map mX:=λl=>by rw[List.map_map];exact List.map_congr_left λr _=>M r
 unfold eD;rw[h.name,h.sig,z a.eqs,z b.eqs,h.eqs,y a.once,y b.once,h.once,h.kind,B a.many,B b.many,h.many,h.start,h.watch,u a.rules,u b.rules,h.rules]
theorem aTE{a b:Dfn}(h:DSt a b):cX b.cs=cX a.cs:=by
 have y:∀l:List Eqn,bI (l.map Eqn.enc)=bI ((l.map Eqn.st).map Eqn.enc):=by
  intro l
  induction l with
  | nil=>rfl
  | cons x r m=>rw[bN,bN,bN,bI,bI,m,vR,vR];rfl
 have u:∀l:List Cel,bI (l.map Cel.enc)=bI ((l.map Cel.st).map Cel.enc):=by
  intro l
  induction l with
  | nil=>rfl
  | cons x r m=>rw[bN,bN,bN,bI,bI,m,xF,xF];rfl
 have B:∀l:List Part,bI (l.map Part.enc)=bI ((l.map Part.st).map Part.enc):=by
  intro l
  induction l with
  | nil=>rfl
  | cons x r m=>rw[bN,bN,bN,bI,bI,m,xA,xA];rfl
 have z:∀l:List Rul,bI (l.map Rul.enc)=bI ((l.map Rul.st).map Rul.enc):=by
  intro l
  induction l with
  | nil=>rfl
  | cons x r m =>
   rw[bN,bN,bN,bI,bI,m,rQ,rQ,B x.parts];rfl
 rw[tW,tW,h.name,h.sig,y a.eqs,y b.eqs,h.eqs,u a.once,u b.once,h.once,h.kind,u a.many,u b.many,h.many,h.start,h.watch,z a.rules,z b.rules,h.rules]
theorem aRZ{d:Dfn}(y:∀o,o∈d.sig.ops->OprI o)(B:cX d.cs<=1048576)(u:jQ d=true)(hl:(iV (eD d)).length<=20000) :
  ∃x,sZ (iV (eD d))=(x,Fault.none)/\x.same d=true/\DfnB x/\uL x=(iV (eD d),0)/\eD x=eD d:=by
 have h:=aIK u;obtain⟨x,z,h2⟩:=aQN h hl;have m:DSt x d:=⟨h2.name.symm,h2.sig.symm,h2.eqs.symm,h2.once.symm,h2.kind.symm,h2.many.symm,h2.rules.symm,h2.start.symm,h2.watch.symm⟩;refine⟨x,z,m.same,aGl (λo ho=>y o (by rw[h2.sig];exact ho)) (by rw[aTE h2];omega),?_,aMl h2⟩;unfold uL;rw[aQe (DfnG.of_st m h),aF rfl,aMl h2,aB aC]
theorem aRV(d:Dfn)(U:d.enc.ir)(hb:cX d.cs<=1048576)(hW:aAt d<=4294967296)(hS:d.sig.ops.length+d.sig.funs.length<=4294967296)
  (s:St)(F:NoW s)(KV Kp:St->A->Prop)(O:KV s (.bool true)):Den cx 8 [d.enc] KV Kp s:=by
 have B:∀(t:Nat) (cs:List A),t=33\/t=36->mY (.cells t cs):=λt cs h=>by rcases h with rfl|rfl<;>(simp only[mY];decide)
 have Z:∀o,o∈d.sig.ops->OprI o:=λo ho=>by
  obtain⟨h1,h2⟩:=aHD ((aHl U).1 o ho);exact⟨h2,h1.2⟩
 have S:DfnB d:=aGl Z aC;have b2:=aVp U;rw[show d.enc=.agg d.cs from rfl];(refine aR func8 [0,1,2,3,4,5,6,7,8,17,25] ?_;simp only[go_sem,ntmps8,f8]);(refine aQ λp m=>?_);simp only[go_sem,m];refine aQ3 d hW hS _ _ _ (λb1=>?_);simp only[go_sem,m];cases b1 with
 | false =>
  simp only[go_sem,m];refine aC5 _ (F.set (B _ _ aE) _) _ _ ?_;simp only[go_sem,m];exact aS O cD
 | true =>
  simp only[go_sem,m];refine aOx U (aQE d aC) aC ?_;simp only[go_sem,m];by_cases b0:18000<(wU d).length
  .have d1:decide ((18000:Int)<((wU d).length:Int))=true:=fN aC;simp only[go_sem,m,d1];refine aC5 _ (F.set (B _ _ aE) _) _ _ ?_;simp only[go_sem,m];exact aS O cD
  have d1:decide ((18000:Int)<((wU d).length:Int))=false:=eQ aC;simp only[go_sem,m,d1];have z:jQ d=true->(iV (eD d)).length<=18000:=λy=>by have:=aQp (aIK y);omega
  refine aF3 d S (λy=>by have:=z y;omega) _ (F.set (B _ _ aE) _) _ _ ?_;cases y:jQ d with
  | false =>
   rw[show uL d=([],2)by unfold uL;rw[y];rfl];simp only[go_sem,m,Int.reduceEq];refine aC1 d S _ (F.set (B _ _ aE) _) _ _ ?_;rw[y];simp only[go_sem,m];refine aC5 _ (F.set (B _ _ aE) _) _ _ ?_;simp only[go_sem,m];exact aS O cD
  | true =>
   obtain⟨x,e1,e2,e3,e4,e5⟩:=aRZ Z hb y (by have:=z y;omega);rw[show uL d=(iV (eD d),0)by unfold uL;rw[y,aF rfl,aB (by have:=z y;omega)]];simp only[go_sem,m,Int.reduceEq];refine awP e1 (by have:=z y;omega) _ _ _ ?_;simp only[go_sem,m];(refine aQ λq M=>?_);simp only[go_sem,m,M];(refine aQ λq2 u=>?_);simp only[go_sem,m,M,u];refine aF3 x e3 (λ_=>by rw[e5];have:=z y;omega) _ ?_ _ _ ?_
   ·repeat (refine NoW.set ?_ (B _ _ aE) _)
    exact F
   rw[e4];simp only[go_sem,m,M,u];refine aC1 d S _ ?_ _ _ ?_
   ·repeat (refine NoW.set ?_ (B _ _ aE) _)
    exact F
   rw[y];simp only[go_sem,m,M,u];simp only[go_sem,m,M,u,List.lookup,Fault.none,eq_self,tR,Bool.and_self];refine aC6 x d _ _ _ ?_;rw[e2];simp only[go_sem,m,M,u,Int.reduceEq,eq_self,tR];refine aC5 _ ?_ _ _ ?_
   ·repeat (refine NoW.set ?_ (B _ _ aE) _)
    exact F
   simp only[go_sem,m,M,u];exact aS O cD
theorem aRu(d:Dfn)(m:d.enc.ir)(y:cX d.cs<=1048576)(z:aAt d<=2 * cX d.cs)(B:d.sig.ops.length+d.sig.funs.length<=cX d.cs)
  (s:St)(h:NoW s)(KV Kp:St->A->Prop)(u:KV s (.bool true)):Den cx 8 [d.enc] KV Kp s :=
 aRV d m y aC aC s h KV Kp u
section
theorem aII{H:Type}:∀l r:List (DataW H),YtamikhobdffnfaaGreatDoor.Rows.uptoBulkAll (l++r)=YtamikhobdffnfaaGreatDoor.Rows.uptoBulkAll l+YtamikhobdffnfaaGreatDoor.Rows.uptoBulkAll r
 | [],r=>by simp[YtamikhobdffnfaaGreatDoor.Rows.uptoBulkAll]
 | a::l,r=>by simp[YtamikhobdffnfaaGreatDoor.Rows.uptoBulkAll,aII l r,qE]
mutual
def A.wm:A->Nat
 | .str x=>x.length
 | .list _ es=>max es.length (lJ es)
 | .agg cs=>lJ cs
 | _=>0
def lJ:List A->Nat
 | []=>0
 | a::r=>max (A.wm a) (lJ r)
end
theorem aPk(a:A):lJ a.cells=a.wm:=by
 cases a<;>simp[A.cells,lJ,A.wm]
theorem aGs:∀l r:List A,lJ (l++r)=max (lJ l) (lJ r)
 | [],r=>by simp[lJ]
 | a::l,r=>by simp[lJ,aGs l r,Nat.max_assoc]
theorem aKt{H:Type}{P:Program}{e:TypeId}:∀l r:List (DataW H),DataW.weightsAll P e (l++r)=DataW.weightsAll P e l++DataW.weightsAll P e r
 | [],r=>by simp[DataW.weightsAll]
 | a::l,r=>by simp[DataW.weightsAll,aKt l r]
section
variable {H:Type} {enc:TypeId × Value->H} {P:Program} {W:World} {base:Nat} {spare:Nat->Bool} {held:Bool} {g:Gh}
def jR(g:Gh)(W:World):Prop:=∀b cs e fr,W.heap[b]?=some (.cells cs e fr)->g.pi b=some cs.toList
def Cl(g:Gh)(l:List A)(cs:List Value):Prop:=l.length=cs.length/\∀(j:Nat) (c:A) (v:Value),l[j]?=some c->cs[j]?=some v->Rz g c v
theorem Cl.nil:Cl g [] []:=⟨rfl,λj c v h=>by cases h⟩
theorem Cl.app{l r:List A}{cs y:List Value}(h:Cl g l cs)(h2:Cl g r y):Cl g (l++r) (cs++y):=by
 refine⟨by rw[aI,aI,h.1,h2.1],λj c v u m=>?_⟩;by_cases z:j<l.length
 .rw[lC z]at u;rw[lC (by rw[<-h.1];exact z)]at m;exact h.2 j c v u m
 .rw[pY aC]at u;rw[pY (by rw[<-h.1];omega),<-h.1]at m;exact h2.2 _ c v u m
theorem Cl.one{a:A}{v:Value}(h:Rz g a v):Cl g [a] [v]:=⟨rfl,λj c w m u=>by
 cases j with
 | zero=>cases m;cases u;exact h
 | succ j=>cases m⟩
theorem aVb(S:ByteArray):Rz g (.str S.data.toList) (.string S):=by
 have h:=Rz.str (g:=g) S.data.toList;have e:(⟨S.data.toList.toArray⟩:ByteArray)=S:=by cases S;simp
 rw[e]at h;exact h
def fP(enc:TypeId × Value->H)(P:Program)(W:World)(base:Nat)(spare:Nat->Bool)(held:Bool)(g:Gh)(n:Nat)(t:TypeId)(Q:List A->Prop):Prop :=
 ∀h,h<=n->∀cs y,DataW.trod enc P W base spare held h t cs=some y->∃l,Q l/\cs.length=P.cellsOf t/\Cl g l cs/\(cX l+1<=YtamikhobdffnfaaGreatDoor.Rows.uptoBulk y.1/\jS l)/\∀N,(∀n,n∈DataW.weights P t y.1->n<=N)->lJ l<=N
def aCc(P:Program):Nat->List Field->Bool
 | _,[]=>true
 | o,f::r=>Nat.beq f.offset o&&aCc P (o+P.cellsOf f.type) r
def aBr(P:Program):List Field->Nat
 | []=>0
 | f::r=>P.cellsOf f.type+aBr P r
inductive Each:List (List A->Prop)->List (List A)->Prop
 | nil:Each [] []
 | cons {Q:List A->Prop} {l:List A} {Qs:List (List A->Prop)} {ls:List (List A)} (h:Q l) (t:Each Qs ls):Each (Q::Qs) (l::ls)
inductive OpQs (enc:TypeId × Value->H) (P:Program) (W:World) (base:Nat) (spare:Nat->Bool) (held:Bool) (g:Gh) (n:Nat):List Field->List (List A->Prop)->Prop
 | nil:OpQs enc P W base spare held g n [] []
 | cons {f:Field} {Q:List A->Prop} {fs:List Field} {Qs:List (List A->Prop)} (h:fP enc P W base spare held g n f.type Q) (t:OpQs enc P W base spare held g n fs Qs):OpQs enc P W base spare held g n (f::fs) (Q::Qs)
theorem aIJ{n m:Nat}(hf:m<=n):∀{B:List Field} {Qs:List (List A->Prop)} {o:Nat} {cs:List Value} {xs:List (DataW H × List MemPlace)},OpQs enc P W base spare held g n B Qs->aCc P o B=true->cs.length=o+aBr P B ->
  B.mapM (λf=>DataW.trod enc P W base spare held m f.type ((cs.drop f.offset).take (P.cellsOf f.type)))=some xs->∃F,Each Qs F/\Cl g F.flatten (cs.drop o)/\(cX F.flatten<=YtamikhobdffnfaaGreatDoor.Rows.uptoBulkAll (xs.map (·.1))/\jS F.flatten)/\∀N,(∀n,n∈DataW.weightsEach P (B.map (·.type)) (xs.map (·.1))->n<=N)->lJ F.flatten<=N
 | [],_,o,cs,xs,.nil,_,hl,_=>⟨[],.nil,by
   have:cs.drop o=[]:=yF (by simp only[aBr]at hl;omega);rw[this];exact Cl.nil,⟨by simp[cX],trivial⟩,λN _=>by simp[lJ]⟩
 | f::B,_,o,cs,xs,.cons h t,u,hl,z=>by
  simp only[aCc,cT]at u;obtain⟨ho,u⟩:=u
  replace ho:=oH ho
  rw[List.mapM_cons]at z;cases h1:DataW.trod enc P W base spare held m f.type ((cs.drop f.offset).take (P.cellsOf f.type))with
  | none=>rw[h1]at z;cases z
  | some y =>
   rw[h1]at z;cases h2:B.mapM (λf=>DataW.trod enc P W base spare held m f.type ((cs.drop f.offset).take (P.cellsOf f.type)))with
   | none=>rw[h2]at z;cases z
   | some ys =>
    rw[h2]at z;cases z;obtain⟨l,hQ,b2,hc,O,U⟩:=h m hf _ _ h1;simp only[aBr]at hl;obtain⟨F,hE,hcs,M,b0⟩:=aIJ hf t u aC h2
    refine⟨l::F,.cons hQ hE,?_,⟨by have:=O.1;have:=M.1;rw[List.flatten_cons,vK,bN];simp only[YtamikhobdffnfaaGreatDoor.Rows.uptoBulkAll];omega,by rw[List.flatten_cons];exact aL6 O.2 M.2⟩,λN S=>by
     rw[List.flatten_cons,aGs];simp only[bN,DataW.weightsEach,cZ]at S;exact Nat.max_le.2 ⟨U N (λn Z=>S n (.inl Z)),b0 N (λn Z=>S n (.inr Z))⟩⟩
    have e:cs.drop o=(cs.drop f.offset).take (P.cellsOf f.type)++cs.drop (o+P.cellsOf f.type):=by
     rw[ho,<-vI,List.take_append_drop]
    rw[e,List.flatten_cons];exact hc.app hcs
theorem aJn{n:Nat}{t:TypeId}{z:Array Field}{Z:List (List A->Prop)}{Q:List A->Prop}(S:P.underlying t=some (.struct z))(F:aCc P 0 z.toList=true)(b0:P.cellsOf t=aBr P z.toList)
  (h:OpQs enc P W base spare held g n z.toList Z)(hQ:∀B,Each Z B->Q B.flatten):fP enc P W base spare held g (n+1) t Q:=by
 intro m hf cs y u;cases m with
 | zero=>cases u
 | succ m =>
  unfold DataW.trod at u;rw[S]at u;simp only at u;split at u
  .rename_i hl;cases M:z.toList.mapM (λf=>DataW.trod enc P W base spare held m f.type ((cs.drop f.offset).take (P.cellsOf f.type)))with
   | none=>rw[M]at u;cases u
   | some xs =>
    rw[M]at u;cases u;obtain⟨B,hE,O,U,hw⟩:=aIJ aC h F aC M;rw[sL]at O;exact⟨_,hQ B hE,hl,O,⟨by have:=U.1;simp only[YtamikhobdffnfaaGreatDoor.Rows.uptoBulk];omega,U.2⟩,λN hN=>hw N (λn hn=>hN n (by simp only[DataW.weights,S];exact hn))⟩
  .cases u
theorem aUy{k:IntKind}{i:Int}(h:(Lit.int k i).wf=true):jS [.int k i]:=by
 cases k<;>refine⟨?_,trivial⟩<;>first|trivial|(simp only[Lit.wf,cT,dE]at h;exact h)
theorem aDX{n:Nat}{t:TypeId}{k:IntKind}(B:P.underlying t=some (.int k))(F:P.cellsOf t=1):fP enc P W base spare held g n t (λl=>∃i:Int,(Lit.int k i).wf=true/\l=[.int k i]):=by
 intro m M cs y h;cases m with
 | zero=>cases h
 | succ m =>
  unfold DataW.trod at h;rw[B]at h;simp only at h;split at h<;>try (cases h;done)
  all_goals (rename_i heq;try (cases heq;done))
  all_goals (cases heq;split at h<;>try (cases h;done))
  rename_i z;obtain⟨rfl,u⟩:=z;cases h;exact⟨_,⟨_,u,rfl⟩,F.symm,Cl.one (.int _ _),⟨by simp[cX,A.bulk,YtamikhobdffnfaaGreatDoor.Rows.uptoBulk],aUy u⟩,λN _=>by simp[lJ,A.wm]⟩
theorem aGZ{n:Nat}{t:TypeId}(z:P.underlying t=some .string)(B:P.cellsOf t=1):fP enc P W base spare held g n t (λl=>∃x:List UInt8,x.length<=maxLen/\l=[.str x]):=by
 intro m M cs y h;cases m with
 | zero=>cases h
 | succ m =>
  unfold DataW.trod at h;rw[z]at h;simp only at h;split at h<;>try (cases h;done)
  all_goals (rename_i heq;try (cases heq;done))
  all_goals (split at h<;>try (cases h;done))
  rename_i F;cases h
  exact⟨_,⟨_,gQ F,rfl⟩,B.symm,Cl.one (aVb _),⟨by simp[cX,A.bulk,YtamikhobdffnfaaGreatDoor.Rows.uptoBulk],trivial,trivial⟩,λN u=>by
   simp only[DataW.weights,cC]at u;have:=u _ rfl;simpa [lJ,A.wm]using this⟩
theorem aGK{α z:Type}{f:α->Option z}:∀{l:List α} {r:List z},l.mapM f=some r->r.length=l.length/\∀(j:Nat) (x:α),l[j]?=some x->∃y,r[j]?=some y/\f x=some y
 | [],r,h=>by
  rw[List.mapM_nil]at h;cases h;exact⟨rfl,λj x h=>by cases h⟩
 | a::l,r,h=>by
  rw[List.mapM_cons]at h;cases m:f a with
  | none=>rw[m]at h;cases h
  | some b =>
   rw[m]at h;cases h2:l.mapM f with
   | none=>rw[h2]at h;cases h
   | some F =>
    rw[h2]at h;cases h;obtain⟨hl,B⟩:=aGK h2;refine⟨by simp[hl],λj x u=>?_⟩;cases j with
    | zero=>cases u;exact⟨b,rfl,m⟩
    | succ j=>exact B j x u
theorem aQK{a:Addr}{n:Nat}{cs:List Value}(h:W.cells? base a n=some cs):cs.length=n/\∀(j:Nat) (v:Value),cs[j]?=some v->W.cell? (a.add j)=some v:=by
 unfold World.cells? at h;split at h
 .obtain⟨hl,z⟩:=aGK h;rw[List.length_range]at hl;refine⟨hl,λj v m=>?_⟩;have B:j<n:=by rw[<-hl];exact(eF.1 m).1
  obtain⟨y,u,h2⟩:=z j j (by rw[List.getElem?_range B]);rw[m]at u;cases u;exact h2
 .cases h
theorem aKy{a:Addr}{v:Value}(h:W.cell? a=some v):∃c e fr,W.heap[a.block]?=some (.cells c e fr)/\a.spot=none/\c.toList[a.off]?=some v:=by
 unfold World.cell? at h;split at h
 .rename_i c e fr u;split at h
  .cases h
  .rename_i m;refine⟨c,e,fr,u,gQ m,gQ h⟩
 .cases h
theorem aJS{α:Type}{n:Nat}{t e:TypeId}{en:α->A}{R:α->Prop}(ht:P.underlying t=some (.slice e))(hc:P.cellsOf t=1)(hk:jR g W)(h:fP enc P W base spare held g n e (λl=>∃x,R x/\l=(en x).cells))
  (b2:∀x,(en x).cells.length=P.cellsOf e)(h1:∀x c,c∈(en x).cells->c.one=true)(bg:0<P.cellsOf e)(bj:0<P.bytesOf e):fP enc P W base spare held g (n+1) t (λl=>∃xs:List α,(∀x,x∈xs->R x)/\xs.length<=maxLen/\l=[.list none (xs.map en)]):=by
 intro F hf cs y m
 have one:∀{v:Value} {xs:List α},Rz g (.list none (xs.map en)) v->Cl g [.list none (xs.map en)] [v]:=λhr=>⟨rfl,λj c v hc hv=>by
  cases j with
  | zero=>cases hc;cases hv;exact hr
  | succ j=>cases hc⟩
 cases F with
 | zero=>cases m
 | succ F =>
  unfold DataW.trod at m;rw[ht]at m;simp only at m;split at m<;>try (cases m;done)
  all_goals (rename_i heq;try (cases heq;done))
  .cases m;exact⟨_,⟨[],λx h=>(by cases h),aU _,rfl⟩,hc.symm,Cl.one (.list0 none none 0 (aU _) (λt h=>by cases h)),⟨by simp[cX,A.bulk,bI,YtamikhobdffnfaaGreatDoor.Rows.uptoBulk],trivial,trivial⟩,λN _=>by simp[lJ,A.wm]⟩
  .rename_i a len cap;cases heq;split at m<;>try (cases m;done)
   rename_i hh;obtain⟨hb,c3,b5⟩:=hh;cases hm:(List.range len).mapM (λi=>(W.cells? base (a.add (i * P.cellsOf e)) (P.cellsOf e)).bind (DataW.trod enc P W base spare held F e))with
   | none=>rw[hm]at m;cases m
   | some ys =>
    obtain⟨hl,hg⟩:=aGK hm;rw[List.length_range]at hl;rw[hm]at m;obtain⟨rest,_,rfl⟩:=sF.1 (show Option.map _ _=some y from m)
    have bm:∀i,i<len->∃(x:α) (cs:List Value) (y:DataW H × List MemPlace),ys[i]?=some y/\(((en x).bulk+1<=YtamikhobdffnfaaGreatDoor.Rows.uptoBulk y.1/\(en x).ir)/\∀N,(∀n,n∈DataW.weights P e y.1->n<=N)->(en x).wm<=N)/\R x/\W.cells? base (a.add (i * P.cellsOf e)) (P.cellsOf e)=some cs/\Cl g (en x).cells cs:=by
     intro i u;obtain⟨y,bt,h2⟩:=hg i i (by rw[List.getElem?_range u]);cases hcs:W.cells? base (a.add (i * P.cellsOf e)) (P.cellsOf e)with
     | none=>rw[hcs]at h2;cases h2
     | some cs =>
      rw[hcs]at h2;obtain⟨_,⟨x,hx,rfl⟩,_,b0,hb,hw⟩:=h F aC cs y h2;rw[aOz]at hb;rw[aPk]at hw;exact⟨x,cs,y,bt,⟨⟨hb.1,aQR hb.2⟩,hw⟩,hx,rfl,b0⟩
    have br:∀k,k<=len->∃xs:List α,(xs.length=k/\(bI (xs.map en)<=YtamikhobdffnfaaGreatDoor.Rows.uptoBulkAll ((ys.take k).map (·.1))/\jS (xs.map en))/\∀N,(∀n,n∈DataW.weightsAll P e ((ys.take k).map (·.1))->n<=N)->lJ (xs.map en)<=N)/\∀(i:Nat) (x:α),xs[i]?=some x->R x/\∃cs,W.cells? base (a.add (i * P.cellsOf e)) (P.cellsOf e)=some cs/\Cl g (en x).cells cs:=by
     intro k
     induction k with
     | zero=>exactλ_=>⟨[],⟨rfl,⟨by simp[bI],trivial⟩,λN _=>by simp[lJ]⟩,λi x h=>by cases h⟩
     | succ k ih =>
      intro c4;obtain⟨xs,⟨h3,⟨c5,bk⟩,bn⟩,h4⟩:=ih aC;obtain⟨x,cs,y2,b6,⟨⟨c1,bh⟩,bl⟩,h5,h6,h7⟩:=bm k aC
      have b4:bI ((xs++[x]).map en)<=YtamikhobdffnfaaGreatDoor.Rows.uptoBulkAll ((ys.take (k+1)).map (·.1)):=by
       rw[fD,b6,cN,cN,aFS,aII];simp only[bN,dI,bI,Option.toList,YtamikhobdffnfaaGreatDoor.Rows.uptoBulkAll];omega
      refine⟨xs++[x],⟨by simp[h3],⟨b4,by rw[cN];exact aL6 bk ⟨bh,trivial⟩⟩,λN hN=>?_⟩,λi z hz=>?_⟩
      .rw[fD,b6,cN,aKt]at hN;simp only[cZ,Option.toList,bN,dI,DataW.weightsAll,eH]at hN;rw[cN,aGs];refine Nat.max_le.2 ⟨bn N (λn hn=>hN n (.inl hn)),?_⟩;have:=bl N (λn hn=>hN n (.inr hn));simpa [lJ]using this
      by_cases u:i<xs.length
      .rw[lC u]at hz;exact h4 i z hz
      .rw[pY aC]at hz
       have:i-xs.length=0:=by
        have:=(eF.1 hz).1;simp at this;omega
       rw[this]at hz;cases hz;have:i=k:=by omega
       subst this;exact⟨h5,cs,h6,h7⟩
    obtain⟨xs,⟨b7,⟨bw,Z⟩,bb⟩,hx⟩:=br len (aV _)
    have b4:cX [.list none (xs.map en)]+1<=YtamikhobdffnfaaGreatDoor.Rows.uptoBulk (DataW.slice (ys.map (·.1)) (rest.map (·.1))):=by
     rw[eG aC]at bw;simp only[cX,A.bulk,YtamikhobdffnfaaGreatDoor.Rows.uptoBulk];omega
    have bq:∀N,(∀n,n∈DataW.weights P t (DataW.slice (ys.map (·.1)) (rest.map (·.1)))->n<=N)->lJ [.list none (xs.map en)]<=N:=λN hN=>by
     simp only[DataW.weights,ht,eA,cZ]at hN;rw[eG aC]at bb;have h1:=bb N (λn hn=>hN n (.inr (.inl hn)));have h2:=hN _ (.inl rfl)
     have h3:xs.length<=((ys.map (·.1)).length+(rest.map (·.1)).length) * P.bytesOf e:=by
      rw[aK,aK];exact mR aC (Nat.le_mul_of_pos_right _ bj)
     simp only[lJ,A.wm,aK];exact Nat.max_le.2 ⟨Nat.max_le.2 ⟨mR h3 h2,h1⟩,aU _⟩
    refine⟨_,⟨xs,λx hm=>?_,by omega,rfl⟩,hc.symm,Cl.one ?_,⟨b4,Z,trivial⟩,bq⟩
    .obtain⟨i,u,rfl⟩:=lN hm;exact(hx i _ (aX u)).1
    .by_cases h0:len=0
     .subst h0;have:xs=[]:=fW b7;subst this;exact .list0 none (some a) cap b5 (λt h=>by cases h)
     .have M:∀(i:Nat) (x:α) (j:Nat) (c:A),xs[i]?=some x->(en x).cells[j]?=some c->∃v,W.cell? ((a.add (i * P.cellsOf e)).add j)=some v/\Rz g c v:=by
       intro i x j c u hj;obtain⟨_,cs,h6,h7⟩:=hx i x u;obtain⟨_,h8⟩:=aQK h6;have b8:j<cs.length:=by rw[<-h7.1];exact(eF.1 hj).1
       exact⟨_,h8 j _ (aX b8),h7.2 j c _ hj (aX b8)⟩
      obtain⟨x0,bp⟩:∃x,xs[0]?=some x:=⟨_,aX aC⟩
      obtain⟨c0,bv⟩:∃c,(en x0).cells[0]?=some c:=⟨_,aX (by rw[b2];exact bg)⟩
      obtain⟨v0,bc,_⟩:=M 0 x0 0 c0 bp bv;have ea:(a.add (0 * P.cellsOf e)).add 0=a:=by simp[Addr.add]
      rw[ea]at bc;obtain⟨cc,ee,fr,B,O,_⟩:=aKy bc;obtain⟨b,off,bz⟩:=a;simp only at O B;subst O
      have bd:∀i j,((⟨b,off,none⟩:Addr).add (i * P.cellsOf e)).add j=⟨b,off+i * P.cellsOf e+j,none⟩:=by
       intro i j;unfold Addr.add;by_cases h1:i * P.cellsOf e=0<;>by_cases h2:j=0<;>simp[h1,h2]
      have pre:∀(i:Nat) (x:α) (j:Nat) (c:A),xs[i]?=some x->(en x).cells[j]?=some c->∃v,cc.toList[off+i * P.cellsOf e+j]?=some v/\Rz g c v:=by
       intro i x j c u hj;obtain⟨v,h8,h9⟩:=M i x j c u hj;rw[bd]at h8;obtain⟨c2,e2,f2,b3,_,b9⟩:=aKy h8;simp only at b3 b9;rw[B]at b3;cases b3;exact⟨v,b9,h9⟩
      have U:(xs.map en).length=len:=by rw[aK,b7]
      have S:=Rz.list (g:=g) none (xs.map en) b off (P.cellsOf e) cap cc.toList (hk b cc ee fr B) (by
       rw[U];obtain⟨xl,bf⟩:∃x,xs[len-1]?=some x:=⟨_,aX aC⟩
       obtain⟨cl,b0⟩:∃c,(en xl).cells[P.cellsOf e-1]?=some c:=⟨_,aX (by rw[b2];omega)⟩
       obtain⟨v,hv,_⟩:=pre (len-1) xl (P.cellsOf e-1) cl bf b0;have:=(eF.1 hv).1
       have e3:(len-1) * P.cellsOf e+P.cellsOf e=len * P.cellsOf e:=by
        rw[<-Nat.succ_mul];congr 1;omega
       omega) aC b5
       (fun y m => by
        obtain⟨x,_,rfl⟩:=cH.1 m;exact b2 x)
       (fun y m => by
        obtain⟨x,_,rfl⟩:=cH.1 m;exact h1 x)
       (fun i y j c v u hj hv => by
        rw[lO]at u;cases Z:xs[i]? with
        | none=>rw[Z]at u;cases u
        | some x =>
         rw[Z]at u;cases u;obtain⟨w,hw,hr⟩:=pre i x j c Z hj;rw[hv]at hw;cases hw;exact hr)
       (λt h=>by cases h)
      rw[U]at S;exact S
end
end
section
section
variable {H:Type} {enc:TypeId × Value->H} {P:Program} {W W':World} {base:Nat} {spare:Nat->Bool} {held:Bool}
def Old(W W':World):Prop:=∀k,k<W.heap.size->W'.heap[k]?=W.heap[k]?
theorem Old.get(h:Old W W'){b:Nat}{o:Obj}(m:W.heap[b]?=some o):W'.heap[b]?=some o:=by
 rw[h b (jU.1 m).1];exact m
theorem Old.cell(h:Old W W'){a:Addr}{v:Value}(m:W.cell? a=some v):W'.cell? a=some v:=by
 unfold World.cell? at m⊢;split at m
 .rename_i c e fr u;rw[h.get u];exact m
 .cases m
theorem zK{α B:Type}{f z:α->Option B}(h:∀x y,f x=some y->z x=some y):∀{l:List α} {r:List B},l.mapM f=some r->l.mapM z=some r
 | [],r,m=>m
 | a::l,r,m=>by
  rw[List.mapM_cons]at m⊢;cases u:f a with
  | none=>rw[u]at m;cases m
  | some b =>
   rw[u]at m;cases h2:l.mapM f with
   | none=>rw[h2]at m;cases m
   | some F =>
    rw[h2]at m;rw[h a b u,zK h h2];exact m
theorem aDx{α B:Type}{x z:Option α}{k u:α->Option B}{y:B}(F:∀a,x=some a->z=some a)(M:∀a y,k a=some y->u a=some y)(h:x.bind k=some y):z.bind u=some y:=by
 cases m:x with
 | none=>rw[m]at h;cases h
 | some a=>rw[m]at h;rw[F a m];exact M a y h
theorem aA3{α z:Type}{x u:Option α}{k:α->z}{y:z}(B:∀a,x=some a->u=some a)(h:x.map k=some y):u.map k=some y:=by
 cases m:x with
 | none=>rw[m]at h;cases h
 | some a=>rw[m]at h;rw[B a m];exact h
theorem Old.cells(h:Old W W'){a:Addr}{n:Nat}{cs:List Value}(m:W.cells? base a n=some cs):W'.cells? base a n=some cs:=by
 unfold World.cells? at m⊢;split at m
 .rename_i u;rw[aF u];exact zK (λx y=>h.cell) m
 .cases m
theorem aJ1(h:Old W W'):∀(u:Nat) (t:TypeId) (cs:List Value) (x:DataW H × List MemPlace),DataW.trod enc P W base spare held u t cs=some x->DataW.trod enc P W' base spare held u t cs=some x
 | 0,t,cs,x,m=>by cases m
 | u+1,t,cs,x,m=>by
  have F:=aJ1 h u
  have Z:∀(e:TypeId) (a:Addr) (n:Nat) (y:DataW H × List MemPlace),(W.cells? base a n).bind (DataW.trod enc P W base spare held u e)=some y->(W'.cells? base a n).bind (DataW.trod enc P W' base spare held u e)=some y :=
   λe a n y=>aDx (λcs=>h.cells) (λcs y=>F e cs y)
  unfold DataW.trod at m⊢;split at m<;>(try simp only at m⊢)<;>(try exact m)
  case h_6=>exact aA3 (λy=>Z _ _ _ y) m
  case h_8 =>
   split at m
   .rename_i B;rw[aF B];refine aDx (λy=>zK (λi y=>Z _ _ _ y)) (λS y=>aA3 (λr M=>?_)) m;split at M
    .rename_i U;rw[aF U];exact zK (λi y=>Z _ _ _ y) M
    .rename_i U;rw[aB U];exact M
   .cases m
  case h_9 =>
   split at m
   .rename_i B;rw[aF B];exact aA3 (λy=>zK (λf y=>F _ _ y)) m
   .cases m
  case h_10 =>
   split at m
   .rename_i B;rw[aF B];exact aA3 (λy=>zK (λf y=>F _ _ y)) m
   .cases m
  case h_12 =>
   split at m<;>(try simp only at m⊢)<;>(try exact m)
   exact aA3 (λy=>F _ _ y) m
  case h_14 =>
   split at m
   .rename_i es O hb;rw[h.get hb];simp only;split at m
    .rename_i B;rw[aF B];refine aDx (λy=>zK (λf y=>aDx (λk hk=>hk) (λk z hz=>?_))) (λa y hy=>hy) m;split at hz
     .rename_i hf;simp only[hf,bT];exact aA3 (λy=>F _ _ y) hz
     .cases hz
    .cases m
   .cases m
theorem aIv(h:Old W W'):∀{y:List TypeId} {vs:List Value} {z:List (DataW H)} {u:List MemPlace},DataW.TrodAll enc P W base spare held y vs z u->DataW.TrodAll enc P W' base spare held y vs z u
 | [],[],[],u,F=>F
 | t::y,v::vs,d::z,u,⟨p,q,⟨m,B⟩,h2,e⟩=>⟨p,q,⟨m,aJ1 h _ _ _ _ B⟩,aIv h h2,e⟩
end
end
section
section
variable {H:Type} {enc:TypeId × Value->H} {W:World} {base:Nat} {spare:Nat->Bool} {held:Bool} {g:Gh}
theorem aDG{P:Program}{t:TypeId}{Q:List A->Prop}:fP enc P W base spare held g 0 t Q:=λh u cs y m=>by
 obtain rfl:h=0:=by omega
 cases m
theorem oN{P:Program}{n:Nat}{t:TypeId}{Q R:List A->Prop}(h:fP enc P W base spare held g n t Q)(z:∀l,Q l->R l):fP enc P W base spare held g n t R:=λm u cs y F=>by
 obtain⟨l,B,h2⟩:=h m u cs y F;exact⟨l,z l B,h2⟩
theorem aTP(x:Tm):x.enc.cells.length=6:=by rw[dJ];rfl
theorem aU7(x:Tm):∀c,c∈x.enc.cells->c.one=true:=by
 rw[dJ];intro c h;simp only[A.cells,Tm.cs,eA,List.mem_nil_iff,eS]at h;rcases h with rfl|rfl|rfl|rfl|rfl|rfl<;>rfl
theorem aHA(u:jR g W):∀n,fP enc prog W base spare held g n 43 (λl=>∃x:Tm,True/\l=x.enc.cells) /\
  fP enc prog W base spare held g n 41 (λl=>∃xs:List Tm,(∀x,x∈xs->True)/\xs.length<=maxLen/\l=[.list none (xs.map Tm.enc)])
 | 0=>⟨aDG,aDG⟩
 | n+1=>by
  obtain⟨M,h2⟩:=aHA u n;refine⟨?_,aJS underlying41 (by kernel_rfl) u M (λx=>(aTP x).trans (by kernel_rfl)) aU7 (by rw[show prog.cellsOf 43=6 by kernel_rfl];omega) (mO (by kernel_rfl))⟩;refine aJn underlying43 (by kernel_rfl) (by kernel_rfl) (.cons (aDX underlying40 (by kernel_rfl)) (.cons (aDX underlying3 (by kernel_rfl)) (.cons (aGZ underlying9 (by kernel_rfl)) (.cons (aGZ underlying9 (by kernel_rfl)) (.cons h2 (.cons h2 .nil)))))) ?_
  .intro Z h;cases h with|cons B h =>
   cases h with|cons U h =>
   cases h with|cons F h =>
   cases h with|cons O h =>
   cases h with|cons S h =>
   cases h with|cons z h =>
   cases h;obtain⟨k,_,rfl⟩:=B;obtain⟨m,_,rfl⟩:=U;obtain⟨x,_,rfl⟩:=F;obtain⟨y,_,rfl⟩:=O;obtain⟨a,_,_,rfl⟩:=S;obtain⟨b,_,_,rfl⟩:=z;exact⟨.mk k m x y a b,trivial,by rw[dJ];rfl⟩
end
end
section
section
variable {H:Type} {enc:TypeId × Value->H} {W:World} {base:Nat} {spare:Nat->Bool} {held:Bool} {g:Gh}
theorem tT{P:Program}{α:Type}{t e:TypeId}{en:α->A}(F:P.underlying t=some (.slice e))(z:P.cellsOf t=1)(B:jR g W)(h:∀n,fP enc P W base spare held g n e (λl=>∃x,l=(en x).cells))
  (y:∀x,(en x).cells.length=P.cellsOf e)(M:∀x c,c∈(en x).cells->c.one=true)(m:0<P.cellsOf e)(u:0<P.bytesOf e):∀n,fP enc P W base spare held g n t (λl=>∃xs:List α,l=[.list none (xs.map en)])
 | 0=>aDG
 | n+1=>oN (aJS (R:=λ_=>True) F z B (oN (h n) (λl ⟨x,e⟩=>⟨x,trivial,e⟩)) y M m u) (λl ⟨xs,_,_,e⟩=>⟨xs,e⟩)
theorem tQ{P:Program}{t:TypeId}{m:Array Field}{z:List (List A->Prop)}{Q:List A->Prop}(M:P.underlying t=some (.struct m))(u:aCc P 0 m.toList=true)(y:P.cellsOf t=aBr P m.toList)
  (h:∀n,OpQs enc P W base spare held g n m.toList z)(F:∀B,Each z B->Q B.flatten):∀n,fP enc P W base spare held g n t Q
 | 0=>aDG
 | n+1=>aJn M u y (h n) F
theorem uB(n:Nat):fP enc prog W base spare held g n 3 (λl=>∃i:Int,l=[.int .i64 i]):=oN (aDX underlying3 (by kernel_rfl)) (λl ⟨i,_,e⟩=>⟨i,e⟩)
theorem aRQ(n:Nat):fP enc prog W base spare held g n 70 (λl=>∃i:Int,l=[.int .i64 i]):=oN (aDX underlying70 (by kernel_rfl)) (λl ⟨i,_,e⟩=>⟨i,e⟩)
theorem nV(n:Nat):fP enc prog W base spare held g n 9 (λl=>∃x:List UInt8,l=[.str x]):=oN (aGZ underlying9 (by kernel_rfl)) (λl ⟨i,_,e⟩=>⟨i,e⟩)
theorem aEw(h:jR g W)(n:Nat):fP enc prog W base spare held g n 43 (λl=>∃x:Tm,l=x.cs):=oN (aHA h n).1 (λl ⟨x,_,e⟩=>⟨x,by rw[e,dJ];rfl⟩)
theorem aEp(h:jR g W)(n:Nat):fP enc prog W base spare held g n 41 (λl=>∃xs:List Tm,l=[.list none (xs.map Tm.enc)]):=oN (aHA h n).2 (λl ⟨x,_,_,e⟩=>⟨x,e⟩)
theorem aDY(m:jR g W):∀n,fP enc prog W base spare held g n 24 (λl=>∃xs:List (List UInt8),l=[.list none (xs.map .str)]) :=
 tT underlying24 (by kernel_rfl) m nV (λx=>(by kernel_rfl:1=prog.cellsOf 9)) (λx c h=>by simp only[A.cells,cC]at h;subst h;rfl) (by rw[show prog.cellsOf 9=1 by kernel_rfl];omega) (mO (by kernel_rfl))
theorem aUe(m:jR g W):∀n,fP enc prog W base spare held g n 71 (λl=>∃xs:List Int,l=[.list none (xs.map (.int .i64))]) :=
 tT underlying71 (by kernel_rfl) m uB (λx=>(by kernel_rfl:1=prog.cellsOf 3)) (λx c h=>by simp only[A.cells,cC]at h;subst h;rfl) (by rw[show prog.cellsOf 3=1 by kernel_rfl];omega) (mO (by kernel_rfl))
theorem aSp(n:Nat):fP enc prog W base spare held g n 104 (λl=>∃x:Below,l=x.cs) :=
 tQ underlying104 (by kernel_rfl) (by kernel_rfl) (λn=>.cons (nV n) (.cons (nV n) .nil)) (λy h=>by
  cases h with|cons m h =>
  cases h with|cons u h =>
  cases h;obtain⟨a,rfl⟩:=m;obtain⟨b,rfl⟩:=u;exact⟨⟨a,b⟩,rfl⟩) n
theorem aSL(n:Nat):fP enc prog W base spare held g n 143 (λl=>∃x:Piece,l=x.cs) :=
 tQ underlying143 (by kernel_rfl) (by kernel_rfl) (λn=>.cons (nV n) (.cons (nV n) .nil)) (λy h=>by
  cases h with|cons m h =>
  cases h with|cons u h =>
  cases h;obtain⟨a,rfl⟩:=m;obtain⟨b,rfl⟩:=u;exact⟨⟨a,b⟩,rfl⟩) n
end
end
section
section
variable {H:Type} {enc:TypeId × Value->H} {W:World} {base:Nat} {spare:Nat->Bool} {held:Bool} {g:Gh}
theorem aG5(x:Tm):∀c,c∈x.cs->c.one=true:=by
 intro c h;simp only[Tm.cs,eA,List.mem_nil_iff,eS]at h;rcases h with rfl|rfl|rfl|rfl|rfl|rfl<;>rfl
theorem aRz(x:Below):∀c,c∈x.enc.cells->c.one=true:=by
  intro c h;simp only[Below.enc,A.cells,Below.cs,eA,List.mem_nil_iff,eS]at h
  repeat' (first|(subst h;rfl)|(rcases h with h|h))
theorem aQL(h:jR g W):∀n,fP enc prog W base spare held g n 25 (λl=>∃xs:List Below,l=[.list none (xs.map Below.enc)]) :=
 tT underlying25 (by kernel_rfl) h (λn=>oN (aSp n) (λl ⟨x,e⟩=>⟨x,e⟩)) (λx=>(show x.enc.cells.length=2 from rfl).trans (by kernel_rfl)) aRz (by rw[show prog.cellsOf 104=2 by kernel_rfl];omega) (mO (by kernel_rfl))
theorem aQ6(x:Piece):∀c,c∈x.enc.cells->c.one=true:=by
  intro c h;simp only[Piece.enc,A.cells,Piece.cs,eA,List.mem_nil_iff,eS]at h
  repeat' (first|(subst h;rfl)|(rcases h with h|h))
theorem aQO(h:jR g W):∀n,fP enc prog W base spare held g n 69 (λl=>∃xs:List Piece,l=[.list none (xs.map Piece.enc)]) :=
 tT underlying69 (by kernel_rfl) h (λn=>oN (aSL n) (λl ⟨x,e⟩=>⟨x,e⟩)) (λx=>(show x.enc.cells.length=2 from rfl).trans (by kernel_rfl)) aQ6 (by rw[show prog.cellsOf 143=2 by kernel_rfl];omega) (mO (by kernel_rfl))
theorem aVo(m:jR g W)(n:Nat):fP enc prog W base spare held g n 73 (λl=>∃x:Opr,l=x.cs) :=
 tQ underlying73 (by kernel_rfl) (by kernel_rfl) (λn=>.cons (nV n) (.cons (aDY m n) (.cons (nV n) (.cons (aQO m n) (.cons (uB n) (.cons (aRQ n) (.cons (aUe m n) .nil))))))) (λU h=>by
  cases h with|cons z h =>
  cases h with|cons y h =>
  cases h with|cons S h =>
  cases h with|cons B h =>
  cases h with|cons F h =>
  cases h with|cons O h =>
  cases h with|cons u h =>
  cases h;obtain⟨a0,rfl⟩:=z;obtain⟨a1,rfl⟩:=y;obtain⟨a2,rfl⟩:=S;obtain⟨a3,rfl⟩:=B;obtain⟨a4,rfl⟩:=F;obtain⟨a5,rfl⟩:=O;obtain⟨M,rfl⟩:=u;exact⟨⟨a0,a1,a2,a3,a4,a5,M⟩,by simp only[Opr.cs,List.flatten_cons,List.flatten_nil,eH,aZ,bA]⟩) n
theorem aTO(x:Opr):∀c,c∈x.enc.cells->c.one=true:=by
  intro c h;simp only[Opr.enc,A.cells,Opr.cs,eA,List.mem_nil_iff,eS]at h
  repeat' (first|(subst h;rfl)|(rcases h with h|h))
theorem aLI(h:jR g W):∀n,fP enc prog W base spare held g n 26 (λl=>∃xs:List Opr,l=[.list none (xs.map Opr.enc)]) :=
 tT underlying26 (by kernel_rfl) h (λn=>oN (aVo h n) (λl ⟨x,e⟩=>⟨x,e⟩)) (λx=>(show x.enc.cells.length=7 from rfl).trans (by kernel_rfl)) aTO (by rw[show prog.cellsOf 73=7 by kernel_rfl];omega) (mO (by kernel_rfl))
theorem aUY(m:jR g W)(n:Nat):fP enc prog W base spare held g n 28 (λl=>∃x:Sig,l=x.cs) :=
 tQ underlying28 (by kernel_rfl) (by kernel_rfl) (λn=>.cons (aDY m n) (.cons (aQL m n) (.cons (aLI m n) (.cons (aLI m n) (.cons (aDY m n) .nil))))) (λM h=>by
  cases h with|cons F h =>
  cases h with|cons u h =>
  cases h with|cons B h =>
  cases h with|cons z h =>
  cases h with|cons y h =>
  cases h;obtain⟨a0,rfl⟩:=F;obtain⟨a1,rfl⟩:=u;obtain⟨a2,rfl⟩:=B;obtain⟨a3,rfl⟩:=z;obtain⟨a4,rfl⟩:=y;exact⟨⟨a0,a1,a2,a3,a4⟩,by simp only[Sig.cs,List.flatten_cons,List.flatten_nil,eH,aZ,bA]⟩) n
theorem aVv(m:jR g W)(n:Nat):fP enc prog W base spare held g n 80 (λl=>∃x:Eqn,l=x.cs) :=
 tQ underlying80 (by kernel_rfl) (by kernel_rfl) (λn=>.cons (aEw m n) (.cons (aEw m n) (.cons (aEp m n) (.cons (uB n) (.cons (uB n) .nil))))) (λM h=>by
  cases h with|cons F h =>
  cases h with|cons u h =>
  cases h with|cons B h =>
  cases h with|cons z h =>
  cases h with|cons y h =>
  cases h;obtain⟨a0,rfl⟩:=F;obtain⟨a1,rfl⟩:=u;obtain⟨a2,rfl⟩:=B;obtain⟨a3,rfl⟩:=z;obtain⟨a4,rfl⟩:=y;exact⟨⟨a0,a1,a2,a3,a4⟩,by simp only[Eqn.cs,List.flatten_cons,List.flatten_nil,eH,aZ,bA]⟩) n
theorem aTr(x:Eqn):∀c,c∈x.enc.cells->c.one=true:=by
  intro c h;simp only[Eqn.enc,A.cells,Eqn.cs,cZ,eA,List.mem_nil_iff,eS]at h
  repeat' (first|(subst h;rfl)|exact aG5 _ c h|(rcases h with h|h))
theorem aUi(h:jR g W):∀n,fP enc prog W base spare held g n 29 (λl=>∃xs:List Eqn,l=[.list none (xs.map Eqn.enc)]) :=
 tT underlying29 (by kernel_rfl) h (λn=>oN (aVv h n) (λl ⟨x,e⟩=>⟨x,e⟩)) (λx=>(show x.enc.cells.length=15 from rfl).trans (by kernel_rfl)) aTr (by rw[show prog.cellsOf 80=15 by kernel_rfl];omega) (mO (by kernel_rfl))
theorem aUt(z:jR g W)(n:Nat):fP enc prog W base spare held g n 68 (λl=>∃x:Cel,l=x.cs) :=
 tQ underlying68 (by kernel_rfl) (by kernel_rfl) (λn=>.cons (nV n) (.cons (nV n) (.cons (aEw z n) (.cons (uB n) (.cons (uB n) .nil))))) (λM h=>by
  cases h with|cons F h =>
  cases h with|cons m h =>
  cases h with|cons B h =>
  cases h with|cons y h =>
  cases h with|cons u h =>
  cases h;obtain⟨a0,rfl⟩:=F;obtain⟨a1,rfl⟩:=m;obtain⟨a2,rfl⟩:=B;obtain⟨a3,rfl⟩:=y;obtain⟨a4,rfl⟩:=u;exact⟨⟨a0,a1,a2,a3,a4⟩,by simp only[Cel.cs,List.flatten_cons,List.flatten_nil,eH,aZ,bA]⟩) n
theorem aTn(x:Cel):∀c,c∈x.enc.cells->c.one=true:=by
  intro c h;simp only[Cel.enc,A.cells,Cel.cs,cZ,eA,List.mem_nil_iff,eS]at h
  repeat' (first|(subst h;rfl)|exact aG5 _ c h|(rcases h with h|h))
theorem aLL(h:jR g W):∀n,fP enc prog W base spare held g n 30 (λl=>∃xs:List Cel,l=[.list none (xs.map Cel.enc)]) :=
 tT underlying30 (by kernel_rfl) h (λn=>oN (aUt h n) (λl ⟨x,e⟩=>⟨x,e⟩)) (λx=>(show x.enc.cells.length=10 from rfl).trans (by kernel_rfl)) aTn (by rw[show prog.cellsOf 68=10 by kernel_rfl];omega) (mO (by kernel_rfl))
theorem aT1(m:jR g W)(n:Nat):fP enc prog W base spare held g n 86 (λl=>∃x:Part,l=x.cs) :=
 tQ underlying86 (by kernel_rfl) (by kernel_rfl) (λn=>.cons (nV n) (.cons (nV n) (.cons (aEw m n) (.cons (aEp m n) (.cons (uB n) (.cons (uB n) .nil)))))) (λO h=>by
  cases h with|cons F h =>
  cases h with|cons u h =>
  cases h with|cons B h =>
  cases h with|cons z h =>
  cases h with|cons y h =>
  cases h with|cons M h =>
  cases h;obtain⟨a0,rfl⟩:=F;obtain⟨a1,rfl⟩:=u;obtain⟨a2,rfl⟩:=B;obtain⟨a3,rfl⟩:=z;obtain⟨a4,rfl⟩:=y;obtain⟨a5,rfl⟩:=M;exact⟨⟨a0,a1,a2,a3,a4,a5⟩,by simp only[Part.cs,List.flatten_cons,List.flatten_nil,eH,aZ,bA]⟩) n
theorem aS5(x:Part):∀c,c∈x.enc.cells->c.one=true:=by
  intro c h;simp only[Part.enc,A.cells,Part.cs,cZ,eA,List.mem_nil_iff,eS]at h
  repeat' (first|(subst h;rfl)|exact aG5 _ c h|(rcases h with h|h))
theorem aSd(h:jR g W):∀n,fP enc prog W base spare held g n 81 (λl=>∃xs:List Part,l=[.list none (xs.map Part.enc)]) :=
 tT underlying81 (by kernel_rfl) h (λn=>oN (aT1 h n) (λl ⟨x,e⟩=>⟨x,e⟩)) (λx=>(show x.enc.cells.length=11 from rfl).trans (by kernel_rfl)) aS5 (by rw[show prog.cellsOf 86=11 by kernel_rfl];omega) (mO (by kernel_rfl))
theorem aS0(m:jR g W)(n:Nat):fP enc prog W base spare held g n 141 (λl=>∃x:Fresh,l=x.cs) :=
 tQ underlying141 (by kernel_rfl) (by kernel_rfl) (λn=>.cons (aEp m n) .nil) (λy h=>by
  cases h with|cons u h =>
  cases h;obtain⟨a0,rfl⟩:=u;exact⟨⟨a0⟩,by simp only[Fresh.cs,List.flatten_cons,List.flatten_nil,eH,aZ,bA]⟩) n
theorem aQH(x:Fresh):∀c,c∈x.enc.cells->c.one=true:=by
  intro c h;simp only[Fresh.enc,A.cells,Fresh.cs,eA,List.mem_nil_iff,eS]at h
  repeat' (first|(subst h;rfl)|(rcases h with h|h))
theorem aQ0(h:jR g W):∀n,fP enc prog W base spare held g n 82 (λl=>∃xs:List Fresh,l=[.list none (xs.map Fresh.enc)]) :=
 tT underlying82 (by kernel_rfl) h (λn=>oN (aS0 h n) (λl ⟨x,e⟩=>⟨x,e⟩)) (λx=>(show x.enc.cells.length=1 from rfl).trans (by kernel_rfl)) aQH (by rw[show prog.cellsOf 141=1 by kernel_rfl];omega) (mO (by kernel_rfl))
theorem aUw(m:jR g W)(n:Nat):fP enc prog W base spare held g n 84 (λl=>∃x:Rul,l=x.cs) :=
 tQ underlying84 (by kernel_rfl) (by kernel_rfl) (λn=>.cons (nV n) (.cons (aSd m n) (.cons (aEp m n) (.cons (aQ0 m n) (.cons (aDY m n) (.cons (uB n) (.cons (uB n) .nil))))))) (λU h=>by
  cases h with|cons z h =>
  cases h with|cons y h =>
  cases h with|cons S h =>
  cases h with|cons B h =>
  cases h with|cons F h =>
  cases h with|cons O h =>
  cases h with|cons u h =>
  cases h;obtain⟨a0,rfl⟩:=z;obtain⟨a1,rfl⟩:=y;obtain⟨a2,rfl⟩:=S;obtain⟨a3,rfl⟩:=B;obtain⟨a4,rfl⟩:=F;obtain⟨a5,rfl⟩:=O;obtain⟨M,rfl⟩:=u;exact⟨⟨a0,a1,a2,a3,a4,a5,M⟩,by simp only[Rul.cs,List.flatten_cons,List.flatten_nil,eH,aZ,bA]⟩) n
theorem aTi(x:Rul):∀c,c∈x.enc.cells->c.one=true:=by
  intro c h;simp only[Rul.enc,A.cells,Rul.cs,eA,List.mem_nil_iff,eS]at h
  repeat' (first|(subst h;rfl)|(rcases h with h|h))
theorem aTb(h:jR g W):∀n,fP enc prog W base spare held g n 31 (λl=>∃xs:List Rul,l=[.list none (xs.map Rul.enc)]) :=
 tT underlying31 (by kernel_rfl) h (λn=>oN (aUw h n) (λl ⟨x,e⟩=>⟨x,e⟩)) (λx=>(show x.enc.cells.length=7 from rfl).trans (by kernel_rfl)) aTi (by rw[show prog.cellsOf 84=7 by kernel_rfl];omega) (mO (by kernel_rfl))
theorem aVk(m:jR g W)(n:Nat):fP enc prog W base spare held g n 33 (λl=>∃x:Dfn,l=x.cs) :=
 tQ underlying33 (by kernel_rfl) (by kernel_rfl) (λn=>.cons (nV n) (.cons (aUY m n) (.cons (aUi m n) (.cons (aLL m n) (.cons (nV n) (.cons (aLL m n) (.cons (aTb m n) (.cons (nV n) (.cons (nV n) .nil))))))))) (λls h=>by
  cases h with|cons F h =>
  cases h with|cons y h =>
  cases h with|cons q2 h =>
  cases h with|cons O h =>
  cases h with|cons S h =>
  cases h with|cons Z h =>
  cases h with|cons u h =>
  cases h with|cons z h =>
  cases h with|cons q8 h =>
  cases h;obtain⟨a0,rfl⟩:=F;obtain⟨a1,rfl⟩:=y;obtain⟨a2,rfl⟩:=q2;obtain⟨a3,rfl⟩:=O;obtain⟨a4,rfl⟩:=S;obtain⟨a5,rfl⟩:=Z;obtain⟨U,rfl⟩:=u;obtain⟨B,rfl⟩:=z;obtain⟨M,rfl⟩:=q8;exact⟨⟨a0,a1,a2,a3,a4,a5,U,B,M⟩,by simp only[Dfn.cs,List.flatten_cons,List.flatten_nil,eH,aZ,bA]⟩) n
theorem aRD{v:Value}{d:DataW H}{M:List MemPlace}{r:Reach}{B:Nat}(O:jR g W)(y:Value.okWide prog W r B 33 v)(h:DataW.Trod enc prog W base spare held 33 v d M):∃x:Dfn,Rz g x.enc v/\cX x.cs+1<=YtamikhobdffnfaaGreatDoor.Rows.uptoBulk d/\x.enc.ir:=by
 obtain⟨cs,rfl,_⟩:=WideShapes.okWide_struct underlying33 y;obtain⟨m,F⟩:=h;obtain⟨l,⟨x,rfl⟩,hl,u,z,_⟩:=aVk O m m (aV _) _ _ F;refine⟨x,?_,z.1,z.2⟩;have:=Rz.agg (g:=g) x.cs cs.toList u.1.symm ?_ u.2
 .unfold Dfn.enc;simpa using this
 .intro c u;simp only[Dfn.cs,Sig.cs,cZ,eA,List.mem_nil_iff,eS]at u
  repeat' (first|(subst u;rfl)|(rcases u with u|u))
end
end
theorem aBW{α:Type}{f:α->Nat}{en:α->A}(k:Nat)(h:∀x,f x<=k * ((en x).bulk+1)):∀l:List α,(l.map f).sum<=k * bI (l.map en)
 | []=>by simp
 | x::l=>by
  have m:=h x;have h2:=aBW k h l;simp only[bN,List.sum_cons,bI,Nat.mul_add]at m h2⊢;omega
theorem aUR(x:Eqn):vB x<=2 * (x.enc.bulk+1):=by
 have:=eE Tm.enc x.cond;simp only[vB,Eqn.enc,Eqn.cs,A.bulk,cX,vK];omega
theorem aSQ(x:Part):aAi x<=1 * (x.enc.bulk+1):=by
 have:=eE Tm.enc x.right;simp only[aAi,Part.enc,Part.cs,A.bulk,cX,vK];omega
theorem aQZ(x:Fresh):x.cells.length<=1 * (x.enc.bulk+1):=by
 have:=eE Tm.enc x.cells;simp only[Fresh.enc,Fresh.cs,A.bulk,cX];omega
theorem aTR(x:Rul):aAs x<=1 * (x.enc.bulk+1):=by
 have h:=aBW 1 aSQ x.parts;have h2:=eE Tm.enc x.cond;have m:=aBW 1 aQZ x.new;simp only[aAs,Rul.enc,Rul.cs,A.bulk,cX]at h h2 m⊢;omega
theorem aTU(x:Dfn):aAt x<=2 * cX x.cs/\x.sig.ops.length+x.sig.funs.length<=cX x.cs:=by
 have m:=aBW 2 aUR x.eqs;have h2:=aBW 1 aTR x.rules;have y:=eE Cel.enc x.once;have u:=eE Cel.enc x.many;have h:=eE Opr.enc x.sig.ops;have z:=eE Opr.enc x.sig.funs;simp only[aAt,Dfn.cs,Sig.cs,A.bulk,cX,vK];omega
end Go.AV
section
open Go.Proofs.Tryz
namespace Go.Proofs.YtamikhobdffnfaaGreatDoor
open Go Go.AV Go.Proofs.Tryz Go.ChangeShapes Go.WideShapes Go.ChangeAt Go.RowKit
theorem own:ownKnob prog.godebug=none:=by kernel_rfl
def allP(W:World):Nat->Option (List Value):=λb=>match W.heap[b]? with
 | some (.cells cs _ _)=>some cs.toList
 | _=>none
theorem knows_all {W : World} {l : List (String × DataW Unit)} (m : laidMet prog l W) (y : ("strings.asciiSpace",Rows.laid_strings_asciiSpace) ∈ l)
  (h2 : ("internal/strconv.uint64pow10",Rows.laid_internal_strconv_uint64pow10) ∈ l) : jR (yD (pi0 (allP W)) W) W := by
 obtain⟨t0,f0,u⟩:=aDe aGv (aLZ m y);obtain⟨t3,B,z⟩:=aDe aFZ (aLU m h2);intro b cs e fr h;show pi0 (allP W) b=some cs.toList;unfold pi0;split
 .rw[u]at h;cases h;rfl
 .rw[z]at h;cases h;rfl
 .unfold allP;rw[h]
theorem back_contract(H:Type)(enc:TypeId × Value->H)(W:World)(base:Nat)(args:Array Value)(ds gs:List (DataW H))(m:List MemPlace)
  (u:∀(j:Nat) t v,f8.params[j]?=some t->args[j]?=some v->Value.okWide prog W .any base t v)
  (hW:DataW.Whole enc prog f8.params.toList Rows.defBackSpec.vars false W args.toList ds gs m)(b3:Rows.uptoSmall H (ds++gs)=true)(hL:laidMetH prog Rows.defBackUptoRow.laid W) :
  Calls prog 8 args W λe W'=>∃v,e=.returned v/\Rows.defBackSpec.post enc prog f8 false true false false W args v W':=by
 have z := hW;have y := hW.lt;obtain ⟨p,q,M,hV,rfl,b5,b6⟩ := hW;have hA : DataW.TrodAll enc prog W 0 (fun _ => true) true f8.params.toList args.toList ds p := M;have b4 := hA;rw [params8] at hA u;obtain ⟨v0,d0,rfl,rfl,h0⟩ := trodAll_one hA;obtain ⟨rfl,rfl⟩ := trodVars_none hV;clear M;simp only [eH] at z y;have m1 : ("strings.asciiSpace",Rows.laid_strings_asciiSpace) ∈ Rows.defBackUptoRow.laid := (.tail _ (.tail _ (.tail _ (.tail _ (.tail _ (.tail _ (.tail _ (.head _))))))));have m2 : ("internal/strconv.uint64pow10",Rows.laid_internal_strconv_uint64pow10) ∈ Rows.defBackUptoRow.laid := (.tail _ (.tail _ (.head _)));have hK := knows_all hL m1 m2;obtain ⟨a,ha,b7,hI⟩ := aRD hK (u 0 33 v0 rfl rfl) h0;have F : Rows.uptoBulkAll [d0] ≤ 1048576 := sJ b3;simp only [Rows.uptoBulkAll] at F;obtain ⟨Z,b2⟩ := aTU a
 have hc:=aQk (f:=8) (args:=[a.enc]) (vals:=[v0]) (W:=W) (p:=allP W) (l:=Rows.defBackUptoRow.laid) func8 rfl rfl hL m1 m2
  (fun b pre h => by
   unfold allP at h;split at h
   .rename_i cs t fr hh;cases h;exact⟨[],t,fr,by rw[hh,eH]⟩
   .cases h)
  (.cons ha (.nil _)) (aRu a hI aC Z b2 _ (λp o h=>by cases h) _ _ rfl)
 refine hc.mono λe W' ⟨he,b0,S,O⟩=>?_
 subst he;have U:Rows.defBackSpec.fn H ([d0]++[])={ results:=[.lit (.bool true)],args:=[d0] }:=rfl;have B:=aIv O b4;simp only[eH]at B;refine⟨_,rfl,_,_,_,[],p,[],z,?_,?_,?_,aTs b0 S O,λh=>by cases h⟩
 .rw[U];exact trodAll_mk1 (shut_bool underlying4 true)
 .rw[U]
  exact DataW.TrodAll.respare (kids_rows back_k1 back_k2) (slices_full_of prog (by kernel_rfl)) (λt ht=>by
   rw[params8]at ht;obtain rfl:t=33:=gQ ht;exact sJ (by kernel_rfl)) B (λp hp=>fN (y p hp))
 .rw[U];rfl
def zeroV:Value:=.agg #[.string ⟨#[]⟩,.slice none 0 0,.slice none 0 0,.slice none 0 0,.slice none 0 0,.slice none 0 0,.slice none 0 0,.slice none 0 0,.string ⟨#[]⟩,.slice none 0 0,.slice none 0 0,.string ⟨#[]⟩,.string ⟨#[]⟩]
def zeroR{H:Type}:DataW H:=.agg [.lit (.string []),.agg [.nil,.nil,.nil,.nil,.nil],.nil,.nil,.lit (.string []),.nil,.nil,.lit (.string []),.lit (.string [])]
theorem back_reads(m:Os){H:Type}(enc:TypeId × Value->H) :
  ∃h,DataW.whole enc prog ((xC m).forCall (λ_ _=>0) ⟨#[],#[zeroV],[]⟩).memory f8.params.toList (Rows.OpenSpec.upto Rows.defBackSpec).vars false #[zeroV].toList 8 =
   some ([zeroR],[],h) :=
 ⟨[],by kernel_rfl⟩
theorem back_lifted(u:Os)(h:u.Started)(H:Type)(enc:TypeId × Value->H)(F:Stop.Interp) :
  ReturnsInHanded {} checked u 8 .any ((Rows.OpenSpec.upto Rows.defBackSpec).preRow enc prog f8 Rows.defBackUptoRow.domain false Rows.defBackUptoRow.laid) (((Rows.OpenSpec.upto Rows.defBackSpec).at F).post enc prog f8 false true false false):=by
 obtain⟨z,M⟩:=back_reads u enc
 refine returnsInHanded_of_row (C:=checked) (s:=Rows.OpenSpec.upto Rows.defBackSpec) own h (by kernel_rfl) func8
  (witness_row_atRef (enc := enc) (C := checked) false (xC u) #[zeroV] rfl (by kernel_rfl) (by kernel_rfl) (by kernel_rfl)
   (OpenSpec.preRow_of_cond 8 M (by kernel_rfl) (λk B=>by cases B;rfl) (by kernel_rfl) (aSA u _))) ?_
 intro W base args S gs m y O _ B _ U _ _;exact back_contract H enc W base args S gs m y O (B _ rfl) U
theorem back_said:Rows.DefBackUptoSaid :=
 OpenClaim.holds_of_cond 8 f8 rfl rfl rfl rfl rfl rfl rfl ⟨rfl,rfl,rfl,rfl,rfl⟩ rfl rfl rfl rfl rfl back_named func8 back_closed
  (sJ (by kernel_rfl)) (by unfold Func.isWrapper;rw[aB (of_decide_eq_false (by kernel_rfl))];exact⟨rfl,rfl⟩)
  (λm h H enc _ F=>by rw[OpenClaim.pre_eq_preRow];exact back_lifted m h H enc F)
theorem back_plain(f:FuncId)(fn:Func)(u:Tryz.pinned.checked.prog.funcNamed Rows.defBackUptoRow.func=some f)(h:Tryz.pinned.checked.prog.funcs[f]?=some fn) :
  true=Tryz.pinned.checked.prog.looks []/\∀(j:Nat) t,fn.params[j]?=some t->Tryz.pinned.checked.prog.wantsStandIn t=false:=by
 obtain rfl:f=8:=aAB (back_named.symm.trans u) |>.symm
 obtain rfl:fn=f8:=(aAB (func8.symm.trans h)).symm;refine⟨back_looks,λj t m=>?_⟩;rw[params8]at m;obtain rfl:t=33:=by simpa using Array.mem_of_getElem? m
 exact(show prog.wantsStandIn 33=false by kernel_rfl)
theorem defBackUpto_holds:Rows.DefBackUptoCardSaid :=
 Claim7.holds_tied_plain_at .later [] _ _ _ _ back_said (λ_ h=>by cases h) back_wf (λ_ h=>by cases h) defBackUpto_row_tie rfl ⟨rfl,rfl⟩ back_main rfl back_plain back_goes
#print axioms defBackUpto_holds
end Go.Proofs.YtamikhobdffnfaaGreatDoor
end
