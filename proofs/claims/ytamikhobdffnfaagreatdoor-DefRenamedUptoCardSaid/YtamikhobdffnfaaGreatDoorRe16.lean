/-
  DefRenamed: for any definition and any two strings that are together of bulk at most 1048576 the call returns true; the arguments read as before, memory that was there is as it was (where the listed package-level variables hold what the text of the program lays).
-/
import Derived.Test.YtamikhobdffnfaaGreatDoorRe15
import Derived.WideShapes
import Derived.Test.YtamikhobdffnfaaGreatDoorRe05
import Derived.Test.YtamikhobdffnfaaGreatDoorRe06
import Derived.ChangeMaps5
import Derived.ReadAgain
set_option linter.all false
set_option maxRecDepth 99999
set_option maxHeartbeats 0
namespace Go.AV
open Go Go.Proofs Tryz
theorem aIG{x:aC}(h:dM x=true):pG x=false:=by
 obtain⟨c,r,e,h1,h2,h3⟩:=aFl h;cases hf:pG x with
 | false=>rfl
 | true =>
  simp only[pG,cL,cU]at hf;have hm:=cM hf.2.1;rw[e]at hm;have:=iH.1 h2 _ hm;revert this;decide
theorem aSc{x:aC}(h:dM x=true):aBt x=true:=by
 unfold aBt;rw[aIG h,if_neg aD];exact h
theorem aJi{S:aC}(hS:dM S=true){t:Tm}(h:sL S t.rest):t.shR S=true:=by
 rcases h with e|⟨x,e,h1,_⟩
 .unfold Tm.shR;rw[e]
 .unfold Tm.shR;rw[e];simp[Tm.shV,Tm.leaf,Tm.kind,Tm.kids,Tm.rest,Tm.text,Tm.sort,Tm.n,h1,hS]
theorem Gd.shape{t:Tm}(h:Gd t):t.shape=true:=by
 cases h with
 | int n h1 h2=>simp[Tm.shape,Tm.leaf,aAl,Tm.kind,Tm.kids,Tm.rest,Tm.text,Tm.sort,Tm.n,h1,h2]
 | bool n h=>rcases h with rfl|rfl<;>simp[Tm.shape,Tm.leaf,Tm.kind,Tm.kids,Tm.rest,Tm.text,Tm.sort,Tm.n]
 | text x h=>simp[Tm.shape,Tm.leaf,Tm.kind,Tm.kids,Tm.rest,Tm.text,Tm.sort,Tm.n,h]
 | id x h hr=>simp[Tm.shape,Tm.leaf,Tm.kind,Tm.kids,Tm.rest,Tm.text,Tm.sort,Tm.n,h]
 | app x ks h hr hl hk=>simp[Tm.shape,Tm.leaf,Tm.kind,Tm.kids,Tm.rest,Tm.text,Tm.sort,Tm.n,aSc h,hl]
 | opn x h=>rcases h with rfl|rfl<;>decide
 | var x s h hr h2 hr2=>simp[Tm.shape,Tm.shV,Tm.leaf,Tm.kind,Tm.kids,Tm.rest,Tm.text,Tm.sort,Tm.n,h,h2]
 | list ks rs hk hr =>
  have:=aJi (t:=.mk 7 0 [] [] ks rs) aD hr;simp[Tm.shape,Tm.kind,Tm.text,Tm.sort,Tm.n];exact this
 | map ks rs he hk hr =>
  have:=aJi (t:=.mk 8 0 [] [] ks rs) aD hr;simp[Tm.shape,Tm.kind,Tm.text,Tm.sort,Tm.n,Tm.kids,he];exact this
theorem Gd.kid{t:Tm}(h:Gd t):∀x,x∈t.kids->Gd x:=by
 cases h with
 | app x ks h hr hl hk=>exact hk
 | list ks rs hk hr=>exact hk
 | map ks rs he hk hr=>exact hk
 | _=>intro x hx;cases hx
theorem aJZ:∀(k:Nat) (t:Tm) (m n:Nat),Gd t->eF k t m=some n->Tm.val k t m=some n
 | 0,_,_,_,_,h=>by cases h
 | k+1,t,m,n,hg,h=>by
  unfold Tm.val;have hk:=hg.kid;rw[hg.shape,if_pos rfl];cases t with
  | mk a b c d ks rs =>
   simp only[eF,Tm.kids,Tm.rest]at h hk⊢;split at h
   .rename_i h2;rw[if_pos h2];cases hl:dU (eF k) ks (m+1)with
    | none=>rw[hl]at h;cases h
    | some c =>
     rw[hl]at h;obtain⟨_,h4⟩:=aCs (P:=λ_=>True) (g:=Tm.val k) ks (m+1) c (λx a b hx hv=>⟨trivial,aJZ k x a b (hk x hx) hv⟩) hl;rw[h4];exact h
   .cases h
theorem TmG.val{t:Tm}(h:TmG t):fR t=true:=by
 obtain⟨m,hm⟩:=h.m;unfold fR;rw[aJZ 60 t 0 m h.g hm];rfl
theorem aQG{d:Dfn}(h:DfnG d):∀t,t∈iQ d->TmG t:=by
 have hc:∀c,CelG c->∀t,t∈kW c->TmG t:=by
  intro c hc t ht;simp only[kW,bW]at ht;rw[ht];exact hc.i
 intro t ht;simp only[iQ,cW,List.mem_flatMap]at ht;rcases ht with⟨e,he,ht⟩|⟨c,he,ht⟩|⟨r,he,ht⟩
 .have hE:=h.eq e he;simp only[iR,cW,eB,List.mem_nil_iff,fH]at ht;rcases ht with(rfl|rfl)|ht
  .exact hE.l
  .exact hE.r
  .exact hE.c.t t ht
 .rcases he with he|he
  .exact hc c (h.ce c he) t ht
  .exact hc c (h.ma c he) t ht
 .have hR:=h.ru r he;simp only[hH,jK,cW,List.mem_flatMap,eB,List.mem_nil_iff,fH]at ht;rcases ht with⟨p,hp,ht⟩|ht|⟨f,hf,ht⟩
  .have hP:=hR.p.p p hp;rcases ht with rfl|ht
   .exact hP.l
   .rcases hP.r with e|⟨u,e,hu⟩
    .rw[e]at ht;cases ht
    .rw[e,bW]at ht;rw[ht];exact hu
  .exact hR.c.t t ht
  .exact(hR.p.f f hf).t t ht
theorem aOG{d:Dfn}(h:DfnG d):iW d=true:=by
 have h1:(iQ d).all fR=true:=iH.2 λt ht=>(aQG h t ht).val
 have h2:d.rules.all tY=true:=iH.2 λr hr=>by
  have:=(h.ru r hr).l2;have:=(h.ru r hr).c.n;simp only[tY,cL,cU];omega
 simp only[iW,h1,h2,h.eqn,h.run,h.cen,h.man,h.on,uU,Bool.and_self]
theorem aOw{d:Dfn}(h:DfnG d):jE d=true:=by
 rw[jE,aOG h,aRV h];rfl
section
structure Rnm (φ:aC->aC):Prop where
 nm:∀x,NmG x->NmG (φ x)
 inv:∀x,NmG x->φ (φ x)=x
 nil:φ []=[]
theorem aQa(a b x:aC):lJ a b (lJ a b x)=x:=by
 unfold lJ;by_cases h1:x=a
 .rw[if_pos h1];by_cases h2:b=a
  .rw[if_pos h2,h2,h1]
  .rw[if_neg h2,if_pos rfl,h1]
 .rw[if_neg h1];by_cases h2:x=b
  .rw[if_pos h2,if_pos rfl,h2]
  .rw[if_neg h2,if_neg h1,if_neg h2]
theorem aCN{x:aC}(h:sI x=true):NmG x:=by
 simp only[sI,aBr,cL,oG,fL]at h;exact⟨h.1.1,h.1.2⟩
theorem aR7{a b x:aC}(ha:NmG a)(hb:NmG b)(hx:NmG x):NmG (lJ a b x):=by
 unfold lJ;by_cases h1:x=a
 .rw[if_pos h1];exact hb
 .rw[if_neg h1];by_cases h2:x=b
  .rw[if_pos h2];exact ha
  .rw[if_neg h2];exact hx
theorem aQY{a b:aC}(ha:sI a=true)(hb:sI b=true):Rnm (fU (lJ a b)):=by
 have e:∀x,NmG x->fU (lJ a b) x=lJ a b x:=λx hx=>by unfold fU;rw[if_neg (rM hx)]
 have h2:∀x,NmG x->NmG (lJ a b x):=λx hx=>aR7 (aCN ha) (aCN hb) hx
 exact⟨λx hx=>by rw[e x hx];exact h2 x hx,λx hx=>by rw[e x hx,e _ (h2 x hx),aQa],rfl⟩
section
variable {φ:aC->aC} (H:Rnm φ)
include H
theorem aBo{x:aC}(h:NmG x):dT φ x=φ x:=by unfold dT;rw[aIG h.n,if_neg aD]
theorem aFS{x:aC}(h:NmG x):dT φ (dT φ x)=x:=by rw[aBo H h,aBo H (H.nm x h),H.inv x h]
theorem aDp{x:aC}(h:NmG x):fU φ x=φ x:=by unfold fU;rw[if_neg (rM h)]
theorem aJ0{x:aC}(h:x=[]\/NmG x):(fU φ x=[]\/NmG (fU φ x))/\fU φ (fU φ x)=x:=by
 rcases h with rfl|h
 .exact⟨.inl rfl,rfl⟩
 .rw[aDp H h,aDp H (H.nm x h)];exact⟨.inr (H.nm x h),H.inv x h⟩
theorem aBf{x:aC}(h:x=[]\/NmG x):(φ x=[]\/NmG (φ x))/\φ (φ x)=x:=by
 rcases h with rfl|h
 .rw[H.nil,H.nil];exact⟨.inl rfl,rfl⟩
 .exact⟨.inr (H.nm x h),H.inv x h⟩
omit H in
theorem lP{α:Type}{f:α->α}{l:List α}(h:∀x,x∈l->f (f x)=x):(l.map f).map f=l:=by
 rw[List.map_map]
 conv=>rhs;rw[<-List.map_id l]
 exact List.map_congr_left h
omit H in
theorem mW{α:Type}{f:α->α}{P:α->Prop}{l:List α}(h:∀x,x∈l->P (f x)):∀x,x∈l.map f->P x:=λx hx=>by
 obtain⟨y,hy,rfl⟩:=cC.1 hx;exact h y hy
theorem aIT{S:aC}{rs:List Tm}(h:sL S rs):sL S (kQ (dT φ) φ id rs)/\kQ (dT φ) φ id (kQ (dT φ) φ id rs)=rs:=by
 rcases h with rfl|⟨x,rfl,h1,h2⟩
 .exact⟨.inl rfl,rfl⟩
 .have hx:NmG x:=⟨h1,h2⟩;have hy:=H.nm x hx
  have e:∀y,NmG y->kQ (dT φ) φ id [Tm.mk 6 0 y S [] []]=[Tm.mk 6 0 (φ y) S [] []]:=by
   intro y hy;obtain⟨_,_,_,_,_,h6,h7⟩:=vK hy.n;simp only[kQ,Tm.chg];simp[h6,h7]
  rw[e x hx,e _ hy,H.inv x hx];exact⟨.inr ⟨_,rfl,hy.n,hy.r⟩,rfl⟩
theorem aLF{t:Tm}(h:Gd t):Gd (eG φ t)/\eG φ (eG φ t)=t:=by
 unfold eG
 induction h with
 | int n h1 h2=>exact⟨.int n h1 h2,rfl⟩
 | bool n h=>exact⟨.bool n h,rfl⟩
 | text x h=>exact⟨.text x h,rfl⟩
 | id x h hr=>exact⟨.id x h hr,rfl⟩
 | app x ks h hr hl hk ih =>
  have hx:NmG x:=⟨h,hr⟩;have hy:=H.nm x hx
  have e:∀y (ks:List Tm),(Tm.mk 5 0 y [] ks []).chg (dT φ) φ φ=.mk 5 0 (dT φ y) [] (ks.map (Tm.chg (dT φ) φ φ)) []:=by
   intro y ks;rw[Tm.chg,if_pos rfl,if_neg aD,tR,kQ]
  rw[e,e,aFS H hx,aBo H hx,lP (λy hy=>(ih y hy).2)];exact⟨.app _ _ hy.n hy.r (by rw[aH];exact hl) (mW λy hy=>(ih y hy).1),rfl⟩
 | opn x h =>
  have e:(Tm.mk 6 0 x aDC [] []).chg (dT φ) φ φ=.mk 6 0 x aDC [] []:=by
   rw[Tm.chg,if_neg aD,if_pos rfl,if_pos h,if_pos rfl,if_pos h,kQ,kQ]
  rw[e,e];exact⟨.opn x h,rfl⟩
 | var x s hx hr hs hrs =>
  have h1:NmG x:=⟨hx,hr⟩;have h2:NmG s:=⟨hs,hrs⟩
  have e:∀y z,NmG y->(Tm.mk 6 0 y z [] []).chg (dT φ) φ φ=.mk 6 0 (φ y) (φ z) [] []:=by
   intro y z hy;obtain⟨_,_,_,_,_,h6,h7⟩:=vK hy.n;rw[Tm.chg,if_neg aD,if_pos rfl,if_neg (by simp[h6,h7]),if_pos rfl,if_neg (by simp[h6,h7]),kQ,kQ]
  rw[e x s h1,e _ _ (H.nm x h1),H.inv x h1,H.inv s h2];have:=H.nm x h1;have:=H.nm s h2;exact⟨.var _ _ (H.nm x h1).n (H.nm x h1).r (H.nm s h2).n (H.nm s h2).r,rfl⟩
 | list ks rs hk hr ih =>
  obtain⟨r1,r2⟩:=aIT H hr
  have e:∀ks rs:List Tm,(Tm.mk 7 0 [] [] ks rs).chg (dT φ) φ φ=.mk 7 0 [] [] (ks.map (Tm.chg (dT φ) φ φ)) (kQ (dT φ) φ id rs):=by
   intro ks rs;rw[Tm.chg,if_neg aD,if_neg aD,tR]
  rw[e,e,lP (λy hy=>(ih y hy).2),r2];exact⟨.list _ _ (mW λy hy=>(ih y hy).1) r1,rfl⟩
 | map ks rs he hk hr ih =>
  obtain⟨r1,r2⟩:=aIT H hr
  have e:∀ks rs:List Tm,(Tm.mk 8 0 [] [] ks rs).chg (dT φ) φ φ=.mk 8 0 [] [] (ks.map (Tm.chg (dT φ) φ φ)) (kQ (dT φ) φ id rs):=by
   intro ks rs;rw[Tm.chg,if_neg aD,if_neg aD,tR]
  rw[e,e,lP (λy hy=>(ih y hy).2),r2];exact⟨.map _ _ (by rw[aH];exact he) (mW λy hy=>(ih y hy).1) r1,rfl⟩
omit H in
theorem aKw(op vr:aC->aC):∀(k:Nat) (st:aC->aC) (t:Tm) (m:Nat),eF k (t.chg op vr st) m=eF k t m
 | 0,st,t,m=>rfl
 | k+1,st,.mk a b c d ks rs,m=>by
  have hl:∀(l:List Tm) (m:Nat),dU (eF k) (l.map (Tm.chg op vr st)) m=dU (eF k) l m:=by
   intro l
   induction l with
   | nil=>intro m;rfl
   | cons x l ih =>
    intro m;simp only[bS,dU];rw[aKw op vr k st x];cases eF k x m with
    | none=>rfl
    | some c=>exact ih c
  rw[Tm.chg];simp only[eF];rw[tR,tR,hl,aH]
theorem oM{t:Tm}(h:TmG t):TmG (eG φ t)/\eG φ (eG φ t)=t:=by
 obtain⟨m,hm⟩:=h.m;exact⟨⟨(aLF H h.g).1,m,by unfold eG;rw[aKw];exact hm⟩,(aLF H h.g).2⟩
theorem aDf{l:List Tm}(h:TmsG l):TmsG (l.map (eG φ))/\(l.map (eG φ)).map (eG φ)=l :=
 ⟨⟨by rw[aH];exact h.n,mW λt ht=>(oM H (h.t t ht)).1⟩,lP λt ht=>(oM H (h.t t ht)).2⟩
theorem vE{l:List aC}(h:∀x,x∈l->NmG x):(∀x,x∈l.map φ->NmG x)/\(l.map φ).map φ=l:=⟨mW λx hx=>H.nm x (h x hx),lP λx hx=>H.inv x (h x hx)⟩
theorem aCv{p:Piece}(h:PcG p):PcG (iN φ p)/\iN φ (iN φ p)=p/\((iN φ p).sort=[]↔p.sort=[]):=by
 obtain⟨t,s⟩:=p;rcases h.c with⟨e,h1⟩|⟨e,h1⟩
 .simp only at e h1;subst e;exact⟨⟨.inl ⟨rfl,h1⟩⟩,rfl,Iff.rfl⟩
 .simp only at e h1;subst e;obtain⟨g1,g2⟩:=aJ0 H (.inr h1);have g3:NmG (fU φ s):=by rw[aDp H h1];exact H.nm s h1
  refine⟨⟨.inr ⟨rfl,g3⟩⟩,?_,?_⟩
  .show(⟨[],fU φ (fU φ s)⟩:Piece)=_;rw[g2]
  .exact⟨λe=>absurd e (rM g3),λe=>absurd e (rM h1)⟩
theorem aK8:∀{l:List Piece},(∀q,q∈l->PcG q)->jC (l.map (iN φ))=(jC l).map φ
 | [],_=>rfl
 | p::l,h=>by
  have ih:=aK8 (l:=l) (λq hq=>h q (cT _ hq));have hp:=h p (bY ..);have h3:=(aCv H hp).2.2;simp only[jC,bS]at ih⊢;by_cases e:p.sort=[]
  .rw[List.filter_cons_of_neg (by simp[h3.2 e]),List.filter_cons_of_neg (by simp[e]),ih]
  .rw[List.filter_cons_of_pos (by simp;exactλh=>e (h3.1 h)),List.filter_cons_of_pos (by simp[e]),bS,bS,bS,ih];rcases hp.c with⟨e2,_⟩|⟨_,h1⟩
   .exact absurd e2 e
   .rw[show(iN φ p).sort=fU φ p.sort from rfl,aDp H h1]
theorem aLA{o:Opr}(h:OpG o):OpG (fT (dT φ) φ o)/\fT (dT φ) φ (fT (dT φ) φ o)=o:=by
 obtain⟨n,s,a,an,p,pg,pn,c,s2,t⟩:=h;have a2:=vE H a;refine⟨⟨by show NmG (dT φ _);rw[aBo H n];exact H.nm _ n,H.nm _ s,a2.1,by show(o.args.map φ).length<=8;rw[aH];exact an,?_,mW λq hq=>(aCv H (pg q hq)).1,by show(o.pieces.map _).length<=20;rw[aH];exact pn,c,s2,t⟩,?_⟩
 .rcases p with e|⟨⟨q,h1,h2⟩,h3⟩
  .exact .inl (by show o.pieces.map _=[];rw[e];rfl)
  .refine .inr ⟨⟨iN φ q,cC.2 ⟨q,h1,rfl⟩,(aCv H (pg q h1)).2.2.2 h2⟩,?_⟩;show o.args.map φ=jC (o.pieces.map _);rw[aK8 H pg,<-h3]
 .show(⟨dT φ (dT φ o.name),(o.args.map φ).map φ,φ (φ o.sort),(o.pieces.map (iN φ)).map (iN φ),o.prec,o.assoc,o.strict⟩:Opr)=o;rw[aFS H n,a2.2,H.inv _ s,lP λq hq=>(aCv H (pg q hq)).2.1]
theorem aLl{o:Opr}(h:FunG o):FunG (fT (dT φ) φ o)/\fT (dT φ) φ (fT (dT φ) φ o)=o:=by
 obtain⟨n,s,a,an,z⟩:=h;have a2:=vE H a;refine⟨⟨by show NmG (dT φ _);rw[aBo H n];exact H.nm _ n,H.nm _ s,a2.1,by show(o.args.map φ).length<=8;rw[aH];exact an,by show o.pieces.map _=[]/\_;rw[z.1];exact⟨rfl,z.2⟩⟩,?_⟩;show(⟨dT φ (dT φ o.name),(o.args.map φ).map φ,φ (φ o.sort),(o.pieces.map (iN φ)).map (iN φ),o.prec,o.assoc,o.strict⟩:Opr)=o;rw[aFS H n,a2.2,H.inv _ s,lP (l:=o.pieces) λq hq=>by rw[z.1]at hq;cases hq]
theorem aLD{e:Eqn}(h:EqG e):EqG (mM φ e)/\mM φ (mM φ e)=e:=by
 refine⟨⟨(oM H h.l).1,(oM H h.r).1,(aDf H h.c).1⟩,?_⟩;show(⟨eG φ (eG φ e.left),eG φ (eG φ e.right),(e.cond.map (eG φ)).map (eG φ),e.line,e.col⟩:Eqn)=e;rw[(oM H h.l).2,(oM H h.r).2,(aDf H h.c).2]
theorem aDe{c:Cel}(h:CelG c):CelG (kK φ c)/\kK φ (kK φ c)=c:=by
 refine⟨⟨H.nm _ h.n,H.nm _ h.s,(oM H h.i).1⟩,?_⟩;show(⟨φ (φ c.name),φ (φ c.sort),eG φ (eG φ c.init),c.line,c.col⟩:Cel)=c;rw[H.inv _ h.n,H.inv _ h.s,(oM H h.i).2]
theorem aKL{p:Part}(h:PartG p):PartG (mB φ p)/\mB φ (mB φ p)=p:=by
 obtain⟨g1,g2⟩:=aJ0 H h.a
 have hr:∀t,t∈p.right->TmG t:=by
  rcases h.r with e|⟨u,e,hu⟩
  .rw[e];intro t ht;cases ht
  .rw[e];intro t ht;rw[bW.1 ht];exact hu
 refine⟨⟨H.nm _ h.c,g1,(oM H h.l).1,?_⟩,?_⟩
 .rcases h.r with e|⟨u,e,hu⟩
  .exact .inl (by show p.right.map _=[];rw[e];rfl)
  .exact .inr ⟨eG φ u,by show p.right.map _=_;rw[e];rfl,(oM H hu).1⟩
 .show(⟨φ (φ p.cell),fU φ (fU φ p.at_),eG φ (eG φ p.left),(p.right.map (eG φ)).map (eG φ),p.line,p.col⟩:Part)=p;rw[H.inv _ h.c,g2,(oM H h.l).2,lP λt ht=>(oM H (hr t ht)).2]
theorem aKP{f:Fresh}(h:NewG f):NewG (mP φ f)/\mP φ (mP φ f)=f:=by
 refine⟨⟨λe=>h.n (List.map_eq_nil_iff.1 e),mW λt ht=>(oM H (h.t t ht)).1⟩,?_⟩;show(⟨(f.cells.map (eG φ)).map (eG φ)⟩:Fresh)=f;rw[lP λt ht=>(oM H (h.t t ht)).2]
theorem aKU{r:Rul}(h:RulG r):RulG (oD φ r)/\oD φ (oD φ r)=r:=by
 refine⟨⟨⟨H.nm _ h.p.n,mW λx hx=>(aKL H (h.p.p x hx)).1,mW λx hx=>(aKP H (h.p.f x hx)).1,(vE H h.p.d).1⟩,(aDf H h.c).1,?_,?_⟩,?_⟩
 .show 1<=(r.parts.map _).length+(r.new.map _).length+(r.drop.map _).length;rw[aH,aH,aH];exact h.l1
 .show(r.parts.map _).length+(r.new.map _).length+(r.drop.map _).length<=20;rw[aH,aH,aH];exact h.l2
 .show({ r with name:=φ (φ r.name),parts:=(r.parts.map (mB φ)).map (mB φ),cond:=(r.cond.map (eG φ)).map (eG φ),new:=(r.new.map (mP φ)).map (mP φ),drop:=(r.drop.map φ).map φ }:Rul)=r;rw[H.inv _ h.p.n,lP λx hx=>(aKL H (h.p.p x hx)).2,(aDf H h.c).2,lP λx hx=>(aKP H (h.p.f x hx)).2,(vE H h.p.d).2]
theorem aTj{d:Dfn}(h:DfnG d):DfnG (wD φ d)/\wD φ (wD φ d)=d:=by
 have hbe:∀x,x∈d.sig.below->pW φ (pW φ x)=x:=λx hx=>by
  show(⟨φ (φ x.low),φ (φ x.high)⟩:Below)=x;rw[H.inv _ (h.be x hx).1,H.inv _ (h.be x hx).2]
 have hki:d.kind=[]\/NmG d.kind:=h.ki.imp And.left And.left;have ml:∀{α β:Type} (f:α->β) (l:List α) (n:Nat),l.length<=n->(l.map f).length<=n:=λf l n h=>by rw[aH];exact h
 refine⟨⟨H.nm _ h.n,(vE H h.so).1,ml _ _ _ h.son,mW λx hx=>⟨H.nm _ (h.be x hx).1,H.nm _ (h.be x hx).2⟩,ml _ _ _ h.ben,(vE H h.va).1,mW λx hx=>(aLA H (h.op x hx)).1,mW λx hx=>(aLl H (h.fu x hx)).1,?_,mW λx hx=>(aLD H (h.eq x hx)).1,ml _ _ _ h.eqn,
  mW λx hx=>(aDe H (h.ce x hx)).1,ml _ _ _ h.cen,mW λx hx=>(aDe H (h.ma x hx)).1,ml _ _ _ h.man,?_,mW λx hx=>(aKU H (h.ru x hx)).1,ml _ _ _ h.run,(aBf H h.st).1,(aBf H h.wa).1⟩,?_⟩
 .show(d.sig.ops.map _).length+(d.sig.funs.map _).length<=200;rw[aH,aH];exact h.on
 .rcases h.ki with⟨e1,e2⟩|⟨e1,e2⟩
  .exact .inl ⟨by show φ d.kind=[];rw[e1];exact H.nil,by show d.many.map _=[];rw[e2];rfl⟩
  .exact .inr ⟨H.nm _ e1,λe=>e2 (List.map_eq_nil_iff.1 e)⟩
 .show(⟨φ (φ d.name),⟨(d.sig.sorts.map φ).map φ,(d.sig.below.map (pW φ)).map (pW φ),(d.sig.ops.map (fT (dT φ) φ)).map (fT (dT φ) φ),(d.sig.funs.map (fT (dT φ) φ)).map (fT (dT φ) φ),(d.sig.values.map φ).map φ⟩,(d.eqs.map (mM φ)).map (mM φ),(d.once.map (kK φ)).map (kK φ),φ (φ d.kind),(d.many.map (kK φ)).map (kK φ),(d.rules.map (oD φ)).map (oD φ),φ (φ d.start),φ (φ d.watch)⟩:Dfn)=d;rw[H.inv _ h.n,(vE H h.so).2,lP hbe,lP λx hx=>(aLA H (h.op x hx)).2,lP λx hx=>(aLl H (h.fu x hx)).2,(vE H h.va).2,lP λx hx=>(aLD H (h.eq x hx)).2,lP λx hx=>(aDe H (h.ce x hx)).2,(aBf H hki).2,lP λx hx=>(aDe H (h.ma x hx)).2,lP λx hx=>(aKU H (h.ru x hx)).2,(aBf H h.st).2,(aBf H h.wa).2]
end
theorem aR1{d:Dfn}{a b:aC}(h:nD d a b=true):DfnG (iO a b d)/\nD (iO a b d) a b=true/\(iO a b (iO a b d)).same d=true:=by
 simp only[nD,cL]at h;obtain⟨h1,h2,h3⟩:=h;obtain⟨g1,g2⟩:=aTj (aQY h2 h3) (aNA h1);refine⟨g1,?_,?_⟩
 .rw[nD,show jE (iO a b d)=true from aOw g1,h2,h3];rfl
 .have e:iO a b (iO a b d)=d:=g2;rw[e];exact(⟨rfl,rfl,rfl,rfl,rfl,rfl,rfl,rfl,rfl⟩:DSt d d).same
end
section
def Gr(φ:aC->aC):Prop:=∀x:aC,(φ x).length<=41 * x.length
theorem aTR:Gr id:=λx=>by show x.length<=_;omega
theorem aRi{a b:aC}(ha:a.length<=40)(hb:b.length<=40):Gr (fU (lJ a b)):=λx=>by
 unfold fU lJ;by_cases h:x=[]
 .rw[if_pos h];simp
 .have:=List.length_pos_iff.2 h;rw[if_neg h];split
  .omega
  .split
   .omega
   .omega
section
variable {φ:aC->aC} (H:Gr φ)
include H
theorem aLM:Gr (fU φ):=λx=>by
 unfold fU;split
 .simp
 .exact H x
theorem aLK:Gr (dT φ):=λx=>by
 unfold dT;split
 .rename_i h;simp only[pG,cL,cU]at h;have:=H (x.take (x.length-2));rw[bK]at this;rw[aG,dR];omega
 .exact H x
omit H in
theorem nZ{α:Type}(f:α->α)(en:α->A):∀l:List α,(∀x,x∈l->(en (f x)).bulk<=41 * (en x).bulk)->bQ ((l.map f).map en)<=41 * bQ (l.map en)
 | [],_=>by simp[bQ]
 | x::r,h=>by
  have h1:=nZ f en r (λy hy=>h y (cT _ hy));have h2:=h x (bY ..);simp only[bS,bQ]at h1⊢;omega
theorem aCZ(l:List aC):bQ ((l.map φ).map .str)<=41 * bQ (l.map .str):=nZ φ A.str l (λx _=>by simp only[A.bulk];exact H x)
omit H in
theorem aTb{op vr:aC->aC}(ho:Gr op)(hv:Gr vr)(N:Nat):∀(t:Tm) (st:aC->aC),SizeOf.sizeOf t<N->Gr st->(t.chg op vr st).enc.bulk<=41 * t.enc.bulk:=by
 induction N with
 | zero=>intro t st h;omega
 | succ N ih =>
  intro t st ht hs;have k1:=nZ (Tm.chg op vr st) Tm.enc t.kids (λx hx=>ih x st (by have:=aBS hx;omega) hs);have k2:=nZ (Tm.chg op vr id) Tm.enc t.rest (λx hx=>ih x id (by have:=aBT hx;omega) aTR);rw[aKV,aAn,aAn t,tR,tR];simp only[Tm.text,Tm.sort,Tm.kids,Tm.rest]at k1 k2⊢
  have h1:(if t.kind=5 then op t.text else if t.kind=6 then(if t.text=[95]\/t.text=[36] then t.text else vr t.text) else t.text).length<=41 * t.text.length:=by
   split
   .exact ho _
   .split
    .split
     .omega
     .exact hv _
    .omega
  have h2:(if t.kind=6 then(if t.text=[95]\/t.text=[36] then t.sort else st t.sort) else t.sort).length<=41 * t.sort.length:=by
   split
   .split
    .omega
    .exact hs _
   .omega
  simp only[Tm.text,Tm.sort,Tm.kids,Tm.rest]at h1 h2;omega
theorem aBp(t:Tm):(eG φ t).enc.bulk<=41 * t.enc.bulk:=aTb (aLK H) H _ t φ (jB _) H
theorem aDb(l:List Tm):bQ ((l.map (eG φ)).map Tm.enc)<=41 * bQ (l.map Tm.enc):=nZ _ _ l (λt _=>aBp H t)
theorem aKZ(o:Opr):(fT (dT φ) φ o).enc.bulk<=41 * o.enc.bulk:=by
 have h1:=aLK H o.name;have h2:=aCZ H o.args;have h3:=H o.sort
 have h4:=nZ (iN φ) Piece.enc o.pieces (λp _=>by
  have:=aLM H p.sort;simp only[iN,Piece.enc,Piece.cs,A.bulk,cZ];omega)
 rw[aCB,aCB o];simp only[fT];omega
theorem aSI(e:Eqn):(mM φ e).enc.bulk<=41 * e.enc.bulk:=by
 have h1:=aBp H e.left;have h2:=aBp H e.right;have h3:=aDb H e.cond;rw[xM,xM e];simp only[mM];omega
theorem aK7(c:Cel):(kK φ c).enc.bulk<=41 * c.enc.bulk:=by
 have h1:=H c.name;have h2:=H c.sort;have h3:=aBp H c.init;rw[xE,xE c];simp only[kK];omega
theorem aR8(p:Part):(mB φ p).enc.bulk<=41 * p.enc.bulk:=by
 have h1:=H p.cell;have h2:=aLM H p.at_;have h3:=aBp H p.left;have h4:=aDb H p.right;rw[wZ,wZ p];simp only[mB];omega
theorem aTD(r:Rul):(oD φ r).enc.bulk<=41 * r.enc.bulk:=by
 have h1:=H r.name;have h2:=nZ (mB φ) Part.enc r.parts (λp _=>aR8 H p);have h3:=aDb H r.cond
 have h4:=nZ (mP φ) Fresh.enc r.new (λf _=>by
  have:=aDb H f.cells;rw[wU,wU f];simp only[mP];omega)
 have h5:=aCZ H r.drop;rw[vA,vA r];simp only[oD];omega
theorem aTf(d:Dfn):cZ (wD φ d).cs<=41 * cZ d.cs:=by
 have h1:=H d.name;have h2:=aCZ H d.sig.sorts
 have h3:=nZ (pW φ) Below.enc d.sig.below (λx _=>by
  have:=H x.low;have:=H x.high;simp only[pW,Below.enc,Below.cs,A.bulk,cZ];omega)
 have h4:=nZ (fT (dT φ) φ) Opr.enc d.sig.ops (λo _=>aKZ H o);have h5:=nZ (fT (dT φ) φ) Opr.enc d.sig.funs (λo _=>aKZ H o);have h6:=aCZ H d.sig.values;have h7:=nZ (mM φ) Eqn.enc d.eqs (λo _=>aSI H o);have h8:=nZ (kK φ) Cel.enc d.once (λo _=>aK7 H o);have h9:=nZ (kK φ) Cel.enc d.many (λo _=>aK7 H o);have h10:=nZ (oD φ) Rul.enc d.rules (λo _=>aTD H o);have h11:=H d.kind;have h12:=H d.start;have h13:=H d.watch;rw[vB,vB d,aCu,aCu d.sig];simp only[wD,uK];omega
end
theorem aTV{a b:aC}{d:Dfn}(hI:∀o,o∈d.sig.ops->OprI o):∀o,o∈(iO a b d).sig.ops->OprI o:=by
 intro o ho;have ho':o∈d.sig.ops.map (fT (dT (fU (lJ a b))) (fU (lJ a b))):=ho;obtain⟨x,hx,rfl⟩:=cC.1 ho';exact⟨(hI x hx).s,(hI x hx).p⟩
theorem aRo{d:Dfn}{a b:aC}(hI:∀o,o∈d.sig.ops->OprI o)(hb:cZ d.cs<=1200000)(h:nD d a b=true) :
  DfnB (iO a b d)/\DfnC (iO a b d)/\nD (iO a b d) a b=true/\(iO a b (iO a b d)).same d=true:=by
 obtain⟨_,h2,h3⟩:=aR1 h;simp only[nD,cL]at h;have g:=aTf (aRi (aJg (aCN h.2.1).n) (aJg (aCN h.2.2).n)) d;have g2:cZ (iO a b d).cs<=60000000:=by unfold iO;omega
 exact⟨aFc (aTV hI) g2,aFm _ aB,h2,h3⟩
end
theorem aNf(d:Dfn)(a b:aC)(hI:∀o,o∈d.sig.ops->OprI o)(hb:cZ d.cs<=1048576)(ha:a.length<=1048576)(hb2:b.length<=1048576)(hW:yH d<=2 * cZ d.cs)(hS:d.sig.ops.length+d.sig.funs.length<=cZ d.cs)
  (s:St)(hN:NoW s)(KV Kp:St->A->Prop)(hk:KV s (.bool true)):Den cx 10 [d.enc,.str a,.str b] KV Kp s :=
 aNC d a b aB aB aB aB (aFc hI aB) (aFm d aB) (λh=>aRo hI aB h) s hN KV Kp hk
section
theorem aHz{H:Type}:∀l r:List (DataW H),YtamikhobdffnfaaGreatDoor.Rows.uptoBulkAll (l++r)=YtamikhobdffnfaaGreatDoor.Rows.uptoBulkAll l+YtamikhobdffnfaaGreatDoor.Rows.uptoBulkAll r
 | [],r=>by simp[YtamikhobdffnfaaGreatDoor.Rows.uptoBulkAll]
 | a::l,r=>by simp[YtamikhobdffnfaaGreatDoor.Rows.uptoBulkAll,aHz l r,oX]
mutual
def A.wm:A->Nat
 | .str x=>x.length
 | .list _ es=>max es.length (kI es)
 | .agg cs=>kI cs
 | _=>0
def kI:List A->Nat
 | []=>0
 | a::r=>max (A.wm a) (kI r)
end
theorem aNu(a:A):kI a.cells=a.wm:=by
 cases a<;>simp[A.cells,kI,A.wm]
theorem aE3:∀l r:List A,kI (l++r)=max (kI l) (kI r)
 | [],r=>by simp[kI]
 | a::l,r=>by simp[kI,aE3 l r,Nat.max_assoc]
theorem aJd{H:Type}{P:Program}{e:TypeId}:∀l r:List (DataW H),DataW.weightsAll P e (l++r)=DataW.weightsAll P e l++DataW.weightsAll P e r
 | [],r=>by simp[DataW.weightsAll]
 | a::l,r=>by simp[DataW.weightsAll,aJd l r]
section
variable {H:Type} {enc:TypeId × Value->H} {P:Program} {W:World} {base:Nat} {spare:Nat->Bool} {held:Bool} {g:Gh}
def iM(g:Gh)(W:World):Prop:=∀b cs e fr,W.heap[b]?=some (.cells cs e fr)->g.pi b=some cs.toList
def Cl(g:Gh)(l:List A)(cs:List Value):Prop:=l.length=cs.length/\∀(j:Nat) (c:A) (v:Value),l[j]?=some c->cs[j]?=some v->Rz g c v
theorem Cl.nil:Cl g [] []:=⟨rfl,λj c v h=>by cases h⟩
theorem Cl.app{l r:List A}{cs ds:List Value}(h1:Cl g l cs)(h2:Cl g r ds):Cl g (l++r) (cs++ds):=by
 refine⟨by rw[aG,aG,h1.1,h2.1],λj c v hc hv=>?_⟩;by_cases hj:j<l.length
 .rw[kC hj]at hc;rw[kC (by rw[<-h1.1];exact hj)]at hv;exact h1.2 j c v hc hv
 .rw[oT aB]at hc;rw[oT (by rw[<-h1.1];omega),<-h1.1]at hv;exact h2.2 _ c v hc hv
theorem Cl.one{a:A}{v:Value}(h:Rz g a v):Cl g [a] [v]:=⟨rfl,λj c w hc hw=>by
 cases j with
 | zero=>cases hc;cases hw;exact h
 | succ j=>cases hc⟩
theorem aLg(S:ByteArray):Rz g (.str S.data.toList) (.string S):=by
 have h:=Rz.str (g:=g) S.data.toList;have e:(⟨S.data.toList.toArray⟩:ByteArray)=S:=by cases S;simp
 rw[e]at h;exact h
def eQ(enc:TypeId × Value->H)(P:Program)(W:World)(base:Nat)(spare:Nat->Bool)(held:Bool)(g:Gh)(n:Nat)(t:TypeId)(Q:List A->Prop):Prop :=
 ∀fuel,fuel<=n->∀cs y,DataW.trod enc P W base spare held fuel t cs=some y->∃l,Q l/\cs.length=P.cellsOf t/\Cl g l cs/\cZ l+1<=YtamikhobdffnfaaGreatDoor.Rows.uptoBulk y.1/\∀N,(∀n,n∈DataW.weights P t y.1->n<=N)->kI l<=N
def aBa(P:Program):Nat->List Field->Bool
 | _,[]=>true
 | o,f::r=>Nat.beq f.offset o&&aBa P (o+P.cellsOf f.type) r
def aAk(P:Program):List Field->Nat
 | []=>0
 | f::r=>P.cellsOf f.type+aAk P r
inductive Each:List (List A->Prop)->List (List A)->Prop
 | nil:Each [] []
 | cons {Q:List A->Prop} {l:List A} {Qs:List (List A->Prop)} {ls:List (List A)} (h:Q l) (t:Each Qs ls):Each (Q::Qs) (l::ls)
inductive OpQs (enc:TypeId × Value->H) (P:Program) (W:World) (base:Nat) (spare:Nat->Bool) (held:Bool) (g:Gh) (n:Nat):List Field->List (List A->Prop)->Prop
 | nil:OpQs enc P W base spare held g n [] []
 | cons {f:Field} {Q:List A->Prop} {fs:List Field} {Qs:List (List A->Prop)} (h:eQ enc P W base spare held g n f.type Q) (t:OpQs enc P W base spare held g n fs Qs):OpQs enc P W base spare held g n (f::fs) (Q::Qs)
theorem aHn{n fuel:Nat}(hf:fuel<=n):∀{fs:List Field} {Qs:List (List A->Prop)} {o:Nat} {cs:List Value} {xs:List (DataW H × List MemPlace)},OpQs enc P W base spare held g n fs Qs->aBa P o fs=true->cs.length=o+aAk P fs ->
  fs.mapM (λf=>DataW.trod enc P W base spare held fuel f.type ((cs.drop f.offset).take (P.cellsOf f.type)))=some xs->∃ls,Each Qs ls/\Cl g ls.flatten (cs.drop o)/\cZ ls.flatten<=YtamikhobdffnfaaGreatDoor.Rows.uptoBulkAll (xs.map (·.1))/\∀N,(∀n,n∈DataW.weightsEach P (fs.map (·.type)) (xs.map (·.1))->n<=N)->kI ls.flatten<=N
 | [],_,o,cs,xs,.nil,_,hl,_=>⟨[],.nil,by
   have:cs.drop o=[]:=wH (by simp only[aAk]at hl;omega);rw[this];exact Cl.nil,by simp[cZ],λN _=>by simp[kI]⟩
 | f::fs,_,o,cs,xs,.cons h t,hch,hl,hm=>by
  simp only[aBa,cL]at hch;obtain⟨ho,hch⟩:=hch
  replace ho:=nI ho
  rw[List.mapM_cons]at hm;cases h1:DataW.trod enc P W base spare held fuel f.type ((cs.drop f.offset).take (P.cellsOf f.type))with
  | none=>rw[h1]at hm;cases hm
  | some y =>
   rw[h1]at hm;cases h2:fs.mapM (λf=>DataW.trod enc P W base spare held fuel f.type ((cs.drop f.offset).take (P.cellsOf f.type)))with
   | none=>rw[h2]at hm;cases hm
   | some ys =>
    rw[h2]at hm;cases hm;obtain⟨l,hQ,hlen,hc,hb1,hw1⟩:=h fuel hf _ _ h1;simp only[aAk]at hl;obtain⟨ls,hE,hcs,hb2,hw2⟩:=aHn hf t hch aB h2
    refine⟨l::ls,.cons hQ hE,?_,by rw[List.flatten_cons,tL,bS];simp only[YtamikhobdffnfaaGreatDoor.Rows.uptoBulkAll];omega,λN hN=>by
     rw[List.flatten_cons,aE3];simp only[bS,DataW.weightsEach,cW]at hN;exact Nat.max_le.2 ⟨hw1 N (λn hn=>hN n (.inl hn)),hw2 N (λn hn=>hN n (.inr hn))⟩⟩
    have e:cs.drop o=(cs.drop f.offset).take (P.cellsOf f.type)++cs.drop (o+P.cellsOf f.type):=by
     rw[ho,<-tI,List.take_append_drop]
    rw[e,List.flatten_cons];exact hc.app hcs
theorem aHV{n:Nat}{t:TypeId}{fs:Array Field}{Qs:List (List A->Prop)}{Q:List A->Prop}(ht:P.underlying t=some (.struct fs))(hch:aBa P 0 fs.toList=true)(hsz:P.cellsOf t=aAk P fs.toList)
  (h:OpQs enc P W base spare held g n fs.toList Qs)(hQ:∀ls,Each Qs ls->Q ls.flatten):eQ enc P W base spare held g (n+1) t Q:=by
 intro fuel hf cs y hy;cases fuel with
 | zero=>cases hy
 | succ fuel =>
  unfold DataW.trod at hy;rw[ht]at hy;simp only at hy;split at hy
  .rename_i hl;cases hm:fs.toList.mapM (λf=>DataW.trod enc P W base spare held fuel f.type ((cs.drop f.offset).take (P.cellsOf f.type)))with
   | none=>rw[hm]at hy;cases hy
   | some xs =>
    rw[hm]at hy;cases hy;obtain⟨ls,hE,hc,hb,hw⟩:=aHn aB h hch aB hm;rw[rY]at hc;exact⟨_,hQ ls hE,hl,hc,by simp only[YtamikhobdffnfaaGreatDoor.Rows.uptoBulk];omega,λN hN=>hw N (λn hn=>hN n (by simp only[DataW.weights,ht];exact hn))⟩
  .cases hy
theorem aBd{n:Nat}{t:TypeId}{k:IntKind}(ht:P.underlying t=some (.int k))(hc:P.cellsOf t=1):eQ enc P W base spare held g n t (λl=>∃i:Int,(Lit.int k i).wf=true/\l=[.int k i]):=by
 intro fuel hf cs y hy;cases fuel with
 | zero=>cases hy
 | succ fuel =>
  unfold DataW.trod at hy;rw[ht]at hy;simp only at hy;split at hy<;>try (cases hy;done)
  all_goals (rename_i heq;try (cases heq;done))
  all_goals (cases heq;split at hy<;>try (cases hy;done))
  rename_i hh;obtain⟨rfl,hw⟩:=hh;cases hy;exact⟨_,⟨_,hw,rfl⟩,hc.symm,Cl.one (.int _ _),by simp[cZ,A.bulk,YtamikhobdffnfaaGreatDoor.Rows.uptoBulk],λN _=>by simp[kI,A.wm]⟩
theorem aFP{n:Nat}{t:TypeId}(ht:P.underlying t=some .string)(hc:P.cellsOf t=1):eQ enc P W base spare held g n t (λl=>∃x:List UInt8,x.length<=maxLen/\l=[.str x]):=by
 intro fuel hf cs y hy;cases fuel with
 | zero=>cases hy
 | succ fuel =>
  unfold DataW.trod at hy;rw[ht]at hy;simp only at hy;split at hy<;>try (cases hy;done)
  all_goals (rename_i heq;try (cases heq;done))
  all_goals (split at hy<;>try (cases hy;done))
  rename_i hh;cases hy
  exact⟨_,⟨_,by simpa using hh,rfl⟩,hc.symm,Cl.one (aLg _),by simp[cZ,A.bulk,YtamikhobdffnfaaGreatDoor.Rows.uptoBulk],λN hN=>by
   simp only[DataW.weights,bW]at hN;have:=hN _ rfl;simpa [kI,A.wm]using this⟩
theorem aFx{α β:Type}{f:α->Option β}:∀{l:List α} {r:List β},l.mapM f=some r->r.length=l.length/\∀(j:Nat) (x:α),l[j]?=some x->∃y,r[j]?=some y/\f x=some y
 | [],r,h=>by
  rw[List.mapM_nil]at h;cases h;exact⟨rfl,λj x h=>by cases h⟩
 | a::l,r,h=>by
  rw[List.mapM_cons]at h;cases h1:f a with
  | none=>rw[h1]at h;cases h
  | some b =>
   rw[h1]at h;cases h2:l.mapM f with
   | none=>rw[h2]at h;cases h
   | some bs =>
    rw[h2]at h;cases h;obtain⟨hl,hg⟩:=aFx h2;refine⟨by simp[hl],λj x hx=>?_⟩;cases j with
    | zero=>cases hx;exact⟨b,rfl,h1⟩
    | succ j=>exact hg j x hx
theorem aPD{a:Addr}{n:Nat}{cs:List Value}(h:W.cells? base a n=some cs):cs.length=n/\∀(j:Nat) (v:Value),cs[j]?=some v->W.cell? (a.add j)=some v:=by
 unfold World.cells? at h;split at h
 .obtain⟨hl,hg⟩:=aFx h;rw[List.length_range]at hl;refine⟨hl,λj v hv=>?_⟩;have hj:j<n:=by rw[<-hl];exact(dV.1 hv).1
  obtain⟨y,h1,h2⟩:=hg j j (by rw[List.getElem?_range hj]);rw[hv]at h1;cases h1;exact h2
 .cases h
theorem aJO{a:Addr}{v:Value}(h:W.cell? a=some v):∃c e fr,W.heap[a.block]?=some (.cells c e fr)/\a.spot=none/\c.toList[a.off]?=some v:=by
 unfold World.cell? at h;split at h
 .rename_i c e fr hb;split at h
  .cases h
  .rename_i hs;refine⟨c,e,fr,hb,by simpa using hs,by simpa using h⟩
 .cases h
theorem aE5{α:Type}{n:Nat}{t e:TypeId}{en:α->A}{R:α->Prop}(ht:P.underlying t=some (.slice e))(hc:P.cellsOf t=1)(hk:iM g W)(h:eQ enc P W base spare held g n e (λl=>∃x,R x/\l=(en x).cells))
  (hsz:∀x,(en x).cells.length=P.cellsOf e)(h1:∀x c,c∈(en x).cells->c.one=true)(hpos:0<P.cellsOf e)(hby:0<P.bytesOf e):eQ enc P W base spare held g (n+1) t (λl=>∃xs:List α,(∀x,x∈xs->R x)/\xs.length<=maxLen/\l=[.list none (xs.map en)]):=by
 intro fuel hf cs y hy
 have one:∀{v:Value} {xs:List α},Rz g (.list none (xs.map en)) v->Cl g [.list none (xs.map en)] [v]:=λhr=>⟨rfl,λj c v hc hv=>by
  cases j with
  | zero=>cases hc;cases hv;exact hr
  | succ j=>cases hc⟩
 cases fuel with
 | zero=>cases hy
 | succ fuel =>
  unfold DataW.trod at hy;rw[ht]at hy;simp only at hy;split at hy<;>try (cases hy;done)
  all_goals (rename_i heq;try (cases heq;done))
  .cases hy;exact⟨_,⟨[],λx h=>(by cases h),aU _,rfl⟩,hc.symm,Cl.one (.list0 none none 0 (aU _) (λt h=>by cases h)),by simp[cZ,A.bulk,bQ,YtamikhobdffnfaaGreatDoor.Rows.uptoBulk],λN _=>by simp[kI,A.wm]⟩
  .rename_i a len cap;cases heq;split at hy<;>try (cases hy;done)
   rename_i hh;obtain⟨hb,hlc,hcm⟩:=hh;cases hm:(List.range len).mapM (λi=>(W.cells? base (a.add (i * P.cellsOf e)) (P.cellsOf e)).bind (DataW.trod enc P W base spare held fuel e))with
   | none=>rw[hm]at hy;cases hy
   | some ys =>
    obtain⟨hl,hg⟩:=aFx hm;rw[List.length_range]at hl;rw[hm]at hy;obtain⟨rest,_,rfl⟩:=qV.1 (show Option.map _ _=some y from hy)
    have hel:∀i,i<len->∃(x:α) (cs:List Value) (y:DataW H × List MemPlace),ys[i]?=some y/\((en x).bulk+1<=YtamikhobdffnfaaGreatDoor.Rows.uptoBulk y.1/\∀N,(∀n,n∈DataW.weights P e y.1->n<=N)->(en x).wm<=N)/\R x/\W.cells? base (a.add (i * P.cellsOf e)) (P.cellsOf e)=some cs/\Cl g (en x).cells cs:=by
     intro i hi;obtain⟨y,hyi,h2⟩:=hg i i (by rw[List.getElem?_range hi]);cases hcs:W.cells? base (a.add (i * P.cellsOf e)) (P.cellsOf e)with
     | none=>rw[hcs]at h2;cases h2
     | some cs =>
      rw[hcs]at h2;obtain⟨_,⟨x,hx,rfl⟩,_,hcl,hb,hw⟩:=h fuel aB cs y h2;rw[aMJ]at hb;rw[aNu]at hw;exact⟨x,cs,y,hyi,⟨hb,hw⟩,hx,rfl,hcl⟩
    have hxs:∀k,k<=len->∃xs:List α,(xs.length=k/\bQ (xs.map en)<=YtamikhobdffnfaaGreatDoor.Rows.uptoBulkAll ((ys.take k).map (·.1))/\∀N,(∀n,n∈DataW.weightsAll P e ((ys.take k).map (·.1))->n<=N)->kI (xs.map en)<=N)/\∀(i:Nat) (x:α),xs[i]?=some x->R x/\∃cs,W.cells? base (a.add (i * P.cellsOf e)) (P.cellsOf e)=some cs/\Cl g (en x).cells cs:=by
     intro k
     induction k with
     | zero=>exactλ_=>⟨[],⟨rfl,by simp[bQ],λN _=>by simp[kI]⟩,λi x h=>by cases h⟩
     | succ k ih =>
      intro hk2;obtain⟨xs,⟨h3,hb3,hw3⟩,h4⟩:=ih aB;obtain⟨x,cs,y2,hy2,⟨hb2,hw2⟩,h5,h6,h7⟩:=hel k aB
      have hbb:bQ ((xs++[x]).map en)<=YtamikhobdffnfaaGreatDoor.Rows.uptoBulkAll ((ys.take (k+1)).map (·.1)):=by
       rw[iS,hy2,cV,cV,aER,aHz];simp only[bS,cY,bQ,Option.toList,YtamikhobdffnfaaGreatDoor.Rows.uptoBulkAll];omega
      refine⟨xs++[x],⟨by simp[h3],hbb,λN hN=>?_⟩,λi z hz=>?_⟩
      .rw[iS,hy2,cV,aJd]at hN;simp only[cW,Option.toList,bS,cY,DataW.weightsAll,eM]at hN;rw[cV,aE3];refine Nat.max_le.2 ⟨hw3 N (λn hn=>hN n (.inl hn)),?_⟩;have:=hw2 N (λn hn=>hN n (.inr hn));simpa [kI]using this
      by_cases hi:i<xs.length
      .rw[kC hi]at hz;exact h4 i z hz
      .rw[oT aB]at hz
       have:i-xs.length=0:=by
        have:=(dV.1 hz).1;simp at this;omega
       rw[this]at hz;cases hz;have:i=k:=by omega
       subst this;exact⟨h5,cs,h6,h7⟩
    obtain⟨xs,⟨hxl,hxb,hxw⟩,hx⟩:=hxs len (bT _)
    have hbb:cZ [.list none (xs.map en)]+1<=YtamikhobdffnfaaGreatDoor.Rows.uptoBulk (DataW.slice (ys.map (·.1)) (rest.map (·.1))):=by
     rw[dW aB]at hxb;simp only[cZ,A.bulk,YtamikhobdffnfaaGreatDoor.Rows.uptoBulk];omega
    have hww:∀N,(∀n,n∈DataW.weights P t (DataW.slice (ys.map (·.1)) (rest.map (·.1)))->n<=N)->kI [.list none (xs.map en)]<=N:=λN hN=>by
     simp only[DataW.weights,ht,eB,cW]at hN;rw[dW aB]at hxw;have h1:=hxw N (λn hn=>hN n (.inr (.inl hn)));have h2:=hN _ (.inl rfl)
     have h3:xs.length<=((ys.map (·.1)).length+(rest.map (·.1)).length) * P.bytesOf e:=by
      rw[aH,aH];exact nM aB (Nat.le_mul_of_pos_right _ hby)
     simp only[kI,A.wm,aH];exact Nat.max_le.2 ⟨Nat.max_le.2 ⟨nM h3 h2,h1⟩,aU _⟩
    refine⟨_,⟨xs,λx hm=>?_,by omega,rfl⟩,hc.symm,Cl.one ?_,hbb,hww⟩
    .obtain⟨i,hi,rfl⟩:=kN hm;exact(hx i _ (aY hi)).1
    .by_cases h0:len=0
     .subst h0;have:xs=[]:=fK hxl;subst this;exact .list0 none (some a) cap hcm (λt h=>by cases h)
     .have cellAt:∀(i:Nat) (x:α) (j:Nat) (c:A),xs[i]?=some x->(en x).cells[j]?=some c->∃v,W.cell? ((a.add (i * P.cellsOf e)).add j)=some v/\Rz g c v:=by
       intro i x j c hi hj;obtain⟨_,cs,h6,h7⟩:=hx i x hi;obtain⟨_,h8⟩:=aPD h6;have hjl:j<cs.length:=by rw[<-h7.1];exact(dV.1 hj).1
       exact⟨_,h8 j _ (aY hjl),h7.2 j c _ hj (aY hjl)⟩
      obtain⟨x0,hx0⟩:∃x,xs[0]?=some x:=⟨_,aY aB⟩
      obtain⟨c0,hc0⟩:∃c,(en x0).cells[0]?=some c:=⟨_,aY (by rw[hsz];exact hpos)⟩
      obtain⟨v0,hv0,_⟩:=cellAt 0 x0 0 c0 hx0 hc0;have ea:(a.add (0 * P.cellsOf e)).add 0=a:=by simp[Addr.add]
      rw[ea]at hv0;obtain⟨cc,ee,fr,hheap,hspot,_⟩:=aJO hv0;obtain⟨b,off,spot⟩:=a;simp only at hspot hheap;subst hspot
      have eadd:∀i j,((⟨b,off,none⟩:Addr).add (i * P.cellsOf e)).add j=⟨b,off+i * P.cellsOf e+j,none⟩:=by
       intro i j;unfold Addr.add;by_cases h1:i * P.cellsOf e=0<;>by_cases h2:j=0<;>simp[h1,h2]
      have pre:∀(i:Nat) (x:α) (j:Nat) (c:A),xs[i]?=some x->(en x).cells[j]?=some c->∃v,cc.toList[off+i * P.cellsOf e+j]?=some v/\Rz g c v:=by
       intro i x j c hi hj;obtain⟨v,h8,h9⟩:=cellAt i x j c hi hj;rw[eadd]at h8;obtain⟨c2,e2,f2,h10,_,h11⟩:=aJO h8;simp only at h10 h11;rw[hheap]at h10;cases h10;exact⟨v,h11,h9⟩
      have hlen2:(xs.map en).length=len:=by rw[aH,hxl]
      have hgoal:=Rz.list (g:=g) none (xs.map en) b off (P.cellsOf e) cap cc.toList (hk b cc ee fr hheap) (by
       rw[hlen2];obtain⟨xl,hxl2⟩:∃x,xs[len-1]?=some x:=⟨_,aY aB⟩
       obtain⟨cl,hcl⟩:∃c,(en xl).cells[P.cellsOf e-1]?=some c:=⟨_,aY (by rw[hsz];omega)⟩
       obtain⟨v,hv,_⟩:=pre (len-1) xl (P.cellsOf e-1) cl hxl2 hcl;have:=(dV.1 hv).1
       have e3:(len-1) * P.cellsOf e+P.cellsOf e=len * P.cellsOf e:=by
        rw[<-Nat.succ_mul];congr 1;omega
       omega) aB hcm
       (fun y hy => by
        obtain⟨x,_,rfl⟩:=cC.1 hy;exact hsz x)
       (fun y hy => by
        obtain⟨x,_,rfl⟩:=cC.1 hy;exact h1 x)
       (fun i y j c v hi hj hv => by
        rw[lB]at hi;cases hxi:xs[i]? with
        | none=>rw[hxi]at hi;cases hi
        | some x =>
         rw[hxi]at hi;cases hi;obtain⟨w,hw,hr⟩:=pre i x j c hxi hj;rw[hv]at hw;cases hw;exact hr)
       (λt h=>by cases h)
      rw[hlen2]at hgoal;exact hgoal
end
end
section
section
variable {H:Type} {enc:TypeId × Value->H} {P:Program} {W W':World} {base:Nat} {spare:Nat->Bool} {held:Bool}
def Old(W W':World):Prop:=∀k,k<W.heap.size->W'.heap[k]?=W.heap[k]?
theorem Old.get(h:Old W W'){b:Nat}{o:Obj}(hb:W.heap[b]?=some o):W'.heap[b]?=some o:=by
 rw[h b (jA.1 hb).1];exact hb
theorem Old.cell(h:Old W W'){a:Addr}{v:Value}(hc:W.cell? a=some v):W'.cell? a=some v:=by
 unfold World.cell? at hc⊢;split at hc
 .rename_i c e fr hb;rw[h.get hb];exact hc
 .cases hc
theorem xN{α β:Type}{f f':α->Option β}(h:∀x y,f x=some y->f' x=some y):∀{l:List α} {r:List β},l.mapM f=some r->l.mapM f'=some r
 | [],r,hm=>hm
 | a::l,r,hm=>by
  rw[List.mapM_cons]at hm⊢;cases h1:f a with
  | none=>rw[h1]at hm;cases hm
  | some b =>
   rw[h1]at hm;cases h2:l.mapM f with
   | none=>rw[h2]at hm;cases hm
   | some bs =>
    rw[h2]at hm;rw[h a b h1,xN h h2];exact hm
theorem aCL{α β:Type}{x x':Option α}{k k':α->Option β}{y:β}(hx:∀a,x=some a->x'=some a)(hk:∀a y,k a=some y->k' a=some y)(h:x.bind k=some y):x'.bind k'=some y:=by
 cases h1:x with
 | none=>rw[h1]at h;cases h
 | some a=>rw[h1]at h;rw[hx a h1];exact hk a y h
theorem zU{α β:Type}{x x':Option α}{k:α->β}{y:β}(hx:∀a,x=some a->x'=some a)(h:x.map k=some y):x'.map k=some y:=by
 cases h1:x with
 | none=>rw[h1]at h;cases h
 | some a=>rw[h1]at h;rw[hx a h1];exact h
theorem Old.cells(h:Old W W'){a:Addr}{n:Nat}{cs:List Value}(hc:W.cells? base a n=some cs):W'.cells? base a n=some cs:=by
 unfold World.cells? at hc⊢;split at hc
 .rename_i hb;rw[if_pos hb];exact xN (λx y=>h.cell) hc
 .cases hc
theorem aIg(h:Old W W'):∀(fuel:Nat) (t:TypeId) (cs:List Value) (x:DataW H × List MemPlace),DataW.trod enc P W base spare held fuel t cs=some x->DataW.trod enc P W' base spare held fuel t cs=some x
 | 0,t,cs,x,hx=>by cases hx
 | fuel+1,t,cs,x,hx=>by
  have ih:=aIg h fuel
  have el:∀(e:TypeId) (a:Addr) (n:Nat) (y:DataW H × List MemPlace),(W.cells? base a n).bind (DataW.trod enc P W base spare held fuel e)=some y->(W'.cells? base a n).bind (DataW.trod enc P W' base spare held fuel e)=some y :=
   λe a n y=>aCL (λcs=>h.cells) (λcs y=>ih e cs y)
  unfold DataW.trod at hx⊢;split at hx<;>(try simp only at hx⊢)<;>(try exact hx)
  case h_6=>exact zU (λy=>el _ _ _ y) hx
  case h_8 =>
   split at hx
   .rename_i hh;rw[if_pos hh];refine aCL (λy=>xN (λi y=>el _ _ _ y)) (λelems y=>zU (λr hr=>?_)) hx;split at hr
    .rename_i hs;rw[if_pos hs];exact xN (λi y=>el _ _ _ y) hr
    .rename_i hs;rw[if_neg hs];exact hr
   .cases hx
  case h_9 =>
   split at hx
   .rename_i hh;rw[if_pos hh];exact zU (λy=>xN (λf y=>ih _ _ y)) hx
   .cases hx
  case h_10 =>
   split at hx
   .rename_i hh;rw[if_pos hh];exact zU (λy=>xN (λf y=>ih _ _ y)) hx
   .cases hx
  case h_12 =>
   split at hx<;>(try simp only at hx⊢)<;>(try exact hx)
   exact zU (λy=>ih _ _ y) hx
  case h_14 =>
   split at hx
   .rename_i es clock hb;rw[h.get hb];simp only;split at hx
    .rename_i hh;rw[if_pos hh];refine aCL (λy=>xN (λf y=>aCL (λk hk=>hk) (λk z hz=>?_))) (λa y hy=>hy) hx;split at hz
     .rename_i hf;simp only[hf,if_true];exact zU (λy=>ih _ _ y) hz
     .cases hz
    .cases hx
   .cases hx
theorem aHi(h:Old W W'):∀{ts:List TypeId} {vs:List Value} {ds:List (DataW H)} {ps:List MemPlace},DataW.TrodAll enc P W base spare held ts vs ds ps->DataW.TrodAll enc P W' base spare held ts vs ds ps
 | [],[],[],ps,hh=>hh
 | t::ts,v::vs,d::ds,ps,⟨p,q,⟨fuel,hf⟩,h2,e⟩=>⟨p,q,⟨fuel,aIg h _ _ _ _ hf⟩,aHi h h2,e⟩
end
end
section
section
variable {H:Type} {enc:TypeId × Value->H} {W:World} {base:Nat} {spare:Nat->Bool} {held:Bool} {g:Gh}
theorem aAW{P:Program}{t:TypeId}{Q:List A->Prop}:eQ enc P W base spare held g 0 t Q:=λfuel hf cs y hy=>by
 obtain rfl:fuel=0:=by omega
 cases hy
theorem mC{P:Program}{n:Nat}{t:TypeId}{Q R:List A->Prop}(h:eQ enc P W base spare held g n t Q)(hr:∀l,Q l->R l):eQ enc P W base spare held g n t R:=λfuel hf cs y hy=>by
 obtain⟨l,h1,h2⟩:=h fuel hf cs y hy;exact⟨l,hr l h1,h2⟩
theorem aSi(x:Tm):x.enc.cells.length=6:=by rw[dH];rfl
theorem aTC(x:Tm):∀c,c∈x.enc.cells->c.one=true:=by
 rw[dH];intro c hc;simp only[A.cells,Tm.cs,eB,List.mem_nil_iff,fH]at hc;rcases hc with rfl|rfl|rfl|rfl|rfl|rfl<;>rfl
theorem aGf(hk:iM g W):∀n,eQ enc prog W base spare held g n 43 (λl=>∃x:Tm,True/\l=x.enc.cells) /\
  eQ enc prog W base spare held g n 41 (λl=>∃xs:List Tm,(∀x,x∈xs->True)/\xs.length<=maxLen/\l=[.list none (xs.map Tm.enc)])
 | 0=>⟨aAW,aAW⟩
 | n+1=>by
  obtain⟨h1,h2⟩:=aGf hk n;refine⟨?_,aE5 underlying41 (by kernel_rfl) hk h1 (λx=>(aSi x).trans (by kernel_rfl)) aTC (by rw[show prog.cellsOf 43=6 by kernel_rfl];omega) (lM (by kernel_rfl))⟩;refine aHV underlying43 (by kernel_rfl) (by kernel_rfl) (.cons (aBd underlying40 (by kernel_rfl)) (.cons (aBd underlying3 (by kernel_rfl)) (.cons (aFP underlying9 (by kernel_rfl)) (.cons (aFP underlying9 (by kernel_rfl)) (.cons h2 (.cons h2 .nil)))))) ?_
  .intro ls hE;cases hE with|cons q1 hE =>
   cases hE with|cons q2 hE =>
   cases hE with|cons q3 hE =>
   cases hE with|cons q4 hE =>
   cases hE with|cons q5 hE =>
   cases hE with|cons q6 hE =>
   cases hE;obtain⟨k,_,rfl⟩:=q1;obtain⟨m,_,rfl⟩:=q2;obtain⟨x,_,rfl⟩:=q3;obtain⟨y,_,rfl⟩:=q4;obtain⟨a,_,_,rfl⟩:=q5;obtain⟨b,_,_,rfl⟩:=q6;exact⟨.mk k m x y a b,trivial,by rw[dH];rfl⟩
end
end
section
section
variable {H:Type} {enc:TypeId × Value->H} {W:World} {base:Nat} {spare:Nat->Bool} {held:Bool} {g:Gh}
theorem uW{P:Program}{α:Type}{t e:TypeId}{en:α->A}(ht:P.underlying t=some (.slice e))(hc:P.cellsOf t=1)(hk:iM g W)(h:∀n,eQ enc P W base spare held g n e (λl=>∃x,l=(en x).cells))
  (hsz:∀x,(en x).cells.length=P.cellsOf e)(h1:∀x c,c∈(en x).cells->c.one=true)(hpos:0<P.cellsOf e)(hby:0<P.bytesOf e):∀n,eQ enc P W base spare held g n t (λl=>∃xs:List α,l=[.list none (xs.map en)])
 | 0=>aAW
 | n+1=>mC (aE5 (R:=λ_=>True) ht hc hk (mC (h n) (λl ⟨x,e⟩=>⟨x,trivial,e⟩)) hsz h1 hpos hby) (λl ⟨xs,_,_,e⟩=>⟨xs,e⟩)
theorem aHQ{P:Program}{α:Type}{t e:TypeId}{en:α->A}{R:α->Prop}(ht:P.underlying t=some (.slice e))(hc:P.cellsOf t=1)(hk:iM g W)(h:∀n,eQ enc P W base spare held g n e (λl=>∃x,R x/\l=(en x).cells))
  (hsz:∀x,(en x).cells.length=P.cellsOf e)(h1:∀x c,c∈(en x).cells->c.one=true)(hpos:0<P.cellsOf e)(hby:0<P.bytesOf e):∀n,eQ enc P W base spare held g n t (λl=>∃xs:List α,(∀x,x∈xs->R x)/\l=[.list none (xs.map en)])
 | 0=>aAW
 | n+1=>mC (aE5 ht hc hk (h n) hsz h1 hpos hby) (λl ⟨xs,h,_,e⟩=>⟨xs,h,e⟩)
theorem rZ{P:Program}{t:TypeId}{fs:Array Field}{Qs:List (List A->Prop)}{Q:List A->Prop}(ht:P.underlying t=some (.struct fs))(hch:aBa P 0 fs.toList=true)(hsz:P.cellsOf t=aAk P fs.toList)
  (h:∀n,OpQs enc P W base spare held g n fs.toList Qs)(hQ:∀ls,Each Qs ls->Q ls.flatten):∀n,eQ enc P W base spare held g n t Q
 | 0=>aAW
 | n+1=>aHV ht hch hsz (h n) hQ
theorem vH(n:Nat):eQ enc prog W base spare held g n 3 (λl=>∃i:Int,l=[.int .i64 i]):=mC (aBd underlying3 (by kernel_rfl)) (λl ⟨i,_,e⟩=>⟨i,e⟩)
theorem aJx(n:Nat):eQ enc prog W base spare held g n 3 (λl=>∃i:Int,(-9223372036854775808<=i/\i<=9223372036854775807)/\l=[.int .i64 i]):=mC (aBd underlying3 (by kernel_rfl)) (λl ⟨i,h,e⟩=>⟨i,by
 simp only[Lit.wf,cL,cU]at h;exact h,e⟩)
theorem aQs(n:Nat):eQ enc prog W base spare held g n 70 (λl=>∃i:Int,l=[.int .i64 i]):=mC (aBd underlying70 (by kernel_rfl)) (λl ⟨i,_,e⟩=>⟨i,e⟩)
theorem nA(n:Nat):eQ enc prog W base spare held g n 9 (λl=>∃x:List UInt8,l=[.str x]):=mC (aFP underlying9 (by kernel_rfl)) (λl ⟨i,_,e⟩=>⟨i,e⟩)
theorem aDn(hk:iM g W)(n:Nat):eQ enc prog W base spare held g n 43 (λl=>∃x:Tm,l=x.cs):=mC (aGf hk n).1 (λl ⟨x,_,e⟩=>⟨x,by rw[e,dH];rfl⟩)
theorem aDd(hk:iM g W)(n:Nat):eQ enc prog W base spare held g n 41 (λl=>∃xs:List Tm,l=[.list none (xs.map Tm.enc)]):=mC (aGf hk n).2 (λl ⟨x,_,_,e⟩=>⟨x,e⟩)
theorem aCP(hk:iM g W):∀n,eQ enc prog W base spare held g n 24 (λl=>∃xs:List (List UInt8),l=[.list none (xs.map .str)]) :=
 uW underlying24 (by kernel_rfl) hk nA (λx=>(by kernel_rfl:1=prog.cellsOf 9)) (λx c hc=>by simp only[A.cells,bW]at hc;subst hc;rfl) (by rw[show prog.cellsOf 9=1 by kernel_rfl];omega) (lM (by kernel_rfl))
theorem aRr(hk:iM g W):∀n,eQ enc prog W base spare held g n 71 (λl=>∃xs:List Int,(∀i,i∈xs->-9223372036854775808<=i/\i<=9223372036854775807)/\l=[.list none (xs.map (.int .i64))]) :=
 aHQ (R:=λi=>-9223372036854775808<=i/\i<=9223372036854775807) underlying71 (by kernel_rfl) hk aJx (λx=>(by kernel_rfl:1=prog.cellsOf 3)) (λx c hc=>by simp only[A.cells,bW]at hc;subst hc;rfl) (by rw[show prog.cellsOf 3=1 by kernel_rfl];omega) (lM (by kernel_rfl))
theorem aRe(n:Nat):eQ enc prog W base spare held g n 104 (λl=>∃x:Below,l=x.cs) :=
 rZ underlying104 (by kernel_rfl) (by kernel_rfl) (λn=>.cons (nA n) (.cons (nA n) .nil)) (λls hE=>by
  cases hE with|cons q1 hE =>
  cases hE with|cons q2 hE =>
  cases hE;obtain⟨a,rfl⟩:=q1;obtain⟨b,rfl⟩:=q2;exact⟨⟨a,b⟩,rfl⟩) n
theorem aQx(n:Nat):eQ enc prog W base spare held g n 143 (λl=>∃x:Piece,l=x.cs) :=
 rZ underlying143 (by kernel_rfl) (by kernel_rfl) (λn=>.cons (nA n) (.cons (nA n) .nil)) (λls hE=>by
  cases hE with|cons q1 hE =>
  cases hE with|cons q2 hE =>
  cases hE;obtain⟨a,rfl⟩:=q1;obtain⟨b,rfl⟩:=q2;exact⟨⟨a,b⟩,rfl⟩) n
end
end
section
section
variable {H:Type} {enc:TypeId × Value->H} {W:World} {base:Nat} {spare:Nat->Bool} {held:Bool} {g:Gh}
theorem aFX(x:Tm):∀c,c∈x.cs->c.one=true:=by
 intro c hc;simp only[Tm.cs,eB,List.mem_nil_iff,fH]at hc;rcases hc with rfl|rfl|rfl|rfl|rfl|rfl<;>rfl
theorem aPU(x:Below):∀c,c∈x.enc.cells->c.one=true:=by
  intro c hc;simp only[Below.enc,A.cells,Below.cs,eB,List.mem_nil_iff,fH]at hc
  repeat' (first|(subst hc;rfl)|(rcases hc with hc|hc))
theorem aPC(hk:iM g W):∀n,eQ enc prog W base spare held g n 25 (λl=>∃xs:List Below,l=[.list none (xs.map Below.enc)]) :=
 uW underlying25 (by kernel_rfl) hk (λn=>mC (aRe n) (λl ⟨x,e⟩=>⟨x,e⟩)) (λx=>(show x.enc.cells.length=2 from rfl).trans (by kernel_rfl)) aPU (by rw[show prog.cellsOf 104=2 by kernel_rfl];omega) (lM (by kernel_rfl))
theorem aPW(x:Piece):∀c,c∈x.enc.cells->c.one=true:=by
  intro c hc;simp only[Piece.enc,A.cells,Piece.cs,eB,List.mem_nil_iff,fH]at hc
  repeat' (first|(subst hc;rfl)|(rcases hc with hc|hc))
theorem aPI(hk:iM g W):∀n,eQ enc prog W base spare held g n 69 (λl=>∃xs:List Piece,l=[.list none (xs.map Piece.enc)]) :=
 uW underlying69 (by kernel_rfl) hk (λn=>mC (aQx n) (λl ⟨x,e⟩=>⟨x,e⟩)) (λx=>(show x.enc.cells.length=2 from rfl).trans (by kernel_rfl)) aPW (by rw[show prog.cellsOf 143=2 by kernel_rfl];omega) (lM (by kernel_rfl))
theorem aSM(hk:iM g W)(n:Nat):eQ enc prog W base spare held g n 73 (λl=>∃x:Opr,OprI x/\l=x.cs) :=
 rZ underlying73 (by kernel_rfl) (by kernel_rfl) (λn=>.cons (nA n) (.cons (aCP hk n) (.cons (nA n) (.cons (aPI hk n) (.cons (aJx n) (.cons (aQs n) (.cons (aRr hk n) .nil))))))) (λls hE=>by
  cases hE with|cons q0 hE =>
  cases hE with|cons q1 hE =>
  cases hE with|cons q2 hE =>
  cases hE with|cons q3 hE =>
  cases hE with|cons q4 hE =>
  cases hE with|cons q5 hE =>
  cases hE with|cons q6 hE =>
  cases hE;obtain⟨a0,rfl⟩:=q0;obtain⟨a1,rfl⟩:=q1;obtain⟨a2,rfl⟩:=q2;obtain⟨a3,rfl⟩:=q3;obtain⟨a4,h4,rfl⟩:=q4;obtain⟨a5,rfl⟩:=q5;obtain⟨a6,h6,rfl⟩:=q6;exact⟨⟨a0,a1,a2,a3,a4,a5,a6⟩,⟨h6,h4.2⟩,by simp only[Opr.cs,List.flatten_cons,List.flatten_nil,eM,aV,aW]⟩) n
theorem aSa(x:Opr):∀c,c∈x.enc.cells->c.one=true:=by
  intro c hc;simp only[Opr.enc,A.cells,Opr.cs,eB,List.mem_nil_iff,fH]at hc
  repeat' (first|(subst hc;rfl)|(rcases hc with hc|hc))
theorem aKE(hk:iM g W):∀n,eQ enc prog W base spare held g n 26 (λl=>∃xs:List Opr,(∀x,x∈xs->OprI x)/\l=[.list none (xs.map Opr.enc)]) :=
 aHQ (R:=OprI) underlying26 (by kernel_rfl) hk (λn=>mC (aSM hk n) (λl ⟨x,h,e⟩=>⟨x,h,e⟩)) (λx=>(show x.enc.cells.length=7 from rfl).trans (by kernel_rfl)) aSa (by rw[show prog.cellsOf 73=7 by kernel_rfl];omega) (lM (by kernel_rfl))
theorem aSJ(hk:iM g W)(n:Nat):eQ enc prog W base spare held g n 28 (λl=>∃x:Sig,(∀o,o∈x.ops->OprI o)/\l=x.cs) :=
 rZ underlying28 (by kernel_rfl) (by kernel_rfl) (λn=>.cons (aCP hk n) (.cons (aPC hk n) (.cons (aKE hk n) (.cons (aKE hk n) (.cons (aCP hk n) .nil))))) (λls hE=>by
  cases hE with|cons q0 hE =>
  cases hE with|cons q1 hE =>
  cases hE with|cons q2 hE =>
  cases hE with|cons q3 hE =>
  cases hE with|cons q4 hE =>
  cases hE;obtain⟨a0,rfl⟩:=q0;obtain⟨a1,rfl⟩:=q1;obtain⟨a2,h2,rfl⟩:=q2;obtain⟨a3,_,rfl⟩:=q3;obtain⟨a4,rfl⟩:=q4;exact⟨⟨a0,a1,a2,a3,a4⟩,h2,by simp only[Sig.cs,List.flatten_cons,List.flatten_nil,eM,aV,aW]⟩) n
theorem aTy(hk:iM g W)(n:Nat):eQ enc prog W base spare held g n 80 (λl=>∃x:Eqn,l=x.cs) :=
 rZ underlying80 (by kernel_rfl) (by kernel_rfl) (λn=>.cons (aDn hk n) (.cons (aDn hk n) (.cons (aDd hk n) (.cons (vH n) (.cons (vH n) .nil))))) (λls hE=>by
  cases hE with|cons q0 hE =>
  cases hE with|cons q1 hE =>
  cases hE with|cons q2 hE =>
  cases hE with|cons q3 hE =>
  cases hE with|cons q4 hE =>
  cases hE;obtain⟨a0,rfl⟩:=q0;obtain⟨a1,rfl⟩:=q1;obtain⟨a2,rfl⟩:=q2;obtain⟨a3,rfl⟩:=q3;obtain⟨a4,rfl⟩:=q4;exact⟨⟨a0,a1,a2,a3,a4⟩,by simp only[Eqn.cs,List.flatten_cons,List.flatten_nil,eM,aV,aW]⟩) n
theorem aR4(x:Eqn):∀c,c∈x.enc.cells->c.one=true:=by
  intro c hc;simp only[Eqn.enc,A.cells,Eqn.cs,cW,eB,List.mem_nil_iff,fH]at hc
  repeat' (first|(subst hc;rfl)|exact aFX _ c hc|(rcases hc with hc|hc))
theorem aRC(hk:iM g W):∀n,eQ enc prog W base spare held g n 29 (λl=>∃xs:List Eqn,l=[.list none (xs.map Eqn.enc)]) :=
 uW underlying29 (by kernel_rfl) hk (λn=>mC (aTy hk n) (λl ⟨x,e⟩=>⟨x,e⟩)) (λx=>(show x.enc.cells.length=15 from rfl).trans (by kernel_rfl)) aR4 (by rw[show prog.cellsOf 80=15 by kernel_rfl];omega) (lM (by kernel_rfl))
theorem aSR(hk:iM g W)(n:Nat):eQ enc prog W base spare held g n 68 (λl=>∃x:Cel,l=x.cs) :=
 rZ underlying68 (by kernel_rfl) (by kernel_rfl) (λn=>.cons (nA n) (.cons (nA n) (.cons (aDn hk n) (.cons (vH n) (.cons (vH n) .nil))))) (λls hE=>by
  cases hE with|cons q0 hE =>
  cases hE with|cons q1 hE =>
  cases hE with|cons q2 hE =>
  cases hE with|cons q3 hE =>
  cases hE with|cons q4 hE =>
  cases hE;obtain⟨a0,rfl⟩:=q0;obtain⟨a1,rfl⟩:=q1;obtain⟨a2,rfl⟩:=q2;obtain⟨a3,rfl⟩:=q3;obtain⟨a4,rfl⟩:=q4;exact⟨⟨a0,a1,a2,a3,a4⟩,by simp only[Cel.cs,List.flatten_cons,List.flatten_nil,eM,aV,aW]⟩) n
theorem aRP(x:Cel):∀c,c∈x.enc.cells->c.one=true:=by
  intro c hc;simp only[Cel.enc,A.cells,Cel.cs,cW,eB,List.mem_nil_iff,fH]at hc
  repeat' (first|(subst hc;rfl)|exact aFX _ c hc|(rcases hc with hc|hc))
theorem aKn(hk:iM g W):∀n,eQ enc prog W base spare held g n 30 (λl=>∃xs:List Cel,l=[.list none (xs.map Cel.enc)]) :=
 uW underlying30 (by kernel_rfl) hk (λn=>mC (aSR hk n) (λl ⟨x,e⟩=>⟨x,e⟩)) (λx=>(show x.enc.cells.length=10 from rfl).trans (by kernel_rfl)) aRP (by rw[show prog.cellsOf 68=10 by kernel_rfl];omega) (lM (by kernel_rfl))
theorem aRz(hk:iM g W)(n:Nat):eQ enc prog W base spare held g n 86 (λl=>∃x:Part,l=x.cs) :=
 rZ underlying86 (by kernel_rfl) (by kernel_rfl) (λn=>.cons (nA n) (.cons (nA n) (.cons (aDn hk n) (.cons (aDd hk n) (.cons (vH n) (.cons (vH n) .nil)))))) (λls hE=>by
  cases hE with|cons q0 hE =>
  cases hE with|cons q1 hE =>
  cases hE with|cons q2 hE =>
  cases hE with|cons q3 hE =>
  cases hE with|cons q4 hE =>
  cases hE with|cons q5 hE =>
  cases hE;obtain⟨a0,rfl⟩:=q0;obtain⟨a1,rfl⟩:=q1;obtain⟨a2,rfl⟩:=q2;obtain⟨a3,rfl⟩:=q3;obtain⟨a4,rfl⟩:=q4;obtain⟨a5,rfl⟩:=q5;exact⟨⟨a0,a1,a2,a3,a4,a5⟩,by simp only[Part.cs,List.flatten_cons,List.flatten_nil,eM,aV,aW]⟩) n
theorem aQv(x:Part):∀c,c∈x.enc.cells->c.one=true:=by
  intro c hc;simp only[Part.enc,A.cells,Part.cs,cW,eB,List.mem_nil_iff,fH]at hc
  repeat' (first|(subst hc;rfl)|exact aFX _ c hc|(rcases hc with hc|hc))
theorem aQk(hk:iM g W):∀n,eQ enc prog W base spare held g n 81 (λl=>∃xs:List Part,l=[.list none (xs.map Part.enc)]) :=
 uW underlying81 (by kernel_rfl) hk (λn=>mC (aRz hk n) (λl ⟨x,e⟩=>⟨x,e⟩)) (λx=>(show x.enc.cells.length=11 from rfl).trans (by kernel_rfl)) aQv (by rw[show prog.cellsOf 86=11 by kernel_rfl];omega) (lM (by kernel_rfl))
theorem aP5(hk:iM g W)(n:Nat):eQ enc prog W base spare held g n 141 (λl=>∃x:Fresh,l=x.cs) :=
 rZ underlying141 (by kernel_rfl) (by kernel_rfl) (λn=>.cons (aDd hk n) .nil) (λls hE=>by
  cases hE with|cons q0 hE =>
  cases hE;obtain⟨a0,rfl⟩:=q0;exact⟨⟨a0⟩,by simp only[Fresh.cs,List.flatten_cons,List.flatten_nil,eM,aV,aW]⟩) n
theorem aPM(x:Fresh):∀c,c∈x.enc.cells->c.one=true:=by
  intro c hc;simp only[Fresh.enc,A.cells,Fresh.cs,eB,List.mem_nil_iff,fH]at hc
  repeat' (first|(subst hc;rfl)|(rcases hc with hc|hc))
theorem aPz(hk:iM g W):∀n,eQ enc prog W base spare held g n 82 (λl=>∃xs:List Fresh,l=[.list none (xs.map Fresh.enc)]) :=
 uW underlying82 (by kernel_rfl) hk (λn=>mC (aP5 hk n) (λl ⟨x,e⟩=>⟨x,e⟩)) (λx=>(show x.enc.cells.length=1 from rfl).trans (by kernel_rfl)) aPM (by rw[show prog.cellsOf 141=1 by kernel_rfl];omega) (lM (by kernel_rfl))
theorem aSS(hk:iM g W)(n:Nat):eQ enc prog W base spare held g n 84 (λl=>∃x:Rul,l=x.cs) :=
 rZ underlying84 (by kernel_rfl) (by kernel_rfl) (λn=>.cons (nA n) (.cons (aQk hk n) (.cons (aDd hk n) (.cons (aPz hk n) (.cons (aCP hk n) (.cons (vH n) (.cons (vH n) .nil))))))) (λls hE=>by
  cases hE with|cons q0 hE =>
  cases hE with|cons q1 hE =>
  cases hE with|cons q2 hE =>
  cases hE with|cons q3 hE =>
  cases hE with|cons q4 hE =>
  cases hE with|cons q5 hE =>
  cases hE with|cons q6 hE =>
  cases hE;obtain⟨a0,rfl⟩:=q0;obtain⟨a1,rfl⟩:=q1;obtain⟨a2,rfl⟩:=q2;obtain⟨a3,rfl⟩:=q3;obtain⟨a4,rfl⟩:=q4;obtain⟨a5,rfl⟩:=q5;obtain⟨a6,rfl⟩:=q6;exact⟨⟨a0,a1,a2,a3,a4,a5,a6⟩,by simp only[Rul.cs,List.flatten_cons,List.flatten_nil,eM,aV,aW]⟩) n
theorem aSr(x:Rul):∀c,c∈x.enc.cells->c.one=true:=by
  intro c hc;simp only[Rul.enc,A.cells,Rul.cs,eB,List.mem_nil_iff,fH]at hc
  repeat' (first|(subst hc;rfl)|(rcases hc with hc|hc))
theorem aRn(hk:iM g W):∀n,eQ enc prog W base spare held g n 31 (λl=>∃xs:List Rul,l=[.list none (xs.map Rul.enc)]) :=
 uW underlying31 (by kernel_rfl) hk (λn=>mC (aSS hk n) (λl ⟨x,e⟩=>⟨x,e⟩)) (λx=>(show x.enc.cells.length=7 from rfl).trans (by kernel_rfl)) aSr (by rw[show prog.cellsOf 84=7 by kernel_rfl];omega) (lM (by kernel_rfl))
theorem aTh(hk:iM g W)(n:Nat):eQ enc prog W base spare held g n 33 (λl=>∃x:Dfn,(∀o,o∈x.sig.ops->OprI o)/\l=x.cs) :=
 rZ underlying33 (by kernel_rfl) (by kernel_rfl) (λn=>.cons (nA n) (.cons (aSJ hk n) (.cons (aRC hk n) (.cons (aKn hk n) (.cons (nA n) (.cons (aKn hk n) (.cons (aRn hk n) (.cons (nA n) (.cons (nA n) .nil))))))))) (λls hE=>by
  cases hE with|cons q0 hE =>
  cases hE with|cons q1 hE =>
  cases hE with|cons q2 hE =>
  cases hE with|cons q3 hE =>
  cases hE with|cons q4 hE =>
  cases hE with|cons q5 hE =>
  cases hE with|cons q6 hE =>
  cases hE with|cons q7 hE =>
  cases hE with|cons q8 hE =>
  cases hE;obtain⟨a0,rfl⟩:=q0;obtain⟨a1,h1,rfl⟩:=q1;obtain⟨a2,rfl⟩:=q2;obtain⟨a3,rfl⟩:=q3;obtain⟨a4,rfl⟩:=q4;obtain⟨a5,rfl⟩:=q5;obtain⟨a6,rfl⟩:=q6;obtain⟨a7,rfl⟩:=q7;obtain⟨a8,rfl⟩:=q8;exact⟨⟨a0,a1,a2,a3,a4,a5,a6,a7,a8⟩,h1,by simp only[Dfn.cs,List.flatten_cons,List.flatten_nil,eM,aV,aW]⟩) n
theorem aPA{v:Value}{d:DataW H}{ps:List MemPlace}{r:Reach}{b0:Nat}(hk:iM g W)(hval:Value.okWide prog W r b0 33 v)(h:DataW.Trod enc prog W base spare held 33 v d ps):∃x:Dfn,Rz g x.enc v/\cZ x.cs+1<=YtamikhobdffnfaaGreatDoor.Rows.uptoBulk d/\∀o,o∈x.sig.ops->OprI o:=by
 obtain⟨cs,rfl,_⟩:=WideShapes.okWide_struct underlying33 hval;obtain⟨fuel,hf⟩:=h;obtain⟨l,⟨x,hI,rfl⟩,hl,hc,hb,_⟩:=aTh hk fuel fuel (bT _) _ _ hf;refine⟨x,?_,hb,hI⟩;have:=Rz.agg (g:=g) x.cs cs.toList hc.1.symm ?_ hc.2
 .unfold Dfn.enc;simpa using this
 .intro c hc;simp only[Dfn.cs,Sig.cs,cW,eB,List.mem_nil_iff,fH]at hc
  repeat' (first|(subst hc;rfl)|(rcases hc with hc|hc))
end
end
theorem aAT{α:Type}{f:α->Nat}{en:α->A}(k:Nat)(h:∀x,f x<=k * ((en x).bulk+1)):∀l:List α,(l.map f).sum<=k * bQ (l.map en)
 | []=>by simp
 | x::l=>by
  have h1:=h x;have h2:=aAT k h l;simp only[bS,List.sum_cons,bQ,Nat.mul_add]at h1 h2⊢;omega
theorem aTs(x:Eqn):tD x<=2 * (x.enc.bulk+1):=by
 have:=eK Tm.enc x.cond;simp only[tD,Eqn.enc,Eqn.cs,A.bulk,cZ,tL];omega
theorem aQg(x:Part):yC x<=1 * (x.enc.bulk+1):=by
 have:=eK Tm.enc x.right;simp only[yC,Part.enc,Part.cs,A.bulk,cZ,tL];omega
theorem aO9(x:Fresh):x.cells.length<=1 * (x.enc.bulk+1):=by
 have:=eK Tm.enc x.cells;simp only[Fresh.enc,Fresh.cs,A.bulk,cZ];omega
theorem aR2(x:Rul):yO x<=1 * (x.enc.bulk+1):=by
 have h1:=aAT 1 aQg x.parts;have h2:=eK Tm.enc x.cond;have h3:=aAT 1 aO9 x.new;simp only[yO,Rul.enc,Rul.cs,A.bulk,cZ]at h1 h2 h3⊢;omega
theorem aRQ(x:Dfn):yH x<=2 * cZ x.cs/\x.sig.ops.length+x.sig.funs.length<=cZ x.cs:=by
 have h1:=aAT 2 aTs x.eqs;have h2:=aAT 1 aR2 x.rules;have h3:=eK Cel.enc x.once;have h4:=eK Cel.enc x.many;have h5:=eK Opr.enc x.sig.ops;have h6:=eK Opr.enc x.sig.funs;simp only[yH,Dfn.cs,Sig.cs,A.bulk,cZ,tL];omega
end Go.AV
section
open Go.Proofs.Tryz
namespace Go.Proofs.YtamikhobdffnfaaGreatDoor
open Go Go.AV Go.Proofs.Tryz Go.ChangeShapes Go.WideShapes Go.ChangeAt Go.RowKit
open Go.ChangeMaps (open_string shut_string)
theorem str_rz{g:Gh}(S:ByteArray):Rz g (.str S.data.toList) (.string S):=aLg S
theorem own:ownKnob prog.godebug=none:=by kernel_rfl
def allP(W:World):Nat->Option (List Value):=λb=>match W.heap[b]? with
 | some (.cells cs _ _)=>some cs.toList
 | _=>none
theorem knows_all {W : World} {l : List (String × DataW Unit)} (hL : laidMet prog l W) (h1 : ("strings.asciiSpace",Rows.laid_strings_asciiSpace) ∈ l)
  (h2 : ("internal/strconv.uint64pow10",Rows.laid_internal_strconv_uint64pow10) ∈ l) : iM (wF (pi0 (allP W)) W) W := by
 obtain⟨t0,f0,e0⟩:=aBZ aFf (aJ6 hL h1);obtain⟨t3,f3,e3⟩:=aBZ aEZ (aKo hL h2);intro b cs e fr hb;show pi0 (allP W) b=some cs.toList;unfold pi0;split
 .rw[e0]at hb;cases hb;rfl
 .rw[e3]at hb;cases hb;rfl
 .unfold allP;rw[hb]
theorem renamed_contract(H:Type)(enc:TypeId × Value->H)(W:World)(base:Nat)(args:Array Value)(ds gs:List (DataW H))(before:List MemPlace)
  (hval:∀(j:Nat) t v,f10.params[j]?=some t->args[j]?=some v->Value.okWide prog W .any base t v)
  (hW:DataW.Whole enc prog f10.params.toList Rows.defRenamedSpec.vars false W args.toList ds gs before)(hsm:Rows.uptoSmall H (ds++gs)=true)(hL:laidMetH prog Rows.defRenamedUptoRow.laid W) :
  Calls prog 10 args W λe W'=>∃v,e=.returned v/\Rows.defRenamedSpec.post enc prog f10 false true false false W args v W':=by
 have hW' := hW;have hlt := hW.lt;obtain ⟨p,q,hA0,hV,rfl,hfz,hnd⟩ := hW;have hA : DataW.TrodAll enc prog W 0 (fun _ => true) true f10.params.toList args.toList ds p := hA0;have hA1 := hA;rw [params10] at hA hval;obtain ⟨v0,v1,v2,d0,d1,d2,p0,p1,p2,rfl,rfl,rfl,h0,h1,h2⟩ := trodAll_three hA;obtain ⟨rfl,rfl⟩ := trodVars_none hV;obtain ⟨S,rfl,rfl,rfl,hS⟩ := open_string underlying9 (hval 1 9 v1 rfl rfl) h1;obtain ⟨M,rfl,rfl,rfl,hM⟩ := open_string underlying9 (hval 2 9 v2 rfl rfl) h2;clear hA0;simp only [eM] at hW' hlt;have m1 : ("strings.asciiSpace",Rows.laid_strings_asciiSpace) ∈ Rows.defRenamedUptoRow.laid := (.tail _ (.tail _ (.tail _ (.tail _ (.tail _ (.tail _ (.tail _ (.head _))))))));have m2 : ("internal/strconv.uint64pow10",Rows.laid_internal_strconv_uint64pow10) ∈ Rows.defRenamedUptoRow.laid := (.tail _ (.tail _ (.head _)));have hK := knows_all hL m1 m2;obtain ⟨a,ha,hba,hI⟩ := aPA hK (hval 0 33 v0 rfl rfl) h0;have hsum : Rows.uptoBulkAll [d0,.lit (.string S.data.toList),.lit (.string M.data.toList)] ≤ 1048576 := qA hsm;simp only [Rows.uptoBulkAll,Rows.uptoBulk] at hsum;obtain ⟨ha1,ha2⟩ := aRQ a
 have hc:=aOP (f:=10) (args:=[a.enc,.str S.data.toList,.str M.data.toList]) (vals:=[v0,.string S,.string M]) (W:=W) (p:=allP W) (l:=Rows.defRenamedUptoRow.laid) func10 rfl rfl hL m1 m2
  (fun b pre h => by
   unfold allP at h;split at h
   .rename_i cs t fr hh;cases h;exact⟨[],t,fr,by rw[hh,eM]⟩
   .cases h)
  (.cons ha (.cons (str_rz S) (.cons (str_rz M) (.nil _)))) (aNf a _ _ hI aB aB aB ha1 ha2 _ (λp o h=>by cases h) _ _ rfl)
 refine hc.mono λe W' ⟨he,hos,hout,hbk⟩=>?_
 subst he;have e1:Rows.defRenamedSpec.fn H ([d0,DataW.lit (.string S.data.toList),DataW.lit (.string M.data.toList)]++[])={ results:=[.lit (.bool true)],args:=[d0,.lit (.string S.data.toList),.lit (.string M.data.toList)] }:=rfl;have hA2:=aHi hbk hA1;simp only[eM]at hA2;refine⟨_,rfl,_,_,_,[],p0,[],hW',?_,?_,?_,aRO hos hout hbk,λh=>by cases h⟩
 .rw[e1];exact trodAll_mk1 (shut_bool underlying4 true)
 .rw[e1]
  exact DataW.TrodAll.respare (kids_rows renamed_k1 renamed_k2) (slices_full_of prog (by kernel_rfl)) (λt ht=>by
   rw[params10]at ht;obtain rfl|rfl:t=33\/t=9:=by simpa using ht
   .exact qA (by kernel_rfl)
   .exact qA (by kernel_rfl)) hA2 (λp hp=>kD (hlt p hp))
 .rw[e1];rfl
def zeroV:Value:=.agg #[.string ⟨#[]⟩,.slice none 0 0,.slice none 0 0,.slice none 0 0,.slice none 0 0,.slice none 0 0,.slice none 0 0,.slice none 0 0,.string ⟨#[]⟩,.slice none 0 0,.slice none 0 0,.string ⟨#[]⟩,.string ⟨#[]⟩]
def zeroR{H:Type}:DataW H:=.agg [.lit (.string []),.agg [.nil,.nil,.nil,.nil,.nil],.nil,.nil,.lit (.string []),.nil,.nil,.lit (.string []),.lit (.string [])]
theorem renamed_reads(os:Os){H:Type}(enc:TypeId × Value->H) :
  ∃places,DataW.whole enc prog ((uX os).forCall (λ_ _=>0) ⟨#[],#[zeroV,.string ⟨#[]⟩,.string ⟨#[]⟩],[]⟩).memory f10.params.toList (Rows.OpenSpec.upto Rows.defRenamedSpec).vars false #[zeroV,.string ⟨#[]⟩,.string ⟨#[]⟩].toList 8 =
   some ([zeroR,.lit (.string []),.lit (.string [])],[],places) :=
 ⟨[],by kernel_rfl⟩
theorem renamed_lifted(os:Os)(started:os.Started)(H:Type)(enc:TypeId × Value->H)(F:Stop.Interp) :
  ReturnsInHanded {} checked os 10 .any ((Rows.OpenSpec.upto Rows.defRenamedSpec).preRow enc prog f10 Rows.defRenamedUptoRow.domain false Rows.defRenamedUptoRow.laid) (((Rows.OpenSpec.upto Rows.defRenamedSpec).at F).post enc prog f10 false true false false):=by
 obtain⟨places,hx⟩:=renamed_reads os enc
 refine returnsInHanded_of_row (C:=checked) (s:=Rows.OpenSpec.upto Rows.defRenamedSpec) own started (by kernel_rfl) func10
  (witness_row_atRef (enc := enc) (C := checked) false (uX os) #[zeroV,.string ⟨#[]⟩,.string ⟨#[]⟩] rfl (by kernel_rfl) (by kernel_rfl) (by kernel_rfl)
   (OpenSpec.preRow_of_cond 8 hx (by kernel_rfl) (λk hk=>by cases hk;rfl) (by kernel_rfl) (aRc os _))) ?_
 intro W base args ds gs before hval hW _ hk _ hL _ _;exact renamed_contract H enc W base args ds gs before hval hW (hk _ rfl) hL
theorem renamed_said:Rows.DefRenamedUptoSaid :=
 OpenClaim.holds_of_cond 10 f10 rfl rfl rfl rfl rfl rfl rfl ⟨rfl,rfl,rfl,rfl,rfl⟩ rfl rfl rfl rfl rfl renamed_named func10 renamed_closed
  (qA (by kernel_rfl)) (by unfold Func.isWrapper;rw[if_neg (of_decide_eq_false (by kernel_rfl))];exact⟨rfl,rfl⟩)
  (λos started H enc _ F=>by rw[OpenClaim.pre_eq_preRow];exact renamed_lifted os started H enc F)
theorem renamed_plain(f:FuncId)(fn:Func)(hf:Tryz.pinned.checked.prog.funcNamed Rows.defRenamedUptoRow.func=some f)(hfn:Tryz.pinned.checked.prog.funcs[f]?=some fn) :
  true=Tryz.pinned.checked.prog.looks []/\∀(j:Nat) t,fn.params[j]?=some t->Tryz.pinned.checked.prog.wantsStandIn t=false:=by
 obtain rfl:f=10:=yU (renamed_named.symm.trans hf) |>.symm
 obtain rfl:fn=f10:=(yU (func10.symm.trans hfn)).symm;refine⟨renamed_looks,λj t ht=>?_⟩;rw[params10]at ht;obtain rfl|rfl:t=33\/t=9:=by simpa using Array.mem_of_getElem? ht
 .exact(show prog.wantsStandIn 33=false by kernel_rfl)
 .exact(show prog.wantsStandIn 9=false by kernel_rfl)
theorem defRenamedUpto_holds:Rows.DefRenamedUptoCardSaid :=
 Claim7.holds_tied_plain_at .later [] _ _ _ _ renamed_said (λ_ h=>by cases h) renamed_wf (λ_ h=>by cases h) defRenamedUpto_row_tie rfl ⟨rfl,rfl⟩ renamed_main rfl renamed_plain renamed_goes
#print axioms defRenamedUpto_holds
end Go.Proofs.YtamikhobdffnfaaGreatDoor
end
