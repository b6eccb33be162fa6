/-
  Of CheckTells.
-/
import Derived.Test.YthaljojbclndaaaGreatDoorCt06
import Derived.Lib.ItoaNum
set_option linter.all false
set_option maxRecDepth 99999
set_option maxHeartbeats 0
namespace Go.AV
open Go Go.Proofs Tryz
mutual
def A.bulk:A->Nat
 | .str x=>x.length
 | .list _ es=>dE es
 | .agg cs=>dI cs
 | _=>0
def dE:List A->Nat
 | []=>0
 | a::r=>A.bulk a+1+dE r
def dI:List A->Nat
 | []=>0
 | a::r=>A.bulk a+dI r
end
theorem aPn(a:A):dI a.cells=a.bulk:=by
 cases a<;>simp[A.cells,dI,A.bulk]
theorem uN:∀l r:List A,dI (l++r)=dI l+dI r
 | [],r=>by simp[dI]
 | a::l,r=>by simp[dI,uN l r,nS]
theorem aJC:∀l r:List A,dE (l++r)=dE l+dE r
 | [],r=>by simp[dE]
 | a::l,r=>by simp[dE,aJC l r,nS]
theorem aK3:∀l:List A,l.length<=dE l
 | []=>bF _
 | a::l=>by have:=aK3 l;simp only[bB,dE];omega
theorem fW{u:Type}(en:u->A)(l:List u):l.length<=dE (l.map en):=by have:=aK3 (l.map en);rwa[aW]at this
structure OprI (o:Opr):Prop where
 s:∀n,n∈o.strict->-9223372036854775808<=n/\n<=9223372036854775807
 p:o.prec<=9223372036854775807
section
structure CatchC (C:Cx) (h:FuncId) (ft:TypeId):Prop where
 quiet:∀F g s w (p:Value),R C.toCtx F g s w->CallsD C.P h #[p] .returning w λe u' w'=>(∃v,e=.returned v)/\u'=.returning/\∃g',g.le g'/\R C.toCtx F g' s w'
 loud:∀F g s w (b k:Nat) (cs fs:List A) (v:Value),R C.toCtx F g s w->g.beta b=some k->s.getO b=some (.cells ft cs)->Rz g (.agg fs) v->fs.length=cs.length->fs.length=4 ->
  CallsD C.P h #[.pointer (some ⟨k,0,none⟩)] (.panicking [{ v:=.iface ft v,recovered:=false }]) w λe u' w'=>(∃v,e=.returned v)/\settle u'=.returning /\
   ∃g',g.le g'/\R C.toCtx F g' (s.setO b (.cells ft fs)) w'
section
variable {C:Cx} {n:Nat} {e:Env} {s:St}
def aNd(C:Cx)(F:Fr)(g0:Gh)(n:Nat)(h:FuncId)(Q:Option Nat->XK->Env->St->Prop)(ex:Exit)(a:Act)(w:World):Prop :=
 ∃g' e s x d,g0.le g'/\R C.toCtx F g' s w/\EnvOk g' n e a.tmps/\XRz g' x ex /\
  (match d with
   | none=>a.defers=[]
   | some b=>∃k,g'.beta b=some k/\a.defers=[pQ h k])/\Q d x e s
def ExD(C:Cx)(n:Nat)(h:FuncId)(c:Code)(Q:Option Nat->XK->Env->St->Prop)(e:Env)(s:St):Prop :=
 ∀F g w a,R C.toCtx F g s w->EnvOk g n e a.tmps->a.defers=[]->c.wp C.P (aNd C F g n h Q) a w
def aFc(R:Env->St->Prop)(Q:Option Nat->XK->Env->St->Prop):XK->Env->St->Prop
 | .normal,e,s=>R e s
 | x,e,s=>Q none x e s
theorem ExD.seq{h:FuncId}{c d:Code}{Q:Option Nat->XK->Env->St->Prop}(hc:Ex C n c (aFc (ExD C n h d Q) Q) e s):ExD C n h (.seq c d) Q e s:=λF g w a hR hE T=>by
 refine wp_seq (lN (λy U w' u=>?_) (hc F g w a hR hE));obtain⟨z,e',s',x,B,G,H,M,O,S⟩:=u;cases y<;>cases x<;>try exact O.elim
 .refine lN (λy a2 w2 u=>?_) (S F z w' U G H (by rw[M];exact T));obtain⟨g2,Z,s2,x2,Y,q1,q2⟩:=u;exact⟨g2,Z,s2,x2,Y,B.trans q1,q2⟩
 all_goals exact⟨z,e',s',_,none,B,G,H,O,by rw[M];exact T,S⟩
theorem ExD.defer{h:FuncId}{c d:Code}{y:Operand}{b:Nat}{Q:Option Nat->XK->Env->St->Prop}(hc:aCu c=some (h,y))(hy:dN C e y=some (.ptr b 0))(hd:Ex C n d (Q (some b)) e s):ExD C n h (.seq c d) Q e s:=λF g w a U T hD=>by
 obtain⟨id,ops,B,ty,pos,after,rfl,z⟩:=aKw hc;obtain⟨k,hv,G⟩:=((T.oper U) y _ hy).ptr_inv;refine wp_seq ?_
 have O:∀(u:Act),u.tmps=a.tmps->u.defers=[pQ h k]->d.wp C.P (aNd C F g n h Q) u w:=by
  intro u ht H;refine lN (λex a2 w2 O=>?_) (hd F g w u U (by rw[ht];exact T));obtain⟨Z,e',s',x,S,h2,h3,h4,h5,h6⟩:=O;exact⟨Z,e',s',x,some b,S,h2,h3,h5,⟨k,S.beta _ _ G,by rw[h4];exact H⟩,h6⟩
 refine wp_region_list ?_;rw[z];unfold wpList;rw[aF (by simp[Region.wanted])];left
 have M:(execOp a.eval ⟨none,.defer ⟨.value (.func h),#[y],B⟩,ty,pos,after,none⟩).run C.P w=.ok (.defer (pQ h k)) w:=by
  have Y:a.eval (.func h)=.func (.func h) #[] #[]:=rfl;simp only[execOp,resolve,Y,Deferred.ofValue,bG,bV,bJ,kO,cC,eZ,hv,pQ];simp
 unfold Oper.wp;rw[M,Oper.upon_defer];unfold wpList;exact O _ rfl (by simp[Act.put,hD])
def aAb(C:Cx)(rs:List ResultVar)(KV Kp:St->A->Prop):Option Nat->XK->Env->St->Prop
 | none,x,e,s=>kK C rs KV Kp x e s
 | some b,.panic v,e,s=>∃u cs,v=.iface 36 (.agg u)/\s.getO b=some (.cells 36 cs)/\u.length=cs.length/\u.length=4/\kK C rs KV Kp .ret e (s.setO b (.cells 36 u))
 | some b,x,e,s=>kK C rs KV Kp x e s
theorem aPG{f S:FuncId}{fn:Func}{c:Code}{args:List A}{KV Kp:St->A->Prop}(b3:CatchC C S 36)
  (b4:∀(k:Nat) (w:World),(invoke (.fn (.func S) #[]) #[.pointer (some ⟨k,0,none⟩)]).run C.P w=.ok (.enter S #[.pointer (some ⟨k,0,none⟩)]) w)
  (hf : C.P.funcs[f]? = some fn) (hb : fn.body = some c) (b1 : (fn.name == "runtime.NumGoroutine") = false) (hn : args.length ≤ fn.ntmps)
  (h:ExD C fn.ntmps S c (aAb C fn.results.toList KV Kp) (kW 0 args) s):Den C f args KV Kp s:=by
 refine aJd hf hb b1 hn λF g w a hR hE hD=>?_
 refine lN (λex a' w' y=>?_) (h F g w a hR hE hD);obtain⟨O,e',s',x,d,q1,q2,q3,q4,q7,y⟩:=y
 have ret:∀(g2:Gh) (s2:St) (G:World) (x:XK),(x=.normal\/x=.ret)->kK C fn.results.toList KV Kp x e' s2->R C.toCtx F g2 s2 G->O.le g2 ->
   ∃v,(results fn a'.tmps).run C.P G=.ok v G/\∃U a s,g.le U/\R C.toCtx F U s G/\Rz U a v/\KV s a:=by
  intro g2 s2 G x hx hk z B
  have b0:∃l,nP C e' s2 fn.results.toList=some l/\KV s2 (sQ l):=by
   rcases hx with rfl|rfl<;>simp only[kK]at hk<;>split at hk
   .exact⟨_,by assumption,hk⟩
   .exact hk.elim
   .exact⟨_,by assumption,hk⟩
   .exact hk.elim
  obtain⟨l,hl,b0⟩:=b0;obtain⟨vs,H,M⟩:=aCy z (q3.mono B) _ _ hl;refine⟨_,?_,g2,_,s2,q1.trans B,z,aHI M,b0⟩;have e0:results fn a'.tmps=(do let vs <-fn.results.mapM (uC a'.tmps);pure (if h:vs.size=1 then vs[0] else .tuple vs)):=rfl;rw[e0,bG,Array.mapM_eq_mapM_toList,Sem.run_map,H];rfl
 cases d with
 | none =>
  simp only[aAb]at y;simp only at q7;cases ex<;>cases x<;>try exact q4.elim
  .obtain⟨v,H,U,aa,ss,M⟩:=ret O s' w' .normal (.inl rfl) y q2 (dQ O);simp only[bodyPostD,q7,Leaves];exact⟨v,H,U,aa,ss,M⟩
  .exact y.elim
  .exact y.elim
  .obtain⟨v,H,U,aa,ss,M⟩:=ret O s' w' .ret (.inr rfl) y q2 (dQ O);simp only[bodyPostD,q7,Leaves];exact⟨v,H,U,aa,ss,M⟩
  .obtain⟨v,rfl,b2⟩:=q4;simp only[bodyPostD,q7,Leaves];exact⟨O,_,v,s',rfl,q1,q2,b2,y⟩
 | some b =>
  obtain⟨k,b7,Z⟩:=q7;have T:(invoke (pQ S k).target (pQ S k).args).run C.P w'=.ok (.enter S #[.pointer (some ⟨k,0,none⟩)]) w':=b4 k w'
  have quiet:∀(x:XK),(x=.normal\/x=.ret)->kK C fn.results.toList KV Kp x e' s'->Leaves C.P fn a'.tmps (vH C F g KV Kp) [pQ S k] .returning w':=by
   intro x hx y;refine⟨by simp,_,_,_,_,rfl,T,?_⟩;refineλc cs hc=>?_
   obtain⟨e,u',G,fr,⟨⟨v0,rfl⟩,rfl,g2,B,z⟩,Y⟩:=b3.quiet F O s' w' (.pointer (some ⟨k,0,none⟩)) q2 c cs hc;obtain⟨v,H,M⟩:=ret g2 s' G x hx y z B;exact⟨.returned v0,.returning,G,fr,(show Leaves C.P fn a'.tmps (vH C F g KV Kp) [] .returning G from⟨v,H,M⟩),Y⟩
  cases ex<;>cases x<;>try exact q4.elim
  .simp only[bodyPostD,Z];exact quiet .normal (.inl rfl) y
  .exact y.elim
  .exact y.elim
  .simp only[bodyPostD,Z];exact quiet .ret (.inr rfl) y
  .obtain⟨v,rfl,b2⟩:=q4;obtain⟨fs,cs,rfl,b8,hl,h4,y⟩:=y;obtain⟨u,rfl,bb⟩:=b2.iface_inv;simp only[bodyPostD,Z];refine⟨by simp,_,_,_,_,rfl,T,?_⟩;refineλc b6 b9=>?_
   obtain⟨e,u',G,fr,⟨⟨v0,rfl⟩,b5,g2,B,z⟩,Y⟩:=b3.loud F O s' w' b k cs fs u q2 b7 b8 bb hl h4 c b6 b9;obtain⟨v,H,M⟩:=ret g2 _ G .ret (.inr rfl) y z B;exact⟨.returned v0,u',G,fr,(show Leaves C.P fn a'.tmps (vH C F g KV Kp) [] (settle u') G from by rw[b5];exact⟨v,H,M⟩),Y⟩
end
section
variable {C:Cx} {n:Nat} {h b:Nat} {R:Env->St->Prop} {Q:Option Nat->XK->Env->St->Prop} {e:Env} {s:St} {rs:List ResultVar} {KV Kp:St->A->Prop} {x:XK} {v:A}
@[go_sem] theorem aX1:aFc R Q .normal e s=R e s:=rfl
@[go_sem] theorem aYM:aFc R Q .ret e s=Q none .ret e s:=rfl
@[go_sem] theorem aX6:aFc R Q (.panic v) e s=Q none (.panic v) e s:=rfl
@[go_sem] theorem aYn:aAb C rs KV Kp none x e s=kK C rs KV Kp x e s:=rfl
@[go_sem] theorem aX0:aAb C rs KV Kp (some b) .normal e s=kK C rs KV Kp .normal e s:=rfl
@[go_sem] theorem aYL:aAb C rs KV Kp (some b) .ret e s=kK C rs KV Kp .ret e s:=rfl
@[go_sem] theorem aX5:aAb C rs KV Kp (some b) (.panic v) e s=∃u cs,v=.iface 36 (.agg u)/\s.getO b=some (.cells 36 cs)/\u.length=cs.length/\u.length=4/\kK C rs KV Kp .ret e (s.setO b (.cells 36 u)):=rfl
end
end
noncomputable def c35:Code:=match f22.body with
 | some (.seq _ c)=>c
 | _=>.skip
theorem aHO : f22.body = some (.seq (.region 0 #[⟨some 5,.call ⟨.builtin .recover,#[],#[]⟩,20,"check.go:310",#[],none⟩] false) c35) := rfl
theorem aNU(a:Act)(w:World):(results f22 a.tmps).run cx.P w=.ok (.tuple #[]) w:=by
 have u:results f22 a.tmps=(do let vs <-(#[]:Array ResultVar).mapM (uC a.tmps);pure (if h:vs.size=1 then vs[0] else .tuple vs)):=rfl;rw[u];simp
theorem aNx{P:Program}{Q:Exit->Act->List Frame->World->Prop}{a:Act}{cs:List Frame}{w:World}
  (h : match recoverD cs with
   | some (v,y)=>Q .normal (a.put (some 5) v) y w
   | none=>Q .normal (a.put (some 5) .nilIface) cs w) :
  (Code.region 0 #[⟨some 5,.call ⟨.builtin .recover,#[],#[]⟩,20,"check.go:310",#[],none⟩] false).wpS P Q a cs w := by
 refine wpS_region ?_;have B : List.range (#[(⟨some 5,.call ⟨.builtin .recover,#[],#[]⟩,20,"check.go:310",#[],none⟩ : Oper)]).size = [0] := rfl;rw [B];unfold wpOpsS;have z : (#[(⟨some 5,.call ⟨.builtin .recover,#[],#[]⟩,20,"check.go:310",#[],none⟩ : Oper)])[0]? = some ⟨some 5,.call ⟨.builtin .recover,#[],#[]⟩,20,"check.go:310",#[],none⟩ := rfl;rw [z];simp only;rw [aF (by simp [Region.wanted])];have G : (execOp a.eval ⟨some 5,.call ⟨.builtin .recover,#[],#[]⟩,20,"check.go:310",#[],none⟩).run P w = .ok .recover w := rfl;rw [G];simp only;cases u : recoverD cs with
 | none=>rw[u]at h;simp only;unfold wpOpsS;exact h
 | some x=>obtain⟨v,y⟩:=x;rw[u]at h;simp only;unfold wpOpsS;exact h
theorem aWP{g:Gh}(vals:Array Value)(u:vals.size=1):EnvOk g 14 [] (vals++Array.replicate (f22.ntmps-vals.size) undef) :=
 .nil (by rw[u];simp[u,f22])
theorem aWN(k:Nat)(w:World):(invoke (.fn (.func 22) #[]) #[.pointer (some ⟨k,0,none⟩)]).run cx.P w=.ok (.enter 22 #[.pointer (some ⟨k,0,none⟩)]) w:=by
 have y:(callFunc 22 #[.pointer (some ⟨k,0,none⟩)]).run prog w=.ok (.enter 22 #[.pointer (some ⟨k,0,none⟩)]) w:=by
  have z : prog.funcs[22]? = some f22 := func22;have u : (f22.name == "runtime.NumGoroutine") = false := rfl;simp only [callFunc,bG,run_program,bJ,z,u,cV,↓reduceIte,aHO,qG,bV]
 show(callFunc 22 (#[Value.pointer (some ⟨k,0,none⟩)]++#[])).run prog w=_;rw[Array.append_empty];exact y
theorem aWS(s:St):Ex cx 14 c35 (λx _ s'=>x=.normal/\s'=s) [(5,.nili)] s:=by
 refine aQ (V:=[0,2,3,4,5,6,7,8,9,10,11,12,13]) _ _ _ _ ?_;simp only[c35,f22];simp only[go_sem]
theorem aWR(s:St)(b:Nat)(u y z B Z y1 y2 y3:A)(T:s.getO b=some (.cells 36 [Z,y1,y2,y3]))(G:u.one=true)(H:y.one=true)(M:z.one=true)(O:B.one=true) :
  Ex cx 14 c35 (λx _ s'=>x=.normal/\s'.ge (s.setO b (.cells 36 [u,y,z,B]))) [(0,.ptr b 0),(5,.iface 36 (.agg [u,y,z,B]))] s:=by
 refine aQ (V:=[0,2,3,4,5,6,7,8,9,10,11,12,13]) _ _ _ _ ?_;simp only[c35,f22];simp only[go_sem,G,H,M,O];intro q Y;have S:=aM T Y;simp only[go_sem,G,H,M,O,S,T];have U:(u.one&&(y.one&&(z.one&&B.one)))=true:=by rw[G,H,M,O];rfl
 refine⟨U,U,?_⟩;exact aCD (aMB (by simp only[aX,dJ]) (aNm aV (aCt Y (aDY _ _ _))))
theorem aSm:CatchC cx 22 36 where
 quiet:=by
  intro F g s w p hR;refine callsD_of_wpS (fn:=f22) func22 aHO λu cs T=>?_
  refine wpS_seq (aNx ?_);have z:recoverD (u::cs)=none:=by simp[recoverD,T]
  rw[z];refine wpS_of_wp ?_;have hE:=(aWP (g:=g) #[p] rfl).put (a:=⟨_,[]⟩) (d:=5) (x:=.nili) (v:=.nilIface) cT .nili;refine lN (λY U w' hp=>?_) (aWS s F g w _ hR hE);obtain⟨Z,e',s',x,h1,h2,h3,O,h5,rfl,rfl⟩:=hp;cases Y<;>try exact h5.elim
  refine⟨O,.returning,by rw[<-T],_,aNU U w',⟨_,rfl⟩,rfl,Z,h1,h2⟩
 loud:=by
  intro F g s w b k cs fs v hR b1 hb hv hl O
  obtain⟨B,G,H,M,rfl⟩:∃B G H M,fs=[B,G,H,M]:=by
   match fs,O with
   | [B,G,H,M],_=>exact⟨B,G,H,M,rfl⟩
  obtain⟨y0,y1,y2,y3,rfl⟩:∃B G H M,cs=[B,G,H,M]:=by
   match cs,hl with
   | [B,G,H,M],_=>exact⟨B,G,H,M,rfl⟩
  obtain⟨vs,b2,b3,y⟩:=hv.agg_inv;refine callsD_of_wpS (fn:=f22) func22 aHO λu cs T=>?_
  refine wpS_seq (aNx ?_);have z:recoverD (u::cs)=some (.iface 36 v,{ u with mode:=.panicking [{ v:=.iface 36 v,recovered:=true }] }::cs):=by simp[recoverD,T]
  rw[z];refine wpS_of_wp ?_
  have b0:EnvOk g 14 [(0,.ptr b 0)] (#[Value.pointer (some ⟨k,0,none⟩)]++Array.replicate (f22.ntmps-(#[Value.pointer (some ⟨k,0,none⟩)]).size) undef):=by
   refine⟨by simp[f22],λt a S=>?_⟩;simp only[Env.get]at S;split at S
   .rename_i ht;subst ht;cases S;exact⟨_,rfl,.ptr b 0 k b1⟩
   .cases S
  have hE:=b0.put (a:=⟨_,[]⟩) (d:=5) (x:=.iface 36 (.agg [B,G,H,M])) (v:=.iface 36 v) cT (.iface 36 _ v hv);refine lN (λY U w' hp=>?_) (aWR s b B G H M y0 y1 y2 y3 hb (y B aV) (y G aV) (y H aV) (y M aV) F g w _ hR hE);obtain⟨Z,e',s',x,h1,h2,h3,O,h5,rfl,h6⟩:=hp;cases Y<;>try exact h5.elim
  refine⟨O,.panicking [{ v:=.iface 36 v,recovered:=true }],rfl,_,aNU U w',⟨_,rfl⟩,rfl,Z,h1,h2.weaken h6 (λh=>by cases h)⟩
def aEI(n:Int):Bool:=decide (-2147483647<=n)&&decide (n<=2147483647)
theorem aK0(s:St)(n:Int)(KV Kp)(u:KV s (.bool (aEI n))):Den cx 230 [.int .i64 n] KV Kp s:=by
 unfold aEI at u;(refine aO func230 [0,2] ?_;simp only[go_sem,ntmps230,f230])
 (repeat' (first|exact aD u aK|((apply aI<;>intro h)<;>simp only[go_sem,h]<;>(try simp only[h,dD,eY,dT,gY,mP,kQ,iZ,gJ,eO,fN]at u))))
def mB(x:aA):Bool:=decide (2<x.length)&&(decide (x[x.length-2]?=some 39)&&(match x[x.length-1]? with|some c=>decide (49<=c.toNat)&&decide (c.toNat<=56)|none=>false))
theorem aLm(s:St)(x:aA)(KV Kp)(hl:x.length<=4611686018427387904)(u:KV s (if mB x=true then .tuple [.str (x.take (x.length-2)),.str (x.drop (x.length-2))] else .tuple [.str x,.str []])):Den cx 123 [.str x] KV Kp s:=by
 have w0:IntKind.i64.wrap ((x.length:Int)-2)=(x.length:Int)-2:=by
  exact gT _ aB aB
 (refine aO func123 [0,2,3,4,29] ?_;simp only[go_sem,ntmps123,f123]);by_cases Z:2<x.length
 .have w1:(x.length:Int)-2=((x.length-2:Nat):Int):=by omega
  have T:=w0.trans w1
  have S:IntKind.i64.wrap (((x.length-2:Nat):Int)+1)=((x.length-1:Nat):Int):=by
   rw[aR _ aB];omega
  have U:decide ((0:Int)<((x.length-2:Nat):Int))=true:=by rw[bR];omega
  obtain⟨z,B⟩:∃c,x[x.length-2]?=some c:=⟨_,cO aB⟩
  obtain⟨y,G⟩:∃c,x[x.length-1]?=some c:=⟨_,cO aB⟩
  have M:x.length-2<x.length:=by omega
  have O:x.length-1<x.length:=by omega
  simp only[go_sem,T,S,U,B,G,qH,M,O]
  have ef:mB x=(decide ((z.toNat:Int)=39)&&(decide ((49:Int)<=(y.toNat:Int))&&decide ((y.toNat:Int)<=56))):=by
   unfold mB;rw[B,G,cF Z,dD]
   have e1:decide (some z=some (39:UInt8))=decide ((z.toNat:Int)=39):=by
    rw[bW,bM,<-rD];show z.toNat=39↔_;omega
   have e2:decide ((49:Int)<=(y.toNat:Int))=decide (49<=y.toNat):=by rw[bW];omega
   have e3:decide ((y.toNat:Int)<=56)=decide (y.toNat<=56):=by rw[bW];omega
   rw[e1,e2,e3]
  rw[ef]at u;cases H:decide ((z.toNat:Int)=39)<;>rw[H]at u<;>simp only[go_sem,T,S,B,G,qH,M,O,H]
  .exact aS u
  .cases Y:decide ((49:Int)<=(y.toNat:Int))<;>rw[Y]at u<;>simp only[go_sem,T,S,B,G,qH,M,O,H,Y]
   .exact aS u
   .cases hC:decide ((y.toNat:Int)<=56)<;>rw[hC]at u<;>simp only[go_sem,T,S,B,G,qH,M,O,H,Y,hC]
    .exact aS u
    ·(refine bX (OT.r 0 8) [] ?_;simp only[go_sem]);exact⟨by omega,by omega,aS u⟩
 .have U:decide ((0:Int)<(x.length:Int)-2)=false:=by rw[eF];omega
  simp only[go_sem,w0,U];rw[aE (by simp[mB,Z])]at u;exact aS u
def rQ(x:aA):Bool:=cA (if mB x=true then x.take (x.length-2) else x)
theorem aTU(s:St)(x:aA)(KV Kp)(hl:x.length<=4611686018427387904)(u:KV s (.bool (rQ x))):Den cx 233 [.str x] KV Kp s:=by
 (refine aO func233 [0,2,3] ?_;simp only[go_sem,ntmps233,f233]);refine aLm _ _ _ _ hl ?_;cases y:mB x<;>simp only[rQ,y,dJ,cV,dY]at u⊢<;>simp only[go_sem]<;>refine tC _ _ _ _ ?_<;>simp only[go_sem]<;>exact aS u
section
def Tok.name(t:Tok):aA:=if t.kind=2 then Lib.itoa t.n else t.text
def Tok.free(t:Tok):Bool:=decide (t.kind=1)&&!decide (t.text∈aAH)
inductive Rd (α:Type) where
 | ok (a:α) (w:List Tok) (n:Nat)
 | bad (f:Fault)
def Rd.bind{u y:Type}(r:Rd u)(k:u->List Tok->Nat->Rd y):Rd y:=match r with
 | .ok a w n=>k a w n
 | .bad f=>.bad f
def Rd.to{u:Type}(r:Rd u)(k:u->List Tok->Nat->Prop)(b:Fault->Prop):Prop:=match r with
 | .ok a w n=>k a w n
 | .bad f=>b f
section
variable (lk:Bool) (fin:Fault)
def aX2(t:Tok):Bool :=
 if t.kind=2\/t.kind=3 then true
 else if t.kind=1 then !decide (t.text∈aAH)||(decide (t.text=[116,114,117,101])||decide (t.text=[102,97,108,115,101]))
 else decide (t.text∈[[45],[39],[95],[91],[123],[36]])
def qU(x:aA):Bool:=cA x&&(match x with|c::_=>decide (97<=c.toNat)&&decide (c.toNat<=122)|[]=>false)&&!decide (x=[116,114,117,101])&&!decide (x=[102,97,108,115,101])
end
end
end Go.AV
