/-
  Of DefRenamed.
-/
import Derived.Test.YtamikhobdffnfaaGreatDoorRe10
set_option linter.all false
set_option maxRecDepth 99999
set_option maxHeartbeats 0
namespace Go.AV
open Go Go.Proofs Tryz
theorem aB3{α:Type}(fin:Fault)(sep:aC)(one:List Tok->Nat->Rd α):∀(f:Nat) (l0 l:List α) (w:List Tok) (n:Nat) (p:List α->List Tok->Nat->Prop) (b:Fault->Prop),
  (dD fin sep (λacc w n=>(one w n).bind λa w n=>.ok (acc++[a]) w n) f (l0++l) w n).to p b ->
  (dD fin sep (λ(c:Unit × List α) w n=>((one w n).bind λa w n=>Rd.ok ((),a) w n).bind λq w n=>.ok (q.1,c.2++[q.2]) w n) f ((),l) w n).to (λc w n=>p (l0++c.2) w n) b
 | 0,l0,l,w,n,p,b,h=>h
 | f+1,l0,l,w,n,p,b,h=>by
  simp only[dD,bR]at h⊢;refine aT h (λa w n h=>?_) (λ_ h=>h);simp only[bZ]at h⊢;split
  .rename_i e;rw[if_pos e]at h;refine aB3 fin sep one f l0 (l++[a]) w.tail n p b ?_;rw[<-bI];exact h
  .rename_i e;rw[if_neg e]at h;rw[bZ]at h⊢;rw[<-bI];exact h
theorem aCc{σ:Type}(fin:Fault)(sep:aC)(one:σ->List Tok->Nat->Rd σ):∀(f:Nat) (a:σ) (l:List Unit) (w:List Tok) (n:Nat) (p:σ->List Tok->Nat->Prop) (b:Fault->Prop),
  (dD fin sep one f a w n).to p b ->
  (dD fin sep (λ(c:σ × List Unit) w n=>((one c.1 w n).bind λa w n=>Rd.ok (a,()) w n).bind λq w n=>.ok (q.1,c.2++[q.2]) w n) f (a,l) w n).to (λc w n=>p c.1 w n) b
 | 0,a,l,w,n,p,b,h=>h
 | f+1,a,l,w,n,p,b,h=>by
  simp only[dD,bR]at h⊢;refine aT h (λa w n h=>?_) (λ_ h=>h);simp only[bZ]at h⊢;split
  .rename_i e;rw[if_pos e]at h;exact aCc fin sep one f a (l++[()]) w.tail n p b h
  .rename_i e;rw[if_neg e]at h;exact h
theorem aEC{σ α X:Type}(enc:α->A)(hz:∀a,(enc a).cells.length=6)(ho:∀a,fP (enc a).cells=true)
  {T:List Tok}{fin:Fault}{s0:St}{r:Nat}{KV Kp:St->A->Prop}(hT:TOk T)
  (S:St->σ->X->Nat->Nat->St)(Q:St->σ->X->Nat->Prop)(one:σ->List Tok->Nat->Rd (σ × α))(f:FuncId)(first caps:List A)
  (hr:∀(s:St) (a:σ) (x:X) (i n:Nat),∃d fi,(S s a x i n).getO r=some (bC T fin d fi i n)/\((S s a x i n).setO r (bC T fin d fi (i+1) n)).ge (S s a x (i+1) n))
  (h1:∀(s:St) (a:σ) (x:X) (i n:Nat) (t:Nat) (v:Nat × TypeId),Q s a x i->(S s a x i n).getT t=none->s.getT t=none/\Q (s.setT t v) a x i/\((S s a x i n).setT t v).ge (S (s.setT t v) a x i n))
  (h2:∀(s:St) (a:σ) (x:X) (i n:Nat) (t:Nat) (v u:Nat × TypeId),s.getT t=none->Q (s.setT t v) a x i->(S (s.setT t v) a x i n).getT t=some v/\Q (s.setT t u) a x i/\((S (s.setT t v) a x i n).setT t u).ge (S (s.setT t u) a x i n))
  (h3:∀(s:St) (a:σ) (x:X) (i n:Nat) (t:Nat) (v:Nat × TypeId),s.getT t=none->Q (s.setT t v) a x i->Q s a x i/\(S (s.setT t v) a x i n).ge (S s a x i n))
  (hi:∀(s:St) (a:σ) (x:X) (i:Nat),Q s a x i->Q s a x (i+1))
  (hg:∀(s:St) (a:σ) (x:X) (i n:Nat),Q s a x i->(S s a x i n).gx s r)
  (hf : ∀ (s : St) (a : σ) (x : X) (i n : Nat) (KV Kp : St → A → Prop),Q s a x i → i ≤ T.length → n ≤ 2000 → (one a (T.drop i) n).to (fun p w n' => ∀ j y,i ≤ j → j ≤ T.length → T.drop j = w → n' ≤ 2000 → Q s p.1 y j → KV (S s p.1 y j n') (enc p.2))
   (λf=>∀s1 o,s1.gx s r->s1.getO r=some o->Kp s1 (.iface 36 f.enc))->Den cx f (first++[]++caps) KV Kp (S s a x i n))
  (a0:σ)(x0:X)(i0 n0:Nat)(hQ:Q s0 a0 x0 i0)(hi0:i0<=T.length)(hn0:n0<=2000)
  (hk : (dD fin [44] (fun (c : σ × List α) w n => (one c.1 w n).bind fun p w n => .ok (p.1,c.2 ++ [p.2]) w n) ((T.drop i0).length + 1) (a0,[]) (T.drop i0) n0).to
   (λc w n=>∀j y,i0<=j->j<=T.length->T.drop j=w->n<=2000->Q s0 c.1 y j->KV (S s0 c.1 y j n) (.list none (c.2.map enc)))
   (λf=>∀s1 o,s1.gx s0 r->s1.getO r=some o->Kp s1 (.iface 36 f.enc))):Den cx 222 [.ptr r 0,.fn f first caps] KV Kp (S s0 a0 x0 i0 n0):=by
 (refine gBo func222 [0,1,4,5,10] ?_;simp only[go_sem,ntmps222,f222]);have hlenT:=hT.len;rw[show(T.drop i0).length=T.length-i0 by rw[dR]]at hk;simp only[dD,bR]at hk;refine qL (hf s0 a0 x0 i0 n0 _ _ hQ hi0 hn0 (aT hk (λp w n' h=>?_) (λg h=>?_)))
 .intro j y hj hjT hw hn' hQy;simp only[bZ,aW]at h;simp only[go_sem];refine .inr ⟨⟨hz _,ho _⟩,λt ht=>?_⟩;obtain⟨g1,g2,g3⟩:=h1 s0 p.1 y j n' t (1,43) hQy ht
  refine Ex.loop (ι:=(σ × X × Nat × Nat) × List α) (λc=>[(0,.ptr r 0),(1,.fn f first caps),(5,.list (some t) (c.2.map enc))])
   (λc=>S (s0.setT t (c.2.length,43)) c.1.1 c.1.2.1 c.1.2.2.1 c.1.2.2.2)
   (fun c => Q (s0.setT t (c.2.length,43)) c.1.1 c.1.2.1 c.1.2.2.1 ∧ i0 ≤ c.1.2.2.1 ∧ c.1.2.2.1 ≤ T.length ∧ c.1.2.2.2 ≤ 2000 ∧ c.2.length ≤ c.1.2.2.1 + 1 ∧ ∃ k,T.length - c.1.2.2.1 ≤ k ∧
    (if isT [44] (T.drop c.1.2.2.1) = true then dD fin [44] (fun (c : σ × List α) w n => (one c.1 w n).bind fun p w n => .ok (p.1,c.2 ++ [p.2]) w n) k (c.1.1,c.2) (T.drop c.1.2.2.1).tail c.1.2.2.2
     else Rd.ok (c.1.1,c.2) (T.drop c.1.2.2.1) c.1.2.2.2).to
      (λc w n=>∀j y,i0<=j->j<=T.length->T.drop j=w->n<=2000->Q s0 c.1 y j->KV (S s0 c.1 y j n) (.list none (c.2.map enc)))
      (λf=>∀s1 o,s1.gx s0 r->s1.getO r=some o->Kp s1 (.iface 36 f.enc)))
   (λc=>T.length-c.1.2.2.1) ((p.1,y,j,n'),[p.2]) ?_ ?_ ?_ ?_
  .refine⟨g2,hj,hjT,hn',by simp only[aE,aF];omega,T.length-i0,by simp only;omega,?_⟩;simp only[hw];exact h
  .simp only[go_sem]
  .exact g3
  .rintro⟨⟨a,x,i,n⟩,l⟩ ⟨q1,q2,q3,qn,q4,k,q5,q6⟩;simp only at q1 q2 q3 qn q4 q5 q6;obtain⟨d,fi,hri,hst⟩:=hr (s0.setT t (l.length,43)) a x i n;refine bG (V:=[0,1,4,5,10]) _ _ _ _ ?_;simp only[go_sem];refine qL (jO _ hri q3 hT ?_);cases hx:isT [44] (T.drop i)with
   | false =>
    rw[hx]at q6;simp only[cJ,if_false,bZ]at q6;obtain⟨e1,e2⟩:=h3 s0 a x i n t (l.length,43) g1 q1;simp only[go_sem];exact DK.mk (q6 i x q2 q3 rfl qn e1) e2 (A.le.forget _ _)
   | true =>
    rw[hx]at q6;have hlt:=lG hx;obtain⟨k,rfl⟩:∃k',k=k'+1:=⟨k-1,by omega⟩
    simp only[if_true,dD,bR,bZ,mR]at q6;simp only[go_sem];refine qL (iA hst (hf (s0.setT t (l.length,43)) a x (i+1) n _ _ (hi _ _ _ _ q1) hlt qn (aT q6 (λp w n' h=>?_) (λg h=>?_))))
    .intro j y hj hjT hw hn' hQy;obtain⟨e1,e2,e3⟩:=h2 s0 p.1 y j n' t (l.length,43) (l.length+1,43) g1 hQy;simp only[go_sem];refine .inl ⟨⟨hz _,ho _⟩,by decide,λq hq=>?_,e1,λq hq=>?_,by omega,((p.1,y,j,n'),l++[p.2]),⟨?_,by simp only;omega,hjT,hn',?_,k,by simp only;omega,?_⟩,by simp only;omega,?_,?_⟩
     .simp only[bW]at hq;subst hq;exact hz _
     .simp only[cC]at hq;obtain⟨q',_,rfl⟩:=hq;exact hz _
     .simp only[aG,aE,aF];exact e2
     .simp only[aG,aE,aF];omega
     .simp only[hw];exact h
     .simp only[cV,bS,cY]
     .simp only[aG,aE,aF];exact e3
    .intro s1 o hg1 hr1;simp only[go_sem];exact aN (h s1 o (hg1.dropT g1) hr1)
 .intro s1 o hg1 hr1;exact aN (h s1 o hg1 hr1)
theorem aG1{α:Type}(enc:α->A)(hz:∀a,(enc a).cells.length=6)(ho:∀a,fP (enc a).cells=true)
  {T:List Tok}{fin:Fault}{d:Dc}{fi:Tok}{s0:St}{r:Nat}{KV Kp:St->A->Prop}(hT:TOk T)
  (Q:St->Prop)(hq:∀(s:St) (t:Nat) (v:Nat × TypeId),Q (s.setT t v)↔Q s)(one:List Tok->Nat->Rd α)(f:FuncId)(first caps:List A)
  (hf : ∀ (s : St) (i n : Nat) (KV Kp : St → A → Prop),Q s → i ≤ T.length → n ≤ 2000 → (one (T.drop i) n).to (fun a w n' => ∀ j,i ≤ j → j ≤ T.length → T.drop j = w → n' ≤ 2000 → KV (s.setO r (bC T fin d fi j n')) (enc a))
   (λf=>∀s1 o,s1.gx s r->s1.getO r=some o->Kp s1 (.iface 36 f.enc))->Den cx f (first++[]++caps) KV Kp (s.setO r (bC T fin d fi i n)))
  (i0 n0:Nat)(hQ:Q s0)(hi0:i0<=T.length)(hn0:n0<=2000)
  (hk : (jR fin (fun _ => one) [] (T.drop i0) n0).to
   (λl w n=>∀j,i0<=j->j<=T.length->T.drop j=w->n<=2000->KV (s0.setO r (bC T fin d fi j n)) (.list none (l.map enc)))
   (λf=>∀s1 o,s1.gx s0 r->s1.getO r=some o->Kp s1 (.iface 36 f.enc))):Den cx 222 [.ptr r 0,.fn f first caps] KV Kp (s0.setO r (bC T fin d fi i0 n0)):=by
 refine aEC (σ:=Unit) (X:=Unit) enc hz ho hT (λs _ _ i n=>s.setO r (bC T fin d fi i n)) (λs _ _ _=>Q s) (λ_ w n=>(one w n).bind λa w n=>.ok ((),a) w n) f first caps
  (λs _ _ i n=>⟨d,fi,by rw[aJ,if_pos rfl],by rw[mT];exact aM _⟩) (λs _ _ i n t v h ht=>⟨ht,(hq s t v).2 h,aM _⟩)
  (λs _ _ i n t v u ht h=>⟨?_,(hq s t u).2 ((hq s t v).1 h),?_⟩) (λs _ _ i n t v ht h=>⟨(hq s t v).1 h,?_⟩) (λs _ _ i h=>h) (λs _ _ i n h=>eR (fJ s r)) (λs _ _ i n KV Kp h hi hn hk=>?_) () () i0 n0 hQ hi0 hn0 ?_
 .show(s.setT t v).getT t=some v;rw[dE,if_pos rfl]
 .show(((s.setT t v).setT t u).setO r _).ge ((s.setT t u).setO r _);exact qD (aBQ s t v u)
 .exact qD (yX ht)
 .refine hf s i n KV Kp h hi hn ?_;rw[bR]at hk;refine aT hk (λa w n' h2 j hj hjT hw hn'=>?_) (λ_ h2=>h2);exact h2 j () hj hjT hw hn' h
 .have:=aB3 fin [44] one ((T.drop i0).length+1) [] [] (T.drop i0) n0 _ _ hk;refine aT this (λc w n h j y hj hjT hw hn' hQ'=>?_) (λ_ h2=>h2);have h':=h j hj hjT hw hn';simpa only[aW]using h'
theorem aNl{σ α X:Type}(enc:α->A)(hz:∀a,(enc a).cells.length=1)(ho:∀a,fP (enc a).cells=true)
  {T:List Tok}{fin:Fault}{s0:St}{r:Nat}{KV Kp:St->A->Prop}(hT:TOk T)
  (S:St->σ->X->Nat->Nat->St)(Q:St->σ->X->Nat->Prop)(one:σ->List Tok->Nat->Rd (σ × α))(f:FuncId)(first caps:List A)
  (hr:∀(s:St) (a:σ) (x:X) (i n:Nat),∃d fi,(S s a x i n).getO r=some (bC T fin d fi i n)/\((S s a x i n).setO r (bC T fin d fi (i+1) n)).ge (S s a x (i+1) n))
  (h1:∀(s:St) (a:σ) (x:X) (i n:Nat) (t:Nat) (v:Nat × TypeId),Q s a x i->(S s a x i n).getT t=none->s.getT t=none/\Q (s.setT t v) a x i/\((S s a x i n).setT t v).ge (S (s.setT t v) a x i n))
  (h2:∀(s:St) (a:σ) (x:X) (i n:Nat) (t:Nat) (v u:Nat × TypeId),s.getT t=none->Q (s.setT t v) a x i->(S (s.setT t v) a x i n).getT t=some v/\Q (s.setT t u) a x i/\((S (s.setT t v) a x i n).setT t u).ge (S (s.setT t u) a x i n))
  (h3:∀(s:St) (a:σ) (x:X) (i n:Nat) (t:Nat) (v:Nat × TypeId),s.getT t=none->Q (s.setT t v) a x i->Q s a x i/\(S (s.setT t v) a x i n).ge (S s a x i n))
  (hi:∀(s:St) (a:σ) (x:X) (i:Nat),Q s a x i->Q s a x (i+1))
  (hg:∀(s:St) (a:σ) (x:X) (i n:Nat),Q s a x i->(S s a x i n).gx s r)
  (hf : ∀ (s : St) (a : σ) (x : X) (i n : Nat) (KV Kp : St → A → Prop),Q s a x i → i ≤ T.length → n ≤ 2000 → (one a (T.drop i) n).to (fun p w n' => ∀ j y,i ≤ j → j ≤ T.length → T.drop j = w → n' ≤ 2000 → Q s p.1 y j → KV (S s p.1 y j n') (enc p.2))
   (λf=>∀s1 o,s1.gx s r->s1.getO r=some o->Kp s1 (.iface 36 f.enc))->Den cx f (first++[]++caps) KV Kp (S s a x i n))
  (a0:σ)(x0:X)(i0 n0:Nat)(hQ:Q s0 a0 x0 i0)(hi0:i0<=T.length)(hn0:n0<=2000)
  (hk : (dD fin [44] (fun (c : σ × List α) w n => (one c.1 w n).bind fun p w n => .ok (p.1,c.2 ++ [p.2]) w n) ((T.drop i0).length + 1) (a0,[]) (T.drop i0) n0).to
   (λc w n=>∀j y,i0<=j->j<=T.length->T.drop j=w->n<=2000->Q s0 c.1 y j->KV (S s0 c.1 y j n) (.list none (c.2.map enc)))
   (λf=>∀s1 o,s1.gx s0 r->s1.getO r=some o->Kp s1 (.iface 36 f.enc))):Den cx 150 [.ptr r 0,.fn f first caps] KV Kp (S s0 a0 x0 i0 n0):=by
 (refine gBo func150 [0,1,4,5,10] ?_;simp only[go_sem,ntmps150,f150]);have hlenT:=hT.len;rw[show(T.drop i0).length=T.length-i0 by rw[dR]]at hk;simp only[dD,bR]at hk;refine qL (hf s0 a0 x0 i0 n0 _ _ hQ hi0 hn0 (aT hk (λp w n' h=>?_) (λg h=>?_)))
 .intro j y hj hjT hw hn' hQy;simp only[bZ,aW]at h;simp only[go_sem];refine .inr ⟨⟨hz _,ho _⟩,λt ht=>?_⟩;obtain⟨g1,g2,g3⟩:=h1 s0 p.1 y j n' t (1,9) hQy ht
  refine Ex.loop (ι:=(σ × X × Nat × Nat) × List α) (λc=>[(0,.ptr r 0),(1,.fn f first caps),(5,.list (some t) (c.2.map enc))])
   (λc=>S (s0.setT t (c.2.length,9)) c.1.1 c.1.2.1 c.1.2.2.1 c.1.2.2.2)
   (fun c => Q (s0.setT t (c.2.length,9)) c.1.1 c.1.2.1 c.1.2.2.1 ∧ i0 ≤ c.1.2.2.1 ∧ c.1.2.2.1 ≤ T.length ∧ c.1.2.2.2 ≤ 2000 ∧ c.2.length ≤ c.1.2.2.1 + 1 ∧ ∃ k,T.length - c.1.2.2.1 ≤ k ∧
    (if isT [44] (T.drop c.1.2.2.1) = true then dD fin [44] (fun (c : σ × List α) w n => (one c.1 w n).bind fun p w n => .ok (p.1,c.2 ++ [p.2]) w n) k (c.1.1,c.2) (T.drop c.1.2.2.1).tail c.1.2.2.2
     else Rd.ok (c.1.1,c.2) (T.drop c.1.2.2.1) c.1.2.2.2).to
      (λc w n=>∀j y,i0<=j->j<=T.length->T.drop j=w->n<=2000->Q s0 c.1 y j->KV (S s0 c.1 y j n) (.list none (c.2.map enc)))
      (λf=>∀s1 o,s1.gx s0 r->s1.getO r=some o->Kp s1 (.iface 36 f.enc)))
   (λc=>T.length-c.1.2.2.1) ((p.1,y,j,n'),[p.2]) ?_ ?_ ?_ ?_
  .refine⟨g2,hj,hjT,hn',by simp only[aE,aF];omega,T.length-i0,by simp only;omega,?_⟩;simp only[hw];exact h
  .simp only[go_sem]
  .exact g3
  .rintro⟨⟨a,x,i,n⟩,l⟩ ⟨q1,q2,q3,qn,q4,k,q5,q6⟩;simp only at q1 q2 q3 qn q4 q5 q6;obtain⟨d,fi,hri,hst⟩:=hr (s0.setT t (l.length,9)) a x i n;refine bG (V:=[0,1,4,5,10]) _ _ _ _ ?_;simp only[go_sem];refine qL (jO _ hri q3 hT ?_);cases hx:isT [44] (T.drop i)with
   | false =>
    rw[hx]at q6;simp only[cJ,if_false,bZ]at q6;obtain⟨e1,e2⟩:=h3 s0 a x i n t (l.length,9) g1 q1;simp only[go_sem];exact DK.mk (q6 i x q2 q3 rfl qn e1) e2 (A.le.forget _ _)
   | true =>
    rw[hx]at q6;have hlt:=lG hx;obtain⟨k,rfl⟩:∃k',k=k'+1:=⟨k-1,by omega⟩
    simp only[if_true,dD,bR,bZ,mR]at q6;simp only[go_sem];refine qL (iA hst (hf (s0.setT t (l.length,9)) a x (i+1) n _ _ (hi _ _ _ _ q1) hlt qn (aT q6 (λp w n' h=>?_) (λg h=>?_))))
    .intro j y hj hjT hw hn' hQy;obtain⟨e1,e2,e3⟩:=h2 s0 p.1 y j n' t (l.length,9) (l.length+1,9) g1 hQy;simp only[go_sem];refine .inl ⟨⟨hz _,ho _⟩,by decide,λq hq=>?_,e1,λq hq=>?_,by omega,((p.1,y,j,n'),l++[p.2]),⟨?_,by simp only;omega,hjT,hn',?_,k,by simp only;omega,?_⟩,by simp only;omega,?_,?_⟩
     .simp only[bW]at hq;subst hq;exact hz _
     .simp only[cC]at hq;obtain⟨q',_,rfl⟩:=hq;exact hz _
     .simp only[aG,aE,aF];exact e2
     .simp only[aG,aE,aF];omega
     .simp only[hw];exact h
     .simp only[cV,bS,cY]
     .simp only[aG,aE,aF];exact e3
    .intro s1 o hg1 hr1;simp only[go_sem];exact aN (h s1 o (hg1.dropT g1) hr1)
 .intro s1 o hg1 hr1;exact aN (h s1 o hg1 hr1)
theorem aMW{α:Type}(enc:α->A)(hz:∀a,(enc a).cells.length=1)(ho:∀a,fP (enc a).cells=true)
  {T:List Tok}{fin:Fault}{d:Dc}{fi:Tok}{s0:St}{r:Nat}{KV Kp:St->A->Prop}(hT:TOk T)
  (Q:St->Prop)(hq:∀(s:St) (t:Nat) (v:Nat × TypeId),Q (s.setT t v)↔Q s)(one:List Tok->Nat->Rd α)(f:FuncId)(first caps:List A)
  (hf : ∀ (s : St) (i n : Nat) (KV Kp : St → A → Prop),Q s → i ≤ T.length → n ≤ 2000 → (one (T.drop i) n).to (fun a w n' => ∀ j,i ≤ j → j ≤ T.length → T.drop j = w → n' ≤ 2000 → KV (s.setO r (bC T fin d fi j n')) (enc a))
   (λf=>∀s1 o,s1.gx s r->s1.getO r=some o->Kp s1 (.iface 36 f.enc))->Den cx f (first++[]++caps) KV Kp (s.setO r (bC T fin d fi i n)))
  (i0 n0:Nat)(hQ:Q s0)(hi0:i0<=T.length)(hn0:n0<=2000)
  (hk : (jR fin (fun _ => one) [] (T.drop i0) n0).to
   (λl w n=>∀j,i0<=j->j<=T.length->T.drop j=w->n<=2000->KV (s0.setO r (bC T fin d fi j n)) (.list none (l.map enc)))
   (λf=>∀s1 o,s1.gx s0 r->s1.getO r=some o->Kp s1 (.iface 36 f.enc))):Den cx 150 [.ptr r 0,.fn f first caps] KV Kp (s0.setO r (bC T fin d fi i0 n0)):=by
 refine aNl (σ:=Unit) (X:=Unit) enc hz ho hT (λs _ _ i n=>s.setO r (bC T fin d fi i n)) (λs _ _ _=>Q s) (λ_ w n=>(one w n).bind λa w n=>.ok ((),a) w n) f first caps
  (λs _ _ i n=>⟨d,fi,by rw[aJ,if_pos rfl],by rw[mT];exact aM _⟩) (λs _ _ i n t v h ht=>⟨ht,(hq s t v).2 h,aM _⟩)
  (λs _ _ i n t v u ht h=>⟨?_,(hq s t u).2 ((hq s t v).1 h),?_⟩) (λs _ _ i n t v ht h=>⟨(hq s t v).1 h,?_⟩) (λs _ _ i h=>h) (λs _ _ i n h=>eR (fJ s r)) (λs _ _ i n KV Kp h hi hn hk=>?_) () () i0 n0 hQ hi0 hn0 ?_
 .show(s.setT t v).getT t=some v;rw[dE,if_pos rfl]
 .show(((s.setT t v).setT t u).setO r _).ge ((s.setT t u).setO r _);exact qD (aBQ s t v u)
 .exact qD (yX ht)
 .refine hf s i n KV Kp h hi hn ?_;rw[bR]at hk;refine aT hk (λa w n' h2 j hj hjT hw hn'=>?_) (λ_ h2=>h2);exact h2 j () hj hjT hw hn' h
 .have:=aB3 fin [44] one ((T.drop i0).length+1) [] [] (T.drop i0) n0 _ _ hk;refine aT this (λc w n h j y hj hjT hw hn' hQ'=>?_) (λ_ h2=>h2);have h':=h j hj hjT hw hn';simpa only[aW]using h'
theorem aEG{σ α X:Type}(enc:α->A)(hz:∀a,(enc a).cells.length=1)(ho:∀a,fP (enc a).cells=true)
  {T:List Tok}{fin:Fault}{s0:St}{r:Nat}{KV Kp:St->A->Prop}(hT:TOk T)
  (S:St->σ->X->Nat->Nat->St)(Q:St->σ->X->Nat->Prop)(one:σ->List Tok->Nat->Rd (σ × α))(f:FuncId)(first caps:List A)
  (hr:∀(s:St) (a:σ) (x:X) (i n:Nat),∃d fi,(S s a x i n).getO r=some (bC T fin d fi i n)/\((S s a x i n).setO r (bC T fin d fi (i+1) n)).ge (S s a x (i+1) n))
  (h1:∀(s:St) (a:σ) (x:X) (i n:Nat) (t:Nat) (v:Nat × TypeId),Q s a x i->(S s a x i n).getT t=none->s.getT t=none/\Q (s.setT t v) a x i/\((S s a x i n).setT t v).ge (S (s.setT t v) a x i n))
  (h2:∀(s:St) (a:σ) (x:X) (i n:Nat) (t:Nat) (v u:Nat × TypeId),s.getT t=none->Q (s.setT t v) a x i->(S (s.setT t v) a x i n).getT t=some v/\Q (s.setT t u) a x i/\((S (s.setT t v) a x i n).setT t u).ge (S (s.setT t u) a x i n))
  (h3:∀(s:St) (a:σ) (x:X) (i n:Nat) (t:Nat) (v:Nat × TypeId),s.getT t=none->Q (s.setT t v) a x i->Q s a x i/\(S (s.setT t v) a x i n).ge (S s a x i n))
  (hi:∀(s:St) (a:σ) (x:X) (i:Nat),Q s a x i->Q s a x (i+1))
  (hg:∀(s:St) (a:σ) (x:X) (i n:Nat),Q s a x i->(S s a x i n).gx s r)
  (hf : ∀ (s : St) (a : σ) (x : X) (i n : Nat) (KV Kp : St → A → Prop),Q s a x i → i ≤ T.length → n ≤ 2000 → (one a (T.drop i) n).to (fun p w n' => ∀ j y,i ≤ j → j ≤ T.length → T.drop j = w → n' ≤ 2000 → Q s p.1 y j → KV (S s p.1 y j n') (enc p.2))
   (λf=>∀s1 o,s1.gx s r->s1.getO r=some o->Kp s1 (.iface 36 f.enc))->Den cx f (first++[]++caps) KV Kp (S s a x i n))
  (a0:σ)(x0:X)(i0 n0:Nat)(hQ:Q s0 a0 x0 i0)(hi0:i0<=T.length)(hn0:n0<=2000)
  (hk : (dD fin [44] (fun (c : σ × List α) w n => (one c.1 w n).bind fun p w n => .ok (p.1,c.2 ++ [p.2]) w n) ((T.drop i0).length + 1) (a0,[]) (T.drop i0) n0).to
   (λc w n=>∀j y,i0<=j->j<=T.length->T.drop j=w->n<=2000->Q s0 c.1 y j->KV (S s0 c.1 y j n) (.list none (c.2.map enc)))
   (λf=>∀s1 o,s1.gx s0 r->s1.getO r=some o->Kp s1 (.iface 36 f.enc))):Den cx 146 [.ptr r 0,.fn f first caps] KV Kp (S s0 a0 x0 i0 n0):=by
 (refine gBo func146 [0,1,4,5,10] ?_;simp only[go_sem,ntmps146,f146]);have hlenT:=hT.len;rw[show(T.drop i0).length=T.length-i0 by rw[dR]]at hk;simp only[dD,bR]at hk;refine qL (hf s0 a0 x0 i0 n0 _ _ hQ hi0 hn0 (aT hk (λp w n' h=>?_) (λg h=>?_)))
 .intro j y hj hjT hw hn' hQy;simp only[bZ,aW]at h;simp only[go_sem];refine .inr ⟨⟨hz _,ho _⟩,λt ht=>?_⟩;obtain⟨g1,g2,g3⟩:=h1 s0 p.1 y j n' t (1,4) hQy ht
  refine Ex.loop (ι:=(σ × X × Nat × Nat) × List α) (λc=>[(0,.ptr r 0),(1,.fn f first caps),(5,.list (some t) (c.2.map enc))])
   (λc=>S (s0.setT t (c.2.length,4)) c.1.1 c.1.2.1 c.1.2.2.1 c.1.2.2.2)
   (fun c => Q (s0.setT t (c.2.length,4)) c.1.1 c.1.2.1 c.1.2.2.1 ∧ i0 ≤ c.1.2.2.1 ∧ c.1.2.2.1 ≤ T.length ∧ c.1.2.2.2 ≤ 2000 ∧ c.2.length ≤ c.1.2.2.1 + 1 ∧ ∃ k,T.length - c.1.2.2.1 ≤ k ∧
    (if isT [44] (T.drop c.1.2.2.1) = true then dD fin [44] (fun (c : σ × List α) w n => (one c.1 w n).bind fun p w n => .ok (p.1,c.2 ++ [p.2]) w n) k (c.1.1,c.2) (T.drop c.1.2.2.1).tail c.1.2.2.2
     else Rd.ok (c.1.1,c.2) (T.drop c.1.2.2.1) c.1.2.2.2).to
      (λc w n=>∀j y,i0<=j->j<=T.length->T.drop j=w->n<=2000->Q s0 c.1 y j->KV (S s0 c.1 y j n) (.list none (c.2.map enc)))
      (λf=>∀s1 o,s1.gx s0 r->s1.getO r=some o->Kp s1 (.iface 36 f.enc)))
   (λc=>T.length-c.1.2.2.1) ((p.1,y,j,n'),[p.2]) ?_ ?_ ?_ ?_
  .refine⟨g2,hj,hjT,hn',by simp only[aE,aF];omega,T.length-i0,by simp only;omega,?_⟩;simp only[hw];exact h
  .simp only[go_sem]
  .exact g3
  .rintro⟨⟨a,x,i,n⟩,l⟩ ⟨q1,q2,q3,qn,q4,k,q5,q6⟩;simp only at q1 q2 q3 qn q4 q5 q6;obtain⟨d,fi,hri,hst⟩:=hr (s0.setT t (l.length,4)) a x i n;refine bG (V:=[0,1,4,5,10]) _ _ _ _ ?_;simp only[go_sem];refine qL (jO _ hri q3 hT ?_);cases hx:isT [44] (T.drop i)with
   | false =>
    rw[hx]at q6;simp only[cJ,if_false,bZ]at q6;obtain⟨e1,e2⟩:=h3 s0 a x i n t (l.length,4) g1 q1;simp only[go_sem];exact DK.mk (q6 i x q2 q3 rfl qn e1) e2 (A.le.forget _ _)
   | true =>
    rw[hx]at q6;have hlt:=lG hx;obtain⟨k,rfl⟩:∃k',k=k'+1:=⟨k-1,by omega⟩
    simp only[if_true,dD,bR,bZ,mR]at q6;simp only[go_sem];refine qL (iA hst (hf (s0.setT t (l.length,4)) a x (i+1) n _ _ (hi _ _ _ _ q1) hlt qn (aT q6 (λp w n' h=>?_) (λg h=>?_))))
    .intro j y hj hjT hw hn' hQy;obtain⟨e1,e2,e3⟩:=h2 s0 p.1 y j n' t (l.length,4) (l.length+1,4) g1 hQy;simp only[go_sem];refine .inl ⟨⟨hz _,ho _⟩,by decide,λq hq=>?_,e1,λq hq=>?_,by omega,((p.1,y,j,n'),l++[p.2]),⟨?_,by simp only;omega,hjT,hn',?_,k,by simp only;omega,?_⟩,by simp only;omega,?_,?_⟩
     .simp only[bW]at hq;subst hq;exact hz _
     .simp only[cC]at hq;obtain⟨q',_,rfl⟩:=hq;exact hz _
     .simp only[aG,aE,aF];exact e2
     .simp only[aG,aE,aF];omega
     .simp only[hw];exact h
     .simp only[cV,bS,cY]
     .simp only[aG,aE,aF];exact e3
    .intro s1 o hg1 hr1;simp only[go_sem];exact aN (h s1 o (hg1.dropT g1) hr1)
 .intro s1 o hg1 hr1;exact aN (h s1 o hg1 hr1)
theorem aNc{σ α X:Type}(enc:α->A)(hz:∀a,(enc a).cells.length=1)(ho:∀a,fP (enc a).cells=true)
  {T:List Tok}{fin:Fault}{s0:St}{r:Nat}{KV Kp:St->A->Prop}(hT:TOk T)
  (S:St->σ->X->Nat->Nat->St)(Q:St->σ->X->Nat->Prop)(one:σ->List Tok->Nat->Rd (σ × α))(f:FuncId)(first caps:List A)
  (hr:∀(s:St) (a:σ) (x:X) (i n:Nat),∃d fi,(S s a x i n).getO r=some (bC T fin d fi i n)/\((S s a x i n).setO r (bC T fin d fi (i+1) n)).ge (S s a x (i+1) n))
  (h1:∀(s:St) (a:σ) (x:X) (i n:Nat) (t:Nat) (v:Nat × TypeId),Q s a x i->(S s a x i n).getT t=none->s.getT t=none/\Q (s.setT t v) a x i/\((S s a x i n).setT t v).ge (S (s.setT t v) a x i n))
  (h2:∀(s:St) (a:σ) (x:X) (i n:Nat) (t:Nat) (v u:Nat × TypeId),s.getT t=none->Q (s.setT t v) a x i->(S (s.setT t v) a x i n).getT t=some v/\Q (s.setT t u) a x i/\((S (s.setT t v) a x i n).setT t u).ge (S (s.setT t u) a x i n))
  (h3:∀(s:St) (a:σ) (x:X) (i n:Nat) (t:Nat) (v:Nat × TypeId),s.getT t=none->Q (s.setT t v) a x i->Q s a x i/\(S (s.setT t v) a x i n).ge (S s a x i n))
  (hi:∀(s:St) (a:σ) (x:X) (i:Nat),Q s a x i->Q s a x (i+1))
  (hg:∀(s:St) (a:σ) (x:X) (i n:Nat),Q s a x i->(S s a x i n).gx s r)
  (hf : ∀ (s : St) (a : σ) (x : X) (i n : Nat) (KV Kp : St → A → Prop),Q s a x i → i ≤ T.length → n ≤ 2000 → (one a (T.drop i) n).to (fun p w n' => ∀ j y,i ≤ j → j ≤ T.length → T.drop j = w → n' ≤ 2000 → Q s p.1 y j → KV (S s p.1 y j n') (enc p.2))
   (λf=>∀s1 o,s1.gx s r->s1.getO r=some o->Kp s1 (.iface 36 f.enc))->Den cx f (first++[]++caps) KV Kp (S s a x i n))
  (a0:σ)(x0:X)(i0 n0:Nat)(hQ:Q s0 a0 x0 i0)(hi0:i0<=T.length)(hn0:n0<=2000)
  (hk : (dD fin [44] (fun (c : σ × List α) w n => (one c.1 w n).bind fun p w n => .ok (p.1,c.2 ++ [p.2]) w n) ((T.drop i0).length + 1) (a0,[]) (T.drop i0) n0).to
   (λc w n=>∀j y,i0<=j->j<=T.length->T.drop j=w->n<=2000->Q s0 c.1 y j->KV (S s0 c.1 y j n) (.list none (c.2.map enc)))
   (λf=>∀s1 o,s1.gx s0 r->s1.getO r=some o->Kp s1 (.iface 36 f.enc))):Den cx 282 [.ptr r 0,.fn f first caps] KV Kp (S s0 a0 x0 i0 n0):=by
 (refine gBo func282 [0,1,4,5,10] ?_;simp only[go_sem,ntmps282,f282]);have hlenT:=hT.len;rw[show(T.drop i0).length=T.length-i0 by rw[dR]]at hk;simp only[dD,bR]at hk;refine qL (hf s0 a0 x0 i0 n0 _ _ hQ hi0 hn0 (aT hk (λp w n' h=>?_) (λg h=>?_)))
 .intro j y hj hjT hw hn' hQy;simp only[bZ,aW]at h;simp only[go_sem];refine .inr ⟨⟨hz _,ho _⟩,λt ht=>?_⟩;obtain⟨g1,g2,g3⟩:=h1 s0 p.1 y j n' t (1,3) hQy ht
  refine Ex.loop (ι:=(σ × X × Nat × Nat) × List α) (λc=>[(0,.ptr r 0),(1,.fn f first caps),(5,.list (some t) (c.2.map enc))])
   (λc=>S (s0.setT t (c.2.length,3)) c.1.1 c.1.2.1 c.1.2.2.1 c.1.2.2.2)
   (fun c => Q (s0.setT t (c.2.length,3)) c.1.1 c.1.2.1 c.1.2.2.1 ∧ i0 ≤ c.1.2.2.1 ∧ c.1.2.2.1 ≤ T.length ∧ c.1.2.2.2 ≤ 2000 ∧ c.2.length ≤ c.1.2.2.1 + 1 ∧ ∃ k,T.length - c.1.2.2.1 ≤ k ∧
    (if isT [44] (T.drop c.1.2.2.1) = true then dD fin [44] (fun (c : σ × List α) w n => (one c.1 w n).bind fun p w n => .ok (p.1,c.2 ++ [p.2]) w n) k (c.1.1,c.2) (T.drop c.1.2.2.1).tail c.1.2.2.2
     else Rd.ok (c.1.1,c.2) (T.drop c.1.2.2.1) c.1.2.2.2).to
      (λc w n=>∀j y,i0<=j->j<=T.length->T.drop j=w->n<=2000->Q s0 c.1 y j->KV (S s0 c.1 y j n) (.list none (c.2.map enc)))
      (λf=>∀s1 o,s1.gx s0 r->s1.getO r=some o->Kp s1 (.iface 36 f.enc)))
   (λc=>T.length-c.1.2.2.1) ((p.1,y,j,n'),[p.2]) ?_ ?_ ?_ ?_
  .refine⟨g2,hj,hjT,hn',by simp only[aE,aF];omega,T.length-i0,by simp only;omega,?_⟩;simp only[hw];exact h
  .simp only[go_sem]
  .exact g3
  .rintro⟨⟨a,x,i,n⟩,l⟩ ⟨q1,q2,q3,qn,q4,k,q5,q6⟩;simp only at q1 q2 q3 qn q4 q5 q6;obtain⟨d,fi,hri,hst⟩:=hr (s0.setT t (l.length,3)) a x i n;refine bG (V:=[0,1,4,5,10]) _ _ _ _ ?_;simp only[go_sem];refine qL (jO _ hri q3 hT ?_);cases hx:isT [44] (T.drop i)with
   | false =>
    rw[hx]at q6;simp only[cJ,if_false,bZ]at q6;obtain⟨e1,e2⟩:=h3 s0 a x i n t (l.length,3) g1 q1;simp only[go_sem];exact DK.mk (q6 i x q2 q3 rfl qn e1) e2 (A.le.forget _ _)
   | true =>
    rw[hx]at q6;have hlt:=lG hx;obtain⟨k,rfl⟩:∃k',k=k'+1:=⟨k-1,by omega⟩
    simp only[if_true,dD,bR,bZ,mR]at q6;simp only[go_sem];refine qL (iA hst (hf (s0.setT t (l.length,3)) a x (i+1) n _ _ (hi _ _ _ _ q1) hlt qn (aT q6 (λp w n' h=>?_) (λg h=>?_))))
    .intro j y hj hjT hw hn' hQy;obtain⟨e1,e2,e3⟩:=h2 s0 p.1 y j n' t (l.length,3) (l.length+1,3) g1 hQy;simp only[go_sem];refine .inl ⟨⟨hz _,ho _⟩,by decide,λq hq=>?_,e1,λq hq=>?_,by omega,((p.1,y,j,n'),l++[p.2]),⟨?_,by simp only;omega,hjT,hn',?_,k,by simp only;omega,?_⟩,by simp only;omega,?_,?_⟩
     .simp only[bW]at hq;subst hq;exact hz _
     .simp only[cC]at hq;obtain⟨q',_,rfl⟩:=hq;exact hz _
     .simp only[aG,aE,aF];exact e2
     .simp only[aG,aE,aF];omega
     .simp only[hw];exact h
     .simp only[cV,bS,cY]
     .simp only[aG,aE,aF];exact e3
    .intro s1 o hg1 hr1;simp only[go_sem];exact aN (h s1 o (hg1.dropT g1) hr1)
 .intro s1 o hg1 hr1;exact aN (h s1 o hg1 hr1)
theorem aMN{α:Type}(enc:α->A)(hz:∀a,(enc a).cells.length=1)(ho:∀a,fP (enc a).cells=true)
  {T:List Tok}{fin:Fault}{d:Dc}{fi:Tok}{s0:St}{r:Nat}{KV Kp:St->A->Prop}(hT:TOk T)
  (Q:St->Prop)(hq:∀(s:St) (t:Nat) (v:Nat × TypeId),Q (s.setT t v)↔Q s)(one:List Tok->Nat->Rd α)(f:FuncId)(first caps:List A)
  (hf : ∀ (s : St) (i n : Nat) (KV Kp : St → A → Prop),Q s → i ≤ T.length → n ≤ 2000 → (one (T.drop i) n).to (fun a w n' => ∀ j,i ≤ j → j ≤ T.length → T.drop j = w → n' ≤ 2000 → KV (s.setO r (bC T fin d fi j n')) (enc a))
   (λf=>∀s1 o,s1.gx s r->s1.getO r=some o->Kp s1 (.iface 36 f.enc))->Den cx f (first++[]++caps) KV Kp (s.setO r (bC T fin d fi i n)))
  (i0 n0:Nat)(hQ:Q s0)(hi0:i0<=T.length)(hn0:n0<=2000)
  (hk : (jR fin (fun _ => one) [] (T.drop i0) n0).to
   (λl w n=>∀j,i0<=j->j<=T.length->T.drop j=w->n<=2000->KV (s0.setO r (bC T fin d fi j n)) (.list none (l.map enc)))
   (λf=>∀s1 o,s1.gx s0 r->s1.getO r=some o->Kp s1 (.iface 36 f.enc))):Den cx 282 [.ptr r 0,.fn f first caps] KV Kp (s0.setO r (bC T fin d fi i0 n0)):=by
 refine aNc (σ:=Unit) (X:=Unit) enc hz ho hT (λs _ _ i n=>s.setO r (bC T fin d fi i n)) (λs _ _ _=>Q s) (λ_ w n=>(one w n).bind λa w n=>.ok ((),a) w n) f first caps
  (λs _ _ i n=>⟨d,fi,by rw[aJ,if_pos rfl],by rw[mT];exact aM _⟩) (λs _ _ i n t v h ht=>⟨ht,(hq s t v).2 h,aM _⟩)
  (λs _ _ i n t v u ht h=>⟨?_,(hq s t u).2 ((hq s t v).1 h),?_⟩) (λs _ _ i n t v ht h=>⟨(hq s t v).1 h,?_⟩) (λs _ _ i h=>h) (λs _ _ i n h=>eR (fJ s r)) (λs _ _ i n KV Kp h hi hn hk=>?_) () () i0 n0 hQ hi0 hn0 ?_
 .show(s.setT t v).getT t=some v;rw[dE,if_pos rfl]
 .show(((s.setT t v).setT t u).setO r _).ge ((s.setT t u).setO r _);exact qD (aBQ s t v u)
 .exact qD (yX ht)
 .refine hf s i n KV Kp h hi hn ?_;rw[bR]at hk;refine aT hk (λa w n' h2 j hj hjT hw hn'=>?_) (λ_ h2=>h2);exact h2 j () hj hjT hw hn' h
 .have:=aB3 fin [44] one ((T.drop i0).length+1) [] [] (T.drop i0) n0 _ _ hk;refine aT this (λc w n h j y hj hjT hw hn' hQ'=>?_) (λ_ h2=>h2);have h':=h j hj hjT hw hn';simpa only[aW]using h'
theorem aDk{α:Type}{enc:α->A}{T:List Tok}{fin:Fault}{d:Dc}{fi:Tok}{r:Nat}{Q:St->Prop}{one:List Tok->Nat->Rd α}{f:FuncId}{args:List A}(hQr:∀(s:St) (o:Ob),Q s->Q (s.setO r o))
  (h:∀(s:St) (i n:Nat) (KV Kp:St->A->Prop),s.getO r=some (bC T fin d fi i n)->Q s->i<=T.length->n<=2000->(one (T.drop i) n).to (PK T i (λj m=>s.setO r (bC T fin d fi j m)) enc KV) (PB s r Kp)->Den cx f args KV Kp s) :
  ∀(s:St) (i n:Nat) (KV Kp:St->A->Prop),Q s->i<=T.length->n<=2000->(one (T.drop i) n).to (λa w n'=>∀j,i<=j->j<=T.length->T.drop j=w->n'<=2000->KV (s.setO r (bC T fin d fi j n')) (enc a))
   (λf=>∀s1 o,s1.gx s r->s1.getO r=some o->Kp s1 (.iface 36 f.enc))->Den cx f args KV Kp (s.setO r (bC T fin d fi i n)):=by
 intro s i n KV Kp hQ hi hn hk;refine h (s.setO r _) i n KV Kp (by rw[aJ,if_pos rfl]) (hQr s _ hQ) hi hn (aT hk (λa w m h j hj hjT hw hm=>?_) (λf h o=>?_))
 .simp only[mT];exact h j hj hjT hw hm
 .exact h _ o (eR (eR (fJ s r))) (by rw[aJ,if_pos rfl])
section
theorem aI9(s:St)(x:aC)(KV Kp)(hk:KV s (.bool (sU x))):Den cx 240 [.str x] KV Kp s:=by
 (refine aO func240 [0,2] ?_;simp only[go_sem,ntmps240,f240]);refine wP _ _ _ _ ?_;simp only[go_sem];cases hn:dM x with
 | false =>
  simp only[go_sem];rw[show sU x=false by simp[sU,hn]]at hk;exact aN hk
 | true =>
  cases x with
  | nil=>simp[dM]at hn
  | cons c r =>
   have e97:decide ((97:Int)<=(c.toNat:Int))=decide (97<=c.toNat):=by rw[gG];omega
   have e122:decide ((c.toNat:Int)<=122)=decide (c.toNat<=122):=by rw[gG];omega
   rw[show sU (c::r)=((decide (97<=c.toNat)&&decide (c.toNat<=122))&&!decide (c::r=[116,114,117,101])&&!decide (c::r=[102,97,108,115,101]))by simp[sU,hn]]at hk;cases h1:decide (97<=c.toNat)<;>cases h2:decide (c.toNat<=122)<;>cases h3:decide (c::r=[116,114,117,101])<;>cases h4:decide (c::r=[102,97,108,115,101])<;>simp only[go_sem,e97,e122,h1,h2,h3,h4]
   all_goals (rw[h1,h2,h3,h4]at hk;exact aN hk)
section
variable {T:List Tok} {fin:Fault} {d:Dc} {first:Tok} {i n:Nat} {s:St} {r:Nat} {KV Kp:St->A->Prop}
theorem PB.mk{s1:St}{f:Fault}(hg:s1.gx s r)(h:PB s r Kp f):PB s1 r (DK Kp) f:=λo=>h.at (eR hg) (by rw[aJ,if_pos rfl])
theorem zM(deep:Nat)(sort:aC)(hr:s.getO r=some (bC T fin d first i n))(hi:i<=T.length)(hT:TOk T)(hn:n<=2000)
  (hk:(qO fin first (decide (deep=60)) sort (T.drop i) n).to (PK T i (λj m=>s.setO r (bC T fin d first j m)) (λl=>.list none (l.map Tm.enc)) KV) (PB s r Kp)) :
  Den cx 242 [.ptr r 0,.int .i64 deep,.str sort] KV Kp s:=by
 (refine aO func242 [0,1,2,6,7,8,11,17] ?_;simp only[go_sem,ntmps242,f242]);refine jO _ hr hi hT ?_;cases hx:isT [124] (T.drop i)with
 | false =>
  simp only[qO,hx,cJ,if_false,bZ]at hk;simp only[go_sem];exact DK.mk (hk i (bT _) hi rfl hn) (sA hr) A.le.nil
 | true =>
  have hlt:=lG hx;simp only[qO,hx,if_true,mR]at hk;simp only[go_sem];have hr1:(s.setO r (bC T fin d first (i+1) n)).getO r=some (bC T fin d first (i+1) n):=by rw[aJ,if_pos rfl]
  refine kE hr1 hlt ?_;cases hw:T.drop (i+1)with
  | nil=>rw[hw]at hk;exact PB.at hk aS hr1
  | cons t w =>
   rw[hw]at hk;obtain⟨h1,h2,h3,h4⟩:=lQ hw;simp only at hk;simp only[go_sem];(intro b hb;try simp only[aI,ne_eq]at hb);have hr2:((s.setO r (bC T fin d first (i+1) n)).setO b (.cells 60 t.cs)).getO r=some (bC T fin d first (i+1) n):=by rw[aJ,if_neg (Ne.symm hb.1.1),hr1]
   simp only[go_sem,hb];refine iL hr2 (Nat.le_of_lt h2) hT ?_;rw[hw];simp only[eN];cases hf:t.free with
   | false =>
    rw[hf]at hk;simp only[cJ,if_false,eJ]at hk⊢;exact PB.mk aS hk
   | true =>
    rw[hf]at hk;simp only[if_true,bZ]at hk⊢;intro hle hw2 _;simp only[go_sem];have ed:decide ((deep:Int)=60)=decide (deep=60):=by rw[gG];omega
    simp only[go_sem,ed];cases hd:decide (deep=60)with
    | true =>
     rw[hd]at hk;simp only[if_true,eJ]at hk;simp only[go_sem,hb];exact PB.at (f:=⟨19,t.text,t.line,t.col⟩) hk aS (by rw[aJ,if_pos rfl]<;>rfl)
    | false =>
     rw[hd]at hk;simp only[cJ,if_false,bR]at hk;simp only[go_sem,hb];refine aIY (T:=T) (fin:=fin) (d:=d) (first:=first) (i:=i+1+1) (n:=n) (by rw[aJ,if_pos rfl]<;>rfl) hn ?_;rw[hw2];refine aT hk (λ_ w2 n2 h=>?_) (λf h=>PB.mk aS h);intro e1 e2;subst e1;simp only[bZ]at h;simp only[go_sem];refine DK.mk (h (i+1+1) aB hle hw2 e2) (St.gx.ge aS (by rw[aJ,if_pos rfl]<;>rfl)) ?_;exact A.le.list ⟨by simp only[List.map,dH,A.cells,rO,Tm.cs];exact⟨⟨bB _,rfl⟩,⟨bB _,rfl⟩,⟨bB _,rfl⟩,⟨bB _,rfl⟩,⟨A.le.nil,rfl⟩,⟨A.le.nil,rfl⟩,trivial⟩,trivial⟩
end
end
inductive TmW:Tm->Prop
 | mk (k n:Int) (x y:aC) (a b:List Tm) (hx:x.length<=140737488355328) (hy:y.length<=140737488355328) (ha:∀t,t∈a->TmW t) (hb:∀t,t∈b->TmW t) (la:a.length<=140737488355328) (lb:b.length<=140737488355328):TmW (.mk k n x y a b)
theorem TmW.text{t:Tm}(h:TmW t):t.text.length<=140737488355328:=by cases h;assumption
theorem TmW.sort{t:Tm}(h:TmW t):t.sort.length<=140737488355328:=by cases h;assumption
theorem TmW.kids{t:Tm}(h:TmW t):∀x,x∈t.kids->TmW x:=by cases h;assumption
theorem TmW.rest{t:Tm}(h:TmW t):∀x,x∈t.rest->TmW x:=by cases h;assumption
theorem TmW.lk{t:Tm}(h:TmW t):t.kids.length<=140737488355328:=by cases h;assumption
theorem TmW.lr{t:Tm}(h:TmW t):t.rest.length<=140737488355328:=by cases h;assumption
def Tm.leaf(t:Tm):Bool:=decide (t.kids.length=0)&&decide (t.rest.length=0)
def Tm.opn(t:Tm):Bool:=decide (t.text=[95])||decide (t.text=[36])
def Tm.shV(t:Tm):Bool:=t.leaf&&((dM t.text&&dM t.sort)||(t.opn&&decide (t.sort=[65,110,121])))&&decide (t.n=0)
def Tm.shR(t:Tm)(S:aC):Bool:=match t.rest with
 | []=>true
 | r::l=>decide (l.length=0)&&(decide (r.kind=6)&&(r.shV&&(dM r.text&&decide (r.sort=S))))
def Tm.shape(t:Tm):Bool :=
 if t.kind=1 then t.leaf&&(aAl t.n||(decide (t.n=0)||decide (t.n=1)))&&(decide (t.text=[])&&decide (t.sort=[]))
 else if t.kind=2 then t.leaf&&(decide (t.n=0)||decide (t.n=1))&&(decide (t.text=[])&&decide (t.sort=[]))
 else if t.kind=3 then t.leaf&&nT t.text&&(decide (t.n=0)&&decide (t.sort=[]))
 else if t.kind=4 then t.leaf&&sU t.text&&(decide (t.n=0)&&decide (t.sort=[]))
 else if t.kind=5 then(aBt t.text&&(decide (t.kids.length<=8)&&decide (t.rest.length=0)))&&(decide (t.n=0)&&decide (t.sort=[]))
 else if t.kind=6 then t.shV
 else if t.kind=7 then t.shR [76,105,115,116]&&(decide (t.n=0)&&(decide (t.text=[])&&decide (t.sort=[])))
 else if t.kind=8 then(t.shR [77,97,112]&&decide (t.kids.length % 2=0))&&(decide (t.n=0)&&(decide (t.text=[])&&decide (t.sort=[])))
 else false
theorem sY{s:St}{KV:St->A->Prop}{a b:Bool}(h:KV s (.bool a))(e:b=a):KV s (.bool b):=e▸h
theorem aHN(t:Tm)(h6:t.kind=6)(hw:TmW t)(s:St)(KV Kp)(hk:KV s (.bool t.shV)):Den cx 210 [.agg t.cs] KV Kp s:=by
 (refine aO func210 [0,1,2,3,4,5,6,25,26,53,64,75,95,130,134] ?_;simp only[go_sem,ntmps210,f210]);(intro p hp;try simp only[aI,ne_eq]at hp);simp only[go_sem,hp,h6];(intro q hq;try simp only[aI,ne_eq]at hq);simp only[go_sem,hp,hq,h6,Int.reduceEq]
 repeat' (first|(refine wP _ _ _ _ ?_;simp only[go_sem,hp,hq,h6,Int.reduceEq])|((refine bL (OT.r 0 8) [(5,[3])] ?_;simp only[go_sem,hp,hq,h6,Int.reduceEq]))|refine aP (sY hk ?_) cS|(refine aQ (λh=>?_) (λh=>?_))<;>simp only[go_sem,h,hp,hq,h6,Int.reduceEq])
 all_goals simp_all [Tm.shV,Tm.leaf,Tm.opn]
theorem aHB(t:Tm)(S:aC)(hw:TmW t)(s:St)(KV Kp){cs:List A}(hc:cs=t.cs)(hk:KV s (.bool (t.shR S))):Den cx 275 [.agg cs,.str S] KV Kp s:=by
 subst hc;(refine aO func275 [0,1,2,4,5,9] ?_;simp only[go_sem,ntmps275,f275]);(intro p hp;try simp only[aI,ne_eq]at hp);simp only[go_sem,hp];cases hr:t.rest with
 | nil =>
  have e:t.shR S=true:=by unfold Tm.shR;rw[hr]
  rw[e]at hk;have d0:decide (((0:Nat):Int)=0)=true:=rfl;simp only[go_sem,hp,hr,d0];exact aP hk cS
 | cons r l =>
  have d1:decide (((l.length+1:Nat):Int)=0)=false:=by rw[fL];omega
  have d2:decide (((l.length+1:Nat):Int)=1)=decide (l.length=0):=by rw[gG];omega
  simp only[go_sem,hp,hr,d1];(intro q hq;try simp only[aI,ne_eq]at hq);simp only[go_sem,hp,hr,hq,d1,d2];have e:t.shR S=(decide (l.length=0)&&(decide (r.kind=6)&&(r.shV&&(dM r.text&&decide (r.sort=S))))):=by unfold Tm.shR;rw[hr]
  have hwr:TmW r:=hw.rest r (by rw[hr];exact bY ..);rw[e]at hk;clear e;cases h1:decide (l.length=0)<;>rw[h1]at hk<;>simp only[go_sem,hp,hr,hq,h1]
  .exact aP hk cS
  cases h2:decide (r.kind=6)<;>rw[h2]at hk<;>simp only[go_sem,hp,hr,hq,h1,h2]
  .exact aP hk cS
  refine aHN r (qA h2) hwr _ _ _ ?_;cases h3:r.shV<;>rw[h3]at hk<;>simp only[go_sem,hp,hr,hq,h1,h2]
  .exact aP hk cS
  refine wP _ _ _ _ ?_;cases h4:dM r.text<;>rw[h4]at hk<;>simp only[go_sem,hp,hr,hq,h1,h2]
  .exact aP hk cS
  exact aP hk cS
theorem kinds(k:Int):k=1\/k=2\/k=3\/k=4\/k=5\/k=6\/k=7\/k=8\/(k≠1/\k≠2/\k≠3/\k≠4/\k≠5/\k≠6/\k≠7/\k≠8):=by omega
theorem aPk(t:Tm)(hw:TmW t)(s:St)(KV Kp)(hk:KV s (.bool t.shape)):Den cx 210 [.agg t.cs] KV Kp s:=by
 have hx:=hw.text;have e8:decide ((t.kids.length:Int)<=8)=decide (t.kids.length<=8):=by rw[gG];omega
 have e2:decide ((t.kids.length:Int).tmod 2=0)=decide (t.kids.length % 2=0):=by
  rw[gG,Int.tmod_eq_emod_of_nonneg aB];omega
 rcases kinds t.kind with h6|h6|h6|h6|h6|h6|h6|h6|h6
 ·(refine aO func210 [0,1,2,3,4,5,6,25,26,53,64,75,95,130,134] ?_;simp only[go_sem,ntmps210,f210]);(intro p hp;try simp only[aI,ne_eq]at hp);simp only[go_sem,hp,h6];(intro q hq;try simp only[aI,ne_eq]at hq);simp only[go_sem,hp,hq,h6,Int.reduceEq]
  repeat' (first|(refine aIE _ _ _ _ ?_;simp only[go_sem,hp,hq,h6,Int.reduceEq])|refine aP (sY hk ?_) cS|(refine aQ (λh=>?_) (λh=>?_))<;>simp only[go_sem,h,hp,hq,h6,Int.reduceEq])
  all_goals first|(simp_all [Tm.shape,Tm.leaf];done)|(simp_all [Tm.shape,Tm.leaf];intros;omega)
 ·(refine aO func210 [0,1,2,3,4,5,6,25,26,53,64,75,95,130,134] ?_;simp only[go_sem,ntmps210,f210]);(intro p hp;try simp only[aI,ne_eq]at hp);simp only[go_sem,hp,h6];(intro q hq;try simp only[aI,ne_eq]at hq);simp only[go_sem,hp,hq,h6,Int.reduceEq]
  repeat' (first|(refine aIE _ _ _ _ ?_;simp only[go_sem,hp,hq,h6,Int.reduceEq])|refine aP (sY hk ?_) cS|(refine aQ (λh=>?_) (λh=>?_))<;>simp only[go_sem,h,hp,hq,h6,Int.reduceEq])
  all_goals first|(simp_all [Tm.shape,Tm.leaf];done)|(simp_all [Tm.shape,Tm.leaf];intros;omega)
 ·(refine aO func210 [0,1,2,3,4,5,6,25,26,53,64,75,95,130,134] ?_;simp only[go_sem,ntmps210,f210]);(intro p hp;try simp only[aI,ne_eq]at hp);simp only[go_sem,hp,h6];(intro q hq;try simp only[aI,ne_eq]at hq);simp only[go_sem,hp,hq,h6,Int.reduceEq]
  repeat' (first|(refine aHa _ _ _ _ ?_;simp only[go_sem,hp,hq,h6,Int.reduceEq])|refine aP (sY hk ?_) cS|(refine aQ (λh=>?_) (λh=>?_))<;>simp only[go_sem,h,hp,hq,h6,Int.reduceEq])
  all_goals first|(simp_all [Tm.shape,Tm.leaf];done)|(simp_all [Tm.shape,Tm.leaf];intros;omega)
 ·(refine aO func210 [0,1,2,3,4,5,6,25,26,53,64,75,95,130,134] ?_;simp only[go_sem,ntmps210,f210]);(intro p hp;try simp only[aI,ne_eq]at hp);simp only[go_sem,hp,h6];(intro q hq;try simp only[aI,ne_eq]at hq);simp only[go_sem,hp,hq,h6,Int.reduceEq]
  repeat' (first|(refine aI9 _ _ _ _ ?_;simp only[go_sem,hp,hq,h6,Int.reduceEq])|refine aP (sY hk ?_) cS|(refine aQ (λh=>?_) (λh=>?_))<;>simp only[go_sem,h,hp,hq,h6,Int.reduceEq])
  all_goals first|(simp_all [Tm.shape,Tm.leaf];done)|(simp_all [Tm.shape,Tm.leaf];intros;omega)
 ·(refine aO func210 [0,1,2,3,4,5,6,25,26,53,64,75,95,130,134] ?_;simp only[go_sem,ntmps210,f210]);(intro p hp;try simp only[aI,ne_eq]at hp);simp only[go_sem,hp,h6];(intro q hq;try simp only[aI,ne_eq]at hq);simp only[go_sem,hp,hq,h6,Int.reduceEq]
  repeat' (first|(refine aQE _ _ _ _ aB ?_;simp only[go_sem,hp,hq,h6,Int.reduceEq,e8])|refine aP (sY hk ?_) cS|(refine aQ (λh=>?_) (λh=>?_))<;>simp only[go_sem,h,hp,hq,h6,Int.reduceEq,e8,e2])
  all_goals first|(simp_all [Tm.shape,Tm.leaf];done)|(simp_all [Tm.shape,Tm.leaf];intros;omega)
 .exact aHN t h6 hw s KV Kp (sY hk (by simp[Tm.shape,h6]))
 ·(refine aO func210 [0,1,2,3,4,5,6,25,26,53,64,75,95,130,134] ?_;simp only[go_sem,ntmps210,f210]);(intro p hp;try simp only[aI,ne_eq]at hp);simp only[go_sem,hp,h6];(intro q hq;try simp only[aI,ne_eq]at hq);simp only[go_sem,hp,hq,h6,Int.reduceEq]
  repeat' (first|(refine aHB t _ hw _ _ _ (by simp only[Tm.cs,h6]) ?_;simp only[go_sem,hp,hq,h6,Int.reduceEq,e2])|refine aP (sY hk ?_) cS|(refine aQ (λh=>?_) (λh=>?_))<;>simp only[go_sem,h,hp,hq,h6,Int.reduceEq,e8,e2])
  all_goals first|(simp_all [Tm.shape,Tm.leaf];done)|(simp_all [Tm.shape,Tm.leaf];intros;omega)
 ·(refine aO func210 [0,1,2,3,4,5,6,25,26,53,64,75,95,130,134] ?_;simp only[go_sem,ntmps210,f210]);(intro p hp;try simp only[aI,ne_eq]at hp);simp only[go_sem,hp,h6];(intro q hq;try simp only[aI,ne_eq]at hq);simp only[go_sem,hp,hq,h6,Int.reduceEq]
  repeat' (first|(refine aHB t _ hw _ _ _ (by simp only[Tm.cs,h6]) ?_;simp only[go_sem,hp,hq,h6,Int.reduceEq,e2])|refine aP (sY hk ?_) cS|(refine aQ (λh=>?_) (λh=>?_))<;>simp only[go_sem,h,hp,hq,h6,Int.reduceEq,e8,e2])
  all_goals first|(simp_all [Tm.shape,Tm.leaf];done)|(simp_all [Tm.shape,Tm.leaf];intros;omega)
 .obtain⟨n1,n2,n3,n4,n5,n6,n7,n8⟩:=h6;have d1:=lD n1;have d2:=lD n2;have d3:=lD n3;have d4:=lD n4;have d5:=lD n5;have d6:=lD n6;have d7:=lD n7;have d8:=lD n8;(refine aO func210 [0,1,2,3,4,5,6,25,26,53,64,75,95,130,134] ?_;simp only[go_sem,ntmps210,f210]);(intro p hp;try simp only[aI,ne_eq]at hp);simp only[go_sem,hp];(intro q hq;try simp only[aI,ne_eq]at hq);simp only[go_sem,hp,hq,d1,d2,d3,d4,d5,d6,d7,d8]
  repeat' (first|refine aP (sY hk ?_) cS|(refine aQ (λh=>?_) (λh=>?_))<;>simp only[go_sem,h,hp,hq,d1,d2,d3,d4,d5,d6,d7,d8])
  all_goals simp_all [Tm.shape]
def dU(f:Tm->Nat->Option Nat):List Tm->Nat->Option Nat
 | [],m=>some m
 | t::r,m=>(f t m).bind (dU f r)
def jH(k r m:Nat):Option Nat:=if r=0 then some m else if 0<k/\m+r<=2000 then some (m+r) else none
def eF:Nat->Tm->Nat->Option Nat
 | 0,_,_=>none
 | k+1,.mk _ _ _ _ ks rs,m=>if m+1<=2000 then(dU (eF k) ks (m+1)).bind (jH k rs.length) else none
def Tm.val:Nat->Tm->Nat->Option Nat
 | 0,_,_=>none
 | k+1,t,m=>if m+1<=2000 then(if t.shape=true then(dU (Tm.val k) t.kids (m+1)).bind (jH k t.rest.length) else none) else none
def oA(n:Int)(b:Bool):Ob:=.cells 184 [.int .i64 n,.bool b]
theorem aFq(f:Tm->Nat->Option Nat)(x:Tm):∀(l:List Tm) (m:Nat),dU f (l++[x]) m=(dU f l m).bind (f x)
 | [],m=>by
  simp only[aW,dU,Option.bind_some];cases f x m<;>rfl
 | t::r,m=>by
  simp only[aV,dU];cases f t m with
  | none=>rfl
  | some n=>exact aFq f x r n
theorem aOX{f:Tm->Nat->Option Nat}{l:List Tm}{i:Nat}{x:Tm}(h:l[i]?=some x)(m:Nat):dU f (l.take (i+1)) m=(dU f (l.take i) m).bind (f x):=by
 rw[iS,h];exact aFq f x _ m
theorem aPq{f:Tm->Nat->Option Nat}{l:List Tm}{i:Nat}{m:Nat}(h:dU f (l.take i) m=none):dU f l m=none:=by
 have:∀(a b:List Tm) m,dU f a m=none->dU f (a++b) m=none:=by
  intro a
  induction a with
  | nil=>intro b m h;cases h
  | cons t r ih =>
   intro b m h;simp only[aV,dU]at h⊢;cases hf:f t m with
   | none=>rfl
   | some n=>rw[hf]at h;exact ih b n h
 have:=this _ (l.drop i) m h
 rwa[List.take_append_drop]at this
theorem aF4{f:Tm->Nat->Option Nat}(hf:∀t m n,f t m=some n->n<=2000):∀(l:List Tm) (a b:Nat),a<=2000->dU f l a=some b->b<=2000
 | [],a,b,ha,h=>by cases h;exact ha
 | x::r,a,b,ha,h=>by
  simp only[dU]at h;cases hx:f x a with
  | none=>rw[hx]at h;cases h
  | some c=>rw[hx]at h;exact aF4 hf r c b (hf x a c hx) h
theorem aLb:∀(k:Nat) (t:Tm) (m n:Nat),Tm.val k t m=some n->n<=2000
 | 0,_,_,_,h=>by cases h
 | k+1,t,m,n,h=>by
  unfold Tm.val at h;split at h
  .split at h
   .cases hl:dU (Tm.val k) t.kids (m+1)with
    | none=>rw[hl]at h;cases h
    | some q =>
     rw[hl]at h;simp only[Option.bind_some,jH]at h;split at h
     .cases h;exact aF4 (λt m n h=>aLb k t m n h) _ _ _ (by assumption) hl
     .split at h
      .cases h;omega
      .cases h
   .cases h
  .cases h
def uN(k c j:Nat):Bool:=decide (j=0)||(decide (0<k)&&decide (c+j<=2000))
def leM(m:Nat):Bool:=decide (m<=2000)
theorem aGz(k c j:Nat):uN k c (j+1)=(decide (0<k)&&leM (c+j+1)):=by simp[uN,leM,oX]
theorem aN0:∀(k:Nat) (t:Tm) (n:Nat) (r:Nat) (s:St) (KV Kp:St->A->Prop),k<=60->n<=2000->TmW t->s.getO r=some (oA n true) ->
    (match Tm.val k t n with
      | some m=>KV (s.setO r (oA m true)) (.tuple [])
      | none=>∀z,KV (s.setO r (oA z false)) (.tuple []))->Den cx 139 [.ptr r 0,.agg t.cs,.int .i64 (61-(k:Int))] KV Kp s:=by
  intro k
  induction k with
  | zero =>
    intro t n r s KV Kp hk60 hn hw hr hk;simp only[oA]at hr hk⊢;have w1:=cF n aB;have d1:decide ((61-((0:Nat):Int))<=60)=false:=by decide
    simp only[Tm.val]at hk;(refine aO func139 [0,1,2,4,7,41,43,44,45,46,58,62,63,64] ?_;simp only[go_sem,ntmps139,f139]);(intro p hp;try simp only[aI,ne_eq]at hp);have ep:=cE hr hp;simp only[go_sem,hr,hp,ep,w1,d1];refine aP (hk ((n+1:Nat):Int)) ?_;exact aX
  | succ k ih =>
    intro t n r s KV Kp hk60 hn hw hr hk;simp only[oA]at hr hk;have w1:=cF n aB;have d1:decide ((61-((k+1:Nat):Int))<=60)=true:=by rw[cU];omega
    (refine aO func139 [0,1,2,4,7,41,43,44,45,46,58,62,63,64] ?_;simp only[go_sem,ntmps139,f139]);(intro p hp;try simp only[aI,ne_eq]at hp);have ep:=cE hr hp;simp only[go_sem,hr,hp,ep,w1,d1];by_cases h2:n+1<=2000
    · have d2:decide (((n+1:Nat):Int)≤2000)=true:=by rw[cU];omega
      simp only[go_sem,hr,hp,ep,w1,d1,d2];refine aPk t hw _ _ _ ?_;cases hs:t.shape
      · simp only[go_sem,hr,hp,ep,w1,d1,d2]
        have hv:Tm.val (k+1) t n=none:=by rw[Tm.val,if_pos h2,hs,if_neg aD]
        rw[hv]at hk;exact aP (hk ((n+1:Nat):Int)) aX
      have hv:Tm.val (k+1) t n=(dU (Tm.val k) t.kids (n+1)).bind (jH k t.rest.length):=by rw[Tm.val,if_pos h2,hs,if_pos rfl]
      rw[hv]at hk;simp only[go_sem,hr,hp,ep,w1,d1,d2]
      have w5:IntKind.i64.wrap (61-((k+1:Nat):Int)+1)=61-(k:Int):=by
        rw[iU _ aB aB];omega
      refine Ex.loop (ι:=Nat × Nat) (λc=>[(0,.ptr r 0),(2,.int .i64 (61-((k+1:Nat):Int))),(4,.ptr p 0),(43,.list none (t.kids.map Tm.enc)),(44,.int .i64 (t.kids.length:Nat)),(45,.int .i64 (c.1:Nat))])
        (λc=>(s.setO p (.cells 43 t.cs)).setO r (oA c.2 true)) (λc=>c.1<=t.kids.length/\dU (Tm.val k) (t.kids.take c.1) (n+1)=some c.2) (λc=>t.kids.length-c.1) (0,n+1) ⟨aU _,rfl⟩ ?_ ?_ ?_
      · (simp only[go_sem];try exact rfl)
      · exact aX
      · rintro ⟨i,c⟩ ⟨hi,hc⟩
        simp only at hi hc;have hcl:=aF4 (λt m n h=>aLb k t m n h) _ _ _ h2 hc;simp only[oA];refine bG (V:=[0,1,2,4,7,41,43,44,45,46,58,62,63,64]) _ _ _ _ ?_;simp only[go_sem,hr,hp,ep];(refine aQ (λh=>?_) (λh=>?_))<;>simp only[go_sem,h,hr,hp,ep]
        · have hix:i<t.kids.length:=by simpa using h
          clear h;obtain⟨x,hx⟩:∃a,t.kids[i]?=some a:=⟨_,aY hix⟩
          have hxm:x∈t.kids:=cM hx;simp only[go_sem,hr,hp,ep,hx,hix];(intro b5 hb5;try simp only[aI,ne_eq]at hb5);simp only[go_sem,hr,hp,ep,hx,hix,hb5,w5];refine ih x c r _ _ _ aB hcl (hw.kids x hxm) (by simp only[oA];exact gH) ?_;have htk:=aOX (f:=Tm.val k) hx (n+1);rw[hc]at htk;simp only[Option.bind_some]at htk;cases hv2:Tm.val k x c with
          | none =>
            rw[hv2]at htk;rw[aPq htk]at hk;intro z;simp only[oA];simp only[go_sem,hr,hp,ep,hb5];exact aP (hk z) aX
          | some c2 =>
            rw[hv2]at htk;simp only[oA];simp only[go_sem,hr,hp,ep,hb5];refine⟨(i+1,c2),⟨hix,htk⟩,by simp only;omega,(by simp only[go_sem,cF i (by have:=hw.lk;omega)];try rfl),?_⟩;exact aX
        · have hii : i = t.kids.length := by have : ¬ i < t.kids.length := by simpa using h
                                             omega
          subst hii;rw[List.take_length]at hc;rw[hc]at hk;simp only[Option.bind_some]at hk;clear h;have hwr:=hw.lr;have d6:decide ((61-((k+1:Nat):Int))<60)=decide (0<k):=by rw[gG];omega
          refine Ex.loop (ι:=Nat) (λj=>[(0,.ptr r 0),(2,.int .i64 (61-((k+1:Nat):Int))),(4,.ptr p 0),(62,.int .i64 (t.rest.length:Nat)),(63,.int .i64 (j:Nat))])
            (λj=>(s.setO p (.cells 43 t.cs)).setO r (oA ((c+j:Nat):Int) (uN k c j))) (λj=>j<=t.rest.length) (λj=>t.rest.length-j) 0 (aU _) ?_ ?_ ?_
          · (simp only[go_sem];try exact rfl)
          · exact aX
          · intro j hj
            have w6:=cF (c+j) aB;simp only[oA];refine bG (V:=[0,1,2,4,7,41,43,44,45,46,58,62,63,64]) _ _ _ _ ?_;simp only[go_sem,hr,hp,ep];(refine aQ (λh=>?_) (λh=>?_))<;>simp only[go_sem,h,hr,hp,ep]
            · have hjx:j<t.rest.length:=by simpa using h
              clear h;have d7:decide (((c+j+1:Nat):Int)<=2000)=leM (c+j+1):=by unfold leM;rw[gG];omega
              have w7:=cF j aB;cases hb0:uN k c j with
              | false =>
                have e0:(decide (0<k)&&leM (c+j+1))=false:=by
                  simp only[leM,uN,Bool.or_eq_false_iff,Bool.and_eq_false_iff,fL]at hb0⊢;omega
                simp only[go_sem,hr,hp,ep,hb0,w6,d6,d7];refine⟨j+1,hjx,by omega,(by simp only[go_sem,w7];try rfl),?_⟩;rw[aGz,e0];exact aX
              | true =>
                cases hk0:decide (0<k)with
                | false =>
                  simp only[go_sem,hr,hp,ep,hb0,w6,d6,d7,hk0];refine⟨j+1,hjx,by omega,(by simp only[go_sem,w7];try rfl),?_⟩;rw[aGz,hk0,eU];exact aX
                | true =>
                  simp only[go_sem,hr,hp,ep,hb0,w6,d6,d7,hk0];refine⟨j+1,hjx,by omega,(by simp only[go_sem,w7];try rfl),?_⟩;rw[aGz,hk0,eW];exact aX
            · have hjj : j = t.rest.length := by have : ¬ j < t.rest.length := by simpa using h
                                                 omega
              subst hjj;clear h;cases hm:jH k t.rest.length c with
              | none =>
                rw[hm]at hk
                have e0:uN k c t.rest.length=false:=by
                  unfold jH at hm;unfold uN;split at hm
                  · cases hm
                  · split at hm
                    · cases hm
                    · simp only[Bool.or_eq_false_iff,Bool.and_eq_false_iff,fL]
                      omega
                rw[e0];exact aP (hk _) aX
              | some m =>
                rw[hm]at hk
                have e0:uN k c t.rest.length=true/\m=c+t.rest.length:=by
                  unfold jH at hm;unfold uN;split at hm
                  · cases hm;rename_i h0;exact⟨by rw[h0];rfl,by omega⟩
                  · split at hm
                    · rename_i h0 h1;cases hm
                      exact⟨by rw[kD h1.1,kD h1.2];simp,rfl⟩
                    · cases hm
                rw[e0.1];rw[e0.2]at hk;exact aP hk aX
    · have d2:decide (((n+1:Nat):Int)<=2000)=false:=by rw[fL];omega
      have hv:Tm.val (k+1) t n=none:=by rw[Tm.val,if_neg h2]
      rw[hv]at hk;simp only[go_sem,hr,hp,ep,w1,d1,d2];exact aP (hk ((n+1:Nat):Int)) aX
theorem aNt(t:Tm)(hw:TmW t)(s:St)(KV Kp:St->A->Prop)(hk:KV s (.bool (Tm.val 60 t 0).isSome)):Den cx 80 [.agg t.cs] KV Kp s:=by
 (refine aO func80 [0,1,2,3] ?_;simp only[go_sem,ntmps80,f80]);(intro p hp;try simp only[aI,ne_eq]at hp);simp only[go_sem,hp];(intro q hq;try simp only[aI,ne_eq]at hq);simp only[go_sem,hp,hq];refine aN0 60 t 0 q _ _ _ (bT _) aB hw (by simp only[oA];exact gH) ?_;cases hv:Tm.val 60 t 0 with
 | none =>
  rw[hv]at hk;intro z;simp only[oA];simp only[go_sem,hp,hq];exact aP hk aX
 | some m =>
  rw[hv]at hk;simp only[oA];simp only[go_sem,hp,hq];exact aP hk aX
section
def xX(T:List Tok)(fin:Fault)(r k:Nat):Prop:=∀(s:St) (d:Dc) (first:Tok) (i n:Nat) (KV Kp:St->A->Prop),s.getO r=some (bC T fin d first i n)->i<=T.length->n<=2000 ->
 (fC false fin first k (T.drop i) n).to (PK T (i+1) (λj m=>s.setO r (bC T fin d first j m)) Tm.enc KV) (PB s r Kp)->Den cx 92 [.ptr r 0,.int .i64 ((61-k:Nat):Int)] KV Kp s
theorem Tm.hz(a:Tm):a.enc.cells.length=6:=by rw[dH];rfl
theorem Tm.ho(a:Tm):fP a.enc.cells=true:=by rw[dH];rfl
theorem Tm.le_leaf(k n:Int)(x y:aC):A.le (.agg [.int .i64 k,.int .i64 n,.str x,.str y,.nils,.nils]) (Tm.enc (.mk k n x y [] [])):=by
 rw[dH];exact A.le.agg ⟨⟨bB _,rfl⟩,⟨bB _,rfl⟩,⟨bB _,rfl⟩,⟨bB _,rfl⟩,⟨A.le.nil,rfl⟩,⟨A.le.nil,rfl⟩,trivial⟩
section
variable {T:List Tok} {fin:Fault} {d:Dc} {first:Tok} {i n:Nat} {s:St} {r:Nat} {KV Kp:St->A->Prop}
theorem aNO(k:Nat)(hk60:k<=60)(IH:xX T fin r k)(b3 b5:Nat)(h3:s.getO b3=some (.cells 74 [.ptr r 0]))(h5:s.getO b5=some (.cells 3 [.int .i64 ((60-k:Nat):Int)]))
  (hr:s.getO r=some (bC T fin d first i n))(hi:i<=T.length)(hn:n<=2000)
  (hk:(fC false fin first k (T.drop i) n).to (PK T (i+1) (λj m=>s.setO r (bC T fin d first j m)) Tm.enc KV) (PB s r Kp)):Den cx 241 [.ptr b3 0,.ptr b5 0] KV Kp s:=by
 (refine aO func241 [0,1,2] ?_;simp only[go_sem,ntmps241,f241]);(intro b hb;try simp only[aI,ne_eq]at hb);have e3:=cE h3 hb;have e5:=cE h5 hb;have er:=cE hr hb;have ed:IntKind.i64.wrap (((60-k:Nat):Int)+1)=((61-k:Nat):Int):=by rw[cF _ aB];congr 1;omega
 simp only[go_sem,hb,e3,e5,h3,h5,ed];refine IH _ d first i n _ _ (by rw[aJ,if_neg er.2];exact hr) hi hn (aT hk (λa w m h j hj hjT hw hm=>?_) (λf h=>PB.mk aS h))
 have h':=h j hj hjT hw hm;simp only at h';rw[dH]at h';simp only[go_sem,hb,er];exact aP h' (St.gx.ge aS (by rw[aJ,if_neg er.2,aJ,if_pos rfl]<;>rfl))
end
end
section
section
variable {T:List Tok} {fin:Fault} {d:Dc} {first:Tok} {i n:Nat} {s:St} {r:Nat} {KV Kp:St->A->Prop}
structure EntQ (b2 b3 q r k:Nat) (s:St) (acc:List Tm) (tk:Option Nat) (i:Nat):Prop where
 len:acc.length<=i
 h2:s.getO b2=some (.cells 74 [.ptr r 0])
 h3:s.getO b3=some (.cells 3 [.int .i64 ((60-k:Nat):Int)])
 hq:s.getO q=none
 ne:q≠r/\q≠b2/\q≠b3/\r≠b2/\r≠b3
 nil:tk=none->acc=[]
 free:∀t,tk=some t->s.getT t=none
def gZ(T:List Tok)(fin:Fault)(d:Dc)(first:Tok)(kind:Int)(x:aC)(q r:Nat)(s:St)(acc:List Tm)(tk:Option Nat)(i n:Nat):St :=
 gs ((s.setO q (.cells 43 [.int .i64 kind,.int .i64 0,.str x,.str [],gv tk (acc.map Tm.enc),.nils])).setO r (bC T fin d first i n)) tk acc.length 43
theorem aQV(k b2 b3 q:Nat)(hk60:k<=60)(IH:xX T fin r k)(hT:TOk T)(acc:List Tm)(tk:Option Nat)(hQ:EntQ b2 b3 q r k s acc tk i)(hi:i<=T.length)(hn:n<=2000)
  (hk : (nX fin (fC false fin first k) acc (T.drop i) n).to (fun a w n' => ∀ j y,i ≤ j → j ≤ T.length → T.drop j = w → n' ≤ 2000 → EntQ b2 b3 q r k s a y j → KV (gZ T fin d first 8 [] q r s a y j n') (.bool true))
   (λf=>∀s1 o,s1.gx s r->s1.getO r=some o->Kp s1 (.iface 36 f.enc))):Den cx 286 [.ptr q 0,.ptr b2 0,.ptr b3 0] KV Kp (gZ T fin d first 8 [] q r s acc tk i n):=by
 obtain⟨hac,h2,h3,hq,⟨n1,n2,n3,n4,n5⟩,hnil,hfree⟩:=hQ;have hlen:=hT.len;have ed:IntKind.i64.wrap (((60-k:Nat):Int)+1)=((61-k:Nat):Int):=by rw[cF _ aB];congr 1;omega
 have hg:nJ (gZ T fin d first 8 [] q r s acc tk i n) tk (acc.map Tm.enc).length 43:=by rw[aH];exact iF λe=>by rw[hnil e];rfl
 refine aIa ?_;(refine aO func286 [0,1,2,3] ?_;simp only[go_sem,ntmps286,Tryz.f286]);unfold gZ;simp only[nX,bR]at hk;cases tk with
 | none =>
  obtain rfl:=hnil rfl;simp only[aKI];(refine bL (OT.l [0,1,2,3,4,6,7,5,8,9,11] (.pair 10 12)) [(5,[1])] ?_;simp only[go_sem,n1,n2,n3,n4,n5,n1.symm,n2.symm,n3.symm,n4.symm,n5.symm,h2,h3,ed]);refine IH _ d first i n _ _ (by rw[aZ,aJ,if_pos rfl]<;>rfl) hi hn (aT hk (λkk w m hk2 j hj hjT hw hm=>?_) (λf h o=>?_))
  rotate_left
  .simp only[go_sem];exact aN (h _ _ (qC (iB (eR (cX hq (fJ s r))) hfree) rfl) (by rw[eD,aZ,aJ,if_pos rfl]<;>rfl))
  simp only[go_sem,n1,n2,n3,n4,n5,n1.symm,n2.symm,n3.symm,n4.symm,n5.symm,h2,h3,ed,Tm.hz];refine⟨by decide,?_⟩;intro t ht;refine⟨rfl,?_⟩;have hft:s.getT t=none:=ht;subst hw;refine iA aHv ?_;refine fN (T:=T) (fin:=fin) (d:=d) (first:=first) (i:=j) (n:=m) _ (by simp only[eD,aZ,aJ,ne_eq,reduceIte,n1,dK]<;>(first|done|rfl)) hjT hT (aT hk2 (λ_ w2 m2 hk3 hlt hw2 hm2=>?_) (λf h o=>?_));rotate_left
  .simp only[go_sem];exact aN (h _ o (by repeat (first|exact fJ _ _|refine tM ?_ rfl|refine qC ?_ rfl|refine iB ?_ (λ_ e=>by cases e;assumption)|refine eR ?_|refine cX hq ?_)) (by simp only[eD,aZ,aJ,ne_eq,reduceIte,n1,dK]<;>(first|done|rfl)))
  subst hw2 hm2;simp only[go_sem,n1,n2,n3,n4,n5,n1.symm,n2.symm,n3.symm,n4.symm,n5.symm,h2,h3,ed];(refine bL (OT.l [0,1,2,3,4,6,7,5,8,9,11] (.pair 10 12)) [(5,[1])] ?_;simp only[go_sem,n1,n2,n3,n4,n5,n1.symm,n2.symm,n3.symm,n4.symm,n5.symm,h2,h3,ed]);refine IH _ d first (j+1) _ _ _ (by simp only[eD,aZ,aJ,ne_eq,reduceIte,n1,dK]<;>(first|done|rfl)) hlt hm (aT hk3 (λvv w3 m3 hk4 j3 hj3 hjT3 hw3 hm3=>?_) (λf h o=>?_))
  rotate_left
  .simp only[go_sem];exact aN (h _ o (by repeat (first|exact fJ _ _|refine tM ?_ rfl|refine qC ?_ rfl|refine iB ?_ (λ_ e=>by cases e;assumption)|refine eR ?_|refine cX hq ?_)) (by simp only[eD,aZ,aJ,ne_eq,reduceIte,n1,dK]<;>(first|done|rfl)))
  simp only[go_sem,n1,n2,n3,n4,n5,n1.symm,n2.symm,n3.symm,n4.symm,n5.symm,h2,h3,ed,Tm.hz];refine⟨by decide,⟨by rw[wM,iD,if_pos rfl],λy hy=>?_⟩,λt2 ht2=>?_⟩
  .simp only[bW]at hy;subst hy;rfl
  have hft2:s.getT t2=none:=aIi ht2 hft (λ_=>rfl);have hk5:=hk4 j3 (some t2) aB hjT3 hw3 hm3 ⟨by simp only[aG,aE,aF]at hac⊢;omega,h2,h3,hq,⟨n1,n2,n3,n4,n5⟩,λe=>(by cases e),λt' e=>by cases e;exact hft2⟩;simp only[gZ,dO]at hk5;rw[show(([]:List Tm)++[kk,vv]).length=2 by simp]at hk5;refine aP (s2:=(gs ((s.setO q (.cells 43 [.int .i64 8,.int .i64 0,.str [],.str [],.list (some t2) ((([]:List Tm)++[kk,vv]).map Tm.enc),.nils])).setO r (bC T fin d first j3 m3)) (some t2) (2) 43).setL none) hk5 ?_;refine aHR hft (λb o hb=>?_) (λ_=>rfl) bD;simp only[aJ]at hb⊢;by_cases hb1:q=b
  .subst hb1;simp only[n1,n1.symm,if_true,if_false]at hb⊢;simpa [dH,Tm.cs]using hb
  .by_cases hb2:r=b
   .simp only[hb1,hb2,if_true,if_false]at hb⊢;exact hb
   .simp only[hb1,hb2,if_false]at hb⊢;exact hb
 | some u =>
  simp only[dO];(refine bL (OT.l [0,1,2,3,4,6,7,5,8,9,11] (.pair 10 12)) [(5,[1])] ?_;simp only[go_sem,n1,n2,n3,n4,n5,n1.symm,n2.symm,n3.symm,n4.symm,n5.symm,h2,h3,ed]);refine IH _ d first i n _ _ (by rw[aZ,aJ,if_pos rfl]<;>rfl) hi hn (aT hk (λkk w m hk2 j hj hjT hw hm=>?_) (λf h o=>?_))
  rotate_left
  .simp only[go_sem];exact aN (h _ _ (qC (iB (eR (cX hq (fJ s r))) hfree) rfl) (by rw[eD,aZ,aJ,if_pos rfl]<;>rfl))
  simp only[go_sem,n1,n2,n3,n4,n5,n1.symm,n2.symm,n3.symm,n4.symm,n5.symm,h2,h3,ed,Tm.hz];refine⟨by decide,?_⟩;refine⟨⟨by rw[iD,if_pos rfl],λy hy=>?_,by omega⟩,λt ht=>?_⟩
  .simp only[cC]at hy;obtain⟨z,_,rfl⟩:=hy;exact Tm.hz z
  have hft:s.getT t=none:=aCO ht (hfree u rfl) (λ_=>rfl);subst hw;refine iA (aEP (hfree u rfl)) ?_;refine fN (T:=T) (fin:=fin) (d:=d) (first:=first) (i:=j) (n:=m) _ (by simp only[eD,aZ,aJ,ne_eq,reduceIte,n1,dK]<;>(first|done|rfl)) hjT hT (aT hk2 (λ_ w2 m2 hk3 hlt hw2 hm2=>?_) (λf h o=>?_));rotate_left
  .simp only[go_sem];exact aN (h _ o (by repeat (first|exact fJ _ _|refine tM ?_ rfl|refine qC ?_ rfl|refine iB ?_ (λ_ e=>by cases e;assumption)|refine eR ?_|refine cX hq ?_)) (by simp only[eD,aZ,aJ,ne_eq,reduceIte,n1,dK]<;>(first|done|rfl)))
  subst hw2 hm2;simp only[go_sem,n1,n2,n3,n4,n5,n1.symm,n2.symm,n3.symm,n4.symm,n5.symm,h2,h3,ed];(refine bL (OT.l [0,1,2,3,4,6,7,5,8,9,11] (.pair 10 12)) [(5,[1])] ?_;simp only[go_sem,n1,n2,n3,n4,n5,n1.symm,n2.symm,n3.symm,n4.symm,n5.symm,h2,h3,ed]);refine IH _ d first (j+1) _ _ _ (by simp only[eD,aZ,aJ,ne_eq,reduceIte,n1,dK]<;>(first|done|rfl)) hlt hm (aT hk3 (λvv w3 m3 hk4 j3 hj3 hjT3 hw3 hm3=>?_) (λf h o=>?_))
  rotate_left
  .simp only[go_sem];exact aN (h _ o (by repeat (first|exact fJ _ _|refine tM ?_ rfl|refine qC ?_ rfl|refine iB ?_ (λ_ e=>by cases e;assumption)|refine eR ?_|refine cX hq ?_)) (by simp only[eD,aZ,aJ,ne_eq,reduceIte,n1,dK]<;>(first|done|rfl)))
  simp only[go_sem,n1,n2,n3,n4,n5,n1.symm,n2.symm,n3.symm,n4.symm,n5.symm,h2,h3,ed,Tm.hz];refine⟨by decide,⟨by rw[wM,iD,if_pos rfl];simp,λy hy=>?_,by simp;omega⟩,λt2 ht2=>?_⟩
  .rcases cW.1 hy with hy|hy
   .simp only[cC]at hy;obtain⟨z,_,rfl⟩:=hy;exact Tm.hz z
   .simp only[bW]at hy;subst hy;rfl
  have hft2:s.getT t2=none:=aIi ht2 hft (λ_=>rfl);have hk5:=hk4 j3 (some t2) aB hjT3 hw3 hm3 ⟨by simp only[aG,aE,aF]at hac⊢;omega,h2,h3,hq,⟨n1,n2,n3,n4,n5⟩,λe=>(by cases e),λt' e=>by cases e;exact hft2⟩;simp only[gZ,dO]at hk5;rw[show(acc++[kk,vv]).length=acc.length+2 by simp]at hk5;refine aP (s2:=(gs ((s.setO q (.cells 43 [.int .i64 8,.int .i64 0,.str [],.str [],.list (some t2) ((acc++[kk,vv]).map Tm.enc),.nils])).setO r (bC T fin d first j3 m3)) (some t2) (acc.length+2) 43).setL none) hk5 ?_;refine aHR hft (λb o hb=>?_) (λ_=>rfl) bD;simp only[aJ]at hb⊢;by_cases hb1:q=b
  .subst hb1;simp only[n1,n1.symm,if_true,if_false]at hb⊢;simpa [dH,Tm.cs]using hb
  .by_cases hb2:r=b
   .simp only[hb1,hb2,if_true,if_false]at hb⊢;exact hb
   .simp only[hb1,hb2,if_false]at hb⊢;exact hb
end
end
section
section
variable {T:List Tok} {fin:Fault} {d:Dc} {first:Tok} {i n:Nat} {s:St} {r:Nat} {KV Kp:St->A->Prop}
theorem EntQ.setT{b2 b3 q r k:Nat}{s:St}{acc:List Tm}{tk:Option Nat}{i t:Nat}{v:Nat × TypeId}(h:EntQ b2 b3 q r k s acc tk i)(ht:tk≠some t):EntQ b2 b3 q r k (s.setT t v) acc tk i :=
 ⟨h.len,h.h2,h.h3,h.hq,h.ne,h.nil,fun u hu => by
  rw[dE,if_neg (λe=>ht (by rw[hu,e]))];exact h.free u hu⟩
theorem EntQ.unT{b2 b3 q r k:Nat}{s:St}{acc:List Tm}{tk:Option Nat}{i t:Nat}{v:Nat × TypeId}(h:EntQ b2 b3 q r k (s.setT t v) acc tk i):tk≠some t/\∀u,tk=some u->s.getT u=none:=by
 have h1:tk≠some t:=λe=>by
  have:=h.free t e;rw[dE,if_pos rfl]at this;cases this
 refine⟨h1,λu hu=>?_⟩;have:=h.free u hu;rw[dE]at this;split at this
 .cases this
 .exact this
theorem EntQ.dropT{b2 b3 q r k:Nat}{s:St}{acc:List Tm}{tk:Option Nat}{i t:Nat}{v:Nat × TypeId}(h:EntQ b2 b3 q r k (s.setT t v) acc tk i):EntQ b2 b3 q r k s acc tk i :=
 ⟨h.len,h.h2,h.h3,h.hq,h.ne,h.nil,h.unT.2⟩
section
variable {kind:Int} {x:aC} {q:Nat} {acc:List Tm} {tk:Option Nat} {t:Nat} {v u:Nat × TypeId}
theorem zF:(gZ T fin d first kind x q r s acc tk i n).getT t=if tk=some t then some (acc.length,43) else s.getT t:=iD _ _ _ _ _
theorem aII(h:tk≠some t):((gZ T fin d first kind x q r s acc tk i n).setT t v).ge (gZ T fin d first kind x q r (s.setT t v) acc tk i n):=aF6 h
theorem aIH(h:tk≠some t):((gZ T fin d first kind x q r (s.setT t v) acc tk i n).setT t u).ge (gZ T fin d first kind x q r (s.setT t u) acc tk i n):=by
 refine⟨λb o ho=>by rw[kB];unfold gZ at *;rw[aZ]at *;exact ho,λc m hm=>?_,λy hy=>by cases tk<;>exact hy⟩;rw[zF,dE]at hm;rw[dE,zF,dE];by_cases htc:t=c
 .subst htc;rw[if_neg h,if_pos rfl]at hm;rw[if_pos rfl];exact hm
 .rw[if_neg htc]at hm⊢;rw[if_neg htc];exact hm
theorem aIy(h:s.getT t=none):(gZ T fin d first kind x q r (s.setT t v) acc tk i n).ge (gZ T fin d first kind x q r s acc tk i n) :=
 aJz (λb o ho=>ho) (λy hy=>hy) (λc m _ hm=>by
  show(s.setT t v).getT c=some m;have hm':s.getT c=some m:=hm;rw[dE];by_cases htc:t=c
  .subst htc;rw[h]at hm';cases hm'
  .rw[if_neg htc];exact hm')
theorem aLd(hq:q≠r):(gZ T fin d first kind x q r s acc tk i n).getO r=some (bC T fin d first i n):=by
 unfold gZ;rw[aZ,aJ,if_pos rfl]
theorem aIA:((gZ T fin d first kind x q r s acc tk i n).setO r (bC T fin d first (i+1) n)).ge (gZ T fin d first kind x q r s acc tk (i+1) n):=by
 unfold gZ;rw[xQ,mT];exact aM _
end
theorem aNU(k:Nat)(hk60:k<=60)(IH:xX T fin r k)(hr:s.getO r=some (bC T fin d first i n))(hi:i<=T.length)(hT:TOk T)(hn:n<=2000)
  (hk : ((if isT [124] (T.drop i) = true ∨ isT [125] (T.drop i) = true then Rd.ok [] (T.drop i) n else dD fin [44] (nX fin (fC false fin first k)) ((T.drop i).length + 1) [] (T.drop i) n).bind fun l w n =>
   (qO fin first (decide (k=0)) [77,97,112] w n).bind λr w n=>(fZ fin [125] w n).bind λ_ w n=>.ok (.mk 8 0 [] [] l r) w n).to (PK T i (λj m=>s.setO r (bC T fin d first j m)) Tm.enc KV) (PB s r Kp)) :
  Den cx 243 [.ptr r 0,.int .i64 ((60-k:Nat):Int)] KV Kp s:=by
 (refine aO func243 [0,1,2,3,4,5,6,16] ?_;simp only[go_sem,ntmps243,Tryz.f243]);(intro b2 hb2;try simp only[aI,ne_eq]at hb2);simp only[go_sem,hb2];(intro b3 hb3;try simp only[aI,ne_eq]at hb3);simp only[go_sem,hb2,hb3];(intro b4 hb4;try simp only[aI,ne_eq]at hb4);simp only[go_sem,hb2,hb3,hb4];(intro b5 hb5;try simp only[aI,ne_eq]at hb5);have e2:=cE hr hb2;have e3:=cE hr hb3.2;have e4:=cE hr hb4.2.2;have e5:=cE hr hb5.2.2.2;have ek:decide (60-k=60)=decide (k=0):=by rw[gG];omega
 simp only[go_sem,hb2,hb3,hb4,hb5,e2,e3,e4,e5];refine nR (T:=T) (fin:=fin) (d:=d) (first:=first) (i:=i) (n:=n) _ gH hi ?_;simp only[go_sem,hb2,hb3,hb4,hb5,e2,e3,e4,e5];cases cA:isT [124] (T.drop i)
 .simp only[go_sem,hb2,hb3,hb4,hb5,e2,e3,e4,e5,cA];refine nR (T:=T) (fin:=fin) (d:=d) (first:=first) (i:=i) (n:=n) _ gH hi ?_;simp only[go_sem,hb2,hb3,hb4,hb5,e2,e3,e4,e5,cA];cases cB:isT [125] (T.drop i)
  .simp only[go_sem,hb2,hb3,hb4,hb5,e2,e3,e4,e5,cA,cB];rw[if_neg (by rw[cA,cB];simp),bR]at hk
   refine iA (sA gH) (aEG (fin:=fin) (σ:=List Tm) (α:=Unit) (X:=Option Nat) (r:=r) (λ_=>.bool true) (λ_=>rfl) (λ_=>rfl) hT
    (λs' acc tk i n=>gZ T fin d first 8 [] b5 r s' acc tk i n) (λs' acc tk i=>EntQ b2 b3 b5 r k s' acc tk i) (λacc w n=>(nX fin (fC false fin first k) acc w n).bind λa w n=>.ok (a,()) w n) 286 [] [.ptr b5 0,.ptr b2 0,.ptr b3 0]
    (λs' a x i n=>⟨d,first,aLd e5.2,aIA⟩) (λs' a x i n t v h ht=>?_) (λs' a x i n t v u ht h=>?_) (λs' a x i n t v ht h=>⟨h.dropT,aIy ht⟩)
    (λs' a x i h=>⟨by have:=h.len;omega,h.h2,h.h3,h.hq,h.ne,h.nil,h.free⟩) (λs' a x i n h=>iB (eR (cX h.hq (fJ _ _))) h.free)
    (λs' a x i n KV' Kp' h hi' hn' hk'=>aQV k b2 b3 b5 hk60 IH hT a x h hi' hn' (by rw[bR]at hk';exact aT hk' (λ_ _ _ h=>h) (λ_ h=>h)))
    [] none i n ?_ hi hn ?_)
   .have ht':=ht;rw[zF]at ht';have hx:x≠some t:=λe=>by rw[if_pos e]at ht';cases ht'
    rw[if_neg hx]at ht';exact⟨ht',h.setT hx,aII hx⟩
   .have hx:=h.unT.1;refine⟨by rw[zF,if_neg hx,dE,if_pos rfl],h.dropT.setT hx,aIH hx⟩
   .refine⟨aU _,gH,gH,?_,⟨e5.2,hb5.2.2.1.2,hb5.2.1.2,e2.1,e3.1⟩,λ_=>rfl,λt e=>(by cases e)⟩;simp only[aJ,ne_eq,reduceIte,hb5]
   refine aT (aCc _ _ _ _ _ [] _ _ _ _ hk) (λc w m hk2 j y hj hjT hw hm hy=>?_) (λf h s1 o hg hr1=>h.at (hg.trans aS) hr1);obtain⟨l,ul⟩:=c;simp only at hk2 hy;subst hw;rw[bR,<-ek]at hk2;have hfy:∀t,y=some t->s.getT t=none:=hy.free
   have hny:=hy.nil;simp only[gZ];simp only[go_sem,hb2,hb3,hb4,hb5,e2,e3,e4,e5];refine zM (T:=T) (fin:=fin) (d:=d) (first:=first) (i:=j) (n:=m) (60-k) _ (by simp only[eD,aZ,aJ,ne_eq,reduceIte,dK,hb2,hb3,hb4,hb5,e2,e3,e4,e5]<;>(first|done|rfl|assumption)) hjT hT hm (aT hk2 (λrs w2 m2 hk3 j2 hj2 hjT2 hw2 hm2=>?_) (λf h=>PB.mk (by repeat (first|exact fJ _ _|refine iB ?_ hfy|refine eR ?_|refine cX hb2 ?_|refine cX hb3.2 ?_|refine cX hb4.2.2 ?_|refine cX hb5.2.2.2 ?_)) h));subst hw2;simp only[go_sem,hb2,hb3,hb4,hb5,e2,e3,e4,e5];refine fN (T:=T) (fin:=fin) (d:=d) (first:=first) (i:=j2) (n:=m2) _ (by simp only[eD,aZ,aJ,ne_eq,reduceIte,dK,hb2,hb3,hb4,hb5,e2,e3,e4,e5]<;>(first|done|rfl|assumption)) hjT2 hT ?_;rw[bR]at hk3;refine aT hk3 (λ_ w3 m3 hk4 hlt3 hw3 hm3=>?_) (λf h=>PB.mk (by repeat (first|exact fJ _ _|refine iB ?_ hfy|refine eR ?_|refine cX hb2 ?_|refine cX hb3.2 ?_|refine cX hb4.2.2 ?_|refine cX hb5.2.2.2 ?_)) h);rw[bZ]at hk4;subst hm3;simp only[go_sem,hb2,hb3,hb4,hb5,e2,e3,e4,e5];refine⟨rH y _,?_⟩;refine DK.mk (hk4 (j2+1) aB hlt3 hw3 hm2) (St.gx.ge (by repeat (first|exact fJ _ _|refine iB ?_ hfy|refine eR ?_|refine cX hb2 ?_|refine cX hb3.2 ?_|refine cX hb4.2.2 ?_|refine cX hb5.2.2.2 ?_)) (by simp only[eD,aZ,aJ,ne_eq,reduceIte,dK,hb2,hb3,hb4,hb5,e2,e3,e4,e5]<;>(first|done|rfl|assumption))) ?_;rw[dH];exact A.le.agg ⟨⟨bB _,rfl⟩,⟨bB _,rfl⟩,⟨bB _,rfl⟩,⟨bB _,rfl⟩,⟨iY y _ (λe=>by rw[hny e];rfl),rfl⟩,⟨bB _,rfl⟩,trivial⟩
  ·(try simp only[go_sem,hb2,hb3,hb4,hb5,e2,e3,e4,e5,cA,cB])
   rw[if_pos (by simp[cA,cB]),bR,bZ,bR,<-ek]at hk;have hfy:∀t:Nat,(none:Option Nat)=some t->s.getT t=none:=λt e=>by cases e
   refine zM (T:=T) (fin:=fin) (d:=d) (first:=first) (i:=i) (n:=n) (60-k) _ (by simp only[eD,aZ,aJ,ne_eq,reduceIte,dK,hb2,hb3,hb4,hb5,e2,e3,e4,e5]<;>(first|done|rfl|assumption)) hi hT hn (aT hk (λrs w2 m2 hk3 j2 hj2 hjT2 hw2 hm2=>?_) (λf h=>PB.mk (by repeat (first|exact fJ _ _|refine iB ?_ hfy|refine eR ?_|refine cX hb2 ?_|refine cX hb3.2 ?_|refine cX hb4.2.2 ?_|refine cX hb5.2.2.2 ?_)) h));subst hw2;simp only[go_sem,hb2,hb3,hb4,hb5,e2,e3,e4,e5];refine fN (T:=T) (fin:=fin) (d:=d) (first:=first) (i:=j2) (n:=m2) _ (by simp only[eD,aZ,aJ,ne_eq,reduceIte,dK,hb2,hb3,hb4,hb5,e2,e3,e4,e5]<;>(first|done|rfl|assumption)) hjT2 hT ?_;rw[bR]at hk3;refine aT hk3 (λ_ w3 m3 hk4 hlt3 hw3 hm3=>?_) (λf h=>PB.mk (by repeat (first|exact fJ _ _|refine iB ?_ hfy|refine eR ?_|refine cX hb2 ?_|refine cX hb3.2 ?_|refine cX hb4.2.2 ?_|refine cX hb5.2.2.2 ?_)) h);rw[bZ]at hk4;subst hm3;simp only[go_sem,hb2,hb3,hb4,hb5,e2,e3,e4,e5];refine DK.mk (hk4 (j2+1) aB hlt3 hw3 hm2) (St.gx.ge (by repeat (first|exact fJ _ _|refine iB ?_ hfy|refine eR ?_|refine cX hb2 ?_|refine cX hb3.2 ?_|refine cX hb4.2.2 ?_|refine cX hb5.2.2.2 ?_)) (by simp only[eD,aZ,aJ,ne_eq,reduceIte,dK,hb2,hb3,hb4,hb5,e2,e3,e4,e5]<;>(first|done|rfl|assumption))) ?_;rw[dH];exact A.le.agg ⟨⟨bB _,rfl⟩,⟨bB _,rfl⟩,⟨bB _,rfl⟩,⟨bB _,rfl⟩,⟨A.le.nil,rfl⟩,⟨bB _,rfl⟩,trivial⟩
 ·(try simp only[go_sem,hb2,hb3,hb4,hb5,e2,e3,e4,e5,cA])
  rw[if_pos (by simp[cA]),bR,bZ,bR,<-ek]at hk;have hfy:∀t:Nat,(none:Option Nat)=some t->s.getT t=none:=λt e=>by cases e
  refine zM (T:=T) (fin:=fin) (d:=d) (first:=first) (i:=i) (n:=n) (60-k) _ (by simp only[eD,aZ,aJ,ne_eq,reduceIte,dK,hb2,hb3,hb4,hb5,e2,e3,e4,e5]<;>(first|done|rfl|assumption)) hi hT hn (aT hk (λrs w2 m2 hk3 j2 hj2 hjT2 hw2 hm2=>?_) (λf h=>PB.mk (by repeat (first|exact fJ _ _|refine iB ?_ hfy|refine eR ?_|refine cX hb2 ?_|refine cX hb3.2 ?_|refine cX hb4.2.2 ?_|refine cX hb5.2.2.2 ?_)) h));subst hw2;simp only[go_sem,hb2,hb3,hb4,hb5,e2,e3,e4,e5];refine fN (T:=T) (fin:=fin) (d:=d) (first:=first) (i:=j2) (n:=m2) _ (by simp only[eD,aZ,aJ,ne_eq,reduceIte,dK,hb2,hb3,hb4,hb5,e2,e3,e4,e5]<;>(first|done|rfl|assumption)) hjT2 hT ?_;rw[bR]at hk3;refine aT hk3 (λ_ w3 m3 hk4 hlt3 hw3 hm3=>?_) (λf h=>PB.mk (by repeat (first|exact fJ _ _|refine iB ?_ hfy|refine eR ?_|refine cX hb2 ?_|refine cX hb3.2 ?_|refine cX hb4.2.2 ?_|refine cX hb5.2.2.2 ?_)) h);rw[bZ]at hk4;subst hm3;simp only[go_sem,hb2,hb3,hb4,hb5,e2,e3,e4,e5];refine DK.mk (hk4 (j2+1) aB hlt3 hw3 hm2) (St.gx.ge (by repeat (first|exact fJ _ _|refine iB ?_ hfy|refine eR ?_|refine cX hb2 ?_|refine cX hb3.2 ?_|refine cX hb4.2.2 ?_|refine cX hb5.2.2.2 ?_)) (by simp only[eD,aZ,aJ,ne_eq,reduceIte,dK,hb2,hb3,hb4,hb5,e2,e3,e4,e5]<;>(first|done|rfl|assumption))) ?_;rw[dH];exact A.le.agg ⟨⟨bB _,rfl⟩,⟨bB _,rfl⟩,⟨bB _,rfl⟩,⟨bB _,rfl⟩,⟨A.le.nil,rfl⟩,⟨bB _,rfl⟩,trivial⟩
end
end
section
section
variable {T:List Tok} {fin:Fault} {d:Dc} {first:Tok} {i n:Nat} {s:St} {r:Nat} {KV Kp:St->A->Prop}
theorem aOh(k:Nat)(hk60:k<=60)(IH:xX T fin r k)(t:Tok)(hr:s.getO r=some (bC T fin d first i n))(hi:i<=T.length)(hT:TOk T)(hn:n<=2000)(ht:t∈T)
  (hk:(mV fin first (fC false fin first k) (decide (k=0)) t (T.drop i) n).to (PK T i (λj m=>s.setO r (bC T fin d first j m)) Tm.enc KV) (PB s r Kp)) :
  Den cx 168 [.ptr r 0,t.enc,.int .i64 ((60-k:Nat):Int)] KV Kp s:=by
 simp only[go_sem];(refine aO func168 [0,1,2,3,4,5,6,7,8,9,11,12,33,47,71,84,94,107] ?_;simp only[go_sem,ntmps168,f168]);(intro b3 hb3;try simp only[aI,ne_eq]at hb3);simp only[go_sem,hb3];(intro b4 hb4;try simp only[aI,ne_eq]at hb4);simp only[go_sem,hb3,hb4];(intro b5 hb5;try simp only[aI,ne_eq]at hb5);simp only[go_sem,hb3,hb4,hb5];(intro b6 hb6;try simp only[aI,ne_eq]at hb6);have e3:=cE hr hb3;have e4:=cE hr hb4.2;have e5:=cE hr hb5.2.2;have e6:=cE hr hb6.2.2.2;have hr2:=hr;simp only[go_sem]at hr2;have hlen:=hT.len;simp only[go_sem,hb3,hb4,hb5,hb6,e3,e4,e5,e6];(refine aQ (λh=>?_) (λh=>?_))<;>simp only[go_sem,h,hb3,hb4,hb5,hb6,e3,e4,e5,e6]
 ·
  have hx:t.text=[45]:=by simpa using h
  simp only[mV,hx,if_true]at hk
  (try simp only[go_sem,hb3,hb4,hb5,hb6,e3,e4,e5,e6])
  refine kE (T:=T) (fin:=fin) (d:=d) (first:=first) (i:=i) (n:=n) gH hi ?_;cases hw:T.drop i with
  | nil=>rw[hw]at hk;exact hk.at aS gH
  | cons u w =>
   rw[hw]at hk;obtain⟨h1,h2,h3,h4⟩:=lQ hw;simp only[go_sem];(intro b7 hb7;try simp only[aI,ne_eq]at hb7);have e7:=cE hr hb7.2.2.2.2
   have bad:∀(KV':St->A->Prop) (s1:St),s1.gx s r->s1.getO r=some (bC T fin d first i n)->PB s r Kp (fW fin 11 (u::w))->Den cx 42 [.ptr r 0,.int .i64 11] KV' (DK Kp) s1:=by
    intro KV' s1 hg1 hr1 hf;refine oH 11 hr1 hi hT ?_;rw[hw];exact hf.at hg1 hr1
   simp only at hk;have ecol:IntKind.i64.wrap (t.col+1)=t.col+1:=by have:=hT.col t ht;exact iU _ aB aB
   have eneg:IntKind.i64.wrap (0-u.n)=-u.n:=by have:=hT.num u h4;rw[iU _ aB aB];omega
   cases c1:decide (u.kind=2)
   .have h2:¬ u.kind=2:=by simpa using c1
    rw[if_neg (λhc=>h2 hc.1),eJ]at hk;simp only[go_sem,hb3,hb4,hb5,hb6,e3,e4,e5,e6,hb7,e7,hr2,c1];exact bad _ _ aS gH hk
   cases c2:decide (u.line=t.line)
   .have h2:¬ u.line=t.line:=by simpa using c2
    rw[if_neg (λhc=>h2 hc.2.1),eJ]at hk;simp only[go_sem,hb3,hb4,hb5,hb6,e3,e4,e5,e6,hb7,e7,hr2,c1,c2];exact bad _ _ aS gH hk
   cases c3:decide (u.col=t.col+1)
   .have h2:¬ u.col=t.col+1:=by simpa using c3
    rw[if_neg (λhc=>h2 hc.2.2),eJ]at hk;simp only[go_sem,hb3,hb4,hb5,hb6,e3,e4,e5,e6,hb7,e7,hr2,c1,c2,ecol,c3];exact bad _ _ aS gH hk
   .rw[if_pos ⟨by simpa using c1,by simpa using c2,by simpa using c3⟩,bZ]at hk;simp only[go_sem,hb3,hb4,hb5,hb6,e3,e4,e5,e6,hb7,e7,hr2,c1,c2,ecol,c3,cF i aB,eneg];refine DK.mk (hk (i+1) aB h2 h3 hn) (St.gx.ge aS gH) (Tm.le_leaf _ _ _ _)
 have x1:¬ t.text=[45]:=by simpa using h
 (try simp only[go_sem,hb3,hb4,hb5,hb6,e3,e4,e5,e6])
 (refine aQ (λh=>?_) (λh=>?_))<;>simp only[go_sem,h,hb3,hb4,hb5,hb6,e3,e4,e5,e6]
 ·
  have hx:t.text=[39]:=by simpa using h
  rw[mV.eq_def,if_neg x1,if_pos hx]at hk
  (try simp only[go_sem,hb3,hb4,hb5,hb6,e3,e4,e5,e6])
  refine kE (T:=T) (fin:=fin) (d:=d) (first:=first) (i:=i) (n:=n) gH hi ?_;cases hw:T.drop i with
  | nil=>rw[hw]at hk;exact hk.at aS gH
  | cons u w =>
   rw[hw]at hk;obtain⟨h1,h2,h3,h4⟩:=lQ hw;simp only[go_sem];(intro b7 hb7;try simp only[aI,ne_eq]at hb7);have e7:=cE hr hb7.2.2.2.2
   have bad:∀(KV':St->A->Prop) (s1:St),s1.gx s r->s1.getO r=some (bC T fin d first i n)->PB s r Kp (fW fin 11 (u::w))->Den cx 42 [.ptr r 0,.int .i64 11] KV' (DK Kp) s1:=by
    intro KV' s1 hg1 hr1 hf;refine oH 11 hr1 hi hT ?_;rw[hw];exact hf.at hg1 hr1
   simp only at hk;cases c1:decide (u.kind=1)
   .have h2:¬ u.free=true:=by simp[Tok.free,c1]
    rw[if_neg (λhc=>h2 hc.1),eJ]at hk;simp only[go_sem,hb3,hb4,hb5,hb6,e3,e4,e5,e6,hb7,e7,hr2,c1];exact bad _ _ aS gH hk
   simp only[go_sem,hb3,hb4,hb5,hb6,e3,e4,e5,e6,hb7,e7,hr2,c1];refine tF _ _ _ _ ?_;simp only[go_sem,hb3,hb4,hb5,hb6,e3,e4,e5,e6,hb7,e7,hr2,c1];cases c2:decide (u.text∈gX);rotate_left
   .have h2:¬ u.free=true:=by simp[Tok.free,c2]
    rw[if_neg (λhc=>h2 hc.1),eJ]at hk;simp only[go_sem,hb3,hb4,hb5,hb6,e3,e4,e5,e6,hb7,e7,hr2,c1,c2];exact bad _ _ aS gH hk
   simp only[go_sem,hb3,hb4,hb5,hb6,e3,e4,e5,e6,hb7,e7,hr2,c1,c2];refine aI9 _ _ _ _ ?_;simp only[go_sem,hb3,hb4,hb5,hb6,e3,e4,e5,e6,hb7,e7,hr2,c1,c2];cases c3:sU u.text
   .rw[if_neg (λhc=>by rw[c3]at hc;exact absurd hc.2 bD),eJ]at hk;simp only[go_sem,hb3,hb4,hb5,hb6,e3,e4,e5,e6,hb7,e7,hr2,c1,c2,c3];exact bad _ _ aS gH hk
   .rw[if_pos ⟨by simp[Tok.free,c1,c2],c3⟩,bZ]at hk;simp only[go_sem,hb3,hb4,hb5,hb6,e3,e4,e5,e6,hb7,e7,hr2,c1,c2,c3,cF i aB];refine DK.mk (hk (i+1) aB h2 h3 hn) (St.gx.ge aS gH) (Tm.le_leaf _ _ _ _)
 have x2:¬ t.text=[39]:=by simpa using h
 (try simp only[go_sem,hb3,hb4,hb5,hb6,e3,e4,e5,e6])
 (refine aQ (λh=>?_) (λh=>?_))<;>simp only[go_sem,h,hb3,hb4,hb5,hb6,e3,e4,e5,e6]
 ·
  have hx:t.text=[91]:=by simpa using h
  rw[mV.eq_def,if_neg x1,if_neg x2,if_pos hx]at hk
  (try simp only[go_sem,hb3,hb4,hb5,hb6,e3,e4,e5,e6])
  (intro b9 hb9;try simp only[aI,ne_eq]at hb9);have e9:=cE hr hb9.2.2.2.2;simp only[go_sem,hb3,hb4,hb5,hb6,e3,e4,e5,e6,hb9,e9];refine nR (T:=T) (fin:=fin) (d:=d) (first:=first) (i:=i) (n:=n) _ gH hi ?_;simp only[go_sem,hb3,hb4,hb5,hb6,e3,e4,e5,e6,hb9,e9];have ek:decide (60-k=60)=decide (k=0):=by rw[gG];omega
  cases cA:isT [124] (T.drop i)
  .simp only[go_sem,hb3,hb4,hb5,hb6,e3,e4,e5,e6,hb9,e9,cA];refine nR (T:=T) (fin:=fin) (d:=d) (first:=first) (i:=i) (n:=n) _ gH hi ?_;simp only[go_sem,hb3,hb4,hb5,hb6,e3,e4,e5,e6,hb9,e9,cA];cases cB:isT [93] (T.drop i)
   .simp only[go_sem,hb3,hb4,hb5,hb6,e3,e4,e5,e6,hb9,e9,cA,cB];rw[if_neg (by rw[cA,cB];simp),bR]at hk
    refine iA (sA gH) (aG1 (fin:=fin) (d:=d) (fi:=first) Tm.enc Tm.hz Tm.ho hT (λs'=>s'.getO b3=some (.cells 74 [.ptr r 0])/\s'.getO b5=some (.cells 3 [.int .i64 ((60-k:Nat):Int)])) (λ_ _ _=>Iff.rfl)
     (fC false fin first k) 241 [] [.ptr b3 0,.ptr b5 0] (aDk (fun s' o hq => ⟨by rw [aJ,if_neg e3.1]; exact hq.1,by rw [aJ,if_neg e5.1]; exact hq.2⟩)
      (λs' i' n' KV' Kp' hr' hq' hi' hn' hk'=>aNO k hk60 IH b3 b5 hq'.1 hq'.2 hr' hi' hn' (aT hk' (λ_ _ _ h j hj=>h j aB) (λ_ h=>h)))) i n ?_ hi hn ?_)
    .exact⟨gH,gH⟩
    refine aT hk (λl w m hk2 j hj hjT hw hm=>?_) (λf h s1 o hg hr1=>h.at (hg.trans aS) hr1);subst hw;rw[bR,<-ek]at hk2;simp only[go_sem,hb3,hb4,hb5,hb6,e3,e4,e5,e6,hb9,e9];refine zM (T:=T) (fin:=fin) (d:=d) (first:=first) (i:=j) (n:=m) (60-k) _ gH hjT hT hm (aT hk2 (λrs w2 m2 hk3 j2 hj2 hjT2 hw2 hm2=>?_) (λf h=>PB.mk aS h));subst hw2;simp only[go_sem,hb3,hb4,hb5,hb6,e3,e4,e5,e6,hb9,e9];refine fN (T:=T) (fin:=fin) (d:=d) (first:=first) (i:=j2) (n:=m2) _ gH hjT2 hT ?_;rw[bR]at hk3;refine aT hk3 (λ_ w3 m3 hk4 hlt3 hw3 hm3=>?_) (λf h=>PB.mk aS h);rw[bZ]at hk4;simp only[go_sem,hb3,hb4,hb5,hb6,e3,e4,e5,e6,hb9,e9];exact DK.mk (hk4 (j2+1) aB hlt3 hw3 aB) (St.gx.ge aS (by subst hm3;rw[aJ,if_neg e6.2,aJ,if_pos rfl]<;>rfl)) (by rw[dH];exact bB _)
   .simp only[go_sem,hb3,hb4,hb5,hb6,e3,e4,e5,e6,hb9,e9,cA,cB];rw[if_pos (by simp[cA,cB]),bR,bZ,bR,<-ek]at hk;refine zM (T:=T) (fin:=fin) (d:=d) (first:=first) (i:=i) (n:=n) (60-k) _ gH hi hT hn (aT hk (λrs w2 m2 hk3 j2 hj2 hjT2 hw2 hm2=>?_) (λf h=>PB.mk aS h));subst hw2;simp only[go_sem,hb3,hb4,hb5,hb6,e3,e4,e5,e6,hb9,e9];refine fN (T:=T) (fin:=fin) (d:=d) (first:=first) (i:=j2) (n:=m2) _ gH hjT2 hT ?_;rw[bR]at hk3;refine aT hk3 (λ_ w3 m3 hk4 hlt3 hw3 hm3=>?_) (λf h=>PB.mk aS h);rw[bZ]at hk4;simp only[go_sem,hb3,hb4,hb5,hb6,e3,e4,e5,e6,hb9,e9];exact DK.mk (hk4 (j2+1) aB hlt3 hw3 aB) (St.gx.ge aS (by subst hm3;rw[aJ,if_neg e6.2,aJ,if_pos rfl]<;>rfl)) (by rw[dH];exact A.le.agg ⟨⟨bB _,rfl⟩,⟨bB _,rfl⟩,⟨bB _,rfl⟩,⟨bB _,rfl⟩,⟨A.le.nil,rfl⟩,⟨bB _,rfl⟩,trivial⟩)
  .simp only[go_sem,hb3,hb4,hb5,hb6,e3,e4,e5,e6,hb9,e9,cA];rw[if_pos (by simp[cA]),bR,bZ,bR,<-ek]at hk;refine zM (T:=T) (fin:=fin) (d:=d) (first:=first) (i:=i) (n:=n) (60-k) _ gH hi hT hn (aT hk (λrs w2 m2 hk3 j2 hj2 hjT2 hw2 hm2=>?_) (λf h=>PB.mk aS h));subst hw2;simp only[go_sem,hb3,hb4,hb5,hb6,e3,e4,e5,e6,hb9,e9];refine fN (T:=T) (fin:=fin) (d:=d) (first:=first) (i:=j2) (n:=m2) _ gH hjT2 hT ?_;rw[bR]at hk3;refine aT hk3 (λ_ w3 m3 hk4 hlt3 hw3 hm3=>?_) (λf h=>PB.mk aS h);rw[bZ]at hk4;simp only[go_sem,hb3,hb4,hb5,hb6,e3,e4,e5,e6,hb9,e9];exact DK.mk (hk4 (j2+1) aB hlt3 hw3 aB) (St.gx.ge aS (by subst hm3;rw[aJ,if_neg e6.2,aJ,if_pos rfl]<;>rfl)) (by rw[dH];exact A.le.agg ⟨⟨bB _,rfl⟩,⟨bB _,rfl⟩,⟨bB _,rfl⟩,⟨bB _,rfl⟩,⟨A.le.nil,rfl⟩,⟨bB _,rfl⟩,trivial⟩)
 have x3:¬ t.text=[91]:=by simpa using h
 (try simp only[go_sem,hb3,hb4,hb5,hb6,e3,e4,e5,e6])
 (refine aQ (λh=>?_) (λh=>?_))<;>simp only[go_sem,h,hb3,hb4,hb5,hb6,e3,e4,e5,e6]
 ·
  have hx:t.text=[123]:=by simpa using h
  rw[mV.eq_def,if_neg x1,if_neg x2,if_neg x3,if_pos hx]at hk
  (try simp only[go_sem,hb3,hb4,hb5,hb6,e3,e4,e5,e6])
  refine aNU (T:=T) (fin:=fin) (d:=d) (first:=first) (i:=i) (n:=n) k hk60 IH gH hi hT hn (aT hk (λa w m h j hj hjT hw hm=>?_) (λf h=>PB.mk aS h));have h':=h j hj hjT hw hm;simp only at h';rw[dH]at h';simp only[go_sem,hb3,hb4,hb5,hb6,e3,e4,e5,e6];exact aP h' (St.gx.ge aS gH)
 have x4:¬ t.text=[123]:=by simpa using h
 rw[mV.eq_def,if_neg x1,if_neg x2,if_neg x3,if_neg x4,bZ]at hk
 (try simp only[go_sem,hb3,hb4,hb5,hb6,e3,e4,e5,e6])
 exact DK.mk (hk i (bT _) hi rfl hn) (St.gx.ge aS gH) (Tm.le_leaf _ _ _ _)
end
end
section
section
variable {T:List Tok} {fin:Fault} {d:Dc} {first:Tok} {i n:Nat} {s:St} {r:Nat} {KV Kp:St->A->Prop}
theorem aP3(k b2 b3 q:Nat)(x:aC)(hk60:k<=60)(IH:xX T fin r k)(hT:TOk T)(acc:List Tm)(tk:Option Nat)(hQ:EntQ b2 b3 q r k s acc tk i)(hi:i<=T.length)(hn:n<=2000)
  (hk : (nY false fin first (fC false fin first k) acc (T.drop i) n).to (fun a w n' => ∀ j y,i ≤ j → j ≤ T.length → T.drop j = w → n' ≤ 2000 → EntQ b2 b3 q r k s (acc ++ [a]) y j → KV (gZ T fin d first 5 x q r s (acc ++ [a]) y j n') a.enc)
   (λf=>∀s1 o,s1.gx s r->s1.getO r=some o->Kp s1 (.iface 36 f.enc))):Den cx 239 [.ptr q 0,.ptr b2 0,.ptr b3 0] KV Kp (gZ T fin d first 5 x q r s acc tk i n):=by
 obtain⟨hac,h2,h3,hq,⟨n1,n2,n3,n4,n5⟩,hnil,hfree⟩:=hQ;have hlen:=hT.len;have ed:IntKind.i64.wrap (((60-k:Nat):Int)+1)=((61-k:Nat):Int):=by rw[cF _ aB];congr 1;omega
 have hg:nJ (gZ T fin d first 5 x q r s acc tk i n) tk (acc.map Tm.enc).length 43:=by rw[aH];exact iF λe=>by rw[hnil e];rfl
 refine aIa ?_;(refine aO func239 [0,1,2,3,4,12] ?_;simp only[go_sem,ntmps239,f239]);unfold gZ;(intro b6 hb6;try simp only[aI,ne_eq]at hb6)
 have f6:s.getO b6=none/\b6≠r/\b6≠q:=by
  have h0:=hb6;rw[aZ,aJ]at h0;split at h0
  .cases h0
  .rename_i hrb;rw[aJ]at h0;split at h0
   .cases h0
   .rename_i hqb;exact⟨h0,λe=>hrb e.symm,λe=>hqb e.symm⟩
 obtain⟨hf6,e6,e6q⟩:=f6;clear hb6;have e62:=(cE h2 hf6);have e63:=(cE h3 hf6);simp only[go_sem,n1,n2,n3,n4,n5,n1.symm,n2.symm,n3.symm,n4.symm,n5.symm,h2,h3,ed,hf6,e6,e6.symm,e6q,e6q.symm,e62,e63,pF hg];cases tk with
 | none =>
  obtain rfl:=hnil rfl;simp only[aKI];cases c8:decide ((([]:List Tm).length:Int)=8)
  ·(try simp only [go_sem,n1,n2,n3,n4,n5,n1.symm,n2.symm,n3.symm,n4.symm,n5.symm,h2,h3,ed,hf6,e6,e6.symm,e6q,e6q.symm,e62,e63,c8])
   have hk3:=hk;rw[nY.eq_def,if_neg (by intro e;simp[e]at c8)]at hk3;refine IH _ d first i n _ _ (by simp only[eD,aZ,aJ,ne_eq,reduceIte,dK,n1,n2,n3,n4,n5,n1.symm,n2.symm,n3.symm,n4.symm,n5.symm,h2,h3,ed,hf6,e6,e6.symm,e6q,e6q.symm,e62,e63]<;>(first|done|rfl|assumption)) hi hn (aT hk3 (λa w m hk2 j hj hjT hw hm=>?_) (λf h o=>?_))
   rotate_left
   .simp only[go_sem];exact aN (h _ o (by repeat (first|exact fJ _ _|refine tM ?_ rfl|refine qC ?_ rfl|refine iB ?_ hfree|refine eR ?_|refine cX hq ?_|refine cX hf6 ?_)) (by simp only[eD,aZ,aJ,ne_eq,reduceIte,dK,n1,n2,n3,n4,n5,n1.symm,n2.symm,n3.symm,n4.symm,n5.symm,h2,h3,ed,hf6,e6,e6.symm,e6q,e6q.symm,e62,e63]<;>(first|done|rfl|assumption)))
   simp only[go_sem,n1,n2,n3,n4,n5,n1.symm,n2.symm,n3.symm,n4.symm,n5.symm,h2,h3,ed,hf6,e6,e6.symm,e6q,e6q.symm,e62,e63,dH,Tm.cs];intro b7 hb7;rw[aZ]at hb7;obtain⟨e7,hb7⟩:=qF hb7;obtain⟨e76,hb7⟩:=qF hb7;obtain⟨_,hb7⟩:=qF hb7;obtain⟨e7q,hf7⟩:=qF hb7;have e72:=(cE h2 hf7);have e73:=(cE h3 hf7);simp only[go_sem,n1,n2,n3,n4,n5,n1.symm,n2.symm,n3.symm,n4.symm,n5.symm,h2,h3,ed,hf6,e6,e6.symm,e6q,e6q.symm,e62,e63,hf7,e7,e7.symm,e7q,e7q.symm,e76,e76.symm,e72,e73];(refine bL (OT.l [0,1,2,3,4,5,6,8] (.pair 7 9)) [] ?_;simp only[go_sem,n1,n2,n3,n4,n5,n1.symm,n2.symm,n3.symm,n4.symm,n5.symm,h2,h3,ed,hf6,e6,e6.symm,e6q,e6q.symm,e62,e63,hf7,e7,e7.symm,e7q,e7q.symm,e76,e76.symm,e72,e73]);refine⟨by decide,?_⟩;intro t ht;have hft:s.getT t=none:=ht;refine⟨rfl,?_⟩;have hk5:=hk2 j (some t) aB hjT hw hm ⟨by simp only[aG,aE,aF]at hac⊢;omega,h2,h3,hq,⟨n1,n2,n3,n4,n5⟩,λe=>(by cases e),λt' e=>by cases e;exact hft⟩;simp only[gZ,dO]at hk5;rw[show(([]:List Tm)++[a]).length=1 by simp,dH a]at hk5;refine aP (s2:=(gs ((s.setO q (.cells 43 [.int .i64 5,.int .i64 0,.str x,.str [],.list (some t) ((([]:List Tm)++[a]).map Tm.enc),.nils])).setO r (bC T fin d first j m)) (some t) (1) 43).setL none) hk5 (St.ge.trans aHv (aFR (λb o hb=>?_) (λ_=>rfl)));simp only[aJ]at hb⊢;by_cases hb1:q=b
   .subst hb1;simp only[n1,n1.symm,e6q,e6q.symm,e7q,e7q.symm,if_true,if_false]at hb⊢;simpa [dH,Tm.cs]using hb
   .by_cases hb2:r=b
    .subst hb2;simp only[hb1,e6,e6.symm,e7,e7.symm,if_true,if_false]at hb⊢;exact hb
    .simp only[hb1,hb2,if_false]at hb⊢;by_cases hb3:b6=b
     .subst hb3;rw[hf6]at hb;cases hb
     .by_cases hb4:b7=b
      .subst hb4;rw[hf7]at hb;cases hb
      .simp only[hb3,hb4,if_false];exact hb
  .simp at c8
 | some u =>
  simp only[dO];cases c8:decide ((acc.length:Int)=8)
  ·(try simp only [go_sem,n1,n2,n3,n4,n5,n1.symm,n2.symm,n3.symm,n4.symm,n5.symm,h2,h3,ed,hf6,e6,e6.symm,e6q,e6q.symm,e62,e63,c8])
   have hk3:=hk;rw[nY.eq_def,if_neg (by intro e;simp[e]at c8)]at hk3;refine IH _ d first i n _ _ (by simp only[eD,aZ,aJ,ne_eq,reduceIte,dK,n1,n2,n3,n4,n5,n1.symm,n2.symm,n3.symm,n4.symm,n5.symm,h2,h3,ed,hf6,e6,e6.symm,e6q,e6q.symm,e62,e63]<;>(first|done|rfl|assumption)) hi hn (aT hk3 (λa w m hk2 j hj hjT hw hm=>?_) (λf h o=>?_))
   rotate_left
   .simp only[go_sem];exact aN (h _ o (by repeat (first|exact fJ _ _|refine tM ?_ rfl|refine qC ?_ rfl|refine iB ?_ hfree|refine eR ?_|refine cX hq ?_|refine cX hf6 ?_)) (by simp only[eD,aZ,aJ,ne_eq,reduceIte,dK,n1,n2,n3,n4,n5,n1.symm,n2.symm,n3.symm,n4.symm,n5.symm,h2,h3,ed,hf6,e6,e6.symm,e6q,e6q.symm,e62,e63]<;>(first|done|rfl|assumption)))
   simp only[go_sem,n1,n2,n3,n4,n5,n1.symm,n2.symm,n3.symm,n4.symm,n5.symm,h2,h3,ed,hf6,e6,e6.symm,e6q,e6q.symm,e62,e63,dH,Tm.cs];intro b7 hb7;rw[aZ]at hb7;obtain⟨e7,hb7⟩:=qF hb7;obtain⟨e76,hb7⟩:=qF hb7;obtain⟨_,hb7⟩:=qF hb7;obtain⟨e7q,hf7⟩:=qF hb7;have e72:=(cE h2 hf7);have e73:=(cE h3 hf7);simp only[go_sem,n1,n2,n3,n4,n5,n1.symm,n2.symm,n3.symm,n4.symm,n5.symm,h2,h3,ed,hf6,e6,e6.symm,e6q,e6q.symm,e62,e63,hf7,e7,e7.symm,e7q,e7q.symm,e76,e76.symm,e72,e73];(refine bL (OT.l [0,1,2,3,4,5,6,8] (.pair 7 9)) [] ?_;simp only[go_sem,n1,n2,n3,n4,n5,n1.symm,n2.symm,n3.symm,n4.symm,n5.symm,h2,h3,ed,hf6,e6,e6.symm,e6q,e6q.symm,e62,e63,hf7,e7,e7.symm,e7q,e7q.symm,e76,e76.symm,e72,e73]);refine⟨by decide,?_⟩;refine⟨⟨by rw[iD,if_pos rfl],λy hy=>?_,by omega⟩,λt ht=>?_⟩
   .simp only[cC]at hy;obtain⟨z,_,rfl⟩:=hy;exact Tm.hz z
   have hft:s.getT t=none:=aCO ht (hfree u rfl) (λ_=>rfl);have hk5:=hk2 j (some t) aB hjT hw hm ⟨by simp only[aG,aE,aF]at hac⊢;omega,h2,h3,hq,⟨n1,n2,n3,n4,n5⟩,λe=>(by cases e),λt' e=>by cases e;exact hft⟩;simp only[gZ,dO]at hk5;rw[show(acc++[a]).length=acc.length+1 by simp,dH a]at hk5;refine aP (s2:=(gs ((s.setO q (.cells 43 [.int .i64 5,.int .i64 0,.str x,.str [],.list (some t) ((acc++[a]).map Tm.enc),.nils])).setO r (bC T fin d first j m)) (some t) (acc.length+1) 43).setL none) hk5 (St.ge.trans (aEP (hfree u rfl)) (aFR (λb o hb=>?_) (λ_=>rfl)));simp only[aJ]at hb⊢;by_cases hb1:q=b
   .subst hb1;simp only[n1,n1.symm,e6q,e6q.symm,e7q,e7q.symm,if_true,if_false]at hb⊢;simpa [dH,Tm.cs]using hb
   .by_cases hb2:r=b
    .subst hb2;simp only[hb1,e6,e6.symm,e7,e7.symm,if_true,if_false]at hb⊢;exact hb
    .simp only[hb1,hb2,if_false]at hb⊢;by_cases hb3:b6=b
     .subst hb3;rw[hf6]at hb;cases hb
     .by_cases hb4:b7=b
      .subst hb4;rw[hf7]at hb;cases hb
      .simp only[hb3,hb4,if_false];exact hb
  ·(try simp only [go_sem,n1,n2,n3,n4,n5,n1.symm,n2.symm,n3.symm,n4.symm,n5.symm,h2,h3,ed,hf6,e6,e6.symm,e6q,e6q.symm,e62,e63,c8])
   rw[nY.eq_def,if_pos (by simp at c8;omega)]at hk;refine aB2 (T:=T) (fin:=fin) (d:=d) (first:=first) (i:=i) (n:=n) (by simp only[eD,aZ,aJ,ne_eq,reduceIte,dK,n1,n2,n3,n4,n5,n1.symm,n2.symm,n3.symm,n4.symm,n5.symm,h2,h3,ed,hf6,e6,e6.symm,e6q,e6q.symm,e62,e63]<;>(first|done|rfl|assumption)) hi ?_;cases hw0:T.drop i with
   | nil =>
    rw[hw0]at hk;intro o;simp only[go_sem];exact aN (hk _ o (by repeat (first|exact fJ _ _|refine tM ?_ rfl|refine qC ?_ rfl|refine iB ?_ hfree|refine eR ?_|refine cX hq ?_|refine cX hf6 ?_)) (by simp only[eD,aZ,aJ,ne_eq,reduceIte,dK,n1,n2,n3,n4,n5,n1.symm,n2.symm,n3.symm,n4.symm,n5.symm,h2,h3,ed,hf6,e6,e6.symm,e6q,e6q.symm,e62,e63]<;>(first|done|rfl|assumption)))
   | cons t0 w0 =>
    rw[hw0]at hk;simp only at hk⊢;cases hb0:t0.begins with
    | true =>
     rw[hb0]at hk;simp only[if_true,cJ,qG,if_false,eJ]at hk;simp only[go_sem,n1,n2,n3,n4,n5,n1.symm,n2.symm,n3.symm,n4.symm,n5.symm,h2,h3,ed,hf6,e6,e6.symm,e6q,e6q.symm,e62,e63];refine kE (T:=T) (fin:=fin) (d:=d) (first:=first) (i:=i) (n:=n) (by simp only[eD,aZ,aJ,ne_eq,reduceIte,dK,n1,n2,n3,n4,n5,n1.symm,n2.symm,n3.symm,n4.symm,n5.symm,h2,h3,ed,hf6,e6,e6.symm,e6q,e6q.symm,e62,e63]<;>(first|done|rfl|assumption)) hi ?_;rw[hw0];simp only[go_sem];refine aFn t0 ?_;simp only[go_sem];exact aN (hk _ _ (by repeat (first|exact fJ _ _|refine tM ?_ rfl|refine qC ?_ rfl|refine iB ?_ hfree|refine eR ?_|refine cX hq ?_|refine cX hf6 ?_)) (by simp only[eD,aZ,aJ,ne_eq,reduceIte,dK,n1,n2,n3,n4,n5,n1.symm,n2.symm,n3.symm,n4.symm,n5.symm,h2,h3,ed,hf6,e6,e6.symm,e6q,e6q.symm,e62,e63]<;>(first|done|rfl|assumption)))
    | false =>
     rw[hb0]at hk;simp only[cJ,if_false]at hk;have hk3:=hk;rw[<-hw0]at hk3;simp only[go_sem,n1,n2,n3,n4,n5,n1.symm,n2.symm,n3.symm,n4.symm,n5.symm,h2,h3,ed,hf6,e6,e6.symm,e6q,e6q.symm,e62,e63];refine IH _ d first i n _ _ (by simp only[eD,aZ,aJ,ne_eq,reduceIte,dK,n1,n2,n3,n4,n5,n1.symm,n2.symm,n3.symm,n4.symm,n5.symm,h2,h3,ed,hf6,e6,e6.symm,e6q,e6q.symm,e62,e63]<;>(first|done|rfl|assumption)) hi hn (aT hk3 (λa w m hk2 j hj hjT hw hm=>?_) (λf h o=>?_))
     rotate_left
     .simp only[go_sem];exact aN (h _ o (by repeat (first|exact fJ _ _|refine tM ?_ rfl|refine qC ?_ rfl|refine iB ?_ hfree|refine eR ?_|refine cX hq ?_|refine cX hf6 ?_)) (by simp only[eD,aZ,aJ,ne_eq,reduceIte,dK,n1,n2,n3,n4,n5,n1.symm,n2.symm,n3.symm,n4.symm,n5.symm,h2,h3,ed,hf6,e6,e6.symm,e6q,e6q.symm,e62,e63]<;>(first|done|rfl|assumption)))
     simp only[go_sem,n1,n2,n3,n4,n5,n1.symm,n2.symm,n3.symm,n4.symm,n5.symm,h2,h3,ed,hf6,e6,e6.symm,e6q,e6q.symm,e62,e63,dH,Tm.cs];intro b7 hb7;rw[aZ]at hb7;obtain⟨e7,hb7⟩:=qF hb7;obtain⟨e76,hb7⟩:=qF hb7;obtain⟨_,hb7⟩:=qF hb7;obtain⟨e7q,hf7⟩:=qF hb7;have e72:=(cE h2 hf7);have e73:=(cE h3 hf7);simp only[go_sem,n1,n2,n3,n4,n5,n1.symm,n2.symm,n3.symm,n4.symm,n5.symm,h2,h3,ed,hf6,e6,e6.symm,e6q,e6q.symm,e62,e63,hf7,e7,e7.symm,e7q,e7q.symm,e76,e76.symm,e72,e73];(refine bL (OT.l [0,1,2,3,4,5,6,8] (.pair 7 9)) [] ?_;simp only[go_sem,n1,n2,n3,n4,n5,n1.symm,n2.symm,n3.symm,n4.symm,n5.symm,h2,h3,ed,hf6,e6,e6.symm,e6q,e6q.symm,e62,e63,hf7,e7,e7.symm,e7q,e7q.symm,e76,e76.symm,e72,e73]);refine⟨by decide,?_⟩;refine⟨⟨by rw[iD,if_pos rfl],λy hy=>?_,by omega⟩,λt ht=>?_⟩
     .simp only[cC]at hy;obtain⟨z,_,rfl⟩:=hy;exact Tm.hz z
     have hft:s.getT t=none:=aCO ht (hfree u rfl) (λ_=>rfl);have hk5:=hk2 j (some t) aB hjT hw hm ⟨by simp only[aG,aE,aF]at hac⊢;omega,h2,h3,hq,⟨n1,n2,n3,n4,n5⟩,λe=>(by cases e),λt' e=>by cases e;exact hft⟩;simp only[gZ,dO]at hk5;rw[show(acc++[a]).length=acc.length+1 by simp,dH a]at hk5;refine aP (s2:=(gs ((s.setO q (.cells 43 [.int .i64 5,.int .i64 0,.str x,.str [],.list (some t) ((acc++[a]).map Tm.enc),.nils])).setO r (bC T fin d first j m)) (some t) (acc.length+1) 43).setL none) hk5 (St.ge.trans (aEP (hfree u rfl)) (aFR (λb o hb=>?_) (λ_=>rfl)));simp only[aJ]at hb⊢;by_cases hb1:q=b
     .subst hb1;simp only[n1,n1.symm,e6q,e6q.symm,e7q,e7q.symm,if_true,if_false]at hb⊢;simpa [dH,Tm.cs]using hb
     .by_cases hb2:r=b
      .subst hb2;simp only[hb1,e6,e6.symm,e7,e7.symm,if_true,if_false]at hb⊢;exact hb
      .simp only[hb1,hb2,if_false]at hb⊢;by_cases hb3:b6=b
       .subst hb3;rw[hf6]at hb;cases hb
       .by_cases hb4:b7=b
        .subst hb4;rw[hf7]at hb;cases hb
        .simp only[hb3,hb4,if_false];exact hb
end
end
section
section
variable {T:List Tok} {fin:Fault} {d:Dc} {first:Tok} {i n:Nat} {s:St} {r:Nat} {KV Kp:St->A->Prop}
theorem aHm(hr:s.getO r=some (bC T fin d first i n))(hk:KV s (.bool false)):Den cx 237 [.ptr r 0] KV Kp s:=by
 simp only[go_sem]at hr;(refine aO func237 [0,2] ?_;simp only[go_sem,ntmps237,f237]);simp only[go_sem,hr];exact aN hk
theorem aPw(hr:s.getO r=some (bC T fin d first i n))(hk:KV s (.str [])):Den cx 238 [.ptr r 0] KV Kp s:=by
 simp only[go_sem]at hr;(refine aO func238 [0,2,12] ?_;simp only[go_sem,ntmps238,f238]);simp only[go_sem,hr];exact aN hk
theorem aIF{α:Type}(fin:Fault)(sep:aC)(one:List α->List Tok->Nat->Rd α):∀(f:Nat) (a:List α) (l:List α) (w:List Tok) (n:Nat) (p:List α->List Tok->Nat->Prop) (b:Fault->Prop),
  (dD fin sep (λacc w n=>(one acc w n).bind λa w n=>.ok (acc++[a]) w n) f a w n).to p b ->
  (dD fin sep (λ(c:List α × List α) w n=>((one c.1 w n).bind λa w n=>Rd.ok (c.1++[a],a) w n).bind λq w n=>.ok (q.1,c.2++[q.2]) w n) f (a,l) w n).to (λc w n=>p c.1 w n) b
 | 0,a,l,w,n,p,b,h=>h
 | f+1,a,l,w,n,p,b,h=>by
  simp only[dD,bR]at h⊢;refine aT h (λx w n h=>?_) (λ_ h=>h);simp only[bZ]at h⊢;split
  .rename_i e;rw[if_pos e]at h;exact aIF fin sep one f (a++[x]) (l++[x]) w.tail n p b h
  .rename_i e;rw[if_neg e]at h;exact h
theorem aPn(k:Nat)(hk60:k<=60)(IH:xX T fin r k)(t:Tok)(ht:t∈T)(hr:s.getO r=some (bC T fin d first i n))(hi:i<=T.length)(hT:TOk T)(hn:n<=2000)
  (hk:(sH false fin first (fC false fin first k) t (T.drop i) n).to (PK T i (λj m=>s.setO r (bC T fin d first j m)) Tm.enc KV) (PB s r Kp)) :
  Den cx 167 [.ptr r 0,t.enc,.int .i64 ((60-k:Nat):Int)] KV Kp s:=by
 simp only[go_sem];(refine aO func167 [0,1,2,3,4,5,6,7,8,9,19,29,47] ?_;simp only[go_sem,ntmps167,f167]);(intro b3 hb3;try simp only[aI,ne_eq]at hb3);simp only[go_sem,hb3];(intro b4 hb4;try simp only[aI,ne_eq]at hb4);simp only[go_sem,hb3,hb4];(intro b5 hb5;try simp only[aI,ne_eq]at hb5);simp only[go_sem,hb3,hb4,hb5];(intro b6 hb6;try simp only[aI,ne_eq]at hb6);have e3:=cE hr hb3;have e4:=cE hr hb4.2;have e5:=cE hr hb5.2.2;have e6:=cE hr hb6.2.2.2;have hr2:=hr;simp only[go_sem]at hr2;have hlen:=hT.len;simp only[go_sem,hb3,hb4,hb5,hb6,e3,e4,e5,e6];rw[sH.eq_def]at hk;cases c1:decide (t.text=[116,114,117,101]);rotate_left
 .rw[if_pos (by simpa using c1),bZ]at hk;simp only[go_sem,hb3,hb4,hb5,hb6,e3,e4,e5,e6,c1];refine aHm (T:=T) (fin:=fin) (d:=d) (first:=first) (i:=i) (n:=n) gH ?_;simp only[go_sem,hb3,hb4,hb5,hb6,e3,e4,e5,e6,c1];exact DK.mk (hk i (bT _) hi rfl hn) (St.gx.ge aS gH) (Tm.le_leaf _ _ _ _)
 rw[if_neg (by simpa using c1)]at hk;simp only[go_sem,hb3,hb4,hb5,hb6,e3,e4,e5,e6,c1];cases c2:decide (t.text=[102,97,108,115,101]);rotate_left
 .rw[if_pos (by simpa using c2),bZ]at hk;simp only[go_sem,hb3,hb4,hb5,hb6,e3,e4,e5,e6,c1,c2];refine aHm (T:=T) (fin:=fin) (d:=d) (first:=first) (i:=i) (n:=n) gH ?_;simp only[go_sem,hb3,hb4,hb5,hb6,e3,e4,e5,e6,c1,c2];exact DK.mk (hk i (bT _) hi rfl hn) (St.gx.ge aS gH) (Tm.le_leaf _ _ _ _)
 rw[if_neg (by simpa using c2)]at hk;simp only[go_sem,hb3,hb4,hb5,hb6,e3,e4,e5,e6,c1,c2];refine jO (T:=T) (fin:=fin) (d:=d) (first:=first) (i:=i) (n:=n) _ gH hi hT ?_;cases c3:isT [58] (T.drop i)with
 | true =>
  rw[if_pos c3,bR,mR]at hk;have hlt:=lG c3;simp only[go_sem,hb3,hb4,hb5,hb6,e3,e4,e5,e6];(refine bL (OT.r 0 6) [(3,[1])] ?_;simp only[go_sem,hb3,hb4,hb5,hb6,e3,e4,e5,e6]);refine iL (T:=T) (fin:=fin) (d:=d) (first:=first) (i:=i+1) (n:=n) gH hlt hT (aT hk (λx w m h hlt2 hw hm=>?_) (λf h=>PB.mk aS h));subst hm;rw[bZ]at h;simp only[go_sem,hb3,hb4,hb5,hb6,e3,e4,e5,e6];exact DK.mk (h (i+1+1) aB hlt2 hw hn) (St.gx.ge aS gH) (Tm.le_leaf _ _ _ _)
 | false =>
  rw[if_neg (by simp[c3]),bR]at hk;simp only[go_sem,hb3,hb4,hb5,hb6,e3,e4,e5,e6];(refine bL (OT.r 0 8) [(3,[1]),(6,[1,2])] ?_;simp only[go_sem,hb3,hb4,hb5,hb6,e3,e4,e5,e6]);refine aPw (T:=T) (fin:=fin) (d:=d) (first:=first) (i:=i) (n:=n) gH ?_;simp only[go_sem,hb3,hb4,hb5,hb6,e3,e4,e5,e6];refine⟨by have:=hT.txt t ht;unfold maxLen;omega,?_⟩;rw[eM];(intro b7 hb7;try simp only[aI,ne_eq]at hb7);have e7:=cE hr hb7.2.2.2.2;simp only[go_sem,hb3,hb4,hb5,hb6,e3,e4,e5,e6,hb7,e7];refine fN (T:=T) (fin:=fin) (d:=d) (first:=first) (i:=i) (n:=n) _ gH hi hT (aT hk (λ_ w m h hlt hw hm=>?_) (λf h=>PB.mk aS h));subst hw hm;simp only[go_sem,hb3,hb4,hb5,hb6,e3,e4,e5,e6,hb7,e7];refine jO (T:=T) (fin:=fin) (d:=d) (first:=first) (i:=i+1) (n:=_) _ gH hlt hT ?_;cases c4:isT [41] (T.drop (i+1))with
  | true =>
   rw[if_pos c4,bZ]at h;have hlt2:=lG c4;simp only[go_sem,hb3,hb4,hb5,hb6,e3,e4,e5,e6,hb7,e7];refine DK.mk (h (i+1+1) aB hlt2 bD hn) (St.gx.ge aS gH) ?_;exact Tm.le_leaf _ _ _ _
  | false =>
   rw[if_neg (by simp[c4]),bR]at h;simp only[go_sem,hb3,hb4,hb5,hb6,e3,e4,e5,e6,hb7,e7]
   refine aEC (fin:=fin) (σ:=List Tm) (α:=Tm) (X:=Option Nat) (r:=r) Tm.enc Tm.hz Tm.ho hT
    (λs' acc tk i n=>gZ T fin d first 5 t.text b7 r s' acc tk i n) (λs' acc tk i=>EntQ b3 b5 b7 r k s' acc tk i) (λacc w n=>(nY false fin first (fC false fin first k) acc w n).bind λa w n=>.ok (acc++[a],a) w n) 239 [] [.ptr b7 0,.ptr b3 0,.ptr b5 0]
    (λs' a x i n=>⟨d,first,aLd e7.2,aIA⟩) (λs' a x i n t v h ht=>?_) (λs' a x i n t v u ht h=>?_) (λs' a x i n t v ht h=>⟨h.dropT,aIy ht⟩)
    (λs' a x i h=>⟨by have:=h.len;omega,h.h2,h.h3,h.hq,h.ne,h.nil,h.free⟩) (λs' a x i n h=>iB (eR (cX h.hq (fJ _ _))) h.free)
    (λs' a x i n KV' Kp' h hi' hn' hk'=>aP3 k b3 b5 b7 t.text hk60 IH hT a x h hi' hn' (by rw[bR]at hk';exact aT hk' (λ_ _ _ h=>h) (λ_ h=>h)))
    [] none (i+1) _ ?_ hlt hn ?_
   .have ht':=ht;rw[zF]at ht';have hx:x≠some t:=λe=>by rw[if_pos e]at ht';cases ht'
    rw[if_neg hx]at ht';exact⟨ht',h.setT hx,aII hx⟩
   .have hx:=h.unT.1;refine⟨by rw[zF,if_neg hx,dE,if_pos rfl],h.dropT.setT hx,aIH hx⟩
   .refine⟨aU _,gH,gH,?_,⟨e7.2,?_,?_,e3.1,e5.1⟩,λ_=>rfl,λt e=>(by cases e)⟩
    .simp only[aJ,ne_eq,reduceIte,hb7]
    .exact hb7.2.2.2.1.2
    .exact hb7.2.1.2
   refine aT (aIF _ _ _ _ _ [] _ _ _ _ h) (λc w m2 hk2 j y hj hjT hw hm hy=>?_) (λf h s1 o hg hr1=>h.at (hg.trans aS) hr1);obtain⟨l,ul⟩:=c;simp only at hk2 hy;subst hw;rw[bR]at hk2;have hfy:∀t,y=some t->s.getT t=none:=hy.free
   have hny:=hy.nil;simp only[gZ];simp only[go_sem,hb3,hb4,hb5,hb6,e3,e4,e5,e6,hb7,e7];refine fN (T:=T) (fin:=fin) (d:=d) (first:=first) (i:=j) (n:=m2) _ (by simp only[eD,aZ,aJ,ne_eq,reduceIte,dK,hb3,hb4,hb5,hb6,e3,e4,e5,e6,hb7,e7]<;>(first|done|rfl|assumption)) hjT hT (aT hk2 (λ_ w3 m3 hk4 hlt3 hw3 hm3=>?_) (λf h=>PB.mk (by repeat (first|exact fJ _ _|refine iB ?_ hfy|refine eR ?_|refine cX hb3 ?_|refine cX hb4.2 ?_|refine cX hb5.2.2 ?_|refine cX hb6.2.2.2 ?_|refine cX hb7.2.2.2.2 ?_)) h));rw[bZ]at hk4;subst hm3;simp only[go_sem,hb3,hb4,hb5,hb6,e3,e4,e5,e6,hb7,e7];refine⟨rH y _,?_⟩;refine DK.mk (hk4 (j+1) aB hlt3 hw3 hm) (St.gx.ge (by repeat (first|exact fJ _ _|refine iB ?_ hfy|refine eR ?_|refine cX hb3 ?_|refine cX hb4.2 ?_|refine cX hb5.2.2 ?_|refine cX hb6.2.2.2 ?_|refine cX hb7.2.2.2.2 ?_)) (by simp only[eD,aZ,aJ,ne_eq,reduceIte,dK,hb3,hb4,hb5,hb6,e3,e4,e5,e6,hb7,e7]<;>(first|done|rfl|assumption))) ?_;rw[dH];exact A.le.agg ⟨⟨bB _,rfl⟩,⟨bB _,rfl⟩,⟨bB _,rfl⟩,⟨bB _,rfl⟩,⟨iY y _ (λe=>by rw[hny e];rfl),rfl⟩,⟨A.le.nil,rfl⟩,trivial⟩
end
end
section
section
variable {T:List Tok} {fin:Fault} {r:Nat}
theorem aRA(hT:TOk T):∀k,k<=60->xX T fin r k:=by
 intro k
 induction k with
 | zero =>
  intro _ s d first i n KV Kp hr hi hn hk
  have e61:decide ((60:Int)<((61:Nat):Int))=true:=by decide
  have e62:decide ((60:Int)<((61-0:Nat):Int))=true:=by decide
  (refine aO func92 [0,1,4,5,10,14,27,28,33,38] ?_;simp only[go_sem,ntmps92,f92]);(intro b4 hb4;try simp only[aI,ne_eq]at hb4);have e4:=cE hr hb4;simp only[go_sem,hb4,e4];refine kE (T:=T) (fin:=fin) (d:=d) (first:=first) (i:=i) (n:=n) gH hi ?_;cases hw:T.drop i with
  | nil=>rw[hw]at hk;exact hk.at aS gH
  | cons t w =>
   rw[hw]at hk;simp only[go_sem,hb4,e4];(intro b5 hb5;try simp only[aI,ne_eq]at hb5);have e5:=cE hr hb5.2;simp only[go_sem,hb4,e4,hb5,e5];refine aB2 (T:=T) (fin:=fin) (d:=d) (first:=first) (i:=i) (n:=n) gH hi ?_;rw[hw];simp only[fC]at hk⊢;cases hb:t.begins with
   | true =>
    rw[hb]at hk;simp only[if_true,eJ]at hk;simp only[go_sem,hb4,e4,hb5,e5,e61,e62];refine oH (T:=T) (fin:=fin) (d:=d) (first:=first) (i:=i) (n:=n) 19 gH hi hT ?_;rw[hw];exact hk.at aS gH
   | false =>
    rw[hb]at hk;simp only[cJ,if_false,eJ]at hk;simp only[go_sem,hb4,e4,hb5,e5];refine oH (T:=T) (fin:=fin) (d:=d) (first:=first) (i:=i) (n:=n) 11 gH hi hT ?_;rw[hw];exact hk.at aS gH
 | succ k ih =>
  intro hk60 s d first i n KV Kp hr hi hn hk
  rw[show(61-(k+1):Nat)=60-k by omega];have IH:=ih aB;have hlen:=hT.len;have e60:decide ((60:Int)<((60-k:Nat):Int))=false:=by rw[fL];omega
  (refine aO func92 [0,1,4,5,10,14,27,28,33,38] ?_;simp only[go_sem,ntmps92,f92]);(intro b4 hb4;try simp only[aI,ne_eq]at hb4);have e4:=cE hr hb4;simp only[go_sem,hb4,e4];refine kE (T:=T) (fin:=fin) (d:=d) (first:=first) (i:=i) (n:=n) gH hi ?_;cases hw:T.drop i with
  | nil=>rw[hw]at hk;exact hk.at aS gH
  | cons t w =>
   rw[hw]at hk;obtain⟨h1,h2,h3,h4⟩:=lQ hw;simp only[go_sem,hb4,e4];(intro b5 hb5;try simp only[aI,ne_eq]at hb5);have e5:=cE hr hb5.2;simp only[go_sem,hb4,e4,hb5,e5];refine aB2 (T:=T) (fin:=fin) (d:=d) (first:=first) (i:=i) (n:=n) gH hi ?_;rw[hw];simp only[fC]at hk⊢;cases hb:t.begins with
   | false =>
    rw[hb]at hk;simp only[cJ,if_false,eJ]at hk;simp only[go_sem,hb4,e4,hb5,e5];refine oH (T:=T) (fin:=fin) (d:=d) (first:=first) (i:=i) (n:=n) 11 gH hi hT ?_;rw[hw];exact hk.at aS gH
   | true =>
    rw[hb]at hk;simp only[if_true,bR]at hk;simp only[go_sem,hb4,e4,hb5,e5,e60];refine aIY (T:=T) (fin:=fin) (d:=d) (first:=first) (i:=i) (n:=n) gH hn ?_
    have hk':(oO first (T.drop i) n).to (λ_ w' m0=>w'=T.drop i->m0<=2000->((if t.kind=2 then Rd.ok (Tm.mk 1 t.n [] [] [] []) w m0 else if t.kind=3 then Rd.ok (Tm.mk 3 0 t.text [] [] []) w m0 else if t.kind=1 then sH false fin first (fC false fin first k) t w m0 else mV fin first (fC false fin first k) (decide (k=0)) t w m0)).to (PK T (i+1) (λj m=>s.setO r (bC T fin d first j m)) Tm.enc KV) (PB s r Kp)) (PB s r Kp):=by
     unfold oO at hk⊢;split
     .rename_i hc;rw[if_pos hc]at hk;exact hk
     .rename_i hc;rw[if_neg hc]at hk;exactλ_ _=>hk
    refine aT hk' (λ_ w' m0 hk2 hw' hm0=>?_) (λf h=>PB.mk aS h);have hk2:=hk2 hw' hm0;simp only[go_sem,hb4,e4,hb5,e5,cF i aB];(refine aQ (λh=>?_) (λh=>?_))<;>simp only[go_sem,h,hb4,e4,hb5,e5]
    .have x2:t.kind=2:=by simpa using h
     rw[if_pos x2,bZ]at hk2
     (try simp only[go_sem,hb4,e4,hb5,e5])
     exact DK.mk (hk2 (i+1) (bT _) h2 h3 hm0) (St.gx.ge aS gH) (Tm.le_leaf _ _ _ _)
    have x2:¬ t.kind=2:=by simpa using h
    rw[if_neg x2]at hk2
    (try simp only[go_sem,hb4,e4,hb5,e5])
    (refine aQ (λh=>?_) (λh=>?_))<;>simp only[go_sem,h,hb4,e4,hb5,e5]
    .have x3:t.kind=3:=by simpa using h
     rw[if_pos x3,bZ]at hk2
     (try simp only[go_sem,hb4,e4,hb5,e5])
     exact DK.mk (hk2 (i+1) (bT _) h2 h3 hm0) (St.gx.ge aS gH) (Tm.le_leaf _ _ _ _)
    have x3:¬ t.kind=3:=by simpa using h
    rw[if_neg x3]at hk2
    (try simp only[go_sem,hb4,e4,hb5,e5])
    have fin_:∀(a:Tm) (w:List Tok) (m:Nat),PK T (i+1) (λj m=>s.setO r (bC T fin d first j m)) Tm.enc KV a w m ->
      ∀(j:Nat),i+1<=j->j<=T.length->T.drop j=w->m<=2000->KV (s.setO r (bC T fin d first j m)) (.agg a.cs):=λa w m h j h1 h2 h3 h4=>by
     rw[<-dH];exact h j h1 h2 h3 h4
    (refine aQ (λh=>?_) (λh=>?_))<;>simp only[go_sem,h,hb4,e4,hb5,e5]
    .have x1:t.kind=1:=by simpa using h
     rw[if_pos x1,<-h3]at hk2
     (try simp only[go_sem,hb4,e4,hb5,e5])
     refine aPn (T:=T) (fin:=fin) (d:=d) (first:=first) (i:=i+1) (n:=m0) k aB IH t h4 gH h2 hT hm0 (aT hk2 (λa w m h j hj hjT hw hm=>?_) (λf h=>PB.mk aS h));have h':=fin_ _ _ _ h j hj hjT hw hm;simp only[go_sem]at h';simp only[go_sem,hb4,e4,hb5,e5,dH];exact aP h' (St.gx.ge aS gH)
    .have x1:¬ t.kind=1:=by simpa using h
     rw[if_neg x1,<-h3]at hk2
     (try simp only[go_sem,hb4,e4,hb5,e5])
     refine aOh (T:=T) (fin:=fin) (d:=d) (first:=first) (i:=i+1) (n:=m0) k aB IH t gH h2 hT hm0 h4 (aT hk2 (λa w m h j hj hjT hw hm=>?_) (λf h=>PB.mk aS h));have h':=fin_ _ _ _ h j hj hjT hw hm;simp only[go_sem]at h';simp only[go_sem,hb4,e4,hb5,e5,dH];exact aP h' (St.gx.ge aS gH)
end
end
section
section
variable {T:List Tok} {fin:Fault} {d:Dc} {first:Tok} {i n:Nat} {s:St} {r:Nat} {KV Kp:St->A->Prop}
theorem sB(hT:TOk T)(hr:s.getO r=some (bC T fin d first i n))(hi:i<=T.length)(hn:n<=2000)
  (hk:(gE false fin (T.drop i) n).to (PK T (i+1) (λj m=>s.setO r (bC T fin d first j m)) Tm.enc KV) (PB s r Kp)):Den cx 41 [.ptr r 0] KV Kp s:=by
 (refine aO func41 [0,2,3,4,5] ?_;simp only[go_sem,ntmps41,f41]);have hr2:=hr;simp only[go_sem]at hr2;(intro b2 hb2;try simp only[aI,aZ,ne_eq]at hb2);have e2:=cE hr (by first|exact hb2|exact hb2.2|exact hb2.2.2|exact hb2.2.2.2|exact hb2.2.2.2.2|exact hb2.2.2.2.2.2|exact hb2.2.2.2.2.2.2);simp only[go_sem,hr2,hb2,e2];(refine bL (OT.r 0 11) [(8,[3,7]),(9,[7])] ?_;simp only[go_sem,hr2,hb2,e2]);(intro b3 hb3;try simp only[aI,aZ,ne_eq]at hb3);have e3:=cE hr (by first|exact hb3|exact hb3.2|exact hb3.2.2|exact hb3.2.2.2|exact hb3.2.2.2.2|exact hb3.2.2.2.2.2|exact hb3.2.2.2.2.2.2);simp only[go_sem,hr2,hb2,e2,hb3,e3]
 have hpk:(match T.drop i with|t::w=>(match fC false fin t 60 (T.drop i) 0 with|.ok a w _=>Rd.ok a w n|.bad f=>.bad f).to (PK T (i+1) (λj m=>s.setO r (bC T fin d first j m)) Tm.enc KV) (PB s r Kp)|[]=>PB s r Kp fin):=by
  unfold gE at hk;revert hk;cases T.drop i with
  | nil=>exactλh=>h
  | cons t w=>exactλh=>h
 refine kE (T:=T) (fin:=fin) (d:=d) (first:=first) (i:=i) (n:=n) gH hi ?_;cases hw:T.drop i with
 | nil=>rw[hw]at hpk;exact hpk.at aS gH
 | cons t w =>
  rw[hw]at hpk;simp only at hpk⊢;simp only[go_sem,hr2,hb2,e2,hb3,e3];refine aRA hT 60 (bT _) _ d t i 0 _ _ gH hi (aU _) ?_;rw[hw];cases ht:fC false fin t 60 (t::w) 0 with
  | bad f=>rw[ht]at hpk;exact PB.mk aS hpk
  | ok a w2 m =>
   rw[ht]at hpk;intro j hj hjT hw2 hm;have hk2:=hpk j hj hjT hw2 hn;simp only[dH]at hk2;simp only[go_sem,hr2,hb2,e2,hb3,e3];(intro b5 hb5;try simp only[aI,aZ,ne_eq]at hb5);have e5:=cE hr (by first|exact hb5|exact hb5.2|exact hb5.2.2|exact hb5.2.2.2|exact hb5.2.2.2.2|exact hb5.2.2.2.2.2|exact hb5.2.2.2.2.2.2);simp only[go_sem,hr2,hb2,e2,hb3,e3,hb5,e5];exact aP hk2 (St.gx.ge aS gH)
theorem dQ{s1:St}{f:Fault}(hg:s1.gx s r)(h:∀s1 o,s1.gx s r->s1.getO r=some o->Kp s1 (.iface 36 f.enc)):PB s1 r (DK Kp) f:=λo=>aN (h _ o (eR hg) (by rw[aJ,if_pos rfl]))
def aBn(fin:Fault)(a:Nat)(w:List Tok)(n:Nat):Rd Tm:=match w with
 | []=>.bad fin
 | t::r=>if t.begins=true then(tZ fin a 20 (t::r) n).bind λ_ w n=>gE false fin w n else gE false fin (t::r) n
def qQ(T:List Tok)(fin:Fault)(d:Dc)(first:Tok)(b3 r:Nat)(s:St)(a i n:Nat):St :=
 (s.setO b3 (.cells 3 [.int .i64 (a:Int)])).setO r (bC T fin d first i n)
structure CndQ (b1 b3 r:Nat) (s:St) (a i:Nat):Prop where
 len:a<=i
 h1:s.getO b1=some (.cells 74 [.ptr r 0])
 h3:s.getO b3=none
 ne:b1≠r/\b3≠r/\b1≠b3
theorem aPR(hT:TOk T)(b1 b3 a:Nat)(hQ:CndQ b1 b3 r s a i)(hi:i<=T.length)(hn:n<=2000)
  (hk : (aBn fin a (T.drop i) n).to (fun x w n' => ∀ j,i + 1 ≤ j → j ≤ T.length → T.drop j = w → n' ≤ 2000 → KV (qQ T fin d first b3 r s (a + 1) j n') x.enc)
   (λf=>∀s1 o,s1.gx s r->s1.getO r=some o->Kp s1 (.iface 36 f.enc))):Den cx 223 [.ptr b1 0,.ptr b3 0] KV Kp (qQ T fin d first b3 r s a i n):=by
 obtain⟨hac,h1,h3,n1,n2,n3⟩:=hQ;have hlen:=hT.len;(refine aO func223 [0,1,2,4] ?_;simp only[go_sem,ntmps223,f223]);unfold qQ;have m1:=n1.symm;have m2:=n2.symm;have m3:=n3.symm;(intro b2 hb2;try simp only[aI,ne_eq]at hb2);have e2:=cE h1 hb2.2.2;simp only[go_sem,n1,n2,n3,n1.symm,n2.symm,n3.symm,h1,hb2,e2];refine aB2 (T:=T) (fin:=fin) (d:=d) (first:=first) (i:=i) (n:=n) gH hi ?_
 have fin_:∀(KV2:St->A->Prop) (s2:St),s2.gx s r->s2.getO r=some (bC T fin d first i n) ->
   (∀(j:Nat) (x:Tm) (m:Nat),i+1<=j->j<=T.length->m<=2000->(∀w,T.drop j=w->KV (qQ T fin d first b3 r s (a+1) j m) x.enc)->KV2 (s2.setO r (bC T fin d first j m)) x.enc) ->
   (gE false fin (T.drop i) n).to (fun x w n' => ∀ j,i + 1 ≤ j → j ≤ T.length → T.drop j = w → n' ≤ 2000 → KV (qQ T fin d first b3 r s (a + 1) j n') x.enc)
    (λf=>∀s1 o,s1.gx s r->s1.getO r=some o->Kp s1 (.iface 36 f.enc))->Den cx 41 [.ptr r 0] KV2 (DK Kp) s2:=by
  intro KV2 s2 hg hr2 hkv hw;refine sB hT hr2 hi hn (aT hw (λx w m h j hj hjT hw hm=>hkv j x m hj hjT hm λw' hw'=>?_) (λf h=>dQ hg h));exact h j hj hjT hw hm
 cases hw:T.drop i with
 | nil=>rw[hw]at hk;exact dQ aS hk
 | cons t w =>
  rw[hw]at hk fin_;simp only[aBn]at hk⊢;cases hb:t.begins with
  | true =>
   rw[hb]at hk;simp only[if_true,bR,tZ]at hk;simp only[go_sem,n1,n2,n3,n1.symm,n2.symm,n3.symm,h1,hb2,e2];refine mU (T:=T) (fin:=fin) (d:=d) (first:=first) (i:=i) (n:=n) _ _ gH hi ?_;by_cases h20:20<=a
   .rw[if_pos h20]at hk;rw[if_pos aB,hw];exact dQ aS hk
   .rw[if_neg h20,bZ]at hk;rw[if_neg aB];simp only[go_sem,n1,n2,n3,n1.symm,n2.symm,n3.symm,h1,hb2,e2,cF a aB];refine fin_ _ _ aS gH (λj x m hj hjT hm h=>?_) hk;have hk2:=h _ rfl;simp only[dH,qQ]at hk2;simp only[go_sem,n1,n2,n3,n1.symm,n2.symm,n3.symm,h1,hb2,e2,dH];exact aP hk2 aX
  | false =>
   rw[hb]at hk;simp only[cJ,if_false]at hk;simp only[go_sem,n1,n2,n3,n1.symm,n2.symm,n3.symm,h1,hb2,e2,cF a aB];refine fin_ _ _ aS gH (λj x m hj hjT hm h=>?_) hk;have hk2:=h _ rfl;simp only[dH,qQ]at hk2;simp only[go_sem,n1,n2,n3,n1.symm,n2.symm,n3.symm,h1,hb2,e2,dH];exact aP hk2 aX
theorem aHM{α:Type}(fin:Fault)(sep:aC)(one:List α->List Tok->Nat->Rd α):∀(f:Nat) (a:List α) (w:List Tok) (n:Nat) (p:List α->List Tok->Nat->Prop) (b:Fault->Prop),
  (dD fin sep (λacc w n=>(one acc w n).bind λa w n=>.ok (acc++[a]) w n) f a w n).to p b ->
  (dD fin sep (λ(c:List α × List α) w n=>((one c.1 w n).bind λa w n=>Rd.ok (c.1++[a],a) w n).bind λq w n=>.ok (q.1,c.2++[q.2]) w n) f (a,a) w n).to (λc w n=>c.1=c.2/\p c.2 w n) b
 | 0,a,w,n,p,b,h=>h
 | f+1,a,w,n,p,b,h=>by
  simp only[dD,bR]at h⊢;refine aT h (λx w n h=>?_) (λ_ h=>h);simp only[bZ]at h⊢;split
  .rename_i e;rw[if_pos e]at h;exact aHM fin sep one f (a++[x]) w.tail n p b h
  .rename_i e;rw[if_neg e]at h;exact⟨rfl,h⟩
theorem aPd(w:List Tok)(n:Nat):pP false fin w n=if isT [105,102] w=true then jR fin (λacc w n=>aBn fin acc.length w n) [] w.tail n else .ok [] w n:=by
 unfold pP aBn;split
 .congr 1
 .rfl
theorem aIP(hT:TOk T)(hr:s.getO r=some (bC T fin d first i n))(hi:i<=T.length)(hn:n<=2000)
  (hk:(pP false fin (T.drop i) n).to (PK T i (λj m=>s.setO r (bC T fin d first j m)) (λl=>.list none (l.map Tm.enc)) KV) (PB s r Kp)):Den cx 153 [.ptr r 0] KV Kp s:=by
 rw[aPd]at hk;(refine aO func153 [0,1,2,3,6] ?_;simp only[go_sem,ntmps153,f153]);(intro b1 hb1;try simp only[aI,aZ,ne_eq]at hb1);have e1:=cE hr (by first|exact hb1|exact hb1.2|exact hb1.2.2|exact hb1.2.2.2|exact hb1.2.2.2.2|exact hb1.2.2.2.2.2|exact hb1.2.2.2.2.2.2);simp only[go_sem,hb1,e1];refine jO (T:=T) (fin:=fin) (d:=d) (first:=first) (i:=i) (n:=n) _ gH hi hT ?_;cases c:isT [105,102] (T.drop i)with
 | false =>
  rw[if_neg (by simp[c]),bZ]at hk;simp only[go_sem,hb1,e1];exact DK.mk (hk i (bT _) hi rfl hn) (St.gx.ge aS gH) A.le.nil
 | true =>
  rw[if_pos c,mR]at hk;have hlt:=lG c;simp only[go_sem,hb1,e1];(intro b3 hb3;try simp only[aI,aZ,ne_eq]at hb3);have e3:=cE hr (by first|exact hb3|exact hb3.2|exact hb3.2.2|exact hb3.2.2.2|exact hb3.2.2.2.2|exact hb3.2.2.2.2.2|exact hb3.2.2.2.2.2.2);simp only[go_sem,hb1,e1,hb3,e3]
  refine iA (s':=qQ T fin d first b3 r (s.setO b1 (.cells 74 [.ptr r 0])) 0 (i+1) n) ?_ (aEC (fin:=fin) (σ:=List Tm) (α:=Tm) (X:=Unit) (r:=r) Tm.enc Tm.hz Tm.ho hT
    (λs' acc _ i n=>qQ T fin d first b3 r s' acc.length i n) (λs' acc _ i=>CndQ b1 b3 r s' acc.length i) (λacc w n=>(aBn fin acc.length w n).bind λa w n=>.ok (acc++[a],a) w n) 223 [] [.ptr b1 0,.ptr b3 0]
    (λs' a x i n=>⟨d,first,by unfold qQ;rw[aJ,if_pos rfl],by unfold qQ;rw[mT];exact aM _⟩) (λs' a x i n t v h ht=>⟨ht,⟨h.len,h.h1,h.h3,h.ne⟩,aM _⟩)
    (λs' a x i n t v u ht h=>⟨?_,⟨h.len,h.h1,h.h3,h.ne⟩,?_⟩) (λs' a x i n t v ht h=>⟨⟨h.len,h.h1,h.h3,h.ne⟩,?_⟩)
    (λs' a x i h=>⟨by have:=h.len;omega,h.h1,h.h3,h.ne⟩) (λs' a x i n h=>eR (cX h.h3 (fJ _ _)))
    (λs' a x i n KV' Kp' h hi' hn' hk'=>aPR hT b1 b3 a.length h hi' hn' ?_)
    [] () (i+1) n ?_ hlt hn ?_)
  .exact aX
  .show(s'.setT t v).getT t=some v;rw[dE,if_pos rfl]
  .exact qD (qD (aBQ s' t v u))
  .exact qD (qD (yX ht))
  .rw[bR]at hk';refine aT hk' (λx w m h2 j hj hjT hw hm=>?_) (λ_ h=>h);have h3:=h2 j () aB hjT hw hm ⟨by have:=h.len;simp only[aG,aE,aF];omega,h.h1,h.h3,h.ne⟩;simpa only[aG,aE,aF]using h3
  .refine⟨aU _,gH,?_,?_⟩
   .simp only[aJ,ne_eq,reduceIte,hb3]
   .simp only[hb3,e1,e3,ne_eq,dK,jV,rE]
  .refine aT (aHM _ _ _ _ _ _ _ _ _ hk) (λc w m h2 j y hj hjT hw hm hy=>?_) (λf h s1 o hg hr1=>h.at (hg.trans aS) hr1);obtain⟨l,ul⟩:=c;obtain⟨e,h2⟩:=h2;simp only at e h2;subst e;have h3:=h2 j aB hjT hw hm;unfold qQ;simp only[go_sem,hb1,e1,hb3,e3];exact aP h3 aX
end
end
section
section
variable {T:List Tok} {fin:Fault} {d:Dc} {first:Tok} {i n:Nat} {s:St} {r:Nat} {KV Kp:St->A->Prop}
theorem aCr(hT:TOk T)(hr:s.getO r=some (bC T fin d first i n))(hi:i<=T.length)(hn:n<=2000)
  (hk:(oP false fin (T.drop i) n).to (PK T (i+1) (λj m=>s.setO r (bC T fin d first j m)) Cel.enc KV) (PB s r Kp)):Den cx 226 [.ptr r 0] KV Kp s:=by
 (refine aO func226 [0,2,3,4] ?_;simp only[go_sem,ntmps226,f226]);(intro b2 hb2;try simp only[aI,aZ,ne_eq]at hb2);have e2:=cE hr (by first|exact hb2|exact hb2.2|exact hb2.2.2|exact hb2.2.2.2|exact hb2.2.2.2.2|exact hb2.2.2.2.2.2|exact hb2.2.2.2.2.2.2);simp only[go_sem,hb2,e2];refine kE (T:=T) (fin:=fin) (d:=d) (first:=first) (i:=i) (n:=n) gH hi ?_;cases hw:T.drop i with
 | nil=>rw[hw]at hk;exact hk.at aS gH
 | cons t w =>
  rw[hw]at hk;obtain⟨g1,g2,g3,g4⟩:=lQ hw;simp only[oP,bR]at hk;simp only[go_sem,hb2,e2];(intro b3 hb3;try simp only[aI,aZ,ne_eq]at hb3);have e3:=cE hr (by first|exact hb3|exact hb3.2|exact hb3.2.2|exact hb3.2.2.2|exact hb3.2.2.2.2|exact hb3.2.2.2.2.2|exact hb3.2.2.2.2.2.2);simp only[go_sem,hb2,e2,hb3,e3];(refine bL (OT.l [0,2,3,4,5,1,6,7,8] .nil) [(1,[3,5]),(7,[3,5])] ?_;simp only[go_sem,hb2,e2,hb3,e3]);rw[<-hw]at hk;(refine iL (T:=T) (fin:=fin) (d:=d) (first:=first) (i:=i) (n:=n) gH hi hT (aT hk (λx1 w1 m1 hk1 hlt1 hw1 hm1=>?_) (λf h=>PB.mk aS h));subst m1;rw[<-hw1]at hk1);simp only[go_sem,hb2,e2,hb3,e3];(intro b4 hb4;try simp only[aI,aZ,ne_eq]at hb4);have e4:=cE hr (by first|exact hb4|exact hb4.2|exact hb4.2.2|exact hb4.2.2.2|exact hb4.2.2.2.2|exact hb4.2.2.2.2.2|exact hb4.2.2.2.2.2.2);simp only[go_sem,hb2,e2,hb3,e3,hb4,e4];(refine fN (T:=T) (fin:=fin) (d:=d) (first:=first) (i:=i+1) (n:=n) _ gH hlt1 hT (aT hk1 (λ_ w2 m2 hk2 hlt2 hw2 hm2=>?_) (λf h=>PB.mk aS h));subst m2;rw[<-hw2]at hk2);simp only[go_sem,hb2,e2,hb3,e3,hb4,e4];(refine iL (T:=T) (fin:=fin) (d:=d) (first:=first) (i:=i+1+1) (n:=n) gH hlt2 hT (aT hk2 (λx3 w3 m3 hk3 hlt3 hw3 hm3=>?_) (λf h=>PB.mk aS h));subst m3;rw[<-hw3]at hk3);simp only[go_sem,hb2,e2,hb3,e3,hb4,e4];(refine fN (T:=T) (fin:=fin) (d:=d) (first:=first) (i:=i+1+1+1) (n:=n) _ gH hlt3 hT (aT hk3 (λ_ w4 m4 hk4 hlt4 hw4 hm4=>?_) (λf h=>PB.mk aS h));subst m4;rw[<-hw4]at hk4);simp only[go_sem,hb2,e2,hb3,e3,hb4,e4];(refine sB (T:=T) (fin:=fin) (d:=d) (first:=first) (i:=i+1+1+1+1) (n:=n) hT gH hlt4 hn (aT hk4 (λa5 w5 m5 hk5 j5 hj5 hjT5 hw5 hm5=>?_) (λf h=>PB.mk aS h));rw[<-hw5]at hk5);have hk:=hk5 j5 aB hjT5 rfl hm5;simp only[Cel.enc,Cel.cs]at hk;simp only[go_sem]at hk;simp only[go_sem,hb2,e2,hb3,e3,hb4,e4,dH];exact aP hk aX
def aAs(T:List Tok)(fin:Fault)(d:Dc)(first:Tok)(b r:Nat)(x:aC)(s:St)(tk:Option Nat)(ar:List aC)(i n:Nat):St :=
 gs ((s.setO b (.cells 73 [.str x,gv tk (ar.map .str),.str [],.nils,.int .i64 0,.int .i64 0,.nils])).setO r (bC T fin d first i n)) tk ar.length 9
theorem aRS(hT:TOk T)(hr:s.getO r=some (bC T fin d first i n))(hi:i<=T.length)(hn:n<=2000)
  (hk:(vX fin (T.drop i) n).to (PK T i (λj m=>s.setO r (bC T fin d first j m)) Opr.enc KV) (PB s r Kp)):Den cx 152 [.ptr r 0] KV Kp s:=by
 have hlenT:=hT.len;simp only[vX,bR]at hk;(refine aO func152 [0,2,3,4,13,24] ?_;simp only[go_sem,ntmps152,f152]);(intro b2 hb2;try simp only[aI,aZ,ne_eq]at hb2);have e2:=cE hr (by first|exact hb2|exact hb2.2|exact hb2.2.2|exact hb2.2.2.2|exact hb2.2.2.2.2|exact hb2.2.2.2.2.2|exact hb2.2.2.2.2.2.2);simp only[go_sem,hb2,e2];(refine iL (T:=T) (fin:=fin) (d:=d) (first:=first) (i:=i) (n:=n) gH hi hT (aT hk (λx1 w1 m1 hk1 hlt1 hw1 hm1=>?_) (λf h=>PB.mk aS h));subst m1;rw[<-hw1]at hk1);simp only[go_sem,hb2,e2];(intro b3 hb3;try simp only[aI,aZ,ne_eq]at hb3);have e3:=cE hr (by first|exact hb3|exact hb3.2|exact hb3.2.2|exact hb3.2.2.2|exact hb3.2.2.2.2|exact hb3.2.2.2.2.2|exact hb3.2.2.2.2.2.2);simp only[go_sem,hb2,e2,hb3,e3];(refine fN (T:=T) (fin:=fin) (d:=d) (first:=first) (i:=i+1) (n:=n) _ gH hlt1 hT (aT hk1 (λ_ w2 m2 hk2 hlt2 hw2 hm2=>?_) (λf h=>PB.mk aS h));subst m2;rw[<-hw2]at hk2);simp only[go_sem,hb2,e2,hb3,e3];rw[show(T.drop (i+1+1)).length=T.length-(i+1+1)by rw[dR]]at hk2
 refine Ex.loop (ι:=Option Nat × List aC × Nat) (λc=>[(0,.ptr r 0),(2,.ptr b2 0),(3,.ptr b3 0)]) (λc=>aAs T fin d first b3 r x1 (s.setO b2 (.cells 73 [.str [],.nils,.str [],.nils,.int .i64 0,.int .i64 0,.nils])) c.1 c.2.1 c.2.2 n)
  (fun c => (c.1 = none → c.2.1 = []) ∧ (∀ t,c.1 = some t → s.getT t = none) ∧ i + 1 + 1 ≤ c.2.2 ∧ c.2.2 ≤ T.length ∧ c.2.1.length ≤ c.2.2 ∧ ∃ k,T.length - c.2.2 < k ∧
   (mH fin k c.2.1 (T.drop c.2.2) n).to (λar w n=>(eN fin w n).to (λy w n=>PK T i (λj m=>s.setO r (bC T fin d first j m)) Opr.enc KV ⟨x1,ar,y,[],0,0,[]⟩ w n) (PB s r Kp)) (PB s r Kp))
  (λc=>T.length-c.2.2) (none,[],i+1+1) ?_ ?_ ?_ ?_
 .exact⟨λ_=>rfl,λt e=>(by cases e),bT _,hlt2,aU _,_,jB _,hk2⟩
 .simp only[go_sem,hb2,e2,hb3,e3]
 .exact aX
 .rintro⟨tk,ar,i2⟩ ⟨hnil,hfree,hi1,hi2,has,k,hk3,hk4⟩;simp only at hnil hfree hi1 hi2 has hk3 hk4;obtain⟨k,rfl⟩:∃k',k=k'+1:=⟨k-1,by omega⟩
  have hg:nJ (aAs T fin d first b3 r x1 (s.setO b2 (.cells 73 [.str [],.nils,.str [],.nils,.int .i64 0,.int .i64 0,.nils])) tk ar i2 n) tk (ar.map A.str).length 9:=by rw[aH];exact iF λe=>by rw[hnil e];rfl
  refine bG (V:=[0,2,3,4,13,24]) _ _ _ _ ?_;unfold aAs;simp only[go_sem,hb2,e2,hb3,e3];refine jO (T:=T) (fin:=fin) (d:=d) (first:=first) (i:=i2) (n:=n) _ gH hi2 hT ?_;cases hx:isT [45,62] (T.drop i2)with
  | true =>
   rw[mH,if_pos hx,bZ,mR]at hk4;have hlt:=lG hx;simp only[go_sem,hb2,e2,hb3,e3];(refine iL (T:=T) (fin:=fin) (d:=d) (first:=first) (i:=i2+1) (n:=n) gH hlt hT (aT hk4 (λx5 w5 m5 hk5 hlt5 hw5 hm5=>?_) (λf h=>PB.mk aS h));subst m5;rw[<-hw5]at hk5);simp only[go_sem,hb2,e2,hb3,e3];have hk:=hk5 (i2+1+1) aB hlt5 rfl hn;simp only[Opr.enc,Opr.cs]at hk;simp only[go_sem]at hk;refine⟨rH _ _,?_⟩;refine DK.mk hk aX ?_;exact A.le.agg ⟨⟨bB _,rfl⟩,⟨iY _ _ (λe=>by rw[hnil e];rfl),rfl⟩,⟨bB _,rfl⟩,⟨A.le.nil,rfl⟩,⟨bB _,rfl⟩,⟨bB _,rfl⟩,⟨A.le.nil,rfl⟩,trivial⟩
  | false =>
   simp only[go_sem,hb2,e2,hb3,e3];refine kE (T:=T) (fin:=fin) (d:=d) (first:=first) (i:=i2) (n:=n) gH hi2 ?_;cases hw:T.drop i2 with
   | nil=>rw[hw,mH,if_neg (by simp[isT])]at hk4;exact hk4.at aS gH
   | cons t w =>
    obtain⟨g1,g2,g3,g4⟩:=lQ hw;rw[hw,mH,if_neg (by rw[<-hw,hx];simp),bR]at hk4;simp only[go_sem,hb2,e2,hb3,e3];(intro b4 hb4;try simp only[aI,aZ,ne_eq]at hb4);have e4:=cE hr (by first|exact hb4|exact hb4.2|exact hb4.2.2|exact hb4.2.2.2|exact hb4.2.2.2.2|exact hb4.2.2.2.2.2|exact hb4.2.2.2.2.2.2);simp only[go_sem,hb2,e2,hb3,e3,hb4,e4]
    have hsome:(t.free=true->¬ 8<=ar.length)->(eN fin (T.drop i2) n).to (λa w n=>(mH fin k (ar++[a]) w n).to (λar w n =>
      (eN fin w n).to (λy w n=>PK T i (λj m=>s.setO r (bC T fin d first j m)) Opr.enc KV ⟨x1,ar,y,[],0,0,[]⟩ w n) (PB s r Kp)) (PB s r Kp)) (PB s r Kp):=λh=>by
     rw[hw];simp only[lI]at hk4;rw[if_neg (λhc=>h hc.1 hc.2)]at hk4;exact hk4
    cases c1:decide (t.kind=1)
    .have hk5:=hsome (λhf=>by simp[Tok.free,c1]at hf);simp only[go_sem,hb2,e2,hb3,e3,hb4,e4,c1];(refine bL (OT.r 0 8) [(3,[1])] ?_;simp only[go_sem,hb2,e2,hb3,e3,hb4,e4]);(refine iL (T:=T) (fin:=fin) (d:=d) (first:=first) (i:=i2) (n:=n) gH hi2 hT (aT hk5 (λx6 w6 m6 hk6 hlt6 hw6 hm6=>?_) (λf h=>PB.mk aS h));subst m6;rw[<-hw6]at hk6);simp only[go_sem,hb2,e2,hb3,e3,hb4,e4];refine⟨by decide,λy hy=>by simp only[bW]at hy;subst hy;rfl,dY rfl rfl (by rw[aH];exact iF λe=>by rw[hnil e];rfl) (λy hy=>?_) (by simp only[aH,aE,aF];omega) (λt ht=>?_)⟩
     .simp only[cC]at hy;obtain⟨q,_,rfl⟩:=hy;rfl
     have hft:=gD ht hfree;rw[fO ht];simp only[go_sem,hb2,e2,hb3,e3,hb4,e4];refine⟨(some t,ar++[x6],i2+1),⟨λe=>(by cases e),λt' e=>by cases e;exact hft,by simp only;omega,by simp only;omega,by simp only[aG,aE,aF];omega,k,by simp only;omega,hk6⟩,by simp only;omega,?_⟩
     .simp only[aAs,dO,cV,bS,cY,aG,aE,aF,aH];exact aX
    simp only[go_sem,hb2,e2,hb3,e3,hb4,e4,c1];refine tF _ _ _ _ ?_;simp only[go_sem,hb2,e2,hb3,e3,hb4,e4];cases c2:decide (t.text∈gX);rotate_left
    .have hk5:=hsome (λhf=>by simp[Tok.free,c2]at hf);simp only[go_sem,hb2,e2,hb3,e3,hb4,e4,c2];(refine bL (OT.r 0 8) [(3,[1])] ?_;simp only[go_sem,hb2,e2,hb3,e3,hb4,e4]);(refine iL (T:=T) (fin:=fin) (d:=d) (first:=first) (i:=i2) (n:=n) gH hi2 hT (aT hk5 (λx6 w6 m6 hk6 hlt6 hw6 hm6=>?_) (λf h=>PB.mk aS h));subst m6;rw[<-hw6]at hk6);simp only[go_sem,hb2,e2,hb3,e3,hb4,e4];refine⟨by decide,λy hy=>by simp only[bW]at hy;subst hy;rfl,dY rfl rfl (by rw[aH];exact iF λe=>by rw[hnil e];rfl) (λy hy=>?_) (by simp only[aH,aE,aF];omega) (λt ht=>?_)⟩
     .simp only[cC]at hy;obtain⟨q,_,rfl⟩:=hy;rfl
     have hft:=gD ht hfree;rw[fO ht];simp only[go_sem,hb2,e2,hb3,e3,hb4,e4];refine⟨(some t,ar++[x6],i2+1),⟨λe=>(by cases e),λt' e=>by cases e;exact hft,by simp only;omega,by simp only;omega,by simp only[aG,aE,aF];omega,k,by simp only;omega,hk6⟩,by simp only;omega,?_⟩
     .simp only[aAs,dO,cV,bS,cY,aG,aE,aF,aH];exact aX
    simp only[go_sem,hb2,e2,hb3,e3,hb4,e4,c2,pF hg];refine mU (T:=T) (fin:=fin) (d:=d) (first:=first) (i:=i2) (n:=n) _ _ gH hi2 ?_;by_cases h8:8<=ar.length
    .rw[if_pos aB,hw];simp only[lI]at hk4;rw[if_pos ⟨by simp[Tok.free,c1,c2],h8⟩]at hk4;exact PB.mk aS hk4
    rw[if_neg aB];have hk5:=hsome (λ_=>h8);simp only[go_sem,hb2,e2,hb3,e3,hb4,e4];(refine bL (OT.r 0 8) [(3,[1])] ?_;simp only[go_sem,hb2,e2,hb3,e3,hb4,e4]);(refine iL (T:=T) (fin:=fin) (d:=d) (first:=first) (i:=i2) (n:=n) gH hi2 hT (aT hk5 (λx6 w6 m6 hk6 hlt6 hw6 hm6=>?_) (λf h=>PB.mk aS h));subst m6;rw[<-hw6]at hk6);simp only[go_sem,hb2,e2,hb3,e3,hb4,e4];refine⟨by decide,λy hy=>by simp only[bW]at hy;subst hy;rfl,dY rfl rfl (by rw[aH];exact iF λe=>by rw[hnil e];rfl) (λy hy=>?_) (by simp only[aH,aE,aF];omega) (λt ht=>?_)⟩
    .simp only[cC]at hy;obtain⟨q,_,rfl⟩:=hy;rfl
    have hft:=gD ht hfree;rw[fO ht];simp only[go_sem,hb2,e2,hb3,e3,hb4,e4];refine⟨(some t,ar++[x6],i2+1),⟨λe=>(by cases e),λt' e=>by cases e;exact hft,by simp only;omega,by simp only;omega,by simp only[aG,aE,aF];omega,k,by simp only;omega,hk6⟩,by simp only;omega,?_⟩
    .simp only[aAs,dO,cV,bS,cY,aG,aE,aF,aH];exact aX
end
end
section
def nv(es:List A):A:=match es with
 | []=>.nils
 | x::l=>.list none (x::l)
@[go_sem] theorem aVt(es:List A):(nv es).cells=[nv es]:=by cases es<;>rfl
@[go_sem] theorem aV7(es:List A):(nv es).one=true:=by cases es<;>rfl
@[go_sem] theorem aV2(s:St)(es:List A):jI s (nv es)=nv es:=by cases es<;>rfl
@[go_sem] theorem aVI(es:List A):mK (nv es)=some (.int .i64 es.length):=by cases es<;>rfl
theorem aLB(es:List A):A.le (nv es) (.list none es):=by
 cases es with
 | nil=>exact A.le.nil
 | cons x l=>exact bB _
def opC(o:Opr)(aA pA:A):List A:=[.str o.name,aA,.str o.sort,pA,.int .i64 o.prec,.int .i64 o.assoc,nv (o.strict.map (.int .i64))]
attribute [go_sem] opC
theorem aJV{α:Type}(fin:Fault)(sep:aC)(one:List α->List Tok->Nat->Rd α):∀(f:Nat) (a:List α) (w:List Tok) (n:Nat) (p:List α->List Tok->Nat->Prop) (b:Fault->Prop),
  (dD fin sep (λacc w n=>(one acc w n).bind λa w n=>.ok (acc++[a]) w n) f a w n).to p b ->
  (dD fin sep (λacc w n=>(one acc w n).bind λa w n=>.ok (acc++[a]) w n) f a w n).to (λl w n=>l≠[]/\p l w n) b
 | 0,a,w,n,p,b,h=>h
 | f+1,a,w,n,p,b,h=>by
  simp only[dD,bR]at h⊢;refine aT h (λx w n h=>?_) (λ_ h=>h);simp only[bZ]at h⊢;split
  .rename_i e;rw[if_pos e]at h;exact aJV fin sep one f (a++[x]) w.tail n p b h
  .rename_i e;rw[if_neg e]at h;exact⟨by simp,h⟩
section
variable {T:List Tok} {fin:Fault} {d:Dc} {first:Tok} {i n:Nat} {s:St} {r:Nat} {KV Kp:St->A->Prop}
theorem aGv{s1:St}{L M:List Nat}{f:Fault}(hr:r∈L)(hg:s1.gel s L M)(h:∀s1 o,s1.gel s L M->s1.getO r=some o->Kp s1 (.iface 36 f.enc)):PB s1 r (DK Kp) f :=
 λo=>aN (h _ o (aBm hr hg) (by rw[aJ,if_pos rfl]))
theorem aOL(hT:TOk T)(b2:Nat)(hr:s.getO r=some (bC T fin d first i n))(h2:s.getO b2=some (.cells 74 [.ptr r 0]))(hi:i<=T.length)
  (hk:(rG fin 8 (T.drop i) n).to (λx w n'=>i+1<=T.length->T.drop (i+1)=w->n'=n->KV (s.setO r (bC T fin d first (i+1) n)) (.int .i64 x)) (PB s r Kp)):Den cx 283 [.ptr b2 0] KV Kp s:=by
 (refine aO func283 [0,1] ?_;simp only[go_sem,ntmps283,Tryz.f283]);simp only[go_sem,h2];refine aHs 8 hr hi hT (aT hk (λx w m h a b c=>?_) (λf h=>PB.mk (fJ _ _) h));simp only[go_sem];exact aN (h a b c)
theorem aIo(hT:TOk T)(b:Nat)(aA pA:A)(ha:aA.one=true)(hp:pA.one=true)(o:Opr)(k:Nat)(hr:s.getO r=some (bC T fin d first i n))(hb:s.getO b=some (.cells 73 (opC o aA pA)))(hne:b≠r)(hi:i<=T.length)(hn:n<=2000)(hik:T.length-i<k)
  (hk : (iE fin k o (T.drop i) n).to (fun o' w n' => ∀ j,i ≤ j → j ≤ T.length → T.drop j = w → n' ≤ 2000 → KV ((s.setO b (.cells 73 (opC o' aA pA))).setO r (bC T fin d first j n')) (.tuple []))
   (λf=>∀s1 x,s1.gel s [b,r] []->s1.getO r=some x->Kp s1 (.iface 36 f.enc))):Den cx 221 [.ptr r 0,.ptr b 0] KV Kp s:=by
 have hlenT:=hT.len;(refine aO func221 [0,1,2,4,7,11,14,21,63,74,87,94,99] ?_;simp only[go_sem,ntmps221,f221]);(intro b2 hb2;try simp only[aI,aZ,ne_eq]at hb2);have e2:=cE hr (by first|exact hb2|exact hb2.2|exact hb2.2.2|exact hb2.2.2.2|exact hb2.2.2.2.2|exact hb2.2.2.2.2.2|exact hb2.2.2.2.2.2.2);have e2b:=cE hb hb2;have hneS:=hne.symm;simp only[go_sem,hb2,e2,hne,hne.symm,e2b,ha,hp]
 refine Ex.loop (ι:=Opr × Nat × Nat × Nat) (λc=>[(0,.ptr r 0),(1,.ptr b 0),(2,.ptr b2 0)]) (λc=>((s.setO b2 (.cells 74 [.ptr r 0])).setO b (.cells 73 (opC c.1 aA pA))).setO r (bC T fin d first c.2.1 c.2.2.1))
  (fun c => i ≤ c.2.1 ∧ c.2.1 ≤ T.length ∧ c.2.2.1 ≤ 2000 ∧ T.length - c.2.1 < c.2.2.2 ∧ (iE fin c.2.2.2 c.1 (T.drop c.2.1) c.2.2.1).to (fun o' w n' => ∀ j,i ≤ j → j ≤ T.length → T.drop j = w → n' ≤ 2000 → KV ((s.setO b (.cells 73 (opC o' aA pA))).setO r (bC T fin d first j n')) (.tuple []))
   (λf=>∀s1 x,s1.gel s [b,r] []->s1.getO r=some x->Kp s1 (.iface 36 f.enc)))
  (λc=>T.length-c.2.1) (o,i,n,k) ?_ ?_ ?_ ?_
 .exact⟨bT _,hi,hn,hik,hk⟩
 .simp only[go_sem,hb2,e2,hne,hne.symm,e2b,ha,hp]
 .refine pQ (vG ?_ (vG ?_ (xI _ _ _)))
  .rw[aJ,if_neg e2.2];exact hr
  .rw[aJ,if_neg e2b.2];exact hb
 .rintro⟨o,i2,n,k⟩ ⟨hi1,hi2,hn,hk3,hk4⟩;simp only at hi1 hi2 hn hk3 hk4;obtain⟨k,rfl⟩:∃k',k=k'+1:=⟨k-1,by omega⟩
  have hbr:r∈[b,r]:=by simp
  refine bG (V:=[0,1,2,4,7,11,14,21,63,74,87,94,99]) _ _ _ _ ?_;simp only[go_sem,hb2,e2,hne,hne.symm,e2b,ha,hp];refine nR (T:=T) (fin:=fin) (d:=d) (first:=first) (i:=i2) (n:=n) _ gH hi2 ?_;rw[iE.eq_def]at hk4;simp only at hk4;cases hx:isT [46] (T.drop i2)with
  | true =>
   rw[if_pos hx,bZ]at hk4;simp only[go_sem,hb2,e2,hne,hne.symm,e2b,ha,hp];exact aP (hk4 i2 hi1 hi2 rfl hn) aX
  | false =>
   rw[if_neg (by rw[hx];simp)]at hk4;simp only[go_sem,hb2,e2,hne,hne.symm,e2b,ha,hp];refine kE (T:=T) (fin:=fin) (d:=d) (first:=first) (i:=i2) (n:=n) gH hi2 ?_;cases hw:T.drop i2 with
   | nil=>rw[hw]at hk4;exact aN (hk4 _ (bC T fin d first i2 n) mA gH)
   | cons t w =>
    obtain⟨g1,g2,g3,g4⟩:=lQ hw;rw[hw]at hk4;simp only at hk4;simp only[go_sem,hb2,e2,hne,hne.symm,e2b,ha,hp];(intro b4 hb4;try simp only[aI,ne_eq]at hb4);simp only[go_sem,hb2,e2,hne,hne.symm,e2b,ha,hp,hb4]
    have bad:∀(KV':St->A->Prop) (c:Int) (s1:St),s1.gel s [b,r] []->s1.getO r=some (bC T fin d first i2 n)->(∀s1 x,s1.gel s [b,r] []->s1.getO r=some x->Kp s1 (.iface 36 (fW fin c (t::w)).enc))->Den cx 42 [.ptr r 0,.int .i64 c] KV' (DK Kp) s1:=by
     intro KV' c s1 hg1 hr1 hf;refine oH c hr1 hi2 hT ?_;rw[hw];exact aN (hf _ _ hg1 hr1)
    by_cases x1:t.text=[112,114,101,99]
    .have d1:decide (t.text=[112,114,101,99])=true:=by rw[x1];rfl
     have d2:decide (t.text=[108,101,102,116])=false:=by rw[x1];rfl
     have d3:decide (t.text=[114,105,103,104,116])=false:=by rw[x1];rfl
     have d4:decide (t.text=[115,116,114,105,99,116])=false:=by rw[x1];rfl
     simp only[go_sem,hb2,e2,hne,hne.symm,e2b,ha,hp,hb4,d1,d2,d3,d4];cases c1:decide (t.kind=1)
     .rw[if_pos (by simpa using c1),eJ]at hk4;simp only[go_sem,hb2,e2,hne,hne.symm,e2b,ha,hp,hb4,c1];exact bad _ _ _ mA gH hk4
     rw[if_neg (by simpa using c1),if_pos x1]at hk4;simp only[go_sem,hb2,e2,hne,hne.symm,e2b,ha,hp,hb4,c1,d1,d2,d3,d4];cases c2:decide (0<o.prec)
     .rw[if_neg (by simpa using c2),bR,<-g3]at hk4;simp only[go_sem,hb2,e2,hne,hne.symm,e2b,ha,hp,hb4,c1,c2,d1,d2,d3,d4,cF i2 aB];refine aHs (T:=T) (fin:=fin) (d:=d) (first:=first) (i:=i2+1) (n:=n) 20 gH g2 hT (aT hk4 (λx w m hk5 hlt hw hm=>?_) (λf h=>aGv hbr mA h));subst m;rw[<-hw]at hk5;simp only[go_sem,hb2,e2,hne,hne.symm,e2b,ha,hp,hb4];refine⟨({ o with prec:=x },i2+1+1,n,k),⟨by simp only;omega,by simp only;omega,hn,by simp only;omega,hk5⟩,by simp only;omega,aX⟩
     .rw[if_pos (by simpa using c2),eJ]at hk4;simp only[go_sem,hb2,e2,hne,hne.symm,e2b,ha,hp,hb4,c1,c2,d1,d2,d3,d4];exact bad _ _ _ mA gH hk4
    by_cases x2:t.text=[108,101,102,116]
    .have d1:decide (t.text=[112,114,101,99])=false:=by rw[x2];rfl
     have d2:decide (t.text=[108,101,102,116])=true:=by rw[x2];rfl
     have d3:decide (t.text=[114,105,103,104,116])=false:=by rw[x2];rfl
     have d4:decide (t.text=[115,116,114,105,99,116])=false:=by rw[x2];rfl
     simp only[go_sem,hb2,e2,hne,hne.symm,e2b,ha,hp,hb4,d1,d2,d3,d4];cases c1:decide (t.kind=1)
     .rw[if_pos (by simpa using c1),eJ]at hk4;simp only[go_sem,hb2,e2,hne,hne.symm,e2b,ha,hp,hb4,c1];exact bad _ _ _ mA gH hk4
     rw[if_neg (by simpa using c1),if_neg x1,if_pos x2]at hk4;simp only[go_sem,hb2,e2,hne,hne.symm,e2b,ha,hp,hb4,c1,d1,d2,d3,d4];cases c2:decide (o.assoc=0)
     .rw[if_neg (by simpa using c2),eJ]at hk4;simp only[go_sem,hb2,e2,hne,hne.symm,e2b,ha,hp,hb4,c1,c2,d1,d2,d3,d4];exact bad _ _ _ mA gH hk4
     .rw[if_pos (by simpa using c2),<-g3]at hk4;simp only[go_sem,hb2,e2,hne,hne.symm,e2b,ha,hp,hb4,c1,c2,d1,d2,d3,d4,cF i2 aB];refine⟨({ o with assoc:=1 },i2+1,n,k),⟨by simp only;omega,by simp only;omega,hn,by simp only;omega,hk4⟩,by simp only;omega,aX⟩
    by_cases x3:t.text=[114,105,103,104,116]
    .have d1:decide (t.text=[112,114,101,99])=false:=by rw[x3];rfl
     have d2:decide (t.text=[108,101,102,116])=false:=by rw[x3];rfl
     have d3:decide (t.text=[114,105,103,104,116])=true:=by rw[x3];rfl
     have d4:decide (t.text=[115,116,114,105,99,116])=false:=by rw[x3];rfl
     simp only[go_sem,hb2,e2,hne,hne.symm,e2b,ha,hp,hb4,d1,d2,d3,d4];cases c1:decide (t.kind=1)
     .rw[if_pos (by simpa using c1),eJ]at hk4;simp only[go_sem,hb2,e2,hne,hne.symm,e2b,ha,hp,hb4,c1];exact bad _ _ _ mA gH hk4
     rw[if_neg (by simpa using c1),if_neg x1,if_neg x2,if_pos x3]at hk4;simp only[go_sem,hb2,e2,hne,hne.symm,e2b,ha,hp,hb4,c1,d1,d2,d3,d4];cases c2:decide (o.assoc=0)
     .rw[if_neg (by simpa using c2),eJ]at hk4;simp only[go_sem,hb2,e2,hne,hne.symm,e2b,ha,hp,hb4,c1,c2,d1,d2,d3,d4];exact bad _ _ _ mA gH hk4
     .rw[if_pos (by simpa using c2),<-g3]at hk4;simp only[go_sem,hb2,e2,hne,hne.symm,e2b,ha,hp,hb4,c1,c2,d1,d2,d3,d4,cF i2 aB];refine⟨({ o with assoc:=2 },i2+1,n,k),⟨by simp only;omega,by simp only;omega,hn,by simp only;omega,hk4⟩,by simp only;omega,aX⟩
    by_cases x4:t.text=[115,116,114,105,99,116]
    .have d1:decide (t.text=[112,114,101,99])=false:=by rw[x4];rfl
     have d2:decide (t.text=[108,101,102,116])=false:=by rw[x4];rfl
     have d3:decide (t.text=[114,105,103,104,116])=false:=by rw[x4];rfl
     have d4:decide (t.text=[115,116,114,105,99,116])=true:=by rw[x4];rfl
     simp only[go_sem,hb2,e2,hne,hne.symm,e2b,ha,hp,hb4,d1,d2,d3,d4];cases c1:decide (t.kind=1)
     .rw[if_pos (by simpa using c1),eJ]at hk4;simp only[go_sem,hb2,e2,hne,hne.symm,e2b,ha,hp,hb4,c1];exact bad _ _ _ mA gH hk4
     rw[if_neg (by simpa using c1),if_neg x1,if_neg x2,if_neg x3,if_pos x4]at hk4;simp only[go_sem,hb2,e2,hne,hne.symm,e2b,ha,hp,hb4,c1,d1,d2,d3,d4];cases c2:decide ((0:Int)<(o.strict.length:Int));rotate_left
     .rw[if_pos (by simpa using c2),eJ]at hk4;simp only[go_sem,hb2,e2,hne,hne.symm,e2b,ha,hp,hb4,c1,c2,d1,d2,d3,d4];exact bad _ _ _ mA gH hk4
     rw[if_neg (by simpa using c2),bR,<-g3]at hk4;simp only[go_sem,hb2,e2,hne,hne.symm,e2b,ha,hp,hb4,c1,c2,d1,d2,d3,d4,cF i2 aB];refine fN (T:=T) (fin:=fin) (d:=d) (first:=first) (i:=i2+1) (n:=n) _ gH g2 hT (aT hk4 (λ_ w m hk5 hlt5 hw hm=>?_) (λf h=>aGv hbr mA h));subst m;rw[<-hw,bR]at hk5;simp only[go_sem,hb2,e2,hne,hne.symm,e2b,ha,hp,hb4]
     refine iA (sA gH) (aMN (fin:=fin) (d:=d) (fi:=first) (λx:Int=>A.int .i64 x) (λ_=>rfl) (λ_=>rfl) hT (λs'=>s'.getO b2=some (.cells 74 [.ptr r 0])) (λ_ _ _=>Iff.rfl)
      (rG fin 8) 283 [] [.ptr b2 0] (aDk (fun s' x hq => by rw [aJ,if_neg e2.1]; exact hq)
       (λs' i' n' KV' Kp' hr' hq' hi' hn' hk'=>aOL hT b2 hr' hq' hi' (aT hk' (λ_ _ _ h h1 h2 h3=>by subst h3;exact h (i'+1) aB h1 h2 hn') (λ_ h=>h)))) (i2+1+1) n ?_ hlt5 hn ?_)
     .exact gH
     refine aT (aJV _ _ _ _ _ _ _ _ _ hk5) (λl w m hk6 j hj hjT hw hm=>?_) (λf h s1 x hg hr1=>aN (h _ _ ((aIf hg hbr).trans mA) hr1));obtain⟨hl,hk6⟩:=hk6;subst hw;rw[bR]at hk6
     obtain⟨x0,l0,rfl⟩:∃x0 l0,l=x0::l0:=by
      cases l with
      | nil=>exact absurd rfl hl
      | cons a b=>exact⟨a,b,rfl⟩
     simp only[go_sem,hb2,e2,hne,hne.symm,e2b,ha,hp,hb4];refine fN (T:=T) (fin:=fin) (d:=d) (first:=first) (i:=j) (n:=m) _ gH hjT hT (aT hk6 (λ_ w m' hk7 hlt7 hw hm'=>?_) (λf h=>aGv hbr mA h));subst m';rw[<-hw]at hk7;simp only[go_sem,hb2,e2,hne,hne.symm,e2b,ha,hp,hb4];refine⟨({ o with strict:=x0::l0 },j+1,m,k),⟨by simp only;omega,by simp only;omega,hm,by simp only;omega,hk7⟩,by simp only;omega,aX⟩
    .have d1:decide (t.text=[112,114,101,99])=false:=by simpa using x1
     have d2:decide (t.text=[108,101,102,116])=false:=by simpa using x2
     have d3:decide (t.text=[114,105,103,104,116])=false:=by simpa using x3
     have d4:decide (t.text=[115,116,114,105,99,116])=false:=by simpa using x4
     rw[if_neg x1,if_neg x2,if_neg x3,if_neg x4,ite_self,eJ]at hk4;simp only[go_sem,hb2,e2,hne,hne.symm,e2b,ha,hp,hb4,d1,d2,d3,d4];exact bad _ _ _ mA gH hk4
end
end
end Go.AV
