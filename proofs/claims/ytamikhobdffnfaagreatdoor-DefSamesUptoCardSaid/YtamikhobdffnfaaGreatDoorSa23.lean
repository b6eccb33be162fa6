/-
  Part of the proof of DefSames.
-/
import Derived.Test.YtamikhobdffnfaaGreatDoorSa22
set_option linter.all false
set_option maxRecDepth 1000000
set_option maxHeartbeats 40000000
section
namespace Go.AV
open Go Go.Proofs
theorem loopR_unit {α:Type} (fin:Fault) (sep:Str) (one:List Tok→Nat→Rd α):∀ (f:Nat) (l0 l:List α) (w:List Tok) (n:Nat) (p:List α→List Tok→Nat→Prop) (b:Fault→Prop),
  (loopR fin sep (fun acc w n=>(one w n).bind fun a w n=>.ok (acc++[a]) w n) f (l0++l) w n).to p b →
  (loopR fin sep (fun (c:Unit × List α) w n=>((one w n).bind fun a w n=>Rd.ok ((),a) w n).bind fun q w n=>.ok (q.1,c.2++[q.2]) w n) f ((),l) w n).to (fun c w n=>p (l0++c.2) w n) b
 | 0,l0,l,w,n,p,b,h=>h
 | f+1,l0,l,w,n,p,b,h=>by
  simp only[loopR,Rd.bind_to] at h ⊢;refine Rd.to_mono h (fun a w n h=>?_) (fun _ h=>h);simp only[Rd.ok_to] at h ⊢;split
  ·rename_i e;rw[if_pos e] at h;refine loopR_unit fin sep one f l0 (l++[a]) w.tail n p b ?_;rw[← List.append_assoc];exact h
  ·rename_i e;rw[if_neg e] at h;rw[Rd.ok_to] at h ⊢;rw[← List.append_assoc];exact h
theorem loopR_fst {σ:Type} (fin:Fault) (sep:Str) (one:σ→List Tok→Nat→Rd σ):∀ (f:Nat) (a:σ) (l:List Unit) (w:List Tok) (n:Nat) (p:σ→List Tok→Nat→Prop) (b:Fault→Prop),
  (loopR fin sep one f a w n).to p b →
  (loopR fin sep (fun (c:σ × List Unit) w n=>((one c.1 w n).bind fun a w n=>Rd.ok (a,()) w n).bind fun q w n=>.ok (q.1,c.2++[q.2]) w n) f (a,l) w n).to (fun c w n=>p c.1 w n) b
 | 0,a,l,w,n,p,b,h=>h
 | f+1,a,l,w,n,p,b,h=>by
  simp only[loopR,Rd.bind_to] at h ⊢;refine Rd.to_mono h (fun a w n h=>?_) (fun _ h=>h);simp only[Rd.ok_to] at h ⊢;split
  ·rename_i e;rw[if_pos e] at h;exact loopR_fst fin sep one f a (l++[()]) w.tail n p b h
  ·rename_i e;rw[if_neg e] at h;exact h
theorem plist222_den {σ α X:Type} (enc:α→A) (hz:∀ a,(enc a).cells.length=6) (ho:∀ a,allOne (enc a).cells=true)
  {T:List Tok} {fin:Fault} {s0:St} {r:Nat} {KV Kp:St→A→Prop} (hT:TOk T)
  (S:St→σ→X→Nat→Nat→St) (Q:St→σ→X→Nat→Prop) (one:σ→List Tok→Nat→Rd (σ × α)) (f:FuncId) (first caps:List A)
  (hr:∀ (s:St) (a:σ) (x:X) (i n:Nat),∃ d fi,(S s a x i n).getO r=some (psO T fin d fi i n)∧((S s a x i n).setO r (psO T fin d fi (i+1) n)).ge (S s a x (i+1) n))
  (h1:∀ (s:St) (a:σ) (x:X) (i n:Nat) (t:Nat) (v:Nat × TypeId),Q s a x i→(S s a x i n).getT t=none→s.getT t=none∧Q (s.setT t v) a x i∧((S s a x i n).setT t v).ge (S (s.setT t v) a x i n))
  (h2:∀ (s:St) (a:σ) (x:X) (i n:Nat) (t:Nat) (v u:Nat × TypeId),s.getT t=none→Q (s.setT t v) a x i→(S (s.setT t v) a x i n).getT t=some v∧Q (s.setT t u) a x i∧((S (s.setT t v) a x i n).setT t u).ge (S (s.setT t u) a x i n))
  (h3:∀ (s:St) (a:σ) (x:X) (i n:Nat) (t:Nat) (v:Nat × TypeId),s.getT t=none→Q (s.setT t v) a x i→Q s a x i∧(S (s.setT t v) a x i n).ge (S s a x i n))
  (hi:∀ (s:St) (a:σ) (x:X) (i:Nat),Q s a x i→Q s a x (i+1))
  (hg:∀ (s:St) (a:σ) (x:X) (i n:Nat),Q s a x i→(S s a x i n).gx s r)
  (hf : ∀ (s : St) (a : σ) (x : X) (i n : Nat) (KV Kp : St → A → Prop),Q s a x i → i ≤ T.length → n ≤ 2000 → (one a (T.drop i) n).to (fun p w n' => ∀ j y,i ≤ j → j ≤ T.length → T.drop j = w → n' ≤ 2000 → Q s p.1 y j → KV (S s p.1 y j n') (enc p.2))
   (fun f=>∀ s1 o,s1.gx s r→s1.getO r=some o→Kp s1 (.iface 36 f.enc))→Den cx f (first++[]++caps) KV Kp (S s a x i n))
  (a0:σ) (x0:X) (i0 n0:Nat) (hQ:Q s0 a0 x0 i0) (hi0:i0≤T.length) (hn0:n0≤2000)
  (hk : (loopR fin [44] (fun (c : σ × List α) w n => (one c.1 w n).bind fun p w n => .ok (p.1,c.2 ++ [p.2]) w n) ((T.drop i0).length + 1) (a0,[]) (T.drop i0) n0).to
   (fun c w n=>∀ j y,i0≤j→j≤T.length→T.drop j=w→n≤2000→Q s0 c.1 y j→KV (S s0 c.1 y j n) (.list none (c.2.map enc)))
   (fun f=>∀ s1 o,s1.gx s0 r→s1.getO r=some o→Kp s1 (.iface 36 f.enc))):Den cx 222 [.ptr r 0,.fn f first caps] KV Kp (S s0 a0 x0 i0 n0):=by
 (refine Den.drop ?_;refine den_cxo ?_;refine Den.of_body (C:=cxo) Tryz.func222 rfl rfl (gC6 rfl) ?_;refine wpC_ok (V:=[0,1,4,5,10]) _ _ _ _ ?_;simp only[go_sem,Tryz.ntmps222,Tryz.f222]);have hlenT:=hT.len;rw[show (T.drop i0).length=T.length-i0 by rw[gD4]] at hk;simp only[loopR,Rd.bind_to] at hk;refine to_cxo (hf s0 a0 x0 i0 n0 _ _ hQ hi0 hn0 (Rd.to_mono hk (fun p w n' h=>?_) (fun g h=>?_)))
 ·intro j y hj hjT hw hn' hQy;simp only[Rd.ok_to,gD3] at h;simp only[go_sem];refine .inr ⟨⟨hz _,ho _⟩,fun t ht=>?_⟩;obtain ⟨g1,g2,g3⟩:=h1 s0 p.1 y j n' t (1,43) hQy ht
  refine Ex.loop (ι:=(σ × X × Nat × Nat) × List α) (fun c=>[(0,.ptr r 0),(1,.fn f first caps),(5,.list (some t) (c.2.map enc))])
   (fun c=>S (s0.setT t (c.2.length,43)) c.1.1 c.1.2.1 c.1.2.2.1 c.1.2.2.2)
   (fun c => Q (s0.setT t (c.2.length,43)) c.1.1 c.1.2.1 c.1.2.2.1 ∧ i0 ≤ c.1.2.2.1 ∧ c.1.2.2.1 ≤ T.length ∧ c.1.2.2.2 ≤ 2000 ∧ c.2.length ≤ c.1.2.2.1 + 1 ∧ ∃ k,T.length - c.1.2.2.1 ≤ k ∧
    (if isT [44] (T.drop c.1.2.2.1) = true then loopR fin [44] (fun (c : σ × List α) w n => (one c.1 w n).bind fun p w n => .ok (p.1,c.2 ++ [p.2]) w n) k (c.1.1,c.2) (T.drop c.1.2.2.1).tail c.1.2.2.2
     else Rd.ok (c.1.1,c.2) (T.drop c.1.2.2.1) c.1.2.2.2).to
      (fun c w n=>∀ j y,i0≤j→j≤T.length→T.drop j=w→n≤2000→Q s0 c.1 y j→KV (S s0 c.1 y j n) (.list none (c.2.map enc)))
      (fun f=>∀ s1 o,s1.gx s0 r→s1.getO r=some o→Kp s1 (.iface 36 f.enc)))
   (fun c=>T.length-c.1.2.2.1) ((p.1,y,j,n'),[p.2]) ?_ ?_ ?_ ?_
  ·refine ⟨g2,hj,hjT,hn',by simp only[gC1,gC3];omega,T.length-i0,by simp only;omega,?_⟩;simp only[hw];exact h
  ·simp only[go_sem]
  ·exact g3
  ·rintro ⟨⟨a,x,i,n⟩,l⟩ ⟨q1,q2,q3,qn,q4,k,q5,q6⟩;simp only at q1 q2 q3 qn q4 q5 q6;obtain ⟨d,fi,hri,hst⟩:=hr (s0.setT t (l.length,43)) a x i n;refine wpC_ok (V:=[0,1,4,5,10]) _ _ _ _ ?_;simp only[go_sem];refine to_cxo (take_den _ hri q3 hT ?_);cases hx:isT [44] (T.drop i) with
   | false =>
    rw[hx] at q6;simp only[gD7,if_false,Rd.ok_to] at q6;obtain ⟨e1,e2⟩:=h3 s0 a x i n t (l.length,43) g1 q1;simp only[go_sem];exact DK.mk (q6 i x q2 q3 rfl qn e1) e2 (A.le.forget _ _)
   | true =>
    rw[hx] at q6;have hlt:=isT_lt hx;obtain ⟨k,rfl⟩:∃ k',k=k'+1:=⟨k-1,by omega⟩
    simp only[if_true,loopR,Rd.bind_to,Rd.ok_to,List.tail_drop] at q6;simp only[go_sem];refine to_cxo (Den.weaken hst (hf (s0.setT t (l.length,43)) a x (i+1) n _ _ (hi _ _ _ _ q1) hlt qn (Rd.to_mono q6 (fun p w n' h=>?_) (fun g h=>?_))))
    ·intro j y hj hjT hw hn' hQy;obtain ⟨e1,e2,e3⟩:=h2 s0 p.1 y j n' t (l.length,43) (l.length+1,43) g1 hQy;simp only[go_sem];refine .inl ⟨⟨hz _,ho _⟩,by decide,fun q hq=>?_,e1,fun q hq=>?_,by omega,((p.1,y,j,n'),l++[p.2]),⟨?_,by simp only;omega,hjT,hn',?_,k,by simp only;omega,?_⟩,by simp only;omega,?_,?_⟩
     ·simp only[List.mem_singleton] at hq;subst hq;exact hz _
     ·simp only[List.mem_map] at hq;obtain ⟨q',_,rfl⟩:=hq;exact hz _
     ·simp only[gC2,gC1,gC3];exact e2
     ·simp only[gC2,gC1,gC3];omega
     ·simp only[hw];exact h
     ·simp only[List.map_append,List.map_cons,List.map_nil]
     ·simp only[gC2,gC1,gC3];exact e3
    ·intro s1 o hg1 hr1;simp only[go_sem];exact DK.here (h s1 o (hg1.dropT g1) hr1)
 ·intro s1 o hg1 hr1;exact DK.here (h s1 o hg1 hr1)
theorem plists222_den {α:Type} (enc:α→A) (hz:∀ a,(enc a).cells.length=6) (ho:∀ a,allOne (enc a).cells=true)
  {T:List Tok} {fin:Fault} {d:Dc} {fi:Tok} {s0:St} {r:Nat} {KV Kp:St→A→Prop} (hT:TOk T)
  (Q:St→Prop) (hq:∀ (s:St) (t:Nat) (v:Nat × TypeId),Q (s.setT t v)↔Q s) (one:List Tok→Nat→Rd α) (f:FuncId) (first caps:List A)
  (hf : ∀ (s : St) (i n : Nat) (KV Kp : St → A → Prop),Q s → i ≤ T.length → n ≤ 2000 → (one (T.drop i) n).to (fun a w n' => ∀ j,i ≤ j → j ≤ T.length → T.drop j = w → n' ≤ 2000 → KV (s.setO r (psO T fin d fi j n')) (enc a))
   (fun f=>∀ s1 o,s1.gx s r→s1.getO r=some o→Kp s1 (.iface 36 f.enc))→Den cx f (first++[]++caps) KV Kp (s.setO r (psO T fin d fi i n)))
  (i0 n0:Nat) (hQ:Q s0) (hi0:i0≤T.length) (hn0:n0≤2000)
  (hk : (listR fin (fun _ => one) [] (T.drop i0) n0).to
   (fun l w n=>∀ j,i0≤j→j≤T.length→T.drop j=w→n≤2000→KV (s0.setO r (psO T fin d fi j n)) (.list none (l.map enc)))
   (fun f=>∀ s1 o,s1.gx s0 r→s1.getO r=some o→Kp s1 (.iface 36 f.enc))):Den cx 222 [.ptr r 0,.fn f first caps] KV Kp (s0.setO r (psO T fin d fi i0 n0)):=by
 refine plist222_den (σ:=Unit) (X:=Unit) enc hz ho hT (fun s _ _ i n=>s.setO r (psO T fin d fi i n)) (fun s _ _ _=>Q s) (fun _ w n=>(one w n).bind fun a w n=>.ok ((),a) w n) f first caps
  (fun s _ _ i n=>⟨d,fi,by rw[gA1,if_pos rfl],by rw[setO_setO];exact St.ge.refl _⟩) (fun s _ _ i n t v h ht=>⟨ht,(hq s t v).2 h,St.ge.refl _⟩)
  (fun s _ _ i n t v u ht h=>⟨?_,(hq s t u).2 ((hq s t v).1 h),?_⟩) (fun s _ _ i n t v ht h=>⟨(hq s t v).1 h,?_⟩) (fun s _ _ i h=>h) (fun s _ _ i n h=>St.gx_r (gA8 s r)) (fun s _ _ i n KV Kp h hi hn hk=>?_) () () i0 n0 hQ hi0 hn0 ?_
 ·show (s.setT t v).getT t=some v;rw[gA4,if_pos rfl]
 ·show (((s.setT t v).setT t u).setO r _).ge ((s.setT t u).setO r _);exact St.ge_setO (St.setT_over s t v u)
 ·exact St.ge_setO (St.ge_freeT ht)
 ·refine hf s i n KV Kp h hi hn ?_;rw[Rd.bind_to] at hk;refine Rd.to_mono hk (fun a w n' h2 j hj hjT hw hn'=>?_) (fun _ h2=>h2);exact h2 j () hj hjT hw hn' h
 ·have:=loopR_unit fin [44] one ((T.drop i0).length+1) [] [] (T.drop i0) n0 _ _ hk;refine Rd.to_mono this (fun c w n h j y hj hjT hw hn' hQ'=>?_) (fun _ h2=>h2);have h':=h j hj hjT hw hn';simpa only[gD3] using h'
theorem plist150_den {σ α X:Type} (enc:α→A) (hz:∀ a,(enc a).cells.length=1) (ho:∀ a,allOne (enc a).cells=true)
  {T:List Tok} {fin:Fault} {s0:St} {r:Nat} {KV Kp:St→A→Prop} (hT:TOk T)
  (S:St→σ→X→Nat→Nat→St) (Q:St→σ→X→Nat→Prop) (one:σ→List Tok→Nat→Rd (σ × α)) (f:FuncId) (first caps:List A)
  (hr:∀ (s:St) (a:σ) (x:X) (i n:Nat),∃ d fi,(S s a x i n).getO r=some (psO T fin d fi i n)∧((S s a x i n).setO r (psO T fin d fi (i+1) n)).ge (S s a x (i+1) n))
  (h1:∀ (s:St) (a:σ) (x:X) (i n:Nat) (t:Nat) (v:Nat × TypeId),Q s a x i→(S s a x i n).getT t=none→s.getT t=none∧Q (s.setT t v) a x i∧((S s a x i n).setT t v).ge (S (s.setT t v) a x i n))
  (h2:∀ (s:St) (a:σ) (x:X) (i n:Nat) (t:Nat) (v u:Nat × TypeId),s.getT t=none→Q (s.setT t v) a x i→(S (s.setT t v) a x i n).getT t=some v∧Q (s.setT t u) a x i∧((S (s.setT t v) a x i n).setT t u).ge (S (s.setT t u) a x i n))
  (h3:∀ (s:St) (a:σ) (x:X) (i n:Nat) (t:Nat) (v:Nat × TypeId),s.getT t=none→Q (s.setT t v) a x i→Q s a x i∧(S (s.setT t v) a x i n).ge (S s a x i n))
  (hi:∀ (s:St) (a:σ) (x:X) (i:Nat),Q s a x i→Q s a x (i+1))
  (hg:∀ (s:St) (a:σ) (x:X) (i n:Nat),Q s a x i→(S s a x i n).gx s r)
  (hf : ∀ (s : St) (a : σ) (x : X) (i n : Nat) (KV Kp : St → A → Prop),Q s a x i → i ≤ T.length → n ≤ 2000 → (one a (T.drop i) n).to (fun p w n' => ∀ j y,i ≤ j → j ≤ T.length → T.drop j = w → n' ≤ 2000 → Q s p.1 y j → KV (S s p.1 y j n') (enc p.2))
   (fun f=>∀ s1 o,s1.gx s r→s1.getO r=some o→Kp s1 (.iface 36 f.enc))→Den cx f (first++[]++caps) KV Kp (S s a x i n))
  (a0:σ) (x0:X) (i0 n0:Nat) (hQ:Q s0 a0 x0 i0) (hi0:i0≤T.length) (hn0:n0≤2000)
  (hk : (loopR fin [44] (fun (c : σ × List α) w n => (one c.1 w n).bind fun p w n => .ok (p.1,c.2 ++ [p.2]) w n) ((T.drop i0).length + 1) (a0,[]) (T.drop i0) n0).to
   (fun c w n=>∀ j y,i0≤j→j≤T.length→T.drop j=w→n≤2000→Q s0 c.1 y j→KV (S s0 c.1 y j n) (.list none (c.2.map enc)))
   (fun f=>∀ s1 o,s1.gx s0 r→s1.getO r=some o→Kp s1 (.iface 36 f.enc))):Den cx 150 [.ptr r 0,.fn f first caps] KV Kp (S s0 a0 x0 i0 n0):=by
 (refine Den.drop ?_;refine den_cxo ?_;refine Den.of_body (C:=cxo) Tryz.func150 rfl rfl (gC6 rfl) ?_;refine wpC_ok (V:=[0,1,4,5,10]) _ _ _ _ ?_;simp only[go_sem,Tryz.ntmps150,Tryz.f150]);have hlenT:=hT.len;rw[show (T.drop i0).length=T.length-i0 by rw[gD4]] at hk;simp only[loopR,Rd.bind_to] at hk;refine to_cxo (hf s0 a0 x0 i0 n0 _ _ hQ hi0 hn0 (Rd.to_mono hk (fun p w n' h=>?_) (fun g h=>?_)))
 ·intro j y hj hjT hw hn' hQy;simp only[Rd.ok_to,gD3] at h;simp only[go_sem];refine .inr ⟨⟨hz _,ho _⟩,fun t ht=>?_⟩;obtain ⟨g1,g2,g3⟩:=h1 s0 p.1 y j n' t (1,9) hQy ht
  refine Ex.loop (ι:=(σ × X × Nat × Nat) × List α) (fun c=>[(0,.ptr r 0),(1,.fn f first caps),(5,.list (some t) (c.2.map enc))])
   (fun c=>S (s0.setT t (c.2.length,9)) c.1.1 c.1.2.1 c.1.2.2.1 c.1.2.2.2)
   (fun c => Q (s0.setT t (c.2.length,9)) c.1.1 c.1.2.1 c.1.2.2.1 ∧ i0 ≤ c.1.2.2.1 ∧ c.1.2.2.1 ≤ T.length ∧ c.1.2.2.2 ≤ 2000 ∧ c.2.length ≤ c.1.2.2.1 + 1 ∧ ∃ k,T.length - c.1.2.2.1 ≤ k ∧
    (if isT [44] (T.drop c.1.2.2.1) = true then loopR fin [44] (fun (c : σ × List α) w n => (one c.1 w n).bind fun p w n => .ok (p.1,c.2 ++ [p.2]) w n) k (c.1.1,c.2) (T.drop c.1.2.2.1).tail c.1.2.2.2
     else Rd.ok (c.1.1,c.2) (T.drop c.1.2.2.1) c.1.2.2.2).to
      (fun c w n=>∀ j y,i0≤j→j≤T.length→T.drop j=w→n≤2000→Q s0 c.1 y j→KV (S s0 c.1 y j n) (.list none (c.2.map enc)))
      (fun f=>∀ s1 o,s1.gx s0 r→s1.getO r=some o→Kp s1 (.iface 36 f.enc)))
   (fun c=>T.length-c.1.2.2.1) ((p.1,y,j,n'),[p.2]) ?_ ?_ ?_ ?_
  ·refine ⟨g2,hj,hjT,hn',by simp only[gC1,gC3];omega,T.length-i0,by simp only;omega,?_⟩;simp only[hw];exact h
  ·simp only[go_sem]
  ·exact g3
  ·rintro ⟨⟨a,x,i,n⟩,l⟩ ⟨q1,q2,q3,qn,q4,k,q5,q6⟩;simp only at q1 q2 q3 qn q4 q5 q6;obtain ⟨d,fi,hri,hst⟩:=hr (s0.setT t (l.length,9)) a x i n;refine wpC_ok (V:=[0,1,4,5,10]) _ _ _ _ ?_;simp only[go_sem];refine to_cxo (take_den _ hri q3 hT ?_);cases hx:isT [44] (T.drop i) with
   | false =>
    rw[hx] at q6;simp only[gD7,if_false,Rd.ok_to] at q6;obtain ⟨e1,e2⟩:=h3 s0 a x i n t (l.length,9) g1 q1;simp only[go_sem];exact DK.mk (q6 i x q2 q3 rfl qn e1) e2 (A.le.forget _ _)
   | true =>
    rw[hx] at q6;have hlt:=isT_lt hx;obtain ⟨k,rfl⟩:∃ k',k=k'+1:=⟨k-1,by omega⟩
    simp only[if_true,loopR,Rd.bind_to,Rd.ok_to,List.tail_drop] at q6;simp only[go_sem];refine to_cxo (Den.weaken hst (hf (s0.setT t (l.length,9)) a x (i+1) n _ _ (hi _ _ _ _ q1) hlt qn (Rd.to_mono q6 (fun p w n' h=>?_) (fun g h=>?_))))
    ·intro j y hj hjT hw hn' hQy;obtain ⟨e1,e2,e3⟩:=h2 s0 p.1 y j n' t (l.length,9) (l.length+1,9) g1 hQy;simp only[go_sem];refine .inl ⟨⟨hz _,ho _⟩,by decide,fun q hq=>?_,e1,fun q hq=>?_,by omega,((p.1,y,j,n'),l++[p.2]),⟨?_,by simp only;omega,hjT,hn',?_,k,by simp only;omega,?_⟩,by simp only;omega,?_,?_⟩
     ·simp only[List.mem_singleton] at hq;subst hq;exact hz _
     ·simp only[List.mem_map] at hq;obtain ⟨q',_,rfl⟩:=hq;exact hz _
     ·simp only[gC2,gC1,gC3];exact e2
     ·simp only[gC2,gC1,gC3];omega
     ·simp only[hw];exact h
     ·simp only[List.map_append,List.map_cons,List.map_nil]
     ·simp only[gC2,gC1,gC3];exact e3
    ·intro s1 o hg1 hr1;simp only[go_sem];exact DK.here (h s1 o (hg1.dropT g1) hr1)
 ·intro s1 o hg1 hr1;exact DK.here (h s1 o hg1 hr1)
theorem plists150_den {α:Type} (enc:α→A) (hz:∀ a,(enc a).cells.length=1) (ho:∀ a,allOne (enc a).cells=true)
  {T:List Tok} {fin:Fault} {d:Dc} {fi:Tok} {s0:St} {r:Nat} {KV Kp:St→A→Prop} (hT:TOk T)
  (Q:St→Prop) (hq:∀ (s:St) (t:Nat) (v:Nat × TypeId),Q (s.setT t v)↔Q s) (one:List Tok→Nat→Rd α) (f:FuncId) (first caps:List A)
  (hf : ∀ (s : St) (i n : Nat) (KV Kp : St → A → Prop),Q s → i ≤ T.length → n ≤ 2000 → (one (T.drop i) n).to (fun a w n' => ∀ j,i ≤ j → j ≤ T.length → T.drop j = w → n' ≤ 2000 → KV (s.setO r (psO T fin d fi j n')) (enc a))
   (fun f=>∀ s1 o,s1.gx s r→s1.getO r=some o→Kp s1 (.iface 36 f.enc))→Den cx f (first++[]++caps) KV Kp (s.setO r (psO T fin d fi i n)))
  (i0 n0:Nat) (hQ:Q s0) (hi0:i0≤T.length) (hn0:n0≤2000)
  (hk : (listR fin (fun _ => one) [] (T.drop i0) n0).to
   (fun l w n=>∀ j,i0≤j→j≤T.length→T.drop j=w→n≤2000→KV (s0.setO r (psO T fin d fi j n)) (.list none (l.map enc)))
   (fun f=>∀ s1 o,s1.gx s0 r→s1.getO r=some o→Kp s1 (.iface 36 f.enc))):Den cx 150 [.ptr r 0,.fn f first caps] KV Kp (s0.setO r (psO T fin d fi i0 n0)):=by
 refine plist150_den (σ:=Unit) (X:=Unit) enc hz ho hT (fun s _ _ i n=>s.setO r (psO T fin d fi i n)) (fun s _ _ _=>Q s) (fun _ w n=>(one w n).bind fun a w n=>.ok ((),a) w n) f first caps
  (fun s _ _ i n=>⟨d,fi,by rw[gA1,if_pos rfl],by rw[setO_setO];exact St.ge.refl _⟩) (fun s _ _ i n t v h ht=>⟨ht,(hq s t v).2 h,St.ge.refl _⟩)
  (fun s _ _ i n t v u ht h=>⟨?_,(hq s t u).2 ((hq s t v).1 h),?_⟩) (fun s _ _ i n t v ht h=>⟨(hq s t v).1 h,?_⟩) (fun s _ _ i h=>h) (fun s _ _ i n h=>St.gx_r (gA8 s r)) (fun s _ _ i n KV Kp h hi hn hk=>?_) () () i0 n0 hQ hi0 hn0 ?_
 ·show (s.setT t v).getT t=some v;rw[gA4,if_pos rfl]
 ·show (((s.setT t v).setT t u).setO r _).ge ((s.setT t u).setO r _);exact St.ge_setO (St.setT_over s t v u)
 ·exact St.ge_setO (St.ge_freeT ht)
 ·refine hf s i n KV Kp h hi hn ?_;rw[Rd.bind_to] at hk;refine Rd.to_mono hk (fun a w n' h2 j hj hjT hw hn'=>?_) (fun _ h2=>h2);exact h2 j () hj hjT hw hn' h
 ·have:=loopR_unit fin [44] one ((T.drop i0).length+1) [] [] (T.drop i0) n0 _ _ hk;refine Rd.to_mono this (fun c w n h j y hj hjT hw hn' hQ'=>?_) (fun _ h2=>h2);have h':=h j hj hjT hw hn';simpa only[gD3] using h'
theorem plist146_den {σ α X:Type} (enc:α→A) (hz:∀ a,(enc a).cells.length=1) (ho:∀ a,allOne (enc a).cells=true)
  {T:List Tok} {fin:Fault} {s0:St} {r:Nat} {KV Kp:St→A→Prop} (hT:TOk T)
  (S:St→σ→X→Nat→Nat→St) (Q:St→σ→X→Nat→Prop) (one:σ→List Tok→Nat→Rd (σ × α)) (f:FuncId) (first caps:List A)
  (hr:∀ (s:St) (a:σ) (x:X) (i n:Nat),∃ d fi,(S s a x i n).getO r=some (psO T fin d fi i n)∧((S s a x i n).setO r (psO T fin d fi (i+1) n)).ge (S s a x (i+1) n))
  (h1:∀ (s:St) (a:σ) (x:X) (i n:Nat) (t:Nat) (v:Nat × TypeId),Q s a x i→(S s a x i n).getT t=none→s.getT t=none∧Q (s.setT t v) a x i∧((S s a x i n).setT t v).ge (S (s.setT t v) a x i n))
  (h2:∀ (s:St) (a:σ) (x:X) (i n:Nat) (t:Nat) (v u:Nat × TypeId),s.getT t=none→Q (s.setT t v) a x i→(S (s.setT t v) a x i n).getT t=some v∧Q (s.setT t u) a x i∧((S (s.setT t v) a x i n).setT t u).ge (S (s.setT t u) a x i n))
  (h3:∀ (s:St) (a:σ) (x:X) (i n:Nat) (t:Nat) (v:Nat × TypeId),s.getT t=none→Q (s.setT t v) a x i→Q s a x i∧(S (s.setT t v) a x i n).ge (S s a x i n))
  (hi:∀ (s:St) (a:σ) (x:X) (i:Nat),Q s a x i→Q s a x (i+1))
  (hg:∀ (s:St) (a:σ) (x:X) (i n:Nat),Q s a x i→(S s a x i n).gx s r)
  (hf : ∀ (s : St) (a : σ) (x : X) (i n : Nat) (KV Kp : St → A → Prop),Q s a x i → i ≤ T.length → n ≤ 2000 → (one a (T.drop i) n).to (fun p w n' => ∀ j y,i ≤ j → j ≤ T.length → T.drop j = w → n' ≤ 2000 → Q s p.1 y j → KV (S s p.1 y j n') (enc p.2))
   (fun f=>∀ s1 o,s1.gx s r→s1.getO r=some o→Kp s1 (.iface 36 f.enc))→Den cx f (first++[]++caps) KV Kp (S s a x i n))
  (a0:σ) (x0:X) (i0 n0:Nat) (hQ:Q s0 a0 x0 i0) (hi0:i0≤T.length) (hn0:n0≤2000)
  (hk : (loopR fin [44] (fun (c : σ × List α) w n => (one c.1 w n).bind fun p w n => .ok (p.1,c.2 ++ [p.2]) w n) ((T.drop i0).length + 1) (a0,[]) (T.drop i0) n0).to
   (fun c w n=>∀ j y,i0≤j→j≤T.length→T.drop j=w→n≤2000→Q s0 c.1 y j→KV (S s0 c.1 y j n) (.list none (c.2.map enc)))
   (fun f=>∀ s1 o,s1.gx s0 r→s1.getO r=some o→Kp s1 (.iface 36 f.enc))):Den cx 146 [.ptr r 0,.fn f first caps] KV Kp (S s0 a0 x0 i0 n0):=by
 (refine Den.drop ?_;refine den_cxo ?_;refine Den.of_body (C:=cxo) Tryz.func146 rfl rfl (gC6 rfl) ?_;refine wpC_ok (V:=[0,1,4,5,10]) _ _ _ _ ?_;simp only[go_sem,Tryz.ntmps146,Tryz.f146]);have hlenT:=hT.len;rw[show (T.drop i0).length=T.length-i0 by rw[gD4]] at hk;simp only[loopR,Rd.bind_to] at hk;refine to_cxo (hf s0 a0 x0 i0 n0 _ _ hQ hi0 hn0 (Rd.to_mono hk (fun p w n' h=>?_) (fun g h=>?_)))
 ·intro j y hj hjT hw hn' hQy;simp only[Rd.ok_to,gD3] at h;simp only[go_sem];refine .inr ⟨⟨hz _,ho _⟩,fun t ht=>?_⟩;obtain ⟨g1,g2,g3⟩:=h1 s0 p.1 y j n' t (1,4) hQy ht
  refine Ex.loop (ι:=(σ × X × Nat × Nat) × List α) (fun c=>[(0,.ptr r 0),(1,.fn f first caps),(5,.list (some t) (c.2.map enc))])
   (fun c=>S (s0.setT t (c.2.length,4)) c.1.1 c.1.2.1 c.1.2.2.1 c.1.2.2.2)
   (fun c => Q (s0.setT t (c.2.length,4)) c.1.1 c.1.2.1 c.1.2.2.1 ∧ i0 ≤ c.1.2.2.1 ∧ c.1.2.2.1 ≤ T.length ∧ c.1.2.2.2 ≤ 2000 ∧ c.2.length ≤ c.1.2.2.1 + 1 ∧ ∃ k,T.length - c.1.2.2.1 ≤ k ∧
    (if isT [44] (T.drop c.1.2.2.1) = true then loopR fin [44] (fun (c : σ × List α) w n => (one c.1 w n).bind fun p w n => .ok (p.1,c.2 ++ [p.2]) w n) k (c.1.1,c.2) (T.drop c.1.2.2.1).tail c.1.2.2.2
     else Rd.ok (c.1.1,c.2) (T.drop c.1.2.2.1) c.1.2.2.2).to
      (fun c w n=>∀ j y,i0≤j→j≤T.length→T.drop j=w→n≤2000→Q s0 c.1 y j→KV (S s0 c.1 y j n) (.list none (c.2.map enc)))
      (fun f=>∀ s1 o,s1.gx s0 r→s1.getO r=some o→Kp s1 (.iface 36 f.enc)))
   (fun c=>T.length-c.1.2.2.1) ((p.1,y,j,n'),[p.2]) ?_ ?_ ?_ ?_
  ·refine ⟨g2,hj,hjT,hn',by simp only[gC1,gC3];omega,T.length-i0,by simp only;omega,?_⟩;simp only[hw];exact h
  ·simp only[go_sem]
  ·exact g3
  ·rintro ⟨⟨a,x,i,n⟩,l⟩ ⟨q1,q2,q3,qn,q4,k,q5,q6⟩;simp only at q1 q2 q3 qn q4 q5 q6;obtain ⟨d,fi,hri,hst⟩:=hr (s0.setT t (l.length,4)) a x i n;refine wpC_ok (V:=[0,1,4,5,10]) _ _ _ _ ?_;simp only[go_sem];refine to_cxo (take_den _ hri q3 hT ?_);cases hx:isT [44] (T.drop i) with
   | false =>
    rw[hx] at q6;simp only[gD7,if_false,Rd.ok_to] at q6;obtain ⟨e1,e2⟩:=h3 s0 a x i n t (l.length,4) g1 q1;simp only[go_sem];exact DK.mk (q6 i x q2 q3 rfl qn e1) e2 (A.le.forget _ _)
   | true =>
    rw[hx] at q6;have hlt:=isT_lt hx;obtain ⟨k,rfl⟩:∃ k',k=k'+1:=⟨k-1,by omega⟩
    simp only[if_true,loopR,Rd.bind_to,Rd.ok_to,List.tail_drop] at q6;simp only[go_sem];refine to_cxo (Den.weaken hst (hf (s0.setT t (l.length,4)) a x (i+1) n _ _ (hi _ _ _ _ q1) hlt qn (Rd.to_mono q6 (fun p w n' h=>?_) (fun g h=>?_))))
    ·intro j y hj hjT hw hn' hQy;obtain ⟨e1,e2,e3⟩:=h2 s0 p.1 y j n' t (l.length,4) (l.length+1,4) g1 hQy;simp only[go_sem];refine .inl ⟨⟨hz _,ho _⟩,by decide,fun q hq=>?_,e1,fun q hq=>?_,by omega,((p.1,y,j,n'),l++[p.2]),⟨?_,by simp only;omega,hjT,hn',?_,k,by simp only;omega,?_⟩,by simp only;omega,?_,?_⟩
     ·simp only[List.mem_singleton] at hq;subst hq;exact hz _
     ·simp only[List.mem_map] at hq;obtain ⟨q',_,rfl⟩:=hq;exact hz _
     ·simp only[gC2,gC1,gC3];exact e2
     ·simp only[gC2,gC1,gC3];omega
     ·simp only[hw];exact h
     ·simp only[List.map_append,List.map_cons,List.map_nil]
     ·simp only[gC2,gC1,gC3];exact e3
    ·intro s1 o hg1 hr1;simp only[go_sem];exact DK.here (h s1 o (hg1.dropT g1) hr1)
 ·intro s1 o hg1 hr1;exact DK.here (h s1 o hg1 hr1)
theorem plist282_den {σ α X:Type} (enc:α→A) (hz:∀ a,(enc a).cells.length=1) (ho:∀ a,allOne (enc a).cells=true)
  {T:List Tok} {fin:Fault} {s0:St} {r:Nat} {KV Kp:St→A→Prop} (hT:TOk T)
  (S:St→σ→X→Nat→Nat→St) (Q:St→σ→X→Nat→Prop) (one:σ→List Tok→Nat→Rd (σ × α)) (f:FuncId) (first caps:List A)
  (hr:∀ (s:St) (a:σ) (x:X) (i n:Nat),∃ d fi,(S s a x i n).getO r=some (psO T fin d fi i n)∧((S s a x i n).setO r (psO T fin d fi (i+1) n)).ge (S s a x (i+1) n))
  (h1:∀ (s:St) (a:σ) (x:X) (i n:Nat) (t:Nat) (v:Nat × TypeId),Q s a x i→(S s a x i n).getT t=none→s.getT t=none∧Q (s.setT t v) a x i∧((S s a x i n).setT t v).ge (S (s.setT t v) a x i n))
  (h2:∀ (s:St) (a:σ) (x:X) (i n:Nat) (t:Nat) (v u:Nat × TypeId),s.getT t=none→Q (s.setT t v) a x i→(S (s.setT t v) a x i n).getT t=some v∧Q (s.setT t u) a x i∧((S (s.setT t v) a x i n).setT t u).ge (S (s.setT t u) a x i n))
  (h3:∀ (s:St) (a:σ) (x:X) (i n:Nat) (t:Nat) (v:Nat × TypeId),s.getT t=none→Q (s.setT t v) a x i→Q s a x i∧(S (s.setT t v) a x i n).ge (S s a x i n))
  (hi:∀ (s:St) (a:σ) (x:X) (i:Nat),Q s a x i→Q s a x (i+1))
  (hg:∀ (s:St) (a:σ) (x:X) (i n:Nat),Q s a x i→(S s a x i n).gx s r)
  (hf : ∀ (s : St) (a : σ) (x : X) (i n : Nat) (KV Kp : St → A → Prop),Q s a x i → i ≤ T.length → n ≤ 2000 → (one a (T.drop i) n).to (fun p w n' => ∀ j y,i ≤ j → j ≤ T.length → T.drop j = w → n' ≤ 2000 → Q s p.1 y j → KV (S s p.1 y j n') (enc p.2))
   (fun f=>∀ s1 o,s1.gx s r→s1.getO r=some o→Kp s1 (.iface 36 f.enc))→Den cx f (first++[]++caps) KV Kp (S s a x i n))
  (a0:σ) (x0:X) (i0 n0:Nat) (hQ:Q s0 a0 x0 i0) (hi0:i0≤T.length) (hn0:n0≤2000)
  (hk : (loopR fin [44] (fun (c : σ × List α) w n => (one c.1 w n).bind fun p w n => .ok (p.1,c.2 ++ [p.2]) w n) ((T.drop i0).length + 1) (a0,[]) (T.drop i0) n0).to
   (fun c w n=>∀ j y,i0≤j→j≤T.length→T.drop j=w→n≤2000→Q s0 c.1 y j→KV (S s0 c.1 y j n) (.list none (c.2.map enc)))
   (fun f=>∀ s1 o,s1.gx s0 r→s1.getO r=some o→Kp s1 (.iface 36 f.enc))):Den cx 282 [.ptr r 0,.fn f first caps] KV Kp (S s0 a0 x0 i0 n0):=by
 (refine Den.drop ?_;refine den_cxo ?_;refine Den.of_body (C:=cxo) Tryz.func282 rfl rfl (gC6 rfl) ?_;refine wpC_ok (V:=[0,1,4,5,10]) _ _ _ _ ?_;simp only[go_sem,Tryz.ntmps282,Tryz.f282]);have hlenT:=hT.len;rw[show (T.drop i0).length=T.length-i0 by rw[gD4]] at hk;simp only[loopR,Rd.bind_to] at hk;refine to_cxo (hf s0 a0 x0 i0 n0 _ _ hQ hi0 hn0 (Rd.to_mono hk (fun p w n' h=>?_) (fun g h=>?_)))
 ·intro j y hj hjT hw hn' hQy;simp only[Rd.ok_to,gD3] at h;simp only[go_sem];refine .inr ⟨⟨hz _,ho _⟩,fun t ht=>?_⟩;obtain ⟨g1,g2,g3⟩:=h1 s0 p.1 y j n' t (1,3) hQy ht
  refine Ex.loop (ι:=(σ × X × Nat × Nat) × List α) (fun c=>[(0,.ptr r 0),(1,.fn f first caps),(5,.list (some t) (c.2.map enc))])
   (fun c=>S (s0.setT t (c.2.length,3)) c.1.1 c.1.2.1 c.1.2.2.1 c.1.2.2.2)
   (fun c => Q (s0.setT t (c.2.length,3)) c.1.1 c.1.2.1 c.1.2.2.1 ∧ i0 ≤ c.1.2.2.1 ∧ c.1.2.2.1 ≤ T.length ∧ c.1.2.2.2 ≤ 2000 ∧ c.2.length ≤ c.1.2.2.1 + 1 ∧ ∃ k,T.length - c.1.2.2.1 ≤ k ∧
    (if isT [44] (T.drop c.1.2.2.1) = true then loopR fin [44] (fun (c : σ × List α) w n => (one c.1 w n).bind fun p w n => .ok (p.1,c.2 ++ [p.2]) w n) k (c.1.1,c.2) (T.drop c.1.2.2.1).tail c.1.2.2.2
     else Rd.ok (c.1.1,c.2) (T.drop c.1.2.2.1) c.1.2.2.2).to
      (fun c w n=>∀ j y,i0≤j→j≤T.length→T.drop j=w→n≤2000→Q s0 c.1 y j→KV (S s0 c.1 y j n) (.list none (c.2.map enc)))
      (fun f=>∀ s1 o,s1.gx s0 r→s1.getO r=some o→Kp s1 (.iface 36 f.enc)))
   (fun c=>T.length-c.1.2.2.1) ((p.1,y,j,n'),[p.2]) ?_ ?_ ?_ ?_
  ·refine ⟨g2,hj,hjT,hn',by simp only[gC1,gC3];omega,T.length-i0,by simp only;omega,?_⟩;simp only[hw];exact h
  ·simp only[go_sem]
  ·exact g3
  ·rintro ⟨⟨a,x,i,n⟩,l⟩ ⟨q1,q2,q3,qn,q4,k,q5,q6⟩;simp only at q1 q2 q3 qn q4 q5 q6;obtain ⟨d,fi,hri,hst⟩:=hr (s0.setT t (l.length,3)) a x i n;refine wpC_ok (V:=[0,1,4,5,10]) _ _ _ _ ?_;simp only[go_sem];refine to_cxo (take_den _ hri q3 hT ?_);cases hx:isT [44] (T.drop i) with
   | false =>
    rw[hx] at q6;simp only[gD7,if_false,Rd.ok_to] at q6;obtain ⟨e1,e2⟩:=h3 s0 a x i n t (l.length,3) g1 q1;simp only[go_sem];exact DK.mk (q6 i x q2 q3 rfl qn e1) e2 (A.le.forget _ _)
   | true =>
    rw[hx] at q6;have hlt:=isT_lt hx;obtain ⟨k,rfl⟩:∃ k',k=k'+1:=⟨k-1,by omega⟩
    simp only[if_true,loopR,Rd.bind_to,Rd.ok_to,List.tail_drop] at q6;simp only[go_sem];refine to_cxo (Den.weaken hst (hf (s0.setT t (l.length,3)) a x (i+1) n _ _ (hi _ _ _ _ q1) hlt qn (Rd.to_mono q6 (fun p w n' h=>?_) (fun g h=>?_))))
    ·intro j y hj hjT hw hn' hQy;obtain ⟨e1,e2,e3⟩:=h2 s0 p.1 y j n' t (l.length,3) (l.length+1,3) g1 hQy;simp only[go_sem];refine .inl ⟨⟨hz _,ho _⟩,by decide,fun q hq=>?_,e1,fun q hq=>?_,by omega,((p.1,y,j,n'),l++[p.2]),⟨?_,by simp only;omega,hjT,hn',?_,k,by simp only;omega,?_⟩,by simp only;omega,?_,?_⟩
     ·simp only[List.mem_singleton] at hq;subst hq;exact hz _
     ·simp only[List.mem_map] at hq;obtain ⟨q',_,rfl⟩:=hq;exact hz _
     ·simp only[gC2,gC1,gC3];exact e2
     ·simp only[gC2,gC1,gC3];omega
     ·simp only[hw];exact h
     ·simp only[List.map_append,List.map_cons,List.map_nil]
     ·simp only[gC2,gC1,gC3];exact e3
    ·intro s1 o hg1 hr1;simp only[go_sem];exact DK.here (h s1 o (hg1.dropT g1) hr1)
 ·intro s1 o hg1 hr1;exact DK.here (h s1 o hg1 hr1)
theorem plists282_den {α:Type} (enc:α→A) (hz:∀ a,(enc a).cells.length=1) (ho:∀ a,allOne (enc a).cells=true)
  {T:List Tok} {fin:Fault} {d:Dc} {fi:Tok} {s0:St} {r:Nat} {KV Kp:St→A→Prop} (hT:TOk T)
  (Q:St→Prop) (hq:∀ (s:St) (t:Nat) (v:Nat × TypeId),Q (s.setT t v)↔Q s) (one:List Tok→Nat→Rd α) (f:FuncId) (first caps:List A)
  (hf : ∀ (s : St) (i n : Nat) (KV Kp : St → A → Prop),Q s → i ≤ T.length → n ≤ 2000 → (one (T.drop i) n).to (fun a w n' => ∀ j,i ≤ j → j ≤ T.length → T.drop j = w → n' ≤ 2000 → KV (s.setO r (psO T fin d fi j n')) (enc a))
   (fun f=>∀ s1 o,s1.gx s r→s1.getO r=some o→Kp s1 (.iface 36 f.enc))→Den cx f (first++[]++caps) KV Kp (s.setO r (psO T fin d fi i n)))
  (i0 n0:Nat) (hQ:Q s0) (hi0:i0≤T.length) (hn0:n0≤2000)
  (hk : (listR fin (fun _ => one) [] (T.drop i0) n0).to
   (fun l w n=>∀ j,i0≤j→j≤T.length→T.drop j=w→n≤2000→KV (s0.setO r (psO T fin d fi j n)) (.list none (l.map enc)))
   (fun f=>∀ s1 o,s1.gx s0 r→s1.getO r=some o→Kp s1 (.iface 36 f.enc))):Den cx 282 [.ptr r 0,.fn f first caps] KV Kp (s0.setO r (psO T fin d fi i0 n0)):=by
 refine plist282_den (σ:=Unit) (X:=Unit) enc hz ho hT (fun s _ _ i n=>s.setO r (psO T fin d fi i n)) (fun s _ _ _=>Q s) (fun _ w n=>(one w n).bind fun a w n=>.ok ((),a) w n) f first caps
  (fun s _ _ i n=>⟨d,fi,by rw[gA1,if_pos rfl],by rw[setO_setO];exact St.ge.refl _⟩) (fun s _ _ i n t v h ht=>⟨ht,(hq s t v).2 h,St.ge.refl _⟩)
  (fun s _ _ i n t v u ht h=>⟨?_,(hq s t u).2 ((hq s t v).1 h),?_⟩) (fun s _ _ i n t v ht h=>⟨(hq s t v).1 h,?_⟩) (fun s _ _ i h=>h) (fun s _ _ i n h=>St.gx_r (gA8 s r)) (fun s _ _ i n KV Kp h hi hn hk=>?_) () () i0 n0 hQ hi0 hn0 ?_
 ·show (s.setT t v).getT t=some v;rw[gA4,if_pos rfl]
 ·show (((s.setT t v).setT t u).setO r _).ge ((s.setT t u).setO r _);exact St.ge_setO (St.setT_over s t v u)
 ·exact St.ge_setO (St.ge_freeT ht)
 ·refine hf s i n KV Kp h hi hn ?_;rw[Rd.bind_to] at hk;refine Rd.to_mono hk (fun a w n' h2 j hj hjT hw hn'=>?_) (fun _ h2=>h2);exact h2 j () hj hjT hw hn' h
 ·have:=loopR_unit fin [44] one ((T.drop i0).length+1) [] [] (T.drop i0) n0 _ _ hk;refine Rd.to_mono this (fun c w n h j y hj hjT hw hn' hQ'=>?_) (fun _ h2=>h2);have h':=h j hj hjT hw hn';simpa only[gD3] using h'
theorem hf_of {α:Type} {enc:α→A} {T:List Tok} {fin:Fault} {d:Dc} {fi:Tok} {r:Nat} {Q:St→Prop} {one:List Tok→Nat→Rd α} {f:FuncId} {args:List A} (hQr:∀ (s:St) (o:Ob),Q s→Q (s.setO r o))
  (h:∀ (s:St) (i n:Nat) (KV Kp:St→A→Prop),s.getO r=some (psO T fin d fi i n)→Q s→i≤T.length→n≤2000→(one (T.drop i) n).to (PK T i (fun j m=>s.setO r (psO T fin d fi j m)) enc KV) (PB s r Kp)→Den cx f args KV Kp s) :
  ∀ (s:St) (i n:Nat) (KV Kp:St→A→Prop),Q s→i≤T.length→n≤2000→(one (T.drop i) n).to (fun a w n'=>∀ j,i≤j→j≤T.length→T.drop j=w→n'≤2000→KV (s.setO r (psO T fin d fi j n')) (enc a))
   (fun f=>∀ s1 o,s1.gx s r→s1.getO r=some o→Kp s1 (.iface 36 f.enc))→Den cx f args KV Kp (s.setO r (psO T fin d fi i n)):=by
 intro s i n KV Kp hQ hi hn hk;refine h (s.setO r _) i n KV Kp (by rw[gA1,if_pos rfl]) (hQr s _ hQ) hi hn (Rd.to_mono hk (fun a w m h j hj hjT hw hm=>?_) (fun f h o=>?_))
 ·simp only[setO_setO];exact h j hj hjT hw hm
 ·exact h _ o (St.gx_r (St.gx_r (gA8 s r))) (by rw[gA1,if_pos rfl])
end Go.AV
end
section
namespace Go.AV
open Go Go.Proofs
theorem isId_den (s:St) (x:Str) (KV Kp) (hk:KV s (.bool (isId x))):Den cx 240 [.str x] KV Kp s:=by
 refine Den.drop ?_;(refine Den.of_body (C:=cx) Tryz.func240 rfl rfl (gC6 rfl) ?_;refine wpC_ok (V:=[0,2]) _ _ _ _ ?_;simp only[go_sem,Tryz.ntmps240,Tryz.f240]);refine isName_den _ _ _ _ ?_;simp only[go_sem];cases hn:isName x with
 | false =>
  simp only[go_sem];rw[show isId x=false by simp[isId,hn]] at hk;exact DK.here hk
 | true =>
  cases x with
  | nil=>simp[isName] at hn
  | cons c r =>
   have e97:decide ((97:Int)≤(c.toNat:Int))=decide (97≤c.toNat):=by rw[decide_eq_decide];omega
   have e122:decide ((c.toNat:Int)≤122)=decide (c.toNat≤122):=by rw[decide_eq_decide];omega
   rw[show isId (c::r)=((decide (97≤c.toNat)&&decide (c.toNat≤122))&&!decide (c::r=[116,114,117,101])&&!decide (c::r=[102,97,108,115,101])) by simp[isId,hn]] at hk;cases h1:decide (97≤c.toNat)<;>cases h2:decide (c.toNat≤122)<;>cases h3:decide (c::r=[116,114,117,101])<;>cases h4:decide (c::r=[102,97,108,115,101])<;>simp only[go_sem,e97,e122,h1,h2,h3,h4]
   all_goals (rw[h1,h2,h3,h4] at hk;exact DK.here hk)
section
variable {T:List Tok} {fin:Fault} {d:Dc} {first:Tok} {i n:Nat} {s:St} {r:Nat} {KV Kp:St→A→Prop}
theorem PB.mk {s1:St} {f:Fault} (hg:s1.gx s r) (h:PB s r Kp f):PB s1 r (DK Kp) f:=fun o=>h.at (St.gx_r hg) (by rw[gA1,if_pos rfl])
theorem rest_den (deep:Nat) (sort:Str) (hr:s.getO r=some (psO T fin d first i n)) (hi:i≤T.length) (hT:TOk T) (hn:n≤2000)
  (hk:(restR fin first (decide (deep=60)) sort (T.drop i) n).to (PK T i (fun j m=>s.setO r (psO T fin d first j m)) (fun l=>.list none (l.map Tm.enc)) KV) (PB s r Kp)) :
  Den cx 242 [.ptr r 0,.int .i64 deep,.str sort] KV Kp s:=by
 refine Den.drop ?_;(refine Den.of_body (C:=cx) Tryz.func242 rfl rfl (gC6 rfl) ?_;refine wpC_ok (V:=[0,1,2,6,7,8,11,17]) _ _ _ _ ?_;simp only[go_sem,Tryz.ntmps242,Tryz.f242]);refine take_den _ hr hi hT ?_;cases hx:isT [124] (T.drop i) with
 | false =>
  simp only[restR,hx,gD7,if_false,Rd.ok_to] at hk;simp only[go_sem];exact DK.mk (hk i (Nat.le_refl _) hi rfl hn) (St.ge_same hr) A.le.nil
 | true =>
  have hlt:=isT_lt hx;simp only[restR,hx,if_true,List.tail_drop] at hk;simp only[go_sem];have hr1:(s.setO r (psO T fin d first (i+1) n)).getO r=some (psO T fin d first (i+1) n):=by rw[gA1,if_pos rfl]
  refine peek_den hr1 hlt ?_;cases hw:T.drop (i+1) with
  | nil=>rw[hw] at hk;exact PB.at hk (by (repeat (first|exact gA8 _ _|refine St.gx_r ?_))) hr1
  | cons t w =>
   rw[hw] at hk;obtain ⟨h1,h2,h3,h4⟩:=drop_get hw;simp only at hk;simp only[go_sem];(intro b hb;try simp only[gD6,ne_eq] at hb);have hr2:((s.setO r (psO T fin d first (i+1) n)).setO b (.cells 60 t.cs)).getO r=some (psO T fin d first (i+1) n):=by rw[gA1,if_neg (Ne.symm hb.1.1),hr1]
   simp only[go_sem,hb];refine name_den hr2 (Nat.le_of_lt h2) hT ?_;rw[hw];simp only[nameR];cases hf:t.free with
   | false =>
    rw[hf] at hk;simp only[gD7,if_false,Rd.bad_to] at hk ⊢;exact PB.mk (by (repeat (first|exact gA8 _ _|refine St.gx_r ?_|refine gA7 (by first|simp only[hb]|assumption) ?_|refine St.gx_T (by first|simp only[hb]|assumption) ?_))) hk
   | true =>
    rw[hf] at hk;simp only[if_true,Rd.ok_to] at hk ⊢;intro hle hw2 _;simp only[go_sem];have ed:decide ((deep:Int)=60)=decide (deep=60):=by rw[decide_eq_decide];omega
    simp only[go_sem,ed];cases hd:decide (deep=60) with
    | true =>
     rw[hd] at hk;simp only[if_true,Rd.bad_to] at hk;simp only[go_sem,hb];exact PB.at (f:=⟨19,t.text,t.line,t.col⟩) hk (by (repeat (first|exact gA8 _ _|refine St.gx_r ?_|refine gA7 (by first|simp only[hb]|assumption) ?_|refine St.gx_T (by first|simp only[hb]|assumption) ?_))) (by rw[gA1,if_pos rfl]<;>rfl)
    | false =>
     rw[hd] at hk;simp only[gD7,if_false,Rd.bind_to] at hk;simp only[go_sem,hb];refine node_den (T:=T) (fin:=fin) (d:=d) (first:=first) (i:=i+1+1) (n:=n) (by rw[gA1,if_pos rfl]<;>rfl) hn ?_;rw[hw2];refine Rd.to_mono hk (fun _ w2 n2 h=>?_) (fun f h=>PB.mk (by (repeat (first|exact gA8 _ _|refine St.gx_r ?_|refine gA7 (by first|simp only[hb]|assumption) ?_|refine St.gx_T (by first|simp only[hb]|assumption) ?_))) h);intro e1 e2;subst e1;simp only[Rd.ok_to] at h;simp only[go_sem];refine DK.mk (h (i+1+1) (by omega) hle hw2 e2) (St.gx.ge (by (repeat (first|exact gA8 _ _|refine St.gx_r ?_|refine gA7 (by first|simp only[hb]|assumption) ?_|refine St.gx_T (by first|simp only[hb]|assumption) ?_))) (by rw[gA1,if_pos rfl]<;>rfl)) ?_;exact A.le.list ⟨by simp only[List.map,Tm.enc_eq,A.cells,lesC,Tm.cs];exact ⟨⟨A.le.refl _,rfl⟩,⟨A.le.refl _,rfl⟩,⟨A.le.refl _,rfl⟩,⟨A.le.refl _,rfl⟩,⟨A.le.nil,rfl⟩,⟨A.le.nil,rfl⟩,trivial⟩,trivial⟩
end
end Go.AV
end
section
namespace Go.AV
open Go Go.Proofs
def TermOk (T:List Tok) (fin:Fault) (r k:Nat):Prop:=∀ (s:St) (d:Dc) (first:Tok) (i n:Nat) (KV Kp:St→A→Prop),s.getO r=some (psO T fin d first i n)→i≤T.length→n≤2000 →
 (termR false fin first k (T.drop i) n).to (PK T (i+1) (fun j m=>s.setO r (psO T fin d first j m)) Tm.enc KV) (PB s r Kp)→Den cx 92 [.ptr r 0,.int .i64 ((61-k:Nat):Int)] KV Kp s
theorem Tm.hz (a:Tm):a.enc.cells.length=6:=by rw[Tm.enc_eq];rfl
theorem Tm.ho (a:Tm):allOne a.enc.cells=true:=by rw[Tm.enc_eq];rfl
theorem Tm.le_leaf (k n:Int) (x y:Str):A.le (.agg [.int .i64 k,.int .i64 n,.str x,.str y,.nils,.nils]) (Tm.enc (.mk k n x y [] [])):=by
 rw[Tm.enc_eq];exact A.le.agg ⟨⟨A.le.refl _,rfl⟩,⟨A.le.refl _,rfl⟩,⟨A.le.refl _,rfl⟩,⟨A.le.refl _,rfl⟩,⟨A.le.nil,rfl⟩,⟨A.le.nil,rfl⟩,trivial⟩
section
variable {T:List Tok} {fin:Fault} {d:Dc} {first:Tok} {i n:Nat} {s:St} {r:Nat} {KV Kp:St→A→Prop}
theorem signed1_den (k:Nat) (hk60:k≤60) (IH:TermOk T fin r k) (b3 b5:Nat) (h3:s.getO b3=some (.cells 74 [.ptr r 0])) (h5:s.getO b5=some (.cells 3 [.int .i64 ((60-k:Nat):Int)]))
  (hr:s.getO r=some (psO T fin d first i n)) (hi:i≤T.length) (hn:n≤2000)
  (hk:(termR false fin first k (T.drop i) n).to (PK T (i+1) (fun j m=>s.setO r (psO T fin d first j m)) Tm.enc KV) (PB s r Kp)):Den cx 241 [.ptr b3 0,.ptr b5 0] KV Kp s:=by
 refine Den.drop ?_;(refine Den.of_body (C:=cx) Tryz.func241 rfl rfl (gC6 rfl) ?_;refine wpC_ok (V:=[0,1,2]) _ _ _ _ ?_;simp only[go_sem,Tryz.ntmps241,Tryz.f241]);(intro b hb;try simp only[gD6,ne_eq] at hb);have e3:=St.ne_of h3 hb;have e5:=St.ne_of h5 hb;have er:=St.ne_of hr hb;have ed:IntKind.i64.wrap (((60-k:Nat):Int)+1)=((61-k:Nat):Int):=by rw[wrap1 _ (by omega)];congr 1;omega
 simp only[go_sem,hb,e3,e5,h3,h5,ed];refine IH _ d first i n _ _ (by rw[gA1,if_neg er.2];exact hr) hi hn (Rd.to_mono hk (fun a w m h j hj hjT hw hm=>?_) (fun f h=>PB.mk (by (repeat (first|exact gA8 _ _|refine St.gx_r ?_|refine gA7 (by first|simp only[hb]|assumption) ?_|refine St.gx_T (by first|simp only[hb]|assumption) ?_))) h))
 have h':=h j hj hjT hw hm;simp only at h';rw[Tm.enc_eq] at h';simp only[go_sem,hb,er];exact DK.st h' (St.gx.ge (by (repeat (first|exact gA8 _ _|refine St.gx_r ?_|refine gA7 (by first|simp only[hb]|assumption) ?_|refine St.gx_T (by first|simp only[hb]|assumption) ?_))) (by rw[gA1,if_neg er.2,gA1,if_pos rfl]<;>rfl))
end
end Go.AV
end
section
namespace Go.AV
open Go Go.Proofs
section
variable {T:List Tok} {fin:Fault} {d:Dc} {first:Tok} {i n:Nat} {s:St} {r:Nat} {KV Kp:St→A→Prop}
structure EntQ (b2 b3 q r k:Nat) (s:St) (acc:List Tm) (tk:Option Nat) (i:Nat):Prop where
 len:acc.length≤i
 h2:s.getO b2=some (.cells 74 [.ptr r 0])
 h3:s.getO b3=some (.cells 3 [.int .i64 ((60-k:Nat):Int)])
 hq:s.getO q=none
 ne:q≠r∧q≠b2∧q≠b3∧r≠b2∧r≠b3
 nil:tk=none→acc=[]
 free:∀ t,tk=some t→s.getT t=none
def entS (T:List Tok) (fin:Fault) (d:Dc) (first:Tok) (kind:Int) (x:Str) (q r:Nat) (s:St) (acc:List Tm) (tk:Option Nat) (i n:Nat):St :=
 gs ((s.setO q (.cells 43 [.int .i64 kind,.int .i64 0,.str x,.str [],gv tk (acc.map Tm.enc),.nils])).setO r (psO T fin d first i n)) tk acc.length 43
theorem ent1_den (k b2 b3 q:Nat) (hk60:k≤60) (IH:TermOk T fin r k) (hT:TOk T) (acc:List Tm) (tk:Option Nat) (hQ:EntQ b2 b3 q r k s acc tk i) (hi:i≤T.length) (hn:n≤2000)
  (hk : (entR fin (termR false fin first k) acc (T.drop i) n).to (fun a w n' => ∀ j y,i ≤ j → j ≤ T.length → T.drop j = w → n' ≤ 2000 → EntQ b2 b3 q r k s a y j → KV (entS T fin d first 8 [] q r s a y j n') (.bool true))
   (fun f=>∀ s1 o,s1.gx s r→s1.getO r=some o→Kp s1 (.iface 36 f.enc))):Den cx 286 [.ptr q 0,.ptr b2 0,.ptr b3 0] KV Kp (entS T fin d first 8 [] q r s acc tk i n):=by
 obtain ⟨hac,h2,h3,hq,⟨n1,n2,n3,n4,n5⟩,hnil,hfree⟩:=hQ;have hlen:=hT.len;have ed:IntKind.i64.wrap (((60-k:Nat):Int)+1)=((61-k:Nat):Int):=by rw[wrap1 _ (by omega)];congr 1;omega
 have hg:gok (entS T fin d first 8 [] q r s acc tk i n) tk (acc.map Tm.enc).length 43:=by rw[gC4];exact gs_ok fun e=>by rw[hnil e];rfl
 refine Den.keepL ?_;refine Den.drop ?_;(refine Den.of_body (C:=cx) Tryz.func286 rfl rfl (gC6 rfl) ?_;refine wpC_ok (V:=[0,1,2,3]) _ _ _ _ ?_;simp only[go_sem,Tryz.ntmps286,Tryz.f286]);unfold entS;simp only[entR,Rd.bind_to] at hk;cases tk with
 | none =>
  obtain rfl:=hnil rfl;simp only[gv_none];(refine draw_ok (V:=[0,1,2,3]) (OT.l [0,1,2,3,4,6,7,5,8,9,11] (.pair 10 12)) [(5,[1])] mixed_cx (by decide +kernel) ?_;simp only[go_sem,n1,n2,n3,n4,n5,n1.symm,n2.symm,n3.symm,n4.symm,n5.symm,h2,h3,ed]);refine IH _ d first i n _ _ (by rw[gA6,gA1,if_pos rfl]<;>rfl) hi hn (Rd.to_mono hk (fun kk w m hk2 j hj hjT hw hm=>?_) (fun f h o=>?_))
  rotate_left
  ·simp only[go_sem];exact DK.here (h _ _ (St.gx_setL (St.gx_gs (St.gx_r (gA7 hq (gA8 s r))) hfree) rfl) (by rw[gA2,gA6,gA1,if_pos rfl]<;>rfl))
  simp only[go_sem,n1,n2,n3,n4,n5,n1.symm,n2.symm,n3.symm,n4.symm,n5.symm,h2,h3,ed,Tm.hz];refine ⟨by decide,?_⟩;intro t ht;refine ⟨rfl,?_⟩;have hft:s.getT t=none:=ht;subst hw;refine Den.weaken pen_ge_none ?_;refine want_den (T:=T) (fin:=fin) (d:=d) (first:=first) (i:=j) (n:=m) _ (by simp only[gA2,gA6,gA1,ne_eq,reduceIte,n1,gA9]<;>(first|done|rfl)) hjT hT (Rd.to_mono hk2 (fun _ w2 m2 hk3 hlt hw2 hm2=>?_) (fun f h o=>?_));rotate_left
  ·simp only[go_sem];exact DK.here (h _ o (by repeat (first|exact gA8 _ _|refine St.gx_setL2 ?_ rfl|refine St.gx_setL ?_ rfl|refine St.gx_gs ?_ (fun _ e=>by cases e;assumption)|refine St.gx_r ?_|refine gA7 hq ?_)) (by simp only[gA2,gA6,gA1,ne_eq,reduceIte,n1,gA9]<;>(first|done|rfl)))
  subst hw2 hm2;simp only[go_sem,n1,n2,n3,n4,n5,n1.symm,n2.symm,n3.symm,n4.symm,n5.symm,h2,h3,ed];(refine draw_ok (V:=[0,1,2,3]) (OT.l [0,1,2,3,4,6,7,5,8,9,11] (.pair 10 12)) [(5,[1])] mixed_cx (by decide +kernel) ?_;simp only[go_sem,n1,n2,n3,n4,n5,n1.symm,n2.symm,n3.symm,n4.symm,n5.symm,h2,h3,ed]);refine IH _ d first (j+1) _ _ _ (by simp only[gA2,gA6,gA1,ne_eq,reduceIte,n1,gA9]<;>(first|done|rfl)) hlt hm (Rd.to_mono hk3 (fun vv w3 m3 hk4 j3 hj3 hjT3 hw3 hm3=>?_) (fun f h o=>?_))
  rotate_left
  ·simp only[go_sem];exact DK.here (h _ o (by repeat (first|exact gA8 _ _|refine St.gx_setL2 ?_ rfl|refine St.gx_setL ?_ rfl|refine St.gx_gs ?_ (fun _ e=>by cases e;assumption)|refine St.gx_r ?_|refine gA7 hq ?_)) (by simp only[gA2,gA6,gA1,ne_eq,reduceIte,n1,gA9]<;>(first|done|rfl)))
  simp only[go_sem,n1,n2,n3,n4,n5,n1.symm,n2.symm,n3.symm,n4.symm,n5.symm,h2,h3,ed,Tm.hz];refine ⟨by decide,⟨by rw[St.getT_setL,gs_getT,if_pos rfl],fun y hy=>?_⟩,fun t2 ht2=>?_⟩
  ·simp only[List.mem_singleton] at hy;subst hy;rfl
  have hft2:s.getT t2=none:=del_freeL ht2 hft (fun _=>rfl);have hk5:=hk4 j3 (some t2) (by omega) hjT3 hw3 hm3 ⟨by simp only[gC2,gC1,gC3] at hac ⊢;omega,h2,h3,hq,⟨n1,n2,n3,n4,n5⟩,fun e=>(by cases e),fun t' e=>by cases e;exact hft2⟩;simp only[entS,gv_some] at hk5;rw[show (([]:List Tm)++[kk,vv]).length=2 by simp] at hk5;refine DK.st (s2:=(gs ((s.setO q (.cells 43 [.int .i64 8,.int .i64 0,.str [],.str [],.list (some t2) ((([]:List Tm)++[kk,vv]).map Tm.enc),.nils])).setO r (psO T fin d first j3 m3)) (some t2) (2) 43).setL none) hk5 ?_;refine pen_ge_fin hft (fun b o hb=>?_) (fun _=>rfl) (by simp);simp only[gA1] at hb ⊢;by_cases hb1:q=b
  ·subst hb1;simp only[n1,n1.symm,if_true,if_false] at hb ⊢;simpa [Tm.enc_eq,Tm.cs] using hb
  ·by_cases hb2:r=b
   ·simp only[hb1,hb2,if_true,if_false] at hb ⊢;exact hb
   ·simp only[hb1,hb2,if_false] at hb ⊢;exact hb
 | some u =>
  simp only[gv_some];(refine draw_ok (V:=[0,1,2,3]) (OT.l [0,1,2,3,4,6,7,5,8,9,11] (.pair 10 12)) [(5,[1])] mixed_cx (by decide +kernel) ?_;simp only[go_sem,n1,n2,n3,n4,n5,n1.symm,n2.symm,n3.symm,n4.symm,n5.symm,h2,h3,ed]);refine IH _ d first i n _ _ (by rw[gA6,gA1,if_pos rfl]<;>rfl) hi hn (Rd.to_mono hk (fun kk w m hk2 j hj hjT hw hm=>?_) (fun f h o=>?_))
  rotate_left
  ·simp only[go_sem];exact DK.here (h _ _ (St.gx_setL (St.gx_gs (St.gx_r (gA7 hq (gA8 s r))) hfree) rfl) (by rw[gA2,gA6,gA1,if_pos rfl]<;>rfl))
  simp only[go_sem,n1,n2,n3,n4,n5,n1.symm,n2.symm,n3.symm,n4.symm,n5.symm,h2,h3,ed,Tm.hz];refine ⟨by decide,?_⟩;refine ⟨⟨by rw[gs_getT,if_pos rfl],fun y hy=>?_,by omega⟩,fun t ht=>?_⟩
  ·simp only[List.mem_map] at hy;obtain ⟨z,_,rfl⟩:=hy;exact Tm.hz z
  have hft:s.getT t=none:=del_free ht (hfree u rfl) (fun _=>rfl);subst hw;refine Den.weaken (pen_ge_some (hfree u rfl)) ?_;refine want_den (T:=T) (fin:=fin) (d:=d) (first:=first) (i:=j) (n:=m) _ (by simp only[gA2,gA6,gA1,ne_eq,reduceIte,n1,gA9]<;>(first|done|rfl)) hjT hT (Rd.to_mono hk2 (fun _ w2 m2 hk3 hlt hw2 hm2=>?_) (fun f h o=>?_));rotate_left
  ·simp only[go_sem];exact DK.here (h _ o (by repeat (first|exact gA8 _ _|refine St.gx_setL2 ?_ rfl|refine St.gx_setL ?_ rfl|refine St.gx_gs ?_ (fun _ e=>by cases e;assumption)|refine St.gx_r ?_|refine gA7 hq ?_)) (by simp only[gA2,gA6,gA1,ne_eq,reduceIte,n1,gA9]<;>(first|done|rfl)))
  subst hw2 hm2;simp only[go_sem,n1,n2,n3,n4,n5,n1.symm,n2.symm,n3.symm,n4.symm,n5.symm,h2,h3,ed];(refine draw_ok (V:=[0,1,2,3]) (OT.l [0,1,2,3,4,6,7,5,8,9,11] (.pair 10 12)) [(5,[1])] mixed_cx (by decide +kernel) ?_;simp only[go_sem,n1,n2,n3,n4,n5,n1.symm,n2.symm,n3.symm,n4.symm,n5.symm,h2,h3,ed]);refine IH _ d first (j+1) _ _ _ (by simp only[gA2,gA6,gA1,ne_eq,reduceIte,n1,gA9]<;>(first|done|rfl)) hlt hm (Rd.to_mono hk3 (fun vv w3 m3 hk4 j3 hj3 hjT3 hw3 hm3=>?_) (fun f h o=>?_))
  rotate_left
  ·simp only[go_sem];exact DK.here (h _ o (by repeat (first|exact gA8 _ _|refine St.gx_setL2 ?_ rfl|refine St.gx_setL ?_ rfl|refine St.gx_gs ?_ (fun _ e=>by cases e;assumption)|refine St.gx_r ?_|refine gA7 hq ?_)) (by simp only[gA2,gA6,gA1,ne_eq,reduceIte,n1,gA9]<;>(first|done|rfl)))
  simp only[go_sem,n1,n2,n3,n4,n5,n1.symm,n2.symm,n3.symm,n4.symm,n5.symm,h2,h3,ed,Tm.hz];refine ⟨by decide,⟨by rw[St.getT_setL,gs_getT,if_pos rfl];simp,fun y hy=>?_,by simp;omega⟩,fun t2 ht2=>?_⟩
  ·rcases List.mem_append.1 hy with hy|hy
   ·simp only[List.mem_map] at hy;obtain ⟨z,_,rfl⟩:=hy;exact Tm.hz z
   ·simp only[List.mem_singleton] at hy;subst hy;rfl
  have hft2:s.getT t2=none:=del_freeL ht2 hft (fun _=>rfl);have hk5:=hk4 j3 (some t2) (by omega) hjT3 hw3 hm3 ⟨by simp only[gC2,gC1,gC3] at hac ⊢;omega,h2,h3,hq,⟨n1,n2,n3,n4,n5⟩,fun e=>(by cases e),fun t' e=>by cases e;exact hft2⟩;simp only[entS,gv_some] at hk5;rw[show (acc++[kk,vv]).length=acc.length+2 by simp] at hk5;refine DK.st (s2:=(gs ((s.setO q (.cells 43 [.int .i64 8,.int .i64 0,.str [],.str [],.list (some t2) ((acc++[kk,vv]).map Tm.enc),.nils])).setO r (psO T fin d first j3 m3)) (some t2) (acc.length+2) 43).setL none) hk5 ?_;refine pen_ge_fin hft (fun b o hb=>?_) (fun _=>rfl) (by simp);simp only[gA1] at hb ⊢;by_cases hb1:q=b
  ·subst hb1;simp only[n1,n1.symm,if_true,if_false] at hb ⊢;simpa [Tm.enc_eq,Tm.cs] using hb
  ·by_cases hb2:r=b
   ·simp only[hb1,hb2,if_true,if_false] at hb ⊢;exact hb
   ·simp only[hb1,hb2,if_false] at hb ⊢;exact hb
end
end Go.AV
end
section
namespace Go.AV
open Go Go.Proofs
section
variable {T:List Tok} {fin:Fault} {d:Dc} {first:Tok} {i n:Nat} {s:St} {r:Nat} {KV Kp:St→A→Prop}
theorem EntQ.setT {b2 b3 q r k:Nat} {s:St} {acc:List Tm} {tk:Option Nat} {i t:Nat} {v:Nat × TypeId} (h:EntQ b2 b3 q r k s acc tk i) (ht:tk≠some t):EntQ b2 b3 q r k (s.setT t v) acc tk i :=
 ⟨h.len,h.h2,h.h3,h.hq,h.ne,h.nil,fun u hu => by
  rw[gA4,if_neg (fun e=>ht (by rw[hu,e]))];exact h.free u hu⟩
theorem EntQ.unT {b2 b3 q r k:Nat} {s:St} {acc:List Tm} {tk:Option Nat} {i t:Nat} {v:Nat × TypeId} (h:EntQ b2 b3 q r k (s.setT t v) acc tk i):tk≠some t∧∀ u,tk=some u→s.getT u=none:=by
 have h1:tk≠some t:=fun e=>by
  have:=h.free t e;rw[gA4,if_pos rfl] at this;cases this
 refine ⟨h1,fun u hu=>?_⟩;have:=h.free u hu;rw[gA4] at this;split at this
 ·cases this
 ·exact this
theorem EntQ.dropT {b2 b3 q r k:Nat} {s:St} {acc:List Tm} {tk:Option Nat} {i t:Nat} {v:Nat × TypeId} (h:EntQ b2 b3 q r k (s.setT t v) acc tk i):EntQ b2 b3 q r k s acc tk i :=
 ⟨h.len,h.h2,h.h3,h.hq,h.ne,h.nil,h.unT.2⟩
section
variable {kind:Int} {x:Str} {q:Nat} {acc:List Tm} {tk:Option Nat} {t:Nat} {v u:Nat × TypeId}
theorem entS_getT:(entS T fin d first kind x q r s acc tk i n).getT t=if tk=some t then some (acc.length,43) else s.getT t:=gs_getT _ _ _ _ _
theorem entS_swap (h:tk≠some t):((entS T fin d first kind x q r s acc tk i n).setT t v).ge (entS T fin d first kind x q r (s.setT t v) acc tk i n):=gs_swap h
theorem entS_over (h:tk≠some t):((entS T fin d first kind x q r (s.setT t v) acc tk i n).setT t u).ge (entS T fin d first kind x q r (s.setT t u) acc tk i n):=by
 refine ⟨fun b o ho=>by rw[gA3];unfold entS at *;rw[gA6] at *;exact ho,fun c m hm=>?_,fun y hy=>by cases tk<;>exact hy⟩;rw[entS_getT,gA4] at hm;rw[gA4,entS_getT,gA4];by_cases htc:t=c
 ·subst htc;rw[if_neg h,if_pos rfl] at hm;rw[if_pos rfl];exact hm
 ·rw[if_neg htc] at hm ⊢;rw[if_neg htc];exact hm
theorem entS_drop (h:s.getT t=none):(entS T fin d first kind x q r (s.setT t v) acc tk i n).ge (entS T fin d first kind x q r s acc tk i n) :=
 gs_ge_of (fun b o ho=>ho) (fun y hy=>hy) (fun c m _ hm=>by
  show (s.setT t v).getT c=some m;have hm':s.getT c=some m:=hm;rw[gA4];by_cases htc:t=c
  ·subst htc;rw[h] at hm';cases hm'
  ·rw[if_neg htc];exact hm')
theorem entS_r (hq:q≠r):(entS T fin d first kind x q r s acc tk i n).getO r=some (psO T fin d first i n):=by
 unfold entS;rw[gA6,gA1,if_pos rfl]
theorem entS_step:((entS T fin d first kind x q r s acc tk i n).setO r (psO T fin d first (i+1) n)).ge (entS T fin d first kind x q r s acc tk (i+1) n):=by
 unfold entS;rw[gs_setO,setO_setO];exact St.ge.refl _
end
theorem entries_den (k:Nat) (hk60:k≤60) (IH:TermOk T fin r k) (hr:s.getO r=some (psO T fin d first i n)) (hi:i≤T.length) (hT:TOk T) (hn:n≤2000)
  (hk : ((if isT [124] (T.drop i) = true ∨ isT [125] (T.drop i) = true then Rd.ok [] (T.drop i) n else loopR fin [44] (entR fin (termR false fin first k)) ((T.drop i).length + 1) [] (T.drop i) n).bind fun l w n =>
   (restR fin first (decide (k=0)) [77,97,112] w n).bind fun r w n=>(wantR fin [125] w n).bind fun _ w n=>.ok (.mk 8 0 [] [] l r) w n).to (PK T i (fun j m=>s.setO r (psO T fin d first j m)) Tm.enc KV) (PB s r Kp)) :
  Den cx 243 [.ptr r 0,.int .i64 ((60-k:Nat):Int)] KV Kp s:=by
 refine Den.drop ?_;(refine Den.of_body (C:=cx) Tryz.func243 rfl rfl (gC6 rfl) ?_;refine wpC_ok (V:=[0,1,2,3,4,5,6,16]) _ _ _ _ ?_;simp only[go_sem,Tryz.ntmps243,Tryz.f243]);(intro b2 hb2;try simp only[gD6,ne_eq] at hb2);simp only[go_sem,hb2];(intro b3 hb3;try simp only[gD6,ne_eq] at hb3);simp only[go_sem,hb2,hb3];(intro b4 hb4;try simp only[gD6,ne_eq] at hb4);simp only[go_sem,hb2,hb3,hb4];(intro b5 hb5;try simp only[gD6,ne_eq] at hb5);have e2:=St.ne_of hr hb2;have e3:=St.ne_of hr hb3.2;have e4:=St.ne_of hr hb4.2.2;have e5:=St.ne_of hr hb5.2.2.2;have ek:decide (60-k=60)=decide (k=0):=by rw[decide_eq_decide];omega
 simp only[go_sem,hb2,hb3,hb4,hb5,e2,e3,e4,e5];refine is_den (T:=T) (fin:=fin) (d:=d) (first:=first) (i:=i) (n:=n) _ (by simp only[gA1,ne_eq,gA9,reduceIte,hb2,hb3,hb4,hb5,e2,e3,e4,e5]<;>(first|done|rfl|assumption)) hi ?_;simp only[go_sem,hb2,hb3,hb4,hb5,e2,e3,e4,e5];cases cA:isT [124] (T.drop i)
 ·simp only[go_sem,hb2,hb3,hb4,hb5,e2,e3,e4,e5,cA];refine is_den (T:=T) (fin:=fin) (d:=d) (first:=first) (i:=i) (n:=n) _ (by simp only[gA1,ne_eq,gA9,reduceIte,hb2,hb3,hb4,hb5,e2,e3,e4,e5]<;>(first|done|rfl|assumption)) hi ?_;simp only[go_sem,hb2,hb3,hb4,hb5,e2,e3,e4,e5,cA];cases cB:isT [125] (T.drop i)
  ·simp only[go_sem,hb2,hb3,hb4,hb5,e2,e3,e4,e5,cA,cB];rw[if_neg (by rw[cA,cB];simp),Rd.bind_to] at hk
   refine Den.weaken (St.ge_same (by simp only[gA1,ne_eq,gA9,reduceIte,hb2,hb3,hb4,hb5,e2,e3,e4,e5]<;>(first|done|rfl|assumption))) (plist146_den (fin:=fin) (σ:=List Tm) (α:=Unit) (X:=Option Nat) (r:=r) (fun _=>.bool true) (fun _=>rfl) (fun _=>rfl) hT
    (fun s' acc tk i n=>entS T fin d first 8 [] b5 r s' acc tk i n) (fun s' acc tk i=>EntQ b2 b3 b5 r k s' acc tk i) (fun acc w n=>(entR fin (termR false fin first k) acc w n).bind fun a w n=>.ok (a,()) w n) 286 [] [.ptr b5 0,.ptr b2 0,.ptr b3 0]
    (fun s' a x i n=>⟨d,first,entS_r e5.2,entS_step⟩) (fun s' a x i n t v h ht=>?_) (fun s' a x i n t v u ht h=>?_) (fun s' a x i n t v ht h=>⟨h.dropT,entS_drop ht⟩)
    (fun s' a x i h=>⟨by have:=h.len;omega,h.h2,h.h3,h.hq,h.ne,h.nil,h.free⟩) (fun s' a x i n h=>St.gx_gs (St.gx_r (gA7 h.hq (gA8 _ _))) h.free)
    (fun s' a x i n KV' Kp' h hi' hn' hk'=>ent1_den k b2 b3 b5 hk60 IH hT a x h hi' hn' (by rw[Rd.bind_to] at hk';exact Rd.to_mono hk' (fun _ _ _ h=>h) (fun _ h=>h)))
    [] none i n ?_ hi hn ?_)
   ·have ht':=ht;rw[entS_getT] at ht';have hx:x≠some t:=fun e=>by rw[if_pos e] at ht';cases ht'
    rw[if_neg hx] at ht';exact ⟨ht',h.setT hx,entS_swap hx⟩
   ·have hx:=h.unT.1;refine ⟨by rw[entS_getT,if_neg hx,gA4,if_pos rfl],h.dropT.setT hx,entS_over hx⟩
   ·refine ⟨Nat.zero_le _,(by simp only[gA1,ne_eq,gA9,reduceIte,hb2,hb3,hb4,hb5,e2,e3,e4,e5]<;>(first|done|rfl|assumption)),(by simp only[gA1,ne_eq,gA9,reduceIte,hb2,hb3,hb4,hb5,e2,e3,e4,e5]<;>(first|done|rfl|assumption)),?_,⟨e5.2,hb5.2.2.1.2,hb5.2.1.2,e2.1,e3.1⟩,fun _=>rfl,fun t e=>(by cases e)⟩;simp only[gA1,ne_eq,reduceIte,hb5]
   refine Rd.to_mono (loopR_fst _ _ _ _ _ [] _ _ _ _ hk) (fun c w m hk2 j y hj hjT hw hm hy=>?_) (fun f h s1 o hg hr1=>h.at (hg.trans (by (repeat (first|exact gA8 _ _|refine St.gx_r ?_|refine gA7 (by first|simp only[hb2,hb3,hb4,hb5]|assumption) ?_|refine St.gx_T (by first|simp only[hb2,hb3,hb4,hb5]|assumption) ?_)))) hr1);obtain ⟨l,ul⟩:=c;simp only at hk2 hy;subst hw;rw[Rd.bind_to,← ek] at hk2;have hfy:∀ t,y=some t→s.getT t=none:=hy.free
   have hny:=hy.nil;simp only[entS];simp only[go_sem,hb2,hb3,hb4,hb5,e2,e3,e4,e5];refine rest_den (T:=T) (fin:=fin) (d:=d) (first:=first) (i:=j) (n:=m) (60-k) _ (by simp only[gA2,gA6,gA1,ne_eq,reduceIte,gA9,hb2,hb3,hb4,hb5,e2,e3,e4,e5]<;>(first|done|rfl|assumption)) hjT hT hm (Rd.to_mono hk2 (fun rs w2 m2 hk3 j2 hj2 hjT2 hw2 hm2=>?_) (fun f h=>PB.mk (by repeat (first|exact gA8 _ _|refine St.gx_gs ?_ hfy|refine St.gx_r ?_|refine gA7 hb2 ?_|refine gA7 hb3.2 ?_|refine gA7 hb4.2.2 ?_|refine gA7 hb5.2.2.2 ?_)) h));subst hw2;simp only[go_sem,hb2,hb3,hb4,hb5,e2,e3,e4,e5];refine want_den (T:=T) (fin:=fin) (d:=d) (first:=first) (i:=j2) (n:=m2) _ (by simp only[gA2,gA6,gA1,ne_eq,reduceIte,gA9,hb2,hb3,hb4,hb5,e2,e3,e4,e5]<;>(first|done|rfl|assumption)) hjT2 hT ?_;rw[Rd.bind_to] at hk3;refine Rd.to_mono hk3 (fun _ w3 m3 hk4 hlt3 hw3 hm3=>?_) (fun f h=>PB.mk (by repeat (first|exact gA8 _ _|refine St.gx_gs ?_ hfy|refine St.gx_r ?_|refine gA7 hb2 ?_|refine gA7 hb3.2 ?_|refine gA7 hb4.2.2 ?_|refine gA7 hb5.2.2.2 ?_)) h);rw[Rd.ok_to] at hk4;subst hm3;simp only[go_sem,hb2,hb3,hb4,hb5,e2,e3,e4,e5];refine ⟨gv_one y _,?_⟩;refine DK.mk (hk4 (j2+1) (by omega) hlt3 hw3 hm2) (St.gx.ge (by repeat (first|exact gA8 _ _|refine St.gx_gs ?_ hfy|refine St.gx_r ?_|refine gA7 hb2 ?_|refine gA7 hb3.2 ?_|refine gA7 hb4.2.2 ?_|refine gA7 hb5.2.2.2 ?_)) (by simp only[gA2,gA6,gA1,ne_eq,reduceIte,gA9,hb2,hb3,hb4,hb5,e2,e3,e4,e5]<;>(first|done|rfl|assumption))) ?_;rw[Tm.enc_eq];exact A.le.agg ⟨⟨A.le.refl _,rfl⟩,⟨A.le.refl _,rfl⟩,⟨A.le.refl _,rfl⟩,⟨A.le.refl _,rfl⟩,⟨gv_le y _ (fun e=>by rw[hny e];rfl),rfl⟩,⟨A.le.refl _,rfl⟩,trivial⟩
  ·(try simp only[go_sem,hb2,hb3,hb4,hb5,e2,e3,e4,e5,cA,cB])
   rw[if_pos (by simp[cA,cB]),Rd.bind_to,Rd.ok_to,Rd.bind_to,← ek] at hk;have hfy:∀ t:Nat,(none:Option Nat)=some t→s.getT t=none:=fun t e=>by cases e
   refine rest_den (T:=T) (fin:=fin) (d:=d) (first:=first) (i:=i) (n:=n) (60-k) _ (by simp only[gA2,gA6,gA1,ne_eq,reduceIte,gA9,hb2,hb3,hb4,hb5,e2,e3,e4,e5]<;>(first|done|rfl|assumption)) hi hT hn (Rd.to_mono hk (fun rs w2 m2 hk3 j2 hj2 hjT2 hw2 hm2=>?_) (fun f h=>PB.mk (by repeat (first|exact gA8 _ _|refine St.gx_gs ?_ hfy|refine St.gx_r ?_|refine gA7 hb2 ?_|refine gA7 hb3.2 ?_|refine gA7 hb4.2.2 ?_|refine gA7 hb5.2.2.2 ?_)) h));subst hw2;simp only[go_sem,hb2,hb3,hb4,hb5,e2,e3,e4,e5];refine want_den (T:=T) (fin:=fin) (d:=d) (first:=first) (i:=j2) (n:=m2) _ (by simp only[gA2,gA6,gA1,ne_eq,reduceIte,gA9,hb2,hb3,hb4,hb5,e2,e3,e4,e5]<;>(first|done|rfl|assumption)) hjT2 hT ?_;rw[Rd.bind_to] at hk3;refine Rd.to_mono hk3 (fun _ w3 m3 hk4 hlt3 hw3 hm3=>?_) (fun f h=>PB.mk (by repeat (first|exact gA8 _ _|refine St.gx_gs ?_ hfy|refine St.gx_r ?_|refine gA7 hb2 ?_|refine gA7 hb3.2 ?_|refine gA7 hb4.2.2 ?_|refine gA7 hb5.2.2.2 ?_)) h);rw[Rd.ok_to] at hk4;subst hm3;simp only[go_sem,hb2,hb3,hb4,hb5,e2,e3,e4,e5];refine DK.mk (hk4 (j2+1) (by omega) hlt3 hw3 hm2) (St.gx.ge (by repeat (first|exact gA8 _ _|refine St.gx_gs ?_ hfy|refine St.gx_r ?_|refine gA7 hb2 ?_|refine gA7 hb3.2 ?_|refine gA7 hb4.2.2 ?_|refine gA7 hb5.2.2.2 ?_)) (by simp only[gA2,gA6,gA1,ne_eq,reduceIte,gA9,hb2,hb3,hb4,hb5,e2,e3,e4,e5]<;>(first|done|rfl|assumption))) ?_;rw[Tm.enc_eq];exact A.le.agg ⟨⟨A.le.refl _,rfl⟩,⟨A.le.refl _,rfl⟩,⟨A.le.refl _,rfl⟩,⟨A.le.refl _,rfl⟩,⟨A.le.nil,rfl⟩,⟨A.le.refl _,rfl⟩,trivial⟩
 ·(try simp only[go_sem,hb2,hb3,hb4,hb5,e2,e3,e4,e5,cA])
  rw[if_pos (by simp[cA]),Rd.bind_to,Rd.ok_to,Rd.bind_to,← ek] at hk;have hfy:∀ t:Nat,(none:Option Nat)=some t→s.getT t=none:=fun t e=>by cases e
  refine rest_den (T:=T) (fin:=fin) (d:=d) (first:=first) (i:=i) (n:=n) (60-k) _ (by simp only[gA2,gA6,gA1,ne_eq,reduceIte,gA9,hb2,hb3,hb4,hb5,e2,e3,e4,e5]<;>(first|done|rfl|assumption)) hi hT hn (Rd.to_mono hk (fun rs w2 m2 hk3 j2 hj2 hjT2 hw2 hm2=>?_) (fun f h=>PB.mk (by repeat (first|exact gA8 _ _|refine St.gx_gs ?_ hfy|refine St.gx_r ?_|refine gA7 hb2 ?_|refine gA7 hb3.2 ?_|refine gA7 hb4.2.2 ?_|refine gA7 hb5.2.2.2 ?_)) h));subst hw2;simp only[go_sem,hb2,hb3,hb4,hb5,e2,e3,e4,e5];refine want_den (T:=T) (fin:=fin) (d:=d) (first:=first) (i:=j2) (n:=m2) _ (by simp only[gA2,gA6,gA1,ne_eq,reduceIte,gA9,hb2,hb3,hb4,hb5,e2,e3,e4,e5]<;>(first|done|rfl|assumption)) hjT2 hT ?_;rw[Rd.bind_to] at hk3;refine Rd.to_mono hk3 (fun _ w3 m3 hk4 hlt3 hw3 hm3=>?_) (fun f h=>PB.mk (by repeat (first|exact gA8 _ _|refine St.gx_gs ?_ hfy|refine St.gx_r ?_|refine gA7 hb2 ?_|refine gA7 hb3.2 ?_|refine gA7 hb4.2.2 ?_|refine gA7 hb5.2.2.2 ?_)) h);rw[Rd.ok_to] at hk4;subst hm3;simp only[go_sem,hb2,hb3,hb4,hb5,e2,e3,e4,e5];refine DK.mk (hk4 (j2+1) (by omega) hlt3 hw3 hm2) (St.gx.ge (by repeat (first|exact gA8 _ _|refine St.gx_gs ?_ hfy|refine St.gx_r ?_|refine gA7 hb2 ?_|refine gA7 hb3.2 ?_|refine gA7 hb4.2.2 ?_|refine gA7 hb5.2.2.2 ?_)) (by simp only[gA2,gA6,gA1,ne_eq,reduceIte,gA9,hb2,hb3,hb4,hb5,e2,e3,e4,e5]<;>(first|done|rfl|assumption))) ?_;rw[Tm.enc_eq];exact A.le.agg ⟨⟨A.le.refl _,rfl⟩,⟨A.le.refl _,rfl⟩,⟨A.le.refl _,rfl⟩,⟨A.le.refl _,rfl⟩,⟨A.le.nil,rfl⟩,⟨A.le.refl _,rfl⟩,trivial⟩
end
end Go.AV
end
