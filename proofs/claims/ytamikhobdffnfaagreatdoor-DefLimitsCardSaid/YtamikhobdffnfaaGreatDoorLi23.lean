/-
  Part of the proof of DefLimits.
-/
import Derived.Test.YtamikhobdffnfaaGreatDoorLi22
import Derived.Test.YtamikhobdffnfaaGreatDoorLi20
set_option linter.unusedVariables false
set_option linter.unusedSimpArgs false
set_option linter.all false
section
namespace Go.AV
open Go Go.Proofs
set_option maxRecDepth 100000
set_option maxHeartbeats 800000
section
variable {T : List Tok} {fin : Fault} {r : Nat}
theorem term_ok (hT : TOk T) : ∀ k,k ≤ 60 → TermOk T fin r k := by
 intro k
 induction k with
 | zero =>
  intro _ s d first i n KV Kp hr hi hn hk
  have e61 : decide ((60 : Int) < ((61 : Nat) : Int)) = true := by decide
  have e62 : decide ((60 : Int) < ((61 - 0 : Nat) : Int)) = true := by decide
  refine Den.drop ?_; (refine Den.of_body (C := cx) Tryz.func92 rfl rfl (Nat.le_of_ble_eq_true rfl) ?_; refine wpC_ok (V := [0,1,4,5,10,14,27,28,33,38]) _ _ _ _ ?_; simp only [go_sem,Tryz.ntmps92,Tryz.f92])
  (intro b4 hb4; try simp only [getO_setO_none,ne_eq] at hb4)
  have e4 := St.ne_of hr hb4
  simp only [go_sem,hb4,e4]
  refine peek_den (T := T) (fin := fin) (d := d) (first := first) (i := i) (n := n) (by simp only [St.getO_setO,ne_eq,not_false_eq_true,reduceIte,hb4,e4] <;> (first | done | rfl | assumption)) hi ?_
  cases hw : T.drop i with
  | nil => rw [hw] at hk; exact hk.at (by (repeat (first | exact St.gx.refl _ _ | refine St.gx_r ?_ | refine St.gx_new (by first | simp only [hb4] | assumption) ?_ | refine St.gx_T (by first | simp only [hb4] | assumption) ?_))) (by simp only [St.getO_setO,ne_eq,not_false_eq_true,reduceIte,hb4,e4] <;> (first | done | rfl | assumption))
  | cons t w =>
   rw [hw] at hk
   simp only [go_sem,hb4,e4]
   (intro b5 hb5; try simp only [getO_setO_none,ne_eq] at hb5)
   have e5 := St.ne_of hr hb5.2
   simp only [go_sem,hb4,e4,hb5,e5]
   refine starts_den (T := T) (fin := fin) (d := d) (first := first) (i := i) (n := n) (by simp only [St.getO_setO,ne_eq,not_false_eq_true,reduceIte,hb4,e4,hb5,e5] <;> (first | done | rfl | assumption)) hi ?_
   rw [hw]
   simp only [termR] at hk ⊢
   cases hb : t.begins with
   | true =>
    rw [hb] at hk
    simp only [if_true,Rd.bad_to] at hk
    simp only [go_sem,hb4,e4,hb5,e5,e61,e62]
    refine fail_den (T := T) (fin := fin) (d := d) (first := first) (i := i) (n := n) 19 (by simp only [St.getO_setO,ne_eq,not_false_eq_true,reduceIte,hb4,e4,hb5,e5] <;> (first | done | rfl | assumption)) hi hT ?_
    rw [hw]
    exact hk.at (by (repeat (first | exact St.gx.refl _ _ | refine St.gx_r ?_ | refine St.gx_new (by first | simp only [hb4,hb5] | assumption) ?_ | refine St.gx_T (by first | simp only [hb4,hb5] | assumption) ?_))) (by simp only [St.getO_setO,ne_eq,not_false_eq_true,reduceIte,hb4,e4,hb5,e5] <;> (first | done | rfl | assumption))
   | false =>
    rw [hb] at hk
    simp only [Bool.false_eq_true,if_false,Rd.bad_to] at hk
    simp only [go_sem,hb4,e4,hb5,e5]
    refine fail_den (T := T) (fin := fin) (d := d) (first := first) (i := i) (n := n) 11 (by simp only [St.getO_setO,ne_eq,not_false_eq_true,reduceIte,hb4,e4,hb5,e5] <;> (first | done | rfl | assumption)) hi hT ?_
    rw [hw]
    exact hk.at (by (repeat (first | exact St.gx.refl _ _ | refine St.gx_r ?_ | refine St.gx_new (by first | simp only [hb4,hb5] | assumption) ?_ | refine St.gx_T (by first | simp only [hb4,hb5] | assumption) ?_))) (by simp only [St.getO_setO,ne_eq,not_false_eq_true,reduceIte,hb4,e4,hb5,e5] <;> (first | done | rfl | assumption))
 | succ k ih =>
  intro hk60 s d first i n KV Kp hr hi hn hk
  rw [show (61 - (k + 1) : Nat) = 60 - k by omega]
  have IH := ih (by omega)
  have hlen := hT.len
  have e60 : decide ((60 : Int) < ((60 - k : Nat) : Int)) = false := by rw [decide_eq_false_iff_not]; omega
  refine Den.drop ?_; (refine Den.of_body (C := cx) Tryz.func92 rfl rfl (Nat.le_of_ble_eq_true rfl) ?_; refine wpC_ok (V := [0,1,4,5,10,14,27,28,33,38]) _ _ _ _ ?_; simp only [go_sem,Tryz.ntmps92,Tryz.f92])
  (intro b4 hb4; try simp only [getO_setO_none,ne_eq] at hb4)
  have e4 := St.ne_of hr hb4
  simp only [go_sem,hb4,e4]
  refine peek_den (T := T) (fin := fin) (d := d) (first := first) (i := i) (n := n) (by simp only [St.getO_setO,ne_eq,not_false_eq_true,reduceIte,hb4,e4] <;> (first | done | rfl | assumption)) hi ?_
  cases hw : T.drop i with
  | nil => rw [hw] at hk; exact hk.at (by (repeat (first | exact St.gx.refl _ _ | refine St.gx_r ?_ | refine St.gx_new (by first | simp only [hb4] | assumption) ?_ | refine St.gx_T (by first | simp only [hb4] | assumption) ?_))) (by simp only [St.getO_setO,ne_eq,not_false_eq_true,reduceIte,hb4,e4] <;> (first | done | rfl | assumption))
  | cons t w =>
   rw [hw] at hk
   obtain ⟨h1,h2,h3,h4⟩ := drop_get hw
   simp only [go_sem,hb4,e4]
   (intro b5 hb5; try simp only [getO_setO_none,ne_eq] at hb5)
   have e5 := St.ne_of hr hb5.2
   simp only [go_sem,hb4,e4,hb5,e5]
   refine starts_den (T := T) (fin := fin) (d := d) (first := first) (i := i) (n := n) (by simp only [St.getO_setO,ne_eq,not_false_eq_true,reduceIte,hb4,e4,hb5,e5] <;> (first | done | rfl | assumption)) hi ?_
   rw [hw]
   simp only [termR] at hk ⊢
   cases hb : t.begins with
   | false =>
    rw [hb] at hk
    simp only [Bool.false_eq_true,if_false,Rd.bad_to] at hk
    simp only [go_sem,hb4,e4,hb5,e5]
    refine fail_den (T := T) (fin := fin) (d := d) (first := first) (i := i) (n := n) 11 (by simp only [St.getO_setO,ne_eq,not_false_eq_true,reduceIte,hb4,e4,hb5,e5] <;> (first | done | rfl | assumption)) hi hT ?_
    rw [hw]
    exact hk.at (by (repeat (first | exact St.gx.refl _ _ | refine St.gx_r ?_ | refine St.gx_new (by first | simp only [hb4,hb5] | assumption) ?_ | refine St.gx_T (by first | simp only [hb4,hb5] | assumption) ?_))) (by simp only [St.getO_setO,ne_eq,not_false_eq_true,reduceIte,hb4,e4,hb5,e5] <;> (first | done | rfl | assumption))
   | true =>
    rw [hb] at hk
    simp only [if_true,Rd.bind_to] at hk
    simp only [go_sem,hb4,e4,hb5,e5,e60]
    refine node_den (T := T) (fin := fin) (d := d) (first := first) (i := i) (n := n) (by simp only [St.getO_setO,ne_eq,not_false_eq_true,reduceIte,hb4,e4,hb5,e5] <;> (first | done | rfl | assumption)) hn ?_
    have hk' : (nodeR first (T.drop i) n).to (fun _ w' m0 => w' = T.drop i → m0 ≤ 2000 → ((if t.kind = 2 then Rd.ok (Tm.mk 1 t.n [] [] [] []) w m0 else if t.kind = 3 then Rd.ok (Tm.mk 3 0 t.text [] [] []) w m0 else if t.kind = 1 then namedR false fin first (termR false fin first k) t w m0 else signedR fin first (termR false fin first k) (decide (k = 0)) t w m0)).to (PK T (i + 1) (fun j m => s.setO r (psO T fin d first j m)) Tm.enc KV) (PB s r Kp)) (PB s r Kp) := by
     unfold nodeR at hk ⊢
     split
     ·rename_i hc; rw [if_pos hc] at hk; exact hk
     ·rename_i hc; rw [if_neg hc] at hk; exact fun _ _ => hk
    refine Rd.to_mono hk' (fun _ w' m0 hk2 hw' hm0 => ?_) (fun f h => PB.mk (by (repeat (first | exact St.gx.refl _ _ | refine St.gx_r ?_ | refine St.gx_new (by first | simp only [hb4,hb5] | assumption) ?_ | refine St.gx_T (by first | simp only [hb4,hb5] | assumption) ?_))) h)
    have hk2 := hk2 hw' hm0
    simp only [go_sem,hb4,e4,hb5,e5,wrap1 i (by omega)]
    (first | refine gdK_split (fun h => ?_) (fun h => ?_) | refine brK_split (fun h => ?_) (fun h => ?_) | refine gdX_split (fun h => ?_) (fun h => ?_)) <;> simp only [go_sem,h,hb4,e4,hb5,e5]
    ·have x2 : t.kind = 2 := by simpa using h
     rw [if_pos x2,Rd.ok_to] at hk2
     (try simp only [go_sem,hb4,e4,hb5,e5])
     exact DK.mk (hk2 (i + 1) (Nat.le_refl _) h2 h3 hm0) (St.gx.ge (by (repeat (first | exact St.gx.refl _ _ | refine St.gx_r ?_ | refine St.gx_new (by first | simp only [hb4,hb5] | assumption) ?_ | refine St.gx_T (by first | simp only [hb4,hb5] | assumption) ?_))) (by simp only [St.getO_setO,ne_eq,not_false_eq_true,reduceIte,hb4,e4,hb5,e5] <;> (first | done | rfl | assumption))) (Tm.le_leaf _ _ _ _)
    have x2 : ¬ t.kind = 2 := by simpa using h
    rw [if_neg x2] at hk2
    (try simp only [go_sem,hb4,e4,hb5,e5])
    (first | refine gdK_split (fun h => ?_) (fun h => ?_) | refine brK_split (fun h => ?_) (fun h => ?_) | refine gdX_split (fun h => ?_) (fun h => ?_)) <;> simp only [go_sem,h,hb4,e4,hb5,e5]
    ·have x3 : t.kind = 3 := by simpa using h
     rw [if_pos x3,Rd.ok_to] at hk2
     (try simp only [go_sem,hb4,e4,hb5,e5])
     exact DK.mk (hk2 (i + 1) (Nat.le_refl _) h2 h3 hm0) (St.gx.ge (by (repeat (first | exact St.gx.refl _ _ | refine St.gx_r ?_ | refine St.gx_new (by first | simp only [hb4,hb5] | assumption) ?_ | refine St.gx_T (by first | simp only [hb4,hb5] | assumption) ?_))) (by simp only [St.getO_setO,ne_eq,not_false_eq_true,reduceIte,hb4,e4,hb5,e5] <;> (first | done | rfl | assumption))) (Tm.le_leaf _ _ _ _)
    have x3 : ¬ t.kind = 3 := by simpa using h
    rw [if_neg x3] at hk2
    (try simp only [go_sem,hb4,e4,hb5,e5])
    have fin_ : ∀ (a : Tm) (w : List Tok) (m : Nat),PK T (i + 1) (fun j m => s.setO r (psO T fin d first j m)) Tm.enc KV a w m →
      ∀ (j : Nat),i + 1 ≤ j → j ≤ T.length → T.drop j = w → m ≤ 2000 → KV (s.setO r (psO T fin d first j m)) (.agg a.cs) := fun a w m h j h1 h2 h3 h4 => by
     rw [← Tm.enc_eq]; exact h j h1 h2 h3 h4
    (first | refine gdK_split (fun h => ?_) (fun h => ?_) | refine brK_split (fun h => ?_) (fun h => ?_) | refine gdX_split (fun h => ?_) (fun h => ?_)) <;> simp only [go_sem,h,hb4,e4,hb5,e5]
    ·have x1 : t.kind = 1 := by simpa using h
     rw [if_pos x1,← h3] at hk2
     (try simp only [go_sem,hb4,e4,hb5,e5])
     refine named_den (T := T) (fin := fin) (d := d) (first := first) (i := i + 1) (n := m0) k (by omega) IH t h4 (by simp only [St.getO_setO,ne_eq,not_false_eq_true,reduceIte,hb4,e4,hb5,e5] <;> (first | done | rfl | assumption)) h2 hT hm0 (Rd.to_mono hk2 (fun a w m h j hj hjT hw hm => ?_) (fun f h => PB.mk (by (repeat (first | exact St.gx.refl _ _ | refine St.gx_r ?_ | refine St.gx_new (by first | simp only [hb4,hb5] | assumption) ?_ | refine St.gx_T (by first | simp only [hb4,hb5] | assumption) ?_))) h))
     have h' := fin_ _ _ _ h j hj hjT hw hm
     simp only [go_sem] at h'
     simp only [go_sem,hb4,e4,hb5,e5,Tm.enc_eq]
     exact DK.st h' (St.gx.ge (by (repeat (first | exact St.gx.refl _ _ | refine St.gx_r ?_ | refine St.gx_new (by first | simp only [hb4,hb5] | assumption) ?_ | refine St.gx_T (by first | simp only [hb4,hb5] | assumption) ?_))) (by simp only [St.getO_setO,ne_eq,not_false_eq_true,reduceIte,hb4,e4,hb5,e5] <;> (first | done | rfl | assumption)))
    ·have x1 : ¬ t.kind = 1 := by simpa using h
     rw [if_neg x1,← h3] at hk2
     (try simp only [go_sem,hb4,e4,hb5,e5])
     refine signed_den (T := T) (fin := fin) (d := d) (first := first) (i := i + 1) (n := m0) k (by omega) IH t (by simp only [St.getO_setO,ne_eq,not_false_eq_true,reduceIte,hb4,e4,hb5,e5] <;> (first | done | rfl | assumption)) h2 hT hm0 h4 (Rd.to_mono hk2 (fun a w m h j hj hjT hw hm => ?_) (fun f h => PB.mk (by (repeat (first | exact St.gx.refl _ _ | refine St.gx_r ?_ | refine St.gx_new (by first | simp only [hb4,hb5] | assumption) ?_ | refine St.gx_T (by first | simp only [hb4,hb5] | assumption) ?_))) h))
     have h' := fin_ _ _ _ h j hj hjT hw hm
     simp only [go_sem] at h'
     simp only [go_sem,hb4,e4,hb5,e5,Tm.enc_eq]
     exact DK.st h' (St.gx.ge (by (repeat (first | exact St.gx.refl _ _ | refine St.gx_r ?_ | refine St.gx_new (by first | simp only [hb4,hb5] | assumption) ?_ | refine St.gx_T (by first | simp only [hb4,hb5] | assumption) ?_))) (by simp only [St.getO_setO,ne_eq,not_false_eq_true,reduceIte,hb4,e4,hb5,e5] <;> (first | done | rfl | assumption)))
end
end Go.AV
end
section
namespace Go.AV
open Go Go.Proofs
structure St.gel (s1 s : St) (L M : List Nat) : Prop where
 ob : ∀ c,c ∉ L → ∀ x,s.getO c = some x → s1.getO c = some x
 tk : ∀ t,t ∉ M → ∀ m,s.getT t = some m → s1.getT t = some m
 ls : ∀ x,s.ls = some x → s1.ls = some x
theorem gel_refl (s : St) (L M : List Nat) : s.gel s L M := ⟨fun _ _ _ h => h,fun _ _ _ h => h,fun _ h => h⟩
theorem gel_ge {s1 s : St} (h : s1.gel s [] []) : s1.ge s := ⟨fun c x hx => h.ob c (by simp) x hx,fun t m hm => h.tk t (by simp) m hm,h.ls⟩
theorem gel_of_gx {s1 s : St} {r : Nat} (h : s1.gx s r) {L M : List Nat} (hr : r ∈ L) : s1.gel s L M :=
 ⟨fun c hc x hx => h.ob c (fun e => hc (e ▸ hr)) x hx,fun t _ m hm => h.tk t m hm,h.ls⟩
theorem gel_of_ge {s1 s : St} (h : s1.ge s) (L M : List Nat) : s1.gel s L M := ⟨fun c _ x hx => h.ob c x hx,fun t _ m hm => h.tk t m hm,h.ls⟩
theorem St.gel.trans {s2 s1 s : St} {L M : List Nat} (h : s2.gel s1 L M) (h' : s1.gel s L M) : s2.gel s L M :=
 ⟨fun c hc x hx => h.ob c hc x (h'.ob c hc x hx),fun t ht m hm => h.tk t ht m (h'.tk t ht m hm),fun x hx => h.ls x (h'.ls x hx)⟩
theorem gel_set {s1 s : St} {L M : List Nat} {b : Nat} {o : Ob} (hb : s1.getO b = some o) (h : s1.gel s (b :: L) M) : s1.gel (s.setO b o) L M :=
 ⟨fun c hc x hx => by
  rw [St.getO_setO] at hx
  by_cases e : b = c
  ·subst e; rw [if_pos rfl] at hx; rw [hb]; exact hx
  ·rw [if_neg e] at hx
   exact h.ob c (by simp only [List.mem_cons,not_or]; exact ⟨fun h => e h.symm,hc⟩) x hx,h.tk,h.ls⟩
theorem gel_setT {s1 s : St} {L M : List Nat} {t : Nat} {v : Nat × TypeId} (ht : s1.getT t = some v) (h : s1.gel s L (t :: M)) : s1.gel (s.setT t v) L M :=
 ⟨h.ob,fun u hu m hm => by
  rw [St.getT_setT] at hm
  by_cases e : t = u
  ·subst e; rw [if_pos rfl] at hm; rw [ht]; exact hm
  ·rw [if_neg e] at hm
   exact h.tk u (by simp only [List.mem_cons,not_or]; exact ⟨fun h => e h.symm,hu⟩) m hm,h.ls⟩
theorem gel_in {s1 s : St} {L M : List Nat} {b : Nat} {o : Ob} (hb : b ∈ L) (h : s1.gel s L M) : (s1.setO b o).gel s L M :=
 ⟨fun c hc x hx => by
  rw [St.getO_setO,if_neg (fun e : b = c => hc (e ▸ hb))]; exact h.ob c hc x hx,h.tk,h.ls⟩
theorem gel_new {s1 s : St} {L M : List Nat} {b : Nat} {o : Ob} (hb : s.getO b = none) (h : s1.gel s L M) : (s1.setO b o).gel s L M :=
 ⟨fun c hc x hx => by
  rw [St.getO_setO]
  by_cases e : b = c
  ·subst e; rw [hb] at hx; cases hx
  ·rw [if_neg e]; exact h.ob c hc x hx,h.tk,h.ls⟩
theorem gel_inT {s1 s : St} {L M : List Nat} {t : Nat} {v : Nat × TypeId} (hb : t ∈ M) (h : s1.gel s L M) : (s1.setT t v).gel s L M :=
 ⟨h.ob,fun c hc x hx => by
  rw [St.getT_setT,if_neg (fun e : t = c => hc (e ▸ hb))]; exact h.tk c hc x hx,h.ls⟩
theorem gel_newT {s1 s : St} {L M : List Nat} {t : Nat} {v : Nat × TypeId} (hb : s.getT t = none) (h : s1.gel s L M) : (s1.setT t v).gel s L M :=
 ⟨h.ob,fun c hc x hx => by
  rw [St.getT_setT]
  by_cases e : t = c
  ·subst e; rw [hb] at hx; cases hx
  ·rw [if_neg e]; exact h.tk c hc x hx,h.ls⟩
theorem gel_free {s1 s : St} {L M : List Nat} {b : Nat} (hb : s.getO b = none) (h : s1.gel s (b :: L) M) : s1.gel s L M :=
 ⟨fun c hc x hx => h.ob c (by
  simp only [List.mem_cons,not_or]
  exact ⟨fun e => (by subst e; rw [hb] at hx; cases hx),hc⟩) x hx,h.tk,h.ls⟩
theorem gel_gs {s1 s : St} {L M : List Nat} {tk : Option Nat} {n : Nat} {e : TypeId} (h : s1.gel s L M) (hf : ∀ t,tk = some t → s.getT t = none) : (gs s1 tk n e).gel s L M := by
 cases tk with
 | none => exact h
 | some t => exact gel_newT (hf t rfl) h
theorem gel_gs_in {s1 s : St} {L M : List Nat} {tk : Option Nat} {n : Nat} {e : TypeId} (h : s1.gel s L M) (hf : ∀ t,tk = some t → t ∈ M) : (gs s1 tk n e).gel s L M := by
 cases tk with
 | none => exact h
 | some t => exact gel_inT (hf t rfl) h
theorem gel_to_gs {s1 s : St} {L M : List Nat} {tk : Option Nat} {n : Nat} {e : TypeId} (hf : ∀ t,tk = some t → s1.getT t = some (n,e)) (h : s1.gel s L (tk.toList ++ M)) : s1.gel (gs s tk n e) L M := by
 cases tk with
 | none => exact h
 | some t => exact gel_setT (hf t rfl) h
theorem gel_gs_gs {s1 s : St} {L M : List Nat} {tk : Option Nat} {n : Nat} {e : TypeId} (h : s1.gel s L M) : (gs s1 tk n e).gel (gs s tk n e) L M := by
 cases tk with
 | none => exact h
 | some t =>
  refine ⟨h.ob,fun u hu m hm => ?_,h.ls⟩
  simp only [gs,St.getT_setT] at hm ⊢
  split
  ·rename_i e; rw [if_pos e] at hm; exact hm
  ·rename_i e; rw [if_neg e] at hm; exact h.tk u hu m hm
theorem gs_self {s1 : St} {tk : Option Nat} {n : Nat} {e : TypeId} : ∀ t,tk = some t → (gs s1 tk n e).getT t = some (n,e) := by
 rintro t rfl
 rw [gs_getT,if_pos rfl]
@[go_sem] theorem getT_setO (s : St) (b : Nat) (o : Ob) (t : Nat) : (s.setO b o).getT t = s.getT t := rfl
end Go.AV
end
section
namespace Go.AV
open Go Go.Proofs
set_option maxRecDepth 100000
set_option maxHeartbeats 800000
section
variable {T : List Tok} {fin : Fault} {d : Dc} {first : Tok} {i n : Nat} {s : St} {r : Nat} {KV Kp : St → A → Prop}
theorem whole_den (hT : TOk T) (hr : s.getO r = some (psO T fin d first i n)) (hi : i ≤ T.length) (hn : n ≤ 2000)
  (hk : (wholeR false fin (T.drop i) n).to (PK T (i + 1) (fun j m => s.setO r (psO T fin d first j m)) Tm.enc KV) (PB s r Kp)) : Den cx 41 [.ptr r 0] KV Kp s := by
 refine Den.drop ?_; (refine Den.of_body (C := cx) Tryz.func41 rfl rfl (Nat.le_of_ble_eq_true rfl) ?_; refine wpC_ok (V := [0,2,3,4,5]) _ _ _ _ ?_; simp only [go_sem,Tryz.ntmps41,Tryz.f41])
 have hr2 := hr
 simp only [go_sem] at hr2
 (intro b2 hb2; try simp only [getO_setO_none,gs_getO,ne_eq] at hb2); have e2 := St.ne_of hr (by first | exact hb2 | exact hb2.2 | exact hb2.2.2 | exact hb2.2.2.2 | exact hb2.2.2.2.2 | exact hb2.2.2.2.2.2 | exact hb2.2.2.2.2.2.2)
 simp only [go_sem,hr2,hb2,e2]
 (refine draw_ok (V := [0,2,3,4,5]) (OT.l [0,1,2,3,4,5,6,7,8,9,10] .nil) [(8,[3,7]),(9,[7])] mixed_cx (by decide +kernel) ?_; simp only [go_sem,hr2,hb2,e2])
 (intro b3 hb3; try simp only [getO_setO_none,gs_getO,ne_eq] at hb3); have e3 := St.ne_of hr (by first | exact hb3 | exact hb3.2 | exact hb3.2.2 | exact hb3.2.2.2 | exact hb3.2.2.2.2 | exact hb3.2.2.2.2.2 | exact hb3.2.2.2.2.2.2)
 simp only [go_sem,hr2,hb2,e2,hb3,e3]
 have hpk : (match T.drop i with | t :: w => (match termR false fin t 60 (T.drop i) 0 with | .ok a w _ => Rd.ok a w n | .bad f => .bad f).to (PK T (i + 1) (fun j m => s.setO r (psO T fin d first j m)) Tm.enc KV) (PB s r Kp) | [] => PB s r Kp fin) := by
  unfold wholeR at hk
  revert hk; cases T.drop i with
  | nil => exact fun h => h
  | cons t w => exact fun h => h
 refine peek_den (T := T) (fin := fin) (d := d) (first := first) (i := i) (n := n) (by simp only [St.getO_setO,St.getO_setL,St.getO_setT,gs_getO,ne_eq,not_false_eq_true,reduceIte,hr2,hb2,e2,hb3,e3] <;> (first | done | rfl | assumption)) hi ?_
 cases hw : T.drop i with
 | nil => rw [hw] at hpk; exact hpk.at (by (repeat (first | exact St.gx.refl _ _ | refine St.gx_r ?_ | refine St.gx_new (by first | simp only [hb2,hb3] | assumption) ?_ | refine St.gx_T (by first | simp only [hb2,hb3] | assumption) ?_))) (by simp only [St.getO_setO,St.getO_setL,St.getO_setT,gs_getO,ne_eq,not_false_eq_true,reduceIte,hr2,hb2,e2,hb3,e3] <;> (first | done | rfl | assumption))
 | cons t w =>
  rw [hw] at hpk
  simp only at hpk ⊢
  simp only [go_sem,hr2,hb2,e2,hb3,e3]
  refine term_ok hT 60 (Nat.le_refl _) _ d t i 0 _ _ (by simp only [St.getO_setO,St.getO_setL,St.getO_setT,gs_getO,ne_eq,not_false_eq_true,reduceIte,hr2,hb2,e2,hb3,e3] <;> (first | done | rfl | assumption)) hi (Nat.zero_le _) ?_
  rw [hw]
  cases ht : termR false fin t 60 (t :: w) 0 with
  | bad f => rw [ht] at hpk; exact PB.mk (by (repeat (first | exact St.gx.refl _ _ | refine St.gx_r ?_ | refine St.gx_new (by first | simp only [hb2,hb3] | assumption) ?_ | refine St.gx_T (by first | simp only [hb2,hb3] | assumption) ?_))) hpk
  | ok a w2 m =>
   rw [ht] at hpk
   intro j hj hjT hw2 hm
   have hk2 := hpk j hj hjT hw2 hn
   simp only [Tm.enc_eq] at hk2
   simp only [go_sem,hr2,hb2,e2,hb3,e3]
   (intro b5 hb5; try simp only [getO_setO_none,gs_getO,ne_eq] at hb5); have e5 := St.ne_of hr (by first | exact hb5 | exact hb5.2 | exact hb5.2.2 | exact hb5.2.2.2 | exact hb5.2.2.2.2 | exact hb5.2.2.2.2.2 | exact hb5.2.2.2.2.2.2)
   simp only [go_sem,hr2,hb2,e2,hb3,e3,hb5,e5]
   exact DK.st hk2 (St.gx.ge (by (repeat (first | exact St.gx.refl _ _ | refine St.gx_r ?_ | refine St.gx_new (by first | simp only [hb2,hb3,hb5] | assumption) ?_ | refine St.gx_T (by first | simp only [hb2,hb3,hb5] | assumption) ?_))) (by simp only [St.getO_setO,St.getO_setL,St.getO_setT,gs_getO,ne_eq,not_false_eq_true,reduceIte,hr2,hb2,e2,hb3,e3,hb5,e5] <;> (first | done | rfl | assumption)))
theorem PB.of {s1 : St} {f : Fault} (hg : s1.gx s r) (h : ∀ s1 o,s1.gx s r → s1.getO r = some o → Kp s1 (.iface 36 f.enc)) : PB s1 r (DK Kp) f := fun o => DK.here (h _ o (St.gx_r hg) (by rw [St.getO_setO,if_pos rfl]))
def condR (fin : Fault) (a : Nat) (w : List Tok) (n : Nat) : Rd Tm := match w with
 | [] => .bad fin
 | t :: r => if t.begins = true then (roomR fin a 20 (t :: r) n).bind fun _ w n => wholeR false fin w n else wholeR false fin (t :: r) n
def cndS (T : List Tok) (fin : Fault) (d : Dc) (first : Tok) (b3 r : Nat) (s : St) (a i n : Nat) : St :=
 (s.setO b3 (.cells 3 [.int .i64 (a : Int)])).setO r (psO T fin d first i n)
structure CndQ (b1 b3 r : Nat) (s : St) (a i : Nat) : Prop where
 len : a ≤ i
 h1 : s.getO b1 = some (.cells 74 [.ptr r 0])
 h3 : s.getO b3 = none
 ne : b1 ≠ r ∧ b3 ≠ r ∧ b1 ≠ b3
theorem cond1_den (hT : TOk T) (b1 b3 a : Nat) (hQ : CndQ b1 b3 r s a i) (hi : i ≤ T.length) (hn : n ≤ 2000)
  (hk : (condR fin a (T.drop i) n).to (fun x w n' => ∀ j,i + 1 ≤ j → j ≤ T.length → T.drop j = w → n' ≤ 2000 → KV (cndS T fin d first b3 r s (a + 1) j n') x.enc)
   (fun f => ∀ s1 o,s1.gx s r → s1.getO r = some o → Kp s1 (.iface 36 f.enc))) : Den cx 223 [.ptr b1 0,.ptr b3 0] KV Kp (cndS T fin d first b3 r s a i n) := by
 obtain ⟨hac,h1,h3,n1,n2,n3⟩ := hQ
 have hlen := hT.len
 refine Den.drop ?_; (refine Den.of_body (C := cx) Tryz.func223 rfl rfl (Nat.le_of_ble_eq_true rfl) ?_; refine wpC_ok (V := [0,1,2,4]) _ _ _ _ ?_; simp only [go_sem,Tryz.ntmps223,Tryz.f223])
 unfold cndS
 (intro b2 hb2; try simp only [getO_setO_none,ne_eq] at hb2)
 have e2 := St.ne_of h1 hb2.2.2
 simp only [go_sem,n1,n2,n3,n1.symm,n2.symm,n3.symm,h1,hb2,e2]
 refine starts_den (T := T) (fin := fin) (d := d) (first := first) (i := i) (n := n) (by simp only [St.getO_setO,St.getO_setL,St.getO_setT,gs_getO,ne_eq,not_false_eq_true,reduceIte,n1,n2,n3,n1.symm,n2.symm,n3.symm,h1,hb2,e2] <;> (first | done | rfl | assumption)) hi ?_
 have fin_ : ∀ (KV2 : St → A → Prop) (s2 : St),s2.gx s r → s2.getO r = some (psO T fin d first i n) →
   (∀ (j : Nat) (x : Tm) (m : Nat),i + 1 ≤ j → j ≤ T.length → m ≤ 2000 → (∀ w,T.drop j = w → KV (cndS T fin d first b3 r s (a + 1) j m) x.enc) → KV2 (s2.setO r (psO T fin d first j m)) x.enc) →
   (wholeR false fin (T.drop i) n).to (fun x w n' => ∀ j,i + 1 ≤ j → j ≤ T.length → T.drop j = w → n' ≤ 2000 → KV (cndS T fin d first b3 r s (a + 1) j n') x.enc)
    (fun f => ∀ s1 o,s1.gx s r → s1.getO r = some o → Kp s1 (.iface 36 f.enc)) → Den cx 41 [.ptr r 0] KV2 (DK Kp) s2 := by
  intro KV2 s2 hg hr2 hkv hw
  refine whole_den hT hr2 hi hn (Rd.to_mono hw (fun x w m h j hj hjT hw hm => hkv j x m hj hjT hm fun w' hw' => ?_) (fun f h => PB.of hg h))
  exact h j hj hjT hw hm
 cases hw : T.drop i with
 | nil => rw [hw] at hk; exact PB.of (by (repeat (first | exact St.gx.refl _ _ | refine St.gx_r ?_ | refine St.gx_new (by first | simp only [h3,hb2] | assumption) ?_ | refine St.gx_T (by first | simp only [h3,hb2] | assumption) ?_))) hk
 | cons t w =>
  rw [hw] at hk fin_
  simp only [condR] at hk ⊢
  cases hb : t.begins with
  | true =>
   rw [hb] at hk
   simp only [if_true,Rd.bind_to,roomR] at hk
   simp only [go_sem,n1,n2,n3,n1.symm,n2.symm,n3.symm,h1,hb2,e2]
   refine room_den (T := T) (fin := fin) (d := d) (first := first) (i := i) (n := n) _ _ (by simp only [St.getO_setO,St.getO_setL,St.getO_setT,gs_getO,ne_eq,not_false_eq_true,reduceIte,n1,n2,n3,n1.symm,n2.symm,n3.symm,h1,hb2,e2] <;> (first | done | rfl | assumption)) hi ?_
   by_cases h20 : 20 ≤ a
   ·rw [if_pos h20] at hk
    rw [if_pos (by omega),hw]
    exact PB.of (by (repeat (first | exact St.gx.refl _ _ | refine St.gx_r ?_ | refine St.gx_new (by first | simp only [h3,hb2] | assumption) ?_ | refine St.gx_T (by first | simp only [h3,hb2] | assumption) ?_))) hk
   ·rw [if_neg h20,Rd.ok_to] at hk
    rw [if_neg (by omega)]
    simp only [go_sem,n1,n2,n3,n1.symm,n2.symm,n3.symm,h1,hb2,e2,wrap1 a (by omega)]
    refine fin_ _ _ (by (repeat (first | exact St.gx.refl _ _ | refine St.gx_r ?_ | refine St.gx_new (by first | simp only [h3,hb2] | assumption) ?_ | refine St.gx_T (by first | simp only [h3,hb2] | assumption) ?_))) (by simp only [St.getO_setO,St.getO_setL,St.getO_setT,gs_getO,ne_eq,not_false_eq_true,reduceIte,n1,n2,n3,n1.symm,n2.symm,n3.symm,h1,hb2,e2] <;> (first | done | rfl | assumption)) (fun j x m hj hjT hm h => ?_) hk
    have hk2 := h _ rfl
    simp only [Tm.enc_eq,cndS] at hk2
    simp only [go_sem,n1,n2,n3,n1.symm,n2.symm,n3.symm,h1,hb2,e2,Tm.enc_eq]
    exact DK.st hk2 (by (refine gel_ge ?_; repeat (first | exact gel_refl _ _ _ | refine gel_gs_gs ?_ | refine gel_to_gs gs_self ?_ | (refine gel_to_gs ?_ ?_; focus (rintro _ ⟨⟩; simp only [getT_setO,St.getT_setL,St.getT_setT,St.getT_delT,gs_getT,reduceIte,List.length_append,List.length_cons,List.length_nil,List.length_map,Nat.zero_add,Nat.add_zero] <;> done)) | (refine gel_inT ?_ ?_; focus (simp only [Option.toList,List.cons_append,List.nil_append,List.mem_cons,true_or,or_true] <;> done)) | (refine gel_gs_in ?_ ?_; focus (simp; done)) | refine gel_set (by simp only [St.getO_setO,St.getO_setL,St.getO_setT,gs_getO,ne_eq,not_false_eq_true,reduceIte,n1,n2,n3,n1.symm,n2.symm,n3.symm,h1,hb2,e2] <;> (first | done | rfl | assumption)) ?_ | (refine gel_in ?_ ?_; focus (simp only [List.mem_cons,true_or,or_true]; done)) | refine gel_new (by first | simp only [h3,hb2] | assumption) ?_)))
  | false =>
   rw [hb] at hk
   simp only [Bool.false_eq_true,if_false] at hk
   simp only [go_sem,n1,n2,n3,n1.symm,n2.symm,n3.symm,h1,hb2,e2,wrap1 a (by omega)]
   refine fin_ _ _ (by (repeat (first | exact St.gx.refl _ _ | refine St.gx_r ?_ | refine St.gx_new (by first | simp only [h3,hb2] | assumption) ?_ | refine St.gx_T (by first | simp only [h3,hb2] | assumption) ?_))) (by simp only [St.getO_setO,St.getO_setL,St.getO_setT,gs_getO,ne_eq,not_false_eq_true,reduceIte,n1,n2,n3,n1.symm,n2.symm,n3.symm,h1,hb2,e2] <;> (first | done | rfl | assumption)) (fun j x m hj hjT hm h => ?_) hk
   have hk2 := h _ rfl
   simp only [Tm.enc_eq,cndS] at hk2
   simp only [go_sem,n1,n2,n3,n1.symm,n2.symm,n3.symm,h1,hb2,e2,Tm.enc_eq]
   exact DK.st hk2 (by (refine gel_ge ?_; repeat (first | exact gel_refl _ _ _ | refine gel_gs_gs ?_ | refine gel_to_gs gs_self ?_ | (refine gel_to_gs ?_ ?_; focus (rintro _ ⟨⟩; simp only [getT_setO,St.getT_setL,St.getT_setT,St.getT_delT,gs_getT,reduceIte,List.length_append,List.length_cons,List.length_nil,List.length_map,Nat.zero_add,Nat.add_zero] <;> done)) | (refine gel_inT ?_ ?_; focus (simp only [Option.toList,List.cons_append,List.nil_append,List.mem_cons,true_or,or_true] <;> done)) | (refine gel_gs_in ?_ ?_; focus (simp; done)) | refine gel_set (by simp only [St.getO_setO,St.getO_setL,St.getO_setT,gs_getO,ne_eq,not_false_eq_true,reduceIte,n1,n2,n3,n1.symm,n2.symm,n3.symm,h1,hb2,e2] <;> (first | done | rfl | assumption)) ?_ | (refine gel_in ?_ ?_; focus (simp only [List.mem_cons,true_or,or_true]; done)) | refine gel_new (by first | simp only [h3,hb2] | assumption) ?_)))
theorem loopR_same {α : Type} (fin : Fault) (sep : Str) (one : List α → List Tok → Nat → Rd α) : ∀ (f : Nat) (a : List α) (w : List Tok) (n : Nat) (p : List α → List Tok → Nat → Prop) (b : Fault → Prop),
  (loopR fin sep (fun acc w n => (one acc w n).bind fun a w n => .ok (acc ++ [a]) w n) f a w n).to p b →
  (loopR fin sep (fun (c : List α × List α) w n => ((one c.1 w n).bind fun a w n => Rd.ok (c.1 ++ [a],a) w n).bind fun q w n => .ok (q.1,c.2 ++ [q.2]) w n) f (a,a) w n).to (fun c w n => c.1 = c.2 ∧ p c.2 w n) b
 | 0,a,w,n,p,b,h => h
 | f + 1,a,w,n,p,b,h => by
  simp only [loopR,Rd.bind_to] at h ⊢
  refine Rd.to_mono h (fun x w n h => ?_) (fun _ h => h)
  simp only [Rd.ok_to] at h ⊢
  split
  ·rename_i e
   rw [if_pos e] at h
   exact loopR_same fin sep one f (a ++ [x]) w.tail n p b h
  ·rename_i e
   rw [if_neg e] at h
   exact ⟨rfl,h⟩
theorem condsR_eq (w : List Tok) (n : Nat) : condsR false fin w n = if isT [105,102] w = true then listR fin (fun acc w n => condR fin acc.length w n) [] w.tail n else .ok [] w n := by
 unfold condsR condR
 split
 ·congr 1
 ·rfl
theorem conds_den (hT : TOk T) (hr : s.getO r = some (psO T fin d first i n)) (hi : i ≤ T.length) (hn : n ≤ 2000)
  (hk : (condsR false fin (T.drop i) n).to (PK T i (fun j m => s.setO r (psO T fin d first j m)) (fun l => .list none (l.map Tm.enc)) KV) (PB s r Kp)) : Den cx 153 [.ptr r 0] KV Kp s := by
 rw [condsR_eq] at hk
 refine Den.drop ?_; (refine Den.of_body (C := cx) Tryz.func153 rfl rfl (Nat.le_of_ble_eq_true rfl) ?_; refine wpC_ok (V := [0,1,2,3,6]) _ _ _ _ ?_; simp only [go_sem,Tryz.ntmps153,Tryz.f153])
 (intro b1 hb1; try simp only [getO_setO_none,gs_getO,ne_eq] at hb1); have e1 := St.ne_of hr (by first | exact hb1 | exact hb1.2 | exact hb1.2.2 | exact hb1.2.2.2 | exact hb1.2.2.2.2 | exact hb1.2.2.2.2.2 | exact hb1.2.2.2.2.2.2)
 simp only [go_sem,hb1,e1]
 refine take_den (T := T) (fin := fin) (d := d) (first := first) (i := i) (n := n) _ (by simp only [St.getO_setO,St.getO_setL,St.getO_setT,gs_getO,ne_eq,not_false_eq_true,reduceIte,hb1,e1] <;> (first | done | rfl | assumption)) hi hT ?_
 cases c : isT [105,102] (T.drop i) with
 | false =>
  rw [if_neg (by simp [c]),Rd.ok_to] at hk
  simp only [go_sem,hb1,e1]
  exact DK.mk (hk i (Nat.le_refl _) hi rfl hn) (St.gx.ge (by (repeat (first | exact St.gx.refl _ _ | refine St.gx_r ?_ | refine St.gx_new (by first | simp only [hb1] | assumption) ?_ | refine St.gx_T (by first | simp only [hb1] | assumption) ?_))) (by simp only [St.getO_setO,St.getO_setL,St.getO_setT,gs_getO,ne_eq,not_false_eq_true,reduceIte,hb1,e1] <;> (first | done | rfl | assumption))) A.le.nil
 | true =>
  rw [if_pos c,List.tail_drop] at hk
  have hlt := isT_lt c
  simp only [go_sem,hb1,e1]
  (intro b3 hb3; try simp only [getO_setO_none,gs_getO,ne_eq] at hb3); have e3 := St.ne_of hr (by first | exact hb3 | exact hb3.2 | exact hb3.2.2 | exact hb3.2.2.2 | exact hb3.2.2.2.2 | exact hb3.2.2.2.2.2 | exact hb3.2.2.2.2.2.2)
  simp only [go_sem,hb1,e1,hb3,e3]
  refine Den.weaken (s' := cndS T fin d first b3 r (s.setO b1 (.cells 74 [.ptr r 0])) 0 (i + 1) n) ?_ (plist222_den (fin := fin) (σ := List Tm) (α := Tm) (X := Unit) (r := r) Tm.enc Tm.hz Tm.ho hT
    (fun s' acc _ i n => cndS T fin d first b3 r s' acc.length i n) (fun s' acc _ i => CndQ b1 b3 r s' acc.length i) (fun acc w n => (condR fin acc.length w n).bind fun a w n => .ok (acc ++ [a],a) w n) 223 [] [.ptr b1 0,.ptr b3 0]
    (fun s' a x i n => ⟨d,first,by unfold cndS; rw [St.getO_setO,if_pos rfl],by unfold cndS; rw [setO_setO]; exact St.ge.refl _⟩) (fun s' a x i n t v h ht => ⟨ht,⟨h.len,h.h1,h.h3,h.ne⟩,St.ge.refl _⟩)
    (fun s' a x i n t v u ht h => ⟨?_,⟨h.len,h.h1,h.h3,h.ne⟩,?_⟩) (fun s' a x i n t v ht h => ⟨⟨h.len,h.h1,h.h3,h.ne⟩,?_⟩)
    (fun s' a x i h => ⟨by have := h.len; omega,h.h1,h.h3,h.ne⟩) (fun s' a x i n h => St.gx_r (St.gx_new h.h3 (St.gx.refl _ _)))
    (fun s' a x i n KV' Kp' h hi' hn' hk' => cond1_den hT b1 b3 a.length h hi' hn' ?_)
    [] () (i + 1) n ?_ hlt hn ?_)
  ·exact (by (refine gel_ge ?_; repeat (first | exact gel_refl _ _ _ | refine gel_gs_gs ?_ | refine gel_to_gs gs_self ?_ | (refine gel_to_gs ?_ ?_; focus (rintro _ ⟨⟩; simp only [getT_setO,St.getT_setL,St.getT_setT,St.getT_delT,gs_getT,reduceIte,List.length_append,List.length_cons,List.length_nil,List.length_map,Nat.zero_add,Nat.add_zero] <;> done)) | (refine gel_inT ?_ ?_; focus (simp only [Option.toList,List.cons_append,List.nil_append,List.mem_cons,true_or,or_true] <;> done)) | (refine gel_gs_in ?_ ?_; focus (simp; done)) | refine gel_set (by simp only [St.getO_setO,St.getO_setL,St.getO_setT,gs_getO,ne_eq,not_false_eq_true,reduceIte,hb1,e1,hb3,e3] <;> (first | done | rfl | assumption)) ?_ | (refine gel_in ?_ ?_; focus (simp only [List.mem_cons,true_or,or_true]; done)) | refine gel_new (by first | simp only [hb1,hb3] | assumption) ?_)))
  ·show (s'.setT t v).getT t = some v
   rw [St.getT_setT,if_pos rfl]
  ·exact St.ge_setO (St.ge_setO (St.setT_over s' t v u))
  ·exact St.ge_setO (St.ge_setO (St.ge_freeT ht))
  ·rw [Rd.bind_to] at hk'
   refine Rd.to_mono hk' (fun x w m h2 j hj hjT hw hm => ?_) (fun _ h => h)
   have h3 := h2 j () (by omega) hjT hw hm ⟨by have := h.len; simp only [List.length_append,List.length_cons,List.length_nil]; omega,h.h1,h.h3,h.ne⟩
   simpa only [List.length_append,List.length_cons,List.length_nil] using h3
  ·refine ⟨Nat.zero_le _,(by simp only [St.getO_setO,St.getO_setL,St.getO_setT,gs_getO,ne_eq,not_false_eq_true,reduceIte,hb1,e1,hb3,e3] <;> (first | done | rfl | assumption)),?_,?_⟩
   ·simp only [St.getO_setO,ne_eq,reduceIte,hb3]
   ·simp only [hb3,e1,e3,ne_eq,not_false_eq_true,true_and,and_true]
  ·refine Rd.to_mono (loopR_same _ _ _ _ _ _ _ _ _ hk) (fun c w m h2 j y hj hjT hw hm hy => ?_) (fun f h s1 o hg hr1 => h.at (hg.trans (by (repeat (first | exact St.gx.refl _ _ | refine St.gx_r ?_ | refine St.gx_new (by first | simp only [hb1,hb3] | assumption) ?_ | refine St.gx_T (by first | simp only [hb1,hb3] | assumption) ?_)))) hr1)
   obtain ⟨l,ul⟩ := c
   obtain ⟨e,h2⟩ := h2
   simp only at e h2
   subst e
   have h3 := h2 j (by omega) hjT hw hm
   unfold cndS
   simp only [go_sem,hb1,e1,hb3,e3]
   exact DK.st h3 (by (refine gel_ge ?_; repeat (first | exact gel_refl _ _ _ | refine gel_gs_gs ?_ | refine gel_to_gs gs_self ?_ | (refine gel_to_gs ?_ ?_; focus (rintro _ ⟨⟩; simp only [getT_setO,St.getT_setL,St.getT_setT,St.getT_delT,gs_getT,reduceIte,List.length_append,List.length_cons,List.length_nil,List.length_map,Nat.zero_add,Nat.add_zero] <;> done)) | (refine gel_inT ?_ ?_; focus (simp only [Option.toList,List.cons_append,List.nil_append,List.mem_cons,true_or,or_true] <;> done)) | (refine gel_gs_in ?_ ?_; focus (simp; done)) | refine gel_set (by simp only [St.getO_setO,St.getO_setL,St.getO_setT,gs_getO,ne_eq,not_false_eq_true,reduceIte,hb1,e1,hb3,e3] <;> (first | done | rfl | assumption)) ?_ | (refine gel_in ?_ ?_; focus (simp only [List.mem_cons,true_or,or_true]; done)) | refine gel_new (by first | simp only [hb1,hb3] | assumption) ?_)))
end
end Go.AV
end
section
namespace Go.AV
open Go Go.Proofs
set_option maxRecDepth 100000
set_option maxHeartbeats 800000
section
variable {T : List Tok} {fin : Fault} {d : Dc} {first : Tok} {i n : Nat} {s : St} {r : Nat} {KV Kp : St → A → Prop}
theorem cell_den (hT : TOk T) (hr : s.getO r = some (psO T fin d first i n)) (hi : i ≤ T.length) (hn : n ≤ 2000)
  (hk : (cellR false fin (T.drop i) n).to (PK T (i + 1) (fun j m => s.setO r (psO T fin d first j m)) Cel.enc KV) (PB s r Kp)) : Den cx 226 [.ptr r 0] KV Kp s := by
 refine Den.drop ?_; (refine Den.of_body (C := cx) Tryz.func226 rfl rfl (Nat.le_of_ble_eq_true rfl) ?_; refine wpC_ok (V := [0,2,3,4]) _ _ _ _ ?_; simp only [go_sem,Tryz.ntmps226,Tryz.f226])
 (intro b2 hb2; try simp only [getO_setO_none,gs_getO,ne_eq] at hb2); have e2 := St.ne_of hr (by first | exact hb2 | exact hb2.2 | exact hb2.2.2 | exact hb2.2.2.2 | exact hb2.2.2.2.2 | exact hb2.2.2.2.2.2 | exact hb2.2.2.2.2.2.2)
 simp only [go_sem,hb2,e2]
 refine peek_den (T := T) (fin := fin) (d := d) (first := first) (i := i) (n := n) (by simp only [St.getO_setO,St.getO_setL,St.getO_setT,gs_getO,ne_eq,not_false_eq_true,reduceIte,hb2,e2] <;> (first | done | rfl | assumption)) hi ?_
 cases hw : T.drop i with
 | nil => rw [hw] at hk; exact hk.at (by (repeat (first | exact St.gx.refl _ _ | refine St.gx_r ?_ | refine St.gx_new (by first | simp only [hb2] | assumption) ?_ | refine St.gx_T (by first | simp only [hb2] | assumption) ?_))) (by simp only [St.getO_setO,St.getO_setL,St.getO_setT,gs_getO,ne_eq,not_false_eq_true,reduceIte,hb2,e2] <;> (first | done | rfl | assumption))
 | cons t w =>
  rw [hw] at hk
  obtain ⟨g1,g2,g3,g4⟩ := drop_get hw
  simp only [cellR,Rd.bind_to] at hk
  simp only [go_sem,hb2,e2]
  (intro b3 hb3; try simp only [getO_setO_none,gs_getO,ne_eq] at hb3); have e3 := St.ne_of hr (by first | exact hb3 | exact hb3.2 | exact hb3.2.2 | exact hb3.2.2.2 | exact hb3.2.2.2.2 | exact hb3.2.2.2.2.2 | exact hb3.2.2.2.2.2.2)
  simp only [go_sem,hb2,e2,hb3,e3]
  (refine draw_ok (V := [0,2,3,4]) (OT.l [0,2,3,4,5,1,6,7,8] .nil) [(1,[3,5]),(7,[3,5])] mixed_cx (by decide +kernel) ?_; simp only [go_sem,hb2,e2,hb3,e3])
  rw [← hw] at hk
  (refine name_den (T := T) (fin := fin) (d := d) (first := first) (i := i) (n := n) (by simp only [St.getO_setO,St.getO_setL,St.getO_setT,gs_getO,ne_eq,not_false_eq_true,reduceIte,hb2,e2,hb3,e3] <;> (first | done | rfl | assumption)) hi hT (Rd.to_mono hk (fun x1 w1 m1 hk1 hlt1 hw1 hm1 => ?_) (fun f h => PB.mk (by (repeat (first | exact St.gx.refl _ _ | refine St.gx_r ?_ | refine St.gx_new (by first | simp only [hb2,hb3] | assumption) ?_ | refine St.gx_T (by first | simp only [hb2,hb3] | assumption) ?_))) h)); subst m1; rw [← hw1] at hk1)
  simp only [go_sem,hb2,e2,hb3,e3]
  (intro b4 hb4; try simp only [getO_setO_none,gs_getO,ne_eq] at hb4); have e4 := St.ne_of hr (by first | exact hb4 | exact hb4.2 | exact hb4.2.2 | exact hb4.2.2.2 | exact hb4.2.2.2.2 | exact hb4.2.2.2.2.2 | exact hb4.2.2.2.2.2.2)
  simp only [go_sem,hb2,e2,hb3,e3,hb4,e4]
  (refine want_den (T := T) (fin := fin) (d := d) (first := first) (i := i + 1) (n := n) _ (by simp only [St.getO_setO,St.getO_setL,St.getO_setT,gs_getO,ne_eq,not_false_eq_true,reduceIte,hb2,e2,hb3,e3,hb4,e4] <;> (first | done | rfl | assumption)) hlt1 hT (Rd.to_mono hk1 (fun _ w2 m2 hk2 hlt2 hw2 hm2 => ?_) (fun f h => PB.mk (by (repeat (first | exact St.gx.refl _ _ | refine St.gx_r ?_ | refine St.gx_new (by first | simp only [hb2,hb3,hb4] | assumption) ?_ | refine St.gx_T (by first | simp only [hb2,hb3,hb4] | assumption) ?_))) h)); subst m2; rw [← hw2] at hk2)
  simp only [go_sem,hb2,e2,hb3,e3,hb4,e4]
  (refine name_den (T := T) (fin := fin) (d := d) (first := first) (i := i + 1 + 1) (n := n) (by simp only [St.getO_setO,St.getO_setL,St.getO_setT,gs_getO,ne_eq,not_false_eq_true,reduceIte,hb2,e2,hb3,e3,hb4,e4] <;> (first | done | rfl | assumption)) hlt2 hT (Rd.to_mono hk2 (fun x3 w3 m3 hk3 hlt3 hw3 hm3 => ?_) (fun f h => PB.mk (by (repeat (first | exact St.gx.refl _ _ | refine St.gx_r ?_ | refine St.gx_new (by first | simp only [hb2,hb3,hb4] | assumption) ?_ | refine St.gx_T (by first | simp only [hb2,hb3,hb4] | assumption) ?_))) h)); subst m3; rw [← hw3] at hk3)
  simp only [go_sem,hb2,e2,hb3,e3,hb4,e4]
  (refine want_den (T := T) (fin := fin) (d := d) (first := first) (i := i + 1 + 1 + 1) (n := n) _ (by simp only [St.getO_setO,St.getO_setL,St.getO_setT,gs_getO,ne_eq,not_false_eq_true,reduceIte,hb2,e2,hb3,e3,hb4,e4] <;> (first | done | rfl | assumption)) hlt3 hT (Rd.to_mono hk3 (fun _ w4 m4 hk4 hlt4 hw4 hm4 => ?_) (fun f h => PB.mk (by (repeat (first | exact St.gx.refl _ _ | refine St.gx_r ?_ | refine St.gx_new (by first | simp only [hb2,hb3,hb4] | assumption) ?_ | refine St.gx_T (by first | simp only [hb2,hb3,hb4] | assumption) ?_))) h)); subst m4; rw [← hw4] at hk4)
  simp only [go_sem,hb2,e2,hb3,e3,hb4,e4]
  (refine whole_den (T := T) (fin := fin) (d := d) (first := first) (i := i + 1 + 1 + 1 + 1) (n := n) hT (by simp only [St.getO_setO,St.getO_setL,St.getO_setT,gs_getO,ne_eq,not_false_eq_true,reduceIte,hb2,e2,hb3,e3,hb4,e4] <;> (first | done | rfl | assumption)) hlt4 hn (Rd.to_mono hk4 (fun a5 w5 m5 hk5 j5 hj5 hjT5 hw5 hm5 => ?_) (fun f h => PB.mk (by (repeat (first | exact St.gx.refl _ _ | refine St.gx_r ?_ | refine St.gx_new (by first | simp only [hb2,hb3,hb4] | assumption) ?_ | refine St.gx_T (by first | simp only [hb2,hb3,hb4] | assumption) ?_))) h)); rw [← hw5] at hk5)
  have hk := hk5 j5 (by omega) hjT5 rfl hm5
  simp only [Cel.enc,Cel.cs] at hk
  simp only [go_sem] at hk
  simp only [go_sem,hb2,e2,hb3,e3,hb4,e4,Tm.enc_eq]
  exact DK.st hk (by (refine gel_ge ?_; repeat (first | exact gel_refl _ _ _ | refine gel_gs_gs ?_ | refine gel_to_gs gs_self ?_ | (refine gel_to_gs ?_ ?_; focus (rintro _ ⟨⟩; simp only [getT_setO,St.getT_setL,St.getT_setT,St.getT_delT,gs_getT,reduceIte,List.length_append,List.length_cons,List.length_nil,List.length_map,Nat.zero_add,Nat.add_zero] <;> done)) | (refine gel_inT ?_ ?_; focus (simp only [Option.toList,List.cons_append,List.nil_append,List.mem_cons,true_or,or_true] <;> done)) | (refine gel_gs_in ?_ ?_; focus (simp; done)) | refine gel_set (by simp only [St.getO_setO,St.getO_setL,St.getO_setT,gs_getO,ne_eq,not_false_eq_true,reduceIte,hb2,e2,hb3,e3,hb4,e4] <;> (first | done | rfl | assumption)) ?_ | (refine gel_in ?_ ?_; focus (simp only [List.mem_cons,true_or,or_true]; done)) | refine gel_new (by first | simp only [hb2,hb3,hb4] | assumption) ?_)))
def funS (T : List Tok) (fin : Fault) (d : Dc) (first : Tok) (b r : Nat) (x : Str) (s : St) (tk : Option Nat) (ar : List Str) (i n : Nat) : St :=
 gs ((s.setO b (.cells 73 [.str x,gv tk (ar.map .str),.str [],.nils,.int .i64 0,.int .i64 0,.nils])).setO r (psO T fin d first i n)) tk ar.length 9
theorem fun_den (hT : TOk T) (hr : s.getO r = some (psO T fin d first i n)) (hi : i ≤ T.length) (hn : n ≤ 2000)
  (hk : (funR fin (T.drop i) n).to (PK T i (fun j m => s.setO r (psO T fin d first j m)) Opr.enc KV) (PB s r Kp)) : Den cx 152 [.ptr r 0] KV Kp s := by
 have hlenT := hT.len
 simp only [funR,Rd.bind_to] at hk
 refine Den.drop ?_; (refine Den.of_body (C := cx) Tryz.func152 rfl rfl (Nat.le_of_ble_eq_true rfl) ?_; refine wpC_ok (V := [0,2,3,4,13,24]) _ _ _ _ ?_; simp only [go_sem,Tryz.ntmps152,Tryz.f152])
 (intro b2 hb2; try simp only [getO_setO_none,gs_getO,ne_eq] at hb2); have e2 := St.ne_of hr (by first | exact hb2 | exact hb2.2 | exact hb2.2.2 | exact hb2.2.2.2 | exact hb2.2.2.2.2 | exact hb2.2.2.2.2.2 | exact hb2.2.2.2.2.2.2)
 simp only [go_sem,hb2,e2]
 (refine name_den (T := T) (fin := fin) (d := d) (first := first) (i := i) (n := n) (by simp only [St.getO_setO,St.getO_setL,St.getO_setT,gs_getO,ne_eq,not_false_eq_true,reduceIte,hb2,e2] <;> (first | done | rfl | assumption)) hi hT (Rd.to_mono hk (fun x1 w1 m1 hk1 hlt1 hw1 hm1 => ?_) (fun f h => PB.mk (by (repeat (first | exact St.gx.refl _ _ | refine St.gx_r ?_ | refine St.gx_new (by first | simp only [hb2] | assumption) ?_ | refine St.gx_T (by first | simp only [hb2] | assumption) ?_))) h)); subst m1; rw [← hw1] at hk1)
 simp only [go_sem,hb2,e2]
 (intro b3 hb3; try simp only [getO_setO_none,gs_getO,ne_eq] at hb3); have e3 := St.ne_of hr (by first | exact hb3 | exact hb3.2 | exact hb3.2.2 | exact hb3.2.2.2 | exact hb3.2.2.2.2 | exact hb3.2.2.2.2.2 | exact hb3.2.2.2.2.2.2)
 simp only [go_sem,hb2,e2,hb3,e3]
 (refine want_den (T := T) (fin := fin) (d := d) (first := first) (i := i + 1) (n := n) _ (by simp only [St.getO_setO,St.getO_setL,St.getO_setT,gs_getO,ne_eq,not_false_eq_true,reduceIte,hb2,e2,hb3,e3] <;> (first | done | rfl | assumption)) hlt1 hT (Rd.to_mono hk1 (fun _ w2 m2 hk2 hlt2 hw2 hm2 => ?_) (fun f h => PB.mk (by (repeat (first | exact St.gx.refl _ _ | refine St.gx_r ?_ | refine St.gx_new (by first | simp only [hb2,hb3] | assumption) ?_ | refine St.gx_T (by first | simp only [hb2,hb3] | assumption) ?_))) h)); subst m2; rw [← hw2] at hk2)
 simp only [go_sem,hb2,e2,hb3,e3]
 rw [show (T.drop (i + 1 + 1)).length = T.length - (i + 1 + 1) by rw [List.length_drop]] at hk2
 refine Ex.loop (ι := Option Nat × List Str × Nat) (fun c => [(0,.ptr r 0),(2,.ptr b2 0),(3,.ptr b3 0)]) (fun c => funS T fin d first b3 r x1 (s.setO b2 (.cells 73 [.str [],.nils,.str [],.nils,.int .i64 0,.int .i64 0,.nils])) c.1 c.2.1 c.2.2 n)
  (fun c => (c.1 = none → c.2.1 = []) ∧ (∀ t,c.1 = some t → s.getT t = none) ∧ i + 1 + 1 ≤ c.2.2 ∧ c.2.2 ≤ T.length ∧ c.2.1.length ≤ c.2.2 ∧ ∃ k,T.length - c.2.2 < k ∧
   (argsR fin k c.2.1 (T.drop c.2.2) n).to (fun ar w n => (nameR fin w n).to (fun y w n => PK T i (fun j m => s.setO r (psO T fin d first j m)) Opr.enc KV ⟨x1,ar,y,[],0,0,[]⟩ w n) (PB s r Kp)) (PB s r Kp))
  (fun c => T.length - c.2.2) (none,[],i + 1 + 1) ?_ ?_ ?_ ?_
 ·exact ⟨fun _ => rfl,fun t e => (by cases e),Nat.le_refl _,hlt2,Nat.zero_le _,_,Nat.lt_succ_self _,hk2⟩
 ·simp only [go_sem,hb2,e2,hb3,e3]
 ·exact (by (refine gel_ge ?_; repeat (first | exact gel_refl _ _ _ | refine gel_gs_gs ?_ | refine gel_to_gs gs_self ?_ | (refine gel_to_gs ?_ ?_; focus (rintro _ ⟨⟩; simp only [getT_setO,St.getT_setL,St.getT_setT,St.getT_delT,gs_getT,reduceIte,List.length_append,List.length_cons,List.length_nil,List.length_map,Nat.zero_add,Nat.add_zero] <;> done)) | (refine gel_inT ?_ ?_; focus (simp only [Option.toList,List.cons_append,List.nil_append,List.mem_cons,true_or,or_true] <;> done)) | (refine gel_gs_in ?_ ?_; focus (simp; done)) | refine gel_set (by simp only [St.getO_setO,St.getO_setL,St.getO_setT,gs_getO,ne_eq,not_false_eq_true,reduceIte,hb2,e2,hb3,e3] <;> (first | done | rfl | assumption)) ?_ | (refine gel_in ?_ ?_; focus (simp only [List.mem_cons,true_or,or_true]; done)) | refine gel_new (by first | simp only [hb2,hb3] | assumption) ?_)))
 ·rintro ⟨tk,ar,i2⟩ ⟨hnil,hfree,hi1,hi2,has,k,hk3,hk4⟩
  simp only at hnil hfree hi1 hi2 has hk3 hk4
  obtain ⟨k,rfl⟩ : ∃ k',k = k' + 1 := ⟨k - 1,by omega⟩
  have hg : gok (funS T fin d first b3 r x1 (s.setO b2 (.cells 73 [.str [],.nils,.str [],.nils,.int .i64 0,.int .i64 0,.nils])) tk ar i2 n) tk (ar.map A.str).length 9 := by rw [List.length_map]; exact gs_ok fun e => by rw [hnil e]; rfl
  refine wpC_ok (V := [0,2,3,4,13,24]) _ _ _ _ ?_
  unfold funS
  simp only [go_sem,hb2,e2,hb3,e3]
  refine take_den (T := T) (fin := fin) (d := d) (first := first) (i := i2) (n := n) _ (by simp only [St.getO_setO,St.getO_setL,St.getO_setT,gs_getO,ne_eq,not_false_eq_true,reduceIte,hb2,e2,hb3,e3] <;> (first | done | rfl | assumption)) hi2 hT ?_
  cases hx : isT [45,62] (T.drop i2) with
  | true =>
   rw [argsR,if_pos hx,Rd.ok_to,List.tail_drop] at hk4
   have hlt := isT_lt hx
   simp only [go_sem,hb2,e2,hb3,e3]
   (refine name_den (T := T) (fin := fin) (d := d) (first := first) (i := i2 + 1) (n := n) (by simp only [St.getO_setO,St.getO_setL,St.getO_setT,gs_getO,ne_eq,not_false_eq_true,reduceIte,hb2,e2,hb3,e3] <;> (first | done | rfl | assumption)) hlt hT (Rd.to_mono hk4 (fun x5 w5 m5 hk5 hlt5 hw5 hm5 => ?_) (fun f h => PB.mk (by (repeat (first | refine St.gx_gs ?_ hfree | refine St.gx_T hfree ?_ | exact St.gx.refl _ _ | refine St.gx_r ?_ | refine St.gx_new (by first | simp only [hb2,hb3] | assumption) ?_ | refine St.gx_T (by first | simp only [hb2,hb3] | assumption) ?_))) h)); subst m5; rw [← hw5] at hk5)
   simp only [go_sem,hb2,e2,hb3,e3]
   have hk := hk5 (i2 + 1 + 1) (by omega) hlt5 rfl hn
   simp only [Opr.enc,Opr.cs] at hk
   simp only [go_sem] at hk
   refine ⟨gv_one _ _,?_⟩
   refine DK.mk hk (by (refine gel_ge ?_; repeat (first | exact gel_refl _ _ _ | refine gel_gs_gs ?_ | refine gel_to_gs gs_self ?_ | (refine gel_to_gs ?_ ?_; focus (rintro _ ⟨⟩; simp only [getT_setO,St.getT_setL,St.getT_setT,St.getT_delT,gs_getT,reduceIte,List.length_append,List.length_cons,List.length_nil,List.length_map,Nat.zero_add,Nat.add_zero] <;> done)) | (refine gel_inT ?_ ?_; focus (simp only [Option.toList,List.cons_append,List.nil_append,List.mem_cons,true_or,or_true] <;> done)) | refine gel_gs ?_ hfree | refine gel_newT hfree ?_ | (refine gel_gs_in ?_ ?_; focus (simp; done)) | refine gel_set (by simp only [St.getO_setO,St.getO_setL,St.getO_setT,gs_getO,ne_eq,not_false_eq_true,reduceIte,hb2,e2,hb3,e3] <;> (first | done | rfl | assumption)) ?_ | (refine gel_in ?_ ?_; focus (simp only [List.mem_cons,true_or,or_true]; done)) | refine gel_new (by first | simp only [hb2,hb3] | assumption) ?_))) ?_
   exact A.le.agg ⟨⟨A.le.refl _,rfl⟩,⟨gv_le _ _ (fun e => by rw [hnil e]; rfl),rfl⟩,⟨A.le.refl _,rfl⟩,⟨A.le.nil,rfl⟩,⟨A.le.refl _,rfl⟩,⟨A.le.refl _,rfl⟩,⟨A.le.nil,rfl⟩,trivial⟩
  | false =>
   simp only [go_sem,hb2,e2,hb3,e3]
   refine peek_den (T := T) (fin := fin) (d := d) (first := first) (i := i2) (n := n) (by simp only [St.getO_setO,St.getO_setL,St.getO_setT,gs_getO,ne_eq,not_false_eq_true,reduceIte,hb2,e2,hb3,e3] <;> (first | done | rfl | assumption)) hi2 ?_
   cases hw : T.drop i2 with
   | nil => rw [hw,argsR,if_neg (by simp [isT])] at hk4; exact hk4.at (by (repeat (first | refine St.gx_gs ?_ hfree | refine St.gx_T hfree ?_ | exact St.gx.refl _ _ | refine St.gx_r ?_ | refine St.gx_new (by first | simp only [hb2,hb3] | assumption) ?_ | refine St.gx_T (by first | simp only [hb2,hb3] | assumption) ?_))) (by simp only [St.getO_setO,St.getO_setL,St.getO_setT,gs_getO,ne_eq,not_false_eq_true,reduceIte,hb2,e2,hb3,e3] <;> (first | done | rfl | assumption))
   | cons t w =>
    obtain ⟨g1,g2,g3,g4⟩ := drop_get hw
    rw [hw,argsR,if_neg (by rw [← hw,hx]; simp),Rd.bind_to] at hk4
    simp only [go_sem,hb2,e2,hb3,e3]
    (intro b4 hb4; try simp only [getO_setO_none,gs_getO,ne_eq] at hb4); have e4 := St.ne_of hr (by first | exact hb4 | exact hb4.2 | exact hb4.2.2 | exact hb4.2.2.2 | exact hb4.2.2.2.2 | exact hb4.2.2.2.2.2 | exact hb4.2.2.2.2.2.2)
    simp only [go_sem,hb2,e2,hb3,e3,hb4,e4]
    have hsome : (t.free = true → ¬ 8 ≤ ar.length) → (nameR fin (T.drop i2) n).to (fun a w n => (argsR fin k (ar ++ [a]) w n).to (fun ar w n =>
      (nameR fin w n).to (fun y w n => PK T i (fun j m => s.setO r (psO T fin d first j m)) Opr.enc KV ⟨x1,ar,y,[],0,0,[]⟩ w n) (PB s r Kp)) (PB s r Kp)) (PB s r Kp) := fun h => by
     rw [hw]
     simp only [someR] at hk4
     rw [if_neg (fun hc => h hc.1 hc.2)] at hk4
     exact hk4
    cases c1 : decide (t.kind = 1)
    ·have hk5 := hsome (fun hf => by simp [Tok.free,c1] at hf)
     simp only [go_sem,hb2,e2,hb3,e3,hb4,e4,c1]
     (refine draw_ok (V := [0,2,3,4,13,24]) (OT.l [0,1,2,3,4,5,6,7] .nil) [(3,[1])] mixed_cx (by decide +kernel) ?_; simp only [go_sem,hb2,e2,hb3,e3,hb4,e4])
     (refine name_den (T := T) (fin := fin) (d := d) (first := first) (i := i2) (n := n) (by simp only [St.getO_setO,St.getO_setL,St.getO_setT,gs_getO,ne_eq,not_false_eq_true,reduceIte,hb2,e2,hb3,e3,hb4,e4] <;> (first | done | rfl | assumption)) hi2 hT (Rd.to_mono hk5 (fun x6 w6 m6 hk6 hlt6 hw6 hm6 => ?_) (fun f h => PB.mk (by (repeat (first | refine St.gx_gs ?_ hfree | refine St.gx_T hfree ?_ | exact St.gx.refl _ _ | refine St.gx_r ?_ | refine St.gx_new (by first | simp only [hb2,hb3,hb4] | assumption) ?_ | refine St.gx_T (by first | simp only [hb2,hb3,hb4] | assumption) ?_))) h)); subst m6; rw [← hw6] at hk6)
     simp only [go_sem,hb2,e2,hb3,e3,hb4,e4]
     refine ⟨by decide,fun y hy => by simp only [List.mem_singleton] at hy; subst hy; rfl,appL_gv rfl rfl (by rw [List.length_map]; exact gs_ok fun e => by rw [hnil e]; rfl) (fun y hy => ?_) (by simp only [List.length_map,List.length_cons,List.length_nil]; omega) (fun t ht => ?_)⟩
     ·simp only [List.mem_map] at hy; obtain ⟨q,_,rfl⟩ := hy; rfl
     have hft := gs_free ht hfree
     rw [gs_set ht]
     simp only [go_sem,hb2,e2,hb3,e3,hb4,e4]
     refine ⟨(some t,ar ++ [x6],i2 + 1),⟨fun e => (by cases e),fun t' e => by cases e; exact hft,by simp only; omega,by simp only; omega,by simp only [List.length_append,List.length_cons,List.length_nil]; omega,k,by simp only; omega,hk6⟩,by simp only; omega,?_⟩
     ·simp only [funS,gv_some,List.map_append,List.map_cons,List.map_nil,List.length_append,List.length_cons,List.length_nil,List.length_map]
      exact (by (refine gel_ge ?_; repeat (first | exact gel_refl _ _ _ | refine gel_gs_gs ?_ | refine gel_to_gs gs_self ?_ | (refine gel_to_gs ?_ ?_; focus (rintro _ ⟨⟩; simp only [getT_setO,St.getT_setL,St.getT_setT,St.getT_delT,gs_getT,reduceIte,List.length_append,List.length_cons,List.length_nil,List.length_map,Nat.zero_add,Nat.add_zero] <;> done)) | (refine gel_inT ?_ ?_; focus (simp only [Option.toList,List.cons_append,List.nil_append,List.mem_cons,true_or,or_true] <;> done)) | refine gel_gs ?_ hfree | refine gel_newT hfree ?_ | (refine gel_gs_in ?_ ?_; focus (simp; done)) | refine gel_set (by simp only [St.getO_setO,St.getO_setL,St.getO_setT,gs_getO,ne_eq,not_false_eq_true,reduceIte,hb2,e2,hb3,e3,hb4,e4] <;> (first | done | rfl | assumption)) ?_ | (refine gel_in ?_ ?_; focus (simp only [List.mem_cons,true_or,or_true]; done)) | refine gel_new (by first | simp only [hb2,hb3,hb4] | assumption) ?_)))
    simp only [go_sem,hb2,e2,hb3,e3,hb4,e4,c1]
    refine isReserved145_den _ _ _ _ ?_
    simp only [go_sem,hb2,e2,hb3,e3,hb4,e4]
    cases c2 : decide (t.text ∈ reservedW)
    rotate_left
    ·have hk5 := hsome (fun hf => by simp [Tok.free,c2] at hf)
     simp only [go_sem,hb2,e2,hb3,e3,hb4,e4,c2]
     (refine draw_ok (V := [0,2,3,4,13,24]) (OT.l [0,1,2,3,4,5,6,7] .nil) [(3,[1])] mixed_cx (by decide +kernel) ?_; simp only [go_sem,hb2,e2,hb3,e3,hb4,e4])
     (refine name_den (T := T) (fin := fin) (d := d) (first := first) (i := i2) (n := n) (by simp only [St.getO_setO,St.getO_setL,St.getO_setT,gs_getO,ne_eq,not_false_eq_true,reduceIte,hb2,e2,hb3,e3,hb4,e4] <;> (first | done | rfl | assumption)) hi2 hT (Rd.to_mono hk5 (fun x6 w6 m6 hk6 hlt6 hw6 hm6 => ?_) (fun f h => PB.mk (by (repeat (first | refine St.gx_gs ?_ hfree | refine St.gx_T hfree ?_ | exact St.gx.refl _ _ | refine St.gx_r ?_ | refine St.gx_new (by first | simp only [hb2,hb3,hb4] | assumption) ?_ | refine St.gx_T (by first | simp only [hb2,hb3,hb4] | assumption) ?_))) h)); subst m6; rw [← hw6] at hk6)
     simp only [go_sem,hb2,e2,hb3,e3,hb4,e4]
     refine ⟨by decide,fun y hy => by simp only [List.mem_singleton] at hy; subst hy; rfl,appL_gv rfl rfl (by rw [List.length_map]; exact gs_ok fun e => by rw [hnil e]; rfl) (fun y hy => ?_) (by simp only [List.length_map,List.length_cons,List.length_nil]; omega) (fun t ht => ?_)⟩
     ·simp only [List.mem_map] at hy; obtain ⟨q,_,rfl⟩ := hy; rfl
     have hft := gs_free ht hfree
     rw [gs_set ht]
     simp only [go_sem,hb2,e2,hb3,e3,hb4,e4]
     refine ⟨(some t,ar ++ [x6],i2 + 1),⟨fun e => (by cases e),fun t' e => by cases e; exact hft,by simp only; omega,by simp only; omega,by simp only [List.length_append,List.length_cons,List.length_nil]; omega,k,by simp only; omega,hk6⟩,by simp only; omega,?_⟩
     ·simp only [funS,gv_some,List.map_append,List.map_cons,List.map_nil,List.length_append,List.length_cons,List.length_nil,List.length_map]
      exact (by (refine gel_ge ?_; repeat (first | exact gel_refl _ _ _ | refine gel_gs_gs ?_ | refine gel_to_gs gs_self ?_ | (refine gel_to_gs ?_ ?_; focus (rintro _ ⟨⟩; simp only [getT_setO,St.getT_setL,St.getT_setT,St.getT_delT,gs_getT,reduceIte,List.length_append,List.length_cons,List.length_nil,List.length_map,Nat.zero_add,Nat.add_zero] <;> done)) | (refine gel_inT ?_ ?_; focus (simp only [Option.toList,List.cons_append,List.nil_append,List.mem_cons,true_or,or_true] <;> done)) | refine gel_gs ?_ hfree | refine gel_newT hfree ?_ | (refine gel_gs_in ?_ ?_; focus (simp; done)) | refine gel_set (by simp only [St.getO_setO,St.getO_setL,St.getO_setT,gs_getO,ne_eq,not_false_eq_true,reduceIte,hb2,e2,hb3,e3,hb4,e4] <;> (first | done | rfl | assumption)) ?_ | (refine gel_in ?_ ?_; focus (simp only [List.mem_cons,true_or,or_true]; done)) | refine gel_new (by first | simp only [hb2,hb3,hb4] | assumption) ?_)))
    simp only [go_sem,hb2,e2,hb3,e3,hb4,e4,c2,lenS_gv hg]
    refine room_den (T := T) (fin := fin) (d := d) (first := first) (i := i2) (n := n) _ _ (by simp only [St.getO_setO,St.getO_setL,St.getO_setT,gs_getO,ne_eq,not_false_eq_true,reduceIte,hb2,e2,hb3,e3,hb4,e4] <;> (first | done | rfl | assumption)) hi2 ?_
    by_cases h8 : 8 ≤ ar.length
    ·rw [if_pos (by omega),hw]
     simp only [someR] at hk4
     rw [if_pos ⟨by simp [Tok.free,c1,c2],h8⟩] at hk4
     exact PB.mk (by (repeat (first | refine St.gx_gs ?_ hfree | refine St.gx_T hfree ?_ | exact St.gx.refl _ _ | refine St.gx_r ?_ | refine St.gx_new (by first | simp only [hb2,hb3,hb4] | assumption) ?_ | refine St.gx_T (by first | simp only [hb2,hb3,hb4] | assumption) ?_))) hk4
    rw [if_neg (by omega)]
    have hk5 := hsome (fun _ => h8)
    simp only [go_sem,hb2,e2,hb3,e3,hb4,e4]
    (refine draw_ok (V := [0,2,3,4,13,24]) (OT.l [0,1,2,3,4,5,6,7] .nil) [(3,[1])] mixed_cx (by decide +kernel) ?_; simp only [go_sem,hb2,e2,hb3,e3,hb4,e4])
    (refine name_den (T := T) (fin := fin) (d := d) (first := first) (i := i2) (n := n) (by simp only [St.getO_setO,St.getO_setL,St.getO_setT,gs_getO,ne_eq,not_false_eq_true,reduceIte,hb2,e2,hb3,e3,hb4,e4] <;> (first | done | rfl | assumption)) hi2 hT (Rd.to_mono hk5 (fun x6 w6 m6 hk6 hlt6 hw6 hm6 => ?_) (fun f h => PB.mk (by (repeat (first | refine St.gx_gs ?_ hfree | refine St.gx_T hfree ?_ | exact St.gx.refl _ _ | refine St.gx_r ?_ | refine St.gx_new (by first | simp only [hb2,hb3,hb4] | assumption) ?_ | refine St.gx_T (by first | simp only [hb2,hb3,hb4] | assumption) ?_))) h)); subst m6; rw [← hw6] at hk6)
    simp only [go_sem,hb2,e2,hb3,e3,hb4,e4]
    refine ⟨by decide,fun y hy => by simp only [List.mem_singleton] at hy; subst hy; rfl,appL_gv rfl rfl (by rw [List.length_map]; exact gs_ok fun e => by rw [hnil e]; rfl) (fun y hy => ?_) (by simp only [List.length_map,List.length_cons,List.length_nil]; omega) (fun t ht => ?_)⟩
    ·simp only [List.mem_map] at hy; obtain ⟨q,_,rfl⟩ := hy; rfl
    have hft := gs_free ht hfree
    rw [gs_set ht]
    simp only [go_sem,hb2,e2,hb3,e3,hb4,e4]
    refine ⟨(some t,ar ++ [x6],i2 + 1),⟨fun e => (by cases e),fun t' e => by cases e; exact hft,by simp only; omega,by simp only; omega,by simp only [List.length_append,List.length_cons,List.length_nil]; omega,k,by simp only; omega,hk6⟩,by simp only; omega,?_⟩
    ·simp only [funS,gv_some,List.map_append,List.map_cons,List.map_nil,List.length_append,List.length_cons,List.length_nil,List.length_map]
     exact (by (refine gel_ge ?_; repeat (first | exact gel_refl _ _ _ | refine gel_gs_gs ?_ | refine gel_to_gs gs_self ?_ | (refine gel_to_gs ?_ ?_; focus (rintro _ ⟨⟩; simp only [getT_setO,St.getT_setL,St.getT_setT,St.getT_delT,gs_getT,reduceIte,List.length_append,List.length_cons,List.length_nil,List.length_map,Nat.zero_add,Nat.add_zero] <;> done)) | (refine gel_inT ?_ ?_; focus (simp only [Option.toList,List.cons_append,List.nil_append,List.mem_cons,true_or,or_true] <;> done)) | refine gel_gs ?_ hfree | refine gel_newT hfree ?_ | (refine gel_gs_in ?_ ?_; focus (simp; done)) | refine gel_set (by simp only [St.getO_setO,St.getO_setL,St.getO_setT,gs_getO,ne_eq,not_false_eq_true,reduceIte,hb2,e2,hb3,e3,hb4,e4] <;> (first | done | rfl | assumption)) ?_ | (refine gel_in ?_ ?_; focus (simp only [List.mem_cons,true_or,or_true]; done)) | refine gel_new (by first | simp only [hb2,hb3,hb4] | assumption) ?_)))
end
end Go.AV
end
