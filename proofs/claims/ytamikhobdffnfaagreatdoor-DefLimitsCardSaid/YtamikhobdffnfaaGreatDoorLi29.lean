/-
  Part of the proof of DefLimits.
-/
import Derived.Test.YtamikhobdffnfaaGreatDoorLi28
set_option linter.unusedVariables false
set_option linter.unusedSimpArgs false
set_option linter.all false
section
namespace Go.AV
open Go Go.Proofs
set_option maxRecDepth 100000
set_option maxHeartbeats 4000000
theorem ge_newO {s s' : St} {b : Nat} {o : Ob} (hb : s.getO b = none) (h : s'.ge s) : (s'.setO b o).ge s := by
 refine ⟨fun c x hc => ?_,fun u m hm => h.tk u m hm,fun x hx => h.ls x hx⟩
 rw [St.getO_setO]
 split
 ·rename_i e; subst e; rw [hb] at hc; cases hc
 ·exact h.ob c x hc
theorem lim1_ok : ∀ a : Nat,a ≤ 2 → (termS (lim1 (58 + a))).2 = if 60 < 59 + a then ⟨19,[49],1,61⟩ else ⟨0,[],0,0⟩
 | 0,_ => lim1_0
 | 1,_ => lim1_1
 | 2,_ => lim1_2
theorem lim2_ok' (c : Nat) (hc : c ≤ 2) : (termS (lim2 (1997 + c))).2 = if 2000 < 1999 + c then ⟨3,[],1,1⟩ else ⟨0,[],0,0⟩ := by
 rw [lim2_ok (1997 + c) (by omega)]
 by_cases h : 2000 < 1999 + c
 ·rw [if_pos h,if_neg (by omega)]
 ·rw [if_neg h,if_pos (by omega)]
theorem lim3_ok : ∀ a : Nat,a ≤ 2 → (parseS (lim3 (11 + a))).2 = if 12 < 11 + a then ⟨3,[],14,1⟩ else ⟨0,[],0,0⟩
 | 0,_ => lim3_0
 | 1,_ => lim3_1
 | 2,_ => lim3_2
def comma3 (k : Nat) : Str := (List.replicate k [44,32,49]).flatten
def cell3 (k : Nat) : Str := (List.replicate k [10,99,101,108,108,32,99,32,58,32,73,110,116,32,61,32,49,46]).flatten
theorem comma3_succ (k : Nat) : comma3 k ++ [44,32,49] = comma3 (k + 1) := by simp only [comma3,List.replicate_succ',List.flatten_append]; simp
theorem comma3_len (k : Nat) : (comma3 k).length = 3 * k := by
 induction k with
 | zero => rfl
 | succ k ih => rw [← comma3_succ,List.length_append,ih]; rfl
theorem cell3_len0 (k : Nat) : (cell3 (k + 1)).length = (cell3 k).length + 18 := by simp only [cell3,List.replicate_succ',List.flatten_append]; simp
theorem cell3_len (k : Nat) : (cell3 k).length = 18 * k := by
 induction k with
 | zero => rfl
 | succ k ih => rw [cell3_len0,ih]; omega
theorem cell3_succ (k : Nat) : cell3 k ++ [10,99,101,108,108,32,99,32,58,32,73,110,116,32,61,32,49,46] = cell3 (k + 1) := by simp only [cell3,List.replicate_succ',List.flatten_append]; simp
section
variable {s : St} {KV Kp : St → A → Prop}
theorem limits_den (haw : ∀ (s : St) (KV Kp : St → A → Prop),KV s (.bool true) → Den cx 14 [] KV Kp s) (n m : Int) (hn0 : 0 ≤ n) (hn : n ≤ 255) (hm0 : 0 ≤ m) (hm : m ≤ 255) (hk : KV s (.bool true)) : Den cx 7 [.int .u8 n,.int .u8 m] KV Kp s := by
 obtain ⟨a,ha,ea⟩ : ∃ a : Nat,a ≤ 2 ∧ n.tmod 3 = a := ⟨(n % 3).toNat,by omega,by rw [Int.tmod_eq_emod_of_nonneg hn0]; omega⟩
 obtain ⟨c,hc,ec⟩ : ∃ c : Nat,c ≤ 2 ∧ m.tmod 3 = c := ⟨(m % 3).toNat,by omega,by rw [Int.tmod_eq_emod_of_nonneg hm0]; omega⟩
 refine Den.drop ?_; (refine Den.of_body (C := cx) Tryz.func7 rfl rfl (Nat.le_of_ble_eq_true rfl) ?_; refine wpC_ok (V := [0,1,4,5,6,7,9,10,11,12,14,15,16,18,24,25,26,42,46,52,53,54,66,70,75,76,77,88]) _ _ _ _ ?_; simp only [go_sem,Tryz.ntmps7,Tryz.f7])
 have w1 : IntKind.i64.wrap (a : Int) = a := wrap_in _ (by omega) (by omega)
 have w2 : IntKind.i64.wrap (59 + (a : Int)) = ((59 + a : Nat) : Int) := by rw [wrap_in _ (by omega) (by omega)]; omega
 have w3 : IntKind.i64.wrap (((59 + a : Nat) : Int) - 1) = ((58 + a : Nat) : Int) := by rw [wrap_in _ (by omega) (by omega)]; omega
 have z3 : ((3 : Int) = 0) = False := by decide
 have x1 : IntKind.i64.wrap (c : Int) = c := wrap_in _ (by omega) (by omega)
 have x2 : IntKind.i64.wrap (1999 + (c : Int)) = ((1999 + c : Nat) : Int) := by rw [wrap_in _ (by omega) (by omega)]; omega
 have x3 : IntKind.i64.wrap (((1999 + c : Nat) : Int) - 2) = ((1997 + c : Nat) : Int) := by rw [wrap_in _ (by omega) (by omega)]; omega
 have x4 : IntKind.i64.wrap (11 + (c : Int)) = ((11 + c : Nat) : Int) := by rw [wrap_in _ (by omega) (by omega)]; omega
 simp only [go_sem,ea,ec,w1,w2,w3,z3]
 refine Ex.loop (ι := Nat) (fun i => [(0,.int .u8 n),(1,.int .u8 m),(5,.int .i64 (59 + a : Nat)),(6,.str (List.replicate i 91)),(7,.str (List.replicate i 93)),(24,.int .i64 (58 + a : Nat)),(25,.int .i64 i)])
  (fun _ => s) (fun i => i ≤ 58 + a) (fun i => 58 + a - i) 0 ?_ ?_ ?_ ?_
 ·omega
 ·simp only [go_sem]
  exact ⟨rfl,rfl,rfl⟩
 ·exact St.ge.refl _
 rintro i hi
 refine wpC_ok (V := [0,1,4,5,6,7,9,10,11,12,14,15,16,18,24,25,26,42,46,52,53,54,66,70,75,76,77,88]) _ _ _ _ ?_
 simp only [go_sem]
 by_cases hlt : i < 58 + a
 ·have d1 : decide (i < 58 + a) = true := decide_eq_true hlt
  have hw : IntKind.i64.wrap ((i : Int) + 1) = ((i + 1 : Nat) : Int) := by rw [wrap_in _ (by omega) (by omega)]; omega
  simp only [go_sem,d1,hw]
  refine ⟨by rw [List.length_replicate]; unfold maxLen; omega,by rw [List.length_replicate]; unfold maxLen; omega,i + 1,by omega,by omega,?_,St.ge.refl _⟩
  simp only [go_sem]
  exact ⟨by rw [List.replicate_succ'],by rw [List.replicate_succ']⟩
 have d1 : decide (i < 58 + a) = false := decide_eq_false hlt
 obtain rfl : i = 58 + a := by omega
 simp only [go_sem,d1]
 refine ⟨by rw [List.length_replicate]; unfold maxLen; omega,by simp only [List.length_append,List.length_replicate,List.length_cons,List.length_nil]; unfold maxLen; omega,?_⟩
 refine tterm_den (lim1 (58 + a)) (by simp only [lim1,List.length_append,List.length_replicate,List.length_cons,List.length_nil]; omega) ?_
 rw [lim1_ok a ha]
 generalize (termS (lim1 (58 + a))).1 = t1
 have d6 : decide ((60 : Int) < ((59 + a : Nat) : Int)) = decide (60 < 59 + a) := by congr 1; apply propext; omega
 simp only [go_sem]
 (intro b1 hb1; try simp only [gsl_getO,gs_getO,getO_setO_none,ne_eq] at hb1)
 simp only [go_sem,hb1]
 (intro b2 hb2; try simp only [gsl_getO,gs_getO,getO_setO_none,ne_eq] at hb2)
 simp only [go_sem,hb1,hb2]
 (intro b3 hb3; try simp only [gsl_getO,gs_getO,getO_setO_none,ne_eq] at hb3)
 by_cases h6 : 60 < 59 + a
 all_goals (
  simp only [go_sem,hb1,hb2,hb3,d6,h6,decide_true,decide_false,List.lookup_cons_self]
  simp only [go_sem,hb1,hb2,hb3,ec,x1,x2,x3,z3]
  refine Ex.loop (ι := Nat) (fun i => [(1,.int .u8 m),(10,.ptr b3 0),(11,.int .i64 (1999 + c : Nat)),(12,.str ([91,49] ++ comma3 i)),(52,.int .i64 (1997 + c : Nat)),(53,.int .i64 i)])
   (fun _ => _) (fun i => i ≤ 1997 + c) (fun i => 1997 + c - i) 0 (Nat.zero_le _) ?_ (St.ge.refl _) ?_
  ·simp only [go_sem,hb1,hb2,hb3]
   exact ⟨rfl,rfl⟩
  rintro i hi
  refine wpC_ok (V := [0,1,4,5,6,7,9,10,11,12,14,15,16,18,24,25,26,42,46,52,53,54,66,70,75,76,77,88]) _ _ _ _ ?_
  simp only [go_sem,hb1,hb2,hb3]
  have hl3 := comma3_len i
  by_cases hlt : i < 1997 + c
  ·have d1 : decide (i < 1997 + c) = true := decide_eq_true hlt
   have hw : IntKind.i64.wrap ((i : Int) + 1) = ((i + 1 : Nat) : Int) := by rw [wrap_in _ (by omega) (by omega)]; omega
   simp only [go_sem,hb1,hb2,hb3,d1,hw]
   exact ⟨by rw [hl3]; unfold maxLen; omega,i + 1,by omega,by omega,⟨by rw [← comma3_succ],rfl⟩,St.ge.refl _⟩
  have d1 : decide (i < 1997 + c) = false := decide_eq_false hlt
  obtain rfl : i = 1997 + c := by omega
  simp only [go_sem,hb1,hb2,hb3,d1]
  refine ⟨by rw [hl3]; unfold maxLen; omega,?_⟩
  refine tterm_den (lim2 (1997 + c)) (by rw [lim2_len]; omega) ?_
  rw [lim2_ok' c hc]
  generalize (termS (lim2 (1997 + c))).1 = t2
  simp only [go_sem,hb1,hb2,hb3]
  (intro b4 hb4; try simp only [gsl_getO,gs_getO,getO_setO_none,ne_eq] at hb4)
  simp only [go_sem,hb1,hb2,hb3,hb4]
  (intro b5 hb5; try simp only [gsl_getO,gs_getO,getO_setO_none,ne_eq] at hb5)
  simp only [go_sem,hb1,hb2,hb3,hb4,hb5]
  have d7 : decide ((2000 : Int) < ((1999 + c : Nat) : Int)) = decide (2000 < 1999 + c) := by congr 1; apply propext; omega
  by_cases h7 : 2000 < 1999 + c
  all_goals (
   simp only [go_sem,hb1,hb2,hb3,hb4,hb5,d7,h7,decide_true,decide_false,List.lookup_cons_self]
   simp only [go_sem,hb1,hb2,hb3,hb4,hb5,ec,x1,x4,z3]
   refine Ex.loop (ι := Nat) (fun i => [(10,.ptr b3 0),(15,.str ([108,97,110,103,117,97,103,101,32,101,46] ++ cell3 i)),(16,.int .i64 (11 + c : Nat)),(75,.int .i64 (11 + c : Nat)),(76,.int .i64 i)])
    (fun _ => _) (fun i => i ≤ 11 + c) (fun i => 11 + c - i) 0 (Nat.zero_le _) ?_ (St.ge.refl _) ?_
   ·simp only [go_sem,hb1,hb2,hb3,hb4,hb5]
    exact ⟨rfl,rfl⟩
   rintro i hi
   refine wpC_ok (V := [0,1,4,5,6,7,9,10,11,12,14,15,16,18,24,25,26,42,46,52,53,54,66,70,75,76,77,88]) _ _ _ _ ?_
   simp only [go_sem,hb1,hb2,hb3,hb4,hb5]
   have hl4 := cell3_len i
   by_cases hlt : i < 11 + c
   ·have d1 : decide (i < 11 + c) = true := decide_eq_true hlt
    have hw : IntKind.i64.wrap ((i : Int) + 1) = ((i + 1 : Nat) : Int) := by rw [wrap_in _ (by omega) (by omega)]; omega
    simp only [go_sem,hb1,hb2,hb3,hb4,hb5,d1,hw]
    exact ⟨by rw [hl4]; unfold maxLen; omega,i + 1,by omega,by omega,⟨by rw [← cell3_succ],rfl⟩,St.ge.refl _⟩
   have d1 : decide (i < 11 + c) = false := decide_eq_false hlt
   obtain rfl : i = 11 + c := by omega
   simp only [go_sem,hb1,hb2,hb3,hb4,hb5,d1]
   refine parse_den (lim3 (11 + c)) (by simp only [lim3,List.length_append,List.length_flatten,List.map_replicate,List.sum_replicate_nat,List.length_cons,List.length_nil]; omega) ?_
   rw [lim3_ok c hc]
   generalize (parseS (lim3 (11 + c))).1 = t3
   simp only [go_sem,hb1,hb2,hb3,hb4,hb5]
   (intro b6 hb6; try simp only [gsl_getO,gs_getO,getO_setO_none,ne_eq] at hb6)
   simp only [go_sem,hb1,hb2,hb3,hb4,hb5,hb6]
   (intro b7 hb7; try simp only [gsl_getO,gs_getO,getO_setO_none,ne_eq] at hb7)
   simp only [go_sem,hb1,hb2,hb3,hb4,hb5,hb6,hb7]
   have d8 : decide ((12 : Int) < ((11 + c : Nat) : Int)) = decide (12 < 11 + c) := by congr 1; apply propext; omega
   by_cases h8 : 12 < 11 + c
   all_goals (
    simp only [go_sem,hb1,hb2,hb3,hb4,hb5,hb6,hb7,d8,h8,decide_true,decide_false,List.lookup_cons_self]
    refine haw _ _ _ ?_
    simp only [go_sem,hb1,hb2,hb3,hb4,hb5,hb6,hb7]
    refine DK.st hk ?_
    iterate 15 (try refine ge_newO (by simp only [hb1,hb2,hb3,hb4,hb5,hb6,hb7]) ?_)
    exact St.ge.refl s
   )
  )
 )
end
end Go.AV
end
