/-
  Part of the proof of DefStops.
-/
import Derived.Test.YtamikhobdffnfaaGreatDoorSt21
import Derived.Test.YtamikhobdffnfaaGreatDoorSt15
import Derived.Shelf.LaysM
import Derived.Shelf.Strconv.Itoa3
set_option linter.all false
set_option maxRecDepth 1000000
set_option maxHeartbeats 40000000
section
namespace Go.AV
open Go Go.Proofs
section
variable {s : St} {KV Kp : St → A → Prop}
theorem defs76_den (hk : ∀ t,s.getT t = none → KV (s.setT t (18,9)) (.list (some t) (signsW.map .str))) : Den cx 76 [] KV Kp s := by
 (refine Den.drop ?_; refine den_cxo ?_; refine Den.of_body (C := cxo) Tryz.func76 rfl rfl (Nat.le_of_ble_eq_true rfl) ?_; refine wpC_ok (V := [0]) _ _ _ _ ?_; simp only [go_sem,Tryz.ntmps76,Tryz.f76]);exact .inr fun k h => DK.here (hk k h)
def Lx.ref (KV : St → A → Prop) (x : Str) (s : St) : Prop := if 20000 < x.length then KV s (.tuple [.list none [],Fault.enc ⟨3,[],0,0⟩]) else (lexS signsW true x).out KV s
theorem def31_den (x : Str) (hx : x.length ≤ 4294967280) (hk : Lx.ref KV x s) : Den cx 31 [.str x] KV Kp s := by
 unfold Lx.ref at hk;(refine Den.drop ?_; refine den_cxo ?_; refine Den.of_body (C := cxo) Tryz.func31 rfl rfl (Nat.le_of_ble_eq_true rfl) ?_; refine wpC_ok (V := [0,2,3]) _ _ _ _ ?_; simp only [go_sem,Tryz.ntmps31,Tryz.f31]);(intro b1 hb1; try simp only [gA5,gA6,getO_setO_none,ne_eq] at hb1);simp only [go_sem,hb1];refine to_cxo ?_;refine defs76_den fun t ht => ?_
 simp only [go_sem,hb1];refine .inl ⟨by decide,fun y hy => ?_,rfl,fun y hy => ?_,by decide,?_⟩
 ·simp only [List.mem_cons,List.mem_nil_iff,or_false] at hy;rcases hy with rfl | rfl <;> rfl
 ·simp only [List.mem_map] at hy;obtain ⟨z,_,rfl⟩ := hy; rfl
 refine to_cxo ?_;refine cut75_den (tk2 := some t) x hx ?_;have fin : ∀ o,(((s.setO b1 o).setT t (18,9)).setT t (signsW.length + 2,9)).ge s := fun o => gel_ge (gel_newT ht (gel_newT ht (gel_new hb1 (gel_refl _ _ _))))
 by_cases h20 : 20000 < x.length
 ·rw [if_pos h20] at hk ⊢;simp only [go_sem,hb1];exact DK.mk hk (fin _) (A.le.refl _)
 ·rw [if_neg h20] at hk ⊢;cases hlx : lexS signsW true x with
  | ok l =>
   rw [hlx] at hk;simp only [Lx.out] at hk ⊢;simp only [go_sem,hb1];exact DK.mk hk (fin _) (A.le.refl _)
  | bad f =>
   rw [hlx] at hk;simp only [Lx.out] at hk ⊢;simp only [go_sem,hb1];exact DK.mk hk (fin _) (A.le.refl _)
end
end Go.AV
end
section
namespace Go.AV
open Go
section
variable {α β σ : Type} {fin : Fault} {z : List Tok}
def Soft (fin f : Fault) : Prop := f = fin ∨ f.code = 3
def Rd.atEnd (fin : Fault) (r : Rd α) : Prop := (∃ f,Soft fin f ∧ r = .bad f) ∨ ∃ a n,r = .ok a [] n
def Rd.same (fin : Fault) (z : List Tok) : Rd α → Rd α → Prop
 | .bad f,r2 => Soft fin f ∨ (f.code ≠ 10 ∧ r2 = .bad f)
 | .ok a w n,r2 => w = [] ∨ r2 = .ok a (w ++ z) n
theorem Rd.same_end {r1 r2 : Rd α} (h : r1.atEnd fin) : Rd.same fin z r1 r2 := by
 rcases h with ⟨f,hf,rfl⟩ | ⟨a,n,rfl⟩
 ·exact .inl hf
 ·exact .inl rfl
def Ext (fin : Fault) (z : List Tok) (F1 F2 : List Tok → Nat → Rd α) : Prop := ∀ w n,(w = [] → (F1 w n).atEnd fin) ∧ Rd.same fin z (F1 w n) (F2 (w ++ z) n)
theorem exu_of {F1 F2 : List Tok → Nat → Rd α} (h0 : ∀ n,(F1 [] n).atEnd fin) (h1 : ∀ t w n,Rd.same fin z (F1 (t :: w) n) (F2 (t :: (w ++ z)) n)) : Ext fin z F1 F2 := by
 intro w n;cases w with
 | nil => exact ⟨fun _ => h0 n,Rd.same_end (h0 n)⟩
 | cons t w => exact ⟨fun h => (by cases h),h1 t w n⟩
theorem exu_nil {F1 F2 : List Tok → Nat → Rd α} (h : Ext fin z F1 F2) (n : Nat) : (F1 [] n).atEnd fin := (h [] n).1 rfl
theorem exu_app {F1 F2 : List Tok → Nat → Rd α} (h : Ext fin z F1 F2) (w : List Tok) (n : Nat) : Rd.same fin z (F1 w n) (F2 (w ++ z) n) := (h w n).2
theorem end_bind {r : Rd α} {k : α → List Tok → Nat → Rd β} (h : r.atEnd fin) (hk : ∀ a n,(k a [] n).atEnd fin) : (r.bind k).atEnd fin := by
 rcases h with ⟨f,hf,rfl⟩ | ⟨a,n,rfl⟩
 ·exact .inl ⟨f,hf,rfl⟩
 ·exact hk a n
theorem same_bind {r1 r2 : Rd α} {k1 k2 : α → List Tok → Nat → Rd β} (h : Rd.same fin z r1 r2) (hk : ∀ a,Ext fin z (k1 a) (k2 a)) : Rd.same fin z (r1.bind k1) (r2.bind k2) := by
 cases r1 with
 | bad f =>
  rcases h with h | ⟨hc,rfl⟩
  ·exact .inl h
  ·exact .inr ⟨hc,rfl⟩
 | ok a w n =>
  rcases h with rfl | rfl
  ·exact Rd.same_end (exu_nil (hk a) n)
  ·exact exu_app (hk a) w n
theorem exu_bind {F1 F2 : List Tok → Nat → Rd α} {k1 k2 : α → List Tok → Nat → Rd β} (h : Ext fin z F1 F2) (hk : ∀ a,Ext fin z (k1 a) (k2 a)) :
  Ext fin z (fun w n => (F1 w n).bind (k1 ·)) (fun w n => (F2 w n).bind (k2 ·)) := fun w n =>
 ⟨fun hw => by subst hw; exact end_bind (exu_nil h n) (fun a n => exu_nil (hk a) n),same_bind (exu_app h w n) hk⟩
theorem exu_ok (a : α) : Ext fin z (fun w n => .ok a w n) (fun w n => .ok a w n) := fun w n => ⟨fun h => .inr ⟨a,n,by rw [h]⟩,.inr rfl⟩
theorem exu_ite (c : Prop) [Decidable c] {F1 F2 G1 G2 : List Tok → Nat → Rd α} (h : Ext fin z F1 F2) (g : Ext fin z G1 G2) :
  Ext fin z (fun w n => if c then F1 w n else G1 w n) (fun w n => if c then F2 w n else G2 w n) := by
 by_cases hc : c
 ·simp only [hc,if_true]; exact h
 ·simp only [hc,if_false]; exact g
theorem exu_isT (x : Str) {F1 F2 G1 G2 : List Tok → Nat → Rd α} (h : Ext fin z F1 F2) (g : Ext fin z G1 G2) :
  Ext fin z (fun w n => if isT x w = true then F1 w.tail n else G1 w n) (fun w n => if isT x w = true then F2 w.tail n else G2 w n) := by
 refine exu_of (fun n => ?_) (fun t w n => ?_)
 ·simp only [isT,Bool.false_eq_true,if_false]; exact exu_nil g n
 ·simp only [isT,List.tail_cons];by_cases hc : isTok t x = true
  ·simp only [hc,if_true]; exact exu_app h w n
  ·simp only [hc]; exact exu_app g (t :: w) n
theorem exu_bad {F2 : List Tok → Nat → Rd α} (f1 f2 : List Tok → Fault) (h0 : f1 [] = fin) (h : ∀ t w,f2 (t :: (w ++ z)) = f1 (t :: w)) (h10 : ∀ t w,(f1 (t :: w)).code ≠ 10 := by simp [failAt,limAt]) : Ext fin z (fun w n => (Rd.bad (f1 w) : Rd α)) (fun w n => .bad (f2 w)) :=
 exu_of (fun n => .inl ⟨_,.inl rfl,by rw [h0]⟩) (fun t w n => .inr ⟨h10 t w,by rw [h t w]⟩)
theorem exu_isT2 (x y : Str) {F1 F2 G1 G2 : List Tok → Nat → Rd α} (h : Ext fin z F1 F2) (g : Ext fin z G1 G2) :
  Ext fin z (fun w n => if isT x w = true ∨ isT y w = true then F1 w n else G1 w n) (fun w n => if isT x w = true ∨ isT y w = true then F2 w n else G2 w n) := by
 refine exu_of (fun n => ?_) (fun t w n => ?_)
 ·simp only [isT,Bool.false_eq_true,or_self,if_false]; exact exu_nil g n
 ·simp only [isT];by_cases hc : isTok t x = true ∨ isTok t y = true
  ·simp only [hc,if_true]; exact exu_app h (t :: w) n
  ·simp only [hc,if_false]; exact exu_app g (t :: w) n
theorem same_ite (c : Prop) [Decidable c] {r1 r2 s1 s2 : Rd α} (h : Rd.same fin z r1 r2) (g : Rd.same fin z s1 s2) : Rd.same fin z (if c then r1 else s1) (if c then r2 else s2) := by
 by_cases hc : c
 ·simp only [hc,if_true]; exact h
 ·simp only [hc,if_false]; exact g
theorem same_ok (a : α) (w : List Tok) (n : Nat) : Rd.same fin z (.ok a w n) (.ok a (w ++ z) n) := .inr rfl
theorem same_bad (f : Fault) (h : f.code ≠ 10 := by first | decide | simp [failAt,limAt]) : Rd.same fin z (.bad f : Rd α) (.bad f) := .inr ⟨h,rfl⟩
theorem end_fin : (Rd.bad fin : Rd α).atEnd fin := .inl ⟨fin,.inl rfl,rfl⟩
theorem exu_to0 {F1 : List Tok → Nat → Rd α} : Ext fin z (fun w n => .bad fin) F1 := fun w n => ⟨fun _ => end_fin,.inl (.inl rfl)⟩
theorem exu_cons {F1 F2 : List Tok → Nat → Rd α} (h : Ext fin z F1 F2) (t : Tok) (w : List Tok) (n : Nat) : Rd.same fin z (F1 (t :: w) n) (F2 (t :: (w ++ z)) n) := exu_app h (t :: w) n
end
section
variable {α σ : Type} {f1 f2 : Fault} {z : List Tok}
theorem want_ext (x : Str) : Ext f1 z (wantR f1 x) (wantR f2 x) := by
 have h := exu_isT (fin := f1) (z := z) x (exu_ok ()) (exu_bad (F2 := fun _ _ => .bad f1) (failAt f1 11) (failAt f2 11) rfl (fun _ _ => rfl));exact h
theorem name_ext : Ext f1 z (nameR f1) (nameR f2) := by
 refine exu_of (fun n => end_fin) (fun t w n => ?_);exact same_ite _ (same_ok _ _ _) (same_bad _)
theorem number_ext (most : Int) : Ext f1 z (numberR f1 most) (numberR f2 most) := by
 refine exu_of (fun n => end_fin) (fun t w n => ?_);exact same_ite _ (same_ite _ (same_bad _) (same_ok _ _ _)) (same_bad _)
theorem room_ext (a b : Nat) : Ext f1 z (roomR f1 a b) (roomR f2 a b) := by
 have h := exu_ite (fin := f1) (z := z) (b ≤ a) (exu_bad (α := Unit) (F2 := fun _ _ => .bad f1) (limAt f1) (limAt f2) rfl (fun _ _ => rfl)) (exu_ok ());exact h
theorem loop_ext (sep : Str) {one1 one2 : σ → List Tok → Nat → Rd σ} (h : ∀ a,Ext f1 z (one1 a) (one2 a)) : ∀ (f f' : Nat) (a : σ),f ≤ f' → Ext f1 z (loopR f1 sep one1 f a) (loopR f2 sep one2 f' a)
 | 0,f',a,_ => exu_to0 (fin := f1)
 | f + 1,f',a,hf => by
  obtain ⟨g,rfl⟩ : ∃ g,f' = g + 1 := ⟨f' - 1,by omega⟩
  have ih := loop_ext sep h f g
  have e := exu_bind (h a) (k1 := fun a w n => if isT sep w = true then loopR f1 sep one1 f a w.tail n else .ok a w n) (k2 := fun a w n => if isT sep w = true then loopR f2 sep one2 g a w.tail n else .ok a w n)
   (fun a => exu_isT sep (ih a (by omega)) (exu_ok a))
  exact e
theorem list_ext {one1 one2 : List α → List Tok → Nat → Rd α} (h : ∀ a,Ext f1 z (one1 a) (one2 a)) (acc : List α) : Ext f1 z (listR f1 one1 acc) (listR f2 one2 acc) := fun w n =>
 loop_ext [44] (one1 := fun acc w n => (one1 acc w n).bind fun a w n => .ok (acc ++ [a]) w n) (one2 := fun acc w n => (one2 acc w n).bind fun a w n => .ok (acc ++ [a]) w n)
  (fun a => exu_bind (h a) (fun b => exu_ok (a ++ [b]))) _ _ acc (by simp only [List.length_append]; omega) w n
theorem node_ext (first : Tok) : Ext f1 z (nodeR first) (nodeR first) := by
 intro w n;unfold nodeR;refine ⟨fun hw => ?_,same_ite _ (same_bad _) (same_ok _ _ _)⟩;subst hw;by_cases hc : 2000 < n + 1
 ·simp only [hc,if_true]; exact .inl ⟨_,.inr rfl,rfl⟩
 ·simp only [hc,if_false]; exact .inr ⟨(),n + 1,rfl⟩
theorem rest_ext (first : Tok) (last : Bool) (sort : Str) : Ext f1 z (restR f1 first last sort) (restR f2 first last sort) := by
 refine exu_of (fun n => .inr ⟨[],n,rfl⟩) (fun t w n => ?_);simp only [restR,isT,List.tail_cons];refine same_ite _ ?_ (same_ok _ (t :: w) _);cases w with
 | nil => exact .inl (.inl rfl)
 | cons u w =>
  refine same_ite _ (same_ite _ (same_bad _) ?_) (same_bad _);exact same_bind (exu_app (node_ext first) w n) (fun _ => exu_ok _)
theorem kid_ext (first : Tok) {tm1 tm2 : List Tok → Nat → Rd Tm} (h : Ext f1 z tm1 tm2) (acc : List Tm) : Ext f1 z (kidR false f1 first tm1 acc) (kidR false f2 first tm2 acc) := by
 by_cases h8 : acc.length = 8
 ·refine exu_of (fun n => by simp only [kidR,h8,if_true]; exact end_fin) (fun t w n => ?_);simp only [kidR,h8,if_true];exact same_ite _ (same_bad _) (exu_cons h t w n)
 ·have e : ∀ f tm,kidR false f first tm acc = tm := fun f tm => by funext w n; simp only [kidR,h8,if_false]
  rw [e,e]; exact h
theorem named_ext (first : Tok) {tm1 tm2 : List Tok → Nat → Rd Tm} (h : Ext f1 z tm1 tm2) (t : Tok) : Ext f1 z (namedR false f1 first tm1 t) (namedR false f2 first tm2 t) := by
 have e := exu_ite (fin := f1) (z := z) (t.text = [116,114,117,101]) (exu_ok (Tm.mk 2 1 [] [] [] [])) (exu_ite (t.text = [102,97,108,115,101]) (exu_ok (Tm.mk 2 0 [] [] [] []))
  (exu_isT [58] (exu_bind ((name_ext (f1 := f1) (f2 := f2))) (fun x => exu_ok (Tm.mk 6 0 t.text x [] [])))
   (exu_bind (want_ext (f1 := f1) (f2 := f2) [40]) (fun _ => exu_isT [41] (exu_ok (Tm.mk 5 0 t.text [] [] []))
    (exu_bind (list_ext (f1 := f1) (f2 := f2) (kid_ext (f1 := f1) (f2 := f2) first h) []) (fun l => exu_bind (want_ext (f1 := f1) (f2 := f2) [41]) (fun _ => exu_ok (Tm.mk 5 0 t.text [] l []))))))))
 exact e
theorem ent_ext {tm1 tm2 : List Tok → Nat → Rd Tm} (h : Ext f1 z tm1 tm2) (acc : List Tm) : Ext f1 z (entR f1 tm1 acc) (entR f2 tm2 acc) := by
 have e := exu_bind h (fun k => exu_bind (want_ext (f1 := f1) (f2 := f2) (z := z) [45,62]) (fun _ => exu_bind h (fun v => exu_ok (acc ++ [k,v]))));exact e
theorem signed_ext (first : Tok) {tm1 tm2 : List Tok → Nat → Rd Tm} (h : Ext f1 z tm1 tm2) (last : Bool) (t : Tok) : Ext f1 z (signedR f1 first tm1 last t) (signedR f2 first tm2 last t) := by
 have e1 : Ext f1 z (fun w n => match w with | [] => (Rd.bad f1 : Rd Tm) | u :: w => if u.kind = 2 ∧ u.line = t.line ∧ u.col = t.col + 1 then .ok (.mk 1 (-u.n) [] [] [] []) w n else .bad (failAt f1 11 (u :: w)))
   (fun w n => match w with | [] => .bad f2 | u :: w => if u.kind = 2 ∧ u.line = t.line ∧ u.col = t.col + 1 then .ok (.mk 1 (-u.n) [] [] [] []) w n else .bad (failAt f2 11 (u :: w))) :=
  exu_of (fun n => end_fin) (fun u w n => same_ite _ (same_ok _ _ _) (same_bad _))
 have e2 : Ext f1 z (fun w n => match w with | [] => (Rd.bad f1 : Rd Tm) | u :: w => if u.free = true ∧ isId u.text = true then .ok (.mk 4 0 u.text [] [] []) w n else .bad (failAt f1 11 (u :: w)))
   (fun w n => match w with | [] => .bad f2 | u :: w => if u.free = true ∧ isId u.text = true then .ok (.mk 4 0 u.text [] [] []) w n else .bad (failAt f2 11 (u :: w))) :=
  exu_of (fun n => end_fin) (fun u w n => same_ite _ (same_ok _ _ _) (same_bad _))
 have el : Ext f1 z (fun w n => loopR f1 [44] (entR f1 tm1) (w.length + 1) [] w n) (fun w n => loopR f2 [44] (entR f2 tm2) (w.length + 1) [] w n) := fun w n =>
  loop_ext (f1 := f1) (f2 := f2) [44] (ent_ext (f1 := f1) (f2 := f2) h) _ _ [] (by simp only [List.length_append]; omega) w n
 have e := exu_ite (t.text = [45]) e1 (exu_ite (t.text = [39]) e2 (exu_ite (t.text = [91])
  (exu_bind (exu_isT2 [124] [93] (exu_ok ([] : List Tm)) (list_ext (f1 := f1) (f2 := f2) (fun _ => h) [])) (fun l => exu_bind (rest_ext (f1 := f1) (f2 := f2) first last [76,105,115,116]) (fun r => exu_bind (want_ext (f1 := f1) (f2 := f2) [93]) (fun _ => exu_ok (Tm.mk 7 0 [] [] l r)))))
  (exu_ite (t.text = [123])
   (exu_bind (exu_isT2 [124] [125] (exu_ok ([] : List Tm)) el) (fun l => exu_bind (rest_ext (f1 := f1) (f2 := f2) first last [77,97,112]) (fun r => exu_bind (want_ext (f1 := f1) (f2 := f2) [125]) (fun _ => exu_ok (Tm.mk 8 0 [] [] l r)))))
   (exu_ok (Tm.mk 6 0 t.text [65,110,121] [] [])))))
 exact e
theorem term_ext (first : Tok) : ∀ (k : Nat),Ext f1 z (termR false f1 first k) (termR false f2 first k)
 | 0 => exu_of (fun n => end_fin) (fun t w n => same_ite _ (same_bad _) (same_bad _))
 | k + 1 => by
  have ih := term_ext first k
  refine exu_of (fun n => end_fin) (fun t w n => ?_);refine same_ite _ ?_ (same_bad _);refine same_bind (exu_app (node_ext first) w n) (fun _ => ?_);exact exu_ite _ (exu_ok _) (exu_ite _ (exu_ok _) (exu_ite _ (named_ext (f1 := f1) (f2 := f2) first ih t) (signed_ext (f1 := f1) (f2 := f2) first ih _ t)))
theorem whole_ext : Ext f1 z (wholeR false f1) (wholeR false f2) := by
 refine exu_of (fun n => end_fin) (fun t w n => ?_);have h := exu_cons (term_ext (f1 := f1) (f2 := f2) (z := z) t 60) t w 0;simp only [wholeR];cases hr : termR false f1 t 60 (t :: w) 0 with
 | bad f =>
  rw [hr] at h;rcases h with h | ⟨hc,h⟩
  ·exact .inl h
  ·rw [h]; exact .inr ⟨hc,rfl⟩
 | ok a w' m =>
  rw [hr] at h;rcases h with h | h
  ·exact .inl h
  ·rw [h]; exact .inr rfl
theorem some_ext {k1 k2 : List Tok → Nat → Rd α} (h : Ext f1 z k1 k2) (a b : Nat) : Ext f1 z (fun w n => someR f1 a b w n k1) (fun w n => someR f2 a b w n k2) :=
 exu_of (fun n => end_fin) (fun t w n => same_ite _ (same_bad _) (exu_cons h t w n))
theorem conds_ext : Ext f1 z (condsR false f1) (condsR false f2) := by
 have one : ∀ acc : List Tm,Ext f1 z (fun w n => match w with | [] => .bad f1 | t :: r => if t.begins = true then (roomR f1 acc.length 20 (t :: r) n).bind fun _ w n => wholeR false f1 w n else wholeR false f1 (t :: r) n)
   (fun w n => match w with | [] => .bad f2 | t :: r => if t.begins = true then (roomR f2 acc.length 20 (t :: r) n).bind fun _ w n => wholeR false f2 w n else wholeR false f2 (t :: r) n) := fun acc =>
  exu_of (fun n => end_fin) (fun t w n => same_ite _ (same_bind (exu_cons (room_ext (f1 := f1) (f2 := f2) _ _) t w n) (fun _ => (whole_ext (f1 := f1) (f2 := f2)))) (exu_cons (whole_ext (f1 := f1) (f2 := f2)) t w n))
 have e := exu_isT (fin := f1) (z := z) [105,102] (list_ext (f1 := f1) (f2 := f2) one []) (exu_ok ([] : List Tm));exact e
theorem cell_ext : Ext f1 z (cellR false f1) (cellR false f2) := by
 refine exu_of (fun n => end_fin) (fun t w n => ?_);have e := exu_cons (exu_bind ((name_ext (f1 := f1) (f2 := f2) (z := z))) (fun x => exu_bind (want_ext (f1 := f1) (f2 := f2) [58]) (fun _ => exu_bind ((name_ext (f1 := f1) (f2 := f2))) (fun y => exu_bind (want_ext (f1 := f1) (f2 := f2) [61]) (fun _ => exu_bind ((whole_ext (f1 := f1) (f2 := f2))) (fun i => exu_ok (⟨x,y,i,t.line,t.col⟩ : Cel))))))) t w n;exact e
theorem pieces_ext : ∀ (f f' : Nat) (ps : List Piece) (az : List Str) (tx : Bool),f ≤ f' → Ext f1 z (piecesR f1 f ps az tx) (piecesR f2 f' ps az tx)
 | 0,f',ps,az,tx,_ => exu_to0 (fin := f1)
 | f + 1,f',ps,az,tx,hf => by
  obtain ⟨g,rfl⟩ : ∃ g,f' = g + 1 := ⟨f' - 1,by omega⟩
  refine exu_of (fun n => end_fin) (fun t w n => ?_);simp only [piecesR,isT,List.tail_cons];refine same_ite _ (same_ok _ _ _) (same_ite _ (same_ite _ (same_bad _) (same_ite _ ?_ (same_ite _ (same_bad _) ?_))) (same_bad _))
  ·exact exu_app (pieces_ext f g _ _ _ (by omega)) w n
  ·exact exu_app (pieces_ext f g _ _ _ (by omega)) w n
theorem attrs_ext : ∀ (f f' : Nat) (o : Opr),f ≤ f' → Ext f1 z (attrsR f1 f o) (attrsR f2 f' o)
 | 0,f',o,_ => exu_to0 (fin := f1)
 | f + 1,f',o,hf => by
  obtain ⟨g,rfl⟩ : ∃ g,f' = g + 1 := ⟨f' - 1,by omega⟩
  have ih := fun o => attrs_ext f g o (by omega)
  refine exu_of (fun n => end_fin) (fun t w n => ?_);simp only [attrsR,isT];refine same_ite _ (same_ok _ (t :: w) _) (same_ite _ (same_bad _) (same_ite _ (same_ite _ (same_bad _) ?_) (same_ite _ (same_ite _ ?_ (same_bad _)) (same_ite _ (same_ite _ ?_ (same_bad _)) (same_ite _ (same_ite _ (same_bad _) ?_) (same_bad _))))))
  ·exact same_bind (exu_app (number_ext (f1 := f1) (f2 := f2) 20) w n) (fun m => ih _)
  ·exact exu_app (ih _) w n
  ·exact exu_app (ih _) w n
  ·exact same_bind (exu_app (want_ext (f1 := f1) (f2 := f2) [40]) w n) (fun _ => exu_bind (list_ext (f1 := f1) (f2 := f2) (fun _ => number_ext (f1 := f1) (f2 := f2) 8) []) (fun l => exu_bind (want_ext (f1 := f1) (f2 := f2) [41]) (fun _ => ih _)))
theorem op_ext : Ext f1 z (opR f1) (opR f2) := by
 have e := exu_bind ((name_ext (f1 := f1) (f2 := f2) (z := z))) (fun x => exu_bind (want_ext (f1 := f1) (f2 := f2) [58]) (fun _ => exu_bind (F1 := fun w n => piecesR f1 (w.length + 1) [] [] false w n) (F2 := fun w n => piecesR f2 (w.length + 1) [] [] false w n)
  (fun w n => pieces_ext (f1 := f1) (f2 := f2) _ _ _ _ _ (by simp only [List.length_append]; omega) w n) (fun p => exu_bind ((name_ext (f1 := f1) (f2 := f2))) (fun y =>
   (show Ext f1 z (fun w n => attrsR f1 (w.length + 1) ⟨x,p.2.1,y,if p.2.2 = true then p.1 else [],0,0,[]⟩ w n) (fun w n => attrsR f2 (w.length + 1) ⟨x,p.2.1,y,if p.2.2 = true then p.1 else [],0,0,[]⟩ w n) from
    fun w n => attrs_ext (f1 := f1) (f2 := f2) _ _ _ (by simp only [List.length_append]; omega) w n)))))
 exact e
theorem args_ext : ∀ (f f' : Nat) (az : List Str),f ≤ f' → Ext f1 z (argsR f1 f az) (argsR f2 f' az)
 | 0,f',az,_ => exu_to0 (fin := f1)
 | f + 1,f',az,hf => by
  obtain ⟨g,rfl⟩ : ∃ g,f' = g + 1 := ⟨f' - 1,by omega⟩
  have e := exu_isT (fin := f1) (z := z) [45,62] (exu_ok az) (exu_bind (some_ext (f1 := f1) (f2 := f2) ((name_ext (f1 := f1) (f2 := f2))) 8 az.length) (fun x => args_ext f g (az ++ [x]) (by omega)));exact e
theorem fun_ext : Ext f1 z (funR f1) (funR f2) := by
 have e := exu_bind ((name_ext (f1 := f1) (f2 := f2) (z := z))) (fun x => exu_bind (want_ext (f1 := f1) (f2 := f2) [58]) (fun _ => exu_bind (F1 := fun w n => argsR f1 (w.length + 1) [] w n) (F2 := fun w n => argsR f2 (w.length + 1) [] w n)
  (fun w n => args_ext (f1 := f1) (f2 := f2) _ _ _ (by simp only [List.length_append]; omega) w n) (fun az => exu_bind ((name_ext (f1 := f1) (f2 := f2))) (fun y => exu_ok (⟨x,az,y,[],0,0,[]⟩ : Opr)))))
 exact e
theorem part_ext (r : Rul) : Ext f1 z (partR false f1 r) (partR false f2 r) := by
 refine exu_of (fun n => end_fin) (fun t w n => ?_);simp only [partR];refine same_ite _ ?_ (same_ite _ ?_ ?_)
 ·exact same_bind (exu_app (want_ext (f1 := f1) (f2 := f2) [40]) w n) (fun _ => exu_bind (list_ext (f1 := f1) (f2 := f2) (fun _ => (whole_ext (f1 := f1) (f2 := f2))) []) (fun l => exu_bind (want_ext (f1 := f1) (f2 := f2) [41]) (fun _ => exu_ok _)))
 ·exact same_bind (exu_app (want_ext (f1 := f1) (f2 := f2) [64]) w n) (fun _ => exu_bind name_ext (fun x => exu_ok _))
 ·exact same_bind (exu_cons (name_ext (f1 := f1) (f2 := f2)) t w n) (fun x => exu_bind (exu_isT [64] (name_ext (f1 := f1) (f2 := f2)) (exu_ok ([] : Str))) (fun y => exu_bind (want_ext (f1 := f1) (f2 := f2) [58]) (fun _ => exu_bind whole_ext (fun l =>
   exu_bind (exu_isT [61,62] (exu_bind whole_ext (fun u => exu_ok [u])) (exu_ok ([] : List Tm))) (fun rs => exu_ok _)))))
theorem parts_ext (c : Rul × Nat) : Ext f1 z (partsR false f1 c) (partsR false f2 c) :=
 exu_of (fun n => end_fin) (fun t w n => same_ite _ (same_bad _) (same_bind (exu_cons (part_ext c.1) t w n) (fun x => exu_ok _)))
theorem rule_ext (line col : Int) : Ext f1 z (ruleR false f1 line col) (ruleR false f2 line col) := by
 have e := exu_bind ((name_ext (f1 := f1) (f2 := f2) (z := z))) (fun x => exu_bind (want_ext (f1 := f1) (f2 := f2) [58]) (fun _ =>
  exu_bind (F1 := fun w n => loopR f1 [59] (partsR false f1) (w.length + 1) (⟨x,[],[],[],[],line,col⟩,0) w n) (F2 := fun w n => loopR f2 [59] (partsR false f2) (w.length + 1) (⟨x,[],[],[],[],line,col⟩,0) w n)
   (fun w n => loop_ext (f1 := f1) (f2 := f2) [59] parts_ext _ _ _ (by simp only [List.length_append]; omega) w n) (fun c => exu_bind ((conds_ext (f1 := f1) (f2 := f2))) (fun l => exu_ok { c.1 with cond := l }))))
 exact e
theorem place_same (d : Dfn) (t : Tok) (w : List Tok) (n : Nat) : Rd.same f1 z (placeR false f1 d t w n) (placeR false f2 d t (w ++ z) n) := by
 simp only [placeR];refine same_ite _ (same_ite _ ?_ (same_bad _)) (same_ite _ (same_ite _ ?_ (same_bad _)) (same_ite _ (same_ite _ (same_bad _) ?_) (same_ite _ (same_ite _ ?_ (same_bad _)) (same_bad _))))
 ·exact same_bind (exu_app (name_ext (f1 := f1) (f2 := f2)) w n) (fun x => exu_ok _)
 ·exact same_bind (exu_app (name_ext (f1 := f1) (f2 := f2)) w n) (fun x => exu_ok _)
 ·exact same_bind (exu_app (cell_ext (f1 := f1) (f2 := f2)) w n) (fun x => exu_ok _)
 ·exact same_bind (exu_app (name_ext (f1 := f1) (f2 := f2)) w n) (fun x => exu_bind (want_ext (f1 := f1) (f2 := f2) [40]) (fun _ => exu_bind (list_ext (f1 := f1) (f2 := f2) (fun acc => some_ext (f1 := f1) (f2 := f2) (cell_ext (f1 := f1) (f2 := f2)) 12 acc.length) d.many) (fun l => exu_bind (want_ext (f1 := f1) (f2 := f2) [41]) (fun _ => exu_ok _))))
theorem item_ext (d : Dfn) : Ext f1 z (itemR false f1 d) (itemR false f2 d) := by
 refine exu_of (fun n => end_fin) (fun t w n => ?_);simp only [itemR];refine same_bind ?_ (fun d => exu_bind (want_ext (f1 := f1) (f2 := f2) [46]) (fun _ => exu_ok d));refine same_ite _ ?_ (same_ite _ (same_ite _ (same_bad _) ?_) (same_ite _ ?_ (same_ite _ (same_ite _ (same_bad _) (same_ite _ ?_ ?_)) (same_ite _ (same_ite _ (same_bad _) ?_) (same_ite _ (same_ite _ (same_bad _) ?_) (place_same d t w n))))))
 ·exact same_bind (exu_app (list_ext (f1 := f1) (f2 := f2) (fun acc => some_ext (f1 := f1) (f2 := f2) (name_ext (f1 := f1) (f2 := f2)) 40 acc.length) d.sig.sorts) w n) (fun l => exu_ok _)
 ·exact same_bind (exu_app (name_ext (f1 := f1) (f2 := f2)) w n) (fun x => exu_bind (want_ext (f1 := f1) (f2 := f2) [60]) (fun _ => exu_bind name_ext (fun y => exu_ok _)))
 ·exact same_bind (exu_app (list_ext (f1 := f1) (f2 := f2) (fun _ => (name_ext (f1 := f1) (f2 := f2))) []) w n) (fun l => exu_ok _)
 ·exact same_bind (exu_app (op_ext (f1 := f1) (f2 := f2)) w n) (fun o => exu_ok _)
 ·exact same_bind (exu_app (fun_ext (f1 := f1) (f2 := f2)) w n) (fun o => exu_ok _)
 ·exact same_bind (exu_app (whole_ext (f1 := f1) (f2 := f2)) w n) (fun l => exu_bind (want_ext (f1 := f1) (f2 := f2) [61]) (fun _ => exu_bind whole_ext (fun r => exu_bind conds_ext (fun c => exu_ok _))))
 ·exact same_bind (exu_app (rule_ext _ _) w n) (fun r => exu_ok _)
theorem items_ext : ∀ (f f' : Nat) (d : Dfn),f ≤ f' → Ext f1 z (itemsR false f1 f d) (itemsR false f2 f' d)
 | 0,f',d,_ => exu_to0 (fin := f1)
 | f + 1,f',d,hf => by
  obtain ⟨g,rfl⟩ : ∃ g,f' = g + 1 := ⟨f' - 1,by omega⟩
  refine exu_of (fun n => .inr ⟨d,n,rfl⟩) (fun t w n => ?_);exact same_bind (exu_cons (item_ext d) t w n) (fun d => items_ext f g d (by omega))
theorem def_stays {f : Fault} {T : List Tok} (h : defR false f1 T = .bad f) (h1 : f ≠ f1) (h2 : f.code ≠ 3) : f.code ≠ 10 ∧ defR false f2 (T ++ z) = .bad f := by
 have e : Rd.same f1 z (defR false f1 T) (defR false f2 (T ++ z)) :=
  same_bind (exu_app (want_ext (f1 := f1) (f2 := f2) [108,97,110,103,117,97,103,101]) T 0) (fun _ => exu_bind name_ext (fun x => exu_bind (want_ext (f1 := f1) (f2 := f2) [46]) (fun _ =>
   (show Ext f1 z (fun w n => itemsR false f1 (w.length + 1) { noDfn with name := x } w n) (fun w n => itemsR false f2 (w.length + 1) { noDfn with name := x } w n) from
    fun w n => items_ext _ _ _ (by simp only [List.length_append]; omega) w n))))
 rw [h] at e;rcases e with (e | e) | e
 ·exact absurd e h1
 ·exact absurd e h2
 ·exact e
end
end Go.AV
end
section
namespace Go.AV
open Go Go.Proofs
theorem long_den (s : St) (x : Str) (KV Kp) (hx : x.length ≤ 4294967290) (hk : (lexS signsW true x).out KV s) : Den cx 141 [.str x] KV Kp s := by
 refine Den.drop ?_; (refine Den.of_body (C := cx) Tryz.func141 rfl rfl (Nat.le_of_ble_eq_true rfl) ?_; refine wpC_ok (V := [0,2,3]) _ _ _ _ ?_; simp only [go_sem,Tryz.ntmps141,Tryz.f141]);(intro q hq; try simp only [getO_setO_none,ne_eq] at hq);simp only [go_sem,hq];refine fields_signs _ _ _ ?_;simp only [go_sem,wordsA];(intro r hr; try simp only [getO_setO_none,ne_eq] at hr);have hq' : q ≠ r := hr.1.1;simp only [go_sem,hr,hq,hq'];refine cut_den _ r x signsW _ _ (by rw [gA1,if_pos rfl]; rfl) hx (by decide) fun o => ?_
 cases hl : lexS signsW true x with
 | ok l =>
  rw [hl] at hk;simp only [Lx.out] at hk ⊢;simp only [go_sem,hr,hq,hq',Fault.none];exact DK.st hk (St.ge_set hq (St.ge_set hr.2 (St.ge_new hq)))
 | bad f =>
  rw [hl] at hk;simp only [Lx.out] at hk ⊢;simp only [go_sem,hr,hq,hq'];exact DK.st hk (St.ge_set hq (St.ge_set hr.2 (St.ge_new hq)))
end Go.AV
end
section
namespace Go.Proofs
open Go.Shelf
def Tryz.laysM171_ren : Go.Shelf.Ren := ⟨fun | 171 => 169 | 243 => 244 | 246 => 287 | 283 => 307 | 284 => 308 | 285 => 309 | 286 => 310 | 129 => 319 | 317 => 318 | 318 => 320 | 319 => 321 | 320 => 322 | 337 => 329 | 338 => 330 | n => n,fun | 3 => 3 | 9 => 9 | 2 => 2 | 4 => 4 | 171 => 283 | 0 => 0 | 53 => 284 | 37 => 152 | 5 => 5 | 173 => 287 | 212 => 303 | 51 => 277 | 20 => 20 | 213 => 304 | 46 => 282 | 232 => 326 | 233 => 327 | n => n,fun | 17 => 3 | 18 => 4 | 19 => 5 | n => n⟩
theorem Tryz.laysM171 : Go.Proofs.LaysM.n171 Tryz.prog Tryz.laysM171_ren := {
 mixed := by kernel_rfl
 f129 := Tryz.func319.trans (congrArg some (by kernel_rfl))
 f171 := Tryz.func169.trans (congrArg some (by kernel_rfl))
 f243 := Tryz.func244.trans (congrArg some (by kernel_rfl))
 f246 := Tryz.func287.trans (congrArg some (by kernel_rfl))
 f283 := Tryz.func307.trans (congrArg some (by kernel_rfl))
 f284 := Tryz.func308.trans (congrArg some (by kernel_rfl))
 f285 := Tryz.func309.trans (congrArg some (by kernel_rfl))
 f286 := Tryz.func310.trans (congrArg some (by kernel_rfl))
 f317 := Tryz.func318.trans (congrArg some (by kernel_rfl))
 f318 := Tryz.func320.trans (congrArg some (by kernel_rfl))
 f319 := Tryz.func321.trans (congrArg some (by kernel_rfl))
 f320 := Tryz.func322.trans (congrArg some (by kernel_rfl))
 f337 := Tryz.func329.trans (congrArg some (by kernel_rfl))
 f338 := Tryz.func330.trans (congrArg some (by kernel_rfl))
 t0 := Tryz.underlying0
 a0 := Tryz.isAgg0
 z0 := Tryz.sizeOf0
 v0 := Tryz.zeroValue0
 t2 := Tryz.underlying2
 a2 := Tryz.isAgg2
 z2 := Tryz.sizeOf2
 v2 := Tryz.zeroValue2
 t3 := Tryz.underlying3
 a3 := Tryz.isAgg3
 z3 := Tryz.sizeOf3
 v3 := Tryz.zeroValue3
 t4 := Tryz.underlying4
 a4 := Tryz.isAgg4
 z4 := Tryz.sizeOf4
 v4 := Tryz.zeroValue4
 t5 := Tryz.underlying5
 a5 := Tryz.isAgg5
 z5 := Tryz.sizeOf5
 v5 := Tryz.zeroValue5
 t9 := Tryz.underlying9
 a9 := Tryz.isAgg9
 z9 := Tryz.sizeOf9
 v9 := Tryz.zeroValue9
 t20 := Tryz.underlying20
 a20 := Tryz.isAgg20
 z20 := Tryz.sizeOf20
 v20 := Tryz.zeroValue20
 t37 := Tryz.underlying152
 a37 := Tryz.isAgg152
 z37 := Tryz.sizeOf152
 v37 := Tryz.zeroValue152
 t46 := Tryz.underlying282
 a46 := Tryz.isAgg282
 z46 := Tryz.sizeOf282
 v46 := Tryz.zeroValue282
 t51 := Tryz.underlying277
 a51 := Tryz.isAgg277
 z51 := Tryz.sizeOf277
 v51 := Tryz.zeroValue277
 t53 := Tryz.underlying284
 a53 := Tryz.isAgg284
 z53 := Tryz.sizeOf284
 v53 := Tryz.zeroValue284
 t171 := Tryz.underlying283
 a171 := Tryz.isAgg283
 z171 := Tryz.sizeOf283
 v171 := Tryz.zeroValue283
 t173 := Tryz.underlying287
 a173 := Tryz.isAgg287
 z173 := Tryz.sizeOf287
 v173 := Tryz.zeroValue287
 t212 := Tryz.underlying303
 a212 := Tryz.isAgg303
 z212 := Tryz.sizeOf303
 v212 := Tryz.zeroValue303
 t213 := Tryz.underlying304
 a213 := Tryz.isAgg304
 z213 := Tryz.sizeOf304
 t232 := Tryz.underlying326
 a232 := Tryz.isAgg326
 z232 := Tryz.sizeOf326
 v232 := Tryz.zeroValue326
 t233 := Tryz.underlying327
 a233 := Tryz.isAgg327
 z233 := Tryz.sizeOf327
 v233 := Tryz.zeroValue327
 g17 := by kernel_rfl
 g18 := by kernel_rfl
 g19 := by kernel_rfl
 i0 := by kernel_rfl
 i2 := by kernel_rfl
 i3 := by kernel_rfl
 i4 := by kernel_rfl
 i5 := by kernel_rfl
 i9 := by kernel_rfl
 i20 := by kernel_rfl
 i37 := by kernel_rfl
 i46 := by kernel_rfl
 i51 := by kernel_rfl
 i53 := by kernel_rfl
 i171 := by kernel_rfl
 i173 := by kernel_rfl
 i212 := by kernel_rfl
 i232 := by kernel_rfl
 i233 := by kernel_rfl
 m17 := by kernel_rfl
 m18 := by kernel_rfl
 m19 := by kernel_rfl }
open Go.RowKit Go.Sort Go.Lib in
theorem Tryz.strconv_Itoa (n : Int) (h0 : -9223372036854775808 ≤ n) (h1 : n ≤ 9223372036854775807) (w : World) (htab : Lib.TabIs Tryz.prog w "internal/strconv.uint64pow10" .u64 Lib.pow10Tab) :
  Calls Tryz.prog 169 #[.int .i64 n] w fun e w' => e = .returned (.string ⟨(Lib.itoa n).toArray⟩) ∧ ∃ k os,w' = grow (w.drewN k) os := Any.strconv_Itoa Tryz.laysM171 n h0 h1 w htab
end Go.Proofs
namespace Go.AV
open Go Go.Proofs
theorem pow_named : Tryz.prog.globalNamed "internal/strconv.uint64pow10" = some 3 := by kernel_rfl
theorem powS_eq : powS = Lib.pow10Tab.map (fun z => A.int .u64 z) := by kernel_rfl
theorem enter_run {P : Program} {f : FuncId} {fn : Func} {c : Code} (hf : P.funcs[f]? = some fn) (hb : fn.body = some c) (hname : (fn.name == "runtime.NumGoroutine") = false) (vals : Array Value) (w : World) :
  (callFunc f vals).run P w = .ok (.enter f vals) w := by
 simp only [callFunc,Sem.run_bind,run_program,Result.andThen_ok,hf,hname,Bool.false_eq_true,↓reduceIte,hb,Option.isNone_some,Sem.run_pure]
theorem itoa_den (n : Int) (h0 : -9223372036854775808 ≤ n) (h1 : n ≤ 9223372036854775807) (s : St) (KV Kp : St → A → Prop) (hk : KV s (.str (Lib.itoa n))) : Den cx 169 [.int .i64 n] KV Kp s := by
 refine Den.of_calls (fun vals w => ?_) fun F g w vals hR hv => ?_
 ·exact enter_run (P := Tryz.prog) Tryz.func169 rfl rfl vals w
 ·obtain ⟨v,hv0,hr⟩ := hv.get (j := 0) rfl;have hl := hv.1
  have hvs : vals = [.int .i64 n] := by
   match vals,hl,hv0 with
   | [x],_,h => simp only [List.getElem?_cons_zero,Option.some.injEq] at h; subst h; rw [hr.int_inv]
  subst hvs
  have htab : Lib.TabIs Tryz.prog w "internal/strconv.uint64pow10" .u64 Lib.pow10Tab := by
   obtain ⟨pre,ty,fr,h1,h2,h3,h4,h5⟩ := hR.gpi (b := 3) (cs := powS) rfl;unfold Lib.TabIs World.var?;rw [pow_named];simp only [Option.bind_some,h1,Option.some.injEq];congr 1;apply List.ext_getElem?;intro i;by_cases hi : i < powS.length
   ·have hp : i < pre.length := by rw [h3]; exact hi
    have hc : powS[i]? = some (.int .u64 (Lib.pow10Tab[i]'(by rw [powS_eq] at hi; simpa using hi))) := by
     rw [List.getElem?_eq_getElem hi];simp [powS_eq]
    have := h5 i _ _ hc (List.getElem?_eq_getElem hp);rw [List.getElem?_eq_getElem hp,this.int_inv];rw [powS_eq] at hi;simp only [List.length_map] at hi;simp [hi]
   ·rw [List.getElem?_eq_none (by omega),List.getElem?_eq_none (by rw [powS_eq] at hi; simpa using hi)]
  refine Calls.mono (Tryz.strconv_Itoa n h0 h1 w htab) fun e w' hp => ?_
  obtain ⟨rfl,k,os,rfl⟩ := hp;refine ⟨_,_,rfl,fun b hb => ?_,rfl,.str _,hk⟩;show (w.heap ++ os)[b]? = w.heap[b]?;rw [Array.getElem?_append_left hb]
end Go.AV
end
section
namespace Go.AV
open Go Go.Proofs
structure Dc where
 name : Str
 sorts : A
 below : A
 ops : A
 funs : A
 values : A
 eqs : A
 once : A
 kind : Str
 many : A
 rules : A
 start : Str
 watch : Str
def Dc.cs (d : Dc) : List A := [.str d.name,d.sorts,d.below,d.ops,d.funs,d.values,d.eqs,d.once,.str d.kind,d.many,d.rules,.str d.start,.str d.watch]
def psC (T : List Tok) (fin : Fault) (d : Dc) (first : Tok) (i n : Nat) : List A :=
 .list none (T.map Tok.enc) :: .int .i64 i :: (fin.cs ++ (d.cs ++ (first.cs ++ [.int .i64 n,.bool false])))
def psO (T : List Tok) (fin : Fault) (d : Dc) (first : Tok) (i n : Nat) : Ob := .cells 91 (psC T fin d first i n)
attribute [go_sem] Dc.cs psC psO
structure TOk (T : List Tok) : Prop where
 len : T.length ≤ 4294967290
 num : ∀ t,t ∈ T → 0 ≤ t.n ∧ t.n ≤ 2147483647
 col : ∀ t,t ∈ T → 0 ≤ t.col ∧ t.col ≤ 4294967296
 txt : ∀ t,t ∈ T → t.text.length ≤ 4294967296
def PK {α : Type} (T : List Tok) (i : Nat) (S : Nat → Nat → St) (enc : α → A) (KV : St → A → Prop) (a : α) (w : List Tok) (n : Nat) : Prop := ∀ j,i ≤ j → j ≤ T.length → T.drop j = w → n ≤ 2000 → KV (S j n) (enc a)
def PB (s : St) (r : Nat) (Kp : St → A → Prop) (f : Fault) : Prop := ∀ o,Kp (s.setO r o) (.iface 36 f.enc)
theorem drop_get {T : List Tok} {i : Nat} {t : Tok} {w : List Tok} (h : T.drop i = t :: w) : T[i]? = some t ∧ i < T.length ∧ T.drop (i + 1) = w ∧ t ∈ T := by
 have hl := congrArg List.length h;rw [List.length_drop,List.length_cons] at hl;have h0 : (T.drop i)[0]? = some t := by rw [h]; rfl
 rw [List.getElem?_drop,Nat.add_zero] at h0;refine ⟨h0,by omega,?_,List.mem_of_getElem? h0⟩;rw [← List.drop_drop,h]; rfl
section
variable {T : List Tok} {fin : Fault} {d : Dc} {first : Tok} {i n : Nat} {s : St} {r : Nat} {KV Kp : St → A → Prop}
theorem peek_den (hr : s.getO r = some (psO T fin d first i n)) (hi : i ≤ T.length)
  (hk : match T.drop i with | t :: _ => KV s t.enc | [] => Kp s (.iface 36 fin.enc)) : Den cx 91 [.ptr r 0] KV Kp s := by
 simp only [go_sem] at hr;refine Den.drop ?_; (refine Den.of_body (C := cx) Tryz.func91 rfl rfl (Nat.le_of_ble_eq_true rfl) ?_; refine wpC_ok (V := [0,2,12]) _ _ _ _ ?_; simp only [go_sem,Tryz.ntmps91,Tryz.f91]);intro b hb;have hne := St.ne_of hr hb;simp only [go_sem,hb,hne,hr];(refine draw_ok (V := [0,2,12]) (OT.l [0,1,2,3,4,5,6,7,8,9] .nil) [] mixed_cx (by decide +kernel) ?_; simp only [go_sem,hr,hne])
 (first | refine gdK_split (fun h => ?_) (fun h => ?_) | refine brK_split (fun h => ?_) (fun h => ?_) | refine gdX_split (fun h => ?_) (fun h => ?_)) <;> simp only [go_sem,h,hr,hne]
 ·have he : i = T.length := by simpa using h
  rw [List.drop_eq_nil_of_le (by omega)] at hk;exact DK.st hk (St.ge_new hb)
 ·have hlt : i < T.length := by
   have : ¬ i = T.length := by simpa using h
   omega
  rw [List.drop_eq_getElem_cons hlt] at hk;have ht : T[i]? = some T[i] := List.getElem?_eq_getElem hlt;(refine draw_ok (V := [0,2,12]) (OT.l [0,1,2,3,4,5,6,7,8,9,10] .nil) [] mixed_cx (by decide +kernel) ?_; simp only [go_sem,hr,hne,ht,hlt]);exact DK.st hk (St.ge_new hb)
theorem is_den (x : Str) (hr : s.getO r = some (psO T fin d first i n)) (hi : i ≤ T.length)
  (hk : KV s (.bool (isT x (T.drop i)))) : Den cx 149 [.ptr r 0,.str x] KV Kp s := by
 simp only [go_sem] at hr;refine Den.drop ?_; (refine Den.of_body (C := cx) Tryz.func149 rfl rfl (Nat.le_of_ble_eq_true rfl) ?_; refine wpC_ok (V := [0,1,4,5,15]) _ _ _ _ ?_; simp only [go_sem,Tryz.ntmps149,Tryz.f149]);(refine draw_ok (V := [0,1,4,5,15]) (OT.l [0,1,2,3,4,5,6,7,8,9] .nil) [] mixed_cx (by decide +kernel) ?_; simp only [go_sem,hr])
 (first | refine gdK_split (fun h => ?_) (fun h => ?_) | refine brK_split (fun h => ?_) (fun h => ?_) | refine gdX_split (fun h => ?_) (fun h => ?_)) <;> simp only [go_sem,h,hr]
 ·have he : i = T.length := by simpa using h
  rw [List.drop_eq_nil_of_le (by omega)] at hk;exact DK.here hk
 ·have hlt : i < T.length := by
   have : ¬ i = T.length := by simpa using h
   omega
  rw [List.drop_eq_getElem_cons hlt] at hk;have ht : T[i]? = some T[i] := List.getElem?_eq_getElem hlt;simp only [isT,isTok] at hk;(refine draw_ok (V := [0,1,4,5,15]) (OT.l [0,1,2,3,4,5,6,7,8,9,10,11] .nil) [(10,[3,7,9])] mixed_cx (by decide +kernel) ?_; simp only [go_sem,hr,ht,hlt]);intro b hb;have hne := St.ne_of hr hb;simp only [go_sem,hb,hne,hr,ht,hlt]
  (repeat' (first | exact DK.st hk (by (repeat (first | exact St.ge.refl _ | refine St.ge_set (by simp only [hb]) ?_))) | ((first | refine gdK_split (fun h => ?_) (fun h => ?_) | refine brK_split (fun h => ?_) (fun h => ?_) | refine gdX_split (fun h => ?_) (fun h => ?_)) <;> simp only [go_sem,h,hb] <;> (try simp only [h,Bool.true_and,Bool.false_and,Bool.and_true,Bool.and_false,Bool.or_true,Bool.true_or,Bool.or_false,Bool.false_or,Bool.not_true,Bool.not_false] at hk))))
theorem take_den (x : Str) (hr : s.getO r = some (psO T fin d first i n)) (hi : i ≤ T.length) (hT : TOk T)
  (hk : match isT x (T.drop i) with | true => KV (s.setO r (psO T fin d first (i + 1) n)) (.bool true) | false => KV s (.bool false)) : Den cx 144 [.ptr r 0,.str x] KV Kp s := by
 refine Den.drop ?_; (refine Den.of_body (C := cx) Tryz.func144 rfl rfl (Nat.le_of_ble_eq_true rfl) ?_; refine wpC_ok (V := [0,1,4,8]) _ _ _ _ ?_; simp only [go_sem,Tryz.ntmps144,Tryz.f144]);refine is_den x hr hi ?_;simp only [go_sem] at hr;have := hT.len;simp only [go_sem]
 (first | refine gdK_split (fun h => ?_) (fun h => ?_) | refine brK_split (fun h => ?_) (fun h => ?_) | refine gdX_split (fun h => ?_) (fun h => ?_)) <;> simp only [go_sem,h]
 ·rw [show isT x (T.drop i) = false from by simpa using h] at hk;exact DK.here hk
 ·rw [show isT x (T.drop i) = true from by simpa using h] at hk;simp only [go_sem,hr,wrap1 i (by omega)];exact DK.here hk
theorem isT_lt {x : Str} (h : isT x (T.drop i) = true) : i + 1 ≤ T.length := by
 cases hw : T.drop i with
 | nil => rw [hw] at h; cases h
 | cons t w => exact (drop_get hw).2.1
theorem tokName_den (t : Tok) (h0 : 0 ≤ t.n) (h1 : t.n ≤ 2147483647) (hk : KV s (.str t.name)) : Den cx 93 [t.enc] KV Kp s := by
 unfold Tok.name at hk;simp only [go_sem];refine Den.drop ?_; (refine Den.of_body (C := cx) Tryz.func93 rfl rfl (Nat.le_of_ble_eq_true rfl) ?_; refine wpC_ok (V := [0,1,2,5]) _ _ _ _ ?_; simp only [go_sem,Tryz.ntmps93,Tryz.f93]);(intro b hb; try simp only [getO_setO_none,ne_eq] at hb);simp only [go_sem,hb]
 (first | refine gdK_split (fun h => ?_) (fun h => ?_) | refine brK_split (fun h => ?_) (fun h => ?_) | refine gdX_split (fun h => ?_) (fun h => ?_)) <;> simp only [go_sem,h,hb]
 ·have hk2 : t.kind = 2 := by simpa using h
  rw [if_pos hk2] at hk;refine itoa_den t.n (by omega) (by omega) _ _ _ ?_;simp only [go_sem];exact DK.st hk (St.ge_new hb)
 ·have hk2 : ¬ t.kind = 2 := by simpa using h
  rw [if_neg hk2] at hk;exact DK.st hk (St.ge_new hb)
theorem limit_den (t : Tok) (hk : Kp s (.iface 36 (Fault.enc ⟨3,[],t.line,t.col⟩))) : Den cx 220 [t.enc] KV Kp s := by
 simp only [go_sem] at hk;simp only [go_sem];refine Den.drop ?_; (refine Den.of_body (C := cx) Tryz.func220 rfl rfl (Nat.le_of_ble_eq_true rfl) ?_; refine wpC_ok (V := [0,1]) _ _ _ _ ?_; simp only [go_sem,Tryz.ntmps220,Tryz.f220]);(intro b hb; try simp only [getO_setO_none,ne_eq] at hb);simp only [go_sem,hb];exact DK.st hk (St.ge_new hb)
theorem fail_den (code : Int) (hr : s.getO r = some (psO T fin d first i n)) (hi : i ≤ T.length) (hT : TOk T)
  (hk : Kp s (.iface 36 (failAt fin code (T.drop i)).enc)) : Den cx 42 [.ptr r 0,.int .i64 code] KV Kp s := by
 refine Den.drop ?_; (refine Den.of_body (C := cx) Tryz.func42 rfl rfl (Nat.le_of_ble_eq_true rfl) ?_; refine wpC_ok (V := [0,1,4]) _ _ _ _ ?_; simp only [go_sem,Tryz.ntmps42,Tryz.f42]);refine peek_den hr hi ?_;cases hw : T.drop i with
 | nil => rw [hw] at hk; exact DK.here hk
 | cons t w =>
  rw [hw] at hk;obtain ⟨h1,h2,h3,h4⟩ := drop_get hw;obtain ⟨h5,h6⟩ := hT.num t h4;simp only [failAt] at hk;simp only [go_sem] at hk;simp only [go_sem];(intro b hb; try simp only [getO_setO_none,ne_eq] at hb);simp only [go_sem,hb];(refine draw_ok (V := [0,1,4]) (OT.l [0,1,3,4,5,6,2,7,8,9] .nil) [(2,[4,6])] mixed_cx (by decide +kernel) ?_; simp only [go_sem,hb]);refine tokName_den t h5 h6 ?_;simp only [go_sem,hb];exact DK.st hk (St.ge_new hb)
end
end Go.AV
end
section
namespace Go.AV
open Go Go.Proofs
section
variable {T : List Tok} {fin : Fault} {d : Dc} {first : Tok} {i n : Nat} {s : St} {r : Nat} {KV Kp : St → A → Prop}
theorem PB.here {f : Fault} {o : Ob} (h : PB s r Kp f) (hr : s.getO r = some o) : DK Kp s (.iface 36 f.enc) := DK.st (h o) (St.ge_same hr)
theorem PB.at {f : Fault} {o : Ob} {s1 : St} (h : PB s r Kp f) (hg : s1.gx s r) (hr : s1.getO r = some o) : DK Kp s1 (.iface 36 f.enc) := DK.st (h o) (hg.ge hr)
theorem want_den (x : Str) (hr : s.getO r = some (psO T fin d first i n)) (hi : i ≤ T.length) (hT : TOk T)
  (hk : (wantR fin x (T.drop i) n).to (fun _ w n' => i + 1 ≤ T.length → T.drop (i + 1) = w → n' = n → KV (s.setO r (psO T fin d first (i + 1) n)) (.tuple [])) (PB s r Kp)) : Den cx 84 [.ptr r 0,.list none [.str x]] KV Kp s := by
 refine Den.drop ?_; (refine Den.of_body (C := cx) Tryz.func84 rfl rfl (Nat.le_of_ble_eq_true rfl) ?_; refine wpC_ok (V := [0,1,5,6,7,8,9,15]) _ _ _ _ ?_; simp only [go_sem,Tryz.ntmps84,Tryz.f84])
 refine Ex.loop (fun k : Nat => [(0,.ptr r 0),(6,.list none [.str x]),(7,.int .i64 1),(8,.int .i64 k)]) (fun k => match k with | 0 => s | _ + 1 => s.setO r (psO T fin d first (i + 1) n))
  (fun k => k = 0 ∨ k = 1 ∧ isT x (T.drop i) = true) (fun k => 1 - k) 0 (.inl rfl) ?_ (St.ge.refl _) ?_
 ·simp only [go_sem];exact ⟨rfl,rfl⟩
 ·rintro k (rfl | ⟨rfl,hx⟩)
  ·refine wpC_ok (V := [0,1,5,6,7,8,9,15]) _ _ _ _ ?_;simp only [go_sem];refine ⟨by simp,?_⟩;simp only [go_sem];refine ⟨rfl,?_⟩;refine take_den x hr hi hT ?_;cases hx : isT x (T.drop i) with
   | true =>
    simp only [go_sem];exact ⟨1,.inr rfl,by omega,rfl,St.ge.refl _⟩
   | false =>
    simp only [go_sem];refine fail_den 11 hr hi hT ?_;simp only [wantR,hx,Bool.false_eq_true,if_false,Rd.bad_to] at hk;exact hk.here hr
  ·refine wpC_ok (V := [0,1,5,6,7,8,9,15]) _ _ _ _ ?_;simp only [wantR,hx,if_true,Rd.ok_to] at hk;simp only [go_sem];exact DK.here (hk (isT_lt hx) (by simp) trivial)
theorem name_den (hr : s.getO r = some (psO T fin d first i n)) (hi : i ≤ T.length) (hT : TOk T)
  (hk : (nameR fin (T.drop i) n).to (fun x w n' => i + 1 ≤ T.length → T.drop (i + 1) = w → n' = n → KV (s.setO r (psO T fin d first (i + 1) n)) (.str x)) (PB s r Kp)) : Den cx 85 [.ptr r 0] KV Kp s := by
 refine Den.drop ?_; (refine Den.of_body (C := cx) Tryz.func85 rfl rfl (Nat.le_of_ble_eq_true rfl) ?_; refine wpC_ok (V := [0,2,3,13]) _ _ _ _ ?_; simp only [go_sem,Tryz.ntmps85,Tryz.f85]);refine peek_den hr hi ?_;cases hw : T.drop i with
 | nil => rw [hw] at hk; exact PB.here hk hr
 | cons t w =>
  rw [hw] at hk;obtain ⟨h1,h2,h3,h4⟩ := drop_get hw;have := hT.len;simp only [nameR] at hk;simp only [go_sem];(intro b hb; try simp only [getO_setO_none,ne_eq] at hb);have hne := St.ne_of hr hb;have hr' : (s.setO b (.cells 60 t.cs)).getO r = some (psO T fin d first i n) := by rw [gA1,if_neg hne.2]; exact hr
  have hr2 := hr;simp only [go_sem] at hr2
  have bad : ∀ KV',t.free = false → Den cx 42 [.ptr r 0,.int .i64 11] KV' (DK Kp) (s.setO b (.cells 60 t.cs)) := by
   intro KV' hf;refine fail_den 11 hr' hi hT ?_;rw [hf] at hk;simp only [Bool.false_eq_true,if_false,Rd.bad_to] at hk;rw [hw];exact hk.at (by (repeat (first | exact gA8 _ _ | refine St.gx_r ?_ | refine gA7 (by first | simp only [hb] | assumption) ?_ | refine St.gx_T (by first | simp only [hb] | assumption) ?_))) hr'
  have good : t.free = true → KV (s.setO r (psO T fin d first (i + 1) n)) (.str t.text) := by
   intro hf;rw [hf] at hk;simp only [if_true,Rd.ok_to] at hk;exact hk h2 h3 trivial
  simp only [go_sem,hb,hne,hr2]
  (first | refine gdK_split (fun h => ?_) (fun h => ?_) | refine brK_split (fun h => ?_) (fun h => ?_) | refine gdX_split (fun h => ?_) (fun h => ?_)) <;> simp only [go_sem,h,hb,hne,hr2]
  ·refine bad _ ?_;rw [Tok.free,show decide (t.kind = 1) = false from by simpa using h]; rfl
  ·refine isReserved145_den _ _ _ _ ?_;simp only [go_sem,hb,hne,hr2];have hk1 : decide (t.kind = 1) = true := by simpa using h
   (first | refine gdK_split (fun h => ?_) (fun h => ?_) | refine brK_split (fun h => ?_) (fun h => ?_) | refine gdX_split (fun h => ?_) (fun h => ?_)) <;> simp only [go_sem,h,hb,hne,hr2]
   ·refine bad _ ?_;rw [Tok.free,hk1,h]; rfl
   ·have hg := good (by rw [Tok.free,hk1,h]; rfl);simp only [go_sem,wrap1 i (by omega)];exact DK.st hg (St.gx.ge (by (repeat (first | exact gA8 _ _ | refine St.gx_r ?_ | refine gA7 (by first | simp only [hb] | assumption) ?_ | refine St.gx_T (by first | simp only [hb] | assumption) ?_))) (by rw [gA1,if_pos rfl]; rfl))
theorem node_den (hr : s.getO r = some (psO T fin d first i n)) (hn : n ≤ 2000)
  (hk : (nodeR first (T.drop i) n).to (fun _ w n => w = T.drop i → n ≤ 2000 → KV (s.setO r (psO T fin d first i n)) (.tuple [])) (PB s r Kp)) : Den cx 166 [.ptr r 0] KV Kp s := by
 have hr2 := hr;simp only [go_sem] at hr2;refine Den.drop ?_; (refine Den.of_body (C := cx) Tryz.func166 rfl rfl (Nat.le_of_ble_eq_true rfl) ?_; refine wpC_ok (V := [0,13]) _ _ _ _ ?_; simp only [go_sem,Tryz.ntmps166,Tryz.f166]);simp only [go_sem,hr2,wrap1 n (by omega)]
 (first | refine gdK_split (fun h => ?_) (fun h => ?_) | refine brK_split (fun h => ?_) (fun h => ?_) | refine gdX_split (fun h => ?_) (fun h => ?_)) <;> simp only [go_sem,h,hr2]
 ·refine limit_den first ?_
  have hc : 2000 < n + 1 := by have := h; simp at this; omega
  simp only [nodeR,hc,if_true,Rd.bad_to] at hk;exact hk.at (by (repeat (first | exact gA8 _ _ | refine St.gx_r ?_))) (by rw [gA1,if_pos rfl])
 ·have hc : ¬ 2000 < n + 1 := by have := h; simp at this; omega
  simp only [nodeR,hc,if_false,Rd.ok_to] at hk;exact DK.here (hk trivial (by omega))
end
end Go.AV
end
section
namespace Go.AV
open Go Go.Proofs
section
variable {T : List Tok} {fin : Fault} {d : Dc} {first : Tok} {i n : Nat} {s : St} {r : Nat} {KV Kp : St → A → Prop}
theorem begins_den (t : Tok) (hk : KV s (.bool t.begins)) : Den cx 236 [t.enc] KV Kp s := by
 simp only [go_sem];refine Den.drop ?_; (refine Den.of_body (C := cx) Tryz.func236 rfl rfl (Nat.le_of_ble_eq_true rfl) ?_; refine wpC_ok (V := [0,1,2,4,5,8]) _ _ _ _ ?_; simp only [go_sem,Tryz.ntmps236,Tryz.f236]);(intro b hb; try simp only [getO_setO_none,ne_eq] at hb);simp only [go_sem,hb]
 (first | refine gdK_split (fun h => ?_) (fun h => ?_) | refine brK_split (fun h => ?_) (fun h => ?_) | refine gdX_split (fun h => ?_) (fun h => ?_)) <;> simp only [go_sem,h,hb]
 ·have h2 : t.kind = 2 := by simpa using h
  rw [show t.begins = true by simp [Tok.begins,h2]] at hk
  (try simp only [go_sem,hb])
  exact DK.st hk (St.ge_new hb)
 ·have h2 : ¬ t.kind = 2 := by simpa using h
  (try simp only [go_sem,hb])
  (first | refine gdK_split (fun h => ?_) (fun h => ?_) | refine brK_split (fun h => ?_) (fun h => ?_) | refine gdX_split (fun h => ?_) (fun h => ?_)) <;> simp only [go_sem,h,hb]
  ·have h3 : t.kind = 3 := by simpa using h
   rw [show t.begins = true by simp [Tok.begins,h3]] at hk
   (try simp only [go_sem,hb])
   exact DK.st hk (St.ge_new hb)
  ·have h3 : ¬ t.kind = 3 := by simpa using h
   (try simp only [go_sem,hb])
   (first | refine gdK_split (fun h => ?_) (fun h => ?_) | refine brK_split (fun h => ?_) (fun h => ?_) | refine gdX_split (fun h => ?_) (fun h => ?_)) <;> simp only [go_sem,h,hb]
   ·have h1 : t.kind = 1 := by simpa using h
    rw [show t.begins = (!decide (t.text ∈ reservedW) || (decide (t.text = [116,114,117,101]) || decide (t.text = [102,97,108,115,101]))) by simp [Tok.begins,h1]] at hk
    (try simp only [go_sem,hb])
    refine isReserved145_den _ _ _ _ ?_;simp only [go_sem,hb];cases hr : decide (t.text ∈ reservedW) <;> simp only [go_sem,hb]
    ·rw [hr] at hk;exact DK.st hk (St.ge_new hb)
    ·rw [hr] at hk;cases ht : decide (t.text = [116,114,117,101]) <;> simp only [go_sem,hb]
     ·rw [ht] at hk;exact DK.st hk (St.ge_new hb)
     ·rw [ht] at hk;exact DK.st hk (St.ge_new hb)
   ·have h1 : ¬ t.kind = 1 := by simpa using h
    rw [show t.begins = decide (t.text ∈ [[45],[39],[95],[91],[123],[36]]) by simp [Tok.begins,h1,h2,h3]] at hk
    (try simp only [go_sem,hb])
    refine contains_den _ [[45],[39],[95],[91],[123],[36]] _ _ _ ?_;simp only [go_sem,hb];exact DK.st hk (St.ge_new hb)
theorem room_den (a b : Int) (hr : s.getO r = some (psO T fin d first i n)) (hi : i ≤ T.length)
  (hk : if b ≤ a then PB s r Kp (limAt fin (T.drop i)) else KV s (.tuple [])) : Den cx 148 [.ptr r 0,.int .i64 a,.int .i64 b] KV Kp s := by
 refine Den.drop ?_; (refine Den.of_body (C := cx) Tryz.func148 rfl rfl (Nat.le_of_ble_eq_true rfl) ?_; refine wpC_ok (V := [0,1,2,8]) _ _ _ _ ?_; simp only [go_sem,Tryz.ntmps148,Tryz.f148])
 (first | refine gdK_split (fun h => ?_) (fun h => ?_) | refine brK_split (fun h => ?_) (fun h => ?_) | refine gdX_split (fun h => ?_) (fun h => ?_)) <;> simp only [go_sem,h]
 ·have hc : b ≤ a := by simpa using h
  rw [if_pos hc] at hk;refine peek_den hr hi ?_;cases hw : T.drop i with
  | nil => rw [hw] at hk; exact hk.here hr
  | cons t w =>
   rw [hw] at hk;simp only [go_sem];refine limit_den t ?_;exact hk.here hr
 ·have hc : ¬ b ≤ a := by simpa using h
  rw [if_neg hc] at hk;exact DK.here hk
theorem starts_den (hr : s.getO r = some (psO T fin d first i n)) (hi : i ≤ T.length)
  (hk : match T.drop i with | t :: _ => KV s (.bool t.begins) | [] => PB s r Kp fin) : Den cx 165 [.ptr r 0] KV Kp s := by
 have hr2 := hr;simp only [go_sem] at hr2;refine Den.drop ?_; (refine Den.of_body (C := cx) Tryz.func165 rfl rfl (Nat.le_of_ble_eq_true rfl) ?_; refine wpC_ok (V := [0,2]) _ _ _ _ ?_; simp only [go_sem,Tryz.ntmps165,Tryz.f165]);refine peek_den hr hi ?_;cases hw : T.drop i with
 | nil => rw [hw] at hk; exact hk.here hr
 | cons t w =>
  rw [hw] at hk;simp only at hk;simp only [go_sem];refine begins_den t ?_;simp only [go_sem];cases hb : t.begins <;> simp only [go_sem,hr2]
  ·rw [hb] at hk; exact DK.here hk
  ·rw [hb] at hk; exact DK.here hk
theorem pnumber_den (most : Int) (hr : s.getO r = some (psO T fin d first i n)) (hi : i ≤ T.length) (hT : TOk T)
  (hk : (numberR fin most (T.drop i) n).to (fun x w n' => i + 1 ≤ T.length → T.drop (i + 1) = w → n' = n → KV (s.setO r (psO T fin d first (i + 1) n)) (.int .i64 x)) (PB s r Kp)) : Den cx 281 [.ptr r 0,.int .i64 most] KV Kp s := by
 refine Den.drop ?_; (refine Den.of_body (C := cx) Tryz.func281 rfl rfl (Nat.le_of_ble_eq_true rfl) ?_; refine wpC_ok (V := [0,1,4,5,10,21]) _ _ _ _ ?_; simp only [go_sem,Tryz.ntmps281,Tryz.f281]);refine peek_den hr hi ?_;cases hw : T.drop i with
 | nil => rw [hw] at hk; exact PB.here hk hr
 | cons t w =>
  rw [hw] at hk;obtain ⟨h1,h2,h3,h4⟩ := drop_get hw;have := hT.len;simp only [numberR] at hk;simp only [go_sem];(intro b hb; try simp only [getO_setO_none,ne_eq] at hb);have hne := St.ne_of hr hb;have hr' : (s.setO b (.cells 60 t.cs)).getO r = some (psO T fin d first i n) := by rw [gA1,if_neg hne.2]; exact hr
  have hr2 := hr;simp only [go_sem] at hr2
  have bad : ∀ KV' code,PB s r Kp (failAt fin code (t :: w)) → Den cx 42 [.ptr r 0,.int .i64 code] KV' (DK Kp) (s.setO b (.cells 60 t.cs)) := by
   intro KV' code hf;refine fail_den code hr' hi hT ?_;rw [hw];exact hf.at (by (repeat (first | exact gA8 _ _ | refine St.gx_r ?_ | refine gA7 (by first | simp only [hb] | assumption) ?_ | refine St.gx_T (by first | simp only [hb] | assumption) ?_))) hr'
  simp only [go_sem,hb,hne,hr2]
  (first | refine gdK_split (fun h => ?_) (fun h => ?_) | refine brK_split (fun h => ?_) (fun h => ?_) | refine gdX_split (fun h => ?_) (fun h => ?_)) <;> simp only [go_sem,h,hb,hne,hr2]
  ·have h2 : ¬ t.kind = 2 := by simpa using h
   rw [if_neg h2,Rd.bad_to] at hk;exact bad _ _ hk
  ·have h2 : t.kind = 2 := by simpa using h
   rw [if_pos h2] at hk;have range : (t.n < 1 ∨ most < t.n) → PB s r Kp (failAt fin 20 (t :: w)) := fun hc => by rw [if_pos hc] at hk; exact hk
   have good : ¬ (t.n < 1 ∨ most < t.n) → KV (s.setO r (psO T fin d first (i + 1) n)) (.int .i64 t.n) := fun hc => by
    rw [if_neg hc] at hk; exact hk (by omega) h3 rfl
   cases c1 : decide (t.n < 1)
   ·cases c2 : decide (most < t.n)
    ·(try simp only [go_sem,hb,hne,hr2,c1,c2,wrap1 i (by omega)])
     exact DK.st (good (by simp at c1 c2; omega)) (St.gx.ge (by (repeat (first | exact gA8 _ _ | refine St.gx_r ?_ | refine gA7 (by first | simp only [hb] | assumption) ?_ | refine St.gx_T (by first | simp only [hb] | assumption) ?_))) (by rw [gA1,if_pos rfl]; rfl))
    ·(try simp only [go_sem,hb,hne,hr2,c1,c2])
     exact bad _ _ (range (by simp at c1 c2; omega))
   ·(try simp only [go_sem,hb,hne,hr2,c1])
    exact bad _ _ (range (by simp at c1; omega))
end
end Go.AV
end
