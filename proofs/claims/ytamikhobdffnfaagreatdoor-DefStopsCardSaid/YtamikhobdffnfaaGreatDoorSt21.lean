/-
  Part of the proof of DefStops.
-/
import Derived.Test.YtamikhobdffnfaaGreatDoorSt16
import Derived.Test.YtamikhobdffnfaaGreatDoorSt20
import Derived.Test.YtamikhobdffnfaaGreatDoorSt15
set_option linter.all false
set_option maxRecDepth 1000000
set_option maxHeartbeats 40000000
section
namespace Go.AV
open Go Go.Proofs
theorem isReserved145_den (s : St) (x : Str) (KV Kp) (hk : KV s (.bool (decide (x ∈ reservedW)))) : Den cx 145 [.str x] KV Kp s := by
 refine Den.drop ?_; (refine Den.of_body (C := cx) Tryz.func145 rfl rfl (Nat.le_of_ble_eq_true rfl) ?_; refine wpC_ok (V := [0,2]) _ _ _ _ ?_; simp only [go_sem,Tryz.ntmps145,Tryz.f145]);refine fields_reserved _ _ _ ?_;simp only [go_sem,wordsA];refine contains_den _ _ _ _ _ ?_;simp only [go_sem];exact DK.here hk
theorem builtIn107_den (s : St) (x : Str) (KV Kp) (hk : KV s (.bool (decide (x ∈ builtInW)))) : Den cx 107 [.str x] KV Kp s := by
 refine Den.drop ?_; (refine Den.of_body (C := cx) Tryz.func107 rfl rfl (Nat.le_of_ble_eq_true rfl) ?_; refine wpC_ok (V := [0,2]) _ _ _ _ ?_; simp only [go_sem,Tryz.ntmps107,Tryz.f107]);refine fields_builtIn _ _ _ ?_;simp only [go_sem,wordsA];refine contains_den _ _ _ _ _ ?_;simp only [go_sem];exact DK.here hk
end Go.AV
end
section
namespace Go.AV
open Go Go.Proofs
theorem signTo_app (w : Str) (x : Str) : ∀ (l : List Str) (n : Nat),signTo w (l ++ [x]) n = if signTo w l n < x.length ∧ hasPre w x = true then x.length else signTo w l n
 | [],n => rfl
 | y :: l,n => signTo_app w x l _
theorem signTo_le (w : Str) : ∀ (l : List Str) (n : Nat),n ≤ w.length → signTo w l n ≤ w.length
 | [],n,h => h
 | y :: l,n,h => by
  refine signTo_le w l _ ?_;split
  ·rename_i hc;have := hc.2;simp only [hasPre,Bool.and_eq_true,decide_eq_true_eq] at this;exact this.1
  ·exact h
theorem idx_lt : ∀ (w : Str) (c : UInt8),Lib.indexByte w c < (w.length : Int)
 | [],c => by simp [Lib.indexByte]
 | d :: w,c => by
  have ih := idx_lt w c;have ig := Lib.indexByte_ge w c;unfold Lib.indexByte;simp only [List.length_cons];split
  ·omega
  ·split <;> omega
theorem token_den (s : St) (r : Nat) (x : Str) (at_ l c : Nat) (sg : List Str) (op : Bool) (KV Kp)
  (hr : s.getO r = some (.cells 226 (rdCs x at_ l c sg op))) (hx : x.length ≤ 4294967296) (ha : at_ < x.length) (hsg : sg.length ≤ 4294967296)
  (hk : KV s (.tuple [(tokOf (x.drop at_) sg op).1.enc,.int .i64 (tokOf (x.drop at_) sg op).2.1,.bool (tokOf (x.drop at_) sg op).2.2])) : Den cx 278 [.ptr r 0] KV Kp s := by
 obtain ⟨b,w,hw⟩ : ∃ b w,x.drop at_ = b :: w := by
  cases h : x.drop at_ with
  | nil => have := congrArg List.length h; simp at this; omega
  | cons b w => exact ⟨b,w,rfl⟩
 have hlw : (b :: w).length ≤ 4294967296 := by rw [← hw,List.length_drop]; omega
 refine Den.drop ?_; (refine Den.of_body (C := cx) Tryz.func278 rfl rfl (Nat.le_of_ble_eq_true rfl) ?_; refine wpC_ok (V := [0,2,3,4,5,6,8,20,33,41,67,68,69,70,81,100]) _ _ _ _ ?_; simp only [go_sem,Tryz.ntmps278,Tryz.f278]);(intro q hq; try simp only [getO_setO_none,ne_eq] at hq);have hne := St.ne_of hr hq;simp only [go_sem,hr,hq,hne,rdCs];(refine draw_ok (V := [0,2,3,4,5,6,8,20,33,41,67,68,69,70,81,100]) (OT.l [0,1,2,3,4,5,6,7,8,9] .nil) [] mixed_cx (by decide +kernel) ?_; simp only [go_sem,hr,hq,hne,rdCs]);rw [hw] at hk ⊢;have hpos : 0 < (b :: w).length := by simp
 simp only [go_sem,Nat.le_of_lt ha,hpos];refine ⟨⟨by omega,by omega⟩,?_⟩;have e1 : List.take (Int.toNat 1) (b :: w) = [b] := rfl;rw [e1];refine isName_den _ _ _ _ ?_;simp only [go_sem]
 (first | refine gdK_split (fun h => ?_) (fun h => ?_) | refine brK_split (fun h => ?_) (fun h => ?_) | refine gdX_split (fun h => ?_) (fun h => ?_)) <;> simp only [go_sem,h,hr,hq,hne,rdCs]
 ·refine run_den _ _ _ (fun c => isPart c.toNat) _ _ hlw (fun c KV Kp h => isPart_den _ _ _ _ h) ?_;have hn : ((b :: w).takeWhile fun c => isPart c.toNat).length ≤ (b :: w).length := (List.takeWhile_sublist _).length_le;simp only [tokOf,h,if_true] at hk;generalize ((b :: w).takeWhile fun c => isPart c.toNat).length = n at hk hn;simp only [go_sem,hr,hq,hne,rdCs,hn];refine ⟨by simpa using hn,?_⟩;have e2 : decide ((n : Int) ≤ 40) = decide (n ≤ 40) := by rw [decide_eq_decide]; omega
  rw [e2];exact DK.st hk (St.ge_new hq)
 ·refine isDigit_den _ _ _ _ ?_;have hnm : ¬ isName [b] = true := by rw [h]; simp
  simp only [go_sem]
  (first | refine gdK_split (fun h => ?_) (fun h => ?_) | refine brK_split (fun h => ?_) (fun h => ?_) | refine gdX_split (fun h => ?_) (fun h => ?_)) <;> simp only [go_sem,h,hr,hq,hne,rdCs]
  ·simp only [tokOf,hnm,if_false,h,if_true,Bool.false_eq_true] at hk;refine number_den _ _ _ _ hlw ?_;simp only [go_sem,hr,hq,hne];exact DK.st hk (St.ge_new hq)
  ·have hnd : ¬ isDig b.toNat = true := by rw [h]; simp
   have h340 : (34 : UInt8).toNat = 34 := rfl
   have e3 : decide ((b.toNat : Int) = 34) = decide (b = 34) := by
    rw [decide_eq_decide,← UInt8.toNat_inj,h340]; omega
   rw [e3]
   (first | refine gdK_split (fun h => ?_) (fun h => ?_) | refine brK_split (fun h => ?_) (fun h => ?_) | refine gdX_split (fun h => ?_) (fun h => ?_)) <;> simp only [go_sem,h,hr,hq,hne,rdCs]
   ·have hb : b = 34 := by simpa using h
    simp only [tokOf,hnm,hnd,hb,if_false,if_true] at hk;refine ⟨⟨by omega,by omega⟩,?_⟩
    have e4 : List.take (w.length + 1 - Int.toNat 1) (List.drop (Int.toNat 1) (b :: w)) = w := by
     show List.take (w.length + 1 - 1) w = w;simp
    have e5 : (A.int IntKind.u8 34) = .int .u8 ((34 : UInt8).toNat) := rfl;rw [e4,e5];refine idxByte298_den _ _ _ _ _ ?_;have hm1 := Lib.indexByte_ge w 34;have hm2 := idx_lt w 34;obtain ⟨k,hk0⟩ : ∃ k : Nat,Lib.indexByte w 34 = (k : Int) - 1 := ⟨(Lib.indexByte w 34 + 1).toNat,by omega⟩
    rw [hk0] at hk hm2 ⊢;simp only [List.length_cons] at hlw;have hkw : k ≤ w.length := by omega
    have ew : IntKind.i64.wrap ((k : Int) - 1 + 2) = ((k + 1 : Nat) : Int) := by rw [wrap_in _ (by omega) (by omega)]; omega
    have ew2 : IntKind.i64.wrap (((k + 1 : Nat) : Int) - 1) = (k : Int) := by rw [wrap_in _ (by omega) (by omega)]; omega
    have en : ((k : Int) - 1 + 2).toNat = k + 1 := by omega
    simp only [en] at hk;simp only [go_sem,ew];(refine draw_ok (V := [0,2,3,4,5,6,8,20,33,41,67,68,69,70,81,100]) (OT.l [0,1,2,3,4,5,6,7,8,9,10,11,12,13,14,15,16,17,18] .nil) [] mixed_cx (by decide +kernel) ?_; simp only [go_sem,hr,hq,hne,rdCs,ew2]);have em : (if (k : Int) < 1 then (1 : Int) else k) = ((max k 1 : Nat) : Int) := by split <;> omega
    rw [em];refine ⟨⟨by omega,by omega,by omega⟩,?_⟩
    have et : List.take (Int.toNat ((max k 1 : Nat) : Int) - Int.toNat 1) (List.drop (Int.toNat 1) (b :: w)) = w.take (k - 1) := by
     show List.take (max k 1 - 1) w = w.take (k - 1);congr 1; omega
    rw [et];have et2 : k + 1 - 2 = k - 1 := by omega
    rw [et2] at hk
    (first | refine gdK_split (fun h => ?_) (fun h => ?_) | refine brK_split (fun h => ?_) (fun h => ?_) | refine gdX_split (fun h => ?_) (fun h => ?_)) <;> simp only [go_sem,h,hr,hq,hne,rdCs,ew2]
    ·have hk1 : 1 < k + 1 := by have := h; simp at this; omega
     refine ⟨⟨by omega,by omega,by omega⟩,?_⟩;have et3 : List.take (k - Int.toNat 1) (List.drop (Int.toNat 1) (b :: w)) = w.take (k - 1) := rfl;rw [et3];refine isString_den _ _ _ _ ?_;simp only [go_sem,hr,hq,hne];simp only [hk1,decide_true,Bool.true_and] at hk;exact DK.st hk (St.ge_new hq)
    ·have hk1 : ¬ 1 < k + 1 := by have := h; simp at this; omega
     simp only [hk1,decide_false,Bool.false_and] at hk;exact DK.st hk (St.ge_new hq)
   ·have hnb : ¬ b = 34 := by simpa using h
    simp only [tokOf,hnm,hnd,hnb,if_false] at hk;have hz := signTo_le (b :: w) sg 0 (Nat.zero_le _)
    refine Ex.loop (fun i => [(0,.ptr r 0),(2,.ptr q 0),(3,.int .i64 (signTo (b :: w) (sg.take i) 0 : Nat)),(5,.str (b :: w)),(6,.int .u8 b.toNat),(67,.list none (sg.map .str)),(68,.int .i64 (sg.length : Nat)),(69,.int .i64 (i : Nat))])
     (fun _ => s.setO q (.cells 60 [.int .i64 0,.str [],.int .i64 0,.int .i64 0,.int .i64 0])) (fun i => i ≤ sg.length) (fun i => sg.length - i) 0 (Nat.zero_le _) ?_ (St.ge.refl _) ?_
    ·simp [Env.has,Env.get,signTo]
    ·intro i hi;refine wpC_ok (V := [0,2,3,4,5,6,8,20,33,41,67,68,69,70,81,100]) _ _ _ _ ?_;simp only [go_sem]
     (first | refine gdK_split (fun h => ?_) (fun h => ?_) | refine brK_split (fun h => ?_) (fun h => ?_) | refine gdX_split (fun h => ?_) (fun h => ?_)) <;> simp only [go_sem,h,hr,hq,hne,rdCs]
     ·have hlt : i < sg.length := by simpa using h
      obtain ⟨y,hy⟩ : ∃ y,sg[i]? = some y := ⟨sg[i],List.getElem?_eq_getElem hlt⟩
      have hst : signTo (b :: w) (sg.take (i + 1)) 0 = if signTo (b :: w) (sg.take i) 0 < y.length ∧ hasPre (b :: w) y = true then y.length else signTo (b :: w) (sg.take i) 0 := by
       rw [← signTo_app,List.take_add_one,hy]; rfl
      generalize signTo (b :: w) (sg.take i) 0 = n at hst;refine ⟨hlt,?_⟩;simp only [go_sem,hy]
      (first | refine gdK_split (fun h => ?_) (fun h => ?_) | refine brK_split (fun h => ?_) (fun h => ?_) | refine gdX_split (fun h => ?_) (fun h => ?_)) <;> simp only [go_sem,h,hr,hq,hne,rdCs]
      ·have h5 : n < y.length := by simpa using h
       refine hasPre299_den _ _ _ _ _ ?_;simp only [go_sem]
       (first | refine gdK_split (fun h => ?_) (fun h => ?_) | refine brK_split (fun h => ?_) (fun h => ?_) | refine gdX_split (fun h => ?_) (fun h => ?_)) <;> simp only [go_sem,h]
       ·exact ⟨i + 1,by omega,by omega,⟨by rw [hst,if_pos ⟨h5,h⟩],wrap1 i (by omega)⟩,St.ge.refl _⟩
       ·exact ⟨i + 1,by omega,by omega,⟨by rw [hst,if_neg (by rw [h]; simp)],wrap1 i (by omega)⟩,St.ge.refl _⟩
      ·have h5 : ¬ n < y.length := by simpa using h
       exact ⟨i + 1,by omega,by omega,⟨by rw [hst,if_neg (by simp [h5])],wrap1 i (by omega)⟩,St.ge.refl _⟩
     ·have hge : sg.length ≤ i := by simpa using h
      obtain rfl : i = sg.length := by omega
      rw [List.take_length];generalize signTo (b :: w) sg 0 = n at hk hz
      have hqr : (s.setO q (.cells 60 [.int .i64 0,.str [],.int .i64 0,.int .i64 0,.int .i64 0])).getO r = some (.cells 226 (rdCs x at_ l c sg op)) := by
       rw [gA1,if_neg hne.2]; exact hr
      simp only [Bool.false_eq_true,if_false] at hk;have h390 : (39 : UInt8).toNat = 39 := rfl;have h950 : (95 : UInt8).toNat = 95 := rfl;have e39 : decide ((b.toNat : Int) = 39) = decide (b = 39) := by rw [decide_eq_decide,← UInt8.toNat_inj,h390]; omega
      have e95 : decide ((b.toNat : Int) = 95) = decide (b = 95) := by rw [decide_eq_decide,← UInt8.toNat_inj,h950]; omega
      have e0 : decide ((n : Int) = 0) = decide (n = 0) := by rw [decide_eq_decide]; omega
      rw [e0];cases h0 : decide (n = 0) <;> cases op <;> simp only [go_sem,hqr,hq,hne,rdCs,e39,e95] <;> cases h39 : decide (b = 39) <;> cases h95 : decide (b = 95) <;> (try simp only [go_sem,hqr,hq,hne,rdCs,e39,e95,h39,h95])
      all_goals (simp only [decide_eq_true_eq,decide_eq_false_iff_not] at h0 h39 h95)
      all_goals (have ed : decide (0 < (n : Int)) = decide (0 < n) := by rw [decide_eq_decide]; omega)
      all_goals (simp only [List.length_cons] at hz)
      all_goals first
       | (rw [if_neg (fun hc => by simp_all)] at hk; refine ⟨by omega,?_⟩; rw [ed]; exact DK.st hk (St.ge_new hq))
       | (rw [if_pos (by simp_all)] at hk; refine ⟨by omega,?_⟩; exact DK.st hk (St.ge_new hq))
end Go.AV
end
section
namespace Go.AV
open Go Go.Proofs
theorem tw_le (p : UInt8 → Bool) (w : Str) : (w.takeWhile p).length ≤ w.length := (List.takeWhile_sublist _).length_le
theorem tw_pos {p : UInt8 → Bool} {c : UInt8} {w : Str} (h : p c = true) : 1 ≤ ((c :: w).takeWhile p).length := by simp [List.takeWhile,h]
theorem tokOf_len {c : UInt8} {r : Str} {sg : List Str} {op : Bool} {t : Tok} {n : Nat} (h : tokOf (c :: r) sg op = (t,n,true)) : 1 ≤ n ∧ n ≤ (c :: r).length := by
 simp only [tokOf] at h;split at h
 ·rename_i hn;simp only [Prod.mk.injEq,decide_eq_true_eq] at h;obtain ⟨_,rfl,_⟩ := h;refine ⟨tw_pos ?_,tw_le _ _⟩;simp only [isName,Bool.and_eq_true,List.all_cons] at hn;exact hn.2.2.1
 ·split at h
  ·rename_i hd;simp only [numTok] at h;split at h
   ·simp at h
   ·simp only [Prod.mk.injEq,decide_eq_true_eq] at h;obtain ⟨_,rfl,_⟩ := h;exact ⟨tw_pos hd,tw_le _ _⟩
  ·split at h
   ·simp only [Prod.mk.injEq,Bool.and_eq_true,decide_eq_true_eq] at h;have := idx_lt r 34;simp only [List.length_cons];omega
   ·have hz := signTo_le (c :: r) sg 0 (Nat.zero_le _);simp only [Prod.mk.injEq,decide_eq_true_eq] at h;obtain ⟨_,rfl,h⟩ := h;refine ⟨h,?_⟩;split
    ·simp
    ·exact hz
theorem blks_le : ∀ (f : Nat) (w : Str),blk f w ≤ w.length
 | 0,w => Nat.zero_le _
 | f + 1,[] => Nat.zero_le _
 | f + 1,b :: r => by
  simp only [blk];split
  ·have := blks_le f r; simp only [List.length_cons]; omega
  ·split
   ·have := blks_le f ((b :: r).drop ((b :: r).takeWhile (fun c => !decide (c = 10))).length);rw [List.length_drop] at this;have := tw_le (fun c => !decide (c = 10)) (b :: r);omega
   ·exact Nat.zero_le _
def Lx.out (KV : St → A → Prop) : Lx → St → Prop
 | .ok l,s => KV s (.tuple [.list none (l.map Tok.enc),Fault.none.enc])
 | .bad f,s => KV s (.tuple [.list none [],f.enc])
theorem cut_den (s : St) (r : Nat) (x : Str) (sg : List Str) (KV Kp)
  (hr : s.getO r = some (.cells 226 (rdCs x 0 1 1 sg true))) (hx : x.length ≤ 4294967290) (hsg : sg.length ≤ 4294967296)
  (hk : ∀ o,(lexS sg true x).out KV (s.setO r o)) : Den cx 215 [.ptr r 0] KV Kp s := by
 refine Den.drop ?_; (refine Den.of_body (C := cx) Tryz.func215 rfl rfl (Nat.le_of_ble_eq_true rfl) ?_; refine wpC_ok (V := [0,2,3,4,5,6,18,38]) _ _ _ _ ?_; simp only [go_sem,Tryz.ntmps215,Tryz.f215]);(intro q hq; try simp only [getO_setO_none,ne_eq] at hq);have hne := St.ne_of hr hq;simp only [go_sem,hr,hq,hne,rdCs];refine blanks_den _ r x 0 1 1 sg true _ _ (by rw [gA1,if_neg hne.2]; exact hr) (by omega) (Nat.zero_le _) (by omega) (by omega) ?_;have hb0 := blks_le x.length x;change blks x ≤ x.length at hb0;simp only [go_sem,hr,hq,hne,rdCs]
 refine Ex.loop (ι := Nat × (Nat × Nat) × List Tok × Option Nat) (fun i => [(0,.ptr r 0),(2,gv i.2.2.2 (i.2.2.1.map Tok.enc)),(3,.ptr q 0)])
  (fun i => gs ((s.setO q (.cells 36 [.int .i64 0,.str [],.int .i64 0,.int .i64 0])).setO r (.cells 226 (rdCs x i.1 i.2.1.1 i.2.1.2 sg true))) i.2.2.2 i.2.2.1.length 60)
  (fun i => i.1 ≤ x.length ∧ i.2.1.1 ≤ i.1 + 1 ∧ i.2.1.2 ≤ i.1 + 1 ∧ (i.2.2.2 = none → i.2.2.1 = []) ∧ (∀ t,i.2.2.2 = some t → s.getT t = none) ∧ i.2.2.1.length ≤ i.1 ∧
   ∃ f,x.length - i.1 ≤ f ∧ lexS sg true x = lexA sg true f (x.drop i.1) i.2.1 i.2.2.1) (fun i => x.length - i.1)
  (blks x,adv (1,1) (x.take (blks x)),[],none) ?_ ?_ ?_ ?_
 ·have := adv_le (x.take (blks x)) (1,1) 0 (by omega) (by omega);rw [List.length_take] at this;refine ⟨hb0,by simp only; omega,by simp only; omega,fun _ => rfl,fun t h => (by cases h),Nat.zero_le _,x.length,by simp only; omega,rfl⟩
 ·simp only [go_sem];rfl
 ·simp only [go_sem];exact St.ge.refl _
 ·rintro ⟨a,⟨l,c⟩,acc,tk⟩ ⟨ha,hl,hc,hn,hf,hla,f,hff,hlex⟩;simp only at ha hl hc hn hf hla hff hlex;refine wpC_ok (V := [0,2,3,4,5,6,18,38]) _ _ _ _ ?_;simp only [go_sem];(refine draw_ok (V := [0,2,3,4,5,6,18,38]) (OT.l [0,1,2,3,4,5,6,7,8,9] .nil) [] mixed_cx (by decide +kernel) ?_; simp only [go_sem,hne,rdCs])
  (first | refine gdK_split (fun h => ?_) (fun h => ?_) | refine brK_split (fun h => ?_) (fun h => ?_) | refine gdX_split (fun h => ?_) (fun h => ?_)) <;> simp only [go_sem,h]
  ·have hlt : a < x.length := by simpa using h
   obtain ⟨b,w,hw⟩ : ∃ b w,x.drop a = b :: w := ⟨_,_,List.drop_eq_getElem_cons hlt⟩
   obtain ⟨f,rfl⟩ : ∃ f',f = f' + 1 := ⟨f - 1,by omega⟩
   refine token_den _ r x a l c sg true _ _ (by simp only [go_sem]; rfl) (by omega) hlt hsg ?_;rw [hw] at hlex ⊢;simp only [lexA] at hlex;rcases htok : tokOf (b :: w) sg true with ⟨⟨tkd,ttx,tn,tl,tc⟩,n,ok⟩
   rw [htok] at hlex;simp only [go_sem];(intro q2 hq2; try simp only [getO_setO_none,ne_eq] at hq2)
   have hne2 : q2 ≠ r ∧ q2 ≠ q := by
    have h1 := hq2;rw [gA6,gA1] at h1;have h2 := hq2;rw [gA6,gA1] at h2;constructor <;> rintro rfl
    ·simp at h1
    ·rw [if_neg hne.1,gA1] at h2; simp at h2
   simp only [go_sem,hne,hne2,hq2];(refine draw_ok (V := [0,2,3,4,5,6,18,38]) (OT.l [0,1,2,3,4,5,6,7,8,9,10,11] .nil) [(9,[7])] mixed_cx (by decide +kernel) ?_; simp only [go_sem,hne,hne2,rdCs])
   (first | refine gdK_split (fun h => ?_) (fun h => ?_) | refine brK_split (fun h => ?_) (fun h => ?_) | refine gdX_split (fun h => ?_) (fun h => ?_)) <;> simp only [go_sem,h,hne,hne2,rdCs]
   ·have hok : ok = false := by simpa using h
    subst hok;simp only at hlex;(refine draw_ok (V := [0,2,3,4,5,6,18,38]) (OT.l [0,1,2,3,4,5,6,7,8,9,10,11,12,13,14,15,16,17,18,19,20,21,22,23,24] .nil) [] mixed_cx (by decide +kernel) ?_; simp only [go_sem,hne,hne2,rdCs,Nat.le_of_lt hlt]);have ew : IntKind.i64.wrap ((a : Int) + 1) = ((a + 1 : Nat) : Int) := wrap1 a (by omega);rw [ew];refine ⟨⟨by omega,by omega⟩,?_⟩;have et : List.take ((((a + 1 : Nat) : Int)).toNat - a) (x.drop a) = [b] := by rw [hw,Int.toNat_natCast,Nat.add_sub_cancel_left]; rfl
    rw [et];rw [hlex] at hk;refine DK.mk (hk _) (gs_ge (St.ge_set ?_ (St.ge_set ?_ (St.ge_setO (St.ge_new hq)))) ?_) (A.le.tuple ⟨A.le.nil,A.le.refl _,trivial⟩)
    ·rw [gA1,if_neg hne.1]; exact hq
    ·have h1 := hq2;rw [gA6,gA1,if_neg hne2.1.symm,gA1,if_neg hne2.2.symm] at h1;rw [gA1,if_neg hne2.1.symm]; exact h1
    ·exact hf
   ·have hok : ok = true := by simpa using h
    subst hok;simp only at hlex;obtain ⟨hn1,hn2⟩ := tokOf_len htok;refine ⟨by decide,by simp [A.cells],appL_gv rfl rfl (by rw [List.length_map]; exact gs_ok fun e => by rw [hn e]; rfl) (fun y hy => by simp only [List.mem_map] at hy; obtain ⟨z,_,rfl⟩ := hy; rfl) (by simp; omega) fun t ht => ?_⟩;have hft' : s.getT t = none := by have := gs_free ht (fun u hu => hf u hu); exact this
    rw [gs_set ht];simp only [go_sem,hne,hne2];refine skip_den _ r x a l c n sg true _ _ (by simp only [go_sem,hne,hne2]; rfl) (by omega) (by have := congrArg List.length hw; rw [List.length_drop] at this; omega) (by omega) (by omega) ?_;simp only [go_sem];have hal := adv_le ((b :: w).take n) (l,c) a hl hc;rw [List.length_take,Nat.min_eq_left hn2] at hal;have hwl : x.length - a = (b :: w).length := by rw [← hw,List.length_drop]
    rw [hw];have hblk := blks_le ((b :: w).drop n).length ((b :: w).drop n);change blks ((b :: w).drop n) ≤ _ at hblk;rw [List.length_drop] at hblk;have hdd : x.drop (a + n) = (b :: w).drop n := by rw [← List.drop_drop,hw]
    refine blanks_den _ r x (a + n) _ _ sg true _ _ (by simp only [go_sem,hne,hne2]; rfl) (by omega) (by omega) (by omega) (by omega) ?_;simp only [go_sem];rw [hdd];refine ⟨(a + n + blks ((b :: w).drop n),adv (adv (l,c) ((b :: w).take n)) (((b :: w).drop n).take (blks ((b :: w).drop n))),acc ++ [⟨tkd,ttx,tn,l,c⟩],some t),⟨?_,?_,?_,?_,?_,?_,f,?_,?_⟩,?_,?_,?_⟩
    ·simp only; omega
    ·have := adv_le (((b :: w).drop n).take (blks ((b :: w).drop n))) (adv (l,c) ((b :: w).take n)) (a + n) (by omega) (by omega);rw [List.length_take,List.length_drop,Nat.min_eq_left hblk] at this;simp only; omega
    ·have := adv_le (((b :: w).drop n).take (blks ((b :: w).drop n))) (adv (l,c) ((b :: w).take n)) (a + n) (by omega) (by omega);rw [List.length_take,List.length_drop,Nat.min_eq_left hblk] at this;simp only; omega
    ·intro h; cases h
    ·intro u hu; cases hu; exact hft'
    ·simp only [List.length_append,List.length_cons,List.length_nil]; omega
    ·simp only; omega
    ·simp only [hlex];congr 1;rw [← List.drop_drop,hdd]
    ·simp only; omega
    ·simp only [List.map_append,List.map_cons,List.map_nil,gv_some];exact rfl
    ·simp only [gs,List.length_append,List.length_cons,List.length_nil];refine St.ge_setT (St.ge_mid ?_ hne2.1);have h1 := hq2;rw [gA6,gA1,if_neg hne2.1.symm] at h1;exact h1
  ·(refine draw_ok (V := [0,2,3,4,5,6,18,38]) (OT.l [0,1,2,3] .nil) [] mixed_cx (by decide +kernel) ?_; simp only [go_sem,hne,rdCs]);have hge : x.length ≤ a := by simpa using h
   have hlx : lexS sg true x = .ok acc := by
    rw [hlex,List.drop_eq_nil_of_le hge];cases f <;> rfl
   rw [hlx] at hk;refine DK.mk (hk _) (gs_ge (St.ge_set ?_ (St.ge_setO (St.ge_new hq))) ?_) (A.le.tuple ⟨gv_le tk _ (fun e => by rw [hn e]; rfl),A.le.refl _,trivial⟩)
   ·rw [gA1,if_neg hne.1]; exact hq
   ·exact hf
end Go.AV
end
section
namespace Go.AV
open Go
theorem idx_hd (c : UInt8) (w : Str) : Lib.indexByte (c :: w) c = 0 := by
 unfold Lib.indexByte; rw [if_pos (by simp)]
theorem idx_tl {d c : UInt8} (w : Str) (h : ¬ d = c) : Lib.indexByte (d :: w) c = if Lib.indexByte w c = -1 then -1 else Lib.indexByte w c + 1 := by
 conv => lhs; unfold Lib.indexByte
 rw [if_neg (by simpa using h)];simp only [beq_iff_eq]
theorem text_yes : ∀ (r : Str),r[(r.takeWhile okB).length]? = some 34 → Lib.indexByte r 34 = ((r.takeWhile okB).length : Int)
 | [],h => by simp at h
 | d :: w,h => by
  by_cases hd : okB d = true
  ·rw [List.takeWhile_cons_of_pos hd,List.length_cons,List.getElem?_cons_succ] at h;have ih := text_yes w h;have hne : ¬ d = 34 := by rintro rfl; revert hd; decide
   rw [List.takeWhile_cons_of_pos hd,List.length_cons];rw [idx_tl w hne];have : 0 ≤ Lib.indexByte w 34 := by rw [ih]; omega
   split
   ·omega
   ·rw [ih]; omega
  ·rw [List.takeWhile_cons_of_neg hd,List.length_nil,List.getElem?_cons_zero] at h;cases h;rw [List.takeWhile_cons_of_neg hd];rw [idx_hd]; rfl
theorem text_no : ∀ (r : Str),¬ r[(r.takeWhile okB).length]? = some 34 → Lib.indexByte r 34 < 0 ∨ (r.take (Lib.indexByte r 34).toNat).all okB = false
 | [],_ => .inl (by decide)
 | d :: w,h => by
  have hge := Lib.indexByte_ge w 34;by_cases hd : okB d = true
  ·rw [List.takeWhile_cons_of_pos hd,List.length_cons,List.getElem?_cons_succ] at h;have hne : ¬ d = 34 := by rintro rfl; revert hd; decide
   rcases text_no w h with ih | ih
   ·left;rw [idx_tl w hne];split <;> omega
   ·rw [idx_tl w hne];split
    ·left; omega
    ·right;rename_i h0;rw [show (Lib.indexByte w 34 + 1).toNat = (Lib.indexByte w 34).toNat + 1 by omega,List.take_succ_cons,List.all_cons,ih,Bool.and_false]
  ·rw [List.takeWhile_cons_of_neg hd,List.length_nil,List.getElem?_cons_zero] at h;have hne : ¬ d = 34 := by rintro rfl; exact h rfl
   rw [idx_tl w hne];split
   ·left; omega
   ·right;rename_i h0;rw [show (Lib.indexByte w 34 + 1).toNat = (Lib.indexByte w 34).toNat + 1 by omega,List.take_succ_cons,List.all_cons,show okB d = false by simpa using hd,Bool.false_and]
theorem all_take_tw (p : UInt8 → Bool) : ∀ (r : Str),(r.take (r.takeWhile p).length).all p = true
 | [] => rfl
 | d :: w => by
  by_cases hd : p d = true
  ·rw [List.takeWhile_cons_of_pos hd,List.length_cons,List.take_succ_cons,List.all_cons,hd,all_take_tw p w]; rfl
  ·rw [List.takeWhile_cons_of_neg hd]; rfl
theorem text_tok (r : Str) (sg : List Str) (op : Bool) (h : r[(r.takeWhile okB).length]? = some 34 ∧ (r.takeWhile okB).length ≤ 200) :
  tokOf (34 :: r) sg op = (⟨3,r.take (r.takeWhile okB).length,0,0,0⟩,(r.takeWhile okB).length + 2,true) := by
 have e := text_yes r h.1;simp only [tokOf];rw [if_neg (by decide),if_neg (by decide),if_pos trivial,e];rw [show (((r.takeWhile okB).length : Int) + 2).toNat = (r.takeWhile okB).length + 2 by omega,Nat.add_sub_cancel]
 have : isStr (r.take (r.takeWhile okB).length) = true := by
  unfold isStr;rw [all_take_tw,Bool.true_and,List.length_take];exact decide_eq_true (by omega)
 rw [this,show decide (1 < (r.takeWhile okB).length + 2) = true from decide_eq_true (by omega)]; rfl
theorem text_bad (r : Str) (sg : List Str) (op : Bool) (h : ¬ (r[(r.takeWhile okB).length]? = some 34 ∧ (r.takeWhile okB).length ≤ 200)) : (tokOf (34 :: r) sg op).2.2 = false := by
 have hge := Lib.indexByte_ge r 34;simp only [tokOf];rw [if_neg (by decide),if_neg (by decide),if_pos trivial];simp only;by_cases h1 : r[(r.takeWhile okB).length]? = some 34
 ·have e := text_yes r h1
  have h2 : 200 < (r.takeWhile okB).length := by
   by_cases h3 : (r.takeWhile okB).length ≤ 200
   ·exact absurd ⟨h1,h3⟩ h
   ·omega
  rw [e,show (((r.takeWhile okB).length : Int) + 2).toNat = (r.takeWhile okB).length + 2 by omega,Nat.add_sub_cancel];have hl := tw_le okB r
  have : isStr (r.take (r.takeWhile okB).length) = false := by
   unfold isStr;rw [List.length_take,Nat.min_eq_left hl,show decide ((r.takeWhile okB).length ≤ 200) = false from decide_eq_false (by omega),Bool.and_false]
  rw [this,Bool.and_false]
 ·rcases text_no r h1 with h2 | h2
  ·rw [show (Lib.indexByte r 34 + 2).toNat = 1 by omega]; rfl
  ·have : isStr (r.take ((Lib.indexByte r 34 + 2).toNat - 2)) = false := by
    unfold isStr;rw [show (Lib.indexByte r 34 + 2).toNat - 2 = (Lib.indexByte r 34).toNat by omega,h2,Bool.false_and]
   rw [this,Bool.and_false]
def capS (n : Nat) (d : UInt8) : Nat := min (10 * n + (d.toNat - 48)) 2147483648
theorem cap_foldl : ∀ (x : Str) (a : Nat),x.foldl capS (min a 2147483648) = min (x.foldl (fun n d => n * 10 + (d.toNat - 48)) a) 2147483648
 | [],a => rfl
 | d :: x,a => by
  simp only [List.foldl_cons];rw [← cap_foldl x];congr 1;unfold capS;omega
theorem cap_num (x : Str) : x.foldl capS 0 = min (numOf x) 2147483648 := cap_foldl x 0
theorem foldl_ge : ∀ (x : Str) (a : Nat),a * 10 ^ x.length ≤ x.foldl (fun n d => n * 10 + (d.toNat - 48)) a
 | [],a => by simp
 | d :: x,a => by
  simp only [List.foldl_cons,List.length_cons];refine Nat.le_trans ?_ (foldl_ge x _);rw [Nat.pow_succ,Nat.mul_comm (10 ^ x.length) 10,← Nat.mul_assoc];exact Nat.mul_le_mul_right _ (by omega)
theorem num_drop : ∀ (x : Str),numOf (x.dropWhile (eqB 48)) = numOf x
 | [] => rfl
 | d :: x => by
  by_cases h : eqB 48 d = true
  ·rw [List.dropWhile_cons_of_pos h,num_drop x];have : d = 48 := by simpa [eqB] using h
   subst this; rfl
  ·rw [List.dropWhile_cons_of_neg h]
theorem num_big (x : Str) (hd : digits x) (hl : 10 < (x.dropWhile (eqB 48)).length) : 2147483647 < numOf x := by
 rw [← num_drop];have hsub : ∀ c,c ∈ x.dropWhile (eqB 48) → c ∈ x := fun c hc => (List.dropWhile_sublist _).subset hc
 have hh : ∀ c r,x.dropWhile (eqB 48) = c :: r → eqB 48 c = false := by
  intro c r h;have := List.head?_dropWhile_not (eqB 48) x;rw [h] at this;simpa using this
 generalize x.dropWhile (eqB 48) = g at hl hsub hh;cases g with
 | nil => simp at hl
 | cons c r =>
  have h1 := hh c r rfl;have h2 := hd c (hsub c (by simp))
  have h3 : ¬ c.toNat = 48 := fun e => by
   have : c = 48 := UInt8.toNat_inj.1 e;subst this; cases h1
  simp only [numOf,List.foldl_cons,Nat.zero_mul,Nat.zero_add];refine Nat.lt_of_lt_of_le ?_ (foldl_ge r _);have h4 : 10 ≤ r.length := by simp only [List.length_cons] at hl; omega
  have h5 : 10 ^ 10 ≤ 10 ^ r.length := Nat.pow_le_pow_right (by omega) h4;have h6 : 1 * 10 ^ r.length ≤ (c.toNat - 48) * 10 ^ r.length := Nat.mul_le_mul_right _ (by omega);have h7 : (10 : Nat) ^ 10 = 10000000000 := by decide
  omega
theorem num_tok (x : Str) (h : ¬ (2147483647 < numOf (x.take (x.takeWhile fun c => isDig c.toNat).length) ∨ ∃ c,x[(x.takeWhile fun c => isDig c.toNat).length]? = some c ∧ isPart c.toNat = true)) (hd : digits (x.take (x.takeWhile fun c => isDig c.toNat).length)) :
  numTok x = (⟨2,[],numOf (x.take (x.takeWhile fun c => isDig c.toNat).length),0,0⟩,(x.takeWhile fun c => isDig c.toNat).length,true) := by
 unfold numTok;simp only;rw [if_neg (fun h1 => h (h1.elim (fun h2 => .inl (num_big _ hd h2)) .inr)),num_drop];rw [show decide (numOf (x.take (x.takeWhile fun c => isDig c.toNat).length) ≤ 2147483647) = true from decide_eq_true (by omega)]
theorem num_bad (x : Str) (h : 2147483647 < numOf (x.take (x.takeWhile fun c => isDig c.toNat).length) ∨ ∃ c,x[(x.takeWhile fun c => isDig c.toNat).length]? = some c ∧ isPart c.toNat = true) : (numTok x).2.2 = false := by
 unfold numTok;simp only;split
 ·rfl
 ·rename_i h1;rcases h with h | h
  ·rw [num_drop]; exact decide_eq_false (by omega)
  ·exact absurd (.inr h) h1
theorem digits_tw (x : Str) : digits (x.take (x.takeWhile fun c => isDig c.toNat).length) := by
 intro d hd;have := List.all_eq_true.1 (all_take_tw (fun c => isDig c.toNat) x) d hd;simp only [isDig,Bool.and_eq_true,decide_eq_true_eq] at this;omega
end Go.AV
end
section
namespace Go.AV
open Go Go.Proofs
def ctS (s : St) (r : Nat) (w : Str) (i l c : Nat) (sg : A) (tk : Option Nat) (acc : List Tok) (f : Fault) : St := gs (s.setO r (ctO w i l c sg (gv tk (acc.map Tok.enc)) f)) tk acc.length 60
section
variable {s : St} {KV Kp : St → A → Prop} {r : Nat} {w : Str} {i l c : Nat} {sg out : A} {f : Fault}
theorem fail191_den (b : UInt8) (hr : s.getO r = some (ctO w i l c sg out f)) (hx : w.length ≤ 4294967280) (hb : w[i]? = some b)
  (hk : KV (s.setO r (ctO w i l c sg out ⟨10,[b],l,c⟩)) (.tuple [])) : Den cx 191 [.ptr r 0] KV Kp s := by
 have hi : i < w.length := (List.getElem?_eq_some_iff.1 hb).1;have e1 : IntKind.i64.wrap ((i : Int) + 1) = ((i + 1 : Nat) : Int) := wrap1 i (by omega);refine Den.drop ?_; (refine Den.of_body (C := cx) Tryz.func191 rfl rfl (Nat.le_of_ble_eq_true rfl) ?_; refine wpC_ok (V := [0]) _ _ _ _ ?_; simp only [go_sem,Tryz.ntmps191,Tryz.f191]);(refine draw_ok (V := [0]) (OT.l [0,1,2,3,4,5,6,7,8,9,10,11,12,13,14,15,16,17,18,19,20,21,22,23,24,25,26] .nil) [] mixed_cx (by decide +kernel) ?_; simp only [go_sem,hr,e1,hi,Nat.le_of_lt hi]);have et : List.take 1 (List.drop i w) = [b] := by rw [List.drop_eq_getElem_cons hi]; have := (List.getElem?_eq_some_iff.1 hb).2; simp [this]
 refine ⟨⟨by omega,by omega⟩,?_⟩;rw [show i + 1 - i = 1 by omega,et];exact DK.here hk
theorem add192_den (t : Tok) (n : Nat) (tk : Option Nat) (acc : List Tok) (hn : tk = none → acc = []) (hf : ∀ u,tk = some u → s.getT u = none) (hacc : acc.length ≤ 4294967280) (hx : w.length ≤ 4294967280) (hi : i + n ≤ w.length)
  (hl : l ≤ i + 1) (hc : c ≤ i + 1)
  (hk : ∀ u,s.getT u = none → KV (ctS s r w (i + n) (adv (l,c) ((w.drop i).take n)).1 (adv (l,c) ((w.drop i).take n)).2 sg (some u) (acc ++ [⟨t.kind,t.text,t.n,l,c⟩]) f) (.tuple [])) :
  Den cx 192 [.ptr r 0,t.enc,.int .i64 n] KV Kp (ctS s r w i l c sg tk acc f) := by
 unfold ctS;refine Den.drop ?_; (refine Den.of_body (C := cx) Tryz.func192 rfl rfl (Nat.le_of_ble_eq_true rfl) ?_; refine wpC_ok (V := [0,1,2,4]) _ _ _ _ ?_; simp only [go_sem,Tryz.ntmps192,Tryz.f192]);(intro b2 hb2; try simp only [gA5,gA6,getO_setO_none,ne_eq] at hb2);simp only [go_sem,hb2]
 have hne : ¬ b2 = r ∧ ¬ r = b2 := by
  constructor <;> rintro rfl <;> simp at hb2
 (refine draw_ok (V := [0,1,2,4]) (OT.l [0,1,2,3,4,5,6,7,8,9,10,11] .nil) [(9,[7])] mixed_cx (by decide +kernel) ?_; simp only [go_sem,hb2,hne]);(refine draw_ok (V := [0,1,2,4]) (OT.l [0,1,2,3,4,5,6,7,8,9,10] .nil) [] mixed_cx (by decide +kernel) ?_; simp only [go_sem,hb2,hne]);refine ⟨by decide,by simp [A.cells],appL_gv rfl rfl (by rw [List.length_map]; exact gs_ok fun e => by rw [hn e]; rfl) (fun y hy => by simp only [List.mem_map] at hy; obtain ⟨z,_,rfl⟩ := hy; rfl) (by simp; omega) fun u hu => ?_⟩;have hft : s.getT u = none := by have := gs_free hu (fun v hv => hf v hv); exact this
 rw [gs_set hu];simp only [go_sem,hb2,hne];refine take94_den (r := r) (i := i) n (by simp only [gA1,gA2,gA3,gA6,ne_eq,gA9,reduceIte,hb2,hne] <;> (first | done | rfl | assumption)) hx hi hl hc ?_;simp only [go_sem,hb2];have hk' := hk u hft;unfold ctS at hk';rw [List.map_append] at hk';refine DK.st hk' ?_;simp only [gs,List.length_append,List.length_cons,List.length_nil,Nat.zero_add];refine St.ge_setT (St.ge_mid ?_ hne.1);simp only [gA6,gA1,hne,if_false,reduceIte] at hb2;exact hb2.2
theorem isText1_den (b : UInt8) (hk : KV s (.bool (okB b))) : Den cx 263 [.str [b]] KV Kp s := by
 refine Den.drop ?_; (refine Den.of_body (C := cx) Tryz.func263 rfl rfl (Nat.le_of_ble_eq_true rfl) ?_; refine wpC_ok (V := [0,2,3,5,6,7,30]) _ _ _ _ ?_; simp only [go_sem,Tryz.ntmps263,Tryz.f263]);have ok : okB b = (decide (32 ≤ b.toNat) && (decide (b.toNat ≤ 126) && (!decide (b = 34) && !decide (b = 92)))) := rfl;have f1 : decide ((b.toNat : Int) < 32) = !decide (32 ≤ b.toNat) := by rw [← decide_not]; congr 1; apply propext; omega
 have f2 : decide ((126 : Int) < b.toNat) = !decide (b.toNat ≤ 126) := by rw [← decide_not]; congr 1; apply propext; omega
 have f3 : decide ((b.toNat : Int) = 34) = decide (b = 34) := by
  congr 1; apply propext; exact ⟨fun h => UInt8.toNat_inj.1 (by show b.toNat = 34; omega),fun h => by rw [h]; rfl⟩
 have f4 : decide ((b.toNat : Int) = 92) = decide (b = 92) := by
  congr 1; apply propext; exact ⟨fun h => UInt8.toNat_inj.1 (by show b.toNat = 92; omega),fun h => by rw [h]; rfl⟩
 refine Ex.loop (ι := Nat) (fun i => [(0,.str [b]),(2,.bool false),(5,.int .i64 1),(6,.int .i64 i)]) (fun _ => s) (fun i => i ≤ 1 ∧ (i = 1 → okB b = true)) (fun i => 1 - i) 0 ⟨by omega,fun h => by omega⟩ ?_ (St.ge.refl s) ?_
 ·simp only [go_sem];exact ⟨rfl,rfl⟩
 rintro i ⟨hi,hok⟩;refine wpC_ok (V := [0,2,3,5,6,7,30]) _ _ _ _ ?_;have d01 : decide (((0 : Nat) : Int) < 1) = true := rfl;have d11 : decide (((1 : Nat) : Int) < 1) = false := rfl;have w1 : IntKind.i64.wrap (((0 : Nat) : Int) + 1) = ((1 : Nat) : Int) := by decide
 rcases Nat.eq_zero_or_pos i with rfl | hp
 ·simp only [go_sem,d01,f1,f2,f3,f4,w1];cases o1 : decide (32 ≤ b.toNat) <;> cases o2 : decide (b.toNat ≤ 126) <;> cases o3 : decide (b = 34) <;> cases o4 : decide (b = 92)
  all_goals (rw [o1,o2,o3,o4] at ok; simp only [go_sem,f1,f2,f3,f4,o1,o2,o3,o4,w1,Int.natCast_zero])
  all_goals first
   | (rw [ok] at hk; exact DK.here hk)
   | exact ⟨1,⟨by omega,fun _ => ok⟩,by omega,by decide,St.ge.refl _⟩
 ·obtain rfl : i = 1 := by omega
  rw [hok rfl] at hk;simp only [go_sem,d11];exact DK.here hk
end
section
variable {s : St} {KV Kp : St → A → Prop} {r : Nat} {w : Str} {i l c : Nat} {sg : A} {tk : Option Nat} {acc : List Tok}
def Cut1 (KV : St → A → Prop) (s : St) (r : Nat) (w : Str) (i l c : Nat) (sg : A) (tk : Option Nat) (acc : List Tok) : Tok × Nat × Bool → Prop
 | (t,n,true) => ∀ u,s.getT u = none → KV (ctS s r w (i + n) (adv (l,c) ((w.drop i).take n)).1 (adv (l,c) ((w.drop i).take n)).2 sg (some u) (acc ++ [⟨t.kind,t.text,t.n,l,c⟩]) Fault.none) (.tuple [])
 | (_,_,false) => KV (ctS s r w i l c sg tk acc ⟨10,(w.drop i).take 1,l,c⟩) (.tuple [])
theorem Cut1.bad {x : Tok × Nat × Bool} (h : x.2.2 = false) (hk : Cut1 KV s r w i l c sg tk acc x) : KV (ctS s r w i l c sg tk acc ⟨10,(w.drop i).take 1,l,c⟩) (.tuple []) := by
 obtain ⟨t,n,b⟩ := x;cases b with
 | false => exact hk
 | true => cases h
theorem ctS_getO : (ctS s r w i l c sg tk acc Fault.none).getO r = some (ctO w i l c sg (gv tk (acc.map Tok.enc)) Fault.none) := by
 unfold ctS; rw [gA6,gA1,if_pos rfl]
theorem ctS_fail (hf : ∀ u,tk = some u → s.getT u = none) (f : Fault) : ((ctS s r w i l c sg tk acc Fault.none).setO r (ctO w i l c sg (gv tk (acc.map Tok.enc)) f)).ge (ctS s r w i l c sg tk acc f) := by
 unfold ctS;cases tk with
 | none =>
  refine ⟨fun d x hx => ?_,fun u m hm => hm,fun x hx => hx⟩;simp only [gs] at hx ⊢;rw [gA1] at hx ⊢;split
  ·rename_i e; rw [if_pos e] at hx; exact hx
  ·rename_i e; rw [if_neg e] at hx; rw [gA1,if_neg e]; exact hx
 | some u =>
  refine ⟨fun d x hx => ?_,fun u m hm => hm,fun x hx => hx⟩;simp only [gs] at hx ⊢;rw [gA3,gA1] at hx;rw [gA1,gA3,gA1];split
  ·rename_i e; rw [if_pos e] at hx; exact hx
  ·rename_i e; rw [if_neg e] at hx; exact hx
theorem fail_cut (hf : ∀ u,tk = some u → s.getT u = none) (hx : w.length ≤ 4294967280) (hi : i < w.length) (hk : KV (ctS s r w i l c sg tk acc ⟨10,(w.drop i).take 1,l,c⟩) (.tuple [])) :
  Den cx 191 [.ptr r 0] KV Kp (ctS s r w i l c sg tk acc Fault.none) := by
 have hb : w[i]? = some w[i] := List.getElem?_eq_getElem hi;have et : List.take 1 (List.drop i w) = [w[i]] := by rw [List.drop_eq_getElem_cons hi]; rfl
 rw [et] at hk;refine Den.drop ?_;refine fail191_den w[i] ctS_getO hx hb ?_;exact DK.st hk (ctS_fail hf _)
theorem text195_den (b : Str) (hw : w.drop i = 34 :: b) (hn : tk = none → acc = []) (hf : ∀ u,tk = some u → s.getT u = none) (hacc : acc.length ≤ 4294967280) (hx : w.length ≤ 4294967280)
  (hl : l ≤ i + 1) (hc : c ≤ i + 1) (sgs : List Str) (op : Bool) (hk : Cut1 KV s r w i l c sg tk acc (tokOf (w.drop i) sgs op)) : Den cx 195 [.ptr r 0] KV Kp (ctS s r w i l c sg tk acc Fault.none) := by
 have hlen : i + 1 + b.length = w.length := by have := congrArg List.length hw; rw [List.length_drop,List.length_cons] at this; omega
 have hwb : ∀ k,w[i + 1 + k]? = b[k]? := fun k => by
  have := congrArg (·[k + 1]?) hw;rw [List.getElem?_drop] at this;simpa [Nat.add_assoc,Nat.add_comm 1 k] using this
 have hwd : w.drop (i + 1) = b := by rw [← List.drop_drop,hw]; rfl
 have htl := tw_le okB b;have e0 : IntKind.i64.wrap ((i : Int) + 1) = ((i + 1 : Nat) : Int) := wrap1 i (by omega);have hr := ctS_getO (s := s) (r := r) (w := w) (i := i) (l := l) (c := c) (sg := sg) (tk := tk) (acc := acc);rw [hw] at hk;generalize hY : ctS s r w i l c sg tk acc Fault.none = Y at hr ⊢;refine Den.drop ?_; (refine Den.of_body (C := cx) Tryz.func195 rfl rfl (Nat.le_of_ble_eq_true rfl) ?_; refine wpC_ok (V := [0,2,25,53]) _ _ _ _ ?_; simp only [go_sem,Tryz.ntmps195,Tryz.f195]);simp only [go_sem,hr,e0]
 refine Ex.loop (ι := Nat) (fun k => [(0,.ptr r 0),(2,.int .i64 ((i + 1 + k : Nat) : Int))]) (fun _ => Y)
  (fun k => k ≤ b.length ∧ (b.takeWhile okB).length = k + ((b.drop k).takeWhile okB).length) (fun k => b.length - k) 0 ⟨Nat.zero_le _,by simp⟩ ?_ (St.ge.refl _) ?_
 ·simp only [go_sem,hr]
 rintro k ⟨hk1,hk2⟩;refine wpC_ok (V := [0,2,25,53]) _ _ _ _ ?_;have ek : IntKind.i64.wrap (((i + 1 + k : Nat) : Int) + 1) = ((i + 1 + k + 1 : Nat) : Int) := wrap1 _ (by omega);have ek2 : IntKind.i64.wrap (((i + 1 + k : Nat) : Int) - (i : Int)) = ((k + 1 : Nat) : Int) := by rw [wrap_in _ (by omega) (by omega)]; omega
 have ek3 : IntKind.i64.wrap (((k + 1 : Nat) : Int) - 1) = ((k : Nat) : Int) := by rw [wrap_in _ (by omega) (by omega)]; omega
 have ek4 : IntKind.i64.wrap (((i + 1 + k + 1 : Nat) : Int) - (i : Int)) = ((k + 2 : Nat) : Int) := by rw [wrap_in _ (by omega) (by omega)]; omega
 have e200 : decide ((200 : Int) < ((k : Nat) : Int)) = decide (200 < k) := by congr 1; apply propext; omega
 have hwk := hwb k;simp only [go_sem,hr,ek];by_cases hlt : k < b.length
 ·obtain ⟨d,hd⟩ : ∃ d,b[k]? = some d := ⟨_,List.getElem?_eq_getElem hlt⟩
  have hwd2 : w[i + 1 + k]? = some d := by rw [hwk,hd]
  have hltw : i + 1 + k < w.length := by omega
  have d1 : decide (i + 1 + k < w.length) = true := decide_eq_true hltw
  have hdk : b.drop k = d :: b.drop (k + 1) := by
   rw [List.drop_eq_getElem_cons hlt];have := (List.getElem?_eq_some_iff.1 hd).2;rw [this]
  simp only [go_sem,hr,d1,ek];refine ⟨⟨by omega,by omega⟩,?_⟩
  have et : List.take (i + 1 + k + 1 - (i + 1 + k)) (List.drop (i + 1 + k) w) = [d] := by
   rw [show i + 1 + k + 1 - (i + 1 + k) = 1 by omega,List.drop_eq_getElem_cons hltw];have := (List.getElem?_eq_some_iff.1 hwd2).2;simp [this]
  rw [et];refine isText1_den d ?_;simp only [go_sem,hr];cases ho : okB d with
  | true =>
   simp only [go_sem,hr,ek];refine ⟨k + 1,⟨by omega,?_⟩,by omega,?_,St.ge.refl _⟩
   ·rw [hk2,hdk,List.takeWhile_cons_of_pos ho,List.length_cons]; omega
   ·omega
  | false =>
   rw [hdk,List.takeWhile_cons_of_neg (by rw [ho]; decide),List.length_nil,Nat.add_zero] at hk2;have d2 : decide (i + 1 + k = w.length) = false := decide_eq_false (by omega);have n34 : ((d.toNat : Int) = 34) = (d = 34) := propext ⟨fun h => UInt8.toNat_inj.1 (by show d.toNat = 34; omega),fun h => by rw [h]; rfl⟩;simp only [go_sem,hr,d2,hwd2,hltw,ek2,ek3,e200,n34];by_cases h34 : d = 34
   ·have d34 : decide (d = 34) = true := decide_eq_true h34;simp only [go_sem,hr,d34,ek2,ek3,e200];by_cases h200 : 200 < k
    ·have d3 : decide (200 < k) = true := decide_eq_true h200;simp only [go_sem,hr,d3];rw [← hY];refine fail_cut hf hx (by omega) ?_;simp only [go_sem,hr];exact DK.here (Cut1.bad (text_bad b sgs op (by rw [hk2]; omega)) hk)
    ·have d3 : decide (200 < k) = false := decide_eq_false h200;simp only [go_sem,hr,d3];(refine draw_ok (V := [0,2,25,53]) (OT.l [0,1,2,3,4,5,6,7,8,9,10,11,12,13,14,15,16,17,18,19,20] .nil) [] mixed_cx (by decide +kernel) ?_; simp only [go_sem,hr,e0,ek,ek4]);refine ⟨⟨by omega,by omega⟩,?_⟩;rw [hwd,show i + 1 + k - (i + 1) = k by omega,← hY];have ht := text_tok b sgs op (by rw [hk2,hd,h34]; exact ⟨rfl,by omega⟩);rw [ht,hk2] at hk;refine add192_den ⟨3,b.take k,0,0,0⟩ (k + 2) tk acc hn hf hacc hx (by omega) hl hc ?_;intro u hu;simp only [go_sem,hr];exact DK.here (hk u hu)
   ·have d34 : decide (d = 34) = false := decide_eq_false h34;simp only [go_sem,hr,d34];rw [← hY];refine fail_cut hf hx (by omega) ?_;simp only [go_sem,hr];refine DK.here (Cut1.bad (text_bad b sgs op (by rw [hk2,hd]; rintro ⟨h,_⟩; exact h34 (Option.some.inj h))) hk)
 ·have d1 : decide (i + 1 + k < w.length) = false := decide_eq_false (by omega);have d2 : decide (i + 1 + k = w.length) = true := decide_eq_true (by omega);simp only [go_sem,hr,d1,d2];have hkb : k = b.length := by omega
  rw [hkb,List.drop_length,List.takeWhile_nil,List.length_nil,Nat.add_zero] at hk2;rw [← hY];refine fail_cut hf hx (by omega) ?_;simp only [go_sem,hr];exact DK.here (Cut1.bad (text_bad b sgs op (by rw [hk2]; simp)) hk)
end
end Go.AV
end
section
namespace Go.AV
open Go Go.Proofs
section
variable {s : St} {KV Kp : St → A → Prop} {r : Nat} {w : Str} {i l c : Nat} {sg : A} {tk : Option Nat} {acc : List Tok}
theorem cap_le (x : Str) : x.foldl capS 0 ≤ 2147483648 := by rw [cap_num]; omega
theorem number194_den (hi : i < w.length) (hn : tk = none → acc = []) (hf : ∀ u,tk = some u → s.getT u = none) (hacc : acc.length ≤ 4294967280) (hx : w.length ≤ 4294967280)
  (hl : l ≤ i + 1) (hc : c ≤ i + 1) (hk : Cut1 KV s r w i l c sg tk acc (numTok (w.drop i))) : Den cx 194 [.ptr r 0] KV Kp (ctS s r w i l c sg tk acc Fault.none) := by
 have hr := ctS_getO (s := s) (r := r) (w := w) (i := i) (l := l) (c := c) (sg := sg) (tk := tk) (acc := acc);generalize hY : ctS s r w i l c sg tk acc Fault.none = Y at hr ⊢;refine Den.drop ?_; (refine Den.of_body (C := cx) Tryz.func194 rfl rfl (Nat.le_of_ble_eq_true rfl) ?_; refine wpC_ok (V := [0,2,3,29,61]) _ _ _ _ ?_; simp only [go_sem,Tryz.ntmps194,Tryz.f194])
 refine Ex.loop (ι := Nat) (fun k => [(0,.ptr r 0),(2,.int .i64 ((((w.drop i).take k).foldl capS 0 : Nat) : Int)),(3,.int .i64 k)]) (fun _ => Y)
  (fun k => i + k ≤ w.length ∧ ((w.drop i).takeWhile fun c => isDig c.toNat).length = k + ((w.drop (i + k)).takeWhile fun c => isDig c.toNat).length) (fun k => w.length - (i + k)) 0 ⟨by omega,by simp⟩ ?_ (St.ge.refl _) ?_
 ·simp only [go_sem,hr];exact ⟨rfl,rfl⟩
 rintro k ⟨hk1,hk2⟩;refine wpC_ok (V := [0,2,3,29,61]) _ _ _ _ ?_;have ek : IntKind.i64.wrap ((i : Int) + (k : Int)) = ((i + k : Nat) : Int) := by rw [wrap_in _ (by omega) (by omega)]; omega
 have ek1 : IntKind.i64.wrap ((k : Int) + 1) = ((k + 1 : Nat) : Int) := wrap1 k (by omega)
 have part_at : 0 < ((w.drop (i + k)).takeWhile fun c => isPart c.toNat).length → ∃ c,(w.drop i)[k]? = some c ∧ isPart c.toNat = true := by
  intro h;rw [List.getElem?_drop];cases hdr : w.drop (i + k) with
  | nil => rw [hdr] at h; simp at h
  | cons d v =>
   rw [hdr] at h
   have hd : w[i + k]? = some d := by
    have := congrArg (·[0]?) hdr;simpa using this
   refine ⟨d,hd,?_⟩;cases hp : isPart (d.toNat : Int) with
   | true => rfl
   | false => rw [List.takeWhile_cons_of_neg (p := fun c : UInt8 => isPart c.toNat) (by simp only [hp]; decide)] at h; simp at h
 have part_pos : ∀ {c : UInt8},(w.drop i)[k]? = some c → isPart c.toNat = true → 0 < ((w.drop (i + k)).takeWhile fun c => isPart c.toNat).length := by
  intro c h1 h2;rw [List.getElem?_drop] at h1;have hlt := (List.getElem?_eq_some_iff.1 h1).1;rw [List.drop_eq_getElem_cons hlt,(List.getElem?_eq_some_iff.1 h1).2,List.takeWhile_cons_of_pos (p := fun c : UInt8 => isPart c.toNat) h2];simp
 by_cases hlt : i + k < w.length
 ·have d1 : decide (i + k < w.length) = true := decide_eq_true hlt;obtain ⟨d,v,hdr⟩ : ∃ d v,w.drop (i + k) = d :: v := ⟨_,_,List.drop_eq_getElem_cons hlt⟩
  have hd : w[i + k]? = some d := by
   have := congrArg (·[0]?) hdr;simpa using this
  have hdr2 : w.drop (i + (k + 1)) = v := by
   rw [show i + (k + 1) = i + k + 1 from rfl,← List.drop_drop,hdr]; rfl
  (refine draw_ok (V := [0,2,3,29,61]) (OT.l [0,1,2,3,4,5,6,7,8,9,10,11,12,13,14,15,16,17,18,19,20,21,22,23,24,25] .nil) [] mixed_cx (by decide +kernel) ?_; simp only [go_sem,hr,ek,d1,hd,hlt]);refine digit193_den _ _ _ _ ?_;simp only [go_sem,hr];cases ho : isDig (d.toNat : Int) with
  | true =>
   have hdg : 48 ≤ d.toNat ∧ d.toNat ≤ 57 := by
    simp only [isDig,Bool.and_eq_true,decide_eq_true_eq] at ho; omega
   have hcl := cap_le ((w.drop i).take k)
   have u1 : IntKind.u8.wrap ((d.toNat : Int) - 48) = ((d.toNat - 48 : Nat) : Int) := by
    have : ((d.toNat : Int) - 48) = ((d.toNat - 48 : Nat) : Int) := by omega
    rw [this]; generalize d.toNat - 48 = z at *; simp [IntKind.wrap,IntKind.signed,IntKind.bits]; omega
   have u2 : IntKind.i64.wrap ((d.toNat - 48 : Nat) : Int) = ((d.toNat - 48 : Nat) : Int) := wrap_in _ (by omega) (by omega);have u3 : IntKind.i64.wrap (10 * ((((w.drop i).take k).foldl capS 0 : Nat) : Int)) = ((10 * ((w.drop i).take k).foldl capS 0 : Nat) : Int) := by rw [wrap_in _ (by omega) (by omega)]; omega
   have u4 : IntKind.i64.wrap (((10 * ((w.drop i).take k).foldl capS 0 : Nat) : Int) + ((d.toNat - 48 : Nat) : Int)) = ((10 * ((w.drop i).take k).foldl capS 0 + (d.toNat - 48) : Nat) : Int) := by rw [wrap_in _ (by omega) (by omega)]; omega
   simp only [go_sem,hr,ek,ek1];(refine draw_ok (V := [0,2,3,29,61]) (OT.l [0,1,2,3,4,5,6,7,8,9,10,11,12,13,14,15,16,17] .nil) [] mixed_cx (by decide +kernel) ?_; simp only [go_sem,hr,ek,hd,hlt,u1,u2,u3,u4]);simp only [go_sem,hr,ek1];refine ⟨k + 1,⟨by omega,?_⟩,by omega,⟨?_,rfl⟩,St.ge.refl _⟩
   ·rw [hk2,hdr,List.takeWhile_cons_of_pos (p := fun c : UInt8 => isDig c.toNat) ho,List.length_cons,hdr2]; omega
   ·have et : List.take (k + 1) (w.drop i) = (w.drop i).take k ++ [d] := by rw [List.take_add_one,List.getElem?_drop,hd]; rfl
    rw [et,List.foldl_append];simp only [List.foldl_cons,List.foldl_nil,capS];split <;> omega
  | false =>
   have hm : ((w.drop i).takeWhile fun c => isDig c.toNat).length = k := by
    rw [hk2,hdr,List.takeWhile_cons_of_neg (p := fun c : UInt8 => isDig c.toNat) (by simp only [ho]; decide)]; rfl
   simp only [go_sem,hr,ho]
   have eN : decide ((2147483647 : Int) < (((((w.drop i).take k).foldl capS 0 : Nat) : Int))) = decide (2147483647 < numOf ((w.drop i).take k)) := by
    rw [cap_num]; congr 1; apply propext; omega
   cases hb : decide (2147483647 < numOf ((w.drop i).take k)) with
   | true =>
    simp only [go_sem,hr,eN,hb];rw [← hY];refine fail_cut hf hx hi ?_;simp only [go_sem,hr];exact DK.here (Cut1.bad (num_bad _ (.inl (by rw [hm]; exact of_decide_eq_true hb))) hk)
   | false =>
    simp only [go_sem,hr,eN,hb,ek];refine name190_den (i + k) (by simp only [gA1,gA2,gA3,gA6,ne_eq,gA9,reduceIte,hr] <;> (first | done | rfl | assumption)) hx hk1 ?_;simp only [go_sem,hr];by_cases hp : 0 < ((w.drop (i + k)).takeWhile fun c => isPart c.toNat).length
    ·have d5 : decide ((0 : Int) < (((w.drop (i + k)).takeWhile fun c => isPart c.toNat).length : Int)) = true := decide_eq_true (by omega);simp only [go_sem,hr,d5];rw [← hY];refine fail_cut hf hx hi ?_;simp only [go_sem,hr];refine DK.here (Cut1.bad (num_bad _ (.inr ?_)) hk);rw [hm];exact part_at hp
    ·have d5 : decide ((0 : Int) < (((w.drop (i + k)).takeWhile fun c => isPart c.toNat).length : Int)) = false := decide_eq_false (by omega);simp only [go_sem,hr,d5];rw [← hY];have hnum := num_tok (w.drop i) (by rw [hm]; rintro (h | ⟨c,h1,h2⟩); exact absurd h (of_decide_eq_false hb); exact hp (part_pos h1 h2)) (digits_tw _);rw [hnum,hm] at hk
     have eM : ((w.drop i).take k).foldl capS 0 = numOf ((w.drop i).take k) := by
      have := of_decide_eq_false hb;rw [cap_num]; omega
     rw [eM];refine add192_den ⟨2,[],numOf ((w.drop i).take k),0,0⟩ k tk acc hn hf hacc hx hk1 hl hc ?_;intro u hu;simp only [go_sem,hr];exact DK.here (hk u hu)
 ·have d1 : decide (i + k < w.length) = false := decide_eq_false hlt
  have hm : ((w.drop i).takeWhile fun c => isDig c.toNat).length = k := by
   have : i + k = w.length := by omega
   rw [hk2,this,List.drop_length]; rfl
  (refine draw_ok (V := [0,2,3,29,61]) (OT.l [0,1,2,3,4,5,6,7,8,9,10,11,12,13,14,15,16,17,18,19,20,21,22,23,24,25] .nil) [] mixed_cx (by decide +kernel) ?_; simp only [go_sem,hr,ek,d1])
  have eN : decide ((2147483647 : Int) < (((((w.drop i).take k).foldl capS 0 : Nat) : Int))) = decide (2147483647 < numOf ((w.drop i).take k)) := by
   rw [cap_num]; congr 1; apply propext; omega
  cases hb : decide (2147483647 < numOf ((w.drop i).take k)) with
  | true =>
   simp only [go_sem,hr,eN,hb];rw [← hY];refine fail_cut hf hx hi ?_;simp only [go_sem,hr];exact DK.here (Cut1.bad (num_bad _ (.inl (by rw [hm]; exact of_decide_eq_true hb))) hk)
  | false =>
   simp only [go_sem,hr,eN,hb,ek];refine name190_den (i + k) (by simp only [gA1,gA2,gA3,gA6,ne_eq,gA9,reduceIte,hr] <;> (first | done | rfl | assumption)) hx hk1 ?_;simp only [go_sem,hr];by_cases hp : 0 < ((w.drop (i + k)).takeWhile fun c => isPart c.toNat).length
   ·have d5 : decide ((0 : Int) < (((w.drop (i + k)).takeWhile fun c => isPart c.toNat).length : Int)) = true := decide_eq_true (by omega);simp only [go_sem,hr,d5];rw [← hY];refine fail_cut hf hx hi ?_;simp only [go_sem,hr];refine DK.here (Cut1.bad (num_bad _ (.inr ?_)) hk);rw [hm];exact part_at hp
   ·have d5 : decide ((0 : Int) < (((w.drop (i + k)).takeWhile fun c => isPart c.toNat).length : Int)) = false := decide_eq_false (by omega);simp only [go_sem,hr,d5];rw [← hY];have hnum := num_tok (w.drop i) (by rw [hm]; rintro (h | ⟨c,h1,h2⟩); exact absurd h (of_decide_eq_false hb); exact hp (part_pos h1 h2)) (digits_tw _);rw [hnum,hm] at hk
    have eM : ((w.drop i).take k).foldl capS 0 = numOf ((w.drop i).take k) := by
     have := of_decide_eq_false hb;rw [cap_num]; omega
    rw [eM];refine add192_den ⟨2,[],numOf ((w.drop i).take k),0,0⟩ k tk acc hn hf hacc hx hk1 hl hc ?_;intro u hu;simp only [go_sem,hr];exact DK.here (hk u hu)
theorem Cut1.mono {KV' : St → A → Prop} (h : ∀ s,KV s (.tuple []) → KV' s (.tuple [])) : ∀ {x : Tok × Nat × Bool},Cut1 KV s r w i l c sg tk acc x → Cut1 KV' s r w i l c sg tk acc x
 | (_,_,true),hk => fun u hu => h _ (hk u hu)
 | (_,_,false),hk => h _ hk
def signsR : List Str := signsW ++ [[39],[95]]
theorem sign_app (b : UInt8) (v : Str) : signTo (b :: v) signsR 0 = if signTo (b :: v) signsW 0 = 0 ∧ (b = 39 ∨ b = 95) then 1 else signTo (b :: v) signsW 0 := by
 have h1 : ∀ x : UInt8,hasPre (b :: v) [x] = decide (b = x) := fun x => by simp [hasPre]
 unfold signsR;rw [show signsW ++ [[39],[95]] = (signsW ++ [[39]]) ++ [[95]] by simp,signTo_app,signTo_app];simp only [h1,List.length_cons,List.length_nil,decide_eq_true_eq,Nat.zero_add];generalize signTo (b :: v) signsW 0 = n;rcases Nat.eq_zero_or_pos n with rfl | hp
 ·by_cases h39 : b = 39
  ·simp [h39]
  ·by_cases h95 : b = 95
   ·simp [h95]
   ·simp [h39,h95]
 ·simp [show ¬ n < 1 by omega,show ¬ n = 0 by omega]
theorem isName1 (b : UInt8) : isName [b] = isLet b.toNat := by
 simp only [isName,List.all_cons,List.all_nil,Bool.and_true,List.length_cons,List.length_nil];cases h : isLet (b.toNat : Int) with
 | false => simp
 | true => simp [isPart,h]
theorem token105_den (tk2 : Option Nat) (hi : i < w.length) (hn : tk = none → acc = []) (hf : ∀ u,tk = some u → s.getT u = none) (hacc : acc.length ≤ 4294967280) (hx : w.length ≤ 4294967280)
  (hl : l ≤ i + 1) (hc : c ≤ i + 1) (hk : Cut1 KV s r w i l c (.list tk2 (signsR.map .str)) tk acc (tokOf (w.drop i) signsW true)) : Den cx 105 [.ptr r 0] KV Kp (ctS s r w i l c (.list tk2 (signsR.map .str)) tk acc Fault.none) := by
 have hr := ctS_getO (s := s) (r := r) (w := w) (i := i) (l := l) (c := c) (sg := .list tk2 (signsR.map .str)) (tk := tk) (acc := acc);obtain ⟨b,v,hw⟩ : ∃ b v,w.drop i = b :: v := ⟨_,_,List.drop_eq_getElem_cons hi⟩
 have hb : w[i]? = some b := by
  have := congrArg (·[0]?) hw;simpa using this
 have hwl : (b :: v).length = w.length - i := by rw [← hw,List.length_drop]
 generalize hY : ctS s r w i l c (.list tk2 (signsR.map .str)) tk acc Fault.none = Y at hr ⊢;refine Den.drop ?_; (refine Den.of_body (C := cx) Tryz.func105 rfl rfl (Nat.le_of_ble_eq_true rfl) ?_; refine wpC_ok (V := [0,2,3,4,6,19,20,21,22,34,38,47,57,79,84]) _ _ _ _ ?_; simp only [go_sem,Tryz.ntmps105,Tryz.f105]);(refine draw_ok (V := [0,2,3,4,6,19,20,21,22,34,38,47,57,79,84]) (OT.l [0,1,2,3,4,5,6,7,8,9] .nil) [] mixed_cx (by decide +kernel) ?_; simp only [go_sem,hr,hb,hi]);refine letter189_den _ _ _ _ ?_;simp only [go_sem,hr];cases hL : isLet (b.toNat : Int) with
 | true =>
  simp only [go_sem,hr];refine name190_den i (by simp only [gA1,gA2,gA3,gA6,ne_eq,gA9,reduceIte,hr] <;> (first | done | rfl | assumption)) hx (Nat.le_of_lt hi) ?_;simp only [go_sem,hr]
  have htok : tokOf (w.drop i) signsW true = (⟨1,(w.drop i).take ((w.drop i).takeWhile fun c => isPart c.toNat).length,0,0,0⟩,((w.drop i).takeWhile fun c => isPart c.toNat).length,decide (((w.drop i).takeWhile fun c => isPart c.toNat).length ≤ 40)) := by
   rw [hw]; simp only [tokOf]; rw [if_pos (by rw [isName1,hL])]
  rw [htok] at hk;have hle := tw_le (fun c => isPart c.toNat) (w.drop i);rw [List.length_drop] at hle;generalize hm : ((w.drop i).takeWhile fun c => isPart c.toNat).length = m at hk hle ⊢;have d40 : decide ((40 : Int) < (m : Int)) = !decide (m ≤ 40) := by rw [← decide_not]; congr 1; apply propext; omega
  have em : IntKind.i64.wrap ((i : Int) + (m : Int)) = ((i + m : Nat) : Int) := by rw [wrap_in _ (by omega) (by omega)]; omega
  cases h40 : decide (m ≤ 40) with
  | false =>
   rw [h40] at hk;simp only [go_sem,hr,d40,h40];rw [← hY];refine fail_cut hf hx hi ?_;simp only [go_sem,hr];exact DK.here hk
  | true =>
   rw [h40] at hk;simp only [go_sem,hr,d40,h40];(refine draw_ok (V := [0,2,3,4,6,19,20,21,22,34,38,47,57,79,84]) (OT.l [0,1,2,3,4,5,6,7,8,9,10,11,12,13,14,15,16,17,18] .nil) [] mixed_cx (by decide +kernel) ?_; simp only [go_sem,hr,em]);refine ⟨⟨by omega,by omega⟩,?_⟩;rw [show i + m - i = m by omega,← hY];refine add192_den ⟨1,(w.drop i).take m,0,0,0⟩ m tk acc hn hf hacc hx (by omega) hl hc ?_;intro u hu;simp only [go_sem,hr];exact DK.here (hk u hu)
 | false =>
  have hNm : ¬ isName [b] = true := by rw [isName1,hL]; decide
  simp only [go_sem,hr];refine digit193_den _ _ _ _ ?_;simp only [go_sem,hr];cases hD : isDig (b.toNat : Int) with
  | true =>
   have htok : tokOf (w.drop i) signsW true = numTok (w.drop i) := by
    rw [hw]; simp only [tokOf]; rw [if_neg hNm,if_pos hD]
   rw [htok] at hk;simp only [go_sem,hr];rw [← hY];refine number194_den hi hn hf hacc hx hl hc (Cut1.mono (fun s' h => ?_) hk);simp only [go_sem,hr];exact DK.here h
  | false =>
   have n34 : decide ((b.toNat : Int) = 34) = decide (b = 34) := by
    congr 1; apply propext; exact ⟨fun h => UInt8.toNat_inj.1 (by show b.toNat = 34; omega),fun h => by rw [h]; rfl⟩
   by_cases h34 : b = 34
   ·have d34 : decide (b = 34) = true := decide_eq_true h34;simp only [go_sem,hr,n34,d34];rw [← hY];refine text195_den v (by rw [hw,h34]) hn hf hacc hx hl hc signsW true (Cut1.mono (fun s' h => ?_) hk);simp only [go_sem,hr];exact DK.here h
   have d34 : decide (b = 34) = false := decide_eq_false h34;simp only [go_sem,hr,n34,d34]
   have htok : tokOf (w.drop i) signsW true = (⟨4,(w.drop i).take (signTo (w.drop i) signsR 0),0,0,0⟩,signTo (w.drop i) signsR 0,decide (0 < signTo (w.drop i) signsR 0)) := by
    rw [hw];simp only [tokOf];rw [if_neg hNm,if_neg (by rw [hD]; decide),if_neg h34,sign_app];simp only [true_and]
   rw [htok] at hk
   have hsl : ∀ j,signTo (w.drop i) (signsR.take j) 0 ≤ w.length - i := fun j => by
    have := signTo_le (w.drop i) (signsR.take j) 0 (Nat.zero_le _); rw [List.length_drop] at this; exact this
   refine Ex.loop (ι := Nat) (fun j => [(0,.ptr r 0),(4,.str ((w.drop i).take (signTo (w.drop i) (signsR.take j) 0))),(19,.list tk2 (signsR.map .str)),(20,.int .i64 20),(21,.int .i64 j)]) (fun _ => Y)
    (fun j => j ≤ 20) (fun j => 20 - j) 0 (Nat.zero_le _) ?_ (St.ge.refl _) ?_
   ·simp only [go_sem,hr];exact ⟨rfl,rfl,rfl⟩
   rintro j hj;refine wpC_ok (V := [0,2,3,4,6,19,20,21,22,34,38,47,57,79,84]) _ _ _ _ ?_
   have hbl : ((w.drop i).take (signTo (w.drop i) (signsR.take j) 0)).length = signTo (w.drop i) (signsR.take j) 0 := by
    have := hsl j;rw [List.length_take,List.length_drop]; omega
   have ej : IntKind.i64.wrap ((j : Int) + 1) = ((j + 1 : Nat) : Int) := wrap1 j (by omega);simp only [go_sem,hr];by_cases hlt : j < 20
   ·have d1 : decide ((j : Int) < 20) = true := decide_eq_true (by omega);have hj2 : j < signsR.length := hlt;obtain ⟨x,hxj⟩ : ∃ x,signsR[j]? = some x := ⟨_,List.getElem?_eq_getElem hj2⟩
    have hx40 : x.length ≤ 2 := by
     have hm := List.mem_of_getElem? hxj;have : ∀ y ∈ signsR,y.length ≤ 2 := by decide
     exact this x hm
    have hst : signTo (w.drop i) (signsR.take (j + 1)) 0 = if signTo (w.drop i) (signsR.take j) 0 < x.length ∧ hasPre (w.drop i) x = true then x.length else signTo (w.drop i) (signsR.take j) 0 := by
     rw [List.take_add_one,hxj]; exact signTo_app _ _ _ _
    generalize hn0 : signTo (w.drop i) (signsR.take j) 0 = n at hbl hst ⊢;simp only [go_sem,hr,d1,hxj,hj2,hbl];by_cases hnx : n < x.length
    ·have d2 : decide (n < x.length) = true := decide_eq_true hnx;simp only [go_sem,hr,d2];refine begins188_den x (by simp only [gA1,gA2,gA3,gA6,ne_eq,gA9,reduceIte,hr] <;> (first | done | rfl | assumption)) hx (Nat.le_of_lt hi) (by omega) ?_;simp only [go_sem,hr];cases hP : hasPre (w.drop i) x with
     | true =>
      rw [if_pos ⟨hnx,hP⟩] at hst;simp only [go_sem,hr,ej];refine ⟨j + 1,by omega,by omega,⟨?_,rfl⟩,St.ge.refl _⟩;rw [hst];simp only [hasPre,Bool.and_eq_true,decide_eq_true_eq] at hP;exact hP.2.symm
     | false =>
      rw [if_neg (by rw [hP]; simp)] at hst;simp only [go_sem,hr,ej];exact ⟨j + 1,by omega,by omega,⟨by rw [hst],rfl⟩,St.ge.refl _⟩
    ·have d2 : decide (n < x.length) = false := decide_eq_false hnx;rw [if_neg (fun h => hnx h.1)] at hst;simp only [go_sem,hr,d2,ej];exact ⟨j + 1,by omega,by omega,⟨by rw [hst],rfl⟩,St.ge.refl _⟩
   ·have d1 : decide ((j : Int) < 20) = false := decide_eq_false (by omega);obtain rfl : j = 20 := by omega
    rw [show signsR.take 20 = signsR from rfl] at hbl ⊢;have hsl2 := hsl 20;rw [show signsR.take 20 = signsR from rfl] at hsl2;generalize signTo (w.drop i) signsR 0 = n at hbl hk hsl2 ⊢;simp only [go_sem,hr,d1];by_cases hz : n = 0
    ·have d3 : decide (List.take n (w.drop i) = []) = true := decide_eq_true (by rw [hz]; rfl);simp only [go_sem,hr,d3];rw [← hY];refine fail_cut hf hx hi ?_;simp only [go_sem,hr];rw [show decide (0 < n) = false from decide_eq_false (by omega)] at hk;exact DK.here hk
    ·have d3 : decide (List.take n (w.drop i) = []) = false := decide_eq_false (fun e => by rw [e] at hbl; exact hz hbl.symm);simp only [go_sem,hr,d3,hbl];rw [← hY];rw [show decide (0 < n) = true from decide_eq_true (by omega)] at hk;refine add192_den ⟨4,(w.drop i).take n,0,0,0⟩ n tk acc hn hf hacc hx (by omega) hl hc ?_;intro u hu;simp only [go_sem,hr];exact DK.here (hk u hu)
end
end Go.AV
end
section
namespace Go.AV
open Go Go.Proofs
section
variable {s : St} {KV Kp : St → A → Prop} {r : Nat} {w : Str} {i l c : Nat} {sg : A} {tk : Option Nat} {acc : List Tok} {f : Fault}
theorem ctS_getO' : (ctS s r w i l c sg tk acc f).getO r = some (ctO w i l c sg (gv tk (acc.map Tok.enc)) f) := by
 unfold ctS; rw [gA6,gA1,if_pos rfl]
theorem ctS_set (i' l' c' : Nat) : ((ctS s r w i l c sg tk acc f).setO r (ctO w i' l' c' sg (gv tk (acc.map Tok.enc)) f)).ge (ctS s r w i' l' c' sg tk acc f) := by
 unfold ctS;cases tk with
 | none =>
  refine ⟨fun d x hx => ?_,fun u m hm => hm,fun x hx => hx⟩;simp only [gs] at hx ⊢;rw [gA1] at hx ⊢;split
  ·rename_i e; rw [if_pos e] at hx; exact hx
  ·rename_i e; rw [if_neg e] at hx; rw [gA1,if_neg e]; exact hx
 | some u =>
  refine ⟨fun d x hx => ?_,fun u m hm => hm,fun x hx => hx⟩;simp only [gs] at hx ⊢;rw [gA3,gA1] at hx;rw [gA1,gA3,gA1];split
  ·rename_i e; rw [if_pos e] at hx; exact hx
  ·rename_i e; rw [if_neg e] at hx; exact hx
theorem skip_ct (hx : w.length ≤ 4294967280) (hi : i ≤ w.length) (hl : l ≤ i + 1) (hc : c ≤ i + 1)
  (hk : KV (ctS s r w (i + blks (w.drop i)) (adv (l,c) ((w.drop i).take (blks (w.drop i)))).1 (adv (l,c) ((w.drop i).take (blks (w.drop i)))).2 sg tk acc f) (.tuple [])) :
  Den cx 104 [.ptr r 0] KV Kp (ctS s r w i l c sg tk acc f) := by
 refine Den.drop ?_;refine skip104_den ctS_getO' hx hi hl hc ?_;exact DK.st hk (ctS_set _ _ _)
theorem ctS_other {q : Nat} (h : ¬ r = q) : (ctS s r w i l c sg tk acc f).getO q = s.getO q := by
 unfold ctS; rw [gA6,gA1,if_neg h]
end
section
variable {s : St} {KV Kp : St → A → Prop}
theorem cut75_den (x : Str) (tk2 : Option Nat) (hx : x.length ≤ 4294967280)
  (hk : if 20000 < x.length then KV s (.tuple [.list none [],Fault.enc ⟨3,[],0,0⟩]) else (lexS signsW true x).out KV s) :
  Den cx 75 [.str x,.list tk2 (signsR.map .str)] KV Kp s := by
 refine Den.drop ?_; (refine Den.of_body (C := cx) Tryz.func75 rfl rfl (Nat.le_of_ble_eq_true rfl) ?_; refine wpC_ok (V := [0,1,4,5,6,9,31,41]) _ _ _ _ ?_; simp only [go_sem,Tryz.ntmps75,Tryz.f75]);(intro b1 hb1; try simp only [gA5,gA6,getO_setO_none,ne_eq] at hb1);simp only [go_sem,hb1];have d0 : decide ((20000 : Int) < ((x.length : Nat) : Int)) = decide (20000 < x.length) := by congr 1; apply propext; omega
 by_cases h20 : 20000 < x.length
 ·rw [if_pos h20] at hk;have d1 : decide (20000 < x.length) = true := decide_eq_true h20;simp only [go_sem,hb1,d0,d1];exact DK.mk hk (St.ge_new hb1) (A.le.tuple ⟨A.le.nil,A.le.refl _,trivial⟩)
 rw [if_neg h20] at hk;have d1 : decide (20000 < x.length) = false := decide_eq_false h20;simp only [go_sem,hb1,d0,d1];(intro b2 hb2; try simp only [gA5,gA6,getO_setO_none,ne_eq] at hb2);simp only [go_sem,hb1,hb2];have hb0 := blks_le x.length x;change blks x ≤ x.length at hb0;have hge1 : (s.setO b1 (.cells 36 [.int .i64 0,.str [],.int .i64 0,.int .i64 0])).ge s := St.ge_new hb1;have hS0 : (s.setO b1 (.cells 36 [.int .i64 0,.str [],.int .i64 0,.int .i64 0])).getO b1 = some (.cells 36 [.int .i64 0,.str [],.int .i64 0,.int .i64 0]) := by rw [gA1,if_pos rfl]
 have hST : ∀ u,(s.setO b1 (.cells 36 [.int .i64 0,.str [],.int .i64 0,.int .i64 0])).getT u = s.getT u := fun u => rfl
 have hS2 : (s.setO b1 (.cells 36 [.int .i64 0,.str [],.int .i64 0,.int .i64 0])).getO b2 = none := by rw [gA1,if_neg hb2.1.1]; exact hb2.2
 have hne : ¬ b1 = b2 ∧ ¬ b2 = b1 := hb2.1;have hb2 : s.getO b2 = none := hb2.2;generalize (s.setO b1 (.cells 36 [.int .i64 0,.str [],.int .i64 0,.int .i64 0])) = S at hge1 hS0 hST hS2 ⊢;change Den cx 104 [.ptr b2 0] _ _ (ctS S b2 x 0 1 1 (.list tk2 (signsR.map .str)) none [] Fault.none);refine skip_ct hx (Nat.zero_le _) (by omega) (by omega) ?_;simp only [go_sem,hb1,hb2]
 refine Ex.loop (ι := Nat × (Nat × Nat) × List Tok × Option Nat × Fault) (fun z => [(0,.str x),(4,.nils),(5,.ptr b1 0),(6,.ptr b2 0)])
  (fun z => ctS S b2 x z.1 z.2.1.1 z.2.1.2 (.list tk2 (signsR.map .str)) z.2.2.2.1 z.2.2.1 z.2.2.2.2)
  (fun z => z.1 ≤ x.length ∧ z.2.1.1 ≤ z.1 + 1 ∧ z.2.1.2 ≤ z.1 + 1 ∧ (z.2.2.2.1 = none → z.2.2.1 = []) ∧ (∀ t,z.2.2.2.1 = some t → S.getT t = none) ∧ z.2.2.1.length ≤ z.1 ∧
   ((z.2.2.2.2 = Fault.none ∧ ∃ f,x.length - z.1 ≤ f ∧ lexS signsW true x = lexA signsW true f (x.drop z.1) z.2.1 z.2.2.1) ∨ (z.2.2.2.2.code = 10 ∧ lexS signsW true x = .bad z.2.2.2.2))) (fun z => if z.2.2.2.2.code = 10 then 0 else x.length + 1 - z.1)
  (blks x,adv (1,1) (x.take (blks x)),[],none,Fault.none) ?_ ?_ ?_ ?_
 ·have := adv_le (x.take (blks x)) (1,1) 0 (by omega) (by omega);rw [List.length_take] at this;exact ⟨hb0,by simp only; omega,by simp only; omega,fun _ => rfl,fun t h => (by cases h),Nat.zero_le _,.inl ⟨rfl,x.length,by simp only; omega,rfl⟩⟩
 ·simp only [go_sem,hb1,hb2]
  try rfl
 ·simp only [List.drop_zero,Nat.zero_add]
  try exact St.ge.refl _
 rintro ⟨a,⟨l,c⟩,acc,tk,F⟩ ⟨ha,hl,hc,hn,hf,hla,hF⟩;simp only at ha hl hc hn hf hla hF;refine wpC_ok (V := [0,1,4,5,6,9,31,41]) _ _ _ _ ?_
 have fin : ∀ (a l c : Nat) (tk : Option Nat) (acc : List Tok) (F : Fault) (o : Ob),(∀ t,tk = some t → S.getT t = none) → ((ctS S b2 x a l c (.list tk2 (signsR.map .str)) tk acc F).setO b1 o).ge s := by
  intro a l c tk acc F o hf;refine ⟨fun d y hy => ?_,fun u m hm => ?_,fun y hy => ?_⟩
  ·have n1 : ¬ b1 = d := by rintro rfl; rw [hb1] at hy; cases hy
   have n2 : ¬ b2 = d := by rintro rfl; rw [hb2] at hy; cases hy
   rw [gA1,if_neg n1,ctS_other n2];exact hge1.ob d y hy
  ·have h1 := hge1.tk u m hm;unfold ctS;cases tk with
   | none => exact h1
   | some t =>
    have n1 : ¬ t = u := by rintro rfl; rw [hf t rfl] at h1; cases h1
    simp only [gs];show (St.setT _ t _).getT u = some m;rw [gA4,if_neg n1];exact h1
  ·have h1 := hge1.ls y hy;unfold ctS;cases tk <;> exact h1
 have hrr : ∀ a l c tk acc F,(ctS S b2 x a l c (.list tk2 (signsR.map .str)) tk acc F).getO b2 = some (ctO x a l c (.list tk2 (signsR.map .str)) (gv tk (acc.map Tok.enc)) F) := fun _ _ _ _ _ _ => ctS_getO'
 have hr1 : ∀ a l c tk acc F,(ctS S b2 x a l c (.list tk2 (signsR.map .str)) tk acc F).getO b1 = some (.cells 36 [.int .i64 0,.str [],.int .i64 0,.int .i64 0]) := fun _ _ _ _ _ _ => by rw [ctS_other hne.2]; exact hS0
 simp only [go_sem,hrr,hr1,hne];by_cases hlt : a < x.length
 ·have d2 : decide (a < x.length) = true := decide_eq_true hlt;rcases hF with ⟨rfl,f,hff,hlex⟩ | ⟨hF1,hF2⟩
  ·have d3 : decide (Fault.none.code = 0) = true := rfl;simp only [go_sem,hrr,hr1,hne,d2,d3];obtain ⟨b,v,hw⟩ : ∃ b v,x.drop a = b :: v := ⟨_,_,List.drop_eq_getElem_cons hlt⟩
   obtain ⟨f,rfl⟩ : ∃ f',f = f' + 1 := ⟨f - 1,by omega⟩
   refine token105_den tk2 hlt hn hf (by omega) hx hl hc ?_;rw [hw] at hlex ⊢;simp only [lexA] at hlex;have hwl : x.length - a = (b :: v).length := by rw [← hw,List.length_drop]
   rcases htok : tokOf (b :: v) signsW true with ⟨⟨tkd,ttx,tn,tl,tc⟩,n,ok⟩
   rw [htok] at hlex;cases ok with
   | false =>
    simp only at hlex;simp only [Cut1];simp only [go_sem,hrr,hr1,hne];have hbk : blks (x.drop a) ≤ (x.drop a).length := blks_le _ _;rw [List.length_drop] at hbk;refine skip_ct hx ha hl hc ?_;simp only [go_sem,hrr,hr1,hne];have hal := adv_le ((x.drop a).take (blks (x.drop a))) (l,c) a hl hc;rw [List.length_take,List.length_drop,Nat.min_eq_left hbk] at hal;refine ⟨(a + blks (x.drop a),adv (l,c) ((x.drop a).take (blks (x.drop a))),acc,tk,⟨10,(x.drop a).take 1,l,c⟩),⟨?_,?_,?_,hn,hf,?_,.inr ⟨rfl,?_⟩⟩,?_,?_⟩
    ·simp only; omega
    ·simp only; omega
    ·simp only; omega
    ·simp only; omega
    ·rw [hlex,hw]; rfl
    ·simp only [reduceIte];have nz : ¬ Fault.none.code = 10 := by decide
     simp only [nz,if_false]; omega
    ·exact St.ge.refl _
   | true =>
    simp only at hlex;obtain ⟨hn1,hn2⟩ := tokOf_len htok;simp only [Cut1];intro u hu;simp only [go_sem,hrr,hr1,hne];have hal := adv_le ((b :: v).take n) (l,c) a hl hc;rw [List.length_take,Nat.min_eq_left hn2] at hal;have hdd : x.drop (a + n) = (b :: v).drop n := by rw [← List.drop_drop,hw]
    have hblk := blks_le ((b :: v).drop n).length ((b :: v).drop n);change blks ((b :: v).drop n) ≤ _ at hblk;rw [List.length_drop] at hblk;rw [hw];refine skip_ct hx (by omega) (by omega) (by omega) ?_;simp only [go_sem,hrr,hr1,hne];rw [hdd];have hal2 := adv_le (((b :: v).drop n).take (blks ((b :: v).drop n))) (adv (l,c) ((b :: v).take n)) (a + n) (by omega) (by omega);rw [List.length_take,List.length_drop,Nat.min_eq_left hblk] at hal2;refine ⟨(a + n + blks ((b :: v).drop n),adv (adv (l,c) ((b :: v).take n)) (((b :: v).drop n).take (blks ((b :: v).drop n))),acc ++ [⟨tkd,ttx,tn,l,c⟩],some u,Fault.none),⟨?_,?_,?_,?_,?_,?_,.inl ⟨rfl,f,?_,?_⟩⟩,?_,?_⟩
    ·simp only; omega
    ·simp only; omega
    ·simp only; omega
    ·intro h; cases h
    ·intro y hy; cases hy; exact hu
    ·simp only [List.length_append,List.length_cons,List.length_nil]; omega
    ·simp only; omega
    ·simp only [hlex];congr 1;rw [← List.drop_drop,hdd]
    ·have nz : ¬ Fault.none.code = 10 := by decide
     simp only [nz,if_false]; omega
    ·exact St.ge.refl _
  ·have d3 : decide (F.code = 0) = false := decide_eq_false (by omega);simp only [go_sem,hrr,hr1,hne,d2,d3];(refine draw_ok (V := [0,1,4,5,6,9,31,41]) (OT.l [0,1,2,3,4,5] .nil) [] mixed_cx (by decide +kernel) ?_; simp only [go_sem,hrr,hr1,hne,d2,d3]);rw [hF2] at hk;refine DK.mk hk ?_ (A.le.tuple ⟨A.le.nil,A.le.refl _,trivial⟩);exact fin _ _ _ _ _ _ _ hf
 ·have d2 : decide (a < x.length) = false := decide_eq_false hlt;rcases hF with ⟨rfl,f,hff,hlex⟩ | ⟨hF1,hF2⟩
  ·have d3 : decide (Fault.none.code = 0) = true := rfl;simp only [go_sem,hrr,hr1,hne,d2,d3]
   have hlx : lexS signsW true x = .ok acc := by
    rw [hlex,List.drop_eq_nil_of_le (by omega)];cases f <;> rfl
   rw [hlx] at hk;refine DK.mk hk ?_ (A.le.tuple ⟨gv_le tk _ (fun e => by rw [hn e]; rfl),A.le.refl _,trivial⟩);exact fin _ _ _ _ _ _ _ hf
  ·have d3 : decide (F.code = 0) = false := decide_eq_false (by omega);simp only [go_sem,hrr,hr1,hne,d2,d3];(refine draw_ok (V := [0,1,4,5,6,9,31,41]) (OT.l [0,1,2,3,4,5] .nil) [] mixed_cx (by decide +kernel) ?_; simp only [go_sem,hrr,hr1,hne,d2,d3]);rw [hF2] at hk;refine DK.mk hk ?_ (A.le.tuple ⟨A.le.nil,A.le.refl _,trivial⟩);exact fin _ _ _ _ _ _ _ hf
end
end Go.AV
end
