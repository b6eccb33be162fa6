/-
  Part of the proof of DefStops.
-/
import Derived.Test.YtamikhobdffnfaaGreatDoorSt21
import Derived.Test.YtamikhobdffnfaaGreatDoorSt15
import Derived.Test.YtamikhobdffnfaaGreatDoorSt29
import Derived.Test.YtamikhobdffnfaaGreatDoorSt22
import Derived.Test.YtamikhobdffnfaaGreatDoorSt16
import Derived.KernelRfl
set_option linter.all false
set_option maxRecDepth 1000000
set_option maxHeartbeats 40000000
section
namespace Go.AV
open Go
structure TokW (N : Nat) (t : Tok) : Prop where
 kind : t.kind = 1 ∧ (∃ c r,t.text = c :: r ∧ isLet c.toNat = true) ∨ t.kind = 2 ∧ t.text = [] ∨ t.kind = 3 ∨ t.kind = 4 ∧ (t.text ∈ signsW ∨ t.text = [39] ∨ t.text = [95])
 num : 0 ≤ t.n ∧ t.n ≤ 2147483647
 col : 0 ≤ t.col ∧ t.col ≤ N
 line : 0 ≤ t.line ∧ t.line ≤ N
 txt : t.text.length ≤ N
theorem adv_le2 : ∀ (w : Str) (p : Nat × Nat),(adv p w).1 ≤ p.1 + w.length ∧ (adv p w).2 ≤ p.2 + w.length ∧ (1 ≤ p.2 → 1 ≤ (adv p w).2)
 | [],p => ⟨Nat.le_refl _,Nat.le_refl _,fun h => h⟩
 | b :: r,(l,c) => by
  simp only [adv];split
  ·have := adv_le2 r (l + 1,1); simp only [List.length_cons] at this ⊢; refine ⟨?_,?_,fun h => this.2.2 (Nat.le_refl _)⟩ <;> omega
  ·have := adv_le2 r (l,c + 1); simp only [List.length_cons] at this ⊢; refine ⟨?_,?_,fun h => this.2.2 (by omega)⟩ <;> omega
theorem signTo_mem (w : Str) : ∀ (sg : List Str) (n : Nat),signTo w sg n = n ∨ w.take (signTo w sg n) ∈ sg
 | [],n => .inl rfl
 | x :: r,n => by
  simp only [signTo];split
  ·rename_i h;rcases signTo_mem w r x.length with h1 | h1
   ·rw [h1];refine .inr (List.mem_cons.2 (.inl ?_));have h2 := h.2;simp only [hasPre,Bool.and_eq_true,decide_eq_true_eq] at h2;exact h2.2
   ·exact .inr (List.mem_cons.2 (.inr h1))
  ·rcases signTo_mem w r n with h1 | h1
   ·exact .inl h1
   ·exact .inr (List.mem_cons.2 (.inr h1))
theorem tokOf_w {c : UInt8} {r : Str} {t : Tok} {n N : Nat} (h : tokOf (c :: r) signsW true = (t,n,true)) (hN : (c :: r).length ≤ N) (l k : Nat) (hl : l ≤ N) (hk : k ≤ N) : TokW N ⟨t.kind,t.text,t.n,l,k⟩ := by
 have htake : ∀ m,((c :: r).take m).length ≤ N := fun m => by rw [List.length_take]; omega
 have hlen := tokOf_len h;have hc : (0 : Int) ≤ (k : Int) ∧ (k : Int) ≤ N := ⟨by omega,by omega⟩;have hl' : (0 : Int) ≤ (l : Int) ∧ (l : Int) ≤ N := ⟨by omega,by omega⟩;have h0 : (0 : Int) ≤ 0 ∧ (0 : Int) ≤ 2147483647 := by decide
 simp only [tokOf] at h;split at h
 ·rename_i hn;simp only [Prod.mk.injEq,decide_eq_true_eq] at h;obtain ⟨rfl,h2,_⟩ := h;refine ⟨.inl ⟨rfl,?_⟩,h0,hc,hl',htake _⟩;have hlet : isLet c.toNat = true := by simp only [isName,Bool.and_eq_true] at hn; exact hn.2.1
  obtain ⟨m,hm⟩ : ∃ m,n = m + 1 := ⟨n - 1,by omega⟩
  rw [hm] at h2;rw [h2];exact ⟨c,r.take m,rfl,hlet⟩
 ·split at h
  ·simp only [numTok] at h;split at h
   ·simp only [Prod.mk.injEq,Bool.false_eq_true,and_false] at h
   ·simp only [Prod.mk.injEq,decide_eq_true_eq] at h;obtain ⟨rfl,_,h3⟩ := h;exact ⟨.inr (.inl ⟨rfl,rfl⟩),⟨Int.natCast_nonneg _,by simp only; omega⟩,hc,hl',Nat.zero_le _⟩
  ·split at h
   ·simp only [Prod.mk.injEq] at h;obtain ⟨h1,h2,_⟩ := h;generalize (Lib.indexByte r 34 + 2).toNat - 2 = m at h1;subst h1;refine ⟨.inr (.inr (.inl rfl)),h0,hc,hl',?_⟩;show (r.take m).length ≤ N;rw [List.length_take];rw [List.length_cons] at hN;omega
   ·simp only [Prod.mk.injEq,decide_eq_true_eq] at h;obtain ⟨h1,h2,h3⟩ := h;rw [h2] at h1 h3;subst h1;refine ⟨.inr (.inr (.inr ⟨rfl,?_⟩)),h0,hc,hl',htake n⟩;show (c :: r).take n ∈ signsW ∨ (c :: r).take n = [39] ∨ (c :: r).take n = [95];by_cases h4 : signTo (c :: r) signsW 0 = 0 ∧ True ∧ (c = 39 ∨ c = 95)
    ·rw [if_pos (by simpa using h4)] at h2;subst h2;rcases h4.2.2 with rfl | rfl
     ·exact .inr (.inl rfl)
     ·exact .inr (.inr rfl)
    ·rw [if_neg (by simpa using h4)] at h2;subst h2;rcases signTo_mem (c :: r) signsW 0 with h5 | h5
     ·omega
     ·exact .inl h5
theorem lexA_w (N : Nat) : ∀ (f : Nat) (w : Str) (p : Nat × Nat) (acc : List Tok) (l : List Tok),p.1 + w.length ≤ N → p.2 + w.length ≤ N → acc.length + w.length ≤ N → (∀ t,t ∈ acc → TokW N t) → lexA signsW true f w p acc = .ok l →
  l.length ≤ N ∧ ∀ t,t ∈ l → TokW N t
 | _,[],p,acc,l,h1,h2,h3,ha,h => by
  simp only [lexA] at h;cases h; exact ⟨by simpa using h3,ha⟩
 | 0,_ :: _,p,acc,l,h1,h2,h3,ha,h => by
  simp only [lexA] at h;cases h; exact ⟨by omega,ha⟩
 | f + 1,c :: r,p,acc,l,h1,h2,h3,ha,h => by
  simp only [lexA] at h;rcases htok : tokOf (c :: r) signsW true with ⟨t,n,ok⟩
  rw [htok] at h;cases ok with
  | false => cases h
  | true =>
   simp only at h;obtain ⟨hn1,hn2⟩ := tokOf_len htok;have hb : blks ((c :: r).drop n) ≤ ((c :: r).drop n).length := blks_le _ _;have a1 := adv_le2 ((c :: r).take n) p;have a2 := adv_le2 (((c :: r).drop n).take (blks ((c :: r).drop n))) (adv p ((c :: r).take n));simp only [List.length_take,List.length_drop,List.length_cons] at a1 a2 hb h1 h2 h3 hn2;refine lexA_w N f _ _ _ l ?_ ?_ ?_ ?_ h
   ·simp only [List.length_drop,List.length_cons]; omega
   ·simp only [List.length_drop,List.length_cons]; omega
   ·simp only [List.length_append,List.length_cons,List.length_nil,List.length_drop] at h3 ⊢; omega
   ·intro t' ht';rcases List.mem_append.1 ht' with h5 | h5
    ·exact ha t' h5
    ·simp only [List.mem_singleton] at h5;subst h5;exact tokOf_w htok (by simp only [List.length_cons]; omega) p.1 p.2 (by omega) (by omega)
theorem lexS_w {x : Str} {l : List Tok} (h : lexS signsW true x = .ok l) : l.length ≤ x.length + 1 ∧ ∀ t,t ∈ l → TokW (x.length + 1) t := by
 have hb : blks x ≤ x.length := blks_le _ _;have a1 := adv_le2 (x.take (blks x)) (1,1);simp only [List.length_take] at a1;refine lexA_w (x.length + 1) _ _ _ _ l ?_ ?_ ?_ (fun t ht => by cases ht) h
 ·simp only [List.length_drop]; omega
 ·simp only [List.length_drop]; omega
 ·simp only [List.length_drop,List.length_nil]; omega
theorem lexA_bad (sg : List Str) (op : Bool) : ∀ (f : Nat) (w : Str) (p : Nat × Nat) (acc : List Tok) (g : Fault),lexA sg op f w p acc = .bad g → g.code = 10
 | _,[],p,acc,g,h => by simp only [lexA] at h; cases h
 | 0,_ :: _,p,acc,g,h => by simp only [lexA] at h; cases h
 | f + 1,c :: r,p,acc,g,h => by
  simp only [lexA] at h;rcases htok : tokOf (c :: r) sg op with ⟨t,n,ok⟩
  rw [htok] at h;cases ok with
  | false => cases h; rfl
  | true => exact lexA_bad sg op f _ _ _ g h
theorem lexS_bad {x : Str} {g : Fault} (h : lexS signsW true x = .bad g) : g.code = 10 := lexA_bad _ _ _ _ _ _ _ h
end Go.AV
end
section
namespace Go.AV
open Go
structure RQ (T : List Tok) where
 at_ : Nat
 le : at_ ≤ T.length
 f : Fault
 first : Nat
 nodes : Int
 over : Bool
section
variable {T : List Tok} (fin : Fault)
def RQ.ok (q : RQ T) : Bool := decide (q.f.code = 0)
def RQ.tok (q : RQ T) : Tok := (T[q.at_]?).getD ⟨0,[],0,0,0⟩
def noTm : Tm := .mk 0 0 [] [] [] []
end
end Go.AV
end
section
namespace Go.AV
open Go Go.Proofs
def finS (x : Str) : Fault := ⟨12,[],1 + (x.count 10 : Nat),x.length - lastTo x 10 x.length⟩
def parseL (x : Str) : Dfn × Fault := match lexS signsW true x with
 | .bad f => (noDfn,f)
 | .ok T => match defR false (finS x) T with
  | .ok d _ _ => (d,Fault.none)
  | .bad f => (noDfn,f)
def parseS (x : Str) : Dfn × Fault := if 20000 < x.length then (noDfn,⟨3,[],0,0⟩) else parseL x
def termS (x : Str) : Tm × Fault := if 20000 < x.length then (noTm,⟨3,[],0,0⟩) else match lexS signsW true x with
 | .bad f => (noTm,f)
 | .ok T => match wholeR false (finS x) T 0 with
  | .ok t [] _ => (t,Fault.none)
  | .ok _ (t :: w) _ => (noTm,failAt (finS x) 11 (t :: w))
  | .bad f => (noTm,f)
theorem TOk_of {x : Str} {l : List Tok} (hx : x.length ≤ 4294967280) (h : lexS signsW true x = .ok l) : TOk l := by
 obtain ⟨h1,h2⟩ := lexS_w h;refine ⟨by omega,fun t ht => (h2 t ht).num,fun t ht => ?_,fun t ht => ?_⟩
 ·have := (h2 t ht).col; omega
 ·have := (h2 t ht).txt; omega
theorem lastTo_le (x : Str) (c : UInt8) : ∀ n,lastTo x c n < n ∧ -1 ≤ lastTo x c n
 | 0 => by simp [lastTo]
 | n + 1 => by
  have := lastTo_le x c n;simp only [lastTo];split <;> omega
section
variable {s : St} {KV Kp : St → A → Prop}
theorem long83_den (x : Str) (hx : x.length ≤ 4294967280) (hk : match lexS signsW true x with
  | .ok l => ∀ r,s.getO r = none → KV (s.setO r (psO l (finS x) (dcN noDfn noOwn) noTok 0 0)) (.tuple [.ptr r 0,Fault.none.enc])
  | .bad f => KV s (.tuple [.nilp,f.enc])) : Den cx 83 [.str x] KV Kp s := by
 have hcnt : x.count 10 ≤ x.length := List.count_le_length;have hlast := lastTo_le x 10 x.length;refine Den.drop ?_; (refine Den.of_body (C := cx) Tryz.func83 rfl rfl (Nat.le_of_ble_eq_true rfl) ?_; refine wpC_ok (V := [0,2,3,4,5,6,14]) _ _ _ _ ?_; simp only [go_sem,Tryz.ntmps83,Tryz.f83]);(intro b3 hb3; try simp only [gA5,gA6,getO_setO_none,ne_eq] at hb3);simp only [go_sem,hb3];refine long_den _ x _ _ (by omega) ?_;cases hl : lexS signsW true x with
 | bad f =>
  rw [hl] at hk;have hc := lexS_bad hl;have hc0 : decide (f.code = 0) = false := by rw [hc]; rfl
  simp only [Lx.out];simp only [go_sem,hb3];(intro b5 hb5; try simp only [gA5,gA6,getO_setO_none,ne_eq] at hb5);simp only [go_sem,hb3,hb5,hc0];(refine draw_ok (V := [0,2,3,4,5,6,14]) (OT.l [0,1,2] .nil) [] mixed_cx (by decide +kernel) ?_; simp only [go_sem,hb3,hb5]);simp only [go_sem] at hk;exact DK.st hk (by (refine gel_ge ?_; repeat (first | exact gel_refl _ _ _ | refine gel_gs_gs ?_ | refine gel_to_gs gs_self ?_ | (refine gel_to_gs ?_ ?_; focus (rintro _ ⟨⟩; simp only [getT_setO,St.getT_setL,gA4,St.getT_delT,gs_getT,reduceIte,List.length_append,List.length_cons,List.length_nil,List.length_map,Nat.zero_add,Nat.add_zero] <;> done)) | (refine gel_inT ?_ ?_; focus (simp only [Option.toList,List.cons_append,List.nil_append,List.mem_cons,true_or,or_true] <;> done)) | (refine gel_gs_in ?_ ?_; focus (simp; done)) | refine gel_set (by simp only [gA1,gA2,gA3,gA6,ne_eq,gA9,reduceIte,hb3,hb5] <;> (first | done | rfl | assumption)) ?_ | (refine gel_in ?_ ?_; focus (simp only [List.mem_cons,true_or,or_true]; done)) | refine gel_new (by first | simp only [hb3,hb5] | assumption) ?_)))
 | ok l =>
  rw [hl] at hk;simp only [Lx.out];have h00 : Fault.none.code = 0 := rfl;simp only [go_sem,hb3,Fault.none];(intro b5 hb5; try simp only [gA5,gA6,getO_setO_none,ne_eq] at hb5);simp only [go_sem,hb3,hb5];refine count142_den _ _ _ _ _ ?_;simp only [go_sem,hb3,hb5,wrap_in (1 + ((x.count 10 : Nat) : Int)) (by omega) (by omega)];refine lastIdx143_den _ x 10 _ _ (by omega) ?_;simp only [go_sem,hb3,hb5,wrap_in ((x.length : Int) - lastTo x 10 x.length) (by omega) (by omega)];(intro b6 hb6; try simp only [gA5,gA6,getO_setO_none,ne_eq] at hb6);simp only [go_sem,hb3,hb5,hb6];(refine draw_ok (V := [0,2,3,4,5,6,14]) (OT.l [0,1,2,4,3,5,6] .nil) [(3,[4])] mixed_cx (by decide +kernel) ?_; simp only [go_sem,hb3,hb5,hb6]);(intro b7 hb7; try simp only [gA5,gA6,getO_setO_none,ne_eq] at hb7);simp only [go_sem,hb3,hb5,hb6,hb7];have hk2 := hk b7 (by first | exact hb7.2.2.2 | exact hb7.2.2);simp only [Fault.enc,Fault.cs,Fault.none] at hk2;exact DK.st hk2 (by (refine gel_ge ?_; repeat (first | exact gel_refl _ _ _ | refine gel_gs_gs ?_ | refine gel_to_gs gs_self ?_ | (refine gel_to_gs ?_ ?_; focus (rintro _ ⟨⟩; simp only [getT_setO,St.getT_setL,gA4,St.getT_delT,gs_getT,reduceIte,List.length_append,List.length_cons,List.length_nil,List.length_map,Nat.zero_add,Nat.add_zero] <;> done)) | (refine gel_inT ?_ ?_; focus (simp only [Option.toList,List.cons_append,List.nil_append,List.mem_cons,true_or,or_true] <;> done)) | (refine gel_gs_in ?_ ?_; focus (simp; done)) | refine gel_set (by simp only [gA1,gA2,gA3,gA6,ne_eq,gA9,reduceIte,hb3,hb5,hb6,hb7] <;> (first | done | rfl | assumption)) ?_ | (refine gel_in ?_ ?_; focus (simp only [List.mem_cons,true_or,or_true]; done)) | refine gel_new (by first | simp only [hb3,hb5,hb6,hb7] | assumption) ?_)))
theorem begin_den (x : Str) (hx : x.length ≤ 4294967280) (hk : if 20000 < x.length then KV s (.tuple [.nilp,Fault.enc ⟨3,[],0,0⟩]) else match lexS signsW true x with
  | .ok l => ∀ r,s.getO r = none → KV (s.setO r (psO l (finS x) (dcN noDfn noOwn) noTok 0 0)) (.tuple [.ptr r 0,Fault.none.enc])
  | .bad f => KV s (.tuple [.nilp,f.enc])) : Den cx 37 [.str x] KV Kp s := by
 refine Den.drop ?_; (refine Den.of_body (C := cx) Tryz.func37 rfl rfl (Nat.le_of_ble_eq_true rfl) ?_; refine wpC_ok (V := [0,2,3,6]) _ _ _ _ ?_; simp only [go_sem,Tryz.ntmps37,Tryz.f37]);(intro b3 hb3; try simp only [gA5,gA6,getO_setO_none,ne_eq] at hb3);simp only [go_sem,hb3];cases c : decide ((20000 : Int) < (x.length : Int)) with
 | true =>
  rw [if_pos (by simp at c; omega)] at hk;simp only [go_sem,hb3,c];simp only [go_sem] at hk;exact DK.st hk (by (refine gel_ge ?_; repeat (first | exact gel_refl _ _ _ | refine gel_gs_gs ?_ | refine gel_to_gs gs_self ?_ | (refine gel_to_gs ?_ ?_; focus (rintro _ ⟨⟩; simp only [getT_setO,St.getT_setL,gA4,St.getT_delT,gs_getT,reduceIte,List.length_append,List.length_cons,List.length_nil,List.length_map,Nat.zero_add,Nat.add_zero] <;> done)) | (refine gel_inT ?_ ?_; focus (simp only [Option.toList,List.cons_append,List.nil_append,List.mem_cons,true_or,or_true] <;> done)) | (refine gel_gs_in ?_ ?_; focus (simp; done)) | refine gel_set (by simp only [gA1,gA2,gA3,gA6,ne_eq,gA9,reduceIte,hb3] <;> (first | done | rfl | assumption)) ?_ | (refine gel_in ?_ ?_; focus (simp only [List.mem_cons,true_or,or_true]; done)) | refine gel_new (by first | simp only [hb3] | assumption) ?_)))
 | false =>
  rw [if_neg (by simp at c; omega)] at hk;simp only [go_sem,hb3,c];refine long83_den x hx ?_;cases hl : lexS signsW true x with
  | bad f =>
   rw [hl] at hk;simp only at hk ⊢;simp only [go_sem,hb3];simp only [go_sem] at hk;exact DK.st hk (by (refine gel_ge ?_; repeat (first | exact gel_refl _ _ _ | refine gel_gs_gs ?_ | refine gel_to_gs gs_self ?_ | (refine gel_to_gs ?_ ?_; focus (rintro _ ⟨⟩; simp only [getT_setO,St.getT_setL,gA4,St.getT_delT,gs_getT,reduceIte,List.length_append,List.length_cons,List.length_nil,List.length_map,Nat.zero_add,Nat.add_zero] <;> done)) | (refine gel_inT ?_ ?_; focus (simp only [Option.toList,List.cons_append,List.nil_append,List.mem_cons,true_or,or_true] <;> done)) | (refine gel_gs_in ?_ ?_; focus (simp; done)) | refine gel_set (by simp only [gA1,gA2,gA3,gA6,ne_eq,gA9,reduceIte,hb3] <;> (first | done | rfl | assumption)) ?_ | (refine gel_in ?_ ?_; focus (simp only [List.mem_cons,true_or,or_true]; done)) | refine gel_new (by first | simp only [hb3] | assumption) ?_)))
  | ok l =>
   rw [hl] at hk;simp only at hk ⊢;intro r hr;have hk2 := hk r (by have := hr; rw [gA1] at this; split at this; cases this; exact this);have e3 : b3 ≠ r := fun e => by subst e; rw [gA1,if_pos rfl] at hr; cases hr
   simp only [Fault.enc,Fault.cs,Fault.none] at hk2 ⊢;simp only [go_sem,hb3,e3,e3.symm];exact DK.st hk2 (by (refine gel_ge ?_; repeat (first | exact gel_refl _ _ _ | refine gel_gs_gs ?_ | refine gel_to_gs gs_self ?_ | (refine gel_to_gs ?_ ?_; focus (rintro _ ⟨⟩; simp only [getT_setO,St.getT_setL,gA4,St.getT_delT,gs_getT,reduceIte,List.length_append,List.length_cons,List.length_nil,List.length_map,Nat.zero_add,Nat.add_zero] <;> done)) | (refine gel_inT ?_ ?_; focus (simp only [Option.toList,List.cons_append,List.nil_append,List.mem_cons,true_or,or_true] <;> done)) | (refine gel_gs_in ?_ ?_; focus (simp; done)) | refine gel_set (by simp only [gA1,gA2,gA3,gA6,ne_eq,gA9,reduceIte,hb3,e3,e3.symm] <;> (first | done | rfl | assumption)) ?_ | (refine gel_in ?_ ?_; focus (simp only [List.mem_cons,true_or,or_true]; done)) | refine gel_new (by first | simp only [hb3] | assumption) ?_)))
theorem parse_den (x : Str) (hx : x.length ≤ 4294967280) (hk : KV s (.tuple [(parseS x).1.enc,(parseS x).2.enc])) : Den cx 15 [.str x] KV Kp s := by
 have zd : A.le (.agg [.str [],.nils,.nils,.nils,.nils,.nils,.nils,.nils,.str [],.nils,.nils,.str [],.str []]) noDfn.enc := dcN_le noDfn noOwn (s := s) noDfn_own;refine Den.drop ?_; (refine Den.of_body (C := cx) Tryz.func15 rfl rfl (Nat.le_of_ble_eq_true rfl) ?_; refine wpC_ok (V := [0,2,3,4,5,13]) _ _ _ _ ?_; simp only [go_sem,Tryz.ntmps15,Tryz.f15]);(intro b2 hb2; try simp only [gA5,gA6,getO_setO_none,ne_eq] at hb2);simp only [go_sem,hb2];(intro b3 hb3; try simp only [gA5,gA6,getO_setO_none,ne_eq] at hb3);simp only [go_sem,hb2,hb3];refine begin_den x hx ?_;unfold parseS at hk;split
 ·rename_i c;rw [if_pos c] at hk;simp only [go_sem,hb2,hb3];(intro b5 hb5; try simp only [gA5,gA6,getO_setO_none,ne_eq] at hb5);simp only [go_sem,hb2,hb3,hb5];(refine draw_ok (V := [0,2,3,4,5,13]) (OT.l [0,1,2,3] .nil) [(2,[1])] mixed_cx (by decide +kernel) ?_; simp only [go_sem,hb2,hb3,hb5]);exact DK.mk hk (by (refine gel_ge ?_; repeat (first | exact gel_refl _ _ _ | refine gel_gs_gs ?_ | refine gel_to_gs gs_self ?_ | (refine gel_to_gs ?_ ?_; focus (rintro _ ⟨⟩; simp only [getT_setO,St.getT_setL,gA4,St.getT_delT,gs_getT,reduceIte,List.length_append,List.length_cons,List.length_nil,List.length_map,Nat.zero_add,Nat.add_zero] <;> done)) | (refine gel_inT ?_ ?_; focus (simp only [Option.toList,List.cons_append,List.nil_append,List.mem_cons,true_or,or_true] <;> done)) | (refine gel_gs_in ?_ ?_; focus (simp; done)) | refine gel_set (by simp only [gA1,gA2,gA3,gA6,ne_eq,gA9,reduceIte,hb2,hb3,hb5] <;> (first | done | rfl | assumption)) ?_ | (refine gel_in ?_ ?_; focus (simp only [List.mem_cons,true_or,or_true]; done)) | refine gel_new (by first | simp only [hb2,hb3,hb5] | assumption) ?_))) (A.le.tuple ⟨zd,A.le.refl _,trivial⟩)
 ·rename_i c;rw [if_neg c] at hk;unfold parseL at hk;cases hl : lexS signsW true x with
  | bad f =>
   rw [hl] at hk;have hc0 : decide (f.code = 0) = false := by rw [lexS_bad hl]; rfl
   simp only at hk ⊢;simp only [go_sem,hb2,hb3];(intro b5 hb5; try simp only [gA5,gA6,getO_setO_none,ne_eq] at hb5);simp only [go_sem,hb2,hb3,hb5,hc0];(refine draw_ok (V := [0,2,3,4,5,13]) (OT.l [0,1,2,3] .nil) [(2,[1])] mixed_cx (by decide +kernel) ?_; simp only [go_sem,hb2,hb3,hb5]);simp only [go_sem] at hk;exact DK.mk hk (by (refine gel_ge ?_; repeat (first | exact gel_refl _ _ _ | refine gel_gs_gs ?_ | refine gel_to_gs gs_self ?_ | (refine gel_to_gs ?_ ?_; focus (rintro _ ⟨⟩; simp only [getT_setO,St.getT_setL,gA4,St.getT_delT,gs_getT,reduceIte,List.length_append,List.length_cons,List.length_nil,List.length_map,Nat.zero_add,Nat.add_zero] <;> done)) | (refine gel_inT ?_ ?_; focus (simp only [Option.toList,List.cons_append,List.nil_append,List.mem_cons,true_or,or_true] <;> done)) | (refine gel_gs_in ?_ ?_; focus (simp; done)) | refine gel_set (by simp only [gA1,gA2,gA3,gA6,ne_eq,gA9,reduceIte,hb2,hb3,hb5] <;> (first | done | rfl | assumption)) ?_ | (refine gel_in ?_ ?_; focus (simp only [List.mem_cons,true_or,or_true]; done)) | refine gel_new (by first | simp only [hb2,hb3,hb5] | assumption) ?_))) (A.le.tuple ⟨zd,A.le.refl _,trivial⟩)
  | ok T =>
   rw [hl] at hk;simp only at hk ⊢;intro r hr;simp only [getO_setO_none,ne_eq] at hr;simp only [go_sem,hb2,hb3,hr,Fault.none];(intro b5 hb5; try simp only [gA5,gA6,getO_setO_none,ne_eq] at hb5);simp only [go_sem,hb2,hb3,hr,hb5];refine def_den (T := T) (fin := finS x) (TOk_of hx hl) (by simp only [gA1,gA2,gA3,gA6,ne_eq,gA9,reduceIte,hb2,hb3,hr,hb5] <;> (first | done | rfl | assumption)) ?_;unfold DfnK;cases hd : defR false (finS x) T with
   | bad f =>
    rw [hd] at hk;simp only at hk ⊢;intro o;simp only [go_sem,hb2,hb3,hr,hb5];simp only [go_sem] at hk;exact DK.st hk (by (refine gel_ge ?_; repeat (first | exact gel_refl _ _ _ | refine gel_gs_gs ?_ | refine gel_to_gs gs_self ?_ | (refine gel_to_gs ?_ ?_; focus (rintro _ ⟨⟩; simp only [getT_setO,St.getT_setL,gA4,St.getT_delT,gs_getT,reduceIte,List.length_append,List.length_cons,List.length_nil,List.length_map,Nat.zero_add,Nat.add_zero] <;> done)) | (refine gel_inT ?_ ?_; focus (simp only [Option.toList,List.cons_append,List.nil_append,List.mem_cons,true_or,or_true] <;> done)) | (refine gel_gs_in ?_ ?_; focus (simp; done)) | refine gel_set (by simp only [gA1,gA2,gA3,gA6,ne_eq,gA9,reduceIte,hb2,hb3,hr,hb5] <;> (first | done | rfl | assumption)) ?_ | (refine gel_in ?_ ?_; focus (simp only [List.mem_cons,true_or,or_true]; done)) | refine gel_new (by first | simp only [hb2,hb3,hr,hb5] | assumption) ?_)))
   | ok d w n =>
    rw [hd] at hk;simp only at hk ⊢;intro o;simp only [go_sem,hb2,hb3,hr,hb5];simp only [go_sem] at hk;exact DK.st hk (by (refine gel_ge ?_; repeat (first | exact gel_refl _ _ _ | refine gel_gs_gs ?_ | refine gel_to_gs gs_self ?_ | (refine gel_to_gs ?_ ?_; focus (rintro _ ⟨⟩; simp only [getT_setO,St.getT_setL,gA4,St.getT_delT,gs_getT,reduceIte,List.length_append,List.length_cons,List.length_nil,List.length_map,Nat.zero_add,Nat.add_zero] <;> done)) | (refine gel_inT ?_ ?_; focus (simp only [Option.toList,List.cons_append,List.nil_append,List.mem_cons,true_or,or_true] <;> done)) | (refine gel_gs_in ?_ ?_; focus (simp; done)) | refine gel_set (by simp only [gA1,gA2,gA3,gA6,ne_eq,gA9,reduceIte,hb2,hb3,hr,hb5] <;> (first | done | rfl | assumption)) ?_ | (refine gel_in ?_ ?_; focus (simp only [List.mem_cons,true_or,or_true]; done)) | refine gel_new (by first | simp only [hb2,hb3,hr,hb5] | assumption) ?_)))
theorem tterm_den (x : Str) (hx : x.length ≤ 4294967280) (hk : KV s (.tuple [(termS x).1.enc,(termS x).2.enc])) : Den cx 18 [.str x] KV Kp s := by
 have zt : A.le (.agg [.int .i64 0,.int .i64 0,.str [],.str [],.nils,.nils]) noTm.enc := Tm.le_leaf 0 0 [] [];refine Den.drop ?_;refine Den.of_defer catchC_ok ent40C Tryz.func18 rfl rfl (Nat.le_of_ble_eq_true rfl) ?_;refine ExD.seq ?_;refine wpC_ok (V := [0,2,3,4,5,13,27]) _ _ _ _ ?_;simp only [go_sem,Tryz.ntmps18,Tryz.f18];(intro b2 hb2; try simp only [gA5,gA6,getO_setO_none,ne_eq] at hb2);simp only [go_sem,Tryz.ntmps18,Tryz.f18,hb2];(intro b3 hb3; try simp only [gA5,gA6,getO_setO_none,ne_eq] at hb3);simp only [go_sem,Tryz.ntmps18,Tryz.f18,hb2,hb3];refine ExD.seq ?_;refine wpC_ok (V := [0,2,3,4,5,13,27]) _ _ _ _ ?_;simp only [go_sem,Tryz.ntmps18,Tryz.f18,hb2,hb3];refine begin_den x hx ?_;unfold termS at hk;split
 ·rename_i c;rw [if_pos c] at hk;simp only [go_sem,Tryz.ntmps18,Tryz.f18,hb2,hb3];refine ExD.seq ?_;refine wpC_ok (V := [0,2,3,4,5,13,27]) _ _ _ _ ?_;simp only [go_sem,Tryz.ntmps18,Tryz.f18,hb2,hb3];(refine draw_ok (V := [0,2,3,4,5,13,27]) (OT.l [0,1,2,3] .nil) [(2,[1])] mixed_cx (by decide +kernel) ?_; simp only [go_sem,Tryz.ntmps18,Tryz.f18,hb2,hb3]);exact DK.mk hk (by (refine gel_ge ?_; repeat (first | exact gel_refl _ _ _ | refine gel_gs_gs ?_ | refine gel_to_gs gs_self ?_ | (refine gel_to_gs ?_ ?_; focus (rintro _ ⟨⟩; simp only [getT_setO,St.getT_setL,gA4,St.getT_delT,gs_getT,reduceIte,List.length_append,List.length_cons,List.length_nil,List.length_map,Nat.zero_add,Nat.add_zero] <;> done)) | (refine gel_inT ?_ ?_; focus (simp only [Option.toList,List.cons_append,List.nil_append,List.mem_cons,true_or,or_true] <;> done)) | (refine gel_gs_in ?_ ?_; focus (simp; done)) | refine gel_set (by simp only [gA1,gA2,gA3,gA6,ne_eq,gA9,reduceIte,Tryz.ntmps18,Tryz.f18,hb2,hb3] <;> (first | done | rfl | assumption)) ?_ | (refine gel_in ?_ ?_; focus (simp only [List.mem_cons,true_or,or_true]; done)) | refine gel_new (by first | simp only [hb2,hb3] | assumption) ?_))) (A.le.tuple ⟨zt,A.le.refl _,trivial⟩)
 ·rename_i c;rw [if_neg c] at hk;cases hl : lexS signsW true x with
  | bad f =>
   rw [hl] at hk;have hc0 : decide (f.code = 0) = false := by rw [lexS_bad hl]; rfl
   simp only at hk ⊢;simp only [go_sem,Tryz.ntmps18,Tryz.f18,hb2,hb3];refine ExD.seq ?_;refine wpC_ok (V := [0,2,3,4,5,13,27]) _ _ _ _ ?_;simp only [go_sem,Tryz.ntmps18,Tryz.f18,hb2,hb3,hc0];(refine draw_ok (V := [0,2,3,4,5,13,27]) (OT.l [0,1,2,3] .nil) [(2,[1])] mixed_cx (by decide +kernel) ?_; simp only [go_sem,Tryz.ntmps18,Tryz.f18,hb2,hb3]);simp only [go_sem] at hk;exact DK.mk hk (by (refine gel_ge ?_; repeat (first | exact gel_refl _ _ _ | refine gel_gs_gs ?_ | refine gel_to_gs gs_self ?_ | (refine gel_to_gs ?_ ?_; focus (rintro _ ⟨⟩; simp only [getT_setO,St.getT_setL,gA4,St.getT_delT,gs_getT,reduceIte,List.length_append,List.length_cons,List.length_nil,List.length_map,Nat.zero_add,Nat.add_zero] <;> done)) | (refine gel_inT ?_ ?_; focus (simp only [Option.toList,List.cons_append,List.nil_append,List.mem_cons,true_or,or_true] <;> done)) | (refine gel_gs_in ?_ ?_; focus (simp; done)) | refine gel_set (by simp only [gA1,gA2,gA3,gA6,ne_eq,gA9,reduceIte,Tryz.ntmps18,Tryz.f18,hb2,hb3] <;> (first | done | rfl | assumption)) ?_ | (refine gel_in ?_ ?_; focus (simp only [List.mem_cons,true_or,or_true]; done)) | refine gel_new (by first | simp only [hb2,hb3] | assumption) ?_))) (A.le.tuple ⟨zt,A.le.refl _,trivial⟩)
  | ok T =>
   rw [hl] at hk;have hT := TOk_of hx hl;have hlenT := hT.len;simp only at hk ⊢;intro r hr;simp only [getO_setO_none,ne_eq] at hr;simp only [go_sem,hb2,hb3,Tryz.ntmps18,Tryz.f18,hr,Fault.none];refine ExD.seq ?_;refine wpC_ok (V := [0,2,3,4,5,13,27]) _ _ _ _ ?_;simp only [go_sem,hb2,hb3,Tryz.ntmps18,Tryz.f18,hr];refine ExD.defer (by rfl) (b := b3) (by simp only [go_sem,hb2,hb3,Tryz.ntmps18,Tryz.f18,hr]) ?_;refine wpC_ok (V := [0,2,3,4,5,13,27]) _ _ _ _ ?_;simp only [go_sem,hb2,hb3,Tryz.ntmps18,Tryz.f18,hr];have n23 : b2 ≠ b3 := by first | exact hb3.1.1 | exact hb3.1
   have hrb2 : r ≠ b2 := fun e => hr.2.1.2 e
   have hrb3 : r ≠ b3 := fun e => hr.1.2 e
   have hs : s.getO r = none := hr.2.2
   have bad : ∀ (f : Fault) (s1 : St) (e : Env),e.get 2 = some (.ptr b2 0) → e.get 3 = some (.ptr b3 0) → KV s (.tuple [noTm.enc,f.enc]) →
     s1.getO b2 = some (.cells 43 [.int .i64 0,.int .i64 0,.str [],.str [],.nils,.nils]) → s1.getO b3 = some (.cells 36 [.int .i64 0,.str [],.int .i64 0,.int .i64 0]) → s1.ge s →
     retD cx [ResultVar.cell 2 43,ResultVar.cell 3 36] (DK KV) (DK Kp) (some b3) (.panic (.iface 36 f.enc)) e s1 := by
    intro f s1 e g2 g3 hb q2 q3 hg;simp only [go_sem,q2,q3,n23,n23.symm,g2,g3];refine ⟨f.cs,_,rfl,rfl,rfl,rfl,?_⟩;simp only [go_sem,q2,q3,n23,n23.symm,g2,g3];simp only [go_sem] at hb;exact DK.mk hb (gel_ge (gel_new (by first | exact hb3.2 | exact hb3.2.2) (gel_of_ge hg _ _))) (A.le.tuple ⟨zt,A.le.refl _,trivial⟩)
   have hk2 : (wholeR false (finS x) T 0).to (fun t w _ => match w with | [] => KV s (.tuple [t.enc,Fault.none.enc]) | t :: w => KV s (.tuple [noTm.enc,(failAt (finS x) 11 (t :: w)).enc])) (fun f => KV s (.tuple [noTm.enc,f.enc])) := by
    revert hk;cases wholeR false (finS x) T 0 with
    | bad f => exact id
    | ok t w n => cases w <;> exact id
   refine whole_den (d := dcN noDfn noOwn) (T := T) (fin := finS x) (first := noTok) (i := 0) (n := 0) hT (by simp only [gA1,gA2,gA3,gA6,ne_eq,gA9,reduceIte,hb2,hb3,Tryz.ntmps18,Tryz.f18,hr] <;> (first | done | rfl | assumption)) (Nat.zero_le _) (Nat.zero_le _) (Rd.to_mono (show (wholeR false (finS x) (T.drop 0) 0).to _ _ from hk2) (fun t w m hk3 j hj hjT hw hm => ?_) (fun f h o => ?_));rotate_left
   ·refine bad f _ _ rfl rfl h ?_ ?_ ?_
    ·exact (by simp only [gA1,gA2,gA3,gA6,ne_eq,gA9,reduceIte,hb2,hb3,Tryz.ntmps18,Tryz.f18,hr,hrb2,hrb3,hrb2.symm,hrb3.symm,n23,n23.symm] <;> (first | done | rfl | assumption))
    ·exact (by simp only [gA1,gA2,gA3,gA6,ne_eq,gA9,reduceIte,hb2,hb3,Tryz.ntmps18,Tryz.f18,hr,hrb2,hrb3,hrb2.symm,hrb3.symm,n23,n23.symm] <;> (first | done | rfl | assumption))
    ·exact (by (refine gel_ge ?_; repeat (first | exact gel_refl _ _ _ | refine gel_gs_gs ?_ | refine gel_to_gs gs_self ?_ | (refine gel_to_gs ?_ ?_; focus (rintro _ ⟨⟩; simp only [getT_setO,St.getT_setL,gA4,St.getT_delT,gs_getT,reduceIte,List.length_append,List.length_cons,List.length_nil,List.length_map,Nat.zero_add,Nat.add_zero] <;> done)) | (refine gel_inT ?_ ?_; focus (simp only [Option.toList,List.cons_append,List.nil_append,List.mem_cons,true_or,or_true] <;> done)) | (refine gel_gs_in ?_ ?_; focus (simp; done)) | refine gel_set (by simp only [gA1,gA2,gA3,gA6,ne_eq,gA9,reduceIte,hb2,hb3,Tryz.ntmps18,Tryz.f18,hr] <;> (first | done | rfl | assumption)) ?_ | (refine gel_in ?_ ?_; focus (simp only [List.mem_cons,true_or,or_true]; done)) | refine gel_new (by first | simp only [hb2,hb3,hr] | assumption) ?_)))
   simp only [go_sem,hb2,hb3,Tryz.ntmps18,Tryz.f18,hr,Tm.enc_eq];(intro b5 hb5; try simp only [gA5,gA6,getO_setO_none,ne_eq] at hb5);simp only [go_sem,hb2,hb3,Tryz.ntmps18,Tryz.f18,hr,hb5];(refine draw_ok (V := [0,2,3,4,5,13,27]) (OT.l [0,1,2,3,4,5,6,7,8,9] .nil) [] mixed_cx (by decide +kernel) ?_; simp only [go_sem,hb2,hb3,Tryz.ntmps18,Tryz.f18,hr,hb5]);cases hc : decide (j < T.length) with
   | true =>
    have hlt : j < T.length := by simpa using hc
    cases w with
    | nil => exfalso; have := congrArg List.length hw; rw [List.length_drop,List.length_nil] at this; omega
    | cons t2 w2 =>
     simp only [go_sem,hb2,hb3,Tryz.ntmps18,Tryz.f18,hr,hb5];refine fail_den (d := dcN noDfn noOwn) (T := T) (fin := finS x) (first := noTok) (i := j) (n := m) 11 (by simp only [gA1,gA2,gA3,gA6,ne_eq,gA9,reduceIte,hb2,hb3,Tryz.ntmps18,Tryz.f18,hr,hb5] <;> (first | done | rfl | assumption)) hjT hT ?_;rw [hw];refine bad _ _ _ rfl rfl hk3 ?_ ?_ ?_
     ·exact (by simp only [gA1,gA2,gA3,gA6,ne_eq,gA9,reduceIte,hb2,hb3,Tryz.ntmps18,Tryz.f18,hr,hb5,hrb2,hrb3,hrb2.symm,hrb3.symm,n23,n23.symm] <;> (first | done | rfl | assumption))
     ·exact (by simp only [gA1,gA2,gA3,gA6,ne_eq,gA9,reduceIte,hb2,hb3,Tryz.ntmps18,Tryz.f18,hr,hb5,hrb2,hrb3,hrb2.symm,hrb3.symm,n23,n23.symm] <;> (first | done | rfl | assumption))
     ·exact (by (refine gel_ge ?_; repeat (first | exact gel_refl _ _ _ | refine gel_gs_gs ?_ | refine gel_to_gs gs_self ?_ | (refine gel_to_gs ?_ ?_; focus (rintro _ ⟨⟩; simp only [getT_setO,St.getT_setL,gA4,St.getT_delT,gs_getT,reduceIte,List.length_append,List.length_cons,List.length_nil,List.length_map,Nat.zero_add,Nat.add_zero] <;> done)) | (refine gel_inT ?_ ?_; focus (simp only [Option.toList,List.cons_append,List.nil_append,List.mem_cons,true_or,or_true] <;> done)) | (refine gel_gs_in ?_ ?_; focus (simp; done)) | refine gel_set (by simp only [gA1,gA2,gA3,gA6,ne_eq,gA9,reduceIte,hb2,hb3,Tryz.ntmps18,Tryz.f18,hr,hb5] <;> (first | done | rfl | assumption)) ?_ | (refine gel_in ?_ ?_; focus (simp only [List.mem_cons,true_or,or_true]; done)) | refine gel_new (by first | simp only [hb2,hb3,hr,hb5] | assumption) ?_)))
   | false =>
    have hge : ¬ j < T.length := by simpa using hc
    cases w with
    | cons t2 w2 => exfalso; have := congrArg List.length hw; rw [List.length_drop,List.length_cons] at this; omega
    | nil =>
     simp only [Tm.enc_eq] at hk3;simp only [go_sem,hb2,hb3,Tryz.ntmps18,Tryz.f18,hr,hb5];(refine draw_ok (V := [0,2,3,4,5,13,27]) (OT.l [0,1,2,3] .nil) [(2,[1])] mixed_cx (by decide +kernel) ?_; simp only [go_sem,hb2,hb3,Tryz.ntmps18,Tryz.f18,hr,hb5]);simp only [go_sem] at hk3;exact DK.st hk3 (by (refine gel_ge ?_; repeat (first | exact gel_refl _ _ _ | refine gel_gs_gs ?_ | refine gel_to_gs gs_self ?_ | (refine gel_to_gs ?_ ?_; focus (rintro _ ⟨⟩; simp only [getT_setO,St.getT_setL,gA4,St.getT_delT,gs_getT,reduceIte,List.length_append,List.length_cons,List.length_nil,List.length_map,Nat.zero_add,Nat.add_zero] <;> done)) | (refine gel_inT ?_ ?_; focus (simp only [Option.toList,List.cons_append,List.nil_append,List.mem_cons,true_or,or_true] <;> done)) | (refine gel_gs_in ?_ ?_; focus (simp; done)) | refine gel_set (by simp only [gA1,gA2,gA3,gA6,ne_eq,gA9,reduceIte,hb2,hb3,Tryz.ntmps18,Tryz.f18,hr,hb5] <;> (first | done | rfl | assumption)) ?_ | (refine gel_in ?_ ?_; focus (simp only [List.mem_cons,true_or,or_true]; done)) | refine gel_new (by first | simp only [hb2,hb3,hr,hb5] | assumption) ?_)))
end
end Go.AV
end
section
namespace Go.AV
open Go
theorem tw_app (p : UInt8 → Bool) (hp : p 10 = false) (y : Str) : ∀ (w : Str),(w ++ 10 :: y).takeWhile p = w.takeWhile p
 | [] => by rw [List.nil_append,List.takeWhile_cons_of_neg (by rw [hp]; decide)]; rfl
 | d :: w => by
  rw [List.cons_append];by_cases hd : p d = true
  ·rw [List.takeWhile_cons_of_pos hd,List.takeWhile_cons_of_pos hd,tw_app p hp y w]
  ·rw [List.takeWhile_cons_of_neg hd,List.takeWhile_cons_of_neg hd]
theorem tw_take (p : UInt8 → Bool) (w y : Str) : (w ++ y).take (w.takeWhile p).length = w.take (w.takeWhile p).length := List.take_append_of_le_length (tw_le p w)
theorem hasPre_app (w y x : Str) (hx : ∀ c,c ∈ x → c ≠ 10) : hasPre (w ++ 10 :: y) x = hasPre w x := by
 unfold hasPre;by_cases h : x.length ≤ w.length
 ·rw [List.take_append_of_le_length h,show decide (x.length ≤ w.length) = true from decide_eq_true h,show decide (x.length ≤ (w ++ 10 :: y).length) = true from decide_eq_true (by rw [List.length_append]; omega)]
 ·rw [show decide (x.length ≤ w.length) = false from decide_eq_false h,Bool.false_and];by_cases h2 : (w ++ 10 :: y).take x.length = x
  ·exfalso
   have : (10 : UInt8) ∈ x := by
    rw [← h2];have e : x.length = w.length + (x.length - w.length) := by omega
    rw [e,List.take_append,show w.length + (x.length - w.length) - w.length = (x.length - w.length - 1) + 1 by omega,List.take_succ_cons];simp
   exact hx 10 this rfl
  ·rw [show decide ((w ++ 10 :: y).take x.length = x) = false from decide_eq_false h2,Bool.and_false]
theorem signTo_z (w y : Str) : ∀ (sg : List Str) (n : Nat),(∀ x,x ∈ sg → ∀ c,c ∈ x → c ≠ 10) → signTo (w ++ 10 :: y) sg n = signTo w sg n
 | [],n,_ => rfl
 | x :: r,n,h => by
  simp only [signTo];rw [hasPre_app w y x (h x (by simp)),signTo_z w y r _ (fun a ha => h a (by simp [ha]))]
theorem signs_no10 : ∀ x,x ∈ signsW → ∀ c,c ∈ x → c ≠ 10 := by decide
theorem idx_app (c : UInt8) (y : Str) : ∀ (w : Str),0 ≤ Lib.indexByte w c → Lib.indexByte (w ++ y) c = Lib.indexByte w c
 | [],h => by revert h; simp [Lib.indexByte]
 | d :: w,h => by
  by_cases hd : d = c
  ·subst hd; rw [List.cons_append,idx_hd,idx_hd]
  ·rw [List.cons_append,idx_tl _ hd,idx_tl _ hd];rw [idx_tl _ hd] at h
   have hw : 0 ≤ Lib.indexByte w c := by
    have := Lib.indexByte_ge w c;split at h <;> omega
   rw [idx_app c y w hw]
theorem idx_far (c : UInt8) (y : Str) (hc : c ≠ 10) : ∀ (w : Str),Lib.indexByte w c < 0 → Lib.indexByte (w ++ 10 :: y) c < 0 ∨ (w.length : Int) < Lib.indexByte (w ++ 10 :: y) c
 | [],h => by
  rw [List.nil_append,idx_tl y (fun e => hc e.symm)];have := Lib.indexByte_ge y c;split
  ·left; omega
  ·right; simp; omega
 | d :: w,h => by
  have hd : ¬ d = c := by rintro rfl; rw [idx_hd] at h; omega
  rw [idx_tl _ hd] at h;have hg := Lib.indexByte_ge w c;have hw : Lib.indexByte w c < 0 := by split at h <;> omega
  rw [List.cons_append,idx_tl _ hd];rcases idx_far c y hc w hw with ih | ih
  ·left;have := Lib.indexByte_ge (w ++ 10 :: y) c;rw [if_pos (by omega)]; omega
  ·right;rw [if_neg (by omega),List.length_cons]; omega
theorem numTok_app (w y : Str) : numTok (w ++ 10 :: y) = numTok w := by
 have e := tw_app (fun c => isDig c.toNat) (by decide) y w;have hl := tw_le (fun c => isDig c.toNat) w;unfold numTok;simp only;rw [e,tw_take]
 have hx : (∃ c,(w ++ 10 :: y)[(w.takeWhile fun c => isDig c.toNat).length]? = some c ∧ isPart c.toNat = true) ↔ ∃ c,w[(w.takeWhile fun c => isDig c.toNat).length]? = some c ∧ isPart c.toNat = true := by
  by_cases h : (w.takeWhile fun c => isDig c.toNat).length < w.length
  ·rw [List.getElem?_append_left h]
  ·have e2 : (w.takeWhile fun c => isDig c.toNat).length = w.length := by omega
   rw [e2,List.getElem?_append_right (Nat.le_refl _),Nat.sub_self,List.getElem?_cons_zero,List.getElem?_eq_none (Nat.le_refl _)];constructor
   ·rintro ⟨c,h1,h2⟩; cases h1; revert h2; decide
   ·rintro ⟨c,h1,_⟩; cases h1
 simp only [hx]
theorem tok_app (c : UInt8) (r y : Str) : ((tokOf (c :: r) signsW true).2.2 = true → tokOf (c :: (r ++ 10 :: y)) signsW true = tokOf (c :: r) signsW true) ∧ ((tokOf (c :: r) signsW true).2.2 = false → (tokOf (c :: (r ++ 10 :: y)) signsW true).2.2 = false) := by
 have hn : numTok (c :: (r ++ 10 :: y)) = numTok (c :: r) := numTok_app (c :: r) y;have hs : signTo (c :: (r ++ 10 :: y)) signsW 0 = signTo (c :: r) signsW 0 := signTo_z (c :: r) y signsW 0 signs_no10;have hp : (c :: (r ++ 10 :: y)).takeWhile (fun c => isPart c.toNat) = (c :: r).takeWhile (fun c => isPart c.toNat) := tw_app _ (by decide) y (c :: r);have ht : ∀ n,n ≤ (c :: r).length → (c :: (r ++ 10 :: y)).take n = (c :: r).take n := fun n h => List.take_append_of_le_length (l₁ := c :: r) h
 simp only [tokOf];by_cases h1 : isName [c] = true
 ·simp only [h1,if_true,hp];rw [ht _ (tw_le _ _)];exact ⟨fun _ => rfl,fun h => h⟩
 simp only [h1,Bool.false_eq_true,if_false];by_cases h2 : isDig (c.toNat : Int) = true
 ·simp only [h2,if_true,hn];exact ⟨fun _ => trivial,fun h => h⟩
 simp only [h2,Bool.false_eq_true,if_false];by_cases h3 : c = 34
 ·simp only [h3,if_true];have hg := Lib.indexByte_ge r 34;by_cases h4 : 0 ≤ Lib.indexByte r 34
  ·rw [idx_app 34 (10 :: y) r h4];have hlt := idx_lt r 34;rw [show (Lib.indexByte r 34 + 2).toNat - 2 = (Lib.indexByte r 34).toNat by omega,List.take_append_of_le_length (by omega)];exact ⟨fun _ => rfl,fun h => h⟩
  ·refine ⟨fun h => ?_,fun _ => ?_⟩
   ·rw [show (Lib.indexByte r 34 + 2).toNat = 1 by omega] at h; cases h
   ·rcases idx_far 34 y (by decide) r (by omega) with h5 | h5
    ·have := Lib.indexByte_ge (r ++ 10 :: y) 34;rw [show (Lib.indexByte (r ++ 10 :: y) 34 + 2).toNat = 1 by omega]; rfl
    ·have hb : isStr ((r ++ 10 :: y).take ((Lib.indexByte (r ++ 10 :: y) 34 + 2).toNat - 2)) = false := by
      unfold isStr
      have : ((r ++ 10 :: y).take ((Lib.indexByte (r ++ 10 :: y) 34 + 2).toNat - 2)).all okB = false := by
       rw [List.all_eq_false];refine ⟨10,?_,by decide⟩;rw [List.take_append,show (Lib.indexByte (r ++ 10 :: y) 34 + 2).toNat - 2 - r.length = ((Lib.indexByte (r ++ 10 :: y) 34).toNat - r.length - 1) + 1 by omega,List.take_succ_cons];simp
      rw [this,Bool.false_and]
     rw [hb,Bool.and_false]
 simp only [h3,if_false];rw [hs];have hle := signTo_le (c :: r) signsW 0 (Nat.zero_le _)
 have hm : (if signTo (c :: r) signsW 0 = 0 ∧ True ∧ (c = 39 ∨ c = 95) then 1 else signTo (c :: r) signsW 0) ≤ (c :: r).length := by
  split
  ·simp
  ·exact hle
 rw [ht _ hm];exact ⟨fun _ => rfl,fun h => h⟩
theorem note_app (b : UInt8) (r y : Str) : hasPre (b :: (r ++ 10 :: y)) [47,47] = hasPre (b :: r) [47,47] := hasPre_app (b :: r) y [47,47] (by decide)
theorem blks_z (y : Str) : ∀ (m : Nat) (w : Str),w.length ≤ m → (blks w < w.length → blks (w ++ 10 :: y) = blks w) ∧ (blks w = w.length → blks (w ++ 10 :: y) = w.length + blks (10 :: y))
 | 0,w,h => by
  have : w = [] := List.eq_nil_of_length_eq_zero (by omega);subst this;exact ⟨fun h => by simp at h,fun _ => by simp⟩
 | m + 1,[],h => ⟨fun h => by simp at h,fun _ => by simp⟩
 | m + 1,b :: r,h => by
  simp only [List.length_cons] at h ⊢;by_cases hb : isBlank b = true
  ·rw [List.cons_append,blks_blank hb,blks_blank hb];obtain ⟨h1,h2⟩ := blks_z y m r (by omega);refine ⟨fun h => by rw [h1 (by omega)],fun h => by rw [h2 (by omega)]; omega⟩
  have hb' : isBlank b = false := by simpa using hb
  by_cases hp : hasPre (b :: r) [47,47] = true
  ·have hp2 : hasPre (b :: (r ++ 10 :: y)) [47,47] = true := by rw [note_app]; exact hp
   have ht1 := takeWhile_pre hp;have ha : (b :: (r ++ 10 :: y)).takeWhile (fun c => !decide (c = 10)) = (b :: r).takeWhile (fun c => !decide (c = 10)) := tw_app _ (by decide) y (b :: r);have hl := tw_le (fun c => !decide (c = 10)) (b :: r);rw [List.cons_append,blks_note hb' hp,blks_note hb' hp2,ha];generalize ((b :: r).takeWhile (fun c => !decide (c = 10))).length = t at ht1 hl ⊢;have hd : (b :: (r ++ 10 :: y)).drop t = (b :: r).drop t ++ 10 :: y := List.drop_append_of_le_length (l₁ := b :: r) hl;rw [hd];simp only [List.length_cons] at hl;obtain ⟨h1,h2⟩ := blks_z y m ((b :: r).drop t) (by rw [List.length_drop,List.length_cons]; omega);rw [List.length_drop,List.length_cons] at h1 h2;refine ⟨fun h => by rw [h1 (by omega)],fun h => by rw [h2 (by omega)]; omega⟩
  ·have hp' : hasPre (b :: r) [47,47] = false := by simpa using hp
   have hp2 : hasPre (b :: (r ++ 10 :: y)) [47,47] = false := by rw [note_app]; exact hp'
   rw [List.cons_append,blks_none hb' hp',blks_none hb' hp2];exact ⟨fun _ => rfl,fun h => by omega⟩
def lexB (f : Nat) (w : Str) (p : Nat × Nat) (acc : List Tok) : Lx := lexA signsW true f (w.drop (blks w)) (adv p (w.take (blks w))) acc
theorem lexB_z (y : Str) : ∀ (f : Nat) (w : Str) (p : Nat × Nat) (acc : List Tok) (g : Nat),w.length ≤ f → (w ++ 10 :: y).length ≤ g →
  match lexB f w p acc with
  | .bad e => lexB g (w ++ 10 :: y) p acc = .bad e
  | .ok T => ∃ p' g',y.length ≤ g' ∧ lexB g (w ++ 10 :: y) p acc = lexB g' (10 :: y) p' T := by
 intro f
 induction f using Nat.strongRecOn with
 | _ f ih =>
  intro w p acc g hf hg;have hbl : blks w ≤ w.length := blks_le _ _;obtain ⟨h1,h2⟩ := blks_z y w.length w (Nat.le_refl _);rw [List.length_append,List.length_cons] at hg;by_cases hb : blks w = w.length
  ·have e : lexB f w p acc = .ok acc := by
    unfold lexB;rw [hb,List.drop_length];cases f <;> rfl
   rw [e];refine ⟨adv p w,g,by omega,?_⟩;unfold lexB;rw [h2 hb,List.drop_append,List.drop_eq_nil_of_le (by omega),Nat.add_sub_cancel_left,List.nil_append,List.take_append,List.take_of_length_le (by omega),Nat.add_sub_cancel_left,adv_app]
  ·have hlt : blks w < w.length := by omega
   have e1 := h1 hlt;have hd : (w ++ 10 :: y).drop (blks w) = w.drop (blks w) ++ 10 :: y := List.drop_append_of_le_length hbl;have ht : (w ++ 10 :: y).take (blks w) = w.take (blks w) := List.take_append_of_le_length hbl
   have eg : lexB g (w ++ 10 :: y) p acc = lexA signsW true g (w.drop (blks w) ++ 10 :: y) (adv p (w.take (blks w))) acc := by
    unfold lexB; rw [e1,hd,ht]
   rw [eg];unfold lexB;obtain ⟨c,r,hcr⟩ : ∃ c r,w.drop (blks w) = c :: r := ⟨_,_,List.drop_eq_getElem_cons hlt⟩
   have hlen : (c :: r).length = w.length - blks w := by rw [← hcr,List.length_drop]
   rw [List.length_cons] at hlen;obtain ⟨f',rfl⟩ : ∃ f',f = f' + 1 := ⟨f - 1,by omega⟩
   obtain ⟨g',rfl⟩ : ∃ g',g = g' + 1 := ⟨g - 1,by omega⟩
   rw [hcr,List.cons_append];generalize adv p (w.take (blks w)) = q;obtain ⟨t1,t2⟩ := tok_app c r y;simp only [lexA];rcases htok : tokOf (c :: r) signsW true with ⟨t,n,ok⟩
   rw [htok] at t1 t2;cases ok with
   | false =>
    have := t2 rfl;rcases htok2 : tokOf (c :: (r ++ 10 :: y)) signsW true with ⟨t',n',ok'⟩
    rw [htok2] at this;cases this;rfl
   | true =>
    rw [t1 rfl];simp only;obtain ⟨hn1,hn2⟩ := tokOf_len htok;have hd2 : (c :: (r ++ 10 :: y)).drop n = (c :: r).drop n ++ 10 :: y := List.drop_append_of_le_length (l₁ := c :: r) hn2;have ht2 : (c :: (r ++ 10 :: y)).take n = (c :: r).take n := List.take_append_of_le_length (l₁ := c :: r) hn2;rw [hd2,ht2];rw [List.length_cons] at hn2;exact ih f' (by omega) ((c :: r).drop n) (adv q ((c :: r).take n)) _ g' (by rw [List.length_drop,List.length_cons]; omega) (by rw [List.length_append,List.length_drop,List.length_cons,List.length_cons]; omega)
theorem lexA_any : ∀ (f : Nat) (w : Str) (p : Nat × Nat) (acc l : List Tok),w.length ≤ f → lexA signsW true f w p acc = .ok l → ∀ (g : Nat) (p' : Nat × Nat) (acc' : List Tok),w.length ≤ g → ∃ l',lexA signsW true g w p' acc' = .ok (acc' ++ l')
 | f,[],p,acc,l,hf,h,g,p',acc',hg => ⟨[],by cases g <;> simp [lexA]⟩
 | 0,_ :: _,p,acc,l,hf,h,g,p',acc',hg => by simp at hf
 | f + 1,c :: r,p,acc,l,hf,h,g,p',acc',hg => by
  simp only [List.length_cons] at hf hg;obtain ⟨g',rfl⟩ : ∃ g',g = g' + 1 := ⟨g - 1,by omega⟩
  simp only [lexA] at h ⊢;rcases htok : tokOf (c :: r) signsW true with ⟨t,n,ok⟩
  rw [htok] at h;cases ok with
  | false => cases h
  | true =>
   simp only at h ⊢;obtain ⟨hn1,hn2⟩ := tokOf_len htok;have hb : blks ((c :: r).drop n) ≤ ((c :: r).drop n).length := blks_le _ _
   have hl : (((c :: r).drop n).drop (blks ((c :: r).drop n))).length ≤ r.length := by
    simp only [List.length_drop,List.length_cons] at *; omega
   obtain ⟨l',h'⟩ := lexA_any f _ _ _ l (by omega) h g' (adv (adv p' ((c :: r).take n)) (((c :: r).drop n).take (blks ((c :: r).drop n)))) (acc' ++ [⟨t.kind,t.text,t.n,p'.1,p'.2⟩]) (by omega);exact ⟨⟨t.kind,t.text,t.n,p'.1,p'.2⟩ :: l',by rw [h',List.append_assoc]; rfl⟩
theorem lexS_B (x : Str) : lexS signsW true x = lexB x.length x (1,1) [] := rfl
theorem lex_bad {x : Str} (y : Str) {e : Fault} (h : lexS signsW true x = .bad e) : lexS signsW true (x ++ 10 :: y) = .bad e := by
 have := lexB_z y x.length x (1,1) [] (x ++ 10 :: y).length (Nat.le_refl _) (Nat.le_refl _);rw [lexS_B] at h ⊢;rw [h] at this;exact this
theorem lex_more {x y : Str} {T T2 : List Tok} (h : lexS signsW true x = .ok T) (h2 : lexS signsW true y = .ok T2) : ∃ T3,lexS signsW true (x ++ 10 :: y) = .ok (T ++ T3) := by
 have := lexB_z y x.length x (1,1) [] (x ++ 10 :: y).length (Nat.le_refl _) (Nat.le_refl _);rw [lexS_B] at h ⊢;rw [h] at this;obtain ⟨p',g',hg,e⟩ := this;rw [e];unfold lexB;rw [blks_blank (show isBlank 10 = true from rfl)];have hb : blks y ≤ y.length := blks_le _ _;rw [show (10 :: y).drop (1 + blks y) = y.drop (blks y) by rw [Nat.add_comm]; rfl];exact lexA_any y.length (y.drop (blks y)) _ [] T2 (by rw [List.length_drop]; omega) h2 g' _ T (by rw [List.length_drop]; omega)
theorem parse_stays (x y : Str) (hx : x.length ≤ 3000) (hy : y.length ≤ 3000) (h0 : (parseS x).2.code ≠ 0) (h12 : (parseS x).2.code ≠ 12) (h3 : (parseS x).2.code ≠ 3)
  (h10 : (parseS x).2.code ≠ 10 → ∃ T2,lexS signsW true y = .ok T2) : (parseS (x ++ 10 :: y)).2 = (parseS x).2 := by
 have hl : ¬ 20000 < (x ++ 10 :: y).length := by rw [List.length_append,List.length_cons]; omega
 unfold parseS at *;rw [if_neg (show ¬ 20000 < x.length by omega)] at h0 h12 h3 h10 ⊢;rw [if_neg hl];unfold parseL at *;cases hlx : lexS signsW true x with
 | bad e => rw [lex_bad y hlx]
 | ok T =>
  rw [hlx] at h0 h12 h3 h10;simp only at h0 h12 h3 h10 ⊢;cases hd : defR false (finS x) T with
  | ok a w n => rw [hd] at h0; exact absurd rfl h0
  | bad f =>
   rw [hd] at h0 h12 h3 h10;simp only at h0 h12 h3 h10 ⊢;have hf : f ≠ finS x := by rintro rfl; exact h12 rfl
   obtain ⟨n10,_⟩ := def_stays (f2 := finS x) (z := []) hd hf h3;obtain ⟨T2,h2⟩ := h10 n10;obtain ⟨T3,e⟩ := lex_more hlx h2;rw [e];simp only;rw [(def_stays (f2 := finS (x ++ 10 :: y)) (z := T3) hd hf h3).2]
end Go.AV
end
section
namespace Go.AV
open Go Go.Proofs
theorem cxd_cx : ({ cxd with det := false } : Cx) = cx := rfl
theorem to_cxd {f : FuncId} {args : List A} {a : A} (hargs : ∀ x,x ∈ args → x.lp x) (ha : a.lp a) (h : ∀ KV Kp s,KV s a → Den cx f args KV Kp s) {KV Kp : St → A → Prop} {s : St} (hk : KV s a) : Den cxd f args KV Kp s := by
 refine Den.restart (C := cxd) false (Q := fun _ r => r = a) glS_lp hargs (fun F1 g2 s2 w2 r v hR hv hq => ?_) ?_ hk
 ·subst hq;exact ⟨g2.pi,hR.pis,fun b _ => rfl,fun g' hg => ha g2 g' v hg hv⟩
 ·rw [cxd_cx];exact h _ _ _ rfl
theorem str_lp (x : List UInt8) : (A.str x).lp (.str x) := frz_ok 1 _ _ rfl
theorem bool_lp (x : Bool) : (A.bool x).lp (.bool x) := frz_ok 1 _ _ rfl
def extW (W : List (List UInt8)) (l : List A) (σ : XS) : CR := match l with
 | [.str x] => .val (.bool (decide (x ∈ W))) σ
 | _ => .bad
def extB (f : FuncId) : Option (List A → XS → CR) := match Nat.beq f 145 with
 | true => some (extW reservedW)
 | false => match Nat.beq f 107 with
  | true => some (extW builtInW)
  | false => extS f
theorem extW_ok {f : FuncId} {W : List (List UInt8)} (h : ∀ (s : St) (x : List UInt8) (KV Kp : St → A → Prop),KV s (.bool (decide (x ∈ W))) → Den cx f [.str x] KV Kp s)
  (l : List A) (σ : XS) (s : St) (KV Kp : St → A → Prop) (hs : Sim s σ) (hh : (extW W l σ).to KV Kp) : Den cxd f l KV Kp s := by
 unfold extW at hh;split at hh
 ·rename_i x;refine to_cxd (a := .bool (decide (x ∈ W))) (fun y hy => ?_) (bool_lp _) (fun KV Kp s hk => h s x KV Kp hk) (hh s hs);simp only [List.mem_singleton] at hy;subst hy; exact str_lp x
 ·exact hh.elim
theorem extB_ok : extOk cxd extB := by
 intro f h hf l σ s KV Kp hs hh;unfold extB at hf;split at hf
 ·rename_i e;have hf' := Nat.eq_of_beq_eq_true e;cases hf;refine extW_ok (W := reservedW) (fun s x KV Kp hk => ?_) l σ s KV Kp hs hh;rw [hf'];exact isReserved145_den s x KV Kp hk
 ·split at hf
  ·rename_i e;have hf' := Nat.eq_of_beq_eq_true e;cases hf;refine extW_ok (W := builtInW) (fun s x KV Kp hk => ?_) l σ s KV Kp hs hh;rw [hf'];exact builtIn107_den s x KV Kp hk
  ·exact ext_ok f h hf l σ s KV Kp hs hh
end Go.AV
end
section
namespace Go.AV
open Go Go.Proofs
section
variable {s : St} {KV Kp : St → A → Prop}
theorem A.le.emp0 : A.le .emp (.list none []) := fun g v h => by
 obtain ⟨a,rfl⟩ := h.emp_inv;exact .list0 none (some a) 0 (Nat.zero_le _) (fun t e => by cases e)
theorem clone266_den (l : List A) (h1 : ∀ y,y ∈ l → y.cells.length = 1) (hl : l.length ≤ 4294967296) (hk : KV s (.list none l)) : Den cx 266 [.list none l] KV Kp s := by
 refine Den.drop ?_; (refine Den.of_body (C := cx) Tryz.func266 rfl rfl (Nat.le_of_ble_eq_true rfl) ?_; refine wpC_ok (V := [0,2,4]) _ _ _ _ ?_; simp only [go_sem,Tryz.ntmps266,Tryz.f266]);cases l with
 | nil =>
  simp only [go_sem,false_or];exact ⟨DK.mk hk (St.ge.refl _) A.le.nil,by decide,fun y hy => (by cases hy),DK.mk hk (St.ge.refl _) A.le.emp0⟩
 | cons x r =>
  have hl2 : r.length ≤ 4294967295 := Nat.le_of_succ_le_succ hl;simp only [go_sem];refine ⟨by decide,h1,hl2,?_⟩;intro t ht;simp only [go_sem];exact DK.mk hk (St.ge_freeT ht) (gv_le (some t) (x :: r) (fun e => by cases e))
theorem clone267_den (l : List A) (h1 : ∀ y,y ∈ l → y.cells.length = 2) (hl : l.length ≤ 4294967296) (hk : KV s (.list none l)) : Den cx 267 [.list none l] KV Kp s := by
 refine Den.drop ?_; (refine Den.of_body (C := cx) Tryz.func267 rfl rfl (Nat.le_of_ble_eq_true rfl) ?_; refine wpC_ok (V := [0,2,4]) _ _ _ _ ?_; simp only [go_sem,Tryz.ntmps267,Tryz.f267]);cases l with
 | nil =>
  simp only [go_sem,false_or];exact ⟨DK.mk hk (St.ge.refl _) A.le.nil,by decide,fun y hy => (by cases hy),DK.mk hk (St.ge.refl _) A.le.emp0⟩
 | cons x r =>
  have hl2 : r.length ≤ 4294967295 := Nat.le_of_succ_le_succ hl;simp only [go_sem];refine ⟨by decide,h1,hl2,?_⟩;intro t ht;simp only [go_sem];exact DK.mk hk (St.ge_freeT ht) (gv_le (some t) (x :: r) (fun e => by cases e))
theorem clone268_den (l : List A) (h1 : ∀ y,y ∈ l → y.cells.length = 1) (hl : l.length ≤ 4294967296) (hk : KV s (.list none l)) : Den cx 268 [.list none l] KV Kp s := by
 refine Den.drop ?_; (refine Den.of_body (C := cx) Tryz.func268 rfl rfl (Nat.le_of_ble_eq_true rfl) ?_; refine wpC_ok (V := [0,2,4]) _ _ _ _ ?_; simp only [go_sem,Tryz.ntmps268,Tryz.f268]);cases l with
 | nil =>
  simp only [go_sem,false_or];exact ⟨DK.mk hk (St.ge.refl _) A.le.nil,by decide,fun y hy => (by cases hy),DK.mk hk (St.ge.refl _) A.le.emp0⟩
 | cons x r =>
  have hl2 : r.length ≤ 4294967295 := Nat.le_of_succ_le_succ hl;simp only [go_sem];refine ⟨by decide,h1,hl2,?_⟩;intro t ht;simp only [go_sem];exact DK.mk hk (St.ge_freeT ht) (gv_le (some t) (x :: r) (fun e => by cases e))
end
end Go.AV
end
section
namespace Go.AV
open Go Go.Proofs
def lensA (z : Nat) : List A → Bool
 | [] => true
 | y :: r => match Nat.beq y.cells.length z with
  | true => lensA z r
  | false => false
theorem lensA_ok {z : Nat} : ∀ {l : List A},lensA z l = true → ∀ y,y ∈ l → y.cells.length = z
 | [],_,y,h => by cases h
 | a :: r,h,y,hy => by
  simp only [lensA] at h;split at h
  ·rename_i e;rcases List.mem_cons.1 hy with rfl | hy
   ·exact Nat.eq_of_beq_eq_true e
   ·exact lensA_ok h y hy
  ·cases h
def extCl (z : Nat) (l : List A) (σ : XS) : CR := match l with
 | [a] => match frz 60 a with
  | some b => match frz 60 b with
   | some (.list none es) => match b with
    | .list none fs => match lensA z fs,Nat.ble fs.length 4294967296 with
     | true,true => .val (.list none es) σ
     | _,_ => .bad
    | _ => .bad
   | _ => .bad
  | none => .bad
 | _ => .bad
def extC (f : FuncId) : Option (List A → XS → CR) := match Nat.beq f 266 with
 | true => some (extCl 1)
 | false => match Nat.beq f 267 with
  | true => some (extCl 2)
  | false => match Nat.beq f 268 with
   | true => some (extCl 1)
   | false => extB f
theorem extCl_ok {f : FuncId} {z : Nat} (h : ∀ (s : St) (l : List A) (KV Kp : St → A → Prop),(∀ y,y ∈ l → y.cells.length = z) → l.length ≤ 4294967296 → KV s (.list none l) → Den cx f [.list none l] KV Kp s)
  (l : List A) (σ : XS) (s : St) (KV Kp : St → A → Prop) (hs : Sim s σ) (hh : (extCl z l σ).to KV Kp) : Den cxd f l KV Kp s := by
 unfold extCl at hh;split at hh
 ·rename_i a;split at hh
  ·rename_i b hb;split at hh
   ·rename_i es hes;split at hh
    ·rename_i fs;split at hh
     ·rename_i h1 h2;refine Den.restart2 (C := cxd) (args2 := [.list none fs]) (a' := .list none es) false (Q := fun _ r => r = .list none fs) glS_lp rfl (fun j x y hx hy => ?_) (fun F1 g2 s2 w2 r v hR hv hq => ?_) ?_ (hh s hs)
      ·cases j with
       | zero => simp at hx hy; subst hx; subst hy; exact frz_ok 60 _ _ hb
       | succ j => simp at hx
      ·subst hq;exact ⟨g2.pi,hR.pis,fun b _ => rfl,fun g' hg => frz_ok 60 _ _ hes g2 g' v hg hv⟩
      ·rw [cxd_cx];exact h _ _ _ _ (lensA_ok h1) (Nat.le_of_ble_eq_true h2) rfl
     ·exact hh.elim
    ·exact hh.elim
   ·exact hh.elim
  ·exact hh.elim
 ·exact hh.elim
theorem extC_ok : extOk cxd extC := by
 intro f h hf l σ s KV Kp hs hh;unfold extC at hf;split at hf
 ·rename_i e;have hf' := Nat.eq_of_beq_eq_true e;cases hf;exact extCl_ok (z := 1) (fun s x KV Kp h1 h2 hk => by rw [hf']; exact clone266_den x h1 h2 hk) l σ s KV Kp hs hh
 ·split at hf
  ·rename_i e;have hf' := Nat.eq_of_beq_eq_true e;cases hf;exact extCl_ok (z := 2) (fun s x KV Kp h1 h2 hk => by rw [hf']; exact clone267_den x h1 h2 hk) l σ s KV Kp hs hh
  ·split at hf
   ·rename_i e;have hf' := Nat.eq_of_beq_eq_true e;cases hf;exact extCl_ok (z := 1) (fun s x KV Kp h1 h2 hk => by rw [hf']; exact clone268_den x h1 h2 hk) l σ s KV Kp hs hh
   ·exact extB_ok f h hf l σ s KV Kp hs hh
theorem seat_runC {fuel : Nat} {f : FuncId} {args : List A} {KV Kp : St → A → Prop} {s : St} {a : A}
  (hargs : frzL (frz 60) args = some args) (h : outX (runX (xpS extC) fuel f args) = some a) (hk : KV s a) : Den cx f args KV Kp s := by
 have hX : (xpS extC).ok { cx with det := true } := xpS_ok extC_ok;exact Den.run true hX glS_lp hargs h hk
end Go.AV
end
section
namespace Go.AV
open Go Go.Proofs
def awD : Dfn := ⟨[101],⟨[[65]],[],[⟨[97],[],[65],[⟨[97],[]⟩],0,0,[]⟩],[],[]⟩,[],[⟨[99],[65],.mk 6 0 [36] [65,110,121] [] [],1,52⟩],[],[],[],[65],[99]⟩
def awT : Tm := .mk 5 0 [102] [] [.mk 6 0 [88] [73,110,116] [] [],.mk 7 0 [] [] [.mk 1 (-1) [] [] [] []] [.mk 6 0 [76] [76,105,115,116] [] []]] []
def awOut : Str := [108,97,110,103,117,97,103,101,32,101,46,10,115,111,114,116,32,65,46,10,111,112,32,97,32,58,32,34,97,34,32,45,62,32,65] ++ [46,10,99,101,108,108,32,99,32,58,32,65,32,61,32,36,46,10,115,116,97,114,116,32,65,46,10,119,97,116,99,104,32,99,46,10]
def awR : List A := [.str [101],.list none [.str [65]],.nils,.list none [.agg [.str [98],.nils,.str [65],.list none [.agg [.str [97],.str []]],.int .i64 0,.int .i64 0,.list none []]],.nils,.nils,.nils,
 .list none [.agg [.str [99],.str [65],.int .i64 6,.int .i64 0,.str [36],.str [65,110,121],.nils,.nils,.int .i64 1,.int .i64 52]],.str [],.nils,.nils,.str [65],.str [99]]
def awZ : List A := [.str [],.nils,.nils,.nils,.nils,.nils,.nils,.nils,.str [],.nils,.nils,.str [],.str []]
end Go.AV
end
section
namespace Go.AV
open Go
def awS : Str := [108,97,110,103,117,97,103,101,32,101,46,32,115,111,114,116,32,65,46,32,111,112,32,97,32,58,32,34,97,34,32,45,62,32,65] ++ [46,32,115,116,97,114,116,32,65,46,32,99,101,108,108,32,99,32,58,32,65,32,61,32,36,46,32,119,97,116,99,104,32,99,46]
theorem aw_1 : parseS awS = (awD,⟨0,[],0,0⟩) := by kernel_rfl
theorem aw_2 : parseS [108,97,110,103,117,97,103,101,32,101,46,32,115,111,114,116] = (noDfn,⟨12,[],1,17⟩) := by kernel_rfl
theorem aw_3 : parseS [108,97,110,103,117,97,103,101,32,101,46,10,115,111,114,116,32,65,32,66,46] = (noDfn,⟨11,[66],2,8⟩) := by kernel_rfl
theorem aw_4 : termS [102,40,88,58,73,110,116,44,32,91,45,49,32,124,32,76,93,41] = (awT,⟨0,[],0,0⟩) := by kernel_rfl
theorem aw_5 : termS [45,32,53] = (noTm,⟨11,[53],1,3⟩) := by kernel_rfl
theorem aw_6 : parseS [108,97,110,103,117,97,103,101,32,101,46,32,115,116,97,114,116,32,65,46,32,115,116,97,114,116,32,66,46] = (noDfn,⟨14,[115,116,97,114,116],1,22⟩) := by kernel_rfl
end Go.AV
end
