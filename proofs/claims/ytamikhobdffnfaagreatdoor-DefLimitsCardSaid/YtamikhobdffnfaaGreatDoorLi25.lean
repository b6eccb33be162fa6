/-
  Part of the proof of DefLimits.
-/
import Derived.Test.YtamikhobdffnfaaGreatDoorLi24
set_option linter.unusedVariables false
set_option linter.unusedSimpArgs false
set_option linter.all false
section
namespace Go.AV
open Go Go.Proofs
set_option maxRecDepth 100000
set_option maxHeartbeats 8000000
def Part.encN (p : Part) : A := .agg (.str p.cell :: .str p.at_ :: (p.left.cs ++ [nv (p.right.map Tm.enc),.int .i64 p.line,.int .i64 p.col]))
def rulO (x : Rul) (tp tn td : Option Nat) : Ob := .cells 84 [.str x.name,gv tp (x.parts.map Part.encN),.nils,gv tn (x.new.map Fresh.enc),gv td (x.drop.map .str),.int .i64 x.line,.int .i64 x.col]
def rulL (x : Rul) (tp tn td : Option Nat) : List Own := [(tp,x.parts.length,86),(tn,x.new.length,141),(td,x.drop.length,9)]
def rulS (T : List Tok) (fin : Fault) (d : Dc) (first : Tok) (b r : Nat) (s : St) (x : Rul) (tp tn td : Option Nat) (i n : Nat) : St := gsl ((s.setO b (rulO x tp tn td)).setO r (psO T fin d first i n)) (rulL x tp tn td)
structure RulQ (b r : Nat) (s : St) (x : Rul) (tp tn td : Option Nat) (i : Nat) : Prop where
 own : OwnOk s (rulL x tp tn td)
 hb : s.getO b = none
 ne : b ≠ r
 l1 : x.parts.length ≤ i
 l2 : x.new.length ≤ i
 l3 : x.drop.length ≤ i
section
variable {T : List Tok} {fin : Fault} {d : Dc} {first : Tok} {i n : Nat} {s : St} {r : Nat} {KV Kp : St → A → Prop}
theorem part_den (hT : TOk T) (b : Nat) (x : Rul) (tp tn td : Option Nat) (hQ : RulQ b r s x tp tn td i) (hi : i ≤ T.length) (hn : n ≤ 2000)
  (hk : (partR false fin x (T.drop i) n).to (fun x' w n' => ∀ j tp' tn' td',i + 1 ≤ j → j ≤ T.length → T.drop j = w → n' ≤ 2000 → RulQ b r s x' tp' tn' td' j → KV (rulS T fin d first b r s x' tp' tn' td' j n') (.tuple []))
   (fun f => ∀ s1 o,s1.gx s r → s1.getO r = some o → Kp s1 (.iface 36 f.enc))) : Den cx 224 [.ptr r 0,.ptr b 0] KV Kp (rulS T fin d first b r s x tp tn td i n) := by
 obtain ⟨hown,hb,hne,l1,l2,l3⟩ := hQ
 have hlenT := hT.len
 have hfr := hown.free
 refine Den.drop ?_; (refine Den.of_body (C := cx) Tryz.func224 rfl rfl (Nat.le_of_ble_eq_true rfl) ?_; refine wpC_ok (V := [0,1,4,5,16,27,42,65]) _ _ _ _ ?_; simp only [go_sem,Tryz.ntmps224,Tryz.f224])
 unfold rulS rulO
 simp only [go_sem,gsl_getO,hne,hne.symm]
 refine peek_den (T := T) (fin := fin) (d := d) (first := first) (i := i) (n := n) (by simp only [St.getO_setO,St.getO_setL,St.getO_setT,gs_getO,ne_eq,not_false_eq_true,reduceIte,gsl_getO,hne,hne.symm] <;> (first | done | rfl | assumption)) hi ?_
 cases hw : T.drop i with
 | nil => rw [hw] at hk; exact DK.here (hk _ (psO T fin d first i n) (by (repeat (first | refine gsl_gx hfr ?_ | exact St.gx.refl _ _ | refine St.gx_r ?_ | refine St.gx_new (by first | simp only [hb] | assumption) ?_ | refine St.gx_T (by first | simp only [hb] | assumption) ?_))) (by simp only [St.getO_setO,St.getO_setL,St.getO_setT,gs_getO,ne_eq,not_false_eq_true,reduceIte,gsl_getO,hne,hne.symm] <;> (first | done | rfl | assumption)))
 | cons t w =>
  obtain ⟨g1,g2,g3,g4⟩ := drop_get hw
  rw [hw] at hk
  simp only [partR] at hk
  simp only [go_sem,gsl_getO,hne,hne.symm]
  (intro b4 hb4; try simp only [gsl_getO,gs_getO,getO_setO_none,ne_eq] at hb4)
  simp only [go_sem,gsl_getO,hne,hne.symm,hb4]
  refine take_den (T := T) (fin := fin) (d := d) (first := first) (i := i) (n := n) _ (by simp only [St.getO_setO,St.getO_setL,St.getO_setT,gs_getO,ne_eq,not_false_eq_true,reduceIte,gsl_getO,hne,hne.symm,hb4] <;> (first | done | rfl | assumption)) hi hT ?_
  rw [hw]
  cases c1 : isTok t [110,101,119] with
  | true =>
   rw [if_pos c1,Rd.bind_to,← g3] at hk
   simp only [isT,c1]
   simp only [go_sem,gsl_getO,hne,hne.symm,hb4]
   refine want_den (T := T) (fin := fin) (d := d) (first := first) (i := i + 1) (n := n) _ (by simp only [St.getO_setO,St.getO_setL,St.getO_setT,gs_getO,ne_eq,not_false_eq_true,reduceIte,gsl_getO,hne,hne.symm,hb4] <;> (first | done | rfl | assumption)) g2 hT (Rd.to_mono hk (fun _ w2 m2 hk2 hlt2 hw2 hm2 => ?_) (fun f h => PB.of (by (repeat (first | refine gsl_gx hfr ?_ | exact St.gx.refl _ _ | refine St.gx_r ?_ | refine St.gx_new (by first | simp only [hb,hb4] | assumption) ?_ | refine St.gx_T (by first | simp only [hb,hb4] | assumption) ?_))) h))
   subst m2; rw [← hw2,Rd.bind_to] at hk2
   simp only [go_sem,gsl_getO,hne,hne.symm,hb4]
   (refine draw_ok (V := [0,1,4,5,16,27,42,65]) (OT.l [0,1,2,3,4,5,6,7,8,9,10,11,12,13,14] .nil) [(8,[4])] mixed_cx (by decide +kernel) ?_; simp only [go_sem,gsl_getO,hne,hne.symm,hb4])
   refine Den.weaken (St.ge_same (by simp only [St.getO_setO,St.getO_setL,St.getO_setT,gs_getO,ne_eq,not_false_eq_true,reduceIte,gsl_getO,hne,hne.symm,hb4] <;> (first | done | rfl | assumption))) (plists222_den (fin := fin) (d := d) (fi := first) Tm.enc Tm.hz Tm.ho hT (fun _ => True) (fun _ _ _ => Iff.rfl) (wholeR false fin) 41 [.ptr r 0] []
    (hf_of (fun _ _ h => h) (fun s' i' n' KV' Kp' hr' _ hi' hn' hk' => whole_den hT hr' hi' hn' (Rd.to_mono hk' (fun _ _ _ h j hj => h j (by omega)) (fun _ h => h)))) (i + 1 + 1) n trivial hlt2 hn ?_)
   refine Rd.to_mono hk2 (fun l w3 m3 hk3 j3 hj3 hjT3 hw3 hm3 => ?_) (fun f h s1 o hg hr1 => DK.here (h _ o (hg.trans (by (repeat (first | refine gsl_gx hfr ?_ | exact St.gx.refl _ _ | refine St.gx_r ?_ | refine St.gx_new (by first | simp only [hb,hb4] | assumption) ?_ | refine St.gx_T (by first | simp only [hb,hb4] | assumption) ?_)))) hr1))
   subst hw3
   rw [Rd.bind_to] at hk3
   simp only [go_sem,gsl_getO,hne,hne.symm,hb4]
   refine ⟨by decide,fun y hy => by simp only [List.mem_singleton] at hy; subst hy; rfl,appL_gv rfl rfl (by rw [List.length_map]; refine gsl_gokX hown (k := 1) (o := (tn,x.new.length,141)) rfl ?_; exact fun _ => rfl) (fun y hy => ?_) (by simp only [List.length_map,List.length_cons,List.length_nil]; omega) (fun u hu => ?_)⟩
   ·simp only [List.mem_map] at hy; obtain ⟨q,_,rfl⟩ := hy; rfl
   have hown2 := gsl_own hown (k := 1) (o := (tn,x.new.length,141)) rfl hu (fun _ => rfl) (x.new.length + 1)
   simp only [go_sem,gsl_getO,hne,hne.symm,hb4]
   refine Den.weaken (gsl_app hown (k := 1) (o := (tn,x.new.length,141)) rfl hown2 (fun _ => rfl)) ?_
   have hown3 : OwnOk s (rulL { x with new := x.new ++ [⟨l⟩] } tp (some u) td) := by simpa only [rulL,List.length_append,List.length_cons,List.length_nil,List.set_cons_succ,List.set_cons_zero] using hown2
   rw [show (rulL x tp tn td).set 1 (some u,x.new.length + 1,(tn,x.new.length,141).snd.snd) = rulL { x with new := x.new ++ [⟨l⟩] } tp (some u) td by simp [rulL]]
   have hfr3 := hown3.free
   refine want_den (T := T) (fin := fin) (d := d) (first := first) (i := j3) (n := m3) _ (by simp only [St.getO_setO,St.getO_setL,St.getO_setT,gs_getO,ne_eq,not_false_eq_true,reduceIte,gsl_getO,hne,hne.symm,hb4] <;> (first | done | rfl | assumption)) hjT3 hT (Rd.to_mono hk3 (fun _ w4 m4 hk4 hlt4 hw4 hm4 => ?_) (fun f h => PB.of (by (repeat (first | refine gsl_gx hfr3 ?_ | exact St.gx.refl _ _ | refine St.gx_r ?_ | refine St.gx_new (by first | simp only [hb,hb4] | assumption) ?_ | refine St.gx_T (by first | simp only [hb,hb4] | assumption) ?_))) h))
   subst m4
   rw [Rd.ok_to] at hk4
   simp only [go_sem,gsl_getO,hne,hne.symm,hb4]
   have hk5 := hk4 (j3 + 1) tp (some u) td (by omega) hlt4 hw4 hm3 ⟨hown3,hb,hne,by simp only; omega,by simp only [List.length_append,List.length_cons,List.length_nil]; omega,by simp only; omega⟩
   refine DK.st hk5 ?_
   unfold rulS
   refine gsl_ge ?_
   simp only [rulO,gv_some,List.map_append,List.map_cons,List.map_nil,Part.encN,nv,Tm.cs,List.cons_append,List.nil_append,Tm.enc_eq]
   exact (by (refine gel_ge ?_; repeat (first | exact gel_refl _ _ _ | refine gsl_gel hfr3 ?_ | refine gel_gs_gs ?_ | refine gel_to_gs gs_self ?_ | (refine gel_to_gs ?_ ?_; focus (rintro _ ⟨⟩; simp only [getT_setO,St.getT_setL,St.getT_setT,St.getT_delT,gs_getT,reduceIte,List.length_append,List.length_cons,List.length_nil,List.length_map,Nat.zero_add,Nat.add_zero] <;> done)) | (refine gel_inT ?_ ?_; focus (simp only [Option.toList,List.cons_append,List.nil_append,List.mem_cons,true_or,or_true] <;> done)) | (refine gel_gs_in ?_ ?_; focus (simp; done)) | refine gel_set (by simp only [St.getO_setO,St.getO_setL,St.getO_setT,gs_getO,ne_eq,not_false_eq_true,reduceIte,gsl_getO,hne,hne.symm,hb4] <;> (first | done | rfl | assumption)) ?_ | (refine gel_in ?_ ?_; focus (simp only [List.mem_cons,true_or,or_true]; done)) | refine gel_new (by first | simp only [hb,hb4] | assumption) ?_)))
  | false =>
   rw [if_neg (by simp [c1])] at hk
   simp only [isT,c1]
   simp only [go_sem,gsl_getO,hne,hne.symm,hb4]
   refine take_den (T := T) (fin := fin) (d := d) (first := first) (i := i) (n := n) _ (by simp only [St.getO_setO,St.getO_setL,St.getO_setT,gs_getO,ne_eq,not_false_eq_true,reduceIte,gsl_getO,hne,hne.symm,hb4] <;> (first | done | rfl | assumption)) hi hT ?_
   rw [hw]
   cases c2 : isTok t [100,114,111,112] with
   | true =>
    rw [if_pos c2,Rd.bind_to,← g3] at hk
    simp only [isT,c2]
    simp only [go_sem,gsl_getO,hne,hne.symm,hb4]
    refine want_den (T := T) (fin := fin) (d := d) (first := first) (i := i + 1) (n := n) _ (by simp only [St.getO_setO,St.getO_setL,St.getO_setT,gs_getO,ne_eq,not_false_eq_true,reduceIte,gsl_getO,hne,hne.symm,hb4] <;> (first | done | rfl | assumption)) g2 hT (Rd.to_mono hk (fun _ w2 m2 hk2 hlt2 hw2 hm2 => ?_) (fun f h => PB.of (by (repeat (first | refine gsl_gx hfr ?_ | exact St.gx.refl _ _ | refine St.gx_r ?_ | refine St.gx_new (by first | simp only [hb,hb4] | assumption) ?_ | refine St.gx_T (by first | simp only [hb,hb4] | assumption) ?_))) h))
    subst m2; rw [← hw2,Rd.bind_to] at hk2
    simp only [go_sem,gsl_getO,hne,hne.symm,hb4]
    (refine draw_ok (V := [0,1,4,5,16,27,42,65]) (OT.l [0,1,2,3,4,5,6,7,8,9,10,11] .nil) [(6,[4])] mixed_cx (by decide +kernel) ?_; simp only [go_sem,gsl_getO,hne,hne.symm,hb4])
    refine name_den (T := T) (fin := fin) (d := d) (first := first) (i := i + 1 + 1) (n := n) (by simp only [St.getO_setO,St.getO_setL,St.getO_setT,gs_getO,ne_eq,not_false_eq_true,reduceIte,gsl_getO,hne,hne.symm,hb4] <;> (first | done | rfl | assumption)) hlt2 hT (Rd.to_mono hk2 (fun y w3 m3 hk3 hlt3 hw3 hm3 => ?_) (fun f h => PB.of (by (repeat (first | refine gsl_gx hfr ?_ | exact St.gx.refl _ _ | refine St.gx_r ?_ | refine St.gx_new (by first | simp only [hb,hb4] | assumption) ?_ | refine St.gx_T (by first | simp only [hb,hb4] | assumption) ?_))) h))
    subst m3; rw [Rd.ok_to] at hk3
    simp only [go_sem,gsl_getO,hne,hne.symm,hb4]
    refine ⟨by decide,fun y hy => by simp only [List.mem_singleton] at hy; subst hy; rfl,appL_gv rfl rfl (by rw [List.length_map]; refine gsl_gokX hown (k := 2) (o := (td,x.drop.length,9)) rfl ?_; exact fun _ => rfl) (fun y hy => ?_) (by simp only [List.length_map,List.length_cons,List.length_nil]; omega) (fun u hu => ?_)⟩
    ·simp only [List.mem_map] at hy; obtain ⟨q,_,rfl⟩ := hy; rfl
    have hown2 := gsl_own hown (k := 2) (o := (td,x.drop.length,9)) rfl hu (fun _ => rfl) (x.drop.length + 1)
    have hown3 : OwnOk s (rulL { x with drop := x.drop ++ [y] } tp tn (some u)) := by simpa only [rulL,List.length_append,List.length_cons,List.length_nil,List.set_cons_succ,List.set_cons_zero] using hown2
    simp only [go_sem,gsl_getO,hne,hne.symm,hb4]
    have hk5 := hk3 (i + 1 + 1 + 1) tp tn (some u) (by omega) hlt3 hw3 hn ⟨hown3,hb,hne,by simp only; omega,by simp only; omega,by simp only [List.length_append,List.length_cons,List.length_nil]; omega⟩
    refine DK.st hk5 (St.ge.trans (gsl_app hown (k := 2) (o := (td,x.drop.length,9)) rfl hown2 (fun _ => rfl)) ?_)
    unfold rulS
    rw [show (rulL x tp tn td).set 2 (some u,x.drop.length + 1,(td,x.drop.length,9).snd.snd) = rulL { x with drop := x.drop ++ [y] } tp tn (some u) by simp [rulL]]
    refine gsl_ge ?_
    simp only [rulO,gv_some,List.map_append,List.map_cons,List.map_nil,Part.encN,nv,Tm.cs,List.cons_append,List.nil_append,Tm.enc_eq]
    exact (by (refine gel_ge ?_; repeat (first | exact gel_refl _ _ _ | refine gsl_gel hfr ?_ | refine gel_gs_gs ?_ | refine gel_to_gs gs_self ?_ | (refine gel_to_gs ?_ ?_; focus (rintro _ ⟨⟩; simp only [getT_setO,St.getT_setL,St.getT_setT,St.getT_delT,gs_getT,reduceIte,List.length_append,List.length_cons,List.length_nil,List.length_map,Nat.zero_add,Nat.add_zero] <;> done)) | (refine gel_inT ?_ ?_; focus (simp only [Option.toList,List.cons_append,List.nil_append,List.mem_cons,true_or,or_true] <;> done)) | (refine gel_gs_in ?_ ?_; focus (simp; done)) | refine gel_set (by simp only [St.getO_setO,St.getO_setL,St.getO_setT,gs_getO,ne_eq,not_false_eq_true,reduceIte,gsl_getO,hne,hne.symm,hb4] <;> (first | done | rfl | assumption)) ?_ | (refine gel_in ?_ ?_; focus (simp only [List.mem_cons,true_or,or_true]; done)) | refine gel_new (by first | simp only [hb,hb4] | assumption) ?_)))
   | false =>
    rw [if_neg (by simp [c2]),Rd.bind_to,← hw] at hk
    simp only [isT,c2]
    simp only [go_sem,gsl_getO,hne,hne.symm,hb4]
    (refine draw_ok (V := [0,1,4,5,16,27,42,65]) (OT.l [0,2,3,4,5,1,6,7,8] .nil) [(1,[3,5]),(7,[3,5])] mixed_cx (by decide +kernel) ?_; simp only [go_sem,gsl_getO,hne,hne.symm,hb4])
    refine name_den (T := T) (fin := fin) (d := d) (first := first) (i := i) (n := n) (by simp only [St.getO_setO,St.getO_setL,St.getO_setT,gs_getO,ne_eq,not_false_eq_true,reduceIte,gsl_getO,hne,hne.symm,hb4] <;> (first | done | rfl | assumption)) hi hT (Rd.to_mono hk (fun y w3 m3 hk3 hlt3 hw3 hm3 => ?_) (fun f h => PB.of (by (repeat (first | refine gsl_gx hfr ?_ | exact St.gx.refl _ _ | refine St.gx_r ?_ | refine St.gx_new (by first | simp only [hb,hb4] | assumption) ?_ | refine St.gx_T (by first | simp only [hb,hb4] | assumption) ?_))) h))
    subst m3; rw [← hw3] at hk3
    simp only [go_sem,gsl_getO,hne,hne.symm,hb4]
    (intro b5 hb5; try simp only [gsl_getO,gs_getO,getO_setO_none,ne_eq] at hb5)
    simp only [go_sem,gsl_getO,hne,hne.symm,hb4,hb5]
    refine take_den (T := T) (fin := fin) (d := d) (first := first) (i := i + 1) (n := n) _ (by simp only [St.getO_setO,St.getO_setL,St.getO_setT,gs_getO,ne_eq,not_false_eq_true,reduceIte,gsl_getO,hne,hne.symm,hb4,hb5] <;> (first | done | rfl | assumption)) hlt3 hT ?_
    rw [Rd.bind_to] at hk3
    cases c3 : isT [64] (T.drop (i + 1)) with
    | true =>
     rw [if_pos c3,List.tail_drop] at hk3
     have hlt4 := isT_lt c3
     simp only [go_sem,gsl_getO,hne,hne.symm,hb4,hb5]
     refine name_den (T := T) (fin := fin) (d := d) (first := first) (i := i + 1 + 1) (n := n) (by simp only [St.getO_setO,St.getO_setL,St.getO_setT,gs_getO,ne_eq,not_false_eq_true,reduceIte,gsl_getO,hne,hne.symm,hb4,hb5] <;> (first | done | rfl | assumption)) hlt4 hT (Rd.to_mono hk3 (fun y2 w4 m4 hk4 hlt4 hw4 hm4 => ?_) (fun f h => PB.of (by (repeat (first | refine gsl_gx hfr ?_ | exact St.gx.refl _ _ | refine St.gx_r ?_ | refine St.gx_new (by first | simp only [hb,hb4,hb5] | assumption) ?_ | refine St.gx_T (by first | simp only [hb,hb4,hb5] | assumption) ?_))) h))
     subst m4; rw [← hw4] at hk4
     simp only [go_sem,gsl_getO,hne,hne.symm,hb4,hb5]
     rw [Rd.bind_to] at hk4
     refine want_den (T := T) (fin := fin) (d := d) (first := first) (i := i + 1 + 1 + 1) (n := n) _ (by simp only [St.getO_setO,St.getO_setL,St.getO_setT,gs_getO,ne_eq,not_false_eq_true,reduceIte,gsl_getO,hne,hne.symm,hb4,hb5] <;> (first | done | rfl | assumption)) hlt4 hT (Rd.to_mono hk4 (fun _ w5 m5 hk5 hlt5 hw5 hm5 => ?_) (fun f h => PB.of (by (repeat (first | refine gsl_gx hfr ?_ | exact St.gx.refl _ _ | refine St.gx_r ?_ | refine St.gx_new (by first | simp only [hb,hb4,hb5] | assumption) ?_ | refine St.gx_T (by first | simp only [hb,hb4,hb5] | assumption) ?_))) h))
     subst m5; rw [← hw5,Rd.bind_to] at hk5
     simp only [go_sem,gsl_getO,hne,hne.symm,hb4,hb5]
     refine whole_den (T := T) (fin := fin) (d := d) (first := first) (i := i + 1 + 1 + 1 + 1) (n := n) hT (by simp only [St.getO_setO,St.getO_setL,St.getO_setT,gs_getO,ne_eq,not_false_eq_true,reduceIte,gsl_getO,hne,hne.symm,hb4,hb5] <;> (first | done | rfl | assumption)) hlt5 hn (Rd.to_mono hk5 (fun l6 w6 m6 hk6 j6 hj6 hjT6 hw6 hm6 => ?_) (fun f h => PB.of (by (repeat (first | refine gsl_gx hfr ?_ | exact St.gx.refl _ _ | refine St.gx_r ?_ | refine St.gx_new (by first | simp only [hb,hb4,hb5] | assumption) ?_ | refine St.gx_T (by first | simp only [hb,hb4,hb5] | assumption) ?_))) h))
     rw [← hw6,Rd.bind_to] at hk6
     simp only [go_sem,gsl_getO,hne,hne.symm,hb4,hb5,Tm.enc_eq]
     refine take_den (T := T) (fin := fin) (d := d) (first := first) (i := j6) (n := m6) _ (by simp only [St.getO_setO,St.getO_setL,St.getO_setT,gs_getO,ne_eq,not_false_eq_true,reduceIte,gsl_getO,hne,hne.symm,hb4,hb5] <;> (first | done | rfl | assumption)) hjT6 hT ?_
     cases c4 : isT [61,62] (T.drop j6) with
     | true =>
      rw [if_pos c4,List.tail_drop,Rd.bind_to] at hk6
      have hlt7 := isT_lt c4
      simp only [go_sem,gsl_getO,hne,hne.symm,hb4,hb5]
      refine whole_den (T := T) (fin := fin) (d := d) (first := first) (i := j6 + 1) (n := m6) hT (by simp only [St.getO_setO,St.getO_setL,St.getO_setT,gs_getO,ne_eq,not_false_eq_true,reduceIte,gsl_getO,hne,hne.symm,hb4,hb5] <;> (first | done | rfl | assumption)) hlt7 hm6 (Rd.to_mono hk6 (fun l8 w8 m8 hk8 j8 hj8 hjT8 hw8 hm8 => ?_) (fun f h => PB.of (by (repeat (first | refine gsl_gx hfr ?_ | exact St.gx.refl _ _ | refine St.gx_r ?_ | refine St.gx_new (by first | simp only [hb,hb4,hb5] | assumption) ?_ | refine St.gx_T (by first | simp only [hb,hb4,hb5] | assumption) ?_))) h))
      rw [Rd.ok_to,← hw8,Rd.ok_to] at hk8
      simp only [go_sem,gsl_getO,hne,hne.symm,hb4,hb5,Tm.enc_eq]
      (refine draw_ok (V := [0,1,4,5,16,27,42,65]) (OT.l [0,1,2,3,4,5,6,7,8,9,10] .nil) [] mixed_cx (by decide +kernel) ?_; simp only [go_sem,gsl_getO,hne,hne.symm,hb4,hb5])
      (try simp only [go_sem,gsl_getO,hne,hne.symm,hb4,hb5])
      refine ⟨by decide,fun y hy => by simp only [List.mem_singleton] at hy; subst hy; rfl,appL_gv rfl rfl (by rw [List.length_map]; refine gsl_gokX hown (k := 0) (o := (tp,x.parts.length,86)) rfl ?_; exact fun _ => rfl) (fun y hy => ?_) (by simp only [List.length_map,List.length_cons,List.length_nil]; omega) (fun u hu => ?_)⟩
      ·simp only [List.mem_map] at hy; obtain ⟨q,_,rfl⟩ := hy; rfl
      have hown2 := gsl_own hown (k := 0) (o := (tp,x.parts.length,86)) rfl hu (fun _ => rfl) (x.parts.length + 1)
      have hown3 : OwnOk s (rulL { x with parts := x.parts ++ [⟨y,y2,l6,[l8],t.line,t.col⟩] } (some u) tn td) := by simpa only [rulL,List.length_append,List.length_cons,List.length_nil,List.set_cons_succ,List.set_cons_zero] using hown2
      simp only [go_sem,gsl_getO,hne,hne.symm,hb4,hb5]
      have hk5 := hk8 (j8) (some u) tn td (by omega) hjT8 rfl hm8 ⟨hown3,hb,hne,by simp only [List.length_append,List.length_cons,List.length_nil]; omega,by simp only; omega,by simp only; omega⟩
      refine DK.st hk5 (St.ge.trans (gsl_app hown (k := 0) (o := (tp,x.parts.length,86)) rfl hown2 (fun _ => rfl)) ?_)
      unfold rulS
      rw [show (rulL x tp tn td).set 0 (some u,x.parts.length + 1,(tp,x.parts.length,86).snd.snd) = rulL { x with parts := x.parts ++ [⟨y,y2,l6,[l8],t.line,t.col⟩] } (some u) tn td by simp [rulL]]
      refine gsl_ge ?_
      simp only [rulO,gv_some,List.map_append,List.map_cons,List.map_nil,Part.encN,nv,Tm.cs,List.cons_append,List.nil_append,Tm.enc_eq]
      exact (by (refine gel_ge ?_; repeat (first | exact gel_refl _ _ _ | refine gsl_gel hfr ?_ | refine gel_gs_gs ?_ | refine gel_to_gs gs_self ?_ | (refine gel_to_gs ?_ ?_; focus (rintro _ ⟨⟩; simp only [getT_setO,St.getT_setL,St.getT_setT,St.getT_delT,gs_getT,reduceIte,List.length_append,List.length_cons,List.length_nil,List.length_map,Nat.zero_add,Nat.add_zero] <;> done)) | (refine gel_inT ?_ ?_; focus (simp only [Option.toList,List.cons_append,List.nil_append,List.mem_cons,true_or,or_true] <;> done)) | (refine gel_gs_in ?_ ?_; focus (simp; done)) | refine gel_set (by simp only [St.getO_setO,St.getO_setL,St.getO_setT,gs_getO,ne_eq,not_false_eq_true,reduceIte,gsl_getO,hne,hne.symm,hb4,hb5] <;> (first | done | rfl | assumption)) ?_ | (refine gel_in ?_ ?_; focus (simp only [List.mem_cons,true_or,or_true]; done)) | refine gel_new (by first | simp only [hb,hb4,hb5] | assumption) ?_)))
     | false =>
      rw [if_neg (by simp [c4]),Rd.ok_to,Rd.ok_to] at hk6
      simp only [go_sem,gsl_getO,hne,hne.symm,hb4,hb5]
      (refine draw_ok (V := [0,1,4,5,16,27,42,65]) (OT.l [0,1,2,3,4,5,6,7,8,9,10] .nil) [] mixed_cx (by decide +kernel) ?_; simp only [go_sem,gsl_getO,hne,hne.symm,hb4,hb5])
      (try simp only [go_sem,gsl_getO,hne,hne.symm,hb4,hb5])
      refine ⟨by decide,fun y hy => by simp only [List.mem_singleton] at hy; subst hy; rfl,appL_gv rfl rfl (by rw [List.length_map]; refine gsl_gokX hown (k := 0) (o := (tp,x.parts.length,86)) rfl ?_; exact fun _ => rfl) (fun y hy => ?_) (by simp only [List.length_map,List.length_cons,List.length_nil]; omega) (fun u hu => ?_)⟩
      ·simp only [List.mem_map] at hy; obtain ⟨q,_,rfl⟩ := hy; rfl
      have hown2 := gsl_own hown (k := 0) (o := (tp,x.parts.length,86)) rfl hu (fun _ => rfl) (x.parts.length + 1)
      have hown3 : OwnOk s (rulL { x with parts := x.parts ++ [⟨y,y2,l6,[],t.line,t.col⟩] } (some u) tn td) := by simpa only [rulL,List.length_append,List.length_cons,List.length_nil,List.set_cons_succ,List.set_cons_zero] using hown2
      simp only [go_sem,gsl_getO,hne,hne.symm,hb4,hb5]
      have hk5 := hk6 (j6) (some u) tn td (by omega) hjT6 rfl hm6 ⟨hown3,hb,hne,by simp only [List.length_append,List.length_cons,List.length_nil]; omega,by simp only; omega,by simp only; omega⟩
      refine DK.st hk5 (St.ge.trans (gsl_app hown (k := 0) (o := (tp,x.parts.length,86)) rfl hown2 (fun _ => rfl)) ?_)
      unfold rulS
      rw [show (rulL x tp tn td).set 0 (some u,x.parts.length + 1,(tp,x.parts.length,86).snd.snd) = rulL { x with parts := x.parts ++ [⟨y,y2,l6,[],t.line,t.col⟩] } (some u) tn td by simp [rulL]]
      refine gsl_ge ?_
      simp only [rulO,gv_some,List.map_append,List.map_cons,List.map_nil,Part.encN,nv,Tm.cs,List.cons_append,List.nil_append,Tm.enc_eq]
      exact (by (refine gel_ge ?_; repeat (first | exact gel_refl _ _ _ | refine gsl_gel hfr ?_ | refine gel_gs_gs ?_ | refine gel_to_gs gs_self ?_ | (refine gel_to_gs ?_ ?_; focus (rintro _ ⟨⟩; simp only [getT_setO,St.getT_setL,St.getT_setT,St.getT_delT,gs_getT,reduceIte,List.length_append,List.length_cons,List.length_nil,List.length_map,Nat.zero_add,Nat.add_zero] <;> done)) | (refine gel_inT ?_ ?_; focus (simp only [Option.toList,List.cons_append,List.nil_append,List.mem_cons,true_or,or_true] <;> done)) | (refine gel_gs_in ?_ ?_; focus (simp; done)) | refine gel_set (by simp only [St.getO_setO,St.getO_setL,St.getO_setT,gs_getO,ne_eq,not_false_eq_true,reduceIte,gsl_getO,hne,hne.symm,hb4,hb5] <;> (first | done | rfl | assumption)) ?_ | (refine gel_in ?_ ?_; focus (simp only [List.mem_cons,true_or,or_true]; done)) | refine gel_new (by first | simp only [hb,hb4,hb5] | assumption) ?_)))
    | false =>
     rw [if_neg (by simp [c3]),Rd.ok_to] at hk3
     simp only [go_sem,gsl_getO,hne,hne.symm,hb4,hb5]
     rw [Rd.bind_to] at hk3
     refine want_den (T := T) (fin := fin) (d := d) (first := first) (i := i + 1) (n := n) _ (by simp only [St.getO_setO,St.getO_setL,St.getO_setT,gs_getO,ne_eq,not_false_eq_true,reduceIte,gsl_getO,hne,hne.symm,hb4,hb5] <;> (first | done | rfl | assumption)) hlt3 hT (Rd.to_mono hk3 (fun _ w5 m5 hk5 hlt5 hw5 hm5 => ?_) (fun f h => PB.of (by (repeat (first | refine gsl_gx hfr ?_ | exact St.gx.refl _ _ | refine St.gx_r ?_ | refine St.gx_new (by first | simp only [hb,hb4,hb5] | assumption) ?_ | refine St.gx_T (by first | simp only [hb,hb4,hb5] | assumption) ?_))) h))
     subst m5; rw [← hw5,Rd.bind_to] at hk5
     simp only [go_sem,gsl_getO,hne,hne.symm,hb4,hb5]
     refine whole_den (T := T) (fin := fin) (d := d) (first := first) (i := i + 1 + 1) (n := n) hT (by simp only [St.getO_setO,St.getO_setL,St.getO_setT,gs_getO,ne_eq,not_false_eq_true,reduceIte,gsl_getO,hne,hne.symm,hb4,hb5] <;> (first | done | rfl | assumption)) hlt5 hn (Rd.to_mono hk5 (fun l6 w6 m6 hk6 j6 hj6 hjT6 hw6 hm6 => ?_) (fun f h => PB.of (by (repeat (first | refine gsl_gx hfr ?_ | exact St.gx.refl _ _ | refine St.gx_r ?_ | refine St.gx_new (by first | simp only [hb,hb4,hb5] | assumption) ?_ | refine St.gx_T (by first | simp only [hb,hb4,hb5] | assumption) ?_))) h))
     rw [← hw6,Rd.bind_to] at hk6
     simp only [go_sem,gsl_getO,hne,hne.symm,hb4,hb5,Tm.enc_eq]
     refine take_den (T := T) (fin := fin) (d := d) (first := first) (i := j6) (n := m6) _ (by simp only [St.getO_setO,St.getO_setL,St.getO_setT,gs_getO,ne_eq,not_false_eq_true,reduceIte,gsl_getO,hne,hne.symm,hb4,hb5] <;> (first | done | rfl | assumption)) hjT6 hT ?_
     cases c4 : isT [61,62] (T.drop j6) with
     | true =>
      rw [if_pos c4,List.tail_drop,Rd.bind_to] at hk6
      have hlt7 := isT_lt c4
      simp only [go_sem,gsl_getO,hne,hne.symm,hb4,hb5]
      refine whole_den (T := T) (fin := fin) (d := d) (first := first) (i := j6 + 1) (n := m6) hT (by simp only [St.getO_setO,St.getO_setL,St.getO_setT,gs_getO,ne_eq,not_false_eq_true,reduceIte,gsl_getO,hne,hne.symm,hb4,hb5] <;> (first | done | rfl | assumption)) hlt7 hm6 (Rd.to_mono hk6 (fun l8 w8 m8 hk8 j8 hj8 hjT8 hw8 hm8 => ?_) (fun f h => PB.of (by (repeat (first | refine gsl_gx hfr ?_ | exact St.gx.refl _ _ | refine St.gx_r ?_ | refine St.gx_new (by first | simp only [hb,hb4,hb5] | assumption) ?_ | refine St.gx_T (by first | simp only [hb,hb4,hb5] | assumption) ?_))) h))
      rw [Rd.ok_to,← hw8,Rd.ok_to] at hk8
      simp only [go_sem,gsl_getO,hne,hne.symm,hb4,hb5,Tm.enc_eq]
      (refine draw_ok (V := [0,1,4,5,16,27,42,65]) (OT.l [0,1,2,3,4,5,6,7,8,9,10] .nil) [] mixed_cx (by decide +kernel) ?_; simp only [go_sem,gsl_getO,hne,hne.symm,hb4,hb5])
      (try simp only [go_sem,gsl_getO,hne,hne.symm,hb4,hb5])
      refine ⟨by decide,fun y hy => by simp only [List.mem_singleton] at hy; subst hy; rfl,appL_gv rfl rfl (by rw [List.length_map]; refine gsl_gokX hown (k := 0) (o := (tp,x.parts.length,86)) rfl ?_; exact fun _ => rfl) (fun y hy => ?_) (by simp only [List.length_map,List.length_cons,List.length_nil]; omega) (fun u hu => ?_)⟩
      ·simp only [List.mem_map] at hy; obtain ⟨q,_,rfl⟩ := hy; rfl
      have hown2 := gsl_own hown (k := 0) (o := (tp,x.parts.length,86)) rfl hu (fun _ => rfl) (x.parts.length + 1)
      have hown3 : OwnOk s (rulL { x with parts := x.parts ++ [⟨y,[],l6,[l8],t.line,t.col⟩] } (some u) tn td) := by simpa only [rulL,List.length_append,List.length_cons,List.length_nil,List.set_cons_succ,List.set_cons_zero] using hown2
      simp only [go_sem,gsl_getO,hne,hne.symm,hb4,hb5]
      have hk5 := hk8 (j8) (some u) tn td (by omega) hjT8 rfl hm8 ⟨hown3,hb,hne,by simp only [List.length_append,List.length_cons,List.length_nil]; omega,by simp only; omega,by simp only; omega⟩
      refine DK.st hk5 (St.ge.trans (gsl_app hown (k := 0) (o := (tp,x.parts.length,86)) rfl hown2 (fun _ => rfl)) ?_)
      unfold rulS
      rw [show (rulL x tp tn td).set 0 (some u,x.parts.length + 1,(tp,x.parts.length,86).snd.snd) = rulL { x with parts := x.parts ++ [⟨y,[],l6,[l8],t.line,t.col⟩] } (some u) tn td by simp [rulL]]
      refine gsl_ge ?_
      simp only [rulO,gv_some,List.map_append,List.map_cons,List.map_nil,Part.encN,nv,Tm.cs,List.cons_append,List.nil_append,Tm.enc_eq]
      exact (by (refine gel_ge ?_; repeat (first | exact gel_refl _ _ _ | refine gsl_gel hfr ?_ | refine gel_gs_gs ?_ | refine gel_to_gs gs_self ?_ | (refine gel_to_gs ?_ ?_; focus (rintro _ ⟨⟩; simp only [getT_setO,St.getT_setL,St.getT_setT,St.getT_delT,gs_getT,reduceIte,List.length_append,List.length_cons,List.length_nil,List.length_map,Nat.zero_add,Nat.add_zero] <;> done)) | (refine gel_inT ?_ ?_; focus (simp only [Option.toList,List.cons_append,List.nil_append,List.mem_cons,true_or,or_true] <;> done)) | (refine gel_gs_in ?_ ?_; focus (simp; done)) | refine gel_set (by simp only [St.getO_setO,St.getO_setL,St.getO_setT,gs_getO,ne_eq,not_false_eq_true,reduceIte,gsl_getO,hne,hne.symm,hb4,hb5] <;> (first | done | rfl | assumption)) ?_ | (refine gel_in ?_ ?_; focus (simp only [List.mem_cons,true_or,or_true]; done)) | refine gel_new (by first | simp only [hb,hb4,hb5] | assumption) ?_)))
     | false =>
      rw [if_neg (by simp [c4]),Rd.ok_to,Rd.ok_to] at hk6
      simp only [go_sem,gsl_getO,hne,hne.symm,hb4,hb5]
      (refine draw_ok (V := [0,1,4,5,16,27,42,65]) (OT.l [0,1,2,3,4,5,6,7,8,9,10] .nil) [] mixed_cx (by decide +kernel) ?_; simp only [go_sem,gsl_getO,hne,hne.symm,hb4,hb5])
      (try simp only [go_sem,gsl_getO,hne,hne.symm,hb4,hb5])
      refine ⟨by decide,fun y hy => by simp only [List.mem_singleton] at hy; subst hy; rfl,appL_gv rfl rfl (by rw [List.length_map]; refine gsl_gokX hown (k := 0) (o := (tp,x.parts.length,86)) rfl ?_; exact fun _ => rfl) (fun y hy => ?_) (by simp only [List.length_map,List.length_cons,List.length_nil]; omega) (fun u hu => ?_)⟩
      ·simp only [List.mem_map] at hy; obtain ⟨q,_,rfl⟩ := hy; rfl
      have hown2 := gsl_own hown (k := 0) (o := (tp,x.parts.length,86)) rfl hu (fun _ => rfl) (x.parts.length + 1)
      have hown3 : OwnOk s (rulL { x with parts := x.parts ++ [⟨y,[],l6,[],t.line,t.col⟩] } (some u) tn td) := by simpa only [rulL,List.length_append,List.length_cons,List.length_nil,List.set_cons_succ,List.set_cons_zero] using hown2
      simp only [go_sem,gsl_getO,hne,hne.symm,hb4,hb5]
      have hk5 := hk6 (j6) (some u) tn td (by omega) hjT6 rfl hm6 ⟨hown3,hb,hne,by simp only [List.length_append,List.length_cons,List.length_nil]; omega,by simp only; omega,by simp only; omega⟩
      refine DK.st hk5 (St.ge.trans (gsl_app hown (k := 0) (o := (tp,x.parts.length,86)) rfl hown2 (fun _ => rfl)) ?_)
      unfold rulS
      rw [show (rulL x tp tn td).set 0 (some u,x.parts.length + 1,(tp,x.parts.length,86).snd.snd) = rulL { x with parts := x.parts ++ [⟨y,[],l6,[],t.line,t.col⟩] } (some u) tn td by simp [rulL]]
      refine gsl_ge ?_
      simp only [rulO,gv_some,List.map_append,List.map_cons,List.map_nil,Part.encN,nv,Tm.cs,List.cons_append,List.nil_append,Tm.enc_eq]
      exact (by (refine gel_ge ?_; repeat (first | exact gel_refl _ _ _ | refine gsl_gel hfr ?_ | refine gel_gs_gs ?_ | refine gel_to_gs gs_self ?_ | (refine gel_to_gs ?_ ?_; focus (rintro _ ⟨⟩; simp only [getT_setO,St.getT_setL,St.getT_setT,St.getT_delT,gs_getT,reduceIte,List.length_append,List.length_cons,List.length_nil,List.length_map,Nat.zero_add,Nat.add_zero] <;> done)) | (refine gel_inT ?_ ?_; focus (simp only [Option.toList,List.cons_append,List.nil_append,List.mem_cons,true_or,or_true] <;> done)) | (refine gel_gs_in ?_ ?_; focus (simp; done)) | refine gel_set (by simp only [St.getO_setO,St.getO_setL,St.getO_setT,gs_getO,ne_eq,not_false_eq_true,reduceIte,gsl_getO,hne,hne.symm,hb4,hb5] <;> (first | done | rfl | assumption)) ?_ | (refine gel_in ?_ ?_; focus (simp only [List.mem_cons,true_or,or_true]; done)) | refine gel_new (by first | simp only [hb,hb4,hb5] | assumption) ?_)))
end
end Go.AV
end
section
namespace Go.AV
open Go Go.Proofs
set_option maxRecDepth 100000
set_option maxHeartbeats 8000000
section
variable {T : List Tok} {fin : Fault} {d : Dc} {first : Tok} {i n : Nat} {s : St} {r : Nat} {KV Kp : St → A → Prop}
theorem gv_leL (tk : Option Nat) {es fs : List A} (h : tk = none → es = []) (hl : lesL es fs) : A.le (gv tk es) (.list none fs) := by
 cases tk with
 | none =>
  rw [h rfl] at hl
  have : fs = [] := List.eq_nil_of_length_eq_zero (by rw [← lesL_len hl]; rfl)
  rw [this]; exact A.le.nil
 | some t => exact fun g v hv => (A.le.list hl) g v ((A.le.forget t es) g v hv)
theorem Part.encN_le (ps : List Part) : lesL (ps.map Part.encN) (ps.map Part.enc) := by
 induction ps with
 | nil => trivial
 | cons p ps ih =>
  refine ⟨?_,ih⟩
  simp only [Part.encN,Part.enc,Part.cs,A.cells,Tm.cs,List.cons_append,List.nil_append]
  exact ⟨⟨A.le.refl _,rfl⟩,⟨A.le.refl _,rfl⟩,⟨A.le.refl _,rfl⟩,⟨A.le.refl _,rfl⟩,⟨A.le.refl _,rfl⟩,⟨A.le.refl _,rfl⟩,⟨A.le.refl _,rfl⟩,⟨A.le.refl _,rfl⟩,⟨nv_le _,rfl⟩,⟨A.le.refl _,rfl⟩,⟨A.le.refl _,rfl⟩,trivial⟩
theorem rule_den (hT : TOk T) (t : Tok) (hr : s.getO r = some (psO T fin d first i n)) (hi : i ≤ T.length) (hn : n ≤ 2000)
  (hk : (ruleR false fin t.line t.col (T.drop i) n).to (PK T i (fun j m => s.setO r (psO T fin d first j m)) Rul.enc KV) (PB s r Kp)) : Den cx 154 [.ptr r 0,t.enc] KV Kp s := by
 have hlenT := hT.len
 simp only [ruleR,Rd.bind_to] at hk
 simp only [go_sem]
 refine Den.drop ?_; (refine Den.of_body (C := cx) Tryz.func154 rfl rfl (Nat.le_of_ble_eq_true rfl) ?_; refine wpC_ok (V := [0,1,3,4,5,6,7,8,19,42]) _ _ _ _ ?_; simp only [go_sem,Tryz.ntmps154,Tryz.f154])
 (intro b3 hb3; try simp only [getO_setO_none,gs_getO,ne_eq] at hb3); have e3 := St.ne_of hr (by first | exact hb3 | exact hb3.2 | exact hb3.2.2 | exact hb3.2.2.2 | exact hb3.2.2.2.2 | exact hb3.2.2.2.2.2 | exact hb3.2.2.2.2.2.2)
 simp only [go_sem,hb3,e3]
 (intro b4 hb4; try simp only [getO_setO_none,gs_getO,ne_eq] at hb4); have e4 := St.ne_of hr (by first | exact hb4 | exact hb4.2 | exact hb4.2.2 | exact hb4.2.2.2 | exact hb4.2.2.2.2 | exact hb4.2.2.2.2.2 | exact hb4.2.2.2.2.2.2)
 simp only [go_sem,hb3,e3,hb4,e4]
 (refine draw_ok (V := [0,1,3,4,5,6,7,8,19,42]) (OT.l [0,2,3,4,5,1,6,7,8] .nil) [(1,[3,5]),(7,[3,5])] mixed_cx (by decide +kernel) ?_; simp only [go_sem,hb3,e3,hb4,e4])
 (refine name_den (T := T) (fin := fin) (d := d) (first := first) (i := i) (n := n) (by simp only [St.getO_setO,St.getO_setL,St.getO_setT,gs_getO,ne_eq,not_false_eq_true,reduceIte,hb3,e3,hb4,e4] <;> (first | done | rfl | assumption)) hi hT (Rd.to_mono hk (fun x1 w1 m1 hk1 hlt1 hw1 hm1 => ?_) (fun f h => PB.mk (by (repeat (first | exact St.gx.refl _ _ | refine St.gx_r ?_ | refine St.gx_new (by first | simp only [hb3,hb4] | assumption) ?_ | refine St.gx_T (by first | simp only [hb3,hb4] | assumption) ?_))) h)); subst m1; rw [← hw1] at hk1)
 simp only [go_sem,hb3,e3,hb4,e4]
 (intro b5 hb5; try simp only [getO_setO_none,gs_getO,ne_eq] at hb5); have e5 := St.ne_of hr (by first | exact hb5 | exact hb5.2 | exact hb5.2.2 | exact hb5.2.2.2 | exact hb5.2.2.2.2 | exact hb5.2.2.2.2.2 | exact hb5.2.2.2.2.2.2)
 simp only [go_sem,hb3,e3,hb4,e4,hb5,e5]
 (refine want_den (T := T) (fin := fin) (d := d) (first := first) (i := i + 1) (n := n) _ (by simp only [St.getO_setO,St.getO_setL,St.getO_setT,gs_getO,ne_eq,not_false_eq_true,reduceIte,hb3,e3,hb4,e4,hb5,e5] <;> (first | done | rfl | assumption)) hlt1 hT (Rd.to_mono hk1 (fun _ w2 m2 hk2 hlt2 hw2 hm2 => ?_) (fun f h => PB.mk (by (repeat (first | exact St.gx.refl _ _ | refine St.gx_r ?_ | refine St.gx_new (by first | simp only [hb3,hb4,hb5] | assumption) ?_ | refine St.gx_T (by first | simp only [hb3,hb4,hb5] | assumption) ?_))) h)); subst m2; rw [← hw2] at hk2)
 simp only [go_sem,hb3,e3,hb4,e4,hb5,e5]
 rw [show (T.drop (i + 1 + 1)).length = T.length - (i + 1 + 1) by rw [List.length_drop]] at hk2
 have h5 : ((s.setO b3 (.cells 60 t.cs)).setO b4 (.cells 84 [.str [],.nils,.nils,.nils,.nils,.int .i64 0,.int .i64 0])).getO b5 = none := by
  rw [St.getO_setO,if_neg hb5.2.1.1,St.getO_setO,if_neg hb5.2.2.1.1]; exact hb5.2.2.2
 generalize hs2 : (s.setO b3 (.cells 60 t.cs)).setO b4 (.cells 84 [.str [],.nils,.nils,.nils,.nils,.int .i64 0,.int .i64 0]) = s2 at h5
 have hs2O : ∀ b o,s.getO b = some o → s2.getO b = some o := fun b o h => by
  subst hs2
  rw [St.getO_setO,if_neg (fun e => by subst e; rw [hb4.2] at h; cases h),St.getO_setO,if_neg (fun e => by subst e; rw [hb3] at h; cases h)]; exact h
 have hs2g : s2.ge s := ⟨hs2O,fun u m hm => by subst hs2; exact hm,fun x hx => by subst hs2; exact hx⟩
 have hg2 : ∀ s1 : St,s1.gx s2 r → s1.gx s r := fun s1 h => ⟨fun c hc x hx => h.ob c hc x (hs2O c x hx),fun u m hm => h.tk u m (by subst hs2; exact hm),fun x hx => h.ls x (by subst hs2; exact hx)⟩
 have h24 : s2.getO b4 = some (.cells 84 [.str [],.nils,.nils,.nils,.nils,.int .i64 0,.int .i64 0]) := by subst hs2; rw [St.getO_setO,if_pos rfl]
 have PBk : ∀ (s1 : St) (f : Fault),s1.gx s2 r → PB s r Kp f → PB s1 r (DK Kp) f := fun s1 f hg h o => h.at (St.gx_r (hg2 _ hg)) (by rw [St.getO_setO,if_pos rfl])
 refine Ex.loop (ι := (Rul × Option Nat × Option Nat × Option Nat) × Nat × Bool × Nat × Nat) (fun c => [(0,.ptr r 0),(3,.ptr b3 0),(4,.ptr b4 0),(5,.ptr b5 0),(6,.int .i64 c.2.1),(7,.bool c.2.2.1)])
  (fun c => rulS T fin d first b5 r s2 c.1.1 c.1.2.1 c.1.2.2.1 c.1.2.2.2 c.2.2.2.1 c.2.2.2.2)
  (fun c => RulQ b5 r s2 c.1.1 c.1.2.1 c.1.2.2.1 c.1.2.2.2 c.2.2.2.1 ∧ c.2.1 ≤ c.2.2.2.1 ∧ i + 1 + 1 ≤ c.2.2.2.1 ∧ c.2.2.2.1 ≤ T.length ∧ c.2.2.2.2 ≤ 2000 ∧
   (match c.2.2.1 with
    | true => ∃ k,T.length - c.2.2.2.1 < k ∧ (loopR fin [59] (partsR false fin) k (c.1.1,c.2.1) (T.drop c.2.2.2.1) c.2.2.2.2).to (fun a w n => (condsR false fin w n).to (fun l w n => PK T i (fun j m => s.setO r (psO T fin d first j m)) Rul.enc KV { a.1 with cond := l } w n) (PB s r Kp)) (PB s r Kp)
    | false => (condsR false fin (T.drop c.2.2.2.1) c.2.2.2.2).to (fun l w n => PK T i (fun j m => s.setO r (psO T fin d first j m)) Rul.enc KV { c.1.1 with cond := l } w n) (PB s r Kp)))
  (fun c => T.length - c.2.2.2.1) ((⟨x1,[],[],[],[],t.line,t.col⟩,none,none,none),0,true,i + 1 + 1,n) ?_ ?_ ?_ ?_
 ·refine ⟨⟨⟨?_,?_,?_⟩,h5,hb5.1.2,Nat.zero_le _,Nat.zero_le _,Nat.zero_le _⟩,Nat.zero_le _,Nat.le_refl _,hlt2,hn,_,Nat.lt_succ_self _,hk2⟩
  ·intro o ho u hu
   simp only [rulL,List.mem_cons,List.not_mem_nil,or_false] at ho
   rcases ho with rfl | rfl | rfl <;> cases hu
  ·intro o ho _
   simp only [rulL,List.mem_cons,List.not_mem_nil,or_false] at ho
   rcases ho with rfl | rfl | rfl <;> rfl
  ·intro i j a b u hi hj ha hb
   have := List.mem_of_getElem? hi
   simp only [rulL,List.mem_cons,List.not_mem_nil,or_false] at this
   rcases this with rfl | rfl | rfl <;> cases ha
 ·simp only [go_sem,hb3,e3,hb4,e4,hb5,e5]
  rfl
 ·show St.ge _ ((s2.setO b5 _).setO r _)
  subst hs2
  exact (by (refine gel_ge ?_; repeat (first | exact gel_refl _ _ _ | refine gel_gs_gs ?_ | refine gel_to_gs gs_self ?_ | (refine gel_to_gs ?_ ?_; focus (rintro _ ⟨⟩; simp only [getT_setO,St.getT_setL,St.getT_setT,St.getT_delT,gs_getT,reduceIte,List.length_append,List.length_cons,List.length_nil,List.length_map,Nat.zero_add,Nat.add_zero] <;> done)) | (refine gel_inT ?_ ?_; focus (simp only [Option.toList,List.cons_append,List.nil_append,List.mem_cons,true_or,or_true] <;> done)) | (refine gel_gs_in ?_ ?_; focus (simp; done)) | refine gel_set (by simp only [St.getO_setO,St.getO_setL,St.getO_setT,gs_getO,ne_eq,not_false_eq_true,reduceIte,hb3,e3,hb4,e4,hb5,e5] <;> (first | done | rfl | assumption)) ?_ | (refine gel_in ?_ ?_; focus (simp only [List.mem_cons,true_or,or_true]; done)) | refine gel_new (by first | simp only [hb3,hb4,hb5] | assumption) ?_)))
 ·rintro ⟨⟨x,tp,tn,td⟩,cnt,more,i2,n2⟩ ⟨hQ,hcnt,hi1,hi2,hn2,hk3⟩
  simp only at hQ hcnt hi1 hi2 hn2 hk3
  have hQ0 := hQ
  obtain ⟨hown,hb,hne,l1,l2,l3⟩ := hQ
  have hfr := hown.free
  have n45 := hb5.2.1.1
  have n54 := hb5.2.1.2
  refine wpC_ok (V := [0,1,3,4,5,6,7,8,19,42]) _ _ _ _ ?_
  cases more with
  | false =>
   simp only at hk3
   unfold rulS rulO
   simp only [go_sem,gsl_getO,hne,hne.symm,h24,e4,n45,n54]
   refine conds_den (T := T) (fin := fin) (d := d) (first := first) (i := i2) (n := n2) hT (by simp only [St.getO_setO,St.getO_setL,St.getO_setT,gs_getO,ne_eq,not_false_eq_true,reduceIte,gsl_getO,hne,hne.symm,h24,e4,n45,n54] <;> (first | done | rfl | assumption)) hi2 hn2 (Rd.to_mono hk3 (fun l w m hk4 j hj hjT hw hm => ?_) (fun f h => PBk _ _ (by (repeat (first | refine gsl_gx hfr ?_ | exact St.gx.refl _ _ | refine St.gx_r ?_ | refine St.gx_new (by first | simp only [hb,hb3,hb4,hb5] | assumption) ?_ | refine St.gx_T (by first | simp only [hb,hb3,hb4,hb5] | assumption) ?_))) h))
   simp only [go_sem,gsl_getO,hne,hne.symm,h24,e4,n45,n54]
   refine ⟨by cases tp <;> cases tn <;> cases td <;> rfl,?_⟩
   refine DK.mk (hk4 j (by omega) hjT hw hm) (gsl_weak (by (refine gel_ge ?_; repeat (first | exact gel_refl _ _ _ | exact gel_of_ge hs2g _ _ | refine gsl_gel hfr ?_ | refine gel_gs_gs ?_ | refine gel_to_gs gs_self ?_ | (refine gel_to_gs ?_ ?_; focus (rintro _ ⟨⟩; simp only [getT_setO,St.getT_setL,St.getT_setT,St.getT_delT,gs_getT,reduceIte,List.length_append,List.length_cons,List.length_nil,List.length_map,Nat.zero_add,Nat.add_zero] <;> done)) | (refine gel_inT ?_ ?_; focus (simp only [Option.toList,List.cons_append,List.nil_append,List.mem_cons,true_or,or_true] <;> done)) | (refine gel_gs_in ?_ ?_; focus (simp; done)) | refine gel_set (by simp only [St.getO_setO,St.getO_setL,St.getO_setT,gs_getO,ne_eq,not_false_eq_true,reduceIte,gsl_getO,hne,hne.symm,h24,e4,n45,n54] <;> (first | done | rfl | assumption)) ?_ | (refine gel_in ?_ ?_; focus (simp only [List.mem_cons,true_or,or_true]; done)) | refine gel_new (by first | simp only [hb,hb3,hb4,hb5] | assumption) ?_))) (fun o ho u hu => by have := hfr o ho u hu; subst hs2; exact this)) ?_
   simp only [Rul.enc,Rul.cs]
   have z1 : tp = none → x.parts = [] := fun e => List.eq_nil_of_length_eq_zero (hown.nil (tp,x.parts.length,86) (by simp [rulL]) e)
   have z2 : tn = none → x.new = [] := fun e => List.eq_nil_of_length_eq_zero (hown.nil (tn,x.new.length,141) (by simp [rulL]) e)
   have z3 : td = none → x.drop = [] := fun e => List.eq_nil_of_length_eq_zero (hown.nil (td,x.drop.length,9) (by simp [rulL]) e)
   exact A.le.agg ⟨⟨A.le.refl _,rfl⟩,⟨gv_leL tp (fun e => by rw [z1 e]; rfl) (Part.encN_le _),rfl⟩,⟨A.le.refl _,rfl⟩,⟨gv_le tn _ (fun e => by rw [z2 e]; rfl),rfl⟩,⟨gv_le td _ (fun e => by rw [z3 e]; rfl),rfl⟩,⟨A.le.refl _,rfl⟩,⟨A.le.refl _,rfl⟩,trivial⟩
  | true =>
   obtain ⟨k,hk3,hk4⟩ := hk3
   obtain ⟨k,rfl⟩ : ∃ k',k = k' + 1 := ⟨k - 1,by omega⟩
   rw [loopR,Rd.bind_to] at hk4
   simp only [go_sem,gsl_getO,hne,hne.symm,h24,e4,n45,n54]
   refine peek_den (T := T) (fin := fin) (d := d) (first := first) (i := i2) (n := n2) (by unfold rulS; rw [gsl_getO,St.getO_setO,if_pos rfl]) hi2 ?_
   cases hw : T.drop i2 with
   | nil =>
    rw [hw] at hk4
    exact hk4.at (hg2 (rulS T fin d first b5 r s2 x tp tn td i2 n2) (by unfold rulS; exact (by (repeat (first | refine gsl_gx hfr ?_ | exact St.gx.refl _ _ | refine St.gx_r ?_ | refine St.gx_new (by first | simp only [hb,hb3,hb4,hb5] | assumption) ?_ | refine St.gx_T (by first | simp only [hb,hb3,hb4,hb5] | assumption) ?_))))) (o := psO T fin d first i2 n2) (by unfold rulS; rw [gsl_getO,St.getO_setO,if_pos rfl])
   | cons t2 w =>
    obtain ⟨g1,g2,g3,g4⟩ := drop_get hw
    rw [hw] at hk4
    simp only [partsR] at hk4
    simp only [go_sem,gsl_getO,hne,hne.symm,h24,e4,n45,n54]
    intro b8 hb8
    have hpart : ((t2.kind = 1 ∧ (¬ t2.text ∈ reservedW ∨ t2.text = [110,101,119] ∨ t2.text = [100,114,111,112])) → ¬ 20 ≤ cnt) → (partR false fin x (T.drop i2) n2).to (fun x' w n => (if isT [59] w = true then loopR fin [59] (partsR false fin) k (x',cnt + 1) w.tail n else Rd.ok (x',cnt + 1) w n).to
      (fun a w n => (condsR false fin w n).to (fun l w n => PK T i (fun j m => s.setO r (psO T fin d first j m)) Rul.enc KV { a.1 with cond := l } w n) (PB s r Kp)) (PB s r Kp)) (PB s r Kp) := fun h => by
     rw [hw]
     rw [if_neg (fun hc => h hc.1 hc.2),Rd.bind_to] at hk4
     exact hk4
    simp only [go_sem,gsl_getO,hne,hne.symm,h24,e4,n45,n54]
    cases c1 : decide (t2.kind = 1)
    ·have hk5 := hpart (fun hc => by have := hc.1; simp [this] at c1)
     simp only [go_sem,gsl_getO,hne,hne.symm,h24,e4,n45,n54,c1]
     refine Den.weaken (St.ge_new hb8) ?_
     refine part_den hT b5 x tp tn td hQ0 hi2 hn2 (Rd.to_mono hk5 (fun x' w1 m1 hk6 j tp' tn' td' hj hjT hw1 hm1 hQ' => ?_) (fun f h s1 o hg hr1 => h.at (hg2 _ hg) hr1))
     subst hw1
     simp only [go_sem,gsl_getO,hne,hne.symm,h24,e4,n45,n54,wrap1 cnt (by omega)]
     refine take_den (T := T) (fin := fin) (d := d) (first := first) (i := j) (n := m1) _ (by unfold rulS; rw [gsl_getO,St.getO_setO,if_pos rfl]) hjT hT ?_
     cases c9 : isT [59] (T.drop j) with
     | true =>
      rw [if_pos c9,List.tail_drop] at hk6
      have hlt9 := isT_lt c9
      simp only [go_sem,gsl_getO,hne,hne.symm,h24,e4,n45,n54]
      refine ⟨((x',tp',tn',td'),cnt + 1,true,j + 1,m1),⟨⟨hQ'.own,hQ'.hb,hQ'.ne,by have := hQ'.l1; simp only; omega,by have := hQ'.l2; simp only; omega,by have := hQ'.l3; simp only; omega⟩,by simp only; omega,by simp only; omega,hlt9,hm1,k,by simp only; omega,hk6⟩,by simp only; omega,?_⟩
      refine ⟨⟨rfl,rfl⟩,?_⟩
      unfold rulS
      rw [gsl_setO,setO_setO]
      exact St.ge.refl _
     | false =>
      rw [if_neg (by simp [c9]),Rd.ok_to] at hk6
      simp only [go_sem,gsl_getO,hne,hne.symm,h24,e4,n45,n54]
      refine ⟨((x',tp',tn',td'),cnt + 1,false,j,m1),⟨hQ',by simp only; omega,by simp only; omega,hjT,hm1,hk6⟩,by simp only; omega,?_⟩
      exact ⟨⟨rfl,rfl⟩,St.ge.refl _⟩
    simp only [go_sem,gsl_getO,hne,hne.symm,h24,e4,n45,n54,c1]
    refine isReserved145_den _ _ _ _ ?_
    simp only [go_sem,gsl_getO,hne,hne.symm,h24,e4,n45,n54]
    cases c2 : decide (t2.text ∈ reservedW)
    ·simp only [go_sem,gsl_getO,hne,hne.symm,h24,e4,n45,n54,c2]
     refine Den.weaken (St.ge_new hb8) ?_
     refine room_den (T := T) (fin := fin) (d := d) (first := first) (i := i2) (n := n2) _ _ (by unfold rulS; rw [gsl_getO,St.getO_setO,if_pos rfl]) hi2 ?_
     by_cases h20 : 20 ≤ cnt
     ·rw [if_pos ⟨⟨by simpa using c1,.inl (by simpa using c2)⟩,h20⟩,Rd.bad_to] at hk4
      rw [if_pos (by omega),hw]
      exact PBk _ _ (by unfold rulS; exact (by (repeat (first | refine gsl_gx hfr ?_ | exact St.gx.refl _ _ | refine St.gx_r ?_ | refine St.gx_new (by first | simp only [hb,hb3,hb4,hb5] | assumption) ?_ | refine St.gx_T (by first | simp only [hb,hb3,hb4,hb5] | assumption) ?_)))) hk4
     rw [if_neg (by omega)]
     have hk5 := hpart (fun _ => h20)
     simp only [go_sem,gsl_getO,hne,hne.symm,h24,e4,n45,n54]
     refine part_den hT b5 x tp tn td hQ0 hi2 hn2 (Rd.to_mono hk5 (fun x' w1 m1 hk6 j tp' tn' td' hj hjT hw1 hm1 hQ' => ?_) (fun f h s1 o hg hr1 => h.at (hg2 _ hg) hr1))
     subst hw1
     simp only [go_sem,gsl_getO,hne,hne.symm,h24,e4,n45,n54,wrap1 cnt (by omega)]
     refine take_den (T := T) (fin := fin) (d := d) (first := first) (i := j) (n := m1) _ (by unfold rulS; rw [gsl_getO,St.getO_setO,if_pos rfl]) hjT hT ?_
     cases c9 : isT [59] (T.drop j) with
     | true =>
      rw [if_pos c9,List.tail_drop] at hk6
      have hlt9 := isT_lt c9
      simp only [go_sem,gsl_getO,hne,hne.symm,h24,e4,n45,n54]
      refine ⟨((x',tp',tn',td'),cnt + 1,true,j + 1,m1),⟨⟨hQ'.own,hQ'.hb,hQ'.ne,by have := hQ'.l1; simp only; omega,by have := hQ'.l2; simp only; omega,by have := hQ'.l3; simp only; omega⟩,by simp only; omega,by simp only; omega,hlt9,hm1,k,by simp only; omega,hk6⟩,by simp only; omega,?_⟩
      refine ⟨⟨rfl,rfl⟩,?_⟩
      unfold rulS
      rw [gsl_setO,setO_setO]
      exact St.ge.refl _
     | false =>
      rw [if_neg (by simp [c9]),Rd.ok_to] at hk6
      simp only [go_sem,gsl_getO,hne,hne.symm,h24,e4,n45,n54]
      refine ⟨((x',tp',tn',td'),cnt + 1,false,j,m1),⟨hQ',by simp only; omega,by simp only; omega,hjT,hm1,hk6⟩,by simp only; omega,?_⟩
      exact ⟨⟨rfl,rfl⟩,St.ge.refl _⟩
    simp only [go_sem,gsl_getO,hne,hne.symm,h24,e4,n45,n54,c2]
    cases c3 : decide (t2.text = [110,101,119])
    rotate_left
    ·simp only [go_sem,gsl_getO,hne,hne.symm,h24,e4,n45,n54,c3]
     refine Den.weaken (St.ge_new hb8) ?_
     refine room_den (T := T) (fin := fin) (d := d) (first := first) (i := i2) (n := n2) _ _ (by unfold rulS; rw [gsl_getO,St.getO_setO,if_pos rfl]) hi2 ?_
     by_cases h20 : 20 ≤ cnt
     ·rw [if_pos ⟨⟨by simpa using c1,.inr (.inl (by simpa using c3))⟩,h20⟩,Rd.bad_to] at hk4
      rw [if_pos (by omega),hw]
      exact PBk _ _ (by unfold rulS; exact (by (repeat (first | refine gsl_gx hfr ?_ | exact St.gx.refl _ _ | refine St.gx_r ?_ | refine St.gx_new (by first | simp only [hb,hb3,hb4,hb5] | assumption) ?_ | refine St.gx_T (by first | simp only [hb,hb3,hb4,hb5] | assumption) ?_)))) hk4
     rw [if_neg (by omega)]
     have hk5 := hpart (fun _ => h20)
     simp only [go_sem,gsl_getO,hne,hne.symm,h24,e4,n45,n54]
     refine part_den hT b5 x tp tn td hQ0 hi2 hn2 (Rd.to_mono hk5 (fun x' w1 m1 hk6 j tp' tn' td' hj hjT hw1 hm1 hQ' => ?_) (fun f h s1 o hg hr1 => h.at (hg2 _ hg) hr1))
     subst hw1
     simp only [go_sem,gsl_getO,hne,hne.symm,h24,e4,n45,n54,wrap1 cnt (by omega)]
     refine take_den (T := T) (fin := fin) (d := d) (first := first) (i := j) (n := m1) _ (by unfold rulS; rw [gsl_getO,St.getO_setO,if_pos rfl]) hjT hT ?_
     cases c9 : isT [59] (T.drop j) with
     | true =>
      rw [if_pos c9,List.tail_drop] at hk6
      have hlt9 := isT_lt c9
      simp only [go_sem,gsl_getO,hne,hne.symm,h24,e4,n45,n54]
      refine ⟨((x',tp',tn',td'),cnt + 1,true,j + 1,m1),⟨⟨hQ'.own,hQ'.hb,hQ'.ne,by have := hQ'.l1; simp only; omega,by have := hQ'.l2; simp only; omega,by have := hQ'.l3; simp only; omega⟩,by simp only; omega,by simp only; omega,hlt9,hm1,k,by simp only; omega,hk6⟩,by simp only; omega,?_⟩
      refine ⟨⟨rfl,rfl⟩,?_⟩
      unfold rulS
      rw [gsl_setO,setO_setO]
      exact St.ge.refl _
     | false =>
      rw [if_neg (by simp [c9]),Rd.ok_to] at hk6
      simp only [go_sem,gsl_getO,hne,hne.symm,h24,e4,n45,n54]
      refine ⟨((x',tp',tn',td'),cnt + 1,false,j,m1),⟨hQ',by simp only; omega,by simp only; omega,hjT,hm1,hk6⟩,by simp only; omega,?_⟩
      exact ⟨⟨rfl,rfl⟩,St.ge.refl _⟩
    simp only [go_sem,gsl_getO,hne,hne.symm,h24,e4,n45,n54,c3]
    cases c4 : decide (t2.text = [100,114,111,112])
    rotate_left
    ·simp only [go_sem,gsl_getO,hne,hne.symm,h24,e4,n45,n54,c4]
     refine Den.weaken (St.ge_new hb8) ?_
     refine room_den (T := T) (fin := fin) (d := d) (first := first) (i := i2) (n := n2) _ _ (by unfold rulS; rw [gsl_getO,St.getO_setO,if_pos rfl]) hi2 ?_
     by_cases h20 : 20 ≤ cnt
     ·rw [if_pos ⟨⟨by simpa using c1,.inr (.inr (by simpa using c4))⟩,h20⟩,Rd.bad_to] at hk4
      rw [if_pos (by omega),hw]
      exact PBk _ _ (by unfold rulS; exact (by (repeat (first | refine gsl_gx hfr ?_ | exact St.gx.refl _ _ | refine St.gx_r ?_ | refine St.gx_new (by first | simp only [hb,hb3,hb4,hb5] | assumption) ?_ | refine St.gx_T (by first | simp only [hb,hb3,hb4,hb5] | assumption) ?_)))) hk4
     rw [if_neg (by omega)]
     have hk5 := hpart (fun _ => h20)
     simp only [go_sem,gsl_getO,hne,hne.symm,h24,e4,n45,n54]
     refine part_den hT b5 x tp tn td hQ0 hi2 hn2 (Rd.to_mono hk5 (fun x' w1 m1 hk6 j tp' tn' td' hj hjT hw1 hm1 hQ' => ?_) (fun f h s1 o hg hr1 => h.at (hg2 _ hg) hr1))
     subst hw1
     simp only [go_sem,gsl_getO,hne,hne.symm,h24,e4,n45,n54,wrap1 cnt (by omega)]
     refine take_den (T := T) (fin := fin) (d := d) (first := first) (i := j) (n := m1) _ (by unfold rulS; rw [gsl_getO,St.getO_setO,if_pos rfl]) hjT hT ?_
     cases c9 : isT [59] (T.drop j) with
     | true =>
      rw [if_pos c9,List.tail_drop] at hk6
      have hlt9 := isT_lt c9
      simp only [go_sem,gsl_getO,hne,hne.symm,h24,e4,n45,n54]
      refine ⟨((x',tp',tn',td'),cnt + 1,true,j + 1,m1),⟨⟨hQ'.own,hQ'.hb,hQ'.ne,by have := hQ'.l1; simp only; omega,by have := hQ'.l2; simp only; omega,by have := hQ'.l3; simp only; omega⟩,by simp only; omega,by simp only; omega,hlt9,hm1,k,by simp only; omega,hk6⟩,by simp only; omega,?_⟩
      refine ⟨⟨rfl,rfl⟩,?_⟩
      unfold rulS
      rw [gsl_setO,setO_setO]
      exact St.ge.refl _
     | false =>
      rw [if_neg (by simp [c9]),Rd.ok_to] at hk6
      simp only [go_sem,gsl_getO,hne,hne.symm,h24,e4,n45,n54]
      refine ⟨((x',tp',tn',td'),cnt + 1,false,j,m1),⟨hQ',by simp only; omega,by simp only; omega,hjT,hm1,hk6⟩,by simp only; omega,?_⟩
      exact ⟨⟨rfl,rfl⟩,St.ge.refl _⟩
    simp only [go_sem,gsl_getO,hne,hne.symm,h24,e4,n45,n54,c4]
    have hk5 := hpart (fun hc => by have h1 := hc.2; simp at c2 c3 c4; rcases h1 with h1 | h1 | h1; exact (h1 c2).elim; exact (c3 h1).elim; exact (c4 h1).elim)
    refine Den.weaken (St.ge_new hb8) ?_
    refine part_den hT b5 x tp tn td hQ0 hi2 hn2 (Rd.to_mono hk5 (fun x' w1 m1 hk6 j tp' tn' td' hj hjT hw1 hm1 hQ' => ?_) (fun f h s1 o hg hr1 => h.at (hg2 _ hg) hr1))
    subst hw1
    simp only [go_sem,gsl_getO,hne,hne.symm,h24,e4,n45,n54,wrap1 cnt (by omega)]
    refine take_den (T := T) (fin := fin) (d := d) (first := first) (i := j) (n := m1) _ (by unfold rulS; rw [gsl_getO,St.getO_setO,if_pos rfl]) hjT hT ?_
    cases c9 : isT [59] (T.drop j) with
    | true =>
     rw [if_pos c9,List.tail_drop] at hk6
     have hlt9 := isT_lt c9
     simp only [go_sem,gsl_getO,hne,hne.symm,h24,e4,n45,n54]
     refine ⟨((x',tp',tn',td'),cnt + 1,true,j + 1,m1),⟨⟨hQ'.own,hQ'.hb,hQ'.ne,by have := hQ'.l1; simp only; omega,by have := hQ'.l2; simp only; omega,by have := hQ'.l3; simp only; omega⟩,by simp only; omega,by simp only; omega,hlt9,hm1,k,by simp only; omega,hk6⟩,by simp only; omega,?_⟩
     refine ⟨⟨rfl,rfl⟩,?_⟩
     unfold rulS
     rw [gsl_setO,setO_setO]
     exact St.ge.refl _
    | false =>
     rw [if_neg (by simp [c9]),Rd.ok_to] at hk6
     simp only [go_sem,gsl_getO,hne,hne.symm,h24,e4,n45,n54]
     refine ⟨((x',tp',tn',td'),cnt + 1,false,j,m1),⟨hQ',by simp only; omega,by simp only; omega,hjT,hm1,hk6⟩,by simp only; omega,?_⟩
     exact ⟨⟨rfl,rfl⟩,St.ge.refl _⟩
end
end Go.AV
end
