/-
  DefStops: for all strings s and more the call returns true; the arguments read as before, memory that was there is as it was (where the listed package-level variables hold what the text of the program lays).
-/
import Derived.Test.YtamikhobdffnfaaGreatDoorSt30
import Derived.Test.YtamikhobdffnfaaGreatDoorSt31
import Derived.Test.YtamikhobdffnfaaGreatDoorSt32
import Derived.Test.YtamikhobdffnfaaGreatDoorSt33
import Derived.Test.YtamikhobdffnfaaGreatDoorSt34
import Derived.Test.YtamikhobdffnfaaGreatDoorSt35
import Derived.Test.YtamikhobdffnfaaGreatDoorSt13
import Derived.Test.YtamikhobdffnfaaGreatDoorSt14
import Derived.ChangeMaps5
set_option linter.all false
set_option maxRecDepth 1000000
set_option maxHeartbeats 40000000
section
namespace Go.AV
open Go Go.Proofs
def eqZL (f : A → A → Bool) : List A → List A → Bool
 | [],[] => true
 | a :: l,b :: r => match f a b with
  | true => eqZL f l r
  | false => false
 | _,_ => false
def eqZ : Nat → A → A → Bool
 | 0,_,_ => false
 | n + 1,a,b => match a with
  | .int k x => match b with
   | .int j y => decide (k = j) && decide (x = y)
   | _ => false
  | .str x => match b with
   | .str y => decide (x = y)
   | _ => false
  | .nils => match b with
   | .nils => true
   | _ => false
  | .agg l => match b with
   | .agg r => eqZL (eqZ n) l r
   | _ => false
  | .list none l => match b with
   | .list none r => eqZL (eqZ n) l r
   | _ => false
  | _ => false
theorem eqZL_ok {f : A → A → Bool} (hf : ∀ a b,f a b = true → a = b) : ∀ {l r : List A},eqZL f l r = true → l = r
 | [],[],_ => rfl
 | a :: l,b :: r,h => by
  simp only [eqZL] at h;split at h
  ·rename_i e; rw [hf a b e,eqZL_ok hf h]
  ·cases h
 | [],_ :: _,h => by cases h
 | _ :: _,[],h => by cases h
theorem eqZ_ok : ∀ (n : Nat) (a b : A),eqZ n a b = true → a = b
 | 0,_,_,h => by cases h
 | n + 1,a,b,h => by
  have ih := eqZ_ok n;unfold eqZ at h;split at h <;> (try (cases h; done)) <;> split at h <;> (try (cases h; done))
  ·simp only [Bool.and_eq_true,decide_eq_true_eq] at h; rw [h.1,h.2]
  ·rw [of_decide_eq_true h]
  ·rfl
  ·rw [eqZL_ok ih h]
  ·rw [eqZL_ok ih h]
theorem frzL_lq {xs : List A} (hx : frzL (frz 60) xs = some xs) : ∀ x,x ∈ xs → x.lp x := fun x hx' => by
 obtain ⟨j,hj,rfl⟩ := List.getElem_of_mem hx';obtain ⟨y,h1,h2⟩ := (frzL_get hx).2 j xs[j] (List.getElem?_eq_getElem hj);rw [List.getElem?_eq_getElem hj] at h1;cases h1;exact frz_ok 60 _ _ h2
def extK (xs : List A) (r : A) (k : CR) (l : List A) (σ : XS) : CR := match eqZL (eqZ 60) l xs with
 | true => .val r σ
 | false => k
theorem extK_ok {f : FuncId} {xs : List A} {r : A} {k : CR} (hx : frzL (frz 60) xs = some xs) (hr : frz 60 r = some r) (h : ∀ (s : St) (KV Kp : St → A → Prop),KV s r → Den cx f xs KV Kp s)
  {l : List A} {σ : XS} {s : St} {KV Kp : St → A → Prop} (hs : Sim s σ) (hk : k.to KV Kp → Den cxd f l KV Kp s) (hh : (extK xs r k l σ).to KV Kp) : Den cxd f l KV Kp s := by
 unfold extK at hh;split at hh
 ·rename_i e;have e' := eqZL_ok (eqZ_ok 60) e;subst e';exact to_cxd (frzL_lq hx) (frz_ok 60 _ _ hr) (fun KV Kp s hk => h s KV Kp hk) (hh s hs)
 ·exact hk hh
def awS2 : Str := [108,97,110,103,117,97,103,101,32,101,46,32,115,111,114,116]
def awS3 : Str := [108,97,110,103,117,97,103,101,32,101,46,10,115,111,114,116,32,65,32,66,46]
def awS4 : Str := [102,40,88,58,73,110,116,44,32,91,45,49,32,124,32,76,93,41]
def awS5 : Str := [45,32,53]
def awS6 : Str := [108,97,110,103,117,97,103,101,32,101,46,32,115,116,97,114,116,32,65,46,32,115,116,97,114,116,32,66,46]
def ans15 (l : List A) (σ : XS) : CR := extK [.str awS] (.tuple [awD.enc,Fault.enc ⟨0,[],0,0⟩]) (extK [.str awS2] (.tuple [noDfn.enc,Fault.enc ⟨12,[],1,17⟩]) (extK [.str awS3] (.tuple [noDfn.enc,Fault.enc ⟨11,[66],2,8⟩])
 (extK [.str awS6] (.tuple [noDfn.enc,Fault.enc ⟨14,[115,116,97,114,116],1,22⟩]) .bad l σ) l σ) l σ) l σ
def ans18 (l : List A) (σ : XS) : CR := extK [.str awS4] (.tuple [awT.enc,Fault.enc ⟨0,[],0,0⟩]) (extK [.str awS5] (.tuple [noTm.enc,Fault.enc ⟨11,[53],1,3⟩]) .bad l σ) l σ
def ans23 (l : List A) (σ : XS) : CR := extK [awD.enc] (.tuple [.str awOut,.int .i64 0]) .bad l σ
def ans25 (l : List A) (σ : XS) : CR := extK [awD.enc] (.bool true) .bad l σ
def ans27 (l : List A) (σ : XS) : CR := extK [awD.enc,.str [97],.str [98]] (.tuple [.agg awR,.int .i64 0]) (extK [awD.enc,.str [73,110,116],.str [98]] (.tuple [.agg awZ,.int .i64 2]) .bad l σ) l σ
def ans30 (l : List A) (σ : XS) : CR := extK [awD.enc,awD.enc] (.bool true) (extK [awD.enc,.agg awR] (.bool false) .bad l σ) l σ
def extA (f : FuncId) : Option (List A → XS → CR) := match Nat.beq f 15 with
 | true => some ans15
 | false => match Nat.beq f 18 with
  | true => some ans18
  | false => match Nat.beq f 23 with
   | true => some ans23
   | false => match Nat.beq f 25 with
    | true => some ans25
    | false => match Nat.beq f 27 with
     | true => some ans27
     | false => match Nat.beq f 30 with
      | true => some ans30
      | false => extC f
theorem parseK {x : Str} {d : Dfn} {g : Fault} (h : parseS x = (d,g)) (hx : x.length ≤ 4294967280) (s : St) (KV Kp : St → A → Prop) (hk : KV s (.tuple [d.enc,g.enc])) : Den cx 15 [.str x] KV Kp s :=
 parse_den x hx (by rw [h]; exact hk)
theorem termK {x : Str} {d : Tm} {g : Fault} (h : termS x = (d,g)) (hx : x.length ≤ 4294967280) (s : St) (KV Kp : St → A → Prop) (hk : KV s (.tuple [d.enc,g.enc])) : Den cx 18 [.str x] KV Kp s :=
 tterm_den x hx (by rw [h]; exact hk)
theorem extA_ok : extOk cxd extA := by
 intro f h hf l σ s KV Kp hs hh;have bad : (CR.bad).to KV Kp → Den cxd f l KV Kp s := fun h => h.elim
 unfold extA at hf;split at hf
 ·rename_i e;obtain rfl := Nat.eq_of_beq_eq_true e;cases hf
  exact extK_ok (by kernel_rfl) (by kernel_rfl) (parseK aw_1 (by decide)) hs (extK_ok (by kernel_rfl) (by kernel_rfl) (parseK aw_2 (by decide)) hs (extK_ok (by kernel_rfl) (by kernel_rfl) (parseK aw_3 (by decide)) hs
   (extK_ok (by kernel_rfl) (by kernel_rfl) (parseK aw_6 (by decide)) hs bad))) hh
 split at hf
 ·rename_i e;obtain rfl := Nat.eq_of_beq_eq_true e;cases hf;exact extK_ok (by kernel_rfl) (by kernel_rfl) (termK aw_4 (by decide)) hs (extK_ok (by kernel_rfl) (by kernel_rfl) (termK aw_5 (by decide)) hs bad) hh
 split at hf
 ·rename_i e;obtain rfl := Nat.eq_of_beq_eq_true e;cases hf;exact extK_ok (by kernel_rfl) (by kernel_rfl) aw23 hs bad hh
 split at hf
 ·rename_i e;obtain rfl := Nat.eq_of_beq_eq_true e;cases hf;exact extK_ok (by kernel_rfl) (by kernel_rfl) aw25 hs bad hh
 split at hf
 ·rename_i e;obtain rfl := Nat.eq_of_beq_eq_true e;cases hf;exact extK_ok (by kernel_rfl) (by kernel_rfl) aw27 hs (extK_ok (by kernel_rfl) (by kernel_rfl) aw27z hs bad) hh
 split at hf
 ·rename_i e;obtain rfl := Nat.eq_of_beq_eq_true e;cases hf;exact extK_ok (by kernel_rfl) (by kernel_rfl) aw30 hs (extK_ok (by kernel_rfl) (by kernel_rfl) aw30r hs bad) hh
 exact extC_ok f h hf l σ s KV Kp hs hh
theorem awake_den (s : St) (KV Kp : St → A → Prop) (hk : KV s (.bool true)) : Den cx 14 [] KV Kp s := by
 have hX : (xpS extA).ok { cx with det := true } := xpS_ok extA_ok;exact Den.run (X := xpS extA) (fuel := 1000000) true hX glS_lp rfl (by kernel_rfl) hk
end Go.AV
end
section
namespace Go.AV
open Go Go.Proofs
section
variable {s : St} {KV Kp : St → A → Prop}
theorem ge_newO2 {s s' : St} {b : Nat} {o : Ob} (hb : s.getO b = none) (h : s'.ge s) : (s'.setO b o).ge s := by
 refine ⟨fun c x hc => ?_,fun u m hm => h.tk u m hm,fun x hx => h.ls x hx⟩;rw [gA1];split
 ·rename_i e; subst e; rw [hb] at hc; cases hc
 ·exact h.ob c x hc
theorem long13_den (x : Str) (hk : KV s (.bool (decide (3000 < x.length)))) : Den cx 13 [.str x] KV Kp s := by
 have d0 : decide ((3000 : Int) < ((x.length : Nat) : Int)) = decide (3000 < x.length) := by congr 1; apply propext; omega
 refine Den.drop ?_; (refine Den.of_body (C := cx) Tryz.func13 rfl rfl (Nat.le_of_ble_eq_true rfl) ?_; refine wpC_ok (V := [0,2]) _ _ _ _ ?_; simp only [go_sem,Tryz.ntmps13,Tryz.f13]);simp only [go_sem,d0];exact DK.here hk
theorem stops_den (x y : Str) (hk : KV s (.bool true)) : Den cx 11 [.str x,.str y] KV Kp s := by
 refine Den.drop ?_; (refine Den.of_body (C := cx) Tryz.func11 rfl rfl (Nat.le_of_ble_eq_true rfl) ?_; refine wpC_ok (V := [0,1,4,6,8,10,16,50]) _ _ _ _ ?_; simp only [go_sem,Tryz.ntmps11,Tryz.f11]);refine long13_den x ?_;simp only [go_sem];by_cases hx : 3000 < x.length
 ·have d1 : decide (3000 < x.length) = true := decide_eq_true hx;simp only [go_sem,d1];refine awake_den _ _ _ ?_;simp only [go_sem];exact DK.here hk
 have d1 : decide (3000 < x.length) = false := decide_eq_false hx;simp only [go_sem,d1];refine long13_den y ?_;simp only [go_sem];by_cases hy : 3000 < y.length
 ·have d2 : decide (3000 < y.length) = true := decide_eq_true hy;simp only [go_sem,d2];refine awake_den _ _ _ ?_;simp only [go_sem];exact DK.here hk
 have d2 : decide (3000 < y.length) = false := decide_eq_false hy;simp only [go_sem,d2];refine parse_den x (by omega) ?_;have hst := parse_stays x y (by omega) (by omega);generalize (parseS x).1 = D1 at *;generalize (parseS x).2 = F at *;simp only [go_sem];(intro b1 hb1; try simp only [gA5,gA6,getO_setO_none,ne_eq] at hb1);simp only [go_sem,hb1];(intro b2 hb2; try simp only [gA5,gA6,getO_setO_none,ne_eq] at hb2);simp only [go_sem,hb1,hb2];refine def31_den y (by omega) ?_;unfold Lx.ref;rw [if_neg (by omega)];cases hly : lexS signsW true y with
 | ok T2 =>
  simp only [Lx.out];simp only [go_sem,hb1,hb2];(intro b3 hb3; try simp only [gA5,gA6,getO_setO_none,ne_eq] at hb3);simp only [go_sem,hb1,hb2,hb3];cases c0 : decide (F.code = 0) with
  | true =>
   simp only [go_sem,hb1,hb2,hb3,c0];refine awake_den _ _ _ ?_;simp only [go_sem,hb1,hb2,hb3];refine DK.st hk ?_
   iterate 12 (try refine ge_newO2 (by simp only [hb1,hb2,hb3]) ?_)
   exact St.ge.refl s
  | false =>
   cases c12 : decide (F.code = 12) with
   | true =>
    simp only [go_sem,hb1,hb2,hb3,c0,c12];refine awake_den _ _ _ ?_;simp only [go_sem,hb1,hb2,hb3];refine DK.st hk ?_
    iterate 12 (try refine ge_newO2 (by simp only [hb1,hb2,hb3]) ?_)
    exact St.ge.refl s
   | false =>
    cases c3 : decide (F.code = 3) with
    | true =>
     simp only [go_sem,hb1,hb2,hb3,c0,c12,c3];refine awake_den _ _ _ ?_;simp only [go_sem,hb1,hb2,hb3];refine DK.st hk ?_
     iterate 12 (try refine ge_newO2 (by simp only [hb1,hb2,hb3]) ?_)
     exact St.ge.refl s
    | false =>
     have gn : decide (Fault.none.code = 0) = true := rfl;have key := hst (of_decide_eq_false c0) (of_decide_eq_false c12) (of_decide_eq_false c3) (fun _ => ⟨T2,hly⟩);cases c10 : decide (F.code = 10) with
     | true =>
      simp only [go_sem,hb1,hb2,hb3,c0,c12,c3,c10,gn];refine ⟨by unfold maxLen; omega,by rw [List.length_append]; simp only [List.length_cons,List.length_nil]; unfold maxLen; omega,?_⟩;refine parse_den (x ++ [10] ++ y) (by simp only [List.length_append,List.length_cons,List.length_nil]; omega) ?_;rw [show x ++ [10] ++ y = x ++ 10 :: y by simp,key];generalize (parseS (x ++ 10 :: y)).1 = D2;simp only [go_sem,hb1,hb2,hb3];(intro b4 hb4; try simp only [gA5,gA6,getO_setO_none,ne_eq] at hb4);simp only [go_sem,hb1,hb2,hb3,hb4];(intro b5 hb5; try simp only [gA5,gA6,getO_setO_none,ne_eq] at hb5);simp only [go_sem,hb1,hb2,hb3,hb4,hb5];simp only [go_sem,hb1,hb2,hb3,hb4,hb5,List.lookup_cons_self,eq_self,decide_true];refine awake_den _ _ _ ?_;simp only [go_sem,hb1,hb2,hb3,hb4,hb5];refine DK.st hk ?_
      iterate 12 (try refine ge_newO2 (by simp only [hb1,hb2,hb3,hb4,hb5]) ?_)
      exact St.ge.refl s
     | false =>
      simp only [go_sem,hb1,hb2,hb3,c0,c12,c3,c10,gn];refine ⟨by unfold maxLen; omega,by rw [List.length_append]; simp only [List.length_cons,List.length_nil]; unfold maxLen; omega,?_⟩;refine parse_den (x ++ [10] ++ y) (by simp only [List.length_append,List.length_cons,List.length_nil]; omega) ?_;rw [show x ++ [10] ++ y = x ++ 10 :: y by simp,key];generalize (parseS (x ++ 10 :: y)).1 = D2;simp only [go_sem,hb1,hb2,hb3];(intro b4 hb4; try simp only [gA5,gA6,getO_setO_none,ne_eq] at hb4);simp only [go_sem,hb1,hb2,hb3,hb4];(intro b5 hb5; try simp only [gA5,gA6,getO_setO_none,ne_eq] at hb5);simp only [go_sem,hb1,hb2,hb3,hb4,hb5];simp only [go_sem,hb1,hb2,hb3,hb4,hb5,List.lookup_cons_self,eq_self,decide_true];refine awake_den _ _ _ ?_;simp only [go_sem,hb1,hb2,hb3,hb4,hb5];refine DK.st hk ?_
      iterate 12 (try refine ge_newO2 (by simp only [hb1,hb2,hb3,hb4,hb5]) ?_)
      exact St.ge.refl s
 | bad g =>
  simp only [Lx.out];simp only [go_sem,hb1,hb2];(intro b3 hb3; try simp only [gA5,gA6,getO_setO_none,ne_eq] at hb3);simp only [go_sem,hb1,hb2,hb3];cases c0 : decide (F.code = 0) with
  | true =>
   simp only [go_sem,hb1,hb2,hb3,c0];refine awake_den _ _ _ ?_;simp only [go_sem,hb1,hb2,hb3];refine DK.st hk ?_
   iterate 12 (try refine ge_newO2 (by simp only [hb1,hb2,hb3]) ?_)
   exact St.ge.refl s
  | false =>
   cases c12 : decide (F.code = 12) with
   | true =>
    simp only [go_sem,hb1,hb2,hb3,c0,c12];refine awake_den _ _ _ ?_;simp only [go_sem,hb1,hb2,hb3];refine DK.st hk ?_
    iterate 12 (try refine ge_newO2 (by simp only [hb1,hb2,hb3]) ?_)
    exact St.ge.refl s
   | false =>
    cases c3 : decide (F.code = 3) with
    | true =>
     simp only [go_sem,hb1,hb2,hb3,c0,c12,c3];refine awake_den _ _ _ ?_;simp only [go_sem,hb1,hb2,hb3];refine DK.st hk ?_
     iterate 12 (try refine ge_newO2 (by simp only [hb1,hb2,hb3]) ?_)
     exact St.ge.refl s
    | false =>
     have g10 := lexS_bad hly;have gn : decide (g.code = 0) = false := decide_eq_false (by omega);cases c10 : decide (F.code = 10) with
     | true =>
      have key := hst (of_decide_eq_false c0) (of_decide_eq_false c12) (of_decide_eq_false c3) (fun h => absurd (of_decide_eq_true c10) h);simp only [go_sem,hb1,hb2,hb3,c0,c12,c3,c10,gn];refine ⟨by unfold maxLen; omega,by rw [List.length_append]; simp only [List.length_cons,List.length_nil]; unfold maxLen; omega,?_⟩;refine parse_den (x ++ [10] ++ y) (by simp only [List.length_append,List.length_cons,List.length_nil]; omega) ?_;rw [show x ++ [10] ++ y = x ++ 10 :: y by simp,key];generalize (parseS (x ++ 10 :: y)).1 = D2;simp only [go_sem,hb1,hb2,hb3];(intro b4 hb4; try simp only [gA5,gA6,getO_setO_none,ne_eq] at hb4);simp only [go_sem,hb1,hb2,hb3,hb4];(intro b5 hb5; try simp only [gA5,gA6,getO_setO_none,ne_eq] at hb5);simp only [go_sem,hb1,hb2,hb3,hb4,hb5];simp only [go_sem,hb1,hb2,hb3,hb4,hb5,List.lookup_cons_self,eq_self,decide_true];refine awake_den _ _ _ ?_;simp only [go_sem,hb1,hb2,hb3,hb4,hb5];refine DK.st hk ?_
      iterate 12 (try refine ge_newO2 (by simp only [hb1,hb2,hb3,hb4,hb5]) ?_)
      exact St.ge.refl s
     | false =>
      simp only [go_sem,hb1,hb2,hb3,c0,c12,c3,c10,gn];refine awake_den _ _ _ ?_;simp only [go_sem,hb1,hb2,hb3];refine DK.st hk ?_
      iterate 12 (try refine ge_newO2 (by simp only [hb1,hb2,hb3]) ?_)
      exact St.ge.refl s
end
end Go.AV
end
section
namespace Go.Proofs.YtamikhobdffnfaaGreatDoor
open Go Go.AV Go.ChangeShapes Go.WideShapes Go.ChangeAt Go.RowKit
open Go.ChangeMaps (open_string shut_string)
theorem own : ownKnob Tryz.prog.godebug = none := by kernel_rfl
theorem str_rz {g : Gh} (S : ByteArray) : Rz g (.str S.data.toList) (.string S) := by
 have h := Rz.str (g := g) S.data.toList;have e : (⟨S.data.toList.toArray⟩ : ByteArray) = S := by cases S; simp
 rw [e] at h; exact h
theorem stops_contract (H : Type) (enc : TypeId × Value → H) (W : World) (base : Nat) (args : Array Value) (ds gs : List (DataW H)) (before : List MemPlace)
  (hval : ∀ (j : Nat) t v,Tryz.f11.params[j]? = some t → args[j]? = some v → Value.okWide Tryz.prog W .any base t v)
  (hW : DataW.Whole enc Tryz.prog Tryz.f11.params.toList Rows.defStopsSpec.vars false W args.toList ds gs before) (hL : laidMetH Tryz.prog Rows.defStopsRow.laid W) :
  Calls Tryz.prog 11 args W fun e W' => ∃ v,e = .returned v ∧ Rows.defStopsSpec.post enc Tryz.prog Tryz.f11 false true false false W args v W' := by
 have hW' := hW;obtain ⟨p,q,hA0,hV,rfl,hfz,hnd⟩ := hW;have hA : DataW.TrodAll enc Tryz.prog W 0 (fun _ => true) true Tryz.f11.params.toList args.toList ds p := hA0;rw [Tryz.params11] at hA hval;obtain ⟨v0,v1,d0,d1,p0,p1,rfl,rfl,rfl,h0,h1⟩ := trodAll_two hA;obtain ⟨rfl,rfl⟩ := trodVars_none hV;obtain ⟨S,rfl,rfl,rfl,hS⟩ := open_string Tryz.underlying9 (hval 0 9 v0 rfl rfl) h0;obtain ⟨M,rfl,rfl,rfl,hM⟩ := open_string Tryz.underlying9 (hval 1 9 v1 rfl rfl) h1;clear hA0;simp only [List.append_nil] at hW'
 have hc := seat_calls (f := 11) (args := [.str S.data.toList,.str M.data.toList]) (vals := [.string S,.string M]) (W := W) (p := fun _ => none) (l := Rows.defStopsRow.laid) Tryz.func11 rfl rfl hL
  (.tail _ (.tail _ (.tail _ (.tail _ (.tail _ (.tail _ (.tail _ (.head _)))))))) (.tail _ (.tail _ (.head _))) (fun b pre h => by cases h)
  (.cons (str_rz S) (.cons (str_rz M) (.nil _))) (stops_den _ _ rfl)
 refine hc.mono fun e W' ⟨he,hos,hout,hb⟩ => ?_
 subst he;have e1 : Rows.defStopsSpec.fn H ([DataW.lit (.string S.data.toList),DataW.lit (.string M.data.toList)] ++ []) = { results := [.lit (.bool true)],args := [.lit (.string S.data.toList),.lit (.string M.data.toList)] } := rfl;refine ⟨_,rfl,_,_,_,[],[],[],hW',?_,?_,?_,kept_of hos hout hb,fun h => by cases h⟩
 ·rw [e1]; exact trodAll_mk1 (shut_bool Tryz.underlying4 true)
 ·rw [e1]; exact trodAll_mk2 (shut_string Tryz.underlying9 hS) (shut_string Tryz.underlying9 hM)
 ·rw [e1]; rfl
theorem stops_reads (os : Os) {H : Type} (enc : TypeId × Value → H) :
  ∃ places,DataW.whole enc Tryz.prog ((laidWorld os).forCall (fun _ _ => 0) ⟨#[],#[.string ⟨#[]⟩,.string ⟨#[]⟩],[]⟩).memory Tryz.f11.params.toList (OpenSpec.ofChange Rows.defStopsSpec).vars false #[Value.string ⟨#[]⟩,Value.string ⟨#[]⟩].toList 8 =
   some ([.lit (.string []),.lit (.string [])],[],places) :=
 ⟨[],by kernel_rfl⟩
theorem stops_lifted (os : Os) (started : os.Started) (H : Type) (enc : TypeId × Value → H) (F : Stop.Interp) :
  ReturnsInHanded {} Tryz.checked os 11 .any ((OpenSpec.ofChange Rows.defStopsSpec).preRow enc Tryz.prog Tryz.f11 Rows.defStopsRow.domain false Rows.defStopsRow.laid) (((OpenSpec.ofChange Rows.defStopsSpec).at F).post enc Tryz.prog Tryz.f11 false true false false) := by
 obtain ⟨places,hx⟩ := stops_reads os enc
 refine returnsInHanded_of_row (C := Tryz.checked) (s := OpenSpec.ofChange Rows.defStopsSpec) own started (by kernel_rfl) Tryz.func11
  (witness_row_atRef (enc := enc) (C := Tryz.checked) false (laidWorld os) #[.string ⟨#[]⟩,.string ⟨#[]⟩] rfl (by kernel_rfl) (by kernel_rfl) (by kernel_rfl)
   (OpenSpec.preRow_of_cond 8 hx (by kernel_rfl) (fun k hk => by cases hk) (by kernel_rfl) (laid_met os _))) ?_
 intro W base args ds gs before hval hW _ _ _ hL _ _;exact stops_contract H enc W base args ds gs before hval hW hL
theorem stops_said : Rows.DefStopsSaid :=
 OpenClaim.holds_of_cond 11 Tryz.f11 rfl rfl rfl rfl rfl rfl rfl ⟨rfl,rfl,rfl,rfl,rfl⟩ rfl rfl rfl rfl rfl stops_named Tryz.func11 stops_closed
  (of_decide_eq_true (by kernel_rfl)) (by unfold Func.isWrapper; rw [if_neg (of_decide_eq_false (by kernel_rfl))]; exact ⟨rfl,rfl⟩)
  (fun os started H enc _ F => by rw [OpenClaim.pre_eq_preRow]; exact stops_lifted os started H enc F)
theorem stops_plain (f : FuncId) (fn : Func) (hf : Tryz.pinned.checked.prog.funcNamed Rows.defStopsRow.func = some f) (hfn : Tryz.pinned.checked.prog.funcs[f]? = some fn) :
  true = Tryz.pinned.checked.prog.looks [] ∧ ∀ (j : Nat) t,fn.params[j]? = some t → Tryz.pinned.checked.prog.wantsStandIn t = false := by
 obtain rfl : f = 11 := Option.some.inj (stops_named.symm.trans hf) |>.symm
 obtain rfl : fn = Tryz.f11 := (Option.some.inj (Tryz.func11.symm.trans hfn)).symm;refine ⟨stops_looks,fun j t ht => ?_⟩;rw [Tryz.params11] at ht;obtain rfl : t = 9 := by simpa using Array.mem_of_getElem? ht
 exact (show Tryz.prog.wantsStandIn 9 = false by kernel_rfl)
theorem defStops_holds : Rows.DefStopsCardSaid :=
 Claim7.holds_tied_plain_at .later [] _ _ _ _ stops_said (fun _ h => by cases h) stops_wf (fun _ h => by cases h) defStops_row_tie rfl ⟨rfl,rfl⟩ stops_main rfl stops_plain stops_goes
#print axioms defStops_holds
end Go.Proofs.YtamikhobdffnfaaGreatDoor
end
