/-
  DefLimits: for all n and m the call returns true; the arguments read as before, memory that was there is as it was (where the listed package-level variables hold what the text of the program lays).
-/
import Derived.Test.YtamikhobdffnfaaGreatDoorLi28
import Derived.Test.YtamikhobdffnfaaGreatDoorLi30
import Derived.Test.YtamikhobdffnfaaGreatDoorLi31
import Derived.Test.YtamikhobdffnfaaGreatDoorLi32
import Derived.Test.YtamikhobdffnfaaGreatDoorLi33
import Derived.Test.YtamikhobdffnfaaGreatDoorLi34
import Derived.Test.YtamikhobdffnfaaGreatDoorLi13
import Derived.Test.YtamikhobdffnfaaGreatDoorLi14
import Derived.Test.YtamikhobdffnfaaGreatDoorLi29
set_option linter.unusedVariables false
set_option linter.unusedSimpArgs false
set_option linter.all false
section
namespace Go.AV
open Go Go.Proofs
set_option maxRecDepth 1000000
def eqZL (f : A → A → Bool) : List A → List A → Bool
 | [],[] => true
 | a :: l,b :: r => match f a b with
  | true => eqZL f l r
  | false => false
 | _,_ => false
def eqZ : Nat → A → A → Bool
 | 0,_,_ => false
 | n + 1,a,b => match a with
  | .int k x => match b with
   | .int j y => decide (k = j) && decide (x = y)
   | _ => false
  | .str x => match b with
   | .str y => decide (x = y)
   | _ => false
  | .nils => match b with
   | .nils => true
   | _ => false
  | .agg l => match b with
   | .agg r => eqZL (eqZ n) l r
   | _ => false
  | .list none l => match b with
   | .list none r => eqZL (eqZ n) l r
   | _ => false
  | _ => false
theorem eqZL_ok {f : A → A → Bool} (hf : ∀ a b,f a b = true → a = b) : ∀ {l r : List A},eqZL f l r = true → l = r
 | [],[],_ => rfl
 | a :: l,b :: r,h => by
  simp only [eqZL] at h
  split at h
  ·rename_i e; rw [hf a b e,eqZL_ok hf h]
  ·cases h
 | [],_ :: _,h => by cases h
 | _ :: _,[],h => by cases h
theorem eqZ_ok : ∀ (n : Nat) (a b : A),eqZ n a b = true → a = b
 | 0,_,_,h => by cases h
 | n + 1,a,b,h => by
  have ih := eqZ_ok n
  unfold eqZ at h
  split at h <;> (try (cases h; done)) <;> split at h <;> (try (cases h; done))
  ·simp only [Bool.and_eq_true,decide_eq_true_eq] at h; rw [h.1,h.2]
  ·rw [of_decide_eq_true h]
  ·rfl
  ·rw [eqZL_ok ih h]
  ·rw [eqZL_ok ih h]
theorem frzL_lq {xs : List A} (hx : frzL (frz 60) xs = some xs) : ∀ x,x ∈ xs → x.lp x := fun x hx' => by
 obtain ⟨j,hj,rfl⟩ := List.getElem_of_mem hx'
 obtain ⟨y,h1,h2⟩ := (frzL_get hx).2 j xs[j] (List.getElem?_eq_getElem hj)
 rw [List.getElem?_eq_getElem hj] at h1
 cases h1
 exact frz_ok 60 _ _ h2
def extK (xs : List A) (r : A) (k : CR) (l : List A) (σ : XS) : CR := match eqZL (eqZ 60) l xs with
 | true => .val r σ
 | false => k
theorem extK_ok {f : FuncId} {xs : List A} {r : A} {k : CR} (hx : frzL (frz 60) xs = some xs) (hr : frz 60 r = some r) (h : ∀ (s : St) (KV Kp : St → A → Prop),KV s r → Den cx f xs KV Kp s)
  {l : List A} {σ : XS} {s : St} {KV Kp : St → A → Prop} (hs : Sim s σ) (hk : k.to KV Kp → Den cxd f l KV Kp s) (hh : (extK xs r k l σ).to KV Kp) : Den cxd f l KV Kp s := by
 unfold extK at hh
 split at hh
 ·rename_i e
  have e' := eqZL_ok (eqZ_ok 60) e
  subst e'
  exact to_cxd (frzL_lq hx) (frz_ok 60 _ _ hr) (fun KV Kp s hk => h s KV Kp hk) (hh s hs)
 ·exact hk hh
def awS2 : Str := [108,97,110,103,117,97,103,101,32,101,46,32,115,111,114,116]
def awS3 : Str := [108,97,110,103,117,97,103,101,32,101,46,10,115,111,114,116,32,65,32,66,46]
def awS4 : Str := [102,40,88,58,73,110,116,44,32,91,45,49,32,124,32,76,93,41]
def awS5 : Str := [45,32,53]
def awS6 : Str := [108,97,110,103,117,97,103,101,32,101,46,32,115,116,97,114,116,32,65,46,32,115,116,97,114,116,32,66,46]
def ans15 (l : List A) (σ : XS) : CR := extK [.str awS] (.tuple [awD.enc,Fault.enc ⟨0,[],0,0⟩]) (extK [.str awS2] (.tuple [noDfn.enc,Fault.enc ⟨12,[],1,17⟩]) (extK [.str awS3] (.tuple [noDfn.enc,Fault.enc ⟨11,[66],2,8⟩])
 (extK [.str awS6] (.tuple [noDfn.enc,Fault.enc ⟨14,[115,116,97,114,116],1,22⟩]) .bad l σ) l σ) l σ) l σ
def ans18 (l : List A) (σ : XS) : CR := extK [.str awS4] (.tuple [awT.enc,Fault.enc ⟨0,[],0,0⟩]) (extK [.str awS5] (.tuple [noTm.enc,Fault.enc ⟨11,[53],1,3⟩]) .bad l σ) l σ
def ans23 (l : List A) (σ : XS) : CR := extK [awD.enc] (.tuple [.str awOut,.int .i64 0]) .bad l σ
def ans25 (l : List A) (σ : XS) : CR := extK [awD.enc] (.bool true) .bad l σ
def ans27 (l : List A) (σ : XS) : CR := extK [awD.enc,.str [97],.str [98]] (.tuple [.agg awR,.int .i64 0]) (extK [awD.enc,.str [73,110,116],.str [98]] (.tuple [.agg awZ,.int .i64 2]) .bad l σ) l σ
def ans30 (l : List A) (σ : XS) : CR := extK [awD.enc,awD.enc] (.bool true) (extK [awD.enc,.agg awR] (.bool false) .bad l σ) l σ
def extA (f : FuncId) : Option (List A → XS → CR) := match Nat.beq f 15 with
 | true => some ans15
 | false => match Nat.beq f 18 with
  | true => some ans18
  | false => match Nat.beq f 23 with
   | true => some ans23
   | false => match Nat.beq f 25 with
    | true => some ans25
    | false => match Nat.beq f 27 with
     | true => some ans27
     | false => match Nat.beq f 30 with
      | true => some ans30
      | false => extC f
theorem parseK {x : Str} {d : Dfn} {g : Fault} (h : parseS x = (d,g)) (hx : x.length ≤ 4294967280) (s : St) (KV Kp : St → A → Prop) (hk : KV s (.tuple [d.enc,g.enc])) : Den cx 15 [.str x] KV Kp s :=
 parse_den x hx (by rw [h]; exact hk)
theorem termK {x : Str} {d : Tm} {g : Fault} (h : termS x = (d,g)) (hx : x.length ≤ 4294967280) (s : St) (KV Kp : St → A → Prop) (hk : KV s (.tuple [d.enc,g.enc])) : Den cx 18 [.str x] KV Kp s :=
 tterm_den x hx (by rw [h]; exact hk)
theorem extA_ok : extOk cxd extA := by
 intro f h hf l σ s KV Kp hs hh
 have bad : (CR.bad).to KV Kp → Den cxd f l KV Kp s := fun h => h.elim
 unfold extA at hf
 split at hf
 ·rename_i e
  obtain rfl := Nat.eq_of_beq_eq_true e
  cases hf
  exact extK_ok (by kernel_rfl) (by kernel_rfl) (parseK aw_1 (by decide)) hs (extK_ok (by kernel_rfl) (by kernel_rfl) (parseK aw_2 (by decide)) hs (extK_ok (by kernel_rfl) (by kernel_rfl) (parseK aw_3 (by decide)) hs
   (extK_ok (by kernel_rfl) (by kernel_rfl) (parseK aw_6 (by decide)) hs bad))) hh
 split at hf
 ·rename_i e
  obtain rfl := Nat.eq_of_beq_eq_true e
  cases hf
  exact extK_ok (by kernel_rfl) (by kernel_rfl) (termK aw_4 (by decide)) hs (extK_ok (by kernel_rfl) (by kernel_rfl) (termK aw_5 (by decide)) hs bad) hh
 split at hf
 ·rename_i e
  obtain rfl := Nat.eq_of_beq_eq_true e
  cases hf
  exact extK_ok (by kernel_rfl) (by kernel_rfl) aw23 hs bad hh
 split at hf
 ·rename_i e
  obtain rfl := Nat.eq_of_beq_eq_true e
  cases hf
  exact extK_ok (by kernel_rfl) (by kernel_rfl) aw25 hs bad hh
 split at hf
 ·rename_i e
  obtain rfl := Nat.eq_of_beq_eq_true e
  cases hf
  exact extK_ok (by kernel_rfl) (by kernel_rfl) aw27 hs (extK_ok (by kernel_rfl) (by kernel_rfl) aw27z hs bad) hh
 split at hf
 ·rename_i e
  obtain rfl := Nat.eq_of_beq_eq_true e
  cases hf
  exact extK_ok (by kernel_rfl) (by kernel_rfl) aw30 hs (extK_ok (by kernel_rfl) (by kernel_rfl) aw30r hs bad) hh
 exact extC_ok f h hf l σ s KV Kp hs hh
theorem awake_den (s : St) (KV Kp : St → A → Prop) (hk : KV s (.bool true)) : Den cx 14 [] KV Kp s := by
 have hX : (xpS extA).ok { cx with det := true } := xpS_ok extA_ok
 exact Den.run (X := xpS extA) (fuel := 1000000) true hX glS_lp rfl (by kernel_rfl) hk
end Go.AV
end
section
namespace Go.Proofs.YtamikhobdffnfaaGreatDoor
open Go Go.AV Go.ChangeShapes Go.WideShapes Go.ChangeAt Go.RowKit
set_option maxRecDepth 100000
theorem own : ownKnob Tryz.prog.godebug = none := by kernel_rfl
theorem limits_contract (H : Type) (enc : TypeId × Value → H) (W : World) (base : Nat) (args : Array Value) (ds gs : List (DataW H)) (before : List MemPlace)
  (hval : ∀ (j : Nat) t v,Tryz.f7.params[j]? = some t → args[j]? = some v → Value.okWide Tryz.prog W .any base t v)
  (hW : DataW.Whole enc Tryz.prog Tryz.f7.params.toList Rows.defLimitsSpec.vars false W args.toList ds gs before) (hL : laidMetH Tryz.prog Rows.defLimitsRow.laid W) :
  Calls Tryz.prog 7 args W fun e W' => ∃ v,e = .returned v ∧ Rows.defLimitsSpec.post enc Tryz.prog Tryz.f7 false true false false W args v W' := by
 have hW' := hW
 obtain ⟨p,q,hA0,hV,rfl,hfz,hnd⟩ := hW
 have hA : DataW.TrodAll enc Tryz.prog W 0 (fun _ => true) true Tryz.f7.params.toList args.toList ds p := hA0
 rw [Tryz.params7] at hA hval
 obtain ⟨v0,v1,d0,d1,p0,p1,rfl,rfl,rfl,h0,h1⟩ := trodAll_two hA
 obtain ⟨rfl,rfl⟩ := trodVars_none hV
 obtain ⟨n,rfl,rfl,rfl,hwn⟩ := open_int Tryz.underlying5 (hval 0 5 v0 rfl rfl) h0
 obtain ⟨m,rfl,rfl,rfl,hwm⟩ := open_int Tryz.underlying5 (hval 1 5 v1 rfl rfl) h1
 clear hA0
 simp only [List.append_nil] at hW'
 have bd : ∀ n : Int,(Lit.int .u8 n).wf = true → 0 ≤ n ∧ n ≤ 255 := by
  intro n h
  simp only [Lit.wf,IntKind.min,IntKind.max,IntKind.signed,IntKind.bits,Bool.and_eq_true] at h
  simpa using h
 obtain ⟨n0,n1⟩ := bd n hwn
 obtain ⟨m0,m1⟩ := bd m hwm
 have hc := seat_calls (f := 7) (args := [.int .u8 n,.int .u8 m]) (vals := [.int .u8 n,.int .u8 m]) (W := W) (p := fun _ => none) (l := Rows.defLimitsRow.laid) Tryz.func7 rfl rfl hL
  (.tail _ (.tail _ (.tail _ (.tail _ (.tail _ (.tail _ (.tail _ (.head _)))))))) (.tail _ (.tail _ (.head _))) (fun b pre h => by cases h)
  (.cons (.int _ _) (.cons (.int _ _) (.nil _))) (limits_den awake_den n m n0 n1 m0 m1 rfl)
 refine hc.mono fun e W' ⟨he,hos,hout,hb⟩ => ?_
 subst he
 have e1 : Rows.defLimitsSpec.fn H ([DataW.lit (.int .u8 n),DataW.lit (.int .u8 m)] ++ []) = { results := [.lit (.bool true)],args := [.lit (.int .u8 n),.lit (.int .u8 m)] } := rfl
 refine ⟨_,rfl,_,_,_,[],[],[],hW',?_,?_,?_,kept_of hos hout hb,fun h => by cases h⟩
 ·rw [e1]; exact trodAll_mk1 (shut_bool Tryz.underlying4 true)
 ·rw [e1]; exact trodAll_mk2 (shut_int Tryz.underlying5 hwn) (shut_int Tryz.underlying5 hwm)
 ·rw [e1]; rfl
theorem limits_reads (os : Os) {H : Type} (enc : TypeId × Value → H) :
  ∃ places,DataW.whole enc Tryz.prog ((laidWorld os).forCall (fun _ _ => 0) ⟨#[],#[.int .u8 0,.int .u8 0],[]⟩).memory Tryz.f7.params.toList (OpenSpec.ofChange Rows.defLimitsSpec).vars false #[Value.int .u8 0,Value.int .u8 0].toList 8 =
   some ([.lit (.int .u8 0),.lit (.int .u8 0)],[],places) :=
 ⟨[],by kernel_rfl⟩
theorem limits_lifted (os : Os) (started : os.Started) (H : Type) (enc : TypeId × Value → H) (F : Stop.Interp) :
  ReturnsInHanded {} Tryz.checked os 7 .any ((OpenSpec.ofChange Rows.defLimitsSpec).preRow enc Tryz.prog Tryz.f7 Rows.defLimitsRow.domain false Rows.defLimitsRow.laid) (((OpenSpec.ofChange Rows.defLimitsSpec).at F).post enc Tryz.prog Tryz.f7 false true false false) := by
 obtain ⟨places,hx⟩ := limits_reads os enc
 refine returnsInHanded_of_row (C := Tryz.checked) (s := OpenSpec.ofChange Rows.defLimitsSpec) own started (by kernel_rfl) Tryz.func7
  (witness_row_atRef (enc := enc) (C := Tryz.checked) false (laidWorld os) #[.int .u8 0,.int .u8 0] rfl (by kernel_rfl) (by kernel_rfl) (by kernel_rfl)
   (OpenSpec.preRow_of_cond 8 hx (by kernel_rfl) (fun k hk => by cases hk) (by kernel_rfl) (laid_met os _))) ?_
 intro W base args ds gs before hval hW _ _ _ hL _ _
 exact limits_contract H enc W base args ds gs before hval hW hL
theorem limits_said : Rows.DefLimitsSaid :=
 OpenClaim.holds_of_cond 7 Tryz.f7 rfl rfl rfl rfl rfl rfl rfl ⟨rfl,rfl,rfl,rfl,rfl⟩ rfl rfl rfl rfl rfl limits_named Tryz.func7 limits_closed
  (of_decide_eq_true (by kernel_rfl)) (by unfold Func.isWrapper; rw [if_neg (of_decide_eq_false (by kernel_rfl))]; exact ⟨rfl,rfl⟩)
  (fun os started H enc _ F => by rw [OpenClaim.pre_eq_preRow]; exact limits_lifted os started H enc F)
theorem limits_plain (f : FuncId) (fn : Func) (hf : Tryz.pinned.checked.prog.funcNamed "voussoir/voussoirlaw06.DefLimits" = some f) (hfn : Tryz.pinned.checked.prog.funcs[f]? = some fn) :
  true = Tryz.pinned.checked.prog.looks [] ∧ ∀ (j : Nat) t,fn.params[j]? = some t → Tryz.pinned.checked.prog.wantsStandIn t = false := by
 obtain rfl : f = 7 := Option.some.inj (limits_named.symm.trans hf) |>.symm
 obtain rfl : fn = Tryz.f7 := (Option.some.inj (Tryz.func7.symm.trans hfn)).symm
 refine ⟨limits_looks,fun j t ht => ?_⟩
 rw [Tryz.params7] at ht
 obtain rfl : t = 5 := by simpa using Array.mem_of_getElem? ht
 exact (show Tryz.prog.wantsStandIn 5 = false by kernel_rfl)
theorem defLimits_holds : Rows.DefLimitsCardSaid :=
 Claim7.holds_tied_plain_at .later [] _ _ _ _ limits_said (fun _ h => by cases h) limits_wf (fun _ h => by cases h) defLimits_row_tie rfl ⟨rfl,rfl⟩ limits_main rfl limits_plain limits_goes
#print axioms defLimits_holds
end Go.Proofs.YtamikhobdffnfaaGreatDoor
end
