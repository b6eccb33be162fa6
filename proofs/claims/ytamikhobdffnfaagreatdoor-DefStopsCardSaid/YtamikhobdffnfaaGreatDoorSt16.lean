/-
  Part of the proof of DefStops.
-/
import Derived.Test.YtamikhobdffnfaaGreatDoorSt10
import Derived.Test.YtamikhobdffnfaaGreatDoorSt15
import Derived.Laws.RangeAny
set_option linter.all false
set_option maxRecDepth 1000000
set_option maxHeartbeats 40000000
section
namespace Go.AV
open Go Go.Proofs
@[go_sem] theorem cx_det : cx.det = false := rfl
@[go_sem] theorem litA_cons (x : A) (l : List A) : litA (x :: l) = .list none (x :: l) := rfl
@[go_sem] theorem litA_nil : litA [] = .emp := rfl
def gs (s : St) (tk : Option Nat) (n : Nat) (e : TypeId) : St := match tk with
 | none => s
 | some t => s.setT t (n,e)
@[go_sem] theorem gA6 (s : St) (tk : Option Nat) (n : Nat) (e : TypeId) (b : Nat) : (gs s tk n e).getO b = s.getO b := by cases tk <;> rfl
@[go_sem] theorem gs_setO (s : St) (tk : Option Nat) (n : Nat) (e : TypeId) (b : Nat) (o : Ob) : (gs s tk n e).setO b o = gs (s.setO b o) tk n e := by cases tk <;> rfl
@[go_sem] theorem setT_setO (s : St) (t : Nat) (v : Nat × TypeId) (b : Nat) (o : Ob) : (s.setT t v).setO b o = (s.setO b o).setT t v := rfl
attribute [go_sem] gA3 gA2
@[go_sem] theorem getO_delT (s : St) (t b : Nat) : (s.delT t).getO b = s.getO b := rfl
@[go_sem] theorem setL_setO (s : St) (x : Option (Nat × Nat × A)) (b : Nat) (o : Ob) : (s.setL x).setO b o = (s.setO b o).setL x := rfl
@[go_sem] theorem delT_setO (s : St) (t : Nat) (b : Nat) (o : Ob) : (s.delT t).setO b o = (s.setO b o).delT t := rfl
@[go_sem] theorem ls_setL (s : St) (x : Option (Nat × Nat × A)) : (s.setL x).ls = x := rfl
theorem gs_ok {s : St} {tk : Option Nat} {n : Nat} {e : TypeId} (h : tk = none → n = 0) : gok (gs s tk n e) tk n e := by
 cases tk with
 | none => exact h rfl
 | some t => simp only [gok,gs,gA4,if_pos]
theorem gs_set {s : St} {tk : Option Nat} {n : Nat} {e : TypeId} {t : Nat} (h : tk = some t ∨ tk = none ∧ (gs s tk n e).getT t = none) (v : Nat × TypeId) : (gs s tk n e).setT t v = s.setT t v := by
 rcases h with rfl | ⟨rfl,_⟩
 ·simp only [gs,St.setT,ins_ins]
 ·rfl
theorem gs_free {s : St} {tk : Option Nat} {n : Nat} {e : TypeId} {t : Nat} (h : tk = some t ∨ tk = none ∧ (gs s tk n e).getT t = none) (hf : ∀ t,tk = some t → s.getT t = none) : s.getT t = none := by
 rcases h with rfl | ⟨rfl,h⟩
 ·exact hf t rfl
 ·exact h
theorem gs_ge {s s' : St} (hs : s.ge s') {tk : Option Nat} {n : Nat} {e : TypeId} (h : ∀ t,tk = some t → s.getT t = none) : (gs s tk n e).ge s' := by
 cases tk with
 | none => exact hs
 | some t =>
  refine ⟨fun b o ho => hs.ob b o ho,fun u m hm => ?_,fun x hx => hs.ls x hx⟩;have h1 := hs.tk u m hm;have h2 := h t rfl;simp only [gs,gA4];by_cases htu : t = u
  ·subst htu; rw [h2] at h1; cases h1
  ·simp only [htu,if_false]; exact h1
theorem gs_getT (s : St) (tk : Option Nat) (n : Nat) (e : TypeId) (t : Nat) : (gs s tk n e).getT t = if tk = some t then some (n,e) else s.getT t := by
 cases tk with
 | none => rfl
 | some u => simp only [gs,gA4,Option.some.injEq]
theorem gs_ge_of {s s' : St} {tk : Option Nat} {n : Nat} {e : TypeId} (ho : ∀ b o,s'.getO b = some o → s.getO b = some o) (hl : ∀ x,s'.ls = some x → s.ls = some x)
  (ht : ∀ t m,tk ≠ some t → s'.getT t = some m → s.getT t = some m) : (gs s tk n e).ge (gs s' tk n e) := by
 refine ⟨fun b o h => by rw [gA6] at h ⊢; exact ho b o h,fun t m h => ?_,fun x h => by cases tk <;> exact hl x h⟩;rw [gs_getT] at h ⊢;by_cases e : tk = some t
 ·rw [if_pos e] at h ⊢; exact h
 ·rw [if_neg e] at h ⊢; exact ht t m e h
theorem gs_swap {s : St} {tk : Option Nat} {n : Nat} {e : TypeId} {t : Nat} {v : Nat × TypeId} (h : tk ≠ some t) : ((gs s tk n e).setT t v).ge (gs (s.setT t v) tk n e) := by
 refine ⟨fun b o h => by rw [gA6] at h; rw [gA3,gA6]; exact h,fun u m hm => ?_,fun x hx => by cases tk <;> exact hx⟩;rw [gs_getT,gA4] at hm;rw [gA4,gs_getT];by_cases htu : t = u
 ·subst htu; rw [if_neg h,if_pos rfl] at hm; rw [if_pos rfl]; exact hm
 ·rw [if_neg htu] at hm ⊢; exact hm
theorem pen_ge_none {Y : St} {t n0 n : Nat} {e0 e : TypeId} {v : Nat × TypeId} {x : Option (Nat × Nat × A)} : ((((gs Y none n0 e0).setT t v).setT t (n,e)).setL x).ge ((gs Y (some t) n e).setL none) := by
 refine ⟨fun b o h => h,fun a m h => ?_,fun y h => by cases h⟩;simp only [gs,St.getT_setL,gA4] at h ⊢;split at h
 ·rename_i e; rw [if_pos e]; exact h
 ·rename_i e; rw [if_neg e,if_neg e]; exact h
theorem pen_ge_some {Y : St} {u t n0 n : Nat} {e0 e : TypeId} {v : Nat × TypeId} {x : Option (Nat × Nat × A)} (hu : Y.getT u = none) : (((((gs Y (some u) n0 e0).delT u).setT t v).setT t (n,e)).setL x).ge ((gs Y (some t) n e).setL none) := by
 refine ⟨fun b o h => h,fun a m h => ?_,fun y h => by cases h⟩;simp only [gs,St.getT_setL,gA4,St.getT_delT] at h ⊢;split at h
 ·rename_i e; rw [if_pos e]; exact h
 ·rename_i e;rw [if_neg e];by_cases hau : a = u
  ·subst hau; rw [hu] at h; cases h
  ·simp only [e,hau,Ne.symm hau,if_false]; exact h
theorem del_free {Y s : St} {u t n : Nat} {e : TypeId} (ht : ((gs Y (some u) n e).delT u).getT t = none) (hu : s.getT u = none) (hY : ∀ t,Y.getT t = s.getT t) : s.getT t = none := by
 by_cases htu : t = u
 ·subst htu; exact hu
 ·simp only [gs,St.getT_delT,gA4,if_neg htu,if_neg (Ne.symm htu)] at ht;rw [← hY]; exact ht
theorem del_freeL {Y s : St} {u t n : Nat} {e : TypeId} {l : Option (Nat × Nat × A)} (ht : (((gs Y (some u) n e).setL l).delT u).getT t = none) (hu : s.getT u = none) (hY : ∀ t,Y.getT t = s.getT t) : s.getT t = none := del_free (Y := Y) ht hu hY
theorem pen_ge_fin {Y Z : St} {u t n0 n n' : Nat} {e0 e : TypeId} {v : Nat × TypeId} {x l : Option (Nat × Nat × A)} (hu : Y.getT u = none) (hO : ∀ b o,Z.getO b = some o → Y.getO b = some o) (hT : ∀ t,Z.getT t = Y.getT t) (hn : n' = n) :
  ((((((gs Y (some u) n0 e0).setL l).delT u).setT t v).setT t (n',e)).setL x).ge ((gs Z (some t) n e).setL none) := by
 subst hn;refine ⟨fun b o h => hO b o h,fun a m h => ?_,fun w h => by cases h⟩;simp only [gs,St.getT_setL,gA4,St.getT_delT] at h ⊢;split at h
 ·rename_i e; rw [if_pos e]; exact h
 ·rename_i e;rw [hT] at h;by_cases hau : a = u
  ·subst hau; rw [hu] at h; cases h
  ·simp only [e,hau,Ne.symm hau,if_false]; exact h
theorem gs_ge_O {Y Z : St} {t n : Nat} {e : TypeId} (hO : ∀ b o,Z.getO b = some o → Y.getO b = some o) (hT : ∀ t,Z.getT t = Y.getT t) : ((gs Y (some t) n e).setL none).ge ((gs Z (some t) n e).setL none) :=
 ⟨fun b o h => hO b o h,fun a m h => by
  simp only [gs,St.getT_setL,gA4] at h ⊢;rw [hT] at h; exact h,fun y h => by cases h⟩
theorem free_setO {s : St} {b c : Nat} {o : Ob} (h : (s.setO c o).getO b = none) : b ≠ c ∧ s.getO b = none := by
 rw [gA1] at h;by_cases e : c = b
 ·rw [if_pos e] at h; cases h
 ·rw [if_neg e] at h; exact ⟨fun x => e x.symm,h⟩
theorem gv_le (tk : Option Nat) (es : List A) (h : tk = none → es = []) : A.le (gv tk es) (.list none es) := by
 cases tk with
 | none => rw [h rfl]; exact A.le.nil
 | some t => exact A.le.forget _ _
theorem St.ge_setT {s s2 : St} {t : Nat} {v : Nat × TypeId} (h : s.ge s2) : (s.setT t v).ge (s2.setT t v) := by
 refine ⟨fun b o ho => h.ob b o ho,fun u m hm => ?_,fun x hx => h.ls x hx⟩;rw [gA4] at hm ⊢;split
 ·rename_i e; rw [if_pos e] at hm; exact hm
 ·rename_i e; rw [if_neg e] at hm; exact h.tk u m hm
theorem St.ge_setO {s s2 : St} {b : Nat} {o : Ob} (h : s.ge s2) : (s.setO b o).ge (s2.setO b o) := by
 refine ⟨fun c x ho => ?_,fun u m hm => h.tk u m hm,fun x hx => h.ls x hx⟩;rw [gA1] at ho ⊢;split
 ·rename_i e; rw [if_pos e] at ho; exact ho
 ·rename_i e; rw [if_neg e] at ho; exact h.ob c x ho
theorem St.setT_over (s : St) (t : Nat) (v u : Nat × TypeId) : ((s.setT t v).setT t u).ge (s.setT t u) := by
 refine ⟨fun b o h => h,fun x m hm => ?_,fun x h => h⟩;rw [gA4] at hm ⊢;split
 ·rename_i e; rw [if_pos e] at hm; exact hm
 ·rename_i e; rw [if_neg e] at hm; rw [gA4,if_neg e]; exact hm
theorem St.ge_freeT {s : St} {t : Nat} {v : Nat × TypeId} (h : s.getT t = none) : (s.setT t v).ge s := by
 refine ⟨fun b o h => h,fun x m hm => ?_,fun x h => h⟩;rw [gA4];by_cases e : t = x
 ·subst e; rw [h] at hm; cases hm
 ·rw [if_neg e]; exact hm
theorem St.ge_mid {X : St} {r q : Nat} {A' B' C' : Ob} (hq : X.getO q = none) (_ : q ≠ r) : (((X.setO r A').setO q B').setO r C').ge (X.setO r C') := by
 refine ⟨fun d x hx => ?_,fun u m hm => hm,fun x hx => hx⟩;rw [gA1] at hx ⊢;by_cases h1 : r = d
 ·rw [if_pos h1] at hx ⊢; exact hx
 ·rw [if_neg h1] at hx ⊢;rw [gA1];by_cases h2 : q = d
  ·subst h2; rw [hq] at hx; cases hx
  ·rw [if_neg h2,gA1,if_neg h1]; exact hx
structure St.gx (s1 s : St) (r : Nat) : Prop where
 ob : ∀ c,c ≠ r → ∀ x,s.getO c = some x → s1.getO c = some x
 tk : ∀ t m,s.getT t = some m → s1.getT t = some m
 ls : ∀ x,s.ls = some x → s1.ls = some x
theorem gA8 (s : St) (r : Nat) : s.gx s r := ⟨fun _ _ _ h => h,fun _ _ h => h,fun _ h => h⟩
theorem St.gx_r {s1 s : St} {r : Nat} {o : Ob} (h : s1.gx s r) : (s1.setO r o).gx s r :=
 ⟨fun c hc x hx => by rw [gA1,if_neg (Ne.symm hc)]; exact h.ob c hc x hx,h.tk,h.ls⟩
theorem gA7 {s1 s : St} {r b : Nat} {o : Ob} (hb : s.getO b = none) (h : s1.gx s r) : (s1.setO b o).gx s r :=
 ⟨fun c hc x hx => by
  rw [gA1];by_cases hbc : b = c
  ·subst hbc; rw [hb] at hx; cases hx
  ·rw [if_neg hbc]; exact h.ob c hc x hx,h.tk,h.ls⟩
theorem St.gx_T {s1 s : St} {r t : Nat} {v : Nat × TypeId} (ht : s.getT t = none) (h : s1.gx s r) : (s1.setT t v).gx s r :=
 ⟨h.ob,fun u m hm => by
  rw [gA4];by_cases htu : t = u
  ·subst htu; rw [ht] at hm; cases hm
  ·rw [if_neg htu]; exact h.tk u m hm,h.ls⟩
theorem St.gx.dropT {s1 s : St} {r t : Nat} {v : Nat × TypeId} (h : s1.gx (s.setT t v) r) (ht : s.getT t = none) : s1.gx s r :=
 ⟨h.ob,fun u m hm => h.tk u m (by
  rw [gA4];by_cases htu : t = u
  ·subst htu; rw [ht] at hm; cases hm
  ·rw [if_neg htu]; exact hm),h.ls⟩
theorem St.gx_gs {s1 s : St} {r : Nat} {tk : Option Nat} {n : Nat} {e : TypeId} (h : s1.gx s r) (hf : ∀ t,tk = some t → s.getT t = none) : (gs s1 tk n e).gx s r := by
 cases tk with
 | none => exact h
 | some t => exact St.gx_T (hf t rfl) h
theorem St.gx_setL {s1 s : St} {r : Nat} {l : Option (Nat × Nat × A)} (h : s1.gx s r) (hl : l = s.ls) : (s1.setL l).gx s r :=
 ⟨h.ob,h.tk,fun x hx => by rw [hl]; exact hx⟩
theorem St.gx_setL2 {s1 s : St} {r : Nat} {l m : Option (Nat × Nat × A)} (h : s1.gx s r) (hl : l = s.ls) : ((s1.setL m).setL l).gx s r := St.gx_setL (s1 := s1) h hl
theorem St.gx.trans {s2 s1 s : St} {r : Nat} (h : s2.gx s1 r) (h' : s1.gx s r) : s2.gx s r :=
 ⟨fun c hc x hx => h.ob c hc x (h'.ob c hc x hx),fun t m hm => h.tk t m (h'.tk t m hm),fun x hx => h.ls x (h'.ls x hx)⟩
theorem St.gx.ge {s1 s : St} {r : Nat} {o : Ob} (h : s1.gx s r) (hr : s1.getO r = some o) : s1.ge (s.setO r o) := by
 refine ⟨fun c x hx => ?_,h.tk,h.ls⟩;rw [gA1] at hx;by_cases hc : r = c
 ·subst hc; rw [if_pos rfl] at hx; rw [hr]; exact hx
 ·rw [if_neg hc] at hx; exact h.ob c (Ne.symm hc) x hx
def lesL : List A → List A → Prop
 | [],[] => True
 | a :: l,b :: r => lesC a.cells b.cells ∧ lesL l r
 | _,_ => False
theorem lesL_len : ∀ {l r : List A},lesL l r → l.length = r.length
 | [],[],_ => rfl
 | _ :: _,_ :: _,h => by simp only [List.length_cons,lesL_len h.2]
theorem lesL_get : ∀ {l r : List A},lesL l r → ∀ (i : Nat) (b : A),r[i]? = some b → ∃ a : A,l[i]? = some a ∧ lesC a.cells b.cells
 | a :: l,b :: r,h,0,x,hx => by
  simp only [List.getElem?_cons_zero,Option.some.injEq] at hx ⊢;subst hx; exact ⟨a,rfl,h.1⟩
 | a :: l,b :: r,h,i + 1,x,hx => by
  simp only [List.getElem?_cons_succ] at hx ⊢;exact lesL_get h.2 i x hx
 | [],[],_,_,_,hx => by simp at hx
theorem A.le.list {l r : List A} (h : lesL l r) : A.le (.list none l) (.list none r) := fun g v x => by
 have hlen := lesL_len h;cases x with
 | list tk es b off sz cap pre hp hl hc hm hs h1 hh ht =>
  rw [hlen]
  have key : ∀ e,e ∈ r → ∃ (i : Nat) (a : A),l[i]? = some a ∧ r[i]? = some e ∧ lesC a.cells e.cells := fun e he => by
   obtain ⟨i,hi,rfl⟩ := List.getElem_of_mem he;obtain ⟨a,h2,h3⟩ := lesL_get h i _ (List.getElem?_eq_getElem hi);exact ⟨i,a,h2,List.getElem?_eq_getElem hi,h3⟩
  refine .list none r b off sz cap pre hp (by rw [← hlen]; exact hl) (by rw [← hlen]; exact hc) hm (fun e he => ?_) (fun e he c hc => ?_) (fun i e j c v hi hj hv => ?_) (by simp)
  ·obtain ⟨i,a,h2,_,h3⟩ := key e he;rw [← lesC_len h3]; exact hs a (List.mem_of_getElem? h2)
  ·obtain ⟨i,a,h2,_,h3⟩ := key e he;obtain ⟨j,hj,rfl⟩ := List.getElem_of_mem hc;exact (lesC_get h3 j _ (List.getElem?_eq_getElem hj)).choose_spec.2.2
  ·obtain ⟨a,h2,h3⟩ := lesL_get h i e hi;obtain ⟨c0,h4,h5,_⟩ := lesC_get h3 j c hj;exact h5 g v (hh i a j c0 v h2 h4 hv)
 | list0 tk a cap hm ht =>
  have : r = [] := List.eq_nil_of_length_eq_zero (by rw [← hlen]; rfl);subst this;exact .list0 none a cap hm (by simp)
theorem Den.keepL {C : Cx} {s : St} {f : FuncId} {args : List A} {KV Kp : St → A → Prop} (h : Den C f args (fun s' a => KV (s'.setL s.ls) a) (fun s' a => Kp (s'.setL s.ls) a) s) : Den C f args KV Kp s := by
 intro F g w vals hR hv;have key : ∀ (g' : Gh) (s' : St) (w' : World),g.le g' → R C.toCtx F g' s' w' → R C.toCtx F g' (s'.setL s.ls) w' := fun g' s' w' h1 h2 => h2.setL fun y hy => (hR.lst y hy).mono h1
 have := h F g w vals hR hv;revert this;generalize (callFunc f vals.toArray).run C.P w = r;intro hr;cases r with
 | ok x w' =>
  cases x <;> simp only [OutV] at hr ⊢
  ·obtain ⟨g',a,s',a1,a2,a3,a4⟩ := hr; exact ⟨g',a,_,a1,key _ _ _ a1 a2,a3,a4⟩
  ·obtain ⟨g',s',a1,a2,a3⟩ := hr; exact ⟨g',_,a1,key _ _ _ a1 a2,a3⟩
  ·refine Calls.mono hr fun en w'' hp => ?_
   cases en with
   | returned v => obtain ⟨g',a,s',a1,a2,a3,a4⟩ := hp; exact ⟨g',a,_,a1,key _ _ _ a1 a2,a3,a4⟩
   | panicked chain => obtain ⟨g',a,v,s',a0,a1,a2,a3,a4⟩ := hp; exact ⟨g',a,v,_,a0,a1,key _ _ _ a1 a2,a3,a4⟩
   | outgrown => exact hp
 | halt x w' =>
  cases x <;> simp only [OutV] at hr ⊢
  obtain ⟨g',a,s',a1,a2,a3,a4⟩ := hr; exact ⟨g',a,_,a1,key _ _ _ a1 a2,a3,a4⟩
@[go_sem] theorem setL_setL (s : St) (x y : Option (Nat × Nat × A)) : (s.setL x).setL y = s.setL y := rfl
theorem to_cxo {f : FuncId} {l : List A} {KV Kp : St → A → Prop} {s : St} (h : Den cx f l KV Kp s) : Den cxo f l KV Kp s := by assumption
end Go.AV
end
section
namespace Go.AV
open Go Go.Proofs
structure St.gel (s1 s : St) (L M : List Nat) : Prop where
 ob : ∀ c,c ∉ L → ∀ x,s.getO c = some x → s1.getO c = some x
 tk : ∀ t,t ∉ M → ∀ m,s.getT t = some m → s1.getT t = some m
 ls : ∀ x,s.ls = some x → s1.ls = some x
theorem gel_refl (s : St) (L M : List Nat) : s.gel s L M := ⟨fun _ _ _ h => h,fun _ _ _ h => h,fun _ h => h⟩
theorem gel_ge {s1 s : St} (h : s1.gel s [] []) : s1.ge s := ⟨fun c x hx => h.ob c (by simp) x hx,fun t m hm => h.tk t (by simp) m hm,h.ls⟩
theorem gel_of_gx {s1 s : St} {r : Nat} (h : s1.gx s r) {L M : List Nat} (hr : r ∈ L) : s1.gel s L M :=
 ⟨fun c hc x hx => h.ob c (fun e => hc (e ▸ hr)) x hx,fun t _ m hm => h.tk t m hm,h.ls⟩
theorem gel_of_ge {s1 s : St} (h : s1.ge s) (L M : List Nat) : s1.gel s L M := ⟨fun c _ x hx => h.ob c x hx,fun t _ m hm => h.tk t m hm,h.ls⟩
theorem St.gel.trans {s2 s1 s : St} {L M : List Nat} (h : s2.gel s1 L M) (h' : s1.gel s L M) : s2.gel s L M :=
 ⟨fun c hc x hx => h.ob c hc x (h'.ob c hc x hx),fun t ht m hm => h.tk t ht m (h'.tk t ht m hm),fun x hx => h.ls x (h'.ls x hx)⟩
theorem gel_set {s1 s : St} {L M : List Nat} {b : Nat} {o : Ob} (hb : s1.getO b = some o) (h : s1.gel s (b :: L) M) : s1.gel (s.setO b o) L M :=
 ⟨fun c hc x hx => by
  rw [gA1] at hx;by_cases e : b = c
  ·subst e; rw [if_pos rfl] at hx; rw [hb]; exact hx
  ·rw [if_neg e] at hx;exact h.ob c (by simp only [List.mem_cons,not_or]; exact ⟨fun h => e h.symm,hc⟩) x hx,h.tk,h.ls⟩
theorem gel_setT {s1 s : St} {L M : List Nat} {t : Nat} {v : Nat × TypeId} (ht : s1.getT t = some v) (h : s1.gel s L (t :: M)) : s1.gel (s.setT t v) L M :=
 ⟨h.ob,fun u hu m hm => by
  rw [gA4] at hm;by_cases e : t = u
  ·subst e; rw [if_pos rfl] at hm; rw [ht]; exact hm
  ·rw [if_neg e] at hm;exact h.tk u (by simp only [List.mem_cons,not_or]; exact ⟨fun h => e h.symm,hu⟩) m hm,h.ls⟩
theorem gel_in {s1 s : St} {L M : List Nat} {b : Nat} {o : Ob} (hb : b ∈ L) (h : s1.gel s L M) : (s1.setO b o).gel s L M :=
 ⟨fun c hc x hx => by
  rw [gA1,if_neg (fun e : b = c => hc (e ▸ hb))]; exact h.ob c hc x hx,h.tk,h.ls⟩
theorem gel_new {s1 s : St} {L M : List Nat} {b : Nat} {o : Ob} (hb : s.getO b = none) (h : s1.gel s L M) : (s1.setO b o).gel s L M :=
 ⟨fun c hc x hx => by
  rw [gA1];by_cases e : b = c
  ·subst e; rw [hb] at hx; cases hx
  ·rw [if_neg e]; exact h.ob c hc x hx,h.tk,h.ls⟩
theorem gel_inT {s1 s : St} {L M : List Nat} {t : Nat} {v : Nat × TypeId} (hb : t ∈ M) (h : s1.gel s L M) : (s1.setT t v).gel s L M :=
 ⟨h.ob,fun c hc x hx => by
  rw [gA4,if_neg (fun e : t = c => hc (e ▸ hb))]; exact h.tk c hc x hx,h.ls⟩
theorem gel_newT {s1 s : St} {L M : List Nat} {t : Nat} {v : Nat × TypeId} (hb : s.getT t = none) (h : s1.gel s L M) : (s1.setT t v).gel s L M :=
 ⟨h.ob,fun c hc x hx => by
  rw [gA4];by_cases e : t = c
  ·subst e; rw [hb] at hx; cases hx
  ·rw [if_neg e]; exact h.tk c hc x hx,h.ls⟩
theorem gel_free {s1 s : St} {L M : List Nat} {b : Nat} (hb : s.getO b = none) (h : s1.gel s (b :: L) M) : s1.gel s L M :=
 ⟨fun c hc x hx => h.ob c (by
  simp only [List.mem_cons,not_or];exact ⟨fun e => (by subst e; rw [hb] at hx; cases hx),hc⟩) x hx,h.tk,h.ls⟩
theorem gel_gs {s1 s : St} {L M : List Nat} {tk : Option Nat} {n : Nat} {e : TypeId} (h : s1.gel s L M) (hf : ∀ t,tk = some t → s.getT t = none) : (gs s1 tk n e).gel s L M := by
 cases tk with
 | none => exact h
 | some t => exact gel_newT (hf t rfl) h
theorem gel_gs_in {s1 s : St} {L M : List Nat} {tk : Option Nat} {n : Nat} {e : TypeId} (h : s1.gel s L M) (hf : ∀ t,tk = some t → t ∈ M) : (gs s1 tk n e).gel s L M := by
 cases tk with
 | none => exact h
 | some t => exact gel_inT (hf t rfl) h
theorem gel_to_gs {s1 s : St} {L M : List Nat} {tk : Option Nat} {n : Nat} {e : TypeId} (hf : ∀ t,tk = some t → s1.getT t = some (n,e)) (h : s1.gel s L (tk.toList ++ M)) : s1.gel (gs s tk n e) L M := by
 cases tk with
 | none => exact h
 | some t => exact gel_setT (hf t rfl) h
theorem gel_gs_gs {s1 s : St} {L M : List Nat} {tk : Option Nat} {n : Nat} {e : TypeId} (h : s1.gel s L M) : (gs s1 tk n e).gel (gs s tk n e) L M := by
 cases tk with
 | none => exact h
 | some t =>
  refine ⟨h.ob,fun u hu m hm => ?_,h.ls⟩;simp only [gs,gA4] at hm ⊢;split
  ·rename_i e; rw [if_pos e] at hm; exact hm
  ·rename_i e; rw [if_neg e] at hm; exact h.tk u hu m hm
theorem gs_self {s1 : St} {tk : Option Nat} {n : Nat} {e : TypeId} : ∀ t,tk = some t → (gs s1 tk n e).getT t = some (n,e) := by
 rintro t rfl;rw [gs_getT,if_pos rfl]
@[go_sem] theorem getT_setO (s : St) (b : Nat) (o : Ob) (t : Nat) : (s.setO b o).getT t = s.getT t := rfl
end Go.AV
end
section
namespace Go.AV
open Go Go.Proofs
abbrev Own := Option Nat × Nat × TypeId
def gsl (s : St) : List Own → St
 | [] => s
 | o :: l => gs (gsl s l) o.1 o.2.1 o.2.2
structure OwnOk (s : St) (l : List Own) : Prop where
 free : ∀ o,o ∈ l → ∀ t,o.1 = some t → s.getT t = none
 nil : ∀ o,o ∈ l → o.1 = none → o.2.1 = 0
 dst : ∀ (i j : Nat) (a b : Own) (t : Nat),l[i]? = some a → l[j]? = some b → a.1 = some t → b.1 = some t → i = j
@[go_sem] theorem gA5 (s : St) (l : List Own) (b : Nat) : (gsl s l).getO b = s.getO b := by
  induction l with
  | nil => rfl
  | cons o l ih => simp only [gsl,gA6,ih]
@[go_sem] theorem gsl_setO (s : St) (l : List Own) (b : Nat) (o : Ob) : (gsl s l).setO b o = gsl (s.setO b o) l := by
  induction l with
  | nil => rfl
  | cons a l ih => simp only [gsl,gs_setO,ih]
theorem gs_ls (s : St) (tk : Option Nat) (n : Nat) (e : TypeId) : (gs s tk n e).ls = s.ls := by cases tk <;> rfl
@[go_sem] theorem gsl_ls (s : St) (l : List Own) : (gsl s l).ls = s.ls := by
  induction l with
  | nil => rfl
  | cons o l ih => simp only [gsl,gs_ls,ih]
theorem gsl_getT (s : St) (l : List Own) (u : Nat) : (gsl s l).getT u = match l.find? (fun o => decide (o.1 = some u)) with | some o => some o.2 | none => s.getT u := by
 induction l with
 | nil => rfl
 | cons o l ih =>
  simp only [gsl,gs_getT,List.find?];by_cases h : o.1 = some u
  ·simp only [h,if_true,decide_true]
  ·simp only [h,if_false,decide_false,ih]
theorem gsl_getT_some {s : St} {l : List Own} (h : OwnOk s l) {k : Nat} {o : Own} (hk : l[k]? = some o) {t : Nat} (ht : o.1 = some t) : (gsl s l).getT t = some o.2 := by
 rw [gsl_getT];cases hf : l.find? (fun o => decide (o.1 = some t)) with
 | none =>
  have := List.find?_eq_none.1 hf o (List.mem_of_getElem? hk);simp [ht] at this
 | some a =>
  have h1 := List.find?_some hf;have h2 := List.mem_of_find?_eq_some hf;obtain ⟨j,hj,rfl⟩ := List.getElem_of_mem h2;have hj' : l[j]? = some l[j] := List.getElem?_eq_getElem hj;have := h.dst j k _ _ t hj' hk (by simpa using h1) ht;subst this;rw [hj'] at hk; cases hk; rfl
theorem gsl_getT_no {s : St} {l : List Own} {t : Nat} (h : ∀ o,o ∈ l → o.1 ≠ some t) : (gsl s l).getT t = s.getT t := by
 rw [gsl_getT,List.find?_eq_none.2 (fun o ho => by simpa using h o ho)]
theorem gsl_gok {s : St} {l : List Own} (h : OwnOk s l) {k : Nat} {o : Own} (hk : l[k]? = some o) : gok (gsl s l) o.1 o.2.1 o.2.2 := by
 obtain ⟨tk,n,e⟩ := o;cases tk with
 | none => exact h.nil _ (List.mem_of_getElem? hk) rfl
 | some t => exact gsl_getT_some h hk rfl
theorem OwnOk.to {s X : St} {l : List Own} (h : OwnOk s l) (hX : ∀ t,X.getT t = s.getT t) : OwnOk X l := ⟨fun o ho t ht => by rw [hX]; exact h.free o ho t ht,h.nil,h.dst⟩
theorem gsl_gokX {s X : St} {l : List Own} (h : OwnOk s l) {k : Nat} {o : Own} (hk : l[k]? = some o) (hX : ∀ t,X.getT t = s.getT t) : gok (gsl X l) o.1 o.2.1 o.2.2 := gsl_gok (h.to hX) hk
theorem gsl_own {s X : St} {l : List Own} (h : OwnOk s l) {k : Nat} {o : Own} (hk : l[k]? = some o) {t : Nat}
  (ht : o.1 = some t ∨ o.1 = none ∧ (gsl X l).getT t = none) (hX : ∀ t,X.getT t = s.getT t) (n : Nat) : OwnOk s (l.set k (some t,n,o.2.2)) := by
 have hfree : s.getT t = none ∧ ∀ (j : Nat) (a : Own),l[j]? = some a → a.1 = some t → j = k := by
  rcases ht with e | ⟨e,e2⟩
  ·exact ⟨h.free o (List.mem_of_getElem? hk) t e,fun j a ha hat => h.dst j k a o t ha hk hat e⟩
  ·rw [gsl_getT] at e2;cases hf : l.find? (fun o => decide (o.1 = some t)) with
   | some a => rw [hf] at e2; cases e2
   | none =>
    rw [hf] at e2;refine ⟨by rw [← hX]; exact e2,fun j a ha hat => ?_⟩;have := List.find?_eq_none.1 hf a (List.mem_of_getElem? ha);simp [hat] at this
 have hlt : k < l.length := by
  rcases Nat.lt_or_ge k l.length with h | h
  ·exact h
  ·rw [List.getElem?_eq_none h] at hk; cases hk
 refine ⟨fun a ha u hu => ?_,fun a ha hn => ?_,fun i j a b u hi hj ha hb => ?_⟩
 ·rcases List.mem_or_eq_of_mem_set ha with ha | rfl
  ·exact h.free a ha u hu
  ·cases hu; exact hfree.1
 ·rcases List.mem_or_eq_of_mem_set ha with ha | rfl
  ·exact h.nil a ha hn
  ·cases hn
 ·rw [List.getElem?_set] at hi hj;split at hi <;> split at hj
  ·rename_i e1 e2; rw [← e1,← e2]
  ·rename_i e1 e2
   try rw [if_pos hlt] at hi
   cases hi; cases ha;exact (e2 (hfree.2 j b hj hb).symm).elim
  ·rename_i e1 e2
   try rw [if_pos hlt] at hj
   cases hj; cases hb;exact (e1 (hfree.2 i a hi ha).symm).elim
  ·exact h.dst i j a b u hi hj ha hb
theorem gsl_app {s X : St} {l : List Own} (h : OwnOk s l) {k : Nat} {o : Own} (hk : l[k]? = some o) {t n : Nat} (h' : OwnOk s (l.set k (some t,n,o.2.2)))
  (hX : ∀ t,X.getT t = s.getT t) : ((gsl X l).setT t (n,o.2.2)).ge (gsl X (l.set k (some t,n,o.2.2))) := by
 have hlt : k < l.length := by
  rcases Nat.lt_or_ge k l.length with h | h
  ·exact h
  ·rw [List.getElem?_eq_none h] at hk; cases hk
 have hk' : (l.set k (some t,n,o.2.2))[k]? = some (some t,n,o.2.2) := by rw [List.getElem?_set,if_pos rfl,if_pos hlt]
 refine ⟨fun b o h => by rw [gA5] at h; rw [gA3,gA5]; exact h,fun u m hm => ?_,fun x hx => by rw [gsl_ls] at hx; show (gsl X l).ls = _; rw [gsl_ls]; exact hx⟩;rw [gA4];rw [gsl_getT] at hm;cases hf : (l.set k (some t,n,o.2.2)).find? (fun o => decide (o.1 = some u)) with
 | some a =>
  rw [hf] at hm;have h1 := List.find?_some hf;have h2 := List.mem_of_find?_eq_some hf;simp only [decide_eq_true_eq] at h1;obtain ⟨j,hj,e⟩ := List.getElem_of_mem h2;have hj' : (l.set k (some t,n,o.2.2))[j]? = some a := by rw [List.getElem?_eq_getElem hj,e]
  by_cases htu : t = u
  ·subst htu;have := h'.dst j k a _ t hj' hk' h1 rfl;subst this;rw [hj'] at hk'; cases hk';rw [if_pos rfl]; exact hm
  ·rw [if_neg htu]
   have hjk : k ≠ j := fun e => by
    subst e; rw [hj'] at hk'; cases hk'; exact htu (by simpa using h1)
   rw [List.getElem?_set,if_neg hjk] at hj'
   have h3 : (gsl X l).getT u = some a.2 := by
    rw [gsl_getT];cases hf2 : l.find? (fun o => decide (o.1 = some u)) with
    | none =>
     have := List.find?_eq_none.1 hf2 a (List.mem_of_getElem? hj');simp [h1] at this
    | some c =>
     have h4 := List.find?_some hf2;simp only [decide_eq_true_eq] at h4;obtain ⟨i,hi,e⟩ := List.getElem_of_mem (List.mem_of_find?_eq_some hf2);have hi' : l[i]? = some c := by rw [List.getElem?_eq_getElem hi,e]
     have := h.dst i j c a u hi' hj' h4 h1;subst this;rw [hi'] at hj'; cases hj'; rfl
   rw [h3]; exact hm
 | none =>
  rw [hf] at hm;have hno := List.find?_eq_none.1 hf
  have htu : ¬ t = u := fun e => by
   have := hno _ (List.mem_of_getElem? hk');simp [e] at this
  rw [if_neg htu,gsl_getT];cases hf2 : l.find? (fun o => decide (o.1 = some u)) with
  | none => exact hm
  | some c =>
   have h4 := List.find?_some hf2;simp only [decide_eq_true_eq] at h4;have := h.free c (List.mem_of_find?_eq_some hf2) u h4;rw [← hX] at this;have hm : X.getT u = some m := hm;rw [this] at hm; cases hm
theorem gsl_ge {X Y : St} {l : List Own} (h : X.ge Y) : (gsl X l).ge (gsl Y l) := by
 induction l with
 | nil => exact h
 | cons o l ih => exact gel_ge (gel_gs_gs (gel_of_ge ih _ _))
theorem gsl_gel {X s : St} {l : List Own} {L M : List Nat} (hf : ∀ o,o ∈ l → ∀ t,o.1 = some t → s.getT t = none) (h : X.gel s L M) : (gsl X l).gel s L M := by
 induction l with
 | nil => exact h
 | cons o l ih => exact gel_gs (ih fun a ha => hf a (by simp [ha])) (hf o (by simp))
theorem gsl_gx {X s : St} {l : List Own} {r : Nat} (hf : ∀ o,o ∈ l → ∀ t,o.1 = some t → s.getT t = none) (h : X.gx s r) : (gsl X l).gx s r := by
 induction l with
 | nil => exact h
 | cons o l ih => exact St.gx_gs (ih fun a ha => hf a (by simp [ha])) (hf o (by simp))
theorem gsl_weak {s : St} {l : List Own} {s2 : St} (hs : s.ge s2) (h : ∀ o,o ∈ l → ∀ t,o.1 = some t → s2.getT t = none) : (gsl s l).ge s2 := gel_ge (gsl_gel h (gel_of_ge hs _ _))
end Go.AV
end
section
namespace Go.AV
open Go Go.Proofs
theorem find_set {α : Type} (p : α → Bool) (a : α) (ha : p a = false) : ∀ (l : List α) (k : Nat),(∀ x,l[k]? = some x → p x = false) → (l.set k a).find? p = l.find? p
 | [],k,h => by simp
 | x :: l,0,h => by
  have := h x (by simp);simp only [List.set_cons_zero,List.find?,ha,this]
 | x :: l,k + 1,h => by
  have ih := find_set p a ha l k (fun y hy => h y (by simpa using hy));simp only [List.set_cons_succ,List.find?,ih]
theorem gsl_apart {s X : St} {l : List Own} (h : OwnOk s l) {k : Nat} {o : Own} (hk : l[k]? = some o) (n : Nat) (e : TypeId) (u : Nat) :
  (gs (gsl X (l.set k (none,n,e))) o.1 o.2.1 o.2.2).getT u = (gsl X l).getT u := by
 rw [gs_getT];by_cases ho : o.1 = some u
 ·rw [if_pos ho,gsl_getT];cases hf : l.find? (fun o => decide (o.1 = some u)) with
  | none =>
   have := List.find?_eq_none.1 hf o (List.mem_of_getElem? hk);simp [ho] at this
  | some a =>
   have h1 := List.find?_some hf;obtain ⟨j,hj,e1⟩ := List.getElem_of_mem (List.mem_of_find?_eq_some hf);have hj' : l[j]? = some a := by rw [List.getElem?_eq_getElem hj,e1]
   have := h.dst j k a o u hj' hk (by simpa using h1) ho;subst this;rw [hj'] at hk; cases hk; rfl
 ·rw [if_neg ho,gsl_getT,gsl_getT,find_set _ _ (by simp) l k (fun x hx => by rw [hk] at hx; cases hx; simpa using ho)]
theorem gsl_split {s X : St} {l : List Own} (h : OwnOk s l) {k : Nat} {o : Own} (hk : l[k]? = some o) (n : Nat) (e : TypeId) :
  (gsl X l).ge (gs (gsl X (l.set k (none,n,e))) o.1 o.2.1 o.2.2) :=
 ⟨fun b x hb => by rw [gA6,gA5] at hb; rw [gA5]; exact hb,fun u m hm => by rw [gsl_apart h hk] at hm; exact hm,fun x hx => by rw [gs_ls,gsl_ls] at hx; rw [gsl_ls]; exact hx⟩
theorem gsl_join {s X : St} {l : List Own} {k : Nat} {tk : Option Nat} {m : Nat} {e : TypeId} (hk : k < l.length) (h : OwnOk s (l.set k (tk,m,e))) (n : Nat) (e' : TypeId) :
  (gs (gsl X (l.set k (none,n,e'))) tk m e).ge (gsl X (l.set k (tk,m,e))) := by
 have hk' : (l.set k (tk,m,e))[k]? = some (tk,m,e) := by rw [List.getElem?_set,if_pos rfl,if_pos hk]
 have key := gsl_apart (X := X) h hk' n e';rw [List.set_set] at key;exact ⟨fun b x hb => by rw [gA5] at hb; rw [gA6,gA5]; exact hb,fun u q hq => by rw [key]; exact hq,fun x hx => by rw [gsl_ls] at hx; rw [gs_ls,gsl_ls]; exact hx⟩
theorem gsl_out {s X : St} {l : List Own} (h : OwnOk s l) {k : Nat} {o : Own} (hk : l[k]? = some o) (n : Nat) (e : TypeId) (hX : ∀ t,X.getT t = s.getT t) {t : Nat} (ht : o.1 = some t) : (gsl X (l.set k (none,n,e))).getT t = none := by
 rw [gsl_getT_no,hX]
 ·exact h.free o (List.mem_of_getElem? hk) t ht
 ·intro a ha hat;obtain ⟨j,hj,e1⟩ := List.getElem_of_mem ha;have hj' : (l.set k (none,n,e))[j]? = some a := by rw [List.getElem?_eq_getElem hj,e1]
  rw [List.getElem?_set] at hj';split at hj'
  ·split at hj'
   ·cases hj'; cases hat
   ·cases hj'
  ·rename_i e2;exact e2 (h.dst j k a o t hj' hk hat ht).symm
theorem gsl_back {s X : St} {l : List Own} (h : OwnOk s l) {k : Nat} (hk : k < l.length) (n : Nat) (e e' : TypeId) (hX : ∀ t,X.getT t = s.getT t) {tk : Option Nat} {m : Nat}
  (hf : ∀ t,tk = some t → (gsl X (l.set k (none,n,e'))).getT t = none) (hn : tk = none → m = 0) : OwnOk s (l.set k (tk,m,e)) := by
 have key : ∀ t,tk = some t → s.getT t = none ∧ ∀ (j : Nat) (a : Own),j ≠ k → l[j]? = some a → a.1 ≠ some t := by
  intro t ht;have h1 := hf t ht;rw [gsl_getT] at h1;cases hq : (l.set k (none,n,e')).find? (fun o => decide (o.1 = some t)) with
  | some a => rw [hq] at h1; cases h1
  | none =>
   rw [hq] at h1;refine ⟨by rw [← hX]; exact h1,fun j a hj ha hat => ?_⟩;have h2 : (l.set k (none,n,e'))[j]? = some a := by rw [List.getElem?_set,if_neg (fun e => hj e.symm)]; exact ha
   have := List.find?_eq_none.1 hq a (List.mem_of_getElem? h2);simp [hat] at this
 refine ⟨fun a ha u hu => ?_,fun a ha hn' => ?_,fun i j a b u hi hj ha hb => ?_⟩
 ·rcases List.mem_or_eq_of_mem_set ha with ha | rfl
  ·exact h.free a ha u hu
  ·exact (key u hu).1
 ·rcases List.mem_or_eq_of_mem_set ha with ha | rfl
  ·exact h.nil a ha hn'
  ·exact hn hn'
 ·rw [List.getElem?_set] at hi hj;by_cases e1 : k = i <;> by_cases e2 : k = j
  ·rw [← e1,← e2]
  ·rw [if_pos e1,if_pos hk] at hi;rw [if_neg e2] at hj;cases hi;exact ((key u ha).2 j b (fun e => e2 e.symm) hj hb).elim
  ·rw [if_neg e1] at hi;rw [if_pos e2,if_pos hk] at hj;cases hj;exact ((key u hb).2 i a (fun e => e1 e.symm) hi ha).elim
  ·rw [if_neg e1] at hi;rw [if_neg e2] at hj;exact h.dst i j a b u hi hj ha hb
end Go.AV
end
section
namespace Go.AV
open Go Go.Proofs
section
variable {s : St} {KV Kp : St → A → Prop} {r : Nat} {w : Str} {i l c : Nat} {sg out : A} {f : Fault}
theorem skip104_den (hr : s.getO r = some (ctO w i l c sg out f)) (hx : w.length ≤ 4294967280) (hi : i ≤ w.length) (hl : l ≤ i + 1) (hc : c ≤ i + 1)
  (hk : KV (s.setO r (ctO w (i + blks (w.drop i)) (adv (l,c) ((w.drop i).take (blks (w.drop i)))).1 (adv (l,c) ((w.drop i).take (blks (w.drop i)))).2 sg out f)) (.tuple [])) :
  Den cx 104 [.ptr r 0] KV Kp s := by
 refine Den.drop ?_; (refine Den.of_body (C := cx) Tryz.func104 rfl rfl (Nat.le_of_ble_eq_true rfl) ?_; refine wpC_ok (V := [0,27,37,61]) _ _ _ _ ?_; simp only [go_sem,Tryz.ntmps104,Tryz.f104])
 refine Ex.loop (ι := Nat) (fun _ => [(0,.ptr r 0)])
  (fun k => s.setO r (ctO w (i + k) (adv (l,c) ((w.drop i).take k)).1 (adv (l,c) ((w.drop i).take k)).2 sg out f))
  (fun k => i + k ≤ w.length ∧ blks (w.drop i) = k + blks (w.drop (i + k))) (fun k => w.length - (i + k)) 0 ⟨by omega,by simp⟩ ?_ ?_ ?_
 ·simp only [go_sem]
  try rfl
 ·simp only [Nat.add_zero,List.take_zero,adv];exact St.ge_same hr
 rintro k ⟨hkx,hb⟩;have hlen : ((w.drop i).take k).length = k := by rw [List.length_take,List.length_drop]; omega
 have hal := adv_le ((w.drop i).take k) (l,c) i hl hc;rw [hlen] at hal
 have hstep : ∀ m,adv (l,c) ((w.drop i).take (k + m)) = adv (adv (l,c) ((w.drop i).take k)) ((w.drop (i + k)).take m) := by
  intro m;rw [List.take_add,adv_app,List.drop_drop]
 refine wpC_ok (V := [0,27,37,61]) _ _ _ _ ?_;by_cases hlt : i + k < w.length;rotate_left
 ·have d1 : decide (i + k < w.length) = false := decide_eq_false hlt;have e0 : i + k = w.length := by omega
  rw [e0,List.drop_length,blks_nil,Nat.add_zero] at hb;rw [hb] at hk;(refine draw_ok (V := [0,27,37,61]) (OT.l [0,1,2,3,4,5,6,7,8,9,10,11,12,13,14,15,16,17,18,19,20,21,22,23,24,25] .nil) [] mixed_cx (by decide +kernel) ?_; simp only [go_sem,d1]);exact DK.here hk
 have d1 : decide (i + k < w.length) = true := decide_eq_true hlt;obtain ⟨d,v,hdr⟩ : ∃ d v,w.drop (i + k) = d :: v := ⟨_,_,List.drop_eq_getElem_cons hlt⟩
 have hd : w[i + k]? = some d := by
  have := congrArg (·[0]?) hdr;simpa using this
 have one : isBlank d = true → i + (k + 1) ≤ w.length ∧ blks (w.drop i) = k + 1 + blks (w.drop (i + (k + 1))) := fun h => by
  refine ⟨by omega,?_⟩;rw [hb,hdr,blks_blank h,show i + (k + 1) = i + k + 1 from rfl,← List.drop_drop,hdr];simp; omega
 (refine draw_ok (V := [0,27,37,61]) (OT.l [0,1,2,3,4,5,6,7,8,9,10,11,12,13,14,15,16,17,18,19,20,21,22,23,24,25] .nil) [] mixed_cx (by decide +kernel) ?_; simp only [go_sem,d1,hd,hlt]);refine blank187_den d ?_;simp only [go_sem];cases hB : isBlank d with
 | true =>
  simp only [go_sem];(refine draw_ok (V := [0,27,37,61]) (OT.l [0,1,2,3,4,5,6,7,8,9] .nil) [] mixed_cx (by decide +kernel) ?_; simp only [go_sem,hd,hlt]);refine blank187_den d ?_;simp only [go_sem,hB];refine take94_den (i := i + k) 1 (by simp only [gA1,gA2,gA3,gA6,ne_eq,gA9,reduceIte,] <;> (first | done | rfl | assumption)) hx (by omega) (by omega) (by omega) ?_;simp only [go_sem];refine ⟨k + 1,one hB,by omega,?_⟩;rw [hstep 1];exact St.ge.refl _
 | false =>
  simp only [go_sem];refine begins188_den (i := i + k) [47,47] (by simp only [gA1,gA2,gA3,gA6,ne_eq,gA9,reduceIte,] <;> (first | done | rfl | assumption)) hx (by omega) (by decide) ?_;rw [hdr];cases hP : hasPre (d :: v) [47,47] with
  | false =>
   rw [hdr,blks_none hB hP,Nat.add_zero] at hb;rw [hb] at hk;simp only [go_sem];exact DK.here hk
  | true =>
   simp only [go_sem];(refine draw_ok (V := [0,27,37,61]) (OT.l [0,1,2,3,4,5,6,7,8,9] .nil) [] mixed_cx (by decide +kernel) ?_; simp only [go_sem,hd,hlt]);refine blank187_den d ?_;simp only [go_sem,hB];have ht := takeWhile_pre hP;have hbt := blks_note hB hP;rw [← hdr] at ht hbt;generalize hT : ((w.drop (i + k)).takeWhile fun c => !decide (c = 10)).length = t at ht hbt
   refine Ex.loop (ι := Nat) (fun _ => [(0,.ptr r 0)])
    (fun m => s.setO r (ctO w (i + (k + m)) (adv (l,c) ((w.drop i).take (k + m))).1 (adv (l,c) ((w.drop i).take (k + m))).2 sg out f))
    (fun m => i + (k + m) ≤ w.length ∧ t = m + ((w.drop (i + (k + m))).takeWhile fun c => !decide (c = 10)).length) (fun m => w.length - (i + (k + m))) 0 ⟨by omega,by simp [hT]⟩ ?_ ?_ ?_
   ·simp only [go_sem]
    try rfl
   ·exact St.ge.refl _
   rintro m ⟨hmx,hm⟩;have hlen2 : ((w.drop i).take (k + m)).length = k + m := by rw [List.length_take,List.length_drop]; omega
   have hal2 := adv_le ((w.drop i).take (k + m)) (l,c) i hl hc;rw [hlen2] at hal2;refine wpC_ok (V := [0,27,37,61]) _ _ _ _ ?_
   have done : t = m → i + (k + t) ≤ w.length ∧ blks (w.drop i) = k + t + blks (w.drop (i + (k + t))) := fun e => by
    subst e;refine ⟨hmx,?_⟩;rw [hb,hbt,List.drop_drop,Nat.add_assoc,Nat.add_assoc]
   by_cases hlt2 : i + (k + m) < w.length;rotate_left
   ·have d2 : decide (i + (k + m) < w.length) = false := decide_eq_false hlt2;have e0 : i + (k + m) = w.length := by omega
    rw [e0,List.drop_length] at hm;have hm : t = m := hm;(refine draw_ok (V := [0,27,37,61]) (OT.l [0,1,2,3,4,5,6,7,8,9,10,11,12,13,14,15,16,17,18,19,20,21] .nil) [] mixed_cx (by decide +kernel) ?_; simp only [go_sem,d2]);subst hm;exact ⟨k + t,done rfl,by omega,St.ge.refl _⟩
   have d2 : decide (i + (k + m) < w.length) = true := decide_eq_true hlt2;obtain ⟨d',v',hdr'⟩ : ∃ d v,w.drop (i + (k + m)) = d :: v := ⟨_,_,List.drop_eq_getElem_cons hlt2⟩
   have hd' : w[i + (k + m)]? = some d' := by
    have := congrArg (·[0]?) hdr';simpa using this
   rw [hdr'] at hm
   have e10 : decide ((d'.toNat : Int) = 10) = decide (d' = 10) := by
    rw [decide_eq_decide];constructor
    ·intro h; exact UInt8.toNat_inj.1 (by show d'.toNat = 10; omega)
    ·rintro rfl; rfl
   cases hN : decide (d' = 10) with
   | true =>
    rw [List.takeWhile_cons_of_neg (by simp only [hN]; decide)] at hm;have hm : t = m := hm;(refine draw_ok (V := [0,27,37,61]) (OT.l [0,1,2,3,4,5,6,7,8,9,10,11,12,13,14,15,16,17,18,19,20,21] .nil) [] mixed_cx (by decide +kernel) ?_; simp only [go_sem,d2,hd',hlt2,e10,hN]);subst hm;exact ⟨k + t,done rfl,by omega,St.ge.refl _⟩
   | false =>
    rw [List.takeWhile_cons_of_pos (by simp only [hN]; decide),List.length_cons] at hm;(refine draw_ok (V := [0,27,37,61]) (OT.l [0,1,2,3,4,5,6,7,8,9,10,11,12,13,14,15,16,17,18,19,20,21] .nil) [] mixed_cx (by decide +kernel) ?_; simp only [go_sem,d2,hd',hlt2,e10,hN]);refine take94_den (i := i + (k + m)) 1 (by simp only [gA1,gA2,gA3,gA6,ne_eq,gA9,reduceIte,] <;> (first | done | rfl | assumption)) hx (by omega) (by omega) (by omega) ?_;simp only [go_sem];refine ⟨m + 1,⟨by omega,?_⟩,by omega,?_⟩
    ·rw [show i + (k + (m + 1)) = i + (k + m) + 1 by omega,← List.drop_drop,hdr'];simp only [List.drop_succ_cons,List.drop_zero];omega
    ·have hst : adv (l,c) ((w.drop i).take (k + (m + 1))) = adv (adv (l,c) ((w.drop i).take (k + m))) ((w.drop (i + (k + m))).take 1) := by
      rw [← Nat.add_assoc,List.take_add,adv_app,List.drop_drop]
     rw [hst];exact St.ge.refl _
end
end Go.AV
end
section
namespace Go.AV
open Go Go.Proofs
theorem dec_low {x : Str} {i : Nat} {d : UInt8} (hd : x[i]? = some d) (h : d.toNat < 128) : Utf8.decode ⟨x.toArray⟩ i = (d.toNat,1) := by
 have hi : i < x.length := (List.getElem?_eq_some_iff.1 hd).1;have hs : i < (ByteArray.mk x.toArray).size := by simpa [ByteArray.size] using hi
 have e : (ByteArray.mk x.toArray)[i]'hs = d := by
  exact (List.getElem?_eq_some_iff.1 hd).2
 have := decode_ascii ⟨x.toArray⟩ i hs (by rw [e]; exact h);rw [this,e]
theorem dec_high {x : Str} {i : Nat} {d : UInt8} (hd : x[i]? = some d) (h : 128 ≤ d.toNat) : 128 ≤ (Utf8.decode ⟨x.toArray⟩ i).1 := by
 have hi : i < x.length := (List.getElem?_eq_some_iff.1 hd).1;have hs : i < (ByteArray.mk x.toArray).size := by simpa [ByteArray.size] using hi
 have e : (ByteArray.mk x.toArray)[i]'hs = d := by
  exact (List.getElem?_eq_some_iff.1 hd).2
 exact (decode_high ⟨x.toArray⟩ i hs (by rw [e]; exact h)).1
theorem isString_den (s : St) (x : Str) (KV Kp) (hk : KV s (.bool (isStr x))) : Den cx 273 [.str x] KV Kp s := by
 refine Den.drop ?_; (refine Den.of_body (C := cx) Tryz.func273 rfl rfl (Nat.le_of_ble_eq_true rfl) ?_; refine wpC_ok (V := [0,2,4,6,7,8,23]) _ _ _ _ ?_; simp only [go_sem,Tryz.ntmps273,Tryz.f273]);intro b hb;simp only [go_sem]
 refine Ex.loop (fun i => [(0,.str x),(6,.ptr b 0)]) (fun i => s.setO b (.iter x i))
  (fun i => i ≤ x.length ∧ ∀ d ∈ x.take i,okB d = true) (fun i => x.length - i) 0 ⟨Nat.zero_le _,by simp⟩ ?_ (St.ge.refl _) ?_
 ·simp only [go_sem]
 ·rintro i ⟨hi,hall⟩;refine wpC_ok (V := [0,2,4,6,7,8,23]) _ _ _ _ ?_;by_cases hlt : i < x.length
  ·obtain ⟨d,hd⟩ : ∃ d,x[i]? = some d := ⟨_,List.getElem?_eq_getElem hlt⟩
   have bad : okB d = false → ∀ o,DK KV (s.setO b o) (.bool false) := fun ho o => by
    have : isStr x = false := by
     rw [isStr,Bool.and_eq_false_iff];refine .inl (Bool.eq_false_iff.2 fun hall => ?_);rw [List.all_eq_true] at hall;rw [hall d (List.mem_of_getElem? hd)] at ho;cases ho
    rw [this] at hk;exact DK.st hk (St.ge_new hb)
   by_cases hlow : d.toNat < 128
   ·by_cases ho : okB d = true
    ·have ho' := ho;simp only [okB,Bool.and_eq_true,decide_eq_true_eq,Bool.not_eq_true',decide_eq_false_iff_not] at ho';obtain ⟨o1,o2,o3,o4⟩ := ho';have n3 : ¬ d.toNat = 34 := fun e => o3 (UInt8.toNat_inj.1 e)
     have n4 : ¬ d.toNat = 92 := fun e => o4 (UInt8.toNat_inj.1 e)
     have e1 : decide ((d.toNat : Int) < 32) = false := decide_eq_false (by omega);have e2 : decide (126 < (d.toNat : Int)) = false := decide_eq_false (by omega);have e3 : decide ((d.toNat : Int) = 34) = false := decide_eq_false (by omega);have e4 : decide ((d.toNat : Int) = 92) = false := decide_eq_false (by omega);simp only [go_sem,hlt,dec_low hd hlow,e1,e2,e3,e4];refine ⟨i + 1,⟨by omega,fun q hq => ?_⟩,by omega,St.ge.refl _⟩;rw [List.take_add_one,hd] at hq;simp only [List.mem_append,Option.toList_some,List.mem_singleton] at hq;rcases hq with hq | rfl
     ·exact hall q hq
     ·exact ho
    ·have ho' : okB d = false := by simpa using ho
     have bad := bad ho';by_cases o1 : 32 ≤ d.toNat
     ·have e1 : decide ((d.toNat : Int) < 32) = false := decide_eq_false (by omega);by_cases o2 : d.toNat ≤ 126
      ·have e2 : decide (126 < (d.toNat : Int)) = false := decide_eq_false (by omega);by_cases o3 : d.toNat = 34
       ·have e3 : decide ((d.toNat : Int) = 34) = true := decide_eq_true (by omega);simp only [go_sem,hlt,dec_low hd hlow,e1,e2,e3];exact bad _
       ·have e3 : decide ((d.toNat : Int) = 34) = false := decide_eq_false (by omega)
        have o4 : d.toNat = 92 := by
         have n3 : ¬ d = 34 := fun e => o3 (by rw [e]; rfl)
         simp only [okB,o1,o2,n3,decide_true,decide_false,Bool.true_and,Bool.not_false,Bool.not_eq_false',decide_eq_true_eq] at ho';rw [ho']; rfl
        have e4 : decide ((d.toNat : Int) = 92) = true := decide_eq_true (by omega);simp only [go_sem,hlt,dec_low hd hlow,e1,e2,e3,e4];exact bad _
      ·have e2 : decide (126 < (d.toNat : Int)) = true := decide_eq_true (by omega);simp only [go_sem,hlt,dec_low hd hlow,e1,e2];exact bad _
     ·have e1 : decide ((d.toNat : Int) < 32) = true := decide_eq_true (by omega);simp only [go_sem,hlt,dec_low hd hlow,e1];exact bad _
   ·have hh := dec_high hd (by omega);have e1 : decide (((Utf8.decode ⟨x.toArray⟩ i).1 : Int) < 32) = false := decide_eq_false (by omega);have e2 : decide (126 < ((Utf8.decode ⟨x.toArray⟩ i).1 : Int)) = true := decide_eq_true (by omega);simp only [go_sem,hlt,e1,e2];exact bad (by simp only [okB,show ¬ d.toNat ≤ 126 from by omega,decide_false,Bool.false_and,Bool.and_false]) _
  ·have hix : i = x.length := by omega
   simp only [go_sem,hlt];refine DK.st (s2 := s) ?_ (St.ge_new hb)
   have : isStr x = decide ((x.length : Int) ≤ 200) := by
    rw [isStr]
    have : x.all okB = true := by
     rw [List.all_eq_true];intro d hd;rw [hix,List.take_length] at hall;exact hall d hd
    rw [this,Bool.true_and];congr 1;simp; omega
   rwa [this] at hk
end Go.AV
end
section
namespace Go.AV
open Go Go.Proofs
theorem trimByte_den (s : St) (x : Str) (c : UInt8) (KV Kp) (hk : KV s (.str (x.dropWhile (eqB c)))) : Den cx 323 [.str x,.int .u8 c.toNat] KV Kp s := by
 refine Den.drop ?_; (refine Den.of_body (C := cx) Tryz.func323 rfl rfl (Nat.le_of_ble_eq_true rfl) ?_; refine wpC_ok (V := [0,1,4,13]) _ _ _ _ ?_; simp only [go_sem,Tryz.ntmps323,Tryz.f323])
 refine Ex.loop (fun w => [(0,.str w),(1,.int .u8 c.toNat)]) (fun _ => s)
  (fun w => w.dropWhile (eqB c) = x.dropWhile (eqB c)) (fun w => w.length) x rfl ?_ (St.ge.refl s) ?_
 ·simp only [go_sem]
 ·intro w hw;refine wpC_ok (V := [0,1,4,13]) _ _ _ _ ?_;cases w with
  | nil =>
   simp only [go_sem,show decide ((0 : Int) < ((0 : Nat) : Int)) = false from rfl];rw [← hw] at hk;exact DK.here hk
  | cons b r =>
   simp only [go_sem,show decide ((0 : Int) < ((r.length + 1 : Nat) : Int)) = true from decide_eq_true (by omega)]
   have e : decide (b.toNat = c.toNat) = eqB c b := by
    unfold eqB;congr 1;exact propext UInt8.toNat_inj
   simp only [go_sem,e]
   (first | refine gdK_split (fun h => ?_) (fun h => ?_) | refine brK_split (fun h => ?_) (fun h => ?_) | refine gdX_split (fun h => ?_) (fun h => ?_)) <;> simp only [go_sem,h]
   ·simp only [go_sem,show (1 : Int) ≤ ((r.length + 1 : Nat) : Int) from by omega,show Int.toNat 1 = 1 from rfl];refine ⟨by decide,r,?_,by omega,?_,St.ge.refl s⟩
    ·rw [← hw,List.dropWhile_cons,if_pos h]
    ·exact List.take_of_length_le (by omega)
   ·rw [← hw,List.dropWhile_cons,if_neg (by simp [h])] at hk;exact DK.here hk
theorem trimLeft_den (s : St) (x : Str) (c : UInt8) (KV Kp) (hc : c.toNat < 128) (hk : KV s (.str (x.dropWhile (eqB c)))) : Den cx 314 [.str x,.str [c]] KV Kp s := by
 refine Den.drop ?_; (refine Den.of_body (C := cx) Tryz.func314 rfl rfl (Nat.le_of_ble_eq_true rfl) ?_; refine wpC_ok (V := [0,1,4,5,6,12,21,31]) _ _ _ _ ?_; simp only [go_sem,Tryz.ntmps314,Tryz.f314]);cases x with
 | nil =>
  simp only [go_sem];exact DK.here hk
 | cons b r =>
  simp only [go_sem,show decide (((1 : Nat) : Int) = 1) = true from rfl,show decide ((c.toNat : Int) < 128) = true from decide_eq_true (by omega)];refine trimByte_den _ _ _ _ _ ?_;simp only [go_sem];exact DK.here hk
end Go.AV
end
section
namespace Go.AV
open Go Go.Proofs
theorem numOf_app (x : Str) (d : UInt8) : numOf (x ++ [d]) = numOf x * 10 + (d.toNat - 48) := by
 simp [numOf,List.foldl_append]
theorem numOf_lt : ∀ (n : Nat) (x : Str),x.length = n → digits x → numOf x < 10 ^ n
 | 0,x,h,_ => by have : x = [] := List.eq_nil_of_length_eq_zero h; subst this; simp [numOf]
 | n + 1,x,h,hd => by
  have hne : x ≠ [] := by rintro rfl; simp at h
  obtain ⟨y,d,rfl⟩ : ∃ y d,x = y ++ [d] := ⟨x.dropLast,x.getLast hne,(List.dropLast_concat_getLast hne).symm⟩
  have ih := numOf_lt n y (by simpa using h) (fun e he => hd e (by simp [he]));have := hd d (by simp);rw [numOf_app,Nat.pow_succ];omega
theorem atoi_den (s : St) (x : Str) (KV Kp) (hl : 1 ≤ x.length) (hl2 : x.length ≤ 11) (hd : digits x) (hk : KV s (.tuple [.int .i64 (numOf x),.nili])) : Den cx 327 [.str x] KV Kp s := by
 obtain ⟨b,r,rfl⟩ : ∃ b r,x = b :: r := by
  cases x with
  | nil => simp at hl
  | cons b r => exact ⟨b,r,rfl⟩
 have hb := hd b (by simp);refine Den.drop ?_; (refine Den.of_body (C := cx) Tryz.func327 rfl rfl (Nat.le_of_ble_eq_true rfl) ?_; refine wpC_ok (V := [0,2,3,4,5,6,8,9,10,30,39,44,47,48,49,50,56,66]) _ _ _ _ ?_; simp only [go_sem,Tryz.ntmps327,Tryz.f327]);have e1 : decide ((0 : Int) < ((r.length + 1 : Nat) : Int)) = true := decide_eq_true (by omega);have e2 : decide (((r.length + 1 : Nat) : Int) < 19) = true := decide_eq_true (by simp at hl2; omega);have e3 : decide ((b.toNat : Int) = 45) = false := decide_eq_false (by omega);have e4 : decide ((b.toNat : Int) = 43) = false := decide_eq_false (by omega);simp only [go_sem,e1,e2,e3,e4];refine ⟨by unfold maxLen; simp at hl2; omega,?_⟩;have hx : (b :: r).length = r.length + 1 := rfl;generalize hxx : b :: r = x at *
 refine Ex.loop (fun i => [(5,.str x),(6,.int .i64 (numOf (x.take i) : Nat)),(47,.list none (x.map fun c => .int .u8 c.toNat)),(48,.int .i64 ((r.length + 1 : Nat))),(49,.int .i64 (i : Nat)),(3,.nili)]) (fun _ => s)
  (fun i => i ≤ x.length) (fun i => x.length - i) 0 (Nat.zero_le _) ?_ (St.ge.refl s) ?_
 ·simp only [go_sem];subst hxx;exact ⟨rfl,rfl,rfl⟩
 ·intro i hi;refine wpC_ok (V := [0,2,3,4,5,6,8,9,10,30,39,44,47,48,49,50,56,66]) _ _ _ _ ?_;simp only [go_sem]
  (first | refine gdK_split (fun h => ?_) (fun h => ?_) | refine brK_split (fun h => ?_) (fun h => ?_) | refine gdX_split (fun h => ?_) (fun h => ?_)) <;> simp only [go_sem,h]
  ·have hix : i < x.length := by simp at h; omega
   obtain ⟨d,hdd⟩ : ∃ d,x[i]? = some d := ⟨_,List.getElem?_eq_getElem hix⟩
   have hdig := hd d (List.mem_of_getElem? hdd)
   have f1 : IntKind.u8.wrap ((d.toNat : Int) - 48) = ((d.toNat - 48 : Nat) : Int) := by
    have e0 : ((d.toNat : Int) - 48) % 2 ^ 8 = (d.toNat : Int) - 48 := by omega
    simp only [IntKind.wrap,IntKind.signed,IntKind.bits,Bool.false_and,Bool.false_eq_true,if_false,e0];omega
   have hn : numOf (x.take i) < 10 ^ 11 := by
    have h1 := numOf_lt (x.take i).length (x.take i) rfl (fun e he => hd e (List.mem_of_mem_take he));have h2 : (x.take i).length ≤ 11 := by rw [List.length_take]; omega
    exact Nat.lt_of_lt_of_le h1 (Nat.pow_le_pow_right (by decide) h2)
   have f2 : decide ((9 : Int) < ((d.toNat - 48 : Nat) : Int)) = false := decide_eq_false (by omega)
   have f3 : IntKind.i64.wrap (((numOf (x.take i) : Nat) : Int) * 10) = ((numOf (x.take i) * 10 : Nat) : Int) := by
    rw [wrap_in _ (by omega) (by omega)]; omega
   have f4 : IntKind.i64.wrap ((d.toNat - 48 : Nat) : Int) = ((d.toNat - 48 : Nat) : Int) := wrap_in _ (by omega) (by omega)
   have f5 : IntKind.i64.wrap (((numOf (x.take i) * 10 : Nat) : Int) + ((d.toNat - 48 : Nat) : Int)) = ((numOf (x.take (i + 1)) : Nat) : Int) := by
    rw [List.take_add_one,hdd];show _ = ((numOf (x.take i ++ [d]) : Nat) : Int);rw [numOf_app,wrap_in _ (by omega) (by omega)]; omega
   simp only [go_sem,hdd,hix,f1,f2,f3,f4,f5,wrap1 i (by omega)];exact ⟨i + 1,by omega,by omega,⟨rfl,rfl⟩,St.ge.refl s⟩
  ·have hix : i = x.length := by simp at h; omega
   have h0 : x[0]? = some b := by rw [← hxx]; rfl
   have hl0 : 0 < x.length := by omega
   simp only [go_sem,h0,hl0,e3];rw [hix,List.take_length];exact DK.here hk
theorem atoi315_den (s : St) (x : Str) (KV Kp) (hl : 1 ≤ x.length) (hl2 : x.length ≤ 11) (hd : digits x) (hk : KV s (.tuple [.int .i64 (numOf x),.nili])) : Den cx 315 [.str x] KV Kp s := by
 refine Den.drop ?_; (refine Den.of_body (C := cx) Tryz.func315 rfl rfl (Nat.le_of_ble_eq_true rfl) ?_; refine wpC_ok (V := [0,2,3,4,5,12]) _ _ _ _ ?_; simp only [go_sem,Tryz.ntmps315,Tryz.f315]);refine atoi_den _ _ _ _ hl hl2 hd ?_;simp only [go_sem];exact DK.here hk
end Go.AV
end
section
namespace Go.AV
open Go Go.Proofs
theorem number_den (s : St) (x : Str) (KV Kp) (hx : x.length ≤ 4294967296) (hk : KV s (.tuple [(numTok x).1.enc,.int .i64 (numTok x).2.1,.bool (numTok x).2.2])) : Den cx 302 [.str x] KV Kp s := by
 refine Den.drop ?_; (refine Den.of_body (C := cx) Tryz.func302 rfl rfl (Nat.le_of_ble_eq_true rfl) ?_; refine wpC_ok (V := [0,2,3,4,5,6,28]) _ _ _ _ ?_; simp only [go_sem,Tryz.ntmps302,Tryz.f302]);intro b hb;simp only [go_sem,hb];refine run_den _ _ _ (fun c => isDig c.toNat) _ _ hx (fun c KV Kp h => isDigit_den _ _ _ _ h) ?_;generalize hn : (x.takeWhile fun c => isDig c.toNat).length = n at hk;have hnl : n ≤ x.length := by rw [← hn]; exact (List.takeWhile_sublist _).length_le
 simp only [go_sem,hnl];refine trimLeft_den _ _ 48 _ _ (by decide) ?_;simp only [go_sem];generalize hg : (x.take n).dropWhile (eqB 48) = g at hk
 have bad : (10 < g.length ∨ (∃ c,x[n]? = some c ∧ isPart c.toNat = true)) → numTok x = (⟨0,[],0,0,0⟩,0,false) := by
  intro hh;simp only [numTok,hn,hg,if_pos hh]
 have good : ¬ (10 < g.length ∨ (∃ c,x[n]? = some c ∧ isPart c.toNat = true)) → numTok x = (⟨2,[],numOf g,0,0⟩,n,decide (numOf g ≤ 2147483647)) := by
  intro hh;simp only [numTok,hn,hg,if_neg hh]
 have hdg : digits g := by
  intro d hd;rw [← hg] at hd;have h1 := (List.dropWhile_sublist _).mem hd;rw [← hn] at h1
  have h2 : d ∈ x.takeWhile fun c => isDig c.toNat := by
   have := List.mem_of_mem_take (l := x) h1
   have e : x.take (x.takeWhile fun c => isDig c.toNat).length = x.takeWhile fun c => isDig c.toNat := by
    conv => lhs; arg 2; rw [← List.takeWhile_append_dropWhile (p := fun c => isDig c.toNat) (l := x)]
    rw [List.take_left'];rfl
   rw [e] at h1; exact h1
  have h3 := List.all_eq_true.1 (List.all_takeWhile (p := fun c : UInt8 => isDig c.toNat) (l := x)) d h2;simp only [isDig,Bool.and_eq_true,decide_eq_true_eq] at h3;omega
 (first | refine gdK_split (fun h => ?_) (fun h => ?_) | refine brK_split (fun h => ?_) (fun h => ?_) | refine gdX_split (fun h => ?_) (fun h => ?_)) <;> simp only [go_sem,h,hb]
 ·rw [bad (.inl (by simp at h; omega))] at hk;exact DK.st hk (St.ge_new hb)
 ·have hg10 : ¬ 10 < g.length := by simp at h; omega
  (first | refine gdK_split (fun h => ?_) (fun h => ?_) | refine brK_split (fun h => ?_) (fun h => ?_) | refine gdX_split (fun h => ?_) (fun h => ?_)) <;> simp only [go_sem,h,hb]
  ·have hlt : n < x.length := by simpa using h
   obtain ⟨c,hc⟩ : ∃ c,x[n]? = some c := ⟨_,List.getElem?_eq_getElem hlt⟩
   simp only [go_sem,hc,hlt,hb];refine isPart_den _ _ _ _ ?_;simp only [go_sem,hb]
   (first | refine gdK_split (fun h => ?_) (fun h => ?_) | refine brK_split (fun h => ?_) (fun h => ?_) | refine gdX_split (fun h => ?_) (fun h => ?_)) <;> simp only [go_sem,h,hb]
   ·rw [bad (.inr ⟨c,hc,h⟩)] at hk;exact DK.st hk (St.ge_new hb)
   ·have hno : ¬ (10 < g.length ∨ (∃ c,x[n]? = some c ∧ isPart c.toNat = true)) := by
     rintro (h1 | ⟨c',h1,h2⟩)
     ·exact hg10 h1
     ·rw [hc] at h1; cases h1; rw [h] at h2; cases h2
    have hgd := good hno;rw [hgd] at hk;have m1 : (48 :: g).length ≤ 11 := by simp; omega
    refine ⟨by unfold maxLen; omega,?_⟩
    refine atoi315_den _ _ _ _ (by simp) m1 (fun d hd => by
     simp only [List.mem_cons] at hd;rcases hd with rfl | hd
     ·decide
     ·exact hdg d hd) ?_
    have m2 : numOf (48 :: g) = numOf g := rfl;simp only [go_sem,hb,m2];have m3 : decide (((numOf g : Nat) : Int) ≤ 2147483647) = decide (numOf g ≤ 2147483647) := by congr 1; simp only [eq_iff_iff]; omega
    rw [m3];exact DK.st hk (St.ge_new hb)
  ·have hno : ¬ (10 < g.length ∨ (∃ c,x[n]? = some c ∧ isPart c.toNat = true)) := by
    rintro (h1 | ⟨c',h1,h2⟩)
    ·exact hg10 h1
    ·have := (List.getElem?_eq_some_iff.1 h1).1;simp at h; omega
   have hgd := good hno;rw [hgd] at hk;have m1 : (48 :: g).length ≤ 11 := by simp; omega
   refine ⟨by unfold maxLen; omega,?_⟩
   refine atoi315_den _ _ _ _ (by simp) m1 (fun d hd => by
    simp only [List.mem_cons] at hd;rcases hd with rfl | hd
    ·decide
    ·exact hdg d hd) ?_
   have m2 : numOf (48 :: g) = numOf g := rfl;simp only [go_sem,hb,m2];have m3 : decide (((numOf g : Nat) : Int) ≤ 2147483647) = decide (numOf g ≤ 2147483647) := by congr 1; simp only [eq_iff_iff]; omega
   rw [m3];exact DK.st hk (St.ge_new hb)
end Go.AV
end
section
namespace Go.AV
open Go Go.Proofs
theorem count142_den (s : St) (x : Str) (c : UInt8) (KV Kp) (hk : KV s (.int .i64 (x.count c : Nat))) : Den cx 142 [.str x,.str [c]] KV Kp s := by
 refine Den.drop ?_; (refine Den.of_body (C := cx) Tryz.func142 rfl rfl (Nat.le_of_ble_eq_true rfl) ?_; refine wpC_ok (V := [0,1,4,5,6,9,15,24]) _ _ _ _ ?_; simp only [go_sem,Tryz.ntmps142,Tryz.f142]);simp only [go_sem,show decide (((1 : Nat) : Int) = 0) = false from rfl,show decide (((1 : Nat) : Int) = 1) = true from rfl];refine count217_den _ _ _ _ _ ?_;simp only [go_sem];exact DK.here hk
theorem slIndex_den (s : St) (l : List Str) (x : Str) (KV Kp) (hk : ∀ r : Int,(0 ≤ r ↔ x ∈ l) → KV s (.int .i64 r)) : Den cx 198 [.list none (l.map .str),.str x] KV Kp s := by
 refine Den.rlz fun hz1 => ?_
 have hlw := hz1 _ (List.mem_cons_self ..);refine Den.drop ?_; (refine Den.of_body (C := cx) Tryz.func198 rfl rfl (Nat.le_of_ble_eq_true rfl) ?_; refine wpC_ok (V := [0,1,4,5,7,8,9,16]) _ _ _ _ ?_; simp only [go_sem,Tryz.ntmps198,Tryz.f198])
 refine Ex.loop (fun i => [(0,.list none (l.map .str)),(1,.str x),(7,.int .i64 l.length),(8,.int .i64 (i : Nat))]) (fun _ => s)
  (fun i => i ≤ l.length ∧ ∀ j,j < i → l[j]? ≠ some x) (fun i => l.length - i) 0 ⟨Nat.zero_le _,fun j hj => by omega⟩ ?_ (St.ge.refl s) ?_
 ·simp only [go_sem];rfl
 ·rintro i ⟨hi,hall⟩;refine wpC_ok (V := [0,1,4,5,7,8,9,16]) _ _ _ _ ?_;simp only [go_sem]
  (first | refine gdK_split (fun h => ?_) (fun h => ?_) | refine brK_split (fun h => ?_) (fun h => ?_) | refine gdX_split (fun h => ?_) (fun h => ?_)) <;> simp only [go_sem,h]
  ·have hix : i < l.length := by simpa using h
   obtain ⟨a,ha⟩ : ∃ a,l[i]? = some a := ⟨_,List.getElem?_eq_getElem hix⟩
   simp only [go_sem,ha,hix]
   (first | refine gdK_split (fun h => ?_) (fun h => ?_) | refine brK_split (fun h => ?_) (fun h => ?_) | refine gdX_split (fun h => ?_) (fun h => ?_)) <;> simp only [go_sem,h]
   ·have hxa : x = a := by simpa using h
    subst hxa;have hm : x ∈ l := List.mem_of_getElem? ha;exact DK.here (hk _ ⟨fun _ => hm,fun _ => by omega⟩)
   ·have hxa : ¬ x = a := by simpa using h
    refine ⟨i + 1,⟨by omega,fun j hj => ?_⟩,by omega,?_,St.ge.refl s⟩
    ·by_cases hji : j = i
     ·subst hji; rw [ha]; simpa [eq_comm] using hxa
     ·exact hall j (by omega)
    ·simp only [go_sem,hlw.wrap (i := i) (by simpa using hix)]
  ·have hix : i = l.length := by simp at h; omega
   have hm : ¬ x ∈ l := by
    intro hm;obtain ⟨j,hj,e⟩ := List.getElem_of_mem hm;exact hall j (by omega) (by rw [List.getElem?_eq_getElem hj,e])
   exact DK.here (hk _ ⟨fun h => absurd h (by decide),fun h => absurd h hm⟩)
theorem contains_den (s : St) (l : List Str) (x : Str) (KV Kp) (hk : KV s (.bool (decide (x ∈ l)))) : Den cx 108 [.list none (l.map .str),.str x] KV Kp s := by
 refine Den.drop ?_; (refine Den.of_body (C := cx) Tryz.func108 rfl rfl (Nat.le_of_ble_eq_true rfl) ?_; refine wpC_ok (V := [0,1,4]) _ _ _ _ ?_; simp only [go_sem,Tryz.ntmps108,Tryz.f108]);refine slIndex_den _ _ _ _ _ fun r hr => ?_
 simp only [go_sem];have : decide (0 ≤ r) = decide (x ∈ l) := by simp only [hr]
 rw [this];exact DK.here hk
end Go.AV
end
