/-
  Part of the proof of DefBlanks.
-/
import Derived.Test.YtamikhobdffnfaaGreatDoorBl17
set_option linter.all false
set_option maxRecDepth 1000000
set_option maxHeartbeats 40000000
section
namespace Go.AV
open Go Go.Proofs
noncomputable def xtS:XT:=⟨TTc,cx.eq,glS,cvS,usS⟩
theorem xt_ttc:xtS.tt=TTc:=rfl
theorem xt_tt:xtS.tt=cxd.tt:=rfl
theorem xt_eq:xtS.eq=cxd.eq:=rfl
theorem xt_gl:xtS.gl=cxd.gl:=rfl
theorem xt_cv:xtS.cv=cxd.cv:=rfl
theorem xt_us:xtS.us=cxd.us:=rfl
theorem xtS_ok:xtS.ok cxd where
 tt:=fun t ti h=>by rw[← xt_tt];exact h
 eq:=fun t a b r h=>by rw[← xt_eq];exact h
 gl:=fun g=>by rw[xt_gl]
 cv:=fun a b=>by rw[xt_cv]
 us:=fun a=>by rw[xt_us]
noncomputable def ckO (f:FuncId):Bool:=match Tryz.prog.funcs[f]? with
 | some fn=>(match fn.body with
  | some c=>ordOk TTc ordS f c
  | none=>true)
 | none=>true
noncomputable def ckN (f:FuncId):Bool:=match Tryz.prog.funcs[f]? with
 | some fn => !(fn.name == "runtime.NumGoroutine")
 | none=>true
theorem ck_size:Tryz.prog.funcs.size≤400:=by decide +kernel
theorem ckO0:(List.range' 0 50).all ckO=true:=by decide +kernel
theorem ckN0:(List.range' 0 50).all ckN=true:=by decide +kernel
theorem ckO50:(List.range' 50 50).all ckO=true:=by decide +kernel
theorem ckN50:(List.range' 50 50).all ckN=true:=by decide +kernel
theorem ckO100:(List.range' 100 50).all ckO=true:=by decide +kernel
theorem ckN100:(List.range' 100 50).all ckN=true:=by decide +kernel
theorem ckO150:(List.range' 150 50).all ckO=true:=by decide +kernel
theorem ckN150:(List.range' 150 50).all ckN=true:=by decide +kernel
theorem ckO200:(List.range' 200 50).all ckO=true:=by decide +kernel
theorem ckN200:(List.range' 200 50).all ckN=true:=by decide +kernel
theorem ckO250:(List.range' 250 50).all ckO=true:=by decide +kernel
theorem ckN250:(List.range' 250 50).all ckN=true:=by decide +kernel
theorem ckO300:(List.range' 300 50).all ckO=true:=by decide +kernel
theorem ckN300:(List.range' 300 50).all ckN=true:=by decide +kernel
theorem ckO350:(List.range' 350 50).all ckO=true:=by decide +kernel
theorem ckN350:(List.range' 350 50).all ckN=true:=by decide +kernel
theorem ck_all (f:Nat) (h:f<400):ckO f=true∧ckN f=true:=by
 have key:∀ (a:Nat) {p:FuncId→Bool},(List.range' a 50).all p=true→a≤f→f<a+50→p f=true:=fun a {p} hp h1 h2 =>
  List.all_eq_true.1 hp f (by rw[List.mem_range'_1];omega)
 rcases Nat.lt_or_ge f 50 with h1|h1
 ·exact ⟨key 0 ckO0 (by omega) (by omega),key 0 ckN0 (by omega) (by omega)⟩
 rcases Nat.lt_or_ge f 100 with h2|h2
 ·exact ⟨key 50 ckO50 (by omega) (by omega),key 50 ckN50 (by omega) (by omega)⟩
 rcases Nat.lt_or_ge f 150 with h3|h3
 ·exact ⟨key 100 ckO100 (by omega) (by omega),key 100 ckN100 (by omega) (by omega)⟩
 rcases Nat.lt_or_ge f 200 with h4|h4
 ·exact ⟨key 150 ckO150 (by omega) (by omega),key 150 ckN150 (by omega) (by omega)⟩
 rcases Nat.lt_or_ge f 250 with h5|h5
 ·exact ⟨key 200 ckO200 (by omega) (by omega),key 200 ckN200 (by omega) (by omega)⟩
 rcases Nat.lt_or_ge f 300 with h6|h6
 ·exact ⟨key 250 ckO250 (by omega) (by omega),key 250 ckN250 (by omega) (by omega)⟩
 rcases Nat.lt_or_ge f 350 with h7|h7
 ·exact ⟨key 300 ckO300 (by omega) (by omega),key 300 ckN300 (by omega) (by omega)⟩
 ·exact ⟨key 350 ckO350 (by omega) (by omega),key 350 ckN350 (by omega) (by omega)⟩
noncomputable def xpS (ext:FuncId→Option (List A→XS→CR)):XP:=⟨xtS,fnS,ext,ordS,40,36⟩
theorem xp_T (ext:FuncId→Option (List A→XS→CR)):(xpS ext).T=xtS:=by unfold xpS;with_reducible rfl
theorem xp_fns (ext:FuncId→Option (List A→XS→CR)):(xpS ext).fns=fnS:=by unfold xpS;with_reducible rfl
theorem xp_ord (ext:FuncId→Option (List A→XS→CR)):(xpS ext).ord=ordS:=by unfold xpS;with_reducible rfl
theorem xp_hd (ext:FuncId→Option (List A→XS→CR)):(xpS ext).hd=40:=by unfold xpS;with_reducible rfl
theorem xp_ft (ext:FuncId→Option (List A→XS→CR)):(xpS ext).ft=36:=by unfold xpS;with_reducible rfl
theorem xp_ext (ext:FuncId→Option (List A→XS→CR)):(xpS ext).ext=ext:=by unfold xpS;with_reducible rfl
theorem cxd_det:cxd.det=true:=rfl
theorem cxd_mix:cxd.P.follows .mixedOrders=true:=mixed_cx
theorem ent40 (k:Nat) (w:World):(invoke (.fn (.func 40) #[]) #[.pointer (some ⟨k,0,none⟩)]).run cxd.P w=.ok (.enter 40 #[.pointer (some ⟨k,0,none⟩)]) w:=by
 have hcf:(callFunc 40 #[.pointer (some ⟨k,0,none⟩)]).run Tryz.prog w=.ok (.enter 40 #[.pointer (some ⟨k,0,none⟩)]) w:=by
  have hf : Tryz.prog.funcs[40]? = some Tryz.f40 := Tryz.func40;have hname : (Tryz.f40.name == "runtime.NumGoroutine") = false := rfl;simp only [callFunc,Sem.run_bind,run_program,Result.andThen_ok,hf,hname,gD7,↓reduceIte,body40,Option.isNone_some,Sem.run_pure]
 show (callFunc 40 (#[Value.pointer (some ⟨k,0,none⟩)]++#[])).run Tryz.prog w=_;rw[Array.append_empty];exact hcf
theorem fnS_none {f:FuncId} (hf:Tryz.prog.funcs[f]?=none):fnS f=none:=by unfold fnS;rw[hf]
theorem fnS_nb {f:FuncId} {fn:Func} (hf:Tryz.prog.funcs[f]?=some fn) (hb:fn.body=none):fnS f=none:=by unfold fnS;rw[hf];simp only[hb]
theorem fnS_some {f:FuncId} {fn:Func} {c:Code} (hf:Tryz.prog.funcs[f]?=some fn) (hb:fn.body=some c):fnS f=some ⟨c,fn.ntmps,fn.results.toList,Nat.beq f 38||Nat.beq f 18⟩:=by unfold fnS;rw[hf];simp only[hb]
theorem ckN_at {f : FuncId} {fn : Func} (hf : Tryz.prog.funcs[f]? = some fn) (h : ckN f = true) : (fn.name == "runtime.NumGoroutine") = false := by
 unfold ckN at h;rw[hf] at h;simpa only[Bool.not_eq_true'] using h
theorem ckO_at {f:FuncId} {fn:Func} {c:Code} (hf:Tryz.prog.funcs[f]?=some fn) (hb:fn.body=some c) (h:ckO f=true):ordOk TTc ordS f c=true:=by
 unfold ckO at h;rw[hf] at h;simpa only[hb] using h
theorem fns_ok (f:FuncId) (fx:FX) (h:fnS f=some fx):∃ fn,Tryz.prog.funcs[f]?=some fn∧fn.body=some fx.code∧fn.ntmps=fx.n∧fn.results.toList=fx.rs ∧
  (fn.name == "runtime.NumGoroutine") = false ∧ ordOk TTc ordS f fx.code = true := by
 cases hf:Tryz.prog.funcs[f]? with
 | none=>rw[fnS_none hf] at h;cases h
 | some fn =>
  cases hb:fn.body with
  | none=>rw[fnS_nb hf hb] at h;cases h
  | some c =>
   rw[fnS_some hf hb] at h;have hlt:(f:Nat)<400:=Nat.lt_of_lt_of_le (Array.getElem?_eq_some_iff.1 hf).1 ck_size;obtain ⟨c1,c2⟩:=ck_all f hlt;have e:=Option.some.inj h;subst e;refine ⟨fn,rfl,hb,rfl,rfl,?_,?_⟩
   ·exact ckN_at hf c2
   ·exact ckO_at hf hb c1
def extOk (D:Cx) (e:FuncId→Option (List A→XS→CR)):Prop :=
 ∀ (f:FuncId) (h:List A→XS→CR),e f=some h→∀ (l:List A) (σ:XS) (s:St) (KV Kp:St→A→Prop),Sim s σ→(h l σ).to KV Kp→Den D f l KV Kp s
theorem ok_of {X:XP} {D:Cx} (h1:X.T.ok D) (h2:D.det=true) (h3:D.P.follows .mixedOrders=true)
  (h4 : ∀ f fx,X.fns f = some fx → ∃ fn,D.P.funcs[f]? = some fn ∧ fn.body = some fx.code ∧ fn.ntmps = fx.n ∧ fn.results.toList = fx.rs ∧
   (fn.name == "runtime.NumGoroutine") = false ∧ ordOk X.T.tt X.ord f fx.code = true) (h5 : Catch D X.hd X.ft)
  (h6:∀ (k:Nat) (w:World),(invoke (.fn (.func X.hd) #[]) #[.pointer (some ⟨k,0,none⟩)]).run D.P w=.ok (.enter X.hd #[.pointer (some ⟨k,0,none⟩)]) w)
  (h7:extOk D X.ext):X.ok D:=⟨h1,h2,h3,h4,h5,h6,h7⟩
theorem xpS_ok {e:FuncId→Option (List A→XS→CR)} (he:extOk cxd e):(xpS e).ok cxd:=by
 refine ok_of ?_ cxd_det cxd_mix ?_ ?_ ?_ ?_
 ·rw[xp_T];exact xtS_ok
 ·intro f fx h;rw[xp_fns] at h;rw[xp_ord,xp_T,xt_ttc,cxd_P];exact fns_ok f fx h
 ·rw[xp_hd,xp_ft];exact catch_ok
 ·intro k w;have e0:=ent40 k w;rw[← xp_hd e] at e0;exact e0
 ·rw[xp_ext]
  assumption
end Go.AV
end
