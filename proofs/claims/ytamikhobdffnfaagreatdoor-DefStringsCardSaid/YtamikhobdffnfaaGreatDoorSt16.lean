/-
  Of DefStrings.
-/
import Derived.Test.YtamikhobdffnfaaGreatDoorSt15
set_option linter.all false
set_option maxRecDepth 99999
set_option maxHeartbeats 0
namespace Go.AV
open Go Go.Proofs Tryz
noncomputable def qD:XT:=⟨pX,cx.eq,vG,rH,usS⟩
theorem aMI:qD.tt=pX:=rfl
theorem aNW:qD.tt=dL.tt:=rfl
theorem aOy:qD.eq=dL.eq:=rfl
theorem aOR:qD.gl=dL.gl:=rfl
theorem aOa:qD.cv=dL.cv:=rfl
theorem aON:qD.us=dL.us:=rfl
theorem aMM:qD.ok dL where
 tt:=fun t ti h=>by rw[← aNW];exact h
 eq:=fun t a b r h=>by rw[← aOy];exact h
 gl:=fun g=>by rw[aOR]
 cv:=fun a b=>by rw[aOa]
 us:=fun a=>by rw[aON]
noncomputable def oB (f:FuncId):Bool:=match prog.funcs[f]? with
 | some fn=>(match fn.body with
  | some c=>iO pX xJ f c
  | none=>true)
 | none=>true
noncomputable def oE (f:FuncId):Bool:=match prog.funcs[f]? with
 | some fn => !(fn.name == "runtime.NumGoroutine")
 | none=>true
theorem aMg:prog.funcs.size≤400:=by decide +kernel
theorem aPm:(List.range' 0 50).all oB=true:=by decide +kernel
theorem aO9:(List.range' 0 50).all oE=true:=by decide +kernel
theorem aNF:(List.range' 50 50).all oB=true:=by decide +kernel
theorem aOe:(List.range' 50 50).all oE=true:=by decide +kernel
theorem aNm:(List.range' 100 50).all oB=true:=by decide +kernel
theorem aMN:(List.range' 100 50).all oE=true:=by decide +kernel
theorem aMy:(List.range' 150 50).all oB=true:=by decide +kernel
theorem aM3:(List.range' 150 50).all oE=true:=by decide +kernel
theorem aNr:(List.range' 200 50).all oB=true:=by decide +kernel
theorem aMG:(List.range' 200 50).all oE=true:=by decide +kernel
theorem aMR:(List.range' 250 50).all oB=true:=by decide +kernel
theorem aMU:(List.range' 250 50).all oE=true:=by decide +kernel
theorem aM5:(List.range' 300 50).all oB=true:=by decide +kernel
theorem aNc:(List.range' 300 50).all oE=true:=by decide +kernel
theorem aMZ:(List.range' 350 50).all oB=true:=by decide +kernel
theorem aNd:(List.range' 350 50).all oE=true:=by decide +kernel
theorem aMB (f:Nat) (h:f<400):oB f=true∧oE f=true:=by
 have key:∀ (a:Nat) {p:FuncId→Bool},(List.range' a 50).all p=true→a≤f→f<a+50→p f=true:=fun a {p} hp h1 h2 =>
  fD.1 hp f (by rw[List.mem_range'_1];omega)
 rcases pF f 50 with h1|h1
 ·exact ⟨key 0 aPm (by omega) (by omega),key 0 aO9 (by omega) (by omega)⟩
 rcases pF f 100 with h2|h2
 ·exact ⟨key 50 aNF (by omega) (by omega),key 50 aOe (by omega) (by omega)⟩
 rcases pF f 150 with h3|h3
 ·exact ⟨key 100 aNm (by omega) (by omega),key 100 aMN (by omega) (by omega)⟩
 rcases pF f 200 with h4|h4
 ·exact ⟨key 150 aMy (by omega) (by omega),key 150 aM3 (by omega) (by omega)⟩
 rcases pF f 250 with h5|h5
 ·exact ⟨key 200 aNr (by omega) (by omega),key 200 aMG (by omega) (by omega)⟩
 rcases pF f 300 with h6|h6
 ·exact ⟨key 250 aMR (by omega) (by omega),key 250 aMU (by omega) (by omega)⟩
 rcases pF f 350 with h7|h7
 ·exact ⟨key 300 aM5 (by omega) (by omega),key 300 aNc (by omega) (by omega)⟩
 ·exact ⟨key 350 aMZ (by omega) (by omega),key 350 aNd (by omega) (by omega)⟩
noncomputable def iS (ext:FuncId→Option (List A→XS→CR)):XP:=⟨qD,pW,ext,xJ,40,36⟩
theorem aHj (ext:FuncId→Option (List A→XS→CR)):(iS ext).T=qD:=by unfold iS;with_reducible rfl
theorem aM1 (ext:FuncId→Option (List A→XS→CR)):(iS ext).fns=pW:=by unfold iS;with_reducible rfl
theorem aM6 (ext:FuncId→Option (List A→XS→CR)):(iS ext).ord=xJ:=by unfold iS;with_reducible rfl
theorem aG8 (ext:FuncId→Option (List A→XS→CR)):(iS ext).hd=40:=by unfold iS;with_reducible rfl
theorem aOc (ext:FuncId→Option (List A→XS→CR)):(iS ext).ft=36:=by unfold iS;with_reducible rfl
theorem aNj (ext:FuncId→Option (List A→XS→CR)):(iS ext).ext=ext:=by unfold iS;with_reducible rfl
theorem aL1:dL.det=true:=rfl
theorem aLA:dL.P.follows .mixedOrders=true:=aFp
theorem aHb (k:Nat) (w:World):(invoke (.fn (.func 40) #[]) #[.pointer (some ⟨k,0,none⟩)]).run dL.P w=.ok (.enter 40 #[.pointer (some ⟨k,0,none⟩)]) w:=by
 have hcf:(callFunc 40 #[.pointer (some ⟨k,0,none⟩)]).run prog w=.ok (.enter 40 #[.pointer (some ⟨k,0,none⟩)]) w:=by
  have hf : prog.funcs[40]? = some f40 := func40;have hname : (f40.name == "runtime.NumGoroutine") = false := rfl;simp only [callFunc,aV,run_program,aW,hf,hname,bR,↓reduceIte,wT,Option.isNone_some,bC]
 show (callFunc 40 (#[Value.pointer (some ⟨k,0,none⟩)]++#[])).run prog w=_;rw[Array.append_empty];exact hcf
theorem aLj {f:FuncId} (hf:prog.funcs[f]?=none):pW f=none:=by unfold pW;rw[hf]
theorem aNi {f:FuncId} {fn:Func} (hf:prog.funcs[f]?=some fn) (hb:fn.body=none):pW f=none:=by unfold pW;rw[hf];simp only[hb]
theorem aKD {f:FuncId} {fn:Func} {c:Code} (hf:prog.funcs[f]?=some fn) (hb:fn.body=some c):pW f=some ⟨c,fn.ntmps,fn.results.toList,Nat.beq f 38||Nat.beq f 18⟩:=by unfold pW;rw[hf];simp only[hb]
theorem aMX {f : FuncId} {fn : Func} (hf : prog.funcs[f]? = some fn) (h : oE f = true) : (fn.name == "runtime.NumGoroutine") = false := by
 unfold oE at h;rw[hf] at h;simpa only[oZ] using h
theorem aMH {f:FuncId} {fn:Func} {c:Code} (hf:prog.funcs[f]?=some fn) (hb:fn.body=some c) (h:oB f=true):iO pX xJ f c=true:=by
 unfold oB at h;rw[hf] at h;simpa only[hb] using h
theorem aMw (f:FuncId) (fx:FX) (h:pW f=some fx):∃ fn,prog.funcs[f]?=some fn∧fn.body=some fx.code∧fn.ntmps=fx.n∧fn.results.toList=fx.rs ∧
  (fn.name == "runtime.NumGoroutine") = false ∧ iO pX xJ f fx.code = true := by
 cases hf:prog.funcs[f]? with
 | none=>rw[aLj hf] at h;cases h
 | some fn =>
  cases hb:fn.body with
  | none=>rw[aNi hf hb] at h;cases h
  | some c =>
   rw[aKD hf hb] at h;have hlt:(f:Nat)<400:=Nat.lt_of_lt_of_le (fP.1 hf).1 aMg;obtain ⟨c1,c2⟩:=aMB f hlt;have e:=rL h;subst e;refine ⟨fn,rfl,hb,rfl,rfl,?_,?_⟩
   ·exact aMX hf c2
   ·exact aMH hf hb c1
def uO (D:Cx) (e:FuncId→Option (List A→XS→CR)):Prop :=
 ∀ (f:FuncId) (h:List A→XS→CR),e f=some h→∀ (l:List A) (σ:XS) (s:St) (KV Kp:St→A→Prop),Sim s σ→(h l σ).to KV Kp→Den D f l KV Kp s
theorem aNM {X:XP} {D:Cx} (h1:X.T.ok D) (h2:D.det=true) (h3:D.P.follows .mixedOrders=true)
  (h4 : ∀ f fx,X.fns f = some fx → ∃ fn,D.P.funcs[f]? = some fn ∧ fn.body = some fx.code ∧ fn.ntmps = fx.n ∧ fn.results.toList = fx.rs ∧
   (fn.name == "runtime.NumGoroutine") = false ∧ iO X.T.tt X.ord f fx.code = true) (h5 : Catch D X.hd X.ft)
  (h6:∀ (k:Nat) (w:World),(invoke (.fn (.func X.hd) #[]) #[.pointer (some ⟨k,0,none⟩)]).run D.P w=.ok (.enter X.hd #[.pointer (some ⟨k,0,none⟩)]) w)
  (h7:uO D X.ext):X.ok D:=⟨h1,h2,h3,h4,h5,h6,h7⟩
theorem aCS {e:FuncId→Option (List A→XS→CR)} (he:uO dL e):(iS e).ok dL:=by
 refine aNM ?_ aL1 aLA ?_ ?_ ?_ ?_
 ·rw[aHj];exact aMM
 ·intro f fx h;rw[aM1] at h;rw[aM6,aHj,aMI,aAd];exact aMw f fx h
 ·rw[aG8,aOc];exact aKF
 ·intro k w;have e0:=aHb k w;rw[← aG8 e] at e0;exact e0
 ·rw[aNj]
  assumption
end Go.AV
