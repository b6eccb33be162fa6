/-
  Of DefParses.
-/
import Derived.Test.YtamikhobdffnfaaGreatDoorPa16
set_option linter.all false
set_option maxRecDepth 99999
set_option maxHeartbeats 0
namespace Go.AV
open Go Go.Proofs Tryz
noncomputable def tQ:XT:=⟨tX,cx.eq,zN,vD,usS⟩
theorem aPh:tQ.tt=tX:=rfl
theorem aRh:tQ.tt=fG.tt:=rfl
theorem aQt:tQ.eq=fG.eq:=rfl
theorem aP7:tQ.gl=fG.gl:=rfl
theorem aQS:tQ.cv=fG.cv:=rfl
theorem aQe:tQ.us=fG.us:=rfl
theorem aPR:tQ.ok fG where
 tt:=fun t ti h=>by rw[← aRh];exact h
 eq:=fun t a b r h=>by rw[← aQt];exact h
 gl:=fun g=>by rw[aP7]
 cv:=fun a b=>by rw[aQS]
 us:=fun a=>by rw[aQe]
noncomputable def rF (f:FuncId):Bool:=match prog.funcs[f]? with
 | some fn=>(match fn.body with
  | some c=>lA tX aAU f c
  | none=>true)
 | none=>true
noncomputable def rG (f:FuncId):Bool:=match prog.funcs[f]? with
 | some fn => !(fn.name == "runtime.NumGoroutine")
 | none=>true
theorem aO4:prog.funcs.size≤400:=by decide +kernel
theorem aR8:(List.range' 0 50).all rF=true:=by decide +kernel
theorem aSf:(List.range' 0 50).all rG=true:=by decide +kernel
theorem aQh:(List.range' 50 50).all rF=true:=by decide +kernel
theorem aRv:(List.range' 50 50).all rG=true:=by decide +kernel
theorem aPm:(List.range' 100 50).all rF=true:=by decide +kernel
theorem aPv:(List.range' 100 50).all rG=true:=by decide +kernel
theorem aPW:(List.range' 150 50).all rF=true:=by decide +kernel
theorem aPS:(List.range' 150 50).all rG=true:=by decide +kernel
theorem aPV:(List.range' 200 50).all rF=true:=by decide +kernel
theorem aPs:(List.range' 200 50).all rG=true:=by decide +kernel
theorem aPx:(List.range' 250 50).all rF=true:=by decide +kernel
theorem aPG:(List.range' 250 50).all rG=true:=by decide +kernel
theorem aPK:(List.range' 300 50).all rF=true:=by decide +kernel
theorem aPd:(List.range' 300 50).all rG=true:=by decide +kernel
theorem aPH:(List.range' 350 50).all rF=true:=by decide +kernel
theorem aPN:(List.range' 350 50).all rG=true:=by decide +kernel
theorem aPT (f:Nat) (h:f<400):rF f=true∧rG f=true:=by
 have key:∀ (a:Nat) {p:FuncId→Bool},(List.range' a 50).all p=true→a≤f→f<a+50→p f=true:=fun a {p} hp h1 h2 =>
  iV.1 hp f (by rw[List.mem_range'_1];omega)
 rcases sP f 50 with h1|h1
 ·exact ⟨key 0 aR8 (by omega) (by omega),key 0 aSf (by omega) (by omega)⟩
 rcases sP f 100 with h2|h2
 ·exact ⟨key 50 aQh (by omega) (by omega),key 50 aRv (by omega) (by omega)⟩
 rcases sP f 150 with h3|h3
 ·exact ⟨key 100 aPm (by omega) (by omega),key 100 aPv (by omega) (by omega)⟩
 rcases sP f 200 with h4|h4
 ·exact ⟨key 150 aPW (by omega) (by omega),key 150 aPS (by omega) (by omega)⟩
 rcases sP f 250 with h5|h5
 ·exact ⟨key 200 aPV (by omega) (by omega),key 200 aPs (by omega) (by omega)⟩
 rcases sP f 300 with h6|h6
 ·exact ⟨key 250 aPx (by omega) (by omega),key 250 aPG (by omega) (by omega)⟩
 rcases sP f 350 with h7|h7
 ·exact ⟨key 300 aPK (by omega) (by omega),key 300 aPd (by omega) (by omega)⟩
 ·exact ⟨key 350 aPH (by omega) (by omega),key 350 aPN (by omega) (by omega)⟩
noncomputable def lC (ext:FuncId→Option (List A→XS→CR)):XP:=⟨tQ,tV,ext,aAU,40,36⟩
theorem aJQ (ext:FuncId→Option (List A→XS→CR)):(lC ext).T=tQ:=by unfold lC;with_reducible rfl
theorem aPg (ext:FuncId→Option (List A→XS→CR)):(lC ext).fns=tV:=by unfold lC;with_reducible rfl
theorem aPk (ext:FuncId→Option (List A→XS→CR)):(lC ext).ord=aAU:=by unfold lC;with_reducible rfl
theorem aJC (ext:FuncId→Option (List A→XS→CR)):(lC ext).hd=40:=by unfold lC;with_reducible rfl
theorem aQd (ext:FuncId→Option (List A→XS→CR)):(lC ext).ft=36:=by unfold lC;with_reducible rfl
theorem aPA (ext:FuncId→Option (List A→XS→CR)):(lC ext).ext=ext:=by unfold lC;with_reducible rfl
theorem aOY:fG.det=true:=rfl
theorem aOo:fG.P.follows .mixedOrders=true:=aH5
theorem aJJ (k:Nat) (w:World):(invoke (.fn (.func 40) #[]) #[.pointer (some ⟨k,0,none⟩)]).run fG.P w=.ok (.enter 40 #[.pointer (some ⟨k,0,none⟩)]) w:=by
 have hcf:(callFunc 40 #[.pointer (some ⟨k,0,none⟩)]).run prog w=.ok (.enter 40 #[.pointer (some ⟨k,0,none⟩)]) w:=by
  have hf : prog.funcs[40]? = some f40 := func40;have hname : (f40.name == "runtime.NumGoroutine") = false := rfl;simp only [callFunc,bH,run_program,bJ,hf,hname,bN,↓reduceIte,aAF,Option.isNone_some,bX]
 show (callFunc 40 (#[Value.pointer (some ⟨k,0,none⟩)]++#[])).run prog w=_;rw[Array.append_empty];exact hcf
theorem aN1 {f:FuncId} (hf:prog.funcs[f]?=none):tV f=none:=by unfold tV;rw[hf]
theorem aPJ {f:FuncId} {fn:Func} (hf:prog.funcs[f]?=some fn) (hb:fn.body=none):tV f=none:=by unfold tV;rw[hf];simp only[hb]
theorem aNg {f:FuncId} {fn:Func} {c:Code} (hf:prog.funcs[f]?=some fn) (hb:fn.body=some c):tV f=some ⟨c,fn.ntmps,fn.results.toList,Nat.beq f 38||Nat.beq f 18⟩:=by unfold tV;rw[hf];simp only[hb]
theorem aPj {f : FuncId} {fn : Func} (hf : prog.funcs[f]? = some fn) (h : rG f = true) : (fn.name == "runtime.NumGoroutine") = false := by
 unfold rG at h;rw[hf] at h;simpa only[mM] using h
theorem aPe {f:FuncId} {fn:Func} {c:Code} (hf:prog.funcs[f]?=some fn) (hb:fn.body=some c) (h:rF f=true):lA tX aAU f c=true:=by
 unfold rF at h;rw[hf] at h;simpa only[hb] using h
theorem aPy (f:FuncId) (fx:FX) (h:tV f=some fx):∃ fn,prog.funcs[f]?=some fn∧fn.body=some fx.code∧fn.ntmps=fx.n∧fn.results.toList=fx.rs ∧
  (fn.name == "runtime.NumGoroutine") = false ∧ lA tX aAU f fx.code = true := by
 cases hf:prog.funcs[f]? with
 | none=>rw[aN1 hf] at h;cases h
 | some fn =>
  cases hb:fn.body with
  | none=>rw[aPJ hf hb] at h;cases h
  | some c =>
   rw[aNg hf hb] at h;have hlt:(f:Nat)<400:=Nat.lt_of_lt_of_le (jC.1 hf).1 aO4;obtain ⟨c1,c2⟩:=aPT f hlt;have e:=sM h;subst e;refine ⟨fn,rfl,hb,rfl,rfl,?_,?_⟩
   ·exact aPj hf c2
   ·exact aPe hf hb c1
def yY (D:Cx) (e:FuncId→Option (List A→XS→CR)):Prop :=
 ∀ (f:FuncId) (h:List A→XS→CR),e f=some h→∀ (l:List A) (σ:XS) (s:St) (KV Kp:St→A→Prop),Sim s σ→(h l σ).to KV Kp→Den D f l KV Kp s
theorem aQx {X:XP} {D:Cx} (h1:X.T.ok D) (h2:D.det=true) (h3:D.P.follows .mixedOrders=true)
  (h4 : ∀ f fx,X.fns f = some fx → ∃ fn,D.P.funcs[f]? = some fn ∧ fn.body = some fx.code ∧ fn.ntmps = fx.n ∧ fn.results.toList = fx.rs ∧
   (fn.name == "runtime.NumGoroutine") = false ∧ lA X.T.tt X.ord f fx.code = true) (h5 : Catch D X.hd X.ft)
  (h6:∀ (k:Nat) (w:World),(invoke (.fn (.func X.hd) #[]) #[.pointer (some ⟨k,0,none⟩)]).run D.P w=.ok (.enter X.hd #[.pointer (some ⟨k,0,none⟩)]) w)
  (h7:yY D X.ext):X.ok D:=⟨h1,h2,h3,h4,h5,h6,h7⟩
theorem aE7 {e:FuncId→Option (List A→XS→CR)} (he:yY fG e):(lC e).ok fG:=by
 refine aQx ?_ aOY aOo ?_ ?_ ?_ ?_
 ·rw[aJQ];exact aPR
 ·intro f fx h;rw[aPg] at h;rw[aPk,aJQ,aPh,aCA];exact aPy f fx h
 ·rw[aJC,aQd];exact aNR
 ·intro k w;have e0:=aJJ k w;rw[← aJC e] at e0;exact e0
 ·rw[aPA]
  assumption
end Go.AV
