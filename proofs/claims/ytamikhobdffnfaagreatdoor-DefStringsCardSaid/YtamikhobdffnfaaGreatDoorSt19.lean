/-
  Of DefStrings.
-/
import Derived.Test.YtamikhobdffnfaaGreatDoorSt18
import Derived.Shelf.LaysM
import Derived.Shelf.Strconv.Itoa3
import Derived.Lib.ItoaNum
set_option linter.all false
set_option maxRecDepth 99999
set_option maxHeartbeats 0
namespace Go.AV
open Go Go.Proofs Tryz
theorem oY (s:St) (x:aB) (KV Kp) (hk:KV s (.bool (decide (x∈dE)))):Den cx 145 [.str x] KV Kp s:=by
 (refine aO func145 [0,2] ?_;simp only[go_sem,ntmps145,f145]);refine aH8 _ _ _ ?_;simp only[go_sem,uG];refine aBo _ _ _ _ _ ?_;simp only[go_sem];exact aY hk
theorem aIh (s:St) (x:aB) (KV Kp) (hk:KV s (.bool (decide (x∈yS)))):Den cx 107 [.str x] KV Kp s:=by
 (refine aO func107 [0,2] ?_;simp only[go_sem,ntmps107,f107]);refine aIa _ _ _ ?_;simp only[go_sem,uG];refine aBo _ _ _ _ _ ?_;simp only[go_sem];exact aY hk
def aAh (n:Int):Bool:=decide (-2147483647≤n)&&decide (n≤2147483647)
theorem aER (s:St) (n:Int) (KV Kp) (hk:KV s (.bool (aAh n))):Den cx 272 [.int .i64 n] KV Kp s:=by
 unfold aAh at hk;(refine aO func272 [0,2] ?_;simp only[go_sem,ntmps272,f272])
 (repeat' (first|exact aH hk cN|((refine bA (fun h=>?_) (fun h=>?_))<;>simp only[go_sem,h]<;>(try simp only[h,eZ,fL,iF,gY,kJ,kI,kH,gZ,dW,eX] at hk))))
theorem aKE (s:St) (b:Bool) (KV Kp) (hk:KV s (.str (if b=true then [116,114,117,101] else [102,97,108,115,101]))):Den cx 211 [.bool b] KV Kp s:=by
 (refine aO func211 [0,2] ?_;simp only[go_sem,ntmps211,f211]);(refine aO func276 [0,2,3] ?_;simp only[go_sem,ntmps276,f276]);cases b with
 | true=>simp only[go_sem];refine aY ?_;simp only[go_sem];exact aY hk
 | false=>simp only[go_sem];refine aY ?_;simp only[go_sem];exact aY hk
theorem yI (s:St) (x:aB) (KV Kp) (hk:KV s (.bool (decide (x∈dE)))):Den cx 79 [.str x] KV Kp s:=by
 simp only[dE,eW,List.mem_nil_iff,jU,Bool.decide_or] at hk;(refine aO func79 [0,2,3,4] ?_;simp only[go_sem,ntmps79,f79])
 (repeat' (first|exact aH hk cN|((refine bA (fun h=>?_) (fun h=>?_))<;>simp only[go_sem,h]<;>(try simp only[h,eZ,fL,iF,gY,kJ,kI,kH,gZ,dW,eX] at hk))))
def sA (x:aB):Bool:=decide (2<x.length)&&(decide (x[x.length-2]?=some 39)&&(match x[x.length-1]? with|some c=>decide (49≤c.toNat)&&decide (c.toNat≤56)|none=>false))
theorem aJ3 (s:St) (x:aB) (KV Kp) (hl:x.length≤4611686018427387904) (hk:KV s (if sA x=true then .tuple [.str (x.take (x.length-2)),.str (x.drop (x.length-2))] else .tuple [.str x,.str []])):Den cx 111 [.str x] KV Kp s:=by
 have w0:IntKind.i64.wrap ((x.length:Int)-2)=(x.length:Int)-2:=by
  exact fU _ (by omega) (by omega)
 (refine aO func111 [0,2,3,4,29] ?_;simp only[go_sem,ntmps111,f111]);by_cases h2:2<x.length
 ·have w1:(x.length:Int)-2=((x.length-2:Nat):Int):=by omega
  have w3:=w0.trans w1
  have w2:IntKind.i64.wrap (((x.length-2:Nat):Int)+1)=((x.length-1:Nat):Int):=by
   rw[cJ _ (by omega)];omega
  have d1:decide ((0:Int)<((x.length-2:Nat):Int))=true:=by rw[cG];omega
  obtain ⟨c1,h1⟩:∃ c,x[x.length-2]?=some c:=⟨_,bK (by omega)⟩
  obtain ⟨c2,h3⟩:∃ c,x[x.length-1]?=some c:=⟨_,bK (by omega)⟩
  have l1:x.length-2<x.length:=by omega
  have l2:x.length-1<x.length:=by omega
  simp only[go_sem,w3,w2,d1,h1,h3,Int.toNat_natCast,l1,l2]
  have ef:sA x=(decide ((c1.toNat:Int)=39)&&(decide ((49:Int)≤(c2.toNat:Int))&&decide ((c2.toNat:Int)≤56))):=by
   unfold sA;rw[h1,h3,eR h2,eZ]
   have e1:decide (some c1=some (39:UInt8))=decide ((c1.toNat:Int)=39):=by
    rw[fY,aP,← oG];show c1.toNat=39↔_;omega
   have e2:decide ((49:Int)≤(c2.toNat:Int))=decide (49≤c2.toNat):=by rw[fY];omega
   have e3:decide ((c2.toNat:Int)≤56)=decide (c2.toNat≤56):=by rw[fY];omega
   rw[e1,e2,e3]
  rw[ef] at hk;cases hA:decide ((c1.toNat:Int)=39)<;>rw[hA] at hk<;>simp only[go_sem,w3,w2,h1,h3,Int.toNat_natCast,l1,l2,hA]
  ·exact aY hk
  ·cases hB:decide ((49:Int)≤(c2.toNat:Int))<;>rw[hB] at hk<;>simp only[go_sem,w3,w2,h1,h3,Int.toNat_natCast,l1,l2,hA,hB]
   ·exact aY hk
   ·cases hC:decide ((c2.toNat:Int)≤56)<;>rw[hC] at hk<;>simp only[go_sem,w3,w2,h1,h3,Int.toNat_natCast,l1,l2,hA,hB,hC]
    ·exact aY hk
    ·(refine bF (OT.r 0 8) [] ?_;simp only[go_sem]);exact ⟨by omega,by omega,aY hk⟩
 ·have d1:decide ((0:Int)<(x.length:Int)-2)=false:=by rw[kW];omega
  simp only[go_sem,w0,d1];rw[if_neg (by simp[sA,h2])] at hk;exact aY hk
def xI (x:aB):Bool:=cK (if sA x=true then x.take (x.length-2) else x)
theorem aLl (s:St) (x:aB) (KV Kp) (hl:x.length≤4611686018427387904) (hk:KV s (.bool (xI x))):Den cx 274 [.str x] KV Kp s:=by
 (refine aO func274 [0,2,3] ?_;simp only[go_sem,ntmps274,f274]);refine aJ3 _ _ _ _ hl ?_;cases hf:sA x<;>simp only[xI,hf,if_true,bR,if_false] at hk ⊢<;>simp only[go_sem]<;>refine vT _ _ _ _ ?_<;>simp only[go_sem]<;>exact aY hk
end Go.AV
section
open Go.Proofs.Tryz
namespace Go.Proofs
open Go.Shelf
def laysM171_ren:Go.Shelf.Ren:=⟨fun|171=>169|243=>244|246=>287|283=>307|284=>308|285=>309|286=>310|129=>319|317=>318|318=>320|319=>321|320=>322|337=>329|338=>330|n=>n,fun|3=>3|9=>9|2=>2|4=>4|171=>283|0=>0|53=>284|37=>152|5=>5|173=>287|212=>303|51=>277|20=>20|213=>304|46=>282|232=>326|233=>327|n=>n,fun|17=>3|18=>4|19=>5|n=>n⟩
theorem laysM171:Go.Proofs.LaysM.n171 prog laysM171_ren:={
 mixed:=by kernel_rfl
 f129:=Tryz.func319.trans (congrArg some (by kernel_rfl))
 f171:=func169.trans (congrArg some (by kernel_rfl))
 f243:=Tryz.func244.trans (congrArg some (by kernel_rfl))
 f246:=Tryz.func287.trans (congrArg some (by kernel_rfl))
 f283:=Tryz.func307.trans (congrArg some (by kernel_rfl))
 f284:=Tryz.func308.trans (congrArg some (by kernel_rfl))
 f285:=Tryz.func309.trans (congrArg some (by kernel_rfl))
 f286:=Tryz.func310.trans (congrArg some (by kernel_rfl))
 f317:=Tryz.func318.trans (congrArg some (by kernel_rfl))
 f318:=Tryz.func320.trans (congrArg some (by kernel_rfl))
 f319:=Tryz.func321.trans (congrArg some (by kernel_rfl))
 f320:=Tryz.func322.trans (congrArg some (by kernel_rfl))
 f337:=Tryz.func329.trans (congrArg some (by kernel_rfl))
 f338:=Tryz.func330.trans (congrArg some (by kernel_rfl))
 t0:=underlying0
 a0:=isAgg0
 z0:=sizeOf0
 v0:=zeroValue0
 t2:=underlying2
 a2:=isAgg2
 z2:=sizeOf2
 v2:=zeroValue2
 t3:=underlying3
 a3:=isAgg3
 z3:=sizeOf3
 v3:=zeroValue3
 t4:=underlying4
 a4:=isAgg4
 z4:=sizeOf4
 v4:=zeroValue4
 t5:=underlying5
 a5:=isAgg5
 z5:=sizeOf5
 v5:=zeroValue5
 t9:=underlying9
 a9:=isAgg9
 z9:=sizeOf9
 v9:=zeroValue9
 t20:=underlying20
 a20:=isAgg20
 z20:=sizeOf20
 v20:=zeroValue20
 t37:=underlying152
 a37:=isAgg152
 z37:=sizeOf152
 v37:=zeroValue152
 t46:=underlying282
 a46:=isAgg282
 z46:=sizeOf282
 v46:=zeroValue282
 t51:=underlying277
 a51:=isAgg277
 z51:=sizeOf277
 v51:=zeroValue277
 t53:=underlying284
 a53:=isAgg284
 z53:=sizeOf284
 v53:=zeroValue284
 t171:=underlying283
 a171:=isAgg283
 z171:=sizeOf283
 v171:=zeroValue283
 t173:=underlying287
 a173:=isAgg287
 z173:=sizeOf287
 v173:=zeroValue287
 t212:=underlying303
 a212:=isAgg303
 z212:=sizeOf303
 v212:=zeroValue303
 t213:=underlying304
 a213:=isAgg304
 z213:=sizeOf304
 t232:=underlying326
 a232:=isAgg326
 z232:=sizeOf326
 v232:=zeroValue326
 t233:=underlying327
 a233:=isAgg327
 z233:=sizeOf327
 v233:=zeroValue327
 g17:=by kernel_rfl
 g18:=by kernel_rfl
 g19:=by kernel_rfl
 i0:=by kernel_rfl
 i2:=by kernel_rfl
 i3:=by kernel_rfl
 i4:=by kernel_rfl
 i5:=by kernel_rfl
 i9:=by kernel_rfl
 i20:=by kernel_rfl
 i37:=by kernel_rfl
 i46:=by kernel_rfl
 i51:=by kernel_rfl
 i53:=by kernel_rfl
 i171:=by kernel_rfl
 i173:=by kernel_rfl
 i212:=by kernel_rfl
 i232:=by kernel_rfl
 i233:=by kernel_rfl
 m17:=by kernel_rfl
 m18:=by kernel_rfl
 m19:=by kernel_rfl }
open Go.RowKit Go.Sort Go.Lib in
theorem strconv_Itoa (n : Int) (h0 : -9223372036854775808 ≤ n) (h1 : n ≤ 9223372036854775807) (w : World) (htab : Lib.TabIs prog w "internal/strconv.uint64pow10" .u64 Lib.pow10Tab) :
  Calls prog 169 #[.int .i64 n] w fun e w'=>e=.returned (.string ⟨(Lib.itoa n).toArray⟩)∧∃ k os,w'=grow (w.drewN k) os:=Any.strconv_Itoa laysM171 n h0 h1 w htab
end Go.Proofs
namespace Go.AV
open Go Go.Proofs
theorem aJU : prog.globalNamed "internal/strconv.uint64pow10" = some 3 := by kernel_rfl
theorem zR:qZ=Lib.pow10Tab.map (fun z=>A.int .u64 z):=by kernel_rfl
theorem aKg {P : Program} {f : FuncId} {fn : Func} {c : Code} (hf : P.funcs[f]? = some fn) (hb : fn.body = some c) (hname : (fn.name == "runtime.NumGoroutine") = false) (vals : Array Value) (w : World) :
  (callFunc f vals).run P w=.ok (.enter f vals) w:=by
 simp only[callFunc,aV,run_program,aW,hf,hname,bR,↓reduceIte,hb,Option.isNone_some,bC]
theorem aFJ (n:Int) (h0:-9223372036854775808≤n) (h1:n≤9223372036854775807) (s:St) (KV Kp:St→A→Prop) (hk:KV s (.str (Lib.itoa n))):Den cx 169 [.int .i64 n] KV Kp s:=by
 refine aIq (fun vals w=>?_) fun F g w vals hR hv=>?_
 ·exact aKg (P:=prog) func169 rfl rfl vals w
 ·obtain ⟨v,hv0,hr⟩:=hv.get (j:=0) rfl;have hl:=hv.1
  have hvs:vals=[.int .i64 n]:=by
   match vals,hl,hv0 with
   | [x],_,h=>simp only[iJ,aP] at h;subst h;rw[hr.int_inv]
  subst hvs
  have htab : Lib.TabIs prog w "internal/strconv.uint64pow10" .u64 Lib.pow10Tab := by
   obtain ⟨pre,ty,fr,h1,h2,h3,h4,h5⟩:=hR.gpi (b:=3) (cs:=qZ) rfl;unfold Lib.TabIs World.var?;rw[aJU];simp only[Option.bind_some,h1,aP];congr 1;apply List.ext_getElem?;intro i;by_cases hi:i<qZ.length
   ·have hp:i<pre.length:=by rw[h3];exact hi
    have hc:qZ[i]?=some (.int .u64 (Lib.pow10Tab[i]'(by rw[zR] at hi;simpa using hi))):=by
     rw[bK hi];simp[zR]
    have:=h5 i _ _ hc (bK hp);rw[bK hp,this.int_inv];rw[zR] at hi;simp only[aS] at hi;simp[hi]
   ·rw[rJ (by omega),rJ (by rw[zR] at hi;simpa using hi)]
  refine Calls.mono (strconv_Itoa n h0 h1 w htab) fun e w' hp=>?_
  obtain ⟨rfl,k,os,rfl⟩:=hp;refine ⟨_,_,rfl,fun b hb=>?_,rfl,.str _,hk⟩;show (w.heap++os)[b]?=w.heap[b]?;rw[Array.getElem?_append_left hb]
end Go.AV
end
namespace Go.AV
open Go Go.Proofs Tryz
section
def Tok.name (t:Tok):aB:=if t.kind=2 then Lib.itoa t.n else t.text
def dF (t:Tok) (x:aB):Bool:=(decide (t.kind=4)||decide (t.kind=1))&&decide (t.text=x)
def isT (x:aB):List Tok→Bool
 | []=>false
 | t::_=>dF t x
def Tok.free (t:Tok):Bool:=decide (t.kind=1)&&!decide (t.text∈dE)
def dR (fin:Fault) (code:Int):List Tok→Fault
 | []=>fin
 | t::_=>⟨code,t.name,t.line,t.col⟩
def nB (fin:Fault):List Tok→Fault
 | []=>fin
 | t::_=>⟨3,[],t.line,t.col⟩
inductive Rd (α:Type) where
 | ok (a:α) (w:List Tok) (n:Nat)
 | bad (f:Fault)
def Rd.bind {α β:Type} (r:Rd α) (k:α→List Tok→Nat→Rd β):Rd β:=match r with
 | .ok a w n=>k a w n
 | .bad f=>.bad f
def Rd.to {α:Type} (r:Rd α) (k:α→List Tok→Nat→Prop) (b:Fault→Prop):Prop:=match r with
 | .ok a w n=>k a w n
 | .bad f=>b f
theorem aX {α β:Type} (r:Rd α) (k:α→List Tok→Nat→Rd β) (p:β→List Tok→Nat→Prop) (b:Fault→Prop) :
  (r.bind k).to p b=r.to (fun a w n=>(k a w n).to p b) b:=by cases r<;>rfl
theorem aI {α:Type} {r:Rd α} {p p':α→List Tok→Nat→Prop} {b b':Fault→Prop} (h:r.to p b) (hp:∀ a w n,p a w n→p' a w n) (hb:∀ f,b f→b' f):r.to p' b':=by
 cases r with
 | ok a w n=>exact hp a w n h
 | bad f=>exact hb f h
theorem bB {α:Type} (a:α) (w:List Tok) (n:Nat) (p:α→List Tok→Nat→Prop) (b:Fault→Prop):(Rd.ok a w n).to p b=p a w n:=rfl
theorem cV {α:Type} (f:Fault) (p:α→List Tok→Nat→Prop) (b:Fault→Prop):(Rd.bad f:Rd α).to p b=b f:=rfl
theorem tJ {α:Type} (c:Prop) [Decidable c] (x y:Rd α) (p:α→List Tok→Nat→Prop) (b:Fault→Prop):(if c then x else y).to p b=if c then x.to p b else y.to p b:=by
 split<;>rfl
section
variable (lk:Bool) (fin:Fault)
def eA (x:aB) (w:List Tok) (n:Nat):Rd Unit:=if isT x w=true then .ok () w.tail n else .bad (dR fin 11 w)
def dO:List Tok→Nat→Rd aB
 | [],_=>.bad fin
 | t::w,n=>if t.free=true then .ok t.text w n else .bad (dR fin 11 (t::w))
def tT (most:Int):List Tok→Nat→Rd Int
 | [],_=>.bad fin
 | t::w,n=>if t.kind=2 then (if t.n<1∨most<t.n then .bad (dR fin 20 (t::w)) else .ok t.n w n) else .bad (dR fin 11 (t::w))
def aCY (have_ most:Nat) (w:List Tok) (n:Nat):Rd Unit:=if most≤have_ then .bad (nB fin w) else .ok () w n
def bZ {σ:Type} (sep:aB) (one:σ→List Tok→Nat→Rd σ):Nat→σ→List Tok→Nat→Rd σ
 | 0,_,_,_=>.bad fin
 | f+1,a,w,n=>(one a w n).bind fun a w n=>if isT sep w=true then bZ sep one f a w.tail n else .ok a w n
def iN {α:Type} (one:List α→List Tok→Nat→Rd α) (acc:List α) (w:List Tok) (n:Nat):Rd (List α) :=
 bZ fin [44] (fun acc w n=>(one acc w n).bind fun a w n=>.ok (acc++[a]) w n) (w.length+1) acc w n
def Tok.begins (t:Tok):Bool :=
 if t.kind=2∨t.kind=3 then true
 else if t.kind=1 then !decide (t.text∈dE)||(decide (t.text=[116,114,117,101])||decide (t.text=[102,97,108,115,101]))
 else decide (t.text∈[[45],[39],[95],[91],[123],[36]])
def nC (x:aB):Bool:=cK x&&(match x with|c::_=>decide (97≤c.toNat)&&decide (c.toNat≤122)|[]=>false)&&!decide (x=[116,114,117,101])&&!decide (x=[102,97,108,115,101])
def mC (first:Tok) (w:List Tok) (n:Nat):Rd Unit:=if 2000<n+1 then .bad ⟨3,[],first.line,first.col⟩ else .ok () w (n+1)
def nV (first:Tok) (last:Bool) (sort:aB) (w:List Tok) (n:Nat):Rd (List Tm) :=
 if isT [124] w=true then
  match w.tail with
  | []=>.bad fin
  | t::w=>if t.free=true then (if last=true then .bad ⟨19,t.text,t.line,t.col⟩ else (mC first w n).bind fun _ w n=>.ok [.mk 6 0 t.text sort [] []] w n) else .bad (dR fin 11 (t::w))
 else .ok [] w n
def mI (first:Tok) (tm:List Tok→Nat→Rd Tm) (acc:List Tm) (w:List Tok) (n:Nat):Rd Tm :=
 if acc.length=8 then
  match w with
  | []=>.bad fin
  | t::w=>if t.begins=true then .bad (if lk=true∧2000≤n then ⟨3,[],first.line,first.col⟩ else ⟨3,[],t.line,t.col⟩) else tm (t::w) n
 else tm w n
def pK (first:Tok) (tm:List Tok→Nat→Rd Tm) (t:Tok) (w:List Tok) (n:Nat):Rd Tm :=
 if t.text=[116,114,117,101] then .ok (.mk 2 1 [] [] [] []) w n
 else if t.text=[102,97,108,115,101] then .ok (.mk 2 0 [] [] [] []) w n
 else if isT [58] w=true then (dO fin w.tail n).bind fun x w n=>.ok (.mk 6 0 t.text x [] []) w n
 else (eA fin [40] w n).bind fun _ w n =>
  if isT [41] w=true then .ok (.mk 5 0 t.text [] [] []) w.tail n
  else (iN fin (mI lk fin first tm) [] w n).bind fun l w n=>(eA fin [41] w n).bind fun _ w n=>.ok (.mk 5 0 t.text [] l []) w n
def lG (tm:List Tok→Nat→Rd Tm) (acc:List Tm) (w:List Tok) (n:Nat):Rd (List Tm) :=
 (tm w n).bind fun k w n=>(eA fin [45,62] w n).bind fun _ w n=>(tm w n).bind fun v w n=>.ok (acc++[k,v]) w n
def kK (first:Tok) (tm:List Tok→Nat→Rd Tm) (last:Bool) (t:Tok) (w:List Tok) (n:Nat):Rd Tm :=
 if t.text=[45] then
  match w with
  | []=>.bad fin
  | u::w=>if u.kind=2∧u.line=t.line∧u.col=t.col+1 then .ok (.mk 1 (-u.n) [] [] [] []) w n else .bad (dR fin 11 (u::w))
 else if t.text=[39] then
  match w with
  | []=>.bad fin
  | u::w=>if u.free=true∧nC u.text=true then .ok (.mk 4 0 u.text [] [] []) w n else .bad (dR fin 11 (u::w))
 else if t.text=[91] then
  (if isT [124] w = true ∨ isT [93] w = true then Rd.ok [] w n else iN fin (fun _ => tm) [] w n).bind fun l w n =>
   (nV fin first last [76,105,115,116] w n).bind fun r w n=>(eA fin [93] w n).bind fun _ w n=>.ok (.mk 7 0 [] [] l r) w n
 else if t.text=[123] then
  (if isT [124] w = true ∨ isT [125] w = true then Rd.ok [] w n else bZ fin [44] (lG fin tm) (w.length + 1) [] w n).bind fun l w n =>
   (nV fin first last [77,97,112] w n).bind fun r w n=>(eA fin [125] w n).bind fun _ w n=>.ok (.mk 8 0 [] [] l r) w n
 else .ok (.mk 6 0 t.text [65,110,121] [] []) w n
def dY (first:Tok):Nat→List Tok→Nat→Rd Tm
 | _,[],_=>.bad fin
 | 0,t::w,_=>if t.begins=true then .bad (dR fin 19 (t::w)) else .bad (dR fin 11 (t::w))
 | k+1,t::w,n =>
  if t.begins=true then
   (mC first w n).bind fun _ w n =>
    if t.kind=2 then .ok (.mk 1 t.n [] [] [] []) w n
    else if t.kind=3 then .ok (.mk 3 0 t.text [] [] []) w n
    else if t.kind=1 then pK lk fin first (dY first k) t w n
    else kK fin first (dY first k) (decide (k=0)) t w n
  else .bad (dR fin 11 (t::w))
def fV (w:List Tok) (n:Nat):Rd Tm:=match w with
 | []=>.bad fin
 | t::_=>match dY lk fin t 60 w 0 with
  | .ok a w _=>.ok a w n
  | .bad f=>.bad f
def qP (w:List Tok) (n:Nat):Rd (List Tm) :=
 if isT [105,102] w=true then
  iN fin (fun acc w n=>match w with
   | []=>.bad fin
   | t::r=>if t.begins=true then (aCY fin acc.length 20 (t::r) n).bind fun _ w n=>fV lk fin w n else fV lk fin (t::r) n) [] w.tail n
 else .ok [] w n
def mD {α:Type} (most have_:Nat) (w:List Tok) (n:Nat) (k:List Tok→Nat→Rd α):Rd α:=match w with
 | []=>.bad fin
 | t::r=>if t.free=true∧most≤have_ then .bad (nB fin (t::r)) else k (t::r) n
def sJ (w:List Tok) (n:Nat):Rd Cel:=match w with
 | []=>.bad fin
 | t::r=>(dO fin (t::r) n).bind fun x w n=>(eA fin [58] w n).bind fun _ w n=>(dO fin w n).bind fun y w n=>(eA fin [61] w n).bind fun _ w n =>
   (fV lk fin w n).bind fun i w n=>.ok ⟨x,y,i,t.line,t.col⟩ w n
def wL:Nat→List Piece→List aB→Bool→List Tok→Nat→Rd (List Piece × List aB × Bool)
 | 0,_,_,_,_,_=>.bad fin
 | f+1,ps,az,tx,w,n =>
  if isT [45,62] w=true then .ok (ps,az,tx) w.tail n
  else match w with
   | []=>.bad fin
   | t::w=>if t.kind=3∨t.free=true then
     (if 20≤ps.length then .bad (nB fin (t::w))
     else if t.kind=3 then wL f (ps++[⟨t.text,[]⟩]) az true w n
     else if 8≤az.length then .bad (nB fin (t::w))
     else wL f (ps++[⟨[],t.text⟩]) (az++[t.text]) tx w n)
    else .bad (dR fin 11 (t::w))
def nQ:Nat→Opr→List Tok→Nat→Rd Opr
 | 0,_,_,_=>.bad fin
 | f+1,o,w,n =>
  if isT [46] w=true then .ok o w n
  else match w with
   | []=>.bad fin
   | t::w =>
    if ¬ t.kind=1 then .bad (dR fin 11 (t::w))
    else if t.text=[112,114,101,99] then
     (if 0<o.prec then .bad (dR fin 14 (t::w)) else (tT fin 20 w n).bind fun m w n=>nQ f { o with prec:=m } w n)
    else if t.text=[108,101,102,116] then
     (if o.assoc=0 then nQ f { o with assoc:=1 } w n else .bad (dR fin 14 (t::w)))
    else if t.text=[114,105,103,104,116] then
     (if o.assoc=0 then nQ f { o with assoc:=2 } w n else .bad (dR fin 14 (t::w)))
    else if t.text=[115,116,114,105,99,116] then
     (if 0 < o.strict.length then .bad (dR fin 14 (t :: w)) else
      (eA fin [40] w n).bind fun _ w n=>(iN fin (fun _=>tT fin 8) [] w n).bind fun l w n=>(eA fin [41] w n).bind fun _ w n=>nQ f { o with strict:=l } w n)
    else .bad (dR fin 11 (t::w))
def opR (w:List Tok) (n:Nat):Rd Opr :=
 (dO fin w n).bind fun x w n => (eA fin [58] w n).bind fun _ w n => (wL fin (w.length + 1) [] [] false w n).bind fun p w n =>
  (dO fin w n).bind fun y w n=>nQ fin (w.length+1) ⟨x,p.2.1,y,if p.2.2=true then p.1 else [],0,0,[]⟩ w n
def sH:Nat→List aB→List Tok→Nat→Rd (List aB)
 | 0,_,_,_=>.bad fin
 | f+1,az,w,n =>
  if isT [45,62] w=true then .ok az w.tail n
  else (mD fin 8 az.length w n fun w n=>dO fin w n).bind fun x w n=>sH f (az++[x]) w n
def aDs (w:List Tok) (n:Nat):Rd Opr :=
 (dO fin w n).bind fun x w n => (eA fin [58] w n).bind fun _ w n => (sH fin (w.length + 1) [] w n).bind fun az w n =>
  (dO fin w n).bind fun y w n=>.ok ⟨x,az,y,[],0,0,[]⟩ w n
def aAj (r:Rul) (w:List Tok) (n:Nat):Rd Rul:=match w with
 | []=>.bad fin
 | t::w =>
  if dF t [110,101,119]=true then
   (eA fin [40] w n).bind fun _ w n=>(iN fin (fun _=>fV lk fin) [] w n).bind fun l w n=>(eA fin [41] w n).bind fun _ w n=>.ok { r with new:=r.new++[⟨l⟩] } w n
  else if dF t [100,114,111,112]=true then
   (eA fin [64] w n).bind fun _ w n=>(dO fin w n).bind fun x w n=>.ok { r with drop:=r.drop++[x] } w n
  else
   (dO fin (t :: w) n).bind fun x w n =>
    (if isT [64] w = true then dO fin w.tail n else Rd.ok [] w n).bind fun y w n => (eA fin [58] w n).bind fun _ w n => (fV lk fin w n).bind fun l w n =>
     (if isT [61,62] w = true then (fV lk fin w.tail n).bind fun u w n => Rd.ok [u] w n else Rd.ok [] w n).bind fun rs w n =>
      .ok { r with parts:=r.parts++[⟨x,y,l,rs,t.line,t.col⟩] } w n
def zY (c:Rul × Nat) (w:List Tok) (n:Nat):Rd (Rul × Nat):=match w with
 | []=>.bad fin
 | t::r=>if (t.kind=1∧(¬ t.text∈dE∨t.text=[110,101,119]∨t.text=[100,114,111,112]))∧20≤c.2 then .bad (nB fin (t::r))
  else (aAj lk fin c.1 (t::r) n).bind fun x w n=>.ok (x,c.2+1) w n
def aC2 (line col:Int) (w:List Tok) (n:Nat):Rd Rul :=
 (dO fin w n).bind fun x w n => (eA fin [58] w n).bind fun _ w n =>
  (bZ fin [59] (zY lk fin) (w.length+1) (⟨x,[],[],[],[],line,col⟩,0) w n).bind fun c w n=>(qP lk fin w n).bind fun l w n=>.ok { c.1 with cond:=l } w n
def sD (d:Dfn) (t:Tok) (w:List Tok) (n:Nat):Rd Dfn :=
 if dF t [115,116,97,114,116]=true then
  (if d.start=[] then (dO fin w n).bind fun x w n=>.ok { d with start:=x } w n else .bad (dR fin 14 (t::w)))
 else if dF t [119,97,116,99,104]=true then
  (if d.watch=[] then (dO fin w n).bind fun x w n=>.ok { d with watch:=x } w n else .bad (dR fin 14 (t::w)))
 else if dF t [99,101,108,108]=true then
  (if 12≤d.once.length then .bad (nB fin (t::w)) else (sJ lk fin w n).bind fun c w n=>.ok { d with once:=d.once++[c] } w n)
 else if dF t [109,97,110,121]=true then
  (if d.kind = [] then
   (dO fin w n).bind fun x w n => (eA fin [40] w n).bind fun _ w n =>
    (iN fin (fun acc w n=>mD fin 12 acc.length w n fun w n=>sJ lk fin w n) d.many w n).bind fun l w n=>(eA fin [41] w n).bind fun _ w n=>.ok { d with kind:=x,many:=l } w n
  else .bad (dR fin 14 (t::w)))
 else .bad (dR fin 11 (t::w))
def aCX (d:Dfn) (w:List Tok) (n:Nat):Rd Dfn:=match w with
 | []=>.bad fin
 | t::w =>
  (if dF t [115,111,114,116] = true then
   (iN fin (fun acc w n=>mD fin 40 acc.length w n fun w n=>dO fin w n) d.sig.sorts w n).bind fun l w n=>Rd.ok { d with sig:={ d.sig with sorts:=l } } w n
  else if dF t [115,117,98,115,111,114,116]=true then
   (if 200 ≤ d.sig.below.length then Rd.bad (nB fin (t :: w)) else
    (dO fin w n).bind fun x w n=>(eA fin [60] w n).bind fun _ w n=>(dO fin w n).bind fun y w n=>Rd.ok { d with sig:={ d.sig with below:=d.sig.below++[⟨x,y⟩] } } w n)
  else if dF t [118,97,108,117,101]=true then
   (iN fin (fun _=>dO fin) [] w n).bind fun l w n=>Rd.ok { d with sig:={ d.sig with values:=d.sig.values++l } } w n
  else if dF t [111,112]=true∨dF t [102,117,110]=true then
   (if 200≤d.sig.ops.length+d.sig.funs.length then Rd.bad (nB fin (t::w))
   else if t.text=[111,112] then (opR fin w n).bind fun o w n=>Rd.ok { d with sig:={ d.sig with ops:=d.sig.ops++[o] } } w n
   else (aDs fin w n).bind fun o w n=>Rd.ok { d with sig:={ d.sig with funs:=d.sig.funs++[o] } } w n)
  else if dF t [108,101,116]=true then
   (if 300 ≤ d.eqs.length then Rd.bad (nB fin (t :: w)) else
    (fV lk fin w n).bind fun l w n => (eA fin [61] w n).bind fun _ w n => (fV lk fin w n).bind fun r w n => (qP lk fin w n).bind fun c w n =>
     Rd.ok { d with eqs:=d.eqs++[⟨l,r,c,t.line,t.col⟩] } w n)
  else if dF t [114,117,108,101]=true then
   (if 300≤d.rules.length then Rd.bad (nB fin (t::w)) else (aC2 lk fin t.line t.col w n).bind fun r w n=>Rd.ok { d with rules:=d.rules++[r] } w n)
  else sD lk fin d t w n).bind fun d w n=>(eA fin [46] w n).bind fun _ w n=>.ok d w n
def wQ:Nat→Dfn→List Tok→Nat→Rd Dfn
 | 0,_,_,_=>.bad fin
 | f+1,d,w,n=>match w with
  | []=>.ok d [] n
  | _::_=>(aCX lk fin d w n).bind fun d w n=>wQ f d w n
def eV:Dfn:=⟨[],⟨[],[],[],[],[]⟩,[],[],[],[],[],[],[]⟩
def uU (w:List Tok):Rd Dfn :=
 (eA fin [108,97,110,103,117,97,103,101] w 0).bind fun _ w n=>(dO fin w n).bind fun x w n=>(eA fin [46] w n).bind fun _ w n=>wQ lk fin (w.length+1) { eV with name:=x } w n
end
end
def dD {α:Type} (r:α→α→Bool):List α→List α→Bool
 | [],[]=>true
 | a::xs,b::ys=>r a b&&dD r xs ys
 | _,_=>false
theorem aEu {α:Type} {r:α→α→Bool}:∀ {xs ys:List α},xs.length≠ys.length→dD r xs ys=false
 | [],[],h=>absurd rfl h
 | [],_::_,_=>rfl
 | _::_,[],_=>rfl
 | a::xs,b::ys,h=>by simp only[dD,aEu (r:=r) (xs:=xs) (ys:=ys) (by simpa using h),gY]
theorem vS {α:Type} {r:α→α→Bool}:∀ {xs ys:List α},xs.length=ys.length→(dD r xs ys=true↔∀ (i:Nat) (a b:α),xs[i]?=some a→ys[i]?=some b→r a b=true)
 | [],[],_=>by simp[dD]
 | [],_::_,h=>by simp at h
 | _::_,[],h=>by simp at h
 | a::xs,b::ys,h=>by
  rw[dD,aZ,vS (by simpa using h)];constructor
  ·rintro ⟨h1,h2⟩ i x y hx hy;cases i with
   | zero=>simp at hx hy;subst hx;subst hy;exact h1
   | succ i=>exact h2 i x y (by simpa using hx) (by simpa using hy)
  ·intro h;exact ⟨h 0 a b (by simp) (by simp),fun i x y hx hy=>h (i+1) x y (by simpa using hx) (by simpa using hy)⟩
theorem aDM {α:Type} (enc:α→A) (r:α→α→Bool) (f:FuncId) (first caps:List A) (s:St) (xs ys:List α) (KV Kp)
  (hz:∀ a,∃ cs,enc a=.agg cs∧cs.length=6∧dU cs=true)
  (hf:∀ a b s' KV Kp,a∈xs→b∈ys→s'.ge s→KV s' (.bool (r a b))→Den cx f (first++[enc a,enc b]++caps) KV Kp s')
  (hk:KV s (.bool (dD r xs ys))):Den cx 82 [.list none (xs.map enc),.list none (ys.map enc),.fn f first caps] KV Kp s:=by
 refine tZ fun hz1=>?_
 have hlw:=hz1 _ (eK ..);(refine aO func82 [0,1,2,6,7,8,9,14,15,16,17,18,30] ?_;simp only[go_sem,ntmps82,f82]);(refine bA (fun h=>?_) (fun h=>?_))<;>simp only[go_sem,h]
 ·exact aY (by rwa[aEu (by intro e;simp[e] at h)] at hk)
 ·have hlen:xs.length=ys.length:=by simp at h;omega
  refine Ex.loop (fun i=>[(0,.list none (xs.map enc)),(1,.list none (ys.map enc)),(2,.fn f first caps),(15,.list none (xs.map enc)),(16,.int .i64 xs.length),(17,.int .i64 (i:Nat))]) (fun _=>s)
     (fun i=>i≤xs.length∧∀ (j:Nat) a b,j<i→xs[j]?=some a→ys[j]?=some b→r a b=true) (fun i=>xs.length-i) 0 ⟨bS _,fun j _ _ hj=>by omega⟩ ?_ (bW s) ?_
  ·simp only[go_sem];exact rfl
  ·rintro i ⟨hi,hall⟩;refine cL (V:=[0,1,2,6,7,8,9,14,15,16,17,18,30]) _ _ _ _ ?_;simp only[go_sem];(refine bA (fun h=>?_) (fun h=>?_))<;>simp only[go_sem,h]
   ·have hix:i<xs.length:=by simpa using h
    have hiy:i<ys.length:=by omega
    obtain ⟨a,ha⟩:∃ a,xs[i]?=some a:=⟨_,bK hix⟩
    obtain ⟨b,hb⟩:∃ b,ys[i]?=some b:=⟨_,bK hiy⟩
    obtain ⟨ca,ea,la,oa⟩:=hz a;obtain ⟨cb,eb,lb,ob⟩:=hz b;simp only[go_sem,ha,ea,la,hix,oa,gW (Nat.le_of_eq la)];(intro p hp;try simp only[aL,ne_eq] at hp);simp only[go_sem,hp,oa,la,hb,eb,lb,ob,hiy,gW (Nat.le_of_eq la),gW (Nat.le_of_eq lb)];(intro q hq;try simp only[aL,ne_eq] at hq);simp only[go_sem,hp,hq,oa,la,hb,eb,lb,ob,gW (Nat.le_of_eq la),gW (Nat.le_of_eq lb)];rw[← ea,← eb];refine hf a b _ _ _ (dP ha) (dP hb) (mR hq.2 (dM hp)) ?_;simp only[go_sem];(refine bA (fun h=>?_) (fun h=>?_))<;>simp only[go_sem,h]
    ·have hr:r a b=false:=by simpa using h
     refine aH (s2:=s) ?_ (mR hq.2 (dM hp))
     have:dD r xs ys=false:=by
      rw[aDE];intro he;have:=(vS hlen).1 he i a b ha hb;rw[hr] at this;cases this
     rwa[this] at hk
    ·have hr:r a b=true:=by simpa using h
     refine ⟨i+1,⟨by omega,fun j x y hj hx hy=>?_⟩,by omega,?_,mR hq.2 (dM hp)⟩
     ·by_cases hji:j=i
      ·subst hji;rw[ha] at hx;rw[hb] at hy;cases hx;cases hy;exact hr
      ·exact hall j x y (by omega) hx hy
     ·simp only[go_sem,hlw.wrap (i:=i) (by simpa using hix)]
   ·have hix:i=xs.length:=by simp at h;omega
    have:dD r xs ys=true:=(vS hlen).2 fun j x y hx hy=>hall j x y (by rw[hix];exact (dH.1 hx).1) hx hy
    exact aY (by rwa[this] at hk)
theorem aD3:∀ a b:List Tm,rV a b=dD Tm.same a b
 | [],[]=>rfl
 | [],_::_=>rfl
 | _::_,[]=>rfl
 | a::l,b::r=>by rw[rV,dD,aD3 l r]
theorem aJe (a b:Tm):a.same b=(decide (a.kind=b.kind)&&(decide (a.n=b.n)&&(decide (a.text=b.text)&&(decide (a.sort=b.sort)&&(dD Tm.same a.kids b.kids&&dD Tm.same a.rest b.rest))))):=by
 cases a;cases b;simp only[Tm.same,aD3,Tm.kind,Tm.n,Tm.text,Tm.sort,Tm.kids,Tm.rest];rfl
theorem Tm.hz6 (a:Tm):∃ cs,a.enc=.agg cs∧cs.length=6∧dU cs=true:=⟨_,a.enc_eq,rfl,rfl⟩
theorem aJC (m:Nat):∀ (a b:Tm) (s:St) (KV Kp),SizeOf.sizeOf a<m→KV s (.bool (a.same b))→Den cx 36 [a.enc,b.enc] KV Kp s:=by
 induction m with
 | zero=>intro a b s KV Kp hm;omega
 | succ m ih =>
 intro a b s KV Kp hm hk;rw[aJe] at hk;simp only[go_sem];(refine aO func36 [0,1,2,3,4] ?_;simp only[go_sem,ntmps36,f36]);(intro p hp;try simp only[aL,ne_eq] at hp);simp only[go_sem,hp];(intro q hq;try simp only[aL,ne_eq] at hq);simp only[go_sem,hp,hq];(refine bA (fun h=>?_) (fun h=>?_))<;>simp only[go_sem,h,hp,hq]<;>(try simp only[h,eZ,fL,iF,gY,kJ,kI,kH,gZ,dW,eX] at hk)
 ·(refine bA (fun h => ?_) (fun h => ?_)) <;> simp only [go_sem,h,hp,hq] <;> (try simp only [h,eZ,fL,iF,gY,kJ,kI,kH,gZ,dW,eX] at hk)
  ·(refine bA (fun h => ?_) (fun h => ?_)) <;> simp only [go_sem,h,hp,hq] <;> (try simp only [h,eZ,fL,iF,gY,kJ,kI,kH,gZ,dW,eX] at hk)
   ·(refine bA (fun h => ?_) (fun h => ?_)) <;> simp only [go_sem,h,hp,hq] <;> (try simp only [h,eZ,fL,iF,gY,kJ,kI,kH,gZ,dW,eX] at hk)
    ·refine aDM Tm.enc Tm.same 36 [] [] _ _ _ _ _ Tm.hz6 (fun x y s' KV' Kp' hx hy hs h'=>ih x y s' KV' Kp' (by have:=aIs hx;omega) h') ?_;simp only[go_sem];(refine bA (fun h=>?_) (fun h=>?_))<;>simp only[go_sem,h,hp,hq]<;>(try simp only[h,eZ,fL,iF,gY,kJ,kI,kH,gZ,dW,eX] at hk)
     ·refine aDM Tm.enc Tm.same 36 [] [] _ _ _ _ _ Tm.hz6 (fun x y s' KV' Kp' hx hy hs h'=>ih x y s' KV' Kp' (by have:=aIB hx;omega) h') ?_;simp only[go_sem];exact aH hk cN
     ·exact aH hk cN
    ·exact aH hk cN
   ·exact aH hk cN
  ·exact aH hk cN
 ·exact aH hk cN
theorem aJm (a b:Tm) (s:St) (KV Kp) (hk:KV s (.bool (a.same b))):Den cx 36 [a.enc,b.enc] KV Kp s :=
 aJC _ a b s KV Kp (fK _) hk
theorem aIP (a b:Tm) (s:St) (KV Kp) (hk:KV s (.bool (a.same b))):Den cx 36 [.agg a.cs,.agg b.cs] KV Kp s:=by
 have:=aJm a b s KV Kp hk
 rwa[bY,bY] at this
def Eqn.same (a b:Eqn):Bool:=a.left.same b.left&&(a.right.same b.right&&dD Tm.same a.cond b.cond)
def Cel.same (a b:Cel):Bool:=decide (a.name=b.name)&&(decide (a.sort=b.sort)&&a.init.same b.init)
def Part.same (a b:Part):Bool:=decide (a.cell=b.cell)&&(decide (a.at_=b.at_)&&(a.left.same b.left&&dD Tm.same a.right b.right))
def Fresh.same (a b:Fresh):Bool:=dD Tm.same a.cells b.cells
theorem Eqn.hz (a:Eqn):∃ cs,a.enc=.agg cs∧cs.length=15∧dU cs=true:=⟨_,rfl,rfl,rfl⟩
theorem Cel.hz (a:Cel):∃ cs,a.enc=.agg cs∧cs.length=10∧dU cs=true:=⟨_,rfl,rfl,rfl⟩
theorem Part.hz (a:Part):∃ cs,a.enc=.agg cs∧cs.length=11∧dU cs=true:=⟨_,rfl,rfl,rfl⟩
theorem Fresh.hz (a:Fresh):∃ cs,a.enc=.agg cs∧cs.length=1∧dU cs=true:=⟨_,rfl,rfl,rfl⟩
theorem Rul.hz (a:Rul):∃ cs,a.enc=.agg cs∧cs.length=7∧dU cs=true:=⟨_,rfl,rfl,rfl⟩
theorem Opr.hz (a:Opr):∃ cs,a.enc=.agg cs∧cs.length=7∧dU cs=true:=⟨_,rfl,rfl,rfl⟩
def Rul.same (a b:Rul):Bool:=decide (a.name=b.name)&&(dD Part.same a.parts b.parts&&(dD Tm.same a.cond b.cond&&(dD Fresh.same a.new b.new&&dD (fun a b=>decide (a=b)) a.drop b.drop)))
def Opr.same (a b:Opr):Bool:=decide (a.name=b.name)&&(decide (a.sort=b.sort)&&(decide (a.prec=b.prec)&&(decide (a.assoc=b.assoc)&&(dD (fun a b=>decide (a=b)) a.args b.args&&(dD (fun a b=>decide (a.text=b.text)&&decide (a.sort=b.sort)) a.pieces b.pieces&&dD (fun a b=>decide (a=b)) a.strict b.strict)))))
def Sig.same (a b:Sig):Bool:=dD (fun a b=>decide (a=b)) a.sorts b.sorts&&(dD (fun a b=>decide (a.low=b.low)&&decide (a.high=b.high)) a.below b.below&&(dD (fun a b=>decide (a=b)) a.values b.values&&(dD Opr.same a.ops b.ops&&dD Opr.same a.funs b.funs)))
def Dfn.same (a b:Dfn):Bool:=decide (a.name=b.name)&&(decide (a.kind=b.kind)&&(decide (a.start=b.start)&&(decide (a.watch=b.watch)&&(a.sig.same b.sig&&(dD Eqn.same a.eqs b.eqs&&(dD Cel.same a.once b.once&&(dD Cel.same a.many b.many&&dD Rul.same a.rules b.rules)))))))
mutual
theorem Tm.same_self:∀ a:Tm,a.same a=true
 | .mk k n t s l r=>by simp[Tm.same,aBn l,aBn r]
theorem aBn:∀ l:List Tm,rV l l=true
 | []=>rfl
 | a::l=>by simp[rV,Tm.same_self a,aBn l]
end
theorem lT {α:Type} {r:α→α→Bool} (h:∀ a,r a a=true) (xs:List α):dD r xs xs=true :=
 (vS rfl).2 fun i a b ha hb=>by rw[ha] at hb;cases hb;exact h a
theorem vU (l:List aB):dD (fun a b=>decide (a=b)) l l=true:=lT (r:=fun a b:aB=>decide (a=b)) (fun a=>eR rfl) l
theorem vY (l:List Tm):dD Tm.same l l=true:=lT Tm.same_self l
theorem Opr.same_self (a:Opr):a.same a=true:=by
 unfold Opr.same;rw[vU,lT (fun a=>by simp),lT (fun a=>by simp)];simp
theorem Sig.same_self (a:Sig):a.same a=true:=by
 unfold Sig.same;rw[vU,vU,lT Opr.same_self,lT Opr.same_self,lT (fun a=>by simp)];rfl
theorem Eqn.same_self (a:Eqn):a.same a=true:=by simp[Eqn.same,Tm.same_self,vY]
theorem Cel.same_self (a:Cel):a.same a=true:=by simp[Cel.same,Tm.same_self]
theorem Part.same_self (a:Part):a.same a=true:=by simp[Part.same,Tm.same_self,vY]
theorem Fresh.same_self (a:Fresh):a.same a=true:=vY _
theorem Rul.same_self (a:Rul):a.same a=true:=by simp[Rul.same,vY,vU,lT Part.same_self,lT Fresh.same_self]
theorem Dfn.same_self (a:Dfn):a.same a=true:=by
 simp[Dfn.same,Sig.same_self,lT Eqn.same_self,lT Cel.same_self,lT Rul.same_self]
section
@[reducible] def Tok.to (t:Tok) (l c:Int):Tok:=⟨t.kind,t.text,t.n,l,c⟩
def Adj (t:Tok) (w:List Tok):Prop:=∀ v z,w=v::z→t.kind≠1→t.kind≠2→t.kind≠3→t.text=[45]→v.kind=2→v.line=t.line∧v.col=t.col+1
inductive Mv:List Tok→List Tok→Prop
 | nil:Mv [] []
 | cons {t:Tok} {l c:Int} {w w':List Tok} (ha:Adj (t.to l c) w') (hw:Mv w w'):Mv (t::w) (t.to l c::w')
theorem Mv.len {w w':List Tok} (h:Mv w w'):w.length=w'.length:=by
 induction h with
 | nil=>rfl
 | cons _ _ ih=>simp only[aD,ih]
theorem Mv.tail {w w':List Tok} (h:Mv w w'):Mv w.tail w'.tail:=by
 cases h with
 | nil=>exact .nil
 | cons _ h=>exact h
theorem Mv.isT {w w':List Tok} (h:Mv w w') (x:aB):isT x w'=isT x w:=by
 cases h<;>rfl
section
variable {α β σ:Type} {P:α→α→Prop} {Q:β→β→Prop}
@[reducible] def fz (a b:Int):Fault:=⟨12,[],a,b⟩
def Rd.pl (P:α→α→Prop):Rd α→Rd α→Prop
 | .bad f,_=>f.code≠0
 | .ok a w n,r=>∃ b w',r=.ok b w' n∧P a b∧Mv w w'
def Pl (P:α→α→Prop) (F1 F2:List Tok→Nat→Rd α):Prop:=∀ w w' n,Mv w w'→(F1 w n).pl P (F2 w' n)
theorem iH {f:Fault} {r:Rd α} (h:f.code≠0:=by first|decide|simp[dR,nB,fz]):(Rd.bad f:Rd α).pl P r:=h
theorem nS {a b:α} (h:P a b) {w w':List Tok} (hw:Mv w w') (n:Nat):(Rd.ok a w n).pl P (.ok b w' n):=⟨b,w',rfl,h,hw⟩
theorem Pl.ok {a b:α} (h:P a b):Pl P (fun w n=>.ok a w n) (fun w n=>.ok b w n):=fun w w' n hw=>nS h hw n
theorem aF2 {r1 r2:Rd α} {k1 k2:α→List Tok→Nat→Rd β} (h:r1.pl P r2) (hk:∀ a b,P a b→Pl Q (k1 a) (k2 b)):(r1.bind k1).pl Q (r2.bind k2):=by
 cases r1 with
 | bad f=>exact h
 | ok a w n =>
  obtain ⟨b,w',rfl,hp,hw⟩:=h;exact hk a b hp w w' n hw
theorem Pl.bind {F1 F2:List Tok→Nat→Rd α} {k1 k2:α→List Tok→Nat→Rd β} (h:Pl P F1 F2) (hk:∀ a b,P a b→Pl Q (k1 a) (k2 b)) :
  Pl Q (fun w n=>(F1 w n).bind (k1 ·)) (fun w n=>(F2 w n).bind (k2 ·)):=fun w w' n hw=>aF2 (h w w' n hw) hk
theorem kN (c:Prop) [Decidable c] {r1 r2 s1 s2:Rd α} (h:r1.pl P r2) (g:s1.pl P s2):(if c then r1 else s1).pl P (if c then r2 else s2):=by
 by_cases hc:c
 ·simp only[hc,if_true];exact h
 ·simp only[hc,if_false];exact g
theorem zK (c:Prop) [Decidable c] {r1 r2 s1 s2:Rd α} (h:c→r1.pl P r2) (g:¬ c→s1.pl P s2):(if c then r1 else s1).pl P (if c then r2 else s2):=by
 by_cases hc:c
 ·simp only[hc,if_true];exact h hc
 ·simp only[hc,if_false];exact g hc
theorem aGT (c:Prop) [Decidable c] {F1 F2 G1 G2:List Tok→Nat→Rd α} (h:Pl P F1 F2) (g:Pl P G1 G2) :
  Pl P (fun w n=>if c then F1 w n else G1 w n) (fun w n=>if c then F2 w n else G2 w n):=fun w w' n hw=>kN c (h w w' n hw) (g w w' n hw)
theorem Pl.isT (x:aB) {F1 F2 G1 G2:List Tok→Nat→Rd α} (h:Pl P F1 F2) (g:Pl P G1 G2) :
  Pl P (fun w n=>if Go.AV.isT x w=true then F1 w.tail n else G1 w n) (fun w n=>if Go.AV.isT x w=true then F2 w.tail n else G2 w n):=fun w w' n hw=>by
 simp only[hw.isT x];exact kN _ (h _ _ n hw.tail) (g _ _ n hw)
theorem aGs (x y:aB) {F1 F2 G1 G2:List Tok→Nat→Rd α} (h:Pl P F1 F2) (g:Pl P G1 G2) :
  Pl P (fun w n=>if Go.AV.isT x w=true∨Go.AV.isT y w=true then F1 w n else G1 w n) (fun w n=>if Go.AV.isT x w=true∨Go.AV.isT y w=true then F2 w n else G2 w n):=fun w w' n hw=>by
 simp only[hw.isT x,hw.isT y];exact kN _ (h _ _ n hw) (g _ _ n hw)
theorem Pl.bad {f:List Tok→Nat→Fault} {F2:List Tok→Nat→Rd α} (h:∀ w n,(f w n).code≠0):Pl P (fun w n=>.bad (f w n)) F2:=fun w w' n hw=>h w n
theorem Pl.of {F1 F2:List Tok→Nat→Rd α} (h0:∀ n,(F1 [] n).pl P (F2 [] n)) (h1:∀ t l c w w' n,Adj (t.to l c) w'→Mv w w'→(F1 (t::w) n).pl P (F2 (t.to l c::w') n)):Pl P F1 F2:=by
 intro w w' n hw;cases hw with
 | nil=>exact h0 n
 | cons ha hw=>exact h1 _ _ _ _ _ n ha hw
theorem Pl.len {F1 F2:Nat→List Tok→Nat→Rd α} (h:∀ f,Pl P (F1 f) (F2 f)):Pl P (fun w n=>F1 (w.length+1) w n) (fun w n=>F2 (w.length+1) w n):=fun w w' n hw=>by
 show (F1 (w.length+1) w n).pl P (F2 (w'.length+1) w' n);rw[← hw.len];exact h _ w w' n hw
end
section
variable {α σ:Type} {a1 b1:Int} {f2:Fault} {P:α→α→Prop}
theorem wF (x:aB):Pl Eq (eA (fz a1 b1) x) (eA f2 x):=by
 have h:=Pl.isT x (Pl.ok (P:=Eq) (rfl:()=())) (Pl.bad (P:=Eq) (f:=fun w _=>dR (fz a1 b1) 11 w) (F2:=fun w _=>.bad (dR f2 11 w)) (fun w n=>by cases w<;>simp[dR,fz]));exact h
theorem aLU:Pl Eq (dO (fz a1 b1)) (dO f2):=Pl.of (fun n=>iH) (fun t l c w w' n ha hw=>kN _ (nS rfl hw n) iH)
theorem aCC (sep:aB) {S:σ→σ→Prop} {one1 one2:σ→List Tok→Nat→Rd σ} (h:∀ a b,S a b→Pl S (one1 a) (one2 b)):∀ (f:Nat) (a b:σ),S a b→Pl S (bZ (fz a1 b1) sep one1 f a) (bZ f2 sep one2 f b)
 | 0,a,b,_=>fun w w' n hw=>iH
 | f+1,a,b,hab=>by
  have ih:=aCC sep h f
  have e:=Pl.bind (h a b hab) (Q:=S) (k1:=fun a w n=>if isT sep w=true then bZ (fz a1 b1) sep one1 f a w.tail n else .ok a w n) (k2:=fun a w n=>if isT sep w=true then bZ f2 sep one2 f a w.tail n else .ok a w n)
   (fun a b hab=>Pl.isT sep (ih a b hab) (Pl.ok hab))
  exact e
theorem aLP {L:List α→List α→Prop} (happ:∀ {l l':List α} {a b:α},L l l'→P a b→L (l++[a]) (l'++[b])) {one1 one2:List α→List Tok→Nat→Rd α} (h:∀ l l',L l l'→Pl P (one1 l) (one2 l')) {acc acc':List α} (hacc:L acc acc') :
  Pl L (iN (fz a1 b1) one1 acc) (iN f2 one2 acc') :=
 Pl.len (F1:=fun f w n=>bZ (fz a1 b1) [44] (fun acc w n=>(one1 acc w n).bind fun a w n=>.ok (acc++[a]) w n) f acc w n) (F2:=fun f w n=>bZ f2 [44] (fun acc w n=>(one2 acc w n).bind fun a w n=>.ok (acc++[a]) w n) f acc' w n)
  (fun f=>aCC [44] (fun a b hab=>Pl.bind (h a b hab) (fun x y hxy=>Pl.ok (happ hab hxy))) f acc acc' hacc)
theorem aF6 {one1 one2:List α→List Tok→Nat→Rd α} (h:∀ l,Pl Eq (one1 l) (one2 l)) (acc:List α):Pl Eq (iN (fz a1 b1) one1 acc) (iN f2 one2 acc) :=
 aLP (L:=Eq) (P:=Eq) (fun h1 h2=>by rw[h1,h2]) (fun l l' e=>by subst e;exact h l) rfl
theorem aMl (t u:Tok):Pl Eq (mC t) (mC u):=fun w w' n hw=>kN _ iH (nS rfl hw _)
theorem aFZ (t u:Tok) (last:Bool) (sort:aB):Pl Eq (nV (fz a1 b1) t last sort) (nV f2 u last sort):=by
 refine Pl.of (fun n=>nS rfl .nil n) (fun x l c w w' n ha hw=>?_);refine kN _ ?_ (nS rfl (.cons ha hw) n);cases hw with
 | nil=>exact iH
 | cons ha hw=>exact kN _ (kN _ iH (aF2 (aMl t u _ _ n hw) (fun _ _ _=>Pl.ok rfl))) iH
theorem aML (t u:Tok) {tm1 tm2:List Tok→Nat→Rd Tm} (h:Pl Eq tm1 tm2) (acc:List Tm):Pl Eq (mI false (fz a1 b1) t tm1 acc) (mI false f2 u tm2 acc):=by
 by_cases h8:acc.length=8
 ·refine Pl.of (fun n=>by simp only[mI,h8,if_true];exact iH) (fun x l c w w' n ha hw=>?_);simp only[mI,h8,if_true];exact kN _ iH (h _ _ n (.cons ha hw))
 ·have e:∀ f t tm,mI false f t tm acc=tm:=fun f t tm=>by funext w n;simp only[mI,h8,if_false]
  rw[e,e];exact h
theorem aLi (t u:Tok) {tm1 tm2:List Tok→Nat→Rd Tm} (h:Pl Eq tm1 tm2) (x:Tok) (l c:Int):Pl Eq (pK false (fz a1 b1) t tm1 x) (pK false f2 u tm2 (x.to l c)):=by
 have e:=aGT (P:=Eq) (x.text=[116,114,117,101]) (Pl.ok (rfl:Tm.mk 2 1 [] [] [] []=_)) (aGT (x.text=[102,97,108,115,101]) (Pl.ok (rfl:Tm.mk 2 0 [] [] [] []=_))
  (Pl.isT [58] (Pl.bind (aLU (a1 := a1) (b1 := b1) (f2 := f2)) (fun y z hyz => Pl.ok (congrArg (fun y => Tm.mk 6 0 x.text y [] []) hyz)))
   (Pl.bind (wF (a1 := a1) (b1 := b1) (f2 := f2) [40]) (fun _ _ _ => Pl.isT [41] (Pl.ok (rfl : Tm.mk 5 0 x.text [] [] [] = _))
    (Pl.bind (aF6 (a1:=a1) (b1:=b1) (f2:=f2) (aML (a1:=a1) (b1:=b1) (f2:=f2) t u h) []) (fun y z hyz=>Pl.bind (wF (a1:=a1) (b1:=b1) (f2:=f2) [41]) (fun _ _ _=>Pl.ok (congrArg (fun y=>Tm.mk 5 0 x.text [] y []) hyz))))))))
 exact e
theorem aNp {tm1 tm2:List Tok→Nat→Rd Tm} (h:Pl Eq tm1 tm2) (acc acc':List Tm) (hacc:acc=acc'):Pl Eq (lG (fz a1 b1) tm1 acc) (lG f2 tm2 acc'):=by
 subst hacc;have e:=Pl.bind (Q:=Eq) h (fun k k' hk=>Pl.bind (wF (a1:=a1) (b1:=b1) (f2:=f2) [45,62]) (fun _ _ _=>Pl.bind h (fun v v' hv=>Pl.ok (by rw[hk,hv]:acc++[k,v]=acc++[k',v']))));exact e
theorem aJJ (t u:Tok) {tm1 tm2:List Tok→Nat→Rd Tm} (h:Pl Eq tm1 tm2) (last:Bool) (x:Tok) (l c:Int) (hx:x.kind≠1∧x.kind≠2∧x.kind≠3) (w w':List Tok) (n:Nat) (ha:Adj (x.to l c) w') (hw:Mv w w') :
  (kK (fz a1 b1) t tm1 last x w n).pl Eq (kK f2 u tm2 last (x.to l c) w' n):=by
 have el:Pl Eq (fun w n=>bZ (fz a1 b1) [44] (lG (fz a1 b1) tm1) (w.length+1) [] w n) (fun w n=>bZ f2 [44] (lG f2 tm2) (w.length+1) [] w n) :=
  Pl.len (F1:=fun f w n=>bZ (fz a1 b1) [44] (lG (fz a1 b1) tm1) f [] w n) (F2:=fun f w n=>bZ f2 [44] (lG f2 tm2) f [] w n) (fun f=>aCC [44] (aNp h) f [] [] rfl)
 refine zK _ (fun hm=>?_) (fun _=>kN _ ?_ (kN _ ?_ (kN _ ?_ (nS rfl hw n))))
 ·cases hw with
  | nil=>exact iH
  | @cons v l2 c2 z z' ha2 hw =>
   by_cases hc:v.kind=2∧v.line=x.line∧v.col=x.col+1
   ·have h2:=ha _ _ rfl hx.1 hx.2.1 hx.2.2 hm hc.1;show (if _ then _ else _:Rd Tm).pl Eq (if _ then _ else _);rw[if_pos hc,if_pos ⟨hc.1,h2⟩];exact nS rfl hw n
   ·show (if _ then _ else _:Rd Tm).pl Eq (if _ then _ else _);rw[if_neg hc];exact iH
 ·cases hw with
  | nil=>exact iH
  | cons ha2 hw=>exact kN _ (nS rfl hw n) iH
 ·exact (Pl.bind (P:=Eq) (Q:=Eq) (aGs [124] [93] (Pl.ok (rfl:([]:List Tm)=_)) (aF6 (a1:=a1) (b1:=b1) (f2:=f2) (fun _=>h) [])) (fun a a' e1=>Pl.bind (aFZ (a1:=a1) (b1:=b1) (f2:=f2) t u last [76,105,115,116]) (fun r r' e2=>Pl.bind (wF (a1:=a1) (b1:=b1) (f2:=f2) [93]) (fun _ _ _=>Pl.ok (by rw[e1,e2]:Tm.mk 7 0 [] [] a r=Tm.mk 7 0 [] [] a' r'))))) w w' n hw
 ·exact (Pl.bind (P:=Eq) (Q:=Eq) (aGs [124] [125] (Pl.ok (rfl:([]:List Tm)=_)) el) (fun a a' e1=>Pl.bind (aFZ (a1:=a1) (b1:=b1) (f2:=f2) t u last [77,97,112]) (fun r r' e2=>Pl.bind (wF (a1:=a1) (b1:=b1) (f2:=f2) [125]) (fun _ _ _=>Pl.ok (by rw[e1,e2]:Tm.mk 8 0 [] [] a r=Tm.mk 8 0 [] [] a' r'))))) w w' n hw
theorem aGl (t u:Tok):∀ (k:Nat),Pl Eq (dY false (fz a1 b1) t k) (dY false f2 u k)
 | 0=>Pl.of (fun n=>iH) (fun x l c w w' n ha hw=>kN _ iH iH)
 | k+1=>by
  have ih:=aGl t u k;refine Pl.of (fun n=>iH) (fun x l c w w' n ha hw=>?_);refine kN _ ?_ iH;unfold mC;by_cases hn:2000<n+1
  ·simp only[hn,if_true];exact iH
  ·simp only[hn,if_false,Rd.bind];refine zK _ (fun _=>nS rfl hw _) (fun h2=>zK _ (fun _=>nS rfl hw _) (fun h3=>zK _ (fun _=>aLi t u ih x l c _ _ _ hw) (fun h1=>?_)));exact aJJ t u ih _ x l c ⟨h1,h2,h3⟩ w w' _ ha hw
theorem aLh:Pl Eq (fV false (fz a1 b1)) (fV false f2):=by
 refine Pl.of (fun n=>iH) (fun x l c w w' n ha hw=>?_);have h:=aGl (a1:=a1) (b1:=b1) (f2:=f2) x (x.to l c) 60 _ _ 0 (Mv.cons ha hw);simp only[fV];cases hr:dY false (fz a1 b1) x 60 (x::w) 0 with
 | bad f=>rw[hr] at h;exact h
 | ok a w2 m =>
  rw[hr] at h;obtain ⟨b,w3,h1,h2,h3⟩:=h;rw[h1];exact nS h2 h3 n
def Eqn.st (a:Eqn):Eqn:={ a with line:=0,col:=0 }
def Cel.st (a:Cel):Cel:={ a with line:=0,col:=0 }
def Part.st (a:Part):Part:={ a with line:=0,col:=0 }
def Rul.st (a:Rul):Rul:={ a with parts:=a.parts.map Part.st,line:=0,col:=0 }
def Dfn.st (a:Dfn):Dfn:={ a with eqs:=a.eqs.map Eqn.st,once:=a.once.map Cel.st,many:=a.many.map Cel.st,rules:=a.rules.map Rul.st }
structure DSt (d d':Dfn):Prop where
 name:d.name=d'.name
 sig:d.sig=d'.sig
 eqs:d.eqs.map Eqn.st=d'.eqs.map Eqn.st
 once:d.once.map Cel.st=d'.once.map Cel.st
 kind:d.kind=d'.kind
 many:d.many.map Cel.st=d'.many.map Cel.st
 rules:d.rules.map Rul.st=d'.rules.map Rul.st
 start:d.start=d'.start
 watch:d.watch=d'.watch
theorem aLB {α β:Type} {f:α→β} {l l':List α} (h:l.map f=l'.map f):l.length=l'.length:=by
 have:=congrArg List.length h;simpa using this
theorem yL {α β:Type} {f:α→β} {r:α→α→Bool} (h:∀ a b,f a=f b→r a b=true) {l l':List α} (e:l.map f=l'.map f):dD r l l'=true :=
 (vS (aLB e)).2 fun i a b ha hb => h a b (by
  have:=congrArg (fun l=>l[i]?) e;simp only[nM,ha,hb,kG,aP] at this;exact this)
theorem aIE (a b:Part) (h:a.st=b.st):a.same b=true:=by
 have e:a.same b=a.st.same b.st:=rfl;rw[e,h];exact Part.same_self _
theorem DSt.same {d d':Dfn} (h:DSt d d'):d.same d'=true:=by
 have e1:dD Eqn.same d.eqs d'.eqs=true:=yL (fun a b h=>by rw[show a.same b=a.st.same b.st from rfl,h];exact Eqn.same_self _) h.eqs;have ec:∀ {l l':List Cel},l.map Cel.st=l'.map Cel.st→dD Cel.same l l'=true:=yL (fun a b h=>by rw[show a.same b=a.st.same b.st from rfl,h];exact Cel.same_self _)
 have er:dD Rul.same d.rules d'.rules=true:=yL (fun a b h=>by
  have h1:a.name=b.name:=(congrArg Rul.name h :);have h2:a.parts.map Part.st=b.parts.map Part.st:=(congrArg Rul.parts h :);have h3:a.cond=b.cond:=(congrArg Rul.cond h :);have h4:a.new=b.new:=(congrArg Rul.new h :);have h5:a.drop=b.drop:=(congrArg Rul.drop h :);simp[Rul.same,h1,h3,h4,h5,yL aIE h2,vY,vU,lT Fresh.same_self]) h.rules
 simp only[Dfn.same,h.name,h.kind,h.start,h.watch,h.sig,e1,ec h.once,ec h.many,er,Sig.same_self,oH,Bool.and_self]
end
end
theorem aEk (w:aB) (x:aB):∀ (l:List aB) (n:Nat),jA w (l++[x]) n=if jA w l n<x.length∧jW w x=true then x.length else jA w l n
 | [],n=>rfl
 | y::l,n=>aEk w x l _
theorem aBG (w:aB):∀ (l:List aB) (n:Nat),n≤w.length→jA w l n≤w.length
 | [],n,h=>h
 | y::l,n,h=>by
  refine aBG w l _ ?_;split
  ·rename_i hc;have:=hc.2;simp only[jW,aZ,cG] at this;exact this.1
  ·exact h
theorem aCP:∀ (w:aB) (c:UInt8),Lib.indexByte w c<(w.length:Int)
 | [],c=>by simp[Lib.indexByte]
 | d::w,c=>by
  have ih:=aCP w c;have ig:=Lib.indexByte_ge w c;unfold Lib.indexByte;simp only[aD];split
  ·omega
  ·split<;>omega
theorem aKd (s:St) (r:Nat) (x:aB) (at_ l c:Nat) (sg:List aB) (op:Bool) (KV Kp)
  (hr:s.getO r=some (.cells 226 (eB x at_ l c sg op))) (hx:x.length≤4294967296) (ha:at_<x.length) (hsg:sg.length≤4294967296)
  (hk:KV s (.tuple [(dZ (x.drop at_) sg op).1.enc,.int .i64 (dZ (x.drop at_) sg op).2.1,.bool (dZ (x.drop at_) sg op).2.2])):Den cx 278 [.ptr r 0] KV Kp s:=by
 obtain ⟨b,w,hw⟩:∃ b w,x.drop at_=b::w:=by
  cases h:x.drop at_ with
  | nil=>have:=congrArg List.length h;simp at this;omega
  | cons b w=>exact ⟨b,w,rfl⟩
 have hlw:(b::w).length≤4294967296:=by rw[← hw,cH];omega
 (refine aO func278 [0,2,3,4,5,6,8,20,33,41,67,68,69,70,81,100] ?_;simp only[go_sem,ntmps278,f278]);(intro q hq;try simp only[aL,ne_eq] at hq);have hne:=bN hr hq;simp only[go_sem,hr,hq,hne,eB];(refine bF (OT.r 0 10) [] ?_;simp only[go_sem,hr,hq,hne,eB]);rw[hw] at hk ⊢;have hpos:0<(b::w).length:=by simp
 simp only[go_sem,Nat.le_of_lt ha,hpos];refine ⟨⟨by omega,by omega⟩,?_⟩;have e1:List.take (Int.toNat 1) (b::w)=[b]:=rfl;rw[e1];refine vT _ _ _ _ ?_;simp only[go_sem];(refine bA (fun h=>?_) (fun h=>?_))<;>simp only[go_sem,h,hr,hq,hne,eB]
 ·refine aGg _ _ _ (fun c=>eM c.toNat) _ _ hlw (fun c KV Kp h=>aBz _ _ _ _ h) ?_;have hn:((b::w).takeWhile fun c=>eM c.toNat).length≤(b::w).length:=(List.takeWhile_sublist _).length_le;simp only[dZ,h,if_true] at hk;generalize ((b::w).takeWhile fun c=>eM c.toNat).length=n at hk hn;simp only[go_sem,hr,hq,hne,eB,hn];refine ⟨by simpa using hn,?_⟩;have e2:decide ((n:Int)≤40)=decide (n≤40):=by rw[fY];omega
  rw[e2];exact aH hk (dM hq)
 ·refine aDW _ _ _ _ ?_;have hnm:¬ cK [b]=true:=by rw[h];simp
  simp only[go_sem];(refine bA (fun h=>?_) (fun h=>?_))<;>simp only[go_sem,h,hr,hq,hne,eB]
  ·simp only[dZ,hnm,if_false,h,if_true,bR] at hk;refine aJt _ _ _ _ hlw ?_;simp only[go_sem,hr,hq,hne];exact aH hk (dM hq)
  ·have hnd:¬ eU b.toNat=true:=by rw[h];simp
   have h340:(34:UInt8).toNat=34:=rfl
   have e3:decide ((b.toNat:Int)=34)=decide (b=34):=by
    rw[fY,← oG,h340];omega
   rw[e3];(refine bA (fun h=>?_) (fun h=>?_))<;>simp only[go_sem,h,hr,hq,hne,eB]
   ·have hb:b=34:=by simpa using h
    simp only[dZ,hnm,hnd,hb,if_false,if_true] at hk;refine ⟨⟨by omega,by omega⟩,?_⟩
    have e4:List.take (w.length+1-Int.toNat 1) (List.drop (Int.toNat 1) (b::w))=w:=by
     show List.take (w.length+1-1) w=w;simp
    have e5:(A.int IntKind.u8 34)=.int .u8 ((34:UInt8).toNat):=rfl;rw[e4,e5];refine aBk _ _ _ _ _ ?_;have hm1:=Lib.indexByte_ge w 34;have hm2:=aCP w 34;obtain ⟨k,hk0⟩:∃ k:Nat,Lib.indexByte w 34=(k:Int)-1:=⟨(Lib.indexByte w 34+1).toNat,by omega⟩
    rw[hk0] at hk hm2 ⊢;simp only[aD] at hlw;have hkw:k≤w.length:=by omega
    have ew:IntKind.i64.wrap ((k:Int)-1+2)=((k+1:Nat):Int):=by rw[fU _ (by omega) (by omega)];omega
    have ew2:IntKind.i64.wrap (((k+1:Nat):Int)-1)=(k:Int):=by rw[fU _ (by omega) (by omega)];omega
    have en:((k:Int)-1+2).toNat=k+1:=by omega
    simp only[en] at hk;simp only[go_sem,ew];(refine bF (OT.r 0 19) [] ?_;simp only[go_sem,hr,hq,hne,eB,ew2]);have em:(if (k:Int)<1 then (1:Int) else k)=((max k 1:Nat):Int):=by split<;>omega
    rw[em];refine ⟨⟨by omega,by omega,by omega⟩,?_⟩
    have et:List.take (Int.toNat ((max k 1:Nat):Int)-Int.toNat 1) (List.drop (Int.toNat 1) (b::w))=w.take (k-1):=by
     show List.take (max k 1-1) w=w.take (k-1);congr 1;omega
    rw[et];have et2:k+1-2=k-1:=by omega
    rw[et2] at hk;(refine bA (fun h=>?_) (fun h=>?_))<;>simp only[go_sem,h,hr,hq,hne,eB,ew2]
    ·have hk1:1<k+1:=by have:=h;simp at this;omega
     refine ⟨⟨by omega,by omega,by omega⟩,?_⟩;have et3:List.take (k-Int.toNat 1) (List.drop (Int.toNat 1) (b::w))=w.take (k-1):=rfl;rw[et3];refine aDI _ _ _ _ ?_;simp only[go_sem,hr,hq,hne];simp only[hk1,oH,eZ] at hk;exact aH hk (dM hq)
    ·have hk1:¬ 1<k+1:=by have:=h;simp at this;omega
     simp only[hk1,qH,fL] at hk;exact aH hk (dM hq)
   ·have hnb:¬ b=34:=by simpa using h
    simp only[dZ,hnm,hnd,hnb,if_false] at hk;have hz:=aBG (b::w) sg 0 (bS _)
    refine Ex.loop (fun i=>[(0,.ptr r 0),(2,.ptr q 0),(3,.int .i64 (jA (b::w) (sg.take i) 0:Nat)),(5,.str (b::w)),(6,.int .u8 b.toNat),(67,.list none (sg.map .str)),(68,.int .i64 (sg.length:Nat)),(69,.int .i64 (i:Nat))])
     (fun _=>s.setO q (.cells 60 [.int .i64 0,.str [],.int .i64 0,.int .i64 0,.int .i64 0])) (fun i=>i≤sg.length) (fun i=>sg.length-i) 0 (bS _) ?_ (bW _) ?_
    ·simp[Env.has,Env.get,jA]
    ·intro i hi;refine cL (V:=[0,2,3,4,5,6,8,20,33,41,67,68,69,70,81,100]) _ _ _ _ ?_;simp only[go_sem];(refine bA (fun h=>?_) (fun h=>?_))<;>simp only[go_sem,h,hr,hq,hne,eB]
     ·have hlt:i<sg.length:=by simpa using h
      obtain ⟨y,hy⟩:∃ y,sg[i]?=some y:=⟨sg[i],bK hlt⟩
      have hst:jA (b::w) (sg.take (i+1)) 0=if jA (b::w) (sg.take i) 0<y.length∧jW (b::w) y=true then y.length else jA (b::w) (sg.take i) 0:=by
       rw[← aEk,lQ,hy];rfl
      generalize jA (b::w) (sg.take i) 0=n at hst;refine ⟨hlt,?_⟩;simp only[go_sem,hy];(refine bA (fun h=>?_) (fun h=>?_))<;>simp only[go_sem,h,hr,hq,hne,eB]
      ·have h5:n<y.length:=by simpa using h
       refine aDG _ _ _ _ _ ?_;simp only[go_sem];(refine bA (fun h=>?_) (fun h=>?_))<;>simp only[go_sem,h]
       ·exact ⟨i+1,by omega,by omega,⟨by rw[hst,if_pos ⟨h5,h⟩],cJ i (by omega)⟩,bW _⟩
       ·exact ⟨i+1,by omega,by omega,⟨by rw[hst,if_neg (by rw[h];simp)],cJ i (by omega)⟩,bW _⟩
      ·have h5:¬ n<y.length:=by simpa using h
       exact ⟨i+1,by omega,by omega,⟨by rw[hst,if_neg (by simp[h5])],cJ i (by omega)⟩,bW _⟩
     ·have hge:sg.length≤i:=by simpa using h
      obtain rfl:i=sg.length:=by omega
      rw[List.take_length];generalize jA (b::w) sg 0=n at hk hz
      have hqr:(s.setO q (.cells 60 [.int .i64 0,.str [],.int .i64 0,.int .i64 0,.int .i64 0])).getO r=some (.cells 226 (eB x at_ l c sg op)):=by
       rw[aE,if_neg hne.2];exact hr
      simp only[bR,if_false] at hk;have h390:(39:UInt8).toNat=39:=rfl;have h950:(95:UInt8).toNat=95:=rfl;have e39:decide ((b.toNat:Int)=39)=decide (b=39):=by rw[fY,← oG,h390];omega
      have e95:decide ((b.toNat:Int)=95)=decide (b=95):=by rw[fY,← oG,h950];omega
      have e0:decide ((n:Int)=0)=decide (n=0):=by rw[fY];omega
      rw[e0];cases h0:decide (n=0)<;>cases op<;>simp only[go_sem,hqr,hq,hne,eB,e39,e95]<;>cases h39:decide (b=39)<;>cases h95:decide (b=95)<;>(try simp only[go_sem,hqr,hq,hne,eB,e39,e95,h39,h95])
      all_goals (simp only[cG,kW] at h0 h39 h95)
      all_goals (have ed:decide (0<(n:Int))=decide (0<n):=by rw[fY];omega)
      all_goals (simp only[aD] at hz)
      all_goals first
       | (rw[if_neg (fun hc=>by simp_all)] at hk;refine ⟨by omega,?_⟩;rw[ed];exact aH hk (dM hq))
       | (rw[if_pos (by simp_all)] at hk;refine ⟨by omega,?_⟩;exact aH hk (dM hq))
theorem aC4 (p:UInt8→Bool) (w:aB):(w.takeWhile p).length≤w.length:=(List.takeWhile_sublist _).length_le
theorem aGC {p:UInt8→Bool} {c:UInt8} {w:aB} (h:p c=true):1≤((c::w).takeWhile p).length:=by simp[List.takeWhile,h]
theorem aBW {c:UInt8} {r:aB} {sg:List aB} {op:Bool} {t:Tok} {n:Nat} (h:dZ (c::r) sg op=(t,n,true)):1≤n∧n≤(c::r).length:=by
 simp only[dZ] at h;split at h
 ·rename_i hn;simp only[lR,cG] at h;obtain ⟨_,rfl,_⟩:=h;refine ⟨aGC ?_,aC4 _ _⟩;simp only[cK,aZ,List.all_cons] at hn;exact hn.2.2.1
 ·split at h
  ·rename_i hd;simp only[mW] at h;split at h
   ·simp at h
   ·simp only[lR,cG] at h;obtain ⟨_,rfl,_⟩:=h;exact ⟨aGC hd,aC4 _ _⟩
  ·split at h
   ·simp only[lR,aZ,cG] at h;have:=aCP r 34;simp only[aD];omega
   ·have hz:=aBG (c::r) sg 0 (bS _);simp only[lR,cG] at h;obtain ⟨_,rfl,h⟩:=h;refine ⟨h,?_⟩;split
    ·simp
    ·exact hz
theorem tX:∀ (f:Nat) (w:aB),kS f w≤w.length
 | 0,w=>bS _
 | f+1,[]=>bS _
 | f+1,b::r=>by
  simp only[kS];split
  ·have:=tX f r;simp only[aD];omega
  ·split
   ·have:=tX f ((b::r).drop ((b::r).takeWhile (fun c=>!decide (c=10))).length);rw[cH] at this;have:=aC4 (fun c=>!decide (c=10)) (b::r);omega
   ·exact bS _
def Lx.out (KV:St→A→Prop):Lx→St→Prop
 | .ok l,s=>KV s (.tuple [.list none (l.map Tok.enc),Fault.none.enc])
 | .bad f,s=>KV s (.tuple [.list none [],f.enc])
theorem aLG (s:St) (r:Nat) (x:aB) (sg:List aB) (KV Kp)
  (hr:s.getO r=some (.cells 226 (eB x 0 1 1 sg true))) (hx:x.length≤4294967290) (hsg:sg.length≤4294967296)
  (hk:∀ o,(jG sg true x).out KV (s.setO r o)):Den cx 215 [.ptr r 0] KV Kp s:=by
 (refine aO func215 [0,2,3,4,5,6,18,38] ?_;simp only[go_sem,ntmps215,f215]);(intro q hq;try simp only[aL,ne_eq] at hq);have hne:=bN hr hq;simp only[go_sem,hr,hq,hne,eB];refine aEo _ r x 0 1 1 sg true _ _ (by rw[aE,if_neg hne.2];exact hr) (by omega) (bS _) (by omega) (by omega) ?_;have hb0:=tX x.length x;change dC x≤x.length at hb0;simp only[go_sem,hr,hq,hne,eB]
 refine Ex.loop (ι:=Nat × (Nat × Nat) × List Tok × Option Nat) (fun i=>[(0,.ptr r 0),(2,gv i.2.2.2 (i.2.2.1.map Tok.enc)),(3,.ptr q 0)])
  (fun i=>gs ((s.setO q (.cells 36 [.int .i64 0,.str [],.int .i64 0,.int .i64 0])).setO r (.cells 226 (eB x i.1 i.2.1.1 i.2.1.2 sg true))) i.2.2.2 i.2.2.1.length 60)
  (fun i => i.1 ≤ x.length ∧ i.2.1.1 ≤ i.1 + 1 ∧ i.2.1.2 ≤ i.1 + 1 ∧ (i.2.2.2 = none → i.2.2.1 = []) ∧ (∀ t,i.2.2.2 = some t → s.getT t = none) ∧ i.2.2.1.length ≤ i.1 ∧
   ∃ f,x.length-i.1≤f∧jG sg true x=jZ sg true f (x.drop i.1) i.2.1 i.2.2.1) (fun i=>x.length-i.1)
  (dC x,cU (1,1) (x.take (dC x)),[],none) ?_ ?_ ?_ ?_
 ·have:=qR (x.take (dC x)) (1,1) 0 (by omega) (by omega);rw[eL] at this;refine ⟨hb0,by simp only;omega,by simp only;omega,fun _=>rfl,fun t h=>(by cases h),bS _,x.length,by simp only;omega,rfl⟩
 ·simp only[go_sem];rfl
 ·simp only[go_sem];exact bW _
 ·rintro ⟨a,⟨l,c⟩,acc,tk⟩ ⟨ha,hl,hc,hn,hf,hla,f,hff,hlex⟩;simp only at ha hl hc hn hf hla hff hlex;refine cL (V:=[0,2,3,4,5,6,18,38]) _ _ _ _ ?_;simp only[go_sem];(refine bF (OT.r 0 10) [] ?_;simp only[go_sem,hne,eB]);(refine bA (fun h=>?_) (fun h=>?_))<;>simp only[go_sem,h]
  ·have hlt:a<x.length:=by simpa using h
   obtain ⟨b,w,hw⟩:∃ b w,x.drop a=b::w:=⟨_,_,xQ hlt⟩
   obtain ⟨f,rfl⟩:∃ f',f=f'+1:=⟨f-1,by omega⟩
   refine aKd _ r x a l c sg true _ _ (by simp only[go_sem];rfl) (by omega) hlt hsg ?_;rw[hw] at hlex ⊢;simp only[jZ] at hlex;rcases htok:dZ (b::w) sg true with ⟨⟨tkd,ttx,tn,tl,tc⟩,n,ok⟩
   rw[htok] at hlex;simp only[go_sem];(intro q2 hq2;try simp only[aL,ne_eq] at hq2)
   have hne2:q2≠r∧q2≠q:=by
    have h1:=hq2;rw[aR,aE] at h1;have h2:=hq2;rw[aR,aE] at h2;constructor<;>rintro rfl
    ·simp at h1
    ·rw[if_neg hne.1,aE] at h2;simp at h2
   simp only[go_sem,hne,hne2,hq2];(refine bF (OT.r 0 12) [(9,[7])] ?_;simp only[go_sem,hne,hne2,eB]);(refine bA (fun h=>?_) (fun h=>?_))<;>simp only[go_sem,h,hne,hne2,eB]
   ·have hok:ok=false:=by simpa using h
    subst hok;simp only at hlex;(refine bF (OT.r 0 25) [] ?_;simp only[go_sem,hne,hne2,eB,Nat.le_of_lt hlt]);have ew:IntKind.i64.wrap ((a:Int)+1)=((a+1:Nat):Int):=cJ a (by omega);rw[ew];refine ⟨⟨by omega,by omega⟩,?_⟩;have et:List.take ((((a+1:Nat):Int)).toNat-a) (x.drop a)=[b]:=by rw[hw,Int.toNat_natCast,Nat.add_sub_cancel_left];rfl
    rw[et];rw[hlex] at hk;refine DK.mk (hk _) (aHa (mR ?_ (mR ?_ (mP (dM hq)))) ?_) (A.le.tuple ⟨A.le.nil,bM _,trivial⟩)
    ·rw[aE,if_neg hne.1];exact hq
    ·have h1:=hq2;rw[aR,aE,if_neg hne2.1.symm,aE,if_neg hne2.2.symm] at h1;rw[aE,if_neg hne2.1.symm];exact h1
    ·exact hf
   ·have hok:ok=true:=by simpa using h
    subst hok;simp only at hlex;obtain ⟨hn1,hn2⟩:=aBW htok;refine ⟨by decide,by simp[A.cells],fB rfl rfl (by rw[aS];exact jD fun e=>by rw[hn e];rfl) (fun y hy=>by simp only[cO] at hy;obtain ⟨z,_,rfl⟩:=hy;rfl) (by simp;omega) fun t ht=>?_⟩;have hft':s.getT t=none:=by have:=oN ht (fun u hu=>hf u hu);exact this
    rw[mY ht];simp only[go_sem,hne,hne2];refine yX _ r x a l c n sg true _ _ (by simp only[go_sem,hne,hne2];rfl) (by omega) (by have:=congrArg List.length hw;rw[cH] at this;omega) (by omega) (by omega) ?_;simp only[go_sem];have hal:=qR ((b::w).take n) (l,c) a hl hc;rw[eL,aBj hn2] at hal;have hwl:x.length-a=(b::w).length:=by rw[← hw,cH]
    rw[hw];have hblk:=tX ((b::w).drop n).length ((b::w).drop n);change dC ((b::w).drop n)≤_ at hblk;rw[cH] at hblk;have hdd:x.drop (a+n)=(b::w).drop n:=by rw[← pC,hw]
    refine aEo _ r x (a+n) _ _ sg true _ _ (by simp only[go_sem,hne,hne2];rfl) (by omega) (by omega) (by omega) (by omega) ?_;simp only[go_sem];rw[hdd];refine ⟨(a+n+dC ((b::w).drop n),cU (cU (l,c) ((b::w).take n)) (((b::w).drop n).take (dC ((b::w).drop n))),acc++[⟨tkd,ttx,tn,l,c⟩],some t),⟨?_,?_,?_,?_,?_,?_,f,?_,?_⟩,?_,?_,?_⟩
    ·simp only;omega
    ·have:=qR (((b::w).drop n).take (dC ((b::w).drop n))) (cU (l,c) ((b::w).take n)) (a+n) (by omega) (by omega);rw[eL,cH,aBj hblk] at this;simp only;omega
    ·have:=qR (((b::w).drop n).take (dC ((b::w).drop n))) (cU (l,c) ((b::w).take n)) (a+n) (by omega) (by omega);rw[eL,cH,aBj hblk] at this;simp only;omega
    ·intro h;cases h
    ·intro u hu;cases hu;exact hft'
    ·simp only[aK,aD,aG];omega
    ·simp only;omega
    ·simp only[hlex];congr 1;rw[← pC,hdd]
    ·simp only;omega
    ·simp only[dQ,bU,bD,dT];exact rfl
    ·simp only[gs,aK,aD,aG];refine aJv (aJT ?_ hne2.1);have h1:=hq2;rw[aR,aE,if_neg hne2.1.symm] at h1;exact h1
  ·(refine bF (OT.r 0 4) [] ?_; simp only [go_sem,hne,eB]);have hge : x.length ≤ a := by simpa using h
   have hlx:jG sg true x=.ok acc:=by
    rw[hlex,rI hge];cases f<;>rfl
   rw[hlx] at hk;refine DK.mk (hk _) (aHa (mR ?_ (mP (dM hq))) ?_) (A.le.tuple ⟨mZ tk _ (fun e=>by rw[hn e];rfl),bM _,trivial⟩)
   ·rw[aE,if_neg hne.1];exact hq
   ·exact hf
end Go.AV
