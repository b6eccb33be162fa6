/-
  Of DefStrings.
-/
import Derived.Test.YtamikhobdffnfaaGreatDoorSt10
import Derived.Test.YtamikhobdffnfaaGreatDoorTie
import Derived.Test.YtamikhobdffnfaaGreatDoorCards
import Derived.ProofKit
import Derived.OpenShut
import Derived.Deep.DeepHandedRow
import Derived.Deep.DeepWitnessRowRef
import Derived.Lib.LaidTab
import Derived.Lib.LaidU8
import Derived.Lib.ItoaNum
import Derived.Lib.Space
set_option linter.all false
set_option maxRecDepth 99999
set_option maxHeartbeats 0
namespace Go.AV
open Go Go.Proofs Tryz
def rF (pi:Nat→Option (List Value)) (W:World):Gh:=⟨pi,fun _ _=>none,fun _=>none,(W.os,W.output)⟩
theorem aKt {f:FuncId} {fn:Func} {c:Code} {args:List A} {vals:List Value} {W:World} {pi:Nat→Option (List Value)}
  (hf : prog.funcs[f]? = some fn) (hb : fn.body = some c) (hname : (fn.name == "runtime.NumGoroutine") = false)
  (hpi:∀ b pre,pi b=some pre→∃ rest e fr,W.heap[b]?=some (.cells (pre++rest).toArray e fr))
  (hg : ∀ b cs,vG b = some cs → ∃ pre ty fr,W.heap[b]? = some (.cells pre.toArray ty fr) ∧ pi b = some pre ∧ pre.length = cs.length ∧ (∀ c,c ∈ cs → c.one = true) ∧
   ∀ (j:Nat) (c:A) (v:Value),cs[j]?=some c→pre[j]?=some v→Rz (rF pi W) c v)
  (hv:Rzs (rF pi W) args vals)
  (h:Den cx f args (fun _ a=>a=.bool true) (fun _ _=>False) St.zero) :
  Calls prog f vals.toArray W fun e W'=>e=.returned (.bool true)∧W'.os=W.os∧W'.output=W.output∧∀ k,k<W.heap.size→W'.heap[k]?=W.heap[k]?:=by
 let F1:Fr:=fun b=>(W.heap[b]?).map fun o=>(o,pi b)
 have hR1:R cx.toCtx F1 (rF pi W) St.zero W:=by
  have z1:∀ b,St.zero.getO b=none:=fun b=>rfl
  have z2:∀ b,St.zero.getT b=none:=fun b=>rfl
  have z3:∀ b,(rF pi W).beta b=none:=fun b=>rfl
  refine ⟨fun b o ho=>?_,fun t n e ht=>?_,fun t t' n n' v v' b hne ht=>?_,hpi,fun b o ho=>?_,fun b cs hb=>?_,⟨0,fun t _=>⟨rfl,fun m=>rfl,rfl⟩⟩,fun b k hb=>?_,fun b b' k hb=>?_,fun _ b _=>⟨rfl,fun m=>rfl⟩,fun x hx=>(by cases hx),fun b k hb=>(by rw[z3] at hb;cases hb),rfl⟩
  ·rw[z1] at ho;cases ho
  ·rw[z2] at ht;cases ht
  ·rw[z2] at ht;cases ht
  rotate_left 2
  ·rw[z3] at hb;cases hb
  ·rw[z3] at hb;cases hb
  ·simp only[F1,jJ] at ho;obtain ⟨x,hx,rfl⟩:=ho;exact ⟨hx,rfl⟩
  ·obtain ⟨pre,ty,fr,hp,hpi,hl,h1,hr⟩:=hg b cs hb;exact ⟨pre,ty,fr,by simp only[F1,hp,hpi,kG],hl,h1,hr⟩
 have hcf:(callFunc f vals.toArray).run prog W=.ok (.enter f vals.toArray) W:=by
  simp only[callFunc,aV,run_program,aW,hf,hname,bR,↓reduceIte,hb,Option.isNone_some,bC]
 have hout:=h F1 (rF pi W) W vals hR1 hv;change OutV cx F1 (rF pi W) _ _ ((callFunc f vals.toArray).run prog W) at hout;rw[hcf] at hout;refine Calls.mono hout fun e W' hp=>?_
 cases e with
 | returned v =>
  obtain ⟨g',a,s,hle,hR,hr,rfl⟩:=hp;have henv:=hR.env.trans hle.env;have henv:(W'.os,W'.output)=(W.os,W.output):=henv;simp only[lR] at henv;refine ⟨by rw[hr.bool_inv],henv.1,henv.2,fun k hk=>?_⟩;have hx:W.heap[k]?=some W.heap[k]:=vO hk;have:=(hR.frm k (W.heap[k],pi k) (by simp only[F1,hx,kG])).1;rw[this,hx]
 | panicked jF=>obtain ⟨g2,a2,v,s2,_,_,_,_,h⟩:=hp;exact h.elim
 | outgrown=>exact hp.elim
theorem yB {W:World} {name:String} {b:Nat} {k:IntKind} {zs:List Int} (hn:prog.globalNamed name=some b) (h:Lib.TabIs prog W name k zs) :
  ∃ ty fr,W.heap[b]?=some (.cells (zs.map fun z=>Value.int k z).toArray ty fr):=by
 unfold Lib.TabIs World.var? at h;rw[hn] at h;simp only[Option.bind_some] at h;split at h
 ·rename_i cs ty fr hh;cases h;exact ⟨ty,fr,hh⟩
 ·cases h
theorem aDL {W:World} {name:String} {b:Nat} {k:IntKind} {zs:List Int} {t e n:Nat} (hn:prog.globalNamed name=some b) (hty:(prog.globals[b]?).map (·.type)=some t)
  (ht:prog.underlying t=some (.array n e)) (he:prog.underlying e=some (.int k)) (hce:prog.cellsOf e=1) (hct:prog.cellsOf t=n)
  (h:Lib.VarReads prog W name (Lib.tabData k zs)):Lib.TabIs prog W name k zs:=by
 obtain ⟨g,t',cs,fuel,p,hg,ht',hvar,hd⟩:=h;obtain rfl:=rL (hn.symm.trans hg);obtain rfl:=rL (hty.symm.trans ht');unfold Lib.TabIs;rw[hvar,← Lib.cells_of_tab ht he hce hct hd]
theorem aBV : prog.globalNamed "strings.asciiSpace" = some 0 := by kernel_rfl
theorem aBB : prog.globalNamed "internal/strconv.uint64pow10" = some 3 := by kernel_rfl
theorem aCt:aAy=Lib.asciiSpaceTab.map (fun z=>A.int .u8 z):=by kernel_rfl
theorem aB8:qZ=Lib.pow10Tab.map (fun z=>A.int .u64 z):=by kernel_rfl
theorem aLV:(YtamikhobdffnfaaGreatDoor.Rows.laid_strings_asciiSpace:DataW Unit)=Lib.tabData .u8 Lib.asciiSpaceTab:=by kernel_rfl
theorem aMi:(YtamikhobdffnfaaGreatDoor.Rows.laid_internal_strconv_uint64pow10:DataW Unit)=Lib.tabData .u64 Lib.pow10Tab:=by kernel_rfl
theorem aFY {W : World} {l : List (String × DataW Unit)} (hL : laidMet prog l W) (hm : ("strings.asciiSpace",YtamikhobdffnfaaGreatDoor.Rows.laid_strings_asciiSpace) ∈ l) : Lib.TabIs prog W "strings.asciiSpace" .u8 Lib.asciiSpaceTab := by
 rw[aLV] at hm;exact aDL (t:=255) (e:=5) (n:=256) aBV (by kernel_rfl) (by kernel_rfl) (by kernel_rfl) (by kernel_rfl) (by kernel_rfl) (Lib.laidMet.reads hL hm)
theorem aF3 {W : World} {l : List (String × DataW Unit)} (hL : laidMet prog l W) (hm : ("internal/strconv.uint64pow10",YtamikhobdffnfaaGreatDoor.Rows.laid_internal_strconv_uint64pow10) ∈ l) : Lib.TabIs prog W "internal/strconv.uint64pow10" .u64 Lib.pow10Tab := by
 rw[aMi] at hm;exact aDL (t:=303) (e:=284) (n:=20) aBB (by kernel_rfl) (by kernel_rfl) (by kernel_rfl) (by kernel_rfl) (by kernel_rfl) (Lib.laidMet.reads hL hm)
def vM (p:Nat→Option (List Value)):Nat→Option (List Value)
 | 0=>some (Lib.asciiSpaceTab.map fun z=>.int .u8 z)
 | 3=>some (Lib.pow10Tab.map fun z=>.int .u64 z)
 | b=>p b
theorem aGy {k:IntKind} {zs:List Int} {g:Gh}:∀ (j:Nat) (c:A) (v:Value),(zs.map fun z=>A.int k z)[j]?=some c→(zs.map fun z=>Value.int k z)[j]?=some v→Rz g c v:=by
 intro j c v hc hv;simp only[nM,jJ] at hc hv;obtain ⟨z,hz,rfl⟩:=hc;obtain ⟨z',hz',rfl⟩:=hv;rw[hz] at hz';cases hz';exact .int k z
theorem aFV {k:IntKind} {zs:List Int}:∀ c,c∈(zs.map fun z=>A.int k z)→c.one=true:=by
 intro c hc;obtain ⟨z,_,rfl⟩:=cO.1 hc;rfl
theorem aJa {f:FuncId} {fn:Func} {c:Code} {args:List A} {vals:List Value} {W:World} {p:Nat→Option (List Value)} {l:List (String × DataW Unit)}
  (hf : prog.funcs[f]? = some fn) (hb : fn.body = some c) (hname : (fn.name == "runtime.NumGoroutine") = false) (hL : laidMet prog l W)
  (h1 : ("strings.asciiSpace",YtamikhobdffnfaaGreatDoor.Rows.laid_strings_asciiSpace) ∈ l) (h2 : ("internal/strconv.uint64pow10",YtamikhobdffnfaaGreatDoor.Rows.laid_internal_strconv_uint64pow10) ∈ l)
  (hp:∀ b pre,p b=some pre→∃ rest e fr,W.heap[b]?=some (.cells (pre++rest).toArray e fr))
  (hv:Rzs (rF (vM p) W) args vals)
  (h:Den cx f args (fun _ a=>a=.bool true) (fun _ _=>False) St.zero) :
  Calls prog f vals.toArray W fun e W'=>e=.returned (.bool true)∧W'.os=W.os∧W'.output=W.output∧∀ k,k<W.heap.size→W'.heap[k]?=W.heap[k]?:=by
 obtain ⟨t0,f0,e0⟩:=yB aBV (aFY hL h1);obtain ⟨t3,f3,e3⟩:=yB aBB (aF3 hL h2);refine aKt hf hb hname (pi:=vM p) (fun b pre hb=>?_) (fun b cs hb=>?_) hv h
 ·unfold vM at hb;split at hb
  ·cases hb;exact ⟨[],t0,f0,by rw[e0,iE]⟩
  ·cases hb;exact ⟨[],t3,f3,by rw[e3,iE]⟩
  ·exact hp _ _ hb
 ·unfold vG at hb;split at hb
  ·cases hb;refine ⟨_,t0,f0,e0,rfl,by rw[aCt,aS,aS],by rw[aCt];exact aFV,by rw[aCt];exact aGy⟩
  ·cases hb;refine ⟨_,t3,f3,e3,rfl,by rw[aB8,aS,aS],by rw[aB8];exact aFV,by rw[aB8];exact aGy⟩
  ·cases hb
def aHm (l:List UInt8):Value:=.string ⟨l.toArray⟩
def aPR:List Int:=[0,1,28,2,29,14,24,3,30,22,20,15,25,17,4,8,31,27,13,23,21,19,16,7,26,12,18,6,11,5,10,9]
def aPg:List Int:=[0,1,56,2,57,49,28,3,61,58,42,50,38,29,17,4,62,47,59,36,45,43,51,22,53,39,33,30,24,18,12,5,63,55,48,27,60,41,37,16,46,35,44,21,52,32,23,11,54,26,40,15,34,20,31,10,25,14,19,9,13,8,7,6]
def aMO:List Int:=[9,13,1,32,133,101,160,5760,5600,8192,8202,1,8232,8233,1,8239,8287,48,12288,12288,1]
theorem aMo {w w':World} {may:MemPlace→Prop} (hos:w'.os=w.os) (hout:w'.output=w.output) (hb:∀ i,i<w.heap.size→w'.heap[i]?=w.heap[i]?):w.keptBut w' may:=by
 have h:=World.keptBut_refl w may;exact ⟨hos,hout,fun i hi=>by rw[hb i hi];exact h.2.2 i hi⟩
noncomputable def qI (os:Os):World :=
 let N:=(World.settled prog os).heap.size
 let w0:=World.holding prog os ⟨#[.cells (aMO.map fun z=>Value.int .u16 z).toArray 295,.cells #[.slice (some ⟨N,0,none⟩) 7 7,.slice none 0 0,.int .i64 2] 292,
  .cells #[aHm [105,110,118,97,108,105,100,32,115,121,110,116,97,120]] 340,.cells #[aHm [118,97,108,117,101,32,111,117,116,32,111,102,32,114,97,110,103,101]] 340],#[],[]⟩
 let put (h:Array Obj) (g:Nat) (cs:List Value):Array Obj:=h.modify g fun
  | .cells _ t frozen=>.cells cs.toArray t frozen
  | o=>o
 let h0:=put w0.heap 0 (Lib.asciiSpaceTab.map fun z=>Value.int .u8 z)
 let h2:=put h0 2 [.pointer (some ⟨N+1,0,none⟩)]
 let h3:=put h2 3 (Lib.pow10Tab.map fun z=>Value.int .u64 z)
 let h4:=put h3 4 (aPR.map fun z=>Value.int .u8 z)
 let h5:=put h4 5 (aPg.map fun z=>Value.int .u8 z)
 let h6:=put h5 6 [.iface 338 (.pointer (some ⟨N+2,0,none⟩))]
 let h7:=put h6 7 [.iface 338 (.pointer (some ⟨N+3,0,none⟩))]
 let h8:=put h7 8 (Lib.firstTab.map fun z=>Value.int .u8 z)
 let h9:=put h8 9 ((List.range 16).flatMap fun i=>[Value.int .u8 (Lib.accLo i),Value.int .u8 (Lib.accHi i)])
 { w0 with heap:=h9 }
def aAw:Nat→List Nat→Bool
 | _,[]=>true
 | p,x::r=>match Nat.blt p x with
  | true=>aAw x r
  | false=>false
theorem aGx:∀ {l:List Nat} {p:Nat},aAw p l=true→(∀ x,x∈l→p<x)∧l.Pairwise (·<·)
 | [],p,_=>⟨fun x h=>(by cases h),.nil⟩
 | y::r,p,h=>by
  simp only[aAw] at h;split at h
  ·rename_i e;have e':p<y:=iB e;obtain ⟨h1,h2⟩:=aGx h;refine ⟨fun x hx=>?_,.cons h1 h2⟩;rcases List.mem_cons.1 hx with rfl|hx
   ·exact e'
   ·exact Nat.lt_trans e' (h1 x hx)
  ·cases h
def aOw:Nat→Nat
 | 4=>0|5=>1|3=>2|9=>3|7=>4|19=>5|6=>6|18=>7|2=>8|17=>9|16=>10|0=>11|_=>12
def aHi:MemPlace→Nat
 | .cell b o=>1000 * aOw b+o+1
 | .map _=>0
theorem aKB (os:Os) (args:Array Value):((DataW.laidRun prog ((qI os).forCall (fun _ _=>0) ⟨#[],args,[]⟩).memory 8 (YtamikhobdffnfaaGreatDoor.Rows.defLimitsRow.laid.map (·.1))).map (·.1))=some YtamikhobdffnfaaGreatDoor.Rows.defLimitsRow.laid:=by kernel_rfl
theorem aJP (os:Os) (args:Array Value):((DataW.laidRun prog ((qI os).forCall (fun _ _=>0) ⟨#[],args,[]⟩).memory 8 (YtamikhobdffnfaaGreatDoor.Rows.defLimitsRow.laid.map (·.1))).map
  (fun x=>laidRowsB prog ((qI os).forCall (fun _ _=>0) ⟨#[],args,[]⟩).memory x.2))=some true:=by kernel_rfl
theorem aJ0 (os:Os) (args:Array Value):((DataW.laidRun prog ((qI os).forCall (fun _ _=>0) ⟨#[],args,[]⟩).memory 8 (YtamikhobdffnfaaGreatDoor.Rows.defLimitsRow.laid.map (·.1))).map (fun x=>aAw 0 (x.2.map aHi)))=some true:=by kernel_rfl
theorem aLk (os:Os) (args:Array Value):laidMet prog YtamikhobdffnfaaGreatDoor.Rows.defLimitsRow.laid ((qI os).forCall (fun _ _=>0) ⟨#[],args,[]⟩).memory:=by
 refine laidMet_of_run' 8 (aKB os args) ?_;have h1:=aJP os args;have h2:=aJ0 os args;generalize DataW.laidRun prog ((qI os).forCall (fun _ _=>0) ⟨#[],args,[]⟩).memory 8 (YtamikhobdffnfaaGreatDoor.Rows.defLimitsRow.laid.map (·.1))=r at h1 h2 ⊢;cases r with
 | none=>cases h1
 | some x =>
  simp only[kG,aP] at h1 h2 ⊢;have h3:x.2.Nodup:=List.Pairwise.of_map aHi (fun a b h e=>by rw[e] at h;exact absurd h (Nat.lt_irrefl _)) (aGx h2).2;rw[h1,eR h3];rfl
end Go.AV
