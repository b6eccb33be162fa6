/-
  Of CheckChecks.
-/
import Derived.Test.YthaljojbclndaaaGreatDoorCc03
import Derived.Test.YthaljojbclndaaaGreatDoorTie
import Derived.Test.YthaljojbclndaaaGreatDoorCards
import Derived.ProofKit
import Derived.OpenShut
import Derived.Deep.DeepHandedRow
import Derived.Deep.DeepWitnessRowRef
import Derived.Lib.LaidTab
import Derived.Lib.LaidU8
import Derived.Lib.ItoaNum
import Derived.Lib.Space
set_option linter.all false
set_option maxRecDepth 99999
set_option maxHeartbeats 0
namespace Go.AV
open Go Go.Proofs Tryz
def yG(pi:Nat->Option (List Value))(W:World):Gh:=⟨pi,λ_ _=>none,λ_=>none,(W.os,W.output)⟩
theorem aR4{f:FuncId}{fn:Func}{c:Code}{args:List A}{vals:List Value}{W:World}{pi:Nat->Option (List Value)}
  (hf : prog.funcs[f]? = some fn) (y : fn.body = some c) (B : (fn.name == "runtime.NumGoroutine") = false)
  (G:∀b pre,pi b=some pre->∃rest e fr,W.heap[b]?=some (.cells (pre++rest).toArray e fr))
  (hg : ∀ b cs,glS b = some cs → ∃ pre ty fr,W.heap[b]? = some (.cells pre.toArray ty fr) ∧ pi b = some pre ∧ pre.length = cs.length ∧ (∀ c,c ∈ cs → c.one = true) ∧
   ∀(j:Nat) (c:A) (v:Value),cs[j]?=some c->pre[j]?=some v->Rz (yG pi W) c v)
  (hv:Rzs (yG pi W) args vals)
  (h:Den cx f args (λ_ a=>a=.bool true) (λ_ _=>False) St.zero) :
  Calls prog f vals.toArray W λe M=>e=.returned (.bool true)/\M.os=W.os/\M.output=W.output/\∀k,k<W.heap.size->M.heap[k]?=W.heap[k]?:=by
 let H:Fr:=λb=>(W.heap[b]?).map λo=>(o,pi b)
 have Z:R cx.toCtx H (yG pi W) St.zero W:=by
  have z1:∀b,St.zero.getO b=none:=λb=>rfl
  have z2:∀b,St.zero.getT b=none:=λb=>rfl
  have z3:∀b,(yG pi W).beta b=none:=λb=>rfl
  refine⟨λb o ho=>?_,λt n e U=>?_,λt t' n n' v v' b b2 U=>?_,G,λb o ho=>?_,λb cs y=>?_,⟨0,λt _=>⟨rfl,λm=>rfl,rfl⟩⟩,λb k y=>?_,λb b' k y=>?_,λ_ b _=>⟨rfl,λm=>rfl⟩,λx O=>(by cases O),λb k y=>(by rw[z3]at y;cases y),rfl⟩
  .rw[z1]at ho;cases ho
  .rw[z2]at U;cases U
  .rw[z2]at U;cases U
  rotate_left 2
  .rw[z3]at y;cases y
  .rw[z3]at y;cases y
  .simp only[H,tG]at ho;obtain⟨x,O,rfl⟩:=ho;exact⟨O,rfl⟩
  .obtain⟨pre,ty,fr,S,G,hl,h1,hr⟩:=hg b cs y;exact⟨pre,ty,fr,by simp only[H,S,G,lL],hl,h1,hr⟩
 have b0:(callFunc f vals.toArray).run prog W=.ok (.enter f vals.toArray) W:=by
  simp only[callFunc,bN,run_program,bM,hf,B,dA,↓reduceIte,y,qI,cG]
 have z:=h H (yG pi W) W vals Z hv;change OutV cx H (yG pi W) _ _ ((callFunc f vals.toArray).run prog W)at z;rw[b0]at z;refine Calls.mono z λe M S=>?_
 cases e with
 | returned v =>
  obtain⟨g',a,s,b1,hR,hr,rfl⟩:=S;have u:=hR.env.trans b1.env;have u:(M.os,M.output)=(W.os,W.output):=u;simp only[pE]at u;refine⟨by rw[hr.bool_inv],u.1,u.2,λk hk=>?_⟩;have O:W.heap[k]?=some W.heap[k]:=aBw hk;have:=(hR.frm k (W.heap[k],pi k) (by simp only[H,O,lL])).1;rw[this,O]
 | panicked mK=>obtain⟨g2,a2,v,s2,_,_,_,_,h⟩:=S;exact h.elim
 | outgrown=>exact S.elim
theorem aDh{W:World}{name:String}{b:Nat}{k:IntKind}{m:List Int}(y:prog.globalNamed name=some b)(h:Lib.TabIs prog W name k m) :
  ∃ty fr,W.heap[b]?=some (.cells (m.map λz=>Value.int k z).toArray ty fr):=by
 unfold Lib.TabIs World.var? at h;rw[y]at h;simp only[sG]at h;split at h
 .rename_i cs ty fr u;cases h;exact⟨ty,fr,u⟩
 .cases h
theorem aIP{W:World}{name:String}{b:Nat}{k:IntKind}{H:List Int}{t e n:Nat}(U:prog.globalNamed name=some b)(B:(prog.globals[b]?).map (·.type)=some t)
  (Z:prog.underlying t=some (.array n e))(O:prog.underlying e=some (.int k))(u:prog.cellsOf e=1)(y:prog.cellsOf t=n)
  (h:Lib.VarReads prog W name (Lib.tabData k H)):Lib.TabIs prog W name k H:=by
 obtain⟨g,t',cs,G,p,S,z,m,M⟩:=h;obtain rfl:=tH (U.symm.trans S);obtain rfl:=tH (B.symm.trans z);unfold Lib.TabIs;rw[m,<-Lib.cells_of_tab Z O u y M]
theorem aGj : prog.globalNamed "strings.asciiSpace" = some 0 := by kernel_rfl
theorem aFZ : prog.globalNamed "internal/strconv.uint64pow10" = some 3 := by kernel_rfl
theorem aG6:aBk=Lib.asciiSpaceTab.map (λz=>A.int .u8 z):=by kernel_rfl
theorem aGn:aA2=Lib.pow10Tab.map (λz=>A.int .u64 z):=by kernel_rfl
theorem aTV:(YthaljojbclndaaaGreatDoor.Rows.laid_strings_asciiSpace:DataW Unit)=Lib.tabData .u8 Lib.asciiSpaceTab:=by kernel_rfl
theorem aTF:(YthaljojbclndaaaGreatDoor.Rows.laid_internal_strconv_uint64pow10:DataW Unit)=Lib.tabData .u64 Lib.pow10Tab:=by kernel_rfl
theorem aMe {W : World} {l : List (String × DataW Unit)} (m : laidMet prog l W) (h : ("strings.asciiSpace",YthaljojbclndaaaGreatDoor.Rows.laid_strings_asciiSpace) ∈ l) : Lib.TabIs prog W "strings.asciiSpace" .u8 Lib.asciiSpaceTab := by
 rw[aTV]at h;exact aIP (t:=247) (e:=5) (n:=256) aGj (by kernel_rfl) (by kernel_rfl) (by kernel_rfl) (by kernel_rfl) (by kernel_rfl) (Lib.laidMet.reads m h)
theorem aL2 {W : World} {l : List (String × DataW Unit)} (m : laidMet prog l W) (h : ("internal/strconv.uint64pow10",YthaljojbclndaaaGreatDoor.Rows.laid_internal_strconv_uint64pow10) ∈ l) : Lib.TabIs prog W "internal/strconv.uint64pow10" .u64 Lib.pow10Tab := by
 rw[aTF]at h;exact aIP (t:=333) (e:=203) (n:=20) aFZ (by kernel_rfl) (by kernel_rfl) (by kernel_rfl) (by kernel_rfl) (by kernel_rfl) (Lib.laidMet.reads m h)
def pi0(p:Nat->Option (List Value)):Nat->Option (List Value)
 | 0=>some (Lib.asciiSpaceTab.map λz=>.int .u8 z)
 | 3=>some (Lib.pow10Tab.map λz=>.int .u64 z)
 | b=>p b
theorem aMA{k:IntKind}{y:List Int}{g:Gh}:∀(j:Nat) (c:A) (v:Value),(y.map λz=>A.int k z)[j]?=some c->(y.map λz=>Value.int k z)[j]?=some v->Rz g c v:=by
 intro j c v m u;simp only[nH,tG]at m u;obtain⟨z,hz,rfl⟩:=m;obtain⟨B,h,rfl⟩:=u;rw[hz]at h;cases h;exact .int k z
theorem aLK{k:IntKind}{m:List Int}:∀c,c∈(m.map λz=>A.int k z)->c.one=true:=by
 intro c h;obtain⟨z,_,rfl⟩:=cN.1 h;rfl
theorem aQJ{f:FuncId}{fn:Func}{c:Code}{args:List A}{vals:List Value}{W:World}{p:Nat->Option (List Value)}{l:List (String × DataW Unit)}
  (U : prog.funcs[f]? = some fn) (m : fn.body = some c) (u : (fn.name == "runtime.NumGoroutine") = false) (M : laidMet prog l W)
  (O : ("strings.asciiSpace",YthaljojbclndaaaGreatDoor.Rows.laid_strings_asciiSpace) ∈ l) (S : ("internal/strconv.uint64pow10",YthaljojbclndaaaGreatDoor.Rows.laid_internal_strconv_uint64pow10) ∈ l)
  (Z:∀b pre,p b=some pre->∃rest e fr,W.heap[b]?=some (.cells (pre++rest).toArray e fr))
  (hv:Rzs (yG (pi0 p) W) args vals)
  (h:Den cx f args (λ_ a=>a=.bool true) (λ_ _=>False) St.zero) :
  Calls prog f vals.toArray W λe y=>e=.returned (.bool true)/\y.os=W.os/\y.output=W.output/\∀k,k<W.heap.size->y.heap[k]?=W.heap[k]?:=by
 obtain⟨t0,G,z⟩:=aDh aGj (aMe M O);obtain⟨t3,H,B⟩:=aDh aFZ (aL2 M S);refine aR4 U m u (pi:=pi0 p) (λb pre m=>?_) (λb cs m=>?_) hv h
 .unfold pi0 at m;split at m
  .cases m;exact⟨[],t0,G,by rw[z,dK]⟩
  .cases m;exact⟨[],t3,H,by rw[B,dK]⟩
  .exact Z _ _ m
 .unfold glS at m;split at m
  .cases m;refine⟨_,t0,G,z,rfl,by rw[aG6,aO,aO],by rw[aG6];exact aLK,by rw[aG6];exact aMA⟩
  .cases m;refine⟨_,t3,H,B,rfl,by rw[aGn,aO,aO],by rw[aGn];exact aLK,by rw[aGn];exact aMA⟩
  .cases m
def aM6(l:List UInt8):Value:=.string ⟨l.toArray⟩
def aVC:List Int:=[0,1,28,2,29,14,24,3,30,22,20,15,25,17,4,8,31,27,13,23,21,19,16,7,26,12,18,6,11,5,10,9]
def aVB:List Int:=[0,1,56,2,57,49,28,3,61,58,42,50,38,29,17,4,62,47,59,36,45,43,51,22,53,39,33,30,24,18,12,5,63,55,48,27,60,41,37,16,46,35,44,21,52,32,23,11,54,26,40,15,34,20,31,10,25,14,19,9,13,8,7,6]
def aUu:List Int:=[9,13,1,32,133,101,160,5760,5600,8192,8202,1,8232,8233,1,8239,8287,48,12288,12288,1]
theorem aTp{w w':World}{u:MemPlace->Prop}(y:w'.os=w.os)(m:w'.output=w.output)(B:∀i,i<w.heap.size->w'.heap[i]?=w.heap[i]?):w.keptBut w' u:=by
 have h:=World.keptBut_refl w u;exact⟨y,m,λi z=>by rw[B i z];exact h.2.2 i z⟩
noncomputable def wK(u:Os):World :=
 let N:=(World.settled prog u).heap.size
 let y:=World.holding prog u ⟨#[.cells (aUu.map λz=>Value.int .u16 z).toArray 292,.cells #[.slice (some ⟨N,0,none⟩) 7 7,.slice none 0 0,.int .i64 2] 289,
  .cells #[aM6 [105,110,118,97,108,105,100,32,115,121,110,116,97,120]] 348,.cells #[aM6 [118,97,108,117,101,32,111,117,116,32,111,102,32,114,97,110,103,101]] 348],#[],[]⟩
 let put (h:Array Obj) (g:Nat) (cs:List Value):Array Obj:=h.modify g fun
  | .cells _ t m=>.cells cs.toArray t m
  | o=>o
 let B:=put y.heap 0 (Lib.asciiSpaceTab.map λz=>Value.int .u8 z)
 let G:=put B 1 [.pointer (some ⟨N+1,0,none⟩)]
 let H:=put G 3 (Lib.pow10Tab.map λz=>Value.int .u64 z)
 let M:=put H 8 (aVC.map λz=>Value.int .u8 z)
 let O:=put M 9 (aVB.map λz=>Value.int .u8 z)
 let S:=put O 4 [.iface 346 (.pointer (some ⟨N+2,0,none⟩))]
 let U:=put S 5 [.iface 346 (.pointer (some ⟨N+3,0,none⟩))]
 let Z:=put U 6 (Lib.firstTab.map λz=>Value.int .u8 z)
 let h9:=put Z 7 ((List.range 16).flatMap λi=>[Value.int .u8 (Lib.accLo i),Value.int .u8 (Lib.accHi i)])
 { y with heap:=h9 }
def aEB:Nat->List Nat->Bool
 | _,[]=>true
 | p,x::r=>match Nat.blt p x with
  | true=>aEB x r
  | false=>false
theorem aLM:∀{l:List Nat} {p:Nat},aEB p l=true->(∀x,x∈l->p<x)/\l.Pairwise (·<·)
 | [],p,_=>⟨λx h=>(by cases h),.nil⟩
 | y::r,p,h=>by
  simp only[aEB]at h;split at h
  .rename_i e;have e':p<y:=jO e;obtain⟨u,z⟩:=aLM h;refine⟨λx m=>?_,.cons u z⟩;rcases List.mem_cons.1 m with rfl|m
   .exact e'
   .exact Nat.lt_trans e' (u x m)
  .cases h
def aU7:Nat->Nat
 | 8=>0|9=>1|3=>2|7=>3|5=>4|19=>5|4=>6|18=>7|1=>8|17=>9|16=>10|0=>11|_=>12
def aM3:MemPlace->Nat
 | .cell b o=>1000 * aU7 b+o+1
 | .map _=>0
theorem aS3(h:Os)(args:Array Value):((DataW.laidRun prog ((wK h).forCall (λ_ _=>0) ⟨#[],args,[]⟩).memory 8 (YthaljojbclndaaaGreatDoor.Rows.checkChecksUptoRow.laid.map (·.1))).map (·.1))=some YthaljojbclndaaaGreatDoor.Rows.checkChecksUptoRow.laid:=by kernel_rfl
theorem aRa(h:Os)(args:Array Value):((DataW.laidRun prog ((wK h).forCall (λ_ _=>0) ⟨#[],args,[]⟩).memory 8 (YthaljojbclndaaaGreatDoor.Rows.checkChecksUptoRow.laid.map (·.1))).map
  (λx=>laidRowsB prog ((wK h).forCall (λ_ _=>0) ⟨#[],args,[]⟩).memory x.2))=some true:=by kernel_rfl
theorem aRc(h:Os)(args:Array Value):((DataW.laidRun prog ((wK h).forCall (λ_ _=>0) ⟨#[],args,[]⟩).memory 8 (YthaljojbclndaaaGreatDoor.Rows.checkChecksUptoRow.laid.map (·.1))).map (λx=>aEB 0 (x.2.map aM3)))=some true:=by kernel_rfl
theorem aSf(m:Os)(args:Array Value):laidMet prog YthaljojbclndaaaGreatDoor.Rows.checkChecksUptoRow.laid ((wK m).forCall (λ_ _=>0) ⟨#[],args,[]⟩).memory:=by
 refine laidMet_of_run' 8 (aS3 m args) ?_;have u:=aRa m args;have y:=aRc m args;generalize DataW.laidRun prog ((wK m).forCall (λ_ _=>0) ⟨#[],args,[]⟩).memory 8 (YthaljojbclndaaaGreatDoor.Rows.checkChecksUptoRow.laid.map (·.1))=r at u y⊢;cases r with
 | none=>cases u
 | some x =>
  simp only[lL,bV]at u y⊢;have z:x.2.Nodup:=List.Pairwise.of_map aM3 (λa b h e=>by rw[e]at h;exact cV h (Nat.lt_irrefl _)) (aLM y).2;rw[u,cT z];rfl
end Go.AV
