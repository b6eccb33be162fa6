/-
  Of CheckTells.
-/
import Derived.Test.YthaljojbclndaaaGreatDoorCt03
import Derived.Test.YthaljojbclndaaaGreatDoorTie
import Derived.Test.YthaljojbclndaaaGreatDoorCards
import Derived.ProofKit
import Derived.OpenShut
import Derived.Deep.DeepHandedRow
import Derived.Deep.DeepWitnessRowRef
import Derived.Lib.LaidTab
import Derived.Lib.LaidU8
import Derived.Lib.ItoaNum
import Derived.Lib.Space
set_option linter.all false
set_option maxRecDepth 99999
set_option maxHeartbeats 0
namespace Go.AV
open Go Go.Proofs Tryz
def yC(pi:Nat->Option (List Value))(W:World):Gh:=⟨pi,λ_ _=>none,λ_=>none,(W.os,W.output)⟩
theorem aTc{f:FuncId}{fn:Func}{c:Code}{args:List A}{vals:List Value}{W:World}{pi:Nat->Option (List Value)}
  (hf : prog.funcs[f]? = some fn) (y : fn.body = some c) (B : (fn.name == "runtime.NumGoroutine") = false)
  (G:∀b pre,pi b=some pre->∃rest e fr,W.heap[b]?=some (.cells (pre++rest).toArray e fr))
  (hg : ∀ b cs,glS b = some cs → ∃ pre ty fr,W.heap[b]? = some (.cells pre.toArray ty fr) ∧ pi b = some pre ∧ pre.length = cs.length ∧ (∀ c,c ∈ cs → c.one = true) ∧
   ∀(j:Nat) (c:A) (v:Value),cs[j]?=some c->pre[j]?=some v->Rz (yC pi W) c v)
  (hv:Rzs (yC pi W) args vals)
  (h:Den cx f args (λ_ a=>a=.bool true) (λ_ _=>False) St.zero) :
  Calls prog f vals.toArray W λe M=>e=.returned (.bool true)/\M.os=W.os/\M.output=W.output/\∀k,k<W.heap.size->M.heap[k]?=W.heap[k]?:=by
 let H:Fr:=λb=>(W.heap[b]?).map λo=>(o,pi b)
 have Y:R cx.toCtx H (yC pi W) St.zero W:=by
  have z1:∀b,St.zero.getO b=none:=λb=>rfl
  have z2:∀b,St.zero.getT b=none:=λb=>rfl
  have z3:∀b,(yC pi W).beta b=none:=λb=>rfl
  refine⟨λb o S=>?_,λt n e U=>?_,λt t' n n' v v' b b1 U=>?_,G,λb o S=>?_,λb cs y=>?_,⟨0,λt _=>⟨rfl,λm=>rfl,rfl⟩⟩,λb k y=>?_,λb b' k y=>?_,λ_ b _=>⟨rfl,λm=>rfl⟩,λx O=>(by cases O),λb k y=>(by rw[z3]at y;cases y),rfl⟩
  .rw[z1]at S;cases S
  .rw[z2]at U;cases U
  .rw[z2]at U;cases U
  rotate_left 2
  .rw[z3]at y;cases y
  .rw[z3]at y;cases y
  .simp only[H,kN]at S;obtain⟨x,O,rfl⟩:=S;exact⟨O,rfl⟩
  .obtain⟨pre,ty,fr,T,G,hl,h1,hr⟩:=hg b cs y;exact⟨pre,ty,fr,by simp only[H,T,G,gS],hl,h1,hr⟩
 have Z:(callFunc f vals.toArray).run prog W=.ok (.enter f vals.toArray) W:=by
  simp only[callFunc,bG,run_program,bJ,hf,B,cV,↓reduceIte,y,qG,bV]
 have z:=h H (yC pi W) W vals Y hv;change OutV cx H (yC pi W) _ _ ((callFunc f vals.toArray).run prog W)at z;rw[Z]at z;refine Calls.mono z λe M T=>?_
 cases e with
 | returned v =>
  obtain⟨g',a,s,b0,hR,hr,rfl⟩:=T;have u:=hR.env.trans b0.env;have u:(M.os,M.output)=(W.os,W.output):=u;simp only[uL]at u;refine⟨by rw[hr.bool_inv],u.1,u.2,λk hk=>?_⟩;have O:W.heap[k]?=some W.heap[k]:=aAk hk;have:=(hR.frm k (W.heap[k],pi k) (by simp only[H,O,gS])).1;rw[this,O]
 | panicked mE=>obtain⟨g2,a2,v,s2,_,_,_,_,h⟩:=T;exact h.elim
 | outgrown=>exact T.elim
theorem aDG{W:World}{name:String}{b:Nat}{k:IntKind}{u:List Int}(B:prog.globalNamed name=some b)(h:Lib.TabIs prog W name k u) :
  ∃ty fr,W.heap[b]?=some (.cells (u.map λz=>Value.int k z).toArray ty fr):=by
 unfold Lib.TabIs World.var? at h;rw[B]at h;simp only[rC]at h;split at h
 .rename_i cs ty fr y;cases h;exact⟨ty,fr,y⟩
 .cases h
theorem aJy{W:World}{name:String}{b:Nat}{k:IntKind}{H:List Int}{t e n:Nat}(T:prog.globalNamed name=some b)(G:(prog.globals[b]?).map (·.type)=some t)
  (U:prog.underlying t=some (.array n e))(O:prog.underlying e=some (.int k))(y:prog.cellsOf e=1)(z:prog.cellsOf t=n)
  (h:Lib.VarReads prog W name (Lib.tabData k H)):Lib.TabIs prog W name k H:=by
 obtain⟨g,Y,cs,fuel,p,S,B,u,M⟩:=h;obtain rfl:=sW (T.symm.trans S);obtain rfl:=sW (G.symm.trans B);unfold Lib.TabIs;rw[u,<-Lib.cells_of_tab U O y z M]
theorem aGM : prog.globalNamed "strings.asciiSpace" = some 0 := by kernel_rfl
theorem aGD : prog.globalNamed "internal/strconv.uint64pow10" = some 3 := by kernel_rfl
theorem aHt:xP=Lib.asciiSpaceTab.map (λz=>A.int .u8 z):=by kernel_rfl
theorem aHh:aFb=Lib.pow10Tab.map (λz=>A.int .u64 z):=by kernel_rfl
theorem aUJ:(YthaljojbclndaaaGreatDoor.Rows.laid_strings_asciiSpace:DataW Unit)=Lib.tabData .u8 Lib.asciiSpaceTab:=by kernel_rfl
theorem aVz:(YthaljojbclndaaaGreatDoor.Rows.laid_internal_strconv_uint64pow10:DataW Unit)=Lib.tabData .u64 Lib.pow10Tab:=by kernel_rfl
theorem aMl {W : World} {l : List (String × DataW Unit)} (hL : laidMet prog l W) (h : ("strings.asciiSpace",YthaljojbclndaaaGreatDoor.Rows.laid_strings_asciiSpace) ∈ l) : Lib.TabIs prog W "strings.asciiSpace" .u8 Lib.asciiSpaceTab := by
 rw[aUJ]at h;exact aJy (t:=247) (e:=5) (n:=256) aGM (by kernel_rfl) (by kernel_rfl) (by kernel_rfl) (by kernel_rfl) (by kernel_rfl) (Lib.laidMet.reads hL h)
theorem aMX {W : World} {l : List (String × DataW Unit)} (hL : laidMet prog l W) (h : ("internal/strconv.uint64pow10",YthaljojbclndaaaGreatDoor.Rows.laid_internal_strconv_uint64pow10) ∈ l) : Lib.TabIs prog W "internal/strconv.uint64pow10" .u64 Lib.pow10Tab := by
 rw[aVz]at h;exact aJy (t:=333) (e:=203) (n:=20) aGD (by kernel_rfl) (by kernel_rfl) (by kernel_rfl) (by kernel_rfl) (by kernel_rfl) (Lib.laidMet.reads hL h)
def pi0(p:Nat->Option (List Value)):Nat->Option (List Value)
 | 0=>some (Lib.asciiSpaceTab.map λz=>.int .u8 z)
 | 3=>some (Lib.pow10Tab.map λz=>.int .u64 z)
 | b=>p b
theorem aNo{k:IntKind}{B:List Int}{g:Gh}:∀(j:Nat) (c:A) (v:Value),(B.map λz=>A.int k z)[j]?=some c->(B.map λz=>Value.int k z)[j]?=some v->Rz g c v:=by
 intro j c v u y;simp only[jU,kN]at u y;obtain⟨z,hz,rfl⟩:=u;obtain⟨G,h,rfl⟩:=y;rw[hz]at h;cases h;exact .int k z
theorem aMF{k:IntKind}{u:List Int}:∀c,c∈(u.map λz=>A.int k z)->c.one=true:=by
 intro c h;obtain⟨z,_,rfl⟩:=cW.1 h;rfl
theorem aR4{f:FuncId}{fn:Func}{c:Code}{args:List A}{vals:List Value}{W:World}{p:Nat->Option (List Value)}{l:List (String × DataW Unit)}
  (T : prog.funcs[f]? = some fn) (u : fn.body = some c) (y : (fn.name == "runtime.NumGoroutine") = false) (hL : laidMet prog l W)
  (O : ("strings.asciiSpace",YthaljojbclndaaaGreatDoor.Rows.laid_strings_asciiSpace) ∈ l) (S : ("internal/strconv.uint64pow10",YthaljojbclndaaaGreatDoor.Rows.laid_internal_strconv_uint64pow10) ∈ l)
  (U:∀b pre,p b=some pre->∃rest e fr,W.heap[b]?=some (.cells (pre++rest).toArray e fr))
  (Y:Rzs (yC (pi0 p) W) args vals)
  (h:Den cx f args (λ_ a=>a=.bool true) (λ_ _=>False) St.zero) :
  Calls prog f vals.toArray W λe z=>e=.returned (.bool true)/\z.os=W.os/\z.output=W.output/\∀k,k<W.heap.size->z.heap[k]?=W.heap[k]?:=by
 obtain⟨t0,H,B⟩:=aDG aGM (aMl hL O);obtain⟨t3,M,G⟩:=aDG aGD (aMX hL S);refine aTc T u y (pi:=pi0 p) (λb pre u=>?_) (λb cs u=>?_) Y h
 .unfold pi0 at u;split at u
  .cases u;exact⟨[],t0,H,by rw[B,cK]⟩
  .cases u;exact⟨[],t3,M,by rw[G,cK]⟩
  .exact U _ _ u
 .unfold glS at u;split at u
  .cases u;refine⟨_,t0,H,B,rfl,by rw[aHt,aW,aW],by rw[aHt];exact aMF,by rw[aHt];exact aNo⟩
  .cases u;refine⟨_,t3,M,G,rfl,by rw[aHh,aW,aW],by rw[aHh];exact aMF,by rw[aHh];exact aNo⟩
  .cases u
def aOk(l:List UInt8):Value:=.string ⟨l.toArray⟩
def aXB:List Int:=[0,1,28,2,29,14,24,3,30,22,20,15,25,17,4,8,31,27,13,23,21,19,16,7,26,12,18,6,11,5,10,9]
def aXC:List Int:=[0,1,56,2,57,49,28,3,61,58,42,50,38,29,17,4,62,47,59,36,45,43,51,22,53,39,33,30,24,18,12,5,63,55,48,27,60,41,37,16,46,35,44,21,52,32,23,11,54,26,40,15,34,20,31,10,25,14,19,9,13,8,7,6]
def aWD:List Int:=[9,13,1,32,133,101,160,5760,5600,8192,8202,1,8232,8233,1,8239,8287,48,12288,12288,1]
theorem aVd{w w':World}{y:MemPlace->Prop}(z:w'.os=w.os)(u:w'.output=w.output)(G:∀i,i<w.heap.size->w'.heap[i]?=w.heap[i]?):w.keptBut w' y:=by
 have h:=World.keptBut_refl w y;exact⟨z,u,λi B=>by rw[G i B];exact h.2.2 i B⟩
noncomputable def wI(y:Os):World :=
 let N:=(World.settled prog y).heap.size
 let B:=World.holding prog y ⟨#[.cells (aWD.map λz=>Value.int .u16 z).toArray 292,.cells #[.slice (some ⟨N,0,none⟩) 7 7,.slice none 0 0,.int .i64 2] 289,
  .cells #[aOk [105,110,118,97,108,105,100,32,115,121,110,116,97,120]] 348,.cells #[aOk [118,97,108,117,101,32,111,117,116,32,111,102,32,114,97,110,103,101]] 348],#[],[]⟩
 let put (h:Array Obj) (g:Nat) (cs:List Value):Array Obj:=h.modify g fun
  | .cells _ t u=>.cells cs.toArray t u
  | o=>o
 let G:=put B.heap 0 (Lib.asciiSpaceTab.map λz=>Value.int .u8 z)
 let H:=put G 1 [.pointer (some ⟨N+1,0,none⟩)]
 let M:=put H 3 (Lib.pow10Tab.map λz=>Value.int .u64 z)
 let O:=put M 8 (aXB.map λz=>Value.int .u8 z)
 let S:=put O 9 (aXC.map λz=>Value.int .u8 z)
 let T:=put S 4 [.iface 346 (.pointer (some ⟨N+2,0,none⟩))]
 let U:=put T 5 [.iface 346 (.pointer (some ⟨N+3,0,none⟩))]
 let Y:=put U 6 (Lib.firstTab.map λz=>Value.int .u8 z)
 let Z:=put Y 7 ((List.range 16).flatMap λi=>[Value.int .u8 (Lib.accLo i),Value.int .u8 (Lib.accHi i)])
 { B with heap:=Z }
def aE1:Nat->List Nat->Bool
 | _,[]=>true
 | p,x::r=>match Nat.blt p x with
  | true=>aE1 x r
  | false=>false
theorem aME:∀{l:List Nat} {p:Nat},aE1 p l=true->(∀x,x∈l->p<x)/\l.Pairwise (·<·)
 | [],p,_=>⟨λx h=>(by cases h),.nil⟩
 | y::r,p,h=>by
  simp only[aE1]at h;split at h
  .rename_i e;have e':p<y:=eQ e;obtain⟨z,B⟩:=aME h;refine⟨λx u=>?_,.cons z B⟩;rcases List.mem_cons.1 u with rfl|u
   .exact e'
   .exact Nat.lt_trans e' (z x u)
  .cases h
def aXo:Nat->Nat
 | 8=>0|9=>1|3=>2|7=>3|5=>4|19=>5|4=>6|18=>7|1=>8|17=>9|16=>10|0=>11|_=>12
def aOe:MemPlace->Nat
 | .cell b o=>1000 * aXo b+o+1
 | .map _=>0
theorem aTY(h:Os)(args:Array Value):((DataW.laidRun prog ((wI h).forCall (λ_ _=>0) ⟨#[],args,[]⟩).memory 8 (YthaljojbclndaaaGreatDoor.Rows.checkChecksUptoRow.laid.map (·.1))).map (·.1))=some YthaljojbclndaaaGreatDoor.Rows.checkChecksUptoRow.laid:=by kernel_rfl
theorem aSI(h:Os)(args:Array Value):((DataW.laidRun prog ((wI h).forCall (λ_ _=>0) ⟨#[],args,[]⟩).memory 8 (YthaljojbclndaaaGreatDoor.Rows.checkChecksUptoRow.laid.map (·.1))).map
  (λx=>laidRowsB prog ((wI h).forCall (λ_ _=>0) ⟨#[],args,[]⟩).memory x.2))=some true:=by kernel_rfl
theorem aSH(h:Os)(args:Array Value):((DataW.laidRun prog ((wI h).forCall (λ_ _=>0) ⟨#[],args,[]⟩).memory 8 (YthaljojbclndaaaGreatDoor.Rows.checkChecksUptoRow.laid.map (·.1))).map (λx=>aE1 0 (x.2.map aOe)))=some true:=by kernel_rfl
theorem aTX(u:Os)(args:Array Value):laidMet prog YthaljojbclndaaaGreatDoor.Rows.checkChecksUptoRow.laid ((wI u).forCall (λ_ _=>0) ⟨#[],args,[]⟩).memory:=by
 refine laidMet_of_run' 8 (aTY u args) ?_;have y:=aSI u args;have z:=aSH u args;generalize DataW.laidRun prog ((wI u).forCall (λ_ _=>0) ⟨#[],args,[]⟩).memory 8 (YthaljojbclndaaaGreatDoor.Rows.checkChecksUptoRow.laid.map (·.1))=r at y z⊢;cases r with
 | none=>cases y
 | some x =>
  simp only[gS,bM]at y z⊢;have B:x.2.Nodup:=List.Pairwise.of_map aOe (λa b h e=>by rw[e]at h;exact cG h (Nat.lt_irrefl _)) (aME z).2;rw[y,cF B];rfl
end Go.AV
