/-
  Of DefBack.
-/
import Derived.Test.YtamikhobdffnfaaGreatDoorBa03
import Derived.Test.YtamikhobdffnfaaGreatDoorTie
import Derived.Test.YtamikhobdffnfaaGreatDoorCards
import Derived.ProofKit
import Derived.OpenShut
import Derived.Deep.DeepHandedRow
import Derived.Deep.DeepWitnessRowRef
import Derived.Lib.LaidTab
import Derived.Lib.LaidU8
import Derived.Lib.ItoaNum
import Derived.Lib.Space
set_option linter.all false
set_option maxRecDepth 99999
set_option maxHeartbeats 0
namespace Go.AV
open Go Go.Proofs Tryz
def yD(pi:Nat->Option (List Value))(W:World):Gh:=⟨pi,λ_ _=>none,λ_=>none,(W.os,W.output)⟩
theorem aRv{f:FuncId}{fn:Func}{c:Code}{args:List A}{vals:List Value}{W:World}{pi:Nat->Option (List Value)}
  (hf : prog.funcs[f]? = some fn) (y : fn.body = some c) (F : (fn.name == "runtime.NumGoroutine") = false)
  (B:∀b pre,pi b=some pre->∃rest e fr,W.heap[b]?=some (.cells (pre++rest).toArray e fr))
  (hg : ∀ b cs,glS b = some cs → ∃ pre ty fr,W.heap[b]? = some (.cells pre.toArray ty fr) ∧ pi b = some pre ∧ pre.length = cs.length ∧ (∀ c,c ∈ cs → c.one = true) ∧
   ∀(j:Nat) (c:A) (v:Value),cs[j]?=some c->pre[j]?=some v->Rz (yD pi W) c v)
  (hv:Rzs (yD pi W) args vals)
  (h:Den cx f args (λ_ a=>a=.bool true) (λ_ _=>False) St.zero) :
  Calls prog f vals.toArray W λe M=>e=.returned (.bool true)/\M.os=W.os/\M.output=W.output/\∀k,k<W.heap.size->M.heap[k]?=W.heap[k]?:=by
 let F1:Fr:=λb=>(W.heap[b]?).map λo=>(o,pi b)
 have Z:R cx.toCtx F1 (yD pi W) St.zero W:=by
  have z1:∀b,St.zero.getO b=none:=λb=>rfl
  have z2:∀b,St.zero.getT b=none:=λb=>rfl
  have z3:∀b,(yD pi W).beta b=none:=λb=>rfl
  refine⟨λb o ho=>?_,λt n e S=>?_,λt t' n n' v v' b b3 S=>?_,B,λb o ho=>?_,λb cs y=>?_,⟨0,λt _=>⟨rfl,λm=>rfl,rfl⟩⟩,λb k y=>?_,λb b' k y=>?_,λ_ b _=>⟨rfl,λm=>rfl⟩,λx H=>(by cases H),λb k y=>(by rw[z3]at y;cases y),rfl⟩
  .rw[z1]at ho;cases ho
  .rw[z2]at S;cases S
  .rw[z2]at S;cases S
  rotate_left 2
  .rw[z3]at y;cases y
  .rw[z3]at y;cases y
  .simp only[F1,sF]at ho;obtain⟨x,H,rfl⟩:=ho;exact⟨H,rfl⟩
  .obtain⟨pre,ty,fr,O,B,hl,h1,U⟩:=hg b cs y;exact⟨pre,ty,fr,by simp only[F1,O,B,nO],hl,h1,U⟩
 have b0:(callFunc f vals.toArray).run prog W=.ok (.enter f vals.toArray) W:=by
  simp only[callFunc,bW,run_program,bV,hf,F,cE,↓reduceIte,y,Option.isNone_some,cI]
 have z:=h F1 (yD pi W) W vals Z hv;change OutV cx F1 (yD pi W) _ _ ((callFunc f vals.toArray).run prog W)at z;rw[b0]at z;refine Calls.mono z λe M O=>?_
 cases e with
 | returned v =>
  obtain⟨g',a,s,b2,hR,U,rfl⟩:=O;have u:=hR.env.trans b2.env;have u:(M.os,M.output)=(W.os,W.output):=u;simp only[mQ]at u;refine⟨by rw[U.bool_inv],u.1,u.2,λk hk=>?_⟩;have H:W.heap[k]?=some W.heap[k]:=aBM hk;have:=(hR.frm k (W.heap[k],pi k) (by simp only[F1,H,nO])).1;rw[this,H]
 | panicked nE=>obtain⟨g2,a2,v,s2,_,_,_,_,h⟩:=O;exact h.elim
 | outgrown=>exact O.elim
theorem aDe{W:World}{name:String}{b:Nat}{k:IntKind}{m:List Int}(y:prog.globalNamed name=some b)(h:Lib.TabIs prog W name k m) :
  ∃ty fr,W.heap[b]?=some (.cells (m.map λz=>Value.int k z).toArray ty fr):=by
 unfold Lib.TabIs World.var? at h;rw[y]at h;simp only[Option.bind_some]at h;split at h
 .rename_i cs ty fr u;cases h;exact⟨ty,fr,u⟩
 .cases h
theorem aIq{W:World}{name:String}{b:Nat}{k:IntKind}{H:List Int}{t e n:Nat}(U:prog.globalNamed name=some b)(y:(prog.globals[b]?).map (·.type)=some t)
  (S:prog.underlying t=some (.array n e))(M:prog.underlying e=some (.int k))(B:prog.cellsOf e=1)(u:prog.cellsOf t=n)
  (h:Lib.VarReads prog W name (Lib.tabData k H)):Lib.TabIs prog W name k H:=by
 obtain⟨g,Z,cs,F,p,O,z,m,hd⟩:=h;obtain rfl:=aAB (U.symm.trans O);obtain rfl:=aAB (y.symm.trans z);unfold Lib.TabIs;rw[m,<-Lib.cells_of_tab S M B u hd]
theorem aGv : prog.globalNamed "strings.asciiSpace" = some 0 := by kernel_rfl
theorem aFZ : prog.globalNamed "internal/strconv.uint64pow10" = some 3 := by kernel_rfl
theorem aG4:aBw=Lib.asciiSpaceTab.map (λz=>A.int .u8 z):=by kernel_rfl
theorem aGw:aBy=Lib.pow10Tab.map (λz=>A.int .u64 z):=by kernel_rfl
theorem aUf:(YtamikhobdffnfaaGreatDoor.Rows.laid_strings_asciiSpace:DataW Unit)=Lib.tabData .u8 Lib.asciiSpaceTab:=by kernel_rfl
theorem aT9:(YtamikhobdffnfaaGreatDoor.Rows.laid_internal_strconv_uint64pow10:DataW Unit)=Lib.tabData .u64 Lib.pow10Tab:=by kernel_rfl
theorem aLZ {W : World} {l : List (String × DataW Unit)} (m : laidMet prog l W) (h : ("strings.asciiSpace",YtamikhobdffnfaaGreatDoor.Rows.laid_strings_asciiSpace) ∈ l) : Lib.TabIs prog W "strings.asciiSpace" .u8 Lib.asciiSpaceTab := by
 rw[aUf]at h;exact aIq (t:=255) (e:=5) (n:=256) aGv (by kernel_rfl) (by kernel_rfl) (by kernel_rfl) (by kernel_rfl) (by kernel_rfl) (Lib.laidMet.reads m h)
theorem aLU {W : World} {l : List (String × DataW Unit)} (m : laidMet prog l W) (h : ("internal/strconv.uint64pow10",YtamikhobdffnfaaGreatDoor.Rows.laid_internal_strconv_uint64pow10) ∈ l) : Lib.TabIs prog W "internal/strconv.uint64pow10" .u64 Lib.pow10Tab := by
 rw[aT9]at h;exact aIq (t:=303) (e:=284) (n:=20) aFZ (by kernel_rfl) (by kernel_rfl) (by kernel_rfl) (by kernel_rfl) (by kernel_rfl) (Lib.laidMet.reads m h)
def pi0(p:Nat->Option (List Value)):Nat->Option (List Value)
 | 0=>some (Lib.asciiSpaceTab.map λz=>.int .u8 z)
 | 3=>some (Lib.pow10Tab.map λz=>.int .u64 z)
 | b=>p b
theorem aM3{k:IntKind}{y:List Int}{g:Gh}:∀(j:Nat) (c:A) (v:Value),(y.map λz=>A.int k z)[j]?=some c->(y.map λz=>Value.int k z)[j]?=some v->Rz g c v:=by
 intro j c v u m;simp only[lO,sF]at u m;obtain⟨z,hz,rfl⟩:=u;obtain⟨B,h,rfl⟩:=m;rw[hz]at h;cases h;exact .int k z
theorem aMx{k:IntKind}{m:List Int}:∀c,c∈(m.map λz=>A.int k z)->c.one=true:=by
 intro c h;obtain⟨z,_,rfl⟩:=cH.1 h;rfl
theorem aQk{f:FuncId}{fn:Func}{c:Code}{args:List A}{vals:List Value}{W:World}{p:Nat->Option (List Value)}{l:List (String × DataW Unit)}
  (U : prog.funcs[f]? = some fn) (m : fn.body = some c) (u : (fn.name == "runtime.NumGoroutine") = false) (F : laidMet prog l W)
  (S : ("strings.asciiSpace",YtamikhobdffnfaaGreatDoor.Rows.laid_strings_asciiSpace) ∈ l) (h2 : ("internal/strconv.uint64pow10",YtamikhobdffnfaaGreatDoor.Rows.laid_internal_strconv_uint64pow10) ∈ l)
  (M:∀b pre,p b=some pre->∃rest e fr,W.heap[b]?=some (.cells (pre++rest).toArray e fr))
  (O:Rzs (yD (pi0 p) W) args vals)
  (h:Den cx f args (λ_ a=>a=.bool true) (λ_ _=>False) St.zero) :
  Calls prog f vals.toArray W λe y=>e=.returned (.bool true)/\y.os=W.os/\y.output=W.output/\∀k,k<W.heap.size->y.heap[k]?=W.heap[k]?:=by
 obtain⟨t0,f0,z⟩:=aDe aGv (aLZ F S);obtain⟨t3,B,H⟩:=aDe aFZ (aLU F h2);refine aRv U m u (pi:=pi0 p) (λb pre m=>?_) (λb cs m=>?_) O h
 .unfold pi0 at m;split at m
  .cases m;exact⟨[],t0,f0,by rw[z,eH]⟩
  .cases m;exact⟨[],t3,B,by rw[H,eH]⟩
  .exact M _ _ m
 .unfold glS at m;split at m
  .cases m;refine⟨_,t0,f0,z,rfl,by rw[aG4,aK,aK],by rw[aG4];exact aMx,by rw[aG4];exact aM3⟩
  .cases m;refine⟨_,t3,B,H,rfl,by rw[aGw,aK,aK],by rw[aGw];exact aMx,by rw[aGw];exact aM3⟩
  .cases m
def aNq(l:List UInt8):Value:=.string ⟨l.toArray⟩
def aV0:List Int:=[0,1,28,2,29,14,24,3,30,22,20,15,25,17,4,8,31,27,13,23,21,19,16,7,26,12,18,6,11,5,10,9]
def aVW:List Int:=[0,1,56,2,57,49,28,3,61,58,42,50,38,29,17,4,62,47,59,36,45,43,51,22,53,39,33,30,24,18,12,5,63,55,48,27,60,41,37,16,46,35,44,21,52,32,23,11,54,26,40,15,34,20,31,10,25,14,19,9,13,8,7,6]
def aUB:List Int:=[9,13,1,32,133,101,160,5760,5600,8192,8202,1,8232,8233,1,8239,8287,48,12288,12288,1]
theorem aTs{w w':World}{m:MemPlace->Prop}(y:w'.os=w.os)(u:w'.output=w.output)(B:∀i,i<w.heap.size->w'.heap[i]?=w.heap[i]?):w.keptBut w' m:=by
 have h:=World.keptBut_refl w m;exact⟨y,u,λi z=>by rw[B i z];exact h.2.2 i z⟩
noncomputable def xC(u:Os):World :=
 let N:=(World.settled prog u).heap.size
 let y:=World.holding prog u ⟨#[.cells (aUB.map λz=>Value.int .u16 z).toArray 295,.cells #[.slice (some ⟨N,0,none⟩) 7 7,.slice none 0 0,.int .i64 2] 292,
  .cells #[aNq [105,110,118,97,108,105,100,32,115,121,110,116,97,120]] 340,.cells #[aNq [118,97,108,117,101,32,111,117,116,32,111,102,32,114,97,110,103,101]] 340],#[],[]⟩
 let put (h:Array Obj) (g:Nat) (cs:List Value):Array Obj:=h.modify g fun
  | .cells _ t m=>.cells cs.toArray t m
  | o=>o
 let O:=put y.heap 0 (Lib.asciiSpaceTab.map λz=>Value.int .u8 z)
 let h2:=put O 2 [.pointer (some ⟨N+1,0,none⟩)]
 let H:=put h2 3 (Lib.pow10Tab.map λz=>Value.int .u64 z)
 let F:=put H 4 (aV0.map λz=>Value.int .u8 z)
 let B:=put F 5 (aVW.map λz=>Value.int .u8 z)
 let S:=put B 6 [.iface 338 (.pointer (some ⟨N+2,0,none⟩))]
 let U:=put S 7 [.iface 338 (.pointer (some ⟨N+3,0,none⟩))]
 let M:=put U 8 (Lib.firstTab.map λz=>Value.int .u8 z)
 let Z:=put M 9 ((List.range 16).flatMap λi=>[Value.int .u8 (Lib.accLo i),Value.int .u8 (Lib.accHi i)])
 { y with heap:=Z }
def aEG:Nat->List Nat->Bool
 | _,[]=>true
 | p,x::r=>match Nat.blt p x with
  | true=>aEG x r
  | false=>false
theorem aMb:∀{l:List Nat} {p:Nat},aEG p l=true->(∀x,x∈l->p<x)/\l.Pairwise (·<·)
 | [],p,_=>⟨λx h=>(by cases h),.nil⟩
 | y::r,p,h=>by
  simp only[aEG]at h;split at h
  .rename_i e;have e':p<y:=mO e;obtain⟨u,h2⟩:=aMb h;refine⟨λx m=>?_,.cons u h2⟩;rcases List.mem_cons.1 m with rfl|m
   .exact e'
   .exact Nat.lt_trans e' (u x m)
  .cases h
def aVz:Nat->Nat
 | 4=>0|5=>1|3=>2|9=>3|7=>4|19=>5|6=>6|18=>7|2=>8|17=>9|16=>10|0=>11|_=>12
def aNx:MemPlace->Nat
 | .cell b o=>1000 * aVz b+o+1
 | .map _=>0
theorem aS3(h:Os)(args:Array Value):((DataW.laidRun prog ((xC h).forCall (λ_ _=>0) ⟨#[],args,[]⟩).memory 8 (YtamikhobdffnfaaGreatDoor.Rows.defLimitsRow.laid.map (·.1))).map (·.1))=some YtamikhobdffnfaaGreatDoor.Rows.defLimitsRow.laid:=by kernel_rfl
theorem aRq(h:Os)(args:Array Value):((DataW.laidRun prog ((xC h).forCall (λ_ _=>0) ⟨#[],args,[]⟩).memory 8 (YtamikhobdffnfaaGreatDoor.Rows.defLimitsRow.laid.map (·.1))).map
  (λx=>laidRowsB prog ((xC h).forCall (λ_ _=>0) ⟨#[],args,[]⟩).memory x.2))=some true:=by kernel_rfl
theorem aRa(h:Os)(args:Array Value):((DataW.laidRun prog ((xC h).forCall (λ_ _=>0) ⟨#[],args,[]⟩).memory 8 (YtamikhobdffnfaaGreatDoor.Rows.defLimitsRow.laid.map (·.1))).map (λx=>aEG 0 (x.2.map aNx)))=some true:=by kernel_rfl
theorem aSA(m:Os)(args:Array Value):laidMet prog YtamikhobdffnfaaGreatDoor.Rows.defLimitsRow.laid ((xC m).forCall (λ_ _=>0) ⟨#[],args,[]⟩).memory:=by
 refine laidMet_of_run' 8 (aS3 m args) ?_;have u:=aRq m args;have h2:=aRa m args;generalize DataW.laidRun prog ((xC m).forCall (λ_ _=>0) ⟨#[],args,[]⟩).memory 8 (YtamikhobdffnfaaGreatDoor.Rows.defLimitsRow.laid.map (·.1))=r at u h2⊢;cases r with
 | none=>cases u
 | some x =>
  simp only[nO,bQ]at u h2⊢;have y:x.2.Nodup:=List.Pairwise.of_map aNx (λa b h e=>by rw[e]at h;exact cM h (Nat.lt_irrefl _)) (aMb h2).2;rw[u,fN y];rfl
end Go.AV
