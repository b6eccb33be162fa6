/-
  Of DefRenamed.
-/
import Derived.Test.YtamikhobdffnfaaGreatDoorRe03
import Derived.Test.YtamikhobdffnfaaGreatDoorTie
import Derived.Test.YtamikhobdffnfaaGreatDoorCards
import Derived.ProofKit
import Derived.OpenShut
import Derived.Deep.DeepHandedRow
import Derived.Deep.DeepWitnessRowRef
import Derived.Lib.LaidTab
import Derived.Lib.LaidU8
import Derived.Lib.ItoaNum
import Derived.Lib.Space
set_option linter.all false
set_option maxRecDepth 99999
set_option maxHeartbeats 0
namespace Go.AV
open Go Go.Proofs Tryz
def wF(pi:Nat->Option (List Value))(W:World):Gh:=⟨pi,λ_ _=>none,λ_=>none,(W.os,W.output)⟩
theorem aOW{f:FuncId}{fn:Func}{c:Code}{args:List A}{vals:List Value}{W:World}{pi:Nat->Option (List Value)}
  (hf : prog.funcs[f]? = some fn) (hb : fn.body = some c) (hname : (fn.name == "runtime.NumGoroutine") = false)
  (hpi:∀b pre,pi b=some pre->∃rest e fr,W.heap[b]?=some (.cells (pre++rest).toArray e fr))
  (hg : ∀ b cs,glS b = some cs → ∃ pre ty fr,W.heap[b]? = some (.cells pre.toArray ty fr) ∧ pi b = some pre ∧ pre.length = cs.length ∧ (∀ c,c ∈ cs → c.one = true) ∧
   ∀(j:Nat) (c:A) (v:Value),cs[j]?=some c->pre[j]?=some v->Rz (wF pi W) c v)
  (hv:Rzs (wF pi W) args vals)
  (h:Den cx f args (λ_ a=>a=.bool true) (λ_ _=>False) St.zero) :
  Calls prog f vals.toArray W λe W'=>e=.returned (.bool true)/\W'.os=W.os/\W'.output=W.output/\∀k,k<W.heap.size->W'.heap[k]?=W.heap[k]?:=by
 let F1:Fr:=λb=>(W.heap[b]?).map λo=>(o,pi b)
 have hR1:R cx.toCtx F1 (wF pi W) St.zero W:=by
  have z1:∀b,St.zero.getO b=none:=λb=>rfl
  have z2:∀b,St.zero.getT b=none:=λb=>rfl
  have z3:∀b,(wF pi W).beta b=none:=λb=>rfl
  refine⟨λb o ho=>?_,λt n e ht=>?_,λt t' n n' v v' b hne ht=>?_,hpi,λb o ho=>?_,λb cs hb=>?_,⟨0,λt _=>⟨rfl,λm=>rfl,rfl⟩⟩,λb k hb=>?_,λb b' k hb=>?_,λ_ b _=>⟨rfl,λm=>rfl⟩,λx hx=>(by cases hx),λb k hb=>(by rw[z3]at hb;cases hb),rfl⟩
  .rw[z1]at ho;cases ho
  .rw[z2]at ht;cases ht
  .rw[z2]at ht;cases ht
  rotate_left 2
  .rw[z3]at hb;cases hb
  .rw[z3]at hb;cases hb
  .simp only[F1,qV]at ho;obtain⟨x,hx,rfl⟩:=ho;exact⟨hx,rfl⟩
  .obtain⟨pre,ty,fr,hp,hpi,hl,h1,hr⟩:=hg b cs hb;exact⟨pre,ty,fr,by simp only[F1,hp,hpi,mQ],hl,h1,hr⟩
 have hcf:(callFunc f vals.toArray).run prog W=.ok (.enter f vals.toArray) W:=by
  simp only[callFunc,bP,run_program,bN,hf,hname,cJ,↓reduceIte,hb,Option.isNone_some,cD]
 have hout:=h F1 (wF pi W) W vals hR1 hv;change OutV cx F1 (wF pi W) _ _ ((callFunc f vals.toArray).run prog W)at hout;rw[hcf]at hout;refine Calls.mono hout λe W' hp=>?_
 cases e with
 | returned v =>
  obtain⟨g',a,s,hle,hR,hr,rfl⟩:=hp;have henv:=hR.env.trans hle.env;have henv:(W'.os,W'.output)=(W.os,W.output):=henv;simp only[lO]at henv;refine⟨by rw[hr.bool_inv],henv.1,henv.2,λk hk=>?_⟩;have hx:W.heap[k]?=some W.heap[k]:=aAI hk;have:=(hR.frm k (W.heap[k],pi k) (by simp only[F1,hx,mQ])).1;rw[this,hx]
 | panicked mF=>obtain⟨g2,a2,v,s2,_,_,_,_,h⟩:=hp;exact h.elim
 | outgrown=>exact hp.elim
theorem aBZ{W:World}{name:String}{b:Nat}{k:IntKind}{zs:List Int}(hn:prog.globalNamed name=some b)(h:Lib.TabIs prog W name k zs) :
  ∃ty fr,W.heap[b]?=some (.cells (zs.map λz=>Value.int k z).toArray ty fr):=by
 unfold Lib.TabIs World.var? at h;rw[hn]at h;simp only[Option.bind_some]at h;split at h
 .rename_i cs ty fr hh;cases h;exact⟨ty,fr,hh⟩
 .cases h
theorem aHb{W:World}{name:String}{b:Nat}{k:IntKind}{zs:List Int}{t e n:Nat}(hn:prog.globalNamed name=some b)(hty:(prog.globals[b]?).map (·.type)=some t)
  (ht:prog.underlying t=some (.array n e))(he:prog.underlying e=some (.int k))(hce:prog.cellsOf e=1)(hct:prog.cellsOf t=n)
  (h:Lib.VarReads prog W name (Lib.tabData k zs)):Lib.TabIs prog W name k zs:=by
 obtain⟨g,t',cs,fuel,p,hg,ht',hvar,hd⟩:=h;obtain rfl:=yU (hn.symm.trans hg);obtain rfl:=yU (hty.symm.trans ht');unfold Lib.TabIs;rw[hvar,<-Lib.cells_of_tab ht he hce hct hd]
theorem aFf : prog.globalNamed "strings.asciiSpace" = some 0 := by kernel_rfl
theorem aEZ : prog.globalNamed "internal/strconv.uint64pow10" = some 3 := by kernel_rfl
theorem aF0:aAr=Lib.asciiSpaceTab.map (λz=>A.int .u8 z):=by kernel_rfl
theorem aFG:aAz=Lib.pow10Tab.map (λz=>A.int .u64 z):=by kernel_rfl
theorem aRv:(YtamikhobdffnfaaGreatDoor.Rows.laid_strings_asciiSpace:DataW Unit)=Lib.tabData .u8 Lib.asciiSpaceTab:=by kernel_rfl
theorem aSo:(YtamikhobdffnfaaGreatDoor.Rows.laid_internal_strconv_uint64pow10:DataW Unit)=Lib.tabData .u64 Lib.pow10Tab:=by kernel_rfl
theorem aJ6 {W : World} {l : List (String × DataW Unit)} (hL : laidMet prog l W) (hm : ("strings.asciiSpace",YtamikhobdffnfaaGreatDoor.Rows.laid_strings_asciiSpace) ∈ l) : Lib.TabIs prog W "strings.asciiSpace" .u8 Lib.asciiSpaceTab := by
 rw[aRv]at hm;exact aHb (t:=255) (e:=5) (n:=256) aFf (by kernel_rfl) (by kernel_rfl) (by kernel_rfl) (by kernel_rfl) (by kernel_rfl) (Lib.laidMet.reads hL hm)
theorem aKo {W : World} {l : List (String × DataW Unit)} (hL : laidMet prog l W) (hm : ("internal/strconv.uint64pow10",YtamikhobdffnfaaGreatDoor.Rows.laid_internal_strconv_uint64pow10) ∈ l) : Lib.TabIs prog W "internal/strconv.uint64pow10" .u64 Lib.pow10Tab := by
 rw[aSo]at hm;exact aHb (t:=303) (e:=284) (n:=20) aEZ (by kernel_rfl) (by kernel_rfl) (by kernel_rfl) (by kernel_rfl) (by kernel_rfl) (Lib.laidMet.reads hL hm)
def pi0(p:Nat->Option (List Value)):Nat->Option (List Value)
 | 0=>some (Lib.asciiSpaceTab.map λz=>.int .u8 z)
 | 3=>some (Lib.pow10Tab.map λz=>.int .u64 z)
 | b=>p b
theorem aLi{k:IntKind}{zs:List Int}{g:Gh}:∀(j:Nat) (c:A) (v:Value),(zs.map λz=>A.int k z)[j]?=some c->(zs.map λz=>Value.int k z)[j]?=some v->Rz g c v:=by
 intro j c v hc hv;simp only[lB,qV]at hc hv;obtain⟨z,hz,rfl⟩:=hc;obtain⟨z',hz',rfl⟩:=hv;rw[hz]at hz';cases hz';exact .int k z
theorem aKO{k:IntKind}{zs:List Int}:∀c,c∈(zs.map λz=>A.int k z)->c.one=true:=by
 intro c hc;obtain⟨z,_,rfl⟩:=cC.1 hc;rfl
theorem aOP{f:FuncId}{fn:Func}{c:Code}{args:List A}{vals:List Value}{W:World}{p:Nat->Option (List Value)}{l:List (String × DataW Unit)}
  (hf : prog.funcs[f]? = some fn) (hb : fn.body = some c) (hname : (fn.name == "runtime.NumGoroutine") = false) (hL : laidMet prog l W)
  (h1 : ("strings.asciiSpace",YtamikhobdffnfaaGreatDoor.Rows.laid_strings_asciiSpace) ∈ l) (h2 : ("internal/strconv.uint64pow10",YtamikhobdffnfaaGreatDoor.Rows.laid_internal_strconv_uint64pow10) ∈ l)
  (hp:∀b pre,p b=some pre->∃rest e fr,W.heap[b]?=some (.cells (pre++rest).toArray e fr))
  (hv:Rzs (wF (pi0 p) W) args vals)
  (h:Den cx f args (λ_ a=>a=.bool true) (λ_ _=>False) St.zero) :
  Calls prog f vals.toArray W λe W'=>e=.returned (.bool true)/\W'.os=W.os/\W'.output=W.output/\∀k,k<W.heap.size->W'.heap[k]?=W.heap[k]?:=by
 obtain⟨t0,f0,e0⟩:=aBZ aFf (aJ6 hL h1);obtain⟨t3,f3,e3⟩:=aBZ aEZ (aKo hL h2);refine aOW hf hb hname (pi:=pi0 p) (λb pre hb=>?_) (λb cs hb=>?_) hv h
 .unfold pi0 at hb;split at hb
  .cases hb;exact⟨[],t0,f0,by rw[e0,eM]⟩
  .cases hb;exact⟨[],t3,f3,by rw[e3,eM]⟩
  .exact hp _ _ hb
 .unfold glS at hb;split at hb
  .cases hb;refine⟨_,t0,f0,e0,rfl,by rw[aF0,aH,aH],by rw[aF0];exact aKO,by rw[aF0];exact aLi⟩
  .cases hb;refine⟨_,t3,f3,e3,rfl,by rw[aFG,aH,aH],by rw[aFG];exact aKO,by rw[aFG];exact aLi⟩
  .cases hb
def aLU(l:List UInt8):Value:=.string ⟨l.toArray⟩
def aUj:List Int:=[0,1,28,2,29,14,24,3,30,22,20,15,25,17,4,8,31,27,13,23,21,19,16,7,26,12,18,6,11,5,10,9]
def aT6:List Int:=[0,1,56,2,57,49,28,3,61,58,42,50,38,29,17,4,62,47,59,36,45,43,51,22,53,39,33,30,24,18,12,5,63,55,48,27,60,41,37,16,46,35,44,21,52,32,23,11,54,26,40,15,34,20,31,10,25,14,19,9,13,8,7,6]
def aSH:List Int:=[9,13,1,32,133,101,160,5760,5600,8192,8202,1,8232,8233,1,8239,8287,48,12288,12288,1]
theorem aRO{w w':World}{may:MemPlace->Prop}(hos:w'.os=w.os)(hout:w'.output=w.output)(hb:∀i,i<w.heap.size->w'.heap[i]?=w.heap[i]?):w.keptBut w' may:=by
 have h:=World.keptBut_refl w may;exact⟨hos,hout,λi hi=>by rw[hb i hi];exact h.2.2 i hi⟩
noncomputable def uX(os:Os):World :=
 let N:=(World.settled prog os).heap.size
 let w0:=World.holding prog os ⟨#[.cells (aSH.map λz=>Value.int .u16 z).toArray 295,.cells #[.slice (some ⟨N,0,none⟩) 7 7,.slice none 0 0,.int .i64 2] 292,
  .cells #[aLU [105,110,118,97,108,105,100,32,115,121,110,116,97,120]] 340,.cells #[aLU [118,97,108,117,101,32,111,117,116,32,111,102,32,114,97,110,103,101]] 340],#[],[]⟩
 let put (h:Array Obj) (g:Nat) (cs:List Value):Array Obj:=h.modify g fun
  | .cells _ t frozen=>.cells cs.toArray t frozen
  | o=>o
 let h0:=put w0.heap 0 (Lib.asciiSpaceTab.map λz=>Value.int .u8 z)
 let h2:=put h0 2 [.pointer (some ⟨N+1,0,none⟩)]
 let h3:=put h2 3 (Lib.pow10Tab.map λz=>Value.int .u64 z)
 let h4:=put h3 4 (aUj.map λz=>Value.int .u8 z)
 let h5:=put h4 5 (aT6.map λz=>Value.int .u8 z)
 let h6:=put h5 6 [.iface 338 (.pointer (some ⟨N+2,0,none⟩))]
 let h7:=put h6 7 [.iface 338 (.pointer (some ⟨N+3,0,none⟩))]
 let h8:=put h7 8 (Lib.firstTab.map λz=>Value.int .u8 z)
 let h9:=put h8 9 ((List.range 16).flatMap λi=>[Value.int .u8 (Lib.accLo i),Value.int .u8 (Lib.accHi i)])
 { w0 with heap:=h9 }
def aDF:Nat->List Nat->Bool
 | _,[]=>true
 | p,x::r=>match Nat.blt p x with
  | true=>aDF x r
  | false=>false
theorem aKc:∀{l:List Nat} {p:Nat},aDF p l=true->(∀x,x∈l->p<x)/\l.Pairwise (·<·)
 | [],p,_=>⟨λx h=>(by cases h),.nil⟩
 | y::r,p,h=>by
  simp only[aDF]at h;split at h
  .rename_i e;have e':p<y:=lM e;obtain⟨h1,h2⟩:=aKc h;refine⟨λx hx=>?_,.cons h1 h2⟩;rcases List.mem_cons.1 hx with rfl|hx
   .exact e'
   .exact Nat.lt_trans e' (h1 x hx)
  .cases h
def aT2:Nat->Nat
 | 4=>0|5=>1|3=>2|9=>3|7=>4|19=>5|6=>6|18=>7|2=>8|17=>9|16=>10|0=>11|_=>12
def aLS:MemPlace->Nat
 | .cell b o=>1000 * aT2 b+o+1
 | .map _=>0
theorem aRh(os:Os)(args:Array Value):((DataW.laidRun prog ((uX os).forCall (λ_ _=>0) ⟨#[],args,[]⟩).memory 8 (YtamikhobdffnfaaGreatDoor.Rows.defLimitsRow.laid.map (·.1))).map (·.1))=some YtamikhobdffnfaaGreatDoor.Rows.defLimitsRow.laid:=by kernel_rfl
theorem aPN(os:Os)(args:Array Value):((DataW.laidRun prog ((uX os).forCall (λ_ _=>0) ⟨#[],args,[]⟩).memory 8 (YtamikhobdffnfaaGreatDoor.Rows.defLimitsRow.laid.map (·.1))).map
  (λx=>laidRowsB prog ((uX os).forCall (λ_ _=>0) ⟨#[],args,[]⟩).memory x.2))=some true:=by kernel_rfl
theorem aPx(os:Os)(args:Array Value):((DataW.laidRun prog ((uX os).forCall (λ_ _=>0) ⟨#[],args,[]⟩).memory 8 (YtamikhobdffnfaaGreatDoor.Rows.defLimitsRow.laid.map (·.1))).map (λx=>aDF 0 (x.2.map aLS)))=some true:=by kernel_rfl
theorem aRc(os:Os)(args:Array Value):laidMet prog YtamikhobdffnfaaGreatDoor.Rows.defLimitsRow.laid ((uX os).forCall (λ_ _=>0) ⟨#[],args,[]⟩).memory:=by
 refine laidMet_of_run' 8 (aRh os args) ?_;have h1:=aPN os args;have h2:=aPx os args;generalize DataW.laidRun prog ((uX os).forCall (λ_ _=>0) ⟨#[],args,[]⟩).memory 8 (YtamikhobdffnfaaGreatDoor.Rows.defLimitsRow.laid.map (·.1))=r at h1 h2⊢;cases r with
 | none=>cases h1
 | some x =>
  simp only[mQ,bJ]at h1 h2⊢;have h3:x.2.Nodup:=List.Pairwise.of_map aLS (λa b h e=>by rw[e]at h;exact absurd h (Nat.lt_irrefl _)) (aKc h2).2;rw[h1,kD h3];rfl
end Go.AV
