/-
  Of CheckOrder.
-/
import Derived.Test.YtliopiiflebkdaaGreatDoorOr03
import Derived.Test.YtliopiiflebkdaaGreatDoorTie
import Derived.Test.YtliopiiflebkdaaGreatDoorCards
import Derived.ProofKit
import Derived.OpenShut
import Derived.Deep.DeepHandedRow
import Derived.Deep.DeepWitnessRowRef
import Derived.Lib.LaidTab
import Derived.Lib.LaidU8
import Derived.Lib.ItoaNum
import Derived.Lib.Space
set_option linter.all false
set_option maxRecDepth 99999
set_option maxHeartbeats 0
namespace Go.AV
open Go Go.Proofs Tryz
def sM(pi:Nat->Option (List Value))(W:World):Gh:=⟨pi,λ_ _=>none,λ_=>none,(W.os,W.output)⟩
theorem aLS{f:FuncId}{fn:Func}{c:Code}{args:List A}{vals:List Value}{W:World}{pi:Nat->Option (List Value)}
  (hf : prog.funcs[f]? = some fn) (u : fn.body = some c) (z : (fn.name == "runtime.NumGoroutine") = false)
  (B:∀b pre,pi b=some pre->∃rest e fr,W.heap[b]?=some (.cells (pre++rest).toArray e fr))
  (hg : ∀ b cs,glS b = some cs → ∃ pre ty fr,W.heap[b]? = some (.cells pre.toArray ty fr) ∧ pi b = some pre ∧ pre.length = cs.length ∧ (∀ c,c ∈ cs → c.one = true) ∧
   ∀(j:Nat) (c:A) (v:Value),cs[j]?=some c->pre[j]?=some v->Rz (sM pi W) c v)
  (hv:Rzs (sM pi W) args vals)
  (h:Den cx f args (λ_ a=>a=.bool true) (λ_ _=>False) St.zero) :
  Calls prog f vals.toArray W λe G=>e=.returned (.bool true)/\G.os=W.os/\G.output=W.output/\∀k,k<W.heap.size->G.heap[k]?=W.heap[k]?:=by
 let F:Fr:=λb=>(W.heap[b]?).map λo=>(o,pi b)
 have O:R cx.toCtx F (sM pi W) St.zero W:=by
  have z1:∀b,St.zero.getO b=none:=λb=>rfl
  have z2:∀b,St.zero.getT b=none:=λb=>rfl
  have z3:∀b,(sM pi W).beta b=none:=λb=>rfl
  refine⟨λb o ho=>?_,λt n e M=>?_,λt t' n n' v v' b b0 M=>?_,B,λb o ho=>?_,λb cs u=>?_,⟨0,λt _=>⟨rfl,λm=>rfl,rfl⟩⟩,λb k u=>?_,λb b' k u=>?_,λ_ b _=>⟨rfl,λm=>rfl⟩,λx H=>(by cases H),λb k u=>(by rw[z3]at u;cases u),rfl⟩
  .rw[z1]at ho;cases ho
  .rw[z2]at M;cases M
  .rw[z2]at M;cases M
  rotate_left 2
  .rw[z3]at u;cases u
  .rw[z3]at u;cases u
  .simp only[F,oT]at ho;obtain⟨x,H,rfl⟩:=ho;exact⟨H,rfl⟩
  .obtain⟨pre,ty,fr,L,B,hl,h1,Z⟩:=hg b cs u;exact⟨pre,ty,fr,by simp only[F,L,B,jM],hl,h1,Z⟩
 have S:(callFunc f vals.toArray).run prog W=.ok (.enter f vals.toArray) W:=by
  simp only[callFunc,bE,run_program,bD,hf,z,cQ,↓reduceIte,u,Option.isNone_some,bO]
 have y:=h F (sM pi W) W vals O hv;change OutV cx F (sM pi W) _ _ ((callFunc f vals.toArray).run prog W)at y;rw[S]at y;refine Calls.mono y λe G L=>?_
 cases e with
 | returned v =>
  obtain⟨g',a,s,U,hR,Z,rfl⟩:=L;have q:=hR.env.trans U.env;have q:(G.os,G.output)=(W.os,W.output):=q;simp only[lO]at q;refine⟨by rw[Z.bool_inv],q.1,q.2,λk hk=>?_⟩;have H:W.heap[k]?=some W.heap[k]:=wU hk;have:=(hR.frm k (W.heap[k],pi k) (by simp only[F,H,jM])).1;rw[this,H]
 | panicked iW=>obtain⟨g2,a2,v,s2,_,_,_,_,h⟩:=L;exact h.elim
 | outgrown=>exact L.elim
theorem zX{W:World}{name:String}{b:Nat}{k:IntKind}{m:List Int}(u:prog.globalNamed name=some b)(h:Lib.TabIs prog W name k m) :
  ∃ty fr,W.heap[b]?=some (.cells (m.map λz=>Value.int k z).toArray ty fr):=by
 unfold Lib.TabIs World.var? at h;rw[u]at h;simp only[Option.bind_some]at h;split at h
 .rename_i cs ty fr q;cases h;exact⟨ty,fr,q⟩
 .cases h
theorem aEp{W:World}{name:String}{b:Nat}{k:IntKind}{F:List Int}{t e n:Nat}(M:prog.globalNamed name=some b)(z:(prog.globals[b]?).map (·.type)=some t)
  (O:prog.underlying t=some (.array n e))(H:prog.underlying e=some (.int k))(q:prog.cellsOf e=1)(u:prog.cellsOf t=n)
  (h:Lib.VarReads prog W name (Lib.tabData k F)):Lib.TabIs prog W name k F:=by
 obtain⟨g,S,cs,B,p,L,y,m,G⟩:=h;obtain rfl:=uF (M.symm.trans L);obtain rfl:=uF (z.symm.trans y);unfold Lib.TabIs;rw[m,<-Lib.cells_of_tab O H q u G]
theorem aCA : prog.globalNamed "strings.asciiSpace" = some 0 := by kernel_rfl
theorem aCj : prog.globalNamed "internal/strconv.uint64pow10" = some 3 := by kernel_rfl
theorem aDb:vV=Lib.asciiSpaceTab.map (λz=>A.int .u8 z):=by kernel_rfl
theorem aCK:vZ=Lib.pow10Tab.map (λz=>A.int .u64 z):=by kernel_rfl
theorem aNE:(YtliopiiflebkdaaGreatDoor.Rows.laid_strings_asciiSpace:DataW Unit)=Lib.tabData .u8 Lib.asciiSpaceTab:=by kernel_rfl
theorem aM3:(YtliopiiflebkdaaGreatDoor.Rows.laid_internal_strconv_uint64pow10:DataW Unit)=Lib.tabData .u64 Lib.pow10Tab:=by kernel_rfl
theorem aGH {W : World} {l : List (String × DataW Unit)} (m : laidMet prog l W) (h : ("strings.asciiSpace",YtliopiiflebkdaaGreatDoor.Rows.laid_strings_asciiSpace) ∈ l) : Lib.TabIs prog W "strings.asciiSpace" .u8 Lib.asciiSpaceTab := by
 rw[aNE]at h;exact aEp (t:=224) (e:=5) (n:=256) aCA (by kernel_rfl) (by kernel_rfl) (by kernel_rfl) (by kernel_rfl) (by kernel_rfl) (Lib.laidMet.reads m h)
theorem aGR {W : World} {l : List (String × DataW Unit)} (m : laidMet prog l W) (h : ("internal/strconv.uint64pow10",YtliopiiflebkdaaGreatDoor.Rows.laid_internal_strconv_uint64pow10) ∈ l) : Lib.TabIs prog W "internal/strconv.uint64pow10" .u64 Lib.pow10Tab := by
 rw[aM3]at h;exact aEp (t:=307) (e:=188) (n:=20) aCj (by kernel_rfl) (by kernel_rfl) (by kernel_rfl) (by kernel_rfl) (by kernel_rfl) (Lib.laidMet.reads m h)
def wQ(p:Nat->Option (List Value)):Nat->Option (List Value)
 | 0=>some (Lib.asciiSpaceTab.map λz=>.int .u8 z)
 | 3=>some (Lib.pow10Tab.map λz=>.int .u64 z)
 | b=>p b
theorem aHd{k:IntKind}{u:List Int}{g:Gh}:∀(j:Nat) (c:A) (v:Value),(u.map λz=>A.int k z)[j]?=some c->(u.map λz=>Value.int k z)[j]?=some v->Rz g c v:=by
 intro j c v m q;simp only[kD,oT]at m q;obtain⟨z,hz,rfl⟩:=m;obtain⟨y,h,rfl⟩:=q;rw[hz]at h;cases h;exact .int k z
theorem aGP{k:IntKind}{m:List Int}:∀c,c∈(m.map λz=>A.int k z)->c.one=true:=by
 intro c h;obtain⟨z,_,rfl⟩:=cD.1 h;rfl
theorem aKy{f:FuncId}{fn:Func}{c:Code}{args:List A}{vals:List Value}{W:World}{p:Nat->Option (List Value)}{l:List (String × DataW Unit)}
  (M : prog.funcs[f]? = some fn) (m : fn.body = some c) (q : (fn.name == "runtime.NumGoroutine") = false) (G : laidMet prog l W)
  (H : ("strings.asciiSpace",YtliopiiflebkdaaGreatDoor.Rows.laid_strings_asciiSpace) ∈ l) (L : ("internal/strconv.uint64pow10",YtliopiiflebkdaaGreatDoor.Rows.laid_internal_strconv_uint64pow10) ∈ l)
  (O:∀b pre,p b=some pre->∃rest e fr,W.heap[b]?=some (.cells (pre++rest).toArray e fr))
  (S:Rzs (sM (wQ p) W) args vals)
  (h:Den cx f args (λ_ a=>a=.bool true) (λ_ _=>False) St.zero) :
  Calls prog f vals.toArray W λe u=>e=.returned (.bool true)/\u.os=W.os/\u.output=W.output/\∀k,k<W.heap.size->u.heap[k]?=W.heap[k]?:=by
 obtain⟨t0,B,y⟩:=zX aCA (aGH G H);obtain⟨t3,F,z⟩:=zX aCj (aGR G L);refine aLS M m q (pi:=wQ p) (λb pre m=>?_) (λb cs m=>?_) S h
 .unfold wQ at m;split at m
  .cases m;exact⟨[],t0,B,by rw[y,dQ]⟩
  .cases m;exact⟨[],t3,F,by rw[z,dQ]⟩
  .exact O _ _ m
 .unfold glS at m;split at m
  .cases m;refine⟨_,t0,B,y,rfl,by rw[aDb,aK,aK],by rw[aDb];exact aGP,by rw[aDb];exact aHd⟩
  .cases m;refine⟨_,t3,F,z,rfl,by rw[aCK,aK,aK],by rw[aCK];exact aGP,by rw[aCK];exact aHd⟩
  .cases m
def aHH(l:List UInt8):Value:=.string ⟨l.toArray⟩
def aOT:List Int:=[0,1,28,2,29,14,24,3,30,22,20,15,25,17,4,8,31,27,13,23,21,19,16,7,26,12,18,6,11,5,10,9]
def aOQ:List Int:=[0,1,56,2,57,49,28,3,61,58,42,50,38,29,17,4,62,47,59,36,45,43,51,22,53,39,33,30,24,18,12,5,63,55,48,27,60,41,37,16,46,35,44,21,52,32,23,11,54,26,40,15,34,20,31,10,25,14,19,9,13,8,7,6]
def aN3:List Int:=[9,13,1,32,133,101,160,5760,5600,8192,8202,1,8232,8233,1,8239,8287,48,12288,12288,1]
theorem aMW{w w':World}{q:MemPlace->Prop}(u:w'.os=w.os)(m:w'.output=w.output)(z:∀i,i<w.heap.size->w'.heap[i]?=w.heap[i]?):w.keptBut w' q:=by
 have h:=World.keptBut_refl w q;exact⟨u,m,λi y=>by rw[z i y];exact h.2.2 i y⟩
noncomputable def rH(q:Os):World :=
 let N:=(World.settled prog q).heap.size
 let u:=World.holding prog q ⟨#[.cells (aN3.map λz=>Value.int .u16 z).toArray 266,.cells #[.slice (some ⟨N,0,none⟩) 7 7,.slice none 0 0,.int .i64 2] 263,
  .cells #[aHH [105,110,118,97,108,105,100,32,115,121,110,116,97,120]] 322,.cells #[aHH [118,97,108,117,101,32,111,117,116,32,111,102,32,114,97,110,103,101]] 322],#[],[]⟩
 let put (h:Array Obj) (g:Nat) (cs:List Value):Array Obj:=h.modify g fun
  | .cells _ t m=>.cells cs.toArray t m
  | o=>o
 let y:=put u.heap 0 (Lib.asciiSpaceTab.map λz=>Value.int .u8 z)
 let B:=put y 1 [.pointer (some ⟨N+1,0,none⟩)]
 let F:=put B 3 (Lib.pow10Tab.map λz=>Value.int .u64 z)
 let G:=put F 8 (aOT.map λz=>Value.int .u8 z)
 let H:=put G 9 (aOQ.map λz=>Value.int .u8 z)
 let L:=put H 4 [.iface 320 (.pointer (some ⟨N+2,0,none⟩))]
 let M:=put L 5 [.iface 320 (.pointer (some ⟨N+3,0,none⟩))]
 let O:=put M 6 (Lib.firstTab.map λz=>Value.int .u8 z)
 let S:=put O 7 ((List.range 16).flatMap λi=>[Value.int .u8 (Lib.accLo i),Value.int .u8 (Lib.accHi i)])
 { u with heap:=S }
def aBc:Nat->List Nat->Bool
 | _,[]=>true
 | p,x::r=>match Nat.blt p x with
  | true=>aBc x r
  | false=>false
theorem aGI:∀{l:List Nat} {p:Nat},aBc p l=true->(∀x,x∈l->p<x)/\l.Pairwise (·<·)
 | [],p,_=>⟨λx h=>(by cases h),.nil⟩
 | y::r,p,h=>by
  simp only[aBc]at h;split at h
  .rename_i e;have e':p<y:=gN e;obtain⟨q,u⟩:=aGI h;refine⟨λx m=>?_,.cons q u⟩;rcases List.mem_cons.1 m with rfl|m
   .exact e'
   .exact Nat.lt_trans e' (q x m)
  .cases h
def aOw:Nat->Nat
 | 8=>0|9=>1|3=>2|7=>3|5=>4|19=>5|4=>6|18=>7|1=>8|17=>9|16=>10|0=>11|_=>12
def aHI:MemPlace->Nat
 | .cell b o=>1000 * aOw b+o+1
 | .map _=>0
theorem aMx(h:Os)(args:Array Value):((DataW.laidRun prog ((rH h).forCall (λ_ _=>0) ⟨#[],args,[]⟩).memory 8 (YtliopiiflebkdaaGreatDoor.Rows.checkLessUptoRow.laid.map (·.1))).map (·.1))=some YtliopiiflebkdaaGreatDoor.Rows.checkLessUptoRow.laid:=by kernel_rfl
theorem aLJ(h:Os)(args:Array Value):((DataW.laidRun prog ((rH h).forCall (λ_ _=>0) ⟨#[],args,[]⟩).memory 8 (YtliopiiflebkdaaGreatDoor.Rows.checkLessUptoRow.laid.map (·.1))).map
  (λx=>laidRowsB prog ((rH h).forCall (λ_ _=>0) ⟨#[],args,[]⟩).memory x.2))=some true:=by kernel_rfl
theorem aLV(h:Os)(args:Array Value):((DataW.laidRun prog ((rH h).forCall (λ_ _=>0) ⟨#[],args,[]⟩).memory 8 (YtliopiiflebkdaaGreatDoor.Rows.checkLessUptoRow.laid.map (·.1))).map (λx=>aBc 0 (x.2.map aHI)))=some true:=by kernel_rfl
theorem aL1(m:Os)(args:Array Value):laidMet prog YtliopiiflebkdaaGreatDoor.Rows.checkLessUptoRow.laid ((rH m).forCall (λ_ _=>0) ⟨#[],args,[]⟩).memory:=by
 refine laidMet_of_run' 8 (aMx m args) ?_;have q:=aLJ m args;have u:=aLV m args;generalize DataW.laidRun prog ((rH m).forCall (λ_ _=>0) ⟨#[],args,[]⟩).memory 8 (YtliopiiflebkdaaGreatDoor.Rows.checkLessUptoRow.laid.map (·.1))=r at q u⊢;cases r with
 | none=>cases q
 | some x =>
  simp only[jM,bI]at q u⊢;have y:x.2.Nodup:=List.Pairwise.of_map aHI (λa b h e=>by rw[e]at h;exact cV h (Nat.lt_irrefl _)) (aGI u).2;rw[q,cZ y];rfl
end Go.AV
