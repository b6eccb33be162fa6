/-
  DefParses: for any string the call returns true (what Parse gives is what the reference gives, with lines and columns, or its first fault); nothing that was there is changed (where the listed package-level variables hold what the text of the program lays).
-/
import Derived.Test.YtamikhobdffnfaaGreatDoorPa33
import Derived.Test.YtamikhobdffnfaaGreatDoorPa34
import Derived.Test.YtamikhobdffnfaaGreatDoorPa35
import Derived.Test.YtamikhobdffnfaaGreatDoorPa36
import Derived.Test.YtamikhobdffnfaaGreatDoorPa37
import Derived.Test.YtamikhobdffnfaaGreatDoorPa12
import Derived.Test.YtamikhobdffnfaaGreatDoorPa13
import Derived.ChangeMaps5
set_option linter.all false
set_option maxRecDepth 99999
set_option maxHeartbeats 0
namespace Go.AV
open Go Go.Proofs Tryz
def zE (f:A→A→Bool):List A→List A→Bool
 | [],[]=>true
 | a::l,b::r=>match f a b with
  | true=>zE f l r
  | false=>false
 | _,_=>false
def eqZ:Nat→A→A→Bool
 | 0,_,_=>false
 | n+1,a,b=>match a with
  | .int k x=>match b with
   | .int j y=>decide (k=j)&&decide (x=y)
   | _=>false
  | .str x=>match b with
   | .str y=>decide (x=y)
   | _=>false
  | .nils=>match b with
   | .nils=>true
   | _=>false
  | .agg l=>match b with
   | .agg r=>zE (eqZ n) l r
   | _=>false
  | .list none l=>match b with
   | .list none r=>zE (eqZ n) l r
   | _=>false
  | _=>false
theorem aB2 {f:A→A→Bool} (hf:∀ a b,f a b=true→a=b):∀ {l r:List A},zE f l r=true→l=r
 | [],[],_=>rfl
 | a::l,b::r,h=>by
  simp only[zE] at h;split at h
  ·rename_i e;rw[hf a b e,aB2 hf h]
  ·cases h
 | [],_::_,h=>by cases h
 | _::_,[],h=>by cases h
theorem aI0:∀ (n:Nat) (a b:A),eqZ n a b=true→a=b
 | 0,_,_,h=>by cases h
 | n+1,a,b,h=>by
  have ih:=aI0 n;unfold eqZ at h;split at h<;>(try (cases h;done))<;>split at h<;>(try (cases h;done))
  ·simp only[bT,eC] at h;rw[h.1,h.2]
  ·rw[zU h]
  ·rfl
  ·rw[aB2 ih h]
  ·rw[aB2 ih h]
theorem aOh {xs:List A} (hx:jA (fE 60) xs=some xs):∀ x,x∈xs→x.lp x:=fun x hx'=>by
 obtain ⟨j,hj,rfl⟩:=iT hx';obtain ⟨y,h1,h2⟩:=(rQ hx).2 j xs[j] (cH hj);rw[cH hj] at h1;cases h1;exact rX 60 _ _ h2
def oH (xs:List A) (r:A) (k:CR) (l:List A) (σ:XS):CR:=match zE (eqZ 60) l xs with
 | true=>.val r σ
 | false=>k
theorem pV {f:FuncId} {xs:List A} {r:A} {k:CR} (hx:jA (fE 60) xs=some xs) (hr:fE 60 r=some r) (h:∀ (s:St) (KV Kp:St→A→Prop),KV s r→Den cx f xs KV Kp s)
  {l:List A} {σ:XS} {s:St} {KV Kp:St→A→Prop} (hs:Sim s σ) (hk:k.to KV Kp→Den fG f l KV Kp s) (hh:(oH xs r k l σ).to KV Kp):Den fG f l KV Kp s:=by
 unfold oH at hh;split at hh
 ·rename_i e;have e':=aB2 (aI0 60) e;subst e';exact aJd (aOh hx) (rX 60 _ _ hr) (fun KV Kp s hk=>h s KV Kp hk) (hh s hs)
 ·exact hk hh
def aRS:aD:=[108,97,110,103,117,97,103,101,32,101,46,32,115,111,114,116]
def aSu:aD:=[108,97,110,103,117,97,103,101,32,101,46,10,115,111,114,116,32,65,32,66,46]
def aRK:aD:=[102,40,88,58,73,110,116,44,32,91,45,49,32,124,32,76,93,41]
def aSk:aD:=[45,32,53]
def aR4:aD:=[108,97,110,103,117,97,103,101,32,101,46,32,115,116,97,114,116,32,65,46,32,115,116,97,114,116,32,66,46]
def aQR (l:List A) (σ:XS):CR:=oH [.str awS] (.tuple [nC.enc,Fault.enc ⟨0,[],0,0⟩]) (oH [.str aRS] (.tuple [eB.enc,Fault.enc ⟨12,[],1,17⟩]) (oH [.str aSu] (.tuple [eB.enc,Fault.enc ⟨11,[66],2,8⟩])
 (oH [.str aR4] (.tuple [eB.enc,Fault.enc ⟨14,[115,116,97,114,116],1,22⟩]) .bad l σ) l σ) l σ) l σ
def aQM (l:List A) (σ:XS):CR:=oH [.str aRK] (.tuple [awT.enc,Fault.enc ⟨0,[],0,0⟩]) (oH [.str aSk] (.tuple [mF.enc,Fault.enc ⟨11,[53],1,3⟩]) .bad l σ) l σ
def aQK (l:List A) (σ:XS):CR:=oH [nC.enc] (.tuple [.str aJE,.int .i64 0]) .bad l σ
def aQp (l:List A) (σ:XS):CR:=oH [nC.enc] (.bool true) .bad l σ
def aRj (l:List A) (σ:XS):CR:=oH [nC.enc,.str [97],.str [98]] (.tuple [.agg awR,.int .i64 0]) (oH [nC.enc,.str [73,110,116],.str [98]] (.tuple [.agg awZ,.int .i64 2]) .bad l σ) l σ
def aQl (l:List A) (σ:XS):CR:=oH [nC.enc,nC.enc] (.bool true) (oH [nC.enc,.agg awR] (.bool false) .bad l σ) l σ
def aCL (f:FuncId):Option (List A→XS→CR):=match Nat.beq f 15 with
 | true=>some aQR
 | false=>match Nat.beq f 18 with
  | true=>some aQM
  | false=>match Nat.beq f 23 with
   | true=>some aQK
   | false=>match Nat.beq f 25 with
    | true=>some aQp
    | false=>match Nat.beq f 27 with
     | true=>some aRj
     | false=>match Nat.beq f 30 with
      | true=>some aQl
      | false=>aAO f
theorem aCl {x:aD} {d:Dfn} {g:Fault} (h:pW x=(d,g)) (hx:x.length≤4294967280) (s:St) (KV Kp:St→A→Prop) (hk:KV s (.tuple [d.enc,g.enc])):Den cx 15 [.str x] KV Kp s :=
 aHo x hx (by rw[h];exact hk)
theorem aJF {x:aD} {d:Tm} {g:Fault} (h:yW x=(d,g)) (hx:x.length≤4294967280) (s:St) (KV Kp:St→A→Prop) (hk:KV s (.tuple [d.enc,g.enc])):Den cx 18 [.str x] KV Kp s :=
 aMM x hx (by rw[h];exact hk)
theorem aO6:yY fG aCL:=by
 intro f h hf l σ s KV Kp hs hh;have bad:(CR.bad).to KV Kp→Den fG f l KV Kp s:=fun h=>h.elim
 unfold aCL at hf;split at hf
 ·rename_i e;obtain rfl:=cC e;cases hf
  exact pV (by kernel_rfl) (by kernel_rfl) (aCl aSi (by decide)) hs (pV (by kernel_rfl) (by kernel_rfl) (aCl aSr (by decide)) hs (pV (by kernel_rfl) (by kernel_rfl) (aCl aRH (by decide)) hs
   (pV (by kernel_rfl) (by kernel_rfl) (aCl aR3 (by decide)) hs bad))) hh
 split at hf
 ·rename_i e;obtain rfl:=cC e;cases hf;exact pV (by kernel_rfl) (by kernel_rfl) (aJF aSd (by decide)) hs (pV (by kernel_rfl) (by kernel_rfl) (aJF aSx (by decide)) hs bad) hh
 split at hf
 ·rename_i e;obtain rfl:=cC e;cases hf;exact pV (by kernel_rfl) (by kernel_rfl) aSc hs bad hh
 split at hf
 ·rename_i e;obtain rfl:=cC e;cases hf;exact pV (by kernel_rfl) (by kernel_rfl) aSz hs bad hh
 split at hf
 ·rename_i e;obtain rfl:=cC e;cases hf;exact pV (by kernel_rfl) (by kernel_rfl) aRO hs (pV (by kernel_rfl) (by kernel_rfl) aQv hs bad) hh
 split at hf
 ·rename_i e;obtain rfl:=cC e;cases hf;exact pV (by kernel_rfl) (by kernel_rfl) aRP hs (pV (by kernel_rfl) (by kernel_rfl) aRg hs bad) hh
 exact aIk f h hf l σ s KV Kp hs hh
theorem aG0 (s:St) (KV Kp:St→A→Prop) (hk:KV s (.bool true)):Den cx 14 [] KV Kp s:=by
 have hX:(lC aCL).ok { cx with det:=true }:=aE7 aO6;exact Den.run (X:=lC aCL) (fuel:=1000000) true hX aAC rfl (by kernel_rfl) hk
section
section
variable {s:St} {KV Kp:St→A→Prop}
theorem aLr (x:aD) (hk:KV s (.bool (decide (3000<x.length)))):Den cx 13 [.str x] KV Kp s:=by
 have d0:decide ((3000:Int)<((x.length:Nat):Int))=decide (3000<x.length):=by congr 1;apply propext;omega
 (refine aZ func13 [0,2] ?_;simp only[go_sem,ntmps13,f13]);simp only[go_sem,d0];exact aO hk
end
end
section
section
variable {s:St} {KV Kp:St→A→Prop}
theorem aML (x:aD) (hx:x.length≤3000):aAD x=pW x:=by
 unfold aAD pW aE3;rw[if_neg (by omega)];cases hl:iH dX true x with
 | bad f=>rfl
 | ok T =>
  obtain ⟨hlen,hW⟩:=aE0 hl;have hfin:(cX x).code≠0:=(show (12:Int)≠0 by decide);have h0:AtI (q0 T) T:=⟨rfl,rfl,rfl⟩;have hs:=aNG (fin:=cX x) hW (by omega) (by omega) hfin h0;simp only;unfold aAL;cases hd:tN false (cX x) T with
  | bad f=>rw[hd] at hs;rw[hs.2,hs.1];rfl
  | ok d w n=>rw[hd] at hs;rw[hs.2.ok,if_pos rfl,hs.1]
theorem aL3 (x:aD) (hk:KV s (.bool true)):Den cx 3 [.str x] KV Kp s:=by
 (refine aZ func3 [0,2,3,4,5,6,8] ?_;simp only[go_sem,ntmps3,Tryz.f3]);refine aLr x ?_;simp only[go_sem];by_cases hx:3000<x.length
 ·have d1:decide (3000<x.length)=true:=fC hx;simp only[go_sem,d1];refine aG0 _ _ _ ?_;simp only[go_sem];exact aO hk
 have d1:decide (3000<x.length)=false:=eL hx;simp only[go_sem,d1];refine aHo x (by omega) ?_;simp only[go_sem];(intro b3 hb3;try simp only[aB,aT,aV,ne_eq] at hb3);simp only[go_sem,hb3];(intro b4 hb4;try simp only[aB,aT,aV,ne_eq] at hb4);simp only[go_sem,hb3,hb4];refine aLv x (by omega) ?_;rw[aML x (by omega)];generalize (pW x).1=D at *;generalize (pW x).2=F at *;simp only[go_sem,hb3,hb4];(intro b5 hb5;try simp only[aB,aT,aV,ne_eq] at hb5);simp only[go_sem,hb3,hb4,hb5];(intro b6 hb6;try simp only[aB,aT,aV,ne_eq] at hb6);simp only[go_sem,hb3,hb4,hb5,hb6];refine aKY D _ _ _ ?_;simp only[go_sem,hb3,hb4,hb5,hb6,List.lookup_cons_self,eq_self,kA,Bool.and_self];refine aG0 _ _ _ ?_;simp only[go_sem,hb3,hb4,hb5,hb6];exact aM hk aL
end
end
end Go.AV
section
open Go.Proofs.Tryz
namespace Go.Proofs.YtamikhobdffnfaaGreatDoor
open Go Go.AV Go.Proofs.Tryz Go.ChangeShapes Go.WideShapes Go.ChangeAt Go.RowKit
open Go.ChangeMaps (open_string shut_string)
theorem own:ownKnob prog.godebug=none:=by kernel_rfl
theorem str_rz {g:Gh} (S:ByteArray):Rz g (.str S.data.toList) (.string S):=by
 have h:=Rz.str (g:=g) S.data.toList;have e:(⟨S.data.toList.toArray⟩:ByteArray)=S:=by cases S;simp
 rw[e] at h;exact h
theorem parses_contract (H:Type) (enc:TypeId × Value→H) (W:World) (base:Nat) (args:Array Value) (ds gs:List (DataW H)) (before:List MemPlace)
  (hval:∀ (j:Nat) t v,Tryz.f3.params[j]?=some t→args[j]?=some v→Value.okWide prog W .any base t v)
  (hW:DataW.Whole enc prog Tryz.f3.params.toList Rows.defParsesSpec.vars false W args.toList ds gs before) (hL:laidMetH prog Rows.defParsesRow.laid W) :
  Calls prog 3 args W fun e W'=>∃ v,e=.returned v∧Rows.defParsesSpec.post enc prog Tryz.f3 false true false false W args v W':=by
 have hW':=hW;obtain ⟨p,q,hA0,hV,rfl,hfz,hnd⟩:=hW;have hA:DataW.TrodAll enc prog W 0 (fun _=>true) true Tryz.f3.params.toList args.toList ds p:=hA0;rw[params3] at hA hval;obtain ⟨v0,d0,rfl,rfl,h0⟩:=trodAll_one hA;obtain ⟨rfl,rfl⟩:=trodVars_none hV;obtain ⟨S,rfl,rfl,rfl,hS⟩:=open_string underlying9 (hval 0 9 v0 rfl rfl) h0;clear hA0;simp only[wZ] at hW'
 have hc:=aLW (f:=3) (args:=[.str S.data.toList]) (vals:=[.string S]) (W:=W) (p:=fun _=>none) (l:=Rows.defParsesRow.laid) func3 rfl rfl hL
  (.tail _ (.tail _ (.tail _ (.tail _ (.tail _ (.tail _ (.tail _ (.head _)))))))) (.tail _ (.tail _ (.head _))) (fun b pre h=>by cases h)
  (.cons (str_rz S) (.nil _)) (aL3 _ rfl)
 refine hc.mono fun e W' ⟨he,hos,hout,hb⟩=>?_
 subst he;have e1:Rows.defParsesSpec.fn H ([DataW.lit (.string S.data.toList)]++[])={ results:=[.lit (.bool true)],args:=[.lit (.string S.data.toList)] }:=rfl;refine ⟨_,rfl,_,_,_,[],[],[],hW',?_,?_,?_,aOr hos hout hb,fun h=>by cases h⟩
 ·rw[e1];exact trodAll_mk1 (shut_bool underlying4 true)
 ·rw[e1];exact trodAll_mk1 (shut_string underlying9 hS)
 ·rw[e1];rfl
theorem parses_reads (os:Os) {H:Type} (enc:TypeId × Value→H) :
  ∃ places,DataW.whole enc prog ((uF os).forCall (fun _ _=>0) ⟨#[],#[.string ⟨#[]⟩],[]⟩).memory Tryz.f3.params.toList (OpenSpec.ofChange Rows.defParsesSpec).vars false #[Value.string ⟨#[]⟩].toList 8 =
   some ([.lit (.string [])],[],places) :=
 ⟨[],by kernel_rfl⟩
theorem parses_lifted (os:Os) (started:os.Started) (H:Type) (enc:TypeId × Value→H) (F:Stop.Interp) :
  ReturnsInHanded {} checked os 3 .any ((OpenSpec.ofChange Rows.defParsesSpec).preRow enc prog Tryz.f3 Rows.defParsesRow.domain false Rows.defParsesRow.laid) (((OpenSpec.ofChange Rows.defParsesSpec).at F).post enc prog Tryz.f3 false true false false):=by
 obtain ⟨places,hx⟩:=parses_reads os enc
 refine returnsInHanded_of_row (C:=checked) (s:=OpenSpec.ofChange Rows.defParsesSpec) own started (by kernel_rfl) func3
  (witness_row_atRef (enc := enc) (C := checked) false (uF os) #[.string ⟨#[]⟩] rfl (by kernel_rfl) (by kernel_rfl) (by kernel_rfl)
   (OpenSpec.preRow_of_cond 8 hx (by kernel_rfl) (fun k hk=>by cases hk) (by kernel_rfl) (aNT os _))) ?_
 intro W base args ds gs before hval hW _ _ _ hL _ _;exact parses_contract H enc W base args ds gs before hval hW hL
theorem parses_said:Rows.DefParsesSaid :=
 OpenClaim.holds_of_cond 3 Tryz.f3 rfl rfl rfl rfl rfl rfl rfl ⟨rfl,rfl,rfl,rfl,rfl⟩ rfl rfl rfl rfl rfl parses_named func3 parses_closed
  (zU (by kernel_rfl)) (by unfold Func.isWrapper;rw[if_neg (of_decide_eq_false (by kernel_rfl))];exact ⟨rfl,rfl⟩)
  (fun os started H enc _ F=>by rw[OpenClaim.pre_eq_preRow];exact parses_lifted os started H enc F)
theorem parses_plain (f:FuncId) (fn:Func) (hf:Tryz.pinned.checked.prog.funcNamed Rows.defParsesRow.func=some f) (hfn:Tryz.pinned.checked.prog.funcs[f]?=some fn) :
  true=Tryz.pinned.checked.prog.looks []∧∀ (j:Nat) t,fn.params[j]?=some t→Tryz.pinned.checked.prog.wantsStandIn t=false:=by
 obtain rfl:f=3:=sM (parses_named.symm.trans hf) |>.symm
 obtain rfl:fn=Tryz.f3:=(sM (func3.symm.trans hfn)).symm;refine ⟨parses_looks,fun j t ht=>?_⟩;rw[params3] at ht;obtain rfl:t=9:=by simpa using Array.mem_of_getElem? ht
 exact (show prog.wantsStandIn 9=false by kernel_rfl)
theorem defParses_holds:Rows.DefParsesCardSaid :=
 Claim7.holds_tied_plain_at .later [] _ _ _ _ parses_said (fun _ h=>by cases h) parses_wf (fun _ h=>by cases h) defParses_row_tie rfl ⟨rfl,rfl⟩ parses_main rfl parses_plain parses_goes
#print axioms defParses_holds
end Go.Proofs.YtamikhobdffnfaaGreatDoor
end
