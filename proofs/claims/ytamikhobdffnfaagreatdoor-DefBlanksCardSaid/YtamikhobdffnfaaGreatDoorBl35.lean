/-
  DefBlanks: for all strings s and all numbers kind the call returns true; the arguments read as before, memory that was there is as it was (where the listed package-level variables hold what the text of the program lays).
-/
import Derived.Test.YtamikhobdffnfaaGreatDoorBl29
import Derived.Test.YtamikhobdffnfaaGreatDoorBl30
import Derived.Test.YtamikhobdffnfaaGreatDoorBl31
import Derived.Test.YtamikhobdffnfaaGreatDoorBl32
import Derived.Test.YtamikhobdffnfaaGreatDoorBl33
import Derived.Test.YtamikhobdffnfaaGreatDoorBl34
import Derived.Test.YtamikhobdffnfaaGreatDoorBl27
import Derived.Test.YtamikhobdffnfaaGreatDoorBl21
import Derived.Test.YtamikhobdffnfaaGreatDoorBl26
import Derived.Test.YtamikhobdffnfaaGreatDoorBl22
import Derived.Test.YtamikhobdffnfaaGreatDoorBl28
import Derived.Test.YtamikhobdffnfaaGreatDoorBl16
import Derived.Test.YtamikhobdffnfaaGreatDoorBl13
import Derived.Test.YtamikhobdffnfaaGreatDoorBl14
import Derived.ChangeMaps5
set_option linter.all false
set_option maxRecDepth 1000000
set_option maxHeartbeats 40000000
section
namespace Go.AV
open Go Go.Proofs
def eqZL (f:A→A→Bool):List A→List A→Bool
 | [],[]=>true
 | a::l,b::r=>match f a b with
  | true=>eqZL f l r
  | false=>false
 | _,_=>false
def eqZ:Nat→A→A→Bool
 | 0,_,_=>false
 | n+1,a,b=>match a with
  | .int k x=>match b with
   | .int j y=>decide (k=j)&&decide (x=y)
   | _=>false
  | .str x=>match b with
   | .str y=>decide (x=y)
   | _=>false
  | .nils=>match b with
   | .nils=>true
   | _=>false
  | .agg l=>match b with
   | .agg r=>eqZL (eqZ n) l r
   | _=>false
  | .list none l=>match b with
   | .list none r=>eqZL (eqZ n) l r
   | _=>false
  | _=>false
theorem eqZL_ok {f:A→A→Bool} (hf:∀ a b,f a b=true→a=b):∀ {l r:List A},eqZL f l r=true→l=r
 | [],[],_=>rfl
 | a::l,b::r,h=>by
  simp only[eqZL] at h;split at h
  ·rename_i e;rw[hf a b e,eqZL_ok hf h]
  ·cases h
 | [],_::_,h=>by cases h
 | _::_,[],h=>by cases h
theorem eqZ_ok:∀ (n:Nat) (a b:A),eqZ n a b=true→a=b
 | 0,_,_,h=>by cases h
 | n+1,a,b,h=>by
  have ih:=eqZ_ok n;unfold eqZ at h;split at h<;>(try (cases h;done))<;>split at h<;>(try (cases h;done))
  ·simp only[gD5,decide_eq_true_eq] at h;rw[h.1,h.2]
  ·rw[of_decide_eq_true h]
  ·rfl
  ·rw[eqZL_ok ih h]
  ·rw[eqZL_ok ih h]
theorem frzL_lq {xs:List A} (hx:frzL (frz 60) xs=some xs):∀ x,x∈xs→x.lp x:=fun x hx'=>by
 obtain ⟨j,hj,rfl⟩:=List.getElem_of_mem hx';obtain ⟨y,h1,h2⟩:=(frzL_get hx).2 j xs[j] (List.getElem?_eq_getElem hj);rw[List.getElem?_eq_getElem hj] at h1;cases h1;exact frz_ok 60 _ _ h2
def extK (xs:List A) (r:A) (k:CR) (l:List A) (σ:XS):CR:=match eqZL (eqZ 60) l xs with
 | true=>.val r σ
 | false=>k
theorem extK_ok {f:FuncId} {xs:List A} {r:A} {k:CR} (hx:frzL (frz 60) xs=some xs) (hr:frz 60 r=some r) (h:∀ (s:St) (KV Kp:St→A→Prop),KV s r→Den cx f xs KV Kp s)
  {l:List A} {σ:XS} {s:St} {KV Kp:St→A→Prop} (hs:Sim s σ) (hk:k.to KV Kp→Den cxd f l KV Kp s) (hh:(extK xs r k l σ).to KV Kp):Den cxd f l KV Kp s:=by
 unfold extK at hh;split at hh
 ·rename_i e;have e':=eqZL_ok (eqZ_ok 60) e;subst e';exact to_cxd (frzL_lq hx) (frz_ok 60 _ _ hr) (fun KV Kp s hk=>h s KV Kp hk) (hh s hs)
 ·exact hk hh
def awS2:Str:=[108,97,110,103,117,97,103,101,32,101,46,32,115,111,114,116]
def awS3:Str:=[108,97,110,103,117,97,103,101,32,101,46,10,115,111,114,116,32,65,32,66,46]
def awS4:Str:=[102,40,88,58,73,110,116,44,32,91,45,49,32,124,32,76,93,41]
def awS5:Str:=[45,32,53]
def awS6:Str:=[108,97,110,103,117,97,103,101,32,101,46,32,115,116,97,114,116,32,65,46,32,115,116,97,114,116,32,66,46]
def ans15 (l:List A) (σ:XS):CR:=extK [.str awS] (.tuple [awD.enc,Fault.enc ⟨0,[],0,0⟩]) (extK [.str awS2] (.tuple [noDfn.enc,Fault.enc ⟨12,[],1,17⟩]) (extK [.str awS3] (.tuple [noDfn.enc,Fault.enc ⟨11,[66],2,8⟩])
 (extK [.str awS6] (.tuple [noDfn.enc,Fault.enc ⟨14,[115,116,97,114,116],1,22⟩]) .bad l σ) l σ) l σ) l σ
def ans18 (l:List A) (σ:XS):CR:=extK [.str awS4] (.tuple [awT.enc,Fault.enc ⟨0,[],0,0⟩]) (extK [.str awS5] (.tuple [noTm.enc,Fault.enc ⟨11,[53],1,3⟩]) .bad l σ) l σ
def ans23 (l:List A) (σ:XS):CR:=extK [awD.enc] (.tuple [.str awOut,.int .i64 0]) .bad l σ
def ans25 (l:List A) (σ:XS):CR:=extK [awD.enc] (.bool true) .bad l σ
def ans27 (l:List A) (σ:XS):CR:=extK [awD.enc,.str [97],.str [98]] (.tuple [.agg awR,.int .i64 0]) (extK [awD.enc,.str [73,110,116],.str [98]] (.tuple [.agg awZ,.int .i64 2]) .bad l σ) l σ
def ans30 (l:List A) (σ:XS):CR:=extK [awD.enc,awD.enc] (.bool true) (extK [awD.enc,.agg awR] (.bool false) .bad l σ) l σ
def extA (f:FuncId):Option (List A→XS→CR):=match Nat.beq f 15 with
 | true=>some ans15
 | false=>match Nat.beq f 18 with
  | true=>some ans18
  | false=>match Nat.beq f 23 with
   | true=>some ans23
   | false=>match Nat.beq f 25 with
    | true=>some ans25
    | false=>match Nat.beq f 27 with
     | true=>some ans27
     | false=>match Nat.beq f 30 with
      | true=>some ans30
      | false=>extC f
theorem parseK {x:Str} {d:Dfn} {g:Fault} (h:parseS x=(d,g)) (hx:x.length≤4294967280) (s:St) (KV Kp:St→A→Prop) (hk:KV s (.tuple [d.enc,g.enc])):Den cx 15 [.str x] KV Kp s :=
 parse_den x hx (by rw[h];exact hk)
theorem termK {x:Str} {d:Tm} {g:Fault} (h:termS x=(d,g)) (hx:x.length≤4294967280) (s:St) (KV Kp:St→A→Prop) (hk:KV s (.tuple [d.enc,g.enc])):Den cx 18 [.str x] KV Kp s :=
 tterm_den x hx (by rw[h];exact hk)
theorem extA_ok:extOk cxd extA:=by
 intro f h hf l σ s KV Kp hs hh;have bad:(CR.bad).to KV Kp→Den cxd f l KV Kp s:=fun h=>h.elim
 unfold extA at hf;split at hf
 ·rename_i e;obtain rfl:=gC7 e;cases hf
  exact extK_ok (by kernel_rfl) (by kernel_rfl) (parseK aw_1 (by decide)) hs (extK_ok (by kernel_rfl) (by kernel_rfl) (parseK aw_2 (by decide)) hs (extK_ok (by kernel_rfl) (by kernel_rfl) (parseK aw_3 (by decide)) hs
   (extK_ok (by kernel_rfl) (by kernel_rfl) (parseK aw_6 (by decide)) hs bad))) hh
 split at hf
 ·rename_i e;obtain rfl:=gC7 e;cases hf;exact extK_ok (by kernel_rfl) (by kernel_rfl) (termK aw_4 (by decide)) hs (extK_ok (by kernel_rfl) (by kernel_rfl) (termK aw_5 (by decide)) hs bad) hh
 split at hf
 ·rename_i e;obtain rfl:=gC7 e;cases hf;exact extK_ok (by kernel_rfl) (by kernel_rfl) aw23 hs bad hh
 split at hf
 ·rename_i e;obtain rfl:=gC7 e;cases hf;exact extK_ok (by kernel_rfl) (by kernel_rfl) aw25 hs bad hh
 split at hf
 ·rename_i e;obtain rfl:=gC7 e;cases hf;exact extK_ok (by kernel_rfl) (by kernel_rfl) aw27 hs (extK_ok (by kernel_rfl) (by kernel_rfl) aw27z hs bad) hh
 split at hf
 ·rename_i e;obtain rfl:=gC7 e;cases hf;exact extK_ok (by kernel_rfl) (by kernel_rfl) aw30 hs (extK_ok (by kernel_rfl) (by kernel_rfl) aw30r hs bad) hh
 exact extC_ok f h hf l σ s KV Kp hs hh
theorem awake_den (s:St) (KV Kp:St→A→Prop) (hk:KV s (.bool true)):Den cx 14 [] KV Kp s:=by
 have hX:(xpS extA).ok { cx with det:=true }:=xpS_ok extA_ok;exact Den.run (X:=xpS extA) (fuel:=1000000) true hX glS_lp rfl (by kernel_rfl) hk
end Go.AV
end
section
namespace Go.AV
open Go Go.Proofs
section
variable {s:St} {KV Kp:St→A→Prop}
theorem long13_den (x:Str) (hk:KV s (.bool (decide (3000<x.length)))):Den cx 13 [.str x] KV Kp s:=by
 have d0:decide ((3000:Int)<((x.length:Nat):Int))=decide (3000<x.length):=by congr 1;apply propext;omega
 refine Den.drop ?_;(refine Den.of_body (C:=cx) Tryz.func13 rfl rfl (gC6 rfl) ?_;refine wpC_ok (V:=[0,2]) _ _ _ _ ?_;simp only[go_sem,Tryz.ntmps13,Tryz.f13]);simp only[go_sem,d0];exact DK.here hk
end
end Go.AV
end
section
namespace Go.AV
open Go Go.Proofs
def rqC {T:List Tok} (ln cl:Int) (q:RQ T) (d:Dc):List A:=.list none (T.map Tok.enc)::.int .i64 q.at_::.int .i64 ln::.int .i64 cl::(q.f.cs++(.int .i64 q.first::.int .i64 q.nodes::.bool q.over::d.cs))
def rqO {T:List Tok} (ln cl:Int) (q:RQ T) (d:Dc):Ob:=.cells 95 (rqC ln cl q d)
attribute [go_sem] rqC rqO
theorem RQ.get {T:List Tok} {q:RQ T} (h:q.at_<T.length):T[q.at_]?=some q.tok:=by
 unfold RQ.tok;rw[List.getElem?_eq_getElem h];rfl
theorem RQ.mem {T:List Tok} {q:RQ T} (h:q.at_<T.length):q.tok∈T:=List.mem_of_getElem? (RQ.get h)
theorem decDigits_big {u:Nat} (h:¬ u<10):Lib.decDigits u=Lib.decDigits (u / 10)++Lib.decDigits (u % 10):=by
 rw[Lib.decDigits,dif_neg h];congr 1;rw[Lib.decDigits,dif_pos (Nat.mod_lt _ (by omega))]
theorem digit_take (n:Nat) (h:n<10):List.take 1 (List.drop n ([48,49,50,51,52,53,54,55,56,57]:List UInt8))=[UInt8.ofNat (48+n)]:=by
 match n,h with
 | 0,_|1,_|2,_|3,_|4,_|5,_|6,_|7,_|8,_|9,_=>rfl
theorem decDigits_len:∀ (k u:Nat),u<10 ^ (k+1)→(Lib.decDigits u).length≤k+1
 | 0,u,h=>by rw[Lib.decDigits,dif_pos (by simpa using h)];simp
 | k+1,u,h=>by
  by_cases h1:u<10
  ·rw[Lib.decDigits,dif_pos h1];simp
  ·rw[Lib.decDigits,dif_neg h1,gC2,List.length_singleton];have:=decDigits_len k (u / 10) (by rw[Nat.pow_succ] at h;omega);omega
theorem p19:(10:Nat) ^ (18+1)=10000000000000000000:=by decide
theorem number77_pos (m:Nat):∀ (n:Nat) (s:St) (KV Kp:St→A→Prop),n≤m→(n:Int)≤9223372036854775807→KV s (.str (Lib.decDigits n))→Den cx 77 [.int .i64 (n:Int)] KV Kp s:=by
 induction m using Nat.strongRecOn with
 | _ m ih =>
  intro n s KV Kp hm hn hk;have d1:decide ((n:Int)≤-10)=false:=by rw[decide_eq_false_iff_not];omega
  have d2:decide ((n:Int)<0)=false:=by rw[decide_eq_false_iff_not];omega
  refine Den.drop ?_;(refine Den.of_body (C:=cx) Tryz.func77 rfl rfl (gC6 rfl) ?_;refine wpC_ok (V:=[0,2,4,14,20]) _ _ _ _ ?_;simp only[go_sem,Tryz.ntmps77,Tryz.f77]);simp only[go_sem,d1,d2];cases c:decide ((n:Int)<10) with
  | true =>
   have hlt:n<10:=by simp at c;omega
   simp only[go_sem,d1,d2,c];rw[wrap1 n (by omega)];refine ⟨by omega,?_⟩;rw[show (((n+1:Nat):Int).toNat-n)=1 by omega]
   have e:List.take 1 (List.drop n ([48,49,50,51,52,53,54,55,56,57]:List UInt8))=Lib.decDigits n:=by
    rw[Lib.decDigits,dif_pos hlt];exact digit_take n hlt
   rw[e];exact DK.here hk
  | false =>
   have hge:¬ n<10:=by simp at c;omega
   have e1:IntKind.i64.wrap ((n:Int).tdiv 10)=((n / 10:Nat):Int):=by
    rw[show (n:Int).tdiv 10=((n / 10:Nat):Int) from rfl,wrap_in _ (by omega) (by omega)]
   have e2:IntKind.i64.wrap ((n:Int).tmod 10)=((n % 10:Nat):Int):=by
    rw[show (n:Int).tmod 10=((n % 10:Nat):Int) from rfl,wrap_in _ (by omega) (by omega)]
   have d10:((10:Int)=0)=False:=by simp
   simp only[go_sem,d1,d2,c,d10,e1,e2];refine ih (n / 10) (by omega) (n / 10) _ _ _ (Nat.le_refl _) (by omega) ?_;simp only[go_sem,d1,d2,c,d10,e1,e2];refine ih (n % 10) (by omega) (n % 10) _ _ _ (Nat.le_refl _) (by omega) ?_;simp only[go_sem,d1,d2,c,d10,e1,e2];have l1:=decDigits_len 18 (n / 10) (by rw[p19];omega);have l2:=decDigits_len 18 (n % 10) (by rw[p19];omega);refine ⟨by unfold maxLen;omega,?_⟩;rw[← decDigits_big hge];exact DK.here hk
theorem number77_den (n:Int) (s:St) (KV Kp:St→A→Prop) (h1:-9223372036854775808≤n) (h2:n≤9223372036854775807) (hk:KV s (.str (Lib.itoa n))):Den cx 77 [.int .i64 n] KV Kp s:=by
 by_cases hn:0≤n
 ·obtain ⟨m,rfl⟩:=Int.eq_ofNat_of_zero_le hn;refine number77_pos m m _ _ _ (Nat.le_refl _) h2 ?_;unfold Lib.itoa at hk;rw[if_neg (by omega)] at hk;exact hk
 ·have neg:∀ (m:Nat) (j:Int) (s:St) (KV Kp:St→A→Prop),j.natAbs≤m→-9223372036854775808≤j→j<0→KV s (.str (45::Lib.decDigits j.natAbs))→Den cx 77 [.int .i64 j] KV Kp s:=by
   intro m
   induction m with
   | zero=>intro j s KV Kp h _ h2;omega
   | succ m ih =>
    intro j s KV Kp hm hj1 hj2 hk;by_cases hb:j≤-10
    ·have d1:decide (j≤-10)=true:=by rw[decide_eq_true_iff];exact hb
     have d10:((10:Int)=0)=False:=by simp
     have q1:j.tdiv 10=-((j.natAbs / 10:Nat):Int):=by
      have:j=-((j.natAbs:Nat):Int):=by omega
      rw[this,Int.neg_tdiv];simp only[Int.natAbs_neg,Int.natAbs_natCast];rfl
     have q2:j.tmod 10=-((j.natAbs % 10:Nat):Int):=by
      have:j=-((j.natAbs:Nat):Int):=by omega
      rw[this,Int.neg_tmod];simp only[Int.natAbs_neg,Int.natAbs_natCast];rfl
     have e1:IntKind.i64.wrap (j.tdiv 10)=-((j.natAbs / 10:Nat):Int):=by rw[q1,wrap_in _ (by omega) (by omega)]
     have e2:IntKind.i64.wrap (j.tmod 10)=-((j.natAbs % 10:Nat):Int):=by rw[q2,wrap_in _ (by omega) (by omega)]
     have e3:IntKind.i64.wrap (0 - -((j.natAbs % 10:Nat):Int))=((j.natAbs % 10:Nat):Int):=by rw[wrap_in _ (by omega) (by omega)];omega
     refine Den.drop ?_;(refine Den.of_body (C:=cx) Tryz.func77 rfl rfl (gC6 rfl) ?_;refine wpC_ok (V:=[0,2,4,14,20]) _ _ _ _ ?_;simp only[go_sem,Tryz.ntmps77,Tryz.f77]);simp only[go_sem,d1,d10,e1];refine ih _ _ _ _ (by omega) (by omega) (by omega) ?_;simp only[go_sem,d1,d10,e1,e2,e3,q2];refine number77_pos _ (j.natAbs % 10) _ _ _ (Nat.le_refl _) (by omega) ?_;simp only[go_sem,d1,d10,e1,e2,e3,q2];have l1:=decDigits_len 18 (j.natAbs / 10) (by rw[p19];omega);have l2:=decDigits_len 18 (j.natAbs % 10) (by rw[p19];omega);have e4:(-((j.natAbs / 10:Nat):Int)).natAbs=j.natAbs / 10:=by omega
     rw[e4];refine ⟨by unfold maxLen;omega,?_⟩;rw[← decDigits_big (by omega)];exact DK.here hk
    ·have d1:decide (j≤-10)=false:=by rw[decide_eq_false_iff_not];omega
     have d2:decide (j<0)=true:=by rw[decide_eq_true_iff];omega
     have e1:IntKind.i64.wrap (0-j)=((j.natAbs:Nat):Int):=by rw[wrap_in _ (by omega) (by omega)];omega
     refine Den.drop ?_;(refine Den.of_body (C:=cx) Tryz.func77 rfl rfl (gC6 rfl) ?_;refine wpC_ok (V:=[0,2,4,14,20]) _ _ _ _ ?_;simp only[go_sem,Tryz.ntmps77,Tryz.f77]);simp only[go_sem,d1,d2,e1];refine number77_pos _ j.natAbs _ _ _ (Nat.le_refl _) (by omega) ?_;simp only[go_sem,d1,d2,e1];have l1:=decDigits_len 18 j.natAbs (by rw[p19];omega);refine ⟨by unfold maxLen;omega,?_⟩;exact DK.here hk
  refine neg _ n _ _ _ (Nat.le_refl _) h1 (by omega) ?_;unfold Lib.itoa at hk;rw[if_pos (by omega)] at hk;exact hk
end Go.AV
end
section
namespace Go.AV
open Go Go.Proofs
section
variable {s:St} {KV Kp:St→A→Prop}
theorem word32_den (t:Tok) (h1:-9223372036854775808≤t.n) (h2:t.n≤9223372036854775807) (h3:t.text.length≤4294967296) (hk:KV s (.str t.word)):Den cx 32 [.agg t.cs] KV Kp s:=by
 unfold Tok.word at hk;simp only[go_sem];refine Den.drop ?_;(refine Den.of_body (C:=cx) Tryz.func32 rfl rfl (gC6 rfl) ?_;refine wpC_ok (V:=[0,1,2,4,5,10]) _ _ _ _ ?_;simp only[go_sem,Tryz.ntmps32,Tryz.f32]);(intro p hp;try simp only[gD6,ne_eq] at hp);simp only[go_sem,hp]
 (first|refine gC8 (fun h=>?_) (fun h=>?_)|refine gC9 (fun h=>?_) (fun h=>?_)|refine gD1 (fun h=>?_) (fun h=>?_))<;>simp only[go_sem,h,hp]
 ·have e:t.kind=2:=by simpa using h
  rw[if_pos e] at hk;refine number77_den t.n _ _ _ h1 h2 ?_;simp only[go_sem,hp];exact DK.st hk (by (repeat (first|exact St.ge.refl _|refine St.ge_set (by simp only[hp]) ?_)))
 have e:¬ t.kind=2:=by simpa using h
 rw[if_neg e] at hk
 (first|refine gC8 (fun h=>?_) (fun h=>?_)|refine gC9 (fun h=>?_) (fun h=>?_)|refine gD1 (fun h=>?_) (fun h=>?_))<;>simp only[go_sem,h,hp]
 ·have e3:t.kind=3:=by simpa using h
  rw[if_pos e3] at hk;exact ⟨by unfold maxLen;omega,by unfold maxLen;omega,DK.st hk (by (repeat (first|exact St.ge.refl _|refine St.ge_set (by simp only[hp]) ?_)))⟩
 have e3:¬ t.kind=3:=by simpa using h
 rw[if_neg e3] at hk;exact DK.st hk (by (repeat (first|exact St.ge.refl _|refine St.ge_set (by simp only[hp]) ?_)))
theorem defBlanks_den (x:Str) (k:Int) (k0:0≤k) (k1:k≤255) (hk:KV s (.bool true)):Den cx 9 [.str x,.int .u8 k] KV Kp s:=by
 refine Den.drop ?_;(refine Den.of_body (C:=cx) Tryz.func9 rfl rfl (gC6 rfl) ?_;refine wpC_ok (V:=[0,1,4,5,6,7,8,9,10,11,12,13,14,16,35,43,44,45,46,77]) _ _ _ _ ?_;simp only[go_sem,Tryz.ntmps9,Tryz.f9]);refine long13_den x ?_;simp only[go_sem];by_cases hx:3000<x.length
 ·have d1:decide (3000<x.length)=true:=decide_eq_true hx;simp only[go_sem,d1];refine awake_den _ _ _ ?_;simp only[go_sem];exact DK.here hk
 have d1:decide (3000<x.length)=false:=decide_eq_false hx;simp only[go_sem,d1];refine parse_den x (by omega) ?_;have hlaw:∀ m,m∈mores→∀ T,lexS signsW true x=.ok T→(parseS x).2.code=0→_:=fun m hm T hT h0=>blanks_law (m:=m) (T:=T) (by omega) hT h0 hm
 generalize (parseS x).1=D1 at hlaw ⊢;generalize (parseS x).2=F at hlaw ⊢;simp only[go_sem];(intro b5 hb5;try simp only[gA5,gA6,gD6,ne_eq] at hb5);simp only[go_sem,hb5];(intro b6 hb6;try simp only[gA5,gA6,gD6,ne_eq] at hb6);simp only[go_sem,hb5,hb6];refine def31_den x (by omega) ?_;unfold Lx.ref;rw[if_neg (by omega)];cases hl:lexS signsW true x with
 | bad f =>
  have hf:decide (f.code=0)=false:=decide_eq_false (by rw[lexA_bad _ _ _ _ _ _ _ hl];decide);simp only[Lx.out];simp only[go_sem,hb5,hb6];(intro b8 hb8;try simp only[gA5,gA6,gD6,ne_eq] at hb8);simp only[go_sem,hb5,hb6,hb8];cases c0:decide (F.code=0) with
  | false =>
   simp only[go_sem,hb5,hb6,hb8,c0];refine awake_den _ _ _ ?_;simp only[go_sem,hb5,hb6,hb8];exact DK.st hk (by (refine gel_ge ?_;repeat (first|exact gel_refl _ _ _|refine gel_gs_gs ?_|refine gel_to_gs gs_self ?_|refine gB1 ?_|refine gB2 ?_|refine gel_set (by simp only[gA1,gA2,gA3,gA6,ne_eq,gA9,reduceIte,hb5,hb6,hb8]<;>(first|done|rfl|assumption)) ?_|refine gB3 ?_|refine gel_new (by first|simp only[hb5,hb6,hb8]|assumption) ?_)))
  | true =>
   simp only[go_sem,hb5,hb6,hb8,c0,hf];refine awake_den _ _ _ ?_;simp only[go_sem,hb5,hb6,hb8];exact DK.st hk (by (refine gel_ge ?_;repeat (first|exact gel_refl _ _ _|refine gel_gs_gs ?_|refine gel_to_gs gs_self ?_|refine gB1 ?_|refine gB2 ?_|refine gel_set (by simp only[gA1,gA2,gA3,gA6,ne_eq,gA9,reduceIte,hb5,hb6,hb8]<;>(first|done|rfl|assumption)) ?_|refine gB3 ?_|refine gel_new (by first|simp only[hb5,hb6,hb8]|assumption) ?_)))
 | ok T =>
  have gn:decide (Fault.none.code=0)=true:=rfl;simp only[Lx.out];simp only[go_sem,hb5,hb6];(intro b8 hb8;try simp only[gA5,gA6,gD6,ne_eq] at hb8);simp only[go_sem,hb5,hb6,hb8];cases c0:decide (F.code=0) with
  | false =>
   simp only[go_sem,hb5,hb6,hb8,c0];refine awake_den _ _ _ ?_;simp only[go_sem,hb5,hb6,hb8];exact DK.st hk (by (refine gel_ge ?_;repeat (first|exact gel_refl _ _ _|refine gel_gs_gs ?_|refine gel_to_gs gs_self ?_|refine gB1 ?_|refine gB2 ?_|refine gel_set (by simp only[gA1,gA2,gA3,gA6,ne_eq,gA9,reduceIte,hb5,hb6,hb8]<;>(first|done|rfl|assumption)) ?_|refine gB3 ?_|refine gel_new (by first|simp only[hb5,hb6,hb8]|assumption) ?_)))
  | true =>
   have h5:((5:Int)=0)=False:=by decide
   obtain ⟨j,hj,ej⟩:∃ j:Nat,j<5∧k.tmod 5=(j:Int):=⟨(k % 5).toNat,by omega,by rw[Int.tmod_eq_emod_of_nonneg k0];omega⟩
   obtain ⟨m,hm,hml,hes⟩:∃ m,m∈mores∧m.length≤6∧([A.str [32],A.str [10],A.str [9],A.str [32,47,47,32,120,10],A.str [13,10]])[j]?=some (.str m):=by
    have:j=0∨j=1∨j=2∨j=3∨j=4:=by omega
    rcases this with rfl|rfl|rfl|rfl|rfl
    all_goals exact ⟨_,by simp only[mores,gC5,true_or,or_true],by decide,rfl⟩
   have hj0:(0:Int)≤(j:Int):=Int.natCast_nonneg _;simp only[go_sem,hb5,hb6,hb8,c0,gn,h5,ej,hj0,Int.toNat_natCast,hj,hes];have hlaw:=hlaw m hm T hl (of_decide_eq_true c0);have htl:=text_len (by omega) hl hml;have hT:=lexS_w hl;have hG:=lexS_g hl;have hlw:Rlz (.list none (T.map Tok.enc))∨True:=.inr trivial;clear hes ej hj0 hj h5
   refine Ex.loop (ι:=Str × Nat) (fun c=>[(5,.ptr b5 0),(7,.list none (T.map Tok.enc)),(9,.str m),(10,.str c.1),(43,.list none (T.map Tok.enc)),(44,.int .i64 T.length),(45,.int .i64 (c.2:Nat))]) (fun _=>s.setO b5 (.cells 33 D1.cs))
    (fun c=>c.2≤T.length∧c.1++respell m (T.drop c.2)=m++respell m T) (fun c=>T.length-c.2) (m,0) ⟨Nat.zero_le _,by rw[List.drop_zero]⟩ ?_ (by exact (by (refine gel_ge ?_;repeat (first|exact gel_refl _ _ _|refine gel_gs_gs ?_|refine gel_to_gs gs_self ?_|refine gB1 ?_|refine gB2 ?_|refine gel_set (by simp only[gA1,gA2,gA3,gA6,ne_eq,gA9,reduceIte,hb5,hb6,hb8]<;>(first|done|rfl|assumption)) ?_|refine gB3 ?_|refine gel_new (by first|simp only[hb5,hb6,hb8]|assumption) ?_)))) ?_
   ·(simp only[go_sem,hb5,hb6,hb8];first|done|exact rfl|exact ⟨rfl,rfl⟩)
   ·rintro ⟨tc,i⟩ ⟨hi,htc⟩;simp only at hi htc;refine wpC_ok (V:=[0,1,4,5,6,7,8,9,10,11,12,13,14,16,35,43,44,45,46,77]) _ _ _ _ ?_;simp only[go_sem,hb5]
    (first|refine gC8 (fun h=>?_) (fun h=>?_)|refine gC9 (fun h=>?_) (fun h=>?_)|refine gD1 (fun h=>?_) (fun h=>?_))<;>simp only[go_sem,h,hb5]
    ·have hix:i<T.length:=by simpa using h
     clear h;obtain ⟨t,ht⟩:∃ a,T[i]?=some a:=⟨_,List.getElem?_eq_getElem hix⟩
     have htm:=List.mem_of_getElem? ht;have hdr:T.drop i=t::T.drop (i+1):=by rw[List.drop_eq_getElem_cons hix,(List.getElem?_eq_some_iff.1 ht).2]
     have hTn:=(hT.2 t htm).num;have hTx:=(hT.2 t htm).txt;rw[hdr,respell] at htc
     have hlen:tc.length+(t.word.length+((if glue t (T.drop (i+1))=true then ([]:Str) else 32::m).length+(respell m (T.drop (i+1))).length))≤10000000:=by
      rw[← htc] at htl;simpa only[gC2] using htl
     simp only[go_sem,hb5,ht,hix];(intro b12 hb12;try simp only[gA5,gA6,gD6,ne_eq] at hb12);simp only[go_sem,hb5,ht,hix,hb12];refine word32_den t (by omega) (by omega) (by omega) ?_;simp only[go_sem,hb5,ht,hix,hb12];refine ⟨by unfold maxLen;omega,?_⟩;have hTl:T.length≤3001:=by omega
     (first|refine gC8 (fun h=>?_) (fun h=>?_)|refine gC9 (fun h=>?_) (fun h=>?_)|refine gD1 (fun h=>?_) (fun h=>?_))<;>simp only[go_sem,h,hb5,ht,hix,hb12]
     rotate_left 1
     ·have k4:decide (t.kind=4)=false:=by simpa using h
      clear h;have hg:glue t (T.drop (i+1))=false:=by cases hd:T.drop (i+1) with|nil=>rfl|cons u w=>simp only[glue,k4,Bool.false_and]
      rw[hg] at hlen;simp only[gD7,if_false,gC1] at hlen;refine ⟨by unfold maxLen;omega,by rw[gC2];unfold maxLen;omega,⟨(tc++t.word++32::m,i+1),⟨hix,?_⟩,by simp only;omega,⟨rfl,wrap1 i (by omega)⟩,(by (repeat (first|(refine St.ge_set ?_ ?_;focus (simp only[gD6,ne_eq,gA9,and_self,hb5,hb12]<;>done))|exact St.ge.refl _)))⟩⟩;rw[← htc,hg];simp only[gD7,if_false,List.append_assoc]
     have k4:decide (t.kind=4)=true:=by simpa using h
     clear h
     (first|refine gC8 (fun h=>?_) (fun h=>?_)|refine gC9 (fun h=>?_) (fun h=>?_)|refine gD1 (fun h=>?_) (fun h=>?_))<;>simp only[go_sem,h,hb5,ht,hix,hb12]
     rotate_left 1
     ·have k5:decide (t.text=[45])=false:=by simpa using h
      clear h;have hg:glue t (T.drop (i+1))=false:=by cases hd:T.drop (i+1) with|nil=>rfl|cons u w=>simp only[glue,k5,Bool.false_and,Bool.and_false]
      rw[hg] at hlen;simp only[gD7,if_false,gC1] at hlen;refine ⟨by unfold maxLen;omega,by rw[gC2];unfold maxLen;omega,⟨(tc++t.word++32::m,i+1),⟨hix,?_⟩,by simp only;omega,⟨rfl,wrap1 i (by omega)⟩,(by (repeat (first|(refine St.ge_set ?_ ?_;focus (simp only[gD6,ne_eq,gA9,and_self,hb5,hb12]<;>done))|exact St.ge.refl _)))⟩⟩;rw[← htc,hg];simp only[gD7,if_false,List.append_assoc]
     have k5:decide (t.text=[45])=true:=by simpa using h
     clear h;have hwr:=wrap1 i (by omega)
     (first|refine gC8 (fun h=>?_) (fun h=>?_)|refine gC9 (fun h=>?_) (fun h=>?_)|refine gD1 (fun h=>?_) (fun h=>?_))<;>simp only[go_sem,h,hb5,ht,hix,hb12]
     rotate_left 1
     ·have k6:¬ i+1<T.length:=by rw[hwr] at h;have:=of_decide_eq_false h;omega
      clear h;have hg:glue t (T.drop (i+1))=false:=by rw[List.drop_eq_nil_of_le (by omega)];rfl
      rw[hg] at hlen;simp only[gD7,if_false,gC1] at hlen;refine ⟨by unfold maxLen;omega,by rw[gC2];unfold maxLen;omega,⟨(tc++t.word++32::m,i+1),⟨hix,?_⟩,by simp only;omega,⟨rfl,wrap1 i (by omega)⟩,(by (repeat (first|(refine St.ge_set ?_ ?_;focus (simp only[gD6,ne_eq,gA9,and_self,hb5,hb12]<;>done))|exact St.ge.refl _)))⟩⟩;rw[← htc,hg];simp only[gD7,if_false,List.append_assoc]
     have k6:i+1<T.length:=by rw[hwr] at h;have:=of_decide_eq_true h;omega
     clear h;obtain ⟨u,hu⟩:∃ a,T[i+1]?=some a:=⟨_,List.getElem?_eq_getElem k6⟩
     have hdu:T.drop (i+1)=u::T.drop (i+2):=by rw[List.drop_eq_getElem_cons k6,(List.getElem?_eq_some_iff.1 hu).2]
     have hi0:(0:Int)≤((i+1:Nat):Int):=Int.natCast_nonneg _;simp only[go_sem,hb5,ht,hix,hb12,hwr,hu,k6,hi0,Int.toNat_natCast]
     (first|refine gC8 (fun h=>?_) (fun h=>?_)|refine gC9 (fun h=>?_) (fun h=>?_)|refine gD1 (fun h=>?_) (fun h=>?_))<;>simp only[go_sem,h,hb5,ht,hix,hb12]
     rotate_left 1
     ·have k7:decide (u.kind=2)=false:=by simpa using h
      clear h;have hg:glue t (T.drop (i+1))=false:=by rw[hdu];simp only[glue,k7,Bool.and_false]
      rw[hg] at hlen;simp only[gD7,if_false,gC1] at hlen;refine ⟨by unfold maxLen;omega,by rw[gC2];unfold maxLen;omega,⟨(tc++t.word++32::m,i+1),⟨hix,?_⟩,by simp only;omega,⟨rfl,wrap1 i (by omega)⟩,(by (repeat (first|(refine St.ge_set ?_ ?_;focus (simp only[gD6,ne_eq,gA9,and_self,hb5,hb12]<;>done))|exact St.ge.refl _)))⟩⟩;rw[← htc,hg];simp only[gD7,if_false,List.append_assoc]
     have k7:decide (u.kind=2)=true:=by simpa using h
     clear h;have hg:glue t (T.drop (i+1))=true:=by rw[hdu];simp only[glue,k4,k5,k7,Bool.and_self]
     refine ⟨(tc++t.word,i+1),⟨hix,?_⟩,by simp only;omega,⟨rfl,hwr⟩,(by (repeat (first|(refine St.ge_set ?_ ?_;focus (simp only[gD6,ne_eq,gA9,and_self,hb5,hb12]<;>done))|exact St.ge.refl _)))⟩;rw[← htc,hg];simp only[if_true,gD3,List.append_assoc]
    ·have hie:i=T.length:=by simp at h;omega
     clear h;rw[hie,List.drop_length,respell,List.append_nil] at htc;subst htc;refine parse_den _ (by omega) ?_;generalize (parseS (m++respell m T)).1=D2 at hlaw ⊢;generalize (parseS (m++respell m T)).2=F2 at hlaw ⊢;simp only[go_sem,hb5];(intro b13 hb13;try simp only[gA5,gA6,gD6,ne_eq] at hb13);simp only[go_sem,hb5,hb13];(intro b14 hb14;try simp only[gA5,gA6,gD6,ne_eq] at hb14);simp only[go_sem,hb5,hb13,hb14];rcases hlaw with ⟨hF,hsame⟩|⟨hbig,hF⟩
     ·subst hF;simp only[go_sem,hb5,hb13,hb14,List.lookup_cons_self,Fault.none];refine dfnSame_den D1 D2 _ _ _ ?_;rw[hsame];simp only[go_sem,hb5,hb13,hb14];refine awake_den _ _ _ ?_;simp only[go_sem,hb5,hb13,hb14];exact DK.st hk (by (refine gel_ge ?_;repeat (first|exact gel_refl _ _ _|refine gel_gs_gs ?_|refine gel_to_gs gs_self ?_|refine gB1 ?_|refine gB2 ?_|refine gel_set (by simp only[gA1,gA2,gA3,gA6,ne_eq,gA9,reduceIte,hb5,hb13,hb14]<;>(first|done|rfl|assumption)) ?_|refine gB3 ?_|refine gel_new (by first|simp only[hb5,hb13,hb14]|assumption) ?_)))
     ·subst hF;have z3:((3:Int)=0)=False:=by decide
      have zb:decide ((20000:Int)<(((m++respell m T).length:Nat):Int))=true:=decide_eq_true (by omega);simp only[go_sem,hb5,hb13,hb14,List.lookup_cons_self,z3,zb,eq_self];refine awake_den _ _ _ ?_;simp only[go_sem,hb5,hb13,hb14];exact DK.st hk (by (refine gel_ge ?_;repeat (first|exact gel_refl _ _ _|refine gel_gs_gs ?_|refine gel_to_gs gs_self ?_|refine gB1 ?_|refine gB2 ?_|refine gel_set (by simp only[gA1,gA2,gA3,gA6,ne_eq,gA9,reduceIte,hb5,hb13,hb14]<;>(first|done|rfl|assumption)) ?_|refine gB3 ?_|refine gel_new (by first|simp only[hb5,hb13,hb14]|assumption) ?_)))
end
end Go.AV
end
section
namespace Go.Proofs.YtamikhobdffnfaaGreatDoor
open Go Go.AV Go.ChangeShapes Go.WideShapes Go.ChangeAt Go.RowKit
open Go.ChangeMaps (open_string shut_string)
theorem own:ownKnob Tryz.prog.godebug=none:=by kernel_rfl
theorem str_rz {g:Gh} (S:ByteArray):Rz g (.str S.data.toList) (.string S):=by
 have h:=Rz.str (g:=g) S.data.toList;have e:(⟨S.data.toList.toArray⟩:ByteArray)=S:=by cases S;simp
 rw[e] at h;exact h
theorem blanks_contract (H:Type) (enc:TypeId × Value→H) (W:World) (base:Nat) (args:Array Value) (ds gs:List (DataW H)) (before:List MemPlace)
  (hval:∀ (j:Nat) t v,Tryz.f9.params[j]?=some t→args[j]?=some v→Value.okWide Tryz.prog W .any base t v)
  (hW:DataW.Whole enc Tryz.prog Tryz.f9.params.toList Rows.defBlanksSpec.vars false W args.toList ds gs before) (hL:laidMetH Tryz.prog Rows.defBlanksRow.laid W) :
  Calls Tryz.prog 9 args W fun e W'=>∃ v,e=.returned v∧Rows.defBlanksSpec.post enc Tryz.prog Tryz.f9 false true false false W args v W':=by
 have hW':=hW;obtain ⟨p,q,hA0,hV,rfl,hfz,hnd⟩:=hW;have hA:DataW.TrodAll enc Tryz.prog W 0 (fun _=>true) true Tryz.f9.params.toList args.toList ds p:=hA0;rw[Tryz.params9] at hA hval;obtain ⟨v0,v1,d0,d1,p0,p1,rfl,rfl,rfl,h0,h1⟩:=trodAll_two hA;obtain ⟨rfl,rfl⟩:=trodVars_none hV;obtain ⟨S,rfl,rfl,rfl,hS⟩:=open_string Tryz.underlying9 (hval 0 9 v0 rfl rfl) h0;obtain ⟨m,rfl,rfl,rfl,hwm⟩:=open_int Tryz.underlying5 (hval 1 5 v1 rfl rfl) h1;clear hA0;simp only[List.append_nil] at hW'
 have bd:∀ n:Int,(Lit.int .u8 n).wf=true→0≤n∧n≤255:=by
  intro n h;simp only[Lit.wf,IntKind.min,IntKind.max,IntKind.signed,IntKind.bits,gD5] at h;simpa using h
 obtain ⟨m0,m1⟩:=bd m hwm
 have hc:=seat_calls (f:=9) (args:=[.str S.data.toList,.int .u8 m]) (vals:=[.string S,.int .u8 m]) (W:=W) (p:=fun _=>none) (l:=Rows.defBlanksRow.laid) Tryz.func9 rfl rfl hL
  (.tail _ (.tail _ (.tail _ (.tail _ (.tail _ (.tail _ (.tail _ (.head _)))))))) (.tail _ (.tail _ (.head _))) (fun b pre h=>by cases h)
  (.cons (str_rz S) (.cons (.int _ _) (.nil _))) (defBlanks_den _ m m0 m1 rfl)
 refine hc.mono fun e W' ⟨he,hos,hout,hb⟩=>?_
 subst he;have e1:Rows.defBlanksSpec.fn H ([DataW.lit (.string S.data.toList),DataW.lit (.int .u8 m)]++[])={ results:=[.lit (.bool true)],args:=[.lit (.string S.data.toList),.lit (.int .u8 m)] }:=rfl;refine ⟨_,rfl,_,_,_,[],[],[],hW',?_,?_,?_,kept_of hos hout hb,fun h=>by cases h⟩
 ·rw[e1];exact trodAll_mk1 (shut_bool Tryz.underlying4 true)
 ·rw[e1];exact trodAll_mk2 (shut_string Tryz.underlying9 hS) (shut_int Tryz.underlying5 hwm)
 ·rw[e1];rfl
theorem blanks_reads (os:Os) {H:Type} (enc:TypeId × Value→H) :
  ∃ places,DataW.whole enc Tryz.prog ((laidWorld os).forCall (fun _ _=>0) ⟨#[],#[.string ⟨#[]⟩,.int .u8 0],[]⟩).memory Tryz.f9.params.toList (OpenSpec.ofChange Rows.defBlanksSpec).vars false #[Value.string ⟨#[]⟩,Value.int .u8 0].toList 8 =
   some ([.lit (.string []),.lit (.int .u8 0)],[],places) :=
 ⟨[],by kernel_rfl⟩
theorem blanks_lifted (os:Os) (started:os.Started) (H:Type) (enc:TypeId × Value→H) (F:Stop.Interp) :
  ReturnsInHanded {} Tryz.checked os 9 .any ((OpenSpec.ofChange Rows.defBlanksSpec).preRow enc Tryz.prog Tryz.f9 Rows.defBlanksRow.domain false Rows.defBlanksRow.laid) (((OpenSpec.ofChange Rows.defBlanksSpec).at F).post enc Tryz.prog Tryz.f9 false true false false):=by
 obtain ⟨places,hx⟩:=blanks_reads os enc
 refine returnsInHanded_of_row (C:=Tryz.checked) (s:=OpenSpec.ofChange Rows.defBlanksSpec) own started (by kernel_rfl) Tryz.func9
  (witness_row_atRef (enc := enc) (C := Tryz.checked) false (laidWorld os) #[.string ⟨#[]⟩,.int .u8 0] rfl (by kernel_rfl) (by kernel_rfl) (by kernel_rfl)
   (OpenSpec.preRow_of_cond 8 hx (by kernel_rfl) (fun k hk=>by cases hk) (by kernel_rfl) (laid_met os _))) ?_
 intro W base args ds gs before hval hW _ _ _ hL _ _;exact blanks_contract H enc W base args ds gs before hval hW hL
theorem blanks_said:Rows.DefBlanksSaid :=
 OpenClaim.holds_of_cond 9 Tryz.f9 rfl rfl rfl rfl rfl rfl rfl ⟨rfl,rfl,rfl,rfl,rfl⟩ rfl rfl rfl rfl rfl blanks_named Tryz.func9 blanks_closed
  (of_decide_eq_true (by kernel_rfl)) (by unfold Func.isWrapper;rw[if_neg (of_decide_eq_false (by kernel_rfl))];exact ⟨rfl,rfl⟩)
  (fun os started H enc _ F=>by rw[OpenClaim.pre_eq_preRow];exact blanks_lifted os started H enc F)
theorem blanks_plain (f:FuncId) (fn:Func) (hf:Tryz.pinned.checked.prog.funcNamed Rows.defBlanksRow.func=some f) (hfn:Tryz.pinned.checked.prog.funcs[f]?=some fn) :
  true=Tryz.pinned.checked.prog.looks []∧∀ (j:Nat) t,fn.params[j]?=some t→Tryz.pinned.checked.prog.wantsStandIn t=false:=by
 obtain rfl:f=9:=Option.some.inj (blanks_named.symm.trans hf) |>.symm
 obtain rfl:fn=Tryz.f9:=(Option.some.inj (Tryz.func9.symm.trans hfn)).symm;refine ⟨blanks_looks,fun j t ht=>?_⟩;rw[Tryz.params9] at ht;have h9:t=9∨t=5:=by simpa using Array.mem_of_getElem? ht
 rcases h9 with rfl|rfl
 ·exact (show Tryz.prog.wantsStandIn 9=false by kernel_rfl)
 ·exact (show Tryz.prog.wantsStandIn 5=false by kernel_rfl)
theorem defBlanks_holds:Rows.DefBlanksCardSaid :=
 Claim7.holds_tied_plain_at .later [] _ _ _ _ blanks_said (fun _ h=>by cases h) blanks_wf (fun _ h=>by cases h) defBlanks_row_tie rfl ⟨rfl,rfl⟩ blanks_main rfl blanks_plain blanks_goes
#print axioms defBlanks_holds
end Go.Proofs.YtamikhobdffnfaaGreatDoor
end
