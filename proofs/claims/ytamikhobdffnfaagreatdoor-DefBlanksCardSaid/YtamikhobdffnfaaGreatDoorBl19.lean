/-
  Part of the proof of DefBlanks.
-/
import Derived.Test.YtamikhobdffnfaaGreatDoorBl18
import Derived.Test.YtamikhobdffnfaaGreatDoorBl11
import Derived.Test.YtamikhobdffnfaaGreatDoorBl16
set_option linter.all false
set_option maxRecDepth 1000000
set_option maxHeartbeats 40000000
section
namespace Go.AV
open Go Go.Proofs
def ext1 (l:List A) (σ:XS):CR:=match l with
 | [.str x,.int .u8 (.ofNat n)]=>match Nat.blt n 256 with
  | true=>.val (.int .i64 (Lib.indexByte x (UInt8.ofNat n))) σ
  | false=>.bad
 | _=>.bad
def ext2 (l:List A) (σ:XS):CR:=match l with
 | [.str x,.int .u8 (.ofNat n)]=>match Nat.blt n 256 with
  | true=>.val (.int .i64 (x.count (UInt8.ofNat n):Nat)) σ
  | false=>.bad
 | _=>.bad
def ext3 (l:List A) (σ:XS):CR:=match l with
 | [.ptr b o]=>.val (.ptr b o) σ
 | _=>.bad
def extS (f:FuncId):Option (List A→XS→CR):=match Nat.beq f 316 with
 | true=>some ext1
 | false=>match Nat.beq f 217 with
  | true=>some ext2
  | false=>match Nat.beq f 262 with
   | true=>some ext3
   | false=>none
theorem u8_nat {n:Nat} (h:n<256):((UInt8.ofNat n).toNat:Int)=Int.ofNat n:=by
 rw[UInt8.toNat_ofNat'];simp[Nat.mod_eq_of_lt h]
theorem d316_den {f:FuncId} (hf:f=316) (s:St) (x:List UInt8) (c:UInt8) (KV Kp:St→A→Prop) (hk:KV s (.int .i64 (Lib.indexByte x c))):Den cxd f [.str x,.int .u8 c.toNat] KV Kp s:=by
 refine Den.extern (C:=cxd) (fn:=Tryz.f316) (by rw[cxd_P,hf];exact Tryz.func316) rfl rfl rfl (e:=Extern.BytealgIndexByte.indexByte) (by kernel_rfl) fun g vals hv=>?_
 obtain ⟨u,v,rfl,r1,r2⟩:=hv.two;rw[r1.str_inv,r2.int_inv];refine ⟨_,_,fun w=>Lib.run_indexByteString _ _ w,.int _ _,?_⟩;simpa using hk
theorem d217_den {f:FuncId} (hf:f=217) (s:St) (x:List UInt8) (c:UInt8) (KV Kp:St→A→Prop) (hk:KV s (.int .i64 (x.count c:Nat))):Den cxd f [.str x,.int .u8 c.toNat] KV Kp s:=by
 refine Den.extern (C:=cxd) (fn:=Tryz.f217) (by rw[cxd_P,hf];exact Tryz.func217) rfl rfl rfl (e:=Extern.BytealgCount.count) (by kernel_rfl) fun g vals hv=>?_
 obtain ⟨u,v,rfl,r1,r2⟩:=hv.two;rw[r1.str_inv,r2.int_inv];refine ⟨_,_,fun w=>Lib.run_countString _ _ w,.int _ _,?_⟩;simpa [Lib.countByte] using hk
theorem d262_den {f:FuncId} (hf:f=262) (s:St) (b o:Nat) (KV Kp:St→A→Prop) (hk:KV s (.ptr b o)):Den cxd f [.ptr b o] KV Kp s:=by
 refine Den.extern (C:=cxd) (fn:=Tryz.f262) (by rw[cxd_P,hf];exact Tryz.func262) rfl rfl rfl (e:=Extern.AbiNoEscape.same) (by kernel_rfl) fun g vals hv=>?_
 have hl:=hv.1
 match vals,hl with
 | [v],_=>exact ⟨v,_,fun w=>rfl,hv.2 0 _ v rfl rfl,hk⟩
theorem ext_ok:extOk cxd extS:=by
 intro f h hf l σ s KV Kp hs hh;unfold extS at hf;split at hf
 ·rename_i e;have hf':=gC7 e;cases hf;unfold ext1 at hh;split at hh
  ·rename_i x n;split at hh
   ·rename_i hn;rw[Nat.blt_eq] at hn;have:=d316_den hf' s x (UInt8.ofNat n) KV Kp (hh s hs);rw[u8_nat hn] at this;exact this
   ·exact hh.elim
  ·exact hh.elim
 ·split at hf
  ·rename_i e;have hf':=gC7 e;cases hf;unfold ext2 at hh;split at hh
   ·rename_i x n;split at hh
    ·rename_i hn;rw[Nat.blt_eq] at hn;have:=d217_den hf' s x (UInt8.ofNat n) KV Kp (hh s hs);rw[u8_nat hn] at this;exact this
    ·exact hh.elim
   ·exact hh.elim
  ·split at hf
   ·rename_i e;have hf':=gC7 e;cases hf;unfold ext3 at hh;split at hh
    ·rename_i b o;exact d262_den hf' s b o KV Kp (hh s hs)
    ·exact hh.elim
   ·cases hf
theorem frzL_lp {l:List A} (h:frzL (frz 60) l=some l):∀ c,c∈l→c.lp c:=fun x hx=>by
 obtain ⟨j,hj,rfl⟩:=List.getElem_of_mem hx;obtain ⟨y,h1,h2⟩:=(frzL_get h).2 j l[j] (List.getElem?_eq_getElem hj);rw[List.getElem?_eq_getElem hj] at h1;cases h1;exact frz_ok 60 _ _ h2
theorem ascS_lp:frzL (frz 60) ascS=some ascS:=by kernel_rfl
theorem powS_lp:frzL (frz 60) powS=some powS:=by kernel_rfl
theorem glS_lp (b:Nat) (cs:List A) (h:cx.gl b=some cs):∀ c,c∈cs→c.lp c:=by
 have h':glS b=some cs:=h;unfold glS at h';split at h'
 ·cases h';exact frzL_lp ascS_lp
 ·cases h';exact frzL_lp powS_lp
 ·cases h'
theorem seat_run {fuel:Nat} {f:FuncId} {args:List A} {KV Kp:St→A→Prop} {s:St} {a:A}
  (hargs:frzL (frz 60) args=some args) (h:outX (runX (xpS extS) fuel f args)=some a) (hk:KV s a):Den cx f args KV Kp s:=by
 have hX:(xpS extS).ok { cx with det:=true }:=xpS_ok ext_ok;exact Den.run true hX glS_lp hargs h hk
end Go.AV
end
