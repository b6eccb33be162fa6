/-
  Of DefStrings.
-/
import Derived.Test.YtamikhobdffnfaaGreatDoorSt16
set_option linter.all false
set_option maxRecDepth 99999
set_option maxHeartbeats 0
namespace Go.AV
open Go Go.Proofs Tryz
def aHr (l:List A) (σ:XS):CR:=match l with
 | [.str x,.int .u8 (.ofNat n)]=>match Nat.blt n 256 with
  | true=>.val (.int .i64 (Lib.indexByte x (UInt8.ofNat n))) σ
  | false=>.bad
 | _=>.bad
def aHn (l:List A) (σ:XS):CR:=match l with
 | [.str x,.int .u8 (.ofNat n)]=>match Nat.blt n 256 with
  | true=>.val (.int .i64 (x.count (UInt8.ofNat n):Nat)) σ
  | false=>.bad
 | _=>.bad
def aHl (l:List A) (σ:XS):CR:=match l with
 | [.ptr b o]=>.val (.ptr b o) σ
 | _=>.bad
def xD (f:FuncId):Option (List A→XS→CR):=match Nat.beq f 316 with
 | true=>some aHr
 | false=>match Nat.beq f 217 with
  | true=>some aHn
  | false=>match Nat.beq f 262 with
   | true=>some aHl
   | false=>none
theorem aGU {n:Nat} (h:n<256):((UInt8.ofNat n).toNat:Int)=Int.ofNat n:=by
 rw[UInt8.toNat_ofNat'];simp[Nat.mod_eq_of_lt h]
theorem aKN {f:FuncId} (hf:f=316) (s:St) (x:List UInt8) (c:UInt8) (KV Kp:St→A→Prop) (hk:KV s (.int .i64 (Lib.indexByte x c))):Den dL f [.str x,.int .u8 c.toNat] KV Kp s:=by
 refine tC (C:=dL) (fn:=f316) (by rw[aAd,hf];exact func316) rfl rfl rfl (e:=Extern.BytealgIndexByte.indexByte) (by kernel_rfl) fun g vals hv=>?_
 obtain ⟨u,v,rfl,r1,r2⟩:=hv.two;rw[r1.str_inv,r2.int_inv];refine ⟨_,_,fun w=>Lib.run_indexByteString _ _ w,.int _ _,?_⟩;simpa using hk
theorem aLe {f:FuncId} (hf:f=217) (s:St) (x:List UInt8) (c:UInt8) (KV Kp:St→A→Prop) (hk:KV s (.int .i64 (x.count c:Nat))):Den dL f [.str x,.int .u8 c.toNat] KV Kp s:=by
 refine tC (C:=dL) (fn:=f217) (by rw[aAd,hf];exact func217) rfl rfl rfl (e:=Extern.BytealgCount.count) (by kernel_rfl) fun g vals hv=>?_
 obtain ⟨u,v,rfl,r1,r2⟩:=hv.two;rw[r1.str_inv,r2.int_inv];refine ⟨_,_,fun w=>Lib.run_countString _ _ w,.int _ _,?_⟩;simpa [Lib.countByte] using hk
theorem aKS {f:FuncId} (hf:f=262) (s:St) (b o:Nat) (KV Kp:St→A→Prop) (hk:KV s (.ptr b o)):Den dL f [.ptr b o] KV Kp s:=by
 refine tC (C:=dL) (fn:=f262) (by rw[aAd,hf];exact func262) rfl rfl rfl (e:=Extern.AbiNoEscape.same) (by kernel_rfl) fun g vals hv=>?_
 have hl:=hv.1
 match vals,hl with
 | [v],_=>exact ⟨v,_,fun w=>rfl,hv.2 0 _ v rfl rfl,hk⟩
theorem aGY:uO dL xD:=by
 intro f h hf l σ s KV Kp hs hh;unfold xD at hf;split at hf
 ·rename_i e;have hf':=bH e;cases hf;unfold aHr at hh;split at hh
  ·rename_i x n;split at hh
   ·rename_i hn;rw[Nat.blt_eq] at hn;have:=aKN hf' s x (UInt8.ofNat n) KV Kp (hh s hs);rw[aGU hn] at this;exact this
   ·exact hh.elim
  ·exact hh.elim
 ·split at hf
  ·rename_i e;have hf':=bH e;cases hf;unfold aHn at hh;split at hh
   ·rename_i x n;split at hh
    ·rename_i hn;rw[Nat.blt_eq] at hn;have:=aLe hf' s x (UInt8.ofNat n) KV Kp (hh s hs);rw[aGU hn] at this;exact this
    ·exact hh.elim
   ·exact hh.elim
  ·split at hf
   ·rename_i e;have hf':=bH e;cases hf;unfold aHl at hh;split at hh
    ·rename_i b o;exact aKS hf' s b o KV Kp (hh s hs)
    ·exact hh.elim
   ·cases hf
theorem aFR {l:List A} (h:fW (dK 60) l=some l):∀ c,c∈l→c.lp c:=fun x hx=>by
 obtain ⟨j,hj,rfl⟩:=fQ hx;obtain ⟨y,h1,h2⟩:=(oL h).2 j l[j] (bK hj);rw[bK hj] at h1;cases h1;exact oQ 60 _ _ h2
theorem aLI:fW (dK 60) aAy=some aAy:=by kernel_rfl
theorem aMn:fW (dK 60) qZ=some qZ:=by kernel_rfl
theorem wS (b:Nat) (cs:List A) (h:cx.gl b=some cs):∀ c,c∈cs→c.lp c:=by
 have h':vG b=some cs:=h;unfold vG at h';split at h'
 ·cases h';exact aFR aLI
 ·cases h';exact aFR aMn
 ·cases h'
theorem aCb {fuel:Nat} {f:FuncId} {args:List A} {KV Kp:St→A→Prop} {s:St} {a:A}
  (hargs:fW (dK 60) args=some args) (h:aAr (aDf (iS xD) fuel f args)=some a) (hk:KV s a):Den cx f args KV Kp s:=by
 have hX:(iS xD).ok { cx with det:=true }:=aCS aGY;exact Den.run true hX wS hargs h hk
end Go.AV
