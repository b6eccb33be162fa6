/-
  Of DefParses.
-/
import Derived.Test.YtamikhobdffnfaaGreatDoorPa17
set_option linter.all false
set_option maxRecDepth 99999
set_option maxHeartbeats 0
namespace Go.AV
open Go Go.Proofs Tryz
def aJU (l:List A) (σ:XS):CR:=match l with
 | [.str x,.int .u8 (.ofNat n)]=>match Nat.blt n 256 with
  | true=>.val (.int .i64 (Lib.indexByte x (UInt8.ofNat n))) σ
  | false=>.bad
 | _=>.bad
def aJP (l:List A) (σ:XS):CR:=match l with
 | [.str x,.int .u8 (.ofNat n)]=>match Nat.blt n 256 with
  | true=>.val (.int .i64 (x.count (UInt8.ofNat n):Nat)) σ
  | false=>.bad
 | _=>.bad
def aJR (l:List A) (σ:XS):CR:=match l with
 | [.ptr b o]=>.val (.ptr b o) σ
 | _=>.bad
def aAR (f:FuncId):Option (List A→XS→CR):=match Nat.beq f 316 with
 | true=>some aJU
 | false=>match Nat.beq f 217 with
  | true=>some aJP
  | false=>match Nat.beq f 262 with
   | true=>some aJR
   | false=>none
theorem aJh {n:Nat} (h:n<256):((UInt8.ofNat n).toNat:Int)=Int.ofNat n:=by
 rw[UInt8.toNat_ofNat'];simp[Nat.mod_eq_of_lt h]
theorem aNP {f:FuncId} (hf:f=316) (s:St) (x:List UInt8) (c:UInt8) (KV Kp:St→A→Prop) (hk:KV s (.int .i64 (Lib.indexByte x c))):Den fG f [.str x,.int .u8 c.toNat] KV Kp s:=by
 refine zY (C:=fG) (fn:=f316) (by rw[aCA,hf];exact func316) rfl rfl rfl (e:=Extern.BytealgIndexByte.indexByte) (by kernel_rfl) fun g vals hv=>?_
 obtain ⟨u,v,rfl,r1,r2⟩:=hv.two;rw[r1.str_inv,r2.int_inv];refine ⟨_,_,fun w=>Lib.run_indexByteString _ _ w,.int _ _,?_⟩;simpa using hk
theorem aNO {f:FuncId} (hf:f=217) (s:St) (x:List UInt8) (c:UInt8) (KV Kp:St→A→Prop) (hk:KV s (.int .i64 (x.count c:Nat))):Den fG f [.str x,.int .u8 c.toNat] KV Kp s:=by
 refine zY (C:=fG) (fn:=f217) (by rw[aCA,hf];exact func217) rfl rfl rfl (e:=Extern.BytealgCount.count) (by kernel_rfl) fun g vals hv=>?_
 obtain ⟨u,v,rfl,r1,r2⟩:=hv.two;rw[r1.str_inv,r2.int_inv];refine ⟨_,_,fun w=>Lib.run_countString _ _ w,.int _ _,?_⟩;simpa [Lib.countByte] using hk
theorem aOb {f:FuncId} (hf:f=262) (s:St) (b o:Nat) (KV Kp:St→A→Prop) (hk:KV s (.ptr b o)):Den fG f [.ptr b o] KV Kp s:=by
 refine zY (C:=fG) (fn:=f262) (by rw[aCA,hf];exact func262) rfl rfl rfl (e:=Extern.AbiNoEscape.same) (by kernel_rfl) fun g vals hv=>?_
 have hl:=hv.1
 match vals,hl with
 | [v],_=>exact ⟨v,_,fun w=>rfl,hv.2 0 _ v rfl rfl,hk⟩
theorem aJj:yY fG aAR:=by
 intro f h hf l σ s KV Kp hs hh;unfold aAR at hf;split at hf
 ·rename_i e;have hf':=cC e;cases hf;unfold aJU at hh;split at hh
  ·rename_i x n;split at hh
   ·rename_i hn;rw[Nat.blt_eq] at hn;have:=aNP hf' s x (UInt8.ofNat n) KV Kp (hh s hs);rw[aJh hn] at this;exact this
   ·exact hh.elim
  ·exact hh.elim
 ·split at hf
  ·rename_i e;have hf':=cC e;cases hf;unfold aJP at hh;split at hh
   ·rename_i x n;split at hh
    ·rename_i hn;rw[Nat.blt_eq] at hn;have:=aNO hf' s x (UInt8.ofNat n) KV Kp (hh s hs);rw[aJh hn] at this;exact this
    ·exact hh.elim
   ·exact hh.elim
  ·split at hf
   ·rename_i e;have hf':=cC e;cases hf;unfold aJR at hh;split at hh
    ·rename_i b o;exact aOb hf' s b o KV Kp (hh s hs)
    ·exact hh.elim
   ·cases hf
theorem aIQ {l:List A} (h:jA (fE 60) l=some l):∀ c,c∈l→c.lp c:=fun x hx=>by
 obtain ⟨j,hj,rfl⟩:=iT hx;obtain ⟨y,h1,h2⟩:=(rQ h).2 j l[j] (cH hj);rw[cH hj] at h1;cases h1;exact rX 60 _ _ h2
theorem aOk:jA (fE 60) aCP=some aCP:=by kernel_rfl
theorem aOK:jA (fE 60) uZ=some uZ:=by kernel_rfl
theorem aAC (b:Nat) (cs:List A) (h:cx.gl b=some cs):∀ c,c∈cs→c.lp c:=by
 have h':zN b=some cs:=h;unfold zN at h';split at h'
 ·cases h';exact aIQ aOk
 ·cases h';exact aIQ aOK
 ·cases h'
theorem aEo {fuel:Nat} {f:FuncId} {args:List A} {KV Kp:St→A→Prop} {s:St} {a:A}
  (hargs:jA (fE 60) args=some args) (h:aCQ (aFC (lC aAR) fuel f args)=some a) (hk:KV s a):Den cx f args KV Kp s:=by
 have hX:(lC aAR).ok { cx with det:=true }:=aE7 aJj;exact Den.run true hX aAC hargs h hk
end Go.AV
