/-
  Part of the proof of DefBlanks.
-/
import Derived.Test.YtamikhobdffnfaaGreatDoorBl16
import Derived.Laws.RangeAny
import Derived.Test.YtamikhobdffnfaaGreatDoorBl10
import Derived.Test.YtamikhobdffnfaaGreatDoorBl11
set_option linter.all false
set_option maxRecDepth 1000000
set_option maxHeartbeats 40000000
section
namespace Go.AV
open Go Go.Proofs
@[go_sem] theorem take_drop_all (x:Str) (n:Nat):(x.drop n).take (x.length-n)=x.drop n:=List.take_of_length_le (by rw[gD4];exact Nat.le_refl _)
theorem takeWhile_pre {b:UInt8} {r:Str} (h:hasPre (b::r) [47,47]=true):1≤((b::r).takeWhile (fun c=>!decide (c=10))).length:=by
 have hb:b=47:=by
  simp only[hasPre,gD5,decide_eq_true_eq] at h;have:=h.2;simp at this;exact this.1
 subst hb;simp[List.takeWhile]
theorem blk_fuel:∀ (f g:Nat) (w:Str),w.length≤f→w.length≤g→blk f w=blk g w
 | f,g,[],_,_=>by cases f<;>cases g<;>rfl
 | 0,g,b::r,h,_=>by simp at h
 | f,0,b::r,_,h=>by simp at h
 | f+1,g+1,b::r,hf,hg=>by
  simp only[gC1] at hf hg;simp only[blk];split
  ·rw[blk_fuel f g r (by omega) (by omega)]
  ·split
   ·rename_i hp;have:=takeWhile_pre hp;rw[blk_fuel f g _ (by rw[gD4,gC1];omega) (by rw[gD4,gC1];omega)]
   ·rfl
theorem blks_nil:blks []=0:=rfl
theorem blks_blank {b:UInt8} {r:Str} (h:isBlank b=true):blks (b::r)=1+blks r:=by
 simp only[blks,gC1,blk,h,if_true]
theorem blks_note {b:UInt8} {r:Str} (hb:isBlank b=false) (h:hasPre (b::r) [47,47]=true) :
  blks (b::r)=((b::r).takeWhile (fun c=>!decide (c=10))).length+blks ((b::r).drop ((b::r).takeWhile (fun c=>!decide (c=10))).length):=by
 have:=takeWhile_pre h;simp only[blks,gC1,blk,hb,gD7,if_false,h,if_true];rw[blk_fuel r.length _ _ (by rw[gD4,gC1];omega) (Nat.le_refl _)]
theorem blks_none {b:UInt8} {r:Str} (hb:isBlank b=false) (h:hasPre (b::r) [47,47]=false):blks (b::r)=0:=by
 simp only[blks,gC1,blk,hb,gD7,if_false,h]
theorem idx_blank (b:UInt8):decide (0≤Lib.indexByte [32,9,10,13] b)=isBlank b:=by
 by_cases h1:b=32
 ·subst h1;decide
 by_cases h2:b=9
 ·subst h2;decide
 by_cases h3:b=10
 ·subst h3;decide
 by_cases h4:b=13
 ·subst h4;decide
 have e1:((32:UInt8) == b)=false:=beq_eq_false_iff_ne.2 fun e=>h1 e.symm
 have e2:((9:UInt8) == b)=false:=beq_eq_false_iff_ne.2 fun e=>h2 e.symm
 have e3:((10:UInt8) == b)=false:=beq_eq_false_iff_ne.2 fun e=>h3 e.symm
 have e4:((13:UInt8) == b)=false:=beq_eq_false_iff_ne.2 fun e=>h4 e.symm
 simp[Lib.indexByte,isBlank,e1,e2,e3,e4,h1,h2,h3,h4]
theorem idx_line (w:Str):(if Lib.indexByte w 10<0 then ((w.length:Nat):Int) else Lib.indexByte w 10)=((w.takeWhile (fun c=>!decide (c=10))).length:Nat)∧(Lib.indexByte w 10=-1∨0≤Lib.indexByte w 10):=by
 induction w with
 | nil=>simp[Lib.indexByte]
 | cons b r ih =>
  obtain ⟨ih,ih2⟩:=ih;unfold Lib.indexByte;by_cases hb:b=10
  ·subst hb;simp
  ·have hb':(b == 10)=false:=by simpa using hb
   rw[hb'];simp only[gD7,if_false];have htw:(b::r).takeWhile (fun c=>!decide (c=10))=b::r.takeWhile (fun c=>!decide (c=10)):=by simp[List.takeWhile,hb]
   rw[htw];rcases ih2 with h|h
   ·rw[h] at ih ⊢;simp only[show ((-1:Int)<0) from by decide,if_true] at ih;simp only[beq_self_eq_true,if_true,show ((-1:Int)<0) from by decide,gC1];exact ⟨by omega,.inl trivial⟩
   ·have h1:¬ Lib.indexByte r 10<0:=by omega
    have h2:(Lib.indexByte r 10 == -1)=false:=by simpa using (by omega:¬ Lib.indexByte r 10=-1)
    rw[if_neg h1] at ih;rw[h2];simp only[gD7,if_false,gC1];rw[if_neg (by omega)];exact ⟨by omega,.inr (by omega)⟩
theorem blanks_den (s:St) (r:Nat) (x:Str) (at_ l c:Nat) (sg:List Str) (op:Bool) (KV Kp)
  (hr:s.getO r=some (.cells 226 (rdCs x at_ l c sg op))) (hx:x.length≤4294967296) (ha:at_≤x.length) (hl:l≤at_+1) (hc:c≤at_+1)
  (hk:KV (s.setO r (.cells 226 (rdCs x (at_+blks (x.drop at_)) (adv (l,c) ((x.drop at_).take (blks (x.drop at_)))).1 (adv (l,c) ((x.drop at_).take (blks (x.drop at_)))).2 sg op))) (.tuple [])) :
  Den cx 277 [.ptr r 0] KV Kp s:=by
 refine Den.drop ?_;(refine Den.of_body (C:=cx) Tryz.func277 rfl rfl (gC6 rfl) ?_;refine wpC_ok (V:=[0,2,3,13,23,30,36]) _ _ _ _ ?_;simp only[go_sem,Tryz.ntmps277,Tryz.f277])
 refine Ex.loop (fun k=>[(0,.ptr r 0)])
  (fun k=>s.setO r (.cells 226 (rdCs x (at_+k) (adv (l,c) ((x.drop at_).take k)).1 (adv (l,c) ((x.drop at_).take k)).2 sg op)))
  (fun k=>at_+k≤x.length∧blks (x.drop at_)=k+blks (x.drop (at_+k))) (fun k=>x.length-(at_+k)) 0 ⟨by omega,by simp⟩ ?_ ?_ ?_
 ·simp only[go_sem]
 ·simp only[Nat.add_zero,List.take_zero,adv];exact St.ge_same hr
 ·rintro k ⟨hkx,hb⟩;have hlen:((x.drop at_).take k).length=k:=by rw[List.length_take,gD4];omega
  have hal:=adv_le ((x.drop at_).take k) (l,c) at_ hl hc;rw[hlen] at hal
  have hstep:∀ m,adv (l,c) ((x.drop at_).take (k+m))=adv (adv (l,c) ((x.drop at_).take k)) ((x.drop (at_+k)).take m):=by
   intro m;rw[List.take_add,adv_app,List.drop_drop]
  refine wpC_ok (V:=[0,2,3,13,23,30,36]) _ _ _ _ ?_;simp only[go_sem];(refine draw_ok (V:=[0,2,3,13,23,30,36]) (OT.l [0,1,2,3,4,5,6,7,8,9] .nil) [] mixed_cx (by decide +kernel) ?_;simp only[go_sem,rdCs])
  (first|refine gC8 (fun h=>?_) (fun h=>?_)|refine gC9 (fun h=>?_) (fun h=>?_)|refine gD1 (fun h=>?_) (fun h=>?_))<;>simp only[go_sem,h]
  ·have hlt:at_+k<x.length:=by simpa using h
   have hcons:∃ d w,x.drop (at_+k)=d::w:=by
    rw[List.drop_eq_getElem_cons hlt];exact ⟨_,_,rfl⟩
   obtain ⟨d,w,hw⟩:=hcons;have ha':at_+k≤x.length:=by omega
   have htk:(d::w).take (x.length-(at_+k))=d::w:=by rw[← hw];exact take_drop_all x _
   (refine draw_ok (V:=[0,2,3,13,23,30,36]) (OT.l [0,1,2,3,4,5,6,7,8,9] .nil) [] mixed_cx (by decide +kernel) ?_;simp only[go_sem,rdCs,hw,htk,ha',Nat.le_refl]);refine idxByte298_den _ _ _ _ _ ?_;simp only[go_sem,idx_blank]
   (first|refine gC8 (fun h=>?_) (fun h=>?_)|refine gC9 (fun h=>?_) (fun h=>?_)|refine gD1 (fun h=>?_) (fun h=>?_))<;>simp only[go_sem,h]
   ·
    refine skip_den _ r x (at_+k) _ _ 1 sg op _ _ (by rw[gA1,if_pos rfl];rfl) hx (by omega) (by omega) (by omega) ?_;simp only[go_sem];refine ⟨k+1,⟨by omega,?_⟩,by omega,?_⟩
    ·rw[hb,hw,blks_blank h,show at_+(k+1)=at_+k+1 from rfl,← List.drop_drop,hw];simp;omega
    ·rw[hstep 1];exact St.ge.refl _
   ·refine hasPre299_den _ _ _ _ _ ?_;simp only[go_sem]
    (first|refine gC8 (fun h=>?_) (fun h=>?_)|refine gC9 (fun h=>?_) (fun h=>?_)|refine gD1 (fun h=>?_) (fun h=>?_))<;>simp only[go_sem,h]
    ·have hbl:isBlank d=false:=by assumption
     have hp:=h;refine idxByte298_den _ _ 10 _ _ ?_;simp only[go_sem];have hi:=idx_line (d::w);have hpos:=takeWhile_pre hp;have hle:((d::w).takeWhile (fun c=>!decide (c=10))).length≤(d::w).length:=(List.takeWhile_sublist _).length_le;have hwl:(d::w).length=x.length-(at_+k):=by rw[← hw,gD4]
     have fin:∀ m:Nat,m=((d::w).takeWhile (fun c=>!decide (c=10))).length→at_+k+m≤x.length∧blks (x.drop at_)=k+m+blks (x.drop (at_+(k+m))):=by
      rintro m rfl;refine ⟨by omega,?_⟩;have:=blks_note hbl hp;rw[hb,hw,this,← Nat.add_assoc at_,← List.drop_drop,hw];omega
     generalize hm:((d::w).takeWhile (fun c=>!decide (c=10))).length=m at hi hpos hle;obtain ⟨f1,f2⟩:=fin m hm.symm
     (first|refine gC8 (fun h=>?_) (fun h=>?_)|refine gC9 (fun h=>?_) (fun h=>?_)|refine gD1 (fun h=>?_) (fun h=>?_))<;>simp only[go_sem,h]
     ·have hlt:Lib.indexByte (d::w) 10<0:=by simpa using h
      have e:=hi.1;rw[if_pos hlt] at e;have e:w.length+1=m:=by simp at e;omega
      rw[e];refine skip_den _ r x (at_+k) _ _ m sg op _ _ (by rw[gA1,if_pos rfl];rfl) hx f1 (by omega) (by omega) ?_;simp only[go_sem];refine ⟨k+m,⟨by omega,f2⟩,by omega,?_⟩;rw[hstep m,Nat.add_assoc at_ k m];exact St.ge.refl _
     ·have hlt:¬ Lib.indexByte (d::w) 10<0:=by simpa using h
      have e:=hi.1;rw[if_neg hlt] at e;rw[e];refine skip_den _ r x (at_+k) _ _ m sg op _ _ (by rw[gA1,if_pos rfl];rfl) hx f1 (by omega) (by omega) ?_;simp only[go_sem];refine ⟨k+m,⟨by omega,f2⟩,by omega,?_⟩;rw[hstep m,Nat.add_assoc at_ k m];exact St.ge.refl _
    ·have hbl:isBlank d=false:=by assumption
     rw[hb,hw,blks_none hbl h,Nat.add_zero] at hk;exact DK.here hk
  ·have hkl:at_+k=x.length:=by simp at h;omega
   have e:blks (x.drop at_)=k:=by rw[hb,hkl,List.drop_length,blks_nil];rfl
   rw[e] at hk;exact DK.here hk
end Go.AV
end
section
namespace Go.AV
open Go Go.Proofs
theorem dec_low {x:Str} {i:Nat} {d:UInt8} (hd:x[i]?=some d) (h:d.toNat<128):Utf8.decode ⟨x.toArray⟩ i=(d.toNat,1):=by
 have hi:i<x.length:=(List.getElem?_eq_some_iff.1 hd).1;have hs:i<(ByteArray.mk x.toArray).size:=by simpa [ByteArray.size] using hi
 have e:(ByteArray.mk x.toArray)[i]'hs=d:=by
  exact (List.getElem?_eq_some_iff.1 hd).2
 have:=decode_ascii ⟨x.toArray⟩ i hs (by rw[e];exact h);rw[this,e]
theorem dec_high {x:Str} {i:Nat} {d:UInt8} (hd:x[i]?=some d) (h:128≤d.toNat):128≤(Utf8.decode ⟨x.toArray⟩ i).1:=by
 have hi:i<x.length:=(List.getElem?_eq_some_iff.1 hd).1;have hs:i<(ByteArray.mk x.toArray).size:=by simpa [ByteArray.size] using hi
 have e:(ByteArray.mk x.toArray)[i]'hs=d:=by
  exact (List.getElem?_eq_some_iff.1 hd).2
 exact (decode_high ⟨x.toArray⟩ i hs (by rw[e];exact h)).1
theorem isString_den (s:St) (x:Str) (KV Kp) (hk:KV s (.bool (isStr x))):Den cx 273 [.str x] KV Kp s:=by
 refine Den.drop ?_;(refine Den.of_body (C:=cx) Tryz.func273 rfl rfl (gC6 rfl) ?_;refine wpC_ok (V:=[0,2,4,6,7,8,23]) _ _ _ _ ?_;simp only[go_sem,Tryz.ntmps273,Tryz.f273]);intro b hb;simp only[go_sem]
 refine Ex.loop (fun i=>[(0,.str x),(6,.ptr b 0)]) (fun i=>s.setO b (.iter x i))
  (fun i=>i≤x.length∧∀ d∈x.take i,okB d=true) (fun i=>x.length-i) 0 ⟨Nat.zero_le _,by simp⟩ ?_ (St.ge.refl _) ?_
 ·simp only[go_sem]
 ·rintro i ⟨hi,hall⟩;refine wpC_ok (V:=[0,2,4,6,7,8,23]) _ _ _ _ ?_;by_cases hlt:i<x.length
  ·obtain ⟨d,hd⟩:∃ d,x[i]?=some d:=⟨_,List.getElem?_eq_getElem hlt⟩
   have bad:okB d=false→∀ o,DK KV (s.setO b o) (.bool false):=fun ho o=>by
    have:isStr x=false:=by
     rw[isStr,Bool.and_eq_false_iff];refine .inl (Bool.eq_false_iff.2 fun hall=>?_);rw[List.all_eq_true] at hall;rw[hall d (List.mem_of_getElem? hd)] at ho;cases ho
    rw[this] at hk;exact DK.st hk (St.ge_new hb)
   by_cases hlow:d.toNat<128
   ·by_cases ho:okB d=true
    ·have ho':=ho;simp only[okB,gD5,decide_eq_true_eq,Bool.not_eq_true',decide_eq_false_iff_not] at ho';obtain ⟨o1,o2,o3,o4⟩:=ho';have n3:¬ d.toNat=34:=fun e=>o3 (UInt8.toNat_inj.1 e)
     have n4:¬ d.toNat=92:=fun e=>o4 (UInt8.toNat_inj.1 e)
     have e1:decide ((d.toNat:Int)<32)=false:=decide_eq_false (by omega);have e2:decide (126<(d.toNat:Int))=false:=decide_eq_false (by omega);have e3:decide ((d.toNat:Int)=34)=false:=decide_eq_false (by omega);have e4:decide ((d.toNat:Int)=92)=false:=decide_eq_false (by omega);simp only[go_sem,hlt,dec_low hd hlow,e1,e2,e3,e4];refine ⟨i+1,⟨by omega,fun q hq=>?_⟩,by omega,St.ge.refl _⟩;rw[List.take_add_one,hd] at hq;simp only[List.mem_append,Option.toList_some,List.mem_singleton] at hq;rcases hq with hq|rfl
     ·exact hall q hq
     ·exact ho
    ·have ho':okB d=false:=by simpa using ho
     have bad:=bad ho';by_cases o1:32≤d.toNat
     ·have e1:decide ((d.toNat:Int)<32)=false:=decide_eq_false (by omega);by_cases o2:d.toNat≤126
      ·have e2:decide (126<(d.toNat:Int))=false:=decide_eq_false (by omega);by_cases o3:d.toNat=34
       ·have e3:decide ((d.toNat:Int)=34)=true:=decide_eq_true (by omega);simp only[go_sem,hlt,dec_low hd hlow,e1,e2,e3];exact bad _
       ·have e3:decide ((d.toNat:Int)=34)=false:=decide_eq_false (by omega)
        have o4:d.toNat=92:=by
         have n3:¬ d=34:=fun e=>o3 (by rw[e];rfl)
         simp only[okB,o1,o2,n3,decide_true,decide_false,Bool.true_and,Bool.not_false,Bool.not_eq_false',decide_eq_true_eq] at ho';rw[ho'];rfl
        have e4:decide ((d.toNat:Int)=92)=true:=decide_eq_true (by omega);simp only[go_sem,hlt,dec_low hd hlow,e1,e2,e3,e4];exact bad _
      ·have e2:decide (126<(d.toNat:Int))=true:=decide_eq_true (by omega);simp only[go_sem,hlt,dec_low hd hlow,e1,e2];exact bad _
     ·have e1:decide ((d.toNat:Int)<32)=true:=decide_eq_true (by omega);simp only[go_sem,hlt,dec_low hd hlow,e1];exact bad _
   ·have hh:=dec_high hd (by omega);have e1:decide (((Utf8.decode ⟨x.toArray⟩ i).1:Int)<32)=false:=decide_eq_false (by omega);have e2:decide (126<((Utf8.decode ⟨x.toArray⟩ i).1:Int))=true:=decide_eq_true (by omega);simp only[go_sem,hlt,e1,e2];exact bad (by simp only[okB,show ¬ d.toNat≤126 from by omega,decide_false,Bool.false_and,Bool.and_false]) _
  ·have hix:i=x.length:=by omega
   simp only[go_sem,hlt];refine DK.st (s2:=s) ?_ (St.ge_new hb)
   have:isStr x=decide ((x.length:Int)≤200):=by
    rw[isStr]
    have:x.all okB=true:=by
     rw[List.all_eq_true];intro d hd;rw[hix,List.take_length] at hall;exact hall d hd
    rw[this,Bool.true_and];congr 1;simp;omega
   rwa[this] at hk
end Go.AV
end
section
namespace Go.AV
open Go Go.Proofs
theorem trimByte_den (s:St) (x:Str) (c:UInt8) (KV Kp) (hk:KV s (.str (x.dropWhile (eqB c)))):Den cx 323 [.str x,.int .u8 c.toNat] KV Kp s:=by
 refine Den.drop ?_;(refine Den.of_body (C:=cx) Tryz.func323 rfl rfl (gC6 rfl) ?_;refine wpC_ok (V:=[0,1,4,13]) _ _ _ _ ?_;simp only[go_sem,Tryz.ntmps323,Tryz.f323])
 refine Ex.loop (fun w=>[(0,.str w),(1,.int .u8 c.toNat)]) (fun _=>s)
  (fun w=>w.dropWhile (eqB c)=x.dropWhile (eqB c)) (fun w=>w.length) x rfl ?_ (St.ge.refl s) ?_
 ·simp only[go_sem]
 ·intro w hw;refine wpC_ok (V:=[0,1,4,13]) _ _ _ _ ?_;cases w with
  | nil =>
   simp only[go_sem,show decide ((0:Int)<((0:Nat):Int))=false from rfl];rw[← hw] at hk;exact DK.here hk
  | cons b r =>
   simp only[go_sem,show decide ((0:Int)<((r.length+1:Nat):Int))=true from decide_eq_true (by omega)]
   have e:decide (b.toNat=c.toNat)=eqB c b:=by
    unfold eqB;congr 1;exact propext UInt8.toNat_inj
   simp only[go_sem,e]
   (first|refine gC8 (fun h=>?_) (fun h=>?_)|refine gC9 (fun h=>?_) (fun h=>?_)|refine gD1 (fun h=>?_) (fun h=>?_))<;>simp only[go_sem,h]
   ·simp only[go_sem,show (1:Int)≤((r.length+1:Nat):Int) from by omega,show Int.toNat 1=1 from rfl];refine ⟨by decide,r,?_,by omega,?_,St.ge.refl s⟩
    ·rw[← hw,List.dropWhile_cons,if_pos h]
    ·exact List.take_of_length_le (by omega)
   ·rw[← hw,List.dropWhile_cons,if_neg (by simp[h])] at hk;exact DK.here hk
theorem trimLeft_den (s:St) (x:Str) (c:UInt8) (KV Kp) (hc:c.toNat<128) (hk:KV s (.str (x.dropWhile (eqB c)))):Den cx 314 [.str x,.str [c]] KV Kp s:=by
 refine Den.drop ?_;(refine Den.of_body (C:=cx) Tryz.func314 rfl rfl (gC6 rfl) ?_;refine wpC_ok (V:=[0,1,4,5,6,12,21,31]) _ _ _ _ ?_;simp only[go_sem,Tryz.ntmps314,Tryz.f314]);cases x with
 | nil =>
  simp only[go_sem];exact DK.here hk
 | cons b r =>
  simp only[go_sem,show decide (((1:Nat):Int)=1)=true from rfl,show decide ((c.toNat:Int)<128)=true from decide_eq_true (by omega)];refine trimByte_den _ _ _ _ _ ?_;simp only[go_sem];exact DK.here hk
end Go.AV
end
section
namespace Go.AV
open Go Go.Proofs
theorem numOf_app (x:Str) (d:UInt8):numOf (x++[d])=numOf x * 10+(d.toNat-48):=by
 simp[numOf,List.foldl_append]
theorem numOf_lt:∀ (n:Nat) (x:Str),x.length=n→digits x→numOf x<10 ^ n
 | 0,x,h,_=>by have:x=[]:=List.eq_nil_of_length_eq_zero h;subst this;simp[numOf]
 | n+1,x,h,hd=>by
  have hne:x≠[]:=by rintro rfl;simp at h
  obtain ⟨y,d,rfl⟩:∃ y d,x=y++[d]:=⟨x.dropLast,x.getLast hne,(List.dropLast_concat_getLast hne).symm⟩
  have ih:=numOf_lt n y (by simpa using h) (fun e he=>hd e (by simp[he]));have:=hd d (by simp);rw[numOf_app,Nat.pow_succ];omega
theorem atoi_den (s:St) (x:Str) (KV Kp) (hl:1≤x.length) (hl2:x.length≤11) (hd:digits x) (hk:KV s (.tuple [.int .i64 (numOf x),.nili])):Den cx 327 [.str x] KV Kp s:=by
 obtain ⟨b,r,rfl⟩:∃ b r,x=b::r:=by
  cases x with
  | nil=>simp at hl
  | cons b r=>exact ⟨b,r,rfl⟩
 have hb:=hd b (by simp);refine Den.drop ?_;(refine Den.of_body (C:=cx) Tryz.func327 rfl rfl (gC6 rfl) ?_;refine wpC_ok (V:=[0,2,3,4,5,6,8,9,10,30,39,44,47,48,49,50,56,66]) _ _ _ _ ?_;simp only[go_sem,Tryz.ntmps327,Tryz.f327]);have e1:decide ((0:Int)<((r.length+1:Nat):Int))=true:=decide_eq_true (by omega);have e2:decide (((r.length+1:Nat):Int)<19)=true:=decide_eq_true (by simp at hl2;omega);have e3:decide ((b.toNat:Int)=45)=false:=decide_eq_false (by omega);have e4:decide ((b.toNat:Int)=43)=false:=decide_eq_false (by omega);simp only[go_sem,e1,e2,e3,e4];refine ⟨by unfold maxLen;simp at hl2;omega,?_⟩;have hx:(b::r).length=r.length+1:=rfl;generalize hxx:b::r=x at *
 refine Ex.loop (fun i=>[(5,.str x),(6,.int .i64 (numOf (x.take i):Nat)),(47,.list none (x.map fun c=>.int .u8 c.toNat)),(48,.int .i64 ((r.length+1:Nat))),(49,.int .i64 (i:Nat)),(3,.nili)]) (fun _=>s)
  (fun i=>i≤x.length) (fun i=>x.length-i) 0 (Nat.zero_le _) ?_ (St.ge.refl s) ?_
 ·simp only[go_sem];subst hxx;exact ⟨rfl,rfl,rfl⟩
 ·intro i hi;refine wpC_ok (V:=[0,2,3,4,5,6,8,9,10,30,39,44,47,48,49,50,56,66]) _ _ _ _ ?_;simp only[go_sem]
  (first|refine gC8 (fun h=>?_) (fun h=>?_)|refine gC9 (fun h=>?_) (fun h=>?_)|refine gD1 (fun h=>?_) (fun h=>?_))<;>simp only[go_sem,h]
  ·have hix:i<x.length:=by simp at h;omega
   obtain ⟨d,hdd⟩:∃ d,x[i]?=some d:=⟨_,List.getElem?_eq_getElem hix⟩
   have hdig:=hd d (List.mem_of_getElem? hdd)
   have f1:IntKind.u8.wrap ((d.toNat:Int)-48)=((d.toNat-48:Nat):Int):=by
    have e0:((d.toNat:Int)-48) % 2 ^ 8=(d.toNat:Int)-48:=by omega
    simp only[IntKind.wrap,IntKind.signed,IntKind.bits,Bool.false_and,gD7,if_false,e0];omega
   have hn:numOf (x.take i)<10 ^ 11:=by
    have h1:=numOf_lt (x.take i).length (x.take i) rfl (fun e he=>hd e (List.mem_of_mem_take he));have h2:(x.take i).length≤11:=by rw[List.length_take];omega
    exact Nat.lt_of_lt_of_le h1 (Nat.pow_le_pow_right (by decide) h2)
   have f2:decide ((9:Int)<((d.toNat-48:Nat):Int))=false:=decide_eq_false (by omega)
   have f3:IntKind.i64.wrap (((numOf (x.take i):Nat):Int) * 10)=((numOf (x.take i) * 10:Nat):Int):=by
    rw[wrap_in _ (by omega) (by omega)];omega
   have f4:IntKind.i64.wrap ((d.toNat-48:Nat):Int)=((d.toNat-48:Nat):Int):=wrap_in _ (by omega) (by omega)
   have f5:IntKind.i64.wrap (((numOf (x.take i) * 10:Nat):Int)+((d.toNat-48:Nat):Int))=((numOf (x.take (i+1)):Nat):Int):=by
    rw[List.take_add_one,hdd];show _=((numOf (x.take i++[d]):Nat):Int);rw[numOf_app,wrap_in _ (by omega) (by omega)];omega
   simp only[go_sem,hdd,hix,f1,f2,f3,f4,f5,wrap1 i (by omega)];exact ⟨i+1,by omega,by omega,⟨rfl,rfl⟩,St.ge.refl s⟩
  ·have hix:i=x.length:=by simp at h;omega
   have h0:x[0]?=some b:=by rw[← hxx];rfl
   have hl0:0<x.length:=by omega
   simp only[go_sem,h0,hl0,e3];rw[hix,List.take_length];exact DK.here hk
theorem atoi315_den (s:St) (x:Str) (KV Kp) (hl:1≤x.length) (hl2:x.length≤11) (hd:digits x) (hk:KV s (.tuple [.int .i64 (numOf x),.nili])):Den cx 315 [.str x] KV Kp s:=by
 refine Den.drop ?_;(refine Den.of_body (C:=cx) Tryz.func315 rfl rfl (gC6 rfl) ?_;refine wpC_ok (V:=[0,2,3,4,5,12]) _ _ _ _ ?_;simp only[go_sem,Tryz.ntmps315,Tryz.f315]);refine atoi_den _ _ _ _ hl hl2 hd ?_;simp only[go_sem];exact DK.here hk
end Go.AV
end
section
namespace Go.AV
open Go Go.Proofs
theorem number_den (s:St) (x:Str) (KV Kp) (hx:x.length≤4294967296) (hk:KV s (.tuple [(numTok x).1.enc,.int .i64 (numTok x).2.1,.bool (numTok x).2.2])):Den cx 302 [.str x] KV Kp s:=by
 refine Den.drop ?_;(refine Den.of_body (C:=cx) Tryz.func302 rfl rfl (gC6 rfl) ?_;refine wpC_ok (V:=[0,2,3,4,5,6,28]) _ _ _ _ ?_;simp only[go_sem,Tryz.ntmps302,Tryz.f302]);intro b hb;simp only[go_sem,hb];refine run_den _ _ _ (fun c=>isDig c.toNat) _ _ hx (fun c KV Kp h=>isDigit_den _ _ _ _ h) ?_;generalize hn:(x.takeWhile fun c=>isDig c.toNat).length=n at hk;have hnl:n≤x.length:=by rw[← hn];exact (List.takeWhile_sublist _).length_le
 simp only[go_sem,hnl];refine trimLeft_den _ _ 48 _ _ (by decide) ?_;simp only[go_sem];generalize hg:(x.take n).dropWhile (eqB 48)=g at hk
 have bad:(10<g.length∨(∃ c,x[n]?=some c∧isPart c.toNat=true))→numTok x=(⟨0,[],0,0,0⟩,0,false):=by
  intro hh;simp only[numTok,hn,hg,if_pos hh]
 have good:¬ (10<g.length∨(∃ c,x[n]?=some c∧isPart c.toNat=true))→numTok x=(⟨2,[],numOf g,0,0⟩,n,decide (numOf g≤2147483647)):=by
  intro hh;simp only[numTok,hn,hg,if_neg hh]
 have hdg:digits g:=by
  intro d hd;rw[← hg] at hd;have h1:=(List.dropWhile_sublist _).mem hd;rw[← hn] at h1
  have h2:d∈x.takeWhile fun c=>isDig c.toNat:=by
   have:=List.mem_of_mem_take (l:=x) h1
   have e:x.take (x.takeWhile fun c=>isDig c.toNat).length=x.takeWhile fun c=>isDig c.toNat:=by
    conv=>lhs;arg 2;rw[← List.takeWhile_append_dropWhile (p:=fun c=>isDig c.toNat) (l:=x)]
    rw[List.take_left'];rfl
   rw[e] at h1;exact h1
  have h3:=List.all_eq_true.1 (List.all_takeWhile (p:=fun c:UInt8=>isDig c.toNat) (l:=x)) d h2;simp only[isDig,gD5,decide_eq_true_eq] at h3;omega
 (first|refine gC8 (fun h=>?_) (fun h=>?_)|refine gC9 (fun h=>?_) (fun h=>?_)|refine gD1 (fun h=>?_) (fun h=>?_))<;>simp only[go_sem,h,hb]
 ·rw[bad (.inl (by simp at h;omega))] at hk;exact DK.st hk (St.ge_new hb)
 ·have hg10:¬ 10<g.length:=by simp at h;omega
  (first|refine gC8 (fun h=>?_) (fun h=>?_)|refine gC9 (fun h=>?_) (fun h=>?_)|refine gD1 (fun h=>?_) (fun h=>?_))<;>simp only[go_sem,h,hb]
  ·have hlt:n<x.length:=by simpa using h
   obtain ⟨c,hc⟩:∃ c,x[n]?=some c:=⟨_,List.getElem?_eq_getElem hlt⟩
   simp only[go_sem,hc,hlt,hb];refine isPart_den _ _ _ _ ?_;simp only[go_sem,hb]
   (first|refine gC8 (fun h=>?_) (fun h=>?_)|refine gC9 (fun h=>?_) (fun h=>?_)|refine gD1 (fun h=>?_) (fun h=>?_))<;>simp only[go_sem,h,hb]
   ·rw[bad (.inr ⟨c,hc,h⟩)] at hk;exact DK.st hk (St.ge_new hb)
   ·have hno:¬ (10<g.length∨(∃ c,x[n]?=some c∧isPart c.toNat=true)):=by
     rintro (h1|⟨c',h1,h2⟩)
     ·exact hg10 h1
     ·rw[hc] at h1;cases h1;rw[h] at h2;cases h2
    have hgd:=good hno;rw[hgd] at hk;have m1:(48::g).length≤11:=by simp;omega
    refine ⟨by unfold maxLen;omega,?_⟩
    refine atoi315_den _ _ _ _ (by simp) m1 (fun d hd=>by
     simp only[gC5] at hd;rcases hd with rfl|hd
     ·decide
     ·exact hdg d hd) ?_
    have m2:numOf (48::g)=numOf g:=rfl;simp only[go_sem,hb,m2];have m3:decide (((numOf g:Nat):Int)≤2147483647)=decide (numOf g≤2147483647):=by congr 1;simp only[eq_iff_iff];omega
    rw[m3];exact DK.st hk (St.ge_new hb)
  ·have hno:¬ (10<g.length∨(∃ c,x[n]?=some c∧isPart c.toNat=true)):=by
    rintro (h1|⟨c',h1,h2⟩)
    ·exact hg10 h1
    ·have:=(List.getElem?_eq_some_iff.1 h1).1;simp at h;omega
   have hgd:=good hno;rw[hgd] at hk;have m1:(48::g).length≤11:=by simp;omega
   refine ⟨by unfold maxLen;omega,?_⟩
   refine atoi315_den _ _ _ _ (by simp) m1 (fun d hd=>by
    simp only[gC5] at hd;rcases hd with rfl|hd
    ·decide
    ·exact hdg d hd) ?_
   have m2:numOf (48::g)=numOf g:=rfl;simp only[go_sem,hb,m2];have m3:decide (((numOf g:Nat):Int)≤2147483647)=decide (numOf g≤2147483647):=by congr 1;simp only[eq_iff_iff];omega
   rw[m3];exact DK.st hk (St.ge_new hb)
end Go.AV
end
section
namespace Go.AV
open Go Go.Proofs
theorem count142_den (s:St) (x:Str) (c:UInt8) (KV Kp) (hk:KV s (.int .i64 (x.count c:Nat))):Den cx 142 [.str x,.str [c]] KV Kp s:=by
 refine Den.drop ?_;(refine Den.of_body (C:=cx) Tryz.func142 rfl rfl (gC6 rfl) ?_;refine wpC_ok (V:=[0,1,4,5,6,9,15,24]) _ _ _ _ ?_;simp only[go_sem,Tryz.ntmps142,Tryz.f142]);simp only[go_sem,show decide (((1:Nat):Int)=0)=false from rfl,show decide (((1:Nat):Int)=1)=true from rfl];refine count217_den _ _ _ _ _ ?_;simp only[go_sem];exact DK.here hk
theorem slIndex_den (s:St) (l:List Str) (x:Str) (KV Kp) (hk:∀ r:Int,(0≤r↔x∈l)→KV s (.int .i64 r)):Den cx 198 [.list none (l.map .str),.str x] KV Kp s:=by
 refine Den.rlz fun hz1=>?_
 have hlw:=hz1 _ (List.mem_cons_self ..);refine Den.drop ?_;(refine Den.of_body (C:=cx) Tryz.func198 rfl rfl (gC6 rfl) ?_;refine wpC_ok (V:=[0,1,4,5,7,8,9,16]) _ _ _ _ ?_;simp only[go_sem,Tryz.ntmps198,Tryz.f198])
 refine Ex.loop (fun i=>[(0,.list none (l.map .str)),(1,.str x),(7,.int .i64 l.length),(8,.int .i64 (i:Nat))]) (fun _=>s)
  (fun i=>i≤l.length∧∀ j,j<i→l[j]?≠some x) (fun i=>l.length-i) 0 ⟨Nat.zero_le _,fun j hj=>by omega⟩ ?_ (St.ge.refl s) ?_
 ·simp only[go_sem];rfl
 ·rintro i ⟨hi,hall⟩;refine wpC_ok (V:=[0,1,4,5,7,8,9,16]) _ _ _ _ ?_;simp only[go_sem]
  (first|refine gC8 (fun h=>?_) (fun h=>?_)|refine gC9 (fun h=>?_) (fun h=>?_)|refine gD1 (fun h=>?_) (fun h=>?_))<;>simp only[go_sem,h]
  ·have hix:i<l.length:=by simpa using h
   obtain ⟨a,ha⟩:∃ a,l[i]?=some a:=⟨_,List.getElem?_eq_getElem hix⟩
   simp only[go_sem,ha,hix]
   (first|refine gC8 (fun h=>?_) (fun h=>?_)|refine gC9 (fun h=>?_) (fun h=>?_)|refine gD1 (fun h=>?_) (fun h=>?_))<;>simp only[go_sem,h]
   ·have hxa:x=a:=by simpa using h
    subst hxa;have hm:x∈l:=List.mem_of_getElem? ha;exact DK.here (hk _ ⟨fun _=>hm,fun _=>by omega⟩)
   ·have hxa:¬ x=a:=by simpa using h
    refine ⟨i+1,⟨by omega,fun j hj=>?_⟩,by omega,?_,St.ge.refl s⟩
    ·by_cases hji:j=i
     ·subst hji;rw[ha];simpa [eq_comm] using hxa
     ·exact hall j (by omega)
    ·simp only[go_sem,hlw.wrap (i:=i) (by simpa using hix)]
  ·have hix:i=l.length:=by simp at h;omega
   have hm:¬ x∈l:=by
    intro hm;obtain ⟨j,hj,e⟩:=List.getElem_of_mem hm;exact hall j (by omega) (by rw[List.getElem?_eq_getElem hj,e])
   exact DK.here (hk _ ⟨fun h=>absurd h (by decide),fun h=>absurd h hm⟩)
theorem contains_den (s:St) (l:List Str) (x:Str) (KV Kp) (hk:KV s (.bool (decide (x∈l)))):Den cx 108 [.list none (l.map .str),.str x] KV Kp s:=by
 refine Den.drop ?_;(refine Den.of_body (C:=cx) Tryz.func108 rfl rfl (gC6 rfl) ?_;refine wpC_ok (V:=[0,1,4]) _ _ _ _ ?_;simp only[go_sem,Tryz.ntmps108,Tryz.f108]);refine slIndex_den _ _ _ _ _ fun r hr=>?_
 simp only[go_sem];have:decide (0≤r)=decide (x∈l):=by simp only[hr]
 rw[this];exact DK.here hk
end Go.AV
end
section
namespace Go.AV
open Go Go.Proofs
def or5:Tr (OT × List (Nat × List Nat)):=(.nd (.nd .lf none (.nd .lf (some ((OT.l [0,1,2,3,4,5,6,7,8,9,11,10,12,13,14] .nil),[(10,[11])])) .lf)) none .lf)
def or6:Tr (OT × List (Nat × List Nat)):=(.nd (.nd (.nd .lf (some ((OT.l [0,1,3,4,2,5,6,7,8,9,11,12,10,13,14,15,16,17,18,19,20,21,22,23,24] .nil),[(2,[3,4,8,9,11,12,17,18]),(5,[8,9,11,12,17,18]),(10,[11,12,17,18]),(13,[17,18])])) .lf) none .lf) none .lf)
def or15:Tr (OT × List (Nat × List Nat)):=(.nd (.nd (.nd .lf (some ((OT.l [0,1,2,3] .nil),[(2,[1])])) .lf) none .lf) none .lf)
def or16:Tr (OT × List (Nat × List Nat)):=(.nd (.nd (.nd .lf (some ((OT.l [0,1,2,3] .nil),[(2,[1])])) .lf) none .lf) none .lf)
def or17:Tr (OT × List (Nat × List Nat)):=(.nd .lf none (.nd (.nd .lf none (.nd .lf (some ((OT.l [0,1,2,3,4,5,6,7,8,9,10,11,12,13,14,15,16,17,18,19] .nil),[])) .lf)) none (.nd (.nd (.nd .lf (some ((OT.l [0,1,2,3,4,5,6,7,8,9,10,11,12,13,14,15,16,17,18,19] .nil),[])) .lf) none .lf) (some ((OT.l [0,1,2,3,4,5,6,7,8,9,10,11,12,13,14,15,16,17,18,19] .nil),[])) (.nd .lf none (.nd .lf (some ((OT.l [0,1,2,3,4,5,6,7,8,9,10,11,12,13,14,15,16,17,18,19] .nil),[])) .lf)))))
def or18:Tr (OT × List (Nat × List Nat)):=(.nd (.nd (.nd .lf (some ((OT.l [0,1,2,3] .nil),[(2,[1])])) .lf) none .lf) none (.nd (.nd (.nd .lf (some ((OT.l [0,1,2,3] .nil),[(2,[1])])) .lf) none .lf) none (.nd .lf (some ((OT.l [0,1,2,3,4,5,6,7,8,9] .nil),[])) .lf)))
def or19:Tr (OT × List (Nat × List Nat)):=(.nd (.nd (.nd .lf (some ((OT.l [0,1,2,3] .nil),[(2,[1])])) .lf) none .lf) none (.nd .lf none (.nd (.nd .lf (some ((OT.l [0,1,2,3,4,5,6] .nil),[(5,[4])])) .lf) none .lf)))
def or22:Tr (OT × List (Nat × List Nat)):=(.nd (.nd (.nd .lf none (.nd (.nd .lf (some ((OT.l [0,1,2,3,4,5,6,7,9,10,11,12,8,13,14,15,16,17,18] .nil),[(8,[2,10]),(13,[2]),(14,[2])])) .lf) none .lf)) none .lf) none (.nd (.nd (.nd .lf none (.nd .lf (some ((OT.l [0,1,2,6,7,10,11,3,4,5,8,9,12,13,14,15,16] .nil),[(3,[7,11]),(8,[11])])) .lf)) none .lf) none (.nd .lf none (.nd (.nd (.nd .lf (some ((OT.l [0,1,2,3,4,5,6,7,8,9,10,11] .nil),[(6,[2])])) .lf) none .lf) none .lf))))
def or29:Tr (OT × List (Nat × List Nat)):=(.nd .lf none (.nd (.nd .lf none (.nd .lf (some ((OT.l [0,1,2,3,4,5,6,7,8,9,10,11] .nil),[])) .lf)) none (.nd .lf (some ((OT.l [0,1,2,3,4,5,6,7,8,9,10,11,12,13,14,15,16,17,18,19,20,21,22,23,24,25,26,27,28,29,30,31,32,33] .nil),[(8,[12,14,18,24,26,30]),(19,[24,26,30])])) .lf)))
def or34:Tr (OT × List (Nat × List Nat)):=(.nd (.nd .lf none (.nd .lf (some ((OT.l [0,1,2,4,5,8,3,6,7] .nil),[(3,[5])])) .lf)) none .lf)
def or38:Tr (OT × List (Nat × List Nat)):=(.nd (.nd (.nd (.nd .lf (some ((OT.l [0,1,2,3,4,5,6] .nil),[(5,[4])])) .lf) none .lf) none (.nd .lf (some ((OT.l [0,1,2,3,4,5,6,7,8,9] .nil),[])) .lf)) none .lf)
def or39:Tr (OT × List (Nat × List Nat)):=(.nd (.nd .lf none (.nd (.nd .lf (some ((OT.l [0,1,2,3,4,5,6] .nil),[(5,[4])])) .lf) none .lf)) none (.nd .lf none (.nd .lf (some ((OT.l [0,1,2,3,4,5,6,7,8,9,10,11,12,13] .nil),[(1,[6,10])])) .lf)))
def or41:Tr (OT × List (Nat × List Nat)):=(.nd (.nd .lf (some ((OT.l [0,1,2,3,4,5,6,7,8,9,10] .nil),[(8,[3,7]),(9,[7])])) .lf) none .lf)
def or42:Tr (OT × List (Nat × List Nat)):=(.nd (.nd .lf (some ((OT.l [0,1,3,4,5,6,2,7,8,9] .nil),[(2,[4,6])])) .lf) none .lf)
def or43:Tr (OT × List (Nat × List Nat)):=(.nd (.nd (.nd .lf (some ((OT.l [0,1,2,3,4,5,6,7,8,9] .nil),[])) .lf) none .lf) none .lf)
def or46:Tr (OT × List (Nat × List Nat)):=(.nd .lf none (.nd .lf (some ((OT.l [0,1,2,3,4,5,6,7,8,9,10,11,12] .nil),[])) .lf))
def or47:Tr (OT × List (Nat × List Nat)):=(.nd .lf none (.nd .lf none (.nd .lf (some ((OT.l [0,1,2,3,4,5,6,7,8,9] .nil),[])) .lf)))
def or48:Tr (OT × List (Nat × List Nat)):=(.nd .lf none (.nd (.nd .lf (some ((OT.l [0,1,2,4,5,8,3,6,7] .nil),[(3,[5])])) .lf) none .lf))
def or49:Tr (OT × List (Nat × List Nat)):=(.nd (.nd (.nd (.nd .lf (some ((OT.l [0,1,2,4,5,8,3,6,7] .nil),[(3,[5])])) .lf) none .lf) none (.nd .lf (some ((OT.l [0,1,2,3,4,5,7,8,6,9,10] .nil),[(6,[8])])) .lf)) none (.nd .lf none (.nd (.nd (.nd .lf (some ((OT.l [0,1,2,3,5,6,4,7,8] .nil),[(4,[6])])) .lf) none .lf) none .lf)))
def or52:Tr (OT × List (Nat × List Nat)):=(.nd (.nd (.nd .lf none (.nd (.nd .lf (some ((OT.l [0,1,4,5,6,7,8,9,2,3,10,11,12,13] .nil),[(2,[5,7])])) .lf) none .lf)) none (.nd (.nd (.nd .lf (some ((OT.l [0,1,2,3,4,5,6,7,8] .nil),[(5,[1])])) .lf) none .lf) none .lf)) none (.nd .lf none (.nd (.nd .lf none (.nd .lf (some ((OT.l [0,1,2,3,4,5,8,9,10,11,12,13,6,7,14,15,16,17] .nil),[(6,[9,13])])) .lf)) none .lf)))
def or54:Tr (OT × List (Nat × List Nat)):=(.nd (.nd .lf (some ((OT.l [0,1,2,3,4,5,6,7,8,9,10,11] .nil),[(9,[1,4])])) .lf) none .lf)
def or55:Tr (OT × List (Nat × List Nat)):=(.nd .lf none (.nd .lf none (.nd (.nd .lf none (.nd .lf (some ((OT.l [0,1,2,3,4,7,8,5,6,9,10,11] .nil),[(5,[1,8]),(9,[1])])) .lf)) none .lf)))
def or58:Tr (OT × List (Nat × List Nat)):=(.nd .lf none (.nd .lf none (.nd .lf (some ((OT.l [0,1,2,3,4,5,6,7,8,9] .nil),[])) .lf)))
def or60:Tr (OT × List (Nat × List Nat)):=(.nd (.nd (.nd (.nd .lf (some ((OT.l [0,1,2,3,4,6,7,8,10,11,12,14,15,16,17,5,9,13,18,19,20,21,22] .nil),[(5,[1,6,8,10,12,15,17]),(9,[1,10,12,15,17]),(13,[1,15,17])])) .lf) (some ((OT.l [0,1,2,4,5,6,7,9,10,11,13,14,15,17,18,19,21,22,23,25,26,27,3,8,12,16,20,24,28,29,30,31] .nil),[(3,[5,6,9,11,13,15,17,19,21,23,25,27]),(8,[9,11,13,15,17,19,21,23,25,27]),(12,[13,15,17,19,21,23,25,27]),(16,[17,19,21,23,25,27]),(20,[21,23,25,27]),(24,[25,27]),(30,[0,2,5,6,9,11,13,15,17,19,21,23,25,27])])) .lf) none .lf) none (.nd (.nd .lf none (.nd .lf (some ((OT.l [0,1,2,3,4,5,6,7,8] .nil),[(4,[1])])) .lf)) none .lf))
def or64:Tr (OT × List (Nat × List Nat)):=(.nd (.nd (.nd (.nd .lf (some ((OT.l [0,1,2,3,4,5,7,8,9,6,10,11,12,13,14,15,16] .nil),[(6,[2,7,9]),(10,[2])])) .lf) (some ((OT.l [0,1,2,3,5,6,7,8,10,11,12,13,15,16,17,18,4,9,14,19,20,21,22] .nil),[(4,[5,8,10,13,15,18]),(9,[10,13,15,18]),(14,[15,18])])) .lf) none .lf) none (.nd (.nd .lf none (.nd .lf (some ((OT.l [0,1,2,4,5,6,8,9,10,3,12,7,11,13,14,15,16,17] .nil),[(3,[4,6,8,10]),(7,[8,10])])) .lf)) (some ((OT.l [0,1,2,4,5,6,8,9,10,12,13,14,16,17,18,20,21,22,3,7,11,15,19,23,24,25,26] .nil),[(3,[4,6,8,10,12,14,16,18,20,22]),(7,[8,10,12,14,16,18,20,22]),(11,[12,14,16,18,20,22]),(15,[16,18,20,22]),(19,[20,22]),(25,[0,2,4,6,8,10,12,14,16,18,20,22])])) (.nd (.nd (.nd .lf (some ((OT.l [0,1,2,3,4,5,6,7,8] .nil),[(4,[1])])) .lf) none .lf) none .lf)))
def or65:Tr (OT × List (Nat × List Nat)):=(.nd .lf none (.nd .lf none (.nd .lf (some ((OT.l [0,1,2,3,4,5,6,7,8,9,10] .nil),[])) .lf)))
def or66:Tr (OT × List (Nat × List Nat)):=(.nd .lf none (.nd .lf none (.nd .lf (some ((OT.l [0,1,2,3,4,5,6,7,8,9,10,11,12,13,14,15,16,17,18,19,20,21,22,23,24,25,26,27,28,29,30,31,32,33,34,35,36,37] .nil),[])) .lf)))
def or67:Tr (OT × List (Nat × List Nat)):=(.nd (.nd (.nd .lf none (.nd (.nd .lf (some ((OT.l [0,1,2,3,4,5,6,7,8,9,10] .nil),[])) .lf) none .lf)) none (.nd .lf none (.nd .lf (some ((OT.l [0,1,2,3,4,5,6,7,8,9,10,11,12,13] .nil),[])) .lf))) none .lf)
def or75:Tr (OT × List (Nat × List Nat)):=(.nd (.nd .lf none (.nd (.nd .lf (some ((OT.l [0,1,2,3,4,5] .nil),[])) .lf) none .lf)) none .lf)
def or83:Tr (OT × List (Nat × List Nat)):=(.nd (.nd (.nd .lf (some ((OT.l [0,1,2] .nil),[])) .lf) none (.nd .lf (some ((OT.l [0,1,2,4,3,5,6] .nil),[(3,[4])])) .lf)) none .lf)
def or86:Tr (OT × List (Nat × List Nat)):=(.nd (.nd (.nd (.nd .lf (some ((OT.l [0,1,2,3,4,5,6,7] .nil),[])) .lf) none (.nd (.nd .lf (some ((OT.l [0,1,2,3,4,5,6,7,8,9,10,11,12,13] .nil),[(7,[0,1,5]),(9,[0])])) .lf) none .lf)) none .lf) none (.nd (.nd (.nd (.nd (.nd .lf (some ((OT.l [0,1,2,3,4,5,6,7,8,9,10,11,12] .nil),[(7,[0,1,4]),(9,[0])])) .lf) (some ((OT.l [0,1,2,3,4,5,6,7,8,9,10,11,12,13,14] .nil),[])) .lf) none (.nd .lf (some ((OT.l [0,2,3,4,5,1,6,7,8] .nil),[(1,[3,5]),(7,[0,3,5])])) .lf)) none (.nd (.nd .lf (some ((OT.l [0,1,2,3,4,5,6,7,8,9,10,11,12,13] .nil),[(7,[0,1,5]),(9,[0])])) .lf) (some ((OT.l [0,1,2,3,4,5,6,7,8,9,10,11,12] .nil),[(8,[0])])) (.nd .lf (some ((OT.l [0,1,2,3,4,5,6,7,8,9,10] .nil),[(7,[0])])) .lf))) none (.nd .lf none (.nd (.nd .lf (some ((OT.l [0,1,2,3,4,5,6] .nil),[])) .lf) (some ((OT.l [0,1,2,3,4,5,6,7,8,9,10,11,12,13,14] .nil),[(9,[0,1,5]),(10,[0])])) (.nd .lf (some ((OT.l [0,1,2,3,4,5,6] .nil),[])) .lf)))))
def or88:Tr (OT × List (Nat × List Nat)):=(.nd (.nd .lf none (.nd .lf (some ((OT.l [0,1,2,3,4,5,6,7,8,9,10,11,12] .nil),[])) .lf)) none .lf)
def or90:Tr (OT × List (Nat × List Nat)):=(.nd (.nd (.nd (.nd (.nd .lf (some ((OT.l [0,1,2,3,4,5,6,7,8,9,10,11,12,13,14] .nil),[])) .lf) none (.nd .lf (some ((OT.l [0,1,2,3,4,5,6,7,8,9,10,11,12,13,14,15,16] .nil),[])) .lf)) none (.nd .lf none (.nd .lf (some ((OT.l [0,1,2,3,4,5,6,7,8,9,10,11,12,13,14,15,16] .nil),[])) .lf))) none (.nd .lf none (.nd (.nd .lf (some ((OT.l [0,1,2,3,4,5,6,7,8,9,10,11,12,13,14,15] .nil),[(8,[6])])) .lf) none .lf))) none (.nd (.nd (.nd .lf (some ((OT.l [0,1,2,3,4,5,6,7,8,9,10,11,12,13,14,15] .nil),[(8,[6])])) .lf) none .lf) none .lf))
def or91:Tr (OT × List (Nat × List Nat)):=(.nd (.nd (.nd .lf (some ((OT.l [0,1,2,3,4,5,6,7,8,9,10] .nil),[])) .lf) (some ((OT.l [0,1,2,3,4,5,6,7,8,9] .nil),[])) .lf) none .lf)
def or94:Tr (OT × List (Nat × List Nat)):=(.nd .lf none (.nd .lf (some ((OT.l [0,1,2,3,4,5,6,7,8,9] .nil),[])) .lf))
def or95:Tr (OT × List (Nat × List Nat)):=(.nd (.nd .lf none (.nd (.nd .lf (some ((OT.l [0,1,2,3,4,5,6,7,8,9,10,11] .nil),[(10,[3,7,9])])) .lf) none .lf)) none .lf)
def or103:Tr (OT × List (Nat × List Nat)):=(.nd (.nd .lf (some ((OT.l [0,1,2,3,5,6,7,8,9,4,10,11] .nil),[(4,[8])])) .lf) none .lf)
def or104:Tr (OT × List (Nat × List Nat)):=(.nd (.nd (.nd .lf (some ((OT.l [0,1,2,3,4,5,6,7,8,9,10,11,12,13,14,15,16,17,18,19,20,21] .nil),[])) .lf) (some ((OT.l [0,1,2,3,4,5,6,7,8,9] .nil),[])) .lf) (some ((OT.l [0,1,2,3,4,5,6,7,8,9,10,11,12,13,14,15,16,17,18,19,20,21,22,23,24,25] .nil),[])) .lf)
def or105:Tr (OT × List (Nat × List Nat)):=(.nd (.nd (.nd (.nd (.nd .lf (some ((OT.l [0,1,2,3,4,5,6,7,8,9,10,11,12,13,14,15,16,17,18] .nil),[])) .lf) none .lf) none .lf) none .lf) (some ((OT.l [0,1,2,3,4,5,6,7,8,9] .nil),[])) .lf)
def or111:Tr (OT × List (Nat × List Nat)):=(.nd (.nd (.nd .lf (some ((OT.l [0,1,2,3,4,5,6,7] .nil),[])) .lf) none .lf) none .lf)
def or112:Tr (OT × List (Nat × List Nat)):=(.nd (.nd (.nd (.nd .lf (some ((OT.l [0,1,2,3,4,6,7,8,5,9,10,11,12,13,14] .nil),[(5,[1,6,8]),(9,[1])])) .lf) (some ((OT.l [0,1,2,3,5,6,7,8,10,11,12,14,15,16,4,9,13,17,18,19,20] .nil),[(4,[5,7,8,12,16]),(9,[12,16]),(13,[16]),(19,[0,2,3,5,7,8,12,16])])) .lf) none .lf) none .lf)
def or113:Tr (OT × List (Nat × List Nat)):=(.nd (.nd .lf none (.nd .lf (some ((OT.l [0,1,2,4,5,6,8,9,10,3,12,7,11,13,14,15,16,17] .nil),[(3,[6,10]),(7,[10])])) .lf)) none .lf)
def or116:Tr (OT × List (Nat × List Nat)):=(.nd (.nd (.nd (.nd .lf (some ((OT.l [0,1,2,4,5,6,8,9,10,3,12,7,11,13,14,15,16,17] .nil),[(3,[6,10]),(7,[10])])) .lf) none .lf) (some ((OT.l [0,1,2,4,5,6,8,9,10,11,3,7,12,13,14] .nil),[(3,[6,9,11]),(7,[9,11]),(13,[2,6,9,11])])) (.nd .lf none (.nd .lf (some ((OT.l [0,1,2,3,4,5,6,7,8,9,10] .nil),[(5,[1])])) .lf))) none (.nd .lf none (.nd (.nd (.nd .lf (some ((OT.l [0,1,2,3,4,5,6,7,8] .nil),[(4,[1])])) .lf) none .lf) none .lf)))
def or122:Tr (OT × List (Nat × List Nat)):=(.nd (.nd .lf none (.nd .lf (some ((OT.l [0,1,2,4,5,6,8,9,10,3,12,7,11,13,14,15,16,17] .nil),[(3,[4,6,8,10]),(7,[8,10])])) .lf)) none .lf)
def or124:Tr (OT × List (Nat × List Nat)):=(.nd .lf none (.nd .lf none (.nd .lf (some ((OT.l [0,1,2,4,5,6,8,9,10,3,12,7,11,13,14,15,16,17,18,19] .nil),[(3,[4,6,8,10]),(7,[8,10])])) .lf)))
def or127:Tr (OT × List (Nat × List Nat)):=(.nd (.nd (.nd .lf none (.nd .lf (some ((OT.l [0,1,2,3,4,5,6,7,8,9,10] .nil),[(5,[1])])) .lf)) (some ((OT.l [0,1,2,4,5,6,8,9,10,12,13,14,15,3,7,11,16,17,18] .nil),[(3,[4,6,8,10,13,15]),(7,[8,10,13,15]),(11,[13,15]),(17,[0,2,4,6,8,10,13,15])])) (.nd .lf (some ((OT.l [0,1,2,4,5,6,8,9,10,12,13,14,3,16,7,11,15,17,18,19,20,21,22,23] .nil),[(3,[4,6,8,10,12,14]),(7,[8,10,12,14]),(11,[12,14])])) .lf)) none .lf)
def or128:Tr (OT × List (Nat × List Nat)):=(.nd .lf none (.nd .lf none (.nd .lf (some ((OT.l [0,1,2,3,4,5,6,7,8] .nil),[])) .lf)))
def or129:Tr (OT × List (Nat × List Nat)):=(.nd .lf none (.nd .lf none (.nd .lf (some ((OT.l [0,1,2,3,4,5,6,7,8,9] .nil),[])) .lf)))
def or130:Tr (OT × List (Nat × List Nat)):=(.nd .lf none (.nd .lf none (.nd .lf (some ((OT.l [0,1,2,3,4,5,6,7,8] .nil),[])) .lf)))
def or131:Tr (OT × List (Nat × List Nat)):=(.nd .lf none (.nd .lf none (.nd .lf (some ((OT.l [0,1,2,3,4,5,6,7,8] .nil),[])) .lf)))
def or140:Tr (OT × List (Nat × List Nat)):=(.nd (.nd (.nd (.nd (.nd .lf (some ((OT.l [0,1,2,3,4,5] .nil),[])) .lf) (some ((OT.l [0,1,2,3,4,5,6,7] .nil),[])) .lf) (some ((OT.l [0,1,2,3,4,5,6] .nil),[])) (.nd .lf (some ((OT.l [0,1,2,3,4,5,6] .nil),[])) .lf)) none (.nd (.nd (.nd .lf (some ((OT.l [0,1,2,3,4,5,6] .nil),[])) .lf) (some ((OT.l [0,1,2,3,4,5,6] .nil),[])) .lf) (some ((OT.l [0,1,2,3,4,5,6,7] .nil),[])) .lf)) none .lf)
def or147:Tr (OT × List (Nat × List Nat)):=(.nd (.nd (.nd .lf (some ((OT.l [0,1,2,3,4,5,6,7] .nil),[])) .lf) none .lf) none (.nd (.nd .lf (some ((OT.l [0,1,2,3,4,5,6,7,8,9,10,11,12,13] .nil),[(7,[0,1,5]),(9,[0])])) .lf) none .lf))
def or149:Tr (OT × List (Nat × List Nat)):=(.nd (.nd (.nd .lf (some ((OT.l [0,1,2,3,4,5,6,7,8,9,10,11] .nil),[(10,[3,7,9])])) .lf) (some ((OT.l [0,1,2,3,4,5,6,7,8,9] .nil),[])) .lf) none .lf)
def or152:Tr (OT × List (Nat × List Nat)):=(.nd (.nd (.nd (.nd .lf (some ((OT.l [0,1,2,3,4,5,6,7] .nil),[(3,[1])])) .lf) none .lf) none .lf) none .lf)
def or154:Tr (OT × List (Nat × List Nat)):=(.nd (.nd .lf (some ((OT.l [0,2,3,4,5,1,6,7,8] .nil),[(1,[3,5]),(7,[3,5])])) .lf) none .lf)
def or155:Tr (OT × List (Nat × List Nat)):=(.nd (.nd (.nd .lf none (.nd .lf (some ((OT.l [0,1,2,3,4,5,6] .nil),[])) .lf)) none (.nd (.nd .lf (some ((OT.l [0,1,2,3,4,5] .nil),[(2,[0])])) .lf) none (.nd .lf (some ((OT.l [0,1,2,3,4,5,6,7,8,9,10,11] .nil),[(6,[0,1,4]),(8,[0])])) .lf))) none (.nd (.nd (.nd (.nd .lf (some ((OT.l [0,1,2,3,4,5] .nil),[(2,[0])])) .lf) none .lf) none .lf) none (.nd .lf (some ((OT.l [0,1,2,3,4,5] .nil),[(2,[0])])) .lf)))
def or156:Tr (OT × List (Nat × List Nat)):=(.nd (.nd .lf (some ((OT.l [0,1,2,3,4,5,6,7,8,9,10,11,12,13,14,15,16,17,18,19,20,21,22,23,24,25,26,27,28,29,30,31,32,33,34,35,36,37,38,39,40,41,42,43,44] .nil),[(1,[6,10,18,22,25,33,37,40])])) .lf) none .lf)
def or157:Tr (OT × List (Nat × List Nat)):=(.nd (.nd .lf (some ((OT.l [0,1,2,3,4,5,6,7,8,9,10,11,12,13,14,15,16,17,18,19,20,21,22,23,24,25,26,27,28,29,30,31,32,33,34,35,36,37,38,39,40,41,42,43] .nil),[(1,[6,10,18,22,25,32,36,39])])) .lf) none .lf)
def or161:Tr (OT × List (Nat × List Nat)):=(.nd (.nd .lf none (.nd (.nd .lf (some ((OT.l [0,1,2,3,4,5,6,7,8,9,10,11,12,13,14,15,16,17] .nil),[])) (.nd .lf (some ((OT.l [0,1,2,3,4,5,6,7] .nil),[(3,[1])])) .lf)) none .lf)) none (.nd (.nd .lf none (.nd (.nd (.nd .lf (some ((OT.l [0,1,2,3,4,5,6,7,8,9,10,11,12,13,14] .nil),[])) .lf) none .lf) none .lf)) none (.nd (.nd (.nd .lf (some ((OT.l [0,1,2,3,4,5,6,7,8,9,10] .nil),[])) .lf) (some ((OT.l [0,1,2,3,4,5,6,7,8,9,10,11,12,13,14,15,16] .nil),[])) .lf) (some ((OT.l [0,1,2,3,4,5,6,7,8,9,10,11,12,13,14,15,16,17] .nil),[])) .lf)))
def or162:Tr (OT × List (Nat × List Nat)):=(.nd (.nd (.nd (.nd .lf (some ((OT.l [0,1,2,3,4,5,6,7,8,9,10,11,12,13,14] .nil),[])) .lf) none .lf) none .lf) none (.nd (.nd .lf (some ((OT.l [0,1,2,3,4,5,6,7] .nil),[(3,[1])])) .lf) none .lf))
def or163:Tr (OT × List (Nat × List Nat)):=(.nd (.nd (.nd (.nd .lf (some ((OT.l [0,1,2,3,4,5,6,7,8,9,10,11,12] .nil),[])) .lf) none .lf) none .lf) none .lf)
def or164:Tr (OT × List (Nat × List Nat)):=(.nd .lf none (.nd (.nd .lf none (.nd (.nd .lf (some ((OT.l [0,1,2,3,4,5,6,7,8,9,10,11,12,13] .nil),[(7,[5])])) .lf) none .lf)) none (.nd (.nd .lf (some ((OT.l [0,1,2,3,4,5,6,7,8,9,10,11,12,13] .nil),[(7,[5])])) .lf) none .lf)))
def or167:Tr (OT × List (Nat × List Nat)):=(.nd (.nd (.nd (.nd .lf (some ((OT.l [0,1,2,3,4,5,6,7] .nil),[(3,[1]),(6,[1,2])])) .lf) none .lf) none .lf) none (.nd .lf none (.nd .lf (some ((OT.l [0,1,2,3,4,5] .nil),[(3,[1])])) .lf)))
def or172:Tr (OT × List (Nat × List Nat)):=(.nd .lf none (.nd .lf none (.nd (.nd .lf (some ((OT.l [0,1,2,3,4,5,6,7,8,9] .nil),[(5,[1])])) .lf) none .lf)))
def or173:Tr (OT × List (Nat × List Nat)):=(.nd (.nd (.nd (.nd (.nd (.nd .lf (some ((OT.l [0,1,2,3,4,5,6,7,8,9] .nil),[(5,[1])])) .lf) none .lf) (some ((OT.l [0,1,2,3,4,5,6,7,8,9,10,11,12,13,14] .nil),[])) .lf) (some ((OT.l [0,1,2,3,4,5,6,7,8,9,10,11,12,13,14,15,16,17,18,19,20,21,22,23,24,25,26,27,28,29,30,31,32,33,34,35] .nil),[(1,[7,11,14,16,23,27,30,32])])) .lf) none (.nd (.nd .lf (some ((OT.l [0,1,2,3,4,5,6,7,8,9,10,11,12,13,14,15,16,17] .nil),[(1,[7,11,14])])) .lf) none (.nd (.nd .lf (some ((OT.l [0,1,2,3,4,5,6,7,8,9] .nil),[(5,[1])])) .lf) none (.nd .lf (some ((OT.l [0,1,2,3,4,5,6,7,8,9] .nil),[(5,[1])])) .lf)))) none .lf)
def or175:Tr (OT × List (Nat × List Nat)):=(.nd (.nd .lf none (.nd .lf (some ((OT.l [0,1,2,3,4,5,7,8,6,9,10] .nil),[(6,[8])])) .lf)) none (.nd .lf none (.nd (.nd (.nd .lf (some ((OT.l [0,1,2,3,5,6,4,7,8] .nil),[(4,[6])])) .lf) none .lf) none .lf)))
def or177:Tr (OT × List (Nat × List Nat)):=(.nd (.nd (.nd .lf (some ((OT.l [0,1,2,3,4,5,6,7,8,9,10,11,12,13,14] .nil),[(8,[4])])) .lf) none .lf) none .lf)
def or178:Tr (OT × List (Nat × List Nat)):=(.nd (.nd .lf (some ((OT.l [0,1,2,3,4,5,6,7,8,9,10,11,12,13] .nil),[])) .lf) none .lf)
def or188:Tr (OT × List (Nat × List Nat)):=(.nd (.nd .lf (some ((OT.l [0,1,2,3,4,5,6,7,8,9,10,11,12,13,14,15,16,17,18,19,20,21,22,23,24,25,26,27,28,29,30,31,32,33] .nil),[])) .lf) none .lf)
def or191:Tr (OT × List (Nat × List Nat)):=(.nd .lf (some ((OT.l [0,1,2,3,4,5,6,7,8,9,10,11,12,13,14,15,16,17,18,19,20,21,22,23,24,25,26] .nil),[])) .lf)
def or192:Tr (OT × List (Nat × List Nat)):=(.nd (.nd .lf (some ((OT.l [0,1,2,3,4,5,6,7,8,9,10,11] .nil),[(9,[7])])) .lf) none (.nd .lf (some ((OT.l [0,1,2,3,4,5,6,7,8,9,10] .nil),[])) .lf))
def or194:Tr (OT × List (Nat × List Nat)):=(.nd (.nd .lf (some ((OT.l [0,1,2,3,4,5,6,7,8,9,10,11,12,13,14,15,16,17,18,19,20,21,22,23,24,25] .nil),[])) .lf) none (.nd .lf (some ((OT.l [0,1,2,3,4,5,6,7,8,9,10,11,12,13,14,15,16,17] .nil),[])) .lf))
def or195:Tr (OT × List (Nat × List Nat)):=(.nd (.nd .lf none (.nd .lf (some ((OT.l [0,1,2,3,4,5,6,7,8,9,10,11,12,13,14,15,16,17,18,19,20] .nil),[])) .lf)) none .lf)
def or200:Tr (OT × List (Nat × List Nat)):=(.nd (.nd (.nd .lf none (.nd .lf (some ((OT.l [0,1,2,3,4,5,6,7,8,9] .nil),[(6,[1])])) .lf)) none .lf) none (.nd .lf none (.nd .lf (some ((OT.l [0,1,2,4,5,6,7,9,10,11,3,13,8,12,14,15,16,17,18] .nil),[(3,[4,6,7,9,11]),(8,[9,11])])) .lf)))
def or201:Tr (OT × List (Nat × List Nat)):=(.nd (.nd .lf (some ((OT.l [0,1,3,4,6,7,2,9,5,8,10,11,12,13,14] .nil),[(2,[4,7]),(5,[7])])) .lf) none .lf)
def or203:Tr (OT × List (Nat × List Nat)):=(.nd .lf none (.nd .lf none (.nd .lf (some ((OT.l [0,1,2,4,5,6,3,8,7,9,10,11] .nil),[(3,[6])])) .lf)))
def or206:Tr (OT × List (Nat × List Nat)):=(.nd (.nd .lf none (.nd .lf (some ((OT.l [0,1,2,3,4,5,6,7,8,9,10,11,12,13] .nil),[(10,[1,3,5]),(12,[1,3,5,7])])) .lf)) none (.nd (.nd (.nd (.nd .lf (some ((OT.l [0,1,2,3,4,5,6,7,8,9] .nil),[])) .lf) none .lf) none .lf) none .lf))
def or207:Tr (OT × List (Nat × List Nat)):=(.nd .lf none (.nd (.nd .lf none (.nd .lf (some ((OT.l [0,1,2,3,4,5,6,7,8,9,10] .nil),[])) .lf)) none (.nd .lf (some ((OT.l [0,1,2,3,4,5,6,7,8,9,10] .nil),[])) .lf)))
def or208:Tr (OT × List (Nat × List Nat)):=(.nd .lf none (.nd .lf none (.nd .lf (some ((OT.l [0,1,2,3,4,5,6,7,8] .nil),[])) .lf)))
def or209:Tr (OT × List (Nat × List Nat)):=(.nd .lf none (.nd .lf none (.nd .lf (some ((OT.l [0,1,2,3,4,5,6,7,8] .nil),[])) .lf)))
def or210:Tr (OT × List (Nat × List Nat)):=(.nd (.nd (.nd .lf none (.nd (.nd .lf (some ((OT.l [0,1,2,3,4,5,6,7] .nil),[(5,[3])])) .lf) none .lf)) none .lf) none .lf)
def or213:Tr (OT × List (Nat × List Nat)):=(.nd .lf none (.nd .lf none (.nd .lf (some ((OT.l [0,1,2,3,4,5,6] .nil),[])) .lf)))
def or215:Tr (OT × List (Nat × List Nat)):=(.nd (.nd (.nd (.nd .lf (some ((OT.l [0,1,2,3,4,5,6,7,8,9,10,11,12,13,14,15,16,17,18,19,20,21,22,23,24] .nil),[])) .lf) none .lf) none (.nd .lf (some ((OT.l [0,1,2,3,4,5,6,7,8,9,10,11] .nil),[(9,[7])])) .lf)) none (.nd .lf (some ((OT.l [0,1,2,3,4,5,6,7,8,9] .nil),[])) (.nd (.nd .lf (some ((OT.l [0,1,2,3] .nil),[])) .lf) none .lf)))
def or224:Tr (OT × List (Nat × List Nat)):=(.nd (.nd (.nd (.nd (.nd .lf (some ((OT.l [0,1,2,3,4,5,6,7,8,9,10,11] .nil),[(6,[4])])) .lf) none .lf) none (.nd .lf (some ((OT.l [0,1,2,3,4,5,6,7,8,9,10,11,12,13,14] .nil),[(8,[4])])) .lf)) (some ((OT.l [0,2,3,4,5,1,6,7,8] .nil),[(1,[3,5]),(7,[3,5])])) .lf) none (.nd (.nd (.nd .lf (some ((OT.l [0,1,2,3,4,5,6,7,8,9,10] .nil),[])) .lf) none .lf) none .lf))
def or226:Tr (OT × List (Nat × List Nat)):=(.nd .lf none (.nd .lf (some ((OT.l [0,2,3,4,5,1,6,7,8] .nil),[(1,[3,5]),(7,[3,5])])) .lf))
def or227:Tr (OT × List (Nat × List Nat)):=(.nd (.nd (.nd .lf (some ((OT.l [0,1,2,3,4,5,6] .nil),[])) .lf) none .lf) none (.nd (.nd .lf (some ((OT.l [0,1,2,3,4,5,6,7,8,9,10,11] .nil),[(6,[0,1,4]),(8,[0])])) .lf) none .lf))
def or229:Tr (OT × List (Nat × List Nat)):=(.nd (.nd .lf (some ((OT.l [0,1,2,3,4,5,6,7,8,9,10,11,12,13,14,15,16,17,18,19,20,21,22,23,24,25,26,27,28,29] .nil),[(1,[6,10,18,22,25])])) .lf) none .lf)
def or231:Tr (OT × List (Nat × List Nat)):=(.nd .lf none (.nd (.nd .lf (some ((OT.l [0,1,2,3,4,5,6,7,8,9,10,11] .nil),[])) .lf) none .lf))
def or232:Tr (OT × List (Nat × List Nat)):=(.nd (.nd (.nd .lf (some ((OT.l [0,1,2,3,4,5,6,7,8,9,10,11,12,13,14,15,16,17,18,19,20,21,22,23] .nil),[])) .lf) (some ((OT.l [0,1,2,3,4,5,6,7,8,9] .nil),[])) .lf) none (.nd .lf (some ((OT.l [0,1,2,3,4,5,6,7,8,9] .nil),[])) .lf))
def or235:Tr (OT × List (Nat × List Nat)):=(.nd .lf none (.nd .lf none (.nd .lf none (.nd .lf (some ((OT.l [0,1,2,3,4,5,6,7,8,9,10,11,12] .nil),[])) .lf))))
def or239:Tr (OT × List (Nat × List Nat)):=(.nd .lf none (.nd (.nd .lf (some ((OT.l [0,1,2,3,4,5,6,8] (.pair 7 9)),[])) .lf) none .lf))
def or249:Tr (OT × List (Nat × List Nat)):=(.nd (.nd (.nd .lf (some ((OT.l [0,1,2,3,4,5,6,7,8,9,10,11,12,13] .nil),[])) .lf) none .lf) none .lf)
def or251:Tr (OT × List (Nat × List Nat)):=(.nd (.nd .lf none (.nd .lf none (.nd .lf (some ((OT.l [0,1,2,3,4,5] .nil),[(3,[0])])) .lf))) none .lf)
def or252:Tr (OT × List (Nat × List Nat)):=(.nd (.nd .lf none (.nd .lf (some ((OT.l [0,1,2,3,4,5,6,7,8,9,10,11,12] .nil),[])) .lf)) none .lf)
def or277:Tr (OT × List (Nat × List Nat)):=(.nd (.nd .lf (some ((OT.l [0,1,2,3,4,5,6,7,8,9] .nil),[])) .lf) (some ((OT.l [0,1,2,3,4,5,6,7,8,9] .nil),[])) .lf)
def or278:Tr (OT × List (Nat × List Nat)):=(.nd (.nd .lf (some ((OT.l [0,1,2,3,4,5,6,7,8,9] .nil),[])) .lf) none (.nd .lf none (.nd (.nd .lf (some ((OT.l [0,1,2,3,4,5,6,7,8,9,10,11,12,13,14,15,16,17,18] .nil),[])) .lf) none .lf)))
def or279:Tr (OT × List (Nat × List Nat)):=(.nd (.nd (.nd .lf (some ((OT.l [0,1,2,3,4,5,6,7,8,9] .nil),[])) .lf) none .lf) none .lf)
def or285:Tr (OT × List (Nat × List Nat)):=(.nd (.nd (.nd .lf none (.nd (.nd .lf (some ((OT.l [0,1,2,3,4,5,6,7] .nil),[(3,[1])])) .lf) (some ((OT.l [0,1,2,3,4,5,6,7,8,9,10] .nil),[])) .lf)) none (.nd (.nd .lf none (.nd .lf (some ((OT.l [0,1,2,3,4,5,6,7,8,9,10,11] .nil),[(6,[4])])) .lf)) none (.nd (.nd .lf (some ((OT.l [0,1,2,3,4,5,6,7,8,9,10] .nil),[])) .lf) none .lf))) none .lf)
def or286:Tr (OT × List (Nat × List Nat)):=(.nd (.nd (.nd .lf (some ((OT.l [0,1,2,3,4,6,7,5,8,9,11] (.pair 10 12)),[(5,[1])])) .lf) (some ((OT.l [0,1,2,3,4,6,7,5,8,9,11] (.pair 10 12)),[(5,[1])])) .lf) none .lf)
def or292:Tr (OT × List (Nat × List Nat)):=(.nd .lf (some ((OT.l [0,1,2,3,4] .nil),[(2,[0])])) .lf)
def or295:Tr (OT × List (Nat × List Nat)):=(.nd (.nd (.nd .lf (some ((OT.l [0,1,2,3,4,5,6] .nil),[])) .lf) none .lf) none .lf)
def or297:Tr (OT × List (Nat × List Nat)):=(.nd (.nd (.nd .lf (some ((OT.l [0,1,2,3,4,5,6,7,8,9] .nil),[])) .lf) none .lf) none .lf)
def or309:Tr (OT × List (Nat × List Nat)):=(.nd (.nd (.nd (.nd .lf (some ((OT.l [0,1,2,3,4,5,6,7,8,9,10,11,12,13,14] .nil),[])) (.nd .lf (some ((OT.l [0,1,2,3,4,5,6,7,8,9,10,11,12,13,14] .nil),[])) .lf)) none .lf) none (.nd (.nd (.nd .lf (some ((OT.l [0,1,2,3,4,5,6,7,8,9,10,11,12,13,14] .nil),[])) .lf) (some ((OT.l [0,1,2,3,4,5,6,7,8,9,10,11,12,13,14] .nil),[])) .lf) none .lf)) none (.nd (.nd (.nd .lf (some ((OT.l [0,1,2,3,4,5,6,7,8,9,10,11,12,13,14] .nil),[])) .lf) none .lf) none (.nd (.nd (.nd .lf (some ((OT.l [0,1,2,3,4,5,6,7,8,9,10,11,12,13,14] .nil),[])) .lf) (some ((OT.l [0,1,2,3,4,5,6,7,8,9,10,11,12,13,14] .nil),[])) .lf) none .lf)))
def or312:Tr (OT × List (Nat × List Nat)):=(.nd (.nd .lf none (.nd (.nd .lf (some ((OT.l [0,1,2,3,4,5,6,7,8,9,10,11,12,13,14,15,16,17,18,19] .nil),[])) .lf) none .lf)) none (.nd .lf none (.nd (.nd (.nd .lf (some ((OT.l [0,1,2,3,4,5,6,7,8,9,10,11,12,13,14,15,16,17,18,19] .nil),[])) .lf) none .lf) none .lf)))
def or313:Tr (OT × List (Nat × List Nat)):=(.nd (.nd .lf none (.nd (.nd .lf (some ((OT.l [0,1,2,3,4,5,6,7,8,9,10,11,12,13,14,15,16,17,18,19] .nil),[])) .lf) none .lf)) none .lf)
def or335:Tr (OT × List (Nat × List Nat)):=(.nd (.nd .lf (some ((OT.l [0,1,3,2,4,5,6] .nil),[(2,[3])])) .lf) none .lf)
def or336:Tr (OT × List (Nat × List Nat)):=(.nd (.nd .lf (some ((OT.l [0,1,3,2,4,5,6] .nil),[(2,[3])])) .lf) none .lf)
def or340:Tr (OT × List (Nat × List Nat)):=(.nd (.nd (.nd (.nd (.nd (.nd .lf (some ((OT.l [0,1,2,3,4,5,6,7,8,9,10] .nil),[])) .lf) none .lf) (some ((OT.l [0,1,2,3,4,5,6,7,8] .nil),[])) .lf) none .lf) none .lf) none (.nd .lf none (.nd .lf (some ((OT.l [0,1,2,3,4,5,6] .nil),[])) (.nd .lf (some ((OT.l [0,1,2,3,4,5,6,7,8,9,10] .nil),[])) .lf))))
def orT:Tr (Tr (OT × List (Nat × List Nat))):=(.nd (.nd (.nd (.nd (.nd (.nd (.nd (.nd .lf (some or127) .lf) none (.nd .lf (some or191) .lf)) none (.nd .lf (some or95) .lf)) (some or15) (.nd (.nd .lf none (.nd (.nd .lf (some or335) .lf) (some or207) .lf)) (some or47) (.nd (.nd .lf (some or175) .lf) (some or111) (.nd .lf (some or239) .lf)))) none (.nd (.nd .lf (some or39) (.nd (.nd (.nd .lf (some or295) .lf) (some or167) .lf) (some or103) (.nd .lf (some or231) .lf))) none (.nd (.nd (.nd (.nd .lf (some or279) .lf) none .lf) none (.nd .lf (some or215) .lf)) (some or55) .lf))) none (.nd (.nd (.nd (.nd (.nd .lf (some or131) .lf) (some or67) (.nd .lf (some or195) .lf)) none (.nd (.nd .lf (some or163) .lf) none (.nd .lf (some or227) .lf))) (some or19) (.nd (.nd (.nd .lf (some or147) .lf) (some or83) .lf) none .lf)) none (.nd (.nd (.nd .lf (some or75) (.nd .lf (some or203) .lf)) (some or43) (.nd .lf none (.nd .lf (some or235) .lf))) none (.nd (.nd (.nd .lf (some or155) .lf) (some or91) .lf) none (.nd .lf none (.nd .lf (some or251) .lf)))))) none (.nd (.nd (.nd (.nd (.nd (.nd .lf (some or129) .lf) (some or65) .lf) none (.nd (.nd .lf (some or161) .lf) none .lf)) (some or17) (.nd (.nd .lf none (.nd .lf (some or209) .lf)) (some or49) (.nd (.nd .lf (some or177) .lf) (some or113) .lf))) none (.nd (.nd (.nd .lf none (.nd .lf (some or201) .lf)) (some or41) (.nd (.nd (.nd .lf (some or297) .lf) none .lf) (some or105) .lf)) none (.nd .lf none (.nd (.nd (.nd .lf (some or313) .lf) none .lf) none (.nd .lf (some or249) .lf))))) (some or5) (.nd (.nd (.nd .lf none (.nd .lf none (.nd .lf (some or229) .lf))) none (.nd (.nd (.nd (.nd .lf (some or277) .lf) (some or149) .lf) none (.nd .lf (some or213) .lf)) none (.nd (.nd (.nd .lf (some or309) .lf) none .lf) none .lf))) none (.nd (.nd .lf none (.nd (.nd .lf (some or173) .lf) none .lf)) (some or29) (.nd (.nd (.nd (.nd .lf (some or285) .lf) (some or157) .lf) none .lf) none .lf))))) none (.nd (.nd (.nd (.nd (.nd (.nd (.nd .lf (some or128) .lf) (some or64) (.nd .lf (some or192) .lf)) none (.nd .lf none (.nd .lf (some or224) .lf))) (some or16) (.nd (.nd .lf none (.nd (.nd .lf (some or336) .lf) (some or208) .lf)) (some or48) (.nd .lf (some or112) .lf))) none (.nd (.nd (.nd .lf none (.nd .lf (some or200) .lf)) none (.nd .lf (some or104) (.nd .lf (some or232) .lf))) none (.nd (.nd (.nd .lf (some or152) .lf) (some or88) .lf) none (.nd (.nd (.nd .lf (some or312) .lf) none .lf) none .lf)))) none (.nd (.nd (.nd .lf none (.nd (.nd (.nd .lf (some or292) .lf) (some or164) .lf) none .lf)) none (.nd (.nd .lf none (.nd (.nd .lf (some or340) .lf) none .lf)) (some or52) (.nd .lf (some or116) .lf))) none (.nd (.nd (.nd (.nd .lf (some or140) .lf) none .lf) none (.nd (.nd .lf (some or172) .lf) none .lf)) none (.nd (.nd (.nd .lf (some or156) .lf) none .lf) (some or60) (.nd (.nd .lf (some or188) .lf) (some or124) (.nd .lf (some or252) .lf)))))) none (.nd (.nd (.nd (.nd (.nd (.nd .lf (some or130) .lf) (some or66) (.nd .lf (some or194) .lf)) (some or34) (.nd (.nd .lf (some or162) .lf) none (.nd .lf (some or226) .lf))) (some or18) (.nd (.nd .lf none (.nd .lf (some or210) .lf)) none (.nd (.nd .lf (some or178) .lf) none .lf))) none (.nd (.nd .lf (some or42) .lf) none (.nd (.nd (.nd .lf (some or154) .lf) (some or90) .lf) (some or58) (.nd .lf (some or122) .lf)))) (some or6) (.nd (.nd (.nd .lf (some or38) .lf) (some or22) (.nd (.nd (.nd (.nd .lf (some or278) .lf) none .lf) (some or86) .lf) (some or54) .lf)) none (.nd (.nd (.nd .lf none (.nd .lf (some or206) .lf)) (some or46) .lf) none (.nd (.nd (.nd (.nd .lf (some or286) .lf) none .lf) (some or94) .lf) none .lf))))))
def ordS (f r:Nat):Option (OT × List (Nat × List Nat)):=match orT.get f with
 | some t=>t.get r
 | none=>none
noncomputable def fnS (f:FuncId):Option FX:=match Tryz.prog.funcs[f]? with
 | some fn=>match fn.body with
  | some c=>some ⟨c,fn.ntmps,fn.results.toList,Nat.beq f 38||Nat.beq f 18⟩
  | none=>none
 | none=>none
end Go.AV
end
section
namespace Go.AV
open Go Go.Proofs
noncomputable def cxd:Cx:={ cx with det:=true }
theorem cxd_tt (t:TypeId):cxd.tt t=cx.tt t:=rfl
theorem cxd_P:cxd.P=Tryz.prog:=rfl
noncomputable def c40:Code:=match Tryz.f40.body with
 | some (.seq _ c)=>c
 | _=>.skip
theorem ex40q (s:St):Ex cxd 14 c40 (fun x _ s'=>x=.normal∧s'=s) [(5,.nili)] s:=by
 refine wpC_ok (V:=[0,2,3,4,5,6,7,8,9,10,11,12,13]) _ _ _ _ ?_;simp only[c40,Tryz.f40];simp only[go_sem,List.map,Nat.reduceLT,Nat.reduceEqDiff,Nat.reduceBEq,Nat.reduceAdd,Nat.reduceLeDiff,Nat.reduceMul,reduceIte,true_and,and_true,List.elem,decide_true,decide_false,Bool.not_true,Bool.not_false,reduceCtorEq,Nat.le_refl,gC1,gC3,List.getElem?_cons_zero,List.getElem?_cons_succ,Nat.zero_add,Nat.add_zero,gD2,gD3,List.set_cons_zero,List.set_cons_succ,List.take_succ_cons,List.take_zero,List.drop_succ_cons,List.take_nil,Nat.succ_eq_add_one,Int.le_refl,Int.toNat_zero,Nat.sub_zero,Nat.zero_lt_succ,Bool.and_true,Bool.true_and,Bool.and_false,Bool.false_and,cxd_tt]
theorem newB_cxd (s:St) (t:TypeId) (cs:List A) (KV:St→A→Prop):newB cxd s t cs KV=KV (s.newO (.cells t cs)) (.ptr s.lim 0):=rfl
theorem ex40l (s:St) (b:Nat) (x0 x1 x2 x3 y0 y1 y2 y3:A) (hb:s.getO b=some (.cells 36 [y0,y1,y2,y3])) (hl:s.getO s.lim=none) (h0:x0.one=true) (h1:x1.one=true) (h2:x2.one=true) (h3:x3.one=true) :
  Ex cxd 14 c40 (fun x _ s'=>x=.normal∧s'.ge ((s.newO (.cells 36 [x0,x1,x2,x3])).setO b (.cells 36 [x0,x1,x2,x3]))∧s'.lim=s.lim+1) [(0,.ptr b 0),(5,.iface 36 (.agg [x0,x1,x2,x3]))] s:=by
 have hne:¬ s.lim=b:=by rintro rfl;rw[hb] at hl;cases hl
 refine wpC_ok (V:=[0,2,3,4,5,6,7,8,9,10,11,12,13]) _ _ _ _ ?_;simp only[c40,Tryz.f40];simp only[go_sem,List.map,Nat.reduceLT,Nat.reduceEqDiff,Nat.reduceBEq,Nat.reduceAdd,Nat.reduceLeDiff,Nat.reduceMul,reduceIte,true_and,and_true,List.elem,decide_true,decide_false,Bool.not_true,Bool.not_false,reduceCtorEq,Nat.le_refl,gC1,gC3,List.getElem?_cons_zero,List.getElem?_cons_succ,Nat.zero_add,Nat.add_zero,gD2,gD3,List.set_cons_zero,List.set_cons_succ,List.take_succ_cons,List.take_zero,List.drop_succ_cons,List.take_nil,Nat.succ_eq_add_one,Int.le_refl,Int.toNat_zero,Nat.sub_zero,Nat.zero_lt_succ,Bool.and_true,Bool.true_and,Bool.and_false,Bool.false_and,cxd_tt,h0,h1,h2,h3];rw[newB_cxd];simp only[go_sem,List.map,Nat.reduceLT,Nat.reduceEqDiff,Nat.reduceBEq,Nat.reduceAdd,Nat.reduceLeDiff,Nat.reduceMul,reduceIte,true_and,and_true,List.elem,decide_true,decide_false,Bool.not_true,Bool.not_false,reduceCtorEq,Nat.le_refl,gC1,gC3,List.getElem?_cons_zero,List.getElem?_cons_succ,Nat.zero_add,Nat.add_zero,gD2,gD3,List.set_cons_zero,List.set_cons_succ,List.take_succ_cons,List.take_zero,List.drop_succ_cons,List.take_nil,Nat.succ_eq_add_one,Int.le_refl,Int.toNat_zero,Nat.sub_zero,Nat.zero_lt_succ,Bool.and_true,Bool.true_and,Bool.and_false,Bool.false_and,cxd_tt,h0,h1,h2,h3,St.getO_newO,hne,hb,↓reduceIte];have ho:(x0.one&&(x1.one&&(x2.one&&x3.one)))=true:=by rw[h0,h1,h2,h3];rfl
 refine ⟨ho,ho,?_⟩;refine ⟨⟨fun c o hc=>?_,fun u n hu=>hu,fun _ hx=>hx⟩,rfl⟩;rw[gA1,St.getO_newO] at hc;rw[gA1,gA1,St.getO_newO];by_cases e1:b=c
 ·simpa only[e1,↓reduceIte] using hc
 ·simp only[e1,↓reduceIte] at hc ⊢;by_cases e2:s.lim=c
  ·simpa only[e2,↓reduceIte] using hc
  ·simpa only[e2,↓reduceIte] using hc
theorem body40 : Tryz.f40.body = some (.seq (.region 0 #[⟨some 5,.call ⟨.builtin .recover,#[],#[]⟩,20,"parse.go:505",#[],none⟩] false) c40) := rfl
theorem res40 (a:Act) (w:World):(results Tryz.f40 a.tmps).run cxd.P w=.ok (.tuple #[]) w:=by
 have e0:results Tryz.f40 a.tmps=(do let vs ← (#[]:Array ResultVar).mapM (resF a.tmps);pure (if h:vs.size=1 then vs[0] else .tuple vs)):=rfl;rw[e0];simp
theorem step40 {P:Program} {Q:Exit→Act→List Frame→World→Prop} {a:Act} {cs:List Frame} {w:World}
  (h : match recoverD cs with
   | some (v,cs')=>Q .normal (a.put (some 5) v) cs' w
   | none=>Q .normal (a.put (some 5) .nilIface) cs w) :
  (Code.region 0 #[⟨some 5,.call ⟨.builtin .recover,#[],#[]⟩,20,"parse.go:505",#[],none⟩] false).wpS P Q a cs w := by
 refine wpS_region ?_;have hr : List.range (#[(⟨some 5,.call ⟨.builtin .recover,#[],#[]⟩,20,"parse.go:505",#[],none⟩ : Oper)]).size = [0] := rfl;rw [hr];unfold wpOpsS;have ho : (#[(⟨some 5,.call ⟨.builtin .recover,#[],#[]⟩,20,"parse.go:505",#[],none⟩ : Oper)])[0]? = some ⟨some 5,.call ⟨.builtin .recover,#[],#[]⟩,20,"parse.go:505",#[],none⟩ := rfl;rw [ho];simp only;rw [if_pos (by simp [Region.wanted])];have hx : (execOp a.eval ⟨some 5,.call ⟨.builtin .recover,#[],#[]⟩,20,"parse.go:505",#[],none⟩).run P w = .ok .recover w := rfl;rw [hx];simp only;cases hrec : recoverD cs with
 | none=>rw[hrec] at h;simp only;unfold wpOpsS;exact h
 | some x=>obtain ⟨v,cs'⟩:=x;rw[hrec] at h;simp only;unfold wpOpsS;exact h
theorem env40 {g:Gh} (vals:Array Value) (hv:vals.size=1):EnvOk g 14 [] (vals++Array.replicate (Tryz.f40.ntmps-vals.size) undef) :=
 .nil (by rw[hv];simp[hv,Tryz.f40])
theorem catch_ok:Catch cxd 40 36 where
 quiet:=by
  intro F g s w p hR;refine callsD_of_wpS (fn:=Tryz.f40) Tryz.func40 body40 fun c₀ cs hu=>?_
  refine wpS_seq (step40 ?_);have hrec:recoverD (c₀::cs)=none:=by simp[recoverD,hu]
  rw[hrec];refine wpS_of_wp ?_;have hE:=(env40 (g:=g) #[p] rfl).put (a:=⟨_,[]⟩) (d:=5) (x:=.nili) (v:=.nilIface) (by decide) .nili;refine Code.wp_mono (fun ex a' w' hp=>?_) (ex40q s F g w _ hR hE);obtain ⟨g',e',s',x,h1,h2,h3,h4,h5,rfl,rfl⟩:=hp;cases ex<;>try exact h5.elim
  refine ⟨h4,.returning,by rw[← hu],_,res40 a' w',⟨_,rfl⟩,rfl,g',h1,h2⟩
 loud:=by
  intro F g s w b k cs fs v hR hbk hb hv hl hti;obtain ⟨ti,hti,hsz⟩:=hti
  have h4:fs.length=4:=by
   rw[cxd_tt,tt36] at hti;cases hti;exact hsz.symm
  obtain ⟨x0,x1,x2,x3,rfl⟩:∃ x0 x1 x2 x3,fs=[x0,x1,x2,x3]:=by
   match fs,h4 with
   | [x0,x1,x2,x3],_=>exact ⟨x0,x1,x2,x3,rfl⟩
  obtain ⟨y0,y1,y2,y3,rfl⟩:∃ x0 x1 x2 x3,cs=[x0,x1,x2,x3]:=by
   match cs,hl with
   | [x0,x1,x2,x3],_=>exact ⟨x0,x1,x2,x3,rfl⟩
  obtain ⟨vs,hv1,hv2,hone⟩:=hv.agg_inv;refine callsD_of_wpS (fn:=Tryz.f40) Tryz.func40 body40 fun c₀ cs hu=>?_
  refine wpS_seq (step40 ?_);have hrec:recoverD (c₀::cs)=some (.iface 36 v,{ c₀ with mode:=.panicking [{ v:=.iface 36 v,recovered:=true }] }::cs):=by simp[recoverD,hu]
  rw[hrec];refine wpS_of_wp ?_
  have hE0:EnvOk g 14 [(0,.ptr b 0)] (#[Value.pointer (some ⟨k,0,none⟩)]++Array.replicate (Tryz.f40.ntmps-(#[Value.pointer (some ⟨k,0,none⟩)]).size) undef):=by
   refine ⟨by simp[Tryz.f40],fun t a ha=>?_⟩;simp only[Env.get] at ha;split at ha
   ·rename_i ht;subst ht;cases ha;exact ⟨_,rfl,.ptr b 0 k hbk⟩
   ·cases ha
  have hE:=hE0.put (a:=⟨_,[]⟩) (d:=5) (x:=.iface 36 (.agg [x0,x1,x2,x3])) (v:=.iface 36 v) (by decide) (.iface 36 _ v hv);have hlim:s.getO s.lim=none:=hR.free (hR.dtm rfl s.lim (Nat.le_refl _)).1;refine Code.wp_mono (fun ex a' w' hp=>?_) (ex40l s b x0 x1 x2 x3 y0 y1 y2 y3 hb hlim (hone x0 (by simp)) (hone x1 (by simp)) (hone x2 (by simp)) (hone x3 (by simp)) F g w _ hR hE);obtain ⟨g',e',s',x,h1,h2,h3,h4,h5,rfl,h6,h7⟩:=hp;cases ex<;>try exact h5.elim
  refine ⟨h4,.panicking [{ v:=.iface 36 v,recovered:=true }],rfl,_,res40 a' w',⟨_,rfl⟩,rfl,g',h1,h2.weaken h6 (fun _=>by rw[h7];exact Nat.le_refl _)⟩
end Go.AV
end
