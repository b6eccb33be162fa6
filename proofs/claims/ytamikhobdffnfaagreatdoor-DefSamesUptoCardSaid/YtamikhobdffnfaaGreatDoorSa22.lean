/-
  Part of the proof of DefSames.
-/
import Derived.Test.YtamikhobdffnfaaGreatDoorSa17
import Derived.Test.YtamikhobdffnfaaGreatDoorSa21
import Derived.Test.YtamikhobdffnfaaGreatDoorSa16
import Derived.Shelf.LaysM
import Derived.Shelf.Strconv.Itoa3
import Derived.Lib.ItoaNum
set_option linter.all false
set_option maxRecDepth 1000000
set_option maxHeartbeats 40000000
section
namespace Go.AV
open Go Go.Proofs
theorem isReserved145_den (s:St) (x:Str) (KV Kp) (hk:KV s (.bool (decide (x∈reservedW)))):Den cx 145 [.str x] KV Kp s:=by
 refine Den.drop ?_;(refine Den.of_body (C:=cx) Tryz.func145 rfl rfl (gC6 rfl) ?_;refine wpC_ok (V:=[0,2]) _ _ _ _ ?_;simp only[go_sem,Tryz.ntmps145,Tryz.f145]);refine fields_reserved _ _ _ ?_;simp only[go_sem,wordsA];refine contains_den _ _ _ _ _ ?_;simp only[go_sem];exact DK.here hk
theorem builtIn107_den (s:St) (x:Str) (KV Kp) (hk:KV s (.bool (decide (x∈builtInW)))):Den cx 107 [.str x] KV Kp s:=by
 refine Den.drop ?_;(refine Den.of_body (C:=cx) Tryz.func107 rfl rfl (gC6 rfl) ?_;refine wpC_ok (V:=[0,2]) _ _ _ _ ?_;simp only[go_sem,Tryz.ntmps107,Tryz.f107]);refine fields_builtIn _ _ _ ?_;simp only[go_sem,wordsA];refine contains_den _ _ _ _ _ ?_;simp only[go_sem];exact DK.here hk
end Go.AV
end
section
namespace Go.AV
open Go Go.Proofs
theorem signTo_app (w:Str) (x:Str):∀ (l:List Str) (n:Nat),signTo w (l++[x]) n=if signTo w l n<x.length∧hasPre w x=true then x.length else signTo w l n
 | [],n=>rfl
 | y::l,n=>signTo_app w x l _
theorem signTo_le (w:Str):∀ (l:List Str) (n:Nat),n≤w.length→signTo w l n≤w.length
 | [],n,h=>h
 | y::l,n,h=>by
  refine signTo_le w l _ ?_;split
  ·rename_i hc;have:=hc.2;simp only[hasPre,gD5,decide_eq_true_eq] at this;exact this.1
  ·exact h
theorem idx_lt:∀ (w:Str) (c:UInt8),Lib.indexByte w c<(w.length:Int)
 | [],c=>by simp[Lib.indexByte]
 | d::w,c=>by
  have ih:=idx_lt w c;have ig:=Lib.indexByte_ge w c;unfold Lib.indexByte;simp only[gC1];split
  ·omega
  ·split<;>omega
theorem token_den (s:St) (r:Nat) (x:Str) (at_ l c:Nat) (sg:List Str) (op:Bool) (KV Kp)
  (hr:s.getO r=some (.cells 226 (rdCs x at_ l c sg op))) (hx:x.length≤4294967296) (ha:at_<x.length) (hsg:sg.length≤4294967296)
  (hk:KV s (.tuple [(tokOf (x.drop at_) sg op).1.enc,.int .i64 (tokOf (x.drop at_) sg op).2.1,.bool (tokOf (x.drop at_) sg op).2.2])):Den cx 278 [.ptr r 0] KV Kp s:=by
 obtain ⟨b,w,hw⟩:∃ b w,x.drop at_=b::w:=by
  cases h:x.drop at_ with
  | nil=>have:=congrArg List.length h;simp at this;omega
  | cons b w=>exact ⟨b,w,rfl⟩
 have hlw:(b::w).length≤4294967296:=by rw[← hw,gD4];omega
 refine Den.drop ?_;(refine Den.of_body (C:=cx) Tryz.func278 rfl rfl (gC6 rfl) ?_;refine wpC_ok (V:=[0,2,3,4,5,6,8,20,33,41,67,68,69,70,81,100]) _ _ _ _ ?_;simp only[go_sem,Tryz.ntmps278,Tryz.f278]);(intro q hq;try simp only[gD6,ne_eq] at hq);have hne:=St.ne_of hr hq;simp only[go_sem,hr,hq,hne,rdCs];(refine draw_ok (V:=[0,2,3,4,5,6,8,20,33,41,67,68,69,70,81,100]) (OT.l [0,1,2,3,4,5,6,7,8,9] .nil) [] mixed_cx (by decide +kernel) ?_;simp only[go_sem,hr,hq,hne,rdCs]);rw[hw] at hk ⊢;have hpos:0<(b::w).length:=by simp
 simp only[go_sem,Nat.le_of_lt ha,hpos];refine ⟨⟨by omega,by omega⟩,?_⟩;have e1:List.take (Int.toNat 1) (b::w)=[b]:=rfl;rw[e1];refine isName_den _ _ _ _ ?_;simp only[go_sem]
 (first|refine gC8 (fun h=>?_) (fun h=>?_)|refine gC9 (fun h=>?_) (fun h=>?_)|refine gD1 (fun h=>?_) (fun h=>?_))<;>simp only[go_sem,h,hr,hq,hne,rdCs]
 ·refine run_den _ _ _ (fun c=>isPart c.toNat) _ _ hlw (fun c KV Kp h=>isPart_den _ _ _ _ h) ?_;have hn:((b::w).takeWhile fun c=>isPart c.toNat).length≤(b::w).length:=(List.takeWhile_sublist _).length_le;simp only[tokOf,h,if_true] at hk;generalize ((b::w).takeWhile fun c=>isPart c.toNat).length=n at hk hn;simp only[go_sem,hr,hq,hne,rdCs,hn];refine ⟨by simpa using hn,?_⟩;have e2:decide ((n:Int)≤40)=decide (n≤40):=by rw[decide_eq_decide];omega
  rw[e2];exact DK.st hk (St.ge_new hq)
 ·refine isDigit_den _ _ _ _ ?_;have hnm:¬ isName [b]=true:=by rw[h];simp
  simp only[go_sem]
  (first|refine gC8 (fun h=>?_) (fun h=>?_)|refine gC9 (fun h=>?_) (fun h=>?_)|refine gD1 (fun h=>?_) (fun h=>?_))<;>simp only[go_sem,h,hr,hq,hne,rdCs]
  ·simp only[tokOf,hnm,if_false,h,if_true,gD7] at hk;refine number_den _ _ _ _ hlw ?_;simp only[go_sem,hr,hq,hne];exact DK.st hk (St.ge_new hq)
  ·have hnd:¬ isDig b.toNat=true:=by rw[h];simp
   have h340:(34:UInt8).toNat=34:=rfl
   have e3:decide ((b.toNat:Int)=34)=decide (b=34):=by
    rw[decide_eq_decide,← UInt8.toNat_inj,h340];omega
   rw[e3]
   (first|refine gC8 (fun h=>?_) (fun h=>?_)|refine gC9 (fun h=>?_) (fun h=>?_)|refine gD1 (fun h=>?_) (fun h=>?_))<;>simp only[go_sem,h,hr,hq,hne,rdCs]
   ·have hb:b=34:=by simpa using h
    simp only[tokOf,hnm,hnd,hb,if_false,if_true] at hk;refine ⟨⟨by omega,by omega⟩,?_⟩
    have e4:List.take (w.length+1-Int.toNat 1) (List.drop (Int.toNat 1) (b::w))=w:=by
     show List.take (w.length+1-1) w=w;simp
    have e5:(A.int IntKind.u8 34)=.int .u8 ((34:UInt8).toNat):=rfl;rw[e4,e5];refine idxByte298_den _ _ _ _ _ ?_;have hm1:=Lib.indexByte_ge w 34;have hm2:=idx_lt w 34;obtain ⟨k,hk0⟩:∃ k:Nat,Lib.indexByte w 34=(k:Int)-1:=⟨(Lib.indexByte w 34+1).toNat,by omega⟩
    rw[hk0] at hk hm2 ⊢;simp only[gC1] at hlw;have hkw:k≤w.length:=by omega
    have ew:IntKind.i64.wrap ((k:Int)-1+2)=((k+1:Nat):Int):=by rw[wrap_in _ (by omega) (by omega)];omega
    have ew2:IntKind.i64.wrap (((k+1:Nat):Int)-1)=(k:Int):=by rw[wrap_in _ (by omega) (by omega)];omega
    have en:((k:Int)-1+2).toNat=k+1:=by omega
    simp only[en] at hk;simp only[go_sem,ew];(refine draw_ok (V:=[0,2,3,4,5,6,8,20,33,41,67,68,69,70,81,100]) (OT.l [0,1,2,3,4,5,6,7,8,9,10,11,12,13,14,15,16,17,18] .nil) [] mixed_cx (by decide +kernel) ?_;simp only[go_sem,hr,hq,hne,rdCs,ew2]);have em:(if (k:Int)<1 then (1:Int) else k)=((max k 1:Nat):Int):=by split<;>omega
    rw[em];refine ⟨⟨by omega,by omega,by omega⟩,?_⟩
    have et:List.take (Int.toNat ((max k 1:Nat):Int)-Int.toNat 1) (List.drop (Int.toNat 1) (b::w))=w.take (k-1):=by
     show List.take (max k 1-1) w=w.take (k-1);congr 1;omega
    rw[et];have et2:k+1-2=k-1:=by omega
    rw[et2] at hk
    (first|refine gC8 (fun h=>?_) (fun h=>?_)|refine gC9 (fun h=>?_) (fun h=>?_)|refine gD1 (fun h=>?_) (fun h=>?_))<;>simp only[go_sem,h,hr,hq,hne,rdCs,ew2]
    ·have hk1:1<k+1:=by have:=h;simp at this;omega
     refine ⟨⟨by omega,by omega,by omega⟩,?_⟩;have et3:List.take (k-Int.toNat 1) (List.drop (Int.toNat 1) (b::w))=w.take (k-1):=rfl;rw[et3];refine isString_den _ _ _ _ ?_;simp only[go_sem,hr,hq,hne];simp only[hk1,decide_true,Bool.true_and] at hk;exact DK.st hk (St.ge_new hq)
    ·have hk1:¬ 1<k+1:=by have:=h;simp at this;omega
     simp only[hk1,decide_false,Bool.false_and] at hk;exact DK.st hk (St.ge_new hq)
   ·have hnb:¬ b=34:=by simpa using h
    simp only[tokOf,hnm,hnd,hnb,if_false] at hk;have hz:=signTo_le (b::w) sg 0 (Nat.zero_le _)
    refine Ex.loop (fun i=>[(0,.ptr r 0),(2,.ptr q 0),(3,.int .i64 (signTo (b::w) (sg.take i) 0:Nat)),(5,.str (b::w)),(6,.int .u8 b.toNat),(67,.list none (sg.map .str)),(68,.int .i64 (sg.length:Nat)),(69,.int .i64 (i:Nat))])
     (fun _=>s.setO q (.cells 60 [.int .i64 0,.str [],.int .i64 0,.int .i64 0,.int .i64 0])) (fun i=>i≤sg.length) (fun i=>sg.length-i) 0 (Nat.zero_le _) ?_ (St.ge.refl _) ?_
    ·simp[Env.has,Env.get,signTo]
    ·intro i hi;refine wpC_ok (V:=[0,2,3,4,5,6,8,20,33,41,67,68,69,70,81,100]) _ _ _ _ ?_;simp only[go_sem]
     (first|refine gC8 (fun h=>?_) (fun h=>?_)|refine gC9 (fun h=>?_) (fun h=>?_)|refine gD1 (fun h=>?_) (fun h=>?_))<;>simp only[go_sem,h,hr,hq,hne,rdCs]
     ·have hlt:i<sg.length:=by simpa using h
      obtain ⟨y,hy⟩:∃ y,sg[i]?=some y:=⟨sg[i],List.getElem?_eq_getElem hlt⟩
      have hst:signTo (b::w) (sg.take (i+1)) 0=if signTo (b::w) (sg.take i) 0<y.length∧hasPre (b::w) y=true then y.length else signTo (b::w) (sg.take i) 0:=by
       rw[← signTo_app,List.take_add_one,hy];rfl
      generalize signTo (b::w) (sg.take i) 0=n at hst;refine ⟨hlt,?_⟩;simp only[go_sem,hy]
      (first|refine gC8 (fun h=>?_) (fun h=>?_)|refine gC9 (fun h=>?_) (fun h=>?_)|refine gD1 (fun h=>?_) (fun h=>?_))<;>simp only[go_sem,h,hr,hq,hne,rdCs]
      ·have h5:n<y.length:=by simpa using h
       refine hasPre299_den _ _ _ _ _ ?_;simp only[go_sem]
       (first|refine gC8 (fun h=>?_) (fun h=>?_)|refine gC9 (fun h=>?_) (fun h=>?_)|refine gD1 (fun h=>?_) (fun h=>?_))<;>simp only[go_sem,h]
       ·exact ⟨i+1,by omega,by omega,⟨by rw[hst,if_pos ⟨h5,h⟩],wrap1 i (by omega)⟩,St.ge.refl _⟩
       ·exact ⟨i+1,by omega,by omega,⟨by rw[hst,if_neg (by rw[h];simp)],wrap1 i (by omega)⟩,St.ge.refl _⟩
      ·have h5:¬ n<y.length:=by simpa using h
       exact ⟨i+1,by omega,by omega,⟨by rw[hst,if_neg (by simp[h5])],wrap1 i (by omega)⟩,St.ge.refl _⟩
     ·have hge:sg.length≤i:=by simpa using h
      obtain rfl:i=sg.length:=by omega
      rw[List.take_length];generalize signTo (b::w) sg 0=n at hk hz
      have hqr:(s.setO q (.cells 60 [.int .i64 0,.str [],.int .i64 0,.int .i64 0,.int .i64 0])).getO r=some (.cells 226 (rdCs x at_ l c sg op)):=by
       rw[gA1,if_neg hne.2];exact hr
      simp only[gD7,if_false] at hk;have h390:(39:UInt8).toNat=39:=rfl;have h950:(95:UInt8).toNat=95:=rfl;have e39:decide ((b.toNat:Int)=39)=decide (b=39):=by rw[decide_eq_decide,← UInt8.toNat_inj,h390];omega
      have e95:decide ((b.toNat:Int)=95)=decide (b=95):=by rw[decide_eq_decide,← UInt8.toNat_inj,h950];omega
      have e0:decide ((n:Int)=0)=decide (n=0):=by rw[decide_eq_decide];omega
      rw[e0];cases h0:decide (n=0)<;>cases op<;>simp only[go_sem,hqr,hq,hne,rdCs,e39,e95]<;>cases h39:decide (b=39)<;>cases h95:decide (b=95)<;>(try simp only[go_sem,hqr,hq,hne,rdCs,e39,e95,h39,h95])
      all_goals (simp only[decide_eq_true_eq,decide_eq_false_iff_not] at h0 h39 h95)
      all_goals (have ed:decide (0<(n:Int))=decide (0<n):=by rw[decide_eq_decide];omega)
      all_goals (simp only[gC1] at hz)
      all_goals first
       | (rw[if_neg (fun hc=>by simp_all)] at hk;refine ⟨by omega,?_⟩;rw[ed];exact DK.st hk (St.ge_new hq))
       | (rw[if_pos (by simp_all)] at hk;refine ⟨by omega,?_⟩;exact DK.st hk (St.ge_new hq))
end Go.AV
end
section
namespace Go.AV
open Go Go.Proofs
theorem tw_le (p:UInt8→Bool) (w:Str):(w.takeWhile p).length≤w.length:=(List.takeWhile_sublist _).length_le
theorem tw_pos {p:UInt8→Bool} {c:UInt8} {w:Str} (h:p c=true):1≤((c::w).takeWhile p).length:=by simp[List.takeWhile,h]
theorem tokOf_len {c:UInt8} {r:Str} {sg:List Str} {op:Bool} {t:Tok} {n:Nat} (h:tokOf (c::r) sg op=(t,n,true)):1≤n∧n≤(c::r).length:=by
 simp only[tokOf] at h;split at h
 ·rename_i hn;simp only[Prod.mk.injEq,decide_eq_true_eq] at h;obtain ⟨_,rfl,_⟩:=h;refine ⟨tw_pos ?_,tw_le _ _⟩;simp only[isName,gD5,List.all_cons] at hn;exact hn.2.2.1
 ·split at h
  ·rename_i hd;simp only[numTok] at h;split at h
   ·simp at h
   ·simp only[Prod.mk.injEq,decide_eq_true_eq] at h;obtain ⟨_,rfl,_⟩:=h;exact ⟨tw_pos hd,tw_le _ _⟩
  ·split at h
   ·simp only[Prod.mk.injEq,gD5,decide_eq_true_eq] at h;have:=idx_lt r 34;simp only[gC1];omega
   ·have hz:=signTo_le (c::r) sg 0 (Nat.zero_le _);simp only[Prod.mk.injEq,decide_eq_true_eq] at h;obtain ⟨_,rfl,h⟩:=h;refine ⟨h,?_⟩;split
    ·simp
    ·exact hz
theorem blks_le:∀ (f:Nat) (w:Str),blk f w≤w.length
 | 0,w=>Nat.zero_le _
 | f+1,[]=>Nat.zero_le _
 | f+1,b::r=>by
  simp only[blk];split
  ·have:=blks_le f r;simp only[gC1];omega
  ·split
   ·have:=blks_le f ((b::r).drop ((b::r).takeWhile (fun c=>!decide (c=10))).length);rw[gD4] at this;have:=tw_le (fun c=>!decide (c=10)) (b::r);omega
   ·exact Nat.zero_le _
def Lx.out (KV:St→A→Prop):Lx→St→Prop
 | .ok l,s=>KV s (.tuple [.list none (l.map Tok.enc),Fault.none.enc])
 | .bad f,s=>KV s (.tuple [.list none [],f.enc])
theorem cut_den (s:St) (r:Nat) (x:Str) (sg:List Str) (KV Kp)
  (hr:s.getO r=some (.cells 226 (rdCs x 0 1 1 sg true))) (hx:x.length≤4294967290) (hsg:sg.length≤4294967296)
  (hk:∀ o,(lexS sg true x).out KV (s.setO r o)):Den cx 215 [.ptr r 0] KV Kp s:=by
 refine Den.drop ?_;(refine Den.of_body (C:=cx) Tryz.func215 rfl rfl (gC6 rfl) ?_;refine wpC_ok (V:=[0,2,3,4,5,6,18,38]) _ _ _ _ ?_;simp only[go_sem,Tryz.ntmps215,Tryz.f215]);(intro q hq;try simp only[gD6,ne_eq] at hq);have hne:=St.ne_of hr hq;simp only[go_sem,hr,hq,hne,rdCs];refine blanks_den _ r x 0 1 1 sg true _ _ (by rw[gA1,if_neg hne.2];exact hr) (by omega) (Nat.zero_le _) (by omega) (by omega) ?_;have hb0:=blks_le x.length x;change blks x≤x.length at hb0;simp only[go_sem,hr,hq,hne,rdCs]
 refine Ex.loop (ι:=Nat × (Nat × Nat) × List Tok × Option Nat) (fun i=>[(0,.ptr r 0),(2,gv i.2.2.2 (i.2.2.1.map Tok.enc)),(3,.ptr q 0)])
  (fun i=>gs ((s.setO q (.cells 36 [.int .i64 0,.str [],.int .i64 0,.int .i64 0])).setO r (.cells 226 (rdCs x i.1 i.2.1.1 i.2.1.2 sg true))) i.2.2.2 i.2.2.1.length 60)
  (fun i => i.1 ≤ x.length ∧ i.2.1.1 ≤ i.1 + 1 ∧ i.2.1.2 ≤ i.1 + 1 ∧ (i.2.2.2 = none → i.2.2.1 = []) ∧ (∀ t,i.2.2.2 = some t → s.getT t = none) ∧ i.2.2.1.length ≤ i.1 ∧
   ∃ f,x.length-i.1≤f∧lexS sg true x=lexA sg true f (x.drop i.1) i.2.1 i.2.2.1) (fun i=>x.length-i.1)
  (blks x,adv (1,1) (x.take (blks x)),[],none) ?_ ?_ ?_ ?_
 ·have:=adv_le (x.take (blks x)) (1,1) 0 (by omega) (by omega);rw[List.length_take] at this;refine ⟨hb0,by simp only;omega,by simp only;omega,fun _=>rfl,fun t h=>(by cases h),Nat.zero_le _,x.length,by simp only;omega,rfl⟩
 ·simp only[go_sem];rfl
 ·simp only[go_sem];exact St.ge.refl _
 ·rintro ⟨a,⟨l,c⟩,acc,tk⟩ ⟨ha,hl,hc,hn,hf,hla,f,hff,hlex⟩;simp only at ha hl hc hn hf hla hff hlex;refine wpC_ok (V:=[0,2,3,4,5,6,18,38]) _ _ _ _ ?_;simp only[go_sem];(refine draw_ok (V:=[0,2,3,4,5,6,18,38]) (OT.l [0,1,2,3,4,5,6,7,8,9] .nil) [] mixed_cx (by decide +kernel) ?_;simp only[go_sem,hne,rdCs])
  (first|refine gC8 (fun h=>?_) (fun h=>?_)|refine gC9 (fun h=>?_) (fun h=>?_)|refine gD1 (fun h=>?_) (fun h=>?_))<;>simp only[go_sem,h]
  ·have hlt:a<x.length:=by simpa using h
   obtain ⟨b,w,hw⟩:∃ b w,x.drop a=b::w:=⟨_,_,List.drop_eq_getElem_cons hlt⟩
   obtain ⟨f,rfl⟩:∃ f',f=f'+1:=⟨f-1,by omega⟩
   refine token_den _ r x a l c sg true _ _ (by simp only[go_sem];rfl) (by omega) hlt hsg ?_;rw[hw] at hlex ⊢;simp only[lexA] at hlex;rcases htok:tokOf (b::w) sg true with ⟨⟨tkd,ttx,tn,tl,tc⟩,n,ok⟩
   rw[htok] at hlex;simp only[go_sem];(intro q2 hq2;try simp only[gD6,ne_eq] at hq2)
   have hne2:q2≠r∧q2≠q:=by
    have h1:=hq2;rw[gA6,gA1] at h1;have h2:=hq2;rw[gA6,gA1] at h2;constructor<;>rintro rfl
    ·simp at h1
    ·rw[if_neg hne.1,gA1] at h2;simp at h2
   simp only[go_sem,hne,hne2,hq2];(refine draw_ok (V:=[0,2,3,4,5,6,18,38]) (OT.l [0,1,2,3,4,5,6,7,8,9,10,11] .nil) [(9,[7])] mixed_cx (by decide +kernel) ?_;simp only[go_sem,hne,hne2,rdCs])
   (first|refine gC8 (fun h=>?_) (fun h=>?_)|refine gC9 (fun h=>?_) (fun h=>?_)|refine gD1 (fun h=>?_) (fun h=>?_))<;>simp only[go_sem,h,hne,hne2,rdCs]
   ·have hok:ok=false:=by simpa using h
    subst hok;simp only at hlex;(refine draw_ok (V:=[0,2,3,4,5,6,18,38]) (OT.l [0,1,2,3,4,5,6,7,8,9,10,11,12,13,14,15,16,17,18,19,20,21,22,23,24] .nil) [] mixed_cx (by decide +kernel) ?_;simp only[go_sem,hne,hne2,rdCs,Nat.le_of_lt hlt]);have ew:IntKind.i64.wrap ((a:Int)+1)=((a+1:Nat):Int):=wrap1 a (by omega);rw[ew];refine ⟨⟨by omega,by omega⟩,?_⟩;have et:List.take ((((a+1:Nat):Int)).toNat-a) (x.drop a)=[b]:=by rw[hw,Int.toNat_natCast,Nat.add_sub_cancel_left];rfl
    rw[et];rw[hlex] at hk;refine DK.mk (hk _) (gs_ge (St.ge_set ?_ (St.ge_set ?_ (St.ge_setO (St.ge_new hq)))) ?_) (A.le.tuple ⟨A.le.nil,A.le.refl _,trivial⟩)
    ·rw[gA1,if_neg hne.1];exact hq
    ·have h1:=hq2;rw[gA6,gA1,if_neg hne2.1.symm,gA1,if_neg hne2.2.symm] at h1;rw[gA1,if_neg hne2.1.symm];exact h1
    ·exact hf
   ·have hok:ok=true:=by simpa using h
    subst hok;simp only at hlex;obtain ⟨hn1,hn2⟩:=tokOf_len htok;refine ⟨by decide,by simp[A.cells],appL_gv rfl rfl (by rw[gC4];exact gs_ok fun e=>by rw[hn e];rfl) (fun y hy=>by simp only[List.mem_map] at hy;obtain ⟨z,_,rfl⟩:=hy;rfl) (by simp;omega) fun t ht=>?_⟩;have hft':s.getT t=none:=by have:=gs_free ht (fun u hu=>hf u hu);exact this
    rw[gs_set ht];simp only[go_sem,hne,hne2];refine skip_den _ r x a l c n sg true _ _ (by simp only[go_sem,hne,hne2];rfl) (by omega) (by have:=congrArg List.length hw;rw[gD4] at this;omega) (by omega) (by omega) ?_;simp only[go_sem];have hal:=adv_le ((b::w).take n) (l,c) a hl hc;rw[List.length_take,Nat.min_eq_left hn2] at hal;have hwl:x.length-a=(b::w).length:=by rw[← hw,gD4]
    rw[hw];have hblk:=blks_le ((b::w).drop n).length ((b::w).drop n);change blks ((b::w).drop n)≤_ at hblk;rw[gD4] at hblk;have hdd:x.drop (a+n)=(b::w).drop n:=by rw[← List.drop_drop,hw]
    refine blanks_den _ r x (a+n) _ _ sg true _ _ (by simp only[go_sem,hne,hne2];rfl) (by omega) (by omega) (by omega) (by omega) ?_;simp only[go_sem];rw[hdd];refine ⟨(a+n+blks ((b::w).drop n),adv (adv (l,c) ((b::w).take n)) (((b::w).drop n).take (blks ((b::w).drop n))),acc++[⟨tkd,ttx,tn,l,c⟩],some t),⟨?_,?_,?_,?_,?_,?_,f,?_,?_⟩,?_,?_,?_⟩
    ·simp only;omega
    ·have:=adv_le (((b::w).drop n).take (blks ((b::w).drop n))) (adv (l,c) ((b::w).take n)) (a+n) (by omega) (by omega);rw[List.length_take,gD4,Nat.min_eq_left hblk] at this;simp only;omega
    ·have:=adv_le (((b::w).drop n).take (blks ((b::w).drop n))) (adv (l,c) ((b::w).take n)) (a+n) (by omega) (by omega);rw[List.length_take,gD4,Nat.min_eq_left hblk] at this;simp only;omega
    ·intro h;cases h
    ·intro u hu;cases hu;exact hft'
    ·simp only[gC2,gC1,gC3];omega
    ·simp only;omega
    ·simp only[hlex];congr 1;rw[← List.drop_drop,hdd]
    ·simp only;omega
    ·simp only[List.map_append,List.map_cons,List.map_nil,gv_some];exact rfl
    ·simp only[gs,gC2,gC1,gC3];refine St.ge_setT (St.ge_mid ?_ hne2.1);have h1:=hq2;rw[gA6,gA1,if_neg hne2.1.symm] at h1;exact h1
  ·(refine draw_ok (V := [0,2,3,4,5,6,18,38]) (OT.l [0,1,2,3] .nil) [] mixed_cx (by decide +kernel) ?_; simp only [go_sem,hne,rdCs]);have hge : x.length ≤ a := by simpa using h
   have hlx:lexS sg true x=.ok acc:=by
    rw[hlex,List.drop_eq_nil_of_le hge];cases f<;>rfl
   rw[hlx] at hk;refine DK.mk (hk _) (gs_ge (St.ge_set ?_ (St.ge_setO (St.ge_new hq))) ?_) (A.le.tuple ⟨gv_le tk _ (fun e=>by rw[hn e];rfl),A.le.refl _,trivial⟩)
   ·rw[gA1,if_neg hne.1];exact hq
   ·exact hf
end Go.AV
end
section
namespace Go.AV
open Go Go.Proofs
theorem long_den (s:St) (x:Str) (KV Kp) (hx:x.length≤4294967290) (hk:(lexS signsW true x).out KV s):Den cx 141 [.str x] KV Kp s:=by
 refine Den.drop ?_;(refine Den.of_body (C:=cx) Tryz.func141 rfl rfl (gC6 rfl) ?_;refine wpC_ok (V:=[0,2,3]) _ _ _ _ ?_;simp only[go_sem,Tryz.ntmps141,Tryz.f141]);(intro q hq;try simp only[gD6,ne_eq] at hq);simp only[go_sem,hq];refine fields_signs _ _ _ ?_;simp only[go_sem,wordsA];(intro r hr;try simp only[gD6,ne_eq] at hr);have hq':q≠r:=hr.1.1;simp only[go_sem,hr,hq,hq'];refine cut_den _ r x signsW _ _ (by rw[gA1,if_pos rfl];rfl) hx (by decide) fun o=>?_
 cases hl:lexS signsW true x with
 | ok l =>
  rw[hl] at hk;simp only[Lx.out] at hk ⊢;simp only[go_sem,hr,hq,hq',Fault.none];exact DK.st hk (St.ge_set hq (St.ge_set hr.2 (St.ge_new hq)))
 | bad f =>
  rw[hl] at hk;simp only[Lx.out] at hk ⊢;simp only[go_sem,hr,hq,hq'];exact DK.st hk (St.ge_set hq (St.ge_set hr.2 (St.ge_new hq)))
end Go.AV
end
section
namespace Go.Proofs
open Go.Shelf
def Tryz.laysM171_ren:Go.Shelf.Ren:=⟨fun|171=>169|243=>244|246=>287|283=>307|284=>308|285=>309|286=>310|129=>319|317=>318|318=>320|319=>321|320=>322|337=>329|338=>330|n=>n,fun|3=>3|9=>9|2=>2|4=>4|171=>283|0=>0|53=>284|37=>152|5=>5|173=>287|212=>303|51=>277|20=>20|213=>304|46=>282|232=>326|233=>327|n=>n,fun|17=>3|18=>4|19=>5|n=>n⟩
theorem Tryz.laysM171:Go.Proofs.LaysM.n171 Tryz.prog Tryz.laysM171_ren:={
 mixed:=by kernel_rfl
 f129:=Tryz.func319.trans (congrArg some (by kernel_rfl))
 f171:=Tryz.func169.trans (congrArg some (by kernel_rfl))
 f243:=Tryz.func244.trans (congrArg some (by kernel_rfl))
 f246:=Tryz.func287.trans (congrArg some (by kernel_rfl))
 f283:=Tryz.func307.trans (congrArg some (by kernel_rfl))
 f284:=Tryz.func308.trans (congrArg some (by kernel_rfl))
 f285:=Tryz.func309.trans (congrArg some (by kernel_rfl))
 f286:=Tryz.func310.trans (congrArg some (by kernel_rfl))
 f317:=Tryz.func318.trans (congrArg some (by kernel_rfl))
 f318:=Tryz.func320.trans (congrArg some (by kernel_rfl))
 f319:=Tryz.func321.trans (congrArg some (by kernel_rfl))
 f320:=Tryz.func322.trans (congrArg some (by kernel_rfl))
 f337:=Tryz.func329.trans (congrArg some (by kernel_rfl))
 f338:=Tryz.func330.trans (congrArg some (by kernel_rfl))
 t0:=Tryz.underlying0
 a0:=Tryz.isAgg0
 z0:=Tryz.sizeOf0
 v0:=Tryz.zeroValue0
 t2:=Tryz.underlying2
 a2:=Tryz.isAgg2
 z2:=Tryz.sizeOf2
 v2:=Tryz.zeroValue2
 t3:=Tryz.underlying3
 a3:=Tryz.isAgg3
 z3:=Tryz.sizeOf3
 v3:=Tryz.zeroValue3
 t4:=Tryz.underlying4
 a4:=Tryz.isAgg4
 z4:=Tryz.sizeOf4
 v4:=Tryz.zeroValue4
 t5:=Tryz.underlying5
 a5:=Tryz.isAgg5
 z5:=Tryz.sizeOf5
 v5:=Tryz.zeroValue5
 t9:=Tryz.underlying9
 a9:=Tryz.isAgg9
 z9:=Tryz.sizeOf9
 v9:=Tryz.zeroValue9
 t20:=Tryz.underlying20
 a20:=Tryz.isAgg20
 z20:=Tryz.sizeOf20
 v20:=Tryz.zeroValue20
 t37:=Tryz.underlying152
 a37:=Tryz.isAgg152
 z37:=Tryz.sizeOf152
 v37:=Tryz.zeroValue152
 t46:=Tryz.underlying282
 a46:=Tryz.isAgg282
 z46:=Tryz.sizeOf282
 v46:=Tryz.zeroValue282
 t51:=Tryz.underlying277
 a51:=Tryz.isAgg277
 z51:=Tryz.sizeOf277
 v51:=Tryz.zeroValue277
 t53:=Tryz.underlying284
 a53:=Tryz.isAgg284
 z53:=Tryz.sizeOf284
 v53:=Tryz.zeroValue284
 t171:=Tryz.underlying283
 a171:=Tryz.isAgg283
 z171:=Tryz.sizeOf283
 v171:=Tryz.zeroValue283
 t173:=Tryz.underlying287
 a173:=Tryz.isAgg287
 z173:=Tryz.sizeOf287
 v173:=Tryz.zeroValue287
 t212:=Tryz.underlying303
 a212:=Tryz.isAgg303
 z212:=Tryz.sizeOf303
 v212:=Tryz.zeroValue303
 t213:=Tryz.underlying304
 a213:=Tryz.isAgg304
 z213:=Tryz.sizeOf304
 t232:=Tryz.underlying326
 a232:=Tryz.isAgg326
 z232:=Tryz.sizeOf326
 v232:=Tryz.zeroValue326
 t233:=Tryz.underlying327
 a233:=Tryz.isAgg327
 z233:=Tryz.sizeOf327
 v233:=Tryz.zeroValue327
 g17:=by kernel_rfl
 g18:=by kernel_rfl
 g19:=by kernel_rfl
 i0:=by kernel_rfl
 i2:=by kernel_rfl
 i3:=by kernel_rfl
 i4:=by kernel_rfl
 i5:=by kernel_rfl
 i9:=by kernel_rfl
 i20:=by kernel_rfl
 i37:=by kernel_rfl
 i46:=by kernel_rfl
 i51:=by kernel_rfl
 i53:=by kernel_rfl
 i171:=by kernel_rfl
 i173:=by kernel_rfl
 i212:=by kernel_rfl
 i232:=by kernel_rfl
 i233:=by kernel_rfl
 m17:=by kernel_rfl
 m18:=by kernel_rfl
 m19:=by kernel_rfl }
open Go.RowKit Go.Sort Go.Lib in
theorem Tryz.strconv_Itoa (n : Int) (h0 : -9223372036854775808 ≤ n) (h1 : n ≤ 9223372036854775807) (w : World) (htab : Lib.TabIs Tryz.prog w "internal/strconv.uint64pow10" .u64 Lib.pow10Tab) :
  Calls Tryz.prog 169 #[.int .i64 n] w fun e w'=>e=.returned (.string ⟨(Lib.itoa n).toArray⟩)∧∃ k os,w'=grow (w.drewN k) os:=Any.strconv_Itoa Tryz.laysM171 n h0 h1 w htab
end Go.Proofs
namespace Go.AV
open Go Go.Proofs
theorem pow_named : Tryz.prog.globalNamed "internal/strconv.uint64pow10" = some 3 := by kernel_rfl
theorem powS_eq:powS=Lib.pow10Tab.map (fun z=>A.int .u64 z):=by kernel_rfl
theorem enter_run {P : Program} {f : FuncId} {fn : Func} {c : Code} (hf : P.funcs[f]? = some fn) (hb : fn.body = some c) (hname : (fn.name == "runtime.NumGoroutine") = false) (vals : Array Value) (w : World) :
  (callFunc f vals).run P w=.ok (.enter f vals) w:=by
 simp only[callFunc,Sem.run_bind,run_program,Result.andThen_ok,hf,hname,gD7,↓reduceIte,hb,Option.isNone_some,Sem.run_pure]
theorem itoa_den (n:Int) (h0:-9223372036854775808≤n) (h1:n≤9223372036854775807) (s:St) (KV Kp:St→A→Prop) (hk:KV s (.str (Lib.itoa n))):Den cx 169 [.int .i64 n] KV Kp s:=by
 refine Den.of_calls (fun vals w=>?_) fun F g w vals hR hv=>?_
 ·exact enter_run (P:=Tryz.prog) Tryz.func169 rfl rfl vals w
 ·obtain ⟨v,hv0,hr⟩:=hv.get (j:=0) rfl;have hl:=hv.1
  have hvs:vals=[.int .i64 n]:=by
   match vals,hl,hv0 with
   | [x],_,h=>simp only[List.getElem?_cons_zero,Option.some.injEq] at h;subst h;rw[hr.int_inv]
  subst hvs
  have htab : Lib.TabIs Tryz.prog w "internal/strconv.uint64pow10" .u64 Lib.pow10Tab := by
   obtain ⟨pre,ty,fr,h1,h2,h3,h4,h5⟩:=hR.gpi (b:=3) (cs:=powS) rfl;unfold Lib.TabIs World.var?;rw[pow_named];simp only[Option.bind_some,h1,Option.some.injEq];congr 1;apply List.ext_getElem?;intro i;by_cases hi:i<powS.length
   ·have hp:i<pre.length:=by rw[h3];exact hi
    have hc:powS[i]?=some (.int .u64 (Lib.pow10Tab[i]'(by rw[powS_eq] at hi;simpa using hi))):=by
     rw[List.getElem?_eq_getElem hi];simp[powS_eq]
    have:=h5 i _ _ hc (List.getElem?_eq_getElem hp);rw[List.getElem?_eq_getElem hp,this.int_inv];rw[powS_eq] at hi;simp only[gC4] at hi;simp[hi]
   ·rw[List.getElem?_eq_none (by omega),List.getElem?_eq_none (by rw[powS_eq] at hi;simpa using hi)]
  refine Calls.mono (Tryz.strconv_Itoa n h0 h1 w htab) fun e w' hp=>?_
  obtain ⟨rfl,k,os,rfl⟩:=hp;refine ⟨_,_,rfl,fun b hb=>?_,rfl,.str _,hk⟩;show (w.heap++os)[b]?=w.heap[b]?;rw[Array.getElem?_append_left hb]
end Go.AV
end
section
namespace Go.AV
open Go
def Tok.name (t:Tok):Str:=if t.kind=2 then Lib.itoa t.n else t.text
def isTok (t:Tok) (x:Str):Bool:=(decide (t.kind=4)||decide (t.kind=1))&&decide (t.text=x)
def isT (x:Str):List Tok→Bool
 | []=>false
 | t::_=>isTok t x
def Tok.free (t:Tok):Bool:=decide (t.kind=1)&&!decide (t.text∈reservedW)
def failAt (fin:Fault) (code:Int):List Tok→Fault
 | []=>fin
 | t::_=>⟨code,t.name,t.line,t.col⟩
def limAt (fin:Fault):List Tok→Fault
 | []=>fin
 | t::_=>⟨3,[],t.line,t.col⟩
inductive Rd (α:Type) where
 | ok (a:α) (w:List Tok) (n:Nat)
 | bad (f:Fault)
def Rd.bind {α β:Type} (r:Rd α) (k:α→List Tok→Nat→Rd β):Rd β:=match r with
 | .ok a w n=>k a w n
 | .bad f=>.bad f
def Rd.to {α:Type} (r:Rd α) (k:α→List Tok→Nat→Prop) (b:Fault→Prop):Prop:=match r with
 | .ok a w n=>k a w n
 | .bad f=>b f
theorem Rd.bind_to {α β:Type} (r:Rd α) (k:α→List Tok→Nat→Rd β) (p:β→List Tok→Nat→Prop) (b:Fault→Prop) :
  (r.bind k).to p b=r.to (fun a w n=>(k a w n).to p b) b:=by cases r<;>rfl
theorem Rd.to_mono {α:Type} {r:Rd α} {p p':α→List Tok→Nat→Prop} {b b':Fault→Prop} (h:r.to p b) (hp:∀ a w n,p a w n→p' a w n) (hb:∀ f,b f→b' f):r.to p' b':=by
 cases r with
 | ok a w n=>exact hp a w n h
 | bad f=>exact hb f h
theorem Rd.ok_to {α:Type} (a:α) (w:List Tok) (n:Nat) (p:α→List Tok→Nat→Prop) (b:Fault→Prop):(Rd.ok a w n).to p b=p a w n:=rfl
theorem Rd.bad_to {α:Type} (f:Fault) (p:α→List Tok→Nat→Prop) (b:Fault→Prop):(Rd.bad f:Rd α).to p b=b f:=rfl
theorem Rd.ite_to {α:Type} (c:Prop) [Decidable c] (x y:Rd α) (p:α→List Tok→Nat→Prop) (b:Fault→Prop):(if c then x else y).to p b=if c then x.to p b else y.to p b:=by
 split<;>rfl
section
variable (lk:Bool) (fin:Fault)
def wantR (x:Str) (w:List Tok) (n:Nat):Rd Unit:=if isT x w=true then .ok () w.tail n else .bad (failAt fin 11 w)
def nameR:List Tok→Nat→Rd Str
 | [],_=>.bad fin
 | t::w,n=>if t.free=true then .ok t.text w n else .bad (failAt fin 11 (t::w))
def numberR (most:Int):List Tok→Nat→Rd Int
 | [],_=>.bad fin
 | t::w,n=>if t.kind=2 then (if t.n<1∨most<t.n then .bad (failAt fin 20 (t::w)) else .ok t.n w n) else .bad (failAt fin 11 (t::w))
def roomR (have_ most:Nat) (w:List Tok) (n:Nat):Rd Unit:=if most≤have_ then .bad (limAt fin w) else .ok () w n
def loopR {σ:Type} (sep:Str) (one:σ→List Tok→Nat→Rd σ):Nat→σ→List Tok→Nat→Rd σ
 | 0,_,_,_=>.bad fin
 | f+1,a,w,n=>(one a w n).bind fun a w n=>if isT sep w=true then loopR sep one f a w.tail n else .ok a w n
def listR {α:Type} (one:List α→List Tok→Nat→Rd α) (acc:List α) (w:List Tok) (n:Nat):Rd (List α) :=
 loopR fin [44] (fun acc w n=>(one acc w n).bind fun a w n=>.ok (acc++[a]) w n) (w.length+1) acc w n
def Tok.begins (t:Tok):Bool :=
 if t.kind=2∨t.kind=3 then true
 else if t.kind=1 then !decide (t.text∈reservedW)||(decide (t.text=[116,114,117,101])||decide (t.text=[102,97,108,115,101]))
 else decide (t.text∈[[45],[39],[95],[91],[123],[36]])
def isId (x:Str):Bool:=isName x&&(match x with|c::_=>decide (97≤c.toNat)&&decide (c.toNat≤122)|[]=>false)&&!decide (x=[116,114,117,101])&&!decide (x=[102,97,108,115,101])
def nodeR (first:Tok) (w:List Tok) (n:Nat):Rd Unit:=if 2000<n+1 then .bad ⟨3,[],first.line,first.col⟩ else .ok () w (n+1)
def restR (first:Tok) (last:Bool) (sort:Str) (w:List Tok) (n:Nat):Rd (List Tm) :=
 if isT [124] w=true then
  match w.tail with
  | []=>.bad fin
  | t::w=>if t.free=true then (if last=true then .bad ⟨19,t.text,t.line,t.col⟩ else (nodeR first w n).bind fun _ w n=>.ok [.mk 6 0 t.text sort [] []] w n) else .bad (failAt fin 11 (t::w))
 else .ok [] w n
def kidR (first:Tok) (tm:List Tok→Nat→Rd Tm) (acc:List Tm) (w:List Tok) (n:Nat):Rd Tm :=
 if acc.length=8 then
  match w with
  | []=>.bad fin
  | t::w=>if t.begins=true then .bad (if lk=true∧2000≤n then ⟨3,[],first.line,first.col⟩ else ⟨3,[],t.line,t.col⟩) else tm (t::w) n
 else tm w n
def namedR (first:Tok) (tm:List Tok→Nat→Rd Tm) (t:Tok) (w:List Tok) (n:Nat):Rd Tm :=
 if t.text=[116,114,117,101] then .ok (.mk 2 1 [] [] [] []) w n
 else if t.text=[102,97,108,115,101] then .ok (.mk 2 0 [] [] [] []) w n
 else if isT [58] w=true then (nameR fin w.tail n).bind fun x w n=>.ok (.mk 6 0 t.text x [] []) w n
 else (wantR fin [40] w n).bind fun _ w n =>
  if isT [41] w=true then .ok (.mk 5 0 t.text [] [] []) w.tail n
  else (listR fin (kidR lk fin first tm) [] w n).bind fun l w n=>(wantR fin [41] w n).bind fun _ w n=>.ok (.mk 5 0 t.text [] l []) w n
def entR (tm:List Tok→Nat→Rd Tm) (acc:List Tm) (w:List Tok) (n:Nat):Rd (List Tm) :=
 (tm w n).bind fun k w n=>(wantR fin [45,62] w n).bind fun _ w n=>(tm w n).bind fun v w n=>.ok (acc++[k,v]) w n
def signedR (first:Tok) (tm:List Tok→Nat→Rd Tm) (last:Bool) (t:Tok) (w:List Tok) (n:Nat):Rd Tm :=
 if t.text=[45] then
  match w with
  | []=>.bad fin
  | u::w=>if u.kind=2∧u.line=t.line∧u.col=t.col+1 then .ok (.mk 1 (-u.n) [] [] [] []) w n else .bad (failAt fin 11 (u::w))
 else if t.text=[39] then
  match w with
  | []=>.bad fin
  | u::w=>if u.free=true∧isId u.text=true then .ok (.mk 4 0 u.text [] [] []) w n else .bad (failAt fin 11 (u::w))
 else if t.text=[91] then
  (if isT [124] w = true ∨ isT [93] w = true then Rd.ok [] w n else listR fin (fun _ => tm) [] w n).bind fun l w n =>
   (restR fin first last [76,105,115,116] w n).bind fun r w n=>(wantR fin [93] w n).bind fun _ w n=>.ok (.mk 7 0 [] [] l r) w n
 else if t.text=[123] then
  (if isT [124] w = true ∨ isT [125] w = true then Rd.ok [] w n else loopR fin [44] (entR fin tm) (w.length + 1) [] w n).bind fun l w n =>
   (restR fin first last [77,97,112] w n).bind fun r w n=>(wantR fin [125] w n).bind fun _ w n=>.ok (.mk 8 0 [] [] l r) w n
 else .ok (.mk 6 0 t.text [65,110,121] [] []) w n
def termR (first:Tok):Nat→List Tok→Nat→Rd Tm
 | _,[],_=>.bad fin
 | 0,t::w,_=>if t.begins=true then .bad (failAt fin 19 (t::w)) else .bad (failAt fin 11 (t::w))
 | k+1,t::w,n =>
  if t.begins=true then
   (nodeR first w n).bind fun _ w n =>
    if t.kind=2 then .ok (.mk 1 t.n [] [] [] []) w n
    else if t.kind=3 then .ok (.mk 3 0 t.text [] [] []) w n
    else if t.kind=1 then namedR lk fin first (termR first k) t w n
    else signedR fin first (termR first k) (decide (k=0)) t w n
  else .bad (failAt fin 11 (t::w))
def wholeR (w:List Tok) (n:Nat):Rd Tm:=match w with
 | []=>.bad fin
 | t::_=>match termR lk fin t 60 w 0 with
  | .ok a w _=>.ok a w n
  | .bad f=>.bad f
def condsR (w:List Tok) (n:Nat):Rd (List Tm) :=
 if isT [105,102] w=true then
  listR fin (fun acc w n=>match w with
   | []=>.bad fin
   | t::r=>if t.begins=true then (roomR fin acc.length 20 (t::r) n).bind fun _ w n=>wholeR lk fin w n else wholeR lk fin (t::r) n) [] w.tail n
 else .ok [] w n
def someR {α:Type} (most have_:Nat) (w:List Tok) (n:Nat) (k:List Tok→Nat→Rd α):Rd α:=match w with
 | []=>.bad fin
 | t::r=>if t.free=true∧most≤have_ then .bad (limAt fin (t::r)) else k (t::r) n
def cellR (w:List Tok) (n:Nat):Rd Cel:=match w with
 | []=>.bad fin
 | t::r=>(nameR fin (t::r) n).bind fun x w n=>(wantR fin [58] w n).bind fun _ w n=>(nameR fin w n).bind fun y w n=>(wantR fin [61] w n).bind fun _ w n =>
   (wholeR lk fin w n).bind fun i w n=>.ok ⟨x,y,i,t.line,t.col⟩ w n
def piecesR:Nat→List Piece→List Str→Bool→List Tok→Nat→Rd (List Piece × List Str × Bool)
 | 0,_,_,_,_,_=>.bad fin
 | f+1,ps,az,tx,w,n =>
  if isT [45,62] w=true then .ok (ps,az,tx) w.tail n
  else match w with
   | []=>.bad fin
   | t::w=>if t.kind=3∨t.free=true then
     (if 20≤ps.length then .bad (limAt fin (t::w))
     else if t.kind=3 then piecesR f (ps++[⟨t.text,[]⟩]) az true w n
     else if 8≤az.length then .bad (limAt fin (t::w))
     else piecesR f (ps++[⟨[],t.text⟩]) (az++[t.text]) tx w n)
    else .bad (failAt fin 11 (t::w))
def attrsR:Nat→Opr→List Tok→Nat→Rd Opr
 | 0,_,_,_=>.bad fin
 | f+1,o,w,n =>
  if isT [46] w=true then .ok o w n
  else match w with
   | []=>.bad fin
   | t::w =>
    if ¬ t.kind=1 then .bad (failAt fin 11 (t::w))
    else if t.text=[112,114,101,99] then
     (if 0<o.prec then .bad (failAt fin 14 (t::w)) else (numberR fin 20 w n).bind fun m w n=>attrsR f { o with prec:=m } w n)
    else if t.text=[108,101,102,116] then
     (if o.assoc=0 then attrsR f { o with assoc:=1 } w n else .bad (failAt fin 14 (t::w)))
    else if t.text=[114,105,103,104,116] then
     (if o.assoc=0 then attrsR f { o with assoc:=2 } w n else .bad (failAt fin 14 (t::w)))
    else if t.text=[115,116,114,105,99,116] then
     (if 0 < o.strict.length then .bad (failAt fin 14 (t :: w)) else
      (wantR fin [40] w n).bind fun _ w n=>(listR fin (fun _=>numberR fin 8) [] w n).bind fun l w n=>(wantR fin [41] w n).bind fun _ w n=>attrsR f { o with strict:=l } w n)
    else .bad (failAt fin 11 (t::w))
def opR (w:List Tok) (n:Nat):Rd Opr :=
 (nameR fin w n).bind fun x w n => (wantR fin [58] w n).bind fun _ w n => (piecesR fin (w.length + 1) [] [] false w n).bind fun p w n =>
  (nameR fin w n).bind fun y w n=>attrsR fin (w.length+1) ⟨x,p.2.1,y,if p.2.2=true then p.1 else [],0,0,[]⟩ w n
def argsR:Nat→List Str→List Tok→Nat→Rd (List Str)
 | 0,_,_,_=>.bad fin
 | f+1,az,w,n =>
  if isT [45,62] w=true then .ok az w.tail n
  else (someR fin 8 az.length w n fun w n=>nameR fin w n).bind fun x w n=>argsR f (az++[x]) w n
def funR (w:List Tok) (n:Nat):Rd Opr :=
 (nameR fin w n).bind fun x w n => (wantR fin [58] w n).bind fun _ w n => (argsR fin (w.length + 1) [] w n).bind fun az w n =>
  (nameR fin w n).bind fun y w n=>.ok ⟨x,az,y,[],0,0,[]⟩ w n
def partR (r:Rul) (w:List Tok) (n:Nat):Rd Rul:=match w with
 | []=>.bad fin
 | t::w =>
  if isTok t [110,101,119]=true then
   (wantR fin [40] w n).bind fun _ w n=>(listR fin (fun _=>wholeR lk fin) [] w n).bind fun l w n=>(wantR fin [41] w n).bind fun _ w n=>.ok { r with new:=r.new++[⟨l⟩] } w n
  else if isTok t [100,114,111,112]=true then
   (wantR fin [64] w n).bind fun _ w n=>(nameR fin w n).bind fun x w n=>.ok { r with drop:=r.drop++[x] } w n
  else
   (nameR fin (t :: w) n).bind fun x w n =>
    (if isT [64] w = true then nameR fin w.tail n else Rd.ok [] w n).bind fun y w n => (wantR fin [58] w n).bind fun _ w n => (wholeR lk fin w n).bind fun l w n =>
     (if isT [61,62] w = true then (wholeR lk fin w.tail n).bind fun u w n => Rd.ok [u] w n else Rd.ok [] w n).bind fun rs w n =>
      .ok { r with parts:=r.parts++[⟨x,y,l,rs,t.line,t.col⟩] } w n
def partsR (c:Rul × Nat) (w:List Tok) (n:Nat):Rd (Rul × Nat):=match w with
 | []=>.bad fin
 | t::r=>if (t.kind=1∧(¬ t.text∈reservedW∨t.text=[110,101,119]∨t.text=[100,114,111,112]))∧20≤c.2 then .bad (limAt fin (t::r))
  else (partR lk fin c.1 (t::r) n).bind fun x w n=>.ok (x,c.2+1) w n
def ruleR (line col:Int) (w:List Tok) (n:Nat):Rd Rul :=
 (nameR fin w n).bind fun x w n => (wantR fin [58] w n).bind fun _ w n =>
  (loopR fin [59] (partsR lk fin) (w.length+1) (⟨x,[],[],[],[],line,col⟩,0) w n).bind fun c w n=>(condsR lk fin w n).bind fun l w n=>.ok { c.1 with cond:=l } w n
def placeR (d:Dfn) (t:Tok) (w:List Tok) (n:Nat):Rd Dfn :=
 if isTok t [115,116,97,114,116]=true then
  (if d.start=[] then (nameR fin w n).bind fun x w n=>.ok { d with start:=x } w n else .bad (failAt fin 14 (t::w)))
 else if isTok t [119,97,116,99,104]=true then
  (if d.watch=[] then (nameR fin w n).bind fun x w n=>.ok { d with watch:=x } w n else .bad (failAt fin 14 (t::w)))
 else if isTok t [99,101,108,108]=true then
  (if 12≤d.once.length then .bad (limAt fin (t::w)) else (cellR lk fin w n).bind fun c w n=>.ok { d with once:=d.once++[c] } w n)
 else if isTok t [109,97,110,121]=true then
  (if d.kind = [] then
   (nameR fin w n).bind fun x w n => (wantR fin [40] w n).bind fun _ w n =>
    (listR fin (fun acc w n=>someR fin 12 acc.length w n fun w n=>cellR lk fin w n) d.many w n).bind fun l w n=>(wantR fin [41] w n).bind fun _ w n=>.ok { d with kind:=x,many:=l } w n
  else .bad (failAt fin 14 (t::w)))
 else .bad (failAt fin 11 (t::w))
def itemR (d:Dfn) (w:List Tok) (n:Nat):Rd Dfn:=match w with
 | []=>.bad fin
 | t::w =>
  (if isTok t [115,111,114,116] = true then
   (listR fin (fun acc w n=>someR fin 40 acc.length w n fun w n=>nameR fin w n) d.sig.sorts w n).bind fun l w n=>Rd.ok { d with sig:={ d.sig with sorts:=l } } w n
  else if isTok t [115,117,98,115,111,114,116]=true then
   (if 200 ≤ d.sig.below.length then Rd.bad (limAt fin (t :: w)) else
    (nameR fin w n).bind fun x w n=>(wantR fin [60] w n).bind fun _ w n=>(nameR fin w n).bind fun y w n=>Rd.ok { d with sig:={ d.sig with below:=d.sig.below++[⟨x,y⟩] } } w n)
  else if isTok t [118,97,108,117,101]=true then
   (listR fin (fun _=>nameR fin) [] w n).bind fun l w n=>Rd.ok { d with sig:={ d.sig with values:=d.sig.values++l } } w n
  else if isTok t [111,112]=true∨isTok t [102,117,110]=true then
   (if 200≤d.sig.ops.length+d.sig.funs.length then Rd.bad (limAt fin (t::w))
   else if t.text=[111,112] then (opR fin w n).bind fun o w n=>Rd.ok { d with sig:={ d.sig with ops:=d.sig.ops++[o] } } w n
   else (funR fin w n).bind fun o w n=>Rd.ok { d with sig:={ d.sig with funs:=d.sig.funs++[o] } } w n)
  else if isTok t [108,101,116]=true then
   (if 300 ≤ d.eqs.length then Rd.bad (limAt fin (t :: w)) else
    (wholeR lk fin w n).bind fun l w n => (wantR fin [61] w n).bind fun _ w n => (wholeR lk fin w n).bind fun r w n => (condsR lk fin w n).bind fun c w n =>
     Rd.ok { d with eqs:=d.eqs++[⟨l,r,c,t.line,t.col⟩] } w n)
  else if isTok t [114,117,108,101]=true then
   (if 300≤d.rules.length then Rd.bad (limAt fin (t::w)) else (ruleR lk fin t.line t.col w n).bind fun r w n=>Rd.ok { d with rules:=d.rules++[r] } w n)
  else placeR lk fin d t w n).bind fun d w n=>(wantR fin [46] w n).bind fun _ w n=>.ok d w n
def itemsR:Nat→Dfn→List Tok→Nat→Rd Dfn
 | 0,_,_,_=>.bad fin
 | f+1,d,w,n=>match w with
  | []=>.ok d [] n
  | _::_=>(itemR lk fin d w n).bind fun d w n=>itemsR f d w n
def noDfn:Dfn:=⟨[],⟨[],[],[],[],[]⟩,[],[],[],[],[],[],[]⟩
def defR (w:List Tok):Rd Dfn :=
 (wantR fin [108,97,110,103,117,97,103,101] w 0).bind fun _ w n=>(nameR fin w n).bind fun x w n=>(wantR fin [46] w n).bind fun _ w n=>itemsR lk fin (w.length+1) { noDfn with name:=x } w n
end
end Go.AV
end
section
namespace Go.AV
open Go Go.Proofs
structure Dc where
 name:Str
 sorts:A
 below:A
 ops:A
 funs:A
 values:A
 eqs:A
 once:A
 kind:Str
 many:A
 rules:A
 start:Str
 watch:Str
def Dc.cs (d:Dc):List A:=[.str d.name,d.sorts,d.below,d.ops,d.funs,d.values,d.eqs,d.once,.str d.kind,d.many,d.rules,.str d.start,.str d.watch]
def psC (T:List Tok) (fin:Fault) (d:Dc) (first:Tok) (i n:Nat):List A :=
 .list none (T.map Tok.enc)::.int .i64 i::(fin.cs++(d.cs++(first.cs++[.int .i64 n,.bool false])))
def psO (T:List Tok) (fin:Fault) (d:Dc) (first:Tok) (i n:Nat):Ob:=.cells 91 (psC T fin d first i n)
attribute [go_sem] Dc.cs psC psO
structure TOk (T:List Tok):Prop where
 len:T.length≤4294967290
 num:∀ t,t∈T→0≤t.n∧t.n≤2147483647
 col:∀ t,t∈T→0≤t.col∧t.col≤4294967296
 txt:∀ t,t∈T→t.text.length≤4294967296
def PK {α:Type} (T:List Tok) (i:Nat) (S:Nat→Nat→St) (enc:α→A) (KV:St→A→Prop) (a:α) (w:List Tok) (n:Nat):Prop:=∀ j,i≤j→j≤T.length→T.drop j=w→n≤2000→KV (S j n) (enc a)
def PB (s:St) (r:Nat) (Kp:St→A→Prop) (f:Fault):Prop:=∀ o,Kp (s.setO r o) (.iface 36 f.enc)
theorem drop_get {T:List Tok} {i:Nat} {t:Tok} {w:List Tok} (h:T.drop i=t::w):T[i]?=some t∧i<T.length∧T.drop (i+1)=w∧t∈T:=by
 have hl:=congrArg List.length h;rw[gD4,gC1] at hl;have h0:(T.drop i)[0]?=some t:=by rw[h];rfl
 rw[List.getElem?_drop,Nat.add_zero] at h0;refine ⟨h0,by omega,?_,List.mem_of_getElem? h0⟩;rw[← List.drop_drop,h];rfl
section
variable {T:List Tok} {fin:Fault} {d:Dc} {first:Tok} {i n:Nat} {s:St} {r:Nat} {KV Kp:St→A→Prop}
theorem peek_den (hr:s.getO r=some (psO T fin d first i n)) (hi:i≤T.length)
  (hk:match T.drop i with|t::_=>KV s t.enc|[]=>Kp s (.iface 36 fin.enc)):Den cx 91 [.ptr r 0] KV Kp s:=by
 simp only[go_sem] at hr;refine Den.drop ?_;(refine Den.of_body (C:=cx) Tryz.func91 rfl rfl (gC6 rfl) ?_;refine wpC_ok (V:=[0,2,12]) _ _ _ _ ?_;simp only[go_sem,Tryz.ntmps91,Tryz.f91]);intro b hb;have hne:=St.ne_of hr hb;simp only[go_sem,hb,hne,hr];(refine draw_ok (V:=[0,2,12]) (OT.l [0,1,2,3,4,5,6,7,8,9] .nil) [] mixed_cx (by decide +kernel) ?_;simp only[go_sem,hr,hne])
 (first|refine gC8 (fun h=>?_) (fun h=>?_)|refine gC9 (fun h=>?_) (fun h=>?_)|refine gD1 (fun h=>?_) (fun h=>?_))<;>simp only[go_sem,h,hr,hne]
 ·have he:i=T.length:=by simpa using h
  rw[List.drop_eq_nil_of_le (by omega)] at hk;exact DK.st hk (St.ge_new hb)
 ·have hlt:i<T.length:=by
   have:¬ i=T.length:=by simpa using h
   omega
  rw[List.drop_eq_getElem_cons hlt] at hk;have ht:T[i]?=some T[i]:=List.getElem?_eq_getElem hlt;(refine draw_ok (V:=[0,2,12]) (OT.l [0,1,2,3,4,5,6,7,8,9,10] .nil) [] mixed_cx (by decide +kernel) ?_;simp only[go_sem,hr,hne,ht,hlt]);exact DK.st hk (St.ge_new hb)
theorem is_den (x:Str) (hr:s.getO r=some (psO T fin d first i n)) (hi:i≤T.length)
  (hk:KV s (.bool (isT x (T.drop i)))):Den cx 149 [.ptr r 0,.str x] KV Kp s:=by
 simp only[go_sem] at hr;refine Den.drop ?_;(refine Den.of_body (C:=cx) Tryz.func149 rfl rfl (gC6 rfl) ?_;refine wpC_ok (V:=[0,1,4,5,15]) _ _ _ _ ?_;simp only[go_sem,Tryz.ntmps149,Tryz.f149]);(refine draw_ok (V:=[0,1,4,5,15]) (OT.l [0,1,2,3,4,5,6,7,8,9] .nil) [] mixed_cx (by decide +kernel) ?_;simp only[go_sem,hr])
 (first|refine gC8 (fun h=>?_) (fun h=>?_)|refine gC9 (fun h=>?_) (fun h=>?_)|refine gD1 (fun h=>?_) (fun h=>?_))<;>simp only[go_sem,h,hr]
 ·have he:i=T.length:=by simpa using h
  rw[List.drop_eq_nil_of_le (by omega)] at hk;exact DK.here hk
 ·have hlt:i<T.length:=by
   have:¬ i=T.length:=by simpa using h
   omega
  rw[List.drop_eq_getElem_cons hlt] at hk;have ht:T[i]?=some T[i]:=List.getElem?_eq_getElem hlt;simp only[isT,isTok] at hk;(refine draw_ok (V:=[0,1,4,5,15]) (OT.l [0,1,2,3,4,5,6,7,8,9,10,11] .nil) [(10,[3,7,9])] mixed_cx (by decide +kernel) ?_;simp only[go_sem,hr,ht,hlt]);intro b hb;have hne:=St.ne_of hr hb;simp only[go_sem,hb,hne,hr,ht,hlt]
  (repeat' (first|exact DK.st hk (by (repeat (first|exact St.ge.refl _|refine St.ge_set (by simp only[hb]) ?_)))|((first|refine gC8 (fun h=>?_) (fun h=>?_)|refine gC9 (fun h=>?_) (fun h=>?_)|refine gD1 (fun h=>?_) (fun h=>?_))<;>simp only[go_sem,h,hb]<;>(try simp only[h,Bool.true_and,Bool.false_and,Bool.and_true,Bool.and_false,Bool.or_true,Bool.true_or,Bool.or_false,Bool.false_or,Bool.not_true,Bool.not_false] at hk))))
theorem take_den (x:Str) (hr:s.getO r=some (psO T fin d first i n)) (hi:i≤T.length) (hT:TOk T)
  (hk:match isT x (T.drop i) with|true=>KV (s.setO r (psO T fin d first (i+1) n)) (.bool true)|false=>KV s (.bool false)):Den cx 144 [.ptr r 0,.str x] KV Kp s:=by
 refine Den.drop ?_;(refine Den.of_body (C:=cx) Tryz.func144 rfl rfl (gC6 rfl) ?_;refine wpC_ok (V:=[0,1,4,8]) _ _ _ _ ?_;simp only[go_sem,Tryz.ntmps144,Tryz.f144]);refine is_den x hr hi ?_;simp only[go_sem] at hr;have:=hT.len;simp only[go_sem]
 (first|refine gC8 (fun h=>?_) (fun h=>?_)|refine gC9 (fun h=>?_) (fun h=>?_)|refine gD1 (fun h=>?_) (fun h=>?_))<;>simp only[go_sem,h]
 ·rw[show isT x (T.drop i)=false from by simpa using h] at hk;exact DK.here hk
 ·rw[show isT x (T.drop i)=true from by simpa using h] at hk;simp only[go_sem,hr,wrap1 i (by omega)];exact DK.here hk
theorem isT_lt {x:Str} (h:isT x (T.drop i)=true):i+1≤T.length:=by
 cases hw:T.drop i with
 | nil=>rw[hw] at h;cases h
 | cons t w=>exact (drop_get hw).2.1
theorem tokName_den (t:Tok) (h0:0≤t.n) (h1:t.n≤2147483647) (hk:KV s (.str t.name)):Den cx 93 [t.enc] KV Kp s:=by
 unfold Tok.name at hk;simp only[go_sem];refine Den.drop ?_;(refine Den.of_body (C:=cx) Tryz.func93 rfl rfl (gC6 rfl) ?_;refine wpC_ok (V:=[0,1,2,5]) _ _ _ _ ?_;simp only[go_sem,Tryz.ntmps93,Tryz.f93]);(intro b hb;try simp only[gD6,ne_eq] at hb);simp only[go_sem,hb]
 (first|refine gC8 (fun h=>?_) (fun h=>?_)|refine gC9 (fun h=>?_) (fun h=>?_)|refine gD1 (fun h=>?_) (fun h=>?_))<;>simp only[go_sem,h,hb]
 ·have hk2:t.kind=2:=by simpa using h
  rw[if_pos hk2] at hk;refine itoa_den t.n (by omega) (by omega) _ _ _ ?_;simp only[go_sem];exact DK.st hk (St.ge_new hb)
 ·have hk2:¬ t.kind=2:=by simpa using h
  rw[if_neg hk2] at hk;exact DK.st hk (St.ge_new hb)
theorem limit_den (t:Tok) (hk:Kp s (.iface 36 (Fault.enc ⟨3,[],t.line,t.col⟩))):Den cx 220 [t.enc] KV Kp s:=by
 simp only[go_sem] at hk;simp only[go_sem];refine Den.drop ?_;(refine Den.of_body (C:=cx) Tryz.func220 rfl rfl (gC6 rfl) ?_;refine wpC_ok (V:=[0,1]) _ _ _ _ ?_;simp only[go_sem,Tryz.ntmps220,Tryz.f220]);(intro b hb;try simp only[gD6,ne_eq] at hb);simp only[go_sem,hb];exact DK.st hk (St.ge_new hb)
theorem fail_den (code:Int) (hr:s.getO r=some (psO T fin d first i n)) (hi:i≤T.length) (hT:TOk T)
  (hk:Kp s (.iface 36 (failAt fin code (T.drop i)).enc)):Den cx 42 [.ptr r 0,.int .i64 code] KV Kp s:=by
 refine Den.drop ?_;(refine Den.of_body (C:=cx) Tryz.func42 rfl rfl (gC6 rfl) ?_;refine wpC_ok (V:=[0,1,4]) _ _ _ _ ?_;simp only[go_sem,Tryz.ntmps42,Tryz.f42]);refine peek_den hr hi ?_;cases hw:T.drop i with
 | nil=>rw[hw] at hk;exact DK.here hk
 | cons t w =>
  rw[hw] at hk;obtain ⟨h1,h2,h3,h4⟩:=drop_get hw;obtain ⟨h5,h6⟩:=hT.num t h4;simp only[failAt] at hk;simp only[go_sem] at hk;simp only[go_sem];(intro b hb;try simp only[gD6,ne_eq] at hb);simp only[go_sem,hb];(refine draw_ok (V:=[0,1,4]) (OT.l [0,1,3,4,5,6,2,7,8,9] .nil) [(2,[4,6])] mixed_cx (by decide +kernel) ?_;simp only[go_sem,hb]);refine tokName_den t h5 h6 ?_;simp only[go_sem,hb];exact DK.st hk (St.ge_new hb)
end
end Go.AV
end
section
namespace Go.AV
open Go Go.Proofs
section
variable {T:List Tok} {fin:Fault} {d:Dc} {first:Tok} {i n:Nat} {s:St} {r:Nat} {KV Kp:St→A→Prop}
theorem PB.here {f:Fault} {o:Ob} (h:PB s r Kp f) (hr:s.getO r=some o):DK Kp s (.iface 36 f.enc):=DK.st (h o) (St.ge_same hr)
theorem PB.at {f:Fault} {o:Ob} {s1:St} (h:PB s r Kp f) (hg:s1.gx s r) (hr:s1.getO r=some o):DK Kp s1 (.iface 36 f.enc):=DK.st (h o) (hg.ge hr)
theorem want_den (x:Str) (hr:s.getO r=some (psO T fin d first i n)) (hi:i≤T.length) (hT:TOk T)
  (hk:(wantR fin x (T.drop i) n).to (fun _ w n'=>i+1≤T.length→T.drop (i+1)=w→n'=n→KV (s.setO r (psO T fin d first (i+1) n)) (.tuple [])) (PB s r Kp)):Den cx 84 [.ptr r 0,.list none [.str x]] KV Kp s:=by
 refine Den.drop ?_;(refine Den.of_body (C:=cx) Tryz.func84 rfl rfl (gC6 rfl) ?_;refine wpC_ok (V:=[0,1,5,6,7,8,9,15]) _ _ _ _ ?_;simp only[go_sem,Tryz.ntmps84,Tryz.f84])
 refine Ex.loop (fun k:Nat=>[(0,.ptr r 0),(6,.list none [.str x]),(7,.int .i64 1),(8,.int .i64 k)]) (fun k=>match k with|0=>s|_+1=>s.setO r (psO T fin d first (i+1) n))
  (fun k=>k=0∨k=1∧isT x (T.drop i)=true) (fun k=>1-k) 0 (.inl rfl) ?_ (St.ge.refl _) ?_
 ·simp only[go_sem];exact ⟨rfl,rfl⟩
 ·rintro k (rfl|⟨rfl,hx⟩)
  ·refine wpC_ok (V:=[0,1,5,6,7,8,9,15]) _ _ _ _ ?_;simp only[go_sem];refine ⟨by simp,?_⟩;simp only[go_sem];refine ⟨rfl,?_⟩;refine take_den x hr hi hT ?_;cases hx:isT x (T.drop i) with
   | true =>
    simp only[go_sem];exact ⟨1,.inr rfl,by omega,rfl,St.ge.refl _⟩
   | false =>
    simp only[go_sem];refine fail_den 11 hr hi hT ?_;simp only[wantR,hx,gD7,if_false,Rd.bad_to] at hk;exact hk.here hr
  ·refine wpC_ok (V:=[0,1,5,6,7,8,9,15]) _ _ _ _ ?_;simp only[wantR,hx,if_true,Rd.ok_to] at hk;simp only[go_sem];exact DK.here (hk (isT_lt hx) (by simp) trivial)
theorem name_den (hr:s.getO r=some (psO T fin d first i n)) (hi:i≤T.length) (hT:TOk T)
  (hk:(nameR fin (T.drop i) n).to (fun x w n'=>i+1≤T.length→T.drop (i+1)=w→n'=n→KV (s.setO r (psO T fin d first (i+1) n)) (.str x)) (PB s r Kp)):Den cx 85 [.ptr r 0] KV Kp s:=by
 refine Den.drop ?_;(refine Den.of_body (C:=cx) Tryz.func85 rfl rfl (gC6 rfl) ?_;refine wpC_ok (V:=[0,2,3,13]) _ _ _ _ ?_;simp only[go_sem,Tryz.ntmps85,Tryz.f85]);refine peek_den hr hi ?_;cases hw:T.drop i with
 | nil=>rw[hw] at hk;exact PB.here hk hr
 | cons t w =>
  rw[hw] at hk;obtain ⟨h1,h2,h3,h4⟩:=drop_get hw;have:=hT.len;simp only[nameR] at hk;simp only[go_sem];(intro b hb;try simp only[gD6,ne_eq] at hb);have hne:=St.ne_of hr hb;have hr':(s.setO b (.cells 60 t.cs)).getO r=some (psO T fin d first i n):=by rw[gA1,if_neg hne.2];exact hr
  have hr2:=hr;simp only[go_sem] at hr2
  have bad:∀ KV',t.free=false→Den cx 42 [.ptr r 0,.int .i64 11] KV' (DK Kp) (s.setO b (.cells 60 t.cs)):=by
   intro KV' hf;refine fail_den 11 hr' hi hT ?_;rw[hf] at hk;simp only[gD7,if_false,Rd.bad_to] at hk;rw[hw];exact hk.at (by (repeat (first|exact gA8 _ _|refine St.gx_r ?_|refine gA7 (by first|simp only[hb]|assumption) ?_|refine St.gx_T (by first|simp only[hb]|assumption) ?_))) hr'
  have good:t.free=true→KV (s.setO r (psO T fin d first (i+1) n)) (.str t.text):=by
   intro hf;rw[hf] at hk;simp only[if_true,Rd.ok_to] at hk;exact hk h2 h3 trivial
  simp only[go_sem,hb,hne,hr2]
  (first|refine gC8 (fun h=>?_) (fun h=>?_)|refine gC9 (fun h=>?_) (fun h=>?_)|refine gD1 (fun h=>?_) (fun h=>?_))<;>simp only[go_sem,h,hb,hne,hr2]
  ·refine bad _ ?_;rw[Tok.free,show decide (t.kind=1)=false from by simpa using h];rfl
  ·refine isReserved145_den _ _ _ _ ?_;simp only[go_sem,hb,hne,hr2];have hk1:decide (t.kind=1)=true:=by simpa using h
   (first|refine gC8 (fun h=>?_) (fun h=>?_)|refine gC9 (fun h=>?_) (fun h=>?_)|refine gD1 (fun h=>?_) (fun h=>?_))<;>simp only[go_sem,h,hb,hne,hr2]
   ·refine bad _ ?_;rw[Tok.free,hk1,h];rfl
   ·have hg:=good (by rw[Tok.free,hk1,h];rfl);simp only[go_sem,wrap1 i (by omega)];exact DK.st hg (St.gx.ge (by (repeat (first|exact gA8 _ _|refine St.gx_r ?_|refine gA7 (by first|simp only[hb]|assumption) ?_|refine St.gx_T (by first|simp only[hb]|assumption) ?_))) (by rw[gA1,if_pos rfl];rfl))
theorem node_den (hr:s.getO r=some (psO T fin d first i n)) (hn:n≤2000)
  (hk:(nodeR first (T.drop i) n).to (fun _ w n=>w=T.drop i→n≤2000→KV (s.setO r (psO T fin d first i n)) (.tuple [])) (PB s r Kp)):Den cx 166 [.ptr r 0] KV Kp s:=by
 have hr2:=hr;simp only[go_sem] at hr2;refine Den.drop ?_;(refine Den.of_body (C:=cx) Tryz.func166 rfl rfl (gC6 rfl) ?_;refine wpC_ok (V:=[0,13]) _ _ _ _ ?_;simp only[go_sem,Tryz.ntmps166,Tryz.f166]);simp only[go_sem,hr2,wrap1 n (by omega)]
 (first|refine gC8 (fun h=>?_) (fun h=>?_)|refine gC9 (fun h=>?_) (fun h=>?_)|refine gD1 (fun h=>?_) (fun h=>?_))<;>simp only[go_sem,h,hr2]
 ·refine limit_den first ?_
  have hc:2000<n+1:=by have:=h;simp at this;omega
  simp only[nodeR,hc,if_true,Rd.bad_to] at hk;exact hk.at (by (repeat (first|exact gA8 _ _|refine St.gx_r ?_))) (by rw[gA1,if_pos rfl])
 ·have hc:¬ 2000<n+1:=by have:=h;simp at this;omega
  simp only[nodeR,hc,if_false,Rd.ok_to] at hk;exact DK.here (hk trivial (by omega))
end
end Go.AV
end
section
namespace Go.AV
open Go Go.Proofs
section
variable {T:List Tok} {fin:Fault} {d:Dc} {first:Tok} {i n:Nat} {s:St} {r:Nat} {KV Kp:St→A→Prop}
theorem begins_den (t:Tok) (hk:KV s (.bool t.begins)):Den cx 236 [t.enc] KV Kp s:=by
 simp only[go_sem];refine Den.drop ?_;(refine Den.of_body (C:=cx) Tryz.func236 rfl rfl (gC6 rfl) ?_;refine wpC_ok (V:=[0,1,2,4,5,8]) _ _ _ _ ?_;simp only[go_sem,Tryz.ntmps236,Tryz.f236]);(intro b hb;try simp only[gD6,ne_eq] at hb);simp only[go_sem,hb]
 (first|refine gC8 (fun h=>?_) (fun h=>?_)|refine gC9 (fun h=>?_) (fun h=>?_)|refine gD1 (fun h=>?_) (fun h=>?_))<;>simp only[go_sem,h,hb]
 ·have h2:t.kind=2:=by simpa using h
  rw[show t.begins=true by simp[Tok.begins,h2]] at hk
  (try simp only[go_sem,hb])
  exact DK.st hk (St.ge_new hb)
 ·have h2:¬ t.kind=2:=by simpa using h
  (try simp only[go_sem,hb])
  (first|refine gC8 (fun h=>?_) (fun h=>?_)|refine gC9 (fun h=>?_) (fun h=>?_)|refine gD1 (fun h=>?_) (fun h=>?_))<;>simp only[go_sem,h,hb]
  ·have h3:t.kind=3:=by simpa using h
   rw[show t.begins=true by simp[Tok.begins,h3]] at hk
   (try simp only[go_sem,hb])
   exact DK.st hk (St.ge_new hb)
  ·have h3:¬ t.kind=3:=by simpa using h
   (try simp only[go_sem,hb])
   (first|refine gC8 (fun h=>?_) (fun h=>?_)|refine gC9 (fun h=>?_) (fun h=>?_)|refine gD1 (fun h=>?_) (fun h=>?_))<;>simp only[go_sem,h,hb]
   ·have h1:t.kind=1:=by simpa using h
    rw[show t.begins=(!decide (t.text∈reservedW)||(decide (t.text=[116,114,117,101])||decide (t.text=[102,97,108,115,101]))) by simp[Tok.begins,h1]] at hk
    (try simp only[go_sem,hb])
    refine isReserved145_den _ _ _ _ ?_;simp only[go_sem,hb];cases hr:decide (t.text∈reservedW)<;>simp only[go_sem,hb]
    ·rw[hr] at hk;exact DK.st hk (St.ge_new hb)
    ·rw[hr] at hk;cases ht:decide (t.text=[116,114,117,101])<;>simp only[go_sem,hb]
     ·rw[ht] at hk;exact DK.st hk (St.ge_new hb)
     ·rw[ht] at hk;exact DK.st hk (St.ge_new hb)
   ·have h1:¬ t.kind=1:=by simpa using h
    rw[show t.begins=decide (t.text∈[[45],[39],[95],[91],[123],[36]]) by simp[Tok.begins,h1,h2,h3]] at hk
    (try simp only[go_sem,hb])
    refine contains_den _ [[45],[39],[95],[91],[123],[36]] _ _ _ ?_;simp only[go_sem,hb];exact DK.st hk (St.ge_new hb)
theorem room_den (a b:Int) (hr:s.getO r=some (psO T fin d first i n)) (hi:i≤T.length)
  (hk:if b≤a then PB s r Kp (limAt fin (T.drop i)) else KV s (.tuple [])):Den cx 148 [.ptr r 0,.int .i64 a,.int .i64 b] KV Kp s:=by
 refine Den.drop ?_;(refine Den.of_body (C:=cx) Tryz.func148 rfl rfl (gC6 rfl) ?_;refine wpC_ok (V:=[0,1,2,8]) _ _ _ _ ?_;simp only[go_sem,Tryz.ntmps148,Tryz.f148])
 (first|refine gC8 (fun h=>?_) (fun h=>?_)|refine gC9 (fun h=>?_) (fun h=>?_)|refine gD1 (fun h=>?_) (fun h=>?_))<;>simp only[go_sem,h]
 ·have hc:b≤a:=by simpa using h
  rw[if_pos hc] at hk;refine peek_den hr hi ?_;cases hw:T.drop i with
  | nil=>rw[hw] at hk;exact hk.here hr
  | cons t w =>
   rw[hw] at hk;simp only[go_sem];refine limit_den t ?_;exact hk.here hr
 ·have hc:¬ b≤a:=by simpa using h
  rw[if_neg hc] at hk;exact DK.here hk
theorem starts_den (hr:s.getO r=some (psO T fin d first i n)) (hi:i≤T.length)
  (hk:match T.drop i with|t::_=>KV s (.bool t.begins)|[]=>PB s r Kp fin):Den cx 165 [.ptr r 0] KV Kp s:=by
 have hr2:=hr;simp only[go_sem] at hr2;refine Den.drop ?_;(refine Den.of_body (C:=cx) Tryz.func165 rfl rfl (gC6 rfl) ?_;refine wpC_ok (V:=[0,2]) _ _ _ _ ?_;simp only[go_sem,Tryz.ntmps165,Tryz.f165]);refine peek_den hr hi ?_;cases hw:T.drop i with
 | nil=>rw[hw] at hk;exact hk.here hr
 | cons t w =>
  rw[hw] at hk;simp only at hk;simp only[go_sem];refine begins_den t ?_;simp only[go_sem];cases hb:t.begins<;>simp only[go_sem,hr2]
  ·rw[hb] at hk;exact DK.here hk
  ·rw[hb] at hk;exact DK.here hk
theorem pnumber_den (most:Int) (hr:s.getO r=some (psO T fin d first i n)) (hi:i≤T.length) (hT:TOk T)
  (hk:(numberR fin most (T.drop i) n).to (fun x w n'=>i+1≤T.length→T.drop (i+1)=w→n'=n→KV (s.setO r (psO T fin d first (i+1) n)) (.int .i64 x)) (PB s r Kp)):Den cx 281 [.ptr r 0,.int .i64 most] KV Kp s:=by
 refine Den.drop ?_;(refine Den.of_body (C:=cx) Tryz.func281 rfl rfl (gC6 rfl) ?_;refine wpC_ok (V:=[0,1,4,5,10,21]) _ _ _ _ ?_;simp only[go_sem,Tryz.ntmps281,Tryz.f281]);refine peek_den hr hi ?_;cases hw:T.drop i with
 | nil=>rw[hw] at hk;exact PB.here hk hr
 | cons t w =>
  rw[hw] at hk;obtain ⟨h1,h2,h3,h4⟩:=drop_get hw;have:=hT.len;simp only[numberR] at hk;simp only[go_sem];(intro b hb;try simp only[gD6,ne_eq] at hb);have hne:=St.ne_of hr hb;have hr':(s.setO b (.cells 60 t.cs)).getO r=some (psO T fin d first i n):=by rw[gA1,if_neg hne.2];exact hr
  have hr2:=hr;simp only[go_sem] at hr2
  have bad:∀ KV' code,PB s r Kp (failAt fin code (t::w))→Den cx 42 [.ptr r 0,.int .i64 code] KV' (DK Kp) (s.setO b (.cells 60 t.cs)):=by
   intro KV' code hf;refine fail_den code hr' hi hT ?_;rw[hw];exact hf.at (by (repeat (first|exact gA8 _ _|refine St.gx_r ?_|refine gA7 (by first|simp only[hb]|assumption) ?_|refine St.gx_T (by first|simp only[hb]|assumption) ?_))) hr'
  simp only[go_sem,hb,hne,hr2]
  (first|refine gC8 (fun h=>?_) (fun h=>?_)|refine gC9 (fun h=>?_) (fun h=>?_)|refine gD1 (fun h=>?_) (fun h=>?_))<;>simp only[go_sem,h,hb,hne,hr2]
  ·have h2:¬ t.kind=2:=by simpa using h
   rw[if_neg h2,Rd.bad_to] at hk;exact bad _ _ hk
  ·have h2:t.kind=2:=by simpa using h
   rw[if_pos h2] at hk;have range:(t.n<1∨most<t.n)→PB s r Kp (failAt fin 20 (t::w)):=fun hc=>by rw[if_pos hc] at hk;exact hk
   have good:¬ (t.n<1∨most<t.n)→KV (s.setO r (psO T fin d first (i+1) n)) (.int .i64 t.n):=fun hc=>by
    rw[if_neg hc] at hk;exact hk (by omega) h3 rfl
   cases c1:decide (t.n<1)
   ·cases c2:decide (most<t.n)
    ·(try simp only[go_sem,hb,hne,hr2,c1,c2,wrap1 i (by omega)])
     exact DK.st (good (by simp at c1 c2;omega)) (St.gx.ge (by (repeat (first|exact gA8 _ _|refine St.gx_r ?_|refine gA7 (by first|simp only[hb]|assumption) ?_|refine St.gx_T (by first|simp only[hb]|assumption) ?_))) (by rw[gA1,if_pos rfl];rfl))
    ·(try simp only[go_sem,hb,hne,hr2,c1,c2])
     exact bad _ _ (range (by simp at c1 c2;omega))
   ·(try simp only[go_sem,hb,hne,hr2,c1])
    exact bad _ _ (range (by simp at c1;omega))
end
end Go.AV
end
