/-
  Part of the proof of DefBlanks.
-/
import Derived.Test.YtamikhobdffnfaaGreatDoorBl17
import Derived.Test.YtamikhobdffnfaaGreatDoorBl20
import Derived.Test.YtamikhobdffnfaaGreatDoorBl10
import Derived.Test.YtamikhobdffnfaaGreatDoorBl15
import Derived.Test.YtamikhobdffnfaaGreatDoorBl16
import Derived.Shelf.LaysM
import Derived.Shelf.Strconv.Itoa3
set_option linter.all false
set_option maxRecDepth 1000000
set_option maxHeartbeats 40000000
section
namespace Go.AV
open Go Go.Proofs
theorem isReserved145_den (s:St) (x:Str) (KV Kp) (hk:KV s (.bool (decide (x∈reservedW)))):Den cx 145 [.str x] KV Kp s:=by
 refine Den.drop ?_;(refine Den.of_body (C:=cx) Tryz.func145 rfl rfl (gC6 rfl) ?_;refine wpC_ok (V:=[0,2]) _ _ _ _ ?_;simp only[go_sem,Tryz.ntmps145,Tryz.f145]);refine fields_reserved _ _ _ ?_;simp only[go_sem,wordsA];refine contains_den _ _ _ _ _ ?_;simp only[go_sem];exact DK.here hk
theorem builtIn107_den (s:St) (x:Str) (KV Kp) (hk:KV s (.bool (decide (x∈builtInW)))):Den cx 107 [.str x] KV Kp s:=by
 refine Den.drop ?_;(refine Den.of_body (C:=cx) Tryz.func107 rfl rfl (gC6 rfl) ?_;refine wpC_ok (V:=[0,2]) _ _ _ _ ?_;simp only[go_sem,Tryz.ntmps107,Tryz.f107]);refine fields_builtIn _ _ _ ?_;simp only[go_sem,wordsA];refine contains_den _ _ _ _ _ ?_;simp only[go_sem];exact DK.here hk
end Go.AV
end
section
namespace Go.AV
open Go Go.Proofs
theorem signTo_app (w:Str) (x:Str):∀ (l:List Str) (n:Nat),signTo w (l++[x]) n=if signTo w l n<x.length∧hasPre w x=true then x.length else signTo w l n
 | [],n=>rfl
 | y::l,n=>signTo_app w x l _
theorem signTo_le (w:Str):∀ (l:List Str) (n:Nat),n≤w.length→signTo w l n≤w.length
 | [],n,h=>h
 | y::l,n,h=>by
  refine signTo_le w l _ ?_;split
  ·rename_i hc;have:=hc.2;simp only[hasPre,gD5,decide_eq_true_eq] at this;exact this.1
  ·exact h
theorem idx_lt:∀ (w:Str) (c:UInt8),Lib.indexByte w c<(w.length:Int)
 | [],c=>by simp[Lib.indexByte]
 | d::w,c=>by
  have ih:=idx_lt w c;have ig:=Lib.indexByte_ge w c;unfold Lib.indexByte;simp only[gC1];split
  ·omega
  ·split<;>omega
theorem token_den (s:St) (r:Nat) (x:Str) (at_ l c:Nat) (sg:List Str) (op:Bool) (KV Kp)
  (hr:s.getO r=some (.cells 226 (rdCs x at_ l c sg op))) (hx:x.length≤4294967296) (ha:at_<x.length) (hsg:sg.length≤4294967296)
  (hk:KV s (.tuple [(tokOf (x.drop at_) sg op).1.enc,.int .i64 (tokOf (x.drop at_) sg op).2.1,.bool (tokOf (x.drop at_) sg op).2.2])):Den cx 278 [.ptr r 0] KV Kp s:=by
 obtain ⟨b,w,hw⟩:∃ b w,x.drop at_=b::w:=by
  cases h:x.drop at_ with
  | nil=>have:=congrArg List.length h;simp at this;omega
  | cons b w=>exact ⟨b,w,rfl⟩
 have hlw:(b::w).length≤4294967296:=by rw[← hw,gD4];omega
 refine Den.drop ?_;(refine Den.of_body (C:=cx) Tryz.func278 rfl rfl (gC6 rfl) ?_;refine wpC_ok (V:=[0,2,3,4,5,6,8,20,33,41,67,68,69,70,81,100]) _ _ _ _ ?_;simp only[go_sem,Tryz.ntmps278,Tryz.f278]);(intro q hq;try simp only[gD6,ne_eq] at hq);have hne:=St.ne_of hr hq;simp only[go_sem,hr,hq,hne,rdCs];(refine draw_ok (V:=[0,2,3,4,5,6,8,20,33,41,67,68,69,70,81,100]) (OT.l [0,1,2,3,4,5,6,7,8,9] .nil) [] mixed_cx (by decide +kernel) ?_;simp only[go_sem,hr,hq,hne,rdCs]);rw[hw] at hk ⊢;have hpos:0<(b::w).length:=by simp
 simp only[go_sem,Nat.le_of_lt ha,hpos];refine ⟨⟨by omega,by omega⟩,?_⟩;have e1:List.take (Int.toNat 1) (b::w)=[b]:=rfl;rw[e1];refine isName_den _ _ _ _ ?_;simp only[go_sem]
 (first|refine gC8 (fun h=>?_) (fun h=>?_)|refine gC9 (fun h=>?_) (fun h=>?_)|refine gD1 (fun h=>?_) (fun h=>?_))<;>simp only[go_sem,h,hr,hq,hne,rdCs]
 ·refine run_den _ _ _ (fun c=>isPart c.toNat) _ _ hlw (fun c KV Kp h=>isPart_den _ _ _ _ h) ?_;have hn:((b::w).takeWhile fun c=>isPart c.toNat).length≤(b::w).length:=(List.takeWhile_sublist _).length_le;simp only[tokOf,h,if_true] at hk;generalize ((b::w).takeWhile fun c=>isPart c.toNat).length=n at hk hn;simp only[go_sem,hr,hq,hne,rdCs,hn];refine ⟨by simpa using hn,?_⟩;have e2:decide ((n:Int)≤40)=decide (n≤40):=by rw[decide_eq_decide];omega
  rw[e2];exact DK.st hk (St.ge_new hq)
 ·refine isDigit_den _ _ _ _ ?_;have hnm:¬ isName [b]=true:=by rw[h];simp
  simp only[go_sem]
  (first|refine gC8 (fun h=>?_) (fun h=>?_)|refine gC9 (fun h=>?_) (fun h=>?_)|refine gD1 (fun h=>?_) (fun h=>?_))<;>simp only[go_sem,h,hr,hq,hne,rdCs]
  ·simp only[tokOf,hnm,if_false,h,if_true,gD7] at hk;refine number_den _ _ _ _ hlw ?_;simp only[go_sem,hr,hq,hne];exact DK.st hk (St.ge_new hq)
  ·have hnd:¬ isDig b.toNat=true:=by rw[h];simp
   have h340:(34:UInt8).toNat=34:=rfl
   have e3:decide ((b.toNat:Int)=34)=decide (b=34):=by
    rw[decide_eq_decide,← UInt8.toNat_inj,h340];omega
   rw[e3]
   (first|refine gC8 (fun h=>?_) (fun h=>?_)|refine gC9 (fun h=>?_) (fun h=>?_)|refine gD1 (fun h=>?_) (fun h=>?_))<;>simp only[go_sem,h,hr,hq,hne,rdCs]
   ·have hb:b=34:=by simpa using h
    simp only[tokOf,hnm,hnd,hb,if_false,if_true] at hk;refine ⟨⟨by omega,by omega⟩,?_⟩
    have e4:List.take (w.length+1-Int.toNat 1) (List.drop (Int.toNat 1) (b::w))=w:=by
     show List.take (w.length+1-1) w=w;simp
    have e5:(A.int IntKind.u8 34)=.int .u8 ((34:UInt8).toNat):=rfl;rw[e4,e5];refine idxByte298_den _ _ _ _ _ ?_;have hm1:=Lib.indexByte_ge w 34;have hm2:=idx_lt w 34;obtain ⟨k,hk0⟩:∃ k:Nat,Lib.indexByte w 34=(k:Int)-1:=⟨(Lib.indexByte w 34+1).toNat,by omega⟩
    rw[hk0] at hk hm2 ⊢;simp only[gC1] at hlw;have hkw:k≤w.length:=by omega
    have ew:IntKind.i64.wrap ((k:Int)-1+2)=((k+1:Nat):Int):=by rw[wrap_in _ (by omega) (by omega)];omega
    have ew2:IntKind.i64.wrap (((k+1:Nat):Int)-1)=(k:Int):=by rw[wrap_in _ (by omega) (by omega)];omega
    have en:((k:Int)-1+2).toNat=k+1:=by omega
    simp only[en] at hk;simp only[go_sem,ew];(refine draw_ok (V:=[0,2,3,4,5,6,8,20,33,41,67,68,69,70,81,100]) (OT.l [0,1,2,3,4,5,6,7,8,9,10,11,12,13,14,15,16,17,18] .nil) [] mixed_cx (by decide +kernel) ?_;simp only[go_sem,hr,hq,hne,rdCs,ew2]);have em:(if (k:Int)<1 then (1:Int) else k)=((max k 1:Nat):Int):=by split<;>omega
    rw[em];refine ⟨⟨by omega,by omega,by omega⟩,?_⟩
    have et:List.take (Int.toNat ((max k 1:Nat):Int)-Int.toNat 1) (List.drop (Int.toNat 1) (b::w))=w.take (k-1):=by
     show List.take (max k 1-1) w=w.take (k-1);congr 1;omega
    rw[et];have et2:k+1-2=k-1:=by omega
    rw[et2] at hk
    (first|refine gC8 (fun h=>?_) (fun h=>?_)|refine gC9 (fun h=>?_) (fun h=>?_)|refine gD1 (fun h=>?_) (fun h=>?_))<;>simp only[go_sem,h,hr,hq,hne,rdCs,ew2]
    ·have hk1:1<k+1:=by have:=h;simp at this;omega
     refine ⟨⟨by omega,by omega,by omega⟩,?_⟩;have et3:List.take (k-Int.toNat 1) (List.drop (Int.toNat 1) (b::w))=w.take (k-1):=rfl;rw[et3];refine isString_den _ _ _ _ ?_;simp only[go_sem,hr,hq,hne];simp only[hk1,decide_true,Bool.true_and] at hk;exact DK.st hk (St.ge_new hq)
    ·have hk1:¬ 1<k+1:=by have:=h;simp at this;omega
     simp only[hk1,decide_false,Bool.false_and] at hk;exact DK.st hk (St.ge_new hq)
   ·have hnb:¬ b=34:=by simpa using h
    simp only[tokOf,hnm,hnd,hnb,if_false] at hk;have hz:=signTo_le (b::w) sg 0 (Nat.zero_le _)
    refine Ex.loop (fun i=>[(0,.ptr r 0),(2,.ptr q 0),(3,.int .i64 (signTo (b::w) (sg.take i) 0:Nat)),(5,.str (b::w)),(6,.int .u8 b.toNat),(67,.list none (sg.map .str)),(68,.int .i64 (sg.length:Nat)),(69,.int .i64 (i:Nat))])
     (fun _=>s.setO q (.cells 60 [.int .i64 0,.str [],.int .i64 0,.int .i64 0,.int .i64 0])) (fun i=>i≤sg.length) (fun i=>sg.length-i) 0 (Nat.zero_le _) ?_ (St.ge.refl _) ?_
    ·simp[Env.has,Env.get,signTo]
    ·intro i hi;refine wpC_ok (V:=[0,2,3,4,5,6,8,20,33,41,67,68,69,70,81,100]) _ _ _ _ ?_;simp only[go_sem]
     (first|refine gC8 (fun h=>?_) (fun h=>?_)|refine gC9 (fun h=>?_) (fun h=>?_)|refine gD1 (fun h=>?_) (fun h=>?_))<;>simp only[go_sem,h,hr,hq,hne,rdCs]
     ·have hlt:i<sg.length:=by simpa using h
      obtain ⟨y,hy⟩:∃ y,sg[i]?=some y:=⟨sg[i],List.getElem?_eq_getElem hlt⟩
      have hst:signTo (b::w) (sg.take (i+1)) 0=if signTo (b::w) (sg.take i) 0<y.length∧hasPre (b::w) y=true then y.length else signTo (b::w) (sg.take i) 0:=by
       rw[← signTo_app,List.take_add_one,hy];rfl
      generalize signTo (b::w) (sg.take i) 0=n at hst;refine ⟨hlt,?_⟩;simp only[go_sem,hy]
      (first|refine gC8 (fun h=>?_) (fun h=>?_)|refine gC9 (fun h=>?_) (fun h=>?_)|refine gD1 (fun h=>?_) (fun h=>?_))<;>simp only[go_sem,h,hr,hq,hne,rdCs]
      ·have h5:n<y.length:=by simpa using h
       refine hasPre299_den _ _ _ _ _ ?_;simp only[go_sem]
       (first|refine gC8 (fun h=>?_) (fun h=>?_)|refine gC9 (fun h=>?_) (fun h=>?_)|refine gD1 (fun h=>?_) (fun h=>?_))<;>simp only[go_sem,h]
       ·exact ⟨i+1,by omega,by omega,⟨by rw[hst,if_pos ⟨h5,h⟩],wrap1 i (by omega)⟩,St.ge.refl _⟩
       ·exact ⟨i+1,by omega,by omega,⟨by rw[hst,if_neg (by rw[h];simp)],wrap1 i (by omega)⟩,St.ge.refl _⟩
      ·have h5:¬ n<y.length:=by simpa using h
       exact ⟨i+1,by omega,by omega,⟨by rw[hst,if_neg (by simp[h5])],wrap1 i (by omega)⟩,St.ge.refl _⟩
     ·have hge:sg.length≤i:=by simpa using h
      obtain rfl:i=sg.length:=by omega
      rw[List.take_length];generalize signTo (b::w) sg 0=n at hk hz
      have hqr:(s.setO q (.cells 60 [.int .i64 0,.str [],.int .i64 0,.int .i64 0,.int .i64 0])).getO r=some (.cells 226 (rdCs x at_ l c sg op)):=by
       rw[gA1,if_neg hne.2];exact hr
      simp only[gD7,if_false] at hk;have h390:(39:UInt8).toNat=39:=rfl;have h950:(95:UInt8).toNat=95:=rfl;have e39:decide ((b.toNat:Int)=39)=decide (b=39):=by rw[decide_eq_decide,← UInt8.toNat_inj,h390];omega
      have e95:decide ((b.toNat:Int)=95)=decide (b=95):=by rw[decide_eq_decide,← UInt8.toNat_inj,h950];omega
      have e0:decide ((n:Int)=0)=decide (n=0):=by rw[decide_eq_decide];omega
      rw[e0];cases h0:decide (n=0)<;>cases op<;>simp only[go_sem,hqr,hq,hne,rdCs,e39,e95]<;>cases h39:decide (b=39)<;>cases h95:decide (b=95)<;>(try simp only[go_sem,hqr,hq,hne,rdCs,e39,e95,h39,h95])
      all_goals (simp only[decide_eq_true_eq,decide_eq_false_iff_not] at h0 h39 h95)
      all_goals (have ed:decide (0<(n:Int))=decide (0<n):=by rw[decide_eq_decide];omega)
      all_goals (simp only[gC1] at hz)
      all_goals first
       | (rw[if_neg (fun hc=>by simp_all)] at hk;refine ⟨by omega,?_⟩;rw[ed];exact DK.st hk (St.ge_new hq))
       | (rw[if_pos (by simp_all)] at hk;refine ⟨by omega,?_⟩;exact DK.st hk (St.ge_new hq))
end Go.AV
end
section
namespace Go.AV
open Go Go.Proofs
@[go_sem] theorem cx_det:cx.det=false:=rfl
@[go_sem] theorem litA_cons (x:A) (l:List A):litA (x::l)=.list none (x::l):=rfl
@[go_sem] theorem litA_nil:litA []=.emp:=rfl
def gs (s:St) (tk:Option Nat) (n:Nat) (e:TypeId):St:=match tk with
 | none=>s
 | some t=>s.setT t (n,e)
@[go_sem] theorem gA6 (s:St) (tk:Option Nat) (n:Nat) (e:TypeId) (b:Nat):(gs s tk n e).getO b=s.getO b:=by cases tk<;>rfl
@[go_sem] theorem gs_setO (s:St) (tk:Option Nat) (n:Nat) (e:TypeId) (b:Nat) (o:Ob):(gs s tk n e).setO b o=gs (s.setO b o) tk n e:=by cases tk<;>rfl
@[go_sem] theorem setT_setO (s:St) (t:Nat) (v:Nat × TypeId) (b:Nat) (o:Ob):(s.setT t v).setO b o=(s.setO b o).setT t v:=rfl
attribute [go_sem] gA3 gA2
@[go_sem] theorem getO_delT (s:St) (t b:Nat):(s.delT t).getO b=s.getO b:=rfl
@[go_sem] theorem setL_setO (s:St) (x:Option (Nat × Nat × A)) (b:Nat) (o:Ob):(s.setL x).setO b o=(s.setO b o).setL x:=rfl
@[go_sem] theorem delT_setO (s:St) (t:Nat) (b:Nat) (o:Ob):(s.delT t).setO b o=(s.setO b o).delT t:=rfl
@[go_sem] theorem ls_setL (s:St) (x:Option (Nat × Nat × A)):(s.setL x).ls=x:=rfl
theorem gs_ok {s:St} {tk:Option Nat} {n:Nat} {e:TypeId} (h:tk=none→n=0):gok (gs s tk n e) tk n e:=by
 cases tk with
 | none=>exact h rfl
 | some t=>simp only[gok,gs,gA4,if_pos]
theorem gs_set {s:St} {tk:Option Nat} {n:Nat} {e:TypeId} {t:Nat} (h:tk=some t∨tk=none∧(gs s tk n e).getT t=none) (v:Nat × TypeId):(gs s tk n e).setT t v=s.setT t v:=by
 rcases h with rfl|⟨rfl,_⟩
 ·simp only[gs,St.setT,ins_ins]
 ·rfl
theorem gs_free {s:St} {tk:Option Nat} {n:Nat} {e:TypeId} {t:Nat} (h:tk=some t∨tk=none∧(gs s tk n e).getT t=none) (hf:∀ t,tk=some t→s.getT t=none):s.getT t=none:=by
 rcases h with rfl|⟨rfl,h⟩
 ·exact hf t rfl
 ·exact h
theorem gs_ge {s s':St} (hs:s.ge s') {tk:Option Nat} {n:Nat} {e:TypeId} (h:∀ t,tk=some t→s.getT t=none):(gs s tk n e).ge s':=by
 cases tk with
 | none=>exact hs
 | some t =>
  refine ⟨fun b o ho=>hs.ob b o ho,fun u m hm=>?_,fun x hx=>hs.ls x hx⟩;have h1:=hs.tk u m hm;have h2:=h t rfl;simp only[gs,gA4];by_cases htu:t=u
  ·subst htu;rw[h2] at h1;cases h1
  ·simp only[htu,if_false];exact h1
theorem gs_getT (s:St) (tk:Option Nat) (n:Nat) (e:TypeId) (t:Nat):(gs s tk n e).getT t=if tk=some t then some (n,e) else s.getT t:=by
 cases tk with
 | none=>rfl
 | some u=>simp only[gs,gA4,Option.some.injEq]
theorem gs_ge_of {s s':St} {tk:Option Nat} {n:Nat} {e:TypeId} (ho:∀ b o,s'.getO b=some o→s.getO b=some o) (hl:∀ x,s'.ls=some x→s.ls=some x)
  (ht:∀ t m,tk≠some t→s'.getT t=some m→s.getT t=some m):(gs s tk n e).ge (gs s' tk n e):=by
 refine ⟨fun b o h=>by rw[gA6] at h ⊢;exact ho b o h,fun t m h=>?_,fun x h=>by cases tk<;>exact hl x h⟩;rw[gs_getT] at h ⊢;by_cases e:tk=some t
 ·rw[if_pos e] at h ⊢;exact h
 ·rw[if_neg e] at h ⊢;exact ht t m e h
theorem gs_swap {s:St} {tk:Option Nat} {n:Nat} {e:TypeId} {t:Nat} {v:Nat × TypeId} (h:tk≠some t):((gs s tk n e).setT t v).ge (gs (s.setT t v) tk n e):=by
 refine ⟨fun b o h=>by rw[gA6] at h;rw[gA3,gA6];exact h,fun u m hm=>?_,fun x hx=>by cases tk<;>exact hx⟩;rw[gs_getT,gA4] at hm;rw[gA4,gs_getT];by_cases htu:t=u
 ·subst htu;rw[if_neg h,if_pos rfl] at hm;rw[if_pos rfl];exact hm
 ·rw[if_neg htu] at hm ⊢;exact hm
theorem pen_ge_none {Y:St} {t n0 n:Nat} {e0 e:TypeId} {v:Nat × TypeId} {x:Option (Nat × Nat × A)}:((((gs Y none n0 e0).setT t v).setT t (n,e)).setL x).ge ((gs Y (some t) n e).setL none):=by
 refine ⟨fun b o h=>h,fun a m h=>?_,fun y h=>by cases h⟩;simp only[gs,St.getT_setL,gA4] at h ⊢;split at h
 ·rename_i e;rw[if_pos e];exact h
 ·rename_i e;rw[if_neg e,if_neg e];exact h
theorem pen_ge_some {Y:St} {u t n0 n:Nat} {e0 e:TypeId} {v:Nat × TypeId} {x:Option (Nat × Nat × A)} (hu:Y.getT u=none):(((((gs Y (some u) n0 e0).delT u).setT t v).setT t (n,e)).setL x).ge ((gs Y (some t) n e).setL none):=by
 refine ⟨fun b o h=>h,fun a m h=>?_,fun y h=>by cases h⟩;simp only[gs,St.getT_setL,gA4,St.getT_delT] at h ⊢;split at h
 ·rename_i e;rw[if_pos e];exact h
 ·rename_i e;rw[if_neg e];by_cases hau:a=u
  ·subst hau;rw[hu] at h;cases h
  ·simp only[e,hau,Ne.symm hau,if_false];exact h
theorem del_free {Y s:St} {u t n:Nat} {e:TypeId} (ht:((gs Y (some u) n e).delT u).getT t=none) (hu:s.getT u=none) (hY:∀ t,Y.getT t=s.getT t):s.getT t=none:=by
 by_cases htu:t=u
 ·subst htu;exact hu
 ·simp only[gs,St.getT_delT,gA4,if_neg htu,if_neg (Ne.symm htu)] at ht;rw[← hY];exact ht
theorem del_freeL {Y s:St} {u t n:Nat} {e:TypeId} {l:Option (Nat × Nat × A)} (ht:(((gs Y (some u) n e).setL l).delT u).getT t=none) (hu:s.getT u=none) (hY:∀ t,Y.getT t=s.getT t):s.getT t=none:=del_free (Y:=Y) ht hu hY
theorem pen_ge_fin {Y Z:St} {u t n0 n n':Nat} {e0 e:TypeId} {v:Nat × TypeId} {x l:Option (Nat × Nat × A)} (hu:Y.getT u=none) (hO:∀ b o,Z.getO b=some o→Y.getO b=some o) (hT:∀ t,Z.getT t=Y.getT t) (hn:n'=n) :
  ((((((gs Y (some u) n0 e0).setL l).delT u).setT t v).setT t (n',e)).setL x).ge ((gs Z (some t) n e).setL none):=by
 subst hn;refine ⟨fun b o h=>hO b o h,fun a m h=>?_,fun w h=>by cases h⟩;simp only[gs,St.getT_setL,gA4,St.getT_delT] at h ⊢;split at h
 ·rename_i e;rw[if_pos e];exact h
 ·rename_i e;rw[hT] at h;by_cases hau:a=u
  ·subst hau;rw[hu] at h;cases h
  ·simp only[e,hau,Ne.symm hau,if_false];exact h
theorem gs_ge_O {Y Z:St} {t n:Nat} {e:TypeId} (hO:∀ b o,Z.getO b=some o→Y.getO b=some o) (hT:∀ t,Z.getT t=Y.getT t):((gs Y (some t) n e).setL none).ge ((gs Z (some t) n e).setL none) :=
 ⟨fun b o h => hO b o h,fun a m h => by
  simp only[gs,St.getT_setL,gA4] at h ⊢;rw[hT] at h;exact h,fun y h=>by cases h⟩
theorem free_setO {s:St} {b c:Nat} {o:Ob} (h:(s.setO c o).getO b=none):b≠c∧s.getO b=none:=by
 rw[gA1] at h;by_cases e:c=b
 ·rw[if_pos e] at h;cases h
 ·rw[if_neg e] at h;exact ⟨fun x=>e x.symm,h⟩
theorem gv_le (tk:Option Nat) (es:List A) (h:tk=none→es=[]):A.le (gv tk es) (.list none es):=by
 cases tk with
 | none=>rw[h rfl];exact A.le.nil
 | some t=>exact A.le.forget _ _
theorem St.ge_setT {s s2:St} {t:Nat} {v:Nat × TypeId} (h:s.ge s2):(s.setT t v).ge (s2.setT t v):=by
 refine ⟨fun b o ho=>h.ob b o ho,fun u m hm=>?_,fun x hx=>h.ls x hx⟩;rw[gA4] at hm ⊢;split
 ·rename_i e;rw[if_pos e] at hm;exact hm
 ·rename_i e;rw[if_neg e] at hm;exact h.tk u m hm
theorem St.ge_setO {s s2:St} {b:Nat} {o:Ob} (h:s.ge s2):(s.setO b o).ge (s2.setO b o):=by
 refine ⟨fun c x ho=>?_,fun u m hm=>h.tk u m hm,fun x hx=>h.ls x hx⟩;rw[gA1] at ho ⊢;split
 ·rename_i e;rw[if_pos e] at ho;exact ho
 ·rename_i e;rw[if_neg e] at ho;exact h.ob c x ho
theorem St.setT_over (s:St) (t:Nat) (v u:Nat × TypeId):((s.setT t v).setT t u).ge (s.setT t u):=by
 refine ⟨fun b o h=>h,fun x m hm=>?_,fun x h=>h⟩;rw[gA4] at hm ⊢;split
 ·rename_i e;rw[if_pos e] at hm;exact hm
 ·rename_i e;rw[if_neg e] at hm;rw[gA4,if_neg e];exact hm
theorem St.ge_freeT {s:St} {t:Nat} {v:Nat × TypeId} (h:s.getT t=none):(s.setT t v).ge s:=by
 refine ⟨fun b o h=>h,fun x m hm=>?_,fun x h=>h⟩;rw[gA4];by_cases e:t=x
 ·subst e;rw[h] at hm;cases hm
 ·rw[if_neg e];exact hm
theorem St.ge_mid {X:St} {r q:Nat} {A' B' C':Ob} (hq:X.getO q=none) (_:q≠r):(((X.setO r A').setO q B').setO r C').ge (X.setO r C'):=by
 refine ⟨fun d x hx=>?_,fun u m hm=>hm,fun x hx=>hx⟩;rw[gA1] at hx ⊢;by_cases h1:r=d
 ·rw[if_pos h1] at hx ⊢;exact hx
 ·rw[if_neg h1] at hx ⊢;rw[gA1];by_cases h2:q=d
  ·subst h2;rw[hq] at hx;cases hx
  ·rw[if_neg h2,gA1,if_neg h1];exact hx
structure St.gx (s1 s:St) (r:Nat):Prop where
 ob:∀ c,c≠r→∀ x,s.getO c=some x→s1.getO c=some x
 tk:∀ t m,s.getT t=some m→s1.getT t=some m
 ls:∀ x,s.ls=some x→s1.ls=some x
theorem gA8 (s:St) (r:Nat):s.gx s r:=⟨fun _ _ _ h=>h,fun _ _ h=>h,fun _ h=>h⟩
theorem St.gx_r {s1 s:St} {r:Nat} {o:Ob} (h:s1.gx s r):(s1.setO r o).gx s r :=
 ⟨fun c hc x hx=>by rw[gA1,if_neg (Ne.symm hc)];exact h.ob c hc x hx,h.tk,h.ls⟩
theorem gA7 {s1 s:St} {r b:Nat} {o:Ob} (hb:s.getO b=none) (h:s1.gx s r):(s1.setO b o).gx s r :=
 ⟨fun c hc x hx => by
  rw[gA1];by_cases hbc:b=c
  ·subst hbc;rw[hb] at hx;cases hx
  ·rw[if_neg hbc];exact h.ob c hc x hx,h.tk,h.ls⟩
theorem St.gx_T {s1 s:St} {r t:Nat} {v:Nat × TypeId} (ht:s.getT t=none) (h:s1.gx s r):(s1.setT t v).gx s r :=
 ⟨h.ob,fun u m hm => by
  rw[gA4];by_cases htu:t=u
  ·subst htu;rw[ht] at hm;cases hm
  ·rw[if_neg htu];exact h.tk u m hm,h.ls⟩
theorem St.gx.dropT {s1 s:St} {r t:Nat} {v:Nat × TypeId} (h:s1.gx (s.setT t v) r) (ht:s.getT t=none):s1.gx s r :=
 ⟨h.ob,fun u m hm => h.tk u m (by
  rw[gA4];by_cases htu:t=u
  ·subst htu;rw[ht] at hm;cases hm
  ·rw[if_neg htu];exact hm),h.ls⟩
theorem St.gx_gs {s1 s:St} {r:Nat} {tk:Option Nat} {n:Nat} {e:TypeId} (h:s1.gx s r) (hf:∀ t,tk=some t→s.getT t=none):(gs s1 tk n e).gx s r:=by
 cases tk with
 | none=>exact h
 | some t=>exact St.gx_T (hf t rfl) h
theorem St.gx_setL {s1 s:St} {r:Nat} {l:Option (Nat × Nat × A)} (h:s1.gx s r) (hl:l=s.ls):(s1.setL l).gx s r :=
 ⟨h.ob,h.tk,fun x hx=>by rw[hl];exact hx⟩
theorem St.gx_setL2 {s1 s:St} {r:Nat} {l m:Option (Nat × Nat × A)} (h:s1.gx s r) (hl:l=s.ls):((s1.setL m).setL l).gx s r:=St.gx_setL (s1:=s1) h hl
theorem St.gx.trans {s2 s1 s:St} {r:Nat} (h:s2.gx s1 r) (h':s1.gx s r):s2.gx s r :=
 ⟨fun c hc x hx=>h.ob c hc x (h'.ob c hc x hx),fun t m hm=>h.tk t m (h'.tk t m hm),fun x hx=>h.ls x (h'.ls x hx)⟩
theorem St.gx.ge {s1 s:St} {r:Nat} {o:Ob} (h:s1.gx s r) (hr:s1.getO r=some o):s1.ge (s.setO r o):=by
 refine ⟨fun c x hx=>?_,h.tk,h.ls⟩;rw[gA1] at hx;by_cases hc:r=c
 ·subst hc;rw[if_pos rfl] at hx;rw[hr];exact hx
 ·rw[if_neg hc] at hx;exact h.ob c (Ne.symm hc) x hx
def lesL:List A→List A→Prop
 | [],[]=>True
 | a::l,b::r=>lesC a.cells b.cells∧lesL l r
 | _,_=>False
theorem lesL_len:∀ {l r:List A},lesL l r→l.length=r.length
 | [],[],_=>rfl
 | _::_,_::_,h=>by simp only[gC1,lesL_len h.2]
theorem lesL_get:∀ {l r:List A},lesL l r→∀ (i:Nat) (b:A),r[i]?=some b→∃ a:A,l[i]?=some a∧lesC a.cells b.cells
 | a::l,b::r,h,0,x,hx=>by
  simp only[List.getElem?_cons_zero,Option.some.injEq] at hx ⊢;subst hx;exact ⟨a,rfl,h.1⟩
 | a::l,b::r,h,i+1,x,hx=>by
  simp only[List.getElem?_cons_succ] at hx ⊢;exact lesL_get h.2 i x hx
 | [],[],_,_,_,hx=>by simp at hx
theorem A.le.list {l r:List A} (h:lesL l r):A.le (.list none l) (.list none r):=fun g v x=>by
 have hlen:=lesL_len h;cases x with
 | list tk es b off sz cap pre hp hl hc hm hs h1 hh ht =>
  rw[hlen]
  have key:∀ e,e∈r→∃ (i:Nat) (a:A),l[i]?=some a∧r[i]?=some e∧lesC a.cells e.cells:=fun e he=>by
   obtain ⟨i,hi,rfl⟩:=List.getElem_of_mem he;obtain ⟨a,h2,h3⟩:=lesL_get h i _ (List.getElem?_eq_getElem hi);exact ⟨i,a,h2,List.getElem?_eq_getElem hi,h3⟩
  refine .list none r b off sz cap pre hp (by rw[← hlen];exact hl) (by rw[← hlen];exact hc) hm (fun e he=>?_) (fun e he c hc=>?_) (fun i e j c v hi hj hv=>?_) (by simp)
  ·obtain ⟨i,a,h2,_,h3⟩:=key e he;rw[← lesC_len h3];exact hs a (List.mem_of_getElem? h2)
  ·obtain ⟨i,a,h2,_,h3⟩:=key e he;obtain ⟨j,hj,rfl⟩:=List.getElem_of_mem hc;exact (lesC_get h3 j _ (List.getElem?_eq_getElem hj)).choose_spec.2.2
  ·obtain ⟨a,h2,h3⟩:=lesL_get h i e hi;obtain ⟨c0,h4,h5,_⟩:=lesC_get h3 j c hj;exact h5 g v (hh i a j c0 v h2 h4 hv)
 | list0 tk a cap hm ht =>
  have:r=[]:=List.eq_nil_of_length_eq_zero (by rw[← hlen];rfl);subst this;exact .list0 none a cap hm (by simp)
theorem Den.keepL {C:Cx} {s:St} {f:FuncId} {args:List A} {KV Kp:St→A→Prop} (h:Den C f args (fun s' a=>KV (s'.setL s.ls) a) (fun s' a=>Kp (s'.setL s.ls) a) s):Den C f args KV Kp s:=by
 intro F g w vals hR hv;have key:∀ (g':Gh) (s':St) (w':World),g.le g'→R C.toCtx F g' s' w'→R C.toCtx F g' (s'.setL s.ls) w':=fun g' s' w' h1 h2=>h2.setL fun y hy=>(hR.lst y hy).mono h1
 have:=h F g w vals hR hv;revert this;generalize (callFunc f vals.toArray).run C.P w=r;intro hr;cases r with
 | ok x w' =>
  cases x<;>simp only[OutV] at hr ⊢
  ·obtain ⟨g',a,s',a1,a2,a3,a4⟩:=hr;exact ⟨g',a,_,a1,key _ _ _ a1 a2,a3,a4⟩
  ·obtain ⟨g',s',a1,a2,a3⟩:=hr;exact ⟨g',_,a1,key _ _ _ a1 a2,a3⟩
  ·refine Calls.mono hr fun en w'' hp=>?_
   cases en with
   | returned v=>obtain ⟨g',a,s',a1,a2,a3,a4⟩:=hp;exact ⟨g',a,_,a1,key _ _ _ a1 a2,a3,a4⟩
   | panicked chain=>obtain ⟨g',a,v,s',a0,a1,a2,a3,a4⟩:=hp;exact ⟨g',a,v,_,a0,a1,key _ _ _ a1 a2,a3,a4⟩
   | outgrown=>exact hp
 | halt x w' =>
  cases x<;>simp only[OutV] at hr ⊢
  obtain ⟨g',a,s',a1,a2,a3,a4⟩:=hr;exact ⟨g',a,_,a1,key _ _ _ a1 a2,a3,a4⟩
@[go_sem] theorem setL_setL (s:St) (x y:Option (Nat × Nat × A)):(s.setL x).setL y=s.setL y:=rfl
theorem to_cxo {f:FuncId} {l:List A} {KV Kp:St→A→Prop} {s:St} (h:Den cx f l KV Kp s):Den cxo f l KV Kp s:=by assumption
end Go.AV
end
section
namespace Go.AV
open Go Go.Proofs
theorem tw_le (p:UInt8→Bool) (w:Str):(w.takeWhile p).length≤w.length:=(List.takeWhile_sublist _).length_le
theorem tw_pos {p:UInt8→Bool} {c:UInt8} {w:Str} (h:p c=true):1≤((c::w).takeWhile p).length:=by simp[List.takeWhile,h]
theorem tokOf_len {c:UInt8} {r:Str} {sg:List Str} {op:Bool} {t:Tok} {n:Nat} (h:tokOf (c::r) sg op=(t,n,true)):1≤n∧n≤(c::r).length:=by
 simp only[tokOf] at h;split at h
 ·rename_i hn;simp only[Prod.mk.injEq,decide_eq_true_eq] at h;obtain ⟨_,rfl,_⟩:=h;refine ⟨tw_pos ?_,tw_le _ _⟩;simp only[isName,gD5,List.all_cons] at hn;exact hn.2.2.1
 ·split at h
  ·rename_i hd;simp only[numTok] at h;split at h
   ·simp at h
   ·simp only[Prod.mk.injEq,decide_eq_true_eq] at h;obtain ⟨_,rfl,_⟩:=h;exact ⟨tw_pos hd,tw_le _ _⟩
  ·split at h
   ·simp only[Prod.mk.injEq,gD5,decide_eq_true_eq] at h;have:=idx_lt r 34;simp only[gC1];omega
   ·have hz:=signTo_le (c::r) sg 0 (Nat.zero_le _);simp only[Prod.mk.injEq,decide_eq_true_eq] at h;obtain ⟨_,rfl,h⟩:=h;refine ⟨h,?_⟩;split
    ·simp
    ·exact hz
theorem blks_le:∀ (f:Nat) (w:Str),blk f w≤w.length
 | 0,w=>Nat.zero_le _
 | f+1,[]=>Nat.zero_le _
 | f+1,b::r=>by
  simp only[blk];split
  ·have:=blks_le f r;simp only[gC1];omega
  ·split
   ·have:=blks_le f ((b::r).drop ((b::r).takeWhile (fun c=>!decide (c=10))).length);rw[gD4] at this;have:=tw_le (fun c=>!decide (c=10)) (b::r);omega
   ·exact Nat.zero_le _
def Lx.out (KV:St→A→Prop):Lx→St→Prop
 | .ok l,s=>KV s (.tuple [.list none (l.map Tok.enc),Fault.none.enc])
 | .bad f,s=>KV s (.tuple [.list none [],f.enc])
theorem cut_den (s:St) (r:Nat) (x:Str) (sg:List Str) (KV Kp)
  (hr:s.getO r=some (.cells 226 (rdCs x 0 1 1 sg true))) (hx:x.length≤4294967290) (hsg:sg.length≤4294967296)
  (hk:∀ o,(lexS sg true x).out KV (s.setO r o)):Den cx 215 [.ptr r 0] KV Kp s:=by
 refine Den.drop ?_;(refine Den.of_body (C:=cx) Tryz.func215 rfl rfl (gC6 rfl) ?_;refine wpC_ok (V:=[0,2,3,4,5,6,18,38]) _ _ _ _ ?_;simp only[go_sem,Tryz.ntmps215,Tryz.f215]);(intro q hq;try simp only[gD6,ne_eq] at hq);have hne:=St.ne_of hr hq;simp only[go_sem,hr,hq,hne,rdCs];refine blanks_den _ r x 0 1 1 sg true _ _ (by rw[gA1,if_neg hne.2];exact hr) (by omega) (Nat.zero_le _) (by omega) (by omega) ?_;have hb0:=blks_le x.length x;change blks x≤x.length at hb0;simp only[go_sem,hr,hq,hne,rdCs]
 refine Ex.loop (ι:=Nat × (Nat × Nat) × List Tok × Option Nat) (fun i=>[(0,.ptr r 0),(2,gv i.2.2.2 (i.2.2.1.map Tok.enc)),(3,.ptr q 0)])
  (fun i=>gs ((s.setO q (.cells 36 [.int .i64 0,.str [],.int .i64 0,.int .i64 0])).setO r (.cells 226 (rdCs x i.1 i.2.1.1 i.2.1.2 sg true))) i.2.2.2 i.2.2.1.length 60)
  (fun i => i.1 ≤ x.length ∧ i.2.1.1 ≤ i.1 + 1 ∧ i.2.1.2 ≤ i.1 + 1 ∧ (i.2.2.2 = none → i.2.2.1 = []) ∧ (∀ t,i.2.2.2 = some t → s.getT t = none) ∧ i.2.2.1.length ≤ i.1 ∧
   ∃ f,x.length-i.1≤f∧lexS sg true x=lexA sg true f (x.drop i.1) i.2.1 i.2.2.1) (fun i=>x.length-i.1)
  (blks x,adv (1,1) (x.take (blks x)),[],none) ?_ ?_ ?_ ?_
 ·have:=adv_le (x.take (blks x)) (1,1) 0 (by omega) (by omega);rw[List.length_take] at this;refine ⟨hb0,by simp only;omega,by simp only;omega,fun _=>rfl,fun t h=>(by cases h),Nat.zero_le _,x.length,by simp only;omega,rfl⟩
 ·simp only[go_sem];rfl
 ·simp only[go_sem];exact St.ge.refl _
 ·rintro ⟨a,⟨l,c⟩,acc,tk⟩ ⟨ha,hl,hc,hn,hf,hla,f,hff,hlex⟩;simp only at ha hl hc hn hf hla hff hlex;refine wpC_ok (V:=[0,2,3,4,5,6,18,38]) _ _ _ _ ?_;simp only[go_sem];(refine draw_ok (V:=[0,2,3,4,5,6,18,38]) (OT.l [0,1,2,3,4,5,6,7,8,9] .nil) [] mixed_cx (by decide +kernel) ?_;simp only[go_sem,hne,rdCs])
  (first|refine gC8 (fun h=>?_) (fun h=>?_)|refine gC9 (fun h=>?_) (fun h=>?_)|refine gD1 (fun h=>?_) (fun h=>?_))<;>simp only[go_sem,h]
  ·have hlt:a<x.length:=by simpa using h
   obtain ⟨b,w,hw⟩:∃ b w,x.drop a=b::w:=⟨_,_,List.drop_eq_getElem_cons hlt⟩
   obtain ⟨f,rfl⟩:∃ f',f=f'+1:=⟨f-1,by omega⟩
   refine token_den _ r x a l c sg true _ _ (by simp only[go_sem];rfl) (by omega) hlt hsg ?_;rw[hw] at hlex ⊢;simp only[lexA] at hlex;rcases htok:tokOf (b::w) sg true with ⟨⟨tkd,ttx,tn,tl,tc⟩,n,ok⟩
   rw[htok] at hlex;simp only[go_sem];(intro q2 hq2;try simp only[gD6,ne_eq] at hq2)
   have hne2:q2≠r∧q2≠q:=by
    have h1:=hq2;rw[gA6,gA1] at h1;have h2:=hq2;rw[gA6,gA1] at h2;constructor<;>rintro rfl
    ·simp at h1
    ·rw[if_neg hne.1,gA1] at h2;simp at h2
   simp only[go_sem,hne,hne2,hq2];(refine draw_ok (V:=[0,2,3,4,5,6,18,38]) (OT.l [0,1,2,3,4,5,6,7,8,9,10,11] .nil) [(9,[7])] mixed_cx (by decide +kernel) ?_;simp only[go_sem,hne,hne2,rdCs])
   (first|refine gC8 (fun h=>?_) (fun h=>?_)|refine gC9 (fun h=>?_) (fun h=>?_)|refine gD1 (fun h=>?_) (fun h=>?_))<;>simp only[go_sem,h,hne,hne2,rdCs]
   ·have hok:ok=false:=by simpa using h
    subst hok;simp only at hlex;(refine draw_ok (V:=[0,2,3,4,5,6,18,38]) (OT.l [0,1,2,3,4,5,6,7,8,9,10,11,12,13,14,15,16,17,18,19,20,21,22,23,24] .nil) [] mixed_cx (by decide +kernel) ?_;simp only[go_sem,hne,hne2,rdCs,Nat.le_of_lt hlt]);have ew:IntKind.i64.wrap ((a:Int)+1)=((a+1:Nat):Int):=wrap1 a (by omega);rw[ew];refine ⟨⟨by omega,by omega⟩,?_⟩;have et:List.take ((((a+1:Nat):Int)).toNat-a) (x.drop a)=[b]:=by rw[hw,Int.toNat_natCast,Nat.add_sub_cancel_left];rfl
    rw[et];rw[hlex] at hk;refine DK.mk (hk _) (gs_ge (St.ge_set ?_ (St.ge_set ?_ (St.ge_setO (St.ge_new hq)))) ?_) (A.le.tuple ⟨A.le.nil,A.le.refl _,trivial⟩)
    ·rw[gA1,if_neg hne.1];exact hq
    ·have h1:=hq2;rw[gA6,gA1,if_neg hne2.1.symm,gA1,if_neg hne2.2.symm] at h1;rw[gA1,if_neg hne2.1.symm];exact h1
    ·exact hf
   ·have hok:ok=true:=by simpa using h
    subst hok;simp only at hlex;obtain ⟨hn1,hn2⟩:=tokOf_len htok;refine ⟨by decide,by simp[A.cells],appL_gv rfl rfl (by rw[gC4];exact gs_ok fun e=>by rw[hn e];rfl) (fun y hy=>by simp only[List.mem_map] at hy;obtain ⟨z,_,rfl⟩:=hy;rfl) (by simp;omega) fun t ht=>?_⟩;have hft':s.getT t=none:=by have:=gs_free ht (fun u hu=>hf u hu);exact this
    rw[gs_set ht];simp only[go_sem,hne,hne2];refine skip_den _ r x a l c n sg true _ _ (by simp only[go_sem,hne,hne2];rfl) (by omega) (by have:=congrArg List.length hw;rw[gD4] at this;omega) (by omega) (by omega) ?_;simp only[go_sem];have hal:=adv_le ((b::w).take n) (l,c) a hl hc;rw[List.length_take,Nat.min_eq_left hn2] at hal;have hwl:x.length-a=(b::w).length:=by rw[← hw,gD4]
    rw[hw];have hblk:=blks_le ((b::w).drop n).length ((b::w).drop n);change blks ((b::w).drop n)≤_ at hblk;rw[gD4] at hblk;have hdd:x.drop (a+n)=(b::w).drop n:=by rw[← List.drop_drop,hw]
    refine blanks_den _ r x (a+n) _ _ sg true _ _ (by simp only[go_sem,hne,hne2];rfl) (by omega) (by omega) (by omega) (by omega) ?_;simp only[go_sem];rw[hdd];refine ⟨(a+n+blks ((b::w).drop n),adv (adv (l,c) ((b::w).take n)) (((b::w).drop n).take (blks ((b::w).drop n))),acc++[⟨tkd,ttx,tn,l,c⟩],some t),⟨?_,?_,?_,?_,?_,?_,f,?_,?_⟩,?_,?_,?_⟩
    ·simp only;omega
    ·have:=adv_le (((b::w).drop n).take (blks ((b::w).drop n))) (adv (l,c) ((b::w).take n)) (a+n) (by omega) (by omega);rw[List.length_take,gD4,Nat.min_eq_left hblk] at this;simp only;omega
    ·have:=adv_le (((b::w).drop n).take (blks ((b::w).drop n))) (adv (l,c) ((b::w).take n)) (a+n) (by omega) (by omega);rw[List.length_take,gD4,Nat.min_eq_left hblk] at this;simp only;omega
    ·intro h;cases h
    ·intro u hu;cases hu;exact hft'
    ·simp only[gC2,gC1,gC3];omega
    ·simp only;omega
    ·simp only[hlex];congr 1;rw[← List.drop_drop,hdd]
    ·simp only;omega
    ·simp only[List.map_append,List.map_cons,List.map_nil,gv_some];exact rfl
    ·simp only[gs,gC2,gC1,gC3];refine St.ge_setT (St.ge_mid ?_ hne2.1);have h1:=hq2;rw[gA6,gA1,if_neg hne2.1.symm] at h1;exact h1
  ·(refine draw_ok (V := [0,2,3,4,5,6,18,38]) (OT.l [0,1,2,3] .nil) [] mixed_cx (by decide +kernel) ?_; simp only [go_sem,hne,rdCs]);have hge : x.length ≤ a := by simpa using h
   have hlx:lexS sg true x=.ok acc:=by
    rw[hlex,List.drop_eq_nil_of_le hge];cases f<;>rfl
   rw[hlx] at hk;refine DK.mk (hk _) (gs_ge (St.ge_set ?_ (St.ge_setO (St.ge_new hq))) ?_) (A.le.tuple ⟨gv_le tk _ (fun e=>by rw[hn e];rfl),A.le.refl _,trivial⟩)
   ·rw[gA1,if_neg hne.1];exact hq
   ·exact hf
end Go.AV
end
section
namespace Go.AV
open Go
structure TokW (N:Nat) (t:Tok):Prop where
 kind:t.kind=1∧(∃ c r,t.text=c::r∧isLet c.toNat=true)∨t.kind=2∧t.text=[]∨t.kind=3∨t.kind=4∧(t.text∈signsW∨t.text=[39]∨t.text=[95])
 num:0≤t.n∧t.n≤2147483647
 col:0≤t.col∧t.col≤N
 line:0≤t.line∧t.line≤N
 txt:t.text.length≤N
theorem adv_le2:∀ (w:Str) (p:Nat × Nat),(adv p w).1≤p.1+w.length∧(adv p w).2≤p.2+w.length∧(1≤p.2→1≤(adv p w).2)
 | [],p=>⟨Nat.le_refl _,Nat.le_refl _,fun h=>h⟩
 | b::r,(l,c)=>by
  simp only[adv];split
  ·have:=adv_le2 r (l+1,1);simp only[gC1] at this ⊢;refine ⟨?_,?_,fun h=>this.2.2 (Nat.le_refl _)⟩<;>omega
  ·have:=adv_le2 r (l,c+1);simp only[gC1] at this ⊢;refine ⟨?_,?_,fun h=>this.2.2 (by omega)⟩<;>omega
theorem signTo_mem (w:Str):∀ (sg:List Str) (n:Nat),signTo w sg n=n∨w.take (signTo w sg n)∈sg
 | [],n=>.inl rfl
 | x::r,n=>by
  simp only[signTo];split
  ·rename_i h;rcases signTo_mem w r x.length with h1|h1
   ·rw[h1];refine .inr (List.mem_cons.2 (.inl ?_));have h2:=h.2;simp only[hasPre,gD5,decide_eq_true_eq] at h2;exact h2.2
   ·exact .inr (List.mem_cons.2 (.inr h1))
  ·rcases signTo_mem w r n with h1|h1
   ·exact .inl h1
   ·exact .inr (List.mem_cons.2 (.inr h1))
theorem tokOf_w {c:UInt8} {r:Str} {t:Tok} {n N:Nat} (h:tokOf (c::r) signsW true=(t,n,true)) (hN:(c::r).length≤N) (l k:Nat) (hl:l≤N) (hk:k≤N):TokW N ⟨t.kind,t.text,t.n,l,k⟩:=by
 have htake:∀ m,((c::r).take m).length≤N:=fun m=>by rw[List.length_take];omega
 have hlen:=tokOf_len h;have hc:(0:Int)≤(k:Int)∧(k:Int)≤N:=⟨by omega,by omega⟩;have hl':(0:Int)≤(l:Int)∧(l:Int)≤N:=⟨by omega,by omega⟩;have h0:(0:Int)≤0∧(0:Int)≤2147483647:=by decide
 simp only[tokOf] at h;split at h
 ·rename_i hn;simp only[Prod.mk.injEq,decide_eq_true_eq] at h;obtain ⟨rfl,h2,_⟩:=h;refine ⟨.inl ⟨rfl,?_⟩,h0,hc,hl',htake _⟩;have hlet:isLet c.toNat=true:=by simp only[isName,gD5] at hn;exact hn.2.1
  obtain ⟨m,hm⟩:∃ m,n=m+1:=⟨n-1,by omega⟩
  rw[hm] at h2;rw[h2];exact ⟨c,r.take m,rfl,hlet⟩
 ·split at h
  ·simp only[numTok] at h;split at h
   ·simp only[Prod.mk.injEq,gD7,and_false] at h
   ·simp only[Prod.mk.injEq,decide_eq_true_eq] at h;obtain ⟨rfl,_,h3⟩:=h;exact ⟨.inr (.inl ⟨rfl,rfl⟩),⟨Int.natCast_nonneg _,by simp only;omega⟩,hc,hl',Nat.zero_le _⟩
  ·split at h
   ·simp only[Prod.mk.injEq] at h;obtain ⟨h1,h2,_⟩:=h;generalize (Lib.indexByte r 34+2).toNat-2=m at h1;subst h1;refine ⟨.inr (.inr (.inl rfl)),h0,hc,hl',?_⟩;show (r.take m).length≤N;rw[List.length_take];rw[gC1] at hN;omega
   ·simp only[Prod.mk.injEq,decide_eq_true_eq] at h;obtain ⟨h1,h2,h3⟩:=h;rw[h2] at h1 h3;subst h1;refine ⟨.inr (.inr (.inr ⟨rfl,?_⟩)),h0,hc,hl',htake n⟩;show (c::r).take n∈signsW∨(c::r).take n=[39]∨(c::r).take n=[95];by_cases h4:signTo (c::r) signsW 0=0∧True∧(c=39∨c=95)
    ·rw[if_pos (by simpa using h4)] at h2;subst h2;rcases h4.2.2 with rfl|rfl
     ·exact .inr (.inl rfl)
     ·exact .inr (.inr rfl)
    ·rw[if_neg (by simpa using h4)] at h2;subst h2;rcases signTo_mem (c::r) signsW 0 with h5|h5
     ·omega
     ·exact .inl h5
theorem lexA_w (N:Nat):∀ (f:Nat) (w:Str) (p:Nat × Nat) (acc:List Tok) (l:List Tok),p.1+w.length≤N→p.2+w.length≤N→acc.length+w.length≤N→(∀ t,t∈acc→TokW N t)→lexA signsW true f w p acc=.ok l →
  l.length≤N∧∀ t,t∈l→TokW N t
 | _,[],p,acc,l,h1,h2,h3,ha,h=>by
  simp only[lexA] at h;cases h;exact ⟨by simpa using h3,ha⟩
 | 0,_::_,p,acc,l,h1,h2,h3,ha,h=>by
  simp only[lexA] at h;cases h;exact ⟨by omega,ha⟩
 | f+1,c::r,p,acc,l,h1,h2,h3,ha,h=>by
  simp only[lexA] at h;rcases htok:tokOf (c::r) signsW true with ⟨t,n,ok⟩
  rw[htok] at h;cases ok with
  | false=>cases h
  | true =>
   simp only at h;obtain ⟨hn1,hn2⟩:=tokOf_len htok;have hb:blks ((c::r).drop n)≤((c::r).drop n).length:=blks_le _ _;have a1:=adv_le2 ((c::r).take n) p;have a2:=adv_le2 (((c::r).drop n).take (blks ((c::r).drop n))) (adv p ((c::r).take n));simp only[List.length_take,gD4,gC1] at a1 a2 hb h1 h2 h3 hn2;refine lexA_w N f _ _ _ l ?_ ?_ ?_ ?_ h
   ·simp only[gD4,gC1];omega
   ·simp only[gD4,gC1];omega
   ·simp only[gC2,gC1,gC3,gD4] at h3 ⊢;omega
   ·intro t' ht';rcases List.mem_append.1 ht' with h5|h5
    ·exact ha t' h5
    ·simp only[List.mem_singleton] at h5;subst h5;exact tokOf_w htok (by simp only[gC1];omega) p.1 p.2 (by omega) (by omega)
theorem lexS_w {x:Str} {l:List Tok} (h:lexS signsW true x=.ok l):l.length≤x.length+1∧∀ t,t∈l→TokW (x.length+1) t:=by
 have hb:blks x≤x.length:=blks_le _ _;have a1:=adv_le2 (x.take (blks x)) (1,1);simp only[List.length_take] at a1;refine lexA_w (x.length+1) _ _ _ _ l ?_ ?_ ?_ (fun t ht=>by cases ht) h
 ·simp only[gD4];omega
 ·simp only[gD4];omega
 ·simp only[gD4,gC3];omega
theorem lexA_bad (sg:List Str) (op:Bool):∀ (f:Nat) (w:Str) (p:Nat × Nat) (acc:List Tok) (g:Fault),lexA sg op f w p acc=.bad g→g.code=10
 | _,[],p,acc,g,h=>by simp only[lexA] at h;cases h
 | 0,_::_,p,acc,g,h=>by simp only[lexA] at h;cases h
 | f+1,c::r,p,acc,g,h=>by
  simp only[lexA] at h;rcases htok:tokOf (c::r) sg op with ⟨t,n,ok⟩
  rw[htok] at h;cases ok with
  | false=>cases h;rfl
  | true=>exact lexA_bad sg op f _ _ _ g h
theorem lexS_bad {x:Str} {g:Fault} (h:lexS signsW true x=.bad g):g.code=10:=lexA_bad _ _ _ _ _ _ _ h
end Go.AV
end
section
namespace Go.AV
open Go
theorem idx_hd (c:UInt8) (w:Str):Lib.indexByte (c::w) c=0:=by
 unfold Lib.indexByte;rw[if_pos (by simp)]
theorem idx_tl {d c:UInt8} (w:Str) (h:¬ d=c):Lib.indexByte (d::w) c=if Lib.indexByte w c=-1 then -1 else Lib.indexByte w c+1:=by
 conv=>lhs;unfold Lib.indexByte
 rw[if_neg (by simpa using h)];simp only[beq_iff_eq]
theorem text_yes:∀ (r:Str),r[(r.takeWhile okB).length]?=some 34→Lib.indexByte r 34=((r.takeWhile okB).length:Int)
 | [],h=>by simp at h
 | d::w,h=>by
  by_cases hd:okB d=true
  ·rw[List.takeWhile_cons_of_pos hd,gC1,List.getElem?_cons_succ] at h;have ih:=text_yes w h;have hne:¬ d=34:=by rintro rfl;revert hd;decide
   rw[List.takeWhile_cons_of_pos hd,gC1];rw[idx_tl w hne];have:0≤Lib.indexByte w 34:=by rw[ih];omega
   split
   ·omega
   ·rw[ih];omega
  ·rw[List.takeWhile_cons_of_neg hd,gC3,List.getElem?_cons_zero] at h;cases h;rw[List.takeWhile_cons_of_neg hd];rw[idx_hd];rfl
theorem text_no:∀ (r:Str),¬ r[(r.takeWhile okB).length]?=some 34→Lib.indexByte r 34<0∨(r.take (Lib.indexByte r 34).toNat).all okB=false
 | [],_=>.inl (by decide)
 | d::w,h=>by
  have hge:=Lib.indexByte_ge w 34;by_cases hd:okB d=true
  ·rw[List.takeWhile_cons_of_pos hd,gC1,List.getElem?_cons_succ] at h;have hne:¬ d=34:=by rintro rfl;revert hd;decide
   rcases text_no w h with ih|ih
   ·left;rw[idx_tl w hne];split<;>omega
   ·rw[idx_tl w hne];split
    ·left;omega
    ·right;rename_i h0;rw[show (Lib.indexByte w 34+1).toNat=(Lib.indexByte w 34).toNat+1 by omega,List.take_succ_cons,List.all_cons,ih,Bool.and_false]
  ·rw[List.takeWhile_cons_of_neg hd,gC3,List.getElem?_cons_zero] at h;have hne:¬ d=34:=by rintro rfl;exact h rfl
   rw[idx_tl w hne];split
   ·left;omega
   ·right;rename_i h0;rw[show (Lib.indexByte w 34+1).toNat=(Lib.indexByte w 34).toNat+1 by omega,List.take_succ_cons,List.all_cons,show okB d=false by simpa using hd,Bool.false_and]
theorem all_take_tw (p:UInt8→Bool):∀ (r:Str),(r.take (r.takeWhile p).length).all p=true
 | []=>rfl
 | d::w=>by
  by_cases hd:p d=true
  ·rw[List.takeWhile_cons_of_pos hd,gC1,List.take_succ_cons,List.all_cons,hd,all_take_tw p w];rfl
  ·rw[List.takeWhile_cons_of_neg hd];rfl
theorem text_tok (r:Str) (sg:List Str) (op:Bool) (h:r[(r.takeWhile okB).length]?=some 34∧(r.takeWhile okB).length≤200) :
  tokOf (34::r) sg op=(⟨3,r.take (r.takeWhile okB).length,0,0,0⟩,(r.takeWhile okB).length+2,true):=by
 have e:=text_yes r h.1;simp only[tokOf];rw[if_neg (by decide),if_neg (by decide),if_pos trivial,e];rw[show (((r.takeWhile okB).length:Int)+2).toNat=(r.takeWhile okB).length+2 by omega,Nat.add_sub_cancel]
 have:isStr (r.take (r.takeWhile okB).length)=true:=by
  unfold isStr;rw[all_take_tw,Bool.true_and,List.length_take];exact decide_eq_true (by omega)
 rw[this,show decide (1<(r.takeWhile okB).length+2)=true from decide_eq_true (by omega)];rfl
theorem text_bad (r:Str) (sg:List Str) (op:Bool) (h:¬ (r[(r.takeWhile okB).length]?=some 34∧(r.takeWhile okB).length≤200)):(tokOf (34::r) sg op).2.2=false:=by
 have hge:=Lib.indexByte_ge r 34;simp only[tokOf];rw[if_neg (by decide),if_neg (by decide),if_pos trivial];simp only;by_cases h1:r[(r.takeWhile okB).length]?=some 34
 ·have e:=text_yes r h1
  have h2:200<(r.takeWhile okB).length:=by
   by_cases h3:(r.takeWhile okB).length≤200
   ·exact absurd ⟨h1,h3⟩ h
   ·omega
  rw[e,show (((r.takeWhile okB).length:Int)+2).toNat=(r.takeWhile okB).length+2 by omega,Nat.add_sub_cancel];have hl:=tw_le okB r
  have:isStr (r.take (r.takeWhile okB).length)=false:=by
   unfold isStr;rw[List.length_take,Nat.min_eq_left hl,show decide ((r.takeWhile okB).length≤200)=false from decide_eq_false (by omega),Bool.and_false]
  rw[this,Bool.and_false]
 ·rcases text_no r h1 with h2|h2
  ·rw[show (Lib.indexByte r 34+2).toNat=1 by omega];rfl
  ·have:isStr (r.take ((Lib.indexByte r 34+2).toNat-2))=false:=by
    unfold isStr;rw[show (Lib.indexByte r 34+2).toNat-2=(Lib.indexByte r 34).toNat by omega,h2,Bool.false_and]
   rw[this,Bool.and_false]
def capS (n:Nat) (d:UInt8):Nat:=min (10 * n+(d.toNat-48)) 2147483648
theorem cap_foldl:∀ (x:Str) (a:Nat),x.foldl capS (min a 2147483648)=min (x.foldl (fun n d=>n * 10+(d.toNat-48)) a) 2147483648
 | [],a=>rfl
 | d::x,a=>by
  simp only[List.foldl_cons];rw[← cap_foldl x];congr 1;unfold capS;omega
theorem cap_num (x:Str):x.foldl capS 0=min (numOf x) 2147483648:=cap_foldl x 0
theorem foldl_ge:∀ (x:Str) (a:Nat),a * 10 ^ x.length≤x.foldl (fun n d=>n * 10+(d.toNat-48)) a
 | [],a=>by simp
 | d::x,a=>by
  simp only[List.foldl_cons,gC1];refine Nat.le_trans ?_ (foldl_ge x _);rw[Nat.pow_succ,Nat.mul_comm (10 ^ x.length) 10,← Nat.mul_assoc];exact Nat.mul_le_mul_right _ (by omega)
theorem num_drop:∀ (x:Str),numOf (x.dropWhile (eqB 48))=numOf x
 | []=>rfl
 | d::x=>by
  by_cases h:eqB 48 d=true
  ·rw[List.dropWhile_cons_of_pos h,num_drop x];have:d=48:=by simpa [eqB] using h
   subst this;rfl
  ·rw[List.dropWhile_cons_of_neg h]
theorem num_big (x:Str) (hd:digits x) (hl:10<(x.dropWhile (eqB 48)).length):2147483647<numOf x:=by
 rw[← num_drop];have hsub:∀ c,c∈x.dropWhile (eqB 48)→c∈x:=fun c hc=>(List.dropWhile_sublist _).subset hc
 have hh:∀ c r,x.dropWhile (eqB 48)=c::r→eqB 48 c=false:=by
  intro c r h;have:=List.head?_dropWhile_not (eqB 48) x;rw[h] at this;simpa using this
 generalize x.dropWhile (eqB 48)=g at hl hsub hh;cases g with
 | nil=>simp at hl
 | cons c r =>
  have h1:=hh c r rfl;have h2:=hd c (hsub c (by simp))
  have h3:¬ c.toNat=48:=fun e=>by
   have:c=48:=UInt8.toNat_inj.1 e;subst this;cases h1
  simp only[numOf,List.foldl_cons,Nat.zero_mul,Nat.zero_add];refine Nat.lt_of_lt_of_le ?_ (foldl_ge r _);have h4:10≤r.length:=by simp only[gC1] at hl;omega
  have h5:10 ^ 10≤10 ^ r.length:=Nat.pow_le_pow_right (by omega) h4;have h6:1 * 10 ^ r.length≤(c.toNat-48) * 10 ^ r.length:=Nat.mul_le_mul_right _ (by omega);have h7:(10:Nat) ^ 10=10000000000:=by decide
  omega
theorem num_tok (x:Str) (h:¬ (2147483647<numOf (x.take (x.takeWhile fun c=>isDig c.toNat).length)∨∃ c,x[(x.takeWhile fun c=>isDig c.toNat).length]?=some c∧isPart c.toNat=true)) (hd:digits (x.take (x.takeWhile fun c=>isDig c.toNat).length)) :
  numTok x=(⟨2,[],numOf (x.take (x.takeWhile fun c=>isDig c.toNat).length),0,0⟩,(x.takeWhile fun c=>isDig c.toNat).length,true):=by
 unfold numTok;simp only;rw[if_neg (fun h1=>h (h1.elim (fun h2=>.inl (num_big _ hd h2)) .inr)),num_drop];rw[show decide (numOf (x.take (x.takeWhile fun c=>isDig c.toNat).length)≤2147483647)=true from decide_eq_true (by omega)]
theorem num_bad (x:Str) (h:2147483647<numOf (x.take (x.takeWhile fun c=>isDig c.toNat).length)∨∃ c,x[(x.takeWhile fun c=>isDig c.toNat).length]?=some c∧isPart c.toNat=true):(numTok x).2.2=false:=by
 unfold numTok;simp only;split
 ·rfl
 ·rename_i h1;rcases h with h|h
  ·rw[num_drop];exact decide_eq_false (by omega)
  ·exact absurd (.inr h) h1
theorem digits_tw (x:Str):digits (x.take (x.takeWhile fun c=>isDig c.toNat).length):=by
 intro d hd;have:=List.all_eq_true.1 (all_take_tw (fun c=>isDig c.toNat) x) d hd;simp only[isDig,gD5,decide_eq_true_eq] at this;omega
end Go.AV
end
section
namespace Go.AV
open Go
structure TokG (t:Tok):Prop where
 is:(t.kind=1∧t.n=0∧∃ c r,t.text=c::r∧isName [c]=true∧(c::r).all (fun c=>isPart c.toNat)=true∧(c::r).length≤40) ∨
  (t.kind=2∧t.text=[]∧0≤t.n∧t.n≤2147483647)∨(t.kind=3∧t.n=0∧isStr t.text=true)∨(t.kind=4∧t.n=0∧(t.text∈signsW∨t.text=[39]∨t.text=[95]))
def Tok.word (t:Tok):Str:=if t.kind=2 then Lib.itoa t.n else if t.kind=3 then 34::(t.text++[34]) else t.text
theorem tw_stop {p:UInt8→Bool} {x z:Str} {b:UInt8} (hx:∀ c,c∈x→p c=true) (hb:p b=false):(x++b::z).takeWhile p=x:=by
 rw[List.takeWhile_append_of_pos hx,List.takeWhile_cons_of_neg (by simp[hb]),List.append_nil]
theorem tok_name {c:UInt8} {r z:Str} {b:UInt8} (hc:isName [c]=true) (ha:(c::r).all (fun c=>isPart c.toNat)=true) (hl:(c::r).length≤40) (hb:isPart b.toNat=false) :
  tokOf (c::r++b::z) signsW true=(⟨1,c::r,0,0,0⟩,(c::r).length,true):=by
 have htw:(c::(r++b::z)).takeWhile (fun c=>isPart c.toNat)=c::r:=tw_stop (x:=c::r) (fun x hx=>List.all_eq_true.1 ha x hx) hb;show tokOf (c::(r++b::z)) signsW true=_;simp only[tokOf];rw[if_pos hc,htw,show (c::(r++b::z)).take (c::r).length=c::r from List.take_left' (l₁:=c::r) rfl,show decide ((c::r).length≤40)=true from decide_eq_true hl]
theorem tok_text {x z:Str} (hx:isStr x=true):tokOf (34::(x++[34])++z) signsW true=(⟨3,x,0,0,0⟩,(34::(x++[34])).length,true):=by
 simp only[isStr,gD5,decide_eq_true_eq] at hx;have htw:(x++34::z).takeWhile okB=x:=tw_stop (fun c hc=>List.all_eq_true.1 hx.1 c hc) (by decide)
 have h:=text_tok (x++34::z) signsW true (by
  rw[htw];exact ⟨by rw[List.getElem?_append_right (Nat.le_refl _),Nat.sub_self];rfl,hx.2⟩)
 rw[htw,List.take_left' rfl] at h;have e:34::(x++[34])++z=34::(x++34::z):=by simp
 rw[e,h];simp
theorem dec_ne:∀ (m u:Nat),u<m→∃ c r,Lib.decDigits u=c::r∧48≤c.toNat∧c.toNat≤57
 | 0,u,h=>by omega
 | m+1,u,h=>by
  rw[Lib.decDigits];by_cases h0:u<10
  ·rw[dif_pos h0];have:(UInt8.ofNat (48+u)).toNat=48+u:=by rw[UInt8.toNat_ofNat'];omega
   exact ⟨_,[],rfl,by omega,by omega⟩
  ·rw[dif_neg h0];obtain ⟨c,r,e,h1,h2⟩:=dec_ne m (u / 10) (by omega);rw[e];exact ⟨c,r++[UInt8.ofNat (48+u % 10)],rfl,h1,h2⟩
theorem dec_num:∀ (m u:Nat),u<m→numOf (Lib.decDigits u)=u∧digits (Lib.decDigits u)
 | 0,u,h=>by omega
 | m+1,u,h=>by
  rw[Lib.decDigits];by_cases h0:u<10
  ·rw[dif_pos h0];have e:(UInt8.ofNat (48+u)).toNat=48+u:=by rw[UInt8.toNat_ofNat'];omega
   refine ⟨by simp only[numOf,List.foldl_cons,List.foldl_nil];omega,fun d hd=>?_⟩;simp only[List.mem_singleton] at hd;subst hd;omega
  ·rw[dif_neg h0];obtain ⟨h1,h2⟩:=dec_num m (u / 10) (by omega);have e:(UInt8.ofNat (48+u % 10)).toNat=48+u % 10:=by rw[UInt8.toNat_ofNat'];omega
   refine ⟨by rw[numOf_app,h1];omega,fun d hd=>?_⟩;rcases List.mem_append.1 hd with hd|hd
   ·exact h2 d hd
   ·simp only[List.mem_singleton] at hd;subst hd;omega
theorem dig_not {c:UInt8} (h1:48≤c.toNat) (h2:c.toNat≤57):isName [c]=false∧isDig c.toNat=true∧isBlank c=false∧c≠47∧c≠62:=by
 have k:∀ n:Nat,48≤n→n≤57→isName [UInt8.ofNat n]=false∧isDig (UInt8.ofNat n).toNat=true∧isBlank (UInt8.ofNat n)=false∧UInt8.ofNat n≠47∧UInt8.ofNat n≠62:=by
  intro n g1 g2;have:n=48∨n=49∨n=50∨n=51∨n=52∨n=53∨n=54∨n=55∨n=56∨n=57:=by omega
  rcases this with rfl|rfl|rfl|rfl|rfl|rfl|rfl|rfl|rfl|rfl<;>decide
 have:=k c.toNat h1 h2
 rwa[UInt8.ofNat_toNat] at this
theorem tok_num {n:Int} {z:Str} {b:UInt8} (h0:0≤n) (h1:n≤2147483647) (hb:isPart b.toNat=false):tokOf (Lib.itoa n++b::z) signsW true=(⟨2,[],n,0,0⟩,(Lib.itoa n).length,true):=by
 have e:Lib.itoa n=Lib.decDigits n.toNat:=by unfold Lib.itoa;rw[if_neg (by omega)]
 rw[e];obtain ⟨c,r,hcr,hc1,hc2⟩:=dec_ne _ n.toNat (Nat.lt_succ_self _);obtain ⟨hnum,hdig⟩:=dec_num _ n.toNat (Nat.lt_succ_self _);obtain ⟨g1,g2,_⟩:=dig_not hc1 hc2
 have hbd:isDig b.toNat=false:=by
  simp only[isPart,Bool.or_eq_false_iff] at hb;exact hb.2.1
 have htw:(Lib.decDigits n.toNat++b::z).takeWhile (fun c=>isDig c.toNat)=Lib.decDigits n.toNat:=tw_stop (fun d hd=>by
  have:=hdig d hd;simp only[isDig,gD5,decide_eq_true_eq];omega) hbd
 have hnt:=num_tok (Lib.decDigits n.toNat++b::z) (by
  rw[htw,List.take_left' rfl,hnum];rintro (h|⟨d,hd,hp⟩)
  ·omega
  ·rw[List.getElem?_append_right (Nat.le_refl _),Nat.sub_self] at hd;cases hd;rw[hb] at hp;cases hp) (by rw[htw,List.take_left' rfl];exact hdig)
 rw[htw,List.take_left' rfl,hnum] at hnt;rw[show ((n.toNat:Nat):Int)=n by omega] at hnt;rw[hcr] at hnt ⊢;show tokOf (c::(r++b::z)) signsW true=_;simp only[tokOf];rw[if_neg (by simp[g1]),if_pos g2];exact hnt
theorem tok_sign {x z:Str} {b:UInt8} (hx:x∈signsW∨x=[39]∨x=[95]) (hb:b≠62):tokOf (x++b::z) signsW true=(⟨4,x,0,0,0⟩,x.length,true):=by
 have hb':¬ b=62:=hb;have h2:∀ n:Nat,decide (2≤n+1+1)=true:=fun n=>decide_eq_true (by omega)
 have h1:∀ n:Nat,decide (1≤n+1)=true:=fun n=>decide_eq_true (by omega)
 simp only[signsW,gC5,List.mem_nil_iff,or_false] at hx;rcases hx with (rfl|rfl|rfl|rfl|rfl|rfl|rfl|rfl|rfl|rfl|rfl|rfl|rfl|rfl|rfl|rfl|rfl|rfl)|rfl|rfl
 all_goals simp[tokOf,isName,isLet,isDig,signTo,signsW,hasPre,hb',h1,h2]
theorem sign_ok:∀ x,x∈signsW∨x=[39]∨x=[95]→∃ c r,x=c::r∧isBlank c=false∧c≠47:=by
 intro x hx;simp only[signsW,gC5,List.mem_nil_iff,or_false] at hx;rcases hx with (rfl|rfl|rfl|rfl|rfl|rfl|rfl|rfl|rfl|rfl|rfl|rfl|rfl|rfl|rfl|rfl|rfl|rfl)|rfl|rfl
 all_goals exact ⟨_,_,rfl,by decide,by decide⟩
theorem name_not {c:UInt8} (h:isName [c]=true):isBlank c=false∧c≠47:=by
 simp only[isName,isLet,gD5,Bool.or_eq_true,decide_eq_true_eq] at h;have h3:=h.2.1;refine ⟨?_,fun e=>?_⟩
 ·simp only[isBlank,Bool.or_eq_false_iff,decide_eq_false_iff_not];refine ⟨fun e=>?_,fun e=>?_,fun e=>?_,fun e=>?_⟩<;>(subst e;revert h3;decide)
 ·subst e;revert h3;decide
theorem word_hd {t:Tok} (h:TokG t):∃ c r,t.word=c::r∧isBlank c=false∧c≠47:=by
 rcases h.is with ⟨hk,_,c,r,ht,hn,_⟩|⟨hk,_,h0,_⟩|⟨hk,_,_⟩|⟨hk,_,hs⟩
 ·refine ⟨c,r,?_,name_not hn⟩;unfold Tok.word;rw[hk,if_neg (by decide),if_neg (by decide),ht]
 ·obtain ⟨c,r,hcr,hc1,hc2⟩:=dec_ne _ t.n.toNat (Nat.lt_succ_self _);obtain ⟨_,_,g3,g4,_⟩:=dig_not hc1 hc2;refine ⟨c,r,?_,g3,g4⟩;unfold Tok.word Lib.itoa;rw[hk,if_pos rfl,if_neg (by omega),hcr]
 ·refine ⟨34,t.text++[34],?_,by decide,by decide⟩;unfold Tok.word;rw[hk,if_neg (by decide),if_pos rfl]
 ·obtain ⟨c,r,e,g⟩:=sign_ok _ hs;refine ⟨c,r,?_,g⟩;unfold Tok.word;rw[hk,if_neg (by decide),if_neg (by decide),e]
def glue (t:Tok):List Tok→Bool
 | []=>false
 | u::_=>decide (t.kind=4)&&(decide (t.text=[45])&&decide (u.kind=2))
def respell (m:Str):List Tok→Str
 | []=>[]
 | t::w=>t.word++((if glue t w=true then [] else 32::m)++respell m w)
theorem tok_word {t:Tok} (h:TokG t) {z:Str} {b:UInt8} (hb:b=32∨(t.kind=4∧48≤b.toNat∧b.toNat≤57)):tokOf (t.word++b::z) signsW true=(⟨t.kind,t.text,t.n,0,0⟩,t.word.length,true):=by
 have hp:t.kind≠4→isPart b.toNat=false:=fun hk=>by
  rcases hb with rfl|⟨h,_⟩
  ·decide
  ·exact absurd h hk
 have h62:b≠62:=by
  rcases hb with rfl|⟨_,h1,h2⟩
  ·decide
  ·exact (dig_not h1 h2).2.2.2.2
 rcases h.is with ⟨hk,hn,c,r,ht,hc,ha,hl⟩|⟨hk,ht,h0,h1⟩|⟨hk,hn,hs⟩|⟨hk,hn,hs⟩
 ·have e:t.word=c::r:=by unfold Tok.word;rw[hk,if_neg (by decide),if_neg (by decide),ht]
  rw[e,tok_name hc ha hl (hp (by rw[hk];decide)),hk,hn,ht]
 ·have e:t.word=Lib.itoa t.n:=by unfold Tok.word;rw[hk,if_pos rfl]
  rw[e,tok_num h0 h1 (hp (by rw[hk];decide)),hk,ht]
 ·have e:t.word=34::(t.text++[34]):=by unfold Tok.word;rw[hk,if_neg (by decide),if_pos rfl]
  rw[e,tok_text hs,hk,hn]
 ·have e:t.word=t.text:=by unfold Tok.word;rw[hk,if_neg (by decide),if_neg (by decide)]
  rw[e,tok_sign hs h62,hk,hn]
def NoBlk (x:Str):Prop:=x=[]∨∃ c r,x=c::r∧isBlank c=false∧c≠47
theorem blk_no {x:Str} (h:NoBlk x) (f:Nat):blk f x=0:=by
 rcases h with rfl|⟨c,r,rfl,h1,h2⟩
 ·cases f<;>rfl
 ·cases f with
  | zero=>rfl
  | succ f =>
   have e:hasPre (c::r) [47,47]=false:=by
    simp only[hasPre,Bool.and_eq_false_iff,decide_eq_false_iff_not];refine .inr fun e=>?_
    cases r with
    | nil=>cases e
    | cons d r=>simp only[gC1,gC3,Nat.zero_add,Nat.reduceAdd,List.take_succ_cons,List.take_zero,List.cons.injEq] at e;exact h2 e.1
   simp only[blk,h1,e,gD7,if_false]
theorem respell_no (m:Str) {T:List Tok} (h:∀ t,t∈T→TokG t):NoBlk (respell m T):=by
 cases T with
 | nil=>exact .inl rfl
 | cons t w =>
  obtain ⟨c,r,e,h1,h2⟩:=word_hd (h t (List.mem_cons_self ..));exact .inr ⟨c,_,by rw[respell,e];rfl,h1,h2⟩
def mores:List Str:=[[32],[10],[9],[32,47,47,32,120,10],[13,10]]
theorem blks_more {m x:Str} (hm:m∈mores) (hx:NoBlk x):blks (m++x)=m.length:=by
 have h0:=blk_no hx;simp only[mores,gC5,List.mem_nil_iff,or_false] at hm;rcases hm with rfl|rfl|rfl|rfl|rfl
 all_goals simp[blks,blk,isBlank,hasPre,List.takeWhile,h0]
theorem blks_sp {m x:Str} (hm:m∈mores) (hx:NoBlk x):blks (32::(m++x))=m.length+1:=by
 have h:=blks_more hm hx;unfold blks at h ⊢;show blk ((m++x).length+1) (32::(m++x))=m.length+1;simp only[blk];rw[if_pos (by decide),h,Nat.add_comm]
theorem lex_respell {m:Str} (hm:m∈mores):∀ (T:List Tok) (f:Nat) (p:Nat × Nat) (acc:List Tok),(∀ t,t∈T→TokG t)→(respell m T).length≤f →
  ∃ T',lexA signsW true f (respell m T) p acc=.ok (acc++T')∧Mv T T'∧∀ v z,T'=v::z→v.line=p.1∧v.col=p.2
 | [],f,p,acc,_,_=>⟨[],by simp only[respell];cases f<;>simp only[lexA,List.append_nil],.nil,fun v z h=>by cases h⟩
 | t::w,f,p,acc,hg,hf=>by
  have ht:=hg t (List.mem_cons_self ..);have hw:=fun u hu=>hg u (List.mem_cons_of_mem _ hu)
  obtain ⟨c,r,e,hc1,hc2⟩:=word_hd ht
  obtain ⟨b,z,hbz,hb⟩:∃ b z,(if glue t w=true then [] else 32::m)++respell m w=b::z∧(b=32∨(t.kind=4∧48≤b.toNat∧b.toNat≤57)):=by
   by_cases hgl:glue t w=true
   ·rw[if_pos hgl];cases w with
    | nil=>cases hgl
    | cons u w =>
     simp only[glue,gD5,decide_eq_true_eq] at hgl;have hu:=hw u (List.mem_cons_self ..);obtain ⟨d,s,hd,hd1,hd2⟩:=dec_ne _ u.n.toNat (Nat.lt_succ_self _)
     have hn:0≤u.n:=by
      rcases hu.is with ⟨hk,_⟩|⟨_,_,h0,_⟩|⟨hk,_⟩|⟨hk,_⟩
      ·rw[hgl.2.2] at hk;cases hk
      ·exact h0
      ·rw[hgl.2.2] at hk;cases hk
      ·rw[hgl.2.2] at hk;cases hk
     have ew:u.word=d::s:=by unfold Tok.word Lib.itoa;rw[if_pos hgl.2.2,if_neg (by omega),hd]
     exact ⟨d,_,by rw[gD3,respell,ew];rfl,.inr ⟨hgl.1,hd1,hd2⟩⟩
   ·rw[if_neg hgl];exact ⟨32,_,rfl,.inl rfl⟩
  have htok:=tok_word ht hb (z:=z);have hre:respell m (t::w)=t.word++b::z:=by rw[respell,hbz]
  rw[hre] at hf ⊢;have hlen:1≤t.word.length:=by rw[e];simp
  have hblk:blks (b::z)=(if glue t w=true then [] else 32::m).length:=by
   rw[← hbz];by_cases hgl:glue t w=true
   ·rw[if_pos hgl,gD3];exact blk_no (respell_no m hw) _
   ·rw[if_neg hgl,gD2,blks_sp hm (respell_no m hw),gC1]
  have hdrop:(b::z).drop (blks (b::z))=respell m w:=by rw[hblk,← hbz,List.drop_left' rfl]
  have htake:(b::z).take (blks (b::z))=if glue t w=true then [] else 32::m:=by rw[hblk,← hbz,List.take_left' rfl]
  have hwl:(respell m w).length+t.word.length≤f:=by
   have:(b::z).length=(if glue t w=true then [] else 32::m).length+(respell m w).length:=by rw[← hbz,gC2]
   rw[gC2] at hf;omega
  obtain ⟨g,rfl⟩:∃ g,f=g+1:=⟨f-1,by omega⟩
  obtain ⟨T',h1,h2,h3⟩:=lex_respell hm w g (adv (adv p t.word) (if glue t w=true then [] else 32::m)) (acc++[⟨t.kind,t.text,t.n,p.1,p.2⟩]) hw (by omega);refine ⟨t.to p.1 p.2::T',?_,.cons (fun v z' hv k1 k2 k3 kt kv=>?_) h2,fun v z' hv=>by cases hv;exact ⟨rfl,rfl⟩⟩
  ·rw[e,gD2] at htok ⊢;simp only[lexA];rw[htok];simp only;have d1:(c::(r++b::z)).drop t.word.length=b::z:=by rw[← gD2,← e,List.drop_left' rfl]
   have d2:(c::(r++b::z)).take t.word.length=t.word:=by rw[← gD2,← e,List.take_left' rfl]
   rw[← e,d1,d2,hdrop,htake,h1,List.append_assoc];rfl
  ·obtain ⟨g1,g2⟩:=h3 v z' hv;subst hv;cases h2 with
   | @cons t0 l0 c0 w0 w0' ha hmv =>
    have h4:t.kind=4:=by
     rcases ht.is with ⟨hk,_⟩|⟨hk,_⟩|⟨hk,_⟩|⟨hk,_⟩
     ·exact absurd hk k1
     ·exact absurd hk k2
     ·exact absurd hk k3
     ·exact hk
    have hgl:∀ u w,u.kind=2→glue t (u::w)=true:=fun u w hu=>by simp only[glue,h4,show t.text=[45] from kt,hu,decide_true,Bool.and_self]
    have ew:t.word=[45]:=by unfold Tok.word;rw[h4,if_neg (by decide),if_neg (by decide)];exact kt
    rw[if_pos (hgl t0 w0 kv),ew] at g1 g2;exact ⟨g1,by rw[g2];rfl⟩
theorem lexS_respell {m:Str} (hm:m∈mores) {T:List Tok} (hg:∀ t,t∈T→TokG t):∃ T',lexS signsW true (m++respell m T)=.ok T'∧Mv T T':=by
 unfold lexS;rw[blks_more hm (respell_no m hg),List.drop_left' rfl,List.take_left' rfl];obtain ⟨T',h1,h2,_⟩:=lex_respell hm T (m++respell m T).length (adv (1,1) m) [] hg (by rw[gC2];omega);exact ⟨T',by rw[h1,gD3],h2⟩
theorem tokOf_g {c:UInt8} {r:Str} {t:Tok} {n:Nat} (h:tokOf (c::r) signsW true=(t,n,true)) (l k:Int):TokG ⟨t.kind,t.text,t.n,l,k⟩:=by
 have hlen:=tokOf_len h;simp only[tokOf] at h;split at h
 ·rename_i hn;simp only[Prod.mk.injEq,decide_eq_true_eq] at h;obtain ⟨rfl,h2,h3⟩:=h;refine ⟨.inl ⟨rfl,rfl,?_⟩⟩;obtain ⟨m,hm⟩:∃ m,n=m+1:=⟨n-1,by omega⟩
  refine ⟨c,r.take m,?_,hn,?_,?_⟩
  ·show (c::r).take _=_;rw[h2,hm];rfl
  ·have:=all_take_tw (fun c=>isPart c.toNat) (c::r);rw[h2,hm] at this;exact this
  ·rw[gC1,List.length_take];omega
 ·split at h
  ·simp only[numTok] at h;split at h
   ·simp only[Prod.mk.injEq,gD7,and_false] at h
   ·simp only[Prod.mk.injEq,decide_eq_true_eq] at h;obtain ⟨rfl,_,h3⟩:=h;exact ⟨.inr (.inl ⟨rfl,rfl,Int.natCast_nonneg _,by simp only;omega⟩)⟩
  ·split at h
   ·simp only[Prod.mk.injEq,gD5] at h;obtain ⟨h1,h2,_,h3⟩:=h;subst h1;exact ⟨.inr (.inr (.inl ⟨rfl,rfl,h3⟩))⟩
   ·simp only[Prod.mk.injEq,decide_eq_true_eq] at h;obtain ⟨h1,h2,h3⟩:=h;rw[h2] at h1 h3;subst h1;refine ⟨.inr (.inr (.inr ⟨rfl,rfl,?_⟩))⟩;show (c::r).take n∈signsW∨(c::r).take n=[39]∨(c::r).take n=[95];by_cases h4:signTo (c::r) signsW 0=0∧True∧(c=39∨c=95)
    ·rw[if_pos (by simpa using h4)] at h2;subst h2;rcases h4.2.2 with rfl|rfl
     ·exact .inr (.inl rfl)
     ·exact .inr (.inr rfl)
    ·rw[if_neg (by simpa using h4)] at h2;subst h2;rcases signTo_mem (c::r) signsW 0 with h5|h5
     ·omega
     ·exact .inl h5
theorem lexA_g:∀ (f:Nat) (w:Str) (p:Nat × Nat) (acc:List Tok) (l:List Tok),(∀ t,t∈acc→TokG t)→lexA signsW true f w p acc=.ok l→∀ t,t∈l→TokG t
 | _,[],p,acc,l,ha,h=>by
  simp only[lexA] at h;cases h;exact ha
 | 0,_::_,p,acc,l,ha,h=>by
  simp only[lexA] at h;cases h;exact ha
 | f+1,c::r,p,acc,l,ha,h=>by
  simp only[lexA] at h;rcases htok:tokOf (c::r) signsW true with ⟨t,n,ok⟩
  rw[htok] at h;cases ok with
  | false=>cases h
  | true =>
   simp only at h;refine lexA_g f _ _ _ l (fun t' ht'=>?_) h;rcases List.mem_append.1 ht' with h5|h5
   ·exact ha t' h5
   ·simp only[List.mem_singleton] at h5;subst h5;exact tokOf_g htok _ _
theorem lexS_g {x:Str} {l:List Tok} (h:lexS signsW true x=.ok l):∀ t,t∈l→TokG t:=lexA_g _ _ _ _ l (fun t ht=>by cases ht) h
end Go.AV
end
section
namespace Go.AV
open Go Go.Proofs
theorem long_den (s:St) (x:Str) (KV Kp) (hx:x.length≤4294967290) (hk:(lexS signsW true x).out KV s):Den cx 141 [.str x] KV Kp s:=by
 refine Den.drop ?_;(refine Den.of_body (C:=cx) Tryz.func141 rfl rfl (gC6 rfl) ?_;refine wpC_ok (V:=[0,2,3]) _ _ _ _ ?_;simp only[go_sem,Tryz.ntmps141,Tryz.f141]);(intro q hq;try simp only[gD6,ne_eq] at hq);simp only[go_sem,hq];refine fields_signs _ _ _ ?_;simp only[go_sem,wordsA];(intro r hr;try simp only[gD6,ne_eq] at hr);have hq':q≠r:=hr.1.1;simp only[go_sem,hr,hq,hq'];refine cut_den _ r x signsW _ _ (by rw[gA1,if_pos rfl];rfl) hx (by decide) fun o=>?_
 cases hl:lexS signsW true x with
 | ok l =>
  rw[hl] at hk;simp only[Lx.out] at hk ⊢;simp only[go_sem,hr,hq,hq',Fault.none];exact DK.st hk (St.ge_set hq (St.ge_set hr.2 (St.ge_new hq)))
 | bad f =>
  rw[hl] at hk;simp only[Lx.out] at hk ⊢;simp only[go_sem,hr,hq,hq'];exact DK.st hk (St.ge_set hq (St.ge_set hr.2 (St.ge_new hq)))
end Go.AV
end
section
namespace Go.Proofs
open Go.Shelf
def Tryz.laysM171_ren:Go.Shelf.Ren:=⟨fun|171=>169|243=>244|246=>287|283=>307|284=>308|285=>309|286=>310|129=>319|317=>318|318=>320|319=>321|320=>322|337=>329|338=>330|n=>n,fun|3=>3|9=>9|2=>2|4=>4|171=>283|0=>0|53=>284|37=>152|5=>5|173=>287|212=>303|51=>277|20=>20|213=>304|46=>282|232=>326|233=>327|n=>n,fun|17=>3|18=>4|19=>5|n=>n⟩
theorem Tryz.laysM171:Go.Proofs.LaysM.n171 Tryz.prog Tryz.laysM171_ren:={
 mixed:=by kernel_rfl
 f129:=Tryz.func319.trans (congrArg some (by kernel_rfl))
 f171:=Tryz.func169.trans (congrArg some (by kernel_rfl))
 f243:=Tryz.func244.trans (congrArg some (by kernel_rfl))
 f246:=Tryz.func287.trans (congrArg some (by kernel_rfl))
 f283:=Tryz.func307.trans (congrArg some (by kernel_rfl))
 f284:=Tryz.func308.trans (congrArg some (by kernel_rfl))
 f285:=Tryz.func309.trans (congrArg some (by kernel_rfl))
 f286:=Tryz.func310.trans (congrArg some (by kernel_rfl))
 f317:=Tryz.func318.trans (congrArg some (by kernel_rfl))
 f318:=Tryz.func320.trans (congrArg some (by kernel_rfl))
 f319:=Tryz.func321.trans (congrArg some (by kernel_rfl))
 f320:=Tryz.func322.trans (congrArg some (by kernel_rfl))
 f337:=Tryz.func329.trans (congrArg some (by kernel_rfl))
 f338:=Tryz.func330.trans (congrArg some (by kernel_rfl))
 t0:=Tryz.underlying0
 a0:=Tryz.isAgg0
 z0:=Tryz.sizeOf0
 v0:=Tryz.zeroValue0
 t2:=Tryz.underlying2
 a2:=Tryz.isAgg2
 z2:=Tryz.sizeOf2
 v2:=Tryz.zeroValue2
 t3:=Tryz.underlying3
 a3:=Tryz.isAgg3
 z3:=Tryz.sizeOf3
 v3:=Tryz.zeroValue3
 t4:=Tryz.underlying4
 a4:=Tryz.isAgg4
 z4:=Tryz.sizeOf4
 v4:=Tryz.zeroValue4
 t5:=Tryz.underlying5
 a5:=Tryz.isAgg5
 z5:=Tryz.sizeOf5
 v5:=Tryz.zeroValue5
 t9:=Tryz.underlying9
 a9:=Tryz.isAgg9
 z9:=Tryz.sizeOf9
 v9:=Tryz.zeroValue9
 t20:=Tryz.underlying20
 a20:=Tryz.isAgg20
 z20:=Tryz.sizeOf20
 v20:=Tryz.zeroValue20
 t37:=Tryz.underlying152
 a37:=Tryz.isAgg152
 z37:=Tryz.sizeOf152
 v37:=Tryz.zeroValue152
 t46:=Tryz.underlying282
 a46:=Tryz.isAgg282
 z46:=Tryz.sizeOf282
 v46:=Tryz.zeroValue282
 t51:=Tryz.underlying277
 a51:=Tryz.isAgg277
 z51:=Tryz.sizeOf277
 v51:=Tryz.zeroValue277
 t53:=Tryz.underlying284
 a53:=Tryz.isAgg284
 z53:=Tryz.sizeOf284
 v53:=Tryz.zeroValue284
 t171:=Tryz.underlying283
 a171:=Tryz.isAgg283
 z171:=Tryz.sizeOf283
 v171:=Tryz.zeroValue283
 t173:=Tryz.underlying287
 a173:=Tryz.isAgg287
 z173:=Tryz.sizeOf287
 v173:=Tryz.zeroValue287
 t212:=Tryz.underlying303
 a212:=Tryz.isAgg303
 z212:=Tryz.sizeOf303
 v212:=Tryz.zeroValue303
 t213:=Tryz.underlying304
 a213:=Tryz.isAgg304
 z213:=Tryz.sizeOf304
 t232:=Tryz.underlying326
 a232:=Tryz.isAgg326
 z232:=Tryz.sizeOf326
 v232:=Tryz.zeroValue326
 t233:=Tryz.underlying327
 a233:=Tryz.isAgg327
 z233:=Tryz.sizeOf327
 v233:=Tryz.zeroValue327
 g17:=by kernel_rfl
 g18:=by kernel_rfl
 g19:=by kernel_rfl
 i0:=by kernel_rfl
 i2:=by kernel_rfl
 i3:=by kernel_rfl
 i4:=by kernel_rfl
 i5:=by kernel_rfl
 i9:=by kernel_rfl
 i20:=by kernel_rfl
 i37:=by kernel_rfl
 i46:=by kernel_rfl
 i51:=by kernel_rfl
 i53:=by kernel_rfl
 i171:=by kernel_rfl
 i173:=by kernel_rfl
 i212:=by kernel_rfl
 i232:=by kernel_rfl
 i233:=by kernel_rfl
 m17:=by kernel_rfl
 m18:=by kernel_rfl
 m19:=by kernel_rfl }
open Go.RowKit Go.Sort Go.Lib in
theorem Tryz.strconv_Itoa (n : Int) (h0 : -9223372036854775808 ≤ n) (h1 : n ≤ 9223372036854775807) (w : World) (htab : Lib.TabIs Tryz.prog w "internal/strconv.uint64pow10" .u64 Lib.pow10Tab) :
  Calls Tryz.prog 169 #[.int .i64 n] w fun e w'=>e=.returned (.string ⟨(Lib.itoa n).toArray⟩)∧∃ k os,w'=grow (w.drewN k) os:=Any.strconv_Itoa Tryz.laysM171 n h0 h1 w htab
end Go.Proofs
namespace Go.AV
open Go Go.Proofs
theorem pow_named : Tryz.prog.globalNamed "internal/strconv.uint64pow10" = some 3 := by kernel_rfl
theorem powS_eq:powS=Lib.pow10Tab.map (fun z=>A.int .u64 z):=by kernel_rfl
theorem enter_run {P : Program} {f : FuncId} {fn : Func} {c : Code} (hf : P.funcs[f]? = some fn) (hb : fn.body = some c) (hname : (fn.name == "runtime.NumGoroutine") = false) (vals : Array Value) (w : World) :
  (callFunc f vals).run P w=.ok (.enter f vals) w:=by
 simp only[callFunc,Sem.run_bind,run_program,Result.andThen_ok,hf,hname,gD7,↓reduceIte,hb,Option.isNone_some,Sem.run_pure]
theorem itoa_den (n:Int) (h0:-9223372036854775808≤n) (h1:n≤9223372036854775807) (s:St) (KV Kp:St→A→Prop) (hk:KV s (.str (Lib.itoa n))):Den cx 169 [.int .i64 n] KV Kp s:=by
 refine Den.of_calls (fun vals w=>?_) fun F g w vals hR hv=>?_
 ·exact enter_run (P:=Tryz.prog) Tryz.func169 rfl rfl vals w
 ·obtain ⟨v,hv0,hr⟩:=hv.get (j:=0) rfl;have hl:=hv.1
  have hvs:vals=[.int .i64 n]:=by
   match vals,hl,hv0 with
   | [x],_,h=>simp only[List.getElem?_cons_zero,Option.some.injEq] at h;subst h;rw[hr.int_inv]
  subst hvs
  have htab : Lib.TabIs Tryz.prog w "internal/strconv.uint64pow10" .u64 Lib.pow10Tab := by
   obtain ⟨pre,ty,fr,h1,h2,h3,h4,h5⟩:=hR.gpi (b:=3) (cs:=powS) rfl;unfold Lib.TabIs World.var?;rw[pow_named];simp only[Option.bind_some,h1,Option.some.injEq];congr 1;apply List.ext_getElem?;intro i;by_cases hi:i<powS.length
   ·have hp:i<pre.length:=by rw[h3];exact hi
    have hc:powS[i]?=some (.int .u64 (Lib.pow10Tab[i]'(by rw[powS_eq] at hi;simpa using hi))):=by
     rw[List.getElem?_eq_getElem hi];simp[powS_eq]
    have:=h5 i _ _ hc (List.getElem?_eq_getElem hp);rw[List.getElem?_eq_getElem hp,this.int_inv];rw[powS_eq] at hi;simp only[gC4] at hi;simp[hi]
   ·rw[List.getElem?_eq_none (by omega),List.getElem?_eq_none (by rw[powS_eq] at hi;simpa using hi)]
  refine Calls.mono (Tryz.strconv_Itoa n h0 h1 w htab) fun e w' hp=>?_
  obtain ⟨rfl,k,os,rfl⟩:=hp;refine ⟨_,_,rfl,fun b hb=>?_,rfl,.str _,hk⟩;show (w.heap++os)[b]?=w.heap[b]?;rw[Array.getElem?_append_left hb]
end Go.AV
end
