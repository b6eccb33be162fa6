/-
  DefTerms: for all strings s the call returns true; the argument reads as before, memory that was there is as it was (where the listed package-level variables hold what the text of the program lays).
-/
import Derived.Test.YtamikhobdffnfaaGreatDoorTe34
import Derived.Test.YtamikhobdffnfaaGreatDoorTe26
import Derived.Test.YtamikhobdffnfaaGreatDoorTe32
import Derived.Test.YtamikhobdffnfaaGreatDoorTe13
import Derived.Test.YtamikhobdffnfaaGreatDoorTe14
import Derived.ChangeMaps5
set_option linter.all false
set_option maxRecDepth 1000000
set_option maxHeartbeats 40000000
section
namespace Go.AV
open Go Go.Proofs
section
variable {s:St} {KV Kp:St→A→Prop} {r:Nat} {w:Str} {i l c:Nat} {sg:A} {tk:Option Nat} {acc:List Tok} {f:Fault}
theorem ctS_getO':(ctS s r w i l c sg tk acc f).getO r=some (ctO w i l c sg (gv tk (acc.map Tok.enc)) f):=by
 unfold ctS;rw[gA6,gA1,if_pos rfl]
theorem ctS_set (i' l' c':Nat):((ctS s r w i l c sg tk acc f).setO r (ctO w i' l' c' sg (gv tk (acc.map Tok.enc)) f)).ge (ctS s r w i' l' c' sg tk acc f):=by
 unfold ctS;cases tk with
 | none =>
  refine ⟨fun d x hx=>?_,fun u m hm=>hm,fun x hx=>hx⟩;simp only[gs] at hx ⊢;rw[gA1] at hx ⊢;split
  ·rename_i e;rw[if_pos e] at hx;exact hx
  ·rename_i e;rw[if_neg e] at hx;rw[gA1,if_neg e];exact hx
 | some u =>
  refine ⟨fun d x hx=>?_,fun u m hm=>hm,fun x hx=>hx⟩;simp only[gs] at hx ⊢;rw[gA3,gA1] at hx;rw[gA1,gA3,gA1];split
  ·rename_i e;rw[if_pos e] at hx;exact hx
  ·rename_i e;rw[if_neg e] at hx;exact hx
theorem skip_ct (hx:w.length≤4294967280) (hi:i≤w.length) (hl:l≤i+1) (hc:c≤i+1)
  (hk:KV (ctS s r w (i+blks (w.drop i)) (adv (l,c) ((w.drop i).take (blks (w.drop i)))).1 (adv (l,c) ((w.drop i).take (blks (w.drop i)))).2 sg tk acc f) (.tuple [])) :
  Den cx 104 [.ptr r 0] KV Kp (ctS s r w i l c sg tk acc f):=by
 refine Den.drop ?_;refine skip104_den ctS_getO' hx hi hl hc ?_;exact DK.st hk (ctS_set _ _ _)
theorem ctS_other {q:Nat} (h:¬ r=q):(ctS s r w i l c sg tk acc f).getO q=s.getO q:=by
 unfold ctS;rw[gA6,gA1,if_neg h]
end
section
variable {s:St} {KV Kp:St→A→Prop}
theorem cut75_den (x:Str) (tk2:Option Nat) (hx:x.length≤4294967280)
  (hk:if 20000<x.length then KV s (.tuple [.list none [],Fault.enc ⟨3,[],0,0⟩]) else (lexS signsW true x).out KV s) :
  Den cx 75 [.str x,.list tk2 (signsR.map .str)] KV Kp s:=by
 refine Den.drop ?_;(refine Den.of_body (C:=cx) Tryz.func75 rfl rfl (gC6 rfl) ?_;refine wpC_ok (V:=[0,1,4,5,6,9,31,41]) _ _ _ _ ?_;simp only[go_sem,Tryz.ntmps75,Tryz.f75]);(intro b1 hb1;try simp only[gA5,gA6,gD6,ne_eq] at hb1);simp only[go_sem,hb1];have d0:decide ((20000:Int)<((x.length:Nat):Int))=decide (20000<x.length):=by congr 1;apply propext;omega
 by_cases h20:20000<x.length
 ·rw[if_pos h20] at hk;have d1:decide (20000<x.length)=true:=decide_eq_true h20;simp only[go_sem,hb1,d0,d1];exact DK.mk hk (St.ge_new hb1) (A.le.tuple ⟨A.le.nil,A.le.refl _,trivial⟩)
 rw[if_neg h20] at hk;have d1:decide (20000<x.length)=false:=decide_eq_false h20;simp only[go_sem,hb1,d0,d1];(intro b2 hb2;try simp only[gA5,gA6,gD6,ne_eq] at hb2);simp only[go_sem,hb1,hb2];have hb0:=blks_le x.length x;change blks x≤x.length at hb0;have hge1:(s.setO b1 (.cells 36 [.int .i64 0,.str [],.int .i64 0,.int .i64 0])).ge s:=St.ge_new hb1;have hS0:(s.setO b1 (.cells 36 [.int .i64 0,.str [],.int .i64 0,.int .i64 0])).getO b1=some (.cells 36 [.int .i64 0,.str [],.int .i64 0,.int .i64 0]):=by rw[gA1,if_pos rfl]
 have hST:∀ u,(s.setO b1 (.cells 36 [.int .i64 0,.str [],.int .i64 0,.int .i64 0])).getT u=s.getT u:=fun u=>rfl
 have hS2:(s.setO b1 (.cells 36 [.int .i64 0,.str [],.int .i64 0,.int .i64 0])).getO b2=none:=by rw[gA1,if_neg hb2.1.1];exact hb2.2
 have hne:¬ b1=b2∧¬ b2=b1:=hb2.1;have hb2:s.getO b2=none:=hb2.2;generalize (s.setO b1 (.cells 36 [.int .i64 0,.str [],.int .i64 0,.int .i64 0]))=S at hge1 hS0 hST hS2 ⊢;change Den cx 104 [.ptr b2 0] _ _ (ctS S b2 x 0 1 1 (.list tk2 (signsR.map .str)) none [] Fault.none);refine skip_ct hx (Nat.zero_le _) (by omega) (by omega) ?_;simp only[go_sem,hb1,hb2]
 refine Ex.loop (ι:=Nat × (Nat × Nat) × List Tok × Option Nat × Fault) (fun z=>[(0,.str x),(4,.nils),(5,.ptr b1 0),(6,.ptr b2 0)])
  (fun z=>ctS S b2 x z.1 z.2.1.1 z.2.1.2 (.list tk2 (signsR.map .str)) z.2.2.2.1 z.2.2.1 z.2.2.2.2)
  (fun z => z.1 ≤ x.length ∧ z.2.1.1 ≤ z.1 + 1 ∧ z.2.1.2 ≤ z.1 + 1 ∧ (z.2.2.2.1 = none → z.2.2.1 = []) ∧ (∀ t,z.2.2.2.1 = some t → S.getT t = none) ∧ z.2.2.1.length ≤ z.1 ∧
   ((z.2.2.2.2=Fault.none∧∃ f,x.length-z.1≤f∧lexS signsW true x=lexA signsW true f (x.drop z.1) z.2.1 z.2.2.1)∨(z.2.2.2.2.code=10∧lexS signsW true x=.bad z.2.2.2.2))) (fun z=>if z.2.2.2.2.code=10 then 0 else x.length+1-z.1)
  (blks x,adv (1,1) (x.take (blks x)),[],none,Fault.none) ?_ ?_ ?_ ?_
 ·have:=adv_le (x.take (blks x)) (1,1) 0 (by omega) (by omega);rw[List.length_take] at this;exact ⟨hb0,by simp only;omega,by simp only;omega,fun _=>rfl,fun t h=>(by cases h),Nat.zero_le _,.inl ⟨rfl,x.length,by simp only;omega,rfl⟩⟩
 ·simp only[go_sem,hb1,hb2]
  try rfl
 ·simp only[List.drop_zero,Nat.zero_add]
  try exact St.ge.refl _
 rintro ⟨a,⟨l,c⟩,acc,tk,F⟩ ⟨ha,hl,hc,hn,hf,hla,hF⟩;simp only at ha hl hc hn hf hla hF;refine wpC_ok (V:=[0,1,4,5,6,9,31,41]) _ _ _ _ ?_
 have fin:∀ (a l c:Nat) (tk:Option Nat) (acc:List Tok) (F:Fault) (o:Ob),(∀ t,tk=some t→S.getT t=none)→((ctS S b2 x a l c (.list tk2 (signsR.map .str)) tk acc F).setO b1 o).ge s:=by
  intro a l c tk acc F o hf;refine ⟨fun d y hy=>?_,fun u m hm=>?_,fun y hy=>?_⟩
  ·have n1:¬ b1=d:=by rintro rfl;rw[hb1] at hy;cases hy
   have n2:¬ b2=d:=by rintro rfl;rw[hb2] at hy;cases hy
   rw[gA1,if_neg n1,ctS_other n2];exact hge1.ob d y hy
  ·have h1:=hge1.tk u m hm;unfold ctS;cases tk with
   | none=>exact h1
   | some t =>
    have n1:¬ t=u:=by rintro rfl;rw[hf t rfl] at h1;cases h1
    simp only[gs];show (St.setT _ t _).getT u=some m;rw[gA4,if_neg n1];exact h1
  ·have h1:=hge1.ls y hy;unfold ctS;cases tk<;>exact h1
 have hrr:∀ a l c tk acc F,(ctS S b2 x a l c (.list tk2 (signsR.map .str)) tk acc F).getO b2=some (ctO x a l c (.list tk2 (signsR.map .str)) (gv tk (acc.map Tok.enc)) F):=fun _ _ _ _ _ _=>ctS_getO'
 have hr1:∀ a l c tk acc F,(ctS S b2 x a l c (.list tk2 (signsR.map .str)) tk acc F).getO b1=some (.cells 36 [.int .i64 0,.str [],.int .i64 0,.int .i64 0]):=fun _ _ _ _ _ _=>by rw[ctS_other hne.2];exact hS0
 simp only[go_sem,hrr,hr1,hne];by_cases hlt:a<x.length
 ·have d2:decide (a<x.length)=true:=decide_eq_true hlt;rcases hF with ⟨rfl,f,hff,hlex⟩|⟨hF1,hF2⟩
  ·have d3:decide (Fault.none.code=0)=true:=rfl;simp only[go_sem,hrr,hr1,hne,d2,d3];obtain ⟨b,v,hw⟩:∃ b v,x.drop a=b::v:=⟨_,_,List.drop_eq_getElem_cons hlt⟩
   obtain ⟨f,rfl⟩:∃ f',f=f'+1:=⟨f-1,by omega⟩
   refine token105_den tk2 hlt hn hf (by omega) hx hl hc ?_;rw[hw] at hlex ⊢;simp only[lexA] at hlex;have hwl:x.length-a=(b::v).length:=by rw[← hw,gD4]
   rcases htok:tokOf (b::v) signsW true with ⟨⟨tkd,ttx,tn,tl,tc⟩,n,ok⟩
   rw[htok] at hlex;cases ok with
   | false =>
    simp only at hlex;simp only[Cut1];simp only[go_sem,hrr,hr1,hne];have hbk:blks (x.drop a)≤(x.drop a).length:=blks_le _ _;rw[gD4] at hbk;refine skip_ct hx ha hl hc ?_;simp only[go_sem,hrr,hr1,hne];have hal:=adv_le ((x.drop a).take (blks (x.drop a))) (l,c) a hl hc;rw[List.length_take,gD4,Nat.min_eq_left hbk] at hal;refine ⟨(a+blks (x.drop a),adv (l,c) ((x.drop a).take (blks (x.drop a))),acc,tk,⟨10,(x.drop a).take 1,l,c⟩),⟨?_,?_,?_,hn,hf,?_,.inr ⟨rfl,?_⟩⟩,?_,?_⟩
    ·simp only;omega
    ·simp only;omega
    ·simp only;omega
    ·simp only;omega
    ·rw[hlex,hw];rfl
    ·simp only[reduceIte];have nz:¬ Fault.none.code=10:=by decide
     simp only[nz,if_false];omega
    ·exact St.ge.refl _
   | true =>
    simp only at hlex;obtain ⟨hn1,hn2⟩:=tokOf_len htok;simp only[Cut1];intro u hu;simp only[go_sem,hrr,hr1,hne];have hal:=adv_le ((b::v).take n) (l,c) a hl hc;rw[List.length_take,Nat.min_eq_left hn2] at hal;have hdd:x.drop (a+n)=(b::v).drop n:=by rw[← List.drop_drop,hw]
    have hblk:=blks_le ((b::v).drop n).length ((b::v).drop n);change blks ((b::v).drop n)≤_ at hblk;rw[gD4] at hblk;rw[hw];refine skip_ct hx (by omega) (by omega) (by omega) ?_;simp only[go_sem,hrr,hr1,hne];rw[hdd];have hal2:=adv_le (((b::v).drop n).take (blks ((b::v).drop n))) (adv (l,c) ((b::v).take n)) (a+n) (by omega) (by omega);rw[List.length_take,gD4,Nat.min_eq_left hblk] at hal2;refine ⟨(a+n+blks ((b::v).drop n),adv (adv (l,c) ((b::v).take n)) (((b::v).drop n).take (blks ((b::v).drop n))),acc++[⟨tkd,ttx,tn,l,c⟩],some u,Fault.none),⟨?_,?_,?_,?_,?_,?_,.inl ⟨rfl,f,?_,?_⟩⟩,?_,?_⟩
    ·simp only;omega
    ·simp only;omega
    ·simp only;omega
    ·intro h;cases h
    ·intro y hy;cases hy;exact hu
    ·simp only[gC2,gC1,gC3];omega
    ·simp only;omega
    ·simp only[hlex];congr 1;rw[← List.drop_drop,hdd]
    ·have nz:¬ Fault.none.code=10:=by decide
     simp only[nz,if_false];omega
    ·exact St.ge.refl _
  ·have d3:decide (F.code=0)=false:=decide_eq_false (by omega);simp only[go_sem,hrr,hr1,hne,d2,d3];(refine draw_ok (V:=[0,1,4,5,6,9,31,41]) (OT.l [0,1,2,3,4,5] .nil) [] mixed_cx (by decide +kernel) ?_;simp only[go_sem,hrr,hr1,hne,d2,d3]);rw[hF2] at hk;refine DK.mk hk ?_ (A.le.tuple ⟨A.le.nil,A.le.refl _,trivial⟩);exact fin _ _ _ _ _ _ _ hf
 ·have d2:decide (a<x.length)=false:=decide_eq_false hlt;rcases hF with ⟨rfl,f,hff,hlex⟩|⟨hF1,hF2⟩
  ·have d3:decide (Fault.none.code=0)=true:=rfl;simp only[go_sem,hrr,hr1,hne,d2,d3]
   have hlx:lexS signsW true x=.ok acc:=by
    rw[hlex,List.drop_eq_nil_of_le (by omega)];cases f<;>rfl
   rw[hlx] at hk;refine DK.mk hk ?_ (A.le.tuple ⟨gv_le tk _ (fun e=>by rw[hn e];rfl),A.le.refl _,trivial⟩);exact fin _ _ _ _ _ _ _ hf
  ·have d3:decide (F.code=0)=false:=decide_eq_false (by omega);simp only[go_sem,hrr,hr1,hne,d2,d3];(refine draw_ok (V:=[0,1,4,5,6,9,31,41]) (OT.l [0,1,2,3,4,5] .nil) [] mixed_cx (by decide +kernel) ?_;simp only[go_sem,hrr,hr1,hne,d2,d3]);rw[hF2] at hk;refine DK.mk hk ?_ (A.le.tuple ⟨A.le.nil,A.le.refl _,trivial⟩);exact fin _ _ _ _ _ _ _ hf
end
end Go.AV
end
section
namespace Go.AV
open Go Go.Proofs
section
variable {s:St} {KV Kp:St→A→Prop}
theorem defs76_den (hk:∀ t,s.getT t=none→KV (s.setT t (18,9)) (.list (some t) (signsW.map .str))):Den cx 76 [] KV Kp s:=by
 (refine Den.drop ?_;refine den_cxo ?_;refine Den.of_body (C:=cxo) Tryz.func76 rfl rfl (gC6 rfl) ?_;refine wpC_ok (V:=[0]) _ _ _ _ ?_;simp only[go_sem,Tryz.ntmps76,Tryz.f76]);exact .inr fun k h=>DK.here (hk k h)
def Lx.ref (KV:St→A→Prop) (x:Str) (s:St):Prop:=if 20000<x.length then KV s (.tuple [.list none [],Fault.enc ⟨3,[],0,0⟩]) else (lexS signsW true x).out KV s
theorem def31_den (x:Str) (hx:x.length≤4294967280) (hk:Lx.ref KV x s):Den cx 31 [.str x] KV Kp s:=by
 unfold Lx.ref at hk;(refine Den.drop ?_;refine den_cxo ?_;refine Den.of_body (C:=cxo) Tryz.func31 rfl rfl (gC6 rfl) ?_;refine wpC_ok (V:=[0,2,3]) _ _ _ _ ?_;simp only[go_sem,Tryz.ntmps31,Tryz.f31]);(intro b1 hb1;try simp only[gA5,gA6,gD6,ne_eq] at hb1);simp only[go_sem,hb1];refine to_cxo ?_;refine defs76_den fun t ht=>?_
 simp only[go_sem,hb1];refine .inl ⟨by decide,fun y hy=>?_,rfl,fun y hy=>?_,by decide,?_⟩
 ·simp only[gC5,List.mem_nil_iff,or_false] at hy;rcases hy with rfl|rfl<;>rfl
 ·simp only[List.mem_map] at hy;obtain ⟨z,_,rfl⟩:=hy;rfl
 refine to_cxo ?_;refine cut75_den (tk2:=some t) x hx ?_;have fin:∀ o,(((s.setO b1 o).setT t (18,9)).setT t (signsW.length+2,9)).ge s:=fun o=>gel_ge (gel_newT ht (gel_newT ht (gel_new hb1 (gel_refl _ _ _))))
 by_cases h20:20000<x.length
 ·rw[if_pos h20] at hk ⊢;simp only[go_sem,hb1];exact DK.mk hk (fin _) (A.le.refl _)
 ·rw[if_neg h20] at hk ⊢;cases hlx:lexS signsW true x with
  | ok l =>
   rw[hlx] at hk;simp only[Lx.out] at hk ⊢;simp only[go_sem,hb1];exact DK.mk hk (fin _) (A.le.refl _)
  | bad f =>
   rw[hlx] at hk;simp only[Lx.out] at hk ⊢;simp only[go_sem,hb1];exact DK.mk hk (fin _) (A.le.refl _)
end
end Go.AV
end
section
namespace Go.AV
open Go Go.Proofs
section
variable {s:St} {KV Kp:St→A→Prop}
theorem adv_fin (x:Str):∀ n,n≤x.length→((adv (1,1) (x.take n)).1:Int)=1+((x.take n).count 10:Nat)∧((adv (1,1) (x.take n)).2:Int)=n-lastTo x 10 n
 | 0,_=>by simp[adv,lastTo]
 | n+1,h=>by
  obtain ⟨h1,h2⟩:=adv_fin x n (by omega);obtain ⟨c,hc⟩:∃ c,x[n]?=some c:=⟨_,List.getElem?_eq_getElem (by omega)⟩
  rw[List.take_add_one,hc,adv_app];simp only[Option.toList,adv,lastTo,hc,List.count_append,List.count_singleton];by_cases h10:c=10
  ·subst h10;simp;omega
  ·have e:¬ (some c=some (10:UInt8)):=fun e=>h10 (Option.some.inj e)
   have e2:(c == 10)=false:=by simpa using h10
   rw[if_neg h10,if_neg e];simp[e2];omega
theorem end43_den (x:Str) (hx:x.length≤4294967280) (hk:KV s (.tuple [.int .i64 (finS x).line,.int .i64 (finS x).col])):Den cx 43 [.str x] KV Kp s:=by
 refine Den.drop ?_;(refine Den.of_body (C:=cx) Tryz.func43 rfl rfl (gC6 rfl) ?_;refine wpC_ok (V:=[0,2,3,4]) _ _ _ _ ?_;simp only[go_sem,Tryz.ntmps43,Tryz.f43]);(intro b1 hb1;try simp only[gA5,gA6,gD6,ne_eq] at hb1);simp only[go_sem,hb1];refine take94_den (i:=0) (l:=1) (c:=1) (sg:=.nils) (out:=.nils) (f:=Fault.none) (w:=x) x.length (by first|exact (by simp only[gA1,gA2,gA3,gA6,ne_eq,gA9,reduceIte,hb1]<;>(first|done|rfl|assumption))|rfl) hx (by omega) (by omega) (by omega) ?_;obtain ⟨h1,h2⟩:=adv_fin x x.length (Nat.le_refl _);have e1:(((adv (1,1) (List.take x.length (List.drop 0 x))).1:Nat):Int)=(finS x).line:=by rw[List.drop_zero,h1,List.take_length];rfl
 have e2:(((adv (1,1) (List.take x.length (List.drop 0 x))).2:Nat):Int)=(finS x).col:=by rw[List.drop_zero,h2];rfl
 simp only[go_sem,hb1];(refine draw_ok (V:=[0,2,3,4]) (OT.l [0,1,2,3,4,5,6,7,8,9] .nil) [] mixed_cx (by decide +kernel) ?_;simp only[go_sem,hb1]);rw[List.drop_zero] at e1 e2;rw[e1,e2];exact DK.st hk (by (refine gel_ge ?_;repeat (first|exact gel_refl _ _ _|refine gel_gs_gs ?_|refine gel_to_gs gs_self ?_|refine gB1 ?_|refine gB2 ?_|refine gel_set (by simp only[gA1,gA2,gA3,gA6,ne_eq,gA9,reduceIte,hb1]<;>(first|done|rfl|assumption)) ?_|refine gB3 ?_|refine gel_new (by first|simp only[hb1]|assumption) ?_)))
def termB (x:Str):Tm × Fault:=match lexS signsW true x with
 | .bad f=>(noTm,f)
 | .ok T =>
  let p:=wholeF (T:=T) (finS x) ⟨0,Nat.zero_le _,Fault.none,0,0,false⟩
  let q:=if (p.2.ok&&decide (p.2.at_<T.length))=true then failF (finS x) 11 p.2.at_ true p.2 else p.2
  if q.ok=true then (p.1,Fault.none) else (noTm,q.f)
def zeroD:Dc:=⟨[],.nils,.nils,.nils,.nils,.nils,.nils,.nils,[],.nils,.nils,[],[]⟩
attribute [go_sem] zeroD
theorem term19_den (x:Str) (hx:x.length≤20000) (hk:KV s (.tuple [(termB x).1.enc,(termB x).2.enc])):Den cx 19 [.str x] KV Kp s:=by
 have zt:A.le (.agg [.int .i64 0,.int .i64 0,.str [],.str [],.nils,.nils]) noTm.enc:=Tm.le_leaf 0 0 [] [];refine Den.drop ?_;(refine Den.of_body (C:=cx) Tryz.func19 rfl rfl (gC6 rfl) ?_;refine wpC_ok (V:=[0,2,3,4,5,6,7,15,44,53]) _ _ _ _ ?_;simp only[go_sem,Tryz.ntmps19,Tryz.f19]);(intro b2 hb2;try simp only[gA5,gA6,gD6,ne_eq] at hb2);simp only[go_sem,hb2];(intro b3 hb3;try simp only[gA5,gA6,gD6,ne_eq] at hb3);simp only[go_sem,hb2,hb3];refine def31_den x (by omega) ?_;unfold Lx.ref;rw[if_neg (by omega)];unfold termB at hk;cases hl:lexS signsW true x with
 | bad f =>
  rw[hl] at hk;have hc0:decide (f.code=0)=false:=by rw[lexS_bad hl];rfl
  simp only[Lx.out];simp only[go_sem,hb2,hb3];(intro b5 hb5;try simp only[gA5,gA6,gD6,ne_eq] at hb5);simp only[go_sem,hb2,hb3,hb5,hc0];(refine draw_ok (V:=[0,2,3,4,5,6,7,15,44,53]) (OT.l [0,1,2,3] .nil) [(2,[1])] mixed_cx (by decide +kernel) ?_;simp only[go_sem,hb2,hb3,hb5]);simp only[go_sem] at hk;exact DK.mk hk (by (refine gel_ge ?_;repeat (first|exact gel_refl _ _ _|refine gel_gs_gs ?_|refine gel_to_gs gs_self ?_|refine gB1 ?_|refine gB2 ?_|refine gel_set (by simp only[gA1,gA2,gA3,gA6,ne_eq,gA9,reduceIte,hb2,hb3,hb5]<;>(first|done|rfl|assumption)) ?_|refine gB3 ?_|refine gel_new (by first|simp only[hb2,hb3,hb5]|assumption) ?_))) (A.le.tuple ⟨zt,A.le.refl _,trivial⟩)
 | ok T =>
  rw[hl] at hk;have hT:=TOk_of (by omega) hl;have hlenT:=(lexS_w hl).1;simp only[Lx.out] at hk ⊢;simp only[go_sem,hb2,hb3];(intro b5 hb5;try simp only[gA5,gA6,gD6,ne_eq] at hb5);simp only[go_sem,hb2,hb3,hb5,Fault.none];(intro b6 hb6;try simp only[gA5,gA6,gD6,ne_eq] at hb6);simp only[go_sem,hb2,hb3,hb5,hb6];refine end43_den x (by omega) ?_;simp only[go_sem,hb2,hb3,hb5,hb6];refine whole44_den (ln:=(finS x).line) (cl:=(finS x).col) (q:=(⟨0,Nat.zero_le _,Fault.none,0,0,false⟩:RQ T)) (d:=zeroD) hT (by omega) (by first|exact (by simp only[gA1,gA2,gA3,gA6,ne_eq,gA9,reduceIte,hb2,hb3,hb5,hb6]<;>(first|done|rfl|assumption))|rfl) ?_;rw[show finL (finS x).line (finS x).col=finS x from rfl];generalize wholeF (finS x) (⟨0,Nat.zero_le _,Fault.none,0,0,false⟩:RQ T)=p at hk ⊢;obtain ⟨a,q⟩:=p;simp only at hk ⊢;simp only[go_sem,hb2,hb3,hb5,hb6,Tm.enc_eq];(intro b7 hb7;try simp only[gA5,gA6,gD6,ne_eq] at hb7);simp only[go_sem,hb2,hb3,hb5,hb6,hb7];refine ok45_den (ln:=(finS x).line) (cl:=(finS x).col) (q:=q) (d:=zeroD) (by simp only[gA1,gA2,gA3,gA6,ne_eq,gA9,reduceIte,hb2,hb3,hb5,hb6,hb7]<;>(first|done|rfl|assumption)) ?_;simp only[go_sem,hb2,hb3,hb5,hb6,hb7];cases hok:q.ok with
  | false =>
   simp only[hok,Bool.false_and,gD7,if_false] at hk;simp only[go_sem,hb2,hb3,hb5,hb6,hb7,hok];refine ok45_den (ln:=(finS x).line) (cl:=(finS x).col) (q:=q) (d:=zeroD) (by simp only[gA1,gA2,gA3,gA6,ne_eq,gA9,reduceIte,hb2,hb3,hb5,hb6,hb7]<;>(first|done|rfl|assumption)) ?_;simp only[go_sem,hb2,hb3,hb5,hb6,hb7,hok];(refine draw_ok (V:=[0,2,3,4,5,6,7,15,44,53]) (OT.l [0,1,2,3,4,5,6] .nil) [(5,[4])] mixed_cx (by decide +kernel) ?_;simp only[go_sem,hb2,hb3,hb5,hb6,hb7]);simp only[go_sem] at hk;exact DK.mk hk (by (refine gel_ge ?_;repeat (first|exact gel_refl _ _ _|refine gel_gs_gs ?_|refine gel_to_gs gs_self ?_|refine gB1 ?_|refine gB2 ?_|refine gel_set (by simp only[gA1,gA2,gA3,gA6,ne_eq,gA9,reduceIte,hb2,hb3,hb5,hb6,hb7]<;>(first|done|rfl|assumption)) ?_|refine gB3 ?_|refine gel_new (by first|simp only[hb2,hb3,hb5,hb6,hb7]|assumption) ?_))) (A.le.tuple ⟨zt,A.le.refl _,trivial⟩)
  | true =>
   simp only[go_sem,hb2,hb3,hb5,hb6,hb7,hok];cases hlt:decide (q.at_<T.length) with
   | true =>
    have hlt2:q.at_<T.length:=of_decide_eq_true hlt
    have hbad:(failF (finS x) 11 q.at_ true q).ok=false:=by
     unfold failF;rw[if_pos hok,List.getElem?_eq_getElem hlt2];rfl
    simp only[hok,hlt,Bool.and_self,if_true,hbad,gD7,if_false] at hk;simp only[go_sem,hb2,hb3,hb5,hb6,hb7,hok,hlt];refine fail46_den (ln:=(finS x).line) (cl:=(finS x).col) (q:=q) (d:=zeroD) hT 11 q.at_ true (by simp only[gA1,gA2,gA3,gA6,ne_eq,gA9,reduceIte,hb2,hb3,hb5,hb6,hb7]<;>(first|done|rfl|assumption)) ?_;rw[show finL (finS x).line (finS x).col=finS x from rfl];generalize failF (finS x) 11 q.at_ true q=q2 at hk hbad ⊢;simp only[go_sem,hb2,hb3,hb5,hb6,hb7];refine ok45_den (ln:=(finS x).line) (cl:=(finS x).col) (q:=q2) (d:=zeroD) (by simp only[gA1,gA2,gA3,gA6,ne_eq,gA9,reduceIte,hb2,hb3,hb5,hb6,hb7]<;>(first|done|rfl|assumption)) ?_;simp only[go_sem,hb2,hb3,hb5,hb6,hb7,hbad];(refine draw_ok (V:=[0,2,3,4,5,6,7,15,44,53]) (OT.l [0,1,2,3,4,5,6] .nil) [(5,[4])] mixed_cx (by decide +kernel) ?_;simp only[go_sem,hb2,hb3,hb5,hb6,hb7]);simp only[go_sem] at hk;exact DK.mk hk (by (refine gel_ge ?_;repeat (first|exact gel_refl _ _ _|refine gel_gs_gs ?_|refine gel_to_gs gs_self ?_|refine gB1 ?_|refine gB2 ?_|refine gel_set (by simp only[gA1,gA2,gA3,gA6,ne_eq,gA9,reduceIte,hb2,hb3,hb5,hb6,hb7]<;>(first|done|rfl|assumption)) ?_|refine gB3 ?_|refine gel_new (by first|simp only[hb2,hb3,hb5,hb6,hb7]|assumption) ?_))) (A.le.tuple ⟨zt,A.le.refl _,trivial⟩)
   | false =>
    simp only[hok,hlt,Bool.and_false,gD7,if_false,if_true] at hk;simp only[go_sem,hb2,hb3,hb5,hb6,hb7,hok,hlt];refine ok45_den (ln:=(finS x).line) (cl:=(finS x).col) (q:=q) (d:=zeroD) (by simp only[gA1,gA2,gA3,gA6,ne_eq,gA9,reduceIte,hb2,hb3,hb5,hb6,hb7]<;>(first|done|rfl|assumption)) ?_;simp only[go_sem,hb2,hb3,hb5,hb6,hb7,hok];simp only[Tm.enc_eq] at hk;simp only[go_sem] at hk;exact DK.mk hk (by (refine gel_ge ?_;repeat (first|exact gel_refl _ _ _|refine gel_gs_gs ?_|refine gel_to_gs gs_self ?_|refine gB1 ?_|refine gB2 ?_|refine gel_set (by simp only[gA1,gA2,gA3,gA6,ne_eq,gA9,reduceIte,hb2,hb3,hb5,hb6,hb7]<;>(first|done|rfl|assumption)) ?_|refine gB3 ?_|refine gel_new (by first|simp only[hb2,hb3,hb5,hb6,hb7]|assumption) ?_))) (A.le.refl _)
end
end Go.AV
end
section
namespace Go.AV
open Go
section
variable {α β σ:Type} {fin:Fault} {first:Tok} {v v' n k:Nat} {w:List Tok}
def Lk (v:Nat) (r1 r2:Rd α):Prop:=r1=r2∧∀ a w n,r2=.ok a w n→2 * n+w.length≤v
theorem Lk.bad (f:Fault):Lk v (.bad f:Rd α) (.bad f):=⟨rfl,fun _ _ _ e=>by cases e⟩
theorem Lk.ok {a:α} (h:2 * n+w.length≤v):Lk v (.ok a w n) (.ok a w n):=⟨rfl,fun _ _ _ e=>by cases e;exact h⟩
theorem Lk.bind {r1 r2:Rd α} {k1 k2:α→List Tok→Nat→Rd β} (h:Lk v r1 r2) (hk:∀ a w n,2 * n+w.length≤v→Lk v' (k1 a w n) (k2 a w n)):Lk v' (r1.bind k1) (r2.bind k2):=by
 obtain ⟨rfl,h2⟩:=h;cases r1 with
 | bad f=>exact Lk.bad _
 | ok a w n=>exact hk a w n (h2 a w n rfl)
theorem Lk.ite {c:Prop} [Decidable c] {a1 a2 b1 b2:Rd α} (h1:c→Lk v a1 a2) (h2:¬ c→Lk v b1 b2):Lk v (if c then a1 else b1) (if c then a2 else b2):=by
 by_cases h:c
 ·rw[if_pos h,if_pos h];exact h1 h
 ·rw[if_neg h,if_neg h];exact h2 h
theorem Lk.mono {r1 r2:Rd α} (h:Lk v r1 r2) (hv:v≤v'):Lk v' r1 r2:=⟨h.1,fun a w n e=>Nat.le_trans (h.2 a w n e) hv⟩
theorem tail_len {x:Str} (h:isT x w=true):w.tail.length+1=w.length:=by
 cases w with
 | nil=>cases h
 | cons t w=>rfl
theorem want_lk {x:Str} (h:2 * n+w.length≤v+1):Lk v (wantR fin x w n) (wantR fin x w n):=by
 unfold wantR;exact Lk.ite (fun c=>Lk.ok (by have:=tail_len c;omega)) (fun _=>Lk.bad _)
theorem name_lk (h:2 * n+w.length≤v+1):Lk v (nameR fin w n) (nameR fin w n):=by
 cases w with
 | nil=>exact Lk.bad _
 | cons t w =>
  simp only[nameR,gC1] at h ⊢;exact Lk.ite (fun _=>Lk.ok (by omega)) (fun _=>Lk.bad _)
theorem node_lk (h:2 * n+2+w.length≤v):Lk v (nodeR first w n) (nodeR first w n):=by
 unfold nodeR;exact Lk.ite (fun _=>Lk.bad _) (fun _=>Lk.ok (by omega))
theorem rest_lk {last:Bool} {sort:Str} (h:2 * n+w.length≤v):Lk v (restR fin first last sort w n) (restR fin first last sort w n):=by
 unfold restR;refine Lk.ite (fun c=>?_) (fun _=>Lk.ok h);have hl:=tail_len c;cases hw:w.tail with
 | nil=>exact Lk.bad _
 | cons t w1 =>
  rw[hw] at hl;simp only[gC1] at hl;simp only;exact Lk.ite (fun _=>Lk.ite (fun _=>Lk.bad _) (fun _=>Lk.bind (node_lk (v:=v) (by omega)) (fun _ w n h=>Lk.ok h))) (fun _=>Lk.bad _)
theorem loop_lk {x:Str} {B:Nat} {one1 one2:σ→List Tok→Nat→Rd σ} (hb:∀ a w n,2 * n+w.length≤B→Lk (2 * n+w.length+1) (one1 a w n) (one2 a w n)) :
  ∀ (f:Nat) (a:σ) (w:List Tok) (n v:Nat),2 * n+w.length≤B→2 * n+w.length≤v→Lk (v+1) (loopR fin x one1 f a w n) (loopR fin x one2 f a w n)
 | 0,a,w,n,v,_,_=>Lk.bad _
 | f+1,a,w,n,v,h1,h2=>by
  simp only[loopR];refine Lk.bind (hb a w n h1) (fun a' w' n' h=>?_);exact Lk.ite (fun c=>loop_lk hb f a' _ n' v (by have:=tail_len c;omega) (by have:=tail_len c;omega)) (fun _=>Lk.ok (by omega))
theorem kid_lk {tm1 tm2:List Tok→Nat→Rd Tm} (htm:∀ w n,2 * n+w.length+k≤3900→Lk (2 * n+w.length+1) (tm1 w n) (tm2 w n)) (acc:List Tm) (h:2 * n+w.length+k≤3900) :
  Lk (2 * n+w.length+1) (kidR true fin first tm1 acc w n) (kidR false fin first tm2 acc w n):=by
 unfold kidR;refine Lk.ite (fun _=>?_) (fun _=>htm w n h);cases w with
 | nil=>exact Lk.bad _
 | cons t w =>
  simp only;refine Lk.ite (fun _=>?_) (fun _=>htm _ n h);rw[if_neg (by omega),if_neg (by simp)];exact Lk.bad _
theorem named_lk {tm1 tm2:List Tok→Nat→Rd Tm} (htm:∀ w n,2 * n+w.length+k≤3900→Lk (2 * n+w.length+1) (tm1 w n) (tm2 w n)) (t:Tok) (hv:v+k≤3900) (h:2 * n+w.length≤v) :
  Lk v (namedR true fin first tm1 t w n) (namedR false fin first tm2 t w n):=by
 unfold namedR;refine Lk.ite (fun _=>Lk.ok h) (fun _=>Lk.ite (fun _=>Lk.ok h) (fun _=>Lk.ite (fun c=>?_) (fun _=>?_)))
 ·exact Lk.bind (name_lk (v:=v) (by have:=tail_len c;omega)) (fun _ w n h=>Lk.ok h)
 ·refine Lk.bind (want_lk (v:=v-1) (by omega)) (fun _ w n h2=>Lk.ite (fun c=>Lk.ok (by have:=tail_len c;omega)) (fun _=>?_));unfold listR;refine Lk.bind (loop_lk (B:=3900-k) (fun a w n h3=>Lk.bind (kid_lk htm a (by omega)) (fun _ w n h=>Lk.ok h)) _ _ w n (v-1) (by omega) (by omega)) (fun l w n h4=>?_);exact Lk.bind (want_lk (v:=v) (by omega)) (fun _ w n h=>Lk.ok h)
theorem ent_lk {tm1 tm2:List Tok→Nat→Rd Tm} (htm:∀ w n,2 * n+w.length+k≤3900→Lk (2 * n+w.length+1) (tm1 w n) (tm2 w n)) (acc:List Tm) (h:2 * n+w.length+k≤3900) :
  Lk (2 * n+w.length+1) (entR fin tm1 acc w n) (entR fin tm2 acc w n):=by
 unfold entR;refine Lk.bind (htm w n h) (fun a w1 n1 h1=>Lk.bind (want_lk (v:=2 * n+w.length) (by omega)) (fun _ w2 n2 h2=>Lk.bind ((htm w2 n2 (by omega)).mono (v':=2 * n+w.length+1) (by omega)) (fun b w3 n3 h3=>Lk.ok (by omega))))
theorem ends_lk {r1 r2:Rd (List Tm)} {last:Bool} {sort:Str} {x:Str} {kind:Int} (h:Lk (v+1) r1 r2) :
  Lk v (r1.bind fun l w n=>(restR fin first last sort w n).bind fun r w n=>(wantR fin x w n).bind fun _ w n=>.ok (Tm.mk kind 0 [] [] l r) w n)
   (r2.bind fun l w n=>(restR fin first last sort w n).bind fun r w n=>(wantR fin x w n).bind fun _ w n=>.ok (Tm.mk kind 0 [] [] l r) w n) :=
 Lk.bind h (fun l w n h1=>Lk.bind (rest_lk h1) (fun r w n h2=>Lk.bind (want_lk (v:=v) h2) (fun _ w n h=>Lk.ok h)))
theorem signed_lk {tm1 tm2:List Tok→Nat→Rd Tm} (htm:∀ w n,2 * n+w.length+k≤3900→Lk (2 * n+w.length+1) (tm1 w n) (tm2 w n)) (last:Bool) (t:Tok) (hv:v+k≤3900) (h:2 * n+w.length≤v) :
  Lk v (signedR fin first tm1 last t w n) (signedR fin first tm2 last t w n):=by
 unfold signedR;refine Lk.ite (fun _=>?_) (fun _=>Lk.ite (fun _=>?_) (fun _=>Lk.ite (fun _=>ends_lk (Lk.ite (fun _=>Lk.ok (by omega)) (fun _=>?_))) (fun _=>Lk.ite (fun _=>ends_lk (Lk.ite (fun _=>Lk.ok (by omega)) (fun _=>?_))) (fun _=>Lk.ok h))))
 ·cases w with
  | nil=>exact Lk.bad _
  | cons u w=>simp only[gC1] at h ⊢;exact Lk.ite (fun _=>Lk.ok (by omega)) (fun _=>Lk.bad _)
 ·cases w with
  | nil=>exact Lk.bad _
  | cons u w=>simp only[gC1] at h ⊢;exact Lk.ite (fun _=>Lk.ok (by omega)) (fun _=>Lk.bad _)
 ·unfold listR;exact loop_lk (B:=3900-k) (fun a w n h3=>Lk.bind (htm w n (by omega)) (fun _ w n h=>Lk.ok h)) _ _ w n v (by omega) h
 ·exact loop_lk (B:=3900-k) (fun a w n h3=>ent_lk htm a (by omega)) _ _ w n v (by omega) h
theorem term_lk:∀ (k:Nat) (w:List Tok) (n:Nat),2 * n+w.length+k≤3900→Lk (2 * n+w.length+1) (termR true fin first k w n) (termR false fin first k w n)
 | k,[],n,_=>by cases k<;>exact Lk.bad _
 | 0,t::w,n,_=>by simp only[termR];exact Lk.ite (fun _=>Lk.bad _) (fun _=>Lk.bad _)
 | k+1,t::w,n,h=>by
  have ih:=term_lk k;simp only[gC1] at h;simp only[termR,gC1];refine Lk.ite (fun _=>Lk.bind (node_lk (v:=2 * n+(w.length+1)+1) (by omega)) (fun _ w1 n1 h1=>?_)) (fun _=>Lk.bad _);refine Lk.ite (fun _=>Lk.ok h1) (fun _=>Lk.ite (fun _=>Lk.ok h1) (fun _=>Lk.ite (fun _=>?_) (fun _=>?_)))
  ·exact named_lk ih t (by omega) h1
  ·exact signed_lk ih _ t (by omega) h1
theorem whole_lk (h:w.length≤3001):wholeR true fin w n=wholeR false fin w n:=by
 cases w with
 | nil=>rfl
 | cons t w =>
  simp only[wholeR];rw[(term_lk (fin:=fin) (first:=t) 60 (t::w) 0 (by omega)).1]
theorem termB_eq (x:Str) (hx:x.length≤3000):termB x=termS x:=by
 unfold termB termS;rw[if_neg (by omega)];cases hl:lexS signsW true x with
 | bad f=>rfl
 | ok T =>
  obtain ⟨hlen,hW⟩:=lexS_w hl;simp only;have hfin:(finS x).code≠0:=(show (12:Int)≠0 by decide);have hN:x.length+1≤4294967296:=by omega
  have hlk:=whole_lk (fin:=finS x) (w:=T) (n:=0) (by omega);have h0:At (⟨0,Nat.zero_le _,Fault.none,0,0,false⟩:RQ T) 0 T 0:=⟨rfl,rfl,rfl,rfl,rfl,by omega⟩
  have hs:(wholeR true (finS x) T 0).to (fun a w _=>(wholeF (finS x) (⟨0,Nat.zero_le _,Fault.none,0,0,false⟩:RQ T)).1=a∧∃ m,At (wholeF (finS x) (⟨0,Nat.zero_le _,Fault.none,0,0,false⟩:RQ T)).2 0 w m)
    (fun f=>(wholeF (finS x) (⟨0,Nat.zero_le _,Fault.none,0,0,false⟩:RQ T)).2.f=f∧(wholeF (finS x) (⟨0,Nat.zero_le _,Fault.none,0,0,false⟩:RQ T)).2.ok=false):=by
   unfold wholeF;cases T with
   | nil =>
    simp only[wholeR];unfold termF;have hb:=begins_nil h0;rw[hb,if_neg (by decide)];exact fail_at (fin:=finS x) h0 11 (by decide) hfin
   | cons t w =>
    have:=(term_sim (fin:=finS x) (fi:=0) (first:=t) hW hN hfin rfl 60 (Nat.le_refl _) _ _ _ h0).1;simp only[wholeR];cases hr:termR true (finS x) t 60 (t::w) 0 with
    | bad f=>rw[hr] at this;exact this
    | ok a w2 n2=>rw[hr] at this;exact ⟨this.1,n2,this.2⟩
  rw[hlk] at hs;generalize wholeF (finS x) (⟨0,Nat.zero_le _,Fault.none,0,0,false⟩:RQ T)=p at hs ⊢;cases hr:wholeR false (finS x) T 0 with
  | bad f =>
   rw[hr] at hs;obtain ⟨h1,h2⟩:=hs;simp only[h2,Bool.false_and,gD7,if_false,h1]
  | ok a w n =>
   rw[hr] at hs;obtain ⟨h1,m,h2⟩:=hs;cases w with
   | nil =>
    simp only[h2.ok,decide_eq_false (at_nil h2),Bool.and_false,gD7,if_false,if_true,h1]
   | cons t w =>
    obtain ⟨h3,h4⟩:=fail_at (fin:=finS x) h2 11 (by decide) hfin;simp only[h2.ok,decide_eq_true (at_tok h2).1,Bool.and_self,if_true,h4,gD7,if_false,h3]
end
end Go.AV
end
section
namespace Go.AV
open Go Go.Proofs
section
variable {s:St} {KV Kp:St→A→Prop}
theorem long13_den4 (x:Str) (hk:KV s (.bool (decide (3000<x.length)))):Den cx 13 [.str x] KV Kp s:=by
 have d0:decide ((3000:Int)<((x.length:Nat):Int))=decide (3000<x.length):=by congr 1;apply propext;omega
 refine Den.drop ?_;(refine Den.of_body (C:=cx) Tryz.func13 rfl rfl (gC6 rfl) ?_;refine wpC_ok (V:=[0,2]) _ _ _ _ ?_;simp only[go_sem,Tryz.ntmps13,Tryz.f13]);simp only[go_sem,d0];exact DK.here hk
theorem terms_den (x:Str) (hk:KV s (.bool true)):Den cx 4 [.str x] KV Kp s:=by
 refine Den.drop ?_;(refine Den.of_body (C:=cx) Tryz.func4 rfl rfl (gC6 rfl) ?_;refine wpC_ok (V:=[0,2,3,4,5,6,8]) _ _ _ _ ?_;simp only[go_sem,Tryz.ntmps4,Tryz.f4]);refine long13_den4 x ?_;simp only[go_sem];by_cases hx:3000<x.length
 ·have d1:decide (3000<x.length)=true:=decide_eq_true hx;simp only[go_sem,d1];refine awake_den _ _ _ ?_;simp only[go_sem];exact DK.here hk
 have d1:decide (3000<x.length)=false:=decide_eq_false hx;simp only[go_sem,d1];refine tterm_den x (by omega) ?_;have h20:=term19_den (KV:=KV) (Kp:=Kp) (s:=s) x (by omega);rw[termB_eq x (by omega)] at h20;simp only[go_sem,Tm.enc_eq];(intro b3 hb3;try simp only[gA5,gA6,gD6,ne_eq] at hb3);simp only[go_sem,hb3];(intro b4 hb4;try simp only[gA5,gA6,gD6,ne_eq] at hb4);simp only[go_sem,hb3,hb4];refine term19_den x (by omega) ?_;rw[termB_eq x (by omega)];generalize (termS x).1=a at *;generalize (termS x).2=f at *;simp only[go_sem,hb3,hb4,Tm.enc_eq];(intro b5 hb5;try simp only[gA5,gA6,gD6,ne_eq] at hb5);simp only[go_sem,hb3,hb4,hb5];(intro b6 hb6;try simp only[gA5,gA6,gD6,ne_eq] at hb6);simp only[go_sem,hb3,hb4,hb5,hb6];refine same20_den' a a _ _ _ ?_;rw[Tm.same_self];simp only[go_sem,hb3,hb4,hb5,hb6,List.lookup,eq_self,decide_true,Bool.and_self];refine awake_den _ _ _ ?_;simp only[go_sem,hb3,hb4,hb5,hb6];exact DK.st hk (by (refine gel_ge ?_;repeat (first|exact gel_refl _ _ _|refine gel_gs_gs ?_|refine gel_to_gs gs_self ?_|refine gB1 ?_|refine gB2 ?_|refine gel_set (by simp only[gA1,gA2,gA3,gA6,ne_eq,gA9,reduceIte,hb3,hb4,hb5,hb6]<;>(first|done|rfl|assumption)) ?_|refine gB3 ?_|refine gel_new (by first|simp only[hb3,hb4,hb5,hb6]|assumption) ?_)))
end
end Go.AV
end
section
namespace Go.Proofs.YtamikhobdffnfaaGreatDoor
open Go Go.AV Go.ChangeShapes Go.WideShapes Go.ChangeAt Go.RowKit
open Go.ChangeMaps (open_string shut_string)
theorem own:ownKnob Tryz.prog.godebug=none:=by kernel_rfl
theorem str_rz {g:Gh} (S:ByteArray):Rz g (.str S.data.toList) (.string S):=by
 have h:=Rz.str (g:=g) S.data.toList;have e:(⟨S.data.toList.toArray⟩:ByteArray)=S:=by cases S;simp
 rw[e] at h;exact h
theorem terms_contract (H:Type) (enc:TypeId × Value→H) (W:World) (base:Nat) (args:Array Value) (ds gs:List (DataW H)) (before:List MemPlace)
  (hval:∀ (j:Nat) t v,Tryz.f4.params[j]?=some t→args[j]?=some v→Value.okWide Tryz.prog W .any base t v)
  (hW:DataW.Whole enc Tryz.prog Tryz.f4.params.toList Rows.defTermsSpec.vars false W args.toList ds gs before) (hL:laidMetH Tryz.prog Rows.defTermsRow.laid W) :
  Calls Tryz.prog 4 args W fun e W'=>∃ v,e=.returned v∧Rows.defTermsSpec.post enc Tryz.prog Tryz.f4 false true false false W args v W':=by
 have hW':=hW;obtain ⟨p,q,hA0,hV,rfl,hfz,hnd⟩:=hW;have hA:DataW.TrodAll enc Tryz.prog W 0 (fun _=>true) true Tryz.f4.params.toList args.toList ds p:=hA0;rw[Tryz.params4] at hA hval;obtain ⟨v0,d0,rfl,rfl,h0⟩:=trodAll_one hA;obtain ⟨rfl,rfl⟩:=trodVars_none hV;obtain ⟨S,rfl,rfl,rfl,hS⟩:=open_string Tryz.underlying9 (hval 0 9 v0 rfl rfl) h0;clear hA0;simp only[List.append_nil] at hW'
 have hc:=seat_calls (f:=4) (args:=[.str S.data.toList]) (vals:=[.string S]) (W:=W) (p:=fun _=>none) (l:=Rows.defTermsRow.laid) Tryz.func4 rfl rfl hL
  (.tail _ (.tail _ (.tail _ (.tail _ (.tail _ (.tail _ (.tail _ (.head _)))))))) (.tail _ (.tail _ (.head _))) (fun b pre h=>by cases h)
  (.cons (str_rz S) (.nil _)) (terms_den _ rfl)
 refine hc.mono fun e W' ⟨he,hos,hout,hb⟩=>?_
 subst he;have e1:Rows.defTermsSpec.fn H ([DataW.lit (.string S.data.toList)]++[])={ results:=[.lit (.bool true)],args:=[.lit (.string S.data.toList)] }:=rfl;refine ⟨_,rfl,_,_,_,[],[],[],hW',?_,?_,?_,kept_of hos hout hb,fun h=>by cases h⟩
 ·rw[e1];exact trodAll_mk1 (shut_bool Tryz.underlying4 true)
 ·rw[e1];exact trodAll_mk1 (shut_string Tryz.underlying9 hS)
 ·rw[e1];rfl
theorem terms_reads (os:Os) {H:Type} (enc:TypeId × Value→H) :
  ∃ places,DataW.whole enc Tryz.prog ((laidWorld os).forCall (fun _ _=>0) ⟨#[],#[.string ⟨#[]⟩],[]⟩).memory Tryz.f4.params.toList (OpenSpec.ofChange Rows.defTermsSpec).vars false #[Value.string ⟨#[]⟩].toList 8 =
   some ([.lit (.string [])],[],places) :=
 ⟨[],by kernel_rfl⟩
theorem terms_lifted (os:Os) (started:os.Started) (H:Type) (enc:TypeId × Value→H) (F:Stop.Interp) :
  ReturnsInHanded {} Tryz.checked os 4 .any ((OpenSpec.ofChange Rows.defTermsSpec).preRow enc Tryz.prog Tryz.f4 Rows.defTermsRow.domain false Rows.defTermsRow.laid) (((OpenSpec.ofChange Rows.defTermsSpec).at F).post enc Tryz.prog Tryz.f4 false true false false):=by
 obtain ⟨places,hx⟩:=terms_reads os enc
 refine returnsInHanded_of_row (C:=Tryz.checked) (s:=OpenSpec.ofChange Rows.defTermsSpec) own started (by kernel_rfl) Tryz.func4
  (witness_row_atRef (enc := enc) (C := Tryz.checked) false (laidWorld os) #[.string ⟨#[]⟩] rfl (by kernel_rfl) (by kernel_rfl) (by kernel_rfl)
   (OpenSpec.preRow_of_cond 8 hx (by kernel_rfl) (fun k hk=>by cases hk) (by kernel_rfl) (laid_met os _))) ?_
 intro W base args ds gs before hval hW _ _ _ hL _ _;exact terms_contract H enc W base args ds gs before hval hW hL
theorem terms_said:Rows.DefTermsSaid :=
 OpenClaim.holds_of_cond 4 Tryz.f4 rfl rfl rfl rfl rfl rfl rfl ⟨rfl,rfl,rfl,rfl,rfl⟩ rfl rfl rfl rfl rfl terms_named Tryz.func4 terms_closed
  (of_decide_eq_true (by kernel_rfl)) (by unfold Func.isWrapper;rw[if_neg (of_decide_eq_false (by kernel_rfl))];exact ⟨rfl,rfl⟩)
  (fun os started H enc _ F=>by rw[OpenClaim.pre_eq_preRow];exact terms_lifted os started H enc F)
theorem terms_plain (f:FuncId) (fn:Func) (hf:Tryz.pinned.checked.prog.funcNamed Rows.defTermsRow.func=some f) (hfn:Tryz.pinned.checked.prog.funcs[f]?=some fn) :
  true=Tryz.pinned.checked.prog.looks []∧∀ (j:Nat) t,fn.params[j]?=some t→Tryz.pinned.checked.prog.wantsStandIn t=false:=by
 obtain rfl:f=4:=Option.some.inj (terms_named.symm.trans hf) |>.symm
 obtain rfl:fn=Tryz.f4:=(Option.some.inj (Tryz.func4.symm.trans hfn)).symm;refine ⟨terms_looks,fun j t ht=>?_⟩;rw[Tryz.params4] at ht;obtain rfl:t=9:=by simpa using Array.mem_of_getElem? ht
 exact (show Tryz.prog.wantsStandIn 9=false by kernel_rfl)
theorem defTerms_holds:Rows.DefTermsCardSaid :=
 Claim7.holds_tied_plain_at .later [] _ _ _ _ terms_said (fun _ h=>by cases h) terms_wf (fun _ h=>by cases h) defTerms_row_tie rfl ⟨rfl,rfl⟩ terms_main rfl terms_plain terms_goes
#print axioms defTerms_holds
end Go.Proofs.YtamikhobdffnfaaGreatDoor
end
