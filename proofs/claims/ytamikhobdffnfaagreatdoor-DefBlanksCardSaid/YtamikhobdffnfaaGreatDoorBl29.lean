/-
  Part of the proof of DefBlanks.
-/
import Derived.Test.YtamikhobdffnfaaGreatDoorBl28
import Derived.Test.YtamikhobdffnfaaGreatDoorBl15
import Derived.Test.YtamikhobdffnfaaGreatDoorBl21
import Derived.Test.YtamikhobdffnfaaGreatDoorBl16
import Derived.KernelRfl
set_option linter.all false
set_option maxRecDepth 1000000
set_option maxHeartbeats 40000000
section
namespace Go.AV
open Go Go.Proofs
section
variable {s:St} {KV Kp:St→A→Prop} {r:Nat} {w:Str} {i l c:Nat} {sg:A} {tk:Option Nat} {acc:List Tok} {f:Fault}
theorem ctS_getO':(ctS s r w i l c sg tk acc f).getO r=some (ctO w i l c sg (gv tk (acc.map Tok.enc)) f):=by
 unfold ctS;rw[gA6,gA1,if_pos rfl]
theorem ctS_set (i' l' c':Nat):((ctS s r w i l c sg tk acc f).setO r (ctO w i' l' c' sg (gv tk (acc.map Tok.enc)) f)).ge (ctS s r w i' l' c' sg tk acc f):=by
 unfold ctS;cases tk with
 | none =>
  refine ⟨fun d x hx=>?_,fun u m hm=>hm,fun x hx=>hx⟩;simp only[gs] at hx ⊢;rw[gA1] at hx ⊢;split
  ·rename_i e;rw[if_pos e] at hx;exact hx
  ·rename_i e;rw[if_neg e] at hx;rw[gA1,if_neg e];exact hx
 | some u =>
  refine ⟨fun d x hx=>?_,fun u m hm=>hm,fun x hx=>hx⟩;simp only[gs] at hx ⊢;rw[gA3,gA1] at hx;rw[gA1,gA3,gA1];split
  ·rename_i e;rw[if_pos e] at hx;exact hx
  ·rename_i e;rw[if_neg e] at hx;exact hx
theorem skip_ct (hx:w.length≤4294967280) (hi:i≤w.length) (hl:l≤i+1) (hc:c≤i+1)
  (hk:KV (ctS s r w (i+blks (w.drop i)) (adv (l,c) ((w.drop i).take (blks (w.drop i)))).1 (adv (l,c) ((w.drop i).take (blks (w.drop i)))).2 sg tk acc f) (.tuple [])) :
  Den cx 104 [.ptr r 0] KV Kp (ctS s r w i l c sg tk acc f):=by
 refine Den.drop ?_;refine skip104_den ctS_getO' hx hi hl hc ?_;exact DK.st hk (ctS_set _ _ _)
theorem ctS_other {q:Nat} (h:¬ r=q):(ctS s r w i l c sg tk acc f).getO q=s.getO q:=by
 unfold ctS;rw[gA6,gA1,if_neg h]
end
section
variable {s:St} {KV Kp:St→A→Prop}
theorem cut75_den (x:Str) (tk2:Option Nat) (hx:x.length≤4294967280)
  (hk:if 20000<x.length then KV s (.tuple [.list none [],Fault.enc ⟨3,[],0,0⟩]) else (lexS signsW true x).out KV s) :
  Den cx 75 [.str x,.list tk2 (signsR.map .str)] KV Kp s:=by
 refine Den.drop ?_;(refine Den.of_body (C:=cx) Tryz.func75 rfl rfl (gC6 rfl) ?_;refine wpC_ok (V:=[0,1,4,5,6,9,31,41]) _ _ _ _ ?_;simp only[go_sem,Tryz.ntmps75,Tryz.f75]);(intro b1 hb1;try simp only[gA5,gA6,gD6,ne_eq] at hb1);simp only[go_sem,hb1];have d0:decide ((20000:Int)<((x.length:Nat):Int))=decide (20000<x.length):=by congr 1;apply propext;omega
 by_cases h20:20000<x.length
 ·rw[if_pos h20] at hk;have d1:decide (20000<x.length)=true:=decide_eq_true h20;simp only[go_sem,hb1,d0,d1];exact DK.mk hk (St.ge_new hb1) (A.le.tuple ⟨A.le.nil,A.le.refl _,trivial⟩)
 rw[if_neg h20] at hk;have d1:decide (20000<x.length)=false:=decide_eq_false h20;simp only[go_sem,hb1,d0,d1];(intro b2 hb2;try simp only[gA5,gA6,gD6,ne_eq] at hb2);simp only[go_sem,hb1,hb2];have hb0:=blks_le x.length x;change blks x≤x.length at hb0;have hge1:(s.setO b1 (.cells 36 [.int .i64 0,.str [],.int .i64 0,.int .i64 0])).ge s:=St.ge_new hb1;have hS0:(s.setO b1 (.cells 36 [.int .i64 0,.str [],.int .i64 0,.int .i64 0])).getO b1=some (.cells 36 [.int .i64 0,.str [],.int .i64 0,.int .i64 0]):=by rw[gA1,if_pos rfl]
 have hST:∀ u,(s.setO b1 (.cells 36 [.int .i64 0,.str [],.int .i64 0,.int .i64 0])).getT u=s.getT u:=fun u=>rfl
 have hS2:(s.setO b1 (.cells 36 [.int .i64 0,.str [],.int .i64 0,.int .i64 0])).getO b2=none:=by rw[gA1,if_neg hb2.1.1];exact hb2.2
 have hne:¬ b1=b2∧¬ b2=b1:=hb2.1;have hb2:s.getO b2=none:=hb2.2;generalize (s.setO b1 (.cells 36 [.int .i64 0,.str [],.int .i64 0,.int .i64 0]))=S at hge1 hS0 hST hS2 ⊢;change Den cx 104 [.ptr b2 0] _ _ (ctS S b2 x 0 1 1 (.list tk2 (signsR.map .str)) none [] Fault.none);refine skip_ct hx (Nat.zero_le _) (by omega) (by omega) ?_;simp only[go_sem,hb1,hb2]
 refine Ex.loop (ι:=Nat × (Nat × Nat) × List Tok × Option Nat × Fault) (fun z=>[(0,.str x),(4,.nils),(5,.ptr b1 0),(6,.ptr b2 0)])
  (fun z=>ctS S b2 x z.1 z.2.1.1 z.2.1.2 (.list tk2 (signsR.map .str)) z.2.2.2.1 z.2.2.1 z.2.2.2.2)
  (fun z => z.1 ≤ x.length ∧ z.2.1.1 ≤ z.1 + 1 ∧ z.2.1.2 ≤ z.1 + 1 ∧ (z.2.2.2.1 = none → z.2.2.1 = []) ∧ (∀ t,z.2.2.2.1 = some t → S.getT t = none) ∧ z.2.2.1.length ≤ z.1 ∧
   ((z.2.2.2.2=Fault.none∧∃ f,x.length-z.1≤f∧lexS signsW true x=lexA signsW true f (x.drop z.1) z.2.1 z.2.2.1)∨(z.2.2.2.2.code=10∧lexS signsW true x=.bad z.2.2.2.2))) (fun z=>if z.2.2.2.2.code=10 then 0 else x.length+1-z.1)
  (blks x,adv (1,1) (x.take (blks x)),[],none,Fault.none) ?_ ?_ ?_ ?_
 ·have:=adv_le (x.take (blks x)) (1,1) 0 (by omega) (by omega);rw[List.length_take] at this;exact ⟨hb0,by simp only;omega,by simp only;omega,fun _=>rfl,fun t h=>(by cases h),Nat.zero_le _,.inl ⟨rfl,x.length,by simp only;omega,rfl⟩⟩
 ·simp only[go_sem,hb1,hb2]
  try rfl
 ·simp only[List.drop_zero,Nat.zero_add]
  try exact St.ge.refl _
 rintro ⟨a,⟨l,c⟩,acc,tk,F⟩ ⟨ha,hl,hc,hn,hf,hla,hF⟩;simp only at ha hl hc hn hf hla hF;refine wpC_ok (V:=[0,1,4,5,6,9,31,41]) _ _ _ _ ?_
 have fin:∀ (a l c:Nat) (tk:Option Nat) (acc:List Tok) (F:Fault) (o:Ob),(∀ t,tk=some t→S.getT t=none)→((ctS S b2 x a l c (.list tk2 (signsR.map .str)) tk acc F).setO b1 o).ge s:=by
  intro a l c tk acc F o hf;refine ⟨fun d y hy=>?_,fun u m hm=>?_,fun y hy=>?_⟩
  ·have n1:¬ b1=d:=by rintro rfl;rw[hb1] at hy;cases hy
   have n2:¬ b2=d:=by rintro rfl;rw[hb2] at hy;cases hy
   rw[gA1,if_neg n1,ctS_other n2];exact hge1.ob d y hy
  ·have h1:=hge1.tk u m hm;unfold ctS;cases tk with
   | none=>exact h1
   | some t =>
    have n1:¬ t=u:=by rintro rfl;rw[hf t rfl] at h1;cases h1
    simp only[gs];show (St.setT _ t _).getT u=some m;rw[gA4,if_neg n1];exact h1
  ·have h1:=hge1.ls y hy;unfold ctS;cases tk<;>exact h1
 have hrr:∀ a l c tk acc F,(ctS S b2 x a l c (.list tk2 (signsR.map .str)) tk acc F).getO b2=some (ctO x a l c (.list tk2 (signsR.map .str)) (gv tk (acc.map Tok.enc)) F):=fun _ _ _ _ _ _=>ctS_getO'
 have hr1:∀ a l c tk acc F,(ctS S b2 x a l c (.list tk2 (signsR.map .str)) tk acc F).getO b1=some (.cells 36 [.int .i64 0,.str [],.int .i64 0,.int .i64 0]):=fun _ _ _ _ _ _=>by rw[ctS_other hne.2];exact hS0
 simp only[go_sem,hrr,hr1,hne];by_cases hlt:a<x.length
 ·have d2:decide (a<x.length)=true:=decide_eq_true hlt;rcases hF with ⟨rfl,f,hff,hlex⟩|⟨hF1,hF2⟩
  ·have d3:decide (Fault.none.code=0)=true:=rfl;simp only[go_sem,hrr,hr1,hne,d2,d3];obtain ⟨b,v,hw⟩:∃ b v,x.drop a=b::v:=⟨_,_,List.drop_eq_getElem_cons hlt⟩
   obtain ⟨f,rfl⟩:∃ f',f=f'+1:=⟨f-1,by omega⟩
   refine token105_den tk2 hlt hn hf (by omega) hx hl hc ?_;rw[hw] at hlex ⊢;simp only[lexA] at hlex;have hwl:x.length-a=(b::v).length:=by rw[← hw,gD4]
   rcases htok:tokOf (b::v) signsW true with ⟨⟨tkd,ttx,tn,tl,tc⟩,n,ok⟩
   rw[htok] at hlex;cases ok with
   | false =>
    simp only at hlex;simp only[Cut1];simp only[go_sem,hrr,hr1,hne];have hbk:blks (x.drop a)≤(x.drop a).length:=blks_le _ _;rw[gD4] at hbk;refine skip_ct hx ha hl hc ?_;simp only[go_sem,hrr,hr1,hne];have hal:=adv_le ((x.drop a).take (blks (x.drop a))) (l,c) a hl hc;rw[List.length_take,gD4,Nat.min_eq_left hbk] at hal;refine ⟨(a+blks (x.drop a),adv (l,c) ((x.drop a).take (blks (x.drop a))),acc,tk,⟨10,(x.drop a).take 1,l,c⟩),⟨?_,?_,?_,hn,hf,?_,.inr ⟨rfl,?_⟩⟩,?_,?_⟩
    ·simp only;omega
    ·simp only;omega
    ·simp only;omega
    ·simp only;omega
    ·rw[hlex,hw];rfl
    ·simp only[reduceIte];have nz:¬ Fault.none.code=10:=by decide
     simp only[nz,if_false];omega
    ·exact St.ge.refl _
   | true =>
    simp only at hlex;obtain ⟨hn1,hn2⟩:=tokOf_len htok;simp only[Cut1];intro u hu;simp only[go_sem,hrr,hr1,hne];have hal:=adv_le ((b::v).take n) (l,c) a hl hc;rw[List.length_take,Nat.min_eq_left hn2] at hal;have hdd:x.drop (a+n)=(b::v).drop n:=by rw[← List.drop_drop,hw]
    have hblk:=blks_le ((b::v).drop n).length ((b::v).drop n);change blks ((b::v).drop n)≤_ at hblk;rw[gD4] at hblk;rw[hw];refine skip_ct hx (by omega) (by omega) (by omega) ?_;simp only[go_sem,hrr,hr1,hne];rw[hdd];have hal2:=adv_le (((b::v).drop n).take (blks ((b::v).drop n))) (adv (l,c) ((b::v).take n)) (a+n) (by omega) (by omega);rw[List.length_take,gD4,Nat.min_eq_left hblk] at hal2;refine ⟨(a+n+blks ((b::v).drop n),adv (adv (l,c) ((b::v).take n)) (((b::v).drop n).take (blks ((b::v).drop n))),acc++[⟨tkd,ttx,tn,l,c⟩],some u,Fault.none),⟨?_,?_,?_,?_,?_,?_,.inl ⟨rfl,f,?_,?_⟩⟩,?_,?_⟩
    ·simp only;omega
    ·simp only;omega
    ·simp only;omega
    ·intro h;cases h
    ·intro y hy;cases hy;exact hu
    ·simp only[gC2,gC1,gC3];omega
    ·simp only;omega
    ·simp only[hlex];congr 1;rw[← List.drop_drop,hdd]
    ·have nz:¬ Fault.none.code=10:=by decide
     simp only[nz,if_false];omega
    ·exact St.ge.refl _
  ·have d3:decide (F.code=0)=false:=decide_eq_false (by omega);simp only[go_sem,hrr,hr1,hne,d2,d3];(refine draw_ok (V:=[0,1,4,5,6,9,31,41]) (OT.l [0,1,2,3,4,5] .nil) [] mixed_cx (by decide +kernel) ?_;simp only[go_sem,hrr,hr1,hne,d2,d3]);rw[hF2] at hk;refine DK.mk hk ?_ (A.le.tuple ⟨A.le.nil,A.le.refl _,trivial⟩);exact fin _ _ _ _ _ _ _ hf
 ·have d2:decide (a<x.length)=false:=decide_eq_false hlt;rcases hF with ⟨rfl,f,hff,hlex⟩|⟨hF1,hF2⟩
  ·have d3:decide (Fault.none.code=0)=true:=rfl;simp only[go_sem,hrr,hr1,hne,d2,d3]
   have hlx:lexS signsW true x=.ok acc:=by
    rw[hlex,List.drop_eq_nil_of_le (by omega)];cases f<;>rfl
   rw[hlx] at hk;refine DK.mk hk ?_ (A.le.tuple ⟨gv_le tk _ (fun e=>by rw[hn e];rfl),A.le.refl _,trivial⟩);exact fin _ _ _ _ _ _ _ hf
  ·have d3:decide (F.code=0)=false:=decide_eq_false (by omega);simp only[go_sem,hrr,hr1,hne,d2,d3];(refine draw_ok (V:=[0,1,4,5,6,9,31,41]) (OT.l [0,1,2,3,4,5] .nil) [] mixed_cx (by decide +kernel) ?_;simp only[go_sem,hrr,hr1,hne,d2,d3]);rw[hF2] at hk;refine DK.mk hk ?_ (A.le.tuple ⟨A.le.nil,A.le.refl _,trivial⟩);exact fin _ _ _ _ _ _ _ hf
end
end Go.AV
end
section
namespace Go.AV
open Go Go.Proofs
section
variable {s:St} {KV Kp:St→A→Prop}
theorem defs76_den (hk:∀ t,s.getT t=none→KV (s.setT t (18,9)) (.list (some t) (signsW.map .str))):Den cx 76 [] KV Kp s:=by
 (refine Den.drop ?_;refine den_cxo ?_;refine Den.of_body (C:=cxo) Tryz.func76 rfl rfl (gC6 rfl) ?_;refine wpC_ok (V:=[0]) _ _ _ _ ?_;simp only[go_sem,Tryz.ntmps76,Tryz.f76]);exact .inr fun k h=>DK.here (hk k h)
def Lx.ref (KV:St→A→Prop) (x:Str) (s:St):Prop:=if 20000<x.length then KV s (.tuple [.list none [],Fault.enc ⟨3,[],0,0⟩]) else (lexS signsW true x).out KV s
theorem def31_den (x:Str) (hx:x.length≤4294967280) (hk:Lx.ref KV x s):Den cx 31 [.str x] KV Kp s:=by
 unfold Lx.ref at hk;(refine Den.drop ?_;refine den_cxo ?_;refine Den.of_body (C:=cxo) Tryz.func31 rfl rfl (gC6 rfl) ?_;refine wpC_ok (V:=[0,2,3]) _ _ _ _ ?_;simp only[go_sem,Tryz.ntmps31,Tryz.f31]);(intro b1 hb1;try simp only[gA5,gA6,gD6,ne_eq] at hb1);simp only[go_sem,hb1];refine to_cxo ?_;refine defs76_den fun t ht=>?_
 simp only[go_sem,hb1];refine .inl ⟨by decide,fun y hy=>?_,rfl,fun y hy=>?_,by decide,?_⟩
 ·simp only[gC5,List.mem_nil_iff,or_false] at hy;rcases hy with rfl|rfl<;>rfl
 ·simp only[List.mem_map] at hy;obtain ⟨z,_,rfl⟩:=hy;rfl
 refine to_cxo ?_;refine cut75_den (tk2:=some t) x hx ?_;have fin:∀ o,(((s.setO b1 o).setT t (18,9)).setT t (signsW.length+2,9)).ge s:=fun o=>gel_ge (gel_newT ht (gel_newT ht (gel_new hb1 (gel_refl _ _ _))))
 by_cases h20:20000<x.length
 ·rw[if_pos h20] at hk ⊢;simp only[go_sem,hb1];exact DK.mk hk (fin _) (A.le.refl _)
 ·rw[if_neg h20] at hk ⊢;cases hlx:lexS signsW true x with
  | ok l =>
   rw[hlx] at hk;simp only[Lx.out] at hk ⊢;simp only[go_sem,hb1];exact DK.mk hk (fin _) (A.le.refl _)
  | bad f =>
   rw[hlx] at hk;simp only[Lx.out] at hk ⊢;simp only[go_sem,hb1];exact DK.mk hk (fin _) (A.le.refl _)
end
end Go.AV
end
section
namespace Go.AV
open Go
section
variable {α β σ:Type} {fin:Fault} {z:List Tok}
def Soft (fin f:Fault):Prop:=f=fin∨f.code=3
def Rd.same (fin:Fault) (z:List Tok):Rd α→Rd α→Prop
 | .bad f,r2=>Soft fin f∨(f.code≠10∧r2=.bad f)
 | .ok a w n,r2=>w=[]∨r2=.ok a (w++z) n
end
section
variable {α σ:Type} {f1 f2:Fault} {z:List Tok}
end
end Go.AV
end
section
namespace Go.AV
open Go
end Go.AV
end
section
namespace Go.AV
open Go Go.Proofs
theorem cxd_cx:({ cxd with det:=false }:Cx)=cx:=rfl
theorem to_cxd {f:FuncId} {args:List A} {a:A} (hargs:∀ x,x∈args→x.lp x) (ha:a.lp a) (h:∀ KV Kp s,KV s a→Den cx f args KV Kp s) {KV Kp:St→A→Prop} {s:St} (hk:KV s a):Den cxd f args KV Kp s:=by
 refine Den.restart (C:=cxd) false (Q:=fun _ r=>r=a) glS_lp hargs (fun F1 g2 s2 w2 r v hR hv hq=>?_) ?_ hk
 ·subst hq;exact ⟨g2.pi,hR.pis,fun b _=>rfl,fun g' hg=>ha g2 g' v hg hv⟩
 ·rw[cxd_cx];exact h _ _ _ rfl
theorem str_lp (x:List UInt8):(A.str x).lp (.str x):=frz_ok 1 _ _ rfl
theorem bool_lp (x:Bool):(A.bool x).lp (.bool x):=frz_ok 1 _ _ rfl
def extW (W:List (List UInt8)) (l:List A) (σ:XS):CR:=match l with
 | [.str x]=>.val (.bool (decide (x∈W))) σ
 | _=>.bad
def extB (f:FuncId):Option (List A→XS→CR):=match Nat.beq f 145 with
 | true=>some (extW reservedW)
 | false=>match Nat.beq f 107 with
  | true=>some (extW builtInW)
  | false=>extS f
theorem extW_ok {f:FuncId} {W:List (List UInt8)} (h:∀ (s:St) (x:List UInt8) (KV Kp:St→A→Prop),KV s (.bool (decide (x∈W)))→Den cx f [.str x] KV Kp s)
  (l:List A) (σ:XS) (s:St) (KV Kp:St→A→Prop) (hs:Sim s σ) (hh:(extW W l σ).to KV Kp):Den cxd f l KV Kp s:=by
 unfold extW at hh;split at hh
 ·rename_i x;refine to_cxd (a:=.bool (decide (x∈W))) (fun y hy=>?_) (bool_lp _) (fun KV Kp s hk=>h s x KV Kp hk) (hh s hs);simp only[List.mem_singleton] at hy;subst hy;exact str_lp x
 ·exact hh.elim
theorem extB_ok:extOk cxd extB:=by
 intro f h hf l σ s KV Kp hs hh;unfold extB at hf;split at hf
 ·rename_i e;have hf':=gC7 e;cases hf;refine extW_ok (W:=reservedW) (fun s x KV Kp hk=>?_) l σ s KV Kp hs hh;rw[hf'];exact isReserved145_den s x KV Kp hk
 ·split at hf
  ·rename_i e;have hf':=gC7 e;cases hf;refine extW_ok (W:=builtInW) (fun s x KV Kp hk=>?_) l σ s KV Kp hs hh;rw[hf'];exact builtIn107_den s x KV Kp hk
  ·exact ext_ok f h hf l σ s KV Kp hs hh
end Go.AV
end
section
namespace Go.AV
open Go Go.Proofs
section
variable {s:St} {KV Kp:St→A→Prop}
theorem A.le.emp0:A.le .emp (.list none []):=fun g v h=>by
 obtain ⟨a,rfl⟩:=h.emp_inv;exact .list0 none (some a) 0 (Nat.zero_le _) (fun t e=>by cases e)
theorem clone266_den (l:List A) (h1:∀ y,y∈l→y.cells.length=1) (hl:l.length≤4294967296) (hk:KV s (.list none l)):Den cx 266 [.list none l] KV Kp s:=by
 refine Den.drop ?_;(refine Den.of_body (C:=cx) Tryz.func266 rfl rfl (gC6 rfl) ?_;refine wpC_ok (V:=[0,2,4]) _ _ _ _ ?_;simp only[go_sem,Tryz.ntmps266,Tryz.f266]);cases l with
 | nil =>
  simp only[go_sem,false_or];exact ⟨DK.mk hk (St.ge.refl _) A.le.nil,by decide,fun y hy=>(by cases hy),DK.mk hk (St.ge.refl _) A.le.emp0⟩
 | cons x r =>
  have hl2:r.length≤4294967295:=Nat.le_of_succ_le_succ hl;simp only[go_sem];refine ⟨by decide,h1,hl2,?_⟩;intro t ht;simp only[go_sem];exact DK.mk hk (St.ge_freeT ht) (gv_le (some t) (x::r) (fun e=>by cases e))
theorem clone267_den (l:List A) (h1:∀ y,y∈l→y.cells.length=2) (hl:l.length≤4294967296) (hk:KV s (.list none l)):Den cx 267 [.list none l] KV Kp s:=by
 refine Den.drop ?_;(refine Den.of_body (C:=cx) Tryz.func267 rfl rfl (gC6 rfl) ?_;refine wpC_ok (V:=[0,2,4]) _ _ _ _ ?_;simp only[go_sem,Tryz.ntmps267,Tryz.f267]);cases l with
 | nil =>
  simp only[go_sem,false_or];exact ⟨DK.mk hk (St.ge.refl _) A.le.nil,by decide,fun y hy=>(by cases hy),DK.mk hk (St.ge.refl _) A.le.emp0⟩
 | cons x r =>
  have hl2:r.length≤4294967295:=Nat.le_of_succ_le_succ hl;simp only[go_sem];refine ⟨by decide,h1,hl2,?_⟩;intro t ht;simp only[go_sem];exact DK.mk hk (St.ge_freeT ht) (gv_le (some t) (x::r) (fun e=>by cases e))
theorem clone268_den (l:List A) (h1:∀ y,y∈l→y.cells.length=1) (hl:l.length≤4294967296) (hk:KV s (.list none l)):Den cx 268 [.list none l] KV Kp s:=by
 refine Den.drop ?_;(refine Den.of_body (C:=cx) Tryz.func268 rfl rfl (gC6 rfl) ?_;refine wpC_ok (V:=[0,2,4]) _ _ _ _ ?_;simp only[go_sem,Tryz.ntmps268,Tryz.f268]);cases l with
 | nil =>
  simp only[go_sem,false_or];exact ⟨DK.mk hk (St.ge.refl _) A.le.nil,by decide,fun y hy=>(by cases hy),DK.mk hk (St.ge.refl _) A.le.emp0⟩
 | cons x r =>
  have hl2:r.length≤4294967295:=Nat.le_of_succ_le_succ hl;simp only[go_sem];refine ⟨by decide,h1,hl2,?_⟩;intro t ht;simp only[go_sem];exact DK.mk hk (St.ge_freeT ht) (gv_le (some t) (x::r) (fun e=>by cases e))
end
end Go.AV
end
section
namespace Go.AV
open Go Go.Proofs
def lensA (z:Nat):List A→Bool
 | []=>true
 | y::r=>match Nat.beq y.cells.length z with
  | true=>lensA z r
  | false=>false
theorem lensA_ok {z:Nat}:∀ {l:List A},lensA z l=true→∀ y,y∈l→y.cells.length=z
 | [],_,y,h=>by cases h
 | a::r,h,y,hy=>by
  simp only[lensA] at h;split at h
  ·rename_i e;rcases List.mem_cons.1 hy with rfl|hy
   ·exact gC7 e
   ·exact lensA_ok h y hy
  ·cases h
def extCl (z:Nat) (l:List A) (σ:XS):CR:=match l with
 | [a] => match frz 60 a with
  | some b=>match frz 60 b with
   | some (.list none es)=>match b with
    | .list none fs=>match lensA z fs,Nat.ble fs.length 4294967296 with
     | true,true=>.val (.list none es) σ
     | _,_=>.bad
    | _=>.bad
   | _=>.bad
  | none=>.bad
 | _=>.bad
def extC (f:FuncId):Option (List A→XS→CR):=match Nat.beq f 266 with
 | true=>some (extCl 1)
 | false=>match Nat.beq f 267 with
  | true=>some (extCl 2)
  | false=>match Nat.beq f 268 with
   | true=>some (extCl 1)
   | false=>extB f
theorem extCl_ok {f:FuncId} {z:Nat} (h:∀ (s:St) (l:List A) (KV Kp:St→A→Prop),(∀ y,y∈l→y.cells.length=z)→l.length≤4294967296→KV s (.list none l)→Den cx f [.list none l] KV Kp s)
  (l:List A) (σ:XS) (s:St) (KV Kp:St→A→Prop) (hs:Sim s σ) (hh:(extCl z l σ).to KV Kp):Den cxd f l KV Kp s:=by
 unfold extCl at hh;split at hh
 ·rename_i a;split at hh
  ·rename_i b hb;split at hh
   ·rename_i es hes;split at hh
    ·rename_i fs;split at hh
     ·rename_i h1 h2;refine Den.restart2 (C:=cxd) (args2:=[.list none fs]) (a':=.list none es) false (Q:=fun _ r=>r=.list none fs) glS_lp rfl (fun j x y hx hy=>?_) (fun F1 g2 s2 w2 r v hR hv hq=>?_) ?_ (hh s hs)
      ·cases j with
       | zero=>simp at hx hy;subst hx;subst hy;exact frz_ok 60 _ _ hb
       | succ j=>simp at hx
      ·subst hq;exact ⟨g2.pi,hR.pis,fun b _=>rfl,fun g' hg=>frz_ok 60 _ _ hes g2 g' v hg hv⟩
      ·rw[cxd_cx];exact h _ _ _ _ (lensA_ok h1) (gC6 h2) rfl
     ·exact hh.elim
    ·exact hh.elim
   ·exact hh.elim
  ·exact hh.elim
 ·exact hh.elim
theorem extC_ok:extOk cxd extC:=by
 intro f h hf l σ s KV Kp hs hh;unfold extC at hf;split at hf
 ·rename_i e;have hf':=gC7 e;cases hf;exact extCl_ok (z:=1) (fun s x KV Kp h1 h2 hk=>by rw[hf'];exact clone266_den x h1 h2 hk) l σ s KV Kp hs hh
 ·split at hf
  ·rename_i e;have hf':=gC7 e;cases hf;exact extCl_ok (z:=2) (fun s x KV Kp h1 h2 hk=>by rw[hf'];exact clone267_den x h1 h2 hk) l σ s KV Kp hs hh
  ·split at hf
   ·rename_i e;have hf':=gC7 e;cases hf;exact extCl_ok (z:=1) (fun s x KV Kp h1 h2 hk=>by rw[hf'];exact clone268_den x h1 h2 hk) l σ s KV Kp hs hh
   ·exact extB_ok f h hf l σ s KV Kp hs hh
theorem seat_runC {fuel:Nat} {f:FuncId} {args:List A} {KV Kp:St→A→Prop} {s:St} {a:A}
  (hargs:frzL (frz 60) args=some args) (h:outX (runX (xpS extC) fuel f args)=some a) (hk:KV s a):Den cx f args KV Kp s:=by
 have hX:(xpS extC).ok { cx with det:=true }:=xpS_ok extC_ok;exact Den.run true hX glS_lp hargs h hk
end Go.AV
end
section
namespace Go.AV
open Go Go.Proofs
def awD:Dfn:=⟨[101],⟨[[65]],[],[⟨[97],[],[65],[⟨[97],[]⟩],0,0,[]⟩],[],[]⟩,[],[⟨[99],[65],.mk 6 0 [36] [65,110,121] [] [],1,52⟩],[],[],[],[65],[99]⟩
def awT:Tm:=.mk 5 0 [102] [] [.mk 6 0 [88] [73,110,116] [] [],.mk 7 0 [] [] [.mk 1 (-1) [] [] [] []] [.mk 6 0 [76] [76,105,115,116] [] []]] []
def awOut:Str:=[108,97,110,103,117,97,103,101,32,101,46,10,115,111,114,116,32,65,46,10,111,112,32,97,32,58,32,34,97,34,32,45,62,32,65]++[46,10,99,101,108,108,32,99,32,58,32,65,32,61,32,36,46,10,115,116,97,114,116,32,65,46,10,119,97,116,99,104,32,99,46,10]
def awR:List A:=[.str [101],.list none [.str [65]],.nils,.list none [.agg [.str [98],.nils,.str [65],.list none [.agg [.str [97],.str []]],.int .i64 0,.int .i64 0,.list none []]],.nils,.nils,.nils,
 .list none [.agg [.str [99],.str [65],.int .i64 6,.int .i64 0,.str [36],.str [65,110,121],.nils,.nils,.int .i64 1,.int .i64 52]],.str [],.nils,.nils,.str [65],.str [99]]
def awZ:List A:=[.str [],.nils,.nils,.nils,.nils,.nils,.nils,.nils,.str [],.nils,.nils,.str [],.str []]
end Go.AV
end
section
namespace Go.AV
open Go
def awS:Str:=[108,97,110,103,117,97,103,101,32,101,46,32,115,111,114,116,32,65,46,32,111,112,32,97,32,58,32,34,97,34,32,45,62,32,65]++[46,32,115,116,97,114,116,32,65,46,32,99,101,108,108,32,99,32,58,32,65,32,61,32,36,46,32,119,97,116,99,104,32,99,46]
theorem aw_1:parseS awS=(awD,⟨0,[],0,0⟩):=by kernel_rfl
theorem aw_2:parseS [108,97,110,103,117,97,103,101,32,101,46,32,115,111,114,116]=(noDfn,⟨12,[],1,17⟩):=by kernel_rfl
theorem aw_3:parseS [108,97,110,103,117,97,103,101,32,101,46,10,115,111,114,116,32,65,32,66,46]=(noDfn,⟨11,[66],2,8⟩):=by kernel_rfl
theorem aw_4:termS [102,40,88,58,73,110,116,44,32,91,45,49,32,124,32,76,93,41]=(awT,⟨0,[],0,0⟩):=by kernel_rfl
theorem aw_5:termS [45,32,53]=(noTm,⟨11,[53],1,3⟩):=by kernel_rfl
theorem aw_6:parseS [108,97,110,103,117,97,103,101,32,101,46,32,115,116,97,114,116,32,65,46,32,115,116,97,114,116,32,66,46]=(noDfn,⟨14,[115,116,97,114,116],1,22⟩):=by kernel_rfl
end Go.AV
end
