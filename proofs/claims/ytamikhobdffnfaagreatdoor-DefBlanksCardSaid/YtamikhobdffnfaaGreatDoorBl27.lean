/-
  Part of the proof of DefBlanks.
-/
import Derived.Test.YtamikhobdffnfaaGreatDoorBl26
import Derived.Test.YtamikhobdffnfaaGreatDoorBl18
import Derived.Test.YtamikhobdffnfaaGreatDoorBl23
import Derived.Test.YtamikhobdffnfaaGreatDoorBl15
set_option linter.all false
set_option maxRecDepth 1000000
set_option maxHeartbeats 40000000
section
namespace Go.AV
open Go Go.Proofs
theorem names_len (fin:Fault):∀ (f:Nat) (acc:List Str) (w:List Tok) (n:Nat),
  (loopR fin [44] (fun acc w n=>(nameR fin w n).bind fun a w n=>.ok (acc++[a]) w n) f acc w n).to (fun l w' _=>l.length+w'.length≤acc.length+w.length) (fun _=>True)
 | 0,acc,w,n=>trivial
 | f+1,acc,w,n=>by
  rw[loopR,Rd.bind_to,Rd.bind_to];cases w with
  | nil=>trivial
  | cons t w =>
   simp only[nameR];split
   ·simp only[Rd.ok_to];split
    ·refine Rd.to_mono (names_len fin f _ w.tail n) (fun l w' _ h=>?_) (fun _ h=>h);simp only[gC2,gC1,gC3,List.length_tail] at h ⊢;omega
    ·simp only[Rd.ok_to,gC2,gC1,gC3];omega
   ·trivial
section
variable {T:List Tok} {fin:Fault} {d:Dfn} {o:DOwn} {first:Tok} {i n:Nat} {s:St} {r:Nat} {KV Kp:St→A→Prop}
theorem item_den (hT:TOk T) (hi:i≤T.length) (hQ:ItQ s d o i) (hn:n≤2000)
  (hk : (itemR false fin d (T.drop i) n).to (fun d' w n' => ∀ j o',i + 1 ≤ j → j ≤ T.length → T.drop j = w → n' ≤ 2000 → ItQ s d' o' j → KV (itS T fin first r s d' o' j n') (.tuple []))
   (fun f=>∀ s1 x,s1.gx s r→s1.getO r=some x→Kp s1 (.iface 36 f.enc))):Den cx 86 [.ptr r 0] KV Kp (itS T fin first r s d o i n):=by
 have hlenT:=hT.len;have hown:=hQ.own;have hfr:=hown.free;have L0:=hQ.len (o.so,d.sig.sorts.length,9) (by simp[dOwn]);have L1:=hQ.len (o.be,d.sig.below.length,104) (by simp[dOwn]);have L2:=hQ.len (o.op,d.sig.ops.length,73) (by simp[dOwn]);have L3:=hQ.len (o.fu,d.sig.funs.length,73) (by simp[dOwn]);have L4:=hQ.len (o.va,d.sig.values.length,9) (by simp[dOwn]);have L5:=hQ.len (o.eq,d.eqs.length,80) (by simp[dOwn]);have L8:=hQ.len (o.ru,d.rules.length,84) (by simp[dOwn]);simp only at L0 L1 L2 L3 L4 L5 L8;have G1:lenS (gv o.be (d.sig.below.map Below.enc))=some (.int .i64 (d.sig.below.map Below.enc).length):=lenS_gv (by rw[gC4];exact gsl_gok hown (k:=1) rfl);have G2:lenS (gv o.op (d.sig.ops.map Opr.enc))=some (.int .i64 (d.sig.ops.map Opr.enc).length):=lenS_gv (by rw[gC4];exact gsl_gok hown (k:=2) rfl);have G3:lenS (gv o.fu (d.sig.funs.map Opr.enc))=some (.int .i64 (d.sig.funs.map Opr.enc).length):=lenS_gv (by rw[gC4];exact gsl_gok hown (k:=3) rfl);have G5:lenS (gv o.eq (d.eqs.map Eqn.enc))=some (.int .i64 (d.eqs.map Eqn.enc).length):=lenS_gv (by rw[gC4];exact gsl_gok hown (k:=5) rfl);have G8:lenS (gv o.ru (d.rules.map Rul.enc))=some (.int .i64 (d.rules.map Rul.enc).length):=lenS_gv (by rw[gC4];exact gsl_gok hown (k:=8) rfl);refine Den.drop ?_;(refine Den.of_body (C:=cx) Tryz.func86 rfl rfl (gC6 rfl) ?_;refine wpC_ok (V:=[0,1,2,3,4,5,14,20,59,76,107,134,177]) _ _ _ _ ?_;simp only[go_sem,Tryz.ntmps86,Tryz.f86]);unfold itS;(intro b1 hb1;try simp only[gA5,gA6,gD6,ne_eq] at hb1);simp only[go_sem,gA5,hb1];refine peek_den (d:=dcN d o) (T:=T) (fin:=fin) (first:=first) (i:=i) (n:=n) (by simp only[gA1,gA2,gA3,gA6,ne_eq,gA9,reduceIte,gA5,hb1]<;>(first|done|rfl|assumption)) hi ?_;cases hw:T.drop i with
 | nil=>rw[hw] at hk;exact DK.here (hk _ (psO T fin (dcN d o) first i n) (by (repeat (first|refine gsl_gx hfr ?_|exact gA8 _ _|refine St.gx_r ?_|refine gA7 (by first|simp only[hb1]|assumption) ?_|refine St.gx_T (by first|simp only[hb1]|assumption) ?_))) (by simp only[gA1,gA2,gA3,gA6,ne_eq,gA9,reduceIte,gA5,hb1]<;>(first|done|rfl|assumption)))
 | cons t w =>
  obtain ⟨g1,g2,g3,g4⟩:=drop_get hw;have wAT:∀ x:Str,isT x (T.drop i)=isTok t x:=fun x=>by rw[hw];rfl
  rw[hw] at hk;simp only[itemR,Rd.bind_to] at hk;simp only[go_sem,gA5,hb1];(intro b2 hb2;try simp only[gA5,gA6,gD6,ne_eq] at hb2);simp only[go_sem,gA5,hb1,hb2];(intro b3 hb3;try simp only[gA5,gA6,gD6,ne_eq] at hb3);simp only[go_sem,gA5,hb1,hb2,hb3];refine take_den (d:=dcN d o) (T:=T) (fin:=fin) (first:=first) (i:=i) (n:=n) _ (by simp only[gA1,gA2,gA3,gA6,ne_eq,gA9,reduceIte,gA5,hb1,hb2,hb3]<;>(first|done|rfl|assumption)) hi hT ?_;rw[wAT];cases c1:isTok t [115,111,114,116];rotate_left
  ·rw[if_pos c1,Rd.bind_to,← g3] at hk;simp only;simp only[go_sem,gA5,hb1,hb2,hb3];have hs0b1:(gsl (((s.setO b1 (.cells 74 [.ptr r 0])).setO b2 (.cells 60 t.cs)).setO b3 (.cells 191 [.ptr r 6])) ((dOwn d o).set 0 (none,0,9))).getO b1=some (.cells 74 [.ptr r 0]):=by simp only[gA5,gA1,hb3,hb2,if_false,if_true]
   have hs0b3:(gsl (((s.setO b1 (.cells 74 [.ptr r 0])).setO b2 (.cells 60 t.cs)).setO b3 (.cells 191 [.ptr r 6])) ((dOwn d o).set 0 (none,0,9))).getO b3=some (.cells 191 [.ptr r 6]):=by simp only[gA5,gA1,if_true]
   have hfr0:∀ a,a∈(dOwn d o).set 0 (none,0,9)→∀ u,a.1=some u→s.getT u=none:=fun a ha u hu=>by
    rcases List.mem_or_eq_of_mem_set ha with ha|rfl
    ·exact hfr a ha u hu
    ·cases hu
   have hg0:(gsl (((s.setO b1 (.cells 74 [.ptr r 0])).setO b2 (.cells 60 t.cs)).setO b3 (.cells 191 [.ptr r 6])) ((dOwn d o).set 0 (none,0,9))).gx s r:=by
    refine gsl_gx hfr0 ?_;exact (by (repeat (first|refine gsl_gx hfr ?_|exact gA8 _ _|refine St.gx_r ?_|refine gA7 (by first|simp only[hb1,hb2,hb3]|assumption) ?_|refine St.gx_T (by first|simp only[hb1,hb2,hb3]|assumption) ?_)))
   refine Den.weaken (s':=sorS T fin (dcN d o) first r (gsl (((s.setO b1 (.cells 74 [.ptr r 0])).setO b2 (.cells 60 t.cs)).setO b3 (.cells 191 [.ptr r 6])) ((dOwn d o).set 0 (none,0,9))) d.sig.sorts o.so (i+1) n) ?_ (plist146_den (fin:=fin) (σ:=List Str) (α:=Unit) (X:=Option Nat) (r:=r) (fun _=>.bool true) (fun _=>rfl) (fun _=>rfl) hT
    (fun s' acc tk i n=>sorS T fin (dcN d o) first r s' acc tk i n) (fun s' acc tk i=>GrQ b1 b3 r s' acc tk i) (fun acc w n=>((someR fin 40 acc.length w n fun w n=>nameR fin w n).bind fun a w n=>.ok (acc++[a]) w n).bind fun a w n=>.ok (a,()) w n) 147 [] [.ptr b1 0,.ptr b3 0]
    (fun s' a x i n=>⟨_,first,by unfold sorS;rw[gA6,gA1,if_pos rfl],by unfold sorS;rw[gs_setO,setO_setO];exact St.ge.refl _⟩) (fun s' a x i n t v h ht=>?_) (fun s' a x i n t v u ht h=>?_) (fun s' a x i n t v ht h=>⟨h.dropT,gs_ge_free ht⟩)
    (fun s' a x i h=>⟨by have:=h.len;omega,h.h1,h.h3,h.ne,h.nil,h.free⟩) (fun s' a x i n h=>St.gx_gs (St.gx_r (gA8 _ _)) h.free)
    (fun s' a x i n KV' Kp' h hi' hn' hk'=>sort1_den hT b1 b3 a x h hi' hn' ?_)
    d.sig.sorts o.so (i+1) n ?_ g2 hn ?_)
   ·refine St.ge.trans (b:=gsl ((((s.setO b1 (.cells 74 [.ptr r 0])).setO b2 (.cells 60 t.cs)).setO b3 (.cells 191 [.ptr r 6])).setO r (psO T fin (dcN d o) first (i+1) n)) (dOwn d o)) (gsl_ge (by (refine gel_ge ?_;repeat (first|exact gel_refl _ _ _|refine gsl_gel hfr ?_|refine gel_gs_gs ?_|refine gel_to_gs gs_self ?_|refine gB1 ?_|refine gB2 ?_|refine gel_set (by simp only[gA1,gA2,gA3,gA6,ne_eq,gA9,reduceIte,gA5,hb1,hb2,hb3]<;>(first|done|rfl|assumption)) ?_|refine gB3 ?_|refine gel_new (by first|simp only[hb1,hb2,hb3]|assumption) ?_)))) ?_;unfold sorS;rw[gsl_setO];exact gsl_split hown (k:=0) (o:=(o.so,d.sig.sorts.length,9)) rfl 0 9
   ·have hx:=GrQ.notk h ht;exact ⟨hx.2,h.setT hx.1,gs_swap hx.1⟩
   ·have hx:=h.unT;exact ⟨by show (gs _ _ _ _).getT t=_;rw[gs_getT,if_neg hx.1];show (s'.setT t v).getT t=_;rw[gA4,if_pos rfl],h.dropT.setT hx.1,gs_overT hx.1⟩
   ·rw[Rd.bind_to,Rd.bind_to] at hk';exact Rd.to_mono hk' (fun a w n h2 j y hj hjT hw hn hy=>h2 j y (by omega) hjT hw hn hy) (fun _ h=>h)
   ·refine ⟨by omega,hs0b1,hs0b3,⟨hb1.1.2,hb3.2.2.1.2⟩,fun e=>List.eq_nil_of_length_eq_zero (hown.nil (o.so,d.sig.sorts.length,9) (by simp[dOwn]) e),fun u hu=>(by refine gsl_out hown (k:=0) (o:=(o.so,d.sig.sorts.length,9)) rfl 0 9 ?_ hu;exact fun _=>rfl)⟩
   refine Rd.to_mono (loopR_fst _ _ _ _ _ [] _ _ _ _ hk) (fun c w4 m4 hk4 j y hj hjT hw4 hm4 hy=>?_) (fun f h s1 x hg hr1=>DK.here (h _ _ (hg.trans hg0) hr1));obtain ⟨l,ul⟩:=c;simp only at hk4 hy ⊢;subst hw4;rw[Rd.ok_to] at hk4;have hown2:OwnOk s ((dOwn d o).set 0 (y,l.length,9)):=by refine gsl_back hown (k:=0) (by simp[dOwn]) 0 9 9 ?_ hy.free (fun e=>by rw[hy.nil e];rfl);exact fun _=>rfl
   unfold sorS;simp only[go_sem,gA5,hb1,hb2,hb3];refine Den.weaken (gsl_join (l:=dOwn d o) (k:=0) (by simp[dOwn]) hown2 0 9) ?_;refine want_den (d:=dcN { d with sig:={ d.sig with sorts:=l } } { o with so:=y }) (T:=T) (fin:=fin) (first:=first) (i:=j) (n:=m4) _ (by simp only[gA1,gA2,gA3,gA6,ne_eq,gA9,reduceIte,gA5,hb1,hb2,hb3]<;>(first|done|rfl|assumption)) hjT hT (Rd.to_mono hk4 (fun _ w9 m9 hk9 hlt9 hw9 hm9=>?_) (fun f h=>PB.of (by (repeat (first|refine gsl_gx hown2.free ?_|exact gA8 _ _|refine St.gx_r ?_|refine gA7 (by first|simp only[hb1,hb2,hb3]|assumption) ?_|refine St.gx_T (by first|simp only[hb1,hb2,hb3]|assumption) ?_))) h));subst m9;rw[Rd.ok_to] at hk9;simp only[go_sem,gA5,hb1,hb2,hb3];have hk10:=hk9 (j+1) { o with so:=y } (by omega) hlt9 hw9 hm4 (ItQ.set (k:=0) (a:=(y,l.length,9)) hQ (by simp[dOwn]) hown2 (by omega) (by have:=hy.len;simp only;omega));refine DK.st hk10 ?_;unfold itS;rw[show dOwn { d with sig:={ d.sig with sorts:=l } } { o with so:=y }=(dOwn d o).set 0 (y,l.length,9) by simp[dOwn]];refine gsl_ge ?_;simp only[dcN,gv_some,List.map_append,List.map_cons,List.map_nil];exact (by (refine gel_ge ?_;repeat (first|exact gel_refl _ _ _|refine gsl_gel hown2.free ?_|refine gel_gs_gs ?_|refine gel_to_gs gs_self ?_|refine gB1 ?_|refine gB2 ?_|refine gel_set (by simp only[gA1,gA2,gA3,gA6,ne_eq,gA9,reduceIte,gA5,hb1,hb2,hb3]<;>(first|done|rfl|assumption)) ?_|refine gB3 ?_|refine gel_new (by first|simp only[hb1,hb2,hb3]|assumption) ?_)))
  rw[if_neg (by simp[c1])] at hk;simp only;simp only[go_sem,gA5,hb1,hb2,hb3];refine is_den (d:=dcN d o) (T:=T) (fin:=fin) (first:=first) (i:=i) (n:=n) _ (by simp only[gA1,gA2,gA3,gA6,ne_eq,gA9,reduceIte,gA5,hb1,hb2,hb3]<;>(first|done|rfl|assumption)) hi ?_;rw[wAT];simp only[go_sem,gA5,hb1,hb2,hb3];cases c2:isTok t [115,117,98,115,111,114,116];rotate_left
  ·rw[if_pos c2,Rd.ite_to,Rd.bad_to] at hk;simp only[go_sem,gA5,hb1,hb2,hb3];(refine draw_ok (V:=[0,1,2,3,4,5,14,20,59,76,107,134,177]) (OT.l [0,1,2,3,4,5,6,7] .nil) [] mixed_cx (by decide +kernel) ?_;simp only[go_sem,gA5,hb1,hb2,hb3,G1]);refine room_den (d:=dcN d o) (T:=T) (fin:=fin) (first:=first) (i:=i) (n:=n) _ _ (by simp only[gA1,gA2,gA3,gA6,ne_eq,gA9,reduceIte,gA5,hb1,hb2,hb3]<;>(first|done|rfl|assumption)) hi ?_;by_cases hm:200≤d.sig.below.length
   ·rw[if_pos hm] at hk;rw[if_pos (by (try simp only[gC4]);omega),hw];exact PB.of (by (repeat (first|refine gsl_gx hfr ?_|exact gA8 _ _|refine St.gx_r ?_|refine gA7 (by first|simp only[hb1,hb2,hb3]|assumption) ?_|refine St.gx_T (by first|simp only[hb1,hb2,hb3]|assumption) ?_))) hk
   rw[if_neg hm,Rd.bind_to,← g3] at hk;rw[if_neg (by (try simp only[gC4]);omega)];simp only[go_sem,gA5,hb1,hb2,hb3,wrap1 i (by omega)];refine name_den (d:=dcN d o) (T:=T) (fin:=fin) (first:=first) (i:=i+1) (n:=n) (by simp only[gA1,gA2,gA3,gA6,ne_eq,gA9,reduceIte,gA5,hb1,hb2,hb3]<;>(first|done|rfl|assumption)) g2 hT (Rd.to_mono hk (fun x w2 m2 hk2 hlt2 hw2 hm2=>?_) (fun f h=>PB.of (by (repeat (first|refine gsl_gx hfr ?_|exact gA8 _ _|refine St.gx_r ?_|refine gA7 (by first|simp only[hb1,hb2,hb3]|assumption) ?_|refine St.gx_T (by first|simp only[hb1,hb2,hb3]|assumption) ?_))) h));subst m2;rw[← hw2,Rd.bind_to] at hk2;simp only[go_sem,gA5,hb1,hb2,hb3];(intro b4 hb4;try simp only[gA5,gA6,gD6,ne_eq] at hb4);simp only[go_sem,gA5,hb1,hb2,hb3,hb4];refine want_den (d:=dcN d o) (T:=T) (fin:=fin) (first:=first) (i:=i+1+1) (n:=n) _ (by simp only[gA1,gA2,gA3,gA6,ne_eq,gA9,reduceIte,gA5,hb1,hb2,hb3,hb4]<;>(first|done|rfl|assumption)) hlt2 hT (Rd.to_mono hk2 (fun _ w3 m3 hk3 hlt3 hw3 hm3=>?_) (fun f h=>PB.of (by (repeat (first|refine gsl_gx hfr ?_|exact gA8 _ _|refine St.gx_r ?_|refine gA7 (by first|simp only[hb1,hb2,hb3,hb4]|assumption) ?_|refine St.gx_T (by first|simp only[hb1,hb2,hb3,hb4]|assumption) ?_))) h));subst m3;rw[← hw3,Rd.bind_to] at hk3;simp only[go_sem,gA5,hb1,hb2,hb3,hb4];refine name_den (d:=dcN d o) (T:=T) (fin:=fin) (first:=first) (i:=i+1+1+1) (n:=n) (by simp only[gA1,gA2,gA3,gA6,ne_eq,gA9,reduceIte,gA5,hb1,hb2,hb3,hb4]<;>(first|done|rfl|assumption)) hlt3 hT (Rd.to_mono hk3 (fun y w4 m4 hk4 hlt4 hw4 hm4=>?_) (fun f h=>PB.of (by (repeat (first|refine gsl_gx hfr ?_|exact gA8 _ _|refine St.gx_r ?_|refine gA7 (by first|simp only[hb1,hb2,hb3,hb4]|assumption) ?_|refine St.gx_T (by first|simp only[hb1,hb2,hb3,hb4]|assumption) ?_))) h));subst m4;rw[← hw4,Rd.ok_to] at hk4;simp only[go_sem,gA5,hb1,hb2,hb3,hb4];(refine draw_ok (V:=[0,1,2,3,4,5,14,20,59,76,107,134,177]) (OT.l [0,1,2,3,4,5,6,7,8,9,10,11,12] .nil) [(8,[0])] mixed_cx (by decide +kernel) ?_;simp only[go_sem,gA5,hb1,hb2,hb3,hb4])
   (try simp only[go_sem,gA5,hb1,hb2,hb3,hb4])
   refine ⟨by decide,fun y hy=>by simp only[List.mem_singleton] at hy;subst hy;rfl,appL_gv rfl rfl (by rw[gC4];refine gsl_gokX hown (k:=1) (o:=(o.be,d.sig.below.length,104)) rfl ?_;exact fun _=>rfl) (fun y hy=>?_) (by simp only[gC4,gC1,gC3];omega) (fun u hu=>?_)⟩
   ·simp only[List.mem_map] at hy;obtain ⟨q,_,rfl⟩:=hy;rfl
   have hown2:=gsl_own hown (k:=1) (o:=(o.be,d.sig.below.length,104)) rfl hu (fun _=>rfl) (d.sig.below.length+1);simp only[go_sem,gA5,hb1,hb2,hb3,hb4];refine Den.weaken (gsl_app hown (k:=1) (o:=(o.be,d.sig.below.length,104)) rfl hown2 (fun _=>rfl)) ?_;refine want_den (d:={ dcN d o with below:=.list (some u) (d.sig.below.map Below.enc++[Below.enc ⟨x,y⟩]) }) (T:=T) (fin:=fin) (first:=first) (i:=i+1+1+1+1) (n:=n) _ (by simp only[gA1,gA2,gA3,gA6,ne_eq,gA9,reduceIte,gA5,hb1,hb2,hb3,hb4]<;>(first|done|rfl|assumption)) hlt4 hT (Rd.to_mono hk4 (fun _ w9 m9 hk9 hlt9 hw9 hm9=>?_) (fun f h=>PB.of (by (repeat (first|refine gsl_gx hown2.free ?_|exact gA8 _ _|refine St.gx_r ?_|refine gA7 (by first|simp only[hb1,hb2,hb3,hb4]|assumption) ?_|refine St.gx_T (by first|simp only[hb1,hb2,hb3,hb4]|assumption) ?_))) h));subst m9;rw[Rd.ok_to] at hk9;simp only[go_sem,gA5,hb1,hb2,hb3,hb4];have hk10:=hk9 (i+1+1+1+1+1) { o with be:=some u } (by omega) hlt9 hw9 hn (ItQ.set (k:=1) (a:=(some u,d.sig.below.length+1,104)) hQ (by simp[dOwn]) hown2 (by omega) (by simp only;omega));refine DK.st hk10 ?_;unfold itS;rw[show dOwn { d with sig:={ d.sig with below:=d.sig.below++[⟨x,y⟩] } } { o with be:=some u }=(dOwn d o).set 1 (some u,d.sig.below.length+1,104) by simp[dOwn]];refine gsl_ge ?_;simp only[dcN,gv_some,List.map_append,List.map_cons,List.map_nil];exact (by (refine gel_ge ?_;repeat (first|exact gel_refl _ _ _|refine gsl_gel hown2.free ?_|refine gel_gs_gs ?_|refine gel_to_gs gs_self ?_|refine gB1 ?_|refine gB2 ?_|refine gel_set (by simp only[gA1,gA2,gA3,gA6,ne_eq,gA9,reduceIte,gA5,hb1,hb2,hb3,hb4]<;>(first|done|rfl|assumption)) ?_|refine gB3 ?_|refine gel_new (by first|simp only[hb1,hb2,hb3,hb4]|assumption) ?_)))
  rw[if_neg (by simp[c2])] at hk;simp only[go_sem,gA5,hb1,hb2,hb3];refine take_den (d:=dcN d o) (T:=T) (fin:=fin) (first:=first) (i:=i) (n:=n) _ (by simp only[gA1,gA2,gA3,gA6,ne_eq,gA9,reduceIte,gA5,hb1,hb2,hb3]<;>(first|done|rfl|assumption)) hi hT ?_;rw[wAT];cases c3:isTok t [118,97,108,117,101];rotate_left
  ·rw[if_pos c3,Rd.bind_to,← g3] at hk;simp only;simp only[go_sem,gA5,hb1,hb2,hb3];(refine draw_ok (V:=[0,1,2,3,4,5,14,20,59,76,107,134,177]) (OT.l [0,1,2,3,4,5,6,7,8,9,10,11,12,13,14] .nil) [(9,[0,1,5]),(10,[0])] mixed_cx (by decide +kernel) ?_;simp only[go_sem,gA5,hb1,hb2,hb3])
   refine Den.weaken (St.ge_same (by simp only[gA1,gA2,gA3,gA6,ne_eq,gA9,reduceIte,gA5,hb1,hb2,hb3]<;>(first|done|rfl|assumption))) (plists150_den (fin:=fin) (d:=dcN d o) (fi:=first) (fun x:Str=>A.str x) (fun _=>rfl) (fun _=>rfl) hT (fun _=>True) (fun _ _ _=>Iff.rfl) (nameR fin) 85 [.ptr r 0] []
    (hf_of (fun _ _ h=>h) (fun s' i' n' KV' Kp' hr' _ hi' hn' hk'=>name_den hr' hi' hT (Rd.to_mono hk' (fun _ _ _ h h1 h2 h3=>by subst h3;exact h (i'+1) (by omega) h1 h2 hn') (fun _ h=>h)))) (i+1) n trivial g2 hn ?_)
   refine Rd.to_mono (Rd.to_and hk (names_len _ _ _ _ _)) (fun l w3 m3 hk3 j3 hj3 hjT3 hw3 hm3=>?_) (fun f h s1 o hg hr1=>DK.here (h _ o (hg.trans (by (repeat (first|refine gsl_gx hfr ?_|exact gA8 _ _|refine St.gx_r ?_|refine gA7 (by first|simp only[hb1,hb2,hb3]|assumption) ?_|refine St.gx_T (by first|simp only[hb1,hb2,hb3]|assumption) ?_)))) hr1));obtain ⟨hl,hk3⟩:=hk3;subst hw3;simp only[gC3,gD4] at hl;rw[Rd.ok_to] at hk3;simp only[go_sem,gA5,hb1,hb2,hb3];refine ⟨by decide,fun y hy=>by simp only[List.mem_map] at hy;obtain ⟨q,_,rfl⟩:=hy;rfl,appL_gv rfl rfl (by rw[gC4];refine gsl_gokX hown (k:=4) (o:=(o.va,d.sig.values.length,9)) rfl ?_;exact fun _=>rfl) (fun y hy=>?_) (by simp only[gC4];omega) (fun u hu=>?_)⟩
   ·simp only[List.mem_map] at hy;obtain ⟨q,_,rfl⟩:=hy;rfl
   have hown2:=gsl_own hown (k:=4) (o:=(o.va,d.sig.values.length,9)) rfl hu (fun _=>rfl) (d.sig.values.length+l.length);simp only[go_sem,gA5,hb1,hb2,hb3,gC4];refine Den.weaken (gsl_app hown (k:=4) (o:=(o.va,d.sig.values.length,9)) rfl hown2 (fun _=>rfl)) ?_;refine want_den (d:={ dcN d o with values:=.list (some u) (d.sig.values.map A.str++l.map A.str) }) (T:=T) (fin:=fin) (first:=first) (i:=j3) (n:=m3) _ (by simp only[gA1,gA2,gA3,gA6,ne_eq,gA9,reduceIte,gA5,hb1,hb2,hb3]<;>(first|done|rfl|assumption)) hjT3 hT (Rd.to_mono hk3 (fun _ w9 m9 hk9 hlt9 hw9 hm9=>?_) (fun f h=>PB.of (by (repeat (first|refine gsl_gx hown2.free ?_|exact gA8 _ _|refine St.gx_r ?_|refine gA7 (by first|simp only[hb1,hb2,hb3]|assumption) ?_|refine St.gx_T (by first|simp only[hb1,hb2,hb3]|assumption) ?_))) h));subst m9;rw[Rd.ok_to] at hk9;simp only[go_sem,gA5,hb1,hb2,hb3];have hk10:=hk9 (j3+1) { o with va:=some u } (by omega) hlt9 hw9 hm3 (ItQ.set (k:=4) (a:=(some u,d.sig.values.length+l.length,9)) hQ (by simp[dOwn]) hown2 (by omega) (by simp only;omega));refine DK.st hk10 ?_;unfold itS;rw[show dOwn { d with sig:={ d.sig with values:=d.sig.values++l } } { o with va:=some u }=(dOwn d o).set 4 (some u,d.sig.values.length+l.length,9) by simp[dOwn]];refine gsl_ge ?_;simp only[dcN,gv_some,List.map_append,List.map_cons,List.map_nil];exact (by (refine gel_ge ?_;repeat (first|exact gel_refl _ _ _|refine gsl_gel hown2.free ?_|refine gel_gs_gs ?_|refine gel_to_gs gs_self ?_|refine gB1 ?_|refine gB2 ?_|refine gel_set (by simp only[gA1,gA2,gA3,gA6,ne_eq,gA9,reduceIte,gA5,hb1,hb2,hb3]<;>(first|done|rfl|assumption)) ?_|refine gB3 ?_|refine gel_new (by first|simp only[hb1,hb2,hb3]|assumption) ?_)))
  rw[if_neg (by simp[c3])] at hk;simp only;simp only[go_sem,gA5,hb1,hb2,hb3];refine is_den (d:=dcN d o) (T:=T) (fin:=fin) (first:=first) (i:=i) (n:=n) _ (by simp only[gA1,gA2,gA3,gA6,ne_eq,gA9,reduceIte,gA5,hb1,hb2,hb3]<;>(first|done|rfl|assumption)) hi ?_;rw[wAT];simp only[go_sem,gA5,hb1,hb2,hb3];cases c4:isTok t [111,112];rotate_left
  ·rw[if_pos (.inl c4),Rd.ite_to,Rd.bad_to] at hk;simp only[go_sem,gA5,hb1,hb2,hb3,c4];have ht4:t.text=[111,112]:=by have:=c4;simp[isTok] at this;exact this.2
   have d4:decide (t.text=[111,112])=true:=by rw[ht4];rfl
   (refine draw_ok (V:=[0,1,2,3,4,5,14,20,59,76,107,134,177]) (OT.l [0,1,2,3,4,5,6,7,8,9,10,11,12,13,14] .nil) [] mixed_cx (by decide +kernel) ?_;simp only[go_sem,gA5,hb1,hb2,hb3,G2,G3,wrap_in ((d.sig.ops.length:Int)+(d.sig.funs.length:Int)) (by omega) (by omega)]);refine room_den (d:=dcN d o) (T:=T) (fin:=fin) (first:=first) (i:=i) (n:=n) _ _ (by simp only[gA1,gA2,gA3,gA6,ne_eq,gA9,reduceIte,gA5,hb1,hb2,hb3]<;>(first|done|rfl|assumption)) hi ?_;by_cases hm:200≤d.sig.ops.length+d.sig.funs.length
   ·rw[if_pos hm] at hk;rw[if_pos (by (try simp only[gC4]);omega),hw];exact PB.of (by (repeat (first|refine gsl_gx hfr ?_|exact gA8 _ _|refine St.gx_r ?_|refine gA7 (by first|simp only[hb1,hb2,hb3]|assumption) ?_|refine St.gx_T (by first|simp only[hb1,hb2,hb3]|assumption) ?_))) hk
   rw[if_neg hm,if_pos ht4,Rd.bind_to,← g3] at hk;rw[if_neg (by (try simp only[gC4]);omega)];simp only[go_sem,gA5,hb1,hb2,hb3,wrap1 i (by omega),d4];(refine draw_ok (V:=[0,1,2,3,4,5,14,20,59,76,107,134,177]) (OT.l [0,1,2,3,4,5,6,7,8,9,10,11,12,13] .nil) [(7,[0,1,5]),(9,[0])] mixed_cx (by decide +kernel) ?_;simp only[go_sem,gA5,hb1,hb2,hb3]);refine op_den (d:=dcN d o) (T:=T) (fin:=fin) (first:=first) (i:=i+1) (n:=n) hT (by simp only[gA1,gA2,gA3,gA6,ne_eq,gA9,reduceIte,gA5,hb1,hb2,hb3]<;>(first|done|rfl|assumption)) g2 hn (Rd.to_mono hk (fun x w2 m2 hk2 j hj hjT hw2 hm2=>?_) (fun f h=>PB.of (by (repeat (first|refine gsl_gx hfr ?_|exact gA8 _ _|refine St.gx_r ?_|refine gA7 (by first|simp only[hb1,hb2,hb3]|assumption) ?_|refine St.gx_T (by first|simp only[hb1,hb2,hb3]|assumption) ?_))) h));subst hw2;rw[Rd.ok_to] at hk2;simp only[go_sem,gA5,hb1,hb2,hb3];refine ⟨by decide,fun y hy=>by simp only[List.mem_singleton] at hy;subst hy;rfl,appL_gv rfl rfl (by rw[gC4];refine gsl_gokX hown (k:=2) (o:=(o.op,d.sig.ops.length,73)) rfl ?_;exact fun _=>rfl) (fun y hy=>?_) (by simp only[gC4,gC1,gC3];omega) (fun u hu=>?_)⟩
   ·simp only[List.mem_map] at hy;obtain ⟨q,_,rfl⟩:=hy;rfl
   have hown2:=gsl_own hown (k:=2) (o:=(o.op,d.sig.ops.length,73)) rfl hu (fun _=>rfl) (d.sig.ops.length+1);simp only[go_sem,gA5,hb1,hb2,hb3];refine Den.weaken (gsl_app hown (k:=2) (o:=(o.op,d.sig.ops.length,73)) rfl hown2 (fun _=>rfl)) ?_;refine want_den (d:={ dcN d o with ops:=.list (some u) (d.sig.ops.map Opr.enc++[Opr.enc x]) }) (T:=T) (fin:=fin) (first:=first) (i:=j) (n:=m2) _ (by simp only[gA1,gA2,gA3,gA6,ne_eq,gA9,reduceIte,gA5,hb1,hb2,hb3]<;>(first|done|rfl|assumption)) hjT hT (Rd.to_mono hk2 (fun _ w9 m9 hk9 hlt9 hw9 hm9=>?_) (fun f h=>PB.of (by (repeat (first|refine gsl_gx hown2.free ?_|exact gA8 _ _|refine St.gx_r ?_|refine gA7 (by first|simp only[hb1,hb2,hb3]|assumption) ?_|refine St.gx_T (by first|simp only[hb1,hb2,hb3]|assumption) ?_))) h));subst m9;rw[Rd.ok_to] at hk9;simp only[go_sem,gA5,hb1,hb2,hb3];have hk10:=hk9 (j+1) { o with op:=some u } (by omega) hlt9 hw9 hm2 (ItQ.set (k:=2) (a:=(some u,d.sig.ops.length+1,73)) hQ (by simp[dOwn]) hown2 (by omega) (by simp only;omega));refine DK.st hk10 ?_;unfold itS;rw[show dOwn { d with sig:={ d.sig with ops:=d.sig.ops++[x] } } { o with op:=some u }=(dOwn d o).set 2 (some u,d.sig.ops.length+1,73) by simp[dOwn]];refine gsl_ge ?_;simp only[dcN,gv_some,List.map_append,List.map_cons,List.map_nil];exact (by (refine gel_ge ?_;repeat (first|exact gel_refl _ _ _|refine gsl_gel hown2.free ?_|refine gel_gs_gs ?_|refine gel_to_gs gs_self ?_|refine gB1 ?_|refine gB2 ?_|refine gel_set (by simp only[gA1,gA2,gA3,gA6,ne_eq,gA9,reduceIte,gA5,hb1,hb2,hb3]<;>(first|done|rfl|assumption)) ?_|refine gB3 ?_|refine gel_new (by first|simp only[hb1,hb2,hb3]|assumption) ?_)))
  simp only[go_sem,gA5,hb1,hb2,hb3,c4];refine is_den (d:=dcN d o) (T:=T) (fin:=fin) (first:=first) (i:=i) (n:=n) _ (by simp only[gA1,gA2,gA3,gA6,ne_eq,gA9,reduceIte,gA5,hb1,hb2,hb3]<;>(first|done|rfl|assumption)) hi ?_;rw[wAT];simp only[go_sem,gA5,hb1,hb2,hb3];cases c5:isTok t [102,117,110];rotate_left
  ·rw[if_pos (.inr c5),Rd.ite_to,Rd.bad_to] at hk;simp only[go_sem,gA5,hb1,hb2,hb3,c5];have ht4:¬ t.text=[111,112]:=by have:=c5;simp[isTok] at this;rw[this.2];decide
   have d4:decide (t.text=[111,112])=false:=by simpa using ht4
   (refine draw_ok (V:=[0,1,2,3,4,5,14,20,59,76,107,134,177]) (OT.l [0,1,2,3,4,5,6,7,8,9,10,11,12,13,14] .nil) [] mixed_cx (by decide +kernel) ?_;simp only[go_sem,gA5,hb1,hb2,hb3,G2,G3,wrap_in ((d.sig.ops.length:Int)+(d.sig.funs.length:Int)) (by omega) (by omega)]);refine room_den (d:=dcN d o) (T:=T) (fin:=fin) (first:=first) (i:=i) (n:=n) _ _ (by simp only[gA1,gA2,gA3,gA6,ne_eq,gA9,reduceIte,gA5,hb1,hb2,hb3]<;>(first|done|rfl|assumption)) hi ?_;by_cases hm:200≤d.sig.ops.length+d.sig.funs.length
   ·rw[if_pos hm] at hk;rw[if_pos (by (try simp only[gC4]);omega),hw];exact PB.of (by (repeat (first|refine gsl_gx hfr ?_|exact gA8 _ _|refine St.gx_r ?_|refine gA7 (by first|simp only[hb1,hb2,hb3]|assumption) ?_|refine St.gx_T (by first|simp only[hb1,hb2,hb3]|assumption) ?_))) hk
   rw[if_neg hm,if_neg ht4,Rd.bind_to,← g3] at hk;rw[if_neg (by (try simp only[gC4]);omega)];simp only[go_sem,gA5,hb1,hb2,hb3,wrap1 i (by omega),d4];(refine draw_ok (V:=[0,1,2,3,4,5,14,20,59,76,107,134,177]) (OT.l [0,1,2,3,4,5,6,7,8,9,10,11,12,13] .nil) [(7,[0,1,5]),(9,[0])] mixed_cx (by decide +kernel) ?_;simp only[go_sem,gA5,hb1,hb2,hb3]);refine fun_den (d:=dcN d o) (T:=T) (fin:=fin) (first:=first) (i:=i+1) (n:=n) hT (by simp only[gA1,gA2,gA3,gA6,ne_eq,gA9,reduceIte,gA5,hb1,hb2,hb3]<;>(first|done|rfl|assumption)) g2 hn (Rd.to_mono hk (fun x w2 m2 hk2 j hj hjT hw2 hm2=>?_) (fun f h=>PB.of (by (repeat (first|refine gsl_gx hfr ?_|exact gA8 _ _|refine St.gx_r ?_|refine gA7 (by first|simp only[hb1,hb2,hb3]|assumption) ?_|refine St.gx_T (by first|simp only[hb1,hb2,hb3]|assumption) ?_))) h));subst hw2;rw[Rd.ok_to] at hk2;simp only[go_sem,gA5,hb1,hb2,hb3];refine ⟨by decide,fun y hy=>by simp only[List.mem_singleton] at hy;subst hy;rfl,appL_gv rfl rfl (by rw[gC4];refine gsl_gokX hown (k:=3) (o:=(o.fu,d.sig.funs.length,73)) rfl ?_;exact fun _=>rfl) (fun y hy=>?_) (by simp only[gC4,gC1,gC3];omega) (fun u hu=>?_)⟩
   ·simp only[List.mem_map] at hy;obtain ⟨q,_,rfl⟩:=hy;rfl
   have hown2:=gsl_own hown (k:=3) (o:=(o.fu,d.sig.funs.length,73)) rfl hu (fun _=>rfl) (d.sig.funs.length+1);simp only[go_sem,gA5,hb1,hb2,hb3];refine Den.weaken (gsl_app hown (k:=3) (o:=(o.fu,d.sig.funs.length,73)) rfl hown2 (fun _=>rfl)) ?_;refine want_den (d:={ dcN d o with funs:=.list (some u) (d.sig.funs.map Opr.enc++[Opr.enc x]) }) (T:=T) (fin:=fin) (first:=first) (i:=j) (n:=m2) _ (by simp only[gA1,gA2,gA3,gA6,ne_eq,gA9,reduceIte,gA5,hb1,hb2,hb3]<;>(first|done|rfl|assumption)) hjT hT (Rd.to_mono hk2 (fun _ w9 m9 hk9 hlt9 hw9 hm9=>?_) (fun f h=>PB.of (by (repeat (first|refine gsl_gx hown2.free ?_|exact gA8 _ _|refine St.gx_r ?_|refine gA7 (by first|simp only[hb1,hb2,hb3]|assumption) ?_|refine St.gx_T (by first|simp only[hb1,hb2,hb3]|assumption) ?_))) h));subst m9;rw[Rd.ok_to] at hk9;simp only[go_sem,gA5,hb1,hb2,hb3];have hk10:=hk9 (j+1) { o with fu:=some u } (by omega) hlt9 hw9 hm2 (ItQ.set (k:=3) (a:=(some u,d.sig.funs.length+1,73)) hQ (by simp[dOwn]) hown2 (by omega) (by simp only;omega));refine DK.st hk10 ?_;unfold itS;rw[show dOwn { d with sig:={ d.sig with funs:=d.sig.funs++[x] } } { o with fu:=some u }=(dOwn d o).set 3 (some u,d.sig.funs.length+1,73) by simp[dOwn]];refine gsl_ge ?_;simp only[dcN,gv_some,List.map_append,List.map_cons,List.map_nil];exact (by (refine gel_ge ?_;repeat (first|exact gel_refl _ _ _|refine gsl_gel hown2.free ?_|refine gel_gs_gs ?_|refine gel_to_gs gs_self ?_|refine gB1 ?_|refine gB2 ?_|refine gel_set (by simp only[gA1,gA2,gA3,gA6,ne_eq,gA9,reduceIte,gA5,hb1,hb2,hb3]<;>(first|done|rfl|assumption)) ?_|refine gB3 ?_|refine gel_new (by first|simp only[hb1,hb2,hb3]|assumption) ?_)))
  rw[if_neg (by simp[c4,c5])] at hk;simp only[go_sem,gA5,hb1,hb2,hb3,c5];refine is_den (d:=dcN d o) (T:=T) (fin:=fin) (first:=first) (i:=i) (n:=n) _ (by simp only[gA1,gA2,gA3,gA6,ne_eq,gA9,reduceIte,gA5,hb1,hb2,hb3]<;>(first|done|rfl|assumption)) hi ?_;rw[wAT];simp only[go_sem,gA5,hb1,hb2,hb3];cases c6:isTok t [108,101,116];rotate_left
  ·rw[if_pos c6,Rd.ite_to,Rd.bad_to] at hk;simp only[go_sem,gA5,hb1,hb2,hb3,c6];(refine draw_ok (V:=[0,1,2,3,4,5,14,20,59,76,107,134,177]) (OT.l [0,1,2,3,4,5,6] .nil) [] mixed_cx (by decide +kernel) ?_;simp only[go_sem,gA5,hb1,hb2,hb3,G5]);refine room_den (d:=dcN d o) (T:=T) (fin:=fin) (first:=first) (i:=i) (n:=n) _ _ (by simp only[gA1,gA2,gA3,gA6,ne_eq,gA9,reduceIte,gA5,hb1,hb2,hb3]<;>(first|done|rfl|assumption)) hi ?_;by_cases hm:300≤d.eqs.length
   ·rw[if_pos hm] at hk;rw[if_pos (by (try simp only[gC4]);omega),hw];exact PB.of (by (repeat (first|refine gsl_gx hfr ?_|exact gA8 _ _|refine St.gx_r ?_|refine gA7 (by first|simp only[hb1,hb2,hb3]|assumption) ?_|refine St.gx_T (by first|simp only[hb1,hb2,hb3]|assumption) ?_))) hk
   rw[if_neg hm,Rd.bind_to,← g3] at hk;rw[if_neg (by (try simp only[gC4]);omega)];simp only[go_sem,gA5,hb1,hb2,hb3,wrap1 i (by omega)];(refine draw_ok (V:=[0,1,2,3,4,5,14,20,59,76,107,134,177]) (OT.l [0,2,3,4,5,1,6,7,8] .nil) [(1,[3,5]),(7,[0,3,5])] mixed_cx (by decide +kernel) ?_;simp only[go_sem,gA5,hb1,hb2,hb3]);refine whole_den (d:=dcN d o) (T:=T) (fin:=fin) (first:=first) (i:=i+1) (n:=n) hT (by simp only[gA1,gA2,gA3,gA6,ne_eq,gA9,reduceIte,gA5,hb1,hb2,hb3]<;>(first|done|rfl|assumption)) g2 hn (Rd.to_mono hk (fun x w2 m2 hk2 j2 hj2 hjT2 hw2 hm2=>?_) (fun f h=>PB.of (by (repeat (first|refine gsl_gx hfr ?_|exact gA8 _ _|refine St.gx_r ?_|refine gA7 (by first|simp only[hb1,hb2,hb3]|assumption) ?_|refine St.gx_T (by first|simp only[hb1,hb2,hb3]|assumption) ?_))) h));subst hw2;rw[Rd.bind_to] at hk2;simp only[go_sem,gA5,hb1,hb2,hb3,Tm.enc_eq];(intro b5 hb5;try simp only[gA5,gA6,gD6,ne_eq] at hb5);simp only[go_sem,gA5,hb1,hb2,hb3,hb5];refine want_den (d:=dcN d o) (T:=T) (fin:=fin) (first:=first) (i:=j2) (n:=m2) _ (by simp only[gA1,gA2,gA3,gA6,ne_eq,gA9,reduceIte,gA5,hb1,hb2,hb3,hb5]<;>(first|done|rfl|assumption)) hjT2 hT (Rd.to_mono hk2 (fun _ w3 m3 hk3 hlt3 hw3 hm3=>?_) (fun f h=>PB.of (by (repeat (first|refine gsl_gx hfr ?_|exact gA8 _ _|refine St.gx_r ?_|refine gA7 (by first|simp only[hb1,hb2,hb3,hb5]|assumption) ?_|refine St.gx_T (by first|simp only[hb1,hb2,hb3,hb5]|assumption) ?_))) h));subst m3;rw[← hw3,Rd.bind_to] at hk3;simp only[go_sem,gA5,hb1,hb2,hb3,hb5];refine whole_den (d:=dcN d o) (T:=T) (fin:=fin) (first:=first) (i:=j2+1) (n:=m2) hT (by simp only[gA1,gA2,gA3,gA6,ne_eq,gA9,reduceIte,gA5,hb1,hb2,hb3,hb5]<;>(first|done|rfl|assumption)) hlt3 hm2 (Rd.to_mono hk3 (fun y w4 m4 hk4 j4 hj4 hjT4 hw4 hm4=>?_) (fun f h=>PB.of (by (repeat (first|refine gsl_gx hfr ?_|exact gA8 _ _|refine St.gx_r ?_|refine gA7 (by first|simp only[hb1,hb2,hb3,hb5]|assumption) ?_|refine St.gx_T (by first|simp only[hb1,hb2,hb3,hb5]|assumption) ?_))) h));subst hw4;rw[Rd.bind_to] at hk4;simp only[go_sem,gA5,hb1,hb2,hb3,hb5,Tm.enc_eq];refine conds_den (d:=dcN d o) (T:=T) (fin:=fin) (first:=first) (i:=j4) (n:=m4) hT (by simp only[gA1,gA2,gA3,gA6,ne_eq,gA9,reduceIte,gA5,hb1,hb2,hb3,hb5]<;>(first|done|rfl|assumption)) hjT4 hm4 (Rd.to_mono hk4 (fun z w5 m5 hk5 j5 hj5 hjT5 hw5 hm5=>?_) (fun f h=>PB.of (by (repeat (first|refine gsl_gx hfr ?_|exact gA8 _ _|refine St.gx_r ?_|refine gA7 (by first|simp only[hb1,hb2,hb3,hb5]|assumption) ?_|refine St.gx_T (by first|simp only[hb1,hb2,hb3,hb5]|assumption) ?_))) h));subst hw5;rw[Rd.ok_to] at hk5;simp only[go_sem,gA5,hb1,hb2,hb3,hb5];(refine draw_ok (V:=[0,1,2,3,4,5,14,20,59,76,107,134,177]) (OT.l [0,1,2,3,4,5,6,7,8,9,10] .nil) [(7,[0])] mixed_cx (by decide +kernel) ?_;simp only[go_sem,gA5,hb1,hb2,hb3,hb5])
   (try simp only[go_sem,gA5,hb1,hb2,hb3,hb5])
   refine ⟨by decide,fun y hy=>by simp only[List.mem_singleton] at hy;subst hy;rfl,appL_gv rfl rfl (by rw[gC4];refine gsl_gokX hown (k:=5) (o:=(o.eq,d.eqs.length,80)) rfl ?_;exact fun _=>rfl) (fun y hy=>?_) (by simp only[gC4,gC1,gC3];omega) (fun u hu=>?_)⟩
   ·simp only[List.mem_map] at hy;obtain ⟨q,_,rfl⟩:=hy;rfl
   have hown2:=gsl_own hown (k:=5) (o:=(o.eq,d.eqs.length,80)) rfl hu (fun _=>rfl) (d.eqs.length+1);simp only[go_sem,gA5,hb1,hb2,hb3,hb5];refine Den.weaken (gsl_app hown (k:=5) (o:=(o.eq,d.eqs.length,80)) rfl hown2 (fun _=>rfl)) ?_;refine want_den (d:={ dcN d o with eqs:=.list (some u) (d.eqs.map Eqn.enc++[Eqn.enc ⟨x,y,z,t.line,t.col⟩]) }) (T:=T) (fin:=fin) (first:=first) (i:=j5) (n:=m5) _ (by simp only[gA1,gA2,gA3,gA6,ne_eq,gA9,reduceIte,gA5,hb1,hb2,hb3,hb5]<;>(first|done|rfl|assumption)) hjT5 hT (Rd.to_mono hk5 (fun _ w9 m9 hk9 hlt9 hw9 hm9=>?_) (fun f h=>PB.of (by (repeat (first|refine gsl_gx hown2.free ?_|exact gA8 _ _|refine St.gx_r ?_|refine gA7 (by first|simp only[hb1,hb2,hb3,hb5]|assumption) ?_|refine St.gx_T (by first|simp only[hb1,hb2,hb3,hb5]|assumption) ?_))) h));subst m9;rw[Rd.ok_to] at hk9;simp only[go_sem,gA5,hb1,hb2,hb3,hb5];have hk10:=hk9 (j5+1) { o with eq:=some u } (by omega) hlt9 hw9 hm5 (ItQ.set (k:=5) (a:=(some u,d.eqs.length+1,80)) hQ (by simp[dOwn]) hown2 (by omega) (by simp only;omega));refine DK.st hk10 ?_;unfold itS;rw[show dOwn { d with eqs:=d.eqs++[⟨x,y,z,t.line,t.col⟩] } { o with eq:=some u }=(dOwn d o).set 5 (some u,d.eqs.length+1,80) by simp[dOwn]];refine gsl_ge ?_;simp only[dcN,gv_some,List.map_append,List.map_cons,List.map_nil];exact (by (refine gel_ge ?_;repeat (first|exact gel_refl _ _ _|refine gsl_gel hown2.free ?_|refine gel_gs_gs ?_|refine gel_to_gs gs_self ?_|refine gB1 ?_|refine gB2 ?_|refine gel_set (by simp only[gA1,gA2,gA3,gA6,ne_eq,gA9,reduceIte,gA5,hb1,hb2,hb3,hb5]<;>(first|done|rfl|assumption)) ?_|refine gB3 ?_|refine gel_new (by first|simp only[hb1,hb2,hb3,hb5]|assumption) ?_)))
  rw[if_neg (by simp[c6])] at hk;simp only[go_sem,gA5,hb1,hb2,hb3,c6];refine is_den (d:=dcN d o) (T:=T) (fin:=fin) (first:=first) (i:=i) (n:=n) _ (by simp only[gA1,gA2,gA3,gA6,ne_eq,gA9,reduceIte,gA5,hb1,hb2,hb3]<;>(first|done|rfl|assumption)) hi ?_;rw[wAT];simp only[go_sem,gA5,hb1,hb2,hb3];cases c7:isTok t [114,117,108,101];rotate_left
  ·rw[if_pos c7,Rd.ite_to,Rd.bad_to] at hk;simp only[go_sem,gA5,hb1,hb2,hb3,c7];(refine draw_ok (V:=[0,1,2,3,4,5,14,20,59,76,107,134,177]) (OT.l [0,1,2,3,4,5,6] .nil) [] mixed_cx (by decide +kernel) ?_;simp only[go_sem,gA5,hb1,hb2,hb3,G8]);refine room_den (d:=dcN d o) (T:=T) (fin:=fin) (first:=first) (i:=i) (n:=n) _ _ (by simp only[gA1,gA2,gA3,gA6,ne_eq,gA9,reduceIte,gA5,hb1,hb2,hb3]<;>(first|done|rfl|assumption)) hi ?_;by_cases hm:300≤d.rules.length
   ·rw[if_pos hm] at hk;rw[if_pos (by (try simp only[gC4]);omega),hw];exact PB.of (by (repeat (first|refine gsl_gx hfr ?_|exact gA8 _ _|refine St.gx_r ?_|refine gA7 (by first|simp only[hb1,hb2,hb3]|assumption) ?_|refine St.gx_T (by first|simp only[hb1,hb2,hb3]|assumption) ?_))) hk
   rw[if_neg hm,Rd.bind_to,← g3] at hk;rw[if_neg (by (try simp only[gC4]);omega)];simp only[go_sem,gA5,hb1,hb2,hb3,wrap1 i (by omega)];(refine draw_ok (V:=[0,1,2,3,4,5,14,20,59,76,107,134,177]) (OT.l [0,1,2,3,4,5,6,7,8,9,10,11,12] .nil) [(7,[0,1,4]),(9,[0])] mixed_cx (by decide +kernel) ?_;simp only[go_sem,gA5,hb1,hb2,hb3]);refine rule_den (d:=dcN d o) (T:=T) (fin:=fin) (first:=first) (i:=i+1) (n:=n) hT t (by simp only[gA1,gA2,gA3,gA6,ne_eq,gA9,reduceIte,gA5,hb1,hb2,hb3]<;>(first|done|rfl|assumption)) g2 hn (Rd.to_mono hk (fun x w2 m2 hk2 j hj hjT hw2 hm2=>?_) (fun f h=>PB.of (by (repeat (first|refine gsl_gx hfr ?_|exact gA8 _ _|refine St.gx_r ?_|refine gA7 (by first|simp only[hb1,hb2,hb3]|assumption) ?_|refine St.gx_T (by first|simp only[hb1,hb2,hb3]|assumption) ?_))) h));subst hw2;rw[Rd.ok_to] at hk2;simp only[go_sem,gA5,hb1,hb2,hb3];refine ⟨by decide,fun y hy=>by simp only[List.mem_singleton] at hy;subst hy;rfl,appL_gv rfl rfl (by rw[gC4];refine gsl_gokX hown (k:=8) (o:=(o.ru,d.rules.length,84)) rfl ?_;exact fun _=>rfl) (fun y hy=>?_) (by simp only[gC4,gC1,gC3];omega) (fun u hu=>?_)⟩
   ·simp only[List.mem_map] at hy;obtain ⟨q,_,rfl⟩:=hy;rfl
   have hown2:=gsl_own hown (k:=8) (o:=(o.ru,d.rules.length,84)) rfl hu (fun _=>rfl) (d.rules.length+1);simp only[go_sem,gA5,hb1,hb2,hb3];refine Den.weaken (gsl_app hown (k:=8) (o:=(o.ru,d.rules.length,84)) rfl hown2 (fun _=>rfl)) ?_;refine want_den (d:={ dcN d o with rules:=.list (some u) (d.rules.map Rul.enc++[Rul.enc x]) }) (T:=T) (fin:=fin) (first:=first) (i:=j) (n:=m2) _ (by simp only[gA1,gA2,gA3,gA6,ne_eq,gA9,reduceIte,gA5,hb1,hb2,hb3]<;>(first|done|rfl|assumption)) hjT hT (Rd.to_mono hk2 (fun _ w9 m9 hk9 hlt9 hw9 hm9=>?_) (fun f h=>PB.of (by (repeat (first|refine gsl_gx hown2.free ?_|exact gA8 _ _|refine St.gx_r ?_|refine gA7 (by first|simp only[hb1,hb2,hb3]|assumption) ?_|refine St.gx_T (by first|simp only[hb1,hb2,hb3]|assumption) ?_))) h));subst m9;rw[Rd.ok_to] at hk9;simp only[go_sem,gA5,hb1,hb2,hb3];have hk10:=hk9 (j+1) { o with ru:=some u } (by omega) hlt9 hw9 hm2 (ItQ.set (k:=8) (a:=(some u,d.rules.length+1,84)) hQ (by simp[dOwn]) hown2 (by omega) (by simp only;omega));refine DK.st hk10 ?_;unfold itS;rw[show dOwn { d with rules:=d.rules++[x] } { o with ru:=some u }=(dOwn d o).set 8 (some u,d.rules.length+1,84) by simp[dOwn]];refine gsl_ge ?_;simp only[dcN,gv_some,List.map_append,List.map_cons,List.map_nil];exact (by (refine gel_ge ?_;repeat (first|exact gel_refl _ _ _|refine gsl_gel hown2.free ?_|refine gel_gs_gs ?_|refine gel_to_gs gs_self ?_|refine gB1 ?_|refine gB2 ?_|refine gel_set (by simp only[gA1,gA2,gA3,gA6,ne_eq,gA9,reduceIte,gA5,hb1,hb2,hb3]<;>(first|done|rfl|assumption)) ?_|refine gB3 ?_|refine gel_new (by first|simp only[hb1,hb2,hb3]|assumption) ?_)))
  rw[if_neg (by simp[c7])] at hk;simp only[go_sem,gA5,hb1,hb2,hb3,c7];refine Den.weaken (s':=itS T fin first r (((s.setO b1 (.cells 74 [.ptr r 0])).setO b2 (.cells 60 t.cs)).setO b3 (.cells 191 [.ptr r 6])) d o i n) (gsl_ge (by (refine gel_ge ?_;repeat (first|exact gel_refl _ _ _|refine gsl_gel hfr ?_|refine gel_gs_gs ?_|refine gel_to_gs gs_self ?_|refine gB1 ?_|refine gB2 ?_|refine gel_set (by simp only[gA1,gA2,gA3,gA6,ne_eq,gA9,reduceIte,gA5,hb1,hb2,hb3]<;>(first|done|rfl|assumption)) ?_|refine gB3 ?_|refine gel_new (by first|simp only[hb1,hb2,hb3]|assumption) ?_)))) (place_den hT t w hw ⟨hown.to (fun _=>rfl),hQ.len⟩ hn (Rd.to_mono hk (fun d2 w2 m2 hk2 j o2 hj hjT hw2 hm2 hQ2=>?_) (fun f h s1 x hg hr1=>DK.here (h s1 x (hg.trans (by (repeat (first|refine gsl_gx hfr ?_|exact gA8 _ _|refine St.gx_r ?_|refine gA7 (by first|simp only[hb1,hb2,hb3]|assumption) ?_|refine St.gx_T (by first|simp only[hb1,hb2,hb3]|assumption) ?_)))) hr1))));subst hw2;have hown2:OwnOk s (dOwn d2 o2):=hQ2.own.to (fun _=>rfl);unfold itS;simp only[go_sem,gA5,hb1,hb2,hb3];refine want_den (d:=dcN d2 o2) (T:=T) (fin:=fin) (first:=first) (i:=j) (n:=m2) _ (by simp only[gA1,gA2,gA3,gA6,ne_eq,gA9,reduceIte,gA5,hb1,hb2,hb3]<;>(first|done|rfl|assumption)) hjT hT (Rd.to_mono hk2 (fun _ w9 m9 hk9 hlt9 hw9 hm9=>?_) (fun f h=>PB.of (by (repeat (first|refine gsl_gx hown2.free ?_|exact gA8 _ _|refine St.gx_r ?_|refine gA7 (by first|simp only[hb1,hb2,hb3]|assumption) ?_|refine St.gx_T (by first|simp only[hb1,hb2,hb3]|assumption) ?_))) h));subst m9;rw[Rd.ok_to] at hk9;simp only[go_sem,gA5,hb1,hb2,hb3];have hk10:=hk9 (j+1) o2 (by omega) hlt9 hw9 hm2 ⟨hown2,fun a ha=>Nat.le_trans (hQ2.len a ha) (by omega)⟩;refine DK.st hk10 (gsl_ge ?_);simp only[dcN];exact (by (refine gel_ge ?_;repeat (first|exact gel_refl _ _ _|refine gsl_gel hown2.free ?_|refine gel_gs_gs ?_|refine gel_to_gs gs_self ?_|refine gB1 ?_|refine gB2 ?_|refine gel_set (by simp only[gA1,gA2,gA3,gA6,ne_eq,gA9,reduceIte,gA5,hb1,hb2,hb3]<;>(first|done|rfl|assumption)) ?_|refine gB3 ?_|refine gel_new (by first|simp only[hb1,hb2,hb3]|assumption) ?_)))
end
end Go.AV
end
section
namespace Go.AV
open Go Go.Proofs
theorem ex40qC (s:St):Ex cx 14 c40 (fun x _ s'=>x=.normal∧s'=s) [(5,.nili)] s:=by
 refine wpC_ok (V:=[0,2,3,4,5,6,7,8,9,10,11,12,13]) _ _ _ _ ?_;simp only[c40,Tryz.f40];simp only[go_sem]
theorem ex40lC (s:St) (b:Nat) (x0 x1 x2 x3 y0 y1 y2 y3:A) (hb:s.getO b=some (.cells 36 [y0,y1,y2,y3])) (h0:x0.one=true) (h1:x1.one=true) (h2:x2.one=true) (h3:x3.one=true) :
  Ex cx 14 c40 (fun x _ s'=>x=.normal∧s'.ge (s.setO b (.cells 36 [x0,x1,x2,x3]))) [(0,.ptr b 0),(5,.iface 36 (.agg [x0,x1,x2,x3]))] s:=by
 refine wpC_ok (V:=[0,2,3,4,5,6,7,8,9,10,11,12,13]) _ _ _ _ ?_;simp only[c40,Tryz.f40];simp only[go_sem,h0,h1,h2,h3];intro q hq;have hne:=St.ne_of hb hq;simp only[go_sem,h0,h1,h2,h3,hne,hb];have ho:(x0.one&&(x1.one&&(x2.one&&x3.one)))=true:=by rw[h0,h1,h2,h3];rfl
 refine ⟨ho,ho,?_⟩;exact gel_ge (gel_set (by simp only[gA1,if_true]) (gel_in (by simp) (gel_new hq (gel_refl _ _ _))))
structure CatchC (C:Cx) (h:FuncId) (ft:TypeId):Prop where
 quiet:∀ F g s w (p:Value),R C.toCtx F g s w→CallsD C.P h #[p] .returning w fun e u' w'=>(∃ v,e=.returned v)∧u'=.returning∧∃ g',g.le g'∧R C.toCtx F g' s w'
 loud:∀ F g s w (b k:Nat) (cs fs:List A) (v:Value),R C.toCtx F g s w→g.beta b=some k→s.getO b=some (.cells ft cs)→Rz g (.agg fs) v→fs.length=cs.length→fs.length=4 →
  CallsD C.P h #[.pointer (some ⟨k,0,none⟩)] (.panicking [{ v:=.iface ft v,recovered:=false }]) w fun e u' w'=>(∃ v,e=.returned v)∧settle u'=.returning ∧
   ∃ g',g.le g'∧R C.toCtx F g' (s.setO b (.cells ft fs)) w'
theorem catchC_ok:CatchC cx 40 36 where
 quiet:=by
  intro F g s w p hR;refine callsD_of_wpS (fn:=Tryz.f40) Tryz.func40 body40 fun c₀ cs hu=>?_
  refine wpS_seq (step40 ?_);have hrec:recoverD (c₀::cs)=none:=by simp[recoverD,hu]
  rw[hrec];refine wpS_of_wp ?_;have hE:=(env40 (g:=g) #[p] rfl).put (a:=⟨_,[]⟩) (d:=5) (x:=.nili) (v:=.nilIface) (by decide) .nili;refine Code.wp_mono (fun ex a' w' hp=>?_) (ex40qC s F g w _ hR hE);obtain ⟨g',e',s',x,h1,h2,h3,h4,h5,rfl,rfl⟩:=hp;cases ex<;>try exact h5.elim
  refine ⟨h4,.returning,by rw[← hu],_,res40 a' w',⟨_,rfl⟩,rfl,g',h1,h2⟩
 loud:=by
  intro F g s w b k cs fs v hR hbk hb hv hl h4
  obtain ⟨x0,x1,x2,x3,rfl⟩:∃ x0 x1 x2 x3,fs=[x0,x1,x2,x3]:=by
   match fs,h4 with
   | [x0,x1,x2,x3],_=>exact ⟨x0,x1,x2,x3,rfl⟩
  obtain ⟨y0,y1,y2,y3,rfl⟩:∃ x0 x1 x2 x3,cs=[x0,x1,x2,x3]:=by
   match cs,hl with
   | [x0,x1,x2,x3],_=>exact ⟨x0,x1,x2,x3,rfl⟩
  obtain ⟨vs,hv1,hv2,hone⟩:=hv.agg_inv;refine callsD_of_wpS (fn:=Tryz.f40) Tryz.func40 body40 fun c₀ cs hu=>?_
  refine wpS_seq (step40 ?_);have hrec:recoverD (c₀::cs)=some (.iface 36 v,{ c₀ with mode:=.panicking [{ v:=.iface 36 v,recovered:=true }] }::cs):=by simp[recoverD,hu]
  rw[hrec];refine wpS_of_wp ?_
  have hE0:EnvOk g 14 [(0,.ptr b 0)] (#[Value.pointer (some ⟨k,0,none⟩)]++Array.replicate (Tryz.f40.ntmps-(#[Value.pointer (some ⟨k,0,none⟩)]).size) undef):=by
   refine ⟨by simp[Tryz.f40],fun t a ha=>?_⟩;simp only[Env.get] at ha;split at ha
   ·rename_i ht;subst ht;cases ha;exact ⟨_,rfl,.ptr b 0 k hbk⟩
   ·cases ha
  have hE:=hE0.put (a:=⟨_,[]⟩) (d:=5) (x:=.iface 36 (.agg [x0,x1,x2,x3])) (v:=.iface 36 v) (by decide) (.iface 36 _ v hv);refine Code.wp_mono (fun ex a' w' hp=>?_) (ex40lC s b x0 x1 x2 x3 y0 y1 y2 y3 hb (hone x0 (by simp)) (hone x1 (by simp)) (hone x2 (by simp)) (hone x3 (by simp)) F g w _ hR hE);obtain ⟨g',e',s',x,h1,h2,h3,h4,h5,rfl,h6⟩:=hp;cases ex<;>try exact h5.elim
  refine ⟨h4,.panicking [{ v:=.iface 36 v,recovered:=true }],rfl,_,res40 a' w',⟨_,rfl⟩,rfl,g',h1,h2.weaken h6 (fun h=>by cases h)⟩
section
variable {C:Cx} {n:Nat} {e:Env} {s:St}
def PostDD (C:Cx) (F:Fr) (g0:Gh) (n:Nat) (h:FuncId) (Q:Option Nat→XK→Env→St→Prop) (ex:Exit) (a:Act) (w:World):Prop :=
 ∃ g' e s x d,g0.le g'∧R C.toCtx F g' s w∧EnvOk g' n e a.tmps∧XRz g' x ex ∧
  (match d with
   | none=>a.defers=[]
   | some b=>∃ k,g'.beta b=some k∧a.defers=[dfrd h k])∧Q d x e s
def ExD (C:Cx) (n:Nat) (h:FuncId) (c:Code) (Q:Option Nat→XK→Env→St→Prop) (e:Env) (s:St):Prop :=
 ∀ F g w a,R C.toCtx F g s w→EnvOk g n e a.tmps→a.defers=[]→c.wp C.P (PostDD C F g n h Q) a w
def seqD (R:Env→St→Prop) (Q:Option Nat→XK→Env→St→Prop):XK→Env→St→Prop
 | .normal,e,s=>R e s
 | x,e,s=>Q none x e s
theorem ExD.seq {h:FuncId} {c d:Code} {Q:Option Nat→XK→Env→St→Prop} (hc:Ex C n c (seqD (ExD C n h d Q) Q) e s):ExD C n h (.seq c d) Q e s:=fun F g w a hR hE hD=>by
 refine wp_seq (Code.wp_mono (fun ex a' w' hq=>?_) (hc F g w a hR hE));obtain ⟨g',e',s',x,h1,h2,h3,h4,h5,h6⟩:=hq;cases ex<;>cases x<;>try exact h5.elim
 ·refine Code.wp_mono (fun ex a2 w2 hq=>?_) (h6 F g' w' a' h2 h3 (by rw[h4];exact hD));obtain ⟨g2,e2,s2,x2,d2,q1,q2⟩:=hq;exact ⟨g2,e2,s2,x2,d2,h1.trans q1,q2⟩
 all_goals exact ⟨g',e',s',_,none,h1,h2,h3,h5,by rw[h4];exact hD,h6⟩
theorem ExD.defer {h:FuncId} {c d:Code} {y:Operand} {b:Nat} {Q:Option Nat→XK→Env→St→Prop} (hc:isDefer c=some (h,y)) (hy:opd C e y=some (.ptr b 0)) (hd:Ex C n d (Q (some b)) e s):ExD C n h (.seq c d) Q e s:=fun F g w a hR hE hD=>by
 obtain ⟨id,ops,ats,ty,pos,after,rfl,hops⟩:=isDefer_ok hc;obtain ⟨k,hv,hbk⟩:=((hE.oper hR) y _ hy).ptr_inv;refine wp_seq ?_
 have hq:∀ (a':Act),a'.tmps=a.tmps→a'.defers=[dfrd h k]→d.wp C.P (PostDD C F g n h Q) a' w:=by
  intro a' ht hd';refine Code.wp_mono (fun ex a2 w2 hq=>?_) (hd F g w a' hR (by rw[ht];exact hE));obtain ⟨g',e',s',x,h1,h2,h3,h4,h5,h6⟩:=hq;exact ⟨g',e',s',x,some b,h1,h2,h3,h5,⟨k,h1.beta _ _ hbk,by rw[h4];exact hd'⟩,h6⟩
 refine wp_region_list ?_;rw[hops];unfold wpList;rw[if_pos (by simp[Region.wanted])];left
 have hex:(execOp a.eval ⟨none,.defer ⟨.value (.func h),#[y],ats⟩,ty,pos,after,none⟩).run C.P w=.ok (.defer (dfrd h k)) w:=by
  have e1:a.eval (.func h)=.func (.func h) #[] #[]:=rfl;simp only[execOp,resolve,e1,Deferred.ofValue,Sem.run_bind,Sem.run_pure,Result.andThen_ok,List.map_toArray,List.map_cons,List.map_nil,hv,dfrd];simp
 unfold Oper.wp;rw[hex,Oper.upon_defer];unfold wpList;exact hq _ rfl (by simp[Act.put,hD])
def retD (C:Cx) (rs:List ResultVar) (KV Kp:St→A→Prop):Option Nat→XK→Env→St→Prop
 | none,x,e,s=>retK C rs KV Kp x e s
 | some b,.panic v,e,s=>∃ fs cs,v=.iface 36 (.agg fs)∧s.getO b=some (.cells 36 cs)∧fs.length=cs.length∧fs.length=4∧retK C rs KV Kp .ret e (s.setO b (.cells 36 fs))
 | some b,x,e,s=>retK C rs KV Kp x e s
theorem Den.of_defer {f:FuncId} {fn:Func} {c:Code} {args:List A} {KV Kp:St→A→Prop} (hct:CatchC C 40 36)
  (hent:∀ (k:Nat) (w:World),(invoke (.fn (.func 40) #[]) #[.pointer (some ⟨k,0,none⟩)]).run C.P w=.ok (.enter 40 #[.pointer (some ⟨k,0,none⟩)]) w)
  (hf : C.P.funcs[f]? = some fn) (hb : fn.body = some c) (hname : (fn.name == "runtime.NumGoroutine") = false) (hn : args.length ≤ fn.ntmps)
  (h:ExD C fn.ntmps 40 c (retD C fn.results.toList KV Kp) (envOf 0 args) s):Den C f args KV Kp s:=by
 refine Den.of_bodyD hf hb hname hn fun F g w a hR hE hD=>?_
 refine Code.wp_mono (fun ex a' w' hq=>?_) (h F g w a hR hE hD);obtain ⟨g',e',s',x,d,q1,q2,q3,q4,q7,hq⟩:=hq
 have ret:∀ (g2:Gh) (s2:St) (w2:World) (x:XK),(x=.normal∨x=.ret)→retK C fn.results.toList KV Kp x e' s2→R C.toCtx F g2 s2 w2→g'.le g2 →
   ∃ v,(results fn a'.tmps).run C.P w2=.ok v w2∧∃ g3 a s,g.le g3∧R C.toCtx F g3 s w2∧Rz g3 a v∧KV s a:=by
  intro g2 s2 w2 x hx hk hR2 hle
  have hk':∃ l,resA C e' s2 fn.results.toList=some l∧KV s2 (outA l):=by
   rcases hx with rfl|rfl<;>simp only[retK] at hk<;>split at hk
   ·exact ⟨_,by assumption,hk⟩
   ·exact hk.elim
   ·exact ⟨_,by assumption,hk⟩
   ·exact hk.elim
  obtain ⟨l,hl,hk'⟩:=hk';obtain ⟨vs,r1,r2⟩:=resA_ok hR2 (q3.mono hle) _ _ hl;refine ⟨_,?_,g2,_,s2,q1.trans hle,hR2,outA_ok r2,hk'⟩;have e0:results fn a'.tmps=(do let vs ← fn.results.mapM (resF a'.tmps);pure (if h:vs.size=1 then vs[0] else .tuple vs)):=rfl;rw[e0,Sem.run_bind,Array.mapM_eq_mapM_toList,Sem.run_map,r1];rfl
 cases d with
 | none =>
  simp only[retD] at hq;simp only at q7;cases ex<;>cases x<;>try exact q4.elim
  ·obtain ⟨v,r1,g3,aa,ss,r2⟩:=ret g' s' w' .normal (.inl rfl) hq q2 (Gh.le.refl g');simp only[bodyPostD,q7,Leaves];exact ⟨v,r1,g3,aa,ss,r2⟩
  ·exact hq.elim
  ·exact hq.elim
  ·obtain ⟨v,r1,g3,aa,ss,r2⟩:=ret g' s' w' .ret (.inr rfl) hq q2 (Gh.le.refl g');simp only[bodyPostD,q7,Leaves];exact ⟨v,r1,g3,aa,ss,r2⟩
  ·obtain ⟨v,rfl,hrv⟩:=q4;simp only[bodyPostD,q7,Leaves];exact ⟨g',_,v,s',rfl,q1,q2,hrv,hq⟩
 | some b =>
  obtain ⟨k,hbk,hdf⟩:=q7;have hinv:(invoke (dfrd 40 k).target (dfrd 40 k).args).run C.P w'=.ok (.enter 40 #[.pointer (some ⟨k,0,none⟩)]) w':=hent k w'
  have quiet:∀ (x:XK),(x=.normal∨x=.ret)→retK C fn.results.toList KV Kp x e' s'→Leaves C.P fn a'.tmps (DPost C F g KV Kp) [dfrd 40 k] .returning w':=by
   intro x hx hq;refine ⟨by simp,_,_,_,_,rfl,hinv,?_⟩;refine fun c cs hc=>?_
   obtain ⟨e,u',w2,fr,⟨⟨v0,rfl⟩,rfl,g2,hle,hR2⟩,hcm⟩:=hct.quiet F g' s' w' (.pointer (some ⟨k,0,none⟩)) q2 c cs hc;obtain ⟨v,r1,r2⟩:=ret g2 s' w2 x hx hq hR2 hle;exact ⟨.returned v0,.returning,w2,fr,(show Leaves C.P fn a'.tmps (DPost C F g KV Kp) [] .returning w2 from ⟨v,r1,r2⟩),hcm⟩
  cases ex<;>cases x<;>try exact q4.elim
  ·simp only[bodyPostD,hdf];exact quiet .normal (.inl rfl) hq
  ·exact hq.elim
  ·exact hq.elim
  ·simp only[bodyPostD,hdf];exact quiet .ret (.inr rfl) hq
  ·obtain ⟨v,rfl,hrv⟩:=q4;obtain ⟨fs,cs,rfl,hbo,hl,h4,hq⟩:=hq;obtain ⟨u,rfl,hru⟩:=hrv.iface_inv;simp only[bodyPostD,hdf];refine ⟨by simp,_,_,_,_,rfl,hinv,?_⟩;refine fun c cs0 hc0=>?_
   obtain ⟨e,u',w2,fr,⟨⟨v0,rfl⟩,hset,g2,hle,hR2⟩,hcm⟩:=hct.loud F g' s' w' b k cs fs u q2 hbk hbo hru hl h4 c cs0 hc0;obtain ⟨v,r1,r2⟩:=ret g2 _ w2 .ret (.inr rfl) hq hR2 hle;exact ⟨.returned v0,u',w2,fr,(show Leaves C.P fn a'.tmps (DPost C F g KV Kp) [] (settle u') w2 from by rw[hset];exact ⟨v,r1,r2⟩),hcm⟩
end
end Go.AV
end
section
namespace Go.AV
open Go Go.Proofs
section
variable {C:Cx} {n:Nat} {h b:Nat} {R:Env→St→Prop} {Q:Option Nat→XK→Env→St→Prop} {e:Env} {s:St} {rs:List ResultVar} {KV Kp:St→A→Prop} {x:XK} {v:A}
@[go_sem] theorem seqD_normal:seqD R Q .normal e s=R e s:=rfl
@[go_sem] theorem seqD_ret:seqD R Q .ret e s=Q none .ret e s:=rfl
@[go_sem] theorem seqD_panic:seqD R Q (.panic v) e s=Q none (.panic v) e s:=rfl
@[go_sem] theorem retD_none:retD C rs KV Kp none x e s=retK C rs KV Kp x e s:=rfl
@[go_sem] theorem retD_normal:retD C rs KV Kp (some b) .normal e s=retK C rs KV Kp .normal e s:=rfl
@[go_sem] theorem retD_ret:retD C rs KV Kp (some b) .ret e s=retK C rs KV Kp .ret e s:=rfl
@[go_sem] theorem retD_panic:retD C rs KV Kp (some b) (.panic v) e s=∃ fs cs,v=.iface 36 (.agg fs)∧s.getO b=some (.cells 36 cs)∧fs.length=cs.length∧fs.length=4∧retK C rs KV Kp .ret e (s.setO b (.cells 36 fs)):=rfl
end
theorem ent40C (k:Nat) (w:World):(invoke (.fn (.func 40) #[]) #[.pointer (some ⟨k,0,none⟩)]).run cx.P w=.ok (.enter 40 #[.pointer (some ⟨k,0,none⟩)]) w:=ent40 k w
def noOwn:DOwn:=⟨none,none,none,none,none,none,none,none,none⟩
def noTok:Tok:=⟨0,[],0,0,0⟩
theorem dcN_le (d:Dfn) (o:DOwn) {s:St} (h:OwnOk s (dOwn d o)):A.le (.agg (dcN d o).cs) d.enc:=by
 have z:∀ k (a:Own),(dOwn d o)[k]?=some a→a.1=none→a.2.1=0:=fun k a hk=>h.nil a (List.mem_of_getElem? hk)
 have g:∀ {α:Type} (tk:Option Nat) (f:α→A) (l:List α) (k:Nat) (e:TypeId),(dOwn d o)[k]?=some (tk,l.length,e)→A.le (gv tk (l.map f)) (.list none (l.map f)):=fun tk f l k e hk =>
  gv_le tk _ (fun hn=>by rw[List.eq_nil_of_length_eq_zero (z k _ hk hn)];rfl)
 exact A.le.agg ⟨⟨A.le.refl _,rfl⟩,⟨g o.so _ _ 0 9 rfl,rfl⟩,⟨g o.be _ _ 1 104 rfl,rfl⟩,⟨g o.op _ _ 2 73 rfl,rfl⟩,⟨g o.fu _ _ 3 73 rfl,rfl⟩,⟨g o.va _ _ 4 9 rfl,rfl⟩,⟨g o.eq _ _ 5 80 rfl,rfl⟩,⟨g o.on _ _ 6 68 rfl,rfl⟩,⟨A.le.refl _,rfl⟩,⟨g o.ma _ _ 7 68 rfl,rfl⟩,⟨g o.ru _ _ 8 84 rfl,rfl⟩,⟨A.le.refl _,rfl⟩,⟨A.le.refl _,rfl⟩,trivial⟩
theorem noDfn_own {s:St}:OwnOk s (dOwn noDfn noOwn):=by
 refine ⟨fun o ho u hu=>?_,fun o ho _=>?_,fun i j a b u hi hj ha hb=>?_⟩
 ·simp only[dOwn,gC5,List.not_mem_nil,or_false] at ho;rcases ho with rfl|rfl|rfl|rfl|rfl|rfl|rfl|rfl|rfl<;>cases hu
 ·simp only[dOwn,gC5,List.not_mem_nil,or_false] at ho;rcases ho with rfl|rfl|rfl|rfl|rfl|rfl|rfl|rfl|rfl<;>rfl
 ·have:=List.mem_of_getElem? hi;simp only[dOwn,gC5,List.not_mem_nil,or_false] at this;rcases this with rfl|rfl|rfl|rfl|rfl|rfl|rfl|rfl|rfl<;>cases ha
section
variable {T:List Tok} {fin:Fault} {s:St} {r:Nat} {KV Kp:St→A→Prop}
def DfnK (KV:St→A→Prop) (s:St) (r:Nat):Rd Dfn→Prop
 | .ok d _ _=>∀ o,KV (s.setO r o) (.tuple [d.enc,Fault.none.enc])
 | .bad f=>∀ o,KV (s.setO r o) (.tuple [noDfn.enc,f.enc])
theorem def_den (hT:TOk T) (hr:s.getO r=some (psO T fin (dcN noDfn noOwn) noTok 0 0)) (hk:DfnK KV s r (defR false fin T)):Den cx 38 [.ptr r 0] KV Kp s:=by
 have hlenT:=hT.len;refine Den.drop ?_;refine Den.of_defer catchC_ok ent40C Tryz.func38 rfl rfl (gC6 rfl) ?_;refine ExD.seq ?_;refine wpC_ok (V:=[0,2,3,25]) _ _ _ _ ?_;simp only[go_sem,Tryz.ntmps38,Tryz.f38];(intro b2 hb2;try simp only[gD6,gA6,ne_eq] at hb2);have e2:=St.ne_of hr (by first|exact hb2|exact hb2.2|exact hb2.2.2|exact hb2.2.2.2|exact hb2.2.2.2.2|exact hb2.2.2.2.2.2|exact hb2.2.2.2.2.2.2);simp only[go_sem,Tryz.ntmps38,Tryz.f38,hb2,e2];(intro b3 hb3;try simp only[gD6,gA6,ne_eq] at hb3);have e3:=St.ne_of hr (by first|exact hb3|exact hb3.2|exact hb3.2.2|exact hb3.2.2.2|exact hb3.2.2.2.2|exact hb3.2.2.2.2.2|exact hb3.2.2.2.2.2.2);simp only[go_sem,Tryz.ntmps38,Tryz.f38,hb2,e2,hb3,e3];refine ExD.defer (by rfl) (b:=b3) (by simp only[go_sem,Tryz.ntmps38,Tryz.f38,hb2,e2,hb3,e3]) ?_;refine wpC_ok (V:=[0,2,3,25]) _ _ _ _ ?_;simp only[go_sem,Tryz.ntmps38,Tryz.f38,hb2,e2,hb3,e3];generalize hs2:(s.setO b2 (Ob.cells 33 [.str [],.nils,.nils,.nils,.nils,.nils,.nils,.nils,.str [],.nils,.nils,.str [],.str []])).setO b3 (Ob.cells 36 [.int .i64 0,.str [],.int .i64 0,.int .i64 0])=s2;have hr2:s2.getO r=some (psO T fin (dcN noDfn noOwn) noTok 0 0):=by subst hs2;exact (by simp only[gA1,gA2,gA3,gA6,ne_eq,gA9,reduceIte,Tryz.ntmps38,Tryz.f38,hb2,e2,hb3,e3,hr]<;>(first|done|rfl|assumption))
 have h22:s2.getO b2=some (Ob.cells 33 [.str [],.nils,.nils,.nils,.nils,.nils,.nils,.nils,.str [],.nils,.nils,.str [],.str []]):=by subst hs2;exact (by simp only[gA1,gA2,gA3,gA6,ne_eq,gA9,reduceIte,Tryz.ntmps38,Tryz.f38,hb2,e2,hb3,e3]<;>(first|done|rfl|assumption))
 have h23:s2.getO b3=some (Ob.cells 36 [.int .i64 0,.str [],.int .i64 0,.int .i64 0]):=by subst hs2;exact (by simp only[gA1,gA2,gA3,gA6,ne_eq,gA9,reduceIte,Tryz.ntmps38,Tryz.f38,hb2,e2,hb3,e3]<;>(first|done|rfl|assumption))
 have hs2g:∀ s1:St,s1.gx s2 r→s1.gx s r:=fun s1 h=>h.trans (by subst hs2;exact (by (repeat (first|exact gA8 _ _|refine St.gx_r ?_|refine gA7 (by first|simp only[hb2,hb3]|assumption) ?_|refine St.gx_T (by first|simp only[hb2,hb3]|assumption) ?_))))
 have bad:∀ (f:Fault) (s1:St) (o:Ob) (e:Env),e.get 2=some (.ptr b2 0)→e.get 3=some (.ptr b3 0)→(∀ o,KV (s.setO r o) (.tuple [noDfn.enc,f.enc]))→s1.gx s2 r→s1.getO r=some o →
   retD cx [ResultVar.cell 2 33,ResultVar.cell 3 36] (DK KV) (DK Kp) (some b3) (.panic (.iface 36 f.enc)) e s1:=by
  intro f s1 o e g2 g3 hb hg ho;have q2:=hg.ob b2 e2.2 _ h22;have q3:=hg.ob b3 e3.2 _ h23;simp only[go_sem,Tryz.ntmps38,Tryz.f38,hb2,e2,hb3,e3,q2,q3];refine ⟨f.cs,_,rfl,rfl,rfl,rfl,?_⟩;simp only[go_sem,Tryz.ntmps38,Tryz.f38,hb2,e2,hb3,e3,q2,q3,g2,g3];have hbo:=hb o;simp only[go_sem] at hbo;exact DK.mk hbo (St.gx.ge (gA7 hb3.2 (hs2g _ hg)) (by rw[gA1,if_neg e3.2];exact ho)) (A.le.tuple ⟨dcN_le noDfn noOwn (s:=s) noDfn_own,A.le.refl _,trivial⟩)
 have hk2:(defR false fin T).to (fun d _ _=>∀ o,KV (s.setO r o) (.tuple [d.enc,Fault.none.enc])) (fun f=>∀ o,KV (s.setO r o) (.tuple [noDfn.enc,f.enc])):=by
  revert hk;unfold DfnK;cases defR false fin T<;>exact id
 simp only[defR,Rd.bind_to] at hk2;have hT0:T=T.drop 0:=rfl;rw[hT0] at hk2;refine want_den (d:=dcN noDfn noOwn) (T:=T) (fin:=fin) (first:=noTok) (i:=0) (n:=0) _ hr2 (Nat.zero_le _) hT (Rd.to_mono hk2 (fun _ w1 m1 hk3 hlt1 hw1 hm1=>?_) (fun f h o=>?_));rotate_left
 ·exact bad f _ o _ rfl rfl h (St.gx_r (gA8 _ _)) (by rw[gA1,if_pos rfl])
 subst m1;rw[← hw1] at hk3;simp only[go_sem];refine name_den (d:=dcN noDfn noOwn) (T:=T) (fin:=fin) (first:=noTok) (i:=0+1) (n:=0) (by rw[gA1,if_pos rfl];rfl) hlt1 hT (Rd.to_mono hk3 (fun x w2 m2 hk4 hlt2 hw2 hm2=>?_) (fun f h o=>?_));rotate_left
 ·exact bad f _ o _ rfl rfl h (St.gx_r (St.gx_r (gA8 _ _))) (by rw[gA1,if_pos rfl])
 subst m2;rw[← hw2] at hk4;simp only[go_sem,e2,e3,h22,h23];refine want_den (d:={ dcN noDfn noOwn with name:=x }) (T:=T) (fin:=fin) (first:=noTok) (i:=0+1+1) (n:=0) _ (by rw[gA1,if_pos rfl];rfl) hlt2 hT (Rd.to_mono hk4 (fun _ w3 m3 hk5 hlt3 hw3 hm3=>?_) (fun f h o=>?_));rotate_left
 ·exact bad f _ o _ rfl rfl h (St.gx_r (St.gx_r (gA8 _ _))) (by rw[gA1,if_pos rfl])
 subst m3;rw[← hw3] at hk5;simp only[go_sem,e2,e3,h22,h23];rw[show (T.drop (0+1+1+1)).length=T.length-(0+1+1+1) by rw[gD4]] at hk5
 refine Ex.loop (ι:=(Dfn × DOwn) × Nat × Nat × Nat) (fun c=>[(0,.ptr r 0),(2,.ptr b2 0),(3,.ptr b3 0)]) (fun c=>itS T fin noTok r s2 c.1.1 c.1.2 c.2.1 c.2.2.1)
  (fun c=>ItQ s2 c.1.1 c.1.2 c.2.1∧c.2.1≤T.length∧c.2.2.1≤2000∧T.length-c.2.1<c.2.2.2∧(itemsR false fin c.2.2.2 c.1.1 (T.drop c.2.1) c.2.2.1).to (fun d _ _=>∀ o,KV (s.setO r o) (.tuple [d.enc,Fault.none.enc])) (fun f=>∀ o,KV (s.setO r o) (.tuple [noDfn.enc,f.enc])))
  (fun c=>T.length-c.2.1) (({ noDfn with name:=x },noOwn),0+1+1+1,0,T.length-(0+1+1+1)+1) ?_ ?_ ?_ ?_
 ·refine ⟨⟨noDfn_own,fun a ha=>?_⟩,hlt3,Nat.zero_le _,Nat.lt_succ_self _,hk5⟩;simp only[dOwn,gC5,List.not_mem_nil,or_false] at ha;rcases ha with rfl|rfl|rfl|rfl|rfl|rfl|rfl|rfl|rfl<;>exact Nat.zero_le _
 ·simp only[go_sem,e2,e3,h22,h23]
 ·show St.ge _ (s2.setO r _);exact (by (refine gel_ge ?_;repeat (first|exact gel_refl _ _ _|refine gel_gs_gs ?_|refine gel_to_gs gs_self ?_|refine gB1 ?_|refine gB2 ?_|refine gel_set (by simp only[gA1,gA2,gA3,gA6,ne_eq,gA9,reduceIte,e2,e3,h22,h23]<;>(first|done|rfl|assumption)) ?_|refine gB3 ?_|refine gel_new (by first|simp only[hb2,hb3]|assumption) ?_)))
 ·rintro ⟨⟨d,o⟩,i,n,k⟩ ⟨hQ,hi,hn,hik,hk6⟩;simp only at hQ hi hn hik hk6;obtain ⟨k,rfl⟩:∃ k',k=k'+1:=⟨k-1,by omega⟩
  have hown:=hQ.own;have hfr:=hown.free;refine wpC_ok (V:=[0,2,3,25]) _ _ _ _ ?_;unfold itS;have n23:=hb3.1;simp only[go_sem,e2,e3,h22,h23,gA5,n23];(refine draw_ok (V:=[0,2,3,25]) (OT.l [0,1,2,3,4,5,6,7,8,9] .nil) [] mixed_cx (by decide +kernel) ?_;simp only[go_sem,e2,e3,h22,h23,gA5,n23]);cases hc:decide (i<T.length) with
  | true =>
   have hlt:i<T.length:=by simpa using hc
   have hne:T.drop i≠[]:=by intro e;have:=congrArg List.length e;rw[gD4,gC3] at this;omega
   obtain ⟨t,w,hw⟩:∃ t w,T.drop i=t::w:=by
    cases hq:T.drop i with
    | nil=>exact absurd hq hne
    | cons t w=>exact ⟨t,w,rfl⟩
   rw[hw,itemsR,Rd.bind_to,← hw] at hk6;simp only[go_sem,e2,e3,h22,h23,gA5,n23];refine item_den hT hi hQ hn (Rd.to_mono hk6 (fun d' w' n' hk7 j o' hj hjT hw' hn' hQ'=>?_) (fun f h s1 x hg hr1=>?_))
   ·subst hw';simp only[go_sem,e2,e3,h22,h23,gA5,n23];exact ⟨((d',o'),j,n',k),⟨hQ',hjT,hn',by simp only;omega,hk7⟩,by simp only;omega,St.ge.refl _⟩
   ·exact bad f _ _ _ rfl rfl h hg hr1
  | false =>
   have hge:¬ i<T.length:=by simpa using hc
   rw[List.drop_eq_nil_of_le (by omega),itemsR,Rd.ok_to] at hk6;simp only[go_sem,e2,e3,h22,h23,gA5,n23];(refine draw_ok (V:=[0,2,3,25]) (OT.l [0,1,2,3,4,5,6] .nil) [(5,[4])] mixed_cx (by decide +kernel) ?_;simp only[go_sem,e2,e3,h22,h23,gA5,n23]);have hone:(A.one (gv o.so (d.sig.sorts.map .str))&&(A.one (gv o.be (d.sig.below.map Below.enc))&&(A.one (gv o.op (d.sig.ops.map Opr.enc))&&(A.one (gv o.fu (d.sig.funs.map Opr.enc))&&(A.one (gv o.va (d.sig.values.map .str))&&(A.one (gv o.eq (d.eqs.map Eqn.enc))&&(A.one (gv o.on (d.once.map Cel.enc))&&(A.one (gv o.ma (d.many.map Cel.enc))&&A.one (gv o.ru (d.rules.map Rul.enc))))))))))=true:=by simp only[gv_one,Bool.and_true]
   refine ⟨hone,?_⟩;have hk7:=hk6 (psO T fin (dcN d o) noTok i n);have hle:=dcN_le d o hown;simp only[go_sem] at hk7;simp only[go_sem] at hle;refine DK.mk hk7 (gsl_weak (gel_ge (gel_set (by simp only[gA1,e2,e3,if_false,if_true]<;>rfl) (gel_new hb3.2 (gel_new hb2 (gel_in (by simp) (gel_of_gx (hs2g s2 (gA8 _ _)) (by simp))))))) (fun a ha u hu=>by have:=hfr a ha u hu;subst hs2;exact this)) (A.le.tuple ⟨hle,A.le.refl _,trivial⟩)
end
end Go.AV
end
section
namespace Go.AV
open Go
structure RQ (T:List Tok) where
 at_:Nat
 le:at_≤T.length
 f:Fault
 first:Nat
 nodes:Int
 over:Bool
section
variable {T:List Tok} (fin:Fault)
def RQ.ok (q:RQ T):Bool:=decide (q.f.code=0)
def RQ.tok (q:RQ T):Tok:=(T[q.at_]?).getD ⟨0,[],0,0,0⟩
def noTm:Tm:=.mk 0 0 [] [] [] []
end
end Go.AV
end
