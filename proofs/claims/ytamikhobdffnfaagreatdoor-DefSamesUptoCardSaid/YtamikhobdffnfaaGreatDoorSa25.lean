/-
  Part of the proof of DefSames.
-/
import Derived.Test.YtamikhobdffnfaaGreatDoorSa24
import Derived.Test.YtamikhobdffnfaaGreatDoorSa16
set_option linter.all false
set_option maxRecDepth 1000000
set_option maxHeartbeats 40000000
section
namespace Go.AV
open Go Go.Proofs
section
variable {T:List Tok} {fin:Fault} {d:Dc} {first:Tok} {i n:Nat} {s:St} {r:Nat} {KV Kp:St→A→Prop}
theorem cell_den (hT:TOk T) (hr:s.getO r=some (psO T fin d first i n)) (hi:i≤T.length) (hn:n≤2000)
  (hk:(cellR false fin (T.drop i) n).to (PK T (i+1) (fun j m=>s.setO r (psO T fin d first j m)) Cel.enc KV) (PB s r Kp)):Den cx 226 [.ptr r 0] KV Kp s:=by
 refine Den.drop ?_;(refine Den.of_body (C:=cx) Tryz.func226 rfl rfl (gC6 rfl) ?_;refine wpC_ok (V:=[0,2,3,4]) _ _ _ _ ?_;simp only[go_sem,Tryz.ntmps226,Tryz.f226]);(intro b2 hb2;try simp only[gD6,gA6,ne_eq] at hb2);have e2:=St.ne_of hr (by first|exact hb2|exact hb2.2|exact hb2.2.2|exact hb2.2.2.2|exact hb2.2.2.2.2|exact hb2.2.2.2.2.2|exact hb2.2.2.2.2.2.2);simp only[go_sem,hb2,e2];refine peek_den (T:=T) (fin:=fin) (d:=d) (first:=first) (i:=i) (n:=n) (by simp only[gA1,gA2,gA3,gA6,ne_eq,gA9,reduceIte,hb2,e2]<;>(first|done|rfl|assumption)) hi ?_;cases hw:T.drop i with
 | nil=>rw[hw] at hk;exact hk.at (by (repeat (first|exact gA8 _ _|refine St.gx_r ?_|refine gA7 (by first|simp only[hb2]|assumption) ?_|refine St.gx_T (by first|simp only[hb2]|assumption) ?_))) (by simp only[gA1,gA2,gA3,gA6,ne_eq,gA9,reduceIte,hb2,e2]<;>(first|done|rfl|assumption))
 | cons t w =>
  rw[hw] at hk;obtain ⟨g1,g2,g3,g4⟩:=drop_get hw;simp only[cellR,Rd.bind_to] at hk;simp only[go_sem,hb2,e2];(intro b3 hb3;try simp only[gD6,gA6,ne_eq] at hb3);have e3:=St.ne_of hr (by first|exact hb3|exact hb3.2|exact hb3.2.2|exact hb3.2.2.2|exact hb3.2.2.2.2|exact hb3.2.2.2.2.2|exact hb3.2.2.2.2.2.2);simp only[go_sem,hb2,e2,hb3,e3];(refine draw_ok (V:=[0,2,3,4]) (OT.l [0,2,3,4,5,1,6,7,8] .nil) [(1,[3,5]),(7,[3,5])] mixed_cx (by decide +kernel) ?_;simp only[go_sem,hb2,e2,hb3,e3]);rw[← hw] at hk;(refine name_den (T:=T) (fin:=fin) (d:=d) (first:=first) (i:=i) (n:=n) (by simp only[gA1,gA2,gA3,gA6,ne_eq,gA9,reduceIte,hb2,e2,hb3,e3]<;>(first|done|rfl|assumption)) hi hT (Rd.to_mono hk (fun x1 w1 m1 hk1 hlt1 hw1 hm1=>?_) (fun f h=>PB.mk (by (repeat (first|exact gA8 _ _|refine St.gx_r ?_|refine gA7 (by first|simp only[hb2,hb3]|assumption) ?_|refine St.gx_T (by first|simp only[hb2,hb3]|assumption) ?_))) h));subst m1;rw[← hw1] at hk1);simp only[go_sem,hb2,e2,hb3,e3];(intro b4 hb4;try simp only[gD6,gA6,ne_eq] at hb4);have e4:=St.ne_of hr (by first|exact hb4|exact hb4.2|exact hb4.2.2|exact hb4.2.2.2|exact hb4.2.2.2.2|exact hb4.2.2.2.2.2|exact hb4.2.2.2.2.2.2);simp only[go_sem,hb2,e2,hb3,e3,hb4,e4];(refine want_den (T:=T) (fin:=fin) (d:=d) (first:=first) (i:=i+1) (n:=n) _ (by simp only[gA1,gA2,gA3,gA6,ne_eq,gA9,reduceIte,hb2,e2,hb3,e3,hb4,e4]<;>(first|done|rfl|assumption)) hlt1 hT (Rd.to_mono hk1 (fun _ w2 m2 hk2 hlt2 hw2 hm2=>?_) (fun f h=>PB.mk (by (repeat (first|exact gA8 _ _|refine St.gx_r ?_|refine gA7 (by first|simp only[hb2,hb3,hb4]|assumption) ?_|refine St.gx_T (by first|simp only[hb2,hb3,hb4]|assumption) ?_))) h));subst m2;rw[← hw2] at hk2);simp only[go_sem,hb2,e2,hb3,e3,hb4,e4];(refine name_den (T:=T) (fin:=fin) (d:=d) (first:=first) (i:=i+1+1) (n:=n) (by simp only[gA1,gA2,gA3,gA6,ne_eq,gA9,reduceIte,hb2,e2,hb3,e3,hb4,e4]<;>(first|done|rfl|assumption)) hlt2 hT (Rd.to_mono hk2 (fun x3 w3 m3 hk3 hlt3 hw3 hm3=>?_) (fun f h=>PB.mk (by (repeat (first|exact gA8 _ _|refine St.gx_r ?_|refine gA7 (by first|simp only[hb2,hb3,hb4]|assumption) ?_|refine St.gx_T (by first|simp only[hb2,hb3,hb4]|assumption) ?_))) h));subst m3;rw[← hw3] at hk3);simp only[go_sem,hb2,e2,hb3,e3,hb4,e4];(refine want_den (T:=T) (fin:=fin) (d:=d) (first:=first) (i:=i+1+1+1) (n:=n) _ (by simp only[gA1,gA2,gA3,gA6,ne_eq,gA9,reduceIte,hb2,e2,hb3,e3,hb4,e4]<;>(first|done|rfl|assumption)) hlt3 hT (Rd.to_mono hk3 (fun _ w4 m4 hk4 hlt4 hw4 hm4=>?_) (fun f h=>PB.mk (by (repeat (first|exact gA8 _ _|refine St.gx_r ?_|refine gA7 (by first|simp only[hb2,hb3,hb4]|assumption) ?_|refine St.gx_T (by first|simp only[hb2,hb3,hb4]|assumption) ?_))) h));subst m4;rw[← hw4] at hk4);simp only[go_sem,hb2,e2,hb3,e3,hb4,e4];(refine whole_den (T:=T) (fin:=fin) (d:=d) (first:=first) (i:=i+1+1+1+1) (n:=n) hT (by simp only[gA1,gA2,gA3,gA6,ne_eq,gA9,reduceIte,hb2,e2,hb3,e3,hb4,e4]<;>(first|done|rfl|assumption)) hlt4 hn (Rd.to_mono hk4 (fun a5 w5 m5 hk5 j5 hj5 hjT5 hw5 hm5=>?_) (fun f h=>PB.mk (by (repeat (first|exact gA8 _ _|refine St.gx_r ?_|refine gA7 (by first|simp only[hb2,hb3,hb4]|assumption) ?_|refine St.gx_T (by first|simp only[hb2,hb3,hb4]|assumption) ?_))) h));rw[← hw5] at hk5);have hk:=hk5 j5 (by omega) hjT5 rfl hm5;simp only[Cel.enc,Cel.cs] at hk;simp only[go_sem] at hk;simp only[go_sem,hb2,e2,hb3,e3,hb4,e4,Tm.enc_eq];exact DK.st hk (by (refine gel_ge ?_;repeat (first|exact gel_refl _ _ _|refine gel_gs_gs ?_|refine gel_to_gs gs_self ?_|refine gB1 ?_|refine gB2 ?_|refine gel_set (by simp only[gA1,gA2,gA3,gA6,ne_eq,gA9,reduceIte,hb2,e2,hb3,e3,hb4,e4]<;>(first|done|rfl|assumption)) ?_|refine gB3 ?_|refine gel_new (by first|simp only[hb2,hb3,hb4]|assumption) ?_)))
def funS (T:List Tok) (fin:Fault) (d:Dc) (first:Tok) (b r:Nat) (x:Str) (s:St) (tk:Option Nat) (ar:List Str) (i n:Nat):St :=
 gs ((s.setO b (.cells 73 [.str x,gv tk (ar.map .str),.str [],.nils,.int .i64 0,.int .i64 0,.nils])).setO r (psO T fin d first i n)) tk ar.length 9
theorem fun_den (hT:TOk T) (hr:s.getO r=some (psO T fin d first i n)) (hi:i≤T.length) (hn:n≤2000)
  (hk:(funR fin (T.drop i) n).to (PK T i (fun j m=>s.setO r (psO T fin d first j m)) Opr.enc KV) (PB s r Kp)):Den cx 152 [.ptr r 0] KV Kp s:=by
 have hlenT:=hT.len;simp only[funR,Rd.bind_to] at hk;refine Den.drop ?_;(refine Den.of_body (C:=cx) Tryz.func152 rfl rfl (gC6 rfl) ?_;refine wpC_ok (V:=[0,2,3,4,13,24]) _ _ _ _ ?_;simp only[go_sem,Tryz.ntmps152,Tryz.f152]);(intro b2 hb2;try simp only[gD6,gA6,ne_eq] at hb2);have e2:=St.ne_of hr (by first|exact hb2|exact hb2.2|exact hb2.2.2|exact hb2.2.2.2|exact hb2.2.2.2.2|exact hb2.2.2.2.2.2|exact hb2.2.2.2.2.2.2);simp only[go_sem,hb2,e2];(refine name_den (T:=T) (fin:=fin) (d:=d) (first:=first) (i:=i) (n:=n) (by simp only[gA1,gA2,gA3,gA6,ne_eq,gA9,reduceIte,hb2,e2]<;>(first|done|rfl|assumption)) hi hT (Rd.to_mono hk (fun x1 w1 m1 hk1 hlt1 hw1 hm1=>?_) (fun f h=>PB.mk (by (repeat (first|exact gA8 _ _|refine St.gx_r ?_|refine gA7 (by first|simp only[hb2]|assumption) ?_|refine St.gx_T (by first|simp only[hb2]|assumption) ?_))) h));subst m1;rw[← hw1] at hk1);simp only[go_sem,hb2,e2];(intro b3 hb3;try simp only[gD6,gA6,ne_eq] at hb3);have e3:=St.ne_of hr (by first|exact hb3|exact hb3.2|exact hb3.2.2|exact hb3.2.2.2|exact hb3.2.2.2.2|exact hb3.2.2.2.2.2|exact hb3.2.2.2.2.2.2);simp only[go_sem,hb2,e2,hb3,e3];(refine want_den (T:=T) (fin:=fin) (d:=d) (first:=first) (i:=i+1) (n:=n) _ (by simp only[gA1,gA2,gA3,gA6,ne_eq,gA9,reduceIte,hb2,e2,hb3,e3]<;>(first|done|rfl|assumption)) hlt1 hT (Rd.to_mono hk1 (fun _ w2 m2 hk2 hlt2 hw2 hm2=>?_) (fun f h=>PB.mk (by (repeat (first|exact gA8 _ _|refine St.gx_r ?_|refine gA7 (by first|simp only[hb2,hb3]|assumption) ?_|refine St.gx_T (by first|simp only[hb2,hb3]|assumption) ?_))) h));subst m2;rw[← hw2] at hk2);simp only[go_sem,hb2,e2,hb3,e3];rw[show (T.drop (i+1+1)).length=T.length-(i+1+1) by rw[gD4]] at hk2
 refine Ex.loop (ι:=Option Nat × List Str × Nat) (fun c=>[(0,.ptr r 0),(2,.ptr b2 0),(3,.ptr b3 0)]) (fun c=>funS T fin d first b3 r x1 (s.setO b2 (.cells 73 [.str [],.nils,.str [],.nils,.int .i64 0,.int .i64 0,.nils])) c.1 c.2.1 c.2.2 n)
  (fun c => (c.1 = none → c.2.1 = []) ∧ (∀ t,c.1 = some t → s.getT t = none) ∧ i + 1 + 1 ≤ c.2.2 ∧ c.2.2 ≤ T.length ∧ c.2.1.length ≤ c.2.2 ∧ ∃ k,T.length - c.2.2 < k ∧
   (argsR fin k c.2.1 (T.drop c.2.2) n).to (fun ar w n=>(nameR fin w n).to (fun y w n=>PK T i (fun j m=>s.setO r (psO T fin d first j m)) Opr.enc KV ⟨x1,ar,y,[],0,0,[]⟩ w n) (PB s r Kp)) (PB s r Kp))
  (fun c=>T.length-c.2.2) (none,[],i+1+1) ?_ ?_ ?_ ?_
 ·exact ⟨fun _=>rfl,fun t e=>(by cases e),Nat.le_refl _,hlt2,Nat.zero_le _,_,Nat.lt_succ_self _,hk2⟩
 ·simp only[go_sem,hb2,e2,hb3,e3]
 ·exact (by (refine gel_ge ?_;repeat (first|exact gel_refl _ _ _|refine gel_gs_gs ?_|refine gel_to_gs gs_self ?_|refine gB1 ?_|refine gB2 ?_|refine gel_set (by simp only[gA1,gA2,gA3,gA6,ne_eq,gA9,reduceIte,hb2,e2,hb3,e3]<;>(first|done|rfl|assumption)) ?_|refine gB3 ?_|refine gel_new (by first|simp only[hb2,hb3]|assumption) ?_)))
 ·rintro ⟨tk,ar,i2⟩ ⟨hnil,hfree,hi1,hi2,has,k,hk3,hk4⟩;simp only at hnil hfree hi1 hi2 has hk3 hk4;obtain ⟨k,rfl⟩:∃ k',k=k'+1:=⟨k-1,by omega⟩
  have hg:gok (funS T fin d first b3 r x1 (s.setO b2 (.cells 73 [.str [],.nils,.str [],.nils,.int .i64 0,.int .i64 0,.nils])) tk ar i2 n) tk (ar.map A.str).length 9:=by rw[gC4];exact gs_ok fun e=>by rw[hnil e];rfl
  refine wpC_ok (V:=[0,2,3,4,13,24]) _ _ _ _ ?_;unfold funS;simp only[go_sem,hb2,e2,hb3,e3];refine take_den (T:=T) (fin:=fin) (d:=d) (first:=first) (i:=i2) (n:=n) _ (by simp only[gA1,gA2,gA3,gA6,ne_eq,gA9,reduceIte,hb2,e2,hb3,e3]<;>(first|done|rfl|assumption)) hi2 hT ?_;cases hx:isT [45,62] (T.drop i2) with
  | true =>
   rw[argsR,if_pos hx,Rd.ok_to,List.tail_drop] at hk4;have hlt:=isT_lt hx;simp only[go_sem,hb2,e2,hb3,e3];(refine name_den (T:=T) (fin:=fin) (d:=d) (first:=first) (i:=i2+1) (n:=n) (by simp only[gA1,gA2,gA3,gA6,ne_eq,gA9,reduceIte,hb2,e2,hb3,e3]<;>(first|done|rfl|assumption)) hlt hT (Rd.to_mono hk4 (fun x5 w5 m5 hk5 hlt5 hw5 hm5=>?_) (fun f h=>PB.mk (by (repeat (first|refine St.gx_gs ?_ hfree|refine St.gx_T hfree ?_|exact gA8 _ _|refine St.gx_r ?_|refine gA7 (by first|simp only[hb2,hb3]|assumption) ?_|refine St.gx_T (by first|simp only[hb2,hb3]|assumption) ?_))) h));subst m5;rw[← hw5] at hk5);simp only[go_sem,hb2,e2,hb3,e3];have hk:=hk5 (i2+1+1) (by omega) hlt5 rfl hn;simp only[Opr.enc,Opr.cs] at hk;simp only[go_sem] at hk;refine ⟨gv_one _ _,?_⟩;refine DK.mk hk (by (refine gel_ge ?_;repeat (first|exact gel_refl _ _ _|refine gel_gs_gs ?_|refine gel_to_gs gs_self ?_|refine gB1 ?_|refine gB2 ?_|refine gel_gs ?_ hfree|refine gel_newT hfree ?_|refine gel_set (by simp only[gA1,gA2,gA3,gA6,ne_eq,gA9,reduceIte,hb2,e2,hb3,e3]<;>(first|done|rfl|assumption)) ?_|refine gB3 ?_|refine gel_new (by first|simp only[hb2,hb3]|assumption) ?_))) ?_;exact A.le.agg ⟨⟨A.le.refl _,rfl⟩,⟨gv_le _ _ (fun e=>by rw[hnil e];rfl),rfl⟩,⟨A.le.refl _,rfl⟩,⟨A.le.nil,rfl⟩,⟨A.le.refl _,rfl⟩,⟨A.le.refl _,rfl⟩,⟨A.le.nil,rfl⟩,trivial⟩
  | false =>
   simp only[go_sem,hb2,e2,hb3,e3];refine peek_den (T:=T) (fin:=fin) (d:=d) (first:=first) (i:=i2) (n:=n) (by simp only[gA1,gA2,gA3,gA6,ne_eq,gA9,reduceIte,hb2,e2,hb3,e3]<;>(first|done|rfl|assumption)) hi2 ?_;cases hw:T.drop i2 with
   | nil=>rw[hw,argsR,if_neg (by simp[isT])] at hk4;exact hk4.at (by (repeat (first|refine St.gx_gs ?_ hfree|refine St.gx_T hfree ?_|exact gA8 _ _|refine St.gx_r ?_|refine gA7 (by first|simp only[hb2,hb3]|assumption) ?_|refine St.gx_T (by first|simp only[hb2,hb3]|assumption) ?_))) (by simp only[gA1,gA2,gA3,gA6,ne_eq,gA9,reduceIte,hb2,e2,hb3,e3]<;>(first|done|rfl|assumption))
   | cons t w =>
    obtain ⟨g1,g2,g3,g4⟩:=drop_get hw;rw[hw,argsR,if_neg (by rw[← hw,hx];simp),Rd.bind_to] at hk4;simp only[go_sem,hb2,e2,hb3,e3];(intro b4 hb4;try simp only[gD6,gA6,ne_eq] at hb4);have e4:=St.ne_of hr (by first|exact hb4|exact hb4.2|exact hb4.2.2|exact hb4.2.2.2|exact hb4.2.2.2.2|exact hb4.2.2.2.2.2|exact hb4.2.2.2.2.2.2);simp only[go_sem,hb2,e2,hb3,e3,hb4,e4]
    have hsome:(t.free=true→¬ 8≤ar.length)→(nameR fin (T.drop i2) n).to (fun a w n=>(argsR fin k (ar++[a]) w n).to (fun ar w n =>
      (nameR fin w n).to (fun y w n=>PK T i (fun j m=>s.setO r (psO T fin d first j m)) Opr.enc KV ⟨x1,ar,y,[],0,0,[]⟩ w n) (PB s r Kp)) (PB s r Kp)) (PB s r Kp):=fun h=>by
     rw[hw];simp only[someR] at hk4;rw[if_neg (fun hc=>h hc.1 hc.2)] at hk4;exact hk4
    cases c1:decide (t.kind=1)
    ·have hk5:=hsome (fun hf=>by simp[Tok.free,c1] at hf);simp only[go_sem,hb2,e2,hb3,e3,hb4,e4,c1];(refine draw_ok (V:=[0,2,3,4,13,24]) (OT.l [0,1,2,3,4,5,6,7] .nil) [(3,[1])] mixed_cx (by decide +kernel) ?_;simp only[go_sem,hb2,e2,hb3,e3,hb4,e4]);(refine name_den (T:=T) (fin:=fin) (d:=d) (first:=first) (i:=i2) (n:=n) (by simp only[gA1,gA2,gA3,gA6,ne_eq,gA9,reduceIte,hb2,e2,hb3,e3,hb4,e4]<;>(first|done|rfl|assumption)) hi2 hT (Rd.to_mono hk5 (fun x6 w6 m6 hk6 hlt6 hw6 hm6=>?_) (fun f h=>PB.mk (by (repeat (first|refine St.gx_gs ?_ hfree|refine St.gx_T hfree ?_|exact gA8 _ _|refine St.gx_r ?_|refine gA7 (by first|simp only[hb2,hb3,hb4]|assumption) ?_|refine St.gx_T (by first|simp only[hb2,hb3,hb4]|assumption) ?_))) h));subst m6;rw[← hw6] at hk6);simp only[go_sem,hb2,e2,hb3,e3,hb4,e4];refine ⟨by decide,fun y hy=>by simp only[List.mem_singleton] at hy;subst hy;rfl,appL_gv rfl rfl (by rw[gC4];exact gs_ok fun e=>by rw[hnil e];rfl) (fun y hy=>?_) (by simp only[gC4,gC1,gC3];omega) (fun t ht=>?_)⟩
     ·simp only[List.mem_map] at hy;obtain ⟨q,_,rfl⟩:=hy;rfl
     have hft:=gs_free ht hfree;rw[gs_set ht];simp only[go_sem,hb2,e2,hb3,e3,hb4,e4];refine ⟨(some t,ar++[x6],i2+1),⟨fun e=>(by cases e),fun t' e=>by cases e;exact hft,by simp only;omega,by simp only;omega,by simp only[gC2,gC1,gC3];omega,k,by simp only;omega,hk6⟩,by simp only;omega,?_⟩
     ·simp only[funS,gv_some,List.map_append,List.map_cons,List.map_nil,gC2,gC1,gC3,gC4];exact (by (refine gel_ge ?_;repeat (first|exact gel_refl _ _ _|refine gel_gs_gs ?_|refine gel_to_gs gs_self ?_|refine gB1 ?_|refine gB2 ?_|refine gel_gs ?_ hfree|refine gel_newT hfree ?_|refine gel_set (by simp only[gA1,gA2,gA3,gA6,ne_eq,gA9,reduceIte,hb2,e2,hb3,e3,hb4,e4]<;>(first|done|rfl|assumption)) ?_|refine gB3 ?_|refine gel_new (by first|simp only[hb2,hb3,hb4]|assumption) ?_)))
    simp only[go_sem,hb2,e2,hb3,e3,hb4,e4,c1];refine isReserved145_den _ _ _ _ ?_;simp only[go_sem,hb2,e2,hb3,e3,hb4,e4];cases c2:decide (t.text∈reservedW);rotate_left
    ·have hk5:=hsome (fun hf=>by simp[Tok.free,c2] at hf);simp only[go_sem,hb2,e2,hb3,e3,hb4,e4,c2];(refine draw_ok (V:=[0,2,3,4,13,24]) (OT.l [0,1,2,3,4,5,6,7] .nil) [(3,[1])] mixed_cx (by decide +kernel) ?_;simp only[go_sem,hb2,e2,hb3,e3,hb4,e4]);(refine name_den (T:=T) (fin:=fin) (d:=d) (first:=first) (i:=i2) (n:=n) (by simp only[gA1,gA2,gA3,gA6,ne_eq,gA9,reduceIte,hb2,e2,hb3,e3,hb4,e4]<;>(first|done|rfl|assumption)) hi2 hT (Rd.to_mono hk5 (fun x6 w6 m6 hk6 hlt6 hw6 hm6=>?_) (fun f h=>PB.mk (by (repeat (first|refine St.gx_gs ?_ hfree|refine St.gx_T hfree ?_|exact gA8 _ _|refine St.gx_r ?_|refine gA7 (by first|simp only[hb2,hb3,hb4]|assumption) ?_|refine St.gx_T (by first|simp only[hb2,hb3,hb4]|assumption) ?_))) h));subst m6;rw[← hw6] at hk6);simp only[go_sem,hb2,e2,hb3,e3,hb4,e4];refine ⟨by decide,fun y hy=>by simp only[List.mem_singleton] at hy;subst hy;rfl,appL_gv rfl rfl (by rw[gC4];exact gs_ok fun e=>by rw[hnil e];rfl) (fun y hy=>?_) (by simp only[gC4,gC1,gC3];omega) (fun t ht=>?_)⟩
     ·simp only[List.mem_map] at hy;obtain ⟨q,_,rfl⟩:=hy;rfl
     have hft:=gs_free ht hfree;rw[gs_set ht];simp only[go_sem,hb2,e2,hb3,e3,hb4,e4];refine ⟨(some t,ar++[x6],i2+1),⟨fun e=>(by cases e),fun t' e=>by cases e;exact hft,by simp only;omega,by simp only;omega,by simp only[gC2,gC1,gC3];omega,k,by simp only;omega,hk6⟩,by simp only;omega,?_⟩
     ·simp only[funS,gv_some,List.map_append,List.map_cons,List.map_nil,gC2,gC1,gC3,gC4];exact (by (refine gel_ge ?_;repeat (first|exact gel_refl _ _ _|refine gel_gs_gs ?_|refine gel_to_gs gs_self ?_|refine gB1 ?_|refine gB2 ?_|refine gel_gs ?_ hfree|refine gel_newT hfree ?_|refine gel_set (by simp only[gA1,gA2,gA3,gA6,ne_eq,gA9,reduceIte,hb2,e2,hb3,e3,hb4,e4]<;>(first|done|rfl|assumption)) ?_|refine gB3 ?_|refine gel_new (by first|simp only[hb2,hb3,hb4]|assumption) ?_)))
    simp only[go_sem,hb2,e2,hb3,e3,hb4,e4,c2,lenS_gv hg];refine room_den (T:=T) (fin:=fin) (d:=d) (first:=first) (i:=i2) (n:=n) _ _ (by simp only[gA1,gA2,gA3,gA6,ne_eq,gA9,reduceIte,hb2,e2,hb3,e3,hb4,e4]<;>(first|done|rfl|assumption)) hi2 ?_;by_cases h8:8≤ar.length
    ·rw[if_pos (by omega),hw];simp only[someR] at hk4;rw[if_pos ⟨by simp[Tok.free,c1,c2],h8⟩] at hk4;exact PB.mk (by (repeat (first|refine St.gx_gs ?_ hfree|refine St.gx_T hfree ?_|exact gA8 _ _|refine St.gx_r ?_|refine gA7 (by first|simp only[hb2,hb3,hb4]|assumption) ?_|refine St.gx_T (by first|simp only[hb2,hb3,hb4]|assumption) ?_))) hk4
    rw[if_neg (by omega)];have hk5:=hsome (fun _=>h8);simp only[go_sem,hb2,e2,hb3,e3,hb4,e4];(refine draw_ok (V:=[0,2,3,4,13,24]) (OT.l [0,1,2,3,4,5,6,7] .nil) [(3,[1])] mixed_cx (by decide +kernel) ?_;simp only[go_sem,hb2,e2,hb3,e3,hb4,e4]);(refine name_den (T:=T) (fin:=fin) (d:=d) (first:=first) (i:=i2) (n:=n) (by simp only[gA1,gA2,gA3,gA6,ne_eq,gA9,reduceIte,hb2,e2,hb3,e3,hb4,e4]<;>(first|done|rfl|assumption)) hi2 hT (Rd.to_mono hk5 (fun x6 w6 m6 hk6 hlt6 hw6 hm6=>?_) (fun f h=>PB.mk (by (repeat (first|refine St.gx_gs ?_ hfree|refine St.gx_T hfree ?_|exact gA8 _ _|refine St.gx_r ?_|refine gA7 (by first|simp only[hb2,hb3,hb4]|assumption) ?_|refine St.gx_T (by first|simp only[hb2,hb3,hb4]|assumption) ?_))) h));subst m6;rw[← hw6] at hk6);simp only[go_sem,hb2,e2,hb3,e3,hb4,e4];refine ⟨by decide,fun y hy=>by simp only[List.mem_singleton] at hy;subst hy;rfl,appL_gv rfl rfl (by rw[gC4];exact gs_ok fun e=>by rw[hnil e];rfl) (fun y hy=>?_) (by simp only[gC4,gC1,gC3];omega) (fun t ht=>?_)⟩
    ·simp only[List.mem_map] at hy;obtain ⟨q,_,rfl⟩:=hy;rfl
    have hft:=gs_free ht hfree;rw[gs_set ht];simp only[go_sem,hb2,e2,hb3,e3,hb4,e4];refine ⟨(some t,ar++[x6],i2+1),⟨fun e=>(by cases e),fun t' e=>by cases e;exact hft,by simp only;omega,by simp only;omega,by simp only[gC2,gC1,gC3];omega,k,by simp only;omega,hk6⟩,by simp only;omega,?_⟩
    ·simp only[funS,gv_some,List.map_append,List.map_cons,List.map_nil,gC2,gC1,gC3,gC4];exact (by (refine gel_ge ?_;repeat (first|exact gel_refl _ _ _|refine gel_gs_gs ?_|refine gel_to_gs gs_self ?_|refine gB1 ?_|refine gB2 ?_|refine gel_gs ?_ hfree|refine gel_newT hfree ?_|refine gel_set (by simp only[gA1,gA2,gA3,gA6,ne_eq,gA9,reduceIte,hb2,e2,hb3,e3,hb4,e4]<;>(first|done|rfl|assumption)) ?_|refine gB3 ?_|refine gel_new (by first|simp only[hb2,hb3,hb4]|assumption) ?_)))
end
end Go.AV
end
section
namespace Go.AV
open Go Go.Proofs
def nv (es:List A):A:=match es with
 | []=>.nils
 | x::l=>.list none (x::l)
@[go_sem] theorem nv_cells (es:List A):(nv es).cells=[nv es]:=by cases es<;>rfl
@[go_sem] theorem nv_one (es:List A):(nv es).one=true:=by cases es<;>rfl
@[go_sem] theorem nv_pen (s:St) (es:List A):penV s (nv es)=nv es:=by cases es<;>rfl
@[go_sem] theorem lenS_nv (es:List A):lenS (nv es)=some (.int .i64 es.length):=by cases es<;>rfl
theorem nv_le (es:List A):A.le (nv es) (.list none es):=by
 cases es with
 | nil=>exact A.le.nil
 | cons x l=>exact A.le.refl _
def opC (o:Opr) (aA pA:A):List A:=[.str o.name,aA,.str o.sort,pA,.int .i64 o.prec,.int .i64 o.assoc,nv (o.strict.map (.int .i64))]
attribute [go_sem] opC
theorem loopR_ne {α:Type} (fin:Fault) (sep:Str) (one:List α→List Tok→Nat→Rd α):∀ (f:Nat) (a:List α) (w:List Tok) (n:Nat) (p:List α→List Tok→Nat→Prop) (b:Fault→Prop),
  (loopR fin sep (fun acc w n=>(one acc w n).bind fun a w n=>.ok (acc++[a]) w n) f a w n).to p b →
  (loopR fin sep (fun acc w n=>(one acc w n).bind fun a w n=>.ok (acc++[a]) w n) f a w n).to (fun l w n=>l≠[]∧p l w n) b
 | 0,a,w,n,p,b,h=>h
 | f+1,a,w,n,p,b,h=>by
  simp only[loopR,Rd.bind_to] at h ⊢;refine Rd.to_mono h (fun x w n h=>?_) (fun _ h=>h);simp only[Rd.ok_to] at h ⊢;split
  ·rename_i e;rw[if_pos e] at h;exact loopR_ne fin sep one f (a++[x]) w.tail n p b h
  ·rename_i e;rw[if_neg e] at h;exact ⟨by simp,h⟩
section
variable {T:List Tok} {fin:Fault} {d:Dc} {first:Tok} {i n:Nat} {s:St} {r:Nat} {KV Kp:St→A→Prop}
theorem PB.og {s1:St} {L M:List Nat} {f:Fault} (hr:r∈L) (hg:s1.gel s L M) (h:∀ s1 o,s1.gel s L M→s1.getO r=some o→Kp s1 (.iface 36 f.enc)):PB s1 r (DK Kp) f :=
 fun o=>DK.here (h _ o (gel_in hr hg) (by rw[gA1,if_pos rfl]))
theorem attrs1_den (hT:TOk T) (b2:Nat) (hr:s.getO r=some (psO T fin d first i n)) (h2:s.getO b2=some (.cells 74 [.ptr r 0])) (hi:i≤T.length)
  (hk:(numberR fin 8 (T.drop i) n).to (fun x w n'=>i+1≤T.length→T.drop (i+1)=w→n'=n→KV (s.setO r (psO T fin d first (i+1) n)) (.int .i64 x)) (PB s r Kp)):Den cx 283 [.ptr b2 0] KV Kp s:=by
 refine Den.drop ?_;(refine Den.of_body (C:=cx) Tryz.func283 rfl rfl (gC6 rfl) ?_;refine wpC_ok (V:=[0,1]) _ _ _ _ ?_;simp only[go_sem,Tryz.ntmps283,Tryz.f283]);simp only[go_sem,h2];refine pnumber_den 8 hr hi hT (Rd.to_mono hk (fun x w m h a b c=>?_) (fun f h=>PB.mk (gA8 _ _) h));simp only[go_sem];exact DK.here (h a b c)
theorem attrs_den (hT:TOk T) (b:Nat) (aA pA:A) (ha:aA.one=true) (hp:pA.one=true) (o:Opr) (k:Nat) (hr:s.getO r=some (psO T fin d first i n)) (hb:s.getO b=some (.cells 73 (opC o aA pA))) (hne:b≠r) (hi:i≤T.length) (hn:n≤2000) (hik:T.length-i<k)
  (hk : (attrsR fin k o (T.drop i) n).to (fun o' w n' => ∀ j,i ≤ j → j ≤ T.length → T.drop j = w → n' ≤ 2000 → KV ((s.setO b (.cells 73 (opC o' aA pA))).setO r (psO T fin d first j n')) (.tuple []))
   (fun f=>∀ s1 x,s1.gel s [b,r] []→s1.getO r=some x→Kp s1 (.iface 36 f.enc))):Den cx 221 [.ptr r 0,.ptr b 0] KV Kp s:=by
 have hlenT:=hT.len;refine Den.drop ?_;(refine Den.of_body (C:=cx) Tryz.func221 rfl rfl (gC6 rfl) ?_;refine wpC_ok (V:=[0,1,2,4,7,11,14,21,63,74,87,94,99]) _ _ _ _ ?_;simp only[go_sem,Tryz.ntmps221,Tryz.f221]);(intro b2 hb2;try simp only[gD6,gA6,ne_eq] at hb2);have e2:=St.ne_of hr (by first|exact hb2|exact hb2.2|exact hb2.2.2|exact hb2.2.2.2|exact hb2.2.2.2.2|exact hb2.2.2.2.2.2|exact hb2.2.2.2.2.2.2);have e2b:=St.ne_of hb hb2;simp only[go_sem,hb2,e2,hne,hne.symm,e2b,ha,hp]
 refine Ex.loop (ι:=Opr × Nat × Nat × Nat) (fun c=>[(0,.ptr r 0),(1,.ptr b 0),(2,.ptr b2 0)]) (fun c=>((s.setO b2 (.cells 74 [.ptr r 0])).setO b (.cells 73 (opC c.1 aA pA))).setO r (psO T fin d first c.2.1 c.2.2.1))
  (fun c => i ≤ c.2.1 ∧ c.2.1 ≤ T.length ∧ c.2.2.1 ≤ 2000 ∧ T.length - c.2.1 < c.2.2.2 ∧ (attrsR fin c.2.2.2 c.1 (T.drop c.2.1) c.2.2.1).to (fun o' w n' => ∀ j,i ≤ j → j ≤ T.length → T.drop j = w → n' ≤ 2000 → KV ((s.setO b (.cells 73 (opC o' aA pA))).setO r (psO T fin d first j n')) (.tuple []))
   (fun f=>∀ s1 x,s1.gel s [b,r] []→s1.getO r=some x→Kp s1 (.iface 36 f.enc)))
  (fun c=>T.length-c.2.1) (o,i,n,k) ?_ ?_ ?_ ?_
 ·exact ⟨Nat.le_refl _,hi,hn,hik,hk⟩
 ·simp only[go_sem,hb2,e2,hne,hne.symm,e2b,ha,hp]
 ·refine gel_ge (gel_set ?_ (gel_set ?_ (gel_refl _ _ _)))
  ·rw[gA1,if_neg e2.2];exact hr
  ·rw[gA1,if_neg e2b.2];exact hb
 ·rintro ⟨o,i2,n,k⟩ ⟨hi1,hi2,hn,hk3,hk4⟩;simp only at hi1 hi2 hn hk3 hk4;obtain ⟨k,rfl⟩:∃ k',k=k'+1:=⟨k-1,by omega⟩
  have hbr:r∈[b,r]:=by simp
  refine wpC_ok (V:=[0,1,2,4,7,11,14,21,63,74,87,94,99]) _ _ _ _ ?_;simp only[go_sem,hb2,e2,hne,hne.symm,e2b,ha,hp];refine is_den (T:=T) (fin:=fin) (d:=d) (first:=first) (i:=i2) (n:=n) _ (by simp only[gA1,gA2,gA3,gA6,ne_eq,gA9,reduceIte,hb2,e2,hne,hne.symm,e2b,ha,hp]<;>(first|done|rfl|assumption)) hi2 ?_;rw[attrsR.eq_def] at hk4;simp only at hk4;cases hx:isT [46] (T.drop i2) with
  | true =>
   rw[if_pos hx,Rd.ok_to] at hk4;simp only[go_sem,hb2,e2,hne,hne.symm,e2b,ha,hp];exact DK.st (hk4 i2 hi1 hi2 rfl hn) (by (refine gel_ge ?_;repeat (first|exact gel_refl _ _ _|refine gel_gs_gs ?_|refine gel_to_gs gs_self ?_|refine gB1 ?_|refine gB2 ?_|refine gel_set (by simp only[gA1,gA2,gA3,gA6,ne_eq,gA9,reduceIte,hb2,e2,hne,hne.symm,e2b,ha,hp]<;>(first|done|rfl|assumption)) ?_|refine gB3 ?_|refine gel_new (by first|simp only[hb2]|assumption) ?_)))
  | false =>
   rw[if_neg (by rw[hx];simp)] at hk4;simp only[go_sem,hb2,e2,hne,hne.symm,e2b,ha,hp];refine peek_den (T:=T) (fin:=fin) (d:=d) (first:=first) (i:=i2) (n:=n) (by simp only[gA1,gA2,gA3,gA6,ne_eq,gA9,reduceIte,hb2,e2,hne,hne.symm,e2b,ha,hp]<;>(first|done|rfl|assumption)) hi2 ?_;cases hw:T.drop i2 with
   | nil=>rw[hw] at hk4;exact DK.here (hk4 _ (psO T fin d first i2 n) (by (repeat (first|exact gel_refl _ _ _|refine gel_gs_gs ?_|refine gel_to_gs gs_self ?_|refine gB1 ?_|refine gB2 ?_|refine gel_set (by simp only[gA1,gA2,gA3,gA6,ne_eq,gA9,reduceIte,hb2,e2,hne,hne.symm,e2b,ha,hp]<;>(first|done|rfl|assumption)) ?_|refine gB3 ?_|refine gel_new (by first|simp only[hb2]|assumption) ?_))) (by simp only[gA1,gA2,gA3,gA6,ne_eq,gA9,reduceIte,hb2,e2,hne,hne.symm,e2b,ha,hp]<;>(first|done|rfl|assumption)))
   | cons t w =>
    obtain ⟨g1,g2,g3,g4⟩:=drop_get hw;rw[hw] at hk4;simp only at hk4;simp only[go_sem,hb2,e2,hne,hne.symm,e2b,ha,hp];(intro b4 hb4;try simp only[gD6,ne_eq] at hb4);simp only[go_sem,hb2,e2,hne,hne.symm,e2b,ha,hp,hb4]
    have bad:∀ (KV':St→A→Prop) (c:Int) (s1:St),s1.gel s [b,r] []→s1.getO r=some (psO T fin d first i2 n)→(∀ s1 x,s1.gel s [b,r] []→s1.getO r=some x→Kp s1 (.iface 36 (failAt fin c (t::w)).enc))→Den cx 42 [.ptr r 0,.int .i64 c] KV' (DK Kp) s1:=by
     intro KV' c s1 hg1 hr1 hf;refine fail_den c hr1 hi2 hT ?_;rw[hw];exact DK.here (hf _ _ hg1 hr1)
    by_cases x1:t.text=[112,114,101,99]
    ·have d1:decide (t.text=[112,114,101,99])=true:=by rw[x1];rfl
     have d2:decide (t.text=[108,101,102,116])=false:=by rw[x1];rfl
     have d3:decide (t.text=[114,105,103,104,116])=false:=by rw[x1];rfl
     have d4:decide (t.text=[115,116,114,105,99,116])=false:=by rw[x1];rfl
     simp only[go_sem,hb2,e2,hne,hne.symm,e2b,ha,hp,hb4,d1,d2,d3,d4];cases c1:decide (t.kind=1)
     ·rw[if_pos (by simpa using c1),Rd.bad_to] at hk4;simp only[go_sem,hb2,e2,hne,hne.symm,e2b,ha,hp,hb4,c1];exact bad _ _ _ (by (repeat (first|exact gel_refl _ _ _|refine gel_gs_gs ?_|refine gel_to_gs gs_self ?_|refine gB1 ?_|refine gB2 ?_|refine gel_set (by simp only[gA1,gA2,gA3,gA6,ne_eq,gA9,reduceIte,hb2,e2,hne,hne.symm,e2b,ha,hp,hb4]<;>(first|done|rfl|assumption)) ?_|refine gB3 ?_|refine gel_new (by first|simp only[hb2,hb4]|assumption) ?_))) (by simp only[gA1,gA2,gA3,gA6,ne_eq,gA9,reduceIte,hb2,e2,hne,hne.symm,e2b,ha,hp,hb4]<;>(first|done|rfl|assumption)) hk4
     rw[if_neg (by simpa using c1),if_pos x1] at hk4;simp only[go_sem,hb2,e2,hne,hne.symm,e2b,ha,hp,hb4,c1,d1,d2,d3,d4];cases c2:decide (0<o.prec)
     ·rw[if_neg (by simpa using c2),Rd.bind_to,← g3] at hk4;simp only[go_sem,hb2,e2,hne,hne.symm,e2b,ha,hp,hb4,c1,c2,d1,d2,d3,d4,wrap1 i2 (by omega)];refine pnumber_den (T:=T) (fin:=fin) (d:=d) (first:=first) (i:=i2+1) (n:=n) 20 (by simp only[gA1,gA2,gA3,gA6,ne_eq,gA9,reduceIte,hb2,e2,hne,hne.symm,e2b,ha,hp,hb4]<;>(first|done|rfl|assumption)) g2 hT (Rd.to_mono hk4 (fun x w m hk5 hlt hw hm=>?_) (fun f h=>PB.og hbr (by (repeat (first|exact gel_refl _ _ _|refine gel_gs_gs ?_|refine gel_to_gs gs_self ?_|refine gB1 ?_|refine gB2 ?_|refine gel_set (by simp only[gA1,gA2,gA3,gA6,ne_eq,gA9,reduceIte,hb2,e2,hne,hne.symm,e2b,ha,hp,hb4]<;>(first|done|rfl|assumption)) ?_|refine gB3 ?_|refine gel_new (by first|simp only[hb2,hb4]|assumption) ?_))) h));subst m;rw[← hw] at hk5;simp only[go_sem,hb2,e2,hne,hne.symm,e2b,ha,hp,hb4];refine ⟨({ o with prec:=x },i2+1+1,n,k),⟨by simp only;omega,by simp only;omega,hn,by simp only;omega,hk5⟩,by simp only;omega,(by (refine gel_ge ?_;repeat (first|exact gel_refl _ _ _|refine gel_gs_gs ?_|refine gel_to_gs gs_self ?_|refine gB1 ?_|refine gB2 ?_|refine gel_set (by simp only[gA1,gA2,gA3,gA6,ne_eq,gA9,reduceIte,hb2,e2,hne,hne.symm,e2b,ha,hp,hb4]<;>(first|done|rfl|assumption)) ?_|refine gB3 ?_|refine gel_new (by first|simp only[hb2,hb4]|assumption) ?_)))⟩
     ·rw[if_pos (by simpa using c2),Rd.bad_to] at hk4;simp only[go_sem,hb2,e2,hne,hne.symm,e2b,ha,hp,hb4,c1,c2,d1,d2,d3,d4];exact bad _ _ _ (by (repeat (first|exact gel_refl _ _ _|refine gel_gs_gs ?_|refine gel_to_gs gs_self ?_|refine gB1 ?_|refine gB2 ?_|refine gel_set (by simp only[gA1,gA2,gA3,gA6,ne_eq,gA9,reduceIte,hb2,e2,hne,hne.symm,e2b,ha,hp,hb4]<;>(first|done|rfl|assumption)) ?_|refine gB3 ?_|refine gel_new (by first|simp only[hb2,hb4]|assumption) ?_))) (by simp only[gA1,gA2,gA3,gA6,ne_eq,gA9,reduceIte,hb2,e2,hne,hne.symm,e2b,ha,hp,hb4]<;>(first|done|rfl|assumption)) hk4
    by_cases x2:t.text=[108,101,102,116]
    ·have d1:decide (t.text=[112,114,101,99])=false:=by rw[x2];rfl
     have d2:decide (t.text=[108,101,102,116])=true:=by rw[x2];rfl
     have d3:decide (t.text=[114,105,103,104,116])=false:=by rw[x2];rfl
     have d4:decide (t.text=[115,116,114,105,99,116])=false:=by rw[x2];rfl
     simp only[go_sem,hb2,e2,hne,hne.symm,e2b,ha,hp,hb4,d1,d2,d3,d4];cases c1:decide (t.kind=1)
     ·rw[if_pos (by simpa using c1),Rd.bad_to] at hk4;simp only[go_sem,hb2,e2,hne,hne.symm,e2b,ha,hp,hb4,c1];exact bad _ _ _ (by (repeat (first|exact gel_refl _ _ _|refine gel_gs_gs ?_|refine gel_to_gs gs_self ?_|refine gB1 ?_|refine gB2 ?_|refine gel_set (by simp only[gA1,gA2,gA3,gA6,ne_eq,gA9,reduceIte,hb2,e2,hne,hne.symm,e2b,ha,hp,hb4]<;>(first|done|rfl|assumption)) ?_|refine gB3 ?_|refine gel_new (by first|simp only[hb2,hb4]|assumption) ?_))) (by simp only[gA1,gA2,gA3,gA6,ne_eq,gA9,reduceIte,hb2,e2,hne,hne.symm,e2b,ha,hp,hb4]<;>(first|done|rfl|assumption)) hk4
     rw[if_neg (by simpa using c1),if_neg x1,if_pos x2] at hk4;simp only[go_sem,hb2,e2,hne,hne.symm,e2b,ha,hp,hb4,c1,d1,d2,d3,d4];cases c2:decide (o.assoc=0)
     ·rw[if_neg (by simpa using c2),Rd.bad_to] at hk4;simp only[go_sem,hb2,e2,hne,hne.symm,e2b,ha,hp,hb4,c1,c2,d1,d2,d3,d4];exact bad _ _ _ (by (repeat (first|exact gel_refl _ _ _|refine gel_gs_gs ?_|refine gel_to_gs gs_self ?_|refine gB1 ?_|refine gB2 ?_|refine gel_set (by simp only[gA1,gA2,gA3,gA6,ne_eq,gA9,reduceIte,hb2,e2,hne,hne.symm,e2b,ha,hp,hb4]<;>(first|done|rfl|assumption)) ?_|refine gB3 ?_|refine gel_new (by first|simp only[hb2,hb4]|assumption) ?_))) (by simp only[gA1,gA2,gA3,gA6,ne_eq,gA9,reduceIte,hb2,e2,hne,hne.symm,e2b,ha,hp,hb4]<;>(first|done|rfl|assumption)) hk4
     ·rw[if_pos (by simpa using c2),← g3] at hk4;simp only[go_sem,hb2,e2,hne,hne.symm,e2b,ha,hp,hb4,c1,c2,d1,d2,d3,d4,wrap1 i2 (by omega)];refine ⟨({ o with assoc:=1 },i2+1,n,k),⟨by simp only;omega,by simp only;omega,hn,by simp only;omega,hk4⟩,by simp only;omega,(by (refine gel_ge ?_;repeat (first|exact gel_refl _ _ _|refine gel_gs_gs ?_|refine gel_to_gs gs_self ?_|refine gB1 ?_|refine gB2 ?_|refine gel_set (by simp only[gA1,gA2,gA3,gA6,ne_eq,gA9,reduceIte,hb2,e2,hne,hne.symm,e2b,ha,hp,hb4]<;>(first|done|rfl|assumption)) ?_|refine gB3 ?_|refine gel_new (by first|simp only[hb2,hb4]|assumption) ?_)))⟩
    by_cases x3:t.text=[114,105,103,104,116]
    ·have d1:decide (t.text=[112,114,101,99])=false:=by rw[x3];rfl
     have d2:decide (t.text=[108,101,102,116])=false:=by rw[x3];rfl
     have d3:decide (t.text=[114,105,103,104,116])=true:=by rw[x3];rfl
     have d4:decide (t.text=[115,116,114,105,99,116])=false:=by rw[x3];rfl
     simp only[go_sem,hb2,e2,hne,hne.symm,e2b,ha,hp,hb4,d1,d2,d3,d4];cases c1:decide (t.kind=1)
     ·rw[if_pos (by simpa using c1),Rd.bad_to] at hk4;simp only[go_sem,hb2,e2,hne,hne.symm,e2b,ha,hp,hb4,c1];exact bad _ _ _ (by (repeat (first|exact gel_refl _ _ _|refine gel_gs_gs ?_|refine gel_to_gs gs_self ?_|refine gB1 ?_|refine gB2 ?_|refine gel_set (by simp only[gA1,gA2,gA3,gA6,ne_eq,gA9,reduceIte,hb2,e2,hne,hne.symm,e2b,ha,hp,hb4]<;>(first|done|rfl|assumption)) ?_|refine gB3 ?_|refine gel_new (by first|simp only[hb2,hb4]|assumption) ?_))) (by simp only[gA1,gA2,gA3,gA6,ne_eq,gA9,reduceIte,hb2,e2,hne,hne.symm,e2b,ha,hp,hb4]<;>(first|done|rfl|assumption)) hk4
     rw[if_neg (by simpa using c1),if_neg x1,if_neg x2,if_pos x3] at hk4;simp only[go_sem,hb2,e2,hne,hne.symm,e2b,ha,hp,hb4,c1,d1,d2,d3,d4];cases c2:decide (o.assoc=0)
     ·rw[if_neg (by simpa using c2),Rd.bad_to] at hk4;simp only[go_sem,hb2,e2,hne,hne.symm,e2b,ha,hp,hb4,c1,c2,d1,d2,d3,d4];exact bad _ _ _ (by (repeat (first|exact gel_refl _ _ _|refine gel_gs_gs ?_|refine gel_to_gs gs_self ?_|refine gB1 ?_|refine gB2 ?_|refine gel_set (by simp only[gA1,gA2,gA3,gA6,ne_eq,gA9,reduceIte,hb2,e2,hne,hne.symm,e2b,ha,hp,hb4]<;>(first|done|rfl|assumption)) ?_|refine gB3 ?_|refine gel_new (by first|simp only[hb2,hb4]|assumption) ?_))) (by simp only[gA1,gA2,gA3,gA6,ne_eq,gA9,reduceIte,hb2,e2,hne,hne.symm,e2b,ha,hp,hb4]<;>(first|done|rfl|assumption)) hk4
     ·rw[if_pos (by simpa using c2),← g3] at hk4;simp only[go_sem,hb2,e2,hne,hne.symm,e2b,ha,hp,hb4,c1,c2,d1,d2,d3,d4,wrap1 i2 (by omega)];refine ⟨({ o with assoc:=2 },i2+1,n,k),⟨by simp only;omega,by simp only;omega,hn,by simp only;omega,hk4⟩,by simp only;omega,(by (refine gel_ge ?_;repeat (first|exact gel_refl _ _ _|refine gel_gs_gs ?_|refine gel_to_gs gs_self ?_|refine gB1 ?_|refine gB2 ?_|refine gel_set (by simp only[gA1,gA2,gA3,gA6,ne_eq,gA9,reduceIte,hb2,e2,hne,hne.symm,e2b,ha,hp,hb4]<;>(first|done|rfl|assumption)) ?_|refine gB3 ?_|refine gel_new (by first|simp only[hb2,hb4]|assumption) ?_)))⟩
    by_cases x4:t.text=[115,116,114,105,99,116]
    ·have d1:decide (t.text=[112,114,101,99])=false:=by rw[x4];rfl
     have d2:decide (t.text=[108,101,102,116])=false:=by rw[x4];rfl
     have d3:decide (t.text=[114,105,103,104,116])=false:=by rw[x4];rfl
     have d4:decide (t.text=[115,116,114,105,99,116])=true:=by rw[x4];rfl
     simp only[go_sem,hb2,e2,hne,hne.symm,e2b,ha,hp,hb4,d1,d2,d3,d4];cases c1:decide (t.kind=1)
     ·rw[if_pos (by simpa using c1),Rd.bad_to] at hk4;simp only[go_sem,hb2,e2,hne,hne.symm,e2b,ha,hp,hb4,c1];exact bad _ _ _ (by (repeat (first|exact gel_refl _ _ _|refine gel_gs_gs ?_|refine gel_to_gs gs_self ?_|refine gB1 ?_|refine gB2 ?_|refine gel_set (by simp only[gA1,gA2,gA3,gA6,ne_eq,gA9,reduceIte,hb2,e2,hne,hne.symm,e2b,ha,hp,hb4]<;>(first|done|rfl|assumption)) ?_|refine gB3 ?_|refine gel_new (by first|simp only[hb2,hb4]|assumption) ?_))) (by simp only[gA1,gA2,gA3,gA6,ne_eq,gA9,reduceIte,hb2,e2,hne,hne.symm,e2b,ha,hp,hb4]<;>(first|done|rfl|assumption)) hk4
     rw[if_neg (by simpa using c1),if_neg x1,if_neg x2,if_neg x3,if_pos x4] at hk4;simp only[go_sem,hb2,e2,hne,hne.symm,e2b,ha,hp,hb4,c1,d1,d2,d3,d4];cases c2:decide ((0:Int)<(o.strict.length:Int));rotate_left
     ·rw[if_pos (by simpa using c2),Rd.bad_to] at hk4;simp only[go_sem,hb2,e2,hne,hne.symm,e2b,ha,hp,hb4,c1,c2,d1,d2,d3,d4];exact bad _ _ _ (by (repeat (first|exact gel_refl _ _ _|refine gel_gs_gs ?_|refine gel_to_gs gs_self ?_|refine gB1 ?_|refine gB2 ?_|refine gel_set (by simp only[gA1,gA2,gA3,gA6,ne_eq,gA9,reduceIte,hb2,e2,hne,hne.symm,e2b,ha,hp,hb4]<;>(first|done|rfl|assumption)) ?_|refine gB3 ?_|refine gel_new (by first|simp only[hb2,hb4]|assumption) ?_))) (by simp only[gA1,gA2,gA3,gA6,ne_eq,gA9,reduceIte,hb2,e2,hne,hne.symm,e2b,ha,hp,hb4]<;>(first|done|rfl|assumption)) hk4
     rw[if_neg (by simpa using c2),Rd.bind_to,← g3] at hk4;simp only[go_sem,hb2,e2,hne,hne.symm,e2b,ha,hp,hb4,c1,c2,d1,d2,d3,d4,wrap1 i2 (by omega)];refine want_den (T:=T) (fin:=fin) (d:=d) (first:=first) (i:=i2+1) (n:=n) _ (by simp only[gA1,gA2,gA3,gA6,ne_eq,gA9,reduceIte,hb2,e2,hne,hne.symm,e2b,ha,hp,hb4]<;>(first|done|rfl|assumption)) g2 hT (Rd.to_mono hk4 (fun _ w m hk5 hlt5 hw hm=>?_) (fun f h=>PB.og hbr (by (repeat (first|exact gel_refl _ _ _|refine gel_gs_gs ?_|refine gel_to_gs gs_self ?_|refine gB1 ?_|refine gB2 ?_|refine gel_set (by simp only[gA1,gA2,gA3,gA6,ne_eq,gA9,reduceIte,hb2,e2,hne,hne.symm,e2b,ha,hp,hb4]<;>(first|done|rfl|assumption)) ?_|refine gB3 ?_|refine gel_new (by first|simp only[hb2,hb4]|assumption) ?_))) h));subst m;rw[← hw,Rd.bind_to] at hk5;simp only[go_sem,hb2,e2,hne,hne.symm,e2b,ha,hp,hb4]
     refine Den.weaken (St.ge_same (by simp only[gA1,gA2,gA3,gA6,ne_eq,gA9,reduceIte,hb2,e2,hne,hne.symm,e2b,ha,hp,hb4]<;>(first|done|rfl|assumption))) (plists282_den (fin:=fin) (d:=d) (fi:=first) (fun x:Int=>A.int .i64 x) (fun _=>rfl) (fun _=>rfl) hT (fun s'=>s'.getO b2=some (.cells 74 [.ptr r 0])) (fun _ _ _=>Iff.rfl)
      (numberR fin 8) 283 [] [.ptr b2 0] (hf_of (fun s' x hq => by rw [gA1,if_neg e2.1]; exact hq)
       (fun s' i' n' KV' Kp' hr' hq' hi' hn' hk'=>attrs1_den hT b2 hr' hq' hi' (Rd.to_mono hk' (fun _ _ _ h h1 h2 h3=>by subst h3;exact h (i'+1) (by omega) h1 h2 hn') (fun _ h=>h)))) (i2+1+1) n ?_ hlt5 hn ?_)
     ·exact (by simp only[gA1,gA2,gA3,gA6,ne_eq,gA9,reduceIte,hb2,e2,hne,hne.symm,e2b,ha,hp,hb4]<;>(first|done|rfl|assumption))
     refine Rd.to_mono (loopR_ne _ _ _ _ _ _ _ _ _ hk5) (fun l w m hk6 j hj hjT hw hm=>?_) (fun f h s1 x hg hr1=>DK.here (h _ _ ((gel_of_gx hg hbr).trans (by (repeat (first|exact gel_refl _ _ _|refine gel_gs_gs ?_|refine gel_to_gs gs_self ?_|refine gB1 ?_|refine gB2 ?_|refine gel_set (by simp only[gA1,gA2,gA3,gA6,ne_eq,gA9,reduceIte,hb2,e2,hne,hne.symm,e2b,ha,hp,hb4]<;>(first|done|rfl|assumption)) ?_|refine gB3 ?_|refine gel_new (by first|simp only[hb2,hb4]|assumption) ?_)))) hr1));obtain ⟨hl,hk6⟩:=hk6;subst hw;rw[Rd.bind_to] at hk6
     obtain ⟨x0,l0,rfl⟩:∃ x0 l0,l=x0::l0:=by
      cases l with
      | nil=>exact absurd rfl hl
      | cons a b=>exact ⟨a,b,rfl⟩
     simp only[go_sem,hb2,e2,hne,hne.symm,e2b,ha,hp,hb4];refine want_den (T:=T) (fin:=fin) (d:=d) (first:=first) (i:=j) (n:=m) _ (by simp only[gA1,gA2,gA3,gA6,ne_eq,gA9,reduceIte,hb2,e2,hne,hne.symm,e2b,ha,hp,hb4]<;>(first|done|rfl|assumption)) hjT hT (Rd.to_mono hk6 (fun _ w m' hk7 hlt7 hw hm'=>?_) (fun f h=>PB.og hbr (by (repeat (first|exact gel_refl _ _ _|refine gel_gs_gs ?_|refine gel_to_gs gs_self ?_|refine gB1 ?_|refine gB2 ?_|refine gel_set (by simp only[gA1,gA2,gA3,gA6,ne_eq,gA9,reduceIte,hb2,e2,hne,hne.symm,e2b,ha,hp,hb4]<;>(first|done|rfl|assumption)) ?_|refine gB3 ?_|refine gel_new (by first|simp only[hb2,hb4]|assumption) ?_))) h));subst m';rw[← hw] at hk7;simp only[go_sem,hb2,e2,hne,hne.symm,e2b,ha,hp,hb4];refine ⟨({ o with strict:=x0::l0 },j+1,m,k),⟨by simp only;omega,by simp only;omega,hm,by simp only;omega,hk7⟩,by simp only;omega,(by (refine gel_ge ?_;repeat (first|exact gel_refl _ _ _|refine gel_gs_gs ?_|refine gel_to_gs gs_self ?_|refine gB1 ?_|refine gB2 ?_|refine gel_set (by simp only[gA1,gA2,gA3,gA6,ne_eq,gA9,reduceIte,hb2,e2,hne,hne.symm,e2b,ha,hp,hb4]<;>(first|done|rfl|assumption)) ?_|refine gB3 ?_|refine gel_new (by first|simp only[hb2,hb4]|assumption) ?_)))⟩
    ·have d1:decide (t.text=[112,114,101,99])=false:=by simpa using x1
     have d2:decide (t.text=[108,101,102,116])=false:=by simpa using x2
     have d3:decide (t.text=[114,105,103,104,116])=false:=by simpa using x3
     have d4:decide (t.text=[115,116,114,105,99,116])=false:=by simpa using x4
     rw[if_neg x1,if_neg x2,if_neg x3,if_neg x4,ite_self,Rd.bad_to] at hk4;simp only[go_sem,hb2,e2,hne,hne.symm,e2b,ha,hp,hb4,d1,d2,d3,d4];exact bad _ _ _ (by (repeat (first|exact gel_refl _ _ _|refine gel_gs_gs ?_|refine gel_to_gs gs_self ?_|refine gB1 ?_|refine gB2 ?_|refine gel_set (by simp only[gA1,gA2,gA3,gA6,ne_eq,gA9,reduceIte,hb2,e2,hne,hne.symm,e2b,ha,hp,hb4]<;>(first|done|rfl|assumption)) ?_|refine gB3 ?_|refine gel_new (by first|simp only[hb2,hb4]|assumption) ?_))) (by simp only[gA1,gA2,gA3,gA6,ne_eq,gA9,reduceIte,hb2,e2,hne,hne.symm,e2b,ha,hp,hb4]<;>(first|done|rfl|assumption)) hk4
end
end Go.AV
end
section
namespace Go.AV
open Go Go.Proofs
section
variable {T:List Tok} {fin:Fault} {d:Dc} {first:Tok} {i n:Nat} {s:St} {r:Nat} {KV Kp:St→A→Prop}
theorem Rd.to_all {α:Type} {r:Rd α} {p:α→List Tok→Nat→Prop} {b:Fault→Prop} (h:∀ a w n,p a w n) (hb:∀ f,b f):r.to p b:=by
 cases r with
 | ok a w n=>exact h a w n
 | bad f=>exact hb f
theorem Rd.to_and {α:Type} {r:Rd α} {p q:α→List Tok→Nat→Prop} {b:Fault→Prop} (h:r.to p b) (hq:r.to q (fun _=>True)):r.to (fun a w n=>q a w n∧p a w n) b:=by
 cases r with
 | ok a w n=>exact ⟨hq,h⟩
 | bad f=>exact h
theorem attrsR_keep (fin:Fault):∀ (k:Nat) (o:Opr) (w:List Tok) (n:Nat),(attrsR fin k o w n).to (fun o' _ _=>o'.name=o.name∧o'.args=o.args∧o'.sort=o.sort∧o'.pieces=o.pieces) (fun _=>True)
 | 0,o,w,n=>trivial
 | k+1,o,w,n=>by
  have ih:=fun (o':Opr) w n=>attrsR_keep fin k o' w n
  rw[attrsR.eq_def];simp only;split
  ·exact ⟨rfl,rfl,rfl,rfl⟩
  ·cases w with
   | nil=>trivial
   | cons t w =>
    simp only[Rd.ite_to,Rd.bind_to,Rd.bad_to]
    repeat' split
    all_goals first|trivial|exact ih _ _ _|exact Rd.to_all (fun a w n=>ih { o with prec:=a } w n) (fun _=>trivial)|exact Rd.to_all (fun _ w n=>Rd.to_all (fun l w n=>Rd.to_all (fun _ w n=>ih { o with strict:=l } w n) (fun _=>trivial)) (fun _=>trivial)) (fun _=>trivial)
def opS (T:List Tok) (fin:Fault) (d:Dc) (first:Tok) (b r:Nat) (x:Str) (s:St) (ta tp:Option Nat) (ar:List Str) (ps:List Piece) (i n:Nat):St :=
 gs (gs ((s.setO b (.cells 73 [.str x,gv ta (ar.map .str),.str [],gv tp (ps.map Piece.enc),.int .i64 0,.int .i64 0,.nils])).setO r (psO T fin d first i n)) ta ar.length 9) tp ps.length 143
theorem op_den (hT:TOk T) (hr:s.getO r=some (psO T fin d first i n)) (hi:i≤T.length) (hn:n≤2000)
  (hk:(opR fin (T.drop i) n).to (PK T i (fun j m=>s.setO r (psO T fin d first j m)) Opr.enc KV) (PB s r Kp)):Den cx 151 [.ptr r 0] KV Kp s:=by
 have hlenT:=hT.len;simp only[opR,Rd.bind_to] at hk;refine Den.drop ?_;(refine Den.of_body (C:=cx) Tryz.func151 rfl rfl (gC6 rfl) ?_;refine wpC_ok (V:=[0,2,3,4,5,14,29,39,76]) _ _ _ _ ?_;simp only[go_sem,Tryz.ntmps151,Tryz.f151]);(intro b2 hb2;try simp only[gD6,gA6,ne_eq] at hb2);have e2:=St.ne_of hr (by first|exact hb2|exact hb2.2|exact hb2.2.2|exact hb2.2.2.2|exact hb2.2.2.2.2|exact hb2.2.2.2.2.2|exact hb2.2.2.2.2.2.2);simp only[go_sem,hb2,e2];(refine name_den (T:=T) (fin:=fin) (d:=d) (first:=first) (i:=i) (n:=n) (by simp only[gA1,gA2,gA3,gA6,ne_eq,gA9,reduceIte,hb2,e2]<;>(first|done|rfl|assumption)) hi hT (Rd.to_mono hk (fun x1 w1 m1 hk1 hlt1 hw1 hm1=>?_) (fun f h=>PB.mk (by (repeat (first|exact gA8 _ _|refine St.gx_r ?_|refine gA7 (by first|simp only[hb2]|assumption) ?_|refine St.gx_T (by first|simp only[hb2]|assumption) ?_))) h));subst m1;rw[← hw1] at hk1);simp only[go_sem,hb2,e2];(intro b3 hb3;try simp only[gD6,gA6,ne_eq] at hb3);have e3:=St.ne_of hr (by first|exact hb3|exact hb3.2|exact hb3.2.2|exact hb3.2.2.2|exact hb3.2.2.2.2|exact hb3.2.2.2.2.2|exact hb3.2.2.2.2.2.2);simp only[go_sem,hb2,e2,hb3,e3];(refine want_den (T:=T) (fin:=fin) (d:=d) (first:=first) (i:=i+1) (n:=n) _ (by simp only[gA1,gA2,gA3,gA6,ne_eq,gA9,reduceIte,hb2,e2,hb3,e3]<;>(first|done|rfl|assumption)) hlt1 hT (Rd.to_mono hk1 (fun _ w2 m2 hk2 hlt2 hw2 hm2=>?_) (fun f h=>PB.mk (by (repeat (first|exact gA8 _ _|refine St.gx_r ?_|refine gA7 (by first|simp only[hb2,hb3]|assumption) ?_|refine St.gx_T (by first|simp only[hb2,hb3]|assumption) ?_))) h));subst m2;rw[← hw2] at hk2);simp only[go_sem,hb2,e2,hb3,e3];rw[show (T.drop (i+1+1)).length=T.length-(i+1+1) by rw[gD4]] at hk2
 refine Ex.loop (ι:=(Option Nat × Option Nat) × (List Str × List Piece × Bool) × Nat) (fun c=>[(0,.ptr r 0),(2,.ptr b2 0),(3,.ptr b3 0),(4,.bool c.2.1.2.2)])
  (fun c=>opS T fin d first b3 r x1 (s.setO b2 (.cells 73 [.str [],.nils,.str [],.nils,.int .i64 0,.int .i64 0,.nils])) c.1.1 c.1.2 c.2.1.1 c.2.1.2.1 c.2.2 n)
  (fun c => (c.1.1 = none → c.2.1.1 = []) ∧ (c.1.2 = none → c.2.1.2.1 = []) ∧ (∀ t,c.1.1 = some t → s.getT t = none) ∧ (∀ t,c.1.2 = some t → s.getT t = none ∧ c.1.1 ≠ some t) ∧ i + 1 + 1 ≤ c.2.2 ∧ c.2.2 ≤ T.length ∧ c.2.1.1.length ≤ c.2.2 ∧ c.2.1.2.1.length ≤ c.2.2 ∧ ∃ k,T.length - c.2.2 < k ∧
   (piecesR fin k c.2.1.2.1 c.2.1.1 c.2.1.2.2 (T.drop c.2.2) n).to (fun p w n=>(nameR fin w n).to (fun y w n=>(attrsR fin (w.length+1) ⟨x1,p.2.1,y,if p.2.2=true then p.1 else [],0,0,[]⟩ w n).to (PK T i (fun j m=>s.setO r (psO T fin d first j m)) Opr.enc KV) (PB s r Kp)) (PB s r Kp)) (PB s r Kp))
  (fun c=>T.length-c.2.2) ((none,none),([],[],false),i+1+1) ?_ ?_ ?_ ?_
 ·exact ⟨fun _=>rfl,fun _=>rfl,fun t e=>(by cases e),fun t e=>(by cases e),Nat.le_refl _,hlt2,Nat.zero_le _,Nat.zero_le _,_,Nat.lt_succ_self _,hk2⟩
 ·simp only[go_sem,hb2,e2,hb3,e3]
 ·exact (by (refine gel_ge ?_;repeat (first|exact gel_refl _ _ _|refine gel_gs_gs ?_|refine gel_to_gs gs_self ?_|refine gB1 ?_|refine gB2 ?_|refine gel_set (by simp only[gA1,gA2,gA3,gA6,ne_eq,gA9,reduceIte,hb2,e2,hb3,e3]<;>(first|done|rfl|assumption)) ?_|refine gB3 ?_|refine gel_new (by first|simp only[hb2,hb3]|assumption) ?_)))
 ·rintro ⟨⟨ta,tp⟩,⟨ar,ps,tx⟩,i2⟩ ⟨hnila,hnilp,hfa,hfp,hi1,hi2,has,hps,k,hk3,hk4⟩;simp only at hnila hnilp hfa hfp hi1 hi2 has hps hk3 hk4;obtain ⟨k,rfl⟩:∃ k',k=k'+1:=⟨k-1,by omega⟩
  have hfp1:∀ t,tp=some t→s.getT t=none:=fun t e=>(hfp t e).1
  have hgp:gok (opS T fin d first b3 r x1 (s.setO b2 (.cells 73 [.str [],.nils,.str [],.nils,.int .i64 0,.int .i64 0,.nils])) ta tp ar ps i2 n) tp (ps.map Piece.enc).length 143:=by rw[gC4];exact gs_ok fun e=>by rw[hnilp e];rfl
  have hga:gok (opS T fin d first b3 r x1 (s.setO b2 (.cells 73 [.str [],.nils,.str [],.nils,.int .i64 0,.int .i64 0,.nils])) ta tp ar ps i2 n) ta (ar.map A.str).length 9:=by
   rw[gC4];cases ta with
   | none=>rw[hnila rfl];rfl
   | some t =>
    show (gs _ _ _ _).getT t=_;rw[gs_getT,if_neg (fun e=>(hfp t e).2 rfl),gs_getT,if_pos rfl]
  refine wpC_ok (V:=[0,2,3,4,5,14,29,39,76]) _ _ _ _ ?_;unfold opS;simp only[go_sem,hb2,e2,hb3,e3];refine take_den (T:=T) (fin:=fin) (d:=d) (first:=first) (i:=i2) (n:=n) _ (by simp only[gA1,gA2,gA3,gA6,ne_eq,gA9,reduceIte,hb2,e2,hb3,e3]<;>(first|done|rfl|assumption)) hi2 hT ?_;rw[piecesR.eq_def] at hk4;simp only at hk4;cases hx:isT [45,62] (T.drop i2) with
  | true =>
   rw[if_pos hx,Rd.ok_to,List.tail_drop] at hk4;have hlt:=isT_lt hx
   have hle:∀ (o:Opr),o.name=x1→o.args=ar→o.pieces=(if tx=true then ps else [])→A.le (.agg (opC o (gv ta (ar.map A.str)) (if tx=true then gv tp (ps.map Piece.enc) else .nils))) o.enc:=fun o e1 e2 e3=>by
    subst e1 e2;refine A.le.agg ⟨⟨A.le.refl _,rfl⟩,⟨gv_le _ _ (fun e=>by rw[hnila e];rfl),rfl⟩,⟨A.le.refl _,rfl⟩,⟨?_,rfl⟩,⟨A.le.refl _,rfl⟩,⟨A.le.refl _,rfl⟩,⟨nv_le _,rfl⟩,trivial⟩;rw[e3];cases tx
    ·exact A.le.nil
    ·exact gv_le _ _ (fun e=>by rw[hnilp e];rfl)
   simp only[go_sem,hb2,e2,hb3,e3];cases tx
   ·simp only[go_sem,hb2,e2,hb3,e3];(refine name_den (T:=T) (fin:=fin) (d:=d) (first:=first) (i:=i2+1) (n:=n) (by simp only[gA1,gA2,gA3,gA6,ne_eq,gA9,reduceIte,hb2,e2,hb3,e3]<;>(first|done|rfl|assumption)) hlt hT (Rd.to_mono hk4 (fun x5 w5 m5 hk5 hlt5 hw5 hm5=>?_) (fun f h=>PB.mk (by (repeat (first|refine St.gx_gs ?_ hfa|refine St.gx_gs ?_ hfp1|refine St.gx_T hfa ?_|refine St.gx_T hfp1 ?_|exact gA8 _ _|refine St.gx_r ?_|refine gA7 (by first|simp only[hb2,hb3]|assumption) ?_|refine St.gx_T (by first|simp only[hb2,hb3]|assumption) ?_))) h));subst m5;rw[← hw5] at hk5);simp only[go_sem,hb2,e2,hb3,e3];refine attrs_den hT b3 (gv ta (ar.map A.str)) .nils (gv_one _ _) rfl ⟨x1,ar,x5,[],0,0,[]⟩ ((List.drop (i2+1+1) T).length+1) (T:=T) (fin:=fin) (d:=d) (first:=first) (i:=i2+1+1) (n:=n) (by simp only[gA1,gA2,gA3,gA6,ne_eq,gA9,reduceIte,hb2,e2,hb3,e3]<;>(first|done|rfl|assumption)) (by simp only[gA1,gA2,gA3,gA6,ne_eq,gA9,reduceIte,hb2,e2,hb3,e3]<;>(first|done|rfl|assumption)) hb3.1.2 hlt5 hn (by rw[gD4];omega) (Rd.to_mono (Rd.to_and hk5 (attrsR_keep _ _ _ _ _)) (fun o' w m h j hj hjT hw hm=>?_) (fun f h s1 x hg hr1=>?_))
    ·obtain ⟨⟨q1,q2,q3,q4⟩,h⟩:=h;have hk:=h j (by omega) hjT hw hm;simp only[go_sem,hb2,e2,hb3,e3];refine ⟨by cases ta<;>cases o'.strict<;>rfl,?_⟩;refine DK.mk hk (by (refine gel_ge ?_;repeat (first|exact gel_refl _ _ _|refine gel_gs_gs ?_|refine gel_to_gs gs_self ?_|refine gB1 ?_|refine gB2 ?_|refine gel_gs ?_ hfa|refine gel_gs ?_ hfp1|refine gel_newT hfa ?_|refine gel_newT hfp1 ?_|refine gel_set (by simp only[gA1,gA2,gA3,gA6,ne_eq,gA9,reduceIte,hb2,e2,hb3,e3]<;>(first|done|rfl|assumption)) ?_|refine gB3 ?_|refine gel_new (by first|simp only[hb2,hb3]|assumption) ?_))) ?_;have:=hle o' q1 q2 q4;simp only[go_sem] at this;exact this
    ·exact DK.st (h x) (gel_ge (gel_set hr1 (gel_free hb3.2.2 (hg.trans (by (repeat (first|exact gel_refl _ _ _|refine gel_gs_gs ?_|refine gel_to_gs gs_self ?_|refine gB1 ?_|refine gB2 ?_|refine gel_gs ?_ hfa|refine gel_gs ?_ hfp1|refine gel_newT hfa ?_|refine gel_newT hfp1 ?_|refine gel_set (by simp only[gA1,gA2,gA3,gA6,ne_eq,gA9,reduceIte,hb2,e2,hb3,e3]<;>(first|done|rfl|assumption)) ?_|refine gB3 ?_|refine gel_new (by first|simp only[hb2,hb3]|assumption) ?_)))))))
   ·simp only[go_sem,hb2,e2,hb3,e3];(refine name_den (T:=T) (fin:=fin) (d:=d) (first:=first) (i:=i2+1) (n:=n) (by simp only[gA1,gA2,gA3,gA6,ne_eq,gA9,reduceIte,hb2,e2,hb3,e3]<;>(first|done|rfl|assumption)) hlt hT (Rd.to_mono hk4 (fun x5 w5 m5 hk5 hlt5 hw5 hm5=>?_) (fun f h=>PB.mk (by (repeat (first|refine St.gx_gs ?_ hfa|refine St.gx_gs ?_ hfp1|refine St.gx_T hfa ?_|refine St.gx_T hfp1 ?_|exact gA8 _ _|refine St.gx_r ?_|refine gA7 (by first|simp only[hb2,hb3]|assumption) ?_|refine St.gx_T (by first|simp only[hb2,hb3]|assumption) ?_))) h));subst m5;rw[← hw5] at hk5);simp only[go_sem,hb2,e2,hb3,e3];refine attrs_den hT b3 (gv ta (ar.map A.str)) (gv tp (ps.map Piece.enc)) (gv_one _ _) (gv_one _ _) ⟨x1,ar,x5,ps,0,0,[]⟩ ((List.drop (i2+1+1) T).length+1) (T:=T) (fin:=fin) (d:=d) (first:=first) (i:=i2+1+1) (n:=n) (by simp only[gA1,gA2,gA3,gA6,ne_eq,gA9,reduceIte,hb2,e2,hb3,e3]<;>(first|done|rfl|assumption)) (by simp only[gA1,gA2,gA3,gA6,ne_eq,gA9,reduceIte,hb2,e2,hb3,e3]<;>(first|done|rfl|assumption)) hb3.1.2 hlt5 hn (by rw[gD4];omega) (Rd.to_mono (Rd.to_and hk5 (attrsR_keep _ _ _ _ _)) (fun o' w m h j hj hjT hw hm=>?_) (fun f h s1 x hg hr1=>?_))
    ·obtain ⟨⟨q1,q2,q3,q4⟩,h⟩:=h;have hk:=h j (by omega) hjT hw hm;simp only[go_sem,hb2,e2,hb3,e3];refine ⟨by cases ta<;>cases tp<;>cases o'.strict<;>rfl,?_⟩;refine DK.mk hk (by (refine gel_ge ?_;repeat (first|exact gel_refl _ _ _|refine gel_gs_gs ?_|refine gel_to_gs gs_self ?_|refine gB1 ?_|refine gB2 ?_|refine gel_gs ?_ hfa|refine gel_gs ?_ hfp1|refine gel_newT hfa ?_|refine gel_newT hfp1 ?_|refine gel_set (by simp only[gA1,gA2,gA3,gA6,ne_eq,gA9,reduceIte,hb2,e2,hb3,e3]<;>(first|done|rfl|assumption)) ?_|refine gB3 ?_|refine gel_new (by first|simp only[hb2,hb3]|assumption) ?_))) ?_;have:=hle o' q1 q2 q4;simp only[go_sem] at this;exact this
    ·exact DK.st (h x) (gel_ge (gel_set hr1 (gel_free hb3.2.2 (hg.trans (by (repeat (first|exact gel_refl _ _ _|refine gel_gs_gs ?_|refine gel_to_gs gs_self ?_|refine gB1 ?_|refine gB2 ?_|refine gel_gs ?_ hfa|refine gel_gs ?_ hfp1|refine gel_newT hfa ?_|refine gel_newT hfp1 ?_|refine gel_set (by simp only[gA1,gA2,gA3,gA6,ne_eq,gA9,reduceIte,hb2,e2,hb3,e3]<;>(first|done|rfl|assumption)) ?_|refine gB3 ?_|refine gel_new (by first|simp only[hb2,hb3]|assumption) ?_)))))))
  | false =>
   rw[if_neg (by rw[hx];simp)] at hk4;simp only[go_sem,hb2,e2,hb3,e3];refine peek_den (T:=T) (fin:=fin) (d:=d) (first:=first) (i:=i2) (n:=n) (by simp only[gA1,gA2,gA3,gA6,ne_eq,gA9,reduceIte,hb2,e2,hb3,e3]<;>(first|done|rfl|assumption)) hi2 ?_;cases hw:T.drop i2 with
   | nil=>rw[hw] at hk4;exact hk4.at (by (repeat (first|refine St.gx_gs ?_ hfa|refine St.gx_gs ?_ hfp1|refine St.gx_T hfa ?_|refine St.gx_T hfp1 ?_|exact gA8 _ _|refine St.gx_r ?_|refine gA7 (by first|simp only[hb2,hb3]|assumption) ?_|refine St.gx_T (by first|simp only[hb2,hb3]|assumption) ?_))) (by simp only[gA1,gA2,gA3,gA6,ne_eq,gA9,reduceIte,hb2,e2,hb3,e3]<;>(first|done|rfl|assumption))
   | cons t w =>
    obtain ⟨g1,g2,g3,g4⟩:=drop_get hw;rw[hw] at hk4;simp only at hk4;simp only[go_sem,hb2,e2,hb3,e3];(intro b4 hb4;try simp only[gD6,gA6,ne_eq] at hb4);have e4:=St.ne_of hr (by first|exact hb4|exact hb4.2|exact hb4.2.2|exact hb4.2.2.2|exact hb4.2.2.2.2|exact hb4.2.2.2.2.2|exact hb4.2.2.2.2.2.2);simp only[go_sem,hb2,e2,hb3,e3,hb4,e4];cases c3:decide (t.kind=3);rotate_left
    ·
     have k3:t.kind=3:=by simpa using c3
     rw[if_pos (.inl k3),if_pos k3] at hk4;simp only[go_sem,hb2,e2,hb3,e3,hb4,e4,c3,lenS_gv hgp];refine room_den (T:=T) (fin:=fin) (d:=d) (first:=first) (i:=i2) (n:=n) _ _ (by simp only[gA1,gA2,gA3,gA6,ne_eq,gA9,reduceIte,hb2,e2,hb3,e3,hb4,e4]<;>(first|done|rfl|assumption)) hi2 ?_;by_cases h20:20≤ps.length
     ·rw[if_pos h20,Rd.bad_to] at hk4;rw[if_pos (by omega),hw];exact PB.mk (by (repeat (first|refine St.gx_gs ?_ hfa|refine St.gx_gs ?_ hfp1|refine St.gx_T hfa ?_|refine St.gx_T hfp1 ?_|exact gA8 _ _|refine St.gx_r ?_|refine gA7 (by first|simp only[hb2,hb3,hb4]|assumption) ?_|refine St.gx_T (by first|simp only[hb2,hb3,hb4]|assumption) ?_))) hk4
     rw[if_neg h20,← g3] at hk4;rw[if_neg (by omega)];simp only[go_sem,hb2,e2,hb3,e3,hb4,e4,c3];refine ⟨by decide,fun y hy=>by simp only[List.mem_singleton] at hy;subst hy;rfl,appL_gv rfl rfl (by rw[gC4];exact gs_ok fun e=>by rw[hnilp e];rfl) (fun y hy=>?_) (by simp only[gC4,gC1,gC3];omega) (fun u hu=>?_)⟩
     ·simp only[List.mem_map] at hy;obtain ⟨q,_,rfl⟩:=hy;rfl
     have hfu:s.getT u=none∧ta≠some u:=by
      rcases hu with e|⟨e,hu⟩
      ·exact hfp u e
      ·rw[e] at hu;have hu:(gs (gs _ ta _ _) none _ _).getT u=none:=hu;rw[gs_getT,if_neg (by simp),gs_getT] at hu;split at hu
       ·cases hu
       ·rename_i e2;exact ⟨hu,e2⟩
     have hnu:=hfu.2;rw[gs_set hu];simp only[go_sem,hb2,e2,hb3,e3,hb4,e4,wrap1 i2 (by omega)];refine ⟨((ta,some u),(ar,ps++[⟨t.text,[]⟩],true),i2+1),⟨hnila,fun e=>(by cases e),hfa,fun t' e=>by cases e;exact hfu,by simp only;omega,by simp only;omega,by simp only;omega,by simp only[gC2,gC1,gC3];omega,k,by simp only;omega,hk4⟩,by simp only;omega,?_⟩;simp only[opS,gv_some,List.map_append,List.map_cons,List.map_nil,gC2,gC1,gC3,gC4];exact ⟨trivial,(by (refine gel_ge ?_;repeat (first|exact gel_refl _ _ _|refine gel_gs_gs ?_|refine gel_to_gs gs_self ?_|refine gB1 ?_|refine gB2 ?_|refine gel_gs ?_ hfa|refine gel_gs ?_ hfp1|refine gel_newT hfa ?_|refine gel_newT hfp1 ?_|refine gel_set (by simp only[gA1,gA2,gA3,gA6,ne_eq,gA9,reduceIte,hb2,e2,hb3,e3,hb4,e4]<;>(first|done|rfl|assumption)) ?_|refine gB3 ?_|refine gel_new (by first|simp only[hb2,hb3,hb4]|assumption) ?_)))⟩
    have k3:¬ t.kind=3:=by simpa using c3
    cases c1:decide (t.kind=1)
    ·rw[if_neg (by simp[k3,Tok.free,c1]),Rd.bad_to] at hk4;simp only[go_sem,hb2,e2,hb3,e3,hb4,e4,c3,c1];refine fail_den (T:=T) (fin:=fin) (d:=d) (first:=first) (i:=i2) (n:=n) 11 (by simp only[gA1,gA2,gA3,gA6,ne_eq,gA9,reduceIte,hb2,e2,hb3,e3,hb4,e4]<;>(first|done|rfl|assumption)) hi2 hT ?_;rw[hw];exact PB.at hk4 (by (repeat (first|refine St.gx_gs ?_ hfa|refine St.gx_gs ?_ hfp1|refine St.gx_T hfa ?_|refine St.gx_T hfp1 ?_|exact gA8 _ _|refine St.gx_r ?_|refine gA7 (by first|simp only[hb2,hb3,hb4]|assumption) ?_|refine St.gx_T (by first|simp only[hb2,hb3,hb4]|assumption) ?_))) (by simp only[gA1,gA2,gA3,gA6,ne_eq,gA9,reduceIte,hb2,e2,hb3,e3,hb4,e4]<;>(first|done|rfl|assumption))
    simp only[go_sem,hb2,e2,hb3,e3,hb4,e4,c3,c1];refine isReserved145_den _ _ _ _ ?_;simp only[go_sem,hb2,e2,hb3,e3,hb4,e4];cases c2:decide (t.text∈reservedW);rotate_left
    ·rw[if_neg (by simp[k3,Tok.free,c2]),Rd.bad_to] at hk4;simp only[go_sem,hb2,e2,hb3,e3,hb4,e4,c2];refine fail_den (T:=T) (fin:=fin) (d:=d) (first:=first) (i:=i2) (n:=n) 11 (by simp only[gA1,gA2,gA3,gA6,ne_eq,gA9,reduceIte,hb2,e2,hb3,e3,hb4,e4]<;>(first|done|rfl|assumption)) hi2 hT ?_;rw[hw];exact PB.at hk4 (by (repeat (first|refine St.gx_gs ?_ hfa|refine St.gx_gs ?_ hfp1|refine St.gx_T hfa ?_|refine St.gx_T hfp1 ?_|exact gA8 _ _|refine St.gx_r ?_|refine gA7 (by first|simp only[hb2,hb3,hb4]|assumption) ?_|refine St.gx_T (by first|simp only[hb2,hb3,hb4]|assumption) ?_))) (by simp only[gA1,gA2,gA3,gA6,ne_eq,gA9,reduceIte,hb2,e2,hb3,e3,hb4,e4]<;>(first|done|rfl|assumption))
    rw[if_pos (.inr (by simp[Tok.free,c1,c2])),if_neg k3] at hk4;simp only[go_sem,hb2,e2,hb3,e3,hb4,e4,c2,lenS_gv hgp];refine room_den (T:=T) (fin:=fin) (d:=d) (first:=first) (i:=i2) (n:=n) _ _ (by simp only[gA1,gA2,gA3,gA6,ne_eq,gA9,reduceIte,hb2,e2,hb3,e3,hb4,e4]<;>(first|done|rfl|assumption)) hi2 ?_;by_cases h20:20≤ps.length
    ·rw[if_pos h20,Rd.bad_to] at hk4;rw[if_pos (by omega),hw];exact PB.mk (by (repeat (first|refine St.gx_gs ?_ hfa|refine St.gx_gs ?_ hfp1|refine St.gx_T hfa ?_|refine St.gx_T hfp1 ?_|exact gA8 _ _|refine St.gx_r ?_|refine gA7 (by first|simp only[hb2,hb3,hb4]|assumption) ?_|refine St.gx_T (by first|simp only[hb2,hb3,hb4]|assumption) ?_))) hk4
    rw[if_neg h20] at hk4;rw[if_neg (by omega)];simp only[go_sem,hb2,e2,hb3,e3,hb4,e4,c3,lenS_gv hga];refine room_den (T:=T) (fin:=fin) (d:=d) (first:=first) (i:=i2) (n:=n) _ _ (by simp only[gA1,gA2,gA3,gA6,ne_eq,gA9,reduceIte,hb2,e2,hb3,e3,hb4,e4]<;>(first|done|rfl|assumption)) hi2 ?_;by_cases h8:8≤ar.length
    ·rw[if_pos h8,Rd.bad_to] at hk4;rw[if_pos (by omega),hw];exact PB.mk (by (repeat (first|refine St.gx_gs ?_ hfa|refine St.gx_gs ?_ hfp1|refine St.gx_T hfa ?_|refine St.gx_T hfp1 ?_|exact gA8 _ _|refine St.gx_r ?_|refine gA7 (by first|simp only[hb2,hb3,hb4]|assumption) ?_|refine St.gx_T (by first|simp only[hb2,hb3,hb4]|assumption) ?_))) hk4
    rw[if_neg h8,← g3] at hk4;rw[if_neg (by omega)];simp only[go_sem,hb2,e2,hb3,e3,hb4,e4,c3];refine ⟨by decide,fun y hy=>by simp only[List.mem_singleton] at hy;subst hy;rfl,appL_gv rfl rfl (by rw[gC4];exact gs_ok fun e=>by rw[hnilp e];rfl) (fun y hy=>?_) (by simp only[gC4,gC1,gC3];omega) (fun u hu=>?_)⟩
    ·simp only[List.mem_map] at hy;obtain ⟨q,_,rfl⟩:=hy;rfl
    have hfu:s.getT u=none∧ta≠some u:=by
     rcases hu with e|⟨e,hu⟩
     ·exact hfp u e
     ·rw[e] at hu;have hu:(gs (gs _ ta _ _) none _ _).getT u=none:=hu;rw[gs_getT,if_neg (by simp),gs_getT] at hu;split at hu
      ·cases hu
      ·rename_i e2;exact ⟨hu,e2⟩
    have hnu:=hfu.2;rw[gs_set hu];simp only[go_sem,hb2,e2,hb3,e3,hb4,e4];refine ⟨by decide,fun y hy=>by simp only[List.mem_singleton] at hy;subst hy;rfl,appL_gv rfl rfl ?_ (fun y hy=>?_) (by simp only[gC4,gC1,gC3];omega) (fun v hv=>?_)⟩
    ·rw[gC4];cases ta with
     | none=>rw[hnila rfl];rfl
     | some t =>
      show St.getT _ t=_;rw[gA4,if_neg (fun e=>hnu (by rw[e])),gs_getT,if_pos rfl]
    ·simp only[List.mem_map] at hy;obtain ⟨q,_,rfl⟩:=hy;rfl
    have hfv:s.getT v=none∧¬ v=u:=by
     rcases hv with e|⟨e,hv⟩
     ·exact ⟨hfa v e,fun e2=>hnu (by rw[e,e2])⟩
     ·subst e;rw[gA4] at hv;split at hv
      ·cases hv
      ·rename_i e2;exact ⟨hv,fun e3=>e2 e3.symm⟩
    simp only[go_sem,hb2,e2,hb3,e3,hb4,e4,wrap1 i2 (by omega)];refine ⟨((some v,some u),(ar++[t.text],ps++[⟨[],t.text⟩],tx),i2+1),⟨fun e=>(by cases e),fun e=>(by cases e),fun t' e=>by cases e;exact hfv.1,fun t' e=>by cases e;exact ⟨hfu.1,fun e=>hfv.2 (by cases e;rfl)⟩,by simp only;omega,by simp only;omega,by simp only[gC2,gC1,gC3];omega,by simp only[gC2,gC1,gC3];omega,k,by simp only;omega,hk4⟩,by simp only;omega,?_⟩;simp only[opS,gv_some,List.map_append,List.map_cons,List.map_nil,gC2,gC1,gC3,gC4];have hvu:=hfv.2;refine ⟨trivial,gel_ge (gel_to_gs ?_ (gel_to_gs ?_ (by (repeat (first|exact gel_refl _ _ _|refine gel_gs_gs ?_|refine gel_to_gs gs_self ?_|refine gB1 ?_|refine gB2 ?_|refine gel_gs ?_ hfa|refine gel_gs ?_ hfp1|refine gel_newT hfa ?_|refine gel_newT hfp1 ?_|refine gel_set (by simp only[gA1,gA2,gA3,gA6,ne_eq,gA9,reduceIte,hb2,e2,hb3,e3,hb4,e4]<;>(first|done|rfl|assumption)) ?_|refine gB3 ?_|refine gel_new (by first|simp only[hb2,hb3,hb4]|assumption) ?_)))))⟩
    ·rintro _ ⟨⟩;simp only[gA4,hvu,if_false,reduceIte,Nat.zero_add]
    ·rintro _ ⟨⟩;simp only[gA4,reduceIte,Nat.zero_add]
end
end Go.AV
end
section
namespace Go.AV
open Go Go.Proofs
abbrev Own:=Option Nat × Nat × TypeId
def gsl (s:St):List Own→St
 | []=>s
 | o::l=>gs (gsl s l) o.1 o.2.1 o.2.2
structure OwnOk (s:St) (l:List Own):Prop where
 free:∀ o,o∈l→∀ t,o.1=some t→s.getT t=none
 nil:∀ o,o∈l→o.1=none→o.2.1=0
 dst:∀ (i j:Nat) (a b:Own) (t:Nat),l[i]?=some a→l[j]?=some b→a.1=some t→b.1=some t→i=j
@[go_sem] theorem gA5 (s : St) (l : List Own) (b : Nat) : (gsl s l).getO b = s.getO b := by
  induction l with
  | nil=>rfl
  | cons o l ih=>simp only[gsl,gA6,ih]
@[go_sem] theorem gsl_setO (s : St) (l : List Own) (b : Nat) (o : Ob) : (gsl s l).setO b o = gsl (s.setO b o) l := by
  induction l with
  | nil=>rfl
  | cons a l ih=>simp only[gsl,gs_setO,ih]
theorem gs_ls (s:St) (tk:Option Nat) (n:Nat) (e:TypeId):(gs s tk n e).ls=s.ls:=by cases tk<;>rfl
@[go_sem] theorem gsl_ls (s : St) (l : List Own) : (gsl s l).ls = s.ls := by
  induction l with
  | nil=>rfl
  | cons o l ih=>simp only[gsl,gs_ls,ih]
theorem gsl_getT (s:St) (l:List Own) (u:Nat):(gsl s l).getT u=match l.find? (fun o=>decide (o.1=some u)) with|some o=>some o.2|none=>s.getT u:=by
 induction l with
 | nil=>rfl
 | cons o l ih =>
  simp only[gsl,gs_getT,List.find?];by_cases h:o.1=some u
  ·simp only[h,if_true,decide_true]
  ·simp only[h,if_false,decide_false,ih]
theorem gsl_getT_some {s:St} {l:List Own} (h:OwnOk s l) {k:Nat} {o:Own} (hk:l[k]?=some o) {t:Nat} (ht:o.1=some t):(gsl s l).getT t=some o.2:=by
 rw[gsl_getT];cases hf:l.find? (fun o=>decide (o.1=some t)) with
 | none =>
  have:=List.find?_eq_none.1 hf o (List.mem_of_getElem? hk);simp[ht] at this
 | some a =>
  have h1:=List.find?_some hf;have h2:=List.mem_of_find?_eq_some hf;obtain ⟨j,hj,rfl⟩:=List.getElem_of_mem h2;have hj':l[j]?=some l[j]:=List.getElem?_eq_getElem hj;have:=h.dst j k _ _ t hj' hk (by simpa using h1) ht;subst this;rw[hj'] at hk;cases hk;rfl
theorem gsl_getT_no {s:St} {l:List Own} {t:Nat} (h:∀ o,o∈l→o.1≠some t):(gsl s l).getT t=s.getT t:=by
 rw[gsl_getT,List.find?_eq_none.2 (fun o ho=>by simpa using h o ho)]
theorem gsl_gok {s:St} {l:List Own} (h:OwnOk s l) {k:Nat} {o:Own} (hk:l[k]?=some o):gok (gsl s l) o.1 o.2.1 o.2.2:=by
 obtain ⟨tk,n,e⟩:=o;cases tk with
 | none=>exact h.nil _ (List.mem_of_getElem? hk) rfl
 | some t=>exact gsl_getT_some h hk rfl
theorem OwnOk.to {s X:St} {l:List Own} (h:OwnOk s l) (hX:∀ t,X.getT t=s.getT t):OwnOk X l:=⟨fun o ho t ht=>by rw[hX];exact h.free o ho t ht,h.nil,h.dst⟩
theorem gsl_gokX {s X:St} {l:List Own} (h:OwnOk s l) {k:Nat} {o:Own} (hk:l[k]?=some o) (hX:∀ t,X.getT t=s.getT t):gok (gsl X l) o.1 o.2.1 o.2.2:=gsl_gok (h.to hX) hk
theorem gsl_own {s X:St} {l:List Own} (h:OwnOk s l) {k:Nat} {o:Own} (hk:l[k]?=some o) {t:Nat}
  (ht:o.1=some t∨o.1=none∧(gsl X l).getT t=none) (hX:∀ t,X.getT t=s.getT t) (n:Nat):OwnOk s (l.set k (some t,n,o.2.2)):=by
 have hfree:s.getT t=none∧∀ (j:Nat) (a:Own),l[j]?=some a→a.1=some t→j=k:=by
  rcases ht with e|⟨e,e2⟩
  ·exact ⟨h.free o (List.mem_of_getElem? hk) t e,fun j a ha hat=>h.dst j k a o t ha hk hat e⟩
  ·rw[gsl_getT] at e2;cases hf:l.find? (fun o=>decide (o.1=some t)) with
   | some a=>rw[hf] at e2;cases e2
   | none =>
    rw[hf] at e2;refine ⟨by rw[← hX];exact e2,fun j a ha hat=>?_⟩;have:=List.find?_eq_none.1 hf a (List.mem_of_getElem? ha);simp[hat] at this
 have hlt:k<l.length:=by
  rcases Nat.lt_or_ge k l.length with h|h
  ·exact h
  ·rw[List.getElem?_eq_none h] at hk;cases hk
 refine ⟨fun a ha u hu=>?_,fun a ha hn=>?_,fun i j a b u hi hj ha hb=>?_⟩
 ·rcases List.mem_or_eq_of_mem_set ha with ha|rfl
  ·exact h.free a ha u hu
  ·cases hu;exact hfree.1
 ·rcases List.mem_or_eq_of_mem_set ha with ha|rfl
  ·exact h.nil a ha hn
  ·cases hn
 ·rw[List.getElem?_set] at hi hj;split at hi<;>split at hj
  ·rename_i e1 e2;rw[← e1,← e2]
  ·rename_i e1 e2
   try rw[if_pos hlt] at hi
   cases hi;cases ha;exact (e2 (hfree.2 j b hj hb).symm).elim
  ·rename_i e1 e2
   try rw[if_pos hlt] at hj
   cases hj;cases hb;exact (e1 (hfree.2 i a hi ha).symm).elim
  ·exact h.dst i j a b u hi hj ha hb
theorem gsl_app {s X:St} {l:List Own} (h:OwnOk s l) {k:Nat} {o:Own} (hk:l[k]?=some o) {t n:Nat} (h':OwnOk s (l.set k (some t,n,o.2.2)))
  (hX:∀ t,X.getT t=s.getT t):((gsl X l).setT t (n,o.2.2)).ge (gsl X (l.set k (some t,n,o.2.2))):=by
 have hlt:k<l.length:=by
  rcases Nat.lt_or_ge k l.length with h|h
  ·exact h
  ·rw[List.getElem?_eq_none h] at hk;cases hk
 have hk':(l.set k (some t,n,o.2.2))[k]?=some (some t,n,o.2.2):=by rw[List.getElem?_set,if_pos rfl,if_pos hlt]
 refine ⟨fun b o h=>by rw[gA5] at h;rw[gA3,gA5];exact h,fun u m hm=>?_,fun x hx=>by rw[gsl_ls] at hx;show (gsl X l).ls=_;rw[gsl_ls];exact hx⟩;rw[gA4];rw[gsl_getT] at hm;cases hf:(l.set k (some t,n,o.2.2)).find? (fun o=>decide (o.1=some u)) with
 | some a =>
  rw[hf] at hm;have h1:=List.find?_some hf;have h2:=List.mem_of_find?_eq_some hf;simp only[decide_eq_true_eq] at h1;obtain ⟨j,hj,e⟩:=List.getElem_of_mem h2;have hj':(l.set k (some t,n,o.2.2))[j]?=some a:=by rw[List.getElem?_eq_getElem hj,e]
  by_cases htu:t=u
  ·subst htu;have:=h'.dst j k a _ t hj' hk' h1 rfl;subst this;rw[hj'] at hk';cases hk';rw[if_pos rfl];exact hm
  ·rw[if_neg htu]
   have hjk:k≠j:=fun e=>by
    subst e;rw[hj'] at hk';cases hk';exact htu (by simpa using h1)
   rw[List.getElem?_set,if_neg hjk] at hj'
   have h3:(gsl X l).getT u=some a.2:=by
    rw[gsl_getT];cases hf2:l.find? (fun o=>decide (o.1=some u)) with
    | none =>
     have:=List.find?_eq_none.1 hf2 a (List.mem_of_getElem? hj');simp[h1] at this
    | some c =>
     have h4:=List.find?_some hf2;simp only[decide_eq_true_eq] at h4;obtain ⟨i,hi,e⟩:=List.getElem_of_mem (List.mem_of_find?_eq_some hf2);have hi':l[i]?=some c:=by rw[List.getElem?_eq_getElem hi,e]
     have:=h.dst i j c a u hi' hj' h4 h1;subst this;rw[hi'] at hj';cases hj';rfl
   rw[h3];exact hm
 | none =>
  rw[hf] at hm;have hno:=List.find?_eq_none.1 hf
  have htu:¬ t=u:=fun e=>by
   have:=hno _ (List.mem_of_getElem? hk');simp[e] at this
  rw[if_neg htu,gsl_getT];cases hf2:l.find? (fun o=>decide (o.1=some u)) with
  | none=>exact hm
  | some c =>
   have h4:=List.find?_some hf2;simp only[decide_eq_true_eq] at h4;have:=h.free c (List.mem_of_find?_eq_some hf2) u h4;rw[← hX] at this;have hm:X.getT u=some m:=hm;rw[this] at hm;cases hm
theorem gsl_ge {X Y:St} {l:List Own} (h:X.ge Y):(gsl X l).ge (gsl Y l):=by
 induction l with
 | nil=>exact h
 | cons o l ih=>exact gel_ge (gel_gs_gs (gel_of_ge ih _ _))
theorem gsl_gel {X s:St} {l:List Own} {L M:List Nat} (hf:∀ o,o∈l→∀ t,o.1=some t→s.getT t=none) (h:X.gel s L M):(gsl X l).gel s L M:=by
 induction l with
 | nil=>exact h
 | cons o l ih=>exact gel_gs (ih fun a ha=>hf a (by simp[ha])) (hf o (by simp))
theorem gsl_gx {X s:St} {l:List Own} {r:Nat} (hf:∀ o,o∈l→∀ t,o.1=some t→s.getT t=none) (h:X.gx s r):(gsl X l).gx s r:=by
 induction l with
 | nil=>exact h
 | cons o l ih=>exact St.gx_gs (ih fun a ha=>hf a (by simp[ha])) (hf o (by simp))
theorem gsl_weak {s:St} {l:List Own} {s2:St} (hs:s.ge s2) (h:∀ o,o∈l→∀ t,o.1=some t→s2.getT t=none):(gsl s l).ge s2:=gel_ge (gsl_gel h (gel_of_ge hs _ _))
end Go.AV
end
