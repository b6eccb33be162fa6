/-
  Part of the proof of DefBlanks.
-/
import Derived.Test.YtamikhobdffnfaaGreatDoorBl22
import Derived.Test.YtamikhobdffnfaaGreatDoorBl21
set_option linter.all false
set_option maxRecDepth 1000000
set_option maxHeartbeats 40000000
section
namespace Go.AV
open Go Go.Proofs
section
variable {T:List Tok} {fin:Fault} {d:Dc} {first:Tok} {i n:Nat} {s:St} {r:Nat} {KV Kp:St→A→Prop}
theorem EntQ.setT {b2 b3 q r k:Nat} {s:St} {acc:List Tm} {tk:Option Nat} {i t:Nat} {v:Nat × TypeId} (h:EntQ b2 b3 q r k s acc tk i) (ht:tk≠some t):EntQ b2 b3 q r k (s.setT t v) acc tk i :=
 ⟨h.len,h.h2,h.h3,h.hq,h.ne,h.nil,fun u hu => by
  rw[gA4,if_neg (fun e=>ht (by rw[hu,e]))];exact h.free u hu⟩
theorem EntQ.unT {b2 b3 q r k:Nat} {s:St} {acc:List Tm} {tk:Option Nat} {i t:Nat} {v:Nat × TypeId} (h:EntQ b2 b3 q r k (s.setT t v) acc tk i):tk≠some t∧∀ u,tk=some u→s.getT u=none:=by
 have h1:tk≠some t:=fun e=>by
  have:=h.free t e;rw[gA4,if_pos rfl] at this;cases this
 refine ⟨h1,fun u hu=>?_⟩;have:=h.free u hu;rw[gA4] at this;split at this
 ·cases this
 ·exact this
theorem EntQ.dropT {b2 b3 q r k:Nat} {s:St} {acc:List Tm} {tk:Option Nat} {i t:Nat} {v:Nat × TypeId} (h:EntQ b2 b3 q r k (s.setT t v) acc tk i):EntQ b2 b3 q r k s acc tk i :=
 ⟨h.len,h.h2,h.h3,h.hq,h.ne,h.nil,h.unT.2⟩
section
variable {kind:Int} {x:Str} {q:Nat} {acc:List Tm} {tk:Option Nat} {t:Nat} {v u:Nat × TypeId}
theorem entS_getT:(entS T fin d first kind x q r s acc tk i n).getT t=if tk=some t then some (acc.length,43) else s.getT t:=gs_getT _ _ _ _ _
theorem entS_swap (h:tk≠some t):((entS T fin d first kind x q r s acc tk i n).setT t v).ge (entS T fin d first kind x q r (s.setT t v) acc tk i n):=gs_swap h
theorem entS_over (h:tk≠some t):((entS T fin d first kind x q r (s.setT t v) acc tk i n).setT t u).ge (entS T fin d first kind x q r (s.setT t u) acc tk i n):=by
 refine ⟨fun b o ho=>by rw[gA3];unfold entS at *;rw[gA6] at *;exact ho,fun c m hm=>?_,fun y hy=>by cases tk<;>exact hy⟩;rw[entS_getT,gA4] at hm;rw[gA4,entS_getT,gA4];by_cases htc:t=c
 ·subst htc;rw[if_neg h,if_pos rfl] at hm;rw[if_pos rfl];exact hm
 ·rw[if_neg htc] at hm ⊢;rw[if_neg htc];exact hm
theorem entS_drop (h:s.getT t=none):(entS T fin d first kind x q r (s.setT t v) acc tk i n).ge (entS T fin d first kind x q r s acc tk i n) :=
 gs_ge_of (fun b o ho=>ho) (fun y hy=>hy) (fun c m _ hm=>by
  show (s.setT t v).getT c=some m;have hm':s.getT c=some m:=hm;rw[gA4];by_cases htc:t=c
  ·subst htc;rw[h] at hm';cases hm'
  ·rw[if_neg htc];exact hm')
theorem entS_r (hq:q≠r):(entS T fin d first kind x q r s acc tk i n).getO r=some (psO T fin d first i n):=by
 unfold entS;rw[gA6,gA1,if_pos rfl]
theorem entS_step:((entS T fin d first kind x q r s acc tk i n).setO r (psO T fin d first (i+1) n)).ge (entS T fin d first kind x q r s acc tk (i+1) n):=by
 unfold entS;rw[gs_setO,setO_setO];exact St.ge.refl _
end
theorem entries_den (k:Nat) (hk60:k≤60) (IH:TermOk T fin r k) (hr:s.getO r=some (psO T fin d first i n)) (hi:i≤T.length) (hT:TOk T) (hn:n≤2000)
  (hk : ((if isT [124] (T.drop i) = true ∨ isT [125] (T.drop i) = true then Rd.ok [] (T.drop i) n else loopR fin [44] (entR fin (termR false fin first k)) ((T.drop i).length + 1) [] (T.drop i) n).bind fun l w n =>
   (restR fin first (decide (k=0)) [77,97,112] w n).bind fun r w n=>(wantR fin [125] w n).bind fun _ w n=>.ok (.mk 8 0 [] [] l r) w n).to (PK T i (fun j m=>s.setO r (psO T fin d first j m)) Tm.enc KV) (PB s r Kp)) :
  Den cx 243 [.ptr r 0,.int .i64 ((60-k:Nat):Int)] KV Kp s:=by
 refine Den.drop ?_;(refine Den.of_body (C:=cx) Tryz.func243 rfl rfl (gC6 rfl) ?_;refine wpC_ok (V:=[0,1,2,3,4,5,6,16]) _ _ _ _ ?_;simp only[go_sem,Tryz.ntmps243,Tryz.f243]);(intro b2 hb2;try simp only[gD6,ne_eq] at hb2);simp only[go_sem,hb2];(intro b3 hb3;try simp only[gD6,ne_eq] at hb3);simp only[go_sem,hb2,hb3];(intro b4 hb4;try simp only[gD6,ne_eq] at hb4);simp only[go_sem,hb2,hb3,hb4];(intro b5 hb5;try simp only[gD6,ne_eq] at hb5);have e2:=St.ne_of hr hb2;have e3:=St.ne_of hr hb3.2;have e4:=St.ne_of hr hb4.2.2;have e5:=St.ne_of hr hb5.2.2.2;have ek:decide (60-k=60)=decide (k=0):=by rw[decide_eq_decide];omega
 simp only[go_sem,hb2,hb3,hb4,hb5,e2,e3,e4,e5];refine is_den (T:=T) (fin:=fin) (d:=d) (first:=first) (i:=i) (n:=n) _ (by simp only[gA1,ne_eq,gA9,reduceIte,hb2,hb3,hb4,hb5,e2,e3,e4,e5]<;>(first|done|rfl|assumption)) hi ?_;simp only[go_sem,hb2,hb3,hb4,hb5,e2,e3,e4,e5];cases cA:isT [124] (T.drop i)
 ·simp only[go_sem,hb2,hb3,hb4,hb5,e2,e3,e4,e5,cA];refine is_den (T:=T) (fin:=fin) (d:=d) (first:=first) (i:=i) (n:=n) _ (by simp only[gA1,ne_eq,gA9,reduceIte,hb2,hb3,hb4,hb5,e2,e3,e4,e5]<;>(first|done|rfl|assumption)) hi ?_;simp only[go_sem,hb2,hb3,hb4,hb5,e2,e3,e4,e5,cA];cases cB:isT [125] (T.drop i)
  ·simp only[go_sem,hb2,hb3,hb4,hb5,e2,e3,e4,e5,cA,cB];rw[if_neg (by rw[cA,cB];simp),Rd.bind_to] at hk
   refine Den.weaken (St.ge_same (by simp only[gA1,ne_eq,gA9,reduceIte,hb2,hb3,hb4,hb5,e2,e3,e4,e5]<;>(first|done|rfl|assumption))) (plist146_den (fin:=fin) (σ:=List Tm) (α:=Unit) (X:=Option Nat) (r:=r) (fun _=>.bool true) (fun _=>rfl) (fun _=>rfl) hT
    (fun s' acc tk i n=>entS T fin d first 8 [] b5 r s' acc tk i n) (fun s' acc tk i=>EntQ b2 b3 b5 r k s' acc tk i) (fun acc w n=>(entR fin (termR false fin first k) acc w n).bind fun a w n=>.ok (a,()) w n) 286 [] [.ptr b5 0,.ptr b2 0,.ptr b3 0]
    (fun s' a x i n=>⟨d,first,entS_r e5.2,entS_step⟩) (fun s' a x i n t v h ht=>?_) (fun s' a x i n t v u ht h=>?_) (fun s' a x i n t v ht h=>⟨h.dropT,entS_drop ht⟩)
    (fun s' a x i h=>⟨by have:=h.len;omega,h.h2,h.h3,h.hq,h.ne,h.nil,h.free⟩) (fun s' a x i n h=>St.gx_gs (St.gx_r (gA7 h.hq (gA8 _ _))) h.free)
    (fun s' a x i n KV' Kp' h hi' hn' hk'=>ent1_den k b2 b3 b5 hk60 IH hT a x h hi' hn' (by rw[Rd.bind_to] at hk';exact Rd.to_mono hk' (fun _ _ _ h=>h) (fun _ h=>h)))
    [] none i n ?_ hi hn ?_)
   ·have ht':=ht;rw[entS_getT] at ht';have hx:x≠some t:=fun e=>by rw[if_pos e] at ht';cases ht'
    rw[if_neg hx] at ht';exact ⟨ht',h.setT hx,entS_swap hx⟩
   ·have hx:=h.unT.1;refine ⟨by rw[entS_getT,if_neg hx,gA4,if_pos rfl],h.dropT.setT hx,entS_over hx⟩
   ·refine ⟨Nat.zero_le _,(by simp only[gA1,ne_eq,gA9,reduceIte,hb2,hb3,hb4,hb5,e2,e3,e4,e5]<;>(first|done|rfl|assumption)),(by simp only[gA1,ne_eq,gA9,reduceIte,hb2,hb3,hb4,hb5,e2,e3,e4,e5]<;>(first|done|rfl|assumption)),?_,⟨e5.2,hb5.2.2.1.2,hb5.2.1.2,e2.1,e3.1⟩,fun _=>rfl,fun t e=>(by cases e)⟩;simp only[gA1,ne_eq,reduceIte,hb5]
   refine Rd.to_mono (loopR_fst _ _ _ _ _ [] _ _ _ _ hk) (fun c w m hk2 j y hj hjT hw hm hy=>?_) (fun f h s1 o hg hr1=>h.at (hg.trans (by (repeat (first|exact gA8 _ _|refine St.gx_r ?_|refine gA7 (by first|simp only[hb2,hb3,hb4,hb5]|assumption) ?_|refine St.gx_T (by first|simp only[hb2,hb3,hb4,hb5]|assumption) ?_)))) hr1);obtain ⟨l,ul⟩:=c;simp only at hk2 hy;subst hw;rw[Rd.bind_to,← ek] at hk2;have hfy:∀ t,y=some t→s.getT t=none:=hy.free
   have hny:=hy.nil;simp only[entS];simp only[go_sem,hb2,hb3,hb4,hb5,e2,e3,e4,e5];refine rest_den (T:=T) (fin:=fin) (d:=d) (first:=first) (i:=j) (n:=m) (60-k) _ (by simp only[gA2,gA6,gA1,ne_eq,reduceIte,gA9,hb2,hb3,hb4,hb5,e2,e3,e4,e5]<;>(first|done|rfl|assumption)) hjT hT hm (Rd.to_mono hk2 (fun rs w2 m2 hk3 j2 hj2 hjT2 hw2 hm2=>?_) (fun f h=>PB.mk (by repeat (first|exact gA8 _ _|refine St.gx_gs ?_ hfy|refine St.gx_r ?_|refine gA7 hb2 ?_|refine gA7 hb3.2 ?_|refine gA7 hb4.2.2 ?_|refine gA7 hb5.2.2.2 ?_)) h));subst hw2;simp only[go_sem,hb2,hb3,hb4,hb5,e2,e3,e4,e5];refine want_den (T:=T) (fin:=fin) (d:=d) (first:=first) (i:=j2) (n:=m2) _ (by simp only[gA2,gA6,gA1,ne_eq,reduceIte,gA9,hb2,hb3,hb4,hb5,e2,e3,e4,e5]<;>(first|done|rfl|assumption)) hjT2 hT ?_;rw[Rd.bind_to] at hk3;refine Rd.to_mono hk3 (fun _ w3 m3 hk4 hlt3 hw3 hm3=>?_) (fun f h=>PB.mk (by repeat (first|exact gA8 _ _|refine St.gx_gs ?_ hfy|refine St.gx_r ?_|refine gA7 hb2 ?_|refine gA7 hb3.2 ?_|refine gA7 hb4.2.2 ?_|refine gA7 hb5.2.2.2 ?_)) h);rw[Rd.ok_to] at hk4;subst hm3;simp only[go_sem,hb2,hb3,hb4,hb5,e2,e3,e4,e5];refine ⟨gv_one y _,?_⟩;refine DK.mk (hk4 (j2+1) (by omega) hlt3 hw3 hm2) (St.gx.ge (by repeat (first|exact gA8 _ _|refine St.gx_gs ?_ hfy|refine St.gx_r ?_|refine gA7 hb2 ?_|refine gA7 hb3.2 ?_|refine gA7 hb4.2.2 ?_|refine gA7 hb5.2.2.2 ?_)) (by simp only[gA2,gA6,gA1,ne_eq,reduceIte,gA9,hb2,hb3,hb4,hb5,e2,e3,e4,e5]<;>(first|done|rfl|assumption))) ?_;rw[Tm.enc_eq];exact A.le.agg ⟨⟨A.le.refl _,rfl⟩,⟨A.le.refl _,rfl⟩,⟨A.le.refl _,rfl⟩,⟨A.le.refl _,rfl⟩,⟨gv_le y _ (fun e=>by rw[hny e];rfl),rfl⟩,⟨A.le.refl _,rfl⟩,trivial⟩
  ·(try simp only[go_sem,hb2,hb3,hb4,hb5,e2,e3,e4,e5,cA,cB])
   rw[if_pos (by simp[cA,cB]),Rd.bind_to,Rd.ok_to,Rd.bind_to,← ek] at hk;have hfy:∀ t:Nat,(none:Option Nat)=some t→s.getT t=none:=fun t e=>by cases e
   refine rest_den (T:=T) (fin:=fin) (d:=d) (first:=first) (i:=i) (n:=n) (60-k) _ (by simp only[gA2,gA6,gA1,ne_eq,reduceIte,gA9,hb2,hb3,hb4,hb5,e2,e3,e4,e5]<;>(first|done|rfl|assumption)) hi hT hn (Rd.to_mono hk (fun rs w2 m2 hk3 j2 hj2 hjT2 hw2 hm2=>?_) (fun f h=>PB.mk (by repeat (first|exact gA8 _ _|refine St.gx_gs ?_ hfy|refine St.gx_r ?_|refine gA7 hb2 ?_|refine gA7 hb3.2 ?_|refine gA7 hb4.2.2 ?_|refine gA7 hb5.2.2.2 ?_)) h));subst hw2;simp only[go_sem,hb2,hb3,hb4,hb5,e2,e3,e4,e5];refine want_den (T:=T) (fin:=fin) (d:=d) (first:=first) (i:=j2) (n:=m2) _ (by simp only[gA2,gA6,gA1,ne_eq,reduceIte,gA9,hb2,hb3,hb4,hb5,e2,e3,e4,e5]<;>(first|done|rfl|assumption)) hjT2 hT ?_;rw[Rd.bind_to] at hk3;refine Rd.to_mono hk3 (fun _ w3 m3 hk4 hlt3 hw3 hm3=>?_) (fun f h=>PB.mk (by repeat (first|exact gA8 _ _|refine St.gx_gs ?_ hfy|refine St.gx_r ?_|refine gA7 hb2 ?_|refine gA7 hb3.2 ?_|refine gA7 hb4.2.2 ?_|refine gA7 hb5.2.2.2 ?_)) h);rw[Rd.ok_to] at hk4;subst hm3;simp only[go_sem,hb2,hb3,hb4,hb5,e2,e3,e4,e5];refine DK.mk (hk4 (j2+1) (by omega) hlt3 hw3 hm2) (St.gx.ge (by repeat (first|exact gA8 _ _|refine St.gx_gs ?_ hfy|refine St.gx_r ?_|refine gA7 hb2 ?_|refine gA7 hb3.2 ?_|refine gA7 hb4.2.2 ?_|refine gA7 hb5.2.2.2 ?_)) (by simp only[gA2,gA6,gA1,ne_eq,reduceIte,gA9,hb2,hb3,hb4,hb5,e2,e3,e4,e5]<;>(first|done|rfl|assumption))) ?_;rw[Tm.enc_eq];exact A.le.agg ⟨⟨A.le.refl _,rfl⟩,⟨A.le.refl _,rfl⟩,⟨A.le.refl _,rfl⟩,⟨A.le.refl _,rfl⟩,⟨A.le.nil,rfl⟩,⟨A.le.refl _,rfl⟩,trivial⟩
 ·(try simp only[go_sem,hb2,hb3,hb4,hb5,e2,e3,e4,e5,cA])
  rw[if_pos (by simp[cA]),Rd.bind_to,Rd.ok_to,Rd.bind_to,← ek] at hk;have hfy:∀ t:Nat,(none:Option Nat)=some t→s.getT t=none:=fun t e=>by cases e
  refine rest_den (T:=T) (fin:=fin) (d:=d) (first:=first) (i:=i) (n:=n) (60-k) _ (by simp only[gA2,gA6,gA1,ne_eq,reduceIte,gA9,hb2,hb3,hb4,hb5,e2,e3,e4,e5]<;>(first|done|rfl|assumption)) hi hT hn (Rd.to_mono hk (fun rs w2 m2 hk3 j2 hj2 hjT2 hw2 hm2=>?_) (fun f h=>PB.mk (by repeat (first|exact gA8 _ _|refine St.gx_gs ?_ hfy|refine St.gx_r ?_|refine gA7 hb2 ?_|refine gA7 hb3.2 ?_|refine gA7 hb4.2.2 ?_|refine gA7 hb5.2.2.2 ?_)) h));subst hw2;simp only[go_sem,hb2,hb3,hb4,hb5,e2,e3,e4,e5];refine want_den (T:=T) (fin:=fin) (d:=d) (first:=first) (i:=j2) (n:=m2) _ (by simp only[gA2,gA6,gA1,ne_eq,reduceIte,gA9,hb2,hb3,hb4,hb5,e2,e3,e4,e5]<;>(first|done|rfl|assumption)) hjT2 hT ?_;rw[Rd.bind_to] at hk3;refine Rd.to_mono hk3 (fun _ w3 m3 hk4 hlt3 hw3 hm3=>?_) (fun f h=>PB.mk (by repeat (first|exact gA8 _ _|refine St.gx_gs ?_ hfy|refine St.gx_r ?_|refine gA7 hb2 ?_|refine gA7 hb3.2 ?_|refine gA7 hb4.2.2 ?_|refine gA7 hb5.2.2.2 ?_)) h);rw[Rd.ok_to] at hk4;subst hm3;simp only[go_sem,hb2,hb3,hb4,hb5,e2,e3,e4,e5];refine DK.mk (hk4 (j2+1) (by omega) hlt3 hw3 hm2) (St.gx.ge (by repeat (first|exact gA8 _ _|refine St.gx_gs ?_ hfy|refine St.gx_r ?_|refine gA7 hb2 ?_|refine gA7 hb3.2 ?_|refine gA7 hb4.2.2 ?_|refine gA7 hb5.2.2.2 ?_)) (by simp only[gA2,gA6,gA1,ne_eq,reduceIte,gA9,hb2,hb3,hb4,hb5,e2,e3,e4,e5]<;>(first|done|rfl|assumption))) ?_;rw[Tm.enc_eq];exact A.le.agg ⟨⟨A.le.refl _,rfl⟩,⟨A.le.refl _,rfl⟩,⟨A.le.refl _,rfl⟩,⟨A.le.refl _,rfl⟩,⟨A.le.nil,rfl⟩,⟨A.le.refl _,rfl⟩,trivial⟩
end
end Go.AV
end
section
namespace Go.AV
open Go Go.Proofs
section
variable {T:List Tok} {fin:Fault} {d:Dc} {first:Tok} {i n:Nat} {s:St} {r:Nat} {KV Kp:St→A→Prop}
theorem signed_den (k:Nat) (hk60:k≤60) (IH:TermOk T fin r k) (t:Tok) (hr:s.getO r=some (psO T fin d first i n)) (hi:i≤T.length) (hT:TOk T) (hn:n≤2000) (ht:t∈T)
  (hk:(signedR fin first (termR false fin first k) (decide (k=0)) t (T.drop i) n).to (PK T i (fun j m=>s.setO r (psO T fin d first j m)) Tm.enc KV) (PB s r Kp)) :
  Den cx 168 [.ptr r 0,t.enc,.int .i64 ((60-k:Nat):Int)] KV Kp s:=by
 simp only[go_sem];refine Den.drop ?_;(refine Den.of_body (C:=cx) Tryz.func168 rfl rfl (gC6 rfl) ?_;refine wpC_ok (V:=[0,1,2,3,4,5,6,7,8,9,11,12,33,47,71,84,94,107]) _ _ _ _ ?_;simp only[go_sem,Tryz.ntmps168,Tryz.f168]);(intro b3 hb3;try simp only[gD6,ne_eq] at hb3);simp only[go_sem,hb3];(intro b4 hb4;try simp only[gD6,ne_eq] at hb4);simp only[go_sem,hb3,hb4];(intro b5 hb5;try simp only[gD6,ne_eq] at hb5);simp only[go_sem,hb3,hb4,hb5];(intro b6 hb6;try simp only[gD6,ne_eq] at hb6);have e3:=St.ne_of hr hb3;have e4:=St.ne_of hr hb4.2;have e5:=St.ne_of hr hb5.2.2;have e6:=St.ne_of hr hb6.2.2.2;have hr2:=hr;simp only[go_sem] at hr2;have hlen:=hT.len;simp only[go_sem,hb3,hb4,hb5,hb6,e3,e4,e5,e6]
 (first|refine gC8 (fun h=>?_) (fun h=>?_)|refine gC9 (fun h=>?_) (fun h=>?_)|refine gD1 (fun h=>?_) (fun h=>?_))<;>simp only[go_sem,h,hb3,hb4,hb5,hb6,e3,e4,e5,e6]
 ·
  have hx:t.text=[45]:=by simpa using h
  simp only[signedR,hx,if_true] at hk
  (try simp only[go_sem,hb3,hb4,hb5,hb6,e3,e4,e5,e6])
  refine peek_den (T:=T) (fin:=fin) (d:=d) (first:=first) (i:=i) (n:=n) (by simp only[gA1,ne_eq,gA9,reduceIte,hb3,hb4,hb5,hb6,e3,e4,e5,e6]<;>(first|done|rfl|assumption)) hi ?_;cases hw:T.drop i with
  | nil=>rw[hw] at hk;exact hk.at (by (repeat (first|exact gA8 _ _|refine St.gx_r ?_|refine gA7 (by first|simp only[hb3,hb4,hb5,hb6]|assumption) ?_|refine St.gx_T (by first|simp only[hb3,hb4,hb5,hb6]|assumption) ?_))) (by simp only[gA1,ne_eq,gA9,reduceIte,hb3,hb4,hb5,hb6,e3,e4,e5,e6]<;>(first|done|rfl|assumption))
  | cons u w =>
   rw[hw] at hk;obtain ⟨h1,h2,h3,h4⟩:=drop_get hw;simp only[go_sem];(intro b7 hb7;try simp only[gD6,ne_eq] at hb7);have e7:=St.ne_of hr hb7.2.2.2.2
   have bad:∀ (KV':St→A→Prop) (s1:St),s1.gx s r→s1.getO r=some (psO T fin d first i n)→PB s r Kp (failAt fin 11 (u::w))→Den cx 42 [.ptr r 0,.int .i64 11] KV' (DK Kp) s1:=by
    intro KV' s1 hg1 hr1 hf;refine fail_den 11 hr1 hi hT ?_;rw[hw];exact hf.at hg1 hr1
   simp only at hk;have ecol:IntKind.i64.wrap (t.col+1)=t.col+1:=by have:=hT.col t ht;exact wrap_in _ (by omega) (by omega)
   have eneg:IntKind.i64.wrap (0-u.n)=-u.n:=by have:=hT.num u h4;rw[wrap_in _ (by omega) (by omega)];omega
   cases c1:decide (u.kind=2)
   ·have h2:¬ u.kind=2:=by simpa using c1
    rw[if_neg (fun hc=>h2 hc.1),Rd.bad_to] at hk;simp only[go_sem,hb3,hb4,hb5,hb6,e3,e4,e5,e6,hb7,e7,hr2,c1];exact bad _ _ (by (repeat (first|exact gA8 _ _|refine St.gx_r ?_|refine gA7 (by first|simp only[hb3,hb4,hb5,hb6,hb7]|assumption) ?_|refine St.gx_T (by first|simp only[hb3,hb4,hb5,hb6,hb7]|assumption) ?_))) (by simp only[gA1,ne_eq,gA9,reduceIte,hb3,hb4,hb5,hb6,e3,e4,e5,e6,e7]<;>(first|done|rfl|assumption)) hk
   cases c2:decide (u.line=t.line)
   ·have h2:¬ u.line=t.line:=by simpa using c2
    rw[if_neg (fun hc=>h2 hc.2.1),Rd.bad_to] at hk;simp only[go_sem,hb3,hb4,hb5,hb6,e3,e4,e5,e6,hb7,e7,hr2,c1,c2];exact bad _ _ (by (repeat (first|exact gA8 _ _|refine St.gx_r ?_|refine gA7 (by first|simp only[hb3,hb4,hb5,hb6,hb7]|assumption) ?_|refine St.gx_T (by first|simp only[hb3,hb4,hb5,hb6,hb7]|assumption) ?_))) (by simp only[gA1,ne_eq,gA9,reduceIte,hb3,hb4,hb5,hb6,e3,e4,e5,e6,e7]<;>(first|done|rfl|assumption)) hk
   cases c3:decide (u.col=t.col+1)
   ·have h2:¬ u.col=t.col+1:=by simpa using c3
    rw[if_neg (fun hc=>h2 hc.2.2),Rd.bad_to] at hk;simp only[go_sem,hb3,hb4,hb5,hb6,e3,e4,e5,e6,hb7,e7,hr2,c1,c2,ecol,c3];exact bad _ _ (by (repeat (first|exact gA8 _ _|refine St.gx_r ?_|refine gA7 (by first|simp only[hb3,hb4,hb5,hb6,hb7]|assumption) ?_|refine St.gx_T (by first|simp only[hb3,hb4,hb5,hb6,hb7]|assumption) ?_))) (by simp only[gA1,ne_eq,gA9,reduceIte,hb3,hb4,hb5,hb6,e3,e4,e5,e6,e7]<;>(first|done|rfl|assumption)) hk
   ·rw[if_pos ⟨by simpa using c1,by simpa using c2,by simpa using c3⟩,Rd.ok_to] at hk;simp only[go_sem,hb3,hb4,hb5,hb6,e3,e4,e5,e6,hb7,e7,hr2,c1,c2,ecol,c3,wrap1 i (by omega),eneg];refine DK.mk (hk (i+1) (by omega) h2 h3 hn) (St.gx.ge (by (repeat (first|exact gA8 _ _|refine St.gx_r ?_|refine gA7 (by first|simp only[hb3,hb4,hb5,hb6,hb7]|assumption) ?_|refine St.gx_T (by first|simp only[hb3,hb4,hb5,hb6,hb7]|assumption) ?_))) (by simp only[gA1,ne_eq,gA9,reduceIte,hb3,hb4,hb5,hb6,e3,e4,e5,e6,e7]<;>(first|done|rfl|assumption))) (Tm.le_leaf _ _ _ _)
 have x1:¬ t.text=[45]:=by simpa using h
 (try simp only[go_sem,hb3,hb4,hb5,hb6,e3,e4,e5,e6])
 (first|refine gC8 (fun h=>?_) (fun h=>?_)|refine gC9 (fun h=>?_) (fun h=>?_)|refine gD1 (fun h=>?_) (fun h=>?_))<;>simp only[go_sem,h,hb3,hb4,hb5,hb6,e3,e4,e5,e6]
 ·
  have hx:t.text=[39]:=by simpa using h
  rw[signedR.eq_def,if_neg x1,if_pos hx] at hk
  (try simp only[go_sem,hb3,hb4,hb5,hb6,e3,e4,e5,e6])
  refine peek_den (T:=T) (fin:=fin) (d:=d) (first:=first) (i:=i) (n:=n) (by simp only[gA1,ne_eq,gA9,reduceIte,hb3,hb4,hb5,hb6,e3,e4,e5,e6]<;>(first|done|rfl|assumption)) hi ?_;cases hw:T.drop i with
  | nil=>rw[hw] at hk;exact hk.at (by (repeat (first|exact gA8 _ _|refine St.gx_r ?_|refine gA7 (by first|simp only[hb3,hb4,hb5,hb6]|assumption) ?_|refine St.gx_T (by first|simp only[hb3,hb4,hb5,hb6]|assumption) ?_))) (by simp only[gA1,ne_eq,gA9,reduceIte,hb3,hb4,hb5,hb6,e3,e4,e5,e6]<;>(first|done|rfl|assumption))
  | cons u w =>
   rw[hw] at hk;obtain ⟨h1,h2,h3,h4⟩:=drop_get hw;simp only[go_sem];(intro b7 hb7;try simp only[gD6,ne_eq] at hb7);have e7:=St.ne_of hr hb7.2.2.2.2
   have bad:∀ (KV':St→A→Prop) (s1:St),s1.gx s r→s1.getO r=some (psO T fin d first i n)→PB s r Kp (failAt fin 11 (u::w))→Den cx 42 [.ptr r 0,.int .i64 11] KV' (DK Kp) s1:=by
    intro KV' s1 hg1 hr1 hf;refine fail_den 11 hr1 hi hT ?_;rw[hw];exact hf.at hg1 hr1
   simp only at hk;cases c1:decide (u.kind=1)
   ·have h2:¬ u.free=true:=by simp[Tok.free,c1]
    rw[if_neg (fun hc=>h2 hc.1),Rd.bad_to] at hk;simp only[go_sem,hb3,hb4,hb5,hb6,e3,e4,e5,e6,hb7,e7,hr2,c1];exact bad _ _ (by (repeat (first|exact gA8 _ _|refine St.gx_r ?_|refine gA7 (by first|simp only[hb3,hb4,hb5,hb6,hb7]|assumption) ?_|refine St.gx_T (by first|simp only[hb3,hb4,hb5,hb6,hb7]|assumption) ?_))) (by simp only[gA1,ne_eq,gA9,reduceIte,hb3,hb4,hb5,hb6,e3,e4,e5,e6,e7]<;>(first|done|rfl|assumption)) hk
   simp only[go_sem,hb3,hb4,hb5,hb6,e3,e4,e5,e6,hb7,e7,hr2,c1];refine isReserved145_den _ _ _ _ ?_;simp only[go_sem,hb3,hb4,hb5,hb6,e3,e4,e5,e6,hb7,e7,hr2,c1];cases c2:decide (u.text∈reservedW);rotate_left
   ·have h2:¬ u.free=true:=by simp[Tok.free,c2]
    rw[if_neg (fun hc=>h2 hc.1),Rd.bad_to] at hk;simp only[go_sem,hb3,hb4,hb5,hb6,e3,e4,e5,e6,hb7,e7,hr2,c1,c2];exact bad _ _ (by (repeat (first|exact gA8 _ _|refine St.gx_r ?_|refine gA7 (by first|simp only[hb3,hb4,hb5,hb6,hb7]|assumption) ?_|refine St.gx_T (by first|simp only[hb3,hb4,hb5,hb6,hb7]|assumption) ?_))) (by simp only[gA1,ne_eq,gA9,reduceIte,hb3,hb4,hb5,hb6,e3,e4,e5,e6,e7]<;>(first|done|rfl|assumption)) hk
   simp only[go_sem,hb3,hb4,hb5,hb6,e3,e4,e5,e6,hb7,e7,hr2,c1,c2];refine isId_den _ _ _ _ ?_;simp only[go_sem,hb3,hb4,hb5,hb6,e3,e4,e5,e6,hb7,e7,hr2,c1,c2];cases c3:isId u.text
   ·rw[if_neg (fun hc=>by rw[c3] at hc;exact absurd hc.2 (by simp)),Rd.bad_to] at hk;simp only[go_sem,hb3,hb4,hb5,hb6,e3,e4,e5,e6,hb7,e7,hr2,c1,c2,c3];exact bad _ _ (by (repeat (first|exact gA8 _ _|refine St.gx_r ?_|refine gA7 (by first|simp only[hb3,hb4,hb5,hb6,hb7]|assumption) ?_|refine St.gx_T (by first|simp only[hb3,hb4,hb5,hb6,hb7]|assumption) ?_))) (by simp only[gA1,ne_eq,gA9,reduceIte,hb3,hb4,hb5,hb6,e3,e4,e5,e6,e7]<;>(first|done|rfl|assumption)) hk
   ·rw[if_pos ⟨by simp[Tok.free,c1,c2],c3⟩,Rd.ok_to] at hk;simp only[go_sem,hb3,hb4,hb5,hb6,e3,e4,e5,e6,hb7,e7,hr2,c1,c2,c3,wrap1 i (by omega)];refine DK.mk (hk (i+1) (by omega) h2 h3 hn) (St.gx.ge (by (repeat (first|exact gA8 _ _|refine St.gx_r ?_|refine gA7 (by first|simp only[hb3,hb4,hb5,hb6,hb7]|assumption) ?_|refine St.gx_T (by first|simp only[hb3,hb4,hb5,hb6,hb7]|assumption) ?_))) (by simp only[gA1,ne_eq,gA9,reduceIte,hb3,hb4,hb5,hb6,e3,e4,e5,e6,e7]<;>(first|done|rfl|assumption))) (Tm.le_leaf _ _ _ _)
 have x2:¬ t.text=[39]:=by simpa using h
 (try simp only[go_sem,hb3,hb4,hb5,hb6,e3,e4,e5,e6])
 (first|refine gC8 (fun h=>?_) (fun h=>?_)|refine gC9 (fun h=>?_) (fun h=>?_)|refine gD1 (fun h=>?_) (fun h=>?_))<;>simp only[go_sem,h,hb3,hb4,hb5,hb6,e3,e4,e5,e6]
 ·
  have hx:t.text=[91]:=by simpa using h
  rw[signedR.eq_def,if_neg x1,if_neg x2,if_pos hx] at hk
  (try simp only[go_sem,hb3,hb4,hb5,hb6,e3,e4,e5,e6])
  (intro b9 hb9;try simp only[gD6,ne_eq] at hb9);have e9:=St.ne_of hr hb9.2.2.2.2;simp only[go_sem,hb3,hb4,hb5,hb6,e3,e4,e5,e6,hb9,e9];refine is_den (T:=T) (fin:=fin) (d:=d) (first:=first) (i:=i) (n:=n) _ (by simp only[gA1,ne_eq,gA9,reduceIte,hb3,hb4,hb5,hb6,e3,e4,e5,e6,e9]<;>(first|done|rfl|assumption)) hi ?_;simp only[go_sem,hb3,hb4,hb5,hb6,e3,e4,e5,e6,hb9,e9];have ek:decide (60-k=60)=decide (k=0):=by rw[decide_eq_decide];omega
  cases cA:isT [124] (T.drop i)
  ·simp only[go_sem,hb3,hb4,hb5,hb6,e3,e4,e5,e6,hb9,e9,cA];refine is_den (T:=T) (fin:=fin) (d:=d) (first:=first) (i:=i) (n:=n) _ (by simp only[gA1,ne_eq,gA9,reduceIte,hb3,hb4,hb5,hb6,e3,e4,e5,e6,e9]<;>(first|done|rfl|assumption)) hi ?_;simp only[go_sem,hb3,hb4,hb5,hb6,e3,e4,e5,e6,hb9,e9,cA];cases cB:isT [93] (T.drop i)
   ·simp only[go_sem,hb3,hb4,hb5,hb6,e3,e4,e5,e6,hb9,e9,cA,cB];rw[if_neg (by rw[cA,cB];simp),Rd.bind_to] at hk
    refine Den.weaken (St.ge_same (by simp only[gA1,ne_eq,gA9,reduceIte,hb3,hb4,hb5,hb6,e3,e4,e5,e6,e9]<;>(first|done|rfl|assumption))) (plists222_den (fin:=fin) (d:=d) (fi:=first) Tm.enc Tm.hz Tm.ho hT (fun s'=>s'.getO b3=some (.cells 74 [.ptr r 0])∧s'.getO b5=some (.cells 3 [.int .i64 ((60-k:Nat):Int)])) (fun _ _ _=>Iff.rfl)
     (termR false fin first k) 241 [] [.ptr b3 0,.ptr b5 0] (hf_of (fun s' o hq => ⟨by rw [gA1,if_neg e3.1]; exact hq.1,by rw [gA1,if_neg e5.1]; exact hq.2⟩)
      (fun s' i' n' KV' Kp' hr' hq' hi' hn' hk'=>signed1_den k hk60 IH b3 b5 hq'.1 hq'.2 hr' hi' hn' (Rd.to_mono hk' (fun _ _ _ h j hj=>h j (by omega)) (fun _ h=>h)))) i n ?_ hi hn ?_)
    ·exact ⟨(by simp only[gA1,ne_eq,gA9,reduceIte,hb3,hb4,hb5,hb6,hb9]<;>(first|done|rfl|assumption)),(by simp only[gA1,ne_eq,gA9,reduceIte,hb3,hb4,hb5,hb6,hb9]<;>(first|done|rfl|assumption))⟩
    refine Rd.to_mono hk (fun l w m hk2 j hj hjT hw hm=>?_) (fun f h s1 o hg hr1=>h.at (hg.trans (by (repeat (first|exact gA8 _ _|refine St.gx_r ?_|refine gA7 (by first|simp only[hb3,hb4,hb5,hb6,hb9]|assumption) ?_|refine St.gx_T (by first|simp only[hb3,hb4,hb5,hb6,hb9]|assumption) ?_)))) hr1);subst hw;rw[Rd.bind_to,← ek] at hk2;simp only[go_sem,hb3,hb4,hb5,hb6,e3,e4,e5,e6,hb9,e9];refine rest_den (T:=T) (fin:=fin) (d:=d) (first:=first) (i:=j) (n:=m) (60-k) _ (by simp only[gA1,ne_eq,gA9,reduceIte,hb3,hb4,hb5,hb6,e3,e4,e5,e6,e9]<;>(first|done|rfl|assumption)) hjT hT hm (Rd.to_mono hk2 (fun rs w2 m2 hk3 j2 hj2 hjT2 hw2 hm2=>?_) (fun f h=>PB.mk (by (repeat (first|exact gA8 _ _|refine St.gx_r ?_|refine gA7 (by first|simp only[hb3,hb4,hb5,hb6,hb9]|assumption) ?_|refine St.gx_T (by first|simp only[hb3,hb4,hb5,hb6,hb9]|assumption) ?_))) h));subst hw2;simp only[go_sem,hb3,hb4,hb5,hb6,e3,e4,e5,e6,hb9,e9];refine want_den (T:=T) (fin:=fin) (d:=d) (first:=first) (i:=j2) (n:=m2) _ (by simp only[gA1,ne_eq,gA9,reduceIte,hb3,hb4,hb5,hb6,e3,e4,e5,e6,e9]<;>(first|done|rfl|assumption)) hjT2 hT ?_;rw[Rd.bind_to] at hk3;refine Rd.to_mono hk3 (fun _ w3 m3 hk4 hlt3 hw3 hm3=>?_) (fun f h=>PB.mk (by (repeat (first|exact gA8 _ _|refine St.gx_r ?_|refine gA7 (by first|simp only[hb3,hb4,hb5,hb6,hb9]|assumption) ?_|refine St.gx_T (by first|simp only[hb3,hb4,hb5,hb6,hb9]|assumption) ?_))) h);rw[Rd.ok_to] at hk4;simp only[go_sem,hb3,hb4,hb5,hb6,e3,e4,e5,e6,hb9,e9];exact DK.mk (hk4 (j2+1) (by omega) hlt3 hw3 (by omega)) (St.gx.ge (by (repeat (first|exact gA8 _ _|refine St.gx_r ?_|refine gA7 (by first|simp only[hb3,hb4,hb5,hb6,hb9]|assumption) ?_|refine St.gx_T (by first|simp only[hb3,hb4,hb5,hb6,hb9]|assumption) ?_))) (by subst hm3;rw[gA1,if_neg e6.2,gA1,if_pos rfl]<;>rfl)) (by rw[Tm.enc_eq];exact A.le.refl _)
   ·simp only[go_sem,hb3,hb4,hb5,hb6,e3,e4,e5,e6,hb9,e9,cA,cB];rw[if_pos (by simp[cA,cB]),Rd.bind_to,Rd.ok_to,Rd.bind_to,← ek] at hk;refine rest_den (T:=T) (fin:=fin) (d:=d) (first:=first) (i:=i) (n:=n) (60-k) _ (by simp only[gA1,ne_eq,gA9,reduceIte,hb3,hb4,hb5,hb6,e3,e4,e5,e6,e9]<;>(first|done|rfl|assumption)) hi hT hn (Rd.to_mono hk (fun rs w2 m2 hk3 j2 hj2 hjT2 hw2 hm2=>?_) (fun f h=>PB.mk (by (repeat (first|exact gA8 _ _|refine St.gx_r ?_|refine gA7 (by first|simp only[hb3,hb4,hb5,hb6,hb9]|assumption) ?_|refine St.gx_T (by first|simp only[hb3,hb4,hb5,hb6,hb9]|assumption) ?_))) h));subst hw2;simp only[go_sem,hb3,hb4,hb5,hb6,e3,e4,e5,e6,hb9,e9];refine want_den (T:=T) (fin:=fin) (d:=d) (first:=first) (i:=j2) (n:=m2) _ (by simp only[gA1,ne_eq,gA9,reduceIte,hb3,hb4,hb5,hb6,e3,e4,e5,e6,e9]<;>(first|done|rfl|assumption)) hjT2 hT ?_;rw[Rd.bind_to] at hk3;refine Rd.to_mono hk3 (fun _ w3 m3 hk4 hlt3 hw3 hm3=>?_) (fun f h=>PB.mk (by (repeat (first|exact gA8 _ _|refine St.gx_r ?_|refine gA7 (by first|simp only[hb3,hb4,hb5,hb6,hb9]|assumption) ?_|refine St.gx_T (by first|simp only[hb3,hb4,hb5,hb6,hb9]|assumption) ?_))) h);rw[Rd.ok_to] at hk4;simp only[go_sem,hb3,hb4,hb5,hb6,e3,e4,e5,e6,hb9,e9];exact DK.mk (hk4 (j2+1) (by omega) hlt3 hw3 (by omega)) (St.gx.ge (by (repeat (first|exact gA8 _ _|refine St.gx_r ?_|refine gA7 (by first|simp only[hb3,hb4,hb5,hb6,hb9]|assumption) ?_|refine St.gx_T (by first|simp only[hb3,hb4,hb5,hb6,hb9]|assumption) ?_))) (by subst hm3;rw[gA1,if_neg e6.2,gA1,if_pos rfl]<;>rfl)) (by rw[Tm.enc_eq];exact A.le.agg ⟨⟨A.le.refl _,rfl⟩,⟨A.le.refl _,rfl⟩,⟨A.le.refl _,rfl⟩,⟨A.le.refl _,rfl⟩,⟨A.le.nil,rfl⟩,⟨A.le.refl _,rfl⟩,trivial⟩)
  ·simp only[go_sem,hb3,hb4,hb5,hb6,e3,e4,e5,e6,hb9,e9,cA];rw[if_pos (by simp[cA]),Rd.bind_to,Rd.ok_to,Rd.bind_to,← ek] at hk;refine rest_den (T:=T) (fin:=fin) (d:=d) (first:=first) (i:=i) (n:=n) (60-k) _ (by simp only[gA1,ne_eq,gA9,reduceIte,hb3,hb4,hb5,hb6,e3,e4,e5,e6,e9]<;>(first|done|rfl|assumption)) hi hT hn (Rd.to_mono hk (fun rs w2 m2 hk3 j2 hj2 hjT2 hw2 hm2=>?_) (fun f h=>PB.mk (by (repeat (first|exact gA8 _ _|refine St.gx_r ?_|refine gA7 (by first|simp only[hb3,hb4,hb5,hb6,hb9]|assumption) ?_|refine St.gx_T (by first|simp only[hb3,hb4,hb5,hb6,hb9]|assumption) ?_))) h));subst hw2;simp only[go_sem,hb3,hb4,hb5,hb6,e3,e4,e5,e6,hb9,e9];refine want_den (T:=T) (fin:=fin) (d:=d) (first:=first) (i:=j2) (n:=m2) _ (by simp only[gA1,ne_eq,gA9,reduceIte,hb3,hb4,hb5,hb6,e3,e4,e5,e6,e9]<;>(first|done|rfl|assumption)) hjT2 hT ?_;rw[Rd.bind_to] at hk3;refine Rd.to_mono hk3 (fun _ w3 m3 hk4 hlt3 hw3 hm3=>?_) (fun f h=>PB.mk (by (repeat (first|exact gA8 _ _|refine St.gx_r ?_|refine gA7 (by first|simp only[hb3,hb4,hb5,hb6,hb9]|assumption) ?_|refine St.gx_T (by first|simp only[hb3,hb4,hb5,hb6,hb9]|assumption) ?_))) h);rw[Rd.ok_to] at hk4;simp only[go_sem,hb3,hb4,hb5,hb6,e3,e4,e5,e6,hb9,e9];exact DK.mk (hk4 (j2+1) (by omega) hlt3 hw3 (by omega)) (St.gx.ge (by (repeat (first|exact gA8 _ _|refine St.gx_r ?_|refine gA7 (by first|simp only[hb3,hb4,hb5,hb6,hb9]|assumption) ?_|refine St.gx_T (by first|simp only[hb3,hb4,hb5,hb6,hb9]|assumption) ?_))) (by subst hm3;rw[gA1,if_neg e6.2,gA1,if_pos rfl]<;>rfl)) (by rw[Tm.enc_eq];exact A.le.agg ⟨⟨A.le.refl _,rfl⟩,⟨A.le.refl _,rfl⟩,⟨A.le.refl _,rfl⟩,⟨A.le.refl _,rfl⟩,⟨A.le.nil,rfl⟩,⟨A.le.refl _,rfl⟩,trivial⟩)
 have x3:¬ t.text=[91]:=by simpa using h
 (try simp only[go_sem,hb3,hb4,hb5,hb6,e3,e4,e5,e6])
 (first|refine gC8 (fun h=>?_) (fun h=>?_)|refine gC9 (fun h=>?_) (fun h=>?_)|refine gD1 (fun h=>?_) (fun h=>?_))<;>simp only[go_sem,h,hb3,hb4,hb5,hb6,e3,e4,e5,e6]
 ·
  have hx:t.text=[123]:=by simpa using h
  rw[signedR.eq_def,if_neg x1,if_neg x2,if_neg x3,if_pos hx] at hk
  (try simp only[go_sem,hb3,hb4,hb5,hb6,e3,e4,e5,e6])
  refine entries_den (T:=T) (fin:=fin) (d:=d) (first:=first) (i:=i) (n:=n) k hk60 IH (by simp only[gA1,ne_eq,gA9,reduceIte,hb3,hb4,hb5,hb6,e3,e4,e5,e6]<;>(first|done|rfl|assumption)) hi hT hn (Rd.to_mono hk (fun a w m h j hj hjT hw hm=>?_) (fun f h=>PB.mk (by (repeat (first|exact gA8 _ _|refine St.gx_r ?_|refine gA7 (by first|simp only[hb3,hb4,hb5,hb6]|assumption) ?_|refine St.gx_T (by first|simp only[hb3,hb4,hb5,hb6]|assumption) ?_))) h));have h':=h j hj hjT hw hm;simp only at h';rw[Tm.enc_eq] at h';simp only[go_sem,hb3,hb4,hb5,hb6,e3,e4,e5,e6];exact DK.st h' (St.gx.ge (by (repeat (first|exact gA8 _ _|refine St.gx_r ?_|refine gA7 (by first|simp only[hb3,hb4,hb5,hb6]|assumption) ?_|refine St.gx_T (by first|simp only[hb3,hb4,hb5,hb6]|assumption) ?_))) (by simp only[gA1,ne_eq,gA9,reduceIte,hb3,hb4,hb5,hb6,e3,e4,e5,e6]<;>(first|done|rfl|assumption)))
 have x4:¬ t.text=[123]:=by simpa using h
 rw[signedR.eq_def,if_neg x1,if_neg x2,if_neg x3,if_neg x4,Rd.ok_to] at hk
 (try simp only[go_sem,hb3,hb4,hb5,hb6,e3,e4,e5,e6])
 exact DK.mk (hk i (Nat.le_refl _) hi rfl hn) (St.gx.ge (by (repeat (first|exact gA8 _ _|refine St.gx_r ?_|refine gA7 (by first|simp only[hb3,hb4,hb5,hb6]|assumption) ?_|refine St.gx_T (by first|simp only[hb3,hb4,hb5,hb6]|assumption) ?_))) (by simp only[gA1,ne_eq,gA9,reduceIte,hb3,hb4,hb5,hb6,e3,e4,e5,e6]<;>(first|done|rfl|assumption))) (Tm.le_leaf _ _ _ _)
end
end Go.AV
end
section
namespace Go.AV
open Go Go.Proofs
section
variable {T:List Tok} {fin:Fault} {d:Dc} {first:Tok} {i n:Nat} {s:St} {r:Nat} {KV Kp:St→A→Prop}
theorem kid1_den (k b2 b3 q:Nat) (x:Str) (hk60:k≤60) (IH:TermOk T fin r k) (hT:TOk T) (acc:List Tm) (tk:Option Nat) (hQ:EntQ b2 b3 q r k s acc tk i) (hi:i≤T.length) (hn:n≤2000)
  (hk : (kidR false fin first (termR false fin first k) acc (T.drop i) n).to (fun a w n' => ∀ j y,i ≤ j → j ≤ T.length → T.drop j = w → n' ≤ 2000 → EntQ b2 b3 q r k s (acc ++ [a]) y j → KV (entS T fin d first 5 x q r s (acc ++ [a]) y j n') a.enc)
   (fun f=>∀ s1 o,s1.gx s r→s1.getO r=some o→Kp s1 (.iface 36 f.enc))):Den cx 239 [.ptr q 0,.ptr b2 0,.ptr b3 0] KV Kp (entS T fin d first 5 x q r s acc tk i n):=by
 obtain ⟨hac,h2,h3,hq,⟨n1,n2,n3,n4,n5⟩,hnil,hfree⟩:=hQ;have hlen:=hT.len;have ed:IntKind.i64.wrap (((60-k:Nat):Int)+1)=((61-k:Nat):Int):=by rw[wrap1 _ (by omega)];congr 1;omega
 have hg:gok (entS T fin d first 5 x q r s acc tk i n) tk (acc.map Tm.enc).length 43:=by rw[gC4];exact gs_ok fun e=>by rw[hnil e];rfl
 refine Den.keepL ?_;refine Den.drop ?_;(refine Den.of_body (C:=cx) Tryz.func239 rfl rfl (gC6 rfl) ?_;refine wpC_ok (V:=[0,1,2,3,4,12]) _ _ _ _ ?_;simp only[go_sem,Tryz.ntmps239,Tryz.f239]);unfold entS;(intro b6 hb6;try simp only[gD6,ne_eq] at hb6)
 have f6:s.getO b6=none∧b6≠r∧b6≠q:=by
  have h0:=hb6;rw[gA6,gA1] at h0;split at h0
  ·cases h0
  ·rename_i hrb;rw[gA1] at h0;split at h0
   ·cases h0
   ·rename_i hqb;exact ⟨h0,fun e=>hrb e.symm,fun e=>hqb e.symm⟩
 obtain ⟨hf6,e6,e6q⟩:=f6;clear hb6;have e62:=(St.ne_of h2 hf6);have e63:=(St.ne_of h3 hf6);simp only[go_sem,n1,n2,n3,n4,n5,n1.symm,n2.symm,n3.symm,n4.symm,n5.symm,h2,h3,ed,hf6,e6,e6.symm,e6q,e6q.symm,e62,e63,lenS_gv hg];cases tk with
 | none =>
  obtain rfl:=hnil rfl;simp only[gv_none];cases c8:decide ((([]:List Tm).length:Int)=8)
  ·(try simp only [go_sem,n1,n2,n3,n4,n5,n1.symm,n2.symm,n3.symm,n4.symm,n5.symm,h2,h3,ed,hf6,e6,e6.symm,e6q,e6q.symm,e62,e63,c8])
   have hk3:=hk;rw[kidR.eq_def,if_neg (by intro e;simp[e] at c8)] at hk3;refine IH _ d first i n _ _ (by simp only[gA2,gA6,gA1,ne_eq,reduceIte,gA9,n1,n2,n3,n4,n5,n1.symm,n2.symm,n3.symm,n4.symm,n5.symm,h2,h3,ed,hf6,e6,e6.symm,e6q,e6q.symm,e62,e63]<;>(first|done|rfl|assumption)) hi hn (Rd.to_mono hk3 (fun a w m hk2 j hj hjT hw hm=>?_) (fun f h o=>?_))
   rotate_left
   ·simp only[go_sem];exact DK.here (h _ o (by repeat (first|exact gA8 _ _|refine St.gx_setL2 ?_ rfl|refine St.gx_setL ?_ rfl|refine St.gx_gs ?_ hfree|refine St.gx_r ?_|refine gA7 hq ?_|refine gA7 hf6 ?_)) (by simp only[gA2,gA6,gA1,ne_eq,reduceIte,gA9,n1,n2,n3,n4,n5,n1.symm,n2.symm,n3.symm,n4.symm,n5.symm,h2,h3,ed,hf6,e6,e6.symm,e6q,e6q.symm,e62,e63]<;>(first|done|rfl|assumption)))
   simp only[go_sem,n1,n2,n3,n4,n5,n1.symm,n2.symm,n3.symm,n4.symm,n5.symm,h2,h3,ed,hf6,e6,e6.symm,e6q,e6q.symm,e62,e63,Tm.enc_eq,Tm.cs];intro b7 hb7;rw[gA6] at hb7;obtain ⟨e7,hb7⟩:=free_setO hb7;obtain ⟨e76,hb7⟩:=free_setO hb7;obtain ⟨_,hb7⟩:=free_setO hb7;obtain ⟨e7q,hf7⟩:=free_setO hb7;have e72:=(St.ne_of h2 hf7);have e73:=(St.ne_of h3 hf7);simp only[go_sem,n1,n2,n3,n4,n5,n1.symm,n2.symm,n3.symm,n4.symm,n5.symm,h2,h3,ed,hf6,e6,e6.symm,e6q,e6q.symm,e62,e63,hf7,e7,e7.symm,e7q,e7q.symm,e76,e76.symm,e72,e73];(refine draw_ok (V:=[0,1,2,3,4,12]) (OT.l [0,1,2,3,4,5,6,8] (.pair 7 9)) [] mixed_cx (by decide +kernel) ?_;simp only[go_sem,n1,n2,n3,n4,n5,n1.symm,n2.symm,n3.symm,n4.symm,n5.symm,h2,h3,ed,hf6,e6,e6.symm,e6q,e6q.symm,e62,e63,hf7,e7,e7.symm,e7q,e7q.symm,e76,e76.symm,e72,e73]);refine ⟨by decide,?_⟩;intro t ht;have hft:s.getT t=none:=ht;refine ⟨rfl,?_⟩;have hk5:=hk2 j (some t) (by omega) hjT hw hm ⟨by simp only[gC2,gC1,gC3] at hac ⊢;omega,h2,h3,hq,⟨n1,n2,n3,n4,n5⟩,fun e=>(by cases e),fun t' e=>by cases e;exact hft⟩;simp only[entS,gv_some] at hk5;rw[show (([]:List Tm)++[a]).length=1 by simp,Tm.enc_eq a] at hk5;refine DK.st (s2:=(gs ((s.setO q (.cells 43 [.int .i64 5,.int .i64 0,.str x,.str [],.list (some t) ((([]:List Tm)++[a]).map Tm.enc),.nils])).setO r (psO T fin d first j m)) (some t) (1) 43).setL none) hk5 (St.ge.trans pen_ge_none (gs_ge_O (fun b o hb=>?_) (fun _=>rfl)));simp only[gA1] at hb ⊢;by_cases hb1:q=b
   ·subst hb1;simp only[n1,n1.symm,e6q,e6q.symm,e7q,e7q.symm,if_true,if_false] at hb ⊢;simpa [Tm.enc_eq,Tm.cs] using hb
   ·by_cases hb2:r=b
    ·subst hb2;simp only[hb1,e6,e6.symm,e7,e7.symm,if_true,if_false] at hb ⊢;exact hb
    ·simp only[hb1,hb2,if_false] at hb ⊢;by_cases hb3:b6=b
     ·subst hb3;rw[hf6] at hb;cases hb
     ·by_cases hb4:b7=b
      ·subst hb4;rw[hf7] at hb;cases hb
      ·simp only[hb3,hb4,if_false];exact hb
  ·simp at c8
 | some u =>
  simp only[gv_some];cases c8:decide ((acc.length:Int)=8)
  ·(try simp only [go_sem,n1,n2,n3,n4,n5,n1.symm,n2.symm,n3.symm,n4.symm,n5.symm,h2,h3,ed,hf6,e6,e6.symm,e6q,e6q.symm,e62,e63,c8])
   have hk3:=hk;rw[kidR.eq_def,if_neg (by intro e;simp[e] at c8)] at hk3;refine IH _ d first i n _ _ (by simp only[gA2,gA6,gA1,ne_eq,reduceIte,gA9,n1,n2,n3,n4,n5,n1.symm,n2.symm,n3.symm,n4.symm,n5.symm,h2,h3,ed,hf6,e6,e6.symm,e6q,e6q.symm,e62,e63]<;>(first|done|rfl|assumption)) hi hn (Rd.to_mono hk3 (fun a w m hk2 j hj hjT hw hm=>?_) (fun f h o=>?_))
   rotate_left
   ·simp only[go_sem];exact DK.here (h _ o (by repeat (first|exact gA8 _ _|refine St.gx_setL2 ?_ rfl|refine St.gx_setL ?_ rfl|refine St.gx_gs ?_ hfree|refine St.gx_r ?_|refine gA7 hq ?_|refine gA7 hf6 ?_)) (by simp only[gA2,gA6,gA1,ne_eq,reduceIte,gA9,n1,n2,n3,n4,n5,n1.symm,n2.symm,n3.symm,n4.symm,n5.symm,h2,h3,ed,hf6,e6,e6.symm,e6q,e6q.symm,e62,e63]<;>(first|done|rfl|assumption)))
   simp only[go_sem,n1,n2,n3,n4,n5,n1.symm,n2.symm,n3.symm,n4.symm,n5.symm,h2,h3,ed,hf6,e6,e6.symm,e6q,e6q.symm,e62,e63,Tm.enc_eq,Tm.cs];intro b7 hb7;rw[gA6] at hb7;obtain ⟨e7,hb7⟩:=free_setO hb7;obtain ⟨e76,hb7⟩:=free_setO hb7;obtain ⟨_,hb7⟩:=free_setO hb7;obtain ⟨e7q,hf7⟩:=free_setO hb7;have e72:=(St.ne_of h2 hf7);have e73:=(St.ne_of h3 hf7);simp only[go_sem,n1,n2,n3,n4,n5,n1.symm,n2.symm,n3.symm,n4.symm,n5.symm,h2,h3,ed,hf6,e6,e6.symm,e6q,e6q.symm,e62,e63,hf7,e7,e7.symm,e7q,e7q.symm,e76,e76.symm,e72,e73];(refine draw_ok (V:=[0,1,2,3,4,12]) (OT.l [0,1,2,3,4,5,6,8] (.pair 7 9)) [] mixed_cx (by decide +kernel) ?_;simp only[go_sem,n1,n2,n3,n4,n5,n1.symm,n2.symm,n3.symm,n4.symm,n5.symm,h2,h3,ed,hf6,e6,e6.symm,e6q,e6q.symm,e62,e63,hf7,e7,e7.symm,e7q,e7q.symm,e76,e76.symm,e72,e73]);refine ⟨by decide,?_⟩;refine ⟨⟨by rw[gs_getT,if_pos rfl],fun y hy=>?_,by omega⟩,fun t ht=>?_⟩
   ·simp only[List.mem_map] at hy;obtain ⟨z,_,rfl⟩:=hy;exact Tm.hz z
   have hft:s.getT t=none:=del_free ht (hfree u rfl) (fun _=>rfl);have hk5:=hk2 j (some t) (by omega) hjT hw hm ⟨by simp only[gC2,gC1,gC3] at hac ⊢;omega,h2,h3,hq,⟨n1,n2,n3,n4,n5⟩,fun e=>(by cases e),fun t' e=>by cases e;exact hft⟩;simp only[entS,gv_some] at hk5;rw[show (acc++[a]).length=acc.length+1 by simp,Tm.enc_eq a] at hk5;refine DK.st (s2:=(gs ((s.setO q (.cells 43 [.int .i64 5,.int .i64 0,.str x,.str [],.list (some t) ((acc++[a]).map Tm.enc),.nils])).setO r (psO T fin d first j m)) (some t) (acc.length+1) 43).setL none) hk5 (St.ge.trans (pen_ge_some (hfree u rfl)) (gs_ge_O (fun b o hb=>?_) (fun _=>rfl)));simp only[gA1] at hb ⊢;by_cases hb1:q=b
   ·subst hb1;simp only[n1,n1.symm,e6q,e6q.symm,e7q,e7q.symm,if_true,if_false] at hb ⊢;simpa [Tm.enc_eq,Tm.cs] using hb
   ·by_cases hb2:r=b
    ·subst hb2;simp only[hb1,e6,e6.symm,e7,e7.symm,if_true,if_false] at hb ⊢;exact hb
    ·simp only[hb1,hb2,if_false] at hb ⊢;by_cases hb3:b6=b
     ·subst hb3;rw[hf6] at hb;cases hb
     ·by_cases hb4:b7=b
      ·subst hb4;rw[hf7] at hb;cases hb
      ·simp only[hb3,hb4,if_false];exact hb
  ·(try simp only [go_sem,n1,n2,n3,n4,n5,n1.symm,n2.symm,n3.symm,n4.symm,n5.symm,h2,h3,ed,hf6,e6,e6.symm,e6q,e6q.symm,e62,e63,c8])
   rw[kidR.eq_def,if_pos (by simp at c8;omega)] at hk;refine starts_den (T:=T) (fin:=fin) (d:=d) (first:=first) (i:=i) (n:=n) (by simp only[gA2,gA6,gA1,ne_eq,reduceIte,gA9,n1,n2,n3,n4,n5,n1.symm,n2.symm,n3.symm,n4.symm,n5.symm,h2,h3,ed,hf6,e6,e6.symm,e6q,e6q.symm,e62,e63]<;>(first|done|rfl|assumption)) hi ?_;cases hw0:T.drop i with
   | nil =>
    rw[hw0] at hk;intro o;simp only[go_sem];exact DK.here (hk _ o (by repeat (first|exact gA8 _ _|refine St.gx_setL2 ?_ rfl|refine St.gx_setL ?_ rfl|refine St.gx_gs ?_ hfree|refine St.gx_r ?_|refine gA7 hq ?_|refine gA7 hf6 ?_)) (by simp only[gA2,gA6,gA1,ne_eq,reduceIte,gA9,n1,n2,n3,n4,n5,n1.symm,n2.symm,n3.symm,n4.symm,n5.symm,h2,h3,ed,hf6,e6,e6.symm,e6q,e6q.symm,e62,e63]<;>(first|done|rfl|assumption)))
   | cons t0 w0 =>
    rw[hw0] at hk;simp only at hk ⊢;cases hb0:t0.begins with
    | true =>
     rw[hb0] at hk;simp only[if_true,gD7,false_and,if_false,Rd.bad_to] at hk;simp only[go_sem,n1,n2,n3,n4,n5,n1.symm,n2.symm,n3.symm,n4.symm,n5.symm,h2,h3,ed,hf6,e6,e6.symm,e6q,e6q.symm,e62,e63];refine peek_den (T:=T) (fin:=fin) (d:=d) (first:=first) (i:=i) (n:=n) (by simp only[gA2,gA6,gA1,ne_eq,reduceIte,gA9,n1,n2,n3,n4,n5,n1.symm,n2.symm,n3.symm,n4.symm,n5.symm,h2,h3,ed,hf6,e6,e6.symm,e6q,e6q.symm,e62,e63]<;>(first|done|rfl|assumption)) hi ?_;rw[hw0];simp only[go_sem];refine limit_den t0 ?_;simp only[go_sem];exact DK.here (hk _ _ (by repeat (first|exact gA8 _ _|refine St.gx_setL2 ?_ rfl|refine St.gx_setL ?_ rfl|refine St.gx_gs ?_ hfree|refine St.gx_r ?_|refine gA7 hq ?_|refine gA7 hf6 ?_)) (by simp only[gA2,gA6,gA1,ne_eq,reduceIte,gA9,n1,n2,n3,n4,n5,n1.symm,n2.symm,n3.symm,n4.symm,n5.symm,h2,h3,ed,hf6,e6,e6.symm,e6q,e6q.symm,e62,e63]<;>(first|done|rfl|assumption)))
    | false =>
     rw[hb0] at hk;simp only[gD7,if_false] at hk;have hk3:=hk;rw[← hw0] at hk3;simp only[go_sem,n1,n2,n3,n4,n5,n1.symm,n2.symm,n3.symm,n4.symm,n5.symm,h2,h3,ed,hf6,e6,e6.symm,e6q,e6q.symm,e62,e63];refine IH _ d first i n _ _ (by simp only[gA2,gA6,gA1,ne_eq,reduceIte,gA9,n1,n2,n3,n4,n5,n1.symm,n2.symm,n3.symm,n4.symm,n5.symm,h2,h3,ed,hf6,e6,e6.symm,e6q,e6q.symm,e62,e63]<;>(first|done|rfl|assumption)) hi hn (Rd.to_mono hk3 (fun a w m hk2 j hj hjT hw hm=>?_) (fun f h o=>?_))
     rotate_left
     ·simp only[go_sem];exact DK.here (h _ o (by repeat (first|exact gA8 _ _|refine St.gx_setL2 ?_ rfl|refine St.gx_setL ?_ rfl|refine St.gx_gs ?_ hfree|refine St.gx_r ?_|refine gA7 hq ?_|refine gA7 hf6 ?_)) (by simp only[gA2,gA6,gA1,ne_eq,reduceIte,gA9,n1,n2,n3,n4,n5,n1.symm,n2.symm,n3.symm,n4.symm,n5.symm,h2,h3,ed,hf6,e6,e6.symm,e6q,e6q.symm,e62,e63]<;>(first|done|rfl|assumption)))
     simp only[go_sem,n1,n2,n3,n4,n5,n1.symm,n2.symm,n3.symm,n4.symm,n5.symm,h2,h3,ed,hf6,e6,e6.symm,e6q,e6q.symm,e62,e63,Tm.enc_eq,Tm.cs];intro b7 hb7;rw[gA6] at hb7;obtain ⟨e7,hb7⟩:=free_setO hb7;obtain ⟨e76,hb7⟩:=free_setO hb7;obtain ⟨_,hb7⟩:=free_setO hb7;obtain ⟨e7q,hf7⟩:=free_setO hb7;have e72:=(St.ne_of h2 hf7);have e73:=(St.ne_of h3 hf7);simp only[go_sem,n1,n2,n3,n4,n5,n1.symm,n2.symm,n3.symm,n4.symm,n5.symm,h2,h3,ed,hf6,e6,e6.symm,e6q,e6q.symm,e62,e63,hf7,e7,e7.symm,e7q,e7q.symm,e76,e76.symm,e72,e73];(refine draw_ok (V:=[0,1,2,3,4,12]) (OT.l [0,1,2,3,4,5,6,8] (.pair 7 9)) [] mixed_cx (by decide +kernel) ?_;simp only[go_sem,n1,n2,n3,n4,n5,n1.symm,n2.symm,n3.symm,n4.symm,n5.symm,h2,h3,ed,hf6,e6,e6.symm,e6q,e6q.symm,e62,e63,hf7,e7,e7.symm,e7q,e7q.symm,e76,e76.symm,e72,e73]);refine ⟨by decide,?_⟩;refine ⟨⟨by rw[gs_getT,if_pos rfl],fun y hy=>?_,by omega⟩,fun t ht=>?_⟩
     ·simp only[List.mem_map] at hy;obtain ⟨z,_,rfl⟩:=hy;exact Tm.hz z
     have hft:s.getT t=none:=del_free ht (hfree u rfl) (fun _=>rfl);have hk5:=hk2 j (some t) (by omega) hjT hw hm ⟨by simp only[gC2,gC1,gC3] at hac ⊢;omega,h2,h3,hq,⟨n1,n2,n3,n4,n5⟩,fun e=>(by cases e),fun t' e=>by cases e;exact hft⟩;simp only[entS,gv_some] at hk5;rw[show (acc++[a]).length=acc.length+1 by simp,Tm.enc_eq a] at hk5;refine DK.st (s2:=(gs ((s.setO q (.cells 43 [.int .i64 5,.int .i64 0,.str x,.str [],.list (some t) ((acc++[a]).map Tm.enc),.nils])).setO r (psO T fin d first j m)) (some t) (acc.length+1) 43).setL none) hk5 (St.ge.trans (pen_ge_some (hfree u rfl)) (gs_ge_O (fun b o hb=>?_) (fun _=>rfl)));simp only[gA1] at hb ⊢;by_cases hb1:q=b
     ·subst hb1;simp only[n1,n1.symm,e6q,e6q.symm,e7q,e7q.symm,if_true,if_false] at hb ⊢;simpa [Tm.enc_eq,Tm.cs] using hb
     ·by_cases hb2:r=b
      ·subst hb2;simp only[hb1,e6,e6.symm,e7,e7.symm,if_true,if_false] at hb ⊢;exact hb
      ·simp only[hb1,hb2,if_false] at hb ⊢;by_cases hb3:b6=b
       ·subst hb3;rw[hf6] at hb;cases hb
       ·by_cases hb4:b7=b
        ·subst hb4;rw[hf7] at hb;cases hb
        ·simp only[hb3,hb4,if_false];exact hb
end
end Go.AV
end
section
namespace Go.AV
open Go Go.Proofs
section
variable {T:List Tok} {fin:Fault} {d:Dc} {first:Tok} {i n:Nat} {s:St} {r:Nat} {KV Kp:St→A→Prop}
theorem applied_den (hr:s.getO r=some (psO T fin d first i n)) (hk:KV s (.bool false)):Den cx 237 [.ptr r 0] KV Kp s:=by
 simp only[go_sem] at hr;refine Den.drop ?_;(refine Den.of_body (C:=cx) Tryz.func237 rfl rfl (gC6 rfl) ?_;refine wpC_ok (V:=[0,2]) _ _ _ _ ?_;simp only[go_sem,Tryz.ntmps237,Tryz.f237]);simp only[go_sem,hr];exact DK.here hk
theorem frame_den (hr:s.getO r=some (psO T fin d first i n)) (hk:KV s (.str [])):Den cx 238 [.ptr r 0] KV Kp s:=by
 simp only[go_sem] at hr;refine Den.drop ?_;(refine Den.of_body (C:=cx) Tryz.func238 rfl rfl (gC6 rfl) ?_;refine wpC_ok (V:=[0,2,12]) _ _ _ _ ?_;simp only[go_sem,Tryz.ntmps238,Tryz.f238]);simp only[go_sem,hr];exact DK.here hk
theorem loopR_two {α:Type} (fin:Fault) (sep:Str) (one:List α→List Tok→Nat→Rd α):∀ (f:Nat) (a:List α) (l:List α) (w:List Tok) (n:Nat) (p:List α→List Tok→Nat→Prop) (b:Fault→Prop),
  (loopR fin sep (fun acc w n=>(one acc w n).bind fun a w n=>.ok (acc++[a]) w n) f a w n).to p b →
  (loopR fin sep (fun (c:List α × List α) w n=>((one c.1 w n).bind fun a w n=>Rd.ok (c.1++[a],a) w n).bind fun q w n=>.ok (q.1,c.2++[q.2]) w n) f (a,l) w n).to (fun c w n=>p c.1 w n) b
 | 0,a,l,w,n,p,b,h=>h
 | f+1,a,l,w,n,p,b,h=>by
  simp only[loopR,Rd.bind_to] at h ⊢;refine Rd.to_mono h (fun x w n h=>?_) (fun _ h=>h);simp only[Rd.ok_to] at h ⊢;split
  ·rename_i e;rw[if_pos e] at h;exact loopR_two fin sep one f (a++[x]) (l++[x]) w.tail n p b h
  ·rename_i e;rw[if_neg e] at h;exact h
theorem named_den (k:Nat) (hk60:k≤60) (IH:TermOk T fin r k) (t:Tok) (ht:t∈T) (hr:s.getO r=some (psO T fin d first i n)) (hi:i≤T.length) (hT:TOk T) (hn:n≤2000)
  (hk:(namedR false fin first (termR false fin first k) t (T.drop i) n).to (PK T i (fun j m=>s.setO r (psO T fin d first j m)) Tm.enc KV) (PB s r Kp)) :
  Den cx 167 [.ptr r 0,t.enc,.int .i64 ((60-k:Nat):Int)] KV Kp s:=by
 simp only[go_sem];refine Den.drop ?_;(refine Den.of_body (C:=cx) Tryz.func167 rfl rfl (gC6 rfl) ?_;refine wpC_ok (V:=[0,1,2,3,4,5,6,7,8,9,19,29,47]) _ _ _ _ ?_;simp only[go_sem,Tryz.ntmps167,Tryz.f167]);(intro b3 hb3;try simp only[gD6,ne_eq] at hb3);simp only[go_sem,hb3];(intro b4 hb4;try simp only[gD6,ne_eq] at hb4);simp only[go_sem,hb3,hb4];(intro b5 hb5;try simp only[gD6,ne_eq] at hb5);simp only[go_sem,hb3,hb4,hb5];(intro b6 hb6;try simp only[gD6,ne_eq] at hb6);have e3:=St.ne_of hr hb3;have e4:=St.ne_of hr hb4.2;have e5:=St.ne_of hr hb5.2.2;have e6:=St.ne_of hr hb6.2.2.2;have hr2:=hr;simp only[go_sem] at hr2;have hlen:=hT.len;simp only[go_sem,hb3,hb4,hb5,hb6,e3,e4,e5,e6];rw[namedR.eq_def] at hk;cases c1:decide (t.text=[116,114,117,101]);rotate_left
 ·rw[if_pos (by simpa using c1),Rd.ok_to] at hk;simp only[go_sem,hb3,hb4,hb5,hb6,e3,e4,e5,e6,c1];refine applied_den (T:=T) (fin:=fin) (d:=d) (first:=first) (i:=i) (n:=n) (by simp only[gA1,ne_eq,gA9,reduceIte,hb3,hb4,hb5,hb6,e3,e4,e5,e6]<;>(first|done|rfl|assumption)) ?_;simp only[go_sem,hb3,hb4,hb5,hb6,e3,e4,e5,e6,c1];exact DK.mk (hk i (Nat.le_refl _) hi rfl hn) (St.gx.ge (by (repeat (first|exact gA8 _ _|refine St.gx_r ?_|refine gA7 (by first|simp only[hb3,hb4,hb5,hb6]|assumption) ?_|refine St.gx_T (by first|simp only[hb3,hb4,hb5,hb6]|assumption) ?_))) (by simp only[gA1,ne_eq,gA9,reduceIte,hb3,hb4,hb5,hb6,e3,e4,e5,e6]<;>(first|done|rfl|assumption))) (Tm.le_leaf _ _ _ _)
 rw[if_neg (by simpa using c1)] at hk;simp only[go_sem,hb3,hb4,hb5,hb6,e3,e4,e5,e6,c1];cases c2:decide (t.text=[102,97,108,115,101]);rotate_left
 ·rw[if_pos (by simpa using c2),Rd.ok_to] at hk;simp only[go_sem,hb3,hb4,hb5,hb6,e3,e4,e5,e6,c1,c2];refine applied_den (T:=T) (fin:=fin) (d:=d) (first:=first) (i:=i) (n:=n) (by simp only[gA1,ne_eq,gA9,reduceIte,hb3,hb4,hb5,hb6,e3,e4,e5,e6]<;>(first|done|rfl|assumption)) ?_;simp only[go_sem,hb3,hb4,hb5,hb6,e3,e4,e5,e6,c1,c2];exact DK.mk (hk i (Nat.le_refl _) hi rfl hn) (St.gx.ge (by (repeat (first|exact gA8 _ _|refine St.gx_r ?_|refine gA7 (by first|simp only[hb3,hb4,hb5,hb6]|assumption) ?_|refine St.gx_T (by first|simp only[hb3,hb4,hb5,hb6]|assumption) ?_))) (by simp only[gA1,ne_eq,gA9,reduceIte,hb3,hb4,hb5,hb6,e3,e4,e5,e6]<;>(first|done|rfl|assumption))) (Tm.le_leaf _ _ _ _)
 rw[if_neg (by simpa using c2)] at hk;simp only[go_sem,hb3,hb4,hb5,hb6,e3,e4,e5,e6,c1,c2];refine take_den (T:=T) (fin:=fin) (d:=d) (first:=first) (i:=i) (n:=n) _ (by simp only[gA1,ne_eq,gA9,reduceIte,hb3,hb4,hb5,hb6,e3,e4,e5,e6]<;>(first|done|rfl|assumption)) hi hT ?_;cases c3:isT [58] (T.drop i) with
 | true =>
  rw[if_pos c3,Rd.bind_to,List.tail_drop] at hk;have hlt:=isT_lt c3;simp only[go_sem,hb3,hb4,hb5,hb6,e3,e4,e5,e6];(refine draw_ok (V:=[0,1,2,3,4,5,6,7,8,9,19,29,47]) (OT.l [0,1,2,3,4,5] .nil) [(3,[1])] mixed_cx (by decide +kernel) ?_;simp only[go_sem,hb3,hb4,hb5,hb6,e3,e4,e5,e6]);refine name_den (T:=T) (fin:=fin) (d:=d) (first:=first) (i:=i+1) (n:=n) (by simp only[gA1,ne_eq,gA9,reduceIte,hb3,hb4,hb5,hb6,e3,e4,e5,e6]<;>(first|done|rfl|assumption)) hlt hT (Rd.to_mono hk (fun x w m h hlt2 hw hm=>?_) (fun f h=>PB.mk (by (repeat (first|exact gA8 _ _|refine St.gx_r ?_|refine gA7 (by first|simp only[hb3,hb4,hb5,hb6]|assumption) ?_|refine St.gx_T (by first|simp only[hb3,hb4,hb5,hb6]|assumption) ?_))) h));subst hm;rw[Rd.ok_to] at h;simp only[go_sem,hb3,hb4,hb5,hb6,e3,e4,e5,e6];exact DK.mk (h (i+1+1) (by omega) hlt2 hw hn) (St.gx.ge (by (repeat (first|exact gA8 _ _|refine St.gx_r ?_|refine gA7 (by first|simp only[hb3,hb4,hb5,hb6]|assumption) ?_|refine St.gx_T (by first|simp only[hb3,hb4,hb5,hb6]|assumption) ?_))) (by simp only[gA1,ne_eq,gA9,reduceIte,hb3,hb4,hb5,hb6,e3,e4,e5,e6]<;>(first|done|rfl|assumption))) (Tm.le_leaf _ _ _ _)
 | false =>
  rw[if_neg (by simp[c3]),Rd.bind_to] at hk;simp only[go_sem,hb3,hb4,hb5,hb6,e3,e4,e5,e6];(refine draw_ok (V:=[0,1,2,3,4,5,6,7,8,9,19,29,47]) (OT.l [0,1,2,3,4,5,6,7] .nil) [(3,[1]),(6,[1,2])] mixed_cx (by decide +kernel) ?_;simp only[go_sem,hb3,hb4,hb5,hb6,e3,e4,e5,e6]);refine frame_den (T:=T) (fin:=fin) (d:=d) (first:=first) (i:=i) (n:=n) (by simp only[gA1,ne_eq,gA9,reduceIte,hb3,hb4,hb5,hb6,e3,e4,e5,e6]<;>(first|done|rfl|assumption)) ?_;simp only[go_sem,hb3,hb4,hb5,hb6,e3,e4,e5,e6];refine ⟨by have:=hT.txt t ht;unfold maxLen;omega,?_⟩;rw[List.append_nil];(intro b7 hb7;try simp only[gD6,ne_eq] at hb7);have e7:=St.ne_of hr hb7.2.2.2.2;simp only[go_sem,hb3,hb4,hb5,hb6,e3,e4,e5,e6,hb7,e7];refine want_den (T:=T) (fin:=fin) (d:=d) (first:=first) (i:=i) (n:=n) _ (by simp only[gA1,ne_eq,gA9,reduceIte,hb3,hb4,hb5,hb6,e3,e4,e5,e6,e7]<;>(first|done|rfl|assumption)) hi hT (Rd.to_mono hk (fun _ w m h hlt hw hm=>?_) (fun f h=>PB.mk (by (repeat (first|exact gA8 _ _|refine St.gx_r ?_|refine gA7 (by first|simp only[hb3,hb4,hb5,hb6,hb7]|assumption) ?_|refine St.gx_T (by first|simp only[hb3,hb4,hb5,hb6,hb7]|assumption) ?_))) h));subst hw hm;simp only[go_sem,hb3,hb4,hb5,hb6,e3,e4,e5,e6,hb7,e7];refine take_den (T:=T) (fin:=fin) (d:=d) (first:=first) (i:=i+1) (n:=_) _ (by simp only[gA1,ne_eq,gA9,reduceIte,hb3,hb4,hb5,hb6,e3,e4,e5,e6,e7]<;>(first|done|rfl|assumption)) hlt hT ?_;cases c4:isT [41] (T.drop (i+1)) with
  | true =>
   rw[if_pos c4,Rd.ok_to] at h;have hlt2:=isT_lt c4;simp only[go_sem,hb3,hb4,hb5,hb6,e3,e4,e5,e6,hb7,e7];refine DK.mk (h (i+1+1) (by omega) hlt2 (by simp) hn) (St.gx.ge (by (repeat (first|exact gA8 _ _|refine St.gx_r ?_|refine gA7 (by first|simp only[hb3,hb4,hb5,hb6,hb7]|assumption) ?_|refine St.gx_T (by first|simp only[hb3,hb4,hb5,hb6,hb7]|assumption) ?_))) (by simp only[gA1,ne_eq,gA9,reduceIte,hb3,hb4,hb5,hb6,e3,e4,e5,e6,e7]<;>(first|done|rfl|assumption))) ?_;exact Tm.le_leaf _ _ _ _
  | false =>
   rw[if_neg (by simp[c4]),Rd.bind_to] at h;simp only[go_sem,hb3,hb4,hb5,hb6,e3,e4,e5,e6,hb7,e7]
   refine plist222_den (fin:=fin) (σ:=List Tm) (α:=Tm) (X:=Option Nat) (r:=r) Tm.enc Tm.hz Tm.ho hT
    (fun s' acc tk i n=>entS T fin d first 5 t.text b7 r s' acc tk i n) (fun s' acc tk i=>EntQ b3 b5 b7 r k s' acc tk i) (fun acc w n=>(kidR false fin first (termR false fin first k) acc w n).bind fun a w n=>.ok (acc++[a],a) w n) 239 [] [.ptr b7 0,.ptr b3 0,.ptr b5 0]
    (fun s' a x i n=>⟨d,first,entS_r e7.2,entS_step⟩) (fun s' a x i n t v h ht=>?_) (fun s' a x i n t v u ht h=>?_) (fun s' a x i n t v ht h=>⟨h.dropT,entS_drop ht⟩)
    (fun s' a x i h=>⟨by have:=h.len;omega,h.h2,h.h3,h.hq,h.ne,h.nil,h.free⟩) (fun s' a x i n h=>St.gx_gs (St.gx_r (gA7 h.hq (gA8 _ _))) h.free)
    (fun s' a x i n KV' Kp' h hi' hn' hk'=>kid1_den k b3 b5 b7 t.text hk60 IH hT a x h hi' hn' (by rw[Rd.bind_to] at hk';exact Rd.to_mono hk' (fun _ _ _ h=>h) (fun _ h=>h)))
    [] none (i+1) _ ?_ hlt hn ?_
   ·have ht':=ht;rw[entS_getT] at ht';have hx:x≠some t:=fun e=>by rw[if_pos e] at ht';cases ht'
    rw[if_neg hx] at ht';exact ⟨ht',h.setT hx,entS_swap hx⟩
   ·have hx:=h.unT.1;refine ⟨by rw[entS_getT,if_neg hx,gA4,if_pos rfl],h.dropT.setT hx,entS_over hx⟩
   ·refine ⟨Nat.zero_le _,(by simp only[gA1,ne_eq,gA9,reduceIte,hb3,hb4,hb5,hb6,e3,e4,e5,e6,hb7,e7]<;>(first|done|rfl|assumption)),(by simp only[gA1,ne_eq,gA9,reduceIte,hb3,hb4,hb5,hb6,e3,e4,e5,e6,hb7,e7]<;>(first|done|rfl|assumption)),?_,⟨e7.2,?_,?_,e3.1,e5.1⟩,fun _=>rfl,fun t e=>(by cases e)⟩
    ·simp only[gA1,ne_eq,reduceIte,hb7]
    ·exact hb7.2.2.2.1.2
    ·exact hb7.2.1.2
   refine Rd.to_mono (loopR_two _ _ _ _ _ [] _ _ _ _ h) (fun c w m2 hk2 j y hj hjT hw hm hy=>?_) (fun f h s1 o hg hr1=>h.at (hg.trans (by (repeat (first|exact gA8 _ _|refine St.gx_r ?_|refine gA7 (by first|simp only[hb3,hb4,hb5,hb6,hb7]|assumption) ?_|refine St.gx_T (by first|simp only[hb3,hb4,hb5,hb6,hb7]|assumption) ?_)))) hr1);obtain ⟨l,ul⟩:=c;simp only at hk2 hy;subst hw;rw[Rd.bind_to] at hk2;have hfy:∀ t,y=some t→s.getT t=none:=hy.free
   have hny:=hy.nil;simp only[entS];simp only[go_sem,hb3,hb4,hb5,hb6,e3,e4,e5,e6,hb7,e7];refine want_den (T:=T) (fin:=fin) (d:=d) (first:=first) (i:=j) (n:=m2) _ (by simp only[gA2,gA6,gA1,ne_eq,reduceIte,gA9,hb3,hb4,hb5,hb6,e3,e4,e5,e6,hb7,e7]<;>(first|done|rfl|assumption)) hjT hT (Rd.to_mono hk2 (fun _ w3 m3 hk4 hlt3 hw3 hm3=>?_) (fun f h=>PB.mk (by repeat (first|exact gA8 _ _|refine St.gx_gs ?_ hfy|refine St.gx_r ?_|refine gA7 hb3 ?_|refine gA7 hb4.2 ?_|refine gA7 hb5.2.2 ?_|refine gA7 hb6.2.2.2 ?_|refine gA7 hb7.2.2.2.2 ?_)) h));rw[Rd.ok_to] at hk4;subst hm3;simp only[go_sem,hb3,hb4,hb5,hb6,e3,e4,e5,e6,hb7,e7];refine ⟨gv_one y _,?_⟩;refine DK.mk (hk4 (j+1) (by omega) hlt3 hw3 hm) (St.gx.ge (by repeat (first|exact gA8 _ _|refine St.gx_gs ?_ hfy|refine St.gx_r ?_|refine gA7 hb3 ?_|refine gA7 hb4.2 ?_|refine gA7 hb5.2.2 ?_|refine gA7 hb6.2.2.2 ?_|refine gA7 hb7.2.2.2.2 ?_)) (by simp only[gA2,gA6,gA1,ne_eq,reduceIte,gA9,hb3,hb4,hb5,hb6,e3,e4,e5,e6,hb7,e7]<;>(first|done|rfl|assumption))) ?_;rw[Tm.enc_eq];exact A.le.agg ⟨⟨A.le.refl _,rfl⟩,⟨A.le.refl _,rfl⟩,⟨A.le.refl _,rfl⟩,⟨A.le.refl _,rfl⟩,⟨gv_le y _ (fun e=>by rw[hny e];rfl),rfl⟩,⟨A.le.nil,rfl⟩,trivial⟩
end
end Go.AV
end
section
namespace Go.AV
open Go Go.Proofs
section
variable {T:List Tok} {fin:Fault} {r:Nat}
theorem term_ok (hT:TOk T):∀ k,k≤60→TermOk T fin r k:=by
 intro k
 induction k with
 | zero =>
  intro _ s d first i n KV Kp hr hi hn hk
  have e61:decide ((60:Int)<((61:Nat):Int))=true:=by decide
  have e62:decide ((60:Int)<((61-0:Nat):Int))=true:=by decide
  refine Den.drop ?_;(refine Den.of_body (C:=cx) Tryz.func92 rfl rfl (gC6 rfl) ?_;refine wpC_ok (V:=[0,1,4,5,10,14,27,28,33,38]) _ _ _ _ ?_;simp only[go_sem,Tryz.ntmps92,Tryz.f92]);(intro b4 hb4;try simp only[gD6,ne_eq] at hb4);have e4:=St.ne_of hr hb4;simp only[go_sem,hb4,e4];refine peek_den (T:=T) (fin:=fin) (d:=d) (first:=first) (i:=i) (n:=n) (by simp only[gA1,ne_eq,gA9,reduceIte,hb4,e4]<;>(first|done|rfl|assumption)) hi ?_;cases hw:T.drop i with
  | nil=>rw[hw] at hk;exact hk.at (by (repeat (first|exact gA8 _ _|refine St.gx_r ?_|refine gA7 (by first|simp only[hb4]|assumption) ?_|refine St.gx_T (by first|simp only[hb4]|assumption) ?_))) (by simp only[gA1,ne_eq,gA9,reduceIte,hb4,e4]<;>(first|done|rfl|assumption))
  | cons t w =>
   rw[hw] at hk;simp only[go_sem,hb4,e4];(intro b5 hb5;try simp only[gD6,ne_eq] at hb5);have e5:=St.ne_of hr hb5.2;simp only[go_sem,hb4,e4,hb5,e5];refine starts_den (T:=T) (fin:=fin) (d:=d) (first:=first) (i:=i) (n:=n) (by simp only[gA1,ne_eq,gA9,reduceIte,hb4,e4,hb5,e5]<;>(first|done|rfl|assumption)) hi ?_;rw[hw];simp only[termR] at hk ⊢;cases hb:t.begins with
   | true =>
    rw[hb] at hk;simp only[if_true,Rd.bad_to] at hk;simp only[go_sem,hb4,e4,hb5,e5,e61,e62];refine fail_den (T:=T) (fin:=fin) (d:=d) (first:=first) (i:=i) (n:=n) 19 (by simp only[gA1,ne_eq,gA9,reduceIte,hb4,e4,hb5,e5]<;>(first|done|rfl|assumption)) hi hT ?_;rw[hw];exact hk.at (by (repeat (first|exact gA8 _ _|refine St.gx_r ?_|refine gA7 (by first|simp only[hb4,hb5]|assumption) ?_|refine St.gx_T (by first|simp only[hb4,hb5]|assumption) ?_))) (by simp only[gA1,ne_eq,gA9,reduceIte,hb4,e4,hb5,e5]<;>(first|done|rfl|assumption))
   | false =>
    rw[hb] at hk;simp only[gD7,if_false,Rd.bad_to] at hk;simp only[go_sem,hb4,e4,hb5,e5];refine fail_den (T:=T) (fin:=fin) (d:=d) (first:=first) (i:=i) (n:=n) 11 (by simp only[gA1,ne_eq,gA9,reduceIte,hb4,e4,hb5,e5]<;>(first|done|rfl|assumption)) hi hT ?_;rw[hw];exact hk.at (by (repeat (first|exact gA8 _ _|refine St.gx_r ?_|refine gA7 (by first|simp only[hb4,hb5]|assumption) ?_|refine St.gx_T (by first|simp only[hb4,hb5]|assumption) ?_))) (by simp only[gA1,ne_eq,gA9,reduceIte,hb4,e4,hb5,e5]<;>(first|done|rfl|assumption))
 | succ k ih =>
  intro hk60 s d first i n KV Kp hr hi hn hk
  rw[show (61-(k+1):Nat)=60-k by omega];have IH:=ih (by omega);have hlen:=hT.len;have e60:decide ((60:Int)<((60-k:Nat):Int))=false:=by rw[decide_eq_false_iff_not];omega
  refine Den.drop ?_;(refine Den.of_body (C:=cx) Tryz.func92 rfl rfl (gC6 rfl) ?_;refine wpC_ok (V:=[0,1,4,5,10,14,27,28,33,38]) _ _ _ _ ?_;simp only[go_sem,Tryz.ntmps92,Tryz.f92]);(intro b4 hb4;try simp only[gD6,ne_eq] at hb4);have e4:=St.ne_of hr hb4;simp only[go_sem,hb4,e4];refine peek_den (T:=T) (fin:=fin) (d:=d) (first:=first) (i:=i) (n:=n) (by simp only[gA1,ne_eq,gA9,reduceIte,hb4,e4]<;>(first|done|rfl|assumption)) hi ?_;cases hw:T.drop i with
  | nil=>rw[hw] at hk;exact hk.at (by (repeat (first|exact gA8 _ _|refine St.gx_r ?_|refine gA7 (by first|simp only[hb4]|assumption) ?_|refine St.gx_T (by first|simp only[hb4]|assumption) ?_))) (by simp only[gA1,ne_eq,gA9,reduceIte,hb4,e4]<;>(first|done|rfl|assumption))
  | cons t w =>
   rw[hw] at hk;obtain ⟨h1,h2,h3,h4⟩:=drop_get hw;simp only[go_sem,hb4,e4];(intro b5 hb5;try simp only[gD6,ne_eq] at hb5);have e5:=St.ne_of hr hb5.2;simp only[go_sem,hb4,e4,hb5,e5];refine starts_den (T:=T) (fin:=fin) (d:=d) (first:=first) (i:=i) (n:=n) (by simp only[gA1,ne_eq,gA9,reduceIte,hb4,e4,hb5,e5]<;>(first|done|rfl|assumption)) hi ?_;rw[hw];simp only[termR] at hk ⊢;cases hb:t.begins with
   | false =>
    rw[hb] at hk;simp only[gD7,if_false,Rd.bad_to] at hk;simp only[go_sem,hb4,e4,hb5,e5];refine fail_den (T:=T) (fin:=fin) (d:=d) (first:=first) (i:=i) (n:=n) 11 (by simp only[gA1,ne_eq,gA9,reduceIte,hb4,e4,hb5,e5]<;>(first|done|rfl|assumption)) hi hT ?_;rw[hw];exact hk.at (by (repeat (first|exact gA8 _ _|refine St.gx_r ?_|refine gA7 (by first|simp only[hb4,hb5]|assumption) ?_|refine St.gx_T (by first|simp only[hb4,hb5]|assumption) ?_))) (by simp only[gA1,ne_eq,gA9,reduceIte,hb4,e4,hb5,e5]<;>(first|done|rfl|assumption))
   | true =>
    rw[hb] at hk;simp only[if_true,Rd.bind_to] at hk;simp only[go_sem,hb4,e4,hb5,e5,e60];refine node_den (T:=T) (fin:=fin) (d:=d) (first:=first) (i:=i) (n:=n) (by simp only[gA1,ne_eq,gA9,reduceIte,hb4,e4,hb5,e5]<;>(first|done|rfl|assumption)) hn ?_
    have hk':(nodeR first (T.drop i) n).to (fun _ w' m0=>w'=T.drop i→m0≤2000→((if t.kind=2 then Rd.ok (Tm.mk 1 t.n [] [] [] []) w m0 else if t.kind=3 then Rd.ok (Tm.mk 3 0 t.text [] [] []) w m0 else if t.kind=1 then namedR false fin first (termR false fin first k) t w m0 else signedR fin first (termR false fin first k) (decide (k=0)) t w m0)).to (PK T (i+1) (fun j m=>s.setO r (psO T fin d first j m)) Tm.enc KV) (PB s r Kp)) (PB s r Kp):=by
     unfold nodeR at hk ⊢;split
     ·rename_i hc;rw[if_pos hc] at hk;exact hk
     ·rename_i hc;rw[if_neg hc] at hk;exact fun _ _=>hk
    refine Rd.to_mono hk' (fun _ w' m0 hk2 hw' hm0=>?_) (fun f h=>PB.mk (by (repeat (first|exact gA8 _ _|refine St.gx_r ?_|refine gA7 (by first|simp only[hb4,hb5]|assumption) ?_|refine St.gx_T (by first|simp only[hb4,hb5]|assumption) ?_))) h);have hk2:=hk2 hw' hm0;simp only[go_sem,hb4,e4,hb5,e5,wrap1 i (by omega)]
    (first|refine gC8 (fun h=>?_) (fun h=>?_)|refine gC9 (fun h=>?_) (fun h=>?_)|refine gD1 (fun h=>?_) (fun h=>?_))<;>simp only[go_sem,h,hb4,e4,hb5,e5]
    ·have x2:t.kind=2:=by simpa using h
     rw[if_pos x2,Rd.ok_to] at hk2
     (try simp only[go_sem,hb4,e4,hb5,e5])
     exact DK.mk (hk2 (i+1) (Nat.le_refl _) h2 h3 hm0) (St.gx.ge (by (repeat (first|exact gA8 _ _|refine St.gx_r ?_|refine gA7 (by first|simp only[hb4,hb5]|assumption) ?_|refine St.gx_T (by first|simp only[hb4,hb5]|assumption) ?_))) (by simp only[gA1,ne_eq,gA9,reduceIte,hb4,e4,hb5,e5]<;>(first|done|rfl|assumption))) (Tm.le_leaf _ _ _ _)
    have x2:¬ t.kind=2:=by simpa using h
    rw[if_neg x2] at hk2
    (try simp only[go_sem,hb4,e4,hb5,e5])
    (first|refine gC8 (fun h=>?_) (fun h=>?_)|refine gC9 (fun h=>?_) (fun h=>?_)|refine gD1 (fun h=>?_) (fun h=>?_))<;>simp only[go_sem,h,hb4,e4,hb5,e5]
    ·have x3:t.kind=3:=by simpa using h
     rw[if_pos x3,Rd.ok_to] at hk2
     (try simp only[go_sem,hb4,e4,hb5,e5])
     exact DK.mk (hk2 (i+1) (Nat.le_refl _) h2 h3 hm0) (St.gx.ge (by (repeat (first|exact gA8 _ _|refine St.gx_r ?_|refine gA7 (by first|simp only[hb4,hb5]|assumption) ?_|refine St.gx_T (by first|simp only[hb4,hb5]|assumption) ?_))) (by simp only[gA1,ne_eq,gA9,reduceIte,hb4,e4,hb5,e5]<;>(first|done|rfl|assumption))) (Tm.le_leaf _ _ _ _)
    have x3:¬ t.kind=3:=by simpa using h
    rw[if_neg x3] at hk2
    (try simp only[go_sem,hb4,e4,hb5,e5])
    have fin_:∀ (a:Tm) (w:List Tok) (m:Nat),PK T (i+1) (fun j m=>s.setO r (psO T fin d first j m)) Tm.enc KV a w m →
      ∀ (j:Nat),i+1≤j→j≤T.length→T.drop j=w→m≤2000→KV (s.setO r (psO T fin d first j m)) (.agg a.cs):=fun a w m h j h1 h2 h3 h4=>by
     rw[← Tm.enc_eq];exact h j h1 h2 h3 h4
    (first|refine gC8 (fun h=>?_) (fun h=>?_)|refine gC9 (fun h=>?_) (fun h=>?_)|refine gD1 (fun h=>?_) (fun h=>?_))<;>simp only[go_sem,h,hb4,e4,hb5,e5]
    ·have x1:t.kind=1:=by simpa using h
     rw[if_pos x1,← h3] at hk2
     (try simp only[go_sem,hb4,e4,hb5,e5])
     refine named_den (T:=T) (fin:=fin) (d:=d) (first:=first) (i:=i+1) (n:=m0) k (by omega) IH t h4 (by simp only[gA1,ne_eq,gA9,reduceIte,hb4,e4,hb5,e5]<;>(first|done|rfl|assumption)) h2 hT hm0 (Rd.to_mono hk2 (fun a w m h j hj hjT hw hm=>?_) (fun f h=>PB.mk (by (repeat (first|exact gA8 _ _|refine St.gx_r ?_|refine gA7 (by first|simp only[hb4,hb5]|assumption) ?_|refine St.gx_T (by first|simp only[hb4,hb5]|assumption) ?_))) h));have h':=fin_ _ _ _ h j hj hjT hw hm;simp only[go_sem] at h';simp only[go_sem,hb4,e4,hb5,e5,Tm.enc_eq];exact DK.st h' (St.gx.ge (by (repeat (first|exact gA8 _ _|refine St.gx_r ?_|refine gA7 (by first|simp only[hb4,hb5]|assumption) ?_|refine St.gx_T (by first|simp only[hb4,hb5]|assumption) ?_))) (by simp only[gA1,ne_eq,gA9,reduceIte,hb4,e4,hb5,e5]<;>(first|done|rfl|assumption)))
    ·have x1:¬ t.kind=1:=by simpa using h
     rw[if_neg x1,← h3] at hk2
     (try simp only[go_sem,hb4,e4,hb5,e5])
     refine signed_den (T:=T) (fin:=fin) (d:=d) (first:=first) (i:=i+1) (n:=m0) k (by omega) IH t (by simp only[gA1,ne_eq,gA9,reduceIte,hb4,e4,hb5,e5]<;>(first|done|rfl|assumption)) h2 hT hm0 h4 (Rd.to_mono hk2 (fun a w m h j hj hjT hw hm=>?_) (fun f h=>PB.mk (by (repeat (first|exact gA8 _ _|refine St.gx_r ?_|refine gA7 (by first|simp only[hb4,hb5]|assumption) ?_|refine St.gx_T (by first|simp only[hb4,hb5]|assumption) ?_))) h));have h':=fin_ _ _ _ h j hj hjT hw hm;simp only[go_sem] at h';simp only[go_sem,hb4,e4,hb5,e5,Tm.enc_eq];exact DK.st h' (St.gx.ge (by (repeat (first|exact gA8 _ _|refine St.gx_r ?_|refine gA7 (by first|simp only[hb4,hb5]|assumption) ?_|refine St.gx_T (by first|simp only[hb4,hb5]|assumption) ?_))) (by simp only[gA1,ne_eq,gA9,reduceIte,hb4,e4,hb5,e5]<;>(first|done|rfl|assumption)))
end
end Go.AV
end
section
namespace Go.AV
open Go Go.Proofs
structure St.gel (s1 s:St) (L M:List Nat):Prop where
 ob:∀ c,c ∉ L→∀ x,s.getO c=some x→s1.getO c=some x
 tk:∀ t,t ∉ M→∀ m,s.getT t=some m→s1.getT t=some m
 ls:∀ x,s.ls=some x→s1.ls=some x
theorem gel_refl (s:St) (L M:List Nat):s.gel s L M:=⟨fun _ _ _ h=>h,fun _ _ _ h=>h,fun _ h=>h⟩
theorem gel_ge {s1 s:St} (h:s1.gel s [] []):s1.ge s:=⟨fun c x hx=>h.ob c (by simp) x hx,fun t m hm=>h.tk t (by simp) m hm,h.ls⟩
theorem gel_of_gx {s1 s:St} {r:Nat} (h:s1.gx s r) {L M:List Nat} (hr:r∈L):s1.gel s L M :=
 ⟨fun c hc x hx=>h.ob c (fun e=>hc (e▸hr)) x hx,fun t _ m hm=>h.tk t m hm,h.ls⟩
theorem gel_of_ge {s1 s:St} (h:s1.ge s) (L M:List Nat):s1.gel s L M:=⟨fun c _ x hx=>h.ob c x hx,fun t _ m hm=>h.tk t m hm,h.ls⟩
theorem St.gel.trans {s2 s1 s:St} {L M:List Nat} (h:s2.gel s1 L M) (h':s1.gel s L M):s2.gel s L M :=
 ⟨fun c hc x hx=>h.ob c hc x (h'.ob c hc x hx),fun t ht m hm=>h.tk t ht m (h'.tk t ht m hm),fun x hx=>h.ls x (h'.ls x hx)⟩
theorem gel_set {s1 s:St} {L M:List Nat} {b:Nat} {o:Ob} (hb:s1.getO b=some o) (h:s1.gel s (b::L) M):s1.gel (s.setO b o) L M :=
 ⟨fun c hc x hx => by
  rw[gA1] at hx;by_cases e:b=c
  ·subst e;rw[if_pos rfl] at hx;rw[hb];exact hx
  ·rw[if_neg e] at hx;exact h.ob c (by simp only[gC5,not_or];exact ⟨fun h=>e h.symm,hc⟩) x hx,h.tk,h.ls⟩
theorem gel_setT {s1 s:St} {L M:List Nat} {t:Nat} {v:Nat × TypeId} (ht:s1.getT t=some v) (h:s1.gel s L (t::M)):s1.gel (s.setT t v) L M :=
 ⟨h.ob,fun u hu m hm => by
  rw[gA4] at hm;by_cases e:t=u
  ·subst e;rw[if_pos rfl] at hm;rw[ht];exact hm
  ·rw[if_neg e] at hm;exact h.tk u (by simp only[gC5,not_or];exact ⟨fun h=>e h.symm,hu⟩) m hm,h.ls⟩
theorem gel_in {s1 s:St} {L M:List Nat} {b:Nat} {o:Ob} (hb:b∈L) (h:s1.gel s L M):(s1.setO b o).gel s L M :=
 ⟨fun c hc x hx => by
  rw[gA1,if_neg (fun e:b=c=>hc (e▸hb))];exact h.ob c hc x hx,h.tk,h.ls⟩
theorem gel_new {s1 s:St} {L M:List Nat} {b:Nat} {o:Ob} (hb:s.getO b=none) (h:s1.gel s L M):(s1.setO b o).gel s L M :=
 ⟨fun c hc x hx => by
  rw[gA1];by_cases e:b=c
  ·subst e;rw[hb] at hx;cases hx
  ·rw[if_neg e];exact h.ob c hc x hx,h.tk,h.ls⟩
theorem gel_inT {s1 s:St} {L M:List Nat} {t:Nat} {v:Nat × TypeId} (hb:t∈M) (h:s1.gel s L M):(s1.setT t v).gel s L M :=
 ⟨h.ob,fun c hc x hx => by
  rw[gA4,if_neg (fun e:t=c=>hc (e▸hb))];exact h.tk c hc x hx,h.ls⟩
theorem gel_newT {s1 s:St} {L M:List Nat} {t:Nat} {v:Nat × TypeId} (hb:s.getT t=none) (h:s1.gel s L M):(s1.setT t v).gel s L M :=
 ⟨h.ob,fun c hc x hx => by
  rw[gA4];by_cases e:t=c
  ·subst e;rw[hb] at hx;cases hx
  ·rw[if_neg e];exact h.tk c hc x hx,h.ls⟩
theorem gel_free {s1 s:St} {L M:List Nat} {b:Nat} (hb:s.getO b=none) (h:s1.gel s (b::L) M):s1.gel s L M :=
 ⟨fun c hc x hx => h.ob c (by
  simp only[gC5,not_or];exact ⟨fun e=>(by subst e;rw[hb] at hx;cases hx),hc⟩) x hx,h.tk,h.ls⟩
theorem gel_gs {s1 s:St} {L M:List Nat} {tk:Option Nat} {n:Nat} {e:TypeId} (h:s1.gel s L M) (hf:∀ t,tk=some t→s.getT t=none):(gs s1 tk n e).gel s L M:=by
 cases tk with
 | none=>exact h
 | some t=>exact gel_newT (hf t rfl) h
theorem gel_gs_in {s1 s:St} {L M:List Nat} {tk:Option Nat} {n:Nat} {e:TypeId} (h:s1.gel s L M) (hf:∀ t,tk=some t→t∈M):(gs s1 tk n e).gel s L M:=by
 cases tk with
 | none=>exact h
 | some t=>exact gel_inT (hf t rfl) h
theorem gel_to_gs {s1 s:St} {L M:List Nat} {tk:Option Nat} {n:Nat} {e:TypeId} (hf:∀ t,tk=some t→s1.getT t=some (n,e)) (h:s1.gel s L (tk.toList++M)):s1.gel (gs s tk n e) L M:=by
 cases tk with
 | none=>exact h
 | some t=>exact gel_setT (hf t rfl) h
theorem gel_gs_gs {s1 s:St} {L M:List Nat} {tk:Option Nat} {n:Nat} {e:TypeId} (h:s1.gel s L M):(gs s1 tk n e).gel (gs s tk n e) L M:=by
 cases tk with
 | none=>exact h
 | some t =>
  refine ⟨h.ob,fun u hu m hm=>?_,h.ls⟩;simp only[gs,gA4] at hm ⊢;split
  ·rename_i e;rw[if_pos e] at hm;exact hm
  ·rename_i e;rw[if_neg e] at hm;exact h.tk u hu m hm
theorem gs_self {s1:St} {tk:Option Nat} {n:Nat} {e:TypeId}:∀ t,tk=some t→(gs s1 tk n e).getT t=some (n,e):=by
 rintro t rfl;rw[gs_getT,if_pos rfl]
@[go_sem] theorem getT_setO (s:St) (b:Nat) (o:Ob) (t:Nat):(s.setO b o).getT t=s.getT t:=rfl
theorem gB1 {s1 s:St} {L M:List Nat} {tk:Option Nat} {n:Nat} {e:TypeId} (h:s1.gel s L (tk.toList++M)) (hf:∀ t,tk=some t→s1.getT t=some (n,e):=by (rintro _ ⟨⟩;simp only[getT_setO,St.getT_setL,gA4,St.getT_delT,gs_getT,reduceIte,gC2,gC1,gC3,gC4,Nat.zero_add,Nat.add_zero]<;>fail)):s1.gel (gs s tk n e) L M:=gel_to_gs hf h
theorem gB2 {s1 s:St} {L M:List Nat} {t:Nat} {v:Nat × TypeId} (h:s1.gel s L M) (hb:t∈M:=by (simp only[Option.toList,gD2,gD3,gC5,true_or,or_true]<;>fail)):(s1.setT t v).gel s L M:=gel_inT hb h
theorem gB3 {s1 s:St} {L M:List Nat} {b:Nat} {o:Ob} (h:s1.gel s L M) (hb:b∈L:=by (simp only[gC5,true_or,or_true]<;>fail)):(s1.setO b o).gel s L M:=gel_in hb h
end Go.AV
end
