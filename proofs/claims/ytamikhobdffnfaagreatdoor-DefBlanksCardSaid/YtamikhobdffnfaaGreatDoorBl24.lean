/-
  Part of the proof of DefBlanks.
-/
import Derived.Test.YtamikhobdffnfaaGreatDoorBl23
set_option linter.all false
set_option maxRecDepth 1000000
set_option maxHeartbeats 40000000
section
namespace Go.AV
open Go Go.Proofs
section
variable {T:List Tok} {fin:Fault} {d:Dc} {first:Tok} {i n:Nat} {s:St} {r:Nat} {KV Kp:St→A→Prop}
theorem whole_den (hT:TOk T) (hr:s.getO r=some (psO T fin d first i n)) (hi:i≤T.length) (hn:n≤2000)
  (hk:(wholeR false fin (T.drop i) n).to (PK T (i+1) (fun j m=>s.setO r (psO T fin d first j m)) Tm.enc KV) (PB s r Kp)):Den cx 41 [.ptr r 0] KV Kp s:=by
 refine Den.drop ?_;(refine Den.of_body (C:=cx) Tryz.func41 rfl rfl (gC6 rfl) ?_;refine wpC_ok (V:=[0,2,3,4,5]) _ _ _ _ ?_;simp only[go_sem,Tryz.ntmps41,Tryz.f41]);have hr2:=hr;simp only[go_sem] at hr2;(intro b2 hb2;try simp only[gD6,gA6,ne_eq] at hb2);have e2:=St.ne_of hr (by first|exact hb2|exact hb2.2|exact hb2.2.2|exact hb2.2.2.2|exact hb2.2.2.2.2|exact hb2.2.2.2.2.2|exact hb2.2.2.2.2.2.2);simp only[go_sem,hr2,hb2,e2];(refine draw_ok (V:=[0,2,3,4,5]) (OT.l [0,1,2,3,4,5,6,7,8,9,10] .nil) [(8,[3,7]),(9,[7])] mixed_cx (by decide +kernel) ?_;simp only[go_sem,hr2,hb2,e2]);(intro b3 hb3;try simp only[gD6,gA6,ne_eq] at hb3);have e3:=St.ne_of hr (by first|exact hb3|exact hb3.2|exact hb3.2.2|exact hb3.2.2.2|exact hb3.2.2.2.2|exact hb3.2.2.2.2.2|exact hb3.2.2.2.2.2.2);simp only[go_sem,hr2,hb2,e2,hb3,e3]
 have hpk:(match T.drop i with|t::w=>(match termR false fin t 60 (T.drop i) 0 with|.ok a w _=>Rd.ok a w n|.bad f=>.bad f).to (PK T (i+1) (fun j m=>s.setO r (psO T fin d first j m)) Tm.enc KV) (PB s r Kp)|[]=>PB s r Kp fin):=by
  unfold wholeR at hk;revert hk;cases T.drop i with
  | nil=>exact fun h=>h
  | cons t w=>exact fun h=>h
 refine peek_den (T:=T) (fin:=fin) (d:=d) (first:=first) (i:=i) (n:=n) (by simp only[gA1,gA2,gA3,gA6,ne_eq,gA9,reduceIte,hr2,hb2,e2,hb3,e3]<;>(first|done|rfl|assumption)) hi ?_;cases hw:T.drop i with
 | nil=>rw[hw] at hpk;exact hpk.at (by (repeat (first|exact gA8 _ _|refine St.gx_r ?_|refine gA7 (by first|simp only[hb2,hb3]|assumption) ?_|refine St.gx_T (by first|simp only[hb2,hb3]|assumption) ?_))) (by simp only[gA1,gA2,gA3,gA6,ne_eq,gA9,reduceIte,hr2,hb2,e2,hb3,e3]<;>(first|done|rfl|assumption))
 | cons t w =>
  rw[hw] at hpk;simp only at hpk ⊢;simp only[go_sem,hr2,hb2,e2,hb3,e3];refine term_ok hT 60 (Nat.le_refl _) _ d t i 0 _ _ (by simp only[gA1,gA2,gA3,gA6,ne_eq,gA9,reduceIte,hr2,hb2,e2,hb3,e3]<;>(first|done|rfl|assumption)) hi (Nat.zero_le _) ?_;rw[hw];cases ht:termR false fin t 60 (t::w) 0 with
  | bad f=>rw[ht] at hpk;exact PB.mk (by (repeat (first|exact gA8 _ _|refine St.gx_r ?_|refine gA7 (by first|simp only[hb2,hb3]|assumption) ?_|refine St.gx_T (by first|simp only[hb2,hb3]|assumption) ?_))) hpk
  | ok a w2 m =>
   rw[ht] at hpk;intro j hj hjT hw2 hm;have hk2:=hpk j hj hjT hw2 hn;simp only[Tm.enc_eq] at hk2;simp only[go_sem,hr2,hb2,e2,hb3,e3];(intro b5 hb5;try simp only[gD6,gA6,ne_eq] at hb5);have e5:=St.ne_of hr (by first|exact hb5|exact hb5.2|exact hb5.2.2|exact hb5.2.2.2|exact hb5.2.2.2.2|exact hb5.2.2.2.2.2|exact hb5.2.2.2.2.2.2);simp only[go_sem,hr2,hb2,e2,hb3,e3,hb5,e5];exact DK.st hk2 (St.gx.ge (by (repeat (first|exact gA8 _ _|refine St.gx_r ?_|refine gA7 (by first|simp only[hb2,hb3,hb5]|assumption) ?_|refine St.gx_T (by first|simp only[hb2,hb3,hb5]|assumption) ?_))) (by simp only[gA1,gA2,gA3,gA6,ne_eq,gA9,reduceIte,hr2,hb2,e2,hb3,e3,hb5,e5]<;>(first|done|rfl|assumption)))
theorem PB.of {s1:St} {f:Fault} (hg:s1.gx s r) (h:∀ s1 o,s1.gx s r→s1.getO r=some o→Kp s1 (.iface 36 f.enc)):PB s1 r (DK Kp) f:=fun o=>DK.here (h _ o (St.gx_r hg) (by rw[gA1,if_pos rfl]))
def condR (fin:Fault) (a:Nat) (w:List Tok) (n:Nat):Rd Tm:=match w with
 | []=>.bad fin
 | t::r=>if t.begins=true then (roomR fin a 20 (t::r) n).bind fun _ w n=>wholeR false fin w n else wholeR false fin (t::r) n
def cndS (T:List Tok) (fin:Fault) (d:Dc) (first:Tok) (b3 r:Nat) (s:St) (a i n:Nat):St :=
 (s.setO b3 (.cells 3 [.int .i64 (a:Int)])).setO r (psO T fin d first i n)
structure CndQ (b1 b3 r:Nat) (s:St) (a i:Nat):Prop where
 len:a≤i
 h1:s.getO b1=some (.cells 74 [.ptr r 0])
 h3:s.getO b3=none
 ne:b1≠r∧b3≠r∧b1≠b3
theorem cond1_den (hT:TOk T) (b1 b3 a:Nat) (hQ:CndQ b1 b3 r s a i) (hi:i≤T.length) (hn:n≤2000)
  (hk : (condR fin a (T.drop i) n).to (fun x w n' => ∀ j,i + 1 ≤ j → j ≤ T.length → T.drop j = w → n' ≤ 2000 → KV (cndS T fin d first b3 r s (a + 1) j n') x.enc)
   (fun f=>∀ s1 o,s1.gx s r→s1.getO r=some o→Kp s1 (.iface 36 f.enc))):Den cx 223 [.ptr b1 0,.ptr b3 0] KV Kp (cndS T fin d first b3 r s a i n):=by
 obtain ⟨hac,h1,h3,n1,n2,n3⟩:=hQ;have hlen:=hT.len;refine Den.drop ?_;(refine Den.of_body (C:=cx) Tryz.func223 rfl rfl (gC6 rfl) ?_;refine wpC_ok (V:=[0,1,2,4]) _ _ _ _ ?_;simp only[go_sem,Tryz.ntmps223,Tryz.f223]);unfold cndS;(intro b2 hb2;try simp only[gD6,ne_eq] at hb2);have e2:=St.ne_of h1 hb2.2.2;simp only[go_sem,n1,n2,n3,n1.symm,n2.symm,n3.symm,h1,hb2,e2];refine starts_den (T:=T) (fin:=fin) (d:=d) (first:=first) (i:=i) (n:=n) (by simp only[gA1,gA2,gA3,gA6,ne_eq,gA9,reduceIte,n1,n2,n3,n1.symm,n2.symm,n3.symm,h1,hb2,e2]<;>(first|done|rfl|assumption)) hi ?_
 have fin_:∀ (KV2:St→A→Prop) (s2:St),s2.gx s r→s2.getO r=some (psO T fin d first i n) →
   (∀ (j:Nat) (x:Tm) (m:Nat),i+1≤j→j≤T.length→m≤2000→(∀ w,T.drop j=w→KV (cndS T fin d first b3 r s (a+1) j m) x.enc)→KV2 (s2.setO r (psO T fin d first j m)) x.enc) →
   (wholeR false fin (T.drop i) n).to (fun x w n' => ∀ j,i + 1 ≤ j → j ≤ T.length → T.drop j = w → n' ≤ 2000 → KV (cndS T fin d first b3 r s (a + 1) j n') x.enc)
    (fun f=>∀ s1 o,s1.gx s r→s1.getO r=some o→Kp s1 (.iface 36 f.enc))→Den cx 41 [.ptr r 0] KV2 (DK Kp) s2:=by
  intro KV2 s2 hg hr2 hkv hw;refine whole_den hT hr2 hi hn (Rd.to_mono hw (fun x w m h j hj hjT hw hm=>hkv j x m hj hjT hm fun w' hw'=>?_) (fun f h=>PB.of hg h));exact h j hj hjT hw hm
 cases hw:T.drop i with
 | nil=>rw[hw] at hk;exact PB.of (by (repeat (first|exact gA8 _ _|refine St.gx_r ?_|refine gA7 (by first|simp only[h3,hb2]|assumption) ?_|refine St.gx_T (by first|simp only[h3,hb2]|assumption) ?_))) hk
 | cons t w =>
  rw[hw] at hk fin_;simp only[condR] at hk ⊢;cases hb:t.begins with
  | true =>
   rw[hb] at hk;simp only[if_true,Rd.bind_to,roomR] at hk;simp only[go_sem,n1,n2,n3,n1.symm,n2.symm,n3.symm,h1,hb2,e2];refine room_den (T:=T) (fin:=fin) (d:=d) (first:=first) (i:=i) (n:=n) _ _ (by simp only[gA1,gA2,gA3,gA6,ne_eq,gA9,reduceIte,n1,n2,n3,n1.symm,n2.symm,n3.symm,h1,hb2,e2]<;>(first|done|rfl|assumption)) hi ?_;by_cases h20:20≤a
   ·rw[if_pos h20] at hk;rw[if_pos (by omega),hw];exact PB.of (by (repeat (first|exact gA8 _ _|refine St.gx_r ?_|refine gA7 (by first|simp only[h3,hb2]|assumption) ?_|refine St.gx_T (by first|simp only[h3,hb2]|assumption) ?_))) hk
   ·rw[if_neg h20,Rd.ok_to] at hk;rw[if_neg (by omega)];simp only[go_sem,n1,n2,n3,n1.symm,n2.symm,n3.symm,h1,hb2,e2,wrap1 a (by omega)];refine fin_ _ _ (by (repeat (first|exact gA8 _ _|refine St.gx_r ?_|refine gA7 (by first|simp only[h3,hb2]|assumption) ?_|refine St.gx_T (by first|simp only[h3,hb2]|assumption) ?_))) (by simp only[gA1,gA2,gA3,gA6,ne_eq,gA9,reduceIte,n1,n2,n3,n1.symm,n2.symm,n3.symm,h1,hb2,e2]<;>(first|done|rfl|assumption)) (fun j x m hj hjT hm h=>?_) hk;have hk2:=h _ rfl;simp only[Tm.enc_eq,cndS] at hk2;simp only[go_sem,n1,n2,n3,n1.symm,n2.symm,n3.symm,h1,hb2,e2,Tm.enc_eq];exact DK.st hk2 (by (refine gel_ge ?_;repeat (first|exact gel_refl _ _ _|refine gel_gs_gs ?_|refine gel_to_gs gs_self ?_|refine gB1 ?_|refine gB2 ?_|refine gel_set (by simp only[gA1,gA2,gA3,gA6,ne_eq,gA9,reduceIte,n1,n2,n3,n1.symm,n2.symm,n3.symm,h1,hb2,e2]<;>(first|done|rfl|assumption)) ?_|refine gB3 ?_|refine gel_new (by first|simp only[h3,hb2]|assumption) ?_)))
  | false =>
   rw[hb] at hk;simp only[gD7,if_false] at hk;simp only[go_sem,n1,n2,n3,n1.symm,n2.symm,n3.symm,h1,hb2,e2,wrap1 a (by omega)];refine fin_ _ _ (by (repeat (first|exact gA8 _ _|refine St.gx_r ?_|refine gA7 (by first|simp only[h3,hb2]|assumption) ?_|refine St.gx_T (by first|simp only[h3,hb2]|assumption) ?_))) (by simp only[gA1,gA2,gA3,gA6,ne_eq,gA9,reduceIte,n1,n2,n3,n1.symm,n2.symm,n3.symm,h1,hb2,e2]<;>(first|done|rfl|assumption)) (fun j x m hj hjT hm h=>?_) hk;have hk2:=h _ rfl;simp only[Tm.enc_eq,cndS] at hk2;simp only[go_sem,n1,n2,n3,n1.symm,n2.symm,n3.symm,h1,hb2,e2,Tm.enc_eq];exact DK.st hk2 (by (refine gel_ge ?_;repeat (first|exact gel_refl _ _ _|refine gel_gs_gs ?_|refine gel_to_gs gs_self ?_|refine gB1 ?_|refine gB2 ?_|refine gel_set (by simp only[gA1,gA2,gA3,gA6,ne_eq,gA9,reduceIte,n1,n2,n3,n1.symm,n2.symm,n3.symm,h1,hb2,e2]<;>(first|done|rfl|assumption)) ?_|refine gB3 ?_|refine gel_new (by first|simp only[h3,hb2]|assumption) ?_)))
theorem loopR_same {α:Type} (fin:Fault) (sep:Str) (one:List α→List Tok→Nat→Rd α):∀ (f:Nat) (a:List α) (w:List Tok) (n:Nat) (p:List α→List Tok→Nat→Prop) (b:Fault→Prop),
  (loopR fin sep (fun acc w n=>(one acc w n).bind fun a w n=>.ok (acc++[a]) w n) f a w n).to p b →
  (loopR fin sep (fun (c:List α × List α) w n=>((one c.1 w n).bind fun a w n=>Rd.ok (c.1++[a],a) w n).bind fun q w n=>.ok (q.1,c.2++[q.2]) w n) f (a,a) w n).to (fun c w n=>c.1=c.2∧p c.2 w n) b
 | 0,a,w,n,p,b,h=>h
 | f+1,a,w,n,p,b,h=>by
  simp only[loopR,Rd.bind_to] at h ⊢;refine Rd.to_mono h (fun x w n h=>?_) (fun _ h=>h);simp only[Rd.ok_to] at h ⊢;split
  ·rename_i e;rw[if_pos e] at h;exact loopR_same fin sep one f (a++[x]) w.tail n p b h
  ·rename_i e;rw[if_neg e] at h;exact ⟨rfl,h⟩
theorem condsR_eq (w:List Tok) (n:Nat):condsR false fin w n=if isT [105,102] w=true then listR fin (fun acc w n=>condR fin acc.length w n) [] w.tail n else .ok [] w n:=by
 unfold condsR condR;split
 ·congr 1
 ·rfl
theorem conds_den (hT:TOk T) (hr:s.getO r=some (psO T fin d first i n)) (hi:i≤T.length) (hn:n≤2000)
  (hk:(condsR false fin (T.drop i) n).to (PK T i (fun j m=>s.setO r (psO T fin d first j m)) (fun l=>.list none (l.map Tm.enc)) KV) (PB s r Kp)):Den cx 153 [.ptr r 0] KV Kp s:=by
 rw[condsR_eq] at hk;refine Den.drop ?_;(refine Den.of_body (C:=cx) Tryz.func153 rfl rfl (gC6 rfl) ?_;refine wpC_ok (V:=[0,1,2,3,6]) _ _ _ _ ?_;simp only[go_sem,Tryz.ntmps153,Tryz.f153]);(intro b1 hb1;try simp only[gD6,gA6,ne_eq] at hb1);have e1:=St.ne_of hr (by first|exact hb1|exact hb1.2|exact hb1.2.2|exact hb1.2.2.2|exact hb1.2.2.2.2|exact hb1.2.2.2.2.2|exact hb1.2.2.2.2.2.2);simp only[go_sem,hb1,e1];refine take_den (T:=T) (fin:=fin) (d:=d) (first:=first) (i:=i) (n:=n) _ (by simp only[gA1,gA2,gA3,gA6,ne_eq,gA9,reduceIte,hb1,e1]<;>(first|done|rfl|assumption)) hi hT ?_;cases c:isT [105,102] (T.drop i) with
 | false =>
  rw[if_neg (by simp[c]),Rd.ok_to] at hk;simp only[go_sem,hb1,e1];exact DK.mk (hk i (Nat.le_refl _) hi rfl hn) (St.gx.ge (by (repeat (first|exact gA8 _ _|refine St.gx_r ?_|refine gA7 (by first|simp only[hb1]|assumption) ?_|refine St.gx_T (by first|simp only[hb1]|assumption) ?_))) (by simp only[gA1,gA2,gA3,gA6,ne_eq,gA9,reduceIte,hb1,e1]<;>(first|done|rfl|assumption))) A.le.nil
 | true =>
  rw[if_pos c,List.tail_drop] at hk;have hlt:=isT_lt c;simp only[go_sem,hb1,e1];(intro b3 hb3;try simp only[gD6,gA6,ne_eq] at hb3);have e3:=St.ne_of hr (by first|exact hb3|exact hb3.2|exact hb3.2.2|exact hb3.2.2.2|exact hb3.2.2.2.2|exact hb3.2.2.2.2.2|exact hb3.2.2.2.2.2.2);simp only[go_sem,hb1,e1,hb3,e3]
  refine Den.weaken (s':=cndS T fin d first b3 r (s.setO b1 (.cells 74 [.ptr r 0])) 0 (i+1) n) ?_ (plist222_den (fin:=fin) (σ:=List Tm) (α:=Tm) (X:=Unit) (r:=r) Tm.enc Tm.hz Tm.ho hT
    (fun s' acc _ i n=>cndS T fin d first b3 r s' acc.length i n) (fun s' acc _ i=>CndQ b1 b3 r s' acc.length i) (fun acc w n=>(condR fin acc.length w n).bind fun a w n=>.ok (acc++[a],a) w n) 223 [] [.ptr b1 0,.ptr b3 0]
    (fun s' a x i n=>⟨d,first,by unfold cndS;rw[gA1,if_pos rfl],by unfold cndS;rw[setO_setO];exact St.ge.refl _⟩) (fun s' a x i n t v h ht=>⟨ht,⟨h.len,h.h1,h.h3,h.ne⟩,St.ge.refl _⟩)
    (fun s' a x i n t v u ht h=>⟨?_,⟨h.len,h.h1,h.h3,h.ne⟩,?_⟩) (fun s' a x i n t v ht h=>⟨⟨h.len,h.h1,h.h3,h.ne⟩,?_⟩)
    (fun s' a x i h=>⟨by have:=h.len;omega,h.h1,h.h3,h.ne⟩) (fun s' a x i n h=>St.gx_r (gA7 h.h3 (gA8 _ _)))
    (fun s' a x i n KV' Kp' h hi' hn' hk'=>cond1_den hT b1 b3 a.length h hi' hn' ?_)
    [] () (i+1) n ?_ hlt hn ?_)
  ·exact (by (refine gel_ge ?_;repeat (first|exact gel_refl _ _ _|refine gel_gs_gs ?_|refine gel_to_gs gs_self ?_|refine gB1 ?_|refine gB2 ?_|refine gel_set (by simp only[gA1,gA2,gA3,gA6,ne_eq,gA9,reduceIte,hb1,e1,hb3,e3]<;>(first|done|rfl|assumption)) ?_|refine gB3 ?_|refine gel_new (by first|simp only[hb1,hb3]|assumption) ?_)))
  ·show (s'.setT t v).getT t=some v;rw[gA4,if_pos rfl]
  ·exact St.ge_setO (St.ge_setO (St.setT_over s' t v u))
  ·exact St.ge_setO (St.ge_setO (St.ge_freeT ht))
  ·rw[Rd.bind_to] at hk';refine Rd.to_mono hk' (fun x w m h2 j hj hjT hw hm=>?_) (fun _ h=>h);have h3:=h2 j () (by omega) hjT hw hm ⟨by have:=h.len;simp only[gC2,gC1,gC3];omega,h.h1,h.h3,h.ne⟩;simpa only[gC2,gC1,gC3] using h3
  ·refine ⟨Nat.zero_le _,(by simp only[gA1,gA2,gA3,gA6,ne_eq,gA9,reduceIte,hb1,e1,hb3,e3]<;>(first|done|rfl|assumption)),?_,?_⟩
   ·simp only[gA1,ne_eq,reduceIte,hb3]
   ·simp only[hb3,e1,e3,ne_eq,gA9,true_and,and_true]
  ·refine Rd.to_mono (loopR_same _ _ _ _ _ _ _ _ _ hk) (fun c w m h2 j y hj hjT hw hm hy=>?_) (fun f h s1 o hg hr1=>h.at (hg.trans (by (repeat (first|exact gA8 _ _|refine St.gx_r ?_|refine gA7 (by first|simp only[hb1,hb3]|assumption) ?_|refine St.gx_T (by first|simp only[hb1,hb3]|assumption) ?_)))) hr1);obtain ⟨l,ul⟩:=c;obtain ⟨e,h2⟩:=h2;simp only at e h2;subst e;have h3:=h2 j (by omega) hjT hw hm;unfold cndS;simp only[go_sem,hb1,e1,hb3,e3];exact DK.st h3 (by (refine gel_ge ?_;repeat (first|exact gel_refl _ _ _|refine gel_gs_gs ?_|refine gel_to_gs gs_self ?_|refine gB1 ?_|refine gB2 ?_|refine gel_set (by simp only[gA1,gA2,gA3,gA6,ne_eq,gA9,reduceIte,hb1,e1,hb3,e3]<;>(first|done|rfl|assumption)) ?_|refine gB3 ?_|refine gel_new (by first|simp only[hb1,hb3]|assumption) ?_)))
end
end Go.AV
end
section
namespace Go.AV
open Go Go.Proofs
section
variable {T:List Tok} {fin:Fault} {d:Dc} {first:Tok} {i n:Nat} {s:St} {r:Nat} {KV Kp:St→A→Prop}
theorem cell_den (hT:TOk T) (hr:s.getO r=some (psO T fin d first i n)) (hi:i≤T.length) (hn:n≤2000)
  (hk:(cellR false fin (T.drop i) n).to (PK T (i+1) (fun j m=>s.setO r (psO T fin d first j m)) Cel.enc KV) (PB s r Kp)):Den cx 226 [.ptr r 0] KV Kp s:=by
 refine Den.drop ?_;(refine Den.of_body (C:=cx) Tryz.func226 rfl rfl (gC6 rfl) ?_;refine wpC_ok (V:=[0,2,3,4]) _ _ _ _ ?_;simp only[go_sem,Tryz.ntmps226,Tryz.f226]);(intro b2 hb2;try simp only[gD6,gA6,ne_eq] at hb2);have e2:=St.ne_of hr (by first|exact hb2|exact hb2.2|exact hb2.2.2|exact hb2.2.2.2|exact hb2.2.2.2.2|exact hb2.2.2.2.2.2|exact hb2.2.2.2.2.2.2);simp only[go_sem,hb2,e2];refine peek_den (T:=T) (fin:=fin) (d:=d) (first:=first) (i:=i) (n:=n) (by simp only[gA1,gA2,gA3,gA6,ne_eq,gA9,reduceIte,hb2,e2]<;>(first|done|rfl|assumption)) hi ?_;cases hw:T.drop i with
 | nil=>rw[hw] at hk;exact hk.at (by (repeat (first|exact gA8 _ _|refine St.gx_r ?_|refine gA7 (by first|simp only[hb2]|assumption) ?_|refine St.gx_T (by first|simp only[hb2]|assumption) ?_))) (by simp only[gA1,gA2,gA3,gA6,ne_eq,gA9,reduceIte,hb2,e2]<;>(first|done|rfl|assumption))
 | cons t w =>
  rw[hw] at hk;obtain ⟨g1,g2,g3,g4⟩:=drop_get hw;simp only[cellR,Rd.bind_to] at hk;simp only[go_sem,hb2,e2];(intro b3 hb3;try simp only[gD6,gA6,ne_eq] at hb3);have e3:=St.ne_of hr (by first|exact hb3|exact hb3.2|exact hb3.2.2|exact hb3.2.2.2|exact hb3.2.2.2.2|exact hb3.2.2.2.2.2|exact hb3.2.2.2.2.2.2);simp only[go_sem,hb2,e2,hb3,e3];(refine draw_ok (V:=[0,2,3,4]) (OT.l [0,2,3,4,5,1,6,7,8] .nil) [(1,[3,5]),(7,[3,5])] mixed_cx (by decide +kernel) ?_;simp only[go_sem,hb2,e2,hb3,e3]);rw[← hw] at hk;(refine name_den (T:=T) (fin:=fin) (d:=d) (first:=first) (i:=i) (n:=n) (by simp only[gA1,gA2,gA3,gA6,ne_eq,gA9,reduceIte,hb2,e2,hb3,e3]<;>(first|done|rfl|assumption)) hi hT (Rd.to_mono hk (fun x1 w1 m1 hk1 hlt1 hw1 hm1=>?_) (fun f h=>PB.mk (by (repeat (first|exact gA8 _ _|refine St.gx_r ?_|refine gA7 (by first|simp only[hb2,hb3]|assumption) ?_|refine St.gx_T (by first|simp only[hb2,hb3]|assumption) ?_))) h));subst m1;rw[← hw1] at hk1);simp only[go_sem,hb2,e2,hb3,e3];(intro b4 hb4;try simp only[gD6,gA6,ne_eq] at hb4);have e4:=St.ne_of hr (by first|exact hb4|exact hb4.2|exact hb4.2.2|exact hb4.2.2.2|exact hb4.2.2.2.2|exact hb4.2.2.2.2.2|exact hb4.2.2.2.2.2.2);simp only[go_sem,hb2,e2,hb3,e3,hb4,e4];(refine want_den (T:=T) (fin:=fin) (d:=d) (first:=first) (i:=i+1) (n:=n) _ (by simp only[gA1,gA2,gA3,gA6,ne_eq,gA9,reduceIte,hb2,e2,hb3,e3,hb4,e4]<;>(first|done|rfl|assumption)) hlt1 hT (Rd.to_mono hk1 (fun _ w2 m2 hk2 hlt2 hw2 hm2=>?_) (fun f h=>PB.mk (by (repeat (first|exact gA8 _ _|refine St.gx_r ?_|refine gA7 (by first|simp only[hb2,hb3,hb4]|assumption) ?_|refine St.gx_T (by first|simp only[hb2,hb3,hb4]|assumption) ?_))) h));subst m2;rw[← hw2] at hk2);simp only[go_sem,hb2,e2,hb3,e3,hb4,e4];(refine name_den (T:=T) (fin:=fin) (d:=d) (first:=first) (i:=i+1+1) (n:=n) (by simp only[gA1,gA2,gA3,gA6,ne_eq,gA9,reduceIte,hb2,e2,hb3,e3,hb4,e4]<;>(first|done|rfl|assumption)) hlt2 hT (Rd.to_mono hk2 (fun x3 w3 m3 hk3 hlt3 hw3 hm3=>?_) (fun f h=>PB.mk (by (repeat (first|exact gA8 _ _|refine St.gx_r ?_|refine gA7 (by first|simp only[hb2,hb3,hb4]|assumption) ?_|refine St.gx_T (by first|simp only[hb2,hb3,hb4]|assumption) ?_))) h));subst m3;rw[← hw3] at hk3);simp only[go_sem,hb2,e2,hb3,e3,hb4,e4];(refine want_den (T:=T) (fin:=fin) (d:=d) (first:=first) (i:=i+1+1+1) (n:=n) _ (by simp only[gA1,gA2,gA3,gA6,ne_eq,gA9,reduceIte,hb2,e2,hb3,e3,hb4,e4]<;>(first|done|rfl|assumption)) hlt3 hT (Rd.to_mono hk3 (fun _ w4 m4 hk4 hlt4 hw4 hm4=>?_) (fun f h=>PB.mk (by (repeat (first|exact gA8 _ _|refine St.gx_r ?_|refine gA7 (by first|simp only[hb2,hb3,hb4]|assumption) ?_|refine St.gx_T (by first|simp only[hb2,hb3,hb4]|assumption) ?_))) h));subst m4;rw[← hw4] at hk4);simp only[go_sem,hb2,e2,hb3,e3,hb4,e4];(refine whole_den (T:=T) (fin:=fin) (d:=d) (first:=first) (i:=i+1+1+1+1) (n:=n) hT (by simp only[gA1,gA2,gA3,gA6,ne_eq,gA9,reduceIte,hb2,e2,hb3,e3,hb4,e4]<;>(first|done|rfl|assumption)) hlt4 hn (Rd.to_mono hk4 (fun a5 w5 m5 hk5 j5 hj5 hjT5 hw5 hm5=>?_) (fun f h=>PB.mk (by (repeat (first|exact gA8 _ _|refine St.gx_r ?_|refine gA7 (by first|simp only[hb2,hb3,hb4]|assumption) ?_|refine St.gx_T (by first|simp only[hb2,hb3,hb4]|assumption) ?_))) h));rw[← hw5] at hk5);have hk:=hk5 j5 (by omega) hjT5 rfl hm5;simp only[Cel.enc,Cel.cs] at hk;simp only[go_sem] at hk;simp only[go_sem,hb2,e2,hb3,e3,hb4,e4,Tm.enc_eq];exact DK.st hk (by (refine gel_ge ?_;repeat (first|exact gel_refl _ _ _|refine gel_gs_gs ?_|refine gel_to_gs gs_self ?_|refine gB1 ?_|refine gB2 ?_|refine gel_set (by simp only[gA1,gA2,gA3,gA6,ne_eq,gA9,reduceIte,hb2,e2,hb3,e3,hb4,e4]<;>(first|done|rfl|assumption)) ?_|refine gB3 ?_|refine gel_new (by first|simp only[hb2,hb3,hb4]|assumption) ?_)))
def funS (T:List Tok) (fin:Fault) (d:Dc) (first:Tok) (b r:Nat) (x:Str) (s:St) (tk:Option Nat) (ar:List Str) (i n:Nat):St :=
 gs ((s.setO b (.cells 73 [.str x,gv tk (ar.map .str),.str [],.nils,.int .i64 0,.int .i64 0,.nils])).setO r (psO T fin d first i n)) tk ar.length 9
theorem fun_den (hT:TOk T) (hr:s.getO r=some (psO T fin d first i n)) (hi:i≤T.length) (hn:n≤2000)
  (hk:(funR fin (T.drop i) n).to (PK T i (fun j m=>s.setO r (psO T fin d first j m)) Opr.enc KV) (PB s r Kp)):Den cx 152 [.ptr r 0] KV Kp s:=by
 have hlenT:=hT.len;simp only[funR,Rd.bind_to] at hk;refine Den.drop ?_;(refine Den.of_body (C:=cx) Tryz.func152 rfl rfl (gC6 rfl) ?_;refine wpC_ok (V:=[0,2,3,4,13,24]) _ _ _ _ ?_;simp only[go_sem,Tryz.ntmps152,Tryz.f152]);(intro b2 hb2;try simp only[gD6,gA6,ne_eq] at hb2);have e2:=St.ne_of hr (by first|exact hb2|exact hb2.2|exact hb2.2.2|exact hb2.2.2.2|exact hb2.2.2.2.2|exact hb2.2.2.2.2.2|exact hb2.2.2.2.2.2.2);simp only[go_sem,hb2,e2];(refine name_den (T:=T) (fin:=fin) (d:=d) (first:=first) (i:=i) (n:=n) (by simp only[gA1,gA2,gA3,gA6,ne_eq,gA9,reduceIte,hb2,e2]<;>(first|done|rfl|assumption)) hi hT (Rd.to_mono hk (fun x1 w1 m1 hk1 hlt1 hw1 hm1=>?_) (fun f h=>PB.mk (by (repeat (first|exact gA8 _ _|refine St.gx_r ?_|refine gA7 (by first|simp only[hb2]|assumption) ?_|refine St.gx_T (by first|simp only[hb2]|assumption) ?_))) h));subst m1;rw[← hw1] at hk1);simp only[go_sem,hb2,e2];(intro b3 hb3;try simp only[gD6,gA6,ne_eq] at hb3);have e3:=St.ne_of hr (by first|exact hb3|exact hb3.2|exact hb3.2.2|exact hb3.2.2.2|exact hb3.2.2.2.2|exact hb3.2.2.2.2.2|exact hb3.2.2.2.2.2.2);simp only[go_sem,hb2,e2,hb3,e3];(refine want_den (T:=T) (fin:=fin) (d:=d) (first:=first) (i:=i+1) (n:=n) _ (by simp only[gA1,gA2,gA3,gA6,ne_eq,gA9,reduceIte,hb2,e2,hb3,e3]<;>(first|done|rfl|assumption)) hlt1 hT (Rd.to_mono hk1 (fun _ w2 m2 hk2 hlt2 hw2 hm2=>?_) (fun f h=>PB.mk (by (repeat (first|exact gA8 _ _|refine St.gx_r ?_|refine gA7 (by first|simp only[hb2,hb3]|assumption) ?_|refine St.gx_T (by first|simp only[hb2,hb3]|assumption) ?_))) h));subst m2;rw[← hw2] at hk2);simp only[go_sem,hb2,e2,hb3,e3];rw[show (T.drop (i+1+1)).length=T.length-(i+1+1) by rw[gD4]] at hk2
 refine Ex.loop (ι:=Option Nat × List Str × Nat) (fun c=>[(0,.ptr r 0),(2,.ptr b2 0),(3,.ptr b3 0)]) (fun c=>funS T fin d first b3 r x1 (s.setO b2 (.cells 73 [.str [],.nils,.str [],.nils,.int .i64 0,.int .i64 0,.nils])) c.1 c.2.1 c.2.2 n)
  (fun c => (c.1 = none → c.2.1 = []) ∧ (∀ t,c.1 = some t → s.getT t = none) ∧ i + 1 + 1 ≤ c.2.2 ∧ c.2.2 ≤ T.length ∧ c.2.1.length ≤ c.2.2 ∧ ∃ k,T.length - c.2.2 < k ∧
   (argsR fin k c.2.1 (T.drop c.2.2) n).to (fun ar w n=>(nameR fin w n).to (fun y w n=>PK T i (fun j m=>s.setO r (psO T fin d first j m)) Opr.enc KV ⟨x1,ar,y,[],0,0,[]⟩ w n) (PB s r Kp)) (PB s r Kp))
  (fun c=>T.length-c.2.2) (none,[],i+1+1) ?_ ?_ ?_ ?_
 ·exact ⟨fun _=>rfl,fun t e=>(by cases e),Nat.le_refl _,hlt2,Nat.zero_le _,_,Nat.lt_succ_self _,hk2⟩
 ·simp only[go_sem,hb2,e2,hb3,e3]
 ·exact (by (refine gel_ge ?_;repeat (first|exact gel_refl _ _ _|refine gel_gs_gs ?_|refine gel_to_gs gs_self ?_|refine gB1 ?_|refine gB2 ?_|refine gel_set (by simp only[gA1,gA2,gA3,gA6,ne_eq,gA9,reduceIte,hb2,e2,hb3,e3]<;>(first|done|rfl|assumption)) ?_|refine gB3 ?_|refine gel_new (by first|simp only[hb2,hb3]|assumption) ?_)))
 ·rintro ⟨tk,ar,i2⟩ ⟨hnil,hfree,hi1,hi2,has,k,hk3,hk4⟩;simp only at hnil hfree hi1 hi2 has hk3 hk4;obtain ⟨k,rfl⟩:∃ k',k=k'+1:=⟨k-1,by omega⟩
  have hg:gok (funS T fin d first b3 r x1 (s.setO b2 (.cells 73 [.str [],.nils,.str [],.nils,.int .i64 0,.int .i64 0,.nils])) tk ar i2 n) tk (ar.map A.str).length 9:=by rw[gC4];exact gs_ok fun e=>by rw[hnil e];rfl
  refine wpC_ok (V:=[0,2,3,4,13,24]) _ _ _ _ ?_;unfold funS;simp only[go_sem,hb2,e2,hb3,e3];refine take_den (T:=T) (fin:=fin) (d:=d) (first:=first) (i:=i2) (n:=n) _ (by simp only[gA1,gA2,gA3,gA6,ne_eq,gA9,reduceIte,hb2,e2,hb3,e3]<;>(first|done|rfl|assumption)) hi2 hT ?_;cases hx:isT [45,62] (T.drop i2) with
  | true =>
   rw[argsR,if_pos hx,Rd.ok_to,List.tail_drop] at hk4;have hlt:=isT_lt hx;simp only[go_sem,hb2,e2,hb3,e3];(refine name_den (T:=T) (fin:=fin) (d:=d) (first:=first) (i:=i2+1) (n:=n) (by simp only[gA1,gA2,gA3,gA6,ne_eq,gA9,reduceIte,hb2,e2,hb3,e3]<;>(first|done|rfl|assumption)) hlt hT (Rd.to_mono hk4 (fun x5 w5 m5 hk5 hlt5 hw5 hm5=>?_) (fun f h=>PB.mk (by (repeat (first|refine St.gx_gs ?_ hfree|refine St.gx_T hfree ?_|exact gA8 _ _|refine St.gx_r ?_|refine gA7 (by first|simp only[hb2,hb3]|assumption) ?_|refine St.gx_T (by first|simp only[hb2,hb3]|assumption) ?_))) h));subst m5;rw[← hw5] at hk5);simp only[go_sem,hb2,e2,hb3,e3];have hk:=hk5 (i2+1+1) (by omega) hlt5 rfl hn;simp only[Opr.enc,Opr.cs] at hk;simp only[go_sem] at hk;refine ⟨gv_one _ _,?_⟩;refine DK.mk hk (by (refine gel_ge ?_;repeat (first|exact gel_refl _ _ _|refine gel_gs_gs ?_|refine gel_to_gs gs_self ?_|refine gB1 ?_|refine gB2 ?_|refine gel_gs ?_ hfree|refine gel_newT hfree ?_|refine gel_set (by simp only[gA1,gA2,gA3,gA6,ne_eq,gA9,reduceIte,hb2,e2,hb3,e3]<;>(first|done|rfl|assumption)) ?_|refine gB3 ?_|refine gel_new (by first|simp only[hb2,hb3]|assumption) ?_))) ?_;exact A.le.agg ⟨⟨A.le.refl _,rfl⟩,⟨gv_le _ _ (fun e=>by rw[hnil e];rfl),rfl⟩,⟨A.le.refl _,rfl⟩,⟨A.le.nil,rfl⟩,⟨A.le.refl _,rfl⟩,⟨A.le.refl _,rfl⟩,⟨A.le.nil,rfl⟩,trivial⟩
  | false =>
   simp only[go_sem,hb2,e2,hb3,e3];refine peek_den (T:=T) (fin:=fin) (d:=d) (first:=first) (i:=i2) (n:=n) (by simp only[gA1,gA2,gA3,gA6,ne_eq,gA9,reduceIte,hb2,e2,hb3,e3]<;>(first|done|rfl|assumption)) hi2 ?_;cases hw:T.drop i2 with
   | nil=>rw[hw,argsR,if_neg (by simp[isT])] at hk4;exact hk4.at (by (repeat (first|refine St.gx_gs ?_ hfree|refine St.gx_T hfree ?_|exact gA8 _ _|refine St.gx_r ?_|refine gA7 (by first|simp only[hb2,hb3]|assumption) ?_|refine St.gx_T (by first|simp only[hb2,hb3]|assumption) ?_))) (by simp only[gA1,gA2,gA3,gA6,ne_eq,gA9,reduceIte,hb2,e2,hb3,e3]<;>(first|done|rfl|assumption))
   | cons t w =>
    obtain ⟨g1,g2,g3,g4⟩:=drop_get hw;rw[hw,argsR,if_neg (by rw[← hw,hx];simp),Rd.bind_to] at hk4;simp only[go_sem,hb2,e2,hb3,e3];(intro b4 hb4;try simp only[gD6,gA6,ne_eq] at hb4);have e4:=St.ne_of hr (by first|exact hb4|exact hb4.2|exact hb4.2.2|exact hb4.2.2.2|exact hb4.2.2.2.2|exact hb4.2.2.2.2.2|exact hb4.2.2.2.2.2.2);simp only[go_sem,hb2,e2,hb3,e3,hb4,e4]
    have hsome:(t.free=true→¬ 8≤ar.length)→(nameR fin (T.drop i2) n).to (fun a w n=>(argsR fin k (ar++[a]) w n).to (fun ar w n =>
      (nameR fin w n).to (fun y w n=>PK T i (fun j m=>s.setO r (psO T fin d first j m)) Opr.enc KV ⟨x1,ar,y,[],0,0,[]⟩ w n) (PB s r Kp)) (PB s r Kp)) (PB s r Kp):=fun h=>by
     rw[hw];simp only[someR] at hk4;rw[if_neg (fun hc=>h hc.1 hc.2)] at hk4;exact hk4
    cases c1:decide (t.kind=1)
    ·have hk5:=hsome (fun hf=>by simp[Tok.free,c1] at hf);simp only[go_sem,hb2,e2,hb3,e3,hb4,e4,c1];(refine draw_ok (V:=[0,2,3,4,13,24]) (OT.l [0,1,2,3,4,5,6,7] .nil) [(3,[1])] mixed_cx (by decide +kernel) ?_;simp only[go_sem,hb2,e2,hb3,e3,hb4,e4]);(refine name_den (T:=T) (fin:=fin) (d:=d) (first:=first) (i:=i2) (n:=n) (by simp only[gA1,gA2,gA3,gA6,ne_eq,gA9,reduceIte,hb2,e2,hb3,e3,hb4,e4]<;>(first|done|rfl|assumption)) hi2 hT (Rd.to_mono hk5 (fun x6 w6 m6 hk6 hlt6 hw6 hm6=>?_) (fun f h=>PB.mk (by (repeat (first|refine St.gx_gs ?_ hfree|refine St.gx_T hfree ?_|exact gA8 _ _|refine St.gx_r ?_|refine gA7 (by first|simp only[hb2,hb3,hb4]|assumption) ?_|refine St.gx_T (by first|simp only[hb2,hb3,hb4]|assumption) ?_))) h));subst m6;rw[← hw6] at hk6);simp only[go_sem,hb2,e2,hb3,e3,hb4,e4];refine ⟨by decide,fun y hy=>by simp only[List.mem_singleton] at hy;subst hy;rfl,appL_gv rfl rfl (by rw[gC4];exact gs_ok fun e=>by rw[hnil e];rfl) (fun y hy=>?_) (by simp only[gC4,gC1,gC3];omega) (fun t ht=>?_)⟩
     ·simp only[List.mem_map] at hy;obtain ⟨q,_,rfl⟩:=hy;rfl
     have hft:=gs_free ht hfree;rw[gs_set ht];simp only[go_sem,hb2,e2,hb3,e3,hb4,e4];refine ⟨(some t,ar++[x6],i2+1),⟨fun e=>(by cases e),fun t' e=>by cases e;exact hft,by simp only;omega,by simp only;omega,by simp only[gC2,gC1,gC3];omega,k,by simp only;omega,hk6⟩,by simp only;omega,?_⟩
     ·simp only[funS,gv_some,List.map_append,List.map_cons,List.map_nil,gC2,gC1,gC3,gC4];exact (by (refine gel_ge ?_;repeat (first|exact gel_refl _ _ _|refine gel_gs_gs ?_|refine gel_to_gs gs_self ?_|refine gB1 ?_|refine gB2 ?_|refine gel_gs ?_ hfree|refine gel_newT hfree ?_|refine gel_set (by simp only[gA1,gA2,gA3,gA6,ne_eq,gA9,reduceIte,hb2,e2,hb3,e3,hb4,e4]<;>(first|done|rfl|assumption)) ?_|refine gB3 ?_|refine gel_new (by first|simp only[hb2,hb3,hb4]|assumption) ?_)))
    simp only[go_sem,hb2,e2,hb3,e3,hb4,e4,c1];refine isReserved145_den _ _ _ _ ?_;simp only[go_sem,hb2,e2,hb3,e3,hb4,e4];cases c2:decide (t.text∈reservedW);rotate_left
    ·have hk5:=hsome (fun hf=>by simp[Tok.free,c2] at hf);simp only[go_sem,hb2,e2,hb3,e3,hb4,e4,c2];(refine draw_ok (V:=[0,2,3,4,13,24]) (OT.l [0,1,2,3,4,5,6,7] .nil) [(3,[1])] mixed_cx (by decide +kernel) ?_;simp only[go_sem,hb2,e2,hb3,e3,hb4,e4]);(refine name_den (T:=T) (fin:=fin) (d:=d) (first:=first) (i:=i2) (n:=n) (by simp only[gA1,gA2,gA3,gA6,ne_eq,gA9,reduceIte,hb2,e2,hb3,e3,hb4,e4]<;>(first|done|rfl|assumption)) hi2 hT (Rd.to_mono hk5 (fun x6 w6 m6 hk6 hlt6 hw6 hm6=>?_) (fun f h=>PB.mk (by (repeat (first|refine St.gx_gs ?_ hfree|refine St.gx_T hfree ?_|exact gA8 _ _|refine St.gx_r ?_|refine gA7 (by first|simp only[hb2,hb3,hb4]|assumption) ?_|refine St.gx_T (by first|simp only[hb2,hb3,hb4]|assumption) ?_))) h));subst m6;rw[← hw6] at hk6);simp only[go_sem,hb2,e2,hb3,e3,hb4,e4];refine ⟨by decide,fun y hy=>by simp only[List.mem_singleton] at hy;subst hy;rfl,appL_gv rfl rfl (by rw[gC4];exact gs_ok fun e=>by rw[hnil e];rfl) (fun y hy=>?_) (by simp only[gC4,gC1,gC3];omega) (fun t ht=>?_)⟩
     ·simp only[List.mem_map] at hy;obtain ⟨q,_,rfl⟩:=hy;rfl
     have hft:=gs_free ht hfree;rw[gs_set ht];simp only[go_sem,hb2,e2,hb3,e3,hb4,e4];refine ⟨(some t,ar++[x6],i2+1),⟨fun e=>(by cases e),fun t' e=>by cases e;exact hft,by simp only;omega,by simp only;omega,by simp only[gC2,gC1,gC3];omega,k,by simp only;omega,hk6⟩,by simp only;omega,?_⟩
     ·simp only[funS,gv_some,List.map_append,List.map_cons,List.map_nil,gC2,gC1,gC3,gC4];exact (by (refine gel_ge ?_;repeat (first|exact gel_refl _ _ _|refine gel_gs_gs ?_|refine gel_to_gs gs_self ?_|refine gB1 ?_|refine gB2 ?_|refine gel_gs ?_ hfree|refine gel_newT hfree ?_|refine gel_set (by simp only[gA1,gA2,gA3,gA6,ne_eq,gA9,reduceIte,hb2,e2,hb3,e3,hb4,e4]<;>(first|done|rfl|assumption)) ?_|refine gB3 ?_|refine gel_new (by first|simp only[hb2,hb3,hb4]|assumption) ?_)))
    simp only[go_sem,hb2,e2,hb3,e3,hb4,e4,c2,lenS_gv hg];refine room_den (T:=T) (fin:=fin) (d:=d) (first:=first) (i:=i2) (n:=n) _ _ (by simp only[gA1,gA2,gA3,gA6,ne_eq,gA9,reduceIte,hb2,e2,hb3,e3,hb4,e4]<;>(first|done|rfl|assumption)) hi2 ?_;by_cases h8:8≤ar.length
    ·rw[if_pos (by omega),hw];simp only[someR] at hk4;rw[if_pos ⟨by simp[Tok.free,c1,c2],h8⟩] at hk4;exact PB.mk (by (repeat (first|refine St.gx_gs ?_ hfree|refine St.gx_T hfree ?_|exact gA8 _ _|refine St.gx_r ?_|refine gA7 (by first|simp only[hb2,hb3,hb4]|assumption) ?_|refine St.gx_T (by first|simp only[hb2,hb3,hb4]|assumption) ?_))) hk4
    rw[if_neg (by omega)];have hk5:=hsome (fun _=>h8);simp only[go_sem,hb2,e2,hb3,e3,hb4,e4];(refine draw_ok (V:=[0,2,3,4,13,24]) (OT.l [0,1,2,3,4,5,6,7] .nil) [(3,[1])] mixed_cx (by decide +kernel) ?_;simp only[go_sem,hb2,e2,hb3,e3,hb4,e4]);(refine name_den (T:=T) (fin:=fin) (d:=d) (first:=first) (i:=i2) (n:=n) (by simp only[gA1,gA2,gA3,gA6,ne_eq,gA9,reduceIte,hb2,e2,hb3,e3,hb4,e4]<;>(first|done|rfl|assumption)) hi2 hT (Rd.to_mono hk5 (fun x6 w6 m6 hk6 hlt6 hw6 hm6=>?_) (fun f h=>PB.mk (by (repeat (first|refine St.gx_gs ?_ hfree|refine St.gx_T hfree ?_|exact gA8 _ _|refine St.gx_r ?_|refine gA7 (by first|simp only[hb2,hb3,hb4]|assumption) ?_|refine St.gx_T (by first|simp only[hb2,hb3,hb4]|assumption) ?_))) h));subst m6;rw[← hw6] at hk6);simp only[go_sem,hb2,e2,hb3,e3,hb4,e4];refine ⟨by decide,fun y hy=>by simp only[List.mem_singleton] at hy;subst hy;rfl,appL_gv rfl rfl (by rw[gC4];exact gs_ok fun e=>by rw[hnil e];rfl) (fun y hy=>?_) (by simp only[gC4,gC1,gC3];omega) (fun t ht=>?_)⟩
    ·simp only[List.mem_map] at hy;obtain ⟨q,_,rfl⟩:=hy;rfl
    have hft:=gs_free ht hfree;rw[gs_set ht];simp only[go_sem,hb2,e2,hb3,e3,hb4,e4];refine ⟨(some t,ar++[x6],i2+1),⟨fun e=>(by cases e),fun t' e=>by cases e;exact hft,by simp only;omega,by simp only;omega,by simp only[gC2,gC1,gC3];omega,k,by simp only;omega,hk6⟩,by simp only;omega,?_⟩
    ·simp only[funS,gv_some,List.map_append,List.map_cons,List.map_nil,gC2,gC1,gC3,gC4];exact (by (refine gel_ge ?_;repeat (first|exact gel_refl _ _ _|refine gel_gs_gs ?_|refine gel_to_gs gs_self ?_|refine gB1 ?_|refine gB2 ?_|refine gel_gs ?_ hfree|refine gel_newT hfree ?_|refine gel_set (by simp only[gA1,gA2,gA3,gA6,ne_eq,gA9,reduceIte,hb2,e2,hb3,e3,hb4,e4]<;>(first|done|rfl|assumption)) ?_|refine gB3 ?_|refine gel_new (by first|simp only[hb2,hb3,hb4]|assumption) ?_)))
end
end Go.AV
end
section
namespace Go.AV
open Go Go.Proofs
def nv (es:List A):A:=match es with
 | []=>.nils
 | x::l=>.list none (x::l)
@[go_sem] theorem nv_cells (es:List A):(nv es).cells=[nv es]:=by cases es<;>rfl
@[go_sem] theorem nv_one (es:List A):(nv es).one=true:=by cases es<;>rfl
@[go_sem] theorem nv_pen (s:St) (es:List A):penV s (nv es)=nv es:=by cases es<;>rfl
@[go_sem] theorem lenS_nv (es:List A):lenS (nv es)=some (.int .i64 es.length):=by cases es<;>rfl
theorem nv_le (es:List A):A.le (nv es) (.list none es):=by
 cases es with
 | nil=>exact A.le.nil
 | cons x l=>exact A.le.refl _
def opC (o:Opr) (aA pA:A):List A:=[.str o.name,aA,.str o.sort,pA,.int .i64 o.prec,.int .i64 o.assoc,nv (o.strict.map (.int .i64))]
attribute [go_sem] opC
theorem loopR_ne {α:Type} (fin:Fault) (sep:Str) (one:List α→List Tok→Nat→Rd α):∀ (f:Nat) (a:List α) (w:List Tok) (n:Nat) (p:List α→List Tok→Nat→Prop) (b:Fault→Prop),
  (loopR fin sep (fun acc w n=>(one acc w n).bind fun a w n=>.ok (acc++[a]) w n) f a w n).to p b →
  (loopR fin sep (fun acc w n=>(one acc w n).bind fun a w n=>.ok (acc++[a]) w n) f a w n).to (fun l w n=>l≠[]∧p l w n) b
 | 0,a,w,n,p,b,h=>h
 | f+1,a,w,n,p,b,h=>by
  simp only[loopR,Rd.bind_to] at h ⊢;refine Rd.to_mono h (fun x w n h=>?_) (fun _ h=>h);simp only[Rd.ok_to] at h ⊢;split
  ·rename_i e;rw[if_pos e] at h;exact loopR_ne fin sep one f (a++[x]) w.tail n p b h
  ·rename_i e;rw[if_neg e] at h;exact ⟨by simp,h⟩
section
variable {T:List Tok} {fin:Fault} {d:Dc} {first:Tok} {i n:Nat} {s:St} {r:Nat} {KV Kp:St→A→Prop}
theorem PB.og {s1:St} {L M:List Nat} {f:Fault} (hr:r∈L) (hg:s1.gel s L M) (h:∀ s1 o,s1.gel s L M→s1.getO r=some o→Kp s1 (.iface 36 f.enc)):PB s1 r (DK Kp) f :=
 fun o=>DK.here (h _ o (gel_in hr hg) (by rw[gA1,if_pos rfl]))
theorem attrs1_den (hT:TOk T) (b2:Nat) (hr:s.getO r=some (psO T fin d first i n)) (h2:s.getO b2=some (.cells 74 [.ptr r 0])) (hi:i≤T.length)
  (hk:(numberR fin 8 (T.drop i) n).to (fun x w n'=>i+1≤T.length→T.drop (i+1)=w→n'=n→KV (s.setO r (psO T fin d first (i+1) n)) (.int .i64 x)) (PB s r Kp)):Den cx 283 [.ptr b2 0] KV Kp s:=by
 refine Den.drop ?_;(refine Den.of_body (C:=cx) Tryz.func283 rfl rfl (gC6 rfl) ?_;refine wpC_ok (V:=[0,1]) _ _ _ _ ?_;simp only[go_sem,Tryz.ntmps283,Tryz.f283]);simp only[go_sem,h2];refine pnumber_den 8 hr hi hT (Rd.to_mono hk (fun x w m h a b c=>?_) (fun f h=>PB.mk (gA8 _ _) h));simp only[go_sem];exact DK.here (h a b c)
theorem attrs_den (hT:TOk T) (b:Nat) (aA pA:A) (ha:aA.one=true) (hp:pA.one=true) (o:Opr) (k:Nat) (hr:s.getO r=some (psO T fin d first i n)) (hb:s.getO b=some (.cells 73 (opC o aA pA))) (hne:b≠r) (hi:i≤T.length) (hn:n≤2000) (hik:T.length-i<k)
  (hk : (attrsR fin k o (T.drop i) n).to (fun o' w n' => ∀ j,i ≤ j → j ≤ T.length → T.drop j = w → n' ≤ 2000 → KV ((s.setO b (.cells 73 (opC o' aA pA))).setO r (psO T fin d first j n')) (.tuple []))
   (fun f=>∀ s1 x,s1.gel s [b,r] []→s1.getO r=some x→Kp s1 (.iface 36 f.enc))):Den cx 221 [.ptr r 0,.ptr b 0] KV Kp s:=by
 have hlenT:=hT.len;refine Den.drop ?_;(refine Den.of_body (C:=cx) Tryz.func221 rfl rfl (gC6 rfl) ?_;refine wpC_ok (V:=[0,1,2,4,7,11,14,21,63,74,87,94,99]) _ _ _ _ ?_;simp only[go_sem,Tryz.ntmps221,Tryz.f221]);(intro b2 hb2;try simp only[gD6,gA6,ne_eq] at hb2);have e2:=St.ne_of hr (by first|exact hb2|exact hb2.2|exact hb2.2.2|exact hb2.2.2.2|exact hb2.2.2.2.2|exact hb2.2.2.2.2.2|exact hb2.2.2.2.2.2.2);have e2b:=St.ne_of hb hb2;simp only[go_sem,hb2,e2,hne,hne.symm,e2b,ha,hp]
 refine Ex.loop (ι:=Opr × Nat × Nat × Nat) (fun c=>[(0,.ptr r 0),(1,.ptr b 0),(2,.ptr b2 0)]) (fun c=>((s.setO b2 (.cells 74 [.ptr r 0])).setO b (.cells 73 (opC c.1 aA pA))).setO r (psO T fin d first c.2.1 c.2.2.1))
  (fun c => i ≤ c.2.1 ∧ c.2.1 ≤ T.length ∧ c.2.2.1 ≤ 2000 ∧ T.length - c.2.1 < c.2.2.2 ∧ (attrsR fin c.2.2.2 c.1 (T.drop c.2.1) c.2.2.1).to (fun o' w n' => ∀ j,i ≤ j → j ≤ T.length → T.drop j = w → n' ≤ 2000 → KV ((s.setO b (.cells 73 (opC o' aA pA))).setO r (psO T fin d first j n')) (.tuple []))
   (fun f=>∀ s1 x,s1.gel s [b,r] []→s1.getO r=some x→Kp s1 (.iface 36 f.enc)))
  (fun c=>T.length-c.2.1) (o,i,n,k) ?_ ?_ ?_ ?_
 ·exact ⟨Nat.le_refl _,hi,hn,hik,hk⟩
 ·simp only[go_sem,hb2,e2,hne,hne.symm,e2b,ha,hp]
 ·refine gel_ge (gel_set ?_ (gel_set ?_ (gel_refl _ _ _)))
  ·rw[gA1,if_neg e2.2];exact hr
  ·rw[gA1,if_neg e2b.2];exact hb
 ·rintro ⟨o,i2,n,k⟩ ⟨hi1,hi2,hn,hk3,hk4⟩;simp only at hi1 hi2 hn hk3 hk4;obtain ⟨k,rfl⟩:∃ k',k=k'+1:=⟨k-1,by omega⟩
  have hbr:r∈[b,r]:=by simp
  refine wpC_ok (V:=[0,1,2,4,7,11,14,21,63,74,87,94,99]) _ _ _ _ ?_;simp only[go_sem,hb2,e2,hne,hne.symm,e2b,ha,hp];refine is_den (T:=T) (fin:=fin) (d:=d) (first:=first) (i:=i2) (n:=n) _ (by simp only[gA1,gA2,gA3,gA6,ne_eq,gA9,reduceIte,hb2,e2,hne,hne.symm,e2b,ha,hp]<;>(first|done|rfl|assumption)) hi2 ?_;rw[attrsR.eq_def] at hk4;simp only at hk4;cases hx:isT [46] (T.drop i2) with
  | true =>
   rw[if_pos hx,Rd.ok_to] at hk4;simp only[go_sem,hb2,e2,hne,hne.symm,e2b,ha,hp];exact DK.st (hk4 i2 hi1 hi2 rfl hn) (by (refine gel_ge ?_;repeat (first|exact gel_refl _ _ _|refine gel_gs_gs ?_|refine gel_to_gs gs_self ?_|refine gB1 ?_|refine gB2 ?_|refine gel_set (by simp only[gA1,gA2,gA3,gA6,ne_eq,gA9,reduceIte,hb2,e2,hne,hne.symm,e2b,ha,hp]<;>(first|done|rfl|assumption)) ?_|refine gB3 ?_|refine gel_new (by first|simp only[hb2]|assumption) ?_)))
  | false =>
   rw[if_neg (by rw[hx];simp)] at hk4;simp only[go_sem,hb2,e2,hne,hne.symm,e2b,ha,hp];refine peek_den (T:=T) (fin:=fin) (d:=d) (first:=first) (i:=i2) (n:=n) (by simp only[gA1,gA2,gA3,gA6,ne_eq,gA9,reduceIte,hb2,e2,hne,hne.symm,e2b,ha,hp]<;>(first|done|rfl|assumption)) hi2 ?_;cases hw:T.drop i2 with
   | nil=>rw[hw] at hk4;exact DK.here (hk4 _ (psO T fin d first i2 n) (by (repeat (first|exact gel_refl _ _ _|refine gel_gs_gs ?_|refine gel_to_gs gs_self ?_|refine gB1 ?_|refine gB2 ?_|refine gel_set (by simp only[gA1,gA2,gA3,gA6,ne_eq,gA9,reduceIte,hb2,e2,hne,hne.symm,e2b,ha,hp]<;>(first|done|rfl|assumption)) ?_|refine gB3 ?_|refine gel_new (by first|simp only[hb2]|assumption) ?_))) (by simp only[gA1,gA2,gA3,gA6,ne_eq,gA9,reduceIte,hb2,e2,hne,hne.symm,e2b,ha,hp]<;>(first|done|rfl|assumption)))
   | cons t w =>
    obtain ⟨g1,g2,g3,g4⟩:=drop_get hw;rw[hw] at hk4;simp only at hk4;simp only[go_sem,hb2,e2,hne,hne.symm,e2b,ha,hp];(intro b4 hb4;try simp only[gD6,ne_eq] at hb4);simp only[go_sem,hb2,e2,hne,hne.symm,e2b,ha,hp,hb4]
    have bad:∀ (KV':St→A→Prop) (c:Int) (s1:St),s1.gel s [b,r] []→s1.getO r=some (psO T fin d first i2 n)→(∀ s1 x,s1.gel s [b,r] []→s1.getO r=some x→Kp s1 (.iface 36 (failAt fin c (t::w)).enc))→Den cx 42 [.ptr r 0,.int .i64 c] KV' (DK Kp) s1:=by
     intro KV' c s1 hg1 hr1 hf;refine fail_den c hr1 hi2 hT ?_;rw[hw];exact DK.here (hf _ _ hg1 hr1)
    by_cases x1:t.text=[112,114,101,99]
    ·have d1:decide (t.text=[112,114,101,99])=true:=by rw[x1];rfl
     have d2:decide (t.text=[108,101,102,116])=false:=by rw[x1];rfl
     have d3:decide (t.text=[114,105,103,104,116])=false:=by rw[x1];rfl
     have d4:decide (t.text=[115,116,114,105,99,116])=false:=by rw[x1];rfl
     simp only[go_sem,hb2,e2,hne,hne.symm,e2b,ha,hp,hb4,d1,d2,d3,d4];cases c1:decide (t.kind=1)
     ·rw[if_pos (by simpa using c1),Rd.bad_to] at hk4;simp only[go_sem,hb2,e2,hne,hne.symm,e2b,ha,hp,hb4,c1];exact bad _ _ _ (by (repeat (first|exact gel_refl _ _ _|refine gel_gs_gs ?_|refine gel_to_gs gs_self ?_|refine gB1 ?_|refine gB2 ?_|refine gel_set (by simp only[gA1,gA2,gA3,gA6,ne_eq,gA9,reduceIte,hb2,e2,hne,hne.symm,e2b,ha,hp,hb4]<;>(first|done|rfl|assumption)) ?_|refine gB3 ?_|refine gel_new (by first|simp only[hb2,hb4]|assumption) ?_))) (by simp only[gA1,gA2,gA3,gA6,ne_eq,gA9,reduceIte,hb2,e2,hne,hne.symm,e2b,ha,hp,hb4]<;>(first|done|rfl|assumption)) hk4
     rw[if_neg (by simpa using c1),if_pos x1] at hk4;simp only[go_sem,hb2,e2,hne,hne.symm,e2b,ha,hp,hb4,c1,d1,d2,d3,d4];cases c2:decide (0<o.prec)
     ·rw[if_neg (by simpa using c2),Rd.bind_to,← g3] at hk4;simp only[go_sem,hb2,e2,hne,hne.symm,e2b,ha,hp,hb4,c1,c2,d1,d2,d3,d4,wrap1 i2 (by omega)];refine pnumber_den (T:=T) (fin:=fin) (d:=d) (first:=first) (i:=i2+1) (n:=n) 20 (by simp only[gA1,gA2,gA3,gA6,ne_eq,gA9,reduceIte,hb2,e2,hne,hne.symm,e2b,ha,hp,hb4]<;>(first|done|rfl|assumption)) g2 hT (Rd.to_mono hk4 (fun x w m hk5 hlt hw hm=>?_) (fun f h=>PB.og hbr (by (repeat (first|exact gel_refl _ _ _|refine gel_gs_gs ?_|refine gel_to_gs gs_self ?_|refine gB1 ?_|refine gB2 ?_|refine gel_set (by simp only[gA1,gA2,gA3,gA6,ne_eq,gA9,reduceIte,hb2,e2,hne,hne.symm,e2b,ha,hp,hb4]<;>(first|done|rfl|assumption)) ?_|refine gB3 ?_|refine gel_new (by first|simp only[hb2,hb4]|assumption) ?_))) h));subst m;rw[← hw] at hk5;simp only[go_sem,hb2,e2,hne,hne.symm,e2b,ha,hp,hb4];refine ⟨({ o with prec:=x },i2+1+1,n,k),⟨by simp only;omega,by simp only;omega,hn,by simp only;omega,hk5⟩,by simp only;omega,(by (refine gel_ge ?_;repeat (first|exact gel_refl _ _ _|refine gel_gs_gs ?_|refine gel_to_gs gs_self ?_|refine gB1 ?_|refine gB2 ?_|refine gel_set (by simp only[gA1,gA2,gA3,gA6,ne_eq,gA9,reduceIte,hb2,e2,hne,hne.symm,e2b,ha,hp,hb4]<;>(first|done|rfl|assumption)) ?_|refine gB3 ?_|refine gel_new (by first|simp only[hb2,hb4]|assumption) ?_)))⟩
     ·rw[if_pos (by simpa using c2),Rd.bad_to] at hk4;simp only[go_sem,hb2,e2,hne,hne.symm,e2b,ha,hp,hb4,c1,c2,d1,d2,d3,d4];exact bad _ _ _ (by (repeat (first|exact gel_refl _ _ _|refine gel_gs_gs ?_|refine gel_to_gs gs_self ?_|refine gB1 ?_|refine gB2 ?_|refine gel_set (by simp only[gA1,gA2,gA3,gA6,ne_eq,gA9,reduceIte,hb2,e2,hne,hne.symm,e2b,ha,hp,hb4]<;>(first|done|rfl|assumption)) ?_|refine gB3 ?_|refine gel_new (by first|simp only[hb2,hb4]|assumption) ?_))) (by simp only[gA1,gA2,gA3,gA6,ne_eq,gA9,reduceIte,hb2,e2,hne,hne.symm,e2b,ha,hp,hb4]<;>(first|done|rfl|assumption)) hk4
    by_cases x2:t.text=[108,101,102,116]
    ·have d1:decide (t.text=[112,114,101,99])=false:=by rw[x2];rfl
     have d2:decide (t.text=[108,101,102,116])=true:=by rw[x2];rfl
     have d3:decide (t.text=[114,105,103,104,116])=false:=by rw[x2];rfl
     have d4:decide (t.text=[115,116,114,105,99,116])=false:=by rw[x2];rfl
     simp only[go_sem,hb2,e2,hne,hne.symm,e2b,ha,hp,hb4,d1,d2,d3,d4];cases c1:decide (t.kind=1)
     ·rw[if_pos (by simpa using c1),Rd.bad_to] at hk4;simp only[go_sem,hb2,e2,hne,hne.symm,e2b,ha,hp,hb4,c1];exact bad _ _ _ (by (repeat (first|exact gel_refl _ _ _|refine gel_gs_gs ?_|refine gel_to_gs gs_self ?_|refine gB1 ?_|refine gB2 ?_|refine gel_set (by simp only[gA1,gA2,gA3,gA6,ne_eq,gA9,reduceIte,hb2,e2,hne,hne.symm,e2b,ha,hp,hb4]<;>(first|done|rfl|assumption)) ?_|refine gB3 ?_|refine gel_new (by first|simp only[hb2,hb4]|assumption) ?_))) (by simp only[gA1,gA2,gA3,gA6,ne_eq,gA9,reduceIte,hb2,e2,hne,hne.symm,e2b,ha,hp,hb4]<;>(first|done|rfl|assumption)) hk4
     rw[if_neg (by simpa using c1),if_neg x1,if_pos x2] at hk4;simp only[go_sem,hb2,e2,hne,hne.symm,e2b,ha,hp,hb4,c1,d1,d2,d3,d4];cases c2:decide (o.assoc=0)
     ·rw[if_neg (by simpa using c2),Rd.bad_to] at hk4;simp only[go_sem,hb2,e2,hne,hne.symm,e2b,ha,hp,hb4,c1,c2,d1,d2,d3,d4];exact bad _ _ _ (by (repeat (first|exact gel_refl _ _ _|refine gel_gs_gs ?_|refine gel_to_gs gs_self ?_|refine gB1 ?_|refine gB2 ?_|refine gel_set (by simp only[gA1,gA2,gA3,gA6,ne_eq,gA9,reduceIte,hb2,e2,hne,hne.symm,e2b,ha,hp,hb4]<;>(first|done|rfl|assumption)) ?_|refine gB3 ?_|refine gel_new (by first|simp only[hb2,hb4]|assumption) ?_))) (by simp only[gA1,gA2,gA3,gA6,ne_eq,gA9,reduceIte,hb2,e2,hne,hne.symm,e2b,ha,hp,hb4]<;>(first|done|rfl|assumption)) hk4
     ·rw[if_pos (by simpa using c2),← g3] at hk4;simp only[go_sem,hb2,e2,hne,hne.symm,e2b,ha,hp,hb4,c1,c2,d1,d2,d3,d4,wrap1 i2 (by omega)];refine ⟨({ o with assoc:=1 },i2+1,n,k),⟨by simp only;omega,by simp only;omega,hn,by simp only;omega,hk4⟩,by simp only;omega,(by (refine gel_ge ?_;repeat (first|exact gel_refl _ _ _|refine gel_gs_gs ?_|refine gel_to_gs gs_self ?_|refine gB1 ?_|refine gB2 ?_|refine gel_set (by simp only[gA1,gA2,gA3,gA6,ne_eq,gA9,reduceIte,hb2,e2,hne,hne.symm,e2b,ha,hp,hb4]<;>(first|done|rfl|assumption)) ?_|refine gB3 ?_|refine gel_new (by first|simp only[hb2,hb4]|assumption) ?_)))⟩
    by_cases x3:t.text=[114,105,103,104,116]
    ·have d1:decide (t.text=[112,114,101,99])=false:=by rw[x3];rfl
     have d2:decide (t.text=[108,101,102,116])=false:=by rw[x3];rfl
     have d3:decide (t.text=[114,105,103,104,116])=true:=by rw[x3];rfl
     have d4:decide (t.text=[115,116,114,105,99,116])=false:=by rw[x3];rfl
     simp only[go_sem,hb2,e2,hne,hne.symm,e2b,ha,hp,hb4,d1,d2,d3,d4];cases c1:decide (t.kind=1)
     ·rw[if_pos (by simpa using c1),Rd.bad_to] at hk4;simp only[go_sem,hb2,e2,hne,hne.symm,e2b,ha,hp,hb4,c1];exact bad _ _ _ (by (repeat (first|exact gel_refl _ _ _|refine gel_gs_gs ?_|refine gel_to_gs gs_self ?_|refine gB1 ?_|refine gB2 ?_|refine gel_set (by simp only[gA1,gA2,gA3,gA6,ne_eq,gA9,reduceIte,hb2,e2,hne,hne.symm,e2b,ha,hp,hb4]<;>(first|done|rfl|assumption)) ?_|refine gB3 ?_|refine gel_new (by first|simp only[hb2,hb4]|assumption) ?_))) (by simp only[gA1,gA2,gA3,gA6,ne_eq,gA9,reduceIte,hb2,e2,hne,hne.symm,e2b,ha,hp,hb4]<;>(first|done|rfl|assumption)) hk4
     rw[if_neg (by simpa using c1),if_neg x1,if_neg x2,if_pos x3] at hk4;simp only[go_sem,hb2,e2,hne,hne.symm,e2b,ha,hp,hb4,c1,d1,d2,d3,d4];cases c2:decide (o.assoc=0)
     ·rw[if_neg (by simpa using c2),Rd.bad_to] at hk4;simp only[go_sem,hb2,e2,hne,hne.symm,e2b,ha,hp,hb4,c1,c2,d1,d2,d3,d4];exact bad _ _ _ (by (repeat (first|exact gel_refl _ _ _|refine gel_gs_gs ?_|refine gel_to_gs gs_self ?_|refine gB1 ?_|refine gB2 ?_|refine gel_set (by simp only[gA1,gA2,gA3,gA6,ne_eq,gA9,reduceIte,hb2,e2,hne,hne.symm,e2b,ha,hp,hb4]<;>(first|done|rfl|assumption)) ?_|refine gB3 ?_|refine gel_new (by first|simp only[hb2,hb4]|assumption) ?_))) (by simp only[gA1,gA2,gA3,gA6,ne_eq,gA9,reduceIte,hb2,e2,hne,hne.symm,e2b,ha,hp,hb4]<;>(first|done|rfl|assumption)) hk4
     ·rw[if_pos (by simpa using c2),← g3] at hk4;simp only[go_sem,hb2,e2,hne,hne.symm,e2b,ha,hp,hb4,c1,c2,d1,d2,d3,d4,wrap1 i2 (by omega)];refine ⟨({ o with assoc:=2 },i2+1,n,k),⟨by simp only;omega,by simp only;omega,hn,by simp only;omega,hk4⟩,by simp only;omega,(by (refine gel_ge ?_;repeat (first|exact gel_refl _ _ _|refine gel_gs_gs ?_|refine gel_to_gs gs_self ?_|refine gB1 ?_|refine gB2 ?_|refine gel_set (by simp only[gA1,gA2,gA3,gA6,ne_eq,gA9,reduceIte,hb2,e2,hne,hne.symm,e2b,ha,hp,hb4]<;>(first|done|rfl|assumption)) ?_|refine gB3 ?_|refine gel_new (by first|simp only[hb2,hb4]|assumption) ?_)))⟩
    by_cases x4:t.text=[115,116,114,105,99,116]
    ·have d1:decide (t.text=[112,114,101,99])=false:=by rw[x4];rfl
     have d2:decide (t.text=[108,101,102,116])=false:=by rw[x4];rfl
     have d3:decide (t.text=[114,105,103,104,116])=false:=by rw[x4];rfl
     have d4:decide (t.text=[115,116,114,105,99,116])=true:=by rw[x4];rfl
     simp only[go_sem,hb2,e2,hne,hne.symm,e2b,ha,hp,hb4,d1,d2,d3,d4];cases c1:decide (t.kind=1)
     ·rw[if_pos (by simpa using c1),Rd.bad_to] at hk4;simp only[go_sem,hb2,e2,hne,hne.symm,e2b,ha,hp,hb4,c1];exact bad _ _ _ (by (repeat (first|exact gel_refl _ _ _|refine gel_gs_gs ?_|refine gel_to_gs gs_self ?_|refine gB1 ?_|refine gB2 ?_|refine gel_set (by simp only[gA1,gA2,gA3,gA6,ne_eq,gA9,reduceIte,hb2,e2,hne,hne.symm,e2b,ha,hp,hb4]<;>(first|done|rfl|assumption)) ?_|refine gB3 ?_|refine gel_new (by first|simp only[hb2,hb4]|assumption) ?_))) (by simp only[gA1,gA2,gA3,gA6,ne_eq,gA9,reduceIte,hb2,e2,hne,hne.symm,e2b,ha,hp,hb4]<;>(first|done|rfl|assumption)) hk4
     rw[if_neg (by simpa using c1),if_neg x1,if_neg x2,if_neg x3,if_pos x4] at hk4;simp only[go_sem,hb2,e2,hne,hne.symm,e2b,ha,hp,hb4,c1,d1,d2,d3,d4];cases c2:decide ((0:Int)<(o.strict.length:Int));rotate_left
     ·rw[if_pos (by simpa using c2),Rd.bad_to] at hk4;simp only[go_sem,hb2,e2,hne,hne.symm,e2b,ha,hp,hb4,c1,c2,d1,d2,d3,d4];exact bad _ _ _ (by (repeat (first|exact gel_refl _ _ _|refine gel_gs_gs ?_|refine gel_to_gs gs_self ?_|refine gB1 ?_|refine gB2 ?_|refine gel_set (by simp only[gA1,gA2,gA3,gA6,ne_eq,gA9,reduceIte,hb2,e2,hne,hne.symm,e2b,ha,hp,hb4]<;>(first|done|rfl|assumption)) ?_|refine gB3 ?_|refine gel_new (by first|simp only[hb2,hb4]|assumption) ?_))) (by simp only[gA1,gA2,gA3,gA6,ne_eq,gA9,reduceIte,hb2,e2,hne,hne.symm,e2b,ha,hp,hb4]<;>(first|done|rfl|assumption)) hk4
     rw[if_neg (by simpa using c2),Rd.bind_to,← g3] at hk4;simp only[go_sem,hb2,e2,hne,hne.symm,e2b,ha,hp,hb4,c1,c2,d1,d2,d3,d4,wrap1 i2 (by omega)];refine want_den (T:=T) (fin:=fin) (d:=d) (first:=first) (i:=i2+1) (n:=n) _ (by simp only[gA1,gA2,gA3,gA6,ne_eq,gA9,reduceIte,hb2,e2,hne,hne.symm,e2b,ha,hp,hb4]<;>(first|done|rfl|assumption)) g2 hT (Rd.to_mono hk4 (fun _ w m hk5 hlt5 hw hm=>?_) (fun f h=>PB.og hbr (by (repeat (first|exact gel_refl _ _ _|refine gel_gs_gs ?_|refine gel_to_gs gs_self ?_|refine gB1 ?_|refine gB2 ?_|refine gel_set (by simp only[gA1,gA2,gA3,gA6,ne_eq,gA9,reduceIte,hb2,e2,hne,hne.symm,e2b,ha,hp,hb4]<;>(first|done|rfl|assumption)) ?_|refine gB3 ?_|refine gel_new (by first|simp only[hb2,hb4]|assumption) ?_))) h));subst m;rw[← hw,Rd.bind_to] at hk5;simp only[go_sem,hb2,e2,hne,hne.symm,e2b,ha,hp,hb4]
     refine Den.weaken (St.ge_same (by simp only[gA1,gA2,gA3,gA6,ne_eq,gA9,reduceIte,hb2,e2,hne,hne.symm,e2b,ha,hp,hb4]<;>(first|done|rfl|assumption))) (plists282_den (fin:=fin) (d:=d) (fi:=first) (fun x:Int=>A.int .i64 x) (fun _=>rfl) (fun _=>rfl) hT (fun s'=>s'.getO b2=some (.cells 74 [.ptr r 0])) (fun _ _ _=>Iff.rfl)
      (numberR fin 8) 283 [] [.ptr b2 0] (hf_of (fun s' x hq => by rw [gA1,if_neg e2.1]; exact hq)
       (fun s' i' n' KV' Kp' hr' hq' hi' hn' hk'=>attrs1_den hT b2 hr' hq' hi' (Rd.to_mono hk' (fun _ _ _ h h1 h2 h3=>by subst h3;exact h (i'+1) (by omega) h1 h2 hn') (fun _ h=>h)))) (i2+1+1) n ?_ hlt5 hn ?_)
     ·exact (by simp only[gA1,gA2,gA3,gA6,ne_eq,gA9,reduceIte,hb2,e2,hne,hne.symm,e2b,ha,hp,hb4]<;>(first|done|rfl|assumption))
     refine Rd.to_mono (loopR_ne _ _ _ _ _ _ _ _ _ hk5) (fun l w m hk6 j hj hjT hw hm=>?_) (fun f h s1 x hg hr1=>DK.here (h _ _ ((gel_of_gx hg hbr).trans (by (repeat (first|exact gel_refl _ _ _|refine gel_gs_gs ?_|refine gel_to_gs gs_self ?_|refine gB1 ?_|refine gB2 ?_|refine gel_set (by simp only[gA1,gA2,gA3,gA6,ne_eq,gA9,reduceIte,hb2,e2,hne,hne.symm,e2b,ha,hp,hb4]<;>(first|done|rfl|assumption)) ?_|refine gB3 ?_|refine gel_new (by first|simp only[hb2,hb4]|assumption) ?_)))) hr1));obtain ⟨hl,hk6⟩:=hk6;subst hw;rw[Rd.bind_to] at hk6
     obtain ⟨x0,l0,rfl⟩:∃ x0 l0,l=x0::l0:=by
      cases l with
      | nil=>exact absurd rfl hl
      | cons a b=>exact ⟨a,b,rfl⟩
     simp only[go_sem,hb2,e2,hne,hne.symm,e2b,ha,hp,hb4];refine want_den (T:=T) (fin:=fin) (d:=d) (first:=first) (i:=j) (n:=m) _ (by simp only[gA1,gA2,gA3,gA6,ne_eq,gA9,reduceIte,hb2,e2,hne,hne.symm,e2b,ha,hp,hb4]<;>(first|done|rfl|assumption)) hjT hT (Rd.to_mono hk6 (fun _ w m' hk7 hlt7 hw hm'=>?_) (fun f h=>PB.og hbr (by (repeat (first|exact gel_refl _ _ _|refine gel_gs_gs ?_|refine gel_to_gs gs_self ?_|refine gB1 ?_|refine gB2 ?_|refine gel_set (by simp only[gA1,gA2,gA3,gA6,ne_eq,gA9,reduceIte,hb2,e2,hne,hne.symm,e2b,ha,hp,hb4]<;>(first|done|rfl|assumption)) ?_|refine gB3 ?_|refine gel_new (by first|simp only[hb2,hb4]|assumption) ?_))) h));subst m';rw[← hw] at hk7;simp only[go_sem,hb2,e2,hne,hne.symm,e2b,ha,hp,hb4];refine ⟨({ o with strict:=x0::l0 },j+1,m,k),⟨by simp only;omega,by simp only;omega,hm,by simp only;omega,hk7⟩,by simp only;omega,(by (refine gel_ge ?_;repeat (first|exact gel_refl _ _ _|refine gel_gs_gs ?_|refine gel_to_gs gs_self ?_|refine gB1 ?_|refine gB2 ?_|refine gel_set (by simp only[gA1,gA2,gA3,gA6,ne_eq,gA9,reduceIte,hb2,e2,hne,hne.symm,e2b,ha,hp,hb4]<;>(first|done|rfl|assumption)) ?_|refine gB3 ?_|refine gel_new (by first|simp only[hb2,hb4]|assumption) ?_)))⟩
    ·have d1:decide (t.text=[112,114,101,99])=false:=by simpa using x1
     have d2:decide (t.text=[108,101,102,116])=false:=by simpa using x2
     have d3:decide (t.text=[114,105,103,104,116])=false:=by simpa using x3
     have d4:decide (t.text=[115,116,114,105,99,116])=false:=by simpa using x4
     rw[if_neg x1,if_neg x2,if_neg x3,if_neg x4,ite_self,Rd.bad_to] at hk4;simp only[go_sem,hb2,e2,hne,hne.symm,e2b,ha,hp,hb4,d1,d2,d3,d4];exact bad _ _ _ (by (repeat (first|exact gel_refl _ _ _|refine gel_gs_gs ?_|refine gel_to_gs gs_self ?_|refine gB1 ?_|refine gB2 ?_|refine gel_set (by simp only[gA1,gA2,gA3,gA6,ne_eq,gA9,reduceIte,hb2,e2,hne,hne.symm,e2b,ha,hp,hb4]<;>(first|done|rfl|assumption)) ?_|refine gB3 ?_|refine gel_new (by first|simp only[hb2,hb4]|assumption) ?_))) (by simp only[gA1,gA2,gA3,gA6,ne_eq,gA9,reduceIte,hb2,e2,hne,hne.symm,e2b,ha,hp,hb4]<;>(first|done|rfl|assumption)) hk4
end
end Go.AV
end
