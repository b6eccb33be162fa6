/-
  Of DefStrings.
-/
import Derived.Test.YtamikhobdffnfaaGreatDoorSt22
set_option linter.all false
set_option maxRecDepth 99999
set_option maxHeartbeats 0
namespace Go.AV
open Go Go.Proofs Tryz
section
section
variable {T:List Tok} {fin:Fault} {d:Dc} {first:Tok} {i n:Nat} {s:St} {r:Nat} {KV Kp:St→A→Prop}
theorem aEc (hr:s.getO r=some (aN T fin d first i n)) (hk:KV s (.bool false)):Den cx 237 [.ptr r 0] KV Kp s:=by
 simp only[go_sem] at hr;(refine aO func237 [0,2] ?_;simp only[go_sem,ntmps237,f237]);simp only[go_sem,hr];exact aY hk
theorem aKn (hr:s.getO r=some (aN T fin d first i n)) (hk:KV s (.str [])):Den cx 238 [.ptr r 0] KV Kp s:=by
 simp only[go_sem] at hr;(refine aO func238 [0,2,12] ?_;simp only[go_sem,ntmps238,f238]);simp only[go_sem,hr];exact aY hk
theorem aEM {α:Type} (fin:Fault) (sep:aB) (one:List α→List Tok→Nat→Rd α):∀ (f:Nat) (a:List α) (l:List α) (w:List Tok) (n:Nat) (p:List α→List Tok→Nat→Prop) (b:Fault→Prop),
  (bZ fin sep (fun acc w n=>(one acc w n).bind fun a w n=>.ok (acc++[a]) w n) f a w n).to p b →
  (bZ fin sep (fun (c:List α × List α) w n=>((one c.1 w n).bind fun a w n=>Rd.ok (c.1++[a],a) w n).bind fun q w n=>.ok (q.1,c.2++[q.2]) w n) f (a,l) w n).to (fun c w n=>p c.1 w n) b
 | 0,a,l,w,n,p,b,h=>h
 | f+1,a,l,w,n,p,b,h=>by
  simp only[bZ,aX] at h ⊢;refine aI h (fun x w n h=>?_) (fun _ h=>h);simp only[bB] at h ⊢;split
  ·rename_i e;rw[if_pos e] at h;exact aEM fin sep one f (a++[x]) (l++[x]) w.tail n p b h
  ·rename_i e;rw[if_neg e] at h;exact h
theorem aJZ (k:Nat) (hk60:k≤60) (IH:sE T fin r k) (t:Tok) (ht:t∈T) (hr:s.getO r=some (aN T fin d first i n)) (hi:i≤T.length) (hT:TOk T) (hn:n≤2000)
  (hk:(pK false fin first (dY false fin first k) t (T.drop i) n).to (PK T i (fun j m=>s.setO r (aN T fin d first j m)) Tm.enc KV) (PB s r Kp)) :
  Den cx 167 [.ptr r 0,t.enc,.int .i64 ((60-k:Nat):Int)] KV Kp s:=by
 simp only[go_sem];(refine aO func167 [0,1,2,3,4,5,6,7,8,9,19,29,47] ?_;simp only[go_sem,ntmps167,f167]);(intro b3 hb3;try simp only[aL,ne_eq] at hb3);simp only[go_sem,hb3];(intro b4 hb4;try simp only[aL,ne_eq] at hb4);simp only[go_sem,hb3,hb4];(intro b5 hb5;try simp only[aL,ne_eq] at hb5);simp only[go_sem,hb3,hb4,hb5];(intro b6 hb6;try simp only[aL,ne_eq] at hb6);have e3:=bN hr hb3;have e4:=bN hr hb4.2;have e5:=bN hr hb5.2.2;have e6:=bN hr hb6.2.2.2;have hr2:=hr;simp only[go_sem] at hr2;have hlen:=hT.len;simp only[go_sem,hb3,hb4,hb5,hb6,e3,e4,e5,e6];rw[pK.eq_def] at hk;cases c1:decide (t.text=[116,114,117,101]);rotate_left
 ·rw[if_pos (by simpa using c1),bB] at hk;simp only[go_sem,hb3,hb4,hb5,hb6,e3,e4,e5,e6,c1];refine aEc (T:=T) (fin:=fin) (d:=d) (first:=first) (i:=i) (n:=n) gH ?_;simp only[go_sem,hb3,hb4,hb5,hb6,e3,e4,e5,e6,c1];exact DK.mk (hk i (bG _) hi rfl hn) (St.gx.ge aF gH) (Tm.le_leaf _ _ _ _)
 rw[if_neg (by simpa using c1)] at hk;simp only[go_sem,hb3,hb4,hb5,hb6,e3,e4,e5,e6,c1];cases c2:decide (t.text=[102,97,108,115,101]);rotate_left
 ·rw[if_pos (by simpa using c2),bB] at hk;simp only[go_sem,hb3,hb4,hb5,hb6,e3,e4,e5,e6,c1,c2];refine aEc (T:=T) (fin:=fin) (d:=d) (first:=first) (i:=i) (n:=n) gH ?_;simp only[go_sem,hb3,hb4,hb5,hb6,e3,e4,e5,e6,c1,c2];exact DK.mk (hk i (bG _) hi rfl hn) (St.gx.ge aF gH) (Tm.le_leaf _ _ _ _)
 rw[if_neg (by simpa using c2)] at hk;simp only[go_sem,hb3,hb4,hb5,hb6,e3,e4,e5,e6,c1,c2];refine fR (T:=T) (fin:=fin) (d:=d) (first:=first) (i:=i) (n:=n) _ gH hi hT ?_;cases c3:isT [58] (T.drop i) with
 | true =>
  rw[if_pos c3,aX,jS] at hk;have hlt:=iM c3;simp only[go_sem,hb3,hb4,hb5,hb6,e3,e4,e5,e6];(refine bF (OT.r 0 6) [(3,[1])] ?_;simp only[go_sem,hb3,hb4,hb5,hb6,e3,e4,e5,e6]);refine fA (T:=T) (fin:=fin) (d:=d) (first:=first) (i:=i+1) (n:=n) gH hlt hT (aI hk (fun x w m h hlt2 hw hm=>?_) (fun f h=>PB.mk aF h));subst hm;rw[bB] at h;simp only[go_sem,hb3,hb4,hb5,hb6,e3,e4,e5,e6];exact DK.mk (h (i+1+1) (by omega) hlt2 hw hn) (St.gx.ge aF gH) (Tm.le_leaf _ _ _ _)
 | false =>
  rw[if_neg (by simp[c3]),aX] at hk;simp only[go_sem,hb3,hb4,hb5,hb6,e3,e4,e5,e6];(refine bF (OT.r 0 8) [(3,[1]),(6,[1,2])] ?_;simp only[go_sem,hb3,hb4,hb5,hb6,e3,e4,e5,e6]);refine aKn (T:=T) (fin:=fin) (d:=d) (first:=first) (i:=i) (n:=n) gH ?_;simp only[go_sem,hb3,hb4,hb5,hb6,e3,e4,e5,e6];refine ⟨by have:=hT.txt t ht;unfold maxLen;omega,?_⟩;rw[iE];(intro b7 hb7;try simp only[aL,ne_eq] at hb7);have e7:=bN hr hb7.2.2.2.2;simp only[go_sem,hb3,hb4,hb5,hb6,e3,e4,e5,e6,hb7,e7];refine dN (T:=T) (fin:=fin) (d:=d) (first:=first) (i:=i) (n:=n) _ gH hi hT (aI hk (fun _ w m h hlt hw hm=>?_) (fun f h=>PB.mk aF h));subst hw hm;simp only[go_sem,hb3,hb4,hb5,hb6,e3,e4,e5,e6,hb7,e7];refine fR (T:=T) (fin:=fin) (d:=d) (first:=first) (i:=i+1) (n:=_) _ gH hlt hT ?_;cases c4:isT [41] (T.drop (i+1)) with
  | true =>
   rw[if_pos c4,bB] at h;have hlt2:=iM c4;simp only[go_sem,hb3,hb4,hb5,hb6,e3,e4,e5,e6,hb7,e7];refine DK.mk (h (i+1+1) (by omega) hlt2 (by simp) hn) (St.gx.ge aF gH) ?_;exact Tm.le_leaf _ _ _ _
  | false =>
   rw[if_neg (by simp[c4]),aX] at h;simp only[go_sem,hb3,hb4,hb5,hb6,e3,e4,e5,e6,hb7,e7]
   refine aBp (fin:=fin) (σ:=List Tm) (α:=Tm) (X:=Option Nat) (r:=r) Tm.enc Tm.hz Tm.ho hT
    (fun s' acc tk i n=>eI T fin d first 5 t.text b7 r s' acc tk i n) (fun s' acc tk i=>EntQ b3 b5 b7 r k s' acc tk i) (fun acc w n=>(mI false fin first (dY false fin first k) acc w n).bind fun a w n=>.ok (acc++[a],a) w n) 239 [] [.ptr b7 0,.ptr b3 0,.ptr b5 0]
    (fun s' a x i n=>⟨d,first,aG2 e7.2,aET⟩) (fun s' a x i n t v h ht=>?_) (fun s' a x i n t v u ht h=>?_) (fun s' a x i n t v ht h=>⟨h.dropT,aEQ ht⟩)
    (fun s' a x i h=>⟨by have:=h.len;omega,h.h2,h.h3,h.hq,h.ne,h.nil,h.free⟩) (fun s' a x i n h=>eS (dA (bQ h.hq (dJ _ _))) h.free)
    (fun s' a x i n KV' Kp' h hi' hn' hk'=>aLv k b3 b5 b7 t.text hk60 IH hT a x h hi' hn' (by rw[aX] at hk';exact aI hk' (fun _ _ _ h=>h) (fun _ h=>h)))
    [] none (i+1) _ ?_ hlt hn ?_
   ·have ht':=ht;rw[tH] at ht';have hx:x≠some t:=fun e=>by rw[if_pos e] at ht';cases ht'
    rw[if_neg hx] at ht';exact ⟨ht',h.setT hx,aEO hx⟩
   ·have hx:=h.unT.1;refine ⟨by rw[tH,if_neg hx,bT,if_pos rfl],h.dropT.setT hx,aE1 hx⟩
   ·refine ⟨bS _,gH,gH,?_,⟨e7.2,?_,?_,e3.1,e5.1⟩,fun _=>rfl,fun t e=>(by cases e)⟩
    ·simp only[aE,ne_eq,reduceIte,hb7]
    ·exact hb7.2.2.2.1.2
    ·exact hb7.2.1.2
   refine aI (aEM _ _ _ _ _ [] _ _ _ _ h) (fun c w m2 hk2 j y hj hjT hw hm hy=>?_) (fun f h s1 o hg hr1=>h.at (hg.trans aF) hr1);obtain ⟨l,ul⟩:=c;simp only at hk2 hy;subst hw;rw[aX] at hk2;have hfy:∀ t,y=some t→s.getT t=none:=hy.free
   have hny:=hy.nil;simp only[eI];simp only[go_sem,hb3,hb4,hb5,hb6,e3,e4,e5,e6,hb7,e7];refine dN (T:=T) (fin:=fin) (d:=d) (first:=first) (i:=j) (n:=m2) _ (by simp only[cP,aR,aE,ne_eq,reduceIte,cZ,hb3,hb4,hb5,hb6,e3,e4,e5,e6,hb7,e7]<;>(first|done|rfl|assumption)) hjT hT (aI hk2 (fun _ w3 m3 hk4 hlt3 hw3 hm3=>?_) (fun f h=>PB.mk (by repeat (first|exact dJ _ _|refine eS ?_ hfy|refine dA ?_|refine bQ hb3 ?_|refine bQ hb4.2 ?_|refine bQ hb5.2.2 ?_|refine bQ hb6.2.2.2 ?_|refine bQ hb7.2.2.2.2 ?_)) h));rw[bB] at hk4;subst hm3;simp only[go_sem,hb3,hb4,hb5,hb6,e3,e4,e5,e6,hb7,e7];refine ⟨qO y _,?_⟩;refine DK.mk (hk4 (j+1) (by omega) hlt3 hw3 hm) (St.gx.ge (by repeat (first|exact dJ _ _|refine eS ?_ hfy|refine dA ?_|refine bQ hb3 ?_|refine bQ hb4.2 ?_|refine bQ hb5.2.2 ?_|refine bQ hb6.2.2.2 ?_|refine bQ hb7.2.2.2.2 ?_)) (by simp only[cP,aR,aE,ne_eq,reduceIte,cZ,hb3,hb4,hb5,hb6,e3,e4,e5,e6,hb7,e7]<;>(first|done|rfl|assumption))) ?_;rw[bY];exact A.le.agg ⟨⟨bM _,rfl⟩,⟨bM _,rfl⟩,⟨bM _,rfl⟩,⟨bM _,rfl⟩,⟨mZ y _ (fun e=>by rw[hny e];rfl),rfl⟩,⟨A.le.nil,rfl⟩,trivial⟩
end
end
section
section
variable {T:List Tok} {fin:Fault} {r:Nat}
theorem aL9 (hT:TOk T):∀ k,k≤60→sE T fin r k:=by
 intro k
 induction k with
 | zero =>
  intro _ s d first i n KV Kp hr hi hn hk
  have e61:decide ((60:Int)<((61:Nat):Int))=true:=by decide
  have e62:decide ((60:Int)<((61-0:Nat):Int))=true:=by decide
  (refine aO func92 [0,1,4,5,10,14,27,28,33,38] ?_;simp only[go_sem,ntmps92,f92]);(intro b4 hb4;try simp only[aL,ne_eq] at hb4);have e4:=bN hr hb4;simp only[go_sem,hb4,e4];refine hH (T:=T) (fin:=fin) (d:=d) (first:=first) (i:=i) (n:=n) gH hi ?_;cases hw:T.drop i with
  | nil=>rw[hw] at hk;exact hk.at aF gH
  | cons t w =>
   rw[hw] at hk;simp only[go_sem,hb4,e4];(intro b5 hb5;try simp only[aL,ne_eq] at hb5);have e5:=bN hr hb5.2;simp only[go_sem,hb4,e4,hb5,e5];refine yC (T:=T) (fin:=fin) (d:=d) (first:=first) (i:=i) (n:=n) gH hi ?_;rw[hw];simp only[dY] at hk ⊢;cases hb:t.begins with
   | true =>
    rw[hb] at hk;simp only[if_true,cV] at hk;simp only[go_sem,hb4,e4,hb5,e5,e61,e62];refine lA (T:=T) (fin:=fin) (d:=d) (first:=first) (i:=i) (n:=n) 19 gH hi hT ?_;rw[hw];exact hk.at aF gH
   | false =>
    rw[hb] at hk;simp only[bR,if_false,cV] at hk;simp only[go_sem,hb4,e4,hb5,e5];refine lA (T:=T) (fin:=fin) (d:=d) (first:=first) (i:=i) (n:=n) 11 gH hi hT ?_;rw[hw];exact hk.at aF gH
 | succ k ih =>
  intro hk60 s d first i n KV Kp hr hi hn hk
  rw[show (61-(k+1):Nat)=60-k by omega];have IH:=ih (by omega);have hlen:=hT.len;have e60:decide ((60:Int)<((60-k:Nat):Int))=false:=by rw[kW];omega
  (refine aO func92 [0,1,4,5,10,14,27,28,33,38] ?_;simp only[go_sem,ntmps92,f92]);(intro b4 hb4;try simp only[aL,ne_eq] at hb4);have e4:=bN hr hb4;simp only[go_sem,hb4,e4];refine hH (T:=T) (fin:=fin) (d:=d) (first:=first) (i:=i) (n:=n) gH hi ?_;cases hw:T.drop i with
  | nil=>rw[hw] at hk;exact hk.at aF gH
  | cons t w =>
   rw[hw] at hk;obtain ⟨h1,h2,h3,h4⟩:=iV hw;simp only[go_sem,hb4,e4];(intro b5 hb5;try simp only[aL,ne_eq] at hb5);have e5:=bN hr hb5.2;simp only[go_sem,hb4,e4,hb5,e5];refine yC (T:=T) (fin:=fin) (d:=d) (first:=first) (i:=i) (n:=n) gH hi ?_;rw[hw];simp only[dY] at hk ⊢;cases hb:t.begins with
   | false =>
    rw[hb] at hk;simp only[bR,if_false,cV] at hk;simp only[go_sem,hb4,e4,hb5,e5];refine lA (T:=T) (fin:=fin) (d:=d) (first:=first) (i:=i) (n:=n) 11 gH hi hT ?_;rw[hw];exact hk.at aF gH
   | true =>
    rw[hb] at hk;simp only[if_true,aX] at hk;simp only[go_sem,hb4,e4,hb5,e5,e60];refine aFh (T:=T) (fin:=fin) (d:=d) (first:=first) (i:=i) (n:=n) gH hn ?_
    have hk':(mC first (T.drop i) n).to (fun _ w' m0=>w'=T.drop i→m0≤2000→((if t.kind=2 then Rd.ok (Tm.mk 1 t.n [] [] [] []) w m0 else if t.kind=3 then Rd.ok (Tm.mk 3 0 t.text [] [] []) w m0 else if t.kind=1 then pK false fin first (dY false fin first k) t w m0 else kK fin first (dY false fin first k) (decide (k=0)) t w m0)).to (PK T (i+1) (fun j m=>s.setO r (aN T fin d first j m)) Tm.enc KV) (PB s r Kp)) (PB s r Kp):=by
     unfold mC at hk ⊢;split
     ·rename_i hc;rw[if_pos hc] at hk;exact hk
     ·rename_i hc;rw[if_neg hc] at hk;exact fun _ _=>hk
    refine aI hk' (fun _ w' m0 hk2 hw' hm0=>?_) (fun f h=>PB.mk aF h);have hk2:=hk2 hw' hm0;simp only[go_sem,hb4,e4,hb5,e5,cJ i (by omega)];(refine bA (fun h=>?_) (fun h=>?_))<;>simp only[go_sem,h,hb4,e4,hb5,e5]
    ·have x2:t.kind=2:=by simpa using h
     rw[if_pos x2,bB] at hk2
     (try simp only[go_sem,hb4,e4,hb5,e5])
     exact DK.mk (hk2 (i+1) (bG _) h2 h3 hm0) (St.gx.ge aF gH) (Tm.le_leaf _ _ _ _)
    have x2:¬ t.kind=2:=by simpa using h
    rw[if_neg x2] at hk2
    (try simp only[go_sem,hb4,e4,hb5,e5])
    (refine bA (fun h=>?_) (fun h=>?_))<;>simp only[go_sem,h,hb4,e4,hb5,e5]
    ·have x3:t.kind=3:=by simpa using h
     rw[if_pos x3,bB] at hk2
     (try simp only[go_sem,hb4,e4,hb5,e5])
     exact DK.mk (hk2 (i+1) (bG _) h2 h3 hm0) (St.gx.ge aF gH) (Tm.le_leaf _ _ _ _)
    have x3:¬ t.kind=3:=by simpa using h
    rw[if_neg x3] at hk2
    (try simp only[go_sem,hb4,e4,hb5,e5])
    have fin_:∀ (a:Tm) (w:List Tok) (m:Nat),PK T (i+1) (fun j m=>s.setO r (aN T fin d first j m)) Tm.enc KV a w m →
      ∀ (j:Nat),i+1≤j→j≤T.length→T.drop j=w→m≤2000→KV (s.setO r (aN T fin d first j m)) (.agg a.cs):=fun a w m h j h1 h2 h3 h4=>by
     rw[← bY];exact h j h1 h2 h3 h4
    (refine bA (fun h=>?_) (fun h=>?_))<;>simp only[go_sem,h,hb4,e4,hb5,e5]
    ·have x1:t.kind=1:=by simpa using h
     rw[if_pos x1,← h3] at hk2
     (try simp only[go_sem,hb4,e4,hb5,e5])
     refine aJZ (T:=T) (fin:=fin) (d:=d) (first:=first) (i:=i+1) (n:=m0) k (by omega) IH t h4 gH h2 hT hm0 (aI hk2 (fun a w m h j hj hjT hw hm=>?_) (fun f h=>PB.mk aF h));have h':=fin_ _ _ _ h j hj hjT hw hm;simp only[go_sem] at h';simp only[go_sem,hb4,e4,hb5,e5,bY];exact aH h' (St.gx.ge aF gH)
    ·have x1:¬ t.kind=1:=by simpa using h
     rw[if_neg x1,← h3] at hk2
     (try simp only[go_sem,hb4,e4,hb5,e5])
     refine aJE (T:=T) (fin:=fin) (d:=d) (first:=first) (i:=i+1) (n:=m0) k (by omega) IH t gH h2 hT hm0 h4 (aI hk2 (fun a w m h j hj hjT hw hm=>?_) (fun f h=>PB.mk aF h));have h':=fin_ _ _ _ h j hj hjT hw hm;simp only[go_sem] at h';simp only[go_sem,hb4,e4,hb5,e5,bY];exact aH h' (St.gx.ge aF gH)
end
end
section
section
variable {T:List Tok} {fin:Fault} {d:Dc} {first:Tok} {i n:Nat} {s:St} {r:Nat} {KV Kp:St→A→Prop}
theorem oK (hT:TOk T) (hr:s.getO r=some (aN T fin d first i n)) (hi:i≤T.length) (hn:n≤2000)
  (hk:(fV false fin (T.drop i) n).to (PK T (i+1) (fun j m=>s.setO r (aN T fin d first j m)) Tm.enc KV) (PB s r Kp)):Den cx 41 [.ptr r 0] KV Kp s:=by
 (refine aO func41 [0,2,3,4,5] ?_;simp only[go_sem,ntmps41,f41]);have hr2:=hr;simp only[go_sem] at hr2;(intro b2 hb2;try simp only[aL,aR,ne_eq] at hb2);have e2:=bN hr (by first|exact hb2|exact hb2.2|exact hb2.2.2|exact hb2.2.2.2|exact hb2.2.2.2.2|exact hb2.2.2.2.2.2|exact hb2.2.2.2.2.2.2);simp only[go_sem,hr2,hb2,e2];(refine bF (OT.r 0 11) [(8,[3,7]),(9,[7])] ?_;simp only[go_sem,hr2,hb2,e2]);(intro b3 hb3;try simp only[aL,aR,ne_eq] at hb3);have e3:=bN hr (by first|exact hb3|exact hb3.2|exact hb3.2.2|exact hb3.2.2.2|exact hb3.2.2.2.2|exact hb3.2.2.2.2.2|exact hb3.2.2.2.2.2.2);simp only[go_sem,hr2,hb2,e2,hb3,e3]
 have hpk:(match T.drop i with|t::w=>(match dY false fin t 60 (T.drop i) 0 with|.ok a w _=>Rd.ok a w n|.bad f=>.bad f).to (PK T (i+1) (fun j m=>s.setO r (aN T fin d first j m)) Tm.enc KV) (PB s r Kp)|[]=>PB s r Kp fin):=by
  unfold fV at hk;revert hk;cases T.drop i with
  | nil=>exact fun h=>h
  | cons t w=>exact fun h=>h
 refine hH (T:=T) (fin:=fin) (d:=d) (first:=first) (i:=i) (n:=n) gH hi ?_;cases hw:T.drop i with
 | nil=>rw[hw] at hpk;exact hpk.at aF gH
 | cons t w =>
  rw[hw] at hpk;simp only at hpk ⊢;simp only[go_sem,hr2,hb2,e2,hb3,e3];refine aL9 hT 60 (bG _) _ d t i 0 _ _ gH hi (bS _) ?_;rw[hw];cases ht:dY false fin t 60 (t::w) 0 with
  | bad f=>rw[ht] at hpk;exact PB.mk aF hpk
  | ok a w2 m =>
   rw[ht] at hpk;intro j hj hjT hw2 hm;have hk2:=hpk j hj hjT hw2 hn;simp only[bY] at hk2;simp only[go_sem,hr2,hb2,e2,hb3,e3];(intro b5 hb5;try simp only[aL,aR,ne_eq] at hb5);have e5:=bN hr (by first|exact hb5|exact hb5.2|exact hb5.2.2|exact hb5.2.2.2|exact hb5.2.2.2.2|exact hb5.2.2.2.2.2|exact hb5.2.2.2.2.2.2);simp only[go_sem,hr2,hb2,e2,hb3,e3,hb5,e5];exact aH hk2 (St.gx.ge aF gH)
theorem cC {s1:St} {f:Fault} (hg:s1.gx s r) (h:∀ s1 o,s1.gx s r→s1.getO r=some o→Kp s1 (.iface 36 f.enc)):PB s1 r (DK Kp) f:=fun o=>aY (h _ o (dA hg) (by rw[aE,if_pos rfl]))
def wV (fin:Fault) (a:Nat) (w:List Tok) (n:Nat):Rd Tm:=match w with
 | []=>.bad fin
 | t::r=>if t.begins=true then (aCY fin a 20 (t::r) n).bind fun _ w n=>fV false fin w n else fV false fin (t::r) n
def nE (T:List Tok) (fin:Fault) (d:Dc) (first:Tok) (b3 r:Nat) (s:St) (a i n:Nat):St :=
 (s.setO b3 (.cells 3 [.int .i64 (a:Int)])).setO r (aN T fin d first i n)
structure CndQ (b1 b3 r:Nat) (s:St) (a i:Nat):Prop where
 len:a≤i
 h1:s.getO b1=some (.cells 74 [.ptr r 0])
 h3:s.getO b3=none
 ne:b1≠r∧b3≠r∧b1≠b3
theorem aJ6 (hT:TOk T) (b1 b3 a:Nat) (hQ:CndQ b1 b3 r s a i) (hi:i≤T.length) (hn:n≤2000)
  (hk : (wV fin a (T.drop i) n).to (fun x w n' => ∀ j,i + 1 ≤ j → j ≤ T.length → T.drop j = w → n' ≤ 2000 → KV (nE T fin d first b3 r s (a + 1) j n') x.enc)
   (fun f=>∀ s1 o,s1.gx s r→s1.getO r=some o→Kp s1 (.iface 36 f.enc))):Den cx 223 [.ptr b1 0,.ptr b3 0] KV Kp (nE T fin d first b3 r s a i n):=by
 obtain ⟨hac,h1,h3,n1,n2,n3⟩:=hQ;have hlen:=hT.len;(refine aO func223 [0,1,2,4] ?_;simp only[go_sem,ntmps223,f223]);unfold nE;have m1:=n1.symm;have m2:=n2.symm;have m3:=n3.symm;(intro b2 hb2;try simp only[aL,ne_eq] at hb2);have e2:=bN h1 hb2.2.2;simp only[go_sem,n1,n2,n3,n1.symm,n2.symm,n3.symm,h1,hb2,e2];refine yC (T:=T) (fin:=fin) (d:=d) (first:=first) (i:=i) (n:=n) gH hi ?_
 have fin_:∀ (KV2:St→A→Prop) (s2:St),s2.gx s r→s2.getO r=some (aN T fin d first i n) →
   (∀ (j:Nat) (x:Tm) (m:Nat),i+1≤j→j≤T.length→m≤2000→(∀ w,T.drop j=w→KV (nE T fin d first b3 r s (a+1) j m) x.enc)→KV2 (s2.setO r (aN T fin d first j m)) x.enc) →
   (fV false fin (T.drop i) n).to (fun x w n' => ∀ j,i + 1 ≤ j → j ≤ T.length → T.drop j = w → n' ≤ 2000 → KV (nE T fin d first b3 r s (a + 1) j n') x.enc)
    (fun f=>∀ s1 o,s1.gx s r→s1.getO r=some o→Kp s1 (.iface 36 f.enc))→Den cx 41 [.ptr r 0] KV2 (DK Kp) s2:=by
  intro KV2 s2 hg hr2 hkv hw;refine oK hT hr2 hi hn (aI hw (fun x w m h j hj hjT hw hm=>hkv j x m hj hjT hm fun w' hw'=>?_) (fun f h=>cC hg h));exact h j hj hjT hw hm
 cases hw:T.drop i with
 | nil=>rw[hw] at hk;exact cC aF hk
 | cons t w =>
  rw[hw] at hk fin_;simp only[wV] at hk ⊢;cases hb:t.begins with
  | true =>
   rw[hb] at hk;simp only[if_true,aX,aCY] at hk;simp only[go_sem,n1,n2,n3,n1.symm,n2.symm,n3.symm,h1,hb2,e2];refine jT (T:=T) (fin:=fin) (d:=d) (first:=first) (i:=i) (n:=n) _ _ gH hi ?_;by_cases h20:20≤a
   ·rw[if_pos h20] at hk;rw[if_pos (by omega),hw];exact cC aF hk
   ·rw[if_neg h20,bB] at hk;rw[if_neg (by omega)];simp only[go_sem,n1,n2,n3,n1.symm,n2.symm,n3.symm,h1,hb2,e2,cJ a (by omega)];refine fin_ _ _ aF gH (fun j x m hj hjT hm h=>?_) hk;have hk2:=h _ rfl;simp only[bY,nE] at hk2;simp only[go_sem,n1,n2,n3,n1.symm,n2.symm,n3.symm,h1,hb2,e2,bY];exact aH hk2 bL
  | false =>
   rw[hb] at hk;simp only[bR,if_false] at hk;simp only[go_sem,n1,n2,n3,n1.symm,n2.symm,n3.symm,h1,hb2,e2,cJ a (by omega)];refine fin_ _ _ aF gH (fun j x m hj hjT hm h=>?_) hk;have hk2:=h _ rfl;simp only[bY,nE] at hk2;simp only[go_sem,n1,n2,n3,n1.symm,n2.symm,n3.symm,h1,hb2,e2,bY];exact aH hk2 bL
theorem aEm {α:Type} (fin:Fault) (sep:aB) (one:List α→List Tok→Nat→Rd α):∀ (f:Nat) (a:List α) (w:List Tok) (n:Nat) (p:List α→List Tok→Nat→Prop) (b:Fault→Prop),
  (bZ fin sep (fun acc w n=>(one acc w n).bind fun a w n=>.ok (acc++[a]) w n) f a w n).to p b →
  (bZ fin sep (fun (c:List α × List α) w n=>((one c.1 w n).bind fun a w n=>Rd.ok (c.1++[a],a) w n).bind fun q w n=>.ok (q.1,c.2++[q.2]) w n) f (a,a) w n).to (fun c w n=>c.1=c.2∧p c.2 w n) b
 | 0,a,w,n,p,b,h=>h
 | f+1,a,w,n,p,b,h=>by
  simp only[bZ,aX] at h ⊢;refine aI h (fun x w n h=>?_) (fun _ h=>h);simp only[bB] at h ⊢;split
  ·rename_i e;rw[if_pos e] at h;exact aEm fin sep one f (a++[x]) w.tail n p b h
  ·rename_i e;rw[if_neg e] at h;exact ⟨rfl,h⟩
theorem aJN (w:List Tok) (n:Nat):qP false fin w n=if isT [105,102] w=true then iN fin (fun acc w n=>wV fin acc.length w n) [] w.tail n else .ok [] w n:=by
 unfold qP wV;split
 ·congr 1
 ·rfl
theorem aE6 (hT:TOk T) (hr:s.getO r=some (aN T fin d first i n)) (hi:i≤T.length) (hn:n≤2000)
  (hk:(qP false fin (T.drop i) n).to (PK T i (fun j m=>s.setO r (aN T fin d first j m)) (fun l=>.list none (l.map Tm.enc)) KV) (PB s r Kp)):Den cx 153 [.ptr r 0] KV Kp s:=by
 rw[aJN] at hk;(refine aO func153 [0,1,2,3,6] ?_;simp only[go_sem,ntmps153,f153]);(intro b1 hb1;try simp only[aL,aR,ne_eq] at hb1);have e1:=bN hr (by first|exact hb1|exact hb1.2|exact hb1.2.2|exact hb1.2.2.2|exact hb1.2.2.2.2|exact hb1.2.2.2.2.2|exact hb1.2.2.2.2.2.2);simp only[go_sem,hb1,e1];refine fR (T:=T) (fin:=fin) (d:=d) (first:=first) (i:=i) (n:=n) _ gH hi hT ?_;cases c:isT [105,102] (T.drop i) with
 | false =>
  rw[if_neg (by simp[c]),bB] at hk;simp only[go_sem,hb1,e1];exact DK.mk (hk i (bG _) hi rfl hn) (St.gx.ge aF gH) A.le.nil
 | true =>
  rw[if_pos c,jS] at hk;have hlt:=iM c;simp only[go_sem,hb1,e1];(intro b3 hb3;try simp only[aL,aR,ne_eq] at hb3);have e3:=bN hr (by first|exact hb3|exact hb3.2|exact hb3.2.2|exact hb3.2.2.2|exact hb3.2.2.2.2|exact hb3.2.2.2.2.2|exact hb3.2.2.2.2.2.2);simp only[go_sem,hb1,e1,hb3,e3]
  refine eP (s':=nE T fin d first b3 r (s.setO b1 (.cells 74 [.ptr r 0])) 0 (i+1) n) ?_ (aBp (fin:=fin) (σ:=List Tm) (α:=Tm) (X:=Unit) (r:=r) Tm.enc Tm.hz Tm.ho hT
    (fun s' acc _ i n=>nE T fin d first b3 r s' acc.length i n) (fun s' acc _ i=>CndQ b1 b3 r s' acc.length i) (fun acc w n=>(wV fin acc.length w n).bind fun a w n=>.ok (acc++[a],a) w n) 223 [] [.ptr b1 0,.ptr b3 0]
    (fun s' a x i n=>⟨d,first,by unfold nE;rw[aE,if_pos rfl],by unfold nE;rw[lU];exact bW _⟩) (fun s' a x i n t v h ht=>⟨ht,⟨h.len,h.h1,h.h3,h.ne⟩,bW _⟩)
    (fun s' a x i n t v u ht h=>⟨?_,⟨h.len,h.h1,h.h3,h.ne⟩,?_⟩) (fun s' a x i n t v ht h=>⟨⟨h.len,h.h1,h.h3,h.ne⟩,?_⟩)
    (fun s' a x i h=>⟨by have:=h.len;omega,h.h1,h.h3,h.ne⟩) (fun s' a x i n h=>dA (bQ h.h3 (dJ _ _)))
    (fun s' a x i n KV' Kp' h hi' hn' hk'=>aJ6 hT b1 b3 a.length h hi' hn' ?_)
    [] () (i+1) n ?_ hlt hn ?_)
  ·exact bL
  ·show (s'.setT t v).getT t=some v;rw[bT,if_pos rfl]
  ·exact mP (mP (xW s' t v u))
  ·exact mP (mP (rO ht))
  ·rw[aX] at hk';refine aI hk' (fun x w m h2 j hj hjT hw hm=>?_) (fun _ h=>h);have h3:=h2 j () (by omega) hjT hw hm ⟨by have:=h.len;simp only[aK,aD,aG];omega,h.h1,h.h3,h.ne⟩;simpa only[aK,aD,aG] using h3
  ·refine ⟨bS _,gH,?_,?_⟩
   ·simp only[aE,ne_eq,reduceIte,hb3]
   ·simp only[hb3,e1,e3,ne_eq,cZ,fM,lC]
  ·refine aI (aEm _ _ _ _ _ _ _ _ _ hk) (fun c w m h2 j y hj hjT hw hm hy=>?_) (fun f h s1 o hg hr1=>h.at (hg.trans aF) hr1);obtain ⟨l,ul⟩:=c;obtain ⟨e,h2⟩:=h2;simp only at e h2;subst e;have h3:=h2 j (by omega) hjT hw hm;unfold nE;simp only[go_sem,hb1,e1,hb3,e3];exact aH h3 bL
end
end
section
section
variable {T:List Tok} {fin:Fault} {d:Dc} {first:Tok} {i n:Nat} {s:St} {r:Nat} {KV Kp:St→A→Prop}
theorem yU (hT:TOk T) (hr:s.getO r=some (aN T fin d first i n)) (hi:i≤T.length) (hn:n≤2000)
  (hk:(sJ false fin (T.drop i) n).to (PK T (i+1) (fun j m=>s.setO r (aN T fin d first j m)) Cel.enc KV) (PB s r Kp)):Den cx 226 [.ptr r 0] KV Kp s:=by
 (refine aO func226 [0,2,3,4] ?_;simp only[go_sem,ntmps226,f226]);(intro b2 hb2;try simp only[aL,aR,ne_eq] at hb2);have e2:=bN hr (by first|exact hb2|exact hb2.2|exact hb2.2.2|exact hb2.2.2.2|exact hb2.2.2.2.2|exact hb2.2.2.2.2.2|exact hb2.2.2.2.2.2.2);simp only[go_sem,hb2,e2];refine hH (T:=T) (fin:=fin) (d:=d) (first:=first) (i:=i) (n:=n) gH hi ?_;cases hw:T.drop i with
 | nil=>rw[hw] at hk;exact hk.at aF gH
 | cons t w =>
  rw[hw] at hk;obtain ⟨g1,g2,g3,g4⟩:=iV hw;simp only[sJ,aX] at hk;simp only[go_sem,hb2,e2];(intro b3 hb3;try simp only[aL,aR,ne_eq] at hb3);have e3:=bN hr (by first|exact hb3|exact hb3.2|exact hb3.2.2|exact hb3.2.2.2|exact hb3.2.2.2.2|exact hb3.2.2.2.2.2|exact hb3.2.2.2.2.2.2);simp only[go_sem,hb2,e2,hb3,e3];(refine bF (OT.l [0,2,3,4,5,1,6,7,8] .nil) [(1,[3,5]),(7,[3,5])] ?_;simp only[go_sem,hb2,e2,hb3,e3]);rw[← hw] at hk;(refine fA (T:=T) (fin:=fin) (d:=d) (first:=first) (i:=i) (n:=n) gH hi hT (aI hk (fun x1 w1 m1 hk1 hlt1 hw1 hm1=>?_) (fun f h=>PB.mk aF h));subst m1;rw[← hw1] at hk1);simp only[go_sem,hb2,e2,hb3,e3];(intro b4 hb4;try simp only[aL,aR,ne_eq] at hb4);have e4:=bN hr (by first|exact hb4|exact hb4.2|exact hb4.2.2|exact hb4.2.2.2|exact hb4.2.2.2.2|exact hb4.2.2.2.2.2|exact hb4.2.2.2.2.2.2);simp only[go_sem,hb2,e2,hb3,e3,hb4,e4];(refine dN (T:=T) (fin:=fin) (d:=d) (first:=first) (i:=i+1) (n:=n) _ gH hlt1 hT (aI hk1 (fun _ w2 m2 hk2 hlt2 hw2 hm2=>?_) (fun f h=>PB.mk aF h));subst m2;rw[← hw2] at hk2);simp only[go_sem,hb2,e2,hb3,e3,hb4,e4];(refine fA (T:=T) (fin:=fin) (d:=d) (first:=first) (i:=i+1+1) (n:=n) gH hlt2 hT (aI hk2 (fun x3 w3 m3 hk3 hlt3 hw3 hm3=>?_) (fun f h=>PB.mk aF h));subst m3;rw[← hw3] at hk3);simp only[go_sem,hb2,e2,hb3,e3,hb4,e4];(refine dN (T:=T) (fin:=fin) (d:=d) (first:=first) (i:=i+1+1+1) (n:=n) _ gH hlt3 hT (aI hk3 (fun _ w4 m4 hk4 hlt4 hw4 hm4=>?_) (fun f h=>PB.mk aF h));subst m4;rw[← hw4] at hk4);simp only[go_sem,hb2,e2,hb3,e3,hb4,e4];(refine oK (T:=T) (fin:=fin) (d:=d) (first:=first) (i:=i+1+1+1+1) (n:=n) hT gH hlt4 hn (aI hk4 (fun a5 w5 m5 hk5 j5 hj5 hjT5 hw5 hm5=>?_) (fun f h=>PB.mk aF h));rw[← hw5] at hk5);have hk:=hk5 j5 (by omega) hjT5 rfl hm5;simp only[Cel.enc,Cel.cs] at hk;simp only[go_sem] at hk;simp only[go_sem,hb2,e2,hb3,e3,hb4,e4,bY];exact aH hk bL
def uS (T:List Tok) (fin:Fault) (d:Dc) (first:Tok) (b r:Nat) (x:aB) (s:St) (tk:Option Nat) (ar:List aB) (i n:Nat):St :=
 gs ((s.setO b (.cells 73 [.str x,gv tk (ar.map .str),.str [],.nils,.int .i64 0,.int .i64 0,.nils])).setO r (aN T fin d first i n)) tk ar.length 9
theorem aLC (hT:TOk T) (hr:s.getO r=some (aN T fin d first i n)) (hi:i≤T.length) (hn:n≤2000)
  (hk:(aDs fin (T.drop i) n).to (PK T i (fun j m=>s.setO r (aN T fin d first j m)) Opr.enc KV) (PB s r Kp)):Den cx 152 [.ptr r 0] KV Kp s:=by
 have hlenT:=hT.len;simp only[aDs,aX] at hk;(refine aO func152 [0,2,3,4,13,24] ?_;simp only[go_sem,ntmps152,f152]);(intro b2 hb2;try simp only[aL,aR,ne_eq] at hb2);have e2:=bN hr (by first|exact hb2|exact hb2.2|exact hb2.2.2|exact hb2.2.2.2|exact hb2.2.2.2.2|exact hb2.2.2.2.2.2|exact hb2.2.2.2.2.2.2);simp only[go_sem,hb2,e2];(refine fA (T:=T) (fin:=fin) (d:=d) (first:=first) (i:=i) (n:=n) gH hi hT (aI hk (fun x1 w1 m1 hk1 hlt1 hw1 hm1=>?_) (fun f h=>PB.mk aF h));subst m1;rw[← hw1] at hk1);simp only[go_sem,hb2,e2];(intro b3 hb3;try simp only[aL,aR,ne_eq] at hb3);have e3:=bN hr (by first|exact hb3|exact hb3.2|exact hb3.2.2|exact hb3.2.2.2|exact hb3.2.2.2.2|exact hb3.2.2.2.2.2|exact hb3.2.2.2.2.2.2);simp only[go_sem,hb2,e2,hb3,e3];(refine dN (T:=T) (fin:=fin) (d:=d) (first:=first) (i:=i+1) (n:=n) _ gH hlt1 hT (aI hk1 (fun _ w2 m2 hk2 hlt2 hw2 hm2=>?_) (fun f h=>PB.mk aF h));subst m2;rw[← hw2] at hk2);simp only[go_sem,hb2,e2,hb3,e3];rw[show (T.drop (i+1+1)).length=T.length-(i+1+1) by rw[cH]] at hk2
 refine Ex.loop (ι:=Option Nat × List aB × Nat) (fun c=>[(0,.ptr r 0),(2,.ptr b2 0),(3,.ptr b3 0)]) (fun c=>uS T fin d first b3 r x1 (s.setO b2 (.cells 73 [.str [],.nils,.str [],.nils,.int .i64 0,.int .i64 0,.nils])) c.1 c.2.1 c.2.2 n)
  (fun c => (c.1 = none → c.2.1 = []) ∧ (∀ t,c.1 = some t → s.getT t = none) ∧ i + 1 + 1 ≤ c.2.2 ∧ c.2.2 ≤ T.length ∧ c.2.1.length ≤ c.2.2 ∧ ∃ k,T.length - c.2.2 < k ∧
   (sH fin k c.2.1 (T.drop c.2.2) n).to (fun ar w n=>(dO fin w n).to (fun y w n=>PK T i (fun j m=>s.setO r (aN T fin d first j m)) Opr.enc KV ⟨x1,ar,y,[],0,0,[]⟩ w n) (PB s r Kp)) (PB s r Kp))
  (fun c=>T.length-c.2.2) (none,[],i+1+1) ?_ ?_ ?_ ?_
 ·exact ⟨fun _=>rfl,fun t e=>(by cases e),bG _,hlt2,bS _,_,fK _,hk2⟩
 ·simp only[go_sem,hb2,e2,hb3,e3]
 ·exact bL
 ·rintro ⟨tk,ar,i2⟩ ⟨hnil,hfree,hi1,hi2,has,k,hk3,hk4⟩;simp only at hnil hfree hi1 hi2 has hk3 hk4;obtain ⟨k,rfl⟩:∃ k',k=k'+1:=⟨k-1,by omega⟩
  have hg:mL (uS T fin d first b3 r x1 (s.setO b2 (.cells 73 [.str [],.nils,.str [],.nils,.int .i64 0,.int .i64 0,.nils])) tk ar i2 n) tk (ar.map A.str).length 9:=by rw[aS];exact jD fun e=>by rw[hnil e];rfl
  refine cL (V:=[0,2,3,4,13,24]) _ _ _ _ ?_;unfold uS;simp only[go_sem,hb2,e2,hb3,e3];refine fR (T:=T) (fin:=fin) (d:=d) (first:=first) (i:=i2) (n:=n) _ gH hi2 hT ?_;cases hx:isT [45,62] (T.drop i2) with
  | true =>
   rw[sH,if_pos hx,bB,jS] at hk4;have hlt:=iM hx;simp only[go_sem,hb2,e2,hb3,e3];(refine fA (T:=T) (fin:=fin) (d:=d) (first:=first) (i:=i2+1) (n:=n) gH hlt hT (aI hk4 (fun x5 w5 m5 hk5 hlt5 hw5 hm5=>?_) (fun f h=>PB.mk aF h));subst m5;rw[← hw5] at hk5);simp only[go_sem,hb2,e2,hb3,e3];have hk:=hk5 (i2+1+1) (by omega) hlt5 rfl hn;simp only[Opr.enc,Opr.cs] at hk;simp only[go_sem] at hk;refine ⟨qO _ _,?_⟩;refine DK.mk hk bL ?_;exact A.le.agg ⟨⟨bM _,rfl⟩,⟨mZ _ _ (fun e=>by rw[hnil e];rfl),rfl⟩,⟨bM _,rfl⟩,⟨A.le.nil,rfl⟩,⟨bM _,rfl⟩,⟨bM _,rfl⟩,⟨A.le.nil,rfl⟩,trivial⟩
  | false =>
   simp only[go_sem,hb2,e2,hb3,e3];refine hH (T:=T) (fin:=fin) (d:=d) (first:=first) (i:=i2) (n:=n) gH hi2 ?_;cases hw:T.drop i2 with
   | nil=>rw[hw,sH,if_neg (by simp[isT])] at hk4;exact hk4.at aF gH
   | cons t w =>
    obtain ⟨g1,g2,g3,g4⟩:=iV hw;rw[hw,sH,if_neg (by rw[← hw,hx];simp),aX] at hk4;simp only[go_sem,hb2,e2,hb3,e3];(intro b4 hb4;try simp only[aL,aR,ne_eq] at hb4);have e4:=bN hr (by first|exact hb4|exact hb4.2|exact hb4.2.2|exact hb4.2.2.2|exact hb4.2.2.2.2|exact hb4.2.2.2.2.2|exact hb4.2.2.2.2.2.2);simp only[go_sem,hb2,e2,hb3,e3,hb4,e4]
    have hsome:(t.free=true→¬ 8≤ar.length)→(dO fin (T.drop i2) n).to (fun a w n=>(sH fin k (ar++[a]) w n).to (fun ar w n =>
      (dO fin w n).to (fun y w n=>PK T i (fun j m=>s.setO r (aN T fin d first j m)) Opr.enc KV ⟨x1,ar,y,[],0,0,[]⟩ w n) (PB s r Kp)) (PB s r Kp)) (PB s r Kp):=fun h=>by
     rw[hw];simp only[mD] at hk4;rw[if_neg (fun hc=>h hc.1 hc.2)] at hk4;exact hk4
    cases c1:decide (t.kind=1)
    ·have hk5:=hsome (fun hf=>by simp[Tok.free,c1] at hf);simp only[go_sem,hb2,e2,hb3,e3,hb4,e4,c1];(refine bF (OT.r 0 8) [(3,[1])] ?_;simp only[go_sem,hb2,e2,hb3,e3,hb4,e4]);(refine fA (T:=T) (fin:=fin) (d:=d) (first:=first) (i:=i2) (n:=n) gH hi2 hT (aI hk5 (fun x6 w6 m6 hk6 hlt6 hw6 hm6=>?_) (fun f h=>PB.mk aF h));subst m6;rw[← hw6] at hk6);simp only[go_sem,hb2,e2,hb3,e3,hb4,e4];refine ⟨by decide,fun y hy=>by simp only[cY] at hy;subst hy;rfl,fB rfl rfl (by rw[aS];exact jD fun e=>by rw[hnil e];rfl) (fun y hy=>?_) (by simp only[aS,aD,aG];omega) (fun t ht=>?_)⟩
     ·simp only[cO] at hy;obtain ⟨q,_,rfl⟩:=hy;rfl
     have hft:=oN ht hfree;rw[mY ht];simp only[go_sem,hb2,e2,hb3,e3,hb4,e4];refine ⟨(some t,ar++[x6],i2+1),⟨fun e=>(by cases e),fun t' e=>by cases e;exact hft,by simp only;omega,by simp only;omega,by simp only[aK,aD,aG];omega,k,by simp only;omega,hk6⟩,by simp only;omega,?_⟩
     ·simp only[uS,dT,dQ,bU,bD,aK,aD,aG,aS];exact bL
    simp only[go_sem,hb2,e2,hb3,e3,hb4,e4,c1];refine oY _ _ _ _ ?_;simp only[go_sem,hb2,e2,hb3,e3,hb4,e4];cases c2:decide (t.text∈dE);rotate_left
    ·have hk5:=hsome (fun hf=>by simp[Tok.free,c2] at hf);simp only[go_sem,hb2,e2,hb3,e3,hb4,e4,c2];(refine bF (OT.r 0 8) [(3,[1])] ?_;simp only[go_sem,hb2,e2,hb3,e3,hb4,e4]);(refine fA (T:=T) (fin:=fin) (d:=d) (first:=first) (i:=i2) (n:=n) gH hi2 hT (aI hk5 (fun x6 w6 m6 hk6 hlt6 hw6 hm6=>?_) (fun f h=>PB.mk aF h));subst m6;rw[← hw6] at hk6);simp only[go_sem,hb2,e2,hb3,e3,hb4,e4];refine ⟨by decide,fun y hy=>by simp only[cY] at hy;subst hy;rfl,fB rfl rfl (by rw[aS];exact jD fun e=>by rw[hnil e];rfl) (fun y hy=>?_) (by simp only[aS,aD,aG];omega) (fun t ht=>?_)⟩
     ·simp only[cO] at hy;obtain ⟨q,_,rfl⟩:=hy;rfl
     have hft:=oN ht hfree;rw[mY ht];simp only[go_sem,hb2,e2,hb3,e3,hb4,e4];refine ⟨(some t,ar++[x6],i2+1),⟨fun e=>(by cases e),fun t' e=>by cases e;exact hft,by simp only;omega,by simp only;omega,by simp only[aK,aD,aG];omega,k,by simp only;omega,hk6⟩,by simp only;omega,?_⟩
     ·simp only[uS,dT,dQ,bU,bD,aK,aD,aG,aS];exact bL
    simp only[go_sem,hb2,e2,hb3,e3,hb4,e4,c2,lZ hg];refine jT (T:=T) (fin:=fin) (d:=d) (first:=first) (i:=i2) (n:=n) _ _ gH hi2 ?_;by_cases h8:8≤ar.length
    ·rw[if_pos (by omega),hw];simp only[mD] at hk4;rw[if_pos ⟨by simp[Tok.free,c1,c2],h8⟩] at hk4;exact PB.mk aF hk4
    rw[if_neg (by omega)];have hk5:=hsome (fun _=>h8);simp only[go_sem,hb2,e2,hb3,e3,hb4,e4];(refine bF (OT.r 0 8) [(3,[1])] ?_;simp only[go_sem,hb2,e2,hb3,e3,hb4,e4]);(refine fA (T:=T) (fin:=fin) (d:=d) (first:=first) (i:=i2) (n:=n) gH hi2 hT (aI hk5 (fun x6 w6 m6 hk6 hlt6 hw6 hm6=>?_) (fun f h=>PB.mk aF h));subst m6;rw[← hw6] at hk6);simp only[go_sem,hb2,e2,hb3,e3,hb4,e4];refine ⟨by decide,fun y hy=>by simp only[cY] at hy;subst hy;rfl,fB rfl rfl (by rw[aS];exact jD fun e=>by rw[hnil e];rfl) (fun y hy=>?_) (by simp only[aS,aD,aG];omega) (fun t ht=>?_)⟩
    ·simp only[cO] at hy;obtain ⟨q,_,rfl⟩:=hy;rfl
    have hft:=oN ht hfree;rw[mY ht];simp only[go_sem,hb2,e2,hb3,e3,hb4,e4];refine ⟨(some t,ar++[x6],i2+1),⟨fun e=>(by cases e),fun t' e=>by cases e;exact hft,by simp only;omega,by simp only;omega,by simp only[aK,aD,aG];omega,k,by simp only;omega,hk6⟩,by simp only;omega,?_⟩
    ·simp only[uS,dT,dQ,bU,bD,aK,aD,aG,aS];exact bL
end
end
section
def nv (es:List A):A:=match es with
 | []=>.nils
 | x::l=>.list none (x::l)
@[go_sem] theorem aQ6 (es:List A):(nv es).cells=[nv es]:=by cases es<;>rfl
@[go_sem] theorem aRv (es:List A):(nv es).one=true:=by cases es<;>rfl
@[go_sem] theorem aRR (s:St) (es:List A):fC s (nv es)=nv es:=by cases es<;>rfl
@[go_sem] theorem aRp (es:List A):jN (nv es)=some (.int .i64 es.length):=by cases es<;>rfl
theorem aG6 (es:List A):A.le (nv es) (.list none es):=by
 cases es with
 | nil=>exact A.le.nil
 | cons x l=>exact bM _
def vE (o:Opr) (aA pA:A):List A:=[.str o.name,aA,.str o.sort,pA,.int .i64 o.prec,.int .i64 o.assoc,nv (o.strict.map (.int .i64))]
attribute [go_sem] vE
theorem aFy {α:Type} (fin:Fault) (sep:aB) (one:List α→List Tok→Nat→Rd α):∀ (f:Nat) (a:List α) (w:List Tok) (n:Nat) (p:List α→List Tok→Nat→Prop) (b:Fault→Prop),
  (bZ fin sep (fun acc w n=>(one acc w n).bind fun a w n=>.ok (acc++[a]) w n) f a w n).to p b →
  (bZ fin sep (fun acc w n=>(one acc w n).bind fun a w n=>.ok (acc++[a]) w n) f a w n).to (fun l w n=>l≠[]∧p l w n) b
 | 0,a,w,n,p,b,h=>h
 | f+1,a,w,n,p,b,h=>by
  simp only[bZ,aX] at h ⊢;refine aI h (fun x w n h=>?_) (fun _ h=>h);simp only[bB] at h ⊢;split
  ·rename_i e;rw[if_pos e] at h;exact aFy fin sep one f (a++[x]) w.tail n p b h
  ·rename_i e;rw[if_neg e] at h;exact ⟨by simp,h⟩
section
variable {T:List Tok} {fin:Fault} {d:Dc} {first:Tok} {i n:Nat} {s:St} {r:Nat} {KV Kp:St→A→Prop}
theorem aDe {s1:St} {L M:List Nat} {f:Fault} (hr:r∈L) (hg:s1.gel s L M) (h:∀ s1 o,s1.gel s L M→s1.getO r=some o→Kp s1 (.iface 36 f.enc)):PB s1 r (DK Kp) f :=
 fun o=>aY (h _ o (wU hr hg) (by rw[aE,if_pos rfl]))
theorem aJx (hT:TOk T) (b2:Nat) (hr:s.getO r=some (aN T fin d first i n)) (h2:s.getO b2=some (.cells 74 [.ptr r 0])) (hi:i≤T.length)
  (hk:(tT fin 8 (T.drop i) n).to (fun x w n'=>i+1≤T.length→T.drop (i+1)=w→n'=n→KV (s.setO r (aN T fin d first (i+1) n)) (.int .i64 x)) (PB s r Kp)):Den cx 283 [.ptr b2 0] KV Kp s:=by
 (refine aO func283 [0,1] ?_;simp only[go_sem,ntmps283,Tryz.f283]);simp only[go_sem,h2];refine aD7 8 hr hi hT (aI hk (fun x w m h a b c=>?_) (fun f h=>PB.mk (dJ _ _) h));simp only[go_sem];exact aY (h a b c)
theorem aEy (hT:TOk T) (b:Nat) (aA pA:A) (ha:aA.one=true) (hp:pA.one=true) (o:Opr) (k:Nat) (hr:s.getO r=some (aN T fin d first i n)) (hb:s.getO b=some (.cells 73 (vE o aA pA))) (hne:b≠r) (hi:i≤T.length) (hn:n≤2000) (hik:T.length-i<k)
  (hk : (nQ fin k o (T.drop i) n).to (fun o' w n' => ∀ j,i ≤ j → j ≤ T.length → T.drop j = w → n' ≤ 2000 → KV ((s.setO b (.cells 73 (vE o' aA pA))).setO r (aN T fin d first j n')) (.tuple []))
   (fun f=>∀ s1 x,s1.gel s [b,r] []→s1.getO r=some x→Kp s1 (.iface 36 f.enc))):Den cx 221 [.ptr r 0,.ptr b 0] KV Kp s:=by
 have hlenT:=hT.len;(refine aO func221 [0,1,2,4,7,11,14,21,63,74,87,94,99] ?_;simp only[go_sem,ntmps221,f221]);(intro b2 hb2;try simp only[aL,aR,ne_eq] at hb2);have e2:=bN hr (by first|exact hb2|exact hb2.2|exact hb2.2.2|exact hb2.2.2.2|exact hb2.2.2.2.2|exact hb2.2.2.2.2.2|exact hb2.2.2.2.2.2.2);have e2b:=bN hb hb2;have hneS:=hne.symm;simp only[go_sem,hb2,e2,hne,hne.symm,e2b,ha,hp]
 refine Ex.loop (ι:=Opr × Nat × Nat × Nat) (fun c=>[(0,.ptr r 0),(1,.ptr b 0),(2,.ptr b2 0)]) (fun c=>((s.setO b2 (.cells 74 [.ptr r 0])).setO b (.cells 73 (vE c.1 aA pA))).setO r (aN T fin d first c.2.1 c.2.2.1))
  (fun c => i ≤ c.2.1 ∧ c.2.1 ≤ T.length ∧ c.2.2.1 ≤ 2000 ∧ T.length - c.2.1 < c.2.2.2 ∧ (nQ fin c.2.2.2 c.1 (T.drop c.2.1) c.2.2.1).to (fun o' w n' => ∀ j,i ≤ j → j ≤ T.length → T.drop j = w → n' ≤ 2000 → KV ((s.setO b (.cells 73 (vE o' aA pA))).setO r (aN T fin d first j n')) (.tuple []))
   (fun f=>∀ s1 x,s1.gel s [b,r] []→s1.getO r=some x→Kp s1 (.iface 36 f.enc)))
  (fun c=>T.length-c.2.1) (o,i,n,k) ?_ ?_ ?_ ?_
 ·exact ⟨bG _,hi,hn,hik,hk⟩
 ·simp only[go_sem,hb2,e2,hne,hne.symm,e2b,ha,hp]
 ·refine mB (pI ?_ (pI ?_ (fS _ _ _)))
  ·rw[aE,if_neg e2.2];exact hr
  ·rw[aE,if_neg e2b.2];exact hb
 ·rintro ⟨o,i2,n,k⟩ ⟨hi1,hi2,hn,hk3,hk4⟩;simp only at hi1 hi2 hn hk3 hk4;obtain ⟨k,rfl⟩:∃ k',k=k'+1:=⟨k-1,by omega⟩
  have hbr:r∈[b,r]:=by simp
  refine cL (V:=[0,1,2,4,7,11,14,21,63,74,87,94,99]) _ _ _ _ ?_;simp only[go_sem,hb2,e2,hne,hne.symm,e2b,ha,hp];refine kM (T:=T) (fin:=fin) (d:=d) (first:=first) (i:=i2) (n:=n) _ gH hi2 ?_;rw[nQ.eq_def] at hk4;simp only at hk4;cases hx:isT [46] (T.drop i2) with
  | true =>
   rw[if_pos hx,bB] at hk4;simp only[go_sem,hb2,e2,hne,hne.symm,e2b,ha,hp];exact aH (hk4 i2 hi1 hi2 rfl hn) bL
  | false =>
   rw[if_neg (by rw[hx];simp)] at hk4;simp only[go_sem,hb2,e2,hne,hne.symm,e2b,ha,hp];refine hH (T:=T) (fin:=fin) (d:=d) (first:=first) (i:=i2) (n:=n) gH hi2 ?_;cases hw:T.drop i2 with
   | nil=>rw[hw] at hk4;exact aY (hk4 _ (aN T fin d first i2 n) jI gH)
   | cons t w =>
    obtain ⟨g1,g2,g3,g4⟩:=iV hw;rw[hw] at hk4;simp only at hk4;simp only[go_sem,hb2,e2,hne,hne.symm,e2b,ha,hp];(intro b4 hb4;try simp only[aL,ne_eq] at hb4);simp only[go_sem,hb2,e2,hne,hne.symm,e2b,ha,hp,hb4]
    have bad:∀ (KV':St→A→Prop) (c:Int) (s1:St),s1.gel s [b,r] []→s1.getO r=some (aN T fin d first i2 n)→(∀ s1 x,s1.gel s [b,r] []→s1.getO r=some x→Kp s1 (.iface 36 (dR fin c (t::w)).enc))→Den cx 42 [.ptr r 0,.int .i64 c] KV' (DK Kp) s1:=by
     intro KV' c s1 hg1 hr1 hf;refine lA c hr1 hi2 hT ?_;rw[hw];exact aY (hf _ _ hg1 hr1)
    by_cases x1:t.text=[112,114,101,99]
    ·have d1:decide (t.text=[112,114,101,99])=true:=by rw[x1];rfl
     have d2:decide (t.text=[108,101,102,116])=false:=by rw[x1];rfl
     have d3:decide (t.text=[114,105,103,104,116])=false:=by rw[x1];rfl
     have d4:decide (t.text=[115,116,114,105,99,116])=false:=by rw[x1];rfl
     simp only[go_sem,hb2,e2,hne,hne.symm,e2b,ha,hp,hb4,d1,d2,d3,d4];cases c1:decide (t.kind=1)
     ·rw[if_pos (by simpa using c1),cV] at hk4;simp only[go_sem,hb2,e2,hne,hne.symm,e2b,ha,hp,hb4,c1];exact bad _ _ _ jI gH hk4
     rw[if_neg (by simpa using c1),if_pos x1] at hk4;simp only[go_sem,hb2,e2,hne,hne.symm,e2b,ha,hp,hb4,c1,d1,d2,d3,d4];cases c2:decide (0<o.prec)
     ·rw[if_neg (by simpa using c2),aX,← g3] at hk4;simp only[go_sem,hb2,e2,hne,hne.symm,e2b,ha,hp,hb4,c1,c2,d1,d2,d3,d4,cJ i2 (by omega)];refine aD7 (T:=T) (fin:=fin) (d:=d) (first:=first) (i:=i2+1) (n:=n) 20 gH g2 hT (aI hk4 (fun x w m hk5 hlt hw hm=>?_) (fun f h=>aDe hbr jI h));subst m;rw[← hw] at hk5;simp only[go_sem,hb2,e2,hne,hne.symm,e2b,ha,hp,hb4];refine ⟨({ o with prec:=x },i2+1+1,n,k),⟨by simp only;omega,by simp only;omega,hn,by simp only;omega,hk5⟩,by simp only;omega,bL⟩
     ·rw[if_pos (by simpa using c2),cV] at hk4;simp only[go_sem,hb2,e2,hne,hne.symm,e2b,ha,hp,hb4,c1,c2,d1,d2,d3,d4];exact bad _ _ _ jI gH hk4
    by_cases x2:t.text=[108,101,102,116]
    ·have d1:decide (t.text=[112,114,101,99])=false:=by rw[x2];rfl
     have d2:decide (t.text=[108,101,102,116])=true:=by rw[x2];rfl
     have d3:decide (t.text=[114,105,103,104,116])=false:=by rw[x2];rfl
     have d4:decide (t.text=[115,116,114,105,99,116])=false:=by rw[x2];rfl
     simp only[go_sem,hb2,e2,hne,hne.symm,e2b,ha,hp,hb4,d1,d2,d3,d4];cases c1:decide (t.kind=1)
     ·rw[if_pos (by simpa using c1),cV] at hk4;simp only[go_sem,hb2,e2,hne,hne.symm,e2b,ha,hp,hb4,c1];exact bad _ _ _ jI gH hk4
     rw[if_neg (by simpa using c1),if_neg x1,if_pos x2] at hk4;simp only[go_sem,hb2,e2,hne,hne.symm,e2b,ha,hp,hb4,c1,d1,d2,d3,d4];cases c2:decide (o.assoc=0)
     ·rw[if_neg (by simpa using c2),cV] at hk4;simp only[go_sem,hb2,e2,hne,hne.symm,e2b,ha,hp,hb4,c1,c2,d1,d2,d3,d4];exact bad _ _ _ jI gH hk4
     ·rw[if_pos (by simpa using c2),← g3] at hk4;simp only[go_sem,hb2,e2,hne,hne.symm,e2b,ha,hp,hb4,c1,c2,d1,d2,d3,d4,cJ i2 (by omega)];refine ⟨({ o with assoc:=1 },i2+1,n,k),⟨by simp only;omega,by simp only;omega,hn,by simp only;omega,hk4⟩,by simp only;omega,bL⟩
    by_cases x3:t.text=[114,105,103,104,116]
    ·have d1:decide (t.text=[112,114,101,99])=false:=by rw[x3];rfl
     have d2:decide (t.text=[108,101,102,116])=false:=by rw[x3];rfl
     have d3:decide (t.text=[114,105,103,104,116])=true:=by rw[x3];rfl
     have d4:decide (t.text=[115,116,114,105,99,116])=false:=by rw[x3];rfl
     simp only[go_sem,hb2,e2,hne,hne.symm,e2b,ha,hp,hb4,d1,d2,d3,d4];cases c1:decide (t.kind=1)
     ·rw[if_pos (by simpa using c1),cV] at hk4;simp only[go_sem,hb2,e2,hne,hne.symm,e2b,ha,hp,hb4,c1];exact bad _ _ _ jI gH hk4
     rw[if_neg (by simpa using c1),if_neg x1,if_neg x2,if_pos x3] at hk4;simp only[go_sem,hb2,e2,hne,hne.symm,e2b,ha,hp,hb4,c1,d1,d2,d3,d4];cases c2:decide (o.assoc=0)
     ·rw[if_neg (by simpa using c2),cV] at hk4;simp only[go_sem,hb2,e2,hne,hne.symm,e2b,ha,hp,hb4,c1,c2,d1,d2,d3,d4];exact bad _ _ _ jI gH hk4
     ·rw[if_pos (by simpa using c2),← g3] at hk4;simp only[go_sem,hb2,e2,hne,hne.symm,e2b,ha,hp,hb4,c1,c2,d1,d2,d3,d4,cJ i2 (by omega)];refine ⟨({ o with assoc:=2 },i2+1,n,k),⟨by simp only;omega,by simp only;omega,hn,by simp only;omega,hk4⟩,by simp only;omega,bL⟩
    by_cases x4:t.text=[115,116,114,105,99,116]
    ·have d1:decide (t.text=[112,114,101,99])=false:=by rw[x4];rfl
     have d2:decide (t.text=[108,101,102,116])=false:=by rw[x4];rfl
     have d3:decide (t.text=[114,105,103,104,116])=false:=by rw[x4];rfl
     have d4:decide (t.text=[115,116,114,105,99,116])=true:=by rw[x4];rfl
     simp only[go_sem,hb2,e2,hne,hne.symm,e2b,ha,hp,hb4,d1,d2,d3,d4];cases c1:decide (t.kind=1)
     ·rw[if_pos (by simpa using c1),cV] at hk4;simp only[go_sem,hb2,e2,hne,hne.symm,e2b,ha,hp,hb4,c1];exact bad _ _ _ jI gH hk4
     rw[if_neg (by simpa using c1),if_neg x1,if_neg x2,if_neg x3,if_pos x4] at hk4;simp only[go_sem,hb2,e2,hne,hne.symm,e2b,ha,hp,hb4,c1,d1,d2,d3,d4];cases c2:decide ((0:Int)<(o.strict.length:Int));rotate_left
     ·rw[if_pos (by simpa using c2),cV] at hk4;simp only[go_sem,hb2,e2,hne,hne.symm,e2b,ha,hp,hb4,c1,c2,d1,d2,d3,d4];exact bad _ _ _ jI gH hk4
     rw[if_neg (by simpa using c2),aX,← g3] at hk4;simp only[go_sem,hb2,e2,hne,hne.symm,e2b,ha,hp,hb4,c1,c2,d1,d2,d3,d4,cJ i2 (by omega)];refine dN (T:=T) (fin:=fin) (d:=d) (first:=first) (i:=i2+1) (n:=n) _ gH g2 hT (aI hk4 (fun _ w m hk5 hlt5 hw hm=>?_) (fun f h=>aDe hbr jI h));subst m;rw[← hw,aX] at hk5;simp only[go_sem,hb2,e2,hne,hne.symm,e2b,ha,hp,hb4]
     refine eP (oJ gH) (aIj (fin:=fin) (d:=d) (fi:=first) (fun x:Int=>A.int .i64 x) (fun _=>rfl) (fun _=>rfl) hT (fun s'=>s'.getO b2=some (.cells 74 [.ptr r 0])) (fun _ _ _=>Iff.rfl)
      (tT fin 8) 283 [] [.ptr b2 0] (aAn (fun s' x hq => by rw [aE,if_neg e2.1]; exact hq)
       (fun s' i' n' KV' Kp' hr' hq' hi' hn' hk'=>aJx hT b2 hr' hq' hi' (aI hk' (fun _ _ _ h h1 h2 h3=>by subst h3;exact h (i'+1) (by omega) h1 h2 hn') (fun _ h=>h)))) (i2+1+1) n ?_ hlt5 hn ?_)
     ·exact gH
     refine aI (aFy _ _ _ _ _ _ _ _ _ hk5) (fun l w m hk6 j hj hjT hw hm=>?_) (fun f h s1 x hg hr1=>aY (h _ _ ((aEC hg hbr).trans jI) hr1));obtain ⟨hl,hk6⟩:=hk6;subst hw;rw[aX] at hk6
     obtain ⟨x0,l0,rfl⟩:∃ x0 l0,l=x0::l0:=by
      cases l with
      | nil=>exact absurd rfl hl
      | cons a b=>exact ⟨a,b,rfl⟩
     simp only[go_sem,hb2,e2,hne,hne.symm,e2b,ha,hp,hb4];refine dN (T:=T) (fin:=fin) (d:=d) (first:=first) (i:=j) (n:=m) _ gH hjT hT (aI hk6 (fun _ w m' hk7 hlt7 hw hm'=>?_) (fun f h=>aDe hbr jI h));subst m';rw[← hw] at hk7;simp only[go_sem,hb2,e2,hne,hne.symm,e2b,ha,hp,hb4];refine ⟨({ o with strict:=x0::l0 },j+1,m,k),⟨by simp only;omega,by simp only;omega,hm,by simp only;omega,hk7⟩,by simp only;omega,bL⟩
    ·have d1:decide (t.text=[112,114,101,99])=false:=by simpa using x1
     have d2:decide (t.text=[108,101,102,116])=false:=by simpa using x2
     have d3:decide (t.text=[114,105,103,104,116])=false:=by simpa using x3
     have d4:decide (t.text=[115,116,114,105,99,116])=false:=by simpa using x4
     rw[if_neg x1,if_neg x2,if_neg x3,if_neg x4,ite_self,cV] at hk4;simp only[go_sem,hb2,e2,hne,hne.symm,e2b,ha,hp,hb4,d1,d2,d3,d4];exact bad _ _ _ jI gH hk4
end
end
section
section
variable {T:List Tok} {fin:Fault} {d:Dc} {first:Tok} {i n:Nat} {s:St} {r:Nat} {KV Kp:St→A→Prop}
theorem yH {α:Type} {r:Rd α} {p:α→List Tok→Nat→Prop} {b:Fault→Prop} (h:∀ a w n,p a w n) (hb:∀ f,b f):r.to p b:=by
 cases r with
 | ok a w n=>exact h a w n
 | bad f=>exact hb f
theorem aBP {α:Type} {r:Rd α} {p q:α→List Tok→Nat→Prop} {b:Fault→Prop} (h:r.to p b) (hq:r.to q (fun _=>True)):r.to (fun a w n=>q a w n∧p a w n) b:=by
 cases r with
 | ok a w n=>exact ⟨hq,h⟩
 | bad f=>exact h
theorem aBu (fin:Fault):∀ (k:Nat) (o:Opr) (w:List Tok) (n:Nat),(nQ fin k o w n).to (fun o' _ _=>o'.name=o.name∧o'.args=o.args∧o'.sort=o.sort∧o'.pieces=o.pieces) (fun _=>True)
 | 0,o,w,n=>trivial
 | k+1,o,w,n=>by
  have ih:=fun (o':Opr) w n=>aBu fin k o' w n
  rw[nQ.eq_def];simp only;split
  ·exact ⟨rfl,rfl,rfl,rfl⟩
  ·cases w with
   | nil=>trivial
   | cons t w =>
    simp only[tJ,aX,cV]
    repeat' split
    all_goals first|trivial|exact ih _ _ _|exact yH (fun a w n=>ih { o with prec:=a } w n) (fun _=>trivial)|exact yH (fun _ w n=>yH (fun l w n=>yH (fun _ w n=>ih { o with strict:=l } w n) (fun _=>trivial)) (fun _=>trivial)) (fun _=>trivial)
def vJ (T:List Tok) (fin:Fault) (d:Dc) (first:Tok) (b r:Nat) (x:aB) (s:St) (ta tp:Option Nat) (ar:List aB) (ps:List Piece) (i n:Nat):St :=
 gs (gs ((s.setO b (.cells 73 [.str x,gv ta (ar.map .str),.str [],gv tp (ps.map Piece.enc),.int .i64 0,.int .i64 0,.nils])).setO r (aN T fin d first i n)) ta ar.length 9) tp ps.length 143
theorem aMS (hT:TOk T) (hr:s.getO r=some (aN T fin d first i n)) (hi:i≤T.length) (hn:n≤2000)
  (hk:(opR fin (T.drop i) n).to (PK T i (fun j m=>s.setO r (aN T fin d first j m)) Opr.enc KV) (PB s r Kp)):Den cx 151 [.ptr r 0] KV Kp s:=by
 have hlenT:=hT.len;simp only[opR,aX] at hk;(refine aO func151 [0,2,3,4,5,14,29,39,76] ?_;simp only[go_sem,ntmps151,f151]);(intro b2 hb2;try simp only[aL,aR,ne_eq] at hb2);have e2:=bN hr (by first|exact hb2|exact hb2.2|exact hb2.2.2|exact hb2.2.2.2|exact hb2.2.2.2.2|exact hb2.2.2.2.2.2|exact hb2.2.2.2.2.2.2);simp only[go_sem,hb2,e2];(refine fA (T:=T) (fin:=fin) (d:=d) (first:=first) (i:=i) (n:=n) gH hi hT (aI hk (fun x1 w1 m1 hk1 hlt1 hw1 hm1=>?_) (fun f h=>PB.mk aF h));subst m1;rw[← hw1] at hk1);simp only[go_sem,hb2,e2];(intro b3 hb3;try simp only[aL,aR,ne_eq] at hb3);have e3:=bN hr (by first|exact hb3|exact hb3.2|exact hb3.2.2|exact hb3.2.2.2|exact hb3.2.2.2.2|exact hb3.2.2.2.2.2|exact hb3.2.2.2.2.2.2);simp only[go_sem,hb2,e2,hb3,e3];(refine dN (T:=T) (fin:=fin) (d:=d) (first:=first) (i:=i+1) (n:=n) _ gH hlt1 hT (aI hk1 (fun _ w2 m2 hk2 hlt2 hw2 hm2=>?_) (fun f h=>PB.mk aF h));subst m2;rw[← hw2] at hk2);simp only[go_sem,hb2,e2,hb3,e3];rw[show (T.drop (i+1+1)).length=T.length-(i+1+1) by rw[cH]] at hk2
 refine Ex.loop (ι:=(Option Nat × Option Nat) × (List aB × List Piece × Bool) × Nat) (fun c=>[(0,.ptr r 0),(2,.ptr b2 0),(3,.ptr b3 0),(4,.bool c.2.1.2.2)])
  (fun c=>vJ T fin d first b3 r x1 (s.setO b2 (.cells 73 [.str [],.nils,.str [],.nils,.int .i64 0,.int .i64 0,.nils])) c.1.1 c.1.2 c.2.1.1 c.2.1.2.1 c.2.2 n)
  (fun c => (c.1.1 = none → c.2.1.1 = []) ∧ (c.1.2 = none → c.2.1.2.1 = []) ∧ (∀ t,c.1.1 = some t → s.getT t = none) ∧ (∀ t,c.1.2 = some t → s.getT t = none ∧ c.1.1 ≠ some t) ∧ i + 1 + 1 ≤ c.2.2 ∧ c.2.2 ≤ T.length ∧ c.2.1.1.length ≤ c.2.2 ∧ c.2.1.2.1.length ≤ c.2.2 ∧ ∃ k,T.length - c.2.2 < k ∧
   (wL fin k c.2.1.2.1 c.2.1.1 c.2.1.2.2 (T.drop c.2.2) n).to (fun p w n=>(dO fin w n).to (fun y w n=>(nQ fin (w.length+1) ⟨x1,p.2.1,y,if p.2.2=true then p.1 else [],0,0,[]⟩ w n).to (PK T i (fun j m=>s.setO r (aN T fin d first j m)) Opr.enc KV) (PB s r Kp)) (PB s r Kp)) (PB s r Kp))
  (fun c=>T.length-c.2.2) ((none,none),([],[],false),i+1+1) ?_ ?_ ?_ ?_
 ·exact ⟨fun _=>rfl,fun _=>rfl,fun t e=>(by cases e),fun t e=>(by cases e),bG _,hlt2,bS _,bS _,_,fK _,hk2⟩
 ·simp only[go_sem,hb2,e2,hb3,e3]
 ·exact bL
 ·rintro ⟨⟨ta,tp⟩,⟨ar,ps,tx⟩,i2⟩ ⟨hnila,hnilp,hfa,hfp,hi1,hi2,has,hps,k,hk3,hk4⟩;simp only at hnila hnilp hfa hfp hi1 hi2 has hps hk3 hk4;obtain ⟨k,rfl⟩:∃ k',k=k'+1:=⟨k-1,by omega⟩
  have hfp1:∀ t,tp=some t→s.getT t=none:=fun t e=>(hfp t e).1
  have hgp:mL (vJ T fin d first b3 r x1 (s.setO b2 (.cells 73 [.str [],.nils,.str [],.nils,.int .i64 0,.int .i64 0,.nils])) ta tp ar ps i2 n) tp (ps.map Piece.enc).length 143:=by rw[aS];exact jD fun e=>by rw[hnilp e];rfl
  have hga:mL (vJ T fin d first b3 r x1 (s.setO b2 (.cells 73 [.str [],.nils,.str [],.nils,.int .i64 0,.int .i64 0,.nils])) ta tp ar ps i2 n) ta (ar.map A.str).length 9:=by
   rw[aS];cases ta with
   | none=>rw[hnila rfl];rfl
   | some t =>
    show (gs _ _ _ _).getT t=_;rw[eT,if_neg (fun e=>(hfp t e).2 rfl),eT,if_pos rfl]
  refine cL (V:=[0,2,3,4,5,14,29,39,76]) _ _ _ _ ?_;unfold vJ;simp only[go_sem,hb2,e2,hb3,e3];refine fR (T:=T) (fin:=fin) (d:=d) (first:=first) (i:=i2) (n:=n) _ gH hi2 hT ?_;rw[wL.eq_def] at hk4;simp only at hk4;cases hx:isT [45,62] (T.drop i2) with
  | true =>
   rw[if_pos hx,bB,jS] at hk4;have hlt:=iM hx
   have hle:∀ (o:Opr),o.name=x1→o.args=ar→o.pieces=(if tx=true then ps else [])→A.le (.agg (vE o (gv ta (ar.map A.str)) (if tx=true then gv tp (ps.map Piece.enc) else .nils))) o.enc:=fun o e1 e2 e3=>by
    subst e1 e2;refine A.le.agg ⟨⟨bM _,rfl⟩,⟨mZ _ _ (fun e=>by rw[hnila e];rfl),rfl⟩,⟨bM _,rfl⟩,⟨?_,rfl⟩,⟨bM _,rfl⟩,⟨bM _,rfl⟩,⟨aG6 _,rfl⟩,trivial⟩;rw[e3];cases tx
    ·exact A.le.nil
    ·exact mZ _ _ (fun e=>by rw[hnilp e];rfl)
   simp only[go_sem,hb2,e2,hb3,e3];cases tx
   ·simp only[go_sem,hb2,e2,hb3,e3];(refine fA (T:=T) (fin:=fin) (d:=d) (first:=first) (i:=i2+1) (n:=n) gH hlt hT (aI hk4 (fun x5 w5 m5 hk5 hlt5 hw5 hm5=>?_) (fun f h=>PB.mk aF h));subst m5;rw[← hw5] at hk5);simp only[go_sem,hb2,e2,hb3,e3];refine aEy hT b3 (gv ta (ar.map A.str)) .nils (qO _ _) rfl ⟨x1,ar,x5,[],0,0,[]⟩ ((List.drop (i2+1+1) T).length+1) (T:=T) (fin:=fin) (d:=d) (first:=first) (i:=i2+1+1) (n:=n) gH gH hb3.1.2 hlt5 hn (by rw[cH];omega) (aI (aBP hk5 (aBu _ _ _ _ _)) (fun o' w m h j hj hjT hw hm=>?_) (fun f h s1 x hg hr1=>?_))
    ·obtain ⟨⟨q1,q2,q3,q4⟩,h⟩:=h;have hk:=h j (by omega) hjT hw hm;simp only[go_sem,hb2,e2,hb3,e3];refine ⟨by cases ta<;>cases o'.strict<;>rfl,?_⟩;refine DK.mk hk bL ?_;have:=hle o' q1 q2 q4;simp only[go_sem] at this;exact this
    ·exact aH (h x) (mB (pI hr1 (aFd hb3.2.2 (hg.trans jI))))
   ·simp only[go_sem,hb2,e2,hb3,e3];(refine fA (T:=T) (fin:=fin) (d:=d) (first:=first) (i:=i2+1) (n:=n) gH hlt hT (aI hk4 (fun x5 w5 m5 hk5 hlt5 hw5 hm5=>?_) (fun f h=>PB.mk aF h));subst m5;rw[← hw5] at hk5);simp only[go_sem,hb2,e2,hb3,e3];refine aEy hT b3 (gv ta (ar.map A.str)) (gv tp (ps.map Piece.enc)) (qO _ _) (qO _ _) ⟨x1,ar,x5,ps,0,0,[]⟩ ((List.drop (i2+1+1) T).length+1) (T:=T) (fin:=fin) (d:=d) (first:=first) (i:=i2+1+1) (n:=n) gH gH hb3.1.2 hlt5 hn (by rw[cH];omega) (aI (aBP hk5 (aBu _ _ _ _ _)) (fun o' w m h j hj hjT hw hm=>?_) (fun f h s1 x hg hr1=>?_))
    ·obtain ⟨⟨q1,q2,q3,q4⟩,h⟩:=h;have hk:=h j (by omega) hjT hw hm;simp only[go_sem,hb2,e2,hb3,e3];refine ⟨by cases ta<;>cases tp<;>cases o'.strict<;>rfl,?_⟩;refine DK.mk hk bL ?_;have:=hle o' q1 q2 q4;simp only[go_sem] at this;exact this
    ·exact aH (h x) (mB (pI hr1 (aFd hb3.2.2 (hg.trans jI))))
  | false =>
   rw[if_neg (by rw[hx];simp)] at hk4;simp only[go_sem,hb2,e2,hb3,e3];refine hH (T:=T) (fin:=fin) (d:=d) (first:=first) (i:=i2) (n:=n) gH hi2 ?_;cases hw:T.drop i2 with
   | nil=>rw[hw] at hk4;exact hk4.at aF gH
   | cons t w =>
    obtain ⟨g1,g2,g3,g4⟩:=iV hw;rw[hw] at hk4;simp only at hk4;simp only[go_sem,hb2,e2,hb3,e3];(intro b4 hb4;try simp only[aL,aR,ne_eq] at hb4);have e4:=bN hr (by first|exact hb4|exact hb4.2|exact hb4.2.2|exact hb4.2.2.2|exact hb4.2.2.2.2|exact hb4.2.2.2.2.2|exact hb4.2.2.2.2.2.2);simp only[go_sem,hb2,e2,hb3,e3,hb4,e4];cases c3:decide (t.kind=3);rotate_left
    ·
     have k3:t.kind=3:=by simpa using c3
     rw[if_pos (.inl k3),if_pos k3] at hk4;simp only[go_sem,hb2,e2,hb3,e3,hb4,e4,c3,lZ hgp];refine jT (T:=T) (fin:=fin) (d:=d) (first:=first) (i:=i2) (n:=n) _ _ gH hi2 ?_;by_cases h20:20≤ps.length
     ·rw[if_pos h20,cV] at hk4;rw[if_pos (by omega),hw];exact PB.mk aF hk4
     rw[if_neg h20,← g3] at hk4;rw[if_neg (by omega)];simp only[go_sem,hb2,e2,hb3,e3,hb4,e4,c3];refine ⟨by decide,fun y hy=>by simp only[cY] at hy;subst hy;rfl,fB rfl rfl (by rw[aS];exact jD fun e=>by rw[hnilp e];rfl) (fun y hy=>?_) (by simp only[aS,aD,aG];omega) (fun u hu=>?_)⟩
     ·simp only[cO] at hy;obtain ⟨q,_,rfl⟩:=hy;rfl
     have hfu:s.getT u=none∧ta≠some u:=by
      rcases hu with e|⟨e,hu⟩
      ·exact hfp u e
      ·rw[e] at hu;have hu:(gs (gs _ ta _ _) none _ _).getT u=none:=hu;rw[eT,if_neg (by simp),eT] at hu;split at hu
       ·cases hu
       ·rename_i e2;exact ⟨hu,e2⟩
     have hnu:=hfu.2;rw[mY hu];simp only[go_sem,hb2,e2,hb3,e3,hb4,e4,cJ i2 (by omega)];refine ⟨((ta,some u),(ar,ps++[⟨t.text,[]⟩],true),i2+1),⟨hnila,fun e=>(by cases e),hfa,fun t' e=>by cases e;exact hfu,by simp only;omega,by simp only;omega,by simp only;omega,by simp only[aK,aD,aG];omega,k,by simp only;omega,hk4⟩,by simp only;omega,?_⟩;simp only[vJ,dT,dQ,bU,bD,aK,aD,aG,aS];exact ⟨trivial,bL⟩
    have k3:¬ t.kind=3:=by simpa using c3
    cases c1:decide (t.kind=1)
    ·rw[if_neg (by simp[k3,Tok.free,c1]),cV] at hk4;simp only[go_sem,hb2,e2,hb3,e3,hb4,e4,c3,c1];refine lA (T:=T) (fin:=fin) (d:=d) (first:=first) (i:=i2) (n:=n) 11 gH hi2 hT ?_;rw[hw];exact PB.at hk4 aF gH
    simp only[go_sem,hb2,e2,hb3,e3,hb4,e4,c3,c1];refine oY _ _ _ _ ?_;simp only[go_sem,hb2,e2,hb3,e3,hb4,e4];cases c2:decide (t.text∈dE);rotate_left
    ·rw[if_neg (by simp[k3,Tok.free,c2]),cV] at hk4;simp only[go_sem,hb2,e2,hb3,e3,hb4,e4,c2];refine lA (T:=T) (fin:=fin) (d:=d) (first:=first) (i:=i2) (n:=n) 11 gH hi2 hT ?_;rw[hw];exact PB.at hk4 aF gH
    rw[if_pos (.inr (by simp[Tok.free,c1,c2])),if_neg k3] at hk4;simp only[go_sem,hb2,e2,hb3,e3,hb4,e4,c2,lZ hgp];refine jT (T:=T) (fin:=fin) (d:=d) (first:=first) (i:=i2) (n:=n) _ _ gH hi2 ?_;by_cases h20:20≤ps.length
    ·rw[if_pos h20,cV] at hk4;rw[if_pos (by omega),hw];exact PB.mk aF hk4
    rw[if_neg h20] at hk4;rw[if_neg (by omega)];simp only[go_sem,hb2,e2,hb3,e3,hb4,e4,c3,lZ hga];refine jT (T:=T) (fin:=fin) (d:=d) (first:=first) (i:=i2) (n:=n) _ _ gH hi2 ?_;by_cases h8:8≤ar.length
    ·rw[if_pos h8,cV] at hk4;rw[if_pos (by omega),hw];exact PB.mk aF hk4
    rw[if_neg h8,← g3] at hk4;rw[if_neg (by omega)];simp only[go_sem,hb2,e2,hb3,e3,hb4,e4,c3];refine ⟨by decide,fun y hy=>by simp only[cY] at hy;subst hy;rfl,fB rfl rfl (by rw[aS];exact jD fun e=>by rw[hnilp e];rfl) (fun y hy=>?_) (by simp only[aS,aD,aG];omega) (fun u hu=>?_)⟩
    ·simp only[cO] at hy;obtain ⟨q,_,rfl⟩:=hy;rfl
    have hfu:s.getT u=none∧ta≠some u:=by
     rcases hu with e|⟨e,hu⟩
     ·exact hfp u e
     ·rw[e] at hu;have hu:(gs (gs _ ta _ _) none _ _).getT u=none:=hu;rw[eT,if_neg (by simp),eT] at hu;split at hu
      ·cases hu
      ·rename_i e2;exact ⟨hu,e2⟩
    have hnu:=hfu.2;rw[mY hu];simp only[go_sem,hb2,e2,hb3,e3,hb4,e4];refine ⟨by decide,fun y hy=>by simp only[cY] at hy;subst hy;rfl,fB rfl rfl ?_ (fun y hy=>?_) (by simp only[aS,aD,aG];omega) (fun v hv=>?_)⟩
    ·rw[aS];cases ta with
     | none=>rw[hnila rfl];rfl
     | some t =>
      show St.getT _ t=_;rw[bT,if_neg (fun e=>hnu (by rw[e])),eT,if_pos rfl]
    ·simp only[cO] at hy;obtain ⟨q,_,rfl⟩:=hy;rfl
    have hfv:s.getT v=none∧¬ v=u:=by
     rcases hv with e|⟨e,hv⟩
     ·exact ⟨hfa v e,fun e2=>hnu (by rw[e,e2])⟩
     ·subst e;rw[bT] at hv;split at hv
      ·cases hv
      ·rename_i e2;exact ⟨hv,fun e3=>e2 e3.symm⟩
    simp only[go_sem,hb2,e2,hb3,e3,hb4,e4,cJ i2 (by omega)];refine ⟨((some v,some u),(ar++[t.text],ps++[⟨[],t.text⟩],tx),i2+1),⟨fun e=>(by cases e),fun e=>(by cases e),fun t' e=>by cases e;exact hfv.1,fun t' e=>by cases e;exact ⟨hfu.1,fun e=>hfv.2 (by cases e;rfl)⟩,by simp only;omega,by simp only;omega,by simp only[aK,aD,aG];omega,by simp only[aK,aD,aG];omega,k,by simp only;omega,hk4⟩,by simp only;omega,?_⟩;simp only[vJ,dT,dQ,bU,bD,aK,aD,aG,aS];have hvu:=hfv.2;refine ⟨trivial,mB (yK ?_ (yK ?_ jI))⟩
    ·rintro _ ⟨⟩;simp only[bT,hvu,if_false,reduceIte,fF]
    ·rintro _ ⟨⟩;simp only[bT,reduceIte,fF]
end
end
end Go.AV
