/-
  Of DefParses.
-/
import Derived.Test.YtamikhobdffnfaaGreatDoorPa22
set_option linter.all false
set_option maxRecDepth 99999
set_option maxHeartbeats 0
namespace Go.AV
open Go Go.Proofs Tryz
section
section
variable {T:List Tok} {fin:Fault} {d:Dc} {first:Tok} {i n:Nat} {s:St} {r:Nat} {KV Kp:St→A→Prop}
theorem aMk (k:Nat) (hk60:k≤60) (IH:vV T fin r k) (t:Tok) (hr:s.getO r=some (bC T fin d first i n)) (hi:i≤T.length) (hT:TOk T) (hn:n≤2000) (ht:t∈T)
  (hk:(pG fin first (eE false fin first k) (decide (k=0)) t (T.drop i) n).to (PK T i (fun j m=>s.setO r (bC T fin d first j m)) Tm.enc KV) (PB s r Kp)) :
  Den cx 168 [.ptr r 0,t.enc,.int .i64 ((60-k:Nat):Int)] KV Kp s:=by
 simp only[go_sem];(refine aZ func168 [0,1,2,3,4,5,6,7,8,9,11,12,33,47,71,84,94,107] ?_;simp only[go_sem,ntmps168,f168]);(intro b3 hb3;try simp only[aV,ne_eq] at hb3);simp only[go_sem,hb3];(intro b4 hb4;try simp only[aV,ne_eq] at hb4);simp only[go_sem,hb3,hb4];(intro b5 hb5;try simp only[aV,ne_eq] at hb5);simp only[go_sem,hb3,hb4,hb5];(intro b6 hb6;try simp only[aV,ne_eq] at hb6);have e3:=cF hr hb3;have e4:=cF hr hb4.2;have e5:=cF hr hb5.2.2;have e6:=cF hr hb6.2.2.2;have hr2:=hr;simp only[go_sem] at hr2;have hlen:=hT.len;simp only[go_sem,hb3,hb4,hb5,hb6,e3,e4,e5,e6];(refine cD (fun h=>?_) (fun h=>?_))<;>simp only[go_sem,h,hb3,hb4,hb5,hb6,e3,e4,e5,e6]
 ·
  have hx:t.text=[45]:=by simpa using h
  simp only[pG,hx,if_true] at hk
  (try simp only[go_sem,hb3,hb4,hb5,hb6,e3,e4,e5,e6])
  refine kB (T:=T) (fin:=fin) (d:=d) (first:=first) (i:=i) (n:=n) gH hi ?_;cases hw:T.drop i with
  | nil=>rw[hw] at hk;exact hk.at aQ gH
  | cons u w =>
   rw[hw] at hk;obtain ⟨h1,h2,h3,h4⟩:=lI hw;simp only[go_sem];(intro b7 hb7;try simp only[aV,ne_eq] at hb7);have e7:=cF hr hb7.2.2.2.2
   have bad:∀ (KV':St→A→Prop) (s1:St),s1.gx s r→s1.getO r=some (bC T fin d first i n)→PB s r Kp (eG fin 11 (u::w))→Den cx 42 [.ptr r 0,.int .i64 11] KV' (DK Kp) s1:=by
    intro KV' s1 hg1 hr1 hf;refine nZ 11 hr1 hi hT ?_;rw[hw];exact hf.at hg1 hr1
   simp only at hk;have ecol:IntKind.i64.wrap (t.col+1)=t.col+1:=by have:=hT.col t ht;exact eX _ (by omega) (by omega)
   have eneg:IntKind.i64.wrap (0-u.n)=-u.n:=by have:=hT.num u h4;rw[eX _ (by omega) (by omega)];omega
   cases c1:decide (u.kind=2)
   ·have h2:¬ u.kind=2:=by simpa using c1
    rw[if_neg (fun hc=>h2 hc.1),eH] at hk;simp only[go_sem,hb3,hb4,hb5,hb6,e3,e4,e5,e6,hb7,e7,hr2,c1];exact bad _ _ aQ gH hk
   cases c2:decide (u.line=t.line)
   ·have h2:¬ u.line=t.line:=by simpa using c2
    rw[if_neg (fun hc=>h2 hc.2.1),eH] at hk;simp only[go_sem,hb3,hb4,hb5,hb6,e3,e4,e5,e6,hb7,e7,hr2,c1,c2];exact bad _ _ aQ gH hk
   cases c3:decide (u.col=t.col+1)
   ·have h2:¬ u.col=t.col+1:=by simpa using c3
    rw[if_neg (fun hc=>h2 hc.2.2),eH] at hk;simp only[go_sem,hb3,hb4,hb5,hb6,e3,e4,e5,e6,hb7,e7,hr2,c1,c2,ecol,c3];exact bad _ _ aQ gH hk
   ·rw[if_pos ⟨by simpa using c1,by simpa using c2,by simpa using c3⟩,bU] at hk;simp only[go_sem,hb3,hb4,hb5,hb6,e3,e4,e5,e6,hb7,e7,hr2,c1,c2,ecol,c3,bP i (by omega),eneg];refine DK.mk (hk (i+1) (by omega) h2 h3 hn) (St.gx.ge aQ gH) (Tm.le_leaf _ _ _ _)
 have x1:¬ t.text=[45]:=by simpa using h
 (try simp only[go_sem,hb3,hb4,hb5,hb6,e3,e4,e5,e6])
 (refine cD (fun h=>?_) (fun h=>?_))<;>simp only[go_sem,h,hb3,hb4,hb5,hb6,e3,e4,e5,e6]
 ·
  have hx:t.text=[39]:=by simpa using h
  rw[pG.eq_def,if_neg x1,if_pos hx] at hk
  (try simp only[go_sem,hb3,hb4,hb5,hb6,e3,e4,e5,e6])
  refine kB (T:=T) (fin:=fin) (d:=d) (first:=first) (i:=i) (n:=n) gH hi ?_;cases hw:T.drop i with
  | nil=>rw[hw] at hk;exact hk.at aQ gH
  | cons u w =>
   rw[hw] at hk;obtain ⟨h1,h2,h3,h4⟩:=lI hw;simp only[go_sem];(intro b7 hb7;try simp only[aV,ne_eq] at hb7);have e7:=cF hr hb7.2.2.2.2
   have bad:∀ (KV':St→A→Prop) (s1:St),s1.gx s r→s1.getO r=some (bC T fin d first i n)→PB s r Kp (eG fin 11 (u::w))→Den cx 42 [.ptr r 0,.int .i64 11] KV' (DK Kp) s1:=by
    intro KV' s1 hg1 hr1 hf;refine nZ 11 hr1 hi hT ?_;rw[hw];exact hf.at hg1 hr1
   simp only at hk;cases c1:decide (u.kind=1)
   ·have h2:¬ u.free=true:=by simp[Tok.free,c1]
    rw[if_neg (fun hc=>h2 hc.1),eH] at hk;simp only[go_sem,hb3,hb4,hb5,hb6,e3,e4,e5,e6,hb7,e7,hr2,c1];exact bad _ _ aQ gH hk
   simp only[go_sem,hb3,hb4,hb5,hb6,e3,e4,e5,e6,hb7,e7,hr2,c1];refine sI _ _ _ _ ?_;simp only[go_sem,hb3,hb4,hb5,hb6,e3,e4,e5,e6,hb7,e7,hr2,c1];cases c2:decide (u.text∈jL);rotate_left
   ·have h2:¬ u.free=true:=by simp[Tok.free,c2]
    rw[if_neg (fun hc=>h2 hc.1),eH] at hk;simp only[go_sem,hb3,hb4,hb5,hb6,e3,e4,e5,e6,hb7,e7,hr2,c1,c2];exact bad _ _ aQ gH hk
   simp only[go_sem,hb3,hb4,hb5,hb6,e3,e4,e5,e6,hb7,e7,hr2,c1,c2];refine aN4 _ _ _ _ ?_;simp only[go_sem,hb3,hb4,hb5,hb6,e3,e4,e5,e6,hb7,e7,hr2,c1,c2];cases c3:mW u.text
   ·rw[if_neg (fun hc=>by rw[c3] at hc;exact absurd hc.2 (by simp)),eH] at hk;simp only[go_sem,hb3,hb4,hb5,hb6,e3,e4,e5,e6,hb7,e7,hr2,c1,c2,c3];exact bad _ _ aQ gH hk
   ·rw[if_pos ⟨by simp[Tok.free,c1,c2],c3⟩,bU] at hk;simp only[go_sem,hb3,hb4,hb5,hb6,e3,e4,e5,e6,hb7,e7,hr2,c1,c2,c3,bP i (by omega)];refine DK.mk (hk (i+1) (by omega) h2 h3 hn) (St.gx.ge aQ gH) (Tm.le_leaf _ _ _ _)
 have x2:¬ t.text=[39]:=by simpa using h
 (try simp only[go_sem,hb3,hb4,hb5,hb6,e3,e4,e5,e6])
 (refine cD (fun h=>?_) (fun h=>?_))<;>simp only[go_sem,h,hb3,hb4,hb5,hb6,e3,e4,e5,e6]
 ·
  have hx:t.text=[91]:=by simpa using h
  rw[pG.eq_def,if_neg x1,if_neg x2,if_pos hx] at hk
  (try simp only[go_sem,hb3,hb4,hb5,hb6,e3,e4,e5,e6])
  (intro b9 hb9;try simp only[aV,ne_eq] at hb9);have e9:=cF hr hb9.2.2.2.2;simp only[go_sem,hb3,hb4,hb5,hb6,e3,e4,e5,e6,hb9,e9];refine nN (T:=T) (fin:=fin) (d:=d) (first:=first) (i:=i) (n:=n) _ gH hi ?_;simp only[go_sem,hb3,hb4,hb5,hb6,e3,e4,e5,e6,hb9,e9];have ek:decide (60-k=60)=decide (k=0):=by rw[lW];omega
  cases cA:bI [124] (T.drop i)
  ·simp only[go_sem,hb3,hb4,hb5,hb6,e3,e4,e5,e6,hb9,e9,cA];refine nN (T:=T) (fin:=fin) (d:=d) (first:=first) (i:=i) (n:=n) _ gH hi ?_;simp only[go_sem,hb3,hb4,hb5,hb6,e3,e4,e5,e6,hb9,e9,cA];cases cB:bI [93] (T.drop i)
   ·simp only[go_sem,hb3,hb4,hb5,hb6,e3,e4,e5,e6,hb9,e9,cA,cB];rw[if_neg (by rw[cA,cB];simp),bL] at hk
    refine dE (lY gH) (aFU (fin:=fin) (d:=d) (fi:=first) Tm.enc Tm.hz Tm.ho hT (fun s'=>s'.getO b3=some (.cells 74 [.ptr r 0])∧s'.getO b5=some (.cells 3 [.int .i64 ((60-k:Nat):Int)])) (fun _ _ _=>Iff.rfl)
     (eE false fin first k) 241 [] [.ptr b3 0,.ptr b5 0] (aCy (fun s' o hq => ⟨by rw [aJ,if_neg e3.1]; exact hq.1,by rw [aJ,if_neg e5.1]; exact hq.2⟩)
      (fun s' i' n' KV' Kp' hr' hq' hi' hn' hk'=>aLg k hk60 IH b3 b5 hq'.1 hq'.2 hr' hi' hn' (aW hk' (fun _ _ _ h j hj=>h j (by omega)) (fun _ h=>h)))) i n ?_ hi hn ?_)
    ·exact ⟨gH,gH⟩
    refine aW hk (fun l w m hk2 j hj hjT hw hm=>?_) (fun f h s1 o hg hr1=>h.at (hg.trans aQ) hr1);subst hw;rw[bL,← ek] at hk2;simp only[go_sem,hb3,hb4,hb5,hb6,e3,e4,e5,e6,hb9,e9];refine xX (T:=T) (fin:=fin) (d:=d) (first:=first) (i:=j) (n:=m) (60-k) _ gH hjT hT hm (aW hk2 (fun rs w2 m2 hk3 j2 hj2 hjT2 hw2 hm2=>?_) (fun f h=>PB.mk aQ h));subst hw2;simp only[go_sem,hb3,hb4,hb5,hb6,e3,e4,e5,e6,hb9,e9];refine fH (T:=T) (fin:=fin) (d:=d) (first:=first) (i:=j2) (n:=m2) _ gH hjT2 hT ?_;rw[bL] at hk3;refine aW hk3 (fun _ w3 m3 hk4 hlt3 hw3 hm3=>?_) (fun f h=>PB.mk aQ h);rw[bU] at hk4;simp only[go_sem,hb3,hb4,hb5,hb6,e3,e4,e5,e6,hb9,e9];exact DK.mk (hk4 (j2+1) (by omega) hlt3 hw3 (by omega)) (St.gx.ge aQ (by subst hm3;rw[aJ,if_neg e6.2,aJ,if_pos rfl]<;>rfl)) (by rw[bO];exact aK _)
   ·simp only[go_sem,hb3,hb4,hb5,hb6,e3,e4,e5,e6,hb9,e9,cA,cB];rw[if_pos (by simp[cA,cB]),bL,bU,bL,← ek] at hk;refine xX (T:=T) (fin:=fin) (d:=d) (first:=first) (i:=i) (n:=n) (60-k) _ gH hi hT hn (aW hk (fun rs w2 m2 hk3 j2 hj2 hjT2 hw2 hm2=>?_) (fun f h=>PB.mk aQ h));subst hw2;simp only[go_sem,hb3,hb4,hb5,hb6,e3,e4,e5,e6,hb9,e9];refine fH (T:=T) (fin:=fin) (d:=d) (first:=first) (i:=j2) (n:=m2) _ gH hjT2 hT ?_;rw[bL] at hk3;refine aW hk3 (fun _ w3 m3 hk4 hlt3 hw3 hm3=>?_) (fun f h=>PB.mk aQ h);rw[bU] at hk4;simp only[go_sem,hb3,hb4,hb5,hb6,e3,e4,e5,e6,hb9,e9];exact DK.mk (hk4 (j2+1) (by omega) hlt3 hw3 (by omega)) (St.gx.ge aQ (by subst hm3;rw[aJ,if_neg e6.2,aJ,if_pos rfl]<;>rfl)) (by rw[bO];exact A.le.agg ⟨⟨aK _,rfl⟩,⟨aK _,rfl⟩,⟨aK _,rfl⟩,⟨aK _,rfl⟩,⟨A.le.nil,rfl⟩,⟨aK _,rfl⟩,trivial⟩)
  ·simp only[go_sem,hb3,hb4,hb5,hb6,e3,e4,e5,e6,hb9,e9,cA];rw[if_pos (by simp[cA]),bL,bU,bL,← ek] at hk;refine xX (T:=T) (fin:=fin) (d:=d) (first:=first) (i:=i) (n:=n) (60-k) _ gH hi hT hn (aW hk (fun rs w2 m2 hk3 j2 hj2 hjT2 hw2 hm2=>?_) (fun f h=>PB.mk aQ h));subst hw2;simp only[go_sem,hb3,hb4,hb5,hb6,e3,e4,e5,e6,hb9,e9];refine fH (T:=T) (fin:=fin) (d:=d) (first:=first) (i:=j2) (n:=m2) _ gH hjT2 hT ?_;rw[bL] at hk3;refine aW hk3 (fun _ w3 m3 hk4 hlt3 hw3 hm3=>?_) (fun f h=>PB.mk aQ h);rw[bU] at hk4;simp only[go_sem,hb3,hb4,hb5,hb6,e3,e4,e5,e6,hb9,e9];exact DK.mk (hk4 (j2+1) (by omega) hlt3 hw3 (by omega)) (St.gx.ge aQ (by subst hm3;rw[aJ,if_neg e6.2,aJ,if_pos rfl]<;>rfl)) (by rw[bO];exact A.le.agg ⟨⟨aK _,rfl⟩,⟨aK _,rfl⟩,⟨aK _,rfl⟩,⟨aK _,rfl⟩,⟨A.le.nil,rfl⟩,⟨aK _,rfl⟩,trivial⟩)
 have x3:¬ t.text=[91]:=by simpa using h
 (try simp only[go_sem,hb3,hb4,hb5,hb6,e3,e4,e5,e6])
 (refine cD (fun h=>?_) (fun h=>?_))<;>simp only[go_sem,h,hb3,hb4,hb5,hb6,e3,e4,e5,e6]
 ·
  have hx:t.text=[123]:=by simpa using h
  rw[pG.eq_def,if_neg x1,if_neg x2,if_neg x3,if_pos hx] at hk
  (try simp only[go_sem,hb3,hb4,hb5,hb6,e3,e4,e5,e6])
  refine aLf (T:=T) (fin:=fin) (d:=d) (first:=first) (i:=i) (n:=n) k hk60 IH gH hi hT hn (aW hk (fun a w m h j hj hjT hw hm=>?_) (fun f h=>PB.mk aQ h));have h':=h j hj hjT hw hm;simp only at h';rw[bO] at h';simp only[go_sem,hb3,hb4,hb5,hb6,e3,e4,e5,e6];exact aM h' (St.gx.ge aQ gH)
 have x4:¬ t.text=[123]:=by simpa using h
 rw[pG.eq_def,if_neg x1,if_neg x2,if_neg x3,if_neg x4,bU] at hk
 (try simp only[go_sem,hb3,hb4,hb5,hb6,e3,e4,e5,e6])
 exact DK.mk (hk i (bE _) hi rfl hn) (St.gx.ge aQ gH) (Tm.le_leaf _ _ _ _)
end
end
section
section
variable {T:List Tok} {fin:Fault} {d:Dc} {first:Tok} {i n:Nat} {s:St} {r:Nat} {KV Kp:St→A→Prop}
theorem aNh (k b2 b3 q:Nat) (x:aD) (hk60:k≤60) (IH:vV T fin r k) (hT:TOk T) (acc:List Tm) (tk:Option Nat) (hQ:EntQ b2 b3 q r k s acc tk i) (hi:i≤T.length) (hn:n≤2000)
  (hk : (kO false fin first (eE false fin first k) acc (T.drop i) n).to (fun a w n' => ∀ j y,i ≤ j → j ≤ T.length → T.drop j = w → n' ≤ 2000 → EntQ b2 b3 q r k s (acc ++ [a]) y j → KV (gT T fin d first 5 x q r s (acc ++ [a]) y j n') a.enc)
   (fun f=>∀ s1 o,s1.gx s r→s1.getO r=some o→Kp s1 (.iface 36 f.enc))):Den cx 239 [.ptr q 0,.ptr b2 0,.ptr b3 0] KV Kp (gT T fin d first 5 x q r s acc tk i n):=by
 obtain ⟨hac,h2,h3,hq,⟨n1,n2,n3,n4,n5⟩,hnil,hfree⟩:=hQ;have hlen:=hT.len;have ed:IntKind.i64.wrap (((60-k:Nat):Int)+1)=((61-k:Nat):Int):=by rw[bP _ (by omega)];congr 1;omega
 have hg:lS (gT T fin d first 5 x q r s acc tk i n) tk (acc.map Tm.enc).length 43:=by rw[aI];exact fA fun e=>by rw[hnil e];rfl
 refine aG1 ?_;(refine aZ func239 [0,1,2,3,4,12] ?_;simp only[go_sem,ntmps239,f239]);unfold gT;(intro b6 hb6;try simp only[aV,ne_eq] at hb6)
 have f6:s.getO b6=none∧b6≠r∧b6≠q:=by
  have h0:=hb6;rw[aT,aJ] at h0;split at h0
  ·cases h0
  ·rename_i hrb;rw[aJ] at h0;split at h0
   ·cases h0
   ·rename_i hqb;exact ⟨h0,fun e=>hrb e.symm,fun e=>hqb e.symm⟩
 obtain ⟨hf6,e6,e6q⟩:=f6;clear hb6;have e62:=(cF h2 hf6);have e63:=(cF h3 hf6);simp only[go_sem,n1,n2,n3,n4,n5,n1.symm,n2.symm,n3.symm,n4.symm,n5.symm,h2,h3,ed,hf6,e6,e6.symm,e6q,e6q.symm,e62,e63,gV hg];cases tk with
 | none =>
  obtain rfl:=hnil rfl;simp only[aIx];cases c8:decide ((([]:List Tm).length:Int)=8)
  ·(try simp only [go_sem,n1,n2,n3,n4,n5,n1.symm,n2.symm,n3.symm,n4.symm,n5.symm,h2,h3,ed,hf6,e6,e6.symm,e6q,e6q.symm,e62,e63,c8])
   have hk3:=hk;rw[kO.eq_def,if_neg (by intro e;simp[e] at c8)] at hk3;refine IH _ d first i n _ _ (by simp only[dN,aT,aJ,ne_eq,reduceIte,dK,n1,n2,n3,n4,n5,n1.symm,n2.symm,n3.symm,n4.symm,n5.symm,h2,h3,ed,hf6,e6,e6.symm,e6q,e6q.symm,e62,e63]<;>(first|done|rfl|assumption)) hi hn (aW hk3 (fun a w m hk2 j hj hjT hw hm=>?_) (fun f h o=>?_))
   rotate_left
   ·simp only[go_sem];exact aO (h _ o (by repeat (first|exact fF _ _|refine sS ?_ rfl|refine pR ?_ rfl|refine gX ?_ hfree|refine eQ ?_|refine cT hq ?_|refine cT hf6 ?_)) (by simp only[dN,aT,aJ,ne_eq,reduceIte,dK,n1,n2,n3,n4,n5,n1.symm,n2.symm,n3.symm,n4.symm,n5.symm,h2,h3,ed,hf6,e6,e6.symm,e6q,e6q.symm,e62,e63]<;>(first|done|rfl|assumption)))
   simp only[go_sem,n1,n2,n3,n4,n5,n1.symm,n2.symm,n3.symm,n4.symm,n5.symm,h2,h3,ed,hf6,e6,e6.symm,e6q,e6q.symm,e62,e63,bO,Tm.cs];intro b7 hb7;rw[aT] at hb7;obtain ⟨e7,hb7⟩:=pS hb7;obtain ⟨e76,hb7⟩:=pS hb7;obtain ⟨_,hb7⟩:=pS hb7;obtain ⟨e7q,hf7⟩:=pS hb7;have e72:=(cF h2 hf7);have e73:=(cF h3 hf7);simp only[go_sem,n1,n2,n3,n4,n5,n1.symm,n2.symm,n3.symm,n4.symm,n5.symm,h2,h3,ed,hf6,e6,e6.symm,e6q,e6q.symm,e62,e63,hf7,e7,e7.symm,e7q,e7q.symm,e76,e76.symm,e72,e73];(refine aP (OT.l [0,1,2,3,4,5,6,8] (.pair 7 9)) [] ?_;simp only[go_sem,n1,n2,n3,n4,n5,n1.symm,n2.symm,n3.symm,n4.symm,n5.symm,h2,h3,ed,hf6,e6,e6.symm,e6q,e6q.symm,e62,e63,hf7,e7,e7.symm,e7q,e7q.symm,e76,e76.symm,e72,e73]);refine ⟨by decide,?_⟩;intro t ht;have hft:s.getT t=none:=ht;refine ⟨rfl,?_⟩;have hk5:=hk2 j (some t) (by omega) hjT hw hm ⟨by simp only[aR,aF,aH] at hac ⊢;omega,h2,h3,hq,⟨n1,n2,n3,n4,n5⟩,fun e=>(by cases e),fun t' e=>by cases e;exact hft⟩;simp only[gT,cL] at hk5;rw[show (([]:List Tm)++[a]).length=1 by simp,bO a] at hk5;refine aM (s2:=(gs ((s.setO q (.cells 43 [.int .i64 5,.int .i64 0,.str x,.str [],.list (some t) ((([]:List Tm)++[a]).map Tm.enc),.nils])).setO r (bC T fin d first j m)) (some t) (1) 43).setL none) hk5 (St.ge.trans aGj (aEW (fun b o hb=>?_) (fun _=>rfl)));simp only[aJ] at hb ⊢;by_cases hb1:q=b
   ·subst hb1;simp only[n1,n1.symm,e6q,e6q.symm,e7q,e7q.symm,if_true,if_false] at hb ⊢;simpa [bO,Tm.cs] using hb
   ·by_cases hb2:r=b
    ·subst hb2;simp only[hb1,e6,e6.symm,e7,e7.symm,if_true,if_false] at hb ⊢;exact hb
    ·simp only[hb1,hb2,if_false] at hb ⊢;by_cases hb3:b6=b
     ·subst hb3;rw[hf6] at hb;cases hb
     ·by_cases hb4:b7=b
      ·subst hb4;rw[hf7] at hb;cases hb
      ·simp only[hb3,hb4,if_false];exact hb
  ·simp at c8
 | some u =>
  simp only[cL];cases c8:decide ((acc.length:Int)=8)
  ·(try simp only [go_sem,n1,n2,n3,n4,n5,n1.symm,n2.symm,n3.symm,n4.symm,n5.symm,h2,h3,ed,hf6,e6,e6.symm,e6q,e6q.symm,e62,e63,c8])
   have hk3:=hk;rw[kO.eq_def,if_neg (by intro e;simp[e] at c8)] at hk3;refine IH _ d first i n _ _ (by simp only[dN,aT,aJ,ne_eq,reduceIte,dK,n1,n2,n3,n4,n5,n1.symm,n2.symm,n3.symm,n4.symm,n5.symm,h2,h3,ed,hf6,e6,e6.symm,e6q,e6q.symm,e62,e63]<;>(first|done|rfl|assumption)) hi hn (aW hk3 (fun a w m hk2 j hj hjT hw hm=>?_) (fun f h o=>?_))
   rotate_left
   ·simp only[go_sem];exact aO (h _ o (by repeat (first|exact fF _ _|refine sS ?_ rfl|refine pR ?_ rfl|refine gX ?_ hfree|refine eQ ?_|refine cT hq ?_|refine cT hf6 ?_)) (by simp only[dN,aT,aJ,ne_eq,reduceIte,dK,n1,n2,n3,n4,n5,n1.symm,n2.symm,n3.symm,n4.symm,n5.symm,h2,h3,ed,hf6,e6,e6.symm,e6q,e6q.symm,e62,e63]<;>(first|done|rfl|assumption)))
   simp only[go_sem,n1,n2,n3,n4,n5,n1.symm,n2.symm,n3.symm,n4.symm,n5.symm,h2,h3,ed,hf6,e6,e6.symm,e6q,e6q.symm,e62,e63,bO,Tm.cs];intro b7 hb7;rw[aT] at hb7;obtain ⟨e7,hb7⟩:=pS hb7;obtain ⟨e76,hb7⟩:=pS hb7;obtain ⟨_,hb7⟩:=pS hb7;obtain ⟨e7q,hf7⟩:=pS hb7;have e72:=(cF h2 hf7);have e73:=(cF h3 hf7);simp only[go_sem,n1,n2,n3,n4,n5,n1.symm,n2.symm,n3.symm,n4.symm,n5.symm,h2,h3,ed,hf6,e6,e6.symm,e6q,e6q.symm,e62,e63,hf7,e7,e7.symm,e7q,e7q.symm,e76,e76.symm,e72,e73];(refine aP (OT.l [0,1,2,3,4,5,6,8] (.pair 7 9)) [] ?_;simp only[go_sem,n1,n2,n3,n4,n5,n1.symm,n2.symm,n3.symm,n4.symm,n5.symm,h2,h3,ed,hf6,e6,e6.symm,e6q,e6q.symm,e62,e63,hf7,e7,e7.symm,e7q,e7q.symm,e76,e76.symm,e72,e73]);refine ⟨by decide,?_⟩;refine ⟨⟨by rw[eZ,if_pos rfl],fun y hy=>?_,by omega⟩,fun t ht=>?_⟩
   ·simp only[bW] at hy;obtain ⟨z,_,rfl⟩:=hy;exact Tm.hz z
   have hft:s.getT t=none:=aBW ht (hfree u rfl) (fun _=>rfl);have hk5:=hk2 j (some t) (by omega) hjT hw hm ⟨by simp only[aR,aF,aH] at hac ⊢;omega,h2,h3,hq,⟨n1,n2,n3,n4,n5⟩,fun e=>(by cases e),fun t' e=>by cases e;exact hft⟩;simp only[gT,cL] at hk5;rw[show (acc++[a]).length=acc.length+1 by simp,bO a] at hk5;refine aM (s2:=(gs ((s.setO q (.cells 43 [.int .i64 5,.int .i64 0,.str x,.str [],.list (some t) ((acc++[a]).map Tm.enc),.nils])).setO r (bC T fin d first j m)) (some t) (acc.length+1) 43).setL none) hk5 (St.ge.trans (aDM (hfree u rfl)) (aEW (fun b o hb=>?_) (fun _=>rfl)));simp only[aJ] at hb ⊢;by_cases hb1:q=b
   ·subst hb1;simp only[n1,n1.symm,e6q,e6q.symm,e7q,e7q.symm,if_true,if_false] at hb ⊢;simpa [bO,Tm.cs] using hb
   ·by_cases hb2:r=b
    ·subst hb2;simp only[hb1,e6,e6.symm,e7,e7.symm,if_true,if_false] at hb ⊢;exact hb
    ·simp only[hb1,hb2,if_false] at hb ⊢;by_cases hb3:b6=b
     ·subst hb3;rw[hf6] at hb;cases hb
     ·by_cases hb4:b7=b
      ·subst hb4;rw[hf7] at hb;cases hb
      ·simp only[hb3,hb4,if_false];exact hb
  ·(try simp only [go_sem,n1,n2,n3,n4,n5,n1.symm,n2.symm,n3.symm,n4.symm,n5.symm,h2,h3,ed,hf6,e6,e6.symm,e6q,e6q.symm,e62,e63,c8])
   rw[kO.eq_def,if_pos (by simp at c8;omega)] at hk;refine aBm (T:=T) (fin:=fin) (d:=d) (first:=first) (i:=i) (n:=n) (by simp only[dN,aT,aJ,ne_eq,reduceIte,dK,n1,n2,n3,n4,n5,n1.symm,n2.symm,n3.symm,n4.symm,n5.symm,h2,h3,ed,hf6,e6,e6.symm,e6q,e6q.symm,e62,e63]<;>(first|done|rfl|assumption)) hi ?_;cases hw0:T.drop i with
   | nil =>
    rw[hw0] at hk;intro o;simp only[go_sem];exact aO (hk _ o (by repeat (first|exact fF _ _|refine sS ?_ rfl|refine pR ?_ rfl|refine gX ?_ hfree|refine eQ ?_|refine cT hq ?_|refine cT hf6 ?_)) (by simp only[dN,aT,aJ,ne_eq,reduceIte,dK,n1,n2,n3,n4,n5,n1.symm,n2.symm,n3.symm,n4.symm,n5.symm,h2,h3,ed,hf6,e6,e6.symm,e6q,e6q.symm,e62,e63]<;>(first|done|rfl|assumption)))
   | cons t0 w0 =>
    rw[hw0] at hk;simp only at hk ⊢;cases hb0:t0.begins with
    | true =>
     rw[hb0] at hk;simp only[if_true,bN,pC,if_false,eH] at hk;simp only[go_sem,n1,n2,n3,n4,n5,n1.symm,n2.symm,n3.symm,n4.symm,n5.symm,h2,h3,ed,hf6,e6,e6.symm,e6q,e6q.symm,e62,e63];refine kB (T:=T) (fin:=fin) (d:=d) (first:=first) (i:=i) (n:=n) (by simp only[dN,aT,aJ,ne_eq,reduceIte,dK,n1,n2,n3,n4,n5,n1.symm,n2.symm,n3.symm,n4.symm,n5.symm,h2,h3,ed,hf6,e6,e6.symm,e6q,e6q.symm,e62,e63]<;>(first|done|rfl|assumption)) hi ?_;rw[hw0];simp only[go_sem];refine aD7 t0 ?_;simp only[go_sem];exact aO (hk _ _ (by repeat (first|exact fF _ _|refine sS ?_ rfl|refine pR ?_ rfl|refine gX ?_ hfree|refine eQ ?_|refine cT hq ?_|refine cT hf6 ?_)) (by simp only[dN,aT,aJ,ne_eq,reduceIte,dK,n1,n2,n3,n4,n5,n1.symm,n2.symm,n3.symm,n4.symm,n5.symm,h2,h3,ed,hf6,e6,e6.symm,e6q,e6q.symm,e62,e63]<;>(first|done|rfl|assumption)))
    | false =>
     rw[hb0] at hk;simp only[bN,if_false] at hk;have hk3:=hk;rw[← hw0] at hk3;simp only[go_sem,n1,n2,n3,n4,n5,n1.symm,n2.symm,n3.symm,n4.symm,n5.symm,h2,h3,ed,hf6,e6,e6.symm,e6q,e6q.symm,e62,e63];refine IH _ d first i n _ _ (by simp only[dN,aT,aJ,ne_eq,reduceIte,dK,n1,n2,n3,n4,n5,n1.symm,n2.symm,n3.symm,n4.symm,n5.symm,h2,h3,ed,hf6,e6,e6.symm,e6q,e6q.symm,e62,e63]<;>(first|done|rfl|assumption)) hi hn (aW hk3 (fun a w m hk2 j hj hjT hw hm=>?_) (fun f h o=>?_))
     rotate_left
     ·simp only[go_sem];exact aO (h _ o (by repeat (first|exact fF _ _|refine sS ?_ rfl|refine pR ?_ rfl|refine gX ?_ hfree|refine eQ ?_|refine cT hq ?_|refine cT hf6 ?_)) (by simp only[dN,aT,aJ,ne_eq,reduceIte,dK,n1,n2,n3,n4,n5,n1.symm,n2.symm,n3.symm,n4.symm,n5.symm,h2,h3,ed,hf6,e6,e6.symm,e6q,e6q.symm,e62,e63]<;>(first|done|rfl|assumption)))
     simp only[go_sem,n1,n2,n3,n4,n5,n1.symm,n2.symm,n3.symm,n4.symm,n5.symm,h2,h3,ed,hf6,e6,e6.symm,e6q,e6q.symm,e62,e63,bO,Tm.cs];intro b7 hb7;rw[aT] at hb7;obtain ⟨e7,hb7⟩:=pS hb7;obtain ⟨e76,hb7⟩:=pS hb7;obtain ⟨_,hb7⟩:=pS hb7;obtain ⟨e7q,hf7⟩:=pS hb7;have e72:=(cF h2 hf7);have e73:=(cF h3 hf7);simp only[go_sem,n1,n2,n3,n4,n5,n1.symm,n2.symm,n3.symm,n4.symm,n5.symm,h2,h3,ed,hf6,e6,e6.symm,e6q,e6q.symm,e62,e63,hf7,e7,e7.symm,e7q,e7q.symm,e76,e76.symm,e72,e73];(refine aP (OT.l [0,1,2,3,4,5,6,8] (.pair 7 9)) [] ?_;simp only[go_sem,n1,n2,n3,n4,n5,n1.symm,n2.symm,n3.symm,n4.symm,n5.symm,h2,h3,ed,hf6,e6,e6.symm,e6q,e6q.symm,e62,e63,hf7,e7,e7.symm,e7q,e7q.symm,e76,e76.symm,e72,e73]);refine ⟨by decide,?_⟩;refine ⟨⟨by rw[eZ,if_pos rfl],fun y hy=>?_,by omega⟩,fun t ht=>?_⟩
     ·simp only[bW] at hy;obtain ⟨z,_,rfl⟩:=hy;exact Tm.hz z
     have hft:s.getT t=none:=aBW ht (hfree u rfl) (fun _=>rfl);have hk5:=hk2 j (some t) (by omega) hjT hw hm ⟨by simp only[aR,aF,aH] at hac ⊢;omega,h2,h3,hq,⟨n1,n2,n3,n4,n5⟩,fun e=>(by cases e),fun t' e=>by cases e;exact hft⟩;simp only[gT,cL] at hk5;rw[show (acc++[a]).length=acc.length+1 by simp,bO a] at hk5;refine aM (s2:=(gs ((s.setO q (.cells 43 [.int .i64 5,.int .i64 0,.str x,.str [],.list (some t) ((acc++[a]).map Tm.enc),.nils])).setO r (bC T fin d first j m)) (some t) (acc.length+1) 43).setL none) hk5 (St.ge.trans (aDM (hfree u rfl)) (aEW (fun b o hb=>?_) (fun _=>rfl)));simp only[aJ] at hb ⊢;by_cases hb1:q=b
     ·subst hb1;simp only[n1,n1.symm,e6q,e6q.symm,e7q,e7q.symm,if_true,if_false] at hb ⊢;simpa [bO,Tm.cs] using hb
     ·by_cases hb2:r=b
      ·subst hb2;simp only[hb1,e6,e6.symm,e7,e7.symm,if_true,if_false] at hb ⊢;exact hb
      ·simp only[hb1,hb2,if_false] at hb ⊢;by_cases hb3:b6=b
       ·subst hb3;rw[hf6] at hb;cases hb
       ·by_cases hb4:b7=b
        ·subst hb4;rw[hf7] at hb;cases hb
        ·simp only[hb3,hb4,if_false];exact hb
end
end
section
section
variable {T:List Tok} {fin:Fault} {d:Dc} {first:Tok} {i n:Nat} {s:St} {r:Nat} {KV Kp:St→A→Prop}
theorem aGq (hr:s.getO r=some (bC T fin d first i n)) (hk:KV s (.bool false)):Den cx 237 [.ptr r 0] KV Kp s:=by
 simp only[go_sem] at hr;(refine aZ func237 [0,2] ?_;simp only[go_sem,ntmps237,f237]);simp only[go_sem,hr];exact aO hk
theorem aMu (hr:s.getO r=some (bC T fin d first i n)) (hk:KV s (.str [])):Den cx 238 [.ptr r 0] KV Kp s:=by
 simp only[go_sem] at hr;(refine aZ func238 [0,2,12] ?_;simp only[go_sem,ntmps238,f238]);simp only[go_sem,hr];exact aO hk
theorem aHi {α:Type} (fin:Fault) (sep:aD) (one:List α→List Tok→Nat→Rd α):∀ (f:Nat) (a:List α) (l:List α) (w:List Tok) (n:Nat) (p:List α→List Tok→Nat→Prop) (b:Fault→Prop),
  (dH fin sep (fun acc w n=>(one acc w n).bind fun a w n=>.ok (acc++[a]) w n) f a w n).to p b →
  (dH fin sep (fun (c:List α × List α) w n=>((one c.1 w n).bind fun a w n=>Rd.ok (c.1++[a],a) w n).bind fun q w n=>.ok (q.1,c.2++[q.2]) w n) f (a,l) w n).to (fun c w n=>p c.1 w n) b
 | 0,a,l,w,n,p,b,h=>h
 | f+1,a,l,w,n,p,b,h=>by
  simp only[dH,bL] at h ⊢;refine aW h (fun x w n h=>?_) (fun _ h=>h);simp only[bU] at h ⊢;split
  ·rename_i e;rw[if_pos e] at h;exact aHi fin sep one f (a++[x]) (l++[x]) w.tail n p b h
  ·rename_i e;rw[if_neg e] at h;exact h
theorem aMo (k:Nat) (hk60:k≤60) (IH:vV T fin r k) (t:Tok) (ht:t∈T) (hr:s.getO r=some (bC T fin d first i n)) (hi:i≤T.length) (hT:TOk T) (hn:n≤2000)
  (hk:(qQ false fin first (eE false fin first k) t (T.drop i) n).to (PK T i (fun j m=>s.setO r (bC T fin d first j m)) Tm.enc KV) (PB s r Kp)) :
  Den cx 167 [.ptr r 0,t.enc,.int .i64 ((60-k:Nat):Int)] KV Kp s:=by
 simp only[go_sem];(refine aZ func167 [0,1,2,3,4,5,6,7,8,9,19,29,47] ?_;simp only[go_sem,ntmps167,f167]);(intro b3 hb3;try simp only[aV,ne_eq] at hb3);simp only[go_sem,hb3];(intro b4 hb4;try simp only[aV,ne_eq] at hb4);simp only[go_sem,hb3,hb4];(intro b5 hb5;try simp only[aV,ne_eq] at hb5);simp only[go_sem,hb3,hb4,hb5];(intro b6 hb6;try simp only[aV,ne_eq] at hb6);have e3:=cF hr hb3;have e4:=cF hr hb4.2;have e5:=cF hr hb5.2.2;have e6:=cF hr hb6.2.2.2;have hr2:=hr;simp only[go_sem] at hr2;have hlen:=hT.len;simp only[go_sem,hb3,hb4,hb5,hb6,e3,e4,e5,e6];rw[qQ.eq_def] at hk;cases c1:decide (t.text=[116,114,117,101]);rotate_left
 ·rw[if_pos (by simpa using c1),bU] at hk;simp only[go_sem,hb3,hb4,hb5,hb6,e3,e4,e5,e6,c1];refine aGq (T:=T) (fin:=fin) (d:=d) (first:=first) (i:=i) (n:=n) gH ?_;simp only[go_sem,hb3,hb4,hb5,hb6,e3,e4,e5,e6,c1];exact DK.mk (hk i (bE _) hi rfl hn) (St.gx.ge aQ gH) (Tm.le_leaf _ _ _ _)
 rw[if_neg (by simpa using c1)] at hk;simp only[go_sem,hb3,hb4,hb5,hb6,e3,e4,e5,e6,c1];cases c2:decide (t.text=[102,97,108,115,101]);rotate_left
 ·rw[if_pos (by simpa using c2),bU] at hk;simp only[go_sem,hb3,hb4,hb5,hb6,e3,e4,e5,e6,c1,c2];refine aGq (T:=T) (fin:=fin) (d:=d) (first:=first) (i:=i) (n:=n) gH ?_;simp only[go_sem,hb3,hb4,hb5,hb6,e3,e4,e5,e6,c1,c2];exact DK.mk (hk i (bE _) hi rfl hn) (St.gx.ge aQ gH) (Tm.le_leaf _ _ _ _)
 rw[if_neg (by simpa using c2)] at hk;simp only[go_sem,hb3,hb4,hb5,hb6,e3,e4,e5,e6,c1,c2];refine iZ (T:=T) (fin:=fin) (d:=d) (first:=first) (i:=i) (n:=n) _ gH hi hT ?_;cases c3:bI [58] (T.drop i) with
 | true =>
  rw[if_pos c3,bL,mO] at hk;have hlt:=kY c3;simp only[go_sem,hb3,hb4,hb5,hb6,e3,e4,e5,e6];(refine aP (OT.r 0 6) [(3,[1])] ?_;simp only[go_sem,hb3,hb4,hb5,hb6,e3,e4,e5,e6]);refine iC (T:=T) (fin:=fin) (d:=d) (first:=first) (i:=i+1) (n:=n) gH hlt hT (aW hk (fun x w m h hlt2 hw hm=>?_) (fun f h=>PB.mk aQ h));subst hm;rw[bU] at h;simp only[go_sem,hb3,hb4,hb5,hb6,e3,e4,e5,e6];exact DK.mk (h (i+1+1) (by omega) hlt2 hw hn) (St.gx.ge aQ gH) (Tm.le_leaf _ _ _ _)
 | false =>
  rw[if_neg (by simp[c3]),bL] at hk;simp only[go_sem,hb3,hb4,hb5,hb6,e3,e4,e5,e6];(refine aP (OT.r 0 8) [(3,[1]),(6,[1,2])] ?_;simp only[go_sem,hb3,hb4,hb5,hb6,e3,e4,e5,e6]);refine aMu (T:=T) (fin:=fin) (d:=d) (first:=first) (i:=i) (n:=n) gH ?_;simp only[go_sem,hb3,hb4,hb5,hb6,e3,e4,e5,e6];refine ⟨by have:=hT.txt t ht;unfold maxLen;omega,?_⟩;rw[wZ];(intro b7 hb7;try simp only[aV,ne_eq] at hb7);have e7:=cF hr hb7.2.2.2.2;simp only[go_sem,hb3,hb4,hb5,hb6,e3,e4,e5,e6,hb7,e7];refine fH (T:=T) (fin:=fin) (d:=d) (first:=first) (i:=i) (n:=n) _ gH hi hT (aW hk (fun _ w m h hlt hw hm=>?_) (fun f h=>PB.mk aQ h));subst hw hm;simp only[go_sem,hb3,hb4,hb5,hb6,e3,e4,e5,e6,hb7,e7];refine iZ (T:=T) (fin:=fin) (d:=d) (first:=first) (i:=i+1) (n:=_) _ gH hlt hT ?_;cases c4:bI [41] (T.drop (i+1)) with
  | true =>
   rw[if_pos c4,bU] at h;have hlt2:=kY c4;simp only[go_sem,hb3,hb4,hb5,hb6,e3,e4,e5,e6,hb7,e7];refine DK.mk (h (i+1+1) (by omega) hlt2 (by simp) hn) (St.gx.ge aQ gH) ?_;exact Tm.le_leaf _ _ _ _
  | false =>
   rw[if_neg (by simp[c4]),bL] at h;simp only[go_sem,hb3,hb4,hb5,hb6,e3,e4,e5,e6,hb7,e7]
   refine aDG (fin:=fin) (σ:=List Tm) (α:=Tm) (X:=Option Nat) (r:=r) Tm.enc Tm.hz Tm.ho hT
    (fun s' acc tk i n=>gT T fin d first 5 t.text b7 r s' acc tk i n) (fun s' acc tk i=>EntQ b3 b5 b7 r k s' acc tk i) (fun acc w n=>(kO false fin first (eE false fin first k) acc w n).bind fun a w n=>.ok (acc++[a],a) w n) 239 [] [.ptr b7 0,.ptr b3 0,.ptr b5 0]
    (fun s' a x i n=>⟨d,first,aJu e7.2,aHu⟩) (fun s' a x i n t v h ht=>?_) (fun s' a x i n t v u ht h=>?_) (fun s' a x i n t v ht h=>⟨h.dropT,aGQ ht⟩)
    (fun s' a x i h=>⟨by have:=h.len;omega,h.h2,h.h3,h.hq,h.ne,h.nil,h.free⟩) (fun s' a x i n h=>gX (eQ (cT h.hq (fF _ _))) h.free)
    (fun s' a x i n KV' Kp' h hi' hn' hk'=>aNh k b3 b5 b7 t.text hk60 IH hT a x h hi' hn' (by rw[bL] at hk';exact aW hk' (fun _ _ _ h=>h) (fun _ h=>h)))
    [] none (i+1) _ ?_ hlt hn ?_
   ·have ht':=ht;rw[xK] at ht';have hx:x≠some t:=fun e=>by rw[if_pos e] at ht';cases ht'
    rw[if_neg hx] at ht';exact ⟨ht',h.setT hx,aGW hx⟩
   ·have hx:=h.unT.1;refine ⟨by rw[xK,if_neg hx,cO,if_pos rfl],h.dropT.setT hx,aG2 hx⟩
   ·refine ⟨bS _,gH,gH,?_,⟨e7.2,?_,?_,e3.1,e5.1⟩,fun _=>rfl,fun t e=>(by cases e)⟩
    ·simp only[aJ,ne_eq,reduceIte,hb7]
    ·exact hb7.2.2.2.1.2
    ·exact hb7.2.1.2
   refine aW (aHi _ _ _ _ _ [] _ _ _ _ h) (fun c w m2 hk2 j y hj hjT hw hm hy=>?_) (fun f h s1 o hg hr1=>h.at (hg.trans aQ) hr1);obtain ⟨l,ul⟩:=c;simp only at hk2 hy;subst hw;rw[bL] at hk2;have hfy:∀ t,y=some t→s.getT t=none:=hy.free
   have hny:=hy.nil;simp only[gT];simp only[go_sem,hb3,hb4,hb5,hb6,e3,e4,e5,e6,hb7,e7];refine fH (T:=T) (fin:=fin) (d:=d) (first:=first) (i:=j) (n:=m2) _ (by simp only[dN,aT,aJ,ne_eq,reduceIte,dK,hb3,hb4,hb5,hb6,e3,e4,e5,e6,hb7,e7]<;>(first|done|rfl|assumption)) hjT hT (aW hk2 (fun _ w3 m3 hk4 hlt3 hw3 hm3=>?_) (fun f h=>PB.mk (by repeat (first|exact fF _ _|refine gX ?_ hfy|refine eQ ?_|refine cT hb3 ?_|refine cT hb4.2 ?_|refine cT hb5.2.2 ?_|refine cT hb6.2.2.2 ?_|refine cT hb7.2.2.2.2 ?_)) h));rw[bU] at hk4;subst hm3;simp only[go_sem,hb3,hb4,hb5,hb6,e3,e4,e5,e6,hb7,e7];refine ⟨lM y _,?_⟩;refine DK.mk (hk4 (j+1) (by omega) hlt3 hw3 hm) (St.gx.ge (by repeat (first|exact fF _ _|refine gX ?_ hfy|refine eQ ?_|refine cT hb3 ?_|refine cT hb4.2 ?_|refine cT hb5.2.2 ?_|refine cT hb6.2.2.2 ?_|refine cT hb7.2.2.2.2 ?_)) (by simp only[dN,aT,aJ,ne_eq,reduceIte,dK,hb3,hb4,hb5,hb6,e3,e4,e5,e6,hb7,e7]<;>(first|done|rfl|assumption))) ?_;rw[bO];exact A.le.agg ⟨⟨aK _,rfl⟩,⟨aK _,rfl⟩,⟨aK _,rfl⟩,⟨aK _,rfl⟩,⟨fN y _ (fun e=>by rw[hny e];rfl),rfl⟩,⟨A.le.nil,rfl⟩,trivial⟩
end
end
section
section
variable {T:List Tok} {fin:Fault} {r:Nat}
theorem aOO (hT:TOk T):∀ k,k≤60→vV T fin r k:=by
 intro k
 induction k with
 | zero =>
  intro _ s d first i n KV Kp hr hi hn hk
  have e61:decide ((60:Int)<((61:Nat):Int))=true:=by decide
  have e62:decide ((60:Int)<((61-0:Nat):Int))=true:=by decide
  (refine aZ func92 [0,1,4,5,10,14,27,28,33,38] ?_;simp only[go_sem,ntmps92,f92]);(intro b4 hb4;try simp only[aV,ne_eq] at hb4);have e4:=cF hr hb4;simp only[go_sem,hb4,e4];refine kB (T:=T) (fin:=fin) (d:=d) (first:=first) (i:=i) (n:=n) gH hi ?_;cases hw:T.drop i with
  | nil=>rw[hw] at hk;exact hk.at aQ gH
  | cons t w =>
   rw[hw] at hk;simp only[go_sem,hb4,e4];(intro b5 hb5;try simp only[aV,ne_eq] at hb5);have e5:=cF hr hb5.2;simp only[go_sem,hb4,e4,hb5,e5];refine aBm (T:=T) (fin:=fin) (d:=d) (first:=first) (i:=i) (n:=n) gH hi ?_;rw[hw];simp only[eE] at hk ⊢;cases hb:t.begins with
   | true =>
    rw[hb] at hk;simp only[if_true,eH] at hk;simp only[go_sem,hb4,e4,hb5,e5,e61,e62];refine nZ (T:=T) (fin:=fin) (d:=d) (first:=first) (i:=i) (n:=n) 19 gH hi hT ?_;rw[hw];exact hk.at aQ gH
   | false =>
    rw[hb] at hk;simp only[bN,if_false,eH] at hk;simp only[go_sem,hb4,e4,hb5,e5];refine nZ (T:=T) (fin:=fin) (d:=d) (first:=first) (i:=i) (n:=n) 11 gH hi hT ?_;rw[hw];exact hk.at aQ gH
 | succ k ih =>
  intro hk60 s d first i n KV Kp hr hi hn hk
  rw[show (61-(k+1):Nat)=60-k by omega];have IH:=ih (by omega);have hlen:=hT.len;have e60:decide ((60:Int)<((60-k:Nat):Int))=false:=by rw[tY];omega
  (refine aZ func92 [0,1,4,5,10,14,27,28,33,38] ?_;simp only[go_sem,ntmps92,f92]);(intro b4 hb4;try simp only[aV,ne_eq] at hb4);have e4:=cF hr hb4;simp only[go_sem,hb4,e4];refine kB (T:=T) (fin:=fin) (d:=d) (first:=first) (i:=i) (n:=n) gH hi ?_;cases hw:T.drop i with
  | nil=>rw[hw] at hk;exact hk.at aQ gH
  | cons t w =>
   rw[hw] at hk;obtain ⟨h1,h2,h3,h4⟩:=lI hw;simp only[go_sem,hb4,e4];(intro b5 hb5;try simp only[aV,ne_eq] at hb5);have e5:=cF hr hb5.2;simp only[go_sem,hb4,e4,hb5,e5];refine aBm (T:=T) (fin:=fin) (d:=d) (first:=first) (i:=i) (n:=n) gH hi ?_;rw[hw];simp only[eE] at hk ⊢;cases hb:t.begins with
   | false =>
    rw[hb] at hk;simp only[bN,if_false,eH] at hk;simp only[go_sem,hb4,e4,hb5,e5];refine nZ (T:=T) (fin:=fin) (d:=d) (first:=first) (i:=i) (n:=n) 11 gH hi hT ?_;rw[hw];exact hk.at aQ gH
   | true =>
    rw[hb] at hk;simp only[if_true,bL] at hk;simp only[go_sem,hb4,e4,hb5,e5,e60];refine aH8 (T:=T) (fin:=fin) (d:=d) (first:=first) (i:=i) (n:=n) gH hn ?_
    have hk':(oG first (T.drop i) n).to (fun _ w' m0=>w'=T.drop i→m0≤2000→((if t.kind=2 then Rd.ok (Tm.mk 1 t.n [] [] [] []) w m0 else if t.kind=3 then Rd.ok (Tm.mk 3 0 t.text [] [] []) w m0 else if t.kind=1 then qQ false fin first (eE false fin first k) t w m0 else pG fin first (eE false fin first k) (decide (k=0)) t w m0)).to (PK T (i+1) (fun j m=>s.setO r (bC T fin d first j m)) Tm.enc KV) (PB s r Kp)) (PB s r Kp):=by
     unfold oG at hk ⊢;split
     ·rename_i hc;rw[if_pos hc] at hk;exact hk
     ·rename_i hc;rw[if_neg hc] at hk;exact fun _ _=>hk
    refine aW hk' (fun _ w' m0 hk2 hw' hm0=>?_) (fun f h=>PB.mk aQ h);have hk2:=hk2 hw' hm0;simp only[go_sem,hb4,e4,hb5,e5,bP i (by omega)];(refine cD (fun h=>?_) (fun h=>?_))<;>simp only[go_sem,h,hb4,e4,hb5,e5]
    ·have x2:t.kind=2:=by simpa using h
     rw[if_pos x2,bU] at hk2
     (try simp only[go_sem,hb4,e4,hb5,e5])
     exact DK.mk (hk2 (i+1) (bE _) h2 h3 hm0) (St.gx.ge aQ gH) (Tm.le_leaf _ _ _ _)
    have x2:¬ t.kind=2:=by simpa using h
    rw[if_neg x2] at hk2
    (try simp only[go_sem,hb4,e4,hb5,e5])
    (refine cD (fun h=>?_) (fun h=>?_))<;>simp only[go_sem,h,hb4,e4,hb5,e5]
    ·have x3:t.kind=3:=by simpa using h
     rw[if_pos x3,bU] at hk2
     (try simp only[go_sem,hb4,e4,hb5,e5])
     exact DK.mk (hk2 (i+1) (bE _) h2 h3 hm0) (St.gx.ge aQ gH) (Tm.le_leaf _ _ _ _)
    have x3:¬ t.kind=3:=by simpa using h
    rw[if_neg x3] at hk2
    (try simp only[go_sem,hb4,e4,hb5,e5])
    have fin_:∀ (a:Tm) (w:List Tok) (m:Nat),PK T (i+1) (fun j m=>s.setO r (bC T fin d first j m)) Tm.enc KV a w m →
      ∀ (j:Nat),i+1≤j→j≤T.length→T.drop j=w→m≤2000→KV (s.setO r (bC T fin d first j m)) (.agg a.cs):=fun a w m h j h1 h2 h3 h4=>by
     rw[← bO];exact h j h1 h2 h3 h4
    (refine cD (fun h=>?_) (fun h=>?_))<;>simp only[go_sem,h,hb4,e4,hb5,e5]
    ·have x1:t.kind=1:=by simpa using h
     rw[if_pos x1,← h3] at hk2
     (try simp only[go_sem,hb4,e4,hb5,e5])
     refine aMo (T:=T) (fin:=fin) (d:=d) (first:=first) (i:=i+1) (n:=m0) k (by omega) IH t h4 gH h2 hT hm0 (aW hk2 (fun a w m h j hj hjT hw hm=>?_) (fun f h=>PB.mk aQ h));have h':=fin_ _ _ _ h j hj hjT hw hm;simp only[go_sem] at h';simp only[go_sem,hb4,e4,hb5,e5,bO];exact aM h' (St.gx.ge aQ gH)
    ·have x1:¬ t.kind=1:=by simpa using h
     rw[if_neg x1,← h3] at hk2
     (try simp only[go_sem,hb4,e4,hb5,e5])
     refine aMk (T:=T) (fin:=fin) (d:=d) (first:=first) (i:=i+1) (n:=m0) k (by omega) IH t gH h2 hT hm0 h4 (aW hk2 (fun a w m h j hj hjT hw hm=>?_) (fun f h=>PB.mk aQ h));have h':=fin_ _ _ _ h j hj hjT hw hm;simp only[go_sem] at h';simp only[go_sem,hb4,e4,hb5,e5,bO];exact aM h' (St.gx.ge aQ gH)
end
end
section
section
variable {T:List Tok} {fin:Fault} {d:Dc} {first:Tok} {i n:Nat} {s:St} {r:Nat} {KV Kp:St→A→Prop}
theorem rP (hT:TOk T) (hr:s.getO r=some (bC T fin d first i n)) (hi:i≤T.length) (hn:n≤2000)
  (hk:(gI false fin (T.drop i) n).to (PK T (i+1) (fun j m=>s.setO r (bC T fin d first j m)) Tm.enc KV) (PB s r Kp)):Den cx 41 [.ptr r 0] KV Kp s:=by
 (refine aZ func41 [0,2,3,4,5] ?_;simp only[go_sem,ntmps41,f41]);have hr2:=hr;simp only[go_sem] at hr2;(intro b2 hb2;try simp only[aV,aT,ne_eq] at hb2);have e2:=cF hr (by first|exact hb2|exact hb2.2|exact hb2.2.2|exact hb2.2.2.2|exact hb2.2.2.2.2|exact hb2.2.2.2.2.2|exact hb2.2.2.2.2.2.2);simp only[go_sem,hr2,hb2,e2];(refine aP (OT.r 0 11) [(8,[3,7]),(9,[7])] ?_;simp only[go_sem,hr2,hb2,e2]);(intro b3 hb3;try simp only[aV,aT,ne_eq] at hb3);have e3:=cF hr (by first|exact hb3|exact hb3.2|exact hb3.2.2|exact hb3.2.2.2|exact hb3.2.2.2.2|exact hb3.2.2.2.2.2|exact hb3.2.2.2.2.2.2);simp only[go_sem,hr2,hb2,e2,hb3,e3]
 have hpk:(match T.drop i with|t::w=>(match eE false fin t 60 (T.drop i) 0 with|.ok a w _=>Rd.ok a w n|.bad f=>.bad f).to (PK T (i+1) (fun j m=>s.setO r (bC T fin d first j m)) Tm.enc KV) (PB s r Kp)|[]=>PB s r Kp fin):=by
  unfold gI at hk;revert hk;cases T.drop i with
  | nil=>exact fun h=>h
  | cons t w=>exact fun h=>h
 refine kB (T:=T) (fin:=fin) (d:=d) (first:=first) (i:=i) (n:=n) gH hi ?_;cases hw:T.drop i with
 | nil=>rw[hw] at hpk;exact hpk.at aQ gH
 | cons t w =>
  rw[hw] at hpk;simp only at hpk ⊢;simp only[go_sem,hr2,hb2,e2,hb3,e3];refine aOO hT 60 (bE _) _ d t i 0 _ _ gH hi (bS _) ?_;rw[hw];cases ht:eE false fin t 60 (t::w) 0 with
  | bad f=>rw[ht] at hpk;exact PB.mk aQ hpk
  | ok a w2 m =>
   rw[ht] at hpk;intro j hj hjT hw2 hm;have hk2:=hpk j hj hjT hw2 hn;simp only[bO] at hk2;simp only[go_sem,hr2,hb2,e2,hb3,e3];(intro b5 hb5;try simp only[aV,aT,ne_eq] at hb5);have e5:=cF hr (by first|exact hb5|exact hb5.2|exact hb5.2.2|exact hb5.2.2.2|exact hb5.2.2.2.2|exact hb5.2.2.2.2.2|exact hb5.2.2.2.2.2.2);simp only[go_sem,hr2,hb2,e2,hb3,e3,hb5,e5];exact aM hk2 (St.gx.ge aQ gH)
theorem dG {s1:St} {f:Fault} (hg:s1.gx s r) (h:∀ s1 o,s1.gx s r→s1.getO r=some o→Kp s1 (.iface 36 f.enc)):PB s1 r (DK Kp) f:=fun o=>aO (h _ o (eQ hg) (by rw[aJ,if_pos rfl]))
def aAJ (fin:Fault) (a:Nat) (w:List Tok) (n:Nat):Rd Tm:=match w with
 | []=>.bad fin
 | t::r=>if t.begins=true then (aCs fin a 20 (t::r) n).bind fun _ w n=>gI false fin w n else gI false fin (t::r) n
def qA (T:List Tok) (fin:Fault) (d:Dc) (first:Tok) (b3 r:Nat) (s:St) (a i n:Nat):St :=
 (s.setO b3 (.cells 3 [.int .i64 (a:Int)])).setO r (bC T fin d first i n)
structure CndQ (b1 b3 r:Nat) (s:St) (a i:Nat):Prop where
 len:a≤i
 h1:s.getO b1=some (.cells 74 [.ptr r 0])
 h3:s.getO b3=none
 ne:b1≠r∧b3≠r∧b1≠b3
theorem aM1 (hT:TOk T) (b1 b3 a:Nat) (hQ:CndQ b1 b3 r s a i) (hi:i≤T.length) (hn:n≤2000)
  (hk : (aAJ fin a (T.drop i) n).to (fun x w n' => ∀ j,i + 1 ≤ j → j ≤ T.length → T.drop j = w → n' ≤ 2000 → KV (qA T fin d first b3 r s (a + 1) j n') x.enc)
   (fun f=>∀ s1 o,s1.gx s r→s1.getO r=some o→Kp s1 (.iface 36 f.enc))):Den cx 223 [.ptr b1 0,.ptr b3 0] KV Kp (qA T fin d first b3 r s a i n):=by
 obtain ⟨hac,h1,h3,n1,n2,n3⟩:=hQ;have hlen:=hT.len;(refine aZ func223 [0,1,2,4] ?_;simp only[go_sem,ntmps223,f223]);unfold qA;have m1:=n1.symm;have m2:=n2.symm;have m3:=n3.symm;(intro b2 hb2;try simp only[aV,ne_eq] at hb2);have e2:=cF h1 hb2.2.2;simp only[go_sem,n1,n2,n3,n1.symm,n2.symm,n3.symm,h1,hb2,e2];refine aBm (T:=T) (fin:=fin) (d:=d) (first:=first) (i:=i) (n:=n) gH hi ?_
 have fin_:∀ (KV2:St→A→Prop) (s2:St),s2.gx s r→s2.getO r=some (bC T fin d first i n) →
   (∀ (j:Nat) (x:Tm) (m:Nat),i+1≤j→j≤T.length→m≤2000→(∀ w,T.drop j=w→KV (qA T fin d first b3 r s (a+1) j m) x.enc)→KV2 (s2.setO r (bC T fin d first j m)) x.enc) →
   (gI false fin (T.drop i) n).to (fun x w n' => ∀ j,i + 1 ≤ j → j ≤ T.length → T.drop j = w → n' ≤ 2000 → KV (qA T fin d first b3 r s (a + 1) j n') x.enc)
    (fun f=>∀ s1 o,s1.gx s r→s1.getO r=some o→Kp s1 (.iface 36 f.enc))→Den cx 41 [.ptr r 0] KV2 (DK Kp) s2:=by
  intro KV2 s2 hg hr2 hkv hw;refine rP hT hr2 hi hn (aW hw (fun x w m h j hj hjT hw hm=>hkv j x m hj hjT hm fun w' hw'=>?_) (fun f h=>dG hg h));exact h j hj hjT hw hm
 cases hw:T.drop i with
 | nil=>rw[hw] at hk;exact dG aQ hk
 | cons t w =>
  rw[hw] at hk fin_;simp only[aAJ] at hk ⊢;cases hb:t.begins with
  | true =>
   rw[hb] at hk;simp only[if_true,bL,aCs] at hk;simp only[go_sem,n1,n2,n3,n1.symm,n2.symm,n3.symm,h1,hb2,e2];refine mP (T:=T) (fin:=fin) (d:=d) (first:=first) (i:=i) (n:=n) _ _ gH hi ?_;by_cases h20:20≤a
   ·rw[if_pos h20] at hk;rw[if_pos (by omega),hw];exact dG aQ hk
   ·rw[if_neg h20,bU] at hk;rw[if_neg (by omega)];simp only[go_sem,n1,n2,n3,n1.symm,n2.symm,n3.symm,h1,hb2,e2,bP a (by omega)];refine fin_ _ _ aQ gH (fun j x m hj hjT hm h=>?_) hk;have hk2:=h _ rfl;simp only[bO,qA] at hk2;simp only[go_sem,n1,n2,n3,n1.symm,n2.symm,n3.symm,h1,hb2,e2,bO];exact aM hk2 aL
  | false =>
   rw[hb] at hk;simp only[bN,if_false] at hk;simp only[go_sem,n1,n2,n3,n1.symm,n2.symm,n3.symm,h1,hb2,e2,bP a (by omega)];refine fin_ _ _ aQ gH (fun j x m hj hjT hm h=>?_) hk;have hk2:=h _ rfl;simp only[bO,qA] at hk2;simp only[go_sem,n1,n2,n3,n1.symm,n2.symm,n3.symm,h1,hb2,e2,bO];exact aM hk2 aL
theorem aGv {α:Type} (fin:Fault) (sep:aD) (one:List α→List Tok→Nat→Rd α):∀ (f:Nat) (a:List α) (w:List Tok) (n:Nat) (p:List α→List Tok→Nat→Prop) (b:Fault→Prop),
  (dH fin sep (fun acc w n=>(one acc w n).bind fun a w n=>.ok (acc++[a]) w n) f a w n).to p b →
  (dH fin sep (fun (c:List α × List α) w n=>((one c.1 w n).bind fun a w n=>Rd.ok (c.1++[a],a) w n).bind fun q w n=>.ok (q.1,c.2++[q.2]) w n) f (a,a) w n).to (fun c w n=>c.1=c.2∧p c.2 w n) b
 | 0,a,w,n,p,b,h=>h
 | f+1,a,w,n,p,b,h=>by
  simp only[dH,bL] at h ⊢;refine aW h (fun x w n h=>?_) (fun _ h=>h);simp only[bU] at h ⊢;split
  ·rename_i e;rw[if_pos e] at h;exact aGv fin sep one f (a++[x]) w.tail n p b h
  ·rename_i e;rw[if_neg e] at h;exact ⟨rfl,h⟩
theorem aM6 (w:List Tok) (n:Nat):qR false fin w n=if bI [105,102] w=true then jX fin (fun acc w n=>aAJ fin acc.length w n) [] w.tail n else .ok [] w n:=by
 unfold qR aAJ;split
 ·congr 1
 ·rfl
theorem aHq (hT:TOk T) (hr:s.getO r=some (bC T fin d first i n)) (hi:i≤T.length) (hn:n≤2000)
  (hk:(qR false fin (T.drop i) n).to (PK T i (fun j m=>s.setO r (bC T fin d first j m)) (fun l=>.list none (l.map Tm.enc)) KV) (PB s r Kp)):Den cx 153 [.ptr r 0] KV Kp s:=by
 rw[aM6] at hk;(refine aZ func153 [0,1,2,3,6] ?_;simp only[go_sem,ntmps153,f153]);(intro b1 hb1;try simp only[aV,aT,ne_eq] at hb1);have e1:=cF hr (by first|exact hb1|exact hb1.2|exact hb1.2.2|exact hb1.2.2.2|exact hb1.2.2.2.2|exact hb1.2.2.2.2.2|exact hb1.2.2.2.2.2.2);simp only[go_sem,hb1,e1];refine iZ (T:=T) (fin:=fin) (d:=d) (first:=first) (i:=i) (n:=n) _ gH hi hT ?_;cases c:bI [105,102] (T.drop i) with
 | false =>
  rw[if_neg (by simp[c]),bU] at hk;simp only[go_sem,hb1,e1];exact DK.mk (hk i (bE _) hi rfl hn) (St.gx.ge aQ gH) A.le.nil
 | true =>
  rw[if_pos c,mO] at hk;have hlt:=kY c;simp only[go_sem,hb1,e1];(intro b3 hb3;try simp only[aV,aT,ne_eq] at hb3);have e3:=cF hr (by first|exact hb3|exact hb3.2|exact hb3.2.2|exact hb3.2.2.2|exact hb3.2.2.2.2|exact hb3.2.2.2.2.2|exact hb3.2.2.2.2.2.2);simp only[go_sem,hb1,e1,hb3,e3]
  refine dE (s':=qA T fin d first b3 r (s.setO b1 (.cells 74 [.ptr r 0])) 0 (i+1) n) ?_ (aDG (fin:=fin) (σ:=List Tm) (α:=Tm) (X:=Unit) (r:=r) Tm.enc Tm.hz Tm.ho hT
    (fun s' acc _ i n=>qA T fin d first b3 r s' acc.length i n) (fun s' acc _ i=>CndQ b1 b3 r s' acc.length i) (fun acc w n=>(aAJ fin acc.length w n).bind fun a w n=>.ok (acc++[a],a) w n) 223 [] [.ptr b1 0,.ptr b3 0]
    (fun s' a x i n=>⟨d,first,by unfold qA;rw[aJ,if_pos rfl],by unfold qA;rw[lZ];exact bA _⟩) (fun s' a x i n t v h ht=>⟨ht,⟨h.len,h.h1,h.h3,h.ne⟩,bA _⟩)
    (fun s' a x i n t v u ht h=>⟨?_,⟨h.len,h.h1,h.h3,h.ne⟩,?_⟩) (fun s' a x i n t v ht h=>⟨⟨h.len,h.h1,h.h3,h.ne⟩,?_⟩)
    (fun s' a x i h=>⟨by have:=h.len;omega,h.h1,h.h3,h.ne⟩) (fun s' a x i n h=>eQ (cT h.h3 (fF _ _)))
    (fun s' a x i n KV' Kp' h hi' hn' hk'=>aM1 hT b1 b3 a.length h hi' hn' ?_)
    [] () (i+1) n ?_ hlt hn ?_)
  ·exact aL
  ·show (s'.setT t v).getT t=some v;rw[cO,if_pos rfl]
  ·exact pQ (pQ (aA9 s' t v u))
  ·exact pQ (pQ (vI ht))
  ·rw[bL] at hk';refine aW hk' (fun x w m h2 j hj hjT hw hm=>?_) (fun _ h=>h);have h3:=h2 j () (by omega) hjT hw hm ⟨by have:=h.len;simp only[aR,aF,aH];omega,h.h1,h.h3,h.ne⟩;simpa only[aR,aF,aH] using h3
  ·refine ⟨bS _,gH,?_,?_⟩
   ·simp only[aJ,ne_eq,reduceIte,hb3]
   ·simp only[hb3,e1,e3,ne_eq,dK,hH,oB]
  ·refine aW (aGv _ _ _ _ _ _ _ _ _ hk) (fun c w m h2 j y hj hjT hw hm hy=>?_) (fun f h s1 o hg hr1=>h.at (hg.trans aQ) hr1);obtain ⟨l,ul⟩:=c;obtain ⟨e,h2⟩:=h2;simp only at e h2;subst e;have h3:=h2 j (by omega) hjT hw hm;unfold qA;simp only[go_sem,hb1,e1,hb3,e3];exact aM h3 aL
end
end
section
section
variable {T:List Tok} {fin:Fault} {d:Dc} {first:Tok} {i n:Nat} {s:St} {r:Nat} {KV Kp:St→A→Prop}
theorem aBP (hT:TOk T) (hr:s.getO r=some (bC T fin d first i n)) (hi:i≤T.length) (hn:n≤2000)
  (hk:(uQ false fin (T.drop i) n).to (PK T (i+1) (fun j m=>s.setO r (bC T fin d first j m)) Cel.enc KV) (PB s r Kp)):Den cx 226 [.ptr r 0] KV Kp s:=by
 (refine aZ func226 [0,2,3,4] ?_;simp only[go_sem,ntmps226,f226]);(intro b2 hb2;try simp only[aV,aT,ne_eq] at hb2);have e2:=cF hr (by first|exact hb2|exact hb2.2|exact hb2.2.2|exact hb2.2.2.2|exact hb2.2.2.2.2|exact hb2.2.2.2.2.2|exact hb2.2.2.2.2.2.2);simp only[go_sem,hb2,e2];refine kB (T:=T) (fin:=fin) (d:=d) (first:=first) (i:=i) (n:=n) gH hi ?_;cases hw:T.drop i with
 | nil=>rw[hw] at hk;exact hk.at aQ gH
 | cons t w =>
  rw[hw] at hk;obtain ⟨g1,g2,g3,g4⟩:=lI hw;simp only[uQ,bL] at hk;simp only[go_sem,hb2,e2];(intro b3 hb3;try simp only[aV,aT,ne_eq] at hb3);have e3:=cF hr (by first|exact hb3|exact hb3.2|exact hb3.2.2|exact hb3.2.2.2|exact hb3.2.2.2.2|exact hb3.2.2.2.2.2|exact hb3.2.2.2.2.2.2);simp only[go_sem,hb2,e2,hb3,e3];(refine aP (OT.l [0,2,3,4,5,1,6,7,8] .nil) [(1,[3,5]),(7,[3,5])] ?_;simp only[go_sem,hb2,e2,hb3,e3]);rw[← hw] at hk;(refine iC (T:=T) (fin:=fin) (d:=d) (first:=first) (i:=i) (n:=n) gH hi hT (aW hk (fun x1 w1 m1 hk1 hlt1 hw1 hm1=>?_) (fun f h=>PB.mk aQ h));subst m1;rw[← hw1] at hk1);simp only[go_sem,hb2,e2,hb3,e3];(intro b4 hb4;try simp only[aV,aT,ne_eq] at hb4);have e4:=cF hr (by first|exact hb4|exact hb4.2|exact hb4.2.2|exact hb4.2.2.2|exact hb4.2.2.2.2|exact hb4.2.2.2.2.2|exact hb4.2.2.2.2.2.2);simp only[go_sem,hb2,e2,hb3,e3,hb4,e4];(refine fH (T:=T) (fin:=fin) (d:=d) (first:=first) (i:=i+1) (n:=n) _ gH hlt1 hT (aW hk1 (fun _ w2 m2 hk2 hlt2 hw2 hm2=>?_) (fun f h=>PB.mk aQ h));subst m2;rw[← hw2] at hk2);simp only[go_sem,hb2,e2,hb3,e3,hb4,e4];(refine iC (T:=T) (fin:=fin) (d:=d) (first:=first) (i:=i+1+1) (n:=n) gH hlt2 hT (aW hk2 (fun x3 w3 m3 hk3 hlt3 hw3 hm3=>?_) (fun f h=>PB.mk aQ h));subst m3;rw[← hw3] at hk3);simp only[go_sem,hb2,e2,hb3,e3,hb4,e4];(refine fH (T:=T) (fin:=fin) (d:=d) (first:=first) (i:=i+1+1+1) (n:=n) _ gH hlt3 hT (aW hk3 (fun _ w4 m4 hk4 hlt4 hw4 hm4=>?_) (fun f h=>PB.mk aQ h));subst m4;rw[← hw4] at hk4);simp only[go_sem,hb2,e2,hb3,e3,hb4,e4];(refine rP (T:=T) (fin:=fin) (d:=d) (first:=first) (i:=i+1+1+1+1) (n:=n) hT gH hlt4 hn (aW hk4 (fun a5 w5 m5 hk5 j5 hj5 hjT5 hw5 hm5=>?_) (fun f h=>PB.mk aQ h));rw[← hw5] at hk5);have hk:=hk5 j5 (by omega) hjT5 rfl hm5;simp only[Cel.enc,Cel.cs] at hk;simp only[go_sem] at hk;simp only[go_sem,hb2,e2,hb3,e3,hb4,e4,bO];exact aM hk aL
def zD (T:List Tok) (fin:Fault) (d:Dc) (first:Tok) (b r:Nat) (x:aD) (s:St) (tk:Option Nat) (ar:List aD) (i n:Nat):St :=
 gs ((s.setO b (.cells 73 [.str x,gv tk (ar.map .str),.str [],.nils,.int .i64 0,.int .i64 0,.nils])).setO r (bC T fin d first i n)) tk ar.length 9
theorem aO3 (hT:TOk T) (hr:s.getO r=some (bC T fin d first i n)) (hi:i≤T.length) (hn:n≤2000)
  (hk:(aAP fin (T.drop i) n).to (PK T i (fun j m=>s.setO r (bC T fin d first j m)) Opr.enc KV) (PB s r Kp)):Den cx 152 [.ptr r 0] KV Kp s:=by
 have hlenT:=hT.len;simp only[aAP,bL] at hk;(refine aZ func152 [0,2,3,4,13,24] ?_;simp only[go_sem,ntmps152,f152]);(intro b2 hb2;try simp only[aV,aT,ne_eq] at hb2);have e2:=cF hr (by first|exact hb2|exact hb2.2|exact hb2.2.2|exact hb2.2.2.2|exact hb2.2.2.2.2|exact hb2.2.2.2.2.2|exact hb2.2.2.2.2.2.2);simp only[go_sem,hb2,e2];(refine iC (T:=T) (fin:=fin) (d:=d) (first:=first) (i:=i) (n:=n) gH hi hT (aW hk (fun x1 w1 m1 hk1 hlt1 hw1 hm1=>?_) (fun f h=>PB.mk aQ h));subst m1;rw[← hw1] at hk1);simp only[go_sem,hb2,e2];(intro b3 hb3;try simp only[aV,aT,ne_eq] at hb3);have e3:=cF hr (by first|exact hb3|exact hb3.2|exact hb3.2.2|exact hb3.2.2.2|exact hb3.2.2.2.2|exact hb3.2.2.2.2.2|exact hb3.2.2.2.2.2.2);simp only[go_sem,hb2,e2,hb3,e3];(refine fH (T:=T) (fin:=fin) (d:=d) (first:=first) (i:=i+1) (n:=n) _ gH hlt1 hT (aW hk1 (fun _ w2 m2 hk2 hlt2 hw2 hm2=>?_) (fun f h=>PB.mk aQ h));subst m2;rw[← hw2] at hk2);simp only[go_sem,hb2,e2,hb3,e3];rw[show (T.drop (i+1+1)).length=T.length-(i+1+1) by rw[cP]] at hk2
 refine Ex.loop (ι:=Option Nat × List aD × Nat) (fun c=>[(0,.ptr r 0),(2,.ptr b2 0),(3,.ptr b3 0)]) (fun c=>zD T fin d first b3 r x1 (s.setO b2 (.cells 73 [.str [],.nils,.str [],.nils,.int .i64 0,.int .i64 0,.nils])) c.1 c.2.1 c.2.2 n)
  (fun c => (c.1 = none → c.2.1 = []) ∧ (∀ t,c.1 = some t → s.getT t = none) ∧ i + 1 + 1 ≤ c.2.2 ∧ c.2.2 ≤ T.length ∧ c.2.1.length ≤ c.2.2 ∧ ∃ k,T.length - c.2.2 < k ∧
   (tF fin k c.2.1 (T.drop c.2.2) n).to (fun ar w n=>(dS fin w n).to (fun y w n=>PK T i (fun j m=>s.setO r (bC T fin d first j m)) Opr.enc KV ⟨x1,ar,y,[],0,0,[]⟩ w n) (PB s r Kp)) (PB s r Kp))
  (fun c=>T.length-c.2.2) (none,[],i+1+1) ?_ ?_ ?_ ?_
 ·exact ⟨fun _=>rfl,fun t e=>(by cases e),bE _,hlt2,bS _,_,iU _,hk2⟩
 ·simp only[go_sem,hb2,e2,hb3,e3]
 ·exact aL
 ·rintro ⟨tk,ar,i2⟩ ⟨hnil,hfree,hi1,hi2,has,k,hk3,hk4⟩;simp only at hnil hfree hi1 hi2 has hk3 hk4;obtain ⟨k,rfl⟩:∃ k',k=k'+1:=⟨k-1,by omega⟩
  have hg:lS (zD T fin d first b3 r x1 (s.setO b2 (.cells 73 [.str [],.nils,.str [],.nils,.int .i64 0,.int .i64 0,.nils])) tk ar i2 n) tk (ar.map A.str).length 9:=by rw[aI];exact fA fun e=>by rw[hnil e];rfl
  refine bV (V:=[0,2,3,4,13,24]) _ _ _ _ ?_;unfold zD;simp only[go_sem,hb2,e2,hb3,e3];refine iZ (T:=T) (fin:=fin) (d:=d) (first:=first) (i:=i2) (n:=n) _ gH hi2 hT ?_;cases hx:bI [45,62] (T.drop i2) with
  | true =>
   rw[tF,if_pos hx,bU,mO] at hk4;have hlt:=kY hx;simp only[go_sem,hb2,e2,hb3,e3];(refine iC (T:=T) (fin:=fin) (d:=d) (first:=first) (i:=i2+1) (n:=n) gH hlt hT (aW hk4 (fun x5 w5 m5 hk5 hlt5 hw5 hm5=>?_) (fun f h=>PB.mk aQ h));subst m5;rw[← hw5] at hk5);simp only[go_sem,hb2,e2,hb3,e3];have hk:=hk5 (i2+1+1) (by omega) hlt5 rfl hn;simp only[Opr.enc,Opr.cs] at hk;simp only[go_sem] at hk;refine ⟨lM _ _,?_⟩;refine DK.mk hk aL ?_;exact A.le.agg ⟨⟨aK _,rfl⟩,⟨fN _ _ (fun e=>by rw[hnil e];rfl),rfl⟩,⟨aK _,rfl⟩,⟨A.le.nil,rfl⟩,⟨aK _,rfl⟩,⟨aK _,rfl⟩,⟨A.le.nil,rfl⟩,trivial⟩
  | false =>
   simp only[go_sem,hb2,e2,hb3,e3];refine kB (T:=T) (fin:=fin) (d:=d) (first:=first) (i:=i2) (n:=n) gH hi2 ?_;cases hw:T.drop i2 with
   | nil=>rw[hw,tF,if_neg (by simp[bI])] at hk4;exact hk4.at aQ gH
   | cons t w =>
    obtain ⟨g1,g2,g3,g4⟩:=lI hw;rw[hw,tF,if_neg (by rw[← hw,hx];simp),bL] at hk4;simp only[go_sem,hb2,e2,hb3,e3];(intro b4 hb4;try simp only[aV,aT,ne_eq] at hb4);have e4:=cF hr (by first|exact hb4|exact hb4.2|exact hb4.2.2|exact hb4.2.2.2|exact hb4.2.2.2.2|exact hb4.2.2.2.2.2|exact hb4.2.2.2.2.2.2);simp only[go_sem,hb2,e2,hb3,e3,hb4,e4]
    have hsome:(t.free=true→¬ 8≤ar.length)→(dS fin (T.drop i2) n).to (fun a w n=>(tF fin k (ar++[a]) w n).to (fun ar w n =>
      (dS fin w n).to (fun y w n=>PK T i (fun j m=>s.setO r (bC T fin d first j m)) Opr.enc KV ⟨x1,ar,y,[],0,0,[]⟩ w n) (PB s r Kp)) (PB s r Kp)) (PB s r Kp):=fun h=>by
     rw[hw];simp only[mB] at hk4;rw[if_neg (fun hc=>h hc.1 hc.2)] at hk4;exact hk4
    cases c1:decide (t.kind=1)
    ·have hk5:=hsome (fun hf=>by simp[Tok.free,c1] at hf);simp only[go_sem,hb2,e2,hb3,e3,hb4,e4,c1];(refine aP (OT.r 0 8) [(3,[1])] ?_;simp only[go_sem,hb2,e2,hb3,e3,hb4,e4]);(refine iC (T:=T) (fin:=fin) (d:=d) (first:=first) (i:=i2) (n:=n) gH hi2 hT (aW hk5 (fun x6 w6 m6 hk6 hlt6 hw6 hm6=>?_) (fun f h=>PB.mk aQ h));subst m6;rw[← hw6] at hk6);simp only[go_sem,hb2,e2,hb3,e3,hb4,e4];refine ⟨by decide,fun y hy=>by simp only[cE] at hy;subst hy;rfl,cW rfl rfl (by rw[aI];exact fA fun e=>by rw[hnil e];rfl) (fun y hy=>?_) (by simp only[aI,aF,aH];omega) (fun t ht=>?_)⟩
     ·simp only[bW] at hy;obtain ⟨q,_,rfl⟩:=hy;rfl
     have hft:=kC ht hfree;rw[gY ht];simp only[go_sem,hb2,e2,hb3,e3,hb4,e4];refine ⟨(some t,ar++[x6],i2+1),⟨fun e=>(by cases e),fun t' e=>by cases e;exact hft,by simp only;omega,by simp only;omega,by simp only[aR,aF,aH];omega,k,by simp only;omega,hk6⟩,by simp only;omega,?_⟩
     ·simp only[zD,cL,cM,bK,bQ,aR,aF,aH,aI];exact aL
    simp only[go_sem,hb2,e2,hb3,e3,hb4,e4,c1];refine sI _ _ _ _ ?_;simp only[go_sem,hb2,e2,hb3,e3,hb4,e4];cases c2:decide (t.text∈jL);rotate_left
    ·have hk5:=hsome (fun hf=>by simp[Tok.free,c2] at hf);simp only[go_sem,hb2,e2,hb3,e3,hb4,e4,c2];(refine aP (OT.r 0 8) [(3,[1])] ?_;simp only[go_sem,hb2,e2,hb3,e3,hb4,e4]);(refine iC (T:=T) (fin:=fin) (d:=d) (first:=first) (i:=i2) (n:=n) gH hi2 hT (aW hk5 (fun x6 w6 m6 hk6 hlt6 hw6 hm6=>?_) (fun f h=>PB.mk aQ h));subst m6;rw[← hw6] at hk6);simp only[go_sem,hb2,e2,hb3,e3,hb4,e4];refine ⟨by decide,fun y hy=>by simp only[cE] at hy;subst hy;rfl,cW rfl rfl (by rw[aI];exact fA fun e=>by rw[hnil e];rfl) (fun y hy=>?_) (by simp only[aI,aF,aH];omega) (fun t ht=>?_)⟩
     ·simp only[bW] at hy;obtain ⟨q,_,rfl⟩:=hy;rfl
     have hft:=kC ht hfree;rw[gY ht];simp only[go_sem,hb2,e2,hb3,e3,hb4,e4];refine ⟨(some t,ar++[x6],i2+1),⟨fun e=>(by cases e),fun t' e=>by cases e;exact hft,by simp only;omega,by simp only;omega,by simp only[aR,aF,aH];omega,k,by simp only;omega,hk6⟩,by simp only;omega,?_⟩
     ·simp only[zD,cL,cM,bK,bQ,aR,aF,aH,aI];exact aL
    simp only[go_sem,hb2,e2,hb3,e3,hb4,e4,c2,gV hg];refine mP (T:=T) (fin:=fin) (d:=d) (first:=first) (i:=i2) (n:=n) _ _ gH hi2 ?_;by_cases h8:8≤ar.length
    ·rw[if_pos (by omega),hw];simp only[mB] at hk4;rw[if_pos ⟨by simp[Tok.free,c1,c2],h8⟩] at hk4;exact PB.mk aQ hk4
    rw[if_neg (by omega)];have hk5:=hsome (fun _=>h8);simp only[go_sem,hb2,e2,hb3,e3,hb4,e4];(refine aP (OT.r 0 8) [(3,[1])] ?_;simp only[go_sem,hb2,e2,hb3,e3,hb4,e4]);(refine iC (T:=T) (fin:=fin) (d:=d) (first:=first) (i:=i2) (n:=n) gH hi2 hT (aW hk5 (fun x6 w6 m6 hk6 hlt6 hw6 hm6=>?_) (fun f h=>PB.mk aQ h));subst m6;rw[← hw6] at hk6);simp only[go_sem,hb2,e2,hb3,e3,hb4,e4];refine ⟨by decide,fun y hy=>by simp only[cE] at hy;subst hy;rfl,cW rfl rfl (by rw[aI];exact fA fun e=>by rw[hnil e];rfl) (fun y hy=>?_) (by simp only[aI,aF,aH];omega) (fun t ht=>?_)⟩
    ·simp only[bW] at hy;obtain ⟨q,_,rfl⟩:=hy;rfl
    have hft:=kC ht hfree;rw[gY ht];simp only[go_sem,hb2,e2,hb3,e3,hb4,e4];refine ⟨(some t,ar++[x6],i2+1),⟨fun e=>(by cases e),fun t' e=>by cases e;exact hft,by simp only;omega,by simp only;omega,by simp only[aR,aF,aH];omega,k,by simp only;omega,hk6⟩,by simp only;omega,?_⟩
    ·simp only[zD,cL,cM,bK,bQ,aR,aF,aH,aI];exact aL
end
end
end Go.AV
