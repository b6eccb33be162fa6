/-
  Of CheckChecks.
-/
import Derived.Test.YthaljojbclndaaaGreatDoorCc11
set_option linter.all false
set_option maxRecDepth 99999
set_option maxHeartbeats 0
namespace Go.AV
open Go Go.Proofs Tryz
section
section
variable {T:List Tok} {fin:Fault} {d:Dc} {first:Tok} {i n:Nat} {s:St} {r:Nat} {KV Kp:St->A->Prop}
theorem EntQ.setT{m y q r k:Nat}{s:St}{acc:List Tm}{tk:Option Nat}{i t:Nat}{v:Nat × TypeId}(h:EntQ m y q r k s acc tk i)(B:tk≠some t):EntQ m y q r k (s.setT t v) acc tk i :=
 ⟨h.len,h.h2,h.h3,h.hq,h.ne,h.nil,fun u z => by
  rw[dC,aD (λe=>B (by rw[z,e]))];exact h.free u z⟩
theorem EntQ.unT{m y q r k:Nat}{s:St}{acc:List Tm}{tk:Option Nat}{i t:Nat}{v:Nat × TypeId}(h:EntQ m y q r k (s.setT t v) acc tk i):tk≠some t/\∀u,tk=some u->s.getT u=none:=by
 have z:tk≠some t:=λe=>by
  have:=h.free t e;rw[dC,aF rfl]at this;cases this
 refine⟨z,λu B=>?_⟩;have:=h.free u B;rw[dC]at this;split at this
 .cases this
 .exact this
theorem EntQ.dropT{m y q r k:Nat}{s:St}{acc:List Tm}{tk:Option Nat}{i t:Nat}{v:Nat × TypeId}(h:EntQ m y q r k (s.setT t v) acc tk i):EntQ m y q r k s acc tk i :=
 ⟨h.len,h.h2,h.h3,h.hq,h.ne,h.nil,h.unT.2⟩
section
variable {kind:Int} {x:aC} {q:Nat} {acc:List Tm} {tk:Option Nat} {t:Nat} {v u:Nat × TypeId}
theorem aAv:(iA T fin d first kind x q r s acc tk i n).getT t=if tk=some t then some (acc.length,67) else s.getT t:=gK _ _ _ _ _
theorem aKf(h:tk≠some t):((iA T fin d first kind x q r s acc tk i n).setT t v).ge (iA T fin d first kind x q r (s.setT t v) acc tk i n):=aGS h
theorem aJ5(h:tk≠some t):((iA T fin d first kind x q r (s.setT t v) acc tk i n).setT t u).ge (iA T fin d first kind x q r (s.setT t u) acc tk i n):=by
 refine⟨λb o ho=>by rw[nW];unfold iA at *;rw[cS]at *;exact ho,λc m B=>?_,λy G=>by cases tk<;>exact G⟩;rw[aAv,dC]at B;rw[dC,aAv,dC];by_cases z:t=c
 .subst z;rw[aD h,aF rfl]at B;rw[aF rfl];exact B
 .rw[aD z]at B⊢;rw[aD z];exact B
theorem aJ1(h:s.getT t=none):(iA T fin d first kind x q r (s.setT t v) acc tk i n).ge (iA T fin d first kind x q r s acc tk i n) :=
 aGq (λb o ho=>ho) (λy H=>H) (λc m _ G=>by
  show(s.setT t v).getT c=some m;have z:s.getT c=some m:=G;rw[dC];by_cases B:t=c
  .subst B;rw[h]at z;cases z
  .rw[aD B];exact z)
theorem aMt(m:q≠r):(iA T fin d first kind x q r s acc tk i n).getO r=some (bI T fin d first i n):=by
 unfold iA;rw[cS,aL,aF rfl]
theorem aKk:((iA T fin d first kind x q r s acc tk i n).setO r (bI T fin d first (i+1) n)).ge (iA T fin d first kind x q r s acc tk (i+1) n):=by
 unfold iA;rw[aCf,qP];exact aE _
end
theorem aPx(k:Nat)(bj:k<=60)(IH:zH T fin r k)(hr:s.getO r=some (bI T fin d first i n))(hi:i<=T.length)(hT:TOk T)(hn:n<=2000)
  (hk : ((if dO [124] (T.drop i) = true ∨ dO [125] (T.drop i) = true then Rd.ok [] (T.drop i) n else eY fin [44] (aCF fin (lV false fin first k)) ((T.drop i).length + 1) [] (T.drop i) n).bind fun l w n =>
   (aAU fin first (decide (k=0)) [77,97,112] w n).bind λr w n=>(iO fin [125] w n).bind λ_ w n=>.ok (.mk 8 0 [] [] l r) w n).to (PK T i (λj m=>s.setO r (bI T fin d first j m)) Tm.enc KV) (PB s r Kp)) :
  Den cx 298 [.ptr r 0,.int .i64 ((60-k:Nat):Int)] KV Kp s:=by
 (refine aN func298 [0,1,2,3,4,5,6,16] ?_;simp only[go_sem,ntmps298,f298]);(refine aM λb2 z=>?_);simp only[go_sem,z];(refine aM λb3 G=>?_);simp only[go_sem,z,G];(refine aM λb4 H=>?_);simp only[go_sem,z,G,H];(refine aM λb5 B=>?_);have O:=aI hr z;have S:=aI hr G.2;have U:=aI hr H.2.2;have M:=aI hr B.2.2.2;have ek:decide (60-k=60)=decide (k=0):=by rw[cC];omega
 simp only[go_sem,z,G,H,B,O,S,U,M];refine oM (T:=T) (fin:=fin) (d:=d) (first:=first) (i:=i) (n:=n) _ gH hi ?_;simp only[go_sem,z,G,H,B,O,S,U,M];cases cA:dO [124] (T.drop i)
 .simp only[go_sem,z,G,H,B,O,S,U,M,cA];refine oM (T:=T) (fin:=fin) (d:=d) (first:=first) (i:=i) (n:=n) _ gH hi ?_;simp only[go_sem,z,G,H,B,O,S,U,M,cA];cases cB:dO [125] (T.drop i)
  .simp only[go_sem,z,G,H,B,O,S,U,M,cA,cB];rw[aD (by rw[cA,cB];simp),bY]at hk
   refine iH (St.ge_same gH) (aFK (fin:=fin) (σ:=List Tm) (α:=Unit) (X:=Option Nat) (r:=r) (λ_=>.bool true) (λ_=>rfl) (λ_=>rfl) hT
    (λs' acc tk i n=>iA T fin d first 8 [] b5 r s' acc tk i n) (λs' acc tk i=>EntQ b2 b3 b5 r k s' acc tk i) (λacc w n=>(aCF fin (lV false fin first k) acc w n).bind λa w n=>.ok (a,()) w n) 304 [] [.ptr b5 0,.ptr b2 0,.ptr b3 0]
    (λs' a x i n=>⟨d,first,aMt M.2,aKk⟩) (λs' a x i n t v h ht=>?_) (λs' a x i n t v u ht h=>?_) (λs' a x i n t v ht h=>⟨h.dropT,aJ1 ht⟩)
    (λs' a x i h=>⟨by have:=h.len;omega,h.h2,h.h3,h.hq,h.ne,h.nil,h.free⟩) (λs' a x i n h=>iK (eW (dH h.hq (fN _ _))) h.free)
    (λs' a x i n bq br h bk bm bh=>aSM k b2 b3 b5 bj IH hT a x h bk bm (by rw[bY]at bh;exact bE bh (λ_ _ _ h=>h) (λ_ h=>h)))
    [] none i n ?_ hi hn ?_)
   .have bb:=ht;rw[aAv]at bb;have hx:x≠some t:=λe=>by rw[aF e]at bb;cases bb
    rw[aD hx]at bb;exact⟨bb,h.setT hx,aKf hx⟩
   .have hx:=h.unT.1;refine⟨by rw[aAv,aD hx,dC,aF rfl],h.dropT.setT hx,aJ5 hx⟩
   .refine⟨aW _,gH,gH,?_,⟨M.2,B.2.2.1.2,B.2.1.2,O.1,S.1⟩,λ_=>rfl,λt e=>(by cases e)⟩;simp only[aL,dB,reduceIte,B]
   refine bE (aDu _ _ _ _ _ [] _ _ _ _ hk) (λc w m bf j y hj bl hw hm hy=>?_) (λf h s1 o hg bp=>h.at (hg.trans bC) bp);obtain⟨l,ul⟩:=c;simp only at bf hy;subst hw;rw[bY,<-ek]at bf;have Z:∀t,y=some t->s.getT t=none:=hy.free
   have bn:=hy.nil;simp only[iA];simp only[go_sem,z,G,H,B,O,S,U,M];refine aAE (T:=T) (fin:=fin) (d:=d) (first:=first) (i:=j) (n:=m) (60-k) _ (by simp only[fF,cS,aL,dB,reduceIte,fY,z,G,H,B,O,S,U,M]<;>(first|done|rfl|assumption)) bl hT hm (bE bf (λrs w2 m2 b1 j2 bg b0 bc b8=>?_) (λf h=>PB.mk (by repeat (first|exact fN _ _|refine iK ?_ Z|refine eW ?_|refine dH z ?_|refine dH G.2 ?_|refine dH H.2.2 ?_|refine dH B.2.2.2 ?_)) h));subst bc;simp only[go_sem,z,G,H,B,O,S,U,M];refine fQ (T:=T) (fin:=fin) (d:=d) (first:=first) (i:=j2) (n:=m2) _ (by simp only[fF,cS,aL,dB,reduceIte,fY,z,G,H,B,O,S,U,M]<;>(first|done|rfl|assumption)) b0 hT ?_;rw[bY]at b1;refine bE b1 (λ_ w3 m3 b6 b7 bd b9=>?_) (λf h=>PB.mk (by repeat (first|exact fN _ _|refine iK ?_ Z|refine eW ?_|refine dH z ?_|refine dH G.2 ?_|refine dH H.2.2 ?_|refine dH B.2.2.2 ?_)) h);rw[cL]at b6;subst b9;simp only[go_sem,z,G,H,B,O,S,U,M];refine⟨zC y _,?_⟩;refine DK.mk (b6 (j2+1) aB b7 bd b8) (St.gx.ge (by repeat (first|exact fN _ _|refine iK ?_ Z|refine eW ?_|refine dH z ?_|refine dH G.2 ?_|refine dH H.2.2 ?_|refine dH B.2.2.2 ?_)) (by simp only[fF,cS,aL,dB,reduceIte,fY,z,G,H,B,O,S,U,M]<;>(first|done|rfl|assumption))) ?_;rw[cY];exact A.le.agg ⟨⟨bL _,rfl⟩,⟨bL _,rfl⟩,⟨bL _,rfl⟩,⟨bL _,rfl⟩,⟨kJ y _ (λe=>by rw[bn e];rfl),rfl⟩,⟨bL _,rfl⟩,trivial⟩
  ·(try simp only[go_sem,z,G,H,B,O,S,U,M,cA,cB])
   rw[aF (by simp[cA,cB]),bY,cL,bY,<-ek]at hk;have Z:∀t:Nat,(none:Option Nat)=some t->s.getT t=none:=λt e=>by cases e
   refine aAE (T:=T) (fin:=fin) (d:=d) (first:=first) (i:=i) (n:=n) (60-k) _ (by simp only[fF,cS,aL,dB,reduceIte,fY,z,G,H,B,O,S,U,M]<;>(first|done|rfl|assumption)) hi hT hn (bE hk (λrs w2 m2 b1 j2 bg b0 bc b8=>?_) (λf h=>PB.mk (by repeat (first|exact fN _ _|refine iK ?_ Z|refine eW ?_|refine dH z ?_|refine dH G.2 ?_|refine dH H.2.2 ?_|refine dH B.2.2.2 ?_)) h));subst bc;simp only[go_sem,z,G,H,B,O,S,U,M];refine fQ (T:=T) (fin:=fin) (d:=d) (first:=first) (i:=j2) (n:=m2) _ (by simp only[fF,cS,aL,dB,reduceIte,fY,z,G,H,B,O,S,U,M]<;>(first|done|rfl|assumption)) b0 hT ?_;rw[bY]at b1;refine bE b1 (λ_ w3 m3 b6 b7 bd b9=>?_) (λf h=>PB.mk (by repeat (first|exact fN _ _|refine iK ?_ Z|refine eW ?_|refine dH z ?_|refine dH G.2 ?_|refine dH H.2.2 ?_|refine dH B.2.2.2 ?_)) h);rw[cL]at b6;subst b9;simp only[go_sem,z,G,H,B,O,S,U,M];refine DK.mk (b6 (j2+1) aB b7 bd b8) (St.gx.ge (by repeat (first|exact fN _ _|refine iK ?_ Z|refine eW ?_|refine dH z ?_|refine dH G.2 ?_|refine dH H.2.2 ?_|refine dH B.2.2.2 ?_)) (by simp only[fF,cS,aL,dB,reduceIte,fY,z,G,H,B,O,S,U,M]<;>(first|done|rfl|assumption))) ?_;rw[cY];exact A.le.agg ⟨⟨bL _,rfl⟩,⟨bL _,rfl⟩,⟨bL _,rfl⟩,⟨bL _,rfl⟩,⟨A.le.nil,rfl⟩,⟨bL _,rfl⟩,trivial⟩
 ·(try simp only[go_sem,z,G,H,B,O,S,U,M,cA])
  rw[aF (by simp[cA]),bY,cL,bY,<-ek]at hk;have Z:∀t:Nat,(none:Option Nat)=some t->s.getT t=none:=λt e=>by cases e
  refine aAE (T:=T) (fin:=fin) (d:=d) (first:=first) (i:=i) (n:=n) (60-k) _ (by simp only[fF,cS,aL,dB,reduceIte,fY,z,G,H,B,O,S,U,M]<;>(first|done|rfl|assumption)) hi hT hn (bE hk (λrs w2 m2 b1 j2 bg b0 bc b8=>?_) (λf h=>PB.mk (by repeat (first|exact fN _ _|refine iK ?_ Z|refine eW ?_|refine dH z ?_|refine dH G.2 ?_|refine dH H.2.2 ?_|refine dH B.2.2.2 ?_)) h));subst bc;simp only[go_sem,z,G,H,B,O,S,U,M];refine fQ (T:=T) (fin:=fin) (d:=d) (first:=first) (i:=j2) (n:=m2) _ (by simp only[fF,cS,aL,dB,reduceIte,fY,z,G,H,B,O,S,U,M]<;>(first|done|rfl|assumption)) b0 hT ?_;rw[bY]at b1;refine bE b1 (λ_ w3 m3 b6 b7 bd b9=>?_) (λf h=>PB.mk (by repeat (first|exact fN _ _|refine iK ?_ Z|refine eW ?_|refine dH z ?_|refine dH G.2 ?_|refine dH H.2.2 ?_|refine dH B.2.2.2 ?_)) h);rw[cL]at b6;subst b9;simp only[go_sem,z,G,H,B,O,S,U,M];refine DK.mk (b6 (j2+1) aB b7 bd b8) (St.gx.ge (by repeat (first|exact fN _ _|refine iK ?_ Z|refine eW ?_|refine dH z ?_|refine dH G.2 ?_|refine dH H.2.2 ?_|refine dH B.2.2.2 ?_)) (by simp only[fF,cS,aL,dB,reduceIte,fY,z,G,H,B,O,S,U,M]<;>(first|done|rfl|assumption))) ?_;rw[cY];exact A.le.agg ⟨⟨bL _,rfl⟩,⟨bL _,rfl⟩,⟨bL _,rfl⟩,⟨bL _,rfl⟩,⟨A.le.nil,rfl⟩,⟨bL _,rfl⟩,trivial⟩
end
end
section
section
variable {T:List Tok} {fin:Fault} {d:Dc} {first:Tok} {i n:Nat} {s:St} {r:Nat} {KV Kp:St->A->Prop}
theorem aQT(k:Nat)(bl:k<=60)(IH:zH T fin r k)(t:Tok)(hr:s.getO r=some (bI T fin d first i n))(hi:i<=T.length)(hT:TOk T)(hn:n<=2000)(ht:t∈T)
  (U:(xA fin first (lV false fin first k) (decide (k=0)) t (T.drop i) n).to (PK T i (λj m=>s.setO r (bI T fin d first j m)) Tm.enc KV) (PB s r Kp)) :
  Den cx 280 [.ptr r 0,t.enc,.int .i64 ((60-k:Nat):Int)] KV Kp s:=by
 simp only[go_sem];(refine aN func280 [0,1,2,3,4,5,6,7,8,9,11,12,33,47,71,84,94,107] ?_;simp only[go_sem,ntmps280,f280]);(refine aM λb3 y=>?_);simp only[go_sem,y];(refine aM λb4 z=>?_);simp only[go_sem,y,z];(refine aM λb5 B=>?_);simp only[go_sem,y,z,B];(refine aM λb6 G=>?_);have M:=aI hr y;have S:=aI hr z.2;have O:=aI hr B.2.2;have H:=aI hr G.2.2.2;have b1:=hr;simp only[go_sem]at b1;have c5:=hT.len;simp only[go_sem,y,z,B,G,M,S,O,H]
 (apply aJ<;>intro h)<;>simp only[go_sem,h,y,z,B,G,M,S,O,H]
 ·
  have hx:t.text=[45]:=gQ h;simp only[xA,hx,dF]at U
  (try simp only[go_sem,y,z,B,G,M,S,O,H])
  refine kP (T:=T) (fin:=fin) (d:=d) (first:=first) (i:=i) (n:=n) gH hi ?_;cases hw:T.drop i with
  | nil=>rw[hw]at U;exact U.at bC gH
  | cons u w =>
   rw[hw]at U;obtain⟨h1,h2,h3,h4⟩:=mD hw;simp only[go_sem];(refine aM λb7 Z=>?_);have e7:=aI hr Z.2.2.2.2
   have bad:∀(bf:St->A->Prop) (s1:St),s1.gx s r->s1.getO r=some (bI T fin d first i n)->PB s r Kp (iE fin 11 (u::w))->Den cx 216 [.ptr r 0,.int .i64 11] bf (DK Kp) s1:=by
    intro bf s1 bm bd hf;refine qQ 11 bd hi hT ?_;rw[hw];exact hf.at bm bd
   simp only at U;have bk:IntKind.i64.wrap (t.col+1)=t.col+1:=by have:=hT.col t ht;exact fV _ aB aB
   have bp:IntKind.i64.wrap (0-u.n)=-u.n:=by have:=hT.num u h4;rw[fV _ aB aB];omega
   cases c1:decide (u.kind=2)
   .have h2:¬ u.kind=2:=gQ c1;rw[aD (λhc=>h2 hc.1),eP]at U;simp only[go_sem,y,z,B,G,M,S,O,H,Z,e7,b1,c1];exact bad _ _ bC gH U
   cases c2:decide (u.line=t.line)
   .have h2:¬ u.line=t.line:=gQ c2;rw[aD (λhc=>h2 hc.2.1),eP]at U;simp only[go_sem,y,z,B,G,M,S,O,H,Z,e7,b1,c1,c2];exact bad _ _ bC gH U
   cases c3:decide (u.col=t.col+1)
   .have h2:¬ u.col=t.col+1:=gQ c3;rw[aD (λhc=>h2 hc.2.2),eP]at U;simp only[go_sem,y,z,B,G,M,S,O,H,Z,e7,b1,c1,c2,bk,c3];exact bad _ _ bC gH U
   .rw[aF ⟨gQ c1,gQ c2,gQ c3⟩,cL]at U;simp only[go_sem,y,z,B,G,M,S,O,H,Z,e7,b1,c1,c2,bk,c3,aU i aB,bp];refine DK.mk (U (i+1) aB h2 h3 hn) (St.gx.ge bC gH) (Tm.le_leaf _ _ _ _)
 have x1:¬ t.text=[45]:=gQ h
 (try simp only[go_sem,y,z,B,G,M,S,O,H])
 (apply aJ<;>intro h)<;>simp only[go_sem,h,y,z,B,G,M,S,O,H]
 ·
  have hx:t.text=[39]:=gQ h;rw[xA.eq_def,aD x1,aF hx]at U
  (try simp only[go_sem,y,z,B,G,M,S,O,H])
  refine kP (T:=T) (fin:=fin) (d:=d) (first:=first) (i:=i) (n:=n) gH hi ?_;cases hw:T.drop i with
  | nil=>rw[hw]at U;exact U.at bC gH
  | cons u w =>
   rw[hw]at U;obtain⟨h1,h2,h3,h4⟩:=mD hw;simp only[go_sem];(refine aM λb7 Z=>?_);have e7:=aI hr Z.2.2.2.2
   have bad:∀(bf:St->A->Prop) (s1:St),s1.gx s r->s1.getO r=some (bI T fin d first i n)->PB s r Kp (iE fin 11 (u::w))->Den cx 216 [.ptr r 0,.int .i64 11] bf (DK Kp) s1:=by
    intro bf s1 bm bd hf;refine qQ 11 bd hi hT ?_;rw[hw];exact hf.at bm bd
   simp only at U;cases c1:decide (u.kind=1)
   .have h2:¬ u.free=true:=by simp[Tok.free,c1]
    rw[aD (λhc=>h2 hc.1),eP]at U;simp only[go_sem,y,z,B,G,M,S,O,H,Z,e7,b1,c1];exact bad _ _ bC gH U
   simp only[go_sem,y,z,B,G,M,S,O,H,Z,e7,b1,c1];refine wH _ _ _ _ ?_;simp only[go_sem,y,z,B,G,M,S,O,H,Z,e7,b1,c1];cases c2:decide (u.text∈nZ);rotate_left
   .have h2:¬ u.free=true:=by simp[Tok.free,c2]
    rw[aD (λhc=>h2 hc.1),eP]at U;simp only[go_sem,y,z,B,G,M,S,O,H,Z,e7,b1,c1,c2];exact bad _ _ bC gH U
   simp only[go_sem,y,z,B,G,M,S,O,H,Z,e7,b1,c1,c2];refine aLr _ _ _ _ ?_;simp only[go_sem,y,z,B,G,M,S,O,H,Z,e7,b1,c1,c2];cases c3:oV u.text
   .rw[aD (λhc=>by rw[c3]at hc;exact cV hc.2 bA),eP]at U;simp only[go_sem,y,z,B,G,M,S,O,H,Z,e7,b1,c1,c2,c3];exact bad _ _ bC gH U
   .rw[aF ⟨by simp[Tok.free,c1,c2],c3⟩,cL]at U;simp only[go_sem,y,z,B,G,M,S,O,H,Z,e7,b1,c1,c2,c3,aU i aB];refine DK.mk (U (i+1) aB h2 h3 hn) (St.gx.ge bC gH) (Tm.le_leaf _ _ _ _)
 have x2:¬ t.text=[39]:=gQ h
 (try simp only[go_sem,y,z,B,G,M,S,O,H])
 (apply aJ<;>intro h)<;>simp only[go_sem,h,y,z,B,G,M,S,O,H]
 ·
  have hx:t.text=[91]:=gQ h;rw[xA.eq_def,aD x1,aD x2,aF hx]at U
  (try simp only[go_sem,y,z,B,G,M,S,O,H])
  (refine aM λb9 b0=>?_);have e9:=aI hr b0.2.2.2.2;simp only[go_sem,y,z,B,G,M,S,O,H,b0,e9];refine oM (T:=T) (fin:=fin) (d:=d) (first:=first) (i:=i) (n:=n) _ gH hi ?_;simp only[go_sem,y,z,B,G,M,S,O,H,b0,e9];have ek:decide (60-k=60)=decide (k=0):=by rw[cC];omega
  cases cA:dO [124] (T.drop i)
  .simp only[go_sem,y,z,B,G,M,S,O,H,b0,e9,cA];refine oM (T:=T) (fin:=fin) (d:=d) (first:=first) (i:=i) (n:=n) _ gH hi ?_;simp only[go_sem,y,z,B,G,M,S,O,H,b0,e9,cA];cases cB:dO [93] (T.drop i)
   .simp only[go_sem,y,z,B,G,M,S,O,H,b0,e9,cA,cB];rw[aD (by rw[cA,cB];simp),bY]at U
    refine iH (St.ge_same gH) (aIn (fin:=fin) (d:=d) (fi:=first) Tm.enc Tm.hz Tm.ho hT (λs'=>s'.getO b3=some (.cells 153 [.ptr r 0])/\s'.getO b5=some (.cells 3 [.int .i64 ((60-k:Nat):Int)])) (λ_ _ _=>Iff.rfl)
     (lV false fin first k) 296 [] [.ptr b3 0,.ptr b5 0] (aEi (fun s' o hq=>⟨by rw[aL,aD M.1];exact hq.1,by rw[aL,aD O.1];exact hq.2⟩)
      (λs' i' n' bf c6 c4 bv bw c0 bz=>aPF k bl IH b3 b5 bv.1 bv.2 c4 bw c0 (bE bz (λ_ _ _ h j hj=>h j aB) (λ_ h=>h)))) i n ?_ hi hn ?_)
    .exact⟨gH,gH⟩
    refine bE U (λl w m br j hj bn hw hm=>?_) (λf h s1 o hg bd=>h.at (hg.trans bC) bd);subst hw;rw[bY,<-ek]at br;simp only[go_sem,y,z,B,G,M,S,O,H,b0,e9];refine aAE (T:=T) (fin:=fin) (d:=d) (first:=first) (i:=j) (n:=m) (60-k) _ gH bn hT hm (bE br (λrs w2 m2 b8 j2 bq b2 bh bt=>?_) (λf h=>PB.mk bC h));subst bh;simp only[go_sem,y,z,B,G,M,S,O,H,b0,e9];refine fQ (T:=T) (fin:=fin) (d:=d) (first:=first) (i:=j2) (n:=m2) _ gH b2 hT ?_;rw[bY]at b8;refine bE b8 (λ_ w3 m3 bb bc bj bg=>?_) (λf h=>PB.mk bC h);rw[cL]at bb;simp only[go_sem,y,z,B,G,M,S,O,H,b0,e9];exact DK.mk (bb (j2+1) aB bc bj aB) (St.gx.ge bC (by subst bg;rw[aL,aD H.2,aL,aF rfl]<;>rfl)) (by rw[cY];exact bL _)
   .simp only[go_sem,y,z,B,G,M,S,O,H,b0,e9,cA,cB];rw[aF (by simp[cA,cB]),bY,cL,bY,<-ek]at U;refine aAE (T:=T) (fin:=fin) (d:=d) (first:=first) (i:=i) (n:=n) (60-k) _ gH hi hT hn (bE U (λrs w2 m2 b8 j2 bq b2 bh bt=>?_) (λf h=>PB.mk bC h));subst bh;simp only[go_sem,y,z,B,G,M,S,O,H,b0,e9];refine fQ (T:=T) (fin:=fin) (d:=d) (first:=first) (i:=j2) (n:=m2) _ gH b2 hT ?_;rw[bY]at b8;refine bE b8 (λ_ w3 m3 bb bc bj bg=>?_) (λf h=>PB.mk bC h);rw[cL]at bb;simp only[go_sem,y,z,B,G,M,S,O,H,b0,e9];exact DK.mk (bb (j2+1) aB bc bj aB) (St.gx.ge bC (by subst bg;rw[aL,aD H.2,aL,aF rfl]<;>rfl)) (by rw[cY];exact A.le.agg ⟨⟨bL _,rfl⟩,⟨bL _,rfl⟩,⟨bL _,rfl⟩,⟨bL _,rfl⟩,⟨A.le.nil,rfl⟩,⟨bL _,rfl⟩,trivial⟩)
  .simp only[go_sem,y,z,B,G,M,S,O,H,b0,e9,cA];rw[aF (by simp[cA]),bY,cL,bY,<-ek]at U;refine aAE (T:=T) (fin:=fin) (d:=d) (first:=first) (i:=i) (n:=n) (60-k) _ gH hi hT hn (bE U (λrs w2 m2 b8 j2 bq b2 bh bt=>?_) (λf h=>PB.mk bC h));subst bh;simp only[go_sem,y,z,B,G,M,S,O,H,b0,e9];refine fQ (T:=T) (fin:=fin) (d:=d) (first:=first) (i:=j2) (n:=m2) _ gH b2 hT ?_;rw[bY]at b8;refine bE b8 (λ_ w3 m3 bb bc bj bg=>?_) (λf h=>PB.mk bC h);rw[cL]at bb;simp only[go_sem,y,z,B,G,M,S,O,H,b0,e9];exact DK.mk (bb (j2+1) aB bc bj aB) (St.gx.ge bC (by subst bg;rw[aL,aD H.2,aL,aF rfl]<;>rfl)) (by rw[cY];exact A.le.agg ⟨⟨bL _,rfl⟩,⟨bL _,rfl⟩,⟨bL _,rfl⟩,⟨bL _,rfl⟩,⟨A.le.nil,rfl⟩,⟨bL _,rfl⟩,trivial⟩)
 have x3:¬ t.text=[91]:=gQ h
 (try simp only[go_sem,y,z,B,G,M,S,O,H])
 (apply aJ<;>intro h)<;>simp only[go_sem,h,y,z,B,G,M,S,O,H]
 ·
  have hx:t.text=[123]:=gQ h;rw[xA.eq_def,aD x1,aD x2,aD x3,aF hx]at U
  (try simp only[go_sem,y,z,B,G,M,S,O,H])
  refine aPx (T:=T) (fin:=fin) (d:=d) (first:=first) (i:=i) (n:=n) k bl IH gH hi hT hn (bE U (λa w m h j hj bn hw hm=>?_) (λf h=>PB.mk bC h));have h':=h j hj bn hw hm;simp only at h';rw[cY]at h';simp only[go_sem,y,z,B,G,M,S,O,H];exact aG h' (St.gx.ge bC gH)
 have x4:¬ t.text=[123]:=gQ h;rw[xA.eq_def,aD x1,aD x2,aD x3,aD x4,cL]at U
 (try simp only[go_sem,y,z,B,G,M,S,O,H])
 exact DK.mk (U i (bJ _) hi rfl hn) (St.gx.ge bC gH) (Tm.le_leaf _ _ _ _)
end
end
section
section
variable {T:List Tok} {fin:Fault} {d:Dc} {first:Tok} {i n:Nat} {s:St} {r:Nat} {KV Kp:St->A->Prop}
theorem aTf(k b2 b3 q:Nat)(x:aC)(c0:k<=60)(IH:zH T fin r k)(hT:TOk T)(acc:List Tm)(tk:Option Nat)(hQ:EntQ b2 b3 q r k s acc tk i)(hi:i<=T.length)(hn:n<=2000)
  (hk : (aBg false fin first (lV false fin first k) acc (T.drop i) n).to (fun a w n' => ∀ j y,i ≤ j → j ≤ T.length → T.drop j = w → n' ≤ 2000 → EntQ b2 b3 q r k s (acc ++ [a]) y j → KV (iA T fin d first 5 x q r s (acc ++ [a]) y j n') a.enc)
   (λf=>∀s1 o,s1.gx s r->s1.getO r=some o->Kp s1 (.iface 36 f.enc))):Den cx 295 [.ptr q 0,.ptr b2 0,.ptr b3 0] KV Kp (iA T fin d first 5 x q r s acc tk i n):=by
 obtain⟨br,h2,h3,hq,⟨H,S,U,Z,n5⟩,bq,b5⟩:=hQ;have c1:=hT.len;have ed:IntKind.i64.wrap (((60-k:Nat):Int)+1)=((61-k:Nat):Int):=by rw[aU _ aB];congr 1;omega
 have hg:iV (iA T fin d first 5 x q r s acc tk i n) tk (acc.map Tm.enc).length 67:=by rw[aO];exact fD λe=>by rw[bq e];rfl
 refine aKa ?_;(refine aN func295 [0,1,2,3,4,12] ?_;simp only[go_sem,ntmps295,f295]);unfold iA;(refine aM λb6 bv=>?_)
 have f6:s.getO b6=none/\b6≠r/\b6≠q:=by
  have h0:=bv;rw[cS,aL]at h0;split at h0
  .cases h0
  .rename_i bz;rw[aL]at h0;split at h0
   .cases h0
   .rename_i bw;exact⟨h0,λe=>bz e.symm,λe=>bw e.symm⟩
 obtain⟨G,M,B⟩:=f6;clear bv;have b0:=(aI h2 G);have b1:=(aI h3 G);simp only[go_sem,H,S,U,Z,n5,H.symm,S.symm,U.symm,Z.symm,n5.symm,h2,h3,ed,G,M,M.symm,B,B.symm,b0,b1,pP hg];cases tk with
 | none =>
  obtain rfl:=bq rfl;simp only[aDU];cases c8:decide ((([]:List Tm).length:Int)=8)
  ·(try simp only[go_sem,H,S,U,Z,n5,H.symm,S.symm,U.symm,Z.symm,n5.symm,h2,h3,ed,G,M,M.symm,B,B.symm,b0,b1,c8])
   have bk:=hk;rw[aBg.eq_def,aD (by intro e;simp[e]at c8)]at bk;refine IH _ d first i n _ _ (by simp only[fF,cS,aL,dB,reduceIte,fY,H,S,U,Z,n5,H.symm,S.symm,U.symm,Z.symm,n5.symm,h2,h3,ed,G,M,M.symm,B,B.symm,b0,b1]<;>(first|done|rfl|assumption)) hi hn (bE bk (λa w m bn j hj bm hw hm=>?_) (λf h o=>?_))
   rotate_left
   .simp only[go_sem];exact aP (h _ o (by repeat (first|exact fN _ _|refine vC ?_ rfl|refine rL ?_ rfl|refine iK ?_ b5|refine eW ?_|refine dH hq ?_|refine dH G ?_)) (by simp only[fF,cS,aL,dB,reduceIte,fY,H,S,U,Z,n5,H.symm,S.symm,U.symm,Z.symm,n5.symm,h2,h3,ed,G,M,M.symm,B,B.symm,b0,b1]<;>(first|done|rfl|assumption)))
   simp only[go_sem,H,S,U,Z,n5,H.symm,S.symm,U.symm,Z.symm,n5.symm,h2,h3,ed,G,M,M.symm,B,B.symm,b0,b1,cY,Tm.cs];intro b7 O;rw[cS]at O;obtain⟨e7,O⟩:=rN O;obtain⟨b9,O⟩:=rN O;obtain⟨_,O⟩:=rN O;obtain⟨b4,b8⟩:=rN O;have bd:=(aI h2 b8);have bf:=(aI h3 b8);simp only[go_sem,H,S,U,Z,n5,H.symm,S.symm,U.symm,Z.symm,n5.symm,h2,h3,ed,G,M,M.symm,B,B.symm,b0,b1,b8,e7,e7.symm,b4,b4.symm,b9,b9.symm,bd,bf];(refine bD (OT.l [0,1,2,3,4,5,6,8] (.pair 7 9)) [] ?_;simp only[go_sem,H,S,U,Z,n5,H.symm,S.symm,U.symm,Z.symm,n5.symm,h2,h3,ed,G,M,M.symm,B,B.symm,b0,b1,b8,e7,e7.symm,b4,b4.symm,b9,b9.symm,bd,bf]);refine⟨by decide,?_⟩;intro t ht;have bl:s.getT t=none:=ht;refine⟨rfl,?_⟩;have bc:=bn j (some t) aB bm hw hm ⟨by simp only[aH,aV,aZ]at br⊢;omega,h2,h3,hq,⟨H,S,U,Z,n5⟩,λe=>(by cases e),λt' e=>by cases e;exact bl⟩;simp only[iA,eK]at bc;rw[show(([]:List Tm)++[a]).length=1 by simp,cY a]at bc;refine aG (s2:=(gs ((s.setO q (.cells 67 [.int .i64 5,.int .i64 0,.str x,.str [],.list (some t) ((([]:List Tm)++[a]).map Tm.enc),.nils])).setO r (bI T fin d first j m)) (some t) (1) 67).setL none) bc (St.ge.trans aI5 (aGW (λb o hb=>?_) (λ_=>rfl)));simp only[aL]at hb⊢;by_cases bb:q=b
   .subst bb;simp only[H,H.symm,B,B.symm,b4,b4.symm,dF,cZ]at hb⊢;simpa [cY,Tm.cs]using hb
   .by_cases bg:r=b
    .subst bg;simp only[bb,M,M.symm,e7,e7.symm,dF,cZ]at hb⊢;exact hb
    .simp only[bb,bg,cZ]at hb⊢;by_cases bh:b6=b
     .subst bh;rw[G]at hb;cases hb
     .by_cases bj:b7=b
      .subst bj;rw[b8]at hb;cases hb
      .simp only[bh,bj,cZ];exact hb
  .simp at c8
 | some u =>
  simp only[eK];cases c8:decide ((acc.length:Int)=8)
  ·(try simp only[go_sem,H,S,U,Z,n5,H.symm,S.symm,U.symm,Z.symm,n5.symm,h2,h3,ed,G,M,M.symm,B,B.symm,b0,b1,c8])
   have bk:=hk;rw[aBg.eq_def,aD (by intro e;simp[e]at c8)]at bk;refine IH _ d first i n _ _ (by simp only[fF,cS,aL,dB,reduceIte,fY,H,S,U,Z,n5,H.symm,S.symm,U.symm,Z.symm,n5.symm,h2,h3,ed,G,M,M.symm,B,B.symm,b0,b1]<;>(first|done|rfl|assumption)) hi hn (bE bk (λa w m bn j hj bm hw hm=>?_) (λf h o=>?_))
   rotate_left
   .simp only[go_sem];exact aP (h _ o (by repeat (first|exact fN _ _|refine vC ?_ rfl|refine rL ?_ rfl|refine iK ?_ b5|refine eW ?_|refine dH hq ?_|refine dH G ?_)) (by simp only[fF,cS,aL,dB,reduceIte,fY,H,S,U,Z,n5,H.symm,S.symm,U.symm,Z.symm,n5.symm,h2,h3,ed,G,M,M.symm,B,B.symm,b0,b1]<;>(first|done|rfl|assumption)))
   simp only[go_sem,H,S,U,Z,n5,H.symm,S.symm,U.symm,Z.symm,n5.symm,h2,h3,ed,G,M,M.symm,B,B.symm,b0,b1,cY,Tm.cs];intro b7 O;rw[cS]at O;obtain⟨e7,O⟩:=rN O;obtain⟨b9,O⟩:=rN O;obtain⟨_,O⟩:=rN O;obtain⟨b4,b8⟩:=rN O;have bd:=(aI h2 b8);have bf:=(aI h3 b8);simp only[go_sem,H,S,U,Z,n5,H.symm,S.symm,U.symm,Z.symm,n5.symm,h2,h3,ed,G,M,M.symm,B,B.symm,b0,b1,b8,e7,e7.symm,b4,b4.symm,b9,b9.symm,bd,bf];(refine bD (OT.l [0,1,2,3,4,5,6,8] (.pair 7 9)) [] ?_;simp only[go_sem,H,S,U,Z,n5,H.symm,S.symm,U.symm,Z.symm,n5.symm,h2,h3,ed,G,M,M.symm,B,B.symm,b0,b1,b8,e7,e7.symm,b4,b4.symm,b9,b9.symm,bd,bf]);refine⟨by decide,?_⟩;refine⟨⟨by rw[gK,aF rfl],λy hy=>?_,by omega⟩,λt ht=>?_⟩
   .simp only[cN]at hy;obtain⟨z,_,rfl⟩:=hy;exact Tm.hz z
   have bl:s.getT t=none:=aDF ht (b5 u rfl) (λ_=>rfl);have bc:=bn j (some t) aB bm hw hm ⟨by simp only[aH,aV,aZ]at br⊢;omega,h2,h3,hq,⟨H,S,U,Z,n5⟩,λe=>(by cases e),λt' e=>by cases e;exact bl⟩;simp only[iA,eK]at bc;rw[show(acc++[a]).length=acc.length+1 by simp,cY a]at bc;refine aG (s2:=(gs ((s.setO q (.cells 67 [.int .i64 5,.int .i64 0,.str x,.str [],.list (some t) ((acc++[a]).map Tm.enc),.nils])).setO r (bI T fin d first j m)) (some t) (acc.length+1) 67).setL none) bc (St.ge.trans (aFO (b5 u rfl)) (aGW (λb o hb=>?_) (λ_=>rfl)));simp only[aL]at hb⊢;by_cases bb:q=b
   .subst bb;simp only[H,H.symm,B,B.symm,b4,b4.symm,dF,cZ]at hb⊢;simpa [cY,Tm.cs]using hb
   .by_cases bg:r=b
    .subst bg;simp only[bb,M,M.symm,e7,e7.symm,dF,cZ]at hb⊢;exact hb
    .simp only[bb,bg,cZ]at hb⊢;by_cases bh:b6=b
     .subst bh;rw[G]at hb;cases hb
     .by_cases bj:b7=b
      .subst bj;rw[b8]at hb;cases hb
      .simp only[bh,bj,cZ];exact hb
  ·(try simp only[go_sem,H,S,U,Z,n5,H.symm,S.symm,U.symm,Z.symm,n5.symm,h2,h3,ed,G,M,M.symm,B,B.symm,b0,b1,c8])
   rw[aBg.eq_def,aF (by simp at c8;omega)]at hk;refine aDn (T:=T) (fin:=fin) (d:=d) (first:=first) (i:=i) (n:=n) (by simp only[fF,cS,aL,dB,reduceIte,fY,H,S,U,Z,n5,H.symm,S.symm,U.symm,Z.symm,n5.symm,h2,h3,ed,G,M,M.symm,B,B.symm,b0,b1]<;>(first|done|rfl|assumption)) hi ?_;cases bp:T.drop i with
   | nil =>
    rw[bp]at hk;intro o;simp only[go_sem];exact aP (hk _ o (by repeat (first|exact fN _ _|refine vC ?_ rfl|refine rL ?_ rfl|refine iK ?_ b5|refine eW ?_|refine dH hq ?_|refine dH G ?_)) (by simp only[fF,cS,aL,dB,reduceIte,fY,H,S,U,Z,n5,H.symm,S.symm,U.symm,Z.symm,n5.symm,h2,h3,ed,G,M,M.symm,B,B.symm,b0,b1]<;>(first|done|rfl|assumption)))
   | cons t0 w0 =>
    rw[bp]at hk;simp only at hk⊢;cases bt:t0.begins with
    | true =>
     rw[bt]at hk;simp only[dF,dA,oG,cZ,eP]at hk;simp only[go_sem,H,S,U,Z,n5,H.symm,S.symm,U.symm,Z.symm,n5.symm,h2,h3,ed,G,M,M.symm,B,B.symm,b0,b1];refine kP (T:=T) (fin:=fin) (d:=d) (first:=first) (i:=i) (n:=n) (by simp only[fF,cS,aL,dB,reduceIte,fY,H,S,U,Z,n5,H.symm,S.symm,U.symm,Z.symm,n5.symm,h2,h3,ed,G,M,M.symm,B,B.symm,b0,b1]<;>(first|done|rfl|assumption)) hi ?_;rw[bp];simp only[go_sem];refine aF9 t0 ?_;simp only[go_sem];exact aP (hk _ _ (by repeat (first|exact fN _ _|refine vC ?_ rfl|refine rL ?_ rfl|refine iK ?_ b5|refine eW ?_|refine dH hq ?_|refine dH G ?_)) (by simp only[fF,cS,aL,dB,reduceIte,fY,H,S,U,Z,n5,H.symm,S.symm,U.symm,Z.symm,n5.symm,h2,h3,ed,G,M,M.symm,B,B.symm,b0,b1]<;>(first|done|rfl|assumption)))
    | false =>
     rw[bt]at hk;simp only[dA,cZ]at hk;have bk:=hk;rw[<-bp]at bk;simp only[go_sem,H,S,U,Z,n5,H.symm,S.symm,U.symm,Z.symm,n5.symm,h2,h3,ed,G,M,M.symm,B,B.symm,b0,b1];refine IH _ d first i n _ _ (by simp only[fF,cS,aL,dB,reduceIte,fY,H,S,U,Z,n5,H.symm,S.symm,U.symm,Z.symm,n5.symm,h2,h3,ed,G,M,M.symm,B,B.symm,b0,b1]<;>(first|done|rfl|assumption)) hi hn (bE bk (λa w m bn j hj bm hw hm=>?_) (λf h o=>?_))
     rotate_left
     .simp only[go_sem];exact aP (h _ o (by repeat (first|exact fN _ _|refine vC ?_ rfl|refine rL ?_ rfl|refine iK ?_ b5|refine eW ?_|refine dH hq ?_|refine dH G ?_)) (by simp only[fF,cS,aL,dB,reduceIte,fY,H,S,U,Z,n5,H.symm,S.symm,U.symm,Z.symm,n5.symm,h2,h3,ed,G,M,M.symm,B,B.symm,b0,b1]<;>(first|done|rfl|assumption)))
     simp only[go_sem,H,S,U,Z,n5,H.symm,S.symm,U.symm,Z.symm,n5.symm,h2,h3,ed,G,M,M.symm,B,B.symm,b0,b1,cY,Tm.cs];intro b7 O;rw[cS]at O;obtain⟨e7,O⟩:=rN O;obtain⟨b9,O⟩:=rN O;obtain⟨_,O⟩:=rN O;obtain⟨b4,b8⟩:=rN O;have bd:=(aI h2 b8);have bf:=(aI h3 b8);simp only[go_sem,H,S,U,Z,n5,H.symm,S.symm,U.symm,Z.symm,n5.symm,h2,h3,ed,G,M,M.symm,B,B.symm,b0,b1,b8,e7,e7.symm,b4,b4.symm,b9,b9.symm,bd,bf];(refine bD (OT.l [0,1,2,3,4,5,6,8] (.pair 7 9)) [] ?_;simp only[go_sem,H,S,U,Z,n5,H.symm,S.symm,U.symm,Z.symm,n5.symm,h2,h3,ed,G,M,M.symm,B,B.symm,b0,b1,b8,e7,e7.symm,b4,b4.symm,b9,b9.symm,bd,bf]);refine⟨by decide,?_⟩;refine⟨⟨by rw[gK,aF rfl],λy hy=>?_,by omega⟩,λt ht=>?_⟩
     .simp only[cN]at hy;obtain⟨z,_,rfl⟩:=hy;exact Tm.hz z
     have bl:s.getT t=none:=aDF ht (b5 u rfl) (λ_=>rfl);have bc:=bn j (some t) aB bm hw hm ⟨by simp only[aH,aV,aZ]at br⊢;omega,h2,h3,hq,⟨H,S,U,Z,n5⟩,λe=>(by cases e),λt' e=>by cases e;exact bl⟩;simp only[iA,eK]at bc;rw[show(acc++[a]).length=acc.length+1 by simp,cY a]at bc;refine aG (s2:=(gs ((s.setO q (.cells 67 [.int .i64 5,.int .i64 0,.str x,.str [],.list (some t) ((acc++[a]).map Tm.enc),.nils])).setO r (bI T fin d first j m)) (some t) (acc.length+1) 67).setL none) bc (St.ge.trans (aFO (b5 u rfl)) (aGW (λb o hb=>?_) (λ_=>rfl)));simp only[aL]at hb⊢;by_cases bb:q=b
     .subst bb;simp only[H,H.symm,B,B.symm,b4,b4.symm,dF,cZ]at hb⊢;simpa [cY,Tm.cs]using hb
     .by_cases bg:r=b
      .subst bg;simp only[bb,M,M.symm,e7,e7.symm,dF,cZ]at hb⊢;exact hb
      .simp only[bb,bg,cZ]at hb⊢;by_cases bh:b6=b
       .subst bh;rw[G]at hb;cases hb
       .by_cases bj:b7=b
        .subst bj;rw[b8]at hb;cases hb
        .simp only[bh,bj,cZ];exact hb
end
end
section
section
variable {T:List Tok} {fin:Fault} {d:Dc} {first:Tok} {i n:Nat} {s:St} {r:Nat} {KV Kp:St->A->Prop}
theorem aIT(m:s.getO r=some (bI T fin d first i n))(y:KV s (.bool false)):Den cx 293 [.ptr r 0] KV Kp s:=by
 simp only[go_sem]at m;(refine aN func293 [0,2] ?_;simp only[go_sem,ntmps293,f293]);simp only[go_sem,m];exact aP y
theorem aRg(m:s.getO r=some (bI T fin d first i n))(y:KV s (.str [])):Den cx 294 [.ptr r 0] KV Kp s:=by
 simp only[go_sem]at m;(refine aN func294 [0,2,12] ?_;simp only[go_sem,ntmps294,f294]);simp only[go_sem,m];exact aP y
theorem aKu{α:Type}(fin:Fault)(sep:aC)(one:List α->List Tok->Nat->Rd α):∀(f:Nat) (a:List α) (l:List α) (w:List Tok) (n:Nat) (p:List α->List Tok->Nat->Prop) (b:Fault->Prop),
  (eY fin sep (λacc w n=>(one acc w n).bind λa w n=>.ok (acc++[a]) w n) f a w n).to p b ->
  (eY fin sep (λ(c:List α × List α) w n=>((one c.1 w n).bind λa w n=>Rd.ok (c.1++[a],a) w n).bind λq w n=>.ok (q.1,c.2++[q.2]) w n) f (a,l) w n).to (λc w n=>p c.1 w n) b
 | 0,a,l,w,n,p,b,h=>h
 | f+1,a,l,w,n,p,b,h=>by
  simp only[eY,bY]at h⊢;refine bE h (λx w n h=>?_) (λ_ h=>h);simp only[cL]at h⊢;split
  .rename_i e;rw[aF e]at h;exact aKu fin sep one f (a++[x]) (l++[x]) w.tail n p b h
  .rename_i e;rw[aD e]at h;exact h
theorem aQV(k:Nat)(bd:k<=60)(IH:zH T fin r k)(t:Tok)(ht:t∈T)(hr:s.getO r=some (bI T fin d first i n))(hi:i<=T.length)(hT:TOk T)(hn:n<=2000)
  (hk:(aD6 false fin first (lV false fin first k) t (T.drop i) n).to (PK T i (λj m=>s.setO r (bI T fin d first j m)) Tm.enc KV) (PB s r Kp)) :
  Den cx 279 [.ptr r 0,t.enc,.int .i64 ((60-k:Nat):Int)] KV Kp s:=by
 simp only[go_sem];(refine aN func279 [0,1,2,3,4,5,6,7,8,9,19,29,47] ?_;simp only[go_sem,ntmps279,f279]);(refine aM λb3 z=>?_);simp only[go_sem,z];(refine aM λb4 B=>?_);simp only[go_sem,z,B];(refine aM λb5 G=>?_);simp only[go_sem,z,B,G];(refine aM λb6 H=>?_);have O:=aI hr z;have U:=aI hr B.2;have S:=aI hr G.2.2;have Z:=aI hr H.2.2.2;have bn:=hr;simp only[go_sem]at bn;have bq:=hT.len;simp only[go_sem,z,B,G,H,O,U,S,Z];rw[aD6.eq_def]at hk;cases c1:decide (t.text=[116,114,117,101]);rotate_left
 .rw[aF (gQ c1),cL]at hk;simp only[go_sem,z,B,G,H,O,U,S,Z,c1];refine aIT (T:=T) (fin:=fin) (d:=d) (first:=first) (i:=i) (n:=n) gH ?_;simp only[go_sem,z,B,G,H,O,U,S,Z,c1];exact DK.mk (hk i (bJ _) hi rfl hn) (St.gx.ge bC gH) (Tm.le_leaf _ _ _ _)
 rw[aD (gQ c1)]at hk;simp only[go_sem,z,B,G,H,O,U,S,Z,c1];cases c2:decide (t.text=[102,97,108,115,101]);rotate_left
 .rw[aF (gQ c2),cL]at hk;simp only[go_sem,z,B,G,H,O,U,S,Z,c1,c2];refine aIT (T:=T) (fin:=fin) (d:=d) (first:=first) (i:=i) (n:=n) gH ?_;simp only[go_sem,z,B,G,H,O,U,S,Z,c1,c2];exact DK.mk (hk i (bJ _) hi rfl hn) (St.gx.ge bC gH) (Tm.le_leaf _ _ _ _)
 rw[aD (gQ c2)]at hk;simp only[go_sem,z,B,G,H,O,U,S,Z,c1,c2];refine jV (T:=T) (fin:=fin) (d:=d) (first:=first) (i:=i) (n:=n) _ gH hi hT ?_;cases c3:dO [58] (T.drop i)with
 | true =>
  rw[aF c3,bY,nJ]at hk;have b2:=lR c3;simp only[go_sem,z,B,G,H,O,U,S,Z];(refine bD (OT.r 0 6) [(3,[1])] ?_;simp only[go_sem,z,B,G,H,O,U,S,Z]);refine iR (T:=T) (fin:=fin) (d:=d) (first:=first) (i:=i+1) (n:=n) gH b2 hT (bE hk (λx w m h b0 hw hm=>?_) (λf h=>PB.mk bC h));subst hm;rw[cL]at h;simp only[go_sem,z,B,G,H,O,U,S,Z];exact DK.mk (h (i+1+1) aB b0 hw hn) (St.gx.ge bC gH) (Tm.le_leaf _ _ _ _)
 | false =>
  rw[aD (by simp[c3]),bY]at hk;simp only[go_sem,z,B,G,H,O,U,S,Z];(refine bD (OT.r 0 8) [(3,[1]),(6,[1,2])] ?_;simp only[go_sem,z,B,G,H,O,U,S,Z]);refine aRg (T:=T) (fin:=fin) (d:=d) (first:=first) (i:=i) (n:=n) gH ?_;simp only[go_sem,z,B,G,H,O,U,S,Z];refine⟨by have:=hT.txt t ht;unfold maxLen;omega,?_⟩;rw[dK];(refine aM λb7 M=>?_);have e7:=aI hr M.2.2.2.2;simp only[go_sem,z,B,G,H,O,U,S,Z,M,e7];refine fQ (T:=T) (fin:=fin) (d:=d) (first:=first) (i:=i) (n:=n) _ gH hi hT (bE hk (λ_ w m h b2 hw hm=>?_) (λf h=>PB.mk bC h));subst hw hm;simp only[go_sem,z,B,G,H,O,U,S,Z,M,e7];refine jV (T:=T) (fin:=fin) (d:=d) (first:=first) (i:=i+1) (n:=_) _ gH b2 hT ?_;cases c4:dO [41] (T.drop (i+1))with
  | true =>
   rw[aF c4,cL]at h;have b0:=lR c4;simp only[go_sem,z,B,G,H,O,U,S,Z,M,e7];refine DK.mk (h (i+1+1) aB b0 bA hn) (St.gx.ge bC gH) ?_;exact Tm.le_leaf _ _ _ _
  | false =>
   rw[aD (by simp[c4]),bY]at h;simp only[go_sem,z,B,G,H,O,U,S,Z,M,e7]
   refine aFI (fin:=fin) (σ:=List Tm) (α:=Tm) (X:=Option Nat) (r:=r) Tm.enc Tm.hz Tm.ho hT
    (λs' acc tk i n=>iA T fin d first 5 t.text b7 r s' acc tk i n) (λs' acc tk i=>EntQ b3 b5 b7 r k s' acc tk i) (λacc w n=>(aBg false fin first (lV false fin first k) acc w n).bind λa w n=>.ok (acc++[a],a) w n) 295 [] [.ptr b7 0,.ptr b3 0,.ptr b5 0]
    (λs' a x i n=>⟨d,first,aMt e7.2,aKk⟩) (λs' a x i n t v h ht=>?_) (λs' a x i n t v u ht h=>?_) (λs' a x i n t v ht h=>⟨h.dropT,aJ1 ht⟩)
    (λs' a x i h=>⟨by have:=h.len;omega,h.h2,h.h3,h.hq,h.ne,h.nil,h.free⟩) (λs' a x i n h=>iK (eW (dH h.hq (fN _ _))) h.free)
    (λs' a x i n br bt h bg bk bb=>aTf k b3 b5 b7 t.text bd IH hT a x h bg bk (by rw[bY]at bb;exact bE bb (λ_ _ _ h=>h) (λ_ h=>h)))
    [] none (i+1) _ ?_ b2 hn ?_
   .have b1:=ht;rw[aAv]at b1;have hx:x≠some t:=λe=>by rw[aF e]at b1;cases b1
    rw[aD hx]at b1;exact⟨b1,h.setT hx,aKf hx⟩
   .have hx:=h.unT.1;refine⟨by rw[aAv,aD hx,dC,aF rfl],h.dropT.setT hx,aJ5 hx⟩
   .refine⟨aW _,gH,gH,?_,⟨e7.2,?_,?_,O.1,S.1⟩,λ_=>rfl,λt e=>(by cases e)⟩
    .simp only[aL,dB,reduceIte,M]
    .exact M.2.2.2.1.2
    .exact M.2.1.2
   refine bE (aKu _ _ _ _ _ [] _ _ _ _ h) (λc w m2 b8 j y hj bh hw hm hy=>?_) (λf h s1 o hg bm=>h.at (hg.trans bC) bm);obtain⟨l,ul⟩:=c;simp only at b8 hy;subst hw;rw[bY]at b8;have b9:∀t,y=some t->s.getT t=none:=hy.free
   have bl:=hy.nil;simp only[iA];simp only[go_sem,z,B,G,H,O,U,S,Z,M,e7];refine fQ (T:=T) (fin:=fin) (d:=d) (first:=first) (i:=j) (n:=m2) _ (by simp only[fF,cS,aL,dB,reduceIte,fY,z,B,G,H,O,U,S,Z,M,e7]<;>(first|done|rfl|assumption)) bh hT (bE b8 (λ_ w3 m3 bc bf bp bj=>?_) (λf h=>PB.mk (by repeat (first|exact fN _ _|refine iK ?_ b9|refine eW ?_|refine dH z ?_|refine dH B.2 ?_|refine dH G.2.2 ?_|refine dH H.2.2.2 ?_|refine dH M.2.2.2.2 ?_)) h));rw[cL]at bc;subst bj;simp only[go_sem,z,B,G,H,O,U,S,Z,M,e7];refine⟨zC y _,?_⟩;refine DK.mk (bc (j+1) aB bf bp hm) (St.gx.ge (by repeat (first|exact fN _ _|refine iK ?_ b9|refine eW ?_|refine dH z ?_|refine dH B.2 ?_|refine dH G.2.2 ?_|refine dH H.2.2.2 ?_|refine dH M.2.2.2.2 ?_)) (by simp only[fF,cS,aL,dB,reduceIte,fY,z,B,G,H,O,U,S,Z,M,e7]<;>(first|done|rfl|assumption))) ?_;rw[cY];exact A.le.agg ⟨⟨bL _,rfl⟩,⟨bL _,rfl⟩,⟨bL _,rfl⟩,⟨bL _,rfl⟩,⟨kJ y _ (λe=>by rw[bl e];rfl),rfl⟩,⟨A.le.nil,rfl⟩,trivial⟩
end
end
section
section
variable {T:List Tok} {fin:Fault} {r:Nat}
theorem aUe(hT:TOk T):∀k,k<=60->zH T fin r k:=by
 intro k
 induction k with
 | zero =>
  intro _ s d first i n KV Kp hr Z hn B
  have b2:decide ((60:Int)<((61:Nat):Int))=true:=by decide
  have b3:decide ((60:Int)<((61-0:Nat):Int))=true:=by decide
  (refine aN func260 [0,1,4,5,10,14,27,28,33,38] ?_;simp only[go_sem,ntmps260,f260]);(refine aM λb4 y=>?_);have H:=aI hr y;simp only[go_sem,y,H];refine kP (T:=T) (fin:=fin) (d:=d) (first:=first) (i:=i) (n:=n) gH Z ?_;cases O:T.drop i with
  | nil=>rw[O]at B;exact B.at bC gH
  | cons t w =>
   rw[O]at B;simp only[go_sem,y,H];(refine aM λb5 z=>?_);have M:=aI hr z.2;simp only[go_sem,y,H,z,M];refine aDn (T:=T) (fin:=fin) (d:=d) (first:=first) (i:=i) (n:=n) gH Z ?_;rw[O];simp only[lV]at B⊢;cases hb:t.begins with
   | true =>
    rw[hb]at B;simp only[dF,eP]at B;simp only[go_sem,y,H,z,M,b2,b3];refine qQ (T:=T) (fin:=fin) (d:=d) (first:=first) (i:=i) (n:=n) 19 gH Z hT ?_;rw[O];exact B.at bC gH
   | false =>
    rw[hb]at B;simp only[dA,cZ,eP]at B;simp only[go_sem,y,H,z,M];refine qQ (T:=T) (fin:=fin) (d:=d) (first:=first) (i:=i) (n:=n) 11 gH Z hT ?_;rw[O];exact B.at bC gH
 | succ k ih =>
  intro b8 s d first i n KV Kp hr Z hn B
  rw[show(61-(k+1):Nat)=60-k by omega];have IH:=ih aB;have b9:=hT.len;have b1:decide ((60:Int)<((60-k:Nat):Int))=false:=by rw[fO];omega
  (refine aN func260 [0,1,4,5,10,14,27,28,33,38] ?_;simp only[go_sem,ntmps260,f260]);(refine aM λb4 y=>?_);have H:=aI hr y;simp only[go_sem,y,H];refine kP (T:=T) (fin:=fin) (d:=d) (first:=first) (i:=i) (n:=n) gH Z ?_;cases O:T.drop i with
  | nil=>rw[O]at B;exact B.at bC gH
  | cons t w =>
   rw[O]at B;obtain⟨h1,h2,h3,h4⟩:=mD O;simp only[go_sem,y,H];(refine aM λb5 z=>?_);have M:=aI hr z.2;simp only[go_sem,y,H,z,M];refine aDn (T:=T) (fin:=fin) (d:=d) (first:=first) (i:=i) (n:=n) gH Z ?_;rw[O];simp only[lV]at B⊢;cases hb:t.begins with
   | false =>
    rw[hb]at B;simp only[dA,cZ,eP]at B;simp only[go_sem,y,H,z,M];refine qQ (T:=T) (fin:=fin) (d:=d) (first:=first) (i:=i) (n:=n) 11 gH Z hT ?_;rw[O];exact B.at bC gH
   | true =>
    rw[hb]at B;simp only[dF,bY]at B;simp only[go_sem,y,H,z,M,b1];refine aLh (T:=T) (fin:=fin) (d:=d) (first:=first) (i:=i) (n:=n) gH hn ?_
    have b6:(zP first (T.drop i) n).to (λ_ w' m0=>w'=T.drop i->m0<=2000->((if t.kind=2 then Rd.ok (Tm.mk 1 t.n [] [] [] []) w m0 else if t.kind=3 then Rd.ok (Tm.mk 3 0 t.text [] [] []) w m0 else if t.kind=1 then aD6 false fin first (lV false fin first k) t w m0 else xA fin first (lV false fin first k) (decide (k=0)) t w m0)).to (PK T (i+1) (λj m=>s.setO r (bI T fin d first j m)) Tm.enc KV) (PB s r Kp)) (PB s r Kp):=by
     unfold zP at B⊢;split
     .rename_i hc;rw[aF hc]at B;exact B
     .rename_i hc;rw[aD hc]at B;exactλ_ _=>B
    refine bE b6 (λ_ w' m0 G b7 S=>?_) (λf h=>PB.mk bC h);have G:=G b7 S;simp only[go_sem,y,H,z,M,aU i aB]
    (apply aJ<;>intro h)<;>simp only[go_sem,h,y,H,z,M]
    .have x2:t.kind=2:=gQ h;rw[aF x2,cL]at G
     (try simp only[go_sem,y,H,z,M])
     exact DK.mk (G (i+1) (bJ _) h2 h3 S) (St.gx.ge bC gH) (Tm.le_leaf _ _ _ _)
    have x2:¬ t.kind=2:=gQ h;rw[aD x2]at G
    (try simp only[go_sem,y,H,z,M])
    (apply aJ<;>intro h)<;>simp only[go_sem,h,y,H,z,M]
    .have x3:t.kind=3:=gQ h;rw[aF x3,cL]at G
     (try simp only[go_sem,y,H,z,M])
     exact DK.mk (G (i+1) (bJ _) h2 h3 S) (St.gx.ge bC gH) (Tm.le_leaf _ _ _ _)
    have x3:¬ t.kind=3:=gQ h;rw[aD x3]at G
    (try simp only[go_sem,y,H,z,M])
    have U:∀(a:Tm) (w:List Tok) (m:Nat),PK T (i+1) (λj m=>s.setO r (bI T fin d first j m)) Tm.enc KV a w m ->
      ∀(j:Nat),i+1<=j->j<=T.length->T.drop j=w->m<=2000->KV (s.setO r (bI T fin d first j m)) (.agg a.cs):=λa w m h j h1 h2 h3 h4=>by
     rw[<-cY];exact h j h1 h2 h3 h4
    (apply aJ<;>intro h)<;>simp only[go_sem,h,y,H,z,M]
    .have x1:t.kind=1:=gQ h;rw[aF x1,<-h3]at G
     (try simp only[go_sem,y,H,z,M])
     refine aQV (T:=T) (fin:=fin) (d:=d) (first:=first) (i:=i+1) (n:=m0) k aB IH t h4 gH h2 hT S (bE G (λa w m h j hj b0 O hm=>?_) (λf h=>PB.mk bC h));have h':=U _ _ _ h j hj b0 O hm;simp only[go_sem]at h';simp only[go_sem,y,H,z,M,cY];exact aG h' (St.gx.ge bC gH)
    .have x1:¬ t.kind=1:=gQ h;rw[aD x1,<-h3]at G
     (try simp only[go_sem,y,H,z,M])
     refine aQT (T:=T) (fin:=fin) (d:=d) (first:=first) (i:=i+1) (n:=m0) k aB IH t gH h2 hT S h4 (bE G (λa w m h j hj b0 O hm=>?_) (λf h=>PB.mk bC h));have h':=U _ _ _ h j hj b0 O hm;simp only[go_sem]at h';simp only[go_sem,y,H,z,M,cY];exact aG h' (St.gx.ge bC gH)
end
end
section
section
variable {T:List Tok} {fin:Fault} {d:Dc} {first:Tok} {i n:Nat} {s:St} {r:Nat} {KV Kp:St->A->Prop}
theorem vG(hT:TOk T)(U:s.getO r=some (bI T fin d first i n))(hi:i<=T.length)(hn:n<=2000)
  (hk:(pV false fin (T.drop i) n).to (PK T (i+1) (λj m=>s.setO r (bI T fin d first j m)) Tm.enc KV) (PB s r Kp)):Den cx 226 [.ptr r 0] KV Kp s:=by
 (refine aN func226 [0,2,3,4,5] ?_;simp only[go_sem,ntmps226,f226]);have B:=U;simp only[go_sem]at B;(intro b2 y;try simp only[iM,cS,dB]at y);have M:=aI U (aS y);simp only[go_sem,B,y,M];(refine bD (OT.r 0 11) [(8,[3,7]),(9,[7])] ?_;simp only[go_sem,B,y,M]);(intro b3 G;try simp only[iM,cS,dB]at G);have S:=aI U (aS G);simp only[go_sem,B,y,M,G,S]
 have z:(match T.drop i with|t::w=>(match lV false fin t 60 (T.drop i) 0 with|.ok a w _=>Rd.ok a w n|.bad f=>.bad f).to (PK T (i+1) (λj m=>s.setO r (bI T fin d first j m)) Tm.enc KV) (PB s r Kp)|[]=>PB s r Kp fin):=by
  unfold pV at hk;revert hk;cases T.drop i with
  | nil=>exactλh=>h
  | cons t w=>exactλh=>h
 refine kP (T:=T) (fin:=fin) (d:=d) (first:=first) (i:=i) (n:=n) gH hi ?_;cases hw:T.drop i with
 | nil=>rw[hw]at z;exact z.at bC gH
 | cons t w =>
  rw[hw]at z;simp only at z⊢;simp only[go_sem,B,y,M,G,S];refine aUe hT 60 (bJ _) _ d t i 0 _ _ gH hi (aW _) ?_;rw[hw];cases ht:lV false fin t 60 (t::w) 0 with
  | bad f=>rw[ht]at z;exact PB.mk bC z
  | ok a w2 m =>
   rw[ht]at z;intro j hj Z b0 hm;have O:=z j hj Z b0 hn;simp only[cY]at O;simp only[go_sem,B,y,M,G,S];(intro b5 H;try simp only[iM,cS,dB]at H);have e5:=aI U (aS H);simp only[go_sem,B,y,M,G,S,H,e5];exact aG O (St.gx.ge bC gH)
theorem dV{s1:St}{f:Fault}(m:s1.gx s r)(h:∀s1 o,s1.gx s r->s1.getO r=some o->Kp s1 (.iface 36 f.enc)):PB s1 r (DK Kp) f:=λo=>aP (h _ o (eW m) (by rw[aL,aF rfl]))
def aCw(fin:Fault)(a:Nat)(w:List Tok)(n:Nat):Rd Tm:=match w with
 | []=>.bad fin
 | t::r=>if t.begins=true then(aHq fin a 20 (t::r) n).bind λ_ w n=>pV false fin w n else pV false fin (t::r) n
def rW(T:List Tok)(fin:Fault)(d:Dc)(first:Tok)(m r:Nat)(s:St)(a i n:Nat):St :=
 (s.setO m (.cells 3 [.int .i64 (a:Int)])).setO r (bI T fin d first i n)
structure CndQ (b1 b3 r:Nat) (s:St) (a i:Nat):Prop where
 len:a<=i
 h1:s.getO b1=some (.cells 153 [.ptr r 0])
 h3:s.getO b3=none
 ne:b1≠r/\b3≠r/\b1≠b3
theorem aRJ(hT:TOk T)(b1 b3 a:Nat)(hQ:CndQ b1 b3 r s a i)(hi:i<=T.length)(hn:n<=2000)
  (z : (aCw fin a (T.drop i) n).to (fun x w n' => ∀ j,i + 1 ≤ j → j ≤ T.length → T.drop j = w → n' ≤ 2000 → KV (rW T fin d first b3 r s (a + 1) j n') x.enc)
   (λf=>∀s1 o,s1.gx s r->s1.getO r=some o->Kp s1 (.iface 36 f.enc))):Den cx 262 [.ptr b1 0,.ptr b3 0] KV Kp (rW T fin d first b3 r s a i n):=by
 obtain⟨b7,Z,h3,B,G,H⟩:=hQ;have b6:=hT.len;(refine aN func262 [0,1,2,4] ?_;simp only[go_sem,ntmps262,f262]);unfold rW;have m1:=B.symm;have m2:=G.symm;have m3:=H.symm;(refine aM λb2 y=>?_);have e2:=aI Z y.2.2;simp only[go_sem,B,G,H,B.symm,G.symm,H.symm,Z,y,e2];refine aDn (T:=T) (fin:=fin) (d:=d) (first:=first) (i:=i) (n:=n) gH hi ?_
 have M:∀(U:St->A->Prop) (s2:St),s2.gx s r->s2.getO r=some (bI T fin d first i n) ->
   (∀(j:Nat) (x:Tm) (m:Nat),i+1<=j->j<=T.length->m<=2000->(∀w,T.drop j=w->KV (rW T fin d first b3 r s (a+1) j m) x.enc)->U (s2.setO r (bI T fin d first j m)) x.enc) ->
   (pV false fin (T.drop i) n).to (fun x w n'=>∀ j,i+1≤j→j≤T.length→T.drop j=w→n'≤2000→KV (rW T fin d first b3 r s (a+1) j n') x.enc)
    (λf=>∀s1 o,s1.gx s r->s1.getO r=some o->Kp s1 (.iface 36 f.enc))->Den cx 226 [.ptr r 0] U (DK Kp) s2:=by
  intro U s2 hg b5 b4 hw;refine vG hT b5 hi hn (bE hw (λx w m h j hj S hw hm=>b4 j x m hj S hm λw' b8=>?_) (λf h=>dV hg h));exact h j hj S hw hm
 cases hw:T.drop i with
 | nil=>rw[hw]at z;exact dV bC z
 | cons t w =>
  rw[hw]at z M;simp only[aCw]at z⊢;cases hb:t.begins with
  | true =>
   rw[hb]at z;simp only[dF,bY,aHq]at z;simp only[go_sem,B,G,H,B.symm,G.symm,H.symm,Z,y,e2];refine nM (T:=T) (fin:=fin) (d:=d) (first:=first) (i:=i) (n:=n) _ _ gH hi ?_;by_cases b0:20<=a
   .rw[aF b0]at z;rw[aF aB,hw];exact dV bC z
   .rw[aD b0,cL]at z;rw[aD aB];simp only[go_sem,B,G,H,B.symm,G.symm,H.symm,Z,y,e2,aU a aB];refine M _ _ bC gH (λj x m hj S hm h=>?_) z;have O:=h _ rfl;simp only[cY,rW]at O;simp only[go_sem,B,G,H,B.symm,G.symm,H.symm,Z,y,e2,cY];exact aG O cD
  | false =>
   rw[hb]at z;simp only[dA,cZ]at z;simp only[go_sem,B,G,H,B.symm,G.symm,H.symm,Z,y,e2,aU a aB];refine M _ _ bC gH (λj x m hj S hm h=>?_) z;have O:=h _ rfl;simp only[cY,rW]at O;simp only[go_sem,B,G,H,B.symm,G.symm,H.symm,Z,y,e2,cY];exact aG O cD
theorem aJF{α:Type}(fin:Fault)(sep:aC)(one:List α->List Tok->Nat->Rd α):∀(f:Nat) (a:List α) (w:List Tok) (n:Nat) (p:List α->List Tok->Nat->Prop) (b:Fault->Prop),
  (eY fin sep (λacc w n=>(one acc w n).bind λa w n=>.ok (acc++[a]) w n) f a w n).to p b ->
  (eY fin sep (λ(c:List α × List α) w n=>((one c.1 w n).bind λa w n=>Rd.ok (c.1++[a],a) w n).bind λq w n=>.ok (q.1,c.2++[q.2]) w n) f (a,a) w n).to (λc w n=>c.1=c.2/\p c.2 w n) b
 | 0,a,w,n,p,b,h=>h
 | f+1,a,w,n,p,b,h=>by
  simp only[eY,bY]at h⊢;refine bE h (λx w n h=>?_) (λ_ h=>h);simp only[cL]at h⊢;split
  .rename_i e;rw[aF e]at h;exact aJF fin sep one f (a++[x]) w.tail n p b h
  .rename_i e;rw[aD e]at h;exact⟨rfl,h⟩
theorem aQU(w:List Tok)(n:Nat):xK false fin w n=if dO [105,102] w=true then rT fin (λacc w n=>aCw fin acc.length w n) [] w.tail n else .ok [] w n:=by
 unfold xK aCw;split
 .congr 1
 .rfl
theorem aKd(hT:TOk T)(hr:s.getO r=some (bI T fin d first i n))(hi:i<=T.length)(hn:n<=2000)
  (S:(xK false fin (T.drop i) n).to (PK T i (λj m=>s.setO r (bI T fin d first j m)) (λl=>.list none (l.map Tm.enc)) KV) (PB s r Kp)):Den cx 227 [.ptr r 0] KV Kp s:=by
 rw[aQU]at S;(refine aN func227 [0,1,2,3,6] ?_;simp only[go_sem,ntmps227,f227]);(intro Z z;try simp only[iM,cS,dB]at z);have H:=aI hr (aS z);simp only[go_sem,z,H];refine jV (T:=T) (fin:=fin) (d:=d) (first:=first) (i:=i) (n:=n) _ gH hi hT ?_;cases c:dO [105,102] (T.drop i)with
 | false =>
  rw[aD (by simp[c]),cL]at S;simp only[go_sem,z,H];exact DK.mk (S i (bJ _) hi rfl hn) (St.gx.ge bC gH) A.le.nil
 | true =>
  rw[aF c,nJ]at S;have b2:=lR c;simp only[go_sem,z,H];(intro O B;try simp only[iM,cS,dB]at B);have e3:=aI hr (aS B);simp only[go_sem,z,H,B,e3]
  refine iH (s':=rW T fin d first O r (s.setO Z (.cells 153 [.ptr r 0])) 0 (i+1) n) ?_ (aFI (fin:=fin) (σ:=List Tm) (α:=Tm) (X:=Unit) (r:=r) Tm.enc Tm.hz Tm.ho hT
    (λs' acc _ i n=>rW T fin d first O r s' acc.length i n) (λs' acc _ i=>CndQ Z O r s' acc.length i) (λacc w n=>(aCw fin acc.length w n).bind λa w n=>.ok (acc++[a],a) w n) 262 [] [.ptr Z 0,.ptr O 0]
    (λs' a x i n=>⟨d,first,by unfold rW;rw[aL,aF rfl],by unfold rW;rw[qP];exact aE _⟩) (λs' a x i n t v h ht=>⟨ht,⟨h.len,h.h1,h.h3,h.ne⟩,aE _⟩)
    (λs' a x i n t v u ht h=>⟨?_,⟨h.len,h.h1,h.h3,h.ne⟩,?_⟩) (λs' a x i n t v ht h=>⟨⟨h.len,h.h1,h.h3,h.ne⟩,?_⟩)
    (λs' a x i h=>⟨by have:=h.len;omega,h.h1,h.h3,h.ne⟩) (λs' a x i n h=>eW (dH h.h3 (fN _ _)))
    (λs' a x i n b6 b7 h b0 b4 U=>aRJ hT Z O a.length h b0 b4 ?_)
    [] () (i+1) n ?_ b2 hn ?_)
  .exact cD
  .show(s'.setT t v).getT t=some v;rw[dC,aF rfl]
  .exact rM (rM (aBB s' t v u))
  .exact rM (rM (aAn ht))
  .rw[bY]at U;refine bE U (λx w m M j hj G hw hm=>?_) (λ_ h=>h);have h3:=M j () aB G hw hm ⟨by have:=h.len;simp only[aH,aV,aZ];omega,h.h1,h.h3,h.ne⟩;simpa only[aH,aV,aZ]using h3
  .refine⟨aW _,gH,?_,?_⟩
   .simp only[aL,dB,reduceIte,B]
   .simp only[B,H,e3,dB,fY,gG,oI]
  .refine bE (aJF _ _ _ _ _ _ _ _ _ S) (λc w m M j y hj G hw hm hy=>?_) (λf h s1 o hg b5=>h.at (hg.trans bC) b5);obtain⟨l,ul⟩:=c;obtain⟨e,M⟩:=M;simp only at e M;subst e;have h3:=M j aB G hw hm;unfold rW;simp only[go_sem,z,H,B,e3];exact aG h3 cD
end
end
section
section
variable {T:List Tok} {fin:Fault} {d:Dc} {first:Tok} {i n:Nat} {s:St} {r:Nat} {KV Kp:St->A->Prop}
theorem aDE(S:TOk T)(hr:s.getO r=some (bI T fin d first i n))(hi:i<=T.length)(hn:n<=2000)
  (H:(zN false fin (T.drop i) n).to (PK T (i+1) (λj m=>s.setO r (bI T fin d first j m)) Cel.enc KV) (PB s r Kp)):Den cx 266 [.ptr r 0] KV Kp s:=by
 (refine aN func266 [0,2,3,4] ?_;simp only[go_sem,ntmps266,f266]);(intro b2 y;try simp only[iM,cS,dB]at y);have G:=aI hr (aS y);simp only[go_sem,y,G];refine kP (T:=T) (fin:=fin) (d:=d) (first:=first) (i:=i) (n:=n) gH hi ?_;cases hw:T.drop i with
 | nil=>rw[hw]at H;exact H.at bC gH
 | cons t w =>
  rw[hw]at H;obtain⟨g1,g2,g3,g4⟩:=mD hw;simp only[zN,bY]at H;simp only[go_sem,y,G];(intro b3 z;try simp only[iM,cS,dB]at z);have M:=aI hr (aS z);simp only[go_sem,y,G,z,M];(refine bD (OT.l [0,2,3,4,5,1,6,7,8] .nil) [(1,[3,5]),(7,[3,5])] ?_;simp only[go_sem,y,G,z,M]);rw[<-hw]at H;(refine iR (T:=T) (fin:=fin) (d:=d) (first:=first) (i:=i) (n:=n) gH hi S (bE H (λx1 w1 m1 Z b7 bd bl=>?_) (λf h=>PB.mk bC h));subst m1;rw[<-bd]at Z);simp only[go_sem,y,G,z,M];(intro b4 B;try simp only[iM,cS,dB]at B);have O:=aI hr (aS B);simp only[go_sem,y,G,z,M,B,O];(refine fQ (T:=T) (fin:=fin) (d:=d) (first:=first) (i:=i+1) (n:=n) _ gH b7 S (bE Z (λ_ w2 m2 b0 b8 bf bm=>?_) (λf h=>PB.mk bC h));subst m2;rw[<-bf]at b0);simp only[go_sem,y,G,z,M,B,O];(refine iR (T:=T) (fin:=fin) (d:=d) (first:=first) (i:=i+1+1) (n:=n) gH b8 S (bE b0 (λx3 w3 m3 b1 b9 bg bn=>?_) (λf h=>PB.mk bC h));subst m3;rw[<-bg]at b1);simp only[go_sem,y,G,z,M,B,O];(refine fQ (T:=T) (fin:=fin) (d:=d) (first:=first) (i:=i+1+1+1) (n:=n) _ gH b9 S (bE b1 (λ_ w4 m4 b5 bb bh bp=>?_) (λf h=>PB.mk bC h));subst m4;rw[<-bh]at b5);simp only[go_sem,y,G,z,M,B,O];(refine vG (T:=T) (fin:=fin) (d:=d) (first:=first) (i:=i+1+1+1+1) (n:=n) S gH bb hn (bE b5 (λa5 w5 m5 b6 j5 bk U bj bc=>?_) (λf h=>PB.mk bC h));rw[<-bj]at b6);have H:=b6 j5 aB U rfl bc;simp only[Cel.enc,Cel.cs]at H;simp only[go_sem]at H;simp only[go_sem,y,G,z,M,B,O,cY];exact aG H cD
def aA8(T:List Tok)(fin:Fault)(d:Dc)(first:Tok)(b r:Nat)(x:aC)(s:St)(tk:Option Nat)(m:List aC)(i n:Nat):St :=
 gs ((s.setO b (.cells 80 [.str x,gv tk (m.map .str),.str [],.nils,.int .i64 0,.int .i64 0,.nils])).setO r (bI T fin d first i n)) tk m.length 9
theorem aUb(hT:TOk T)(hr:s.getO r=some (bI T fin d first i n))(hi:i<=T.length)(hn:n<=2000)
  (hk:(aHF fin (T.drop i) n).to (PK T i (λj m=>s.setO r (bI T fin d first j m)) Opr.enc KV) (PB s r Kp)):Den cx 225 [.ptr r 0] KV Kp s:=by
 have bk:=hT.len;simp only[aHF,bY]at hk;(refine aN func225 [0,2,3,4,13,24] ?_;simp only[go_sem,ntmps225,f225]);(intro b2 z;try simp only[iM,cS,dB]at z);have H:=aI hr (aS z);simp only[go_sem,z,H];(refine iR (T:=T) (fin:=fin) (d:=d) (first:=first) (i:=i) (n:=n) gH hi hT (bE hk (λx1 w1 m1 bb bc bm bq=>?_) (λf h=>PB.mk bC h));subst m1;rw[<-bm]at bb);simp only[go_sem,z,H];(intro b3 B;try simp only[iM,cS,dB]at B);have O:=aI hr (aS B);simp only[go_sem,z,H,B,O];(refine fQ (T:=T) (fin:=fin) (d:=d) (first:=first) (i:=i+1) (n:=n) _ gH bc hT (bE bb (λ_ w2 m2 b9 bd bn br=>?_) (λf h=>PB.mk bC h));subst m2;rw[<-bn]at b9);simp only[go_sem,z,H,B,O];rw[show(T.drop (i+1+1)).length=T.length-(i+1+1)by rw[dS]]at b9
 refine Ex.loop (ι:=Option Nat × List aC × Nat) (λc=>[(0,.ptr r 0),(2,.ptr b2 0),(3,.ptr b3 0)]) (λc=>aA8 T fin d first b3 r x1 (s.setO b2 (.cells 80 [.str [],.nils,.str [],.nils,.int .i64 0,.int .i64 0,.nils])) c.1 c.2.1 c.2.2 n)
  (fun c => (c.1 = none → c.2.1 = []) ∧ (∀ t,c.1 = some t → s.getT t = none) ∧ i + 1 + 1 ≤ c.2.2 ∧ c.2.2 ≤ T.length ∧ c.2.1.length ≤ c.2.2 ∧ ∃ k,T.length - c.2.2 < k ∧
   (zO fin k c.2.1 (T.drop c.2.2) n).to (λar w n=>(gI fin w n).to (λy w n=>PK T i (λj m=>s.setO r (bI T fin d first j m)) Opr.enc KV ⟨x1,ar,y,[],0,0,[]⟩ w n) (PB s r Kp)) (PB s r Kp))
  (λc=>T.length-c.2.2) (none,[],i+1+1) ?_ ?_ ?_ ?_
 .exact⟨λ_=>rfl,λt e=>(by cases e),bJ _,bd,aW _,_,fZ _,b9⟩
 .simp only[go_sem,z,H,B,O]
 .exact cD
 .rintro⟨tk,ar,i2⟩ ⟨S,U,bh,b1,has,k,bj,M⟩;simp only at S U bh b1 has bj M;obtain⟨k,rfl⟩:∃k',k=k'+1:=⟨k-1,by omega⟩
  have hg:iV (aA8 T fin d first b3 r x1 (s.setO b2 (.cells 80 [.str [],.nils,.str [],.nils,.int .i64 0,.int .i64 0,.nils])) tk ar i2 n) tk (ar.map A.str).length 9:=by rw[aO];exact fD λe=>by rw[S e];rfl
  refine aX (V:=[0,2,3,4,13,24]) _ _ _ _ ?_;unfold aA8;simp only[go_sem,z,H,B,O];refine jV (T:=T) (fin:=fin) (d:=d) (first:=first) (i:=i2) (n:=n) _ gH b1 hT ?_;cases hx:dO [45,62] (T.drop i2)with
  | true =>
   rw[zO,aF hx,cL,nJ]at M;have bl:=lR hx;simp only[go_sem,z,H,B,O];(refine iR (T:=T) (fin:=fin) (d:=d) (first:=first) (i:=i2+1) (n:=n) gH bl hT (bE M (λx5 w5 m5 Z bf bp bt=>?_) (λf h=>PB.mk bC h));subst m5;rw[<-bp]at Z);simp only[go_sem,z,H,B,O];have hk:=Z (i2+1+1) aB bf rfl hn;simp only[Opr.enc,Opr.cs]at hk;simp only[go_sem]at hk;refine⟨zC _ _,?_⟩;refine DK.mk hk cD ?_;exact A.le.agg ⟨⟨bL _,rfl⟩,⟨kJ _ _ (λe=>by rw[S e];rfl),rfl⟩,⟨bL _,rfl⟩,⟨A.le.nil,rfl⟩,⟨bL _,rfl⟩,⟨bL _,rfl⟩,⟨A.le.nil,rfl⟩,trivial⟩
  | false =>
   simp only[go_sem,z,H,B,O];refine kP (T:=T) (fin:=fin) (d:=d) (first:=first) (i:=i2) (n:=n) gH b1 ?_;cases hw:T.drop i2 with
   | nil=>rw[hw,zO,aD (by simp[dO])]at M;exact M.at bC gH
   | cons t w =>
    obtain⟨g1,g2,g3,g4⟩:=mD hw;rw[hw,zO,aD (by rw[<-hw,hx];simp),bY]at M;simp only[go_sem,z,H,B,O];(intro b4 G;try simp only[iM,cS,dB]at G);have e4:=aI hr (aS G);simp only[go_sem,z,H,B,O,G,e4]
    have b5:(t.free=true->¬ 8<=ar.length)->(gI fin (T.drop i2) n).to (λa w n=>(zO fin k (ar++[a]) w n).to (λar w n =>
      (gI fin w n).to (λy w n=>PK T i (λj m=>s.setO r (bI T fin d first j m)) Opr.enc KV ⟨x1,ar,y,[],0,0,[]⟩ w n) (PB s r Kp)) (PB s r Kp)) (PB s r Kp):=λh=>by
     rw[hw];simp only[qZ]at M;rw[aD (λhc=>h hc.1 hc.2)]at M;exact M
    cases c1:decide (t.kind=1)
    .have Z:=b5 (λhf=>by simp[Tok.free,c1]at hf);simp only[go_sem,z,H,B,O,G,e4,c1];(refine bD (OT.r 0 8) [(3,[1])] ?_;simp only[go_sem,z,H,B,O,G,e4]);(refine iR (T:=T) (fin:=fin) (d:=d) (first:=first) (i:=i2) (n:=n) gH b1 hT (bE Z (λx6 w6 m6 b0 b8 b7 bg=>?_) (λf h=>PB.mk bC h));subst m6;rw[<-b7]at b0);simp only[go_sem,z,H,B,O,G,e4];refine⟨by decide,λy hy=>by simp only[bO]at hy;subst hy;rfl,dU rfl rfl (by rw[aO];exact fD λe=>by rw[S e];rfl) (λy hy=>?_) (by simp only[aO,aV,aZ];omega) (λt ht=>?_)⟩
     .simp only[cN]at hy;obtain⟨q,_,rfl⟩:=hy;rfl
     have b6:=iD ht U;rw[gR ht];simp only[go_sem,z,H,B,O,G,e4];refine⟨(some t,ar++[x6],i2+1),⟨λe=>(by cases e),λt' e=>by cases e;exact b6,aQ,aQ,by simp only[aH,aV,aZ];omega,k,aQ,b0⟩,aQ,?_⟩
     .simp only[aA8,eK,bU,bX,dL,aH,aV,aZ,aO];exact cD
    simp only[go_sem,z,H,B,O,G,e4,c1];refine wH _ _ _ _ ?_;simp only[go_sem,z,H,B,O,G,e4];cases c2:decide (t.text∈nZ);rotate_left
    .have Z:=b5 (λhf=>by simp[Tok.free,c2]at hf);simp only[go_sem,z,H,B,O,G,e4,c2];(refine bD (OT.r 0 8) [(3,[1])] ?_;simp only[go_sem,z,H,B,O,G,e4]);(refine iR (T:=T) (fin:=fin) (d:=d) (first:=first) (i:=i2) (n:=n) gH b1 hT (bE Z (λx6 w6 m6 b0 b8 b7 bg=>?_) (λf h=>PB.mk bC h));subst m6;rw[<-b7]at b0);simp only[go_sem,z,H,B,O,G,e4];refine⟨by decide,λy hy=>by simp only[bO]at hy;subst hy;rfl,dU rfl rfl (by rw[aO];exact fD λe=>by rw[S e];rfl) (λy hy=>?_) (by simp only[aO,aV,aZ];omega) (λt ht=>?_)⟩
     .simp only[cN]at hy;obtain⟨q,_,rfl⟩:=hy;rfl
     have b6:=iD ht U;rw[gR ht];simp only[go_sem,z,H,B,O,G,e4];refine⟨(some t,ar++[x6],i2+1),⟨λe=>(by cases e),λt' e=>by cases e;exact b6,aQ,aQ,by simp only[aH,aV,aZ];omega,k,aQ,b0⟩,aQ,?_⟩
     .simp only[aA8,eK,bU,bX,dL,aH,aV,aZ,aO];exact cD
    simp only[go_sem,z,H,B,O,G,e4,c2,pP hg];refine nM (T:=T) (fin:=fin) (d:=d) (first:=first) (i:=i2) (n:=n) _ _ gH b1 ?_;by_cases h8:8<=ar.length
    .rw[aF aB,hw];simp only[qZ]at M;rw[aF ⟨by simp[Tok.free,c1,c2],h8⟩]at M;exact PB.mk bC M
    rw[aD aB];have Z:=b5 (λ_=>h8);simp only[go_sem,z,H,B,O,G,e4];(refine bD (OT.r 0 8) [(3,[1])] ?_;simp only[go_sem,z,H,B,O,G,e4]);(refine iR (T:=T) (fin:=fin) (d:=d) (first:=first) (i:=i2) (n:=n) gH b1 hT (bE Z (λx6 w6 m6 b0 b8 b7 bg=>?_) (λf h=>PB.mk bC h));subst m6;rw[<-b7]at b0);simp only[go_sem,z,H,B,O,G,e4];refine⟨by decide,λy hy=>by simp only[bO]at hy;subst hy;rfl,dU rfl rfl (by rw[aO];exact fD λe=>by rw[S e];rfl) (λy hy=>?_) (by simp only[aO,aV,aZ];omega) (λt ht=>?_)⟩
    .simp only[cN]at hy;obtain⟨q,_,rfl⟩:=hy;rfl
    have b6:=iD ht U;rw[gR ht];simp only[go_sem,z,H,B,O,G,e4];refine⟨(some t,ar++[x6],i2+1),⟨λe=>(by cases e),λt' e=>by cases e;exact b6,aQ,aQ,by simp only[aH,aV,aZ];omega,k,aQ,b0⟩,aQ,?_⟩
    .simp only[aA8,eK,bU,bX,dL,aH,aV,aZ,aO];exact cD
end
end
section
def nv(es:List A):A:=match es with
 | []=>.nils
 | x::l=>.list none (x::l)
@[go_sem] theorem aWG(es:List A):(nv es).cells=[nv es]:=by cases es<;>rfl
@[go_sem] theorem aXv(es:List A):(nv es).one=true:=by cases es<;>rfl
@[go_sem] theorem aXe(s:St)(es:List A):jM s (nv es)=nv es:=by cases es<;>rfl
@[go_sem] theorem aW0(es:List A):nA (nv es)=some (.int .i64 es.length):=by cases es<;>rfl
theorem aM0(es:List A):A.le (nv es) (.list none es):=by
 cases es with
 | nil=>exact A.le.nil
 | cons x l=>exact bL _
def opC(o:Opr)(m y:A):List A:=[.str o.name,m,.str o.sort,y,.int .i64 o.prec,.int .i64 o.assoc,nv (o.strict.map (.int .i64))]
attribute [go_sem] opC
theorem aK3{α:Type}(fin:Fault)(sep:aC)(one:List α->List Tok->Nat->Rd α):∀(f:Nat) (a:List α) (w:List Tok) (n:Nat) (p:List α->List Tok->Nat->Prop) (b:Fault->Prop),
  (eY fin sep (λacc w n=>(one acc w n).bind λa w n=>.ok (acc++[a]) w n) f a w n).to p b ->
  (eY fin sep (λacc w n=>(one acc w n).bind λa w n=>.ok (acc++[a]) w n) f a w n).to (λl w n=>l≠[]/\p l w n) b
 | 0,a,w,n,p,b,h=>h
 | f+1,a,w,n,p,b,h=>by
  simp only[eY,bY]at h⊢;refine bE h (λx w n h=>?_) (λ_ h=>h);simp only[cL]at h⊢;split
  .rename_i e;rw[aF e]at h;exact aK3 fin sep one f (a++[x]) w.tail n p b h
  .rename_i e;rw[aD e]at h;exact⟨by simp,h⟩
section
variable {T:List Tok} {fin:Fault} {d:Dc} {first:Tok} {i n:Nat} {s:St} {r:Nat} {KV Kp:St->A->Prop}
theorem aHs{s1:St}{L M:List Nat}{f:Fault}(y:r∈L)(m:s1.gel s L M)(h:∀s1 o,s1.gel s L M->s1.getO r=some o->Kp s1 (.iface 36 f.enc)):PB s1 r (DK Kp) f :=
 λo=>aP (h _ o (aCn y m) (by rw[aL,aF rfl]))
theorem aQe(B:TOk T)(y:Nat)(M:s.getO r=some (bI T fin d first i n))(z:s.getO y=some (.cells 153 [.ptr r 0]))(G:i<=T.length)
  (H:(aAK fin 8 (T.drop i) n).to (λx w O=>i+1<=T.length->T.drop (i+1)=w->O=n->KV (s.setO r (bI T fin d first (i+1) n)) (.int .i64 x)) (PB s r Kp)):Den cx 277 [.ptr y 0] KV Kp s:=by
 (refine aN func277 [0,1] ?_;simp only[go_sem,ntmps277,f277]);simp only[go_sem,z];refine aJv 8 M G B (bE H (λx w m h a b c=>?_) (λf h=>PB.mk (fN _ _) h));simp only[go_sem];exact aP (h a b c)
theorem aKA(hT:TOk T)(b:Nat)(aA pA:A)(O:aA.one=true)(S:pA.one=true)(o:Opr)(k:Nat)(hr:s.getO r=some (bI T fin d first i n))(hb:s.getO b=some (.cells 80 (opC o aA pA)))(y:b≠r)(hi:i<=T.length)(hn:n<=2000)(bf:T.length-i<k)
  (hk : (sP fin k o (T.drop i) n).to (fun o' w n' => ∀ j,i ≤ j → j ≤ T.length → T.drop j = w → n' ≤ 2000 → KV ((s.setO b (.cells 80 (opC o' aA pA))).setO r (bI T fin d first j n')) (.tuple []))
   (λf=>∀s1 x,s1.gel s [b,r] []->s1.getO r=some x->Kp s1 (.iface 36 f.enc))):Den cx 259 [.ptr r 0,.ptr b 0] KV Kp s:=by
 have bk:=hT.len;(refine aN func259 [0,1,2,4,7,11,14,21,63,74,87,94,99] ?_;simp only[go_sem,ntmps259,f259]);(intro b2 B;try simp only[iM,cS,dB]at B);have M:=aI hr (aS B);have G:=aI hb B;have bq:=y.symm;simp only[go_sem,B,M,y,y.symm,G,O,S]
 refine Ex.loop (ι:=Opr × Nat × Nat × Nat) (λc=>[(0,.ptr r 0),(1,.ptr b 0),(2,.ptr b2 0)]) (λc=>((s.setO b2 (.cells 153 [.ptr r 0])).setO b (.cells 80 (opC c.1 aA pA))).setO r (bI T fin d first c.2.1 c.2.2.1))
  (fun c => i ≤ c.2.1 ∧ c.2.1 ≤ T.length ∧ c.2.2.1 ≤ 2000 ∧ T.length - c.2.1 < c.2.2.2 ∧ (sP fin c.2.2.2 c.1 (T.drop c.2.1) c.2.2.1).to (fun o' w n' => ∀ j,i ≤ j → j ≤ T.length → T.drop j = w → n' ≤ 2000 → KV ((s.setO b (.cells 80 (opC o' aA pA))).setO r (bI T fin d first j n')) (.tuple []))
   (λf=>∀s1 x,s1.gel s [b,r] []->s1.getO r=some x->Kp s1 (.iface 36 f.enc)))
  (λc=>T.length-c.2.1) (o,i,n,k) ?_ ?_ ?_ ?_
 .exact⟨bJ _,hi,hn,bf,hk⟩
 .simp only[go_sem,B,M,y,y.symm,G,O,S]
 .refine qW (wU ?_ (wU ?_ (aAy _ _ _)))
  .rw[aL,aD M.2];exact hr
  .rw[aL,aD G.2];exact hb
 .rintro⟨o,i2,n,k⟩ ⟨b8,b0,hn,bj,z⟩;simp only at b8 b0 hn bj z;obtain⟨k,rfl⟩:∃k',k=k'+1:=⟨k-1,by omega⟩
  have b3:r∈[b,r]:=by simp
  refine aX (V:=[0,1,2,4,7,11,14,21,63,74,87,94,99]) _ _ _ _ ?_;simp only[go_sem,B,M,y,y.symm,G,O,S];refine oM (T:=T) (fin:=fin) (d:=d) (first:=first) (i:=i2) (n:=n) _ gH b0 ?_;rw[sP.eq_def]at z;simp only at z;cases hx:dO [46] (T.drop i2)with
  | true =>
   rw[aF hx,cL]at z;simp only[go_sem,B,M,y,y.symm,G,O,S];exact aG (z i2 b8 b0 rfl hn) cD
  | false =>
   rw[aD (by rw[hx];simp)]at z;simp only[go_sem,B,M,y,y.symm,G,O,S];refine kP (T:=T) (fin:=fin) (d:=d) (first:=first) (i:=i2) (n:=n) gH b0 ?_;cases hw:T.drop i2 with
   | nil=>rw[hw]at z;exact aP (z _ (bI T fin d first i2 n) mN gH)
   | cons t w =>
    obtain⟨g1,g2,g3,g4⟩:=mD hw;rw[hw]at z;simp only at z;simp only[go_sem,B,M,y,y.symm,G,O,S];(refine aM λb4 H=>?_);simp only[go_sem,B,M,y,y.symm,G,O,S,H]
    have bad:∀(b7:St->A->Prop) (c:Int) (s1:St),s1.gel s [b,r] []->s1.getO r=some (bI T fin d first i2 n)->(∀s1 x,s1.gel s [b,r] []->s1.getO r=some x->Kp s1 (.iface 36 (iE fin c (t::w)).enc))->Den cx 216 [.ptr r 0,.int .i64 c] b7 (DK Kp) s1:=by
     intro b7 c s1 bc b6 hf;refine qQ c b6 b0 hT ?_;rw[hw];exact aP (hf _ _ bc b6)
    by_cases x1:t.text=[112,114,101,99]
    .have Z:decide (t.text=[112,114,101,99])=true:=by rw[x1];rfl
     have d2:decide (t.text=[108,101,102,116])=false:=by rw[x1];rfl
     have d3:decide (t.text=[114,105,103,104,116])=false:=by rw[x1];rfl
     have d4:decide (t.text=[115,116,114,105,99,116])=false:=by rw[x1];rfl
     simp only[go_sem,B,M,y,y.symm,G,O,S,H,Z,d2,d3,d4];cases U:decide (t.kind=1)
     .rw[aF (gQ U),eP]at z;simp only[go_sem,B,M,y,y.symm,G,O,S,H,U];exact bad _ _ _ mN gH z
     rw[aD (gQ U),aF x1]at z;simp only[go_sem,B,M,y,y.symm,G,O,S,H,U,Z,d2,d3,d4];cases c2:decide (0<o.prec)
     .rw[aD (gQ c2),bY,<-g3]at z;simp only[go_sem,B,M,y,y.symm,G,O,S,H,U,c2,Z,d2,d3,d4,aU i2 aB];refine aJv (T:=T) (fin:=fin) (d:=d) (first:=first) (i:=i2+1) (n:=n) 20 gH g2 hT (bE z (λx w m b1 bt hw hm=>?_) (λf h=>aHs b3 mN h));subst m;rw[<-hw]at b1;simp only[go_sem,B,M,y,y.symm,G,O,S,H];refine⟨({ o with prec:=x },i2+1+1,n,k),⟨aQ,aQ,hn,aQ,b1⟩,aQ,cD⟩
     .rw[aF (gQ c2),eP]at z;simp only[go_sem,B,M,y,y.symm,G,O,S,H,U,c2,Z,d2,d3,d4];exact bad _ _ _ mN gH z
    by_cases x2:t.text=[108,101,102,116]
    .have Z:decide (t.text=[112,114,101,99])=false:=by rw[x2];rfl
     have d2:decide (t.text=[108,101,102,116])=true:=by rw[x2];rfl
     have d3:decide (t.text=[114,105,103,104,116])=false:=by rw[x2];rfl
     have d4:decide (t.text=[115,116,114,105,99,116])=false:=by rw[x2];rfl
     simp only[go_sem,B,M,y,y.symm,G,O,S,H,Z,d2,d3,d4];cases U:decide (t.kind=1)
     .rw[aF (gQ U),eP]at z;simp only[go_sem,B,M,y,y.symm,G,O,S,H,U];exact bad _ _ _ mN gH z
     rw[aD (gQ U),aD x1,aF x2]at z;simp only[go_sem,B,M,y,y.symm,G,O,S,H,U,Z,d2,d3,d4];cases c2:decide (o.assoc=0)
     .rw[aD (gQ c2),eP]at z;simp only[go_sem,B,M,y,y.symm,G,O,S,H,U,c2,Z,d2,d3,d4];exact bad _ _ _ mN gH z
     .rw[aF (gQ c2),<-g3]at z;simp only[go_sem,B,M,y,y.symm,G,O,S,H,U,c2,Z,d2,d3,d4,aU i2 aB];refine⟨({ o with assoc:=1 },i2+1,n,k),⟨aQ,aQ,hn,aQ,z⟩,aQ,cD⟩
    by_cases x3:t.text=[114,105,103,104,116]
    .have Z:decide (t.text=[112,114,101,99])=false:=by rw[x3];rfl
     have d2:decide (t.text=[108,101,102,116])=false:=by rw[x3];rfl
     have d3:decide (t.text=[114,105,103,104,116])=true:=by rw[x3];rfl
     have d4:decide (t.text=[115,116,114,105,99,116])=false:=by rw[x3];rfl
     simp only[go_sem,B,M,y,y.symm,G,O,S,H,Z,d2,d3,d4];cases U:decide (t.kind=1)
     .rw[aF (gQ U),eP]at z;simp only[go_sem,B,M,y,y.symm,G,O,S,H,U];exact bad _ _ _ mN gH z
     rw[aD (gQ U),aD x1,aD x2,aF x3]at z;simp only[go_sem,B,M,y,y.symm,G,O,S,H,U,Z,d2,d3,d4];cases c2:decide (o.assoc=0)
     .rw[aD (gQ c2),eP]at z;simp only[go_sem,B,M,y,y.symm,G,O,S,H,U,c2,Z,d2,d3,d4];exact bad _ _ _ mN gH z
     .rw[aF (gQ c2),<-g3]at z;simp only[go_sem,B,M,y,y.symm,G,O,S,H,U,c2,Z,d2,d3,d4,aU i2 aB];refine⟨({ o with assoc:=2 },i2+1,n,k),⟨aQ,aQ,hn,aQ,z⟩,aQ,cD⟩
    by_cases x4:t.text=[115,116,114,105,99,116]
    .have Z:decide (t.text=[112,114,101,99])=false:=by rw[x4];rfl
     have d2:decide (t.text=[108,101,102,116])=false:=by rw[x4];rfl
     have d3:decide (t.text=[114,105,103,104,116])=false:=by rw[x4];rfl
     have d4:decide (t.text=[115,116,114,105,99,116])=true:=by rw[x4];rfl
     simp only[go_sem,B,M,y,y.symm,G,O,S,H,Z,d2,d3,d4];cases U:decide (t.kind=1)
     .rw[aF (gQ U),eP]at z;simp only[go_sem,B,M,y,y.symm,G,O,S,H,U];exact bad _ _ _ mN gH z
     rw[aD (gQ U),aD x1,aD x2,aD x3,aF x4]at z;simp only[go_sem,B,M,y,y.symm,G,O,S,H,U,Z,d2,d3,d4];cases c2:decide ((0:Int)<(o.strict.length:Int));rotate_left
     .rw[aF (gQ c2),eP]at z;simp only[go_sem,B,M,y,y.symm,G,O,S,H,U,c2,Z,d2,d3,d4];exact bad _ _ _ mN gH z
     rw[aD (gQ c2),bY,<-g3]at z;simp only[go_sem,B,M,y,y.symm,G,O,S,H,U,c2,Z,d2,d3,d4,aU i2 aB];refine fQ (T:=T) (fin:=fin) (d:=d) (first:=first) (i:=i2+1) (n:=n) _ gH g2 hT (bE z (λ_ w m b1 bb hw hm=>?_) (λf h=>aHs b3 mN h));subst m;rw[<-hw,bY]at b1;simp only[go_sem,B,M,y,y.symm,G,O,S,H]
     refine iH (St.ge_same gH) (aOk (fin:=fin) (d:=d) (fi:=first) (λx:Int=>A.int .i64 x) (λ_=>rfl) (λ_=>rfl) hT (λs'=>s'.getO b2=some (.cells 153 [.ptr r 0])) (λ_ _ _=>Iff.rfl)
      (aAK fin 8) 277 [] [.ptr b2 0] (aEi (fun s' x hq=>by rw[aL,aD M.1];exact hq)
       (λs' i' n' b7 br bn bm bd bl bh=>aQe hT b2 bn bm bd (bE bh (λ_ _ _ h h1 h2 h3=>by subst h3;exact h (i'+1) aB h1 h2 bl) (λ_ h=>h)))) (i2+1+1) n ?_ bb hn ?_)
     .exact gH
     refine bE (aK3 _ _ _ _ _ _ _ _ _ b1) (λl w m b5 j hj bg hw hm=>?_) (λf h s1 x hg b6=>aP (h _ _ ((aKy hg b3).trans mN) b6));obtain⟨hl,b5⟩:=b5;subst hw;rw[bY]at b5
     obtain⟨x0,l0,rfl⟩:∃x0 l0,l=x0::l0:=by
      cases l with
      | nil=>exact cV rfl hl
      | cons a b=>exact⟨a,b,rfl⟩
     simp only[go_sem,B,M,y,y.symm,G,O,S,H];refine fQ (T:=T) (fin:=fin) (d:=d) (first:=first) (i:=j) (n:=m) _ gH bg hT (bE b5 (λ_ w m' b9 bp hw bv=>?_) (λf h=>aHs b3 mN h));subst m';rw[<-hw]at b9;simp only[go_sem,B,M,y,y.symm,G,O,S,H];refine⟨({ o with strict:=x0::l0 },j+1,m,k),⟨aQ,aQ,hm,aQ,b9⟩,aQ,cD⟩
    .have Z:decide (t.text=[112,114,101,99])=false:=gQ x1;have d2:decide (t.text=[108,101,102,116])=false:=gQ x2;have d3:decide (t.text=[114,105,103,104,116])=false:=gQ x3;have d4:decide (t.text=[115,116,114,105,99,116])=false:=gQ x4;rw[aD x1,aD x2,aD x3,aD x4,ite_self,eP]at z;simp only[go_sem,B,M,y,y.symm,G,O,S,H,Z,d2,d3,d4];exact bad _ _ _ mN gH z
end
end
section
section
variable {T:List Tok} {fin:Fault} {d:Dc} {first:Tok} {i n:Nat} {s:St} {r:Nat} {KV Kp:St->A->Prop}
theorem aDw{α:Type}{r:Rd α}{p:α->List Tok->Nat->Prop}{b:Fault->Prop}(h:∀a w n,p a w n)(m:∀f,b f):r.to p b:=by
 cases r with
 | ok a w n=>exact h a w n
 | bad f=>exact m f
theorem aGb{α:Type}{r:Rd α}{p q:α->List Tok->Nat->Prop}{b:Fault->Prop}(h:r.to p b)(m:r.to q (λ_=>True)):r.to (λa w n=>q a w n/\p a w n) b:=by
 cases r with
 | ok a w n=>exact⟨m,h⟩
 | bad f=>exact h
theorem aFP(fin:Fault):∀(k:Nat) (o:Opr) (w:List Tok) (n:Nat),(sP fin k o w n).to (λm _ _=>m.name=o.name/\m.args=o.args/\m.sort=o.sort/\m.pieces=o.pieces) (λ_=>True)
 | 0,o,w,n=>trivial
 | k+1,o,w,n=>by
  have y:=λ(m:Opr) w n=>aFP fin k m w n
  rw[sP.eq_def];simp only;split
  .exact⟨rfl,rfl,rfl,rfl⟩
  .cases w with
   | nil=>trivial
   | cons t w =>
    simp only[aAw,bY,eP]
    repeat' split
    all_goals first|trivial|exact y _ _ _|exact aDw (λa w n=>y { o with prec:=a } w n) (λ_=>trivial)|exact aDw (λ_ w n=>aDw (λl w n=>aDw (λ_ w n=>y { o with strict:=l } w n) (λ_=>trivial)) (λ_=>trivial)) (λ_=>trivial)
def opS(T:List Tok)(fin:Fault)(d:Dc)(first:Tok)(b r:Nat)(x:aC)(s:St)(z B:Option Nat)(m:List aC)(y:List Piece)(i n:Nat):St :=
 gs (gs ((s.setO b (.cells 80 [.str x,gv z (m.map .str),.str [],gv B (y.map Piece.enc),.int .i64 0,.int .i64 0,.nils])).setO r (bI T fin d first i n)) z m.length 9) B y.length 218
theorem aUq(hT:TOk T)(hr:s.getO r=some (bI T fin d first i n))(hi:i<=T.length)(hn:n<=2000)
  (hk:(opR fin (T.drop i) n).to (PK T i (λj m=>s.setO r (bI T fin d first j m)) Opr.enc KV) (PB s r Kp)):Den cx 224 [.ptr r 0] KV Kp s:=by
 have bv:=hT.len;simp only[opR,bY]at hk;(refine aN func224 [0,2,3,4,5,14,29,39,76] ?_;simp only[go_sem,ntmps224,f224]);(intro b2 B;try simp only[iM,cS,dB]at B);have H:=aI hr (aS B);simp only[go_sem,B,H];(refine iR (T:=T) (fin:=fin) (d:=d) (first:=first) (i:=i) (n:=n) gH hi hT (bE hk (λx1 w1 m1 bk bn c4 c7=>?_) (λf h=>PB.mk bC h));subst m1;rw[<-c4]at bk);simp only[go_sem,B,H];(intro b3 z;try simp only[iM,cS,dB]at z);have O:=aI hr (aS z);simp only[go_sem,B,H,z,O];(refine fQ (T:=T) (fin:=fin) (d:=d) (first:=first) (i:=i+1) (n:=n) _ gH bn hT (bE bk (λ_ w2 m2 bd bp c5 c8=>?_) (λf h=>PB.mk bC h));subst m2;rw[<-c5]at bd);simp only[go_sem,B,H,z,O];rw[show(T.drop (i+1+1)).length=T.length-(i+1+1)by rw[dS]]at bd
 refine Ex.loop (ι:=(Option Nat × Option Nat) × (List aC × List Piece × Bool) × Nat) (λc=>[(0,.ptr r 0),(2,.ptr b2 0),(3,.ptr b3 0),(4,.bool c.2.1.2.2)])
  (λc=>opS T fin d first b3 r x1 (s.setO b2 (.cells 80 [.str [],.nils,.str [],.nils,.int .i64 0,.int .i64 0,.nils])) c.1.1 c.1.2 c.2.1.1 c.2.1.2.1 c.2.2 n)
  (fun c => (c.1.1 = none → c.2.1.1 = []) ∧ (c.1.2 = none → c.2.1.2.1 = []) ∧ (∀ t,c.1.1 = some t → s.getT t = none) ∧ (∀ t,c.1.2 = some t → s.getT t = none ∧ c.1.1 ≠ some t) ∧ i + 1 + 1 ≤ c.2.2 ∧ c.2.2 ≤ T.length ∧ c.2.1.1.length ≤ c.2.2 ∧ c.2.1.2.1.length ≤ c.2.2 ∧ ∃ k,T.length - c.2.2 < k ∧
   (aCh fin k c.2.1.2.1 c.2.1.1 c.2.1.2.2 (T.drop c.2.2) n).to (λp w n=>(gI fin w n).to (λy w n=>(sP fin (w.length+1) ⟨x1,p.2.1,y,if p.2.2=true then p.1 else [],0,0,[]⟩ w n).to (PK T i (λj m=>s.setO r (bI T fin d first j m)) Opr.enc KV) (PB s r Kp)) (PB s r Kp)) (PB s r Kp))
  (λc=>T.length-c.2.2) ((none,none),([],[],false),i+1+1) ?_ ?_ ?_ ?_
 .exact⟨λ_=>rfl,λ_=>rfl,λt e=>(by cases e),λt e=>(by cases e),bJ _,bp,aW _,aW _,_,fZ _,bd⟩
 .simp only[go_sem,B,H,z,O]
 .exact cD
 .rintro⟨⟨ta,tp⟩,⟨ar,ps,tx⟩,i2⟩ ⟨S,U,b9,b5,br,b0,has,bz,k,bt,G⟩;simp only at S U b9 b5 br b0 has bz bt G;obtain⟨k,rfl⟩:∃k',k=k'+1:=⟨k-1,by omega⟩
  have c6:∀t,tp=some t->s.getT t=none:=λt e=>(b5 t e).1
  have bj:iV (opS T fin d first b3 r x1 (s.setO b2 (.cells 80 [.str [],.nils,.str [],.nils,.int .i64 0,.int .i64 0,.nils])) ta tp ar ps i2 n) tp (ps.map Piece.enc).length 218:=by rw[aO];exact fD λe=>by rw[U e];rfl
  have bq:iV (opS T fin d first b3 r x1 (s.setO b2 (.cells 80 [.str [],.nils,.str [],.nils,.int .i64 0,.int .i64 0,.nils])) ta tp ar ps i2 n) ta (ar.map A.str).length 9:=by
   rw[aO];cases ta with
   | none=>rw[S rfl];rfl
   | some t =>
    show(gs _ _ _ _).getT t=_;rw[gK,aD (λe=>(b5 t e).2 rfl),gK,aF rfl]
  refine aX (V:=[0,2,3,4,5,14,29,39,76]) _ _ _ _ ?_;unfold opS;simp only[go_sem,B,H,z,O];refine jV (T:=T) (fin:=fin) (d:=d) (first:=first) (i:=i2) (n:=n) _ gH b0 hT ?_;rw[aCh.eq_def]at G;simp only at G;cases hx:dO [45,62] (T.drop i2)with
  | true =>
   rw[aF hx,cL,nJ]at G;have bm:=lR hx
   have bl:∀(o:Opr),o.name=x1->o.args=ar->o.pieces=(if tx=true then ps else [])->A.le (.agg (opC o (gv ta (ar.map A.str)) (if tx=true then gv tp (ps.map Piece.enc) else .nils))) o.enc:=λo e1 H O=>by
    subst e1 H;refine A.le.agg ⟨⟨bL _,rfl⟩,⟨kJ _ _ (λe=>by rw[S e];rfl),rfl⟩,⟨bL _,rfl⟩,⟨?_,rfl⟩,⟨bL _,rfl⟩,⟨bL _,rfl⟩,⟨aM0 _,rfl⟩,trivial⟩;rw[O];cases tx
    .exact A.le.nil
    .exact kJ _ _ (λe=>by rw[U e];rfl)
   simp only[go_sem,B,H,z,O];cases tx
   .simp only[go_sem,B,H,z,O];(refine iR (T:=T) (fin:=fin) (d:=d) (first:=first) (i:=i2+1) (n:=n) gH bm hT (bE G (λx5 w5 m5 b7 b8 bh bw=>?_) (λf h=>PB.mk bC h));subst m5;rw[<-bh]at b7);simp only[go_sem,B,H,z,O];refine aKA hT b3 (gv ta (ar.map A.str)) .nils (zC _ _) rfl ⟨x1,ar,x5,[],0,0,[]⟩ ((List.drop (i2+1+1) T).length+1) (T:=T) (fin:=fin) (d:=d) (first:=first) (i:=i2+1+1) (n:=n) gH gH z.1.2 b8 hn (by rw[dS];omega) (bE (aGb b7 (aFP _ _ _ _ _)) (λo' w m h j hj bc hw hm=>?_) (λf h s1 x hg bg=>?_))
    .obtain⟨⟨q1,q2,q3,q4⟩,h⟩:=h;have hk:=h j aB bc hw hm;simp only[go_sem,B,H,z,O];refine⟨by cases ta<;>cases o'.strict<;>rfl,?_⟩;refine DK.mk hk cD ?_;have:=bl o' q1 q2 q4;simp only[go_sem]at this;exact this
    .exact aG (h x) (qW (wU bg (aLf z.2.2 (hg.trans mN))))
   .simp only[go_sem,B,H,z,O];(refine iR (T:=T) (fin:=fin) (d:=d) (first:=first) (i:=i2+1) (n:=n) gH bm hT (bE G (λx5 w5 m5 b7 b8 bh bw=>?_) (λf h=>PB.mk bC h));subst m5;rw[<-bh]at b7);simp only[go_sem,B,H,z,O];refine aKA hT b3 (gv ta (ar.map A.str)) (gv tp (ps.map Piece.enc)) (zC _ _) (zC _ _) ⟨x1,ar,x5,ps,0,0,[]⟩ ((List.drop (i2+1+1) T).length+1) (T:=T) (fin:=fin) (d:=d) (first:=first) (i:=i2+1+1) (n:=n) gH gH z.1.2 b8 hn (by rw[dS];omega) (bE (aGb b7 (aFP _ _ _ _ _)) (λo' w m h j hj bc hw hm=>?_) (λf h s1 x hg bg=>?_))
    .obtain⟨⟨q1,q2,q3,q4⟩,h⟩:=h;have hk:=h j aB bc hw hm;simp only[go_sem,B,H,z,O];refine⟨by cases ta<;>cases tp<;>cases o'.strict<;>rfl,?_⟩;refine DK.mk hk cD ?_;have:=bl o' q1 q2 q4;simp only[go_sem]at this;exact this
    .exact aG (h x) (qW (wU bg (aLf z.2.2 (hg.trans mN))))
  | false =>
   rw[aD (by rw[hx];simp)]at G;simp only[go_sem,B,H,z,O];refine kP (T:=T) (fin:=fin) (d:=d) (first:=first) (i:=i2) (n:=n) gH b0 ?_;cases hw:T.drop i2 with
   | nil=>rw[hw]at G;exact G.at bC gH
   | cons t w =>
    obtain⟨g1,g2,g3,g4⟩:=mD hw;rw[hw]at G;simp only at G;simp only[go_sem,B,H,z,O];(intro b4 M;try simp only[iM,cS,dB]at M);have e4:=aI hr (aS M);simp only[go_sem,B,H,z,O,M,e4];cases c3:decide (t.kind=3);rotate_left
    ·
     have k3:t.kind=3:=gQ c3;rw[aF (.inl k3),aF k3]at G;simp only[go_sem,B,H,z,O,M,e4,c3,pP bj];refine nM (T:=T) (fin:=fin) (d:=d) (first:=first) (i:=i2) (n:=n) _ _ gH b0 ?_;by_cases b1:20<=ps.length
     .rw[aF b1,eP]at G;rw[aF aB,hw];exact PB.mk bC G
     rw[aD b1,<-g3]at G;rw[aD aB];simp only[go_sem,B,H,z,O,M,e4,c3];refine⟨by decide,λy hy=>by simp only[bO]at hy;subst hy;rfl,dU rfl rfl (by rw[aO];exact fD λe=>by rw[U e];rfl) (λy hy=>?_) (by simp only[aO,aV,aZ];omega) (λu Z=>?_)⟩
     .simp only[cN]at hy;obtain⟨q,_,rfl⟩:=hy;rfl
     have b6:s.getT u=none/\ta≠some u:=by
      rcases Z with e|⟨e,Z⟩
      .exact b5 u e
      .rw[e]at Z;have Z:(gs (gs _ ta _ _) none _ _).getT u=none:=Z;rw[gK,aD bA,gK]at Z;split at Z
       .cases Z
       .rename_i H;exact⟨Z,H⟩
     have bf:=b6.2;rw[gR Z];simp only[go_sem,B,H,z,O,M,e4,aU i2 aB];refine⟨((ta,some u),(ar,ps++[⟨t.text,[]⟩],true),i2+1),⟨S,λe=>(by cases e),b9,λt' e=>by cases e;exact b6,aQ,aQ,aQ,by simp only[aH,aV,aZ];omega,k,aQ,G⟩,aQ,?_⟩;simp only[opS,eK,bU,bX,dL,aH,aV,aZ,aO];exact⟨trivial,cD⟩
    have k3:¬ t.kind=3:=gQ c3;cases c1:decide (t.kind=1)
    .rw[aD (by simp[k3,Tok.free,c1]),eP]at G;simp only[go_sem,B,H,z,O,M,e4,c3,c1];refine qQ (T:=T) (fin:=fin) (d:=d) (first:=first) (i:=i2) (n:=n) 11 gH b0 hT ?_;rw[hw];exact PB.at G bC gH
    simp only[go_sem,B,H,z,O,M,e4,c3,c1];refine wH _ _ _ _ ?_;simp only[go_sem,B,H,z,O,M,e4];cases c2:decide (t.text∈nZ);rotate_left
    .rw[aD (by simp[k3,Tok.free,c2]),eP]at G;simp only[go_sem,B,H,z,O,M,e4,c2];refine qQ (T:=T) (fin:=fin) (d:=d) (first:=first) (i:=i2) (n:=n) 11 gH b0 hT ?_;rw[hw];exact PB.at G bC gH
    rw[aF (.inr (by simp[Tok.free,c1,c2])),aD k3]at G;simp only[go_sem,B,H,z,O,M,e4,c2,pP bj];refine nM (T:=T) (fin:=fin) (d:=d) (first:=first) (i:=i2) (n:=n) _ _ gH b0 ?_;by_cases b1:20<=ps.length
    .rw[aF b1,eP]at G;rw[aF aB,hw];exact PB.mk bC G
    rw[aD b1]at G;rw[aD aB];simp only[go_sem,B,H,z,O,M,e4,c3,pP bq];refine nM (T:=T) (fin:=fin) (d:=d) (first:=first) (i:=i2) (n:=n) _ _ gH b0 ?_;by_cases h8:8<=ar.length
    .rw[aF h8,eP]at G;rw[aF aB,hw];exact PB.mk bC G
    rw[aD h8,<-g3]at G;rw[aD aB];simp only[go_sem,B,H,z,O,M,e4,c3];refine⟨by decide,λy hy=>by simp only[bO]at hy;subst hy;rfl,dU rfl rfl (by rw[aO];exact fD λe=>by rw[U e];rfl) (λy hy=>?_) (by simp only[aO,aV,aZ];omega) (λu Z=>?_)⟩
    .simp only[cN]at hy;obtain⟨q,_,rfl⟩:=hy;rfl
    have b6:s.getT u=none/\ta≠some u:=by
     rcases Z with e|⟨e,Z⟩
     .exact b5 u e
     .rw[e]at Z;have Z:(gs (gs _ ta _ _) none _ _).getT u=none:=Z;rw[gK,aD bA,gK]at Z;split at Z
      .cases Z
      .rename_i H;exact⟨Z,H⟩
    have bf:=b6.2;rw[gR Z];simp only[go_sem,B,H,z,O,M,e4];refine⟨by decide,λy hy=>by simp only[bO]at hy;subst hy;rfl,dU rfl rfl ?_ (λy hy=>?_) (by simp only[aO,aV,aZ];omega) (λv hv=>?_)⟩
    .rw[aO];cases ta with
     | none=>rw[S rfl];rfl
     | some t =>
      show St.getT _ t=_;rw[dC,aD (λe=>bf (by rw[e])),gK,aF rfl]
    .simp only[cN]at hy;obtain⟨q,_,rfl⟩:=hy;rfl
    have bb:s.getT v=none/\¬ v=u:=by
     rcases hv with e|⟨e,hv⟩
     .exact⟨b9 v e,λH=>bf (by rw[e,H])⟩
     .subst e;rw[dC]at hv;split at hv
      .cases hv
      .rename_i H;exact⟨hv,λO=>H O.symm⟩
    simp only[go_sem,B,H,z,O,M,e4,aU i2 aB];refine⟨((some v,some u),(ar++[t.text],ps++[⟨[],t.text⟩],tx),i2+1),⟨λe=>(by cases e),λe=>(by cases e),λt' e=>by cases e;exact bb.1,λt' e=>by cases e;exact⟨b6.1,λe=>bb.2 (by cases e;rfl)⟩,aQ,aQ,by simp only[aH,aV,aZ];omega,by simp only[aH,aV,aZ];omega,k,aQ,G⟩,aQ,?_⟩;simp only[opS,eK,bU,bX,dL,aH,aV,aZ,aO];have c0:=bb.2;refine⟨trivial,qW (aDr ?_ (aDr ?_ mN))⟩
    .rintro _ ⟨⟩;simp only[dC,c0,cZ,reduceIte,iQ]
    .rintro _ ⟨⟩;simp only[dC,reduceIte,iQ]
end
end
section
def vH(p:Part):A:=.agg (.str p.cell::.str p.at_::(p.left.cs++[nv (p.right.map Tm.enc),.int .i64 p.line,.int .i64 p.col]))
def wA(x:Rul)(z y m:Option Nat):Ob:=.cells 50 [.str x.name,gv z (x.parts.map vH),.nils,gv y (x.new.map Fresh.enc),gv m (x.drop.map .str),.int .i64 x.line,.int .i64 x.col]
def fI(x:Rul)(z y m:Option Nat):List eR:=[(z,x.parts.length,101),(y,x.new.length,103),(m,x.drop.length,9)]
def gT(T:List Tok)(fin:Fault)(d:Dc)(first:Tok)(b r:Nat)(s:St)(x:Rul)(z y m:Option Nat)(i n:Nat):St:=dR ((s.setO b (wA x z y m)).setO r (bI T fin d first i n)) (fI x z y m)
structure RulQ (b r:Nat) (s:St) (x:Rul) (tp tn td:Option Nat) (i:Nat):Prop where
 own:OwnOk s (fI x tp tn td)
 hb:s.getO b=none
 ne:b≠r
 l1:x.parts.length<=i
 l2:x.new.length<=i
 l3:x.drop.length<=i
section
variable {T:List Tok} {fin:Fault} {d:Dc} {first:Tok} {i n:Nat} {s:St} {r:Nat} {KV Kp:St->A->Prop}
theorem aB1(hT:TOk T)(b:Nat)(x:Rul)(U tn td:Option Nat)(hQ:RulQ b r s x U tn td i)(hi:i<=T.length)(hn:n<=2000)
  (hk : (aEv false fin x (T.drop i) n).to (fun x' w n' => ∀ j bv bt br,i + 1 ≤ j → j ≤ T.length → T.drop j = w → n' ≤ 2000 → RulQ b r s x' bv bt br j → KV (gT T fin d first b r s x' bv bt br j n') (.tuple []))
   (λf=>∀s1 o,s1.gx s r->s1.getO r=some o->Kp s1 (.iface 36 f.enc))):Den cx 264 [.ptr r 0,.ptr b 0] KV Kp (gT T fin d first b r s x U tn td i n):=by
 obtain⟨G,hb,m,l1,l2,l3⟩:=hQ;have c6:=hT.len;have cl:=G.free;(refine aN func264 [0,1,4,5,16,27,42,65] ?_;simp only[go_sem,ntmps264,f264]);unfold gT wA;have ch:=m.symm;simp only[go_sem,aT,m,m.symm];refine kP (T:=T) (fin:=fin) (d:=d) (first:=first) (i:=i) (n:=n) gH hi ?_;cases hw:T.drop i with
 | nil=>rw[hw]at hk;exact aP (hk _ (bI T fin d first i n) bC gH)
 | cons t w =>
  obtain⟨g1,g2,g3,g4⟩:=mD hw;rw[hw]at hk;simp only[aEv]at hk;simp only[go_sem,aT,m,m.symm];(refine kD λb4 z=>?_);simp only[go_sem,aT,m,m.symm,z];refine jV (T:=T) (fin:=fin) (d:=d) (first:=first) (i:=i) (n:=n) _ gH hi hT ?_;rw[hw];cases c1:gL t [110,101,119]with
  | true =>
   rw[aF c1,bY,<-g3]at hk;simp only[dO,c1];simp only[go_sem,aT,m,m.symm,z];refine fQ (T:=T) (fin:=fin) (d:=d) (first:=first) (i:=i+1) (n:=n) _ gH g2 hT (bE hk (λ_ w2 m2 b8 bb bk c7=>?_) (λf h=>dV bC h));subst m2;rw[<-bk,bY]at b8;simp only[go_sem,aT,m,m.symm,z];(refine bD (OT.r 0 15) [(8,[4])] ?_;simp only[go_sem,aT,m,m.symm,z])
   refine iH (St.ge_same gH) (aIn (fin:=fin) (d:=d) (fi:=first) Tm.enc Tm.hz Tm.ho hT (λ_=>True) (λ_ _ _=>Iff.rfl) (pV false fin) 226 [.ptr r 0] []
    (aEi (λ_ _ h=>h) (λs' i' n' cj ck cd _ bw cb c5=>vG hT cd bw cb (bE c5 (λ_ _ _ h j hj=>h j aB) (λ_ h=>h)))) (i+1+1) n trivial bb hn ?_)
   refine bE b8 (λl w3 m3 Z j3 cm bq bg bh=>?_) (λf h s1 o hg cf=>aP (h _ o (hg.trans bC) cf));subst bg;rw[bY]at Z;simp only[go_sem,aT,m,m.symm,z];refine⟨by decide,λy S=>by simp only[bO]at S;subst S;rfl,dU rfl rfl (by rw[aO];refine qS G (k:=1) (o:=(tn,x.new.length,103)) rfl ?_;exactλ_=>rfl) (λy S=>?_) (by simp only[aO,aV,aZ];omega) (λu hu=>?_)⟩
   .simp only[cN]at S;obtain⟨q,_,rfl⟩:=S;rfl
   have B:=pN G (k:=1) (o:=(tn,x.new.length,103)) rfl hu (λ_=>rfl) (x.new.length+1);simp only[go_sem,aT,m,m.symm,z];refine iH (pL G (k:=1) (o:=(tn,x.new.length,103)) rfl B (λ_=>rfl)) ?_;have M:OwnOk s (fI { x with new:=x.new++[⟨l⟩] } U (some u) td):=by simpa only[fI,aH,aV,aZ,wG,yK]using B
   rw[show(fI x U tn td).set 1 (some u,x.new.length+1,(tn,x.new.length,103).snd.snd)=fI { x with new:=x.new++[⟨l⟩] } U (some u) td by simp[fI]];have cg:=M.free;refine fQ (T:=T) (fin:=fin) (d:=d) (first:=first) (i:=j3) (n:=m3) _ gH bq hT (bE Z (λ_ w4 m4 b6 b2 bl c8=>?_) (λf h=>dV bC h));subst m4;rw[cL]at b6;simp only[go_sem,aT,m,m.symm,z];have O:=b6 (j3+1) U (some u) td aB b2 bl bh ⟨M,hb,m,aQ,by simp only[aH,aV,aZ];omega,aQ⟩;refine aG O ?_;unfold gT;refine kT ?_;simp only[wA,eK,bU,bX,dL,vH,nv,Tm.cs,dY,dD,cY];exact cD
  | false =>
   rw[aD (by simp[c1])]at hk;simp only[dO,c1];simp only[go_sem,aT,m,m.symm,z];refine jV (T:=T) (fin:=fin) (d:=d) (first:=first) (i:=i) (n:=n) _ gH hi hT ?_;rw[hw];cases c2:gL t [100,114,111,112]with
   | true =>
    rw[aF c2,bY,<-g3]at hk;simp only[dO,c2];simp only[go_sem,aT,m,m.symm,z];refine fQ (T:=T) (fin:=fin) (d:=d) (first:=first) (i:=i+1) (n:=n) _ gH g2 hT (bE hk (λ_ w2 m2 b8 bb bk c7=>?_) (λf h=>dV bC h));subst m2;rw[<-bk,bY]at b8;simp only[go_sem,aT,m,m.symm,z];(refine bD (OT.r 0 12) [(6,[4])] ?_;simp only[go_sem,aT,m,m.symm,z]);refine iR (T:=T) (fin:=fin) (d:=d) (first:=first) (i:=i+1+1) (n:=n) gH bb hT (bE b8 (λy w3 m3 Z b3 bg bh=>?_) (λf h=>dV bC h));subst m3;rw[cL]at Z;simp only[go_sem,aT,m,m.symm,z];refine⟨by decide,λy S=>by simp only[bO]at S;subst S;rfl,dU rfl rfl (by rw[aO];refine qS G (k:=2) (o:=(td,x.drop.length,9)) rfl ?_;exactλ_=>rfl) (λy S=>?_) (by simp only[aO,aV,aZ];omega) (λu hu=>?_)⟩
    .simp only[cN]at S;obtain⟨q,_,rfl⟩:=S;rfl
    have B:=pN G (k:=2) (o:=(td,x.drop.length,9)) rfl hu (λ_=>rfl) (x.drop.length+1);have M:OwnOk s (fI { x with drop:=x.drop++[y] } U tn (some u)):=by simpa only[fI,aH,aV,aZ,wG,yK]using B
    simp only[go_sem,aT,m,m.symm,z];have O:=Z (i+1+1+1) U tn (some u) aB b3 bg hn ⟨M,hb,m,aQ,aQ,by simp only[aH,aV,aZ];omega⟩;refine aG O (St.ge.trans (pL G (k:=2) (o:=(td,x.drop.length,9)) rfl B (λ_=>rfl)) ?_);unfold gT;rw[show(fI x U tn td).set 2 (some u,x.drop.length+1,(td,x.drop.length,9).snd.snd)=fI { x with drop:=x.drop++[y] } U tn (some u)by simp[fI]];refine kT ?_;simp only[wA,eK,bU,bX,dL,vH,nv,Tm.cs,dY,dD,cY];exact cD
   | false =>
    rw[aD (by simp[c2]),bY,<-hw]at hk;simp only[dO,c2];simp only[go_sem,aT,m,m.symm,z];(refine bD (OT.l [0,2,3,4,5,1,6,7,8] .nil) [(1,[3,5]),(7,[3,5])] ?_;simp only[go_sem,aT,m,m.symm,z]);refine iR (T:=T) (fin:=fin) (d:=d) (first:=first) (i:=i) (n:=n) gH hi hT (bE hk (λy w3 m3 Z b3 bg bh=>?_) (λf h=>dV bC h));subst m3;rw[<-bg]at Z;simp only[go_sem,aT,m,m.symm,z];(refine kD λb5 H=>?_);simp only[go_sem,aT,m,m.symm,z,H];refine jV (T:=T) (fin:=fin) (d:=d) (first:=first) (i:=i+1) (n:=n) _ gH b3 hT ?_;rw[bY]at Z;cases c3:dO [64] (T.drop (i+1))with
    | true =>
     rw[aF c3,nJ]at Z;have b2:=lR c3;simp only[go_sem,aT,m,m.symm,z,H];refine iR (T:=T) (fin:=fin) (d:=d) (first:=first) (i:=i+1+1) (n:=n) gH b2 hT (bE Z (λy2 w4 m4 b6 b2 bl c8=>?_) (λf h=>dV bC h));subst m4;rw[<-bl]at b6;simp only[go_sem,aT,m,m.symm,z,H];rw[bY]at b6;refine fQ (T:=T) (fin:=fin) (d:=d) (first:=first) (i:=i+1+1+1) (n:=n) _ gH b2 hT (bE b6 (λ_ w5 m5 O bc bm c9=>?_) (λf h=>dV bC h));subst m5;rw[<-bm,bY]at O;simp only[go_sem,aT,m,m.symm,z,H];refine vG (T:=T) (fin:=fin) (d:=d) (first:=first) (i:=i+1+1+1+1) (n:=n) hT gH bc hn (bE O (λl6 w6 m6 b0 j6 bz b1 bn bf=>?_) (λf h=>dV bC h));rw[<-bn,bY]at b0;simp only[go_sem,aT,m,m.symm,z,H,cY];refine jV (T:=T) (fin:=fin) (d:=d) (first:=first) (i:=j6) (n:=m6) _ gH b1 hT ?_;cases c4:dO [61,62] (T.drop j6)with
     | true =>
      rw[aF c4,nJ,bY]at b0;have bd:=lR c4;simp only[go_sem,aT,m,m.symm,z,H];refine vG (T:=T) (fin:=fin) (d:=d) (first:=first) (i:=j6+1) (n:=m6) hT gH bd bf (bE b0 (λl8 w8 m8 b9 j8 c0 b7 bp bj=>?_) (λf h=>dV bC h));rw[cL,<-bp,cL]at b9;simp only[go_sem,aT,m,m.symm,z,H,cY];(refine bD (OT.r 0 11) [] ?_;simp only[go_sem,aT,m,m.symm,z,H])
      (try simp only[go_sem,aT,m,m.symm,z,H])
      refine⟨by decide,λy S=>by simp only[bO]at S;subst S;rfl,dU rfl rfl (by rw[aO];refine qS G (k:=0) (o:=(U,x.parts.length,101)) rfl ?_;exactλ_=>rfl) (λy S=>?_) (by simp only[aO,aV,aZ];omega) (λu hu=>?_)⟩
      .simp only[cN]at S;obtain⟨q,_,rfl⟩:=S;rfl
      have B:=pN G (k:=0) (o:=(U,x.parts.length,101)) rfl hu (λ_=>rfl) (x.parts.length+1);have M:OwnOk s (fI { x with parts:=x.parts++[⟨y,y2,l6,[l8],t.line,t.col⟩] } (some u) tn td):=by simpa only[fI,aH,aV,aZ,wG,yK]using B
      simp only[go_sem,aT,m,m.symm,z,H];have O:=b9 (j8) (some u) tn td aB b7 rfl bj ⟨M,hb,m,by simp only[aH,aV,aZ];omega,aQ,aQ⟩;refine aG O (St.ge.trans (pL G (k:=0) (o:=(U,x.parts.length,101)) rfl B (λ_=>rfl)) ?_);unfold gT;rw[show(fI x U tn td).set 0 (some u,x.parts.length+1,(U,x.parts.length,101).snd.snd)=fI { x with parts:=x.parts++[⟨y,y2,l6,[l8],t.line,t.col⟩] } (some u) tn td by simp[fI]];refine kT ?_;simp only[wA,eK,bU,bX,dL,vH,nv,Tm.cs,dY,dD,cY];exact cD
     | false =>
      rw[aD (by simp[c4]),cL,cL]at b0;simp only[go_sem,aT,m,m.symm,z,H];(refine bD (OT.r 0 11) [] ?_;simp only[go_sem,aT,m,m.symm,z,H])
      (try simp only[go_sem,aT,m,m.symm,z,H])
      refine⟨by decide,λy S=>by simp only[bO]at S;subst S;rfl,dU rfl rfl (by rw[aO];refine qS G (k:=0) (o:=(U,x.parts.length,101)) rfl ?_;exactλ_=>rfl) (λy S=>?_) (by simp only[aO,aV,aZ];omega) (λu hu=>?_)⟩
      .simp only[cN]at S;obtain⟨q,_,rfl⟩:=S;rfl
      have B:=pN G (k:=0) (o:=(U,x.parts.length,101)) rfl hu (λ_=>rfl) (x.parts.length+1);have M:OwnOk s (fI { x with parts:=x.parts++[⟨y,y2,l6,[],t.line,t.col⟩] } (some u) tn td):=by simpa only[fI,aH,aV,aZ,wG,yK]using B
      simp only[go_sem,aT,m,m.symm,z,H];have O:=b0 (j6) (some u) tn td aB b1 rfl bf ⟨M,hb,m,by simp only[aH,aV,aZ];omega,aQ,aQ⟩;refine aG O (St.ge.trans (pL G (k:=0) (o:=(U,x.parts.length,101)) rfl B (λ_=>rfl)) ?_);unfold gT;rw[show(fI x U tn td).set 0 (some u,x.parts.length+1,(U,x.parts.length,101).snd.snd)=fI { x with parts:=x.parts++[⟨y,y2,l6,[],t.line,t.col⟩] } (some u) tn td by simp[fI]];refine kT ?_;simp only[wA,eK,bU,bX,dL,vH,nv,Tm.cs,dY,dD,cY];exact cD
    | false =>
     rw[aD (by simp[c3]),cL]at Z;simp only[go_sem,aT,m,m.symm,z,H];rw[bY]at Z;refine fQ (T:=T) (fin:=fin) (d:=d) (first:=first) (i:=i+1) (n:=n) _ gH b3 hT (bE Z (λ_ w5 m5 O bc bm c9=>?_) (λf h=>dV bC h));subst m5;rw[<-bm,bY]at O;simp only[go_sem,aT,m,m.symm,z,H];refine vG (T:=T) (fin:=fin) (d:=d) (first:=first) (i:=i+1+1) (n:=n) hT gH bc hn (bE O (λl6 w6 m6 b0 j6 bz b1 bn bf=>?_) (λf h=>dV bC h));rw[<-bn,bY]at b0;simp only[go_sem,aT,m,m.symm,z,H,cY];refine jV (T:=T) (fin:=fin) (d:=d) (first:=first) (i:=j6) (n:=m6) _ gH b1 hT ?_;cases c4:dO [61,62] (T.drop j6)with
     | true =>
      rw[aF c4,nJ,bY]at b0;have bd:=lR c4;simp only[go_sem,aT,m,m.symm,z,H];refine vG (T:=T) (fin:=fin) (d:=d) (first:=first) (i:=j6+1) (n:=m6) hT gH bd bf (bE b0 (λl8 w8 m8 b9 j8 c0 b7 bp bj=>?_) (λf h=>dV bC h));rw[cL,<-bp,cL]at b9;simp only[go_sem,aT,m,m.symm,z,H,cY];(refine bD (OT.r 0 11) [] ?_;simp only[go_sem,aT,m,m.symm,z,H])
      (try simp only[go_sem,aT,m,m.symm,z,H])
      refine⟨by decide,λy S=>by simp only[bO]at S;subst S;rfl,dU rfl rfl (by rw[aO];refine qS G (k:=0) (o:=(U,x.parts.length,101)) rfl ?_;exactλ_=>rfl) (λy S=>?_) (by simp only[aO,aV,aZ];omega) (λu hu=>?_)⟩
      .simp only[cN]at S;obtain⟨q,_,rfl⟩:=S;rfl
      have B:=pN G (k:=0) (o:=(U,x.parts.length,101)) rfl hu (λ_=>rfl) (x.parts.length+1);have M:OwnOk s (fI { x with parts:=x.parts++[⟨y,[],l6,[l8],t.line,t.col⟩] } (some u) tn td):=by simpa only[fI,aH,aV,aZ,wG,yK]using B
      simp only[go_sem,aT,m,m.symm,z,H];have O:=b9 (j8) (some u) tn td aB b7 rfl bj ⟨M,hb,m,by simp only[aH,aV,aZ];omega,aQ,aQ⟩;refine aG O (St.ge.trans (pL G (k:=0) (o:=(U,x.parts.length,101)) rfl B (λ_=>rfl)) ?_);unfold gT;rw[show(fI x U tn td).set 0 (some u,x.parts.length+1,(U,x.parts.length,101).snd.snd)=fI { x with parts:=x.parts++[⟨y,[],l6,[l8],t.line,t.col⟩] } (some u) tn td by simp[fI]];refine kT ?_;simp only[wA,eK,bU,bX,dL,vH,nv,Tm.cs,dY,dD,cY];exact cD
     | false =>
      rw[aD (by simp[c4]),cL,cL]at b0;simp only[go_sem,aT,m,m.symm,z,H];(refine bD (OT.r 0 11) [] ?_;simp only[go_sem,aT,m,m.symm,z,H])
      (try simp only[go_sem,aT,m,m.symm,z,H])
      refine⟨by decide,λy S=>by simp only[bO]at S;subst S;rfl,dU rfl rfl (by rw[aO];refine qS G (k:=0) (o:=(U,x.parts.length,101)) rfl ?_;exactλ_=>rfl) (λy S=>?_) (by simp only[aO,aV,aZ];omega) (λu hu=>?_)⟩
      .simp only[cN]at S;obtain⟨q,_,rfl⟩:=S;rfl
      have B:=pN G (k:=0) (o:=(U,x.parts.length,101)) rfl hu (λ_=>rfl) (x.parts.length+1);have M:OwnOk s (fI { x with parts:=x.parts++[⟨y,[],l6,[],t.line,t.col⟩] } (some u) tn td):=by simpa only[fI,aH,aV,aZ,wG,yK]using B
      simp only[go_sem,aT,m,m.symm,z,H];have O:=b0 (j6) (some u) tn td aB b1 rfl bf ⟨M,hb,m,by simp only[aH,aV,aZ];omega,aQ,aQ⟩;refine aG O (St.ge.trans (pL G (k:=0) (o:=(U,x.parts.length,101)) rfl B (λ_=>rfl)) ?_);unfold gT;rw[show(fI x U tn td).set 0 (some u,x.parts.length+1,(U,x.parts.length,101).snd.snd)=fI { x with parts:=x.parts++[⟨y,[],l6,[],t.line,t.col⟩] } (some u) tn td by simp[fI]];refine kT ?_;simp only[wA,eK,bU,bX,dL,vH,nv,Tm.cs,dY,dD,cY];exact cD
end
end
section
section
variable {T:List Tok} {fin:Fault} {d:Dc} {first:Tok} {i n:Nat} {s:St} {r:Nat} {KV Kp:St->A->Prop}
theorem aUr(tk:Option Nat){es m:List A}(h:tk=none->es=[])(hl:aBi es m):A.le (gv tk es) (.list none m):=by
 cases tk with
 | none =>
  rw[h rfl]at hl;have:m=[]:=eS (by rw[<-aGv hl];rfl);rw[this];exact A.le.nil
 | some t=>exactλg v y=>(A.le.list hl) g v ((A.le.forget t es) g v y)
theorem aOA(m:List Part):aBi (m.map vH) (m.map Part.enc):=by
 induction m with
 | nil=>trivial
 | cons p m y =>
  refine⟨?_,y⟩;simp only[vH,Part.enc,Part.cs,A.cells,Tm.cs,dY,dD];exact⟨⟨bL _,rfl⟩,⟨bL _,rfl⟩,⟨bL _,rfl⟩,⟨bL _,rfl⟩,⟨bL _,rfl⟩,⟨bL _,rfl⟩,⟨bL _,rfl⟩,⟨bL _,rfl⟩,⟨aM0 _,rfl⟩,⟨bL _,rfl⟩,⟨bL _,rfl⟩,trivial⟩
theorem aS2(hT:TOk T)(t:Tok)(hr:s.getO r=some (bI T fin d first i n))(hi:i<=T.length)(hn:n<=2000)
  (hk:(aHr false fin t.line t.col (T.drop i) n).to (PK T i (λj m=>s.setO r (bI T fin d first j m)) Rul.enc KV) (PB s r Kp)):Den cx 228 [.ptr r 0,t.enc] KV Kp s:=by
 have hlenT:=hT.len;simp only[aHr,bY]at hk;simp only[go_sem];(refine aN func228 [0,1,3,4,5,6,7,8,19,42] ?_;simp only[go_sem,ntmps228,f228]);(intro b3 hb3;try simp only[iM,cS,dB]at hb3);have e3:=aI hr (aS hb3);simp only[go_sem,hb3,e3];(intro b4 hb4;try simp only[iM,cS,dB]at hb4);have e4:=aI hr (aS hb4);simp only[go_sem,hb3,e3,hb4,e4];(refine bD (OT.l [0,2,3,4,5,1,6,7,8] .nil) [(1,[3,5]),(7,[3,5])] ?_;simp only[go_sem,hb3,e3,hb4,e4]);(refine iR (T:=T) (fin:=fin) (d:=d) (first:=first) (i:=i) (n:=n) gH hi hT (bE hk (λx1 w1 m1 hk1 hlt1 hw1 hm1=>?_) (λf h=>PB.mk bC h));subst m1;rw[<-hw1]at hk1);simp only[go_sem,hb3,e3,hb4,e4];(intro b5 hb5;try simp only[iM,cS,dB]at hb5);have e5:=aI hr (aS hb5);simp only[go_sem,hb3,e3,hb4,e4,hb5,e5];(refine fQ (T:=T) (fin:=fin) (d:=d) (first:=first) (i:=i+1) (n:=n) _ gH hlt1 hT (bE hk1 (λ_ w2 m2 hk2 hlt2 hw2 hm2=>?_) (λf h=>PB.mk bC h));subst m2;rw[<-hw2]at hk2);simp only[go_sem,hb3,e3,hb4,e4,hb5,e5];rw[show(T.drop (i+1+1)).length=T.length-(i+1+1)by rw[dS]]at hk2
 have h5:((s.setO b3 (.cells 209 t.cs)).setO b4 (.cells 50 [.str [],.nils,.nils,.nils,.nils,.int .i64 0,.int .i64 0])).getO b5=none:=by
  rw[aL,aD hb5.2.1.1,aL,aD hb5.2.2.1.1];exact hb5.2.2.2
 generalize hs2:(s.setO b3 (.cells 209 t.cs)).setO b4 (.cells 50 [.str [],.nils,.nils,.nils,.nils,.int .i64 0,.int .i64 0])=s2 at h5
 have hs2O:∀b o,s.getO b=some o->s2.getO b=some o:=λb o h=>by
  subst hs2;rw[aL,aD (λe=>by subst e;rw[hb4.2]at h;cases h),aL,aD (λe=>by subst e;rw[hb3]at h;cases h)];exact h
 have hs2g:s2.ge s:=⟨hs2O,λu m hm=>by subst hs2;exact hm,λx hx=>by subst hs2;exact hx⟩;have hg2:∀s1:St,s1.gx s2 r->s1.gx s r:=λs1 h=>⟨λc hc x hx=>h.ob c hc x (hs2O c x hx),λu m hm=>h.tk u m (by subst hs2;exact hm),λx hx=>h.ls x (by subst hs2;exact hx)⟩
 have h24:s2.getO b4=some (.cells 50 [.str [],.nils,.nils,.nils,.nils,.int .i64 0,.int .i64 0]):=by subst hs2;rw[aL,aF rfl]
 have PBk:∀(s1:St) (f:Fault),s1.gx s2 r->PB s r Kp f->PB s1 r (DK Kp) f:=λs1 f hg h o=>h.at (eW (hg2 _ hg)) (by rw[aL,aF rfl])
 refine Ex.loop (ι:=(Rul × Option Nat × Option Nat × Option Nat) × Nat × Bool × Nat × Nat) (λc=>[(0,.ptr r 0),(3,.ptr b3 0),(4,.ptr b4 0),(5,.ptr b5 0),(6,.int .i64 c.2.1),(7,.bool c.2.2.1)])
  (λc=>gT T fin d first b5 r s2 c.1.1 c.1.2.1 c.1.2.2.1 c.1.2.2.2 c.2.2.2.1 c.2.2.2.2)
  (fun c => RulQ b5 r s2 c.1.1 c.1.2.1 c.1.2.2.1 c.1.2.2.2 c.2.2.2.1 ∧ c.2.1 ≤ c.2.2.2.1 ∧ i + 1 + 1 ≤ c.2.2.2.1 ∧ c.2.2.2.1 ≤ T.length ∧ c.2.2.2.2 ≤ 2000 ∧
   (match c.2.2.1 with
    | true=>∃k,T.length-c.2.2.2.1<k/\(eY fin [59] (aEe false fin) k (c.1.1,c.2.1) (T.drop c.2.2.2.1) c.2.2.2.2).to (λa w n=>(xK false fin w n).to (λl w n=>PK T i (λj m=>s.setO r (bI T fin d first j m)) Rul.enc KV { a.1 with cond:=l } w n) (PB s r Kp)) (PB s r Kp)
    | false=>(xK false fin (T.drop c.2.2.2.1) c.2.2.2.2).to (λl w n=>PK T i (λj m=>s.setO r (bI T fin d first j m)) Rul.enc KV { c.1.1 with cond:=l } w n) (PB s r Kp)))
  (λc=>T.length-c.2.2.2.1) ((⟨x1,[],[],[],[],t.line,t.col⟩,none,none,none),0,true,i+1+1,n) ?_ ?_ ?_ ?_
 .refine⟨⟨⟨?_,?_,?_⟩,h5,hb5.1.2,aW _,aW _,aW _⟩,aW _,bJ _,hlt2,hn,_,fZ _,hk2⟩
  .intro o ho u hu;simp only[fI,dG,iI,eJ]at ho;rcases ho with rfl|rfl|rfl<;>cases hu
  .intro o ho _;simp only[fI,dG,iI,eJ]at ho;rcases ho with rfl|rfl|rfl<;>rfl
  .intro i j a b u hi hj ha hb;have:=bK hi;simp only[fI,dG,iI,eJ]at this;rcases this with rfl|rfl|rfl<;>cases ha
 .simp only[go_sem,hb3,e3,hb4,e4,hb5,e5];rfl
 .show St.ge _ ((s2.setO b5 _).setO r _);subst hs2;exact cD
 .rintro⟨⟨x,tp,tn,td⟩,cnt,more,i2,n2⟩ ⟨hQ,hcnt,hi1,hi2,hn2,hk3⟩;simp only at hQ hcnt hi1 hi2 hn2 hk3;have hQ0:=hQ;obtain⟨hown,hb,hne,l1,l2,l3⟩:=hQ;have hfr:=hown.free;have n45:=hb5.2.1.1;have n54:=hb5.2.1.2;refine aX (V:=[0,1,3,4,5,6,7,8,19,42]) _ _ _ _ ?_;cases more with
  | false =>
   simp only at hk3;unfold gT wA;have hneS:=hne.symm;simp only[go_sem,aT,hne,hne.symm,h24,e4,n45,n54];refine aKd (T:=T) (fin:=fin) (d:=d) (first:=first) (i:=i2) (n:=n2) hT gH hi2 hn2 (bE hk3 (λl w m hk4 j hj hjT hw hm=>?_) (λf h=>PBk _ _ bC h));simp only[go_sem,aT,hne,hne.symm,h24,e4,n45,n54];refine⟨by cases tp<;>cases tn<;>cases td<;>rfl,?_⟩;refine DK.mk (hk4 j aB hjT hw hm) (aLC cD (λo ho u hu=>by have:=hfr o ho u hu;subst hs2;exact this)) ?_;simp only[Rul.enc,Rul.cs];have z1:tp=none->x.parts=[]:=λe=>eS (hown.nil (tp,x.parts.length,101) (by simp[fI]) e)
   have z2:tn=none->x.new=[]:=λe=>eS (hown.nil (tn,x.new.length,103) (by simp[fI]) e)
   have z3:td=none->x.drop=[]:=λe=>eS (hown.nil (td,x.drop.length,9) (by simp[fI]) e)
   exact A.le.agg ⟨⟨bL _,rfl⟩,⟨aUr tp (λe=>by rw[z1 e];rfl) (aOA _),rfl⟩,⟨bL _,rfl⟩,⟨kJ tn _ (λe=>by rw[z2 e];rfl),rfl⟩,⟨kJ td _ (λe=>by rw[z3 e];rfl),rfl⟩,⟨bL _,rfl⟩,⟨bL _,rfl⟩,trivial⟩
  | true =>
   obtain⟨k,hk3,hk4⟩:=hk3;obtain⟨k,rfl⟩:∃k',k=k'+1:=⟨k-1,by omega⟩
   rw[eY,bY]at hk4;have hneS:=hne.symm;simp only[go_sem,aT,hne,hne.symm,h24,e4,n45,n54];refine kP (T:=T) (fin:=fin) (d:=d) (first:=first) (i:=i2) (n:=n2) (by unfold gT;rw[aT,aL,aF rfl]) hi2 ?_;cases hw:T.drop i2 with
   | nil =>
    rw[hw]at hk4;exact hk4.at (hg2 (gT T fin d first b5 r s2 x tp tn td i2 n2) (by unfold gT;exact bC)) (o:=bI T fin d first i2 n2) (by unfold gT;rw[aT,aL,aF rfl])
   | cons t2 w =>
    obtain⟨g1,g2,g3,g4⟩:=mD hw;rw[hw]at hk4;simp only[aEe]at hk4;simp only[go_sem,aT,hne,hne.symm,h24,e4,n45,n54];intro b8 hb8
    have hpart:((t2.kind=1/\(¬ t2.text∈nZ\/t2.text=[110,101,119]\/t2.text=[100,114,111,112]))->¬ 20<=cnt)->(aEv false fin x (T.drop i2) n2).to (λx' w n=>(if dO [59] w=true then eY fin [59] (aEe false fin) k (x',cnt+1) w.tail n else Rd.ok (x',cnt+1) w n).to
      (λa w n=>(xK false fin w n).to (λl w n=>PK T i (λj m=>s.setO r (bI T fin d first j m)) Rul.enc KV { a.1 with cond:=l } w n) (PB s r Kp)) (PB s r Kp)) (PB s r Kp):=λh=>by
     rw[hw];rw[aD (λhc=>h hc.1 hc.2),bY]at hk4;exact hk4
    simp only[go_sem,aT,hne,hne.symm,h24,e4,n45,n54];cases c1:decide (t2.kind=1)
    .have hk5:=hpart (λhc=>by have:=hc.1;simp[this]at c1);simp only[go_sem,aT,hne,hne.symm,h24,e4,n45,n54,c1];refine iH (gF hb8) ?_;refine aB1 hT b5 x tp tn td hQ0 hi2 hn2 (bE hk5 (λx' w1 m1 hk6 j tp' tn' td' hj hjT hw1 hm1 hQ'=>?_) (λf h s1 o hg hr1=>h.at (hg2 _ hg) hr1));subst hw1;simp only[go_sem,aT,hne,hne.symm,h24,e4,n45,n54,aU cnt aB];refine jV (T:=T) (fin:=fin) (d:=d) (first:=first) (i:=j) (n:=m1) _ (by unfold gT;rw[aT,aL,aF rfl]) hjT hT ?_;cases c9:dO [59] (T.drop j)with
     | true =>
      rw[aF c9,nJ]at hk6;have hlt9:=lR c9;simp only[go_sem,aT,hne,hne.symm,h24,e4,n45,n54];refine⟨((x',tp',tn',td'),cnt+1,true,j+1,m1),⟨⟨hQ'.own,hQ'.hb,hQ'.ne,by have:=hQ'.l1;simp only;omega,by have:=hQ'.l2;simp only;omega,by have:=hQ'.l3;simp only;omega⟩,aQ,aQ,hlt9,hm1,k,aQ,hk6⟩,aQ,?_⟩;refine⟨⟨rfl,rfl⟩,?_⟩;unfold gT;rw[yU,qP];exact aE _
     | false =>
      rw[aD (by simp[c9]),cL]at hk6;simp only[go_sem,aT,hne,hne.symm,h24,e4,n45,n54];refine⟨((x',tp',tn',td'),cnt+1,false,j,m1),⟨hQ',aQ,aQ,hjT,hm1,hk6⟩,aQ,?_⟩;exact⟨⟨rfl,rfl⟩,aE _⟩
    simp only[go_sem,aT,hne,hne.symm,h24,e4,n45,n54,c1];refine wH _ _ _ _ ?_;simp only[go_sem,aT,hne,hne.symm,h24,e4,n45,n54];cases c2:decide (t2.text∈nZ)
    .simp only[go_sem,aT,hne,hne.symm,h24,e4,n45,n54,c2];refine iH (gF hb8) ?_;refine nM (T:=T) (fin:=fin) (d:=d) (first:=first) (i:=i2) (n:=n2) _ _ (by unfold gT;rw[aT,aL,aF rfl]) hi2 ?_;by_cases h20:20<=cnt
     .rw[aF ⟨⟨gQ c1,.inl (gQ c2)⟩,h20⟩,eP]at hk4;rw[aF aB,hw];exact PBk _ _ (by unfold gT;exact bC) hk4
     rw[aD aB];have hk5:=hpart (λ_=>h20);simp only[go_sem,aT,hne,hne.symm,h24,e4,n45,n54];refine aB1 hT b5 x tp tn td hQ0 hi2 hn2 (bE hk5 (λx' w1 m1 hk6 j tp' tn' td' hj hjT hw1 hm1 hQ'=>?_) (λf h s1 o hg hr1=>h.at (hg2 _ hg) hr1));subst hw1;simp only[go_sem,aT,hne,hne.symm,h24,e4,n45,n54,aU cnt aB];refine jV (T:=T) (fin:=fin) (d:=d) (first:=first) (i:=j) (n:=m1) _ (by unfold gT;rw[aT,aL,aF rfl]) hjT hT ?_;cases c9:dO [59] (T.drop j)with
     | true =>
      rw[aF c9,nJ]at hk6;have hlt9:=lR c9;simp only[go_sem,aT,hne,hne.symm,h24,e4,n45,n54];refine⟨((x',tp',tn',td'),cnt+1,true,j+1,m1),⟨⟨hQ'.own,hQ'.hb,hQ'.ne,by have:=hQ'.l1;simp only;omega,by have:=hQ'.l2;simp only;omega,by have:=hQ'.l3;simp only;omega⟩,aQ,aQ,hlt9,hm1,k,aQ,hk6⟩,aQ,?_⟩;refine⟨⟨rfl,rfl⟩,?_⟩;unfold gT;rw[yU,qP];exact aE _
     | false =>
      rw[aD (by simp[c9]),cL]at hk6;simp only[go_sem,aT,hne,hne.symm,h24,e4,n45,n54];refine⟨((x',tp',tn',td'),cnt+1,false,j,m1),⟨hQ',aQ,aQ,hjT,hm1,hk6⟩,aQ,?_⟩;exact⟨⟨rfl,rfl⟩,aE _⟩
    simp only[go_sem,aT,hne,hne.symm,h24,e4,n45,n54,c2];cases c3:decide (t2.text=[110,101,119]);rotate_left
    .simp only[go_sem,aT,hne,hne.symm,h24,e4,n45,n54,c3];refine iH (gF hb8) ?_;refine nM (T:=T) (fin:=fin) (d:=d) (first:=first) (i:=i2) (n:=n2) _ _ (by unfold gT;rw[aT,aL,aF rfl]) hi2 ?_;by_cases h20:20<=cnt
     .rw[aF ⟨⟨gQ c1,.inr (.inl (gQ c3))⟩,h20⟩,eP]at hk4;rw[aF aB,hw];exact PBk _ _ (by unfold gT;exact bC) hk4
     rw[aD aB];have hk5:=hpart (λ_=>h20);simp only[go_sem,aT,hne,hne.symm,h24,e4,n45,n54];refine aB1 hT b5 x tp tn td hQ0 hi2 hn2 (bE hk5 (λx' w1 m1 hk6 j tp' tn' td' hj hjT hw1 hm1 hQ'=>?_) (λf h s1 o hg hr1=>h.at (hg2 _ hg) hr1));subst hw1;simp only[go_sem,aT,hne,hne.symm,h24,e4,n45,n54,aU cnt aB];refine jV (T:=T) (fin:=fin) (d:=d) (first:=first) (i:=j) (n:=m1) _ (by unfold gT;rw[aT,aL,aF rfl]) hjT hT ?_;cases c9:dO [59] (T.drop j)with
     | true =>
      rw[aF c9,nJ]at hk6;have hlt9:=lR c9;simp only[go_sem,aT,hne,hne.symm,h24,e4,n45,n54];refine⟨((x',tp',tn',td'),cnt+1,true,j+1,m1),⟨⟨hQ'.own,hQ'.hb,hQ'.ne,by have:=hQ'.l1;simp only;omega,by have:=hQ'.l2;simp only;omega,by have:=hQ'.l3;simp only;omega⟩,aQ,aQ,hlt9,hm1,k,aQ,hk6⟩,aQ,?_⟩;refine⟨⟨rfl,rfl⟩,?_⟩;unfold gT;rw[yU,qP];exact aE _
     | false =>
      rw[aD (by simp[c9]),cL]at hk6;simp only[go_sem,aT,hne,hne.symm,h24,e4,n45,n54];refine⟨((x',tp',tn',td'),cnt+1,false,j,m1),⟨hQ',aQ,aQ,hjT,hm1,hk6⟩,aQ,?_⟩;exact⟨⟨rfl,rfl⟩,aE _⟩
    simp only[go_sem,aT,hne,hne.symm,h24,e4,n45,n54,c3];cases c4:decide (t2.text=[100,114,111,112]);rotate_left
    .simp only[go_sem,aT,hne,hne.symm,h24,e4,n45,n54,c4];refine iH (gF hb8) ?_;refine nM (T:=T) (fin:=fin) (d:=d) (first:=first) (i:=i2) (n:=n2) _ _ (by unfold gT;rw[aT,aL,aF rfl]) hi2 ?_;by_cases h20:20<=cnt
     .rw[aF ⟨⟨gQ c1,.inr (.inr (gQ c4))⟩,h20⟩,eP]at hk4;rw[aF aB,hw];exact PBk _ _ (by unfold gT;exact bC) hk4
     rw[aD aB];have hk5:=hpart (λ_=>h20);simp only[go_sem,aT,hne,hne.symm,h24,e4,n45,n54];refine aB1 hT b5 x tp tn td hQ0 hi2 hn2 (bE hk5 (λx' w1 m1 hk6 j tp' tn' td' hj hjT hw1 hm1 hQ'=>?_) (λf h s1 o hg hr1=>h.at (hg2 _ hg) hr1));subst hw1;simp only[go_sem,aT,hne,hne.symm,h24,e4,n45,n54,aU cnt aB];refine jV (T:=T) (fin:=fin) (d:=d) (first:=first) (i:=j) (n:=m1) _ (by unfold gT;rw[aT,aL,aF rfl]) hjT hT ?_;cases c9:dO [59] (T.drop j)with
     | true =>
      rw[aF c9,nJ]at hk6;have hlt9:=lR c9;simp only[go_sem,aT,hne,hne.symm,h24,e4,n45,n54];refine⟨((x',tp',tn',td'),cnt+1,true,j+1,m1),⟨⟨hQ'.own,hQ'.hb,hQ'.ne,by have:=hQ'.l1;simp only;omega,by have:=hQ'.l2;simp only;omega,by have:=hQ'.l3;simp only;omega⟩,aQ,aQ,hlt9,hm1,k,aQ,hk6⟩,aQ,?_⟩;refine⟨⟨rfl,rfl⟩,?_⟩;unfold gT;rw[yU,qP];exact aE _
     | false =>
      rw[aD (by simp[c9]),cL]at hk6;simp only[go_sem,aT,hne,hne.symm,h24,e4,n45,n54];refine⟨((x',tp',tn',td'),cnt+1,false,j,m1),⟨hQ',aQ,aQ,hjT,hm1,hk6⟩,aQ,?_⟩;exact⟨⟨rfl,rfl⟩,aE _⟩
    simp only[go_sem,aT,hne,hne.symm,h24,e4,n45,n54,c4];have hk5:=hpart (λhc=>by have h1:=hc.2;simp at c2 c3 c4;rcases h1 with h1|h1|h1;exact(h1 c2).elim;exact(c3 h1).elim;exact(c4 h1).elim);refine iH (gF hb8) ?_;refine aB1 hT b5 x tp tn td hQ0 hi2 hn2 (bE hk5 (λx' w1 m1 hk6 j tp' tn' td' hj hjT hw1 hm1 hQ'=>?_) (λf h s1 o hg hr1=>h.at (hg2 _ hg) hr1));subst hw1;simp only[go_sem,aT,hne,hne.symm,h24,e4,n45,n54,aU cnt aB];refine jV (T:=T) (fin:=fin) (d:=d) (first:=first) (i:=j) (n:=m1) _ (by unfold gT;rw[aT,aL,aF rfl]) hjT hT ?_;cases c9:dO [59] (T.drop j)with
    | true =>
     rw[aF c9,nJ]at hk6;have hlt9:=lR c9;simp only[go_sem,aT,hne,hne.symm,h24,e4,n45,n54];refine⟨((x',tp',tn',td'),cnt+1,true,j+1,m1),⟨⟨hQ'.own,hQ'.hb,hQ'.ne,by have:=hQ'.l1;simp only;omega,by have:=hQ'.l2;simp only;omega,by have:=hQ'.l3;simp only;omega⟩,aQ,aQ,hlt9,hm1,k,aQ,hk6⟩,aQ,?_⟩;refine⟨⟨rfl,rfl⟩,?_⟩;unfold gT;rw[yU,qP];exact aE _
    | false =>
     rw[aD (by simp[c9]),cL]at hk6;simp only[go_sem,aT,hne,hne.symm,h24,e4,n45,n54];refine⟨((x',tp',tn',td'),cnt+1,false,j,m1),⟨hQ',aQ,aQ,hjT,hm1,hk6⟩,aQ,?_⟩;exact⟨⟨rfl,rfl⟩,aE _⟩
end
end
section
structure GrQ {α:Type} (b1 b3 r:Nat) (s:St) (acc:List α) (tk:Option Nat) (i:Nat):Prop where
 len:acc.length<=i
 h1:s.getO b1=some (.cells 153 [.ptr r 0])
 h3:s.getO b3=some (.cells 237 [.ptr r 6])
 ne:b1≠r/\b3≠r
 nil:tk=none->acc=[]
 free:∀t,tk=some t->s.getT t=none
def qB(T:List Tok)(fin:Fault)(d:Dc)(first:Tok)(r:Nat)(s:St)(acc:List aC)(tk:Option Nat)(i n:Nat):St :=
 gs (s.setO r (bI T fin { d with sorts:=gv tk (acc.map .str) } first i n)) tk acc.length 9
def qD(T:List Tok)(fin:Fault)(d:Dc)(first:Tok)(r:Nat)(s:St)(acc:List Cel)(tk:Option Nat)(i n:Nat):St :=
 gs (s.setO r (bI T fin { d with many:=gv tk (acc.map Cel.enc) } first i n)) tk acc.length 96
section
variable {T:List Tok} {fin:Fault} {d:Dc} {first:Tok} {i n:Nat} {s:St} {r:Nat} {KV Kp:St->A->Prop}
theorem aGE(H:TOk T)(B:Nat)(m:Bool)(G:s.getO B=some (.cells 153 [.ptr r 0]))(z:s.getO r=some (bI T fin d first i n))(S:i+1<=T.length)
  (M:match m with|true=>PB s r Kp (iE fin 14 (T.drop i))|false=>KV (s.setO r (bI T fin d first (i+1) n)) (.tuple [])):Den cx 265 [.bool m,.ptr B 0] KV Kp s:=by
 have O:=H.len;have y:=z;simp only[go_sem]at y;(refine aN func265 [0,1,3] ?_;simp only[go_sem,ntmps265,f265]);cases m with
 | true =>
  simp only[go_sem,G];refine qQ 14 z aB H ?_;exact M.here z
 | false =>
  simp only[go_sem,G,y,aU i aB];exact aP M
theorem aRp(hT:TOk T)(b1 b3:Nat)(acc:List aC)(tk:Option Nat)(hQ:GrQ b1 b3 r s acc tk i)(hi:i<=T.length)(hn:n<=2000)
  (hk : (qZ fin 40 acc.length (T.drop i) n fun w n => gI fin w n).to (fun a w n' => ∀ j y,i + 1 ≤ j → j ≤ T.length → T.drop j = w → n' ≤ 2000 → GrQ b1 b3 r s (acc ++ [a]) y j → KV (qB T fin d first r s (acc ++ [a]) y j n') (.bool true))
   (λf=>∀s1 o,s1.gx s r->s1.getO r=some o->Kp s1 (.iface 36 f.enc))):Den cx 220 [.ptr b1 0,.ptr b3 0] KV Kp (qB T fin d first r s acc tk i n):=by
 obtain⟨bd,M,O,⟨m,z⟩,b0,U⟩:=hQ;have bc:=hT.len;have hg:iV (qB T fin d first r s acc tk i n) tk (acc.map A.str).length 9:=by rw[aO];exact fD λe=>by rw[b0 e];rfl
 (refine aN func220 [0,1,2,3,14] ?_;simp only[go_sem,ntmps220,f220]);unfold qB;have bf:=m.symm;have bg:=z.symm;simp only[go_sem,M,O,m,m.symm,z,z.symm];refine kP (d:={ d with sorts:=gv tk (acc.map A.str) }) (T:=T) (fin:=fin) (first:=first) (i:=i) (n:=n) gH hi ?_;cases hw:T.drop i with
 | nil=>rw[hw]at hk;exact aP (hk _ (bI T fin { d with sorts:=gv tk (acc.map A.str) } first i n) bC gH)
 | cons t w =>
  obtain⟨g1,g2,g3,g4⟩:=mD hw;rw[hw]at hk
  have Z:(t.free=true->¬ 40<=acc.length)->(gI fin (T.drop i) n).to (λa w n'=>∀j y,i+1<=j->j<=T.length->T.drop j=w->n'<=2000->GrQ b1 b3 r s (acc++[a]) y j->KV (qB T fin d first r s (acc++[a]) y j n') (.bool true))
    (λf=>∀s1 o,s1.gx s r->s1.getO r=some o->Kp s1 (.iface 36 f.enc)):=λh=>by
   rw[hw];simp only[qZ]at hk;rw[aD (λhc=>h hc.1 hc.2)]at hk;exact hk
  simp only[go_sem,M,O,m,m.symm,z,z.symm];(refine kD λb5 B=>?_);have H:=aI O B.2;have G:=aI M B.2;simp only[go_sem,M,O,m,m.symm,z,z.symm,B,H,G];cases c1:decide (t.kind=1)
  .have b4:=Z (λhf=>by simp[Tok.free,c1]at hf);simp only[go_sem,M,O,m,m.symm,z,z.symm,B,H,G,c1];(refine bD (OT.r 0 14) [(7,[0,1,5]),(9,[0])] ?_;simp only[go_sem,M,O,m,m.symm,z,z.symm,B,H,G]);refine iR (d:={ d with sorts:=gv tk (acc.map A.str) }) (T:=T) (fin:=fin) (first:=first) (i:=i) (n:=n) gH hi hT (bE b4 (λx w2 m2 b6 b8 b9 bb=>?_) (λf h=>dV bC h));subst m2;have hj:i+1<=i+1:=bJ _;simp only[go_sem,M,O,m,m.symm,z,z.symm,B,H,G];refine⟨by decide,λy S=>by simp only[bO]at S;subst S;rfl,dU rfl rfl (by rw[aO];exact fD λe=>by rw[b0 e];rfl) (λy S=>?_) (by simp only[aO,aV,aZ];omega) (λu hu=>?_)⟩
   .simp only[cN]at S;obtain⟨q,_,rfl⟩:=S;rfl
   have b2:=iD hu U;rw[gR hu];simp only[go_sem,M,O,m,m.symm,z,z.symm,B,H,G];have b7:=b6 (i+1) (some u) hj b8 b9 hn ⟨by simp only[aH,aV,aZ];omega,M,O,⟨m,z⟩,λe=>(by cases e),λt' e=>by cases e;exact b2⟩;refine aG b7 ?_;simp only[qB,eK,bU,bX,dL,aH,aV,aZ,aO];exact cD
  simp only[go_sem,M,O,m,m.symm,z,z.symm,B,H,G,c1];refine wH _ _ _ _ ?_;simp only[go_sem,M,O,m,m.symm,z,z.symm,B,H,G];cases c2:decide (t.text∈nZ);rotate_left
  .have b4:=Z (λhf=>by simp[Tok.free,c2]at hf);simp only[go_sem,M,O,m,m.symm,z,z.symm,B,H,G,c2];(refine bD (OT.r 0 14) [(7,[0,1,5]),(9,[0])] ?_;simp only[go_sem,M,O,m,m.symm,z,z.symm,B,H,G]);refine iR (d:={ d with sorts:=gv tk (acc.map A.str) }) (T:=T) (fin:=fin) (first:=first) (i:=i) (n:=n) gH hi hT (bE b4 (λx w2 m2 b6 b8 b9 bb=>?_) (λf h=>dV bC h));subst m2;have hj:i+1<=i+1:=bJ _;simp only[go_sem,M,O,m,m.symm,z,z.symm,B,H,G];refine⟨by decide,λy S=>by simp only[bO]at S;subst S;rfl,dU rfl rfl (by rw[aO];exact fD λe=>by rw[b0 e];rfl) (λy S=>?_) (by simp only[aO,aV,aZ];omega) (λu hu=>?_)⟩
   .simp only[cN]at S;obtain⟨q,_,rfl⟩:=S;rfl
   have b2:=iD hu U;rw[gR hu];simp only[go_sem,M,O,m,m.symm,z,z.symm,B,H,G];have b7:=b6 (i+1) (some u) hj b8 b9 hn ⟨by simp only[aH,aV,aZ];omega,M,O,⟨m,z⟩,λe=>(by cases e),λt' e=>by cases e;exact b2⟩;refine aG b7 ?_;simp only[qB,eK,bU,bX,dL,aH,aV,aZ,aO];exact cD
  simp only[go_sem,M,O,m,m.symm,z,z.symm,B,H,G,c2];(refine bD (OT.r 0 8) [] ?_;simp only[go_sem,M,O,m,m.symm,z,z.symm,B,H,G,pP hg]);refine nM (d:={ d with sorts:=gv tk (acc.map A.str) }) (T:=T) (fin:=fin) (first:=first) (i:=i) (n:=n) _ _ gH hi ?_;by_cases h8:40<=acc.length
  .rw[aF aB,hw];simp only[qZ]at hk;rw[aF ⟨by simp[Tok.free,c1,c2],h8⟩]at hk;exact dV bC hk
  rw[aD aB];have b4:=Z (λ_=>h8);simp only[go_sem,M,O,m,m.symm,z,z.symm,B,H,G];(refine bD (OT.r 0 14) [(7,[0,1,5]),(9,[0])] ?_;simp only[go_sem,M,O,m,m.symm,z,z.symm,B,H,G]);refine iR (d:={ d with sorts:=gv tk (acc.map A.str) }) (T:=T) (fin:=fin) (first:=first) (i:=i) (n:=n) gH hi hT (bE b4 (λx w2 m2 b6 b8 b9 bb=>?_) (λf h=>dV bC h));subst m2;have hj:i+1<=i+1:=bJ _;simp only[go_sem,M,O,m,m.symm,z,z.symm,B,H,G];refine⟨by decide,λy S=>by simp only[bO]at S;subst S;rfl,dU rfl rfl (by rw[aO];exact fD λe=>by rw[b0 e];rfl) (λy S=>?_) (by simp only[aO,aV,aZ];omega) (λu hu=>?_)⟩
  .simp only[cN]at S;obtain⟨q,_,rfl⟩:=S;rfl
  have b2:=iD hu U;rw[gR hu];simp only[go_sem,M,O,m,m.symm,z,z.symm,B,H,G];have b7:=b6 (i+1) (some u) hj b8 b9 hn ⟨by simp only[aH,aV,aZ];omega,M,O,⟨m,z⟩,λe=>(by cases e),λt' e=>by cases e;exact b2⟩;refine aG b7 ?_;simp only[qB,eK,bU,bX,dL,aH,aV,aZ,aO];exact cD
theorem aRG(hT:TOk T)(b1 b3:Nat)(acc:List Cel)(tk:Option Nat)(hQ:GrQ b1 b3 r s acc tk i)(hi:i<=T.length)(hn:n<=2000)
  (hk : (qZ fin 12 acc.length (T.drop i) n fun w n => zN false fin w n).to (fun a w n' => ∀ j y,i + 1 ≤ j → j ≤ T.length → T.drop j = w → n' ≤ 2000 → GrQ b1 b3 r s (acc ++ [a]) y j → KV (qD T fin d first r s (acc ++ [a]) y j n') (.bool true))
   (λf=>∀s1 o,s1.gx s r->s1.getO r=some o->Kp s1 (.iface 36 f.enc))):Den cx 267 [.ptr b1 0,.ptr b3 0] KV Kp (qD T fin d first r s acc tk i n):=by
 obtain⟨bd,M,O,⟨m,z⟩,b0,U⟩:=hQ;have bc:=hT.len;have hg:iV (qD T fin d first r s acc tk i n) tk (acc.map Cel.enc).length 96:=by rw[aO];exact fD λe=>by rw[b0 e];rfl
 (refine aN func267 [0,1,2,3,14] ?_;simp only[go_sem,ntmps267,f267]);unfold qD;have bf:=m.symm;have bg:=z.symm;simp only[go_sem,M,O,m,m.symm,z,z.symm];refine kP (d:={ d with many:=gv tk (acc.map Cel.enc) }) (T:=T) (fin:=fin) (first:=first) (i:=i) (n:=n) gH hi ?_;cases hw:T.drop i with
 | nil=>rw[hw]at hk;exact aP (hk _ (bI T fin { d with many:=gv tk (acc.map Cel.enc) } first i n) bC gH)
 | cons t w =>
  obtain⟨g1,g2,g3,g4⟩:=mD hw;rw[hw]at hk
  have Z:(t.free=true->¬ 12<=acc.length)->(zN false fin (T.drop i) n).to (λa w n'=>∀j y,i+1<=j->j<=T.length->T.drop j=w->n'<=2000->GrQ b1 b3 r s (acc++[a]) y j->KV (qD T fin d first r s (acc++[a]) y j n') (.bool true))
    (λf=>∀s1 o,s1.gx s r->s1.getO r=some o->Kp s1 (.iface 36 f.enc)):=λh=>by
   rw[hw];simp only[qZ]at hk;rw[aD (λhc=>h hc.1 hc.2)]at hk;exact hk
  simp only[go_sem,M,O,m,m.symm,z,z.symm];(refine kD λb5 B=>?_);have H:=aI O B.2;have G:=aI M B.2;simp only[go_sem,M,O,m,m.symm,z,z.symm,B,H,G];cases c1:decide (t.kind=1)
  .have b4:=Z (λhf=>by simp[Tok.free,c1]at hf);simp only[go_sem,M,O,m,m.symm,z,z.symm,B,H,G,c1];(refine bD (OT.r 0 12) [(6,[0,1,4]),(8,[0])] ?_;simp only[go_sem,M,O,m,m.symm,z,z.symm,B,H,G]);refine aDE (d:={ d with many:=gv tk (acc.map Cel.enc) }) (T:=T) (fin:=fin) (first:=first) (i:=i) (n:=n) hT gH hi hn (bE b4 (λx w2 m2 b6 j hj b8 bb b9=>?_) (λf h=>dV bC h));simp only[go_sem,M,O,m,m.symm,z,z.symm,B,H,G];refine⟨by decide,λy S=>by simp only[bO]at S;subst S;rfl,dU rfl rfl (by rw[aO];exact fD λe=>by rw[b0 e];rfl) (λy S=>?_) (by simp only[aO,aV,aZ];omega) (λu hu=>?_)⟩
   .simp only[cN]at S;obtain⟨q,_,rfl⟩:=S;rfl
   have b2:=iD hu U;rw[gR hu];simp only[go_sem,M,O,m,m.symm,z,z.symm,B,H,G];have b7:=b6 j (some u) hj b8 bb b9 ⟨by simp only[aH,aV,aZ];omega,M,O,⟨m,z⟩,λe=>(by cases e),λt' e=>by cases e;exact b2⟩;refine aG b7 ?_;simp only[qD,eK,bU,bX,dL,aH,aV,aZ,aO];exact cD
  simp only[go_sem,M,O,m,m.symm,z,z.symm,B,H,G,c1];refine wH _ _ _ _ ?_;simp only[go_sem,M,O,m,m.symm,z,z.symm,B,H,G];cases c2:decide (t.text∈nZ);rotate_left
  .have b4:=Z (λhf=>by simp[Tok.free,c2]at hf);simp only[go_sem,M,O,m,m.symm,z,z.symm,B,H,G,c2];(refine bD (OT.r 0 12) [(6,[0,1,4]),(8,[0])] ?_;simp only[go_sem,M,O,m,m.symm,z,z.symm,B,H,G]);refine aDE (d:={ d with many:=gv tk (acc.map Cel.enc) }) (T:=T) (fin:=fin) (first:=first) (i:=i) (n:=n) hT gH hi hn (bE b4 (λx w2 m2 b6 j hj b8 bb b9=>?_) (λf h=>dV bC h));simp only[go_sem,M,O,m,m.symm,z,z.symm,B,H,G];refine⟨by decide,λy S=>by simp only[bO]at S;subst S;rfl,dU rfl rfl (by rw[aO];exact fD λe=>by rw[b0 e];rfl) (λy S=>?_) (by simp only[aO,aV,aZ];omega) (λu hu=>?_)⟩
   .simp only[cN]at S;obtain⟨q,_,rfl⟩:=S;rfl
   have b2:=iD hu U;rw[gR hu];simp only[go_sem,M,O,m,m.symm,z,z.symm,B,H,G];have b7:=b6 j (some u) hj b8 bb b9 ⟨by simp only[aH,aV,aZ];omega,M,O,⟨m,z⟩,λe=>(by cases e),λt' e=>by cases e;exact b2⟩;refine aG b7 ?_;simp only[qD,eK,bU,bX,dL,aH,aV,aZ,aO];exact cD
  simp only[go_sem,M,O,m,m.symm,z,z.symm,B,H,G,c2];(refine bD (OT.r 0 7) [] ?_;simp only[go_sem,M,O,m,m.symm,z,z.symm,B,H,G,pP hg]);refine nM (d:={ d with many:=gv tk (acc.map Cel.enc) }) (T:=T) (fin:=fin) (first:=first) (i:=i) (n:=n) _ _ gH hi ?_;by_cases h8:12<=acc.length
  .rw[aF aB,hw];simp only[qZ]at hk;rw[aF ⟨by simp[Tok.free,c1,c2],h8⟩]at hk;exact dV bC hk
  rw[aD aB];have b4:=Z (λ_=>h8);simp only[go_sem,M,O,m,m.symm,z,z.symm,B,H,G];(refine bD (OT.r 0 12) [(6,[0,1,4]),(8,[0])] ?_;simp only[go_sem,M,O,m,m.symm,z,z.symm,B,H,G]);refine aDE (d:={ d with many:=gv tk (acc.map Cel.enc) }) (T:=T) (fin:=fin) (first:=first) (i:=i) (n:=n) hT gH hi hn (bE b4 (λx w2 m2 b6 j hj b8 bb b9=>?_) (λf h=>dV bC h));simp only[go_sem,M,O,m,m.symm,z,z.symm,B,H,G];refine⟨by decide,λy S=>by simp only[bO]at S;subst S;rfl,dU rfl rfl (by rw[aO];exact fD λe=>by rw[b0 e];rfl) (λy S=>?_) (by simp only[aO,aV,aZ];omega) (λu hu=>?_)⟩
  .simp only[cN]at S;obtain⟨q,_,rfl⟩:=S;rfl
  have b2:=iD hu U;rw[gR hu];simp only[go_sem,M,O,m,m.symm,z,z.symm,B,H,G];have b7:=b6 j (some u) hj b8 bb b9 ⟨by simp only[aH,aV,aZ];omega,M,O,⟨m,z⟩,λe=>(by cases e),λt' e=>by cases e;exact b2⟩;refine aG b7 ?_;simp only[qD,eK,bU,bX,dL,aH,aV,aZ,aO];exact cD
end
end
section
structure DOwn where
 so:Option Nat
 be:Option Nat
 op:Option Nat
 fu:Option Nat
 va:Option Nat
 eq:Option Nat
 on:Option Nat
 ma:Option Nat
 ru:Option Nat
def cU(d:Dfn)(o:DOwn):Dc:=⟨d.name,gv o.so (d.sig.sorts.map .str),gv o.be (d.sig.below.map Below.enc),gv o.op (d.sig.ops.map Opr.enc),gv o.fu (d.sig.funs.map Opr.enc),gv o.va (d.sig.values.map .str),
 gv o.eq (d.eqs.map Eqn.enc),gv o.on (d.once.map Cel.enc),d.kind,gv o.ma (d.many.map Cel.enc),gv o.ru (d.rules.map Rul.enc),d.start,d.watch⟩
def cO(d:Dfn)(o:DOwn):List eR:=[(o.so,d.sig.sorts.length,9),(o.be,d.sig.below.length,112),(o.op,d.sig.ops.length,80),(o.fu,d.sig.funs.length,80),(o.va,d.sig.values.length,9),
 (o.eq,d.eqs.length,69),(o.on,d.once.length,96),(o.ma,d.many.length,96),(o.ru,d.rules.length,50)]
def lX(T:List Tok)(fin:Fault)(first:Tok)(r:Nat)(s:St)(d:Dfn)(o:DOwn)(i n:Nat):St:=dR (s.setO r (bI T fin (cU d o) first i n)) (cO d o)
structure ItQ (s:St) (d:Dfn) (o:DOwn) (i:Nat):Prop where
 own:OwnOk s (cO d o)
 len:∀a,a∈cO d o->a.2.1<=i
theorem ItQ.le{s:St}{d:Dfn}{o:DOwn}{i j:Nat}(h:ItQ s d o i)(y:i<=j):ItQ s d o j:=⟨h.own,λa m=>pH (h.len a m) y⟩
theorem ItQ.set{s:St}{d z:Dfn}{o G:DOwn}{i j k:Nat}{a:eR}(h:ItQ s d o i)(B:cO z G=(cO d o).set k a)(m:OwnOk s ((cO d o).set k a))(M:i<=j)(H:a.2.1<=j):ItQ s z G j :=
 ⟨by rw [B]; exact m,fun b y => by
  rw[B]at y;rcases aAg y with y|rfl
  .exact pH (h.len b y) M
  .exact H⟩
attribute [go_sem] cU
section
variable {T:List Tok} {fin:Fault} {d:Dfn} {o:DOwn} {first:Tok} {i n:Nat} {s:St} {r:Nat} {KV Kp:St->A->Prop}
theorem GrQ.setT{α:Type}{m y r:Nat}{s:St}{acc:List α}{tk:Option Nat}{i t:Nat}{v:Nat × TypeId}(h:GrQ m y r s acc tk i)(B:tk≠some t):GrQ m y r (s.setT t v) acc tk i :=
 ⟨h.len,h.h1,h.h3,h.ne,h.nil,λu z=>by rw[dC,aD (λe=>B (by rw[z,e]))];exact h.free u z⟩
theorem GrQ.unT{α:Type}{m y r:Nat}{s:St}{acc:List α}{tk:Option Nat}{i t:Nat}{v:Nat × TypeId}(h:GrQ m y r (s.setT t v) acc tk i):tk≠some t/\∀u,tk=some u->s.getT u=none:=by
 have z:tk≠some t:=λe=>by
  have:=h.free t e;rw[dC,aF rfl]at this;cases this
 refine⟨z,λu B=>?_⟩;have:=h.free u B;rw[dC]at this;split at this
 .cases this
 .exact this
theorem GrQ.dropT{α:Type}{m y r:Nat}{s:St}{acc:List α}{tk:Option Nat}{i t:Nat}{v:Nat × TypeId}(h:GrQ m y r (s.setT t v) acc tk i):GrQ m y r s acc tk i :=
 ⟨h.len,h.h1,h.h3,h.ne,h.nil,h.unT.2⟩
theorem aLp{α:Type}{y z r:Nat}{s X:St}{acc:List α}{tk:Option Nat}{i n t:Nat}{e:TypeId}(h:GrQ y z r s acc tk i)(m:(gs X tk n e).getT t=none)(B:X.getT t=s.getT t:=by rfl):tk≠some t/\s.getT t=none:=by
 rw[gK]at m;split at m
 .cases m
 .rename_i e;exact⟨e,by rw[<-B];exact m⟩
theorem aK9{X:St}{r:Nat}{x:Ob}{tk:Option Nat}{n t:Nat}{e:TypeId}{v u:Nat × TypeId}(h:tk≠some t):((gs ((X.setT t v).setO r x) tk n e).setT t u).ge (gs ((X.setT t u).setO r x) tk n e):=by
 refine⟨λb o ho=>by rw[nW];rw[cS]at *;exact ho,λc m B=>?_,λy G=>by cases tk<;>exact G⟩;rw[gK,getT_setO,dC]at B;rw[dC,gK,getT_setO,dC];by_cases z:t=c
 .subst z;rw[aD h,aF rfl]at B;rw[aF rfl];exact B
 .rw[aD z]at B⊢;rw[aD z];exact B
theorem aJX{X:St}{r:Nat}{x:Ob}{tk:Option Nat}{n t:Nat}{e:TypeId}{v:Nat × TypeId}(h:X.getT t=none):(gs ((X.setT t v).setO r x) tk n e).ge (gs (X.setO r x) tk n e) :=
 aGq (λb o ho=>ho) (λy H=>H) (λc m _ G=>by
  show(X.setT t v).getT c=some m;have z:X.getT c=some m:=G;rw[dC];by_cases B:t=c
  .subst B;rw[h]at z;cases z
  .rw[aD B];exact z)
theorem aRz(hT:TOk T)(t:Tok)(w:List Tok)(hw:T.drop i=t::w)(hQ:ItQ s d o i)(hn:n<=2000)
  (O : (zL false fin d t w n).to (fun d' w n' => ∀ j o',i + 1 ≤ j → j ≤ T.length → T.drop j = w → n' ≤ 2000 → ItQ s d' o' j → KV (lX T fin first r s d' o' j n') (.tuple []))
   (λf=>∀s1 x,s1.gx s r->s1.getO r=some x->Kp s1 (.iface 36 f.enc))):Den cx 229 [.ptr r 0,t.enc] KV Kp (lX T fin first r s d o i n):=by
 obtain⟨g1,g2,g3,g4⟩:=mD hw;have hi:i<=T.length:=by omega
 have bn:=hT.len;have G:=hQ.own;have bj:=G.free;have bc:nA (gv o.on (d.once.map Cel.enc))=some (.int .i64 (d.once.map Cel.enc).length):=pP (by rw[aO];exact xB G (k:=6) rfl);have b5:∀x:aC,dO x (T.drop i)=gL t x:=λx=>by rw[hw];rfl
 simp only[go_sem];(refine aN func229 [0,1,2,4,5,12,27,42,70] ?_;simp only[go_sem,ntmps229,f229]);unfold lX;(refine kD λb2 m=>?_);simp only[go_sem,aT,m];(refine kD λb3 z=>?_);simp only[go_sem,aT,m,z];(refine kD λb4 B=>?_);simp only[go_sem,aT,m,z,B];refine oM (d:=cU d o) (T:=T) (fin:=fin) (first:=first) (i:=i) (n:=n) _ gH hi ?_;rw[b5];cases c1:gL t [115,116,97,114,116];rotate_left
 ·
  rw[zL,aF c1]at O;simp only[go_sem,aT,m,z,B];refine aGE hT b2 _ (d:=cU d o) (T:=T) (fin:=fin) (first:=first) (i:=i) (n:=n) gH gH g2 ?_;cases cs:decide (d.start=[])
  .rw[aD (gQ cs),eP]at O;rw[hw];exact dV bC O
  rw[aF (gQ cs),bY,<-g3]at O;simp only[fP];simp only[go_sem,aT,m,z,B];(refine bD (OT.r 0 6) [(2,[0])] ?_;simp only[go_sem,aT,m,z,B]);refine iR (d:=cU d o) (T:=T) (fin:=fin) (first:=first) (i:=i+1) (n:=n) gH g2 hT (bE O (λx w2 m2 M U Z b1=>?_) (λf h=>dV bC h));rw[cL]at M;subst m2;simp only[go_sem,aT,m,z,B];have S:=M (i+1+1) o aB U Z hn ⟨hQ.own,λa ha=>pH (hQ.len a ha) aB⟩;refine aG S ?_;refine kT (l:=cO d o) ?_;simp only[cU];exact cD
 simp only[go_sem,aT,m,z,B];refine oM (d:=cU d o) (T:=T) (fin:=fin) (first:=first) (i:=i) (n:=n) _ gH hi ?_;rw[b5];cases c2:gL t [119,97,116,99,104];rotate_left
 ·
  rw[zL,aD (by simp[c1]),aF c2]at O;simp only[go_sem,aT,m,z,B];refine aGE hT b2 _ (d:=cU d o) (T:=T) (fin:=fin) (first:=first) (i:=i) (n:=n) gH gH g2 ?_;cases cs:decide (d.watch=[])
  .rw[aD (gQ cs),eP]at O;rw[hw];exact dV bC O
  rw[aF (gQ cs),bY,<-g3]at O;simp only[fP];simp only[go_sem,aT,m,z,B];(refine bD (OT.r 0 6) [(2,[0])] ?_;simp only[go_sem,aT,m,z,B]);refine iR (d:=cU d o) (T:=T) (fin:=fin) (first:=first) (i:=i+1) (n:=n) gH g2 hT (bE O (λx w2 m2 M U Z b1=>?_) (λf h=>dV bC h));rw[cL]at M;subst m2;simp only[go_sem,aT,m,z,B];have S:=M (i+1+1) o aB U Z hn ⟨hQ.own,λa ha=>pH (hQ.len a ha) aB⟩;refine aG S ?_;refine kT (l:=cO d o) ?_;simp only[cU];exact cD
 simp only[go_sem,aT,m,z,B];refine oM (d:=cU d o) (T:=T) (fin:=fin) (first:=first) (i:=i) (n:=n) _ gH hi ?_;rw[b5];cases c3:gL t [99,101,108,108];rotate_left
 ·
  rw[zL,aD (by simp[c1]),aD (by simp[c2]),aF c3]at O;simp only[go_sem,aT,m,z,B];(refine bD (OT.r 0 7) [] ?_;simp only[go_sem,aT,m,z,B,bc]);refine nM (d:=cU d o) (T:=T) (fin:=fin) (first:=first) (i:=i) (n:=n) _ _ gH hi ?_;by_cases b9:12<=d.once.length
  .rw[aF b9,eP]at O;rw[aF (by(try simp only[aO]);omega),hw];exact dV bC O
  rw[aD b9,bY,<-g3]at O;rw[aD (by(try simp only[aO]);omega)];simp only[go_sem,aT,m,z,B,aU i aB];(refine bD (OT.r 0 12) [(6,[0,1,4]),(8,[0])] ?_;simp only[go_sem,aT,m,z,B]);refine aDE (d:=cU d o) (T:=T) (fin:=fin) (first:=first) (i:=i+1) (n:=n) hT gH g2 hn (bE O (λx w2 m2 M j hj b0 Z b1=>?_) (λf h=>dV bC h));rw[cL]at M;simp only[go_sem,aT,m,z,B];refine⟨by decide,λy hy=>by simp only[bO]at hy;subst hy;rfl,dU rfl rfl (by rw[aO];refine qS G (k:=6) (o:=(o.on,d.once.length,96)) rfl ?_;exactλ_=>rfl) (λy hy=>?_) (by have:=hQ.len (o.on,d.once.length,96) (by simp[cO]);simp only[aO,aV,aZ];simp only at this;omega) (λu hu=>?_)⟩
  .simp only[cN]at hy;obtain⟨q,_,rfl⟩:=hy;rfl
  have H:=pN G (k:=6) (o:=(o.on,d.once.length,96)) rfl hu (λ_=>rfl) (d.once.length+1);simp only[go_sem,aT,m,z,B];have S:=M j { o with on:=some u } aB b0 Z b1 (ItQ.set (k:=6) hQ (by simp[cO]) H aB (by have:=hQ.len (o.on,d.once.length,96) (by simp[cO]);simp only at this⊢;omega));refine aG S (St.ge.trans (pL G (k:=6) (o:=(o.on,d.once.length,96)) rfl H (λ_=>rfl)) ?_);unfold lX;rw[show cO { d with once:=d.once++[x] } { o with on:=some u }=(cO d o).set 6 (some u,d.once.length+1,96)by simp[cO]];refine kT ?_;simp only[cU,eK,bU,bX,dL];exact cD
 simp only[go_sem,aT,m,z,B];refine oM (d:=cU d o) (T:=T) (fin:=fin) (first:=first) (i:=i) (n:=n) _ gH hi ?_;rw[b5];cases c4:gL t [109,97,110,121];rotate_left
 ·
  rw[zL,aD (by simp[c1]),aD (by simp[c2]),aD (by simp[c3]),aF c4]at O;simp only[go_sem,aT,m,z,B];refine aGE hT b2 _ (d:=cU d o) (T:=T) (fin:=fin) (first:=first) (i:=i) (n:=n) gH gH g2 ?_;cases cs:decide (d.kind=[])
  .rw[aD (gQ cs),eP]at O;rw[hw];exact dV bC O
  rw[aF (gQ cs),bY,<-g3]at O;simp only[fP];simp only[go_sem,aT,m,z,B];(refine bD (OT.r 0 6) [(2,[0])] ?_;simp only[go_sem,aT,m,z,B]);refine iR (d:=cU d o) (T:=T) (fin:=fin) (first:=first) (i:=i+1) (n:=n) gH g2 hT (bE O (λx w2 m2 M U Z b1=>?_) (λf h=>dV bC h));subst m2;rw[<-Z,bY]at M;simp only[go_sem,aT,m,z,B];refine fQ (d:=cU { d with kind:=x } o) (T:=T) (fin:=fin) (first:=first) (i:=i+1+1) (n:=n) _ gH U hT (bE M (λ_ w3 m3 S bg bt c7=>?_) (λf h=>dV bC h));subst m3;rw[<-bt,bY]at S;simp only[go_sem,aT,m,z,B];have b7:(dR (((s.setO b2 (.cells 153 [.ptr r 0])).setO b3 (.cells 209 t.cs)).setO b4 (.cells 237 [.ptr r 6])) ((cO d o).set 7 (none,0,68))).getO b2=some (.cells 153 [.ptr r 0]):=by simp only[aT,aL,B,z,cZ,dF]
  have b8:(dR (((s.setO b2 (.cells 153 [.ptr r 0])).setO b3 (.cells 209 t.cs)).setO b4 (.cells 237 [.ptr r 6])) ((cO d o).set 7 (none,0,68))).getO b4=some (.cells 237 [.ptr r 6]):=by simp only[aT,aL,dF]
  have bb:∀a,a∈(cO d o).set 7 (none,0,68)->∀u,a.1=some u->s.getT u=none:=λa ha u hu=>by
   rcases aAg ha with ha|rfl
   .exact bj a ha u hu
   .cases hu
  have bk:(dR (((s.setO b2 (.cells 153 [.ptr r 0])).setO b3 (.cells 209 t.cs)).setO b4 (.cells 237 [.ptr r 6])) ((cO d o).set 7 (none,0,68))).gx s r:=by
   refine aHb bb ?_;exact bC
  have c6:d.many.length<=i:=by have:=hQ.len (o.ma,d.many.length,96) (by simp[cO]);exact this
  refine iH (s':=qD T fin (cU { d with kind:=x } o) first r (dR (((s.setO b2 (.cells 153 [.ptr r 0])).setO b3 (.cells 209 t.cs)).setO b4 (.cells 237 [.ptr r 6])) ((cO d o).set 7 (none,0,68))) d.many o.ma (i+1+1+1) n) ?_ (aFK (fin:=fin) (σ:=List Cel) (α:=Unit) (X:=Option Nat) (r:=r) (λ_=>.bool true) (λ_=>rfl) (λ_=>rfl) hT
   (λs' acc tk i n=>qD T fin (cU { d with kind:=x } o) first r s' acc tk i n) (λs' acc tk i=>GrQ b2 b4 r s' acc tk i) (λacc w n=>((qZ fin 12 acc.length w n λw n=>zN false fin w n).bind λa w n=>.ok (acc++[a]) w n).bind λa w n=>.ok (a,()) w n) 267 [] [.ptr b2 0,.ptr b4 0]
   (λs' a x i n=>⟨_,first,by unfold qD;rw[cS,aL,aF rfl],by unfold qD;rw[aCf,qP];exact aE _⟩) (λs' a x i n t v h ht=>?_) (λs' a x i n t v u ht h=>?_) (λs' a x i n t v ht h=>⟨h.dropT,aJX ht⟩)
   (λs' a x i h=>⟨by have:=h.len;omega,h.h1,h.h3,h.ne,h.nil,h.free⟩) (λs' a x i n h=>iK (eW (fN _ _)) h.free)
   (λs' a x i n c0 c5 h bl bq bd=>aRG hT b2 b4 a x h bl bq ?_)
   d.many o.ma (i+1+1+1) n ?_ bg hn ?_)
  .refine St.ge.trans (b:=dR ((((s.setO b2 (.cells 153 [.ptr r 0])).setO b3 (.cells 209 t.cs)).setO b4 (.cells 237 [.ptr r 6])).setO r (bI T fin (cU { d with kind:=x } o) first (i+1+1+1) n)) (cO d o)) (kT cD) ?_;unfold qD;rw[yU];exact aKG G (k:=7) (o:=(o.ma,d.many.length,96)) rfl 0 68
  .have hx:=aLp h ht;exact⟨hx.2,h.setT hx.1,aGS hx.1⟩
  .have hx:=h.unT;exact⟨by show(gs _ _ _ _).getT t=_;rw[gK,aD hx.1];show(s'.setT t v).getT t=_;rw[dC,aF rfl],h.dropT.setT hx.1,aK9 hx.1⟩
  .rw[bY,bY]at bd;exact bE bd (λa w n h2 j y hj b0 hw hn hy=>h2 j y aB b0 hw hn hy) (λ_ h=>h)
  .refine⟨by omega,b7,b8,⟨m.1.2,B.2.2.1.2⟩,λe=>eS (G.nil (o.ma,d.many.length,96) (by simp[cO]) e),λu hu=>(by refine aMj G (k:=7) (o:=(o.ma,d.many.length,96)) rfl 0 68 ?_ hu;exactλ_=>rfl)⟩
  refine bE (aDu _ _ _ _ _ [] _ _ _ _ S) (λc w4 m4 b6 j y hj b0 bv bp hy=>?_) (λf h s1 x hg br=>aP (h _ _ (hg.trans bk) br));obtain⟨l,ul⟩:=c;simp only at b6 hy⊢;subst bv;rw[bY]at b6;have H:OwnOk s ((cO d o).set 7 (y,l.length,96)):=by refine aK7 G (k:=7) (by simp[cO]) 0 96 68 ?_ hy.free (λe=>by rw[hy.nil e];rfl);exactλ_=>rfl
  unfold qD;simp only[go_sem,aT,m,z,B];refine iH (aLe (l:=cO d o) (k:=7) (by simp[cO]) H 0 68) ?_;have bz:=H.free;refine fQ (d:=cU { d with kind:=x,many:=l } { o with ma:=y }) (T:=T) (fin:=fin) (first:=first) (i:=j) (n:=m4) _ gH b0 hT (bE b6 (λ_ w5 m5 bf bh bw c8=>?_) (λf h=>dV bC h));subst m5;rw[cL]at bf;simp only[go_sem,aT,m,z,B];have bm:=bf (j+1) { o with ma:=y } aB bh bw bp (ItQ.set (k:=7) (a:=(y,l.length,96)) hQ (by simp[cO]) H aB (by have:=hy.len;simp only;omega));refine aG bm ?_;unfold lX;rw[show cO { d with kind:=x,many:=l } { o with ma:=y }=(cO d o).set 7 (y,l.length,96)by simp[cO]];refine kT ?_;simp only[cU];exact cD
 rw[zL,aD (by simp[c1]),aD (by simp[c2]),aD (by simp[c3]),aD (by simp[c4]),eP]at O;simp only[go_sem,aT,m,z,B];refine qQ (d:=cU d o) (T:=T) (fin:=fin) (first:=first) (i:=i) (n:=n) 11 gH hi hT ?_;rw[hw];exact aP (O _ (bI T fin (cU d o) first i n) bC gH)
end
end
section
theorem aKp(fin:Fault):∀(f:Nat) (acc:List aC) (w:List Tok) (n:Nat),
  (eY fin [44] (λacc w n=>(gI fin w n).bind λa w n=>.ok (acc++[a]) w n) f acc w n).to (λl w' _=>l.length+w'.length<=acc.length+w.length) (λ_=>True)
 | 0,acc,w,n=>trivial
 | f+1,acc,w,n=>by
  rw[eY,bY,bY];cases w with
  | nil=>trivial
  | cons t w =>
   simp only[gI];split
   .simp only[cL];split
    .refine bE (aKp fin f _ w.tail n) (λl w' _ h=>?_) (λ_ h=>h);simp only[aH,aV,aZ,List.length_tail]at h⊢;omega
    .simp only[cL,aH,aV,aZ];omega
   ·trivial
section
variable {T:List Tok} {fin:Fault} {d:Dfn} {o:DOwn} {first:Tok} {i n:Nat} {s:St} {r:Nat} {KV Kp:St->A->Prop}
theorem aS9(hT:TOk T)(hi:i<=T.length)(hQ:ItQ s d o i)(hn:n<=2000)
  (hk : (aHB false fin d (T.drop i) n).to (fun d' w n' => ∀ j o',i + 1 ≤ j → j ≤ T.length → T.drop j = w → n' ≤ 2000 → ItQ s d' o' j → KV (lX T fin first r s d' o' j n') (.tuple []))
   (λf=>∀s1 x,s1.gx s r->s1.getO r=some x->Kp s1 (.iface 36 f.enc))):Den cx 180 [.ptr r 0] KV Kp (lX T fin first r s d o i n):=by
 have cq:=hT.len;have M:=hQ.own;have cn:=M.free;have L0:=hQ.len (o.so,d.sig.sorts.length,9) (by simp[cO]);have L1:=hQ.len (o.be,d.sig.below.length,112) (by simp[cO]);have L2:=hQ.len (o.op,d.sig.ops.length,80) (by simp[cO]);have L3:=hQ.len (o.fu,d.sig.funs.length,80) (by simp[cO]);have L4:=hQ.len (o.va,d.sig.values.length,9) (by simp[cO]);have L5:=hQ.len (o.eq,d.eqs.length,69) (by simp[cO]);have L8:=hQ.len (o.ru,d.rules.length,50) (by simp[cO]);simp only at L0 L1 L2 L3 L4 L5 L8;have G1:nA (gv o.be (d.sig.below.map Below.enc))=some (.int .i64 (d.sig.below.map Below.enc).length):=pP (by rw[aO];exact xB M (k:=1) rfl);have G2:nA (gv o.op (d.sig.ops.map Opr.enc))=some (.int .i64 (d.sig.ops.map Opr.enc).length):=pP (by rw[aO];exact xB M (k:=2) rfl);have G3:nA (gv o.fu (d.sig.funs.map Opr.enc))=some (.int .i64 (d.sig.funs.map Opr.enc).length):=pP (by rw[aO];exact xB M (k:=3) rfl);have G5:nA (gv o.eq (d.eqs.map Eqn.enc))=some (.int .i64 (d.eqs.map Eqn.enc).length):=pP (by rw[aO];exact xB M (k:=5) rfl);have G8:nA (gv o.ru (d.rules.map Rul.enc))=some (.int .i64 (d.rules.map Rul.enc).length):=pP (by rw[aO];exact xB M (k:=8) rfl);(refine aN func180 [0,1,2,3,4,5,14,20,59,76,107,134,177] ?_;simp only[go_sem,ntmps180,f180]);unfold lX;(refine kD λb1 m=>?_);simp only[go_sem,aT,m];refine kP (d:=cU d o) (T:=T) (fin:=fin) (first:=first) (i:=i) (n:=n) gH hi ?_;cases hw:T.drop i with
 | nil=>rw[hw]at hk;exact aP (hk _ (bI T fin (cU d o) first i n) bC gH)
 | cons t w =>
  obtain⟨g1,g2,g3,g4⟩:=mD hw;have bj:∀x:aC,dO x (T.drop i)=gL t x:=λx=>by rw[hw];rfl
  rw[hw]at hk;simp only[aHB,bY]at hk;simp only[go_sem,aT,m];(refine kD λb2 B=>?_);simp only[go_sem,aT,m,B];(refine kD λb3 G=>?_);simp only[go_sem,aT,m,B,G];refine jV (d:=cU d o) (T:=T) (fin:=fin) (first:=first) (i:=i) (n:=n) _ gH hi hT ?_;rw[bj];cases c1:gL t [115,111,114,116];rotate_left
  .rw[aF c1,bY,<-g3]at hk;simp only;simp only[go_sem,aT,m,B,G];have bz:(dR (((s.setO b1 (.cells 153 [.ptr r 0])).setO b2 (.cells 209 t.cs)).setO b3 (.cells 237 [.ptr r 6])) ((cO d o).set 0 (none,0,9))).getO b1=some (.cells 153 [.ptr r 0]):=by simp only[aT,aL,G,B,cZ,dF]
   have c0:(dR (((s.setO b1 (.cells 153 [.ptr r 0])).setO b2 (.cells 209 t.cs)).setO b3 (.cells 237 [.ptr r 6])) ((cO d o).set 0 (none,0,9))).getO b3=some (.cells 237 [.ptr r 6]):=by simp only[aT,aL,dF]
   have c9:∀a,a∈(cO d o).set 0 (none,0,9)->∀u,a.1=some u->s.getT u=none:=λa ha u hu=>by
    rcases aAg ha with ha|rfl
    .exact cn a ha u hu
    .cases hu
   have cp:(dR (((s.setO b1 (.cells 153 [.ptr r 0])).setO b2 (.cells 209 t.cs)).setO b3 (.cells 237 [.ptr r 6])) ((cO d o).set 0 (none,0,9))).gx s r:=by
    refine aHb c9 ?_;exact bC
   refine iH (s':=qB T fin (cU d o) first r (dR (((s.setO b1 (.cells 153 [.ptr r 0])).setO b2 (.cells 209 t.cs)).setO b3 (.cells 237 [.ptr r 6])) ((cO d o).set 0 (none,0,9))) d.sig.sorts o.so (i+1) n) ?_ (aFK (fin:=fin) (σ:=List aC) (α:=Unit) (X:=Option Nat) (r:=r) (λ_=>.bool true) (λ_=>rfl) (λ_=>rfl) hT
    (λs' acc tk i n=>qB T fin (cU d o) first r s' acc tk i n) (λs' acc tk i=>GrQ b1 b3 r s' acc tk i) (λacc w n=>((qZ fin 40 acc.length w n λw n=>gI fin w n).bind λa w n=>.ok (acc++[a]) w n).bind λa w n=>.ok (a,()) w n) 220 [] [.ptr b1 0,.ptr b3 0]
    (λs' a x i n=>⟨_,first,by unfold qB;rw[cS,aL,aF rfl],by unfold qB;rw[aCf,qP];exact aE _⟩) (λs' a x i n t v h ht=>?_) (λs' a x i n t v u ht h=>?_) (λs' a x i n t v ht h=>⟨h.dropT,aJX ht⟩)
    (λs' a x i h=>⟨by have:=h.len;omega,h.h1,h.h3,h.ne,h.nil,h.free⟩) (λs' a x i n h=>iK (eW (fN _ _)) h.free)
    (λs' a x i n cl cm h bt bw bq=>aRp hT b1 b3 a x h bt bw ?_)
    d.sig.sorts o.so (i+1) n ?_ g2 hn ?_)
   .refine St.ge.trans (b:=dR ((((s.setO b1 (.cells 153 [.ptr r 0])).setO b2 (.cells 209 t.cs)).setO b3 (.cells 237 [.ptr r 6])).setO r (bI T fin (cU d o) first (i+1) n)) (cO d o)) (kT cD) ?_;unfold qB;rw[yU];exact aKG M (k:=0) (o:=(o.so,d.sig.sorts.length,9)) rfl 0 9
   .have hx:=aLp h ht;exact⟨hx.2,h.setT hx.1,aGS hx.1⟩
   .have hx:=h.unT;exact⟨by show(gs _ _ _ _).getT t=_;rw[gK,aD hx.1];show(s'.setT t v).getT t=_;rw[dC,aF rfl],h.dropT.setT hx.1,aK9 hx.1⟩
   .rw[bY,bY]at bq;exact bE bq (λa w n h2 j y hj b8 hw hn Z=>h2 j y aB b8 hw hn Z) (λ_ h=>h)
   .refine⟨by omega,bz,c0,⟨m.1.2,G.2.2.1.2⟩,λe=>eS (M.nil (o.so,d.sig.sorts.length,9) (by simp[cO]) e),λu hu=>(by refine aMj M (k:=0) (o:=(o.so,d.sig.sorts.length,9)) rfl 0 9 ?_ hu;exactλ_=>rfl)⟩
   refine bE (aDu _ _ _ _ _ [] _ _ _ _ hk) (λc w4 m4 bd j y hj b8 bp br Z=>?_) (λf h s1 x hg bl=>aP (h _ _ (hg.trans cp) bl));obtain⟨l,ul⟩:=c;simp only at bd Z⊢;subst bp;rw[cL]at bd;have H:OwnOk s ((cO d o).set 0 (y,l.length,9)):=by refine aK7 M (k:=0) (by simp[cO]) 0 9 9 ?_ Z.free (λe=>by rw[Z.nil e];rfl);exactλ_=>rfl
   unfold qB;simp only[go_sem,aT,m,B,G];refine iH (aLe (l:=cO d o) (k:=0) (by simp[cO]) H 0 9) ?_;have b7:=H.free;refine fQ (d:=cU { d with sig:={ d.sig with sorts:=l } } { o with so:=y }) (T:=T) (fin:=fin) (first:=first) (i:=j) (n:=m4) _ gH b8 hT (bE bd (λ_ w9 m9 S U b6 bh=>?_) (λf h=>dV bC h));subst m9;rw[cL]at S;simp only[go_sem,aT,m,B,G];have O:=S (j+1) { o with so:=y } aB U b6 br (ItQ.set (k:=0) (a:=(y,l.length,9)) hQ (by simp[cO]) H aB (by have:=Z.len;simp only;omega));refine aG O ?_;unfold lX;rw[show cO { d with sig:={ d.sig with sorts:=l } } { o with so:=y }=(cO d o).set 0 (y,l.length,9)by simp[cO]];refine kT ?_;simp only[cU,eK,bU,bX,dL];exact cD
  rw[aD (by simp[c1])]at hk;simp only;simp only[go_sem,aT,m,B,G];refine oM (d:=cU d o) (T:=T) (fin:=fin) (first:=first) (i:=i) (n:=n) _ gH hi ?_;rw[bj];simp only[go_sem,aT,m,B,G];cases c2:gL t [115,117,98,115,111,114,116];rotate_left
  .rw[aF c2,aAw,eP]at hk;simp only[go_sem,aT,m,B,G];(refine bD (OT.r 0 8) [] ?_;simp only[go_sem,aT,m,B,G,G1]);refine nM (d:=cU d o) (T:=T) (fin:=fin) (first:=first) (i:=i) (n:=n) _ _ gH hi ?_;by_cases hm:200<=d.sig.below.length
   .rw[aF hm]at hk;rw[aF (by(try simp only[aO]);omega),hw];exact dV bC hk
   rw[aD hm,bY,<-g3]at hk;rw[aD (by(try simp only[aO]);omega)];simp only[go_sem,aT,m,B,G,aU i aB];refine iR (d:=cU d o) (T:=T) (fin:=fin) (first:=first) (i:=i+1) (n:=n) gH g2 hT (bE hk (λx w2 m2 b0 cj b9 bc=>?_) (λf h=>dV bC h));subst m2;rw[<-b9,bY]at b0;simp only[go_sem,aT,m,B,G];(refine kD λb4 bg=>?_);simp only[go_sem,aT,m,B,G,bg];refine fQ (d:=cU d o) (T:=T) (fin:=fin) (first:=first) (i:=i+1+1) (n:=n) _ gH cj hT (bE b0 (λ_ w3 m3 bb bk bn bv=>?_) (λf h=>dV bC h));subst m3;rw[<-bn,bY]at bb;simp only[go_sem,aT,m,B,G,bg];refine iR (d:=cU d o) (T:=T) (fin:=fin) (first:=first) (i:=i+1+1+1) (n:=n) gH bk hT (bE bb (λy w4 m4 bd ck bp br=>?_) (λf h=>dV bC h));subst m4;rw[<-bp,cL]at bd;simp only[go_sem,aT,m,B,G,bg];(refine bD (OT.r 0 13) [(8,[0])] ?_;simp only[go_sem,aT,m,B,G,bg])
   (try simp only[go_sem,aT,m,B,G,bg])
   refine⟨by decide,λy Z=>by simp only[bO]at Z;subst Z;rfl,dU rfl rfl (by rw[aO];refine qS M (k:=1) (o:=(o.be,d.sig.below.length,112)) rfl ?_;exactλ_=>rfl) (λy Z=>?_) (by simp only[aO,aV,aZ];omega) (λu hu=>?_)⟩
   .simp only[cN]at Z;obtain⟨q,_,rfl⟩:=Z;rfl
   have H:=pN M (k:=1) (o:=(o.be,d.sig.below.length,112)) rfl hu (λ_=>rfl) (d.sig.below.length+1);simp only[go_sem,aT,m,B,G,bg];refine iH (pL M (k:=1) (o:=(o.be,d.sig.below.length,112)) rfl H (λ_=>rfl)) ?_;have b7:=H.free;refine fQ (d:={ cU d o with below:=.list (some u) (d.sig.below.map Below.enc++[Below.enc ⟨x,y⟩]) }) (T:=T) (fin:=fin) (first:=first) (i:=i+1+1+1+1) (n:=n) _ gH ck hT (bE bd (λ_ w9 m9 S U b6 bh=>?_) (λf h=>dV bC h));subst m9;rw[cL]at S;simp only[go_sem,aT,m,B,G,bg];have O:=S (i+1+1+1+1+1) { o with be:=some u } aB U b6 hn (ItQ.set (k:=1) (a:=(some u,d.sig.below.length+1,112)) hQ (by simp[cO]) H aB aQ);refine aG O ?_;unfold lX;rw[show cO { d with sig:={ d.sig with below:=d.sig.below++[⟨x,y⟩] } } { o with be:=some u }=(cO d o).set 1 (some u,d.sig.below.length+1,112)by simp[cO]];refine kT ?_;simp only[cU,eK,bU,bX,dL];exact cD
  rw[aD (by simp[c2])]at hk;simp only[go_sem,aT,m,B,G];refine jV (d:=cU d o) (T:=T) (fin:=fin) (first:=first) (i:=i) (n:=n) _ gH hi hT ?_;rw[bj];cases c3:gL t [118,97,108,117,101];rotate_left
  .rw[aF c3,bY,<-g3]at hk;simp only;simp only[go_sem,aT,m,B,G];(refine bD (OT.r 0 15) [(9,[0,1,5]),(10,[0])] ?_;simp only[go_sem,aT,m,B,G])
   refine iH (St.ge_same gH) (aOd (fin:=fin) (d:=cU d o) (fi:=first) (λx:aC=>A.str x) (λ_=>rfl) (λ_=>rfl) hT (λ_=>True) (λ_ _ _=>Iff.rfl) (gI fin) 179 [.ptr r 0] []
    (aEi (λ_ _ h=>h) (λs' i' n' cl cm ct _ bt bw bq=>iR ct bt hT (bE bq (λ_ _ _ h h1 h2 h3=>by subst h3;exact h (i'+1) aB h1 h2 bw) (λ_ h=>h)))) (i+1) n trivial g2 hn ?_)
   refine bE (aGb hk (aKp _ _ _ _ _)) (λl w3 m3 bb j3 f0 cd bn bv=>?_) (λf h s1 o hg bl=>aP (h _ o (hg.trans bC) bl));obtain⟨hl,bb⟩:=bb;subst bn;simp only[aZ,dS]at hl;rw[cL]at bb;simp only[go_sem,aT,m,B,G];refine⟨by decide,λy Z=>by simp only[cN]at Z;obtain⟨q,_,rfl⟩:=Z;rfl,dU rfl rfl (by rw[aO];refine qS M (k:=4) (o:=(o.va,d.sig.values.length,9)) rfl ?_;exactλ_=>rfl) (λy Z=>?_) (by simp only[aO];omega) (λu hu=>?_)⟩
   .simp only[cN]at Z;obtain⟨q,_,rfl⟩:=Z;rfl
   have H:=pN M (k:=4) (o:=(o.va,d.sig.values.length,9)) rfl hu (λ_=>rfl) (d.sig.values.length+l.length);simp only[go_sem,aT,m,B,G,aO];refine iH (pL M (k:=4) (o:=(o.va,d.sig.values.length,9)) rfl H (λ_=>rfl)) ?_;have b7:=H.free;refine fQ (d:={ cU d o with values:=.list (some u) (d.sig.values.map A.str++l.map A.str) }) (T:=T) (fin:=fin) (first:=first) (i:=j3) (n:=m3) _ gH cd hT (bE bb (λ_ w9 m9 S U b6 bh=>?_) (λf h=>dV bC h));subst m9;rw[cL]at S;simp only[go_sem,aT,m,B,G];have O:=S (j3+1) { o with va:=some u } aB U b6 bv (ItQ.set (k:=4) (a:=(some u,d.sig.values.length+l.length,9)) hQ (by simp[cO]) H aB aQ);refine aG O ?_;unfold lX;rw[show cO { d with sig:={ d.sig with values:=d.sig.values++l } } { o with va:=some u }=(cO d o).set 4 (some u,d.sig.values.length+l.length,9)by simp[cO]];refine kT ?_;simp only[cU,eK,bU,bX,dL];exact cD
  rw[aD (by simp[c3])]at hk;simp only;simp only[go_sem,aT,m,B,G];refine oM (d:=cU d o) (T:=T) (fin:=fin) (first:=first) (i:=i) (n:=n) _ gH hi ?_;rw[bj];simp only[go_sem,aT,m,B,G];cases c4:gL t [111,112];rotate_left
  .rw[aF (.inl c4),aAw,eP]at hk;simp only[go_sem,aT,m,B,G,c4];have bm:t.text=[111,112]:=by have:=c4;simp[gL]at this;exact this.2
   have d4:decide (t.text=[111,112])=true:=by rw[bm];rfl
   (refine bD (OT.r 0 15) [] ?_;simp only[go_sem,aT,m,B,G,G2,G3,fV ((d.sig.ops.length:Int)+(d.sig.funs.length:Int)) aB aB]);refine nM (d:=cU d o) (T:=T) (fin:=fin) (first:=first) (i:=i) (n:=n) _ _ gH hi ?_;by_cases hm:200<=d.sig.ops.length+d.sig.funs.length
   .rw[aF hm]at hk;rw[aF (by(try simp only[aO]);omega),hw];exact dV bC hk
   rw[aD hm,aF bm,bY,<-g3]at hk;rw[aD (by(try simp only[aO]);omega)];simp only[go_sem,aT,m,B,G,aU i aB,d4];(refine bD (OT.r 0 14) [(7,[0,1,5]),(9,[0])] ?_;simp only[go_sem,aT,m,B,G]);refine aUq (d:=cU d o) (T:=T) (fin:=fin) (first:=first) (i:=i+1) (n:=n) hT gH g2 hn (bE hk (λx w2 m2 b0 j hj b8 b9 bc=>?_) (λf h=>dV bC h));subst b9;rw[cL]at b0;simp only[go_sem,aT,m,B,G];refine⟨by decide,λy Z=>by simp only[bO]at Z;subst Z;rfl,dU rfl rfl (by rw[aO];refine qS M (k:=2) (o:=(o.op,d.sig.ops.length,80)) rfl ?_;exactλ_=>rfl) (λy Z=>?_) (by simp only[aO,aV,aZ];omega) (λu hu=>?_)⟩
   .simp only[cN]at Z;obtain⟨q,_,rfl⟩:=Z;rfl
   have H:=pN M (k:=2) (o:=(o.op,d.sig.ops.length,80)) rfl hu (λ_=>rfl) (d.sig.ops.length+1);simp only[go_sem,aT,m,B,G];refine iH (pL M (k:=2) (o:=(o.op,d.sig.ops.length,80)) rfl H (λ_=>rfl)) ?_;have b7:=H.free;refine fQ (d:={ cU d o with ops:=.list (some u) (d.sig.ops.map Opr.enc++[Opr.enc x]) }) (T:=T) (fin:=fin) (first:=first) (i:=j) (n:=m2) _ gH b8 hT (bE b0 (λ_ w9 m9 S U b6 bh=>?_) (λf h=>dV bC h));subst m9;rw[cL]at S;simp only[go_sem,aT,m,B,G];have O:=S (j+1) { o with op:=some u } aB U b6 bc (ItQ.set (k:=2) (a:=(some u,d.sig.ops.length+1,80)) hQ (by simp[cO]) H aB aQ);refine aG O ?_;unfold lX;rw[show cO { d with sig:={ d.sig with ops:=d.sig.ops++[x] } } { o with op:=some u }=(cO d o).set 2 (some u,d.sig.ops.length+1,80)by simp[cO]];refine kT ?_;simp only[cU,eK,bU,bX,dL];exact cD
  simp only[go_sem,aT,m,B,G,c4];refine oM (d:=cU d o) (T:=T) (fin:=fin) (first:=first) (i:=i) (n:=n) _ gH hi ?_;rw[bj];simp only[go_sem,aT,m,B,G];cases c5:gL t [102,117,110];rotate_left
  .rw[aF (.inr c5),aAw,eP]at hk;simp only[go_sem,aT,m,B,G,c5];have bm:¬ t.text=[111,112]:=by have:=c5;simp[gL]at this;rw[this.2];decide
   have d4:decide (t.text=[111,112])=false:=gQ bm;(refine bD (OT.r 0 15) [] ?_;simp only[go_sem,aT,m,B,G,G2,G3,fV ((d.sig.ops.length:Int)+(d.sig.funs.length:Int)) aB aB]);refine nM (d:=cU d o) (T:=T) (fin:=fin) (first:=first) (i:=i) (n:=n) _ _ gH hi ?_;by_cases hm:200<=d.sig.ops.length+d.sig.funs.length
   .rw[aF hm]at hk;rw[aF (by(try simp only[aO]);omega),hw];exact dV bC hk
   rw[aD hm,aD bm,bY,<-g3]at hk;rw[aD (by(try simp only[aO]);omega)];simp only[go_sem,aT,m,B,G,aU i aB,d4];(refine bD (OT.r 0 14) [(7,[0,1,5]),(9,[0])] ?_;simp only[go_sem,aT,m,B,G]);refine aUb (d:=cU d o) (T:=T) (fin:=fin) (first:=first) (i:=i+1) (n:=n) hT gH g2 hn (bE hk (λx w2 m2 b0 j hj b8 b9 bc=>?_) (λf h=>dV bC h));subst b9;rw[cL]at b0;simp only[go_sem,aT,m,B,G];refine⟨by decide,λy Z=>by simp only[bO]at Z;subst Z;rfl,dU rfl rfl (by rw[aO];refine qS M (k:=3) (o:=(o.fu,d.sig.funs.length,80)) rfl ?_;exactλ_=>rfl) (λy Z=>?_) (by simp only[aO,aV,aZ];omega) (λu hu=>?_)⟩
   .simp only[cN]at Z;obtain⟨q,_,rfl⟩:=Z;rfl
   have H:=pN M (k:=3) (o:=(o.fu,d.sig.funs.length,80)) rfl hu (λ_=>rfl) (d.sig.funs.length+1);simp only[go_sem,aT,m,B,G];refine iH (pL M (k:=3) (o:=(o.fu,d.sig.funs.length,80)) rfl H (λ_=>rfl)) ?_;have b7:=H.free;refine fQ (d:={ cU d o with funs:=.list (some u) (d.sig.funs.map Opr.enc++[Opr.enc x]) }) (T:=T) (fin:=fin) (first:=first) (i:=j) (n:=m2) _ gH b8 hT (bE b0 (λ_ w9 m9 S U b6 bh=>?_) (λf h=>dV bC h));subst m9;rw[cL]at S;simp only[go_sem,aT,m,B,G];have O:=S (j+1) { o with fu:=some u } aB U b6 bc (ItQ.set (k:=3) (a:=(some u,d.sig.funs.length+1,80)) hQ (by simp[cO]) H aB aQ);refine aG O ?_;unfold lX;rw[show cO { d with sig:={ d.sig with funs:=d.sig.funs++[x] } } { o with fu:=some u }=(cO d o).set 3 (some u,d.sig.funs.length+1,80)by simp[cO]];refine kT ?_;simp only[cU,eK,bU,bX,dL];exact cD
  rw[aD (by simp[c4,c5])]at hk;simp only[go_sem,aT,m,B,G,c5];refine oM (d:=cU d o) (T:=T) (fin:=fin) (first:=first) (i:=i) (n:=n) _ gH hi ?_;rw[bj];simp only[go_sem,aT,m,B,G];cases c6:gL t [108,101,116];rotate_left
  .rw[aF c6,aAw,eP]at hk;simp only[go_sem,aT,m,B,G,c6];(refine bD (OT.r 0 7) [] ?_;simp only[go_sem,aT,m,B,G,G5]);refine nM (d:=cU d o) (T:=T) (fin:=fin) (first:=first) (i:=i) (n:=n) _ _ gH hi ?_;by_cases hm:300<=d.eqs.length
   .rw[aF hm]at hk;rw[aF (by(try simp only[aO]);omega),hw];exact dV bC hk
   rw[aD hm,bY,<-g3]at hk;rw[aD (by(try simp only[aO]);omega)];simp only[go_sem,aT,m,B,G,aU i aB];(refine bD (OT.l [0,2,3,4,5,1,6,7,8] .nil) [(1,[3,5]),(7,[0,3,5])] ?_;simp only[go_sem,aT,m,B,G]);refine vG (d:=cU d o) (T:=T) (fin:=fin) (first:=first) (i:=i+1) (n:=n) hT gH g2 hn (bE hk (λx w2 m2 b0 j2 cz cb b9 bc=>?_) (λf h=>dV bC h));subst b9;rw[bY]at b0;simp only[go_sem,aT,m,B,G,cY];(refine kD λb5 bf=>?_);simp only[go_sem,aT,m,B,G,bf];refine fQ (d:=cU d o) (T:=T) (fin:=fin) (first:=first) (i:=j2) (n:=m2) _ gH cb hT (bE b0 (λ_ w3 m3 bb bk bn bv=>?_) (λf h=>dV bC h));subst m3;rw[<-bn,bY]at bb;simp only[go_sem,aT,m,B,G,bf];refine vG (d:=cU d o) (T:=T) (fin:=fin) (first:=first) (i:=j2+1) (n:=m2) hT gH bk bc (bE bb (λy w4 m4 bd j4 f1 cf bp br=>?_) (λf h=>dV bC h));subst bp;rw[bY]at bd;simp only[go_sem,aT,m,B,G,bf,cY];refine aKd (d:=cU d o) (T:=T) (fin:=fin) (first:=first) (i:=j4) (n:=m4) hT gH cf br (bE bd (λz w5 m5 ch j5 f2 cg cw cr=>?_) (λf h=>dV bC h));subst cw;rw[cL]at ch;simp only[go_sem,aT,m,B,G,bf];(refine bD (OT.r 0 11) [(7,[0])] ?_;simp only[go_sem,aT,m,B,G,bf])
   (try simp only[go_sem,aT,m,B,G,bf])
   refine⟨by decide,λy Z=>by simp only[bO]at Z;subst Z;rfl,dU rfl rfl (by rw[aO];refine qS M (k:=5) (o:=(o.eq,d.eqs.length,69)) rfl ?_;exactλ_=>rfl) (λy Z=>?_) (by simp only[aO,aV,aZ];omega) (λu hu=>?_)⟩
   .simp only[cN]at Z;obtain⟨q,_,rfl⟩:=Z;rfl
   have H:=pN M (k:=5) (o:=(o.eq,d.eqs.length,69)) rfl hu (λ_=>rfl) (d.eqs.length+1);simp only[go_sem,aT,m,B,G,bf];refine iH (pL M (k:=5) (o:=(o.eq,d.eqs.length,69)) rfl H (λ_=>rfl)) ?_;have b7:=H.free;refine fQ (d:={ cU d o with eqs:=.list (some u) (d.eqs.map Eqn.enc++[Eqn.enc ⟨x,y,z,t.line,t.col⟩]) }) (T:=T) (fin:=fin) (first:=first) (i:=j5) (n:=m5) _ gH cg hT (bE ch (λ_ w9 m9 S U b6 bh=>?_) (λf h=>dV bC h));subst m9;rw[cL]at S;simp only[go_sem,aT,m,B,G,bf];have O:=S (j5+1) { o with eq:=some u } aB U b6 cr (ItQ.set (k:=5) (a:=(some u,d.eqs.length+1,69)) hQ (by simp[cO]) H aB aQ);refine aG O ?_;unfold lX;rw[show cO { d with eqs:=d.eqs++[⟨x,y,z,t.line,t.col⟩] } { o with eq:=some u }=(cO d o).set 5 (some u,d.eqs.length+1,69)by simp[cO]];refine kT ?_;simp only[cU,eK,bU,bX,dL];exact cD
  rw[aD (by simp[c6])]at hk;simp only[go_sem,aT,m,B,G,c6];refine oM (d:=cU d o) (T:=T) (fin:=fin) (first:=first) (i:=i) (n:=n) _ gH hi ?_;rw[bj];simp only[go_sem,aT,m,B,G];cases c7:gL t [114,117,108,101];rotate_left
  .rw[aF c7,aAw,eP]at hk;simp only[go_sem,aT,m,B,G,c7];(refine bD (OT.r 0 7) [] ?_;simp only[go_sem,aT,m,B,G,G8]);refine nM (d:=cU d o) (T:=T) (fin:=fin) (first:=first) (i:=i) (n:=n) _ _ gH hi ?_;by_cases hm:300<=d.rules.length
   .rw[aF hm]at hk;rw[aF (by(try simp only[aO]);omega),hw];exact dV bC hk
   rw[aD hm,bY,<-g3]at hk;rw[aD (by(try simp only[aO]);omega)];simp only[go_sem,aT,m,B,G,aU i aB];(refine bD (OT.r 0 13) [(7,[0,1,4]),(9,[0])] ?_;simp only[go_sem,aT,m,B,G]);refine aS2 (d:=cU d o) (T:=T) (fin:=fin) (first:=first) (i:=i+1) (n:=n) hT t gH g2 hn (bE hk (λx w2 m2 b0 j hj b8 b9 bc=>?_) (λf h=>dV bC h));subst b9;rw[cL]at b0;simp only[go_sem,aT,m,B,G];refine⟨by decide,λy Z=>by simp only[bO]at Z;subst Z;rfl,dU rfl rfl (by rw[aO];refine qS M (k:=8) (o:=(o.ru,d.rules.length,50)) rfl ?_;exactλ_=>rfl) (λy Z=>?_) (by simp only[aO,aV,aZ];omega) (λu hu=>?_)⟩
   .simp only[cN]at Z;obtain⟨q,_,rfl⟩:=Z;rfl
   have H:=pN M (k:=8) (o:=(o.ru,d.rules.length,50)) rfl hu (λ_=>rfl) (d.rules.length+1);simp only[go_sem,aT,m,B,G];refine iH (pL M (k:=8) (o:=(o.ru,d.rules.length,50)) rfl H (λ_=>rfl)) ?_;have b7:=H.free;refine fQ (d:={ cU d o with rules:=.list (some u) (d.rules.map Rul.enc++[Rul.enc x]) }) (T:=T) (fin:=fin) (first:=first) (i:=j) (n:=m2) _ gH b8 hT (bE b0 (λ_ w9 m9 S U b6 bh=>?_) (λf h=>dV bC h));subst m9;rw[cL]at S;simp only[go_sem,aT,m,B,G];have O:=S (j+1) { o with ru:=some u } aB U b6 bc (ItQ.set (k:=8) (a:=(some u,d.rules.length+1,50)) hQ (by simp[cO]) H aB aQ);refine aG O ?_;unfold lX;rw[show cO { d with rules:=d.rules++[x] } { o with ru:=some u }=(cO d o).set 8 (some u,d.rules.length+1,50)by simp[cO]];refine kT ?_;simp only[cU,eK,bU,bX,dL];exact cD
  rw[aD (by simp[c7])]at hk;simp only[go_sem,aT,m,B,G,c7];refine iH (s':=lX T fin first r (((s.setO b1 (.cells 153 [.ptr r 0])).setO b2 (.cells 209 t.cs)).setO b3 (.cells 237 [.ptr r 6])) d o i n) (kT cD) (aRz hT t w hw ⟨M.to (λ_=>rfl),hQ.len⟩ hn (bE hk (λd2 w2 m2 b0 j o2 hj b8 b9 bc c8=>?_) (λf h s1 x hg bl=>aP (h s1 x (hg.trans bC) bl))));subst b9;have H:OwnOk s (cO d2 o2):=c8.own.to (λ_=>rfl);unfold lX;simp only[go_sem,aT,m,B,G];have b7:=H.free;refine fQ (d:=cU d2 o2) (T:=T) (fin:=fin) (first:=first) (i:=j) (n:=m2) _ gH b8 hT (bE b0 (λ_ w9 m9 S U b6 bh=>?_) (λf h=>dV bC h));subst m9;rw[cL]at S;simp only[go_sem,aT,m,B,G];have O:=S (j+1) o2 aB U b6 bc ⟨H,λa ha=>pH (c8.len a ha) aB⟩;refine aG O (kT ?_);simp only[cU];exact cD
end
end
noncomputable def c40:Code:=match f177.body with
 | some (.seq _ c)=>c
 | _=>.skip
theorem aHc : f177.body = some (.seq (.region 0 #[⟨some 5,.call ⟨.builtin .recover,#[],#[]⟩,20,"parse.go:505",#[],none⟩] false) c40) := rfl
theorem aMR(a:Act)(w:World):(results f177 a.tmps).run cx.P w=.ok (.tuple #[]) w:=by
 have m:results f177 a.tmps=(do let vs <-(#[]:Array ResultVar).mapM (wB a.tmps);pure (if h:vs.size=1 then vs[0] else .tuple vs)):=rfl;rw[m];simp
theorem aMq{P:Program}{Q:Exit->Act->List Frame->World->Prop}{a:Act}{cs:List Frame}{w:World}
  (h : match recoverD cs with
   | some (v,y)=>Q .normal (a.put (some 5) v) y w
   | none=>Q .normal (a.put (some 5) .nilIface) cs w) :
  (Code.region 0 #[⟨some 5,.call ⟨.builtin .recover,#[],#[]⟩,20,"parse.go:505",#[],none⟩] false).wpS P Q a cs w := by
 refine wpS_region ?_;have z : List.range (#[(⟨some 5,.call ⟨.builtin .recover,#[],#[]⟩,20,"parse.go:505",#[],none⟩ : Oper)]).size = [0] := rfl;rw [z];unfold wpOpsS;have ho : (#[(⟨some 5,.call ⟨.builtin .recover,#[],#[]⟩,20,"parse.go:505",#[],none⟩ : Oper)])[0]? = some ⟨some 5,.call ⟨.builtin .recover,#[],#[]⟩,20,"parse.go:505",#[],none⟩ := rfl;rw [ho];simp only;rw [aF (by simp [Region.wanted])];have B : (execOp a.eval ⟨some 5,.call ⟨.builtin .recover,#[],#[]⟩,20,"parse.go:505",#[],none⟩).run P w = .ok .recover w := rfl;rw [B];simp only;cases m : recoverD cs with
 | none=>rw[m]at h;simp only;unfold wpOpsS;exact h
 | some x=>obtain⟨v,y⟩:=x;rw[m]at h;simp only;unfold wpOpsS;exact h
theorem aVg{g:Gh}(vals:Array Value)(m:vals.size=1):EnvOk g 14 [] (vals++Array.replicate (f177.ntmps-vals.size) undef) :=
 .nil (by rw[m];simp[m,f177])
theorem aVb(k:Nat)(w:World):(invoke (.fn (.func 177) #[]) #[.pointer (some ⟨k,0,none⟩)]).run cx.P w=.ok (.enter 177 #[.pointer (some ⟨k,0,none⟩)]) w:=by
 have y:(callFunc 177 #[.pointer (some ⟨k,0,none⟩)]).run prog w=.ok (.enter 177 #[.pointer (some ⟨k,0,none⟩)]) w:=by
  have z : prog.funcs[177]? = some f177 := func177;have m : (f177.name == "runtime.NumGoroutine") = false := rfl;simp only [callFunc,bN,run_program,bM,z,m,dA,↓reduceIte,aHc,qI,cG]
 show(callFunc 177 (#[Value.pointer (some ⟨k,0,none⟩)]++#[])).run prog w=_;rw[Array.append_empty];exact y
section
theorem aU3(s:St):Ex cx 14 c40 (λx _ s'=>x=.normal/\s'=s) [(5,.nili)] s:=by
 refine aX (V:=[0,2,3,4,5,6,7,8,9,10,11,12,13]) _ _ _ _ ?_;simp only[c40,f177];simp only[go_sem]
theorem aU4(s:St)(b:Nat)(m y z B y0 y1 y2 y3:A)(U:s.getO b=some (.cells 36 [y0,y1,y2,y3]))(G:m.one=true)(H:y.one=true)(M:z.one=true)(O:B.one=true) :
  Ex cx 14 c40 (λx _ s'=>x=.normal/\s'.ge (s.setO b (.cells 36 [m,y,z,B]))) [(0,.ptr b 0),(5,.iface 36 (.agg [m,y,z,B]))] s:=by
 refine aX (V:=[0,2,3,4,5,6,7,8,9,10,11,12,13]) _ _ _ _ ?_;simp only[c40,f177];simp only[go_sem,G,H,M,O];intro q Z;have S:=aI U Z;simp only[go_sem,G,H,M,O,S,U];have ho:(m.one&&(y.one&&(z.one&&B.one)))=true:=by rw[G,H,M,O];rfl
 refine⟨ho,ho,?_⟩;exact qW (wU (by simp only[aL,dF]) (aCn bA (wY Z (aAy _ _ _))))
structure CatchC (C:Cx) (h:FuncId) (ft:TypeId):Prop where
 quiet:∀F g s w (p:Value),R C.toCtx F g s w->CallsD C.P h #[p] .returning w λe u' w'=>(∃v,e=.returned v)/\u'=.returning/\∃g',g.le g'/\R C.toCtx F g' s w'
 loud:∀F g s w (b k:Nat) (cs fs:List A) (v:Value),R C.toCtx F g s w->g.beta b=some k->s.getO b=some (.cells ft cs)->Rz g (.agg fs) v->fs.length=cs.length->fs.length=4 ->
  CallsD C.P h #[.pointer (some ⟨k,0,none⟩)] (.panicking [{ v:=.iface ft v,recovered:=false }]) w λe u' w'=>(∃v,e=.returned v)/\settle u'=.returning /\
   ∃g',g.le g'/\R C.toCtx F g' (s.setO b (.cells ft fs)) w'
theorem aQ1:CatchC cx 177 36 where
 quiet:=by
  intro F g s w p hR;refine callsD_of_wpS (fn:=f177) func177 aHc λm cs U=>?_
  refine wpS_seq (aMq ?_);have z:recoverD (m::cs)=none:=by simp[recoverD,U]
  rw[z];refine wpS_of_wp ?_;have hE:=(aVg (g:=g) #[p] rfl).put (a:=⟨_,[]⟩) (d:=5) (x:=.nili) (v:=.nilIface) dM .nili;refine pI (λex Z w' hp=>?_) (aU3 s F g w _ hR hE);obtain⟨g',e',s',x,h1,h2,h3,O,h5,rfl,rfl⟩:=hp;cases ex<;>try exact h5.elim
  refine⟨O,.returning,by rw[<-U],_,aMR Z w',⟨_,rfl⟩,rfl,g',h1,h2⟩
 loud:=by
  intro F g s w b k cs fs v hR b1 hb hv hl O
  obtain⟨B,G,H,M,rfl⟩:∃B G H M,fs=[B,G,H,M]:=by
   match fs,O with
   | [B,G,H,M],_=>exact⟨B,G,H,M,rfl⟩
  obtain⟨y0,y1,y2,y3,rfl⟩:∃B G H M,cs=[B,G,H,M]:=by
   match cs,hl with
   | [B,G,H,M],_=>exact⟨B,G,H,M,rfl⟩
  obtain⟨vs,b2,b3,y⟩:=hv.agg_inv;refine callsD_of_wpS (fn:=f177) func177 aHc λm cs U=>?_
  refine wpS_seq (aMq ?_);have z:recoverD (m::cs)=some (.iface 36 v,{ m with mode:=.panicking [{ v:=.iface 36 v,recovered:=true }] }::cs):=by simp[recoverD,U]
  rw[z];refine wpS_of_wp ?_
  have b0:EnvOk g 14 [(0,.ptr b 0)] (#[Value.pointer (some ⟨k,0,none⟩)]++Array.replicate (f177.ntmps-(#[Value.pointer (some ⟨k,0,none⟩)]).size) undef):=by
   refine⟨by simp[f177],λt a S=>?_⟩;simp only[Env.get]at S;split at S
   .rename_i ht;subst ht;cases S;exact⟨_,rfl,.ptr b 0 k b1⟩
   .cases S
  have hE:=b0.put (a:=⟨_,[]⟩) (d:=5) (x:=.iface 36 (.agg [B,G,H,M])) (v:=.iface 36 v) dM (.iface 36 _ v hv);refine pI (λex Z w' hp=>?_) (aU4 s b B G H M y0 y1 y2 y3 hb (y B bA) (y G bA) (y H bA) (y M bA) F g w _ hR hE);obtain⟨g',e',s',x,h1,h2,h3,O,h5,rfl,h6⟩:=hp;cases ex<;>try exact h5.elim
  refine⟨O,.panicking [{ v:=.iface 36 v,recovered:=true }],rfl,_,aMR Z w',⟨_,rfl⟩,rfl,g',h1,h2.weaken h6 (λh=>by cases h)⟩
section
variable {C:Cx} {n:Nat} {e:Env} {s:St}
def aMr(C:Cx)(F:Fr)(g0:Gh)(n:Nat)(h:FuncId)(Q:Option Nat->XK->Env->St->Prop)(ex:Exit)(a:Act)(w:World):Prop :=
 ∃g' e s x d,g0.le g'/\R C.toCtx F g' s w/\EnvOk g' n e a.tmps/\XRz g' x ex /\
  (match d with
   | none=>a.defers=[]
   | some b=>∃k,g'.beta b=some k/\a.defers=[zY h k])/\Q d x e s
def ExD(C:Cx)(n:Nat)(h:FuncId)(c:Code)(Q:Option Nat->XK->Env->St->Prop)(e:Env)(s:St):Prop :=
 ∀F g w a,R C.toCtx F g s w->EnvOk g n e a.tmps->a.defers=[]->c.wp C.P (aMr C F g n h Q) a w
def aEJ(R:Env->St->Prop)(Q:Option Nat->XK->Env->St->Prop):XK->Env->St->Prop
 | .normal,e,s=>R e s
 | x,e,s=>Q none x e s
theorem ExD.seq{h:FuncId}{c d:Code}{Q:Option Nat->XK->Env->St->Prop}(hc:Ex C n c (aEJ (ExD C n h d Q) Q) e s):ExD C n h (.seq c d) Q e s:=λF g w a hR hE U=>by
 refine wp_seq (pI (λy Z w' m=>?_) (hc F g w a hR hE));obtain⟨z,e',s',x,B,G,H,M,O,S⟩:=m;cases y<;>cases x<;>try exact O.elim
 .refine pI (λy a2 w2 m=>?_) (S F z w' Z G H (by rw[M];exact U));obtain⟨g2,e2,s2,x2,d2,q1,q2⟩:=m;exact⟨g2,e2,s2,x2,d2,B.trans q1,q2⟩
 all_goals exact⟨z,e',s',_,none,B,G,H,O,by rw[M];exact U,S⟩
theorem ExD.defer{h:FuncId}{c d:Code}{y:Operand}{b:Nat}{Q:Option Nat->XK->Env->St->Prop}(hc:aGZ c=some (h,y))(hy:eZ C e y=some (.ptr b 0))(hd:Ex C n d (Q (some b)) e s):ExD C n h (.seq c d) Q e s:=λF g w a Z U hD=>by
 obtain⟨id,ops,B,ty,pos,after,rfl,z⟩:=aQs hc;obtain⟨k,hv,G⟩:=((U.oper Z) y _ hy).ptr_inv;refine wp_seq ?_
 have O:∀(m:Act),m.tmps=a.tmps->m.defers=[zY h k]->d.wp C.P (aMr C F g n h Q) m w:=by
  intro m ht H;refine pI (λex a2 w2 O=>?_) (hd F g w m Z (by rw[ht];exact U));obtain⟨g',e',s',x,S,h2,h3,h4,h5,h6⟩:=O;exact⟨g',e',s',x,some b,S,h2,h3,h5,⟨k,S.beta _ _ G,by rw[h4];exact H⟩,h6⟩
 refine wp_region_list ?_;rw[z];unfold wpList;rw[aF (by simp[Region.wanted])];left
 have M:(execOp a.eval ⟨none,.defer ⟨.value (.func h),#[y],B⟩,ty,pos,after,none⟩).run C.P w=.ok (.defer (zY h k)) w:=by
  have e1:a.eval (.func h)=.func (.func h) #[] #[]:=rfl;simp only[execOp,resolve,e1,Deferred.ofValue,bN,cG,bM,lA,bX,dL,hv,zY];simp
 unfold Oper.wp;rw[M,Oper.upon_defer];unfold wpList;exact O _ rfl (by simp[Act.put,hD])
def yA(C:Cx)(rs:List ResultVar)(KV Kp:St->A->Prop):Option Nat->XK->Env->St->Prop
 | none,x,e,s=>lW C rs KV Kp x e s
 | some b,.panic v,e,s=>∃m cs,v=.iface 36 (.agg m)/\s.getO b=some (.cells 36 cs)/\m.length=cs.length/\m.length=4/\lW C rs KV Kp .ret e (s.setO b (.cells 36 m))
 | some b,x,e,s=>lW C rs KV Kp x e s
theorem aIu{f O:FuncId}{fn:Func}{c:Code}{args:List A}{KV Kp:St->A->Prop}(b4:CatchC C O 36)
  (b5:∀(k:Nat) (w:World),(invoke (.fn (.func O) #[]) #[.pointer (some ⟨k,0,none⟩)]).run C.P w=.ok (.enter O #[.pointer (some ⟨k,0,none⟩)]) w)
  (hf : C.P.funcs[f]? = some fn) (hb : fn.body = some c) (b2 : (fn.name == "runtime.NumGoroutine") = false) (hn : args.length ≤ fn.ntmps)
  (h:ExD C fn.ntmps O c (yA C fn.results.toList KV Kp) (oN 0 args) s):Den C f args KV Kp s:=by
 refine aOF hf hb b2 hn λF g w a hR hE hD=>?_
 refine pI (λex a' w' m=>?_) (h F g w a hR hE hD);obtain⟨M,e',s',x,d,q1,q2,q3,q4,q7,m⟩:=m
 have ret:∀(g2:Gh) (s2:St) (B:World) (x:XK),(x=.normal\/x=.ret)->lW C fn.results.toList KV Kp x e' s2->R C.toCtx F g2 s2 B->M.le g2 ->
   ∃v,(results fn a'.tmps).run C.P B=.ok v B/\∃U a s,g.le U/\R C.toCtx F U s B/\Rz U a v/\KV s a:=by
  intro g2 s2 B x hx hk y z
  have b1:∃l,sZ C e' s2 fn.results.toList=some l/\KV s2 (aBm l):=by
   rcases hx with rfl|rfl<;>simp only[lW]at hk<;>split at hk
   .exact⟨_,by assumption,hk⟩
   .exact hk.elim
   .exact⟨_,by assumption,hk⟩
   .exact hk.elim
  obtain⟨l,hl,b1⟩:=b1;obtain⟨vs,G,H⟩:=aD3 y (q3.mono z) _ _ hl;refine⟨_,?_,g2,_,s2,q1.trans z,y,aL0 H,b1⟩;have e0:results fn a'.tmps=(do let vs <-fn.results.mapM (wB a'.tmps);pure (if h:vs.size=1 then vs[0] else .tuple vs)):=rfl;rw[e0,bN,Array.mapM_eq_mapM_toList,Sem.run_map,G];rfl
 cases d with
 | none =>
  simp only[yA]at m;simp only at q7;cases ex<;>cases x<;>try exact q4.elim
  .obtain⟨v,G,U,aa,ss,H⟩:=ret M s' w' .normal (.inl rfl) m q2 (fJ M);simp only[bodyPostD,q7,Leaves];exact⟨v,G,U,aa,ss,H⟩
  .exact m.elim
  .exact m.elim
  .obtain⟨v,G,U,aa,ss,H⟩:=ret M s' w' .ret (.inr rfl) m q2 (fJ M);simp only[bodyPostD,q7,Leaves];exact⟨v,G,U,aa,ss,H⟩
  .obtain⟨v,rfl,b3⟩:=q4;simp only[bodyPostD,q7,Leaves];exact⟨M,_,v,s',rfl,q1,q2,b3,m⟩
 | some b =>
  obtain⟨k,b8,b0⟩:=q7;have S:(invoke (zY O k).target (zY O k).args).run C.P w'=.ok (.enter O #[.pointer (some ⟨k,0,none⟩)]) w':=b5 k w'
  have quiet:∀(x:XK),(x=.normal\/x=.ret)->lW C fn.results.toList KV Kp x e' s'->Leaves C.P fn a'.tmps (aAY C F g KV Kp) [zY O k] .returning w':=by
   intro x hx m;refine⟨by simp,_,_,_,_,rfl,S,?_⟩;refineλc cs hc=>?_
   obtain⟨e,u',B,fr,⟨⟨v0,rfl⟩,rfl,g2,z,y⟩,Z⟩:=b4.quiet F M s' w' (.pointer (some ⟨k,0,none⟩)) q2 c cs hc;obtain⟨v,G,H⟩:=ret g2 s' B x hx m y z;exact⟨.returned v0,.returning,B,fr,(show Leaves C.P fn a'.tmps (aAY C F g KV Kp) [] .returning B from⟨v,G,H⟩),Z⟩
  cases ex<;>cases x<;>try exact q4.elim
  .simp only[bodyPostD,b0];exact quiet .normal (.inl rfl) m
  .exact m.elim
  .exact m.elim
  .simp only[bodyPostD,b0];exact quiet .ret (.inr rfl) m
  .obtain⟨v,rfl,b3⟩:=q4;obtain⟨fs,cs,rfl,b9,hl,h4,m⟩:=m;obtain⟨u,rfl,bc⟩:=b3.iface_inv;simp only[bodyPostD,b0];refine⟨by simp,_,_,_,_,rfl,S,?_⟩;refineλc b7 bb=>?_
   obtain⟨e,u',B,fr,⟨⟨v0,rfl⟩,b6,g2,z,y⟩,Z⟩:=b4.loud F M s' w' b k cs fs u q2 b8 b9 bc hl h4 c b7 bb;obtain⟨v,G,H⟩:=ret g2 _ B .ret (.inr rfl) m y z;exact⟨.returned v0,u',B,fr,(show Leaves C.P fn a'.tmps (aAY C F g KV Kp) [] (settle u') B from by rw[b6];exact⟨v,G,H⟩),Z⟩
end
end
section
section
variable {C:Cx} {n:Nat} {h b:Nat} {R:Env->St->Prop} {Q:Option Nat->XK->Env->St->Prop} {e:Env} {s:St} {rs:List ResultVar} {KV Kp:St->A->Prop} {x:XK} {v:A}
@[go_sem] theorem aVN:aEJ R Q .normal e s=R e s:=rfl
@[go_sem] theorem aWw:aEJ R Q .ret e s=Q none .ret e s:=rfl
@[go_sem] theorem aVT:aEJ R Q (.panic v) e s=Q none (.panic v) e s:=rfl
@[go_sem] theorem aV8:yA C rs KV Kp none x e s=lW C rs KV Kp x e s:=rfl
@[go_sem] theorem aVO:yA C rs KV Kp (some b) .normal e s=lW C rs KV Kp .normal e s:=rfl
@[go_sem] theorem aWz:yA C rs KV Kp (some b) .ret e s=lW C rs KV Kp .ret e s:=rfl
@[go_sem] theorem aVS:yA C rs KV Kp (some b) (.panic v) e s=∃m cs,v=.iface 36 (.agg m)/\s.getO b=some (.cells 36 cs)/\m.length=cs.length/\m.length=4/\lW C rs KV Kp .ret e (s.setO b (.cells 36 m)):=rfl
end
theorem aUT(k:Nat)(w:World):(invoke (.fn (.func 177) #[]) #[.pointer (some ⟨k,0,none⟩)]).run cx.P w=.ok (.enter 177 #[.pointer (some ⟨k,0,none⟩)]) w:=aVb k w
def rS:DOwn:=⟨none,none,none,none,none,none,none,none,none⟩
def vV:Tok:=⟨0,[],0,0,0⟩
theorem aD9(d:Dfn)(o:DOwn){s:St}(h:OwnOk s (cO d o)):A.le (.agg (cU d o).cs) d.enc:=by
 have z:∀k (a:eR),(cO d o)[k]?=some a->a.1=none->a.2.1=0:=λk a m=>h.nil a (bK m)
 have g:∀{α:Type} (tk:Option Nat) (f:α->A) (l:List α) (k:Nat) (e:TypeId),(cO d o)[k]?=some (tk,l.length,e)->A.le (gv tk (l.map f)) (.list none (l.map f)):=λtk f l k e m =>
  kJ tk _ (λy=>by rw[eS (z k _ m y)];rfl)
 exact A.le.agg ⟨⟨bL _,rfl⟩,⟨g o.so _ _ 0 9 rfl,rfl⟩,⟨g o.be _ _ 1 112 rfl,rfl⟩,⟨g o.op _ _ 2 80 rfl,rfl⟩,⟨g o.fu _ _ 3 80 rfl,rfl⟩,⟨g o.va _ _ 4 9 rfl,rfl⟩,⟨g o.eq _ _ 5 69 rfl,rfl⟩,⟨g o.on _ _ 6 96 rfl,rfl⟩,⟨bL _,rfl⟩,⟨g o.ma _ _ 7 96 rfl,rfl⟩,⟨g o.ru _ _ 8 50 rfl,rfl⟩,⟨bL _,rfl⟩,⟨bL _,rfl⟩,trivial⟩
theorem aDq{s:St}:OwnOk s (cO jL rS):=by
 refine⟨λo ho u z=>?_,λo ho _=>?_,λi j a b u y G m B=>?_⟩
 .simp only[cO,dG,iI,eJ]at ho;rcases ho with rfl|rfl|rfl|rfl|rfl|rfl|rfl|rfl|rfl<;>cases z
 .simp only[cO,dG,iI,eJ]at ho;rcases ho with rfl|rfl|rfl|rfl|rfl|rfl|rfl|rfl|rfl<;>rfl
 .have:=bK y;simp only[cO,dG,iI,eJ]at this;rcases this with rfl|rfl|rfl|rfl|rfl|rfl|rfl|rfl|rfl<;>cases m
section
variable {T:List Tok} {fin:Fault} {s:St} {r:Nat} {KV Kp:St->A->Prop}
def aHH(KV:St->A->Prop)(s:St)(r:Nat):Rd Dfn->Prop
 | .ok d _ _=>∀o,KV (s.setO r o) (.tuple [d.enc,Fault.none.enc])
 | .bad f=>∀o,KV (s.setO r o) (.tuple [jL.enc,f.enc])
theorem aTA(hT:TOk T)(hr:s.getO r=some (bI T fin (cU jL rS) vV 0 0))(hk:aHH KV s r (aA4 false fin T)):Den cx 111 [.ptr r 0] KV Kp s:=by
 have bl:=hT.len;refine Den.drop ?_;refine aIu aQ1 aUT func111 rfl rfl (jO rfl) ?_;refine ExD.seq ?_;refine aX (V:=[0,2,3,25]) _ _ _ _ ?_;simp only[go_sem,ntmps111,f111];(intro b2 y;try simp only[iM,cS,dB]at y);have G:=aI hr (aS y);simp only[go_sem,ntmps111,f111,y,G];(intro b3 m;try simp only[iM,cS,dB]at m);have H:=aI hr (aS m);simp only[go_sem,ntmps111,f111,y,G,m,H];refine ExD.defer (by rfl) (b:=b3) (by simp only[go_sem,ntmps111,f111,y,G,m,H]) ?_;refine aX (V:=[0,2,3,25]) _ _ _ _ ?_;simp only[go_sem,ntmps111,f111,y,G,m,H];generalize S:(s.setO b2 (Ob.cells 31 [.str [],.nils,.nils,.nils,.nils,.nils,.nils,.nils,.str [],.nils,.nils,.str [],.str []])).setO b3 (Ob.cells 36 [.int .i64 0,.str [],.int .i64 0,.int .i64 0])=s2;have bq:s2.getO r=some (bI T fin (cU jL rS) vV 0 0):=by subst S;exact(gHe (And.intro y (And.intro G (And.intro m (And.intro H hr)))))
 have z:s2.getO b2=some (Ob.cells 31 [.str [],.nils,.nils,.nils,.nils,.nils,.nils,.nils,.str [],.nils,.nils,.str [],.str []]):=by subst S;exact(gHe (And.intro y (And.intro G (And.intro m H))))
 have B:s2.getO b3=some (Ob.cells 36 [.int .i64 0,.str [],.int .i64 0,.int .i64 0]):=by subst S;exact(gHe (And.intro y (And.intro G (And.intro m H))))
 have b0:∀s1:St,s1.gx s2 r->s1.gx s r:=λs1 h=>h.trans (by subst S;exact bC)
 have bad:∀(f:Fault) (s1:St) (o:Ob) (e:Env),e.get 2=some (.ptr b2 0)->e.get 3=some (.ptr b3 0)->(∀o,KV (s.setO r o) (.tuple [jL.enc,f.enc]))->s1.gx s2 r->s1.getO r=some o ->
   yA cx [ResultVar.cell 2 31,ResultVar.cell 3 36] (DK KV) (DK Kp) (some b3) (.panic (.iface 36 f.enc)) e s1:=by
  intro f s1 o e g2 g3 hb hg ho;have q2:=hg.ob b2 G.2 _ z;have q3:=hg.ob b3 H.2 _ B;simp only[go_sem,ntmps111,f111,y,G,m,H,q2,q3];refine⟨f.cs,_,rfl,rfl,rfl,rfl,?_⟩;simp only[go_sem,ntmps111,f111,y,G,m,H,q2,q3,g2,g3];have b5:=hb o;simp only[go_sem]at b5;exact DK.mk b5 (St.gx.ge (dH m.2 (b0 _ hg)) (by rw[aL,aD H.2];exact ho)) (A.le.tuple ⟨aD9 jL rS (s:=s) aDq,bL _,trivial⟩)
 have b1:(aA4 false fin T).to (λd _ _=>∀o,KV (s.setO r o) (.tuple [d.enc,Fault.none.enc])) (λf=>∀o,KV (s.setO r o) (.tuple [jL.enc,f.enc])):=by
  revert hk;unfold aHH;cases aA4 false fin T<;>exact id
 simp only[aA4,bY]at b1;have bg:T=T.drop 0:=rfl;rw[bg]at b1;refine fQ (d:=cU jL rS) (T:=T) (fin:=fin) (first:=vV) (i:=0) (n:=0) _ bq (aW _) hT (bE b1 (λ_ w1 m1 b6 b9 bt c1=>?_) (λf h o=>?_));rotate_left
 .exact bad f _ o _ rfl rfl h (eW (fN _ _)) (by rw[aL,aF rfl])
 subst m1;rw[<-bt]at b6;simp only[go_sem];refine iR (d:=cU jL rS) (T:=T) (fin:=fin) (first:=vV) (i:=0+1) (n:=0) (by rw[aL,aF rfl];rfl) b9 hT (bE b6 (λx w2 m2 b7 bb bv c2=>?_) (λf h o=>?_));rotate_left
 .exact bad f _ o _ rfl rfl h (eW (eW (fN _ _))) (by rw[aL,aF rfl])
 subst m2;rw[<-bv]at b7;simp only[go_sem,G,H,z,B];refine fQ (d:={ cU jL rS with name:=x }) (T:=T) (fin:=fin) (first:=vV) (i:=0+1+1) (n:=0) _ (by rw[aL,aF rfl];rfl) bb hT (bE b7 (λ_ w3 m3 b4 bc bw c3=>?_) (λf h o=>?_));rotate_left
 .exact bad f _ o _ rfl rfl h (eW (eW (fN _ _))) (by rw[aL,aF rfl])
 subst m3;rw[<-bw]at b4;simp only[go_sem,G,H,z,B];rw[show(T.drop (0+1+1+1)).length=T.length-(0+1+1+1)by rw[dS]]at b4
 refine Ex.loop (ι:=(Dfn × DOwn) × Nat × Nat × Nat) (λc=>[(0,.ptr r 0),(2,.ptr b2 0),(3,.ptr b3 0)]) (λc=>lX T fin vV r s2 c.1.1 c.1.2 c.2.1 c.2.2.1)
  (λc=>ItQ s2 c.1.1 c.1.2 c.2.1/\c.2.1<=T.length/\c.2.2.1<=2000/\T.length-c.2.1<c.2.2.2/\(aCq false fin c.2.2.2 c.1.1 (T.drop c.2.1) c.2.2.1).to (λd _ _=>∀o,KV (s.setO r o) (.tuple [d.enc,Fault.none.enc])) (λf=>∀o,KV (s.setO r o) (.tuple [jL.enc,f.enc])))
  (λc=>T.length-c.2.1) (({ jL with name:=x },rS),0+1+1+1,0,T.length-(0+1+1+1)+1) ?_ ?_ ?_ ?_
 .refine⟨⟨aDq,λa ha=>?_⟩,bc,aW _,fZ _,b4⟩;simp only[cO,dG,iI,eJ]at ha;rcases ha with rfl|rfl|rfl|rfl|rfl|rfl|rfl|rfl|rfl<;>exact aW _
 .simp only[go_sem,G,H,z,B]
 .show St.ge _ (s2.setO r _);exact cD
 .rintro⟨⟨d,o⟩,i,n,k⟩ ⟨hQ,hi,hn,bj,O⟩;simp only at hQ hi hn bj O;obtain⟨k,rfl⟩:∃k',k=k'+1:=⟨k-1,by omega⟩
  have Z:=hQ.own;have bh:=Z.free;refine aX (V:=[0,2,3,25]) _ _ _ _ ?_;unfold lX;have M:=m.1;simp only[go_sem,G,H,z,B,aT,M];(refine bD (OT.r 0 10) [] ?_;simp only[go_sem,G,H,z,B,aT,M]);cases hc:decide (i<T.length)with
  | true =>
   have c0:i<T.length:=gQ hc;have bn:T.drop i≠[]:=by intro e;have:=lE List.length e;rw[dS,aZ]at this;omega
   obtain⟨t,w,hw⟩:∃t w,T.drop i=t::w:=by
    cases hq:T.drop i with
    | nil=>exact cV hq bn
    | cons t w=>exact⟨t,w,rfl⟩
   rw[hw,aCq,bY,<-hw]at O;simp only[go_sem,G,H,z,B,aT,M];refine aS9 hT hi hQ hn (bE O (λd' w' n' U j o' hj bk br bm bf=>?_) (λf h s1 x hg bp=>?_))
   .subst br;simp only[go_sem,G,H,z,B,aT,M];exact⟨((d',o'),j,n',k),⟨bf,bk,bm,aQ,U⟩,aQ,aE _⟩
   .exact bad f _ _ _ rfl rfl h hg bp
  | false =>
   have bz:¬ i<T.length:=gQ hc;rw[dP aB,aCq,cL]at O;simp only[go_sem,G,H,z,B,aT,M];(refine bD (OT.r 0 7) [(5,[4])] ?_;simp only[go_sem,G,H,z,B,aT,M]);have bd:(A.one (gv o.so (d.sig.sorts.map .str))&&(A.one (gv o.be (d.sig.below.map Below.enc))&&(A.one (gv o.op (d.sig.ops.map Opr.enc))&&(A.one (gv o.fu (d.sig.funs.map Opr.enc))&&(A.one (gv o.va (d.sig.values.map .str))&&(A.one (gv o.eq (d.eqs.map Eqn.enc))&&(A.one (gv o.on (d.once.map Cel.enc))&&(A.one (gv o.ma (d.many.map Cel.enc))&&A.one (gv o.ru (d.rules.map Rul.enc))))))))))=true:=by simp only[zC,eU]
   refine⟨bd,?_⟩;have U:=O (bI T fin (cU d o) vV i n);have b8:=aD9 d o Z;simp only[go_sem]at U;simp only[go_sem]at b8;refine DK.mk U (aLC (qW (wU (by simp only[aL,G,H,cZ,dF]<;>rfl) (wY m.2 (wY y (aCn bA (aKy (b0 s2 (fN _ _)) bA)))))) (λa ha u hu=>by have:=bh a ha u hu;subst S;exact this)) (A.le.tuple ⟨b8,bL _,trivial⟩)
end
end
noncomputable def c35:Code:=match f22.body with
 | some (.seq _ c)=>c
 | _=>.skip
theorem aHi : f22.body = some (.seq (.region 0 #[⟨some 5,.call ⟨.builtin .recover,#[],#[]⟩,20,"check.go:310",#[],none⟩] false) c35) := rfl
theorem aMS(a:Act)(w:World):(results f22 a.tmps).run cx.P w=.ok (.tuple #[]) w:=by
 have m:results f22 a.tmps=(do let vs <-(#[]:Array ResultVar).mapM (wB a.tmps);pure (if h:vs.size=1 then vs[0] else .tuple vs)):=rfl;rw[m];simp
theorem aMv{P:Program}{Q:Exit->Act->List Frame->World->Prop}{a:Act}{cs:List Frame}{w:World}
  (h : match recoverD cs with
   | some (v,y)=>Q .normal (a.put (some 5) v) y w
   | none=>Q .normal (a.put (some 5) .nilIface) cs w) :
  (Code.region 0 #[⟨some 5,.call ⟨.builtin .recover,#[],#[]⟩,20,"check.go:310",#[],none⟩] false).wpS P Q a cs w := by
 refine wpS_region ?_;have z : List.range (#[(⟨some 5,.call ⟨.builtin .recover,#[],#[]⟩,20,"check.go:310",#[],none⟩ : Oper)]).size = [0] := rfl;rw [z];unfold wpOpsS;have ho : (#[(⟨some 5,.call ⟨.builtin .recover,#[],#[]⟩,20,"check.go:310",#[],none⟩ : Oper)])[0]? = some ⟨some 5,.call ⟨.builtin .recover,#[],#[]⟩,20,"check.go:310",#[],none⟩ := rfl;rw [ho];simp only;rw [aF (by simp [Region.wanted])];have B : (execOp a.eval ⟨some 5,.call ⟨.builtin .recover,#[],#[]⟩,20,"check.go:310",#[],none⟩).run P w = .ok .recover w := rfl;rw [B];simp only;cases m : recoverD cs with
 | none=>rw[m]at h;simp only;unfold wpOpsS;exact h
 | some x=>obtain⟨v,y⟩:=x;rw[m]at h;simp only;unfold wpOpsS;exact h
theorem aVk{g:Gh}(vals:Array Value)(m:vals.size=1):EnvOk g 14 [] (vals++Array.replicate (f22.ntmps-vals.size) undef) :=
 .nil (by rw[m];simp[m,f22])
theorem aVq(k:Nat)(w:World):(invoke (.fn (.func 22) #[]) #[.pointer (some ⟨k,0,none⟩)]).run cx.P w=.ok (.enter 22 #[.pointer (some ⟨k,0,none⟩)]) w:=by
 have y:(callFunc 22 #[.pointer (some ⟨k,0,none⟩)]).run prog w=.ok (.enter 22 #[.pointer (some ⟨k,0,none⟩)]) w:=by
  have z : prog.funcs[22]? = some f22 := func22;have m : (f22.name == "runtime.NumGoroutine") = false := rfl;simp only [callFunc,bN,run_program,bM,z,m,dA,↓reduceIte,aHi,qI,cG]
 show(callFunc 22 (#[Value.pointer (some ⟨k,0,none⟩)]++#[])).run prog w=_;rw[Array.append_empty];exact y
theorem aVd(s:St):Ex cx 14 c35 (λx _ s'=>x=.normal/\s'=s) [(5,.nili)] s:=by
 refine aX (V:=[0,2,3,4,5,6,7,8,9,10,11,12,13]) _ _ _ _ ?_;simp only[c35,f22];simp only[go_sem]
theorem aVi(s:St)(b:Nat)(m y z B y0 y1 y2 y3:A)(U:s.getO b=some (.cells 36 [y0,y1,y2,y3]))(G:m.one=true)(H:y.one=true)(M:z.one=true)(O:B.one=true) :
  Ex cx 14 c35 (λx _ s'=>x=.normal/\s'.ge (s.setO b (.cells 36 [m,y,z,B]))) [(0,.ptr b 0),(5,.iface 36 (.agg [m,y,z,B]))] s:=by
 refine aX (V:=[0,2,3,4,5,6,7,8,9,10,11,12,13]) _ _ _ _ ?_;simp only[c35,f22];simp only[go_sem,G,H,M,O];intro q Z;have S:=aI U Z;simp only[go_sem,G,H,M,O,S,U];have ho:(m.one&&(y.one&&(z.one&&B.one)))=true:=by rw[G,H,M,O];rfl
 refine⟨ho,ho,?_⟩;exact qW (wU (by simp only[aL,dF]) (aCn bA (wY Z (aAy _ _ _))))
theorem aRb:CatchC cx 22 36 where
 quiet:=by
  intro F g s w p hR;refine callsD_of_wpS (fn:=f22) func22 aHi λm cs U=>?_
  refine wpS_seq (aMv ?_);have z:recoverD (m::cs)=none:=by simp[recoverD,U]
  rw[z];refine wpS_of_wp ?_;have hE:=(aVk (g:=g) #[p] rfl).put (a:=⟨_,[]⟩) (d:=5) (x:=.nili) (v:=.nilIface) dM .nili;refine pI (λex Z w' hp=>?_) (aVd s F g w _ hR hE);obtain⟨g',e',s',x,h1,h2,h3,O,h5,rfl,rfl⟩:=hp;cases ex<;>try exact h5.elim
  refine⟨O,.returning,by rw[<-U],_,aMS Z w',⟨_,rfl⟩,rfl,g',h1,h2⟩
 loud:=by
  intro F g s w b k cs fs v hR b1 hb hv hl O
  obtain⟨B,G,H,M,rfl⟩:∃B G H M,fs=[B,G,H,M]:=by
   match fs,O with
   | [B,G,H,M],_=>exact⟨B,G,H,M,rfl⟩
  obtain⟨y0,y1,y2,y3,rfl⟩:∃B G H M,cs=[B,G,H,M]:=by
   match cs,hl with
   | [B,G,H,M],_=>exact⟨B,G,H,M,rfl⟩
  obtain⟨vs,b2,b3,y⟩:=hv.agg_inv;refine callsD_of_wpS (fn:=f22) func22 aHi λm cs U=>?_
  refine wpS_seq (aMv ?_);have z:recoverD (m::cs)=some (.iface 36 v,{ m with mode:=.panicking [{ v:=.iface 36 v,recovered:=true }] }::cs):=by simp[recoverD,U]
  rw[z];refine wpS_of_wp ?_
  have b0:EnvOk g 14 [(0,.ptr b 0)] (#[Value.pointer (some ⟨k,0,none⟩)]++Array.replicate (f22.ntmps-(#[Value.pointer (some ⟨k,0,none⟩)]).size) undef):=by
   refine⟨by simp[f22],λt a S=>?_⟩;simp only[Env.get]at S;split at S
   .rename_i ht;subst ht;cases S;exact⟨_,rfl,.ptr b 0 k b1⟩
   .cases S
  have hE:=b0.put (a:=⟨_,[]⟩) (d:=5) (x:=.iface 36 (.agg [B,G,H,M])) (v:=.iface 36 v) dM (.iface 36 _ v hv);refine pI (λex Z w' hp=>?_) (aVi s b B G H M y0 y1 y2 y3 hb (y B bA) (y G bA) (y H bA) (y M bA) F g w _ hR hE);obtain⟨g',e',s',x,h1,h2,h3,O,h5,rfl,h6⟩:=hp;cases ex<;>try exact h5.elim
  refine⟨O,.panicking [{ v:=.iface 36 v,recovered:=true }],rfl,_,aMS Z w',⟨_,rfl⟩,rfl,g',h1,h2.weaken h6 (λh=>by cases h)⟩
section
theorem aOD(s:St)(l:List Below)(KV Kp:St->A->Prop)(hk:∀s',s'.ge s->KV s' (.bool (decide l.Nodup))):Den cx 59 [.list none (l.map Below.enc)] KV Kp s:=by
 refine hH λZ=>?_
 have S:=Z _ (cQ ..);(refine aN func59 aBj ?_;simp only[go_sem,ntmps59,f59]);(refine aM λb hb=>?_);simp only[go_sem]
 refine Ex.loop (λi=>[(3,.mp b),(7,.list none (l.map Below.enc)),(8,.int .i64 l.length),(9,.int .i64 (i:Nat))]) (λi=>s.setO b (.map 2 (kA (λx:Below=>MK.two x.low x.high) (l.take i))))
     (λi=>i<=l.length/\(l.take i).Nodup) (λi=>l.length-i) 0 ⟨aW _,by simp⟩ ?_ (aE _) ?_
 .simp only[go_sem];exact rfl
 .rintro i ⟨hi,z⟩;refine aX (V:=aBj) _ _ _ _ ?_;simp only[go_sem]
  (apply aJ<;>intro h)<;>simp only[go_sem,h]
  .have m:i<l.length:=gQ h;obtain⟨a,H⟩:=bB m;have G:∀x y:Below,MK.two x.low x.high=MK.two y.low y.high->x=y:=λx y e=>by cases x;cases y;cases e;rfl
   have B:=aDX (λx:Below=>MK.two x.low x.high) G a (l.take i);have U:=aDR (λx:Below=>MK.two x.low x.high) G a (l.take i);simp only[go_sem,H,m];(refine aM λc hc=>?_);by_cases M:a∈l.take i
   .rw[aF M]at B;simp only[go_sem,H,m,hc,B]
    have O:¬ l.Nodup:=by
     intro O;rw[<-mQ i l,List.nodup_append]at O;refine O.2.2 a M a ?_ rfl;have:(l.drop i)[0]?=some a:=by rw[mR];simpa using H
     exact bK this
    refine aG (by have:=hk (s.setO b (.map 2 (kA (λx:Below=>MK.two x.low x.high) (l.take i)))) (bG (by assumption) (aE s));simpa [O]using this) cD
   .rw[aD M]at B;simp only[go_sem,H,m,hc,B,U M,lB];have ht:l.take (i+1)=l.take i++[a]:=by rw[gJ,H];rfl
    refine⟨i+1,⟨by omega,?_⟩,by omega,?_,?_⟩
    .rw[ht,List.nodup_append];exact⟨z,by simp,λx hx y hy=>by simp at hy;subst hy;intro e;subst e;exact M hx⟩
    .exact S.wrap (i:=i) (gQ m)
    .rw[ht];exact cD
  .have m:i=l.length:=by simp at h;omega
   subst m;rw[bT]at z;exact aP (by have:=hk (s.setO b (.map 2 (kA (λx:Below=>MK.two x.low x.high) l))) (bG (by assumption) (aE s));simpa [z,bT]using this)
section
variable {r:Nat} {sg:Sig} {s:St} {KV Kp:St->A->Prop}
theorem aI9(l:List Opr)(hl:l.length<=4294967000)(hk:∀tk,(tk=none->l=[])->(∀t,tk=some t->s.getT t=none)->KV (gs s tk l.length 9) (gv tk ((l.map Opr.name).map .str))):Den cx 65 [.list none (l.map Opr.enc)] KV Kp s:=by
 (refine aN func65 aBd ?_;simp only[go_sem,ntmps65,f65])
 refine Ex.loop (ι:=Nat × Option Nat) (λc=>[(3,gv c.2 (((l.take c.1).map Opr.name).map .str)),(6,.list none (l.map Opr.enc)),(7,.int .i64 l.length),(8,.int .i64 (c.1:Nat))]) (λc=>gs s c.2 ((l.take c.1).map Opr.name).length 9)
  (λc=>c.1<=l.length/\(c.2=none->(l.take c.1).map Opr.name=[])/\∀t,c.2=some t->s.getT t=none) (λc=>l.length-c.1) (0,none) ⟨aW _,λ_=>rfl,λt h=>(by cases h)⟩ ?_ (aE _) ?_
 .simp only[go_sem]
  try exact⟨rfl,rfl⟩
 .rintro⟨i,tk⟩ ⟨U,z,H⟩;simp only at U z H;refine aX (V:=aBd) _ _ _ _ ?_;simp only[go_sem]
  (apply aJ<;>intro h)<;>simp only[go_sem,h]
  .have m:i<l.length:=gQ h;clear h;obtain⟨x,B⟩:=bB m;have ht:(l.take (i+1)).map Opr.name=(l.take i).map Opr.name++[x.name]:=by rw[gJ,B,bU];rfl
   simp only[go_sem,B,m];(refine rF λc G=>?_);simp only[go_sem,B,m,G];refine⟨by decide,λy S=>(by rw[bO.1 S];rfl),dU rfl rfl (by simp only[aO];exact fD λe=>by have:=z e;rw[List.map_eq_nil_iff]at this;rw[this];rfl) (λy S=>fK S) (by simp only[aO,dT,aV,aZ];omega) (λu Z=>?_)⟩;have M:=iD Z H;rw[gR Z];simp only[go_sem,B,m,G];refine⟨(i+1,some u),⟨m,λh=>(by cases h),λt h=>by cases h;exact M⟩,aQ,⟨?_,aU i aB⟩,?_⟩
   .rw[ht,bU];rfl
   .have q:(l.take (i+1)).length=(l.take i).length+1:=by rw[dT,dT];omega
    show St.ge _ (s.setT u ((l.take (i+1)).length,9));rw[q];exact fB (gE G)
  .have O:=bQ U h;subst O;rw[bT]at z⊢;exact aP (hk tk (λe=>List.map_eq_nil_iff.1 (z e)) H)
def oL(l:List Piece):List aC:=(l.map Piece.sort).filter λx=>!decide (x=[])
theorem aO7{l:List Piece}{j:Nat}{x:Piece}(h:l[j]?=some x):oL (l.take (j+1))=oL (l.take j)++(if x.sort=[] then [] else [x.sort]):=by
 unfold oL;rw[gJ,h,bU,List.filter_append];congr 1;by_cases e:x.sort=[]<;>simp[e]
theorem aQt(l:List Piece):(oL l).length<=l.length:=by
 unfold oL;exact pH (List.length_filter_le _ _) (Nat.le_of_eq (aO ..))
theorem aNM(o:Opr)(bb:o.pieces.length<=4294967000)(b9:o.args.length<=4294967000)(hk:KV s (.bool (aDy o))):Den cx 128 [.agg o.cs] KV Kp s:=by
 refine hH λb3=>?_
 have b4:=b3 _ (cQ ..);have hw:Rlz (.list none (o.pieces.map Piece.enc)):=b4.cell (by simp[Opr.cs]);clear b3 b4;unfold aDy at hk;have z1:decide (((o.pieces.length:Nat):Int)=0)=decide (o.pieces.length=0):=by rw[cC];omega
 (refine aN func128 [0,1,2,3,5,6,10,12,13,14,15,46,49] ?_;simp only[go_sem,ntmps128,f128]);(refine aM λp hp=>?_);simp only[go_sem,hp,z1];cases c0:decide (o.pieces.length=0)<;>rw[c0]at hk<;>simp only[go_sem,hp,z1,c0]
 rotate_left
 .exact aG hk aR
 have b0:(s.setO p (.cells 80 o.cs)).ge s:=bG hp (aE s);have M:(s.setO p (.cells 80 o.cs)).getO p=some (.cells 80 o.cs):=by rw[aL,aF rfl]
 generalize hS:s.setO p (.cells 80 o.cs)=S at b0 M;simp only[Opr.cs]at hS M;rw[hS];clear hS
 refine Ex.loop (ι:=Nat × Option Nat) (λc=>[(1,.ptr p 0),(3,gv c.2 ((oL (o.pieces.take c.1)).map .str)),(12,.list none (o.pieces.map Piece.enc)),(13,.int .i64 (o.pieces.length:Nat)),(14,.int .i64 (c.1:Nat))]) (λc=>gs S c.2 (oL (o.pieces.take c.1)).length 9)
  (λc=>c.1<=o.pieces.length/\(o.pieces.take c.1).all vK=true/\(c.2=none->(oL (o.pieces.take c.1)).length=0)/\∀t,c.2=some t->S.getT t=none) (λc=>o.pieces.length-c.1) (0,none) ⟨aW _,rfl,λ_=>rfl,λt h=>(by cases h)⟩ ?_ (aE _) ?_
 .simp only[go_sem]
  try exact⟨rfl,rfl⟩
 .rintro⟨i,tk⟩ ⟨hi,O,hn,hf⟩;simp only at hi hn hf O;refine aX (V:=[0,1,2,3,5,6,10,12,13,14,15,46,49]) _ _ _ _ ?_;simp only[go_sem]
  (apply aJ<;>intro h)<;>simp only[go_sem,h]
  .have m:i<o.pieces.length:=gQ h;clear h;obtain⟨x,U⟩:=bB m;have b8:x∈o.pieces:=bK U;have H:=aGu (f:=vK) U O;have z:=aO7 U;have b7:=aQt (o.pieces.take i);rw[dT]at b7;unfold vK at H
   have bad:(decide (x.sort=[]) == (vL x.text||(cP x.text&&!decide (20<x.text.length)))&&!(!decide (x.sort=[])&&!decide (x.text=[])))=false->KV s (.bool false):=λe=>by
    have h0:o.pieces.all vK=false:=aGg b8 (show vK x=false from e);rw[h0]at hk;exact hk
   have b2:decide (((x.text.length:Nat):Int)<=20)=!decide (20<x.text.length):=by rw[<-decide_not,cC];omega
   simp only[go_sem,U,m];(refine rF λb5 B=>?_);have f1:=aI M B;have G:(S.setO b5 (.cells 218 x.cs)).ge S:=bG B (aE S);have Z:(gs (S.setO b5 (.cells 218 x.cs)) tk (oL (o.pieces.take i)).length 9).ge s:=fR (G.trans b0) hf;simp only[Piece.cs]at Z G
   have q0:x.sort=[]->(gs (S.setO b5 (.cells 218 [.str x.text,.str x.sort])) tk (oL (o.pieces.take i)).length 9).ge (gs S tk (oL (o.pieces.take (i+1))).length 9):=λe=>by
    rw[z,aF e,dK];exact aGq (λb o h=>G.ob b o h) (λy h=>G.ls y h) (λt v _ h=>G.tk t v h)
   simp only[go_sem,U,m,B,f1,M];refine aOh x.text ?_;cases a1:vL x.text<;>rw[a1]at H bad<;>simp only[go_sem,U,m,B,f1,M,beq_true,beq_false]
   rotate_left
   .cases a4:decide (x.sort=[])<;>cases a5:decide (x.text=[])<;>rw[a4]at H bad<;>rw[a5]at H bad<;>simp only[go_sem,U,m,B,f1,M,a4,a5]
    all_goals first|exact aG (bad rfl) Z|exact⟨(i+1,tk),⟨m,H,λe=>(by rw[z,aF (fT a4),dK];exact hn e),hf⟩,aQ,⟨by rw[z,aF (fT a4),dK],aU i aB⟩,q0 (fT a4)⟩|skip
   refine tO _ _ _ _ ?_;cases a2:cP x.text<;>rw[a2]at H bad<;>simp only[go_sem,U,m,B,f1,M,beq_true,beq_false]
   .cases a4:decide (x.sort=[])<;>cases a5:decide (x.text=[])<;>rw[a4]at H bad<;>rw[a5]at H bad<;>simp only[go_sem,U,m,B,f1,M,a4,a5]
    all_goals first|exact aG (bad rfl) Z|exact⟨(i+1,tk),⟨m,H,λe=>(by rw[z,aF (fT a4),dK];exact hn e),hf⟩,aQ,⟨by rw[z,aF (fT a4),dK],aU i aB⟩,q0 (fT a4)⟩|skip
    refine⟨by decide,λy hy=>(by rw[bO.1 hy];rfl),dU rfl rfl (by rw[aO];exact fD hn) (λy hy=>fK hy) (by simp only[aO,aV,aZ];omega) (λu hu=>?_)⟩;have b1:=iD hu (λt e=>hf t e);rw[gR hu];simp only[go_sem,U,m,B,f1,M];refine⟨(i+1,some u),⟨m,H,λh=>(by cases h),λt h=>by cases h;exact b1⟩,aQ,⟨?_,aU i aB⟩,?_⟩
    .rw[z,aD (of_decide_eq_false a4),bU];rfl
    .show St.ge _ (S.setT u ((oL (o.pieces.take (i+1))).length,9));rw[z,aD (of_decide_eq_false a4),aH];exact fB G
   cases a3:decide (20<x.text.length)<;>rw[a3]at H bad<;>simp only[go_sem,U,m,B,f1,M,b2,a3,beq_true,beq_false]
   .cases a4:decide (x.sort=[])<;>cases a5:decide (x.text=[])<;>rw[a4]at H bad<;>rw[a5]at H bad<;>simp only[go_sem,U,m,B,f1,M,a4,a5]
    all_goals first|exact aG (bad rfl) Z|exact⟨(i+1,tk),⟨m,H,λe=>(by rw[z,aF (fT a4),dK];exact hn e),hf⟩,aQ,⟨by rw[z,aF (fT a4),dK],aU i aB⟩,q0 (fT a4)⟩|skip
   .cases a4:decide (x.sort=[])<;>cases a5:decide (x.text=[])<;>rw[a4]at H bad<;>rw[a5]at H bad<;>simp only[go_sem,U,m,B,f1,M,a4,a5]
    all_goals first|exact aG (bad rfl) Z|exact⟨(i+1,tk),⟨m,H,λe=>(by rw[z,aF (fT a4),dK];exact hn e),hf⟩,aQ,⟨by rw[z,aF (fT a4),dK],aU i aB⟩,q0 (fT a4)⟩|skip
    refine⟨by decide,λy hy=>(by rw[bO.1 hy];rfl),dU rfl rfl (by rw[aO];exact fD hn) (λy hy=>fK hy) (by simp only[aO,aV,aZ];omega) (λu hu=>?_)⟩;have b1:=iD hu (λt e=>hf t e);rw[gR hu];simp only[go_sem,U,m,B,f1,M];refine⟨(i+1,some u),⟨m,H,λh=>(by cases h),λt h=>by cases h;exact b1⟩,aQ,⟨?_,aU i aB⟩,?_⟩
    .rw[z,aD (of_decide_eq_false a4),bU];rfl
    .show St.ge _ (S.setT u ((oL (o.pieces.take (i+1))).length,9));rw[z,aD (of_decide_eq_false a4),aH];exact fB G
  .have b6:=bQ hi h;subst b6;rw[bT]at O hn;rw[bT];have b2:decide (((o.pieces.length:Nat):Int)<=20)=!decide (20<o.pieces.length):=by rw[<-decide_not,cC];omega
   rw[O]at hk;cases c1:decide (20<o.pieces.length)<;>rw[c1]at hk<;>simp only[go_sem,M,b2,c1]
   .refine jI (show kC [gv tk ((oL o.pieces).map .str),.list none (o.args.map .str)] [.list none ((oL o.pieces).map .str),.list none (o.args.map .str)] from⟨kJ _ _ λe=>by rw[eS (hn e)];rfl,bL _,trivial⟩) (aPT _ _ _ _ _ ?_);simp only[go_sem];exact aG hk (fR b0 hf)
   .exact aG hk (fR b0 hf)
theorem aN7(o:Opr)(q:Nat)(y:s.getO q=some (.cells 80 o.cs))(i:Int)(m:KV s (.bool (decide (1<=i)&&decide (i<=o.args.length)))):Den cx 125 [.int .i64 i,.ptr q 0] KV Kp s:=by
 simp only[Opr.cs]at y;(refine aN func125 [0,1,3] ?_;simp only[go_sem,ntmps125,f125])
 (repeat' (first|exact aG m aR|((apply aJ<;>intro h)<;>simp only[go_sem,h,y]<;>(try simp only[h,dW,gB,eU,iZ,lM,jT,jA,gW,fP,iB]at m))))
theorem aPZ(h:BookAt s r sg)(o:Opr)(Z:o.name.length<=4611686018427387904)(b0:o.pieces.length<=4294967000)(U:o.args.length<=4294967000)(B:KV s (.bool (vP sg o))):Den cx 70 [.ptr r 0,.agg o.cs] KV Kp s:=by
 have h0:=h;obtain⟨a,oo,f,ma,mo,mf,hr,ha,ho,hf,la,lo,lf⟩:=h;unfold vP at B;(refine aN func70 [0,1,3,4,5,7,8,9,10,49] ?_;simp only[go_sem,ntmps70,f70]);(refine aM λp hp=>?_);have f1:=aI hr hp;have z:(s.setO p (.cells 80 o.cs)).ge s:=bG hp (aE s);have M:(s.setO p (.cells 80 o.cs)).getO p=some (.cells 80 o.cs):=by rw[aL,aF rfl]
 simp only[go_sem,hp];generalize O:s.setO p (.cells 80 o.cs)=S at z M;simp only[Opr.cs]at O;rw[O];clear O;have hB:=h0.ge z;have gr:=z.ob _ _ hr;have m:=M;simp only[Opr.cs]at m;refine aKi _ _ _ _ Z ?_
 have b1:(if mE o.name=true then A.tuple [.str (o.name.take (o.name.length-2)),.str (o.name.drop (o.name.length-2))] else A.tuple [.str o.name,.str []])=A.tuple [.str (if mE o.name=true then o.name.take (o.name.length-2) else o.name),.str (if mE o.name=true then o.name.drop (o.name.length-2) else [])]:=by
  cases mE o.name<;>rfl
 rw[b1];simp only[go_sem,m,gr];(refine bD (OT.r 0 33) [(1,[5,10,16,27,29]),(6,[10,16,27,29]),(19,[27,29])] ?_;simp only[go_sem,m,gr]);rw[show rU o.name=cP (if mE o.name=true then o.name.take (o.name.length-2) else o.name) from rfl]at B;generalize (if mE o.name=true then o.name.take (o.name.length-2) else o.name)=nm at B⊢;generalize (if mE o.name=true then o.name.drop (o.name.length-2) else [])=rs;have G:decide ((8:Int)<((o.args.length:Nat):Int))=decide (8<o.args.length):=by rw[cC];omega
 have H:decide ((0:Int)<((o.pieces.length:Nat):Int))=decide (0<o.pieces.length):=by rw[cC];omega
 repeat' (first|exact aG B z|(refine tO _ _ _ _ ?_;simp only[go_sem,m,gr,G,H])|(refine aFx _ _ _ _ ?_;simp only[go_sem,m,gr,G,H])|(refine pG _ _ _ _ _ ?_;simp only[go_sem,m,gr,G,H])|(refine aDA o.args (cR sg) 68 [.ptr r 0] [] _ _ _ (λx hx s' KV Kp y B=>tI (hB.ge y) x B) ?_;simp only[go_sem,m,gr,G,H])|(refine aQp o.strict (λi=>decide (1<=i)&&decide (i<=(o.args.length:Int))) 125 [] [.ptr p 0] _ _ _ (λx hx s' KV Kp y B=>aN7 o p (y.ob _ _ M) x B) ?_;simp only[go_sem,m,gr,G,H])|((apply aJ<;>intro h)<;>simp only[go_sem,h,m,gr,G,H]<;>(try simp only[iY,aFv]at h)<;>(try simp only[h,dW,gB,fP,iB,jT,gW,eU,iZ]at B)))
 all_goals
  refine aOg _ _ _ _ (λs' y=>?_);have g2:=y.ob _ _ m;cases c7:decide o.strict.Nodup<;>rw[c7]at B<;>simp only[go_sem,g2,c7]
  .exact aG B (y.trans z)
  .refine aNM o b0 U ?_;simp only[go_sem];exact aG B (y.trans z)
theorem aPR(sg:Sig)(hb:sg.ops.length+sg.funs.length<=4294967000)(ho:∀o,o∈sg.ops->o.name.length<=4611686018427387904/\o.pieces.length<=4294967000/\o.args.length<=4294967000)(m:KV s (.bool (qR sg))):Den cx 25 [.agg sg.cs] KV Kp s:=by
 unfold qR at m;have z1:decide ((40:Int)<((sg.sorts.length:Nat):Int))=decide (40<sg.sorts.length):=by rw[cC];omega
 have z2:decide ((200:Int)<((sg.below.length:Nat):Int))=decide (200<sg.below.length):=by rw[cC];omega
 have z3:decide ((200:Int)<((sg.ops.length:Nat):Int)+((sg.funs.length:Nat):Int))=decide (200<sg.ops.length+sg.funs.length):=by rw[cC];omega
 (refine aN func25 [0,1,2,3,4,36,58] ?_;simp only[go_sem,ntmps25,f25]);(refine aM λp hp=>?_);have B:(s.setO p (.cells 26 sg.cs)).ge s:=bG hp (aE s);have gp:(s.setO p (.cells 26 sg.cs)).getO p=some (.cells 26 sg.cs):=by rw[aL,aF rfl]
 have w3:IntKind.i64.wrap (((sg.ops.length:Nat):Int)+((sg.funs.length:Nat):Int))=((sg.ops.length:Nat):Int)+((sg.funs.length:Nat):Int):=fV _ aB aB;simp only[go_sem,hp,z1];generalize hS:s.setO p (.cells 26 sg.cs)=S at B gp;simp only[Sig.cs]at hS gp;rw[hS];clear hS;cases c1:decide (40<sg.sorts.length)<;>rw[c1]at m<;>simp only[go_sem,gp,z1,c1,z2]
 rotate_left
 .exact aG m B
 cases c2:decide (200<sg.below.length)<;>rw[c2]at m<;>simp only[go_sem,gp,z1,c1,z2,c2,z3,w3]
 rotate_left
 .exact aG m B
 cases c3:decide (200<sg.ops.length+sg.funs.length)<;>rw[c3]at m<;>simp only[go_sem,gp,z1,c1,z2,c2,z3,c3]
 rotate_left
 .exact aG m B
 refine aOD _ _ _ _ (λS1 b4=>?_);have b7:=b4.ob _ _ gp;cases c4:decide sg.below.Nodup<;>rw[c4]at m<;>simp only[go_sem,b7,c4]
 .exact aG m (b4.trans B)
 refine aBA _ _ _ _ (λS2 b8=>?_);have b0:=b8.trans (b4.trans B);have b2:=b8.ob _ _ b7;clear gp B b7 b4 b8;cases c5:decide sg.values.Nodup<;>rw[c5]at m<;>simp only[go_sem,b2,c5]
 .exact aG m b0
 (refine bD (OT.l [0,1,2,3,4,5,6,7,8,9,10,11,12,13,15,16,14,17,18,19,20,21] .nil) [(2,[6,13,16]),(8,[13,16]),(14,[16])] ?_;simp only[go_sem,b2]);refine aBA _ _ _ _ (λz b9=>?_);have M:=b9.ob _ _ b2;have b1:=b9.trans b0;clear b2 b0 b9;cases c6:decide sg.sorts.Nodup<;>rw[c6]at m<;>simp only[go_sem,M,c6]
 .exact aG m b1
 refine aDA sg.sorts zE 61 [] [] _ _ _ (λx _ s' KV Kp _ m=>aPW x m) ?_;cases c7:sg.sorts.all zE<;>rw[c7]at m<;>simp only[go_sem,M,c6]
 .exact aG m b1
 refine aI9 sg.ops aB (λta bh bf=>?_);simp only[go_sem,M];refine aI9 sg.funs aB (λtb bp bg=>?_);simp only[go_sem,M];have ga:(gs z ta sg.ops.length 9).ge z:=fR (aE z) bf;have bj:ta=none->sg.ops.length=0:=λe=>by rw[bh e];rfl
 have U:∀Z:A,Z.le (.list none ((sg.ops.map Opr.name++sg.funs.map Opr.name).map .str))->kC [Z] [.list none ((sg.ops.map Opr.name++sg.funs.map Opr.name).map .str)]:=λZ h=>⟨h,trivial⟩
 have bm:∀t,tb=some t->iV (gs (gs z ta sg.ops.length 9) (some t) sg.funs.length 9) ta sg.ops.length 9:=λt ht=>by
  cases ta with
  | none=>exact bj rfl
  | some a =>
   show(gs (gs z (some a) sg.ops.length 9) (some t) sg.funs.length 9).getT a=_;rw[gK,aD (λe=>by cases e;have:=bg t ht;rw[gK,aF rfl]at this;cases this),gK,aF rfl]
 have bn:∀t u v,tb=some t->(ta=some u\/ta=none/\(gs (gs z ta sg.ops.length 9) (some t) sg.funs.length 9).getT u=none)->((gs (gs z ta sg.ops.length 9) (some t) sg.funs.length 9).setT u v).ge z:=λt u v ht hu=>by
  have g1:(gs (gs z ta sg.ops.length 9) (some t) sg.funs.length 9).ge z:=fR ga (λx e=>by cases e;exact bg t ht)
  have g2:z.getT u=none:=by
   rcases hu with e|⟨_,e⟩
   .exact bf u e
   .cases h0:z.getT u with
    | none=>rfl
    | some v=>rw[g1.tk _ _ h0]at e;cases e
  refine⟨λq o hq=>g1.ob q o hq,λx y hx=>?_,λy hy=>g1.ls y hy⟩;rw[dC,aD (λe=>by rw[<-e,g2]at hx;cases hx)];exact g1.tk x y hx
 cases tb
 case' some t =>
  simp only[go_sem,eK];refine⟨by decide,λy hy=>fK hy,dU rfl rfl (by simp only[aO];exact bm t rfl) (λy hy=>fK hy) (by simp only[aO];omega) (λu hu=>?_)⟩;simp only[go_sem];refine jI (U _ (by rw[bU];exact A.le.forget _ _)) (aBA _ _ _ _ (λS4 O=>?_));have b5:S4.ge z:=O.trans (bn t u _ rfl hu)
 case' none =>
  have bd:sg.funs=[]:=bp rfl;simp only[go_sem,aDU];refine⟨rfl,?_⟩;cases ta
  case' none =>
   have bq:sg.ops=[]:=bh rfl;simp only[go_sem,aDU];refine jI (U _ (by rw[bq,bd];exact A.le.nil)) (aBA _ _ _ _ (λS4 O=>?_));have b5:S4.ge z:=O
  case' some t =>
   simp only[go_sem,eK];refine jI (U _ (by rw[bd,dL,dK];exact A.le.forget _ _)) (aBA _ _ _ _ (λS4 O=>?_));have b5:S4.ge z:=O.trans ga
 all_goals
  have bb:=b5.ob _ _ M;have b6:=b5.trans b1;cases c8:decide (sg.ops.map Opr.name++sg.funs.map Opr.name).Nodup<;>rw[c8]at m<;>simp only[go_sem,bb,c8]
  .exact aG m b6
  .refine aGe sg (by have:=of_decide_eq_false c2;omega) (by have:=of_decide_eq_false c1;omega) _ _ _ (λS5 r bc hB=>?_);have b3:=bc.ob _ _ bb;have H:=bc.trans b6;simp only[go_sem,b3];refine aQP sg.below (yV sg) 67 [.ptr r 0] [] _ _ _ (λx hx s' KV Kp G m=>aNP (hB.ge G) x m) ?_;cases c9:sg.below.all (yV sg)<;>rw[c9]at m<;>simp only[go_sem,b3]
   .exact aG m H
   refine aDA sg.values (cR sg) 68 [.ptr r 0] [] _ _ _ (λx hx s' KV Kp G m=>tI (hB.ge G) x m) ?_;cases bk:sg.values.all (cR sg)<;>rw[bk]at m<;>simp only[go_sem,b3]
   .exact aG m H
   refine aJE sg.ops (vP sg) 70 [.ptr r 0] [] _ _ _ (λx hx s' KV Kp G m=>aPZ (hB.ge G) x (ho x hx).1 (ho x hx).2.1 (ho x hx).2.2 m) ?_;cases bl:sg.ops.all (vP sg)<;>rw[bl]at m<;>simp only[go_sem,b3]
   .exact aG m H
   refine aJE sg.funs (xG sg) 71 [.ptr r 0] [] _ _ _ (λx hx s' KV Kp G m=>aOO (hB.ge G) x m) ?_;simp only[go_sem];exact aG m H
end
end
section
structure DfnC (d:Dfn):Prop where
 tm:∀t,t∈eD d->TmW t
 pr:(aY (eD d)).length<=4294967000
 nm:(hZ d).length<=4294967000
 cl:d.once.length+d.many.length<=4294967000
 op:d.sig.ops.length+d.sig.funs.length<=4294967000
 nl:∀o,o∈d.sig.ops->o.name.length<=4611686018427387904/\o.pieces.length<=4294967000/\o.args.length<=4294967000
theorem aBO{α:Type}(f:α->List Tm){l:List α}{x:α}(h:x∈l):(aY (f x)).length<=(aY (l.flatMap f)).length:=by
 obtain⟨a,b,e⟩:=List.append_of_mem h;rw[e];simp only[sD,jR,gX,aH];omega
section
variable {s:St} {KV Kp:St->A->Prop} {d:Dfn}
theorem aP4{b:List aC}{l:List Rul}{i:Nat}{x:Rul}(h:l[i]?=some x):uG d b (l.drop i)=aK (zU d b x) (uG d (b++[x.name]) (l.drop (i+1))):=by
 rw[iC h];rfl
theorem aC8(hd:DfnC d)(hk:KV s (sM d).enc):Den cx 7 [.agg d.cs] KV Kp s:=by
 refine Den.drop ?_;refine aIu aRb aVq func7 rfl rfl (jO rfl) ?_;refine ExD.seq ?_;refine aX (V:=vl7) _ _ _ _ ?_;simp only[go_sem,ntmps7,f7];(refine aM λb1 b5=>?_);simp only[go_sem,b5];(refine aM λH b4=>?_);simp only[go_sem,b5,b4];refine ExD.defer (by rfl) (b:=H) (by simp only[go_sem]) ?_;refine aX (V:=vl7) _ _ _ _ ?_;simp only[go_sem];(refine aM λb3 b7=>?_);have bh:(((s.setO b1 (.cells 31 d.cs)).setO H (.cells 36 [.int .i64 0,.str [],.int .i64 0,.int .i64 0])).setO b3 (.cells 58 [.int .i64 0,.int .i64 0])).ge s:=by simp only[Dfn.cs,Sig.cs,dY,dD];exact aR
 have g1:(((s.setO b1 (.cells 31 d.cs)).setO H (.cells 36 [.int .i64 0,.str [],.int .i64 0,.int .i64 0])).setO b3 (.cells 58 [.int .i64 0,.int .i64 0])).getO b1=some (.cells 31 d.cs):=by
  rw[aL,aD (λe=>b7.2.1.1 e.symm),aL,aD (λe=>b4.1.1 e.symm),aL,aF rfl]
 have g2:(((s.setO b1 (.cells 31 d.cs)).setO H (.cells 36 [.int .i64 0,.str [],.int .i64 0,.int .i64 0])).setO b3 (.cells 58 [.int .i64 0,.int .i64 0])).getO H=some (.cells 36 [.int .i64 0,.str [],.int .i64 0,.int .i64 0]):=by
  rw[aL,aD (λe=>b7.1.1 e.symm),aL,aF rfl]
 have g3:(((s.setO b1 (.cells 31 d.cs)).setO H (.cells 36 [.int .i64 0,.str [],.int .i64 0,.int .i64 0])).setO b3 (.cells 58 [.int .i64 0,.int .i64 0])).getO b3=some (.cells 58 [.int .i64 0,.int .i64 0]):=by
  rw[aL,aF rfl]
 have bt:=b4.2;simp only[go_sem,b5,b4,b7];generalize hS:((s.setO b1 (.cells 31 d.cs)).setO H (.cells 36 [.int .i64 0,.str [],.int .i64 0,.int .i64 0])).setO b3 (.cells 58 [.int .i64 0,.int .i64 0])=S at bh g1 g2 g3;simp only[Dfn.cs,Sig.cs,dY,dD]at hS g1;rw[hS];clear hS b5 b4 b7
 have m:CK (λG _=>KV G Fault.none.enc) (λG a=>∀f:Fault,a=.iface 36 f.enc->KV G f.enc) s (uA d):=by
  unfold sM at hk;revert hk;cases uA d with
  | none=>exactλhk=>hk
  | some f =>
   intro hk g e;have:f.enc=g.enc:=by injection e
   rw[<-this];exact hk
 clear hk
 have bd:∀{s1:St} (o:Ob),s1.ge S->(s1.setO H o).ge s:=λo hg=>by
  have h:=hg.trans bh;exact⟨λq o' hq=>by rw[aL,aD (λe=>by rw[<-e,bt]at hq;cases hq)];exact h.ob _ _ hq,λt v ht=>h.tk t v ht,λy hy=>h.ls y hy⟩
 have bad:∀(f:Fault) (s1:St) (e:Env),e.get 2=some (.ptr H 0)->(∀g:Fault,A.iface 36 f.enc=.iface 36 g.enc->KV s g.enc)->s1.ge S->yA cx [ResultVar.cell 2 36] (DK KV) (DK Kp) (some H) (.panic (.iface 36 f.enc)) e s1:=by
  intro f s1 e g hb hg;have q2:=hg.ob _ _ g2;simp only[go_sem,q2];refine⟨f.cs,_,rfl,rfl,rfl,rfl,?_⟩;simp only[go_sem,q2,g];exact aG (hb f rfl) (bd _ hg)
 have bv:∀(s1:St) (e:Env),e.get 2=some (.ptr H 0)->KV s Fault.none.enc->s1.ge S->DK KV s1 Fault.none.enc:=λs1 e g hb hg=>aG hb (hg.trans bh)
 unfold uA at m;refine sI (aOP d hd.tm (pH (lO _) hd.pr) hd.nm hd.cl ?_) (by simp only[Dfn.cs,Sig.cs,dY,dD]);cases c1:qU d<;>rw[c1]at m<;>simp only[go_sem,g1,g2,g3]
 .rw[aF rfl]at m;refine fU 2 _ _ _ ?_;exact bad ⟨2,[],0,0⟩ _ _ rfl m (aE _)
 rw[aD dM]at m;refine cF (aPR d.sig hd.op hd.nl ?_);cases c2:qR d.sig<;>rw[c2]at m<;>simp only[go_sem,g1,g2,g3]
 .rw[aF rfl]at m;refine fU 16 _ _ _ ?_;exact bad ⟨16,[],0,0⟩ _ _ rfl m (aE _)
 rw[aD dM]at m
 have hv:d.sig.sorts.length<=40/\d.sig.below.length<=200/\d.sig.ops.length+d.sig.funs.length<=200:=by
  unfold qR at c2;simp only[bP,iY,fO]at c2;omega
 have O:d.once.length<=12/\d.many.length<=12/\d.rules.length<=300/\d.eqs.length<=300:=by
  unfold qU at c1;simp only[bP,iY,fO]at c1;omega
 have hr:∀r,r∈d.rules->r.parts.length<=20/\r.new.length<=20/\r.drop.length<=20:=by
  unfold qU at c1;simp only[bP,iY,fO,dE,bW]at c1;intro r hr;have:=c1.2.2.2.2.2.1 r hr;omega
 (refine bD (OT.r 0 7) [(3,[0])] ?_;simp only[go_sem,g1,g2,g3]);refine cF (aGe d.sig aB aB _ _ _ (λS2 r bf hB=>?_));have Z:=bf.ob _ _ g1;simp only[go_sem,Z];(refine cH λc hc=>?_);have f1:=aI Z (aS hc);have b0:(S2.setO c (.cells 64 (d.cs++[.ptr r 0]))).ge S2:=bG hc (aE S2);have gc:(S2.setO c (.cells 64 (d.cs++[.ptr r 0]))).getO c=some (.cells 64 (d.cs++[.ptr r 0])):=by rw[aL,aF rfl]
 simp only[go_sem,Z,f1];generalize hG:S2.setO c (.cells 64 (d.cs++[.ptr r 0]))=S3 at b0 gc;simp only[Dfn.cs,Sig.cs,dY,dD]at hG;rw[hG];clear hG hc;have hC:CkAt S3 c d:=⟨r,gc,hB.ge b0⟩;have bq:=b0.ob _ _ Z;have hS:=b0.trans bf;have bm:=hS.ob _ _ g2;clear Z gc hB b0 bf
 refine Ex.loop (ι:=Nat) (λi=>[(1,.ptr b1 0),(2,.ptr H 0),(4,.ptr c 0),(29,.list none (d.eqs.map Eqn.enc)),(30,.int .i64 (d.eqs.length:Nat)),(31,.int .i64 (i:Nat))]) (λ_=>S3)
  (λi=>i<=d.eqs.length/\CK (λG x=>KV G Fault.none.enc) (λG a=>∀(f:Fault),a=A.iface 36 f.enc->KV G f.enc) s (aK (bS (xX d.sig) (d.eqs.drop i)) (aK (mW d.sig [] (d.once++d.many)) (aK (xF d) (uG d [] d.rules))))) (λi=>d.eqs.length-i) 0 ⟨aW _,m⟩ ?_ (aE _) ?_
 .simp only[go_sem]
  try exact rfl
 .clear m;rintro i ⟨hi,m⟩;refine aX (V:=vl7) _ _ _ _ ?_;simp only[go_sem]
  (apply aJ<;>intro h)<;>simp only[go_sem,h]
  .have z:i<d.eqs.length:=gQ h;clear h;obtain⟨x,U⟩:=bB z;have M:x∈d.eqs:=bK U;rw[sH _ U,eO]at m;simp only[go_sem,U,z];(refine cH λb6 bg=>?_);have f2:=aI bm (aS bg);have B:(S3.setO b6 (.cells 69 x.cs)).ge S3:=bG bg (aE S3);simp only[Eqn.cs,Tm.cs,dY,dD]at B;simp only[go_sem,U,z,bg,f2];refine sI (aSo (hC.ge B) x (λt ht=>hd.tm t ?_) ?_ (lS m (λm=>?_) (λf O=>?_))) (by simp only[Eqn.cs,Tm.cs,dY,dD])
   .exact iX _ (mC.2 ⟨x,M,ht⟩)
   .have h1:=aBO fL M;have h2:=hd.pr;simp only[eD,gX,aH]at h2;omega
   rotate_left
   .exact bad f _ _ rfl O (B.trans hS)
   simp only[go_sem];exact⟨i+1,⟨z,m⟩,by omega,aU i aB,B⟩
  .have bj:=bQ hi h;subst bj;clear h hi;rw[dP (bJ _)]at m
   replace m:CK (λG x=>KV G Fault.none.enc) (λG a=>∀(f:Fault),a=A.iface 36 f.enc->KV G f.enc) s (aK (mW d.sig [] (d.once++d.many)) (aK (xF d) (uG d [] d.rules))):=m
   refine aPy hC (by rw[aH];omega) (λx U=>?_) (lS m (λm=>?_) (λf O=>?_))
   .have h1:=wN (l:=(d.once++d.many).map Cel.init) (cN.2 ⟨x,U,rfl⟩);have h2:=hd.pr;simp only[eD,gX,aH]at h1 h2;omega
   rotate_left
   .exact bad f _ _ rfl O hS
   simp only[go_sem];refine aPI hC aB aB aB (lS m (λm=>?_) (λf O=>?_));rotate_left
   .exact bad f _ _ rfl O hS
   simp only[go_sem,bq]
   refine Ex.loop (ι:=Nat × Option Nat) (λk=>[(1,.ptr b1 0),(2,.ptr H 0),(4,.ptr c 0),(7,gv k.2 (((d.rules.take k.1).map Rul.name).map .str)),(44,.list none (d.rules.map Rul.enc)),(45,.int .i64 (d.rules.length:Nat)),(46,.int .i64 (k.1:Nat))]) (λk=>gs S3 k.2 ((d.rules.take k.1).map Rul.name).length 9)
    (λk=>k.1<=d.rules.length/\(k.2=none->(d.rules.take k.1).map Rul.name=[])/\(∀t,k.2=some t->S3.getT t=none)/\CK (λG x=>KV G Fault.none.enc) (λG a=>∀(f:Fault),a=A.iface 36 f.enc->KV G f.enc) s (uG d ((d.rules.take k.1).map Rul.name) (d.rules.drop k.1))) (λk=>d.rules.length-k.1) (0,none)
    ⟨aW _,λ_=>rfl,λt h=>(by cases h),m⟩ ?_ (aE _) ?_
   .simp only[go_sem]
    try exact⟨rfl,rfl⟩
   .clear m;rintro⟨i,tk⟩ ⟨hi,hn,O,m⟩;simp only at hi hn O m;refine aX (V:=vl7) _ _ _ _ ?_;have bb:(gs S3 tk ((d.rules.take i).map Rul.name).length 9).ge S3:=fR (aE S3) O;have bp:iV (gs S3 tk ((d.rules.take i).map Rul.name).length 9) tk ((d.rules.take i).map Rul.name).length 9:=fD λe=>by rw[hn e];rfl
    simp only;generalize gs S3 tk ((d.rules.take i).map Rul.name).length 9=S4 at bb bp;have bn:=bb.ob _ _ bm;simp only[go_sem]
    (apply aJ<;>intro h)<;>simp only[go_sem,h]
    .have z:i<d.rules.length:=gQ h;clear h;obtain⟨x,U⟩:=bB z;have M:x∈d.rules:=bK U;obtain⟨bw,bz,c0⟩:=hr x M;rw[aP4 U]at m;simp only[go_sem,U,z];(refine cH λb9 b8=>?_);have f2:=aI bn (aS b8);have B:(S4.setO b9 (.cells 50 x.cs)).ge S4:=bG b8 (aE S4);have g9:(S4.setO b9 (.cells 50 x.cs)).getO b9=some (.cells 50 x.cs):=by rw[aL,aF rfl]
     simp only[go_sem,U,z,b8,f2];generalize hG:S4.setO b9 (.cells 50 x.cs)=S5 at B g9;simp only[Rul.cs]at hG g9;rw[hG];clear hG b8 f2;have bc:=B.trans bb;have bl:=yX bp B
     refine jI (show kC [.ptr c 0,.agg x.cs,gv tk (((d.rules.take i).map Rul.name).map .str)] [.ptr c 0,.agg x.cs,.list none (((d.rules.take i).map Rul.name).map .str)] from⟨bL _,bL _,kJ _ _ (λe=>by rw[hn e];rfl),trivial⟩)
      (aQA (hC.ge bc) aB aB _ x aB (λp hp=>hd.tm _ ?_) ?_ aB aB (lS m (λm=>?_) (λf O=>?_)))
     .exact mA _ (mA _ (mC.2 ⟨x,M,iX _ (mC.2 ⟨p,hp,cQ ..⟩)⟩))
     .have h1:=aBO fX M;have h2:=hd.pr;simp only[eD,gX,aH]at h2;omega
     rotate_left
     .exact bad f _ _ rfl O (bc.trans hS)
     simp only[go_sem,g9];refine⟨by decide,λy hy=>(by rw[bO.1 hy];rfl),dU rfl rfl (by simp only[aO]at bl⊢;exact bl) (λy hy=>fK hy) (by simp only[aO,dT,aV,aZ];omega) (λu hu=>?_)⟩;have br:=aB8 O bc hu;have bk:=eB U;simp only[go_sem];refine⟨(i+1,some u),⟨z,λh=>(by cases h),λt h=>by cases h;exact br,by rw[bk,bU];exact m⟩,aQ,⟨by rw[bk,bU,bU];rfl,aU i aB⟩,?_⟩;show St.ge _ (S3.setT u ((d.rules.take (i+1)).length,9));rw[bk,aH];exact fB bc
    .have bj:=bQ hi h;subst bj;rw[dP (bJ _)]at m
     replace m:KV s Fault.none.enc:=m
     simp only[go_sem,bn];exact aG m (bd _ (bb.trans hS))
theorem aBI(y:DfnC d)(m:KV s (.bool (rO d))):Den cx 9 [.agg d.cs] KV Kp s:=by
 unfold rO at m;(refine aN func9 [0,1,2] ?_;simp only[go_sem,ntmps9,f9]);(refine aM λp z=>?_);simp only[go_sem,z];refine sI (aC8 y ?_) (by simp only[Dfn.cs,Sig.cs,dY,dD]);simp only[go_sem];exact aG m aR
end
end
end Go.AV
