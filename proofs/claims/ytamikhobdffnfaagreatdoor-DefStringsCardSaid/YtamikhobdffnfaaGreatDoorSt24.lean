/-
  Of DefStrings.
-/
import Derived.Test.YtamikhobdffnfaaGreatDoorSt23
set_option linter.all false
set_option maxRecDepth 99999
set_option maxHeartbeats 0
namespace Go.AV
open Go Go.Proofs Tryz
section
def pH (p:Part):A:=.agg (.str p.cell::.str p.at_::(p.left.cs++[nv (p.right.map Tm.enc),.int .i64 p.line,.int .i64 p.col]))
def pT (x:Rul) (tp tn td:Option Nat):Ob:=.cells 84 [.str x.name,gv tp (x.parts.map pH),.nils,gv tn (x.new.map Fresh.enc),gv td (x.drop.map .str),.int .i64 x.line,.int .i64 x.col]
def dG (x:Rul) (tp tn td:Option Nat):List dI:=[(tp,x.parts.length,86),(tn,x.new.length,141),(td,x.drop.length,9)]
def eE (T:List Tok) (fin:Fault) (d:Dc) (first:Tok) (b r:Nat) (s:St) (x:Rul) (tp tn td:Option Nat) (i n:Nat):St:=cX ((s.setO b (pT x tp tn td)).setO r (aN T fin d first i n)) (dG x tp tn td)
structure RulQ (b r:Nat) (s:St) (x:Rul) (tp tn td:Option Nat) (i:Nat):Prop where
 own:OwnOk s (dG x tp tn td)
 hb:s.getO b=none
 ne:b≠r
 l1:x.parts.length≤i
 l2:x.new.length≤i
 l3:x.drop.length≤i
section
variable {T:List Tok} {fin:Fault} {d:Dc} {first:Tok} {i n:Nat} {s:St} {r:Nat} {KV Kp:St→A→Prop}
theorem wB (hT:TOk T) (b:Nat) (x:Rul) (tp tn td:Option Nat) (hQ:RulQ b r s x tp tn td i) (hi:i≤T.length) (hn:n≤2000)
  (hk : (aAj false fin x (T.drop i) n).to (fun x' w n' => ∀ j tp' tn' td',i + 1 ≤ j → j ≤ T.length → T.drop j = w → n' ≤ 2000 → RulQ b r s x' tp' tn' td' j → KV (eE T fin d first b r s x' tp' tn' td' j n') (.tuple []))
   (fun f=>∀ s1 o,s1.gx s r→s1.getO r=some o→Kp s1 (.iface 36 f.enc))):Den cx 224 [.ptr r 0,.ptr b 0] KV Kp (eE T fin d first b r s x tp tn td i n):=by
 obtain ⟨hown,hb,hne,l1,l2,l3⟩:=hQ;have hlenT:=hT.len;have hfr:=hown.free;(refine aO func224 [0,1,4,5,16,27,42,65] ?_;simp only[go_sem,ntmps224,f224]);unfold eE pT;have hneS:=hne.symm;simp only[go_sem,aC,hne,hne.symm];refine hH (T:=T) (fin:=fin) (d:=d) (first:=first) (i:=i) (n:=n) gH hi ?_;cases hw:T.drop i with
 | nil=>rw[hw] at hk;exact aY (hk _ (aN T fin d first i n) aF gH)
 | cons t w =>
  obtain ⟨g1,g2,g3,g4⟩:=iV hw;rw[hw] at hk;simp only[aAj] at hk;simp only[go_sem,aC,hne,hne.symm];(intro b4 hb4;try simp only[aC,aR,aL,ne_eq] at hb4);simp only[go_sem,aC,hne,hne.symm,hb4];refine fR (T:=T) (fin:=fin) (d:=d) (first:=first) (i:=i) (n:=n) _ gH hi hT ?_;rw[hw];cases c1:dF t [110,101,119] with
  | true =>
   rw[if_pos c1,aX,← g3] at hk;simp only[isT,c1];simp only[go_sem,aC,hne,hne.symm,hb4];refine dN (T:=T) (fin:=fin) (d:=d) (first:=first) (i:=i+1) (n:=n) _ gH g2 hT (aI hk (fun _ w2 m2 hk2 hlt2 hw2 hm2=>?_) (fun f h=>cC aF h));subst m2;rw[← hw2,aX] at hk2;simp only[go_sem,aC,hne,hne.symm,hb4];(refine bF (OT.r 0 15) [(8,[4])] ?_;simp only[go_sem,aC,hne,hne.symm,hb4])
   refine eP (oJ gH) (aDH (fin:=fin) (d:=d) (fi:=first) Tm.enc Tm.hz Tm.ho hT (fun _=>True) (fun _ _ _=>Iff.rfl) (fV false fin) 41 [.ptr r 0] []
    (aAn (fun _ _ h=>h) (fun s' i' n' KV' Kp' hr' _ hi' hn' hk'=>oK hT hr' hi' hn' (aI hk' (fun _ _ _ h j hj=>h j (by omega)) (fun _ h=>h)))) (i+1+1) n trivial hlt2 hn ?_)
   refine aI hk2 (fun l w3 m3 hk3 j3 hj3 hjT3 hw3 hm3=>?_) (fun f h s1 o hg hr1=>aY (h _ o (hg.trans aF) hr1));subst hw3;rw[aX] at hk3;simp only[go_sem,aC,hne,hne.symm,hb4];refine ⟨by decide,fun y hy=>by simp only[cY] at hy;subst hy;rfl,fB rfl rfl (by rw[aS];refine lV hown (k:=1) (o:=(tn,x.new.length,141)) rfl ?_;exact fun _=>rfl) (fun y hy=>?_) (by simp only[aS,aD,aG];omega) (fun u hu=>?_)⟩
   ·simp only[cO] at hy;obtain ⟨q,_,rfl⟩:=hy;rfl
   have hown2:=mA hown (k:=1) (o:=(tn,x.new.length,141)) rfl hu (fun _=>rfl) (x.new.length+1);simp only[go_sem,aC,hne,hne.symm,hb4];refine eP (lY hown (k:=1) (o:=(tn,x.new.length,141)) rfl hown2 (fun _=>rfl)) ?_;have hown3:OwnOk s (dG { x with new:=x.new++[⟨l⟩] } tp (some u) td):=by simpa only[dG,aK,aD,aG,nK,oF] using hown2
   rw[show (dG x tp tn td).set 1 (some u,x.new.length+1,(tn,x.new.length,141).snd.snd)=dG { x with new:=x.new++[⟨l⟩] } tp (some u) td by simp[dG]];have hfr3:=hown3.free;refine dN (T:=T) (fin:=fin) (d:=d) (first:=first) (i:=j3) (n:=m3) _ gH hjT3 hT (aI hk3 (fun _ w4 m4 hk4 hlt4 hw4 hm4=>?_) (fun f h=>cC aF h));subst m4;rw[bB] at hk4;simp only[go_sem,aC,hne,hne.symm,hb4];have hk5:=hk4 (j3+1) tp (some u) td (by omega) hlt4 hw4 hm3 ⟨hown3,hb,hne,by simp only;omega,by simp only[aK,aD,aG];omega,by simp only;omega⟩;refine aH hk5 ?_;unfold eE;refine hU ?_;simp only[pT,dT,dQ,bU,bD,pH,nv,Tm.cs,bP,bO,bY];exact bL
  | false =>
   rw[if_neg (by simp[c1])] at hk;simp only[isT,c1];simp only[go_sem,aC,hne,hne.symm,hb4];refine fR (T:=T) (fin:=fin) (d:=d) (first:=first) (i:=i) (n:=n) _ gH hi hT ?_;rw[hw];cases c2:dF t [100,114,111,112] with
   | true =>
    rw[if_pos c2,aX,← g3] at hk;simp only[isT,c2];simp only[go_sem,aC,hne,hne.symm,hb4];refine dN (T:=T) (fin:=fin) (d:=d) (first:=first) (i:=i+1) (n:=n) _ gH g2 hT (aI hk (fun _ w2 m2 hk2 hlt2 hw2 hm2=>?_) (fun f h=>cC aF h));subst m2;rw[← hw2,aX] at hk2;simp only[go_sem,aC,hne,hne.symm,hb4];(refine bF (OT.r 0 12) [(6,[4])] ?_;simp only[go_sem,aC,hne,hne.symm,hb4]);refine fA (T:=T) (fin:=fin) (d:=d) (first:=first) (i:=i+1+1) (n:=n) gH hlt2 hT (aI hk2 (fun y w3 m3 hk3 hlt3 hw3 hm3=>?_) (fun f h=>cC aF h));subst m3;rw[bB] at hk3;simp only[go_sem,aC,hne,hne.symm,hb4];refine ⟨by decide,fun y hy=>by simp only[cY] at hy;subst hy;rfl,fB rfl rfl (by rw[aS];refine lV hown (k:=2) (o:=(td,x.drop.length,9)) rfl ?_;exact fun _=>rfl) (fun y hy=>?_) (by simp only[aS,aD,aG];omega) (fun u hu=>?_)⟩
    ·simp only[cO] at hy;obtain ⟨q,_,rfl⟩:=hy;rfl
    have hown2:=mA hown (k:=2) (o:=(td,x.drop.length,9)) rfl hu (fun _=>rfl) (x.drop.length+1);have hown3:OwnOk s (dG { x with drop:=x.drop++[y] } tp tn (some u)):=by simpa only[dG,aK,aD,aG,nK,oF] using hown2
    simp only[go_sem,aC,hne,hne.symm,hb4];have hk5:=hk3 (i+1+1+1) tp tn (some u) (by omega) hlt3 hw3 hn ⟨hown3,hb,hne,by simp only;omega,by simp only;omega,by simp only[aK,aD,aG];omega⟩;refine aH hk5 (St.ge.trans (lY hown (k:=2) (o:=(td,x.drop.length,9)) rfl hown2 (fun _=>rfl)) ?_);unfold eE;rw[show (dG x tp tn td).set 2 (some u,x.drop.length+1,(td,x.drop.length,9).snd.snd)=dG { x with drop:=x.drop++[y] } tp tn (some u) by simp[dG]];refine hU ?_;simp only[pT,dT,dQ,bU,bD,pH,nv,Tm.cs,bP,bO,bY];exact bL
   | false =>
    rw[if_neg (by simp[c2]),aX,← hw] at hk;simp only[isT,c2];simp only[go_sem,aC,hne,hne.symm,hb4];(refine bF (OT.l [0,2,3,4,5,1,6,7,8] .nil) [(1,[3,5]),(7,[3,5])] ?_;simp only[go_sem,aC,hne,hne.symm,hb4]);refine fA (T:=T) (fin:=fin) (d:=d) (first:=first) (i:=i) (n:=n) gH hi hT (aI hk (fun y w3 m3 hk3 hlt3 hw3 hm3=>?_) (fun f h=>cC aF h));subst m3;rw[← hw3] at hk3;simp only[go_sem,aC,hne,hne.symm,hb4];(intro b5 hb5;try simp only[aC,aR,aL,ne_eq] at hb5);simp only[go_sem,aC,hne,hne.symm,hb4,hb5];refine fR (T:=T) (fin:=fin) (d:=d) (first:=first) (i:=i+1) (n:=n) _ gH hlt3 hT ?_;rw[aX] at hk3;cases c3:isT [64] (T.drop (i+1)) with
    | true =>
     rw[if_pos c3,jS] at hk3;have hlt4:=iM c3;simp only[go_sem,aC,hne,hne.symm,hb4,hb5];refine fA (T:=T) (fin:=fin) (d:=d) (first:=first) (i:=i+1+1) (n:=n) gH hlt4 hT (aI hk3 (fun y2 w4 m4 hk4 hlt4 hw4 hm4=>?_) (fun f h=>cC aF h));subst m4;rw[← hw4] at hk4;simp only[go_sem,aC,hne,hne.symm,hb4,hb5];rw[aX] at hk4;refine dN (T:=T) (fin:=fin) (d:=d) (first:=first) (i:=i+1+1+1) (n:=n) _ gH hlt4 hT (aI hk4 (fun _ w5 m5 hk5 hlt5 hw5 hm5=>?_) (fun f h=>cC aF h));subst m5;rw[← hw5,aX] at hk5;simp only[go_sem,aC,hne,hne.symm,hb4,hb5];refine oK (T:=T) (fin:=fin) (d:=d) (first:=first) (i:=i+1+1+1+1) (n:=n) hT gH hlt5 hn (aI hk5 (fun l6 w6 m6 hk6 j6 hj6 hjT6 hw6 hm6=>?_) (fun f h=>cC aF h));rw[← hw6,aX] at hk6;simp only[go_sem,aC,hne,hne.symm,hb4,hb5,bY];refine fR (T:=T) (fin:=fin) (d:=d) (first:=first) (i:=j6) (n:=m6) _ gH hjT6 hT ?_;cases c4:isT [61,62] (T.drop j6) with
     | true =>
      rw[if_pos c4,jS,aX] at hk6;have hlt7:=iM c4;simp only[go_sem,aC,hne,hne.symm,hb4,hb5];refine oK (T:=T) (fin:=fin) (d:=d) (first:=first) (i:=j6+1) (n:=m6) hT gH hlt7 hm6 (aI hk6 (fun l8 w8 m8 hk8 j8 hj8 hjT8 hw8 hm8=>?_) (fun f h=>cC aF h));rw[bB,← hw8,bB] at hk8;simp only[go_sem,aC,hne,hne.symm,hb4,hb5,bY];(refine bF (OT.r 0 11) [] ?_;simp only[go_sem,aC,hne,hne.symm,hb4,hb5])
      (try simp only[go_sem,aC,hne,hne.symm,hb4,hb5])
      refine ⟨by decide,fun y hy=>by simp only[cY] at hy;subst hy;rfl,fB rfl rfl (by rw[aS];refine lV hown (k:=0) (o:=(tp,x.parts.length,86)) rfl ?_;exact fun _=>rfl) (fun y hy=>?_) (by simp only[aS,aD,aG];omega) (fun u hu=>?_)⟩
      ·simp only[cO] at hy;obtain ⟨q,_,rfl⟩:=hy;rfl
      have hown2:=mA hown (k:=0) (o:=(tp,x.parts.length,86)) rfl hu (fun _=>rfl) (x.parts.length+1);have hown3:OwnOk s (dG { x with parts:=x.parts++[⟨y,y2,l6,[l8],t.line,t.col⟩] } (some u) tn td):=by simpa only[dG,aK,aD,aG,nK,oF] using hown2
      simp only[go_sem,aC,hne,hne.symm,hb4,hb5];have hk5:=hk8 (j8) (some u) tn td (by omega) hjT8 rfl hm8 ⟨hown3,hb,hne,by simp only[aK,aD,aG];omega,by simp only;omega,by simp only;omega⟩;refine aH hk5 (St.ge.trans (lY hown (k:=0) (o:=(tp,x.parts.length,86)) rfl hown2 (fun _=>rfl)) ?_);unfold eE;rw[show (dG x tp tn td).set 0 (some u,x.parts.length+1,(tp,x.parts.length,86).snd.snd)=dG { x with parts:=x.parts++[⟨y,y2,l6,[l8],t.line,t.col⟩] } (some u) tn td by simp[dG]];refine hU ?_;simp only[pT,dT,dQ,bU,bD,pH,nv,Tm.cs,bP,bO,bY];exact bL
     | false =>
      rw[if_neg (by simp[c4]),bB,bB] at hk6;simp only[go_sem,aC,hne,hne.symm,hb4,hb5];(refine bF (OT.r 0 11) [] ?_;simp only[go_sem,aC,hne,hne.symm,hb4,hb5])
      (try simp only[go_sem,aC,hne,hne.symm,hb4,hb5])
      refine ⟨by decide,fun y hy=>by simp only[cY] at hy;subst hy;rfl,fB rfl rfl (by rw[aS];refine lV hown (k:=0) (o:=(tp,x.parts.length,86)) rfl ?_;exact fun _=>rfl) (fun y hy=>?_) (by simp only[aS,aD,aG];omega) (fun u hu=>?_)⟩
      ·simp only[cO] at hy;obtain ⟨q,_,rfl⟩:=hy;rfl
      have hown2:=mA hown (k:=0) (o:=(tp,x.parts.length,86)) rfl hu (fun _=>rfl) (x.parts.length+1);have hown3:OwnOk s (dG { x with parts:=x.parts++[⟨y,y2,l6,[],t.line,t.col⟩] } (some u) tn td):=by simpa only[dG,aK,aD,aG,nK,oF] using hown2
      simp only[go_sem,aC,hne,hne.symm,hb4,hb5];have hk5:=hk6 (j6) (some u) tn td (by omega) hjT6 rfl hm6 ⟨hown3,hb,hne,by simp only[aK,aD,aG];omega,by simp only;omega,by simp only;omega⟩;refine aH hk5 (St.ge.trans (lY hown (k:=0) (o:=(tp,x.parts.length,86)) rfl hown2 (fun _=>rfl)) ?_);unfold eE;rw[show (dG x tp tn td).set 0 (some u,x.parts.length+1,(tp,x.parts.length,86).snd.snd)=dG { x with parts:=x.parts++[⟨y,y2,l6,[],t.line,t.col⟩] } (some u) tn td by simp[dG]];refine hU ?_;simp only[pT,dT,dQ,bU,bD,pH,nv,Tm.cs,bP,bO,bY];exact bL
    | false =>
     rw[if_neg (by simp[c3]),bB] at hk3;simp only[go_sem,aC,hne,hne.symm,hb4,hb5];rw[aX] at hk3;refine dN (T:=T) (fin:=fin) (d:=d) (first:=first) (i:=i+1) (n:=n) _ gH hlt3 hT (aI hk3 (fun _ w5 m5 hk5 hlt5 hw5 hm5=>?_) (fun f h=>cC aF h));subst m5;rw[← hw5,aX] at hk5;simp only[go_sem,aC,hne,hne.symm,hb4,hb5];refine oK (T:=T) (fin:=fin) (d:=d) (first:=first) (i:=i+1+1) (n:=n) hT gH hlt5 hn (aI hk5 (fun l6 w6 m6 hk6 j6 hj6 hjT6 hw6 hm6=>?_) (fun f h=>cC aF h));rw[← hw6,aX] at hk6;simp only[go_sem,aC,hne,hne.symm,hb4,hb5,bY];refine fR (T:=T) (fin:=fin) (d:=d) (first:=first) (i:=j6) (n:=m6) _ gH hjT6 hT ?_;cases c4:isT [61,62] (T.drop j6) with
     | true =>
      rw[if_pos c4,jS,aX] at hk6;have hlt7:=iM c4;simp only[go_sem,aC,hne,hne.symm,hb4,hb5];refine oK (T:=T) (fin:=fin) (d:=d) (first:=first) (i:=j6+1) (n:=m6) hT gH hlt7 hm6 (aI hk6 (fun l8 w8 m8 hk8 j8 hj8 hjT8 hw8 hm8=>?_) (fun f h=>cC aF h));rw[bB,← hw8,bB] at hk8;simp only[go_sem,aC,hne,hne.symm,hb4,hb5,bY];(refine bF (OT.r 0 11) [] ?_;simp only[go_sem,aC,hne,hne.symm,hb4,hb5])
      (try simp only[go_sem,aC,hne,hne.symm,hb4,hb5])
      refine ⟨by decide,fun y hy=>by simp only[cY] at hy;subst hy;rfl,fB rfl rfl (by rw[aS];refine lV hown (k:=0) (o:=(tp,x.parts.length,86)) rfl ?_;exact fun _=>rfl) (fun y hy=>?_) (by simp only[aS,aD,aG];omega) (fun u hu=>?_)⟩
      ·simp only[cO] at hy;obtain ⟨q,_,rfl⟩:=hy;rfl
      have hown2:=mA hown (k:=0) (o:=(tp,x.parts.length,86)) rfl hu (fun _=>rfl) (x.parts.length+1);have hown3:OwnOk s (dG { x with parts:=x.parts++[⟨y,[],l6,[l8],t.line,t.col⟩] } (some u) tn td):=by simpa only[dG,aK,aD,aG,nK,oF] using hown2
      simp only[go_sem,aC,hne,hne.symm,hb4,hb5];have hk5:=hk8 (j8) (some u) tn td (by omega) hjT8 rfl hm8 ⟨hown3,hb,hne,by simp only[aK,aD,aG];omega,by simp only;omega,by simp only;omega⟩;refine aH hk5 (St.ge.trans (lY hown (k:=0) (o:=(tp,x.parts.length,86)) rfl hown2 (fun _=>rfl)) ?_);unfold eE;rw[show (dG x tp tn td).set 0 (some u,x.parts.length+1,(tp,x.parts.length,86).snd.snd)=dG { x with parts:=x.parts++[⟨y,[],l6,[l8],t.line,t.col⟩] } (some u) tn td by simp[dG]];refine hU ?_;simp only[pT,dT,dQ,bU,bD,pH,nv,Tm.cs,bP,bO,bY];exact bL
     | false =>
      rw[if_neg (by simp[c4]),bB,bB] at hk6;simp only[go_sem,aC,hne,hne.symm,hb4,hb5];(refine bF (OT.r 0 11) [] ?_;simp only[go_sem,aC,hne,hne.symm,hb4,hb5])
      (try simp only[go_sem,aC,hne,hne.symm,hb4,hb5])
      refine ⟨by decide,fun y hy=>by simp only[cY] at hy;subst hy;rfl,fB rfl rfl (by rw[aS];refine lV hown (k:=0) (o:=(tp,x.parts.length,86)) rfl ?_;exact fun _=>rfl) (fun y hy=>?_) (by simp only[aS,aD,aG];omega) (fun u hu=>?_)⟩
      ·simp only[cO] at hy;obtain ⟨q,_,rfl⟩:=hy;rfl
      have hown2:=mA hown (k:=0) (o:=(tp,x.parts.length,86)) rfl hu (fun _=>rfl) (x.parts.length+1);have hown3:OwnOk s (dG { x with parts:=x.parts++[⟨y,[],l6,[],t.line,t.col⟩] } (some u) tn td):=by simpa only[dG,aK,aD,aG,nK,oF] using hown2
      simp only[go_sem,aC,hne,hne.symm,hb4,hb5];have hk5:=hk6 (j6) (some u) tn td (by omega) hjT6 rfl hm6 ⟨hown3,hb,hne,by simp only[aK,aD,aG];omega,by simp only;omega,by simp only;omega⟩;refine aH hk5 (St.ge.trans (lY hown (k:=0) (o:=(tp,x.parts.length,86)) rfl hown2 (fun _=>rfl)) ?_);unfold eE;rw[show (dG x tp tn td).set 0 (some u,x.parts.length+1,(tp,x.parts.length,86).snd.snd)=dG { x with parts:=x.parts++[⟨y,[],l6,[],t.line,t.col⟩] } (some u) tn td by simp[dG]];refine hU ?_;simp only[pT,dT,dQ,bU,bD,pH,nv,Tm.cs,bP,bO,bY];exact bL
end
end
section
section
variable {T:List Tok} {fin:Fault} {d:Dc} {first:Tok} {i n:Nat} {s:St} {r:Nat} {KV Kp:St→A→Prop}
theorem aNo (tk:Option Nat) {es fs:List A} (h:tk=none→es=[]) (hl:uY es fs):A.le (gv tk es) (.list none fs):=by
 cases tk with
 | none =>
  rw[h rfl] at hl;have:fs=[]:=eJ (by rw[← aCe hl];rfl);rw[this];exact A.le.nil
 | some t=>exact fun g v hv=>(A.le.list hl) g v ((A.le.forget t es) g v hv)
theorem aIr (ps:List Part):uY (ps.map pH) (ps.map Part.enc):=by
 induction ps with
 | nil=>trivial
 | cons p ps ih =>
  refine ⟨?_,ih⟩;simp only[pH,Part.enc,Part.cs,A.cells,Tm.cs,bP,bO];exact ⟨⟨bM _,rfl⟩,⟨bM _,rfl⟩,⟨bM _,rfl⟩,⟨bM _,rfl⟩,⟨bM _,rfl⟩,⟨bM _,rfl⟩,⟨bM _,rfl⟩,⟨bM _,rfl⟩,⟨aG6 _,rfl⟩,⟨bM _,rfl⟩,⟨bM _,rfl⟩,trivial⟩
theorem aKI (hT:TOk T) (t:Tok) (hr:s.getO r=some (aN T fin d first i n)) (hi:i≤T.length) (hn:n≤2000)
  (hk:(aC2 false fin t.line t.col (T.drop i) n).to (PK T i (fun j m=>s.setO r (aN T fin d first j m)) Rul.enc KV) (PB s r Kp)):Den cx 154 [.ptr r 0,t.enc] KV Kp s:=by
 have hlenT:=hT.len;simp only[aC2,aX] at hk;simp only[go_sem];(refine aO func154 [0,1,3,4,5,6,7,8,19,42] ?_;simp only[go_sem,ntmps154,f154]);(intro b3 hb3;try simp only[aL,aR,ne_eq] at hb3);have e3:=bN hr (by first|exact hb3|exact hb3.2|exact hb3.2.2|exact hb3.2.2.2|exact hb3.2.2.2.2|exact hb3.2.2.2.2.2|exact hb3.2.2.2.2.2.2);simp only[go_sem,hb3,e3];(intro b4 hb4;try simp only[aL,aR,ne_eq] at hb4);have e4:=bN hr (by first|exact hb4|exact hb4.2|exact hb4.2.2|exact hb4.2.2.2|exact hb4.2.2.2.2|exact hb4.2.2.2.2.2|exact hb4.2.2.2.2.2.2);simp only[go_sem,hb3,e3,hb4,e4];(refine bF (OT.l [0,2,3,4,5,1,6,7,8] .nil) [(1,[3,5]),(7,[3,5])] ?_;simp only[go_sem,hb3,e3,hb4,e4]);(refine fA (T:=T) (fin:=fin) (d:=d) (first:=first) (i:=i) (n:=n) gH hi hT (aI hk (fun x1 w1 m1 hk1 hlt1 hw1 hm1=>?_) (fun f h=>PB.mk aF h));subst m1;rw[← hw1] at hk1);simp only[go_sem,hb3,e3,hb4,e4];(intro b5 hb5;try simp only[aL,aR,ne_eq] at hb5);have e5:=bN hr (by first|exact hb5|exact hb5.2|exact hb5.2.2|exact hb5.2.2.2|exact hb5.2.2.2.2|exact hb5.2.2.2.2.2|exact hb5.2.2.2.2.2.2);simp only[go_sem,hb3,e3,hb4,e4,hb5,e5];(refine dN (T:=T) (fin:=fin) (d:=d) (first:=first) (i:=i+1) (n:=n) _ gH hlt1 hT (aI hk1 (fun _ w2 m2 hk2 hlt2 hw2 hm2=>?_) (fun f h=>PB.mk aF h));subst m2;rw[← hw2] at hk2);simp only[go_sem,hb3,e3,hb4,e4,hb5,e5];rw[show (T.drop (i+1+1)).length=T.length-(i+1+1) by rw[cH]] at hk2
 have h5:((s.setO b3 (.cells 60 t.cs)).setO b4 (.cells 84 [.str [],.nils,.nils,.nils,.nils,.int .i64 0,.int .i64 0])).getO b5=none:=by
  rw[aE,if_neg hb5.2.1.1,aE,if_neg hb5.2.2.1.1];exact hb5.2.2.2
 generalize hs2:(s.setO b3 (.cells 60 t.cs)).setO b4 (.cells 84 [.str [],.nils,.nils,.nils,.nils,.int .i64 0,.int .i64 0])=s2 at h5
 have hs2O:∀ b o,s.getO b=some o→s2.getO b=some o:=fun b o h=>by
  subst hs2;rw[aE,if_neg (fun e=>by subst e;rw[hb4.2] at h;cases h),aE,if_neg (fun e=>by subst e;rw[hb3] at h;cases h)];exact h
 have hs2g:s2.ge s:=⟨hs2O,fun u m hm=>by subst hs2;exact hm,fun x hx=>by subst hs2;exact hx⟩;have hg2:∀ s1:St,s1.gx s2 r→s1.gx s r:=fun s1 h=>⟨fun c hc x hx=>h.ob c hc x (hs2O c x hx),fun u m hm=>h.tk u m (by subst hs2;exact hm),fun x hx=>h.ls x (by subst hs2;exact hx)⟩
 have h24:s2.getO b4=some (.cells 84 [.str [],.nils,.nils,.nils,.nils,.int .i64 0,.int .i64 0]):=by subst hs2;rw[aE,if_pos rfl]
 have PBk:∀ (s1:St) (f:Fault),s1.gx s2 r→PB s r Kp f→PB s1 r (DK Kp) f:=fun s1 f hg h o=>h.at (dA (hg2 _ hg)) (by rw[aE,if_pos rfl])
 refine Ex.loop (ι:=(Rul × Option Nat × Option Nat × Option Nat) × Nat × Bool × Nat × Nat) (fun c=>[(0,.ptr r 0),(3,.ptr b3 0),(4,.ptr b4 0),(5,.ptr b5 0),(6,.int .i64 c.2.1),(7,.bool c.2.2.1)])
  (fun c=>eE T fin d first b5 r s2 c.1.1 c.1.2.1 c.1.2.2.1 c.1.2.2.2 c.2.2.2.1 c.2.2.2.2)
  (fun c => RulQ b5 r s2 c.1.1 c.1.2.1 c.1.2.2.1 c.1.2.2.2 c.2.2.2.1 ∧ c.2.1 ≤ c.2.2.2.1 ∧ i + 1 + 1 ≤ c.2.2.2.1 ∧ c.2.2.2.1 ≤ T.length ∧ c.2.2.2.2 ≤ 2000 ∧
   (match c.2.2.1 with
    | true=>∃ k,T.length-c.2.2.2.1<k∧(bZ fin [59] (zY false fin) k (c.1.1,c.2.1) (T.drop c.2.2.2.1) c.2.2.2.2).to (fun a w n=>(qP false fin w n).to (fun l w n=>PK T i (fun j m=>s.setO r (aN T fin d first j m)) Rul.enc KV { a.1 with cond:=l } w n) (PB s r Kp)) (PB s r Kp)
    | false=>(qP false fin (T.drop c.2.2.2.1) c.2.2.2.2).to (fun l w n=>PK T i (fun j m=>s.setO r (aN T fin d first j m)) Rul.enc KV { c.1.1 with cond:=l } w n) (PB s r Kp)))
  (fun c=>T.length-c.2.2.2.1) ((⟨x1,[],[],[],[],t.line,t.col⟩,none,none,none),0,true,i+1+1,n) ?_ ?_ ?_ ?_
 ·refine ⟨⟨⟨?_,?_,?_⟩,h5,hb5.1.2,bS _,bS _,bS _⟩,bS _,bG _,hlt2,hn,_,fK _,hk2⟩
  ·intro o ho u hu;simp only[dG,eW,rK,jU] at ho;rcases ho with rfl|rfl|rfl<;>cases hu
  ·intro o ho _;simp only[dG,eW,rK,jU] at ho;rcases ho with rfl|rfl|rfl<;>rfl
  ·intro i j a b u hi hj ha hb;have:=dP hi;simp only[dG,eW,rK,jU] at this;rcases this with rfl|rfl|rfl<;>cases ha
 ·simp only[go_sem,hb3,e3,hb4,e4,hb5,e5];rfl
 ·show St.ge _ ((s2.setO b5 _).setO r _);subst hs2;exact bL
 ·rintro ⟨⟨x,tp,tn,td⟩,cnt,more,i2,n2⟩ ⟨hQ,hcnt,hi1,hi2,hn2,hk3⟩;simp only at hQ hcnt hi1 hi2 hn2 hk3;have hQ0:=hQ;obtain ⟨hown,hb,hne,l1,l2,l3⟩:=hQ;have hfr:=hown.free;have n45:=hb5.2.1.1;have n54:=hb5.2.1.2;refine cL (V:=[0,1,3,4,5,6,7,8,19,42]) _ _ _ _ ?_;cases more with
  | false =>
   simp only at hk3;unfold eE pT;have hneS:=hne.symm;simp only[go_sem,aC,hne,hne.symm,h24,e4,n45,n54];refine aE6 (T:=T) (fin:=fin) (d:=d) (first:=first) (i:=i2) (n:=n2) hT gH hi2 hn2 (aI hk3 (fun l w m hk4 j hj hjT hw hm=>?_) (fun f h=>PBk _ _ aF h));simp only[go_sem,aC,hne,hne.symm,h24,e4,n45,n54];refine ⟨by cases tp<;>cases tn<;>cases td<;>rfl,?_⟩;refine DK.mk (hk4 j (by omega) hjT hw hm) (aFe bL (fun o ho u hu=>by have:=hfr o ho u hu;subst hs2;exact this)) ?_;simp only[Rul.enc,Rul.cs];have z1:tp=none→x.parts=[]:=fun e=>eJ (hown.nil (tp,x.parts.length,86) (by simp[dG]) e)
   have z2:tn=none→x.new=[]:=fun e=>eJ (hown.nil (tn,x.new.length,141) (by simp[dG]) e)
   have z3:td=none→x.drop=[]:=fun e=>eJ (hown.nil (td,x.drop.length,9) (by simp[dG]) e)
   exact A.le.agg ⟨⟨bM _,rfl⟩,⟨aNo tp (fun e=>by rw[z1 e];rfl) (aIr _),rfl⟩,⟨bM _,rfl⟩,⟨mZ tn _ (fun e=>by rw[z2 e];rfl),rfl⟩,⟨mZ td _ (fun e=>by rw[z3 e];rfl),rfl⟩,⟨bM _,rfl⟩,⟨bM _,rfl⟩,trivial⟩
  | true =>
   obtain ⟨k,hk3,hk4⟩:=hk3;obtain ⟨k,rfl⟩:∃ k',k=k'+1:=⟨k-1,by omega⟩
   rw[bZ,aX] at hk4;have hneS:=hne.symm;simp only[go_sem,aC,hne,hne.symm,h24,e4,n45,n54];refine hH (T:=T) (fin:=fin) (d:=d) (first:=first) (i:=i2) (n:=n2) (by unfold eE;rw[aC,aE,if_pos rfl]) hi2 ?_;cases hw:T.drop i2 with
   | nil =>
    rw[hw] at hk4;exact hk4.at (hg2 (eE T fin d first b5 r s2 x tp tn td i2 n2) (by unfold eE;exact aF)) (o:=aN T fin d first i2 n2) (by unfold eE;rw[aC,aE,if_pos rfl])
   | cons t2 w =>
    obtain ⟨g1,g2,g3,g4⟩:=iV hw;rw[hw] at hk4;simp only[zY] at hk4;simp only[go_sem,aC,hne,hne.symm,h24,e4,n45,n54];intro b8 hb8
    have hpart:((t2.kind=1∧(¬ t2.text∈dE∨t2.text=[110,101,119]∨t2.text=[100,114,111,112]))→¬ 20≤cnt)→(aAj false fin x (T.drop i2) n2).to (fun x' w n=>(if isT [59] w=true then bZ fin [59] (zY false fin) k (x',cnt+1) w.tail n else Rd.ok (x',cnt+1) w n).to
      (fun a w n=>(qP false fin w n).to (fun l w n=>PK T i (fun j m=>s.setO r (aN T fin d first j m)) Rul.enc KV { a.1 with cond:=l } w n) (PB s r Kp)) (PB s r Kp)) (PB s r Kp):=fun h=>by
     rw[hw];rw[if_neg (fun hc=>h hc.1 hc.2),aX] at hk4;exact hk4
    simp only[go_sem,aC,hne,hne.symm,h24,e4,n45,n54];cases c1:decide (t2.kind=1)
    ·have hk5:=hpart (fun hc=>by have:=hc.1;simp[this] at c1);simp only[go_sem,aC,hne,hne.symm,h24,e4,n45,n54,c1];refine eP (dM hb8) ?_;refine wB hT b5 x tp tn td hQ0 hi2 hn2 (aI hk5 (fun x' w1 m1 hk6 j tp' tn' td' hj hjT hw1 hm1 hQ'=>?_) (fun f h s1 o hg hr1=>h.at (hg2 _ hg) hr1));subst hw1;simp only[go_sem,aC,hne,hne.symm,h24,e4,n45,n54,cJ cnt (by omega)];refine fR (T:=T) (fin:=fin) (d:=d) (first:=first) (i:=j) (n:=m1) _ (by unfold eE;rw[aC,aE,if_pos rfl]) hjT hT ?_;cases c9:isT [59] (T.drop j) with
     | true =>
      rw[if_pos c9,jS] at hk6;have hlt9:=iM c9;simp only[go_sem,aC,hne,hne.symm,h24,e4,n45,n54];refine ⟨((x',tp',tn',td'),cnt+1,true,j+1,m1),⟨⟨hQ'.own,hQ'.hb,hQ'.ne,by have:=hQ'.l1;simp only;omega,by have:=hQ'.l2;simp only;omega,by have:=hQ'.l3;simp only;omega⟩,by simp only;omega,by simp only;omega,hlt9,hm1,k,by simp only;omega,hk6⟩,by simp only;omega,?_⟩;refine ⟨⟨rfl,rfl⟩,?_⟩;unfold eE;rw[rU,lU];exact bW _
     | false =>
      rw[if_neg (by simp[c9]),bB] at hk6;simp only[go_sem,aC,hne,hne.symm,h24,e4,n45,n54];refine ⟨((x',tp',tn',td'),cnt+1,false,j,m1),⟨hQ',by simp only;omega,by simp only;omega,hjT,hm1,hk6⟩,by simp only;omega,?_⟩;exact ⟨⟨rfl,rfl⟩,bW _⟩
    simp only[go_sem,aC,hne,hne.symm,h24,e4,n45,n54,c1];refine oY _ _ _ _ ?_;simp only[go_sem,aC,hne,hne.symm,h24,e4,n45,n54];cases c2:decide (t2.text∈dE)
    ·simp only[go_sem,aC,hne,hne.symm,h24,e4,n45,n54,c2];refine eP (dM hb8) ?_;refine jT (T:=T) (fin:=fin) (d:=d) (first:=first) (i:=i2) (n:=n2) _ _ (by unfold eE;rw[aC,aE,if_pos rfl]) hi2 ?_;by_cases h20:20≤cnt
     ·rw[if_pos ⟨⟨by simpa using c1,.inl (by simpa using c2)⟩,h20⟩,cV] at hk4;rw[if_pos (by omega),hw];exact PBk _ _ (by unfold eE;exact aF) hk4
     rw[if_neg (by omega)];have hk5:=hpart (fun _=>h20);simp only[go_sem,aC,hne,hne.symm,h24,e4,n45,n54];refine wB hT b5 x tp tn td hQ0 hi2 hn2 (aI hk5 (fun x' w1 m1 hk6 j tp' tn' td' hj hjT hw1 hm1 hQ'=>?_) (fun f h s1 o hg hr1=>h.at (hg2 _ hg) hr1));subst hw1;simp only[go_sem,aC,hne,hne.symm,h24,e4,n45,n54,cJ cnt (by omega)];refine fR (T:=T) (fin:=fin) (d:=d) (first:=first) (i:=j) (n:=m1) _ (by unfold eE;rw[aC,aE,if_pos rfl]) hjT hT ?_;cases c9:isT [59] (T.drop j) with
     | true =>
      rw[if_pos c9,jS] at hk6;have hlt9:=iM c9;simp only[go_sem,aC,hne,hne.symm,h24,e4,n45,n54];refine ⟨((x',tp',tn',td'),cnt+1,true,j+1,m1),⟨⟨hQ'.own,hQ'.hb,hQ'.ne,by have:=hQ'.l1;simp only;omega,by have:=hQ'.l2;simp only;omega,by have:=hQ'.l3;simp only;omega⟩,by simp only;omega,by simp only;omega,hlt9,hm1,k,by simp only;omega,hk6⟩,by simp only;omega,?_⟩;refine ⟨⟨rfl,rfl⟩,?_⟩;unfold eE;rw[rU,lU];exact bW _
     | false =>
      rw[if_neg (by simp[c9]),bB] at hk6;simp only[go_sem,aC,hne,hne.symm,h24,e4,n45,n54];refine ⟨((x',tp',tn',td'),cnt+1,false,j,m1),⟨hQ',by simp only;omega,by simp only;omega,hjT,hm1,hk6⟩,by simp only;omega,?_⟩;exact ⟨⟨rfl,rfl⟩,bW _⟩
    simp only[go_sem,aC,hne,hne.symm,h24,e4,n45,n54,c2];cases c3:decide (t2.text=[110,101,119]);rotate_left
    ·simp only[go_sem,aC,hne,hne.symm,h24,e4,n45,n54,c3];refine eP (dM hb8) ?_;refine jT (T:=T) (fin:=fin) (d:=d) (first:=first) (i:=i2) (n:=n2) _ _ (by unfold eE;rw[aC,aE,if_pos rfl]) hi2 ?_;by_cases h20:20≤cnt
     ·rw[if_pos ⟨⟨by simpa using c1,.inr (.inl (by simpa using c3))⟩,h20⟩,cV] at hk4;rw[if_pos (by omega),hw];exact PBk _ _ (by unfold eE;exact aF) hk4
     rw[if_neg (by omega)];have hk5:=hpart (fun _=>h20);simp only[go_sem,aC,hne,hne.symm,h24,e4,n45,n54];refine wB hT b5 x tp tn td hQ0 hi2 hn2 (aI hk5 (fun x' w1 m1 hk6 j tp' tn' td' hj hjT hw1 hm1 hQ'=>?_) (fun f h s1 o hg hr1=>h.at (hg2 _ hg) hr1));subst hw1;simp only[go_sem,aC,hne,hne.symm,h24,e4,n45,n54,cJ cnt (by omega)];refine fR (T:=T) (fin:=fin) (d:=d) (first:=first) (i:=j) (n:=m1) _ (by unfold eE;rw[aC,aE,if_pos rfl]) hjT hT ?_;cases c9:isT [59] (T.drop j) with
     | true =>
      rw[if_pos c9,jS] at hk6;have hlt9:=iM c9;simp only[go_sem,aC,hne,hne.symm,h24,e4,n45,n54];refine ⟨((x',tp',tn',td'),cnt+1,true,j+1,m1),⟨⟨hQ'.own,hQ'.hb,hQ'.ne,by have:=hQ'.l1;simp only;omega,by have:=hQ'.l2;simp only;omega,by have:=hQ'.l3;simp only;omega⟩,by simp only;omega,by simp only;omega,hlt9,hm1,k,by simp only;omega,hk6⟩,by simp only;omega,?_⟩;refine ⟨⟨rfl,rfl⟩,?_⟩;unfold eE;rw[rU,lU];exact bW _
     | false =>
      rw[if_neg (by simp[c9]),bB] at hk6;simp only[go_sem,aC,hne,hne.symm,h24,e4,n45,n54];refine ⟨((x',tp',tn',td'),cnt+1,false,j,m1),⟨hQ',by simp only;omega,by simp only;omega,hjT,hm1,hk6⟩,by simp only;omega,?_⟩;exact ⟨⟨rfl,rfl⟩,bW _⟩
    simp only[go_sem,aC,hne,hne.symm,h24,e4,n45,n54,c3];cases c4:decide (t2.text=[100,114,111,112]);rotate_left
    ·simp only[go_sem,aC,hne,hne.symm,h24,e4,n45,n54,c4];refine eP (dM hb8) ?_;refine jT (T:=T) (fin:=fin) (d:=d) (first:=first) (i:=i2) (n:=n2) _ _ (by unfold eE;rw[aC,aE,if_pos rfl]) hi2 ?_;by_cases h20:20≤cnt
     ·rw[if_pos ⟨⟨by simpa using c1,.inr (.inr (by simpa using c4))⟩,h20⟩,cV] at hk4;rw[if_pos (by omega),hw];exact PBk _ _ (by unfold eE;exact aF) hk4
     rw[if_neg (by omega)];have hk5:=hpart (fun _=>h20);simp only[go_sem,aC,hne,hne.symm,h24,e4,n45,n54];refine wB hT b5 x tp tn td hQ0 hi2 hn2 (aI hk5 (fun x' w1 m1 hk6 j tp' tn' td' hj hjT hw1 hm1 hQ'=>?_) (fun f h s1 o hg hr1=>h.at (hg2 _ hg) hr1));subst hw1;simp only[go_sem,aC,hne,hne.symm,h24,e4,n45,n54,cJ cnt (by omega)];refine fR (T:=T) (fin:=fin) (d:=d) (first:=first) (i:=j) (n:=m1) _ (by unfold eE;rw[aC,aE,if_pos rfl]) hjT hT ?_;cases c9:isT [59] (T.drop j) with
     | true =>
      rw[if_pos c9,jS] at hk6;have hlt9:=iM c9;simp only[go_sem,aC,hne,hne.symm,h24,e4,n45,n54];refine ⟨((x',tp',tn',td'),cnt+1,true,j+1,m1),⟨⟨hQ'.own,hQ'.hb,hQ'.ne,by have:=hQ'.l1;simp only;omega,by have:=hQ'.l2;simp only;omega,by have:=hQ'.l3;simp only;omega⟩,by simp only;omega,by simp only;omega,hlt9,hm1,k,by simp only;omega,hk6⟩,by simp only;omega,?_⟩;refine ⟨⟨rfl,rfl⟩,?_⟩;unfold eE;rw[rU,lU];exact bW _
     | false =>
      rw[if_neg (by simp[c9]),bB] at hk6;simp only[go_sem,aC,hne,hne.symm,h24,e4,n45,n54];refine ⟨((x',tp',tn',td'),cnt+1,false,j,m1),⟨hQ',by simp only;omega,by simp only;omega,hjT,hm1,hk6⟩,by simp only;omega,?_⟩;exact ⟨⟨rfl,rfl⟩,bW _⟩
    simp only[go_sem,aC,hne,hne.symm,h24,e4,n45,n54,c4];have hk5:=hpart (fun hc=>by have h1:=hc.2;simp at c2 c3 c4;rcases h1 with h1|h1|h1;exact (h1 c2).elim;exact (c3 h1).elim;exact (c4 h1).elim);refine eP (dM hb8) ?_;refine wB hT b5 x tp tn td hQ0 hi2 hn2 (aI hk5 (fun x' w1 m1 hk6 j tp' tn' td' hj hjT hw1 hm1 hQ'=>?_) (fun f h s1 o hg hr1=>h.at (hg2 _ hg) hr1));subst hw1;simp only[go_sem,aC,hne,hne.symm,h24,e4,n45,n54,cJ cnt (by omega)];refine fR (T:=T) (fin:=fin) (d:=d) (first:=first) (i:=j) (n:=m1) _ (by unfold eE;rw[aC,aE,if_pos rfl]) hjT hT ?_;cases c9:isT [59] (T.drop j) with
    | true =>
     rw[if_pos c9,jS] at hk6;have hlt9:=iM c9;simp only[go_sem,aC,hne,hne.symm,h24,e4,n45,n54];refine ⟨((x',tp',tn',td'),cnt+1,true,j+1,m1),⟨⟨hQ'.own,hQ'.hb,hQ'.ne,by have:=hQ'.l1;simp only;omega,by have:=hQ'.l2;simp only;omega,by have:=hQ'.l3;simp only;omega⟩,by simp only;omega,by simp only;omega,hlt9,hm1,k,by simp only;omega,hk6⟩,by simp only;omega,?_⟩;refine ⟨⟨rfl,rfl⟩,?_⟩;unfold eE;rw[rU,lU];exact bW _
    | false =>
     rw[if_neg (by simp[c9]),bB] at hk6;simp only[go_sem,aC,hne,hne.symm,h24,e4,n45,n54];refine ⟨((x',tp',tn',td'),cnt+1,false,j,m1),⟨hQ',by simp only;omega,by simp only;omega,hjT,hm1,hk6⟩,by simp only;omega,?_⟩;exact ⟨⟨rfl,rfl⟩,bW _⟩
end
end
section
structure GrQ {α:Type} (b1 b3 r:Nat) (s:St) (acc:List α) (tk:Option Nat) (i:Nat):Prop where
 len:acc.length≤i
 h1:s.getO b1=some (.cells 74 [.ptr r 0])
 h3:s.getO b3=some (.cells 191 [.ptr r 6])
 ne:b1≠r∧b3≠r
 nil:tk=none→acc=[]
 free:∀ t,tk=some t→s.getT t=none
def lK (T:List Tok) (fin:Fault) (d:Dc) (first:Tok) (r:Nat) (s:St) (acc:List aB) (tk:Option Nat) (i n:Nat):St :=
 gs (s.setO r (aN T fin { d with sorts:=gv tk (acc.map .str) } first i n)) tk acc.length 9
def lH (T:List Tok) (fin:Fault) (d:Dc) (first:Tok) (r:Nat) (s:St) (acc:List Cel) (tk:Option Nat) (i n:Nat):St :=
 gs (s.setO r (aN T fin { d with many:=gv tk (acc.map Cel.enc) } first i n)) tk acc.length 68
section
variable {T:List Tok} {fin:Fault} {d:Dc} {first:Tok} {i n:Nat} {s:St} {r:Nat} {KV Kp:St→A→Prop}
theorem aBY (hT:TOk T) (b1:Nat) (old:Bool) (h1:s.getO b1=some (.cells 74 [.ptr r 0])) (hr:s.getO r=some (aN T fin d first i n)) (hi:i+1≤T.length)
  (hk:match old with|true=>PB s r Kp (dR fin 14 (T.drop i))|false=>KV (s.setO r (aN T fin d first (i+1) n)) (.tuple [])):Den cx 225 [.bool old,.ptr b1 0] KV Kp s:=by
 have hlen:=hT.len;have hr2:=hr;simp only[go_sem] at hr2;(refine aO func225 [0,1,3] ?_;simp only[go_sem,ntmps225,f225]);cases old with
 | true =>
  simp only[go_sem,h1];refine lA 14 hr (by omega) hT ?_;exact hk.here hr
 | false =>
  simp only[go_sem,h1,hr2,cJ i (by omega)];exact aY hk
theorem aJ9 (hT:TOk T) (b1 b3:Nat) (acc:List aB) (tk:Option Nat) (hQ:GrQ b1 b3 r s acc tk i) (hi:i≤T.length) (hn:n≤2000)
  (hk : (mD fin 40 acc.length (T.drop i) n fun w n => dO fin w n).to (fun a w n' => ∀ j y,i + 1 ≤ j → j ≤ T.length → T.drop j = w → n' ≤ 2000 → GrQ b1 b3 r s (acc ++ [a]) y j → KV (lK T fin d first r s (acc ++ [a]) y j n') (.bool true))
   (fun f=>∀ s1 o,s1.gx s r→s1.getO r=some o→Kp s1 (.iface 36 f.enc))):Den cx 147 [.ptr b1 0,.ptr b3 0] KV Kp (lK T fin d first r s acc tk i n):=by
 obtain ⟨hac,h1,h3,⟨n1,n3⟩,hnil,hfree⟩:=hQ;have hlenT:=hT.len;have hg:mL (lK T fin d first r s acc tk i n) tk (acc.map A.str).length 9:=by rw[aS];exact jD fun e=>by rw[hnil e];rfl
 (refine aO func147 [0,1,2,3,14] ?_;simp only[go_sem,ntmps147,f147]);unfold lK;have n1S:=n1.symm;have n3S:=n3.symm;simp only[go_sem,h1,h3,n1,n1.symm,n3,n3.symm];refine hH (d:={ d with sorts:=gv tk (acc.map A.str) }) (T:=T) (fin:=fin) (first:=first) (i:=i) (n:=n) gH hi ?_;cases hw:T.drop i with
 | nil=>rw[hw] at hk;exact aY (hk _ (aN T fin { d with sorts:=gv tk (acc.map A.str) } first i n) aF gH)
 | cons t w =>
  obtain ⟨g1,g2,g3,g4⟩:=iV hw;rw[hw] at hk
  have hsome:(t.free=true→¬ 40≤acc.length)→(dO fin (T.drop i) n).to (fun a w n'=>∀ j y,i+1≤j→j≤T.length→T.drop j=w→n'≤2000→GrQ b1 b3 r s (acc++[a]) y j→KV (lK T fin d first r s (acc++[a]) y j n') (.bool true))
    (fun f=>∀ s1 o,s1.gx s r→s1.getO r=some o→Kp s1 (.iface 36 f.enc)):=fun h=>by
   rw[hw];simp only[mD] at hk;rw[if_neg (fun hc=>h hc.1 hc.2)] at hk;exact hk
  simp only[go_sem,h1,h3,n1,n1.symm,n3,n3.symm];(intro b5 hb5;try simp only[aC,aR,aL,ne_eq] at hb5);have e53:=bN h3 hb5.2;have e51:=bN h1 hb5.2;simp only[go_sem,h1,h3,n1,n1.symm,n3,n3.symm,hb5,e53,e51];cases c1:decide (t.kind=1)
  ·have hk5:=hsome (fun hf=>by simp[Tok.free,c1] at hf);simp only[go_sem,h1,h3,n1,n1.symm,n3,n3.symm,hb5,e53,e51,c1];(refine bF (OT.r 0 14) [(7,[0,1,5]),(9,[0])] ?_;simp only[go_sem,h1,h3,n1,n1.symm,n3,n3.symm,hb5,e53,e51]);refine fA (d:={ d with sorts:=gv tk (acc.map A.str) }) (T:=T) (fin:=fin) (first:=first) (i:=i) (n:=n) gH hi hT (aI hk5 (fun x w2 m2 hk6 hlt hw2 hm2=>?_) (fun f h=>cC aF h));subst m2;have hj:i+1≤i+1:=bG _;simp only[go_sem,h1,h3,n1,n1.symm,n3,n3.symm,hb5,e53,e51];refine ⟨by decide,fun y hy=>by simp only[cY] at hy;subst hy;rfl,fB rfl rfl (by rw[aS];exact jD fun e=>by rw[hnil e];rfl) (fun y hy=>?_) (by simp only[aS,aD,aG];omega) (fun u hu=>?_)⟩
   ·simp only[cO] at hy;obtain ⟨q,_,rfl⟩:=hy;rfl
   have hfu:=oN hu hfree;rw[mY hu];simp only[go_sem,h1,h3,n1,n1.symm,n3,n3.symm,hb5,e53,e51];have hk7:=hk6 (i+1) (some u) hj hlt hw2 hn ⟨by simp only[aK,aD,aG];omega,h1,h3,⟨n1,n3⟩,fun e=>(by cases e),fun t' e=>by cases e;exact hfu⟩;refine aH hk7 ?_;simp only[lK,dT,dQ,bU,bD,aK,aD,aG,aS];exact bL
  simp only[go_sem,h1,h3,n1,n1.symm,n3,n3.symm,hb5,e53,e51,c1];refine oY _ _ _ _ ?_;simp only[go_sem,h1,h3,n1,n1.symm,n3,n3.symm,hb5,e53,e51];cases c2:decide (t.text∈dE);rotate_left
  ·have hk5:=hsome (fun hf=>by simp[Tok.free,c2] at hf);simp only[go_sem,h1,h3,n1,n1.symm,n3,n3.symm,hb5,e53,e51,c2];(refine bF (OT.r 0 14) [(7,[0,1,5]),(9,[0])] ?_;simp only[go_sem,h1,h3,n1,n1.symm,n3,n3.symm,hb5,e53,e51]);refine fA (d:={ d with sorts:=gv tk (acc.map A.str) }) (T:=T) (fin:=fin) (first:=first) (i:=i) (n:=n) gH hi hT (aI hk5 (fun x w2 m2 hk6 hlt hw2 hm2=>?_) (fun f h=>cC aF h));subst m2;have hj:i+1≤i+1:=bG _;simp only[go_sem,h1,h3,n1,n1.symm,n3,n3.symm,hb5,e53,e51];refine ⟨by decide,fun y hy=>by simp only[cY] at hy;subst hy;rfl,fB rfl rfl (by rw[aS];exact jD fun e=>by rw[hnil e];rfl) (fun y hy=>?_) (by simp only[aS,aD,aG];omega) (fun u hu=>?_)⟩
   ·simp only[cO] at hy;obtain ⟨q,_,rfl⟩:=hy;rfl
   have hfu:=oN hu hfree;rw[mY hu];simp only[go_sem,h1,h3,n1,n1.symm,n3,n3.symm,hb5,e53,e51];have hk7:=hk6 (i+1) (some u) hj hlt hw2 hn ⟨by simp only[aK,aD,aG];omega,h1,h3,⟨n1,n3⟩,fun e=>(by cases e),fun t' e=>by cases e;exact hfu⟩;refine aH hk7 ?_;simp only[lK,dT,dQ,bU,bD,aK,aD,aG,aS];exact bL
  simp only[go_sem,h1,h3,n1,n1.symm,n3,n3.symm,hb5,e53,e51,c2];(refine bF (OT.r 0 8) [] ?_;simp only[go_sem,h1,h3,n1,n1.symm,n3,n3.symm,hb5,e53,e51,lZ hg]);refine jT (d:={ d with sorts:=gv tk (acc.map A.str) }) (T:=T) (fin:=fin) (first:=first) (i:=i) (n:=n) _ _ gH hi ?_;by_cases h8:40≤acc.length
  ·rw[if_pos (by omega),hw];simp only[mD] at hk;rw[if_pos ⟨by simp[Tok.free,c1,c2],h8⟩] at hk;exact cC aF hk
  rw[if_neg (by omega)];have hk5:=hsome (fun _=>h8);simp only[go_sem,h1,h3,n1,n1.symm,n3,n3.symm,hb5,e53,e51];(refine bF (OT.r 0 14) [(7,[0,1,5]),(9,[0])] ?_;simp only[go_sem,h1,h3,n1,n1.symm,n3,n3.symm,hb5,e53,e51]);refine fA (d:={ d with sorts:=gv tk (acc.map A.str) }) (T:=T) (fin:=fin) (first:=first) (i:=i) (n:=n) gH hi hT (aI hk5 (fun x w2 m2 hk6 hlt hw2 hm2=>?_) (fun f h=>cC aF h));subst m2;have hj:i+1≤i+1:=bG _;simp only[go_sem,h1,h3,n1,n1.symm,n3,n3.symm,hb5,e53,e51];refine ⟨by decide,fun y hy=>by simp only[cY] at hy;subst hy;rfl,fB rfl rfl (by rw[aS];exact jD fun e=>by rw[hnil e];rfl) (fun y hy=>?_) (by simp only[aS,aD,aG];omega) (fun u hu=>?_)⟩
  ·simp only[cO] at hy;obtain ⟨q,_,rfl⟩:=hy;rfl
  have hfu:=oN hu hfree;rw[mY hu];simp only[go_sem,h1,h3,n1,n1.symm,n3,n3.symm,hb5,e53,e51];have hk7:=hk6 (i+1) (some u) hj hlt hw2 hn ⟨by simp only[aK,aD,aG];omega,h1,h3,⟨n1,n3⟩,fun e=>(by cases e),fun t' e=>by cases e;exact hfu⟩;refine aH hk7 ?_;simp only[lK,dT,dQ,bU,bD,aK,aD,aG,aS];exact bL
theorem aKo (hT:TOk T) (b1 b3:Nat) (acc:List Cel) (tk:Option Nat) (hQ:GrQ b1 b3 r s acc tk i) (hi:i≤T.length) (hn:n≤2000)
  (hk : (mD fin 12 acc.length (T.drop i) n fun w n => sJ false fin w n).to (fun a w n' => ∀ j y,i + 1 ≤ j → j ≤ T.length → T.drop j = w → n' ≤ 2000 → GrQ b1 b3 r s (acc ++ [a]) y j → KV (lH T fin d first r s (acc ++ [a]) y j n') (.bool true))
   (fun f=>∀ s1 o,s1.gx s r→s1.getO r=some o→Kp s1 (.iface 36 f.enc))):Den cx 227 [.ptr b1 0,.ptr b3 0] KV Kp (lH T fin d first r s acc tk i n):=by
 obtain ⟨hac,h1,h3,⟨n1,n3⟩,hnil,hfree⟩:=hQ;have hlenT:=hT.len;have hg:mL (lH T fin d first r s acc tk i n) tk (acc.map Cel.enc).length 68:=by rw[aS];exact jD fun e=>by rw[hnil e];rfl
 (refine aO func227 [0,1,2,3,14] ?_;simp only[go_sem,ntmps227,f227]);unfold lH;have n1S:=n1.symm;have n3S:=n3.symm;simp only[go_sem,h1,h3,n1,n1.symm,n3,n3.symm];refine hH (d:={ d with many:=gv tk (acc.map Cel.enc) }) (T:=T) (fin:=fin) (first:=first) (i:=i) (n:=n) gH hi ?_;cases hw:T.drop i with
 | nil=>rw[hw] at hk;exact aY (hk _ (aN T fin { d with many:=gv tk (acc.map Cel.enc) } first i n) aF gH)
 | cons t w =>
  obtain ⟨g1,g2,g3,g4⟩:=iV hw;rw[hw] at hk
  have hsome:(t.free=true→¬ 12≤acc.length)→(sJ false fin (T.drop i) n).to (fun a w n'=>∀ j y,i+1≤j→j≤T.length→T.drop j=w→n'≤2000→GrQ b1 b3 r s (acc++[a]) y j→KV (lH T fin d first r s (acc++[a]) y j n') (.bool true))
    (fun f=>∀ s1 o,s1.gx s r→s1.getO r=some o→Kp s1 (.iface 36 f.enc)):=fun h=>by
   rw[hw];simp only[mD] at hk;rw[if_neg (fun hc=>h hc.1 hc.2)] at hk;exact hk
  simp only[go_sem,h1,h3,n1,n1.symm,n3,n3.symm];(intro b5 hb5;try simp only[aC,aR,aL,ne_eq] at hb5);have e53:=bN h3 hb5.2;have e51:=bN h1 hb5.2;simp only[go_sem,h1,h3,n1,n1.symm,n3,n3.symm,hb5,e53,e51];cases c1:decide (t.kind=1)
  ·have hk5:=hsome (fun hf=>by simp[Tok.free,c1] at hf);simp only[go_sem,h1,h3,n1,n1.symm,n3,n3.symm,hb5,e53,e51,c1];(refine bF (OT.r 0 12) [(6,[0,1,4]),(8,[0])] ?_;simp only[go_sem,h1,h3,n1,n1.symm,n3,n3.symm,hb5,e53,e51]);refine yU (d:={ d with many:=gv tk (acc.map Cel.enc) }) (T:=T) (fin:=fin) (first:=first) (i:=i) (n:=n) hT gH hi hn (aI hk5 (fun x w2 m2 hk6 j hj hlt hw2 hm2=>?_) (fun f h=>cC aF h));simp only[go_sem,h1,h3,n1,n1.symm,n3,n3.symm,hb5,e53,e51];refine ⟨by decide,fun y hy=>by simp only[cY] at hy;subst hy;rfl,fB rfl rfl (by rw[aS];exact jD fun e=>by rw[hnil e];rfl) (fun y hy=>?_) (by simp only[aS,aD,aG];omega) (fun u hu=>?_)⟩
   ·simp only[cO] at hy;obtain ⟨q,_,rfl⟩:=hy;rfl
   have hfu:=oN hu hfree;rw[mY hu];simp only[go_sem,h1,h3,n1,n1.symm,n3,n3.symm,hb5,e53,e51];have hk7:=hk6 j (some u) hj hlt hw2 hm2 ⟨by simp only[aK,aD,aG];omega,h1,h3,⟨n1,n3⟩,fun e=>(by cases e),fun t' e=>by cases e;exact hfu⟩;refine aH hk7 ?_;simp only[lH,dT,dQ,bU,bD,aK,aD,aG,aS];exact bL
  simp only[go_sem,h1,h3,n1,n1.symm,n3,n3.symm,hb5,e53,e51,c1];refine oY _ _ _ _ ?_;simp only[go_sem,h1,h3,n1,n1.symm,n3,n3.symm,hb5,e53,e51];cases c2:decide (t.text∈dE);rotate_left
  ·have hk5:=hsome (fun hf=>by simp[Tok.free,c2] at hf);simp only[go_sem,h1,h3,n1,n1.symm,n3,n3.symm,hb5,e53,e51,c2];(refine bF (OT.r 0 12) [(6,[0,1,4]),(8,[0])] ?_;simp only[go_sem,h1,h3,n1,n1.symm,n3,n3.symm,hb5,e53,e51]);refine yU (d:={ d with many:=gv tk (acc.map Cel.enc) }) (T:=T) (fin:=fin) (first:=first) (i:=i) (n:=n) hT gH hi hn (aI hk5 (fun x w2 m2 hk6 j hj hlt hw2 hm2=>?_) (fun f h=>cC aF h));simp only[go_sem,h1,h3,n1,n1.symm,n3,n3.symm,hb5,e53,e51];refine ⟨by decide,fun y hy=>by simp only[cY] at hy;subst hy;rfl,fB rfl rfl (by rw[aS];exact jD fun e=>by rw[hnil e];rfl) (fun y hy=>?_) (by simp only[aS,aD,aG];omega) (fun u hu=>?_)⟩
   ·simp only[cO] at hy;obtain ⟨q,_,rfl⟩:=hy;rfl
   have hfu:=oN hu hfree;rw[mY hu];simp only[go_sem,h1,h3,n1,n1.symm,n3,n3.symm,hb5,e53,e51];have hk7:=hk6 j (some u) hj hlt hw2 hm2 ⟨by simp only[aK,aD,aG];omega,h1,h3,⟨n1,n3⟩,fun e=>(by cases e),fun t' e=>by cases e;exact hfu⟩;refine aH hk7 ?_;simp only[lH,dT,dQ,bU,bD,aK,aD,aG,aS];exact bL
  simp only[go_sem,h1,h3,n1,n1.symm,n3,n3.symm,hb5,e53,e51,c2];(refine bF (OT.r 0 7) [] ?_;simp only[go_sem,h1,h3,n1,n1.symm,n3,n3.symm,hb5,e53,e51,lZ hg]);refine jT (d:={ d with many:=gv tk (acc.map Cel.enc) }) (T:=T) (fin:=fin) (first:=first) (i:=i) (n:=n) _ _ gH hi ?_;by_cases h8:12≤acc.length
  ·rw[if_pos (by omega),hw];simp only[mD] at hk;rw[if_pos ⟨by simp[Tok.free,c1,c2],h8⟩] at hk;exact cC aF hk
  rw[if_neg (by omega)];have hk5:=hsome (fun _=>h8);simp only[go_sem,h1,h3,n1,n1.symm,n3,n3.symm,hb5,e53,e51];(refine bF (OT.r 0 12) [(6,[0,1,4]),(8,[0])] ?_;simp only[go_sem,h1,h3,n1,n1.symm,n3,n3.symm,hb5,e53,e51]);refine yU (d:={ d with many:=gv tk (acc.map Cel.enc) }) (T:=T) (fin:=fin) (first:=first) (i:=i) (n:=n) hT gH hi hn (aI hk5 (fun x w2 m2 hk6 j hj hlt hw2 hm2=>?_) (fun f h=>cC aF h));simp only[go_sem,h1,h3,n1,n1.symm,n3,n3.symm,hb5,e53,e51];refine ⟨by decide,fun y hy=>by simp only[cY] at hy;subst hy;rfl,fB rfl rfl (by rw[aS];exact jD fun e=>by rw[hnil e];rfl) (fun y hy=>?_) (by simp only[aS,aD,aG];omega) (fun u hu=>?_)⟩
  ·simp only[cO] at hy;obtain ⟨q,_,rfl⟩:=hy;rfl
  have hfu:=oN hu hfree;rw[mY hu];simp only[go_sem,h1,h3,n1,n1.symm,n3,n3.symm,hb5,e53,e51];have hk7:=hk6 j (some u) hj hlt hw2 hm2 ⟨by simp only[aK,aD,aG];omega,h1,h3,⟨n1,n3⟩,fun e=>(by cases e),fun t' e=>by cases e;exact hfu⟩;refine aH hk7 ?_;simp only[lH,dT,dQ,bU,bD,aK,aD,aG,aS];exact bL
end
end
section
structure DOwn where
 so:Option Nat
 be:Option Nat
 op:Option Nat
 fu:Option Nat
 va:Option Nat
 eq:Option Nat
 on:Option Nat
 ma:Option Nat
 ru:Option Nat
def bI (d:Dfn) (o:DOwn):Dc:=⟨d.name,gv o.so (d.sig.sorts.map .str),gv o.be (d.sig.below.map Below.enc),gv o.op (d.sig.ops.map Opr.enc),gv o.fu (d.sig.funs.map Opr.enc),gv o.va (d.sig.values.map .str),
 gv o.eq (d.eqs.map Eqn.enc),gv o.on (d.once.map Cel.enc),d.kind,gv o.ma (d.many.map Cel.enc),gv o.ru (d.rules.map Rul.enc),d.start,d.watch⟩
def bE (d:Dfn) (o:DOwn):List dI:=[(o.so,d.sig.sorts.length,9),(o.be,d.sig.below.length,104),(o.op,d.sig.ops.length,73),(o.fu,d.sig.funs.length,73),(o.va,d.sig.values.length,9),
 (o.eq,d.eqs.length,80),(o.on,d.once.length,68),(o.ma,d.many.length,68),(o.ru,d.rules.length,84)]
def iR (T:List Tok) (fin:Fault) (first:Tok) (r:Nat) (s:St) (d:Dfn) (o:DOwn) (i n:Nat):St:=cX (s.setO r (aN T fin (bI d o) first i n)) (bE d o)
structure ItQ (s:St) (d:Dfn) (o:DOwn) (i:Nat):Prop where
 own:OwnOk s (bE d o)
 len:∀ a,a∈bE d o→a.2.1≤i
theorem ItQ.le {s:St} {d:Dfn} {o:DOwn} {i j:Nat} (h:ItQ s d o i) (hj:i≤j):ItQ s d o j:=⟨h.own,fun a ha=>qG (h.len a ha) hj⟩
theorem ItQ.set {s:St} {d d':Dfn} {o o':DOwn} {i j k:Nat} {a:dI} (h:ItQ s d o i) (he:bE d' o'=(bE d o).set k a) (hown:OwnOk s ((bE d o).set k a)) (hj:i≤j) (ha:a.2.1≤j):ItQ s d' o' j :=
 ⟨by rw [he]; exact hown,fun b hb => by
  rw[he] at hb;rcases sU hb with hb|rfl
  ·exact qG (h.len b hb) hj
  ·exact ha⟩
attribute [go_sem] bI
section
variable {T:List Tok} {fin:Fault} {d:Dfn} {o:DOwn} {first:Tok} {i n:Nat} {s:St} {r:Nat} {KV Kp:St→A→Prop}
theorem GrQ.setT {α:Type} {b1 b3 r:Nat} {s:St} {acc:List α} {tk:Option Nat} {i t:Nat} {v:Nat × TypeId} (h:GrQ b1 b3 r s acc tk i) (ht:tk≠some t):GrQ b1 b3 r (s.setT t v) acc tk i :=
 ⟨h.len,h.h1,h.h3,h.ne,h.nil,fun u hu=>by rw[bT,if_neg (fun e=>ht (by rw[hu,e]))];exact h.free u hu⟩
theorem GrQ.unT {α:Type} {b1 b3 r:Nat} {s:St} {acc:List α} {tk:Option Nat} {i t:Nat} {v:Nat × TypeId} (h:GrQ b1 b3 r (s.setT t v) acc tk i):tk≠some t∧∀ u,tk=some u→s.getT u=none:=by
 have h1:tk≠some t:=fun e=>by
  have:=h.free t e;rw[bT,if_pos rfl] at this;cases this
 refine ⟨h1,fun u hu=>?_⟩;have:=h.free u hu;rw[bT] at this;split at this
 ·cases this
 ·exact this
theorem GrQ.dropT {α:Type} {b1 b3 r:Nat} {s:St} {acc:List α} {tk:Option Nat} {i t:Nat} {v:Nat × TypeId} (h:GrQ b1 b3 r (s.setT t v) acc tk i):GrQ b1 b3 r s acc tk i :=
 ⟨h.len,h.h1,h.h3,h.ne,h.nil,h.unT.2⟩
theorem aFG {α:Type} {b1 b3 r:Nat} {s X:St} {acc:List α} {tk:Option Nat} {i n t:Nat} {e:TypeId} (h:GrQ b1 b3 r s acc tk i) (ht:(gs X tk n e).getT t=none) (hX:X.getT t=s.getT t:=by rfl):tk≠some t∧s.getT t=none:=by
 rw[eT] at ht;split at ht
 ·cases ht
 ·rename_i e;exact ⟨e,by rw[← hX];exact ht⟩
theorem aFs {X:St} {r:Nat} {x:Ob} {tk:Option Nat} {n t:Nat} {e:TypeId} {v u:Nat × TypeId} (h:tk≠some t):((gs ((X.setT t v).setO r x) tk n e).setT t u).ge (gs ((X.setT t u).setO r x) tk n e):=by
 refine ⟨fun b o ho=>by rw[gV];rw[aR] at *;exact ho,fun c m hm=>?_,fun y hy=>by cases tk<;>exact hy⟩;rw[eT,getT_setO,bT] at hm;rw[bT,eT,getT_setO,bT];by_cases htc:t=c
 ·subst htc;rw[if_neg h,if_pos rfl] at hm;rw[if_pos rfl];exact hm
 ·rw[if_neg htc] at hm ⊢;rw[if_neg htc];exact hm
theorem aEl {X:St} {r:Nat} {x:Ob} {tk:Option Nat} {n t:Nat} {e:TypeId} {v:Nat × TypeId} (h:X.getT t=none):(gs ((X.setT t v).setO r x) tk n e).ge (gs (X.setO r x) tk n e) :=
 aFE (fun b o ho=>ho) (fun y hy=>hy) (fun c m _ hm=>by
  show (X.setT t v).getT c=some m;have hm':X.getT c=some m:=hm;rw[bT];by_cases htc:t=c
  ·subst htc;rw[h] at hm';cases hm'
  ·rw[if_neg htc];exact hm')
theorem aJ4 (hT:TOk T) (t:Tok) (w:List Tok) (hw:T.drop i=t::w) (hQ:ItQ s d o i) (hn:n≤2000)
  (hk : (sD false fin d t w n).to (fun d' w n' => ∀ j o',i + 1 ≤ j → j ≤ T.length → T.drop j = w → n' ≤ 2000 → ItQ s d' o' j → KV (iR T fin first r s d' o' j n') (.tuple []))
   (fun f=>∀ s1 x,s1.gx s r→s1.getO r=some x→Kp s1 (.iface 36 f.enc))):Den cx 155 [.ptr r 0,t.enc] KV Kp (iR T fin first r s d o i n):=by
 obtain ⟨g1,g2,g3,g4⟩:=iV hw;have hi:i≤T.length:=by omega
 have hlenT:=hT.len;have hown:=hQ.own;have hfr:=hown.free;have hgon:jN (gv o.on (d.once.map Cel.enc))=some (.int .i64 (d.once.map Cel.enc).length):=lZ (by rw[aS];exact rX hown (k:=6) rfl);have wAT:∀ x:aB,isT x (T.drop i)=dF t x:=fun x=>by rw[hw];rfl
 simp only[go_sem];(refine aO func155 [0,1,2,4,5,12,27,42,70] ?_;simp only[go_sem,ntmps155,f155]);unfold iR;(intro b2 hb2;try simp only[aC,aR,aL,ne_eq] at hb2);simp only[go_sem,aC,hb2];(intro b3 hb3;try simp only[aC,aR,aL,ne_eq] at hb3);simp only[go_sem,aC,hb2,hb3];(intro b4 hb4;try simp only[aC,aR,aL,ne_eq] at hb4);simp only[go_sem,aC,hb2,hb3,hb4];refine kM (d:=bI d o) (T:=T) (fin:=fin) (first:=first) (i:=i) (n:=n) _ gH hi ?_;rw[wAT];cases c1:dF t [115,116,97,114,116];rotate_left
 ·
  rw[sD,if_pos c1] at hk;simp only[go_sem,aC,hb2,hb3,hb4];refine aBY hT b2 _ (d:=bI d o) (T:=T) (fin:=fin) (first:=first) (i:=i) (n:=n) gH gH g2 ?_;cases cs:decide (d.start=[])
  ·rw[if_neg (by simpa using cs),cV] at hk;rw[hw];exact cC aF hk
  rw[if_pos (by simpa using cs),aX,← g3] at hk;simp only[dW];simp only[go_sem,aC,hb2,hb3,hb4];(refine bF (OT.r 0 6) [(2,[0])] ?_;simp only[go_sem,aC,hb2,hb3,hb4]);refine fA (d:=bI d o) (T:=T) (fin:=fin) (first:=first) (i:=i+1) (n:=n) gH g2 hT (aI hk (fun x w2 m2 hk2 hlt2 hw2 hm2=>?_) (fun f h=>cC aF h));rw[bB] at hk2;subst m2;simp only[go_sem,aC,hb2,hb3,hb4];have hk3:=hk2 (i+1+1) o (by omega) hlt2 hw2 hn ⟨hQ.own,fun a ha=>qG (hQ.len a ha) (by omega)⟩;refine aH hk3 ?_;refine hU (l:=bE d o) ?_;simp only[bI];exact bL
 simp only[go_sem,aC,hb2,hb3,hb4];refine kM (d:=bI d o) (T:=T) (fin:=fin) (first:=first) (i:=i) (n:=n) _ gH hi ?_;rw[wAT];cases c2:dF t [119,97,116,99,104];rotate_left
 ·
  rw[sD,if_neg (by simp[c1]),if_pos c2] at hk;simp only[go_sem,aC,hb2,hb3,hb4];refine aBY hT b2 _ (d:=bI d o) (T:=T) (fin:=fin) (first:=first) (i:=i) (n:=n) gH gH g2 ?_;cases cs:decide (d.watch=[])
  ·rw[if_neg (by simpa using cs),cV] at hk;rw[hw];exact cC aF hk
  rw[if_pos (by simpa using cs),aX,← g3] at hk;simp only[dW];simp only[go_sem,aC,hb2,hb3,hb4];(refine bF (OT.r 0 6) [(2,[0])] ?_;simp only[go_sem,aC,hb2,hb3,hb4]);refine fA (d:=bI d o) (T:=T) (fin:=fin) (first:=first) (i:=i+1) (n:=n) gH g2 hT (aI hk (fun x w2 m2 hk2 hlt2 hw2 hm2=>?_) (fun f h=>cC aF h));rw[bB] at hk2;subst m2;simp only[go_sem,aC,hb2,hb3,hb4];have hk3:=hk2 (i+1+1) o (by omega) hlt2 hw2 hn ⟨hQ.own,fun a ha=>qG (hQ.len a ha) (by omega)⟩;refine aH hk3 ?_;refine hU (l:=bE d o) ?_;simp only[bI];exact bL
 simp only[go_sem,aC,hb2,hb3,hb4];refine kM (d:=bI d o) (T:=T) (fin:=fin) (first:=first) (i:=i) (n:=n) _ gH hi ?_;rw[wAT];cases c3:dF t [99,101,108,108];rotate_left
 ·
  rw[sD,if_neg (by simp[c1]),if_neg (by simp[c2]),if_pos c3] at hk;simp only[go_sem,aC,hb2,hb3,hb4];(refine bF (OT.r 0 7) [] ?_;simp only[go_sem,aC,hb2,hb3,hb4,hgon]);refine jT (d:=bI d o) (T:=T) (fin:=fin) (first:=first) (i:=i) (n:=n) _ _ gH hi ?_;by_cases h12:12≤d.once.length
  ·rw[if_pos h12,cV] at hk;rw[if_pos (by (try simp only[aS]);omega),hw];exact cC aF hk
  rw[if_neg h12,aX,← g3] at hk;rw[if_neg (by (try simp only[aS]);omega)];simp only[go_sem,aC,hb2,hb3,hb4,cJ i (by omega)];(refine bF (OT.r 0 12) [(6,[0,1,4]),(8,[0])] ?_;simp only[go_sem,aC,hb2,hb3,hb4]);refine yU (d:=bI d o) (T:=T) (fin:=fin) (first:=first) (i:=i+1) (n:=n) hT gH g2 hn (aI hk (fun x w2 m2 hk2 j hj hjT hw2 hm2=>?_) (fun f h=>cC aF h));rw[bB] at hk2;simp only[go_sem,aC,hb2,hb3,hb4];refine ⟨by decide,fun y hy=>by simp only[cY] at hy;subst hy;rfl,fB rfl rfl (by rw[aS];refine lV hown (k:=6) (o:=(o.on,d.once.length,68)) rfl ?_;exact fun _=>rfl) (fun y hy=>?_) (by have:=hQ.len (o.on,d.once.length,68) (by simp[bE]);simp only[aS,aD,aG];simp only at this;omega) (fun u hu=>?_)⟩
  ·simp only[cO] at hy;obtain ⟨q,_,rfl⟩:=hy;rfl
  have hown2:=mA hown (k:=6) (o:=(o.on,d.once.length,68)) rfl hu (fun _=>rfl) (d.once.length+1);simp only[go_sem,aC,hb2,hb3,hb4];have hk3:=hk2 j { o with on:=some u } (by omega) hjT hw2 hm2 (ItQ.set (k:=6) hQ (by simp[bE]) hown2 (by omega) (by have:=hQ.len (o.on,d.once.length,68) (by simp[bE]);simp only at this ⊢;omega));refine aH hk3 (St.ge.trans (lY hown (k:=6) (o:=(o.on,d.once.length,68)) rfl hown2 (fun _=>rfl)) ?_);unfold iR;rw[show bE { d with once:=d.once++[x] } { o with on:=some u }=(bE d o).set 6 (some u,d.once.length+1,68) by simp[bE]];refine hU ?_;simp only[bI,dT,dQ,bU,bD];exact bL
 simp only[go_sem,aC,hb2,hb3,hb4];refine kM (d:=bI d o) (T:=T) (fin:=fin) (first:=first) (i:=i) (n:=n) _ gH hi ?_;rw[wAT];cases c4:dF t [109,97,110,121];rotate_left
 ·
  rw[sD,if_neg (by simp[c1]),if_neg (by simp[c2]),if_neg (by simp[c3]),if_pos c4] at hk;simp only[go_sem,aC,hb2,hb3,hb4];refine aBY hT b2 _ (d:=bI d o) (T:=T) (fin:=fin) (first:=first) (i:=i) (n:=n) gH gH g2 ?_;cases cs:decide (d.kind=[])
  ·rw[if_neg (by simpa using cs),cV] at hk;rw[hw];exact cC aF hk
  rw[if_pos (by simpa using cs),aX,← g3] at hk;simp only[dW];simp only[go_sem,aC,hb2,hb3,hb4];(refine bF (OT.r 0 6) [(2,[0])] ?_;simp only[go_sem,aC,hb2,hb3,hb4]);refine fA (d:=bI d o) (T:=T) (fin:=fin) (first:=first) (i:=i+1) (n:=n) gH g2 hT (aI hk (fun x w2 m2 hk2 hlt2 hw2 hm2=>?_) (fun f h=>cC aF h));subst m2;rw[← hw2,aX] at hk2;simp only[go_sem,aC,hb2,hb3,hb4];refine dN (d:=bI { d with kind:=x } o) (T:=T) (fin:=fin) (first:=first) (i:=i+1+1) (n:=n) _ gH hlt2 hT (aI hk2 (fun _ w3 m3 hk3 hlt3 hw3 hm3=>?_) (fun f h=>cC aF h));subst m3;rw[← hw3,aX] at hk3;simp only[go_sem,aC,hb2,hb3,hb4];have hs0b2:(cX (((s.setO b2 (.cells 74 [.ptr r 0])).setO b3 (.cells 60 t.cs)).setO b4 (.cells 191 [.ptr r 6])) ((bE d o).set 7 (none,0,68))).getO b2=some (.cells 74 [.ptr r 0]):=by simp only[aC,aE,hb4,hb3,if_false,if_true]
  have hs0b4:(cX (((s.setO b2 (.cells 74 [.ptr r 0])).setO b3 (.cells 60 t.cs)).setO b4 (.cells 191 [.ptr r 6])) ((bE d o).set 7 (none,0,68))).getO b4=some (.cells 191 [.ptr r 6]):=by simp only[aC,aE,if_true]
  have hfr0:∀ a,a∈(bE d o).set 7 (none,0,68)→∀ u,a.1=some u→s.getT u=none:=fun a ha u hu=>by
   rcases sU ha with ha|rfl
   ·exact hfr a ha u hu
   ·cases hu
  have hg0:(cX (((s.setO b2 (.cells 74 [.ptr r 0])).setO b3 (.cells 60 t.cs)).setO b4 (.cells 191 [.ptr r 6])) ((bE d o).set 7 (none,0,68))).gx s r:=by
   refine aCH hfr0 ?_;exact aF
  have hlm:d.many.length≤i:=by have:=hQ.len (o.ma,d.many.length,68) (by simp[bE]);exact this
  refine eP (s':=lH T fin (bI { d with kind:=x } o) first r (cX (((s.setO b2 (.cells 74 [.ptr r 0])).setO b3 (.cells 60 t.cs)).setO b4 (.cells 191 [.ptr r 6])) ((bE d o).set 7 (none,0,68))) d.many o.ma (i+1+1+1) n) ?_ (aBr (fin:=fin) (σ:=List Cel) (α:=Unit) (X:=Option Nat) (r:=r) (fun _=>.bool true) (fun _=>rfl) (fun _=>rfl) hT
   (fun s' acc tk i n=>lH T fin (bI { d with kind:=x } o) first r s' acc tk i n) (fun s' acc tk i=>GrQ b2 b4 r s' acc tk i) (fun acc w n=>((mD fin 12 acc.length w n fun w n=>sJ false fin w n).bind fun a w n=>.ok (acc++[a]) w n).bind fun a w n=>.ok (a,()) w n) 227 [] [.ptr b2 0,.ptr b4 0]
   (fun s' a x i n=>⟨_,first,by unfold lH;rw[aR,aE,if_pos rfl],by unfold lH;rw[zN,lU];exact bW _⟩) (fun s' a x i n t v h ht=>?_) (fun s' a x i n t v u ht h=>?_) (fun s' a x i n t v ht h=>⟨h.dropT,aEl ht⟩)
   (fun s' a x i h=>⟨by have:=h.len;omega,h.h1,h.h3,h.ne,h.nil,h.free⟩) (fun s' a x i n h=>eS (dA (dJ _ _)) h.free)
   (fun s' a x i n KV' Kp' h hi' hn' hk'=>aKo hT b2 b4 a x h hi' hn' ?_)
   d.many o.ma (i+1+1+1) n ?_ hlt3 hn ?_)
  ·refine St.ge.trans (b:=cX ((((s.setO b2 (.cells 74 [.ptr r 0])).setO b3 (.cells 60 t.cs)).setO b4 (.cells 191 [.ptr r 6])).setO r (aN T fin (bI { d with kind:=x } o) first (i+1+1+1) n)) (bE d o)) (hU bL) ?_;unfold lH;rw[rU];exact aEH hown (k:=7) (o:=(o.ma,d.many.length,68)) rfl 0 68
  ·have hx:=aFG h ht;exact ⟨hx.2,h.setT hx.1,aCB hx.1⟩
  ·have hx:=h.unT;exact ⟨by show (gs _ _ _ _).getT t=_;rw[eT,if_neg hx.1];show (s'.setT t v).getT t=_;rw[bT,if_pos rfl],h.dropT.setT hx.1,aFs hx.1⟩
  ·rw[aX,aX] at hk';exact aI hk' (fun a w n h2 j y hj hjT hw hn hy=>h2 j y (by omega) hjT hw hn hy) (fun _ h=>h)
  ·refine ⟨by omega,hs0b2,hs0b4,⟨hb2.1.2,hb4.2.2.1.2⟩,fun e=>eJ (hown.nil (o.ma,d.many.length,68) (by simp[bE]) e),fun u hu=>(by refine aF5 hown (k:=7) (o:=(o.ma,d.many.length,68)) rfl 0 68 ?_ hu;exact fun _=>rfl)⟩
  refine aI (yE _ _ _ _ _ [] _ _ _ _ hk3) (fun c w4 m4 hk4 j y hj hjT hw4 hm4 hy=>?_) (fun f h s1 x hg hr1=>aY (h _ _ (hg.trans hg0) hr1));obtain ⟨l,ul⟩:=c;simp only at hk4 hy ⊢;subst hw4;rw[aX] at hk4;have hown2:OwnOk s ((bE d o).set 7 (y,l.length,68)):=by refine aFH hown (k:=7) (by simp[bE]) 0 68 68 ?_ hy.free (fun e=>by rw[hy.nil e];rfl);exact fun _=>rfl
  unfold lH;simp only[go_sem,aC,hb2,hb3,hb4];refine eP (aFj (l:=bE d o) (k:=7) (by simp[bE]) hown2 0 68) ?_;have hfrW:=hown2.free;refine dN (d:=bI { d with kind:=x,many:=l } { o with ma:=y }) (T:=T) (fin:=fin) (first:=first) (i:=j) (n:=m4) _ gH hjT hT (aI hk4 (fun _ w5 m5 hk5 hlt5 hw5 hm5=>?_) (fun f h=>cC aF h));subst m5;rw[bB] at hk5;simp only[go_sem,aC,hb2,hb3,hb4];have hk6:=hk5 (j+1) { o with ma:=y } (by omega) hlt5 hw5 hm4 (ItQ.set (k:=7) (a:=(y,l.length,68)) hQ (by simp[bE]) hown2 (by omega) (by have:=hy.len;simp only;omega));refine aH hk6 ?_;unfold iR;rw[show bE { d with kind:=x,many:=l } { o with ma:=y }=(bE d o).set 7 (y,l.length,68) by simp[bE]];refine hU ?_;simp only[bI];exact bL
 rw[sD,if_neg (by simp[c1]),if_neg (by simp[c2]),if_neg (by simp[c3]),if_neg (by simp[c4]),cV] at hk;simp only[go_sem,aC,hb2,hb3,hb4];refine lA (d:=bI d o) (T:=T) (fin:=fin) (first:=first) (i:=i) (n:=n) 11 gH hi hT ?_;rw[hw];exact aY (hk _ (aN T fin (bI d o) first i n) aF gH)
end
end
end Go.AV
