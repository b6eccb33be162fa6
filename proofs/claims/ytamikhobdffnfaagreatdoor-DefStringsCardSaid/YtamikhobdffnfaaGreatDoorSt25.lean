/-
  Of DefStrings.
-/
import Derived.Test.YtamikhobdffnfaaGreatDoorSt24
set_option linter.all false
set_option maxRecDepth 99999
set_option maxHeartbeats 0
namespace Go.AV
open Go Go.Proofs Tryz
section
theorem aEW (fin:Fault):∀ (f:Nat) (acc:List aB) (w:List Tok) (n:Nat),
  (bZ fin [44] (fun acc w n=>(dO fin w n).bind fun a w n=>.ok (acc++[a]) w n) f acc w n).to (fun l w' _=>l.length+w'.length≤acc.length+w.length) (fun _=>True)
 | 0,acc,w,n=>trivial
 | f+1,acc,w,n=>by
  rw[bZ,aX,aX];cases w with
  | nil=>trivial
  | cons t w =>
   simp only[dO];split
   ·simp only[bB];split
    ·refine aI (aEW fin f _ w.tail n) (fun l w' _ h=>?_) (fun _ h=>h);simp only[aK,aD,aG,List.length_tail] at h ⊢;omega
    ·simp only[bB,aK,aD,aG];omega
   ·trivial
section
variable {T:List Tok} {fin:Fault} {d:Dfn} {o:DOwn} {first:Tok} {i n:Nat} {s:St} {r:Nat} {KV Kp:St→A→Prop}
theorem aLd (hT:TOk T) (hi:i≤T.length) (hQ:ItQ s d o i) (hn:n≤2000)
  (hk : (aCX false fin d (T.drop i) n).to (fun d' w n' => ∀ j o',i + 1 ≤ j → j ≤ T.length → T.drop j = w → n' ≤ 2000 → ItQ s d' o' j → KV (iR T fin first r s d' o' j n') (.tuple []))
   (fun f=>∀ s1 x,s1.gx s r→s1.getO r=some x→Kp s1 (.iface 36 f.enc))):Den cx 86 [.ptr r 0] KV Kp (iR T fin first r s d o i n):=by
 have hlenT:=hT.len;have hown:=hQ.own;have hfr:=hown.free;have L0:=hQ.len (o.so,d.sig.sorts.length,9) (by simp[bE]);have L1:=hQ.len (o.be,d.sig.below.length,104) (by simp[bE]);have L2:=hQ.len (o.op,d.sig.ops.length,73) (by simp[bE]);have L3:=hQ.len (o.fu,d.sig.funs.length,73) (by simp[bE]);have L4:=hQ.len (o.va,d.sig.values.length,9) (by simp[bE]);have L5:=hQ.len (o.eq,d.eqs.length,80) (by simp[bE]);have L8:=hQ.len (o.ru,d.rules.length,84) (by simp[bE]);simp only at L0 L1 L2 L3 L4 L5 L8;have G1:jN (gv o.be (d.sig.below.map Below.enc))=some (.int .i64 (d.sig.below.map Below.enc).length):=lZ (by rw[aS];exact rX hown (k:=1) rfl);have G2:jN (gv o.op (d.sig.ops.map Opr.enc))=some (.int .i64 (d.sig.ops.map Opr.enc).length):=lZ (by rw[aS];exact rX hown (k:=2) rfl);have G3:jN (gv o.fu (d.sig.funs.map Opr.enc))=some (.int .i64 (d.sig.funs.map Opr.enc).length):=lZ (by rw[aS];exact rX hown (k:=3) rfl);have G5:jN (gv o.eq (d.eqs.map Eqn.enc))=some (.int .i64 (d.eqs.map Eqn.enc).length):=lZ (by rw[aS];exact rX hown (k:=5) rfl);have G8:jN (gv o.ru (d.rules.map Rul.enc))=some (.int .i64 (d.rules.map Rul.enc).length):=lZ (by rw[aS];exact rX hown (k:=8) rfl);(refine aO func86 [0,1,2,3,4,5,14,20,59,76,107,134,177] ?_;simp only[go_sem,ntmps86,f86]);unfold iR;(intro b1 hb1;try simp only[aC,aR,aL,ne_eq] at hb1);simp only[go_sem,aC,hb1];refine hH (d:=bI d o) (T:=T) (fin:=fin) (first:=first) (i:=i) (n:=n) gH hi ?_;cases hw:T.drop i with
 | nil=>rw[hw] at hk;exact aY (hk _ (aN T fin (bI d o) first i n) aF gH)
 | cons t w =>
  obtain ⟨g1,g2,g3,g4⟩:=iV hw;have wAT:∀ x:aB,isT x (T.drop i)=dF t x:=fun x=>by rw[hw];rfl
  rw[hw] at hk;simp only[aCX,aX] at hk;simp only[go_sem,aC,hb1];(intro b2 hb2;try simp only[aC,aR,aL,ne_eq] at hb2);simp only[go_sem,aC,hb1,hb2];(intro b3 hb3;try simp only[aC,aR,aL,ne_eq] at hb3);simp only[go_sem,aC,hb1,hb2,hb3];refine fR (d:=bI d o) (T:=T) (fin:=fin) (first:=first) (i:=i) (n:=n) _ gH hi hT ?_;rw[wAT];cases c1:dF t [115,111,114,116];rotate_left
  ·rw[if_pos c1,aX,← g3] at hk;simp only;simp only[go_sem,aC,hb1,hb2,hb3];have hs0b1:(cX (((s.setO b1 (.cells 74 [.ptr r 0])).setO b2 (.cells 60 t.cs)).setO b3 (.cells 191 [.ptr r 6])) ((bE d o).set 0 (none,0,9))).getO b1=some (.cells 74 [.ptr r 0]):=by simp only[aC,aE,hb3,hb2,if_false,if_true]
   have hs0b3:(cX (((s.setO b1 (.cells 74 [.ptr r 0])).setO b2 (.cells 60 t.cs)).setO b3 (.cells 191 [.ptr r 6])) ((bE d o).set 0 (none,0,9))).getO b3=some (.cells 191 [.ptr r 6]):=by simp only[aC,aE,if_true]
   have hfr0:∀ a,a∈(bE d o).set 0 (none,0,9)→∀ u,a.1=some u→s.getT u=none:=fun a ha u hu=>by
    rcases sU ha with ha|rfl
    ·exact hfr a ha u hu
    ·cases hu
   have hg0:(cX (((s.setO b1 (.cells 74 [.ptr r 0])).setO b2 (.cells 60 t.cs)).setO b3 (.cells 191 [.ptr r 6])) ((bE d o).set 0 (none,0,9))).gx s r:=by
    refine aCH hfr0 ?_;exact aF
   refine eP (s':=lK T fin (bI d o) first r (cX (((s.setO b1 (.cells 74 [.ptr r 0])).setO b2 (.cells 60 t.cs)).setO b3 (.cells 191 [.ptr r 6])) ((bE d o).set 0 (none,0,9))) d.sig.sorts o.so (i+1) n) ?_ (aBr (fin:=fin) (σ:=List aB) (α:=Unit) (X:=Option Nat) (r:=r) (fun _=>.bool true) (fun _=>rfl) (fun _=>rfl) hT
    (fun s' acc tk i n=>lK T fin (bI d o) first r s' acc tk i n) (fun s' acc tk i=>GrQ b1 b3 r s' acc tk i) (fun acc w n=>((mD fin 40 acc.length w n fun w n=>dO fin w n).bind fun a w n=>.ok (acc++[a]) w n).bind fun a w n=>.ok (a,()) w n) 147 [] [.ptr b1 0,.ptr b3 0]
    (fun s' a x i n=>⟨_,first,by unfold lK;rw[aR,aE,if_pos rfl],by unfold lK;rw[zN,lU];exact bW _⟩) (fun s' a x i n t v h ht=>?_) (fun s' a x i n t v u ht h=>?_) (fun s' a x i n t v ht h=>⟨h.dropT,aEl ht⟩)
    (fun s' a x i h=>⟨by have:=h.len;omega,h.h1,h.h3,h.ne,h.nil,h.free⟩) (fun s' a x i n h=>eS (dA (dJ _ _)) h.free)
    (fun s' a x i n KV' Kp' h hi' hn' hk'=>aJ9 hT b1 b3 a x h hi' hn' ?_)
    d.sig.sorts o.so (i+1) n ?_ g2 hn ?_)
   ·refine St.ge.trans (b:=cX ((((s.setO b1 (.cells 74 [.ptr r 0])).setO b2 (.cells 60 t.cs)).setO b3 (.cells 191 [.ptr r 6])).setO r (aN T fin (bI d o) first (i+1) n)) (bE d o)) (hU bL) ?_;unfold lK;rw[rU];exact aEH hown (k:=0) (o:=(o.so,d.sig.sorts.length,9)) rfl 0 9
   ·have hx:=aFG h ht;exact ⟨hx.2,h.setT hx.1,aCB hx.1⟩
   ·have hx:=h.unT;exact ⟨by show (gs _ _ _ _).getT t=_;rw[eT,if_neg hx.1];show (s'.setT t v).getT t=_;rw[bT,if_pos rfl],h.dropT.setT hx.1,aFs hx.1⟩
   ·rw[aX,aX] at hk';exact aI hk' (fun a w n h2 j y hj hjT hw hn hy=>h2 j y (by omega) hjT hw hn hy) (fun _ h=>h)
   ·refine ⟨by omega,hs0b1,hs0b3,⟨hb1.1.2,hb3.2.2.1.2⟩,fun e=>eJ (hown.nil (o.so,d.sig.sorts.length,9) (by simp[bE]) e),fun u hu=>(by refine aF5 hown (k:=0) (o:=(o.so,d.sig.sorts.length,9)) rfl 0 9 ?_ hu;exact fun _=>rfl)⟩
   refine aI (yE _ _ _ _ _ [] _ _ _ _ hk) (fun c w4 m4 hk4 j y hj hjT hw4 hm4 hy=>?_) (fun f h s1 x hg hr1=>aY (h _ _ (hg.trans hg0) hr1));obtain ⟨l,ul⟩:=c;simp only at hk4 hy ⊢;subst hw4;rw[bB] at hk4;have hown2:OwnOk s ((bE d o).set 0 (y,l.length,9)):=by refine aFH hown (k:=0) (by simp[bE]) 0 9 9 ?_ hy.free (fun e=>by rw[hy.nil e];rfl);exact fun _=>rfl
   unfold lK;simp only[go_sem,aC,hb1,hb2,hb3];refine eP (aFj (l:=bE d o) (k:=0) (by simp[bE]) hown2 0 9) ?_;have hfrW:=hown2.free;refine dN (d:=bI { d with sig:={ d.sig with sorts:=l } } { o with so:=y }) (T:=T) (fin:=fin) (first:=first) (i:=j) (n:=m4) _ gH hjT hT (aI hk4 (fun _ w9 m9 hk9 hlt9 hw9 hm9=>?_) (fun f h=>cC aF h));subst m9;rw[bB] at hk9;simp only[go_sem,aC,hb1,hb2,hb3];have hk10:=hk9 (j+1) { o with so:=y } (by omega) hlt9 hw9 hm4 (ItQ.set (k:=0) (a:=(y,l.length,9)) hQ (by simp[bE]) hown2 (by omega) (by have:=hy.len;simp only;omega));refine aH hk10 ?_;unfold iR;rw[show bE { d with sig:={ d.sig with sorts:=l } } { o with so:=y }=(bE d o).set 0 (y,l.length,9) by simp[bE]];refine hU ?_;simp only[bI,dT,dQ,bU,bD];exact bL
  rw[if_neg (by simp[c1])] at hk;simp only;simp only[go_sem,aC,hb1,hb2,hb3];refine kM (d:=bI d o) (T:=T) (fin:=fin) (first:=first) (i:=i) (n:=n) _ gH hi ?_;rw[wAT];simp only[go_sem,aC,hb1,hb2,hb3];cases c2:dF t [115,117,98,115,111,114,116];rotate_left
  ·rw[if_pos c2,tJ,cV] at hk;simp only[go_sem,aC,hb1,hb2,hb3];(refine bF (OT.r 0 8) [] ?_;simp only[go_sem,aC,hb1,hb2,hb3,G1]);refine jT (d:=bI d o) (T:=T) (fin:=fin) (first:=first) (i:=i) (n:=n) _ _ gH hi ?_;by_cases hm:200≤d.sig.below.length
   ·rw[if_pos hm] at hk;rw[if_pos (by (try simp only[aS]);omega),hw];exact cC aF hk
   rw[if_neg hm,aX,← g3] at hk;rw[if_neg (by (try simp only[aS]);omega)];simp only[go_sem,aC,hb1,hb2,hb3,cJ i (by omega)];refine fA (d:=bI d o) (T:=T) (fin:=fin) (first:=first) (i:=i+1) (n:=n) gH g2 hT (aI hk (fun x w2 m2 hk2 hlt2 hw2 hm2=>?_) (fun f h=>cC aF h));subst m2;rw[← hw2,aX] at hk2;simp only[go_sem,aC,hb1,hb2,hb3];(intro b4 hb4;try simp only[aC,aR,aL,ne_eq] at hb4);simp only[go_sem,aC,hb1,hb2,hb3,hb4];refine dN (d:=bI d o) (T:=T) (fin:=fin) (first:=first) (i:=i+1+1) (n:=n) _ gH hlt2 hT (aI hk2 (fun _ w3 m3 hk3 hlt3 hw3 hm3=>?_) (fun f h=>cC aF h));subst m3;rw[← hw3,aX] at hk3;simp only[go_sem,aC,hb1,hb2,hb3,hb4];refine fA (d:=bI d o) (T:=T) (fin:=fin) (first:=first) (i:=i+1+1+1) (n:=n) gH hlt3 hT (aI hk3 (fun y w4 m4 hk4 hlt4 hw4 hm4=>?_) (fun f h=>cC aF h));subst m4;rw[← hw4,bB] at hk4;simp only[go_sem,aC,hb1,hb2,hb3,hb4];(refine bF (OT.r 0 13) [(8,[0])] ?_;simp only[go_sem,aC,hb1,hb2,hb3,hb4])
   (try simp only[go_sem,aC,hb1,hb2,hb3,hb4])
   refine ⟨by decide,fun y hy=>by simp only[cY] at hy;subst hy;rfl,fB rfl rfl (by rw[aS];refine lV hown (k:=1) (o:=(o.be,d.sig.below.length,104)) rfl ?_;exact fun _=>rfl) (fun y hy=>?_) (by simp only[aS,aD,aG];omega) (fun u hu=>?_)⟩
   ·simp only[cO] at hy;obtain ⟨q,_,rfl⟩:=hy;rfl
   have hown2:=mA hown (k:=1) (o:=(o.be,d.sig.below.length,104)) rfl hu (fun _=>rfl) (d.sig.below.length+1);simp only[go_sem,aC,hb1,hb2,hb3,hb4];refine eP (lY hown (k:=1) (o:=(o.be,d.sig.below.length,104)) rfl hown2 (fun _=>rfl)) ?_;have hfrW:=hown2.free;refine dN (d:={ bI d o with below:=.list (some u) (d.sig.below.map Below.enc++[Below.enc ⟨x,y⟩]) }) (T:=T) (fin:=fin) (first:=first) (i:=i+1+1+1+1) (n:=n) _ gH hlt4 hT (aI hk4 (fun _ w9 m9 hk9 hlt9 hw9 hm9=>?_) (fun f h=>cC aF h));subst m9;rw[bB] at hk9;simp only[go_sem,aC,hb1,hb2,hb3,hb4];have hk10:=hk9 (i+1+1+1+1+1) { o with be:=some u } (by omega) hlt9 hw9 hn (ItQ.set (k:=1) (a:=(some u,d.sig.below.length+1,104)) hQ (by simp[bE]) hown2 (by omega) (by simp only;omega));refine aH hk10 ?_;unfold iR;rw[show bE { d with sig:={ d.sig with below:=d.sig.below++[⟨x,y⟩] } } { o with be:=some u }=(bE d o).set 1 (some u,d.sig.below.length+1,104) by simp[bE]];refine hU ?_;simp only[bI,dT,dQ,bU,bD];exact bL
  rw[if_neg (by simp[c2])] at hk;simp only[go_sem,aC,hb1,hb2,hb3];refine fR (d:=bI d o) (T:=T) (fin:=fin) (first:=first) (i:=i) (n:=n) _ gH hi hT ?_;rw[wAT];cases c3:dF t [118,97,108,117,101];rotate_left
  ·rw[if_pos c3,aX,← g3] at hk;simp only;simp only[go_sem,aC,hb1,hb2,hb3];(refine bF (OT.r 0 15) [(9,[0,1,5]),(10,[0])] ?_;simp only[go_sem,aC,hb1,hb2,hb3])
   refine eP (oJ gH) (aIl (fin:=fin) (d:=bI d o) (fi:=first) (fun x:aB=>A.str x) (fun _=>rfl) (fun _=>rfl) hT (fun _=>True) (fun _ _ _=>Iff.rfl) (dO fin) 85 [.ptr r 0] []
    (aAn (fun _ _ h=>h) (fun s' i' n' KV' Kp' hr' _ hi' hn' hk'=>fA hr' hi' hT (aI hk' (fun _ _ _ h h1 h2 h3=>by subst h3;exact h (i'+1) (by omega) h1 h2 hn') (fun _ h=>h)))) (i+1) n trivial g2 hn ?_)
   refine aI (aBP hk (aEW _ _ _ _ _)) (fun l w3 m3 hk3 j3 hj3 hjT3 hw3 hm3=>?_) (fun f h s1 o hg hr1=>aY (h _ o (hg.trans aF) hr1));obtain ⟨hl,hk3⟩:=hk3;subst hw3;simp only[aG,cH] at hl;rw[bB] at hk3;simp only[go_sem,aC,hb1,hb2,hb3];refine ⟨by decide,fun y hy=>by simp only[cO] at hy;obtain ⟨q,_,rfl⟩:=hy;rfl,fB rfl rfl (by rw[aS];refine lV hown (k:=4) (o:=(o.va,d.sig.values.length,9)) rfl ?_;exact fun _=>rfl) (fun y hy=>?_) (by simp only[aS];omega) (fun u hu=>?_)⟩
   ·simp only[cO] at hy;obtain ⟨q,_,rfl⟩:=hy;rfl
   have hown2:=mA hown (k:=4) (o:=(o.va,d.sig.values.length,9)) rfl hu (fun _=>rfl) (d.sig.values.length+l.length);simp only[go_sem,aC,hb1,hb2,hb3,aS];refine eP (lY hown (k:=4) (o:=(o.va,d.sig.values.length,9)) rfl hown2 (fun _=>rfl)) ?_;have hfrW:=hown2.free;refine dN (d:={ bI d o with values:=.list (some u) (d.sig.values.map A.str++l.map A.str) }) (T:=T) (fin:=fin) (first:=first) (i:=j3) (n:=m3) _ gH hjT3 hT (aI hk3 (fun _ w9 m9 hk9 hlt9 hw9 hm9=>?_) (fun f h=>cC aF h));subst m9;rw[bB] at hk9;simp only[go_sem,aC,hb1,hb2,hb3];have hk10:=hk9 (j3+1) { o with va:=some u } (by omega) hlt9 hw9 hm3 (ItQ.set (k:=4) (a:=(some u,d.sig.values.length+l.length,9)) hQ (by simp[bE]) hown2 (by omega) (by simp only;omega));refine aH hk10 ?_;unfold iR;rw[show bE { d with sig:={ d.sig with values:=d.sig.values++l } } { o with va:=some u }=(bE d o).set 4 (some u,d.sig.values.length+l.length,9) by simp[bE]];refine hU ?_;simp only[bI,dT,dQ,bU,bD];exact bL
  rw[if_neg (by simp[c3])] at hk;simp only;simp only[go_sem,aC,hb1,hb2,hb3];refine kM (d:=bI d o) (T:=T) (fin:=fin) (first:=first) (i:=i) (n:=n) _ gH hi ?_;rw[wAT];simp only[go_sem,aC,hb1,hb2,hb3];cases c4:dF t [111,112];rotate_left
  ·rw[if_pos (.inl c4),tJ,cV] at hk;simp only[go_sem,aC,hb1,hb2,hb3,c4];have ht4:t.text=[111,112]:=by have:=c4;simp[dF] at this;exact this.2
   have d4:decide (t.text=[111,112])=true:=by rw[ht4];rfl
   (refine bF (OT.r 0 15) [] ?_;simp only[go_sem,aC,hb1,hb2,hb3,G2,G3,fU ((d.sig.ops.length:Int)+(d.sig.funs.length:Int)) (by omega) (by omega)]);refine jT (d:=bI d o) (T:=T) (fin:=fin) (first:=first) (i:=i) (n:=n) _ _ gH hi ?_;by_cases hm:200≤d.sig.ops.length+d.sig.funs.length
   ·rw[if_pos hm] at hk;rw[if_pos (by (try simp only[aS]);omega),hw];exact cC aF hk
   rw[if_neg hm,if_pos ht4,aX,← g3] at hk;rw[if_neg (by (try simp only[aS]);omega)];simp only[go_sem,aC,hb1,hb2,hb3,cJ i (by omega),d4];(refine bF (OT.r 0 14) [(7,[0,1,5]),(9,[0])] ?_;simp only[go_sem,aC,hb1,hb2,hb3]);refine aMS (d:=bI d o) (T:=T) (fin:=fin) (first:=first) (i:=i+1) (n:=n) hT gH g2 hn (aI hk (fun x w2 m2 hk2 j hj hjT hw2 hm2=>?_) (fun f h=>cC aF h));subst hw2;rw[bB] at hk2;simp only[go_sem,aC,hb1,hb2,hb3];refine ⟨by decide,fun y hy=>by simp only[cY] at hy;subst hy;rfl,fB rfl rfl (by rw[aS];refine lV hown (k:=2) (o:=(o.op,d.sig.ops.length,73)) rfl ?_;exact fun _=>rfl) (fun y hy=>?_) (by simp only[aS,aD,aG];omega) (fun u hu=>?_)⟩
   ·simp only[cO] at hy;obtain ⟨q,_,rfl⟩:=hy;rfl
   have hown2:=mA hown (k:=2) (o:=(o.op,d.sig.ops.length,73)) rfl hu (fun _=>rfl) (d.sig.ops.length+1);simp only[go_sem,aC,hb1,hb2,hb3];refine eP (lY hown (k:=2) (o:=(o.op,d.sig.ops.length,73)) rfl hown2 (fun _=>rfl)) ?_;have hfrW:=hown2.free;refine dN (d:={ bI d o with ops:=.list (some u) (d.sig.ops.map Opr.enc++[Opr.enc x]) }) (T:=T) (fin:=fin) (first:=first) (i:=j) (n:=m2) _ gH hjT hT (aI hk2 (fun _ w9 m9 hk9 hlt9 hw9 hm9=>?_) (fun f h=>cC aF h));subst m9;rw[bB] at hk9;simp only[go_sem,aC,hb1,hb2,hb3];have hk10:=hk9 (j+1) { o with op:=some u } (by omega) hlt9 hw9 hm2 (ItQ.set (k:=2) (a:=(some u,d.sig.ops.length+1,73)) hQ (by simp[bE]) hown2 (by omega) (by simp only;omega));refine aH hk10 ?_;unfold iR;rw[show bE { d with sig:={ d.sig with ops:=d.sig.ops++[x] } } { o with op:=some u }=(bE d o).set 2 (some u,d.sig.ops.length+1,73) by simp[bE]];refine hU ?_;simp only[bI,dT,dQ,bU,bD];exact bL
  simp only[go_sem,aC,hb1,hb2,hb3,c4];refine kM (d:=bI d o) (T:=T) (fin:=fin) (first:=first) (i:=i) (n:=n) _ gH hi ?_;rw[wAT];simp only[go_sem,aC,hb1,hb2,hb3];cases c5:dF t [102,117,110];rotate_left
  ·rw[if_pos (.inr c5),tJ,cV] at hk;simp only[go_sem,aC,hb1,hb2,hb3,c5];have ht4:¬ t.text=[111,112]:=by have:=c5;simp[dF] at this;rw[this.2];decide
   have d4:decide (t.text=[111,112])=false:=by simpa using ht4
   (refine bF (OT.r 0 15) [] ?_;simp only[go_sem,aC,hb1,hb2,hb3,G2,G3,fU ((d.sig.ops.length:Int)+(d.sig.funs.length:Int)) (by omega) (by omega)]);refine jT (d:=bI d o) (T:=T) (fin:=fin) (first:=first) (i:=i) (n:=n) _ _ gH hi ?_;by_cases hm:200≤d.sig.ops.length+d.sig.funs.length
   ·rw[if_pos hm] at hk;rw[if_pos (by (try simp only[aS]);omega),hw];exact cC aF hk
   rw[if_neg hm,if_neg ht4,aX,← g3] at hk;rw[if_neg (by (try simp only[aS]);omega)];simp only[go_sem,aC,hb1,hb2,hb3,cJ i (by omega),d4];(refine bF (OT.r 0 14) [(7,[0,1,5]),(9,[0])] ?_;simp only[go_sem,aC,hb1,hb2,hb3]);refine aLC (d:=bI d o) (T:=T) (fin:=fin) (first:=first) (i:=i+1) (n:=n) hT gH g2 hn (aI hk (fun x w2 m2 hk2 j hj hjT hw2 hm2=>?_) (fun f h=>cC aF h));subst hw2;rw[bB] at hk2;simp only[go_sem,aC,hb1,hb2,hb3];refine ⟨by decide,fun y hy=>by simp only[cY] at hy;subst hy;rfl,fB rfl rfl (by rw[aS];refine lV hown (k:=3) (o:=(o.fu,d.sig.funs.length,73)) rfl ?_;exact fun _=>rfl) (fun y hy=>?_) (by simp only[aS,aD,aG];omega) (fun u hu=>?_)⟩
   ·simp only[cO] at hy;obtain ⟨q,_,rfl⟩:=hy;rfl
   have hown2:=mA hown (k:=3) (o:=(o.fu,d.sig.funs.length,73)) rfl hu (fun _=>rfl) (d.sig.funs.length+1);simp only[go_sem,aC,hb1,hb2,hb3];refine eP (lY hown (k:=3) (o:=(o.fu,d.sig.funs.length,73)) rfl hown2 (fun _=>rfl)) ?_;have hfrW:=hown2.free;refine dN (d:={ bI d o with funs:=.list (some u) (d.sig.funs.map Opr.enc++[Opr.enc x]) }) (T:=T) (fin:=fin) (first:=first) (i:=j) (n:=m2) _ gH hjT hT (aI hk2 (fun _ w9 m9 hk9 hlt9 hw9 hm9=>?_) (fun f h=>cC aF h));subst m9;rw[bB] at hk9;simp only[go_sem,aC,hb1,hb2,hb3];have hk10:=hk9 (j+1) { o with fu:=some u } (by omega) hlt9 hw9 hm2 (ItQ.set (k:=3) (a:=(some u,d.sig.funs.length+1,73)) hQ (by simp[bE]) hown2 (by omega) (by simp only;omega));refine aH hk10 ?_;unfold iR;rw[show bE { d with sig:={ d.sig with funs:=d.sig.funs++[x] } } { o with fu:=some u }=(bE d o).set 3 (some u,d.sig.funs.length+1,73) by simp[bE]];refine hU ?_;simp only[bI,dT,dQ,bU,bD];exact bL
  rw[if_neg (by simp[c4,c5])] at hk;simp only[go_sem,aC,hb1,hb2,hb3,c5];refine kM (d:=bI d o) (T:=T) (fin:=fin) (first:=first) (i:=i) (n:=n) _ gH hi ?_;rw[wAT];simp only[go_sem,aC,hb1,hb2,hb3];cases c6:dF t [108,101,116];rotate_left
  ·rw[if_pos c6,tJ,cV] at hk;simp only[go_sem,aC,hb1,hb2,hb3,c6];(refine bF (OT.r 0 7) [] ?_;simp only[go_sem,aC,hb1,hb2,hb3,G5]);refine jT (d:=bI d o) (T:=T) (fin:=fin) (first:=first) (i:=i) (n:=n) _ _ gH hi ?_;by_cases hm:300≤d.eqs.length
   ·rw[if_pos hm] at hk;rw[if_pos (by (try simp only[aS]);omega),hw];exact cC aF hk
   rw[if_neg hm,aX,← g3] at hk;rw[if_neg (by (try simp only[aS]);omega)];simp only[go_sem,aC,hb1,hb2,hb3,cJ i (by omega)];(refine bF (OT.l [0,2,3,4,5,1,6,7,8] .nil) [(1,[3,5]),(7,[0,3,5])] ?_;simp only[go_sem,aC,hb1,hb2,hb3]);refine oK (d:=bI d o) (T:=T) (fin:=fin) (first:=first) (i:=i+1) (n:=n) hT gH g2 hn (aI hk (fun x w2 m2 hk2 j2 hj2 hjT2 hw2 hm2=>?_) (fun f h=>cC aF h));subst hw2;rw[aX] at hk2;simp only[go_sem,aC,hb1,hb2,hb3,bY];(intro b5 hb5;try simp only[aC,aR,aL,ne_eq] at hb5);simp only[go_sem,aC,hb1,hb2,hb3,hb5];refine dN (d:=bI d o) (T:=T) (fin:=fin) (first:=first) (i:=j2) (n:=m2) _ gH hjT2 hT (aI hk2 (fun _ w3 m3 hk3 hlt3 hw3 hm3=>?_) (fun f h=>cC aF h));subst m3;rw[← hw3,aX] at hk3;simp only[go_sem,aC,hb1,hb2,hb3,hb5];refine oK (d:=bI d o) (T:=T) (fin:=fin) (first:=first) (i:=j2+1) (n:=m2) hT gH hlt3 hm2 (aI hk3 (fun y w4 m4 hk4 j4 hj4 hjT4 hw4 hm4=>?_) (fun f h=>cC aF h));subst hw4;rw[aX] at hk4;simp only[go_sem,aC,hb1,hb2,hb3,hb5,bY];refine aE6 (d:=bI d o) (T:=T) (fin:=fin) (first:=first) (i:=j4) (n:=m4) hT gH hjT4 hm4 (aI hk4 (fun z w5 m5 hk5 j5 hj5 hjT5 hw5 hm5=>?_) (fun f h=>cC aF h));subst hw5;rw[bB] at hk5;simp only[go_sem,aC,hb1,hb2,hb3,hb5];(refine bF (OT.r 0 11) [(7,[0])] ?_;simp only[go_sem,aC,hb1,hb2,hb3,hb5])
   (try simp only[go_sem,aC,hb1,hb2,hb3,hb5])
   refine ⟨by decide,fun y hy=>by simp only[cY] at hy;subst hy;rfl,fB rfl rfl (by rw[aS];refine lV hown (k:=5) (o:=(o.eq,d.eqs.length,80)) rfl ?_;exact fun _=>rfl) (fun y hy=>?_) (by simp only[aS,aD,aG];omega) (fun u hu=>?_)⟩
   ·simp only[cO] at hy;obtain ⟨q,_,rfl⟩:=hy;rfl
   have hown2:=mA hown (k:=5) (o:=(o.eq,d.eqs.length,80)) rfl hu (fun _=>rfl) (d.eqs.length+1);simp only[go_sem,aC,hb1,hb2,hb3,hb5];refine eP (lY hown (k:=5) (o:=(o.eq,d.eqs.length,80)) rfl hown2 (fun _=>rfl)) ?_;have hfrW:=hown2.free;refine dN (d:={ bI d o with eqs:=.list (some u) (d.eqs.map Eqn.enc++[Eqn.enc ⟨x,y,z,t.line,t.col⟩]) }) (T:=T) (fin:=fin) (first:=first) (i:=j5) (n:=m5) _ gH hjT5 hT (aI hk5 (fun _ w9 m9 hk9 hlt9 hw9 hm9=>?_) (fun f h=>cC aF h));subst m9;rw[bB] at hk9;simp only[go_sem,aC,hb1,hb2,hb3,hb5];have hk10:=hk9 (j5+1) { o with eq:=some u } (by omega) hlt9 hw9 hm5 (ItQ.set (k:=5) (a:=(some u,d.eqs.length+1,80)) hQ (by simp[bE]) hown2 (by omega) (by simp only;omega));refine aH hk10 ?_;unfold iR;rw[show bE { d with eqs:=d.eqs++[⟨x,y,z,t.line,t.col⟩] } { o with eq:=some u }=(bE d o).set 5 (some u,d.eqs.length+1,80) by simp[bE]];refine hU ?_;simp only[bI,dT,dQ,bU,bD];exact bL
  rw[if_neg (by simp[c6])] at hk;simp only[go_sem,aC,hb1,hb2,hb3,c6];refine kM (d:=bI d o) (T:=T) (fin:=fin) (first:=first) (i:=i) (n:=n) _ gH hi ?_;rw[wAT];simp only[go_sem,aC,hb1,hb2,hb3];cases c7:dF t [114,117,108,101];rotate_left
  ·rw[if_pos c7,tJ,cV] at hk;simp only[go_sem,aC,hb1,hb2,hb3,c7];(refine bF (OT.r 0 7) [] ?_;simp only[go_sem,aC,hb1,hb2,hb3,G8]);refine jT (d:=bI d o) (T:=T) (fin:=fin) (first:=first) (i:=i) (n:=n) _ _ gH hi ?_;by_cases hm:300≤d.rules.length
   ·rw[if_pos hm] at hk;rw[if_pos (by (try simp only[aS]);omega),hw];exact cC aF hk
   rw[if_neg hm,aX,← g3] at hk;rw[if_neg (by (try simp only[aS]);omega)];simp only[go_sem,aC,hb1,hb2,hb3,cJ i (by omega)];(refine bF (OT.r 0 13) [(7,[0,1,4]),(9,[0])] ?_;simp only[go_sem,aC,hb1,hb2,hb3]);refine aKI (d:=bI d o) (T:=T) (fin:=fin) (first:=first) (i:=i+1) (n:=n) hT t gH g2 hn (aI hk (fun x w2 m2 hk2 j hj hjT hw2 hm2=>?_) (fun f h=>cC aF h));subst hw2;rw[bB] at hk2;simp only[go_sem,aC,hb1,hb2,hb3];refine ⟨by decide,fun y hy=>by simp only[cY] at hy;subst hy;rfl,fB rfl rfl (by rw[aS];refine lV hown (k:=8) (o:=(o.ru,d.rules.length,84)) rfl ?_;exact fun _=>rfl) (fun y hy=>?_) (by simp only[aS,aD,aG];omega) (fun u hu=>?_)⟩
   ·simp only[cO] at hy;obtain ⟨q,_,rfl⟩:=hy;rfl
   have hown2:=mA hown (k:=8) (o:=(o.ru,d.rules.length,84)) rfl hu (fun _=>rfl) (d.rules.length+1);simp only[go_sem,aC,hb1,hb2,hb3];refine eP (lY hown (k:=8) (o:=(o.ru,d.rules.length,84)) rfl hown2 (fun _=>rfl)) ?_;have hfrW:=hown2.free;refine dN (d:={ bI d o with rules:=.list (some u) (d.rules.map Rul.enc++[Rul.enc x]) }) (T:=T) (fin:=fin) (first:=first) (i:=j) (n:=m2) _ gH hjT hT (aI hk2 (fun _ w9 m9 hk9 hlt9 hw9 hm9=>?_) (fun f h=>cC aF h));subst m9;rw[bB] at hk9;simp only[go_sem,aC,hb1,hb2,hb3];have hk10:=hk9 (j+1) { o with ru:=some u } (by omega) hlt9 hw9 hm2 (ItQ.set (k:=8) (a:=(some u,d.rules.length+1,84)) hQ (by simp[bE]) hown2 (by omega) (by simp only;omega));refine aH hk10 ?_;unfold iR;rw[show bE { d with rules:=d.rules++[x] } { o with ru:=some u }=(bE d o).set 8 (some u,d.rules.length+1,84) by simp[bE]];refine hU ?_;simp only[bI,dT,dQ,bU,bD];exact bL
  rw[if_neg (by simp[c7])] at hk;simp only[go_sem,aC,hb1,hb2,hb3,c7];refine eP (s':=iR T fin first r (((s.setO b1 (.cells 74 [.ptr r 0])).setO b2 (.cells 60 t.cs)).setO b3 (.cells 191 [.ptr r 6])) d o i n) (hU bL) (aJ4 hT t w hw ⟨hown.to (fun _=>rfl),hQ.len⟩ hn (aI hk (fun d2 w2 m2 hk2 j o2 hj hjT hw2 hm2 hQ2=>?_) (fun f h s1 x hg hr1=>aY (h s1 x (hg.trans aF) hr1))));subst hw2;have hown2:OwnOk s (bE d2 o2):=hQ2.own.to (fun _=>rfl);unfold iR;simp only[go_sem,aC,hb1,hb2,hb3];have hfrW:=hown2.free;refine dN (d:=bI d2 o2) (T:=T) (fin:=fin) (first:=first) (i:=j) (n:=m2) _ gH hjT hT (aI hk2 (fun _ w9 m9 hk9 hlt9 hw9 hm9=>?_) (fun f h=>cC aF h));subst m9;rw[bB] at hk9;simp only[go_sem,aC,hb1,hb2,hb3];have hk10:=hk9 (j+1) o2 (by omega) hlt9 hw9 hm2 ⟨hown2,fun a ha=>qG (hQ2.len a ha) (by omega)⟩;refine aH hk10 (hU ?_);simp only[bI];exact bL
end
end
section
theorem aNq (s:St):Ex cx 14 pZ (fun x _ s'=>x=.normal∧s'=s) [(5,.nili)] s:=by
 refine cL (V:=[0,2,3,4,5,6,7,8,9,10,11,12,13]) _ _ _ _ ?_;simp only[pZ,f40];simp only[go_sem]
theorem aMV (s:St) (b:Nat) (x0 x1 x2 x3 y0 y1 y2 y3:A) (hb:s.getO b=some (.cells 36 [y0,y1,y2,y3])) (h0:x0.one=true) (h1:x1.one=true) (h2:x2.one=true) (h3:x3.one=true) :
  Ex cx 14 pZ (fun x _ s'=>x=.normal∧s'.ge (s.setO b (.cells 36 [x0,x1,x2,x3]))) [(0,.ptr b 0),(5,.iface 36 (.agg [x0,x1,x2,x3]))] s:=by
 refine cL (V:=[0,2,3,4,5,6,7,8,9,10,11,12,13]) _ _ _ _ ?_;simp only[pZ,f40];simp only[go_sem,h0,h1,h2,h3];intro q hq;have hne:=bN hb hq;simp only[go_sem,h0,h1,h2,h3,hne,hb];have ho:(x0.one&&(x1.one&&(x2.one&&x3.one)))=true:=by rw[h0,h1,h2,h3];rfl
 refine ⟨ho,ho,?_⟩;exact mB (pI (by simp only[aE,if_true]) (wU (by simp) (fN hq (fS _ _ _))))
structure CatchC (C:Cx) (h:FuncId) (ft:TypeId):Prop where
 quiet:∀ F g s w (p:Value),R C.toCtx F g s w→CallsD C.P h #[p] .returning w fun e u' w'=>(∃ v,e=.returned v)∧u'=.returning∧∃ g',g.le g'∧R C.toCtx F g' s w'
 loud:∀ F g s w (b k:Nat) (cs fs:List A) (v:Value),R C.toCtx F g s w→g.beta b=some k→s.getO b=some (.cells ft cs)→Rz g (.agg fs) v→fs.length=cs.length→fs.length=4 →
  CallsD C.P h #[.pointer (some ⟨k,0,none⟩)] (.panicking [{ v:=.iface ft v,recovered:=false }]) w fun e u' w'=>(∃ v,e=.returned v)∧settle u'=.returning ∧
   ∃ g',g.le g'∧R C.toCtx F g' (s.setO b (.cells ft fs)) w'
theorem aEX:CatchC cx 40 36 where
 quiet:=by
  intro F g s w p hR;refine callsD_of_wpS (fn:=f40) func40 wT fun c₀ cs hu=>?_
  refine wpS_seq (zV ?_);have hrec:recoverD (c₀::cs)=none:=by simp[recoverD,hu]
  rw[hrec];refine wpS_of_wp ?_;have hE:=(aG7 (g:=g) #[p] rfl).put (a:=⟨_,[]⟩) (d:=5) (x:=.nili) (v:=.nilIface) (by decide) .nili;refine iK (fun ex a' w' hp=>?_) (aNq s F g w _ hR hE);obtain ⟨g',e',s',x,h1,h2,h3,h4,h5,rfl,rfl⟩:=hp;cases ex<;>try exact h5.elim
  refine ⟨h4,.returning,by rw[← hu],_,aAg a' w',⟨_,rfl⟩,rfl,g',h1,h2⟩
 loud:=by
  intro F g s w b k cs fs v hR hbk hb hv hl h4
  obtain ⟨x0,x1,x2,x3,rfl⟩:∃ x0 x1 x2 x3,fs=[x0,x1,x2,x3]:=by
   match fs,h4 with
   | [x0,x1,x2,x3],_=>exact ⟨x0,x1,x2,x3,rfl⟩
  obtain ⟨y0,y1,y2,y3,rfl⟩:∃ x0 x1 x2 x3,cs=[x0,x1,x2,x3]:=by
   match cs,hl with
   | [x0,x1,x2,x3],_=>exact ⟨x0,x1,x2,x3,rfl⟩
  obtain ⟨vs,hv1,hv2,hone⟩:=hv.agg_inv;refine callsD_of_wpS (fn:=f40) func40 wT fun c₀ cs hu=>?_
  refine wpS_seq (zV ?_);have hrec:recoverD (c₀::cs)=some (.iface 36 v,{ c₀ with mode:=.panicking [{ v:=.iface 36 v,recovered:=true }] }::cs):=by simp[recoverD,hu]
  rw[hrec];refine wpS_of_wp ?_
  have hE0:EnvOk g 14 [(0,.ptr b 0)] (#[Value.pointer (some ⟨k,0,none⟩)]++Array.replicate (f40.ntmps-(#[Value.pointer (some ⟨k,0,none⟩)]).size) undef):=by
   refine ⟨by simp[f40],fun t a ha=>?_⟩;simp only[Env.get] at ha;split at ha
   ·rename_i ht;subst ht;cases ha;exact ⟨_,rfl,.ptr b 0 k hbk⟩
   ·cases ha
  have hE:=hE0.put (a:=⟨_,[]⟩) (d:=5) (x:=.iface 36 (.agg [x0,x1,x2,x3])) (v:=.iface 36 v) (by decide) (.iface 36 _ v hv);refine iK (fun ex a' w' hp=>?_) (aMV s b x0 x1 x2 x3 y0 y1 y2 y3 hb (hone x0 (by simp)) (hone x1 (by simp)) (hone x2 (by simp)) (hone x3 (by simp)) F g w _ hR hE);obtain ⟨g',e',s',x,h1,h2,h3,h4,h5,rfl,h6⟩:=hp;cases ex<;>try exact h5.elim
  refine ⟨h4,.panicking [{ v:=.iface 36 v,recovered:=true }],rfl,_,aAg a' w',⟨_,rfl⟩,rfl,g',h1,h2.weaken h6 (fun h=>by cases h)⟩
section
variable {C:Cx} {n:Nat} {e:Env} {s:St}
def aGW (C:Cx) (F:Fr) (g0:Gh) (n:Nat) (h:FuncId) (Q:Option Nat→XK→Env→St→Prop) (ex:Exit) (a:Act) (w:World):Prop :=
 ∃ g' e s x d,g0.le g'∧R C.toCtx F g' s w∧EnvOk g' n e a.tmps∧XRz g' x ex ∧
  (match d with
   | none=>a.defers=[]
   | some b=>∃ k,g'.beta b=some k∧a.defers=[lL h k])∧Q d x e s
def ExD (C:Cx) (n:Nat) (h:FuncId) (c:Code) (Q:Option Nat→XK→Env→St→Prop) (e:Env) (s:St):Prop :=
 ∀ F g w a,R C.toCtx F g s w→EnvOk g n e a.tmps→a.defers=[]→c.wp C.P (aGW C F g n h Q) a w
def aAs (R:Env→St→Prop) (Q:Option Nat→XK→Env→St→Prop):XK→Env→St→Prop
 | .normal,e,s=>R e s
 | x,e,s=>Q none x e s
theorem ExD.seq {h:FuncId} {c d:Code} {Q:Option Nat→XK→Env→St→Prop} (hc:Ex C n c (aAs (ExD C n h d Q) Q) e s):ExD C n h (.seq c d) Q e s:=fun F g w a hR hE hD=>by
 refine wp_seq (iK (fun ex a' w' hq=>?_) (hc F g w a hR hE));obtain ⟨g',e',s',x,h1,h2,h3,h4,h5,h6⟩:=hq;cases ex<;>cases x<;>try exact h5.elim
 ·refine iK (fun ex a2 w2 hq=>?_) (h6 F g' w' a' h2 h3 (by rw[h4];exact hD));obtain ⟨g2,e2,s2,x2,d2,q1,q2⟩:=hq;exact ⟨g2,e2,s2,x2,d2,h1.trans q1,q2⟩
 all_goals exact ⟨g',e',s',_,none,h1,h2,h3,h5,by rw[h4];exact hD,h6⟩
theorem ExD.defer {h:FuncId} {c d:Code} {y:Operand} {b:Nat} {Q:Option Nat→XK→Env→St→Prop} (hc:wM c=some (h,y)) (hy:cT C e y=some (.ptr b 0)) (hd:Ex C n d (Q (some b)) e s):ExD C n h (.seq c d) Q e s:=fun F g w a hR hE hD=>by
 obtain ⟨id,ops,ats,ty,pos,after,rfl,hops⟩:=aEr hc;obtain ⟨k,hv,hbk⟩:=((hE.oper hR) y _ hy).ptr_inv;refine wp_seq ?_
 have hq:∀ (a':Act),a'.tmps=a.tmps→a'.defers=[lL h k]→d.wp C.P (aGW C F g n h Q) a' w:=by
  intro a' ht hd';refine iK (fun ex a2 w2 hq=>?_) (hd F g w a' hR (by rw[ht];exact hE));obtain ⟨g',e',s',x,h1,h2,h3,h4,h5,h6⟩:=hq;exact ⟨g',e',s',x,some b,h1,h2,h3,h5,⟨k,h1.beta _ _ hbk,by rw[h4];exact hd'⟩,h6⟩
 refine wp_region_list ?_;rw[hops];unfold wpList;rw[if_pos (by simp[Region.wanted])];left
 have hex:(execOp a.eval ⟨none,.defer ⟨.value (.func h),#[y],ats⟩,ty,pos,after,none⟩).run C.P w=.ok (.defer (lL h k)) w:=by
  have e1:a.eval (.func h)=.func (.func h) #[] #[]:=rfl;simp only[execOp,resolve,e1,Deferred.ofValue,aV,bC,aW,iD,bU,bD,hv,lL];simp
 unfold Oper.wp;rw[hex,Oper.upon_defer];unfold wpList;exact hq _ rfl (by simp[Act.put,hD])
def rD (C:Cx) (rs:List ResultVar) (KV Kp:St→A→Prop):Option Nat→XK→Env→St→Prop
 | none,x,e,s=>iQ C rs KV Kp x e s
 | some b,.panic v,e,s=>∃ fs cs,v=.iface 36 (.agg fs)∧s.getO b=some (.cells 36 cs)∧fs.length=cs.length∧fs.length=4∧iQ C rs KV Kp .ret e (s.setO b (.cells 36 fs))
 | some b,x,e,s=>iQ C rs KV Kp x e s
theorem aDO {f:FuncId} {fn:Func} {c:Code} {args:List A} {KV Kp:St→A→Prop} (hct:CatchC C 40 36)
  (hent:∀ (k:Nat) (w:World),(invoke (.fn (.func 40) #[]) #[.pointer (some ⟨k,0,none⟩)]).run C.P w=.ok (.enter 40 #[.pointer (some ⟨k,0,none⟩)]) w)
  (hf : C.P.funcs[f]? = some fn) (hb : fn.body = some c) (hname : (fn.name == "runtime.NumGoroutine") = false) (hn : args.length ≤ fn.ntmps)
  (h:ExD C fn.ntmps 40 c (rD C fn.results.toList KV Kp) (jE 0 args) s):Den C f args KV Kp s:=by
 refine aDS hf hb hname hn fun F g w a hR hE hD=>?_
 refine iK (fun ex a' w' hq=>?_) (h F g w a hR hE hD);obtain ⟨g',e',s',x,d,q1,q2,q3,q4,q7,hq⟩:=hq
 have ret:∀ (g2:Gh) (s2:St) (w2:World) (x:XK),(x=.normal∨x=.ret)→iQ C fn.results.toList KV Kp x e' s2→R C.toCtx F g2 s2 w2→g'.le g2 →
   ∃ v,(results fn a'.tmps).run C.P w2=.ok v w2∧∃ g3 a s,g.le g3∧R C.toCtx F g3 s w2∧Rz g3 a v∧KV s a:=by
  intro g2 s2 w2 x hx hk hR2 hle
  have hk':∃ l,jY C e' s2 fn.results.toList=some l∧KV s2 (nW l):=by
   rcases hx with rfl|rfl<;>simp only[iQ] at hk<;>split at hk
   ·exact ⟨_,by assumption,hk⟩
   ·exact hk.elim
   ·exact ⟨_,by assumption,hk⟩
   ·exact hk.elim
  obtain ⟨l,hl,hk'⟩:=hk';obtain ⟨vs,r1,r2⟩:=wE hR2 (q3.mono hle) _ _ hl;refine ⟨_,?_,g2,_,s2,q1.trans hle,hR2,aCu r2,hk'⟩;have e0:results fn a'.tmps=(do let vs ← fn.results.mapM (pQ a'.tmps);pure (if h:vs.size=1 then vs[0] else .tuple vs)):=rfl;rw[e0,aV,Array.mapM_eq_mapM_toList,Sem.run_map,r1];rfl
 cases d with
 | none =>
  simp only[rD] at hq;simp only at q7;cases ex<;>cases x<;>try exact q4.elim
  ·obtain ⟨v,r1,g3,aa,ss,r2⟩:=ret g' s' w' .normal (.inl rfl) hq q2 (dX g');simp only[bodyPostD,q7,Leaves];exact ⟨v,r1,g3,aa,ss,r2⟩
  ·exact hq.elim
  ·exact hq.elim
  ·obtain ⟨v,r1,g3,aa,ss,r2⟩:=ret g' s' w' .ret (.inr rfl) hq q2 (dX g');simp only[bodyPostD,q7,Leaves];exact ⟨v,r1,g3,aa,ss,r2⟩
  ·obtain ⟨v,rfl,hrv⟩:=q4;simp only[bodyPostD,q7,Leaves];exact ⟨g',_,v,s',rfl,q1,q2,hrv,hq⟩
 | some b =>
  obtain ⟨k,hbk,hdf⟩:=q7;have hinv:(invoke (lL 40 k).target (lL 40 k).args).run C.P w'=.ok (.enter 40 #[.pointer (some ⟨k,0,none⟩)]) w':=hent k w'
  have quiet:∀ (x:XK),(x=.normal∨x=.ret)→iQ C fn.results.toList KV Kp x e' s'→Leaves C.P fn a'.tmps (pM C F g KV Kp) [lL 40 k] .returning w':=by
   intro x hx hq;refine ⟨by simp,_,_,_,_,rfl,hinv,?_⟩;refine fun c cs hc=>?_
   obtain ⟨e,u',w2,fr,⟨⟨v0,rfl⟩,rfl,g2,hle,hR2⟩,hcm⟩:=hct.quiet F g' s' w' (.pointer (some ⟨k,0,none⟩)) q2 c cs hc;obtain ⟨v,r1,r2⟩:=ret g2 s' w2 x hx hq hR2 hle;exact ⟨.returned v0,.returning,w2,fr,(show Leaves C.P fn a'.tmps (pM C F g KV Kp) [] .returning w2 from ⟨v,r1,r2⟩),hcm⟩
  cases ex<;>cases x<;>try exact q4.elim
  ·simp only[bodyPostD,hdf];exact quiet .normal (.inl rfl) hq
  ·exact hq.elim
  ·exact hq.elim
  ·simp only[bodyPostD,hdf];exact quiet .ret (.inr rfl) hq
  ·obtain ⟨v,rfl,hrv⟩:=q4;obtain ⟨fs,cs,rfl,hbo,hl,h4,hq⟩:=hq;obtain ⟨u,rfl,hru⟩:=hrv.iface_inv;simp only[bodyPostD,hdf];refine ⟨by simp,_,_,_,_,rfl,hinv,?_⟩;refine fun c cs0 hc0=>?_
   obtain ⟨e,u',w2,fr,⟨⟨v0,rfl⟩,hset,g2,hle,hR2⟩,hcm⟩:=hct.loud F g' s' w' b k cs fs u q2 hbk hbo hru hl h4 c cs0 hc0;obtain ⟨v,r1,r2⟩:=ret g2 _ w2 .ret (.inr rfl) hq hR2 hle;exact ⟨.returned v0,u',w2,fr,(show Leaves C.P fn a'.tmps (pM C F g KV Kp) [] (settle u') w2 from by rw[hset];exact ⟨v,r1,r2⟩),hcm⟩
end
end
section
section
variable {C:Cx} {n:Nat} {h b:Nat} {R:Env→St→Prop} {Q:Option Nat→XK→Env→St→Prop} {e:Env} {s:St} {rs:List ResultVar} {KV Kp:St→A→Prop} {x:XK} {v:A}
@[go_sem] theorem aQa:aAs R Q .normal e s=R e s:=rfl
@[go_sem] theorem aQ0:aAs R Q .ret e s=Q none .ret e s:=rfl
@[go_sem] theorem aQc:aAs R Q (.panic v) e s=Q none (.panic v) e s:=rfl
@[go_sem] theorem aQA:rD C rs KV Kp none x e s=iQ C rs KV Kp x e s:=rfl
@[go_sem] theorem aP9:rD C rs KV Kp (some b) .normal e s=iQ C rs KV Kp .normal e s:=rfl
@[go_sem] theorem aQV:rD C rs KV Kp (some b) .ret e s=iQ C rs KV Kp .ret e s:=rfl
@[go_sem] theorem aQe:rD C rs KV Kp (some b) (.panic v) e s=∃ fs cs,v=.iface 36 (.agg fs)∧s.getO b=some (.cells 36 cs)∧fs.length=cs.length∧fs.length=4∧iQ C rs KV Kp .ret e (s.setO b (.cells 36 fs)):=rfl
end
theorem aGF (k:Nat) (w:World):(invoke (.fn (.func 40) #[]) #[.pointer (some ⟨k,0,none⟩)]).run cx.P w=.ok (.enter 40 #[.pointer (some ⟨k,0,none⟩)]) w:=aHb k w
def mE:DOwn:=⟨none,none,none,none,none,none,none,none,none⟩
def nU:Tok:=⟨0,[],0,0,0⟩
theorem aCR (d:Dfn) (o:DOwn) {s:St} (h:OwnOk s (bE d o)):A.le (.agg (bI d o).cs) d.enc:=by
 have z:∀ k (a:dI),(bE d o)[k]?=some a→a.1=none→a.2.1=0:=fun k a hk=>h.nil a (dP hk)
 have g:∀ {α:Type} (tk:Option Nat) (f:α→A) (l:List α) (k:Nat) (e:TypeId),(bE d o)[k]?=some (tk,l.length,e)→A.le (gv tk (l.map f)) (.list none (l.map f)):=fun tk f l k e hk =>
  mZ tk _ (fun hn=>by rw[eJ (z k _ hk hn)];rfl)
 exact A.le.agg ⟨⟨bM _,rfl⟩,⟨g o.so _ _ 0 9 rfl,rfl⟩,⟨g o.be _ _ 1 104 rfl,rfl⟩,⟨g o.op _ _ 2 73 rfl,rfl⟩,⟨g o.fu _ _ 3 73 rfl,rfl⟩,⟨g o.va _ _ 4 9 rfl,rfl⟩,⟨g o.eq _ _ 5 80 rfl,rfl⟩,⟨g o.on _ _ 6 68 rfl,rfl⟩,⟨bM _,rfl⟩,⟨g o.ma _ _ 7 68 rfl,rfl⟩,⟨g o.ru _ _ 8 84 rfl,rfl⟩,⟨bM _,rfl⟩,⟨bM _,rfl⟩,trivial⟩
theorem aBK {s:St}:OwnOk s (bE eV mE):=by
 refine ⟨fun o ho u hu=>?_,fun o ho _=>?_,fun i j a b u hi hj ha hb=>?_⟩
 ·simp only[bE,eW,rK,jU] at ho;rcases ho with rfl|rfl|rfl|rfl|rfl|rfl|rfl|rfl|rfl<;>cases hu
 ·simp only[bE,eW,rK,jU] at ho;rcases ho with rfl|rfl|rfl|rfl|rfl|rfl|rfl|rfl|rfl<;>rfl
 ·have:=dP hi;simp only[bE,eW,rK,jU] at this;rcases this with rfl|rfl|rfl|rfl|rfl|rfl|rfl|rfl|rfl<;>cases ha
section
variable {T:List Tok} {fin:Fault} {s:St} {r:Nat} {KV Kp:St→A→Prop}
def aDh (KV:St→A→Prop) (s:St) (r:Nat):Rd Dfn→Prop
 | .ok d _ _=>∀ o,KV (s.setO r o) (.tuple [d.enc,Fault.none.enc])
 | .bad f=>∀ o,KV (s.setO r o) (.tuple [eV.enc,f.enc])
theorem aL7 (hT:TOk T) (hr:s.getO r=some (aN T fin (bI eV mE) nU 0 0)) (hk:aDh KV s r (uU false fin T)):Den cx 38 [.ptr r 0] KV Kp s:=by
 have hlenT:=hT.len;refine Den.drop ?_;refine aDO aEX aGF func38 rfl rfl (iB rfl) ?_;refine ExD.seq ?_;refine cL (V:=[0,2,3,25]) _ _ _ _ ?_;simp only[go_sem,ntmps38,f38];(intro b2 hb2;try simp only[aL,aR,ne_eq] at hb2);have e2:=bN hr (by first|exact hb2|exact hb2.2|exact hb2.2.2|exact hb2.2.2.2|exact hb2.2.2.2.2|exact hb2.2.2.2.2.2|exact hb2.2.2.2.2.2.2);simp only[go_sem,ntmps38,f38,hb2,e2];(intro b3 hb3;try simp only[aL,aR,ne_eq] at hb3);have e3:=bN hr (by first|exact hb3|exact hb3.2|exact hb3.2.2|exact hb3.2.2.2|exact hb3.2.2.2.2|exact hb3.2.2.2.2.2|exact hb3.2.2.2.2.2.2);simp only[go_sem,ntmps38,f38,hb2,e2,hb3,e3];refine ExD.defer (by rfl) (b:=b3) (by simp only[go_sem,ntmps38,f38,hb2,e2,hb3,e3]) ?_;refine cL (V:=[0,2,3,25]) _ _ _ _ ?_;simp only[go_sem,ntmps38,f38,hb2,e2,hb3,e3];generalize hs2:(s.setO b2 (Ob.cells 33 [.str [],.nils,.nils,.nils,.nils,.nils,.nils,.nils,.str [],.nils,.nils,.str [],.str []])).setO b3 (Ob.cells 36 [.int .i64 0,.str [],.int .i64 0,.int .i64 0])=s2;have hr2:s2.getO r=some (aN T fin (bI eV mE) nU 0 0):=by subst hs2;exact (by simp only[aE,cP,gV,aR,ne_eq,cZ,reduceIte,ntmps38,f38,hb2,e2,hb3,e3,hr]<;>(first|done|rfl|assumption))
 have h22:s2.getO b2=some (Ob.cells 33 [.str [],.nils,.nils,.nils,.nils,.nils,.nils,.nils,.str [],.nils,.nils,.str [],.str []]):=by subst hs2;exact (by simp only[aE,cP,gV,aR,ne_eq,cZ,reduceIte,ntmps38,f38,hb2,e2,hb3,e3]<;>(first|done|rfl|assumption))
 have h23:s2.getO b3=some (Ob.cells 36 [.int .i64 0,.str [],.int .i64 0,.int .i64 0]):=by subst hs2;exact (by simp only[aE,cP,gV,aR,ne_eq,cZ,reduceIte,ntmps38,f38,hb2,e2,hb3,e3]<;>(first|done|rfl|assumption))
 have hs2g:∀ s1:St,s1.gx s2 r→s1.gx s r:=fun s1 h=>h.trans (by subst hs2;exact aF)
 have bad:∀ (f:Fault) (s1:St) (o:Ob) (e:Env),e.get 2=some (.ptr b2 0)→e.get 3=some (.ptr b3 0)→(∀ o,KV (s.setO r o) (.tuple [eV.enc,f.enc]))→s1.gx s2 r→s1.getO r=some o →
   rD cx [ResultVar.cell 2 33,ResultVar.cell 3 36] (DK KV) (DK Kp) (some b3) (.panic (.iface 36 f.enc)) e s1:=by
  intro f s1 o e g2 g3 hb hg ho;have q2:=hg.ob b2 e2.2 _ h22;have q3:=hg.ob b3 e3.2 _ h23;simp only[go_sem,ntmps38,f38,hb2,e2,hb3,e3,q2,q3];refine ⟨f.cs,_,rfl,rfl,rfl,rfl,?_⟩;simp only[go_sem,ntmps38,f38,hb2,e2,hb3,e3,q2,q3,g2,g3];have hbo:=hb o;simp only[go_sem] at hbo;exact DK.mk hbo (St.gx.ge (bQ hb3.2 (hs2g _ hg)) (by rw[aE,if_neg e3.2];exact ho)) (A.le.tuple ⟨aCR eV mE (s:=s) aBK,bM _,trivial⟩)
 have hk2:(uU false fin T).to (fun d _ _=>∀ o,KV (s.setO r o) (.tuple [d.enc,Fault.none.enc])) (fun f=>∀ o,KV (s.setO r o) (.tuple [eV.enc,f.enc])):=by
  revert hk;unfold aDh;cases uU false fin T<;>exact id
 simp only[uU,aX] at hk2;have hT0:T=T.drop 0:=rfl;rw[hT0] at hk2;refine dN (d:=bI eV mE) (T:=T) (fin:=fin) (first:=nU) (i:=0) (n:=0) _ hr2 (bS _) hT (aI hk2 (fun _ w1 m1 hk3 hlt1 hw1 hm1=>?_) (fun f h o=>?_));rotate_left
 ·exact bad f _ o _ rfl rfl h (dA (dJ _ _)) (by rw[aE,if_pos rfl])
 subst m1;rw[← hw1] at hk3;simp only[go_sem];refine fA (d:=bI eV mE) (T:=T) (fin:=fin) (first:=nU) (i:=0+1) (n:=0) (by rw[aE,if_pos rfl];rfl) hlt1 hT (aI hk3 (fun x w2 m2 hk4 hlt2 hw2 hm2=>?_) (fun f h o=>?_));rotate_left
 ·exact bad f _ o _ rfl rfl h (dA (dA (dJ _ _))) (by rw[aE,if_pos rfl])
 subst m2;rw[← hw2] at hk4;simp only[go_sem,e2,e3,h22,h23];refine dN (d:={ bI eV mE with name:=x }) (T:=T) (fin:=fin) (first:=nU) (i:=0+1+1) (n:=0) _ (by rw[aE,if_pos rfl];rfl) hlt2 hT (aI hk4 (fun _ w3 m3 hk5 hlt3 hw3 hm3=>?_) (fun f h o=>?_));rotate_left
 ·exact bad f _ o _ rfl rfl h (dA (dA (dJ _ _))) (by rw[aE,if_pos rfl])
 subst m3;rw[← hw3] at hk5;simp only[go_sem,e2,e3,h22,h23];rw[show (T.drop (0+1+1+1)).length=T.length-(0+1+1+1) by rw[cH]] at hk5
 refine Ex.loop (ι:=(Dfn × DOwn) × Nat × Nat × Nat) (fun c=>[(0,.ptr r 0),(2,.ptr b2 0),(3,.ptr b3 0)]) (fun c=>iR T fin nU r s2 c.1.1 c.1.2 c.2.1 c.2.2.1)
  (fun c=>ItQ s2 c.1.1 c.1.2 c.2.1∧c.2.1≤T.length∧c.2.2.1≤2000∧T.length-c.2.1<c.2.2.2∧(wQ false fin c.2.2.2 c.1.1 (T.drop c.2.1) c.2.2.1).to (fun d _ _=>∀ o,KV (s.setO r o) (.tuple [d.enc,Fault.none.enc])) (fun f=>∀ o,KV (s.setO r o) (.tuple [eV.enc,f.enc])))
  (fun c=>T.length-c.2.1) (({ eV with name:=x },mE),0+1+1+1,0,T.length-(0+1+1+1)+1) ?_ ?_ ?_ ?_
 ·refine ⟨⟨aBK,fun a ha=>?_⟩,hlt3,bS _,fK _,hk5⟩;simp only[bE,eW,rK,jU] at ha;rcases ha with rfl|rfl|rfl|rfl|rfl|rfl|rfl|rfl|rfl<;>exact bS _
 ·simp only[go_sem,e2,e3,h22,h23]
 ·show St.ge _ (s2.setO r _);exact bL
 ·rintro ⟨⟨d,o⟩,i,n,k⟩ ⟨hQ,hi,hn,hik,hk6⟩;simp only at hQ hi hn hik hk6;obtain ⟨k,rfl⟩:∃ k',k=k'+1:=⟨k-1,by omega⟩
  have hown:=hQ.own;have hfr:=hown.free;refine cL (V:=[0,2,3,25]) _ _ _ _ ?_;unfold iR;have n23:=hb3.1;simp only[go_sem,e2,e3,h22,h23,aC,n23];(refine bF (OT.r 0 10) [] ?_;simp only[go_sem,e2,e3,h22,h23,aC,n23]);cases hc:decide (i<T.length) with
  | true =>
   have hlt:i<T.length:=by simpa using hc
   have hne:T.drop i≠[]:=by intro e;have:=congrArg List.length e;rw[cH,aG] at this;omega
   obtain ⟨t,w,hw⟩:∃ t w,T.drop i=t::w:=by
    cases hq:T.drop i with
    | nil=>exact absurd hq hne
    | cons t w=>exact ⟨t,w,rfl⟩
   rw[hw,wQ,aX,← hw] at hk6;simp only[go_sem,e2,e3,h22,h23,aC,n23];refine aLd hT hi hQ hn (aI hk6 (fun d' w' n' hk7 j o' hj hjT hw' hn' hQ'=>?_) (fun f h s1 x hg hr1=>?_))
   ·subst hw';simp only[go_sem,e2,e3,h22,h23,aC,n23];exact ⟨((d',o'),j,n',k),⟨hQ',hjT,hn',by simp only;omega,hk7⟩,by simp only;omega,bW _⟩
   ·exact bad f _ _ _ rfl rfl h hg hr1
  | false =>
   have hge:¬ i<T.length:=by simpa using hc
   rw[rI (by omega),wQ,bB] at hk6;simp only[go_sem,e2,e3,h22,h23,aC,n23];(refine bF (OT.r 0 7) [(5,[4])] ?_;simp only[go_sem,e2,e3,h22,h23,aC,n23]);have hone:(A.one (gv o.so (d.sig.sorts.map .str))&&(A.one (gv o.be (d.sig.below.map Below.enc))&&(A.one (gv o.op (d.sig.ops.map Opr.enc))&&(A.one (gv o.fu (d.sig.funs.map Opr.enc))&&(A.one (gv o.va (d.sig.values.map .str))&&(A.one (gv o.eq (d.eqs.map Eqn.enc))&&(A.one (gv o.on (d.once.map Cel.enc))&&(A.one (gv o.ma (d.many.map Cel.enc))&&A.one (gv o.ru (d.rules.map Rul.enc))))))))))=true:=by simp only[qO,iF]
   refine ⟨hone,?_⟩;have hk7:=hk6 (aN T fin (bI d o) nU i n);have hle:=aCR d o hown;simp only[go_sem] at hk7;simp only[go_sem] at hle;refine DK.mk hk7 (aFe (mB (pI (by simp only[aE,e2,e3,if_false,if_true]<;>rfl) (fN hb3.2 (fN hb2 (wU (by simp) (aEC (hs2g s2 (dJ _ _)) (by simp))))))) (fun a ha u hu=>by have:=hfr a ha u hu;subst hs2;exact this)) (A.le.tuple ⟨hle,bM _,trivial⟩)
end
end
section
structure RQ (T:List Tok) where
 at_:Nat
 le:at_≤T.length
 f:Fault
 first:Nat
 nodes:Int
 over:Bool
section
variable {T:List Tok} (fin:Fault)
def RQ.ok (q:RQ T):Bool:=decide (q.f.code=0)
def RQ.tok (q:RQ T):Tok:=(T[q.at_]?).getD ⟨0,[],0,0,0⟩
def oT:Tm:=.mk 0 0 [] [] [] []
end
end
section
def lI (x:aB):Fault:=⟨12,[],1+(x.count 10:Nat),x.length-lE x 10 x.length⟩
def aGX (x:aB):Dfn × Fault:=match jG cR true x with
 | .bad f=>(eV,f)
 | .ok T=>match uU false (lI x) T with
  | .ok d _ _=>(d,Fault.none)
  | .bad f=>(eV,f)
def qQ (x:aB):Dfn × Fault:=if 20000<x.length then (eV,⟨3,[],0,0⟩) else aGX x
def qV (x:aB):Tm × Fault:=if 20000<x.length then (oT,⟨3,[],0,0⟩) else match jG cR true x with
 | .bad f=>(oT,f)
 | .ok T=>match fV false (lI x) T 0 with
  | .ok t [] _=>(t,Fault.none)
  | .ok _ (t::w) _=>(oT,dR (lI x) 11 (t::w))
  | .bad f=>(oT,f)
theorem aG0 {x:aB} {l:List Tok} (hx:x.length≤4294967280) (h:jG cR true x=.ok l):TOk l:=by
 obtain ⟨h1,h2⟩:=aNh h;refine ⟨by omega,fun t ht=>(h2 t ht).num,fun t ht=>?_,fun t ht=>?_⟩
 ·have:=(h2 t ht).col;omega
 ·have:=(h2 t ht).txt;omega
theorem aEN (x:aB) (c:UInt8):∀ n,lE x c n<n∧-1≤lE x c n
 | 0=>by simp[lE]
 | n+1=>by
  have:=aEN x c n;simp only[lE];split<;>omega
section
variable {s:St} {KV Kp:St→A→Prop}
theorem aI9 (x:aB) (hx:x.length≤4294967280) (hk:match jG cR true x with
  | .ok l=>∀ r,s.getO r=none→KV (s.setO r (aN l (lI x) (bI eV mE) nU 0 0)) (.tuple [.ptr r 0,Fault.none.enc])
  | .bad f=>KV s (.tuple [.nilp,f.enc])):Den cx 83 [.str x] KV Kp s:=by
 have hcnt:x.count 10≤x.length:=List.count_le_length;have hlast:=aEN x 10 x.length;(refine aO func83 [0,2,3,4,5,6,14] ?_;simp only[go_sem,ntmps83,f83]);(intro b3 hb3;try simp only[aC,aR,aL,ne_eq] at hb3);simp only[go_sem,hb3];refine aK0 _ x _ _ (by omega) ?_;cases hl:jG cR true x with
 | bad f =>
  rw[hl] at hk;have hc:=aB9 hl;have hc0:decide (f.code=0)=false:=by rw[hc];rfl
  simp only[Lx.out];simp only[go_sem,hb3];(intro b5 hb5;try simp only[aC,aR,aL,ne_eq] at hb5);simp only[go_sem,hb3,hb5,hc0];(refine bF (OT.r 0 3) [] ?_;simp only[go_sem,hb3,hb5]);simp only[go_sem] at hk;exact aH hk bL
 | ok l =>
  rw[hl] at hk;simp only[Lx.out];have h00:Fault.none.code=0:=rfl;simp only[go_sem,hb3,Fault.none];(intro b5 hb5;try simp only[aC,aR,aL,ne_eq] at hb5);simp only[go_sem,hb3,hb5];refine aIH _ _ _ _ _ ?_;simp only[go_sem,hb3,hb5,fU (1+((x.count 10:Nat):Int)) (by omega) (by omega)];refine aIb _ x 10 _ _ (by omega) ?_;simp only[go_sem,hb3,hb5,fU ((x.length:Int)-lE x 10 x.length) (by omega) (by omega)];(intro b6 hb6;try simp only[aC,aR,aL,ne_eq] at hb6);simp only[go_sem,hb3,hb5,hb6];(refine bF (OT.l [0,1,2,4,3,5,6] .nil) [(3,[4])] ?_;simp only[go_sem,hb3,hb5,hb6]);(intro b7 hb7;try simp only[aC,aR,aL,ne_eq] at hb7);simp only[go_sem,hb3,hb5,hb6,hb7];have hk2:=hk b7 (by first|exact hb7.2.2.2|exact hb7.2.2);simp only[Fault.enc,Fault.cs,Fault.none] at hk2;exact aH hk2 bL
theorem aEE (x:aB) (hx:x.length≤4294967280) (hk:if 20000<x.length then KV s (.tuple [.nilp,Fault.enc ⟨3,[],0,0⟩]) else match jG cR true x with
  | .ok l=>∀ r,s.getO r=none→KV (s.setO r (aN l (lI x) (bI eV mE) nU 0 0)) (.tuple [.ptr r 0,Fault.none.enc])
  | .bad f=>KV s (.tuple [.nilp,f.enc])):Den cx 37 [.str x] KV Kp s:=by
 (refine aO func37 [0,2,3,6] ?_;simp only[go_sem,ntmps37,f37]);(intro b3 hb3;try simp only[aC,aR,aL,ne_eq] at hb3);simp only[go_sem,hb3];cases c:decide ((20000:Int)<(x.length:Int)) with
 | true =>
  rw[if_pos (by simp at c;omega)] at hk;simp only[go_sem,hb3,c];simp only[go_sem] at hk;exact aH hk bL
 | false =>
  rw[if_neg (by simp at c;omega)] at hk;simp only[go_sem,hb3,c];refine aI9 x hx ?_;cases hl:jG cR true x with
  | bad f =>
   rw[hl] at hk;simp only at hk ⊢;simp only[go_sem,hb3];simp only[go_sem] at hk;exact aH hk bL
  | ok l =>
   rw[hl] at hk;simp only at hk ⊢;intro r hr;have hk2:=hk r (by have:=hr;rw[aE] at this;split at this;cases this;exact this);have e3:b3≠r:=fun e=>by subst e;rw[aE,if_pos rfl] at hr;cases hr
   simp only[Fault.enc,Fault.cs,Fault.none] at hk2 ⊢;have e3S:=e3.symm;simp only[go_sem,hb3,e3,e3.symm];exact aH hk2 bL
theorem aJR (x:aB) (hx:x.length≤4294967280) (hk:KV s (.tuple [(qQ x).1.enc,(qQ x).2.enc])):Den cx 15 [.str x] KV Kp s:=by
 have zd:A.le (.agg [.str [],.nils,.nils,.nils,.nils,.nils,.nils,.nils,.str [],.nils,.nils,.str [],.str []]) eV.enc:=aCR eV mE (s:=s) aBK;(refine aO func15 [0,2,3,4,5,13] ?_;simp only[go_sem,ntmps15,f15]);(intro b2 hb2;try simp only[aC,aR,aL,ne_eq] at hb2);simp only[go_sem,hb2];(intro b3 hb3;try simp only[aC,aR,aL,ne_eq] at hb3);simp only[go_sem,hb2,hb3];refine aEE x hx ?_;unfold qQ at hk;split
 ·rename_i c;rw[if_pos c] at hk;simp only[go_sem,hb2,hb3];(intro b5 hb5;try simp only[aC,aR,aL,ne_eq] at hb5);simp only[go_sem,hb2,hb3,hb5];(refine bF (OT.r 0 4) [(2,[1])] ?_;simp only[go_sem,hb2,hb3,hb5]);exact DK.mk hk bL (A.le.tuple ⟨zd,bM _,trivial⟩)
 ·rename_i c;rw[if_neg c] at hk;unfold aGX at hk;cases hl:jG cR true x with
  | bad f =>
   rw[hl] at hk;have hc0:decide (f.code=0)=false:=by rw[aB9 hl];rfl
   simp only at hk ⊢;simp only[go_sem,hb2,hb3];(intro b5 hb5;try simp only[aC,aR,aL,ne_eq] at hb5);simp only[go_sem,hb2,hb3,hb5,hc0];(refine bF (OT.r 0 4) [(2,[1])] ?_;simp only[go_sem,hb2,hb3,hb5]);simp only[go_sem] at hk;exact DK.mk hk bL (A.le.tuple ⟨zd,bM _,trivial⟩)
  | ok T =>
   rw[hl] at hk;simp only at hk ⊢;intro r hr;simp only[aL,ne_eq] at hr;simp only[go_sem,hb2,hb3,hr,Fault.none];(intro b5 hb5;try simp only[aC,aR,aL,ne_eq] at hb5);simp only[go_sem,hb2,hb3,hr,hb5];refine aL7 (T:=T) (fin:=lI x) (aG0 hx hl) gH ?_;unfold aDh;cases hd:uU false (lI x) T with
   | bad f =>
    rw[hd] at hk;simp only at hk ⊢;intro o;simp only[go_sem,hb2,hb3,hr,hb5];simp only[go_sem] at hk;exact aH hk bL
   | ok d w n =>
    rw[hd] at hk;simp only at hk ⊢;intro o;simp only[go_sem,hb2,hb3,hr,hb5];simp only[go_sem] at hk;exact aH hk bL
theorem aE5 (x:aB) (hx:x.length≤4294967280) (hk:KV s (.tuple [(qV x).1.enc,(qV x).2.enc])):Den cx 18 [.str x] KV Kp s:=by
 have zt:A.le (.agg [.int .i64 0,.int .i64 0,.str [],.str [],.nils,.nils]) oT.enc:=Tm.le_leaf 0 0 [] [];refine Den.drop ?_;refine aDO aEX aGF func18 rfl rfl (iB rfl) ?_;refine ExD.seq ?_;refine cL (V:=[0,2,3,4,5,13,27]) _ _ _ _ ?_;simp only[go_sem,ntmps18,f18];(intro b2 hb2;try simp only[aC,aR,aL,ne_eq] at hb2);simp only[go_sem,ntmps18,f18,hb2];(intro b3 hb3;try simp only[aC,aR,aL,ne_eq] at hb3);simp only[go_sem,ntmps18,f18,hb2,hb3];refine ExD.seq ?_;refine cL (V:=[0,2,3,4,5,13,27]) _ _ _ _ ?_;simp only[go_sem,ntmps18,f18,hb2,hb3];refine aEE x hx ?_;unfold qV at hk;split
 ·rename_i c;rw[if_pos c] at hk;simp only[go_sem,ntmps18,f18,hb2,hb3];refine ExD.seq ?_;refine cL (V:=[0,2,3,4,5,13,27]) _ _ _ _ ?_;simp only[go_sem,ntmps18,f18,hb2,hb3];(refine bF (OT.r 0 4) [(2,[1])] ?_;simp only[go_sem,ntmps18,f18,hb2,hb3]);exact DK.mk hk bL (A.le.tuple ⟨zt,bM _,trivial⟩)
 ·rename_i c;rw[if_neg c] at hk;cases hl:jG cR true x with
  | bad f =>
   rw[hl] at hk;have hc0:decide (f.code=0)=false:=by rw[aB9 hl];rfl
   simp only at hk ⊢;simp only[go_sem,ntmps18,f18,hb2,hb3];refine ExD.seq ?_;refine cL (V:=[0,2,3,4,5,13,27]) _ _ _ _ ?_;simp only[go_sem,ntmps18,f18,hb2,hb3,hc0];(refine bF (OT.r 0 4) [(2,[1])] ?_;simp only[go_sem,ntmps18,f18,hb2,hb3]);simp only[go_sem] at hk;exact DK.mk hk bL (A.le.tuple ⟨zt,bM _,trivial⟩)
  | ok T =>
   rw[hl] at hk;have hT:=aG0 hx hl;have hlenT:=hT.len;simp only at hk ⊢;intro r hr;simp only[aL,ne_eq] at hr;simp only[go_sem,hb2,hb3,ntmps18,f18,hr,Fault.none];refine ExD.seq ?_;refine cL (V:=[0,2,3,4,5,13,27]) _ _ _ _ ?_;simp only[go_sem,hb2,hb3,ntmps18,f18,hr];refine ExD.defer (by rfl) (b:=b3) (by simp only[go_sem,hb2,hb3,ntmps18,f18,hr]) ?_;refine cL (V:=[0,2,3,4,5,13,27]) _ _ _ _ ?_;simp only[go_sem,hb2,hb3,ntmps18,f18,hr];have n23:b2≠b3:=by first|exact hb3.1.1|exact hb3.1
   have hrb2:r≠b2:=fun e=>hr.2.1.2 e
   have hrb3:r≠b3:=fun e=>hr.1.2 e
   have hs:s.getO r=none:=hr.2.2
   have bad:∀ (f:Fault) (s1:St) (e:Env),e.get 2=some (.ptr b2 0)→e.get 3=some (.ptr b3 0)→KV s (.tuple [oT.enc,f.enc]) →
     s1.getO b2=some (.cells 43 [.int .i64 0,.int .i64 0,.str [],.str [],.nils,.nils])→s1.getO b3=some (.cells 36 [.int .i64 0,.str [],.int .i64 0,.int .i64 0])→s1.ge s →
     rD cx [ResultVar.cell 2 43,ResultVar.cell 3 36] (DK KV) (DK Kp) (some b3) (.panic (.iface 36 f.enc)) e s1:=by
    intro f s1 e g2 g3 hb q2 q3 hg;simp only[go_sem,q2,q3,n23,n23.symm,g2,g3];refine ⟨f.cs,_,rfl,rfl,rfl,rfl,?_⟩;simp only[go_sem,q2,q3,n23,n23.symm,g2,g3];simp only[go_sem] at hb;exact DK.mk hb (mB (fN (by first|exact hb3.2|exact hb3.2.2) (yF hg _ _))) (A.le.tuple ⟨zt,bM _,trivial⟩)
   have hk2:(fV false (lI x) T 0).to (fun t w _=>match w with|[]=>KV s (.tuple [t.enc,Fault.none.enc])|t::w=>KV s (.tuple [oT.enc,(dR (lI x) 11 (t::w)).enc])) (fun f=>KV s (.tuple [oT.enc,f.enc])):=by
    revert hk;cases fV false (lI x) T 0 with
    | bad f=>exact id
    | ok t w n=>cases w<;>exact id
   refine oK (d:=bI eV mE) (T:=T) (fin:=lI x) (first:=nU) (i:=0) (n:=0) hT (by simp only[aE,cP,gV,aR,ne_eq,cZ,reduceIte,hb2,hb3,ntmps18,f18,hr]<;>(first|done|rfl|assumption)) (bS _) (bS _) (aI (show (fV false (lI x) (T.drop 0) 0).to _ _ from hk2) (fun t w m hk3 j hj hjT hw hm=>?_) (fun f h o=>?_));rotate_left
   ·refine bad f _ _ rfl rfl h ?_ ?_ ?_
    ·exact (by simp only[aE,cP,gV,aR,ne_eq,cZ,reduceIte,hb2,hb3,ntmps18,f18,hr,hrb2,hrb3,hrb2.symm,hrb3.symm,n23,n23.symm]<;>(first|done|rfl|assumption))
    ·exact (by simp only[aE,cP,gV,aR,ne_eq,cZ,reduceIte,hb2,hb3,ntmps18,f18,hr,hrb2,hrb3,hrb2.symm,hrb3.symm,n23,n23.symm]<;>(first|done|rfl|assumption))
    ·exact bL
   simp only[go_sem,hb2,hb3,ntmps18,f18,hr,bY];(intro b5 hb5;try simp only[aC,aR,aL,ne_eq] at hb5);simp only[go_sem,hb2,hb3,ntmps18,f18,hr,hb5];(refine bF (OT.r 0 10) [] ?_;simp only[go_sem,hb2,hb3,ntmps18,f18,hr,hb5]);cases hc:decide (j<T.length) with
   | true =>
    have hlt:j<T.length:=by simpa using hc
    cases w with
    | nil=>exfalso;have:=congrArg List.length hw;rw[cH,aG] at this;omega
    | cons t2 w2 =>
     simp only[go_sem,hb2,hb3,ntmps18,f18,hr,hb5];refine lA (d:=bI eV mE) (T:=T) (fin:=lI x) (first:=nU) (i:=j) (n:=m) 11 (by simp only[aE,cP,gV,aR,ne_eq,cZ,reduceIte,hb2,hb3,ntmps18,f18,hr,hb5]<;>(first|done|rfl|assumption)) hjT hT ?_;rw[hw];refine bad _ _ _ rfl rfl hk3 ?_ ?_ ?_
     ·exact (by simp only[aE,cP,gV,aR,ne_eq,cZ,reduceIte,hb2,hb3,ntmps18,f18,hr,hb5,hrb2,hrb3,hrb2.symm,hrb3.symm,n23,n23.symm]<;>(first|done|rfl|assumption))
     ·exact (by simp only[aE,cP,gV,aR,ne_eq,cZ,reduceIte,hb2,hb3,ntmps18,f18,hr,hb5,hrb2,hrb3,hrb2.symm,hrb3.symm,n23,n23.symm]<;>(first|done|rfl|assumption))
     ·exact bL
   | false =>
    have hge:¬ j<T.length:=by simpa using hc
    cases w with
    | cons t2 w2=>exfalso;have:=congrArg List.length hw;rw[cH,aD] at this;omega
    | nil =>
     simp only[bY] at hk3;simp only[go_sem,hb2,hb3,ntmps18,f18,hr,hb5];(refine bF (OT.r 0 4) [(2,[1])] ?_;simp only[go_sem,hb2,hb3,ntmps18,f18,hr,hb5]);simp only[go_sem] at hk3;exact aH hk3 bL
end
end
section
theorem jK {α β:Type} (a:α) (w:List Tok) (n:Nat) (k:α→List Tok→Nat→Rd β):(Rd.ok a w n).bind k=k a w n:=rfl
theorem iY (x y:aB) (w:List Tok):isT x (aT y::w)=decide (y=x):=by simp[isT,dF,aT];exact fY.2 Iff.rfl
section
variable (fin:Fault) (first:Tok)
theorem aCW {t:Tm} (h:Gd t) (w:List Tok):isT [124] (aU t.pc++w)=false∧isT [93] (aU t.pc++w)=false∧isT [125] (aU t.pc++w)=false∧isT [41] (aU t.pc++w)=false:=by
 obtain ⟨u,P,e,hu⟩:=h.hd;rw[e,aU,bP];exact ⟨hu.n1,hu.n2,hu.n3,hu.n4⟩
theorem aK7 (t:Tm) (l:List Tm):aU (bV true (t::l))=aT [44]::aU (bV false (t::l)):=by
 simp only[bV,jH,if_true,bR,if_false,bO,bP,aU]
theorem aKZ (t u:Tm) (l:List Tm):aU (cD true (t::u::l))=aT [44]::aU (cD false (t::u::l)):=by
 simp only[cD,jH,if_true,bR,if_false,bO,bP,aU]
theorem aBQ (f:Tm→Nat→Option Nat) (one:List Tm→List Tok→Nat→Rd Tm) (B:Nat):∀ (l:List Tm) (acc:List Tm) (m m':Nat) (w:List Tok) (g:Nat),
  (∀ acc t m m' w,acc.length<B→t∈l→f t m=some m'→one acc (aU t.pc++w) m=.ok t w m')→l≠[]→l.length≤g→acc.length+l.length≤B→cM f l m=some m'→isT [44] w=false →
  bZ fin [44] (fun acc w n=>(one acc w n).bind fun a w n=>.ok (acc++[a]) w n) g acc (aU (bV false l)++w) m=.ok (acc++l) w m'
 | [],acc,m,m',w,g,h1,hne,_,_,_,_=>absurd rfl hne
 | t::r,acc,m,m',w,g,h1,_,hg,hB,hm,hw=>by
  obtain ⟨g,rfl⟩:∃ g',g=g'+1:=⟨g-1,by simp only[aD] at hg;omega⟩
  simp only[cM] at hm;cases hf:f t m with
  | none=>rw[hf] at hm;cases hm
  | some m1 =>
   rw[hf] at hm;simp only[Option.bind_some] at hm;simp only[aD] at hg hB
   have e1:aU (bV false (t::r))++w=aU t.pc++(aU (bV true r)++w):=by
    simp only[bV,jH,bR,if_false,bO,mT,cQ]
   rw[e1,bZ,h1 acc t m m1 _ (by omega) (eK ..) hf];simp only[jK];cases r with
   | nil =>
    simp only[cM,aP] at hm;subst hm;rw[show aU (bV true [])++w=w from rfl,if_neg (by rw[hw];decide)]
   | cons u r =>
    have e2:aU (bV true (u::r))++w=aT [44]::(aU (bV false (u::r))++w):=by rw[aK7,bP]
    rw[e2,iY,if_pos (by decide),List.tail_cons,aBQ f one B (u::r) (acc++[t]) m1 m' w g (fun acc t m m' w ha ht=>h1 acc t m m' w ha (eQ _ ht)) (by simp) (by simp only[aD] at hg ⊢;omega) (by simp only[aD,aK,aG] at hB ⊢;omega) hm hw,cQ];rfl
theorem aFz (f:Tm→Nat→Option Nat) (tm:List Tok→Nat→Rd Tm):∀ (q:Nat) (l:List Tm) (acc:List Tm) (m m':Nat) (w:List Tok) (g:Nat),l.length≤q→l.length % 2=0 →
  (∀ t m m' w,t∈l→f t m=some m'→tm (aU t.pc++w) m=.ok t w m')→l≠[]→l.length≤g→cM f l m=some m'→isT [44] w=false →
  bZ fin [44] (lG fin tm) g acc (aU (cD false l)++w) m=.ok (acc++l) w m'
 | q,[],acc,m,m',w,g,_,_,h1,hne,_,_,_=>absurd rfl hne
 | q,[_],acc,m,m',w,g,_,he,_,_,_,_,_=>by simp at he
 | 0,k::v::r,acc,m,m',w,g,hq,_,_,_,_,_,_=>by simp at hq
 | q+1,k::v::r,acc,m,m',w,g,hq,he,h1,_,hg,hm,hw=>by
  simp only[aD] at hg hq he;obtain ⟨g,rfl⟩:∃ g',g=g'+1:=⟨g-1,by omega⟩
  simp only[cM] at hm;cases hf:f k m with
  | none=>rw[hf] at hm;cases hm
  | some m1 =>
   rw[hf] at hm;simp only[Option.bind_some] at hm;cases hf2:f v m1 with
   | none=>rw[hf2] at hm;cases hm
   | some m2 =>
    rw[hf2] at hm;simp only[Option.bind_some] at hm
    have e1:aU (cD false (k::v::r))++w=aU k.pc++(aT [45,62]::(aU v.pc++(aU (cD true r)++w))):=by
     simp only[cD,jH,bR,if_false,bO,mT,aU,cQ,bP]
    rw[e1,bZ];simp only[lG];rw[h1 k m m1 _ (eK ..) hf];simp only[jK,eA];rw[iY,if_pos (by decide)];simp only[List.tail_cons,jK];rw[h1 v m1 m2 _ (eQ _ (eK ..)) hf2];simp only[jK];cases r with
    | nil =>
     simp only[cM,aP] at hm;subst hm;rw[show aU (cD true [])++w=w from rfl,if_neg (by rw[hw];decide)]
    | cons u r =>
     cases r with
     | nil=>simp at he
     | cons x r =>
     have e2:aU (cD true (u::x::r))++w=aT [44]::(aU (cD false (u::x::r))++w):=by rw[aKZ,bP]
     rw[e2,iY,if_pos (by decide),List.tail_cons,aFz f tm q (u::x::r) (acc++[k,v]) m2 m' w g (by simp only[aD] at hq ⊢;omega) (by simp only[aD] at he ⊢;omega) (fun t m m' w ht=>h1 t m m' w (eQ _ (eQ _ ht))) (by simp) (by simp only[aD] at hg ⊢;omega) hm hw,cQ];rfl
theorem aBI {x:aB} (hr:x ∉ dE):(cE x).free=true:=by
 unfold Tok.free cE;simp[hr]
theorem xA (e:Bool) (S:aB) (rs:List Tm) (h:sI S rs):aU (cF e rs)=[]∧rs=[]∨∃ x,rs=[.mk 6 0 x S [] []]∧aU (cF e rs)=[aT [124],cE x]∧x ∉ dE:=by
 rcases h with rfl|⟨x,rfl,_,hr⟩
 ·exact .inl ⟨rfl,rfl⟩
 ·exact .inr ⟨x,rfl,by cases e<;>rfl,hr⟩
theorem aEK {S:aB} {rs:List Tm} (h:sI S rs) (e:Bool) (k m m':Nat) (c:aB) (hc:c≠[124]) (w:List Tok) (hm:hZ k rs.length m=some m') :
  nV fin first (decide (k=0)) S (aU (cF e rs)++aT c::w) m=.ok rs (aT c::w) m':=by
 rcases xA e S rs h with ⟨h1,h2⟩|⟨x,h2,h1,hr⟩
 ·rw[h1,bO];subst h2;simp only[hZ,aG,if_true,aP] at hm;subst hm;unfold nV;rw[iY,if_neg (by simp[hc])]
 ·rw[h1];subst h2;simp only[hZ,aD,aG,fF,Nat.succ_ne_zero,if_false] at hm;split at hm
  ·rename_i hk;simp only[aP] at hm;subst hm;unfold nV;rw[bP,iY,if_pos (by decide)];simp only[List.tail_cons,bP,bO];rw[if_pos (aBI hr),if_neg (by simp;omega)];unfold mC;rw[if_neg (by omega)];rfl
  ·cases hm
end
end
end Go.AV
