/-
  Of DefParses.
-/
import Derived.Test.YtamikhobdffnfaaGreatDoorPa20
set_option linter.all false
set_option maxRecDepth 99999
set_option maxHeartbeats 0
namespace Go.AV
open Go Go.Proofs Tryz
section
section
variable {T:List Tok} {fin:Fault}
theorem iK (q:RQ T):q.at_≤q.inc.at_:=by unfold RQ.inc;split<;>simp
theorem gW (fin:Fault) (code:Int) (p:Nat) (b:Bool) (q:RQ T):(cJ fin code p b q).at_=q.at_:=by unfold cJ;split<;>rfl
theorem dW (kind:Int) (x:aD) (q:RQ T):q.at_≤(aY fin kind x q).at_:=by
 unfold aY;split
 ·exact iK q
 ·rw[gW];exact bE _
theorem gA (q:RQ T):q.at_≤(bB fin q).2.at_:=by
 unfold bB;split
 ·exact iK q
 ·rw[gW];exact bE _
theorem xT (deep p:Nat) (q:RQ T):(iE fin deep p q).at_=q.at_:=by
 unfold iE;simp only;split
 ·split
  ·exact gW _ _ _ _ _
  ·split
   ·exact gW _ _ _ _ _
   ·rfl
 ·rfl
theorem gF (x:aD) (q:RQ T):q.at_≤(dQ x q).2.at_:=by
 unfold dQ;split
 ·exact iK q
 ·exact bE _
theorem nH {σ:Type} (x:aD) (body:σ→RQ T→σ × RQ T) (hb:∀ a q,q.at_≤(body a q).2.at_):∀ (f:Nat) (more:Bool) (a:σ) (q:RQ T),q.at_≤(cK x body f more a q).2.at_
 | 0,more,a,q=>bE _
 | f+1,more,a,q=>by
  unfold cK;split
  ·exact aU (hb a q) (aU (gF x _) (nH x body hb f _ _ _))
  ·exact bE _
theorem pO {σ:Type} (c:RQ T→Bool) (body:σ→RQ T→σ × RQ T) (hb:∀ a q,q.at_≤(body a q).2.at_):∀ (f:Nat) (a:σ) (q:RQ T),q.at_≤(bR c body f a q).2.at_
 | 0,a,q=>bE _
 | f+1,a,q=>by
  unfold bR;split
  ·exact aU (hb a q) (pO c body hb f _ _)
  ·exact bE _
theorem aGN (sort:aD) (deep:Nat) (q:RQ T):q.at_≤(fR fin sort deep q).2.at_:=by
 unfold fR;split
 ·simp only;rw[xT];exact aU (iK q) (gA _)
 ·exact bE _
theorem aHF (tm:RQ T→Tm × RQ T) (ht:∀ q,q.at_≤(tm q).2.at_) (name:aD) (q:RQ T):q.at_≤(tL fin tm name q).2.at_:=by
 unfold tL;split
 ·exact aU (iK q) (gA _)
 ·simp only;refine aU (dW 4 _ q) (aU (nH _ _ (fun a q=>?_) _ _ _ _) (dW _ _ _));exact ht { q with over:=decide (8≤a.length) }
theorem aGg (tm:RQ T→Tm × RQ T) (ht:∀ q,q.at_≤(tm q).2.at_) (t:Tok) (deep:Nat) (q:RQ T):q.at_≤(tB fin tm t deep q).2.at_:=by
 unfold tB;split
 ·split
  ·exact iK q
  ·simp only[gW];exact bE _
 ·split
  ·split
   ·exact gA q
   ·simp only[gW];exact bE _
  ·split
   ·exact bE _
   ·split
    ·simp only;refine aU ?_ (dW _ _ _);refine aU ?_ (aGN _ _ _);refine nH _ _ (fun a q=>?_) _ _ _ _;exact ht q
    ·simp only;refine aU ?_ (dW _ _ _);refine aU ?_ (aGN _ _ _);refine nH _ _ (fun a q=>?_) _ _ _ _;simp only;refine aU ?_ (ht _);refine aU ?_ (dW _ _ _);exact ht q
theorem qM:∀ (k:Nat) (q:RQ T),q.at_≤(cU fin k q).2.at_
  | 0,q=>by
    unfold cU;split
    · simp only;split
      · rw[gW,xT];exact bE _
      · rw[xT];exact bE _
    · simp only[gW];exact bE _
  | k+1,q=>by
    have ih:=qM k
    have key:∀ q':RQ T,q.at_=q'.at_→q.at_≤(if q'.ok=true then
         (if q'.tok.kind = 2 then (Tm.mk 1 q'.tok.n [] [] [] [],q'.inc)
          else if q'.tok.kind=3 then (.mk 3 0 q'.tok.text [] [] [],q'.inc)
          else if q'.tok.kind=1 then
            (if q'.tok.text = [116,114,117,101] then (.mk 2 1 [] [] [] [],q'.inc)
             else if q'.tok.text=[102,97,108,115,101] then (.mk 2 0 [] [] [] [],q'.inc)
             else tL fin (cU fin k) q'.tok.text q'.inc)
          else tB fin (cU fin k) q'.tok (60-k) q'.inc)
       else (mF,q')).2.at_:=by
      intro q' h;rw[h];split
      · split
        · exact iK q'
        · split
          · exact iK q'
          · split
            · split
              · exact iK q'
              · split
                · exact iK q'
                · exact aU (iK q') (aHF _ ih _ _)
            · exact aU (iK q') (aGg _ ih _ _ _)
      · exact bE _
    unfold cU;split
    · simp only
      refine key _ ?_;split
      · rw[gW,xT]
      · rw[xT]
    · simp only[gW];exact bE _
theorem kK (q:RQ T):q.at_≤(eA fin q).2.at_:=qM 60 { q with first:=q.at_,nodes:=0 }
theorem iB (a b:Nat) (q:RQ T):(bG fin a b q).at_=q.at_:=by unfold bG;split;exact gW _ _ _ _ _;rfl
theorem qL (was:Bool) (q:RQ T):q.at_≤(dI fin was q).at_:=by
 unfold dI;refine aU ?_ (iK _);split
 ·rw[gW];exact bE _
 ·exact bE _
theorem nF (most:Int) (q:RQ T):q.at_≤(gS fin most q).2.at_:=by
 unfold gS;split
 ·refine aU ?_ (iK _);split
  ·rw[gW];exact bE _
  ·exact bE _
 ·rw[gW];exact bE _
attribute [local irreducible] RQ.inc cJ aY bB dQ cK bR eA bG dI gS
theorem zW (q:RQ T):q.at_≤(iA fin q).2.at_:=by
 unfold iA
 repeat' (first|exact bE _|rw[iB]|rw[gW]|refine aU ?_ (dW _ _ _)|refine aU ?_ (gA _)|refine aU ?_ (kK _)|refine aU ?_ (nF _ _)|refine aU ?_ (qL _ _)|refine aU ?_ (iK _)|refine aU ?_ (gF _ _)|refine aU ?_ (nH _ _ (fun a q=>?_) _ _ _ _)|refine aU ?_ (pO _ _ (fun a q=>?_) _ _ _)|split|simp only)
attribute [local irreducible] iA
theorem aBk (q:RQ T):q.at_≤(kF fin q).2.at_:=by
 unfold kF
 repeat' (first|exact bE _|rw[iB]|rw[gW]|refine aU ?_ (dW _ _ _)|refine aU ?_ (gA _)|refine aU ?_ (kK _)|refine aU ?_ (nF _ _)|refine aU ?_ (qL _ _)|refine aU ?_ (iK _)|refine aU ?_ (gF _ _)|refine aU ?_ (nH _ _ (fun a q=>?_) _ _ _ _)|refine aU ?_ (pO _ _ (fun a q=>?_) _ _ _)|split|simp only)
attribute [local irreducible] kF
theorem aK2 (q:RQ T):q.at_≤(xZ fin q).2.at_:=by
 unfold xZ
 repeat' (first|exact bE _|rw[iB]|rw[gW]|refine aU ?_ (dW _ _ _)|refine aU ?_ (gA _)|refine aU ?_ (kK _)|refine aU ?_ (nF _ _)|refine aU ?_ (qL _ _)|refine aU ?_ (iK _)|refine aU ?_ (gF _ _)|refine aU ?_ (nH _ _ (fun a q=>?_) _ _ _ _)|refine aU ?_ (pO _ _ (fun a q=>?_) _ _ _)|split|simp only)
attribute [local irreducible] xZ
theorem aLF (c:Opr × Bool) (q:RQ T):q.at_≤(yH fin c q).2.at_:=by
 unfold yH
 repeat' (first|exact bE _|rw[iB]|rw[gW]|refine aU ?_ (dW _ _ _)|refine aU ?_ (gA _)|refine aU ?_ (kK _)|refine aU ?_ (nF _ _)|refine aU ?_ (qL _ _)|refine aU ?_ (iK _)|refine aU ?_ (gF _ _)|refine aU ?_ (nH _ _ (fun a q=>?_) _ _ _ _)|refine aU ?_ (pO _ _ (fun a q=>?_) _ _ _)|split|simp only)
attribute [local irreducible] yH
theorem aH9 (q:RQ T):q.at_≤(oP fin q).2.at_:=by
 unfold oP
 repeat' (first|exact bE _|rw[iB]|rw[gW]|refine aU ?_ (dW _ _ _)|refine aU ?_ (gA _)|refine aU ?_ (kK _)|refine aU ?_ (nF _ _)|refine aU ?_ (qL _ _)|refine aU ?_ (iK _)|refine aU ?_ (gF _ _)|refine aU ?_ (aK2 _)|refine aU ?_ (aLF _ _)|refine aU ?_ (nH _ _ (fun a q=>?_) _ _ _ _)|refine aU ?_ (pO _ _ (fun a q=>?_) _ _ _)|split|simp only)
attribute [local irreducible] oP
theorem aHl (q:RQ T):q.at_≤(mE fin q).2.at_:=by
 unfold mE
 repeat' (first|exact bE _|rw[iB]|rw[gW]|refine aU ?_ (dW _ _ _)|refine aU ?_ (gA _)|refine aU ?_ (kK _)|refine aU ?_ (nF _ _)|refine aU ?_ (qL _ _)|refine aU ?_ (iK _)|refine aU ?_ (gF _ _)|refine aU ?_ (nH _ _ (fun a q=>?_) _ _ _ _)|refine aU ?_ (pO _ _ (fun a q=>?_) _ _ _)|split|simp only)
attribute [local irreducible] mE
theorem aEk (q:RQ T):q.at_≤(mJ fin q).2.at_:=by
 unfold mJ
 repeat' (first|exact bE _|rw[iB]|rw[gW]|refine aU ?_ (dW _ _ _)|refine aU ?_ (gA _)|refine aU ?_ (kK _)|refine aU ?_ (nF _ _)|refine aU ?_ (qL _ _)|refine aU ?_ (iK _)|refine aU ?_ (gF _ _)|refine aU ?_ (zW _)|refine aU ?_ (nH _ _ (fun a q=>?_) _ _ _ _)|refine aU ?_ (pO _ _ (fun a q=>?_) _ _ _)|split|simp only)
attribute [local irreducible] mJ
theorem aAb (x:Rul) (q:RQ T):q.at_≤(iD fin x q).2.at_:=by
 unfold iD
 repeat' (first|exact bE _|rw[iB]|rw[gW]|refine aU ?_ (dW _ _ _)|refine aU ?_ (gA _)|refine aU ?_ (kK _)|refine aU ?_ (nF _ _)|refine aU ?_ (qL _ _)|refine aU ?_ (iK _)|refine aU ?_ (gF _ _)|refine aU ?_ (nH _ _ (fun a q=>?_) _ _ _ _)|refine aU ?_ (pO _ _ (fun a q=>?_) _ _ _)|split|simp only)
attribute [local irreducible] iD
theorem aL1 (q:RQ T):q.at_≤(mV fin q).2.at_:=by
 unfold mV
 repeat' (first|exact bE _|rw[iB]|rw[gW]|refine aU ?_ (dW _ _ _)|refine aU ?_ (gA _)|refine aU ?_ (kK _)|refine aU ?_ (nF _ _)|refine aU ?_ (qL _ _)|refine aU ?_ (iK _)|refine aU ?_ (gF _ _)|refine aU ?_ (aAb _ _)|refine aU ?_ (zW _)|refine aU ?_ (nH _ _ (fun a q=>?_) _ _ _ _)|refine aU ?_ (pO _ _ (fun a q=>?_) _ _ _)|split|simp only)
attribute [local irreducible] mV
theorem aGI (d:Dfn) (q:RQ T):q.at_≤(oF fin d q).2.at_:=by
 unfold oF
 repeat' (first|exact bE _|rw[iB]|rw[gW]|refine aU ?_ (dW _ _ _)|refine aU ?_ (gA _)|refine aU ?_ (kK _)|refine aU ?_ (nF _ _)|refine aU ?_ (qL _ _)|refine aU ?_ (iK _)|refine aU ?_ (gF _ _)|refine aU ?_ (aBk _)|refine aU ?_ (aL1 _)|refine aU ?_ (nH _ _ (fun a q=>?_) _ _ _ _)|refine aU ?_ (pO _ _ (fun a q=>?_) _ _ _)|split|simp only)
attribute [local irreducible] oF
theorem aLK (d:Dfn) (q:RQ T):q.at_≤(jW fin d q).2.at_:=by
 unfold jW
 repeat' (first|exact bE _|rw[iB]|rw[gW]|refine aU ?_ (dW _ _ _)|refine aU ?_ (gA _)|refine aU ?_ (kK _)|refine aU ?_ (nF _ _)|refine aU ?_ (qL _ _)|refine aU ?_ (iK _)|refine aU ?_ (gF _ _)|refine aU ?_ (aH9 _)|refine aU ?_ (aHl _)|refine aU ?_ (aEk _)|refine aU ?_ (aGI _ _)|refine aU ?_ (nH _ _ (fun a q=>?_) _ _ _ _)|refine aU ?_ (pO _ _ (fun a q=>?_) _ _ _)|split|simp only)
attribute [local irreducible] jW
end
end
section
section
variable {T:List Tok} {fin:Fault} {d:Dc} {first:Tok} {i n:Nat} {s:St} {r:Nat} {KV Kp:St→A→Prop}
theorem PB.here {f:Fault} {o:Ob} (h:PB s r Kp f) (hr:s.getO r=some o):DK Kp s (.iface 36 f.enc):=aM (h o) (lY hr)
theorem PB.at {f:Fault} {o:Ob} {s1:St} (h:PB s r Kp f) (hg:s1.gx s r) (hr:s1.getO r=some o):DK Kp s1 (.iface 36 f.enc):=aM (h o) (hg.ge hr)
theorem fH (x:aD) (hr:s.getO r=some (bC T fin d first i n)) (hi:i≤T.length) (hT:TOk T)
  (hk:(cV fin x (T.drop i) n).to (fun _ w n'=>i+1≤T.length→T.drop (i+1)=w→n'=n→KV (s.setO r (bC T fin d first (i+1) n)) (.tuple [])) (PB s r Kp)):Den cx 84 [.ptr r 0,.list none [.str x]] KV Kp s:=by
 (refine aZ func84 [0,1,5,6,7,8,9,15] ?_;simp only[go_sem,ntmps84,f84])
 refine Ex.loop (fun k:Nat=>[(0,.ptr r 0),(6,.list none [.str x]),(7,.int .i64 1),(8,.int .i64 k)]) (fun k=>match k with|0=>s|_+1=>s.setO r (bC T fin d first (i+1) n))
  (fun k=>k=0∨k=1∧bI x (T.drop i)=true) (fun k=>1-k) 0 (.inl rfl) ?_ (bA _) ?_
 ·simp only[go_sem];exact ⟨rfl,rfl⟩
 ·rintro k (rfl|⟨rfl,hx⟩)
  ·refine bV (V:=[0,1,5,6,7,8,9,15]) _ _ _ _ ?_;simp only[go_sem];refine ⟨by simp,?_⟩;simp only[go_sem];refine iZ x hr hi hT ?_;cases hx:bI x (T.drop i) with
   | true =>
    simp only[go_sem];exact ⟨1,.inr rfl,by omega,rfl,bA _⟩
   | false =>
    simp only[go_sem];refine nZ 11 hr hi hT ?_;simp only[cV,hx,bN,if_false,eH] at hk;exact hk.here hr
  ·refine bV (V:=[0,1,5,6,7,8,9,15]) _ _ _ _ ?_;simp only[cV,hx,if_true,bU] at hk;simp only[go_sem];exact aO (hk (kY hx) (by simp) trivial)
theorem iC (hr:s.getO r=some (bC T fin d first i n)) (hi:i≤T.length) (hT:TOk T)
  (hk:(dS fin (T.drop i) n).to (fun x w n'=>i+1≤T.length→T.drop (i+1)=w→n'=n→KV (s.setO r (bC T fin d first (i+1) n)) (.str x)) (PB s r Kp)):Den cx 85 [.ptr r 0] KV Kp s:=by
 (refine aZ func85 [0,2,3,13] ?_;simp only[go_sem,ntmps85,f85]);refine kB hr hi ?_;cases hw:T.drop i with
 | nil=>rw[hw] at hk;exact PB.here hk hr
 | cons t w =>
  rw[hw] at hk;obtain ⟨h1,h2,h3,h4⟩:=lI hw;have:=hT.len;simp only[dS] at hk;simp only[go_sem];(intro b hb;try simp only[aV,ne_eq] at hb);have hne:=cF hr hb;have hr':(s.setO b (.cells 60 t.cs)).getO r=some (bC T fin d first i n):=by rw[aJ,if_neg hne.2];exact hr
  have hr2:=hr;simp only[go_sem] at hr2
  have bad:∀ KV',t.free=false→Den cx 42 [.ptr r 0,.int .i64 11] KV' (DK Kp) (s.setO b (.cells 60 t.cs)):=by
   intro KV' hf;refine nZ 11 hr' hi hT ?_;rw[hf] at hk;simp only[bN,if_false,eH] at hk;rw[hw];exact hk.at aQ hr'
  have good:t.free=true→KV (s.setO r (bC T fin d first (i+1) n)) (.str t.text):=by
   intro hf;rw[hf] at hk;simp only[if_true,bU] at hk;exact hk h2 h3 trivial
  simp only[go_sem,hb,hne,hr2];(refine cD (fun h=>?_) (fun h=>?_))<;>simp only[go_sem,h,hb,hne,hr2]
  ·refine bad _ ?_;rw[Tok.free,show decide (t.kind=1)=false from by simpa using h];rfl
  ·refine sI _ _ _ _ ?_;simp only[go_sem,hb,hne,hr2];have hk1:decide (t.kind=1)=true:=by simpa using h
   (refine cD (fun h=>?_) (fun h=>?_))<;>simp only[go_sem,h,hb,hne,hr2]
   ·refine bad _ ?_;rw[Tok.free,hk1,h];rfl
   ·have hg:=good (by rw[Tok.free,hk1,h];rfl);simp only[go_sem,bP i (by omega)];exact aM hg (St.gx.ge aQ (by rw[aJ,if_pos rfl];rfl))
theorem aH8 (hr:s.getO r=some (bC T fin d first i n)) (hn:n≤2000)
  (hk:(oG first (T.drop i) n).to (fun _ w n=>w=T.drop i→n≤2000→KV (s.setO r (bC T fin d first i n)) (.tuple [])) (PB s r Kp)):Den cx 166 [.ptr r 0] KV Kp s:=by
 have hr2:=hr;simp only[go_sem] at hr2;(refine aZ func166 [0,13] ?_;simp only[go_sem,ntmps166,f166]);simp only[go_sem,hr2,bP n (by omega)];(refine cD (fun h=>?_) (fun h=>?_))<;>simp only[go_sem,h,hr2]
 ·refine aD7 first ?_
  have hc:2000<n+1:=by have:=h;simp at this;omega
  simp only[oG,hc,if_true,eH] at hk;exact hk.at aQ (by rw[aJ,if_pos rfl])
 ·have hc:¬ 2000<n+1:=by have:=h;simp at this;omega
  simp only[oG,hc,if_false,bU] at hk;exact aO (hk trivial (by omega))
end
end
section
section
variable {T:List Tok} {fin:Fault} {d:Dc} {first:Tok} {i n:Nat} {s:St} {r:Nat} {KV Kp:St→A→Prop}
theorem aMg (t:Tok) (hk:KV s (.bool t.begins)):Den cx 236 [t.enc] KV Kp s:=by
 simp only[go_sem];(refine aZ func236 [0,1,2,4,5,8] ?_;simp only[go_sem,ntmps236,f236]);(intro b hb;try simp only[aV,ne_eq] at hb);simp only[go_sem,hb];(refine cD (fun h=>?_) (fun h=>?_))<;>simp only[go_sem,h,hb]
 ·have h2:t.kind=2:=by simpa using h
  rw[show t.begins=true by simp[Tok.begins,h2]] at hk
  (try simp only[go_sem,hb])
  exact aM hk (fL hb)
 ·have h2:¬ t.kind=2:=by simpa using h
  (try simp only[go_sem,hb])
  (refine cD (fun h=>?_) (fun h=>?_))<;>simp only[go_sem,h,hb]
  ·have h3:t.kind=3:=by simpa using h
   rw[show t.begins=true by simp[Tok.begins,h3]] at hk
   (try simp only[go_sem,hb])
   exact aM hk (fL hb)
  ·have h3:¬ t.kind=3:=by simpa using h
   (try simp only[go_sem,hb])
   (refine cD (fun h=>?_) (fun h=>?_))<;>simp only[go_sem,h,hb]
   ·have h1:t.kind=1:=by simpa using h
    rw[show t.begins=(!decide (t.text∈jL)||(decide (t.text=[116,114,117,101])||decide (t.text=[102,97,108,115,101]))) by simp[Tok.begins,h1]] at hk
    (try simp only[go_sem,hb])
    refine sI _ _ _ _ ?_;simp only[go_sem,hb];cases hr:decide (t.text∈jL)<;>simp only[go_sem,hb]
    ·rw[hr] at hk;exact aM hk (fL hb)
    ·rw[hr] at hk;cases ht:decide (t.text=[116,114,117,101])<;>simp only[go_sem,hb]
     ·rw[ht] at hk;exact aM hk (fL hb)
     ·rw[ht] at hk;exact aM hk (fL hb)
   ·have h1:¬ t.kind=1:=by simpa using h
    rw[show t.begins=decide (t.text∈[[45],[39],[95],[91],[123],[36]]) by simp[Tok.begins,h1,h2,h3]] at hk
    (try simp only[go_sem,hb])
    refine aDH _ [[45],[39],[95],[91],[123],[36]] _ _ _ ?_;simp only[go_sem,hb];exact aM hk (fL hb)
theorem mP (a b:Int) (hr:s.getO r=some (bC T fin d first i n)) (hi:i≤T.length)
  (hk:if b≤a then PB s r Kp (kG fin (T.drop i)) else KV s (.tuple [])):Den cx 148 [.ptr r 0,.int .i64 a,.int .i64 b] KV Kp s:=by
 (refine aZ func148 [0,1,2,8] ?_;simp only[go_sem,ntmps148,f148]);(refine cD (fun h=>?_) (fun h=>?_))<;>simp only[go_sem,h]
 ·have hc:b≤a:=by simpa using h
  rw[if_pos hc] at hk;refine kB hr hi ?_;cases hw:T.drop i with
  | nil=>rw[hw] at hk;exact hk.here hr
  | cons t w =>
   rw[hw] at hk;simp only[go_sem];refine aD7 t ?_;exact hk.here hr
 ·have hc:¬ b≤a:=by simpa using h
  rw[if_neg hc] at hk;exact aO hk
theorem aBm (hr:s.getO r=some (bC T fin d first i n)) (hi:i≤T.length)
  (hk:match T.drop i with|t::_=>KV s (.bool t.begins)|[]=>PB s r Kp fin):Den cx 165 [.ptr r 0] KV Kp s:=by
 have hr2:=hr;simp only[go_sem] at hr2;(refine aZ func165 [0,2] ?_;simp only[go_sem,ntmps165,f165]);refine kB hr hi ?_;cases hw:T.drop i with
 | nil=>rw[hw] at hk;exact hk.here hr
 | cons t w =>
  rw[hw] at hk;simp only at hk;simp only[go_sem];refine aMg t ?_;simp only[go_sem];cases hb:t.begins<;>simp only[go_sem,hr2]
  ·rw[hb] at hk;exact aO hk
  ·rw[hb] at hk;exact aO hk
theorem aGa (most:Int) (hr:s.getO r=some (bC T fin d first i n)) (hi:i≤T.length) (hT:TOk T)
  (hk:(nL fin most (T.drop i) n).to (fun x w n'=>i+1≤T.length→T.drop (i+1)=w→n'=n→KV (s.setO r (bC T fin d first (i+1) n)) (.int .i64 x)) (PB s r Kp)):Den cx 281 [.ptr r 0,.int .i64 most] KV Kp s:=by
 (refine aZ func281 [0,1,4,5,10,21] ?_;simp only[go_sem,ntmps281,f281]);refine kB hr hi ?_;cases hw:T.drop i with
 | nil=>rw[hw] at hk;exact PB.here hk hr
 | cons t w =>
  rw[hw] at hk;obtain ⟨h1,h2,h3,h4⟩:=lI hw;have:=hT.len;simp only[nL] at hk;simp only[go_sem];(intro b hb;try simp only[aV,ne_eq] at hb);have hne:=cF hr hb;have hr':(s.setO b (.cells 60 t.cs)).getO r=some (bC T fin d first i n):=by rw[aJ,if_neg hne.2];exact hr
  have hr2:=hr;simp only[go_sem] at hr2
  have bad:∀ KV' code,PB s r Kp (eG fin code (t::w))→Den cx 42 [.ptr r 0,.int .i64 code] KV' (DK Kp) (s.setO b (.cells 60 t.cs)):=by
   intro KV' code hf;refine nZ code hr' hi hT ?_;rw[hw];exact hf.at aQ hr'
  simp only[go_sem,hb,hne,hr2];(refine cD (fun h=>?_) (fun h=>?_))<;>simp only[go_sem,h,hb,hne,hr2]
  ·have h2:¬ t.kind=2:=by simpa using h
   rw[if_neg h2,eH] at hk;exact bad _ _ hk
  ·have h2:t.kind=2:=by simpa using h
   rw[if_pos h2] at hk;have range:(t.n<1∨most<t.n)→PB s r Kp (eG fin 20 (t::w)):=fun hc=>by rw[if_pos hc] at hk;exact hk
   have good:¬ (t.n<1∨most<t.n)→KV (s.setO r (bC T fin d first (i+1) n)) (.int .i64 t.n):=fun hc=>by
    rw[if_neg hc] at hk;exact hk (by omega) h3 rfl
   cases c1:decide (t.n<1)
   ·cases c2:decide (most<t.n)
    ·(try simp only[go_sem,hb,hne,hr2,c1,c2,bP i (by omega)])
     exact aM (good (by simp at c1 c2;omega)) (St.gx.ge aQ (by rw[aJ,if_pos rfl];rfl))
    ·(try simp only[go_sem,hb,hne,hr2,c1,c2])
     exact bad _ _ (range (by simp at c1 c2;omega))
   ·(try simp only[go_sem,hb,hne,hr2,c1])
    exact bad _ _ (range (by simp at c1;omega))
end
end
theorem aBr {α:Type} (fin:Fault) (sep:aD) (one:List Tok→Nat→Rd α):∀ (f:Nat) (l0 l:List α) (w:List Tok) (n:Nat) (p:List α→List Tok→Nat→Prop) (b:Fault→Prop),
  (dH fin sep (fun acc w n=>(one w n).bind fun a w n=>.ok (acc++[a]) w n) f (l0++l) w n).to p b →
  (dH fin sep (fun (c:Unit × List α) w n=>((one w n).bind fun a w n=>Rd.ok ((),a) w n).bind fun q w n=>.ok (q.1,c.2++[q.2]) w n) f ((),l) w n).to (fun c w n=>p (l0++c.2) w n) b
 | 0,l0,l,w,n,p,b,h=>h
 | f+1,l0,l,w,n,p,b,h=>by
  simp only[dH,bL] at h ⊢;refine aW h (fun a w n h=>?_) (fun _ h=>h);simp only[bU] at h ⊢;split
  ·rename_i e;rw[if_pos e] at h;refine aBr fin sep one f l0 (l++[a]) w.tail n p b ?_;rw[← oW];exact h
  ·rename_i e;rw[if_neg e] at h;rw[bU] at h ⊢;rw[← oW];exact h
theorem aBF {σ:Type} (fin:Fault) (sep:aD) (one:σ→List Tok→Nat→Rd σ):∀ (f:Nat) (a:σ) (l:List Unit) (w:List Tok) (n:Nat) (p:σ→List Tok→Nat→Prop) (b:Fault→Prop),
  (dH fin sep one f a w n).to p b →
  (dH fin sep (fun (c:σ × List Unit) w n=>((one c.1 w n).bind fun a w n=>Rd.ok (a,()) w n).bind fun q w n=>.ok (q.1,c.2++[q.2]) w n) f (a,l) w n).to (fun c w n=>p c.1 w n) b
 | 0,a,l,w,n,p,b,h=>h
 | f+1,a,l,w,n,p,b,h=>by
  simp only[dH,bL] at h ⊢;refine aW h (fun a w n h=>?_) (fun _ h=>h);simp only[bU] at h ⊢;split
  ·rename_i e;rw[if_pos e] at h;exact aBF fin sep one f a (l++[()]) w.tail n p b h
  ·rename_i e;rw[if_neg e] at h;exact h
theorem aDG {σ α X:Type} (enc:α→A) (hz:∀ a,(enc a).cells.length=6) (ho:∀ a,fZ (enc a).cells=true)
  {T:List Tok} {fin:Fault} {s0:St} {r:Nat} {KV Kp:St→A→Prop} (hT:TOk T)
  (S:St→σ→X→Nat→Nat→St) (Q:St→σ→X→Nat→Prop) (one:σ→List Tok→Nat→Rd (σ × α)) (f:FuncId) (first caps:List A)
  (hr:∀ (s:St) (a:σ) (x:X) (i n:Nat),∃ d fi,(S s a x i n).getO r=some (bC T fin d fi i n)∧((S s a x i n).setO r (bC T fin d fi (i+1) n)).ge (S s a x (i+1) n))
  (h1:∀ (s:St) (a:σ) (x:X) (i n:Nat) (t:Nat) (v:Nat × TypeId),Q s a x i→(S s a x i n).getT t=none→s.getT t=none∧Q (s.setT t v) a x i∧((S s a x i n).setT t v).ge (S (s.setT t v) a x i n))
  (h2:∀ (s:St) (a:σ) (x:X) (i n:Nat) (t:Nat) (v u:Nat × TypeId),s.getT t=none→Q (s.setT t v) a x i→(S (s.setT t v) a x i n).getT t=some v∧Q (s.setT t u) a x i∧((S (s.setT t v) a x i n).setT t u).ge (S (s.setT t u) a x i n))
  (h3:∀ (s:St) (a:σ) (x:X) (i n:Nat) (t:Nat) (v:Nat × TypeId),s.getT t=none→Q (s.setT t v) a x i→Q s a x i∧(S (s.setT t v) a x i n).ge (S s a x i n))
  (hi:∀ (s:St) (a:σ) (x:X) (i:Nat),Q s a x i→Q s a x (i+1))
  (hg:∀ (s:St) (a:σ) (x:X) (i n:Nat),Q s a x i→(S s a x i n).gx s r)
  (hf : ∀ (s : St) (a : σ) (x : X) (i n : Nat) (KV Kp : St → A → Prop),Q s a x i → i ≤ T.length → n ≤ 2000 → (one a (T.drop i) n).to (fun p w n' => ∀ j y,i ≤ j → j ≤ T.length → T.drop j = w → n' ≤ 2000 → Q s p.1 y j → KV (S s p.1 y j n') (enc p.2))
   (fun f=>∀ s1 o,s1.gx s r→s1.getO r=some o→Kp s1 (.iface 36 f.enc))→Den cx f (first++[]++caps) KV Kp (S s a x i n))
  (a0:σ) (x0:X) (i0 n0:Nat) (hQ:Q s0 a0 x0 i0) (hi0:i0≤T.length) (hn0:n0≤2000)
  (hk : (dH fin [44] (fun (c : σ × List α) w n => (one c.1 w n).bind fun p w n => .ok (p.1,c.2 ++ [p.2]) w n) ((T.drop i0).length + 1) (a0,[]) (T.drop i0) n0).to
   (fun c w n=>∀ j y,i0≤j→j≤T.length→T.drop j=w→n≤2000→Q s0 c.1 y j→KV (S s0 c.1 y j n) (.list none (c.2.map enc)))
   (fun f=>∀ s1 o,s1.gx s0 r→s1.getO r=some o→Kp s1 (.iface 36 f.enc))):Den cx 222 [.ptr r 0,.fn f first caps] KV Kp (S s0 a0 x0 i0 n0):=by
 (refine zJ func222 [0,1,4,5,10] ?_;simp only[go_sem,ntmps222,f222]);have hlenT:=hT.len;rw[show (T.drop i0).length=T.length-i0 by rw[cP]] at hk;simp only[dH,bL] at hk;refine oE (hf s0 a0 x0 i0 n0 _ _ hQ hi0 hn0 (aW hk (fun p w n' h=>?_) (fun g h=>?_)))
 ·intro j y hj hjT hw hn' hQy;simp only[bU,gQ] at h;simp only[go_sem];refine .inr ⟨⟨hz _,ho _⟩,fun t ht=>?_⟩;obtain ⟨g1,g2,g3⟩:=h1 s0 p.1 y j n' t (1,43) hQy ht
  refine Ex.loop (ι:=(σ × X × Nat × Nat) × List α) (fun c=>[(0,.ptr r 0),(1,.fn f first caps),(5,.list (some t) (c.2.map enc))])
   (fun c=>S (s0.setT t (c.2.length,43)) c.1.1 c.1.2.1 c.1.2.2.1 c.1.2.2.2)
   (fun c => Q (s0.setT t (c.2.length,43)) c.1.1 c.1.2.1 c.1.2.2.1 ∧ i0 ≤ c.1.2.2.1 ∧ c.1.2.2.1 ≤ T.length ∧ c.1.2.2.2 ≤ 2000 ∧ c.2.length ≤ c.1.2.2.1 + 1 ∧ ∃ k,T.length - c.1.2.2.1 ≤ k ∧
    (if bI [44] (T.drop c.1.2.2.1) = true then dH fin [44] (fun (c : σ × List α) w n => (one c.1 w n).bind fun p w n => .ok (p.1,c.2 ++ [p.2]) w n) k (c.1.1,c.2) (T.drop c.1.2.2.1).tail c.1.2.2.2
     else Rd.ok (c.1.1,c.2) (T.drop c.1.2.2.1) c.1.2.2.2).to
      (fun c w n=>∀ j y,i0≤j→j≤T.length→T.drop j=w→n≤2000→Q s0 c.1 y j→KV (S s0 c.1 y j n) (.list none (c.2.map enc)))
      (fun f=>∀ s1 o,s1.gx s0 r→s1.getO r=some o→Kp s1 (.iface 36 f.enc)))
   (fun c=>T.length-c.1.2.2.1) ((p.1,y,j,n'),[p.2]) ?_ ?_ ?_ ?_
  ·refine ⟨g2,hj,hjT,hn',by simp only[aF,aH];omega,T.length-i0,by simp only;omega,?_⟩;simp only[hw];exact h
  ·simp only[go_sem]
  ·exact g3
  ·rintro ⟨⟨a,x,i,n⟩,l⟩ ⟨q1,q2,q3,qn,q4,k,q5,q6⟩;simp only at q1 q2 q3 qn q4 q5 q6;obtain ⟨d,fi,hri,hst⟩:=hr (s0.setT t (l.length,43)) a x i n;refine bV (V:=[0,1,4,5,10]) _ _ _ _ ?_;simp only[go_sem];refine oE (iZ _ hri q3 hT ?_);cases hx:bI [44] (T.drop i) with
   | false =>
    rw[hx] at q6;simp only[bN,if_false,bU] at q6;obtain ⟨e1,e2⟩:=h3 s0 a x i n t (l.length,43) g1 q1;simp only[go_sem];exact DK.mk (q6 i x q2 q3 rfl qn e1) e2 (A.le.forget _ _)
   | true =>
    rw[hx] at q6;have hlt:=kY hx;obtain ⟨k,rfl⟩:∃ k',k=k'+1:=⟨k-1,by omega⟩
    simp only[if_true,dH,bL,bU,mO] at q6;simp only[go_sem];refine oE (dE hst (hf (s0.setT t (l.length,43)) a x (i+1) n _ _ (hi _ _ _ _ q1) hlt qn (aW q6 (fun p w n' h=>?_) (fun g h=>?_))))
    ·intro j y hj hjT hw hn' hQy;obtain ⟨e1,e2,e3⟩:=h2 s0 p.1 y j n' t (l.length,43) (l.length+1,43) g1 hQy;simp only[go_sem];refine .inl ⟨⟨hz _,ho _⟩,by decide,fun q hq=>?_,e1,fun q hq=>?_,by omega,((p.1,y,j,n'),l++[p.2]),⟨?_,by simp only;omega,hjT,hn',?_,k,by simp only;omega,?_⟩,by simp only;omega,?_,?_⟩
     ·simp only[cE] at hq;subst hq;exact hz _
     ·simp only[bW] at hq;obtain ⟨q',_,rfl⟩:=hq;exact hz _
     ·simp only[aR,aF,aH];exact e2
     ·simp only[aR,aF,aH];omega
     ·simp only[hw];exact h
     ·simp only[cM,bK,bQ]
     ·simp only[aR,aF,aH];exact e3
    ·intro s1 o hg1 hr1;simp only[go_sem];exact aO (h s1 o (hg1.dropT g1) hr1)
 ·intro s1 o hg1 hr1;exact aO (h s1 o hg1 hr1)
theorem aFU {α:Type} (enc:α→A) (hz:∀ a,(enc a).cells.length=6) (ho:∀ a,fZ (enc a).cells=true)
  {T:List Tok} {fin:Fault} {d:Dc} {fi:Tok} {s0:St} {r:Nat} {KV Kp:St→A→Prop} (hT:TOk T)
  (Q:St→Prop) (hq:∀ (s:St) (t:Nat) (v:Nat × TypeId),Q (s.setT t v)↔Q s) (one:List Tok→Nat→Rd α) (f:FuncId) (first caps:List A)
  (hf : ∀ (s : St) (i n : Nat) (KV Kp : St → A → Prop),Q s → i ≤ T.length → n ≤ 2000 → (one (T.drop i) n).to (fun a w n' => ∀ j,i ≤ j → j ≤ T.length → T.drop j = w → n' ≤ 2000 → KV (s.setO r (bC T fin d fi j n')) (enc a))
   (fun f=>∀ s1 o,s1.gx s r→s1.getO r=some o→Kp s1 (.iface 36 f.enc))→Den cx f (first++[]++caps) KV Kp (s.setO r (bC T fin d fi i n)))
  (i0 n0:Nat) (hQ:Q s0) (hi0:i0≤T.length) (hn0:n0≤2000)
  (hk : (jX fin (fun _ => one) [] (T.drop i0) n0).to
   (fun l w n=>∀ j,i0≤j→j≤T.length→T.drop j=w→n≤2000→KV (s0.setO r (bC T fin d fi j n)) (.list none (l.map enc)))
   (fun f=>∀ s1 o,s1.gx s0 r→s1.getO r=some o→Kp s1 (.iface 36 f.enc))):Den cx 222 [.ptr r 0,.fn f first caps] KV Kp (s0.setO r (bC T fin d fi i0 n0)):=by
 refine aDG (σ:=Unit) (X:=Unit) enc hz ho hT (fun s _ _ i n=>s.setO r (bC T fin d fi i n)) (fun s _ _ _=>Q s) (fun _ w n=>(one w n).bind fun a w n=>.ok ((),a) w n) f first caps
  (fun s _ _ i n=>⟨d,fi,by rw[aJ,if_pos rfl],by rw[lZ];exact bA _⟩) (fun s _ _ i n t v h ht=>⟨ht,(hq s t v).2 h,bA _⟩)
  (fun s _ _ i n t v u ht h=>⟨?_,(hq s t u).2 ((hq s t v).1 h),?_⟩) (fun s _ _ i n t v ht h=>⟨(hq s t v).1 h,?_⟩) (fun s _ _ i h=>h) (fun s _ _ i n h=>eQ (fF s r)) (fun s _ _ i n KV Kp h hi hn hk=>?_) () () i0 n0 hQ hi0 hn0 ?_
 ·show (s.setT t v).getT t=some v;rw[cO,if_pos rfl]
 ·show (((s.setT t v).setT t u).setO r _).ge ((s.setT t u).setO r _);exact pQ (aA9 s t v u)
 ·exact pQ (vI ht)
 ·refine hf s i n KV Kp h hi hn ?_;rw[bL] at hk;refine aW hk (fun a w n' h2 j hj hjT hw hn'=>?_) (fun _ h2=>h2);exact h2 j () hj hjT hw hn' h
 ·have:=aBr fin [44] one ((T.drop i0).length+1) [] [] (T.drop i0) n0 _ _ hk;refine aW this (fun c w n h j y hj hjT hw hn' hQ'=>?_) (fun _ h2=>h2);have h':=h j hj hjT hw hn';simpa only[gQ] using h'
theorem aLb {σ α X:Type} (enc:α→A) (hz:∀ a,(enc a).cells.length=1) (ho:∀ a,fZ (enc a).cells=true)
  {T:List Tok} {fin:Fault} {s0:St} {r:Nat} {KV Kp:St→A→Prop} (hT:TOk T)
  (S:St→σ→X→Nat→Nat→St) (Q:St→σ→X→Nat→Prop) (one:σ→List Tok→Nat→Rd (σ × α)) (f:FuncId) (first caps:List A)
  (hr:∀ (s:St) (a:σ) (x:X) (i n:Nat),∃ d fi,(S s a x i n).getO r=some (bC T fin d fi i n)∧((S s a x i n).setO r (bC T fin d fi (i+1) n)).ge (S s a x (i+1) n))
  (h1:∀ (s:St) (a:σ) (x:X) (i n:Nat) (t:Nat) (v:Nat × TypeId),Q s a x i→(S s a x i n).getT t=none→s.getT t=none∧Q (s.setT t v) a x i∧((S s a x i n).setT t v).ge (S (s.setT t v) a x i n))
  (h2:∀ (s:St) (a:σ) (x:X) (i n:Nat) (t:Nat) (v u:Nat × TypeId),s.getT t=none→Q (s.setT t v) a x i→(S (s.setT t v) a x i n).getT t=some v∧Q (s.setT t u) a x i∧((S (s.setT t v) a x i n).setT t u).ge (S (s.setT t u) a x i n))
  (h3:∀ (s:St) (a:σ) (x:X) (i n:Nat) (t:Nat) (v:Nat × TypeId),s.getT t=none→Q (s.setT t v) a x i→Q s a x i∧(S (s.setT t v) a x i n).ge (S s a x i n))
  (hi:∀ (s:St) (a:σ) (x:X) (i:Nat),Q s a x i→Q s a x (i+1))
  (hg:∀ (s:St) (a:σ) (x:X) (i n:Nat),Q s a x i→(S s a x i n).gx s r)
  (hf : ∀ (s : St) (a : σ) (x : X) (i n : Nat) (KV Kp : St → A → Prop),Q s a x i → i ≤ T.length → n ≤ 2000 → (one a (T.drop i) n).to (fun p w n' => ∀ j y,i ≤ j → j ≤ T.length → T.drop j = w → n' ≤ 2000 → Q s p.1 y j → KV (S s p.1 y j n') (enc p.2))
   (fun f=>∀ s1 o,s1.gx s r→s1.getO r=some o→Kp s1 (.iface 36 f.enc))→Den cx f (first++[]++caps) KV Kp (S s a x i n))
  (a0:σ) (x0:X) (i0 n0:Nat) (hQ:Q s0 a0 x0 i0) (hi0:i0≤T.length) (hn0:n0≤2000)
  (hk : (dH fin [44] (fun (c : σ × List α) w n => (one c.1 w n).bind fun p w n => .ok (p.1,c.2 ++ [p.2]) w n) ((T.drop i0).length + 1) (a0,[]) (T.drop i0) n0).to
   (fun c w n=>∀ j y,i0≤j→j≤T.length→T.drop j=w→n≤2000→Q s0 c.1 y j→KV (S s0 c.1 y j n) (.list none (c.2.map enc)))
   (fun f=>∀ s1 o,s1.gx s0 r→s1.getO r=some o→Kp s1 (.iface 36 f.enc))):Den cx 150 [.ptr r 0,.fn f first caps] KV Kp (S s0 a0 x0 i0 n0):=by
 (refine zJ func150 [0,1,4,5,10] ?_;simp only[go_sem,ntmps150,f150]);have hlenT:=hT.len;rw[show (T.drop i0).length=T.length-i0 by rw[cP]] at hk;simp only[dH,bL] at hk;refine oE (hf s0 a0 x0 i0 n0 _ _ hQ hi0 hn0 (aW hk (fun p w n' h=>?_) (fun g h=>?_)))
 ·intro j y hj hjT hw hn' hQy;simp only[bU,gQ] at h;simp only[go_sem];refine .inr ⟨⟨hz _,ho _⟩,fun t ht=>?_⟩;obtain ⟨g1,g2,g3⟩:=h1 s0 p.1 y j n' t (1,9) hQy ht
  refine Ex.loop (ι:=(σ × X × Nat × Nat) × List α) (fun c=>[(0,.ptr r 0),(1,.fn f first caps),(5,.list (some t) (c.2.map enc))])
   (fun c=>S (s0.setT t (c.2.length,9)) c.1.1 c.1.2.1 c.1.2.2.1 c.1.2.2.2)
   (fun c => Q (s0.setT t (c.2.length,9)) c.1.1 c.1.2.1 c.1.2.2.1 ∧ i0 ≤ c.1.2.2.1 ∧ c.1.2.2.1 ≤ T.length ∧ c.1.2.2.2 ≤ 2000 ∧ c.2.length ≤ c.1.2.2.1 + 1 ∧ ∃ k,T.length - c.1.2.2.1 ≤ k ∧
    (if bI [44] (T.drop c.1.2.2.1) = true then dH fin [44] (fun (c : σ × List α) w n => (one c.1 w n).bind fun p w n => .ok (p.1,c.2 ++ [p.2]) w n) k (c.1.1,c.2) (T.drop c.1.2.2.1).tail c.1.2.2.2
     else Rd.ok (c.1.1,c.2) (T.drop c.1.2.2.1) c.1.2.2.2).to
      (fun c w n=>∀ j y,i0≤j→j≤T.length→T.drop j=w→n≤2000→Q s0 c.1 y j→KV (S s0 c.1 y j n) (.list none (c.2.map enc)))
      (fun f=>∀ s1 o,s1.gx s0 r→s1.getO r=some o→Kp s1 (.iface 36 f.enc)))
   (fun c=>T.length-c.1.2.2.1) ((p.1,y,j,n'),[p.2]) ?_ ?_ ?_ ?_
  ·refine ⟨g2,hj,hjT,hn',by simp only[aF,aH];omega,T.length-i0,by simp only;omega,?_⟩;simp only[hw];exact h
  ·simp only[go_sem]
  ·exact g3
  ·rintro ⟨⟨a,x,i,n⟩,l⟩ ⟨q1,q2,q3,qn,q4,k,q5,q6⟩;simp only at q1 q2 q3 qn q4 q5 q6;obtain ⟨d,fi,hri,hst⟩:=hr (s0.setT t (l.length,9)) a x i n;refine bV (V:=[0,1,4,5,10]) _ _ _ _ ?_;simp only[go_sem];refine oE (iZ _ hri q3 hT ?_);cases hx:bI [44] (T.drop i) with
   | false =>
    rw[hx] at q6;simp only[bN,if_false,bU] at q6;obtain ⟨e1,e2⟩:=h3 s0 a x i n t (l.length,9) g1 q1;simp only[go_sem];exact DK.mk (q6 i x q2 q3 rfl qn e1) e2 (A.le.forget _ _)
   | true =>
    rw[hx] at q6;have hlt:=kY hx;obtain ⟨k,rfl⟩:∃ k',k=k'+1:=⟨k-1,by omega⟩
    simp only[if_true,dH,bL,bU,mO] at q6;simp only[go_sem];refine oE (dE hst (hf (s0.setT t (l.length,9)) a x (i+1) n _ _ (hi _ _ _ _ q1) hlt qn (aW q6 (fun p w n' h=>?_) (fun g h=>?_))))
    ·intro j y hj hjT hw hn' hQy;obtain ⟨e1,e2,e3⟩:=h2 s0 p.1 y j n' t (l.length,9) (l.length+1,9) g1 hQy;simp only[go_sem];refine .inl ⟨⟨hz _,ho _⟩,by decide,fun q hq=>?_,e1,fun q hq=>?_,by omega,((p.1,y,j,n'),l++[p.2]),⟨?_,by simp only;omega,hjT,hn',?_,k,by simp only;omega,?_⟩,by simp only;omega,?_,?_⟩
     ·simp only[cE] at hq;subst hq;exact hz _
     ·simp only[bW] at hq;obtain ⟨q',_,rfl⟩:=hq;exact hz _
     ·simp only[aR,aF,aH];exact e2
     ·simp only[aR,aF,aH];omega
     ·simp only[hw];exact h
     ·simp only[cM,bK,bQ]
     ·simp only[aR,aF,aH];exact e3
    ·intro s1 o hg1 hr1;simp only[go_sem];exact aO (h s1 o (hg1.dropT g1) hr1)
 ·intro s1 o hg1 hr1;exact aO (h s1 o hg1 hr1)
theorem aKR {α:Type} (enc:α→A) (hz:∀ a,(enc a).cells.length=1) (ho:∀ a,fZ (enc a).cells=true)
  {T:List Tok} {fin:Fault} {d:Dc} {fi:Tok} {s0:St} {r:Nat} {KV Kp:St→A→Prop} (hT:TOk T)
  (Q:St→Prop) (hq:∀ (s:St) (t:Nat) (v:Nat × TypeId),Q (s.setT t v)↔Q s) (one:List Tok→Nat→Rd α) (f:FuncId) (first caps:List A)
  (hf : ∀ (s : St) (i n : Nat) (KV Kp : St → A → Prop),Q s → i ≤ T.length → n ≤ 2000 → (one (T.drop i) n).to (fun a w n' => ∀ j,i ≤ j → j ≤ T.length → T.drop j = w → n' ≤ 2000 → KV (s.setO r (bC T fin d fi j n')) (enc a))
   (fun f=>∀ s1 o,s1.gx s r→s1.getO r=some o→Kp s1 (.iface 36 f.enc))→Den cx f (first++[]++caps) KV Kp (s.setO r (bC T fin d fi i n)))
  (i0 n0:Nat) (hQ:Q s0) (hi0:i0≤T.length) (hn0:n0≤2000)
  (hk : (jX fin (fun _ => one) [] (T.drop i0) n0).to
   (fun l w n=>∀ j,i0≤j→j≤T.length→T.drop j=w→n≤2000→KV (s0.setO r (bC T fin d fi j n)) (.list none (l.map enc)))
   (fun f=>∀ s1 o,s1.gx s0 r→s1.getO r=some o→Kp s1 (.iface 36 f.enc))):Den cx 150 [.ptr r 0,.fn f first caps] KV Kp (s0.setO r (bC T fin d fi i0 n0)):=by
 refine aLb (σ:=Unit) (X:=Unit) enc hz ho hT (fun s _ _ i n=>s.setO r (bC T fin d fi i n)) (fun s _ _ _=>Q s) (fun _ w n=>(one w n).bind fun a w n=>.ok ((),a) w n) f first caps
  (fun s _ _ i n=>⟨d,fi,by rw[aJ,if_pos rfl],by rw[lZ];exact bA _⟩) (fun s _ _ i n t v h ht=>⟨ht,(hq s t v).2 h,bA _⟩)
  (fun s _ _ i n t v u ht h=>⟨?_,(hq s t u).2 ((hq s t v).1 h),?_⟩) (fun s _ _ i n t v ht h=>⟨(hq s t v).1 h,?_⟩) (fun s _ _ i h=>h) (fun s _ _ i n h=>eQ (fF s r)) (fun s _ _ i n KV Kp h hi hn hk=>?_) () () i0 n0 hQ hi0 hn0 ?_
 ·show (s.setT t v).getT t=some v;rw[cO,if_pos rfl]
 ·show (((s.setT t v).setT t u).setO r _).ge ((s.setT t u).setO r _);exact pQ (aA9 s t v u)
 ·exact pQ (vI ht)
 ·refine hf s i n KV Kp h hi hn ?_;rw[bL] at hk;refine aW hk (fun a w n' h2 j hj hjT hw hn'=>?_) (fun _ h2=>h2);exact h2 j () hj hjT hw hn' h
 ·have:=aBr fin [44] one ((T.drop i0).length+1) [] [] (T.drop i0) n0 _ _ hk;refine aW this (fun c w n h j y hj hjT hw hn' hQ'=>?_) (fun _ h2=>h2);have h':=h j hj hjT hw hn';simpa only[gQ] using h'
theorem aDE {σ α X:Type} (enc:α→A) (hz:∀ a,(enc a).cells.length=1) (ho:∀ a,fZ (enc a).cells=true)
  {T:List Tok} {fin:Fault} {s0:St} {r:Nat} {KV Kp:St→A→Prop} (hT:TOk T)
  (S:St→σ→X→Nat→Nat→St) (Q:St→σ→X→Nat→Prop) (one:σ→List Tok→Nat→Rd (σ × α)) (f:FuncId) (first caps:List A)
  (hr:∀ (s:St) (a:σ) (x:X) (i n:Nat),∃ d fi,(S s a x i n).getO r=some (bC T fin d fi i n)∧((S s a x i n).setO r (bC T fin d fi (i+1) n)).ge (S s a x (i+1) n))
  (h1:∀ (s:St) (a:σ) (x:X) (i n:Nat) (t:Nat) (v:Nat × TypeId),Q s a x i→(S s a x i n).getT t=none→s.getT t=none∧Q (s.setT t v) a x i∧((S s a x i n).setT t v).ge (S (s.setT t v) a x i n))
  (h2:∀ (s:St) (a:σ) (x:X) (i n:Nat) (t:Nat) (v u:Nat × TypeId),s.getT t=none→Q (s.setT t v) a x i→(S (s.setT t v) a x i n).getT t=some v∧Q (s.setT t u) a x i∧((S (s.setT t v) a x i n).setT t u).ge (S (s.setT t u) a x i n))
  (h3:∀ (s:St) (a:σ) (x:X) (i n:Nat) (t:Nat) (v:Nat × TypeId),s.getT t=none→Q (s.setT t v) a x i→Q s a x i∧(S (s.setT t v) a x i n).ge (S s a x i n))
  (hi:∀ (s:St) (a:σ) (x:X) (i:Nat),Q s a x i→Q s a x (i+1))
  (hg:∀ (s:St) (a:σ) (x:X) (i n:Nat),Q s a x i→(S s a x i n).gx s r)
  (hf : ∀ (s : St) (a : σ) (x : X) (i n : Nat) (KV Kp : St → A → Prop),Q s a x i → i ≤ T.length → n ≤ 2000 → (one a (T.drop i) n).to (fun p w n' => ∀ j y,i ≤ j → j ≤ T.length → T.drop j = w → n' ≤ 2000 → Q s p.1 y j → KV (S s p.1 y j n') (enc p.2))
   (fun f=>∀ s1 o,s1.gx s r→s1.getO r=some o→Kp s1 (.iface 36 f.enc))→Den cx f (first++[]++caps) KV Kp (S s a x i n))
  (a0:σ) (x0:X) (i0 n0:Nat) (hQ:Q s0 a0 x0 i0) (hi0:i0≤T.length) (hn0:n0≤2000)
  (hk : (dH fin [44] (fun (c : σ × List α) w n => (one c.1 w n).bind fun p w n => .ok (p.1,c.2 ++ [p.2]) w n) ((T.drop i0).length + 1) (a0,[]) (T.drop i0) n0).to
   (fun c w n=>∀ j y,i0≤j→j≤T.length→T.drop j=w→n≤2000→Q s0 c.1 y j→KV (S s0 c.1 y j n) (.list none (c.2.map enc)))
   (fun f=>∀ s1 o,s1.gx s0 r→s1.getO r=some o→Kp s1 (.iface 36 f.enc))):Den cx 146 [.ptr r 0,.fn f first caps] KV Kp (S s0 a0 x0 i0 n0):=by
 (refine zJ func146 [0,1,4,5,10] ?_;simp only[go_sem,ntmps146,f146]);have hlenT:=hT.len;rw[show (T.drop i0).length=T.length-i0 by rw[cP]] at hk;simp only[dH,bL] at hk;refine oE (hf s0 a0 x0 i0 n0 _ _ hQ hi0 hn0 (aW hk (fun p w n' h=>?_) (fun g h=>?_)))
 ·intro j y hj hjT hw hn' hQy;simp only[bU,gQ] at h;simp only[go_sem];refine .inr ⟨⟨hz _,ho _⟩,fun t ht=>?_⟩;obtain ⟨g1,g2,g3⟩:=h1 s0 p.1 y j n' t (1,4) hQy ht
  refine Ex.loop (ι:=(σ × X × Nat × Nat) × List α) (fun c=>[(0,.ptr r 0),(1,.fn f first caps),(5,.list (some t) (c.2.map enc))])
   (fun c=>S (s0.setT t (c.2.length,4)) c.1.1 c.1.2.1 c.1.2.2.1 c.1.2.2.2)
   (fun c => Q (s0.setT t (c.2.length,4)) c.1.1 c.1.2.1 c.1.2.2.1 ∧ i0 ≤ c.1.2.2.1 ∧ c.1.2.2.1 ≤ T.length ∧ c.1.2.2.2 ≤ 2000 ∧ c.2.length ≤ c.1.2.2.1 + 1 ∧ ∃ k,T.length - c.1.2.2.1 ≤ k ∧
    (if bI [44] (T.drop c.1.2.2.1) = true then dH fin [44] (fun (c : σ × List α) w n => (one c.1 w n).bind fun p w n => .ok (p.1,c.2 ++ [p.2]) w n) k (c.1.1,c.2) (T.drop c.1.2.2.1).tail c.1.2.2.2
     else Rd.ok (c.1.1,c.2) (T.drop c.1.2.2.1) c.1.2.2.2).to
      (fun c w n=>∀ j y,i0≤j→j≤T.length→T.drop j=w→n≤2000→Q s0 c.1 y j→KV (S s0 c.1 y j n) (.list none (c.2.map enc)))
      (fun f=>∀ s1 o,s1.gx s0 r→s1.getO r=some o→Kp s1 (.iface 36 f.enc)))
   (fun c=>T.length-c.1.2.2.1) ((p.1,y,j,n'),[p.2]) ?_ ?_ ?_ ?_
  ·refine ⟨g2,hj,hjT,hn',by simp only[aF,aH];omega,T.length-i0,by simp only;omega,?_⟩;simp only[hw];exact h
  ·simp only[go_sem]
  ·exact g3
  ·rintro ⟨⟨a,x,i,n⟩,l⟩ ⟨q1,q2,q3,qn,q4,k,q5,q6⟩;simp only at q1 q2 q3 qn q4 q5 q6;obtain ⟨d,fi,hri,hst⟩:=hr (s0.setT t (l.length,4)) a x i n;refine bV (V:=[0,1,4,5,10]) _ _ _ _ ?_;simp only[go_sem];refine oE (iZ _ hri q3 hT ?_);cases hx:bI [44] (T.drop i) with
   | false =>
    rw[hx] at q6;simp only[bN,if_false,bU] at q6;obtain ⟨e1,e2⟩:=h3 s0 a x i n t (l.length,4) g1 q1;simp only[go_sem];exact DK.mk (q6 i x q2 q3 rfl qn e1) e2 (A.le.forget _ _)
   | true =>
    rw[hx] at q6;have hlt:=kY hx;obtain ⟨k,rfl⟩:∃ k',k=k'+1:=⟨k-1,by omega⟩
    simp only[if_true,dH,bL,bU,mO] at q6;simp only[go_sem];refine oE (dE hst (hf (s0.setT t (l.length,4)) a x (i+1) n _ _ (hi _ _ _ _ q1) hlt qn (aW q6 (fun p w n' h=>?_) (fun g h=>?_))))
    ·intro j y hj hjT hw hn' hQy;obtain ⟨e1,e2,e3⟩:=h2 s0 p.1 y j n' t (l.length,4) (l.length+1,4) g1 hQy;simp only[go_sem];refine .inl ⟨⟨hz _,ho _⟩,by decide,fun q hq=>?_,e1,fun q hq=>?_,by omega,((p.1,y,j,n'),l++[p.2]),⟨?_,by simp only;omega,hjT,hn',?_,k,by simp only;omega,?_⟩,by simp only;omega,?_,?_⟩
     ·simp only[cE] at hq;subst hq;exact hz _
     ·simp only[bW] at hq;obtain ⟨q',_,rfl⟩:=hq;exact hz _
     ·simp only[aR,aF,aH];exact e2
     ·simp only[aR,aF,aH];omega
     ·simp only[hw];exact h
     ·simp only[cM,bK,bQ]
     ·simp only[aR,aF,aH];exact e3
    ·intro s1 o hg1 hr1;simp only[go_sem];exact aO (h s1 o (hg1.dropT g1) hr1)
 ·intro s1 o hg1 hr1;exact aO (h s1 o hg1 hr1)
theorem aKW {σ α X:Type} (enc:α→A) (hz:∀ a,(enc a).cells.length=1) (ho:∀ a,fZ (enc a).cells=true)
  {T:List Tok} {fin:Fault} {s0:St} {r:Nat} {KV Kp:St→A→Prop} (hT:TOk T)
  (S:St→σ→X→Nat→Nat→St) (Q:St→σ→X→Nat→Prop) (one:σ→List Tok→Nat→Rd (σ × α)) (f:FuncId) (first caps:List A)
  (hr:∀ (s:St) (a:σ) (x:X) (i n:Nat),∃ d fi,(S s a x i n).getO r=some (bC T fin d fi i n)∧((S s a x i n).setO r (bC T fin d fi (i+1) n)).ge (S s a x (i+1) n))
  (h1:∀ (s:St) (a:σ) (x:X) (i n:Nat) (t:Nat) (v:Nat × TypeId),Q s a x i→(S s a x i n).getT t=none→s.getT t=none∧Q (s.setT t v) a x i∧((S s a x i n).setT t v).ge (S (s.setT t v) a x i n))
  (h2:∀ (s:St) (a:σ) (x:X) (i n:Nat) (t:Nat) (v u:Nat × TypeId),s.getT t=none→Q (s.setT t v) a x i→(S (s.setT t v) a x i n).getT t=some v∧Q (s.setT t u) a x i∧((S (s.setT t v) a x i n).setT t u).ge (S (s.setT t u) a x i n))
  (h3:∀ (s:St) (a:σ) (x:X) (i n:Nat) (t:Nat) (v:Nat × TypeId),s.getT t=none→Q (s.setT t v) a x i→Q s a x i∧(S (s.setT t v) a x i n).ge (S s a x i n))
  (hi:∀ (s:St) (a:σ) (x:X) (i:Nat),Q s a x i→Q s a x (i+1))
  (hg:∀ (s:St) (a:σ) (x:X) (i n:Nat),Q s a x i→(S s a x i n).gx s r)
  (hf : ∀ (s : St) (a : σ) (x : X) (i n : Nat) (KV Kp : St → A → Prop),Q s a x i → i ≤ T.length → n ≤ 2000 → (one a (T.drop i) n).to (fun p w n' => ∀ j y,i ≤ j → j ≤ T.length → T.drop j = w → n' ≤ 2000 → Q s p.1 y j → KV (S s p.1 y j n') (enc p.2))
   (fun f=>∀ s1 o,s1.gx s r→s1.getO r=some o→Kp s1 (.iface 36 f.enc))→Den cx f (first++[]++caps) KV Kp (S s a x i n))
  (a0:σ) (x0:X) (i0 n0:Nat) (hQ:Q s0 a0 x0 i0) (hi0:i0≤T.length) (hn0:n0≤2000)
  (hk : (dH fin [44] (fun (c : σ × List α) w n => (one c.1 w n).bind fun p w n => .ok (p.1,c.2 ++ [p.2]) w n) ((T.drop i0).length + 1) (a0,[]) (T.drop i0) n0).to
   (fun c w n=>∀ j y,i0≤j→j≤T.length→T.drop j=w→n≤2000→Q s0 c.1 y j→KV (S s0 c.1 y j n) (.list none (c.2.map enc)))
   (fun f=>∀ s1 o,s1.gx s0 r→s1.getO r=some o→Kp s1 (.iface 36 f.enc))):Den cx 282 [.ptr r 0,.fn f first caps] KV Kp (S s0 a0 x0 i0 n0):=by
 (refine zJ func282 [0,1,4,5,10] ?_;simp only[go_sem,ntmps282,f282]);have hlenT:=hT.len;rw[show (T.drop i0).length=T.length-i0 by rw[cP]] at hk;simp only[dH,bL] at hk;refine oE (hf s0 a0 x0 i0 n0 _ _ hQ hi0 hn0 (aW hk (fun p w n' h=>?_) (fun g h=>?_)))
 ·intro j y hj hjT hw hn' hQy;simp only[bU,gQ] at h;simp only[go_sem];refine .inr ⟨⟨hz _,ho _⟩,fun t ht=>?_⟩;obtain ⟨g1,g2,g3⟩:=h1 s0 p.1 y j n' t (1,3) hQy ht
  refine Ex.loop (ι:=(σ × X × Nat × Nat) × List α) (fun c=>[(0,.ptr r 0),(1,.fn f first caps),(5,.list (some t) (c.2.map enc))])
   (fun c=>S (s0.setT t (c.2.length,3)) c.1.1 c.1.2.1 c.1.2.2.1 c.1.2.2.2)
   (fun c => Q (s0.setT t (c.2.length,3)) c.1.1 c.1.2.1 c.1.2.2.1 ∧ i0 ≤ c.1.2.2.1 ∧ c.1.2.2.1 ≤ T.length ∧ c.1.2.2.2 ≤ 2000 ∧ c.2.length ≤ c.1.2.2.1 + 1 ∧ ∃ k,T.length - c.1.2.2.1 ≤ k ∧
    (if bI [44] (T.drop c.1.2.2.1) = true then dH fin [44] (fun (c : σ × List α) w n => (one c.1 w n).bind fun p w n => .ok (p.1,c.2 ++ [p.2]) w n) k (c.1.1,c.2) (T.drop c.1.2.2.1).tail c.1.2.2.2
     else Rd.ok (c.1.1,c.2) (T.drop c.1.2.2.1) c.1.2.2.2).to
      (fun c w n=>∀ j y,i0≤j→j≤T.length→T.drop j=w→n≤2000→Q s0 c.1 y j→KV (S s0 c.1 y j n) (.list none (c.2.map enc)))
      (fun f=>∀ s1 o,s1.gx s0 r→s1.getO r=some o→Kp s1 (.iface 36 f.enc)))
   (fun c=>T.length-c.1.2.2.1) ((p.1,y,j,n'),[p.2]) ?_ ?_ ?_ ?_
  ·refine ⟨g2,hj,hjT,hn',by simp only[aF,aH];omega,T.length-i0,by simp only;omega,?_⟩;simp only[hw];exact h
  ·simp only[go_sem]
  ·exact g3
  ·rintro ⟨⟨a,x,i,n⟩,l⟩ ⟨q1,q2,q3,qn,q4,k,q5,q6⟩;simp only at q1 q2 q3 qn q4 q5 q6;obtain ⟨d,fi,hri,hst⟩:=hr (s0.setT t (l.length,3)) a x i n;refine bV (V:=[0,1,4,5,10]) _ _ _ _ ?_;simp only[go_sem];refine oE (iZ _ hri q3 hT ?_);cases hx:bI [44] (T.drop i) with
   | false =>
    rw[hx] at q6;simp only[bN,if_false,bU] at q6;obtain ⟨e1,e2⟩:=h3 s0 a x i n t (l.length,3) g1 q1;simp only[go_sem];exact DK.mk (q6 i x q2 q3 rfl qn e1) e2 (A.le.forget _ _)
   | true =>
    rw[hx] at q6;have hlt:=kY hx;obtain ⟨k,rfl⟩:∃ k',k=k'+1:=⟨k-1,by omega⟩
    simp only[if_true,dH,bL,bU,mO] at q6;simp only[go_sem];refine oE (dE hst (hf (s0.setT t (l.length,3)) a x (i+1) n _ _ (hi _ _ _ _ q1) hlt qn (aW q6 (fun p w n' h=>?_) (fun g h=>?_))))
    ·intro j y hj hjT hw hn' hQy;obtain ⟨e1,e2,e3⟩:=h2 s0 p.1 y j n' t (l.length,3) (l.length+1,3) g1 hQy;simp only[go_sem];refine .inl ⟨⟨hz _,ho _⟩,by decide,fun q hq=>?_,e1,fun q hq=>?_,by omega,((p.1,y,j,n'),l++[p.2]),⟨?_,by simp only;omega,hjT,hn',?_,k,by simp only;omega,?_⟩,by simp only;omega,?_,?_⟩
     ·simp only[cE] at hq;subst hq;exact hz _
     ·simp only[bW] at hq;obtain ⟨q',_,rfl⟩:=hq;exact hz _
     ·simp only[aR,aF,aH];exact e2
     ·simp only[aR,aF,aH];omega
     ·simp only[hw];exact h
     ·simp only[cM,bK,bQ]
     ·simp only[aR,aF,aH];exact e3
    ·intro s1 o hg1 hr1;simp only[go_sem];exact aO (h s1 o (hg1.dropT g1) hr1)
 ·intro s1 o hg1 hr1;exact aO (h s1 o hg1 hr1)
theorem aKO {α:Type} (enc:α→A) (hz:∀ a,(enc a).cells.length=1) (ho:∀ a,fZ (enc a).cells=true)
  {T:List Tok} {fin:Fault} {d:Dc} {fi:Tok} {s0:St} {r:Nat} {KV Kp:St→A→Prop} (hT:TOk T)
  (Q:St→Prop) (hq:∀ (s:St) (t:Nat) (v:Nat × TypeId),Q (s.setT t v)↔Q s) (one:List Tok→Nat→Rd α) (f:FuncId) (first caps:List A)
  (hf : ∀ (s : St) (i n : Nat) (KV Kp : St → A → Prop),Q s → i ≤ T.length → n ≤ 2000 → (one (T.drop i) n).to (fun a w n' => ∀ j,i ≤ j → j ≤ T.length → T.drop j = w → n' ≤ 2000 → KV (s.setO r (bC T fin d fi j n')) (enc a))
   (fun f=>∀ s1 o,s1.gx s r→s1.getO r=some o→Kp s1 (.iface 36 f.enc))→Den cx f (first++[]++caps) KV Kp (s.setO r (bC T fin d fi i n)))
  (i0 n0:Nat) (hQ:Q s0) (hi0:i0≤T.length) (hn0:n0≤2000)
  (hk : (jX fin (fun _ => one) [] (T.drop i0) n0).to
   (fun l w n=>∀ j,i0≤j→j≤T.length→T.drop j=w→n≤2000→KV (s0.setO r (bC T fin d fi j n)) (.list none (l.map enc)))
   (fun f=>∀ s1 o,s1.gx s0 r→s1.getO r=some o→Kp s1 (.iface 36 f.enc))):Den cx 282 [.ptr r 0,.fn f first caps] KV Kp (s0.setO r (bC T fin d fi i0 n0)):=by
 refine aKW (σ:=Unit) (X:=Unit) enc hz ho hT (fun s _ _ i n=>s.setO r (bC T fin d fi i n)) (fun s _ _ _=>Q s) (fun _ w n=>(one w n).bind fun a w n=>.ok ((),a) w n) f first caps
  (fun s _ _ i n=>⟨d,fi,by rw[aJ,if_pos rfl],by rw[lZ];exact bA _⟩) (fun s _ _ i n t v h ht=>⟨ht,(hq s t v).2 h,bA _⟩)
  (fun s _ _ i n t v u ht h=>⟨?_,(hq s t u).2 ((hq s t v).1 h),?_⟩) (fun s _ _ i n t v ht h=>⟨(hq s t v).1 h,?_⟩) (fun s _ _ i h=>h) (fun s _ _ i n h=>eQ (fF s r)) (fun s _ _ i n KV Kp h hi hn hk=>?_) () () i0 n0 hQ hi0 hn0 ?_
 ·show (s.setT t v).getT t=some v;rw[cO,if_pos rfl]
 ·show (((s.setT t v).setT t u).setO r _).ge ((s.setT t u).setO r _);exact pQ (aA9 s t v u)
 ·exact pQ (vI ht)
 ·refine hf s i n KV Kp h hi hn ?_;rw[bL] at hk;refine aW hk (fun a w n' h2 j hj hjT hw hn'=>?_) (fun _ h2=>h2);exact h2 j () hj hjT hw hn' h
 ·have:=aBr fin [44] one ((T.drop i0).length+1) [] [] (T.drop i0) n0 _ _ hk;refine aW this (fun c w n h j y hj hjT hw hn' hQ'=>?_) (fun _ h2=>h2);have h':=h j hj hjT hw hn';simpa only[gQ] using h'
theorem aCy {α:Type} {enc:α→A} {T:List Tok} {fin:Fault} {d:Dc} {fi:Tok} {r:Nat} {Q:St→Prop} {one:List Tok→Nat→Rd α} {f:FuncId} {args:List A} (hQr:∀ (s:St) (o:Ob),Q s→Q (s.setO r o))
  (h:∀ (s:St) (i n:Nat) (KV Kp:St→A→Prop),s.getO r=some (bC T fin d fi i n)→Q s→i≤T.length→n≤2000→(one (T.drop i) n).to (PK T i (fun j m=>s.setO r (bC T fin d fi j m)) enc KV) (PB s r Kp)→Den cx f args KV Kp s) :
  ∀ (s:St) (i n:Nat) (KV Kp:St→A→Prop),Q s→i≤T.length→n≤2000→(one (T.drop i) n).to (fun a w n'=>∀ j,i≤j→j≤T.length→T.drop j=w→n'≤2000→KV (s.setO r (bC T fin d fi j n')) (enc a))
   (fun f=>∀ s1 o,s1.gx s r→s1.getO r=some o→Kp s1 (.iface 36 f.enc))→Den cx f args KV Kp (s.setO r (bC T fin d fi i n)):=by
 intro s i n KV Kp hQ hi hn hk;refine h (s.setO r _) i n KV Kp (by rw[aJ,if_pos rfl]) (hQr s _ hQ) hi hn (aW hk (fun a w m h j hj hjT hw hm=>?_) (fun f h o=>?_))
 ·simp only[lZ];exact h j hj hjT hw hm
 ·exact h _ o (eQ (eQ (fF s r))) (by rw[aJ,if_pos rfl])
section
theorem aN4 (s:St) (x:aD) (KV Kp) (hk:KV s (.bool (mW x))):Den cx 240 [.str x] KV Kp s:=by
 (refine aZ func240 [0,2] ?_;simp only[go_sem,ntmps240,f240]);refine aGx _ _ _ _ ?_;simp only[go_sem];cases hn:gZ x with
 | false =>
  simp only[go_sem];rw[show mW x=false by simp[mW,hn]] at hk;exact aO hk
 | true =>
  cases x with
  | nil=>simp[gZ] at hn
  | cons c r =>
   have e97:decide ((97:Int)≤(c.toNat:Int))=decide (97≤c.toNat):=by rw[lW];omega
   have e122:decide ((c.toNat:Int)≤122)=decide (c.toNat≤122):=by rw[lW];omega
   rw[show mW (c::r)=((decide (97≤c.toNat)&&decide (c.toNat≤122))&&!decide (c::r=[116,114,117,101])&&!decide (c::r=[102,97,108,115,101])) by simp[mW,hn]] at hk;cases h1:decide (97≤c.toNat)<;>cases h2:decide (c.toNat≤122)<;>cases h3:decide (c::r=[116,114,117,101])<;>cases h4:decide (c::r=[102,97,108,115,101])<;>simp only[go_sem,e97,e122,h1,h2,h3,h4]
   all_goals (rw[h1,h2,h3,h4] at hk;exact aO hk)
section
variable {T:List Tok} {fin:Fault} {d:Dc} {first:Tok} {i n:Nat} {s:St} {r:Nat} {KV Kp:St→A→Prop}
theorem PB.mk {s1:St} {f:Fault} (hg:s1.gx s r) (h:PB s r Kp f):PB s1 r (DK Kp) f:=fun o=>h.at (eQ hg) (by rw[aJ,if_pos rfl])
theorem xX (deep:Nat) (sort:aD) (hr:s.getO r=some (bC T fin d first i n)) (hi:i≤T.length) (hT:TOk T) (hn:n≤2000)
  (hk:(nP fin first (decide (deep=60)) sort (T.drop i) n).to (PK T i (fun j m=>s.setO r (bC T fin d first j m)) (fun l=>.list none (l.map Tm.enc)) KV) (PB s r Kp)) :
  Den cx 242 [.ptr r 0,.int .i64 deep,.str sort] KV Kp s:=by
 (refine aZ func242 [0,1,2,6,7,8,11,17] ?_;simp only[go_sem,ntmps242,f242]);refine iZ _ hr hi hT ?_;cases hx:bI [124] (T.drop i) with
 | false =>
  simp only[nP,hx,bN,if_false,bU] at hk;simp only[go_sem];exact DK.mk (hk i (bE _) hi rfl hn) (lY hr) A.le.nil
 | true =>
  have hlt:=kY hx;simp only[nP,hx,if_true,mO] at hk;simp only[go_sem];have hr1:(s.setO r (bC T fin d first (i+1) n)).getO r=some (bC T fin d first (i+1) n):=by rw[aJ,if_pos rfl]
  refine kB hr1 hlt ?_;cases hw:T.drop (i+1) with
  | nil=>rw[hw] at hk;exact PB.at hk aQ hr1
  | cons t w =>
   rw[hw] at hk;obtain ⟨h1,h2,h3,h4⟩:=lI hw;simp only at hk;simp only[go_sem];(intro b hb;try simp only[aV,ne_eq] at hb);have hr2:((s.setO r (bC T fin d first (i+1) n)).setO b (.cells 60 t.cs)).getO r=some (bC T fin d first (i+1) n):=by rw[aJ,if_neg (Ne.symm hb.1.1),hr1]
   simp only[go_sem,hb];refine iC hr2 (Nat.le_of_lt h2) hT ?_;rw[hw];simp only[dS];cases hf:t.free with
   | false =>
    rw[hf] at hk;simp only[bN,if_false,eH] at hk ⊢;exact PB.mk aQ hk
   | true =>
    rw[hf] at hk;simp only[if_true,bU] at hk ⊢;intro hle hw2 _;simp only[go_sem];have ed:decide ((deep:Int)=60)=decide (deep=60):=by rw[lW];omega
    simp only[go_sem,ed];cases hd:decide (deep=60) with
    | true =>
     rw[hd] at hk;simp only[if_true,eH] at hk;simp only[go_sem,hb];exact PB.at (f:=⟨19,t.text,t.line,t.col⟩) hk aQ (by rw[aJ,if_pos rfl]<;>rfl)
    | false =>
     rw[hd] at hk;simp only[bN,if_false,bL] at hk;simp only[go_sem,hb];refine aH8 (T:=T) (fin:=fin) (d:=d) (first:=first) (i:=i+1+1) (n:=n) (by rw[aJ,if_pos rfl]<;>rfl) hn ?_;rw[hw2];refine aW hk (fun _ w2 n2 h=>?_) (fun f h=>PB.mk aQ h);intro e1 e2;subst e1;simp only[bU] at h;simp only[go_sem];refine DK.mk (h (i+1+1) (by omega) hle hw2 e2) (St.gx.ge aQ (by rw[aJ,if_pos rfl]<;>rfl)) ?_;exact A.le.list ⟨by simp only[List.map,bO,A.cells,qY,Tm.cs];exact ⟨⟨aK _,rfl⟩,⟨aK _,rfl⟩,⟨aK _,rfl⟩,⟨aK _,rfl⟩,⟨A.le.nil,rfl⟩,⟨A.le.nil,rfl⟩,trivial⟩,trivial⟩
end
end
section
def vV (T:List Tok) (fin:Fault) (r k:Nat):Prop:=∀ (s:St) (d:Dc) (first:Tok) (i n:Nat) (KV Kp:St→A→Prop),s.getO r=some (bC T fin d first i n)→i≤T.length→n≤2000 →
 (eE false fin first k (T.drop i) n).to (PK T (i+1) (fun j m=>s.setO r (bC T fin d first j m)) Tm.enc KV) (PB s r Kp)→Den cx 92 [.ptr r 0,.int .i64 ((61-k:Nat):Int)] KV Kp s
theorem Tm.hz (a:Tm):a.enc.cells.length=6:=by rw[bO];rfl
theorem Tm.ho (a:Tm):fZ a.enc.cells=true:=by rw[bO];rfl
theorem Tm.le_leaf (k n:Int) (x y:aD):A.le (.agg [.int .i64 k,.int .i64 n,.str x,.str y,.nils,.nils]) (Tm.enc (.mk k n x y [] [])):=by
 rw[bO];exact A.le.agg ⟨⟨aK _,rfl⟩,⟨aK _,rfl⟩,⟨aK _,rfl⟩,⟨aK _,rfl⟩,⟨A.le.nil,rfl⟩,⟨A.le.nil,rfl⟩,trivial⟩
section
variable {T:List Tok} {fin:Fault} {d:Dc} {first:Tok} {i n:Nat} {s:St} {r:Nat} {KV Kp:St→A→Prop}
theorem aLg (k:Nat) (hk60:k≤60) (IH:vV T fin r k) (b3 b5:Nat) (h3:s.getO b3=some (.cells 74 [.ptr r 0])) (h5:s.getO b5=some (.cells 3 [.int .i64 ((60-k:Nat):Int)]))
  (hr:s.getO r=some (bC T fin d first i n)) (hi:i≤T.length) (hn:n≤2000)
  (hk:(eE false fin first k (T.drop i) n).to (PK T (i+1) (fun j m=>s.setO r (bC T fin d first j m)) Tm.enc KV) (PB s r Kp)):Den cx 241 [.ptr b3 0,.ptr b5 0] KV Kp s:=by
 (refine aZ func241 [0,1,2] ?_;simp only[go_sem,ntmps241,f241]);(intro b hb;try simp only[aV,ne_eq] at hb);have e3:=cF h3 hb;have e5:=cF h5 hb;have er:=cF hr hb;have ed:IntKind.i64.wrap (((60-k:Nat):Int)+1)=((61-k:Nat):Int):=by rw[bP _ (by omega)];congr 1;omega
 simp only[go_sem,hb,e3,e5,h3,h5,ed];refine IH _ d first i n _ _ (by rw[aJ,if_neg er.2];exact hr) hi hn (aW hk (fun a w m h j hj hjT hw hm=>?_) (fun f h=>PB.mk aQ h))
 have h':=h j hj hjT hw hm;simp only at h';rw[bO] at h';simp only[go_sem,hb,er];exact aM h' (St.gx.ge aQ (by rw[aJ,if_neg er.2,aJ,if_pos rfl]<;>rfl))
end
end
section
def aEH (T:List Tok) (ln cl:Int) (r k:Nat):Prop:=∀ (s:St) (q:RQ T) (d:Dc) (KV Kp:St→A→Prop),s.getO r=some (aG ln cl q d) →
 KV (s.setO r (aG ln cl (cU (aC ln cl) k q).2 d)) (cU (aC ln cl) k q).1.enc→Den cx 95 [.ptr r 0,.int .i64 ((61-k:Nat):Int)] KV Kp s
section
variable {T:List Tok}
theorem pD {σ:Type} (x:aD) (body:σ→RQ T→σ × RQ T) (f:Nat) (a:σ) (q:RQ T):cK x body f false a q=(a,q):=by
 cases f<;>simp[cK]
theorem pB {σ:Type} (x:aD) (body:σ→RQ T→σ × RQ T) (f:Nat) (more:Bool) (a:σ) (q:RQ T) (h:q.ok=false):cK x body f more a q=(a,q):=by
 cases f<;>simp[cK,h]
theorem pF {σ:Type} (x:aD) (body:σ→RQ T→σ × RQ T) (f:Nat) (a:σ) (q:RQ T) (h:q.ok=true):cK x body (f+1) true a q=cK x body f (dQ x (body a q).2).1 (body a q).1 (dQ x (body a q).2).2:=by
 rw[cK,if_pos (by rw[h];rfl)]
theorem kV {x:aD} {q:RQ T} (h:(dQ x q).1=true):q.at_+1≤(dQ x q).2.at_:=by
 unfold dQ at h ⊢;split
 ·rename_i hc;have hlt:q.at_<T.length:=by simp only[aS,bT,eC] at hc;exact hc.2.1
  unfold RQ.inc;rw[dif_pos hlt];exact bE _
 ·rename_i hc;rw[if_neg hc] at h;cases h
end
def rA {T:List Tok} (ln cl:Int) (d:Dc) (b r:Nat) (kind:Int) (x:aD) (s:St) (tk:Option Nat) (l:List Tm) (q:RQ T):St :=
 gs ((s.setO b (.cells 43 [.int .i64 kind,.int .i64 0,.str x,.str [],gv tk (l.map Tm.enc),.nils])).setO r (aG ln cl q d)) tk l.length 43
section
variable {T:List Tok} {ln cl:Int} {q:RQ T} {d:Dc} {s:St} {r:Nat} {KV Kp:St→A→Prop}
theorem aLZ (hT:TOk T) (k:Nat) (hk60:k≤60) (IH:aEH T ln cl r k) (x:aD) (hr:s.getO r=some (aG ln cl q d))
  (hk:KV (s.setO r (aG ln cl (tL (aC ln cl) (cU (aC ln cl) k) x q).2 d)) (tL (aC ln cl) (cU (aC ln cl) k) x q).1.enc):Den cx 172 [.ptr r 0,.str x,.int .i64 ((60-k:Nat):Int)] KV Kp s:=by
 have hr2:=hr;simp only[go_sem] at hr2;have hlen:=hT.len;have ed:IntKind.i64.wrap (((60-k:Nat):Int)+1)=((61-k:Nat):Int):=by rw[bP _ (by omega)];congr 1;omega
 unfold tL at hk;(refine aZ func172 [0,1,2,6,7,8,10,33] ?_;simp only[go_sem,ntmps172,f172]);(intro b6 hb6;try simp only[aV,aT,ne_eq] at hb6);have e6:=cF hr (by first|exact hb6|exact hb6.2|exact hb6.2.2|exact hb6.2.2.2|exact hb6.2.2.2.2|exact hb6.2.2.2.2.2|exact hb6.2.2.2.2.2.2);simp only[go_sem,hr2,hb6,e6];refine oY _ gH ?_;cases h:aS 4 [58] q with
 | true =>
  have hlt:=lP h;rw[h,if_pos rfl] at hk;simp only at hk;simp only[go_sem,hr2,hb6,e6,bP q.at_ (by omega)];refine iW (ln:=ln) (cl:=cl) (q:=q.inc) (d:=d) hT (by simp only[aJ,e6,reduceIte];simp only[go_sem,RQ.inc_at hlt]) ?_;simp only[go_sem,hr2,hb6,e6];exact DK.mk hk aL (Tm.le_leaf _ _ _ _)
 | false =>
  rw[h] at hk;simp only[bN,if_false] at hk;simp only[go_sem,hr2,hb6,e6];refine dZ hT _ gH ?_;generalize aY (aC ln cl) 4 [40] q=q1 at hk ⊢;simp only[go_sem,hr2,hb6,e6];(intro b7 hb7;try simp only[aV,aT,ne_eq] at hb7);have e7:=cF hr (by first|exact hb7|exact hb7.2|exact hb7.2.2|exact hb7.2.2.2|exact hb7.2.2.2.2|exact hb7.2.2.2.2.2|exact hb7.2.2.2.2.2.2);simp only[go_sem,hr2,hb6,e6,hb7,e7];refine oY (q:=q1) (d:=d) _ gH ?_;simp only[go_sem,hr2,hb6,e6,hb7,e7]
  refine Ex.loop (ι:=(List Tm × Option Nat) × Bool × RQ T × Nat) (fun c=>[(0,.ptr r 0),(1,.str x),(2,.int .i64 ((60-k:Nat):Int)),(6,.ptr b6 0),(7,.ptr b7 0),(8,.bool c.2.1)])
   (fun c=>rA ln cl d b7 r 5 x (s.setO b6 (.cells 43 [.int .i64 0,.int .i64 0,.str [],.str [],.nils,.nils])) c.1.2 c.1.1 c.2.2.1)
   (fun c => (c.1.2 = none → c.1.1 = []) ∧ (∀ t,c.1.2 = some t → s.getT t = none) ∧ c.1.1.length ≤ c.2.2.1.at_ + 1 ∧ (c.2.1 = true → c.1.1.length ≤ c.2.2.1.at_ ∧ T.length - c.2.2.1.at_ < c.2.2.2) ∧
    (∀ p,p = cK [44] (fun (l : List Tm) q => (l ++ [(cU (aC ln cl) k { q with over := decide (8 ≤ l.length) }).1],(cU (aC ln cl) k { q with over := decide (8 ≤ l.length) }).2)) c.2.2.2 c.2.1 c.1.1 c.2.2.1 →
     KV (s.setO r (aG ln cl (aY (aC ln cl) 4 [41] p.2) d)) (Tm.enc (.mk 5 0 x [] p.1 []))))
   (fun c=>(T.length-c.2.2.1.at_) * 2+(if c.2.1=true then 1 else 0)) (([],none),!aS 4 [41] q1,q1,T.length+2) ?_ ?_ ?_ ?_
  ·exact ⟨fun _=>rfl,fun t e=>(by cases e),bS _,fun _=>⟨bS _,by simp only;omega⟩,fun p e=>by subst e;exact hk⟩
  ·simp only[go_sem,hr2,hb6,e6,hb7,e7]
  ·exact aL
  ·rintro ⟨⟨l,tk⟩,more,q,f⟩ ⟨hnil,hfree,hl,hm,hk⟩;simp only at hnil hfree hl hm hk;have hqle:=q.le;have hg:lS (rA ln cl d b7 r 5 x (s.setO b6 (.cells 43 [.int .i64 0,.int .i64 0,.str [],.str [],.nils,.nils])) tk l q) tk (l.map Tm.enc).length 43:=by rw[aI];exact fA fun e=>by rw[hnil e];rfl
   refine bV (V:=[0,1,2,6,7,8,10,33]) _ _ _ _ ?_;unfold rA;cases more with
   | false =>
    have hk:=hk _ rfl;rw[pD] at hk;simp only[go_sem,e6,hb6,hb7];refine dZ (ln:=ln) (cl:=cl) (q:=q) (d:=d) hT _ gH ?_;simp only[go_sem,e6,hb6,hb7];refine ⟨lM _ _,?_⟩;refine DK.mk hk aL ?_;rw[bO];exact A.le.agg ⟨⟨aK _,rfl⟩,⟨aK _,rfl⟩,⟨aK _,rfl⟩,⟨aK _,rfl⟩,⟨fN tk _ (fun e=>by rw[hnil e];rfl),rfl⟩,⟨A.le.nil,rfl⟩,trivial⟩
   | true =>
    simp only[go_sem,e6,hb6,hb7];refine iJ (ln:=ln) (cl:=cl) (q:=q) (d:=d) gH ?_;cases ho:q.ok with
    | false =>
     have hk:=hk _ rfl;rw[pB _ _ _ _ _ _ ho] at hk;simp only[go_sem,e6,hb6,hb7];refine dZ (ln:=ln) (cl:=cl) (q:=q) (d:=d) hT _ gH ?_;simp only[go_sem,e6,hb6,hb7];refine ⟨lM _ _,?_⟩;refine DK.mk hk aL ?_;rw[bO];exact A.le.agg ⟨⟨aK _,rfl⟩,⟨aK _,rfl⟩,⟨aK _,rfl⟩,⟨aK _,rfl⟩,⟨fN tk _ (fun e=>by rw[hnil e];rfl),rfl⟩,⟨A.le.nil,rfl⟩,trivial⟩
    | true =>
     obtain ⟨hl2,hf⟩:=hm rfl;obtain ⟨f,rfl⟩:∃ f',f=f'+1:=⟨f-1,by omega⟩
     have e8:decide ((8:Int)≤(l.length:Int))=decide (8≤l.length):=by rw[lW];omega
     simp only[go_sem,e6,hb6,hb7,gV hg,e8];(refine aP (OT.r 0 10) [(5,[1])] ?_;simp only[go_sem,e6,hb6,hb7,ed]);refine IH _ { q with over:=decide (8≤l.length) } d _ _ gH ?_;have hmono:=qM (fin:=aC ln cl) k { q with over:=decide (8≤l.length) };have hk:=hk _ rfl;rw[pF _ _ _ _ _ ho] at hk;generalize cU (aC ln cl) k { q with over:=decide (8≤l.length) }=p at hk hmono ⊢;simp only at hk hmono;have hple:=p.2.le;simp only[go_sem,e6,hb6,hb7,bO];refine ⟨by decide,fun y hy=>by simp only[cE] at hy;subst hy;rfl,cW rfl rfl (by rw[aI];exact fA fun e=>by rw[hnil e];rfl) (fun y hy=>?_) (by simp only[aI,aF,aH];omega) (fun u hu=>?_)⟩
     ·simp only[bW] at hy;obtain ⟨z,_,rfl⟩:=hy;exact Tm.hz z
     have hfu:=kC hu hfree;rw[gY hu];simp only[go_sem,e6,hb6,hb7];refine nG (ln:=ln) (cl:=cl) (q:=p.2) (d:=d) hT gH ?_;have hc:=gF [44] p.2;have hc2:=kV (x:=[44]) (q:=p.2);generalize dQ [44] p.2=c at hk hc hc2 ⊢;have hcle:=c.2.le;simp only[go_sem,e6,hb6,hb7];refine ⟨((l++[p.1],some u),c.1,c.2,f),⟨fun e=>(by cases e),fun t e=>by cases e;exact hfu,by simp only[aR,aF,aH];omega,fun e=>⟨by have:=hc2 e;simp only[aR,aF,aH];omega,by have:=hc2 e;simp only;omega⟩,fun p' e=>by subst e;(first|exact hk|(simp only[go_sem] at hk;exact hk)|(simp only[go_sem] at hk;simp only[go_sem];exact hk))⟩,?_,rfl,?_⟩
     ·simp only;split
      ·rename_i e;have:=hc2 e;omega
      ·omega
     ·simp only[cL,cM,bK,bQ,aR,aF,aH,bO,Tm.cs];exact aL
end
end
end Go.AV
