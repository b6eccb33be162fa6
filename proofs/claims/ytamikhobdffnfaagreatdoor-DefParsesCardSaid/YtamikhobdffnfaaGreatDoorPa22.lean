/-
  Of DefParses.
-/
import Derived.Test.YtamikhobdffnfaaGreatDoorPa21
set_option linter.all false
set_option maxRecDepth 99999
set_option maxHeartbeats 0
namespace Go.AV
open Go Go.Proofs Tryz
theorem aDA (s:St) (c:Int) (KV Kp) (hk:KV s (.bool (gJ c))):Den cx 189 [.int .u8 c] KV Kp s:=by
 unfold gJ at hk;(refine aZ func189 [0,2] ?_;simp only[go_sem,ntmps189,f189])
 (repeat' (first|exact aM hk dA|((refine cD (fun h=>?_) (fun h=>?_))<;>simp only[go_sem,h]<;>(try simp only[h,dY,cQ,fK,cZ,iX,fO,iI,eD,dT,fD] at hk))))
theorem aBc (s:St) (c:Int) (KV Kp) (hk:KV s (.bool (fB c))):Den cx 193 [.int .u8 c] KV Kp s:=by
 unfold fB at hk;(refine aZ func193 [0,2] ?_;simp only[go_sem,ntmps193,f193])
 (repeat' (first|exact aM hk dA|((refine cD (fun h=>?_) (fun h=>?_))<;>simp only[go_sem,h]<;>(try simp only[h,dY,cQ,fK,cZ,iX,fO,iI,eD,dT,fD] at hk))))
theorem aAg (c:Int):dU c=(gJ c||(fB c||decide (c=95))):=rfl
theorem aKM (s:St) (x:List UInt8) (KV Kp) (hx:x.length≤4294967296) (hk:KV s (.bool (gZ x))):Den cx 117 [.str x] KV Kp s:=by
 (refine aZ func117 [0,2,3,5,6,7,30] ?_;simp only[go_sem,ntmps117,f117])
 refine Ex.loop (fun i=>[(0,.str x),(5,.int .i64 x.length),(6,.int .i64 (i:Nat))]) (fun _=>s)
  (fun i=>i≤x.length∧(∀ d∈x.take i,dU d.toNat=true)∧(∀ c,0<i→x[0]?=some c→gJ c.toNat=true)) (fun i=>x.length-i) 0 ⟨bS _,by simp,fun _ h=>by omega⟩ ?_ (bA s) ?_
 ·simp only[go_sem];rfl
 ·rintro i ⟨hi,hall,hfst⟩;refine bV (V:=[0,2,3,5,6,7,30]) _ _ _ _ ?_;simp only[go_sem];by_cases hix:i<x.length
  ·have dl:decide (i<x.length)=true:=by simpa using hix
   obtain ⟨d,hd⟩:∃ d,x[i]?=some d:=⟨_,cH hix⟩
   have h0:(0:Int)≤(i:Int):=by omega
   simp only[go_sem,dl,hd,hix,h0];refine aDA _ _ _ _ ?_;simp only[go_sem,dl,hd,hix,h0]
   have next:dU d.toNat=true→(i=0→gJ d.toNat=true)→∃ j,((j≤x.length∧(∀ d∈x.take j,dU d.toNat=true)∧(∀ c,0<j→x[0]?=some c→gJ c.toNat=true))∧x.length-j<x.length-i)∧j=i+1:=by
    intro hp hz;refine ⟨i+1,⟨⟨by omega,?_,?_⟩,by omega⟩,rfl⟩
    ·intro z hz;rw[sJ,hd] at hz;simp only[kR,Option.toList_some,cE] at hz;rcases hz with hz|rfl
     ·exact hall z hz
     ·exact hp
    ·intro c _ hc;by_cases hi0:i=0
     ·subst hi0;rw[hd] at hc;cases hc;exact hz rfl
     ·exact hfst c (by omega) hc
   have bad:(dU d.toNat=false∨i=0∧gJ d.toNat=false)→gZ x=false:=by
    intro hb;cases x with
    | nil=>rfl
    | cons c r =>
     simp only[gZ,Bool.and_eq_false_iff];rcases hb with hp|⟨rfl,hl⟩
     ·refine .inr (.inr (vF.2 fun hall=>?_));rw[iV] at hall;have:=hall d (fJ hd);rw[hp] at this;cases this
     ·have:d=c:=by simpa using hd.symm
      subst this;exact .inr (.inl hl)
   have ew:=bP i (by omega);have di:decide ((i:Int)=0)=decide (i=0):=by rw[lW];omega
   cases c1:gJ d.toNat with
   | true =>
    simp only[go_sem,c1,ew];obtain ⟨j,⟨h1,h2⟩,rfl⟩:=next (by rw[aAg,c1];rfl) (fun _=>c1);exact ⟨i+1,h1,h2,rfl,bA s⟩
   | false =>
    simp only[go_sem,c1,di];cases c2:decide (i=0) with
    | true =>
     simp only[go_sem,c1,c2];rw[bad (.inr ⟨by simpa using c2,c1⟩)] at hk;exact aO hk
    | false =>
     simp only[go_sem,c1,c2,hd,hix,h0];refine aBc _ _ _ _ ?_;simp only[go_sem,c1,c2,hd,hix,h0];cases c3:fB d.toNat with
     | true =>
      simp only[go_sem,c3,ew];obtain ⟨j,⟨h1,h2⟩,rfl⟩:=next (by rw[aAg,c1,c3];rfl) (fun e=>by simp[e] at c2);exact ⟨i+1,h1,h2,rfl,bA s⟩
     | false =>
      simp only[go_sem,c3,hd,hix,h0];cases c4:decide ((d.toNat:Int)=95) with
      | true =>
       simp only[go_sem,c4,ew];obtain ⟨j,⟨h1,h2⟩,rfl⟩:=next (by rw[aAg,c1,c3,c4];rfl) (fun e=>by simp[e] at c2);exact ⟨i+1,h1,h2,rfl,bA s⟩
      | false =>
       simp only[go_sem,c4];rw[bad (.inl (by rw[aAg,c1,c3,c4];rfl))] at hk;exact aO hk
  ·have dl:decide (i<x.length)=false:=by simpa using hix
   have hix:i=x.length:=by omega
   rw[hix,List.take_length] at hall;rw[hix] at hfst;simp only[go_sem,dl];cases hz:decide ((1:Int)≤(x.length:Int)) with
   | false =>
    have:x=[]:=gR (by simp at hz;omega);simp only[go_sem,hz];rw[show gZ x=false by rw[this];rfl] at hk;exact aO hk
   | true =>
    obtain ⟨c,r,hcr⟩:∃ c r,x=c::r:=by
     cases x with
     | nil=>simp at hz
     | cons c r=>exact ⟨c,r,rfl⟩
    have hl:=hfst c (by simp at hz;omega) (by rw[hcr];rfl)
    have he:gZ x=decide ((x.length:Int)≤40):=by
     have e1:gZ x=decide (x.length≤40):=by
      rw[hcr] at hall ⊢;simp only[gZ,hl,dY];rw[iV.2 hall,fK]
     rw[e1,lW];omega
    rw[he] at hk;simp only[go_sem,hz];exact aO hk
theorem aLy (s:St) (x:aD) (KV Kp) (hx:x.length≤4294967296) (hk:KV s (.bool (mW x))):Den cx 245 [.str x] KV Kp s:=by
 (refine aZ func245 [0,2] ?_;simp only[go_sem,ntmps245,f245]);refine aKM _ _ _ _ hx ?_;simp only[go_sem];cases hn:gZ x with
 | false =>
  simp only[go_sem];rw[show mW x=false by simp[mW,hn]] at hk;exact aO hk
 | true =>
  cases x with
  | nil=>simp[gZ] at hn
  | cons c r =>
   have e97:decide ((97:Int)≤(c.toNat:Int))=decide (97≤c.toNat):=by rw[lW];omega
   have e122:decide ((c.toNat:Int)≤122)=decide (c.toNat≤122):=by rw[lW];omega
   rw[show mW (c::r)=((decide (97≤c.toNat)&&decide (c.toNat≤122))&&!decide (c::r=[116,114,117,101])&&!decide (c::r=[102,97,108,115,101])) by simp[mW,hn]] at hk;cases h1:decide (97≤c.toNat)<;>cases h2:decide (c.toNat≤122)<;>cases h3:decide (c::r=[116,114,117,101])<;>cases h4:decide (c::r=[102,97,108,115,101])<;>simp only[go_sem,e97,e122,h1,h2,h3,h4]
   all_goals (rw[h1,h2,h3,h4] at hk;exact aO hk)
section
section
variable {T:List Tok} {ln cl:Int} {q:RQ T} {d:Dc} {s:St} {r:Nat} {KV Kp:St→A→Prop}
theorem aLd (hT:TOk T) (k:Nat) (hk60:k≤60) (hlen2:T.length≤2147483640) (IH:aEH T ln cl r k) (t:Tok) (ht:t∈T) (hr:s.getO r=some (aG ln cl q d))
  (hk:KV (s.setO r (aG ln cl (tB (aC ln cl) (cU (aC ln cl) k) t (60-k) q).2 d)) (tB (aC ln cl) (cU (aC ln cl) k) t (60-k) q).1.enc):Den cx 173 [.ptr r 0,t.enc,.int .i64 ((60-k:Nat):Int)] KV Kp s:=by
 have hr2:=hr;simp only[go_sem] at hr2;have hlen:=hT.len;have ed:IntKind.i64.wrap (((60-k:Nat):Int)+1)=((61-k:Nat):Int):=by rw[bP _ (by omega)];congr 1;omega
 unfold tB at hk;simp only[go_sem];(refine aZ func173 [0,1,2,4,6,7,8,9,10,12,13,50,79,98,109,115,130,162] ?_;simp only[go_sem,ntmps173,f173]);(intro b4 hb4;try simp only[aV,aT,ne_eq] at hb4);have e4:=cF hr (by first|exact hb4|exact hb4.2|exact hb4.2.2|exact hb4.2.2.2|exact hb4.2.2.2.2|exact hb4.2.2.2.2.2|exact hb4.2.2.2.2.2.2);simp only[go_sem,hr2,hb4,e4];(intro b6 hb6;try simp only[aV,aT,ne_eq] at hb6);have e6:=cF hr (by first|exact hb6|exact hb6.2|exact hb6.2.2|exact hb6.2.2.2|exact hb6.2.2.2.2|exact hb6.2.2.2.2.2|exact hb6.2.2.2.2.2.2);simp only[go_sem,hr2,hb4,e4,hb6,e6];cases c1:decide (t.text=[45]);rotate_left
 ·
  rw[if_pos (by simpa using c1)] at hk;simp only[go_sem,hr2,hb4,e4,hb6,e6,c1];(refine aP (OT.r 0 36) [(1,[7,11,14,16,23,27,30,32])] ?_;simp only[go_sem,hr2,hb4,e4,hb6,e6]);refine sQ (ln:=ln) (cl:=cl) (q:=q) (d:=d) 2 gH ?_;cases h1:fS 2 q with
  | false =>
   rw[h1] at hk;simp only[cQ,bN,if_false] at hk;simp only[go_sem,hr2,hb4,e4,hb6,e6];refine kU (ln:=ln) (cl:=cl) (q:=q) (d:=d) hT 11 q.at_ true gH ?_;simp only[go_sem,hr2,hb4,e4,hb6,e6];simp only[go_sem] at hk;exact DK.mk hk aL (Tm.le_leaf _ _ _ _)
  | true =>
   have hlt:=aEG h1;have hg:=RQ.get hlt;rw[h1,dY] at hk;have h0:(0:Int)≤(q.at_:Int):=by omega
   simp only[go_sem,hr2,hb4,e4,hb6,e6,hg,hlt,h0];cases h2:decide (q.tok.line=t.line) with
   | false =>
    rw[h2] at hk;simp only[cQ,bN,if_false] at hk;simp only[go_sem,hr2,hb4,e4,hb6,e6,h2];refine kU (ln:=ln) (cl:=cl) (q:=q) (d:=d) hT 11 q.at_ true gH ?_;simp only[go_sem,hr2,hb4,e4,hb6,e6];simp only[go_sem] at hk;exact DK.mk hk aL (Tm.le_leaf _ _ _ _)
   | true =>
    rw[h2,dY] at hk;simp only[go_sem,hr2,hb4,e4,hb6,e6,h2,hg,hlt,h0];cases h3:decide (q.tok.col=IntKind.i64.wrap (t.col+1)) with
    | false =>
     rw[h3] at hk;simp only[bN,if_false] at hk;simp only[go_sem,hr2,hb4,e4,hb6,e6,h3];refine kU (ln:=ln) (cl:=cl) (q:=q) (d:=d) hT 11 q.at_ true gH ?_;simp only[go_sem,hr2,hb4,e4,hb6,e6];simp only[go_sem] at hk;exact DK.mk hk aL (Tm.le_leaf _ _ _ _)
    | true =>
     rw[h3,if_pos rfl,xS hlt] at hk;have em:IntKind.i64.wrap (((q.at_+1:Nat):Int)-1)=(q.at_:Int):=by rw[eX _ (by omega) (by omega)];omega
     simp only[go_sem,hr2,hb4,e4,hb6,e6,h3,bP q.at_ (by omega)];(refine aP (OT.r 0 15) [] ?_;simp only[go_sem,hr2,hb4,e4,hb6,e6,em,hg,hlt,h0,Int.toNat_natCast,Option.map]);exact DK.mk hk aL (Tm.le_leaf _ _ _ _)
 rw[if_neg (by simpa using c1)] at hk;simp only[go_sem,hr2,hb4,e4,hb6,e6,c1];cases c2:decide (t.text=[39]);rotate_left
 ·
  rw[if_pos (by simpa using c2)] at hk;simp only[go_sem,hr2,hb4,e4,hb6,e6,c2];(refine aP (OT.r 0 18) [(1,[7,11,14])] ?_;simp only[go_sem,hr2,hb4,e4,hb6,e6]);refine uC (ln:=ln) (cl:=cl) (q:=q) (d:=d) gH ?_;cases h1:cN q with
  | false =>
   rw[h1] at hk;simp only[cQ,bN,if_false] at hk;simp only[go_sem,hr2,hb4,e4,hb6,e6];refine kU (ln:=ln) (cl:=cl) (q:=q) (d:=d) hT 11 q.at_ true gH ?_;simp only[go_sem,hr2,hb4,e4,hb6,e6];simp only[go_sem] at hk;exact DK.mk hk aL (Tm.le_leaf _ _ _ _)
  | true =>
   have hlt:=aAf h1;have hg:=RQ.get hlt;have h0:(0:Int)≤(q.at_:Int):=by omega
   rw[h1,dY] at hk;simp only[go_sem,hr2,hb4,e4,hb6,e6,hg,hlt,h0];refine aLy _ q.tok.text _ _ (hT.txt _ (RQ.mem hlt)) ?_;simp only[go_sem,hr2,hb4,e4,hb6,e6];cases h2:mW q.tok.text with
   | false =>
    rw[h2] at hk;simp only[bN,if_false] at hk;simp only[go_sem,hr2,hb4,e4,hb6,e6];refine kU (ln:=ln) (cl:=cl) (q:=q) (d:=d) hT 11 q.at_ true gH ?_;simp only[go_sem,hr2,hb4,e4,hb6,e6];simp only[go_sem] at hk;exact DK.mk hk aL (Tm.le_leaf _ _ _ _)
   | true =>
    rw[h2,if_pos rfl] at hk;simp only at hk;simp only[go_sem,hr2,hb4,e4,hb6,e6];refine iW (ln:=ln) (cl:=cl) (q:=q) (d:=d) hT gH ?_;simp only[go_sem,hr2,hb4,e4,hb6,e6];simp only[go_sem] at hk;exact DK.mk hk aL (Tm.le_leaf _ _ _ _)
 rw[if_neg (by simpa using c2)] at hk;simp only[go_sem,hr2,hb4,e4,hb6,e6,c2];cases c3:decide (t.text=[95]);rotate_left
 ·rw[if_pos (.inl (by simpa using c3))] at hk;simp only[go_sem,hr2,hb4,e4,hb6,e6,c3];exact DK.mk hk aL (Tm.le_leaf _ _ _ _)
 simp only[go_sem,hr2,hb4,e4,hb6,e6,c3];cases c4:decide (t.text=[36]);rotate_left
 ·rw[if_pos (.inr (by simpa using c4))] at hk;simp only[go_sem,hr2,hb4,e4,hb6,e6,c4];exact DK.mk hk aL (Tm.le_leaf _ _ _ _)
 rw[if_neg (by simp at c3 c4;rintro (h|h);exact c3 h;exact c4 h)] at hk;simp only[go_sem,hr2,hb4,e4,hb6,e6,c4];cases c5:decide (t.text=[91]);rotate_left
 ·
  rw[if_pos (by simpa using c5)] at hk;simp only at hk;simp only[go_sem,hr2,hb4,e4,hb6,e6,c5];(intro b7 hb7;try simp only[aV,aT,ne_eq] at hb7);have e7:=cF hr (by first|exact hb7|exact hb7.2|exact hb7.2.2|exact hb7.2.2.2|exact hb7.2.2.2.2|exact hb7.2.2.2.2.2|exact hb7.2.2.2.2.2.2);simp only[go_sem,hr2,hb4,e4,hb6,e6,hb7,e7];refine oY (ln:=ln) (cl:=cl) (q:=q) (d:=d) _ gH ?_;cases hA:aS 4 [93] q
  ·rw [hA,fD,dY] at hk;simp only [go_sem,hr2,hb4,e4,hb6,e6,hb7,e7];refine oY (ln := ln) (cl := cl) (q := q) (d := d) _ gH ?_;simp only [go_sem,hr2,hb4,e4,hb6,e6,hb7,e7];generalize (!aS 4 [124] q) = m at hk ⊢
   refine Ex.loop (ι:=(List Tm × Option Nat) × Bool × RQ T × Nat) (fun c=>[(0,.ptr r 0),(2,.int .i64 ((60-k:Nat):Int)),(6,.ptr b6 0),(7,.ptr b7 0),(8,.bool c.2.1)])
    (fun c=>rA ln cl d b7 r 7 [] ((s.setO b4 (.cells 60 t.cs)).setO b6 (.cells 43 [.int .i64 0,.int .i64 0,.str [],.str [],.nils,.nils])) c.1.2 c.1.1 c.2.2.1)
    (fun c => (c.1.2 = none → c.1.1 = []) ∧ (∀ t,c.1.2 = some t → s.getT t = none) ∧ c.1.1.length ≤ c.2.2.1.at_ + 1 ∧ (c.2.1 = true → c.1.1.length ≤ c.2.2.1.at_ ∧ T.length - c.2.2.1.at_ < c.2.2.2) ∧
     (∀ p,p = cK [44] (fun (l : List Tm) q => (l ++ [(cU (aC ln cl) k q).1],(cU (aC ln cl) k q).2)) c.2.2.2 c.2.1 c.1.1 c.2.2.1 →
      KV (s.setO r (aG ln cl (aY (aC ln cl) 4 [93] (fR (aC ln cl) [76,105,115,116] (60-k) p.2).2) d)) (Tm.enc (.mk 7 0 [] [] p.1 (fR (aC ln cl) [76,105,115,116] (60-k) p.2).1))))
    (fun c=>(T.length-c.2.2.1.at_) * 2+(if c.2.1=true then 1 else 0)) (([],none),m,q,T.length+2) ?_ ?_ ?_ ?_
   ·exact ⟨fun _=>rfl,fun t e=>(by cases e),bS _,fun _=>⟨bS _,by simp only;omega⟩,fun p e=>by subst e;exact hk⟩
   ·simp only[go_sem,hr2,hb4,e4,hb6,e6,hb7,e7]
   ·exact aL
   ·rintro ⟨⟨l,tk⟩,more,q,f⟩ ⟨hnil,hfree,hl,hm,hk⟩;simp only at hnil hfree hl hm hk;have hqle:=q.le;refine bV (V:=[0,1,2,4,6,7,8,9,10,12,13,50,79,98,109,115,130,162]) _ _ _ _ ?_;unfold rA;cases more with
    | false =>
     have hk:=hk _ rfl;rw[pD] at hk;simp only at hk;simp only[go_sem,e4,e6,e7,hb4,hb6,hb7];refine uG (ln:=ln) (cl:=cl) (q:=q) (d:=d) hT [76,105,115,116] (60-k) (by omega) gH ?_;generalize fR (aC ln cl) [76,105,115,116] (60-k) q=u at hk ⊢;simp only[go_sem,e4,e6,e7,hb4,hb6,hb7];refine dZ (ln:=ln) (cl:=cl) (q:=u.2) (d:=d) hT _ gH ?_;simp only[go_sem,e4,e6,e7,hb4,hb6,hb7];refine ⟨lM _ _,?_⟩;simp only[go_sem] at hk;refine DK.mk hk aL ?_;exact A.le.agg ⟨⟨aK _,rfl⟩,⟨aK _,rfl⟩,⟨aK _,rfl⟩,⟨aK _,rfl⟩,⟨fN tk _ (fun e=>by rw[hnil e];rfl),rfl⟩,⟨aK _,rfl⟩,trivial⟩
    | true =>
     simp only[go_sem,e4,e6,e7,hb4,hb6,hb7];refine iJ (ln:=ln) (cl:=cl) (q:=q) (d:=d) gH ?_;cases ho:q.ok with
     | false =>
      have hk:=hk _ rfl;rw[pB _ _ _ _ _ _ ho] at hk;simp only at hk;simp only[go_sem,e4,e6,e7,hb4,hb6,hb7];refine uG (ln:=ln) (cl:=cl) (q:=q) (d:=d) hT [76,105,115,116] (60-k) (by omega) gH ?_;generalize fR (aC ln cl) [76,105,115,116] (60-k) q=u at hk ⊢;simp only[go_sem,e4,e6,e7,hb4,hb6,hb7];refine dZ (ln:=ln) (cl:=cl) (q:=u.2) (d:=d) hT _ gH ?_;simp only[go_sem,e4,e6,e7,hb4,hb6,hb7];refine ⟨lM _ _,?_⟩;simp only[go_sem] at hk;refine DK.mk hk aL ?_;exact A.le.agg ⟨⟨aK _,rfl⟩,⟨aK _,rfl⟩,⟨aK _,rfl⟩,⟨aK _,rfl⟩,⟨fN tk _ (fun e=>by rw[hnil e];rfl),rfl⟩,⟨aK _,rfl⟩,trivial⟩
     | true =>
      obtain ⟨hl2,hf⟩:=hm rfl;obtain ⟨f,rfl⟩:∃ f',f=f'+1:=⟨f-1,by omega⟩
      simp only[go_sem,e4,e6,e7,hb4,hb6,hb7];(refine aP (OT.r 0 10) [(5,[1])] ?_;simp only[go_sem,e4,e6,e7,hb4,hb6,hb7,ed]);refine IH _ q d _ _ gH ?_;have hmono:=qM (fin:=aC ln cl) k q;have hk:=hk _ rfl;rw[pF _ _ _ _ _ ho] at hk;simp only at hk;generalize cU (aC ln cl) k q=p at hk hmono ⊢;have hple:=p.2.le;simp only[go_sem,e4,e6,e7,hb4,hb6,hb7,bO];refine ⟨by decide,fun y hy=>by simp only[cE] at hy;subst hy;rfl,cW rfl rfl (by rw[aI];exact fA fun e=>by rw[hnil e];rfl) (fun y hy=>?_) (by simp only[aI,aF,aH];omega) (fun u hu=>?_)⟩
      ·simp only[bW] at hy;obtain ⟨z,_,rfl⟩:=hy;exact Tm.hz z
      have hfu:=kC hu hfree;rw[gY hu];simp only[go_sem,e4,e6,e7,hb4,hb6,hb7];refine nG (ln:=ln) (cl:=cl) (q:=p.2) (d:=d) hT gH ?_;have hc:=gF [44] p.2;have hc2:=kV (x:=[44]) (q:=p.2);generalize dQ [44] p.2=c at hk hc hc2 ⊢;have hcle:=c.2.le;simp only[go_sem,e4,e6,e7,hb4,hb6,hb7];refine ⟨((l++[p.1],some u),c.1,c.2,f),⟨fun e=>(by cases e),fun t e=>by cases e;exact hfu,by simp only[aR,aF,aH];omega,fun e=>⟨by have:=hc2 e;simp only[aR,aF,aH];omega,by have:=hc2 e;simp only;omega⟩,fun p' e=>by subst e;(first|exact hk|(simp only[go_sem] at hk;exact hk)|(simp only[go_sem] at hk;simp only[go_sem];exact hk))⟩,?_,rfl,?_⟩
      ·simp only;split
       ·rename_i e;have:=hc2 e;omega
       ·omega
      ·simp only[cL,cM,bK,bQ,aR,aF,aH,bO,Tm.cs];exact aL
  ·rw [hA,dT,cQ] at hk;simp only [go_sem,hr2,e4,e6,hb4,hb6,hb7,e7]
   refine Ex.loop (ι:=(List Tm × Option Nat) × Bool × RQ T × Nat) (fun c=>[(0,.ptr r 0),(2,.int .i64 ((60-k:Nat):Int)),(6,.ptr b6 0),(7,.ptr b7 0),(8,.bool c.2.1)])
    (fun c=>rA ln cl d b7 r 7 [] ((s.setO b4 (.cells 60 t.cs)).setO b6 (.cells 43 [.int .i64 0,.int .i64 0,.str [],.str [],.nils,.nils])) c.1.2 c.1.1 c.2.2.1)
    (fun c => (c.1.2 = none → c.1.1 = []) ∧ (∀ t,c.1.2 = some t → s.getT t = none) ∧ c.1.1.length ≤ c.2.2.1.at_ + 1 ∧ (c.2.1 = true → c.1.1.length ≤ c.2.2.1.at_ ∧ T.length - c.2.2.1.at_ < c.2.2.2) ∧
     (∀ p,p = cK [44] (fun (l : List Tm) q => (l ++ [(cU (aC ln cl) k q).1],(cU (aC ln cl) k q).2)) c.2.2.2 c.2.1 c.1.1 c.2.2.1 →
      KV (s.setO r (aG ln cl (aY (aC ln cl) 4 [93] (fR (aC ln cl) [76,105,115,116] (60-k) p.2).2) d)) (Tm.enc (.mk 7 0 [] [] p.1 (fR (aC ln cl) [76,105,115,116] (60-k) p.2).1))))
    (fun c=>(T.length-c.2.2.1.at_) * 2+(if c.2.1=true then 1 else 0)) (([],none),false,q,T.length+2) ?_ ?_ ?_ ?_
   ·exact ⟨fun _=>rfl,fun t e=>(by cases e),bS _,fun _=>⟨bS _,by simp only;omega⟩,fun p e=>by subst e;exact hk⟩
   ·simp only[go_sem,hr2,e4,e6,hb4,hb6,hb7,e7]
   ·exact aL
   ·rintro ⟨⟨l,tk⟩,more,q,f⟩ ⟨hnil,hfree,hl,hm,hk⟩;simp only at hnil hfree hl hm hk;have hqle:=q.le;refine bV (V:=[0,1,2,4,6,7,8,9,10,12,13,50,79,98,109,115,130,162]) _ _ _ _ ?_;unfold rA;cases more with
    | false =>
     have hk:=hk _ rfl;rw[pD] at hk;simp only at hk;simp only[go_sem,e4,e6,e7,hb4,hb6,hb7];refine uG (ln:=ln) (cl:=cl) (q:=q) (d:=d) hT [76,105,115,116] (60-k) (by omega) gH ?_;generalize fR (aC ln cl) [76,105,115,116] (60-k) q=u at hk ⊢;simp only[go_sem,e4,e6,e7,hb4,hb6,hb7];refine dZ (ln:=ln) (cl:=cl) (q:=u.2) (d:=d) hT _ gH ?_;simp only[go_sem,e4,e6,e7,hb4,hb6,hb7];refine ⟨lM _ _,?_⟩;simp only[go_sem] at hk;refine DK.mk hk aL ?_;exact A.le.agg ⟨⟨aK _,rfl⟩,⟨aK _,rfl⟩,⟨aK _,rfl⟩,⟨aK _,rfl⟩,⟨fN tk _ (fun e=>by rw[hnil e];rfl),rfl⟩,⟨aK _,rfl⟩,trivial⟩
    | true =>
     simp only[go_sem,e4,e6,e7,hb4,hb6,hb7];refine iJ (ln:=ln) (cl:=cl) (q:=q) (d:=d) gH ?_;cases ho:q.ok with
     | false =>
      have hk:=hk _ rfl;rw[pB _ _ _ _ _ _ ho] at hk;simp only at hk;simp only[go_sem,e4,e6,e7,hb4,hb6,hb7];refine uG (ln:=ln) (cl:=cl) (q:=q) (d:=d) hT [76,105,115,116] (60-k) (by omega) gH ?_;generalize fR (aC ln cl) [76,105,115,116] (60-k) q=u at hk ⊢;simp only[go_sem,e4,e6,e7,hb4,hb6,hb7];refine dZ (ln:=ln) (cl:=cl) (q:=u.2) (d:=d) hT _ gH ?_;simp only[go_sem,e4,e6,e7,hb4,hb6,hb7];refine ⟨lM _ _,?_⟩;simp only[go_sem] at hk;refine DK.mk hk aL ?_;exact A.le.agg ⟨⟨aK _,rfl⟩,⟨aK _,rfl⟩,⟨aK _,rfl⟩,⟨aK _,rfl⟩,⟨fN tk _ (fun e=>by rw[hnil e];rfl),rfl⟩,⟨aK _,rfl⟩,trivial⟩
     | true =>
      obtain ⟨hl2,hf⟩:=hm rfl;obtain ⟨f,rfl⟩:∃ f',f=f'+1:=⟨f-1,by omega⟩
      simp only[go_sem,e4,e6,e7,hb4,hb6,hb7];(refine aP (OT.r 0 10) [(5,[1])] ?_;simp only[go_sem,e4,e6,e7,hb4,hb6,hb7,ed]);refine IH _ q d _ _ gH ?_;have hmono:=qM (fin:=aC ln cl) k q;have hk:=hk _ rfl;rw[pF _ _ _ _ _ ho] at hk;simp only at hk;generalize cU (aC ln cl) k q=p at hk hmono ⊢;have hple:=p.2.le;simp only[go_sem,e4,e6,e7,hb4,hb6,hb7,bO];refine ⟨by decide,fun y hy=>by simp only[cE] at hy;subst hy;rfl,cW rfl rfl (by rw[aI];exact fA fun e=>by rw[hnil e];rfl) (fun y hy=>?_) (by simp only[aI,aF,aH];omega) (fun u hu=>?_)⟩
      ·simp only[bW] at hy;obtain ⟨z,_,rfl⟩:=hy;exact Tm.hz z
      have hfu:=kC hu hfree;rw[gY hu];simp only[go_sem,e4,e6,e7,hb4,hb6,hb7];refine nG (ln:=ln) (cl:=cl) (q:=p.2) (d:=d) hT gH ?_;have hc:=gF [44] p.2;have hc2:=kV (x:=[44]) (q:=p.2);generalize dQ [44] p.2=c at hk hc hc2 ⊢;have hcle:=c.2.le;simp only[go_sem,e4,e6,e7,hb4,hb6,hb7];refine ⟨((l++[p.1],some u),c.1,c.2,f),⟨fun e=>(by cases e),fun t e=>by cases e;exact hfu,by simp only[aR,aF,aH];omega,fun e=>⟨by have:=hc2 e;simp only[aR,aF,aH];omega,by have:=hc2 e;simp only;omega⟩,fun p' e=>by subst e;(first|exact hk|(simp only[go_sem] at hk;exact hk)|(simp only[go_sem] at hk;simp only[go_sem];exact hk))⟩,?_,rfl,?_⟩
      ·simp only;split
       ·rename_i e;have:=hc2 e;omega
       ·omega
      ·simp only[cL,cM,bK,bQ,aR,aF,aH,bO,Tm.cs];exact aL
 rw[if_neg (by simpa using c5)] at hk;simp only at hk;simp only[go_sem,hr2,hb4,e4,hb6,e6,c5];(intro b9 hb9;try simp only[aV,aT,ne_eq] at hb9);have e9:=cF hr (by first|exact hb9|exact hb9.2|exact hb9.2.2|exact hb9.2.2.2|exact hb9.2.2.2.2|exact hb9.2.2.2.2.2|exact hb9.2.2.2.2.2.2);simp only[go_sem,hr2,hb4,e4,hb6,e6,hb9,e9];refine oY (ln:=ln) (cl:=cl) (q:=q) (d:=d) _ gH ?_;cases hA:aS 4 [125] q
 ·rw [hA,fD,dY] at hk;simp only [go_sem,hr2,hb4,e4,hb6,e6,hb9,e9];refine oY (ln := ln) (cl := cl) (q := q) (d := d) _ gH ?_;simp only [go_sem,hr2,hb4,e4,hb6,e6,hb9,e9];generalize (!aS 4 [124] q) = m at hk ⊢
  refine Ex.loop (ι:=(List Tm × Option Nat) × Bool × RQ T × Nat) (fun c=>[(0,.ptr r 0),(2,.int .i64 ((60-k:Nat):Int)),(6,.ptr b6 0),(9,.ptr b9 0),(10,.bool c.2.1)])
   (fun c=>rA ln cl d b9 r 8 [] ((s.setO b4 (.cells 60 t.cs)).setO b6 (.cells 43 [.int .i64 0,.int .i64 0,.str [],.str [],.nils,.nils])) c.1.2 c.1.1 c.2.2.1)
   (fun c => (c.1.2 = none → c.1.1 = []) ∧ (∀ t,c.1.2 = some t → s.getT t = none) ∧ c.1.1.length ≤ 2 * c.2.2.1.at_ + 2 ∧ (c.2.1 = true → c.1.1.length ≤ 2 * c.2.2.1.at_ ∧ T.length - c.2.2.1.at_ < c.2.2.2) ∧
    (∀ p,p = cK [44] (fun (l : List Tm) q => (l ++ [(cU (aC ln cl) k q).1] ++ [(cU (aC ln cl) k (aY (aC ln cl) 4 [45,62] (cU (aC ln cl) k q).2)).1],(cU (aC ln cl) k (aY (aC ln cl) 4 [45,62] (cU (aC ln cl) k q).2)).2)) c.2.2.2 c.2.1 c.1.1 c.2.2.1 →
     KV (s.setO r (aG ln cl (aY (aC ln cl) 4 [125] (fR (aC ln cl) [77,97,112] (60-k) p.2).2) d)) (Tm.enc (.mk 8 0 [] [] p.1 (fR (aC ln cl) [77,97,112] (60-k) p.2).1))))
   (fun c=>(T.length-c.2.2.1.at_) * 2+(if c.2.1=true then 1 else 0)) (([],none),m,q,T.length+2) ?_ ?_ ?_ ?_
  ·exact ⟨fun _=>rfl,fun t e=>(by cases e),bS _,fun _=>⟨bS _,by simp only;omega⟩,fun p e=>by subst e;exact hk⟩
  ·simp only[go_sem,hr2,hb4,e4,hb6,e6,hb9,e9]
  ·exact aL
  ·rintro ⟨⟨l,tk⟩,more,q,f⟩ ⟨hnil,hfree,hl,hm,hk⟩;simp only at hnil hfree hl hm hk;have hqle:=q.le;refine bV (V:=[0,1,2,4,6,7,8,9,10,12,13,50,79,98,109,115,130,162]) _ _ _ _ ?_;unfold rA;cases more with
   | false =>
    have hk:=hk _ rfl;rw[pD] at hk;simp only at hk;simp only[go_sem,e4,e6,e9,hb4,hb6,hb9];refine uG (ln:=ln) (cl:=cl) (q:=q) (d:=d) hT [77,97,112] (60-k) (by omega) gH ?_;generalize fR (aC ln cl) [77,97,112] (60-k) q=u at hk ⊢;simp only[go_sem,e4,e6,e9,hb4,hb6,hb9];refine dZ (ln:=ln) (cl:=cl) (q:=u.2) (d:=d) hT _ gH ?_;simp only[go_sem,e4,e6,e9,hb4,hb6,hb9];refine ⟨lM _ _,?_⟩;simp only[go_sem] at hk;refine DK.mk hk aL ?_;exact A.le.agg ⟨⟨aK _,rfl⟩,⟨aK _,rfl⟩,⟨aK _,rfl⟩,⟨aK _,rfl⟩,⟨fN tk _ (fun e=>by rw[hnil e];rfl),rfl⟩,⟨aK _,rfl⟩,trivial⟩
   | true =>
    simp only[go_sem,e4,e6,e9,hb4,hb6,hb9];refine iJ (ln:=ln) (cl:=cl) (q:=q) (d:=d) gH ?_;cases ho:q.ok with
    | false =>
     have hk:=hk _ rfl;rw[pB _ _ _ _ _ _ ho] at hk;simp only at hk;simp only[go_sem,e4,e6,e9,hb4,hb6,hb9];refine uG (ln:=ln) (cl:=cl) (q:=q) (d:=d) hT [77,97,112] (60-k) (by omega) gH ?_;generalize fR (aC ln cl) [77,97,112] (60-k) q=u at hk ⊢;simp only[go_sem,e4,e6,e9,hb4,hb6,hb9];refine dZ (ln:=ln) (cl:=cl) (q:=u.2) (d:=d) hT _ gH ?_;simp only[go_sem,e4,e6,e9,hb4,hb6,hb9];refine ⟨lM _ _,?_⟩;simp only[go_sem] at hk;refine DK.mk hk aL ?_;exact A.le.agg ⟨⟨aK _,rfl⟩,⟨aK _,rfl⟩,⟨aK _,rfl⟩,⟨aK _,rfl⟩,⟨fN tk _ (fun e=>by rw[hnil e];rfl),rfl⟩,⟨aK _,rfl⟩,trivial⟩
    | true =>
     obtain ⟨hl2,hf⟩:=hm rfl;obtain ⟨f,rfl⟩:∃ f',f=f'+1:=⟨f-1,by omega⟩
     simp only[go_sem,e4,e6,e9,hb4,hb6,hb9];(refine aP (OT.r 0 10) [(5,[1])] ?_;simp only[go_sem,e4,e6,e9,hb4,hb6,hb9,ed]);refine IH _ q d _ _ gH ?_;have hmono:=qM (fin:=aC ln cl) k q;have hk:=hk _ rfl;rw[pF _ _ _ _ _ ho] at hk;simp only at hk;generalize cU (aC ln cl) k q=p at hk hmono ⊢;have hple:=p.2.le;simp only[go_sem,e4,e6,e9,hb4,hb6,hb9,bO];refine ⟨by decide,fun y hy=>by simp only[cE] at hy;subst hy;rfl,cW rfl rfl (by rw[aI];exact fA fun e=>by rw[hnil e];rfl) (fun y hy=>?_) (by simp only[aI,aF,aH];omega) (fun u hu=>?_)⟩
     ·simp only[bW] at hy;obtain ⟨z,_,rfl⟩:=hy;exact Tm.hz z
     have hfu:=kC hu hfree;rw[gY hu];simp only[go_sem,e4,e6,e9,hb4,hb6,hb9];refine dZ (ln:=ln) (cl:=cl) (q:=p.2) (d:=d) hT _ gH ?_;have hmono2:=dW (fin:=aC ln cl) 4 [45,62] p.2;generalize aY (aC ln cl) 4 [45,62] p.2=q5 at hk hmono2 ⊢;have hq5:=q5.le;simp only[go_sem,e4,e6,e9,hb4,hb6,hb9];(refine aP (OT.r 0 10) [(5,[1])] ?_;simp only[go_sem,e4,e6,e9,hb4,hb6,hb9,ed]);refine IH _ q5 d _ _ gH ?_;have hmono3:=qM (fin:=aC ln cl) k q5;generalize cU (aC ln cl) k q5=p5 at hk hmono3 ⊢;have hp5:=p5.2.le;simp only[go_sem,e4,e6,e9,hb4,hb6,hb9,bO];refine ⟨by decide,fun y hy=>by simp only[cE] at hy;subst hy;rfl,by simp only[aR,aI,aF,aH],fun y hy=>?_,by simp only[aR,aI,aF,aH];omega,?_⟩
     ·rcases kR.1 hy with hy|hy
      ·simp only[bW] at hy;obtain ⟨z,_,rfl⟩:=hy;exact Tm.hz z
      ·simp only[cE] at hy;subst hy;rfl
     refine nG (ln:=ln) (cl:=cl) (q:=p5.2) (d:=d) hT gH ?_;have hc:=gF [44] p5.2;have hc2:=kV (x:=[44]) (q:=p5.2);generalize dQ [44] p5.2=c at hk hc hc2 ⊢;have hcle:=c.2.le;simp only[go_sem,e4,e6,e9,hb4,hb6,hb9];refine ⟨((l++[p.1]++[p5.1],some u),c.1,c.2,f),⟨fun e=>(by cases e),fun t e=>by cases e;exact hfu,by simp only[aR,aF,aH];omega,fun e=>⟨by have:=hc2 e;simp only[aR,aF,aH];omega,by have:=hc2 e;simp only;omega⟩,fun p' e=>by subst e;(first|exact hk|(simp only[go_sem] at hk;exact hk)|(simp only[go_sem] at hk;simp only[go_sem];exact hk))⟩,?_,rfl,?_⟩
     ·simp only;split
      ·rename_i e;have:=hc2 e;omega
      ·omega
     ·simp only[cL,cM,bK,bQ,aR,aF,aH,aI,bO,Tm.cs];exact aL
 ·rw [hA,dT,cQ] at hk;simp only [go_sem,hr2,e4,e6,hb4,hb6,hb9,e9]
  refine Ex.loop (ι:=(List Tm × Option Nat) × Bool × RQ T × Nat) (fun c=>[(0,.ptr r 0),(2,.int .i64 ((60-k:Nat):Int)),(6,.ptr b6 0),(9,.ptr b9 0),(10,.bool c.2.1)])
   (fun c=>rA ln cl d b9 r 8 [] ((s.setO b4 (.cells 60 t.cs)).setO b6 (.cells 43 [.int .i64 0,.int .i64 0,.str [],.str [],.nils,.nils])) c.1.2 c.1.1 c.2.2.1)
   (fun c => (c.1.2 = none → c.1.1 = []) ∧ (∀ t,c.1.2 = some t → s.getT t = none) ∧ c.1.1.length ≤ 2 * c.2.2.1.at_ + 2 ∧ (c.2.1 = true → c.1.1.length ≤ 2 * c.2.2.1.at_ ∧ T.length - c.2.2.1.at_ < c.2.2.2) ∧
    (∀ p,p = cK [44] (fun (l : List Tm) q => (l ++ [(cU (aC ln cl) k q).1] ++ [(cU (aC ln cl) k (aY (aC ln cl) 4 [45,62] (cU (aC ln cl) k q).2)).1],(cU (aC ln cl) k (aY (aC ln cl) 4 [45,62] (cU (aC ln cl) k q).2)).2)) c.2.2.2 c.2.1 c.1.1 c.2.2.1 →
     KV (s.setO r (aG ln cl (aY (aC ln cl) 4 [125] (fR (aC ln cl) [77,97,112] (60-k) p.2).2) d)) (Tm.enc (.mk 8 0 [] [] p.1 (fR (aC ln cl) [77,97,112] (60-k) p.2).1))))
   (fun c=>(T.length-c.2.2.1.at_) * 2+(if c.2.1=true then 1 else 0)) (([],none),false,q,T.length+2) ?_ ?_ ?_ ?_
  ·exact ⟨fun _=>rfl,fun t e=>(by cases e),bS _,fun _=>⟨bS _,by simp only;omega⟩,fun p e=>by subst e;exact hk⟩
  ·simp only[go_sem,hr2,e4,e6,hb4,hb6,hb9,e9]
  ·exact aL
  ·rintro ⟨⟨l,tk⟩,more,q,f⟩ ⟨hnil,hfree,hl,hm,hk⟩;simp only at hnil hfree hl hm hk;have hqle:=q.le;refine bV (V:=[0,1,2,4,6,7,8,9,10,12,13,50,79,98,109,115,130,162]) _ _ _ _ ?_;unfold rA;cases more with
   | false =>
    have hk:=hk _ rfl;rw[pD] at hk;simp only at hk;simp only[go_sem,e4,e6,e9,hb4,hb6,hb9];refine uG (ln:=ln) (cl:=cl) (q:=q) (d:=d) hT [77,97,112] (60-k) (by omega) gH ?_;generalize fR (aC ln cl) [77,97,112] (60-k) q=u at hk ⊢;simp only[go_sem,e4,e6,e9,hb4,hb6,hb9];refine dZ (ln:=ln) (cl:=cl) (q:=u.2) (d:=d) hT _ gH ?_;simp only[go_sem,e4,e6,e9,hb4,hb6,hb9];refine ⟨lM _ _,?_⟩;simp only[go_sem] at hk;refine DK.mk hk aL ?_;exact A.le.agg ⟨⟨aK _,rfl⟩,⟨aK _,rfl⟩,⟨aK _,rfl⟩,⟨aK _,rfl⟩,⟨fN tk _ (fun e=>by rw[hnil e];rfl),rfl⟩,⟨aK _,rfl⟩,trivial⟩
   | true =>
    simp only[go_sem,e4,e6,e9,hb4,hb6,hb9];refine iJ (ln:=ln) (cl:=cl) (q:=q) (d:=d) gH ?_;cases ho:q.ok with
    | false =>
     have hk:=hk _ rfl;rw[pB _ _ _ _ _ _ ho] at hk;simp only at hk;simp only[go_sem,e4,e6,e9,hb4,hb6,hb9];refine uG (ln:=ln) (cl:=cl) (q:=q) (d:=d) hT [77,97,112] (60-k) (by omega) gH ?_;generalize fR (aC ln cl) [77,97,112] (60-k) q=u at hk ⊢;simp only[go_sem,e4,e6,e9,hb4,hb6,hb9];refine dZ (ln:=ln) (cl:=cl) (q:=u.2) (d:=d) hT _ gH ?_;simp only[go_sem,e4,e6,e9,hb4,hb6,hb9];refine ⟨lM _ _,?_⟩;simp only[go_sem] at hk;refine DK.mk hk aL ?_;exact A.le.agg ⟨⟨aK _,rfl⟩,⟨aK _,rfl⟩,⟨aK _,rfl⟩,⟨aK _,rfl⟩,⟨fN tk _ (fun e=>by rw[hnil e];rfl),rfl⟩,⟨aK _,rfl⟩,trivial⟩
    | true =>
     obtain ⟨hl2,hf⟩:=hm rfl;obtain ⟨f,rfl⟩:∃ f',f=f'+1:=⟨f-1,by omega⟩
     simp only[go_sem,e4,e6,e9,hb4,hb6,hb9];(refine aP (OT.r 0 10) [(5,[1])] ?_;simp only[go_sem,e4,e6,e9,hb4,hb6,hb9,ed]);refine IH _ q d _ _ gH ?_;have hmono:=qM (fin:=aC ln cl) k q;have hk:=hk _ rfl;rw[pF _ _ _ _ _ ho] at hk;simp only at hk;generalize cU (aC ln cl) k q=p at hk hmono ⊢;have hple:=p.2.le;simp only[go_sem,e4,e6,e9,hb4,hb6,hb9,bO];refine ⟨by decide,fun y hy=>by simp only[cE] at hy;subst hy;rfl,cW rfl rfl (by rw[aI];exact fA fun e=>by rw[hnil e];rfl) (fun y hy=>?_) (by simp only[aI,aF,aH];omega) (fun u hu=>?_)⟩
     ·simp only[bW] at hy;obtain ⟨z,_,rfl⟩:=hy;exact Tm.hz z
     have hfu:=kC hu hfree;rw[gY hu];simp only[go_sem,e4,e6,e9,hb4,hb6,hb9];refine dZ (ln:=ln) (cl:=cl) (q:=p.2) (d:=d) hT _ gH ?_;have hmono2:=dW (fin:=aC ln cl) 4 [45,62] p.2;generalize aY (aC ln cl) 4 [45,62] p.2=q5 at hk hmono2 ⊢;have hq5:=q5.le;simp only[go_sem,e4,e6,e9,hb4,hb6,hb9];(refine aP (OT.r 0 10) [(5,[1])] ?_;simp only[go_sem,e4,e6,e9,hb4,hb6,hb9,ed]);refine IH _ q5 d _ _ gH ?_;have hmono3:=qM (fin:=aC ln cl) k q5;generalize cU (aC ln cl) k q5=p5 at hk hmono3 ⊢;have hp5:=p5.2.le;simp only[go_sem,e4,e6,e9,hb4,hb6,hb9,bO];refine ⟨by decide,fun y hy=>by simp only[cE] at hy;subst hy;rfl,by simp only[aR,aI,aF,aH],fun y hy=>?_,by simp only[aR,aI,aF,aH];omega,?_⟩
     ·rcases kR.1 hy with hy|hy
      ·simp only[bW] at hy;obtain ⟨z,_,rfl⟩:=hy;exact Tm.hz z
      ·simp only[cE] at hy;subst hy;rfl
     refine nG (ln:=ln) (cl:=cl) (q:=p5.2) (d:=d) hT gH ?_;have hc:=gF [44] p5.2;have hc2:=kV (x:=[44]) (q:=p5.2);generalize dQ [44] p5.2=c at hk hc hc2 ⊢;have hcle:=c.2.le;simp only[go_sem,e4,e6,e9,hb4,hb6,hb9];refine ⟨((l++[p.1]++[p5.1],some u),c.1,c.2,f),⟨fun e=>(by cases e),fun t e=>by cases e;exact hfu,by simp only[aR,aF,aH];omega,fun e=>⟨by have:=hc2 e;simp only[aR,aF,aH];omega,by have:=hc2 e;simp only;omega⟩,fun p' e=>by subst e;(first|exact hk|(simp only[go_sem] at hk;exact hk)|(simp only[go_sem] at hk;simp only[go_sem];exact hk))⟩,?_,rfl,?_⟩
     ·simp only;split
      ·rename_i e;have:=hc2 e;omega
      ·omega
     ·simp only[cL,cM,bK,bQ,aR,aF,aH,aI,bO,Tm.cs];exact aL
end
end
section
section
variable {T:List Tok}
theorem aAe {fin:Fault} {code:Int} (hf:¬ fin.code=0) (hc:¬ code=0) (p:Nat) (b:Bool) (q:RQ T):(cJ fin code p b q).ok=false:=by
 unfold cJ;split
 ·unfold RQ.ok;simp only;split
  ·simpa using hf
  ·simpa using hc
 ·rename_i h;simpa using h
theorem aGF {q:RQ T} (h:iL q=true):q.ok=true∧q.at_<T.length:=by
 cases ho:q.ok with
 | false=>simp[iL,fS,cN,aS,ho] at h
 | true =>
  refine ⟨rfl,?_⟩;cases hl:decide (q.at_<T.length) with
  | false=>simp only[iL,fS,cN,aS,hl,cQ,cZ,iI] at h;cases h
  | true=>simpa using hl
end
section
variable {T:List Tok} {ln cl:Int} {r:Nat}
theorem aNJ (hT:TOk T) (hlen2:T.length≤2147483640):∀ k,k≤60→aEH T ln cl r k:=by
 have hf12:¬ (aC ln cl).code=0:=by show ¬ (12:Int)=0;decide
 intro k
 induction k with
 | zero =>
  intro _ s q d KV Kp hr hk;have hr2:=hr;simp only[go_sem] at hr2;unfold cU at hk;(refine aZ func95 [0,1,4,5,8,26,35,54,61,68,78,88] ?_;simp only[go_sem,ntmps95,f95]);(intro b4 hb4;try simp only[aV,aT,ne_eq] at hb4);have e4:=cF hr (by first|exact hb4|exact hb4.2|exact hb4.2.2|exact hb4.2.2.2|exact hb4.2.2.2.2|exact hb4.2.2.2.2.2|exact hb4.2.2.2.2.2.2);simp only[go_sem,hr2,hb4,e4];refine aDB (ln:=ln) (cl:=cl) (q:=q) (d:=d) gH ?_;cases hb:iL q with
  | false =>
   rw[hb] at hk;simp only[bN,if_false] at hk;simp only[go_sem,hr2,hb4,e4];refine kU (ln:=ln) (cl:=cl) (q:=q) (d:=d) hT 11 q.at_ true gH ?_;simp only[go_sem,hr2,hb4,e4];simp only[go_sem] at hk;exact DK.mk hk aL (Tm.le_leaf _ _ _ _)
  | true =>
   rw[hb,if_pos rfl] at hk;simp only at hk;simp only[go_sem,hr2,hb4,e4];refine aDN (ln:=ln) (cl:=cl) (q:=q) (d:=d) hT 61 q.at_ gH ?_
   have hbad:(iE (aC ln cl) 61 q.at_ q).ok=false:=by
    have ho:=(aGF hb).1;unfold iE;simp only;rw[if_pos (show ({ q with nodes:=IntKind.i64.wrap (q.nodes+1) }:RQ T).ok=true from ho),if_pos (by decide)];exact aAe hf12 (by decide) _ _ _
   generalize iE (aC ln cl) 61 q.at_ q=q2 at hk hbad ⊢;simp only[go_sem,hr2,hb4,e4]
   have hq3:∀ q3:RQ T,q3=(if q2.over=true then cJ (aC ln cl) 3 q2.at_ false q2 else q2)→q3.ok=false:=by
    intro q3 e;subst e;split
    ·exact aAe hf12 (by decide) _ _ _
    ·exact hbad
   have h3:=hq3 _ rfl;cases ho:q2.over with
   | true =>
    rw[ho,if_pos rfl] at hk h3;simp only[go_sem,hr2,hb4,e4,ho,aG,gC];refine kU (ln:=ln) (cl:=cl) (q:=q2) (d:=d) hT 3 q2.at_ false bD ?_;simp only[go_sem,hr2,hb4,e4,ho,aG,gC];refine iJ (ln:=ln) (cl:=cl) (q:=cJ (aC ln cl) 3 q2.at_ false q2) (d:=d) (by simp only[go_sem,hr2,hb4,e4,ho,aG,gC,aJ]) ?_;rw[h3];simp only[go_sem,hr2,hb4,e4,ho,aG,gC];simp only[go_sem,ho] at hk;exact DK.mk hk aL (Tm.le_leaf _ _ _ _)
   | false =>
    rw[ho,if_neg (by simp)] at hk h3;simp only[go_sem,hr2,hb4,e4,ho,aG,gC];refine iJ (ln:=ln) (cl:=cl) (q:=q2) (d:=d) bD ?_;rw[h3];simp only[go_sem,hr2,hb4,e4,ho,aG,gC];simp only[go_sem,ho] at hk;exact DK.mk hk aL (Tm.le_leaf _ _ _ _)
 | succ k ih =>
  intro hk60 s q d KV Kp hr hk;have IH:=ih (by omega);rw[show (61-(k+1):Nat)=60-k by omega];have hr2:=hr;simp only[go_sem] at hr2;have hlen:=hT.len;unfold cU at hk;(refine aZ func95 [0,1,4,5,8,26,35,54,61,68,78,88] ?_;simp only[go_sem,ntmps95,f95]);(intro b4 hb4;try simp only[aV,aT,ne_eq] at hb4);have e4:=cF hr (by first|exact hb4|exact hb4.2|exact hb4.2.2|exact hb4.2.2.2|exact hb4.2.2.2.2|exact hb4.2.2.2.2.2|exact hb4.2.2.2.2.2.2);simp only[go_sem,hr2,hb4,e4];refine aDB (ln:=ln) (cl:=cl) (q:=q) (d:=d) gH ?_;cases hb:iL q with
  | false =>
   rw[hb] at hk;simp only[bN,if_false] at hk;simp only[go_sem,hr2,hb4,e4];refine kU (ln:=ln) (cl:=cl) (q:=q) (d:=d) hT 11 q.at_ true gH ?_;simp only[go_sem,hr2,hb4,e4];simp only[go_sem] at hk;exact DK.mk hk aL (Tm.le_leaf _ _ _ _)
  | true =>
   have hlt0:=(aGF hb).2;rw[hb,if_pos rfl] at hk;simp only at hk;simp only[go_sem,hr2,hb4,e4];refine aDN (ln:=ln) (cl:=cl) (q:=q) (d:=d) hT (60-k) q.at_ gH ?_;have hat2:(iE (aC ln cl) (60-k) q.at_ q).at_=q.at_:=xT _ _ _;generalize iE (aC ln cl) (60-k) q.at_ q=q2 at hk hat2 ⊢;simp only[go_sem,hr2,hb4,e4];have rest:∀ (q3:RQ T) (K1 K2:St→A→Prop) (s1:St),True:=fun _ _ _ _=>trivial
   cases ho:q2.over with
   | true =>
    rw[ho,if_pos rfl] at hk;have h3:(cJ (aC ln cl) 3 q2.at_ false q2).ok=false:=aAe hf12 (by decide) _ _ _;rw[h3] at hk;simp only[bN,if_false] at hk;simp only[go_sem,hr2,hb4,e4,ho,aG,gC];refine kU (ln:=ln) (cl:=cl) (q:=q2) (d:=d) hT 3 q2.at_ false bD ?_;simp only[go_sem,hr2,hb4,e4,ho,aG,gC];refine iJ (ln:=ln) (cl:=cl) (q:=cJ (aC ln cl) 3 q2.at_ false q2) (d:=d) (by simp only[go_sem,hr2,hb4,e4,ho,aG,gC,aJ]) ?_;rw[h3];simp only[go_sem,hr2,hb4,e4,ho,aG,gC];simp only[go_sem,ho] at hk;exact DK.mk hk aL (Tm.le_leaf _ _ _ _)
   | false =>
    rw[ho,if_neg (show ¬ (false=true) by simp)] at hk;simp only[go_sem,hr2,hb4,e4,ho,aG,gC];refine iJ (ln:=ln) (cl:=cl) (q:=q2) (d:=d) bD ?_;cases h3:q2.ok with
    | false =>
     rw[h3] at hk;simp only[bN,if_false] at hk;simp only[go_sem,hr2,hb4,e4,ho,aG,gC];simp only[go_sem,ho] at hk;exact DK.mk hk aL (Tm.le_leaf _ _ _ _)
    | true =>
     rw[h3,if_pos rfl] at hk;have hlt:q2.at_<T.length:=by rw[hat2];exact hlt0
     have hg:=RQ.get hlt;have h0:(0:Int)≤(q2.at_:Int):=by omega
     have hmem:=RQ.mem hlt;have eq5:q2.inc.over=false:=by rw[aDQ,ho]
     simp only[go_sem,hr2,hb4,e4,ho,aG,gC];(refine aP (OT.r 0 12) [(10,[3,7,9])] ?_;simp only[go_sem,hr2,hb4,e4,ho,aG,gC,hg,hlt,h0,Int.toNat_natCast,Option.map]);(intro b5 hb5;try simp only[aV,aT,ne_eq] at hb5);have e5:=cF hr (by first|exact hb5|exact hb5.2|exact hb5.2.2|exact hb5.2.2.2|exact hb5.2.2.2.2|exact hb5.2.2.2.2.2|exact hb5.2.2.2.2.2.2);generalize q2.tok=t at hk hmem hg;simp only[go_sem,hr2,hb4,e4,ho,aG,gC,hb5,e5,bP q2.at_ (by omega)];have hia:=RQ.inc_at hlt;cases c2:decide (t.kind=2) with
     | true =>
      rw[if_pos (by simpa using c2)] at hk;simp only[go_sem,hr2,hb4,e4,ho,aG,gC,hb5,e5,hia,c2];simp only[go_sem,ho,hia] at hk;exact DK.mk hk aL (Tm.le_leaf _ _ _ _)
     | false =>
     rw[if_neg (by simpa using c2)] at hk;simp only[go_sem,hr2,hb4,e4,ho,aG,gC,hb5,e5,hia,c2];cases c3:decide (t.kind=3) with
     | true =>
      rw[if_pos (by simpa using c3)] at hk;simp only[go_sem,hr2,hb4,e4,ho,aG,gC,hb5,e5,hia,c3];simp only[go_sem,ho,hia] at hk;exact DK.mk hk aL (Tm.le_leaf _ _ _ _)
     | false =>
     rw[if_neg (by simpa using c3)] at hk;simp only[go_sem,hr2,hb4,e4,ho,aG,gC,hb5,e5,hia,c3];cases c1:decide (t.kind=1) with
     | false =>
      rw[if_neg (by simpa using c1)] at hk;simp only[go_sem,hr2,hb4,e4,ho,aG,gC,hb5,e5,hia,c1];refine aLd (ln:=ln) (cl:=cl) (q:=q2.inc) (d:=d) hT k (by omega) hlen2 IH t hmem (by simp only[aJ,dN,gE,aT,ne_eq,dK,reduceIte,hr2,hb4,e4,ho,aG,gC,hb5,e5,hia,RQ.inc_f,aF3,aFY,aDQ]<;>(first|done|rfl|assumption)) ?_;simp only[bO] at hk;simp only[go_sem,hr2,hb4,e4,ho,aG,gC,hb5,e5,hia,bO];simp only[go_sem,ho,hia] at hk;exact aM hk aL
     | true =>
     rw[if_pos (by simpa using c1)] at hk;simp only[go_sem,hr2,hb4,e4,ho,aG,gC,hb5,e5,hia,c1];cases c4:decide (t.text=[116,114,117,101]) with
     | true =>
      rw[if_pos (by simpa using c4)] at hk;simp only[go_sem,hr2,hb4,e4,ho,aG,gC,hb5,e5,hia,c4];simp only[go_sem,ho,hia] at hk;exact DK.mk hk aL (Tm.le_leaf _ _ _ _)
     | false =>
     rw[if_neg (by simpa using c4)] at hk;simp only[go_sem,hr2,hb4,e4,ho,aG,gC,hb5,e5,hia,c4,c1];cases c5:decide (t.text=[102,97,108,115,101]) with
     | true =>
      rw[if_pos (by simpa using c5)] at hk;simp only[go_sem,hr2,hb4,e4,ho,aG,gC,hb5,e5,hia,c5];simp only[go_sem,ho,hia] at hk;exact DK.mk hk aL (Tm.le_leaf _ _ _ _)
     | false =>
     rw[if_neg (by simpa using c5)] at hk;simp only[go_sem,hr2,hb4,e4,ho,aG,gC,hb5,e5,hia,c5,c1];refine aLZ (ln:=ln) (cl:=cl) (q:=q2.inc) (d:=d) hT k (by omega) IH t.text (by simp only[aJ,dN,gE,aT,ne_eq,dK,reduceIte,hr2,hb4,e4,ho,aG,gC,hb5,e5,hia,RQ.inc_f,aF3,aFY,aDQ]<;>(first|done|rfl|assumption)) ?_;simp only[bO] at hk;simp only[go_sem,hr2,hb4,e4,ho,aG,gC,hb5,e5,hia,bO];simp only[go_sem,ho,hia] at hk;exact aM hk aL
theorem rN {q:RQ T} {d:Dc} {s:St} {KV Kp:St→A→Prop} (hT:TOk T) (hlen2:T.length≤2147483640) (hr:s.getO r=some (aG ln cl q d)) (hk:KV (s.setO r (aG ln cl (eA (aC ln cl) q).2 d)) (eA (aC ln cl) q).1.enc):Den cx 44 [.ptr r 0] KV Kp s:=by
 have hr2:=hr;simp only[go_sem] at hr2;unfold eA at hk;(refine aZ func44 [0,2] ?_;simp only[go_sem,ntmps44,f44]);(intro b2 hb2;try simp only[aV,aT,ne_eq] at hb2);have e2:=cF hr (by first|exact hb2|exact hb2.2|exact hb2.2.2|exact hb2.2.2.2|exact hb2.2.2.2.2|exact hb2.2.2.2.2.2|exact hb2.2.2.2.2.2.2);simp only[go_sem,hr2,hb2,e2];refine aNJ hT hlen2 60 (bE _) _ { q with first:=q.at_,nodes:=0 } d _ _ gH ?_;simp only[bO] at hk;simp only[go_sem,hr2,hb2,e2,bO];simp only[go_sem] at hk;exact aM hk aL
end
end
section
section
variable {T:List Tok} {ln cl:Int} {q:RQ T} {d:Dc} {s:St} {r:Nat} {KV Kp:St→A→Prop}
theorem aDU (hT:TOk T) (hlen2:T.length≤2147483640) (hr:s.getO r=some (aG ln cl q d)) (hk:KV (s.setO r (aG ln cl (kF (aC ln cl) q).2 d)) (kF (aC ln cl) q).1.enc):Den cx 234 [.ptr r 0] KV Kp s:=by
 unfold kF at hk;simp only at hk;(refine aZ func234 [0,2,3] ?_;simp only[go_sem,ntmps234,f234]);(intro b2 hb2;try simp only[aV,aT,ne_eq] at hb2);have e2:=cF hr (by first|exact hb2|exact hb2.2|exact hb2.2.2|exact hb2.2.2.2|exact hb2.2.2.2.2|exact hb2.2.2.2.2.2|exact hb2.2.2.2.2.2.2);simp only[go_sem,hb2,e2];(intro b3 hb3;try simp only[aV,aT,ne_eq] at hb3);have e3:=cF hr (by first|exact hb3|exact hb3.2|exact hb3.2.2|exact hb3.2.2.2|exact hb3.2.2.2.2|exact hb3.2.2.2.2.2|exact hb3.2.2.2.2.2.2);simp only[go_sem,hb2,e2,hb3,e3];refine aBh (ln:=ln) (cl:=cl) (q:=q) (d:=d) gH ?_;simp only[go_sem,hb2,e2,hb3,e3];refine iW (ln:=ln) (cl:=cl) (q:=q) (d:=d) hT gH ?_;generalize bB (aC ln cl) q=x at hk ⊢;simp only[go_sem,hb2,e2,hb3,e3];refine dZ (ln:=ln) (cl:=cl) (q:=x.2) (d:=d) hT _ gH ?_;generalize aY (aC ln cl) 4 [58] x.2=q2 at hk ⊢;simp only[go_sem,hb2,e2,hb3,e3];refine iW (ln:=ln) (cl:=cl) (q:=q2) (d:=d) hT gH ?_;generalize bB (aC ln cl) q2=y at hk ⊢;simp only[go_sem,hb2,e2,hb3,e3];refine dZ (ln:=ln) (cl:=cl) (q:=y.2) (d:=d) hT _ gH ?_;generalize aY (aC ln cl) 4 [61] y.2=q4 at hk ⊢;simp only[go_sem,hb2,e2,hb3,e3];refine rN (ln:=ln) (cl:=cl) (q:=q4) (d:=d) hT hlen2 gH ?_;generalize eA (aC ln cl) q4=i at hk ⊢;simp only[go_sem,hb2,e2,hb3,e3,bO];simp only[go_sem] at hk;exact aM hk aL
theorem aDF (hT:TOk T) (hlen2:T.length≤2147483640) (hr:s.getO r=some (aG ln cl q d)) (hk:KV (s.setO r (aG ln cl (iA (aC ln cl) q).2 d)) (.list none ((iA (aC ln cl) q).1.map Tm.enc))):Den cx 233 [.ptr r 0] KV Kp s:=by
 have hr2:=hr;simp only[go_sem] at hr2;have hlen:=hT.len;unfold iA at hk;(refine aZ func233 [0,2,3,4,7,19,23] ?_;simp only[go_sem,ntmps233,f233]);refine fP (ln:=ln) (cl:=cl) (q:=q) (d:=d) _ hr ?_;cases h:aS 1 [105,102] q with
 | false =>
  rw[h] at hk;simp only[bN,if_false] at hk;simp only[go_sem];exact DK.mk hk (lY hr) A.le.nil
 | true =>
  have hlt:=lP h;rw[h,if_pos rfl] at hk;simp only[go_sem,hr2,bP q.at_ (by omega)];have hia:=RQ.inc_at hlt
  refine Ex.loop (ι:=(List Tm × Option Nat) × Bool × RQ T × Nat) (fun c=>[(0,.ptr r 0),(3,gv c.1.2 (c.1.1.map Tm.enc)),(4,.bool c.2.1)])
   (fun c=>gs (s.setO r (aG ln cl c.2.2.1 d)) c.1.2 c.1.1.length 43)
   (fun c => (c.1.2 = none → c.1.1 = []) ∧ (∀ t,c.1.2 = some t → s.getT t = none) ∧ c.1.1.length ≤ c.2.2.1.at_ + 1 ∧ (c.2.1 = true → c.1.1.length ≤ c.2.2.1.at_ ∧ T.length - c.2.2.1.at_ < c.2.2.2) ∧
    (∀ p,p = cK [44] (fun (l : List Tm) q => (l ++ [(eA (aC ln cl) (if iL q = true then bG (aC ln cl) l.length 20 q else q)).1],(eA (aC ln cl) (if iL q = true then bG (aC ln cl) l.length 20 q else q)).2)) c.2.2.2 c.2.1 c.1.1 c.2.2.1 →
     KV (s.setO r (aG ln cl p.2 d)) (.list none (p.1.map Tm.enc))))
   (fun c=>(T.length-c.2.2.1.at_) * 2+(if c.2.1=true then 1 else 0)) (([],none),true,q.inc,T.length+2) ?_ ?_ ?_ ?_
  ·exact ⟨fun _=>rfl,fun t e=>(by cases e),bS _,fun _=>⟨bS _,by simp only;omega⟩,fun p e=>by subst e;exact hk⟩
  ·simp only[go_sem];rfl
  ·simp only[go_sem,hia];exact bA _
  ·clear hk;rintro ⟨⟨l,tk⟩,more,q,f⟩ ⟨hnil,hfree,hl,hm,hk⟩;simp only at hnil hfree hl hm hk;have hqle:=q.le;have hg:lS (gs (s.setO r (aG ln cl q d)) tk l.length 43) tk (l.map Tm.enc).length 43:=by rw[aI];exact fA fun e=>by rw[hnil e];rfl
   refine bV (V:=[0,2,3,4,7,19,23]) _ _ _ _ ?_;cases more with
   | false =>
    have hk:=hk _ rfl;rw[pD] at hk;simp only[go_sem];simp only[go_sem] at hk;exact DK.mk hk aL (fN tk _ (fun e=>by rw[hnil e];rfl))
   | true =>
    simp only[go_sem];refine iJ (ln:=ln) (cl:=cl) (q:=q) (d:=d) gH ?_;cases ho:q.ok with
    | false =>
     have hk:=hk _ rfl;rw[pB _ _ _ _ _ _ ho] at hk;simp only[go_sem];simp only[go_sem] at hk;exact DK.mk hk aL (fN tk _ (fun e=>by rw[hnil e];rfl))
    | true =>
     obtain ⟨hl2,hf⟩:=hm rfl;obtain ⟨f,rfl⟩:∃ f',f=f'+1:=⟨f-1,by omega⟩
     have hk:=hk _ rfl;rw[pF _ _ _ _ _ ho] at hk;simp only at hk;have hm0:q.at_=(if iL q=true then bG (aC ln cl) l.length 20 q else q).at_:=by split;rw[iB];rfl
     simp only[go_sem];refine aDB (ln:=ln) (cl:=cl) (q:=q) (d:=d) (by simp only[aJ,dN,gE,aT,ne_eq,dK,reduceIte,]<;>(first|done|rfl|assumption)) ?_;cases hb:iL q with
     | false =>
      rw[hb,if_neg (by simp)] at hk hm0;simp only[go_sem];refine rN (ln:=ln) (cl:=cl) (q:=q) (d:=d) hT hlen2 gH ?_;have hmono:=kK (fin:=aC ln cl) q;generalize eA (aC ln cl) (q)=p at hk hmono ⊢;have hple:=p.2.le;simp only[go_sem,bO];refine ⟨by decide,fun y hy=>by simp only[cE] at hy;subst hy;rfl,cW rfl rfl (by rw[aI];exact fA fun e=>by rw[hnil e];rfl) (fun y hy=>?_) (by simp only[aI,aF,aH];omega) (fun u hu=>?_)⟩
      ·simp only[bW] at hy;obtain ⟨z,_,rfl⟩:=hy;exact Tm.hz z
      have hfu:=kC hu hfree;rw[gY hu];simp only[go_sem];refine nG (ln:=ln) (cl:=cl) (q:=p.2) (d:=d) hT gH ?_;have hc:=gF [44] p.2;have hc2:=kV (x:=[44]) (q:=p.2);generalize dQ [44] p.2=c at hk hc hc2 ⊢;have hcle:=c.2.le;simp only[go_sem];refine ⟨((l++[p.1],some u),c.1,c.2,f),⟨fun e=>(by cases e),fun t e=>by cases e;exact hfu,by simp only[aR,aF,aH];omega,fun e=>⟨by have:=hc2 e;simp only[aR,aF,aH];omega,by have:=hc2 e;simp only;omega⟩,fun p' e=>by subst e;(first|exact hk|(simp only[go_sem] at hk;exact hk)|(simp only[go_sem] at hk;simp only[go_sem];exact hk))⟩,?_,?_⟩
      ·simp only;split
       ·rename_i e;have:=hc2 e;omega
       ·omega
      ·refine ⟨⟨?_,rfl⟩,?_⟩
       ·simp only[cL,cM,bK,bQ,bO,Tm.cs]
       ·simp only[cL,cM,bK,bQ,aR,aF,aH,bO,Tm.cs];exact aL
     | true =>
      rw[hb,if_pos rfl] at hk hm0;simp only[go_sem,gV hg];refine lX (ln:=ln) (cl:=cl) (q:=q) (d:=d) hT l.length 20 (by simp only[aJ,dN,gE,aT,ne_eq,dK,reduceIte,]<;>(first|done|rfl|assumption)) ?_;simp only[go_sem];refine rN (ln:=ln) (cl:=cl) (q:=bG (aC ln cl) l.length 20 q) (d:=d) hT hlen2 gH ?_;have hmono:=kK (fin:=aC ln cl) (bG (aC ln cl) l.length 20 q);generalize eA (aC ln cl) (bG (aC ln cl) l.length 20 q)=p at hk hmono ⊢;have hple:=p.2.le;simp only[go_sem,bO];refine ⟨by decide,fun y hy=>by simp only[cE] at hy;subst hy;rfl,cW rfl rfl (by rw[aI];exact fA fun e=>by rw[hnil e];rfl) (fun y hy=>?_) (by simp only[aI,aF,aH];omega) (fun u hu=>?_)⟩
      ·simp only[bW] at hy;obtain ⟨z,_,rfl⟩:=hy;exact Tm.hz z
      have hfu:=kC hu hfree;rw[gY hu];simp only[go_sem];refine nG (ln:=ln) (cl:=cl) (q:=p.2) (d:=d) hT gH ?_;have hc:=gF [44] p.2;have hc2:=kV (x:=[44]) (q:=p.2);generalize dQ [44] p.2=c at hk hc hc2 ⊢;have hcle:=c.2.le;simp only[go_sem];refine ⟨((l++[p.1],some u),c.1,c.2,f),⟨fun e=>(by cases e),fun t e=>by cases e;exact hfu,by simp only[aR,aF,aH];omega,fun e=>⟨by have:=hc2 e;simp only[aR,aF,aH];omega,by have:=hc2 e;simp only;omega⟩,fun p' e=>by subst e;(first|exact hk|(simp only[go_sem] at hk;exact hk)|(simp only[go_sem] at hk;simp only[go_sem];exact hk))⟩,?_,?_⟩
      ·simp only;split
       ·rename_i e;have:=hc2 e;omega
       ·omega
      ·refine ⟨⟨?_,rfl⟩,?_⟩
       ·simp only[cL,cM,bK,bQ,bO,Tm.cs]
       ·simp only[cL,cM,bK,bQ,aR,aF,aH,bO,Tm.cs];exact aL
end
end
section
section
variable {T:List Tok} {fin:Fault} {d:Dc} {first:Tok} {i n:Nat} {s:St} {r:Nat} {KV Kp:St→A→Prop}
structure EntQ (b2 b3 q r k:Nat) (s:St) (acc:List Tm) (tk:Option Nat) (i:Nat):Prop where
 len:acc.length≤i
 h2:s.getO b2=some (.cells 74 [.ptr r 0])
 h3:s.getO b3=some (.cells 3 [.int .i64 ((60-k:Nat):Int)])
 hq:s.getO q=none
 ne:q≠r∧q≠b2∧q≠b3∧r≠b2∧r≠b3
 nil:tk=none→acc=[]
 free:∀ t,tk=some t→s.getT t=none
def gT (T:List Tok) (fin:Fault) (d:Dc) (first:Tok) (kind:Int) (x:aD) (q r:Nat) (s:St) (acc:List Tm) (tk:Option Nat) (i n:Nat):St :=
 gs ((s.setO q (.cells 43 [.int .i64 kind,.int .i64 0,.str x,.str [],gv tk (acc.map Tm.enc),.nils])).setO r (bC T fin d first i n)) tk acc.length 43
theorem aNb (k b2 b3 q:Nat) (hk60:k≤60) (IH:vV T fin r k) (hT:TOk T) (acc:List Tm) (tk:Option Nat) (hQ:EntQ b2 b3 q r k s acc tk i) (hi:i≤T.length) (hn:n≤2000)
  (hk : (rD fin (eE false fin first k) acc (T.drop i) n).to (fun a w n' => ∀ j y,i ≤ j → j ≤ T.length → T.drop j = w → n' ≤ 2000 → EntQ b2 b3 q r k s a y j → KV (gT T fin d first 8 [] q r s a y j n') (.bool true))
   (fun f=>∀ s1 o,s1.gx s r→s1.getO r=some o→Kp s1 (.iface 36 f.enc))):Den cx 286 [.ptr q 0,.ptr b2 0,.ptr b3 0] KV Kp (gT T fin d first 8 [] q r s acc tk i n):=by
 obtain ⟨hac,h2,h3,hq,⟨n1,n2,n3,n4,n5⟩,hnil,hfree⟩:=hQ;have hlen:=hT.len;have ed:IntKind.i64.wrap (((60-k:Nat):Int)+1)=((61-k:Nat):Int):=by rw[bP _ (by omega)];congr 1;omega
 have hg:lS (gT T fin d first 8 [] q r s acc tk i n) tk (acc.map Tm.enc).length 43:=by rw[aI];exact fA fun e=>by rw[hnil e];rfl
 refine aG1 ?_;(refine aZ func286 [0,1,2,3] ?_;simp only[go_sem,ntmps286,Tryz.f286]);unfold gT;simp only[rD,bL] at hk;cases tk with
 | none =>
  obtain rfl:=hnil rfl;simp only[aIx];(refine aP (OT.l [0,1,2,3,4,6,7,5,8,9,11] (.pair 10 12)) [(5,[1])] ?_;simp only[go_sem,n1,n2,n3,n4,n5,n1.symm,n2.symm,n3.symm,n4.symm,n5.symm,h2,h3,ed]);refine IH _ d first i n _ _ (by rw[aT,aJ,if_pos rfl]<;>rfl) hi hn (aW hk (fun kk w m hk2 j hj hjT hw hm=>?_) (fun f h o=>?_))
  rotate_left
  ·simp only[go_sem];exact aO (h _ _ (pR (gX (eQ (cT hq (fF s r))) hfree) rfl) (by rw[dN,aT,aJ,if_pos rfl]<;>rfl))
  simp only[go_sem,n1,n2,n3,n4,n5,n1.symm,n2.symm,n3.symm,n4.symm,n5.symm,h2,h3,ed,Tm.hz];refine ⟨by decide,?_⟩;intro t ht;refine ⟨rfl,?_⟩;have hft:s.getT t=none:=ht;subst hw;refine dE aGj ?_;refine fH (T:=T) (fin:=fin) (d:=d) (first:=first) (i:=j) (n:=m) _ (by simp only[dN,aT,aJ,ne_eq,reduceIte,n1,dK]<;>(first|done|rfl)) hjT hT (aW hk2 (fun _ w2 m2 hk3 hlt hw2 hm2=>?_) (fun f h o=>?_));rotate_left
  ·simp only[go_sem];exact aO (h _ o (by repeat (first|exact fF _ _|refine sS ?_ rfl|refine pR ?_ rfl|refine gX ?_ (fun _ e=>by cases e;assumption)|refine eQ ?_|refine cT hq ?_)) (by simp only[dN,aT,aJ,ne_eq,reduceIte,n1,dK]<;>(first|done|rfl)))
  subst hw2 hm2;simp only[go_sem,n1,n2,n3,n4,n5,n1.symm,n2.symm,n3.symm,n4.symm,n5.symm,h2,h3,ed];(refine aP (OT.l [0,1,2,3,4,6,7,5,8,9,11] (.pair 10 12)) [(5,[1])] ?_;simp only[go_sem,n1,n2,n3,n4,n5,n1.symm,n2.symm,n3.symm,n4.symm,n5.symm,h2,h3,ed]);refine IH _ d first (j+1) _ _ _ (by simp only[dN,aT,aJ,ne_eq,reduceIte,n1,dK]<;>(first|done|rfl)) hlt hm (aW hk3 (fun vv w3 m3 hk4 j3 hj3 hjT3 hw3 hm3=>?_) (fun f h o=>?_))
  rotate_left
  ·simp only[go_sem];exact aO (h _ o (by repeat (first|exact fF _ _|refine sS ?_ rfl|refine pR ?_ rfl|refine gX ?_ (fun _ e=>by cases e;assumption)|refine eQ ?_|refine cT hq ?_)) (by simp only[dN,aT,aJ,ne_eq,reduceIte,n1,dK]<;>(first|done|rfl)))
  simp only[go_sem,n1,n2,n3,n4,n5,n1.symm,n2.symm,n3.symm,n4.symm,n5.symm,h2,h3,ed,Tm.hz];refine ⟨by decide,⟨by rw[vH,eZ,if_pos rfl],fun y hy=>?_⟩,fun t2 ht2=>?_⟩
  ·simp only[cE] at hy;subst hy;rfl
  have hft2:s.getT t2=none:=aHB ht2 hft (fun _=>rfl);have hk5:=hk4 j3 (some t2) (by omega) hjT3 hw3 hm3 ⟨by simp only[aR,aF,aH] at hac ⊢;omega,h2,h3,hq,⟨n1,n2,n3,n4,n5⟩,fun e=>(by cases e),fun t' e=>by cases e;exact hft2⟩;simp only[gT,cL] at hk5;rw[show (([]:List Tm)++[kk,vv]).length=2 by simp] at hk5;refine aM (s2:=(gs ((s.setO q (.cells 43 [.int .i64 8,.int .i64 0,.str [],.str [],.list (some t2) ((([]:List Tm)++[kk,vv]).map Tm.enc),.nils])).setO r (bC T fin d first j3 m3)) (some t2) (2) 43).setL none) hk5 ?_;refine aGA hft (fun b o hb=>?_) (fun _=>rfl) (by simp);simp only[aJ] at hb ⊢;by_cases hb1:q=b
  ·subst hb1;simp only[n1,n1.symm,if_true,if_false] at hb ⊢;simpa [bO,Tm.cs] using hb
  ·by_cases hb2:r=b
   ·simp only[hb1,hb2,if_true,if_false] at hb ⊢;exact hb
   ·simp only[hb1,hb2,if_false] at hb ⊢;exact hb
 | some u =>
  simp only[cL];(refine aP (OT.l [0,1,2,3,4,6,7,5,8,9,11] (.pair 10 12)) [(5,[1])] ?_;simp only[go_sem,n1,n2,n3,n4,n5,n1.symm,n2.symm,n3.symm,n4.symm,n5.symm,h2,h3,ed]);refine IH _ d first i n _ _ (by rw[aT,aJ,if_pos rfl]<;>rfl) hi hn (aW hk (fun kk w m hk2 j hj hjT hw hm=>?_) (fun f h o=>?_))
  rotate_left
  ·simp only[go_sem];exact aO (h _ _ (pR (gX (eQ (cT hq (fF s r))) hfree) rfl) (by rw[dN,aT,aJ,if_pos rfl]<;>rfl))
  simp only[go_sem,n1,n2,n3,n4,n5,n1.symm,n2.symm,n3.symm,n4.symm,n5.symm,h2,h3,ed,Tm.hz];refine ⟨by decide,?_⟩;refine ⟨⟨by rw[eZ,if_pos rfl],fun y hy=>?_,by omega⟩,fun t ht=>?_⟩
  ·simp only[bW] at hy;obtain ⟨z,_,rfl⟩:=hy;exact Tm.hz z
  have hft:s.getT t=none:=aBW ht (hfree u rfl) (fun _=>rfl);subst hw;refine dE (aDM (hfree u rfl)) ?_;refine fH (T:=T) (fin:=fin) (d:=d) (first:=first) (i:=j) (n:=m) _ (by simp only[dN,aT,aJ,ne_eq,reduceIte,n1,dK]<;>(first|done|rfl)) hjT hT (aW hk2 (fun _ w2 m2 hk3 hlt hw2 hm2=>?_) (fun f h o=>?_));rotate_left
  ·simp only[go_sem];exact aO (h _ o (by repeat (first|exact fF _ _|refine sS ?_ rfl|refine pR ?_ rfl|refine gX ?_ (fun _ e=>by cases e;assumption)|refine eQ ?_|refine cT hq ?_)) (by simp only[dN,aT,aJ,ne_eq,reduceIte,n1,dK]<;>(first|done|rfl)))
  subst hw2 hm2;simp only[go_sem,n1,n2,n3,n4,n5,n1.symm,n2.symm,n3.symm,n4.symm,n5.symm,h2,h3,ed];(refine aP (OT.l [0,1,2,3,4,6,7,5,8,9,11] (.pair 10 12)) [(5,[1])] ?_;simp only[go_sem,n1,n2,n3,n4,n5,n1.symm,n2.symm,n3.symm,n4.symm,n5.symm,h2,h3,ed]);refine IH _ d first (j+1) _ _ _ (by simp only[dN,aT,aJ,ne_eq,reduceIte,n1,dK]<;>(first|done|rfl)) hlt hm (aW hk3 (fun vv w3 m3 hk4 j3 hj3 hjT3 hw3 hm3=>?_) (fun f h o=>?_))
  rotate_left
  ·simp only[go_sem];exact aO (h _ o (by repeat (first|exact fF _ _|refine sS ?_ rfl|refine pR ?_ rfl|refine gX ?_ (fun _ e=>by cases e;assumption)|refine eQ ?_|refine cT hq ?_)) (by simp only[dN,aT,aJ,ne_eq,reduceIte,n1,dK]<;>(first|done|rfl)))
  simp only[go_sem,n1,n2,n3,n4,n5,n1.symm,n2.symm,n3.symm,n4.symm,n5.symm,h2,h3,ed,Tm.hz];refine ⟨by decide,⟨by rw[vH,eZ,if_pos rfl];simp,fun y hy=>?_,by simp;omega⟩,fun t2 ht2=>?_⟩
  ·rcases kR.1 hy with hy|hy
   ·simp only[bW] at hy;obtain ⟨z,_,rfl⟩:=hy;exact Tm.hz z
   ·simp only[cE] at hy;subst hy;rfl
  have hft2:s.getT t2=none:=aHB ht2 hft (fun _=>rfl);have hk5:=hk4 j3 (some t2) (by omega) hjT3 hw3 hm3 ⟨by simp only[aR,aF,aH] at hac ⊢;omega,h2,h3,hq,⟨n1,n2,n3,n4,n5⟩,fun e=>(by cases e),fun t' e=>by cases e;exact hft2⟩;simp only[gT,cL] at hk5;rw[show (acc++[kk,vv]).length=acc.length+2 by simp] at hk5;refine aM (s2:=(gs ((s.setO q (.cells 43 [.int .i64 8,.int .i64 0,.str [],.str [],.list (some t2) ((acc++[kk,vv]).map Tm.enc),.nils])).setO r (bC T fin d first j3 m3)) (some t2) (acc.length+2) 43).setL none) hk5 ?_;refine aGA hft (fun b o hb=>?_) (fun _=>rfl) (by simp);simp only[aJ] at hb ⊢;by_cases hb1:q=b
  ·subst hb1;simp only[n1,n1.symm,if_true,if_false] at hb ⊢;simpa [bO,Tm.cs] using hb
  ·by_cases hb2:r=b
   ·simp only[hb1,hb2,if_true,if_false] at hb ⊢;exact hb
   ·simp only[hb1,hb2,if_false] at hb ⊢;exact hb
end
end
section
section
variable {T:List Tok} {fin:Fault} {d:Dc} {first:Tok} {i n:Nat} {s:St} {r:Nat} {KV Kp:St→A→Prop}
theorem EntQ.setT {b2 b3 q r k:Nat} {s:St} {acc:List Tm} {tk:Option Nat} {i t:Nat} {v:Nat × TypeId} (h:EntQ b2 b3 q r k s acc tk i) (ht:tk≠some t):EntQ b2 b3 q r k (s.setT t v) acc tk i :=
 ⟨h.len,h.h2,h.h3,h.hq,h.ne,h.nil,fun u hu => by
  rw[cO,if_neg (fun e=>ht (by rw[hu,e]))];exact h.free u hu⟩
theorem EntQ.unT {b2 b3 q r k:Nat} {s:St} {acc:List Tm} {tk:Option Nat} {i t:Nat} {v:Nat × TypeId} (h:EntQ b2 b3 q r k (s.setT t v) acc tk i):tk≠some t∧∀ u,tk=some u→s.getT u=none:=by
 have h1:tk≠some t:=fun e=>by
  have:=h.free t e;rw[cO,if_pos rfl] at this;cases this
 refine ⟨h1,fun u hu=>?_⟩;have:=h.free u hu;rw[cO] at this;split at this
 ·cases this
 ·exact this
theorem EntQ.dropT {b2 b3 q r k:Nat} {s:St} {acc:List Tm} {tk:Option Nat} {i t:Nat} {v:Nat × TypeId} (h:EntQ b2 b3 q r k (s.setT t v) acc tk i):EntQ b2 b3 q r k s acc tk i :=
 ⟨h.len,h.h2,h.h3,h.hq,h.ne,h.nil,h.unT.2⟩
section
variable {kind:Int} {x:aD} {q:Nat} {acc:List Tm} {tk:Option Nat} {t:Nat} {v u:Nat × TypeId}
theorem xK:(gT T fin d first kind x q r s acc tk i n).getT t=if tk=some t then some (acc.length,43) else s.getT t:=eZ _ _ _ _ _
theorem aGW (h:tk≠some t):((gT T fin d first kind x q r s acc tk i n).setT t v).ge (gT T fin d first kind x q r (s.setT t v) acc tk i n):=aEU h
theorem aG2 (h:tk≠some t):((gT T fin d first kind x q r (s.setT t v) acc tk i n).setT t u).ge (gT T fin d first kind x q r (s.setT t u) acc tk i n):=by
 refine ⟨fun b o ho=>by rw[gE];unfold gT at *;rw[aT] at *;exact ho,fun c m hm=>?_,fun y hy=>by cases tk<;>exact hy⟩;rw[xK,cO] at hm;rw[cO,xK,cO];by_cases htc:t=c
 ·subst htc;rw[if_neg h,if_pos rfl] at hm;rw[if_pos rfl];exact hm
 ·rw[if_neg htc] at hm ⊢;rw[if_neg htc];exact hm
theorem aGQ (h:s.getT t=none):(gT T fin d first kind x q r (s.setT t v) acc tk i n).ge (gT T fin d first kind x q r s acc tk i n) :=
 aHW (fun b o ho=>ho) (fun y hy=>hy) (fun c m _ hm=>by
  show (s.setT t v).getT c=some m;have hm':s.getT c=some m:=hm;rw[cO];by_cases htc:t=c
  ·subst htc;rw[h] at hm';cases hm'
  ·rw[if_neg htc];exact hm')
theorem aJu (hq:q≠r):(gT T fin d first kind x q r s acc tk i n).getO r=some (bC T fin d first i n):=by
 unfold gT;rw[aT,aJ,if_pos rfl]
theorem aHu:((gT T fin d first kind x q r s acc tk i n).setO r (bC T fin d first (i+1) n)).ge (gT T fin d first kind x q r s acc tk (i+1) n):=by
 unfold gT;rw[aB5,lZ];exact bA _
end
theorem aLf (k:Nat) (hk60:k≤60) (IH:vV T fin r k) (hr:s.getO r=some (bC T fin d first i n)) (hi:i≤T.length) (hT:TOk T) (hn:n≤2000)
  (hk : ((if bI [124] (T.drop i) = true ∨ bI [125] (T.drop i) = true then Rd.ok [] (T.drop i) n else dH fin [44] (rD fin (eE false fin first k)) ((T.drop i).length + 1) [] (T.drop i) n).bind fun l w n =>
   (nP fin first (decide (k=0)) [77,97,112] w n).bind fun r w n=>(cV fin [125] w n).bind fun _ w n=>.ok (.mk 8 0 [] [] l r) w n).to (PK T i (fun j m=>s.setO r (bC T fin d first j m)) Tm.enc KV) (PB s r Kp)) :
  Den cx 243 [.ptr r 0,.int .i64 ((60-k:Nat):Int)] KV Kp s:=by
 (refine aZ func243 [0,1,2,3,4,5,6,16] ?_;simp only[go_sem,ntmps243,Tryz.f243]);(intro b2 hb2;try simp only[aV,ne_eq] at hb2);simp only[go_sem,hb2];(intro b3 hb3;try simp only[aV,ne_eq] at hb3);simp only[go_sem,hb2,hb3];(intro b4 hb4;try simp only[aV,ne_eq] at hb4);simp only[go_sem,hb2,hb3,hb4];(intro b5 hb5;try simp only[aV,ne_eq] at hb5);have e2:=cF hr hb2;have e3:=cF hr hb3.2;have e4:=cF hr hb4.2.2;have e5:=cF hr hb5.2.2.2;have ek:decide (60-k=60)=decide (k=0):=by rw[lW];omega
 simp only[go_sem,hb2,hb3,hb4,hb5,e2,e3,e4,e5];refine nN (T:=T) (fin:=fin) (d:=d) (first:=first) (i:=i) (n:=n) _ gH hi ?_;simp only[go_sem,hb2,hb3,hb4,hb5,e2,e3,e4,e5];cases cA:bI [124] (T.drop i)
 ·simp only[go_sem,hb2,hb3,hb4,hb5,e2,e3,e4,e5,cA];refine nN (T:=T) (fin:=fin) (d:=d) (first:=first) (i:=i) (n:=n) _ gH hi ?_;simp only[go_sem,hb2,hb3,hb4,hb5,e2,e3,e4,e5,cA];cases cB:bI [125] (T.drop i)
  ·simp only[go_sem,hb2,hb3,hb4,hb5,e2,e3,e4,e5,cA,cB];rw[if_neg (by rw[cA,cB];simp),bL] at hk
   refine dE (lY gH) (aDE (fin:=fin) (σ:=List Tm) (α:=Unit) (X:=Option Nat) (r:=r) (fun _=>.bool true) (fun _=>rfl) (fun _=>rfl) hT
    (fun s' acc tk i n=>gT T fin d first 8 [] b5 r s' acc tk i n) (fun s' acc tk i=>EntQ b2 b3 b5 r k s' acc tk i) (fun acc w n=>(rD fin (eE false fin first k) acc w n).bind fun a w n=>.ok (a,()) w n) 286 [] [.ptr b5 0,.ptr b2 0,.ptr b3 0]
    (fun s' a x i n=>⟨d,first,aJu e5.2,aHu⟩) (fun s' a x i n t v h ht=>?_) (fun s' a x i n t v u ht h=>?_) (fun s' a x i n t v ht h=>⟨h.dropT,aGQ ht⟩)
    (fun s' a x i h=>⟨by have:=h.len;omega,h.h2,h.h3,h.hq,h.ne,h.nil,h.free⟩) (fun s' a x i n h=>gX (eQ (cT h.hq (fF _ _))) h.free)
    (fun s' a x i n KV' Kp' h hi' hn' hk'=>aNb k b2 b3 b5 hk60 IH hT a x h hi' hn' (by rw[bL] at hk';exact aW hk' (fun _ _ _ h=>h) (fun _ h=>h)))
    [] none i n ?_ hi hn ?_)
   ·have ht':=ht;rw[xK] at ht';have hx:x≠some t:=fun e=>by rw[if_pos e] at ht';cases ht'
    rw[if_neg hx] at ht';exact ⟨ht',h.setT hx,aGW hx⟩
   ·have hx:=h.unT.1;refine ⟨by rw[xK,if_neg hx,cO,if_pos rfl],h.dropT.setT hx,aG2 hx⟩
   ·refine ⟨bS _,gH,gH,?_,⟨e5.2,hb5.2.2.1.2,hb5.2.1.2,e2.1,e3.1⟩,fun _=>rfl,fun t e=>(by cases e)⟩;simp only[aJ,ne_eq,reduceIte,hb5]
   refine aW (aBF _ _ _ _ _ [] _ _ _ _ hk) (fun c w m hk2 j y hj hjT hw hm hy=>?_) (fun f h s1 o hg hr1=>h.at (hg.trans aQ) hr1);obtain ⟨l,ul⟩:=c;simp only at hk2 hy;subst hw;rw[bL,← ek] at hk2;have hfy:∀ t,y=some t→s.getT t=none:=hy.free
   have hny:=hy.nil;simp only[gT];simp only[go_sem,hb2,hb3,hb4,hb5,e2,e3,e4,e5];refine xX (T:=T) (fin:=fin) (d:=d) (first:=first) (i:=j) (n:=m) (60-k) _ (by simp only[dN,aT,aJ,ne_eq,reduceIte,dK,hb2,hb3,hb4,hb5,e2,e3,e4,e5]<;>(first|done|rfl|assumption)) hjT hT hm (aW hk2 (fun rs w2 m2 hk3 j2 hj2 hjT2 hw2 hm2=>?_) (fun f h=>PB.mk (by repeat (first|exact fF _ _|refine gX ?_ hfy|refine eQ ?_|refine cT hb2 ?_|refine cT hb3.2 ?_|refine cT hb4.2.2 ?_|refine cT hb5.2.2.2 ?_)) h));subst hw2;simp only[go_sem,hb2,hb3,hb4,hb5,e2,e3,e4,e5];refine fH (T:=T) (fin:=fin) (d:=d) (first:=first) (i:=j2) (n:=m2) _ (by simp only[dN,aT,aJ,ne_eq,reduceIte,dK,hb2,hb3,hb4,hb5,e2,e3,e4,e5]<;>(first|done|rfl|assumption)) hjT2 hT ?_;rw[bL] at hk3;refine aW hk3 (fun _ w3 m3 hk4 hlt3 hw3 hm3=>?_) (fun f h=>PB.mk (by repeat (first|exact fF _ _|refine gX ?_ hfy|refine eQ ?_|refine cT hb2 ?_|refine cT hb3.2 ?_|refine cT hb4.2.2 ?_|refine cT hb5.2.2.2 ?_)) h);rw[bU] at hk4;subst hm3;simp only[go_sem,hb2,hb3,hb4,hb5,e2,e3,e4,e5];refine ⟨lM y _,?_⟩;refine DK.mk (hk4 (j2+1) (by omega) hlt3 hw3 hm2) (St.gx.ge (by repeat (first|exact fF _ _|refine gX ?_ hfy|refine eQ ?_|refine cT hb2 ?_|refine cT hb3.2 ?_|refine cT hb4.2.2 ?_|refine cT hb5.2.2.2 ?_)) (by simp only[dN,aT,aJ,ne_eq,reduceIte,dK,hb2,hb3,hb4,hb5,e2,e3,e4,e5]<;>(first|done|rfl|assumption))) ?_;rw[bO];exact A.le.agg ⟨⟨aK _,rfl⟩,⟨aK _,rfl⟩,⟨aK _,rfl⟩,⟨aK _,rfl⟩,⟨fN y _ (fun e=>by rw[hny e];rfl),rfl⟩,⟨aK _,rfl⟩,trivial⟩
  ·(try simp only[go_sem,hb2,hb3,hb4,hb5,e2,e3,e4,e5,cA,cB])
   rw[if_pos (by simp[cA,cB]),bL,bU,bL,← ek] at hk;have hfy:∀ t:Nat,(none:Option Nat)=some t→s.getT t=none:=fun t e=>by cases e
   refine xX (T:=T) (fin:=fin) (d:=d) (first:=first) (i:=i) (n:=n) (60-k) _ (by simp only[dN,aT,aJ,ne_eq,reduceIte,dK,hb2,hb3,hb4,hb5,e2,e3,e4,e5]<;>(first|done|rfl|assumption)) hi hT hn (aW hk (fun rs w2 m2 hk3 j2 hj2 hjT2 hw2 hm2=>?_) (fun f h=>PB.mk (by repeat (first|exact fF _ _|refine gX ?_ hfy|refine eQ ?_|refine cT hb2 ?_|refine cT hb3.2 ?_|refine cT hb4.2.2 ?_|refine cT hb5.2.2.2 ?_)) h));subst hw2;simp only[go_sem,hb2,hb3,hb4,hb5,e2,e3,e4,e5];refine fH (T:=T) (fin:=fin) (d:=d) (first:=first) (i:=j2) (n:=m2) _ (by simp only[dN,aT,aJ,ne_eq,reduceIte,dK,hb2,hb3,hb4,hb5,e2,e3,e4,e5]<;>(first|done|rfl|assumption)) hjT2 hT ?_;rw[bL] at hk3;refine aW hk3 (fun _ w3 m3 hk4 hlt3 hw3 hm3=>?_) (fun f h=>PB.mk (by repeat (first|exact fF _ _|refine gX ?_ hfy|refine eQ ?_|refine cT hb2 ?_|refine cT hb3.2 ?_|refine cT hb4.2.2 ?_|refine cT hb5.2.2.2 ?_)) h);rw[bU] at hk4;subst hm3;simp only[go_sem,hb2,hb3,hb4,hb5,e2,e3,e4,e5];refine DK.mk (hk4 (j2+1) (by omega) hlt3 hw3 hm2) (St.gx.ge (by repeat (first|exact fF _ _|refine gX ?_ hfy|refine eQ ?_|refine cT hb2 ?_|refine cT hb3.2 ?_|refine cT hb4.2.2 ?_|refine cT hb5.2.2.2 ?_)) (by simp only[dN,aT,aJ,ne_eq,reduceIte,dK,hb2,hb3,hb4,hb5,e2,e3,e4,e5]<;>(first|done|rfl|assumption))) ?_;rw[bO];exact A.le.agg ⟨⟨aK _,rfl⟩,⟨aK _,rfl⟩,⟨aK _,rfl⟩,⟨aK _,rfl⟩,⟨A.le.nil,rfl⟩,⟨aK _,rfl⟩,trivial⟩
 ·(try simp only[go_sem,hb2,hb3,hb4,hb5,e2,e3,e4,e5,cA])
  rw[if_pos (by simp[cA]),bL,bU,bL,← ek] at hk;have hfy:∀ t:Nat,(none:Option Nat)=some t→s.getT t=none:=fun t e=>by cases e
  refine xX (T:=T) (fin:=fin) (d:=d) (first:=first) (i:=i) (n:=n) (60-k) _ (by simp only[dN,aT,aJ,ne_eq,reduceIte,dK,hb2,hb3,hb4,hb5,e2,e3,e4,e5]<;>(first|done|rfl|assumption)) hi hT hn (aW hk (fun rs w2 m2 hk3 j2 hj2 hjT2 hw2 hm2=>?_) (fun f h=>PB.mk (by repeat (first|exact fF _ _|refine gX ?_ hfy|refine eQ ?_|refine cT hb2 ?_|refine cT hb3.2 ?_|refine cT hb4.2.2 ?_|refine cT hb5.2.2.2 ?_)) h));subst hw2;simp only[go_sem,hb2,hb3,hb4,hb5,e2,e3,e4,e5];refine fH (T:=T) (fin:=fin) (d:=d) (first:=first) (i:=j2) (n:=m2) _ (by simp only[dN,aT,aJ,ne_eq,reduceIte,dK,hb2,hb3,hb4,hb5,e2,e3,e4,e5]<;>(first|done|rfl|assumption)) hjT2 hT ?_;rw[bL] at hk3;refine aW hk3 (fun _ w3 m3 hk4 hlt3 hw3 hm3=>?_) (fun f h=>PB.mk (by repeat (first|exact fF _ _|refine gX ?_ hfy|refine eQ ?_|refine cT hb2 ?_|refine cT hb3.2 ?_|refine cT hb4.2.2 ?_|refine cT hb5.2.2.2 ?_)) h);rw[bU] at hk4;subst hm3;simp only[go_sem,hb2,hb3,hb4,hb5,e2,e3,e4,e5];refine DK.mk (hk4 (j2+1) (by omega) hlt3 hw3 hm2) (St.gx.ge (by repeat (first|exact fF _ _|refine gX ?_ hfy|refine eQ ?_|refine cT hb2 ?_|refine cT hb3.2 ?_|refine cT hb4.2.2 ?_|refine cT hb5.2.2.2 ?_)) (by simp only[dN,aT,aJ,ne_eq,reduceIte,dK,hb2,hb3,hb4,hb5,e2,e3,e4,e5]<;>(first|done|rfl|assumption))) ?_;rw[bO];exact A.le.agg ⟨⟨aK _,rfl⟩,⟨aK _,rfl⟩,⟨aK _,rfl⟩,⟨aK _,rfl⟩,⟨A.le.nil,rfl⟩,⟨aK _,rfl⟩,trivial⟩
end
end
end Go.AV
