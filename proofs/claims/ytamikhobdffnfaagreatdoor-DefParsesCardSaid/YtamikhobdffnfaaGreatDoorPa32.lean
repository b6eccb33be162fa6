/-
  Of DefParses.
-/
import Derived.Test.YtamikhobdffnfaaGreatDoorPa31
set_option linter.all false
set_option maxRecDepth 99999
set_option maxHeartbeats 0
namespace Go.AV
open Go Go.Proofs Tryz
section
def EqI {α:Type} (r:α→α→Bool) (xs ys:List α) (i:Nat):Prop:=i≤xs.length∧∀ (j:Nat) a b,j<i→xs[j]?=some a→ys[j]?=some b→r a b=true
section
variable {α:Type} {r:α→α→Bool} {xs ys:List α} {i:Nat} {a b:α}
theorem EqI.zero:EqI r xs ys 0:=⟨bS _,fun j _ _ h=>by omega⟩
theorem EqI.step (h:EqI r xs ys i) (ha:xs[i]?=some a) (hb:ys[i]?=some b) (hr:r a b=true):EqI r xs ys (i+1) :=
  ⟨(eT.1 ha).1,fun j x y hj hx hy => by
    by_cases hji:j=i
    · subst hji;rw[ha] at hx;rw[hb] at hy;cases hx;cases hy;exact hr
    · exact h.2 j x y (by omega) hx hy⟩
theorem rV (hlen:xs.length=ys.length) (ha:xs[i]?=some a) (hb:ys[i]?=some b) (hr:r a b=false):dB r xs ys=false:=by
 rw[vF];intro he;have:=(uD hlen).1 he i a b ha hb;rw[hr] at this;cases this
theorem rR (hlen:xs.length=ys.length) (h:EqI r xs ys i) (hi:¬ i<xs.length):dB r xs ys=true :=
 (uD hlen).2 fun j x y hx hy=>h.2 j x y (by have:=(eT.1 hx).1;omega) hx hy
theorem EqI.get (hlen:xs.length=ys.length) (hi:i<xs.length):∃ a b,xs[i]?=some a∧ys[i]?=some b∧i<ys.length :=
 ⟨_,_,cH hi,cH (by omega),by omega⟩
theorem rZ {en:α→A} (h:Rlz (.list none (xs.map en))) (hi:i<xs.length):IntKind.i64.wrap ((i:Int)+1)=((i+1:Nat):Int):=h.wrap (i:=i) (by simpa using hi)
end
theorem aKS (a b:Opr) (s:St) (KV Kp:St→A→Prop) (hk:KV s (.bool (a.same b))):Den cx 207 [.agg a.cs,.agg b.cs] KV Kp s:=by
 unfold Opr.same at hk;refine rS fun hz1=>?_
 have hza:=hz1 _ (rK ..);have hw1:Rlz (.list none (a.pieces.map Piece.enc)):=hza.cell (by simp[Opr.cs]);have hw2:Rlz (.list none (a.strict.map (.int .i64))):=hza.cell (by simp[Opr.cs]);simp only[go_sem];(refine aZ func207 [0,1,2,3,4,5,6,58,61,62,63,75,79,80,81,93] ?_;simp only[go_sem,ntmps207,f207]);(intro p hp;try simp only[aV,ne_eq] at hp);simp only[go_sem,hp];(intro q hq;try simp only[aV,ne_eq] at hq);simp only[go_sem,hp,hq]
 (first|refine dM (fun h=>?_) (fun h=>?_)|refine dJ (fun h=>?_) (fun h=>?_)|refine dL (fun h=>?_) (fun h=>?_))<;>simp only[go_sem,h,hp,hq]<;>(try simp only[h,dY,cQ,fK,cZ,iX,fO,iI,eD,dT,fD] at hk)
 ·have h1:decide (a.name=b.name)=false:=by simpa using h
  rw[h1] at hk;exact aM hk dA
 have h1:decide (a.name=b.name)=true:=by simpa using h
 (first|refine dM (fun h=>?_) (fun h=>?_)|refine dJ (fun h=>?_) (fun h=>?_)|refine dL (fun h=>?_) (fun h=>?_))<;>simp only[go_sem,h,hp,hq]<;>(try simp only[h,dY,cQ,fK,cZ,iX,fO,iI,eD,dT,fD] at hk)
 ·have h2:decide (a.sort=b.sort)=false:=by simpa using h
  rw[h1,h2] at hk;exact aM hk dA
 have h2:decide (a.sort=b.sort)=true:=by simpa using h
 (first|refine dM (fun h=>?_) (fun h=>?_)|refine dJ (fun h=>?_) (fun h=>?_)|refine dL (fun h=>?_) (fun h=>?_))<;>simp only[go_sem,h,hp,hq]<;>(try simp only[h,dY,cQ,fK,cZ,iX,fO,iI,eD,dT,fD] at hk)
 ·have h3:decide (a.prec=b.prec)=false:=by simpa using h
  rw[h1,h2,h3] at hk;exact aM hk dA
 have h3:decide (a.prec=b.prec)=true:=by simpa using h
 (first|refine dM (fun h=>?_) (fun h=>?_)|refine dJ (fun h=>?_) (fun h=>?_)|refine dL (fun h=>?_) (fun h=>?_))<;>simp only[go_sem,h,hp,hq]<;>(try simp only[h,dY,cQ,fK,cZ,iX,fO,iI,eD,dT,fD] at hk)
 ·have h4:decide (a.assoc=b.assoc)=false:=by simpa using h
  rw[h1,h2,h3,h4] at hk;exact aM hk dA
 have h4:decide (a.assoc=b.assoc)=true:=by simpa using h
 rw[h1,h2,h3,h4] at hk;simp only[dY] at hk;refine aDS a.args b.args _ _ _ ?_;simp only[go_sem,hp,hq]
 (first|refine dM (fun h=>?_) (fun h=>?_)|refine dJ (fun h=>?_) (fun h=>?_)|refine dL (fun h=>?_) (fun h=>?_))<;>simp only[go_sem,h,hp,hq]<;>(try simp only[h,dY,cQ,fK,cZ,iX,fO,iI,eD,dT,fD] at hk)
 ·have h5:dB (fun a b:aD=>decide (a=b)) a.args b.args=false:=by simpa using h
  rw[h5] at hk;exact aM hk dA
 have h5:dB (fun a b:aD=>decide (a=b)) a.args b.args=true:=by simpa using h
 rw[h5] at hk;simp only[dY] at hk
 (first|refine dM (fun h=>?_) (fun h=>?_)|refine dJ (fun h=>?_) (fun h=>?_)|refine dL (fun h=>?_) (fun h=>?_))<;>simp only[go_sem,h,hp,hq]<;>(try simp only[h,dY,cQ,fK,cZ,iX,fO,iI,eD,dT,fD] at hk)
 ·rw[oZ (by intro e;simp[e] at h)] at hk;exact aM hk dA
 have h6:a.pieces.length=b.pieces.length:=by simp at h;omega
 (first|refine dM (fun h=>?_) (fun h=>?_)|refine dJ (fun h=>?_) (fun h=>?_)|refine dL (fun h=>?_) (fun h=>?_))<;>simp only[go_sem,h,hp,hq]<;>(try simp only[h,dY,cQ,fK,cZ,iX,fO,iI,eD,dT,fD] at hk)
 ·rw[oZ (xs:=a.strict) (by intro e;simp[e] at h),cZ] at hk;exact aM hk dA
 have h7:a.strict.length=b.strict.length:=by simp at h;omega
 refine Ex.loop (ι:=Nat) (fun i=>[(2,.ptr p 0),(3,.ptr q 0),(61,.int .i64 a.pieces.length),(62,.int .i64 (i:Nat))]) (fun _=>(s.setO p (.cells 73 a.cs)).setO q (.cells 73 b.cs))
  (EqI (fun a b:Piece=>decide (a.text=b.text)&&decide (a.sort=b.sort)) a.pieces b.pieces) (fun i=>a.pieces.length-i) 0 EqI.zero ?_ (by exact bA _) ?_
 ·(simp only[go_sem,hp,hq];try exact rfl)
 ·rintro i hI;have hile:=hI.1;refine bV (V:=[0,1,2,3,4,5,6,58,61,62,63,75,79,80,81,93]) _ _ _ _ ?_;simp only[go_sem,hp,hq]
  (first|refine dM (fun h=>?_) (fun h=>?_)|refine dJ (fun h=>?_) (fun h=>?_)|refine dL (fun h=>?_) (fun h=>?_))<;>simp only[go_sem,h,hp,hq]
  ·have hix:i<a.pieces.length:=by simpa using h
   obtain ⟨x,y,hx,hy,hiy⟩:=EqI.get h6 hix;(refine aP (OT.r 0 11) [] ?_;simp only[go_sem,hp,hq,hx,hix,hy,hiy])
   (first|refine dM (fun h=>?_) (fun h=>?_)|refine dJ (fun h=>?_) (fun h=>?_)|refine dL (fun h=>?_) (fun h=>?_))<;>simp only[go_sem,h,hp,hq]
   ·have hr:(decide (x.text=y.text)&&decide (x.sort=y.sort))=false:=by simpa only[mM,fK] using h
    rw[rV h6 hx hy hr,cQ] at hk;exact aM hk dA
   ·have hr:(decide (x.text=y.text)&&decide (x.sort=y.sort))=true:=by simpa only[wU,fK] using h
    exact ⟨i+1,hI.step hx hy hr,by omega,by simp only[go_sem,rZ hw1 hix],by exact bA _⟩
  ·rw[rR h6 hI (by simpa using h),dY] at hk
   refine Ex.loop (ι:=Nat) (fun i=>[(2,.ptr p 0),(3,.ptr q 0),(79,.int .i64 a.strict.length),(80,.int .i64 (i:Nat))]) (fun _=>(s.setO p (.cells 73 a.cs)).setO q (.cells 73 b.cs))
    (EqI (fun a b:Int=>decide (a=b)) a.strict b.strict) (fun i=>a.strict.length-i) 0 EqI.zero ?_ (by exact bA _) ?_
   ·(simp only[go_sem,hp,hq];try exact rfl)
   ·clear h hI hile;rintro i hI;have hile:=hI.1;refine bV (V:=[0,1,2,3,4,5,6,58,61,62,63,75,79,80,81,93]) _ _ _ _ ?_;simp only[go_sem,hp,hq]
    (first|refine dM (fun h=>?_) (fun h=>?_)|refine dJ (fun h=>?_) (fun h=>?_)|refine dL (fun h=>?_) (fun h=>?_))<;>simp only[go_sem,h,hp,hq]
    ·have hix:i<a.strict.length:=by simpa using h
     obtain ⟨x,y,hx,hy,hiy⟩:=EqI.get h7 hix;(refine aP (OT.r 0 11) [] ?_;simp only[go_sem,hp,hq,hx,hix,hy,hiy])
     (first|refine dM (fun h=>?_) (fun h=>?_)|refine dJ (fun h=>?_) (fun h=>?_)|refine dL (fun h=>?_) (fun h=>?_))<;>simp only[go_sem,h,hp,hq]
     ·have hr:decide (x=y)=false:=by simpa using h
      rw[rV h7 hx hy hr] at hk;exact aM hk dA
     ·have hr:decide (x=y)=true:=by simpa using h
      exact ⟨i+1,hI.step hx hy hr,by omega,by simp only[go_sem,rZ hw2 hix],by exact bA _⟩
    ·rw[rR h7 hI (by simpa using h)] at hk;exact aM hk dA
end
theorem aBM (xs ys:List Tm) (s:St) (KV Kp:St→A→Prop) (hk:KV s (.bool (dB Tm.same xs ys))):Den cx 47 [.list none (xs.map Tm.enc),.list none (ys.map Tm.enc)] KV Kp s :=
 aDz xs ys s KV Kp (fun a b s' KV Kp _ h=>aGu a b s' KV Kp h) hk
theorem aFT (xs ys:List Opr) (s:St) (KV Kp:St→A→Prop) (hk:KV s (.bool (dB Opr.same xs ys))):Den cx 129 [.list none (xs.map Opr.enc),.list none (ys.map Opr.enc)] KV Kp s:=by
 refine rS fun hz1=>?_
 have hw1:=hz1 _ (rK ..);(refine aZ func129 [0,1,4,5,10,12,13,14,25] ?_;simp only[go_sem,ntmps129,Tryz.f129])
 (first|refine dM (fun h=>?_) (fun h=>?_)|refine dJ (fun h=>?_) (fun h=>?_)|refine dL (fun h=>?_) (fun h=>?_))<;>simp only[go_sem,h]
 ·exact aO (by rwa[oZ (by intro e;simp[e] at h)] at hk)
 have hlen:xs.length=ys.length:=by simp at h;omega
 refine Ex.loop (ι:=Nat) (fun i=>[(0,.list none (xs.map Opr.enc)),(1,.list none (ys.map Opr.enc)),(12,.int .i64 xs.length),(13,.int .i64 (i:Nat))]) (fun _=>s)
  (EqI Opr.same xs ys) (fun i=>xs.length-i) 0 EqI.zero ?_ (bA s) ?_
 ·(simp only[go_sem];try exact rfl)
 ·rintro i hI;have hile:=hI.1;refine bV (V:=[0,1,4,5,10,12,13,14,25]) _ _ _ _ ?_;simp only[go_sem]
  (first|refine dM (fun h=>?_) (fun h=>?_)|refine dJ (fun h=>?_) (fun h=>?_)|refine dL (fun h=>?_) (fun h=>?_))<;>simp only[go_sem,h]
  ·have hix:i<xs.length:=by simpa using h
   obtain ⟨x,y,hx,hy,hiy⟩:=EqI.get hlen hix;(refine aP (OT.r 0 10) [] ?_;simp only[go_sem,hx,hix,hy,hiy]);refine aKS x y _ _ _ ?_;simp only[go_sem]
   (first|refine dM (fun h=>?_) (fun h=>?_)|refine dJ (fun h=>?_) (fun h=>?_)|refine dL (fun h=>?_) (fun h=>?_))<;>simp only[go_sem,h]
   ·exact aO (by rwa[rV hlen hx hy (by simpa using h)] at hk)
   ·exact ⟨i+1,hI.step hx hy (by simpa using h),by omega,by simp only[go_sem,rZ hw1 hix],bA _⟩
  ·exact aO (by rwa[rR hlen hI (by simpa using h)] at hk)
theorem aLQ (a b:Sig) (s:St) (KV Kp:St→A→Prop) (hk:KV s (.bool (a.same b))):Den cx 65 [.agg a.cs,.agg b.cs] KV Kp s:=by
 refine rS fun hz1=>?_
 have hza:=hz1 _ (rK ..);have hw1:Rlz (.list none (a.below.map Below.enc)):=hza.cell (by simp[Sig.cs]);simp only[go_sem];(refine aZ func65 [0,1,2,3,4,5,44,47,48,49,61] ?_;simp only[go_sem,ntmps65,f65]);(intro p hp;try simp only[aV,ne_eq] at hp);simp only[go_sem,hp];(intro q hq;try simp only[aV,ne_eq] at hq);simp only[go_sem,hp,hq];refine aDS a.sorts b.sorts _ _ _ ?_;simp only[go_sem,hp,hq]
 (first|refine dM (fun h=>?_) (fun h=>?_)|refine dJ (fun h=>?_) (fun h=>?_)|refine dL (fun h=>?_) (fun h=>?_))<;>simp only[go_sem,h,hp,hq]
 ·rw[show a.same b=false by simp only[mM,wU] at h;simp only[Sig.same,h,cQ]] at hk;exact aM hk dA
 have h1:dB (fun a b:aD=>decide (a=b)) a.sorts b.sorts=true:=by simpa using h
 refine aDS a.values b.values _ _ _ ?_;simp only[go_sem,hp,hq]
 (first|refine dM (fun h=>?_) (fun h=>?_)|refine dJ (fun h=>?_) (fun h=>?_)|refine dL (fun h=>?_) (fun h=>?_))<;>simp only[go_sem,h,hp,hq]
 ·rw[show a.same b=false by simp only[mM,wU] at h;simp only[Sig.same,h,cQ,cZ]] at hk;exact aM hk dA
 have h2:dB (fun a b:aD=>decide (a=b)) a.values b.values=true:=by simpa using h
 (first|refine dM (fun h=>?_) (fun h=>?_)|refine dJ (fun h=>?_) (fun h=>?_)|refine dL (fun h=>?_) (fun h=>?_))<;>simp only[go_sem,h,hp,hq]
 ·rw[show a.same b=false by simp only[Sig.same,oZ (xs:=a.below) (ys:=b.below) (by intro e;simp[e] at h),cQ,cZ]] at hk;exact aM hk dA
 have h3:a.below.length=b.below.length:=by simp at h;omega
 refine aFT a.ops b.ops _ _ _ ?_;simp only[go_sem,hp,hq]
 (first|refine dM (fun h=>?_) (fun h=>?_)|refine dJ (fun h=>?_) (fun h=>?_)|refine dL (fun h=>?_) (fun h=>?_))<;>simp only[go_sem,h,hp,hq]
 ·rw[show a.same b=false by simp only[mM,wU] at h;simp only[Sig.same,h,cQ,cZ]] at hk;exact aM hk dA
 have h4:dB Opr.same a.ops b.ops=true:=by simpa using h
 refine aFT a.funs b.funs _ _ _ ?_;simp only[go_sem,hp,hq]
 (first|refine dM (fun h=>?_) (fun h=>?_)|refine dJ (fun h=>?_) (fun h=>?_)|refine dL (fun h=>?_) (fun h=>?_))<;>simp only[go_sem,h,hp,hq]
 ·rw[show a.same b=false by simp only[mM,wU] at h;simp only[Sig.same,h,cQ,cZ]] at hk;exact aM hk dA
 have h5:dB Opr.same a.funs b.funs=true:=by simpa using h
 simp only[Sig.same,h1,h2,h4,h5,dY,fK] at hk
 refine Ex.loop (ι:=Nat) (fun i=>[(2,.ptr p 0),(3,.ptr q 0),(47,.int .i64 a.below.length),(48,.int .i64 (i:Nat))]) (fun _=>(s.setO p (.cells 28 a.cs)).setO q (.cells 28 b.cs))
  (EqI (fun a b:Below=>decide (a.low=b.low)&&decide (a.high=b.high)) a.below b.below) (fun i=>a.below.length-i) 0 EqI.zero ?_ (by exact bA _) ?_
 ·(simp only[go_sem,hp,hq];try exact rfl)
 ·clear h;rintro i hI;have hile:=hI.1;refine bV (V:=[0,1,2,3,4,5,44,47,48,49,61]) _ _ _ _ ?_;simp only[go_sem,hp,hq]
  (first|refine dM (fun h=>?_) (fun h=>?_)|refine dJ (fun h=>?_) (fun h=>?_)|refine dL (fun h=>?_) (fun h=>?_))<;>simp only[go_sem,h,hp,hq]
  ·have hix:i<a.below.length:=by simpa using h
   obtain ⟨x,y,hx,hy,hiy⟩:=EqI.get h3 hix;(refine aP (OT.r 0 11) [] ?_;simp only[go_sem,hp,hq,hx,hix,hy,hiy])
   (first|refine dM (fun h=>?_) (fun h=>?_)|refine dJ (fun h=>?_) (fun h=>?_)|refine dL (fun h=>?_) (fun h=>?_))<;>simp only[go_sem,h,hp,hq]
   ·have hr:(decide (x.low=y.low)&&decide (x.high=y.high))=false:=by simpa only[mM,fK] using h
    rw[rV h3 hx hy hr] at hk;exact aM hk dA
   ·have hr:(decide (x.low=y.low)&&decide (x.high=y.high))=true:=by simpa only[wU,fK] using h
    exact ⟨i+1,hI.step hx hy hr,by omega,by simp only[go_sem,rZ hw1 hix],by exact bA _⟩
  ·rw[rR h3 hI (by simpa using h)] at hk;exact aM hk dA
theorem aFR (xs ys:List Cel) (s:St) (KV Kp:St→A→Prop) (hk:KV s (.bool (dB Cel.same xs ys))):Den cx 66 [.list none (xs.map Cel.enc),.list none (ys.map Cel.enc)] KV Kp s:=by
  refine rS fun hz1=>?_
  have hw1:=hz1 _ (rK ..);(refine aZ func66 [0,1,4,5,10,12,13,14,53] ?_;simp only[go_sem,ntmps66,f66])
  (first|refine dM (fun h=>?_) (fun h=>?_)|refine dJ (fun h=>?_) (fun h=>?_)|refine dL (fun h=>?_) (fun h=>?_))<;>simp only[go_sem,h]
  · exact aO (by rwa[oZ (by intro e;simp[e] at h)] at hk)
  have hlen:xs.length=ys.length:=by simp at h;omega
  refine Ex.loop (ι:=Nat) (fun i=>[(0,.list none (xs.map Cel.enc)),(1,.list none (ys.map Cel.enc)),(12,.int .i64 xs.length),(13,.int .i64 (i:Nat))]) (fun _=>s)
    (EqI Cel.same xs ys) (fun i=>xs.length-i) 0 EqI.zero ?_ (bA s) ?_
  · (simp only[go_sem];try exact rfl)
  · clear h
    rintro i hI;have hile:=hI.1;refine bV (V:=[0,1,4,5,10,12,13,14,53]) _ _ _ _ ?_;simp only[go_sem]
    (first|refine dM (fun h=>?_) (fun h=>?_)|refine dJ (fun h=>?_) (fun h=>?_)|refine dL (fun h=>?_) (fun h=>?_))<;>simp only[go_sem,h]
    · have hix:i<xs.length:=by simpa using h
      obtain ⟨x,y,hx,hy,hiy⟩:=EqI.get hlen hix;have hno:x.same y=false→KV s (.bool false):=fun hr=>by rwa[rV hlen hx hy hr] at hk
      (refine aP (OT.r 0 38) [] ?_;simp only[go_sem,hx,hix,hy,hiy])
      (first|refine dM (fun h=>?_) (fun h=>?_)|refine dJ (fun h=>?_) (fun h=>?_)|refine dL (fun h=>?_) (fun h=>?_))<;>simp only[go_sem,h,hx,hix,hy,hiy]
      · exact aO (hno (by have h1 : decide (x.name = y.name) = false := (by simpa using h); simp only[Cel.same,h1,cQ]))
      have h1:decide (x.name=y.name)=true:=by simpa using h
      (first|refine dM (fun h=>?_) (fun h=>?_)|refine dJ (fun h=>?_) (fun h=>?_)|refine dL (fun h=>?_) (fun h=>?_))<;>simp only[go_sem,h,hx,hix,hy,hiy]
      · exact aO (hno (by have h2 : decide (x.sort = y.sort) = false := (by simpa using h); simp only[Cel.same,h2,cQ,cZ]))
      have h2:decide (x.sort=y.sort)=true:=by simpa using h
      refine aBj x.init y.init _ _ _ ?_;simp only[go_sem]
      (first|refine dM (fun h=>?_) (fun h=>?_)|refine dJ (fun h=>?_) (fun h=>?_)|refine dL (fun h=>?_) (fun h=>?_))<;>simp only[go_sem,h]
      · exact aO (hno (by have h3 : x.init.same y.init = false := (by simpa using h); simp only[Cel.same,h3,cZ]))
      have h3:x.init.same y.init=true:=by simpa using h
      exact ⟨i+1,hI.step hx hy (by simp only[Cel.same,h1,h2,h3,Bool.and_self]),by omega,by simp only[go_sem,rZ hw1 hix],bA _⟩
    · exact aO (by rwa[rR hlen hI (by simpa using h)] at hk)
theorem aKG (a b:Rul) (s:St) (KV Kp:St→A→Prop) (hk:KV s (.bool (a.same b))):Den cx 67 [.agg a.cs,.agg b.cs] KV Kp s:=by
  refine rS fun hz1=>?_
  have hza:=hz1 _ (rK ..);have hw1:Rlz (.list none (a.parts.map Part.enc)):=hza.cell (by simp[Rul.cs]);have hw2:Rlz (.list none (a.new.map Fresh.enc)):=hza.cell (by simp[Rul.cs]);have hw3:Rlz (.list none (a.drop.map .str)):=hza.cell (by simp[Rul.cs]);clear hz1 hza;simp only[go_sem];(refine aZ func67 [0,1,2,3,4,5,6,7,8,9,49,51,52,53,54,90,94,95,96,111,115,116,117,129] ?_;simp only[go_sem,ntmps67,f67]);(intro p hp;try simp only[aV,ne_eq] at hp);simp only[go_sem,hp];(intro q hq;try simp only[aV,ne_eq] at hq);simp only[go_sem,hp,hq]
  (first|refine dM (fun h=>?_) (fun h=>?_)|refine dJ (fun h=>?_) (fun h=>?_)|refine dL (fun h=>?_) (fun h=>?_))<;>simp only[go_sem,h,hp,hq]
  · have h1:decide (a.name=b.name)=false:=by simpa using h
    rw[show a.same b=false by simp only[Rul.same,h1,cQ]] at hk;exact aM hk dA
  have h1:decide (a.name=b.name)=true:=by simpa using h
  (first|refine dM (fun h=>?_) (fun h=>?_)|refine dJ (fun h=>?_) (fun h=>?_)|refine dL (fun h=>?_) (fun h=>?_))<;>simp only[go_sem,h,hp,hq]
  · rw[show a.same b=false by simp only[Rul.same,oZ (xs:=a.parts) (ys:=b.parts) (by intro e;simp[e] at h),cQ,cZ]] at hk
    exact aM hk dA
  have h2:a.parts.length=b.parts.length:=by simp at h;omega
  refine aBM a.cond b.cond _ _ _ ?_;simp only[go_sem,hp,hq]
  (first|refine dM (fun h=>?_) (fun h=>?_)|refine dJ (fun h=>?_) (fun h=>?_)|refine dL (fun h=>?_) (fun h=>?_))<;>simp only[go_sem,h,hp,hq]
  · have h3:dB Tm.same a.cond b.cond=false:=by simpa using h
    rw[show a.same b=false by simp only[Rul.same,h3,cQ,cZ]] at hk;exact aM hk dA
  have h3:dB Tm.same a.cond b.cond=true:=by simpa using h
  (first|refine dM (fun h=>?_) (fun h=>?_)|refine dJ (fun h=>?_) (fun h=>?_)|refine dL (fun h=>?_) (fun h=>?_))<;>simp only[go_sem,h,hp,hq]
  · rw[show a.same b=false by simp only[Rul.same,oZ (xs:=a.new) (ys:=b.new) (by intro e;simp[e] at h),cQ,cZ]] at hk
    exact aM hk dA
  have h4:a.new.length=b.new.length:=by simp at h;omega
  (first|refine dM (fun h=>?_) (fun h=>?_)|refine dJ (fun h=>?_) (fun h=>?_)|refine dL (fun h=>?_) (fun h=>?_))<;>simp only[go_sem,h,hp,hq]
  · rw[show a.same b=false by simp only[Rul.same,oZ (xs:=a.drop) (ys:=b.drop) (by intro e;simp[e] at h),cZ]] at hk
    exact aM hk dA
  have h5:a.drop.length=b.drop.length:=by simp at h;omega
  simp only[Rul.same,h1,h3,dY] at hk
  refine Ex.loop (ι:=Nat) (fun i=>[(2,.ptr p 0),(3,.ptr q 0),(51,.list none (a.parts.map Part.enc)),(52,.int .i64 a.parts.length),(53,.int .i64 (i:Nat))]) (fun _=>(s.setO p (.cells 84 a.cs)).setO q (.cells 84 b.cs))
    (EqI Part.same a.parts b.parts) (fun i=>a.parts.length-i) 0 EqI.zero ?_ (by exact bA _) ?_
  · (simp only[go_sem,hp,hq];try exact rfl)
  · clear h
    rintro i hI;have hile:=hI.1;refine bV (V:=[0,1,2,3,4,5,6,7,8,9,49,51,52,53,54,90,94,95,96,111,115,116,117,129]) _ _ _ _ ?_;simp only[go_sem,hp,hq]
    (first|refine dM (fun h=>?_) (fun h=>?_)|refine dJ (fun h=>?_) (fun h=>?_)|refine dL (fun h=>?_) (fun h=>?_))<;>simp only[go_sem,h,hp,hq]
    · have hix:i<a.parts.length:=by simpa using h
      obtain ⟨x,y,hx,hy,hiy⟩:=EqI.get h2 hix;have hno:x.same y=false→KV s (.bool false):=fun hr=>by rwa[rV h2 hx hy hr,cQ] at hk
      simp only[go_sem,hp,hq,hx,hix];(intro b6 hb6;try simp only[aV,ne_eq] at hb6);simp only[go_sem,hp,hq,hx,hix,hy,hiy,hb6];(intro b7 hb7;try simp only[aV,ne_eq] at hb7);simp only[go_sem,hp,hq,hx,hix,hy,hiy,hb6,hb7];clear h
      (first|refine dM (fun h=>?_) (fun h=>?_)|refine dJ (fun h=>?_) (fun h=>?_)|refine dL (fun h=>?_) (fun h=>?_))<;>simp only[go_sem,h,hp,hq,hb6,hb7]
      · exact aM (hno (by have h6 : decide (x.cell = y.cell) = false := (by simpa using h); simp only[Part.same,h6,cQ])) dA
      have h6:decide (x.cell=y.cell)=true:=by simpa using h
      (first|refine dM (fun h=>?_) (fun h=>?_)|refine dJ (fun h=>?_) (fun h=>?_)|refine dL (fun h=>?_) (fun h=>?_))<;>simp only[go_sem,h,hp,hq,hb6,hb7]
      · exact aM (hno (by have h7 : decide (x.at_ = y.at_) = false := (by simpa using h); simp only[Part.same,h7,cQ,cZ])) dA
      have h7:decide (x.at_=y.at_)=true:=by simpa using h
      refine aBj x.left y.left _ _ _ ?_;simp only[go_sem,hp,hq,hb6,hb7]
      (first|refine dM (fun h=>?_) (fun h=>?_)|refine dJ (fun h=>?_) (fun h=>?_)|refine dL (fun h=>?_) (fun h=>?_))<;>simp only[go_sem,h,hp,hq,hb6,hb7]
      · exact aM (hno (by have h8 : x.left.same y.left = false := (by simpa using h); simp only[Part.same,h8,cQ,cZ])) dA
      have h8:x.left.same y.left=true:=by simpa using h
      refine aBM x.right y.right _ _ _ ?_;simp only[go_sem,hp,hq,hb6,hb7]
      (first|refine dM (fun h=>?_) (fun h=>?_)|refine dJ (fun h=>?_) (fun h=>?_)|refine dL (fun h=>?_) (fun h=>?_))<;>simp only[go_sem,h,hp,hq,hb6,hb7]
      · exact aM (hno (by have h9 : dB Tm.same x.right y.right = false := (by simpa using h); simp only[Part.same,h9,cQ,cZ])) dA
      have h9:dB Tm.same x.right y.right=true:=by simpa using h
      exact ⟨i+1,hI.step hx hy (by simp only[Part.same,h6,h7,h8,h9,Bool.and_self]),by omega,by simp only[go_sem,rZ hw1 hix],(by (repeat (first|(refine nI ?_ ?_;focus (simp only[aV,ne_eq,dK,mQ,hp,hq,hb6,hb7]<;>done))|exact bA _)))⟩
    · rw [rR h2 hI (by simpa using h),dY] at hk
      clear hI hile h
      refine Ex.loop (ι:=Nat) (fun i=>[(2,.ptr p 0),(3,.ptr q 0),(94,.int .i64 a.new.length),(95,.int .i64 (i:Nat))]) (fun _=>(s.setO p (.cells 84 a.cs)).setO q (.cells 84 b.cs))
        (EqI Fresh.same a.new b.new) (fun i=>a.new.length-i) 0 EqI.zero ?_ (by exact bA _) ?_
      · (simp only[go_sem,hp,hq];try exact rfl)
      · rintro i hI
        have hile:=hI.1;refine bV (V:=[0,1,2,3,4,5,6,7,8,9,49,51,52,53,54,90,94,95,96,111,115,116,117,129]) _ _ _ _ ?_;simp only[go_sem,hp,hq]
        (first|refine dM (fun h=>?_) (fun h=>?_)|refine dJ (fun h=>?_) (fun h=>?_)|refine dL (fun h=>?_) (fun h=>?_))<;>simp only[go_sem,h,hp,hq]
        · have hix:i<a.new.length:=by simpa using h
          obtain ⟨x,y,hx,hy,hiy⟩:=EqI.get h4 hix;(refine aP (OT.r 0 14) [] ?_;simp only[go_sem,hp,hq,hx,hix,hy,hiy]);refine aBM x.cells y.cells _ _ _ ?_;simp only[go_sem,hp,hq]
          (first|refine dM (fun h=>?_) (fun h=>?_)|refine dJ (fun h=>?_) (fun h=>?_)|refine dL (fun h=>?_) (fun h=>?_))<;>simp only[go_sem,h,hp,hq]
          · have hr:x.same y=false:=by simpa [Fresh.same] using h
            rw[rV h4 hx hy hr,cQ] at hk;exact aM hk dA
          · have hr:x.same y=true:=by simpa [Fresh.same] using h
            exact ⟨i+1,hI.step hx hy hr,by omega,by simp only[go_sem,rZ hw2 hix],by exact bA _⟩
        · rw [rR h4 hI (by simpa using h),dY] at hk
          clear hI hile h
          refine Ex.loop (ι:=Nat) (fun i=>[(2,.ptr p 0),(3,.ptr q 0),(115,.int .i64 a.drop.length),(116,.int .i64 (i:Nat))]) (fun _=>(s.setO p (.cells 84 a.cs)).setO q (.cells 84 b.cs))
            (EqI (fun a b:aD=>decide (a=b)) a.drop b.drop) (fun i=>a.drop.length-i) 0 EqI.zero ?_ (by exact bA _) ?_
          · (simp only[go_sem,hp,hq];try exact rfl)
          · rintro i hI
            have hile:=hI.1;refine bV (V:=[0,1,2,3,4,5,6,7,8,9,49,51,52,53,54,90,94,95,96,111,115,116,117,129]) _ _ _ _ ?_;simp only[go_sem,hp,hq]
            (first|refine dM (fun h=>?_) (fun h=>?_)|refine dJ (fun h=>?_) (fun h=>?_)|refine dL (fun h=>?_) (fun h=>?_))<;>simp only[go_sem,h,hp,hq]
            · have hix:i<a.drop.length:=by simpa using h
              obtain ⟨x,y,hx,hy,hiy⟩:=EqI.get h5 hix;(refine aP (OT.r 0 11) [] ?_;simp only[go_sem,hp,hq,hx,hix,hy,hiy])
              (first|refine dM (fun h=>?_) (fun h=>?_)|refine dJ (fun h=>?_) (fun h=>?_)|refine dL (fun h=>?_) (fun h=>?_))<;>simp only[go_sem,h,hp,hq]
              · have hr:decide (x=y)=false:=by simpa using h
                rw[rV h5 hx hy hr] at hk;exact aM hk dA
              · have hr:decide (x=y)=true:=by simpa using h
                exact ⟨i+1,hI.step hx hy hr,by omega,by simp only[go_sem,rZ hw3 hix],by exact bA _⟩
            · rw[rR h5 hI (by simpa using h)] at hk
              exact aM hk dA
theorem aMi (a b:Dfn) (s:St) (KV Kp:St→A→Prop) (hk:KV s (.bool (a.same b))):Den cx 29 [.agg a.cs,.agg b.cs] KV Kp s:=by
  refine rS fun hz1=>?_
  have hza:=hz1 _ (rK ..);have hw1:Rlz (.list none (a.eqs.map Eqn.enc)):=hza.cell (by simp[Dfn.cs]);have hw2:Rlz (.list none (a.rules.map Rul.enc)):=hza.cell (by simp[Dfn.cs]);clear hz1 hza;simp only[go_sem];(refine aZ func29 [0,1,2,3,4,5,6,7,75,77,78,79,80,117,121,122,123,136] ?_;simp only[go_sem,ntmps29,f29]);(intro p hp;try simp only[aV,ne_eq] at hp);simp only[go_sem,hp];(intro q hq;try simp only[aV,ne_eq] at hq);simp only[go_sem,hp,hq];simp only[List.append_eq,jZ,gQ];simp only[go_sem,hp,hq]
  (first|refine dM (fun h=>?_) (fun h=>?_)|refine dJ (fun h=>?_) (fun h=>?_)|refine dL (fun h=>?_) (fun h=>?_))<;>simp only[go_sem,h,hp,hq]
  · have h1:decide (a.name=b.name)=false:=by simpa using h
    rw[show a.same b=false by simp only[Dfn.same,h1,cQ]] at hk;exact aM hk dA
  have h1:decide (a.name=b.name)=true:=by simpa using h
  (first|refine dM (fun h=>?_) (fun h=>?_)|refine dJ (fun h=>?_) (fun h=>?_)|refine dL (fun h=>?_) (fun h=>?_))<;>simp only[go_sem,h,hp,hq]
  · have h2:decide (a.kind=b.kind)=false:=by simpa using h
    rw[show a.same b=false by simp only[Dfn.same,h2,cQ,cZ]] at hk;exact aM hk dA
  have h2:decide (a.kind=b.kind)=true:=by simpa using h
  (first|refine dM (fun h=>?_) (fun h=>?_)|refine dJ (fun h=>?_) (fun h=>?_)|refine dL (fun h=>?_) (fun h=>?_))<;>simp only[go_sem,h,hp,hq]
  · have h3:decide (a.start=b.start)=false:=by simpa using h
    rw[show a.same b=false by simp only[Dfn.same,h3,cQ,cZ]] at hk;exact aM hk dA
  have h3:decide (a.start=b.start)=true:=by simpa using h
  (first|refine dM (fun h=>?_) (fun h=>?_)|refine dJ (fun h=>?_) (fun h=>?_)|refine dL (fun h=>?_) (fun h=>?_))<;>simp only[go_sem,h,hp,hq]
  · have h4:decide (a.watch=b.watch)=false:=by simpa using h
    rw[show a.same b=false by simp only[Dfn.same,h4,cQ,cZ]] at hk;exact aM hk dA
  have h4:decide (a.watch=b.watch)=true:=by simpa using h
  refine aLQ a.sig b.sig _ _ _ ?_;simp only[go_sem,hp,hq]
  (first|refine dM (fun h=>?_) (fun h=>?_)|refine dJ (fun h=>?_) (fun h=>?_)|refine dL (fun h=>?_) (fun h=>?_))<;>simp only[go_sem,h,hp,hq]
  · have h5:a.sig.same b.sig=false:=by simpa using h
    rw[show a.same b=false by simp only[Dfn.same,h5,cQ,cZ]] at hk;exact aM hk dA
  have h5:a.sig.same b.sig=true:=by simpa using h
  (first|refine dM (fun h=>?_) (fun h=>?_)|refine dJ (fun h=>?_) (fun h=>?_)|refine dL (fun h=>?_) (fun h=>?_))<;>simp only[go_sem,h,hp,hq]
  · rw[show a.same b=false by simp only[Dfn.same,oZ (xs:=a.eqs) (ys:=b.eqs) (by intro e;simp[e] at h),cQ,cZ]] at hk
    exact aM hk dA
  have h6:a.eqs.length=b.eqs.length:=by simp at h;omega
  (first|refine dM (fun h=>?_) (fun h=>?_)|refine dJ (fun h=>?_) (fun h=>?_)|refine dL (fun h=>?_) (fun h=>?_))<;>simp only[go_sem,h,hp,hq]
  · rw[show a.same b=false by simp only[Dfn.same,oZ (xs:=a.rules) (ys:=b.rules) (by intro e;simp[e] at h),cZ]] at hk
    exact aM hk dA
  have h7:a.rules.length=b.rules.length:=by simp at h;omega
  refine aFR a.once b.once _ _ _ ?_;simp only[go_sem,hp,hq]
  (first|refine dM (fun h=>?_) (fun h=>?_)|refine dJ (fun h=>?_) (fun h=>?_)|refine dL (fun h=>?_) (fun h=>?_))<;>simp only[go_sem,h,hp,hq]
  · have h8:dB Cel.same a.once b.once=false:=by simpa using h
    rw[show a.same b=false by simp only[Dfn.same,h8,cQ,cZ]] at hk;exact aM hk dA
  have h8:dB Cel.same a.once b.once=true:=by simpa using h
  refine aFR a.many b.many _ _ _ ?_;simp only[go_sem,hp,hq]
  (first|refine dM (fun h=>?_) (fun h=>?_)|refine dJ (fun h=>?_) (fun h=>?_)|refine dL (fun h=>?_) (fun h=>?_))<;>simp only[go_sem,h,hp,hq]
  · have h9:dB Cel.same a.many b.many=false:=by simpa using h
    rw[show a.same b=false by simp only[Dfn.same,h9,cQ,cZ]] at hk;exact aM hk dA
  have h9:dB Cel.same a.many b.many=true:=by simpa using h
  simp only[Dfn.same,h1,h2,h3,h4,h5,h8,h9,dY] at hk
  refine Ex.loop (ι:=Nat) (fun i=>[(2,.ptr p 0),(3,.ptr q 0),(77,.list none (a.eqs.map Eqn.enc)),(78,.int .i64 a.eqs.length),(79,.int .i64 (i:Nat))]) (fun _=>(s.setO p (.cells 33 a.cs)).setO q (.cells 33 b.cs))
    (EqI Eqn.same a.eqs b.eqs) (fun i=>a.eqs.length-i) 0 EqI.zero ?_ (by exact bA _) ?_
  · (simp only[go_sem,hp,hq];try exact rfl)
  · clear h
    rintro i hI;have hile:=hI.1;refine bV (V:=[0,1,2,3,4,5,6,7,75,77,78,79,80,117,121,122,123,136]) _ _ _ _ ?_;simp only[go_sem,hp,hq]
    (first|refine dM (fun h=>?_) (fun h=>?_)|refine dJ (fun h=>?_) (fun h=>?_)|refine dL (fun h=>?_) (fun h=>?_))<;>simp only[go_sem,h,hp,hq]
    · have hix:i<a.eqs.length:=by simpa using h
      obtain ⟨x,y,hx,hy,hiy⟩:=EqI.get h6 hix;have hno:x.same y=false→KV s (.bool false):=fun hr=>by rwa[rV h6 hx hy hr,cQ] at hk
      simp only[go_sem,hp,hq,hx,hix];(intro b6 hb6;try simp only[aV,ne_eq] at hb6);simp only[go_sem,hp,hq,hx,hix,hb6];clear h;(refine aP (OT.r 0 34) [(8,[12,14,18,24,26,30]),(19,[24,26,30])] ?_;simp only[go_sem,hp,hq,hx,hix,hy,hiy,hb6]);refine aBj x.left y.left _ _ _ ?_;simp only[go_sem,hp,hq,hx,hix,hy,hiy,hb6]
      (first|refine dM (fun h=>?_) (fun h=>?_)|refine dJ (fun h=>?_) (fun h=>?_)|refine dL (fun h=>?_) (fun h=>?_))<;>simp only[go_sem,h,hp,hq,hx,hix,hy,hiy,hb6]
      · exact aM (hno (by have h8 : x.left.same y.left = false := (by simpa using h); simp only[Eqn.same,h8,cQ])) dA
      have h10:x.left.same y.left=true:=by simpa using h
      refine aBj x.right y.right _ _ _ ?_;simp only[go_sem,hp,hq,hx,hix,hy,hiy,hb6]
      (first|refine dM (fun h=>?_) (fun h=>?_)|refine dJ (fun h=>?_) (fun h=>?_)|refine dL (fun h=>?_) (fun h=>?_))<;>simp only[go_sem,h,hp,hq,hx,hix,hy,hiy,hb6]
      · exact aM (hno (by have h8 : x.right.same y.right = false := (by simpa using h); simp only[Eqn.same,h8,cQ,cZ])) dA
      have h11:x.right.same y.right=true:=by simpa using h
      refine aBM x.cond y.cond _ _ _ ?_;simp only[go_sem,hp,hq,hx,hix,hy,hiy,hb6]
      (first|refine dM (fun h=>?_) (fun h=>?_)|refine dJ (fun h=>?_) (fun h=>?_)|refine dL (fun h=>?_) (fun h=>?_))<;>simp only[go_sem,h,hp,hq,hx,hix,hy,hiy,hb6]
      · exact aM (hno (by have h8 : dB Tm.same x.cond y.cond = false := (by simpa using h); simp only[Eqn.same,h8,cQ,cZ])) dA
      have h12:dB Tm.same x.cond y.cond=true:=by simpa using h
      exact ⟨i+1,hI.step hx hy (by simp only[Eqn.same,h10,h11,h12,Bool.and_self]),by omega,by simp only[go_sem,rZ hw1 hix],(by (repeat (first|(refine nI ?_ ?_;focus (simp only[aV,ne_eq,dK,mQ,hp,hq,hb6]<;>done))|exact bA _)))⟩
    · rw [rR h6 hI (by simpa using h),dY] at hk
      clear hI hile h
      refine Ex.loop (ι:=Nat) (fun i=>[(2,.ptr p 0),(3,.ptr q 0),(121,.int .i64 a.rules.length),(122,.int .i64 (i:Nat))]) (fun _=>(s.setO p (.cells 33 a.cs)).setO q (.cells 33 b.cs))
        (EqI Rul.same a.rules b.rules) (fun i=>a.rules.length-i) 0 EqI.zero ?_ (by exact bA _) ?_
      · (simp only[go_sem,hp,hq];try exact rfl)
      · rintro i hI
        have hile:=hI.1;refine bV (V:=[0,1,2,3,4,5,6,7,75,77,78,79,80,117,121,122,123,136]) _ _ _ _ ?_;simp only[go_sem,hp,hq]
        (first|refine dM (fun h=>?_) (fun h=>?_)|refine dJ (fun h=>?_) (fun h=>?_)|refine dL (fun h=>?_) (fun h=>?_))<;>simp only[go_sem,h,hp,hq]
        · have hix:i<a.rules.length:=by simpa using h
          obtain ⟨x,y,hx,hy,hiy⟩:=EqI.get h7 hix;(refine aP (OT.r 0 12) [] ?_;simp only[go_sem,hp,hq,hx,hix,hy,hiy]);refine aKG x y _ _ _ ?_;simp only[go_sem,hp,hq]
          (first|refine dM (fun h=>?_) (fun h=>?_)|refine dJ (fun h=>?_) (fun h=>?_)|refine dL (fun h=>?_) (fun h=>?_))<;>simp only[go_sem,h,hp,hq]
          · have hr:x.same y=false:=by simpa using h
            rw[rV h7 hx hy hr] at hk;exact aM hk dA
          · have hr:x.same y=true:=by simpa using h
            exact ⟨i+1,hI.step hx hy hr,by omega,by simp only[go_sem,rZ hw2 hix],by exact bA _⟩
        · rw[rR h7 hI (by simpa using h)] at hk
          exact aM hk dA
theorem pP {α:Type} {r:α→α→Bool} (h:∀ a,r a a=true) (xs:List α):dB r xs xs=true :=
 (uD rfl).2 fun i a b ha hb=>by rw[ha] at hb;cases hb;exact h a
theorem aBA (l:List aD):dB (fun a b=>decide (a=b)) l l=true:=pP (r:=fun a b:aD=>decide (a=b)) (fun a=>fC rfl) l
theorem aBN (l:List Tm):dB Tm.same l l=true:=pP Tm.same_self l
theorem Opr.same_self (a:Opr):a.same a=true:=by
 unfold Opr.same;rw[aBA,pP (fun a=>by simp),pP (fun a=>by simp)];simp
theorem Sig.same_self (a:Sig):a.same a=true:=by
 unfold Sig.same;rw[aBA,aBA,pP Opr.same_self,pP Opr.same_self,pP (fun a=>by simp)];rfl
theorem Eqn.same_self (a:Eqn):a.same a=true:=by simp[Eqn.same,Tm.same_self,aBN]
theorem Cel.same_self (a:Cel):a.same a=true:=by simp[Cel.same,Tm.same_self]
theorem Part.same_self (a:Part):a.same a=true:=by simp[Part.same,Tm.same_self,aBN]
theorem Fresh.same_self (a:Fresh):a.same a=true:=aBN _
theorem Rul.same_self (a:Rul):a.same a=true:=by simp[Rul.same,aBN,aBA,pP Part.same_self,pP Fresh.same_self]
theorem Dfn.same_self (a:Dfn):a.same a=true:=by
 simp[Dfn.same,Sig.same_self,pP Eqn.same_self,pP Cel.same_self,pP Rul.same_self]
theorem aKY (a:Dfn) (s:St) (KV Kp:St→A→Prop) (hk:KV s (.bool true)):Den cx 17 [.agg a.cs,.agg a.cs] KV Kp s:=by
 refine rS fun hz1=>?_
 have hza:=hz1 _ (rK ..);have hw1:Rlz (.list none (a.eqs.map Eqn.enc)):=hza.cell (by simp[Dfn.cs]);have hw2:Rlz (.list none (a.once.map Cel.enc)):=hza.cell (by simp[Dfn.cs]);have hw3:Rlz (.list none (a.many.map Cel.enc)):=hza.cell (by simp[Dfn.cs]);have hw4:Rlz (.list none (a.rules.map Rul.enc)):=hza.cell (by simp[Dfn.cs]);clear hz1 hza;simp only[go_sem];(refine aZ func17 [0,1,2,3,4,5,6,7,8,9,10,11,12,13,14,15,19,21,22,23,24,47,50,51,52,53,76,79,80,81,82,105,108,109,110,111,131,133,134,135,136,159] ?_;simp only[go_sem,ntmps17,f17]);(intro p hp;try simp only[aV,ne_eq] at hp);simp only[go_sem,hp];(intro q hq;try simp only[aV,ne_eq] at hq);simp only[go_sem,hp,hq];refine aMi a a _ _ _ ?_;rw[Dfn.same_self];simp only[go_sem,hp,hq]
 refine Ex.loop (ι:=Nat) (fun i=>[(2,.ptr p 0),(3,.ptr q 0),(21,.list none (a.eqs.map Eqn.enc)),(22,.int .i64 a.eqs.length),(23,.int .i64 (i:Nat))]) (fun _=>(s.setO p (.cells 33 a.cs)).setO q (.cells 33 a.cs))
  (fun i=>i≤a.eqs.length) (fun i=>a.eqs.length-i) 0 (bS _) ?_ (by exact bA _) ?_
 ·(simp only[go_sem,hp,hq];first|done|exact rfl|exact ⟨rfl,rfl⟩)
 rintro i hi;refine bV (V:=[0,1,2,3,4,5,6,7,8,9,10,11,12,13,14,15,19,21,22,23,24,47,50,51,52,53,76,79,80,81,82,105,108,109,110,111,131,133,134,135,136,159]) _ _ _ _ ?_;simp only[go_sem,hp,hq];(refine cD (fun h=>?_) (fun h=>?_))<;>simp only[go_sem,h,hp,hq]
 ·have hix:i<a.eqs.length:=by simpa using h
  clear h;obtain ⟨x,hx⟩:∃ b,a.eqs[i]?=some b:=⟨_,cH hix⟩
  simp only[go_sem,hp,hq,hx,hix];(intro b6 hb6;try simp only[aV,ne_eq] at hb6);simp only[go_sem,hp,hq,hx,hix,hb6];(refine aP (OT.r 0 20) [] ?_;simp only[go_sem,hp,hq,hx,hix,hb6,eq_self,kA,dT])
  (try simp only[go_sem,hp,hq,hx,hix,hb6,eq_self,kA,dT])
  exact ⟨i+1,hix,by omega,by simp only[go_sem,hw1.wrap (i:=i) (by simpa using hix)],(by (repeat (first|(refine nI ?_ ?_;focus (simp only[aV,ne_eq,dK,mQ,hp,hq,hb6]<;>done))|exact bA _)))⟩
 clear h hi
 refine Ex.loop (ι:=Nat) (fun i=>[(2,.ptr p 0),(3,.ptr q 0),(50,.list none (a.once.map Cel.enc)),(51,.int .i64 a.once.length),(52,.int .i64 (i:Nat))]) (fun _=>(s.setO p (.cells 33 a.cs)).setO q (.cells 33 a.cs))
  (fun i=>i≤a.once.length) (fun i=>a.once.length-i) 0 (bS _) ?_ (by exact bA _) ?_
 ·(simp only[go_sem,hp,hq];first|done|exact rfl|exact ⟨rfl,rfl⟩)
 rintro i hi;refine bV (V:=[0,1,2,3,4,5,6,7,8,9,10,11,12,13,14,15,19,21,22,23,24,47,50,51,52,53,76,79,80,81,82,105,108,109,110,111,131,133,134,135,136,159]) _ _ _ _ ?_;simp only[go_sem,hp,hq];(refine cD (fun h=>?_) (fun h=>?_))<;>simp only[go_sem,h,hp,hq]
 ·have hix:i<a.once.length:=by simpa using h
  clear h;obtain ⟨x,hx⟩:∃ b,a.once[i]?=some b:=⟨_,cH hix⟩
  simp only[go_sem,hp,hq,hx,hix];(intro b6 hb6;try simp only[aV,ne_eq] at hb6);simp only[go_sem,hp,hq,hx,hix,hb6];(refine aP (OT.r 0 20) [] ?_;simp only[go_sem,hp,hq,hx,hix,hb6,eq_self,kA,dT])
  (try simp only[go_sem,hp,hq,hx,hix,hb6,eq_self,kA,dT])
  exact ⟨i+1,hix,by omega,by simp only[go_sem,hw2.wrap (i:=i) (by simpa using hix)],(by (repeat (first|(refine nI ?_ ?_;focus (simp only[aV,ne_eq,dK,mQ,hp,hq,hb6]<;>done))|exact bA _)))⟩
 clear h hi
 refine Ex.loop (ι:=Nat) (fun i=>[(2,.ptr p 0),(3,.ptr q 0),(79,.list none (a.many.map Cel.enc)),(80,.int .i64 a.many.length),(81,.int .i64 (i:Nat))]) (fun _=>(s.setO p (.cells 33 a.cs)).setO q (.cells 33 a.cs))
  (fun i=>i≤a.many.length) (fun i=>a.many.length-i) 0 (bS _) ?_ (by exact bA _) ?_
 ·(simp only[go_sem,hp,hq];first|done|exact rfl|exact ⟨rfl,rfl⟩)
 rintro i hi;refine bV (V:=[0,1,2,3,4,5,6,7,8,9,10,11,12,13,14,15,19,21,22,23,24,47,50,51,52,53,76,79,80,81,82,105,108,109,110,111,131,133,134,135,136,159]) _ _ _ _ ?_;simp only[go_sem,hp,hq];(refine cD (fun h=>?_) (fun h=>?_))<;>simp only[go_sem,h,hp,hq]
 ·have hix:i<a.many.length:=by simpa using h
  clear h;obtain ⟨x,hx⟩:∃ b,a.many[i]?=some b:=⟨_,cH hix⟩
  simp only[go_sem,hp,hq,hx,hix];(intro b6 hb6;try simp only[aV,ne_eq] at hb6);simp only[go_sem,hp,hq,hx,hix,hb6];(refine aP (OT.r 0 20) [] ?_;simp only[go_sem,hp,hq,hx,hix,hb6,eq_self,kA,dT])
  (try simp only[go_sem,hp,hq,hx,hix,hb6,eq_self,kA,dT])
  exact ⟨i+1,hix,by omega,by simp only[go_sem,hw3.wrap (i:=i) (by simpa using hix)],(by (repeat (first|(refine nI ?_ ?_;focus (simp only[aV,ne_eq,dK,mQ,hp,hq,hb6]<;>done))|exact bA _)))⟩
 clear h hi
 refine Ex.loop (ι:=Nat) (fun i=>[(2,.ptr p 0),(3,.ptr q 0),(108,.list none (a.rules.map Rul.enc)),(109,.int .i64 a.rules.length),(110,.int .i64 (i:Nat))]) (fun _=>(s.setO p (.cells 33 a.cs)).setO q (.cells 33 a.cs))
  (fun i=>i≤a.rules.length) (fun i=>a.rules.length-i) 0 (bS _) ?_ (by exact bA _) ?_
 ·(simp only[go_sem,hp,hq];first|done|exact rfl|exact ⟨rfl,rfl⟩)
 rintro i hi;refine bV (V:=[0,1,2,3,4,5,6,7,8,9,10,11,12,13,14,15,19,21,22,23,24,47,50,51,52,53,76,79,80,81,82,105,108,109,110,111,131,133,134,135,136,159]) _ _ _ _ ?_;simp only[go_sem,hp,hq];(refine cD (fun h=>?_) (fun h=>?_))<;>simp only[go_sem,h,hp,hq]
 ·have hix:i<a.rules.length:=by simpa using h
  clear h;obtain ⟨x,hx⟩:∃ b,a.rules[i]?=some b:=⟨_,cH hix⟩
  have hzr:Rlz (.agg x.cs):=hw4.agg_elem (bW.2 ⟨x,fJ hx,rfl⟩);have hw5:Rlz (.list none (x.parts.map Part.enc)):=hzr.cell (by simp[Rul.cs]);simp only[go_sem,hp,hq,hx,hix];(intro b12 hb12;try simp only[aV,ne_eq] at hb12);simp only[go_sem,hp,hq,hx,hix,hb12];(intro b13 hb13;try simp only[aV,ne_eq] at hb13);simp only[go_sem,hp,hq,hx,hix,hb12,hb13,eq_self,kA,dT]
  refine Ex.loop (ι:=Nat) (fun j=>[(2,.ptr p 0),(3,.ptr q 0),(108,.list none (a.rules.map Rul.enc)),(109,.int .i64 a.rules.length),(110,.int .i64 (i:Nat)),(13,.ptr b13 0),(133,.list none (x.parts.map Part.enc)),(134,.int .i64 x.parts.length),(135,.int .i64 (j:Nat))]) (fun _=>(((s.setO p (.cells 33 a.cs)).setO q (.cells 33 a.cs)).setO b12 (.cells 84 x.cs)).setO b13 (.cells 84 x.cs))
   (fun j=>j≤x.parts.length) (fun j=>x.parts.length-j) 0 (bS _) ?_ (by exact bA _) ?_
  ·(simp only[go_sem,hp,hq];first|done|exact rfl|exact ⟨rfl,rfl⟩)
  rintro j hj;refine bV (V:=[0,1,2,3,4,5,6,7,8,9,10,11,12,13,14,15,19,21,22,23,24,47,50,51,52,53,76,79,80,81,82,105,108,109,110,111,131,133,134,135,136,159]) _ _ _ _ ?_;simp only[go_sem,hp,hq,hb12,hb13];(refine cD (fun h=>?_) (fun h=>?_))<;>simp only[go_sem,h,hp,hq,hb12,hb13]
  ·have hjx:j<x.parts.length:=by simpa using h
   clear h;obtain ⟨y,hy⟩:∃ b,x.parts[j]?=some b:=⟨_,cH hjx⟩
   simp only[go_sem,hp,hq,hb12,hb13,hy,hjx];(intro b15 hb15;try simp only[aV,ne_eq] at hb15);simp only[go_sem,hp,hq,hb12,hb13,hy,hjx,hb15];(refine aP (OT.r 0 20) [] ?_;simp only[go_sem,hp,hq,hb12,hb13,hy,hjx,hb15,eq_self,kA,dT])
   (try simp only[go_sem,hp,hq,hb12,hb13,hy,hjx,hb15,eq_self,kA,dT])
   exact ⟨j+1,hjx,by omega,by simp only[go_sem,hw5.wrap (i:=j) (by simpa using hjx)],(by (repeat (first|(refine nI ?_ ?_;focus (simp only[aV,ne_eq,dK,mQ,hp,hq,hb12,hb13,hb15]<;>done))|exact bA _)))⟩
  clear h;exact ⟨i+1,hix,by omega,by simp only[go_sem,hw4.wrap (i:=i) (by simpa using hix)],(by (repeat (first|(refine nI ?_ ?_;focus (simp only[aV,ne_eq,dK,mQ,hp,hq,hb12,hb13]<;>done))|exact bA _)))⟩
 exact aM hk dA
theorem aJs:({ fG with det:=false }:Cx)=cx:=rfl
theorem aJd {f:FuncId} {args:List A} {a:A} (hargs:∀ x,x∈args→x.lp x) (ha:a.lp a) (h:∀ KV Kp s,KV s a→Den cx f args KV Kp s) {KV Kp:St→A→Prop} {s:St} (hk:KV s a):Den fG f args KV Kp s:=by
 refine aDO (C:=fG) false (Q:=fun _ r=>r=a) aAC hargs (fun F1 g2 s2 w2 r v hR hv hq=>?_) ?_ hk
 ·subst hq;exact ⟨g2.pi,hR.pis,fun b _=>rfl,fun g' hg=>ha g2 g' v hg hv⟩
 ·rw[aJs];exact h _ _ _ rfl
theorem aPI (x:List UInt8):(A.str x).lp (.str x):=rX 1 _ _ rfl
theorem aOx (x:Bool):(A.bool x).lp (.bool x):=rX 1 _ _ rfl
def aCK (W:List (List UInt8)) (l:List A) (σ:XS):CR:=match l with
 | [.str x]=>.val (.bool (decide (x∈W))) σ
 | _=>.bad
def aFw (f:FuncId):Option (List A→XS→CR):=match Nat.beq f 145 with
 | true=>some (aCK jL)
 | false=>match Nat.beq f 107 with
  | true=>some (aCK aBY)
  | false=>aAR f
theorem aIC {f:FuncId} {W:List (List UInt8)} (h:∀ (s:St) (x:List UInt8) (KV Kp:St→A→Prop),KV s (.bool (decide (x∈W)))→Den cx f [.str x] KV Kp s)
  (l:List A) (σ:XS) (s:St) (KV Kp:St→A→Prop) (hs:Sim s σ) (hh:(aCK W l σ).to KV Kp):Den fG f l KV Kp s:=by
 unfold aCK at hh;split at hh
 ·rename_i x;refine aJd (a:=.bool (decide (x∈W))) (fun y hy=>?_) (aOx _) (fun KV Kp s hk=>h s x KV Kp hk) (hh s hs);simp only[cE] at hy;subst hy;exact aPI x
 ·exact hh.elim
theorem aOQ:yY fG aFw:=by
 intro f h hf l σ s KV Kp hs hh;unfold aFw at hf;split at hf
 ·rename_i e;have hf':=cC e;cases hf;refine aIC (W:=jL) (fun s x KV Kp hk=>?_) l σ s KV Kp hs hh;rw[hf'];exact sI s x KV Kp hk
 ·split at hf
  ·rename_i e;have hf':=cC e;cases hf;refine aIC (W:=aBY) (fun s x KV Kp hk=>?_) l σ s KV Kp hs hh;rw[hf'];exact aKJ s x KV Kp hk
  ·exact aJj f h hf l σ s KV Kp hs hh
section
section
variable {s:St} {KV Kp:St→A→Prop}
theorem aEj:A.le .emp (.list none []):=fun g v h=>by
 obtain ⟨a,rfl⟩:=h.emp_inv;exact .list0 none (some a) 0 (bS _) (fun t e=>by cases e)
theorem aK5 (l:List A) (h1:∀ y,y∈l→y.cells.length=1) (hl:l.length≤4294967296) (hk:KV s (.list none l)):Den cx 266 [.list none l] KV Kp s:=by
 (refine aZ func266 [0,2,4] ?_;simp only[go_sem,ntmps266,f266]);cases l with
 | nil =>
  simp only[go_sem,false_or];exact ⟨DK.mk hk (bA _) A.le.nil,by decide,fun y hy=>(by cases hy),DK.mk hk (bA _) aEj⟩
 | cons x r =>
  have hl2:r.length≤4294967295:=Nat.le_of_succ_le_succ hl;simp only[go_sem];refine ⟨by decide,h1,hl2,?_⟩;intro t ht;simp only[go_sem];exact DK.mk hk (vI ht) (fN (some t) (x::r) (fun e=>by cases e))
theorem aK0 (l:List A) (h1:∀ y,y∈l→y.cells.length=2) (hl:l.length≤4294967296) (hk:KV s (.list none l)):Den cx 267 [.list none l] KV Kp s:=by
 (refine aZ func267 [0,2,4] ?_;simp only[go_sem,ntmps267,f267]);cases l with
 | nil =>
  simp only[go_sem,false_or];exact ⟨DK.mk hk (bA _) A.le.nil,by decide,fun y hy=>(by cases hy),DK.mk hk (bA _) aEj⟩
 | cons x r =>
  have hl2:r.length≤4294967295:=Nat.le_of_succ_le_succ hl;simp only[go_sem];refine ⟨by decide,h1,hl2,?_⟩;intro t ht;simp only[go_sem];exact DK.mk hk (vI ht) (fN (some t) (x::r) (fun e=>by cases e))
theorem aLc (l:List A) (h1:∀ y,y∈l→y.cells.length=1) (hl:l.length≤4294967296) (hk:KV s (.list none l)):Den cx 268 [.list none l] KV Kp s:=by
 (refine aZ func268 [0,2,4] ?_;simp only[go_sem,ntmps268,f268]);cases l with
 | nil =>
  simp only[go_sem,false_or];exact ⟨DK.mk hk (bA _) A.le.nil,by decide,fun y hy=>(by cases hy),DK.mk hk (bA _) aEj⟩
 | cons x r =>
  have hl2:r.length≤4294967295:=Nat.le_of_succ_le_succ hl;simp only[go_sem];refine ⟨by decide,h1,hl2,?_⟩;intro t ht;simp only[go_sem];exact DK.mk hk (vI ht) (fN (some t) (x::r) (fun e=>by cases e))
end
end
def aCz (z:Nat):List A→Bool
 | []=>true
 | y::r=>match Nat.beq y.cells.length z with
  | true=>aCz z r
  | false=>false
theorem aHJ {z:Nat}:∀ {l:List A},aCz z l=true→∀ y,y∈l→y.cells.length=z
 | [],_,y,h=>by cases h
 | a::r,h,y,hy=>by
  simp only[aCz] at h;split at h
  ·rename_i e;rcases List.mem_cons.1 hy with rfl|hy
   ·exact cC e
   ·exact aHJ h y hy
  ·cases h
def aAK (z:Nat) (l:List A) (σ:XS):CR:=match l with
 | [a] => match fE 60 a with
  | some b=>match fE 60 b with
   | some (.list none es)=>match b with
    | .list none fs=>match aCz z fs,Nat.ble fs.length 4294967296 with
     | true,true=>.val (.list none es) σ
     | _,_=>.bad
    | _=>.bad
   | _=>.bad
  | none=>.bad
 | _=>.bad
def aAO (f:FuncId):Option (List A→XS→CR):=match Nat.beq f 266 with
 | true=>some (aAK 1)
 | false=>match Nat.beq f 267 with
  | true=>some (aAK 2)
  | false=>match Nat.beq f 268 with
   | true=>some (aAK 1)
   | false=>aFw f
theorem aEt {f:FuncId} {z:Nat} (h:∀ (s:St) (l:List A) (KV Kp:St→A→Prop),(∀ y,y∈l→y.cells.length=z)→l.length≤4294967296→KV s (.list none l)→Den cx f [.list none l] KV Kp s)
  (l:List A) (σ:XS) (s:St) (KV Kp:St→A→Prop) (hs:Sim s σ) (hh:(aAK z l σ).to KV Kp):Den fG f l KV Kp s:=by
 unfold aAK at hh;split at hh
 ·rename_i a;split at hh
  ·rename_i b hb;split at hh
   ·rename_i es hes;split at hh
    ·rename_i fs;split at hh
     ·rename_i h1 h2;refine aF5 (C:=fG) (args2:=[.list none fs]) (a':=.list none es) false (Q:=fun _ r=>r=.list none fs) aAC rfl (fun j x y hx hy=>?_) (fun F1 g2 s2 w2 r v hR hv hq=>?_) ?_ (hh s hs)
      ·cases j with
       | zero=>simp at hx hy;subst hx;subst hy;exact rX 60 _ _ hb
       | succ j=>simp at hx
      ·subst hq;exact ⟨g2.pi,hR.pis,fun b _=>rfl,fun g' hg=>rX 60 _ _ hes g2 g' v hg hv⟩
      ·rw[aJs];exact h _ _ _ _ (aHJ h1) (kP h2) rfl
     ·exact hh.elim
    ·exact hh.elim
   ·exact hh.elim
  ·exact hh.elim
 ·exact hh.elim
theorem aIk:yY fG aAO:=by
 intro f h hf l σ s KV Kp hs hh;unfold aAO at hf;split at hf
 ·rename_i e;have hf':=cC e;cases hf;exact aEt (z:=1) (fun s x KV Kp h1 h2 hk=>by rw[hf'];exact aK5 x h1 h2 hk) l σ s KV Kp hs hh
 ·split at hf
  ·rename_i e;have hf':=cC e;cases hf;exact aEt (z:=2) (fun s x KV Kp h1 h2 hk=>by rw[hf'];exact aK0 x h1 h2 hk) l σ s KV Kp hs hh
  ·split at hf
   ·rename_i e;have hf':=cC e;cases hf;exact aEt (z:=1) (fun s x KV Kp h1 h2 hk=>by rw[hf'];exact aLc x h1 h2 hk) l σ s KV Kp hs hh
   ·exact aOQ f h hf l σ s KV Kp hs hh
theorem xP {fuel:Nat} {f:FuncId} {args:List A} {KV Kp:St→A→Prop} {s:St} {a:A}
  (hargs:jA (fE 60) args=some args) (h:aCQ (aFC (lC aAO) fuel f args)=some a) (hk:KV s a):Den cx f args KV Kp s:=by
 have hX:(lC aAO).ok { cx with det:=true }:=aE7 aIk;exact Den.run true hX aAC hargs h hk
def nC:Dfn:=⟨[101],⟨[[65]],[],[⟨[97],[],[65],[⟨[97],[]⟩],0,0,[]⟩],[],[]⟩,[],[⟨[99],[65],.mk 6 0 [36] [65,110,121] [] [],1,52⟩],[],[],[],[65],[99]⟩
def awT:Tm:=.mk 5 0 [102] [] [.mk 6 0 [88] [73,110,116] [] [],.mk 7 0 [] [] [.mk 1 (-1) [] [] [] []] [.mk 6 0 [76] [76,105,115,116] [] []]] []
def aJE:aD:=[108,97,110,103,117,97,103,101,32,101,46,10,115,111,114,116,32,65,46,10,111,112,32,97,32,58,32,34,97,34,32,45,62,32,65]++[46,10,99,101,108,108,32,99,32,58,32,65,32,61,32,36,46,10,115,116,97,114,116,32,65,46,10,119,97,116,99,104,32,99,46,10]
def awR:List A:=[.str [101],.list none [.str [65]],.nils,.list none [.agg [.str [98],.nils,.str [65],.list none [.agg [.str [97],.str []]],.int .i64 0,.int .i64 0,.list none []]],.nils,.nils,.nils,
 .list none [.agg [.str [99],.str [65],.int .i64 6,.int .i64 0,.str [36],.str [65,110,121],.nils,.nils,.int .i64 1,.int .i64 52]],.str [],.nils,.nils,.str [65],.str [99]]
def awZ:List A:=[.str [],.nils,.nils,.nils,.nils,.nils,.nils,.nils,.str [],.nils,.nils,.str [],.str []]
def awS:aD:=[108,97,110,103,117,97,103,101,32,101,46,32,115,111,114,116,32,65,46,32,111,112,32,97,32,58,32,34,97,34,32,45,62,32,65]++[46,32,115,116,97,114,116,32,65,46,32,99,101,108,108,32,99,32,58,32,65,32,61,32,36,46,32,119,97,116,99,104,32,99,46]
theorem aSi:pW awS=(nC,⟨0,[],0,0⟩):=by kernel_rfl
theorem aSr:pW [108,97,110,103,117,97,103,101,32,101,46,32,115,111,114,116]=(eB,⟨12,[],1,17⟩):=by kernel_rfl
theorem aRH:pW [108,97,110,103,117,97,103,101,32,101,46,10,115,111,114,116,32,65,32,66,46]=(eB,⟨11,[66],2,8⟩):=by kernel_rfl
theorem aSd:yW [102,40,88,58,73,110,116,44,32,91,45,49,32,124,32,76,93,41]=(awT,⟨0,[],0,0⟩):=by kernel_rfl
theorem aSx:yW [45,32,53]=(mF,⟨11,[53],1,3⟩):=by kernel_rfl
theorem aR3:pW [108,97,110,103,117,97,103,101,32,101,46,32,115,116,97,114,116,32,65,46,32,115,116,97,114,116,32,66,46]=(eB,⟨14,[115,116,97,114,116],1,22⟩):=by kernel_rfl
end Go.AV
