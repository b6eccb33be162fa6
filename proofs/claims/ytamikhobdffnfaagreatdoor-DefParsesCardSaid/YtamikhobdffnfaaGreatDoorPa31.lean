/-
  Of DefParses.
-/
import Derived.Test.YtamikhobdffnfaaGreatDoorPa30
import Derived.Test.YtamikhobdffnfaaGreatDoorPa27
set_option linter.all false
set_option maxRecDepth 99999
set_option maxHeartbeats 0
namespace Go.AV
open Go Go.Proofs Tryz
section
section
variable {T:List Tok} {fin:Fault} {α β σ γ:Type} {N:Nat} {q:RQ T} {w:List Tok} {n m m':Nat}
theorem uB (r:Rd α) (k:α→List Tok→Nat→Rd β) (l:β→List Tok→Nat→Rd γ):(r.bind k).bind l=r.bind fun a w n=>(k a w n).bind l:=by cases r<;>rfl
theorem sR {c:RQ T→Bool} {body:σ→RQ T→σ × RQ T} (g:Nat) (a:σ) (h:c q=false):bR c body g a q=(a,q):=by
 cases g with
 | zero=>rfl
 | succ g=>unfold bR;rw[h];rfl
theorem aAd {c:RQ T→Bool} {body:σ→RQ T→σ × RQ T} (g:Nat) (a:σ) (h:c q=true):bR c body (g+1) a q=bR c body g (body a q).1 (body a q).2:=by
 conv=>lhs;unfold bR
 rw[h];rfl
theorem SimL.off {r:Rd α} {K:RQ T→α × RQ T} {f:Fault} (hs:Stick K) (h:q.f=f∧q.ok=false) (hr:r=.bad f):SimL m r (K q):=by
 subst hr;have e:=hs q h.2;exact ⟨⟨e.trans h.1,(nK e).trans h.2⟩,.bad _ _⟩
def pc:RQ T→Bool:=fun q=>cN q||fS 3 q
def pb (fin:Fault) (c:List Piece × List aD × Bool) (q:RQ T):(List Piece × List aD × Bool) × RQ T :=
 let q:=bG fin c.1.length 20 q
 if fS 3 q=true then ((c.1++[⟨q.tok.text,[]⟩],c.2.1,true),q.inc)
 else let q:=bG fin c.2.1.length 8 q
  ((c.1++[⟨[],q.tok.text⟩],c.2.1++[q.tok.text],c.2.2),q.inc)
theorem aE2 (q:RQ T) (h:q.ok=false):pc q=false:=by unfold pc;rw[aBn h,aBG _ h];rfl
def iS (fin:Fault) (a:σ):RQ T→σ × RQ T:=fb (wF fin 4 [45,62]) fun _=>fr a
theorem xQ {a:σ}:Stick (iS (T:=T) fin a):=cI dP (fun _=>cS)
theorem aIq (hW:∀ t,t∈T→TokW N t) (hfin:fin.code≠0) (a:σ) (h:AtI q w) (hc:bI [45,62] w=true):SimL w.length (.ok a w.tail n) (iS fin a q):=by
 have hw:=lO (n:=n) hW hfin [45,62] (sx rfl (by decide)) (by decide) h;unfold cV at hw;rw[if_pos hc] at hw;have ht:w.tail.length+1=w.length:=qN hc;exact ⟨⟨rfl,hw.1.2⟩,.ok (by omega)⟩
theorem aCe (hW:∀ t,t∈T→TokW N t) (hfin:fin.code≠0) (a:σ) (h:AtI q w) (hc:¬ bI [45,62] w=true):SimL m (.bad (eG fin 11 w)) (iS fin a q):=by
 have hw:=lO (n:=0) hW hfin [45,62] (sx rfl (by decide)) (by decide) h;unfold cV at hw;rw[if_neg hc] at hw;exact ⟨hw.1,.bad _ _⟩
theorem aHQ (hW:∀ t,t∈T→TokW N t) {t:Tok} (h:AtI q (t::w)) (hc:bI [45,62] (t::w)=true):t.kind=4:=by
 rw[← aCF hW [45,62] (sx rfl (by decide)) (by decide) h,qC h] at hc;simp only[bT,eC] at hc;exact hc.1
theorem aEA (hW:∀ t,t∈T→TokW N t) (hfin:fin.code≠0):∀ (f g:Nat) (c:List Piece × List aD × Bool) (q:RQ T) (w:List Tok) (n:Nat),w.length<f→w.length<g→AtI q w →
  SimL w.length (uL fin f c.1 c.2.1 c.2.2 w n) (fb (bR pc (pb fin) g c) (iS fin) q)
 | 0,g,c,q,w,n,hf,_,_=>by omega
 | f+1,0,c,q,w,n,_,hg,_=>by omega
 | f+1,g+1,c,q,w,n,hf,hg,h=>by
  simp only[uL];by_cases hc:bI [45,62] w=true
  ·rw[if_pos hc];cases w with
   | nil=>cases hc
   | cons t w =>
    have hk:=aHQ hW h hc;have ec:pc q=false:=by unfold pc;rw[sU h,vY h];simp[Tok.free,hk]
    show SimL _ _ (iS fin (bR pc (pb fin) (g+1) c q).1 (bR pc (pb fin) (g+1) c q).2);rw[sR _ _ ec];exact aIq hW hfin _ h hc
  rw[if_neg hc];cases w with
  | nil =>
   have ec:pc q=false:=by unfold pc;rw[zX h,aHw h];rfl
   show SimL _ _ (iS fin (bR pc (pb fin) (g+1) c q).1 (bR pc (pb fin) (g+1) c q).2);rw[sR _ _ ec];exact aCe hW hfin _ h hc
  | cons t w =>
   simp only;have st:∀ c':List Piece × List aD × Bool,Stick (fb (bR pc (pb fin) g c') (iS (T:=T) fin)):=fun c'=>cI (rM aE2 _ _) (fun _=>xQ)
   have hl:w.length<f∧w.length<g:=by simp only[aF] at hf hg;omega
   by_cases hn:t.kind=3∨t.free=true
   ·have ec:pc q=true:=by
     unfold pc;rw[sU h,vY h];rcases hn with hn|hn
     ·simp[hn]
     ·simp[hn]
    show SimL _ _ (iS fin (bR pc (pb fin) (g+1) c q).1 (bR pc (pb fin) (g+1) c q).2);rw[if_pos hn,aAd _ _ ec];show SimL _ _ (fb (bR pc (pb fin) g (pb fin c q).1) (iS fin) (pb fin c q).2);by_cases h20:20≤c.1.length
    ·rw[if_pos h20];obtain ⟨h1,h2⟩:=aCG (fin:=fin) h hfin
     have e:(pb fin c q).2.f=kG fin (t::w)∧(pb fin c q).2.ok=false:=by
      unfold pb bG;simp only[if_pos h20];rw[aBG _ h2];simp only[bN,if_false,sV _ _ _ h2,ite_self,inc_f,yG];exact ⟨h1,h2⟩
     exact SimL.off (st _) e rfl
    rw[if_neg h20];by_cases h3:t.kind=3
    ·rw[if_pos h3]
     have e:pb fin c q=((c.1++[⟨t.text,[]⟩],c.2.1,true),q.inc):=by
      unfold pb bG;simp only[if_neg h20,vY h,h3,kA,if_true,(rY h).2.1]
     rw[e];exact (aEA hW hfin f g (c.1++[⟨t.text,[]⟩],c.2.1,true) q.inc w n hl.1 hl.2 (kM h)).mono (Nat.le_succ _)
    rw[if_neg h3];by_cases h8:8≤c.2.1.length
    ·rw[if_pos h8];obtain ⟨h1,h2⟩:=aCG (fin:=fin) h hfin
     have e:(pb fin c q).2.f=kG fin (t::w)∧(pb fin c q).2.ok=false:=by
      unfold pb bG;simp only[if_neg h20,vY h,h3,pN,bN,if_false,if_pos h8,inc_f,yG];exact ⟨h1,h2⟩
     exact SimL.off (st _) e rfl
    rw[if_neg h8]
    have e:pb fin c q=((c.1++[⟨[],t.text⟩],c.2.1++[t.text],c.2.2),q.inc):=by
     unfold pb bG;simp only[if_neg h20,vY h,h3,pN,bN,if_false,if_neg h8,(rY h).2.1]
    rw[e];exact (aEA hW hfin f g (c.1++[⟨[],t.text⟩],c.2.1++[t.text],c.2.2) q.inc w n hl.1 hl.2 (kM h)).mono (Nat.le_succ _)
   ·have ec:pc q=false:=by
     unfold pc;rw[sU h,vY h];have h3:¬ t.kind=3:=fun e=>hn (.inl e)
     have hfr:t.free=false:=by
      cases hh:t.free with
      | true=>exact absurd (.inr hh) hn
      | false=>rfl
     simp[h3,hfr]
    rw[if_neg hn];show SimL _ _ (iS fin (bR pc (pb fin) (g+1) c q).1 (bR pc (pb fin) (g+1) c q).2);rw[sR _ _ ec];exact aCe hW hfin _ h hc
theorem aEc (q:RQ T) (h:q.ok=false):cN q=false:=aBn h
def gb (fin:Fault) (l:List aD) (q:RQ T):List aD × RQ T:=let p:=bB fin (bG fin l.length 8 q);(l++[p.1],p.2)
theorem aI8 (hW:∀ t,t∈T→TokW N t) (hfin:fin.code≠0):∀ (f g:Nat) (c:List aD) (q:RQ T) (w:List Tok) (n:Nat),w.length<f→w.length<g→AtI q w →
  SimL w.length (tF fin f c w n) (fb (bR cN (gb fin) g c) (iS fin) q)
 | 0,g,c,q,w,n,hf,_,_=>by omega
 | f+1,0,c,q,w,n,_,hg,_=>by omega
 | f+1,g+1,c,q,w,n,hf,hg,h=>by
  simp only[tF];by_cases hc:bI [45,62] w=true
  ·rw[if_pos hc];cases w with
   | nil=>cases hc
   | cons t w =>
    have hk:=aHQ hW h hc;have ec:cN q=false:=by rw[sU h];simp[Tok.free,hk]
    show SimL _ _ (iS fin (bR cN (gb fin) (g+1) c q).1 (bR cN (gb fin) (g+1) c q).2);rw[sR _ _ ec];exact aIq hW hfin _ h hc
  rw[if_neg hc];cases w with
  | nil =>
   have ec:cN q=false:=zX h;show SimL _ _ (iS fin (bR cN (gb fin) (g+1) c q).1 (bR cN (gb fin) (g+1) c q).2);rw[sR _ _ ec];exact aCe hW hfin _ h hc
  | cons t w =>
   have hl:w.length<f∧w.length<g:=by simp only[aF] at hf hg;omega
   have st:∀ c':List aD,Stick (fb (bR cN (gb fin) g c') (iS (T:=T) fin)):=fun c'=>cI (rM aEc _ _) (fun _=>xQ)
   simp only[mB];by_cases hf1:t.free=true
   ·have ec:cN q=true:=by rw[sU h];exact hf1
    show SimL _ _ (iS fin (bR cN (gb fin) (g+1) c q).1 (bR cN (gb fin) (g+1) c q).2);rw[aAd _ _ ec];show SimL _ _ (fb (bR cN (gb fin) g (gb fin c q).1) (iS fin) (gb fin c q).2);by_cases h8:8≤c.length
    ·obtain ⟨h1,h2⟩:=aCG (fin:=fin) h hfin
     have e:(gb fin c q).2.f=kG fin (t::w)∧(gb fin c q).2.ok=false:=by
      unfold gb bG;simp only[if_pos h8];rw[aHD h2];exact ⟨h1,h2⟩
     rw[if_pos ⟨hf1,h8⟩];exact SimL.off (st _) e rfl
    ·have e:gb fin c q=(c++[t.text],q.inc):=by
      unfold gb bG bB;simp only[if_neg h8,ec,if_true,(rY h).2.1]
     rw[if_neg (fun g=>h8 g.2),e];simp only[dS,hf1,if_true,Rd.bind];exact (aI8 hW hfin f g (c++[t.text]) q.inc w n hl.1 hl.2 (kM h)).mono (Nat.le_succ _)
   ·have ec:cN q=false:=by rw[sU h];simpa using hf1
    show SimL _ _ (iS fin (bR cN (gb fin) (g+1) c q).1 (bR cN (gb fin) (g+1) c q).2);rw[sR _ _ ec,if_neg (fun g=>hf1 g.1)];simp only[dS,hf1,if_false,Rd.bind];exact aCe hW hfin _ h hc
theorem aQQ (hW:∀ t,t∈T→TokW N t) (hfin:fin.code≠0) (h:AtI q w):SimL w.length (aAP fin w n) (mE fin q):=by
 have e:mE fin q=fb (bB fin) (fun x=>fb (wF fin 4 [58]) fun _=>fb (fb (bR cN (gb fin) (T.length+1) []) (iS fin)) fun p=>fb (bB fin) fun y=>fr (⟨x,p,y,[],0,0,[]⟩:Opr)) q:=rfl;rw[e];have st:Stick (fb (bR cN (gb fin) (T.length+1) []) (iS (T:=T) fin)):=cI (rM aEc _ _) (fun _=>xQ)
 refine .fb (lK hfin h) (fun _=>(by repeat' (first|exact dO|exact eJ|exact dP|exact cS|exact eU|exact eP _|exact eO _ _ _|exact eV|assumption|refine cI ?_ (fun _=>?_)))) (fun x w1 n1 h1 l1=>.fb (lO hW hfin [58] (sx rfl (by decide)) (by decide) h1) (fun _=>(by repeat' (first|exact dO|exact eJ|exact dP|exact cS|exact eU|exact eP _|exact eO _ _ _|exact eV|assumption|refine cI ?_ (fun _=>?_)))) (fun _ w2 n2 h2 l2 =>
  .fb (aI8 hW hfin _ _ [] _ w2 n2 (iU _) (by rw[uU h2];omega) h2) (fun _=>(by repeat' (first|exact dO|exact eJ|exact dP|exact cS|exact eU|exact eP _|exact eO _ _ _|exact eV|assumption|refine cI ?_ (fun _=>?_)))) (fun p w3 n3 h3 l3=>.fb (lK hfin h3) (fun _=>(by repeat' (first|exact dO|exact eJ|exact dP|exact cS|exact eU|exact eP _|exact eO _ _ _|exact eV|assumption|refine cI ?_ (fun _=>?_)))) (fun y w4 n4 h4 l4=>.ok h4 (by omega)))))
end
end
section
section
variable {T:List Tok} {fin:Fault} {α β σ γ:Type} {N:Nat} {q:RQ T} {w:List Tok} {n m m':Nat}
theorem SimL.fbe {r:Rd α} {F:RQ T→α × RQ T} {G:α→RQ T→β × RQ T} {k:α→List Tok→Nat→Rd β} (h:SimL m r (F q)) (hs:∀ a,Stick (G a))
  (hk:∀ a w n,r=.ok a w n→AtI (F q).2 w→w.length<m→SimL m' (k a w n) (G a (F q).2)):SimL m' (r.bind k) (Go.AV.fb F G q):=by
 cases r with
 | bad f =>
  have e:=hs (F q).1 (F q).2 h.1.2;exact ⟨⟨e.trans h.1.1,(nK e).trans h.1.2⟩,.bad _ _⟩
 | ok a w n =>
  obtain ⟨⟨h1,h2⟩,h3⟩:=h;have:=hk a w n rfl h2 (h3 a w n rfl);show SimL m' (k a w n) (G (F q).1 (F q).2);rw[h1];exact this
theorem aHL {x:aD} {one:σ→List Tok→Nat→Rd σ} (P:σ→Prop) (h:∀ a w n a' w' n',one a w n=.ok a' w' n'→P a'):∀ (f:Nat) (a:σ) (w:List Tok) (n:Nat) (b:σ) (w':List Tok) (n':Nat),dH fin x one f a w n=.ok b w' n'→P b
 | 0,a,w,n,b,w',n',e=>by cases e
 | f+1,a,w,n,b,w',n',e=>by
  simp only[dH] at e;cases ho:one a w n with
  | bad g=>rw[ho] at e;cases e
  | ok a2 w2 n2 =>
   rw[ho] at e;simp only[Rd.bind] at e;split at e
   ·exact aHL P h f a2 _ n2 b w' n' e
   ·cases e;exact h a w n _ _ _ ho
theorem aOF {one:List α→List Tok→Nat→Rd α} {acc l:List α} {w':List Tok} {n':Nat} (e:jX fin one acc w n=.ok l w' n'):0<l.length :=
 aHL (fun l=>0<l.length) (fun a w n a' w' n' h=>by
  cases ho:one a w n with
  | bad g=>rw[ho] at h;cases h
  | ok b w2 n2=>rw[ho] at h;cases h;simp) _ _ _ _ _ _ _ e
theorem aOH {k a:Int} {w':List Tok} {n':Nat} (e:nL fin k w n=.ok a w' n'):1≤a:=by
 cases w with
 | nil=>cases e
 | cons t w =>
  simp only[nL] at e;split at e
  ·split at e
   ·cases e
   ·rename_i h;cases e;omega
  ·cases e
def tD (fin:Fault):Nat→Opr→List Tok→Nat→Rd Opr
 | 0,_,_,_=>.bad fin
 | f+1,o,w,n=>match w with
  | []=>.ok o [] n
  | t::w =>
   if ¬ t.kind=1 then .ok o (t::w) n
   else if t.text=[112,114,101,99] then
    (if 0<o.prec then .bad (eG fin 14 (t::w)) else (nL fin 20 w n).bind fun m w n=>tD fin f { o with prec:=m } w n)
   else if t.text=[108,101,102,116] then
    (if o.assoc=0 then tD fin f { o with assoc:=1 } w n else .bad (eG fin 14 (t::w)))
   else if t.text=[114,105,103,104,116] then
    (if o.assoc=0 then tD fin f { o with assoc:=2 } w n else .bad (eG fin 14 (t::w)))
   else if t.text=[115,116,114,105,99,116] then
    (if 0 < o.strict.length then .bad (eG fin 14 (t :: w)) else
     (cV fin [40] w n).bind fun _ w n=>(jX fin (fun _=>nL fin 8) [] w n).bind fun l w n=>(cV fin [41] w n).bind fun _ w n=>tD fin f { o with strict:=l } w n)
   else .ok o (t::w) n
theorem aG7 (K:Opr→Unit→List Tok→Nat→Rd α):∀ (f:Nat) (o:Opr) (w:List Tok) (n:Nat),
  (pH fin f o w n).bind (fun o w n=>(cV fin [46] w n).bind (K o))=(tD fin f o w n).bind (fun o w n=>(cV fin [46] w n).bind (K o))
 | 0,o,w,n=>rfl
 | f+1,o,[],n=>rfl
 | f+1,o,t::w,n=>by
  simp only[pH,tD];by_cases hd:bI [46] (t::w)=true
  ·rw[if_pos hd];simp only[bI,dC,bT,eC] at hd;have e:∀ x:aD,x≠[46]→¬ t.text=x:=fun x hx h=>hx (h.symm.trans hd.2)
   rw[if_neg (e [112,114,101,99] (by decide)),if_neg (e [108,101,102,116] (by decide)),if_neg (e [114,105,103,104,116] (by decide)),if_neg (e [115,116,114,105,99,116] (by decide)),ite_self]
  rw[if_neg hd]
  have bad:∀ o:Opr,(Rd.bad (eG fin 11 (t::w)):Rd Opr).bind (fun o w n=>(cV fin [46] w n).bind (K o))=(Rd.ok o (t::w) n).bind (fun o w n=>(cV fin [46] w n).bind (K o)):=fun o=>by
   simp only[Rd.bind,cV];rw[if_neg hd]
  have ih:=aG7 K f;by_cases h1:¬ t.kind=1
  ·rw[if_pos h1,if_pos h1];exact bad o
  rw[if_neg h1,if_neg h1];by_cases h2:t.text=[112,114,101,99]
  ·rw[if_pos h2,if_pos h2];by_cases h3:0<o.prec
   ·rw[if_pos h3,if_pos h3]
   ·rw[if_neg h3,if_neg h3];simp only[uB,ih]
  rw[if_neg h2,if_neg h2];by_cases h2:t.text=[108,101,102,116]
  ·rw[if_pos h2,if_pos h2];by_cases h3:o.assoc=0
   ·rw[if_pos h3,if_pos h3];exact ih _ _ _
   ·rw[if_neg h3,if_neg h3]
  rw[if_neg h2,if_neg h2];by_cases h2:t.text=[114,105,103,104,116]
  ·rw[if_pos h2,if_pos h2];by_cases h3:o.assoc=0
   ·rw[if_pos h3,if_pos h3];exact ih _ _ _
   ·rw[if_neg h3,if_neg h3]
  rw[if_neg h2,if_neg h2];by_cases h2:t.text=[115,116,114,105,99,116]
  ·rw[if_pos h2,if_pos h2];by_cases h3:0<o.strict.length
   ·rw[if_pos h3,if_pos h3]
   ·rw[if_neg h3,if_neg h3];simp only[uB,ih]
  rw[if_neg h2,if_neg h2];exact bad o
def opP (fin:Fault) (w:List Tok) (n:Nat):Rd Opr :=
 (dS fin w n).bind fun x w n => (cV fin [58] w n).bind fun _ w n => (uL fin (w.length + 1) [] [] false w n).bind fun p w n =>
  (dS fin w n).bind fun y w n=>tD fin (w.length+1) ⟨x,p.2.1,y,if p.2.2=true then p.1 else [],0,0,[]⟩ w n
theorem aPB (K:Opr→Unit→List Tok→Nat→Rd α):(zP fin w n).bind (fun o w n=>(cV fin [46] w n).bind (K o))=(opP fin w n).bind (fun o w n=>(cV fin [46] w n).bind (K o)):=by
 unfold zP opP;simp only[uB,aG7]
def ac:RQ T→Bool:=fun q=>aS 1 [112,114,101,99] q||(aS 1 [108,101,102,116] q||(aS 1 [114,105,103,104,116] q||aS 1 [115,116,114,105,99,116] q))
def ab (fin:Fault) (c:Opr × Bool) (q:RQ T):(Opr × Bool) × RQ T :=
 if q.tok.text=[112,114,101,99] then let p:=gS fin 20 (dI fin (!decide (c.1.prec=0)) q);(({ c.1 with prec:=p.1 },c.2),p.2)
 else if q.tok.text=[108,101,102,116] then (({ c.1 with assoc:=1 },c.2),dI fin (!decide (c.1.assoc=0)) q)
 else if q.tok.text=[114,105,103,104,116] then (({ c.1 with assoc:=2 },c.2),dI fin (!decide (c.1.assoc=0)) q)
 else
  let p:=cK [44] (fun (l:List Int) q=>let p:=gS fin 8 q;(l++[p.1],p.2)) (T.length+2) true c.1.strict (aY fin 4 [40] (dI fin c.2 q))
  (({ c.1 with strict:=p.1 },true),aY fin 4 [41] p.2)
theorem aFh (q:RQ T) (h:q.ok=false):ac q=false:=by unfold ac;rw[oC _ _ h,oC _ _ h,oC _ _ h,oC _ _ h];rfl
def mD:Opr × Bool→RQ T→Opr × RQ T:=fun c=>fr c.1
theorem aAs (hW:∀ t,t∈T→TokW N t) (hfin:fin.code≠0):∀ (f g:Nat) (c:Opr × Bool) (q:RQ T) (w:List Tok) (n:Nat),w.length<f→w.length<g→c.2=decide (0<c.1.strict.length)→0≤c.1.prec→AtI q w →
  SimL (w.length+1) (tD fin f c.1 w n) (fb (bR ac (ab fin) g c) mD q)
 | 0,g,c,q,w,n,hf,_,_,_,_=>by omega
 | f+1,0,c,q,w,n,_,hg,_,_,_=>by omega
 | f+1,g+1,c,q,w,n,hf,hg,hi1,hi2,h=>by
  have stop:ac q=false→SimL (w.length+1) (.ok c.1 w n) (fb (bR ac (ab fin) (g+1) c) mD q):=fun ec=>by
   show SimL _ _ (mD (bR ac (ab fin) (g+1) c q).1 (bR ac (ab fin) (g+1) c q).2);rw[sR _ _ ec];exact SimL.ok h (iU _)
  have st:∀ c':Opr × Bool,Stick (fb (bR ac (ab fin) g c') (mD (T:=T))):=fun c'=>cI (rM aFh _ _) (fun _=>cS)
  cases w with
  | nil=>exact stop (by unfold ac;rw[qP h,qP h,qP h,qP h];rfl)
  | cons t w =>
   have hl:w.length<f∧w.length<g:=by simp only[aF] at hf hg;omega
   have ec:ac q=(decide (t.kind=1)&&(decide (t.text=[112,114,101,99])||(decide (t.text=[108,101,102,116])||(decide (t.text=[114,105,103,104,116])||decide (t.text=[115,116,114,105,99,116]))))):=by
    unfold ac;rw[qC h,qC h,qC h,qC h];cases decide (t.kind=1)<;>simp
   have htx:=(rY h).2.1
   have go:ac q=true→∀ r,SimL (List.length (t::w)+1) r (fb (bR ac (ab fin) g (ab fin c q).1) mD (ab fin c q).2)→SimL (List.length (t::w)+1) r (fb (bR ac (ab fin) (g+1) c) mD q):=fun e r hr=>by
    show SimL _ _ (mD (bR ac (ab fin) (g+1) c q).1 (bR ac (ab fin) (g+1) c q).2);rw[aAd _ _ e];exact hr
   simp only[tD];by_cases h1:¬ t.kind=1
   ·rw[if_pos h1];exact stop (by rw[ec];simp[h1])
   rw[if_neg h1];have k1:decide (t.kind=1)=true:=by simpa using h1
   by_cases h2:t.text=[112,114,101,99]
   ·rw[if_pos h2];refine go (by rw[ec,k1];simp[h2]) _ ?_
    have e:ab fin c q=((({ c.1 with prec:=(gS fin 20 (dI fin (!decide (c.1.prec=0)) q)).1 },c.2):Opr × Bool),(gS fin 20 (dI fin (!decide (c.1.prec=0)) q)).2):=by
     unfold ab;rw[htx,if_pos h2]
    rw[e]
    have hp:(0<c.1.prec)=((!decide (c.1.prec=0))=true):=by
     apply propext;simp only[mM,tY];omega
    simp only[hp];refine vX (K:=fb (gS fin 20) (fun m=>fb (bR ac (ab fin) g ({ c.1 with prec:=m },c.2)) mD)) hfin (cI (eP _) (fun _=>st _)) h ?_;refine .fbe (aJH hfin 20 (kM h)) (fun _=>st _) (fun m w1 n1 e1 h1 l1=>?_);exact (aAs hW hfin f g ({ c.1 with prec:=m },c.2) _ w1 n1 (by omega) (by omega) hi1 (by have:=aOH e1;show 0≤m;omega) h1).mono (by simp only[aF];omega)
   rw[if_neg h2];by_cases h3:t.text=[108,101,102,116]
   ·rw[if_pos h3];refine go (by rw[ec,k1];simp[h3]) _ ?_;have e:ab fin c q=((({ c.1 with assoc:=1 },c.2):Opr × Bool),dI fin (!decide (c.1.assoc=0)) q):=by unfold ab;rw[htx,if_neg h2,if_pos h3]
    rw[e]
    have hk:=vX (c:=!decide (c.1.assoc=0)) (K:=fb (bR ac (ab fin) g (({ c.1 with assoc:=1 },c.2):Opr × Bool)) mD) hfin (st _) h
     ((aAs hW hfin f g ({ c.1 with assoc:=1 },c.2) _ w n (by omega) (by omega) hi1 hi2 (kM h)).mono (m':=List.length (t::w)+1) (by simp only[aF];omega))
    by_cases ha:c.1.assoc=0
    ·rw[if_pos ha];rw[if_neg (by simp[ha])] at hk;exact hk
    ·rw[if_neg ha];rw[if_pos (by simp[ha])] at hk;exact hk
   rw[if_neg h3];by_cases h4:t.text=[114,105,103,104,116]
   ·rw[if_pos h4];refine go (by rw[ec,k1];simp[h4]) _ ?_;have e:ab fin c q=((({ c.1 with assoc:=2 },c.2):Opr × Bool),dI fin (!decide (c.1.assoc=0)) q):=by unfold ab;rw[htx,if_neg h2,if_neg h3,if_pos h4]
    rw[e]
    have hk:=vX (c:=!decide (c.1.assoc=0)) (K:=fb (bR ac (ab fin) g (({ c.1 with assoc:=2 },c.2):Opr × Bool)) mD) hfin (st _) h
     ((aAs hW hfin f g ({ c.1 with assoc:=2 },c.2) _ w n (by omega) (by omega) hi1 hi2 (kM h)).mono (m':=List.length (t::w)+1) (by simp only[aF];omega))
    by_cases ha:c.1.assoc=0
    ·rw[if_pos ha];rw[if_neg (by simp[ha])] at hk;exact hk
    ·rw[if_neg ha];rw[if_pos (by simp[ha])] at hk;exact hk
   rw[if_neg h4];by_cases h5:t.text=[115,116,114,105,99,116]
   ·rw[if_pos h5];refine go (by rw[ec,k1];simp[h5]) _ ?_
    let K:RQ T→Opr × RQ T:=fb (wF fin 4 [40]) (fun _=>fb (cK [44] (fun (l:List Int) q=>let p:=gS fin 8 q;(l++[p.1],p.2)) (T.length+2) true c.1.strict) fun l=>fb (wF fin 4 [41]) fun _ =>
     fb (bR ac (ab fin) g (({ c.1 with strict:=l },true):Opr × Bool)) mD)
    have e:fb (bR ac (ab fin) g (ab fin c q).1) mD (ab fin c q).2=K (dI fin c.2 q):=by unfold ab;rw[htx,if_neg h2,if_neg h3,if_neg h4];rfl
    rw[e];have hs:Stick K:=cI dP (fun _=>cI (eO _ _ _) (fun _=>cI dP (fun _=>st _)));have hp:(0<c.1.strict.length)=(c.2=true):=by rw[hi1];simp
    simp only[hp];by_cases hc:c.2=true
    ·have hk:=vX (c:=c.2) (m:=List.length (t::w)+1) (r:=(Rd.bad fin:Rd Opr)) (K:=K) hfin hs h;obtain ⟨f1,f2⟩:=qT (fin:=fin) h 14 (by decide) hfin;rw[if_pos hc];refine SimL.off hs ?_ rfl;unfold dI;rw[if_pos hc];exact ⟨(inc_f _).trans f1,(yG _).trans f2⟩
    rw[if_neg hc]
    have hnil:c.1.strict=[]:=by
     have:¬ 0<c.1.strict.length:=by rw[hp];exact hc
     exact gR (by omega)
    have hq:dI fin c.2 q=q.inc:=by unfold dI;rw[if_neg hc]
    rw[hq]
    show SimL _ _ (fb (wF fin 4 [40]) (fun _=>fb (cK [44] (fun (l:List Int) q=>let p:=gS fin 8 q;(l++[p.1],p.2)) (T.length+2) true c.1.strict) fun l=>fb (wF fin 4 [41]) fun _ =>
     fb (bR ac (ab fin) g (({ c.1 with strict:=l },true):Opr × Bool)) mD) q.inc)
    rw[hnil]
    refine .fb (lO hW hfin [40] (sx rfl (by decide)) (by decide) (kM h)) (fun _=>cI (eO _ _ _) (fun _=>cI dP (fun _=>st _))) (fun _ w1 n1 h1 l1 =>
     .fbe (yK (el:=fun _=>gS fin 8) hW (fun l q w n h=>aJH hfin 8 h) [] h1) (fun _=>cI dP (fun _=>st _)) (fun l w2 n2 e2 h2 l2 =>
     .fb (lO hW hfin [41] (sx rfl (by decide)) (by decide) h2) (fun _=>st _) (fun _ w3 n3 h3 l3=>?_)))
    exact (aAs hW hfin f g ({ c.1 with strict:=l },true) _ w3 n3 (by omega) (by omega) (by have:=aOF e2;simp[this]) hi2 h3).mono (by simp only[aF];omega)
   rw[if_neg h5];exact stop (by rw[ec];simp[h2,h3,h4,h5])
theorem aSm (hW:∀ t,t∈T→TokW N t) (hfin:fin.code≠0) (h:AtI q w):SimL w.length (opP fin w n) (oP fin q):=by
 have e:oP fin q=fb (bB fin) (fun x=>fb (wF fin 4 [58]) fun _=>fb (fb (bR pc (pb fin) (T.length+1) ([],[],false)) (iS fin)) fun p=>fb (bB fin) fun y =>
  fb (bR ac (ab fin) (T.length+1) (⟨x,p.2.1,y,if p.2.2=true then p.1 else [],0,0,[]⟩,false)) mD) q:=rfl
 rw[e];have st:Stick (fb (bR pc (pb fin) (T.length+1) ([],[],false)) (iS (T:=T) fin)):=cI (rM aE2 _ _) (fun _=>xQ);have st2:∀ c:Opr × Bool,Stick (fb (bR ac (ab fin) (T.length+1) c) (mD (T:=T))):=fun c=>cI (rM aFh _ _) (fun _=>cS)
 refine .fb (lK hfin h) (fun _=>cI dP (fun _=>cI st (fun _=>cI dO (fun _=>st2 _)))) (fun x w1 n1 h1 l1=>.fb (lO hW hfin [58] (sx rfl (by decide)) (by decide) h1) (fun _=>cI st (fun _=>cI dO (fun _=>st2 _))) (fun _ w2 n2 h2 l2 =>
  .fb (aEA hW hfin _ _ ([],[],false) _ w2 n2 (iU _) (by rw[uU h2];omega) h2) (fun _=>cI dO (fun _=>st2 _)) (fun p w3 n3 h3 l3=>.fb (lK hfin h3) (fun _=>st2 _) (fun y w4 n4 h4 l4=>?_))))
 exact (aAs hW hfin _ _ (⟨x,p.2.1,y,if p.2.2=true then p.1 else [],0,0,[]⟩,false) _ w4 n4 (iU _) (by rw[uU h4];omega) rfl (rO 0) h4).mono (by omega)
end
end
section
section
variable {T:List Tok} {fin:Fault} {α β σ γ:Type} {N:Nat} {q:RQ T} {w:List Tok} {n m m':Nat}
theorem aGG {x:aD} {one:List Tok→Nat→Rd α} (a:List α):∀ (f:Nat) (acc:List α) (w:List Tok) (n:Nat),
  dH fin x (fun acc w n=>(one w n).bind fun b w n=>.ok (acc++[b]) w n) f (a++acc) w n=(dH fin x (fun acc w n=>(one w n).bind fun b w n=>.ok (acc++[b]) w n) f acc w n).bind fun l w n=>.ok (a++l) w n
 | 0,acc,w,n=>rfl
 | f+1,acc,w,n=>by
  simp only[dH,uB];cases one w n with
  | bad g=>rfl
  | ok b w' n' =>
   simp only[Rd.bind,oW];split
   ·exact aGG a f (acc++[b]) _ _
   ·rfl
theorem aLS {one:List Tok→Nat→Rd α} (a:List α):jX fin (fun _=>one) a w n=(jX fin (fun _=>one) [] w n).bind fun l w n=>.ok (a++l) w n:=by
 have:=aGG (fin:=fin) (x:=[44]) (one:=one) a (w.length+1) [] w n;rw[wZ] at this;exact this
theorem aGJ:Stick (kF (T:=T) fin):=fun q h=>by
 have e:kF fin q=fb (bB fin) (fun x=>fb (wF fin 4 [58]) fun _=>fb (bB fin) fun y=>fb (wF fin 4 [61]) fun _=>fb (eA fin) fun i=>fr (⟨x,y,i,(dR fin q).1,(dR fin q).2⟩:Cel)) q:=rfl;rw[e];have s:Stick (fb (bB (T:=T) fin) (fun x=>fb (wF fin 4 [58]) fun _=>fb (bB fin) fun y=>fb (wF fin 4 [61]) fun _=>fb (eA fin) fun i=>fr (⟨x,y,i,(dR fin q).1,(dR fin q).2⟩:Cel))):=(by repeat' (first|exact dO|exact eJ|exact dP|exact cS|exact eU|exact eP _|exact eO _ _ _|exact eV|assumption|refine cI ?_ (fun _=>?_)));exact s q h
theorem xU {F:RQ T→α × RQ T} (h:Stick F):Stick (fun q=>F q.inc):=fun q hq=>(h _ (by rw[yG];exact hq)).trans (inc_f q)
theorem aNI:Stick (mJ (T:=T) fin):=fun q h=>by
 have e:mJ fin q=fb (eA fin) (fun l=>fb (wF fin 4 [61]) fun _=>fb (eA fin) fun r=>fb (iA fin) fun c=>fr (⟨l,r,c,(dR fin q).1,(dR fin q).2⟩:Eqn)) q.inc:=rfl;rw[e];have s:Stick (fb (eA (T:=T) fin) (fun l=>fb (wF fin 4 [61]) fun _=>fb (eA fin) fun r=>fb (iA fin) fun c=>fr (⟨l,r,c,(dR fin q).1,(dR fin q).2⟩:Eqn))):=(by repeat' (first|exact dO|exact eJ|exact dP|exact cS|exact eU|exact eP _|exact eO _ _ _|exact eV|assumption|refine cI ?_ (fun _=>?_)));exact xU s q h
theorem aLY:Stick (mV (T:=T) fin):=fun q h=>by
 have e:mV fin q=fb (bB fin) (fun x=>fb (wF fin 4 [58]) fun _=>fb (cK [59] (aAE fin) (T.length+2) true (⟨x,[],[],[],[],(dR fin q).1,(dR fin q).2⟩,0)) fun c=>fb (iA fin) fun l=>fr { c.1 with cond:=l }) q.inc:=rfl;rw[e];have s:Stick (fb (bB (T:=T) fin) (fun x=>fb (wF fin 4 [58]) fun _=>fb (cK [59] (aAE fin) (T.length+2) true (⟨x,[],[],[],[],(dR fin q).1,(dR fin q).2⟩,0)) fun c=>fb (iA fin) fun l=>fr { c.1 with cond:=l })):=(by repeat' (first|exact dO|exact eJ|exact dP|exact cS|exact eU|exact eP _|exact eO _ _ _|exact eV|assumption|refine cI ?_ (fun _=>?_)));exact xU s q h
theorem aNW:Stick (oP (T:=T) fin):=fun q h=>by
 have e:oP fin q=fb (bB fin) (fun x=>fb (wF fin 4 [58]) fun _=>fb (fb (bR pc (pb fin) (T.length+1) ([],[],false)) (iS fin)) fun p=>fb (bB fin) fun y =>
  fb (bR ac (ab fin) (T.length+1) (⟨x,p.2.1,y,if p.2.2=true then p.1 else [],0,0,[]⟩,false)) mD) q:=rfl
 rw[e];have st:Stick (fb (bR pc (pb fin) (T.length+1) ([],[],false)) (iS (T:=T) fin)):=cI (rM aE2 _ _) (fun _=>xQ);have st2:∀ c:Opr × Bool,Stick (fb (bR ac (ab fin) (T.length+1) c) (mD (T:=T))):=fun c=>cI (rM aFh _ _) (fun _=>cS)
 exact cI dO (fun _=>cI dP (fun _=>cI st (fun _=>cI dO (fun _=>st2 _)))) q h
theorem aMq:Stick (mE (T:=T) fin):=fun q h=>by
 have e:mE fin q=fb (bB fin) (fun x=>fb (wF fin 4 [58]) fun _=>fb (fb (bR cN (gb fin) (T.length+1) []) (iS fin)) fun p=>fb (bB fin) fun y=>fr (⟨x,p,y,[],0,0,[]⟩:Opr)) q:=rfl;rw[e];have st:Stick (fb (bR cN (gb fin) (T.length+1) []) (iS (T:=T) fin)):=cI (rM aEc _ _) (fun _=>xQ);exact cI dO (fun _=>cI dP (fun _=>cI st (fun _=>cI dO (fun _=>cS)))) q h
def aJW (fin:Fault) (d:Dfn):RQ T→Dfn × RQ T:=fb (wF fin 4 [46]) fun _=>fr d
theorem aMF (d:Dfn):Stick (aJW (T:=T) fin d):=cI dP (fun _=>cS)
theorem uV (hW:∀ t,t∈T→TokW N t) (hfin:fin.code≠0) {r:Rd Dfn} {F:RQ T→Dfn × RQ T} (h:SimL m r (F q)):SimL m (r.bind fun d w n=>(cV fin [46] w n).bind fun _ w n=>.ok d w n) (fb F (aJW fin) q) :=
 .fb h (fun d=>aMF d) (fun d w n h l=>.fb (lO hW hfin [46] (sx rfl (by decide)) (by decide) h) (fun _=>cS) (fun _ w2 n2 h2 l2=>.ok h2 (by omega)))
theorem aE5 {c:Prop} [Decidable c] {b:Bool} (h:b=!decide c) {r:Rd α} {f:Fault}:(if c then r else .bad f)=(if b=true then .bad f else r):=by
 subst h;by_cases hc:c<;>simp[hc]
theorem aOg (hW:∀ t,t∈T→TokW N t) (hN:N≤4294967296) (hT:T.length≤3001) (hfin:fin.code≠0) (d:Dfn) {t:Tok} (h:AtI q (t::w)) (hr:dC t [114,117,108,101]=false):SimL (w.length+1) (tC false fin d t w n) (oF fin d q):=by
 have k:∀ x,(∃ c r,x=c::r∧gJ c.toNat=true)→aS 1 x q=dC t x:=fun x hx=>aAA hW x hx h
 unfold tC oF;rw[k [115,116,97,114,116] ⟨_,_,rfl,by decide⟩,k [119,97,116,99,104] ⟨_,_,rfl,by decide⟩,k [99,101,108,108] ⟨_,_,rfl,by decide⟩,k [109,97,110,121] ⟨_,_,rfl,by decide⟩,k [114,117,108,101] ⟨_,_,rfl,by decide⟩,hr];by_cases h1:dC t [115,116,97,114,116]=true
 ·rw[if_pos h1,if_pos h1,aE5 rfl];exact vX (m:=w.length+1) (c:=!decide (d.start=[])) (K:=fb (bB fin) (fun x=>fr { d with start:=x })) hfin (cI dO (fun _=>cS)) h (.fb (lK hfin (kM h)) (fun _=>cS) (fun x w1 n1 h1 l1=>.ok h1 (by omega)))
 rw[if_neg h1,if_neg h1];by_cases h2:dC t [119,97,116,99,104]=true
 ·rw[if_pos h2,if_pos h2,aE5 rfl];exact vX (m:=w.length+1) (c:=!decide (d.watch=[])) (K:=fb (bB fin) (fun x=>fr { d with watch:=x })) hfin (cI dO (fun _=>cS)) h (.fb (lK hfin (kM h)) (fun _=>cS) (fun x w1 n1 h1 l1=>.ok h1 (by omega)))
 rw[if_neg h2,if_neg h2];by_cases h3:dC t [99,101,108,108]=true
 ·rw[if_pos h3,if_pos h3];exact uT (m:=w.length+1) (have_:=d.once.length) (most:=12) (K:=fun q=>fb (kF fin) (fun c=>fr { d with once:=d.once++[c] }) q.inc) hfin (xU (cI aGJ (fun _=>cS))) h (.fb (aJf hW hN hT hfin (kM h)) (fun _=>cS) (fun x w1 n1 h1 l1=>.ok h1 (by omega)))
 rw[if_neg h3,if_neg h3];by_cases h4:dC t [109,97,110,121]=true
 ·rw[if_pos h4,if_pos h4,aE5 rfl]
  exact vX (m:=w.length+1) (c:=!decide (d.kind=[])) (K:=fb (bB fin) (fun x=>fb (wF fin 4 [40]) fun _=>fb (cK [44] (fun (l:List Cel) q=>let p:=kF fin (if cN q=true then bG fin l.length 12 q else q);(l++[p.1],p.2)) (T.length+2) true d.many) fun l=>fb (wF fin 4 [41]) fun _=>fr { d with kind:=x,many:=l }))
   hfin (by repeat' (first|exact dO|exact eJ|exact dP|exact cS|exact eU|exact eP _|exact eO _ _ _|exact eV|assumption|refine cI ?_ (fun _=>?_))) h (.fb (lK hfin (kM h)) (fun _=>(by repeat' (first|exact dO|exact eJ|exact dP|exact cS|exact eU|exact eP _|exact eO _ _ _|exact eV|assumption|refine cI ?_ (fun _=>?_)))) (fun x w1 n1 h1 l1=>.fb (lO hW hfin [40] (sx rfl (by decide)) (by decide) h1) (fun _=>(by repeat' (first|exact dO|exact eJ|exact dP|exact cS|exact eU|exact eP _|exact eO _ _ _|exact eV|assumption|refine cI ?_ (fun _=>?_)))) (fun _ w2 n2 h2 l2 =>
    .fb (yK (el:=fun l q=>kF fin (if cN q=true then bG fin l.length 12 q else q)) hW (fun l q w n h=>aJw hfin aGJ h (fun e=>by subst e;rfl) (aJf hW hN hT hfin h)) d.many h2) (fun _=>(by repeat' (first|exact dO|exact eJ|exact dP|exact cS|exact eU|exact eP _|exact eO _ _ _|exact eV|assumption|refine cI ?_ (fun _=>?_)))) (fun l w3 n3 h3 l3 =>
    .fb (lO hW hfin [41] (sx rfl (by decide)) (by decide) h3) (fun _=>(by repeat' (first|exact dO|exact eJ|exact dP|exact cS|exact eU|exact eP _|exact eO _ _ _|exact eV|assumption|refine cI ?_ (fun _=>?_)))) (fun _ w4 n4 h4 l4=>.ok h4 (by omega))))))
 rw[if_neg h4,if_neg h4,if_neg (by decide)];obtain ⟨g1,g2⟩:=qT (fin:=fin) h 11 (by decide) hfin;exact ⟨⟨g1,g2⟩,.bad _ _⟩
theorem aMY (hW:∀ t,t∈T→TokW N t) (d:Dfn) {t:Tok} (h:AtI q (t::w)) (hr:dC t [114,117,108,101]=true):oF fin d q=fb (mV fin) (fun r=>fr { d with rules:=d.rules++[r] }) (bG fin d.rules.length 300 q):=by
 have k:∀ x,(∃ c r,x=c::r∧gJ c.toNat=true)→aS 1 x q=dC t x:=fun x hx=>aAA hW x hx h
 have hx:t.text=[114,117,108,101]:=by simp only[dC,bT,eC] at hr;exact hr.2
 have e:∀ x:aD,x≠[114,117,108,101]→dC t x=false:=fun x hne=>by
  have hn:¬ t.text=x:=fun e=>hne (e.symm.trans hx)
  simp[dC,hn]
 unfold oF
 rw[k [115,116,97,114,116] ⟨_,_,rfl,by decide⟩,k [119,97,116,99,104] ⟨_,_,rfl,by decide⟩,k [99,101,108,108] ⟨_,_,rfl,by decide⟩,k [109,97,110,121] ⟨_,_,rfl,by decide⟩,k [114,117,108,101] ⟨_,_,rfl,by decide⟩,hr,
  e [115,116,97,114,116] (by decide),e [119,97,116,99,104] (by decide),e [99,101,108,108] (by decide),e [109,97,110,121] (by decide)]
 rfl
theorem aJe (hW:∀ t,t∈T→TokW N t) (hN:N≤4294967296) (hT:T.length≤3001) (hfin:fin.code≠0) (d:Dfn) {t:Tok} (h:AtI q (t::w)):SimL (w.length+1) (wC false fin d (t::w) n) (jW fin d q):=by
 have k:∀ x,(∃ c r,x=c::r∧gJ c.toNat=true)→aS 1 x q=dC t x:=fun x hx=>aAA hW x hx h
 unfold jW;simp only[wC];rw[k [115,111,114,116] ⟨_,_,rfl,by decide⟩,k [115,117,98,115,111,114,116] ⟨_,_,rfl,by decide⟩,k [118,97,108,117,101] ⟨_,_,rfl,by decide⟩,k [111,112] ⟨_,_,rfl,by decide⟩,k [102,117,110] ⟨_,_,rfl,by decide⟩,k [108,101,116] ⟨_,_,rfl,by decide⟩];have hi:=kM h;by_cases h1:dC t [115,111,114,116]=true
 ·rw[if_pos h1,if_pos h1];refine uV (F:=fun q=>fb (cK [44] (fun (l:List aD) q=>let p:=bB fin (if cN q=true then bG fin l.length 40 q else q);(l++[p.1],p.2)) (T.length+2) true d.sig.sorts) (fun l=>fr { d with sig:={ d.sig with sorts:=l } }) q.inc) hW hfin ?_;exact .fb (yK (el:=fun l q=>bB fin (if cN q=true then bG fin l.length 40 q else q)) hW (fun l q w n h=>aJw hfin dO h (fun e=>by subst e;rfl) (lK hfin h)) d.sig.sorts hi) (fun _=>cS) (fun l w1 n1 h1 l1=>.ok h1 (by omega))
 rw[if_neg h1,if_neg h1];by_cases h2:dC t [115,117,98,115,111,114,116]=true
 ·rw[if_pos h2,if_pos h2];refine uV (F:=fun q=>fb (bB fin) (fun x=>fb (wF fin 4 [60]) fun _=>fb (bB fin) fun y=>fr { d with sig:={ d.sig with below:=d.sig.below++[(⟨x,y⟩:Below)] } }) (bG fin d.sig.below.length 200 q).inc) hW hfin ?_;refine uT (K:=fun q=>fb (bB fin) (fun x=>fb (wF fin 4 [60]) fun _=>fb (bB fin) fun y=>fr { d with sig:={ d.sig with below:=d.sig.below++[(⟨x,y⟩:Below)] } }) q.inc) hfin (xU (by repeat' (first|exact dO|exact eJ|exact dP|exact cS|exact eU|exact eP _|exact eO _ _ _|exact eV|assumption|refine cI ?_ (fun _=>?_)))) h ?_;exact .fb (lK hfin hi) (fun _=>(by repeat' (first|exact dO|exact eJ|exact dP|exact cS|exact eU|exact eP _|exact eO _ _ _|exact eV|assumption|refine cI ?_ (fun _=>?_)))) (fun x w1 n1 h1 l1=>.fb (lO hW hfin [60] (sx rfl (by decide)) (by decide) h1) (fun _=>(by repeat' (first|exact dO|exact eJ|exact dP|exact cS|exact eU|exact eP _|exact eO _ _ _|exact eV|assumption|refine cI ?_ (fun _=>?_)))) (fun _ w2 n2 h2 l2=>.fb (lK hfin h2) (fun _=>(by repeat' (first|exact dO|exact eJ|exact dP|exact cS|exact eU|exact eP _|exact eO _ _ _|exact eV|assumption|refine cI ?_ (fun _=>?_)))) (fun y w3 n3 h3 l3=>.ok h3 (by omega))))
 rw[if_neg h2,if_neg h2];by_cases h3:dC t [118,97,108,117,101]=true
 ·rw[if_pos h3,if_pos h3];refine uV (F:=fun q=>fb (cK [44] (fun (l:List aD) q=>let p:=bB fin q;(l++[p.1],p.2)) (T.length+2) true d.sig.values) (fun l=>fr { d with sig:={ d.sig with values:=l } }) q.inc) hW hfin ?_;have:=SimL.fb (m':=w.length+1) (G:=fun l=>fr { d with sig:={ d.sig with values:=l } }) (k:=fun l w n=>Rd.ok { d with sig:={ d.sig with values:=l } } w n) (yK (fin:=fin) (n:=n) (one:=fun _=>dS fin) (el:=fun _=>bB fin) hW (fun l q w n h=>lK hfin h) d.sig.values hi) (fun _=>cS) (fun l w1 n1 h1 l1=>.ok h1 (by omega));rw[aLS,uB] at this;exact this
 rw[if_neg h3,if_neg h3];by_cases h4:dC t [111,112]=true
 ·have ht:t.text=[111,112]:=by simp only[dC,bT,eC] at h4;exact h4.2
  rw[if_pos (.inl h4),if_pos h4]
  have e:∀ b:Bool,((if 200≤d.sig.ops.length+d.sig.funs.length then Rd.bad (kG fin (t::w)) else if t.text=[111,112] then (zP fin w n).bind fun o w n=>Rd.ok { d with sig:={ d.sig with ops:=d.sig.ops++[o] } } w n
   else (aAP fin w n).bind fun o w n=>Rd.ok { d with sig:={ d.sig with funs:=d.sig.funs++[o] } } w n).bind fun d w n=>(cV fin [46] w n).bind fun _ w n=>.ok d w n) =
   ((if 200≤d.sig.ops.length+d.sig.funs.length then Rd.bad (kG fin (t::w)) else (opP fin w n).bind fun o w n=>Rd.ok { d with sig:={ d.sig with ops:=d.sig.ops++[o] } } w n).bind fun d w n=>(cV fin [46] w n).bind fun _ w n=>.ok d w n):=fun _=>by
   rw[if_pos ht];by_cases h20:200≤d.sig.ops.length+d.sig.funs.length
   ·rw[if_pos h20,if_pos h20]
   ·rw[if_neg h20,if_neg h20,uB,uB];exact aPB (fin:=fin) (fun o _ w n=>Rd.ok { d with sig:={ d.sig with ops:=d.sig.ops++[o] } } w n)
  rw[e true];refine uV (F:=fun q=>fb (oP fin) (fun o=>fr { d with sig:={ d.sig with ops:=d.sig.ops++[o] } }) (bG fin (d.sig.ops.length+d.sig.funs.length) 200 q).inc) hW hfin ?_;refine uT (K:=fun q=>fb (oP fin) (fun o=>fr { d with sig:={ d.sig with ops:=d.sig.ops++[o] } }) q.inc) hfin (xU (cI aNW (fun _=>cS))) h ?_;exact .fb (aSm hW hfin hi) (fun _=>cS) (fun x w1 n1 h1 l1=>.ok h1 (by omega))
 rw[if_neg h4];by_cases h5:dC t [102,117,110]=true
 ·have ht:¬ t.text=[111,112]:=by
   simp only[dC,bT,eC] at h5;rw[h5.2];decide
  rw[if_pos (.inr h5),if_pos h5,if_neg ht];refine uV (F:=fun q=>fb (mE fin) (fun o=>fr { d with sig:={ d.sig with funs:=d.sig.funs++[o] } }) (bG fin (d.sig.ops.length+d.sig.funs.length) 200 q).inc) hW hfin ?_;refine uT (K:=fun q=>fb (mE fin) (fun o=>fr { d with sig:={ d.sig with funs:=d.sig.funs++[o] } }) q.inc) hfin (xU (cI aMq (fun _=>cS))) h ?_;exact .fb (aQQ hW hfin hi) (fun _=>cS) (fun x w1 n1 h1 l1=>.ok h1 (by omega))
 rw[if_neg (fun g=>g.elim h4 h5),if_neg h5];by_cases h6:dC t [108,101,116]=true
 ·rw[if_pos h6,if_pos h6];refine uV (F:=fun q=>fb (mJ fin) (fun e=>fr { d with eqs:=d.eqs++[e] }) (bG fin d.eqs.length 300 q)) hW hfin ?_;refine uT (K:=fb (mJ fin) (fun e=>fr { d with eqs:=d.eqs++[e] })) hfin (cI aNI (fun _=>cS)) h ?_;have:=SimL.fb (m':=w.length+1) (G:=fun e=>fr { d with eqs:=d.eqs++[e] }) (k:=fun e w n=>Rd.ok { d with eqs:=d.eqs++[e] } w n) (aSq (n:=n) hW hN hT hfin h) (fun _=>cS) (fun e w1 n1 h1 l1=>.ok h1 (by omega));simp only[uB] at this;exact this
 rw[if_neg h6,if_neg h6];by_cases h7:dC t [114,117,108,101]=true
 ·rw[if_pos h7];refine uV (F:=oF fin d) hW hfin ?_;rw[aMY hW d h h7];refine uT (K:=fb (mV fin) (fun r=>fr { d with rules:=d.rules++[r] })) hfin (cI aLY (fun _=>cS)) h ?_;exact .fb (aPw hW hN hT hfin h) (fun _=>cS) (fun x w1 n1 h1 l1=>.ok h1 (by omega))
 rw[if_neg h7];exact uV (F:=oF fin d) hW hfin (aOg hW hN hT hfin d h (by simpa using h7))
def lc:RQ T→Bool:=fun q=>q.ok&&decide (q.at_<T.length)
theorem aE9 (q:RQ T) (h:q.ok=false):lc q=false:=by unfold lc;rw[h];rfl
theorem aIH (hW:∀ t,t∈T→TokW N t) (hN:N≤4294967296) (hT:T.length≤3001) (hfin:fin.code≠0):∀ (f g:Nat) (d:Dfn) (q:RQ T) (w:List Tok) (n:Nat),w.length<f→w.length<g→AtI q w →
  SimI (uO false fin f d w n) (bR lc (fun d q=>jW fin d q) g d q)
 | 0,g,d,q,w,n,hf,_,_=>by omega
 | f+1,0,d,q,w,n,_,hg,_=>by omega
 | f+1,g+1,d,q,w,n,hf,hg,h=>by
  cases w with
  | nil =>
   have ec:lc q=false:=by unfold lc;rw[eL (aAx h.at :),cZ]
   rw[sR _ _ ec];exact ⟨rfl,h⟩
  | cons t w =>
   have ec:lc q=true:=by unfold lc;rw[h.ok,fC (rY h).1];rfl
   rw[aAd _ _ ec];obtain ⟨h1,h2⟩:=aJe (n:=n) hW hN hT hfin d h;simp only[uO];cases hr:wC false fin d (t::w) n with
   | bad e =>
    rw[hr] at h1;rw[aD3 aE9 _ _ _ h1.2];exact h1
   | ok d' w' n' =>
    rw[hr] at h1 h2;have hl:=h2 d' w' n' rfl;simp only[aF] at hf hg;simp only[Rd.bind];rw[h1.1];exact aIH hW hN hT hfin f g d' _ w' n' (by omega) (by omega) h1.2
theorem aNG (hW:∀ t,t∈T→TokW N t) (hN:N≤4294967296) (hT:T.length≤3001) (hfin:fin.code≠0) (h:AtI q T):SimI (tN false fin T) (yT fin q):=by
 have e:yT fin q=fb (wF fin 1 [108,97,110,103,117,97,103,101]) (fun _=>fb (bB fin) fun x=>fb (wF fin 4 [46]) fun _=>bR lc (fun d q=>jW fin d q) (T.length+1) { eB with name:=x }) q:=rfl;rw[e]
 have hw:SimL T.length (cV fin [108,97,110,103,117,97,103,101] T 0) (wF fin 1 [108,97,110,103,117,97,103,101] q):=by
  refine ⟨?_,aIW _⟩;unfold cV wF aY;rw[aAA hW [108,97,110,103,117,97,103,101] ⟨_,_,rfl,by decide⟩ h];by_cases hc:bI [108,97,110,103,117,97,103,101] T=true
  ·rw[if_pos hc,if_pos hc];exact ⟨rfl,aAB h hc⟩
  ·rw[if_neg hc,if_neg hc];exact qT h 11 (by decide) hfin
 have st:∀ d:Dfn,Stick (bR (T:=T) lc (fun d q=>jW fin d q) (T.length+1) d):=fun d=>rM aE9 _ _
 have key:∀ (x:aD) (q2:RQ T) (w:List Tok) (n:Nat),AtI q2 w→SimI (uO false fin (w.length+1) { eB with name:=x } w n) (bR lc (fun d q=>jW fin d q) (T.length+1) { eB with name:=x } q2):=fun x q2 w n h2 =>
  aIH hW hN hT hfin _ _ _ _ w n (iU _) (by rw[uU h2];omega) h2
 unfold tN;refine SimI.bind (K:=fun _=>fb (bB fin) fun x=>fb (wF fin 4 [46]) fun _=>bR lc (fun d q=>jW fin d q) (T.length+1) { eB with name:=x }) hw.1 (cI dO (fun _=>cI dP (fun _=>st _))) (fun w1 n1 _ h1=>?_);refine SimI.bind (K:=fun x=>fb (wF fin 4 [46]) fun _=>bR lc (fun d q=>jW fin d q) (T.length+1) { eB with name:=x }) (aFd hfin h1) (cI dP (fun _=>st _)) (fun w2 n2 _ h2=>?_);refine SimI.bind (K:=fun _=>bR lc (fun d q=>jW fin d q) (T.length+1) { eB with name:=_ }) (aI4 hW hfin [46] (sx rfl (by decide)) (by decide) h2) (st _) (fun w3 n3 _ h3=>?_);exact key _ _ w3 n3 h3
end
end
section
section
variable {s:St} {KV Kp:St→A→Prop}
def q0 (T:List Tok):RQ T:=⟨0,bS _,Fault.none,0,0,false⟩
def aAL (x:aD) (T:List Tok):Dfn × Fault:=if (yT (cX x) (q0 T)).2.ok=true then ((yT (cX x) (q0 T)).1,Fault.none) else (eB,(yT (cX x) (q0 T)).2.f)
def aAD (x:aD):Dfn × Fault:=match iH dX true x with
 | .bad f=>(eB,f)
 | .ok T=>aAL x T
theorem aHa {T:List Tok} {fin:Fault} (k:Int) (y:aD) (q:RQ T):(aY fin k y q).over=q.over:=by
 unfold aY RQ.inc cJ;split<;>split<;>rfl
theorem aMT {T:List Tok} {fin:Fault} (q:RQ T):(bB fin q).2.over=q.over:=by
 unfold bB RQ.inc cJ;split
 ·simp only;split<;>rfl
 ·simp only;split<;>rfl
theorem aOX {T:List Tok} {fin:Fault} {N:Nat} {q:RQ T} (hW:∀ t,t∈T→TokW N t) (hN:N≤4294967296) (hT:T.length≤3001) (hfin:fin.code≠0) (d:Dfn) (hok:q.ok=true) (hlt:q.at_<T.length) (hov:q.over=false)
  (h:(jW fin d q).2.ok=true):q.at_<(jW fin d q).2.at_∧(jW fin d q).2.over=false:=by
 have hA:AtI q (T[q.at_]::T.drop (q.at_+1)):=⟨hok,lU hlt,hov⟩;obtain ⟨h1,h2⟩:=aJe (n:=0) hW hN hT hfin d hA;cases hr:wC false fin d (T[q.at_]::T.drop (q.at_+1)) 0 with
 | bad f=>rw[hr] at h1;rw[h1.2] at h;cases h
 | ok d' w' n' =>
  rw[hr] at h1 h2;have hl:=h2 d' w' n' rfl;have hl2:=uU h1.2;rw[cP] at hl;exact ⟨by omega,h1.2.ov⟩
def aCr (KV:St→A→Prop) (s:St) {T:List Tok} (p:Dfn × RQ T):Prop:=KV s (.tuple [(if p.2.ok=true then (p.1,Fault.none) else (eB,p.2.f)).1.enc,(if p.2.ok=true then (p.1,Fault.none) else (eB,p.2.f)).2.enc])
theorem aNd {T:List Tok} (fin:Fault) (q:RQ T):yT fin q=bR lc (fun d q=>jW fin d q) (T.length+1) { eB with name:=(bB fin (aY fin 1 [108,97,110,103,117,97,103,101] q)).1 } (aY fin 4 [46] (bB fin (aY fin 1 [108,97,110,103,117,97,103,101] q)).2):=rfl
theorem aLL (x:aD) (T:List Tok) (hx:x.length≤3000) (hl:iH dX true x=.ok T) (hk:KV s (.tuple [(aAL x T).1.enc,(aAL x T).2.enc])):Den cx 39 [.list none (T.map Tok.enc),.str x] KV Kp s:=by
 have zd:A.le (.agg [.str [],.nils,.nils,.nils,.nils,.nils,.nils,.nils,.str [],.nils,.nils,.str [],.str []]) eB.enc:=yN eB mC (s:=s) xM;have hT:=aFc (by omega) hl;obtain ⟨hlenT,hW⟩:=aE0 hl;have hlen2:T.length≤2147483640:=by omega
 unfold aAL at hk;rw[aNd] at hk;(refine aZ func39 [0,1,4,5,6,44,49] ?_;simp only[go_sem,ntmps39,f39]);(intro b4 hb4;try simp only[aB,aT,aV,ne_eq] at hb4);simp only[go_sem,hb4];(intro b5 hb5;try simp only[aB,aT,aV,ne_eq] at hb5);simp only[go_sem,hb4,hb5];(intro b6 hb6;try simp only[aB,aT,aV,ne_eq] at hb6);simp only[go_sem,hb4,hb5,hb6];refine aMI x (by omega) ?_;simp only[go_sem,hb4,hb5,hb6];refine aGr (ln:=(cX x).line) (cl:=(cX x).col) (q:=q0 T) (d:=aFm) hT 1 [108,97,110,103,117,97,103,101] (by first|exact bD|rfl) ?_;rw[show aC (cX x).line (cX x).col=cX x from rfl];have ov1:(aY (cX x) 1 [108,97,110,103,117,97,103,101] (q0 T)).over=false:=aHa _ _ _;generalize aY (cX x) 1 [108,97,110,103,117,97,103,101] (q0 T)=q1 at hk ov1 ⊢;simp only[go_sem,hb4,hb5,hb6];refine iW (ln:=(cX x).line) (cl:=(cX x).col) (q:=q1) (d:=aFm) hT bD ?_;rw[show aC (cX x).line (cX x).col=cX x from rfl];have ov2:(bB (cX x) q1).2.over=false:=(aMT q1).trans ov1;generalize bB (cX x) q1=p2 at hk ov2 ⊢;obtain ⟨nm,q2⟩:=p2;simp only at hk ⊢;simp only[go_sem,hb4,hb5,hb6];refine dZ (ln:=(cX x).line) (cl:=(cX x).col) (q:=q2) (d:=aE { eB with name:=nm } mC) hT _ (by first|exact bD|rfl) ?_;rw[show aC (cX x).line (cX x).col=cX x from rfl];have ov3:(aY (cX x) 4 [46] q2).over=false:=(aHa _ _ _).trans ov2;generalize aY (cX x) 4 [46] q2=q3 at hk ov3 ⊢;simp only[go_sem,hb4,hb5,hb6];have hfin:(cX x).code≠0:=(show (12:Int)≠0 by decide);have hpost:∀ p:Dfn × RQ T,p=bR lc (fun d q=>jW (cX x) d q) (T.length+1) { eB with name:=nm } q3→aCr KV s p:=fun p e=>by subst e;exact hk
 clear hk
 refine Ex.loop (ι:=(Dfn × DOwn) × RQ T × Nat) (fun c=>[(4,.ptr b4 0),(5,.ptr b5 0),(6,.ptr b6 0)])
  (fun c=>dF (cX x).line (cX x).col b6 ((s.setO b4 (.cells 33 [.str [],.nils,.nils,.nils,.nils,.nils,.nils,.nils,.str [],.nils,.nils,.str [],.str []])).setO b5 (.cells 36 [.int .i64 0,.str [],.int .i64 0,.int .i64 0])) c.1.1 c.1.2 c.2.1)
  (fun c => ItQ ((s.setO b4 (.cells 33 [.str [],.nils,.nils,.nils,.nils,.nils,.nils,.nils,.str [],.nils,.nils,.str [],.str []])).setO b5 (.cells 36 [.int .i64 0,.str [],.int .i64 0,.int .i64 0])) c.1.1 c.1.2 c.2.1.at_ ∧
   (c.2.1.ok=true→c.2.1.over=false∧T.length-c.2.1.at_<c.2.2)∧(∀ p,p=bR lc (fun d q=>jW (cX x) d q) c.2.2 c.1.1 c.2.1→aCr KV s p))
  (fun c=>(T.length-c.2.1.at_) * 2+(if c.2.1.ok=true then 1 else 0)) (({ eB with name:=nm },mC),q3,T.length+1) ?_ ?_ ?_ ?_
 ·refine ⟨⟨xM,fun a ha=>?_⟩,fun _=>⟨ov3,by simp only;omega⟩,hpost⟩;simp only[aN,eB,aH,iR,List.mem_nil_iff,oA] at ha;rcases ha with rfl|rfl|rfl|rfl|rfl|rfl|rfl|rfl|rfl<;>exact bS _
 ·simp only[go_sem,hb4,hb5,hb6]
  try rfl
 ·exact bA _
 ·clear hpost;rintro ⟨⟨d,o⟩,q,g⟩ ⟨hQ,hq,hpost⟩;simp only at hQ hq hpost;have hp:=hpost _ rfl;clear hpost;have hle:=q.le;have hown:=hQ.own;have hfr:=hown.free;refine bV (V:=[0,1,4,5,6,44,49]) _ _ _ _ ?_;unfold dF;simp only[go_sem,aB,hb4,hb5,hb6];(refine aP (OT.r 0 14) [(1,[6,10])] ?_;simp only[go_sem,aB,hb4,hb5,hb6]);refine iJ (ln:=(cX x).line) (cl:=(cX x).col) (q:=q) (d:=aE d o) bD ?_;simp only[go_sem,aB,hb4,hb5,hb6];cases hok:q.ok with
  | false =>
   rw[aD3 aE9 _ _ _ hok] at hp;unfold aCr at hp;simp only[hok,bN,if_false] at hp;simp only[go_sem,aB,hb4,hb5,hb6,hok];refine iJ (ln:=(cX x).line) (cl:=(cX x).col) (q:=q) (d:=aE d o) bD ?_;simp only[go_sem,aB,hb4,hb5,hb6,hok];(refine aP (OT.r 0 7) [(5,[4])] ?_;simp only[go_sem,aB,hb4,hb5,hb6]);exact DK.mk hp aL (A.le.tuple ⟨zd,aK _,trivial⟩)
  | true =>
   obtain ⟨hov,hg⟩:=hq hok;simp only[go_sem,aB,hb4,hb5,hb6,hok];cases hlt:decide (q.at_<T.length) with
   | false =>
    have ec:lc q=false:=by unfold lc;rw[hlt,cZ]
    rw[sR _ _ ec] at hp;unfold aCr at hp;simp only[hok,if_true] at hp;simp only[go_sem,aB,hb4,hb5,hb6,hok,hlt];refine iJ (ln:=(cX x).line) (cl:=(cX x).col) (q:=q) (d:=aE d o) bD ?_;simp only[go_sem,aB,hb4,hb5,hb6,hok];have g1:=lM;unfold A.one at g1;refine ⟨by simp only[g1,Bool.and_self],?_⟩;exact DK.mk hp aL (A.le.tuple ⟨yN d o hown,aK _,trivial⟩)
   | true =>
    have ec:lc q=true:=by unfold lc;rw[hlt,hok];rfl
    have hlt2:q.at_<T.length:=zU hlt;obtain ⟨g,rfl⟩:∃ g',g=g'+1:=⟨g-1,by omega⟩
    rw[aAd _ _ ec] at hp;have hgo:=aOX (fin:=cX x) hW (by omega) (by omega) hfin d hok hlt2 hov;have hmono:=aLK (fin:=cX x) d q;simp only[go_sem,aB,hb4,hb5,hb6,hok,hlt];refine aLJ (ln:=(cX x).line) (cl:=(cX x).col) (q:=q) (d:=d) (o:=o) hT hlen2 hlt2 hQ ?_;rw[show aC (cX x).line (cX x).col=cX x from rfl];generalize jW (cX x) d q=p at hp hgo hmono ⊢;obtain ⟨d2,q5⟩:=p;simp only at hp hgo hmono;have hle5:=q5.le;intro o2 hQ2;simp only[go_sem,aB,hb4,hb5,hb6];refine ⟨((d2,o2),q5,g),⟨hQ2,fun h5=>⟨(hgo h5).2,by have:=(hgo h5).1;simp only;omega⟩,fun p e=>by subst e;exact hp⟩,?_,bA _⟩;simp only[hok,if_true];cases h5:q5.ok with
    | false=>simp only[bN,if_false];omega
    | true=>have:=(hgo h5).1;simp only[if_true];omega
theorem aLv (x:aD) (hx:x.length≤3000) (hk:KV s (.tuple [(aAD x).1.enc,(aAD x).2.enc])):Den cx 16 [.str x] KV Kp s:=by
 have zd:A.le (.agg [.str [],.nils,.nils,.nils,.nils,.nils,.nils,.nils,.str [],.nils,.nils,.str [],.str []]) eB.enc:=yN eB mC (s:=s) xM;unfold aAD at hk;(refine aZ func16 [0,2,3,4,5,13] ?_;simp only[go_sem,ntmps16,f16]);(intro b2 hb2;try simp only[aB,aT,aV,ne_eq] at hb2);simp only[go_sem,hb2];(intro b3 hb3;try simp only[aB,aT,aV,ne_eq] at hb3);simp only[go_sem,hb2,hb3];refine aMm x (by omega) ?_;unfold aFe;rw[if_neg (by omega)];cases hl:iH dX true x with
 | bad f =>
  rw[hl] at hk;have hc0:decide (f.code=0)=false:=by rw[aBU hl];rfl
  simp only[Lx.out] at hk ⊢;simp only[go_sem,hb2,hb3];(intro b5 hb5;try simp only[aB,aT,aV,ne_eq] at hb5);simp only[go_sem,hb2,hb3,hb5,hc0];(refine aP (OT.r 0 4) [(2,[1])] ?_;simp only[go_sem,hb2,hb3,hb5]);exact DK.mk hk aL (A.le.tuple ⟨zd,aK _,trivial⟩)
 | ok T =>
  rw[hl] at hk;simp only[Lx.out] at hk ⊢;simp only[go_sem,hb2,hb3];(intro b5 hb5;try simp only[aB,aT,aV,ne_eq] at hb5);simp only[go_sem,hb2,hb3,hb5,Fault.none];refine aLL x T hx hl ?_;simp only[go_sem,hb2,hb3,hb5];exact aM hk aL
end
end
def dB {α:Type} (r:α→α→Bool):List α→List α→Bool
 | [],[]=>true
 | a::xs,b::ys=>r a b&&dB r xs ys
 | _,_=>false
theorem oZ {α:Type} {r:α→α→Bool}:∀ {xs ys:List α},xs.length≠ys.length→dB r xs ys=false
 | [],[],h=>absurd rfl h
 | [],_::_,_=>rfl
 | _::_,[],_=>rfl
 | a::xs,b::ys,h=>by simp only[dB,oZ (r:=r) (xs:=xs) (ys:=ys) (by simpa using h),cZ]
theorem uD {α:Type} {r:α→α→Bool}:∀ {xs ys:List α},xs.length=ys.length→(dB r xs ys=true↔∀ (i:Nat) (a b:α),xs[i]?=some a→ys[i]?=some b→r a b=true)
 | [],[],_=>by simp[dB]
 | [],_::_,h=>by simp at h
 | _::_,[],h=>by simp at h
 | a::xs,b::ys,h=>by
  rw[dB,bT,uD (by simpa using h)];constructor
  ·rintro ⟨h1,h2⟩ i x y hx hy;cases i with
   | zero=>simp at hx hy;subst hx;subst hy;exact h1
   | succ i=>exact h2 i x y (by simpa using hx) (by simpa using hy)
  ·intro h;exact ⟨h 0 a b (by simp) (by simp),fun i x y hx hy=>h (i+1) x y (by simpa using hx) (by simpa using hy)⟩
theorem aF9:∀ a b:List Tm,vO a b=dB Tm.same a b
 | [],[]=>rfl
 | [],_::_=>rfl
 | _::_,[]=>rfl
 | a::l,b::r=>by rw[vO,dB,aF9 l r]
theorem aL7 (a b:Tm):a.same b=(decide (a.kind=b.kind)&&(decide (a.n=b.n)&&(decide (a.text=b.text)&&(decide (a.sort=b.sort)&&(dB Tm.same a.kids b.kids&&dB Tm.same a.rest b.rest))))):=by
 cases a;cases b;simp only[Tm.same,aF9,Tm.kind,Tm.n,Tm.text,Tm.sort,Tm.kids,Tm.rest];rfl
theorem Tm.hz6 (a:Tm):∃ cs,a.enc=.agg cs∧cs.length=6∧fZ cs=true:=⟨_,a.enc_eq,rfl,rfl⟩
def Eqn.same (a b:Eqn):Bool:=a.left.same b.left&&(a.right.same b.right&&dB Tm.same a.cond b.cond)
def Cel.same (a b:Cel):Bool:=decide (a.name=b.name)&&(decide (a.sort=b.sort)&&a.init.same b.init)
def Part.same (a b:Part):Bool:=decide (a.cell=b.cell)&&(decide (a.at_=b.at_)&&(a.left.same b.left&&dB Tm.same a.right b.right))
def Fresh.same (a b:Fresh):Bool:=dB Tm.same a.cells b.cells
theorem Eqn.hz (a:Eqn):∃ cs,a.enc=.agg cs∧cs.length=15∧fZ cs=true:=⟨_,rfl,rfl,rfl⟩
theorem Cel.hz (a:Cel):∃ cs,a.enc=.agg cs∧cs.length=10∧fZ cs=true:=⟨_,rfl,rfl,rfl⟩
theorem Part.hz (a:Part):∃ cs,a.enc=.agg cs∧cs.length=11∧fZ cs=true:=⟨_,rfl,rfl,rfl⟩
theorem Fresh.hz (a:Fresh):∃ cs,a.enc=.agg cs∧cs.length=1∧fZ cs=true:=⟨_,rfl,rfl,rfl⟩
theorem Rul.hz (a:Rul):∃ cs,a.enc=.agg cs∧cs.length=7∧fZ cs=true:=⟨_,rfl,rfl,rfl⟩
theorem Opr.hz (a:Opr):∃ cs,a.enc=.agg cs∧cs.length=7∧fZ cs=true:=⟨_,rfl,rfl,rfl⟩
def Rul.same (a b:Rul):Bool:=decide (a.name=b.name)&&(dB Part.same a.parts b.parts&&(dB Tm.same a.cond b.cond&&(dB Fresh.same a.new b.new&&dB (fun a b=>decide (a=b)) a.drop b.drop)))
def Opr.same (a b:Opr):Bool:=decide (a.name=b.name)&&(decide (a.sort=b.sort)&&(decide (a.prec=b.prec)&&(decide (a.assoc=b.assoc)&&(dB (fun a b=>decide (a=b)) a.args b.args&&(dB (fun a b=>decide (a.text=b.text)&&decide (a.sort=b.sort)) a.pieces b.pieces&&dB (fun a b=>decide (a=b)) a.strict b.strict)))))
def Sig.same (a b:Sig):Bool:=dB (fun a b=>decide (a=b)) a.sorts b.sorts&&(dB (fun a b=>decide (a.low=b.low)&&decide (a.high=b.high)) a.below b.below&&(dB (fun a b=>decide (a=b)) a.values b.values&&(dB Opr.same a.ops b.ops&&dB Opr.same a.funs b.funs)))
def Dfn.same (a b:Dfn):Bool:=decide (a.name=b.name)&&(decide (a.kind=b.kind)&&(decide (a.start=b.start)&&(decide (a.watch=b.watch)&&(a.sig.same b.sig&&(dB Eqn.same a.eqs b.eqs&&(dB Cel.same a.once b.once&&(dB Cel.same a.many b.many&&dB Rul.same a.rules b.rules)))))))
theorem aDz (xs ys:List Tm) (s:St) (KV Kp:St→A→Prop) (hf:∀ (a b:Tm) (s':St) (KV Kp:St→A→Prop),a∈xs→KV s' (.bool (a.same b))→Den cx 20 [a.enc,b.enc] KV Kp s')
  (hk:KV s (.bool (dB Tm.same xs ys))):Den cx 47 [.list none (xs.map Tm.enc),.list none (ys.map Tm.enc)] KV Kp s:=by
 refine rS fun hz1=>?_
 have hlw:=hz1 _ (rK ..);(refine aZ func47 [0,1,4,5,10,12,13,14,25] ?_;simp only[go_sem,ntmps47,f47]);(refine cD (fun h=>?_) (fun h=>?_))<;>simp only[go_sem,h]
 ·exact aO (by rwa[oZ (by intro e;simp[e] at h)] at hk)
 ·have hlen:xs.length=ys.length:=by simp at h;omega
  refine Ex.loop (fun i=>[(0,.list none (xs.map Tm.enc)),(1,.list none (ys.map Tm.enc)),(12,.int .i64 xs.length),(13,.int .i64 (i:Nat))]) (fun _=>s)
     (fun i=>i≤xs.length∧∀ (j:Nat) a b,j<i→xs[j]?=some a→ys[j]?=some b→a.same b=true) (fun i=>xs.length-i) 0 ⟨bS _,fun j _ _ hj=>by omega⟩ ?_ (bA s) ?_
  ·simp only[go_sem];exact rfl
  ·rintro i ⟨hi,hall⟩;refine bV (V:=[0,1,4,5,10,12,13,14,25]) _ _ _ _ ?_;simp only[go_sem];(refine cD (fun h=>?_) (fun h=>?_))<;>simp only[go_sem,h]
   ·have hix:i<xs.length:=by simpa using h
    have hiy:i<ys.length:=by omega
    obtain ⟨a,ha⟩:∃ a,xs[i]?=some a:=⟨_,cH hix⟩
    obtain ⟨b,hb⟩:∃ b,ys[i]?=some b:=⟨_,cH hiy⟩
    obtain ⟨ca,ea,la,oa⟩:=Tm.hz6 a;obtain ⟨cb,eb,lb,ob⟩:=Tm.hz6 b;(refine aP (OT.r 0 10) [] ?_;simp only[go_sem,ha,hix,hb,hiy])
    have hfa:∀ (KV Kp:St→A→Prop),KV s (.bool (a.same b))→Den cx 20 [.agg a.cs,.agg b.cs] KV Kp s:=fun KV Kp h=>by
     have:=hf a b s KV Kp (fJ ha) h
     rwa[bO,bO] at this
    refine hfa _ _ ?_;simp only[go_sem];(refine cD (fun h=>?_) (fun h=>?_))<;>simp only[go_sem,h]
    ·have hr:a.same b=false:=by simpa using h
     refine aO ?_
     have:dB Tm.same xs ys=false:=by
      rw[vF];intro he;have:=(uD hlen).1 he i a b ha hb;rw[hr] at this;cases this
     rwa[this] at hk
    ·have hr:a.same b=true:=by simpa using h
     refine ⟨i+1,⟨by omega,fun j x y hj hx hy=>?_⟩,by omega,?_,bA _⟩
     ·by_cases hji:j=i
      ·subst hji;rw[ha] at hx;rw[hb] at hy;cases hx;cases hy;exact hr
      ·exact hall j x y (by omega) hx hy
     ·simp only[go_sem,hlw.wrap (i:=i) (by simpa using hix)]
   ·have hix:i=xs.length:=by simp at h;omega
    have:dB Tm.same xs ys=true:=(uD hlen).2 fun j x y hx hy=>hall j x y (by rw[hix];exact (eT.1 hx).1) hx hy
    exact aO (by rwa[this] at hk)
theorem aMa (m:Nat):∀ (a b:Tm) (s:St) (KV Kp),SizeOf.sizeOf a<m→KV s (.bool (a.same b))→Den cx 20 [a.enc,b.enc] KV Kp s:=by
 induction m with
 | zero=>intro a b s KV Kp hm;omega
 | succ m ih =>
 intro a b s KV Kp hm hk;rw[aL7] at hk;simp only[go_sem];(refine aZ func20 [0,1,2,3,4] ?_;simp only[go_sem,ntmps20,f20]);(intro p hp;try simp only[aV,ne_eq] at hp);simp only[go_sem,hp];(intro q hq;try simp only[aV,ne_eq] at hq);simp only[go_sem,hp,hq];(refine cD (fun h=>?_) (fun h=>?_))<;>simp only[go_sem,h,hp,hq]<;>(try simp only[h,dY,cQ,fK,cZ,iX,fO,iI,eD,dT,fD] at hk)
 ·(refine cD (fun h => ?_) (fun h => ?_)) <;> simp only [go_sem,h,hp,hq] <;> (try simp only [h,dY,cQ,fK,cZ,iX,fO,iI,eD,dT,fD] at hk)
  ·(refine cD (fun h => ?_) (fun h => ?_)) <;> simp only [go_sem,h,hp,hq] <;> (try simp only [h,dY,cQ,fK,cZ,iX,fO,iI,eD,dT,fD] at hk)
   ·(refine cD (fun h => ?_) (fun h => ?_)) <;> simp only [go_sem,h,hp,hq] <;> (try simp only [h,dY,cQ,fK,cZ,iX,fO,iI,eD,dT,fD] at hk)
    ·refine aDz _ _ _ _ _ (fun x y s' KV' Kp' hx h'=>ih x y s' KV' Kp' (by have:=aK7 hx;omega) h') ?_;simp only[go_sem];(refine cD (fun h=>?_) (fun h=>?_))<;>simp only[go_sem,h,hp,hq]<;>(try simp only[h,dY,cQ,fK,cZ,iX,fO,iI,eD,dT,fD] at hk)
     ·refine aDz _ _ _ _ _ (fun x y s' KV' Kp' hx h'=>ih x y s' KV' Kp' (by have:=aKV hx;omega) h') ?_;simp only[go_sem];exact aM hk dA
     ·exact aM hk dA
    ·exact aM hk dA
   ·exact aM hk dA
  ·exact aM hk dA
 ·exact aM hk dA
theorem aGu (a b:Tm) (s:St) (KV Kp) (hk:KV s (.bool (a.same b))):Den cx 20 [a.enc,b.enc] KV Kp s :=
 aMa _ a b s KV Kp (iU _) hk
theorem aBj (a b:Tm) (s:St) (KV Kp) (hk:KV s (.bool (a.same b))):Den cx 20 [.agg a.cs,.agg b.cs] KV Kp s:=by
 have:=aGu a b s KV Kp hk
 rwa[bO,bO] at this
mutual
theorem Tm.same_self:∀ a:Tm,a.same a=true
 | .mk k n t s l r=>by simp[Tm.same,aDD l,aDD r]
theorem aDD:∀ l:List Tm,vO l l=true
 | []=>rfl
 | a::l=>by simp[vO,Tm.same_self a,aDD l]
end
theorem aDS (xs ys:List aD) (s:St) (KV Kp:St→A→Prop) (hk:KV s (.bool (dB (fun a b=>decide (a=b)) xs ys))):Den cx 128 [.list none (xs.map .str),.list none (ys.map .str)] KV Kp s:=by
 refine rS fun hz1=>?_
 have hlw:=hz1 _ (rK ..);(refine aZ func128 [0,1,4,5,10,12,13,14,24] ?_;simp only[go_sem,ntmps128,f128]);(refine cD (fun h=>?_) (fun h=>?_))<;>simp only[go_sem,h]
 ·exact aO (by rwa[oZ (by intro e;simp[e] at h)] at hk)
 ·have hlen:xs.length=ys.length:=by simp at h;omega
  refine Ex.loop (fun i=>[(0,.list none (xs.map .str)),(1,.list none (ys.map .str)),(12,.int .i64 xs.length),(13,.int .i64 (i:Nat))]) (fun _=>s)
     (fun i=>i≤xs.length∧∀ (j:Nat) a b,j<i→xs[j]?=some a→ys[j]?=some b→decide (a=b)=true) (fun i=>xs.length-i) 0 ⟨bS _,fun j _ _ hj=>by omega⟩ ?_ (bA s) ?_
  ·simp only[go_sem];exact rfl
  ·rintro i ⟨hi,hall⟩;refine bV (V:=[0,1,4,5,10,12,13,14,24]) _ _ _ _ ?_;simp only[go_sem];(refine cD (fun h=>?_) (fun h=>?_))<;>simp only[go_sem,h]
   ·have hix:i<xs.length:=by simpa using h
    have hiy:i<ys.length:=by omega
    obtain ⟨a,ha⟩:∃ a,xs[i]?=some a:=⟨_,cH hix⟩
    obtain ⟨b,hb⟩:∃ b,ys[i]?=some b:=⟨_,cH hiy⟩
    (refine aP (OT.r 0 9) [] ?_;simp only[go_sem,ha,hix,hb,hiy]);(refine cD (fun h=>?_) (fun h=>?_))<;>simp only[go_sem,h]
    ·have hr:decide (a=b)=false:=by simpa using h
     refine aO ?_
     have:dB (fun a b=>decide (a=b)) xs ys=false:=by
      rw[vF];intro he;have:=(uD hlen).1 he i a b ha hb;rw[hr] at this;cases this
     rwa[this] at hk
    ·have hr:decide (a=b)=true:=by simpa using h
     refine ⟨i+1,⟨by omega,fun j x y hj hx hy=>?_⟩,by omega,?_,bA _⟩
     ·by_cases hji:j=i
      ·subst hji;rw[ha] at hx;rw[hb] at hy;cases hx;cases hy;exact hr
      ·exact hall j x y (by omega) hx hy
     ·simp only[go_sem,hlw.wrap (i:=i) (by simpa using hix)]
   ·have hix:i=xs.length:=by simp at h;omega
    have:dB (fun a b=>decide (a=b)) xs ys=true:=(uD hlen).2 fun j x y hx hy=>hall j x y (by rw[hix];exact (eT.1 hx).1) hx hy
    exact aO (by rwa[this] at hk)
end Go.AV
