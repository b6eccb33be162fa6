/-
  Of DefParses.
-/
import Derived.Test.YtamikhobdffnfaaGreatDoorPa26
set_option linter.all false
set_option maxRecDepth 99999
set_option maxHeartbeats 0
namespace Go.AV
open Go Go.Proofs Tryz
section
section
variable {T:List Tok} (fin:Fault)
def aFv (l:List Cel) (q:RQ T):List Cel × RQ T:=(l++[(kF fin (if cN q=true then bG fin l.length 12 q else q)).1],(kF fin (if cN q=true then bG fin l.length 12 q else q)).2)
def aJz (d:Dfn) (q:RQ T):Dfn × RQ T :=
 let x:=bB fin (dI fin (!decide (d.kind=[])) q)
 let p:=cK [44] (aFv fin) (T.length+2) true d.many (aY fin 4 [40] x.2)
 ({ d with kind:=x.1,many:=p.1 },aY fin 4 [41] p.2)
theorem aN0 (d:Dfn) (q:RQ T):oF fin d q =
 (if aS 1 [115,116,97,114,116] q=true then let p:=bB fin (dI fin (!decide (d.start=[])) q);({ d with start:=p.1 },p.2)
 else if aS 1 [119,97,116,99,104] q=true then let p:=bB fin (dI fin (!decide (d.watch=[])) q);({ d with watch:=p.1 },p.2)
 else if aS 1 [99,101,108,108] q=true then let p:=kF fin (bG fin d.once.length 12 q).inc;({ d with once:=d.once++[p.1] },p.2)
 else if aS 1 [109,97,110,121] q=true then aJz fin d q
 else if aS 1 [114,117,108,101] q=true then let p:=mV fin (bG fin d.rules.length 300 q);({ d with rules:=d.rules++[p.1] },p.2)
 else (d,cJ fin 11 q.at_ true q)):=rfl
end
section
variable {T:List Tok} {ln cl:Int} {q:RQ T} {d:Dfn} {o:DOwn} {s:St} {r:Nat} {KV Kp:St→A→Prop}
def itK (KV:St→A→Prop) (ln cl:Int) (r:Nat) (s:St) (p:Dfn × RQ T):Prop:=∀ o',ItQ s p.1 o' p.2.at_→KV (dF ln cl r s p.1 o' p.2) (.tuple [])
theorem aLG (hT:TOk T) (hlen2:T.length≤2147483640) (hQ:ItQ s d o q.at_) (hk:itK KV ln cl r s (oF (aC ln cl) d q)):Den cx 164 [.ptr r 0] KV Kp (dF ln cl r s d o q):=by
 have hlen:=hT.len;have hfin:¬ (aC ln cl).code=0:=by simp[aC]
 have hown:=hQ.own;have hfr:=hown.free;have hqle:=q.le;have G6:iP (gv o.on (d.once.map Cel.enc))=some (.int .i64 (d.once.map Cel.enc).length):=gV (by rw[aI];exact mR hown (k:=6) rfl);have G8:iP (gv o.ru (d.rules.map Rul.enc))=some (.int .i64 (d.rules.map Rul.enc).length):=gV (by rw[aI];exact mR hown (k:=8) rfl);have L6:=hQ.len (o.on,d.once.length,68) (by simp[aN]);have L7:=hQ.len (o.ma,d.many.length,68) (by simp[aN]);have L8:=hQ.len (o.ru,d.rules.length,84) (by simp[aN]);simp only at L6 L7 L8;rw[aN0] at hk;(refine aZ func164 [0,2,9,26,43,74,97,101,125] ?_;simp only[go_sem,ntmps164,f164]);unfold dF;simp only[go_sem,aB];refine fP (ln:=ln) (cl:=cl) (q:=q) (d:=aE d o) _ bD ?_;cases c1:aS 1 [115,116,97,114,116] q with
 | true =>
  have hlt:=lP c1;rw[c1,if_pos rfl] at hk;simp only at hk;simp only[go_sem,aB];refine qK (ln:=ln) (cl:=cl) (q:=q) (d:=aE d o) hT (!decide (d.start=[])) hlt bD ?_;have ho:=aAh (aC ln cl) (was:=!decide (d.start=[])) hlt;generalize dI (aC ln cl) (!decide (d.start=[])) q=q2 at hk ho ⊢;simp only[go_sem,aB];(refine iW (ln:=ln) (cl:=cl) (q:=q2) (d:=aE d o) hT bD ?_);have hmx:=gA (fin:=aC ln cl) (q2);generalize bB (aC ln cl) (q2)=x at hk hmx ⊢;have hlex:=x.2.le;simp only[go_sem,aB];have hk2:=hk o ⟨hQ.own,fun a ha=>aU (hQ.len a ha) (by simp only;omega)⟩;refine aM hk2 ?_;refine cR (l:=aN d o) ?_;simp only[aE];exact aL
 | false =>
 rw[c1,if_neg (by simp)] at hk;simp only[go_sem,aB];refine fP (ln:=ln) (cl:=cl) (q:=q) (d:=aE d o) _ bD ?_;cases c2:aS 1 [119,97,116,99,104] q with
 | true =>
  have hlt:=lP c2;rw[c2,if_pos rfl] at hk;simp only at hk;simp only[go_sem,aB];refine qK (ln:=ln) (cl:=cl) (q:=q) (d:=aE d o) hT (!decide (d.watch=[])) hlt bD ?_;have ho:=aAh (aC ln cl) (was:=!decide (d.watch=[])) hlt;generalize dI (aC ln cl) (!decide (d.watch=[])) q=q2 at hk ho ⊢;simp only[go_sem,aB];(refine iW (ln:=ln) (cl:=cl) (q:=q2) (d:=aE d o) hT bD ?_);have hmx:=gA (fin:=aC ln cl) (q2);generalize bB (aC ln cl) (q2)=x at hk hmx ⊢;have hlex:=x.2.le;simp only[go_sem,aB];have hk2:=hk o ⟨hQ.own,fun a ha=>aU (hQ.len a ha) (by simp only;omega)⟩;refine aM hk2 ?_;refine cR (l:=aN d o) ?_;simp only[aE];exact aL
 | false =>
 rw[c2,if_neg (by simp)] at hk;simp only[go_sem,aB];refine fP (ln:=ln) (cl:=cl) (q:=q) (d:=aE d o) _ bD ?_;cases c3:aS 1 [99,101,108,108] q with
 | true =>
  have hlt:=lP c3;rw[c3,if_pos rfl] at hk;simp only at hk;simp only[go_sem,aB,G6,aI];refine lX (ln:=ln) (cl:=cl) (q:=q) (d:=aE d o) hT d.once.length 12 bD ?_;have ho:(bG (aC ln cl) d.once.length 12 q).at_=q.at_:=iB _ _ _;generalize bG (aC ln cl) d.once.length 12 q=q2 at hk ho ⊢;have hlt2:q2.at_<T.length:=by omega
  have hia:=RQ.inc_at hlt2;simp only[go_sem,aB,bP q2.at_ (by omega)];(refine aP (OT.r 0 14) [(7,[5])] ?_;simp only[go_sem,aB])
  (try simp only[go_sem,aB])
  refine aDU (ln:=ln) (cl:=cl) (q:=q2.inc) (d:=aE d o) hT hlen2 (by simp only[go_sem,aB,hia]) ?_;have hmc:=aBk (fin:=aC ln cl) q2.inc;generalize kF (aC ln cl) q2.inc=x at hk hmc ⊢;have hlex:=x.2.le;simp only[go_sem,aB];refine ⟨by decide,fun y hy=>by simp only[cE] at hy;subst hy;rfl,cW rfl rfl (by rw[aI];refine fV hown (k:=6) (o:=(o.on,d.once.length,68)) rfl ?_;exact fun _=>rfl) (fun y hy=>?_) (by simp only[aI,aF,aH];omega) (fun u hu=>?_)⟩
  ·simp only[bW] at hy;obtain ⟨q,_,rfl⟩:=hy;rfl
  have hown2:=fX hown (k:=6) (o:=(o.on,d.once.length,68)) rfl hu (fun _=>rfl) (d.once.length+1);simp only[go_sem,aB];have hk3:=hk { o with on:=some u } (ItQ.set (k:=6) (a:=(some u,d.once.length+1,68)) hQ (by simp[aN]) hown2 (by simp only;omega) (by simp only;omega));refine aM hk3 (St.ge.trans (fW hown (k:=6) (o:=(o.on,d.once.length,68)) rfl hown2 (fun _=>rfl)) ?_);unfold dF;rw[show aN { d with once:=d.once++[x.1] } { o with on:=some u }=(aN d o).set 6 (some u,d.once.length+1,68) by simp[aN]];refine cR ?_;simp only[aE,cL,cM,bK,bQ];exact aL
 | false =>
 rw[c3,if_neg (by simp)] at hk;simp only[go_sem,aB];refine fP (ln:=ln) (cl:=cl) (q:=q) (d:=aE d o) _ bD ?_;cases c4:aS 1 [109,97,110,121] q with
 | true =>
  have hlt:=lP c4;rw[c4,if_pos rfl] at hk;unfold aJz at hk;simp only at hk;simp only[go_sem,aB];refine qK (ln:=ln) (cl:=cl) (q:=q) (d:=aE d o) hT (!decide (d.kind=[])) hlt bD ?_;have ho:=aAh (aC ln cl) (was:=!decide (d.kind=[])) hlt;generalize dI (aC ln cl) (!decide (d.kind=[])) q=q2 at hk ho ⊢;simp only[go_sem,aB];(refine iW (ln:=ln) (cl:=cl) (q:=q2) (d:=aE d o) hT bD ?_);have hmx:=gA (fin:=aC ln cl) (q2);generalize bB (aC ln cl) (q2)=x at hk hmx ⊢;have hlex:=x.2.le;simp only[go_sem,aB];refine dZ (ln:=ln) (cl:=cl) (q:=x.2) (d:=aE { d with kind:=x.1 } o) hT _ bD ?_;have hm3:=dW (fin:=aC ln cl) 4 [40] x.2;generalize aY (aC ln cl) 4 [40] x.2=q3 at hk hm3 ⊢;have hle3:=q3.le;simp only[go_sem,aB]
  refine Ex.loop (ι:=(List Cel × Option Nat) × Bool × RQ T × Nat) (fun c=>[(0,.ptr r 0),(2,.bool c.2.1)])
   (fun c=>dF ln cl r s { d with kind:=x.1,many:=c.1.1 } { o with ma:=c.1.2 } c.2.2.1)
   (fun c => ItQ s { d with kind := x.1,many := c.1.1 } { o with ma := c.1.2 } c.2.2.1.at_ ∧ q.at_ + 1 ≤ c.2.2.1.at_ ∧ (c.2.1 = true → c.1.1.length + 1 ≤ c.2.2.1.at_ ∧ T.length - c.2.2.1.at_ < c.2.2.2) ∧
    (∀ p,p=cK [44] (aFv (aC ln cl)) c.2.2.2 c.2.1 c.1.1 c.2.2.1→itK KV ln cl r s ({ d with kind:=x.1,many:=p.1 },aY (aC ln cl) 4 [41] p.2)))
   (fun c=>(T.length-c.2.2.1.at_) * 2+(if c.2.1=true then 1 else 0)) ((d.many,o.ma),true,q3,T.length+2) ?_ ?_ ?_ ?_
  ·exact ⟨⟨hQ.own,fun a ha=>aU (hQ.len a ha) (by simp only;omega)⟩,by simp only;omega,fun _=>⟨by simp only;omega,by simp only;omega⟩,fun p e=>by subst e;exact hk⟩
  ·simp only[go_sem,aB]
   try rfl
  ·unfold dF;refine cR (l:=aN d o) ?_;simp only[aE];exact aL
  ·clear hk G6 G8;rintro ⟨⟨l,tk⟩,more,q6,f6⟩ ⟨hR,hq6,hm6,hk⟩;simp only at hR hq6 hm6 hk;have hle6:=q6.le;have rown:=hR.own;have rfr:=rown.free
   replace hk:=hk _ rfl
   refine bV (V:=[0,2,9,26,43,74,97,101,125]) _ _ _ _ ?_;unfold dF;cases more with
   | false =>
    rw[pD] at hk;simp only at hk;simp only[go_sem,aB];refine dZ (ln:=ln) (cl:=cl) (q:=q6) (d:=aE { d with kind:=x.1,many:=l } { o with ma:=tk }) hT _ bD ?_;have hm9:=dW (fin:=aC ln cl) 4 [41] q6;generalize aY (aC ln cl) 4 [41] q6=q9 at hk hm9 ⊢;simp only[go_sem,aB];have hk2:=hk { o with ma:=tk } ⟨hR.own,fun a ha=>aU (hR.len a ha) (by simp only;omega)⟩;refine aM hk2 ?_;unfold dF;refine cR ?_;simp only[aE];exact aL
   | true =>
    obtain ⟨m1,m2⟩:=hm6 rfl;simp only[go_sem,aB];refine iJ (ln:=ln) (cl:=cl) (q:=q6) (d:=aE { d with kind:=x.1,many:=l } { o with ma:=tk }) bD ?_;cases ho6:q6.ok with
    | false =>
     rw[pB _ _ _ _ _ _ ho6] at hk;simp only at hk;simp only[go_sem,aB];refine dZ (ln:=ln) (cl:=cl) (q:=q6) (d:=aE { d with kind:=x.1,many:=l } { o with ma:=tk }) hT _ bD ?_;have hm9:=dW (fin:=aC ln cl) 4 [41] q6;generalize aY (aC ln cl) 4 [41] q6=q9 at hk hm9 ⊢;simp only[go_sem,aB];have hk2:=hk { o with ma:=tk } ⟨hR.own,fun a ha=>aU (hR.len a ha) (by simp only;omega)⟩;refine aM hk2 ?_;unfold dF;refine cR ?_;simp only[aE];exact aL
    | true =>
     obtain ⟨f6,rfl⟩:∃ f',f6=f'+1:=⟨f6-1,by omega⟩
     rw[pF _ _ _ _ _ ho6] at hk;unfold aFv at hk;simp only at hk;have G7:iP (gv tk (l.map Cel.enc))=some (.int .i64 (l.map Cel.enc).length):=gV (by rw[aI];exact mR rown (k:=7) rfl);simp only[go_sem,aB];refine uC (ln:=ln) (cl:=cl) (q:=q6) (d:=aE { d with kind:=x.1,many:=l } { o with ma:=tk }) bD ?_;cases hn:cN q6 with
     | true =>
      rw[hn,if_pos rfl] at hk;simp only[go_sem,aB,G7,aI];refine lX (ln:=ln) (cl:=cl) (q:=q6) (d:=aE { d with kind:=x.1,many:=l } { o with ma:=tk }) hT l.length 12 bD ?_;have hm8:(bG (aC ln cl) l.length 12 q6).at_=q6.at_:=iB _ _ _;generalize bG (aC ln cl) l.length 12 q6=q7 at hk hm8 ⊢;simp only[go_sem,aB];(refine aP (OT.r 0 14) [(7,[5])] ?_;simp only[go_sem,aB])
      (try simp only[go_sem,aB])
      refine aDU (ln:=ln) (cl:=cl) (q:=q7) (d:=aE { d with kind:=x.1,many:=l } { o with ma:=tk }) hT hlen2 bD ?_;have hmc:=aBk (fin:=aC ln cl) q7;generalize kF (aC ln cl) q7=y at hk hmc ⊢;have hley:=y.2.le;simp only[go_sem,aB];refine ⟨by decide,fun y hy=>by simp only[cE] at hy;subst hy;rfl,cW rfl rfl (by rw[aI];refine fV rown (k:=7) (o:=(tk,l.length,68)) rfl ?_;exact fun _=>rfl) (fun y hy=>?_) (by simp only[aI,aF,aH];omega) (fun u hu=>?_)⟩
      ·simp only[bW] at hy;obtain ⟨q,_,rfl⟩:=hy;rfl
      have hown2:=fX rown (k:=7) (o:=(tk,l.length,68)) rfl hu (fun _=>rfl) (l.length+1);simp only[go_sem,aB];refine dE (fW rown (k:=7) (o:=(tk,l.length,68)) rfl hown2 (fun _=>rfl)) ?_;refine nG (ln:=ln) (cl:=cl) (q:=y.2) (d:=aE { d with kind:=x.1,many:=l++[y.1] } { o with ma:=some u }) hT (by simp only[aB,aE,cL,cM,bK,bQ];exact bD) ?_;have hmd:=gF [44] y.2;have hcc:=kV (x:=[44]) (q:=y.2);generalize dQ [44] y.2=c at hk hmd hcc ⊢;have hlec:=c.2.le;simp only[go_sem,aB];refine ⟨((l++[y.1],some u),c.1,c.2,f6),⟨ItQ.set (k:=7) (a:=(some u,l.length+1,68)) hR (by simp[aN]) hown2 (by simp only;omega) (by simp only;omega),by simp only;omega,fun e=>(by have:=hcc e;exact ⟨by simp only[aR,aF,aH];omega,by simp only;omega⟩),fun p' e=>by subst e;exact hk⟩,?_,?_⟩
      ·simp only;split
       ·rename_i e;have:=hcc e;omega
       ·omega
      ·refine ⟨rfl,?_⟩;simp only[kL];rw[show aN { d with kind:=x.1,many:=l++[y.1] } { o with ma:=some u }=(aN { d with kind:=x.1,many:=l } { o with ma:=tk }).set 7 (some u,l.length+1,68) by simp[aN]];refine cR ?_;simp only[aE,cL,cM,bK,bQ];exact aL
     | false =>
      rw[hn,if_neg (by simp)] at hk;have hm8:q6.at_=q6.at_:=rfl;simp only[go_sem,aB];(refine aP (OT.r 0 14) [(7,[5])] ?_;simp only[go_sem,aB])
      (try simp only[go_sem,aB])
      refine aDU (ln:=ln) (cl:=cl) (q:=q6) (d:=aE { d with kind:=x.1,many:=l } { o with ma:=tk }) hT hlen2 bD ?_;have hmc:=aBk (fin:=aC ln cl) q6;generalize kF (aC ln cl) q6=y at hk hmc ⊢;have hley:=y.2.le;simp only[go_sem,aB];refine ⟨by decide,fun y hy=>by simp only[cE] at hy;subst hy;rfl,cW rfl rfl (by rw[aI];refine fV rown (k:=7) (o:=(tk,l.length,68)) rfl ?_;exact fun _=>rfl) (fun y hy=>?_) (by simp only[aI,aF,aH];omega) (fun u hu=>?_)⟩
      ·simp only[bW] at hy;obtain ⟨q,_,rfl⟩:=hy;rfl
      have hown2:=fX rown (k:=7) (o:=(tk,l.length,68)) rfl hu (fun _=>rfl) (l.length+1);simp only[go_sem,aB];refine dE (fW rown (k:=7) (o:=(tk,l.length,68)) rfl hown2 (fun _=>rfl)) ?_;refine nG (ln:=ln) (cl:=cl) (q:=y.2) (d:=aE { d with kind:=x.1,many:=l++[y.1] } { o with ma:=some u }) hT (by simp only[aB,aE,cL,cM,bK,bQ];exact bD) ?_;have hmd:=gF [44] y.2;have hcc:=kV (x:=[44]) (q:=y.2);generalize dQ [44] y.2=c at hk hmd hcc ⊢;have hlec:=c.2.le;simp only[go_sem,aB];refine ⟨((l++[y.1],some u),c.1,c.2,f6),⟨ItQ.set (k:=7) (a:=(some u,l.length+1,68)) hR (by simp[aN]) hown2 (by simp only;omega) (by simp only;omega),by simp only;omega,fun e=>(by have:=hcc e;exact ⟨by simp only[aR,aF,aH];omega,by simp only;omega⟩),fun p' e=>by subst e;exact hk⟩,?_,?_⟩
      ·simp only;split
       ·rename_i e;have:=hcc e;omega
       ·omega
      ·refine ⟨rfl,?_⟩;simp only[kL];rw[show aN { d with kind:=x.1,many:=l++[y.1] } { o with ma:=some u }=(aN { d with kind:=x.1,many:=l } { o with ma:=tk }).set 7 (some u,l.length+1,68) by simp[aN]];refine cR ?_;simp only[aE,cL,cM,bK,bQ];exact aL
 | false =>
 rw[c4,if_neg (by simp)] at hk;simp only[go_sem,aB];refine fP (ln:=ln) (cl:=cl) (q:=q) (d:=aE d o) _ bD ?_;cases c5:aS 1 [114,117,108,101] q with
 | true =>
  have hlt:=lP c5;rw[c5,if_pos rfl] at hk;simp only at hk;simp only[go_sem,aB,G8,aI];refine lX (ln:=ln) (cl:=cl) (q:=q) (d:=aE d o) hT d.rules.length 300 bD ?_;have ho:(bG (aC ln cl) d.rules.length 300 q).at_=q.at_:=iB _ _ _;generalize bG (aC ln cl) d.rules.length 300 q=q2 at hk ho ⊢;have hlt2:q2.at_<T.length:=by omega
  simp only[go_sem,aB];refine dE (s':=dF ln cl r s d o q2) ?_ (aLl (ln:=ln) (cl:=cl) (q:=q2) hT hlen2 hlt2 (by rw[ho];exact hQ) (fun o' hQ'=>?_))
  ·refine cR (l:=aN d o) ?_;exact aL
  simp only[go_sem,aB];exact aO (hk o' hQ')
 | false =>
 rw[c5,if_neg (by simp)] at hk;simp only[go_sem,aB];refine kU (ln:=ln) (cl:=cl) (q:=q) (d:=aE d o) hT 11 q.at_ true bD ?_;simp only[go_sem,aB];have hk2:=hk o ⟨hQ.own,fun a ha=>aU (hQ.len a ha) (by simp only;rw[gW];exact bE _)⟩;refine aM hk2 ?_;refine cR (l:=aN d o) ?_;simp only[go_sem,aB];exact aL
end
end
section
section
variable {T:List Tok} (fin:Fault)
def aFg (l:List aD) (q:RQ T):List aD × RQ T:=(l++[(bB fin (if cN q=true then bG fin l.length 40 q else q)).1],(bB fin (if cN q=true then bG fin l.length 40 q else q)).2)
def aET (l:List aD) (q:RQ T):List aD × RQ T:=(l++[(bB fin q).1],(bB fin q).2)
def vC (p:Dfn × RQ T):Dfn × RQ T:=(p.1,aY fin 4 [46] p.2)
theorem aNq (d:Dfn) (q:RQ T):jW fin d q=vC fin
 (if aS 1 [115,111,114,116] q=true then let p:=cK [44] (aFg fin) (T.length+2) true d.sig.sorts q.inc;({ d with sig:={ d.sig with sorts:=p.1 } },p.2)
 else if aS 1 [115,117,98,115,111,114,116] q=true then
  let x:=bB fin (bG fin d.sig.below.length 200 q).inc
  let y:=bB fin (aY fin 4 [60] x.2)
  ({ d with sig:={ d.sig with below:=d.sig.below++[⟨x.1,y.1⟩] } },y.2)
 else if aS 1 [118,97,108,117,101] q=true then let p:=cK [44] (aET fin) (T.length+2) true d.sig.values q.inc;({ d with sig:={ d.sig with values:=p.1 } },p.2)
 else if aS 1 [111,112] q=true then let p:=oP fin (bG fin (d.sig.ops.length+d.sig.funs.length) 200 q).inc;({ d with sig:={ d.sig with ops:=d.sig.ops++[p.1] } },p.2)
 else if aS 1 [102,117,110] q=true then let p:=mE fin (bG fin (d.sig.ops.length+d.sig.funs.length) 200 q).inc;({ d with sig:={ d.sig with funs:=d.sig.funs++[p.1] } },p.2)
 else if aS 1 [108,101,116] q=true then let p:=mJ fin (bG fin d.eqs.length 300 q);({ d with eqs:=d.eqs++[p.1] },p.2)
 else oF fin d q):=rfl
end
section
variable {T:List Tok} {ln cl:Int} {q:RQ T} {d:Dfn} {o:DOwn} {s:St} {r:Nat} {KV Kp:St→A→Prop}
theorem aLJ (hT:TOk T) (hlen2:T.length≤2147483640) (hlt:q.at_<T.length) (hQ:ItQ s d o q.at_) (hk:itK KV ln cl r s (jW (aC ln cl) d q)):Den cx 90 [.ptr r 0] KV Kp (dF ln cl r s d o q):=by
 have hlen:=hT.len;have hfin:¬ (aC ln cl).code=0:=by simp[aC]
 have hown:=hQ.own;have hfr:=hown.free;have hqle:=q.le;have hia:=RQ.inc_at hlt;have G0:iP (gv o.so (d.sig.sorts.map A.str))=some (.int .i64 (d.sig.sorts.map A.str).length):=gV (by rw[aI];exact mR hown (k:=0) rfl);have G1:iP (gv o.be (d.sig.below.map Below.enc))=some (.int .i64 (d.sig.below.map Below.enc).length):=gV (by rw[aI];exact mR hown (k:=1) rfl);have G2:iP (gv o.op (d.sig.ops.map Opr.enc))=some (.int .i64 (d.sig.ops.map Opr.enc).length):=gV (by rw[aI];exact mR hown (k:=2) rfl);have G3:iP (gv o.fu (d.sig.funs.map Opr.enc))=some (.int .i64 (d.sig.funs.map Opr.enc).length):=gV (by rw[aI];exact mR hown (k:=3) rfl);have G5:iP (gv o.eq (d.eqs.map Eqn.enc))=some (.int .i64 (d.eqs.map Eqn.enc).length):=gV (by rw[aI];exact mR hown (k:=5) rfl);have L0:=hQ.len (o.so,d.sig.sorts.length,9) (by simp[aN]);have L1:=hQ.len (o.be,d.sig.below.length,104) (by simp[aN]);have L2:=hQ.len (o.op,d.sig.ops.length,73) (by simp[aN]);have L3:=hQ.len (o.fu,d.sig.funs.length,73) (by simp[aN]);have L4:=hQ.len (o.va,d.sig.values.length,9) (by simp[aN]);have L5:=hQ.len (o.eq,d.eqs.length,80) (by simp[aN]);simp only at L0 L1 L2 L3 L4 L5;rw[aNq] at hk;(refine aZ func90 [0,2,3,4,7,21,25,50,91,105,123,152,181] ?_;simp only[go_sem,ntmps90,f90]);unfold dF;simp only[go_sem,aB];refine fP (ln:=ln) (cl:=cl) (q:=q) (d:=aE d o) _ bD ?_;cases c1:aS 1 [115,111,114,116] q with
 | true =>
  rw[c1,if_pos rfl] at hk;simp only[vC] at hk;simp only[go_sem,aB,bP q.at_ (by omega)]
  refine Ex.loop (ι:=(List aD × Option Nat) × Bool × RQ T × Nat) (fun c=>[(0,.ptr r 0),(2,.bool c.2.1)])
   (fun c=>dF ln cl r s { d with sig:={ d.sig with sorts:=c.1.1 } } { o with so:=c.1.2 } c.2.2.1)
   (fun c => ItQ s { d with sig := { d.sig with sorts := c.1.1 } } { o with so := c.1.2 } c.2.2.1.at_ ∧ q.at_ + 1 ≤ c.2.2.1.at_ ∧ (c.2.1 = true → c.1.1.length + 1 ≤ c.2.2.1.at_ ∧ T.length - c.2.2.1.at_ < c.2.2.2) ∧
    (∀ p,p=cK [44] (aFg (aC ln cl)) c.2.2.2 c.2.1 c.1.1 c.2.2.1→itK KV ln cl r s ({ d with sig:={ d.sig with sorts:=p.1 } },aY (aC ln cl) 4 [46] p.2)))
   (fun c=>(T.length-c.2.2.1.at_) * 2+(if c.2.1=true then 1 else 0)) ((d.sig.sorts,o.so),true,q.inc,T.length+2) ?_ ?_ ?_ ?_
  ·exact ⟨⟨hQ.own,fun a ha=>aU (hQ.len a ha) (by simp only;omega)⟩,by simp only;omega,fun _=>⟨by simp only;omega,by simp only;omega⟩,fun p e=>by subst e;exact hk⟩
  ·simp only[go_sem,aB]
   try rfl
  ·unfold dF;refine cR (l:=aN d o) ?_;simp only[go_sem,aB,hia,aE];exact aL
  ·clear hk G0 G1 G2 G3 G5;rintro ⟨⟨l,tk⟩,more,q6,f6⟩ ⟨hR,hq6,hm6,hk⟩;simp only at hR hq6 hm6 hk;have hle6:=q6.le;have rown:=hR.own;have rfr:=rown.free
   replace hk:=hk _ rfl
   refine bV (V:=[0,2,3,4,7,21,25,50,91,105,123,152,181]) _ _ _ _ ?_;unfold dF;cases more with
   | false =>
    rw[pD] at hk;simp only at hk;simp only[go_sem,aB];refine dZ (ln:=ln) (cl:=cl) (q:=q6) (d:=aE { d with sig:={ d.sig with sorts:=l } } { o with so:=tk }) hT _ bD ?_;have hm9:=dW (fin:=aC ln cl) 4 [46] q6;generalize aY (aC ln cl) 4 [46] q6=qz at hk hm9 ⊢;simp only[go_sem,aB];have hk2:=hk { o with so:=tk } ⟨hR.own,fun a ha=>aU (hR.len a ha) (by simp only;omega)⟩;refine aM hk2 ?_;unfold dF;refine cR (l:=aN { d with sig:={ d.sig with sorts:=l } } { o with so:=tk }) ?_;simp only[aE];exact aL
   | true =>
    obtain ⟨m1,m2⟩:=hm6 rfl;simp only[go_sem,aB];refine iJ (ln:=ln) (cl:=cl) (q:=q6) (d:=aE { d with sig:={ d.sig with sorts:=l } } { o with so:=tk }) bD ?_;cases ho6:q6.ok with
    | false =>
     rw[pB _ _ _ _ _ _ ho6] at hk;simp only at hk;simp only[go_sem,aB];refine dZ (ln:=ln) (cl:=cl) (q:=q6) (d:=aE { d with sig:={ d.sig with sorts:=l } } { o with so:=tk }) hT _ bD ?_;have hm9:=dW (fin:=aC ln cl) 4 [46] q6;generalize aY (aC ln cl) 4 [46] q6=qz at hk hm9 ⊢;simp only[go_sem,aB];have hk2:=hk { o with so:=tk } ⟨hR.own,fun a ha=>aU (hR.len a ha) (by simp only;omega)⟩;refine aM hk2 ?_;unfold dF;refine cR (l:=aN { d with sig:={ d.sig with sorts:=l } } { o with so:=tk }) ?_;simp only[aE];exact aL
    | true =>
     obtain ⟨f6,rfl⟩:∃ f',f6=f'+1:=⟨f6-1,by omega⟩
     rw[pF _ _ _ _ _ ho6] at hk;unfold aFg at hk;simp only at hk;have G7:iP (gv tk (l.map A.str))=some (.int .i64 (l.map A.str).length):=gV (by rw[aI];exact mR rown (k:=0) rfl);simp only[go_sem,aB];refine uC (ln:=ln) (cl:=cl) (q:=q6) (d:=aE { d with sig:={ d.sig with sorts:=l } } { o with so:=tk }) bD ?_;cases hn:cN q6 with
     | true =>
      rw[hn,if_pos rfl] at hk;simp only[go_sem,aB,G7,aI];refine lX (ln:=ln) (cl:=cl) (q:=q6) (d:=aE { d with sig:={ d.sig with sorts:=l } } { o with so:=tk }) hT l.length 40 bD ?_;have hm8:(bG (aC ln cl) l.length 40 q6).at_=q6.at_:=iB _ _ _;generalize bG (aC ln cl) l.length 40 q6=q7 at hk hm8 ⊢;simp only[go_sem,aB];(refine aP (OT.r 0 16) [(8,[6])] ?_;simp only[go_sem,aB])
      (try simp only[go_sem,aB])
      refine iW (ln:=ln) (cl:=cl) (q:=q7) (d:=aE { d with sig:={ d.sig with sorts:=l } } { o with so:=tk }) hT bD ?_;have hmc:=gA (fin:=aC ln cl) q7;generalize bB (aC ln cl) q7=y at hk hmc ⊢;have hley:=y.2.le;simp only[go_sem,aB];refine ⟨by decide,fun y hy=>by simp only[cE] at hy;subst hy;rfl,cW rfl rfl (by rw[aI];refine fV rown (k:=0) (o:=(tk,l.length,9)) rfl ?_;exact fun _=>rfl) (fun y hy=>?_) (by simp only[aI,aF,aH];omega) (fun u hu=>?_)⟩
      ·simp only[bW] at hy;obtain ⟨q,_,rfl⟩:=hy;rfl
      have hown2:=fX rown (k:=0) (o:=(tk,l.length,9)) rfl hu (fun _=>rfl) (l.length+1);simp only[go_sem,aB];refine dE (fW rown (k:=0) (o:=(tk,l.length,9)) rfl hown2 (fun _=>rfl)) ?_;refine nG (ln:=ln) (cl:=cl) (q:=y.2) (d:=aE { d with sig:={ d.sig with sorts:=l++[y.1] } } { o with so:=some u }) hT (by simp only[aB,aE,cL,cM,bK,bQ];exact bD) ?_;have hmd:=gF [44] y.2;have hcc:=kV (x:=[44]) (q:=y.2);generalize dQ [44] y.2=c at hk hmd hcc ⊢;have hlec:=c.2.le;simp only[go_sem,aB];refine ⟨((l++[y.1],some u),c.1,c.2,f6),⟨ItQ.set (k:=0) (a:=(some u,l.length+1,9)) hR (by simp[aN]) hown2 (by simp only;omega) (by simp only;omega),by simp only;omega,fun e=>(by have:=hcc e;exact ⟨by simp only[aR,aF,aH];omega,by simp only;omega⟩),fun p' e=>by subst e;exact hk⟩,?_,?_⟩
      ·simp only;split
       ·rename_i e;have:=hcc e;omega
       ·omega
      ·refine ⟨rfl,?_⟩;simp only[kL];rw[show aN { d with sig:={ d.sig with sorts:=l++[y.1] } } { o with so:=some u }=(aN { d with sig:={ d.sig with sorts:=l } } { o with so:=tk }).set 0 (some u,l.length+1,9) by simp[aN]];refine cR ?_;simp only[aE,cL,cM,bK,bQ];exact aL
     | false =>
      rw[hn,if_neg (by simp)] at hk;have hm8:q6.at_=q6.at_:=rfl;simp only[go_sem,aB];(refine aP (OT.r 0 16) [(8,[6])] ?_;simp only[go_sem,aB])
      (try simp only[go_sem,aB])
      refine iW (ln:=ln) (cl:=cl) (q:=q6) (d:=aE { d with sig:={ d.sig with sorts:=l } } { o with so:=tk }) hT bD ?_;have hmc:=gA (fin:=aC ln cl) q6;generalize bB (aC ln cl) q6=y at hk hmc ⊢;have hley:=y.2.le;simp only[go_sem,aB];refine ⟨by decide,fun y hy=>by simp only[cE] at hy;subst hy;rfl,cW rfl rfl (by rw[aI];refine fV rown (k:=0) (o:=(tk,l.length,9)) rfl ?_;exact fun _=>rfl) (fun y hy=>?_) (by simp only[aI,aF,aH];omega) (fun u hu=>?_)⟩
      ·simp only[bW] at hy;obtain ⟨q,_,rfl⟩:=hy;rfl
      have hown2:=fX rown (k:=0) (o:=(tk,l.length,9)) rfl hu (fun _=>rfl) (l.length+1);simp only[go_sem,aB];refine dE (fW rown (k:=0) (o:=(tk,l.length,9)) rfl hown2 (fun _=>rfl)) ?_;refine nG (ln:=ln) (cl:=cl) (q:=y.2) (d:=aE { d with sig:={ d.sig with sorts:=l++[y.1] } } { o with so:=some u }) hT (by simp only[aB,aE,cL,cM,bK,bQ];exact bD) ?_;have hmd:=gF [44] y.2;have hcc:=kV (x:=[44]) (q:=y.2);generalize dQ [44] y.2=c at hk hmd hcc ⊢;have hlec:=c.2.le;simp only[go_sem,aB];refine ⟨((l++[y.1],some u),c.1,c.2,f6),⟨ItQ.set (k:=0) (a:=(some u,l.length+1,9)) hR (by simp[aN]) hown2 (by simp only;omega) (by simp only;omega),by simp only;omega,fun e=>(by have:=hcc e;exact ⟨by simp only[aR,aF,aH];omega,by simp only;omega⟩),fun p' e=>by subst e;exact hk⟩,?_,?_⟩
      ·simp only;split
       ·rename_i e;have:=hcc e;omega
       ·omega
      ·refine ⟨rfl,?_⟩;simp only[kL];rw[show aN { d with sig:={ d.sig with sorts:=l++[y.1] } } { o with so:=some u }=(aN { d with sig:={ d.sig with sorts:=l } } { o with so:=tk }).set 0 (some u,l.length+1,9) by simp[aN]];refine cR ?_;simp only[aE,cL,cM,bK,bQ];exact aL
 | false =>
 rw[c1,if_neg (by simp)] at hk;simp only[go_sem,aB];refine fP (ln:=ln) (cl:=cl) (q:=q) (d:=aE d o) _ bD ?_;cases c2:aS 1 [115,117,98,115,111,114,116] q with
 | true =>
  rw[c2,if_pos rfl] at hk;simp only[vC] at hk;simp only[go_sem,aB,G1,aI];refine lX (ln:=ln) (cl:=cl) (q:=q) (d:=aE d o) hT d.sig.below.length 200 bD ?_;have ho:(bG (aC ln cl) d.sig.below.length 200 q).at_=q.at_:=iB _ _ _;generalize bG (aC ln cl) d.sig.below.length 200 q=q2 at hk ho ⊢;have hlt2:q2.at_<T.length:=by omega
  have hia2:=RQ.inc_at hlt2;simp only[go_sem,aB,bP q2.at_ (by omega)];refine iW (ln:=ln) (cl:=cl) (q:=q2.inc) (d:=aE d o) hT (by simp only[go_sem,aB,hia2]) ?_;have hmx:=gA (fin:=aC ln cl) q2.inc;generalize bB (aC ln cl) q2.inc=x at hk hmx ⊢;have hlex:=x.2.le;simp only[go_sem,aB];(intro b3 hb3;try simp only[aB,aT,aV,ne_eq] at hb3);simp only[go_sem,aB,hb3];(refine dZ (ln:=ln) (cl:=cl) (q:=x.2) (d:=aE d o) hT [60] bD ?_);have hmq3:=dW (fin:=aC ln cl) 4 [60] (x.2);generalize aY (aC ln cl) 4 [60] (x.2)=q3 at hk hmq3 ⊢;have hleq3:=q3.le;simp only[go_sem,aB,hb3];(refine iW (ln:=ln) (cl:=cl) (q:=q3) (d:=aE d o) hT bD ?_);have hmy:=gA (fin:=aC ln cl) (q3);generalize bB (aC ln cl) (q3)=y at hk hmy ⊢;have hley:=y.2.le;simp only[go_sem,aB,hb3];(refine aP (OT.r 0 15) [] ?_;simp only[go_sem,aB,hb3])
  (try simp only[go_sem,aB,hb3])
  refine ⟨by decide,fun y hy=>by simp only[cE] at hy;subst hy;rfl,cW rfl rfl (by rw[aI];refine fV hown (k:=1) (o:=(o.be,d.sig.below.length,104)) rfl ?_;exact fun _=>rfl) (fun y hy=>?_) (by simp only[aI,aF,aH];omega) (fun u hu=>?_)⟩
  ·simp only[bW] at hy;obtain ⟨q,_,rfl⟩:=hy;rfl
  have hown2:=fX hown (k:=1) (o:=(o.be,d.sig.below.length,104)) rfl hu (fun _=>rfl) (d.sig.below.length+1);simp only[go_sem,aB,hb3];refine dE (fW hown (k:=1) (o:=(o.be,d.sig.below.length,104)) rfl hown2 (fun _=>rfl)) ?_;refine dZ (ln:=ln) (cl:=cl) (q:=y.2) (d:=aE { d with sig:={ d.sig with below:=d.sig.below++[⟨x.1,y.1⟩] } } { o with be:=some u }) hT _ (by simp only[aB,aE,cL,cM,bK,bQ];exact bD) ?_;have hm9:=dW (fin:=aC ln cl) 4 [46] y.2;generalize aY (aC ln cl) 4 [46] y.2=qz at hk hm9 ⊢;simp only[go_sem,aB,hb3];have hk3:=hk { o with be:=some u } (ItQ.set (k:=1) (a:=(some u,d.sig.below.length+1,104)) hQ (by simp[aN]) hown2 (by simp only;omega) (by simp only;omega));refine aM hk3 ?_;unfold dF;simp only[kL];rw[show aN { d with sig:={ d.sig with below:=d.sig.below++[⟨x.1,y.1⟩] } } { o with be:=some u }=(aN d o).set 1 (some u,d.sig.below.length+1,104) by simp[aN]];refine cR ?_;simp only[aE,cL,cM,bK,bQ];exact aL
 | false =>
 rw[c2,if_neg (by simp)] at hk;simp only[go_sem,aB];refine fP (ln:=ln) (cl:=cl) (q:=q) (d:=aE d o) _ bD ?_;cases c3:aS 1 [118,97,108,117,101] q with
 | true =>
  rw[c3,if_pos rfl] at hk;simp only[vC] at hk;simp only[go_sem,aB,bP q.at_ (by omega)]
  refine Ex.loop (ι:=(List aD × Option Nat) × Bool × RQ T × Nat) (fun c=>[(0,.ptr r 0),(4,.bool c.2.1)])
   (fun c=>dF ln cl r s { d with sig:={ d.sig with values:=c.1.1 } } { o with va:=c.1.2 } c.2.2.1)
   (fun c => ItQ s { d with sig := { d.sig with values := c.1.1 } } { o with va := c.1.2 } c.2.2.1.at_ ∧ q.at_ + 1 ≤ c.2.2.1.at_ ∧ (c.2.1 = true → c.1.1.length + 1 ≤ c.2.2.1.at_ ∧ T.length - c.2.2.1.at_ < c.2.2.2) ∧
    (∀ p,p=cK [44] (aET (aC ln cl)) c.2.2.2 c.2.1 c.1.1 c.2.2.1→itK KV ln cl r s ({ d with sig:={ d.sig with values:=p.1 } },aY (aC ln cl) 4 [46] p.2)))
   (fun c=>(T.length-c.2.2.1.at_) * 2+(if c.2.1=true then 1 else 0)) ((d.sig.values,o.va),true,q.inc,T.length+2) ?_ ?_ ?_ ?_
  ·exact ⟨⟨hQ.own,fun a ha=>aU (hQ.len a ha) (by simp only;omega)⟩,by simp only;omega,fun _=>⟨by simp only;omega,by simp only;omega⟩,fun p e=>by subst e;exact hk⟩
  ·simp only[go_sem,aB]
   try rfl
  ·unfold dF;refine cR (l:=aN d o) ?_;simp only[go_sem,aB,hia,aE];exact aL
  ·clear hk G0 G1 G2 G3 G5;rintro ⟨⟨l,tk⟩,more,q6,f6⟩ ⟨hR,hq6,hm6,hk⟩;simp only at hR hq6 hm6 hk;have hle6:=q6.le;have rown:=hR.own;have rfr:=rown.free
   replace hk:=hk _ rfl
   refine bV (V:=[0,2,3,4,7,21,25,50,91,105,123,152,181]) _ _ _ _ ?_;unfold dF;cases more with
   | false =>
    rw[pD] at hk;simp only at hk;simp only[go_sem,aB];refine dZ (ln:=ln) (cl:=cl) (q:=q6) (d:=aE { d with sig:={ d.sig with values:=l } } { o with va:=tk }) hT _ bD ?_;have hm9:=dW (fin:=aC ln cl) 4 [46] q6;generalize aY (aC ln cl) 4 [46] q6=qz at hk hm9 ⊢;simp only[go_sem,aB];have hk2:=hk { o with va:=tk } ⟨hR.own,fun a ha=>aU (hR.len a ha) (by simp only;omega)⟩;refine aM hk2 ?_;unfold dF;refine cR (l:=aN { d with sig:={ d.sig with values:=l } } { o with va:=tk }) ?_;simp only[aE];exact aL
   | true =>
    obtain ⟨m1,m2⟩:=hm6 rfl;simp only[go_sem,aB];refine iJ (ln:=ln) (cl:=cl) (q:=q6) (d:=aE { d with sig:={ d.sig with values:=l } } { o with va:=tk }) bD ?_;cases ho6:q6.ok with
    | false =>
     rw[pB _ _ _ _ _ _ ho6] at hk;simp only at hk;simp only[go_sem,aB];refine dZ (ln:=ln) (cl:=cl) (q:=q6) (d:=aE { d with sig:={ d.sig with values:=l } } { o with va:=tk }) hT _ bD ?_;have hm9:=dW (fin:=aC ln cl) 4 [46] q6;generalize aY (aC ln cl) 4 [46] q6=qz at hk hm9 ⊢;simp only[go_sem,aB];have hk2:=hk { o with va:=tk } ⟨hR.own,fun a ha=>aU (hR.len a ha) (by simp only;omega)⟩;refine aM hk2 ?_;unfold dF;refine cR (l:=aN { d with sig:={ d.sig with values:=l } } { o with va:=tk }) ?_;simp only[aE];exact aL
    | true =>
     obtain ⟨f6,rfl⟩:∃ f',f6=f'+1:=⟨f6-1,by omega⟩
     rw[pF _ _ _ _ _ ho6] at hk;unfold aET at hk;simp only at hk;simp only[go_sem,aB];(refine aP (OT.r 0 16) [(8,[6])] ?_;simp only[go_sem,aB])
     (try simp only[go_sem,aB])
     refine iW (ln:=ln) (cl:=cl) (q:=q6) (d:=aE { d with sig:={ d.sig with values:=l } } { o with va:=tk }) hT bD ?_;have hmc:=gA (fin:=aC ln cl) q6;generalize bB (aC ln cl) q6=y at hk hmc ⊢;have hley:=y.2.le;simp only[go_sem,aB];refine ⟨by decide,fun y hy=>by simp only[cE] at hy;subst hy;rfl,cW rfl rfl (by rw[aI];refine fV rown (k:=4) (o:=(tk,l.length,9)) rfl ?_;exact fun _=>rfl) (fun y hy=>?_) (by simp only[aI,aF,aH];omega) (fun u hu=>?_)⟩
     ·simp only[bW] at hy;obtain ⟨q,_,rfl⟩:=hy;rfl
     have hown2:=fX rown (k:=4) (o:=(tk,l.length,9)) rfl hu (fun _=>rfl) (l.length+1);simp only[go_sem,aB];refine dE (fW rown (k:=4) (o:=(tk,l.length,9)) rfl hown2 (fun _=>rfl)) ?_;refine nG (ln:=ln) (cl:=cl) (q:=y.2) (d:=aE { d with sig:={ d.sig with values:=l++[y.1] } } { o with va:=some u }) hT (by simp only[aB,aE,cL,cM,bK,bQ];exact bD) ?_;have hmd:=gF [44] y.2;have hcc:=kV (x:=[44]) (q:=y.2);generalize dQ [44] y.2=c at hk hmd hcc ⊢;have hlec:=c.2.le;simp only[go_sem,aB];refine ⟨((l++[y.1],some u),c.1,c.2,f6),⟨ItQ.set (k:=4) (a:=(some u,l.length+1,9)) hR (by simp[aN]) hown2 (by simp only;omega) (by simp only;omega),by simp only;omega,fun e=>(by have:=hcc e;exact ⟨by simp only[aR,aF,aH];omega,by simp only;omega⟩),fun p' e=>by subst e;exact hk⟩,?_,?_⟩
     ·simp only;split
      ·rename_i e;have:=hcc e;omega
      ·omega
     ·refine ⟨rfl,?_⟩;simp only[kL];rw[show aN { d with sig:={ d.sig with values:=l++[y.1] } } { o with va:=some u }=(aN { d with sig:={ d.sig with values:=l } } { o with va:=tk }).set 4 (some u,l.length+1,9) by simp[aN]];refine cR ?_;simp only[aE,cL,cM,bK,bQ];exact aL
 | false =>
 rw[c3,if_neg (by simp)] at hk;simp only[go_sem,aB];refine fP (ln:=ln) (cl:=cl) (q:=q) (d:=aE d o) _ bD ?_;cases c4:aS 1 [111,112] q with
 | true =>
  rw[c4,if_pos rfl] at hk;simp only[vC] at hk;simp only[go_sem,aB];(refine aP (OT.r 0 17) [] ?_;simp only[go_sem,aB,G2,G3,aI,eX ((d.sig.ops.length:Int)+(d.sig.funs.length:Int)) (by omega) (by omega)])
  (try simp only[go_sem,aB])
  rw[show (d.sig.ops.length:Int)+(d.sig.funs.length:Int)=((d.sig.ops.length+d.sig.funs.length:Nat):Int) by omega];refine lX (ln:=ln) (cl:=cl) (q:=q) (d:=aE d o) hT (d.sig.ops.length+d.sig.funs.length) 200 bD ?_;have ho:(bG (aC ln cl) (d.sig.ops.length+d.sig.funs.length) 200 q).at_=q.at_:=iB _ _ _;generalize bG (aC ln cl) (d.sig.ops.length+d.sig.funs.length) 200 q=q2 at hk ho ⊢;have hlt2:q2.at_<T.length:=by omega
  have hia2:=RQ.inc_at hlt2;simp only[go_sem,aB,bP q2.at_ (by omega)];have hmp:=aH9 (fin:=aC ln cl) q2.inc;refine dE (s':=dF ln cl r s d o q2.inc) ?_ (aME (ln:=ln) (cl:=cl) (q:=q2.inc) hT hlen2 ⟨hQ.own,fun a ha=>aU (hQ.len a ha) (by omega)⟩ (by omega) (fun o' hQ'=>?_))
  ·refine cR (l:=aN d o) ?_;simp only[go_sem,aB,hia2];exact aL
  generalize oP (aC ln cl) q2.inc=p at hk hQ' hmp ⊢;unfold dF;simp only[go_sem,aB];refine dZ (ln:=ln) (cl:=cl) (q:=p.2) (d:=aE { d with sig:={ d.sig with ops:=d.sig.ops++[p.1] } } o') hT _ bD ?_;have hm9:=dW (fin:=aC ln cl) 4 [46] p.2;generalize aY (aC ln cl) 4 [46] p.2=qz at hk hm9 ⊢;simp only[go_sem,aB];have hk2:=hk o' ⟨hQ'.own,fun a ha=>aU (hQ'.len a ha) (by simp only;omega)⟩;refine aM hk2 ?_;unfold dF;refine cR (l:=aN { d with sig:={ d.sig with ops:=d.sig.ops++[p.1] } } o') ?_;simp only[aE];exact aL
 | false =>
 rw[c4,if_neg (by simp)] at hk;simp only[go_sem,aB];refine fP (ln:=ln) (cl:=cl) (q:=q) (d:=aE d o) _ bD ?_;cases c5:aS 1 [102,117,110] q with
 | true =>
  rw[c5,if_pos rfl] at hk;simp only[vC] at hk;simp only[go_sem,aB];(refine aP (OT.r 0 17) [] ?_;simp only[go_sem,aB,G2,G3,aI,eX ((d.sig.ops.length:Int)+(d.sig.funs.length:Int)) (by omega) (by omega)])
  (try simp only[go_sem,aB])
  rw[show (d.sig.ops.length:Int)+(d.sig.funs.length:Int)=((d.sig.ops.length+d.sig.funs.length:Nat):Int) by omega];refine lX (ln:=ln) (cl:=cl) (q:=q) (d:=aE d o) hT (d.sig.ops.length+d.sig.funs.length) 200 bD ?_;have ho:(bG (aC ln cl) (d.sig.ops.length+d.sig.funs.length) 200 q).at_=q.at_:=iB _ _ _;generalize bG (aC ln cl) (d.sig.ops.length+d.sig.funs.length) 200 q=q2 at hk ho ⊢;have hlt2:q2.at_<T.length:=by omega
  have hia2:=RQ.inc_at hlt2;simp only[go_sem,aB,bP q2.at_ (by omega)];have hmp:=aHl (fin:=aC ln cl) q2.inc;refine dE (s':=dF ln cl r s d o q2.inc) ?_ (aMb (ln:=ln) (cl:=cl) (q:=q2.inc) hT hlen2 ⟨hQ.own,fun a ha=>aU (hQ.len a ha) (by omega)⟩ (by omega) (fun o' hQ'=>?_))
  ·refine cR (l:=aN d o) ?_;simp only[go_sem,aB,hia2];exact aL
  generalize mE (aC ln cl) q2.inc=p at hk hQ' hmp ⊢;unfold dF;simp only[go_sem,aB];refine dZ (ln:=ln) (cl:=cl) (q:=p.2) (d:=aE { d with sig:={ d.sig with funs:=d.sig.funs++[p.1] } } o') hT _ bD ?_;have hm9:=dW (fin:=aC ln cl) 4 [46] p.2;generalize aY (aC ln cl) 4 [46] p.2=qz at hk hm9 ⊢;simp only[go_sem,aB];have hk2:=hk o' ⟨hQ'.own,fun a ha=>aU (hQ'.len a ha) (by simp only;omega)⟩;refine aM hk2 ?_;unfold dF;refine cR (l:=aN { d with sig:={ d.sig with funs:=d.sig.funs++[p.1] } } o') ?_;simp only[aE];exact aL
 | false =>
 rw[c5,if_neg (by simp)] at hk;simp only[go_sem,aB];refine fP (ln:=ln) (cl:=cl) (q:=q) (d:=aE d o) _ bD ?_;cases c6:aS 1 [108,101,116] q with
 | true =>
  rw[c6,if_pos rfl] at hk;simp only[vC] at hk;simp only[go_sem,aB,G5,aI];refine lX (ln:=ln) (cl:=cl) (q:=q) (d:=aE d o) hT d.eqs.length 300 bD ?_;have ho:(bG (aC ln cl) d.eqs.length 300 q).at_=q.at_:=iB _ _ _;generalize bG (aC ln cl) d.eqs.length 300 q=q2 at hk ho ⊢;have hlt2:q2.at_<T.length:=by omega
  simp only[go_sem,aB];have hmp:=aEk (fin:=aC ln cl) q2;refine dE (s':=dF ln cl r s d o q2) ?_ (aMV (ln:=ln) (cl:=cl) (q:=q2) hT hlen2 hlt2 (by rw[ho];exact hQ) (fun o' hQ'=>?_))
  ·refine cR (l:=aN d o) ?_;exact aL
  generalize mJ (aC ln cl) q2=p at hk hQ' hmp ⊢;unfold dF;simp only[go_sem,aB];refine dZ (ln:=ln) (cl:=cl) (q:=p.2) (d:=aE { d with eqs:=d.eqs++[p.1] } o') hT _ bD ?_;have hm9:=dW (fin:=aC ln cl) 4 [46] p.2;generalize aY (aC ln cl) 4 [46] p.2=qz at hk hm9 ⊢;simp only[go_sem,aB];have hk2:=hk o' ⟨hQ'.own,fun a ha=>aU (hQ'.len a ha) (by simp only;omega)⟩;refine aM hk2 ?_;unfold dF;refine cR (l:=aN { d with eqs:=d.eqs++[p.1] } o') ?_;simp only[aE];exact aL
 | false =>
 rw[c6,if_neg (by simp)] at hk;simp only[go_sem,aB];have hmp:=aGI (fin:=aC ln cl) d q;refine dE (s':=dF ln cl r s d o q) ?_ (aLG (ln:=ln) (cl:=cl) (q:=q) hT hlen2 hQ (fun o' hQ'=>?_))
 ·refine cR (l:=aN d o) ?_;exact aL
 simp only[vC] at hk;generalize oF (aC ln cl) d q=p at hk hQ' hmp ⊢;unfold dF;simp only[go_sem,aB];refine dZ (ln:=ln) (cl:=cl) (q:=p.2) (d:=aE p.1 o') hT _ bD ?_;have hm9:=dW (fin:=aC ln cl) 4 [46] p.2;generalize aY (aC ln cl) 4 [46] p.2=qz at hk hm9 ⊢;simp only[go_sem,aB];have hk2:=hk o' ⟨hQ'.own,fun a ha=>aU (hQ'.len a ha) (by simp only;omega)⟩;refine aM hk2 ?_;unfold dF;refine cR (l:=aN p.1 o') ?_;simp only[aE];exact aL
end
end
end Go.AV
