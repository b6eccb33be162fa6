/-
  Of DefParses.
-/
import Derived.Test.YtamikhobdffnfaaGreatDoorPa25
set_option linter.all false
set_option maxRecDepth 99999
set_option maxHeartbeats 0
namespace Go.AV
open Go Go.Proofs Tryz
section
section
variable {T:List Tok} (fin:Fault)
def aFp (c:Rul × Nat) (q:RQ T):(Rul × Nat) × RQ T :=
 (((iD fin c.1 (if (cN q||(aS 1 [110,101,119] q||aS 1 [100,114,111,112] q))=true then bG fin c.2 20 q else q)).1,c.2+1),(iD fin c.1 (if (cN q||(aS 1 [110,101,119] q||aS 1 [100,114,111,112] q))=true then bG fin c.2 20 q else q)).2)
theorem aNt (q:RQ T):mV fin q =
  (let p := cK [59] (aFp fin) (T.length + 2) true (⟨(bB fin q.inc).1,[],[],[],[],(dR fin q).1,(dR fin q).2⟩,0) (aY fin 4 [58] (bB fin q.inc).2)
   ({ p.1.1 with cond:=(iA fin p.2).1 },(iA fin p.2).2)):=rfl
end
section
variable {T:List Tok} {ln cl:Int} {q:RQ T} {d:Dfn} {o:DOwn} {s:St} {r:Nat} {KV Kp:St→A→Prop}
theorem aLl (hT:TOk T) (hlen2:T.length≤2147483640) (hlt:q.at_<T.length) (hQ:ItQ s d o q.at_)
  (hk:∀ o',ItQ s { d with rules:=d.rules++[(mV (aC ln cl) q).1] } o' (mV (aC ln cl) q).2.at_→KV (dF ln cl r s { d with rules:=d.rules++[(mV (aC ln cl) q).1] } o' (mV (aC ln cl) q).2) (.tuple [])) :
  Den cx 235 [.ptr r 0] KV Kp (dF ln cl r s d o q):=by
 have hlen:=hT.len;have hown:=hQ.own;have hqle:=q.le;have hia:=RQ.inc_at hlt;have L8:=hQ.len (o.ru,d.rules.length,84) (by simp[aN]);simp only at L8;rw[aNt] at hk;simp only at hk;(refine aZ func235 [0,2,3,4,28,40] ?_;simp only[go_sem,ntmps235,f235]);unfold dF;rw[← kL];generalize hY:cY s (aN d o)=Y;(intro b2 hb2;try simp only[aB,aT,aV,ne_eq] at hb2);simp only[go_sem,hb2];refine aBh (ln:=ln) (cl:=cl) (q:=q) (d:=aE d o) gH ?_;simp only[go_sem,hb2,bP q.at_ (by omega)];refine iW (ln:=ln) (cl:=cl) (q:=q.inc) (d:=aE d o) hT (by simp only[go_sem,hb2,hia]) ?_;have hmx:=gA (fin:=aC ln cl) q.inc;generalize bB (aC ln cl) q.inc=x at hk hmx ⊢;have hlex:=x.2.le;simp only[go_sem,hb2];(refine dZ (ln:=ln) (cl:=cl) (q:=x.2) (d:=aE d o) hT [58] gH ?_);have hmq3:=dW (fin:=aC ln cl) 4 [58] (x.2);generalize aY (aC ln cl) 4 [58] (x.2)=q3 at hk hmq3 ⊢;have hleq3:=q3.le;simp only[go_sem,hb2]
 refine Ex.loop (ι:=(Rul × Option Nat × Option Nat × Option Nat) × Nat × Bool × RQ T × Nat) (fun c=>[(0,.ptr r 0),(2,.ptr b2 0),(3,.int .i64 c.2.1),(4,.bool c.2.2.1)])
  (fun c=>gK ln cl (aE d o) b2 r Y c.1.1 c.1.2.1 c.1.2.2.1 c.1.2.2.2 c.2.2.2.1)
  (fun c => RulQ b2 r Y c.1.1 c.1.2.1 c.1.2.2.1 c.1.2.2.2 c.2.2.2.1.at_ ∧ q.at_ + 1 ≤ c.2.2.2.1.at_ ∧ (c.2.2.1 = true → c.2.1 + 1 ≤ c.2.2.2.1.at_ ∧ c.1.1.parts.length + 1 ≤ c.2.2.2.1.at_ ∧ c.1.1.new.length + 1 ≤ c.2.2.2.1.at_ ∧ c.1.1.drop.length + 1 ≤ c.2.2.2.1.at_ ∧ T.length - c.2.2.2.1.at_ < c.2.2.2.2) ∧
   (∀ p,p = cK [59] (aFp (aC ln cl)) c.2.2.2.2 c.2.2.1 (c.1.1,c.2.1) c.2.2.2.1 →
    ∀ o',ItQ s { d with rules:=d.rules++[{ p.1.1 with cond:=(iA (aC ln cl) p.2).1 }] } o' (iA (aC ln cl) p.2).2.at_→KV (dF ln cl r s { d with rules:=d.rules++[{ p.1.1 with cond:=(iA (aC ln cl) p.2).1 }] } o' (iA (aC ln cl) p.2).2) (.tuple [])))
  (fun c=>(T.length-c.2.2.2.1.at_) * 2+(if c.2.2.1=true then 1 else 0)) ((⟨x.1,[],[],[],[],(dR (aC ln cl) q).1,(dR (aC ln cl) q).2⟩,none,none,none),0,true,q3,T.length+2) ?_ ?_ ?_ ?_
 ·refine ⟨⟨⟨?_,?_,?_⟩,hb2.2,hb2.1.2,bS _,bS _,bS _⟩,by simp only;omega,fun _=>⟨by simp only;omega,by simp only[aH];omega,by simp only[aH];omega,by simp only[aH];omega,by simp only;omega⟩,fun p e=>by subst e;exact hk⟩
  ·intro o ho u hu;simp only[bZ,iR,qH,oA] at ho;rcases ho with rfl|rfl|rfl<;>cases hu
  ·intro o ho _;simp only[bZ,iR,qH,oA] at ho;rcases ho with rfl|rfl|rfl<;>rfl
  ·intro i j a b u hi hj ha hb;have:=fJ hi;simp only[bZ,iR,qH,oA] at this;rcases this with rfl|rfl|rfl<;>cases ha
 ·simp only[go_sem,hb2]
  try rfl
 ·show St.ge _ ((Y.setO b2 _).setO r _);exact aL
 ·clear hk;rintro ⟨⟨x,tp,tn,td⟩,cnt,more,q6,f6⟩ ⟨hR,hq6,hm6,hk⟩;simp only at hR hq6 hm6 hk;have hR0:=hR;obtain ⟨rown,rb,rne,l1,l2,l3⟩:=hR;have rfr:=rown.free;have hle6:=q6.le
  replace hk:=hk _ rfl
  refine bV (V:=[0,2,3,4,28,40]) _ _ _ _ ?_;cases more with
  | false =>
   rw[pD] at hk;simp only at hk
   try unfold gK iQ
   have rneS:=rne.symm;simp only[go_sem,aB,rne,rne.symm];have z1:tp=none→x.parts=[]:=fun e=>gR (rown.nil (tp,x.parts.length,86) (by simp[bZ]) e)
   have z2:tn=none→x.new=[]:=fun e=>gR (rown.nil (tn,x.new.length,141) (by simp[bZ]) e)
   have z3:td=none→x.drop=[]:=fun e=>gR (rown.nil (td,x.drop.length,9) (by simp[bZ]) e)
   refine Den.soft (b:=b2) (e:=84) (cs:=[.str x.name,gv tp (x.parts.map kW),.nils,gv tn (x.new.map Fresh.enc),gv td (x.drop.map .str),.int .i64 x.line,.int .i64 x.col]) gH (cs':=[.str x.name,.list none (x.parts.map Part.enc),.nils,.list none (x.new.map Fresh.enc),.list none (x.drop.map .str),.int .i64 x.line,.int .i64 x.col]) ⟨⟨aK _,rfl⟩,⟨aFi tp (fun e=>by rw[z1 e];rfl) (aDL _),rfl⟩,⟨aK _,rfl⟩,⟨fN tn _ (fun e=>by rw[z2 e];rfl),rfl⟩,⟨fN td _ (fun e=>by rw[z3 e];rfl),rfl⟩,⟨aK _,rfl⟩,⟨aK _,rfl⟩,trivial⟩ ?_;simp only[go_sem,aB,rne,rne.symm];refine dE (aBQ (bA _) ?_) ?_
   ·exact rfr
   refine aDF (ln:=ln) (cl:=cl) (q:=q6) (d:=aE d o) hT hlen2 gH ?_;have hmc:=zW (fin:=aC ln cl) q6;generalize iA (aC ln cl) q6=c at hk hmc ⊢;have hlec:=c.2.le;subst hY;have hfr:=hown.free;simp only[aB] at rb;have rneS:=rne.symm;simp only[go_sem,aB,rne,rne.symm];(refine aP (OT.r 0 13) [] ?_;simp only[go_sem,aB,rne,rne.symm])
   (try simp only[go_sem,aB,rne,rne.symm])
   refine ⟨by decide,fun y hy=>by simp only[cE] at hy;subst hy;rfl,cW rfl rfl (by rw[aI];refine fV hown (k:=8) (o:=(o.ru,d.rules.length,84)) rfl ?_;exact fun _=>rfl) (fun y hy=>?_) (by simp only[aI,aF,aH];omega) (fun u hu=>?_)⟩
   ·simp only[bW] at hy;obtain ⟨q,_,rfl⟩:=hy;rfl
   have hown2:=fX hown (k:=8) (o:=(o.ru,d.rules.length,84)) rfl hu (fun _=>rfl) (d.rules.length+1);simp only[go_sem,aB,rne,rne.symm];have hk2:=hk { o with ru:=some u } (ItQ.set (k:=8) (a:=(some u,d.rules.length+1,84)) hQ (by simp[aN]) hown2 (by omega) (by simp only;omega));refine aM hk2 (St.ge.trans (fW hown (k:=8) (o:=(o.ru,d.rules.length,84)) rfl hown2 (fun _=>rfl)) ?_);unfold dF;rw[show aN { d with rules:=d.rules++[{ x with cond:=c.1 }] } { o with ru:=some u }=(aN d o).set 8 (some u,d.rules.length+1,84) by simp[aN]];refine cR ?_;simp only[aE,cL,cM,bK,bQ,Rul.enc,Rul.cs];exact aL
  | true =>
   obtain ⟨m1,m2,m3,m4,m5⟩:=hm6 rfl
   try unfold gK iQ
   have rneS:=rne.symm;simp only[go_sem,aB,rne,rne.symm];refine iJ (ln:=ln) (cl:=cl) (q:=q6) (d:=aE d o) gH ?_;cases ho6:q6.ok with
   | false =>
    rw[pB _ _ _ _ _ _ ho6] at hk;simp only at hk
    try unfold gK iQ
    have rneS:=rne.symm;simp only[go_sem,aB,rne,rne.symm];have z1:tp=none→x.parts=[]:=fun e=>gR (rown.nil (tp,x.parts.length,86) (by simp[bZ]) e)
    have z2:tn=none→x.new=[]:=fun e=>gR (rown.nil (tn,x.new.length,141) (by simp[bZ]) e)
    have z3:td=none→x.drop=[]:=fun e=>gR (rown.nil (td,x.drop.length,9) (by simp[bZ]) e)
    refine Den.soft (b:=b2) (e:=84) (cs:=[.str x.name,gv tp (x.parts.map kW),.nils,gv tn (x.new.map Fresh.enc),gv td (x.drop.map .str),.int .i64 x.line,.int .i64 x.col]) gH (cs':=[.str x.name,.list none (x.parts.map Part.enc),.nils,.list none (x.new.map Fresh.enc),.list none (x.drop.map .str),.int .i64 x.line,.int .i64 x.col]) ⟨⟨aK _,rfl⟩,⟨aFi tp (fun e=>by rw[z1 e];rfl) (aDL _),rfl⟩,⟨aK _,rfl⟩,⟨fN tn _ (fun e=>by rw[z2 e];rfl),rfl⟩,⟨fN td _ (fun e=>by rw[z3 e];rfl),rfl⟩,⟨aK _,rfl⟩,⟨aK _,rfl⟩,trivial⟩ ?_;simp only[go_sem,aB,rne,rne.symm];refine dE (aBQ (bA _) ?_) ?_
    ·exact rfr
    refine aDF (ln:=ln) (cl:=cl) (q:=q6) (d:=aE d o) hT hlen2 gH ?_;have hmc:=zW (fin:=aC ln cl) q6;generalize iA (aC ln cl) q6=c at hk hmc ⊢;have hlec:=c.2.le;subst hY;have hfr:=hown.free;simp only[aB] at rb;have rneS:=rne.symm;simp only[go_sem,aB,rne,rne.symm];(refine aP (OT.r 0 13) [] ?_;simp only[go_sem,aB,rne,rne.symm])
    (try simp only[go_sem,aB,rne,rne.symm])
    refine ⟨by decide,fun y hy=>by simp only[cE] at hy;subst hy;rfl,cW rfl rfl (by rw[aI];refine fV hown (k:=8) (o:=(o.ru,d.rules.length,84)) rfl ?_;exact fun _=>rfl) (fun y hy=>?_) (by simp only[aI,aF,aH];omega) (fun u hu=>?_)⟩
    ·simp only[bW] at hy;obtain ⟨q,_,rfl⟩:=hy;rfl
    have hown2:=fX hown (k:=8) (o:=(o.ru,d.rules.length,84)) rfl hu (fun _=>rfl) (d.rules.length+1);simp only[go_sem,aB,rne,rne.symm];have hk2:=hk { o with ru:=some u } (ItQ.set (k:=8) (a:=(some u,d.rules.length+1,84)) hQ (by simp[aN]) hown2 (by omega) (by simp only;omega));refine aM hk2 (St.ge.trans (fW hown (k:=8) (o:=(o.ru,d.rules.length,84)) rfl hown2 (fun _=>rfl)) ?_);unfold dF;rw[show aN { d with rules:=d.rules++[{ x with cond:=c.1 }] } { o with ru:=some u }=(aN d o).set 8 (some u,d.rules.length+1,84) by simp[aN]];refine cR ?_;simp only[aE,cL,cM,bK,bQ,Rul.enc,Rul.cs];exact aL
   | true =>
    obtain ⟨f6,rfl⟩:∃ f',f6=f'+1:=⟨f6-1,by omega⟩
    rw[pF _ _ _ _ _ ho6] at hk;unfold aFp at hk;simp only at hk;have rneS:=rne.symm;simp only[go_sem,aB,rne,rne.symm];refine uC (ln:=ln) (cl:=cl) (q:=q6) (d:=aE d o) gH ?_;cases n1:cN q6 with
    | true =>
     rw[n1,fO,if_pos rfl] at hk;simp only[go_sem,aB,rne,rne.symm];refine lX (ln:=ln) (cl:=cl) (q:=q6) (d:=aE d o) hT cnt 20 gH ?_;have hm8:(bG (aC ln cl) cnt 20 q6).at_=q6.at_:=iB _ _ _;generalize bG (aC ln cl) cnt 20 q6=q7 at hk hm8 ⊢;simp only[go_sem,aB,rne,rne.symm,bP cnt (by omega)];refine dE (s':=gK ln cl (aE d o) b2 r Y x tp tn td q7) ?_ ?_
     ·unfold gK iQ;refine cR ?_;exact aL
     refine aBd (ln:=ln) (cl:=cl) (q:=q7) (d:=aE d o) hT hlen2 b2 x tp tn td ⟨rown,rb,rne,by rw[hm8];exact l1,by rw[hm8];exact l2,by rw[hm8];exact l3⟩ (by omega) (by omega) (by omega) ?_;have hmp:=aAb (fin:=aC ln cl) x q7;generalize iD (aC ln cl) x q7=p at hk hmp ⊢;have hlep:=p.2.le;intro tp2 tn2 td2 hR2;simp only[go_sem,aB,rne,rne.symm];refine aBi (ln:=ln) (cl:=cl) (q:=p.2) (d:=aE d o) hT (by unfold gK;rw[aB,aJ,if_pos rfl]<;>rfl) ?_;have hmc:=gF [59] p.2;have hcc:=kV (x:=[59]) (q:=p.2);generalize dQ [59] p.2=c at hk hmc hcc ⊢;have hlec:=c.2.le;have r1:=hR2.l1;have r2:=hR2.l2;have r3:=hR2.l3;simp only[go_sem,aB,rne,rne.symm];refine ⟨((p.1,tp2,tn2,td2),cnt+1,c.1,c.2,f6),⟨⟨hR2.own,hR2.hb,hR2.ne,by simp only;omega,by simp only;omega,by simp only;omega⟩,by simp only;omega,fun e=>(by have:=hcc e;exact ⟨by simp only;omega,by simp only;omega,by simp only;omega,by simp only;omega,by simp only;omega⟩),fun p' e=>by subst e;exact hk⟩,?_,?_⟩
     ·simp only;split
      ·rename_i e;have:=hcc e;omega
      ·omega
     ·refine ⟨⟨rfl,rfl⟩,?_⟩;unfold gK;rw[kL,lZ];exact bA _
    | false =>
     simp only[go_sem,aB,rne,rne.symm];refine fP (ln:=ln) (cl:=cl) (q:=q6) (d:=aE d o) _ gH ?_;cases n2:aS 1 [110,101,119] q6 with
     | true =>
      rw[n1,n2,eD,fO,if_pos rfl] at hk;simp only[go_sem,aB,rne,rne.symm];refine lX (ln:=ln) (cl:=cl) (q:=q6) (d:=aE d o) hT cnt 20 gH ?_;have hm8:(bG (aC ln cl) cnt 20 q6).at_=q6.at_:=iB _ _ _;generalize bG (aC ln cl) cnt 20 q6=q7 at hk hm8 ⊢;simp only[go_sem,aB,rne,rne.symm,bP cnt (by omega)];refine dE (s':=gK ln cl (aE d o) b2 r Y x tp tn td q7) ?_ ?_
      ·unfold gK iQ;refine cR ?_;exact aL
      refine aBd (ln:=ln) (cl:=cl) (q:=q7) (d:=aE d o) hT hlen2 b2 x tp tn td ⟨rown,rb,rne,by rw[hm8];exact l1,by rw[hm8];exact l2,by rw[hm8];exact l3⟩ (by omega) (by omega) (by omega) ?_;have hmp:=aAb (fin:=aC ln cl) x q7;generalize iD (aC ln cl) x q7=p at hk hmp ⊢;have hlep:=p.2.le;intro tp2 tn2 td2 hR2;simp only[go_sem,aB,rne,rne.symm];refine aBi (ln:=ln) (cl:=cl) (q:=p.2) (d:=aE d o) hT (by unfold gK;rw[aB,aJ,if_pos rfl]<;>rfl) ?_;have hmc:=gF [59] p.2;have hcc:=kV (x:=[59]) (q:=p.2);generalize dQ [59] p.2=c at hk hmc hcc ⊢;have hlec:=c.2.le;have r1:=hR2.l1;have r2:=hR2.l2;have r3:=hR2.l3;simp only[go_sem,aB,rne,rne.symm];refine ⟨((p.1,tp2,tn2,td2),cnt+1,c.1,c.2,f6),⟨⟨hR2.own,hR2.hb,hR2.ne,by simp only;omega,by simp only;omega,by simp only;omega⟩,by simp only;omega,fun e=>(by have:=hcc e;exact ⟨by simp only;omega,by simp only;omega,by simp only;omega,by simp only;omega,by simp only;omega⟩),fun p' e=>by subst e;exact hk⟩,?_,?_⟩
      ·simp only;split
       ·rename_i e;have:=hcc e;omega
       ·omega
      ·refine ⟨⟨rfl,rfl⟩,?_⟩;unfold gK;rw[kL,lZ];exact bA _
     | false =>
      simp only[go_sem,aB,rne,rne.symm];refine fP (ln:=ln) (cl:=cl) (q:=q6) (d:=aE d o) _ gH ?_;cases n3:aS 1 [100,114,111,112] q6 with
      | true =>
       rw[n1,n2,n3,eD,eD,if_pos rfl] at hk;simp only[go_sem,aB,rne,rne.symm];refine lX (ln:=ln) (cl:=cl) (q:=q6) (d:=aE d o) hT cnt 20 gH ?_;have hm8:(bG (aC ln cl) cnt 20 q6).at_=q6.at_:=iB _ _ _;generalize bG (aC ln cl) cnt 20 q6=q7 at hk hm8 ⊢;simp only[go_sem,aB,rne,rne.symm,bP cnt (by omega)];refine dE (s':=gK ln cl (aE d o) b2 r Y x tp tn td q7) ?_ ?_
       ·unfold gK iQ;refine cR ?_;exact aL
       refine aBd (ln:=ln) (cl:=cl) (q:=q7) (d:=aE d o) hT hlen2 b2 x tp tn td ⟨rown,rb,rne,by rw[hm8];exact l1,by rw[hm8];exact l2,by rw[hm8];exact l3⟩ (by omega) (by omega) (by omega) ?_;have hmp:=aAb (fin:=aC ln cl) x q7;generalize iD (aC ln cl) x q7=p at hk hmp ⊢;have hlep:=p.2.le;intro tp2 tn2 td2 hR2;simp only[go_sem,aB,rne,rne.symm];refine aBi (ln:=ln) (cl:=cl) (q:=p.2) (d:=aE d o) hT (by unfold gK;rw[aB,aJ,if_pos rfl]<;>rfl) ?_;have hmc:=gF [59] p.2;have hcc:=kV (x:=[59]) (q:=p.2);generalize dQ [59] p.2=c at hk hmc hcc ⊢;have hlec:=c.2.le;have r1:=hR2.l1;have r2:=hR2.l2;have r3:=hR2.l3;simp only[go_sem,aB,rne,rne.symm];refine ⟨((p.1,tp2,tn2,td2),cnt+1,c.1,c.2,f6),⟨⟨hR2.own,hR2.hb,hR2.ne,by simp only;omega,by simp only;omega,by simp only;omega⟩,by simp only;omega,fun e=>(by have:=hcc e;exact ⟨by simp only;omega,by simp only;omega,by simp only;omega,by simp only;omega,by simp only;omega⟩),fun p' e=>by subst e;exact hk⟩,?_,?_⟩
       ·simp only;split
        ·rename_i e;have:=hcc e;omega
        ·omega
       ·refine ⟨⟨rfl,rfl⟩,?_⟩;unfold gK;rw[kL,lZ];exact bA _
      | false =>
       rw[n1,n2,n3,eD,eD,if_neg (by simp)] at hk;have hm8:q6.at_=q6.at_:=rfl;simp only[go_sem,aB,rne,rne.symm,bP cnt (by omega)];refine dE (s':=gK ln cl (aE d o) b2 r Y x tp tn td q6) ?_ ?_
       ·unfold gK iQ;refine cR ?_;exact aL
       refine aBd (ln:=ln) (cl:=cl) (q:=q6) (d:=aE d o) hT hlen2 b2 x tp tn td ⟨rown,rb,rne,by rw[hm8];exact l1,by rw[hm8];exact l2,by rw[hm8];exact l3⟩ (by omega) (by omega) (by omega) ?_;have hmp:=aAb (fin:=aC ln cl) x q6;generalize iD (aC ln cl) x q6=p at hk hmp ⊢;have hlep:=p.2.le;intro tp2 tn2 td2 hR2;simp only[go_sem,aB,rne,rne.symm];refine aBi (ln:=ln) (cl:=cl) (q:=p.2) (d:=aE d o) hT (by unfold gK;rw[aB,aJ,if_pos rfl]<;>rfl) ?_;have hmc:=gF [59] p.2;have hcc:=kV (x:=[59]) (q:=p.2);generalize dQ [59] p.2=c at hk hmc hcc ⊢;have hlec:=c.2.le;have r1:=hR2.l1;have r2:=hR2.l2;have r3:=hR2.l3;simp only[go_sem,aB,rne,rne.symm];refine ⟨((p.1,tp2,tn2,td2),cnt+1,c.1,c.2,f6),⟨⟨hR2.own,hR2.hb,hR2.ne,by simp only;omega,by simp only;omega,by simp only;omega⟩,by simp only;omega,fun e=>(by have:=hcc e;exact ⟨by simp only;omega,by simp only;omega,by simp only;omega,by simp only;omega,by simp only;omega⟩),fun p' e=>by subst e;exact hk⟩,?_,?_⟩
       ·simp only;split
        ·rename_i e;have:=hcc e;omega
        ·omega
       ·refine ⟨⟨rfl,rfl⟩,?_⟩;unfold gK;rw[kL,lZ];exact bA _
end
end
section
def sv (tk:Option Nat) (es:List A):A:=match tk with
 | none=>nv es
 | some t=>.list (some t) es
@[go_sem] theorem aTq (tk:Option Nat) (es:List A):(sv tk es).cells=[sv tk es]:=by cases tk;exact aNy es;rfl
@[go_sem] theorem aUc (tk:Option Nat) (es:List A):(sv tk es).one=true:=by cases tk;exact aAI es;rfl
@[go_sem] theorem aUt (s:St) (tk:Option Nat) (es:List A):iG s (sv tk es)=sv tk es:=by cases tk;exact aPF s es;rfl
theorem aCB (tk:Option Nat) (es:List A) (h:∀ t,tk=some t→es≠[]):A.le (sv tk es) (nv es):=by
 cases tk with
 | none=>exact aK _
 | some t=>rw[← aQO (h t rfl)];exact A.le.forget _ _
theorem aJy {tk:Option Nat} {es:List A} (h:tk=none→es=[]):sv tk es=gv tk es:=by
 cases tk with
 | none=>rw[h rfl];rfl
 | some t=>rfl
section
variable {T:List Tok} (fin:Fault)
def vS (q:RQ T):Bool:=cN q||fS 3 q
def aEM (c:List Piece × List aD × Bool) (q:RQ T):(List Piece × List aD × Bool) × RQ T :=
 if fS 3 (bG fin c.1.length 20 q)=true then ((c.1++[⟨(bG fin c.1.length 20 q).tok.text,[]⟩],c.2.1,true),(bG fin c.1.length 20 q).inc)
 else ((c.1++[⟨[],(bG fin c.2.1.length 8 (bG fin c.1.length 20 q)).tok.text⟩],c.2.1++[(bG fin c.2.1.length 8 (bG fin c.1.length 20 q)).tok.text],c.2.2),(bG fin c.2.1.length 8 (bG fin c.1.length 20 q)).inc)
theorem aMh:xZ (T:=T) fin=bR vS (aEM fin) (T.length+1) ([],[],false):=rfl
def kD (q:RQ T):Bool:=aS 1 [112,114,101,99] q||(aS 1 [108,101,102,116] q||(aS 1 [114,105,103,104,116] q||aS 1 [115,116,114,105,99,116] q))
def yD (l:List Int) (q:RQ T):List Int × RQ T:=(l++[(gS fin 8 q).1],(gS fin 8 q).2)
def sZ (c:Opr × Bool) (q:RQ T):(Opr × Bool) × RQ T :=
 if q.tok.text=[112,114,101,99] then (({ c.1 with prec:=(gS fin 20 (dI fin (!decide (c.1.prec=0)) q)).1 },c.2),(gS fin 20 (dI fin (!decide (c.1.prec=0)) q)).2)
 else if q.tok.text=[108,101,102,116] then (({ c.1 with assoc:=1 },c.2),dI fin (!decide (c.1.assoc=0)) q)
 else if q.tok.text=[114,105,103,104,116] then (({ c.1 with assoc:=2 },c.2),dI fin (!decide (c.1.assoc=0)) q)
 else (({ c.1 with strict:=(cK [44] (yD fin) (T.length+2) true c.1.strict (aY fin 4 [40] (dI fin c.2 q))).1 },true),aY fin 4 [41] (cK [44] (yD fin) (T.length+2) true c.1.strict (aY fin 4 [40] (dI fin c.2 q))).2)
theorem aG6 (c:Opr × Bool):yH (T:=T) fin c=bR kD (sZ fin) (T.length+1) c:=rfl
def opL (x:aD) (p:(List Piece × List aD × Bool) × RQ T):Opr × RQ T :=
 let y:=bB fin (aY fin 4 [45,62] p.2)
 let a:=yH fin (⟨x,p.1.2.1,y.1,if p.1.2.2=true then p.1.1 else [],0,0,[]⟩,false) y.2
 (a.1.1,a.2)
theorem aPQ (q:RQ T):oP fin q=opL fin (bB fin q).1 (xZ fin (aY fin 4 [58] (bB fin q).2)):=rfl
theorem aH1 {q:RQ T} (hf:¬ fin.code=0):(dI fin true q).ok=false:=by
 unfold dI;rw[if_pos rfl];have:=aAe (fin:=fin) (code:=14) hf (by decide) q.at_ true q;unfold RQ.ok at this ⊢;rw[RQ.inc_f];exact this
theorem aH0 {k:Int} {x:aD} {q:RQ T} (h:q.ok=false):(aY fin k x q).ok=false:=by
 unfold aY;rw[if_neg (by simp[aS,h])];unfold cJ;rw[if_neg (by simp[h])];exact h
theorem aAh {was:Bool} {q:RQ T} (h:q.at_<T.length):(dI fin was q).at_=q.at_+1:=by
 unfold dI;split
 ·rw[RQ.inc_at (by rw[gW];exact h),gW]
 ·rw[RQ.inc_at h]
end
theorem uI {T:List Tok} {k:Int} {x:aD} {q:RQ T} (h:aS k x q=true):q.tok.text=x:=by
 simp only[aS,bT,eC] at h;exact h.2.2.2
section
variable {T:List Tok} {ln cl:Int} {q:RQ T} {d:Dfn} {o:DOwn} {s:St} {r:Nat} {KV Kp:St→A→Prop}
def zM (KV:St→A→Prop) (ln cl:Int) (r:Nat) (s:St) (d:Dfn) (p:Opr × RQ T):Prop :=
 ∀ o',ItQ s { d with sig:={ d.sig with ops:=d.sig.ops++[p.1] } } o' p.2.at_→KV (dF ln cl r s { d with sig:={ d.sig with ops:=d.sig.ops++[p.1] } } o' p.2) (.tuple [])
theorem aME (hT:TOk T) (hlen2:T.length≤2147483640) (hQ:ItQ s d o q.at_) (hlf:d.sig.ops.length+1≤q.at_) (hk:zM KV ln cl r s d (oP (aC ln cl) q)) :
  Den cx 161 [.ptr r 0] KV Kp (dF ln cl r s d o q):=by
 have hlen:=hT.len;have hfin:¬ (aC ln cl).code=0:=by simp[aC]
 have hqle:=q.le;rw[aPQ] at hk;(refine aZ func161 [0,2,3,4,5,16,23,87,107,118,128,140,150,158] ?_;simp only[go_sem,ntmps161,f161]);unfold dF;rw[← kL];generalize hY:cY s (aN d o)=Y;simp only[go_sem];(refine iW (ln:=ln) (cl:=cl) (q:=q) (d:=aE d o) hT gH ?_);have hmx:=gA (fin:=aC ln cl) (q);generalize bB (aC ln cl) (q)=x at hk hmx ⊢;have hlex:=x.2.le;simp only[go_sem];(intro b2 hb2;try simp only[aB,aT,aV,ne_eq] at hb2);simp only[go_sem,hb2];(refine dZ (ln:=ln) (cl:=cl) (q:=x.2) (d:=aE d o) hT [58] gH ?_);have hmq2:=dW (fin:=aC ln cl) 4 [58] (x.2);generalize aY (aC ln cl) 4 [58] (x.2)=q2 at hk hmq2 ⊢;have hleq2:=q2.le;rw[aMh] at hk;simp only[go_sem,hb2]
 refine Ex.loop (ι:=(Option Nat × Option Nat) × (List Piece × List aD × Bool) × RQ T × Nat) (fun c=>[(0,.ptr r 0),(2,.ptr b2 0),(3,.bool c.2.1.2.2)])
  (fun c=>gs (gs (((Y.setO b2 (.cells 73 [.str x.1,gv c.1.1 (c.2.1.2.1.map A.str),.str [],gv c.1.2 (c.2.1.1.map Piece.enc),.int .i64 0,.int .i64 0,.nils]))).setO r (aG ln cl c.2.2.1 (aE d o))) c.1.1 c.2.1.2.1.length 9) c.1.2 c.2.1.1.length 143)
  (fun c => (c.1.1 = none → c.2.1.2.1 = []) ∧ (c.1.2 = none → c.2.1.1 = []) ∧ (∀ t,c.1.1 = some t → Y.getT t = none) ∧ (∀ t,c.1.2 = some t → Y.getT t = none ∧ c.1.1 ≠ some t) ∧ q.at_ ≤ c.2.2.1.at_ ∧
   c.2.1.2.1.length≤c.2.2.1.at_∧c.2.1.1.length≤c.2.2.1.at_∧T.length-c.2.2.1.at_<c.2.2.2 ∧
   (∀ p,p=bR vS (aEM (aC ln cl)) c.2.2.2 c.2.1 c.2.2.1→zM KV ln cl r s d (opL (aC ln cl) x.1 p)))
  (fun c=>T.length-c.2.2.1.at_) ((none,none),([],[],false),q2,T.length+1) ?_ ?_ ?_ ?_
 ·exact ⟨fun _=>rfl,fun _=>rfl,fun t e=>(by cases e),fun t e=>(by cases e),by simp only;omega,bS _,bS _,by simp only;omega,fun p e=>by subst e;exact hk⟩
 ·simp only[go_sem,hb2]
 ·exact aL
 ·clear hk;rintro ⟨⟨ta,tp⟩,⟨ps,ar,tx⟩,q,f⟩ ⟨hnila,hnilp,hfa,hfp,hqa,has,hps,hf,hk⟩;simp only at hnila hnilp hfa hfp hqa has hps hf hk;have hqle:=q.le;have hfp1:∀ t,tp=some t→Y.getT t=none:=fun t e=>(hfp t e).1
  have hgp:lS (gs (gs (((Y.setO b2 (.cells 73 [.str x.1,gv ta (ar.map A.str),.str [],gv tp (ps.map Piece.enc),.int .i64 0,.int .i64 0,.nils]))).setO r (aG ln cl q (aE d o))) ta ar.length 9) tp ps.length 143) tp (ps.map Piece.enc).length 143:=by rw[aI];exact fA fun e=>by rw[hnilp e];rfl
  have hga:lS (gs (gs (((Y.setO b2 (.cells 73 [.str x.1,gv ta (ar.map A.str),.str [],gv tp (ps.map Piece.enc),.int .i64 0,.int .i64 0,.nils]))).setO r (aG ln cl q (aE d o))) ta ar.length 9) tp ps.length 143) ta (ar.map A.str).length 9:=by
   rw[aI];cases ta with
   | none=>rw[hnila rfl];rfl
   | some t =>
    show (gs _ _ _ _).getT t=_;rw[eZ,if_neg (fun e=>(hfp t e).2 rfl),eZ,if_pos rfl]
  refine bV (V:=[0,2,3,4,5,16,23,87,107,118,128,140,150,158]) _ _ _ _ ?_;simp only[go_sem,hb2];refine uC (ln:=ln) (cl:=cl) (q:=q) (d:=aE d o) gH ?_
  replace hk:=hk _ rfl
  cases hg:vS q with
  | false =>
   rw[aBB _ _ _ _ _ hg] at hk;have hg1:cN q=false:=by cases h:cN q<;>simp[vS,h] at hg ⊢
   have hg2:fS 3 q=false:=by cases h:fS 3 q<;>simp[vS,h] at hg ⊢
   rw[hg1];simp only[go_sem,hb2];refine sQ (ln:=ln) (cl:=cl) (q:=q) (d:=aE d o) 3 gH ?_;rw[hg2];simp only[go_sem,hb2];obtain ⟨P,hP⟩:∃ P,P=if tx=true then ps else []:=⟨_,rfl⟩
   unfold opL at hk;simp only at hk;rw[← hP] at hk
   have hwk:∀ X:St,(∀ u,X.getT u=Y.getT u)→(gs (gs X ta ar.length 9) tp ps.length 143).ge X:=fun X hX=>by
    refine qU (qU (bA _) fun t ht=>by rw[hX];exact hfa t ht) fun t ht=>?_
    rw[eZ,if_neg (fun e=>(hfp t ht).2 e),hX];exact hfp1 t ht
   cases tx
   all_goals
    try simp only[bN,if_false,reduceIte] at hP
    simp only[go_sem,hb2]
   ·refine Den.soft (b:=b2) (e:=73) (cs:=[.str x.1,gv ta (ar.map A.str),.str [],.nils,.int .i64 0,.int .i64 0,.nils]) bD (cs':=oQ ⟨x.1,ar,[],P,0,0,[]⟩ (.list none (ar.map .str)) (.list none (P.map Piece.enc))) ⟨⟨aK _,rfl⟩,⟨fN _ _ (fun e=>by rw[hnila e];rfl),rfl⟩,⟨aK _,rfl⟩,⟨by rw[hP];exact A.le.nil,rfl⟩,⟨aK _,rfl⟩,⟨aK _,rfl⟩,⟨aK _,rfl⟩,trivial⟩ ?_;clear hP
    (try simp only[go_sem,hb2,aG])
    refine dE (hwk _ ?_) ?_
    ·exact fun _=>rfl
    clear hgp hga hwk hnila hnilp hfa hfp hfp1;(refine dZ (ln:=ln) (cl:=cl) (q:=q) (d:=aE d o) hT [45,62] bD ?_);have hmq3:=dW (fin:=aC ln cl) 4 [45,62] (q);generalize aY (aC ln cl) 4 [45,62] (q)=q3 at hk hmq3 ⊢;have hleq3:=q3.le;simp only[go_sem,hb2,aG];(refine iW (ln:=ln) (cl:=cl) (q:=q3) (d:=aE d o) hT bD ?_);have hmy:=gA (fin:=aC ln cl) (q3);generalize bB (aC ln cl) (q3)=y at hk hmy ⊢;have hley:=y.2.le;simp only[go_sem,hb2,aG];rw[aG6] at hk
    refine Ex.loop (ι:=(Opr × Bool) × RQ T × Nat) (fun c=>[(0,.ptr r 0),(2,.ptr b2 0),(3,.bool false),(4,.bool c.1.2)])
     (fun c=>(Y.setO b2 (.cells 73 (oQ c.1.1 (.list none (ar.map .str)) (.list none (P.map Piece.enc))))).setO r (aG ln cl c.2.1 (aE d o)))
     (fun c => (c.1.2 = false → c.1.1.strict = []) ∧ c.1.1.args = ar ∧ c.1.1.pieces = P ∧ q.at_ ≤ c.2.1.at_ ∧ T.length - c.2.1.at_ < c.2.2 ∧
      (∀ p,p=bR kD (sZ (aC ln cl)) c.2.2 c.1 c.2.1→zM KV ln cl r s d (p.1.1,p.2)))
     (fun c=>T.length-c.2.1.at_) ((⟨x.1,ar,y.1,P,0,0,[]⟩,false),y.2,T.length+1) ?_ ?_ ?_ ?_
    ·exact ⟨fun _=>rfl,rfl,rfl,by simp only;omega,by simp only;omega,fun p e=>by subst e;exact hk⟩
    ·simp only[go_sem,hb2,aG]
    ·exact aL
    ·clear hk hmx hlex hmq2 hleq2 hmq3 hleq3 hmy hley has hps;rintro ⟨⟨op,was⟩,q,f⟩ ⟨hst,ha1,ha2,hqb,hf,hk⟩;simp only at hst ha1 ha2 hqb hf hk;have hqle:=q.le
     replace hk:=hk _ rfl
     refine bV (V:=[0,2,3,4,5,16,23,87,107,118,128,140,150,158]) _ _ _ _ ?_;simp only[go_sem,hb2,aG];cases hg:kD q with
     | false =>
      rw[aBB _ _ _ _ _ hg] at hk;simp only[kD,Bool.or_eq_false_iff] at hg;obtain ⟨h1,h2,h3,h4⟩:=hg;refine Den.soft (b:=b2) (e:=73) (cs:=oQ op (.list none (ar.map .str)) (.list none (P.map Piece.enc))) bD (cs':=op.cs) ?_ ?_
      ·simp only[Opr.cs,ha1,ha2,oQ];exact ⟨⟨aK _,rfl⟩,⟨aK _,rfl⟩,⟨aK _,rfl⟩,⟨aK _,rfl⟩,⟨aK _,rfl⟩,⟨aK _,rfl⟩,⟨aCp _,rfl⟩,trivial⟩
      simp only[go_sem,hb2,aG,Opr.cs];refine fP (ln:=ln) (cl:=cl) (q:=q) (d:=aE d o) _ bD ?_;rw[h1];simp only[go_sem,hb2,aG];refine fP (ln:=ln) (cl:=cl) (q:=q) (d:=aE d o) _ bD ?_;rw[h2];simp only[go_sem,hb2,aG];refine fP (ln:=ln) (cl:=cl) (q:=q) (d:=aE d o) _ bD ?_;rw[h3];simp only[go_sem,hb2,aG];refine fP (ln:=ln) (cl:=cl) (q:=q) (d:=aE d o) _ bD ?_;rw[h4];subst hY;simp only[aB] at hb2;have hown:=hQ.own;have hfr:=hown.free;simp only[go_sem,hb2,aG,aB];(refine aP (OT.r 0 15) [] ?_;simp only[go_sem,hb2,aG,aB])
      (try simp only[go_sem,hb2,aG,aB])
      refine ⟨by decide,fun y hy=>by simp only[cE] at hy;subst hy;rfl,cW rfl rfl (by rw[aI];refine fV hown (k:=2) (o:=(o.op,d.sig.ops.length,73)) rfl ?_;exact fun _=>rfl) (fun y hy=>?_) (by simp only[aI,aF,aH];omega) (fun u hu=>?_)⟩
      ·simp only[bW] at hy;obtain ⟨q,_,rfl⟩:=hy;rfl
      have hown2:=fX hown (k:=2) (o:=(o.op,d.sig.ops.length,73)) rfl hu (fun _=>rfl) (d.sig.ops.length+1);simp only[go_sem,hb2,aG,aB];have hk2:=hk { o with op:=some u } (ItQ.set (k:=2) (a:=(some u,d.sig.ops.length+1,73)) hQ (by simp[aN]) hown2 (by simp only;omega) (by simp only;omega));refine aM hk2 (St.ge.trans (fW hown (k:=2) (o:=(o.op,d.sig.ops.length,73)) rfl hown2 (fun _=>rfl)) ?_);unfold dF;rw[show aN { d with sig:={ d.sig with ops:=d.sig.ops++[op] } } { o with op:=some u }=(aN d o).set 2 (some u,d.sig.ops.length+1,73) by simp[aN]];refine cR ?_;simp only[aE,cL,cM,bK,bQ,Opr.enc,Opr.cs];exact aL
     | true =>
      have hqo:q.ok=true:=by
       simp only[kD,mN] at hg;rcases hg with h|h|h|h<;>exact aI7 h
      have hlt:q.at_<T.length:=by
       simp only[kD,mN] at hg;rcases hg with h|h|h|h<;>exact lP h
      have ht:=RQ.get hlt;obtain ⟨f,rfl⟩:∃ f',f=f'+1:=⟨f-1,by omega⟩
      rw[aBu _ _ _ _ _ hg] at hk;unfold sZ at hk;simp only at hk;have honce:∀ was,(dI (aC ln cl) was q).at_=q.at_+1:=fun was=>aAh _ hlt
      refine fP (ln:=ln) (cl:=cl) (q:=q) (d:=aE d o) _ bD ?_;cases h1:aS 1 [112,114,101,99] q with
      | true =>
       have hx:=uI h1;have d1:decide (q.tok.text=[112,114,101,99])=true:=by rw[hx];rfl
       rw[if_pos hx] at hk;simp only[go_sem,hb2,aG,aB,hlt,ht];(refine aP (OT.r 0 11) [] ?_;simp only[go_sem,hb2,aG,aB,hlt,ht]);simp only[go_sem,hb2,aG,aB,hlt,ht,d1];refine qK (ln:=ln) (cl:=cl) (q:=q) (d:=aE d o) hT (!decide (op.prec=0)) hlt bD ?_;have ho:=honce (!decide (op.prec=0));generalize dI (aC ln cl) (!decide (op.prec=0)) q=q4 at hk ho ⊢;have hq4:=q4.le;simp only[go_sem,hb2,aG,aB,hlt,ht];(refine aA7 (ln:=ln) (cl:=cl) (q:=q4) (d:=aE d o) hT 20 bD ?_);have hmz:=nF (fin:=aC ln cl) 20 (q4);generalize gS (aC ln cl) 20 (q4)=z at hk hmz ⊢;have hlez:=z.2.le;simp only[go_sem,hb2,aG,aB,hlt,ht];refine ⟨(({ op with prec:=z.1 },was),z.2,f),⟨hst,ha1,ha2,by simp only;omega,by simp only;omega,fun p e=>by subst e;exact hk⟩,by simp only;omega,?_⟩;exact ⟨rfl,aL⟩
      | false =>
      have hx1:¬ q.tok.text=[112,114,101,99]:=fun e=>by
       have:aS 1 [112,114,101,99] q=true:=by
        simp only[kD,h1,eD,mN] at hg
        have hkd:q.tok.kind=1:=by
         rcases hg with h|h|h<;>(simp only[aS,bT,eC] at h;exact h.2.2.1)
        simp[aS,hqo,hlt,hkd,e]
       rw[h1] at this;cases this
      have d1:decide (q.tok.text=[112,114,101,99])=false:=by simpa using hx1
      rw[if_neg hx1] at hk;simp only[go_sem,hb2,aG,aB,hlt,ht];refine fP (ln:=ln) (cl:=cl) (q:=q) (d:=aE d o) _ bD ?_;cases h2:aS 1 [108,101,102,116] q with
      | true =>
       have hx:=uI h2;have d2:decide (q.tok.text=[108,101,102,116])=true:=by rw[hx];rfl
       rw[if_pos hx] at hk;simp only[go_sem,hb2,aG,aB,hlt,ht];(refine aP (OT.r 0 11) [] ?_;simp only[go_sem,hb2,aG,aB,hlt,ht]);simp only[go_sem,hb2,aG,aB,hlt,ht,d1,d2];refine qK (ln:=ln) (cl:=cl) (q:=q) (d:=aE d o) hT (!decide (op.assoc=0)) hlt bD ?_;have ho:=honce (!decide (op.assoc=0));generalize dI (aC ln cl) (!decide (op.assoc=0)) q=q4 at hk ho ⊢;have hq4:=q4.le;simp only[go_sem,hb2,aG,aB,hlt,ht];refine ⟨(({ op with assoc:=1 },was),q4,f),⟨hst,ha1,ha2,by simp only;omega,by simp only;omega,fun p e=>by subst e;exact hk⟩,by simp only;omega,?_⟩;exact ⟨rfl,aL⟩
      | false =>
      have hx2:¬ q.tok.text=[108,101,102,116]:=fun e=>by
       have:aS 1 [108,101,102,116] q=true:=by
        simp only[kD,h1,h2,eD,mN] at hg
        have hkd:q.tok.kind=1:=by
         rcases hg with h|h<;>(simp only[aS,bT,eC] at h;exact h.2.2.1)
        simp[aS,hqo,hlt,hkd,e]
       rw[h2] at this;cases this
      have d2:decide (q.tok.text=[108,101,102,116])=false:=by simpa using hx2
      rw[if_neg hx2] at hk;simp only[go_sem,hb2,aG,aB,hlt,ht];refine fP (ln:=ln) (cl:=cl) (q:=q) (d:=aE d o) _ bD ?_;cases h3:aS 1 [114,105,103,104,116] q with
      | true =>
       have hx:=uI h3;have d3:decide (q.tok.text=[114,105,103,104,116])=true:=by rw[hx];rfl
       rw[if_pos hx] at hk;simp only[go_sem,hb2,aG,aB,hlt,ht];(refine aP (OT.r 0 11) [] ?_;simp only[go_sem,hb2,aG,aB,hlt,ht]);simp only[go_sem,hb2,aG,aB,hlt,ht,d1,d2,d3];refine qK (ln:=ln) (cl:=cl) (q:=q) (d:=aE d o) hT (!decide (op.assoc=0)) hlt bD ?_;have ho:=honce (!decide (op.assoc=0));generalize dI (aC ln cl) (!decide (op.assoc=0)) q=q4 at hk ho ⊢;have hq4:=q4.le;simp only[go_sem,hb2,aG,aB,hlt,ht];refine ⟨(({ op with assoc:=2 },was),q4,f),⟨hst,ha1,ha2,by simp only;omega,by simp only;omega,fun p e=>by subst e;exact hk⟩,by simp only;omega,?_⟩;exact ⟨rfl,aL⟩
      | false =>
      have h4:aS 1 [115,116,114,105,99,116] q=true:=by simpa [kD,h1,h2,h3] using hg
      have hx4:=uI h4;have hx3:¬ q.tok.text=[114,105,103,104,116]:=by rw[hx4];decide
      have d3:decide (q.tok.text=[114,105,103,104,116])=false:=by simpa using hx3
      rw[if_neg hx3] at hk;simp only[go_sem,hb2,aG,aB,hlt,ht];refine fP (ln:=ln) (cl:=cl) (q:=q) (d:=aE d o) _ bD ?_;rw[h4];simp only[go_sem,hb2,aG,aB,hlt,ht];(refine aP (OT.r 0 11) [] ?_;simp only[go_sem,hb2,aG,aB,hlt,ht]);simp only[go_sem,hb2,aG,aB,hlt,ht,d1,d2,d3];refine qK (ln:=ln) (cl:=cl) (q:=q) (d:=aE d o) hT was hlt bD ?_;have ho:=honce was
      have hbad:op.strict≠[]→(aY (aC ln cl) 4 [40] (dI (aC ln cl) was q)).ok=false:=fun h=>by
       have:was=true:=by cases was;exact absurd (hst rfl) h;rfl
       rw[this];exact aH0 _ (aH1 _ hfin)
      generalize dI (aC ln cl) was q=q4 at hk ho hbad ⊢;have hq4:=q4.le;simp only[go_sem,hb2,aG,aB,hlt,ht];refine dZ (ln:=ln) (cl:=cl) (q:=q4) (d:=aE d o) hT _ bD ?_;have hm5:=dW (fin:=aC ln cl) 4 [40] q4;generalize aY (aC ln cl) 4 [40] q4=q5 at hk hbad hm5 ⊢;have hle5:=q5.le;simp only[go_sem,hb2,aG,aB,hlt,ht]
      refine Ex.loop (ι:=(List Int × Option Nat) × Bool × RQ T × Nat) (fun c=>[(0,.ptr r 0),(2,.ptr b2 0),(3,.bool false),(4,.bool true),(5,.bool c.2.1)])
       (fun c=>gs ((Y.setO b2 (.cells 73 [.str op.name,.list none (ar.map .str),.str op.sort,.list none (P.map Piece.enc),.int .i64 op.prec,.int .i64 op.assoc,sv c.1.2 (c.1.1.map (A.int .i64))])).setO r (aG ln cl c.2.2.1 (aE d o))) c.1.2 c.1.1.length 3)
       (fun c => (c.1.2 = none → c.2.2.1.ok = true → c.1.1 = []) ∧ (∀ t,c.1.2 = some t → Y.getT t = none ∧ c.1.1 ≠ []) ∧ q4.at_ ≤ c.2.2.1.at_ ∧ (c.2.2.1.ok = true → c.2.1 = true → c.1.1.length ≤ c.2.2.1.at_ ∧ T.length - c.2.2.1.at_ < c.2.2.2) ∧
        (∀ p,p=cK [44] (yD (aC ln cl)) c.2.2.2 c.2.1 c.1.1 c.2.2.1→zM KV ln cl r s d ((bR kD (sZ (aC ln cl)) f ({ op with strict:=p.1 },true) (aY (aC ln cl) 4 [41] p.2)).1.1,(bR kD (sZ (aC ln cl)) f ({ op with strict:=p.1 },true) (aY (aC ln cl) 4 [41] p.2)).2)))
       (fun c=>(T.length-c.2.2.1.at_) * 2+(if c.2.1=true then 1 else 0)) ((op.strict,none),true,q5,T.length+2) ?_ ?_ ?_ ?_
      ·exact ⟨fun _ h=>(by cases he:op.strict with|nil=>rfl|cons a l=>(have:=hbad (by rw[he];simp);simp only at h;rw[h] at this;cases this)),fun t e=>(by cases e),hm5,fun h1 h2=>⟨by
        cases he:op.strict with
        | nil=>simp
        | cons a l=>(have:=hbad (by rw[he];simp);simp only at h1;rw[h1] at this;cases this),by simp only;omega⟩,fun p e=>by subst e;exact hk⟩
      ·simp only[go_sem,hb2,aG,aB,hlt,ht]
      ·exact aL
      ·clear hk hbad;rintro ⟨⟨l,tk⟩,more,q6,f6⟩ ⟨hnil,hfree2,hq6,hf6,hk⟩;simp only at hnil hfree2 hq6 hf6 hk;have hfree:∀ t,tk=some t→Y.getT t=none:=fun t e=>(hfree2 t e).1
       have hle6:=q6.le
       replace hk:=hk _ rfl
       refine bV (V:=[0,2,3,4,5,16,23,87,107,118,128,140,150,158]) _ _ _ _ ?_;cases more with
       | false =>
        rw[pD] at hk;simp only at hk;simp only[go_sem,hb2,aG,aB,hlt,ht];refine Den.soft (b:=b2) (e:=73) (cs:=[.str op.name,.list none (ar.map .str),.str op.sort,.list none (P.map Piece.enc),.int .i64 op.prec,.int .i64 op.assoc,sv tk (l.map (A.int .i64))]) bD (cs':=[.str op.name,.list none (ar.map .str),.str op.sort,.list none (P.map Piece.enc),.int .i64 op.prec,.int .i64 op.assoc,nv (l.map (A.int .i64))]) ⟨⟨aK _,rfl⟩,⟨aK _,rfl⟩,⟨aK _,rfl⟩,⟨aK _,rfl⟩,⟨aK _,rfl⟩,⟨aK _,rfl⟩,⟨aCB _ _ (fun t e=>by have:=(hfree2 t e).2;simpa using this),aAI _⟩,trivial⟩ ?_;simp only[go_sem,hb2,aG,aB,hlt,ht];refine dE (qU (bA _) ?_) ?_
        ·exact hfree
        (refine dZ (ln:=ln) (cl:=cl) (q:=q6) (d:=aE d o) hT [41] bD ?_);have hmq7:=dW (fin:=aC ln cl) 4 [41] (q6);generalize aY (aC ln cl) 4 [41] (q6)=q7 at hk hmq7 ⊢;have hleq7:=q7.le;simp only[go_sem,hb2,aG,aB,hlt,ht];refine ⟨(({ op with strict:=l },true),q7,f),⟨fun e=>(by cases e),ha1,ha2,by simp only;omega,by simp only;omega,fun p e=>by subst e;exact hk⟩,by simp only;omega,?_⟩;exact ⟨rfl,aL⟩
       | true =>
        simp only[go_sem,hb2,aG,aB,hlt,ht];refine iJ (ln:=ln) (cl:=cl) (q:=q6) (d:=aE d o) bD ?_;cases ho6:q6.ok with
        | false =>
         rw[pB _ _ _ _ _ _ ho6] at hk;simp only at hk;simp only[go_sem,hb2,aG,aB,hlt,ht];refine Den.soft (b:=b2) (e:=73) (cs:=[.str op.name,.list none (ar.map .str),.str op.sort,.list none (P.map Piece.enc),.int .i64 op.prec,.int .i64 op.assoc,sv tk (l.map (A.int .i64))]) bD (cs':=[.str op.name,.list none (ar.map .str),.str op.sort,.list none (P.map Piece.enc),.int .i64 op.prec,.int .i64 op.assoc,nv (l.map (A.int .i64))]) ⟨⟨aK _,rfl⟩,⟨aK _,rfl⟩,⟨aK _,rfl⟩,⟨aK _,rfl⟩,⟨aK _,rfl⟩,⟨aK _,rfl⟩,⟨aCB _ _ (fun t e=>by have:=(hfree2 t e).2;simpa using this),aAI _⟩,trivial⟩ ?_;simp only[go_sem,hb2,aG,aB,hlt,ht];refine dE (qU (bA _) ?_) ?_
         ·exact hfree
         (refine dZ (ln:=ln) (cl:=cl) (q:=q6) (d:=aE d o) hT [41] bD ?_);have hmq7:=dW (fin:=aC ln cl) 4 [41] (q6);generalize aY (aC ln cl) 4 [41] (q6)=q7 at hk hmq7 ⊢;have hleq7:=q7.le;simp only[go_sem,hb2,aG,aB,hlt,ht];refine ⟨(({ op with strict:=l },true),q7,f),⟨fun e=>(by cases e),ha1,ha2,by simp only;omega,by simp only;omega,fun p e=>by subst e;exact hk⟩,by simp only;omega,?_⟩;exact ⟨rfl,aL⟩
        | true =>
         obtain ⟨hl2,hf6⟩:=hf6 ho6 rfl;have hnil2:tk=none→l=[]:=fun e=>hnil e ho6
         have hsv:sv tk (l.map (A.int .i64))=gv tk (l.map (A.int .i64)):=aJy (fun e=>by rw[hnil2 e];rfl);obtain ⟨f6,rfl⟩:∃ f',f6=f'+1:=⟨f6-1,by omega⟩
         rw[pF _ _ _ _ _ ho6] at hk;unfold yD at hk;simp only at hk;simp only[go_sem,hb2,aG,aB,hlt,ht];(refine aP (OT.r 0 8) [(3,[1])] ?_;simp only[go_sem,hb2,aG,aB,hlt,ht])
         (try simp only[go_sem,hb2,aG,aB,hlt,ht,hsv])
         (refine aA7 (ln:=ln) (cl:=cl) (q:=q6) (d:=aE d o) hT 8 bD ?_);have hmz:=nF (fin:=aC ln cl) 8 (q6);generalize gS (aC ln cl) 8 (q6)=z at hk hmz ⊢;have hlez:=z.2.le;simp only[go_sem,hb2,aG,aB,hlt,ht,hsv];refine ⟨by decide,fun y hy=>by simp only[cE] at hy;subst hy;rfl,cW rfl rfl (by rw[aI];exact fA fun e=>by rw[hnil2 e];rfl) (fun y hy=>?_) (by simp only[aI,aF,aH];omega) (fun u hu=>?_)⟩
         ·simp only[bW] at hy;obtain ⟨q,_,rfl⟩:=hy;rfl
         have hfu:=kC hu hfree;rw[gY hu];simp only[go_sem,hb2,aG,aB,hlt,ht];(refine nG (ln:=ln) (cl:=cl) (q:=z.2) (d:=aE d o) hT bD ?_);have hmc:=gF [44] (z.2);have hcc:=kV (x:=[44]) (q:=z.2);generalize dQ [44] (z.2)=c at hk hmc hcc ⊢;have hlec:=c.2.le;simp only[go_sem,hb2,aG,aB,hlt,ht];refine ⟨((l++[z.1],some u),c.1,c.2,f6),⟨fun e=>(by cases e),fun t e=>by cases e;exact ⟨hfu,by simp⟩,by simp only;omega,fun _ e=>⟨by have:=hcc e;simp only[aR,aF,aH];omega,by have:=hcc e;simp only;omega⟩,fun p' e=>by subst e;exact hk⟩,?_,?_⟩
         ·simp only;split
          ·rename_i e;have:=hcc e;omega
          ·omega
         ·simp only[sv,cM,bK,bQ,aR,aF,aH]
          first|exact aL|exact ⟨trivial,aL⟩
   ·refine Den.soft (b:=b2) (e:=73) (cs:=[.str x.1,gv ta (ar.map A.str),.str [],gv tp (ps.map Piece.enc),.int .i64 0,.int .i64 0,.nils]) bD (cs':=oQ ⟨x.1,ar,[],P,0,0,[]⟩ (.list none (ar.map .str)) (.list none (P.map Piece.enc))) ⟨⟨aK _,rfl⟩,⟨fN _ _ (fun e=>by rw[hnila e];rfl),rfl⟩,⟨aK _,rfl⟩,⟨by rw[hP];exact fN _ _ (fun e=>by rw[hnilp e];rfl),rfl⟩,⟨aK _,rfl⟩,⟨aK _,rfl⟩,⟨aK _,rfl⟩,trivial⟩ ?_;clear hP
    (try simp only[go_sem,hb2,aG])
    refine dE (hwk _ ?_) ?_
    ·exact fun _=>rfl
    clear hgp hga hwk hnila hnilp hfa hfp hfp1;(refine dZ (ln:=ln) (cl:=cl) (q:=q) (d:=aE d o) hT [45,62] bD ?_);have hmq3:=dW (fin:=aC ln cl) 4 [45,62] (q);generalize aY (aC ln cl) 4 [45,62] (q)=q3 at hk hmq3 ⊢;have hleq3:=q3.le;simp only[go_sem,hb2,aG];(refine iW (ln:=ln) (cl:=cl) (q:=q3) (d:=aE d o) hT bD ?_);have hmy:=gA (fin:=aC ln cl) (q3);generalize bB (aC ln cl) (q3)=y at hk hmy ⊢;have hley:=y.2.le;simp only[go_sem,hb2,aG];rw[aG6] at hk
    refine Ex.loop (ι:=(Opr × Bool) × RQ T × Nat) (fun c=>[(0,.ptr r 0),(2,.ptr b2 0),(3,.bool true),(4,.bool c.1.2)])
     (fun c=>(Y.setO b2 (.cells 73 (oQ c.1.1 (.list none (ar.map .str)) (.list none (P.map Piece.enc))))).setO r (aG ln cl c.2.1 (aE d o)))
     (fun c => (c.1.2 = false → c.1.1.strict = []) ∧ c.1.1.args = ar ∧ c.1.1.pieces = P ∧ q.at_ ≤ c.2.1.at_ ∧ T.length - c.2.1.at_ < c.2.2 ∧
      (∀ p,p=bR kD (sZ (aC ln cl)) c.2.2 c.1 c.2.1→zM KV ln cl r s d (p.1.1,p.2)))
     (fun c=>T.length-c.2.1.at_) ((⟨x.1,ar,y.1,P,0,0,[]⟩,false),y.2,T.length+1) ?_ ?_ ?_ ?_
    ·exact ⟨fun _=>rfl,rfl,rfl,by simp only;omega,by simp only;omega,fun p e=>by subst e;exact hk⟩
    ·simp only[go_sem,hb2,aG]
    ·exact aL
    ·clear hk hmx hlex hmq2 hleq2 hmq3 hleq3 hmy hley has hps;rintro ⟨⟨op,was⟩,q,f⟩ ⟨hst,ha1,ha2,hqb,hf,hk⟩;simp only at hst ha1 ha2 hqb hf hk;have hqle:=q.le
     replace hk:=hk _ rfl
     refine bV (V:=[0,2,3,4,5,16,23,87,107,118,128,140,150,158]) _ _ _ _ ?_;simp only[go_sem,hb2,aG];cases hg:kD q with
     | false =>
      rw[aBB _ _ _ _ _ hg] at hk;simp only[kD,Bool.or_eq_false_iff] at hg;obtain ⟨h1,h2,h3,h4⟩:=hg;refine Den.soft (b:=b2) (e:=73) (cs:=oQ op (.list none (ar.map .str)) (.list none (P.map Piece.enc))) bD (cs':=op.cs) ?_ ?_
      ·simp only[Opr.cs,ha1,ha2,oQ];exact ⟨⟨aK _,rfl⟩,⟨aK _,rfl⟩,⟨aK _,rfl⟩,⟨aK _,rfl⟩,⟨aK _,rfl⟩,⟨aK _,rfl⟩,⟨aCp _,rfl⟩,trivial⟩
      simp only[go_sem,hb2,aG,Opr.cs];refine fP (ln:=ln) (cl:=cl) (q:=q) (d:=aE d o) _ bD ?_;rw[h1];simp only[go_sem,hb2,aG];refine fP (ln:=ln) (cl:=cl) (q:=q) (d:=aE d o) _ bD ?_;rw[h2];simp only[go_sem,hb2,aG];refine fP (ln:=ln) (cl:=cl) (q:=q) (d:=aE d o) _ bD ?_;rw[h3];simp only[go_sem,hb2,aG];refine fP (ln:=ln) (cl:=cl) (q:=q) (d:=aE d o) _ bD ?_;rw[h4];subst hY;simp only[aB] at hb2;have hown:=hQ.own;have hfr:=hown.free;simp only[go_sem,hb2,aG,aB];(refine aP (OT.r 0 15) [] ?_;simp only[go_sem,hb2,aG,aB])
      (try simp only[go_sem,hb2,aG,aB])
      refine ⟨by decide,fun y hy=>by simp only[cE] at hy;subst hy;rfl,cW rfl rfl (by rw[aI];refine fV hown (k:=2) (o:=(o.op,d.sig.ops.length,73)) rfl ?_;exact fun _=>rfl) (fun y hy=>?_) (by simp only[aI,aF,aH];omega) (fun u hu=>?_)⟩
      ·simp only[bW] at hy;obtain ⟨q,_,rfl⟩:=hy;rfl
      have hown2:=fX hown (k:=2) (o:=(o.op,d.sig.ops.length,73)) rfl hu (fun _=>rfl) (d.sig.ops.length+1);simp only[go_sem,hb2,aG,aB];have hk2:=hk { o with op:=some u } (ItQ.set (k:=2) (a:=(some u,d.sig.ops.length+1,73)) hQ (by simp[aN]) hown2 (by simp only;omega) (by simp only;omega));refine aM hk2 (St.ge.trans (fW hown (k:=2) (o:=(o.op,d.sig.ops.length,73)) rfl hown2 (fun _=>rfl)) ?_);unfold dF;rw[show aN { d with sig:={ d.sig with ops:=d.sig.ops++[op] } } { o with op:=some u }=(aN d o).set 2 (some u,d.sig.ops.length+1,73) by simp[aN]];refine cR ?_;simp only[aE,cL,cM,bK,bQ,Opr.enc,Opr.cs];exact aL
     | true =>
      have hqo:q.ok=true:=by
       simp only[kD,mN] at hg;rcases hg with h|h|h|h<;>exact aI7 h
      have hlt:q.at_<T.length:=by
       simp only[kD,mN] at hg;rcases hg with h|h|h|h<;>exact lP h
      have ht:=RQ.get hlt;obtain ⟨f,rfl⟩:∃ f',f=f'+1:=⟨f-1,by omega⟩
      rw[aBu _ _ _ _ _ hg] at hk;unfold sZ at hk;simp only at hk;have honce:∀ was,(dI (aC ln cl) was q).at_=q.at_+1:=fun was=>aAh _ hlt
      refine fP (ln:=ln) (cl:=cl) (q:=q) (d:=aE d o) _ bD ?_;cases h1:aS 1 [112,114,101,99] q with
      | true =>
       have hx:=uI h1;have d1:decide (q.tok.text=[112,114,101,99])=true:=by rw[hx];rfl
       rw[if_pos hx] at hk;simp only[go_sem,hb2,aG,aB,hlt,ht];(refine aP (OT.r 0 11) [] ?_;simp only[go_sem,hb2,aG,aB,hlt,ht]);simp only[go_sem,hb2,aG,aB,hlt,ht,d1];refine qK (ln:=ln) (cl:=cl) (q:=q) (d:=aE d o) hT (!decide (op.prec=0)) hlt bD ?_;have ho:=honce (!decide (op.prec=0));generalize dI (aC ln cl) (!decide (op.prec=0)) q=q4 at hk ho ⊢;have hq4:=q4.le;simp only[go_sem,hb2,aG,aB,hlt,ht];(refine aA7 (ln:=ln) (cl:=cl) (q:=q4) (d:=aE d o) hT 20 bD ?_);have hmz:=nF (fin:=aC ln cl) 20 (q4);generalize gS (aC ln cl) 20 (q4)=z at hk hmz ⊢;have hlez:=z.2.le;simp only[go_sem,hb2,aG,aB,hlt,ht];refine ⟨(({ op with prec:=z.1 },was),z.2,f),⟨hst,ha1,ha2,by simp only;omega,by simp only;omega,fun p e=>by subst e;exact hk⟩,by simp only;omega,?_⟩;exact ⟨rfl,aL⟩
      | false =>
      have hx1:¬ q.tok.text=[112,114,101,99]:=fun e=>by
       have:aS 1 [112,114,101,99] q=true:=by
        simp only[kD,h1,eD,mN] at hg
        have hkd:q.tok.kind=1:=by
         rcases hg with h|h|h<;>(simp only[aS,bT,eC] at h;exact h.2.2.1)
        simp[aS,hqo,hlt,hkd,e]
       rw[h1] at this;cases this
      have d1:decide (q.tok.text=[112,114,101,99])=false:=by simpa using hx1
      rw[if_neg hx1] at hk;simp only[go_sem,hb2,aG,aB,hlt,ht];refine fP (ln:=ln) (cl:=cl) (q:=q) (d:=aE d o) _ bD ?_;cases h2:aS 1 [108,101,102,116] q with
      | true =>
       have hx:=uI h2;have d2:decide (q.tok.text=[108,101,102,116])=true:=by rw[hx];rfl
       rw[if_pos hx] at hk;simp only[go_sem,hb2,aG,aB,hlt,ht];(refine aP (OT.r 0 11) [] ?_;simp only[go_sem,hb2,aG,aB,hlt,ht]);simp only[go_sem,hb2,aG,aB,hlt,ht,d1,d2];refine qK (ln:=ln) (cl:=cl) (q:=q) (d:=aE d o) hT (!decide (op.assoc=0)) hlt bD ?_;have ho:=honce (!decide (op.assoc=0));generalize dI (aC ln cl) (!decide (op.assoc=0)) q=q4 at hk ho ⊢;have hq4:=q4.le;simp only[go_sem,hb2,aG,aB,hlt,ht];refine ⟨(({ op with assoc:=1 },was),q4,f),⟨hst,ha1,ha2,by simp only;omega,by simp only;omega,fun p e=>by subst e;exact hk⟩,by simp only;omega,?_⟩;exact ⟨rfl,aL⟩
      | false =>
      have hx2:¬ q.tok.text=[108,101,102,116]:=fun e=>by
       have:aS 1 [108,101,102,116] q=true:=by
        simp only[kD,h1,h2,eD,mN] at hg
        have hkd:q.tok.kind=1:=by
         rcases hg with h|h<;>(simp only[aS,bT,eC] at h;exact h.2.2.1)
        simp[aS,hqo,hlt,hkd,e]
       rw[h2] at this;cases this
      have d2:decide (q.tok.text=[108,101,102,116])=false:=by simpa using hx2
      rw[if_neg hx2] at hk;simp only[go_sem,hb2,aG,aB,hlt,ht];refine fP (ln:=ln) (cl:=cl) (q:=q) (d:=aE d o) _ bD ?_;cases h3:aS 1 [114,105,103,104,116] q with
      | true =>
       have hx:=uI h3;have d3:decide (q.tok.text=[114,105,103,104,116])=true:=by rw[hx];rfl
       rw[if_pos hx] at hk;simp only[go_sem,hb2,aG,aB,hlt,ht];(refine aP (OT.r 0 11) [] ?_;simp only[go_sem,hb2,aG,aB,hlt,ht]);simp only[go_sem,hb2,aG,aB,hlt,ht,d1,d2,d3];refine qK (ln:=ln) (cl:=cl) (q:=q) (d:=aE d o) hT (!decide (op.assoc=0)) hlt bD ?_;have ho:=honce (!decide (op.assoc=0));generalize dI (aC ln cl) (!decide (op.assoc=0)) q=q4 at hk ho ⊢;have hq4:=q4.le;simp only[go_sem,hb2,aG,aB,hlt,ht];refine ⟨(({ op with assoc:=2 },was),q4,f),⟨hst,ha1,ha2,by simp only;omega,by simp only;omega,fun p e=>by subst e;exact hk⟩,by simp only;omega,?_⟩;exact ⟨rfl,aL⟩
      | false =>
      have h4:aS 1 [115,116,114,105,99,116] q=true:=by simpa [kD,h1,h2,h3] using hg
      have hx4:=uI h4;have hx3:¬ q.tok.text=[114,105,103,104,116]:=by rw[hx4];decide
      have d3:decide (q.tok.text=[114,105,103,104,116])=false:=by simpa using hx3
      rw[if_neg hx3] at hk;simp only[go_sem,hb2,aG,aB,hlt,ht];refine fP (ln:=ln) (cl:=cl) (q:=q) (d:=aE d o) _ bD ?_;rw[h4];simp only[go_sem,hb2,aG,aB,hlt,ht];(refine aP (OT.r 0 11) [] ?_;simp only[go_sem,hb2,aG,aB,hlt,ht]);simp only[go_sem,hb2,aG,aB,hlt,ht,d1,d2,d3];refine qK (ln:=ln) (cl:=cl) (q:=q) (d:=aE d o) hT was hlt bD ?_;have ho:=honce was
      have hbad:op.strict≠[]→(aY (aC ln cl) 4 [40] (dI (aC ln cl) was q)).ok=false:=fun h=>by
       have:was=true:=by cases was;exact absurd (hst rfl) h;rfl
       rw[this];exact aH0 _ (aH1 _ hfin)
      generalize dI (aC ln cl) was q=q4 at hk ho hbad ⊢;have hq4:=q4.le;simp only[go_sem,hb2,aG,aB,hlt,ht];refine dZ (ln:=ln) (cl:=cl) (q:=q4) (d:=aE d o) hT _ bD ?_;have hm5:=dW (fin:=aC ln cl) 4 [40] q4;generalize aY (aC ln cl) 4 [40] q4=q5 at hk hbad hm5 ⊢;have hle5:=q5.le;simp only[go_sem,hb2,aG,aB,hlt,ht]
      refine Ex.loop (ι:=(List Int × Option Nat) × Bool × RQ T × Nat) (fun c=>[(0,.ptr r 0),(2,.ptr b2 0),(3,.bool true),(4,.bool true),(5,.bool c.2.1)])
       (fun c=>gs ((Y.setO b2 (.cells 73 [.str op.name,.list none (ar.map .str),.str op.sort,.list none (P.map Piece.enc),.int .i64 op.prec,.int .i64 op.assoc,sv c.1.2 (c.1.1.map (A.int .i64))])).setO r (aG ln cl c.2.2.1 (aE d o))) c.1.2 c.1.1.length 3)
       (fun c => (c.1.2 = none → c.2.2.1.ok = true → c.1.1 = []) ∧ (∀ t,c.1.2 = some t → Y.getT t = none ∧ c.1.1 ≠ []) ∧ q4.at_ ≤ c.2.2.1.at_ ∧ (c.2.2.1.ok = true → c.2.1 = true → c.1.1.length ≤ c.2.2.1.at_ ∧ T.length - c.2.2.1.at_ < c.2.2.2) ∧
        (∀ p,p=cK [44] (yD (aC ln cl)) c.2.2.2 c.2.1 c.1.1 c.2.2.1→zM KV ln cl r s d ((bR kD (sZ (aC ln cl)) f ({ op with strict:=p.1 },true) (aY (aC ln cl) 4 [41] p.2)).1.1,(bR kD (sZ (aC ln cl)) f ({ op with strict:=p.1 },true) (aY (aC ln cl) 4 [41] p.2)).2)))
       (fun c=>(T.length-c.2.2.1.at_) * 2+(if c.2.1=true then 1 else 0)) ((op.strict,none),true,q5,T.length+2) ?_ ?_ ?_ ?_
      ·exact ⟨fun _ h=>(by cases he:op.strict with|nil=>rfl|cons a l=>(have:=hbad (by rw[he];simp);simp only at h;rw[h] at this;cases this)),fun t e=>(by cases e),hm5,fun h1 h2=>⟨by
        cases he:op.strict with
        | nil=>simp
        | cons a l=>(have:=hbad (by rw[he];simp);simp only at h1;rw[h1] at this;cases this),by simp only;omega⟩,fun p e=>by subst e;exact hk⟩
      ·simp only[go_sem,hb2,aG,aB,hlt,ht]
      ·exact aL
      ·clear hk hbad;rintro ⟨⟨l,tk⟩,more,q6,f6⟩ ⟨hnil,hfree2,hq6,hf6,hk⟩;simp only at hnil hfree2 hq6 hf6 hk;have hfree:∀ t,tk=some t→Y.getT t=none:=fun t e=>(hfree2 t e).1
       have hle6:=q6.le
       replace hk:=hk _ rfl
       refine bV (V:=[0,2,3,4,5,16,23,87,107,118,128,140,150,158]) _ _ _ _ ?_;cases more with
       | false =>
        rw[pD] at hk;simp only at hk;simp only[go_sem,hb2,aG,aB,hlt,ht];refine Den.soft (b:=b2) (e:=73) (cs:=[.str op.name,.list none (ar.map .str),.str op.sort,.list none (P.map Piece.enc),.int .i64 op.prec,.int .i64 op.assoc,sv tk (l.map (A.int .i64))]) bD (cs':=[.str op.name,.list none (ar.map .str),.str op.sort,.list none (P.map Piece.enc),.int .i64 op.prec,.int .i64 op.assoc,nv (l.map (A.int .i64))]) ⟨⟨aK _,rfl⟩,⟨aK _,rfl⟩,⟨aK _,rfl⟩,⟨aK _,rfl⟩,⟨aK _,rfl⟩,⟨aK _,rfl⟩,⟨aCB _ _ (fun t e=>by have:=(hfree2 t e).2;simpa using this),aAI _⟩,trivial⟩ ?_;simp only[go_sem,hb2,aG,aB,hlt,ht];refine dE (qU (bA _) ?_) ?_
        ·exact hfree
        (refine dZ (ln:=ln) (cl:=cl) (q:=q6) (d:=aE d o) hT [41] bD ?_);have hmq7:=dW (fin:=aC ln cl) 4 [41] (q6);generalize aY (aC ln cl) 4 [41] (q6)=q7 at hk hmq7 ⊢;have hleq7:=q7.le;simp only[go_sem,hb2,aG,aB,hlt,ht];refine ⟨(({ op with strict:=l },true),q7,f),⟨fun e=>(by cases e),ha1,ha2,by simp only;omega,by simp only;omega,fun p e=>by subst e;exact hk⟩,by simp only;omega,?_⟩;exact ⟨rfl,aL⟩
       | true =>
        simp only[go_sem,hb2,aG,aB,hlt,ht];refine iJ (ln:=ln) (cl:=cl) (q:=q6) (d:=aE d o) bD ?_;cases ho6:q6.ok with
        | false =>
         rw[pB _ _ _ _ _ _ ho6] at hk;simp only at hk;simp only[go_sem,hb2,aG,aB,hlt,ht];refine Den.soft (b:=b2) (e:=73) (cs:=[.str op.name,.list none (ar.map .str),.str op.sort,.list none (P.map Piece.enc),.int .i64 op.prec,.int .i64 op.assoc,sv tk (l.map (A.int .i64))]) bD (cs':=[.str op.name,.list none (ar.map .str),.str op.sort,.list none (P.map Piece.enc),.int .i64 op.prec,.int .i64 op.assoc,nv (l.map (A.int .i64))]) ⟨⟨aK _,rfl⟩,⟨aK _,rfl⟩,⟨aK _,rfl⟩,⟨aK _,rfl⟩,⟨aK _,rfl⟩,⟨aK _,rfl⟩,⟨aCB _ _ (fun t e=>by have:=(hfree2 t e).2;simpa using this),aAI _⟩,trivial⟩ ?_;simp only[go_sem,hb2,aG,aB,hlt,ht];refine dE (qU (bA _) ?_) ?_
         ·exact hfree
         (refine dZ (ln:=ln) (cl:=cl) (q:=q6) (d:=aE d o) hT [41] bD ?_);have hmq7:=dW (fin:=aC ln cl) 4 [41] (q6);generalize aY (aC ln cl) 4 [41] (q6)=q7 at hk hmq7 ⊢;have hleq7:=q7.le;simp only[go_sem,hb2,aG,aB,hlt,ht];refine ⟨(({ op with strict:=l },true),q7,f),⟨fun e=>(by cases e),ha1,ha2,by simp only;omega,by simp only;omega,fun p e=>by subst e;exact hk⟩,by simp only;omega,?_⟩;exact ⟨rfl,aL⟩
        | true =>
         obtain ⟨hl2,hf6⟩:=hf6 ho6 rfl;have hnil2:tk=none→l=[]:=fun e=>hnil e ho6
         have hsv:sv tk (l.map (A.int .i64))=gv tk (l.map (A.int .i64)):=aJy (fun e=>by rw[hnil2 e];rfl);obtain ⟨f6,rfl⟩:∃ f',f6=f'+1:=⟨f6-1,by omega⟩
         rw[pF _ _ _ _ _ ho6] at hk;unfold yD at hk;simp only at hk;simp only[go_sem,hb2,aG,aB,hlt,ht];(refine aP (OT.r 0 8) [(3,[1])] ?_;simp only[go_sem,hb2,aG,aB,hlt,ht])
         (try simp only[go_sem,hb2,aG,aB,hlt,ht,hsv])
         (refine aA7 (ln:=ln) (cl:=cl) (q:=q6) (d:=aE d o) hT 8 bD ?_);have hmz:=nF (fin:=aC ln cl) 8 (q6);generalize gS (aC ln cl) 8 (q6)=z at hk hmz ⊢;have hlez:=z.2.le;simp only[go_sem,hb2,aG,aB,hlt,ht,hsv];refine ⟨by decide,fun y hy=>by simp only[cE] at hy;subst hy;rfl,cW rfl rfl (by rw[aI];exact fA fun e=>by rw[hnil2 e];rfl) (fun y hy=>?_) (by simp only[aI,aF,aH];omega) (fun u hu=>?_)⟩
         ·simp only[bW] at hy;obtain ⟨q,_,rfl⟩:=hy;rfl
         have hfu:=kC hu hfree;rw[gY hu];simp only[go_sem,hb2,aG,aB,hlt,ht];(refine nG (ln:=ln) (cl:=cl) (q:=z.2) (d:=aE d o) hT bD ?_);have hmc:=gF [44] (z.2);have hcc:=kV (x:=[44]) (q:=z.2);generalize dQ [44] (z.2)=c at hk hmc hcc ⊢;have hlec:=c.2.le;simp only[go_sem,hb2,aG,aB,hlt,ht];refine ⟨((l++[z.1],some u),c.1,c.2,f6),⟨fun e=>(by cases e),fun t e=>by cases e;exact ⟨hfu,by simp⟩,by simp only;omega,fun _ e=>⟨by have:=hcc e;simp only[aR,aF,aH];omega,by have:=hcc e;simp only;omega⟩,fun p' e=>by subst e;exact hk⟩,?_,?_⟩
         ·simp only;split
          ·rename_i e;have:=hcc e;omega
          ·omega
         ·simp only[sv,cM,bK,bQ,aR,aF,aH]
          first|exact aL|exact ⟨trivial,aL⟩
  | true =>
   have hlt:q.at_<T.length:=by
    simp only[vS,mN] at hg;rcases hg with h|h
    ·exact aAf h
    ·exact aEG h
   have ht:=RQ.get hlt;obtain ⟨f,rfl⟩:∃ f',f=f'+1:=⟨f-1,by omega⟩
   rw[aBu _ _ _ _ _ hg] at hk;unfold aEM at hk;simp only at hk;have go:∀ KV':St→A→Prop,∀ s',s'.getO r=some (aG ln cl q (aE d o))→KV' s' (.bool (fS 3 q))→(cN q=false→Den cx 229 [.ptr r 0,.int .i64 3] KV' (DK Kp) s'):=fun KV' s' hr' hk' hn'=>sQ (ln:=ln) (cl:=cl) (q:=q) (d:=aE d o) 3 hr' hk'
   have hm1:(bG (aC ln cl) ps.length 20 q).at_=q.at_:=iB _ _ _;have hm2:(bG (aC ln cl) ar.length 8 (bG (aC ln cl) ps.length 20 q)).at_=q.at_:=by rw[iB,hm1]
   cases hn:cN q
   ·have hk3:fS 3 q=true:=by simpa [vS,hn] using hg
    simp only[go_sem,hb2,hlt,ht,aG];refine sQ (ln:=ln) (cl:=cl) (q:=q) (d:=aE d o) 3 bD ?_;rw[hk3];simp only[go_sem,hb2,hlt,ht,aG,gV hgp];refine lX (ln:=ln) (cl:=cl) (q:=q) (d:=aE d o) hT ps.length 20 bD ?_;simp only[go_sem,hb2,hlt,ht,aG];generalize bG (aC ln cl) ps.length 20 q=q3 at hk hm1 hm2 ⊢;have hlt3:q3.at_<T.length:=by rw[hm1];exact hlt
    have ht3:=RQ.get hlt3;refine sQ (ln:=ln) (cl:=cl) (q:=q3) (d:=aE d o) 3 bD ?_;cases h3:fS 3 q3 with
    | true =>
     rw[h3,if_pos rfl] at hk;simp only[go_sem,hb2,hlt,ht,aG];(refine aP (OT.r 0 18) [] ?_;simp only[go_sem,hb2,hlt,ht,aG,hlt3,ht3]);refine ⟨by decide,fun y hy=>by simp only[cE] at hy;subst hy;rfl,cW rfl rfl (by rw[aI];exact fA fun e=>by rw[hnilp e];rfl) (fun y hy=>?_) (by simp only[aI,aF,aH];omega) (fun u hu=>?_)⟩
     ·simp only[bW] at hy;obtain ⟨q,_,rfl⟩:=hy;rfl
     have hfu:Y.getT u=none∧ta≠some u:=by
      rcases hu with e|⟨e,hu⟩
      ·exact hfp u e
      ·rw[e] at hu;have hu:(gs (gs _ ta _ _) none _ _).getT u=none:=hu;rw[eZ,if_neg (by simp),eZ] at hu;split at hu
       ·cases hu
       ·rename_i e2;exact ⟨hu,e2⟩
     have hnu:=hfu.2;rw[gY hu];have hia:=RQ.inc_at hlt3;simp only[go_sem,hb2,hlt,ht,aG,bP q3.at_ (by omega)];refine ⟨((ta,some u),(ps++[⟨q3.tok.text,[]⟩],ar,true),q3.inc,f),⟨hnila,fun e=>(by cases e),hfa,fun t' e=>by cases e;exact hfu,by simp only;omega,by simp only;omega,by simp only[aR,aF,aH];omega,by simp only;omega,fun p e=>by subst e;exact hk⟩,by simp only;omega,?_⟩;simp only[cL,cM,bK,bQ,aR,aF,aH,aI];simp only[go_sem,hb2,hlt,ht,aG,hia]
     first|exact ⟨trivial,aL⟩|exact ⟨rfl,aL⟩|exact aL
    | false =>
     rw[h3,if_neg (by simp)] at hk;simp only[go_sem,hb2,hlt,ht,aG,gV hga];refine lX (ln:=ln) (cl:=cl) (q:=q3) (d:=aE d o) hT ar.length 8 bD ?_;simp only[go_sem,hb2,hlt,ht,aG];generalize bG (aC ln cl) ar.length 8 q3=q4 at hk hm2 ⊢;have hlt4:q4.at_<T.length:=by rw[hm2];exact hlt
     have ht4:=RQ.get hlt4;have hia:=RQ.inc_at hlt4;(refine aP (OT.r 0 18) [] ?_;simp only[go_sem,hb2,hlt,ht,aG,hlt4,ht4]);refine ⟨by decide,fun y hy=>by simp only[cE] at hy;subst hy;rfl,cW rfl rfl (by rw[aI];exact fA fun e=>by rw[hnilp e];rfl) (fun y hy=>?_) (by simp only[aI,aF,aH];omega) (fun u hu=>?_)⟩
     ·simp only[bW] at hy;obtain ⟨q,_,rfl⟩:=hy;rfl
     have hfu:Y.getT u=none∧ta≠some u:=by
      rcases hu with e|⟨e,hu⟩
      ·exact hfp u e
      ·rw[e] at hu;have hu:(gs (gs _ ta _ _) none _ _).getT u=none:=hu;rw[eZ,if_neg (by simp),eZ] at hu;split at hu
       ·cases hu
       ·rename_i e2;exact ⟨hu,e2⟩
     have hnu:=hfu.2;rw[gY hu];simp only[go_sem,hb2,hlt,ht,aG];(refine aP (OT.r 0 17) [] ?_;simp only[go_sem,hb2,hlt,ht,aG,hlt4,ht4]);refine ⟨by decide,fun y hy=>by simp only[cE] at hy;subst hy;rfl,cW rfl rfl ?_ (fun y hy=>?_) (by simp only[aI,aF,aH];omega) (fun v hv=>?_)⟩
     ·rw[aI];cases ta with
      | none=>rw[hnila rfl];rfl
      | some t =>
       show St.getT _ t=_;rw[cO,if_neg (fun e=>hnu (by rw[e])),eZ,if_pos rfl]
     ·simp only[bW] at hy;obtain ⟨q,_,rfl⟩:=hy;rfl
     have hfv:Y.getT v=none∧¬ v=u:=by
      rcases hv with e|⟨e,hv⟩
      ·exact ⟨hfa v e,fun e2=>hnu (by rw[e,e2])⟩
      ·subst e;rw[cO] at hv;split at hv
       ·cases hv
       ·rename_i e2;exact ⟨hv,fun e3=>e2 e3.symm⟩
     simp only[go_sem,hb2,hlt,ht,aG,bP q4.at_ (by omega)];refine ⟨((some v,some u),(ps++[⟨[],q4.tok.text⟩],ar++[q4.tok.text],tx),q4.inc,f),⟨fun e=>(by cases e),fun e=>(by cases e),fun t' e=>by cases e;exact hfv.1,fun t' e=>by cases e;exact ⟨hfu.1,fun e=>hfv.2 (by cases e;rfl)⟩,by simp only;omega,by simp only[aR,aF,aH];omega,by simp only[aR,aF,aH];omega,by simp only;omega,fun p e=>by subst e;exact hk⟩,by simp only;omega,?_⟩;simp only[cL,cM,bK,bQ,aR,aF,aH,aI];have hvu:=hfv.2;simp only[go_sem,hb2,hlt,ht,aG,hia];refine mT (uE ?_ (uE ?_ kQ))
     ·rintro _ ⟨⟩;simp only[cO,hvu,if_false,reduceIte,gU]
     ·rintro _ ⟨⟩;simp only[cO,reduceIte,gU]
   ·simp only[go_sem,hb2,hlt,ht,aG];simp only[go_sem,hb2,hlt,ht,aG,gV hgp];refine lX (ln:=ln) (cl:=cl) (q:=q) (d:=aE d o) hT ps.length 20 bD ?_;simp only[go_sem,hb2,hlt,ht,aG];generalize bG (aC ln cl) ps.length 20 q=q3 at hk hm1 hm2 ⊢;have hlt3:q3.at_<T.length:=by rw[hm1];exact hlt
    have ht3:=RQ.get hlt3;refine sQ (ln:=ln) (cl:=cl) (q:=q3) (d:=aE d o) 3 bD ?_;cases h3:fS 3 q3 with
    | true =>
     rw[h3,if_pos rfl] at hk;simp only[go_sem,hb2,hlt,ht,aG];(refine aP (OT.r 0 18) [] ?_;simp only[go_sem,hb2,hlt,ht,aG,hlt3,ht3]);refine ⟨by decide,fun y hy=>by simp only[cE] at hy;subst hy;rfl,cW rfl rfl (by rw[aI];exact fA fun e=>by rw[hnilp e];rfl) (fun y hy=>?_) (by simp only[aI,aF,aH];omega) (fun u hu=>?_)⟩
     ·simp only[bW] at hy;obtain ⟨q,_,rfl⟩:=hy;rfl
     have hfu:Y.getT u=none∧ta≠some u:=by
      rcases hu with e|⟨e,hu⟩
      ·exact hfp u e
      ·rw[e] at hu;have hu:(gs (gs _ ta _ _) none _ _).getT u=none:=hu;rw[eZ,if_neg (by simp),eZ] at hu;split at hu
       ·cases hu
       ·rename_i e2;exact ⟨hu,e2⟩
     have hnu:=hfu.2;rw[gY hu];have hia:=RQ.inc_at hlt3;simp only[go_sem,hb2,hlt,ht,aG,bP q3.at_ (by omega)];refine ⟨((ta,some u),(ps++[⟨q3.tok.text,[]⟩],ar,true),q3.inc,f),⟨hnila,fun e=>(by cases e),hfa,fun t' e=>by cases e;exact hfu,by simp only;omega,by simp only;omega,by simp only[aR,aF,aH];omega,by simp only;omega,fun p e=>by subst e;exact hk⟩,by simp only;omega,?_⟩;simp only[cL,cM,bK,bQ,aR,aF,aH,aI];simp only[go_sem,hb2,hlt,ht,aG,hia]
     first|exact ⟨trivial,aL⟩|exact ⟨rfl,aL⟩|exact aL
    | false =>
     rw[h3,if_neg (by simp)] at hk;simp only[go_sem,hb2,hlt,ht,aG,gV hga];refine lX (ln:=ln) (cl:=cl) (q:=q3) (d:=aE d o) hT ar.length 8 bD ?_;simp only[go_sem,hb2,hlt,ht,aG];generalize bG (aC ln cl) ar.length 8 q3=q4 at hk hm2 ⊢;have hlt4:q4.at_<T.length:=by rw[hm2];exact hlt
     have ht4:=RQ.get hlt4;have hia:=RQ.inc_at hlt4;(refine aP (OT.r 0 18) [] ?_;simp only[go_sem,hb2,hlt,ht,aG,hlt4,ht4]);refine ⟨by decide,fun y hy=>by simp only[cE] at hy;subst hy;rfl,cW rfl rfl (by rw[aI];exact fA fun e=>by rw[hnilp e];rfl) (fun y hy=>?_) (by simp only[aI,aF,aH];omega) (fun u hu=>?_)⟩
     ·simp only[bW] at hy;obtain ⟨q,_,rfl⟩:=hy;rfl
     have hfu:Y.getT u=none∧ta≠some u:=by
      rcases hu with e|⟨e,hu⟩
      ·exact hfp u e
      ·rw[e] at hu;have hu:(gs (gs _ ta _ _) none _ _).getT u=none:=hu;rw[eZ,if_neg (by simp),eZ] at hu;split at hu
       ·cases hu
       ·rename_i e2;exact ⟨hu,e2⟩
     have hnu:=hfu.2;rw[gY hu];simp only[go_sem,hb2,hlt,ht,aG];(refine aP (OT.r 0 17) [] ?_;simp only[go_sem,hb2,hlt,ht,aG,hlt4,ht4]);refine ⟨by decide,fun y hy=>by simp only[cE] at hy;subst hy;rfl,cW rfl rfl ?_ (fun y hy=>?_) (by simp only[aI,aF,aH];omega) (fun v hv=>?_)⟩
     ·rw[aI];cases ta with
      | none=>rw[hnila rfl];rfl
      | some t =>
       show St.getT _ t=_;rw[cO,if_neg (fun e=>hnu (by rw[e])),eZ,if_pos rfl]
     ·simp only[bW] at hy;obtain ⟨q,_,rfl⟩:=hy;rfl
     have hfv:Y.getT v=none∧¬ v=u:=by
      rcases hv with e|⟨e,hv⟩
      ·exact ⟨hfa v e,fun e2=>hnu (by rw[e,e2])⟩
      ·subst e;rw[cO] at hv;split at hv
       ·cases hv
       ·rename_i e2;exact ⟨hv,fun e3=>e2 e3.symm⟩
     simp only[go_sem,hb2,hlt,ht,aG,bP q4.at_ (by omega)];refine ⟨((some v,some u),(ps++[⟨[],q4.tok.text⟩],ar++[q4.tok.text],tx),q4.inc,f),⟨fun e=>(by cases e),fun e=>(by cases e),fun t' e=>by cases e;exact hfv.1,fun t' e=>by cases e;exact ⟨hfu.1,fun e=>hfv.2 (by cases e;rfl)⟩,by simp only;omega,by simp only[aR,aF,aH];omega,by simp only[aR,aF,aH];omega,by simp only;omega,fun p e=>by subst e;exact hk⟩,by simp only;omega,?_⟩;simp only[cL,cM,bK,bQ,aR,aF,aH,aI];have hvu:=hfv.2;simp only[go_sem,hb2,hlt,ht,aG,hia];refine mT (uE ?_ (uE ?_ kQ))
     ·rintro _ ⟨⟩;simp only[cO,hvu,if_false,reduceIte,gU]
     ·rintro _ ⟨⟩;simp only[cO,reduceIte,gU]
end
end
end Go.AV
