/-
  Of DefParses.
-/
import Derived.Test.YtamikhobdffnfaaGreatDoorPa22
set_option linter.all false
set_option maxRecDepth 99999
set_option maxHeartbeats 0
namespace Go.AV
open Go Go.Proofs Tryz
section
section
variable {T:List Tok} {fin:Fault} {α β σ:Type}
structure At (q:RQ T) (fi:Nat) (w:List Tok) (n:Nat):Prop where
 ok:q.ok=true
 dr:T.drop q.at_=w
 nodes:q.nodes=n
 fst:q.first=fi
 ov:q.over=false
 le:n≤2000
def SimR (fi:Nat):Rd α→α × RQ T→Prop
 | .ok a w n,p=>p.1=a∧At p.2 fi w n
 | .bad f,p=>p.2.f=f∧p.2.ok=false
def Stick (F:RQ T→α × RQ T):Prop:=∀ q,q.ok=false→(F q).2.f=q.f
theorem nK {q q':RQ T} (h:q.f=q'.f):q.ok=q'.ok:=by unfold RQ.ok;rw[h]
theorem SimR.bind {fi:Nat} {r:Rd α} {p:α × RQ T} {k:α→List Tok→Nat→Rd β} {K:α→RQ T→β × RQ T} (h:SimR fi r p) (hs:Stick (K p.1))
  (hk:∀ w n,r=.ok p.1 w n→At p.2 fi w n→SimR fi (k p.1 w n) (K p.1 p.2)):SimR fi (r.bind k) (K p.1 p.2):=by
 cases r with
 | bad f =>
  have e:=hs p.2 h.2;exact ⟨e.trans h.1,by rw[nK e];exact h.2⟩
 | ok a w n =>
  obtain ⟨rfl,h2⟩:=h;exact hk w n rfl h2
theorem sV {q:RQ T} (code:Int) (p:Nat) (b:Bool) (h:q.ok=false):cJ fin code p b q=q:=by unfold cJ;rw[h];rfl
theorem oC {q:RQ T} (k:Int) (x:aD) (h:q.ok=false):aS k x q=false:=by unfold aS;rw[h];rfl
theorem aBG {q:RQ T} (k:Int) (h:q.ok=false):fS k q=false:=by unfold fS;rw[h];rfl
theorem aBn {q:RQ T} (h:q.ok=false):cN q=false:=by unfold cN;rw[h];rfl
theorem aGn {q:RQ T} (h:q.ok=false):iL q=false:=by unfold iL;simp only[aBG _ h,aBn h,oC _ _ h,Bool.or_self]
theorem xN {q:RQ T} (k:Int) (x:aD) (h:q.ok=false):aY fin k x q=q:=by unfold aY;rw[oC _ _ h];exact sV _ _ _ h
theorem aHD {q:RQ T} (h:q.ok=false):bB fin q=([],q):=by unfold bB;rw[aBn h];rw[if_neg (by decide),sV _ _ _ h]
theorem aGY {q:RQ T} (d p:Nat) (h:q.ok=false):(iE fin d p q).f=q.f:=by
 unfold iE;simp only;have:({ q with nodes:=IntKind.i64.wrap (q.nodes+1) }:RQ T).ok=false:=h;rw[this];rfl
theorem aBy {x:aD} {body:σ→RQ T→σ × RQ T} (f:Nat) (more:Bool) (a:σ) {q:RQ T} (h:q.ok=false):cK x body f more a q=(a,q):=by
 cases f with
 | zero=>rfl
 | succ f=>unfold cK;rw[h,cZ];rfl
theorem aMR {q:RQ T} (sort:aD) (d:Nat) (h:q.ok=false):fR fin sort d q=([],q):=by unfold fR;rw[oC _ _ h];rfl
theorem aHy {q:RQ T} (k:Nat) (h:q.ok=false):(cU fin k q).2=q:=by
 cases k with
 | zero=>unfold cU;rw[aGn h,if_neg (by decide)];exact sV _ _ _ h
 | succ k=>unfold cU;rw[aGn h,if_neg (by decide)];exact sV _ _ _ h
theorem lN {q:RQ T} {fi n:Nat} {t:Tok} {w:List Tok} (h:At q fi (t::w) n):q.at_<T.length∧q.tok=t∧T[q.at_]?=some t∧T.drop (q.at_+1)=w:=by
 have hd:=h.dr
 have hlt:q.at_<T.length:=by
  have:=congrArg List.length hd;rw[cP,aF] at this;omega
 have hg:T[q.at_]?=some t:=by
  have:=congrArg (·[0]?) hd;simpa using this
 refine ⟨hlt,by unfold RQ.tok;rw[hg];rfl,hg,?_⟩;rw[← kS,hd];rfl
theorem aAx {q:RQ T} {fi n:Nat} (h:At q fi [] n):¬ q.at_<T.length:=by
 have:=congrArg List.length h.dr;rw[cP,aH] at this;omega
theorem aIK {q:RQ T} {fi n:Nat} (h:At q fi [] n):T[q.at_]?=none:=tZ (by have:=aAx h;omega)
theorem inc_at {q:RQ T} {fi n:Nat} {t:Tok} {w:List Tok} (h:At q fi (t::w) n):At q.inc fi w n∧q.inc.at_=q.at_+1:=by
 obtain ⟨h1,h2,h3,h4⟩:=lN h;have e:q.inc={ q with at_:=q.at_+1,le:=h1 }:=by unfold RQ.inc;rw[dif_pos h1]
 rw[e];exact ⟨⟨h.ok,h4,h.nodes,h.fst,h.ov,h.le⟩,rfl⟩
theorem mS {q:RQ T} {fi n:Nat} {w:List Tok} (h:At q fi w n) (code:Int) (hc:code≠0) (hfin:fin.code≠0):(cJ fin code q.at_ true q).f=eG fin code w∧(cJ fin code q.at_ true q).ok=false:=by
 have e:(cJ fin code q.at_ true q).f=eG fin code w:=by
  unfold cJ;rw[if_pos h.ok];cases w with
  | nil=>simp only[aIK h];rfl
  | cons t w=>simp only[(lN h).2.2.1];rfl
 refine ⟨e,?_⟩;unfold RQ.ok;rw[e];refine eL ?_;cases w with
 | nil=>exact hfin
 | cons t w=>exact hc
theorem aPD {q:RQ T} {fi n:Nat} {w:List Tok} (h:At q fi w n) (hfin:fin.code≠0):(cJ fin 3 q.at_ false q).f=kG fin w∧(cJ fin 3 q.at_ false q).ok=false:=by
 have e:(cJ fin 3 q.at_ false q).f=kG fin w:=by
  unfold cJ;rw[if_pos h.ok];cases w with
  | nil=>simp only[aIK h];rfl
  | cons t w=>simp only[(lN h).2.2.1];rfl
 refine ⟨e,?_⟩;unfold RQ.ok;rw[e];refine eL ?_;cases w with
 | nil=>exact hfin
 | cons t w=>exact (by decide:(3:Int)≠0)
theorem yC {q:RQ T} {fi n:Nat} (h:At q fi [] n) (k:Int) (x:aD):aS k x q=false:=by unfold aS;rw[show decide (q.at_<T.length)=false from eL (aAx h)];simp
theorem vP {q:RQ T} {fi n:Nat} {t:Tok} {w:List Tok} (h:At q fi (t::w) n) (k:Int) (x:aD):aS k x q=(decide (t.kind=k)&&decide (t.text=x)):=by
 obtain ⟨h1,h2,_⟩:=lN h;unfold aS;rw[h.ok,h2,show decide (q.at_<T.length)=true from fC h1];simp
theorem aEb {q:RQ T} {fi n:Nat} (h:At q fi [] n) (k:Int):fS k q=false:=by unfold fS;rw[show decide (q.at_<T.length)=false from eL (aAx h)];simp
theorem aD6 {q:RQ T} {fi n:Nat} {t:Tok} {w:List Tok} (h:At q fi (t::w) n) (k:Int):fS k q=decide (t.kind=k):=by
 obtain ⟨h1,h2,_⟩:=lN h;unfold fS;rw[h.ok,h2,show decide (q.at_<T.length)=true from fC h1];simp
theorem aBp {q:RQ T} {fi n:Nat} (h:At q fi [] n):cN q=false:=by unfold cN;rw[show decide (q.at_<T.length)=false from eL (aAx h)];simp
theorem aBf {q:RQ T} {fi n:Nat} {t:Tok} {w:List Tok} (h:At q fi (t::w) n):cN q=t.free:=by
 obtain ⟨h1,h2,_⟩:=lN h;unfold cN Tok.free;rw[h.ok,h2,show decide (q.at_<T.length)=true from fC h1];simp
def pZ (x:aD):Prop:=∀ c r,x=c::r→gJ c.toNat=false
theorem xF {N:Nat} {t:Tok} (ht:TokW N t) {x:aD} (hx:pZ x) (hne:x≠[]):dC t x=(decide (t.kind=4)&&decide (t.text=x)):=by
 unfold dC;by_cases h1:t.kind=1
 ·rcases ht.kind with ⟨_,c,r,e,hl⟩|⟨h,_⟩|h|⟨h,_⟩
  ·have:¬ t.text=x:=by
    rintro rfl;have:=hx c r e;rw[hl] at this;cases this
   simp[this]
  ·omega
  ·omega
  ·omega
 ·simp[h1]
variable {N fi:Nat} {first:Tok} {q:RQ T} {w:List Tok} {n:Nat}
theorem uN {t:Tok} (h:At q fi (t::w) n):t∈T:=fJ (lN h).2.2.1
theorem aBV (hW:∀ t,t∈T→TokW N t) (hfin:fin.code≠0) (x:aD) (hx:pZ x) (hne:x≠[]) (h:At q fi w n):SimR fi (cV fin x w n) ((),aY fin 4 x q):=by
 cases w with
 | nil =>
  simp only[cV,bI,bN,if_false,aY,yC h];exact mS h 11 (by decide) hfin
 | cons t w =>
  simp only[cV,bI,aY,vP h,xF (hW t (uN h)) hx hne];by_cases hc:(decide (t.kind=4)&&decide (t.text=x))=true
  ·simp only[hc,if_true];exact ⟨rfl,(inc_at h).1⟩
  ·simp only[hc,if_false];exact mS h 11 (by decide) hfin
theorem aEw (hfin:fin.code≠0) (h:At q fi w n):SimR fi (dS fin w n) (bB fin q):=by
 cases w with
 | nil =>
  simp only[dS,bB,aBp h,bN,if_false];exact mS h 11 (by decide) hfin
 | cons t w =>
  simp only[dS,bB,aBf h];by_cases hc:t.free=true
  ·simp only[hc,if_true,(lN h).2.1];exact ⟨rfl,(inc_at h).1⟩
  ·simp only[hc,if_false];exact mS h 11 (by decide) hfin
theorem SimR.ok {a:α} (h:At q fi w n):SimR fi (.ok a w n) (a,q):=⟨rfl,h⟩
theorem aHT (hW:∀ t,t∈T→TokW N t) (x:aD) (hx:pZ x) (hne:x≠[]) {one:σ→List Tok→Nat→Rd σ} {body:σ→RQ T→σ × RQ T} (I:σ→Prop)
  (hb:∀ a q w n,I a→At q fi w n→SimR fi (one a w n) (body a q)∧∀ a' w' n',one a w n=.ok a' w' n'→w'.length<w.length∧I a') :
  ∀ (f g:Nat) (a:σ) (q:RQ T) (w:List Tok) (n:Nat),w.length<f→w.length<g→I a→At q fi w n→SimR fi (dH fin x one f a w n) (cK x body g true a q)
 | 0,g,a,q,w,n,hf,_,_,_=>by omega
 | f+1,0,a,q,w,n,_,hg,_,_=>by omega
 | f+1,g+1,a,q,w,n,hf,hg,hI,h=>by
  obtain ⟨h1,h2⟩:=hb a q w n hI h
  have e:cK x body (g+1) true a q=cK x body g (dQ x (body a q).2).1 (body a q).1 (dQ x (body a q).2).2:=by
   conv=>lhs;unfold cK
   rw[h.ok];rfl
  rw[e];simp only[dH];cases ho:one a w n with
  | bad fl =>
   rw[ho] at h1;simp only[Rd.bind];have ec:dQ x (body a q).2=(false,(body a q).2):=by unfold dQ;rw[oC _ _ h1.2];rfl
   rw[ec,aBy _ _ _ h1.2];exact h1
  | ok a' w' n' =>
   rw[ho] at h1;obtain ⟨e1,h3⟩:=h1;obtain ⟨h4,h5⟩:=h2 a' w' n' ho;simp only[Rd.bind]
   have stop:∀ q',cK x body g false a' q'=(a',q'):=fun q'=>by cases g with
    | zero=>rfl
    | succ g=>unfold cK;rfl
   cases w' with
   | nil =>
    have ec:dQ x (body a q).2=(false,(body a q).2):=by unfold dQ;rw[yC h3];rfl
    rw[ec,e1];simp only[bI,bN,if_false,stop];exact ⟨rfl,h3⟩
   | cons t w' =>
    simp only[bI];have et:=xF (hW t (uN h3)) hx hne;by_cases hc:(decide (t.kind=4)&&decide (t.text=x))=true
    ·have ec:dQ x (body a q).2=(true,(body a q).2.inc):=by unfold dQ;rw[vP h3,if_pos hc]
     rw[ec,e1];simp only[et,hc,if_true,List.tail_cons];simp only[aF] at h4;exact aHT hW x hx hne I hb f g a' _ w' n' (by omega) (by omega) h5 (inc_at h3).1
    ·have ec:dQ x (body a q).2=(false,(body a q).2):=by unfold dQ;rw[vP h3,if_neg hc]
     rw[ec,e1];simp only[et,hc,if_false,stop];exact ⟨rfl,h3⟩
theorem aHP (hF:T[fi]?=some first) (d p:Nat) (hd:d≤60) (h:At q fi w n):SimR fi (oG first w n) ((),iE fin d p q):=by
 have hw:IntKind.i64.wrap (q.nodes+1)=((n+1:Nat):Int):=by rw[h.nodes];have:=h.le;rw[eX _ (by omega) (by omega)];omega
 have hok:({ q with nodes:=((n+1:Nat):Int) }:RQ T).ok=true:=h.ok;unfold iE oG;simp only[hw,hok,if_true];rw[if_neg (show ¬ 60<d by omega)];by_cases hc:2000<n+1
 ·rw[if_pos hc,if_pos (show (2000:Int)<((n+1:Nat):Int) by omega)]
  have e:(cJ fin 3 q.first false ({ q with nodes:=((n+1:Nat):Int) }:RQ T)).f=⟨3,[],first.line,first.col⟩:=by
   unfold cJ;rw[if_pos hok,h.fst];simp only[hF];rfl
  exact ⟨e,by unfold RQ.ok;rw[e];rfl⟩
 ·rw[if_neg hc,if_neg (show ¬ (2000:Int)<((n+1:Nat):Int) by omega)];exact ⟨rfl,⟨h.ok,h.dr,rfl,h.fst,h.ov,by omega⟩⟩
theorem aBo (hW:∀ t,t∈T→TokW N t) {t:Tok} (h:At q fi (t::w) n):iL q=t.begins:=by
 unfold iL;simp only[aD6 h,aBf h,vP h];unfold Tok.begins Tok.free;rcases (hW t (uN h)).kind with ⟨hk,c,r,e,hl⟩|⟨hk,_⟩|hk|⟨hk,_⟩
 ·simp[hk]
 ·simp[hk]
 ·simp[hk]
 ·simp only[hk];simp;cases decide (t.text=[36])<;>cases decide (t.text=[91])<;>cases decide (t.text=[123])<;>rfl
theorem zZ (h:At q fi [] n):iL q=false:=by
 unfold iL;simp only[aEb h,aBp h,yC h,Bool.or_self]
theorem aNm (hW:∀ t,t∈T→TokW N t) (hfin:fin.code≠0) (hF:T[fi]?=some first) (sort:aD) (k:Nat) (hk:k<60) (h:At q fi w n):SimR fi (nP fin first (decide (k=0)) sort w n) (fR fin sort (60-k) q):=by
 cases w with
 | nil =>
  simp only[nP,bI,bN,if_false,fR,yC h];exact SimR.ok h
 | cons t w =>
  simp only[nP,bI,fR,vP h,xF (hW t (uN h)) (x:=[124]) (by rintro c r e;cases e;decide) (by decide),List.tail_cons];by_cases hc:(decide (t.kind=4)&&decide (t.text=[124]))=true
  ·simp only[hc,if_true];obtain ⟨h1,_⟩:=inc_at h;have hn:=aEw (fin:=fin) hfin h1;cases w with
   | nil =>
    simp only[dS] at hn;have e:=aGY (fin:=fin) (60-k+1) q.inc.at_ hn.2;exact ⟨e.trans hn.1,by rw[nK e];exact hn.2⟩
   | cons u w =>
    simp only[dS] at hn ⊢;by_cases hu:u.free=true
    ·simp only[hu,if_true] at hn ⊢;obtain ⟨e1,h2⟩:=hn;by_cases hk0:k=0
     ·simp only[hk0,kA,if_true]
      have hku:u.kind=1:=by
       unfold Tok.free at hu;simp only[bT,eC] at hu;exact hu.1
      have e:(iE fin (60-k+1) q.inc.at_ (bB fin q.inc).2).f=⟨19,u.text,u.line,u.col⟩:=by
       unfold iE;have hok:({ (bB fin q.inc).2 with nodes:=IntKind.i64.wrap ((bB fin q.inc).2.nodes+1) }:RQ T).ok=true:=h2.ok;simp only[hok,if_true];rw[if_pos (by omega)];unfold cJ;rw[if_pos hok];simp only[(lN h1).2.2.1,Tok.name,hku,if_true];rfl
      rw[hk0] at e;exact ⟨e,by unfold RQ.ok;rw[e];rfl⟩
     ·simp only[hk0,pN,bN,if_false];have hnd:=aHP (fin:=fin) hF (60-k+1) q.inc.at_ (by omega) h2;rw[← e1];cases hr:oG first w n with
      | bad f=>rw[hr] at hnd;exact hnd
      | ok a w' n'=>rw[hr] at hnd;exact ⟨rfl,hnd.2⟩
    ·simp only[hu,if_false] at hn ⊢;have e:=aGY (fin:=fin) (60-k+1) q.inc.at_ hn.2;exact ⟨e.trans hn.1,by rw[nK e];exact hn.2⟩
  ·simp only[hc,if_false];exact SimR.ok h
theorem aHp (lk:Bool) (w:List Tok) (n:Nat):∃ f,eE lk fin first 0 w n=.bad f:=by
 cases w with
 | nil=>exact ⟨_,rfl⟩
 | cons t w =>
  simp only[eE];split
  ·exact ⟨_,rfl⟩
  ·exact ⟨_,rfl⟩
def yX (fin:Fault) (fi:Nat) (tm1:List Tok→Nat→Rd Tm) (tm:RQ T→Tm × RQ T):Prop :=
 ∀ q w n,At q fi w n→SimR fi (tm1 w n) (tm q)∧∀ a' w' n',tm1 w n=.ok a' w' n'→w'.length<w.length
theorem aIU {tm1:List Tok→Nat→Rd Tm} {tm:RQ T→Tm × RQ T} (h:SimR fi (tm1 w n) (tm q)) (acc:List Tm) :
  SimR fi ((tm1 w n).bind fun a w n=>.ok (acc++[a]) w n) (acc++[(tm q).1],(tm q).2):=by
 cases hr:tm1 w n with
 | bad f=>rw[hr] at h;exact h
 | ok a w' n'=>rw[hr] at h;exact ⟨by rw[h.1],h.2⟩
theorem aGO (c:Int) (p:Nat) (b o:Bool):(cJ fin c p b ({ q with over:=o }:RQ T)).f=(cJ fin c p b q).f:=by
 unfold cJ;have e:({ q with over:=o }:RQ T).ok=q.ok:=rfl;rw[e];split<;>rfl
theorem aOq (hW:∀ t,t∈T→TokW N t) (hfin:fin.code≠0) (hF:T[fi]?=some first) (k:Nat) (hk:k<60) (htm:yX (T:=T) fin fi (eE true fin first k) (cU fin k)) (acc:List Tm) (hacc:acc.length≤8∧(k=0→acc=[])) (h:At q fi w n) :
  SimR fi ((kO true fin first (eE true fin first k) acc w n).bind fun a w n=>.ok (acc++[a]) w n)
   (acc++[(cU fin k { q with over:=decide (8≤acc.length) }).1],(cU fin k { q with over:=decide (8≤acc.length) }).2) ∧
  ∀ a' w' n',((kO true fin first (eE true fin first k) acc w n).bind fun a w n=>.ok (acc++[a]) w n)=.ok a' w' n'→w'.length<w.length∧(a'.length≤8∧(k=0→a'=[])):=by
 by_cases h8:acc.length=8
 ·have hk0:k≠0:=fun e=>by have:=hacc.2 e;rw[this] at h8;cases h8
  obtain ⟨k',rfl⟩:∃ k',k=k'+1:=⟨k-1,by omega⟩
  have d8:decide (8≤acc.length)=true:=fC (by omega);rw[d8]
  have bad:∀ f,kO true fin first (eE true fin first (k'+1)) acc w n=.bad f→(cU fin (k'+1) ({ q with over:=true }:RQ T)).2.f=f→f.code≠0→SimR fi ((kO true fin first (eE true fin first (k'+1)) acc w n).bind fun a w n=>.ok (acc++[a]) w n)
   (acc++[(cU fin (k'+1) ({ q with over:=true }:RQ T)).1],(cU fin (k'+1) ({ q with over:=true }:RQ T)).2) ∧
   ∀ a' w' n',((kO true fin first (eE true fin first (k'+1)) acc w n).bind fun a w n=>.ok (acc++[a]) w n)=.ok a' w' n'→w'.length<w.length∧(a'.length≤8∧(k'+1=0→a'=[])):=by
   intro f h1 h2 h3;rw[h1];refine ⟨⟨h2,?_⟩,fun a' w' n' e=>by cases e⟩;unfold RQ.ok;rw[h2];exact eL h3
  cases w with
  | nil =>
   refine bad fin (by simp only[kO,h8,if_true]) ?_ hfin;have hb:iL ({ q with over:=true }:RQ T)=false:=zZ (q:=q) h;unfold cU;rw[hb,if_neg (by decide)];exact (aGO _ _ _ _).trans (mS (fin:=fin) h 11 (by decide) hfin).1
  | cons t w =>
   have hb:iL ({ q with over:=true }:RQ T)=t.begins:=aBo (q:=q) hW h;have hle:=h.le;cases hbt:t.begins with
   | false =>
    rw[hbt] at hb;refine bad (eG fin 11 (t::w)) (by simp only[kO,h8,if_true,hbt,bN,if_false,eE]) ?_ (show (11:Int)≠0 by decide);unfold cU;rw[hb,if_neg (by decide)];exact (aGO _ _ _ _).trans (mS (fin:=fin) h 11 (by decide) hfin).1
   | true =>
    rw[hbt] at hb;have hw:IntKind.i64.wrap (q.nodes+1)=((n+1:Nat):Int):=by rw[h.nodes,eX _ (by omega) (by omega)];omega
    have hok:({ q with over:=true,nodes:=((n+1:Nat):Int) }:RQ T).ok=true:=h.ok;by_cases h2:2000≤n
    ·refine bad ⟨3,[],first.line,first.col⟩ (by simp only[kO,h8,if_true,hbt,hH,h2]) ?_ (show (3:Int)≠0 by decide)
     have e:(iE fin (60-k') q.at_ ({ q with over:=true }:RQ T)).f=⟨3,[],first.line,first.col⟩:=by
      unfold iE;simp only[hw,hok,if_true];rw[if_neg (by omega),if_pos (by omega)];unfold cJ;rw[if_pos hok];simp only[h.fst,hF];rfl
     have e2:(iE fin (60-k') q.at_ ({ q with over:=true }:RQ T)).ok=false:=by unfold RQ.ok;rw[e];rfl
     unfold cU;rw[hb,if_pos rfl];simp only
     have e3:∀ q':RQ T,q'.ok=false→(if q'.over=true then cJ fin 3 q'.at_ false q' else q')=q':=fun q' hq=>by
      split
      ·exact sV _ _ _ hq
      ·rfl
     rw[e3 _ e2,e2];exact e
    ·refine bad ⟨3,[],t.line,t.col⟩ (by simp only[kO,h8,if_true,hbt,h2,and_false,if_false]) ?_ (show (3:Int)≠0 by decide)
     have e:iE fin (60-k') q.at_ ({ q with over:=true }:RQ T)={ q with over:=true,nodes:=((n+1:Nat):Int) }:=by
      unfold iE;simp only[hw,hok,if_true];rw[if_neg (by omega),if_neg (by omega)]
     unfold cU;rw[hb,if_pos rfl];simp only[e,if_true]
     have e4:(cJ fin 3 q.at_ false ({ q with over:=true,nodes:=((n+1:Nat):Int) }:RQ T)).f=⟨3,[],t.line,t.col⟩:=by
      unfold cJ;rw[if_pos hok];simp only[(lN h).2.2.1];rfl
     have e5:(cJ fin 3 q.at_ false ({ q with over:=true,nodes:=((n+1:Nat):Int) }:RQ T)).ok=false:=by unfold RQ.ok;rw[e4];rfl
     rw[e5];exact e4
 ·have d8:decide (8≤acc.length)=false:=eL (by omega);rw[d8];have hq:({ q with over:=false }:RQ T)=q:=by have:=h.ov;cases q;simp only at this;subst this;rfl
  rw[hq];have ek:kO true fin first (eE true fin first k) acc w n=eE true fin first k w n:=by simp only[kO,h8,if_false]
  rw[ek];obtain ⟨h1,h2⟩:=htm q w n h;refine ⟨aIU h1 acc,fun a' w' n' e=>?_⟩;cases hr:eE true fin first k w n with
  | bad f=>rw[hr] at e;cases e
  | ok a w2 n2 =>
   rw[hr] at e;cases e;refine ⟨h2 a _ _ hr,by rw[aR];simp only[aF,aH];omega,fun e0=>?_⟩;subst e0;obtain ⟨f,hf⟩:=aHp (fin:=fin) (first:=first) true w n;rw[hf] at hr;cases hr
theorem aB6 (hW:∀ t,t∈T→TokW N t) (x:aD) (hx:pZ x) (hne:x≠[]) (h:At q fi w n):aS 4 x q=bI x w:=by
 cases w with
 | nil=>rw[yC h];rfl
 | cons t w=>rw[vP h];simp only[bI,xF (hW t (uN h)) hx hne]
theorem aOS {x:aD} (h:At q fi w n) (hx:bI x w=true):At q.inc fi w.tail n∧q.inc.at_=q.at_+1:=by
 cases w with
 | nil=>cases hx
 | cons t w=>exact inc_at h
theorem aEi (hW:∀ t,t∈T→TokW N t) (hfin:fin.code≠0) (x:aD) (hx:pZ x) (hne:x≠[]) (a:α) (h:At q fi w n):SimR fi ((cV fin x w n).bind fun _ w n=>.ok a w n) (a,aY fin 4 x q):=by
 have h1:=aBV (fin:=fin) hW hfin x hx hne h;cases hr:cV fin x w n with
 | bad f=>rw[hr] at h1;exact h1
 | ok u w' n'=>rw[hr] at h1;exact ⟨rfl,h1.2⟩
theorem aIf (hW:∀ t,t∈T→TokW N t) {one:σ→List Tok→Nat→Rd σ} {body:σ→RQ T→σ × RQ T} (I:σ→Prop) (a:σ) (hI:I a)
  (hb:∀ a q w n,I a→At q fi w n→SimR fi (one a w n) (body a q)∧∀ a' w' n',one a w n=.ok a' w' n'→w'.length<w.length∧I a') (h:At q fi w n) :
  SimR fi (dH fin [44] one (w.length+1) a w n) (cK [44] body (T.length+2) true a q):=by
 refine aHT hW [44] (by rintro c r e;cases e;decide) (by decide) I hb _ _ a q w n (by omega) ?_ hI h;have:=congrArg List.length h.dr;rw[cP] at this;omega
theorem aOU (hW:∀ t,t∈T→TokW N t) (hfin:fin.code≠0) (hF:T[fi]?=some first) (k:Nat) (hk:k<60) (htm:yX (T:=T) fin fi (eE true fin first k) (cU fin k)) (t:Tok)
    (ht:¬ t.text=[116,114,117,101]) (hf:¬ t.text=[102,97,108,115,101]) (h:At q fi w n):SimR fi (qQ true fin first (eE true fin first k) t w n) (tL fin (cU fin k) t.text q):=by
  have s1:∀ c:UInt8,gJ c.toNat=false→pZ [c]:=fun c hc d r e=>by cases e;exact hc
  unfold tL qQ;rw[if_neg ht,if_neg hf,aB6 hW [58] (s1 58 (by decide)) (by decide) h];by_cases hc:bI [58] w=true
  · rw[if_pos hc,if_pos hc]
    obtain ⟨h1,_⟩:=aOS h hc;exact SimR.bind (p:=bB fin q.inc) (K:=fun x q=>(Tm.mk 6 0 t.text x [] [],q)) (aEw hfin h1) (fun q _=>rfl) (fun w n _ h2=>SimR.ok h2)
  · rw [if_neg hc,if_neg hc]
    refine SimR.bind (p:=((),aY fin 4 [40] q)) (K:=fun (_:Unit) (q:RQ T) =>
      ((Tm.mk 5 0 t.text [] (cK [44] (fun (l : List Tm) q => (l ++ [(cU fin k { q with over := decide (8 ≤ l.length) }).1],(cU fin k { q with over := decide (8 ≤ l.length) }).2)) (T.length + 2) (!aS 4 [41] q) [] q).1 []),
        aY fin 4 [41] (cK [44] (fun (l:List Tm) q=>(l++[(cU fin k { q with over:=decide (8≤l.length) }).1],(cU fin k { q with over:=decide (8≤l.length) }).2)) (T.length+2) (!aS 4 [41] q) [] q).2))
      (aBV hW hfin [40] (s1 40 (by decide)) (by decide) h) (fun q hq=>by simp only[aBy _ _ _ hq,xN _ _ hq]) (fun w n _ h2=>?_)
    simp only;rw[aB6 hW [41] (s1 41 (by decide)) (by decide) h2];by_cases hc2:bI [41] w=true
    · rw[if_pos hc2,hc2]
      have e:∀ body:List Tm→RQ T→List Tm × RQ T,cK [44] body (T.length+2) (!true) [] (aY fin 4 [40] q)=([],aY fin 4 [40] q):=fun body=>by unfold cK;rfl
      rw[e];have h3:=aEi (fin:=fin) hW hfin [41] (s1 41 (by decide)) (by decide) (Tm.mk 5 0 t.text [] [] []) h2;have e2:cV fin [41] w n=.ok () w.tail n:=by unfold cV;rw[if_pos hc2]
      rw[e2] at h3;exact h3
    · rw[if_neg hc2,show bI [41] w=false by simpa using hc2]
      have h3:=aIf (fin:=fin) hW (fun l:List Tm=>l.length≤8∧(k=0→l=[])) [] ⟨by simp,fun _=>rfl⟩ (fun a q w n hI hq=>aOq hW hfin hF k hk htm a hI hq) h2;exact SimR.bind (K:=fun l q=>(Tm.mk 5 0 t.text [] l [],aY fin 4 [41] q)) h3 (fun q hq=>by show (aY fin 4 [41] q).f=q.f;rw[xN _ _ hq]) (fun w n _ h4=>aEi hW hfin [41] (s1 41 (by decide)) (by decide) _ h4)
theorem aNa {tm1:List Tok→Nat→Rd Tm} {tm:RQ T→Tm × RQ T} (htm:yX fin fi tm1 tm) (a:List Tm) (q:RQ T) (w:List Tok) (n:Nat) (h:At q fi w n) :
  SimR fi ((tm1 w n).bind fun b w n=>.ok (a++[b]) w n) (a++[(tm q).1],(tm q).2)∧∀ a' w' n',((tm1 w n).bind fun b w n=>.ok (a++[b]) w n)=.ok a' w' n'→w'.length<w.length∧True:=by
 obtain ⟨h1,h2⟩:=htm q w n h;refine ⟨aIU h1 a,fun a' w' n' e=>⟨?_,trivial⟩⟩;cases hr:tm1 w n with
 | bad f=>rw[hr] at e;cases e
 | ok b w2 n2=>rw[hr] at e;cases e;exact h2 b _ _ hr
theorem aMN (hW:∀ t,t∈T→TokW N t) (hfin:fin.code≠0) {tm1:List Tok→Nat→Rd Tm} {tm:RQ T→Tm × RQ T} (htm:yX fin fi tm1 tm) (hs:∀ q,q.ok=false→(tm q).2.f=q.f) (a:List Tm) (q:RQ T) (w:List Tok) (n:Nat) (h:At q fi w n) :
  SimR fi (rD fin tm1 a w n) (a++[(tm q).1]++[(tm (aY fin 4 [45,62] (tm q).2)).1],(tm (aY fin 4 [45,62] (tm q).2)).2)∧∀ a' w' n',rD fin tm1 a w n=.ok a' w' n'→w'.length<w.length∧True:=by
 obtain ⟨h1,h2⟩:=htm q w n h;have sg:pZ [45,62]:=by rintro c r e;cases e;decide
 unfold rD;constructor
 ·refine SimR.bind (p:=tm q) (K:=fun x q=>(a++[x]++[(tm (aY fin 4 [45,62] q)).1],(tm (aY fin 4 [45,62] q)).2)) h1 (fun q hq=>by
   show (tm (aY fin 4 [45,62] q)).2.f=q.f;rw[xN _ _ hq,hs _ hq]) (fun w1 n1 e1 h3=>?_)
  refine SimR.bind (p:=((),aY fin 4 [45,62] (tm q).2)) (K:=fun (_:Unit) q'=>(a++[(tm q).1]++[(tm q').1],(tm q').2)) (aBV hW hfin [45,62] sg (by decide) h3) (fun q hq=>hs _ hq) (fun w2 n2 e2 h4=>?_);obtain ⟨h5,_⟩:=htm _ w2 n2 h4;cases hr:tm1 w2 n2 with
  | bad f=>rw[hr] at h5;exact h5
  | ok b w3 n3=>rw[hr] at h5;exact ⟨by rw[h5.1];simp,h5.2⟩
 ·intro a' w' n' e;refine ⟨?_,trivial⟩;cases hr:tm1 w n with
  | bad f=>rw[hr] at e;cases e
  | ok b w1 n1 =>
   have l1:=h2 b w1 n1 hr;rw[hr] at h1 e;simp only[Rd.bind] at e;have h3:=aBV (fin:=fin) hW hfin [45,62] sg (by decide) h1.2;unfold cV at e h3;by_cases hc:bI [45,62] w1=true
   ·rw[if_pos hc] at e h3;simp only[Rd.bind] at e;have h4:=h3.2;obtain ⟨h5,h6⟩:=htm _ _ _ h4;cases hr2:tm1 w1.tail n1 with
    | bad f=>rw[hr2] at e;cases e
    | ok v w3 n3 =>
     rw[hr2] at e;cases e;have:=h6 _ _ _ hr2;rw[List.length_tail] at this;omega
   ·rw[if_neg hc] at e;cases e
theorem aL4 (sort:aD) (d:Nat) {c:aD} {a:List Tm} {q:RQ T} (hq:q.ok=false):(aY fin 4 c (fR fin sort d q).2).f=q.f:=by rw[aMR _ _ hq,xN _ _ hq]
theorem aHZ (hW:∀ t,t∈T→TokW N t) (hfin:fin.code≠0) (hF:T[fi]?=some first) (k:Nat) (hk:k<60) (c:UInt8) (hc:gJ c.toNat=false) (kind:Int) (sort:aD) {r:Rd (List Tm)} {p:List Tm × RQ T} (h:SimR fi r p) :
  SimR fi (r.bind fun l w n=>(nP fin first (decide (k=0)) sort w n).bind fun rs w n=>(cV fin [c] w n).bind fun _ w n=>.ok (.mk kind 0 [] [] l rs) w n)
   (Tm.mk kind 0 [] [] p.1 (fR fin sort (60-k) p.2).1,aY fin 4 [c] (fR fin sort (60-k) p.2).2):=by
 refine SimR.bind (K:=fun l q=>(Tm.mk kind 0 [] [] l (fR fin sort (60-k) q).1,aY fin 4 [c] (fR fin sort (60-k) q).2)) h (fun q hq=>aL4 (a:=[]) _ _ hq) (fun w n _ h2=>?_);refine SimR.bind (p:=fR fin sort (60-k) p.2) (K:=fun rs q=>(Tm.mk kind 0 [] [] p.1 rs,aY fin 4 [c] q)) (aNm hW hfin hF sort k hk h2) (fun q hq=>by show (aY fin 4 [c] q).f=q.f;rw[xN _ _ hq]) (fun w n _ h3=>?_);exact aEi hW hfin [c] (by rintro d r e;cases e;exact hc) (by simp) _ h3
theorem aGs (hW:∀ t,t∈T→TokW N t) (c:UInt8) (hc:gJ c.toNat=false) {one:List Tm→List Tok→Nat→Rd (List Tm)} {body:List Tm→RQ T→List Tm × RQ T}
  (hb:∀ a q w n,True→At q fi w n→SimR fi (one a w n) (body a q)∧∀ a' w' n',one a w n=.ok a' w' n'→w'.length<w.length∧True) (h:At q fi w n) :
  SimR fi (if bI [124] w=true∨bI [c] w=true then Rd.ok [] w n else dH fin [44] one (w.length+1) [] w n) (cK [44] body (T.length+2) (!aS 4 [c] q&&!aS 4 [124] q) [] q):=by
 rw[aB6 hW [c] (by rintro d r e;cases e;exact hc) (by simp) h,aB6 hW [124] (by rintro d r e;cases e;decide) (by decide) h];by_cases h1:bI [124] w=true∨bI [c] w=true
 ·rw[if_pos h1];have e:(!bI [c] w&&!bI [124] w)=false:=by rcases h1 with h1|h1<;>simp[h1]
  rw[e];have e2:cK [44] body (T.length+2) false [] q=([],q):=by unfold cK;rfl
  rw[e2];exact SimR.ok h
 ·rw[if_neg h1];have e:(!bI [c] w&&!bI [124] w)=true:=by simp only[not_or] at h1;simp[h1.1,h1.2]
  rw[e];exact aIf hW (fun _=>True) [] trivial hb h
theorem aMy (hW:∀ t,t∈T→TokW N t) (hN:N≤4294967296) (hfin:fin.code≠0) (hF:T[fi]?=some first) (k:Nat) (hk:k<60) (htm:yX (T:=T) fin fi (eE true fin first k) (cU fin k)) (t:Tok) (ht:TokW N t)
  (h4:t.text=[45]∨t.text=[39]∨t.text=[95]∨t.text=[36]∨t.text=[91]∨t.text=[123]) (h:At q fi w n):SimR fi (pG fin first (eE true fin first k) (decide (k=0)) t w n) (tB fin (cU fin k) t (60-k) q):=by
 unfold tB pG;have hcol:=ht.col;by_cases h45:t.text=[45]
 ·rw[if_pos h45,if_pos h45];cases w with
  | nil =>
   rw[aEb h];exact mS h 11 (by decide) hfin
  | cons u w =>
   have hu:=hW u (uN h);have ew:IntKind.i64.wrap (t.col+1)=t.col+1:=eX _ (by omega) (by omega);have en:IntKind.i64.wrap (0-u.n)=-u.n:=by have:=hu.num;rw[eX _ (by omega) (by omega)];omega
   rw[aD6 h,(lN h).2.1,ew,en];by_cases hc:u.kind=2∧u.line=t.line∧u.col=t.col+1
   ·simp only[hc,mQ,if_true,kA,Bool.and_self];exact SimR.ok (inc_at h).1
   ·have:(decide (u.kind=2)&&(decide (u.line=t.line)&&decide (u.col=t.col+1)))=false:=by
     rw[vF];intro e;simp only[bT,eC] at e;exact hc e
    simp only[hc,if_false,this,bN];exact mS h 11 (by decide) hfin
 rw[if_neg h45,if_neg h45];by_cases h39:t.text=[39]
 ·rw[if_pos h39,if_pos h39];cases w with
  | nil =>
   rw[aBp h];exact mS h 11 (by decide) hfin
  | cons u w =>
   rw[aBf h,(lN h).2.1];by_cases hc:u.free=true∧mW u.text=true
   ·have hn:=aEw (fin:=fin) hfin h;simp only[hc,mQ,if_true,Bool.and_self];simp only[dS,hc.1,if_true] at hn;exact ⟨by rw[hn.1],hn.2⟩
   ·have:(u.free&&mW u.text)=false:=by
     rw[vF];intro e;simp only[bT] at e;exact hc e
    simp only[hc,if_false,this,bN];exact mS h 11 (by decide) hfin
 rw[if_neg h39,if_neg h39];by_cases h95:t.text=[95]∨t.text=[36]
 ·rw[if_pos h95,if_neg (by rcases h95 with e|e<;>rw[e]<;>decide),if_neg (by rcases h95 with e|e<;>rw[e]<;>decide)];exact SimR.ok h
 rw[if_neg h95];by_cases h91:t.text=[91]
 ·rw[if_pos h91,if_pos h91];exact aHZ hW hfin hF k hk 93 (by decide) 7 _ (aGs hW 93 (by decide) (fun a q w n _ h=>aNa htm a q w n h) h)
 ·have h123:t.text=[123]:=by
   rcases h4 with e|e|e|e|e|e
   ·exact absurd e h45
   ·exact absurd e h39
   ·exact absurd (.inl e) h95
   ·exact absurd (.inr e) h95
   ·exact absurd e h91
   ·exact e
  rw[if_neg h91,if_neg h91,if_pos h123];exact aHZ hW hfin hF k hk 125 (by decide) 8 _ (aGs hW 125 (by decide) (fun a q w n _ h=>aMN hW hfin htm (fun q hq=>by rw[aHy _ hq]) a q w n h) h)
theorem aAG (h:At q fi w n):w.length=T.length-q.at_:=by have:=congrArg List.length h.dr;rw[cP] at this;exact this.symm
theorem aNz {r:Rd Tm} {p:Tm × RQ T} {t:Tok} (h:At q fi (t::w) n) (hs:SimR fi r p) (hm:q.at_+1≤p.2.at_):∀ a' w' n',r=.ok a' w' n'→w'.length<(t::w).length:=by
 intro a' w' n' e;rw[e] at hs;have h1:=aAG hs.2;have h2:=aAG h;have h3:=(lN h).1;omega
theorem aHK (hW:∀ t,t∈T→TokW N t) (hN:N≤4294967296) (hfin:fin.code≠0) (hF:T[fi]?=some first):∀ k,k≤60→yX (T:=T) fin fi (eE true fin first k) (cU fin k)
 | 0,_=>by
  intro q w n h;refine ⟨?_,fun a' w' n' e=>by obtain ⟨f,hf⟩:=aHp (fin:=fin) (first:=first) true w n;rw[hf] at e;cases e⟩;cases w with
  | nil=>unfold cU;rw[zZ h,if_neg (by decide)];exact mS h 11 (by decide) hfin
  | cons t w =>
   unfold cU;rw[aBo hW h];simp only[eE];by_cases hb:t.begins=true
   ·rw[if_pos hb,if_pos hb];have hok:({ q with nodes:=IntKind.i64.wrap (q.nodes+1) }:RQ T).ok=true:=h.ok
    have e:(iE fin 61 q.at_ q).f=eG fin 19 (t::w):=by
     unfold iE;simp only[hok,if_true];rw[if_pos (by omega)];unfold cJ;rw[if_pos hok];simp only[(lN h).2.2.1];rfl
    have e2:(iE fin 61 q.at_ q).ok=false:=by unfold RQ.ok;rw[e];rfl
    rw[sV _ _ _ e2,ite_self];exact ⟨e,e2⟩
   ·rw[if_neg hb,if_neg hb];exact mS h 11 (by decide) hfin
 | k+1,hk=>by
  intro q w n h;have ih:=aHK hW hN hfin hF k (by omega);cases w with
  | nil =>
   refine ⟨?_,fun a' w' n' e=>by simp only[eE] at e;cases e⟩;unfold cU;rw[zZ h,if_neg (by decide)];exact mS h 11 (by decide) hfin
  | cons t w =>
   unfold cU;rw[aBo hW h];by_cases hb:t.begins=true
   ·simp only[eE];rw[if_pos hb,if_pos hb];have hnd:=aHP (fin:=fin) hF (60-k) q.at_ (by omega) h;unfold oG at hnd ⊢;by_cases hc:2000<n+1
    ·rw[if_pos hc] at hnd ⊢;obtain ⟨e1,e2⟩:=hnd;simp only at e1 e2;simp only[Rd.bind];rw[sV _ _ _ e2,ite_self,e2,if_neg (by decide)];exact ⟨⟨e1,e2⟩,fun a' w' n' e=>by cases e⟩
    ·rw[if_neg hc] at hnd ⊢;obtain ⟨_,h1⟩:=hnd;simp only at h1;simp only[Rd.bind];generalize iE fin (60-k) q.at_ q=q1 at h1 ⊢;simp only[h1.ov,bN,if_false,h1.ok,if_true,(lN h1).2.1];obtain ⟨h2,hi⟩:=inc_at h1
     have hq:q1.at_=q.at_:=by
      have a1:=aAG h1;have a2:=aAG h;have a3:=(lN h).1;have a4:=(lN h1).1;omega
     have ht:=hW t (uN h)
     have fin1:∀ (r:Rd Tm) (p:Tm × RQ T),SimR fi r p→q1.inc.at_≤p.2.at_→SimR fi r p∧∀ a' w' n',r=.ok a' w' n'→w'.length<(t::w).length :=
      fun r p hs hm=>⟨hs,aNz h hs (by omega)⟩
     by_cases k2:t.kind=2
     ·rw[if_pos k2,if_pos k2];exact fin1 _ (_,q1.inc) (SimR.ok h2) (bE _)
     rw[if_neg k2,if_neg k2];by_cases k3:t.kind=3
     ·rw[if_pos k3,if_pos k3];exact fin1 _ (_,q1.inc) (SimR.ok h2) (bE _)
     rw[if_neg k3,if_neg k3];by_cases k1:t.kind=1
     ·rw[if_pos k1,if_pos k1];by_cases ht1:t.text=[116,114,117,101]
      ·rw[if_pos ht1];unfold qQ;rw[if_pos ht1];exact fin1 _ (_,q1.inc) (SimR.ok h2) (bE _)
      rw[if_neg ht1];by_cases hf1:t.text=[102,97,108,115,101]
      ·rw[if_pos hf1];unfold qQ;rw[if_neg ht1,if_pos hf1];exact fin1 _ (_,q1.inc) (SimR.ok h2) (bE _)
      rw[if_neg hf1];exact fin1 _ _ (aOU hW hfin hF k (by omega) ih t ht1 hf1 h2) (aHF _ (qM k) _ _)
     ·rw[if_neg k1,if_neg k1];refine fin1 _ _ (aMy hW hN hfin hF k (by omega) ih t ht ?_ h2) (aGg _ (qM k) _ _ _);have hbb:=hb;unfold Tok.begins at hbb;simp only[k1,k2,k3] at hbb;simp at hbb;rcases hbb with e|e|e|e|e|e<;>simp[e]
   ·have e:eE true fin first (k+1) (t::w) n=.bad (eG fin 11 (t::w)):=by simp only[eE];rw[if_neg hb]
    rw[if_neg hb,e];exact ⟨mS h 11 (by decide) hfin,fun a' w' n' e=>by cases e⟩
end
end
section
def ctC (w:aD) (i l c:Nat) (sg out:A) (f:Fault):List A:=[.str w,.int .i64 i,.int .i64 l,.int .i64 c,sg,out,.int .i64 f.code,.str f.name,.int .i64 f.line,.int .i64 f.col]
def lT (w:aD) (i l c:Nat) (sg out:A) (f:Fault):Ob:=.cells 138 (ctC w i l c sg out f)
attribute [go_sem] lT ctC
section
variable {s:St} {KV Kp:St→A→Prop} {r:Nat} {w:aD} {i l c:Nat} {sg out:A} {f:Fault}
theorem aBq (n:Nat) (hr:s.getO r=some (lT w i l c sg out f)) (hx:w.length≤4294967280) (hn:i+n≤w.length) (hl:l≤i+1) (hc:c≤i+1)
  (hk:KV (s.setO r (lT w (i+n) (bY (l,c) ((w.drop i).take n)).1 (bY (l,c) ((w.drop i).take n)).2 sg out f)) (.tuple [])) :
  Den cx 94 [.ptr r 0,.int .i64 n] KV Kp s:=by
 (refine aZ func94 [0,1,4,5,6,16] ?_;simp only[go_sem,ntmps94,f94])
 refine Ex.loop (ι:=Nat) (fun j=>[(0,.ptr r 0),(4,.int .i64 n),(5,.int .i64 (j:Nat))])
  (fun j=>s.setO r (lT w (i+j) (bY (l,c) ((w.drop i).take j)).1 (bY (l,c) ((w.drop i).take j)).2 sg out f))
  (fun j=>j≤n) (fun j=>n-j) 0 (bS _) ?_ ?_ ?_
 ·simp only[go_sem];rfl
 ·simp only[Nat.add_zero,List.take_zero,bY];exact lY hr
 ·intro j hj;refine bV (V:=[0,1,4,5,6,16]) _ _ _ _ ?_;have hb:=nM ((w.drop i).take j) (l,c) i hl hc;have hlen:((w.drop i).take j).length=j:=by rw[eY,cP];omega
  rw[hlen] at hb;simp only[go_sem];(refine cD (fun h=>?_) (fun h=>?_))<;>simp only[go_sem,h]
  ·have hin:j<n:=by simpa using h
   have hix:i+j<w.length:=by omega
   obtain ⟨d,hd⟩:∃ d,w[i+j]?=some d:=⟨_,cH hix⟩
   (refine aP (OT.r 0 10) [] ?_;simp only[go_sem,hd,hix])
   have hst:bY (l,c) ((w.drop i).take (j+1))=bY (bY (l,c) ((w.drop i).take j)) [d]:=by
    rw[sJ,lE,hd,vT];rfl
   have e5:IntKind.i64.wrap ((j:Int)+1)=((j+1:Nat):Int):=bP j (by omega);have e1:IntKind.i64.wrap (((i+j:Nat):Int)+1)=((i+(j+1):Nat):Int):=by rw[bP _ (by omega)];rfl
   have e2:IntKind.i64.wrap (((bY (l,c) ((w.drop i).take j)).1:Int)+1)=(((bY (l,c) ((w.drop i).take j)).1+1:Nat):Int):=bP _ (by omega);have e3:IntKind.i64.wrap (((bY (l,c) ((w.drop i).take j)).2:Int)+1)=(((bY (l,c) ((w.drop i).take j)).2+1:Nat):Int):=bP _ (by omega);have e4:IntKind.i64.wrap ((0:Int)+1)=1:=by decide
   (refine cD (fun h=>?_) (fun h=>?_))<;>simp only[go_sem,h,e1,e2,e3,e4,e5]
   ·have hd10:d=10:=by
     have:d.toNat=10:=by simp at h;omega
     exact nE.1 this
    refine ⟨j+1,by omega,by omega,rfl,?_⟩;rw[hst];simp only[bY,hd10,if_true];exact bA _
   ·have hd10:¬ d=10:=by rintro rfl;simp at h
    refine ⟨j+1,by omega,by omega,rfl,?_⟩;rw[hst];simp only[bY,hd10,if_false];exact bA _
  ·have hin:j=n:=by simp at h;omega
   subst hin;exact aO hk
theorem aDI (b:UInt8) (hk:KV s (.bool (pU b))):Den cx 187 [.int .u8 b.toNat] KV Kp s:=by
 have e:∀ k:UInt8,decide (b=k)=decide ((b.toNat:Int)=(k.toNat:Int)):=fun k=>by
  rw[lW];constructor
  ·rintro rfl;rfl
  ·intro h;exact nE.1 (by omega)
 unfold pU at hk;rw[show decide (b=32)=decide ((b.toNat:Int)=32) from e 32,show decide (b=9)=decide ((b.toNat:Int)=9) from e 9,show decide (b=10)=decide ((b.toNat:Int)=10) from e 10,show decide (b=13)=decide ((b.toNat:Int)=13) from e 13] at hk;(refine aZ func187 [0,2] ?_;simp only[go_sem,ntmps187,f187])
 (repeat' (first|exact aM hk dA|((refine cD (fun h=>?_) (fun h=>?_))<;>simp only[go_sem,h]<;>(try simp only[h,dY,cQ,fK,cZ,iX,fO,iI,eD,dT,fD] at hk))))
theorem aFX (x:aD) (hr:s.getO r=some (lT w i l c sg out f)) (hx:w.length≤4294967280) (hi:i≤w.length) (hp:x.length≤4294967280) (hk:KV s (.bool (kE (w.drop i) x))):Den cx 188 [.ptr r 0,.str x] KV Kp s:=by
 have e1:IntKind.i64.wrap ((w.length:Int)-(i:Int))=((w.length-i:Nat):Int):=by rw[eX _ (by omega) (by omega)];omega
 have e2:IntKind.i64.wrap ((i:Int)+(x.length:Int))=((i+x.length:Nat):Int):=by rw[eX _ (by omega) (by omega)];omega
 unfold kE at hk;rw[cP] at hk;(refine aZ func188 [0,1,4] ?_;simp only[go_sem,ntmps188,f188]);by_cases h:x.length≤w.length-i
 ·have d1:decide (x.length≤w.length-i)=true:=fC h;have b1:i≤i+x.length:=by omega
  have b2:i+x.length≤w.length:=by omega
  rw[d1] at hk;(refine aP (OT.r 0 34) [] ?_;simp only[go_sem,hr,e1,e2,d1,b1,b2]);rw[show i+x.length-i=x.length by omega];rw[dY] at hk;exact aO hk
 ·have d1:decide (x.length≤w.length-i)=false:=eL h;rw[d1] at hk;(refine aP (OT.r 0 34) [] ?_;simp only[go_sem,hr,e1,e2,d1]);exact aO hk
theorem aDW (j:Nat) (hr:s.getO r=some (lT w i l c sg out f)) (hx:w.length≤4294967280) (hj:j≤w.length) (hk:KV s (.int .i64 ((w.drop j).takeWhile fun c=>dU c.toNat).length)):Den cx 190 [.ptr r 0,.int .i64 j] KV Kp s:=by
 (refine aZ func190 [0,1,4,5,47] ?_;simp only[go_sem,ntmps190,f190])
 refine Ex.loop (ι:=Nat) (fun n=>[(0,.ptr r 0),(1,.int .i64 j),(5,.int .i64 (n:Nat))]) (fun _=>s)
  (fun n=>j+n≤w.length∧((w.drop j).takeWhile fun c=>dU c.toNat).length=n+((w.drop (j+n)).takeWhile fun c=>dU c.toNat).length) (fun n=>w.length-(j+n)) 0 ⟨hj,by simp⟩ ?_ (bA s) ?_
 ·simp only[go_sem,hr]
  try rfl
 rintro n ⟨hn,he⟩;refine bV (V:=[0,1,4,5,47]) _ _ _ _ ?_;have e2:IntKind.i64.wrap ((j:Int)+(n:Int))=((j+n:Nat):Int):=by rw[eX _ (by omega) (by omega)];omega
 have e3:IntKind.i64.wrap ((n:Int)+1)=((n+1:Nat):Int):=bP n (by omega);by_cases hlt:j+n<w.length
 ·have d1:decide (j+n<w.length)=true:=fC hlt;obtain ⟨d,v,hdr⟩:∃ d v,w.drop (j+n)=d::v:=⟨_,_,lU hlt⟩
  have hd:w[j+n]?=some d:=by
   have:=congrArg (·[0]?) hdr;simpa using this
  have hdr2:w.drop (j+(n+1))=v:=by
   rw[show j+(n+1)=j+n+1 from rfl,← kS,hdr];rfl
  have fin:dU d.toNat=true→j+(n+1)≤w.length∧((w.drop j).takeWhile fun c=>dU c.toNat).length=n+1+((w.drop (j+(n+1))).takeWhile fun c=>dU c.toNat).length:=fun hp=>by
   refine ⟨by omega,?_⟩;rw[he,hdr,sF (p:=fun c:UInt8=>dU c.toNat) hp,aF,hdr2];omega
  have stop:dU d.toNat=false→((w.drop j).takeWhile fun c=>dU c.toNat).length=n:=fun hp=>by
   rw[he,hdr,sG (p:=fun c:UInt8=>dU c.toNat) (by simp only[hp];decide)];rfl
  have ep:=aAg (d.toNat:Int);simp only[go_sem,hr,e2,d1,hd,hlt];refine aDA _ _ _ _ ?_;simp only[go_sem,hr];cases hL:gJ (d.toNat:Int) with
  | true =>
   rw[hL,fO] at ep;simp only[go_sem,hr,e3];exact ⟨n+1,fin ep,by omega,rfl,bA _⟩
  | false =>
   rw[hL,eD] at ep;simp only[go_sem,hr,e2,hd,hlt];refine aBc _ _ _ _ ?_;simp only[go_sem,hr];cases hD:fB (d.toNat:Int) with
   | true =>
    rw[hD,fO] at ep;simp only[go_sem,hr,e3];exact ⟨n+1,fin ep,by omega,rfl,bA _⟩
   | false =>
    rw[hD,eD] at ep;simp only[go_sem,hr,e2,hd,hlt];cases hU:decide ((d.toNat:Int)=95) with
    | true =>
     rw[hU] at ep;simp only[go_sem,hr,hU,e3];exact ⟨n+1,fin ep,by omega,rfl,bA _⟩
    | false =>
     rw[hU] at ep;rw[stop ep] at hk;simp only[go_sem,hr,hU];exact aO hk
 ·have d1:decide (j+n<w.length)=false:=eL hlt;simp only[go_sem,hr,e2,d1];have:j+n=w.length:=by omega
  rw[he,this,wX] at hk;exact aO hk
end
end
section
section
variable {s:St} {KV Kp:St→A→Prop} {r:Nat} {w:aD} {i l c:Nat} {sg out:A} {f:Fault}
theorem aLz (hr:s.getO r=some (lT w i l c sg out f)) (hx:w.length≤4294967280) (hi:i≤w.length) (hl:l≤i+1) (hc:c≤i+1)
  (hk:KV (s.setO r (lT w (i+dD (w.drop i)) (bY (l,c) ((w.drop i).take (dD (w.drop i)))).1 (bY (l,c) ((w.drop i).take (dD (w.drop i)))).2 sg out f)) (.tuple [])) :
  Den cx 104 [.ptr r 0] KV Kp s:=by
 (refine aZ func104 [0,27,37,61] ?_;simp only[go_sem,ntmps104,f104])
 refine Ex.loop (ι:=Nat) (fun _=>[(0,.ptr r 0)])
  (fun k=>s.setO r (lT w (i+k) (bY (l,c) ((w.drop i).take k)).1 (bY (l,c) ((w.drop i).take k)).2 sg out f))
  (fun k=>i+k≤w.length∧dD (w.drop i)=k+dD (w.drop (i+k))) (fun k=>w.length-(i+k)) 0 ⟨by omega,by simp⟩ ?_ ?_ ?_
 ·simp only[go_sem]
  try rfl
 ·simp only[Nat.add_zero,List.take_zero,bY];exact lY hr
 rintro k ⟨hkx,hb⟩;have hlen:((w.drop i).take k).length=k:=by rw[eY,cP];omega
 have hal:=nM ((w.drop i).take k) (l,c) i hl hc;rw[hlen] at hal
 have hstep:∀ m,bY (l,c) ((w.drop i).take (k+m))=bY (bY (l,c) ((w.drop i).take k)) ((w.drop (i+k)).take m):=by
  intro m;rw[List.take_add,vT,kS]
 refine bV (V:=[0,27,37,61]) _ _ _ _ ?_;by_cases hlt:i+k<w.length;rotate_left
 ·have d1:decide (i+k<w.length)=false:=eL hlt;have e0:i+k=w.length:=by omega
  rw[e0,wX,aH3,Nat.add_zero] at hb;rw[hb] at hk;(refine aP (OT.r 0 26) [] ?_;simp only[go_sem,d1]);exact aO hk
 have d1:decide (i+k<w.length)=true:=fC hlt;obtain ⟨d,v,hdr⟩:∃ d v,w.drop (i+k)=d::v:=⟨_,_,lU hlt⟩
 have hd:w[i+k]?=some d:=by
  have:=congrArg (·[0]?) hdr;simpa using this
 have one:pU d=true→i+(k+1)≤w.length∧dD (w.drop i)=k+1+dD (w.drop (i+(k+1))):=fun h=>by
  refine ⟨by omega,?_⟩;rw[hb,hdr,aGM h,show i+(k+1)=i+k+1 from rfl,← kS,hdr];simp;omega
 (refine aP (OT.r 0 26) [] ?_;simp only[go_sem,d1,hd,hlt]);refine aDI d ?_;simp only[go_sem];cases hB:pU d with
 | true =>
  simp only[go_sem];(refine aP (OT.r 0 10) [] ?_;simp only[go_sem,hd,hlt]);refine aDI d ?_;simp only[go_sem,hB];refine aBq (i:=i+k) 1 gH hx (by omega) (by omega) (by omega) ?_;simp only[go_sem];refine ⟨k+1,one hB,by omega,?_⟩;rw[hstep 1];exact bA _
 | false =>
  simp only[go_sem];refine aFX (i:=i+k) [47,47] gH hx (by omega) (by decide) ?_;rw[hdr];cases hP:kE (d::v) [47,47] with
  | false =>
   rw[hdr,aHj hB hP,Nat.add_zero] at hb;rw[hb] at hk;simp only[go_sem];exact aO hk
  | true =>
   simp only[go_sem];(refine aP (OT.r 0 10) [] ?_;simp only[go_sem,hd,hlt]);refine aDI d ?_;simp only[go_sem,hB];have ht:=aA8 hP;have hbt:=aGR hB hP;rw[← hdr] at ht hbt;generalize hT:((w.drop (i+k)).takeWhile fun c=>!decide (c=10)).length=t at ht hbt
   refine Ex.loop (ι:=Nat) (fun _=>[(0,.ptr r 0)])
    (fun m=>s.setO r (lT w (i+(k+m)) (bY (l,c) ((w.drop i).take (k+m))).1 (bY (l,c) ((w.drop i).take (k+m))).2 sg out f))
    (fun m=>i+(k+m)≤w.length∧t=m+((w.drop (i+(k+m))).takeWhile fun c=>!decide (c=10)).length) (fun m=>w.length-(i+(k+m))) 0 ⟨by omega,by simp[hT]⟩ ?_ ?_ ?_
   ·simp only[go_sem]
    try rfl
   ·exact bA _
   rintro m ⟨hmx,hm⟩;have hlen2:((w.drop i).take (k+m)).length=k+m:=by rw[eY,cP];omega
   have hal2:=nM ((w.drop i).take (k+m)) (l,c) i hl hc;rw[hlen2] at hal2;refine bV (V:=[0,27,37,61]) _ _ _ _ ?_
   have done:t=m→i+(k+t)≤w.length∧dD (w.drop i)=k+t+dD (w.drop (i+(k+t))):=fun e=>by
    subst e;refine ⟨hmx,?_⟩;rw[hb,hbt,kS,pM,pM]
   by_cases hlt2:i+(k+m)<w.length;rotate_left
   ·have d2:decide (i+(k+m)<w.length)=false:=eL hlt2;have e0:i+(k+m)=w.length:=by omega
    rw[e0,wX] at hm;have hm:t=m:=hm;(refine aP (OT.r 0 22) [] ?_;simp only[go_sem,d2]);subst hm;exact ⟨k+t,done rfl,by omega,bA _⟩
   have d2:decide (i+(k+m)<w.length)=true:=fC hlt2;obtain ⟨d',v',hdr'⟩:∃ d v,w.drop (i+(k+m))=d::v:=⟨_,_,lU hlt2⟩
   have hd':w[i+(k+m)]?=some d':=by
    have:=congrArg (·[0]?) hdr';simpa using this
   rw[hdr'] at hm
   have e10:decide ((d'.toNat:Int)=10)=decide (d'=10):=by
    rw[lW];constructor
    ·intro h;exact nE.1 (by show d'.toNat=10;omega)
    ·rintro rfl;rfl
   cases hN:decide (d'=10) with
   | true =>
    rw[sG (by simp only[hN];decide)] at hm;have hm:t=m:=hm;(refine aP (OT.r 0 22) [] ?_;simp only[go_sem,d2,hd',hlt2,e10,hN]);subst hm;exact ⟨k+t,done rfl,by omega,bA _⟩
   | false =>
    rw[sF (by simp only[hN];decide),aF] at hm;(refine aP (OT.r 0 22) [] ?_;simp only[go_sem,d2,hd',hlt2,e10,hN]);refine aBq (i:=i+(k+m)) 1 (by simp only[aJ,dN,gE,aT,ne_eq,dK,reduceIte,]<;>(first|done|rfl|assumption)) hx (by omega) (by omega) (by omega) ?_;simp only[go_sem];refine ⟨m+1,⟨by omega,?_⟩,by omega,?_⟩
    ·rw[show i+(k+(m+1))=i+(k+m)+1 by omega,← kS,hdr'];simp only[List.drop_succ_cons,rL];omega
    ·have hst:bY (l,c) ((w.drop i).take (k+(m+1)))=bY (bY (l,c) ((w.drop i).take (k+m))) ((w.drop (i+(k+m))).take 1):=by
      rw[← pM,List.take_add,vT,kS]
     rw[hst];exact bA _
end
end
theorem aO8 (c:UInt8) (w:aD):Lib.indexByte (c::w) c=0:=by
 unfold Lib.indexByte;rw[if_pos (by simp)]
theorem aCi {d c:UInt8} (w:aD) (h:¬ d=c):Lib.indexByte (d::w) c=if Lib.indexByte w c=-1 then -1 else Lib.indexByte w c+1:=by
 conv=>lhs;unfold Lib.indexByte
 rw[if_neg (by simpa using h)];simp only[beq_iff_eq]
theorem aEr:∀ (r:aD),r[(r.takeWhile eS).length]?=some 34→Lib.indexByte r 34=((r.takeWhile eS).length:Int)
 | [],h=>by simp at h
 | d::w,h=>by
  by_cases hd:eS d=true
  ·rw[sF hd,aF,List.getElem?_cons_succ] at h;have ih:=aEr w h;have hne:¬ d=34:=by rintro rfl;revert hd;decide
   rw[sF hd,aF];rw[aCi w hne];have:0≤Lib.indexByte w 34:=by rw[ih];omega
   split
   ·omega
   ·rw[ih];omega
  ·rw[sG hd,aH,kI] at h;cases h;rw[sG hd];rw[aO8];rfl
theorem aIG:∀ (r:aD),¬ r[(r.takeWhile eS).length]?=some 34→Lib.indexByte r 34<0∨(r.take (Lib.indexByte r 34).toNat).all eS=false
 | [],_=>.inl (by decide)
 | d::w,h=>by
  have hge:=Lib.indexByte_ge w 34;by_cases hd:eS d=true
  ·rw[sF hd,aF,List.getElem?_cons_succ] at h;have hne:¬ d=34:=by rintro rfl;revert hd;decide
   rcases aIG w h with ih|ih
   ·left;rw[aCi w hne];split<;>omega
   ·rw[aCi w hne];split
    ·left;omega
    ·right;rename_i h0;rw[show (Lib.indexByte w 34+1).toNat=(Lib.indexByte w 34).toNat+1 by omega,List.take_succ_cons,List.all_cons,ih,cZ]
  ·rw[sG hd,aH,kI] at h;have hne:¬ d=34:=by rintro rfl;exact h rfl
   rw[aCi w hne];split
   ·left;omega
   ·right;rename_i h0;rw[show (Lib.indexByte w 34+1).toNat=(Lib.indexByte w 34).toNat+1 by omega,List.take_succ_cons,List.all_cons,show eS d=false by simpa using hd,cQ]
theorem aDP (p:UInt8→Bool):∀ (r:aD),(r.take (r.takeWhile p).length).all p=true
 | []=>rfl
 | d::w=>by
  by_cases hd:p d=true
  ·rw[sF hd,aF,List.take_succ_cons,List.all_cons,hd,aDP p w];rfl
  ·rw[sG hd];rfl
theorem aNC (r:aD) (sg:List aD) (op:Bool) (h:r[(r.takeWhile eS).length]?=some 34∧(r.takeWhile eS).length≤200) :
  hC (34::r) sg op=(⟨3,r.take (r.takeWhile eS).length,0,0,0⟩,(r.takeWhile eS).length+2,true):=by
 have e:=aEr r h.1;simp only[hC];rw[if_neg (by decide),if_neg (by decide),if_pos trivial,e];rw[show (((r.takeWhile eS).length:Int)+2).toNat=(r.takeWhile eS).length+2 by omega,Nat.add_sub_cancel]
 have:pX (r.take (r.takeWhile eS).length)=true:=by
  unfold pX;rw[aDP,dY,eY];exact fC (by omega)
 rw[this,show decide (1<(r.takeWhile eS).length+2)=true from fC (by omega)];rfl
theorem aEE (r:aD) (sg:List aD) (op:Bool) (h:¬ (r[(r.takeWhile eS).length]?=some 34∧(r.takeWhile eS).length≤200)):(hC (34::r) sg op).2.2=false:=by
 have hge:=Lib.indexByte_ge r 34;simp only[hC];rw[if_neg (by decide),if_neg (by decide),if_pos trivial];simp only;by_cases h1:r[(r.takeWhile eS).length]?=some 34
 ·have e:=aEr r h1
  have h2:200<(r.takeWhile eS).length:=by
   by_cases h3:(r.takeWhile eS).length≤200
   ·exact absurd ⟨h1,h3⟩ h
   ·omega
  rw[e,show (((r.takeWhile eS).length:Int)+2).toNat=(r.takeWhile eS).length+2 by omega,Nat.add_sub_cancel];have hl:=yR eS r
  have:pX (r.take (r.takeWhile eS).length)=false:=by
   unfold pX;rw[eY,wY hl,show decide ((r.takeWhile eS).length≤200)=false from eL (by omega),cZ]
  rw[this,cZ]
 ·rcases aIG r h1 with h2|h2
  ·rw[show (Lib.indexByte r 34+2).toNat=1 by omega];rfl
  ·have:pX (r.take ((Lib.indexByte r 34+2).toNat-2))=false:=by
    unfold pX;rw[show (Lib.indexByte r 34+2).toNat-2=(Lib.indexByte r 34).toNat by omega,h2,cQ]
   rw[this,cZ]
def oN (n:Nat) (d:UInt8):Nat:=min (10 * n+(d.toNat-48)) 2147483648
theorem aGX:∀ (x:aD) (a:Nat),x.foldl oN (min a 2147483648)=min (x.foldl (fun n d=>n * 10+(d.toNat-48)) a) 2147483648
 | [],a=>rfl
 | d::x,a=>by
  simp only[List.foldl_cons];rw[← aGX x];congr 1;unfold oN;omega
theorem aAp (x:aD):x.foldl oN 0=min (eK x) 2147483648:=aGX x 0
theorem aH7:∀ (x:aD) (a:Nat),a * 10 ^ x.length≤x.foldl (fun n d=>n * 10+(d.toNat-48)) a
 | [],a=>by simp
 | d::x,a=>by
  simp only[List.foldl_cons,aF];refine aU ?_ (aH7 x _);rw[Nat.pow_succ,Nat.mul_comm (10 ^ x.length) 10,← Nat.mul_assoc];exact nV _ (by omega)
theorem aBH:∀ (x:aD),eK (x.dropWhile (mK 48))=eK x
 | []=>rfl
 | d::x=>by
  by_cases h:mK 48 d=true
  ·rw[List.dropWhile_cons_of_pos h,aBH x];have:d=48:=by simpa [mK] using h
   subst this;rfl
  ·rw[List.dropWhile_cons_of_neg h]
theorem aO0 (x:aD) (hd:vZ x) (hl:10<(x.dropWhile (mK 48)).length):2147483647<eK x:=by
 rw[← aBH];have hsub:∀ c,c∈x.dropWhile (mK 48)→c∈x:=fun c hc=>(List.dropWhile_sublist _).subset hc
 have hh:∀ c r,x.dropWhile (mK 48)=c::r→mK 48 c=false:=by
  intro c r h;have:=List.head?_dropWhile_not (mK 48) x;rw[h] at this;simpa using this
 generalize x.dropWhile (mK 48)=g at hl hsub hh;cases g with
 | nil=>simp at hl
 | cons c r =>
  have h1:=hh c r rfl;have h2:=hd c (hsub c (by simp))
  have h3:¬ c.toNat=48:=fun e=>by
   have:c=48:=nE.1 e;subst this;cases h1
  simp only[eK,List.foldl_cons,Nat.zero_mul,gU];refine Nat.lt_of_lt_of_le ?_ (aH7 r _);have h4:10≤r.length:=by simp only[aF] at hl;omega
  have h5:10 ^ 10≤10 ^ r.length:=Nat.pow_le_pow_right (by omega) h4;have h6:1 * 10 ^ r.length≤(c.toNat-48) * 10 ^ r.length:=nV _ (by omega);have h7:(10:Nat) ^ 10=10000000000:=by decide
  omega
theorem aIR (x:aD) (h:¬ (2147483647<eK (x.take (x.takeWhile fun c=>fB c.toNat).length)∨∃ c,x[(x.takeWhile fun c=>fB c.toNat).length]?=some c∧dU c.toNat=true)) (hd:vZ (x.take (x.takeWhile fun c=>fB c.toNat).length)) :
  mU x=(⟨2,[],eK (x.take (x.takeWhile fun c=>fB c.toNat).length),0,0⟩,(x.takeWhile fun c=>fB c.toNat).length,true):=by
 unfold mU;simp only;rw[if_neg (fun h1=>h (h1.elim (fun h2=>.inl (aO0 _ hd h2)) .inr)),aBH];rw[show decide (eK (x.take (x.takeWhile fun c=>fB c.toNat).length)≤2147483647)=true from fC (by omega)]
theorem aB4 (x:aD) (h:2147483647<eK (x.take (x.takeWhile fun c=>fB c.toNat).length)∨∃ c,x[(x.takeWhile fun c=>fB c.toNat).length]?=some c∧dU c.toNat=true):(mU x).2.2=false:=by
 unfold mU;simp only;split
 ·rfl
 ·rename_i h1;rcases h with h|h
  ·rw[aBH];exact eL (by omega)
  ·exact absurd (.inr h) h1
theorem aHn (x:aD):vZ (x.take (x.takeWhile fun c=>fB c.toNat).length):=by
 intro d hd;have:=iV.1 (aDP (fun c=>fB c.toNat) x) d hd;simp only[fB,bT,eC] at this;omega
section
def fI (s:St) (r:Nat) (w:aD) (i l c:Nat) (sg:A) (tk:Option Nat) (acc:List Tok) (f:Fault):St:=gs (s.setO r (lT w i l c sg (gv tk (acc.map Tok.enc)) f)) tk acc.length 60
section
variable {s:St} {KV Kp:St→A→Prop} {r:Nat} {w:aD} {i l c:Nat} {sg out:A} {f:Fault}
theorem aLs (b:UInt8) (hr:s.getO r=some (lT w i l c sg out f)) (hx:w.length≤4294967280) (hb:w[i]?=some b)
  (hk:KV (s.setO r (lT w i l c sg out ⟨10,[b],l,c⟩)) (.tuple [])):Den cx 191 [.ptr r 0] KV Kp s:=by
 have hi:i<w.length:=(eT.1 hb).1;have e1:IntKind.i64.wrap ((i:Int)+1)=((i+1:Nat):Int):=bP i (by omega);(refine aZ func191 [0] ?_;simp only[go_sem,ntmps191,f191]);(refine aP (OT.r 0 27) [] ?_;simp only[go_sem,hr,e1,hi,Nat.le_of_lt hi]);have et:List.take 1 (List.drop i w)=[b]:=by rw[lU hi];have:=(eT.1 hb).2;simp[this]
 refine ⟨⟨by omega,by omega⟩,?_⟩;rw[show i+1-i=1 by omega,et];exact aO hk
theorem aAa (t:Tok) (n:Nat) (tk:Option Nat) (acc:List Tok) (hn:tk=none→acc=[]) (hf:∀ u,tk=some u→s.getT u=none) (hacc:acc.length≤4294967280) (hx:w.length≤4294967280) (hi:i+n≤w.length)
  (hl:l≤i+1) (hc:c≤i+1)
  (hk:∀ u,s.getT u=none→KV (fI s r w (i+n) (bY (l,c) ((w.drop i).take n)).1 (bY (l,c) ((w.drop i).take n)).2 sg (some u) (acc++[⟨t.kind,t.text,t.n,l,c⟩]) f) (.tuple [])) :
  Den cx 192 [.ptr r 0,t.enc,.int .i64 n] KV Kp (fI s r w i l c sg tk acc f):=by
 unfold fI;(refine aZ func192 [0,1,2,4] ?_;simp only[go_sem,ntmps192,f192]);(intro b2 hb2;try simp only[aB,aT,aV,ne_eq] at hb2);simp only[go_sem,hb2]
 have hne:¬ b2=r∧¬ r=b2:=by
  constructor<;>rintro rfl<;>simp at hb2
 (refine aP (OT.r 0 12) [(9,[7])] ?_;simp only[go_sem,hb2,hne]);(refine aP (OT.r 0 11) [] ?_;simp only[go_sem,hb2,hne]);refine ⟨by decide,by simp[A.cells],cW rfl rfl (by rw[aI];exact fA fun e=>by rw[hn e];rfl) (fun y hy=>by simp only[bW] at hy;obtain ⟨z,_,rfl⟩:=hy;rfl) (by simp;omega) fun u hu=>?_⟩;have hft:s.getT u=none:=by have:=kC hu (fun v hv=>hf v hv);exact this
 rw[gY hu];simp only[go_sem,hb2,hne];refine aBq (r:=r) (i:=i) n gH hx hi hl hc ?_;simp only[go_sem,hb2];have hk':=hk u hft;unfold fI at hk';rw[cM] at hk';refine aM hk' ?_;simp only[gs,aR,aF,aH,gU];refine aGL (aGT ?_ hne.1);simp only[aT,aJ,hne,if_false,reduceIte] at hb2;exact hb2.2
theorem aLh (b:UInt8) (hk:KV s (.bool (eS b))):Den cx 263 [.str [b]] KV Kp s:=by
 (refine aZ func263 [0,2,3,5,6,7,30] ?_;simp only[go_sem,ntmps263,f263]);have ok:eS b=(decide (32≤b.toNat)&&(decide (b.toNat≤126)&&(!decide (b=34)&&!decide (b=92)))):=rfl;have f1:decide ((b.toNat:Int)<32)=!decide (32≤b.toNat):=by rw[← decide_not];congr 1;apply propext;omega
 have f2:decide ((126:Int)<b.toNat)=!decide (b.toNat≤126):=by rw[← decide_not];congr 1;apply propext;omega
 have f3:decide ((b.toNat:Int)=34)=decide (b=34):=by
  congr 1;apply propext;exact ⟨fun h=>nE.1 (by show b.toNat=34;omega),fun h=>by rw[h];rfl⟩
 have f4:decide ((b.toNat:Int)=92)=decide (b=92):=by
  congr 1;apply propext;exact ⟨fun h=>nE.1 (by show b.toNat=92;omega),fun h=>by rw[h];rfl⟩
 refine Ex.loop (ι:=Nat) (fun i=>[(0,.str [b]),(2,.bool false),(5,.int .i64 1),(6,.int .i64 i)]) (fun _=>s) (fun i=>i≤1∧(i=1→eS b=true)) (fun i=>1-i) 0 ⟨by omega,fun h=>by omega⟩ ?_ (bA s) ?_
 ·simp only[go_sem];exact ⟨rfl,rfl⟩
 rintro i ⟨hi,hok⟩;refine bV (V:=[0,2,3,5,6,7,30]) _ _ _ _ ?_;have d01:decide (((0:Nat):Int)<1)=true:=rfl;have d11:decide (((1:Nat):Int)<1)=false:=rfl;have w1:IntKind.i64.wrap (((0:Nat):Int)+1)=((1:Nat):Int):=by decide
 rcases Nat.eq_zero_or_pos i with rfl|hp
 ·simp only[go_sem,d01,f1,f2,f3,f4,w1];cases o1:decide (32≤b.toNat)<;>cases o2:decide (b.toNat≤126)<;>cases o3:decide (b=34)<;>cases o4:decide (b=92)
  all_goals (rw[o1,o2,o3,o4] at ok;simp only[go_sem,f1,f2,f3,f4,o1,o2,o3,o4,w1,Int.natCast_zero])
  all_goals first
   | (rw[ok] at hk;exact aO hk)
   | exact ⟨1,⟨by omega,fun _=>ok⟩,by omega,by decide,bA _⟩
 ·obtain rfl:i=1:=by omega
  rw[hok rfl] at hk;simp only[go_sem,d11];exact aO hk
end
section
variable {s:St} {KV Kp:St→A→Prop} {r:Nat} {w:aD} {i l c:Nat} {sg:A} {tk:Option Nat} {acc:List Tok}
def Cut1 (KV:St→A→Prop) (s:St) (r:Nat) (w:aD) (i l c:Nat) (sg:A) (tk:Option Nat) (acc:List Tok):Tok × Nat × Bool→Prop
 | (t,n,true)=>∀ u,s.getT u=none→KV (fI s r w (i+n) (bY (l,c) ((w.drop i).take n)).1 (bY (l,c) ((w.drop i).take n)).2 sg (some u) (acc++[⟨t.kind,t.text,t.n,l,c⟩]) Fault.none) (.tuple [])
 | (_,_,false)=>KV (fI s r w i l c sg tk acc ⟨10,(w.drop i).take 1,l,c⟩) (.tuple [])
theorem Cut1.bad {x:Tok × Nat × Bool} (h:x.2.2=false) (hk:Cut1 KV s r w i l c sg tk acc x):KV (fI s r w i l c sg tk acc ⟨10,(w.drop i).take 1,l,c⟩) (.tuple []):=by
 obtain ⟨t,n,b⟩:=x;cases b with
 | false=>exact hk
 | true=>cases h
theorem aBT:(fI s r w i l c sg tk acc Fault.none).getO r=some (lT w i l c sg (gv tk (acc.map Tok.enc)) Fault.none):=by
 unfold fI;rw[aT,aJ,if_pos rfl]
theorem aNK (hf:∀ u,tk=some u→s.getT u=none) (f:Fault):((fI s r w i l c sg tk acc Fault.none).setO r (lT w i l c sg (gv tk (acc.map Tok.enc)) f)).ge (fI s r w i l c sg tk acc f):=by
 unfold fI;cases tk with
 | none =>
  refine ⟨fun d x hx=>?_,fun u m hm=>hm,fun x hx=>hx⟩;simp only[gs] at hx ⊢;rw[aJ] at hx ⊢;split
  ·rename_i e;rw[if_pos e] at hx;exact hx
  ·rename_i e;rw[if_neg e] at hx;rw[aJ,if_neg e];exact hx
 | some u =>
  refine ⟨fun d x hx=>?_,fun u m hm=>hm,fun x hx=>hx⟩;simp only[gs] at hx ⊢;rw[gE,aJ] at hx;rw[aJ,gE,aJ];split
  ·rename_i e;rw[if_pos e] at hx;exact hx
  ·rename_i e;rw[if_neg e] at hx;exact hx
theorem sT (hf:∀ u,tk=some u→s.getT u=none) (hx:w.length≤4294967280) (hi:i<w.length) (hk:KV (fI s r w i l c sg tk acc ⟨10,(w.drop i).take 1,l,c⟩) (.tuple [])) :
  Den cx 191 [.ptr r 0] KV Kp (fI s r w i l c sg tk acc Fault.none):=by
 have hb:w[i]?=some w[i]:=cH hi;have et:List.take 1 (List.drop i w)=[w[i]]:=by rw[lU hi];rfl
 rw[et] at hk;refine Den.drop ?_;refine aLs w[i] aBT hx hb ?_;exact aM hk (aNK hf _)
theorem aLx (b:aD) (hw:w.drop i=34::b) (hn:tk=none→acc=[]) (hf:∀ u,tk=some u→s.getT u=none) (hacc:acc.length≤4294967280) (hx:w.length≤4294967280)
  (hl:l≤i+1) (hc:c≤i+1) (sgs:List aD) (op:Bool) (hk:Cut1 KV s r w i l c sg tk acc (hC (w.drop i) sgs op)):Den cx 195 [.ptr r 0] KV Kp (fI s r w i l c sg tk acc Fault.none):=by
 have hlen:i+1+b.length=w.length:=by have:=congrArg List.length hw;rw[cP,aF] at this;omega
 have hwb:∀ k,w[i+1+k]?=b[k]?:=fun k=>by
  have:=congrArg (·[k+1]?) hw;rw[lE] at this;simpa [pM,Nat.add_comm 1 k] using this
 have hwd:w.drop (i+1)=b:=by rw[← kS,hw];rfl
 have htl:=yR eS b;have e0:IntKind.i64.wrap ((i:Int)+1)=((i+1:Nat):Int):=bP i (by omega);have hr:=aBT (s:=s) (r:=r) (w:=w) (i:=i) (l:=l) (c:=c) (sg:=sg) (tk:=tk) (acc:=acc);rw[hw] at hk;generalize hY:fI s r w i l c sg tk acc Fault.none=Y at hr ⊢;(refine aZ func195 [0,2,25,53] ?_;simp only[go_sem,ntmps195,f195]);simp only[go_sem,hr,e0]
 refine Ex.loop (ι:=Nat) (fun k=>[(0,.ptr r 0),(2,.int .i64 ((i+1+k:Nat):Int))]) (fun _=>Y)
  (fun k=>k≤b.length∧(b.takeWhile eS).length=k+((b.drop k).takeWhile eS).length) (fun k=>b.length-k) 0 ⟨bS _,by simp⟩ ?_ (bA _) ?_
 ·simp only[go_sem,hr]
 rintro k ⟨hk1,hk2⟩;refine bV (V:=[0,2,25,53]) _ _ _ _ ?_;have ek:IntKind.i64.wrap (((i+1+k:Nat):Int)+1)=((i+1+k+1:Nat):Int):=bP _ (by omega);have ek2:IntKind.i64.wrap (((i+1+k:Nat):Int)-(i:Int))=((k+1:Nat):Int):=by rw[eX _ (by omega) (by omega)];omega
 have ek3:IntKind.i64.wrap (((k+1:Nat):Int)-1)=((k:Nat):Int):=by rw[eX _ (by omega) (by omega)];omega
 have ek4:IntKind.i64.wrap (((i+1+k+1:Nat):Int)-(i:Int))=((k+2:Nat):Int):=by rw[eX _ (by omega) (by omega)];omega
 have e200:decide ((200:Int)<((k:Nat):Int))=decide (200<k):=by congr 1;apply propext;omega
 have hwk:=hwb k;simp only[go_sem,hr,ek];by_cases hlt:k<b.length
 ·obtain ⟨d,hd⟩:∃ d,b[k]?=some d:=⟨_,cH hlt⟩
  have hwd2:w[i+1+k]?=some d:=by rw[hwk,hd]
  have hltw:i+1+k<w.length:=by omega
  have d1:decide (i+1+k<w.length)=true:=fC hltw
  have hdk:b.drop k=d::b.drop (k+1):=by
   rw[lU hlt];have:=(eT.1 hd).2;rw[this]
  simp only[go_sem,hr,d1,ek];refine ⟨⟨by omega,by omega⟩,?_⟩
  have et:List.take (i+1+k+1-(i+1+k)) (List.drop (i+1+k) w)=[d]:=by
   rw[show i+1+k+1-(i+1+k)=1 by omega,lU hltw];have:=(eT.1 hwd2).2;simp[this]
  rw[et];refine aLh d ?_;simp only[go_sem,hr];cases ho:eS d with
  | true =>
   simp only[go_sem,hr,ek];refine ⟨k+1,⟨by omega,?_⟩,by omega,?_,bA _⟩
   ·rw[hk2,hdk,sF ho,aF];omega
   ·omega
  | false =>
   rw[hdk,sG (by rw[ho];decide),aH,Nat.add_zero] at hk2;have d2:decide (i+1+k=w.length)=false:=eL (by omega);have n34:((d.toNat:Int)=34)=(d=34):=propext ⟨fun h=>nE.1 (by show d.toNat=34;omega),fun h=>by rw[h];rfl⟩;simp only[go_sem,hr,d2,hwd2,hltw,ek2,ek3,e200,n34];by_cases h34:d=34
   ·have d34:decide (d=34)=true:=fC h34;simp only[go_sem,hr,d34,ek2,ek3,e200];by_cases h200:200<k
    ·have d3:decide (200<k)=true:=fC h200;simp only[go_sem,hr,d3];rw[← hY];refine sT hf hx (by omega) ?_;simp only[go_sem,hr];exact aO (Cut1.bad (aEE b sgs op (by rw[hk2];omega)) hk)
    ·have d3:decide (200<k)=false:=eL h200;simp only[go_sem,hr,d3];(refine aP (OT.r 0 21) [] ?_;simp only[go_sem,hr,e0,ek,ek4]);refine ⟨⟨by omega,by omega⟩,?_⟩;rw[hwd,show i+1+k-(i+1)=k by omega,← hY];have ht:=aNC b sgs op (by rw[hk2,hd,h34];exact ⟨rfl,by omega⟩);rw[ht,hk2] at hk;refine aAa ⟨3,b.take k,0,0,0⟩ (k+2) tk acc hn hf hacc hx (by omega) hl hc ?_;intro u hu;simp only[go_sem,hr];exact aO (hk u hu)
   ·have d34:decide (d=34)=false:=eL h34;simp only[go_sem,hr,d34];rw[← hY];refine sT hf hx (by omega) ?_;simp only[go_sem,hr];refine aO (Cut1.bad (aEE b sgs op (by rw[hk2,hd];rintro ⟨h,_⟩;exact h34 (sM h))) hk)
 ·have d1:decide (i+1+k<w.length)=false:=eL (by omega);have d2:decide (i+1+k=w.length)=true:=fC (by omega);simp only[go_sem,hr,d1,d2];have hkb:k=b.length:=by omega
  rw[hkb,wX,List.takeWhile_nil,aH,Nat.add_zero] at hk2;rw[← hY];refine sT hf hx (by omega) ?_;simp only[go_sem,hr];exact aO (Cut1.bad (aEE b sgs op (by rw[hk2];simp)) hk)
end
end
end Go.AV
