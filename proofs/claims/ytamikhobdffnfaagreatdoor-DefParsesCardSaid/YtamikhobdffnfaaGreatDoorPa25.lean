/-
  Of DefParses.
-/
import Derived.Test.YtamikhobdffnfaaGreatDoorPa24
set_option linter.all false
set_option maxRecDepth 99999
set_option maxHeartbeats 0
namespace Go.AV
open Go Go.Proofs Tryz
section
structure GrQ {α:Type} (b1 b3 r:Nat) (s:St) (acc:List α) (tk:Option Nat) (i:Nat):Prop where
 len:acc.length≤i
 h1:s.getO b1=some (.cells 74 [.ptr r 0])
 h3:s.getO b3=some (.cells 191 [.ptr r 6])
 ne:b1≠r∧b3≠r
 nil:tk=none→acc=[]
 free:∀ t,tk=some t→s.getT t=none
def oO (T:List Tok) (fin:Fault) (d:Dc) (first:Tok) (r:Nat) (s:St) (acc:List aD) (tk:Option Nat) (i n:Nat):St :=
 gs (s.setO r (bC T fin { d with sorts:=gv tk (acc.map .str) } first i n)) tk acc.length 9
def oI (T:List Tok) (fin:Fault) (d:Dc) (first:Tok) (r:Nat) (s:St) (acc:List Cel) (tk:Option Nat) (i n:Nat):St :=
 gs (s.setO r (bC T fin { d with many:=gv tk (acc.map Cel.enc) } first i n)) tk acc.length 68
section
variable {T:List Tok} {fin:Fault} {d:Dc} {first:Tok} {i n:Nat} {s:St} {r:Nat} {KV Kp:St→A→Prop}
theorem aEF (hT:TOk T) (b1:Nat) (old:Bool) (h1:s.getO b1=some (.cells 74 [.ptr r 0])) (hr:s.getO r=some (bC T fin d first i n)) (hi:i+1≤T.length)
  (hk:match old with|true=>PB s r Kp (eG fin 14 (T.drop i))|false=>KV (s.setO r (bC T fin d first (i+1) n)) (.tuple [])):Den cx 225 [.bool old,.ptr b1 0] KV Kp s:=by
 have hlen:=hT.len;have hr2:=hr;simp only[go_sem] at hr2;(refine aZ func225 [0,1,3] ?_;simp only[go_sem,ntmps225,f225]);cases old with
 | true =>
  simp only[go_sem,h1];refine nZ 14 hr (by omega) hT ?_;exact hk.here hr
 | false =>
  simp only[go_sem,h1,hr2,bP i (by omega)];exact aO hk
theorem aMZ (hT:TOk T) (b1 b3:Nat) (acc:List aD) (tk:Option Nat) (hQ:GrQ b1 b3 r s acc tk i) (hi:i≤T.length) (hn:n≤2000)
  (hk : (mB fin 40 acc.length (T.drop i) n fun w n => dS fin w n).to (fun a w n' => ∀ j y,i + 1 ≤ j → j ≤ T.length → T.drop j = w → n' ≤ 2000 → GrQ b1 b3 r s (acc ++ [a]) y j → KV (oO T fin d first r s (acc ++ [a]) y j n') (.bool true))
   (fun f=>∀ s1 o,s1.gx s r→s1.getO r=some o→Kp s1 (.iface 36 f.enc))):Den cx 147 [.ptr b1 0,.ptr b3 0] KV Kp (oO T fin d first r s acc tk i n):=by
 obtain ⟨hac,h1,h3,⟨n1,n3⟩,hnil,hfree⟩:=hQ;have hlenT:=hT.len;have hg:lS (oO T fin d first r s acc tk i n) tk (acc.map A.str).length 9:=by rw[aI];exact fA fun e=>by rw[hnil e];rfl
 (refine aZ func147 [0,1,2,3,14] ?_;simp only[go_sem,ntmps147,f147]);unfold oO;have n1S:=n1.symm;have n3S:=n3.symm;simp only[go_sem,h1,h3,n1,n1.symm,n3,n3.symm];refine kB (d:={ d with sorts:=gv tk (acc.map A.str) }) (T:=T) (fin:=fin) (first:=first) (i:=i) (n:=n) gH hi ?_;cases hw:T.drop i with
 | nil=>rw[hw] at hk;exact aO (hk _ (bC T fin { d with sorts:=gv tk (acc.map A.str) } first i n) aQ gH)
 | cons t w =>
  obtain ⟨g1,g2,g3,g4⟩:=lI hw;rw[hw] at hk
  have hsome:(t.free=true→¬ 40≤acc.length)→(dS fin (T.drop i) n).to (fun a w n'=>∀ j y,i+1≤j→j≤T.length→T.drop j=w→n'≤2000→GrQ b1 b3 r s (acc++[a]) y j→KV (oO T fin d first r s (acc++[a]) y j n') (.bool true))
    (fun f=>∀ s1 o,s1.gx s r→s1.getO r=some o→Kp s1 (.iface 36 f.enc)):=fun h=>by
   rw[hw];simp only[mB] at hk;rw[if_neg (fun hc=>h hc.1 hc.2)] at hk;exact hk
  simp only[go_sem,h1,h3,n1,n1.symm,n3,n3.symm];(intro b5 hb5;try simp only[aB,aT,aV,ne_eq] at hb5);have e53:=cF h3 hb5.2;have e51:=cF h1 hb5.2;simp only[go_sem,h1,h3,n1,n1.symm,n3,n3.symm,hb5,e53,e51];cases c1:decide (t.kind=1)
  ·have hk5:=hsome (fun hf=>by simp[Tok.free,c1] at hf);simp only[go_sem,h1,h3,n1,n1.symm,n3,n3.symm,hb5,e53,e51,c1];(refine aP (OT.r 0 14) [(7,[0,1,5]),(9,[0])] ?_;simp only[go_sem,h1,h3,n1,n1.symm,n3,n3.symm,hb5,e53,e51]);refine iC (d:={ d with sorts:=gv tk (acc.map A.str) }) (T:=T) (fin:=fin) (first:=first) (i:=i) (n:=n) gH hi hT (aW hk5 (fun x w2 m2 hk6 hlt hw2 hm2=>?_) (fun f h=>dG aQ h));subst m2;have hj:i+1≤i+1:=bE _;simp only[go_sem,h1,h3,n1,n1.symm,n3,n3.symm,hb5,e53,e51];refine ⟨by decide,fun y hy=>by simp only[cE] at hy;subst hy;rfl,cW rfl rfl (by rw[aI];exact fA fun e=>by rw[hnil e];rfl) (fun y hy=>?_) (by simp only[aI,aF,aH];omega) (fun u hu=>?_)⟩
   ·simp only[bW] at hy;obtain ⟨q,_,rfl⟩:=hy;rfl
   have hfu:=kC hu hfree;rw[gY hu];simp only[go_sem,h1,h3,n1,n1.symm,n3,n3.symm,hb5,e53,e51];have hk7:=hk6 (i+1) (some u) hj hlt hw2 hn ⟨by simp only[aR,aF,aH];omega,h1,h3,⟨n1,n3⟩,fun e=>(by cases e),fun t' e=>by cases e;exact hfu⟩;refine aM hk7 ?_;simp only[oO,cL,cM,bK,bQ,aR,aF,aH,aI];exact aL
  simp only[go_sem,h1,h3,n1,n1.symm,n3,n3.symm,hb5,e53,e51,c1];refine sI _ _ _ _ ?_;simp only[go_sem,h1,h3,n1,n1.symm,n3,n3.symm,hb5,e53,e51];cases c2:decide (t.text∈jL);rotate_left
  ·have hk5:=hsome (fun hf=>by simp[Tok.free,c2] at hf);simp only[go_sem,h1,h3,n1,n1.symm,n3,n3.symm,hb5,e53,e51,c2];(refine aP (OT.r 0 14) [(7,[0,1,5]),(9,[0])] ?_;simp only[go_sem,h1,h3,n1,n1.symm,n3,n3.symm,hb5,e53,e51]);refine iC (d:={ d with sorts:=gv tk (acc.map A.str) }) (T:=T) (fin:=fin) (first:=first) (i:=i) (n:=n) gH hi hT (aW hk5 (fun x w2 m2 hk6 hlt hw2 hm2=>?_) (fun f h=>dG aQ h));subst m2;have hj:i+1≤i+1:=bE _;simp only[go_sem,h1,h3,n1,n1.symm,n3,n3.symm,hb5,e53,e51];refine ⟨by decide,fun y hy=>by simp only[cE] at hy;subst hy;rfl,cW rfl rfl (by rw[aI];exact fA fun e=>by rw[hnil e];rfl) (fun y hy=>?_) (by simp only[aI,aF,aH];omega) (fun u hu=>?_)⟩
   ·simp only[bW] at hy;obtain ⟨q,_,rfl⟩:=hy;rfl
   have hfu:=kC hu hfree;rw[gY hu];simp only[go_sem,h1,h3,n1,n1.symm,n3,n3.symm,hb5,e53,e51];have hk7:=hk6 (i+1) (some u) hj hlt hw2 hn ⟨by simp only[aR,aF,aH];omega,h1,h3,⟨n1,n3⟩,fun e=>(by cases e),fun t' e=>by cases e;exact hfu⟩;refine aM hk7 ?_;simp only[oO,cL,cM,bK,bQ,aR,aF,aH,aI];exact aL
  simp only[go_sem,h1,h3,n1,n1.symm,n3,n3.symm,hb5,e53,e51,c2];(refine aP (OT.r 0 8) [] ?_;simp only[go_sem,h1,h3,n1,n1.symm,n3,n3.symm,hb5,e53,e51,gV hg]);refine mP (d:={ d with sorts:=gv tk (acc.map A.str) }) (T:=T) (fin:=fin) (first:=first) (i:=i) (n:=n) _ _ gH hi ?_;by_cases h8:40≤acc.length
  ·rw[if_pos (by omega),hw];simp only[mB] at hk;rw[if_pos ⟨by simp[Tok.free,c1,c2],h8⟩] at hk;exact dG aQ hk
  rw[if_neg (by omega)];have hk5:=hsome (fun _=>h8);simp only[go_sem,h1,h3,n1,n1.symm,n3,n3.symm,hb5,e53,e51];(refine aP (OT.r 0 14) [(7,[0,1,5]),(9,[0])] ?_;simp only[go_sem,h1,h3,n1,n1.symm,n3,n3.symm,hb5,e53,e51]);refine iC (d:={ d with sorts:=gv tk (acc.map A.str) }) (T:=T) (fin:=fin) (first:=first) (i:=i) (n:=n) gH hi hT (aW hk5 (fun x w2 m2 hk6 hlt hw2 hm2=>?_) (fun f h=>dG aQ h));subst m2;have hj:i+1≤i+1:=bE _;simp only[go_sem,h1,h3,n1,n1.symm,n3,n3.symm,hb5,e53,e51];refine ⟨by decide,fun y hy=>by simp only[cE] at hy;subst hy;rfl,cW rfl rfl (by rw[aI];exact fA fun e=>by rw[hnil e];rfl) (fun y hy=>?_) (by simp only[aI,aF,aH];omega) (fun u hu=>?_)⟩
  ·simp only[bW] at hy;obtain ⟨q,_,rfl⟩:=hy;rfl
  have hfu:=kC hu hfree;rw[gY hu];simp only[go_sem,h1,h3,n1,n1.symm,n3,n3.symm,hb5,e53,e51];have hk7:=hk6 (i+1) (some u) hj hlt hw2 hn ⟨by simp only[aR,aF,aH];omega,h1,h3,⟨n1,n3⟩,fun e=>(by cases e),fun t' e=>by cases e;exact hfu⟩;refine aM hk7 ?_;simp only[oO,cL,cM,bK,bQ,aR,aF,aH,aI];exact aL
theorem aMC (hT:TOk T) (b1 b3:Nat) (acc:List Cel) (tk:Option Nat) (hQ:GrQ b1 b3 r s acc tk i) (hi:i≤T.length) (hn:n≤2000)
  (hk : (mB fin 12 acc.length (T.drop i) n fun w n => uQ false fin w n).to (fun a w n' => ∀ j y,i + 1 ≤ j → j ≤ T.length → T.drop j = w → n' ≤ 2000 → GrQ b1 b3 r s (acc ++ [a]) y j → KV (oI T fin d first r s (acc ++ [a]) y j n') (.bool true))
   (fun f=>∀ s1 o,s1.gx s r→s1.getO r=some o→Kp s1 (.iface 36 f.enc))):Den cx 227 [.ptr b1 0,.ptr b3 0] KV Kp (oI T fin d first r s acc tk i n):=by
 obtain ⟨hac,h1,h3,⟨n1,n3⟩,hnil,hfree⟩:=hQ;have hlenT:=hT.len;have hg:lS (oI T fin d first r s acc tk i n) tk (acc.map Cel.enc).length 68:=by rw[aI];exact fA fun e=>by rw[hnil e];rfl
 (refine aZ func227 [0,1,2,3,14] ?_;simp only[go_sem,ntmps227,f227]);unfold oI;have n1S:=n1.symm;have n3S:=n3.symm;simp only[go_sem,h1,h3,n1,n1.symm,n3,n3.symm];refine kB (d:={ d with many:=gv tk (acc.map Cel.enc) }) (T:=T) (fin:=fin) (first:=first) (i:=i) (n:=n) gH hi ?_;cases hw:T.drop i with
 | nil=>rw[hw] at hk;exact aO (hk _ (bC T fin { d with many:=gv tk (acc.map Cel.enc) } first i n) aQ gH)
 | cons t w =>
  obtain ⟨g1,g2,g3,g4⟩:=lI hw;rw[hw] at hk
  have hsome:(t.free=true→¬ 12≤acc.length)→(uQ false fin (T.drop i) n).to (fun a w n'=>∀ j y,i+1≤j→j≤T.length→T.drop j=w→n'≤2000→GrQ b1 b3 r s (acc++[a]) y j→KV (oI T fin d first r s (acc++[a]) y j n') (.bool true))
    (fun f=>∀ s1 o,s1.gx s r→s1.getO r=some o→Kp s1 (.iface 36 f.enc)):=fun h=>by
   rw[hw];simp only[mB] at hk;rw[if_neg (fun hc=>h hc.1 hc.2)] at hk;exact hk
  simp only[go_sem,h1,h3,n1,n1.symm,n3,n3.symm];(intro b5 hb5;try simp only[aB,aT,aV,ne_eq] at hb5);have e53:=cF h3 hb5.2;have e51:=cF h1 hb5.2;simp only[go_sem,h1,h3,n1,n1.symm,n3,n3.symm,hb5,e53,e51];cases c1:decide (t.kind=1)
  ·have hk5:=hsome (fun hf=>by simp[Tok.free,c1] at hf);simp only[go_sem,h1,h3,n1,n1.symm,n3,n3.symm,hb5,e53,e51,c1];(refine aP (OT.r 0 12) [(6,[0,1,4]),(8,[0])] ?_;simp only[go_sem,h1,h3,n1,n1.symm,n3,n3.symm,hb5,e53,e51]);refine aBP (d:={ d with many:=gv tk (acc.map Cel.enc) }) (T:=T) (fin:=fin) (first:=first) (i:=i) (n:=n) hT gH hi hn (aW hk5 (fun x w2 m2 hk6 j hj hlt hw2 hm2=>?_) (fun f h=>dG aQ h));simp only[go_sem,h1,h3,n1,n1.symm,n3,n3.symm,hb5,e53,e51];refine ⟨by decide,fun y hy=>by simp only[cE] at hy;subst hy;rfl,cW rfl rfl (by rw[aI];exact fA fun e=>by rw[hnil e];rfl) (fun y hy=>?_) (by simp only[aI,aF,aH];omega) (fun u hu=>?_)⟩
   ·simp only[bW] at hy;obtain ⟨q,_,rfl⟩:=hy;rfl
   have hfu:=kC hu hfree;rw[gY hu];simp only[go_sem,h1,h3,n1,n1.symm,n3,n3.symm,hb5,e53,e51];have hk7:=hk6 j (some u) hj hlt hw2 hm2 ⟨by simp only[aR,aF,aH];omega,h1,h3,⟨n1,n3⟩,fun e=>(by cases e),fun t' e=>by cases e;exact hfu⟩;refine aM hk7 ?_;simp only[oI,cL,cM,bK,bQ,aR,aF,aH,aI];exact aL
  simp only[go_sem,h1,h3,n1,n1.symm,n3,n3.symm,hb5,e53,e51,c1];refine sI _ _ _ _ ?_;simp only[go_sem,h1,h3,n1,n1.symm,n3,n3.symm,hb5,e53,e51];cases c2:decide (t.text∈jL);rotate_left
  ·have hk5:=hsome (fun hf=>by simp[Tok.free,c2] at hf);simp only[go_sem,h1,h3,n1,n1.symm,n3,n3.symm,hb5,e53,e51,c2];(refine aP (OT.r 0 12) [(6,[0,1,4]),(8,[0])] ?_;simp only[go_sem,h1,h3,n1,n1.symm,n3,n3.symm,hb5,e53,e51]);refine aBP (d:={ d with many:=gv tk (acc.map Cel.enc) }) (T:=T) (fin:=fin) (first:=first) (i:=i) (n:=n) hT gH hi hn (aW hk5 (fun x w2 m2 hk6 j hj hlt hw2 hm2=>?_) (fun f h=>dG aQ h));simp only[go_sem,h1,h3,n1,n1.symm,n3,n3.symm,hb5,e53,e51];refine ⟨by decide,fun y hy=>by simp only[cE] at hy;subst hy;rfl,cW rfl rfl (by rw[aI];exact fA fun e=>by rw[hnil e];rfl) (fun y hy=>?_) (by simp only[aI,aF,aH];omega) (fun u hu=>?_)⟩
   ·simp only[bW] at hy;obtain ⟨q,_,rfl⟩:=hy;rfl
   have hfu:=kC hu hfree;rw[gY hu];simp only[go_sem,h1,h3,n1,n1.symm,n3,n3.symm,hb5,e53,e51];have hk7:=hk6 j (some u) hj hlt hw2 hm2 ⟨by simp only[aR,aF,aH];omega,h1,h3,⟨n1,n3⟩,fun e=>(by cases e),fun t' e=>by cases e;exact hfu⟩;refine aM hk7 ?_;simp only[oI,cL,cM,bK,bQ,aR,aF,aH,aI];exact aL
  simp only[go_sem,h1,h3,n1,n1.symm,n3,n3.symm,hb5,e53,e51,c2];(refine aP (OT.r 0 7) [] ?_;simp only[go_sem,h1,h3,n1,n1.symm,n3,n3.symm,hb5,e53,e51,gV hg]);refine mP (d:={ d with many:=gv tk (acc.map Cel.enc) }) (T:=T) (fin:=fin) (first:=first) (i:=i) (n:=n) _ _ gH hi ?_;by_cases h8:12≤acc.length
  ·rw[if_pos (by omega),hw];simp only[mB] at hk;rw[if_pos ⟨by simp[Tok.free,c1,c2],h8⟩] at hk;exact dG aQ hk
  rw[if_neg (by omega)];have hk5:=hsome (fun _=>h8);simp only[go_sem,h1,h3,n1,n1.symm,n3,n3.symm,hb5,e53,e51];(refine aP (OT.r 0 12) [(6,[0,1,4]),(8,[0])] ?_;simp only[go_sem,h1,h3,n1,n1.symm,n3,n3.symm,hb5,e53,e51]);refine aBP (d:={ d with many:=gv tk (acc.map Cel.enc) }) (T:=T) (fin:=fin) (first:=first) (i:=i) (n:=n) hT gH hi hn (aW hk5 (fun x w2 m2 hk6 j hj hlt hw2 hm2=>?_) (fun f h=>dG aQ h));simp only[go_sem,h1,h3,n1,n1.symm,n3,n3.symm,hb5,e53,e51];refine ⟨by decide,fun y hy=>by simp only[cE] at hy;subst hy;rfl,cW rfl rfl (by rw[aI];exact fA fun e=>by rw[hnil e];rfl) (fun y hy=>?_) (by simp only[aI,aF,aH];omega) (fun u hu=>?_)⟩
  ·simp only[bW] at hy;obtain ⟨q,_,rfl⟩:=hy;rfl
  have hfu:=kC hu hfree;rw[gY hu];simp only[go_sem,h1,h3,n1,n1.symm,n3,n3.symm,hb5,e53,e51];have hk7:=hk6 j (some u) hj hlt hw2 hm2 ⟨by simp only[aR,aF,aH];omega,h1,h3,⟨n1,n3⟩,fun e=>(by cases e),fun t' e=>by cases e;exact hfu⟩;refine aM hk7 ?_;simp only[oI,cL,cM,bK,bQ,aR,aF,aH,aI];exact aL
end
end
section
structure DOwn where
 so:Option Nat
 be:Option Nat
 op:Option Nat
 fu:Option Nat
 va:Option Nat
 eq:Option Nat
 on:Option Nat
 ma:Option Nat
 ru:Option Nat
def aE (d:Dfn) (o:DOwn):Dc:=⟨d.name,gv o.so (d.sig.sorts.map .str),gv o.be (d.sig.below.map Below.enc),gv o.op (d.sig.ops.map Opr.enc),gv o.fu (d.sig.funs.map Opr.enc),gv o.va (d.sig.values.map .str),
 gv o.eq (d.eqs.map Eqn.enc),gv o.on (d.once.map Cel.enc),d.kind,gv o.ma (d.many.map Cel.enc),gv o.ru (d.rules.map Rul.enc),d.start,d.watch⟩
def aN (d:Dfn) (o:DOwn):List eR:=[(o.so,d.sig.sorts.length,9),(o.be,d.sig.below.length,104),(o.op,d.sig.ops.length,73),(o.fu,d.sig.funs.length,73),(o.va,d.sig.values.length,9),
 (o.eq,d.eqs.length,80),(o.on,d.once.length,68),(o.ma,d.many.length,68),(o.ru,d.rules.length,84)]
def lD (T:List Tok) (fin:Fault) (first:Tok) (r:Nat) (s:St) (d:Dfn) (o:DOwn) (i n:Nat):St:=cY (s.setO r (bC T fin (aE d o) first i n)) (aN d o)
structure ItQ (s:St) (d:Dfn) (o:DOwn) (i:Nat):Prop where
 own:OwnOk s (aN d o)
 len:∀ a,a∈aN d o→a.2.1≤i
theorem ItQ.le {s:St} {d:Dfn} {o:DOwn} {i j:Nat} (h:ItQ s d o i) (hj:i≤j):ItQ s d o j:=⟨h.own,fun a ha=>aU (h.len a ha) hj⟩
theorem ItQ.set {s:St} {d d':Dfn} {o o':DOwn} {i j k:Nat} {a:eR} (h:ItQ s d o i) (he:aN d' o'=(aN d o).set k a) (hown:OwnOk s ((aN d o).set k a)) (hj:i≤j) (ha:a.2.1≤j):ItQ s d' o' j :=
 ⟨by rw [he]; exact hown,fun b hb => by
  rw[he] at hb;rcases wS hb with hb|rfl
  ·exact aU (h.len b hb) hj
  ·exact ha⟩
attribute [go_sem] aE
section
variable {T:List Tok} {fin:Fault} {d:Dfn} {o:DOwn} {first:Tok} {i n:Nat} {s:St} {r:Nat} {KV Kp:St→A→Prop}
theorem GrQ.setT {α:Type} {b1 b3 r:Nat} {s:St} {acc:List α} {tk:Option Nat} {i t:Nat} {v:Nat × TypeId} (h:GrQ b1 b3 r s acc tk i) (ht:tk≠some t):GrQ b1 b3 r (s.setT t v) acc tk i :=
 ⟨h.len,h.h1,h.h3,h.ne,h.nil,fun u hu=>by rw[cO,if_neg (fun e=>ht (by rw[hu,e]))];exact h.free u hu⟩
theorem GrQ.unT {α:Type} {b1 b3 r:Nat} {s:St} {acc:List α} {tk:Option Nat} {i t:Nat} {v:Nat × TypeId} (h:GrQ b1 b3 r (s.setT t v) acc tk i):tk≠some t∧∀ u,tk=some u→s.getT u=none:=by
 have h1:tk≠some t:=fun e=>by
  have:=h.free t e;rw[cO,if_pos rfl] at this;cases this
 refine ⟨h1,fun u hu=>?_⟩;have:=h.free u hu;rw[cO] at this;split at this
 ·cases this
 ·exact this
theorem GrQ.dropT {α:Type} {b1 b3 r:Nat} {s:St} {acc:List α} {tk:Option Nat} {i t:Nat} {v:Nat × TypeId} (h:GrQ b1 b3 r (s.setT t v) acc tk i):GrQ b1 b3 r s acc tk i :=
 ⟨h.len,h.h1,h.h3,h.ne,h.nil,h.unT.2⟩
theorem aH4 {α:Type} {b1 b3 r:Nat} {s X:St} {acc:List α} {tk:Option Nat} {i n t:Nat} {e:TypeId} (h:GrQ b1 b3 r s acc tk i) (ht:(gs X tk n e).getT t=none) (hX:X.getT t=s.getT t:=by rfl):tk≠some t∧s.getT t=none:=by
 rw[eZ] at ht;split at ht
 ·cases ht
 ·rename_i e;exact ⟨e,by rw[← hX];exact ht⟩
theorem aHO {X:St} {r:Nat} {x:Ob} {tk:Option Nat} {n t:Nat} {e:TypeId} {v u:Nat × TypeId} (h:tk≠some t):((gs ((X.setT t v).setO r x) tk n e).setT t u).ge (gs ((X.setT t u).setO r x) tk n e):=by
 refine ⟨fun b o ho=>by rw[gE];rw[aT] at *;exact ho,fun c m hm=>?_,fun y hy=>by cases tk<;>exact hy⟩;rw[eZ,getT_setO,cO] at hm;rw[cO,eZ,getT_setO,cO];by_cases htc:t=c
 ·subst htc;rw[if_neg h,if_pos rfl] at hm;rw[if_pos rfl];exact hm
 ·rw[if_neg htc] at hm ⊢;rw[if_neg htc];exact hm
theorem aGt {X:St} {r:Nat} {x:Ob} {tk:Option Nat} {n t:Nat} {e:TypeId} {v:Nat × TypeId} (h:X.getT t=none):(gs ((X.setT t v).setO r x) tk n e).ge (gs (X.setO r x) tk n e) :=
 aHW (fun b o ho=>ho) (fun y hy=>hy) (fun c m _ hm=>by
  show (X.setT t v).getT c=some m;have hm':X.getT c=some m:=hm;rw[cO];by_cases htc:t=c
  ·subst htc;rw[h] at hm';cases hm'
  ·rw[if_neg htc];exact hm')
theorem aMt (hT:TOk T) (t:Tok) (w:List Tok) (hw:T.drop i=t::w) (hQ:ItQ s d o i) (hn:n≤2000)
  (hk : (tC false fin d t w n).to (fun d' w n' => ∀ j o',i + 1 ≤ j → j ≤ T.length → T.drop j = w → n' ≤ 2000 → ItQ s d' o' j → KV (lD T fin first r s d' o' j n') (.tuple []))
   (fun f=>∀ s1 x,s1.gx s r→s1.getO r=some x→Kp s1 (.iface 36 f.enc))):Den cx 155 [.ptr r 0,t.enc] KV Kp (lD T fin first r s d o i n):=by
 obtain ⟨g1,g2,g3,g4⟩:=lI hw;have hi:i≤T.length:=by omega
 have hlenT:=hT.len;have hown:=hQ.own;have hfr:=hown.free;have hgon:iP (gv o.on (d.once.map Cel.enc))=some (.int .i64 (d.once.map Cel.enc).length):=gV (by rw[aI];exact mR hown (k:=6) rfl);have wAT:∀ x:aD,bI x (T.drop i)=dC t x:=fun x=>by rw[hw];rfl
 simp only[go_sem];(refine aZ func155 [0,1,2,4,5,12,27,42,70] ?_;simp only[go_sem,ntmps155,f155]);unfold lD;(intro b2 hb2;try simp only[aB,aT,aV,ne_eq] at hb2);simp only[go_sem,aB,hb2];(intro b3 hb3;try simp only[aB,aT,aV,ne_eq] at hb3);simp only[go_sem,aB,hb2,hb3];(intro b4 hb4;try simp only[aB,aT,aV,ne_eq] at hb4);simp only[go_sem,aB,hb2,hb3,hb4];refine nN (d:=aE d o) (T:=T) (fin:=fin) (first:=first) (i:=i) (n:=n) _ gH hi ?_;rw[wAT];cases c1:dC t [115,116,97,114,116];rotate_left
 ·
  rw[tC,if_pos c1] at hk;simp only[go_sem,aB,hb2,hb3,hb4];refine aEF hT b2 _ (d:=aE d o) (T:=T) (fin:=fin) (first:=first) (i:=i) (n:=n) gH gH g2 ?_;cases cs:decide (d.start=[])
  ·rw[if_neg (by simpa using cs),eH] at hk;rw[hw];exact dG aQ hk
  rw[if_pos (by simpa using cs),bL,← g3] at hk;simp only[dT];simp only[go_sem,aB,hb2,hb3,hb4];(refine aP (OT.r 0 6) [(2,[0])] ?_;simp only[go_sem,aB,hb2,hb3,hb4]);refine iC (d:=aE d o) (T:=T) (fin:=fin) (first:=first) (i:=i+1) (n:=n) gH g2 hT (aW hk (fun x w2 m2 hk2 hlt2 hw2 hm2=>?_) (fun f h=>dG aQ h));rw[bU] at hk2;subst m2;simp only[go_sem,aB,hb2,hb3,hb4];have hk3:=hk2 (i+1+1) o (by omega) hlt2 hw2 hn ⟨hQ.own,fun a ha=>aU (hQ.len a ha) (by omega)⟩;refine aM hk3 ?_;refine cR (l:=aN d o) ?_;simp only[aE];exact aL
 simp only[go_sem,aB,hb2,hb3,hb4];refine nN (d:=aE d o) (T:=T) (fin:=fin) (first:=first) (i:=i) (n:=n) _ gH hi ?_;rw[wAT];cases c2:dC t [119,97,116,99,104];rotate_left
 ·
  rw[tC,if_neg (by simp[c1]),if_pos c2] at hk;simp only[go_sem,aB,hb2,hb3,hb4];refine aEF hT b2 _ (d:=aE d o) (T:=T) (fin:=fin) (first:=first) (i:=i) (n:=n) gH gH g2 ?_;cases cs:decide (d.watch=[])
  ·rw[if_neg (by simpa using cs),eH] at hk;rw[hw];exact dG aQ hk
  rw[if_pos (by simpa using cs),bL,← g3] at hk;simp only[dT];simp only[go_sem,aB,hb2,hb3,hb4];(refine aP (OT.r 0 6) [(2,[0])] ?_;simp only[go_sem,aB,hb2,hb3,hb4]);refine iC (d:=aE d o) (T:=T) (fin:=fin) (first:=first) (i:=i+1) (n:=n) gH g2 hT (aW hk (fun x w2 m2 hk2 hlt2 hw2 hm2=>?_) (fun f h=>dG aQ h));rw[bU] at hk2;subst m2;simp only[go_sem,aB,hb2,hb3,hb4];have hk3:=hk2 (i+1+1) o (by omega) hlt2 hw2 hn ⟨hQ.own,fun a ha=>aU (hQ.len a ha) (by omega)⟩;refine aM hk3 ?_;refine cR (l:=aN d o) ?_;simp only[aE];exact aL
 simp only[go_sem,aB,hb2,hb3,hb4];refine nN (d:=aE d o) (T:=T) (fin:=fin) (first:=first) (i:=i) (n:=n) _ gH hi ?_;rw[wAT];cases c3:dC t [99,101,108,108];rotate_left
 ·
  rw[tC,if_neg (by simp[c1]),if_neg (by simp[c2]),if_pos c3] at hk;simp only[go_sem,aB,hb2,hb3,hb4];(refine aP (OT.r 0 7) [] ?_;simp only[go_sem,aB,hb2,hb3,hb4,hgon]);refine mP (d:=aE d o) (T:=T) (fin:=fin) (first:=first) (i:=i) (n:=n) _ _ gH hi ?_;by_cases h12:12≤d.once.length
  ·rw[if_pos h12,eH] at hk;rw[if_pos (by (try simp only[aI]);omega),hw];exact dG aQ hk
  rw[if_neg h12,bL,← g3] at hk;rw[if_neg (by (try simp only[aI]);omega)];simp only[go_sem,aB,hb2,hb3,hb4,bP i (by omega)];(refine aP (OT.r 0 12) [(6,[0,1,4]),(8,[0])] ?_;simp only[go_sem,aB,hb2,hb3,hb4]);refine aBP (d:=aE d o) (T:=T) (fin:=fin) (first:=first) (i:=i+1) (n:=n) hT gH g2 hn (aW hk (fun x w2 m2 hk2 j hj hjT hw2 hm2=>?_) (fun f h=>dG aQ h));rw[bU] at hk2;simp only[go_sem,aB,hb2,hb3,hb4];refine ⟨by decide,fun y hy=>by simp only[cE] at hy;subst hy;rfl,cW rfl rfl (by rw[aI];refine fV hown (k:=6) (o:=(o.on,d.once.length,68)) rfl ?_;exact fun _=>rfl) (fun y hy=>?_) (by have:=hQ.len (o.on,d.once.length,68) (by simp[aN]);simp only[aI,aF,aH];simp only at this;omega) (fun u hu=>?_)⟩
  ·simp only[bW] at hy;obtain ⟨q,_,rfl⟩:=hy;rfl
  have hown2:=fX hown (k:=6) (o:=(o.on,d.once.length,68)) rfl hu (fun _=>rfl) (d.once.length+1);simp only[go_sem,aB,hb2,hb3,hb4];have hk3:=hk2 j { o with on:=some u } (by omega) hjT hw2 hm2 (ItQ.set (k:=6) hQ (by simp[aN]) hown2 (by omega) (by have:=hQ.len (o.on,d.once.length,68) (by simp[aN]);simp only at this ⊢;omega));refine aM hk3 (St.ge.trans (fW hown (k:=6) (o:=(o.on,d.once.length,68)) rfl hown2 (fun _=>rfl)) ?_);unfold lD;rw[show aN { d with once:=d.once++[x] } { o with on:=some u }=(aN d o).set 6 (some u,d.once.length+1,68) by simp[aN]];refine cR ?_;simp only[aE,cL,cM,bK,bQ];exact aL
 simp only[go_sem,aB,hb2,hb3,hb4];refine nN (d:=aE d o) (T:=T) (fin:=fin) (first:=first) (i:=i) (n:=n) _ gH hi ?_;rw[wAT];cases c4:dC t [109,97,110,121];rotate_left
 ·
  rw[tC,if_neg (by simp[c1]),if_neg (by simp[c2]),if_neg (by simp[c3]),if_pos c4] at hk;simp only[go_sem,aB,hb2,hb3,hb4];refine aEF hT b2 _ (d:=aE d o) (T:=T) (fin:=fin) (first:=first) (i:=i) (n:=n) gH gH g2 ?_;cases cs:decide (d.kind=[])
  ·rw[if_neg (by simpa using cs),eH] at hk;rw[hw];exact dG aQ hk
  rw[if_pos (by simpa using cs),bL,← g3] at hk;simp only[dT];simp only[go_sem,aB,hb2,hb3,hb4];(refine aP (OT.r 0 6) [(2,[0])] ?_;simp only[go_sem,aB,hb2,hb3,hb4]);refine iC (d:=aE d o) (T:=T) (fin:=fin) (first:=first) (i:=i+1) (n:=n) gH g2 hT (aW hk (fun x w2 m2 hk2 hlt2 hw2 hm2=>?_) (fun f h=>dG aQ h));subst m2;rw[← hw2,bL] at hk2;simp only[go_sem,aB,hb2,hb3,hb4];refine fH (d:=aE { d with kind:=x } o) (T:=T) (fin:=fin) (first:=first) (i:=i+1+1) (n:=n) _ gH hlt2 hT (aW hk2 (fun _ w3 m3 hk3 hlt3 hw3 hm3=>?_) (fun f h=>dG aQ h));subst m3;rw[← hw3,bL] at hk3;simp only[go_sem,aB,hb2,hb3,hb4];have hs0b2:(cY (((s.setO b2 (.cells 74 [.ptr r 0])).setO b3 (.cells 60 t.cs)).setO b4 (.cells 191 [.ptr r 6])) ((aN d o).set 7 (none,0,68))).getO b2=some (.cells 74 [.ptr r 0]):=by simp only[aB,aJ,hb4,hb3,if_false,if_true]
  have hs0b4:(cY (((s.setO b2 (.cells 74 [.ptr r 0])).setO b3 (.cells 60 t.cs)).setO b4 (.cells 191 [.ptr r 6])) ((aN d o).set 7 (none,0,68))).getO b4=some (.cells 191 [.ptr r 6]):=by simp only[aB,aJ,if_true]
  have hfr0:∀ a,a∈(aN d o).set 7 (none,0,68)→∀ u,a.1=some u→s.getT u=none:=fun a ha u hu=>by
   rcases wS ha with ha|rfl
   ·exact hfr a ha u hu
   ·cases hu
  have hg0:(cY (((s.setO b2 (.cells 74 [.ptr r 0])).setO b3 (.cells 60 t.cs)).setO b4 (.cells 191 [.ptr r 6])) ((aN d o).set 7 (none,0,68))).gx s r:=by
   refine aE8 hfr0 ?_;exact aQ
  have hlm:d.many.length≤i:=by have:=hQ.len (o.ma,d.many.length,68) (by simp[aN]);exact this
  refine dE (s':=oI T fin (aE { d with kind:=x } o) first r (cY (((s.setO b2 (.cells 74 [.ptr r 0])).setO b3 (.cells 60 t.cs)).setO b4 (.cells 191 [.ptr r 6])) ((aN d o).set 7 (none,0,68))) d.many o.ma (i+1+1+1) n) ?_ (aDE (fin:=fin) (σ:=List Cel) (α:=Unit) (X:=Option Nat) (r:=r) (fun _=>.bool true) (fun _=>rfl) (fun _=>rfl) hT
   (fun s' acc tk i n=>oI T fin (aE { d with kind:=x } o) first r s' acc tk i n) (fun s' acc tk i=>GrQ b2 b4 r s' acc tk i) (fun acc w n=>((mB fin 12 acc.length w n fun w n=>uQ false fin w n).bind fun a w n=>.ok (acc++[a]) w n).bind fun a w n=>.ok (a,()) w n) 227 [] [.ptr b2 0,.ptr b4 0]
   (fun s' a x i n=>⟨_,first,by unfold oI;rw[aT,aJ,if_pos rfl],by unfold oI;rw[aB5,lZ];exact bA _⟩) (fun s' a x i n t v h ht=>?_) (fun s' a x i n t v u ht h=>?_) (fun s' a x i n t v ht h=>⟨h.dropT,aGt ht⟩)
   (fun s' a x i h=>⟨by have:=h.len;omega,h.h1,h.h3,h.ne,h.nil,h.free⟩) (fun s' a x i n h=>gX (eQ (fF _ _)) h.free)
   (fun s' a x i n KV' Kp' h hi' hn' hk'=>aMC hT b2 b4 a x h hi' hn' ?_)
   d.many o.ma (i+1+1+1) n ?_ hlt3 hn ?_)
  ·refine St.ge.trans (b:=cY ((((s.setO b2 (.cells 74 [.ptr r 0])).setO b3 (.cells 60 t.cs)).setO b4 (.cells 191 [.ptr r 6])).setO r (bC T fin (aE { d with kind:=x } o) first (i+1+1+1) n)) (aN d o)) (cR aL) ?_;unfold oI;rw[kL];exact aHk hown (k:=7) (o:=(o.ma,d.many.length,68)) rfl 0 68
  ·have hx:=aH4 h ht;exact ⟨hx.2,h.setT hx.1,aEU hx.1⟩
  ·have hx:=h.unT;exact ⟨by show (gs _ _ _ _).getT t=_;rw[eZ,if_neg hx.1];show (s'.setT t v).getT t=_;rw[cO,if_pos rfl],h.dropT.setT hx.1,aHO hx.1⟩
  ·rw[bL,bL] at hk';exact aW hk' (fun a w n h2 j y hj hjT hw hn hy=>h2 j y (by omega) hjT hw hn hy) (fun _ h=>h)
  ·refine ⟨by omega,hs0b2,hs0b4,⟨hb2.1.2,hb4.2.2.1.2⟩,fun e=>gR (hown.nil (o.ma,d.many.length,68) (by simp[aN]) e),fun u hu=>(by refine aIM hown (k:=7) (o:=(o.ma,d.many.length,68)) rfl 0 68 ?_ hu;exact fun _=>rfl)⟩
  refine aW (aBF _ _ _ _ _ [] _ _ _ _ hk3) (fun c w4 m4 hk4 j y hj hjT hw4 hm4 hy=>?_) (fun f h s1 x hg hr1=>aO (h _ _ (hg.trans hg0) hr1));obtain ⟨l,ul⟩:=c;simp only at hk4 hy ⊢;subst hw4;rw[bL] at hk4;have hown2:OwnOk s ((aN d o).set 7 (y,l.length,68)):=by refine aHG hown (k:=7) (by simp[aN]) 0 68 68 ?_ hy.free (fun e=>by rw[hy.nil e];rfl);exact fun _=>rfl
  unfold oI;simp only[go_sem,aB,hb2,hb3,hb4];refine dE (aHS (l:=aN d o) (k:=7) (by simp[aN]) hown2 0 68) ?_;have hfrW:=hown2.free;refine fH (d:=aE { d with kind:=x,many:=l } { o with ma:=y }) (T:=T) (fin:=fin) (first:=first) (i:=j) (n:=m4) _ gH hjT hT (aW hk4 (fun _ w5 m5 hk5 hlt5 hw5 hm5=>?_) (fun f h=>dG aQ h));subst m5;rw[bU] at hk5;simp only[go_sem,aB,hb2,hb3,hb4];have hk6:=hk5 (j+1) { o with ma:=y } (by omega) hlt5 hw5 hm4 (ItQ.set (k:=7) (a:=(y,l.length,68)) hQ (by simp[aN]) hown2 (by omega) (by have:=hy.len;simp only;omega));refine aM hk6 ?_;unfold lD;rw[show aN { d with kind:=x,many:=l } { o with ma:=y }=(aN d o).set 7 (y,l.length,68) by simp[aN]];refine cR ?_;simp only[aE];exact aL
 rw[tC,if_neg (by simp[c1]),if_neg (by simp[c2]),if_neg (by simp[c3]),if_neg (by simp[c4]),eH] at hk;simp only[go_sem,aB,hb2,hb3,hb4];refine nZ (d:=aE d o) (T:=T) (fin:=fin) (first:=first) (i:=i) (n:=n) 11 gH hi hT ?_;rw[hw];exact aO (hk _ (bC T fin (aE d o) first i n) aQ gH)
end
end
section
def dF {T:List Tok} (ln cl:Int) (r:Nat) (s:St) (d:Dfn) (o:DOwn) (q:RQ T):St:=cY (s.setO r (aG ln cl q (aE d o))) (aN d o)
section
variable {T:List Tok} {ln cl:Int} {q:RQ T} {d:Dfn} {o:DOwn} {s:St} {r:Nat} {KV Kp:St→A→Prop}
theorem aMV (hT:TOk T) (hlen2:T.length≤2147483640) (hlt:q.at_<T.length) (hQ:ItQ s d o q.at_)
  (hk:∀ o',ItQ s { d with eqs:=d.eqs++[(mJ (aC ln cl) q).1] } o' (mJ (aC ln cl) q).2.at_→KV (dF ln cl r s { d with eqs:=d.eqs++[(mJ (aC ln cl) q).1] } o' (mJ (aC ln cl) q).2) (.tuple [])) :
  Den cx 163 [.ptr r 0] KV Kp (dF ln cl r s d o q):=by
 have hlen:=hT.len;have hown:=hQ.own;have hfr:=hown.free;have L5:=hQ.len (o.eq,d.eqs.length,80) (by simp[aN]);simp only at L5;have hia:=RQ.inc_at hlt;have hmono:=aEk (fin:=aC ln cl) q;unfold mJ at hk hmono;simp only at hk hmono;(refine aZ func163 [0,2] ?_;simp only[go_sem,ntmps163,f163]);unfold dF;(intro b2 hb2;try simp only[aB,aT,aV,ne_eq] at hb2);simp only[go_sem,aB,hb2];refine aBh (ln:=ln) (cl:=cl) (q:=q) (d:=aE d o) gH ?_;simp only[go_sem,aB,hb2,bP q.at_ (by omega)];refine rN (ln:=ln) (cl:=cl) (q:=q.inc) (d:=aE d o) hT hlen2 (by simp only[go_sem,aB,hb2,hia]) ?_;have hm1:=kK (fin:=aC ln cl) q.inc;generalize eA (aC ln cl) q.inc=l at hk hmono hm1 ⊢;simp only[go_sem,aB,hb2,bO];refine dZ (ln:=ln) (cl:=cl) (q:=l.2) (d:=aE d o) hT _ gH ?_;have hm2:=dW (fin:=aC ln cl) 4 [61] l.2;generalize aY (aC ln cl) 4 [61] l.2=q2 at hk hmono hm2 ⊢;simp only[go_sem,aB,hb2];refine rN (ln:=ln) (cl:=cl) (q:=q2) (d:=aE d o) hT hlen2 gH ?_;have hm3:=kK (fin:=aC ln cl) q2;generalize eA (aC ln cl) q2=y at hk hmono hm3 ⊢;simp only[go_sem,aB,hb2,bO];refine aDF (ln:=ln) (cl:=cl) (q:=y.2) (d:=aE d o) hT hlen2 gH ?_;have hm4:=zW (fin:=aC ln cl) y.2;generalize iA (aC ln cl) y.2=c at hk hmono hm4 ⊢;have hple:=c.2.le;simp only[go_sem,aB,hb2];(refine aP (OT.r 0 13) [] ?_;simp only[go_sem,aB,hb2])
 (try simp only[go_sem,aB,hb2])
 refine ⟨by decide,fun y hy=>by simp only[cE] at hy;subst hy;rfl,cW rfl rfl (by rw[aI];refine fV hown (k:=5) (o:=(o.eq,d.eqs.length,80)) rfl ?_;exact fun _=>rfl) (fun y hy=>?_) (by simp only[aI,aF,aH];omega) (fun u hu=>?_)⟩
 ·simp only[bW] at hy;obtain ⟨q,_,rfl⟩:=hy;rfl
 have hown2:=fX hown (k:=5) (o:=(o.eq,d.eqs.length,80)) rfl hu (fun _=>rfl) (d.eqs.length+1);simp only[go_sem,aB,hb2];have hk2:=hk { o with eq:=some u } (ItQ.set (k:=5) (a:=(some u,d.eqs.length+1,80)) hQ (by simp[aN]) hown2 (by omega) (by simp only;omega));refine aM hk2 (St.ge.trans (fW hown (k:=5) (o:=(o.eq,d.eqs.length,80)) rfl hown2 (fun _=>rfl)) ?_);unfold dF;rw[show aN { d with eqs:=d.eqs++[⟨l.1,y.1,c.1,(dR (aC ln cl) q).1,(dR (aC ln cl) q).2⟩] } { o with eq:=some u }=(aN d o).set 5 (some u,d.eqs.length+1,80) by simp[aN]];refine cR ?_;simp only[aE,cL,cM,bK,bQ];exact aL
end
end
section
theorem aHv {X s:St} {l:List eR} (hX:∀ t,X.getT t=s.getT t) (t:Nat):(cY X l).getT t=(cY s l).getT t:=by rw[pT,pT,hX]
theorem aM7 {X s:St} {l:List eR} {tk:Option Nat} {n:Nat} {e:TypeId} {t:Nat} (h:tk=some t∨tk=none∧(gs (cY X l) tk n e).getT t=none) (hf:∀ t,tk=some t→(cY s l).getT t=none)
  (hX:∀ t,X.getT t=s.getT t):(cY s l).getT t=none:=by
 rcases h with rfl|⟨rfl,h⟩
 ·exact hf t rfl
 ·rw[← aHv hX];exact h
theorem aNN {X s:St} {l:List eR} {tk:Option Nat} {n:Nat} {e:TypeId} (hf:∀ t,tk=some t→(cY s l).getT t=none) (hX:∀ t,X.getT t=s.getT t):(gs (cY X l) tk n e).ge (cY X l) :=
 qU (bA _) fun t ht=>by rw[aHv hX];exact hf t ht
theorem aMW {X Y:St} {l:List eR} {tk:Option Nat} {n:Nat} {e:TypeId} (h:X.ge Y):(gs (cY X l) tk n e).ge (gs (cY Y l) tk n e):=cR (l:=(tk,n,e)::l) h
section
variable {T:List Tok} {fin:Fault}
theorem aBB {σ:Type} (c:RQ T→Bool) (body:σ→RQ T→σ × RQ T) (f:Nat) (a:σ) (q:RQ T) (h:c q=false):bR c body f a q=(a,q):=by
 cases f with
 | zero=>rfl
 | succ f=>simp[bR,h]
theorem aBu {σ:Type} (c:RQ T→Bool) (body:σ→RQ T→σ × RQ T) (f:Nat) (a:σ) (q:RQ T) (h:c q=true):bR c body (f+1) a q=bR c body f (body a q).1 (body a q).2:=by
 rw[bR,if_pos h]
theorem aMr {q:RQ T} (h:cN q=true):q.ok=true:=by
 simp only[cN,bT] at h;exact h.1
theorem aI7 {k:Int} {x:aD} {q:RQ T} (h:aS k x q=true):q.ok=true:=by
 simp only[aS,bT] at h;exact h.1
theorem aNo {q:RQ T} (hf:¬ fin.code=0) (h:(bB fin q).2.ok=true):q.at_+1≤(bB fin q).2.at_:=by
 unfold bB at h ⊢;split
 ·rename_i e;rw[if_pos e] at h;simp only;rw[RQ.inc_at (aAf e)];exact bE _
 ·rename_i e;rw[if_neg e] at h;simp only at h;rw[aAe hf (by decide)] at h;cases h
end
end
section
section
variable {T:List Tok} {ln cl:Int} {q:RQ T} {d:Dfn} {o:DOwn} {s:St} {r:Nat} {KV Kp:St→A→Prop}
theorem aMb (hT:TOk T) (hlen2:T.length≤2147483640) (hQ:ItQ s d o q.at_) (hlf:d.sig.funs.length+1≤q.at_)
  (hk:∀ o',ItQ s { d with sig:={ d.sig with funs:=d.sig.funs++[(mE (aC ln cl) q).1] } } o' (mE (aC ln cl) q).2.at_→KV (dF ln cl r s { d with sig:={ d.sig with funs:=d.sig.funs++[(mE (aC ln cl) q).1] } } o' (mE (aC ln cl) q).2) (.tuple [])) :
  Den cx 162 [.ptr r 0] KV Kp (dF ln cl r s d o q):=by
 have hlen:=hT.len;have hfin:¬ (aC ln cl).code=0:=by simp[aC]
 have hown:=hQ.own;have hfr:=hown.free;have hqle:=q.le;unfold mE at hk;simp only at hk;(refine aZ func162 [0,2,9] ?_;simp only[go_sem,ntmps162,f162]);unfold dF;simp only[go_sem,aB];(refine iW (ln:=ln) (cl:=cl) (q:=q) (d:=aE d o) hT gH ?_);have hmx:=gA (fin:=aC ln cl) (q);generalize bB (aC ln cl) (q)=x at hk hmx ⊢;have hlex:=x.2.le;simp only[go_sem,aB];(intro b2 hb2;try simp only[aB,aT,aV,ne_eq] at hb2);simp only[go_sem,aB,hb2];(refine dZ (ln:=ln) (cl:=cl) (q:=x.2) (d:=aE d o) hT [58] gH ?_);have hmq2:=dW (fin:=aC ln cl) 4 [58] (x.2);generalize aY (aC ln cl) 4 [58] (x.2)=q2 at hk hmq2 ⊢;have hleq2:=q2.le;simp only[go_sem,aB,hb2]
 refine Ex.loop (ι:=(List aD × Option Nat) × RQ T × Nat) (fun c=>[(0,.ptr r 0),(2,.ptr b2 0)])
  (fun c=>gs (cY (((s.setO b2 (.cells 73 [.str x.1,gv c.1.2 (c.1.1.map A.str),.str [],.nils,.int .i64 0,.int .i64 0,.nils]))).setO r (aG ln cl c.2.1 (aE d o))) (aN d o)) c.1.2 c.1.1.length 9)
  (fun c => (c.1.2 = none → c.1.1 = []) ∧ (∀ t,c.1.2 = some t → (cY s (aN d o)).getT t = none) ∧ q.at_ ≤ c.2.1.at_ ∧ (c.2.1.ok = true → c.1.1.length ≤ c.2.1.at_ ∧ T.length - c.2.1.at_ < c.2.2) ∧
   (∀ p,p = bR cN (fun (l : List aD) q => (l ++ [(bB (aC ln cl) (bG (aC ln cl) l.length 8 q)).1],(bB (aC ln cl) (bG (aC ln cl) l.length 8 q)).2)) c.2.2 c.1.1 c.2.1 →
    ∀ o',ItQ s { d with sig:={ d.sig with funs:=d.sig.funs++[⟨x.1,p.1,(bB (aC ln cl) (aY (aC ln cl) 4 [45,62] p.2)).1,[],0,0,[]⟩] } } o' (bB (aC ln cl) (aY (aC ln cl) 4 [45,62] p.2)).2.at_ →
     KV (dF ln cl r s { d with sig:={ d.sig with funs:=d.sig.funs++[⟨x.1,p.1,(bB (aC ln cl) (aY (aC ln cl) 4 [45,62] p.2)).1,[],0,0,[]⟩] } } o' (bB (aC ln cl) (aY (aC ln cl) 4 [45,62] p.2)).2) (.tuple [])))
  (fun c=>(T.length-c.2.1.at_) * 2+(if c.2.1.ok=true then 1 else 0)) (([],none),q2,T.length+1) ?_ ?_ ?_ ?_
 ·exact ⟨fun _=>rfl,fun t e=>(by cases e),by simp only;omega,fun _=>⟨bS _,by simp only;omega⟩,fun p e=>by subst e;exact hk⟩
 ·simp only[go_sem,aB,hb2]
 ·refine cR (l:=aN d o) ?_;exact aL
 ·clear hk;rintro ⟨⟨l,tk⟩,q,f⟩ ⟨hnil,hfree,hqa,hf,hk⟩;simp only at hnil hfree hqa hf hk;have hqle:=q.le;have hg:lS (gs (cY (((s.setO b2 (.cells 73 [.str x.1,gv tk (l.map A.str),.str [],.nils,.int .i64 0,.int .i64 0,.nils]))).setO r (aG ln cl q (aE d o))) (aN d o)) tk l.length 9) tk (l.map A.str).length 9:=by rw[aI];exact fA fun e=>by rw[hnil e];rfl
  refine bV (V:=[0,2,9]) _ _ _ _ ?_;simp only[go_sem,aB,hb2];refine uC (ln:=ln) (cl:=cl) (q:=q) (d:=aE d o) gH ?_;have hk:=hk _ rfl;cases hn:cN q with
  | false =>
   rw[aBB _ _ _ _ _ hn] at hk;simp only at hk;simp only[go_sem,aB,hb2];refine Den.soft (b:=b2) (e:=73) (cs:=[.str x.1,gv tk (l.map A.str),.str [],.nils,.int .i64 0,.int .i64 0,.nils]) gH (cs':=[.str x.1,.list none (l.map A.str),.str [],.list none [],.int .i64 0,.int .i64 0,.list none []]) ⟨⟨aK _,rfl⟩,⟨fN _ _ (fun e=>by rw[hnil e];rfl),rfl⟩,⟨aK _,rfl⟩,⟨A.le.nil,rfl⟩,⟨aK _,rfl⟩,⟨aK _,rfl⟩,⟨A.le.nil,rfl⟩,trivial⟩ ?_;simp only[go_sem,aB,hb2];refine dE (aNN hfree (fun _=>rfl)) ?_;(refine dZ (ln:=ln) (cl:=cl) (q:=q) (d:=aE d o) hT [45,62] gH ?_);have hmq3:=dW (fin:=aC ln cl) 4 [45,62] (q);generalize aY (aC ln cl) 4 [45,62] (q)=q3 at hk hmq3 ⊢;have hleq3:=q3.le;simp only[go_sem,aB,hb2];(refine iW (ln:=ln) (cl:=cl) (q:=q3) (d:=aE d o) hT gH ?_);have hmy:=gA (fin:=aC ln cl) (q3);generalize bB (aC ln cl) (q3)=y at hk hmy ⊢;have hley:=y.2.le;simp only[go_sem,aB,hb2];(refine aP (OT.r 0 15) [] ?_;simp only[go_sem,aB,hb2])
   (try simp only[go_sem,aB,hb2])
   refine ⟨by decide,fun y hy=>by simp only[cE] at hy;subst hy;rfl,cW rfl rfl (by rw[aI];refine fV hown (k:=3) (o:=(o.fu,d.sig.funs.length,73)) rfl ?_;exact fun _=>rfl) (fun y hy=>?_) (by simp only[aI,aF,aH];omega) (fun u hu=>?_)⟩
   ·simp only[bW] at hy;obtain ⟨q,_,rfl⟩:=hy;rfl
   have hown2:=fX hown (k:=3) (o:=(o.fu,d.sig.funs.length,73)) rfl hu (fun _=>rfl) (d.sig.funs.length+1);simp only[go_sem,aB,hb2];have hk2:=hk { o with fu:=some u } (ItQ.set (k:=3) (a:=(some u,d.sig.funs.length+1,73)) hQ (by simp[aN]) hown2 (by omega) (by simp only;omega));refine aM hk2 (St.ge.trans (fW hown (k:=3) (o:=(o.fu,d.sig.funs.length,73)) rfl hown2 (fun _=>rfl)) ?_);unfold dF;rw[show aN { d with sig:={ d.sig with funs:=d.sig.funs++[⟨x.1,l,y.1,[],0,0,[]⟩] } } { o with fu:=some u }=(aN d o).set 3 (some u,d.sig.funs.length+1,73) by simp[aN]];refine cR ?_;simp only[aE,cL,cM,bK,bQ];exact aL
  | true =>
   have hqo:=aMr hn;have hlt:=aAf hn;obtain ⟨hl2,hf⟩:=hf hqo;obtain ⟨f,rfl⟩:∃ f',f=f'+1:=⟨f-1,by omega⟩
   rw[aBu _ _ _ _ _ hn] at hk;simp only at hk;simp only[go_sem,aB,hb2,gV hg];refine lX (ln:=ln) (cl:=cl) (q:=q) (d:=aE d o) hT l.length 8 gH ?_;simp only[go_sem,aB,hb2];(refine aP (OT.r 0 8) [(3,[1])] ?_;simp only[go_sem,aB,hb2]);have hm0:(bG (aC ln cl) l.length 8 q).at_=q.at_:=iB _ _ _;have hmy:=aNo (fin:=aC ln cl) (q:=bG (aC ln cl) l.length 8 q) hfin;refine iW (ln:=ln) (cl:=cl) (q:=bG (aC ln cl) l.length 8 q) (d:=aE d o) hT (by simp only[aJ,dN,gE,aT,ne_eq,dK,reduceIte,aB,hb2]<;>(first|done|rfl|assumption)) ?_;have hmz:=gA (fin:=aC ln cl) (bG (aC ln cl) l.length 8 q);generalize bB (aC ln cl) (bG (aC ln cl) l.length 8 q)=y at hk hmy hmz ⊢;have hyle:=y.2.le;simp only[go_sem,aB,hb2];refine ⟨by decide,fun y hy=>by simp only[cE] at hy;subst hy;rfl,cW rfl rfl (by rw[aI];exact fA fun e=>by rw[hnil e];rfl) (fun y hy=>?_) (by simp only[aI,aF,aH];omega) (fun u hu=>?_)⟩
   ·simp only[bW] at hy;obtain ⟨q,_,rfl⟩:=hy;rfl
   have hfu:=aM7 (s:=s) hu hfree (fun _=>rfl);rw[gY hu];simp only[go_sem,aB,hb2];refine ⟨((l++[y.1],some u),y.2,f),⟨fun e=>(by cases e),fun t e=>by cases e;exact hfu,by simp only;omega,fun e=>⟨by have:=hmy e;simp only[aR,aF,aH];omega,by have:=hmy e;simp only;omega⟩,fun p' e=>by subst e;exact hk⟩,?_,?_⟩
   ·simp only;rw[if_pos hqo];split
    ·rename_i e;have:=hmy e;omega
    ·omega
   ·simp only[cL,cM,bK,bQ,aR,aF,aH];refine aMW (tk:=some u) (n:=l.length+(0+1)) ?_;exact aL
end
end
section
section
variable {T:List Tok} {ln cl:Int} {q:RQ T} {d:Dc} {s:St} {r:Nat} {KV Kp:St→A→Prop}
def gK (ln cl:Int) (d:Dc) (b r:Nat) (s:St) (x:Rul) (tp tn td:Option Nat) (q:RQ T):St:=cY ((s.setO b (iQ x tp tn td)).setO r (aG ln cl q d)) (bZ x tp tn td)
theorem aBd (hT:TOk T) (hlen2:T.length≤2147483640) (b:Nat) (x:Rul) (tp tn td:Option Nat) (hQ:RulQ b r s x tp tn td q.at_) (hl1:x.parts.length+1≤q.at_) (hl2:x.new.length+1≤q.at_) (hl3:x.drop.length+1≤q.at_)
  (hk:∀ tp' tn' td',RulQ b r s (iD (aC ln cl) x q).1 tp' tn' td' (iD (aC ln cl) x q).2.at_→KV (gK ln cl d b r s (iD (aC ln cl) x q).1 tp' tn' td' (iD (aC ln cl) x q).2) (.tuple [])) :
  Den cx 285 [.ptr r 0,.ptr b 0] KV Kp (gK ln cl d b r s x tp tn td q):=by
 obtain ⟨hown,hb,hne,l1,l2,l3⟩:=hQ;have hlen:=hT.len;have hqle:=q.le;have hfr:=hown.free;unfold iD at hk;(refine aZ func285 [0,1,4,5,6,18,35,57,73,95] ?_;simp only[go_sem,ntmps285,Tryz.f285]);unfold gK iQ;simp only[go_sem,aB,hne,hne.symm];refine fP (ln:=ln) (cl:=cl) (q:=q) (d:=d) _ gH ?_;cases c1:aS 1 [110,101,119] q with
 | true =>
  have hlt:=lP c1;have hia:=RQ.inc_at hlt;rw[c1,if_pos rfl] at hk;simp only at hk;simp only[go_sem,aB,hne,hne.symm,bP q.at_ (by omega)];refine dZ (ln:=ln) (cl:=cl) (q:=q.inc) (d:=d) hT _ (by simp only[go_sem,aB,hne,hne.symm,hia]) ?_;have hm2:=dW (fin:=aC ln cl) 4 [40] q.inc;generalize aY (aC ln cl) 4 [40] q.inc=q2 at hk hm2 ⊢;have hle2:=q2.le;simp only[go_sem,aB,hne,hne.symm];(intro b4 hb4;try simp only[aB,aT,aV,ne_eq] at hb4);simp only[go_sem,aB,hne,hne.symm,hb4];simp only[← kL];have hb5:(¬r=b4∧¬b4=r)∧(¬b=b4∧¬b4=b)∧(cY s (bZ x tp tn td)).getO b4=none:=by rw[aB];exact hb4
  generalize hZ:cY s (bZ x tp tn td)=Z at hb5 ⊢
  refine Ex.loop (ι:=(List Tm × Option Nat) × Bool × RQ T × Nat) (fun c=>[(0,.ptr r 0),(1,.ptr b 0),(4,.ptr b4 0),(5,.bool c.2.1)])
   (fun c=>gs (((Z.setO b (.cells 84 [.str x.name,gv tp (x.parts.map kW),.nils,gv tn (x.new.map Fresh.enc),gv td (x.drop.map .str),.int .i64 x.line,.int .i64 x.col])).setO b4 (.cells 141 [gv c.1.2 (c.1.1.map Tm.enc)])).setO r (aG ln cl c.2.2.1 d)) c.1.2 c.1.1.length 43)
   (fun c => (c.1.2 = none → c.1.1 = []) ∧ (∀ t,c.1.2 = some t → Z.getT t = none) ∧ q2.at_ ≤ c.2.2.1.at_ ∧ (c.2.1 = true → c.1.1.length ≤ c.2.2.1.at_ ∧ T.length - c.2.2.1.at_ < c.2.2.2) ∧
    (∀ p,p = cK [44] (fun (l : List Tm) q => (l ++ [(eA (aC ln cl) q).1],(eA (aC ln cl) q).2)) c.2.2.2 c.2.1 c.1.1 c.2.2.1 →
     ∀ tp' tn' td',RulQ b r s { x with new:=x.new++[⟨p.1⟩] } tp' tn' td' (aY (aC ln cl) 4 [41] p.2).at_→KV (gK ln cl d b r s { x with new:=x.new++[⟨p.1⟩] } tp' tn' td' (aY (aC ln cl) 4 [41] p.2)) (.tuple [])))
   (fun c=>(T.length-c.2.2.1.at_) * 2+(if c.2.1=true then 1 else 0)) (([],none),true,q2,T.length+2) ?_ ?_ ?_ ?_
  ·exact ⟨fun _=>rfl,fun t e=>(by cases e),bE _,fun _=>⟨bS _,by simp only;omega⟩,fun p e=>by subst e;exact hk⟩
  ·simp only[go_sem,hb5,hne,hne.symm]
  ·exact aL
  ·clear hk;rintro ⟨⟨l,tk⟩,more,q6,f6⟩ ⟨hnil,hfree,hq6,hf6,hk⟩;simp only at hnil hfree hq6 hf6 hk;have hle6:=q6.le
   replace hk:=hk _ rfl
   refine bV (V:=[0,1,4,5,6,18,35,57,73,95]) _ _ _ _ ?_;cases more with
   | false =>
    rw[pD] at hk;simp only at hk;simp only[go_sem,hb5,hne,hne.symm];refine Den.soft (b:=b4) (e:=141) (cs:=[gv tk (l.map Tm.enc)]) gH (cs':=[.list none (l.map Tm.enc)]) ⟨⟨fN _ _ (fun e=>by rw[hnil e];rfl),rfl⟩,trivial⟩ ?_;simp only[go_sem,hb5,hne,hne.symm];refine dE (qU (bA _) ?_) ?_
    ·exact hfree
    (refine dZ (ln:=ln) (cl:=cl) (q:=q6) (d:=d) hT [41] gH ?_);have hmq7:=dW (fin:=aC ln cl) 4 [41] (q6);generalize aY (aC ln cl) 4 [41] (q6)=q7 at hk hmq7 ⊢;have hleq7:=q7.le;subst hZ;simp only[go_sem,aB,hb4,hne,hne.symm];(refine aP (OT.r 0 11) [] ?_;simp only[go_sem,aB,hb4,hne,hne.symm])
    (try simp only[go_sem,aB,hb4,hne,hne.symm])
    refine ⟨by decide,fun y hy=>by simp only[cE] at hy;subst hy;rfl,cW rfl rfl (by rw[aI];refine fV hown (k:=1) (o:=(tn,x.new.length,141)) rfl ?_;exact fun _=>rfl) (fun y hy=>?_) (by simp only[aI,aF,aH];omega) (fun u hu=>?_)⟩
    ·simp only[bW] at hy;obtain ⟨q,_,rfl⟩:=hy;rfl
    have hown2:=fX hown (k:=1) (o:=(tn,x.new.length,141)) rfl hu (fun _=>rfl) (x.new.length+1);have hown3:OwnOk s (bZ { x with new:=x.new++[⟨l⟩] } tp (some u) td):=by simpa only[bZ,aR,aF,aH,lF,lV] using hown2
    simp only[go_sem,aB,hb4,hne,hne.symm];have hk5:=hk tp (some u) td ⟨hown3,hb,hne,by simp only;omega,by simp only[aR,aF,aH];omega,by simp only;omega⟩;refine aM hk5 (St.ge.trans (fW hown (k:=1) (o:=(tn,x.new.length,141)) rfl hown2 (fun _=>rfl)) ?_);unfold gK;rw[show (bZ x tp tn td).set 1 (some u,x.new.length+1,(tn,x.new.length,141).snd.snd)=bZ { x with new:=x.new++[⟨l⟩] } tp (some u) td by simp[bZ]];refine cR ?_;simp only[iQ,cL,cM,bK,bQ,kW,nv,Tm.cs,jZ,gQ,bO];exact aL
   | true =>
    simp only[go_sem,hb5,hne,hne.symm];refine iJ (ln:=ln) (cl:=cl) (q:=q6) (d:=d) gH ?_;cases ho6:q6.ok with
    | false =>
     rw[pB _ _ _ _ _ _ ho6] at hk;simp only at hk;simp only[go_sem,hb5,hne,hne.symm];refine Den.soft (b:=b4) (e:=141) (cs:=[gv tk (l.map Tm.enc)]) gH (cs':=[.list none (l.map Tm.enc)]) ⟨⟨fN _ _ (fun e=>by rw[hnil e];rfl),rfl⟩,trivial⟩ ?_;simp only[go_sem,hb5,hne,hne.symm];refine dE (qU (bA _) ?_) ?_
     ·exact hfree
     (refine dZ (ln:=ln) (cl:=cl) (q:=q6) (d:=d) hT [41] gH ?_);have hmq7:=dW (fin:=aC ln cl) 4 [41] (q6);generalize aY (aC ln cl) 4 [41] (q6)=q7 at hk hmq7 ⊢;have hleq7:=q7.le;subst hZ;simp only[go_sem,aB,hb4,hne,hne.symm];(refine aP (OT.r 0 11) [] ?_;simp only[go_sem,aB,hb4,hne,hne.symm])
     (try simp only[go_sem,aB,hb4,hne,hne.symm])
     refine ⟨by decide,fun y hy=>by simp only[cE] at hy;subst hy;rfl,cW rfl rfl (by rw[aI];refine fV hown (k:=1) (o:=(tn,x.new.length,141)) rfl ?_;exact fun _=>rfl) (fun y hy=>?_) (by simp only[aI,aF,aH];omega) (fun u hu=>?_)⟩
     ·simp only[bW] at hy;obtain ⟨q,_,rfl⟩:=hy;rfl
     have hown2:=fX hown (k:=1) (o:=(tn,x.new.length,141)) rfl hu (fun _=>rfl) (x.new.length+1);have hown3:OwnOk s (bZ { x with new:=x.new++[⟨l⟩] } tp (some u) td):=by simpa only[bZ,aR,aF,aH,lF,lV] using hown2
     simp only[go_sem,aB,hb4,hne,hne.symm];have hk5:=hk tp (some u) td ⟨hown3,hb,hne,by simp only;omega,by simp only[aR,aF,aH];omega,by simp only;omega⟩;refine aM hk5 (St.ge.trans (fW hown (k:=1) (o:=(tn,x.new.length,141)) rfl hown2 (fun _=>rfl)) ?_);unfold gK;rw[show (bZ x tp tn td).set 1 (some u,x.new.length+1,(tn,x.new.length,141).snd.snd)=bZ { x with new:=x.new++[⟨l⟩] } tp (some u) td by simp[bZ]];refine cR ?_;simp only[iQ,cL,cM,bK,bQ,kW,nv,Tm.cs,jZ,gQ,bO];exact aL
    | true =>
     obtain ⟨hl2,hf6⟩:=hf6 rfl;obtain ⟨f6,rfl⟩:∃ f',f6=f'+1:=⟨f6-1,by omega⟩
     rw[pF _ _ _ _ _ ho6] at hk;simp only at hk;simp only[go_sem,hb5,hne,hne.symm];(refine aP (OT.r 0 8) [(3,[1])] ?_;simp only[go_sem,hb5,hne,hne.symm])
     (try simp only[go_sem,hb5,hne,hne.symm])
     refine rN (ln:=ln) (cl:=cl) (q:=q6) (d:=d) hT hlen2 gH ?_;have hmz:=kK (fin:=aC ln cl) q6;generalize eA (aC ln cl) q6=z at hk hmz ⊢;have hlez:=z.2.le;simp only[go_sem,hb5,hne,hne.symm,bO];refine ⟨by decide,fun y hy=>by simp only[cE] at hy;subst hy;rfl,cW rfl rfl (by rw[aI];exact fA fun e=>by rw[hnil e];rfl) (fun y hy=>?_) (by simp only[aI,aF,aH];omega) (fun u hu=>?_)⟩
     ·simp only[bW] at hy;obtain ⟨z,_,rfl⟩:=hy;exact Tm.hz z
     have hfu:=kC hu hfree;rw[gY hu];simp only[go_sem,hb5,hne,hne.symm];(refine nG (ln:=ln) (cl:=cl) (q:=z.2) (d:=d) hT gH ?_);have hmc:=gF [44] (z.2);have hcc:=kV (x:=[44]) (q:=z.2);generalize dQ [44] (z.2)=c at hk hmc hcc ⊢;have hlec:=c.2.le;simp only[go_sem,hb5,hne,hne.symm];refine ⟨((l++[z.1],some u),c.1,c.2,f6),⟨fun e=>(by cases e),fun t e=>by cases e;exact hfu,by simp only;omega,fun e=>⟨by have:=hcc e;simp only[aR,aF,aH];omega,by have:=hcc e;simp only;omega⟩,fun p' e=>by subst e;exact hk⟩,?_,?_⟩
     ·simp only;split
      ·rename_i e;have:=hcc e;omega
      ·omega
     ·simp only[cL,cM,bK,bQ,aR,aF,aH,bO,Tm.cs];exact ⟨trivial,aL⟩
 | false =>
  rw[c1,if_neg (by simp)] at hk;simp only[go_sem,aB,hne,hne.symm];refine fP (ln:=ln) (cl:=cl) (q:=q) (d:=d) _ gH ?_;cases c2:aS 1 [100,114,111,112] q with
  | true =>
   have hlt:=lP c2;have hia:=RQ.inc_at hlt;rw[c2,if_pos rfl] at hk;simp only at hk;simp only[go_sem,aB,hne,hne.symm,bP q.at_ (by omega)];refine dZ (ln:=ln) (cl:=cl) (q:=q.inc) (d:=d) hT _ (by simp only[go_sem,aB,hne,hne.symm,hia]) ?_;have hm2:=dW (fin:=aC ln cl) 4 [64] q.inc;generalize aY (aC ln cl) 4 [64] q.inc=q2 at hk hm2 ⊢;have hle2:=q2.le;simp only[go_sem,aB,hne,hne.symm];(refine aP (OT.r 0 12) [(6,[4])] ?_;simp only[go_sem,aB,hne,hne.symm]);(refine iW (ln:=ln) (cl:=cl) (q:=q2) (d:=d) hT gH ?_);have hmy:=gA (fin:=aC ln cl) (q2);generalize bB (aC ln cl) (q2)=y at hk hmy ⊢;have hley:=y.2.le;simp only[go_sem,aB,hne,hne.symm];refine ⟨by decide,fun y hy=>by simp only[cE] at hy;subst hy;rfl,cW rfl rfl (by rw[aI];refine fV hown (k:=2) (o:=(td,x.drop.length,9)) rfl ?_;exact fun _=>rfl) (fun y hy=>?_) (by simp only[aI,aF,aH];omega) (fun u hu=>?_)⟩
   ·simp only[bW] at hy;obtain ⟨q,_,rfl⟩:=hy;rfl
   have hown2:=fX hown (k:=2) (o:=(td,x.drop.length,9)) rfl hu (fun _=>rfl) (x.drop.length+1);have hown3:OwnOk s (bZ { x with drop:=x.drop++[y.1] } tp tn (some u)):=by simpa only[bZ,aR,aF,aH,lF,lV] using hown2
   simp only[go_sem,aB,hne,hne.symm];have hk5:=hk tp tn (some u) ⟨hown3,hb,hne,by simp only;omega,by simp only;omega,by simp only[aR,aF,aH];omega⟩;refine aM hk5 (St.ge.trans (fW hown (k:=2) (o:=(td,x.drop.length,9)) rfl hown2 (fun _=>rfl)) ?_);unfold gK;rw[show (bZ x tp tn td).set 2 (some u,x.drop.length+1,(td,x.drop.length,9).snd.snd)=bZ { x with drop:=x.drop++[y.1] } tp tn (some u) by simp[bZ]];refine cR ?_;simp only[iQ,cL,cM,bK,bQ,kW,nv,Tm.cs,jZ,gQ,bO];exact aL
  | false =>
   rw[c2,if_neg (by simp)] at hk;simp only at hk;simp only[go_sem,aB,hne,hne.symm];(intro b6 hb6;try simp only[aB,aT,aV,ne_eq] at hb6);simp only[go_sem,aB,hne,hne.symm,hb6];refine aBh (ln:=ln) (cl:=cl) (q:=q) (d:=d) gH ?_;simp only[go_sem,aB,hne,hne.symm,hb6];(refine iW (ln:=ln) (cl:=cl) (q:=q) (d:=d) hT gH ?_);have hmy:=gA (fin:=aC ln cl) (q);generalize bB (aC ln cl) (q)=y at hk hmy ⊢;have hley:=y.2.le;simp only[go_sem,aB,hne,hne.symm,hb6];refine oY (ln:=ln) (cl:=cl) (q:=y.2) (d:=d) _ gH ?_;cases c3:aS 4 [64] y.2 with
   | true =>
    have hlt3:=lP c3;have hia3:=RQ.inc_at hlt3;rw[c3,if_pos rfl] at hk;simp only[go_sem,aB,hne,hne.symm,hb6,bP y.2.at_ (by omega)];refine iW (ln:=ln) (cl:=cl) (q:=y.2.inc) (d:=d) hT (by simp only[go_sem,aB,hne,hne.symm,hb6,hia3]) ?_;have hm4:=gA (fin:=aC ln cl) y.2.inc;generalize bB (aC ln cl) y.2.inc=z at hk hm4 ⊢;have hle4:=z.2.le;simp only[go_sem,aB,hne,hne.symm,hb6];(refine dZ (ln:=ln) (cl:=cl) (q:=z.2) (d:=d) hT [58] gH ?_);have hmq5:=dW (fin:=aC ln cl) 4 [58] (z.2);generalize aY (aC ln cl) 4 [58] (z.2)=q5 at hk hmq5 ⊢;have hleq5:=q5.le;simp only[go_sem,aB,hne,hne.symm,hb6];refine rN (ln:=ln) (cl:=cl) (q:=q5) (d:=d) hT hlen2 gH ?_;have hm6:=kK (fin:=aC ln cl) q5;generalize eA (aC ln cl) q5=l at hk hm6 ⊢;have hle6:=l.2.le;simp only[go_sem,aB,hne,hne.symm,hb6,bO];refine oY (ln:=ln) (cl:=cl) (q:=l.2) (d:=d) _ gH ?_;cases c4:aS 4 [61,62] l.2 with
    | true =>
     have hlt7:=lP c4;have hia7:=RQ.inc_at hlt7;rw[c4,if_pos rfl] at hk;simp only at hk;simp only[go_sem,aB,hne,hne.symm,hb6,bP l.2.at_ (by omega)];refine rN (ln:=ln) (cl:=cl) (q:=l.2.inc) (d:=d) hT hlen2 (by simp only[go_sem,aB,hne,hne.symm,hb6,hia7]) ?_;have hm8:=kK (fin:=aC ln cl) l.2.inc;generalize eA (aC ln cl) l.2.inc=g at hk hm8 ⊢;have hle8:=g.2.le;simp only[go_sem,aB,hne,hne.symm,hb6,bO];(refine aP (OT.r 0 11) [] ?_;simp only[go_sem,aB,hne,hne.symm,hb6])
     (try simp only[go_sem,aB,hne,hne.symm,hb6])
     refine ⟨by decide,fun y hy=>by simp only[cE] at hy;subst hy;rfl,cW rfl rfl (by rw[aI];refine fV hown (k:=0) (o:=(tp,x.parts.length,86)) rfl ?_;exact fun _=>rfl) (fun y hy=>?_) (by simp only[aI,aF,aH];omega) (fun u hu=>?_)⟩
     ·simp only[bW] at hy;obtain ⟨q,_,rfl⟩:=hy;rfl
     have hown2:=fX hown (k:=0) (o:=(tp,x.parts.length,86)) rfl hu (fun _=>rfl) (x.parts.length+1);have hown3:OwnOk s (bZ { x with parts:=x.parts++[⟨y.1,z.1,l.1,[g.1],(dR (aC ln cl) q).1,(dR (aC ln cl) q).2⟩] } (some u) tn td):=by simpa only[bZ,aR,aF,aH,lF,lV] using hown2
     simp only[go_sem,aB,hne,hne.symm,hb6];have hk5:=hk (some u) tn td ⟨hown3,hb,hne,by simp only[aR,aF,aH];omega,by simp only;omega,by simp only;omega⟩;refine aM hk5 (St.ge.trans (fW hown (k:=0) (o:=(tp,x.parts.length,86)) rfl hown2 (fun _=>rfl)) ?_);unfold gK;rw[show (bZ x tp tn td).set 0 (some u,x.parts.length+1,(tp,x.parts.length,86).snd.snd)=bZ { x with parts:=x.parts++[⟨y.1,z.1,l.1,[g.1],(dR (aC ln cl) q).1,(dR (aC ln cl) q).2⟩] } (some u) tn td by simp[bZ]];refine cR ?_;simp only[iQ,cL,cM,bK,bQ,kW,nv,Tm.cs,jZ,gQ,bO];exact aL
    | false =>
     rw[c4,if_neg (by simp)] at hk;simp only at hk;simp only[go_sem,aB,hne,hne.symm,hb6];(refine aP (OT.r 0 11) [] ?_;simp only[go_sem,aB,hne,hne.symm,hb6])
     (try simp only[go_sem,aB,hne,hne.symm,hb6])
     refine ⟨by decide,fun y hy=>by simp only[cE] at hy;subst hy;rfl,cW rfl rfl (by rw[aI];refine fV hown (k:=0) (o:=(tp,x.parts.length,86)) rfl ?_;exact fun _=>rfl) (fun y hy=>?_) (by simp only[aI,aF,aH];omega) (fun u hu=>?_)⟩
     ·simp only[bW] at hy;obtain ⟨q,_,rfl⟩:=hy;rfl
     have hown2:=fX hown (k:=0) (o:=(tp,x.parts.length,86)) rfl hu (fun _=>rfl) (x.parts.length+1);have hown3:OwnOk s (bZ { x with parts:=x.parts++[⟨y.1,z.1,l.1,[],(dR (aC ln cl) q).1,(dR (aC ln cl) q).2⟩] } (some u) tn td):=by simpa only[bZ,aR,aF,aH,lF,lV] using hown2
     simp only[go_sem,aB,hne,hne.symm,hb6];have hk5:=hk (some u) tn td ⟨hown3,hb,hne,by simp only[aR,aF,aH];omega,by simp only;omega,by simp only;omega⟩;refine aM hk5 (St.ge.trans (fW hown (k:=0) (o:=(tp,x.parts.length,86)) rfl hown2 (fun _=>rfl)) ?_);unfold gK;rw[show (bZ x tp tn td).set 0 (some u,x.parts.length+1,(tp,x.parts.length,86).snd.snd)=bZ { x with parts:=x.parts++[⟨y.1,z.1,l.1,[],(dR (aC ln cl) q).1,(dR (aC ln cl) q).2⟩] } (some u) tn td by simp[bZ]];refine cR ?_;simp only[iQ,cL,cM,bK,bQ,kW,nv,Tm.cs,jZ,gQ,bO];exact aL
   | false =>
    rw[c3,if_neg (by simp)] at hk;simp only at hk;simp only[go_sem,aB,hne,hne.symm,hb6];(refine dZ (ln:=ln) (cl:=cl) (q:=y.2) (d:=d) hT [58] gH ?_);have hmq5:=dW (fin:=aC ln cl) 4 [58] (y.2);generalize aY (aC ln cl) 4 [58] (y.2)=q5 at hk hmq5 ⊢;have hleq5:=q5.le;simp only[go_sem,aB,hne,hne.symm,hb6];refine rN (ln:=ln) (cl:=cl) (q:=q5) (d:=d) hT hlen2 gH ?_;have hm6:=kK (fin:=aC ln cl) q5;generalize eA (aC ln cl) q5=l at hk hm6 ⊢;have hle6:=l.2.le;simp only[go_sem,aB,hne,hne.symm,hb6,bO];refine oY (ln:=ln) (cl:=cl) (q:=l.2) (d:=d) _ gH ?_;cases c4:aS 4 [61,62] l.2 with
    | true =>
     have hlt7:=lP c4;have hia7:=RQ.inc_at hlt7;rw[c4,if_pos rfl] at hk;simp only at hk;simp only[go_sem,aB,hne,hne.symm,hb6,bP l.2.at_ (by omega)];refine rN (ln:=ln) (cl:=cl) (q:=l.2.inc) (d:=d) hT hlen2 (by simp only[go_sem,aB,hne,hne.symm,hb6,hia7]) ?_;have hm8:=kK (fin:=aC ln cl) l.2.inc;generalize eA (aC ln cl) l.2.inc=g at hk hm8 ⊢;have hle8:=g.2.le;simp only[go_sem,aB,hne,hne.symm,hb6,bO];(refine aP (OT.r 0 11) [] ?_;simp only[go_sem,aB,hne,hne.symm,hb6])
     (try simp only[go_sem,aB,hne,hne.symm,hb6])
     refine ⟨by decide,fun y hy=>by simp only[cE] at hy;subst hy;rfl,cW rfl rfl (by rw[aI];refine fV hown (k:=0) (o:=(tp,x.parts.length,86)) rfl ?_;exact fun _=>rfl) (fun y hy=>?_) (by simp only[aI,aF,aH];omega) (fun u hu=>?_)⟩
     ·simp only[bW] at hy;obtain ⟨q,_,rfl⟩:=hy;rfl
     have hown2:=fX hown (k:=0) (o:=(tp,x.parts.length,86)) rfl hu (fun _=>rfl) (x.parts.length+1);have hown3:OwnOk s (bZ { x with parts:=x.parts++[⟨y.1,([]:aD),l.1,[g.1],(dR (aC ln cl) q).1,(dR (aC ln cl) q).2⟩] } (some u) tn td):=by simpa only[bZ,aR,aF,aH,lF,lV] using hown2
     simp only[go_sem,aB,hne,hne.symm,hb6];have hk5:=hk (some u) tn td ⟨hown3,hb,hne,by simp only[aR,aF,aH];omega,by simp only;omega,by simp only;omega⟩;refine aM hk5 (St.ge.trans (fW hown (k:=0) (o:=(tp,x.parts.length,86)) rfl hown2 (fun _=>rfl)) ?_);unfold gK;rw[show (bZ x tp tn td).set 0 (some u,x.parts.length+1,(tp,x.parts.length,86).snd.snd)=bZ { x with parts:=x.parts++[⟨y.1,([]:aD),l.1,[g.1],(dR (aC ln cl) q).1,(dR (aC ln cl) q).2⟩] } (some u) tn td by simp[bZ]];refine cR ?_;simp only[iQ,cL,cM,bK,bQ,kW,nv,Tm.cs,jZ,gQ,bO];exact aL
    | false =>
     rw[c4,if_neg (by simp)] at hk;simp only at hk;simp only[go_sem,aB,hne,hne.symm,hb6];(refine aP (OT.r 0 11) [] ?_;simp only[go_sem,aB,hne,hne.symm,hb6])
     (try simp only[go_sem,aB,hne,hne.symm,hb6])
     refine ⟨by decide,fun y hy=>by simp only[cE] at hy;subst hy;rfl,cW rfl rfl (by rw[aI];refine fV hown (k:=0) (o:=(tp,x.parts.length,86)) rfl ?_;exact fun _=>rfl) (fun y hy=>?_) (by simp only[aI,aF,aH];omega) (fun u hu=>?_)⟩
     ·simp only[bW] at hy;obtain ⟨q,_,rfl⟩:=hy;rfl
     have hown2:=fX hown (k:=0) (o:=(tp,x.parts.length,86)) rfl hu (fun _=>rfl) (x.parts.length+1);have hown3:OwnOk s (bZ { x with parts:=x.parts++[⟨y.1,([]:aD),l.1,[],(dR (aC ln cl) q).1,(dR (aC ln cl) q).2⟩] } (some u) tn td):=by simpa only[bZ,aR,aF,aH,lF,lV] using hown2
     simp only[go_sem,aB,hne,hne.symm,hb6];have hk5:=hk (some u) tn td ⟨hown3,hb,hne,by simp only[aR,aF,aH];omega,by simp only;omega,by simp only;omega⟩;refine aM hk5 (St.ge.trans (fW hown (k:=0) (o:=(tp,x.parts.length,86)) rfl hown2 (fun _=>rfl)) ?_);unfold gK;rw[show (bZ x tp tn td).set 0 (some u,x.parts.length+1,(tp,x.parts.length,86).snd.snd)=bZ { x with parts:=x.parts++[⟨y.1,([]:aD),l.1,[],(dR (aC ln cl) q).1,(dR (aC ln cl) q).2⟩] } (some u) tn td by simp[bZ]];refine cR ?_;simp only[iQ,cL,cM,bK,bQ,kW,nv,Tm.cs,jZ,gQ,bO];exact aL
end
end
end Go.AV
