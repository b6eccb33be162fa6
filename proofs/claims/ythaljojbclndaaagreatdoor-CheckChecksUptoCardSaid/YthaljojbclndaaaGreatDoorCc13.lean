/-
  CheckChecks: for any definition of bulk at most 1048576 the call returns true; the argument reads as before, memory that was there is as it was (where the listed package-level variables hold what the text of the program lays).
-/
import Derived.Test.YthaljojbclndaaaGreatDoorCc12
import Derived.WideShapes
import Derived.Test.YthaljojbclndaaaGreatDoorCc05
import Derived.Test.YthaljojbclndaaaGreatDoorCc06
import Derived.ChangeMaps5
import Derived.ReadAgain
set_option linter.all false
set_option maxRecDepth 99999
set_option maxHeartbeats 0
namespace Go.AV
open Go Go.Proofs Tryz
section
theorem aUk{S S':St}{u:Nat}(h:S.ge S')(y:S.getT u=none):S'.getT u=none:=by
 cases e:S'.getT u with
 | none=>rfl
 | some m=>rw[h.tk u m e]at y;cases y
theorem aGC{X S:St}{l:List eR}(h:OwnOk X l)(y:S.ge (dR X l)){k:Nat}{o:eR}(z:l[k]?=some o){t n:Nat}(B:o.1=some t\/o.1=none/\S.getT t=none) :
  OwnOk X (l.set k (some t,n,o.2.2))/\(S.setT t (n,o.2.2)).ge (dR X (l.set k (some t,n,o.2.2))):=by
 have u:=pN h z (t:=t) (B.imp id λe=>⟨e.1,aUk y e.2⟩) (λ_=>rfl) n;exact⟨u,(fB y).trans (pL h z u (λ_=>rfl))⟩
theorem aG9{X S:St}{l:List eR}(h:OwnOk X l)(u:S.ge (dR X l)){k:Nat}{o:eR}(y:l[k]?=some o):iV S o.1 o.2.1 o.2.2:=yX (xB h y) u
theorem aTN{X:St}{l:List eR}(h:OwnOk X l){k:Nat}{o:eR}(O:l[k]?=some o):(dR X l).ge (gs X o.1 o.2.1 o.2.2):=by
 refine⟨λb x B=>by rw[cS]at B;rw[aT];exact B,λu m y=>?_,λx G=>by rw[aEm]at G;rw[zJ];exact G⟩;rw[gK]at y;by_cases e:o.1=some u
 .rw[aF e]at y;cases y;exact aIt h O e
 .rw[aD e]at y;rw[aJq λa M z=>by rw[h.free a M u z]at y;cases y];exact y
theorem aO0{d:Dfn}{b l:List Part}{i:Nat}{x:Part}(h:l[i]?=some x):qY d b (l.drop i)=aK (uI d b x) (qY d (b++[x]) (l.drop (i+1))):=by
 rw[iC h];rfl
theorem wM{α u:Type}{f:α->List u}{l:List α}{i:Nat}{x:α}(h:l[i]?=some x):(l.take (i+1)).flatMap f=(l.take i).flatMap f++f x:=by
 rw[eB h,sD];simp
theorem wS{α u:Type}{f:α->u}{l:List α}{i:Nat}{x:α}(h:l[i]?=some x):(l.take (i+1)).map f=(l.take i).map f++[f x]:=by
 rw[eB h,bU];rfl
theorem aUH{l:List Rul}{y:A}(h:y∈l.map Rul.enc):y.cells.length=7:=by
 obtain⟨z,_,rfl⟩:=cN.1 h;rfl
def rB(x:Rul)(k:Nat)(t:Option Nat × Option Nat × Option Nat):List eR:=[(t.1,((x.parts.take k).map Part.left).length,67),(t.2.1,((x.parts.take k).flatMap Part.right).length,67),(t.2.2,((x.parts.take k).map Part.at_).length,9)]
theorem aLm{d:Dfn}{b:List Part}{x:Part}:NZ (uI d b x):=oK (lQ bA) (oK (lQ bA) (dQ (fW bA) (fW bA)))
theorem aFW:∀l:List Part,(l.flatMap Part.right).length<=(l.flatMap λp=>p.left::p.right).length
 | []=>bJ _
 | x::r=>by simp only[jR,aH,aV];have:=aFW r;omega
theorem aS6(x:Rul):(eH x).length<=(fX x).length:=by
 have:=aFW x.parts;simp only[eH,fX,aH]at this⊢;omega
theorem aL8{S:St}{u:Nat}{v:Nat × TypeId}(h:S.getT u=none):(S.setT u v).ge S:=fR (tk:=some u) (n:=v.1) (e:=v.2) (aE S) λt e=>by cases e;exact h
theorem aJQ:∀l:List Part,(aY (l.map Part.left)).length+(aY (l.flatMap Part.right)).length=(aY (l.flatMap λp=>p.left::p.right)).length
 | []=>rfl
 | x::r=>by
  have:=aJQ r;simp only[bX,jR,dY,aY,gX,aH];omega
theorem aTk(x:Rul):(aY (gC x++eH x)).length=(aY (fX x)).length:=by
 have:=aJQ x.parts;simp only[gC,eH,fX,gX,aH];omega
theorem aSx{α u:Type}{f:α->List u}{l:List α}{x:α}(h:x∈l):(f x).length<=(l.flatMap f).length:=by
 obtain⟨a,b,rfl⟩:=List.append_of_mem h;simp only[sD,jR,aH];omega
structure RulB (r:Rul):Prop where
 pl:r.parts.length<=4294967000
 nl:r.new.length<=4294967000
 dl:r.drop.length<=4294967000
 tm:∀t,t∈fX r->TmW t
 pr:(aY (fX r)).length<=4294967000
section
variable {s S S':St} {KV Kp:St->A->Prop} {c:Nat} {d:Dfn} {o:Option Fault}
theorem aQh(i:Nat)(x:Rul)(hi:d.rules[i]?=some x)(hc:s.getO c=some (bZ d o))(hz:NZ o)(ho:d.once.length<=4294967000)(hm:d.many.length<=4294967000)(hw:d.sig.below.length<=4294967000)(fg:d.rules.length<=4294967000)(hB:RulB x)
  (hk:KV (s.setO c (bZ d (aK o (xS d ((d.rules.take i).map Rul.name) x)))) (.tuple [])):Den cx 36 [.ptr c 0,.int .i64 (i:Nat)] KV Kp s:=by
 have c8:=hc;have ix:i<d.rules.length:=(dZ.1 hi).1;have n0:(0:Int)<=(i:Int):=by omega
 unfold xS at hk;simp only[go_sem,bZ]at hc;(refine gBy func36 ?_;simp only[go_sem,ntmps36,f36]);obtain⟨M,hM⟩:∃M,M=d.rules.take i:=⟨_,rfl⟩
 have cw:M.length<=4294967000:=by rw[hM,dT];omega
 have c3:decide (x.name∈M.map Rul.name)=M.any λz=>decide (x.name=z.name):=by
  rw[gA,jS];simp only[bW,cN];exact⟨λ⟨y,h1,h2⟩=>⟨y,h1,h2.symm⟩,λ⟨y,h1,h2⟩=>⟨y,h1,h2.symm⟩⟩
 rw[<-hM,c3]at hk;refine Ex.cut (V:=kK) 2 (ι:=St × Nat) (λj=>[(0,.ptr c 0),(4,.ptr j.2 0)]) (λj=>j.1) (λj=>BX c d [(j.2,50,x.cs)] s (aK o (bH (M.any λz=>decide (x.name=z.name)) ⟨14,x.name,x.line,x.col⟩)) j.1) ?_ ?_
 ·(try simp only[go_sem,hc,hi,ix,n0])
  (refine cH λq hq=>?_);have f1:=aI hc (aS hq)
  (try simp only[go_sem,hc,f1,hq,hi,ix,n0])
  obtain⟨S0,B,bh,bm⟩:=gZ s q (.cells 50 x.cs) (aS hq)
  try simp only[go_sem]at bm B
  rw[bm];clear bm;have m:BX c d [(q,50,x.cs)] s o S0:=BX.add (L:=[]) ⟨c8,λb hb=>(by cases hb),OV.of (aE s),hz⟩ bh f1.1 (by simp only[go_sem];exact B);have G:=bh.ob _ _ hc;clear hq f1
  (try simp only[go_sem,G,B,ix,n0])
  rw[<-lC,<-hM];refine⟨λz hz=>aUH hz,Nat.le_of_lt ix,?_⟩;generalize hQ:bH (M.any λz=>decide (x.name=z.name)) ⟨14,x.name,x.line,x.col⟩=Q
  refine Ex.loop (ι:=Nat × Option Fault × St) (λk=>[(0,.ptr c 0),(4,.ptr q 0),(44,.list none (M.map Rul.enc)),(45,.int .i64 (M.length:Nat)),(46,.int .i64 (k.1:Nat))]) (λk=>k.2.2)
   (λk=>k.1<=M.length/\BX c d [(q,50,x.cs)] s k.2.1 k.2.2/\k.2.1=aK o (bH ((M.take k.1).any λz=>decide (x.name=z.name)) ⟨14,x.name,x.line,x.col⟩)) (λk=>M.length-k.1) (0,o,S0) ⟨aW _,m,(jU o).symm⟩ ?_ (by exact aE _) ?_
  .simp only[go_sem,G,B]
   try exact rfl
   try exact⟨rfl,rfl⟩
  .clear G B m bh;rintro⟨j,o2,S2⟩ ⟨hj,m,b8⟩;simp only at hj m b8;refine aX (V:=kK) _ _ _ _ ?_;have G:=m.gck;have B:=m.g0;simp only[go_sem,bZ]at G B;simp only[go_sem,G,B]
   (apply aJ<;>intro h)<;>simp only[go_sem,h,G,B]
   .have jx:j<M.length:=gQ h;clear h;obtain⟨z,hz⟩:=bB jx;have zm:=bK hz
    (try simp only[go_sem,hz,jx,G,B])
    (refine cH λz1 O=>?_);have e1:=aI G (aS O);have e2:=aI B (aS O)
    (try simp only[go_sem,G,B,hz,jx,O,e1,e2])
    obtain⟨S3,b1,b0,b2⟩:=gZ S2 z1 (.cells 50 z.cs) (aS O)
    try simp only[go_sem]at b2 b1
    rw[b2];clear b2;have Z:=m.to b0;have B:=b0.ob _ _ B;have G:=b0.ob _ _ G;clear O e1 e2
    (try simp only[go_sem,G,B,b1])
    have et:((M.take (j+1)).any λz=>decide (x.name=z.name))=(((M.take j).any λz=>decide (x.name=z.name))||decide (x.name=z.name)):=by rw[eB hz,pC,pF,aIR,jA]
    cases c1:decide (x.name=z.name)<;>(try simp only[go_sem,G,B,b1,c1])
    .exact⟨(j+1,o2,S3),⟨jx,Z,by rw[et,c1,jA];exact b8⟩,aQ,aU j aB,aE _⟩
    .refine fA ⟨14,x.name,x.line,x.col⟩ Z.gck Z.nz ?_
     (try simp only[go_sem])
     exact⟨(j+1,aK o2 (some ⟨14,x.name,x.line,x.col⟩),S3.setO c _),⟨jx,Z.fail,by rw[et,c1,b8];exact aGV o _ true _⟩,aQ,aU j aB,aE _⟩
   .have je:=bQ hj h;clear h;subst je;simp only[bT]at b8;rw[hQ]at b8;exact⟨(S2,q),m.eqo b8,rfl,aE _⟩
 generalize bH (M.any λz=>decide (x.name=z.name)) ⟨14,x.name,x.line,x.col⟩=Q at hk⊢;rw[<-eO]at hk;generalize aK o Q=o1 at hk⊢;clear hM cw c3 hc c8 hz;rintro⟨S,q⟩ m;simp only at m;simp only[tlC_seq,tlC_zero];refine Ex.cut (V:=kK) 1 (ι:=St) (λj=>[(0,.ptr c 0),(4,.ptr q 0)]) (λj=>j) (λj=>BX c d [(q,50,x.cs)] s (aK o1 (bH (decide (x.parts.length=0)) ⟨15,x.name,x.line,x.col⟩)) j) ?_ ?_
 .have G:=m.gck;have B:=m.g0;simp only[go_sem,bZ]at G B;have e0:decide ((x.parts.length:Int)=0)=decide (x.parts.length=0):=cC.2 aB
  (try simp only[go_sem,G,B,e0])
  cases c1:decide (x.parts.length=0)<;>(try simp only[go_sem,G,B,c1])
  .exact⟨S,m.none,aE _⟩
  .refine fA ⟨15,x.name,x.line,x.col⟩ m.gck m.nz ?_
   (try simp only[go_sem])
   exact⟨S.setO c _,m.fail,aE _⟩
 have bg:aK o1 (bH (decide (x.parts.length=0)) ⟨15,x.name,x.line,x.col⟩)=none->x.parts≠[]:=λh e=>by
  rw[e]at h;cases o1<;>cases h
 generalize bH (decide (x.parts.length=0)) ⟨15,x.name,x.line,x.col⟩=Q at hk bg⊢;rw[<-eO]at hk;generalize aK o1 Q=o2 at hk bg⊢;clear m S;rintro S m;simp only[tlC_seq,tlC_zero]
 refine Ex.cut (V:=kK) 3 (ι:=(St × Option Fault) × Option Nat × Option Nat × Option Nat) (λj=>[(0,.ptr c 0),(4,.ptr q 0),(7,gv j.2.1 ((x.parts.map Part.left).map Tm.enc)),(8,gv j.2.2.1 ((x.parts.flatMap Part.right).map Tm.enc)),(9,gv j.2.2.2 ((x.parts.map Part.at_).map .str))]) (λj=>gs j.1.1 j.2.2.1 (x.parts.flatMap Part.right).length 67)
  (λj=>BX c d [(q,50,x.cs)] s j.1.2 j.1.1/\j.1.2=aK o2 (qY d [] x.parts)/\(j.2.1=none->x.parts=[])/\(j.2.2.2=none->x.parts=[])/\(j.2.2.1=none->(x.parts.flatMap Part.right).length=0)/\∀t,j.2.2.1=some t->j.1.1.getT t=none) ?_ ?_
 .have G:=m.gck;have B:=m.g0;simp only[go_sem,bZ]at G B
  (try simp only[go_sem,G,B])
  generalize hQ:aK o2 (qY d [] x.parts)=Q
  refine Ex.loop (ι:=Nat × (St × Option Fault) × Option Nat × Option Nat × Option Nat)
   (λk=>[(0,.ptr c 0),(4,.ptr q 0),(7,gv k.2.2.1 (((x.parts.take k.1).map Part.left).map Tm.enc)),(8,gv k.2.2.2.1 (((x.parts.take k.1).flatMap Part.right).map Tm.enc)),(9,gv k.2.2.2.2 (((x.parts.take k.1).map Part.at_).map .str)),(77,.list none (x.parts.map Part.enc)),(78,.int .i64 (x.parts.length:Nat)),(79,.int .i64 (k.1:Nat))])
   (λk=>dR k.2.1.1 (rB x k.1 k.2.2))
   (λk=>k.1<=x.parts.length/\BX c d [(q,50,x.cs)] s k.2.1.2 k.2.1.1/\aK k.2.1.2 (qY d (x.parts.take k.1) (x.parts.drop k.1))=Q/\OwnOk k.2.1.1 (rB x k.1 k.2.2)) (λk=>x.parts.length-k.1) (0,(S,o2),none,none,none)
   ⟨aW _,m,hQ,⟨fun a ha t ht => (by simp only [rB,dG,iI,eJ] at ha; rcases ha with rfl | rfl | rfl <;> cases ht),fun a ha _ => (by simp only [rB,dG,iI,eJ] at ha; rcases ha with rfl | rfl | rfl <;> rfl),fun a b e f t h1 h2 h3 => (by
    have:=bK h1;simp only[rB,dG,iI,eJ]at this;rcases this with rfl|rfl|rfl<;>cases h3)⟩⟩ ?_ (by exact aE _) ?_
  .simp only[go_sem,G,B];exact⟨rfl,rfl,rfl,rfl⟩
  .clear G B m hQ;rintro⟨j,⟨S2,o3⟩,tl,tr,ta⟩ ⟨hj,m,hI,hO⟩;simp only at hj m hI hO;refine aX (V:=kK) _ _ _ _ ?_;have G:=m.gck;have B:=m.g0;simp only[go_sem,bZ]at G B;simp only[go_sem,G,B]
   (apply aJ<;>intro h)<;>simp only[go_sem,h,G,B]
   .have jx:j<x.parts.length:=gQ h;clear h;obtain⟨y,U⟩:=bB jx;have ym:=bK U
    (try simp only[go_sem,U,jx,G,B])
    intro z1 O;rw[aT]at O;have e1:=aI G O;have e2:=aI B O;simp only[go_sem,G,B,U,jx,O,e1,e2];have b1:(S2.setO z1 (.cells 101 y.cs)).getO z1=some (.cells 101 y.cs):=by rw[aL,aF rfl]
    have Z:=m.add (bG O (aE _)) e1.1 b1;have b9:OwnOk (S2.setO z1 (.cells 101 y.cs)) (rB x j (tl,tr,ta)):=hO.to λ_=>rfl
    generalize bj:S2.setO z1 (.cells 101 y.cs)=S3 at Z b9;simp only[go_sem]at bj;rw[bj];clear bj m hO b1 O e1 e2 G B;rw[aO0 U,<-eO,<-eB U]at hI;have ck:=Z.nz;have G:=Z.gck;have gz:=Z.g0;have B:=Z.g1;simp only[go_sem,bZ]at G B gz
    (try simp only[go_sem,G,B,gz])
    refine vI (by rw[aT];exact Z.gck) Z.nz ?_;rcases o3 with _|f
    rotate_left
    focus
     (try simp only[go_sem,G,B,gz,qI])
     have m4:=Z;have bb:=b9;have bd:aK (some f) (qY d (x.parts.take (j+1)) (x.parts.drop (j+1)))=Q:=hI;generalize some f=o4 at m4 bd;clear Z b9 ck hI
     rename St=>S4
    rotate_left
    focus
     (try simp only[go_sem,G,B,gz,yL])
     have fk:(aY (y.left::y.right)).length<=4294967000:=by
      have h1:=aBO (λp:Part=>p.left::p.right) ym;have h2:=hB.pr;rw[fX,gX,aH]at h2;omega
     have c0:=lO (y.left::y.right);rw[aV]at c0;refine cF (aPC x j y U (by rw[aT];exact Z.gck) Z.nz ho hm hw hB.pl aB (λt ht=>hB.tm t (iX _ (mC.2 ⟨y,ym,ht⟩))) (by have:=wN (x:=y.left) (cQ (l:=y.right));omega) ?_);have m4:=Z.set (dQ lP (aLm (d:=d) (b:=x.parts.take j) (x:=y)));have bb:OwnOk (S3.setO c (bZ d (aK none (uI d (x.parts.take j) y)))) (rB x j (tl,tr,ta)):=b9.to λ_=>rfl
     have cj:c≠z1:=(Z.gb _ (cQ ..)).1;have ch:c≠q:=(Z.tl.gb _ (cQ ..)).1
     (try simp only[go_sem,G,B,gz,cj,ch])
     generalize S3.setO c (bZ d (aK none (uI d (x.parts.take j) y)))=S4 at m4 bb⊢;have bd:=hI;generalize aK none (uI d (x.parts.take j) y)=o4 at m4 bd;clear Z b9 ck hI G B gz cj ch;have G:=m4.gck;have gz:=m4.g0;have B:=m4.g1;simp only[go_sem,bZ]at G B gz
    all_goals
     have fj:=hB.pl;have f4:=hB.pr
     have bn:((x.parts.take (j+1)).flatMap Part.right).length<=4294967000:=by
      have h1:=aFW (x.parts.take (j+1));have h2:=lO (fX x)
      have h3:((x.parts.take (j+1)).flatMap λp=>p.left::p.right).length<=(x.parts.flatMap λp=>p.left::p.right).length:=by
       conv=>rhs;rw[<-mQ (j+1) x.parts,sD,aH]
       omega
      rw[fX,aH]at h2;rw[fX]at f4;omega
     rw[wM U,aH]at bn;have ct:=gz;have cq:=G;have cr:=B;have bk:=aE (dR S4 (rB x j (tl,tr,ta)));generalize b4:((x.parts.take j).map Part.left)=A1 at *;generalize b7:((x.parts.take j).flatMap Part.right)=A2 at *;generalize bf:((x.parts.take j).map Part.at_)=A3 at *;have eL:rB x j (tl,tr,ta)=[(tl,A1.length,67),(tr,A2.length,67),(ta,A3.length,9)]:=by unfold rB;rw[b4,b7,bf]
     rw[eL]at bb bk⊢;have l1:A1.length<=j:=by rw[<-b4,aO,dT];omega
     have l3:A3.length<=j:=by rw[<-bf,aO,dT];omega
     refine⟨by decide,λy U=>(by rw[bO.1 U];rfl),dU rfl rfl (by rw[aO];exact aG9 bb bk (k:=0) (o:=(tl,A1.length,67)) rfl) (λy U=>jX U) (by simp only[aO,aV,aZ];omega) (λu1 f5=>?_)⟩;obtain⟨c4,b5⟩:OwnOk S4 [(some u1,A1.length+1,67),(tr,A2.length,67),(ta,A3.length,9)]/\((dR S4 [(tl,A1.length,67),(tr,A2.length,67),(ta,A3.length,9)]).setT u1 (A1.length+1,67)).ge (dR S4 [(some u1,A1.length+1,67),(tr,A2.length,67),(ta,A3.length,9)]):=aGC bb bk (k:=0) (o:=(tl,A1.length,67)) rfl f5;have en:(A1.map Tm.enc).length=A1.length:=aO _;simp only[en,uV];generalize St.setT _ u1 _=S5 at b5;have gz:=b5.ob _ _ (show(dR S4 _).getO z1=_ by rw[aT];exact gz);have G:=b5.ob _ _ (show(dR S4 _).getO c=_ by rw[aT];exact G);have B:=b5.ob _ _ (show(dR S4 _).getO q=_ by rw[aT];exact B)
     (try simp only[go_sem,G,B,gz])
     refine⟨by decide,λy U=>jX U,dU rfl rfl (by rw[aO];exact aG9 c4 b5 (k:=1) (o:=(tr,A2.length,67)) rfl) (λy U=>jX U) (by simp only[aO];omega) (λu2 f6=>?_)⟩;obtain⟨c5,b6⟩:OwnOk S4 [(some u1,A1.length+1,67),(some u2,A2.length+y.right.length,67),(ta,A3.length,9)]/\(S5.setT u2 (A2.length+y.right.length,67)).ge (dR S4 [(some u1,A1.length+1,67),(some u2,A2.length+y.right.length,67),(ta,A3.length,9)]):=aGC c4 b5 (k:=1) (o:=(tr,A2.length,67)) rfl f6;have en:(A2.map Tm.enc).length=A2.length:=aO _;have cp:(y.right.map Tm.enc).length=y.right.length:=aO _;simp only[en,cp];generalize St.setT _ u2 _=S6 at b6;have gz:=b6.ob _ _ (show(dR S4 _).getO z1=_ by rw[aT];exact ct);have G:=b6.ob _ _ (show(dR S4 _).getO c=_ by rw[aT];exact cq);have B:=b6.ob _ _ (show(dR S4 _).getO q=_ by rw[aT];exact cr)
     (try simp only[go_sem,G,B,gz])
     refine⟨by decide,λy U=>(by rw[bO.1 U];rfl),dU rfl rfl (by rw[aO];exact aG9 c5 b6 (k:=2) (o:=(ta,A3.length,9)) rfl) (λy U=>fK U) (by simp only[aO,aV,aZ];omega) (λu3 f7=>?_)⟩;obtain⟨c6,bl⟩:OwnOk S4 [(some u1,A1.length+1,67),(some u2,A2.length+y.right.length,67),(some u3,A3.length+1,9)]/\(S6.setT u3 (A3.length+1,9)).ge (dR S4 [(some u1,A1.length+1,67),(some u2,A2.length+y.right.length,67),(some u3,A3.length+1,9)]):=aGC c5 b6 (k:=2) (o:=(ta,A3.length,9)) rfl f7;have en:(A3.map A.str).length=A3.length:=aO _;simp only[en,uV];generalize St.setT _ u3 _=S7 at bl
     have cn:rB x (j+1) (some u1,some u2,some u3)=[(some u1,A1.length+1,67),(some u2,A2.length+y.right.length,67),(some u3,A3.length+1,9)]:=by
      unfold rB;rw[wS U,wM U,wS U,b4,b7,bf,aH,aH,aH];rfl
     rw[<-cn]at c6 bl
     (try simp only[go_sem])
     refine⟨(j+1,(S4,o4),some u1,some u2,some u3),⟨jx,m4.tl,bd,c6⟩,aQ,⟨?_,?_,?_,aU j aB⟩,bl⟩
     .rw[wS U,b4,bU];simp only[gv,bX,dL,cY,Tm.cs,dY,dD]
     .rw[wM U,b7,bU];rfl
     .rw[wS U,bf,bU];rfl
   .have je:=bQ hj h;clear h;subst je;simp only[rB,bT]at hO⊢;refine⟨((S2,o3),tl,tr,ta),⟨m,?_,?_,?_,?_,?_⟩,⟨rfl,rfl,rfl⟩,aTN hO (k:=1) rfl⟩
    .rw[dP (bJ _),qY,jU]at hI;exact hI
    .intro h;have:=hO.nil _ (cQ ..) h;simpa using this
    .intro h;have:=hO.nil _ (eA _ (eA _ (cQ ..))) h;simpa using this
    .intro h;exact hO.nil _ (eA _ (cQ ..)) h
    .exact hO.free _ (eA _ (cQ ..))
 generalize hQ:aK o2 (qY d [] x.parts)=o3;rw[<-eO,hQ]at hk;have bt:o3=none->x.parts≠[]:=λh=>bg (by rw[h]at hQ;cases o2 with|none=>rfl|some f=>cases hQ)
 clear hQ bg m S;rintro⟨⟨S,oo⟩,tl,tr,ta⟩ ⟨m,rfl,bw,bv,bz,bp⟩;simp only at m bw bv bz bp;simp only[tlC_seq,tlC_zero]
 refine Ex.cut (V:=kK) 2 (ι:=St × Nat) (λj=>[(0,.ptr c 0),(4,.ptr q 0),(7,gv tl ((x.parts.map Part.left).map Tm.enc)),(8,.list (some j.2) ((eH x).map Tm.enc)),(9,gv ta ((x.parts.map Part.at_).map .str))]) (λj=>j.1)
  (λj=>BX c d [(q,50,x.cs)] s oo j.1) ?_ ?_
 .have hnl:=hB.nl
  have cf:(eH x).length<=4294967000:=by
   have h1:=aS6 x;have h2:=lO (fX x);have h3:=hB.pr;omega
  unfold eH at cf;simp only[aH]at cf;have G:=m.gck;have B:=m.g0;simp only[go_sem,bZ]at G B
  (try simp only[go_sem,G,B])
  refine⟨by decide,λy U=>jX U,dU rfl rfl (by rw[aO];exact fD bz) (λy U=>jX U) (by simp only[aO];omega) (λu hu=>?_)⟩;have f2:=iD hu bp;rw[gR hu]
  (try simp only[go_sem,G,B])
  refine Ex.loop (ι:=Nat) (λk=>[(0,.ptr c 0),(4,.ptr q 0),(7,gv tl ((x.parts.map Part.left).map Tm.enc)),(8,.list (some u) ((x.parts.flatMap Part.right++x.cond++(x.new.take k).flatMap Fresh.cells).map Tm.enc)),(9,gv ta ((x.parts.map Part.at_).map .str)),(110,.list none (x.new.map Fresh.enc)),(111,.int .i64 (x.new.length:Nat)),(112,.int .i64 (k:Nat))])
   (λk=>S.setT u ((x.parts.flatMap Part.right++x.cond++(x.new.take k).flatMap Fresh.cells).length,67)) (λk=>k<=x.new.length) (λk=>x.new.length-k) 0 (aW _) ?_ ?_ ?_
  .simp only[go_sem,G,B];simp only[kO,sF,dK,bU];exact⟨trivial,rfl⟩
  .simp only[kO,sF,dK,aH];exact aE _
  .intro j hj;refine aX (V:=kK) _ _ _ _ ?_;simp only[go_sem,G,B]
   (apply aJ<;>intro h)<;>simp only[go_sem,h,G,B]
   .have jx:j<x.new.length:=gQ h;clear h;obtain⟨y,U⟩:=bB jx;have ym:=bK U
    (try simp only[go_sem,U,jx,G,B])
    (refine cH λz1 O=>?_);have e1:=aI G (aS O);have e2:=aI B (aS O)
    (try simp only[go_sem,G,B,U,jx,O,e1,e2])
    have bn:((x.new.take (j+1)).flatMap Fresh.cells).length<=(x.new.flatMap Fresh.cells).length:=by
     conv=>rhs;rw[<-mQ (j+1) x.new,sD,aH]
     omega
    rw[wM U,aH]at bn;refine⟨by decide,λy U=>jX U,λy U=>jX U,by simp only[aH];omega,j+1,jx,by omega,⟨by rw[wM U];simp only[bU,eG],aU j aB⟩,?_⟩;rw[wM U,tR];have e:(x.parts.flatMap Part.right++x.cond++((x.new.take j).flatMap Fresh.cells++y.cells)).length=(x.parts.flatMap Part.right++x.cond++(x.new.take j).flatMap Fresh.cells).length+y.cells.length:=by simp only[aH];omega
    rw[e];exact fB (bG O (aE _))
   .have je:=bQ hj h;clear h;subst je;simp only[bT];exact⟨(_,u),m.to (aL8 f2),⟨rfl,rfl⟩,aE _⟩
 simp only at hk bt;clear m S bz bp tr;rintro⟨S,ur⟩ m;simp only at m;simp only[tlC_seq,tlC_zero];cases oo with
 | some f =>
  refine aX (V:=kK) _ _ _ _ ?_;have G:=m.gck;have B:=m.g0;simp only[go_sem,bZ]at G B;simp only[go_sem,G,B];refine vI m.gck m.nz ?_
  (try simp only[go_sem,qI])
  exact aG hk (m.ov.fin m.gck)
 | none =>
 have br:=bt rfl;obtain⟨ul,rfl⟩:∃u,tl=some u:=by cases tl with|none=>exact cV (bw rfl) br|some u=>exact⟨u,rfl⟩
 obtain⟨ua,rfl⟩:∃u,ta=some u:=by cases ta with|none=>exact cV (bv rfl) br|some u=>exact⟨u,rfl⟩
 clear bt bw bv;have hk:KV (s.setO c (bZ d (aDB d x))) (.tuple []):=hk;refine Ex.cut (V:=kK) 1 (ι:=Unit) (λ_=>[(0,.ptr c 0),(4,.ptr q 0),(7,.list (some ul) ((gC x).map Tm.enc)),(8,.list (some ur) ((eH x).map Tm.enc)),(9,.list (some ua) ((x.parts.map Part.at_).map .str))]) (λ_=>S) (λ_=>True) ?_ ?_
 .have G:=m.gck;have B:=m.g0;simp only[go_sem,bZ]at G B
  (try simp only[go_sem,G,B])
  refine vI m.gck m.nz ?_
  (try simp only[go_sem,yL])
  exact⟨(),⟨rfl,rfl⟩,aE _⟩
 rintro⟨⟩ -;have f3:=aTk x;have fc:=hB.pr;have hW:=aLX hB.tm;have fh:=lO (fX x)
 have cd:(gC x).length+(eH x).length<=4294967000:=by
  have h1:=lO (gC x++eH x);rw[aH]at h1;omega
 have hnl:=hB.nl;have ff:=hB.dl;unfold aDB at hk;simp only[tlC_seq,tlC_zero];refine Ex.cut (V:=kK) 1 (ι:=St) (λ_=>[(0,.ptr c 0),(4,.ptr q 0),(7,.list (some ul) ((gC x).map Tm.enc)),(8,.list (some ur) ((eH x).map Tm.enc)),(9,.list (some ua) ((x.parts.map Part.at_).map .str))]) (λj=>j) (λj=>BX c d [(q,50,x.cs)] s (jG 16 (oW (gC x++eH x)) x.line x.col) j) ?_ ?_
 .have G:=m.gck;have B:=m.g0;simp only[go_sem,bZ]at G B
  (try simp only[go_sem,G,B])
  refine⟨by decide,λy U=>jX U,pO (tk:=none) (es:=[]) (λ_=>rfl) (λt h=>by cases h) (λy U=>by cases U) (by simp only[aO,aZ];omega) (λf9 b4 c9=>?_)⟩
  (try simp only[go_sem,G,B])
  refine⟨by decide,λy U=>jX U,pO (λh=>by simpa using b4 h) (λt ht=>by rw[wX t ht];simp) (λy U=>jX (gQ U)) (by simp only[aO,aZ,dD];omega) (λcm b7 cb=>?_)⟩
  obtain⟨t2,rfl⟩:∃t,cm=some t:=by
   cases cm with
   | some t=>exact⟨t,rfl⟩
   | none =>
    have h1:=b7 rfl;simp only[dD,List.append_eq_nil_iff,List.map_eq_nil_iff,gC]at h1;exact cV h1.1 br
  generalize c7:gs (gs S f9 _ _) (some t2) _ _=S2;have bq:S2.ge S:=by rw[<-c7];exact zG (aE _) c9 (λt h=>(cb t h).imp id (λh=>⟨_,h⟩))
  clear c7 b4 c9 b7 cb;have m2:=m.to bq;have G:=bq.ob _ _ G;have B:=bq.ob _ _ B
  (try simp only[go_sem,G,B,ev])
  refine aLl (gC x++eH x) (by simp only[bU,dD]) hW aB ?_
  (try simp only[go_sem,G,B])
  generalize oW (gC x++eH x)=Q;obtain⟨v,b⟩:=Q;cases b<;>(try simp only[go_sem,G,B])
  .exact⟨S2,by rw[jG,aD (λh=>by cases h)];exact m2,aE _⟩
  .refine fA ⟨16,v,x.line,x.col⟩ m2.gck m2.nz ?_
   (try simp only[go_sem])
   exact⟨S2.setO c _,by rw[jG,aF rfl];exact m2.fail,aE _⟩
 generalize (jG 16 (oW (gC x++eH x)) x.line x.col)=o1 at hk⊢;clear m S;rintro S m;simp only[tlC_seq,tlC_zero];refine Ex.cut (V:=kK) 1 (ι:=St) (λ_=>[(0,.ptr c 0),(4,.ptr q 0),(9,.list (some ua) ((x.parts.map Part.at_).map .str))]) (λj=>j) (λj=>BX c d [(q,50,x.cs)] s (aK o1 (jG 17 (oO (eH x) (gC x)) x.line x.col)) j) ?_ ?_
 .have G:=m.gck;have B:=m.g0;simp only[go_sem,bZ]at G B
  (try simp only[go_sem,G,B])
  refine aKD (eH x) (gC x) rfl rfl (λt ht=>hW t (cK.2 (cK.1 ht).symm)) (by rw[gX,aH]at f3;omega) ?_
  (try simp only[go_sem,G,B])
  generalize oO (eH x) (gC x)=Q;obtain⟨v,b⟩:=Q;cases b<;>(try simp only[go_sem,G,B])
  .exact⟨S,by rw[jG,aD (λh=>by cases h)];exact m.none,aE _⟩
  .refine fA ⟨17,v,x.line,x.col⟩ m.gck m.nz ?_
   (try simp only[go_sem])
   exact⟨S.setO c _,by rw[jG,aF rfl];exact m.fail,aE _⟩
 generalize (jG 17 (oO (eH x) (gC x)) x.line x.col)=P at hk⊢;rw[<-eO]at hk;generalize aK o1 P=o2 at hk⊢;clear m S;rintro S m;simp only[tlC_seq,tlC_zero];have f0:∀t,t∈x.cond->TmW t:=λt ht=>hW t (by simp only[eH,cK];exact .inr (.inl (.inr ht)))
 have fd:x.cond.length<=4294967000:=by simp only[eH,aH]at cd;omega
 refine Ex.cut (V:=kK) 1 (ι:=St) (λ_=>[(0,.ptr c 0),(4,.ptr q 0),(9,.list (some ua) ((x.parts.map Part.at_).map .str))]) (λj=>j) (λj=>BX c d [(q,50,x.cs)] s (aK o2 (bS (λt=>bH (!(eI d.sig t&&fH d.sig t [66,111,111,108])) ⟨16,x.name,x.line,x.col⟩) x.cond)) j) ?_ ?_
 .have G:=m.gck;have B:=m.g0;simp only[go_sem,bZ]at G B
  (try simp only[go_sem,G,B])
  generalize hQ:aK o2 (bS (λt=>bH (!(eI d.sig t&&fH d.sig t [66,111,111,108])) ⟨16,x.name,x.line,x.col⟩) x.cond)=Q
  refine Ex.loop (ι:=Nat × Option Fault × St) (λk=>[(0,.ptr c 0),(4,.ptr q 0),(9,.list (some ua) ((x.parts.map Part.at_).map .str)),(156,.list none ((x.cond).map Tm.enc)),(157,.int .i64 ((x.cond).length:Nat)),(158,.int .i64 (k.1:Nat))]) (λk=>k.2.2)
   (λk=>k.1<=(x.cond).length/\BX c d [(q,50,x.cs)] s k.2.1 k.2.2/\aK k.2.1 (bS (λt=>bH (!(eI d.sig t&&fH d.sig t [66,111,111,108])) ⟨16,x.name,x.line,x.col⟩) (x.cond.drop k.1))=Q) (λk=>(x.cond).length-k.1) (0,o2,S) ⟨aW _,m,hQ⟩ ?_ (by exact aE _) ?_
  .simp only[go_sem,G,B]
   first|exact rfl|exact⟨rfl,rfl⟩
  .clear G B m hQ;rintro⟨j,o',S2⟩ ⟨hj,m,hI⟩;simp only at hj m hI;refine aX (V:=kK) _ _ _ _ ?_;have G:=m.gck;have B:=m.g0;simp only[go_sem,bZ]at G B;simp only[go_sem,G,B]
   (apply aJ<;>intro h)<;>simp only[go_sem,h,G,B]
   .have jx:j<x.cond.length:=gQ h;clear h;obtain⟨y,U⟩:=bB jx;have ym:=bK U
    (try simp only[go_sem,U,jx,G,B])
    (refine cH λz1 O=>?_);have e1:=aI G (aS O);have e2:=aI B (aS O)
    (try simp only[go_sem,G,B,U,jx,O,e1,e2])
    obtain⟨S3,b1,b0,b2⟩:=gZ S2 z1 (.cells 67 y.cs) (aS O)
    try simp only[go_sem]at b2 b1
    rw[b2];clear b2;have Z:=m.to b0;have B:=b0.ob _ _ B;have G:=b0.ob _ _ G;clear O e1 e2
    (try simp only[go_sem,G,B,b1])
    rw[iC U,bS]at hI;(refine bD (OT.r 0 14) [(6,[10])] ?_;simp only[go_sem,G,B,b1]);refine cF (wQ d.sig hw y (f0 y ym) ?_);cases c1:eI d.sig y<;>(try simp only[go_sem,G,B,b1])<;>rw[c1]at hI
    .refine fA ⟨16,x.name,x.line,x.col⟩ Z.gck Z.nz ?_
     (try simp only[go_sem])
     exact⟨(j+1,_,_),⟨jx,Z.fail,oh hI⟩,aQ,aU j aB,aE _⟩
    .refine cF (yO y [66,111,111,108] Z.gck hw ?_);cases c2:fH d.sig y [66,111,111,108]<;>(try simp only[go_sem,G,B,b1])<;>rw[c2]at hI
     .refine fA ⟨16,x.name,x.line,x.col⟩ Z.gck Z.nz ?_
      (try simp only[go_sem])
      exact⟨(j+1,_,_),⟨jx,Z.fail,oh hI⟩,aQ,aU j aB,aE _⟩
     .exact⟨(j+1,o',S3),⟨jx,Z,hI⟩,aQ,aU j aB,aE _⟩
   .have je:=bQ hj h;clear h;subst je;rw[dP (bJ _),bS,jU]at hI;exact⟨S2,m.eqo hI,aE _⟩
 generalize (bS (λt=>bH (!(eI d.sig t&&fH d.sig t [66,111,111,108])) ⟨16,x.name,x.line,x.col⟩) x.cond)=P at hk⊢;rw[<-eO]at hk;generalize aK o2 P=o3 at hk⊢;clear m S;rintro S m;simp only[tlC_seq,tlC_zero];refine Ex.cut (V:=kK) 1 (ι:=St) (λ_=>[(0,.ptr c 0),(4,.ptr q 0),(9,.list (some ua) ((x.parts.map Part.at_).map .str))]) (λj=>j) (λj=>BX c d [(q,50,x.cs)] s (aK o3 (bS (λy:Fresh=>bH (decide (d.kind=[])||!decide (y.cells.length=d.many.length)) ⟨15,x.name,x.line,x.col⟩) x.new)) j) ?_ ?_
 .have G:=m.gck;have B:=m.g0;simp only[go_sem,bZ]at G B
  (try simp only[go_sem,G,B])
  generalize hQ:aK o3 (bS (λy:Fresh=>bH (decide (d.kind=[])||!decide (y.cells.length=d.many.length)) ⟨15,x.name,x.line,x.col⟩) x.new)=Q
  refine Ex.loop (ι:=Nat × Option Fault × St) (λk=>[(0,.ptr c 0),(4,.ptr q 0),(9,.list (some ua) ((x.parts.map Part.at_).map .str)),(186,.list none ((x.new).map Fresh.enc)),(187,.int .i64 ((x.new).length:Nat)),(188,.int .i64 (k.1:Nat))]) (λk=>k.2.2)
   (λk=>k.1<=(x.new).length/\BX c d [(q,50,x.cs)] s k.2.1 k.2.2/\aK k.2.1 (bS (λy:Fresh=>bH (decide (d.kind=[])||!decide (y.cells.length=d.many.length)) ⟨15,x.name,x.line,x.col⟩) (x.new.drop k.1))=Q) (λk=>(x.new).length-k.1) (0,o3,S) ⟨aW _,m,hQ⟩ ?_ (by exact aE _) ?_
  .simp only[go_sem,G,B]
   first|exact rfl|exact⟨rfl,rfl⟩
  .clear G B m hQ;rintro⟨j,o',S2⟩ ⟨hj,m,hI⟩;simp only at hj m hI;refine aX (V:=kK) _ _ _ _ ?_;have G:=m.gck;have B:=m.g0;simp only[go_sem,bZ]at G B;simp only[go_sem,G,B]
   (apply aJ<;>intro h)<;>simp only[go_sem,h,G,B]
   .have jx:j<x.new.length:=gQ h;clear h;obtain⟨y,U⟩:=bB jx;have ym:=bK U
    (try simp only[go_sem,U,jx,G,B])
    (refine cH λz1 O=>?_);have e1:=aI G (aS O);have e2:=aI B (aS O)
    (try simp only[go_sem,G,B,U,jx,O,e1,e2])
    obtain⟨S3,b1,b0,b2⟩:=gZ S2 z1 (.cells 103 y.cs) (aS O)
    try simp only[go_sem]at b2 b1
    rw[b2];clear b2;have Z:=m.to b0;have B:=b0.ob _ _ B;have G:=b0.ob _ _ G;clear O e1 e2
    (try simp only[go_sem,G,B,b1])
    rw[iC U,bS]at hI;have e1:decide ((y.cells.length:Int)=(d.many.length:Int))=decide (y.cells.length=d.many.length):=cC.2 aB;cases c1:decide (d.kind=[])<;>rw[c1]at hI
    ·(refine bD (OT.r 0 18) [] ?_;simp only[go_sem,G,B,b1,c1,e1]);cases c2:decide (y.cells.length=d.many.length)<;>(try simp only[go_sem,G,B,b1,c2])<;>rw[c2] at hI
     .refine fA ⟨15,x.name,x.line,x.col⟩ Z.gck Z.nz ?_
      (try simp only[go_sem])
      exact⟨(j+1,_,_),⟨jx,Z.fail,oh hI⟩,aQ,aU j aB,aE _⟩
     .exact⟨(j+1,o',S3),⟨jx,Z,hI⟩,aQ,aU j aB,aE _⟩
    ·(refine bD (OT.r 0 18) [] ?_;simp only[go_sem,G,B,b1,c1]);refine fA ⟨15,x.name,x.line,x.col⟩ Z.gck Z.nz ?_
     (try simp only[go_sem])
     exact⟨(j+1,_,_),⟨jx,Z.fail,oh hI⟩,aQ,aU j aB,aE _⟩
   .have je:=bQ hj h;clear h;subst je;rw[dP (bJ _),bS,jU]at hI;exact⟨S2,m.eqo hI,aE _⟩
 have b3:aK o3 (bS (λy:Fresh=>bH (decide (d.kind=[])||!decide (y.cells.length=d.many.length)) ⟨15,x.name,x.line,x.col⟩) x.new)=none->∀y,y∈x.new->y.cells.length=d.many.length:=λh y U=>by
  have h2:=aJK.1 (aCe.1 h).2 y U;by_cases e:y.cells.length=d.many.length
  .exact e
  .rw[bR e,iB,lM]at h2;cases h2
 generalize (bS (λy:Fresh=>bH (decide (d.kind=[])||!decide (y.cells.length=d.many.length)) ⟨15,x.name,x.line,x.col⟩) x.new)=P at hk b3⊢;rw[<-eO]at hk;generalize aK o3 P=o4 at hk b3⊢;clear m S;rintro S m;simp only[tlC_seq,tlC_zero];refine Ex.cut (V:=kK) 1 (ι:=St) (λ_=>[(0,.ptr c 0),(4,.ptr q 0),(9,.list (some ua) ((x.parts.map Part.at_).map .str))]) (λj=>j) (λj=>BX c d [(q,50,x.cs)] s (aK o4 (bS (λy:Fresh=>qV d x.name x.line x.col y.cells d.many) x.new)) j) ?_ ?_
 .have G:=m.gck;have B:=m.g0;simp only[go_sem,bZ]at G B
  (try simp only[go_sem,G,B])
  generalize hQ:aK o4 (bS (λy:Fresh=>qV d x.name x.line x.col y.cells d.many) x.new)=Q
  refine Ex.loop (ι:=Nat × Option Fault × St) (λk=>[(0,.ptr c 0),(4,.ptr q 0),(9,.list (some ua) ((x.parts.map Part.at_).map .str)),(220,.list none (x.new.map Fresh.enc)),(221,.int .i64 (x.new.length:Nat)),(222,.int .i64 (k.1:Nat))]) (λk=>k.2.2)
   (λk=>k.1<=x.new.length/\BX c d [(q,50,x.cs)] s k.2.1 k.2.2/\aK k.2.1 (bS (λy:Fresh=>qV d x.name x.line x.col y.cells d.many) (x.new.drop k.1))=Q/\(k.2.1=none->∀y,y∈x.new->y.cells.length=d.many.length)) (λk=>x.new.length-k.1) (0,o4,S) ⟨aW _,m,hQ,b3⟩ ?_ (by exact aE _) ?_
  .simp only[go_sem,G,B]
   first|exact rfl|exact⟨rfl,rfl⟩
  .clear G B m hQ b3;rintro⟨j,o',S2⟩ ⟨hj,m,hI,b3⟩;simp only at hj m hI b3;refine aX (V:=kK) _ _ _ _ ?_;have G:=m.gck;have B:=m.g0;simp only[go_sem,bZ]at G B;simp only[go_sem,G,B]
   (apply aJ<;>intro h)<;>simp only[go_sem,h,G,B]
   .have jx:j<x.new.length:=gQ h;clear h;obtain⟨y,U⟩:=bB jx;have ym:=bK U
    (try simp only[go_sem,U,jx,G,B])
    (refine cH λz1 O=>?_);have e1:=aI G (aS O);have e2:=aI B (aS O)
    (try simp only[go_sem,G,B,U,jx,O,e1,e2])
    obtain⟨S3,b1,b0,b2⟩:=gZ S2 z1 (.cells 103 y.cs) (aS O)
    try simp only[go_sem]at b2 b1
    rw[b2];clear b2;have Z:=m.to b0;have B:=b0.ob _ _ B;have G:=b0.ob _ _ G;clear O e1 e2
    (try simp only[go_sem,G,B,b1])
    rw[iC U,bS,<-eO]at hI;have c0:o'=none->y.cells.length=d.many.length:=λh=>b3 h y ym
    have fl:y.cells.length<=4294967000:=by
     have:=aSx (f:=Fresh.cells) ym;simp only[eH,aH]at cd;omega
    have f8:∀t,t∈y.cells->TmW t:=λt ht=>hW t (by simp only[eH,cK,mC];exact .inr (.inr ⟨y,ym,ht⟩))
    generalize hR:aK o' (qV d x.name x.line x.col y.cells d.many)=R at hI;have cz:R=none->o'=none:=λh=>by rw[<-hR]at h;exact(aCe.1 h).1
    refine Ex.loop (ι:=Nat × Option Fault × St) (λk=>[(0,.ptr c 0),(4,.ptr q 0),(9,.list (some ua) ((x.parts.map Part.at_).map .str)),(220,.list none (x.new.map Fresh.enc)),(221,.int .i64 (x.new.length:Nat)),(222,.int .i64 (j:Nat)),(227,.list none (y.cells.map Tm.enc)),(228,.int .i64 (y.cells.length:Nat)),(229,.int .i64 (k.1:Nat))]) (λk=>k.2.2)
     (λk=>k.1<=y.cells.length/\BX c d [(q,50,x.cs)] s k.2.1 k.2.2/\aK k.2.1 (qV d x.name x.line x.col (y.cells.drop k.1) (d.many.drop k.1))=R/\(k.2.1=none->o'=none)) (λk=>y.cells.length-k.1) (0,o',S3) ⟨aW _,Z,hR,id⟩ ?_ (by exact aE _) ?_
    .simp only[go_sem,G,B]
     first|exact rfl|exact⟨rfl,rfl⟩
    .clear G B m Z hR b0 b1;rintro⟨n,cl,S4⟩ ⟨hn,m,hR,bc⟩;simp only at hn m hR bc;refine aX (V:=kK) _ _ _ _ ?_;have G:=m.gck;have B:=m.g0;simp only[go_sem,bZ]at G B;simp only[go_sem,G,B]
     (apply aJ<;>intro h)<;>simp only[go_sem,h,G,B]
     .have nx:n<y.cells.length:=gQ h;clear h;obtain⟨z,hz⟩:=bB nx;have zm:=bK hz
      (try simp only[go_sem,hz,nx,G,B])
      (refine cH λz1 O=>?_);have e1:=aI G (aS O);have e2:=aI B (aS O)
      (try simp only[go_sem,G,B,hz,nx,O,e1,e2])
      obtain⟨S5,b1,b0,b2⟩:=gZ S4 z1 (.cells 67 z.cs) (aS O)
      try simp only[go_sem]at b2 b1
      rw[b2];clear b2;have Z:=m.to b0;have B:=b0.ob _ _ B;have G:=b0.ob _ _ G;clear O e1 e2;(refine bD (OT.r 0 27) [(1,[7,8,13,18,22]),(9,[13,18,22])] ?_;simp only[go_sem,G,B,b1]);refine vI Z.gck Z.nz ?_;cases cl with
      | some f =>
       (try simp only[go_sem,G,B,b1,qI])
       exact⟨(n+1,some f,S5),⟨nx,Z,hR,λh=>by cases h⟩,aQ,aU n aB,aE _⟩
      | none =>
       have fb:=c0 (bc rfl);have kl:n<d.many.length:=by omega
       have n1:(0:Int)<=(n:Int):=by omega
       obtain⟨w,cg⟩:=bB kl;rw[iC hz,iC cg,qV]at hR
       (try simp only[go_sem,G,B,b1,yL])
       refine cF (wQ d.sig hw z (f8 z zm) ?_);cases c1:eI d.sig z<;>(try simp only[go_sem,G,B,b1,cg,kl,n1,qK])<;>rw[c1]at hR
       .refine fA ⟨16,x.name,x.line,x.col⟩ Z.gck Z.nz ?_
        (try simp only[go_sem])
        exact⟨(n+1,_,_),⟨nx,Z.fail,oh hR,λh=>by cases h⟩,aQ,aU n aB,aE _⟩
       .refine cF (yO z w.sort Z.gck hw ?_);cases c2:fH d.sig z w.sort<;>(try simp only[go_sem,G,B,b1])<;>rw[c2]at hR
        .refine fA ⟨16,x.name,x.line,x.col⟩ Z.gck Z.nz ?_
         (try simp only[go_sem])
         exact⟨(n+1,_,_),⟨nx,Z.fail,oh hR,λh=>by cases h⟩,aQ,aU n aB,aE _⟩
        .exact⟨(n+1,none,S5),⟨nx,Z,hR,λ_=>bc rfl⟩,aQ,aU n aB,aE _⟩
     .have ne:=bQ hn h;clear h;subst ne;rw[dP (bJ _)]at hR;have hR:aK cl none=R:=hR;rw[jU]at hR;exact⟨(j+1,R,S4),⟨jx,m.eqo hR,hI,λh=>b3 (cz h)⟩,aQ,aU j aB,aE _⟩
   .have je:=bQ hj h;clear h;subst je;rw[dP (bJ _),bS,jU]at hI;exact⟨S2,m.eqo hI,aE _⟩
 generalize bS (λy:Fresh=>qV d x.name x.line x.col y.cells d.many) x.new=P at hk⊢;rw[<-eO]at hk;generalize aK o4 P=o5 at hk⊢;clear m S b3;rintro S m;simp only[tlC_seq,tlC_zero];refine Ex.cut (V:=kK) 1 (ι:=St) (λ_=>[(0,.ptr c 0),(4,.ptr q 0)]) (λj=>j) (λj=>BX c d [(q,50,x.cs)] s (aK o5 (bS (λn=>bH (decide (n=[])||!decide (n∈x.parts.map Part.at_)) ⟨13,n,x.line,x.col⟩) x.drop)) j) ?_ ?_
 .have G:=m.gck;have B:=m.g0;simp only[go_sem,bZ]at G B
  (try simp only[go_sem,G,B])
  generalize hQ:aK o5 (bS (λn=>bH (decide (n=[])||!decide (n∈x.parts.map Part.at_)) ⟨13,n,x.line,x.col⟩) x.drop)=Q
  refine Ex.loop (ι:=Nat × Option Fault × St) (λk=>[(0,.ptr c 0),(4,.ptr q 0),(9,.list (some ua) ((x.parts.map Part.at_).map .str)),(272,.list none (x.drop.map .str)),(273,.int .i64 (x.drop.length:Nat)),(274,.int .i64 (k.1:Nat))]) (λk=>k.2.2)
   (λk=>k.1<=x.drop.length/\BX c d [(q,50,x.cs)] s k.2.1 k.2.2/\aK k.2.1 (bS (λn=>bH (decide (n=[])||!decide (n∈x.parts.map Part.at_)) ⟨13,n,x.line,x.col⟩) (x.drop.drop k.1))=Q) (λk=>x.drop.length-k.1) (0,o5,S) ⟨aW _,m,hQ⟩ ?_ (by exact aE _) ?_
  .simp only[go_sem,G,B]
   first|exact rfl|exact⟨rfl,rfl⟩
  .clear G B m hQ;rintro⟨j,o',S3⟩ ⟨hj,Z,hI⟩;simp only at hj Z hI;refine aX (V:=kK) _ _ _ _ ?_;have G:=Z.gck;have B:=Z.g0;simp only[go_sem,bZ]at G B;simp only[go_sem,G,B]
   (apply aJ<;>intro h)<;>simp only[go_sem,h,G,B]
   .have jx:j<x.drop.length:=gQ h;clear h;obtain⟨y,U⟩:=bB jx;have ym:=bK U
    (try simp only[go_sem,U,jx,G,B])
    rw[iC U,bS]at hI;cases c1:decide (y=[])<;>(try simp only[go_sem,G,B,c1])<;>rw[c1]at hI
    .refine jI (show kC _ [.list none ((x.parts.map Part.at_).map .str),.str y] from⟨A.le.forget _ _,bL _,trivial⟩) (mU (x.parts.map Part.at_) y ?_);cases c2:decide (y∈x.parts.map Part.at_)<;>(try simp only[go_sem,G,B])<;>rw[c2]at hI
     .refine fA ⟨13,y,x.line,x.col⟩ Z.gck Z.nz ?_
      (try simp only[go_sem])
      exact⟨(j+1,_,_),⟨jx,Z.fail,oh hI⟩,aQ,aU j aB,aE _⟩
     .exact⟨(j+1,o',S3),⟨jx,Z,hI⟩,aQ,aU j aB,aE _⟩
    .refine fA ⟨13,y,x.line,x.col⟩ Z.gck Z.nz ?_
     (try simp only[go_sem])
     exact⟨(j+1,_,_),⟨jx,Z.fail,oh hI⟩,aQ,aU j aB,aE _⟩
   .have je:=bQ hj h;clear h;subst je;rw[dP (bJ _),bS,jU]at hI;exact⟨S3,Z.eqo hI,aE _⟩
 generalize (bS (λn=>bH (decide (n=[])||!decide (n∈x.parts.map Part.at_)) ⟨13,n,x.line,x.col⟩) x.drop)=P at hk⊢;rw[<-eO]at hk;generalize aK o5 P=o6 at hk⊢;clear m S;rintro S m;simp only[tlC_seq,tlC_zero];refine aX (V:=kK) _ _ _ _ ?_;have G:=m.gck;have B:=m.g0;simp only[go_sem,bZ]at G B;simp only[go_sem,G,B];generalize hQ:aK o6 (mG x.line x.col [] x.drop)=Q at hk
 refine Ex.loop (ι:=Nat × Option Fault × St) (λk=>[(0,.ptr c 0),(4,.ptr q 0),(295,.list none (x.drop.map .str)),(296,.int .i64 (x.drop.length:Nat)),(297,.int .i64 (k.1:Nat))]) (λk=>k.2.2)
  (λk=>k.1<=x.drop.length/\BX c d [(q,50,x.cs)] s k.2.1 k.2.2/\aK k.2.1 (mG x.line x.col (x.drop.take k.1) (x.drop.drop k.1))=Q) (λk=>x.drop.length-k.1) (0,o6,S) ⟨aW _,m,hQ⟩ ?_ (by exact aE _) ?_
 .simp only[go_sem,G,B]
  first|exact rfl|exact⟨rfl,rfl⟩
 .clear G B m hQ;rintro⟨j,o',S3⟩ ⟨hj,Z,hI⟩;simp only at hj Z hI;refine aX (V:=kK) _ _ _ _ ?_;have G:=Z.gck;have B:=Z.g0;simp only[go_sem,bZ]at G B;have n1:(0:Int)<=(j:Int):=by omega
  simp only[go_sem,G,B]
  (apply aJ<;>intro h)<;>simp only[go_sem,h,G,B]
  .have jx:j<x.drop.length:=gQ h;clear h;obtain⟨y,U⟩:=bB jx;have ym:=bK U
   (try simp only[go_sem,U,jx,G,B,n1,qK])
   rw[iC U,mG,<-eB U]at hI;rw[<-lC];refine⟨λz hz=>fK hz,Nat.le_of_lt jx,?_⟩;refine mU (x.drop.take j) y ?_;cases c2:decide (y∈x.drop.take j)<;>(try simp only[go_sem,G,B])<;>rw[c2]at hI
   .exact⟨(j+1,o',S3),⟨jx,Z,hI⟩,aQ,aU j aB,aE _⟩
   .refine fA ⟨14,y,x.line,x.col⟩ Z.gck Z.nz ?_
    (try simp only[go_sem])
    exact⟨(j+1,_,_),⟨jx,Z.fail,oh hI⟩,aQ,aU j aB,aE _⟩
  .have je:=bQ hj h;clear h;subst je;rw[dP (bJ _),mG,jU]at hI;rw[<-hI]at hk;exact aG hk (Z.ov.fin Z.gck)
end
end
section
section
variable {s S S':St} {KV Kp:St->A->Prop} {c:Nat} {d:Dfn} {o:Option Fault}
theorem aOs(hl:(iS d).length<=4294967000)(bp:d.once.length+d.many.length<=4294967000)(br:d.rules.length<=4294967000)(bl:∀r,r∈d.rules->r.parts.length<=4294967000)(hk:KV s (.list none ((iS d).map .str))):Den cx 88 [.agg d.cs] KV Kp s:=by
 (refine gBx func88 ?_;simp only[go_sem,ntmps88,f88]);obtain⟨Z,O⟩:∃Z,Z=[d.name,d.start,d.watch]++(if d.kind=[] then [] else [d.kind]):=⟨_,rfl⟩
 have l0:Z.length<=4:=by rw[O];split<;>simp
 refine Ex.cut (V:=aBh) 3 (ι:=St × Nat × Nat) (λj=>[(1,.ptr j.2.2 0),(3,.list (some j.2.1) (Z.map .str))]) (λj=>j.1.setT j.2.1 (Z.length,9)) (λj=>j.1.getO j.2.2=some (.cells 31 d.cs)/\j.1.ge s/\j.1.getT j.2.1=none) ?_ ?_
 ·(try simp only[go_sem])
  (refine aM λp hp=>?_)
  (try simp only[go_sem,hp])
  refine .inr λu hu=>?_
  have G:(s.setO p (.cells 31 d.cs)).getO p=some (.cells 31 d.cs):=by rw[aL,aF rfl]
  have b1:(s.setO p (.cells 31 d.cs)).ge s:=bG hp (aE _)
  (try simp only[go_sem,G])
  cases c1:decide (d.kind=[])<;>(try simp only[go_sem,G,c1])
  .refine .inl ?_;rw[aD (of_decide_eq_false c1)]at O
   (try simp only[go_sem,G])
   refine⟨by decide,λy B=>(by rw[bO.1 B];rfl),λy B=>fK (l:=[d.name,d.start,d.watch]) B,(s.setO p (.cells 31 d.cs),u,p),⟨G,b1,hu⟩,⟨rfl,rfl,by rw[O];rfl⟩,?_⟩;rw[O,tR];exact aE _
  .rw[aF (fT c1)]at O;refine⟨(s.setO p (.cells 31 d.cs),u,p),⟨G,b1,hu⟩,⟨rfl,rfl,by rw[O];rfl⟩,?_⟩;rw[O];exact aE _
 rintro⟨S,u,p⟩ ⟨G,b1,hu⟩;simp only at G b1 hu;simp only[tlC_seq,tlC_zero]
 have bk:Z.length+(d.once.length+d.many.length)+(d.rules.flatMap kB).length<=4294967000:=by
  unfold iS at hl;rw[<-eG,<-O]at hl;simp only[aH,aO]at hl;omega
 have hN:iS d=Z++((d.once++d.many).map Cel.name++d.rules.flatMap kB):=by
  unfold iS;rw[<-eG,<-O]
 rw[hN]at hk;clear hN hl l0 O;have bf:(d.once++d.many).length<=4294967000:=by rw[aH];omega
 refine Ex.cut (V:=aBh) 1 (ι:=Unit) (λ_=>[(1,.ptr p 0),(3,.list (some u) ((Z++(d.once++d.many).map Cel.name).map .str))]) (λ_=>S.setT u ((Z++(d.once++d.many).map Cel.name).length,9)) (λ_=>True) ?_ ?_
 .have G:=G;simp only[go_sem]at G;(refine bD (OT.l [0,1,2,4,5,8,3,6,7] .nil) [(3,[5])] ?_;simp only[go_sem,G]);refine⟨by decide,λy B=>tX B,aDT (pO (tk:=none) (es:=[]) (λ_=>rfl) (λt h=>by cases h) (λy B=>by cases B) (by simp only[aO,aZ];omega) (λbn bb b7=>?_))⟩
  (try simp only[go_sem,G])
  refine⟨by decide,λy B=>tX B,aDT (pO (λh=>by simpa using bb h) (λt ht=>by rw[wX t ht];simp) (λy B=>tX (gQ B)) (by simp only[aO,aZ,dD];omega) (λb2 b5 b8=>?_))⟩
  (try simp only[go_sem,G,aCa b5])
  have b3:b2=none->d.once++d.many=[]:=λh=>by
   have:=b5 h;simpa using this
  have hV:∀(i:Nat) (y:Cel),(d.once++d.many)[i]?=some y->∃u,ev b2 (List.map Cel.enc d.once++List.map Cel.enc d.many)=.list (some u) ((d.once++d.many).map Cel.enc):=λi y B=>by
   cases b2 with
   | none =>
    rw[b3 rfl]at B;cases B
   | some u=>exact⟨u,by rw[bU];rfl⟩
  generalize bh:ev b2 (List.map Cel.enc d.once++List.map Cel.enc d.many)=V at hV⊢;have b9:∀n1 n2,(gs (gs (S.setT u (Z.length,9)) bn n1 96) b2 n2 96).ge (S.setT u (Z.length,9)):=λn1 n2=>zG (aE _) b7 (λt h=>(b8 t h).imp id (λh=>⟨_,h⟩))
  refine Ex.loop (ι:=Nat) (λk=>[(1,.ptr p 0),(3,.list (some u) ((Z++((d.once++d.many).take k).map Cel.name).map .str)),(31,V),(32,.int .i64 ((d.once++d.many).length:Nat)),(33,.int .i64 (k:Nat))]) (λk=>S.setT u ((Z++((d.once++d.many).take k).map Cel.name).length,9))
   (λk=>k<=(d.once++d.many).length) (λk=>(d.once++d.many).length-k) 0 (aW _) ?_ ?_ ?_
  .simp only[go_sem,G];exact⟨by simp only[dK],by simp only[aH,aO],rfl⟩
  .simp only[kO,dL,dK];exact b9 _ _
  .clear b9 bb b5 b7 b8 bh b3;intro j hj;refine aX (V:=aBh) _ _ _ _ ?_;simp only[go_sem,G]
   (apply aJ<;>intro h)<;>simp only[go_sem,h,G]
   .have jx:j<(d.once++d.many).length:=gQ h;clear h;obtain⟨y,B⟩:=bB jx;have ym:=bK B
    (try simp only[go_sem,B,jx,G])
    obtain⟨v,hv⟩:=hV j y B;simp only[go_sem,G,hv,B,jx];(refine cH λz1 U=>?_);have e1:=aI G (aS U);simp only[go_sem,G,hv,B,jx,U,e1];refine .inl ?_
    (try simp only[go_sem,G,hv,B,jx,U,e1])
    refine⟨by decide,λy B=>(by rw[bO.1 B];rfl),λy B=>fK B,by simp only[aH,aO,dT];omega,j+1,jx,by omega,⟨by rw[wS B,<-eG,bU (l₂:=[y.name])];rfl,aU j aB⟩,?_⟩;rw[wS B,<-eG,aH (r:=[y.name]),uV,tR];exact fB (bG U (aE _))
   .have je:=bQ hj h;rw[je,bT];exact⟨(),rfl,aE _⟩
 have bg:(Z++(d.once++d.many).map Cel.name).length+(d.rules.flatMap kB).length<=4294967000:=by simp only[aH,aO];omega
 rw[<-eG]at hk;generalize Z++(d.once++d.many).map Cel.name=N1 at hk bg⊢;clear bk bf Z;rintro⟨⟩ -;simp only[tlC_seq,tlC_zero];refine aX (V:=aBh) _ _ _ _ ?_;simp only[go_sem]at G;simp only[go_sem,G]
 refine Ex.loop (ι:=Nat) (λk=>[(1,.ptr p 0),(3,.list (some u) ((N1++(d.rules.take k).flatMap kB).map .str)),(44,.list none (d.rules.map Rul.enc)),(45,.int .i64 (d.rules.length:Nat)),(46,.int .i64 (k:Nat))]) (λk=>S.setT u ((N1++(d.rules.take k).flatMap kB).length,9))
  (λk=>k<=d.rules.length) (λk=>d.rules.length-k) 0 (aW _) ?_ ?_ ?_
 .simp only[go_sem,G];exact⟨by simp only[kO,sF,dK],rfl⟩
 .simp only[kO,sF,dK];exact aE _
 .intro j hj;refine aX (V:=aBh) _ _ _ _ ?_;simp only[go_sem,G]
  (apply aJ<;>intro h)<;>simp only[go_sem,h,G]
  .have jx:j<d.rules.length:=gQ h;clear h;obtain⟨y,B⟩:=bB jx;have ym:=bK B
   (try simp only[go_sem,B,jx,G])
   have bj:((d.rules.take (j+1)).flatMap kB).length<=(d.rules.flatMap kB).length:=by
    conv=>rhs;rw[<-mQ (j+1) d.rules,sD,aH]
    omega
   rw[wM B,aH]at bj
   have bt:(kB y).length=1+((y.parts.map Part.at_).filter λx=>!decide (x=[])).length+y.drop.length:=by
    show(_::_++_:List aC).length=_;rw[aH,aV,Nat.add_comm 1]
   (refine cH λz1 U=>?_);have e1:=aI G (aS U);simp only[go_sem,G,B,jx,U,e1];have M:(S.setO z1 (.cells 50 y.cs)).getO z1=some (.cells 50 y.cs):=by rw[aL,aF rfl]
   have b6:(S.setO z1 (.cells 50 y.cs)).ge S:=bG U (aE _);have bm:(S.setO z1 (.cells 50 y.cs)).getT u=none:=hu;generalize b4:S.setO z1 (.cells 50 y.cs)=S1 at M b6 bm;simp only[go_sem]at b4 M;rw[b4];clear b4 U e1;have bq:=bl y ym;have e2:N1++(d.rules.take (j+1)).flatMap kB=(N1++(d.rules.take j).flatMap kB)++kB y:=by rw[wM B,eG]
   have bd:(N1++(d.rules.take j).flatMap kB).length+(kB y).length<=4294967000:=by rw[aH];omega
   generalize N1++(d.rules.take j).flatMap kB=L0 at e2 bd⊢
   have hG:∀n z,y.parts[n]?=some z->(((y.parts.take (n+1)).map Part.at_).filter λx=>!decide (x=[]))=(((y.parts.take n).map Part.at_).filter λx=>!decide (x=[]))++(if z.at_=[] then [] else [z.at_]):=λn z hz=>by
    rw[wS hz,List.filter_append];by_cases e:z.at_=[]<;>simp[e]
   have bc:∀n,(((y.parts.take n).map Part.at_).filter λx=>!decide (x=[])).length<=((y.parts.map Part.at_).filter λx=>!decide (x=[])).length:=λn=>(((List.take_sublist n y.parts).map Part.at_).filter _).length_le
   (try simp only[go_sem,M])
   refine .inl ?_
   (try simp only[go_sem,M])
   refine⟨by decide,λy B=>(by rw[bO.1 B];rfl),λy B=>fK B,by omega,?_⟩
   refine Ex.loop (ι:=Nat) (λk=>[(1,.ptr p 0),(3,.list (some u) ((L0++[y.name]++((y.parts.take k).map Part.at_).filter λx=>!decide (x=[])).map .str)),(7,.ptr z1 0),(44,.list none (d.rules.map Rul.enc)),(45,.int .i64 (d.rules.length:Nat)),(46,.int .i64 (j:Nat)),(56,.list none (y.parts.map Part.enc)),(57,.int .i64 (y.parts.length:Nat)),(58,.int .i64 (k:Nat))]) (λk=>S1.setT u ((L0++[y.name]++((y.parts.take k).map Part.at_).filter λx=>!decide (x=[])).length,9))
    (λk=>k<=y.parts.length) (λk=>y.parts.length-k) 0 (aW _) ?_ ?_ ?_
   .simp only[go_sem,M];exact⟨by simp only[kO,dL,List.filter_nil,dK,bU,bX],rfl⟩
   .rw[tR];simp only[kO,dL,List.filter_nil,dK,aH,aV,aZ];exact aE _
   .intro n hn;refine aX (V:=aBh) _ _ _ _ ?_;simp only[go_sem,M]
    (apply aJ<;>intro h)<;>simp only[go_sem,h,M]
    .have nx:n<y.parts.length:=gQ h;clear h;obtain⟨z,hz⟩:=bB nx;have zm:=bK hz
     (try simp only[go_sem,hz,nx,M])
     have gl:=bc n;have gs:=hG n z hz;(refine cH λz2 b0=>?_);have e1:=aI M (aS b0);simp only[go_sem,M,hz,nx,b0,e1];cases c1:decide (z.at_=[])<;>(try simp only[go_sem,M,hz,nx,b0,e1,c1])
     .refine .inl ?_
      (try simp only[go_sem,M,hz,nx,b0,e1,c1])
      rw[aD (of_decide_eq_false c1)]at gs;refine⟨by decide,λy B=>(by rw[bO.1 B];rfl),λy B=>fK B,by simp only[aH,uV];omega,n+1,nx,by omega,⟨by rw[gs,<-eG,bU (l₂:=[z.at_])];rfl,aU n aB⟩,?_⟩;rw[gs,<-eG,aH (r:=[z.at_]),uV,tR];exact fB (bG b0 (aE _))
     .rw[aF (fT c1),dK]at gs;refine⟨n+1,nx,by omega,⟨by rw[gs],aU n aB⟩,?_⟩;rw[gs];exact fB (bG b0 (aE _))
    .have ne:=bQ hn h;clear h;subst ne;rw[bT]
     (try simp only[go_sem,M])
     have e3:L0++[y.name]++((y.parts.map Part.at_).filter λx=>!decide (x=[]))++y.drop=N1++(d.rules.take (j+1)).flatMap kB:=by
      rw[e2];unfold kB;simp only[eG,dY,dD]
     refine⟨by decide,λy B=>fK B,λy B=>fK B,by simp only[aH,uV];omega,j+1,jx,by omega,⟨by rw[<-e3,bU (l₂:=y.drop)],aU j aB⟩,?_⟩;rw[<-e3,aH (r:=y.drop),tR];exact fB b6
  .have je:=bQ hj h;clear h;subst je;rw[bT];refine DK.mk hk ?_ (A.le.forget _ _);exact(aL8 hu).trans b1
end
end
mutual
def A.bulk:A->Nat
 | .str x=>x.length
 | .list _ es=>dX es
 | .agg cs=>eE cs
 | _=>0
def dX:List A->Nat
 | []=>0
 | a::r=>A.bulk a+1+dX r
def eE:List A->Nat
 | []=>0
 | a::r=>A.bulk a+eE r
end
theorem aN9(a:A):eE a.cells=a.bulk:=by
 cases a<;>simp[A.cells,eE,A.bulk]
theorem vD:∀l r:List A,eE (l++r)=eE l+eE r
 | [],r=>by simp[eE]
 | a::l,r=>by simp[eE,vD l r,nY]
theorem aJr:∀l r:List A,dX (l++r)=dX l+dX r
 | [],r=>by simp[dX]
 | a::l,r=>by simp[dX,aJr l r,nY]
theorem aKn:∀l:List A,l.length<=dX l
 | []=>bJ _
 | a::l=>by have:=aKn l;simp only[aV,dX];omega
theorem gP{α:Type}(en:α->A)(l:List α):l.length<=dX (l.map en):=by have:=aKn (l.map en);rwa[aO]at this
structure OprI (o:Opr):Prop where
 s:∀n,n∈o.strict->-9223372036854775808<=n/\n<=9223372036854775807
 p:o.prec<=9223372036854775807
theorem aMY(t:Tm):t.enc.bulk=t.text.length+(t.sort.length+(dX (t.kids.map Tm.enc)+dX (t.rest.map Tm.enc))):=by
 rw[cY];simp only[A.bulk,Tm.cs,eE,lD,iQ]
theorem kG{α:Type}(en:α->A):∀{l:List α} {x:α},x∈l->(en x).bulk+1<=dX (l.map en)
 | y::r,x,h=>by
  simp only[bX,dX];rcases List.mem_cons.1 h with rfl|h
  .omega
  .have:=kG en h;omega
theorem aLb{l:List aC}{x:aC}(h:x∈l):x.length+1<=dX (l.map .str):=kG (en:=A.str) h
theorem aSs(N:Nat):∀t:Tm,SizeOf.sizeOf t<N->t.enc.bulk<=100000000->TmW t:=by
 induction N with
 | zero=>intro t h;omega
 | succ N z =>
  intro t Z U;have e:=aMY t;have B:=λx (u:x∈t.kids)=>(show TmW x from z x (by have:=mT u;omega) (by have:=kG Tm.enc u;omega))
  have G:=λx (u:x∈t.rest)=>(show TmW x from z x (by have:=vB u;omega) (by have:=kG Tm.enc u;omega))
  have M:=gP Tm.enc t.kids;have O:=gP Tm.enc t.rest;obtain⟨k,n,x,y,a,b⟩:=t;simp only[Tm.text,Tm.sort,Tm.kids,Tm.rest]at e B G M O;exact .mk k n x y a b aB aB B G aB aB
theorem aGL(t:Tm):eE t.cs=t.enc.bulk:=by rw[cY];rfl
theorem aKU(e:Eqn):e.enc.bulk=e.left.enc.bulk+(e.right.enc.bulk+dX (e.cond.map Tm.enc)):=by
 simp only[Eqn.enc,Eqn.cs,A.bulk,vD,eE,aGL,lD]
theorem aDO(c:Cel):c.enc.bulk=c.name.length+(c.sort.length+c.init.enc.bulk):=by
 simp only[Cel.enc,Cel.cs,A.bulk,vD,eE,aGL,lD]
theorem aF5(p:Part):p.enc.bulk=p.cell.length+(p.at_.length+(p.left.enc.bulk+dX (p.right.map Tm.enc))):=by
 simp only[Part.enc,Part.cs,A.bulk,vD,eE,aGL,lD]
theorem aJx(f:Fresh):f.enc.bulk=dX (f.cells.map Tm.enc):=by
 simp only[Fresh.enc,Fresh.cs,A.bulk,eE,lD]
theorem aB2(r:Rul):r.enc.bulk=r.name.length+(dX (r.parts.map Part.enc)+(dX (r.cond.map Tm.enc)+(dX (r.new.map Fresh.enc)+dX (r.drop.map .str)))):=by
 simp only[Rul.enc,Rul.cs,A.bulk,eE,lD]
theorem aGA(d:Dfn):eE d.cs=d.name.length+(eE d.sig.cs+(dX (d.eqs.map Eqn.enc)+(dX (d.once.map Cel.enc)+(d.kind.length+(dX (d.many.map Cel.enc)+(dX (d.rules.map Rul.enc)+(d.start.length+d.watch.length))))))):=by
 simp only[Dfn.cs,A.bulk,vD,eE,lD]
theorem aLj(x:Sig):eE x.cs=dX (x.sorts.map .str)+(dX (x.below.map Below.enc)+(dX (x.ops.map Opr.enc)+(dX (x.funs.map Opr.enc)+dX (x.values.map .str)))):=by
 simp only[Sig.cs,A.bulk,eE,lD]
theorem aLc(o:Opr):o.enc.bulk=o.name.length+(dX (o.args.map .str)+(o.sort.length+(dX (o.pieces.map Piece.enc)+dX (o.strict.map (.int .i64))))):=by
 simp only[Opr.enc,Opr.cs,A.bulk,eE,lD,iQ]
theorem aSl(N:Nat){d:Dfn}(B:eE d.cs<=N):∀t,t∈vY d->t.enc.bulk<=N:=by
 rw[aGA]at B;intro t h;simp only[vY,cK,mC]at h;rcases h with⟨e,u,h⟩|⟨c,u,h⟩|⟨r,u,h⟩
 .have y:=kG Eqn.enc u;rw[aKU]at y;simp only[qE,cK,dG,nI,eJ]at h;rcases h with(rfl|rfl)|h
  .omega
  .omega
  .have:=kG Tm.enc h;omega
 .have y:c.enc.bulk<=dX (d.once.map Cel.enc)+dX (d.many.map Cel.enc):=by
   rcases u with u|u
   .have:=kG Cel.enc u;omega
   .have:=kG Cel.enc u;omega
  rw[aDO]at y;simp only[oU,bO]at h;rw[h];omega
 .have y:=kG Rul.enc u;rw[aB2]at y;simp only[nU,pZ,cK,mC,dG,nI,eJ]at h;rcases h with⟨p,M,h⟩|h|⟨f,G,h⟩
  .have z:=kG Part.enc M;rw[aF5]at z;rcases h with rfl|h
   .omega
   .have:=kG Tm.enc h;omega
  .have:=kG Tm.enc h;omega
  .have z:=kG Fresh.enc G;rw[aJx]at z;have:=kG Tm.enc h;omega
theorem aS4(N:Nat):(∀t:Tm,SizeOf.sizeOf t<N->t.pre.length<=1+t.enc.bulk)/\∀l:List Tm,(∀t,t∈l->SizeOf.sizeOf t<N)->(aY l).length<=dX (l.map Tm.enc):=by
 induction N with
 | zero=>exact⟨λt h=>by omega,λl h=>by
   cases l with
   | nil=>exact aW _
   | cons t r=>exact cV (h t (cQ ..)) aB⟩
 | succ N z =>
  have key:∀t:Tm,SizeOf.sizeOf t<N+1->t.pre.length<=1+t.enc.bulk:=λt M=>by
   have B:=z.2 t.kids (λx u=>by have:=mT u;omega);have G:=z.2 t.rest (λx u=>by have:=vB u;omega);have:=aMY t;rw[iJ,gX,aV,aH];omega
  refine⟨key,λl h=>?_⟩
  induction l with
  | nil=>exact aW _
  | cons t r y =>
   have B:=key t (h t (cQ ..));have G:=y (λx u=>h x (eA _ u));simp only[aY,aH,bX,dX];omega
theorem aCB(t:Tm):t.pre.length<=1+t.enc.bulk:=(aS4 _).1 t (fZ _)
theorem aEk(l:List Tm):(aY l).length<=dX (l.map Tm.enc):=by
 induction l with
 | nil=>exact aW _
 | cons t r h=>have:=aCB t;simp only[aY,aH,bX,dX];omega
theorem aBY{α:Type}(g:α->List Tm)(en:α->A):∀l:List α,(∀x,x∈l->(aY (g x)).length<=2 * ((en x).bulk+1))->(aY (l.flatMap g)).length<=2 * dX (l.map en)
 | [],_=>aW _
 | x::r,h=>by
  have z:=aBY g en r (λy u=>h y (eA _ u));have B:=h x (cQ ..);rw[jR,gX,aH,bX,dX];omega
theorem aLu{α:Type}(g:α->List aC)(en:α->A):∀l:List α,(∀x,x∈l->(g x).length<=(en x).bulk+1)->(l.flatMap g).length<=dX (l.map en)
 | [],_=>aW _
 | x::r,h=>by
  have z:=aLu g en r (λy u=>h y (eA _ u));have B:=h x (cQ ..);rw[jR,aH,bX,dX];omega
theorem aVA(x:Eqn):(aY (fL x)).length<=2 * (x.enc.bulk+1):=by
 have h:=aCB x.left;have u:=aCB x.right;have y:=aEk x.cond;rw[aKU];simp only[fL,aY,aH];omega
theorem aVz(r:Rul):(aY (fX r)).length<=2 * (r.enc.bulk+1):=by
 have h:=aBY (λp=>p.left::p.right) Part.enc r.parts (λp _=>by
  have h:=aCB p.left;have u:=aEk p.right;rw[aF5];simp only[aY,aH];omega)
 have u:=aEk r.cond
 have y:=aBY Fresh.cells Fresh.enc r.new (λf _=>by
  have:=aEk f.cells;rw[aJx];omega)
 rw[aB2];simp only[fX,gX,aH];omega
theorem aVh(r:Rul):(mM r).length<=r.enc.bulk+1:=by
 have h:=gP Part.enc r.parts;have u:=gP A.str r.drop;rw[aB2];simp only[mM,aH,aV];refine pH (Nat.add_le_add_left (List.length_filter_le _ _) _) ?_;rw[aO];omega
theorem aGh(d:Dfn)(y:eE d.cs<=100000000):DfnC d:=by
 have B:=aSl 100000000 y;rw[aGA,aLj]at y;have z:=gP Cel.enc d.once;have U:=gP Cel.enc d.many;have Z:=gP Opr.enc d.sig.ops;have h5:=gP Opr.enc d.sig.funs;refine⟨λt h=>aSs _ t (fZ _) (B t (by rw[aCg];exact h)),?_,?_,?_,by omega,λo ho=>?_⟩
 .have g1:=aBY fL Eqn.enc d.eqs (λx _=>aVA x);have g2:=aBY fX Rul.enc d.rules (λx _=>aVz x)
  have u:∀l:List Cel,(aY (l.map Cel.init)).length<=dX (l.map Cel.enc):=by
   intro l
   induction l with
   | nil=>exact aW _
   | cons x r ih =>
    have O:=aCB x.init;have z:=aDO x;simp only[bX,aY,aH,dX];omega
  have G:=u d.once;have M:=u d.many;simp only[eD,bU,gX,aH];omega
 .have g2:=aLu mM Rul.enc d.rules (λx _=>aVh x);have u:(if d.kind=[] then([]:List aC) else [d.kind]).length<=1:=by split<;>simp
  simp only[hZ,aH,aO,aV,aZ];omega
 .omega
 .have g1:=kG Opr.enc ho;rw[aLc]at g1;have g2:=gP Piece.enc o.pieces;have u:=gP A.str o.args;exact⟨by omega,by omega,by omega⟩
structure DfnB (d:Dfn):Prop where
 cc:DfnC d
 sg:SigB d.sig
 eq:d.eqs.length<=4294967000
 ru:d.rules.length<=4294967000
 rl:∀r,r∈d.rules->RulB r
 nm:∀x,x∈iS d->x.length<=4294967000
 nn:(iS d).length<=4294967000
theorem aQL(d:Dfn)(x:aC):x∈iS d↔x∈hZ d:=by
 have h:∀r:Rul,x∈kB r↔x∈mM r:=λr=>by
  unfold kB mM;simp only[dY,dG,cK];exact or_congr_right Or.comm
 unfold iS hZ;simp only[cK,mC,h]
theorem aQr(d:Dfn):(iS d).length=(hZ d).length:=by
 have u:∀r:Rul,(kB r).length=(mM r).length:=λr=>by
  show(_::_++_:List aC).length=(_::_++_:List aC).length;rw[aH,aV,aH,aV];exact(Nat.add_right_comm _ _ _).trans ((lE (·+1) (Nat.add_comm _ _)).trans (Nat.add_right_comm _ _ _))
 have h:∀l:List Rul,(l.flatMap kB).length=(l.flatMap mM).length:=λl=>by
  induction l with
  | nil=>rfl
  | cons a r y=>simp only[jR,aH,y,u]
 unfold iS hZ;simp only[aH,h]
theorem aP6(p:Piece):p.enc.bulk=p.text.length+p.sort.length:=by
 simp only[Piece.enc,Piece.cs,A.bulk,eE];omega
theorem aKJ{l:List Opr}{o:Opr}(ho:o∈l)(B:dX (l.map Opr.enc)<=100000000):OprB o:=by
 have g1:=kG Opr.enc ho;rw[aLc]at g1;have g2:=gP Piece.enc o.pieces;have y:=gP A.str o.args;have z:=gP (A.int .i64) o.strict;refine⟨by omega,by omega,by omega,λx u=>?_,by omega⟩;have h:=kG Piece.enc u;rw[aP6]at h;omega
theorem aRQ(d:Dfn)(O:eE d.cs<=100000000):DfnB d:=by
 have B:=aGh d O;have G:(iS d).length<=4294967000:=by rw[aQr];exact B.nm
 rw[aGA,aLj]at O;have l1:=gP A.str d.sig.sorts;have l2:=gP Below.enc d.sig.below;have l3:=gP Opr.enc d.sig.ops;have l4:=gP Opr.enc d.sig.funs;have l5:=gP A.str d.sig.values;have l6:=gP Eqn.enc d.eqs;have l7:=gP Rul.enc d.rules;refine⟨B,⟨by omega,λa U=>?_,by omega,by omega,by omega,λo ho=>?_⟩,by omega,by omega,λr u=>?_,λx h=>?_,G⟩
 .have:=aLb U;omega
 .rcases cK.1 ho with ho|ho
  .exact aKJ ho aB
  .exact aKJ ho aB
 .have g:=kG Rul.enc u;rw[aB2]at g;have m1:=gP Part.enc r.parts;have m3:=gP Fresh.enc r.new;have m4:=gP A.str r.drop;have M:=B.pr;have hq:=aBO fX u;rw[eD,gX,gX,aH,aH]at M;exact⟨by omega,by omega,by omega,λt Z=>B.tm t (mA _ (mA _ (mC.2 ⟨r,u,Z⟩))),by omega⟩
 .rw[aQL]at h;unfold hZ at h;simp only[cK,dG,iI,eJ,cN,mC]at h;rcases h with(rfl|rfl|rfl)|h|⟨y,z,rfl⟩|⟨r,u,h⟩
  .omega
  .omega
  .omega
  .split at h
   .cases h
   .rw[bO.1 h];omega
  .rcases z with z|z
   .have g:=kG Cel.enc z;rw[aDO]at g;omega
   .have g:=kG Cel.enc z;rw[aDO]at g;omega
  .have g:=kG Rul.enc u;rw[aB2]at g;unfold mM at h;simp only[dY,dG,cK,List.mem_filter,cN]at h;rcases h with rfl|h|⟨⟨p,M,rfl⟩,_⟩
   .omega
   .have:=aLb h;omega
   .have g2:=kG Part.enc M;rw[aF5]at g2;omega
section
theorem aDI{α:Type}{f:α->Bool}{l:List α}{i:Nat}{x:α}{b:Bool}(h:l[i]?=some x):(b&&(l.take (i+1)).all f)=((b&&(l.take i).all f)&&f x):=by rw[eB h,kN,fG,nK,eU,Bool.and_assoc]
section
variable {s S S':St} {KV Kp:St->A->Prop} {c:Nat} {d:Dfn} {o:Option Fault}
theorem aQR(hd:DfnB d)(hc:s.getO c=some (bZ d o))(hz:NZ o)(hk:KV (s.setO c (bZ d (aK o (zD d)))) (.tuple [])):Den cx 31 [.ptr c 0] KV Kp s:=by
 have bf:=hc;have bj:=hd.cc.cl;have bk:=hd.eq;have bm:=hd.ru;unfold zD at hk;simp only[go_sem,bZ]at hc;(refine gBy func31 ?_;simp only[go_sem,ntmps31,f31]);refine Ex.cut (V:=tA) 2 (ι:=St × Nat) (λj=>[(0,.ptr c 0),(2,.ptr j.2 0),(3,.bool (decide (d.once.length<=12)&&(decide (d.many.length<=12)&&(decide (d.eqs.length<=300)&&decide (d.rules.length<=300)))))]) (λj=>j.1) (λj=>BX c d [(j.2,31,d.cs)] s o j.1) ?_ ?_
 ·(try simp only[go_sem,hc])
  (refine cH λp hp=>?_);have f1:=aI hc (aS hp)
  (try simp only[go_sem,hc,f1,hp])
  obtain⟨S,u,b7,b6⟩:=gZ s p (.cells 31 d.cs) (aS hp)
  try simp only[go_sem]at b6 u
  rw[b6];clear b6;have m:BX c d [(p,31,d.cs)] s o S:=BX.add (L:=[]) ⟨bf,λb hb=>(by cases hb),OV.of (aE s),hz⟩ b7 f1.1 (by simp only[go_sem];exact u);have z:=b7.ob _ _ hc;clear hp f1;have e1:decide ((d.once.length:Int)<=12)=decide (d.once.length<=12):=cC.2 aB;have e2:decide ((d.many.length:Int)<=12)=decide (d.many.length<=12):=cC.2 aB;have e3:decide ((d.eqs.length:Int)<=300)=decide (d.eqs.length<=300):=cC.2 aB;have e4:decide ((d.rules.length:Int)<=300)=decide (d.rules.length<=300):=cC.2 aB;cases c1:decide (d.once.length<=12)<;>cases c2:decide (d.many.length<=12)<;>cases c3:decide (d.eqs.length<=300)<;>cases c4:decide (d.rules.length<=300)<;>(try simp only[go_sem,z,u,e1,e2,e3,e4,c1,c2,c3,c4])<;>exact⟨(S,p),m,rfl,aE _⟩
 generalize b8:(decide (d.once.length<=12)&&(decide (d.many.length<=12)&&(decide (d.eqs.length<=300)&&decide (d.rules.length<=300))))=b0
 have b5:wV d=((((b0&&(iS d).all cP)&&d.eqs.all λx=>decide (x.cond.length<=20))&&d.rules.all (λr=>decide (r.parts.length<=20)&&(decide (r.cond.length<=20)&&(decide (r.new.length<=20)&&decide (r.drop.length<=20)))))&&(eD d).all λt=>(Tm.val 60 t 0).isSome):=by
  unfold wV;rw[b8];simp only[Bool.and_assoc]
 clear b8;rintro⟨S,p⟩ m;simp only at m;simp only[tlC_seq,tlC_zero];refine Ex.cut (V:=tA) 1 (ι:=St) (λ_=>[(0,.ptr c 0),(2,.ptr p 0),(3,.bool (b0&&(iS d).all cP))]) (λj=>j) (λj=>BX c d [(p,31,d.cs)] s o j) ?_ ?_
 .have z:=m.gck;have u:=m.g0;simp only[go_sem,bZ]at z u
  (try simp only[go_sem,z,u])
  refine aOs hd.nn hd.cc.cl hd.ru (λr hr=>(hd.rl r hr).pl) ?_
  (try simp only[go_sem,z,u])
  have bl:=hd.nn;refine Ex.loop (ι:=Nat) (λk=>[(0,.ptr c 0),(2,.ptr p 0),(3,.bool (b0&&((iS d).take k).all cP)),(39,.list none ((iS d).map A.str)),(40,.int .i64 ((iS d).length:Nat)),(41,.int .i64 (k:Nat))]) (λ_=>S) (λk=>k<=(iS d).length) (λk=>(iS d).length-k) 0 (aW _) ?_ (by exact aE _) ?_
  .simp only[go_sem,z,u];simp only[kO,nK,eU]
   first|exact rfl|exact⟨rfl,rfl⟩|exact⟨trivial,rfl⟩
  .intro j hj;refine aX (V:=tA) _ _ _ _ ?_;simp only[go_sem,z,u]
   (apply aJ<;>intro h)<;>simp only[go_sem,h,z,u]
   .have U:j<(iS d).length:=gQ h;clear h;obtain⟨y,Z⟩:=bB U;have ym:=bK Z
    (try simp only[go_sem,Z,U,z,u])
    have et:=aDI (f:=cP) (b:=b0) Z;cases hB:(b0&&((iS d).take j).all cP)<;>(try simp only[go_sem,z,u,hB])<;>rw[hB]at et
    .exact⟨j+1,U,by omega,⟨et.symm,aU j aB⟩,aE _⟩
    .refine tJ _ y _ _ (by have:=hd.nm y ym;omega) ?_
     (try simp only[go_sem,z,u,hB])
     exact⟨j+1,U,by omega,⟨et.symm,aU j aB⟩,aE _⟩
   .have je:=bQ hj h;rw[je,bT];exact⟨S,m,rfl,aE _⟩
 clear m S;rintro S m;generalize b9:(b0&&(iS d).all cP)=b1 at b5⊢;clear b9 b0;simp only[tlC_seq,tlC_zero];refine Ex.cut (V:=tA) 1 (ι:=St) (λ_=>[(0,.ptr c 0),(2,.ptr p 0),(3,.bool (b1&&(d.eqs).all (λx=>decide (x.cond.length<=20))))]) (λj=>j) (λj=>BX c d [(p,31,d.cs)] s o j) ?_ ?_
 .have z:=m.gck;have u:=m.g0;simp only[go_sem,bZ]at z u
  (try simp only[go_sem,z,u])
  refine Ex.loop (ι:=Nat) (λk=>[(0,.ptr c 0),(2,.ptr p 0),(3,.bool (b1&&((d.eqs).take k).all (λx=>decide (x.cond.length<=20)))),(52,.list none ((d.eqs).map Eqn.enc)),(53,.int .i64 ((d.eqs).length:Nat)),(54,.int .i64 (k:Nat))]) (λ_=>S) (λk=>k<=(d.eqs).length) (λk=>(d.eqs).length-k) 0 (aW _) ?_ (by exact aE _) ?_
  .simp only[go_sem,z,u];simp only[kO,nK,eU]
   first|exact rfl|exact⟨rfl,rfl⟩|exact⟨trivial,rfl⟩
  .intro j hj;refine aX (V:=tA) _ _ _ _ ?_;simp only[go_sem,z,u]
   (apply aJ<;>intro h)<;>simp only[go_sem,h,z,u]
   .have U:j<(d.eqs).length:=gQ h;clear h;obtain⟨y,Z⟩:=bB U;have ym:=bK Z
    (try simp only[go_sem,Z,U,z,u])
    have et:=aDI (f:=(λx=>decide (x.cond.length<=20))) (b:=b1) Z;(refine cH λz1 M=>?_);have e1:=aI z (aS M);have e2:=aI u (aS M)
    (try simp only[go_sem,z,u,Z,U,M,e1,e2])
    obtain⟨S3,O,B,G⟩:=gZ S z1 (.cells 69 y.cs) (aS M)
    try simp only[go_sem]at G O
    rw[G];clear G;have m3:=m.to B;have u:=B.ob _ _ u;have z:=B.ob _ _ z;clear M e1 e2;have e1:decide ((y.cond.length:Int)<=20)=decide (y.cond.length<=20):=cC.2 aB;cases hB:(b1&&(d.eqs.take j).all (λx=>decide (x.cond.length<=20)))<;>rw[hB]at et
    ·(try simp only[go_sem,z,u,O,hB])
     exact⟨j+1,U,by omega,⟨et.symm,aU j aB⟩,B⟩
    ·(try simp only[go_sem,z,u,O,hB,e1])
     exact⟨j+1,U,by omega,⟨et.symm,aU j aB⟩,B⟩
   .have je:=bQ hj h;rw[je,bT];exact⟨S,m,rfl,aE _⟩
 clear m S;rintro S m;generalize bb:(b1&&(d.eqs).all (λx=>decide (x.cond.length<=20)))=b2 at b5⊢;clear bb b1;simp only[tlC_seq,tlC_zero];refine Ex.cut (V:=tA) 1 (ι:=St) (λ_=>[(0,.ptr c 0),(2,.ptr p 0),(3,.bool (b2&&(d.rules).all (λr=>decide (r.parts.length<=20)&&(decide (r.cond.length<=20)&&(decide (r.new.length<=20)&&decide (r.drop.length<=20))))))]) (λj=>j) (λj=>BX c d [(p,31,d.cs)] s o j) ?_ ?_
 .have z:=m.gck;have u:=m.g0;simp only[go_sem,bZ]at z u
  (try simp only[go_sem,z,u])
  refine Ex.loop (ι:=Nat) (λk=>[(0,.ptr c 0),(2,.ptr p 0),(3,.bool (b2&&((d.rules).take k).all (λr=>decide (r.parts.length<=20)&&(decide (r.cond.length<=20)&&(decide (r.new.length<=20)&&decide (r.drop.length<=20)))))),(67,.list none ((d.rules).map Rul.enc)),(68,.int .i64 ((d.rules).length:Nat)),(69,.int .i64 (k:Nat))]) (λ_=>S) (λk=>k<=(d.rules).length) (λk=>(d.rules).length-k) 0 (aW _) ?_ (by exact aE _) ?_
  .simp only[go_sem,z,u];simp only[kO,nK,eU]
   first|exact rfl|exact⟨rfl,rfl⟩|exact⟨trivial,rfl⟩
  .intro j hj;refine aX (V:=tA) _ _ _ _ ?_;simp only[go_sem,z,u]
   (apply aJ<;>intro h)<;>simp only[go_sem,h,z,u]
   .have U:j<(d.rules).length:=gQ h;clear h;obtain⟨y,Z⟩:=bB U;have ym:=bK Z
    (try simp only[go_sem,Z,U,z,u])
    have et:=aDI (f:=(λr=>decide (r.parts.length<=20)&&(decide (r.cond.length<=20)&&(decide (r.new.length<=20)&&decide (r.drop.length<=20))))) (b:=b2) Z;(refine cH λz1 M=>?_);have e1:=aI z (aS M);have e2:=aI u (aS M)
    (try simp only[go_sem,z,u,Z,U,M,e1,e2])
    obtain⟨S3,O,B,G⟩:=gZ S z1 (.cells 50 y.cs) (aS M)
    try simp only[go_sem]at G O
    rw[G];clear G;have m3:=m.to B;have u:=B.ob _ _ u;have z:=B.ob _ _ z;clear M e1 e2;have e1:decide ((y.parts.length:Int)<=20)=decide (y.parts.length<=20):=cC.2 aB;have e2:decide ((y.cond.length:Int)<=20)=decide (y.cond.length<=20):=cC.2 aB;have e3:decide ((y.new.length:Int)<=20)=decide (y.new.length<=20):=cC.2 aB;have e4:decide ((y.drop.length:Int)<=20)=decide (y.drop.length<=20):=cC.2 aB;cases hB:(b2&&(d.rules.take j).all (λr=>decide (r.parts.length<=20)&&(decide (r.cond.length<=20)&&(decide (r.new.length<=20)&&decide (r.drop.length<=20)))))<;>rw[hB]at et
    ·(try simp only[go_sem,z,u,O,hB])
     exact⟨j+1,U,by omega,⟨et.symm,aU j aB⟩,B⟩
    ·(try simp only[go_sem,z,u,O,hB,e1])
     cases c1:decide (y.parts.length<=20)<;>cases c2:decide (y.cond.length<=20)<;>cases c3:decide (y.new.length<=20)<;>cases c4:decide (y.drop.length<=20)<;>rw[c1,c2,c3,c4]at et<;>(try simp only[go_sem,z,u,O,hB,e1,e2,e3,e4,c1,c2,c3,c4])<;>exact⟨j+1,U,by omega,⟨et.symm,aU j aB⟩,B⟩
   .have je:=bQ hj h;rw[je,bT];exact⟨S,m,rfl,aE _⟩
 clear m S;rintro S m;generalize bc:(b2&&(d.rules).all (λr=>decide (r.parts.length<=20)&&(decide (r.cond.length<=20)&&(decide (r.new.length<=20)&&decide (r.drop.length<=20)))))=b3 at b5⊢;clear bc b2;simp only[tlC_seq,tlC_zero];refine Ex.cut (V:=tA) 1 (ι:=St) (λ_=>[(0,.ptr c 0),(2,.ptr p 0),(3,.bool (b3&&(eD d).all (λt=>(Tm.val 60 t 0).isSome)))]) (λj=>j) (λj=>BX c d [(p,31,d.cs)] s o j) ?_ ?_
 .have z:=m.gck;have u:=m.g0;simp only[go_sem,bZ]at z u
  (try simp only[go_sem,z,u])
  refine aIZ d (by have:=lO (eD d);have:=hd.cc.pr;omega) _ _ _ ?_
  (try simp only[go_sem,z,u])
  have bg:=lO (eD d);have bh:=hd.cc.pr;refine Ex.loop (ι:=Nat) (λk=>[(0,.ptr c 0),(2,.ptr p 0),(3,.bool (b3&&((eD d).take k).all (λt=>(Tm.val 60 t 0).isSome))),(100,.list none ((eD d).map Tm.enc)),(101,.int .i64 ((eD d).length:Nat)),(102,.int .i64 (k:Nat))]) (λ_=>S) (λk=>k<=(eD d).length) (λk=>(eD d).length-k) 0 (aW _) ?_ (by exact aE _) ?_
  .simp only[go_sem,z,u];simp only[kO,nK,eU]
   first|exact rfl|exact⟨rfl,rfl⟩|exact⟨trivial,rfl⟩
  .intro j hj;refine aX (V:=tA) _ _ _ _ ?_;simp only[go_sem,z,u]
   (apply aJ<;>intro h)<;>simp only[go_sem,h,z,u]
   .have U:j<(eD d).length:=gQ h;clear h;obtain⟨y,Z⟩:=bB U;have ym:=bK Z
    (try simp only[go_sem,Z,U,z,u])
    have et:=aDI (f:=(λt=>(Tm.val 60 t 0).isSome)) (b:=b3) Z;(refine cH λz1 M=>?_);have e1:=aI z (aS M);have e2:=aI u (aS M)
    (try simp only[go_sem,z,u,Z,U,M,e1,e2])
    obtain⟨S3,O,B,G⟩:=gZ S z1 (.cells 67 y.cs) (aS M)
    try simp only[go_sem]at G O
    rw[G];clear G;have m3:=m.to B;have u:=B.ob _ _ u;have z:=B.ob _ _ z;clear M e1 e2;cases hB:(b3&&((eD d).take j).all (λt=>(Tm.val 60 t 0).isSome))<;>rw[hB]at et
    ·(try simp only[go_sem,z,u,O,hB])
     exact⟨j+1,U,by omega,⟨et.symm,aU j aB⟩,B⟩
    ·(try simp only[go_sem,z,u,O,hB])
     refine cF (aJc y (hd.cc.tm y ym) ?_)
     (try simp only[go_sem,z,u,O,hB])
     exact⟨j+1,U,by omega,⟨et.symm,aU j aB⟩,B⟩
   .have je:=bQ hj h;rw[je,bT];exact⟨S,m,rfl,aE _⟩
 clear m S;rintro S m;generalize bd:(b3&&(eD d).all (λt=>(Tm.val 60 t 0).isSome))=b4 at b5⊢;clear bd b3;simp only[tlC_seq,tlC_zero];rw[<-b5]at *;clear b5;rw[<-eO]at hk;refine Ex.cut (V:=tA) 1 (ι:=St) (λ_=>[(0,.ptr c 0),(2,.ptr p 0)]) (λj=>j) (λj=>BX c d [(p,31,d.cs)] s (aK o (bH (!wV d) ⟨2,[],0,0⟩)) j) ?_ ?_
 .cases c1:wV d<;>(try simp only[go_sem])
  .refine fA ⟨2,[],0,0⟩ m.gck m.nz ?_
   (try simp only[go_sem])
   exact⟨S.setO c _,m.fail (by show(2:Int)≠0;decide),aE _⟩
  .exact⟨S,m.none,aE _⟩
 generalize aK o (bH (!wV d) ⟨2,[],0,0⟩)=o1 at hk⊢;clear m S;rintro S m;simp only[tlC_seq,tlC_zero];refine aX (V:=tA) _ _ _ _ ?_;have z:=m.gck;have u:=m.g0;simp only[go_sem,bZ]at z u;simp only[go_sem,z,u];refine cF (aPD d.sig hd.sg ?_);cases c1:aAT d.sig<;>(try simp only[go_sem,z,u])<;>rw[c1]at hk
 .refine fA ⟨16,[],0,0⟩ m.gck m.nz ?_
  (try simp only[go_sem])
  exact aG hk (m.ov _)
 .have hk:KV (s.setO c (bZ d (aK o1 none))) (.tuple []):=hk;rw[jU]at hk;exact aG hk (m.ov.fin m.gck)
end
end
section
structure MB (c:Nat) (d:Dfn) (o:Option Fault) (p:Nat) (T:TypeId) (cs:List A) (s S:St):Prop where
 gck:S.getO c=some (bZ d o)
 gp:S.getO p=some (.cells T cs)
 ov:OV c s S
 nz:NZ o
 np:c≠p
theorem MB.fail{c p:Nat}{d:Dfn}{o:Option Fault}{T:TypeId}{cs:List A}{s S:St}{g:Fault}(h:MB c d o p T cs s S)(u:g.code≠0:=by simp):MB c d (aK o (some g)) p T cs s (S.setO c (bZ d (aK o (some g)))) :=
 ⟨by rw[aL,aF rfl],tZ h.gp h.np,h.ov.set _,h.nz.snoc u,h.np⟩
theorem MB.to{c p:Nat}{d:Dfn}{o:Option Fault}{T:TypeId}{cs:List A}{s S S':St}(h:MB c d o p T cs s S)(g:S'.ge S):MB c d o p T cs s S' :=
 ⟨g.ob _ _ h.gck,g.ob _ _ h.gp,h.ov.ge g,h.nz,h.np⟩
theorem MB.none{c p:Nat}{d:Dfn}{o:Option Fault}{T:TypeId}{cs:List A}{s S:St}(h:MB c d o p T cs s S):MB c d (aK o none) p T cs s S:=by rw[jU];exact h
section
variable {s S S':St} {KV Kp:St->A->Prop} {c:Nat} {d:Dfn} {o:Option Fault}
theorem aOZ(hc:s.getO c=some (bZ d o))(hz:NZ o)(ho:d.once.length<=4294967000)(hm:d.many.length<=4294967000)(bl:d.sig.ops.length<=4294967000)(hw:d.sig.below.length<=4294967000)(bj:d.sig.values.length<=4294967000)
  (hk:KV (s.setO c (bZ d (aK o (xC d)))) (.tuple [])):Den cx 35 [.ptr c 0] KV Kp s:=by
 have bh:=hc;unfold xC at hk;simp only[<-eO]at hk;simp only[go_sem,bZ]at hc;(refine gBx func35 ?_;simp only[go_sem,ntmps35,f35]);refine Ex.cut (V:=aBl) 2 (ι:=St × Nat) (λj=>[(0,.ptr c 0),(2,.ptr j.2 0)]) (λj=>j.1) (λj=>MB c d (aK o (bH (!cR d.sig d.start) ⟨13,d.start,0,0⟩)) j.2 31 d.cs s j.1) ?_ ?_
 ·(try simp only[go_sem,hc])
  (refine cH λp hp=>?_);have f1:=aI hc (aS hp)
  (try simp only[go_sem,hc,f1,hp])
  obtain⟨S,u,b6,b7⟩:=gZ s p (.cells 31 d.cs) (aS hp)
  try simp only[go_sem]at b7 u
  rw[b7];clear b7;have b4:=b6.ob _ _ bh;have z:=b6.ob _ _ hc;have m:MB c d o p 31 d.cs s S:=⟨b4,by simp only[go_sem];exact u,OV.of b6,hz,f1.1⟩;clear hp f1
  (try simp only[go_sem,z,u])
  refine cW (aIG d.start b4 ?_);cases cE:cR d.sig d.start<;>(try simp only[go_sem,z,u])
  .refine cW (fA ⟨13,d.start,0,0⟩ b4 hz ?_)
   (try simp only[go_sem])
   exact⟨(S.setO c _,p),m.fail,rfl,aE _⟩
  .exact⟨(S,p),m.none,rfl,aE _⟩
 generalize aK o (bH (!cR d.sig d.start) ⟨13,d.start,0,0⟩)=o1 at hk⊢;rintro⟨S,p⟩ m;simp only at m;simp only[tlC_seq,tlC_zero];refine Ex.cut (V:=aBl) 2 (ι:=St) (λj=>[(0,.ptr c 0),(2,.ptr p 0)]) (λj=>j) (λj=>MB c d (aK o1 (bH (!(dJ d d.watch).2.2||(dJ d d.watch).2.1) ⟨13,d.watch,0,0⟩)) p 31 d.cs s j) ?_ ?_
 .have z:=m.gck;have u:=m.gp;simp only[go_sem,bZ]at z u
  (try simp only[go_sem,z,u])
  refine cW (cF (aDl (d:=d) d.watch ho hm ?_));generalize bm:dJ d d.watch=W;obtain⟨a,b1,b2⟩:=W
  (try simp only[go_sem,z,u])
  (refine cH λr hr=>?_);have f1:=aI z (aS hr);have f2:=aI u (aS hr)
  (try simp only[go_sem,z,u,hr,f1,f2])
  generalize bb:S.setO r _=S2;have b5:S2.ge S:=by rw[<-bb];exact bG (aS hr) (aE _)
  have m2:=m.to b5;have z:=b5.ob _ _ z;have u:=b5.ob _ _ u;clear bb hr f1 f2;cases b2<;>(try simp only[go_sem,z,u])
  .refine cW (fA ⟨13,d.watch,0,0⟩ m2.gck m2.nz ?_)
   (try simp only[go_sem])
   exact⟨S2.setO c _,m2.fail,aE _⟩
  .cases b1<;>(try simp only[go_sem,z,u])
   .exact⟨S2,m2.none,aE _⟩
   .refine cW (fA ⟨13,d.watch,0,0⟩ m2.gck m2.nz ?_)
    (try simp only[go_sem])
    exact⟨S2.setO c _,m2.fail,aE _⟩
 clear m S;generalize aK o1 (bH (!(dJ d d.watch).2.2||(dJ d d.watch).2.1) ⟨13,d.watch,0,0⟩)=o2 at hk⊢;rintro S m;simp only[tlC_seq,tlC_zero];refine Ex.cut (V:=aBl) 1 (ι:=St) (λj=>[(0,.ptr c 0),(2,.ptr p 0)]) (λj=>j) (λj=>MB c d (aK o2 (bH (!(decide (d.kind=[]) == decide (d.many.length=0))) ⟨15,d.kind,0,0⟩)) p 31 d.cs s j) ?_ ?_
 .have z:=m.gck;have u:=m.gp;simp only[go_sem,bZ]at z u;have e0:decide ((d.many.length:Int)=0)=decide (d.many.length=0):=cC.2 aB
  (try simp only[go_sem,z,u,e0])
  have bc:(false == false)=true:=rfl;have bd:(false == true)=false:=rfl;have bf:(true == false)=false:=rfl;have bg:(true == true)=true:=rfl;cases c1:decide (d.kind=[])<;>cases c2:decide (d.many.length=0)<;>(try simp only[go_sem,z,u,c1,c2,bc,bd,bf,bg,fP,iB])
  all_goals first
   | exact⟨S,m.none,aE _⟩
   | (refine cW (fA ⟨15,d.kind,0,0⟩ m.gck m.nz ?_);(try simp only[go_sem]);exact⟨S.setO c _,m.fail,aE _⟩)
 clear m S;generalize aK o2 (bH (!(decide (d.kind=[]) == decide (d.many.length=0))) ⟨15,d.kind,0,0⟩)=o3 at hk⊢;rintro S m;simp only[tlC_seq,tlC_zero];refine aX (V:=aBl) _ _ _ _ ?_;have z:=m.gck;have u:=m.gp;simp only[go_sem,bZ]at z u
 (try simp only[go_sem,z,u])
 refine cW (cF (aDl (d:=d) [107] ho hm ?_))
 (try simp only[go_sem,z,u])
 (refine cH λr hr=>?_);have f1:=aI z (aS hr);have f2:=aI u (aS hr)
 (try simp only[go_sem,z,u,hr,f1,f2])
 obtain⟨w,b9⟩:∃w,w=sQ d [107]:=⟨_,rfl⟩
 rw[<-b9];obtain⟨S1,gr,b0,b8⟩:=gZ S r (.cells 96 w.cs) (aS hr)
 try simp only[go_sem]at b8 gr
 rw[b8];clear b8;have m1:=m.to b0;have u:=b0.ob _ _ u;have z:=b0.ob _ _ z;have nr:c≠r:=f1.1;clear hr f1 f2
 (try simp only[go_sem,z,u,gr])
 have bk:w.sort=(dJ d [107]).1:=by rw[b9];exact aJT d _
 clear b9 m;generalize (dJ d [107]).2.2=is at hk⊢;rw[<-bk]at hk;generalize hQ:aK (aK o3 (bS (λo:Opr=>bH (decide (0<o.strict.length)&&(!is||!decide (w.sort=[76,105,115,116]))) ⟨13,[107],0,0⟩) d.sig.ops)) (bS (λo:Opr=>bH (decide (0<o.strict.length)&&tS d.sig o.sort) ⟨16,o.name,0,0⟩) d.sig.ops)=Q at hk
 refine Ex.loop (ι:=Nat × Option Fault × St) (λk=>[(0,.ptr c 0),(2,.ptr p 0),(7,.ptr r 0),(6,.bool is),(66,.list none (d.sig.ops.map Opr.enc)),(67,.int .i64 (d.sig.ops.length:Nat)),(68,.int .i64 (k.1:Nat))]) (λk=>k.2.2)
  (λk=>k.1<=d.sig.ops.length/\(MB c d k.2.1 p 31 d.cs s k.2.2/\k.2.2.getO r=some (.cells 96 w.cs))/\aK (aK k.2.1 (bS (λo:Opr=>bH (decide (0<o.strict.length)&&(!is||!decide (w.sort=[76,105,115,116]))) ⟨13,[107],0,0⟩) (d.sig.ops.drop k.1))) (bS (λo:Opr=>bH (decide (0<o.strict.length)&&tS d.sig o.sort) ⟨16,o.name,0,0⟩) d.sig.ops)=Q) (λk=>d.sig.ops.length-k.1) (0,o3,S1) ⟨aW _,⟨m1,gr⟩,hQ⟩ ?_ (by exact aE _) ?_
 .simp only[go_sem,z,u,gr]
  try exact rfl
  try exact⟨rfl,rfl⟩
 .clear hQ m1 gr z u b0;rintro⟨i,o4,S2⟩ ⟨hi,⟨m,gr⟩,U⟩;simp only at hi m gr U;refine aX (V:=aBl) _ _ _ _ ?_;have z:=m.gck;have u:=m.gp;simp only[go_sem,bZ]at z u gr;simp only[go_sem,z,u,gr]
  (apply aJ<;>intro h)<;>simp only[go_sem,h,z,u,gr]
  .have Z:i<d.sig.ops.length:=gQ h;clear h;obtain⟨y,hy⟩:=bB Z;have ym:=bK hy
   (try simp only[go_sem,hy,Z,z,u,gr])
   (refine cH λz1 G=>?_);have e1:=aI z (aS G);have e2:=aI u (aS G);have e3:=aI gr (aS G)
   (try simp only[go_sem,z,u,gr,hy,Z,G,e1,e2,e3])
   obtain⟨S3,O,B,M⟩:=gZ S2 z1 (.cells 80 y.cs) (aS G)
   try simp only[go_sem]at M O
   rw[M];clear M;have m3:=m.to B;have u:=B.ob _ _ u;have z:=B.ob _ _ z;have gr:=B.ob _ _ gr;clear G e1 e2 e3;have b3:S3.getO r=some (.cells 96 w.cs):=by simp only[go_sem];exact gr
   (try simp only[go_sem,z,u,gr,O])
   rw[iC hy,bS]at U;have e1:decide ((0:Int)<(y.strict.length:Int))=decide (0<y.strict.length):=cC.2 aB;rw[e1];cases c1:decide (0<y.strict.length)<;>(try simp only[go_sem,z,u,gr,O,c1])<;>rw[c1]at U
   .exact⟨(i+1,o4,S3),⟨Z,⟨m3,b3⟩,U⟩,aQ,aU i aB,aE _⟩
   .cases is<;>(try simp only[go_sem,z,u,gr,O])
    .refine cW (fA ⟨13,[107],0,0⟩ m3.gck m3.nz ?_)
     (try simp only[go_sem])
     exact⟨(i+1,aK o4 (some ⟨13,[107],0,0⟩),S3.setO c _),⟨Z,⟨m3.fail,tZ b3 nr⟩,by rw[<-U];simp only[eO];rfl⟩,aQ,aU i aB,aE _⟩
    .cases c2:decide (w.sort=[76,105,115,116])<;>(try simp only[go_sem,z,u,gr,O,c2])<;>rw[c2]at U
     .refine cW (fA ⟨13,[107],0,0⟩ m3.gck m3.nz ?_)
      (try simp only[go_sem])
      exact⟨(i+1,aK o4 (some ⟨13,[107],0,0⟩),S3.setO c _),⟨Z,⟨m3.fail,tZ b3 nr⟩,by rw[<-U];simp only[eO];rfl⟩,aQ,aU i aB,aE _⟩
     .exact⟨(i+1,o4,S3),⟨Z,⟨m3,b3⟩,U⟩,aQ,aU i aB,aE _⟩
  .have ie:=bQ hi h;clear h;subst ie;rw[dP (bJ _),bS,jU]at U
   refine Ex.loop (ι:=Nat × Option Fault × St) (λk=>[(0,.ptr c 0),(2,.ptr p 0),(90,.list none (d.sig.ops.map Opr.enc)),(91,.int .i64 (d.sig.ops.length:Nat)),(92,.int .i64 (k.1:Nat))]) (λk=>k.2.2)
    (λk=>k.1<=d.sig.ops.length/\MB c d k.2.1 p 31 d.cs s k.2.2/\aK k.2.1 (bS (λo:Opr=>bH (decide (0<o.strict.length)&&tS d.sig o.sort) ⟨16,o.name,0,0⟩) (d.sig.ops.drop k.1))=Q) (λk=>d.sig.ops.length-k.1) (0,o4,S2) ⟨aW _,m,U⟩ ?_ (by exact aE _) ?_
   .simp only[go_sem,z,u]
    try exact rfl
    try exact⟨rfl,rfl⟩
   .clear U m gr z u hi;rintro⟨i,o4,S2⟩ ⟨hi,m,U⟩;simp only at hi m U;refine aX (V:=aBl) _ _ _ _ ?_;have z:=m.gck;have u:=m.gp;simp only[go_sem,bZ]at z u;simp only[go_sem,z,u]
    (apply aJ<;>intro h)<;>simp only[go_sem,h,z,u]
    .have Z:i<d.sig.ops.length:=gQ h;clear h;obtain⟨y,hy⟩:=bB Z;have ym:=bK hy
     (try simp only[go_sem,hy,Z,z,u])
     (refine cH λz1 G=>?_);have e1:=aI z (aS G);have e2:=aI u (aS G)
     (try simp only[go_sem,z,u,hy,Z,G,e1,e2])
     obtain⟨S3,O,B,M⟩:=gZ S2 z1 (.cells 80 y.cs) (aS G)
     try simp only[go_sem]at M O
     rw[M];clear M;have m3:=m.to B;have u:=B.ob _ _ u;have z:=B.ob _ _ z;clear G e1 e2
     (try simp only[go_sem,z,u,O])
     rw[iC hy,bS]at U;have e1:decide ((0:Int)<(y.strict.length:Int))=decide (0<y.strict.length):=cC.2 aB;rw[e1];cases c1:decide (0<y.strict.length)<;>(try simp only[go_sem,z,u,O,c1])<;>rw[c1]at U
     .exact⟨(i+1,o4,S3),⟨Z,m3,U⟩,aQ,aU i aB,aE _⟩
     .refine cW (cF (aNV d.sig y.sort hw bj ?_));cases c2:tS d.sig y.sort<;>(try simp only[go_sem,z,u,O])<;>rw[c2]at U
      .exact⟨(i+1,o4,S3),⟨Z,m3,U⟩,aQ,aU i aB,aE _⟩
      .refine cW (fA ⟨16,y.name,0,0⟩ m3.gck m3.nz ?_)
       (try simp only[go_sem])
       exact⟨(i+1,aK o4 (some ⟨16,y.name,0,0⟩),S3.setO c _),⟨Z,m3.fail,by rw[<-U];simp only[eO];rfl⟩,aQ,aU i aB,aE _⟩
    .have ie:=bQ hi h;clear h;subst ie;rw[dP (bJ _),bS,jU]at U;rw[<-U]at hk;exact aG hk (m.ov.fin m.gck)
end
end
section
theorem aDD{k l c:Int}{q:aC × Bool}(h:k≠0):NZ (jG k q l c):=oK (lQ h) lP
theorem aSP{d:Dfn}:NZ (zD d):=dQ (fW bA) (fW bA)
theorem aUd{sg:Sig}{x:Eqn}:NZ (rY sg x):=by
 unfold rY;split
 .exact lQ bA
 .exact oK (lQ bA) (dQ (aDD dM) (dQ (aDD dM) (fW bA)))
theorem aKF{sg:Sig}:∀(l:List Cel) (b:List aC),NZ (pT sg b l)
 | [],_=>lP
 | x::r,b=>dQ (dQ (fW bA) (oK (lQ bA) (dQ (fW bA) (lN (λ_=>fW bA) _)))) (aKF r _)
theorem aRF{d:Dfn}:NZ (xC d):=dQ (fW bA) (dQ (fW bA) (dQ (fW bA) (dQ (lN (λ_=>fW bA) _) (lN (λ_=>fW bA) _))))
theorem aJ0{d:Dfn}:∀(l b:List Part),NZ (qY d b l)
 | [],_=>lP
 | x::r,b=>dQ aLm (aJ0 r _)
theorem aJ6{d:Dfn}{n:aC}{l c:Int}:∀(ts:List Tm) (m:List Cel),NZ (qV d n l c ts m)
 | [],_=>lP
 | _::_,[]=>lP
 | t::r,x::m=>dQ (fW bA) (aJ6 r m)
theorem aSc{d:Dfn}{b:List aC}{r:Rul}:NZ (xS d b r) :=
 dQ (fW bA) (dQ (fW bA) (dQ (aJ0 _ _) (dQ (aDD dM) (dQ (aDD dM) (dQ (lN (λ_=>fW bA) _) (dQ (lN (λ_=>fW bA) _) (dQ (lN (λ_=>aJ6 _ _) _) (dQ (lN (λ_=>fW bA) _) (aGO _ _)))))))))
theorem aPP{d:Dfn}{b:List aC}{l:List Rul}{i:Nat}{x:Rul}(h:l[i]?=some x):sN d b (l.drop i)=aK (xS d b x) (sN d (b++[x.name]) (l.drop (i+1))):=by
 rw[iC h];rfl
section
variable {s S S':St} {KV Kp:St->A->Prop} {d:Dfn}
theorem aJz(M:DfnB d)(O:KV s ((zK d).getD Fault.none).enc):Den cx 8 [.agg d.cs] KV Kp s:=by
 have b7:=M.cc.cl;have bc:=M.eq;have b9:=M.ru;have hw:=M.sg.be;have b8:=M.cc.pr;have hB:∀t,t∈eD d->TmW t/\t.pre.length<=4294967000:=λt ht=>⟨M.cc.tm t ht,by have:=wN ht;omega⟩
 unfold zK at O;(refine gBy func8 ?_;simp only[go_sem,ntmps8,Tryz.f8]);refine Ex.cut (V:=yJ) 3 (ι:=St × Nat × Nat × Nat) (λj=>[(1,.ptr j.2.1 0),(2,.ptr j.2.2.1 0),(3,.ptr j.2.2.2 0)]) (λj=>j.1) (λj=>BX j.2.2.2 d [(j.2.1,31,d.cs),(j.2.2.1,36,Fault.none.cs)] s (zD d) j.1/\s.getO j.2.2.2=none/\s.getO j.2.2.1=none) ?_ ?_
 ·(try simp only[go_sem])
  (refine aM λp hp=>?_)
  (try simp only[go_sem,hp])
  obtain⟨S0,u,b2,b4⟩:=gZ s p (.cells 31 d.cs) (hp)
  try simp only[go_sem]at b4 u
  rw[b4];clear b4
  (try simp only[go_sem,u])
  (refine cH λr hr=>?_);have f1:=aI u (aS hr)
  (try simp only[go_sem,u,hr,f1])
  have gr:(S0.setO r (.cells 36 [.int .i64 0,.str [],.int .i64 0,.int .i64 0])).getO r=some (.cells 36 [.int .i64 0,.str [],.int .i64 0,.int .i64 0]):=by rw[aL,aF rfl]
  have b0:(S0.setO r (.cells 36 [.int .i64 0,.str [],.int .i64 0,.int .i64 0])).ge S0:=bG (aS hr) (aE _);generalize S0.setO r (.cells 36 [.int .i64 0,.str [],.int .i64 0,.int .i64 0])=S1 at gr b0⊢;have u:=b0.ob _ _ u;intro c hc;have b5:=aI u hc;have f2:=aI gr hc
  have b1:s.getO r=none:=by
   cases e:s.getO r with
   | none=>rfl
   | some x =>
    have h1:=b2.ob _ _ e
    first|(rw[h1]at hr;cases hr)|(rw[h1]at hr;cases hr.2)
  clear hr f1
  have hcs:s.getO c=none:=by
   cases e:s.getO c with
   | none=>rfl
   | some x=>rw[(b0.trans b2).ob _ _ e]at hc;cases hc
  have m:BX c d [(p,31,d.cs),(r,36,Fault.none.cs)] s none (S1.setO c (bZ d none)) :=
   ⟨by rw [aL,aF rfl],fun b hb => (by
    simp only[dG,iI,eJ]at hb;rcases hb with rfl|rfl
    .exact⟨b5.2,tZ u b5.2⟩
    .exact⟨f2.2,tZ gr f2.2⟩),(OV.of (b0.trans b2)).set _,lP⟩
  have e0:bZ d none=.cells 74 (d.cs++Fault.none.cs):=rfl;simp only[Dfn.cs,Sig.cs,Fault.cs,Fault.none,dY,dD]at e0;rw[<-e0];clear e0;generalize S1.setO c (bZ d none)=S2 at m⊢
  (try simp only[go_sem])
  refine aQR M m.gck m.nz ?_
  (try simp only[go_sem])
  exact⟨(S2.setO c _,p,r,c),⟨m.set aSP,hcs,b1⟩,⟨rfl,rfl,rfl⟩,aE _⟩
 generalize hP:zD d=o1 at O⊢;clear hP;rintro⟨S,p,r,c⟩ ⟨m,hcs,b1⟩;simp only at m hcs b1;simp only[tlC_seq,tlC_zero];refine Ex.cut (V:=yJ) 1 (ι:=St) (λ_=>[(1,.ptr p 0),(2,.ptr r 0),(3,.ptr c 0)]) (λj=>j) (λj=>BX c d [(p,31,d.cs),(r,36,Fault.none.cs)] s (aK o1 (bS (rY d.sig) d.eqs)) j) ?_ ?_
 .have u:=m.g0;simp only[go_sem]at u
  (try simp only[go_sem,u])
  generalize hQ:aK o1 (bS (rY d.sig) d.eqs)=Q
  refine Ex.loop (ι:=Nat × Option Fault × St) (λk=>[(1,.ptr p 0),(2,.ptr r 0),(3,.ptr c 0),(13,.list none (d.eqs.map Eqn.enc)),(14,.int .i64 (d.eqs.length:Nat)),(15,.int .i64 (k.1:Nat))]) (λk=>k.2.2)
   (λk=>k.1<=d.eqs.length/\BX c d [(p,31,d.cs),(r,36,Fault.none.cs)] s k.2.1 k.2.2/\aK k.2.1 (bS (rY d.sig) (d.eqs.drop k.1))=Q) (λk=>d.eqs.length-k.1) (0,o1,S) ⟨aW _,m,hQ⟩ ?_ (by exact aE _) ?_
  .simp only[go_sem,u]
   first|exact rfl|exact⟨rfl,rfl⟩
  .clear u m hQ;rintro⟨j,o',S2⟩ ⟨hj,m,z⟩;simp only at hj m z;refine aX (V:=yJ) _ _ _ _ ?_;have u:=m.g0;simp only[go_sem]at u;simp only[go_sem,u]
   (apply aJ<;>intro h)<;>simp only[go_sem,h,u]
   .have Z:j<d.eqs.length:=gQ h;clear h;obtain⟨y,U⟩:=bB Z;have ym:=bK U
    (try simp only[go_sem,U,Z,u])
    (refine cH λz1 G=>?_);have e1:=aI u (aS G);have e2:=aI m.gck (aS G)
    (try simp only[go_sem,u,U,Z,G,e1])
    obtain⟨S3,b3,b6,B⟩:=gZ S2 z1 (.cells 69 y.cs) (aS G)
    try simp only[go_sem]at B b3
    rw[B];clear B;have m3:=m.to b6;clear G e1 e2;refine vI m3.gck m3.nz ?_;rw[iC U,bS,<-eO]at z;cases o' with
    | some f =>
     (try simp only[go_sem,b3,qI])
     exact⟨(j+1,some f,S3),⟨Z,m3,z⟩,aQ,aU j aB,aE _⟩
    | none =>
     (try simp only[go_sem,b3,yL])
     have bb:∀t,t∈fL y->t∈eD d:=λt ht=>iX _ (mC.2 ⟨y,ym,ht⟩)
     have bd:=aBO fL ym;rw[eD,gX,aH]at b8;refine cF (aNO y m3.gck m3.nz hw (λt ht=>(hB t (bb t ht)).1) aB ?_)
     (try simp only[go_sem])
     exact⟨(j+1,aK none (rY d.sig y),S3.setO c _),⟨Z,m3.set (dQ lP aUd),z⟩,aQ,aU j aB,aE _⟩
   .have je:=bQ hj h;clear h;subst je;rw[dP (bJ _),bS,jU]at z;exact⟨S2,m.eqo z,aE _⟩
 rw[<-eO]at O;generalize aK o1 (bS (rY d.sig) d.eqs)=o2 at O⊢;clear m S;rintro S m;simp only[tlC_seq,tlC_zero];refine Ex.cut (V:=yJ) 1 (ι:=St) (λ_=>[(1,.ptr p 0),(2,.ptr r 0),(3,.ptr c 0)]) (λj=>j) (λj=>BX c d [(p,31,d.cs),(r,36,Fault.none.cs)] s (aK o2 (pT d.sig [] (d.once++d.many))) j) ?_ ?_
 ·(try simp only[go_sem])
  refine vI m.gck m.nz ?_;cases o2 with
  | some f =>
   (try simp only[go_sem,qI])
   exact⟨S,m,aE _⟩
  | none =>
   (try simp only[go_sem,yL])
   refine aP5 m.gck m.nz hw b7 (λx hx=>hB x.init (mA _ (iX _ (cN.2 ⟨x,hx,rfl⟩)))) ?_
   (try simp only[go_sem])
   exact⟨S.setO c _,m.set (dQ lP (aKF _ _)),aE _⟩
 rw[<-eO]at O;generalize aK o2 (pT d.sig [] (d.once++d.many))=o3 at O⊢;clear m S;rintro S m;simp only[tlC_seq,tlC_zero];refine Ex.cut (V:=yJ) 1 (ι:=St) (λ_=>[(1,.ptr p 0),(2,.ptr r 0),(3,.ptr c 0)]) (λj=>j) (λj=>BX c d [(p,31,d.cs),(r,36,Fault.none.cs)] s (aK o3 (xC d)) j) ?_ ?_
 ·(try simp only[go_sem])
  refine vI m.gck m.nz ?_;cases o3 with
  | some f =>
   (try simp only[go_sem,qI])
   exact⟨S,m,aE _⟩
  | none =>
   (try simp only[go_sem,yL])
   refine aOZ m.gck m.nz aB aB (by have:=M.sg.op;omega) hw M.sg.va ?_
   (try simp only[go_sem])
   exact⟨S.setO c _,m.set (dQ lP aRF),aE _⟩
 rw[<-eO]at O;generalize aK o3 (xC d)=o4 at O⊢;clear m S;rintro S m;simp only[tlC_seq,tlC_zero];refine Ex.cut (V:=yJ) 1 (ι:=St) (λ_=>[(1,.ptr p 0),(2,.ptr r 0),(3,.ptr c 0)]) (λj=>j) (λj=>BX c d [(p,31,d.cs),(r,36,Fault.none.cs)] s (aK o4 (sN d [] d.rules)) j) ?_ ?_
 .have u:=m.g0;simp only[go_sem]at u
  (try simp only[go_sem,u])
  generalize hQ:aK o4 (sN d [] d.rules)=Q
  refine Ex.loop (ι:=Nat × Option Fault × St) (λk=>[(1,.ptr p 0),(2,.ptr r 0),(3,.ptr c 0),(35,.int .i64 (d.rules.length:Nat)),(36,.int .i64 (k.1:Nat))]) (λk=>k.2.2)
   (λk=>k.1<=d.rules.length/\BX c d [(p,31,d.cs),(r,36,Fault.none.cs)] s k.2.1 k.2.2/\aK k.2.1 (sN d ((d.rules.take k.1).map Rul.name) (d.rules.drop k.1))=Q) (λk=>d.rules.length-k.1) (0,o4,S) ⟨aW _,m,hQ⟩ ?_ (by exact aE _) ?_
  .simp only[go_sem,u]
   first|exact rfl|exact⟨rfl,rfl⟩
  .clear u m hQ;rintro⟨j,o',S2⟩ ⟨hj,m,z⟩;simp only at hj m z;refine aX (V:=yJ) _ _ _ _ ?_;simp only[go_sem]
   (apply aJ<;>intro h)<;>simp only[go_sem,h]
   .have Z:j<d.rules.length:=gQ h;clear h;obtain⟨y,U⟩:=bB Z;have ym:=bK U
    (try simp only[go_sem,U,Z])
    refine vI m.gck m.nz ?_;rw[aPP U,<-eO,<-wS U]at z;cases o' with
    | some f =>
     (try simp only[go_sem,qI])
     exact⟨(j+1,some f,S2),⟨Z,m,z⟩,aQ,aU j aB,aE _⟩
    | none =>
     (try simp only[go_sem,yL])
     refine aQh j y U m.gck m.nz aB aB hw b9 (M.rl y ym) ?_
     (try simp only[go_sem])
     exact⟨(j+1,aK none (xS d ((d.rules.take j).map Rul.name) y),S2.setO c _),⟨Z,m.set (dQ lP aSc),z⟩,aQ,aU j aB,aE _⟩
   .have je:=bQ hj h;clear h;subst je;rw[dP (bJ _),sN,jU]at z;exact⟨S2,m.eqo z,aE _⟩
 generalize aK o4 (sN d [] d.rules)=o5 at O⊢;clear m S;rintro S m;simp only[tlC_seq,tlC_zero];refine aX (V:=yJ) _ _ _ _ ?_;have gc:=m.gck;have gr:=m.g1;simp only[go_sem,bZ]at gc gr;simp only[go_sem,gc,gr];exact aG O (qW (wY b1 (aDz ((m.ov.fin m.gck).trans (bG hcs (aE _))) _ _)))
theorem aPX(B:DfnB d)(G:KV s (.bool (decide (((zK d).getD Fault.none).code=0)))):Den cx 10 [.agg d.cs] KV Kp s:=by
 (refine aN func10 [0,1,2] ?_;simp only[go_sem,ntmps10,f10]);(refine aM λp z=>?_)
 (try simp only[go_sem,z])
 obtain⟨S,y,u,h⟩:=gZ s p (.cells 31 d.cs) (z)
 try simp only[go_sem]at h y
 rw[h];clear h
 (try simp only[go_sem,y])
 refine cF (aJz B ?_)
 (try simp only[go_sem])
 exact aG G u
end
end
structure TokW (N:Nat) (t:Tok):Prop where
 kind:t.kind=1/\(∃c r,t.text=c::r/\mJ c.toNat=true)\/t.kind=2/\t.text=[]\/t.kind=3\/t.kind=4/\(t.text∈kS\/t.text=[39]\/t.text=[95])
 num:0<=t.n/\t.n<=2147483647
 col:0<=t.col/\t.col<=N
 line:0<=t.line/\t.line<=N
 txt:t.text.length<=N
theorem aB4:∀(w:aC) (p:Nat × Nat),(eV p w).1<=p.1+w.length/\(eV p w).2<=p.2+w.length/\(1<=p.2->1<=(eV p w).2)
 | [],p=>⟨bJ _,bJ _,λh=>h⟩
 | b::r,(l,c)=>by
  simp only[eV];split
  .have:=aB4 r (l+1,1);simp only[aV]at this⊢;refine⟨?_,?_,λh=>this.2.2 (bJ _)⟩<;>omega
  .have:=aB4 r (l,c+1);simp only[aV]at this⊢;refine⟨?_,?_,λh=>this.2.2 aB⟩<;>omega
theorem aF2(w:aC):∀(sg:List aC) (n:Nat),mX w sg n=n\/w.take (mX w sg n)∈sg
 | [],n=>.inl rfl
 | x::r,n=>by
  simp only[mX];split
  .rename_i h;rcases aF2 w r x.length with u|u
   .rw[u];refine .inr (List.mem_cons.2 (.inl ?_));have y:=h.2;simp only[qX,bP,bW]at y;exact y.2
   .exact .inr (List.mem_cons.2 (.inr u))
  .rcases aF2 w r n with u|u
   .exact .inl u
   .exact .inr (List.mem_cons.2 (.inr u))
theorem aTM{c:UInt8}{r:aC}{t:Tok}{n N:Nat}(h:oR (c::r) kS true=(t,n,true))(hN:(c::r).length<=N)(l k:Nat)(hl:l<=N)(hk:k<=N):TokW N ⟨t.kind,t.text,t.n,l,k⟩:=by
 have u:∀m,((c::r).take m).length<=N:=λm=>by rw[dT];omega
 have b0:=aF7 h;have M:(0:Int)<=(k:Int)/\(k:Int)<=N:=⟨by omega,by omega⟩;have z:(0:Int)<=(l:Int)/\(l:Int)<=N:=⟨by omega,by omega⟩;have O:(0:Int)<=0/\(0:Int)<=2147483647:=by decide
 simp only[oR]at h;split at h
 .rename_i hn;simp only[pE,bW]at h;obtain⟨rfl,y,_⟩:=h;refine⟨.inl ⟨rfl,?_⟩,O,M,z,u _⟩;have G:mJ c.toNat=true:=by simp only[cP,bP]at hn;exact hn.2.1
  obtain⟨m,hm⟩:∃m,n=m+1:=⟨n-1,by omega⟩
  rw[hm]at y;rw[y];exact⟨c,r.take m,rfl,G⟩
 .split at h
  .simp only[uH]at h;split at h
   .simp only[pE,dA,and_false]at h
   .simp only[pE,bW]at h;obtain⟨rfl,_,Z⟩:=h;exact⟨.inr (.inl ⟨rfl,rfl⟩),⟨Int.natCast_nonneg _,aQ⟩,M,z,aW _⟩
  .split at h
   .simp only[pE]at h;obtain⟨B,y,_⟩:=h;generalize (Lib.indexByte r 34+2).toNat-2=m at B;subst B;refine⟨.inr (.inr (.inl rfl)),O,M,z,?_⟩;show(r.take m).length<=N;rw[dT];rw[aV]at hN;omega
   .simp only[pE,bW]at h;obtain⟨B,y,Z⟩:=h;rw[y]at B Z;subst B;refine⟨.inr (.inr (.inr ⟨rfl,?_⟩)),O,M,z,u n⟩;show(c::r).take n∈kS\/(c::r).take n=[39]\/(c::r).take n=[95];by_cases U:mX (c::r) kS 0=0/\True/\(c=39\/c=95)
    .rw[aF (gQ U)]at y;subst y;rcases U.2.2 with rfl|rfl
     .exact .inr (.inl rfl)
     .exact .inr (.inr rfl)
    .rw[aD (gQ U)]at y;subst y;rcases aF2 (c::r) kS 0 with h5|h5
     .omega
     .exact .inl h5
theorem aMJ(N:Nat):∀(f:Nat) (w:aC) (p:Nat × Nat) (u:List Tok) (l:List Tok),p.1+w.length<=N->p.2+w.length<=N->u.length+w.length<=N->(∀t,t∈u->TokW N t)->rV kS true f w p u=.ok l ->
  l.length<=N/\∀t,t∈l->TokW N t
 | _,[],p,u,l,M,O,z,B,h=>by
  simp only[rV]at h;cases h;exact⟨gQ z,B⟩
 | 0,_::_,p,u,l,M,O,z,B,h=>by
  simp only[rV]at h;cases h;exact⟨by omega,B⟩
 | f+1,c::r,p,u,l,M,O,z,B,h=>by
  simp only[rV]at h;rcases y:oR (c::r) kS true with⟨t,n,ok⟩
  rw[y]at h;cases ok with
  | false=>cases h
  | true =>
   simp only at h;obtain⟨b0,U⟩:=aF7 y;have hb:gD ((c::r).drop n)<=((c::r).drop n).length:=aAF _ _;have a1:=aB4 ((c::r).take n) p;have a2:=aB4 (((c::r).drop n).take (gD ((c::r).drop n))) (eV p ((c::r).take n));simp only[dT,dS,aV]at a1 a2 hb M O z U;refine aMJ N f _ _ _ l ?_ ?_ ?_ ?_ h
   .simp only[dS,aV];omega
   .simp only[dS,aV];omega
   .simp only[aH,aV,aZ,dS]at z⊢;omega
   .intro t' Z;rcases cK.1 Z with G|G
    .exact B t' G
    .simp only[bO]at G;subst G;exact aTM y (by simp only[aV];omega) p.1 p.2 aB aB
theorem aUK{x:aC}{l:List Tok}(h:qC kS true x=.ok l):l.length<=x.length+1/\∀t,t∈l->TokW (x.length+1) t:=by
 have z:gD x<=x.length:=aAF _ _;have u:=aB4 (x.take (gD x)) (1,1);simp only[dT]at u;refine aMJ (x.length+1) _ _ _ _ l ?_ ?_ ?_ (λt y=>by cases y) h
 .simp only[dS];omega
 .simp only[dS];omega
 .simp only[dS,aZ];omega
theorem aKT(sg:List aC)(op:Bool):∀(f:Nat) (w:aC) (p:Nat × Nat) (u:List Tok) (g:Fault),rV sg op f w p u=.bad g->g.code=10
 | _,[],p,u,g,h=>by simp only[rV]at h;cases h
 | 0,_::_,p,u,g,h=>by simp only[rV]at h;cases h
 | f+1,c::r,p,u,g,h=>by
  simp only[rV]at h;rcases y:oR (c::r) sg op with⟨t,n,ok⟩
  rw[y]at h;cases ok with
  | false=>cases h;rfl
  | true=>exact aKT sg op f _ _ _ g h
theorem aKQ{x:aC}{g:Fault}(h:qC kS true x=.bad g):g.code=10:=aKT _ _ _ _ _ _ _ h
section
structure RQ (T:List Tok) where
 at_:Nat
 le:at_<=T.length
 f:Fault
 first:Nat
 nodes:Int
 over:Bool
section
variable {T:List Tok} (fin:Fault)
def RQ.ok(q:RQ T):Bool:=decide (q.f.code=0)
def RQ.tok(q:RQ T):Tok:=(T[q.at_]?).getD ⟨0,[],0,0,0⟩
end
end
section
def aCL(x:aC):Fault:=⟨12,[],1+(x.count 10:Nat),x.length-pR x 10 x.length⟩
def aMz(x:aC):Dfn × Fault:=match qC kS true x with
 | .bad f=>(jL,f)
 | .ok T=>match aA4 false (aCL x) T with
  | .ok d _ _=>(d,Fault.none)
  | .bad f=>(jL,f)
def kU(x:aC):Dfn × Fault:=if 20000<x.length then(jL,⟨3,[],0,0⟩) else aMz x
theorem aUQ{x:aC}{l:List Tok}(B:x.length<=4294967280)(h:qC kS true x=.ok l):TOk l:=by
 obtain⟨z,y⟩:=aUK h;refine⟨by omega,λt u=>(y t u).num,λt u=>?_,λt u=>?_⟩
 .have:=(y t u).col;omega
 .have:=(y t u).txt;omega
theorem aKK(x:aC)(c:UInt8):∀n,pR x c n<n/\-1<=pR x c n
 | 0=>by simp[pR]
 | n+1=>by
  have:=aKK x c n;simp only[pR];split<;>omega
section
variable {s:St} {KV Kp:St->A->Prop}
theorem aQi(x:aC)(hx:x.length<=4294967280) (B:match qC kS true x with
  | .ok l=>∀r,s.getO r=none->KV (s.setO r (bI l (aCL x) (cU jL rS) vV 0 0)) (.tuple [.ptr r 0,Fault.none.enc])
  | .bad f=>KV s (.tuple [.nilp,f.enc])):Den cx 176 [.str x] KV Kp s:=by
 have U:x.count 10<=x.length:=List.count_le_length;have O:=aKK x 10 x.length;(refine aN func176 [0,2,3,4,5,6,14] ?_;simp only[go_sem,ntmps176,f176]);(refine kD λb3 h=>?_);simp only[go_sem,h];refine aSY _ x _ _ aB ?_;cases hl:qC kS true x with
 | bad f =>
  rw[hl]at B;have hc:=aKQ hl;have M:decide (f.code=0)=false:=by rw[hc];rfl
  simp only[Lx.out];simp only[go_sem,h];(refine kD λZ u=>?_);simp only[go_sem,h,u,M];(refine bD (OT.r 0 3) [] ?_;simp only[go_sem,h,u]);simp only[go_sem]at B;exact aG B cD
 | ok l =>
  rw[hl]at B;simp only[Lx.out];have b0:Fault.none.code=0:=rfl;simp only[go_sem,h,Fault.none];(refine kD λZ u=>?_);simp only[go_sem,h,u];refine aOp _ _ _ _ _ ?_;simp only[go_sem,h,u,fV (1+((x.count 10:Nat):Int)) aB aB];refine aN0 _ x 10 _ _ aB ?_;simp only[go_sem,h,u,fV ((x.length:Int)-pR x 10 x.length) aB aB];(refine kD λb6 y=>?_);simp only[go_sem,h,u,y];(refine bD (OT.l [0,1,2,4,3,5,6] .nil) [(3,[4])] ?_;simp only[go_sem,h,u,y]);(refine kD λb7 z=>?_);simp only[go_sem,h,u,y,z];have G:=B b7 (by first|exact z.2.2.2|exact z.2.2);simp only[Fault.enc,Fault.cs,Fault.none]at G;exact aG G cD
theorem aRd(x:aC)(O:x.length<=4294967280) (u:if 20000<x.length then KV s (.tuple [.nilp,Fault.enc ⟨3,[],0,0⟩]) else match qC kS true x with
  | .ok l=>∀r,s.getO r=none->KV (s.setO r (bI l (aCL x) (cU jL rS) vV 0 0)) (.tuple [.ptr r 0,Fault.none.enc])
  | .bad f=>KV s (.tuple [.nilp,f.enc])):Den cx 110 [.str x] KV Kp s:=by
 (refine aN func110 [0,2,3,6] ?_;simp only[go_sem,ntmps110,f110]);(refine kD λG h=>?_);simp only[go_sem,h];cases c:decide ((20000:Int)<(x.length:Int))with
 | true =>
  rw[aF (by simp at c;omega)]at u;simp only[go_sem,h,c];simp only[go_sem]at u;exact aG u cD
 | false =>
  rw[aD (by simp at c;omega)]at u;simp only[go_sem,h,c];refine aQi x O ?_;cases hl:qC kS true x with
  | bad f =>
   rw[hl]at u;simp only at u⊢;simp only[go_sem,h];simp only[go_sem]at u;exact aG u cD
  | ok l =>
   rw[hl]at u;simp only at u⊢;intro r B;have y:=u r (by have:=B;rw[aL]at this;split at this;cases this;exact this);have z:G≠r:=λe=>by subst e;rw[aL,aF rfl]at B;cases B
   simp only[Fault.enc,Fault.cs,Fault.none]at y⊢;have M:=z.symm;simp only[go_sem,h,z,z.symm];exact aG y cD
theorem aQZ(x:aC)(U:x.length<=4294967280)(z:KV s (.tuple [(kU x).1.enc,(kU x).2.enc])):Den cx 50 [.str x] KV Kp s:=by
 have Z:A.le (.agg [.str [],.nils,.nils,.nils,.nils,.nils,.nils,.nils,.str [],.nils,.nils,.str [],.str []]) jL.enc:=aD9 jL rS (s:=s) aDq;(refine aN func50 [0,2,3,4,5,13] ?_;simp only[go_sem,ntmps50,f50]);(refine kD λb2 h=>?_);simp only[go_sem,h];(refine kD λb3 u=>?_);simp only[go_sem,h,u];refine aRd x U ?_;unfold kU at z;split
 .rename_i c;rw[aF c]at z;simp only[go_sem,h,u];(refine kD λM y=>?_);simp only[go_sem,h,u,y];(refine bD (OT.r 0 4) [(2,[1])] ?_;simp only[go_sem,h,u,y]);exact DK.mk z cD (A.le.tuple ⟨Z,bL _,trivial⟩)
 .rename_i c;rw[aD c]at z;unfold aMz at z;cases hl:qC kS true x with
  | bad f =>
   rw[hl]at z;have G:decide (f.code=0)=false:=by rw[aKQ hl];rfl
   simp only at z⊢;simp only[go_sem,h,u];(refine kD λM y=>?_);simp only[go_sem,h,u,y,G];(refine bD (OT.r 0 4) [(2,[1])] ?_;simp only[go_sem,h,u,y]);simp only[go_sem]at z;exact DK.mk z cD (A.le.tuple ⟨Z,bL _,trivial⟩)
  | ok T =>
   rw[hl]at z;simp only at z⊢;intro r B;simp only[iM,dB]at B;simp only[go_sem,h,u,B,Fault.none];(refine kD λM y=>?_);simp only[go_sem,h,u,B,y];refine aTA (T:=T) (fin:=aCL x) (aUQ U hl) gH ?_;unfold aHH;cases O:aA4 false (aCL x) T with
   | bad f =>
    rw[O]at z;simp only at z⊢;intro o;simp only[go_sem,h,u,B,y];simp only[go_sem]at z;exact aG z cD
   | ok d w n =>
    rw[O]at z;simp only at z⊢;intro o;simp only[go_sem,h,u,B,y];simp only[go_sem]at z;exact aG z cD
end
end
section
section
variable {s:St} {KV Kp:St->A->Prop} {d:Dfn}
theorem qO{S s:St}{b:Nat}(o:Ob)(h:S.ge s)(z:s.getO b=none):(S.setO b o).ge s :=
 ⟨λq M u=>by rw[aL,aD (λe=>by rw[<-e,z]at u;cases u)];exact h.ob _ _ u,λt v B=>h.tk t v B,λy G=>h.ls y G⟩
def rR(x:aC):Dfn × Fault :=
 if(kU x).2.code=0 then(if(sM (kU x).1).code=0 then((kU x).1,sM (kU x).1) else(jL,sM (kU x).1)) else(jL,(kU x).2)
theorem aQS(x:aC)(hx:x.length<=4294967280)(U:DfnC (kU x).1)(B:KV s (.tuple [(rR x).1.enc,(rR x).2.enc])):Den cx 21 [.str x] KV Kp s:=by
 unfold rR at B;(refine aN func21 [0,2,3,4,5,13,18] ?_;simp only[go_sem,ntmps21,f21]);(refine aM λZ h=>?_);simp only[go_sem,h];(refine aM λb3 u=>?_);simp only[go_sem,h,u];refine aQZ x hx ?_;generalize kU x=P at U B;obtain⟨d,f⟩:=P;simp only at U B;simp only[go_sem,h,u];(refine aM λb4 y=>?_);simp only[go_sem,h,u,y];(refine aM λb5 z=>?_);have zd:A.le (.agg [.str [],.nils,.nils,.nils,.nils,.nils,.nils,.nils,.str [],.nils,.nils,.str [],.str []]) jL.enc:=aD9 jL rS (s:=s) aDq
 have G:∀o1 o2 o3 o4 o5 o6 o7 o8,((((((((s.setO Z o1).setO b3 o2).setO b4 o3).setO b5 o4).setO b4 o5).setO b5 o6).setO Z o7).setO b3 o8).ge s:=λ_ _ _ _ _ _ _ _ =>
  qO _ (qO _ (qO _ (qO _ (qO _ (qO _ (qO _ (qO _ (aE s) h) u.2) y.2.2) z.2.2.2) y.2.2) z.2.2.2) h) u.2
 cases M:decide (f.code=0)<;>simp only[go_sem,h,u,y,z,M]
 .rw[aD (of_decide_eq_false M)]at B;(refine bD (OT.r 0 4) [(2,[1])] ?_;simp only[go_sem,h,u,y,z]);exact DK.mk B (G _ _ _ _ _ _ _ _) (A.le.tuple ⟨zd,bL _,trivial⟩)
 .rw[aF (fT M)]at B;refine sI (aC8 U ?_) (by simp only[Dfn.cs,Sig.cs,dY,dD]);generalize sM d=g at B;cases O:decide (g.code=0)<;>simp only[go_sem,h,u,y,z,O]
  .rw[aD (of_decide_eq_false O)]at B;(refine bD (OT.r 0 4) [(2,[1])] ?_;simp only[go_sem,h,u,y,z]);exact DK.mk B (G _ _ _ _ _ _ _ _) (A.le.tuple ⟨zd,bL _,trivial⟩)
  .rw[aF (fT O)]at B;(refine bD (OT.r 0 4) [(2,[1])] ?_;simp only[go_sem,h,u,y,z]);exact aG B (G _ _ _ _ _ _ _ _)
theorem aQx(hd:DfnC d)(hs:rO d=true)(n:aC)(i:Nat)(x:Cel)(hx:d.once[i]?=some x)(b0:x.name=n)(Z:∀j y,j<i->d.once[j]?=some y->y.name≠n)(hk:KV s (.tuple [.bool false,.int .i64 i,.int .i64 0])):Den cx 16 [.agg d.cs,.str n] KV Kp s:=by
 (refine aN func16 aM5 ?_;simp only[go_sem,ntmps16,f16]);(refine aM λp hp=>?_);have B:(s.setO p (.cells 31 d.cs)).ge s:=bG hp (aE s);have M:(s.setO p (.cells 31 d.cs)).getO p=some (.cells 31 d.cs):=by rw[aL,aF rfl]
 simp only[go_sem,hp];simp only[Dfn.cs,Sig.cs,dY,dD]at M B;generalize hS:s.setO p _=S at M B⊢;clear hS hp;have b2:=hd.cl
 have b1:i<d.once.length:=by
  rw[dZ]at hx;exact hx.1
 refine sI (aBI hd ?_) (by simp only[Dfn.cs,Sig.cs,dY,dD]);rw[hs];simp only[go_sem,M];refine Ex.loop (ι:=Nat) (λj=>[(1,.str n),(2,.ptr p 0),(15,.list none (d.once.map Cel.enc)),(16,.int .i64 (d.once.length:Nat)),(17,.int .i64 (j:Nat))]) (λ_=>S) (λj=>j<=i) (λj=>i-j) 0 (aW _) ?_ (aE _) ?_
 .simp only[go_sem]
  try exact rfl
 .rintro j hj;refine aX (V:=aM5) _ _ _ _ ?_;simp only[go_sem]
  (apply aJ<;>intro h)<;>simp only[go_sem,h]
  .have G:j<d.once.length:=gQ h;clear h;obtain⟨y,O⟩:=bB G;simp only[go_sem,O,G];(refine cH λb8 u=>?_);have f1:=aI M (aS u);have z:(S.setO b8 (.cells 96 y.cs)).ge S:=bG u (aE S);simp only[Cel.cs,Tm.cs,dY,dD]at z;by_cases e:j=i
   .subst e;rw[hx]at O;cases O;simp only[go_sem,u,f1,cT b0];exact aG hk (z.trans B)
   .have U:j<i:=by omega
    simp only[go_sem,u,f1,bR (Z j y U O)];exact⟨j+1,by omega,by omega,aU j aB,z⟩
  .exact cV (gQ h) (show¬ d.once.length<=j by omega)
end
end
section
theorem aQK(n:Nat)(O:n<=4294967296)(s:St)(KV Kp:St->A->Prop)(z:∀tk,(∀t,tk=some t->s.getT t=none)->KV (gs s tk 0 80) (gv tk [])):Den cx 107 [.nils,.int .i64 (n:Nat)] KV Kp s:=by
 have B:decide ((n:Int)<0)=false:=by rw[fO];omega
 have M:IntKind.i64.wrap ((n:Int)-IntKind.i64.wrap (0-0))=(n:Int):=by rw[show IntKind.i64.wrap (0-0)=0 by decide,fV _ aB aB];omega
 (refine aN func107 [0,1,4,6,16] ?_;simp only[go_sem,ntmps107,f107]);simp only[go_sem,B];rw[M];cases n with
 | zero =>
  have y:decide ((0:Int)<((0:Nat):Int))=false:=by decide
  simp only[go_sem,y];exact aP (z none (λt h=>by cases h))
 | succ n =>
  have y:decide ((0:Int)<((n+1:Nat):Int))=true:=by rw[bW];omega
  simp only[go_sem,y,uM];refine⟨⟨by omega,by omega,by decide⟩,λt G=>?_⟩;simp only[go_sem];exact aP (z (some t) (λu h=>by cases h;exact G))
theorem aOv(G:List (List Opr))(hn:G.flatten.length<=4294967296)(s:St)(KV Kp:St->A->Prop)(hk:KV s (.list none (G.flatten.map Opr.enc))):Den cx 44 [.list none (G.map λl=>.list none (l.map Opr.enc))] KV Kp s:=by
 refine hH λb1=>?_
 have b0:=b1 _ (cQ ..);clear b1;(refine aN func44 rX ?_;simp only[go_sem,ntmps44,f44])
 refine Ex.loop (ι:=Nat) (λi=>[(0,.list none (G.map λl=>.list none (l.map Opr.enc))),(3,.int .i64 ((G.take i).flatten.length:Nat)),(9,.list none (G.map λl=>.list none (l.map Opr.enc))),(10,.int .i64 (G.length:Nat)),(11,.int .i64 (i:Nat))])
  (λ_=>s) (λi=>i<=G.length) (λi=>G.length-i) 0 (aW _) ?_ (aE _) ?_
 .simp only[go_sem];exact⟨rfl,rfl⟩
 .intro i hi;refine aX (V:=rX) _ _ _ _ ?_;simp only[go_sem]
  (apply aJ<;>intro h)<;>simp only[go_sem,h]
  .have B:i<G.length:=gQ h;clear h;obtain⟨a,Z⟩:=bB B;obtain⟨U,O⟩:=wJ Z
   have w2:IntKind.i64.wrap (((G.take i).flatten.length:Int)+(a.length:Int))=(((G.take (i+1)).flatten.length:Nat):Int):=by
    rw[U,aH,fV _ aB (by rw[U,aH]at O;omega)];omega
   have d0:decide ((((G.take (i+1)).flatten.length:Nat):Int)<0)=false:=by rw[fO];omega
   simp only[go_sem,Z,B,w2,d0];exact⟨i+1,B,by omega,⟨rfl,b0.wrap (i:=i) (gQ B)⟩,aE _⟩
  .have B:i=G.length:=by have:¬ i<G.length:=gQ h;omega
   subst B;clear h;rw[bT];refine aQK _ hn _ _ _ (λtk hf=>?_);simp only[go_sem];clear hi
   refine Ex.loop (ι:=Nat × Option Nat) (λk=>[(6,gv k.2 ((G.take k.1).flatten.map Opr.enc)),(25,.list none (G.map λl=>.list none (l.map Opr.enc))),(26,.int .i64 (G.length:Nat)),(27,.int .i64 (k.1:Nat))])
    (λk=>gs s k.2 (G.take k.1).flatten.length 80) (λk=>k.1<=G.length/\(k.2=none->(G.take k.1).flatten=[])/\∀t,k.2=some t->s.getT t=none) (λk=>G.length-k.1) (0,tk) ⟨aW _,λ_=>rfl,hf⟩ ?_ (aE _) ?_
   .simp only[go_sem];exact⟨by cases tk<;>rfl,rfl⟩
   .rintro⟨i,tk⟩ ⟨hi,M,hf⟩;simp only at hi M hf;refine aX (V:=rX) _ _ _ _ ?_;simp only[go_sem]
    (apply aJ<;>intro h)<;>simp only[go_sem,h]
    .have B:i<G.length:=gQ h;clear h;obtain⟨a,Z⟩:=bB B;obtain⟨U,O⟩:=wJ Z
     have hz:∀(l:List Opr) (y:A),y∈l.map Opr.enc->y.cells.length=(A.cells (Opr.enc default)).length:=λl y hy=>by
      obtain⟨z,_,rfl⟩:=cN.1 hy
      first|rfl|(simp only[cY];rfl)
     simp only[go_sem,Z,B];refine⟨by decide,λy hy=>hz a y hy,dU rfl rfl (by rw[aO];exact fD λe=>by rw[M e];rfl) (λy hy=>hz _ y hy) (by rw[U,aH]at O;simp only[aO];omega) (λu hu=>?_)⟩;have b2:=iD hu hf;rw[gR hu];simp only[go_sem];refine⟨(i+1,some u),⟨B,λh=>(by cases h),λt h=>by cases h;exact b2⟩,aQ,⟨?_,b0.wrap (i:=i) (gQ B)⟩,?_⟩
     .rw[U,bU];rfl
     .rw[U];simp only[gs,aO,aH];exact aE _
    .have B:i=G.length:=by have:¬ i<G.length:=gQ h;omega
     subst B;rw[bT]at M⊢;exact DK.mk hk (fR (aE _) hf) (kJ _ _ (λe=>by rw[M e];rfl))
theorem aVt{α:Type} [DecidableEq α] (key:α->MK) (x:α) (l:List α) (h:x∈l):lK (key x) (.bool true) (kA key l)=kA key l:=by
 induction l with
 | nil=>cases h
 | cons y r u =>
  simp only[kA,bX,lK]at u⊢;by_cases e:key x=key y
  .rw[aF e]
  .rw[aD e];rcases List.mem_cons.1 h with rfl|h
   .exact cV rfl e
   .rw[u h]
def aDZ(a:List aC)(x:Tm):List aC:=if x.kind=5 then(if x.text∈a then a else a++[x.text]) else a
def aAV(l:List Tm):List aC:=(aY l).foldl aDZ []
theorem aUR(a:List aC)(x:aC):lK (.str x) (.bool true) (kA .str a)=kA .str (if x∈a then a else a++[x]):=by
 by_cases h:x∈a
 .rw[aF h];exact aVt MK.str x a h
 .rw[aD h];exact aDR MK.str (λx y e=>by cases e;rfl) x a h
structure ApI (s0:St) (p b:Nat) (n:Nat) (a:List aC) (v:Unit) (s:St):Prop where
 ge:s.ge s0
 pc:s.getO p=some (.cells 83 [.mp b])
 ob:s.getO b=some (.map 0 (kA .str a))
section
variable {s0 s s':St} {p b n m:Nat} {a:List aC} {v:Unit}
theorem ApI.st(h:ApI s0 p b n a v s)(u:s'.ge s):ApI s0 p b n a v s':=⟨u.trans h.ge,u.ob _ _ h.pc,u.ob _ _ h.ob⟩
theorem ApI.fr{x:Nat}(h:ApI s0 p b n a v s)(u:s.getO x=none):¬ nF b v x:=by
 rintro rfl;rw[h.ob]at u;cases u
theorem ApI.set(h:ApI s0 p b m a v s)(u:s0.getO b=none)(c:List aC):ApI s0 p b n c v (s.setO b (.map 0 (kA .str c)))/\Keep (nF b) s v (s.setO b (.map 0 (kA .str c))) v:=by
 have y:¬ b=p:=λe=>by have:=h.pc;rw[<-e,h.ob]at this;cases this
 exact⟨⟨tV h.ge u _,by rw[aL,aD y];exact h.pc,by rw[aL,aF rfl]⟩,Keep.set (show nF b v b from rfl) _⟩
theorem ApI.keep(h:ApI s0 p b m a v s)(u:s'.ge s):ApI s0 p b n a v s'/\Keep (nF b) s v s' v:=⟨⟨(h.st u).ge,(h.st u).pc,(h.st u).ob⟩,Keep.ge u v⟩
end
theorem aRq(s0:St)(p b:Nat)(U:s0.getO b=none):WalkOk aDZ (ApI s0 p b) (nF b) 104 [.ptr p 0] where
 st:=ApI.st
 fr:=ApI.fr
 go:=by
  intro n a v x Z s KV Kp b0 B y;simp only[dD,dY];have gp:=B.pc;have gb:=B.ob;unfold aDZ at y;(refine aN func104 [0,2,3,7] ?_;simp only[go_sem,ntmps104,f104]);(refine aM λc u=>?_);have h:(s.setO c (.cells 67 x.cs)).ge s:=bG u (aE s);have e1:=aI gp u;have e2:=aI gb u;have O:ApI s0 p b (n+1) a v (s.setO c (.cells 67 x.cs)):=B.st h;obtain⟨k1,k2⟩:=B.keep (n:=n) h;by_cases z:x.kind=5
  .have M:decide (x.kind=5)=true:=cT z;rw[aF z]at y;obtain⟨k3,G⟩:=O.set (n:=n) U (if x.text∈a then a else a++[x.text]);have G:=(Keep.ge (Ow:=nF b) h v).trans G;simp only[Tm.cs]at k3 G;simp only[go_sem,u,M,e1,e2,gp,gb,aUR];exact aP (y _ _ k3 G)
  .have M:decide (x.kind=5)=false:=bR z;rw[aD z]at y;simp only[go_sem,u,M];simp only[Tm.cs]at k1 k2;exact aP (y _ _ k1 k2)
section
variable {s:St} {KV Kp:St->A->Prop} {d:Dfn}
theorem aOj(l:List Tm)(hb:(aY l).length<=4294967000)(hk:∀s' b,s'.ge s->s'.getO b=some (.map 0 (kA .str (aAV l)))->KV s' (.mp b)):Den cx 38 [.list none (l.map Tm.enc)] KV Kp s:=by
 (refine aN func38 aEH ?_;simp only[go_sem,ntmps38,f38]);(refine aM λq G=>?_);simp only[go_sem,G];(refine aM λp U=>?_)
 have h0:ApI s p q ((aY l).length) [] () ((s.setO q (.map 0 [])).setO p (.cells 83 [.mp q])):=by
  refine⟨bG U.2 (bG G (aE s)),by rw[aL,aF rfl],?_⟩;rw[aL,aD U.1.2,aL,aF rfl];rfl
 simp only[go_sem,G,U];have b1:=lO l
 refine Ex.loop (ι:=Nat × St) (λc=>[(3,.ptr p 0),(7,.list none (l.map Tm.enc)),(8,.int .i64 (l.length:Nat)),(9,.int .i64 (c.1:Nat))])
  (λc=>c.2) (λc=>c.1<=l.length/\ApI s p q ((aY (l.drop c.1)).length) ((aY (l.take c.1)).foldl aDZ []) () c.2) (λc=>l.length-c.1) (0,_) ⟨aW _,h0⟩ ?_ (aE _) ?_
 .simp only[go_sem]
  try exact rfl
 .rintro⟨i,s1⟩ ⟨hi,y⟩;simp only at hi y;refine aX (V:=aEH) _ _ _ _ ?_;simp only[go_sem]
  (apply aJ<;>intro h)<;>simp only[go_sem,h]
  .have u:i<l.length:=gQ h;clear h;obtain⟨x,B⟩:=bB u;have Z:=aBR B;have z:=aBW B;have b2:=wN (bK B);simp only[go_sem,B,u];(refine aM λc hc=>?_);simp only[go_sem,B,u,hc];refine aAl (aRq s p q G) x 1 _ _ () _ _ _ aB (by rw[<-Z];exact y.st (bG hc (aE _))) (λs4 v4 M b0=>?_);simp only[go_sem];exact⟨(i+1,s4),⟨u,by rw[z,rI];exact M⟩,aQ,aU i aB,aE _⟩
  .have O:=bQ hi h;subst O;rw[bT]at y;have gp:=y.pc;simp only[go_sem,gp];exact aP (hk _ _ y.ge y.ob)
theorem aPu(h:rO d=true):qU d=true/\qR d.sig=true:=by
 rw[aQ9]at h;unfold uA at h;constructor
 .cases e:qU d with
  | true=>rfl
  | false=>rw[aF e]at h;cases h
 .cases e:qU d with
  | false=>rw[aF e]at h;cases h
  | true =>
   rw[aD (by rw[e];decide)]at h;cases u:qR d.sig with
   | true=>rfl
   | false=>rw[aF u]at h;cases h
theorem aPE(hd:DfnC d)(O:rO d=true)(n:aC)(hn:eN d.sig.funs n=none)(hk:KV s (.tuple [.nils,.int .i64 4])):Den cx 11 [.agg d.cs,.str n] KV Kp s:=by
 have hv:d.sig.sorts.length<=40/\d.sig.below.length<=200:=by
  have G:=(aPu O).2;unfold qR at G;simp only[bP,iY,fO]at G;omega
 (refine aN func11 [0,1,2,4,5,6,8,9,11,12,13,15,18,29,31,32,33,34,41,54,56,66] ?_;simp only[go_sem,ntmps11,f11]);(refine aM λp B=>?_);have h:(s.setO p (.cells 31 d.cs)).ge s:=bG B (aE s);have y:(s.setO p (.cells 31 d.cs)).getO p=some (.cells 31 d.cs):=by rw[aL,aF rfl]
 simp only[go_sem,B];simp only[Dfn.cs,Sig.cs,dY,dD]at y h;generalize hS:s.setO p _=S at y h⊢;clear hS B;refine sI (aBI hd ?_) (by simp only[Dfn.cs,Sig.cs,dY,dD]);rw[O];simp only[go_sem,y];refine cF (aGe d.sig aB aB _ _ _ (λU r u Z=>?_));have z:=u.ob _ _ y;simp only[go_sem,z];refine tQ Z n ?_;rw[hn];simp only[go_sem,kZ,uY,mI];(refine aM λq M=>?_);simp only[go_sem,M];exact aG hk ((qO _ (aE U) M).trans (u.trans h))
theorem aON(hd:DfnC d)(hs:rO d=true)(hu:∀o,o∈d.sig.ops++d.sig.funs->o.name∈aAV (eD d)\/o.pieces.length≠0)(hk:KV s (.tuple [.nils,.int .i64 0])):Den cx 14 [.agg d.cs] KV Kp s:=by
 (refine aN func14 [0,1,2,3,4,5,7,10,21,22,23,24,37] ?_;simp only[go_sem,ntmps14,f14]);(refine aM λp hp=>?_);have M:(s.setO p (.cells 31 d.cs)).ge s:=bG hp (aE s);have O:(s.setO p (.cells 31 d.cs)).getO p=some (.cells 31 d.cs):=by rw[aL,aF rfl]
 simp only[go_sem,hp];simp only[Dfn.cs,Sig.cs,dY,dD]at O M;generalize hS:s.setO p _=S at O M⊢;clear hS hp;refine sI (aBI hd ?_) (by simp only[Dfn.cs,Sig.cs,dY,dD]);rw[hs];simp only[go_sem,O];have b5:(eD d).length<=4294967000:=pH (lO _) hd.pr;refine sI (aJg d (by rw[aCg];omega) hd.cl S _ _ ?_) (by simp only[Dfn.cs,Sig.cs,dY,dD]);rw[aCg];simp only[go_sem,O];refine aOj (eD d) hd.pr (λS2 b Z hb=>?_);have U:=Z.ob _ _ O;have b3:=Z.trans M;simp only[go_sem,U];have b0:[d.sig.ops,d.sig.funs].flatten=d.sig.ops++d.sig.funs:=by simp
 have b1:(d.sig.ops++d.sig.funs).length<=4294967000:=by rw[aH];exact hd.op
 refine aOv [d.sig.ops,d.sig.funs] (by rw[b0];omega) _ _ _ ?_;rw[b0];generalize d.sig.ops++d.sig.funs=L at hu b1;simp only[go_sem,U];refine Ex.loop (ι:=Nat) (λi=>[(1,.ptr p 0),(4,.mp b),(5,.nils),(21,.list none (L.map Opr.enc)),(22,.int .i64 (L.length:Nat)),(23,.int .i64 (i:Nat))]) (λ_=>S2) (λi=>i<=L.length) (λi=>L.length-i) 0 (aW _) ?_ (aE _) ?_
 .simp only[go_sem]
  try exact rfl
 .rintro i hi;refine aX (V:=[0,1,2,3,4,5,7,10,21,22,23,24,37]) _ _ _ _ ?_;simp only[go_sem]
  (apply aJ<;>intro h)<;>simp only[go_sem,h]
  .have u:i<L.length:=gQ h;clear h;obtain⟨x,hx⟩:=bB u;have b4:=hu x (bK hx);have B:=aDX MK.str (λx y e=>by cases e;rfl) x.name (aAV (eD d));have z:decide (((x.pieces.length:Nat):Int)=0)=decide (x.pieces.length=0):=by rw[cC];omega
   simp only[go_sem,hx,u];(refine cH λc hc=>?_);have f1:=aI hb (aS hc);have G:(S2.setO c (.cells 80 x.cs)).ge S2:=bG hc (aE S2);simp only[Opr.cs]at G;by_cases hm:x.name∈aAV (eD d)
   .rw[aF hm]at B;simp only[go_sem,hx,u,hc,f1,hb,B,z,lB];exact⟨i+1,u,by omega,aU i aB,G⟩
   .rw[aD hm]at B;have h0:decide (x.pieces.length=0)=false:=bR (b4.resolve_left hm);simp only[go_sem,hx,u,hc,f1,hb,B,z,h0,lB];exact⟨i+1,u,by omega,aU i aB,G⟩
  .have b2:=bQ hi h;subst b2;refine aF0 ?_;simp only[go_sem];exact aG hk b3
end
end
section
def xV:aC:=[108,97,110,103,117,97,103,101,32,115,117,109,115,46,32,115,111,114,116,32,69,120,112,44,32,80,103,109,46,32,115,117,98,115,111,114,116,32,73,110,116,32,60,32,69,120,112,46,32,115,117,98,115,111,114,116,32,69,120,112,32,60,32,80,103,109,46,32,118,97,108,117,101,32,73,110,116,46,32,111,112,32,112,108,117,115,32,58,32,69,120,112,32,34,43,34,32,69,120,112,32,45,62,32,69,120,112,32,112,114,101,99,32,53,32,108,101,102,116,32,115,116,114,105,99,116,40,49,44,32,50,41,46,32,99,101,108,108,32,107,32,58,32,76,105,115,116,32,61,32,91,36,93,46,32,115,116,97,114,116,32,80,103,109,46,32,119,97,116,99,104,32,107,46,32,114,117,108,101,32,97,100,100,32,58,32,107,32,58,32,91,112,108,117,115,40,88,58,73,110,116,44,32,89,58,73,110,116,41,32,124,32,75,93,32,61,62,32,91,97,100,100,40,88,58,73,110,116,44,32,89,58,73,110,116,41,32,124,32,75,93,46]
def aEQ:aC:=[108,97,110,103,117,97,103,101,32,101,46,32,102,117,110,32,102,32,58,32,73,110,116,32,45,62,32,73,110,116,46,32,108,101,116,32,102,40,88,58,73,110,116,41,32,61,32,89,58,73,110,116,46,32,115,116,97,114,116,32,73,110,116,46,32,99,101,108,108,32,107,32,58,32,65,110,121,32,61,32,36,46,32,119,97,116,99,104,32,107,46]
def aER:aC:=[108,97,110,103,117,97,103,101,32,101,46,32,115,116,97,114,116,32,73,110,116,46,32,99,101,108,108,32,107,32,58,32,73,110,116,32,61,32,36,46,32,119,97,116,99,104,32,99,46]
def aEI:aC:=[108,97,110,103,117,97,103,101]
def nT:Dfn:=(kU xV).1
theorem aVv:(kU xV).2=Fault.none:=by kernel_rfl
theorem aEC:sM nT=Fault.none:=by kernel_rfl
theorem aVy:(rR aEQ).2=⟨17,[89],1,33⟩:=by kernel_rfl
theorem aVF:(rR aER).2=⟨13,[99],0,0⟩:=by kernel_rfl
theorem aVu:(rR aEI).2.code=12:=by kernel_rfl
theorem aM4:eE nT.cs<=100000000:=jO (by kernel_rfl)
theorem aVE:rR xV=(nT,Fault.none):=by
 have h:(kU xV).2.code=0:=by rw[aVv];rfl
 have u:(sM (kU xV).1).code=0:=by rw[show(kU xV).1=nT from rfl,aEC];rfl
 unfold rR;rw[aF h,aF u,show(kU xV).1=nT from rfl,aEC]
theorem aVx:rO nT=true:=by unfold rO;rw[aEC];rfl
theorem aVw:eN nT.sig.funs [112,108,117,115]=none:=by kernel_rfl
theorem aVj:((nT.sig.ops++nT.sig.funs).all λo=>decide (o.name∈aAV (eD nT))||!decide (o.pieces.length=0))=true:=by kernel_rfl
theorem aU6:(nT.once[0]?).map Cel.name=some [107]:=by kernel_rfl
theorem aVe:eE (kU aEQ).1.cs<=100000000:=jO (by kernel_rfl)
theorem aVa:eE (kU aER).1.cs<=100000000:=jO (by kernel_rfl)
theorem aVm:eE (kU aEI).1.cs<=100000000:=jO (by kernel_rfl)
theorem aVs:DfnC nT:=aGh _ aM4
section
variable {s:St} {KV Kp:St->A->Prop}
theorem awR{x:aC}{d:Dfn}{g:Fault}(h:rR x=(d,g))(z:x.length<=4294967280)(u:eE (kU x).1.cs<=100000000)(y:KV s (.tuple [d.enc,g.enc])):Den cx 21 [.str x] KV Kp s :=
 aQS x z (aGh _ u) (by rw[h];exact y)
theorem aEz:List.lookup 36 [(36,[0,2,0,0]),(112,[2,2]),(218,[2,2])]=some [0,2,0,0]:=rfl
theorem aDS{T:St}{p q:Nat}(u:T.getO p=none)(h:(¬ p=q/\¬ q=p)/\T.getO q=none)(d:Dfn)(g:Fault):∃S,S=((((T.setO p (.cells 31 [.str [],.nils,.nils,.nils,.nils,.nils,.nils,.nils,.str [],.nils,.nils,.str [],.str []])).setO q (.cells 36 [.int .i64 0,.str [],.int .i64 0,.int .i64 0])).setO p (.cells 31 d.cs)).setO q (.cells 36 g.cs))/\S.ge T/\S.getO p=some (.cells 31 d.cs)/\S.getO q=some (.cells 36 g.cs) :=
 ⟨_,rfl,qO _ (qO _ (qO _ (qO _ (aE T) u) h.2) u) h.2,by rw[aL,aD h.1.2,aL,aF rfl],by rw[aL,aF rfl]⟩
theorem aI6(hk:KV s (.bool true)):Den cx 6 [] KV Kp s:=by
 obtain⟨d2,h2⟩:∃d,rR aEQ=(d,⟨17,[89],1,33⟩):=⟨_,Prod.ext rfl aVy⟩
 obtain⟨d3,h3⟩:∃d,rR aER=(d,⟨13,[99],0,0⟩):=⟨_,Prod.ext rfl aVF⟩
 obtain⟨d4,f4,h4,b4⟩:∃d f,rR aEI=(d,f)/\f.code=12:=⟨_,_,rfl,aVu⟩
 obtain⟨x0,b3,b6⟩:=tG.1 aU6
 have hu:∀o,o∈nT.sig.ops++nT.sig.funs->o.name∈aAV (eD nT)\/o.pieces.length≠0:=λo ho=>by
  have:=dE.1 aVj o ho;simpa using this
 (refine aN func6 [0,1,2,4,6,8,9,10,11,12,13,14,15,55] ?_;simp only[go_sem,ntmps6,Tryz.f6]);refine awR (x:=xV) aVE dM aM4 ?_;have hS:=aVs;have u:=aVx;have b2:=aVw;have b1:=aEC;generalize nT=d1 at b3 hu hS u b2 b1⊢;simp only[go_sem];(refine aM λp1 B=>?_);simp only[go_sem,B];(refine aM λp2 U=>?_);simp only[go_sem,B,U];obtain⟨S1,e1,u1,g1,g2⟩:=aDS B U d1 Fault.none;simp only[Dfn.cs,Sig.cs,Fault.cs,dY,dD]at e1 g1 g2;rw[<-e1];clear e1 B U;refine awR (x:=aEQ) h2 dM aVe ?_;simp only[go_sem];(refine aM λp3 G=>?_);simp only[go_sem,G];(refine aM λp4 Z=>?_);simp only[go_sem,G,Z];obtain⟨S2,e2,u2,g3,g4⟩:=aDS G Z d2 ⟨17,[89],1,33⟩;simp only[Dfn.cs,Sig.cs,Fault.cs,dY,dD]at e2 g3 g4;rw[<-e2];clear e2 G Z;refine awR (x:=aER) h3 dM aVa ?_;simp only[go_sem];(refine aM λp5 M=>?_);simp only[go_sem,M];(refine aM λp6 b0=>?_);simp only[go_sem,M,b0];obtain⟨S3,e3,u3,g5,g6⟩:=aDS M b0 d3 ⟨13,[99],0,0⟩;simp only[Dfn.cs,Sig.cs,Fault.cs,dY,dD]at e3 g5 g6;rw[<-e3];clear e3 M b0;refine awR (x:=aEI) h4 dM aVm ?_;simp only[go_sem];(refine aM λp7 h=>?_);simp only[go_sem,h];have z:=u3.ob _ _ (u2.ob _ _ g1);have k2:=u3.ob _ _ (u2.ob _ _ g2);have k4:=u3.ob _ _ g4;have n7:=aI z h;(refine aM λp8 O=>?_);have n8:=aI z O.2;simp only[go_sem,h,O,n7,n8,z];obtain⟨S4,e4,u4,g7,g8⟩:=aDS h O d4 f4;simp only[Dfn.cs,Sig.cs,Fault.cs,dY,dD]at e4 g7 g8;rw[<-e4];clear e4 h O;have z:=u4.ob _ _ z;have k2:=u4.ob _ _ k2;have k4:=u4.ob _ _ k4;have k6:=u4.ob _ _ g6;have b5:=u4.trans (u3.trans (u2.trans u1));refine sI (aPE hS u [112,108,117,115] b2 ?_) (by simp only[Dfn.cs,Sig.cs,dY,dD]);simp only[go_sem,z];refine sI (aON hS u hu ?_) (by simp only[Dfn.cs,Sig.cs,dY,dD]);simp only[go_sem,z];refine sI (aQx hS u [107] 0 x0 b3 b6 (λj y hj=>aB) ?_) (by simp only[Dfn.cs,Sig.cs,dY,dD]);simp only[go_sem,z,k2,aEz,Fault.none];refine sI (aBI hS ?_) (by simp only[Dfn.cs,Sig.cs,dY,dD]);rw[u];simp only[go_sem,z,k2,k4,k6,aEz,Fault.none];refine sI (aC8 hS ?_) (by simp only[Dfn.cs,Sig.cs,dY,dD]);rw[b1];have z0:((0:Nat):Int)=0:=rfl;simp only[go_sem,z,k2,k4,k6,g8,aEz,Fault.none,cT b4,z0];exact aG hk b5
end
end
theorem aRX(x:Dfn)(Z:zX x<=4294967296)(hS:x.sig.ops.length+x.sig.funs.length<=4294967296)(s:St)(KV Kp:St->A->Prop)(G:∀b:Bool,KV s (.bool b)):Den cx 5 [.agg x.cs] KV Kp s:=by
 refine hH λB=>?_
 have O:=B _ (cQ ..);have M:Rlz (.list none (x.rules.map Rul.enc)):=O.cell (by simp[Dfn.cs]);clear B;simp only[go_sem];(refine aN func5 [0,1,2,3,5,28,30,31,32,33,54] ?_;simp only[go_sem,ntmps5,Tryz.f5]);(refine aM λp u=>?_);simp only[go_sem,u]
 (apply aJ<;>intro h)<;>simp only[go_sem,h,u]
 .exact aG (G _) aR
 clear h;refine aRA x.sig hS _ _ _ (λb1=>?_);simp only[go_sem,u]
 (apply aJ<;>intro h)<;>simp only[go_sem,h,u]
 .exact aG (G _) aR
 clear h;generalize IntKind.i64.wrap (IntKind.i64.wrap (IntKind.i64.wrap ((x.eqs.length:Int)+(x.once.length:Int))+(x.many.length:Int))+(x.rules.length:Int))=n0
 refine Ex.loop (ι:=Int × Nat) (λc=>[(1,.ptr p 0),(3,.int .i64 c.1),(30,.list none (x.rules.map Rul.enc)),(31,.int .i64 x.rules.length),(32,.int .i64 (c.2:Nat))]) (λ_=>s.setO p (.cells 31 x.cs))
  (λc=>c.2<=x.rules.length) (λc=>x.rules.length-c.2) (n0,0) (aW _) ?_ (by exact aE _) ?_
 ·(simp only[go_sem,u];first|done|exact rfl|exact⟨rfl,rfl⟩)
 .rintro⟨l,i⟩ hi;simp only at hi;refine aX (V:=[0,1,2,3,5,28,30,31,32,33,54]) _ _ _ _ ?_;simp only[go_sem,u]
  (apply aJ<;>intro h)<;>simp only[go_sem,h,u]
  .have y:i<x.rules.length:=gQ h;obtain⟨e,U⟩:=bB y;clear h;simp only[go_sem,u,U,y];(refine aM λb5 z=>?_);simp only[go_sem,u,U,y,z]
   (apply aJ<;>intro h)<;>simp only[go_sem,h,u,z]
   .exact aG (G _) aR
   exact⟨(_,i+1),y,aQ,⟨rfl,M.wrap (i:=i) (gQ y)⟩,(gE (And.intro u z))⟩
  .clear h;refine aPM x Z _ _ _ (λxs=>?_);simp only[go_sem,u];refine aRW xs _ _ _ _ (λb2=>?_);simp only[go_sem,u];exact aG (G _) aR
section
section
variable {s:St} {KV Kp:St->A->Prop}
theorem aO8(d:Dfn)(hb:eE d.cs<=100000000)(hB:zX d<=4294967296)(hS:d.sig.ops.length+d.sig.funs.length<=4294967296)(O:KV s (.bool true)):Den cx 3 [.agg d.cs] KV Kp s:=by
 have z:=aRQ d hb;have M:(zK d).getD Fault.none=sM d:=by rw[aSu];rfl
 have Z:decide (((zK d).getD Fault.none).code=0)=rO d:=by rw[M];rfl
 (refine aN func3 [0,1,2,5] ?_;simp only[go_sem,ntmps3,Tryz.f3]);(refine aM λp U=>?_)
 (try simp only[go_sem,U])
 obtain⟨S,h,y,u⟩:=gZ s p (.cells 31 d.cs) (U)
 try simp only[go_sem]at u h
 rw[u];clear u
 (try simp only[go_sem,h])
 refine cF (aRX d hB hS _ _ _ (λb=>?_));cases b<;>(try simp only[go_sem,h])
 .refine aI6 ?_
  (try simp only[go_sem])
  exact aG O y
 (refine bD (OT.l [0,2,1,3,4,5,6,8,7,9,10,11,12,13,14,15] .nil) [(1,[2,6,8]),(3,[6,8]),(7,[8])] ?_;simp only[go_sem,h]);refine cF (aC8 z.cc ?_)
 (try simp only[go_sem,h])
 refine cF (aJz z ?_);rw[M]
 (try simp only[go_sem,h,aEz])
 refine cF (aBI z.cc ?_)
 (try simp only[go_sem,h])
 refine cF (aPX z ?_);rw[Z]
 (try simp only[go_sem,h])
 have B:(false == false)=true:=rfl;have G:(true == true)=true:=rfl;cases rO d<;>(try simp only[go_sem,h,B,G])
 all_goals
  refine aI6 ?_
  (try simp only[go_sem,h])
  exact aG O y
end
end
mutual
def A.ir:A->Prop
 | .int .i64 i=>-9223372036854775808<=i/\i<=9223372036854775807
 | .list _ es=>sS es
 | .agg cs=>sS cs
 | _=>True
def sS:List A->Prop
 | []=>True
 | a::r=>A.ir a/\sS r
end
theorem aMc{l r:List A}(h:sS l)(u:sS r):sS (l++r):=by
 induction l with
 | nil=>exact u
 | cons a l y=>exact⟨h.1,y h.2⟩
theorem aRn{a:A}(h:sS a.cells):a.ir:=by
 cases a<;>first|exact h.1|exact h
section
theorem aI2{H:Type}:∀l r:List (DataW H),YthaljojbclndaaaGreatDoor.Rows.uptoBulkAll (l++r)=YthaljojbclndaaaGreatDoor.Rows.uptoBulkAll l+YthaljojbclndaaaGreatDoor.Rows.uptoBulkAll r
 | [],r=>by simp[YthaljojbclndaaaGreatDoor.Rows.uptoBulkAll]
 | a::l,r=>by simp[YthaljojbclndaaaGreatDoor.Rows.uptoBulkAll,aI2 l r,nY]
mutual
def A.wm:A->Nat
 | .str x=>x.length
 | .list _ es=>max es.length (kW es)
 | .agg cs=>kW cs
 | _=>0
def kW:List A->Nat
 | []=>0
 | a::r=>max (A.wm a) (kW r)
end
theorem aPm(a:A):kW a.cells=a.wm:=by
 cases a<;>simp[A.cells,kW,A.wm]
theorem aGi:∀l r:List A,kW (l++r)=max (kW l) (kW r)
 | [],r=>by simp[kW]
 | a::l,r=>by simp[kW,aGi l r,Nat.max_assoc]
theorem aLi{H:Type}{P:Program}{e:TypeId}:∀l r:List (DataW H),DataW.weightsAll P e (l++r)=DataW.weightsAll P e l++DataW.weightsAll P e r
 | [],r=>by simp[DataW.weightsAll]
 | a::l,r=>by simp[DataW.weightsAll,aLi l r]
section
variable {H:Type} {enc:TypeId × Value->H} {P:Program} {W:World} {base:Nat} {spare:Nat->Bool} {held:Bool} {g:Gh}
def jE(g:Gh)(W:World):Prop:=∀b cs e fr,W.heap[b]?=some (.cells cs e fr)->g.pi b=some cs.toList
def Cl(g:Gh)(l:List A)(cs:List Value):Prop:=l.length=cs.length/\∀(j:Nat) (c:A) (v:Value),l[j]?=some c->cs[j]?=some v->Rz g c v
theorem Cl.nil:Cl g [] []:=⟨rfl,λj c v h=>by cases h⟩
theorem Cl.app{l r:List A}{cs z:List Value}(h:Cl g l cs)(B:Cl g r z):Cl g (l++r) (cs++z):=by
 refine⟨by rw[aH,aH,h.1,B.1],λj c v u y=>?_⟩;by_cases G:j<l.length
 .rw[kE G]at u;rw[kE (by rw[<-h.1];exact G)]at y;exact h.2 j c v u y
 .rw[sC aB]at u;rw[sC (by rw[<-h.1];omega),<-h.1]at y;exact B.2 _ c v u y
theorem Cl.one{a:A}{v:Value}(h:Rz g a v):Cl g [a] [v]:=⟨rfl,λj c w u y=>by
 cases j with
 | zero=>cases u;cases y;exact h
 | succ j=>cases u⟩
theorem aUn(S:ByteArray):Rz g (.str S.data.toList) (.string S):=by
 have h:=Rz.str (g:=g) S.data.toList;have e:(⟨S.data.toList.toArray⟩:ByteArray)=S:=by cases S;simp
 rw[e]at h;exact h
def fE(enc:TypeId × Value->H)(P:Program)(W:World)(base:Nat)(spare:Nat->Bool)(held:Bool)(g:Gh)(n:Nat)(t:TypeId)(Q:List A->Prop):Prop :=
 ∀h,h<=n->∀cs y,DataW.trod enc P W base spare held h t cs=some y->∃l,Q l/\cs.length=P.cellsOf t/\Cl g l cs/\(eE l+1<=YthaljojbclndaaaGreatDoor.Rows.uptoBulk y.1/\sS l)/\∀N,(∀n,n∈DataW.weights P t y.1->n<=N)->kW l<=N
def aCd(P:Program):Nat->List Field->Bool
 | _,[]=>true
 | o,f::r=>Nat.beq f.offset o&&aCd P (o+P.cellsOf f.type) r
def aAZ(P:Program):List Field->Nat
 | []=>0
 | f::r=>P.cellsOf f.type+aAZ P r
inductive Each:List (List A->Prop)->List (List A)->Prop
 | nil:Each [] []
 | cons {Q:List A->Prop} {l:List A} {Qs:List (List A->Prop)} {ls:List (List A)} (h:Q l) (t:Each Qs ls):Each (Q::Qs) (l::ls)
inductive OpQs (enc:TypeId × Value->H) (P:Program) (W:World) (base:Nat) (spare:Nat->Bool) (held:Bool) (g:Gh) (n:Nat):List Field->List (List A->Prop)->Prop
 | nil:OpQs enc P W base spare held g n [] []
 | cons {f:Field} {Q:List A->Prop} {fs:List Field} {Qs:List (List A->Prop)} (h:fE enc P W base spare held g n f.type Q) (t:OpQs enc P W base spare held g n fs Qs):OpQs enc P W base spare held g n (f::fs) (Q::Qs)
theorem aJo{n u:Nat}(hf:u<=n):∀{G:List Field} {Qs:List (List A->Prop)} {o:Nat} {cs:List Value} {xs:List (DataW H × List MemPlace)},OpQs enc P W base spare held g n G Qs->aCd P o G=true->cs.length=o+aAZ P G ->
  G.mapM (λf=>DataW.trod enc P W base spare held u f.type ((cs.drop f.offset).take (P.cellsOf f.type)))=some xs->∃M,Each Qs M/\Cl g M.flatten (cs.drop o)/\(eE M.flatten<=YthaljojbclndaaaGreatDoor.Rows.uptoBulkAll (xs.map (·.1))/\sS M.flatten)/\∀N,(∀n,n∈DataW.weightsEach P (G.map (·.type)) (xs.map (·.1))->n<=N)->kW M.flatten<=N
 | [],_,o,cs,xs,.nil,_,hl,_=>⟨[],.nil,by
   have:cs.drop o=[]:=dP (by simp only[aAZ]at hl;omega);rw[this];exact Cl.nil,⟨by simp[eE],trivial⟩,λN _=>by simp[kW]⟩
 | f::G,_,o,cs,xs,.cons h t,z,hl,B=>by
  simp only[aCd,bP]at z;obtain⟨ho,z⟩:=z
  replace ho:=sB ho
  rw[List.mapM_cons]at B;cases Z:DataW.trod enc P W base spare held u f.type ((cs.drop f.offset).take (P.cellsOf f.type))with
  | none=>rw[Z]at B;cases B
  | some y =>
   rw[Z]at B;cases h2:G.mapM (λf=>DataW.trod enc P W base spare held u f.type ((cs.drop f.offset).take (P.cellsOf f.type)))with
   | none=>rw[h2]at B;cases B
   | some ys =>
    rw[h2]at B;cases B;obtain⟨l,hQ,b2,hc,O,b0⟩:=h u hf _ _ Z;simp only[aAZ]at hl;obtain⟨M,hE,hcs,U,b1⟩:=aJo hf t z aB h2
    refine⟨l::M,.cons hQ hE,?_,⟨by have:=O.1;have:=U.1;rw[mB,vD,bX];simp only[YthaljojbclndaaaGreatDoor.Rows.uptoBulkAll];omega,by rw[mB];exact aMc O.2 U.2⟩,λN hN=>by
     rw[mB,aGi];simp only[bX,DataW.weightsEach,cK]at hN;exact Nat.max_le.2 ⟨b0 N (λn hn=>hN n (.inl hn)),b1 N (λn hn=>hN n (.inr hn))⟩⟩
    have e:cs.drop o=(cs.drop f.offset).take (P.cellsOf f.type)++cs.drop (o+P.cellsOf f.type):=by
     rw[ho,<-uZ,mQ]
    rw[e,mB];exact hc.app hcs
theorem aJL{n:Nat}{t:TypeId}{B:Array Field}{U:List (List A->Prop)}{Q:List A->Prop}(ht:P.underlying t=some (.struct B))(M:aCd P 0 B.toList=true)(b0:P.cellsOf t=aAZ P B.toList)
  (h:OpQs enc P W base spare held g n B.toList U)(hQ:∀G,Each U G->Q G.flatten):fE enc P W base spare held g (n+1) t Q:=by
 intro u hf cs y z;cases u with
 | zero=>cases z
 | succ u =>
  unfold DataW.trod at z;rw[ht]at z;simp only at z;split at z
  .rename_i hl;cases O:B.toList.mapM (λf=>DataW.trod enc P W base spare held u f.type ((cs.drop f.offset).take (P.cellsOf f.type)))with
   | none=>rw[O]at z;cases z
   | some xs =>
    rw[O]at z;cases z;obtain⟨G,hE,hc,Z,hw⟩:=aJo aB h M aB O;rw[aAh]at hc;exact⟨_,hQ G hE,hl,hc,⟨by have:=Z.1;simp only[YthaljojbclndaaaGreatDoor.Rows.uptoBulk];omega,Z.2⟩,λN hN=>hw N (λn hn=>hN n (by simp only[DataW.weights,ht];exact hn))⟩
  .cases z
theorem aUL{k:IntKind}{i:Int}(h:(Lit.int k i).wf=true):sS [.int k i]:=by
 cases k<;>refine⟨?_,trivial⟩<;>first|trivial|(simp only[Lit.wf,bP,bW]at h;exact h)
theorem aD2{n:Nat}{t:TypeId}{k:IntKind}(M:P.underlying t=some (.int k))(B:P.cellsOf t=1):fE enc P W base spare held g n t (λl=>∃i:Int,(Lit.int k i).wf=true/\l=[.int k i]):=by
 intro u O cs y h;cases u with
 | zero=>cases h
 | succ u =>
  unfold DataW.trod at h;rw[M]at h;simp only at h;split at h<;>try (cases h;done)
  all_goals (rename_i heq;try (cases heq;done))
  all_goals (cases heq;split at h<;>try (cases h;done))
  rename_i G;obtain⟨rfl,z⟩:=G;cases h;exact⟨_,⟨_,z,rfl⟩,B.symm,Cl.one (.int _ _),⟨by simp[eE,A.bulk,YthaljojbclndaaaGreatDoor.Rows.uptoBulk],aUL z⟩,λN _=>by simp[kW,A.wm]⟩
theorem aGQ{n:Nat}{t:TypeId}(M:P.underlying t=some .string)(B:P.cellsOf t=1):fE enc P W base spare held g n t (λl=>∃x:List UInt8,x.length<=maxLen/\l=[.str x]):=by
 intro u O cs y h;cases u with
 | zero=>cases h
 | succ u =>
  unfold DataW.trod at h;rw[M]at h;simp only at h;split at h<;>try (cases h;done)
  all_goals (rename_i heq;try (cases heq;done))
  all_goals (split at h<;>try (cases h;done))
  rename_i G;cases h
  exact⟨_,⟨_,gQ G,rfl⟩,B.symm,Cl.one (aUn _),⟨by simp[eE,A.bulk,YthaljojbclndaaaGreatDoor.Rows.uptoBulk],trivial,trivial⟩,λN z=>by
   simp only[DataW.weights,bO]at z;have:=z _ rfl;simpa [kW,A.wm]using this⟩
theorem aGs{α G:Type}{f:α->Option G}:∀{l:List α} {r:List G},l.mapM f=some r->r.length=l.length/\∀(j:Nat) (x:α),l[j]?=some x->∃y,r[j]?=some y/\f x=some y
 | [],r,h=>by
  rw[List.mapM_nil]at h;cases h;exact⟨rfl,λj x h=>by cases h⟩
 | a::l,r,h=>by
  rw[List.mapM_cons]at h;cases u:f a with
  | none=>rw[u]at h;cases h
  | some b =>
   rw[u]at h;cases z:l.mapM f with
   | none=>rw[z]at h;cases h
   | some bs =>
    rw[z]at h;cases h;obtain⟨hl,M⟩:=aGs z;refine⟨by simp[hl],λj x B=>?_⟩;cases j with
    | zero=>cases B;exact⟨b,rfl,u⟩
    | succ j=>exact M j x B
theorem aRN{a:Addr}{n:Nat}{cs:List Value}(h:W.cells? base a n=some cs):cs.length=n/\∀(j:Nat) (v:Value),cs[j]?=some v->W.cell? (a.add j)=some v:=by
 unfold World.cells? at h;split at h
 .obtain⟨hl,G⟩:=aGs h;rw[List.length_range]at hl;refine⟨hl,λj v z=>?_⟩;have M:j<n:=by rw[<-hl];exact(dZ.1 z).1
  obtain⟨y,u,B⟩:=G j j (by rw[List.getElem?_range M]);rw[z]at u;cases u;exact B
 .cases h
theorem aLA{a:Addr}{v:Value}(h:W.cell? a=some v):∃c e fr,W.heap[a.block]?=some (.cells c e fr)/\a.spot=none/\c.toList[a.off]?=some v:=by
 unfold World.cell? at h;split at h
 .rename_i c e fr u;split at h
  .cases h
  .rename_i y;refine⟨c,e,fr,u,gQ y,gQ h⟩
 .cases h
theorem aKs{α:Type}{n:Nat}{t e:TypeId}{en:α->A}{R:α->Prop}(ht:P.underlying t=some (.slice e))(hc:P.cellsOf t=1)(hk:jE g W)(h:fE enc P W base spare held g n e (λl=>∃x,R x/\l=(en x).cells))
  (b5:∀x,(en x).cells.length=P.cellsOf e)(h1:∀x c,c∈(en x).cells->c.one=true)(bb:0<P.cellsOf e)(bj:0<P.bytesOf e):fE enc P W base spare held g (n+1) t (λl=>∃xs:List α,(∀x,x∈xs->R x)/\xs.length<=maxLen/\l=[.list none (xs.map en)]):=by
 intro O hf cs y u
 have one:∀{v:Value} {xs:List α},Rz g (.list none (xs.map en)) v->Cl g [.list none (xs.map en)] [v]:=λhr=>⟨rfl,λj c v hc hv=>by
  cases j with
  | zero=>cases hc;cases hv;exact hr
  | succ j=>cases hc⟩
 cases O with
 | zero=>cases u
 | succ O =>
  unfold DataW.trod at u;rw[ht]at u;simp only at u;split at u<;>try (cases u;done)
  all_goals (rename_i heq;try (cases heq;done))
  .cases u;exact⟨_,⟨[],λx h=>(by cases h),aW _,rfl⟩,hc.symm,Cl.one (.list0 none none 0 (aW _) (λt h=>by cases h)),⟨by simp[eE,A.bulk,dX,YthaljojbclndaaaGreatDoor.Rows.uptoBulk],trivial,trivial⟩,λN _=>by simp[kW,A.wm]⟩
  .rename_i a len cap;cases heq;split at u<;>try (cases u;done)
   rename_i hh;obtain⟨hb,c6,b8⟩:=hh;cases hm:(List.range len).mapM (λi=>(W.cells? base (a.add (i * P.cellsOf e)) (P.cellsOf e)).bind (DataW.trod enc P W base spare held O e))with
   | none=>rw[hm]at u;cases u
   | some ys =>
    obtain⟨hl,hg⟩:=aGs hm;rw[List.length_range]at hl;rw[hm]at u;obtain⟨rest,_,rfl⟩:=tG.1 (show Option.map _ _=some y from u)
    have bl:∀i,i<len->∃(x:α) (cs:List Value) (y:DataW H × List MemPlace),ys[i]?=some y/\(((en x).bulk+1<=YthaljojbclndaaaGreatDoor.Rows.uptoBulk y.1/\(en x).ir)/\∀N,(∀n,n∈DataW.weights P e y.1->n<=N)->(en x).wm<=N)/\R x/\W.cells? base (a.add (i * P.cellsOf e)) (P.cellsOf e)=some cs/\Cl g (en x).cells cs:=by
     intro i G;obtain⟨y,bz,h2⟩:=hg i i (by rw[List.getElem?_range G]);cases hcs:W.cells? base (a.add (i * P.cellsOf e)) (P.cellsOf e)with
     | none=>rw[hcs]at h2;cases h2
     | some cs =>
      rw[hcs]at h2;obtain⟨_,⟨x,hx,rfl⟩,_,b4,hb,hw⟩:=h O aB cs y h2;rw[aN9]at hb;rw[aPm]at hw;exact⟨x,cs,y,bz,⟨⟨hb.1,aRn hb.2⟩,hw⟩,hx,rfl,b4⟩
    have bw:∀k,k<=len->∃xs:List α,(xs.length=k/\(dX (xs.map en)<=YthaljojbclndaaaGreatDoor.Rows.uptoBulkAll ((ys.take k).map (·.1))/\sS (xs.map en))/\∀N,(∀n,n∈DataW.weightsAll P e ((ys.take k).map (·.1))->n<=N)->kW (xs.map en)<=N)/\∀(i:Nat) (x:α),xs[i]?=some x->R x/\∃cs,W.cells? base (a.add (i * P.cellsOf e)) (P.cellsOf e)=some cs/\Cl g (en x).cells cs:=by
     intro k
     induction k with
     | zero=>exactλ_=>⟨[],⟨rfl,⟨by simp[dX],trivial⟩,λN _=>by simp[kW]⟩,λi x h=>by cases h⟩
     | succ k ih =>
      intro c5;obtain⟨xs,⟨h3,⟨c4,bn⟩,bq⟩,h4⟩:=ih aB;obtain⟨x,cs,y2,bh,⟨⟨c3,bm⟩,bp⟩,h5,h6,h7⟩:=bl k aB
      have b3:dX ((xs++[x]).map en)<=YthaljojbclndaaaGreatDoor.Rows.uptoBulkAll ((ys.take (k+1)).map (·.1)):=by
       rw[gJ,bh,bU,bU,aJr,aI2];simp only[bX,dL,dX,Option.toList,YthaljojbclndaaaGreatDoor.Rows.uptoBulkAll];omega
      refine⟨xs++[x],⟨by simp[h3],⟨b3,by rw[bU];exact aMc bn ⟨bm,trivial⟩⟩,λN hN=>?_⟩,λi z hz=>?_⟩
      .rw[gJ,bh,bU,aLi]at hN;simp only[cK,Option.toList,bX,dL,DataW.weightsAll,dK]at hN;rw[bU,aGi];refine Nat.max_le.2 ⟨bq N (λn hn=>hN n (.inl hn)),?_⟩;have:=bp N (λn hn=>hN n (.inr hn));simpa [kW]using this
      by_cases G:i<xs.length
      .rw[kE G]at hz;exact h4 i z hz
      .rw[sC aB]at hz
       have:i-xs.length=0:=by
        have:=(dZ.1 hz).1;simp at this;omega
       rw[this]at hz;cases hz;have:i=k:=by omega
       subst this;exact⟨h5,cs,h6,h7⟩
    obtain⟨xs,⟨bd,⟨bv,b1⟩,bg⟩,hx⟩:=bw len (bJ _)
    have b3:eE [.list none (xs.map en)]+1<=YthaljojbclndaaaGreatDoor.Rows.uptoBulk (DataW.slice (ys.map (·.1)) (rest.map (·.1))):=by
     rw[lZ aB]at bv;simp only[eE,A.bulk,YthaljojbclndaaaGreatDoor.Rows.uptoBulk];omega
    have br:∀N,(∀n,n∈DataW.weights P t (DataW.slice (ys.map (·.1)) (rest.map (·.1)))->n<=N)->kW [.list none (xs.map en)]<=N:=λN hN=>by
     simp only[DataW.weights,ht,dG,cK]at hN;rw[lZ aB]at bg;have h1:=bg N (λn hn=>hN n (.inr (.inl hn)));have h2:=hN _ (.inl rfl)
     have h3:xs.length<=((ys.map (·.1)).length+(rest.map (·.1)).length) * P.bytesOf e:=by
      rw[aO,aO];exact pH aB (Nat.le_mul_of_pos_right _ bj)
     simp only[kW,A.wm,aO];exact Nat.max_le.2 ⟨Nat.max_le.2 ⟨pH h3 h2,h1⟩,aW _⟩
    refine⟨_,⟨xs,λx hm=>?_,by omega,rfl⟩,hc.symm,Cl.one ?_,⟨b3,b1,trivial⟩,br⟩
    .obtain⟨i,G,rfl⟩:=kM hm;exact(hx i _ (dI G)).1
    .by_cases h0:len=0
     .subst h0;have:xs=[]:=eS bd;subst this;exact .list0 none (some a) cap b8 (λt h=>by cases h)
     .have M:∀(i:Nat) (x:α) (j:Nat) (c:A),xs[i]?=some x->(en x).cells[j]?=some c->∃v,W.cell? ((a.add (i * P.cellsOf e)).add j)=some v/\Rz g c v:=by
       intro i x j c G hj;obtain⟨_,cs,h6,h7⟩:=hx i x G;obtain⟨_,h8⟩:=aRN h6;have b9:j<cs.length:=by rw[<-h7.1];exact(dZ.1 hj).1
       exact⟨_,h8 j _ (dI b9),h7.2 j c _ hj (dI b9)⟩
      obtain⟨x0,bt⟩:∃x,xs[0]?=some x:=⟨_,dI aB⟩
      obtain⟨c0,bk⟩:∃c,(en x0).cells[0]?=some c:=⟨_,dI (by rw[b5];exact bb)⟩
      obtain⟨v0,bc,_⟩:=M 0 x0 0 c0 bt bk;have ea:(a.add (0 * P.cellsOf e)).add 0=a:=by simp[Addr.add]
      rw[ea]at bc;obtain⟨cc,ee,fr,B,b0,_⟩:=aLA bc;obtain⟨b,off,c1⟩:=a;simp only at b0 B;subst b0
      have b6:∀i j,((⟨b,off,none⟩:Addr).add (i * P.cellsOf e)).add j=⟨b,off+i * P.cellsOf e+j,none⟩:=by
       intro i j;unfold Addr.add;by_cases h1:i * P.cellsOf e=0<;>by_cases h2:j=0<;>simp[h1,h2]
      have pre:∀(i:Nat) (x:α) (j:Nat) (c:A),xs[i]?=some x->(en x).cells[j]?=some c->∃v,cc.toList[off+i * P.cellsOf e+j]?=some v/\Rz g c v:=by
       intro i x j c G hj;obtain⟨v,h8,h9⟩:=M i x j c G hj;rw[b6]at h8;obtain⟨c2,e2,f2,b2,_,b7⟩:=aLA h8;simp only at b2 b7;rw[B]at b2;cases b2;exact⟨v,b7,h9⟩
      have Z:(xs.map en).length=len:=by rw[aO,bd]
      have U:=Rz.list (g:=g) none (xs.map en) b off (P.cellsOf e) cap cc.toList (hk b cc ee fr B) (by
       rw[Z];obtain⟨xl,bf⟩:∃x,xs[len-1]?=some x:=⟨_,dI aB⟩
       obtain⟨cl,b4⟩:∃c,(en xl).cells[P.cellsOf e-1]?=some c:=⟨_,dI (by rw[b5];omega)⟩
       obtain⟨v,hv,_⟩:=pre (len-1) xl (P.cellsOf e-1) cl bf b4;have:=(dZ.1 hv).1
       have e3:(len-1) * P.cellsOf e+P.cellsOf e=len * P.cellsOf e:=by
        rw[<-Nat.succ_mul];congr 1;omega
       omega) aB b8
       (fun y u => by
        obtain⟨x,_,rfl⟩:=cN.1 u;exact b5 x)
       (fun y u => by
        obtain⟨x,_,rfl⟩:=cN.1 u;exact h1 x)
       (fun i y j c v G hj hv => by
        rw[nH]at G;cases b1:xs[i]? with
        | none=>rw[b1]at G;cases G
        | some x =>
         rw[b1]at G;cases G;obtain⟨w,hw,hr⟩:=pre i x j c b1 hj;rw[hv]at hw;cases hw;exact hr)
       (λt h=>by cases h)
      rw[Z]at U;exact U
end
end
section
section
variable {H:Type} {enc:TypeId × Value->H} {P:Program} {W W':World} {base:Nat} {spare:Nat->Bool} {held:Bool}
def Old(W W':World):Prop:=∀k,k<W.heap.size->W'.heap[k]?=W.heap[k]?
theorem Old.get(h:Old W W'){b:Nat}{o:Obj}(u:W.heap[b]?=some o):W'.heap[b]?=some o:=by
 rw[h b (iW.1 u).1];exact u
theorem Old.cell(h:Old W W'){a:Addr}{v:Value}(u:W.cell? a=some v):W'.cell? a=some v:=by
 unfold World.cell? at u⊢;split at u
 .rename_i c e fr y;rw[h.get y];exact u
 .cases u
theorem yW{α M:Type}{f G:α->Option M}(h:∀x y,f x=some y->G x=some y):∀{l:List α} {r:List M},l.mapM f=some r->l.mapM G=some r
 | [],r,u=>u
 | a::l,r,u=>by
  rw[List.mapM_cons]at u⊢;cases z:f a with
  | none=>rw[z]at u;cases u
  | some b =>
   rw[z]at u;cases B:l.mapM f with
   | none=>rw[B]at u;cases u
   | some bs =>
    rw[B]at u;rw[h a b z,yW h B];exact u
theorem aDK{α G:Type}{x B:Option α}{k z:α->Option G}{y:G}(O:∀a,x=some a->B=some a)(M:∀a y,k a=some y->z a=some y)(h:x.bind k=some y):B.bind z=some y:=by
 cases u:x with
 | none=>rw[u]at h;cases h
 | some a=>rw[u]at h;rw[O a u];exact M a y h
theorem aAJ{α B:Type}{x z:Option α}{k:α->B}{y:B}(G:∀a,x=some a->z=some a)(h:x.map k=some y):z.map k=some y:=by
 cases u:x with
 | none=>rw[u]at h;cases h
 | some a=>rw[u]at h;rw[G a u];exact h
theorem Old.cells(h:Old W W'){a:Addr}{n:Nat}{cs:List Value}(u:W.cells? base a n=some cs):W'.cells? base a n=some cs:=by
 unfold World.cells? at u⊢;split at u
 .rename_i z;rw[aF z];exact yW (λx y=>h.cell) u
 .cases u
theorem aJ9(h:Old W W'):∀(B:Nat) (t:TypeId) (cs:List Value) (x:DataW H × List MemPlace),DataW.trod enc P W base spare held B t cs=some x->DataW.trod enc P W' base spare held B t cs=some x
 | 0,t,cs,x,u=>by cases u
 | B+1,t,cs,x,u=>by
  have M:=aJ9 h B
  have U:∀(e:TypeId) (a:Addr) (n:Nat) (y:DataW H × List MemPlace),(W.cells? base a n).bind (DataW.trod enc P W base spare held B e)=some y->(W'.cells? base a n).bind (DataW.trod enc P W' base spare held B e)=some y :=
   λe a n y=>aDK (λcs=>h.cells) (λcs y=>M e cs y)
  unfold DataW.trod at u⊢;split at u<;>(try simp only at u⊢)<;>(try exact u)
  case h_6=>exact aAJ (λy=>U _ _ _ y) u
  case h_8 =>
   split at u
   .rename_i G;rw[aF G];refine aDK (λy=>yW (λi y=>U _ _ _ y)) (λZ y=>aAJ (λr hr=>?_)) u;split at hr
    .rename_i hs;rw[aF hs];exact yW (λi y=>U _ _ _ y) hr
    .rename_i hs;rw[aD hs];exact hr
   .cases u
  case h_9 =>
   split at u
   .rename_i G;rw[aF G];exact aAJ (λy=>yW (λf y=>M _ _ y)) u
   .cases u
  case h_10 =>
   split at u
   .rename_i G;rw[aF G];exact aAJ (λy=>yW (λf y=>M _ _ y)) u
   .cases u
  case h_12 =>
   split at u<;>(try simp only at u⊢)<;>(try exact u)
   exact aAJ (λy=>M _ _ y) u
  case h_14 =>
   split at u
   .rename_i es O hb;rw[h.get hb];simp only;split at u
    .rename_i G;rw[aF G];refine aDK (λy=>yW (λf y=>aDK (λk hk=>hk) (λk z hz=>?_))) (λa y hy=>hy) u;split at hz
     .rename_i hf;simp only[hf,dF];exact aAJ (λy=>M _ _ y) hz
     .cases hz
    .cases u
   .cases u
theorem aIO(h:Old W W'):∀{ts:List TypeId} {vs:List Value} {z:List (DataW H)} {y:List MemPlace},DataW.TrodAll enc P W base spare held ts vs z y->DataW.TrodAll enc P W' base spare held ts vs z y
 | [],[],[],y,M=>M
 | t::ts,v::vs,d::z,y,⟨p,q,⟨u,G⟩,B,e⟩=>⟨p,q,⟨u,aJ9 h _ _ _ _ G⟩,aIO h B,e⟩
end
end
section
section
variable {H:Type} {enc:TypeId × Value->H} {W:World} {base:Nat} {spare:Nat->Bool} {held:Bool} {g:Gh}
theorem aDM{P:Program}{t:TypeId}{Q:List A->Prop}:fE enc P W base spare held g 0 t Q:=λh z cs y u=>by
 obtain rfl:h=0:=by omega
 cases u
theorem oJ{P:Program}{n:Nat}{t:TypeId}{Q R:List A->Prop}(h:fE enc P W base spare held g n t Q)(M:∀l,Q l->R l):fE enc P W base spare held g n t R:=λu G cs y O=>by
 obtain⟨l,z,B⟩:=h u G cs y O;exact⟨l,M l z,B⟩
theorem aUh(x:Tm):x.enc.cells.length=6:=by rw[cY];rfl
theorem aUX(x:Tm):∀c,c∈x.enc.cells->c.one=true:=by
 rw[cY];intro c h;simp only[A.cells,Tm.cs,dG,nI,eJ]at h;rcases h with rfl|rfl|rfl|rfl|rfl|rfl<;>rfl
theorem aHa(z:jE g W):∀n,fE enc prog W base spare held g n 67 (λl=>∃x:Tm,True/\l=x.enc.cells) /\
  fE enc prog W base spare held g n 47 (λl=>∃xs:List Tm,(∀x,x∈xs->True)/\xs.length<=maxLen/\l=[.list none (xs.map Tm.enc)])
 | 0=>⟨aDM,aDM⟩
 | n+1=>by
  obtain⟨B,u⟩:=aHa z n;refine⟨?_,aKs underlying47 (by kernel_rfl) z B (λx=>(aUh x).trans (by kernel_rfl)) aUX (by rw[show prog.cellsOf 67=6 by kernel_rfl];omega) (jO (by kernel_rfl))⟩;refine aJL underlying67 (by kernel_rfl) (by kernel_rfl) (.cons (aD2 underlying65 (by kernel_rfl)) (.cons (aD2 underlying3 (by kernel_rfl)) (.cons (aGQ underlying9 (by kernel_rfl)) (.cons (aGQ underlying9 (by kernel_rfl)) (.cons u (.cons u .nil)))))) ?_
  .intro ls h;cases h with|cons G h =>
   cases h with|cons M h =>
   cases h with|cons O h =>
   cases h with|cons U h =>
   cases h with|cons Z h =>
   cases h with|cons q6 h =>
   cases h;obtain⟨k,_,rfl⟩:=G;obtain⟨m,_,rfl⟩:=M;obtain⟨x,_,rfl⟩:=O;obtain⟨y,_,rfl⟩:=U;obtain⟨a,_,_,rfl⟩:=Z;obtain⟨b,_,_,rfl⟩:=q6;exact⟨.mk k m x y a b,trivial,by rw[cY];rfl⟩
end
end
section
section
variable {H:Type} {enc:TypeId × Value->H} {W:World} {base:Nat} {spare:Nat->Bool} {held:Bool} {g:Gh}
theorem tN{P:Program}{α:Type}{t e:TypeId}{en:α->A}(O:P.underlying t=some (.slice e))(G:P.cellsOf t=1)(M:jE g W)(h:∀n,fE enc P W base spare held g n e (λl=>∃x,l=(en x).cells))
  (z:∀x,(en x).cells.length=P.cellsOf e)(B:∀x c,c∈(en x).cells->c.one=true)(u:0<P.cellsOf e)(y:0<P.bytesOf e):∀n,fE enc P W base spare held g n t (λl=>∃xs:List α,l=[.list none (xs.map en)])
 | 0=>aDM
 | n+1=>oJ (aKs (R:=λ_=>True) O G M (oJ (h n) (λl ⟨x,e⟩=>⟨x,trivial,e⟩)) z B u y) (λl ⟨xs,_,_,e⟩=>⟨xs,e⟩)
theorem tM{P:Program}{t:TypeId}{u:Array Field}{B:List (List A->Prop)}{Q:List A->Prop}(O:P.underlying t=some (.struct u))(y:aCd P 0 u.toList=true)(z:P.cellsOf t=aAZ P u.toList)
  (h:∀n,OpQs enc P W base spare held g n u.toList B)(M:∀G,Each B G->Q G.flatten):∀n,fE enc P W base spare held g n t Q
 | 0=>aDM
 | n+1=>aJL O y z (h n) M
theorem tU(n:Nat):fE enc prog W base spare held g n 3 (λl=>∃i:Int,l=[.int .i64 i]):=oJ (aD2 underlying3 (by kernel_rfl)) (λl ⟨i,_,e⟩=>⟨i,e⟩)
theorem aSt(n:Nat):fE enc prog W base spare held g n 77 (λl=>∃i:Int,l=[.int .i64 i]):=oJ (aD2 underlying77 (by kernel_rfl)) (λl ⟨i,_,e⟩=>⟨i,e⟩)
theorem nQ(n:Nat):fE enc prog W base spare held g n 9 (λl=>∃x:List UInt8,l=[.str x]):=oJ (aGQ underlying9 (by kernel_rfl)) (λl ⟨i,_,e⟩=>⟨i,e⟩)
theorem aEu(h:jE g W)(n:Nat):fE enc prog W base spare held g n 67 (λl=>∃x:Tm,l=x.cs):=oJ (aHa h n).1 (λl ⟨x,_,e⟩=>⟨x,by rw[e,cY];rfl⟩)
theorem aD5(h:jE g W)(n:Nat):fE enc prog W base spare held g n 47 (λl=>∃xs:List Tm,l=[.list none (xs.map Tm.enc)]):=oJ (aHa h n).2 (λl ⟨x,_,_,e⟩=>⟨x,e⟩)
theorem aDY(u:jE g W):∀n,fE enc prog W base spare held g n 22 (λl=>∃xs:List (List UInt8),l=[.list none (xs.map .str)]) :=
 tN underlying22 (by kernel_rfl) u nQ (λx=>(by kernel_rfl:1=prog.cellsOf 9)) (λx c h=>by simp only[A.cells,bO]at h;subst h;rfl) (by rw[show prog.cellsOf 9=1 by kernel_rfl];omega) (jO (by kernel_rfl))
theorem aT5(u:jE g W):∀n,fE enc prog W base spare held g n 78 (λl=>∃xs:List Int,l=[.list none (xs.map (.int .i64))]) :=
 tN underlying78 (by kernel_rfl) u tU (λx=>(by kernel_rfl:1=prog.cellsOf 3)) (λx c h=>by simp only[A.cells,bO]at h;subst h;rfl) (by rw[show prog.cellsOf 3=1 by kernel_rfl];omega) (jO (by kernel_rfl))
theorem aTc(n:Nat):fE enc prog W base spare held g n 112 (λl=>∃x:Below,l=x.cs) :=
 tM underlying112 (by kernel_rfl) (by kernel_rfl) (λn=>.cons (nQ n) (.cons (nQ n) .nil)) (λz h=>by
  cases h with|cons u h =>
  cases h with|cons y h =>
  cases h;obtain⟨a,rfl⟩:=u;obtain⟨b,rfl⟩:=y;exact⟨⟨a,b⟩,rfl⟩) n
theorem aS7(n:Nat):fE enc prog W base spare held g n 218 (λl=>∃x:Piece,l=x.cs) :=
 tM underlying218 (by kernel_rfl) (by kernel_rfl) (λn=>.cons (nQ n) (.cons (nQ n) .nil)) (λz h=>by
  cases h with|cons u h =>
  cases h with|cons y h =>
  cases h;obtain⟨a,rfl⟩:=u;obtain⟨b,rfl⟩:=y;exact⟨⟨a,b⟩,rfl⟩) n
end
end
section
section
variable {H:Type} {enc:TypeId × Value->H} {W:World} {base:Nat} {spare:Nat->Bool} {held:Bool} {g:Gh}
theorem aGN(x:Tm):∀c,c∈x.cs->c.one=true:=by
 intro c h;simp only[Tm.cs,dG,nI,eJ]at h;rcases h with rfl|rfl|rfl|rfl|rfl|rfl<;>rfl
theorem aRt(x:Below):∀c,c∈x.enc.cells->c.one=true:=by
  intro c h;simp only[Below.enc,A.cells,Below.cs,dG,nI,eJ]at h
  repeat' (first|(subst h;rfl)|(rcases h with h|h))
theorem aRm(h:jE g W):∀n,fE enc prog W base spare held g n 23 (λl=>∃xs:List Below,l=[.list none (xs.map Below.enc)]) :=
 tN underlying23 (by kernel_rfl) h (λn=>oJ (aTc n) (λl ⟨x,e⟩=>⟨x,e⟩)) (λx=>(show x.enc.cells.length=2 from rfl).trans (by kernel_rfl)) aRt (by rw[show prog.cellsOf 112=2 by kernel_rfl];omega) (jO (by kernel_rfl))
theorem aRx(x:Piece):∀c,c∈x.enc.cells->c.one=true:=by
  intro c h;simp only[Piece.enc,A.cells,Piece.cs,dG,nI,eJ]at h
  repeat' (first|(subst h;rfl)|(rcases h with h|h))
theorem aRR(h:jE g W):∀n,fE enc prog W base spare held g n 76 (λl=>∃xs:List Piece,l=[.list none (xs.map Piece.enc)]) :=
 tN underlying76 (by kernel_rfl) h (λn=>oJ (aS7 n) (λl ⟨x,e⟩=>⟨x,e⟩)) (λx=>(show x.enc.cells.length=2 from rfl).trans (by kernel_rfl)) aRx (by rw[show prog.cellsOf 218=2 by kernel_rfl];omega) (jO (by kernel_rfl))
theorem aUM(u:jE g W)(n:Nat):fE enc prog W base spare held g n 80 (λl=>∃x:Opr,l=x.cs) :=
 tM underlying80 (by kernel_rfl) (by kernel_rfl) (λn=>.cons (nQ n) (.cons (aDY u n) (.cons (nQ n) (.cons (aRR u n) (.cons (tU n) (.cons (aSt n) (.cons (aT5 u n) .nil))))))) (λls h=>by
  cases h with|cons B h =>
  cases h with|cons G h =>
  cases h with|cons M h =>
  cases h with|cons O h =>
  cases h with|cons U h =>
  cases h with|cons Z h =>
  cases h with|cons q6 h =>
  cases h;obtain⟨a0,rfl⟩:=B;obtain⟨y,rfl⟩:=G;obtain⟨a2,rfl⟩:=M;obtain⟨a3,rfl⟩:=O;obtain⟨a4,rfl⟩:=U;obtain⟨a5,rfl⟩:=Z;obtain⟨z,rfl⟩:=q6;exact⟨⟨a0,y,a2,a3,a4,a5,z⟩,by simp only[Opr.cs,mB,pB,dK,dY,dD]⟩) n
theorem aTI(x:Opr):∀c,c∈x.enc.cells->c.one=true:=by
  intro c h;simp only[Opr.enc,A.cells,Opr.cs,dG,nI,eJ]at h
  repeat' (first|(subst h;rfl)|(rcases h with h|h))
theorem aLW(h:jE g W):∀n,fE enc prog W base spare held g n 24 (λl=>∃xs:List Opr,l=[.list none (xs.map Opr.enc)]) :=
 tN underlying24 (by kernel_rfl) h (λn=>oJ (aUM h n) (λl ⟨x,e⟩=>⟨x,e⟩)) (λx=>(show x.enc.cells.length=7 from rfl).trans (by kernel_rfl)) aTI (by rw[show prog.cellsOf 80=7 by kernel_rfl];omega) (jO (by kernel_rfl))
theorem aUz(u:jE g W)(n:Nat):fE enc prog W base spare held g n 26 (λl=>∃x:Sig,l=x.cs) :=
 tM underlying26 (by kernel_rfl) (by kernel_rfl) (λn=>.cons (aDY u n) (.cons (aRm u n) (.cons (aLW u n) (.cons (aLW u n) (.cons (aDY u n) .nil))))) (λU h=>by
  cases h with|cons z h =>
  cases h with|cons B h =>
  cases h with|cons G h =>
  cases h with|cons M h =>
  cases h with|cons O h =>
  cases h;obtain⟨a0,rfl⟩:=z;obtain⟨y,rfl⟩:=B;obtain⟨a2,rfl⟩:=G;obtain⟨a3,rfl⟩:=M;obtain⟨a4,rfl⟩:=O;exact⟨⟨a0,y,a2,a3,a4⟩,by simp only[Sig.cs,mB,pB,dK,dY,dD]⟩) n
theorem aU1(u:jE g W)(n:Nat):fE enc prog W base spare held g n 69 (λl=>∃x:Eqn,l=x.cs) :=
 tM underlying69 (by kernel_rfl) (by kernel_rfl) (λn=>.cons (aEu u n) (.cons (aEu u n) (.cons (aD5 u n) (.cons (tU n) (.cons (tU n) .nil))))) (λU h=>by
  cases h with|cons z h =>
  cases h with|cons B h =>
  cases h with|cons G h =>
  cases h with|cons M h =>
  cases h with|cons O h =>
  cases h;obtain⟨a0,rfl⟩:=z;obtain⟨y,rfl⟩:=B;obtain⟨a2,rfl⟩:=G;obtain⟨a3,rfl⟩:=M;obtain⟨a4,rfl⟩:=O;exact⟨⟨a0,y,a2,a3,a4⟩,by simp only[Eqn.cs,mB,pB,dK,dY,dD]⟩) n
theorem aUg(x:Eqn):∀c,c∈x.enc.cells->c.one=true:=by
  intro c h;simp only[Eqn.enc,A.cells,Eqn.cs,cK,dG,nI,eJ]at h
  repeat' (first|(subst h;rfl)|exact aGN _ c h|(rcases h with h|h))
theorem aTD(h:jE g W):∀n,fE enc prog W base spare held g n 27 (λl=>∃xs:List Eqn,l=[.list none (xs.map Eqn.enc)]) :=
 tN underlying27 (by kernel_rfl) h (λn=>oJ (aU1 h n) (λl ⟨x,e⟩=>⟨x,e⟩)) (λx=>(show x.enc.cells.length=15 from rfl).trans (by kernel_rfl)) aUg (by rw[show prog.cellsOf 69=15 by kernel_rfl];omega) (jO (by kernel_rfl))
theorem aUD(y:jE g W)(n:Nat):fE enc prog W base spare held g n 96 (λl=>∃x:Cel,l=x.cs) :=
 tM underlying96 (by kernel_rfl) (by kernel_rfl) (λn=>.cons (nQ n) (.cons (nQ n) (.cons (aEu y n) (.cons (tU n) (.cons (tU n) .nil))))) (λU h=>by
  cases h with|cons z h =>
  cases h with|cons B h =>
  cases h with|cons G h =>
  cases h with|cons M h =>
  cases h with|cons O h =>
  cases h;obtain⟨a0,rfl⟩:=z;obtain⟨u,rfl⟩:=B;obtain⟨a2,rfl⟩:=G;obtain⟨a3,rfl⟩:=M;obtain⟨a4,rfl⟩:=O;exact⟨⟨a0,u,a2,a3,a4⟩,by simp only[Cel.cs,mB,pB,dK,dY,dD]⟩) n
theorem aTt(x:Cel):∀c,c∈x.enc.cells->c.one=true:=by
  intro c h;simp only[Cel.enc,A.cells,Cel.cs,cK,dG,nI,eJ]at h
  repeat' (first|(subst h;rfl)|exact aGN _ c h|(rcases h with h|h))
theorem aL6(h:jE g W):∀n,fE enc prog W base spare held g n 28 (λl=>∃xs:List Cel,l=[.list none (xs.map Cel.enc)]) :=
 tN underlying28 (by kernel_rfl) h (λn=>oJ (aUD h n) (λl ⟨x,e⟩=>⟨x,e⟩)) (λx=>(show x.enc.cells.length=10 from rfl).trans (by kernel_rfl)) aTt (by rw[show prog.cellsOf 96=10 by kernel_rfl];omega) (jO (by kernel_rfl))
theorem aTG(u:jE g W)(n:Nat):fE enc prog W base spare held g n 101 (λl=>∃x:Part,l=x.cs) :=
 tM underlying101 (by kernel_rfl) (by kernel_rfl) (λn=>.cons (nQ n) (.cons (nQ n) (.cons (aEu u n) (.cons (aD5 u n) (.cons (tU n) (.cons (tU n) .nil)))))) (λZ h=>by
  cases h with|cons z h =>
  cases h with|cons B h =>
  cases h with|cons G h =>
  cases h with|cons M h =>
  cases h with|cons O h =>
  cases h with|cons U h =>
  cases h;obtain⟨a0,rfl⟩:=z;obtain⟨y,rfl⟩:=B;obtain⟨a2,rfl⟩:=G;obtain⟨a3,rfl⟩:=M;obtain⟨a4,rfl⟩:=O;obtain⟨a5,rfl⟩:=U;exact⟨⟨a0,y,a2,a3,a4,a5⟩,by simp only[Part.cs,mB,pB,dK,dY,dD]⟩) n
theorem aTm(x:Part):∀c,c∈x.enc.cells->c.one=true:=by
  intro c h;simp only[Part.enc,A.cells,Part.cs,cK,dG,nI,eJ]at h
  repeat' (first|(subst h;rfl)|exact aGN _ c h|(rcases h with h|h))
theorem aSJ(h:jE g W):∀n,fE enc prog W base spare held g n 46 (λl=>∃xs:List Part,l=[.list none (xs.map Part.enc)]) :=
 tN underlying46 (by kernel_rfl) h (λn=>oJ (aTG h n) (λl ⟨x,e⟩=>⟨x,e⟩)) (λx=>(show x.enc.cells.length=11 from rfl).trans (by kernel_rfl)) aTm (by rw[show prog.cellsOf 101=11 by kernel_rfl];omega) (jO (by kernel_rfl))
theorem aSk(u:jE g W)(n:Nat):fE enc prog W base spare held g n 103 (λl=>∃x:Fresh,l=x.cs) :=
 tM underlying103 (by kernel_rfl) (by kernel_rfl) (λn=>.cons (aD5 u n) .nil) (λz h=>by
  cases h with|cons y h =>
  cases h;obtain⟨a0,rfl⟩:=y;exact⟨⟨a0⟩,by simp only[Fresh.cs,mB,pB,dK,dY,dD]⟩) n
theorem aRj(x:Fresh):∀c,c∈x.enc.cells->c.one=true:=by
  intro c h;simp only[Fresh.enc,A.cells,Fresh.cs,dG,nI,eJ]at h
  repeat' (first|(subst h;rfl)|(rcases h with h|h))
theorem aRE(h:jE g W):∀n,fE enc prog W base spare held g n 48 (λl=>∃xs:List Fresh,l=[.list none (xs.map Fresh.enc)]) :=
 tN underlying48 (by kernel_rfl) h (λn=>oJ (aSk h n) (λl ⟨x,e⟩=>⟨x,e⟩)) (λx=>(show x.enc.cells.length=1 from rfl).trans (by kernel_rfl)) aRj (by rw[show prog.cellsOf 103=1 by kernel_rfl];omega) (jO (by kernel_rfl))
theorem aUC(u:jE g W)(n:Nat):fE enc prog W base spare held g n 50 (λl=>∃x:Rul,l=x.cs) :=
 tM underlying50 (by kernel_rfl) (by kernel_rfl) (λn=>.cons (nQ n) (.cons (aSJ u n) (.cons (aD5 u n) (.cons (aRE u n) (.cons (aDY u n) (.cons (tU n) (.cons (tU n) .nil))))))) (λls h=>by
  cases h with|cons B h =>
  cases h with|cons G h =>
  cases h with|cons M h =>
  cases h with|cons O h =>
  cases h with|cons U h =>
  cases h with|cons Z h =>
  cases h with|cons q6 h =>
  cases h;obtain⟨a0,rfl⟩:=B;obtain⟨y,rfl⟩:=G;obtain⟨a2,rfl⟩:=M;obtain⟨a3,rfl⟩:=O;obtain⟨a4,rfl⟩:=U;obtain⟨a5,rfl⟩:=Z;obtain⟨z,rfl⟩:=q6;exact⟨⟨a0,y,a2,a3,a4,a5,z⟩,by simp only[Rul.cs,mB,pB,dK,dY,dD]⟩) n
theorem aTR(x:Rul):∀c,c∈x.enc.cells->c.one=true:=by
  intro c h;simp only[Rul.enc,A.cells,Rul.cs,dG,nI,eJ]at h
  repeat' (first|(subst h;rfl)|(rcases h with h|h))
theorem aTv(h:jE g W):∀n,fE enc prog W base spare held g n 29 (λl=>∃xs:List Rul,l=[.list none (xs.map Rul.enc)]) :=
 tN underlying29 (by kernel_rfl) h (λn=>oJ (aUC h n) (λl ⟨x,e⟩=>⟨x,e⟩)) (λx=>(show x.enc.cells.length=7 from rfl).trans (by kernel_rfl)) aTR (by rw[show prog.cellsOf 50=7 by kernel_rfl];omega) (jO (by kernel_rfl))
theorem aUE(u:jE g W)(n:Nat):fE enc prog W base spare held g n 31 (λl=>∃x:Dfn,l=x.cs) :=
 tM underlying31 (by kernel_rfl) (by kernel_rfl) (λn=>.cons (nQ n) (.cons (aUz u n) (.cons (aTD u n) (.cons (aL6 u n) (.cons (nQ n) (.cons (aL6 u n) (.cons (aTv u n) (.cons (nQ n) (.cons (nQ n) .nil))))))))) (λls h=>by
  cases h with|cons M h =>
  cases h with|cons O h =>
  cases h with|cons U h =>
  cases h with|cons Z h =>
  cases h with|cons q4 h =>
  cases h with|cons q5 h =>
  cases h with|cons q6 h =>
  cases h with|cons q7 h =>
  cases h with|cons q8 h =>
  cases h;obtain⟨a0,rfl⟩:=M;obtain⟨y,rfl⟩:=O;obtain⟨a2,rfl⟩:=U;obtain⟨a3,rfl⟩:=Z;obtain⟨a4,rfl⟩:=q4;obtain⟨a5,rfl⟩:=q5;obtain⟨z,rfl⟩:=q6;obtain⟨B,rfl⟩:=q7;obtain⟨G,rfl⟩:=q8;exact⟨⟨a0,y,a2,a3,a4,a5,z,B,G⟩,by simp only[Dfn.cs,mB,pB,dK,dY,dD]⟩) n
theorem aRP{v:Value}{d:DataW H}{U:List MemPlace}{r:Reach}{G:Nat}(O:jE g W)(z:Value.okWide prog W r G 31 v)(h:DataW.Trod enc prog W base spare held 31 v d U):∃x:Dfn,Rz g x.enc v/\eE x.cs+1<=YthaljojbclndaaaGreatDoor.Rows.uptoBulk d/\x.enc.ir:=by
 obtain⟨cs,rfl,_⟩:=WideShapes.okWide_struct underlying31 z;obtain⟨u,M⟩:=h;obtain⟨l,⟨x,rfl⟩,hl,y,B,_⟩:=aUE O u u (bJ _) _ _ M;refine⟨x,?_,B.1,B.2⟩;have:=Rz.agg (g:=g) x.cs cs.toList y.1.symm ?_ y.2
 .unfold Dfn.enc;simpa using this
 .intro c y;simp only[Dfn.cs,Sig.cs,cK,dG,nI,eJ]at y
  repeat' (first|(subst y;rfl)|(rcases y with y|y))
end
end
theorem aBV{α:Type}{f:α->Nat}{en:α->A}(k:Nat)(h:∀x,f x<=k * ((en x).bulk+1)):∀l:List α,(l.map f).sum<=k * dX (l.map en)
 | []=>by simp
 | x::l=>by
  have u:=h x;have y:=aBV k h l;simp only[bX,List.sum_cons,dX,Nat.mul_add]at u y⊢;omega
theorem aUo(x:Eqn):eqW x<=2 * (x.enc.bulk+1):=by
 have:=gP Tm.enc x.cond;simp only[eqW,Eqn.enc,Eqn.cs,A.bulk,eE,vD];omega
theorem aSq(x:Part):aCx x<=1 * (x.enc.bulk+1):=by
 have:=gP Tm.enc x.right;simp only[aCx,Part.enc,Part.cs,A.bulk,eE,vD];omega
theorem aRK(x:Fresh):x.cells.length<=1 * (x.enc.bulk+1):=by
 have:=gP Tm.enc x.cells;simp only[Fresh.enc,Fresh.cs,A.bulk,eE];omega
theorem aTT(x:Rul):aCN x<=1 * (x.enc.bulk+1):=by
 have h:=aBV 1 aSq x.parts;have u:=gP Tm.enc x.cond;have y:=aBV 1 aRK x.new;simp only[aCN,Rul.enc,Rul.cs,A.bulk,eE]at h u y⊢;omega
theorem aUi(x:Dfn):zX x<=2 * eE x.cs/\x.sig.ops.length+x.sig.funs.length<=eE x.cs:=by
 have h:=aBV 2 aUo x.eqs;have u:=aBV 1 aTT x.rules;have y:=gP Cel.enc x.once;have z:=gP Cel.enc x.many;have B:=gP Opr.enc x.sig.ops;have G:=gP Opr.enc x.sig.funs;simp only[zX,Dfn.cs,Sig.cs,A.bulk,eE,vD];omega
end Go.AV
section
open Go.Proofs.Tryz
namespace Go.Proofs.YthaljojbclndaaaGreatDoor
open Go Go.AV Go.Proofs.Tryz Go.ChangeShapes Go.WideShapes Go.ChangeAt Go.RowKit
theorem own:ownKnob prog.godebug=none:=by kernel_rfl
def allP(W:World):Nat->Option (List Value):=λb=>match W.heap[b]? with
 | some (.cells cs _ _)=>some cs.toList
 | _=>none
theorem knows_all {W : World} {l : List (String × DataW Unit)} (u : laidMet prog l W) (B : ("strings.asciiSpace",Rows.laid_strings_asciiSpace) ∈ l)
  (G : ("internal/strconv.uint64pow10",Rows.laid_internal_strconv_uint64pow10) ∈ l) : jE (yG (pi0 (allP W)) W) W := by
 obtain⟨t0,M,y⟩:=aDh aGj (aMe u B);obtain⟨t3,O,z⟩:=aDh aFZ (aL2 u G);intro b cs e fr h;show pi0 (allP W) b=some cs.toList;unfold pi0;split
 .rw[y]at h;cases h;rfl
 .rw[z]at h;cases h;rfl
 .unfold allP;rw[h]
theorem checks_contract(H:Type)(enc:TypeId × Value->H)(W:World)(base:Nat)(args:Array Value)(ds gs:List (DataW H))(u:List MemPlace)
  (y:∀(j:Nat) t v,Tryz.f3.params[j]?=some t->args[j]?=some v->Value.okWide prog W .any base t v)
  (hW:DataW.Whole enc prog Tryz.f3.params.toList Rows.checkChecksSpec.vars false W args.toList ds gs u)(b2:Rows.uptoSmall H (ds++gs)=true)(hL:laidMetH prog Rows.checkChecksUptoRow.laid W) :
  Calls prog 3 args W λe W'=>∃v,e=.returned v/\Rows.checkChecksSpec.post enc prog Tryz.f3 false true false false W args v W':=by
 have G := hW;have O := hW.lt;obtain ⟨p,q,z,hV,rfl,b6,b7⟩ := hW;have hA : DataW.TrodAll enc prog W 0 (fun _ => true) true Tryz.f3.params.toList args.toList ds p := z;have b0 := hA;rw [params3] at hA y;obtain ⟨v0,d0,rfl,rfl,h0⟩ := trodAll_one hA;obtain ⟨rfl,rfl⟩ := trodVars_none hV;clear z;simp only [dK] at G O;have m1 : ("strings.asciiSpace",Rows.laid_strings_asciiSpace) ∈ Rows.checkChecksUptoRow.laid := (.tail _ (.tail _ (.tail _ (.tail _ (.tail _ (.tail _ (.tail _ (.head _))))))));have m2 : ("internal/strconv.uint64pow10",Rows.laid_internal_strconv_uint64pow10) ∈ Rows.checkChecksUptoRow.laid := (.tail _ (.tail _ (.head _)));have hK := knows_all hL m1 m2;obtain ⟨a,ha,b5,hI⟩ := aRP hK (y 0 31 v0 rfl rfl) h0;have Z : Rows.uptoBulkAll [d0] ≤ 1048576 := fT b2;simp only [Rows.uptoBulkAll] at Z;obtain ⟨b3,b4⟩ := aUi a
 have hc:=aQJ (f:=3) (args:=[a.enc]) (vals:=[v0]) (W:=W) (p:=allP W) (l:=Rows.checkChecksUptoRow.laid) func3 rfl rfl hL m1 m2
  (fun b pre h => by
   unfold allP at h;split at h
   .rename_i cs t fr hh;cases h;exact⟨[],t,fr,by rw[hh,dK]⟩
   .cases h)
  (.cons ha (.nil _)) (aO8 a aB aB aB rfl)
 refine hc.mono λe W' ⟨he,b1,U,M⟩=>?_
 subst he;have e1:Rows.checkChecksSpec.fn H ([d0]++[])={ results:=[.lit (.bool true)],args:=[d0] }:=rfl;have B:=aIO M b0;simp only[dK]at B;refine⟨_,rfl,_,_,_,[],p,[],G,?_,?_,?_,aTp b1 U M,λh=>by cases h⟩
 .rw[e1];exact trodAll_mk1 (shut_bool underlying4 true)
 .rw[e1]
  exact DataW.TrodAll.respare (kids_rows checks_k1 checks_k2) (slices_full_of prog (by kernel_rfl)) (λt ht=>by
   rw[params3]at ht;obtain rfl:t=31:=gQ ht;exact fT (by kernel_rfl)) B (λp hp=>cT (O p hp))
 .rw[e1];rfl
def zeroV:Value:=.agg #[.string ⟨#[]⟩,.slice none 0 0,.slice none 0 0,.slice none 0 0,.slice none 0 0,.slice none 0 0,.slice none 0 0,.slice none 0 0,.string ⟨#[]⟩,.slice none 0 0,.slice none 0 0,.string ⟨#[]⟩,.string ⟨#[]⟩]
def zeroR{H:Type}:DataW H:=.agg [.lit (.string []),.agg [.nil,.nil,.nil,.nil,.nil],.nil,.nil,.lit (.string []),.nil,.nil,.lit (.string []),.lit (.string [])]
theorem checks_reads(u:Os){H:Type}(enc:TypeId × Value->H) :
  ∃h,DataW.whole enc prog ((wK u).forCall (λ_ _=>0) ⟨#[],#[zeroV],[]⟩).memory Tryz.f3.params.toList (Rows.OpenSpec.upto Rows.checkChecksSpec).vars false #[zeroV].toList 8 =
   some ([zeroR],[],h) :=
 ⟨[],by kernel_rfl⟩
theorem checks_lifted(z:Os)(h:z.Started)(H:Type)(enc:TypeId × Value->H)(F:Stop.Interp) :
  ReturnsInHanded {} checked z 3 .any ((Rows.OpenSpec.upto Rows.checkChecksSpec).preRow enc prog Tryz.f3 Rows.checkChecksUptoRow.domain false Rows.checkChecksUptoRow.laid) (((Rows.OpenSpec.upto Rows.checkChecksSpec).at F).post enc prog Tryz.f3 false true false false):=by
 obtain⟨B,Z⟩:=checks_reads z enc
 refine returnsInHanded_of_row (C:=checked) (s:=Rows.OpenSpec.upto Rows.checkChecksSpec) own h (by kernel_rfl) func3
  (witness_row_atRef (enc := enc) (C := checked) false (wK z) #[zeroV] rfl (by kernel_rfl) (by kernel_rfl) (by kernel_rfl)
   (OpenSpec.preRow_of_cond 8 Z (by kernel_rfl) (λk G=>by cases G;rfl) (by kernel_rfl) (aSf z _))) ?_
 intro W base args M gs u y U _ G _ O _ _;exact checks_contract H enc W base args M gs u y U (G _ rfl) O
theorem checks_said:Rows.CheckChecksUptoSaid :=
 OpenClaim.holds_of_cond 3 Tryz.f3 rfl rfl rfl rfl rfl rfl rfl ⟨rfl,rfl,rfl,rfl,rfl⟩ rfl rfl rfl rfl rfl checks_named func3 checks_closed
  (fT (by kernel_rfl)) (by unfold Func.isWrapper;rw[aD (of_decide_eq_false (by kernel_rfl))];exact⟨rfl,rfl⟩)
  (λu h H enc _ F=>by rw[OpenClaim.pre_eq_preRow];exact checks_lifted u h H enc F)
theorem checks_plain(f:FuncId)(fn:Func)(y:Tryz.pinned.checked.prog.funcNamed Rows.checkChecksUptoRow.func=some f)(h:Tryz.pinned.checked.prog.funcs[f]?=some fn) :
  true=Tryz.pinned.checked.prog.looks []/\∀(j:Nat) t,fn.params[j]?=some t->Tryz.pinned.checked.prog.wantsStandIn t=false:=by
 obtain rfl:f=3:=tH (checks_named.symm.trans y) |>.symm
 obtain rfl:fn=Tryz.f3:=(tH (func3.symm.trans h)).symm;refine⟨checks_looks,λj t u=>?_⟩;rw[params3]at u;obtain rfl:t=31:=by simpa using Array.mem_of_getElem? u
 exact(show prog.wantsStandIn 31=false by kernel_rfl)
theorem checkChecksUpto_holds:Rows.CheckChecksUptoCardSaid :=
 Claim7.holds_tied_plain_at .later [] _ _ _ _ checks_said (λ_ h=>by cases h) checks_wf (λ_ h=>by cases h) checkChecksUpto_row_tie rfl ⟨rfl,rfl⟩ checks_main rfl checks_plain checks_goes
#print axioms checkChecksUpto_holds
end Go.Proofs.YthaljojbclndaaaGreatDoor
end
