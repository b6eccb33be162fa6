/-
  Of DefBack.
-/
import Derived.Test.YtamikhobdffnfaaGreatDoorBa12
set_option linter.all false
set_option maxRecDepth 99999
set_option maxHeartbeats 0
namespace Go.AV
open Go Go.Proofs Tryz
section
theorem Ex.soft{C:Cx}{n:Nat}{c:Code}{Q:XK->Env->St->Prop}{ev:Env}{s:St}{b:Nat}{e:TypeId}{cs cs':List A}(y:s.getO b=some (.cells e cs))(hl:tG cs cs')
  (h:Ex C n c Q ev (s.setO b (.cells e cs'))):Ex C n c Q ev s:=λF g w a u m=>h F g w a (u.soft y hl) m
def uY(φ:aD->aD)(p:Part):Part:={ p with cell:=φ p.cell,at_:=pD φ p.at_,left:=oG φ p.left,right:=p.right.map (oG φ) }
def vA(φ:aD->aD)(p:Fresh):Fresh:=⟨p.cells.map (oG φ)⟩
def chR(φ:aD->aD)(r:Rul):Rul:={ r with name:=φ r.name,parts:=r.parts.map (uY φ),cond:=r.cond.map (oG φ),new:=r.new.map (vA φ),drop:=r.drop.map φ }
structure TmsB (l:List Tm):Prop where
 n:l.length<=4294967295
 t:∀t,t∈l->TmB t
structure PartB (p:Part):Prop where
 c:p.cell.length<=140737488355328
 a:p.at_.length<=140737488355328
 l:TmB p.left
 r:TmsB p.right
structure RulB (r:Rul):Prop where
 name:r.name.length<=140737488355328
 pn:r.parts.length<=4294967295
 p:∀p,p∈r.parts->PartB p
 cond:TmsB r.cond
 nn:r.new.length<=4294967295
 n:∀f,f∈r.new->TmsB f.cells
 dn:r.drop.length<=4294967295
 d:∀x,x∈r.drop->x.length<=140737488355328
theorem aKA{l:List Part}{y:A}(h:y∈l.map Part.enc):y.cells.length=11:=by
 obtain⟨z,_,rfl⟩:=cH.1 h;rfl
theorem aRF{l:List Fresh}{y:A}(h:y∈l.map Fresh.enc):y.cells.length=1:=by
 obtain⟨z,_,rfl⟩:=cH.1 h;rfl
section
variable {f:FuncId} {caps:List A} {L:List (Nat × Ob)} {φ:aD->aD} (hf:ChF f caps L φ)
include hf
theorem aPj(r:Rul)(hr:RulB r)(s:St)(KV Kp:St->A->Prop)(hK:Kn L s)(hk:KV s (chR φ r).enc) :
  Den cx 116 [.fn f [] caps,.agg r.cs] KV Kp s:=by
 (refine aR func116 [0,1,3,4,5,7,9,11,26,27,28,29,34,63,64,65,66,81,82,83,84] ?_;simp only[go_sem,ntmps116,f116]);(refine aQ λp3 z=>?_);simp only[go_sem,z];(refine aQ λp4 F=>?_);simp only[go_sem,z,F];(refine bO (OT.l [0,1,2,4,5,6,8,9,10,11,3,7,12,13,14] .nil) [(3,[6,9,11]),(7,[9,11]),(13,[2,6,9,11])] ?_;simp only[go_sem,z,F]);refine hf.fn r.name _ _ _ hr.name (hK.ge bC) ?_;simp only[go_sem,z,F];refine aCY hf r.cond hr.cond.n hr.cond.t _ _ _ (hK.ge bC) ?_;simp only[go_sem,z,F];(refine aQ λp5 H=>?_);simp only[go_sem,z,F,H];obtain⟨Z,hZ⟩:∃Z,Z=[A.str [],.nils,.nils,.nils,.nils,.int .i64 0,.int .i64 0]:=⟨_,rfl⟩
 rw[<-hZ];obtain⟨X0,b8⟩:∃X,X=A.list none ((r.cond.map (oG φ)).map Tm.enc):=⟨_,rfl⟩
 rw[<-b8];have x1:X0.one=true:=by rw[b8];rfl
 refine Ex.loop (ι:=Nat × Option Nat) (λc=>[(0,.fn f [] caps),(3,.ptr p3 0),(4,.ptr p4 0),(5,.ptr p5 0),(26,.list none (r.parts.map Part.enc)),(27,.int .i64 (r.parts.length:Nat)),(28,.int .i64 (c.1:Nat))])
  (λc=>gs (((s.setO p3 (.cells 84 r.cs)).setO p4 (.cells 84 Z)).setO p5 (.cells 84 [.str (φ r.name),gv c.2 (((r.parts.take c.1).map (uY φ)).map Part.enc),X0,.nils,.nils,.int .i64 r.line,.int .i64 r.col])) c.2 ((r.parts.take c.1).map (uY φ)).length 86)
  (λc=>((c.2=none->(r.parts.take c.1).map (uY φ)=[])/\∀t,c.2=some t->s.getT t=none)/\c.1<=r.parts.length) (λc=>r.parts.length-c.1) (0,none) ⟨⟨λ_=>rfl,λt e=>(by cases e)⟩,aU _⟩ ?_ (by exact aM _) ?_
 .simp only[go_sem]
  first|done|exact rfl|exact⟨rfl,rfl⟩
 .rintro⟨i,tk⟩ ⟨⟨B,m⟩,hi⟩;simp only at B m hi;refine bE (V:=[0,1,3,4,5,7,9,11,26,27,28,29,34,63,64,65,66,81,82,83,84]) _ _ _ _ ?_;simp only[go_sem]
  (apply aT<;>intro h)<;>simp only[go_sem,h]
  .have M:i<r.parts.length:=gQ h;clear h;obtain⟨x,S⟩:∃a,r.parts[i]?=some a:=⟨_,aX M⟩
   have b2:=sM (uY φ) S;obtain⟨w1,w2,w3,w4⟩:=hr.p x (bZ S);have bd:=hr.pn;simp only[go_sem,S,M];(refine iK λb7 O=>?_);simp only[go_sem,S,M,O,z,F,H];cases ha:decide (x.at_=[])
   case' true =>
    have bc:pD φ x.at_=x.at_:=by rw[pD,aF (sJ ha),sJ ha]
    simp only[go_sem,ha,O,z,F,H]
   case' false =>
    have bc:pD φ x.at_=φ x.at_:=by rw[pD,aB (of_decide_eq_false ha)]
    simp only[go_sem,ha,O,z,F,H];refine hf.fn x.at_ _ _ _ w2 (Kn.gs (hK.ge bC) _ _ _) ?_;simp only[go_sem,O,z,F,H]
   all_goals (
    (refine bO (OT.l [0,1,2,4,5,6,8,9,10,3,12,7,11,13,14,15,16,17] .nil) [(3,[6,10]),(7,[10])] ?_;simp only[go_sem,O,z,F,H]);refine hf.fn x.cell _ _ _ w1 (Kn.gs (hK.ge bC) _ _ _) ?_;simp only[go_sem,O,z,F,H];refine aBT hf x.left w3 _ _ _ (Kn.gs (hK.ge bC) _ _ _) ?_;simp only[go_sem,O,z,F,H];refine aCY hf x.right w4.n w4.t _ _ _ (Kn.gs (hK.ge bC) _ _ _) ?_;simp only[go_sem,O,z,F,H];refine⟨by decide,λy U=>by simp only[cC]at U;subst U;rfl,eI rfl rfl (tN B) (λy U=>aKA U) (by simp only[aK,cQ,aG,aH];omega) (λu hu=>?_)⟩;have b0:=gI hu m;rw[fY hu];simp only[go_sem,S,M,O,z,F,H];refine⟨(i+1,some u),⟨⟨λh=>(by cases h),λt h=>by cases h;exact b0⟩,M⟩,aP,cF i aC,?_⟩;rw[show(r.parts.take i).length+1=(r.parts.take (i+1)).length by simp only[cQ];omega];simp only[go_sem,b2,cN,dF,uY,bc];exact gR bC)
  .have b3:i=r.parts.length:=by have:¬ i<r.parts.length:=gQ h;omega
   subst b3;rw[List.take_length]at B⊢;clear h hi;simp only[go_sem,z,F,H]
   refine Ex.soft (b:=p5) (e:=84) (cs:=[.str (φ r.name),gv tk ((r.parts.map (uY φ)).map Part.enc),X0,.nils,.nils,.int .i64 r.line,.int .i64 r.col]) (cs':=[.str (φ r.name),.list none ((r.parts.map (uY φ)).map Part.enc),X0,.nils,.nils,.int .i64 r.line,.int .i64 r.col]) gH
    ⟨⟨bH _,rfl⟩,⟨iQ _ _ (λe=>by rw[B e];rfl),rfl⟩,⟨bH _,x1⟩,⟨bH _,rfl⟩,⟨bH _,rfl⟩,⟨bH _,rfl⟩,⟨bH _,rfl⟩,trivial⟩ ?_
   obtain⟨X1,b5⟩:∃X,X=A.list none ((r.parts.map (uY φ)).map Part.enc):=⟨_,rfl⟩
   rw[<-b5];have x2:X1.one=true:=by rw[b5];rfl
   refine Ex.loop (ι:=Nat × Option Nat) (λc=>[(0,.fn f [] caps),(3,.ptr p3 0),(4,.ptr p4 0),(5,.ptr p5 0),(63,.list none (r.new.map Fresh.enc)),(64,.int .i64 (r.new.length:Nat)),(65,.int .i64 (c.1:Nat))])
    (λc=>gs (((s.setO p3 (.cells 84 r.cs)).setO p4 (.cells 84 Z)).setO p5 (.cells 84 [.str (φ r.name),X1,X0,gv c.2 (((r.new.take c.1).map (vA φ)).map Fresh.enc),.nils,.int .i64 r.line,.int .i64 r.col])) c.2 ((r.new.take c.1).map (vA φ)).length 141)
    (λc=>((c.2=none->(r.new.take c.1).map (vA φ)=[])/\∀t,c.2=some t->s.getT t=none)/\c.1<=r.new.length) (λc=>r.new.length-c.1) (0,none) ⟨⟨λ_=>rfl,λt e=>(by cases e)⟩,aU _⟩ ?_ (by simp only[zU,nR];exact lI (aM _) m) ?_
   .simp only[go_sem]
    first|done|exact rfl|exact⟨rfl,rfl⟩
   .clear B m tk;rintro⟨i,tk⟩ ⟨⟨B,m⟩,hi⟩;simp only at B m hi;refine bE (V:=[0,1,3,4,5,7,9,11,26,27,28,29,34,63,64,65,66,81,82,83,84]) _ _ _ _ ?_;simp only[go_sem]
    (apply aT<;>intro h)<;>simp only[go_sem,h]
    .have M:i<r.new.length:=gQ h;clear h;obtain⟨x,S⟩:∃a,r.new[i]?=some a:=⟨_,aX M⟩
     have b2:=sM (vA φ) S;have w1:=hr.n x (bZ S);have bd:=hr.nn;simp only[go_sem,S,M];(refine iK λb9 b4=>?_);simp only[go_sem,S,M,b4,z,F,H];(refine bO (OT.r 0 11) [(5,[1])] ?_;simp only[go_sem,b4,z,F,H,x2]);refine aCY hf x.cells w1.n w1.t _ _ _ (Kn.gs (hK.ge bC) _ _ _) ?_;simp only[go_sem,b4,z,F,H];refine⟨by decide,λy U=>by simp only[cC]at U;subst U;rfl,eI rfl rfl (tN B) (λy U=>aRF U) (by simp only[aK,cQ,aG,aH];omega) (λu hu=>?_)⟩;have b0:=gI hu m;rw[fY hu];simp only[go_sem,S,M,b4,z,F,H];refine⟨(i+1,some u),⟨⟨λh=>(by cases h),λt h=>by cases h;exact b0⟩,M⟩,aP,cF i aC,?_⟩;rw[show(r.new.take i).length+1=(r.new.take (i+1)).length by simp only[cQ];omega];simp only[go_sem,b2,cN,dF,vA];exact gR bC
    .have b3:i=r.new.length:=by have:¬ i<r.new.length:=gQ h;omega
     subst b3;rw[List.take_length]at B⊢;clear h hi;simp only[go_sem,z,F,H]
     refine Ex.soft (b:=p5) (e:=84) (cs:=[.str (φ r.name),X1,X0,gv tk ((r.new.map (vA φ)).map Fresh.enc),.nils,.int .i64 r.line,.int .i64 r.col]) (cs':=[.str (φ r.name),X1,X0,.list none ((r.new.map (vA φ)).map Fresh.enc),.nils,.int .i64 r.line,.int .i64 r.col]) gH
      ⟨⟨bH _,rfl⟩,⟨bH _,x2⟩,⟨bH _,x1⟩,⟨iQ _ _ (λe=>by rw[B e];rfl),rfl⟩,⟨bH _,rfl⟩,⟨bH _,rfl⟩,⟨bH _,rfl⟩,trivial⟩ ?_
     obtain⟨X2,b6⟩:∃X,X=A.list none ((r.new.map (vA φ)).map Fresh.enc):=⟨_,rfl⟩
     rw[<-b6];have x3:X2.one=true:=by rw[b6];rfl
     refine Ex.loop (ι:=Nat × Option Nat) (λc=>[(0,.fn f [] caps),(3,.ptr p3 0),(4,.ptr p4 0),(5,.ptr p5 0),(81,.list none (r.drop.map .str)),(82,.int .i64 (r.drop.length:Nat)),(83,.int .i64 (c.1:Nat))])
      (λc=>gs (((s.setO p3 (.cells 84 r.cs)).setO p4 (.cells 84 Z)).setO p5 (.cells 84 [.str (φ r.name),X1,X0,X2,gv c.2 (((r.drop.take c.1).map φ).map .str),.int .i64 r.line,.int .i64 r.col])) c.2 ((r.drop.take c.1).map φ).length 9)
      (λc=>((c.2=none->(r.drop.take c.1).map φ=[])/\∀t,c.2=some t->s.getT t=none)/\c.1<=r.drop.length) (λc=>r.drop.length-c.1) (0,none) ⟨⟨λ_=>rfl,λt e=>(by cases e)⟩,aU _⟩ ?_ (by simp only[zU,nR];exact lI (aM _) m) ?_
     .simp only[go_sem]
      first|done|exact rfl|exact⟨rfl,rfl⟩
     .clear B m tk;rintro⟨i,tk⟩ ⟨⟨B,m⟩,hi⟩;simp only at B m hi;refine bE (V:=[0,1,3,4,5,7,9,11,26,27,28,29,34,63,64,65,66,81,82,83,84]) _ _ _ _ ?_;simp only[go_sem]
      (apply aT<;>intro h)<;>simp only[go_sem,h]
      .have M:i<r.drop.length:=gQ h;clear h;obtain⟨x,S⟩:∃a,r.drop[i]?=some a:=⟨_,aX M⟩
       have b2:=sM φ S;have w1:=hr.d x (bZ S);have bd:=hr.dn;simp only[go_sem,S,M];(refine bO (OT.r 0 9) [(4,[1])] ?_;simp only[go_sem,S,z,F,H,x2,x3]);refine hf.fn x _ _ _ w1 (Kn.gs (hK.ge bC) _ _ _) ?_;simp only[go_sem,z,F,H];refine⟨by decide,λy U=>by simp only[cC]at U;subst U;rfl,eI rfl rfl (tN B) (λy U=>by obtain⟨_,_,rfl⟩:=cH.1 U;rfl) (by simp only[aK,cQ,aG,aH];omega) (λu hu=>?_)⟩;have b0:=gI hu m;rw[fY hu];simp only[go_sem,S,M,z,F,H];refine⟨(i+1,some u),⟨⟨λh=>(by cases h),λt h=>by cases h;exact b0⟩,M⟩,aP,cF i aC,?_⟩;rw[show(r.drop.take i).length+1=(r.drop.take (i+1)).length by simp only[cQ];omega];simp only[go_sem,b2,cN,dF];exact gR bC
      .have b3:i=r.drop.length:=by have:¬ i<r.drop.length:=gQ h;omega
       subst b3;rw[List.take_length]at B⊢;clear h hi;subst hZ b8 b5 b6;simp only[go_sem,z,F,H];have bb:=hk;simp only[Rul.enc,Rul.cs,chR]at bb;refine⟨sU _ _,?_⟩;refine DK.mk bb (lI bC m) (show A.le (.agg [.str (φ r.name),.list none ((r.parts.map (uY φ)).map Part.enc),.list none ((r.cond.map (oG φ)).map Tm.enc),.list none ((r.new.map (vA φ)).map Fresh.enc),gv tk ((r.drop.map φ).map .str),.int .i64 r.line,.int .i64 r.col]) _ from A.le.agg ⟨⟨bH _,rfl⟩,⟨bH _,rfl⟩,⟨bH _,rfl⟩,⟨bH _,rfl⟩,⟨iQ _ _ (λe=>by rw[B e];rfl),rfl⟩,⟨bH _,rfl⟩,⟨bH _,rfl⟩,trivial⟩)
end
end
abbrev Wd:=aD × Bool
def Wd.cs(w:Wd):List A:=[.str w.1,.bool w.2]
def Wd.enc(w:Wd):A:=.agg (Wd.cs w)
def xV:List aD:=[[46],[44],[59],[41],[93],[125],[64]]
def tD:List aD:=[[40],[91],[123],[64],[39]]
def oL(h:List Wd)(s:aD):Bool:=match h.getLast? with
 | none=>true
 | some l=>(decide (s∈xV)||decide (l.1∈tD))||(decide (s=[40])&&dT l.1)
def aJ(h:List Wd)(s:aD):List Wd:=h++[(s,oL h s)]
def bF(h:List Wd)(l:List aD):List Wd:=l.foldl aJ h
def lV(h:List Wd):List aD->List Wd
 | []=>h
 | s::r=>r.foldl (λc s=>c++[(s,true)]) (aJ h s)
def dL{α:Type}(one:List Wd->α->List Wd):Bool->List Wd->List α->List Wd
 | _,h,[]=>h
 | b,h,x::r=>dL one true (one (if b=true then aJ h [44] else h) x) r
def jY(h:List Wd):List Tm->List Wd
 | []=>h
 | r::l=>jY (bF h [[124],r.text]) l
mutual
def bS(cur:List Wd):Tm->List Wd
 | .mk k n x y ks rs =>
  if k=1 then(if n<0 then lV cur [[45],(Lib.itoa n).drop 1] else aJ cur (Lib.itoa n))
  else if k=2 then aJ cur (if n=1 then [116,114,117,101] else [102,97,108,115,101])
  else if k=3 then aJ cur ([34]++x++[34])
  else if k=4 then bF cur [[39],x]
  else if k=5 then aJ (gW false (bF cur [x,[40]]) ks) [41]
  else if k=6 then(if x=[95]\/x=[36] then aJ cur x else lV cur [x,[58],y])
  else if k=7 then aJ (jY (gW false (aJ cur [91]) ks) rs) [93]
  else if k=8 then aJ (jY (fA false (aJ cur [123]) ks) rs) [125]
  else cur
def gW:Bool->List Wd->List Tm->List Wd
 | _,cur,[]=>cur
 | b,cur,t::r=>gW true (bS (if b=true then aJ cur [44] else cur) t) r
def fA:Bool->List Wd->List Tm->List Wd
 | _,cur,[]=>cur
 | _,cur,[t]=>cur
 | b,cur,k::v::r=>fA true (bS (aJ (bS (if b=true then aJ cur [44] else cur) k) [45,62]) v) r
end
def pM(h:List Wd)(l:List Tm):List Wd:=if l=[] then h else dL bS false (aJ h [105,102]) l
def mH(p:Piece):aD:=if p.sort=[] then [34]++p.text++[34] else p.sort
def pV(o:Opr):List Wd :=
 let c:=bF [] [[111,112],o.name,[58]]
 let c:=bF c (o.pieces.map mH)
 let c:=if o.pieces=[] then bF c o.args else c
 let c:=bF c [[45,62],o.sort]
 let c:=if 0<o.prec then bF c [[112,114,101,99],Lib.itoa o.prec] else c
 let c:=if o.assoc=1 then aJ c [108,101,102,116] else if o.assoc=2 then aJ c [114,105,103,104,116] else c
 let c:=if o.strict=[] then c else aJ (dL (λc n=>aJ c (Lib.itoa n)) false (bF c [[115,116,114,105,99,116],[40]]) o.strict) [41]
 aJ c [46]
def uO(o:Opr):List Wd:=aJ (bF (bF (bF [] [[102,117,110],o.name,[58]]) o.args) [[45,62],o.sort]) [46]
def gX(h:List Wd)(c:Cel):List Wd:=bS (bF h [c.name,[58],c.sort,[61]]) c.init
def fB(n:Nat)(h:List Wd):List Wd:=if 0<n then aJ h [59] else h
def kM(h:List Wd):List Tm->List Wd
 | []=>h
 | t::r=>kM (bS (aJ h [61,62]) t) r
def jV(n:Nat)(h:List Wd)(p:Part):List Wd :=
 let c:=aJ (fB n h) p.cell
 let c:=if p.at_=[] then c else bF c [[64],p.at_]
 kM (bS (aJ c [58]) p.left) p.right
def kX(n:Nat)(h:List Wd)(f:Fresh):List Wd:=aJ (dL bS false (bF (fB n h) [[110,101,119],[40]]) f.cells) [41]
def kW(n:Nat)(h:List Wd)(s:aD):List Wd:=bF (fB n h) [[100,114,111,112],[64],s]
def eZ{α:Type}(one:Nat->List Wd->α->List Wd):Nat->List Wd->List α->List Wd
 | _,h,[]=>h
 | n,h,x::r=>eZ one (n+1) (one n h x) r
def mX(r:Rul):List Wd :=
 let c:=bF [] [[114,117,108,101],r.name,[58]]
 let c:=eZ jV 0 c r.parts
 let c:=eZ kX r.parts.length c r.new
 let c:=eZ kW (r.parts.length+r.new.length) c r.drop
 aJ (pM c r.cond) [46]
def nB(k:aD)(l:List aD):List (List Wd):=if l=[] then [] else [aJ (dL aJ false (aJ [] k) l) [46]]
def wJ(s:Sig):List (List Wd) :=
 nB [115,111,114,116] s.sorts++(s.below.map (λx=>aJ (bF [] [[115,117,98,115,111,114,116],x.low,[60],x.high]) [46]) ++
  (nB [118,97,108,117,101] s.values++(s.ops.map pV++s.funs.map uO)))
def rE(x:Eqn):List Wd:=aJ (pM (bS (aJ (bS (aJ [] [108,101,116]) x.left) [61]) x.right) x.cond) [46]
def mU(k x:aD):List (List Wd):=if x=[] then [] else [aJ (bF [] [k,x]) [46]]
def eD(d:Dfn):List (List Wd) :=
  [aJ (bF [] [[108,97,110,103,117,97,103,101],d.name]) [46]]++(wJ d.sig++(d.eqs.map rE++(d.once.map (λc=>aJ (gX (aJ [] [99,101,108,108]) c) [46]) ++
    ((if d.kind = [] then [] else [aJ (aJ (dL gX false (bF [] [[109,97,110,121],d.kind,[40]]) d.many) [41]) [46]]) ++
      (mU [115,116,97,114,116] d.start++(mU [119,97,116,99,104] d.watch++d.rules.map mX))))))
def kO(h:List Wd):aD:=h.flatMap λw=>(if w.2=true then [] else [32])++w.1
def lF:aD->List aD->aD
 | _,[]=>[]
 | h,x::r =>
  (if h≠[]/\x≠[]/\(match h.getLast? with|some c=>fK c.toNat|none=>false)=true/\h≠[95]/\(match x.head? with|some c=>fK c.toNat|none=>false)=true then [32] else [])++(x++lF x r)
theorem gBm{f:FuncId}{c:Code}{args:List A}{KV Kp:St->A->Prop}{s:St}{fn:Func}(hf:nN.P.funcs[f]?=some fn)(V:List Nat)
  (h:iC nN fn.ntmps V c (nK nN fn.results.toList (DK KV) (DK Kp)) (rC 0 args) s)
  (y:fn.body=some c:=by exact rfl)
  (m : (fn.name == "runtime.NumGoroutine") = false := by exact rfl) (u : args.length ≤ fn.ntmps := by exact mO rfl) : Den cx f args KV Kp s :=
 Den.drop (aT7 (aFY (C:=nN) hf y m u (bE _ _ _ _ h)))
def gM(h:List Wd):List A:=h.flatMap Wd.cs
inductive WL (s:St):A->List Wd->Prop
 | nil:WL s .nils []
 | mg (b cap:Nat) (ws:List Wd) (J:List A) (hb:s.getO b=some (.cells 156 (gM ws++J))) (hc:ws.length<=cap) (hJ:J.length=(cap-ws.length) * 2) (h1:∀c,c∈J->c.one=true) (hn:ws≠[]):WL s (.mg b ws.length cap) ws
def aAg:A->Option Nat
 | .mg b _ _=>some b
 | _=>none
structure Stp (r:Nat) (vl vl':A) (s s':St):Prop where
 ob:∀p o,s.getO p=some o->p≠r->aAg vl≠some p->s'.getO p=some o
 new:∀b,aAg vl'=some b->aAg vl=some b\/s.getO b=none
 dom:∀p,s'.getO p=none->s.getO p=none
 tk:∀t m,s.getT t=some m->s'.getT t=some m
 ls:s'.ls=s.ls
theorem Stp.refl(r:Nat)(m:A)(s:St):Stp r m m s s:=⟨λ_ _ h _ _=>h,λ_ h=>.inl h,λ_ h=>h,λ_ _ h=>h,rfl⟩
theorem Stp.trans{r:Nat}{y v2 v3:A}{a b c:St}(h:Stp r y v2 a b)(u:Stp r v2 v3 b c):Stp r y v3 a c :=
  ⟨fun p o x n m => u.ob p o (h.ob p o x n m) n (fun e => by
      rcases h.new p e with e|e
      · exact m e
      · rw[e]at x;cases x),
   λb e=>by
      rcases u.new b e with e|e
      · exact h.new b e
      · exact .inr (h.dom b e),
   λp e=>h.dom p (u.dom p e),λt m x=>u.tk t m (h.tk t m x),u.ls.trans h.ls⟩
theorem aBY:∀h:List Wd,(gM h).length=h.length * 2
 | []=>rfl
 | w::r=>by
  have:=aBY r;simp only[gM,kG,aI,Wd.cs,aG,aH]at this⊢;omega
theorem aJx(a b:List Wd):gM (a++b)=gM a++gM b:=by simp[gM]
theorem aRf{m:List Wd}{i:Nat}{w:Wd}(h:m[i]?=some w)(J:List A):(gM m++J)[i * 2]?=some (.str w.1)/\(gM m++J)[i * 2+1]?=some (.bool w.2):=by
 induction m generalizing i with
 | nil=>cases h
 | cons x r y =>
  cases i with
  | zero=>cases h;exact⟨rfl,rfl⟩
  | succ i =>
   have:=y (i:=i) h;have u:(i+1) * 2=i * 2+2:=by omega
   rw[u];exact this
structure WrS (s:St) (r:Nat) (vi vl:A) (cur:List Wd):Prop where
 ob:s.getO r=some (.cells 149 [vi,vl])
 one:vi.one=true
 line:WL s vl cur
theorem aOq(r:Nat)(O U:A)(h:List Wd)(x:aD)(s:St)(KV Kp:St->A->Prop)(hw:WrS s r O U h)(hl:h.length<=4294967296)(u:KV s (.bool (oL h x))):Den cx 249 [.ptr r 0,.str x] KV Kp s:=by
 obtain⟨y,_,m⟩:=hw;cases m with
 | nil =>
  (refine gBm func249 [0,1,4,5,6,7,13] ?_;simp only[go_sem,ntmps249,f249]);simp only[go_sem,y];exact aO u
 | mg b cap _ J B hc hJ h1 Z =>
  have F:0<h.length:=by cases h with|nil=>exact cM rfl Z|cons _ _=>simp
  have M:IntKind.i64.wrap ((h.length:Int)-1)=((h.length-1:Nat):Int):=by rw[hU _ aC aC];omega
  have d1:decide ((h.length:Int)=0)=false:=by rw[fR];omega
  obtain⟨w,m⟩:∃w,h[h.length-1]?=some w:=⟨_,aX aC⟩
  have z:h.getLast?=some w:=by rw[List.getLast?_eq_getElem?];exact m
  obtain⟨g1,g2⟩:=aRf m J;(refine gBm func249 [0,1,4,5,6,7,13] ?_;simp only[go_sem,ntmps249,f249]);simp only[go_sem,y,d1];(refine bO (OT.r 0 14) [] ?_;simp only[go_sem,y,d1,B,M]);refine⟨by omega,?_⟩;simp only[go_sem,B,g1];refine aBg (aAD _ xV _ _ _ ?_);simp only[go_sem];refine aBg (aAD _ tD _ _ _ ?_);simp only[go_sem];have S:oL h x=((decide (x∈xV)||decide (w.1∈tD))||(decide (x=[40])&&dT w.1)):=by unfold oL;rw[z]
  rw[S]at u;cases H:decide (x∈xV)<;>cases e2:decide (w.1∈tD)<;>rw[H,e2]at u<;>simp only[go_sem]
  .cases e3:decide (x=[40])<;>rw[e3]at u<;>simp only[go_sem]
   .exact aO u
   .refine aBg (yP _ _ _ _ ?_);simp only[go_sem];exact aO u
  all_goals exact aO u
theorem aPP{l:List aD}{i:Nat}{x:aD}(h:l[i]?=some x)(m:List Wd):bF m (l.take (i+1))=aJ (bF m (l.take i)) x:=by
 rw[fD,h];simp[bF,List.foldl_append]
theorem fT(l:List aD):∀h:List Wd,(bF h l).length=h.length+l.length:=by
 induction l with
 | nil=>intro h;rfl
 | cons x r m=>intro h;show(bF (aJ h x) r).length=_;rw[m];simp[aJ];omega
theorem WrS.app{s:St}{r:Nat}{z vl:A}{m:List Wd}{KV:St->A->Prop}{te:TI}(h:WrS s r z vl m)(w:Wd)(hl:m.length+1<=4294967296)(hs:te.sz=2)
  (hk:∀s' b n cap,s'.getO r=some (.cells 149 [z,vl])->WrS (s'.setO r (.cells 149 [z,.mg b n cap])) r z (.mg b n cap) (m++[w])->Stp r vl (.mg b n cap) s (s'.setO r (.cells 149 [z,.mg b n cap]))->KV s' (.mg b n cap)):oB nN s 156 te [Wd.enc w] KV vl:=by
 obtain⟨S,h0,b3⟩:=h;cases b3 with
 | nil =>
  refine⟨by simp,?_⟩;rw[aKU,hs];refine⟨by simp,λb cap J M hc hJ h1=>?_⟩;have B:=cJ S M;have e1:flat [w.enc]++J=gM [w]++J:=by simp[flat,gM,Wd.enc,A.cells]
  rw[e1];have g:∀v q,((s.setO b (.cells 156 (gM [w]++J))).setO r (.cells 149 [z,v])).getO q=if r=q then some (.cells 149 [z,v]) else if b=q then some (.cells 156 (gM [w]++J)) else s.getO q:=λv q=>by rw[aL,aL]
  refine hk _ _ _ _ (by rw[aL,aB B.2];exact S) ⟨by rw[g,aF rfl],h0,?_⟩ ⟨λp o u H _=>?_,λq hq=>?_,λp u=>?_,λ_ _ h=>h,rfl⟩
  .exact .mg b cap [w] J (by rw[g,aB B.1,aF rfl]) (gQ hc) (gQ hJ) h1 bJ
  .rw[g,aB (λe=>H e.symm),aB (λe=>by rw[<-e,M]at u;cases u)];exact u
  .cases hq;exact .inr M
  .rw[g]at u;split at u
   .cases u
   .split at u
    .cases u
    .exact u
 | mg b cap _ J M hc hJ h1 hn =>
  show uI _ _ _ _ _ _ _ _ _ _ _;rw[M];have B:¬ r=b:=λe=>by subst e;rw[S]at M;cases M
  have Z:(gM m++J).length=cap * 2:=by rw[aI,aBY,hJ];omega
  rw[hs];refine⟨⟨rfl,rfl,Z,hc,hl,by simp⟩,λb' U O y b2 b5 b0=>?_⟩
  have e1:(gM m++J).take (m.length * 2)++(flat [w.enc]++O)=gM (m++[w])++O:=by
   rw[<-aBY,List.take_left' rfl,aJx,bG];simp[flat,gM,Wd.enc,A.cells]
  rw[e1]
  have F:¬ r=b':=by
   rcases y with⟨rfl,_⟩|y
   .exact B
   .exact(cJ S y).1
  have g:∀v q,((s.setO b' (.cells 156 (gM (m++[w])++O))).setO r (.cells 149 [z,v])).getO q=if r=q then some (.cells 149 [z,v]) else if b'=q then some (.cells 156 (gM (m++[w])++O)) else s.getO q:=λv q=>by rw[aL,aL]
  refine hk _ _ _ _ (by rw[aL,aB (λe=>F e.symm)];exact S) ⟨by rw[g,aF rfl],h0,?_⟩ ⟨λp o u H b4=>?_,λq hq=>?_,λp u=>?_,λ_ _ h=>h,rfl⟩
  .have e2:m.length+[w.enc].length=(m++[w]).length:=by simp
   rw[e2];exact .mg b' U (m++[w]) O (by rw[g,aB F,aF rfl]) (gQ b2) (gQ b5) b0 bJ
  .rw[g,aB (λe=>H e.symm),aB (λe=>?_)]
   .exact u
   .subst e;rcases y with⟨rfl,_⟩|y
    .exact b4 rfl
    .rw[y]at u;cases u
  .cases hq;rcases y with⟨rfl,_⟩|y
   .exact .inl rfl
   .exact .inr y
  .rw[g]at u;split at u
   .cases u
   .split at u
    .cases u
    .exact u
theorem dU(l:List aD)(r:Nat)(S H:A)(m:List Wd)(s:St)(KV Kp:St->A->Prop)(hw:WrS s r S H m)(hl:m.length+l.length<=4294967296)
  (hk:∀s' F,WrS s' r S F (bF m l)->Stp r H F s s'->KV s' (.tuple [])):Den cx 177 [.ptr r 0,.list none (l.map .str)] KV Kp s:=by
 (refine gBm func177 [0,1,5,6,7,8,9] ?_;simp only[go_sem,ntmps177,f177])
 refine Ex.loop (ι:=Nat × (St × A)) (λc=>[(0,.ptr r 0),(6,.list none (l.map .str)),(7,.int .i64 (l.length:Nat)),(8,.int .i64 (c.1:Nat))])
  (λc=>c.2.1) (λc=>c.1<=l.length/\WrS c.2.1 r S c.2.2 (bF m (l.take c.1))/\Stp r H c.2.2 s c.2.1) (λc=>l.length-c.1) (0,(s,H)) ⟨aU _,hw,Stp.refl r H s⟩ ?_ (aM s) ?_
 ·(simp only[go_sem];try exact rfl)
 .rintro⟨i,s1,v1⟩ ⟨hi,u,B⟩;simp only at hi u B;refine bE (V:=[0,1,5,6,7,8,9]) _ _ _ _ ?_;simp only[go_sem]
  (apply aT<;>intro h)<;>simp only[go_sem,h]
  .have z:i<l.length:=gQ h;clear h;obtain⟨x,O⟩:∃a,l[i]?=some a:=⟨_,aX z⟩
   have M:=u.ob;have b0:=aPP O m;have Z:=fT (l.take i) m;rw[cQ,yH hi]at Z;simp only[go_sem,O,z];(refine bO (OT.r 0 15) [(8,[4])] ?_;simp only[go_sem,O,z,M]);refine aBg (aOq r S v1 _ x s1 _ _ u aC ?_);simp only[go_sem,O,z,M];refine⟨by decide,λy hy=>by rw[cC.1 hy];rfl,?_⟩;refine u.app (x,oL (bF m (l.take i)) x) aC rfl (λs2 b n cap b2 b3 U=>?_);simp only[go_sem,b2,u.one];refine⟨(i+1,_,_),⟨z,by rw[b0];exact b3,B.trans U⟩,aP,cF i aC,aM _⟩
  .have b4:i=l.length:=by have:¬ i<l.length:=gQ h;omega
   subst b4;rw[List.take_length]at u;exact aO (hk _ _ u B)
theorem aP6{l:List aD}{x:aD}(h:l[0]?=some x)(m:List Wd):lV m (l.take 1)=aJ m x:=by
 cases l with
 | nil=>cases h
 | cons y r=>cases h;rfl
theorem aP3{l:List aD}{i:Nat}{x:aD}(u:0<i)(h:l[i]?=some x)(m:List Wd):lV m (l.take (i+1))=lV m (l.take i)++[(x,true)]:=by
 cases l with
 | nil=>cases h
 | cons y r =>
  obtain⟨k,rfl⟩:∃k,i=k+1:=⟨i-1,by omega⟩
  show(r.take (k+1)).foldl _ (aJ m y)=(r.take k).foldl _ (aJ m y)++[(x,true)];rw[fD,show r[k]?=some x from h];simp[List.foldl_append]
theorem aGR(l:List aD)(h:List Wd):(lV h l).length=h.length+l.length:=by
 cases l with
 | nil=>rfl
 | cons x r =>
  have:∀(r:List aD) (c:List Wd),(r.foldl (λc s=>c++[(s,true)]) c).length=c.length+r.length:=by
   intro r
   induction r with
   | nil=>intro c;rfl
   | cons y r m=>intro c;rw[List.foldl_cons,m];simp;omega
  show(r.foldl _ (aJ h x)).length=_;rw[this];simp[aJ];omega
theorem aQX(c:List Wd)(y:aD)(b:Bool)(J:List A):lP (gM (c++[(y,b)])++J) (c.length * 2+1) [.bool true]=gM (c++[(y,true)])++J:=by
 have e:∀b,gM (c++[(y,b)])++J=(gM c++[.str y])++([.bool b]++J):=λb=>by simp[aJx,gM,Wd.cs]
 rw[e b,e true];have hl:(gM c++[A.str y]).length=c.length * 2+1:=by rw[aI,aBY];rfl
 simp only[lP];rw[List.set_append_right _ _ aC,hl,Nat.sub_self];rfl
theorem WrS.shut{s:St}{r:Nat}{O v:A}{c:List Wd}{y:aD}{b:Bool}(h:WrS s r O v (c++[(y,b)])):∃bx cap J,v=.mg bx (c.length+1) cap/\s.getO r=some (.cells 149 [O,.mg bx (c.length+1) cap]) /\
  s.getO bx=some (.cells 156 (gM (c++[(y,b)])++J))/\¬ bx=r/\(gM (c++[(y,b)])++J).length=cap * 2/\c.length+1<=cap /\
  WrS (s.setO bx (.cells 156 (gM (c++[(y,true)])++J))) r O v (c++[(y,true)])/\Stp r v v s (s.setO bx (.cells 156 (gM (c++[(y,true)])++J))):=by
 obtain⟨H,h0,B⟩:=h;generalize z:c++[(y,b)]=c' at B;cases B with
 | nil=>simp at z
 | mg bx cap _ J U M Z h1 hn =>
  subst z;have u:(c++[(y,b)]).length=c.length+1:=by simp
  have S:(c++[(y,true)]).length=c.length+1:=by simp
  have F:¬ bx=r:=λe=>by subst e;rw[H]at U;cases U
  rw[u]at H M Z;refine⟨bx,cap,J,by rw[u],H,U,F,by rw[aI,aBY,u,Z];omega,M,⟨by rw[aL,aB F,u];exact H,h0,?_⟩,?_⟩
  .rw[u,<-S];exact .mg bx cap (c++[(y,true)]) J (by rw[aL,aF rfl]) (by rw[S];exact M) (by rw[S];exact Z) h1 bJ
  .refine⟨λp o m b2 b0=>?_,λq hq=>.inl hq,λp m=>?_,λ_ _ h=>h,rfl⟩
   .rw[aL,aB (λe=>b0 (by subst e;rfl))];exact m
   .rw[aL]at m;split at m
    .cases m
    .exact m
theorem aIY(l:List aD)(r:Nat)(M U:A)(m:List Wd)(s:St)(KV Kp:St->A->Prop)(hw:WrS s r M U m)(hl:m.length+l.length<=4294967296)
  (hk:∀s' O,WrS s' r M O (lV m l)->Stp r U O s s'->KV s' (.tuple [])):Den cx 252 [.ptr r 0,.list none (l.map .str)] KV Kp s:=by
 (refine gBm func252 [0,1,4,5,6,7,8,9,18] ?_;simp only[go_sem,ntmps252,f252])
 refine Ex.loop (ι:=Nat × (St × A)) (λc=>[(0,.ptr r 0),(6,.list none (l.map .str)),(7,.int .i64 (l.length:Nat)),(8,.int .i64 (c.1:Nat))])
  (λc=>c.2.1) (λc=>c.1<=l.length/\WrS c.2.1 r M c.2.2 (lV m (l.take c.1))/\Stp r U c.2.2 s c.2.1) (λc=>l.length-c.1) (0,(s,U)) ⟨aU _,hw,Stp.refl r U s⟩ ?_ (aM s) ?_
 ·(simp only[go_sem];try exact rfl)
 .rintro⟨i,s1,v1⟩ ⟨hi,z,u⟩;simp only at hi z u;refine bE (V:=[0,1,4,5,6,7,8,9,18]) _ _ _ _ ?_;simp only[go_sem]
  (apply aT<;>intro h)<;>simp only[go_sem,h]
  .have B:i<l.length:=gQ h;clear h;obtain⟨y,hy⟩:∃a,l[i]?=some a:=⟨_,aX B⟩
   have w1:=cF i aC;have d0:decide ((0:Int)<(i:Int))=decide (0<i):=by rw[gV];omega
   have b2:=aGR (l.take i) m;rw[cQ,yH hi]at b2;simp only[go_sem,hy,B];refine aBg (dU [y] r M v1 _ s1 _ _ z (by simp only[aG,aH];omega) (λs2 v2 Z H=>?_));have b4:WrS s2 r M v2 (lV m (l.take i)++[(y,oL (lV m (l.take i)) y)]):=Z;cases h0:decide (0<i)with
   | false =>
    obtain rfl:i=0:=by have:¬ 0<i:=gQ h0;omega
    simp only[go_sem,d0,h0,Int.reduceLT];refine⟨(1,s2,v2),⟨B,by rw[aP6 hy];exact Z,u.trans H⟩,aP,w1,aM _⟩
   | true =>
    have b0:0<i:=gQ h0;obtain⟨bx,cap,J,rfl,b6,b3,bb,S,b9,b7,b5⟩:=b4.shut;have w2:IntKind.i64.wrap (((lV m (l.take i)).length+1:Nat)-1:Int)=(((lV m (l.take i)).length:Nat):Int):=by rw[hU _ aC aC];omega
    simp only[go_sem,d0,h0];(refine bO (OT.r 0 13) [] ?_;simp only[go_sem,b6,b3,w2]);refine⟨by omega,by rw[S];omega,⟨(i+1,_,_),⟨B,by rw[aP3 b0 hy];exact b7,(u.trans H).trans b5⟩,aP,w1,?_⟩⟩;have F:=aQX (lV m (l.take i)) y (oL (lV m (l.take i)) y) J;simp only[lP]at F;rw[F];exact aM _
  .have b8:i=l.length:=by have:¬ i<l.length:=gQ h;omega
   subst b8;rw[List.take_length]at z;exact aO (hk _ _ z u)
theorem WrS.new{s:St}{r:Nat}{y z:A}{m:List Wd}(h:WrS s r y z m){p:Nat}(u:s.getO p=none)(o:Ob):WrS (s.setO p o) r y z m :=
 ⟨by rw [aL,aB (cJ h.ob u).2]; exact h.ob,h.one,by
  cases h.line with
  | nil=>exact .nil
  | mg b cap _ J B F O M H=>exact .mg b cap m J (by rw[aL,aB (cJ B u).2];exact B) F O M H⟩
theorem Stp.new1{r:Nat}{y v2:A}{s s':St}{p:Nat}{o:Ob}(z:s.getO p=none)(h:Stp r y v2 (s.setO p o) s'):Stp r y v2 s s' :=
  ⟨fun q x u n m => h.ob q x (by rw [aL,aB (fun e => by subst e; rw [z] at u; cases u)]; exact u) n m,
   λb e=>by
    rcases h.new b e with e|e
    · exact .inl e
    · rw[aL]at e
      split at e
      · cases e
      · exact .inr e,
   λq u=>by
    have:=h.dom q u;rw[aL]at this;split at this
    · cases this
    · exact this,h.tk,h.ls⟩
theorem Stp.keep{r:Nat}{B y v2:A}{s s':St}{u:List Wd}(h:Stp r y v2 s s')(z:WrS s r B y u){p:Nat}{e:TypeId}{cs:List A}(m:s.getO p=some (.cells e cs))(H:e≠149)(h2:e≠156):s'.getO p=some (.cells e cs):=by
 refine h.ob p _ m (λc=>?_) (λc=>?_)
 .subst c;rw[z.ob]at m;cases m;exact H rfl
 .cases z.line with
  | nil=>cases c
  | mg b cap _ J M O U F S=>cases c;rw[M]at m;cases m;exact h2 rfl
inductive WI (s:St) (ex:Option Nat):A->List (List Wd)->Prop
 | nil:WI s ex .nils []
 | mg (b cap:Nat) (LS:List (List Wd)) (vs J:List A) (hb:s.getO b=some (.cells 147 (vs++J))) (hl:vs.length=LS.length) (hc:LS.length<=cap) (hJ:J.length=cap-LS.length) (h1:∀c,c∈vs++J->c.one=true)
   (hv:∀(k:Nat) (v:A) (ws:List Wd),vs[k]?=some v->LS[k]?=some ws->WL s v ws/\∀b,aAg v=some b->ex≠some b):WI s ex (.mg b LS.length cap) LS
structure WfS (s:St) (r:Nat) (vi vl:A) (LS:List (List Wd)) (cur:List Wd):Prop where
 w:WrS s r vi vl cur
 i:WI s (aAg vl) vi LS
def mY:Ob->Prop
 | .cells e _=>e≠149/\e≠147/\e≠156
 | .iter _ _=>True
structure Frm (s s':St):Prop where
 ob:∀p o,s.getO p=some o->mY o->s'.getO p=some o
 dom:∀p,s'.getO p=none->s.getO p=none
 tk:∀t m,s.getT t=some m->s'.getT t=some m
 ls:s'.ls=s.ls
theorem Frm.refl(s:St):Frm s s:=⟨λ_ _ h _=>h,λ_ h=>h,λ_ _ h=>h,rfl⟩
theorem Frm.trans{a b c:St}(h:Frm a b)(u:Frm b c):Frm a c:=⟨λp o x n=>u.ob p o (h.ob p o x n) n,λp e=>h.dom p (u.dom p e),λt m x=>u.tk t m (h.tk t m x),u.ls.trans h.ls⟩
theorem Stp.frm{r:Nat}{F z v2:A}{s s':St}{u:List Wd}(h:Stp r z v2 s s')(B:WrS s r F z u):Frm s s' :=
 ⟨fun p o m y => by
  refine h.ob p o m (λc=>?_) (λc=>?_)
  .subst c;rw[B.ob]at m;cases m;exact y.1 rfl
  .cases B.line with
   | nil=>cases c
   | mg b cap _ J M O S H _=>cases c;rw[M]at m;cases m;exact y.2.2 rfl,h.dom,h.tk,h.ls⟩
theorem Frm.new1{s s':St}{p:Nat}{o:Ob}(u:s.getO p=none)(h:Frm (s.setO p o) s'):Frm s s' :=
  ⟨fun q x m n => h.ob q x (by rw [aL,aB (fun e => by subst e; rw [u] at m; cases m)]; exact m) n,
   λq m=>by
    have:=h.dom q m;rw[aL]at this;split at this
    · cases this
    · exact this,h.tk,h.ls⟩
theorem WL.stp{s s':St}{v:A}{m:List Wd}(h:WL s v m)(F:∀b,aAg v=some b->∀o,s.getO b=some o->s'.getO b=some o):WL s' v m:=by
 cases h with
 | nil=>exact .nil
 | mg b cap _ J H y u B z=>exact .mg b cap m J (F b rfl _ H) y u B z
theorem WfS.step{s s':St}{r:Nat}{B Z v2:A}{S:List (List Wd)}{z y:List Wd}(h:WfS s r B Z S z)(F:Stp r Z v2 s s')(O:WrS s' r B v2 y):WfS s' r B v2 S y:=by
 refine⟨O,?_⟩;cases h.i with
 | nil=>exact .nil
 | mg b cap _ vs J m hl hc hJ h1 hv =>
  refine .mg b cap S vs J (F.keep h.w m aE aE) hl hc hJ h1 (λk v ws hk O=>?_);obtain⟨M,U⟩:=hv k v ws hk O
  have H:∀b,aAg v=some b->∃o,s.getO b=some o:=λb m=>by
   cases M with
   | nil=>cases m
   | mg b' _ _ _ u=>cases m;exact⟨_,u⟩
  refine⟨M.stp λb m o ho=>F.ob b o ho (λc=>?_) (U b m),λb m e=>?_⟩
  .subst c;rw[h.w.ob]at ho;cases M with
   | nil=>cases m
   | mg b' _ _ _ u=>cases m;rw[h.w.ob]at u;cases u
  .rcases F.new b e with e|e
   .exact U b m e
   .obtain⟨o,ho⟩:=H b m;rw[e]at ho;cases ho
theorem WI.app{s:St}{r:Nat}{vi B:A}{H:List (List Wd)}{b0:List Wd}{KV:St->A->Prop}{te:TI}(h:WfS s r vi B H b0)(hl:H.length+1<=4294967296)(hs:te.sz=1)
  (Z:∀s' b n cap,s'.getO r=some (.cells 149 [vi,B])->WfS (s'.setO r (.cells 149 [.mg b n cap,.nils])) r (.mg b n cap) .nils (H++[b0]) []->Frm s (s'.setO r (.cells 149 [.mg b n cap,.nils]))->KV s' (.mg b n cap)):oB nN s 147 te [B] KV vi:=by
 have hw:=h.w;obtain⟨⟨hr,h0,b6⟩,hi⟩:=h;have b3:B.cells=[B]/\B.one=true:=by cases b6<;>exact⟨rfl,rfl⟩
 have hf:flat [B]=[B]:=by simp[flat,b3.1]
 have fin:∀(M:Nat) (m:Nat) (vs S:List A),¬ r=M->vs.length=H.length->H.length+1<=m->S.length=m-(H.length+1)->(∀c,c∈(vs++[B])++S->c.one=true) ->
   (∀p o,s.getO p=some o->mY o->¬ p=M)->(∀(k:Nat) (v:A) (U:List Wd),vs[k]?=some v->H[k]?=some U->WL s v U)->(∀p cs,s.getO p=some (.cells 156 cs)->¬ p=M) ->
   KV (s.setO M (.cells 147 ((vs++[B])++S))) (.mg M (H.length+1) m):=by
  intro M m vs S b2 bd b8 bj b9 bm b5 b7;have g:∀v q,((s.setO M (.cells 147 ((vs++[B])++S))).setO r (.cells 149 [v,.nils])).getO q=if r=q then some (.cells 149 [v,.nils]) else if M=q then some (.cells 147 ((vs++[B])++S)) else s.getO q:=λv q=>by rw[aL,aL]
  have e2:H.length+1=(H++[b0]).length:=by simp
  have bb:∀v (U:List Wd),WL s v U->WL ((s.setO M (.cells 147 ((vs++[B])++S))).setO r (.cells 149 [.mg M (H.length+1) m,.nils])) v U:=λv U y=>by
   refine y.stp λq hq o ho=>?_
   have bl:∃cs,o=.cells 156 cs:=by
    cases y with
    | nil=>cases hq
    | mg b1 _ _ _ bg=>cases hq;rw[bg]at ho;cases ho;exact⟨_,rfl⟩
   obtain⟨cs,rfl⟩:=bl;rw[g,aB (λe=>by subst e;rw[hr]at ho;cases ho),aB (λe=>b7 q cs ho e.symm)];exact ho
  refine Z _ _ _ _ (by rw[aL,aB (λe=>b2 e.symm)];exact hr) ⟨⟨by rw[g,aF rfl],rfl,.nil⟩,?_⟩ ⟨λp o u hn=>?_,λp u=>?_,λ_ _ h=>h,rfl⟩
  .show WI _ none _ _;rw[e2];refine .mg M m (H++[b0]) (vs++[B]) S (by rw[g,aB b2,aF rfl]) (by simp[bd]) (gQ b8) (gQ bj) b9 (λk v U Z y=>⟨?_,λb O=>by simp⟩);rw[<-e2];apply bb;by_cases bf:k<vs.length
   .rw[lC bf]at Z;rw[lC aC]at y;exact b5 k v U Z y
   .rw[pY aC]at Z;rw[pY aC]at y
    have bc:k-vs.length=0:=by
     have:=(eF.1 Z).1;simp at this;omega
    rw[bc]at Z;rw[show k-H.length=0 by omega]at y;cases Z;cases y;exact b6
  .rw[g,aB (λe=>by subst e;rw[hr]at u;cases u;exact hn.1 rfl),aB (λe=>bm p o u hn e.symm)];exact u
  .rw[g]at u;split at u
   .cases u
   .split at u
    .cases u
    .exact u
 cases hi with
 | nil =>
  refine⟨by simp,?_⟩;rw[aKU,hs];refine⟨by simp,λb cap J O F hJ h1=>?_⟩;rw[hf];refine fin b cap [] J (cJ hr O).1 rfl (gQ F) (gQ hJ) (λc F=>?_) (λp o u _ e=>by rw[<-e,u]at O;cases O) (λk v U h=>by cases h) (λp cs u e=>by rw[<-e,u]at O;cases O);simp only[bA,cZ,cC]at F;rcases F with rfl|F
  .exact b3.2
  .exact h1 c F
 | mg b cap _ vs J O b4 F hJ h1 hv =>
  show uI _ _ _ _ _ _ _ _ _ _ _;rw[O];have b2:¬ r=b:=λe=>by subst e;rw[hr]at O;cases O
  rw[hs];refine⟨⟨rfl,rfl,by rw[aI,b4,hJ];omega,F,hl,by simp⟩,λM m S z bk bn bh=>?_⟩
  have e1:(vs++J).take (H.length * 1)++(flat [B]++S)=(vs++[B])++S:=by
   rw[Nat.mul_one,<-b4,List.take_left' rfl,hf,bG]
  rw[e1];refine fin M m vs S (λe=>?_) b4 (gQ bk) (gQ bn) (λc F=>?_) (λp o u hn e=>?_) (λk v U Z y=>(hv k v U Z y).1) (λp cs u e=>?_)
  .rcases z with⟨rfl,_⟩|z
   .exact b2 e
   .exact(cJ hr z).1 e
  .simp only[cZ,cC]at F;rcases F with(F|rfl)|F
   .exact h1 c (List.mem_append_left _ F)
   .exact b3.2
   .exact bh c F
  .subst e;rcases z with⟨rfl,_⟩|z
   .rw[O]at u;cases u;exact hn.2.1 rfl
   .rw[z]at u;cases u
  .subst e;rcases z with⟨rfl,_⟩|z
   .rw[O]at u;cases u
   .rw[z]at u;cases u
theorem rL(r:Nat)(vi vl:A)(LS:List (List Wd))(h:List Wd)(s:St)(KV Kp:St->A->Prop)(Z:WfS s r vi vl LS h)(hl:h.length+1<=4294967296)(S:LS.length+1<=4294967296)
  (hk:∀s' U,WfS s' r U .nils (LS++[aJ h [46]]) []->Frm s s'->KV s' (.tuple [])):Den cx 178 [.ptr r 0] KV Kp s:=by
 (refine gBm func178 [0] ?_;simp only[go_sem,ntmps178,f178]);refine aBg (dU [[46]] r vi vl h s _ _ Z.w (gQ hl) (λs1 v1 m u=>?_));have z:=m.ob;have F:=Z.step u m
 obtain⟨b1,n1,c1,rfl⟩:∃b n c,v1=.mg b n c:=by
  have hl:=m.line;generalize H:bF h [[46]]=cc at hl;cases hl with
  | nil=>have:=fT [[46]] h;rw[H]at this;simp at this
  | mg b cap _ J _ _ _ _ _=>exact⟨_,_,_,rfl⟩
 simp only[go_sem,z];(refine bO (OT.r 0 14) [] ?_;simp only[go_sem,z]);refine⟨by decide,λy hy=>by rw[cC.1 hy];rfl,WI.app F S rfl (λs2 b n cap M O B=>?_)⟩;simp only[go_sem,M];exact aO (hk _ _ O ((u.frm Z.w).trans B))
section
section
variable {s:St} {KV Kp:St->A->Prop}
theorem aGu:A.le .emp (.list none []):=λg v h=>by
 obtain⟨a,rfl⟩:=h.emp_inv;exact .list0 none (some a) 0 (aU _) (λt e=>by cases e)
theorem aOL(l:List A)(z:∀y,y∈l->y.cells.length=1)(hl:l.length<=4294967296)(h:KV s (.list none l)):Den cx 266 [.list none l] KV Kp s:=by
 (refine aR func266 [0,2,4] ?_;simp only[go_sem,ntmps266,f266]);cases l with
 | nil =>
  simp only[go_sem,false_or];exact⟨DK.mk h (aM _) A.le.nil,by decide,λy B=>(by cases B),DK.mk h (aM _) aGu⟩
 | cons x r =>
  have m:r.length<=4294967295:=Nat.le_of_succ_le_succ hl;simp only[go_sem];refine⟨by decide,z,m,?_⟩;intro t u;simp only[go_sem];exact DK.mk h (yL u) (iQ (some t) (x::r) (λe=>by cases e))
theorem aFD(l:List A)(z:∀y,y∈l->y.cells.length=1)(hl:l.length<=4294967296)(h:KV s (.list none l)):Den cx 268 [.list none l] KV Kp s:=by
 (refine aR func268 [0,2,4] ?_;simp only[go_sem,ntmps268,f268]);cases l with
 | nil =>
  simp only[go_sem,false_or];exact⟨DK.mk h (aM _) A.le.nil,by decide,λy B=>(by cases B),DK.mk h (aM _) aGu⟩
 | cons x r =>
  have m:r.length<=4294967295:=Nat.le_of_succ_le_succ hl;simp only[go_sem];refine⟨by decide,z,m,?_⟩;intro t u;simp only[go_sem];exact DK.mk h (yL u) (iQ (some t) (x::r) (λe=>by cases e))
end
end
theorem aSe:A.le .nils (.list none []):=A.le.nil
theorem aTe:A.le .emp (.list none []):=aGu
def PcK(s:St)(h:List Piece)(K:St->A->Prop):Prop:=match h with
 | []=>K s .nils/\K s .emp
 | p::r=>∀b cap J,s.getO b=none->(p::r).length<=cap->J.length=(cap-(p::r).length) * 2->(∀c,c∈J->c.one=true)->K (s.setO b (.cells 143 (flat ((p::r).map Piece.enc)++J))) (.mg b (p::r).length cap)
theorem aQa(l:List Piece)(hl:l.length<=4294967295)(s:St)(KV Kp:St->A->Prop)(m:PcK s l KV):Den cx 267 [.list none (l.map Piece.enc)] KV Kp s:=by
 cases l with
 | nil =>
  (refine aR func267 [0,2,4] ?_;simp only[go_sem,ntmps267,f267]);exact .inr ⟨aO m.1,by decide,λy h=>by(cases h),aO m.2⟩
 | cons x r =>
  (refine gBm func267 [0,2,4] ?_;simp only[go_sem,ntmps267,f267]);refine⟨by decide,λy h=>?_,by simp only[aG]at hl;omega,λb cap J B z u F=>?_⟩
  .rcases List.mem_cons.1 h with rfl|h
   .rfl
   .obtain⟨_,_,rfl⟩:=cH.1 h;rfl
  .exact aO (m b cap J B z u F)
theorem aOg(o:Opr)(ha:o.args.length<=4294967295)(M:o.pieces.length<=4294967295)(Z:o.strict.length<=4294967295)(s:St)(KV Kp:St->A->Prop)
  (z:PcK s o.pieces (λs' v=>KV s' (.agg [.str o.name,.list none (o.args.map .str),.str o.sort,v,.int .i64 o.prec,.int .i64 o.assoc,.list none (o.strict.map (.int .i64))]))):Den cx 201 [.agg o.cs] KV Kp s:=by
 (refine aR func201 [0,1,2] ?_;simp only[go_sem,ntmps201,f201]);(refine aQ λU h=>?_);simp only[go_sem,h];(refine aQ λp2 m=>?_);simp only[go_sem,h,m];(refine bO (OT.l [0,1,3,4,6,7,2,9,5,8,10,11,12,13,14] .nil) [(2,[4,7]),(5,[7])] ?_;simp only[go_sem,h,m]);refine aOL (o.args.map .str) (λy u=>by obtain⟨_,_,rfl⟩:=cH.1 u;rfl) (by rw[aK];omega) ?_;simp only[go_sem,h,m];refine aQa o.pieces M _ _ _ ?_;cases F:o.pieces with
 | nil =>
  rw[F]at z;refine⟨?_,?_⟩
  .simp only[go_sem,h,m];refine aFD (o.strict.map (.int .i64)) (λy u=>by obtain⟨_,_,rfl⟩:=cH.1 u;rfl) (by rw[aK];omega) ?_;simp only[go_sem,h,m];exact aS z.1 bC
  .simp only[go_sem,h,m];refine aFD (o.strict.map (.int .i64)) (λy u=>by obtain⟨_,_,rfl⟩:=cH.1 u;rfl) (by rw[aK];omega) ?_;simp only[go_sem,h,m];exact aS z.2 bC
 | cons q r =>
  rw[F]at z;intro b cap J B H S O;simp only[jE,dG]at B;simp only[go_sem,h,m,B];refine aFD (o.strict.map (.int .i64)) (λy u=>by obtain⟨_,_,rfl⟩:=cH.1 u;rfl) (by rw[aK];omega) ?_;simp only[go_sem,h,m,B];refine aS (z b cap J B.2.2 H S O) ?_;exact bC
def St.delO(s:St)(b:Nat):St:={ s with ob:=λu=>if u=b then none else s.ob u,ov:=aAr b s.ov }
theorem aFH(s:St)(b q:Nat):(s.delO b).getO q=if q=b then none else s.getO q:=aGD b s.ob q s.ov
theorem R.shutB{C:Ctx}{F:Fr}{g:Gh}{s:St}{w:World}(h:R C F g s w){b:Nat}{e:TypeId}{cs:List A}(hb:s.getO b=some (.cells e cs)) :
  ∃k vs,g.beta b=some k/\Rzs g cs vs/\g.le (g.know k (vs))/\R C F (g.know k vs) (s.delO b) w:=by
 obtain⟨k,Z,⟨vs,rest,M,S,h1⟩,y,hF⟩:=h.obj b _ hb;have u:=aC8 y vs
 have z:∀q o,(s.delO b).getO q=some o->q≠b/\s.getO q=some o:=λq o ho=>by
  rw[aFH]at ho;split at ho
  .cases ho
  .exact⟨‹_›,ho⟩
 have O:∀{c:Nat},g.pi c≠none->c≠k:=λm e=>m (e▸y)
 have H:∀{c:Nat},c≠k->(g.know k vs).pi c=g.pi c:=λm=>by simp only[Gh.know,m,↓reduceIte]
 refine⟨k,vs,Z,S,u,?_⟩;refine⟨λq o ho=>?_,λt n e' ht=>?_,h.sep,λc pre m=>?_,λc o ho=>?_,λc cs' m=>?_,h.fsh,h.bet,h.inj,h.dtm,λx M=>(h.lst x M).mono u,h.bfr,h.env⟩
 .obtain⟨n1,U⟩:=z q o ho;obtain⟨k',a1,a2,a3,a4⟩:=h.obj q o U;have:k'≠k:=λe=>n1 (h.inj q b k (e▸a1) Z)
  exact⟨k',a1,a2.mono u,by rw[H this];exact a3,a4⟩
 .obtain⟨v,xs,a1,a2,a3,a4⟩:=h.tok t n e' ht;refine⟨v,xs,a1,a2,a3,λc m=>?_⟩;obtain⟨b1,b2⟩:=a4 c m;exact⟨by rw[H (O (by rw[b1];simp))];exact b1,b2⟩
 .by_cases B:c=k
  .subst B;simp only[Gh.know,↓reduceIte,bQ]at m;subst m;exact⟨rest,e,_,M⟩
  .rw[H B]at m;exact h.pis c pre m
 .obtain⟨a1,a2⟩:=h.frm c o ho;have:c≠k:=λe=>by rw[e,hF]at ho;cases ho
  exact⟨a1,by rw[H this];exact a2⟩
 .obtain⟨pre,ty,fr,a1,a2,a3,a4⟩:=h.glb c cs' m;exact⟨pre,ty,fr,a1,a2,a3,λj x v hj S=>(a4 j x v hj S).mono u⟩
theorem aOF{α:Type}{l:List α}{i:Nat}{x:α}(h:l[i]?=some x)(J:List α):(l++J)[i]?=some x:=by
 rw[lC (eF.1 h).1];exact h
theorem aSr{g:Gh}{b cap sz k:Nat}{es J:List A}{vs:List Value}{v:Value}(M:g.beta b=some k)(u:Rzs g (flat es++J) vs)(m:∀e,e∈es->e.cells.length=sz)(S:∀e,e∈es->∀c,c∈e.cells->c.one=true)
  (z:g.le (g.know k vs))(h:Rz (g.know k vs) (.mg b es.length cap) v):Rz (g.know k vs) (.list none es) v:=by
 obtain⟨O,rfl,Z,H,hm⟩:=h.mg_inv;have y:g.beta b=some O:=Z;rw[M]at y;cases y;have hl:=u.1;rw[aI,yM m]at hl;refine .list none es k 0 sz cap vs (by simp[Gh.know]) aC H hm m S (λi e j c v F U B=>?_) (λt h=>by cases h);have:=aLb m F U;rw[fH]at B;exact(u.2 (i * sz+j) c v (aOF this J) B).mono z
theorem Ex.shut{C:Cx}{n:Nat}{c:Code}{Q:XK->Env->St->Prop}{ev:Env}{s:St}{b q i cap sz:Nat}{e eq:TypeId}{es J z:List A}(hb:s.getO b=some (.cells e (flat es++J)))(hq:s.getO q=some (.cells eq z))(S:q≠b)
  (hi:z[i]?=some (.mg b es.length cap))(b0:∀e,e∈es->e.cells.length=sz)(h1:∀e,e∈es->∀c,c∈e.cells->c.one=true)
  (h:Ex C n c Q ev ((s.delO b).setO q (.cells eq (z.set i (.list none es))))):Ex C n c Q ev s:=λF g w a hR he=>by
 obtain⟨k,vs,hk,U,m,u⟩:=hR.shutB hb;have y:(s.delO b).getO q=some (.cells eq z):=by rw[aFH,aB S];exact hq
 obtain⟨k2,M,⟨us,rest,e1,Z,e3⟩,b2,hF⟩:=u.obj q _ y
 have O:R C.toCtx F (g.know k vs) ((s.delO b).setO q (.cells eq (z.set i (.list none es)))) w:=by
  refine u.setObj y M (λj _=>rfl) ⟨us,rest,e1,⟨by rw[List.length_set];exact Z.1,λj x v B hv=>?_⟩,λc H=>?_⟩
  .by_cases hj:i=j
   .subst hj;rw[List.getElem?_set_self (eF.1 hi).1]at B;cases B;exact aSr hk U b0 h1 m (Z.2 i _ v hi hv)
   .rw[List.getElem?_set_ne hj]at B;exact Z.2 j x v B hv
  .rcases yE H with H|rfl
   .exact e3 c H
   .rfl
 exact qF (λex a' w' hp=>Post.mono m hp λ_ _ _ h=>h) (h F (g.know k vs) w a O (he.mono m))
section
theorem aSl{f:FuncId}{caps:List A}{L:List (Nat × Ob)}{φ:aD->aD}(h:FnK f caps L φ)(y:LenS φ)(p:Nat):FnK 110 [.ptr p 0] ((p,.cells 162 [.fn f [] caps])::L) (pX φ):=by
 intro x s KV Kp H F m;have B:=F _ (bU ..);simp only at B;unfold pX at m;show Den cx 110 [.str x,.ptr p 0] KV Kp s;(refine aR func110 [0,1,3,4,5] ?_;simp only[go_sem,ntmps110,f110]);refine aGh _ _ _ _ aC ?_;have M:(140737488355328:Nat)+140737488355328<=maxLen:=by decide
 cases hf:rS x
 .rw[hf]at m;simp only[cE,bR]at m⊢;simp only[go_sem,B];refine h x s _ _ H (λp z=>F p (cP _ z)) ?_;have:=y x H;simp only[go_sem];refine⟨by omega,?_⟩;rw[eH];exact aO m
 .rw[hf]at m;simp only[bT]at m⊢;simp only[go_sem,B];have u:(x.take (x.length-2)).length<=140737488355328:=by rw[cQ];omega
  refine h _ s _ _ u (λp z=>F p (cP _ z)) ?_;have:=y _ u;simp only[go_sem];refine⟨by rw[eC];omega,?_⟩;exact aO m
def rG(φ:aD->aD)(p:Piece):Piece:={ p with sort:=pD φ p.sort }
def lL(op φ:aD->aD)(o:Opr):Opr:={ o with name:=op o.name,args:=o.args.map φ,sort:=φ o.sort,pieces:=o.pieces.map (rG φ) }
structure OprB (o:Opr):Prop where
 n:o.name.length<=140737488355328
 s:o.sort.length<=140737488355328
 an:o.args.length<=4294967295
 a:∀x,x∈o.args->x.length<=140737488355328
 pn:o.pieces.length<=4294967295
 p:∀x,x∈o.pieces->x.sort.length<=140737488355328
 t:o.strict.length<=4294967295
theorem aKv{l:List Opr}{y:A}(h:y∈l.map Opr.enc):y.cells.length=7:=by
 obtain⟨z,_,rfl⟩:=cH.1 h;rfl
def PF(l:List Piece):List A:=flat (l.map Piece.enc)
theorem aMH(a b:List Piece):PF (a++b)=PF a++PF b:=by simp[PF,flat]
theorem aHd(x:Piece)(b:List Piece):PF (x::b)=x.cs++PF b:=rfl
theorem aM6(l:List Piece):(PF l).length=2 * l.length:=by
 induction l with
 | nil=>rfl
 | cons x r h=>rw[aHd,aI,h];simp[Piece.cs];omega
def uZ(φ:aD->aD)(P:List Piece)(j:Nat):List Piece:=(P.take j).map (rG φ)++P.drop j
theorem aUQ(φ:aD->aD){P:List Piece}{j:Nat}{x:Piece}(h:P[j]?=some x):uZ φ P j=(P.take j).map (rG φ)++x::P.drop (j+1)/\uZ φ P (j+1)=(P.take j).map (rG φ)++rG φ x::P.drop (j+1):=by
 refine⟨by rw[uZ,aJT h],?_⟩;rw[uZ,fD,h,cN,bG];rfl
theorem aT3(a b:List Piece)(x:Piece)(J:List A):((PF (a++x::b)++J).drop (a.length * 2)).take 2=x.cs/\a.length * 2+2<=(PF (a++x::b)++J).length:=by
 have e:PF (a++x::b)++J=PF a++(x.cs++(PF b++J)):=by rw[aMH,aHd];simp
 have hl:(PF a).length=a.length * 2:=by rw[aM6];omega
 refine⟨by rw[e,List.drop_left' hl];rfl,?_⟩;rw[e,aI,hl];simp[Piece.cs]
theorem aU2(a b:List Piece)(x:Piece)(z:aD)(J:List A):(PF (a++x::b)++J).set (a.length * 2+1) (.str z)=PF (a++⟨x.text,z⟩::b)++J:=by
 have e:∀y:Piece,PF (a++y::b)++J=PF a++(y.cs++(PF b++J)):=λy=>by rw[aMH,aHd];simp
 have hl:(PF a).length=a.length * 2:=by rw[aM6];omega
 rw[e,e,List.set_append_right _ _ aC,hl];simp[Piece.cs,show a.length * 2+1-a.length * 2=1 by omega]
theorem aTK{s:St}{b q:Nat}{B M O:Ob}{tk:Option Nat}{n:Nat}{e:TypeId}(S:s.getO b=none)(F:¬ q=b):(((gs ((s.setO q B).setO b M) tk n e).delO b).setO q O).ge (gs (s.setO q O) tk n e):=by
 refine⟨λc x u=>?_,λt m U=>?_,λy H=>?_⟩
 .rw[cO,aL]at u;rw[aL,aFH,cO,aL,aL];by_cases h:q=c
  .rw[aF h]at u⊢;exact u
  .have z:¬ c=b:=λe=>by rw[aB h,e,S]at u;cases u
   rw[aB h]at u⊢;rw[aB z,aB (λe=>z e.symm),aB h];exact u
 .cases tk<;>exact U
 .cases tk<;>exact H
section
variable {f:FuncId} {caps:List A} {L:List (Nat × Ob)} {φ:aD->aD} (hf:ChF f caps L φ) {fo:FuncId} {co:List A} {op:aD->aD} (ho:FnK fo co L op)
include hf ho
theorem aJc(l:List Opr)(hl:l.length<=4294967295)(hw:∀o,o∈l->OprB o)(c1 c2 c3:Nat)(s:St)(KV Kp:St->A->Prop)(hK:Kn L s)
  (g1:s.getO c1=some (.cells 116 [.fn fo [] co]))(U:s.getO c2=some (.cells 215 [.fn 199 [] []]))(Z:s.getO c3=some (.cells 116 [.fn f [] caps]))
  (hk:KV s (.list none ((l.map (lL op φ)).map Opr.enc))):Den cx 200 [.list none (l.map Opr.enc),.ptr c1 0,.ptr c2 0,.ptr c3 0] KV Kp s:=by
 (refine aR func200 [0,1,2,3,5,6,8,9,10,11,12,13,14,36,37,38,39,45] ?_;simp only[go_sem,ntmps200,f200])
 refine Ex.loop (ι:=Nat × Option Nat) (λc=>[(1,.ptr c1 0),(2,.ptr c2 0),(3,.ptr c3 0),(6,gv c.2 (((l.take c.1).map (lL op φ)).map Opr.enc)),(11,.list none (l.map Opr.enc)),(12,.int .i64 (l.length:Nat)),(13,.int .i64 (c.1:Nat))])
  (λc=>gs s c.2 ((l.take c.1).map (lL op φ)).length 73)
  (λc=>((c.2=none->(l.take c.1).map (lL op φ)=[])/\∀t,c.2=some t->s.getT t=none)/\c.1<=l.length) (λc=>l.length-c.1) (0,none) ⟨⟨λ_=>rfl,λt e=>(by cases e)⟩,aU _⟩ ?_ (by exact aM _) ?_
 .simp only[go_sem]
  first|done|exact rfl|exact⟨rfl,rfl⟩
 .rintro⟨i,tk⟩ ⟨⟨O,H⟩,hi⟩;simp only at O H hi;refine Ex.seq (bE (V:=[0,1,2,3,5,6,8,9,10,11,12,13,14,36,37,38,39,45]) _ _ _ _ ?_);simp only[go_sem];refine Ex.seq (bE (V:=[0,1,2,3,5,6,8,9,10,11,12,13,14,36,37,38,39,45]) _ _ _ _ ?_);simp only[go_sem]
  (apply aT<;>intro h)<;>simp only[go_sem,h]
  .have b2:i<l.length:=gQ h;clear h;obtain⟨x,hx⟩:∃a,l[i]?=some a:=⟨_,aX b2⟩
   have b5:=sM (lL op φ) hx;have S:=hw x (bZ hx);refine Ex.seq (Ex.block ?_);refine Ex.seq (bE (V:=[0,1,2,3,5,6,8,9,10,11,12,13,14,36,37,38,39,45]) _ _ _ _ ?_);simp only[go_sem,hx,b2];(refine iK λb8 m=>?_);simp only[go_sem,hx,b2,m];refine Ex.seq (bE (V:=[0,1,2,3,5,6,8,9,10,11,12,13,14,36,37,38,39,45]) _ _ _ _ ?_);simp only[go_sem,m];refine aOg x S.an S.pn S.t _ _ _ ?_;have n1:=cJ g1 m;have n2:=cJ U m;have n3:=cJ Z m;cases hq:x.pieces with
   | nil =>
    refine⟨?_,?_⟩
    all_goals (
     simp only[go_sem,m];refine Ex.seq (bE (V:=[0,1,2,3,5,6,8,9,10,11,12,13,14,36,37,38,39,45]) _ _ _ _ ?_);simp only[go_sem];(refine bO (OT.l [0,1,2,4,5,6,7,9,10,11,3,13,8,12,14,15,16,17,18] .nil) [(3,[4,6,7,9,11]),(8,[9,11])] ?_;simp only[go_sem,m,n1,n2,n3,g1,U,Z]);refine ho x.name _ _ _ S.n (Kn.gs (hK.ge bC) _ _ _) ?_;simp only[go_sem,m,n1,n2,n3,g1,U,Z];refine aC2 hf x.args S.an S.a _ _ _ (Kn.gs (hK.ge bC) _ _ _) ?_;simp only[go_sem,m,n1,n2,n3,g1,U,Z];refine hf.fn x.sort _ _ _ S.s (Kn.gs (hK.ge bC) _ _ _) ?_;simp only[go_sem,m,n1,n2,n3,g1,U,Z];refine Ex.seq (bE (V:=[0,1,2,3,5,6,8,9,10,11,12,13,14,36,37,38,39,45]) _ _ _ _ ?_);simp only[go_sem,m];refine Ex.loop (ι:=Unit) (λ_=>[(1,.ptr c1 0),(2,.ptr c2 0),(3,.ptr c3 0),(6,gv tk (((l.take i).map (lL op φ)).map Opr.enc)),(8,.ptr b8 0),(11,.list none (l.map Opr.enc)),(12,.int .i64 (l.length:Nat)),(13,.int .i64 (i:Nat)),(37,.int .i64 0),(38,.int .i64 0)]) (λ_=>_) (λ_=>True) (λ_=>0) () trivial ?_ (aM _) ?_
     .simp only[go_sem]
      first|done|exact rfl|exact⟨rfl,rfl⟩
     rintro⟨⟩ -;refine bE (V:=[0,1,2,3,5,6,8,9,10,11,12,13,14,36,37,38,39,45]) _ _ _ _ ?_;simp only[go_sem,Int.reduceLT]
     refine Ex.soft (b:=b8) (e:=73) (cs:=[.str (op x.name),.list none ((x.args.map φ).map .str),.str (φ x.sort),_,.int .i64 x.prec,.int .i64 x.assoc,.list none (x.strict.map (.int .i64))]) (cs':=(lL op φ x).cs) gH
      ⟨⟨bH _,rfl⟩,⟨bH _,rfl⟩,⟨bH _,rfl⟩,⟨by rw[show(lL op φ x).pieces=[]by simp[lL,hq]];first|exact aSe|exact aTe,rfl⟩,⟨bH _,rfl⟩,⟨bH _,rfl⟩,⟨bH _,rfl⟩,trivial⟩ ?_
     refine bE (V:=[0,1,2,3,5,6,8,9,10,11,12,13,14,36,37,38,39,45]) _ _ _ _ ?_;simp only[go_sem,m];refine⟨by decide,λy hy=>by simp only[cC]at hy;subst hy;rfl,eI rfl rfl (tN O) (λy hy=>aKv hy) (by simp only[aK,cQ,aG,aH];omega) (λu hu=>?_)⟩;have b4:=gI hu H;rw[fY hu];simp only[go_sem,m];refine bE (V:=[0,1,2,3,5,6,8,9,10,11,12,13,14,36,37,38,39,45]) _ _ _ _ ?_;simp only[go_sem];refine⟨(i+1,some u),⟨⟨λh=>(by cases h),λt h=>by cases h;exact b4⟩,b2⟩,aP,⟨?_,cF i aC⟩,?_⟩
     .simp only[go_sem,dF,b5,cN]
     .rw[show(l.take i).length+1=(l.take (i+1)).length by simp only[cQ];omega];exact gR bC)
   | cons p0 r0 =>
    have b3:=S.p;have b9:=S.pn;have M:(lL op φ x).pieces=(x.pieces).map (rG φ):=rfl;rw[hq]at b3 b9 M;obtain⟨P,hP⟩:∃P,P=p0::r0:=⟨_,rfl⟩
    rw[<-hP]at b3 b9 M;intro b cap J B b7 hJ bn;rw[<-hP]at b7 hJ⊢;simp only[cO,jE,dG]at B;simp only[go_sem,m,B];refine Ex.seq (bE (V:=[0,1,2,3,5,6,8,9,10,11,12,13,14,36,37,38,39,45]) _ _ _ _ ?_);simp only[go_sem];have m1:=cJ g1 B.2;have m2:=cJ U B.2;have m3:=cJ Z B.2;(refine bO (OT.l [0,1,2,4,5,6,7,9,10,11,3,13,8,12,14,15,16,17,18] .nil) [(3,[4,6,7,9,11]),(8,[9,11])] ?_;simp only[go_sem,m,B,n1,n2,n3,m1,m2,m3,g1,U,Z]);refine ho x.name _ _ _ S.n (Kn.gs (hK.ge bC) _ _ _) ?_;simp only[go_sem,m,B,n1,n2,n3,m1,m2,m3,g1,U,Z];refine aC2 hf x.args S.an S.a _ _ _ (Kn.gs (hK.ge bC) _ _ _) ?_;simp only[go_sem,m,B,n1,n2,n3,m1,m2,m3,g1,U,Z];refine hf.fn x.sort _ _ _ S.s (Kn.gs (hK.ge bC) _ _ _) ?_;simp only[go_sem,m,B,n1,n2,n3,m1,m2,m3,g1,U,Z];refine Ex.seq (bE (V:=[0,1,2,3,5,6,8,9,10,11,12,13,14,36,37,38,39,45]) _ _ _ _ ?_);simp only[go_sem,m,B];have bd:flat (P.map Piece.enc)++J=PF (uZ φ P 0)++J:=by simp[uZ,PF]
    rw[bd]
    refine Ex.loop (ι:=Nat) (λj=>[(1,.ptr c1 0),(2,.ptr c2 0),(3,.ptr c3 0),(6,gv tk (((l.take i).map (lL op φ)).map Opr.enc)),(8,.ptr b8 0),(11,.list none (l.map Opr.enc)),(12,.int .i64 (l.length:Nat)),(13,.int .i64 (i:Nat)),(36,.mg b P.length cap),(37,.int .i64 (P.length:Nat)),(38,.int .i64 (j:Nat))])
     (λj=>gs ((s.setO b8 (.cells 73 [.str (op x.name),.list none ((x.args.map φ).map .str),.str (φ x.sort),.mg b P.length cap,.int .i64 x.prec,.int .i64 x.assoc,.list none (x.strict.map (.int .i64))])).setO b (.cells 143 (PF (uZ φ P j)++J))) tk (l.take i).length 73)
     (λj=>j<=P.length) (λj=>P.length-j) 0 (aU _) ?_ bC ?_
    .simp only[go_sem]
     first|done|exact rfl|exact⟨rfl,rfl⟩
    .intro j hj;refine bE (V:=[0,1,2,3,5,6,8,9,10,11,12,13,14,36,37,38,39,45]) _ _ _ _ ?_;simp only[go_sem]
     (apply aT<;>intro h)<;>simp only[go_sem,h]
     .have b0:j<P.length:=gQ h;clear h;obtain⟨y,hy⟩:∃a,P[j]?=some a:=⟨_,aX b0⟩
      have w1:=cF j aC;have bg:=b3 y (bZ hy);obtain⟨a1,a2⟩:=aUQ φ hy;have b6:((P.take j).map (rG φ)).length=j:=by rw[aK,cQ];omega
      have e0:=aT3 ((P.take j).map (rG φ)) (P.drop (j+1)) y J;rw[b6,<-a1]at e0;obtain⟨e1,e2⟩:=e0;have bh:(j * 2+2<=(PF (uZ φ P j)++J).length)=True:=eq_true e2;simp only[go_sem,B,b0,e1,bh,bT];(refine iK λbm F=>?_);simp only[go_sem,B,m,F];cases hs:decide (y.sort=[])
      .have bc:¬ y.sort=[]:=gQ hs;have q1:=cJ g1 F.2.2;have q2:=cJ U F.2.2;have q3:=cJ Z F.2.2;simp only[go_sem,hs];(refine bO (OT.r 0 10) [(6,[1])] ?_;simp only[go_sem,B,m,F,n1,n2,n3,m1,m2,m3,q1,q2,q3,g1,U,Z]);refine hf.fn y.sort _ _ _ bg (Kn.gs (hK.ge bC) _ _ _) ?_;simp only[go_sem,B,m,F];have es:=aU2 ((P.take j).map (rG φ)) (P.drop (j+1)) y (φ y.sort) J;rw[b6,<-a1,show(⟨y.text,φ y.sort⟩:Piece)=rG φ y by rw[rG,pD,aB bc],<-a2]at es;refine⟨b0,by omega,j+1,b0,by omega,w1,?_⟩;rw[es];exact bC
      .simp only[go_sem,hs];have bj:rG φ y=y:=by rw[rG,pD,aF (sJ hs),<-sJ hs]
       refine⟨j+1,b0,by omega,w1,?_⟩;rw[a2,bj,<-a1];exact bC
     .have bf:j=P.length:=by have:¬ j<P.length:=gQ h;omega
      subst bf;clear h;have bb:uZ φ P P.length=(lL op φ x).pieces:=by rw[M,uZ,List.take_length,aIh,eH]
      rw[bb];have bk:P.length=((lL op φ x).pieces.map Piece.enc).length:=by rw[M,aK,aK]
      rw[bk];refine Ex.shut (b:=b) (q:=b8) (i:=3) (es:=(lL op φ x).pieces.map Piece.enc) (J:=J) (sz:=2) (cap:=cap) gH gH (λe=>B.1.1 e) (by simp only[List.getElem?_cons_succ,lM,M,aK];rw[hP]) (λe he=>by obtain⟨_,_,rfl⟩:=cH.1 he;rfl) (λe he c hc=>?_) ?_
      .obtain⟨z,_,rfl⟩:=cH.1 he;simp only[Piece.enc,Piece.cs,A.cells,eA,List.mem_nil_iff,eS]at hc;rcases hc with rfl|rfl<;>rfl
      refine Ex.weaken (s':=gs (s.setO b8 (.cells 73 (lL op φ x).cs)) tk (l.take i).length 73) (Env.ge.refl _) ?_ ?_
      .exact aTK B.2 (λe=>B.1.1 e)
      refine bE (V:=[0,1,2,3,5,6,8,9,10,11,12,13,14,36,37,38,39,45]) _ _ _ _ ?_;simp only[go_sem,m];refine⟨by decide,λy hy=>by simp only[cC]at hy;subst hy;rfl,eI rfl rfl (tN O) (λy hy=>aKv hy) (by simp only[aK,cQ,aG,aH];omega) (λu hu=>?_)⟩;have b4:=gI hu H;rw[fY hu];simp only[go_sem,m];refine bE (V:=[0,1,2,3,5,6,8,9,10,11,12,13,14,36,37,38,39,45]) _ _ _ _ ?_;simp only[go_sem];refine⟨(i+1,some u),⟨⟨λh=>(by cases h),λt h=>by cases h;exact b4⟩,b2⟩,aP,⟨?_,cF i aC⟩,?_⟩
      .simp only[go_sem,dF,b5,cN]
      .rw[show(l.take i).length+1=(l.take (i+1)).length by simp only[cQ];omega];exact gR bC
  .have bl:i=l.length:=by have:¬ i<l.length:=gQ h;omega
   subst bl;rw[List.take_length]at O⊢;exact DK.mk hk (lI (aM _) H) (iQ _ _ (λe=>by rw[O e];rfl))
end
end
section
def chB(φ:aD->aD)(b:Below):Below:=⟨φ b.low,φ b.high⟩
def yA(op φ:aD->aD)(x:Sig):Sig:=⟨x.sorts.map φ,x.below.map (chB φ),x.ops.map (lL op φ),x.funs.map (lL op φ),x.values.map φ⟩
structure StrsB (l:List aD):Prop where
 n:l.length<=4294967295
 s:∀x,x∈l->x.length<=140737488355328
structure SigB (x:Sig):Prop where
 so:StrsB x.sorts
 va:StrsB x.values
 bn:x.below.length<=4294967295
 b:∀y,y∈x.below->y.low.length<=140737488355328/\y.high.length<=140737488355328
 on:x.ops.length<=4294967295
 o:∀y,y∈x.ops->OprB y
 fn:x.funs.length<=4294967295
 f:∀y,y∈x.funs->OprB y
theorem aRg{l:List Below}{y:A}(h:y∈l.map Below.enc):y.cells.length=2:=by
 obtain⟨z,_,rfl⟩:=cH.1 h;rfl
section
variable {f:FuncId} {caps:List A} {L:List (Nat × Ob)} {φ:aD->aD} (hf:ChF f caps L φ) {fo:FuncId} {co:List A} {op:aD->aD} (ho:FnK fo co L op)
include hf ho
theorem aP8(x:Sig)(hx:SigB x)(s:St)(KV Kp:St->A->Prop)(hK:Kn L s)(hk:KV s (yA op φ x).enc):Den cx 112 [.agg x.cs,.fn f [] caps,.fn fo [] co] KV Kp s:=by
 (refine aR func112 [0,1,2,3,4,5,6,7,8,9,11,33,34,35,36] ?_;simp only[go_sem,ntmps112,f112]);(refine aQ λp3 B=>?_);simp only[go_sem,B];(refine aQ λp4 m=>?_);simp only[go_sem,B,m];(refine aQ λp5 F=>?_);simp only[go_sem,B,m,F];(refine aQ λp6 z=>?_);simp only[go_sem,B,m,F,z];(refine aQ λp7 S=>?_);simp only[go_sem,B,m,F,z,S];(refine bO (OT.l [0,1,2,3,5,6,7,8,10,11,12,14,15,16,4,9,13,17,18,19,20] .nil) [(4,[5,7,8,12,16]),(9,[12,16]),(13,[16]),(19,[0,2,3,5,7,8,12,16])] ?_;simp only[go_sem,B,m,F,z,S]);refine aC2 hf x.sorts hx.so.n hx.so.s _ _ _ (hK.ge bC) ?_;simp only[go_sem,B,m,F,z,S];refine aC2 hf x.values hx.va.n hx.va.s _ _ _ (hK.ge bC) ?_;simp only[go_sem,B,m,F,z,S];refine aJc hf ho x.ops hx.on hx.o p5 p7 p4 _ _ _ (hK.ge bC) gH gH gH ?_;simp only[go_sem,B,m,F,z,S];refine aJc hf ho x.funs hx.fn hx.f p5 p7 p4 _ _ _ (hK.ge bC) gH gH gH ?_;simp only[go_sem,B,m,F,z,S];(refine aQ λp9 M=>?_);simp only[go_sem,B,m,F,z,S,M];obtain⟨X0,h0⟩:∃X,X=A.list none ((x.sorts.map φ).map .str):=⟨_,rfl⟩
 obtain⟨X1,h1⟩:∃X,X=A.list none ((x.ops.map (lL op φ)).map Opr.enc):=⟨_,rfl⟩
 obtain⟨X2,h2⟩:∃X,X=A.list none ((x.funs.map (lL op φ)).map Opr.enc):=⟨_,rfl⟩
 obtain⟨X3,h3⟩:∃X,X=A.list none ((x.values.map φ).map .str):=⟨_,rfl⟩
 rw[<-h0,<-h1,<-h2,<-h3];have x0:X0.one=true:=by rw[h0];rfl
 have x1:X1.one=true:=by rw[h1];rfl
 have x2:X2.one=true:=by rw[h2];rfl
 have x3:X3.one=true:=by rw[h3];rfl
 refine Ex.loop (ι:=Nat × Option Nat) (λc=>[(4,.ptr p4 0),(6,.ptr p6 0),(9,.ptr p9 0),(33,.list none (x.below.map Below.enc)),(34,.int .i64 (x.below.length:Nat)),(35,.int .i64 (c.1:Nat))])
  (λc=>gs (((s.setO p4 (.cells 116 [.fn f [] caps])).setO p6 (.cells 28 [.nils,.nils,.nils,.nils,.nils])).setO p9 (.cells 28 [X0,gv c.2 (((x.below.take c.1).map (chB φ)).map Below.enc),X1,X2,X3])) c.2 ((x.below.take c.1).map (chB φ)).length 104)
  (λc=>((c.2=none->(x.below.take c.1).map (chB φ)=[])/\∀t,c.2=some t->s.getT t=none)/\c.1<=x.below.length) (λc=>x.below.length-c.1) (0,none) ⟨⟨λ_=>rfl,λt e=>(by cases e)⟩,aU _⟩ ?_ (by show St.ge _ (St.setO _ p9 (.cells 28 [X0,.nils,X1,X2,X3]));exact bC) ?_
 .simp only[go_sem]
  first|done|exact rfl|exact⟨rfl,rfl⟩
 .rintro⟨i,tk⟩ ⟨⟨U,O⟩,hi⟩;simp only at U O hi;refine bE (V:=[0,1,2,3,4,5,6,7,8,9,11,33,34,35,36]) _ _ _ _ ?_;simp only[go_sem]
  (apply aT<;>intro h)<;>simp only[go_sem,h]
  .have Z:i<x.below.length:=gQ h;clear h;obtain⟨y,hy⟩:∃a,x.below[i]?=some a:=⟨_,aX Z⟩
   have b3:=sM (chB φ) hy;obtain⟨w1,w2⟩:=hx.b y (bZ hy);have b6:=hx.bn;simp only[go_sem,hy,Z];(refine iK λb5 H=>?_);simp only[go_sem,hy,Z,H,m,z,M];(refine bO (OT.l [0,1,2,3,4,6,7,8,5,9,10,11,12,13,14] .nil) [(5,[1,6,8]),(9,[1])] ?_;simp only[go_sem,H,m,z,M,x0,x1,x2,x3]);refine hf.fn y.low _ _ _ w1 (Kn.gs (hK.ge bC) _ _ _) ?_;simp only[go_sem,H,m,z,M];refine hf.fn y.high _ _ _ w2 (Kn.gs (hK.ge bC) _ _ _) ?_;simp only[go_sem,H,m,z,M];refine⟨by decide,λy hy=>by simp only[cC]at hy;subst hy;rfl,eI rfl rfl (tN U) (λy hy=>aRg hy) (by simp only[aK,cQ,aG,aH];omega) (λu hu=>?_)⟩;have b2:=gI hu O;rw[fY hu];simp only[go_sem,hy,Z,H,m,z,M];refine⟨(i+1,some u),⟨⟨λh=>(by cases h),λt h=>by cases h;exact b2⟩,Z⟩,aP,cF i aC,?_⟩;rw[show(x.below.take i).length+1=(x.below.take (i+1)).length by simp only[cQ];omega];simp only[go_sem,b3,cN,dF,chB];exact gR bC
  .have b4:i=x.below.length:=by have:¬ i<x.below.length:=gQ h;omega
   subst b4;rw[List.take_length]at U⊢;clear h hi;subst h0 h1 h2 h3;simp only[go_sem,m,z,M];have b0:=hk;simp only[Sig.enc,Sig.cs,yA]at b0;refine⟨sU _ _,?_⟩;refine DK.mk b0 (lI bC O) (show A.le (.agg [.list none ((x.sorts.map φ).map .str),gv tk ((x.below.map (chB φ)).map Below.enc),.list none ((x.ops.map (lL op φ)).map Opr.enc),.list none ((x.funs.map (lL op φ)).map Opr.enc),.list none ((x.values.map φ).map .str)]) _ from A.le.agg ⟨⟨bH _,rfl⟩,⟨iQ _ _ (λe=>by rw[U e];rfl),rfl⟩,⟨bH _,rfl⟩,⟨bH _,rfl⟩,⟨bH _,rfl⟩,trivial⟩)
end
end
def wN(φ:aD->aD)(e:Eqn):Eqn:={ e with left:=oG φ e.left,right:=oG φ e.right,cond:=e.cond.map (oG φ) }
def chD(φ:aD->aD)(d:Dfn):Dfn:=⟨φ d.name,yA (pX φ) φ d.sig,d.eqs.map (wN φ),d.once.map (vD φ),φ d.kind,d.many.map (vD φ),d.rules.map (chR φ),φ d.start,φ d.watch⟩
structure EqnB (e:Eqn):Prop where
 l:TmB e.left
 r:TmB e.right
 c:TmsB e.cond
structure DfnC (d:Dfn):Prop where
 name:d.name.length<=140737488355328
 kind:d.kind.length<=140737488355328
 start:d.start.length<=140737488355328
 watch:d.watch.length<=140737488355328
 sig:SigB d.sig
 en:d.eqs.length<=4294967295
 e:∀e,e∈d.eqs->EqnB e
 on:d.once.length<=4294967295
 o:∀c,c∈d.once->CelB c
 mn:d.many.length<=4294967295
 m:∀c,c∈d.many->CelB c
 rn:d.rules.length<=4294967295
 r:∀r,r∈d.rules->RulB r
theorem aTu{l:List Eqn}{y:A}(h:y∈l.map Eqn.enc):y.cells.length=15:=by
 obtain⟨z,_,rfl⟩:=cH.1 h;rfl
theorem aTB{l:List Rul}{y:A}(h:y∈l.map Rul.enc):y.cells.length=7:=by
 obtain⟨z,_,rfl⟩:=cH.1 h;rfl
theorem LenS.ne{φ:aD->aD}(h:LenS φ):LenS (pD φ):=λx m=>by
 unfold pD;split
 .simp
 .exact h x m
theorem aOy{f0:FuncId}{caps0:List A}{L0:List (Nat × Ob)}{bf:aD->aD}(h0:ChF f0 caps0 L0 bf)(d:Dfn)(hd:DfnC d)(s:St)(KV Kp:St->A->Prop)(hK:Kn L0 s)(hk:KV s (chD (pD bf) d).enc) :
  Den cx 60 [.agg d.cs,.fn f0 [] caps0] KV Kp s:=by
 obtain⟨φ,bq⟩:∃φ,φ=pD bf:=⟨_,rfl⟩
 (refine aR func60 [0,1,2,3,4,5,6,7,9,11,45,46,47,48,75,76,77,78] ?_;simp only[go_sem,ntmps60,f60]);(refine aQ λp2 z=>?_);simp only[go_sem,z];(refine aQ λp3 B=>?_);simp only[go_sem,z,B];(refine aQ λp4 F=>?_);simp only[go_sem,z,B,F];(refine aQ λp5 H=>?_);simp only[go_sem,z,B,F,H];have b5:ChF 109 [.ptr p3 0] ((p3,.cells 116 [.fn f0 [] caps0])::L0) φ:=by rw[bq];exact⟨aR1 h0.fn p3,h0.len.ne⟩
 have ho:FnK 110 [.ptr p5 0] ((p5,.cells 162 [.fn 109 [] [.ptr p3 0]])::((p3,.cells 116 [.fn f0 [] caps0])::L0)) (pX φ):=aSl b5.fn b5.len p5;have hf:ChF 109 [.ptr p3 0] ((p5,.cells 162 [.fn 109 [] [.ptr p3 0]])::((p3,.cells 116 [.fn f0 [] caps0])::L0)) φ:=⟨b5.fn.more (λp hp=>cP _ hp),b5.len⟩;rw[<-bq]at hk;generalize hL:(p5,Ob.cells 162 [.fn 109 [] [.ptr p3 0]])::((p3,Ob.cells 116 [.fn f0 [] caps0])::L0)=L at hf ho
 have b0:∀S:St,S.getO p5=some (.cells 162 [.fn 109 [] [.ptr p3 0]])->S.getO p3=some (.cells 116 [.fn f0 [] caps0])->S.ge s->Kn L S:=λS a b c p hp=>by
  rw[<-hL]at hp;rcases List.mem_cons.1 hp with rfl|hp
  .exact a
  rcases List.mem_cons.1 hp with rfl|hp
  .exact b
  exact hK.ge c p hp
 (refine bO (OT.l [0,1,2,4,5,6,7,9,10,11,13,14,15,17,18,19,21,22,23,25,26,27,3,8,12,16,20,24,28,29,30,31] .nil) [(3,[5,6,9,11,13,15,17,19,21,23,25,27]),(8,[9,11,13,15,17,19,21,23,25,27]),(12,[13,15,17,19,21,23,25,27]),(16,[17,19,21,23,25,27]),(20,[21,23,25,27]),(24,[25,27]),(30,[0,2,5,6,9,11,13,15,17,19,21,23,25,27])] ?_;simp only[go_sem,z,B,F,H]);refine hf.fn d.name _ _ _ hd.name (b0 _ gH gH bC) ?_;simp only[go_sem,z,B,F,H];refine aP8 hf ho d.sig hd.sig _ _ _ (b0 _ gH gH bC) ?_;simp only[go_sem,z,B,F,H];refine aIu hf d.once hd.on hd.o _ _ _ (b0 _ gH gH bC) ?_;simp only[go_sem,z,B,F,H];refine hf.fn d.kind _ _ _ hd.kind (b0 _ gH gH bC) ?_;simp only[go_sem,z,B,F,H];refine aIu hf d.many hd.mn hd.m _ _ _ (b0 _ gH gH bC) ?_;simp only[go_sem,z,B,F,H];refine hf.fn d.start _ _ _ hd.start (b0 _ gH gH bC) ?_;simp only[go_sem,z,B,F,H];refine hf.fn d.watch _ _ _ hd.watch (b0 _ gH gH bC) ?_;simp only[go_sem,z,B,F,H];(refine aQ λp7 U=>?_);simp only[go_sem,z,B,F,H,U];obtain⟨Z,hZ⟩:∃Z,Z=[A.str [],.nils,.nils,.nils,.nils,.nils,.nils,.nils,.str [],.nils,.nils,.str [],.str []]:=⟨_,rfl⟩
 rw[<-hZ];obtain⟨S0,bl⟩:∃X,X=A.list none ((yA (pX φ) φ d.sig).sorts.map .str):=⟨_,rfl⟩
 obtain⟨S1,bb⟩:∃X,X=A.list none ((yA (pX φ) φ d.sig).below.map Below.enc):=⟨_,rfl⟩
 obtain⟨S2,b6⟩:∃X,X=A.list none ((yA (pX φ) φ d.sig).ops.map Opr.enc):=⟨_,rfl⟩
 obtain⟨S3,b8⟩:∃X,X=A.list none ((yA (pX φ) φ d.sig).funs.map Opr.enc):=⟨_,rfl⟩
 obtain⟨S4,bg⟩:∃X,X=A.list none ((yA (pX φ) φ d.sig).values.map .str):=⟨_,rfl⟩
 obtain⟨O0,bj⟩:∃X,X=A.list none ((d.once.map (vD φ)).map Cel.enc):=⟨_,rfl⟩
 obtain⟨M0,bc⟩:∃X,X=A.list none ((d.many.map (vD φ)).map Cel.enc):=⟨_,rfl⟩
 rw[<-bl,<-bb,<-b6,<-b8,<-bg,<-bj,<-bc];have bw:S0.one=true:=by rw[bl];rfl
 have bm:S1.one=true:=by rw[bb];rfl
 have bz:S2.one=true:=by rw[b6];rfl
 have bp:S3.one=true:=by rw[b8];rfl
 have br:S4.one=true:=by rw[bg];rfl
 have bt:O0.one=true:=by rw[bj];rfl
 have bv:M0.one=true:=by rw[bc];rfl
 refine Ex.loop (ι:=Nat × Option Nat) (λc=>[(2,.ptr p2 0),(4,.ptr p4 0),(5,.ptr p5 0),(7,.ptr p7 0),(45,.list none (d.eqs.map Eqn.enc)),(46,.int .i64 (d.eqs.length:Nat)),(47,.int .i64 (c.1:Nat))])
  (λc=>gs (((((s.setO p2 (.cells 33 d.cs)).setO p3 (.cells 116 [.fn f0 [] caps0])).setO p4 (.cells 33 Z)).setO p5 (.cells 162 [.fn 109 [] [.ptr p3 0]])).setO p7 (.cells 33 [.str (φ d.name),S0,S1,S2,S3,S4,gv c.2 (((d.eqs.take c.1).map (wN φ)).map Eqn.enc),O0,.str (φ d.kind),M0,.nils,.str (φ d.start),.str (φ d.watch)])) c.2 ((d.eqs.take c.1).map (wN φ)).length 80)
  (λc=>((c.2=none->(d.eqs.take c.1).map (wN φ)=[])/\∀t,c.2=some t->s.getT t=none)/\c.1<=d.eqs.length) (λc=>d.eqs.length-c.1) (0,none) ⟨⟨λ_=>rfl,λt e=>(by cases e)⟩,aU _⟩ ?_ (by exact aM _) ?_
 .simp only[go_sem]
  first|done|exact rfl|exact⟨rfl,rfl⟩
 .rintro⟨i,tk⟩ ⟨⟨O,M⟩,hi⟩;simp only at O M hi;refine bE (V:=[0,1,2,3,4,5,6,7,9,11,45,46,47,48,75,76,77,78]) _ _ _ _ ?_;simp only[go_sem]
  (apply aT<;>intro h)<;>simp only[go_sem,h]
  .have b2:i<d.eqs.length:=gQ h;clear h;obtain⟨y,hy⟩:∃a,d.eqs[i]?=some a:=⟨_,aX b2⟩
   have b7:=sM (wN φ) hy;obtain⟨w1,w2,w3⟩:=hd.e y (bZ hy);have c1:=hd.en;simp only[go_sem,hy,b2];(refine iK λb9 b4=>?_);simp only[go_sem,hy,b2,b4,z,B,F,H,U];(refine bO (OT.l [0,1,2,3,4,6,7,8,10,11,12,14,15,16,17,5,9,13,18,19,20,21,22] .nil) [(5,[1,6,8,10,12,15,17]),(9,[1,10,12,15,17]),(13,[1,15,17])] ?_;simp only[go_sem,b4,z,B,F,H,U]);refine aBT hf y.left w1 _ _ _ (Kn.gs (b0 _ gH gH bC) _ _ _) ?_;simp only[go_sem,b4,z,B,F,H,U];refine aBT hf y.right w2 _ _ _ (Kn.gs (b0 _ gH gH bC) _ _ _) ?_;simp only[go_sem,b4,z,B,F,H,U];refine aCY hf y.cond w3.n w3.t _ _ _ (Kn.gs (b0 _ gH gH bC) _ _ _) ?_;simp only[go_sem,b4,z,B,F,H,U];refine⟨by decide,λy hy=>by simp only[cC]at hy;subst hy;rfl,eI rfl rfl (tN O) (λy hy=>aTu hy) (by simp only[aK,cQ,aG,aH];omega) (λu hu=>?_)⟩;have bd:=gI hu M;rw[fY hu];simp only[go_sem,hy,b2,b4,z,B,F,H,U];refine⟨(i+1,some u),⟨⟨λh=>(by cases h),λt h=>by cases h;exact bd⟩,b2⟩,aP,cF i aC,?_⟩;rw[show(d.eqs.take i).length+1=(d.eqs.take (i+1)).length by simp only[cQ];omega];simp only[go_sem,b7,cN,dF,wN];exact gR bC
  .have bk:i=d.eqs.length:=by have:¬ i<d.eqs.length:=gQ h;omega
   subst bk;rw[List.take_length]at O⊢;clear h hi;simp only[go_sem,z,B,F,H,U]
   refine Ex.soft (b:=p7) (e:=33) (cs:=[.str (φ d.name),S0,S1,S2,S3,S4,gv tk ((d.eqs.map (wN φ)).map Eqn.enc),O0,.str (φ d.kind),M0,.nils,.str (φ d.start),.str (φ d.watch)]) (cs':=[.str (φ d.name),S0,S1,S2,S3,S4,.list none ((d.eqs.map (wN φ)).map Eqn.enc),O0,.str (φ d.kind),M0,.nils,.str (φ d.start),.str (φ d.watch)]) gH
    ⟨⟨bH _,rfl⟩,⟨bH _,bw⟩,⟨bH _,bm⟩,⟨bH _,bz⟩,⟨bH _,bp⟩,⟨bH _,br⟩,⟨iQ _ _ (λe=>by rw[O e];rfl),rfl⟩,⟨bH _,bt⟩,⟨bH _,rfl⟩,⟨bH _,bv⟩,⟨bH _,rfl⟩,⟨bH _,rfl⟩,⟨bH _,rfl⟩,trivial⟩ ?_
   obtain⟨E0,bh⟩:∃X,X=A.list none ((d.eqs.map (wN φ)).map Eqn.enc):=⟨_,rfl⟩
   rw[<-bh];have c0:E0.one=true:=by rw[bh];rfl
   refine Ex.loop (ι:=Nat × Option Nat) (λc=>[(2,.ptr p2 0),(4,.ptr p4 0),(5,.ptr p5 0),(7,.ptr p7 0),(75,.list none (d.rules.map Rul.enc)),(76,.int .i64 (d.rules.length:Nat)),(77,.int .i64 (c.1:Nat))])
    (λc=>gs (((((s.setO p2 (.cells 33 d.cs)).setO p3 (.cells 116 [.fn f0 [] caps0])).setO p4 (.cells 33 Z)).setO p5 (.cells 162 [.fn 109 [] [.ptr p3 0]])).setO p7 (.cells 33 [.str (φ d.name),S0,S1,S2,S3,S4,E0,O0,.str (φ d.kind),M0,gv c.2 (((d.rules.take c.1).map (chR φ)).map Rul.enc),.str (φ d.start),.str (φ d.watch)])) c.2 ((d.rules.take c.1).map (chR φ)).length 84)
    (λc=>((c.2=none->(d.rules.take c.1).map (chR φ)=[])/\∀t,c.2=some t->s.getT t=none)/\c.1<=d.rules.length) (λc=>d.rules.length-c.1) (0,none) ⟨⟨λ_=>rfl,λt e=>(by cases e)⟩,aU _⟩ ?_ (by simp only[zU,nR];exact lI (aM _) M) ?_
   .simp only[go_sem]
    first|done|exact rfl|exact⟨rfl,rfl⟩
   .clear O M tk;rintro⟨i,tk⟩ ⟨⟨O,M⟩,hi⟩;simp only at O M hi;refine bE (V:=[0,1,2,3,4,5,6,7,9,11,45,46,47,48,75,76,77,78]) _ _ _ _ ?_;simp only[go_sem]
    (apply aT<;>intro h)<;>simp only[go_sem,h]
    .have b2:i<d.rules.length:=gQ h;clear h;obtain⟨y,hy⟩:∃a,d.rules[i]?=some a:=⟨_,aX b2⟩
     have b7:=sM (chR φ) hy;have w1:=hd.r y (bZ hy);have c1:=hd.rn;simp only[go_sem,hy,b2];(refine iK λc2 b3=>?_);simp only[go_sem,hy,b2,b3,z,B,F,H,U];(refine bO (OT.r 0 9) [(4,[1])] ?_;simp only[go_sem,b3,z,B,F,H,U,c0,bw,bm,bz,bp,br,bt,bv]);refine aPj hf y w1 _ _ _ (Kn.gs (b0 _ gH gH bC) _ _ _) ?_;simp only[go_sem,b3,z,B,F,H,U];refine⟨by decide,λy hy=>by simp only[cC]at hy;subst hy;rfl,eI rfl rfl (tN O) (λy hy=>aTB hy) (by simp only[aK,cQ,aG,aH];omega) (λu hu=>?_)⟩;have bd:=gI hu M;rw[fY hu];simp only[go_sem,hy,b2,b3,z,B,F,H,U];refine⟨(i+1,some u),⟨⟨λh=>(by cases h),λt h=>by cases h;exact bd⟩,b2⟩,aP,cF i aC,?_⟩;rw[show(d.rules.take i).length+1=(d.rules.take (i+1)).length by simp only[cQ];omega];simp only[go_sem,b7,cN,dF];exact gR bC
    .have bk:i=d.rules.length:=by have:¬ i<d.rules.length:=gQ h;omega
     subst bk;rw[List.take_length]at O⊢;clear h hi;subst hZ bl bb b6 b8 bg bj bc bh;simp only[go_sem,z,B,F,H,U];have bn:=hk;simp only[Dfn.enc,Dfn.cs,Sig.cs,chD,aZ,bA]at bn;refine⟨sU _ _,?_⟩;refine DK.mk bn (lI bC M) ?_;refine A.le.agg ?_;exact⟨⟨bH _,rfl⟩,⟨bH _,rfl⟩,⟨bH _,rfl⟩,⟨bH _,rfl⟩,⟨bH _,rfl⟩,⟨bH _,rfl⟩,⟨bH _,rfl⟩,⟨bH _,rfl⟩,⟨bH _,rfl⟩,⟨bH _,rfl⟩,⟨iQ _ _ (λe=>by rw[O e];rfl),rfl⟩,⟨bH _,rfl⟩,⟨bH _,rfl⟩,trivial⟩
theorem iS(c:List Wd)(x:aD):(aJ c x).length=c.length+1:=by simp[aJ]
theorem aAQ:∀(l:List Tm) (c:List Wd),(jY c l).length=c.length+2 * l.length
 | [],c=>rfl
 | r::l,c=>by rw[jY,aAQ l,fT];simp;omega
theorem aJv(x:Tm):∀(l:List Tm) (b:Bool) (c:List Wd),gW b c (l++[x])=bS (if b=true\/l≠[] then aJ (gW b c l) [44] else gW b c l) x
 | [],b,c=>by cases b<;>simp[gW]
 | t::r,b,c=>by
  simp only[aZ,gW];rw[aJv x r true];simp
theorem aP7{l:List Tm}{i:Nat}{x:Tm}(h:l[i]?=some x)(c:List Wd):gW false c (l.take (i+1))=bS (if 0<i then aJ (gW false c (l.take i)) [44] else gW false c (l.take i)) x:=by
 rw[fD,h];have e:=aJv x (l.take i) false c;have u:i<l.length:=(eF.1 h).1;rw[show l.take i++(some x).toList=l.take i++[x] from rfl,e];by_cases m:0<i
 .rw[aF m,aF (.inr (λe=>by rcases List.take_eq_nil_iff.1 e with e|e;exact cM m aC;(subst e;simp at u)))]
 .obtain rfl:i=0:=by omega
  simp
theorem aAF:∀(l:List Tm) (b:Bool) (c:List Wd),dL bS b c l=gW b c l
 | [],b,c=>rfl
 | t::r,b,c=>by rw[dL,gW,aAF r true]
theorem aJm(k v:Tm):∀(m:Nat) (l:List Tm) (b:Bool) (c:List Wd),l.length<=m->l.length % 2=0 ->
  fA b c (l++[k,v])=bS (aJ (bS (if b=true\/l≠[] then aJ (fA b c l) [44] else fA b c l) k) [45,62]) v
 | _,[],b,c,_,_=>by cases b<;>simp[fA]
 | _,[_],b,c,_,h=>by simp at h
 | 0,x::y::r,b,c,h,_=>by simp at h
 | m+1,x::y::r,b,c,h,u=>by
  have:=aJm k v m r true;simp only[aZ,fA];rw[this _ (by simp only[aG]at h;omega) (by simp only[aG]at u;omega)];simp
theorem aS1(m:Nat):(∀(t:Tm) (c:List Wd),SizeOf.sizeOf t<m->(bS c t).length+1<=c.length+8 * t.cnt):=by
 induction m with
 | zero=>intro t c h;omega
 | succ m u =>
  intro t c Z
  have S:∀(l:List Tm) (b:Bool) (c:List Wd),(∀x,x∈l->SizeOf.sizeOf x<m)->(gW b c l).length<=c.length+8 * dW l:=by
   intro l
   induction l with
   | nil=>intro b c _;simp[gW]
   | cons x r M =>
    intro b c h;have h1:=u x (if b=true then aJ c [44] else c) (h x (bU ..));have h2:=M true (bS (if b=true then aJ c [44] else c) x) (λy hy=>h y (cP _ hy));have h3:(if b=true then aJ c [44] else c).length<=c.length+1:=by split<;>simp[aJ]
    simp only[gW,dW];omega
  have U:∀(q:Nat) (l:List Tm) (b:Bool) (c:List Wd),l.length<=q->(∀x,x∈l->SizeOf.sizeOf x<m)->(fA b c l).length<=c.length+8 * dW l:=by
   intro q
   induction q with
   | zero=>intro l b c O _;have:l=[]:=fW aC;subst this;simp[fA]
   | succ q F =>
    intro l b c O h;cases l with
    | nil=>simp[fA]
    | cons x r =>
     cases r with
     | nil=>simp[fA]
     | cons y r =>
      have h1:=u x (if b=true then aJ c [44] else c) (h x (bU ..));have h2:=u y (aJ (bS (if b=true then aJ c [44] else c) x) [45,62]) (h y (cP _ (bU ..)));have h4:=F r true (bS (aJ (bS (if b=true then aJ c [44] else c) x) [45,62]) y) (by simp only[aG]at O;omega) (λz hz=>h z (cP _ (cP _ hz)));have h3:(if b=true then aJ c [44] else c).length<=c.length+1:=by split<;>simp[aJ]
      rw[iS]at h2;simp only[fA,dW];omega
  have B:=aB2 t;obtain⟨k,n,x,y,a,b⟩:=t;simp only[Tm.mk.sizeOf_spec]at Z;simp only[Tm.kids,Tm.rest]at B;have H:=λz (hz:z∈a)=>(show SizeOf.sizeOf z<m by have:=List.sizeOf_lt_of_mem hz;omega)
  have hb:=zM b;rw[bS];split
  .split
   .rw[aGR];simp;omega
   .rw[iS];omega
  split
  .rw[iS];omega
  split
  .rw[iS];omega
  split
  .rw[fT];simp;omega
  split
  .have:=S a false (bF c [x,[40]]) H;rw[fT]at this;rw[iS];simp at this;omega
  split
  .split
   .rw[iS];omega
   .rw[aGR];simp;omega
  split
  .have:=S a false (aJ c [91]) H;rw[iS]at this;rw[iS,aAQ];omega
  split
  .have:=U a.length a false (aJ c [123]) (aV _) H;rw[iS]at this;rw[iS,aAQ];omega
  .omega
theorem sP(t:Tm)(c:List Wd):(bS c t).length+1<=c.length+8 * t.cnt:=aS1 _ t c (iD _)
theorem zN(l:List Tm):∀(b:Bool) (c:List Wd),(gW b c l).length<=c.length+8 * dW l:=by
 induction l with
 | nil=>intro b c;simp[gW]
 | cons x r h =>
  intro b c;have m:=sP x (if b=true then aJ c [44] else c);have h2:=h true (bS (if b=true then aJ c [44] else c) x);have u:(if b=true then aJ c [44] else c).length<=c.length+1:=by split<;>simp[aJ]
  simp only[gW,dW];omega
theorem aSC{l:List Tm}(h:l≠[])(c:List Wd):(gW false c l).length+1<=c.length+8 * dW l:=by
 cases l with
 | nil=>exact cM rfl h
 | cons x r =>
  have m:=sP x c;have h2:=zN r true (bS c x);simp only[gW,dW,cE,bR];omega
theorem aOW(l:List Tm)(i:Nat):dW (l.take i)<=dW l:=by
 have:=aDB (l.take i) (l.drop i);rw[List.take_append_drop]at this;omega
theorem aDa{l:List Tm}{i:Nat}{x:Tm}(h:l[i]?=some x):dW (l.take i)+x.cnt<=dW l:=by
 have:=aOW l (i+1);rw[fD,h,aDB]at this;simp[dW]at this;omega
def TwOk(t:Tm):Prop:=∀(r:Nat) (y u:A) (h:List Wd) (s:St) (KV Kp:St->A->Prop),WrS s r y u h->h.length+8 * t.cnt<=4294967296 ->
  (∀s' m,WrS s' r y m (bS h t)->Stp r u m s s'->KV s' (.tuple []))->Den cx 180 [.ptr r 0,.agg t.cs] KV Kp s
theorem aCW(l:List Tm)(ih:∀t,t∈l->TwOk t)(r:Nat)(S vl:A)(m:List Wd)(s:St)(KV Kp:St->A->Prop)(hw:WrS s r S vl m)(hl:m.length+8 * dW l<=4294967296)
  (hk:∀s' b0,WrS s' r S b0 (gW false m l)->Stp r vl b0 s s'->KV s' (.tuple [])):Den cx 254 [.ptr r 0,.list none (l.map Tm.enc),.fn 180 [.ptr r 0] []] KV Kp s:=by
 refine iO λb4=>?_
 have b8:=b4 _ (cP _ (bU ..));(refine aR func254 [0,1,2,6,7,8,9,10,11,16] ?_;simp only[go_sem,ntmps254,f254])
 refine Ex.loop (ι:=Nat × (St × A)) (λc=>[(0,.ptr r 0),(2,.fn 180 [.ptr r 0] []),(8,.list none (l.map Tm.enc)),(9,.int .i64 (l.length:Nat)),(10,.int .i64 (c.1:Nat))])
  (λc=>c.2.1) (λc=>c.1<=l.length/\WrS c.2.1 r S c.2.2 (gW false m (l.take c.1))/\Stp r vl c.2.2 s c.2.1) (λc=>l.length-c.1) (0,(s,vl)) ⟨aU _,hw,Stp.refl r vl s⟩ ?_ (aM s) ?_
 ·(simp only[go_sem];try exact rfl)
 .rintro⟨i,s1,v1⟩ ⟨hi,F,z⟩;simp only at hi F z;refine bE (V:=[0,1,2,6,7,8,9,10,11,16]) _ _ _ _ ?_;simp only[go_sem]
  (apply aT<;>intro h)<;>simp only[go_sem,h]
  .have u:i<l.length:=gQ h;clear h;obtain⟨x,U⟩:∃a,l[i]?=some a:=⟨_,aX u⟩
   have Z:x∈l:=bZ U;have w1:=b8.wrap (i:=i) (gQ u);have d0:decide ((0:Int)<(i:Int))=decide (0<i):=by rw[gV];omega
   have b9:=aDa U;have bd:=zN (l.take i) false m;have bc:=vT x;have B:=aP7 U m;simp only[go_sem,U,u];(refine aQ λb7 y=>?_);simp only[go_sem,U,u,y];have O:=F.new y (.cells 43 x.cs);cases h0:decide (0<i)with
   | false =>
    rw[aB (gQ h0)]at B;simp only[go_sem,d0,h0,y];refine ih x Z r S v1 _ _ _ _ O aC (λs3 v3 M H=>?_);simp only[go_sem];exact⟨(i+1,s3,v3),⟨u,by rw[B];exact M,z.trans (H.new1 y)⟩,aP,w1,aM _⟩
   | true =>
    rw[aF (gQ h0)]at B;have bb:=aSC (l:=l.take i) (λe=>by rcases List.take_eq_nil_iff.1 e with e|e;(subst e;simp at h0);(subst e;simp at u)) m;simp only[go_sem,d0,h0,y];refine dU [[44]] r S v1 _ _ _ _ O (by simp only[aG,aH];omega) (λs3 v3 M H=>?_);have b2:=H.keep O (p:=b7) (e:=43) (cs:=x.cs) (by rw[aL,aF rfl]<;>rfl) aE aE;simp only[go_sem,b2];refine ih x Z r S v3 _ _ _ _ M (by rw[fT];simp only[aG,aH];omega) (λs4 v4 b5 b3=>?_);simp only[go_sem];exact⟨(i+1,s4,v4),⟨u,by rw[B];exact b5,z.trans ((H.trans b3).new1 y)⟩,aP,w1,aM _⟩
  .have b6:i=l.length:=by have:¬ i<l.length:=gQ h;omega
   subst b6;rw[List.take_length]at F;exact aO (hk _ _ F z)
theorem aIZ(t:Tm)(r:Nat)(O M:A)(m:List Wd)(s:St)(KV Kp:St->A->Prop)(hw:WrS s r O M m)(hl:m.length+2 * t.rest.length<=4294967296)
  (hk:∀s' H,WrS s' r O H (jY m t.rest)->Stp r M H s s'->KV s' (.tuple [])):Den cx 255 [.ptr r 0,.agg t.cs] KV Kp s:=by
 have b3:∀(l:List Tm) (x:Tm) (c:List Wd),jY c (l++[x])=bF (jY c l) [[124],x.text]:=by
  intro l
  induction l with
  | nil=>intro x c;rfl
  | cons y l ih=>intro x c;exact ih x _
 refine iO λb6=>?_
 have b0:=b6 _ (cP _ (bU ..));have bb:Rlz (.list none (t.rest.map Tm.enc)):=b0.cell (by simp[Tm.cs]);(refine aR func255 [0,1,3,5,7,8,9,10] ?_;simp only[go_sem,ntmps255,f255]);(refine aQ λp Z=>?_);have b4:=hw.new Z (.cells 43 t.cs);simp only[go_sem,Z]
 refine Ex.loop (ι:=Nat × (St × A)) (λc=>[(0,.ptr r 0),(7,.list none (t.rest.map Tm.enc)),(8,.int .i64 (t.rest.length:Nat)),(9,.int .i64 (c.1:Nat))])
  (λc=>c.2.1) (λc=>c.1<=t.rest.length/\WrS c.2.1 r O c.2.2 (jY m (t.rest.take c.1))/\Stp r M c.2.2 s c.2.1) (λc=>t.rest.length-c.1) (0,(s.setO p (.cells 43 t.cs),M)) ⟨aU _,b4,(Stp.refl r M _).new1 Z⟩ ?_ (aM _) ?_
 ·(simp only[go_sem];try exact rfl)
 .rintro⟨i,s1,v1⟩ ⟨hi,z,F⟩;simp only at hi z F;refine bE (V:=[0,1,3,5,7,8,9,10]) _ _ _ _ ?_;simp only[go_sem]
  (apply aT<;>intro h)<;>simp only[go_sem,h]
  .have u:i<t.rest.length:=gQ h;clear h;obtain⟨x,S⟩:∃a,t.rest[i]?=some a:=⟨_,aX u⟩
   have w1:=bb.wrap (i:=i) (gQ u);have U:=aAQ (t.rest.take i) m;rw[cQ,yH hi]at U;simp only[go_sem,S,u];(refine aQ λb5 B=>?_);simp only[go_sem,S,u,B];have b8:=z.new B (.cells 43 x.cs);refine dU [[124],x.text] r O v1 _ _ _ _ b8 (by simp only[aG,aH];omega) (λs3 v3 b2 b7=>?_);simp only[go_sem];refine⟨(i+1,s3,v3),⟨u,?_,F.trans (b7.new1 B)⟩,aP,w1,aM _⟩;simp only;rw[fD,S];exact(b3 _ x m)▸b2
  .have b9:i=t.rest.length:=by have:¬ i<t.rest.length:=gQ h;omega
   subst b9;rw[List.take_length]at z;exact aO (hk _ _ z F)
theorem aPA(n:Int)(h:n<0)(s:St)(KV Kp:St->A->Prop)(m:KV s (.str ((Lib.itoa n).drop 1))):Den cx 253 [.str (Lib.itoa n),.str [45]] KV Kp s:=by
 have e:Lib.itoa n=45::Lib.decDigits n.natAbs:=by unfold Lib.itoa;rw[aF h]
 rw[e]at m⊢;(refine aR func253 [0,1,4] ?_;simp only[go_sem,ntmps253,f253]);(refine aR func293 [0,1,4,7] ?_;simp only[go_sem,ntmps293,f293]);refine aIn _ _ _ _ _ ?_;have u:mV (45::Lib.decDigits n.natAbs) [45]=true:=by simp[mV]
 rw[u];simp only[go_sem];refine aO ?_;rw[show(Lib.decDigits n.natAbs).length+1-1=(Lib.decDigits n.natAbs).length from rfl,List.take_length];simp only[go_sem];exact aO m
theorem dO{p:Prop}(h:p:=by((try simp only[fT,iS,aG,aH,aI,aK,cQ]);omega)):p:=h
def nC:List Tm->List (List Tm)
 | k::v::r=>[k,v]::nC r
 | _=>[]
def wG(l:List Tm):A:=.list none (l.map Tm.enc)
def aJP:Prop:=∀(l:List Tm) (h m:Nat) (s:St) (KV Kp:St->A->Prop),s.getO h=some (.cells 41 [.list none (l.map Tm.enc)])->s.getO m=some (.cells 3 [.int .i64 2])->l.length % 2=0->l.length<=4294967296 ->
  KV s (.list none ((nC l).map wG))->Den cx 257 [.fn 295 [] [.ptr h 0,.ptr m 0]] KV Kp s
theorem aOV(l:List Tm)(s:St)(KV Kp:St->A->Prop)(z:∀h m,s.getO h=none->s.getO m=none->h≠m->KV ((s.setO h (.cells 41 [.list none (l.map Tm.enc)])).setO m (.cells 3 [.int .i64 2])) (.fn 295 [] [.ptr h 0,.ptr m 0])):Den cx 258 [.list none (l.map Tm.enc),.int .i64 2] KV Kp s:=by
 (refine aR func258 [0,1,2,3,4,6] ?_;simp only[go_sem,ntmps258,f258]);(refine aQ λp u=>?_);simp only[go_sem,u];(refine aQ λq y=>?_);simp only[go_sem,u,y,Int.reduceLT];exact aO (z p q u y.2 y.1.1)
inductive ShT:Tm->Prop
 | mk (t:Tm) (hs:t.shape=true) (hk:∀x,x∈t.kids->ShT x):ShT t
theorem aID(k v:Tm)(F:TwOk k)(B:TwOk v)(r:Nat)(u U:A)(h:List Wd)(s:St)(KV Kp:St->A->Prop)(hw:WrS s r u U h)(hl:h.length+8 * (k.cnt+v.cnt)<=4294967296)
  (hk:∀s' y,WrS s' r u y (bS (aJ (bS h k) [45,62]) v)->Stp r U y s s'->KV s' (.tuple [])):Den cx 259 [.ptr r 0,.list none [.agg k.cs,.agg v.cs]] KV Kp s:=by
 have h1:=sP k h;have b3:=vT k;(refine aR func259 [0,1,5,15,16,17,18] ?_;simp only[go_sem,ntmps259,f259]);refine F r u U h _ _ _ hw aC (λs1 v1 S H=>?_);simp only[go_sem];refine dU [[45,62]] r u v1 _ _ _ _ S (by simp only[aG,aH];omega) (λs2 v2 b2 z=>?_);simp only[go_sem];refine⟨λx hx=>?_,⟨by omega,by omega⟩,?_⟩
 .simp only[eA,List.mem_nil_iff,eS]at hx;rcases hx with rfl|rfl<;>rfl
 have e1:∀(a b:A),List.take (2-Int.toNat 1) (List.drop (Int.toNat 1) [a,b])=[b]:=λa b=>rfl
 refine Ex.loop (ι:=Nat × (St × A)) (λc=>[(0,.ptr r 0),(15,.list none [v.enc]),(16,.int .i64 (1:Nat)),(17,.int .i64 (c.1:Nat))])
  (λc=>c.2.1) (λc=>c.1=0/\c.2=(s2,v2)\/c.1=1/\WrS c.2.1 r u c.2.2 (bS (aJ (bS h k) [45,62]) v)/\Stp r v2 c.2.2 s2 c.2.1) (λc=>1-c.1) (0,(s2,v2)) (.inl ⟨rfl,rfl⟩) ?_ (aM s2) ?_
 .simp only[go_sem];have t1:Int.toNat 1=1:=rfl;simp only[t1,List.drop_succ_cons,sL,Nat.reduceSub,List.take_succ_cons,List.take_nil];exact⟨trivial,rfl,rfl⟩
 .rintro⟨i,s3,v3⟩ hi;simp only at hi;refine bE (V:=[0,1,5,15,16,17,18]) _ _ _ _ ?_;rcases hi with⟨rfl,h2⟩|⟨rfl,M,Z⟩
  .cases h2;simp only[go_sem,Int.reduceLT];(refine aQ λb5 m=>?_);simp only[go_sem,m];have b4:=vT v;refine B r u v2 _ _ _ _ (b2.new m _) (by rw[fT];simp only[aG,aH];omega) (λs4 v4 b0 O=>?_);simp only[go_sem];exact⟨(1,s4,v4),.inr ⟨rfl,b0,O.new1 m⟩,by simp,by first|rfl|(simp;rfl),aM _⟩
  .simp only[go_sem,Int.reduceLT];exact aO (hk _ _ M ((H.trans z).trans Z))
theorem aGd:∀(m:Nat) (l:List Tm),l.length<=m->l.length % 2=0->2 * (nC l).length=l.length
 | _,[],_,_=>rfl
 | _,[_],_,h=>by simp at h
 | 0,x::y::r,h,_=>by simp at h
 | m+1,x::y::r,h,u=>by
  have:=aGd m r (by simp only[aG]at h;omega) (by simp only[aG]at u;omega);simp only[nC,aG];omega
theorem aJM:∀(j:Nat) (l:List Tm) (k v:Tm),l[2 * j]?=some k->l[2 * j+1]?=some v->(nC l)[j]?=some [k,v]
 | _,[],k,v,h,_=>by cases h
 | 0,[_],k,v,_,h=>by cases h
 | j+1,[_],k,v,_,h=>by cases h
 | 0,x::y::r,k,v,m,h2=>by cases m;cases h2;rfl
 | j+1,x::y::r,k,v,m,h2=>aJM j r k v m h2
theorem aPJ{l:List Tm}{i:Nat}{x y:Tm}(u:i % 2=0)(h:l[i]?=some x)(B:l[i+1]?=some y)(c:List Wd) :
  fA false c (l.take (i+2))=bS (aJ (bS (if 0<i then aJ (fA false c (l.take i)) [44] else fA false c (l.take i)) x) [45,62]) y:=by
 have z:i<l.length:=(eF.1 h).1;rw[fD,fD,h,B];have e:=aJm x y (l.take i).length (l.take i) false c (aV _) (by rw[cQ,yH aC];exact u);rw[show l.take i++(some x).toList++(some y).toList=l.take i++[x,y]by simp,e];by_cases m:0<i
 .rw[aF m,aF (.inr (λe=>by rcases List.take_eq_nil_iff.1 e with e|e;exact cM m aC;(subst e;simp at z)))]
 .obtain rfl:i=0:=by omega
  simp
theorem aGE(m:Nat):∀(l:List Tm) (b:Bool) (c:List Wd),l.length<=m->(fA b c l).length<=c.length+8 * dW l:=by
 induction m with
 | zero=>intro l b c h;have:l=[]:=fW aC;subst this;simp[fA]
 | succ m u =>
  intro l b c h;cases l with
  | nil=>simp[fA]
  | cons x r =>
   cases r with
   | nil=>simp[fA]
   | cons y r =>
    have z:=sP x (if b=true then aJ c [44] else c);have h2:=sP y (aJ (bS (if b=true then aJ c [44] else c) x) [45,62]);have B:=u r true (bS (aJ (bS (if b=true then aJ c [44] else c) x) [45,62]) y) (by simp only[aG]at h;omega);have F:(if b=true then aJ c [44] else c).length<=c.length+1:=by split<;>simp[aJ]
    rw[iS]at h2;simp only[fA,dW];omega
theorem aSw{l:List Tm}(h:l≠[])(c:List Wd):(fA false c l).length+1<=c.length+8 * dW l:=by
 cases l with
 | nil=>exact cM rfl h
 | cons x r =>
  cases r with
  | nil=>have:=vT x;simp only[fA,dW];omega
  | cons y r =>
   have m:=sP x c;have h2:=sP y (aJ (bS c x) [45,62]);have u:=aGE r.length r true (bS (aJ (bS c x) [45,62]) y) (aV _);rw[iS]at h2;simp only[fA,dW,cE,bR];omega
theorem aOA(L:List Tm)(he:L.length % 2=0)(ih:∀t,t∈L->TwOk t)(r:Nat)(S vl:A)(m:List Wd)(s:St)(KV Kp:St->A->Prop)(hw:WrS s r S vl m)(hl:m.length+8 * dW L<=4294967296)
  (hk:∀s' Z,WrS s' r S Z (fA false m L)->Stp r vl Z s s'->KV s' (.tuple [])):Den cx 256 [.ptr r 0,.list none ((nC L).map wG),.fn 259 [.ptr r 0] []] KV Kp s:=by
 refine iO λb3=>?_
 have b7:=b3 _ (cP _ (bU ..));have b4:=aGd L.length L (aV _) he;(refine aR func256 [0,1,2,6,7,8,9,10,11,16] ?_;simp only[go_sem,ntmps256,f256])
 refine Ex.loop (ι:=Nat × (St × A)) (λc=>[(0,.ptr r 0),(2,.fn 259 [.ptr r 0] []),(8,.list none ((nC L).map wG)),(9,.int .i64 ((nC L).length:Nat)),(10,.int .i64 (c.1:Nat))])
  (λc=>c.2.1) (λc=>c.1<=(nC L).length/\WrS c.2.1 r S c.2.2 (fA false m (L.take (2 * c.1)))/\Stp r vl c.2.2 s c.2.1) (λc=>(nC L).length-c.1) (0,(s,vl)) ⟨aU _,hw,Stp.refl r vl s⟩ ?_ (aM s) ?_
 ·(simp only[go_sem];try exact rfl)
 .rintro⟨j,s1,v1⟩ ⟨hi,u,z⟩;simp only at hi u z;refine bE (V:=[0,1,2,6,7,8,9,10,11,16]) _ _ _ _ ?_;simp only[go_sem]
  (apply aT<;>intro h)<;>simp only[go_sem,h]
  .have F:j<(nC L).length:=gQ h;clear h;obtain⟨x,O⟩:∃a,L[2 * j]?=some a:=⟨_,aX aC⟩
   obtain⟨y,hy⟩:∃a,L[2 * j+1]?=some a:=⟨_,aX aC⟩
   have U:x∈L:=bZ O;have b0:y∈L:=bZ hy;have b8:=aJM j L x y O hy;have w1:=b7.wrap (i:=j) (gQ F);have d0:decide ((0:Int)<(j:Int))=decide (0<2 * j):=by rw[gV];omega
   have b9:=aDa O;have bc:=aDa hy;have bf:dW (L.take (2 * j+1))=dW (L.take (2 * j))+x.cnt:=by rw[fD,O,aDB];simp[dW]
   have bg:=aGE (2 * j) (L.take (2 * j)) false m (by rw[cQ];omega);have bd:=vT x;have B:=aPJ aC O hy m;simp only[go_sem,b8,F,wG];cases h0:decide (0<2 * j)with
   | false =>
    rw[aB (gQ h0)]at B;simp only[go_sem,d0,h0];refine aID x y (ih x U) (ih y b0) r S v1 _ _ _ _ u aC (λs3 v3 H M=>?_);simp only[go_sem];exact⟨(j+1,s3,v3),⟨F,by simp only;rw[show 2 * (j+1)=2 * j+2 by omega,B];exact H,z.trans M⟩,aP,w1,aM _⟩
   | true =>
    rw[aF (gQ h0)]at B;have bb:=aSw (l:=L.take (2 * j)) (λe=>by rcases List.take_eq_nil_iff.1 e with e|e;(have:j=0:=by omega);(subst this;simp at h0);(subst e;simp at O)) m;simp only[go_sem,d0,h0];refine dU [[44]] r S v1 _ _ _ _ u (by simp only[aG,aH];omega) (λs3 v3 H M=>?_);simp only[go_sem];refine aID x y (ih x U) (ih y b0) r S v3 _ _ _ _ H (by rw[fT];simp only[aG,aH];omega) (λs4 v4 b5 b2=>?_);simp only[go_sem];exact⟨(j+1,s4,v4),⟨F,by simp only;rw[show 2 * (j+1)=2 * j+2 by omega,B];exact b5,z.trans (M.trans b2)⟩,aP,w1,aM _⟩
  .have h9:¬ j<(nC L).length:=gQ h;have b6:j=(nC L).length:=by omega
   subst b6;rw[b4,List.take_length]at u;exact aO (hk _ _ u z)
theorem aST(t:Tm)(h:List Wd):bS h t =
  if t.kind=1 then(if t.n<0 then lV h [[45],(Lib.itoa t.n).drop 1] else aJ h (Lib.itoa t.n))
  else if t.kind=2 then aJ h (if t.n=1 then [116,114,117,101] else [102,97,108,115,101])
  else if t.kind=3 then aJ h ([34]++t.text++[34])
  else if t.kind=4 then bF h [[39],t.text]
  else if t.kind=5 then aJ (gW false (bF h [t.text,[40]]) t.kids) [41]
  else if t.kind=6 then(if t.text=[95]\/t.text=[36] then aJ h t.text else lV h [t.text,[58],t.sort])
  else if t.kind=7 then aJ (jY (gW false (aJ h [91]) t.kids) t.rest) [93]
  else if t.kind=8 then aJ (jY (fA false (aJ h [123]) t.kids) t.rest) [125]
  else h:=by cases t;rw[bS];rfl
theorem aPK(HC:aJP):∀t,ShT t->TwOk t:=by
 suffices H:∀n t,t.cnt<=n->ShT t->TwOk t fromλt h=>H _ t (aV _) h
 intro n
 induction n with
 | zero=>intro t h;have:=vT t;omega
 | succ n bc =>
 intro t hc bb;have hs:t.shape=true:=by cases bb;assumption
 have bh:∀x,x∈t.kids->ShT x:=by cases bb;assumption
 have bm:=aB2 t;have bk:∀x,x∈t.kids->x.cnt<=n:=λx hx=>by have:=aAY hx;omega
 have ih:∀x,x∈t.kids->TwOk x:=λx hx=>bc x (bk x hx) (bh x hx)
 clear bc;intro r M S y s KV Kp hw hl z;have b9:=zN t.kids;have bp:=zM t.rest;rw[aST]at z;have b5:=vT t;(refine aR func180 [0,1,3,5,6,10,24,33,42,49,65,74,87,104] ?_;simp only[go_sem,ntmps180,f180]);(refine aQ λp B=>?_);simp only[go_sem,B];have F:=hw.new B (.cells 43 t.cs);have gp:(s.setO p (.cells 43 t.cs)).getO p=some (.cells 43 t.cs):=by rw[aL,aF rfl]
 have fin:∀{s':St} {v':A},Stp r S v' (s.setO p (.cells 43 t.cs)) s'->Stp r S v' s s':=λh=>h.new1 B
 cases k1:decide (t.kind=1)with
 | true =>
  rw[aF (gQ k1)]at z
  have hb:-9223372036854775808<=t.n/\t.n<=9223372036854775807:=by
   rw[Tm.shape,aF (gQ k1)]at hs;simp only[aBj,cT,oK,dE]at hs;omega
  simp only[go_sem,B,k1];cases n1:decide (t.n<0)with
  | true =>
   rw[aF (gQ n1)]at z;simp only[go_sem,B,n1];refine aB4 t.n hb.1 hb.2 _ _ _ ?_;simp only[go_sem,B];refine aPA t.n (gQ n1) _ _ _ ?_;simp only[go_sem,B];refine aIY [[45],(Lib.itoa t.n).drop 1] r M S y _ _ _ F (by simp only[aG,aH];omega) (λs1 U m u=>?_);simp only[go_sem];exact aO (z _ _ m (fin u))
  | false =>
   rw[aB (gQ n1)]at z;simp only[go_sem,B,n1];refine aB4 t.n hb.1 hb.2 _ _ _ ?_;simp only[go_sem,B];refine dU [Lib.itoa t.n] r M S y _ _ _ F (by simp only[aG,aH];omega) (λs1 U m u=>?_);simp only[go_sem];exact aO (z _ _ m (fin u))
 | false =>
 rw[aB (gQ k1)]at z;simp only[go_sem,B,k1];cases k2:decide (t.kind=2)with
 | true =>
  rw[aF (gQ k2)]at z;simp only[go_sem,B,k2];refine aSn _ _ _ _ ?_;simp only[go_sem,B];refine dU [if decide (t.n=1)=true then [116,114,117,101] else [102,97,108,115,101]] r M S y _ _ _ F (by simp only[aG,aH];omega) (λs1 U m u=>?_);simp only[go_sem];simp only[dE]at m;exact aO (z _ _ m (fin u))
 | false =>
 rw[aB (gQ k2)]at z;simp only[go_sem,B,k2];cases k3:decide (t.kind=3)with
 | true =>
  rw[aF (gQ k3)]at z;simp only[go_sem,B,k3]
  have bl:t.text.length<=1000:=by
   have bf:t.kind=3:=gQ k3;rw[Tm.shape,aB aC,aB aC,aF bf]at hs;simp only[oU,cT,dE]at hs;omega
  refine⟨by simp only[maxLen];omega,by simp only[maxLen];omega,?_⟩;refine dU [[34]++t.text++[34]] r M S y _ _ _ F (by simp only[aG,aH];omega) (λs1 U m u=>?_);simp only[go_sem];exact aO (z _ _ m (fin u))
 | false =>
 rw[aB (gQ k3)]at z;simp only[go_sem,B,k3];cases k4:decide (t.kind=4)with
 | true =>
  rw[aF (gQ k4)]at z;simp only[go_sem,B,k4];refine dU [[39],t.text] r M S y _ _ _ F (by simp only[aG,aH];omega) (λs1 U m u=>?_);simp only[go_sem];exact aO (z _ _ m (fin u))
 | false =>
 rw[aB (gQ k4)]at z;simp only[go_sem,B,k4];cases k5:decide (t.kind=5)with
 | true =>
  rw[aF (gQ k5)]at z;simp only[go_sem,B,k5];refine dU [t.text,[40]] r M S y _ _ _ F (by simp only[aG,aH];omega) (λs1 U m u=>?_);simp only[go_sem,B];have g1:s1.getO p=some (.cells 43 t.cs):=u.keep F gp aE aE;simp only[go_sem,g1];refine aCW t.kids ih r M U _ _ _ _ m (by rw[fT];simp only[aG,aH];omega) (λs2 v2 Z O=>?_);simp only[go_sem];refine dU [[41]] r M v2 _ _ _ _ Z (by have:=b9 false (bF y [t.text,[40]]);rw[fT]at this;simp only[aG,aH]at this⊢;omega) (λs3 v3 b0 b2=>?_);simp only[go_sem];exact aO (z _ _ b0 (fin (u.trans (O.trans b2))))
 | false =>
 rw[aB (gQ k5)]at z;simp only[go_sem,B,k5];cases k6:decide (t.kind=6)with
 | true =>
  rw[aF (gQ k6)]at z;simp only[go_sem,B,k6];cases x1:decide (t.text=[95])with
  | true =>
   rw[aF (.inl (gQ x1))]at z;simp only[go_sem,B,k6,x1];refine dU [t.text] r M S y _ _ _ F (by simp only[aG,aH];omega) (λs1 U m u=>?_);simp only[go_sem];exact aO (z _ _ m (fin u))
  | false =>
   simp only[go_sem,B,k6,x1];cases x2:decide (t.text=[36])with
   | true =>
    rw[aF (.inr (gQ x2))]at z;simp only[go_sem,B,k6,x1,x2];refine dU [t.text] r M S y _ _ _ F (by simp only[aG,aH];omega) (λs1 U m u=>?_);simp only[go_sem];exact aO (z _ _ m (fin u))
   | false =>
    rw[aB (by simp only[fR]at x1 x2;exactλe=>e.elim x1 x2)]at z;simp only[go_sem,B,k6,x1,x2];refine aIY [t.text,[58],t.sort] r M S y _ _ _ F (by simp only[aG,aH];omega) (λs1 U m u=>?_);simp only[go_sem];exact aO (z _ _ m (fin u))
 | false =>
 rw[aB (gQ k6)]at z;simp only[go_sem,B,k6];cases k7:decide (t.kind=7)with
 | true =>
  rw[aF (gQ k7)]at z;simp only[go_sem,B,k7];refine dU [[91]] r M S y _ _ _ F (by simp only[aG,aH];omega) (λs1 U m u=>?_);have g1:=u.keep F gp aE aE;simp only[go_sem,g1];have l1:=fT [[91]] y;simp only[aG,aH]at l1;refine aCW t.kids ih r M U _ _ _ _ m aC (λs2 v2 Z O=>?_);have g2:=O.keep m g1 aE aE;have l2:=b9 false (bF y [[91]]);simp only[go_sem,g2];refine aIZ t r M v2 _ _ _ _ Z aC (λs3 v3 b0 b2=>?_);simp only[go_sem];have l3:=aAQ t.rest (gW false (bF y [[91]]) t.kids);refine dU [[93]] r M v3 _ _ _ _ b0 (by simp only[aG,aH];omega) (λs4 v4 b7 b6=>?_);simp only[go_sem];exact aO (z _ _ b7 (fin (u.trans (O.trans (b2.trans b6)))))
 | false =>
 rw[aB (gQ k7)]at z;simp only[go_sem,B,k7];cases k8:decide (t.kind=8)with
 | true =>
  rw[aF (gQ k8)]at z
  have he:t.kids.length % 2=0:=by
   have bg:t.kind=8:=gQ k8;rw[Tm.shape,aB aC,aB aC,aB aC,aB aC,aB aC,aB aC,aB aC,aF bg]at hs;simp only[cT,dE]at hs;exact hs.1.2
  have bn:=zM t.kids;simp only[go_sem,B,k8];refine dU [[123]] r M S y _ _ _ F (by simp only[aG,aH];omega) (λs1 U m u=>?_);have g1:=u.keep F gp aE aE;simp only[go_sem,g1];have l1:=fT [[123]] y;simp only[aG,aH]at l1;refine aOV t.kids _ _ _ (λp1 p2 b5 bj b3=>?_);simp only[go_sem];refine HC t.kids p1 p2 _ _ _ ?_ ?_ he aC ?_
  .simp only[aL,b3,b3.symm,bR];first|rfl|simp
  .simp only[aL];first|rfl|simp
  simp only[go_sem];have bd:(s1.setO p1 (.cells 41 [.list none (t.kids.map Tm.enc)])).getO p2=none:=by simp only[aL,b3,b3.symm,bR];exact bj
  have b8:=(m.new b5 (.cells 41 [.list none (t.kids.map Tm.enc)])).new bd (.cells 3 [.int .i64 2]);refine aOA t.kids he ih r M U _ _ _ _ b8 aC (λs2 v2 Z O=>?_);have b4:=(O.new1 bd).new1 b5;have g2:=b4.keep m g1 aE aE;have l2:=aGE t.kids.length t.kids false (bF y [[123]]) (aV _);simp only[go_sem,g2];refine aIZ t r M v2 _ _ _ _ Z aC (λs3 v3 b0 b2=>?_);simp only[go_sem];have l3:=aAQ t.rest (fA false (bF y [[123]]) t.kids);refine dU [[125]] r M v3 _ _ _ _ b0 (by simp only[aG,aH];omega) (λs4 v4 b7 b6=>?_);simp only[go_sem];exact aO (z _ _ b7 (fin (u.trans (b4.trans (b2.trans b6)))))
 | false =>
 exfalso;simp only[fR]at k1 k2 k3 k4 k5 k6 k7 k8;rw[Tm.shape,aB k1,aB k2,aB k3,aB k4,aB k5,aB k6,aB k7,aB k8]at hs;cases hs
def gF{α:Type}(h:α->Nat):List α->Nat
 | []=>0
 | x::r=>h x+1+gF h r
theorem aMr{α:Type}(h:α->Nat):∀a b:List α,gF h (a++b)=gF h a+gF h b
 | [],b=>by simp[gF]
 | x::r,b=>by simp only[aZ,gF,aMr h r b];omega
theorem aAV{α:Type}(m:α->Nat){l:List α}{i:Nat}{x:α}(h:l[i]?=some x):gF m (l.take i)+m x+1<=gF m l:=by
 have u:i<l.length:=(eF.1 h).1;have e:gF m l=gF m (l.take i)+gF m (l.drop i):=by rw[<-aMr,List.take_append_drop]
 have y:l.drop i=x::l.drop (i+1):=by
  rw[aAz u];rw[aX u]at h;cases h;rfl
 rw[e,y,gF];omega
theorem yR{α:Type}(one:List Wd->α->List Wd)(m:α->Nat)(h:∀x c,(one c x).length<=c.length+m x):∀(l:List α) (b:Bool) (c:List Wd),(dL one b c l).length<=c.length+gF m l
 | [],b,c=>by simp[dL,gF]
 | x::r,b,c=>by
  have u:=yR one m h r true (one (if b=true then aJ c [44] else c) x);have h2:=h x (if b=true then aJ c [44] else c);have y:(if b=true then aJ c [44] else c).length<=c.length+1:=by split<;>simp[aJ]
  simp only[dL,gF];omega
theorem aI1{α:Type}(one:List Wd->α->List Wd):∀(a b:List α) (t:Bool) (c:List Wd),a≠[]->dL one t c (a++b)=dL one true (dL one t c a) b
 | [x],b,t,c,_=>rfl
 | x::y::r,b,t,c,_=>by
  rw[aZ,dL,dL,aI1 one (y::r) b true _ bJ]
theorem aFK{α:Type}(one:List Wd->α->List Wd){l:List α}{i:Nat}{x:α}(h:l[i]?=some x)(c:List Wd) :
  dL one false c (l.take (i+1))=one (if 0<i then aJ (dL one false c (l.take i)) [44] else dL one false c (l.take i)) x:=by
 have u:i<l.length:=(eF.1 h).1;rw[fD,h];by_cases m:0<i
 .rw[aF m];exact aI1 one (l.take i) [x] false c (λe=>by rcases List.take_eq_nil_iff.1 e with e|e;(subst e;simp at m);(subst e;simp at u))
 .obtain rfl:i=0:=by omega
  rfl
theorem aOh(l:List aD)(one:List Wd->aD->List Wd)(bd:aD->Nat)(b0:∀x c,(one c x).length<=c.length+bd x)(f:FuncId)(caps:List A)(I:St->Prop)(r:Nat)(S:A)
  (hI:∀s s' v v' m,WrS s r S v m->Stp r v v' s s'->I s->I s')
  (hf:∀x,x∈l->∀M m s KV Kp,I s->WrS s r S M m->m.length+bd x<=4294967296->(∀s' z,WrS s' r S z (one m x)->Stp r M z s s'->KV s' (.tuple []))->Den cx f ([]++[.str x]++caps) KV Kp s)
  (M:A)(m:List Wd)(s:St)(KV Kp:St->A->Prop)(hw:WrS s r S M m)(b2:I s)(hl:m.length+gF bd l<=4294967296)
  (hk:∀s' z,WrS s' r S z (dL one false m l)->Stp r M z s s'->KV s' (.tuple [])):Den cx 289 [.ptr r 0,.list none (l.map (.str)),.fn f [] caps] KV Kp s:=by
 refine iO λb4=>?_
 have b7:=b4 _ (cP _ (bU ..));(refine aR func289 [0,1,2,6,7,8,9,10,11,16] ?_;simp only[go_sem,ntmps289,f289])
 refine Ex.loop (ι:=Nat × (St × A)) (λc=>[(0,.ptr r 0),(2,.fn f [] caps),(8,.list none (l.map (.str))),(9,.int .i64 (l.length:Nat)),(10,.int .i64 (c.1:Nat))])
  (λc=>c.2.1) (λc=>c.1<=l.length/\WrS c.2.1 r S c.2.2 (dL one false m (l.take c.1))/\Stp r M c.2.2 s c.2.1) (λc=>l.length-c.1) (0,(s,M)) ⟨aU _,hw,Stp.refl r M s⟩ ?_ (aM s) ?_
 ·(simp only[go_sem];try exact rfl)
 .rintro⟨i,s1,v1⟩ ⟨hi,u,y⟩;simp only at hi u y;have Z:=hI _ _ _ _ _ hw y b2;refine bE (V:=[0,1,2,6,7,8,9,10,11,16]) _ _ _ _ ?_;simp only[go_sem]
  (apply aT<;>intro h)<;>simp only[go_sem,h]
  .have B:i<l.length:=gQ h;clear h;obtain⟨x,hx⟩:∃a,l[i]?=some a:=⟨_,aX B⟩
   have U:x∈l:=bZ hx;have w1:=b7.wrap (i:=i) (gQ B);have d0:decide ((0:Int)<(i:Int))=decide (0<i):=by rw[gV];omega
   have b9:=aAV bd hx;have bb:=yR one bd b0 (l.take i) false m;have F:=aFK one hx m;simp only[go_sem,hx,B];cases h0:decide (0<i)with
   | false =>
    rw[aB (gQ h0)]at F;simp only[go_sem,d0,h0];refine hf x U v1 _ _ _ _ Z u aC (λs3 v3 O H=>?_);simp only[go_sem];exact⟨(i+1,s3,v3),⟨B,by rw[F];exact O,y.trans H⟩,aP,w1,aM _⟩
   | true =>
    rw[aF (gQ h0)]at F;simp only[go_sem,d0,h0];refine dU [[44]] r S v1 _ _ _ _ u (by simp only[aG,aH];omega) (λs3 v3 O H=>?_);have b8:=hI _ _ _ _ _ u H Z;simp only[go_sem];refine hf x U v3 _ _ _ _ b8 O (by rw[fT];simp only[aG,aH];omega) (λs4 v4 b5 b3=>?_);simp only[go_sem];exact⟨(i+1,s4,v4),⟨B,by rw[F];exact b5,y.trans (H.trans b3)⟩,aP,w1,aM _⟩
  .have b6:i=l.length:=by have:¬ i<l.length:=gQ h;omega
   subst b6;rw[List.take_length]at u;exact aO (hk _ _ u y)
theorem aOe(l:List Int)(one:List Wd->Int->List Wd)(bd:Int->Nat)(b0:∀x c,(one c x).length<=c.length+bd x)(f:FuncId)(caps:List A)(I:St->Prop)(r:Nat)(S:A)
  (hI:∀s s' v v' m,WrS s r S v m->Stp r v v' s s'->I s->I s')
  (hf:∀x,x∈l->∀M m s KV Kp,I s->WrS s r S M m->m.length+bd x<=4294967296->(∀s' z,WrS s' r S z (one m x)->Stp r M z s s'->KV s' (.tuple []))->Den cx f ([]++[.int .i64 x]++caps) KV Kp s)
  (M:A)(m:List Wd)(s:St)(KV Kp:St->A->Prop)(hw:WrS s r S M m)(b2:I s)(hl:m.length+gF bd l<=4294967296)
  (hk:∀s' z,WrS s' r S z (dL one false m l)->Stp r M z s s'->KV s' (.tuple [])):Den cx 291 [.ptr r 0,.list none (l.map (.int .i64)),.fn f [] caps] KV Kp s:=by
 refine iO λb4=>?_
 have b7:=b4 _ (cP _ (bU ..));(refine aR func291 [0,1,2,6,7,8,9,10,11,16] ?_;simp only[go_sem,ntmps291,f291])
 refine Ex.loop (ι:=Nat × (St × A)) (λc=>[(0,.ptr r 0),(2,.fn f [] caps),(8,.list none (l.map (.int .i64))),(9,.int .i64 (l.length:Nat)),(10,.int .i64 (c.1:Nat))])
  (λc=>c.2.1) (λc=>c.1<=l.length/\WrS c.2.1 r S c.2.2 (dL one false m (l.take c.1))/\Stp r M c.2.2 s c.2.1) (λc=>l.length-c.1) (0,(s,M)) ⟨aU _,hw,Stp.refl r M s⟩ ?_ (aM s) ?_
 ·(simp only[go_sem];try exact rfl)
 .rintro⟨i,s1,v1⟩ ⟨hi,u,y⟩;simp only at hi u y;have Z:=hI _ _ _ _ _ hw y b2;refine bE (V:=[0,1,2,6,7,8,9,10,11,16]) _ _ _ _ ?_;simp only[go_sem]
  (apply aT<;>intro h)<;>simp only[go_sem,h]
  .have B:i<l.length:=gQ h;clear h;obtain⟨x,hx⟩:∃a,l[i]?=some a:=⟨_,aX B⟩
   have U:x∈l:=bZ hx;have w1:=b7.wrap (i:=i) (gQ B);have d0:decide ((0:Int)<(i:Int))=decide (0<i):=by rw[gV];omega
   have b9:=aAV bd hx;have bb:=yR one bd b0 (l.take i) false m;have F:=aFK one hx m;simp only[go_sem,hx,B];cases h0:decide (0<i)with
   | false =>
    rw[aB (gQ h0)]at F;simp only[go_sem,d0,h0];refine hf x U v1 _ _ _ _ Z u aC (λs3 v3 O H=>?_);simp only[go_sem];exact⟨(i+1,s3,v3),⟨B,by rw[F];exact O,y.trans H⟩,aP,w1,aM _⟩
   | true =>
    rw[aF (gQ h0)]at F;simp only[go_sem,d0,h0];refine dU [[44]] r S v1 _ _ _ _ u (by simp only[aG,aH];omega) (λs3 v3 O H=>?_);have b8:=hI _ _ _ _ _ u H Z;simp only[go_sem];refine hf x U v3 _ _ _ _ b8 O (by rw[fT];simp only[aG,aH];omega) (λs4 v4 b5 b3=>?_);simp only[go_sem];exact⟨(i+1,s4,v4),⟨B,by rw[F];exact b5,y.trans (H.trans b3)⟩,aP,w1,aM _⟩
  .have b6:i=l.length:=by have:¬ i<l.length:=gQ h;omega
   subst b6;rw[List.take_length]at u;exact aO (hk _ _ u y)
theorem aIz(l:List Tm)(M:∀t,t∈l->TwOk t)(r:Nat)(y z:A)(h:List Wd)(s:St)(KV Kp:St->A->Prop)(Z:WrS s r y z h)(hl:h.length+1+8 * dW l<=4294967296)
  (H:∀s' m,WrS s' r y m (pM h l)->Stp r z m s s'->KV s' (.tuple [])):Den cx 181 [.ptr r 0,.list none (l.map Tm.enc)] KV Kp s:=by
 have B:∀(l:List Tm) (b:Bool) (c:List Wd),gW b c l=dL bS b c l:=by
  intro l
  induction l with
  | nil=>intro b c;rfl
  | cons x r M=>intro b c;rw[gW,dL,M]
 (refine aR func181 [0,1,6] ?_;simp only[go_sem,ntmps181,f181]);have d0:decide ((0:Int)<(l.length:Int))=decide (0<l.length):=by rw[gV];omega
 cases U:decide (0<l.length)with
 | false =>
  have e:l=[]:=fW (gQ U);subst e;simp only[go_sem,Int.reduceLT];exact aO (H _ _ Z (Stp.refl r z s))
 | true =>
  rw[pM,aB (λe=>by subst e;simp at U)]at H;simp only[go_sem,d0,U];refine dU [[105,102]] r y z _ _ _ _ Z (by simp only[aG,aH];omega) (λs1 v1 S O=>?_);simp only[go_sem];refine aCW l M r y v1 _ _ _ _ S (by rw[fT];simp only[aG,aH];omega) (λs2 v2 u F=>?_);simp only[go_sem];rw[B]at u;exact aO (H _ _ u (O.trans F))
theorem aD1{α:Type}(l:List α):gF (λ_=>1) l=2 * l.length:=by
 induction l with
 | nil=>rfl
 | cons x r h=>simp only[gF,h,aG];omega
theorem aNp{r p:Nat}{z:A}:∀(s s':St) (v u:A) (m:List Wd),WrS s r z v m->Stp r v u s s'->s.getO p=some (.cells 110 [.ptr r 0])->s'.getO p=some (.cells 110 [.ptr r 0]) :=
 λ_ _ _ _ _ y B h=>B.keep y h aE aE
theorem aPz(x:aD)(p r:Nat)(B v0:A)(h:List Wd)(s:St)(KV Kp:St->A->Prop)(u:s.getO p=some (.cells 110 [.ptr r 0]))(z:WrS s r B v0 h)(hl:h.length+1<=4294967296)
  (M:∀s' y,WrS s' r B y (aJ h x)->Stp r v0 y s s'->KV s' (.tuple [])):Den cx 290 ([]++[.str x]++[.ptr p 0]) KV Kp s:=by
 show Den cx 290 [.str x,.ptr p 0] KV Kp s;(refine aR func290 [0,1] ?_;simp only[go_sem,ntmps290,f290]);simp only[go_sem,u];refine dU [x] r B v0 _ _ _ _ z dO (λs1 O F m=>?_);have H:=m.keep z u aE aE;simp only[go_sem,H];exact aO (M _ _ F m)
theorem aPX(n:Int)(O:-9223372036854775808<=n)(S:n<=9223372036854775807)(p r:Nat)(B v0:A)(h:List Wd)(s:St)(KV Kp:St->A->Prop)(m:s.getO p=some (.cells 110 [.ptr r 0]))(z:WrS s r B v0 h)(hl:h.length+1<=4294967296)
  (M:∀s' y,WrS s' r B y (aJ h (Lib.itoa n))->Stp r v0 y s s'->KV s' (.tuple [])):Den cx 292 ([]++[.int .i64 n]++[.ptr p 0]) KV Kp s:=by
 show Den cx 292 [.int .i64 n,.ptr p 0] KV Kp s;(refine aR func292 [0,1] ?_;simp only[go_sem,ntmps292,f292]);(refine bO (OT.r 0 5) [(2,[0])] ?_;simp only[go_sem]);simp only[go_sem,m];refine aB4 n O S _ _ _ ?_;simp only[go_sem,m];refine dU [Lib.itoa n] r B v0 _ _ _ _ z dO (λs1 U F u=>?_);have H:=u.keep z m aE aE;simp only[go_sem,H];exact aO (M _ _ F u)
theorem aIB(l:List aD)(r:Nat)(u v0:A)(h:List Wd)(s:St)(KV Kp:St->A->Prop)(F:WrS s r u v0 h)(hl:h.length+2 * l.length<=4294967296)
  (z:∀s' m,WrS s' r u m (dL aJ false h l)->Stp r v0 m s s'->KV s' (.tuple [])):Den cx 250 [.ptr r 0,.list none (l.map .str)] KV Kp s:=by
 (refine aR func250 [0,1,2] ?_;simp only[go_sem,ntmps250,f250]);(refine aQ λp y=>?_);simp only[go_sem,y]
 refine aOh l aJ (λ_=>1) (λx c=>by rw[iS];exact aV _) 290 [.ptr p 0] (λs=>s.getO p=some (.cells 110 [.ptr r 0])) r u aNp (λx _ O h s KV Kp M S hl z=>aPz x p r u O h s KV Kp M S hl z)
  v0 h _ _ _ (F.new y _) (by rw[aL,aF rfl]) (by rw[aD1];exact hl) (λs1 U H B=>?_)
 simp only[go_sem];exact aO (z _ _ H (B.new1 y))
theorem aFO(c:Cel)(U:TwOk c.init)(r:Nat)(z v0:A)(m:List Wd)(s:St)(KV Kp:St->A->Prop)(H:WrS s r z v0 m)(hl:m.length+4+8 * c.init.cnt<=4294967296)
  (S:∀s' y,WrS s' r z y (gX m c)->Stp r v0 y s s'->KV s' (.tuple [])):Den cx 182 [.ptr r 0,.agg c.cs] KV Kp s:=by
 (refine aR func182 [0,1,3] ?_;simp only[go_sem,ntmps182,f182]);(refine aQ λp F=>?_);simp only[go_sem,F];have h:=H.new F (.cells 68 c.cs);refine dU [c.name,[58],c.sort,[61]] r z v0 _ _ _ _ h (by simp only[aG,aH];omega) (λs1 v1 M u=>?_);have Z:=u.keep h (p:=p) (e:=68) (cs:=c.cs) (by rw[aL,aF rfl]<;>rfl) aE aE;simp only[go_sem,Z];refine U r z v1 _ _ _ _ M (by rw[fT];simp only[aG,aH];omega) (λs2 v2 O B=>?_);simp only[go_sem];exact aO (S _ _ O ((u.trans B).new1 F))
theorem aKa(c:List Wd)(a b:List aD):bF c (a++b)=bF (bF c a) b:=by simp[bF]
theorem yI{α m:Type}(f:α->m){l:List α}{i:Nat}{x:α}(h:l[i]?=some x):(l.take (i+1)).map f=(l.take i).map f++[f x]:=by
 rw[fD,h];simp
def aHZ(o:Opr)(c:List Wd):List Wd:=if o.pieces=[] then bF c o.args else c
def aHT(o:Opr)(c:List Wd):List Wd:=if 0<o.prec then bF c [[112,114,101,99],Lib.itoa o.prec] else c
def aBC(o:Opr)(c:List Wd):List Wd:=if o.assoc=1 then aJ c [108,101,102,116] else if o.assoc=2 then aJ c [114,105,103,104,116] else c
def aHV(o:Opr)(c:List Wd):List Wd:=if o.strict=[] then c else aJ (dL (λc n=>aJ c (Lib.itoa n)) false (bF c [[115,116,114,105,99,116],[40]]) o.strict) [41]
theorem aMR(o:Opr):pV o=aJ (aHV o (aBC o (aHT o (bF (aHZ o (bF (bF [] [[111,112],o.name,[58]]) (o.pieces.map mH))) [[45,62],o.sort])))) [46]:=rfl
theorem aRh(o:Opr)(bd:∀n,n∈o.strict->-9223372036854775808<=n/\n<=9223372036854775807)(bw:o.prec<=9223372036854775807)(br:∀p,p∈o.pieces->p.text.length<=4294967296)
  (r:Nat)(M v0:A)(LS:List (List Wd))(s:St)(KV Kp:St->A->Prop)(hw:WfS s r M v0 LS [])(hl:o.pieces.length+o.args.length+2 * o.strict.length+20<=4294967296)(bz:LS.length+1<=4294967296)
  (hk:∀s' U,WfS s' r U .nils (LS++[pV o]) []->Frm s s'->KV s' (.tuple [])):Den cx 251 [.ptr r 0,.agg o.cs] KV Kp s:=by
 have fin:∀{s1 S c} {b3 bc:St->A->Prop} (hs:Stp r v0 S s s1) (O:WrS s1 r M S c),c.length+1<=4294967296->(∀s' U,WfS s' r U .nils (LS++[aJ c [46]]) []->Frm s s'->b3 s' (.tuple []))->Den cx 178 [.ptr r 0] b3 bc s1:=by
  intro s1 S c b3 bc hs O hc bp;exact rL r M S LS c s1 b3 bc (hw.step hs O) hc bz (λs2 v2 m bn=>bp _ _ m ((hs.frm hw.w).trans bn))
 (refine aR func251 [0,1,2,3,5,12,13,14,15,20,37,49,57,58,63,71] ?_;simp only[go_sem,ntmps251,f251]);(refine aQ λp hp=>?_);simp only[go_sem,hp];(refine aQ λq hq=>?_);simp only[go_sem,hp,hq];have bv:((s.setO p (.cells 110 [.ptr r 0])).setO q (.cells 73 o.cs)).getO p=some (.cells 110 [.ptr r 0]):=by simp only[aL,hq.1.1,hq.1.2,bR,bT]
 have bm:((s.setO p (.cells 110 [.ptr r 0])).setO q (.cells 73 o.cs)).getO q=some (.cells 73 o.cs):=by simp only[aL,bT]
 have bj:(s.setO p (.cells 110 [.ptr r 0])).getO q=none:=by simp only[aL,hq.1.1,hq.1.2,bR];exact hq.2
 have b8:=(hw.w.new hp (.cells 110 [.ptr r 0])).new bj (.cells 73 o.cs);have b5:∀{s1 S},Stp r v0 S ((s.setO p (.cells 110 [.ptr r 0])).setO q (.cells 73 o.cs)) s1->Stp r v0 S s s1:=λh=>(h.new1 bj).new1 hp
 clear hw;refine dU [[111,112],o.name,[58]] r M v0 _ _ _ _ b8 dO (λs1 S O b9=>?_);have bk:=b9.keep b8 bv aE aE;have bg:=b9.keep b8 bm aE aE;simp only[go_sem,bk,bg]
 refine Ex.loop (ι:=Nat × (St × A)) (λc=>[(0,.ptr r 0),(2,.ptr p 0),(3,.ptr q 0),(12,.list none (o.pieces.map Piece.enc)),(13,.int .i64 (o.pieces.length:Nat)),(14,.int .i64 (c.1:Nat))])
  (λc=>c.2.1) (λc=>c.1<=o.pieces.length/\WrS c.2.1 r M c.2.2 (bF (bF [] [[111,112],o.name,[58]]) ((o.pieces.take c.1).map mH))/\Stp r S c.2.2 s1 c.2.1) (λc=>o.pieces.length-c.1) (0,(s1,S)) ⟨aU _,O,Stp.refl r S s1⟩ ?_ (aM s1) ?_
 ·(simp only[go_sem];try exact rfl)
 .rintro⟨i,s2,v2⟩ ⟨hi,m,B⟩;simp only at hi m B;refine bE (V:=[0,1,2,3,5,12,13,14,15,20,37,49,57,58,63,71]) _ _ _ _ ?_;have u:=B.keep O bk aE aE;have y:=B.keep O bg aE aE;simp only[go_sem]
  (apply aT<;>intro h)<;>simp only[go_sem,h]
  .have Z:i<o.pieces.length:=gQ h;clear h;obtain⟨x,hx⟩:∃a,o.pieces[i]?=some a:=⟨_,aX Z⟩
   have bq:x∈o.pieces:=bZ hx;have w1:=cF i aC;have b0:=yI mH hx;have c1:=br x bq;simp only[go_sem,hx,Z];(refine aQ λb7 H=>?_);have nb:b7≠p:=λe=>by rw[e,u]at H;cases H
   simp only[go_sem,hx,Z,H];have F:=m.new H (.cells 143 x.cs);cases h0:decide (x.sort=[])with
   | false =>
    have e:mH x=x.sort:=by rw[mH,aB (gQ h0)]
    rw[e]at b0;simp only[go_sem,h0,u,H,nb,nb.symm];refine dU [x.sort] r M v2 _ _ _ _ F (by simp only[fT,aG,aH,aK,cQ];omega) (λs4 v4 bb b6=>?_);simp only[go_sem];exact⟨(i+1,s4,v4),⟨Z,by rw[b0,aKa];exact bb,B.trans (b6.new1 H)⟩,aP,w1,aM _⟩
   | true =>
    have e:mH x=[34]++x.text++[34]:=by rw[mH,aF (gQ h0)]
    rw[e]at b0;simp only[go_sem,h0,u,H,nb,nb.symm];refine⟨by simp only[maxLen];omega,by simp only[maxLen];omega,?_⟩;refine dU [[34]++x.text++[34]] r M v2 _ _ _ _ F (by simp only[fT,aG,aH,aK,cQ];omega) (λs4 v4 bb b6=>?_);simp only[go_sem];exact⟨(i+1,s4,v4),⟨Z,by rw[b0,aKa];exact bb,B.trans (b6.new1 H)⟩,aP,w1,aM _⟩
  .have c0:i=o.pieces.length:=by have:¬ i<o.pieces.length:=gQ h;omega
   subst c0;rw[List.take_length]at m;obtain⟨c2,b4⟩:∃c,c=bF (bF [] [[111,112],o.name,[58]]) (o.pieces.map mH):=⟨_,rfl⟩
   have c3:c2.length<=3+o.pieces.length:=by rw[b4];simp only[fT,aG,aH,aK];omega
   rw[<-b4]at m
   replace B:=b9.trans B
   simp only[go_sem,y]
   have dp:decide ((o.pieces.length:Int)=0)=decide (o.pieces=[]):=by
    rw[gV];exact⟨λe=>fW aC,λe=>by rw[e];rfl⟩
   have bf:∀{s:St} {v:A} {c:List Wd},WrS s r M v (dL (λc n=>aJ c (Lib.itoa n)) false c o.strict)->(dL (λc n=>aJ c (Lib.itoa n)) false c o.strict).length<=c.length+2 * o.strict.length:=by
    intro s v c _;have:=yR (λc n=>aJ c (Lib.itoa n)) (λ_=>1) (λx c=>by rw[iS];exact aV _) o.strict false c
    rwa[aD1]at this
   cases p1:decide (o.pieces=[])
   all_goals (
    first
     | (have e1:∀c,aHZ o c=bF c o.args:=λc=>aF (gQ p1))
     | (have e1:∀c,aHZ o c=c:=λc=>aB (gQ p1))
    simp only[go_sem,dp,p1,u,y])
   rotate_left;refine dU o.args r M v2 _ _ _ _ m dO (λs2 v2 F z=>?_);have u:=z.keep m u aE aE;have y:=z.keep m y aE aE;have B:=B.trans z;have m:=F;simp only[go_sem,u,y]
   all_goals (
    refine dU [[45,62],o.sort] r M v2 _ _ _ _ m dO (λs2 v2 F z=>?_);have u:=z.keep m u aE aE;have y:=z.keep m y aE aE;have B:=B.trans z;have m:=F;simp only[go_sem,u,y];cases p2:decide (0<o.prec)
    all_goals (
     first
      | (have e2:∀c,aHT o c=bF c [[112,114,101,99],Lib.itoa o.prec]:=λc=>aF (gQ p2))
      | (have e2:∀c,aHT o c=c:=λc=>aB (gQ p2))
     simp only[go_sem,p2,u,y]))
   any_goals (
    have c5:0<o.prec:=gQ p2;(refine bO (OT.r 0 6) [(3,[0])] ?_;simp only[go_sem]);simp only[go_sem,u,y];refine aB4 o.prec aC bw _ _ _ ?_;simp only[go_sem,u,y];refine dU [[112,114,101,99],Lib.itoa o.prec] r M v2 _ _ _ _ m dO (λs2 v2 F z=>?_);have u:=z.keep m u aE aE;have y:=z.keep m y aE aE;have B:=B.trans z;have m:=F;simp only[go_sem,u,y]
    skip)
   all_goals (
    cases p3:decide (o.assoc=1)
    all_goals (simp only[go_sem,p3,u,y]))
   any_goals (
    have b2:o.assoc=1:=gQ p3;have e3:∀c,aBC o c=aJ c [108,101,102,116]:=λc=>aF b2
    refine dU [[108,101,102,116]] r M v2 _ _ _ _ m dO (λs2 v2 F z=>?_);have u:=z.keep m u aE aE;have y:=z.keep m y aE aE;have B:=B.trans z;have m:=F;simp only[go_sem,u,y]
    skip)
   any_goals (
    have b2:¬ o.assoc=1:=gQ p3;cases p4:decide (o.assoc=2)
    all_goals (
     first
      | (have e3:∀c,aBC o c=aJ c [114,105,103,104,116]:=λc=>by unfold aBC;rw[aB b2,aF (gQ p4)])
      | (have e3:∀c,aBC o c=c:=λc=>by unfold aBC;rw[aB b2,aB (gQ p4)])
     simp only[go_sem,p4,u,y]))
   any_goals (
    have c4:o.assoc=2:=gQ p4;refine dU [[114,105,103,104,116]] r M v2 _ _ _ _ m dO (λs2 v2 F z=>?_);have u:=z.keep m u aE aE;have y:=z.keep m y aE aE;have B:=B.trans z;have m:=F;simp only[go_sem,u,y]
    skip)
   all_goals (
    have dq:decide ((0:Int)<(o.strict.length:Int))=decide (0<o.strict.length):=by rw[gV];omega
    cases p5:decide (0<o.strict.length)
    all_goals (simp only[go_sem,dq,p5,u,y]))
   any_goals (
    have bh:0<o.strict.length:=gQ p5;refine dU [[115,116,114,105,99,116],[40]] r M v2 _ _ _ _ m dO (λs2 v2 F z=>?_);have u:=z.keep m u aE aE;have y:=z.keep m y aE aE;have B:=B.trans z;have m:=F;simp only[go_sem,u,y]
    refine aOe o.strict (λc n=>aJ c (Lib.itoa n)) (λ_=>1) (λx c=>by rw[iS];exact aV _) 292 [.ptr p 0] (λs=>s.getO p=some (.cells 110 [.ptr r 0])) r M aNp
     (λn hn vl bt s KV Kp hI hw hl hk=>aPX n (bd n hn).1 (bd n hn).2 p r M vl bt s KV Kp hI hw hl hk) v2 _ _ _ _ m u (by(try simp only[aD1,fT,iS,aG,aH,aI,aK]);omega) (λs2 v2 F z=>?_)
    have u:=z.keep m u aE aE;have y:=z.keep m y aE aE;have B:=B.trans z;have m:=F;have bl:=bf m;simp only[fT,iS,aG,aH]at bl;simp only[go_sem,u,y];refine dU [[41]] r M v2 _ _ _ _ m dO (λs2 v2 F z=>?_);have u:=z.keep m u aE aE;have y:=z.keep m y aE aE;have B:=B.trans z;have m:=F;simp only[go_sem,u,y];have e4:∀c,aHV o c=aJ (dL (λc n=>aJ c (Lib.itoa n)) false (bF c [[115,116,114,105,99,116],[40]]) o.strict) [41]:=λc=>aB (λe=>by rw[e]at bh;cases bh)
    refine fin (b5 B) m dO (λs' U hW hF=>?_);simp only[go_sem];exact aO (hk _ _ (by rw[aMR,<-b4,e1,e2,e3,e4];exact hW) hF))
   all_goals (
    have e4:∀c,aHV o c=c:=λc=>aF (fW (gQ p5))
    refine fin (b5 B) m dO (λs' U hW hF=>?_);simp only[go_sem];exact aO (hk _ _ (by rw[aMR,<-b4,e1,e2,e3,e4];exact hW) hF))
def tB(c:Cel):Nat:=4+8 * c.init.cnt
theorem aGP(x:Cel)(c:List Wd):(gX c x).length<=c.length+tB x:=by
 have:=sP x.init (bF c [x.name,[58],x.sort,[61]]);rw[fT]at this;simp only[aG,aH]at this;rw[gX,tB];omega
theorem aOC(l:List Cel)(ih:∀c,c∈l->TwOk c.init)(r:Nat)(S vl:A)(m:List Wd)(s:St)(KV Kp:St->A->Prop)(hw:WrS s r S vl m)(hl:m.length+gF tB l<=4294967296)
  (hk:∀s' b0,WrS s' r S b0 (dL gX false m l)->Stp r vl b0 s s'->KV s' (.tuple [])):Den cx 183 [.ptr r 0,.list none (l.map Cel.enc),.fn 182 [.ptr r 0] []] KV Kp s:=by
 refine iO λb4=>?_
 have b8:=b4 _ (cP _ (bU ..));(refine aR func183 [0,1,2,6,7,8,9,10,11,16] ?_;simp only[go_sem,ntmps183,f183])
 refine Ex.loop (ι:=Nat × (St × A)) (λc=>[(0,.ptr r 0),(2,.fn 182 [.ptr r 0] []),(8,.list none (l.map Cel.enc)),(9,.int .i64 (l.length:Nat)),(10,.int .i64 (c.1:Nat))])
  (λc=>c.2.1) (λc=>c.1<=l.length/\WrS c.2.1 r S c.2.2 (dL gX false m (l.take c.1))/\Stp r vl c.2.2 s c.2.1) (λc=>l.length-c.1) (0,(s,vl)) ⟨aU _,hw,Stp.refl r vl s⟩ ?_ (aM s) ?_
 ·(simp only[go_sem];try exact rfl)
 .rintro⟨i,s1,v1⟩ ⟨hi,F,z⟩;simp only at hi F z;refine bE (V:=[0,1,2,6,7,8,9,10,11,16]) _ _ _ _ ?_;simp only[go_sem]
  (apply aT<;>intro h)<;>simp only[go_sem,h]
  .have y:i<l.length:=gQ h;clear h;obtain⟨x,U⟩:∃a,l[i]?=some a:=⟨_,aX y⟩
   have Z:x∈l:=bZ U;have w1:=b8.wrap (i:=i) (gQ y);have d0:decide ((0:Int)<(i:Int))=decide (0<i):=by rw[gV];omega
   have b9:=aAV tB U;have bc:=yR gX tB aGP (l.take i) false m;have bb:tB x=4+8 * x.init.cnt:=rfl;have B:=aFK gX U m;simp only[go_sem,U,y];(refine aQ λb7 u=>?_);simp only[go_sem,U,y,u];have O:=F.new u (.cells 68 x.cs);cases h0:decide (0<i)with
   | false =>
    rw[aB (gQ h0)]at B;simp only[go_sem,d0,h0,u];refine aFO x (ih x Z) r S v1 _ _ _ _ O aC (λs3 v3 M H=>?_);simp only[go_sem];exact⟨(i+1,s3,v3),⟨y,by rw[B];exact M,z.trans (H.new1 u)⟩,aP,w1,aM _⟩
   | true =>
    rw[aF (gQ h0)]at B;simp only[go_sem,d0,h0,u];refine dU [[44]] r S v1 _ _ _ _ O (by simp only[aG,aH];omega) (λs3 v3 M H=>?_);have b2:=H.keep O (p:=b7) (e:=68) (cs:=x.cs) (by rw[aL,aF rfl]<;>rfl) aE aE;simp only[go_sem,b2];refine aFO x (ih x Z) r S v3 _ _ _ _ M (by rw[fT];simp only[aG,aH];omega) (λs4 v4 b5 b3=>?_);simp only[go_sem];exact⟨(i+1,s4,v4),⟨y,by rw[B];exact b5,z.trans ((H.trans b3).new1 u)⟩,aP,w1,aM _⟩
  .have b6:i=l.length:=by have:¬ i<l.length:=gQ h;omega
   subst b6;rw[List.take_length]at F;exact aO (hk _ _ F z)
theorem Stp.setN{r:Nat}{v0 v:A}{s s1:St}(h:Stp r v0 v s s1){c:Nat}(y:s.getO c=none)(o:Ob):Stp r v0 v s (s1.setO c o) :=
  ⟨fun q x u n m => by
    rw[aL,aB (λe=>by subst e;rw[y]at u;cases u)];exact h.ob q x u n m,
   h.new,λq u=>by
    rw[aL]at u;split at u
    · cases u
    · exact h.dom q u,h.tk,h.ls⟩
theorem WrS.setK{s:St}{r:Nat}{B F:A}{m:List Wd}(h:WrS s r B F m){c:Nat}{e:TypeId}{cs:List A}(y:s.getO c=some (.cells e cs))(S:e≠149)(h2:e≠156)(o:Ob):WrS (s.setO c o) r B F m:=by
 have M:r≠c:=λe'=>by rw[<-e',h.ob]at y;cases y;exact S rfl
 refine⟨by rw[aL,aB (Ne.symm M)];exact h.ob,h.one,?_⟩;cases h.line with
 | nil=>exact .nil
 | mg b cap _ J H u U z O =>
  have Z:b≠c:=λe'=>by rw[<-e',H]at y;cases y;exact h2 rfl
  exact .mg b cap m J (by rw[aL,aB (Ne.symm Z)];exact H) u U z O
theorem aF4(n:Nat)(hn:n<4294967296)(c p r:Nat)(S v0:A)(u:List Wd)(s:St)(KV Kp:St->A->Prop)(h:s.getO c=some (.cells 3 [.int .i64 (n:Nat)]))(z:s.getO p=some (.cells 110 [.ptr r 0]))
  (m:WrS s r S v0 u)(hl:u.length+1<=4294967296)
  (M : ∀ s' F,WrS (s'.setO c (.cells 3 [.int .i64 ((n + 1 : Nat) : Int)])) r S F (fB n u) → Stp r v0 F s s' → s'.getO c = some (.cells 3 [.int .i64 (n : Nat)]) → s'.getO p = some (.cells 110 [.ptr r 0]) →
   KV (s'.setO c (.cells 3 [.int .i64 ((n+1:Nat):Int)])) (.tuple [])):Den cx 260 [.ptr c 0,.ptr p 0] KV Kp s:=by
 have d0:decide ((0:Int)<(n:Int))=decide (0<n):=by rw[gV];omega
 have Z:=cF n aC;(refine aR func260 [0,1,3] ?_;simp only[go_sem,ntmps260,f260]);simp only[go_sem,h];cases O:decide (0<n)with
 | false =>
  simp only[go_sem,d0,O,h,Z];rw[fB,aB (gQ O)]at M;exact aO (M s v0 (m.setK h aE aE _) (Stp.refl r v0 s) h z)
 | true =>
  simp only[go_sem,d0,O,h,z];refine dU [[59]] r S v0 _ _ _ _ m dO (λs1 v1 U y=>?_);have B:=y.keep m h aE aE;have H:=y.keep m z aE aE;simp only[go_sem,B,H];simp only[go_sem,Z];rw[fB,aF (gQ O)]at M;exact aO (M s1 v1 (U.setK B aE aE _) y B H)
theorem aEh{α:Type}(h:α->Nat):∀l:List α,l.length<=gF h l
 | []=>aV _
 | x::r=>by have:=aEh h r;simp only[aG,gF];omega
theorem aJZ{α:Type}(one:Nat->List Wd->α->List Wd):∀(a b:List α) (n:Nat) (c:List Wd),eZ one n c (a++b)=eZ one (n+a.length) (eZ one n c a) b
 | [],b,n,c=>rfl
 | x::r,b,n,c=>by
  rw[aZ,eZ,eZ,aJZ one r b];congr 1;simp only[aG];omega
theorem aF0{α:Type}(one:Nat->List Wd->α->List Wd){l:List α}{i:Nat}{x:α}(h:l[i]?=some x)(n:Nat)(c:List Wd) :
  eZ one n c (l.take (i+1))=one (n+i) (eZ one n c (l.take i)) x:=by
 have m:i<l.length:=(eF.1 h).1;rw[fD,h];show eZ one n c (l.take i++[x])=_;rw[aJZ,cQ,yH aC];rfl
theorem zD{α:Type}(one:Nat->List Wd->α->List Wd)(m:α->Nat)(h:∀n x c,(one n c x).length<=c.length+m x):∀(l:List α) (n:Nat) (c:List Wd),(eZ one n c l).length<=c.length+gF m l
 | [],n,c=>by simp[eZ,gF]
 | x::r,n,c=>by
  have u:=zD one m h r (n+1) (one n c x);have h2:=h n x c;simp only[eZ,gF];omega
theorem aA1(n:Nat)(c:List Wd):(fB n c).length<=c.length+1:=by unfold fB;split<;>simp[aJ]
theorem aJh:∀(a:List Tm) (b:List Tm) (c:List Wd),kM c (a++b)=kM (kM c a) b
 | [],b,c=>rfl
 | x::r,b,c=>by rw[aZ,kM,kM,aJh r b]
theorem aPf{l:List Tm}{i:Nat}{x:Tm}(h:l[i]?=some x)(c:List Wd):kM c (l.take (i+1))=bS (aJ (kM c (l.take i)) [61,62]) x:=by
 rw[fD,h];show kM c (l.take i++[x])=_;rw[aJh];rfl
theorem aGp:∀(l:List Tm) (c:List Wd),(kM c l).length<=c.length+8 * dW l
 | [],c=>by simp[kM]
 | x::r,c=>by
  have h:=aGp r (bS (aJ c [61,62]) x);have h2:=sP x (aJ c [61,62]);rw[iS]at h2;simp only[kM,dW];omega
def tA(p:Part):Nat:=4+8 * p.left.cnt+8 * dW p.right
theorem aJF(n:Nat)(p:Part)(c:List Wd):(jV n c p).length<=c.length+tA p:=by
 have h:=aA1 n c;unfold jV tA
 have h2:∀d:List Wd,(kM (bS (aJ d [58]) p.left) p.right).length<=d.length+8 * p.left.cnt+8 * dW p.right:=λd=>by
  have a:=aGp p.right (bS (aJ d [58]) p.left);have b:=sP p.left (aJ d [58]);rw[iS]at b;omega
 refine mR (h2 _) ?_
 have m:(if p.at_=[] then aJ (fB n c) p.cell else bF (aJ (fB n c) p.cell) [[64],p.at_]).length<=c.length+4:=by
  split<;>simp only[iS,fT,aG,aH]<;>omega
 omega
def tC(f:Fresh):Nat:=4+8 * dW f.cells
theorem aBR:∀(l:List Tm) (b:Bool) (c:List Wd),gW b c l=dL bS b c l
 | [],b,c=>rfl
 | x::r,b,c=>by rw[gW,dL,aBR r]
theorem aKL(n:Nat)(f:Fresh)(c:List Wd):(kX n c f).length<=c.length+tC f:=by
 have h:=aA1 n c;have h2:=zN f.cells false (bF (fB n c) [[110,101,119],[40]]);rw[fT]at h2;simp only[aG,aH]at h2;unfold kX tC;rw[iS,<-aBR];omega
theorem aKn(n:Nat)(x:aD)(c:List Wd):(kW n c x).length<=c.length+4:=by
 have h:=aA1 n c;unfold kW;simp only[fT,aG,aH];omega
theorem xG{r:Nat}{v:A}{s:St}{b:Nat}(u:s.getO b=none)(o:Ob):Stp r v v s (s.setO b o) :=
  ⟨fun q x m _ _ => by rw [aL,aB (fun e => by subst e; rw [u] at m; cases m)]; exact m,fun _ h => .inl h,
   λq m=>by
    rw[aL]at m;split at m
    · cases m
    · exact m,λ_ _ h=>h,rfl⟩
structure RlS (s0:St) (r:Nat) (vi v0:A) (p q c:Nat) (x:Rul) (s:St) (v:A) (cur:List Wd) (n:Nat):Prop where
 w:WrS s r vi v cur
 t:Stp r v0 v s0 s
 gp:s.getO p=some (.cells 110 [.ptr r 0])
 gq:s.getO q=some (.cells 84 x.cs)
 gc:s.getO c=some (.cells 3 [.int .i64 (n:Nat)])
 hc:s0.getO c=none
theorem RlS.step{F:St}{r:Nat}{B v0:A}{p q c:Nat}{x:Rul}{s s':St}{v y:A}{z m:List Wd}{n:Nat}(h:RlS F r B v0 p q c x s v z n)(u:Stp r v y s s')(H:WrS s' r B y m):RlS F r B v0 p q c x s' y m n :=
 ⟨H,h.t.trans u,u.keep h.w h.gp aE aE,u.keep h.w h.gq aE aE,u.keep h.w h.gc aE aE,h.hc⟩
theorem RlS.new{y:St}{r:Nat}{u v0:A}{p q c:Nat}{x:Rul}{s:St}{v:A}{m:List Wd}{n:Nat}(h:RlS y r u v0 p q c x s v m n){b:Nat}(z:s.getO b=none)(o:Ob):RlS y r u v0 p q c x (s.setO b o) v m n :=
 h.step (xG z o) (h.w.new z o)
theorem RlS.count{M:St}{r:Nat}{B v0:A}{p q c:Nat}{x:Rul}{s s':St}{v H:A}{z u:List Wd}{n m:Nat}(h:RlS M r B v0 p q c x s v z n)(F:Stp r v H s s')
  (U:WrS (s'.setO c (.cells 3 [.int .i64 (m:Nat)])) r B H u):RlS M r B v0 p q c x (s'.setO c (.cells 3 [.int .i64 (m:Nat)])) H u m:=by
 have S:p≠c:=λe=>by have y:=h.gp;rw[e,h.gc]at y;cases y
 have O:q≠c:=λe=>by have y:=h.gq;rw[e,h.gc]at y;cases y
 refine⟨U,(h.t.trans F).setN h.hc _,?_,?_,by rw[aL,aF rfl],h.hc⟩
 .rw[aL,aB (Ne.symm S)];exact F.keep h.w h.gp aE aE
 .rw[aL,aB (Ne.symm O)];exact F.keep h.w h.gq aE aE
end Go.AV
