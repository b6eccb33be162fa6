/-
  Of DefRenamed.
-/
import Derived.Test.YtamikhobdffnfaaGreatDoorRe11
set_option linter.all false
set_option maxRecDepth 99999
set_option maxHeartbeats 0
namespace Go.AV
open Go Go.Proofs Tryz
section
section
variable {T:List Tok} {fin:Fault} {d:Dc} {first:Tok} {i n:Nat} {s:St} {r:Nat} {KV Kp:St->A->Prop}
theorem aCj{α:Type}{r:Rd α}{p:α->List Tok->Nat->Prop}{b:Fault->Prop}(h:∀a w n,p a w n)(hb:∀f,b f):r.to p b:=by
 cases r with
 | ok a w n=>exact h a w n
 | bad f=>exact hb f
theorem aE8{α:Type}{r:Rd α}{p q:α->List Tok->Nat->Prop}{b:Fault->Prop}(h:r.to p b)(hq:r.to q (λ_=>True)):r.to (λa w n=>q a w n/\p a w n) b:=by
 cases r with
 | ok a w n=>exact⟨hq,h⟩
 | bad f=>exact h
theorem aEI(fin:Fault):∀(k:Nat) (o:Opr) (w:List Tok) (n:Nat),(iE fin k o w n).to (λo' _ _=>o'.name=o.name/\o'.args=o.args/\o'.sort=o.sort/\o'.pieces=o.pieces) (λ_=>True)
 | 0,o,w,n=>trivial
 | k+1,o,w,n=>by
  have ih:=λ(o':Opr) w n=>aEI fin k o' w n
  rw[iE.eq_def];simp only;split
  .exact⟨rfl,rfl,rfl,rfl⟩
  .cases w with
   | nil=>trivial
   | cons t w =>
    simp only[zJ,bR,eJ]
    repeat' split
    all_goals first|trivial|exact ih _ _ _|exact aCj (λa w n=>ih { o with prec:=a } w n) (λ_=>trivial)|exact aCj (λ_ w n=>aCj (λl w n=>aCj (λ_ w n=>ih { o with strict:=l } w n) (λ_=>trivial)) (λ_=>trivial)) (λ_=>trivial)
def opS(T:List Tok)(fin:Fault)(d:Dc)(first:Tok)(b r:Nat)(x:aC)(s:St)(ta tp:Option Nat)(ar:List aC)(ps:List Piece)(i n:Nat):St :=
 gs (gs ((s.setO b (.cells 73 [.str x,gv ta (ar.map .str),.str [],gv tp (ps.map Piece.enc),.int .i64 0,.int .i64 0,.nils])).setO r (bC T fin d first i n)) ta ar.length 9) tp ps.length 143
theorem aSE(hT:TOk T)(hr:s.getO r=some (bC T fin d first i n))(hi:i<=T.length)(hn:n<=2000)
  (hk:(wB fin (T.drop i) n).to (PK T i (λj m=>s.setO r (bC T fin d first j m)) Opr.enc KV) (PB s r Kp)):Den cx 151 [.ptr r 0] KV Kp s:=by
 have hlenT:=hT.len;simp only[wB,bR]at hk;(refine aO func151 [0,2,3,4,5,14,29,39,76] ?_;simp only[go_sem,ntmps151,f151]);(intro b2 hb2;try simp only[aI,aZ,ne_eq]at hb2);have e2:=cE hr (by first|exact hb2|exact hb2.2|exact hb2.2.2|exact hb2.2.2.2|exact hb2.2.2.2.2|exact hb2.2.2.2.2.2|exact hb2.2.2.2.2.2.2);simp only[go_sem,hb2,e2];(refine iL (T:=T) (fin:=fin) (d:=d) (first:=first) (i:=i) (n:=n) gH hi hT (aT hk (λx1 w1 m1 hk1 hlt1 hw1 hm1=>?_) (λf h=>PB.mk aS h));subst m1;rw[<-hw1]at hk1);simp only[go_sem,hb2,e2];(intro b3 hb3;try simp only[aI,aZ,ne_eq]at hb3);have e3:=cE hr (by first|exact hb3|exact hb3.2|exact hb3.2.2|exact hb3.2.2.2|exact hb3.2.2.2.2|exact hb3.2.2.2.2.2|exact hb3.2.2.2.2.2.2);simp only[go_sem,hb2,e2,hb3,e3];(refine fN (T:=T) (fin:=fin) (d:=d) (first:=first) (i:=i+1) (n:=n) _ gH hlt1 hT (aT hk1 (λ_ w2 m2 hk2 hlt2 hw2 hm2=>?_) (λf h=>PB.mk aS h));subst m2;rw[<-hw2]at hk2);simp only[go_sem,hb2,e2,hb3,e3];rw[show(T.drop (i+1+1)).length=T.length-(i+1+1)by rw[dR]]at hk2
 refine Ex.loop (ι:=(Option Nat × Option Nat) × (List aC × List Piece × Bool) × Nat) (λc=>[(0,.ptr r 0),(2,.ptr b2 0),(3,.ptr b3 0),(4,.bool c.2.1.2.2)])
  (λc=>opS T fin d first b3 r x1 (s.setO b2 (.cells 73 [.str [],.nils,.str [],.nils,.int .i64 0,.int .i64 0,.nils])) c.1.1 c.1.2 c.2.1.1 c.2.1.2.1 c.2.2 n)
  (fun c => (c.1.1 = none → c.2.1.1 = []) ∧ (c.1.2 = none → c.2.1.2.1 = []) ∧ (∀ t,c.1.1 = some t → s.getT t = none) ∧ (∀ t,c.1.2 = some t → s.getT t = none ∧ c.1.1 ≠ some t) ∧ i + 1 + 1 ≤ c.2.2 ∧ c.2.2 ≤ T.length ∧ c.2.1.1.length ≤ c.2.2 ∧ c.2.1.2.1.length ≤ c.2.2 ∧ ∃ k,T.length - c.2.2 < k ∧
   (pJ fin k c.2.1.2.1 c.2.1.1 c.2.1.2.2 (T.drop c.2.2) n).to (λp w n=>(eN fin w n).to (λy w n=>(iE fin (w.length+1) ⟨x1,p.2.1,y,if p.2.2=true then p.1 else [],0,0,[]⟩ w n).to (PK T i (λj m=>s.setO r (bC T fin d first j m)) Opr.enc KV) (PB s r Kp)) (PB s r Kp)) (PB s r Kp))
  (λc=>T.length-c.2.2) ((none,none),([],[],false),i+1+1) ?_ ?_ ?_ ?_
 .exact⟨λ_=>rfl,λ_=>rfl,λt e=>(by cases e),λt e=>(by cases e),bT _,hlt2,aU _,aU _,_,jB _,hk2⟩
 .simp only[go_sem,hb2,e2,hb3,e3]
 .exact aX
 .rintro⟨⟨ta,tp⟩,⟨ar,ps,tx⟩,i2⟩ ⟨hnila,hnilp,hfa,hfp,hi1,hi2,has,hps,k,hk3,hk4⟩;simp only at hnila hnilp hfa hfp hi1 hi2 has hps hk3 hk4;obtain⟨k,rfl⟩:∃k',k=k'+1:=⟨k-1,by omega⟩
  have hfp1:∀t,tp=some t->s.getT t=none:=λt e=>(hfp t e).1
  have hgp:nJ (opS T fin d first b3 r x1 (s.setO b2 (.cells 73 [.str [],.nils,.str [],.nils,.int .i64 0,.int .i64 0,.nils])) ta tp ar ps i2 n) tp (ps.map Piece.enc).length 143:=by rw[aH];exact iF λe=>by rw[hnilp e];rfl
  have hga:nJ (opS T fin d first b3 r x1 (s.setO b2 (.cells 73 [.str [],.nils,.str [],.nils,.int .i64 0,.int .i64 0,.nils])) ta tp ar ps i2 n) ta (ar.map A.str).length 9:=by
   rw[aH];cases ta with
   | none=>rw[hnila rfl];rfl
   | some t =>
    show(gs _ _ _ _).getT t=_;rw[iD,if_neg (λe=>(hfp t e).2 rfl),iD,if_pos rfl]
  refine bG (V:=[0,2,3,4,5,14,29,39,76]) _ _ _ _ ?_;unfold opS;simp only[go_sem,hb2,e2,hb3,e3];refine jO (T:=T) (fin:=fin) (d:=d) (first:=first) (i:=i2) (n:=n) _ gH hi2 hT ?_;rw[pJ.eq_def]at hk4;simp only at hk4;cases hx:isT [45,62] (T.drop i2)with
  | true =>
   rw[if_pos hx,bZ,mR]at hk4;have hlt:=lG hx
   have hle:∀(o:Opr),o.name=x1->o.args=ar->o.pieces=(if tx=true then ps else [])->A.le (.agg (opC o (gv ta (ar.map A.str)) (if tx=true then gv tp (ps.map Piece.enc) else .nils))) o.enc:=λo e1 e2 e3=>by
    subst e1 e2;refine A.le.agg ⟨⟨bB _,rfl⟩,⟨iY _ _ (λe=>by rw[hnila e];rfl),rfl⟩,⟨bB _,rfl⟩,⟨?_,rfl⟩,⟨bB _,rfl⟩,⟨bB _,rfl⟩,⟨aLB _,rfl⟩,trivial⟩;rw[e3];cases tx
    .exact A.le.nil
    .exact iY _ _ (λe=>by rw[hnilp e];rfl)
   simp only[go_sem,hb2,e2,hb3,e3];cases tx
   .simp only[go_sem,hb2,e2,hb3,e3];(refine iL (T:=T) (fin:=fin) (d:=d) (first:=first) (i:=i2+1) (n:=n) gH hlt hT (aT hk4 (λx5 w5 m5 hk5 hlt5 hw5 hm5=>?_) (λf h=>PB.mk aS h));subst m5;rw[<-hw5]at hk5);simp only[go_sem,hb2,e2,hb3,e3];refine aIo hT b3 (gv ta (ar.map A.str)) .nils (rH _ _) rfl ⟨x1,ar,x5,[],0,0,[]⟩ ((List.drop (i2+1+1) T).length+1) (T:=T) (fin:=fin) (d:=d) (first:=first) (i:=i2+1+1) (n:=n) gH gH hb3.1.2 hlt5 hn (by rw[dR];omega) (aT (aE8 hk5 (aEI _ _ _ _ _)) (λo' w m h j hj hjT hw hm=>?_) (λf h s1 x hg hr1=>?_))
    .obtain⟨⟨q1,q2,q3,q4⟩,h⟩:=h;have hk:=h j aB hjT hw hm;simp only[go_sem,hb2,e2,hb3,e3];refine⟨by cases ta<;>cases o'.strict<;>rfl,?_⟩;refine DK.mk hk aX ?_;have:=hle o' q1 q2 q4;simp only[go_sem]at this;exact this
    .exact aP (h x) (pQ (vG hr1 (aJG hb3.2.2 (hg.trans mA))))
   .simp only[go_sem,hb2,e2,hb3,e3];(refine iL (T:=T) (fin:=fin) (d:=d) (first:=first) (i:=i2+1) (n:=n) gH hlt hT (aT hk4 (λx5 w5 m5 hk5 hlt5 hw5 hm5=>?_) (λf h=>PB.mk aS h));subst m5;rw[<-hw5]at hk5);simp only[go_sem,hb2,e2,hb3,e3];refine aIo hT b3 (gv ta (ar.map A.str)) (gv tp (ps.map Piece.enc)) (rH _ _) (rH _ _) ⟨x1,ar,x5,ps,0,0,[]⟩ ((List.drop (i2+1+1) T).length+1) (T:=T) (fin:=fin) (d:=d) (first:=first) (i:=i2+1+1) (n:=n) gH gH hb3.1.2 hlt5 hn (by rw[dR];omega) (aT (aE8 hk5 (aEI _ _ _ _ _)) (λo' w m h j hj hjT hw hm=>?_) (λf h s1 x hg hr1=>?_))
    .obtain⟨⟨q1,q2,q3,q4⟩,h⟩:=h;have hk:=h j aB hjT hw hm;simp only[go_sem,hb2,e2,hb3,e3];refine⟨by cases ta<;>cases tp<;>cases o'.strict<;>rfl,?_⟩;refine DK.mk hk aX ?_;have:=hle o' q1 q2 q4;simp only[go_sem]at this;exact this
    .exact aP (h x) (pQ (vG hr1 (aJG hb3.2.2 (hg.trans mA))))
  | false =>
   rw[if_neg (by rw[hx];simp)]at hk4;simp only[go_sem,hb2,e2,hb3,e3];refine kE (T:=T) (fin:=fin) (d:=d) (first:=first) (i:=i2) (n:=n) gH hi2 ?_;cases hw:T.drop i2 with
   | nil=>rw[hw]at hk4;exact hk4.at aS gH
   | cons t w =>
    obtain⟨g1,g2,g3,g4⟩:=lQ hw;rw[hw]at hk4;simp only at hk4;simp only[go_sem,hb2,e2,hb3,e3];(intro b4 hb4;try simp only[aI,aZ,ne_eq]at hb4);have e4:=cE hr (by first|exact hb4|exact hb4.2|exact hb4.2.2|exact hb4.2.2.2|exact hb4.2.2.2.2|exact hb4.2.2.2.2.2|exact hb4.2.2.2.2.2.2);simp only[go_sem,hb2,e2,hb3,e3,hb4,e4];cases c3:decide (t.kind=3);rotate_left
    ·
     have k3:t.kind=3:=by simpa using c3
     rw[if_pos (.inl k3),if_pos k3]at hk4;simp only[go_sem,hb2,e2,hb3,e3,hb4,e4,c3,pF hgp];refine mU (T:=T) (fin:=fin) (d:=d) (first:=first) (i:=i2) (n:=n) _ _ gH hi2 ?_;by_cases h20:20<=ps.length
     .rw[if_pos h20,eJ]at hk4;rw[if_pos aB,hw];exact PB.mk aS hk4
     rw[if_neg h20,<-g3]at hk4;rw[if_neg aB];simp only[go_sem,hb2,e2,hb3,e3,hb4,e4,c3];refine⟨by decide,λy hy=>by simp only[bW]at hy;subst hy;rfl,dY rfl rfl (by rw[aH];exact iF λe=>by rw[hnilp e];rfl) (λy hy=>?_) (by simp only[aH,aE,aF];omega) (λu hu=>?_)⟩
     .simp only[cC]at hy;obtain⟨q,_,rfl⟩:=hy;rfl
     have hfu:s.getT u=none/\ta≠some u:=by
      rcases hu with e|⟨e,hu⟩
      .exact hfp u e
      .rw[e]at hu;have hu:(gs (gs _ ta _ _) none _ _).getT u=none:=hu;rw[iD,if_neg bD,iD]at hu;split at hu
       .cases hu
       .rename_i e2;exact⟨hu,e2⟩
     have hnu:=hfu.2;rw[fO hu];simp only[go_sem,hb2,e2,hb3,e3,hb4,e4,cF i2 aB];refine⟨((ta,some u),(ar,ps++[⟨t.text,[]⟩],true),i2+1),⟨hnila,λe=>(by cases e),hfa,λt' e=>by cases e;exact hfu,by simp only;omega,by simp only;omega,by simp only;omega,by simp only[aG,aE,aF];omega,k,by simp only;omega,hk4⟩,by simp only;omega,?_⟩;simp only[opS,dO,cV,bS,cY,aG,aE,aF,aH];exact⟨trivial,aX⟩
    have k3:¬ t.kind=3:=by simpa using c3
    cases c1:decide (t.kind=1)
    .rw[if_neg (by simp[k3,Tok.free,c1]),eJ]at hk4;simp only[go_sem,hb2,e2,hb3,e3,hb4,e4,c3,c1];refine oH (T:=T) (fin:=fin) (d:=d) (first:=first) (i:=i2) (n:=n) 11 gH hi2 hT ?_;rw[hw];exact PB.at hk4 aS gH
    simp only[go_sem,hb2,e2,hb3,e3,hb4,e4,c3,c1];refine tF _ _ _ _ ?_;simp only[go_sem,hb2,e2,hb3,e3,hb4,e4];cases c2:decide (t.text∈gX);rotate_left
    .rw[if_neg (by simp[k3,Tok.free,c2]),eJ]at hk4;simp only[go_sem,hb2,e2,hb3,e3,hb4,e4,c2];refine oH (T:=T) (fin:=fin) (d:=d) (first:=first) (i:=i2) (n:=n) 11 gH hi2 hT ?_;rw[hw];exact PB.at hk4 aS gH
    rw[if_pos (.inr (by simp[Tok.free,c1,c2])),if_neg k3]at hk4;simp only[go_sem,hb2,e2,hb3,e3,hb4,e4,c2,pF hgp];refine mU (T:=T) (fin:=fin) (d:=d) (first:=first) (i:=i2) (n:=n) _ _ gH hi2 ?_;by_cases h20:20<=ps.length
    .rw[if_pos h20,eJ]at hk4;rw[if_pos aB,hw];exact PB.mk aS hk4
    rw[if_neg h20]at hk4;rw[if_neg aB];simp only[go_sem,hb2,e2,hb3,e3,hb4,e4,c3,pF hga];refine mU (T:=T) (fin:=fin) (d:=d) (first:=first) (i:=i2) (n:=n) _ _ gH hi2 ?_;by_cases h8:8<=ar.length
    .rw[if_pos h8,eJ]at hk4;rw[if_pos aB,hw];exact PB.mk aS hk4
    rw[if_neg h8,<-g3]at hk4;rw[if_neg aB];simp only[go_sem,hb2,e2,hb3,e3,hb4,e4,c3];refine⟨by decide,λy hy=>by simp only[bW]at hy;subst hy;rfl,dY rfl rfl (by rw[aH];exact iF λe=>by rw[hnilp e];rfl) (λy hy=>?_) (by simp only[aH,aE,aF];omega) (λu hu=>?_)⟩
    .simp only[cC]at hy;obtain⟨q,_,rfl⟩:=hy;rfl
    have hfu:s.getT u=none/\ta≠some u:=by
     rcases hu with e|⟨e,hu⟩
     .exact hfp u e
     .rw[e]at hu;have hu:(gs (gs _ ta _ _) none _ _).getT u=none:=hu;rw[iD,if_neg bD,iD]at hu;split at hu
      .cases hu
      .rename_i e2;exact⟨hu,e2⟩
    have hnu:=hfu.2;rw[fO hu];simp only[go_sem,hb2,e2,hb3,e3,hb4,e4];refine⟨by decide,λy hy=>by simp only[bW]at hy;subst hy;rfl,dY rfl rfl ?_ (λy hy=>?_) (by simp only[aH,aE,aF];omega) (λv hv=>?_)⟩
    .rw[aH];cases ta with
     | none=>rw[hnila rfl];rfl
     | some t =>
      show St.getT _ t=_;rw[dE,if_neg (λe=>hnu (by rw[e])),iD,if_pos rfl]
    .simp only[cC]at hy;obtain⟨q,_,rfl⟩:=hy;rfl
    have hfv:s.getT v=none/\¬ v=u:=by
     rcases hv with e|⟨e,hv⟩
     .exact⟨hfa v e,λe2=>hnu (by rw[e,e2])⟩
     .subst e;rw[dE]at hv;split at hv
      .cases hv
      .rename_i e2;exact⟨hv,λe3=>e2 e3.symm⟩
    simp only[go_sem,hb2,e2,hb3,e3,hb4,e4,cF i2 aB];refine⟨((some v,some u),(ar++[t.text],ps++[⟨[],t.text⟩],tx),i2+1),⟨λe=>(by cases e),λe=>(by cases e),λt' e=>by cases e;exact hfv.1,λt' e=>by cases e;exact⟨hfu.1,λe=>hfv.2 (by cases e;rfl)⟩,by simp only;omega,by simp only;omega,by simp only[aG,aE,aF];omega,by simp only[aG,aE,aF];omega,k,by simp only;omega,hk4⟩,by simp only;omega,?_⟩;simp only[opS,dO,cV,bS,cY,aG,aE,aF,aH];have hvu:=hfv.2;refine⟨trivial,pQ (aCm ?_ (aCm ?_ mA))⟩
    .rintro _ ⟨⟩;simp only[dE,hvu,if_false,reduceIte,gI]
    .rintro _ ⟨⟩;simp only[dE,reduceIte,gI]
end
end
section
def tO(p:Part):A:=.agg (.str p.cell::.str p.at_::(p.left.cs++[nv (p.right.map Tm.enc),.int .i64 p.line,.int .i64 p.col]))
def uD(x:Rul)(tp tn td:Option Nat):Ob:=.cells 84 [.str x.name,gv tp (x.parts.map tO),.nils,gv tn (x.new.map Fresh.enc),gv td (x.drop.map .str),.int .i64 x.line,.int .i64 x.col]
def fD(x:Rul)(tp tn td:Option Nat):List fE:=[(tp,x.parts.length,86),(tn,x.new.length,141),(td,x.drop.length,9)]
def gU(T:List Tok)(fin:Fault)(d:Dc)(first:Tok)(b r:Nat)(s:St)(x:Rul)(tp tn td:Option Nat)(i n:Nat):St:=eL ((s.setO b (uD x tp tn td)).setO r (bC T fin d first i n)) (fD x tp tn td)
structure RulQ (b r:Nat) (s:St) (x:Rul) (tp tn td:Option Nat) (i:Nat):Prop where
 own:OwnOk s (fD x tp tn td)
 hb:s.getO b=none
 ne:b≠r
 l1:x.parts.length<=i
 l2:x.new.length<=i
 l3:x.drop.length<=i
section
variable {T:List Tok} {fin:Fault} {d:Dc} {first:Tok} {i n:Nat} {s:St} {r:Nat} {KV Kp:St->A->Prop}
theorem aA3(hT:TOk T)(b:Nat)(x:Rul)(tp tn td:Option Nat)(hQ:RulQ b r s x tp tn td i)(hi:i<=T.length)(hn:n<=2000)
  (hk : (oN false fin x (T.drop i) n).to (fun x' w n' => ∀ j tp' tn' td',i + 1 ≤ j → j ≤ T.length → T.drop j = w → n' ≤ 2000 → RulQ b r s x' tp' tn' td' j → KV (gU T fin d first b r s x' tp' tn' td' j n') (.tuple []))
   (λf=>∀s1 o,s1.gx s r->s1.getO r=some o->Kp s1 (.iface 36 f.enc))):Den cx 224 [.ptr r 0,.ptr b 0] KV Kp (gU T fin d first b r s x tp tn td i n):=by
 obtain⟨hown,hb,hne,l1,l2,l3⟩:=hQ;have hlenT:=hT.len;have hfr:=hown.free;(refine aO func224 [0,1,4,5,16,27,42,65] ?_;simp only[go_sem,ntmps224,f224]);unfold gU uD;have hneS:=hne.symm;simp only[go_sem,aK,hne,hne.symm];refine kE (T:=T) (fin:=fin) (d:=d) (first:=first) (i:=i) (n:=n) gH hi ?_;cases hw:T.drop i with
 | nil=>rw[hw]at hk;exact aN (hk _ (bC T fin d first i n) aS gH)
 | cons t w =>
  obtain⟨g1,g2,g3,g4⟩:=lQ hw;rw[hw]at hk;simp only[oN]at hk;simp only[go_sem,aK,hne,hne.symm];(intro b4 hb4;try simp only[aK,aZ,aI,ne_eq]at hb4);simp only[go_sem,aK,hne,hne.symm,hb4];refine jO (T:=T) (fin:=fin) (d:=d) (first:=first) (i:=i) (n:=n) _ gH hi hT ?_;rw[hw];cases c1:eH t [110,101,119]with
  | true =>
   rw[if_pos c1,bR,<-g3]at hk;simp only[isT,c1];simp only[go_sem,aK,hne,hne.symm,hb4];refine fN (T:=T) (fin:=fin) (d:=d) (first:=first) (i:=i+1) (n:=n) _ gH g2 hT (aT hk (λ_ w2 m2 hk2 hlt2 hw2 hm2=>?_) (λf h=>dQ aS h));subst m2;rw[<-hw2,bR]at hk2;simp only[go_sem,aK,hne,hne.symm,hb4];(refine bL (OT.r 0 15) [(8,[4])] ?_;simp only[go_sem,aK,hne,hne.symm,hb4])
   refine iA (sA gH) (aG1 (fin:=fin) (d:=d) (fi:=first) Tm.enc Tm.hz Tm.ho hT (λ_=>True) (λ_ _ _=>Iff.rfl) (gE false fin) 41 [.ptr r 0] []
    (aDk (λ_ _ h=>h) (λs' i' n' KV' Kp' hr' _ hi' hn' hk'=>sB hT hr' hi' hn' (aT hk' (λ_ _ _ h j hj=>h j aB) (λ_ h=>h)))) (i+1+1) n trivial hlt2 hn ?_)
   refine aT hk2 (λl w3 m3 hk3 j3 hj3 hjT3 hw3 hm3=>?_) (λf h s1 o hg hr1=>aN (h _ o (hg.trans aS) hr1));subst hw3;rw[bR]at hk3;simp only[go_sem,aK,hne,hne.symm,hb4];refine⟨by decide,λy hy=>by simp only[bW]at hy;subst hy;rfl,dY rfl rfl (by rw[aH];refine pE hown (k:=1) (o:=(tn,x.new.length,141)) rfl ?_;exactλ_=>rfl) (λy hy=>?_) (by simp only[aH,aE,aF];omega) (λu hu=>?_)⟩
   .simp only[cC]at hy;obtain⟨q,_,rfl⟩:=hy;rfl
   have hown2:=pK hown (k:=1) (o:=(tn,x.new.length,141)) rfl hu (λ_=>rfl) (x.new.length+1);simp only[go_sem,aK,hne,hne.symm,hb4];refine iA (pH hown (k:=1) (o:=(tn,x.new.length,141)) rfl hown2 (λ_=>rfl)) ?_;have hown3:OwnOk s (fD { x with new:=x.new++[⟨l⟩] } tp (some u) td):=by simpa only[fD,aG,aE,aF,uQ,wI]using hown2
   rw[show(fD x tp tn td).set 1 (some u,x.new.length+1,(tn,x.new.length,141).snd.snd)=fD { x with new:=x.new++[⟨l⟩] } tp (some u) td by simp[fD]];have hfr3:=hown3.free;refine fN (T:=T) (fin:=fin) (d:=d) (first:=first) (i:=j3) (n:=m3) _ gH hjT3 hT (aT hk3 (λ_ w4 m4 hk4 hlt4 hw4 hm4=>?_) (λf h=>dQ aS h));subst m4;rw[bZ]at hk4;simp only[go_sem,aK,hne,hne.symm,hb4];have hk5:=hk4 (j3+1) tp (some u) td aB hlt4 hw4 hm3 ⟨hown3,hb,hne,by simp only;omega,by simp only[aG,aE,aF];omega,by simp only;omega⟩;refine aP hk5 ?_;unfold gU;refine kF ?_;simp only[uD,dO,cV,bS,cY,tO,nv,Tm.cs,aV,aW,dH];exact aX
  | false =>
   rw[if_neg (by simp[c1])]at hk;simp only[isT,c1];simp only[go_sem,aK,hne,hne.symm,hb4];refine jO (T:=T) (fin:=fin) (d:=d) (first:=first) (i:=i) (n:=n) _ gH hi hT ?_;rw[hw];cases c2:eH t [100,114,111,112]with
   | true =>
    rw[if_pos c2,bR,<-g3]at hk;simp only[isT,c2];simp only[go_sem,aK,hne,hne.symm,hb4];refine fN (T:=T) (fin:=fin) (d:=d) (first:=first) (i:=i+1) (n:=n) _ gH g2 hT (aT hk (λ_ w2 m2 hk2 hlt2 hw2 hm2=>?_) (λf h=>dQ aS h));subst m2;rw[<-hw2,bR]at hk2;simp only[go_sem,aK,hne,hne.symm,hb4];(refine bL (OT.r 0 12) [(6,[4])] ?_;simp only[go_sem,aK,hne,hne.symm,hb4]);refine iL (T:=T) (fin:=fin) (d:=d) (first:=first) (i:=i+1+1) (n:=n) gH hlt2 hT (aT hk2 (λy w3 m3 hk3 hlt3 hw3 hm3=>?_) (λf h=>dQ aS h));subst m3;rw[bZ]at hk3;simp only[go_sem,aK,hne,hne.symm,hb4];refine⟨by decide,λy hy=>by simp only[bW]at hy;subst hy;rfl,dY rfl rfl (by rw[aH];refine pE hown (k:=2) (o:=(td,x.drop.length,9)) rfl ?_;exactλ_=>rfl) (λy hy=>?_) (by simp only[aH,aE,aF];omega) (λu hu=>?_)⟩
    .simp only[cC]at hy;obtain⟨q,_,rfl⟩:=hy;rfl
    have hown2:=pK hown (k:=2) (o:=(td,x.drop.length,9)) rfl hu (λ_=>rfl) (x.drop.length+1);have hown3:OwnOk s (fD { x with drop:=x.drop++[y] } tp tn (some u)):=by simpa only[fD,aG,aE,aF,uQ,wI]using hown2
    simp only[go_sem,aK,hne,hne.symm,hb4];have hk5:=hk3 (i+1+1+1) tp tn (some u) aB hlt3 hw3 hn ⟨hown3,hb,hne,by simp only;omega,by simp only;omega,by simp only[aG,aE,aF];omega⟩;refine aP hk5 (St.ge.trans (pH hown (k:=2) (o:=(td,x.drop.length,9)) rfl hown2 (λ_=>rfl)) ?_);unfold gU;rw[show(fD x tp tn td).set 2 (some u,x.drop.length+1,(td,x.drop.length,9).snd.snd)=fD { x with drop:=x.drop++[y] } tp tn (some u)by simp[fD]];refine kF ?_;simp only[uD,dO,cV,bS,cY,tO,nv,Tm.cs,aV,aW,dH];exact aX
   | false =>
    rw[if_neg (by simp[c2]),bR,<-hw]at hk;simp only[isT,c2];simp only[go_sem,aK,hne,hne.symm,hb4];(refine bL (OT.l [0,2,3,4,5,1,6,7,8] .nil) [(1,[3,5]),(7,[3,5])] ?_;simp only[go_sem,aK,hne,hne.symm,hb4]);refine iL (T:=T) (fin:=fin) (d:=d) (first:=first) (i:=i) (n:=n) gH hi hT (aT hk (λy w3 m3 hk3 hlt3 hw3 hm3=>?_) (λf h=>dQ aS h));subst m3;rw[<-hw3]at hk3;simp only[go_sem,aK,hne,hne.symm,hb4];(intro b5 hb5;try simp only[aK,aZ,aI,ne_eq]at hb5);simp only[go_sem,aK,hne,hne.symm,hb4,hb5];refine jO (T:=T) (fin:=fin) (d:=d) (first:=first) (i:=i+1) (n:=n) _ gH hlt3 hT ?_;rw[bR]at hk3;cases c3:isT [64] (T.drop (i+1))with
    | true =>
     rw[if_pos c3,mR]at hk3;have hlt4:=lG c3;simp only[go_sem,aK,hne,hne.symm,hb4,hb5];refine iL (T:=T) (fin:=fin) (d:=d) (first:=first) (i:=i+1+1) (n:=n) gH hlt4 hT (aT hk3 (λy2 w4 m4 hk4 hlt4 hw4 hm4=>?_) (λf h=>dQ aS h));subst m4;rw[<-hw4]at hk4;simp only[go_sem,aK,hne,hne.symm,hb4,hb5];rw[bR]at hk4;refine fN (T:=T) (fin:=fin) (d:=d) (first:=first) (i:=i+1+1+1) (n:=n) _ gH hlt4 hT (aT hk4 (λ_ w5 m5 hk5 hlt5 hw5 hm5=>?_) (λf h=>dQ aS h));subst m5;rw[<-hw5,bR]at hk5;simp only[go_sem,aK,hne,hne.symm,hb4,hb5];refine sB (T:=T) (fin:=fin) (d:=d) (first:=first) (i:=i+1+1+1+1) (n:=n) hT gH hlt5 hn (aT hk5 (λl6 w6 m6 hk6 j6 hj6 hjT6 hw6 hm6=>?_) (λf h=>dQ aS h));rw[<-hw6,bR]at hk6;simp only[go_sem,aK,hne,hne.symm,hb4,hb5,dH];refine jO (T:=T) (fin:=fin) (d:=d) (first:=first) (i:=j6) (n:=m6) _ gH hjT6 hT ?_;cases c4:isT [61,62] (T.drop j6)with
     | true =>
      rw[if_pos c4,mR,bR]at hk6;have hlt7:=lG c4;simp only[go_sem,aK,hne,hne.symm,hb4,hb5];refine sB (T:=T) (fin:=fin) (d:=d) (first:=first) (i:=j6+1) (n:=m6) hT gH hlt7 hm6 (aT hk6 (λl8 w8 m8 hk8 j8 hj8 hjT8 hw8 hm8=>?_) (λf h=>dQ aS h));rw[bZ,<-hw8,bZ]at hk8;simp only[go_sem,aK,hne,hne.symm,hb4,hb5,dH];(refine bL (OT.r 0 11) [] ?_;simp only[go_sem,aK,hne,hne.symm,hb4,hb5])
      (try simp only[go_sem,aK,hne,hne.symm,hb4,hb5])
      refine⟨by decide,λy hy=>by simp only[bW]at hy;subst hy;rfl,dY rfl rfl (by rw[aH];refine pE hown (k:=0) (o:=(tp,x.parts.length,86)) rfl ?_;exactλ_=>rfl) (λy hy=>?_) (by simp only[aH,aE,aF];omega) (λu hu=>?_)⟩
      .simp only[cC]at hy;obtain⟨q,_,rfl⟩:=hy;rfl
      have hown2:=pK hown (k:=0) (o:=(tp,x.parts.length,86)) rfl hu (λ_=>rfl) (x.parts.length+1);have hown3:OwnOk s (fD { x with parts:=x.parts++[⟨y,y2,l6,[l8],t.line,t.col⟩] } (some u) tn td):=by simpa only[fD,aG,aE,aF,uQ,wI]using hown2
      simp only[go_sem,aK,hne,hne.symm,hb4,hb5];have hk5:=hk8 (j8) (some u) tn td aB hjT8 rfl hm8 ⟨hown3,hb,hne,by simp only[aG,aE,aF];omega,by simp only;omega,by simp only;omega⟩;refine aP hk5 (St.ge.trans (pH hown (k:=0) (o:=(tp,x.parts.length,86)) rfl hown2 (λ_=>rfl)) ?_);unfold gU;rw[show(fD x tp tn td).set 0 (some u,x.parts.length+1,(tp,x.parts.length,86).snd.snd)=fD { x with parts:=x.parts++[⟨y,y2,l6,[l8],t.line,t.col⟩] } (some u) tn td by simp[fD]];refine kF ?_;simp only[uD,dO,cV,bS,cY,tO,nv,Tm.cs,aV,aW,dH];exact aX
     | false =>
      rw[if_neg (by simp[c4]),bZ,bZ]at hk6;simp only[go_sem,aK,hne,hne.symm,hb4,hb5];(refine bL (OT.r 0 11) [] ?_;simp only[go_sem,aK,hne,hne.symm,hb4,hb5])
      (try simp only[go_sem,aK,hne,hne.symm,hb4,hb5])
      refine⟨by decide,λy hy=>by simp only[bW]at hy;subst hy;rfl,dY rfl rfl (by rw[aH];refine pE hown (k:=0) (o:=(tp,x.parts.length,86)) rfl ?_;exactλ_=>rfl) (λy hy=>?_) (by simp only[aH,aE,aF];omega) (λu hu=>?_)⟩
      .simp only[cC]at hy;obtain⟨q,_,rfl⟩:=hy;rfl
      have hown2:=pK hown (k:=0) (o:=(tp,x.parts.length,86)) rfl hu (λ_=>rfl) (x.parts.length+1);have hown3:OwnOk s (fD { x with parts:=x.parts++[⟨y,y2,l6,[],t.line,t.col⟩] } (some u) tn td):=by simpa only[fD,aG,aE,aF,uQ,wI]using hown2
      simp only[go_sem,aK,hne,hne.symm,hb4,hb5];have hk5:=hk6 (j6) (some u) tn td aB hjT6 rfl hm6 ⟨hown3,hb,hne,by simp only[aG,aE,aF];omega,by simp only;omega,by simp only;omega⟩;refine aP hk5 (St.ge.trans (pH hown (k:=0) (o:=(tp,x.parts.length,86)) rfl hown2 (λ_=>rfl)) ?_);unfold gU;rw[show(fD x tp tn td).set 0 (some u,x.parts.length+1,(tp,x.parts.length,86).snd.snd)=fD { x with parts:=x.parts++[⟨y,y2,l6,[],t.line,t.col⟩] } (some u) tn td by simp[fD]];refine kF ?_;simp only[uD,dO,cV,bS,cY,tO,nv,Tm.cs,aV,aW,dH];exact aX
    | false =>
     rw[if_neg (by simp[c3]),bZ]at hk3;simp only[go_sem,aK,hne,hne.symm,hb4,hb5];rw[bR]at hk3;refine fN (T:=T) (fin:=fin) (d:=d) (first:=first) (i:=i+1) (n:=n) _ gH hlt3 hT (aT hk3 (λ_ w5 m5 hk5 hlt5 hw5 hm5=>?_) (λf h=>dQ aS h));subst m5;rw[<-hw5,bR]at hk5;simp only[go_sem,aK,hne,hne.symm,hb4,hb5];refine sB (T:=T) (fin:=fin) (d:=d) (first:=first) (i:=i+1+1) (n:=n) hT gH hlt5 hn (aT hk5 (λl6 w6 m6 hk6 j6 hj6 hjT6 hw6 hm6=>?_) (λf h=>dQ aS h));rw[<-hw6,bR]at hk6;simp only[go_sem,aK,hne,hne.symm,hb4,hb5,dH];refine jO (T:=T) (fin:=fin) (d:=d) (first:=first) (i:=j6) (n:=m6) _ gH hjT6 hT ?_;cases c4:isT [61,62] (T.drop j6)with
     | true =>
      rw[if_pos c4,mR,bR]at hk6;have hlt7:=lG c4;simp only[go_sem,aK,hne,hne.symm,hb4,hb5];refine sB (T:=T) (fin:=fin) (d:=d) (first:=first) (i:=j6+1) (n:=m6) hT gH hlt7 hm6 (aT hk6 (λl8 w8 m8 hk8 j8 hj8 hjT8 hw8 hm8=>?_) (λf h=>dQ aS h));rw[bZ,<-hw8,bZ]at hk8;simp only[go_sem,aK,hne,hne.symm,hb4,hb5,dH];(refine bL (OT.r 0 11) [] ?_;simp only[go_sem,aK,hne,hne.symm,hb4,hb5])
      (try simp only[go_sem,aK,hne,hne.symm,hb4,hb5])
      refine⟨by decide,λy hy=>by simp only[bW]at hy;subst hy;rfl,dY rfl rfl (by rw[aH];refine pE hown (k:=0) (o:=(tp,x.parts.length,86)) rfl ?_;exactλ_=>rfl) (λy hy=>?_) (by simp only[aH,aE,aF];omega) (λu hu=>?_)⟩
      .simp only[cC]at hy;obtain⟨q,_,rfl⟩:=hy;rfl
      have hown2:=pK hown (k:=0) (o:=(tp,x.parts.length,86)) rfl hu (λ_=>rfl) (x.parts.length+1);have hown3:OwnOk s (fD { x with parts:=x.parts++[⟨y,[],l6,[l8],t.line,t.col⟩] } (some u) tn td):=by simpa only[fD,aG,aE,aF,uQ,wI]using hown2
      simp only[go_sem,aK,hne,hne.symm,hb4,hb5];have hk5:=hk8 (j8) (some u) tn td aB hjT8 rfl hm8 ⟨hown3,hb,hne,by simp only[aG,aE,aF];omega,by simp only;omega,by simp only;omega⟩;refine aP hk5 (St.ge.trans (pH hown (k:=0) (o:=(tp,x.parts.length,86)) rfl hown2 (λ_=>rfl)) ?_);unfold gU;rw[show(fD x tp tn td).set 0 (some u,x.parts.length+1,(tp,x.parts.length,86).snd.snd)=fD { x with parts:=x.parts++[⟨y,[],l6,[l8],t.line,t.col⟩] } (some u) tn td by simp[fD]];refine kF ?_;simp only[uD,dO,cV,bS,cY,tO,nv,Tm.cs,aV,aW,dH];exact aX
     | false =>
      rw[if_neg (by simp[c4]),bZ,bZ]at hk6;simp only[go_sem,aK,hne,hne.symm,hb4,hb5];(refine bL (OT.r 0 11) [] ?_;simp only[go_sem,aK,hne,hne.symm,hb4,hb5])
      (try simp only[go_sem,aK,hne,hne.symm,hb4,hb5])
      refine⟨by decide,λy hy=>by simp only[bW]at hy;subst hy;rfl,dY rfl rfl (by rw[aH];refine pE hown (k:=0) (o:=(tp,x.parts.length,86)) rfl ?_;exactλ_=>rfl) (λy hy=>?_) (by simp only[aH,aE,aF];omega) (λu hu=>?_)⟩
      .simp only[cC]at hy;obtain⟨q,_,rfl⟩:=hy;rfl
      have hown2:=pK hown (k:=0) (o:=(tp,x.parts.length,86)) rfl hu (λ_=>rfl) (x.parts.length+1);have hown3:OwnOk s (fD { x with parts:=x.parts++[⟨y,[],l6,[],t.line,t.col⟩] } (some u) tn td):=by simpa only[fD,aG,aE,aF,uQ,wI]using hown2
      simp only[go_sem,aK,hne,hne.symm,hb4,hb5];have hk5:=hk6 (j6) (some u) tn td aB hjT6 rfl hm6 ⟨hown3,hb,hne,by simp only[aG,aE,aF];omega,by simp only;omega,by simp only;omega⟩;refine aP hk5 (St.ge.trans (pH hown (k:=0) (o:=(tp,x.parts.length,86)) rfl hown2 (λ_=>rfl)) ?_);unfold gU;rw[show(fD x tp tn td).set 0 (some u,x.parts.length+1,(tp,x.parts.length,86).snd.snd)=fD { x with parts:=x.parts++[⟨y,[],l6,[],t.line,t.col⟩] } (some u) tn td by simp[fD]];refine kF ?_;simp only[uD,dO,cV,bS,cY,tO,nv,Tm.cs,aV,aW,dH];exact aX
end
end
section
section
variable {T:List Tok} {fin:Fault} {d:Dc} {first:Tok} {i n:Nat} {s:St} {r:Nat} {KV Kp:St->A->Prop}
theorem aTB(tk:Option Nat){es fs:List A}(h:tk=none->es=[])(hl:aAq es fs):A.le (gv tk es) (.list none fs):=by
 cases tk with
 | none =>
  rw[h rfl]at hl;have:fs=[]:=fK (by rw[<-aFE hl];rfl);rw[this];exact A.le.nil
 | some t=>exactλg v hv=>(A.le.list hl) g v ((A.le.forget t es) g v hv)
theorem aNe(ps:List Part):aAq (ps.map tO) (ps.map Part.enc):=by
 induction ps with
 | nil=>trivial
 | cons p ps ih =>
  refine⟨?_,ih⟩;simp only[tO,Part.enc,Part.cs,A.cells,Tm.cs,aV,aW];exact⟨⟨bB _,rfl⟩,⟨bB _,rfl⟩,⟨bB _,rfl⟩,⟨bB _,rfl⟩,⟨bB _,rfl⟩,⟨bB _,rfl⟩,⟨bB _,rfl⟩,⟨bB _,rfl⟩,⟨aLB _,rfl⟩,⟨bB _,rfl⟩,⟨bB _,rfl⟩,trivial⟩
theorem aQ9(hT:TOk T)(t:Tok)(hr:s.getO r=some (bC T fin d first i n))(hi:i<=T.length)(hn:n<=2000)
  (hk:(vT false fin t.line t.col (T.drop i) n).to (PK T i (λj m=>s.setO r (bC T fin d first j m)) Rul.enc KV) (PB s r Kp)):Den cx 154 [.ptr r 0,t.enc] KV Kp s:=by
 have hlenT:=hT.len;simp only[vT,bR]at hk;simp only[go_sem];(refine aO func154 [0,1,3,4,5,6,7,8,19,42] ?_;simp only[go_sem,ntmps154,f154]);(intro b3 hb3;try simp only[aI,aZ,ne_eq]at hb3);have e3:=cE hr (by first|exact hb3|exact hb3.2|exact hb3.2.2|exact hb3.2.2.2|exact hb3.2.2.2.2|exact hb3.2.2.2.2.2|exact hb3.2.2.2.2.2.2);simp only[go_sem,hb3,e3];(intro b4 hb4;try simp only[aI,aZ,ne_eq]at hb4);have e4:=cE hr (by first|exact hb4|exact hb4.2|exact hb4.2.2|exact hb4.2.2.2|exact hb4.2.2.2.2|exact hb4.2.2.2.2.2|exact hb4.2.2.2.2.2.2);simp only[go_sem,hb3,e3,hb4,e4];(refine bL (OT.l [0,2,3,4,5,1,6,7,8] .nil) [(1,[3,5]),(7,[3,5])] ?_;simp only[go_sem,hb3,e3,hb4,e4]);(refine iL (T:=T) (fin:=fin) (d:=d) (first:=first) (i:=i) (n:=n) gH hi hT (aT hk (λx1 w1 m1 hk1 hlt1 hw1 hm1=>?_) (λf h=>PB.mk aS h));subst m1;rw[<-hw1]at hk1);simp only[go_sem,hb3,e3,hb4,e4];(intro b5 hb5;try simp only[aI,aZ,ne_eq]at hb5);have e5:=cE hr (by first|exact hb5|exact hb5.2|exact hb5.2.2|exact hb5.2.2.2|exact hb5.2.2.2.2|exact hb5.2.2.2.2.2|exact hb5.2.2.2.2.2.2);simp only[go_sem,hb3,e3,hb4,e4,hb5,e5];(refine fN (T:=T) (fin:=fin) (d:=d) (first:=first) (i:=i+1) (n:=n) _ gH hlt1 hT (aT hk1 (λ_ w2 m2 hk2 hlt2 hw2 hm2=>?_) (λf h=>PB.mk aS h));subst m2;rw[<-hw2]at hk2);simp only[go_sem,hb3,e3,hb4,e4,hb5,e5];rw[show(T.drop (i+1+1)).length=T.length-(i+1+1)by rw[dR]]at hk2
 have h5:((s.setO b3 (.cells 60 t.cs)).setO b4 (.cells 84 [.str [],.nils,.nils,.nils,.nils,.int .i64 0,.int .i64 0])).getO b5=none:=by
  rw[aJ,if_neg hb5.2.1.1,aJ,if_neg hb5.2.2.1.1];exact hb5.2.2.2
 generalize hs2:(s.setO b3 (.cells 60 t.cs)).setO b4 (.cells 84 [.str [],.nils,.nils,.nils,.nils,.int .i64 0,.int .i64 0])=s2 at h5
 have hs2O:∀b o,s.getO b=some o->s2.getO b=some o:=λb o h=>by
  subst hs2;rw[aJ,if_neg (λe=>by subst e;rw[hb4.2]at h;cases h),aJ,if_neg (λe=>by subst e;rw[hb3]at h;cases h)];exact h
 have hs2g:s2.ge s:=⟨hs2O,λu m hm=>by subst hs2;exact hm,λx hx=>by subst hs2;exact hx⟩;have hg2:∀s1:St,s1.gx s2 r->s1.gx s r:=λs1 h=>⟨λc hc x hx=>h.ob c hc x (hs2O c x hx),λu m hm=>h.tk u m (by subst hs2;exact hm),λx hx=>h.ls x (by subst hs2;exact hx)⟩
 have h24:s2.getO b4=some (.cells 84 [.str [],.nils,.nils,.nils,.nils,.int .i64 0,.int .i64 0]):=by subst hs2;rw[aJ,if_pos rfl]
 have PBk:∀(s1:St) (f:Fault),s1.gx s2 r->PB s r Kp f->PB s1 r (DK Kp) f:=λs1 f hg h o=>h.at (eR (hg2 _ hg)) (by rw[aJ,if_pos rfl])
 refine Ex.loop (ι:=(Rul × Option Nat × Option Nat × Option Nat) × Nat × Bool × Nat × Nat) (λc=>[(0,.ptr r 0),(3,.ptr b3 0),(4,.ptr b4 0),(5,.ptr b5 0),(6,.int .i64 c.2.1),(7,.bool c.2.2.1)])
  (λc=>gU T fin d first b5 r s2 c.1.1 c.1.2.1 c.1.2.2.1 c.1.2.2.2 c.2.2.2.1 c.2.2.2.2)
  (fun c => RulQ b5 r s2 c.1.1 c.1.2.1 c.1.2.2.1 c.1.2.2.2 c.2.2.2.1 ∧ c.2.1 ≤ c.2.2.2.1 ∧ i + 1 + 1 ≤ c.2.2.2.1 ∧ c.2.2.2.1 ≤ T.length ∧ c.2.2.2.2 ≤ 2000 ∧
   (match c.2.2.1 with
    | true=>∃k,T.length-c.2.2.2.1<k/\(dD fin [59] (rJ false fin) k (c.1.1,c.2.1) (T.drop c.2.2.2.1) c.2.2.2.2).to (λa w n=>(pP false fin w n).to (λl w n=>PK T i (λj m=>s.setO r (bC T fin d first j m)) Rul.enc KV { a.1 with cond:=l } w n) (PB s r Kp)) (PB s r Kp)
    | false=>(pP false fin (T.drop c.2.2.2.1) c.2.2.2.2).to (λl w n=>PK T i (λj m=>s.setO r (bC T fin d first j m)) Rul.enc KV { c.1.1 with cond:=l } w n) (PB s r Kp)))
  (λc=>T.length-c.2.2.2.1) ((⟨x1,[],[],[],[],t.line,t.col⟩,none,none,none),0,true,i+1+1,n) ?_ ?_ ?_ ?_
 .refine⟨⟨⟨?_,?_,?_⟩,h5,hb5.1.2,aU _,aU _,aU _⟩,aU _,bT _,hlt2,hn,_,jB _,hk2⟩
  .intro o ho u hu;simp only[fD,eB,wJ,fH]at ho;rcases ho with rfl|rfl|rfl<;>cases hu
  .intro o ho _;simp only[fD,eB,wJ,fH]at ho;rcases ho with rfl|rfl|rfl<;>rfl
  .intro i j a b u hi hj ha hb;have:=cM hi;simp only[fD,eB,wJ,fH]at this;rcases this with rfl|rfl|rfl<;>cases ha
 .simp only[go_sem,hb3,e3,hb4,e4,hb5,e5];rfl
 .show St.ge _ ((s2.setO b5 _).setO r _);subst hs2;exact aX
 .rintro⟨⟨x,tp,tn,td⟩,cnt,more,i2,n2⟩ ⟨hQ,hcnt,hi1,hi2,hn2,hk3⟩;simp only at hQ hcnt hi1 hi2 hn2 hk3;have hQ0:=hQ;obtain⟨hown,hb,hne,l1,l2,l3⟩:=hQ;have hfr:=hown.free;have n45:=hb5.2.1.1;have n54:=hb5.2.1.2;refine bG (V:=[0,1,3,4,5,6,7,8,19,42]) _ _ _ _ ?_;cases more with
  | false =>
   simp only at hk3;unfold gU uD;have hneS:=hne.symm;simp only[go_sem,aK,hne,hne.symm,h24,e4,n45,n54];refine aIP (T:=T) (fin:=fin) (d:=d) (first:=first) (i:=i2) (n:=n2) hT gH hi2 hn2 (aT hk3 (λl w m hk4 j hj hjT hw hm=>?_) (λf h=>PBk _ _ aS h));simp only[go_sem,aK,hne,hne.symm,h24,e4,n45,n54];refine⟨by cases tp<;>cases tn<;>cases td<;>rfl,?_⟩;refine DK.mk (hk4 j aB hjT hw hm) (aJL aX (λo ho u hu=>by have:=hfr o ho u hu;subst hs2;exact this)) ?_;simp only[Rul.enc,Rul.cs];have z1:tp=none->x.parts=[]:=λe=>fK (hown.nil (tp,x.parts.length,86) (by simp[fD]) e)
   have z2:tn=none->x.new=[]:=λe=>fK (hown.nil (tn,x.new.length,141) (by simp[fD]) e)
   have z3:td=none->x.drop=[]:=λe=>fK (hown.nil (td,x.drop.length,9) (by simp[fD]) e)
   exact A.le.agg ⟨⟨bB _,rfl⟩,⟨aTB tp (λe=>by rw[z1 e];rfl) (aNe _),rfl⟩,⟨bB _,rfl⟩,⟨iY tn _ (λe=>by rw[z2 e];rfl),rfl⟩,⟨iY td _ (λe=>by rw[z3 e];rfl),rfl⟩,⟨bB _,rfl⟩,⟨bB _,rfl⟩,trivial⟩
  | true =>
   obtain⟨k,hk3,hk4⟩:=hk3;obtain⟨k,rfl⟩:∃k',k=k'+1:=⟨k-1,by omega⟩
   rw[dD,bR]at hk4;have hneS:=hne.symm;simp only[go_sem,aK,hne,hne.symm,h24,e4,n45,n54];refine kE (T:=T) (fin:=fin) (d:=d) (first:=first) (i:=i2) (n:=n2) (by unfold gU;rw[aK,aJ,if_pos rfl]) hi2 ?_;cases hw:T.drop i2 with
   | nil =>
    rw[hw]at hk4;exact hk4.at (hg2 (gU T fin d first b5 r s2 x tp tn td i2 n2) (by unfold gU;exact aS)) (o:=bC T fin d first i2 n2) (by unfold gU;rw[aK,aJ,if_pos rfl])
   | cons t2 w =>
    obtain⟨g1,g2,g3,g4⟩:=lQ hw;rw[hw]at hk4;simp only[rJ]at hk4;simp only[go_sem,aK,hne,hne.symm,h24,e4,n45,n54];intro b8 hb8
    have hpart:((t2.kind=1/\(¬ t2.text∈gX\/t2.text=[110,101,119]\/t2.text=[100,114,111,112]))->¬ 20<=cnt)->(oN false fin x (T.drop i2) n2).to (λx' w n=>(if isT [59] w=true then dD fin [59] (rJ false fin) k (x',cnt+1) w.tail n else Rd.ok (x',cnt+1) w n).to
      (λa w n=>(pP false fin w n).to (λl w n=>PK T i (λj m=>s.setO r (bC T fin d first j m)) Rul.enc KV { a.1 with cond:=l } w n) (PB s r Kp)) (PB s r Kp)) (PB s r Kp):=λh=>by
     rw[hw];rw[if_neg (λhc=>h hc.1 hc.2),bR]at hk4;exact hk4
    simp only[go_sem,aK,hne,hne.symm,h24,e4,n45,n54];cases c1:decide (t2.kind=1)
    .have hk5:=hpart (λhc=>by have:=hc.1;simp[this]at c1);simp only[go_sem,aK,hne,hne.symm,h24,e4,n45,n54,c1];refine iA (dS hb8) ?_;refine aA3 hT b5 x tp tn td hQ0 hi2 hn2 (aT hk5 (λx' w1 m1 hk6 j tp' tn' td' hj hjT hw1 hm1 hQ'=>?_) (λf h s1 o hg hr1=>h.at (hg2 _ hg) hr1));subst hw1;simp only[go_sem,aK,hne,hne.symm,h24,e4,n45,n54,cF cnt aB];refine jO (T:=T) (fin:=fin) (d:=d) (first:=first) (i:=j) (n:=m1) _ (by unfold gU;rw[aK,aJ,if_pos rfl]) hjT hT ?_;cases c9:isT [59] (T.drop j)with
     | true =>
      rw[if_pos c9,mR]at hk6;have hlt9:=lG c9;simp only[go_sem,aK,hne,hne.symm,h24,e4,n45,n54];refine⟨((x',tp',tn',td'),cnt+1,true,j+1,m1),⟨⟨hQ'.own,hQ'.hb,hQ'.ne,by have:=hQ'.l1;simp only;omega,by have:=hQ'.l2;simp only;omega,by have:=hQ'.l3;simp only;omega⟩,by simp only;omega,by simp only;omega,hlt9,hm1,k,by simp only;omega,hk6⟩,by simp only;omega,?_⟩;refine⟨⟨rfl,rfl⟩,?_⟩;unfold gU;rw[xF,mT];exact aM _
     | false =>
      rw[if_neg (by simp[c9]),bZ]at hk6;simp only[go_sem,aK,hne,hne.symm,h24,e4,n45,n54];refine⟨((x',tp',tn',td'),cnt+1,false,j,m1),⟨hQ',by simp only;omega,by simp only;omega,hjT,hm1,hk6⟩,by simp only;omega,?_⟩;exact⟨⟨rfl,rfl⟩,aM _⟩
    simp only[go_sem,aK,hne,hne.symm,h24,e4,n45,n54,c1];refine tF _ _ _ _ ?_;simp only[go_sem,aK,hne,hne.symm,h24,e4,n45,n54];cases c2:decide (t2.text∈gX)
    .simp only[go_sem,aK,hne,hne.symm,h24,e4,n45,n54,c2];refine iA (dS hb8) ?_;refine mU (T:=T) (fin:=fin) (d:=d) (first:=first) (i:=i2) (n:=n2) _ _ (by unfold gU;rw[aK,aJ,if_pos rfl]) hi2 ?_;by_cases h20:20<=cnt
     .rw[if_pos ⟨⟨by simpa using c1,.inl (by simpa using c2)⟩,h20⟩,eJ]at hk4;rw[if_pos aB,hw];exact PBk _ _ (by unfold gU;exact aS) hk4
     rw[if_neg aB];have hk5:=hpart (λ_=>h20);simp only[go_sem,aK,hne,hne.symm,h24,e4,n45,n54];refine aA3 hT b5 x tp tn td hQ0 hi2 hn2 (aT hk5 (λx' w1 m1 hk6 j tp' tn' td' hj hjT hw1 hm1 hQ'=>?_) (λf h s1 o hg hr1=>h.at (hg2 _ hg) hr1));subst hw1;simp only[go_sem,aK,hne,hne.symm,h24,e4,n45,n54,cF cnt aB];refine jO (T:=T) (fin:=fin) (d:=d) (first:=first) (i:=j) (n:=m1) _ (by unfold gU;rw[aK,aJ,if_pos rfl]) hjT hT ?_;cases c9:isT [59] (T.drop j)with
     | true =>
      rw[if_pos c9,mR]at hk6;have hlt9:=lG c9;simp only[go_sem,aK,hne,hne.symm,h24,e4,n45,n54];refine⟨((x',tp',tn',td'),cnt+1,true,j+1,m1),⟨⟨hQ'.own,hQ'.hb,hQ'.ne,by have:=hQ'.l1;simp only;omega,by have:=hQ'.l2;simp only;omega,by have:=hQ'.l3;simp only;omega⟩,by simp only;omega,by simp only;omega,hlt9,hm1,k,by simp only;omega,hk6⟩,by simp only;omega,?_⟩;refine⟨⟨rfl,rfl⟩,?_⟩;unfold gU;rw[xF,mT];exact aM _
     | false =>
      rw[if_neg (by simp[c9]),bZ]at hk6;simp only[go_sem,aK,hne,hne.symm,h24,e4,n45,n54];refine⟨((x',tp',tn',td'),cnt+1,false,j,m1),⟨hQ',by simp only;omega,by simp only;omega,hjT,hm1,hk6⟩,by simp only;omega,?_⟩;exact⟨⟨rfl,rfl⟩,aM _⟩
    simp only[go_sem,aK,hne,hne.symm,h24,e4,n45,n54,c2];cases c3:decide (t2.text=[110,101,119]);rotate_left
    .simp only[go_sem,aK,hne,hne.symm,h24,e4,n45,n54,c3];refine iA (dS hb8) ?_;refine mU (T:=T) (fin:=fin) (d:=d) (first:=first) (i:=i2) (n:=n2) _ _ (by unfold gU;rw[aK,aJ,if_pos rfl]) hi2 ?_;by_cases h20:20<=cnt
     .rw[if_pos ⟨⟨by simpa using c1,.inr (.inl (by simpa using c3))⟩,h20⟩,eJ]at hk4;rw[if_pos aB,hw];exact PBk _ _ (by unfold gU;exact aS) hk4
     rw[if_neg aB];have hk5:=hpart (λ_=>h20);simp only[go_sem,aK,hne,hne.symm,h24,e4,n45,n54];refine aA3 hT b5 x tp tn td hQ0 hi2 hn2 (aT hk5 (λx' w1 m1 hk6 j tp' tn' td' hj hjT hw1 hm1 hQ'=>?_) (λf h s1 o hg hr1=>h.at (hg2 _ hg) hr1));subst hw1;simp only[go_sem,aK,hne,hne.symm,h24,e4,n45,n54,cF cnt aB];refine jO (T:=T) (fin:=fin) (d:=d) (first:=first) (i:=j) (n:=m1) _ (by unfold gU;rw[aK,aJ,if_pos rfl]) hjT hT ?_;cases c9:isT [59] (T.drop j)with
     | true =>
      rw[if_pos c9,mR]at hk6;have hlt9:=lG c9;simp only[go_sem,aK,hne,hne.symm,h24,e4,n45,n54];refine⟨((x',tp',tn',td'),cnt+1,true,j+1,m1),⟨⟨hQ'.own,hQ'.hb,hQ'.ne,by have:=hQ'.l1;simp only;omega,by have:=hQ'.l2;simp only;omega,by have:=hQ'.l3;simp only;omega⟩,by simp only;omega,by simp only;omega,hlt9,hm1,k,by simp only;omega,hk6⟩,by simp only;omega,?_⟩;refine⟨⟨rfl,rfl⟩,?_⟩;unfold gU;rw[xF,mT];exact aM _
     | false =>
      rw[if_neg (by simp[c9]),bZ]at hk6;simp only[go_sem,aK,hne,hne.symm,h24,e4,n45,n54];refine⟨((x',tp',tn',td'),cnt+1,false,j,m1),⟨hQ',by simp only;omega,by simp only;omega,hjT,hm1,hk6⟩,by simp only;omega,?_⟩;exact⟨⟨rfl,rfl⟩,aM _⟩
    simp only[go_sem,aK,hne,hne.symm,h24,e4,n45,n54,c3];cases c4:decide (t2.text=[100,114,111,112]);rotate_left
    .simp only[go_sem,aK,hne,hne.symm,h24,e4,n45,n54,c4];refine iA (dS hb8) ?_;refine mU (T:=T) (fin:=fin) (d:=d) (first:=first) (i:=i2) (n:=n2) _ _ (by unfold gU;rw[aK,aJ,if_pos rfl]) hi2 ?_;by_cases h20:20<=cnt
     .rw[if_pos ⟨⟨by simpa using c1,.inr (.inr (by simpa using c4))⟩,h20⟩,eJ]at hk4;rw[if_pos aB,hw];exact PBk _ _ (by unfold gU;exact aS) hk4
     rw[if_neg aB];have hk5:=hpart (λ_=>h20);simp only[go_sem,aK,hne,hne.symm,h24,e4,n45,n54];refine aA3 hT b5 x tp tn td hQ0 hi2 hn2 (aT hk5 (λx' w1 m1 hk6 j tp' tn' td' hj hjT hw1 hm1 hQ'=>?_) (λf h s1 o hg hr1=>h.at (hg2 _ hg) hr1));subst hw1;simp only[go_sem,aK,hne,hne.symm,h24,e4,n45,n54,cF cnt aB];refine jO (T:=T) (fin:=fin) (d:=d) (first:=first) (i:=j) (n:=m1) _ (by unfold gU;rw[aK,aJ,if_pos rfl]) hjT hT ?_;cases c9:isT [59] (T.drop j)with
     | true =>
      rw[if_pos c9,mR]at hk6;have hlt9:=lG c9;simp only[go_sem,aK,hne,hne.symm,h24,e4,n45,n54];refine⟨((x',tp',tn',td'),cnt+1,true,j+1,m1),⟨⟨hQ'.own,hQ'.hb,hQ'.ne,by have:=hQ'.l1;simp only;omega,by have:=hQ'.l2;simp only;omega,by have:=hQ'.l3;simp only;omega⟩,by simp only;omega,by simp only;omega,hlt9,hm1,k,by simp only;omega,hk6⟩,by simp only;omega,?_⟩;refine⟨⟨rfl,rfl⟩,?_⟩;unfold gU;rw[xF,mT];exact aM _
     | false =>
      rw[if_neg (by simp[c9]),bZ]at hk6;simp only[go_sem,aK,hne,hne.symm,h24,e4,n45,n54];refine⟨((x',tp',tn',td'),cnt+1,false,j,m1),⟨hQ',by simp only;omega,by simp only;omega,hjT,hm1,hk6⟩,by simp only;omega,?_⟩;exact⟨⟨rfl,rfl⟩,aM _⟩
    simp only[go_sem,aK,hne,hne.symm,h24,e4,n45,n54,c4];have hk5:=hpart (λhc=>by have h1:=hc.2;simp at c2 c3 c4;rcases h1 with h1|h1|h1;exact(h1 c2).elim;exact(c3 h1).elim;exact(c4 h1).elim);refine iA (dS hb8) ?_;refine aA3 hT b5 x tp tn td hQ0 hi2 hn2 (aT hk5 (λx' w1 m1 hk6 j tp' tn' td' hj hjT hw1 hm1 hQ'=>?_) (λf h s1 o hg hr1=>h.at (hg2 _ hg) hr1));subst hw1;simp only[go_sem,aK,hne,hne.symm,h24,e4,n45,n54,cF cnt aB];refine jO (T:=T) (fin:=fin) (d:=d) (first:=first) (i:=j) (n:=m1) _ (by unfold gU;rw[aK,aJ,if_pos rfl]) hjT hT ?_;cases c9:isT [59] (T.drop j)with
    | true =>
     rw[if_pos c9,mR]at hk6;have hlt9:=lG c9;simp only[go_sem,aK,hne,hne.symm,h24,e4,n45,n54];refine⟨((x',tp',tn',td'),cnt+1,true,j+1,m1),⟨⟨hQ'.own,hQ'.hb,hQ'.ne,by have:=hQ'.l1;simp only;omega,by have:=hQ'.l2;simp only;omega,by have:=hQ'.l3;simp only;omega⟩,by simp only;omega,by simp only;omega,hlt9,hm1,k,by simp only;omega,hk6⟩,by simp only;omega,?_⟩;refine⟨⟨rfl,rfl⟩,?_⟩;unfold gU;rw[xF,mT];exact aM _
    | false =>
     rw[if_neg (by simp[c9]),bZ]at hk6;simp only[go_sem,aK,hne,hne.symm,h24,e4,n45,n54];refine⟨((x',tp',tn',td'),cnt+1,false,j,m1),⟨hQ',by simp only;omega,by simp only;omega,hjT,hm1,hk6⟩,by simp only;omega,?_⟩;exact⟨⟨rfl,rfl⟩,aM _⟩
end
end
section
structure GrQ {α:Type} (b1 b3 r:Nat) (s:St) (acc:List α) (tk:Option Nat) (i:Nat):Prop where
 len:acc.length<=i
 h1:s.getO b1=some (.cells 74 [.ptr r 0])
 h3:s.getO b3=some (.cells 191 [.ptr r 6])
 ne:b1≠r/\b3≠r
 nil:tk=none->acc=[]
 free:∀t,tk=some t->s.getT t=none
def oS(T:List Tok)(fin:Fault)(d:Dc)(first:Tok)(r:Nat)(s:St)(acc:List aC)(tk:Option Nat)(i n:Nat):St :=
 gs (s.setO r (bC T fin { d with sorts:=gv tk (acc.map .str) } first i n)) tk acc.length 9
def oR(T:List Tok)(fin:Fault)(d:Dc)(first:Tok)(r:Nat)(s:St)(acc:List Cel)(tk:Option Nat)(i n:Nat):St :=
 gs (s.setO r (bC T fin { d with many:=gv tk (acc.map Cel.enc) } first i n)) tk acc.length 68
section
variable {T:List Tok} {fin:Fault} {d:Dc} {first:Tok} {i n:Nat} {s:St} {r:Nat} {KV Kp:St->A->Prop}
theorem aFJ(hT:TOk T)(b1:Nat)(old:Bool)(h1:s.getO b1=some (.cells 74 [.ptr r 0]))(hr:s.getO r=some (bC T fin d first i n))(hi:i+1<=T.length)
  (hk:match old with|true=>PB s r Kp (fW fin 14 (T.drop i))|false=>KV (s.setO r (bC T fin d first (i+1) n)) (.tuple [])):Den cx 225 [.bool old,.ptr b1 0] KV Kp s:=by
 have hlen:=hT.len;have hr2:=hr;simp only[go_sem]at hr2;(refine aO func225 [0,1,3] ?_;simp only[go_sem,ntmps225,f225]);cases old with
 | true =>
  simp only[go_sem,h1];refine oH 14 hr aB hT ?_;exact hk.here hr
 | false =>
  simp only[go_sem,h1,hr2,cF i aB];exact aN hk
theorem aO1(hT:TOk T)(b1 b3:Nat)(acc:List aC)(tk:Option Nat)(hQ:GrQ b1 b3 r s acc tk i)(hi:i<=T.length)(hn:n<=2000)
  (hk : (lI fin 40 acc.length (T.drop i) n fun w n => eN fin w n).to (fun a w n' => ∀ j y,i + 1 ≤ j → j ≤ T.length → T.drop j = w → n' ≤ 2000 → GrQ b1 b3 r s (acc ++ [a]) y j → KV (oS T fin d first r s (acc ++ [a]) y j n') (.bool true))
   (λf=>∀s1 o,s1.gx s r->s1.getO r=some o->Kp s1 (.iface 36 f.enc))):Den cx 147 [.ptr b1 0,.ptr b3 0] KV Kp (oS T fin d first r s acc tk i n):=by
 obtain⟨hac,h1,h3,⟨n1,n3⟩,hnil,hfree⟩:=hQ;have hlenT:=hT.len;have hg:nJ (oS T fin d first r s acc tk i n) tk (acc.map A.str).length 9:=by rw[aH];exact iF λe=>by rw[hnil e];rfl
 (refine aO func147 [0,1,2,3,14] ?_;simp only[go_sem,ntmps147,f147]);unfold oS;have n1S:=n1.symm;have n3S:=n3.symm;simp only[go_sem,h1,h3,n1,n1.symm,n3,n3.symm];refine kE (d:={ d with sorts:=gv tk (acc.map A.str) }) (T:=T) (fin:=fin) (first:=first) (i:=i) (n:=n) gH hi ?_;cases hw:T.drop i with
 | nil=>rw[hw]at hk;exact aN (hk _ (bC T fin { d with sorts:=gv tk (acc.map A.str) } first i n) aS gH)
 | cons t w =>
  obtain⟨g1,g2,g3,g4⟩:=lQ hw;rw[hw]at hk
  have hsome:(t.free=true->¬ 40<=acc.length)->(eN fin (T.drop i) n).to (λa w n'=>∀j y,i+1<=j->j<=T.length->T.drop j=w->n'<=2000->GrQ b1 b3 r s (acc++[a]) y j->KV (oS T fin d first r s (acc++[a]) y j n') (.bool true))
    (λf=>∀s1 o,s1.gx s r->s1.getO r=some o->Kp s1 (.iface 36 f.enc)):=λh=>by
   rw[hw];simp only[lI]at hk;rw[if_neg (λhc=>h hc.1 hc.2)]at hk;exact hk
  simp only[go_sem,h1,h3,n1,n1.symm,n3,n3.symm];(intro b5 hb5;try simp only[aK,aZ,aI,ne_eq]at hb5);have e53:=cE h3 hb5.2;have e51:=cE h1 hb5.2;simp only[go_sem,h1,h3,n1,n1.symm,n3,n3.symm,hb5,e53,e51];cases c1:decide (t.kind=1)
  .have hk5:=hsome (λhf=>by simp[Tok.free,c1]at hf);simp only[go_sem,h1,h3,n1,n1.symm,n3,n3.symm,hb5,e53,e51,c1];(refine bL (OT.r 0 14) [(7,[0,1,5]),(9,[0])] ?_;simp only[go_sem,h1,h3,n1,n1.symm,n3,n3.symm,hb5,e53,e51]);refine iL (d:={ d with sorts:=gv tk (acc.map A.str) }) (T:=T) (fin:=fin) (first:=first) (i:=i) (n:=n) gH hi hT (aT hk5 (λx w2 m2 hk6 hlt hw2 hm2=>?_) (λf h=>dQ aS h));subst m2;have hj:i+1<=i+1:=bT _;simp only[go_sem,h1,h3,n1,n1.symm,n3,n3.symm,hb5,e53,e51];refine⟨by decide,λy hy=>by simp only[bW]at hy;subst hy;rfl,dY rfl rfl (by rw[aH];exact iF λe=>by rw[hnil e];rfl) (λy hy=>?_) (by simp only[aH,aE,aF];omega) (λu hu=>?_)⟩
   .simp only[cC]at hy;obtain⟨q,_,rfl⟩:=hy;rfl
   have hfu:=gD hu hfree;rw[fO hu];simp only[go_sem,h1,h3,n1,n1.symm,n3,n3.symm,hb5,e53,e51];have hk7:=hk6 (i+1) (some u) hj hlt hw2 hn ⟨by simp only[aG,aE,aF];omega,h1,h3,⟨n1,n3⟩,λe=>(by cases e),λt' e=>by cases e;exact hfu⟩;refine aP hk7 ?_;simp only[oS,dO,cV,bS,cY,aG,aE,aF,aH];exact aX
  simp only[go_sem,h1,h3,n1,n1.symm,n3,n3.symm,hb5,e53,e51,c1];refine tF _ _ _ _ ?_;simp only[go_sem,h1,h3,n1,n1.symm,n3,n3.symm,hb5,e53,e51];cases c2:decide (t.text∈gX);rotate_left
  .have hk5:=hsome (λhf=>by simp[Tok.free,c2]at hf);simp only[go_sem,h1,h3,n1,n1.symm,n3,n3.symm,hb5,e53,e51,c2];(refine bL (OT.r 0 14) [(7,[0,1,5]),(9,[0])] ?_;simp only[go_sem,h1,h3,n1,n1.symm,n3,n3.symm,hb5,e53,e51]);refine iL (d:={ d with sorts:=gv tk (acc.map A.str) }) (T:=T) (fin:=fin) (first:=first) (i:=i) (n:=n) gH hi hT (aT hk5 (λx w2 m2 hk6 hlt hw2 hm2=>?_) (λf h=>dQ aS h));subst m2;have hj:i+1<=i+1:=bT _;simp only[go_sem,h1,h3,n1,n1.symm,n3,n3.symm,hb5,e53,e51];refine⟨by decide,λy hy=>by simp only[bW]at hy;subst hy;rfl,dY rfl rfl (by rw[aH];exact iF λe=>by rw[hnil e];rfl) (λy hy=>?_) (by simp only[aH,aE,aF];omega) (λu hu=>?_)⟩
   .simp only[cC]at hy;obtain⟨q,_,rfl⟩:=hy;rfl
   have hfu:=gD hu hfree;rw[fO hu];simp only[go_sem,h1,h3,n1,n1.symm,n3,n3.symm,hb5,e53,e51];have hk7:=hk6 (i+1) (some u) hj hlt hw2 hn ⟨by simp only[aG,aE,aF];omega,h1,h3,⟨n1,n3⟩,λe=>(by cases e),λt' e=>by cases e;exact hfu⟩;refine aP hk7 ?_;simp only[oS,dO,cV,bS,cY,aG,aE,aF,aH];exact aX
  simp only[go_sem,h1,h3,n1,n1.symm,n3,n3.symm,hb5,e53,e51,c2];(refine bL (OT.r 0 8) [] ?_;simp only[go_sem,h1,h3,n1,n1.symm,n3,n3.symm,hb5,e53,e51,pF hg]);refine mU (d:={ d with sorts:=gv tk (acc.map A.str) }) (T:=T) (fin:=fin) (first:=first) (i:=i) (n:=n) _ _ gH hi ?_;by_cases h8:40<=acc.length
  .rw[if_pos aB,hw];simp only[lI]at hk;rw[if_pos ⟨by simp[Tok.free,c1,c2],h8⟩]at hk;exact dQ aS hk
  rw[if_neg aB];have hk5:=hsome (λ_=>h8);simp only[go_sem,h1,h3,n1,n1.symm,n3,n3.symm,hb5,e53,e51];(refine bL (OT.r 0 14) [(7,[0,1,5]),(9,[0])] ?_;simp only[go_sem,h1,h3,n1,n1.symm,n3,n3.symm,hb5,e53,e51]);refine iL (d:={ d with sorts:=gv tk (acc.map A.str) }) (T:=T) (fin:=fin) (first:=first) (i:=i) (n:=n) gH hi hT (aT hk5 (λx w2 m2 hk6 hlt hw2 hm2=>?_) (λf h=>dQ aS h));subst m2;have hj:i+1<=i+1:=bT _;simp only[go_sem,h1,h3,n1,n1.symm,n3,n3.symm,hb5,e53,e51];refine⟨by decide,λy hy=>by simp only[bW]at hy;subst hy;rfl,dY rfl rfl (by rw[aH];exact iF λe=>by rw[hnil e];rfl) (λy hy=>?_) (by simp only[aH,aE,aF];omega) (λu hu=>?_)⟩
  .simp only[cC]at hy;obtain⟨q,_,rfl⟩:=hy;rfl
  have hfu:=gD hu hfree;rw[fO hu];simp only[go_sem,h1,h3,n1,n1.symm,n3,n3.symm,hb5,e53,e51];have hk7:=hk6 (i+1) (some u) hj hlt hw2 hn ⟨by simp only[aG,aE,aF];omega,h1,h3,⟨n1,n3⟩,λe=>(by cases e),λt' e=>by cases e;exact hfu⟩;refine aP hk7 ?_;simp only[oS,dO,cV,bS,cY,aG,aE,aF,aH];exact aX
theorem aOT(hT:TOk T)(b1 b3:Nat)(acc:List Cel)(tk:Option Nat)(hQ:GrQ b1 b3 r s acc tk i)(hi:i<=T.length)(hn:n<=2000)
  (hk : (lI fin 12 acc.length (T.drop i) n fun w n => oP false fin w n).to (fun a w n' => ∀ j y,i + 1 ≤ j → j ≤ T.length → T.drop j = w → n' ≤ 2000 → GrQ b1 b3 r s (acc ++ [a]) y j → KV (oR T fin d first r s (acc ++ [a]) y j n') (.bool true))
   (λf=>∀s1 o,s1.gx s r->s1.getO r=some o->Kp s1 (.iface 36 f.enc))):Den cx 227 [.ptr b1 0,.ptr b3 0] KV Kp (oR T fin d first r s acc tk i n):=by
 obtain⟨hac,h1,h3,⟨n1,n3⟩,hnil,hfree⟩:=hQ;have hlenT:=hT.len;have hg:nJ (oR T fin d first r s acc tk i n) tk (acc.map Cel.enc).length 68:=by rw[aH];exact iF λe=>by rw[hnil e];rfl
 (refine aO func227 [0,1,2,3,14] ?_;simp only[go_sem,ntmps227,f227]);unfold oR;have n1S:=n1.symm;have n3S:=n3.symm;simp only[go_sem,h1,h3,n1,n1.symm,n3,n3.symm];refine kE (d:={ d with many:=gv tk (acc.map Cel.enc) }) (T:=T) (fin:=fin) (first:=first) (i:=i) (n:=n) gH hi ?_;cases hw:T.drop i with
 | nil=>rw[hw]at hk;exact aN (hk _ (bC T fin { d with many:=gv tk (acc.map Cel.enc) } first i n) aS gH)
 | cons t w =>
  obtain⟨g1,g2,g3,g4⟩:=lQ hw;rw[hw]at hk
  have hsome:(t.free=true->¬ 12<=acc.length)->(oP false fin (T.drop i) n).to (λa w n'=>∀j y,i+1<=j->j<=T.length->T.drop j=w->n'<=2000->GrQ b1 b3 r s (acc++[a]) y j->KV (oR T fin d first r s (acc++[a]) y j n') (.bool true))
    (λf=>∀s1 o,s1.gx s r->s1.getO r=some o->Kp s1 (.iface 36 f.enc)):=λh=>by
   rw[hw];simp only[lI]at hk;rw[if_neg (λhc=>h hc.1 hc.2)]at hk;exact hk
  simp only[go_sem,h1,h3,n1,n1.symm,n3,n3.symm];(intro b5 hb5;try simp only[aK,aZ,aI,ne_eq]at hb5);have e53:=cE h3 hb5.2;have e51:=cE h1 hb5.2;simp only[go_sem,h1,h3,n1,n1.symm,n3,n3.symm,hb5,e53,e51];cases c1:decide (t.kind=1)
  .have hk5:=hsome (λhf=>by simp[Tok.free,c1]at hf);simp only[go_sem,h1,h3,n1,n1.symm,n3,n3.symm,hb5,e53,e51,c1];(refine bL (OT.r 0 12) [(6,[0,1,4]),(8,[0])] ?_;simp only[go_sem,h1,h3,n1,n1.symm,n3,n3.symm,hb5,e53,e51]);refine aCr (d:={ d with many:=gv tk (acc.map Cel.enc) }) (T:=T) (fin:=fin) (first:=first) (i:=i) (n:=n) hT gH hi hn (aT hk5 (λx w2 m2 hk6 j hj hlt hw2 hm2=>?_) (λf h=>dQ aS h));simp only[go_sem,h1,h3,n1,n1.symm,n3,n3.symm,hb5,e53,e51];refine⟨by decide,λy hy=>by simp only[bW]at hy;subst hy;rfl,dY rfl rfl (by rw[aH];exact iF λe=>by rw[hnil e];rfl) (λy hy=>?_) (by simp only[aH,aE,aF];omega) (λu hu=>?_)⟩
   .simp only[cC]at hy;obtain⟨q,_,rfl⟩:=hy;rfl
   have hfu:=gD hu hfree;rw[fO hu];simp only[go_sem,h1,h3,n1,n1.symm,n3,n3.symm,hb5,e53,e51];have hk7:=hk6 j (some u) hj hlt hw2 hm2 ⟨by simp only[aG,aE,aF];omega,h1,h3,⟨n1,n3⟩,λe=>(by cases e),λt' e=>by cases e;exact hfu⟩;refine aP hk7 ?_;simp only[oR,dO,cV,bS,cY,aG,aE,aF,aH];exact aX
  simp only[go_sem,h1,h3,n1,n1.symm,n3,n3.symm,hb5,e53,e51,c1];refine tF _ _ _ _ ?_;simp only[go_sem,h1,h3,n1,n1.symm,n3,n3.symm,hb5,e53,e51];cases c2:decide (t.text∈gX);rotate_left
  .have hk5:=hsome (λhf=>by simp[Tok.free,c2]at hf);simp only[go_sem,h1,h3,n1,n1.symm,n3,n3.symm,hb5,e53,e51,c2];(refine bL (OT.r 0 12) [(6,[0,1,4]),(8,[0])] ?_;simp only[go_sem,h1,h3,n1,n1.symm,n3,n3.symm,hb5,e53,e51]);refine aCr (d:={ d with many:=gv tk (acc.map Cel.enc) }) (T:=T) (fin:=fin) (first:=first) (i:=i) (n:=n) hT gH hi hn (aT hk5 (λx w2 m2 hk6 j hj hlt hw2 hm2=>?_) (λf h=>dQ aS h));simp only[go_sem,h1,h3,n1,n1.symm,n3,n3.symm,hb5,e53,e51];refine⟨by decide,λy hy=>by simp only[bW]at hy;subst hy;rfl,dY rfl rfl (by rw[aH];exact iF λe=>by rw[hnil e];rfl) (λy hy=>?_) (by simp only[aH,aE,aF];omega) (λu hu=>?_)⟩
   .simp only[cC]at hy;obtain⟨q,_,rfl⟩:=hy;rfl
   have hfu:=gD hu hfree;rw[fO hu];simp only[go_sem,h1,h3,n1,n1.symm,n3,n3.symm,hb5,e53,e51];have hk7:=hk6 j (some u) hj hlt hw2 hm2 ⟨by simp only[aG,aE,aF];omega,h1,h3,⟨n1,n3⟩,λe=>(by cases e),λt' e=>by cases e;exact hfu⟩;refine aP hk7 ?_;simp only[oR,dO,cV,bS,cY,aG,aE,aF,aH];exact aX
  simp only[go_sem,h1,h3,n1,n1.symm,n3,n3.symm,hb5,e53,e51,c2];(refine bL (OT.r 0 7) [] ?_;simp only[go_sem,h1,h3,n1,n1.symm,n3,n3.symm,hb5,e53,e51,pF hg]);refine mU (d:={ d with many:=gv tk (acc.map Cel.enc) }) (T:=T) (fin:=fin) (first:=first) (i:=i) (n:=n) _ _ gH hi ?_;by_cases h8:12<=acc.length
  .rw[if_pos aB,hw];simp only[lI]at hk;rw[if_pos ⟨by simp[Tok.free,c1,c2],h8⟩]at hk;exact dQ aS hk
  rw[if_neg aB];have hk5:=hsome (λ_=>h8);simp only[go_sem,h1,h3,n1,n1.symm,n3,n3.symm,hb5,e53,e51];(refine bL (OT.r 0 12) [(6,[0,1,4]),(8,[0])] ?_;simp only[go_sem,h1,h3,n1,n1.symm,n3,n3.symm,hb5,e53,e51]);refine aCr (d:={ d with many:=gv tk (acc.map Cel.enc) }) (T:=T) (fin:=fin) (first:=first) (i:=i) (n:=n) hT gH hi hn (aT hk5 (λx w2 m2 hk6 j hj hlt hw2 hm2=>?_) (λf h=>dQ aS h));simp only[go_sem,h1,h3,n1,n1.symm,n3,n3.symm,hb5,e53,e51];refine⟨by decide,λy hy=>by simp only[bW]at hy;subst hy;rfl,dY rfl rfl (by rw[aH];exact iF λe=>by rw[hnil e];rfl) (λy hy=>?_) (by simp only[aH,aE,aF];omega) (λu hu=>?_)⟩
  .simp only[cC]at hy;obtain⟨q,_,rfl⟩:=hy;rfl
  have hfu:=gD hu hfree;rw[fO hu];simp only[go_sem,h1,h3,n1,n1.symm,n3,n3.symm,hb5,e53,e51];have hk7:=hk6 j (some u) hj hlt hw2 hm2 ⟨by simp only[aG,aE,aF];omega,h1,h3,⟨n1,n3⟩,λe=>(by cases e),λt' e=>by cases e;exact hfu⟩;refine aP hk7 ?_;simp only[oR,dO,cV,bS,cY,aG,aE,aF,aH];exact aX
end
end
section
structure DOwn where
 so:Option Nat
 be:Option Nat
 op:Option Nat
 fu:Option Nat
 va:Option Nat
 eq:Option Nat
 on:Option Nat
 ma:Option Nat
 ru:Option Nat
def cH(d:Dfn)(o:DOwn):Dc:=⟨d.name,gv o.so (d.sig.sorts.map .str),gv o.be (d.sig.below.map Below.enc),gv o.op (d.sig.ops.map Opr.enc),gv o.fu (d.sig.funs.map Opr.enc),gv o.va (d.sig.values.map .str),
 gv o.eq (d.eqs.map Eqn.enc),gv o.on (d.once.map Cel.enc),d.kind,gv o.ma (d.many.map Cel.enc),gv o.ru (d.rules.map Rul.enc),d.start,d.watch⟩
def cG(d:Dfn)(o:DOwn):List fE:=[(o.so,d.sig.sorts.length,9),(o.be,d.sig.below.length,104),(o.op,d.sig.ops.length,73),(o.fu,d.sig.funs.length,73),(o.va,d.sig.values.length,9),
 (o.eq,d.eqs.length,80),(o.on,d.once.length,68),(o.ma,d.many.length,68),(o.ru,d.rules.length,84)]
def lK(T:List Tok)(fin:Fault)(first:Tok)(r:Nat)(s:St)(d:Dfn)(o:DOwn)(i n:Nat):St:=eL (s.setO r (bC T fin (cH d o) first i n)) (cG d o)
structure ItQ (s:St) (d:Dfn) (o:DOwn) (i:Nat):Prop where
 own:OwnOk s (cG d o)
 len:∀a,a∈cG d o->a.2.1<=i
theorem ItQ.le{s:St}{d:Dfn}{o:DOwn}{i j:Nat}(h:ItQ s d o i)(hj:i<=j):ItQ s d o j:=⟨h.own,λa ha=>nM (h.len a ha) hj⟩
theorem ItQ.set{s:St}{d d':Dfn}{o o':DOwn}{i j k:Nat}{a:fE}(h:ItQ s d o i)(he:cG d' o'=(cG d o).set k a)(hown:OwnOk s ((cG d o).set k a))(hj:i<=j)(ha:a.2.1<=j):ItQ s d' o' j :=
 ⟨by rw [he]; exact hown,fun b hb => by
  rw[he]at hb;rcases wG hb with hb|rfl
  .exact nM (h.len b hb) hj
  .exact ha⟩
attribute [go_sem] cH
section
variable {T:List Tok} {fin:Fault} {d:Dfn} {o:DOwn} {first:Tok} {i n:Nat} {s:St} {r:Nat} {KV Kp:St->A->Prop}
theorem GrQ.setT{α:Type}{b1 b3 r:Nat}{s:St}{acc:List α}{tk:Option Nat}{i t:Nat}{v:Nat × TypeId}(h:GrQ b1 b3 r s acc tk i)(ht:tk≠some t):GrQ b1 b3 r (s.setT t v) acc tk i :=
 ⟨h.len,h.h1,h.h3,h.ne,h.nil,λu hu=>by rw[dE,if_neg (λe=>ht (by rw[hu,e]))];exact h.free u hu⟩
theorem GrQ.unT{α:Type}{b1 b3 r:Nat}{s:St}{acc:List α}{tk:Option Nat}{i t:Nat}{v:Nat × TypeId}(h:GrQ b1 b3 r (s.setT t v) acc tk i):tk≠some t/\∀u,tk=some u->s.getT u=none:=by
 have h1:tk≠some t:=λe=>by
  have:=h.free t e;rw[dE,if_pos rfl]at this;cases this
 refine⟨h1,λu hu=>?_⟩;have:=h.free u hu;rw[dE]at this;split at this
 .cases this
 .exact this
theorem GrQ.dropT{α:Type}{b1 b3 r:Nat}{s:St}{acc:List α}{tk:Option Nat}{i t:Nat}{v:Nat × TypeId}(h:GrQ b1 b3 r (s.setT t v) acc tk i):GrQ b1 b3 r s acc tk i :=
 ⟨h.len,h.h1,h.h3,h.ne,h.nil,h.unT.2⟩
theorem aJv{α:Type}{b1 b3 r:Nat}{s X:St}{acc:List α}{tk:Option Nat}{i n t:Nat}{e:TypeId}(h:GrQ b1 b3 r s acc tk i)(ht:(gs X tk n e).getT t=none)(hX:X.getT t=s.getT t:=by rfl):tk≠some t/\s.getT t=none:=by
 rw[iD]at ht;split at ht
 .cases ht
 .rename_i e;exact⟨e,by rw[<-hX];exact ht⟩
theorem aI2{X:St}{r:Nat}{x:Ob}{tk:Option Nat}{n t:Nat}{e:TypeId}{v u:Nat × TypeId}(h:tk≠some t):((gs ((X.setT t v).setO r x) tk n e).setT t u).ge (gs ((X.setT t u).setO r x) tk n e):=by
 refine⟨λb o ho=>by rw[kB];rw[aZ]at *;exact ho,λc m hm=>?_,λy hy=>by cases tk<;>exact hy⟩;rw[iD,getT_setO,dE]at hm;rw[dE,iD,getT_setO,dE];by_cases htc:t=c
 .subst htc;rw[if_neg h,if_pos rfl]at hm;rw[if_pos rfl];exact hm
 .rw[if_neg htc]at hm⊢;rw[if_neg htc];exact hm
theorem aH1{X:St}{r:Nat}{x:Ob}{tk:Option Nat}{n t:Nat}{e:TypeId}{v:Nat × TypeId}(h:X.getT t=none):(gs ((X.setT t v).setO r x) tk n e).ge (gs (X.setO r x) tk n e) :=
 aJz (λb o ho=>ho) (λy hy=>hy) (λc m _ hm=>by
  show(X.setT t v).getT c=some m;have hm':X.getT c=some m:=hm;rw[dE];by_cases htc:t=c
  .subst htc;rw[h]at hm';cases hm'
  .rw[if_neg htc];exact hm')
theorem aPc(hT:TOk T)(t:Tok)(w:List Tok)(hw:T.drop i=t::w)(hQ:ItQ s d o i)(hn:n<=2000)
  (hk : (mX false fin d t w n).to (fun d' w n' => ∀ j o',i + 1 ≤ j → j ≤ T.length → T.drop j = w → n' ≤ 2000 → ItQ s d' o' j → KV (lK T fin first r s d' o' j n') (.tuple []))
   (λf=>∀s1 x,s1.gx s r->s1.getO r=some x->Kp s1 (.iface 36 f.enc))):Den cx 155 [.ptr r 0,t.enc] KV Kp (lK T fin first r s d o i n):=by
 obtain⟨g1,g2,g3,g4⟩:=lQ hw;have hi:i<=T.length:=by omega
 have hlenT:=hT.len;have hown:=hQ.own;have hfr:=hown.free;have hgon:mK (gv o.on (d.once.map Cel.enc))=some (.int .i64 (d.once.map Cel.enc).length):=pF (by rw[aH];exact xS hown (k:=6) rfl);have wAT:∀x:aC,isT x (T.drop i)=eH t x:=λx=>by rw[hw];rfl
 simp only[go_sem];(refine aO func155 [0,1,2,4,5,12,27,42,70] ?_;simp only[go_sem,ntmps155,f155]);unfold lK;(intro b2 hb2;try simp only[aK,aZ,aI,ne_eq]at hb2);simp only[go_sem,aK,hb2];(intro b3 hb3;try simp only[aK,aZ,aI,ne_eq]at hb3);simp only[go_sem,aK,hb2,hb3];(intro b4 hb4;try simp only[aK,aZ,aI,ne_eq]at hb4);simp only[go_sem,aK,hb2,hb3,hb4];refine nR (d:=cH d o) (T:=T) (fin:=fin) (first:=first) (i:=i) (n:=n) _ gH hi ?_;rw[wAT];cases c1:eH t [115,116,97,114,116];rotate_left
 ·
  rw[mX,if_pos c1]at hk;simp only[go_sem,aK,hb2,hb3,hb4];refine aFJ hT b2 _ (d:=cH d o) (T:=T) (fin:=fin) (first:=first) (i:=i) (n:=n) gH gH g2 ?_;cases cs:decide (d.start=[])
  .rw[if_neg (by simpa using cs),eJ]at hk;rw[hw];exact dQ aS hk
  rw[if_pos (by simpa using cs),bR,<-g3]at hk;simp only[eV];simp only[go_sem,aK,hb2,hb3,hb4];(refine bL (OT.r 0 6) [(2,[0])] ?_;simp only[go_sem,aK,hb2,hb3,hb4]);refine iL (d:=cH d o) (T:=T) (fin:=fin) (first:=first) (i:=i+1) (n:=n) gH g2 hT (aT hk (λx w2 m2 hk2 hlt2 hw2 hm2=>?_) (λf h=>dQ aS h));rw[bZ]at hk2;subst m2;simp only[go_sem,aK,hb2,hb3,hb4];have hk3:=hk2 (i+1+1) o aB hlt2 hw2 hn ⟨hQ.own,λa ha=>nM (hQ.len a ha) aB⟩;refine aP hk3 ?_;refine kF (l:=cG d o) ?_;simp only[cH];exact aX
 simp only[go_sem,aK,hb2,hb3,hb4];refine nR (d:=cH d o) (T:=T) (fin:=fin) (first:=first) (i:=i) (n:=n) _ gH hi ?_;rw[wAT];cases c2:eH t [119,97,116,99,104];rotate_left
 ·
  rw[mX,if_neg (by simp[c1]),if_pos c2]at hk;simp only[go_sem,aK,hb2,hb3,hb4];refine aFJ hT b2 _ (d:=cH d o) (T:=T) (fin:=fin) (first:=first) (i:=i) (n:=n) gH gH g2 ?_;cases cs:decide (d.watch=[])
  .rw[if_neg (by simpa using cs),eJ]at hk;rw[hw];exact dQ aS hk
  rw[if_pos (by simpa using cs),bR,<-g3]at hk;simp only[eV];simp only[go_sem,aK,hb2,hb3,hb4];(refine bL (OT.r 0 6) [(2,[0])] ?_;simp only[go_sem,aK,hb2,hb3,hb4]);refine iL (d:=cH d o) (T:=T) (fin:=fin) (first:=first) (i:=i+1) (n:=n) gH g2 hT (aT hk (λx w2 m2 hk2 hlt2 hw2 hm2=>?_) (λf h=>dQ aS h));rw[bZ]at hk2;subst m2;simp only[go_sem,aK,hb2,hb3,hb4];have hk3:=hk2 (i+1+1) o aB hlt2 hw2 hn ⟨hQ.own,λa ha=>nM (hQ.len a ha) aB⟩;refine aP hk3 ?_;refine kF (l:=cG d o) ?_;simp only[cH];exact aX
 simp only[go_sem,aK,hb2,hb3,hb4];refine nR (d:=cH d o) (T:=T) (fin:=fin) (first:=first) (i:=i) (n:=n) _ gH hi ?_;rw[wAT];cases c3:eH t [99,101,108,108];rotate_left
 ·
  rw[mX,if_neg (by simp[c1]),if_neg (by simp[c2]),if_pos c3]at hk;simp only[go_sem,aK,hb2,hb3,hb4];(refine bL (OT.r 0 7) [] ?_;simp only[go_sem,aK,hb2,hb3,hb4,hgon]);refine mU (d:=cH d o) (T:=T) (fin:=fin) (first:=first) (i:=i) (n:=n) _ _ gH hi ?_;by_cases h12:12<=d.once.length
  .rw[if_pos h12,eJ]at hk;rw[if_pos (by(try simp only[aH]);omega),hw];exact dQ aS hk
  rw[if_neg h12,bR,<-g3]at hk;rw[if_neg (by(try simp only[aH]);omega)];simp only[go_sem,aK,hb2,hb3,hb4,cF i aB];(refine bL (OT.r 0 12) [(6,[0,1,4]),(8,[0])] ?_;simp only[go_sem,aK,hb2,hb3,hb4]);refine aCr (d:=cH d o) (T:=T) (fin:=fin) (first:=first) (i:=i+1) (n:=n) hT gH g2 hn (aT hk (λx w2 m2 hk2 j hj hjT hw2 hm2=>?_) (λf h=>dQ aS h));rw[bZ]at hk2;simp only[go_sem,aK,hb2,hb3,hb4];refine⟨by decide,λy hy=>by simp only[bW]at hy;subst hy;rfl,dY rfl rfl (by rw[aH];refine pE hown (k:=6) (o:=(o.on,d.once.length,68)) rfl ?_;exactλ_=>rfl) (λy hy=>?_) (by have:=hQ.len (o.on,d.once.length,68) (by simp[cG]);simp only[aH,aE,aF];simp only at this;omega) (λu hu=>?_)⟩
  .simp only[cC]at hy;obtain⟨q,_,rfl⟩:=hy;rfl
  have hown2:=pK hown (k:=6) (o:=(o.on,d.once.length,68)) rfl hu (λ_=>rfl) (d.once.length+1);simp only[go_sem,aK,hb2,hb3,hb4];have hk3:=hk2 j { o with on:=some u } aB hjT hw2 hm2 (ItQ.set (k:=6) hQ (by simp[cG]) hown2 aB (by have:=hQ.len (o.on,d.once.length,68) (by simp[cG]);simp only at this⊢;omega));refine aP hk3 (St.ge.trans (pH hown (k:=6) (o:=(o.on,d.once.length,68)) rfl hown2 (λ_=>rfl)) ?_);unfold lK;rw[show cG { d with once:=d.once++[x] } { o with on:=some u }=(cG d o).set 6 (some u,d.once.length+1,68)by simp[cG]];refine kF ?_;simp only[cH,dO,cV,bS,cY];exact aX
 simp only[go_sem,aK,hb2,hb3,hb4];refine nR (d:=cH d o) (T:=T) (fin:=fin) (first:=first) (i:=i) (n:=n) _ gH hi ?_;rw[wAT];cases c4:eH t [109,97,110,121];rotate_left
 ·
  rw[mX,if_neg (by simp[c1]),if_neg (by simp[c2]),if_neg (by simp[c3]),if_pos c4]at hk;simp only[go_sem,aK,hb2,hb3,hb4];refine aFJ hT b2 _ (d:=cH d o) (T:=T) (fin:=fin) (first:=first) (i:=i) (n:=n) gH gH g2 ?_;cases cs:decide (d.kind=[])
  .rw[if_neg (by simpa using cs),eJ]at hk;rw[hw];exact dQ aS hk
  rw[if_pos (by simpa using cs),bR,<-g3]at hk;simp only[eV];simp only[go_sem,aK,hb2,hb3,hb4];(refine bL (OT.r 0 6) [(2,[0])] ?_;simp only[go_sem,aK,hb2,hb3,hb4]);refine iL (d:=cH d o) (T:=T) (fin:=fin) (first:=first) (i:=i+1) (n:=n) gH g2 hT (aT hk (λx w2 m2 hk2 hlt2 hw2 hm2=>?_) (λf h=>dQ aS h));subst m2;rw[<-hw2,bR]at hk2;simp only[go_sem,aK,hb2,hb3,hb4];refine fN (d:=cH { d with kind:=x } o) (T:=T) (fin:=fin) (first:=first) (i:=i+1+1) (n:=n) _ gH hlt2 hT (aT hk2 (λ_ w3 m3 hk3 hlt3 hw3 hm3=>?_) (λf h=>dQ aS h));subst m3;rw[<-hw3,bR]at hk3;simp only[go_sem,aK,hb2,hb3,hb4];have hs0b2:(eL (((s.setO b2 (.cells 74 [.ptr r 0])).setO b3 (.cells 60 t.cs)).setO b4 (.cells 191 [.ptr r 6])) ((cG d o).set 7 (none,0,68))).getO b2=some (.cells 74 [.ptr r 0]):=by simp only[aK,aJ,hb4,hb3,if_false,if_true]
  have hs0b4:(eL (((s.setO b2 (.cells 74 [.ptr r 0])).setO b3 (.cells 60 t.cs)).setO b4 (.cells 191 [.ptr r 6])) ((cG d o).set 7 (none,0,68))).getO b4=some (.cells 191 [.ptr r 6]):=by simp only[aK,aJ,if_true]
  have hfr0:∀a,a∈(cG d o).set 7 (none,0,68)->∀u,a.1=some u->s.getT u=none:=λa ha u hu=>by
   rcases wG ha with ha|rfl
   .exact hfr a ha u hu
   .cases hu
  have hg0:(eL (((s.setO b2 (.cells 74 [.ptr r 0])).setO b3 (.cells 60 t.cs)).setO b4 (.cells 191 [.ptr r 6])) ((cG d o).set 7 (none,0,68))).gx s r:=by
   refine aGd hfr0 ?_;exact aS
  have hlm:d.many.length<=i:=by have:=hQ.len (o.ma,d.many.length,68) (by simp[cG]);exact this
  refine iA (s':=oR T fin (cH { d with kind:=x } o) first r (eL (((s.setO b2 (.cells 74 [.ptr r 0])).setO b3 (.cells 60 t.cs)).setO b4 (.cells 191 [.ptr r 6])) ((cG d o).set 7 (none,0,68))) d.many o.ma (i+1+1+1) n) ?_ (aEG (fin:=fin) (σ:=List Cel) (α:=Unit) (X:=Option Nat) (r:=r) (λ_=>.bool true) (λ_=>rfl) (λ_=>rfl) hT
   (λs' acc tk i n=>oR T fin (cH { d with kind:=x } o) first r s' acc tk i n) (λs' acc tk i=>GrQ b2 b4 r s' acc tk i) (λacc w n=>((lI fin 12 acc.length w n λw n=>oP false fin w n).bind λa w n=>.ok (acc++[a]) w n).bind λa w n=>.ok (a,()) w n) 227 [] [.ptr b2 0,.ptr b4 0]
   (λs' a x i n=>⟨_,first,by unfold oR;rw[aZ,aJ,if_pos rfl],by unfold oR;rw[xQ,mT];exact aM _⟩) (λs' a x i n t v h ht=>?_) (λs' a x i n t v u ht h=>?_) (λs' a x i n t v ht h=>⟨h.dropT,aH1 ht⟩)
   (λs' a x i h=>⟨by have:=h.len;omega,h.h1,h.h3,h.ne,h.nil,h.free⟩) (λs' a x i n h=>iB (eR (fJ _ _)) h.free)
   (λs' a x i n KV' Kp' h hi' hn' hk'=>aOT hT b2 b4 a x h hi' hn' ?_)
   d.many o.ma (i+1+1+1) n ?_ hlt3 hn ?_)
  .refine St.ge.trans (b:=eL ((((s.setO b2 (.cells 74 [.ptr r 0])).setO b3 (.cells 60 t.cs)).setO b4 (.cells 191 [.ptr r 6])).setO r (bC T fin (cH { d with kind:=x } o) first (i+1+1+1) n)) (cG d o)) (kF aX) ?_;unfold oR;rw[xF];exact aIv hown (k:=7) (o:=(o.ma,d.many.length,68)) rfl 0 68
  .have hx:=aJv h ht;exact⟨hx.2,h.setT hx.1,aF6 hx.1⟩
  .have hx:=h.unT;exact⟨by show(gs _ _ _ _).getT t=_;rw[iD,if_neg hx.1];show(s'.setT t v).getT t=_;rw[dE,if_pos rfl],h.dropT.setT hx.1,aI2 hx.1⟩
  .rw[bR,bR]at hk';exact aT hk' (λa w n h2 j y hj hjT hw hn hy=>h2 j y aB hjT hw hn hy) (λ_ h=>h)
  .refine⟨by omega,hs0b2,hs0b4,⟨hb2.1.2,hb4.2.2.1.2⟩,λe=>fK (hown.nil (o.ma,d.many.length,68) (by simp[cG]) e),λu hu=>(by refine aKF hown (k:=7) (o:=(o.ma,d.many.length,68)) rfl 0 68 ?_ hu;exactλ_=>rfl)⟩
  refine aT (aCc _ _ _ _ _ [] _ _ _ _ hk3) (λc w4 m4 hk4 j y hj hjT hw4 hm4 hy=>?_) (λf h s1 x hg hr1=>aN (h _ _ (hg.trans hg0) hr1));obtain⟨l,ul⟩:=c;simp only at hk4 hy⊢;subst hw4;rw[bR]at hk4;have hown2:OwnOk s ((cG d o).set 7 (y,l.length,68)):=by refine aJH hown (k:=7) (by simp[cG]) 0 68 68 ?_ hy.free (λe=>by rw[hy.nil e];rfl);exactλ_=>rfl
  unfold oR;simp only[go_sem,aK,hb2,hb3,hb4];refine iA (aJf (l:=cG d o) (k:=7) (by simp[cG]) hown2 0 68) ?_;have hfrW:=hown2.free;refine fN (d:=cH { d with kind:=x,many:=l } { o with ma:=y }) (T:=T) (fin:=fin) (first:=first) (i:=j) (n:=m4) _ gH hjT hT (aT hk4 (λ_ w5 m5 hk5 hlt5 hw5 hm5=>?_) (λf h=>dQ aS h));subst m5;rw[bZ]at hk5;simp only[go_sem,aK,hb2,hb3,hb4];have hk6:=hk5 (j+1) { o with ma:=y } aB hlt5 hw5 hm4 (ItQ.set (k:=7) (a:=(y,l.length,68)) hQ (by simp[cG]) hown2 aB (by have:=hy.len;simp only;omega));refine aP hk6 ?_;unfold lK;rw[show cG { d with kind:=x,many:=l } { o with ma:=y }=(cG d o).set 7 (y,l.length,68)by simp[cG]];refine kF ?_;simp only[cH];exact aX
 rw[mX,if_neg (by simp[c1]),if_neg (by simp[c2]),if_neg (by simp[c3]),if_neg (by simp[c4]),eJ]at hk;simp only[go_sem,aK,hb2,hb3,hb4];refine oH (d:=cH d o) (T:=T) (fin:=fin) (first:=first) (i:=i) (n:=n) 11 gH hi hT ?_;rw[hw];exact aN (hk _ (bC T fin (cH d o) first i n) aS gH)
end
end
section
theorem aIb(fin:Fault):∀(f:Nat) (acc:List aC) (w:List Tok) (n:Nat),
  (dD fin [44] (λacc w n=>(eN fin w n).bind λa w n=>.ok (acc++[a]) w n) f acc w n).to (λl w' _=>l.length+w'.length<=acc.length+w.length) (λ_=>True)
 | 0,acc,w,n=>trivial
 | f+1,acc,w,n=>by
  rw[dD,bR,bR];cases w with
  | nil=>trivial
  | cons t w =>
   simp only[eN];split
   .simp only[bZ];split
    .refine aT (aIb fin f _ w.tail n) (λl w' _ h=>?_) (λ_ h=>h);simp only[aG,aE,aF,List.length_tail]at h⊢;omega
    .simp only[bZ,aG,aE,aF];omega
   ·trivial
section
variable {T:List Tok} {fin:Fault} {d:Dfn} {o:DOwn} {first:Tok} {i n:Nat} {s:St} {r:Nat} {KV Kp:St->A->Prop}
theorem aQ2(hT:TOk T)(hi:i<=T.length)(hQ:ItQ s d o i)(hn:n<=2000)
  (hk : (gY false fin d (T.drop i) n).to (fun d' w n' => ∀ j o',i + 1 ≤ j → j ≤ T.length → T.drop j = w → n' ≤ 2000 → ItQ s d' o' j → KV (lK T fin first r s d' o' j n') (.tuple []))
   (λf=>∀s1 x,s1.gx s r->s1.getO r=some x->Kp s1 (.iface 36 f.enc))):Den cx 86 [.ptr r 0] KV Kp (lK T fin first r s d o i n):=by
 have hlenT:=hT.len;have hown:=hQ.own;have hfr:=hown.free;have L0:=hQ.len (o.so,d.sig.sorts.length,9) (by simp[cG]);have L1:=hQ.len (o.be,d.sig.below.length,104) (by simp[cG]);have L2:=hQ.len (o.op,d.sig.ops.length,73) (by simp[cG]);have L3:=hQ.len (o.fu,d.sig.funs.length,73) (by simp[cG]);have L4:=hQ.len (o.va,d.sig.values.length,9) (by simp[cG]);have L5:=hQ.len (o.eq,d.eqs.length,80) (by simp[cG]);have L8:=hQ.len (o.ru,d.rules.length,84) (by simp[cG]);simp only at L0 L1 L2 L3 L4 L5 L8;have G1:mK (gv o.be (d.sig.below.map Below.enc))=some (.int .i64 (d.sig.below.map Below.enc).length):=pF (by rw[aH];exact xS hown (k:=1) rfl);have G2:mK (gv o.op (d.sig.ops.map Opr.enc))=some (.int .i64 (d.sig.ops.map Opr.enc).length):=pF (by rw[aH];exact xS hown (k:=2) rfl);have G3:mK (gv o.fu (d.sig.funs.map Opr.enc))=some (.int .i64 (d.sig.funs.map Opr.enc).length):=pF (by rw[aH];exact xS hown (k:=3) rfl);have G5:mK (gv o.eq (d.eqs.map Eqn.enc))=some (.int .i64 (d.eqs.map Eqn.enc).length):=pF (by rw[aH];exact xS hown (k:=5) rfl);have G8:mK (gv o.ru (d.rules.map Rul.enc))=some (.int .i64 (d.rules.map Rul.enc).length):=pF (by rw[aH];exact xS hown (k:=8) rfl);(refine aO func86 [0,1,2,3,4,5,14,20,59,76,107,134,177] ?_;simp only[go_sem,ntmps86,f86]);unfold lK;(intro b1 hb1;try simp only[aK,aZ,aI,ne_eq]at hb1);simp only[go_sem,aK,hb1];refine kE (d:=cH d o) (T:=T) (fin:=fin) (first:=first) (i:=i) (n:=n) gH hi ?_;cases hw:T.drop i with
 | nil=>rw[hw]at hk;exact aN (hk _ (bC T fin (cH d o) first i n) aS gH)
 | cons t w =>
  obtain⟨g1,g2,g3,g4⟩:=lQ hw;have wAT:∀x:aC,isT x (T.drop i)=eH t x:=λx=>by rw[hw];rfl
  rw[hw]at hk;simp only[gY,bR]at hk;simp only[go_sem,aK,hb1];(intro b2 hb2;try simp only[aK,aZ,aI,ne_eq]at hb2);simp only[go_sem,aK,hb1,hb2];(intro b3 hb3;try simp only[aK,aZ,aI,ne_eq]at hb3);simp only[go_sem,aK,hb1,hb2,hb3];refine jO (d:=cH d o) (T:=T) (fin:=fin) (first:=first) (i:=i) (n:=n) _ gH hi hT ?_;rw[wAT];cases c1:eH t [115,111,114,116];rotate_left
  .rw[if_pos c1,bR,<-g3]at hk;simp only;simp only[go_sem,aK,hb1,hb2,hb3];have hs0b1:(eL (((s.setO b1 (.cells 74 [.ptr r 0])).setO b2 (.cells 60 t.cs)).setO b3 (.cells 191 [.ptr r 6])) ((cG d o).set 0 (none,0,9))).getO b1=some (.cells 74 [.ptr r 0]):=by simp only[aK,aJ,hb3,hb2,if_false,if_true]
   have hs0b3:(eL (((s.setO b1 (.cells 74 [.ptr r 0])).setO b2 (.cells 60 t.cs)).setO b3 (.cells 191 [.ptr r 6])) ((cG d o).set 0 (none,0,9))).getO b3=some (.cells 191 [.ptr r 6]):=by simp only[aK,aJ,if_true]
   have hfr0:∀a,a∈(cG d o).set 0 (none,0,9)->∀u,a.1=some u->s.getT u=none:=λa ha u hu=>by
    rcases wG ha with ha|rfl
    .exact hfr a ha u hu
    .cases hu
   have hg0:(eL (((s.setO b1 (.cells 74 [.ptr r 0])).setO b2 (.cells 60 t.cs)).setO b3 (.cells 191 [.ptr r 6])) ((cG d o).set 0 (none,0,9))).gx s r:=by
    refine aGd hfr0 ?_;exact aS
   refine iA (s':=oS T fin (cH d o) first r (eL (((s.setO b1 (.cells 74 [.ptr r 0])).setO b2 (.cells 60 t.cs)).setO b3 (.cells 191 [.ptr r 6])) ((cG d o).set 0 (none,0,9))) d.sig.sorts o.so (i+1) n) ?_ (aEG (fin:=fin) (σ:=List aC) (α:=Unit) (X:=Option Nat) (r:=r) (λ_=>.bool true) (λ_=>rfl) (λ_=>rfl) hT
    (λs' acc tk i n=>oS T fin (cH d o) first r s' acc tk i n) (λs' acc tk i=>GrQ b1 b3 r s' acc tk i) (λacc w n=>((lI fin 40 acc.length w n λw n=>eN fin w n).bind λa w n=>.ok (acc++[a]) w n).bind λa w n=>.ok (a,()) w n) 147 [] [.ptr b1 0,.ptr b3 0]
    (λs' a x i n=>⟨_,first,by unfold oS;rw[aZ,aJ,if_pos rfl],by unfold oS;rw[xQ,mT];exact aM _⟩) (λs' a x i n t v h ht=>?_) (λs' a x i n t v u ht h=>?_) (λs' a x i n t v ht h=>⟨h.dropT,aH1 ht⟩)
    (λs' a x i h=>⟨by have:=h.len;omega,h.h1,h.h3,h.ne,h.nil,h.free⟩) (λs' a x i n h=>iB (eR (fJ _ _)) h.free)
    (λs' a x i n KV' Kp' h hi' hn' hk'=>aO1 hT b1 b3 a x h hi' hn' ?_)
    d.sig.sorts o.so (i+1) n ?_ g2 hn ?_)
   .refine St.ge.trans (b:=eL ((((s.setO b1 (.cells 74 [.ptr r 0])).setO b2 (.cells 60 t.cs)).setO b3 (.cells 191 [.ptr r 6])).setO r (bC T fin (cH d o) first (i+1) n)) (cG d o)) (kF aX) ?_;unfold oS;rw[xF];exact aIv hown (k:=0) (o:=(o.so,d.sig.sorts.length,9)) rfl 0 9
   .have hx:=aJv h ht;exact⟨hx.2,h.setT hx.1,aF6 hx.1⟩
   .have hx:=h.unT;exact⟨by show(gs _ _ _ _).getT t=_;rw[iD,if_neg hx.1];show(s'.setT t v).getT t=_;rw[dE,if_pos rfl],h.dropT.setT hx.1,aI2 hx.1⟩
   .rw[bR,bR]at hk';exact aT hk' (λa w n h2 j y hj hjT hw hn hy=>h2 j y aB hjT hw hn hy) (λ_ h=>h)
   .refine⟨by omega,hs0b1,hs0b3,⟨hb1.1.2,hb3.2.2.1.2⟩,λe=>fK (hown.nil (o.so,d.sig.sorts.length,9) (by simp[cG]) e),λu hu=>(by refine aKF hown (k:=0) (o:=(o.so,d.sig.sorts.length,9)) rfl 0 9 ?_ hu;exactλ_=>rfl)⟩
   refine aT (aCc _ _ _ _ _ [] _ _ _ _ hk) (λc w4 m4 hk4 j y hj hjT hw4 hm4 hy=>?_) (λf h s1 x hg hr1=>aN (h _ _ (hg.trans hg0) hr1));obtain⟨l,ul⟩:=c;simp only at hk4 hy⊢;subst hw4;rw[bZ]at hk4;have hown2:OwnOk s ((cG d o).set 0 (y,l.length,9)):=by refine aJH hown (k:=0) (by simp[cG]) 0 9 9 ?_ hy.free (λe=>by rw[hy.nil e];rfl);exactλ_=>rfl
   unfold oS;simp only[go_sem,aK,hb1,hb2,hb3];refine iA (aJf (l:=cG d o) (k:=0) (by simp[cG]) hown2 0 9) ?_;have hfrW:=hown2.free;refine fN (d:=cH { d with sig:={ d.sig with sorts:=l } } { o with so:=y }) (T:=T) (fin:=fin) (first:=first) (i:=j) (n:=m4) _ gH hjT hT (aT hk4 (λ_ w9 m9 hk9 hlt9 hw9 hm9=>?_) (λf h=>dQ aS h));subst m9;rw[bZ]at hk9;simp only[go_sem,aK,hb1,hb2,hb3];have hk10:=hk9 (j+1) { o with so:=y } aB hlt9 hw9 hm4 (ItQ.set (k:=0) (a:=(y,l.length,9)) hQ (by simp[cG]) hown2 aB (by have:=hy.len;simp only;omega));refine aP hk10 ?_;unfold lK;rw[show cG { d with sig:={ d.sig with sorts:=l } } { o with so:=y }=(cG d o).set 0 (y,l.length,9)by simp[cG]];refine kF ?_;simp only[cH,dO,cV,bS,cY];exact aX
  rw[if_neg (by simp[c1])]at hk;simp only;simp only[go_sem,aK,hb1,hb2,hb3];refine nR (d:=cH d o) (T:=T) (fin:=fin) (first:=first) (i:=i) (n:=n) _ gH hi ?_;rw[wAT];simp only[go_sem,aK,hb1,hb2,hb3];cases c2:eH t [115,117,98,115,111,114,116];rotate_left
  .rw[if_pos c2,zJ,eJ]at hk;simp only[go_sem,aK,hb1,hb2,hb3];(refine bL (OT.r 0 8) [] ?_;simp only[go_sem,aK,hb1,hb2,hb3,G1]);refine mU (d:=cH d o) (T:=T) (fin:=fin) (first:=first) (i:=i) (n:=n) _ _ gH hi ?_;by_cases hm:200<=d.sig.below.length
   .rw[if_pos hm]at hk;rw[if_pos (by(try simp only[aH]);omega),hw];exact dQ aS hk
   rw[if_neg hm,bR,<-g3]at hk;rw[if_neg (by(try simp only[aH]);omega)];simp only[go_sem,aK,hb1,hb2,hb3,cF i aB];refine iL (d:=cH d o) (T:=T) (fin:=fin) (first:=first) (i:=i+1) (n:=n) gH g2 hT (aT hk (λx w2 m2 hk2 hlt2 hw2 hm2=>?_) (λf h=>dQ aS h));subst m2;rw[<-hw2,bR]at hk2;simp only[go_sem,aK,hb1,hb2,hb3];(intro b4 hb4;try simp only[aK,aZ,aI,ne_eq]at hb4);simp only[go_sem,aK,hb1,hb2,hb3,hb4];refine fN (d:=cH d o) (T:=T) (fin:=fin) (first:=first) (i:=i+1+1) (n:=n) _ gH hlt2 hT (aT hk2 (λ_ w3 m3 hk3 hlt3 hw3 hm3=>?_) (λf h=>dQ aS h));subst m3;rw[<-hw3,bR]at hk3;simp only[go_sem,aK,hb1,hb2,hb3,hb4];refine iL (d:=cH d o) (T:=T) (fin:=fin) (first:=first) (i:=i+1+1+1) (n:=n) gH hlt3 hT (aT hk3 (λy w4 m4 hk4 hlt4 hw4 hm4=>?_) (λf h=>dQ aS h));subst m4;rw[<-hw4,bZ]at hk4;simp only[go_sem,aK,hb1,hb2,hb3,hb4];(refine bL (OT.r 0 13) [(8,[0])] ?_;simp only[go_sem,aK,hb1,hb2,hb3,hb4])
   (try simp only[go_sem,aK,hb1,hb2,hb3,hb4])
   refine⟨by decide,λy hy=>by simp only[bW]at hy;subst hy;rfl,dY rfl rfl (by rw[aH];refine pE hown (k:=1) (o:=(o.be,d.sig.below.length,104)) rfl ?_;exactλ_=>rfl) (λy hy=>?_) (by simp only[aH,aE,aF];omega) (λu hu=>?_)⟩
   .simp only[cC]at hy;obtain⟨q,_,rfl⟩:=hy;rfl
   have hown2:=pK hown (k:=1) (o:=(o.be,d.sig.below.length,104)) rfl hu (λ_=>rfl) (d.sig.below.length+1);simp only[go_sem,aK,hb1,hb2,hb3,hb4];refine iA (pH hown (k:=1) (o:=(o.be,d.sig.below.length,104)) rfl hown2 (λ_=>rfl)) ?_;have hfrW:=hown2.free;refine fN (d:={ cH d o with below:=.list (some u) (d.sig.below.map Below.enc++[Below.enc ⟨x,y⟩]) }) (T:=T) (fin:=fin) (first:=first) (i:=i+1+1+1+1) (n:=n) _ gH hlt4 hT (aT hk4 (λ_ w9 m9 hk9 hlt9 hw9 hm9=>?_) (λf h=>dQ aS h));subst m9;rw[bZ]at hk9;simp only[go_sem,aK,hb1,hb2,hb3,hb4];have hk10:=hk9 (i+1+1+1+1+1) { o with be:=some u } aB hlt9 hw9 hn (ItQ.set (k:=1) (a:=(some u,d.sig.below.length+1,104)) hQ (by simp[cG]) hown2 aB (by simp only;omega));refine aP hk10 ?_;unfold lK;rw[show cG { d with sig:={ d.sig with below:=d.sig.below++[⟨x,y⟩] } } { o with be:=some u }=(cG d o).set 1 (some u,d.sig.below.length+1,104)by simp[cG]];refine kF ?_;simp only[cH,dO,cV,bS,cY];exact aX
  rw[if_neg (by simp[c2])]at hk;simp only[go_sem,aK,hb1,hb2,hb3];refine jO (d:=cH d o) (T:=T) (fin:=fin) (first:=first) (i:=i) (n:=n) _ gH hi hT ?_;rw[wAT];cases c3:eH t [118,97,108,117,101];rotate_left
  .rw[if_pos c3,bR,<-g3]at hk;simp only;simp only[go_sem,aK,hb1,hb2,hb3];(refine bL (OT.r 0 15) [(9,[0,1,5]),(10,[0])] ?_;simp only[go_sem,aK,hb1,hb2,hb3])
   refine iA (sA gH) (aMW (fin:=fin) (d:=cH d o) (fi:=first) (λx:aC=>A.str x) (λ_=>rfl) (λ_=>rfl) hT (λ_=>True) (λ_ _ _=>Iff.rfl) (eN fin) 85 [.ptr r 0] []
    (aDk (λ_ _ h=>h) (λs' i' n' KV' Kp' hr' _ hi' hn' hk'=>iL hr' hi' hT (aT hk' (λ_ _ _ h h1 h2 h3=>by subst h3;exact h (i'+1) aB h1 h2 hn') (λ_ h=>h)))) (i+1) n trivial g2 hn ?_)
   refine aT (aE8 hk (aIb _ _ _ _ _)) (λl w3 m3 hk3 j3 hj3 hjT3 hw3 hm3=>?_) (λf h s1 o hg hr1=>aN (h _ o (hg.trans aS) hr1));obtain⟨hl,hk3⟩:=hk3;subst hw3;simp only[aF,dR]at hl;rw[bZ]at hk3;simp only[go_sem,aK,hb1,hb2,hb3];refine⟨by decide,λy hy=>by simp only[cC]at hy;obtain⟨q,_,rfl⟩:=hy;rfl,dY rfl rfl (by rw[aH];refine pE hown (k:=4) (o:=(o.va,d.sig.values.length,9)) rfl ?_;exactλ_=>rfl) (λy hy=>?_) (by simp only[aH];omega) (λu hu=>?_)⟩
   .simp only[cC]at hy;obtain⟨q,_,rfl⟩:=hy;rfl
   have hown2:=pK hown (k:=4) (o:=(o.va,d.sig.values.length,9)) rfl hu (λ_=>rfl) (d.sig.values.length+l.length);simp only[go_sem,aK,hb1,hb2,hb3,aH];refine iA (pH hown (k:=4) (o:=(o.va,d.sig.values.length,9)) rfl hown2 (λ_=>rfl)) ?_;have hfrW:=hown2.free;refine fN (d:={ cH d o with values:=.list (some u) (d.sig.values.map A.str++l.map A.str) }) (T:=T) (fin:=fin) (first:=first) (i:=j3) (n:=m3) _ gH hjT3 hT (aT hk3 (λ_ w9 m9 hk9 hlt9 hw9 hm9=>?_) (λf h=>dQ aS h));subst m9;rw[bZ]at hk9;simp only[go_sem,aK,hb1,hb2,hb3];have hk10:=hk9 (j3+1) { o with va:=some u } aB hlt9 hw9 hm3 (ItQ.set (k:=4) (a:=(some u,d.sig.values.length+l.length,9)) hQ (by simp[cG]) hown2 aB (by simp only;omega));refine aP hk10 ?_;unfold lK;rw[show cG { d with sig:={ d.sig with values:=d.sig.values++l } } { o with va:=some u }=(cG d o).set 4 (some u,d.sig.values.length+l.length,9)by simp[cG]];refine kF ?_;simp only[cH,dO,cV,bS,cY];exact aX
  rw[if_neg (by simp[c3])]at hk;simp only;simp only[go_sem,aK,hb1,hb2,hb3];refine nR (d:=cH d o) (T:=T) (fin:=fin) (first:=first) (i:=i) (n:=n) _ gH hi ?_;rw[wAT];simp only[go_sem,aK,hb1,hb2,hb3];cases c4:eH t [111,112];rotate_left
  .rw[if_pos (.inl c4),zJ,eJ]at hk;simp only[go_sem,aK,hb1,hb2,hb3,c4];have ht4:t.text=[111,112]:=by have:=c4;simp[eH]at this;exact this.2
   have d4:decide (t.text=[111,112])=true:=by rw[ht4];rfl
   (refine bL (OT.r 0 15) [] ?_;simp only[go_sem,aK,hb1,hb2,hb3,G2,G3,iU ((d.sig.ops.length:Int)+(d.sig.funs.length:Int)) aB aB]);refine mU (d:=cH d o) (T:=T) (fin:=fin) (first:=first) (i:=i) (n:=n) _ _ gH hi ?_;by_cases hm:200<=d.sig.ops.length+d.sig.funs.length
   .rw[if_pos hm]at hk;rw[if_pos (by(try simp only[aH]);omega),hw];exact dQ aS hk
   rw[if_neg hm,if_pos ht4,bR,<-g3]at hk;rw[if_neg (by(try simp only[aH]);omega)];simp only[go_sem,aK,hb1,hb2,hb3,cF i aB,d4];(refine bL (OT.r 0 14) [(7,[0,1,5]),(9,[0])] ?_;simp only[go_sem,aK,hb1,hb2,hb3]);refine aSE (d:=cH d o) (T:=T) (fin:=fin) (first:=first) (i:=i+1) (n:=n) hT gH g2 hn (aT hk (λx w2 m2 hk2 j hj hjT hw2 hm2=>?_) (λf h=>dQ aS h));subst hw2;rw[bZ]at hk2;simp only[go_sem,aK,hb1,hb2,hb3];refine⟨by decide,λy hy=>by simp only[bW]at hy;subst hy;rfl,dY rfl rfl (by rw[aH];refine pE hown (k:=2) (o:=(o.op,d.sig.ops.length,73)) rfl ?_;exactλ_=>rfl) (λy hy=>?_) (by simp only[aH,aE,aF];omega) (λu hu=>?_)⟩
   .simp only[cC]at hy;obtain⟨q,_,rfl⟩:=hy;rfl
   have hown2:=pK hown (k:=2) (o:=(o.op,d.sig.ops.length,73)) rfl hu (λ_=>rfl) (d.sig.ops.length+1);simp only[go_sem,aK,hb1,hb2,hb3];refine iA (pH hown (k:=2) (o:=(o.op,d.sig.ops.length,73)) rfl hown2 (λ_=>rfl)) ?_;have hfrW:=hown2.free;refine fN (d:={ cH d o with ops:=.list (some u) (d.sig.ops.map Opr.enc++[Opr.enc x]) }) (T:=T) (fin:=fin) (first:=first) (i:=j) (n:=m2) _ gH hjT hT (aT hk2 (λ_ w9 m9 hk9 hlt9 hw9 hm9=>?_) (λf h=>dQ aS h));subst m9;rw[bZ]at hk9;simp only[go_sem,aK,hb1,hb2,hb3];have hk10:=hk9 (j+1) { o with op:=some u } aB hlt9 hw9 hm2 (ItQ.set (k:=2) (a:=(some u,d.sig.ops.length+1,73)) hQ (by simp[cG]) hown2 aB (by simp only;omega));refine aP hk10 ?_;unfold lK;rw[show cG { d with sig:={ d.sig with ops:=d.sig.ops++[x] } } { o with op:=some u }=(cG d o).set 2 (some u,d.sig.ops.length+1,73)by simp[cG]];refine kF ?_;simp only[cH,dO,cV,bS,cY];exact aX
  simp only[go_sem,aK,hb1,hb2,hb3,c4];refine nR (d:=cH d o) (T:=T) (fin:=fin) (first:=first) (i:=i) (n:=n) _ gH hi ?_;rw[wAT];simp only[go_sem,aK,hb1,hb2,hb3];cases c5:eH t [102,117,110];rotate_left
  .rw[if_pos (.inr c5),zJ,eJ]at hk;simp only[go_sem,aK,hb1,hb2,hb3,c5];have ht4:¬ t.text=[111,112]:=by have:=c5;simp[eH]at this;rw[this.2];decide
   have d4:decide (t.text=[111,112])=false:=by simpa using ht4
   (refine bL (OT.r 0 15) [] ?_;simp only[go_sem,aK,hb1,hb2,hb3,G2,G3,iU ((d.sig.ops.length:Int)+(d.sig.funs.length:Int)) aB aB]);refine mU (d:=cH d o) (T:=T) (fin:=fin) (first:=first) (i:=i) (n:=n) _ _ gH hi ?_;by_cases hm:200<=d.sig.ops.length+d.sig.funs.length
   .rw[if_pos hm]at hk;rw[if_pos (by(try simp only[aH]);omega),hw];exact dQ aS hk
   rw[if_neg hm,if_neg ht4,bR,<-g3]at hk;rw[if_neg (by(try simp only[aH]);omega)];simp only[go_sem,aK,hb1,hb2,hb3,cF i aB,d4];(refine bL (OT.r 0 14) [(7,[0,1,5]),(9,[0])] ?_;simp only[go_sem,aK,hb1,hb2,hb3]);refine aRS (d:=cH d o) (T:=T) (fin:=fin) (first:=first) (i:=i+1) (n:=n) hT gH g2 hn (aT hk (λx w2 m2 hk2 j hj hjT hw2 hm2=>?_) (λf h=>dQ aS h));subst hw2;rw[bZ]at hk2;simp only[go_sem,aK,hb1,hb2,hb3];refine⟨by decide,λy hy=>by simp only[bW]at hy;subst hy;rfl,dY rfl rfl (by rw[aH];refine pE hown (k:=3) (o:=(o.fu,d.sig.funs.length,73)) rfl ?_;exactλ_=>rfl) (λy hy=>?_) (by simp only[aH,aE,aF];omega) (λu hu=>?_)⟩
   .simp only[cC]at hy;obtain⟨q,_,rfl⟩:=hy;rfl
   have hown2:=pK hown (k:=3) (o:=(o.fu,d.sig.funs.length,73)) rfl hu (λ_=>rfl) (d.sig.funs.length+1);simp only[go_sem,aK,hb1,hb2,hb3];refine iA (pH hown (k:=3) (o:=(o.fu,d.sig.funs.length,73)) rfl hown2 (λ_=>rfl)) ?_;have hfrW:=hown2.free;refine fN (d:={ cH d o with funs:=.list (some u) (d.sig.funs.map Opr.enc++[Opr.enc x]) }) (T:=T) (fin:=fin) (first:=first) (i:=j) (n:=m2) _ gH hjT hT (aT hk2 (λ_ w9 m9 hk9 hlt9 hw9 hm9=>?_) (λf h=>dQ aS h));subst m9;rw[bZ]at hk9;simp only[go_sem,aK,hb1,hb2,hb3];have hk10:=hk9 (j+1) { o with fu:=some u } aB hlt9 hw9 hm2 (ItQ.set (k:=3) (a:=(some u,d.sig.funs.length+1,73)) hQ (by simp[cG]) hown2 aB (by simp only;omega));refine aP hk10 ?_;unfold lK;rw[show cG { d with sig:={ d.sig with funs:=d.sig.funs++[x] } } { o with fu:=some u }=(cG d o).set 3 (some u,d.sig.funs.length+1,73)by simp[cG]];refine kF ?_;simp only[cH,dO,cV,bS,cY];exact aX
  rw[if_neg (by simp[c4,c5])]at hk;simp only[go_sem,aK,hb1,hb2,hb3,c5];refine nR (d:=cH d o) (T:=T) (fin:=fin) (first:=first) (i:=i) (n:=n) _ gH hi ?_;rw[wAT];simp only[go_sem,aK,hb1,hb2,hb3];cases c6:eH t [108,101,116];rotate_left
  .rw[if_pos c6,zJ,eJ]at hk;simp only[go_sem,aK,hb1,hb2,hb3,c6];(refine bL (OT.r 0 7) [] ?_;simp only[go_sem,aK,hb1,hb2,hb3,G5]);refine mU (d:=cH d o) (T:=T) (fin:=fin) (first:=first) (i:=i) (n:=n) _ _ gH hi ?_;by_cases hm:300<=d.eqs.length
   .rw[if_pos hm]at hk;rw[if_pos (by(try simp only[aH]);omega),hw];exact dQ aS hk
   rw[if_neg hm,bR,<-g3]at hk;rw[if_neg (by(try simp only[aH]);omega)];simp only[go_sem,aK,hb1,hb2,hb3,cF i aB];(refine bL (OT.l [0,2,3,4,5,1,6,7,8] .nil) [(1,[3,5]),(7,[0,3,5])] ?_;simp only[go_sem,aK,hb1,hb2,hb3]);refine sB (d:=cH d o) (T:=T) (fin:=fin) (first:=first) (i:=i+1) (n:=n) hT gH g2 hn (aT hk (λx w2 m2 hk2 j2 hj2 hjT2 hw2 hm2=>?_) (λf h=>dQ aS h));subst hw2;rw[bR]at hk2;simp only[go_sem,aK,hb1,hb2,hb3,dH];(intro b5 hb5;try simp only[aK,aZ,aI,ne_eq]at hb5);simp only[go_sem,aK,hb1,hb2,hb3,hb5];refine fN (d:=cH d o) (T:=T) (fin:=fin) (first:=first) (i:=j2) (n:=m2) _ gH hjT2 hT (aT hk2 (λ_ w3 m3 hk3 hlt3 hw3 hm3=>?_) (λf h=>dQ aS h));subst m3;rw[<-hw3,bR]at hk3;simp only[go_sem,aK,hb1,hb2,hb3,hb5];refine sB (d:=cH d o) (T:=T) (fin:=fin) (first:=first) (i:=j2+1) (n:=m2) hT gH hlt3 hm2 (aT hk3 (λy w4 m4 hk4 j4 hj4 hjT4 hw4 hm4=>?_) (λf h=>dQ aS h));subst hw4;rw[bR]at hk4;simp only[go_sem,aK,hb1,hb2,hb3,hb5,dH];refine aIP (d:=cH d o) (T:=T) (fin:=fin) (first:=first) (i:=j4) (n:=m4) hT gH hjT4 hm4 (aT hk4 (λz w5 m5 hk5 j5 hj5 hjT5 hw5 hm5=>?_) (λf h=>dQ aS h));subst hw5;rw[bZ]at hk5;simp only[go_sem,aK,hb1,hb2,hb3,hb5];(refine bL (OT.r 0 11) [(7,[0])] ?_;simp only[go_sem,aK,hb1,hb2,hb3,hb5])
   (try simp only[go_sem,aK,hb1,hb2,hb3,hb5])
   refine⟨by decide,λy hy=>by simp only[bW]at hy;subst hy;rfl,dY rfl rfl (by rw[aH];refine pE hown (k:=5) (o:=(o.eq,d.eqs.length,80)) rfl ?_;exactλ_=>rfl) (λy hy=>?_) (by simp only[aH,aE,aF];omega) (λu hu=>?_)⟩
   .simp only[cC]at hy;obtain⟨q,_,rfl⟩:=hy;rfl
   have hown2:=pK hown (k:=5) (o:=(o.eq,d.eqs.length,80)) rfl hu (λ_=>rfl) (d.eqs.length+1);simp only[go_sem,aK,hb1,hb2,hb3,hb5];refine iA (pH hown (k:=5) (o:=(o.eq,d.eqs.length,80)) rfl hown2 (λ_=>rfl)) ?_;have hfrW:=hown2.free;refine fN (d:={ cH d o with eqs:=.list (some u) (d.eqs.map Eqn.enc++[Eqn.enc ⟨x,y,z,t.line,t.col⟩]) }) (T:=T) (fin:=fin) (first:=first) (i:=j5) (n:=m5) _ gH hjT5 hT (aT hk5 (λ_ w9 m9 hk9 hlt9 hw9 hm9=>?_) (λf h=>dQ aS h));subst m9;rw[bZ]at hk9;simp only[go_sem,aK,hb1,hb2,hb3,hb5];have hk10:=hk9 (j5+1) { o with eq:=some u } aB hlt9 hw9 hm5 (ItQ.set (k:=5) (a:=(some u,d.eqs.length+1,80)) hQ (by simp[cG]) hown2 aB (by simp only;omega));refine aP hk10 ?_;unfold lK;rw[show cG { d with eqs:=d.eqs++[⟨x,y,z,t.line,t.col⟩] } { o with eq:=some u }=(cG d o).set 5 (some u,d.eqs.length+1,80)by simp[cG]];refine kF ?_;simp only[cH,dO,cV,bS,cY];exact aX
  rw[if_neg (by simp[c6])]at hk;simp only[go_sem,aK,hb1,hb2,hb3,c6];refine nR (d:=cH d o) (T:=T) (fin:=fin) (first:=first) (i:=i) (n:=n) _ gH hi ?_;rw[wAT];simp only[go_sem,aK,hb1,hb2,hb3];cases c7:eH t [114,117,108,101];rotate_left
  .rw[if_pos c7,zJ,eJ]at hk;simp only[go_sem,aK,hb1,hb2,hb3,c7];(refine bL (OT.r 0 7) [] ?_;simp only[go_sem,aK,hb1,hb2,hb3,G8]);refine mU (d:=cH d o) (T:=T) (fin:=fin) (first:=first) (i:=i) (n:=n) _ _ gH hi ?_;by_cases hm:300<=d.rules.length
   .rw[if_pos hm]at hk;rw[if_pos (by(try simp only[aH]);omega),hw];exact dQ aS hk
   rw[if_neg hm,bR,<-g3]at hk;rw[if_neg (by(try simp only[aH]);omega)];simp only[go_sem,aK,hb1,hb2,hb3,cF i aB];(refine bL (OT.r 0 13) [(7,[0,1,4]),(9,[0])] ?_;simp only[go_sem,aK,hb1,hb2,hb3]);refine aQ9 (d:=cH d o) (T:=T) (fin:=fin) (first:=first) (i:=i+1) (n:=n) hT t gH g2 hn (aT hk (λx w2 m2 hk2 j hj hjT hw2 hm2=>?_) (λf h=>dQ aS h));subst hw2;rw[bZ]at hk2;simp only[go_sem,aK,hb1,hb2,hb3];refine⟨by decide,λy hy=>by simp only[bW]at hy;subst hy;rfl,dY rfl rfl (by rw[aH];refine pE hown (k:=8) (o:=(o.ru,d.rules.length,84)) rfl ?_;exactλ_=>rfl) (λy hy=>?_) (by simp only[aH,aE,aF];omega) (λu hu=>?_)⟩
   .simp only[cC]at hy;obtain⟨q,_,rfl⟩:=hy;rfl
   have hown2:=pK hown (k:=8) (o:=(o.ru,d.rules.length,84)) rfl hu (λ_=>rfl) (d.rules.length+1);simp only[go_sem,aK,hb1,hb2,hb3];refine iA (pH hown (k:=8) (o:=(o.ru,d.rules.length,84)) rfl hown2 (λ_=>rfl)) ?_;have hfrW:=hown2.free;refine fN (d:={ cH d o with rules:=.list (some u) (d.rules.map Rul.enc++[Rul.enc x]) }) (T:=T) (fin:=fin) (first:=first) (i:=j) (n:=m2) _ gH hjT hT (aT hk2 (λ_ w9 m9 hk9 hlt9 hw9 hm9=>?_) (λf h=>dQ aS h));subst m9;rw[bZ]at hk9;simp only[go_sem,aK,hb1,hb2,hb3];have hk10:=hk9 (j+1) { o with ru:=some u } aB hlt9 hw9 hm2 (ItQ.set (k:=8) (a:=(some u,d.rules.length+1,84)) hQ (by simp[cG]) hown2 aB (by simp only;omega));refine aP hk10 ?_;unfold lK;rw[show cG { d with rules:=d.rules++[x] } { o with ru:=some u }=(cG d o).set 8 (some u,d.rules.length+1,84)by simp[cG]];refine kF ?_;simp only[cH,dO,cV,bS,cY];exact aX
  rw[if_neg (by simp[c7])]at hk;simp only[go_sem,aK,hb1,hb2,hb3,c7];refine iA (s':=lK T fin first r (((s.setO b1 (.cells 74 [.ptr r 0])).setO b2 (.cells 60 t.cs)).setO b3 (.cells 191 [.ptr r 6])) d o i n) (kF aX) (aPc hT t w hw ⟨hown.to (λ_=>rfl),hQ.len⟩ hn (aT hk (λd2 w2 m2 hk2 j o2 hj hjT hw2 hm2 hQ2=>?_) (λf h s1 x hg hr1=>aN (h s1 x (hg.trans aS) hr1))));subst hw2;have hown2:OwnOk s (cG d2 o2):=hQ2.own.to (λ_=>rfl);unfold lK;simp only[go_sem,aK,hb1,hb2,hb3];have hfrW:=hown2.free;refine fN (d:=cH d2 o2) (T:=T) (fin:=fin) (first:=first) (i:=j) (n:=m2) _ gH hjT hT (aT hk2 (λ_ w9 m9 hk9 hlt9 hw9 hm9=>?_) (λf h=>dQ aS h));subst m9;rw[bZ]at hk9;simp only[go_sem,aK,hb1,hb2,hb3];have hk10:=hk9 (j+1) o2 aB hlt9 hw9 hm2 ⟨hown2,λa ha=>nM (hQ2.len a ha) aB⟩;refine aP hk10 (kF ?_);simp only[cH];exact aX
end
end
noncomputable def c40:Code:=match f40.body with
 | some (.seq _ c)=>c
 | _=>.skip
theorem aGb : f40.body = some (.seq (.region 0 #[⟨some 5,.call ⟨.builtin .recover,#[],#[]⟩,20,"parse.go:505",#[],none⟩] false) c40) := rfl
theorem aLH(a:Act)(w:World):(results f40 a.tmps).run cx.P w=.ok (.tuple #[]) w:=by
 have e0:results f40 a.tmps=(do let vs <-(#[]:Array ResultVar).mapM (vZ a.tmps);pure (if h:vs.size=1 then vs[0] else .tuple vs)):=rfl;rw[e0];simp
theorem aK4{P:Program}{Q:Exit->Act->List Frame->World->Prop}{a:Act}{cs:List Frame}{w:World}
  (h : match recoverD cs with
   | some (v,cs')=>Q .normal (a.put (some 5) v) cs' w
   | none=>Q .normal (a.put (some 5) .nilIface) cs w) :
  (Code.region 0 #[⟨some 5,.call ⟨.builtin .recover,#[],#[]⟩,20,"parse.go:505",#[],none⟩] false).wpS P Q a cs w := by
 refine wpS_region ?_;have hr : List.range (#[(⟨some 5,.call ⟨.builtin .recover,#[],#[]⟩,20,"parse.go:505",#[],none⟩ : Oper)]).size = [0] := rfl;rw [hr];unfold wpOpsS;have ho : (#[(⟨some 5,.call ⟨.builtin .recover,#[],#[]⟩,20,"parse.go:505",#[],none⟩ : Oper)])[0]? = some ⟨some 5,.call ⟨.builtin .recover,#[],#[]⟩,20,"parse.go:505",#[],none⟩ := rfl;rw [ho];simp only;rw [if_pos (by simp [Region.wanted])];have hx : (execOp a.eval ⟨some 5,.call ⟨.builtin .recover,#[],#[]⟩,20,"parse.go:505",#[],none⟩).run P w = .ok .recover w := rfl;rw [hx];simp only;cases hrec : recoverD cs with
 | none=>rw[hrec]at h;simp only;unfold wpOpsS;exact h
 | some x=>obtain⟨v,cs'⟩:=x;rw[hrec]at h;simp only;unfold wpOpsS;exact h
theorem aTW{g:Gh}(vals:Array Value)(hv:vals.size=1):EnvOk g 14 [] (vals++Array.replicate (f40.ntmps-vals.size) undef) :=
 .nil (by rw[hv];simp[hv,f40])
theorem aT1(k:Nat)(w:World):(invoke (.fn (.func 40) #[]) #[.pointer (some ⟨k,0,none⟩)]).run cx.P w=.ok (.enter 40 #[.pointer (some ⟨k,0,none⟩)]) w:=by
 have hcf:(callFunc 40 #[.pointer (some ⟨k,0,none⟩)]).run prog w=.ok (.enter 40 #[.pointer (some ⟨k,0,none⟩)]) w:=by
  have hf : prog.funcs[40]? = some f40 := func40;have hname : (f40.name == "runtime.NumGoroutine") = false := rfl;simp only [callFunc,bP,run_program,bN,hf,hname,cJ,↓reduceIte,aGb,Option.isNone_some,cD]
 show(callFunc 40 (#[Value.pointer (some ⟨k,0,none⟩)]++#[])).run prog w=_;rw[Array.append_empty];exact hcf
section
theorem aSF(s:St):Ex cx 14 c40 (λx _ s'=>x=.normal/\s'=s) [(5,.nili)] s:=by
 refine bG (V:=[0,2,3,4,5,6,7,8,9,10,11,12,13]) _ _ _ _ ?_;simp only[c40,f40];simp only[go_sem]
theorem aTa(s:St)(b:Nat)(x0 x1 x2 x3 y0 y1 y2 y3:A)(hb:s.getO b=some (.cells 36 [y0,y1,y2,y3]))(h0:x0.one=true)(h1:x1.one=true)(h2:x2.one=true)(h3:x3.one=true) :
  Ex cx 14 c40 (λx _ s'=>x=.normal/\s'.ge (s.setO b (.cells 36 [x0,x1,x2,x3]))) [(0,.ptr b 0),(5,.iface 36 (.agg [x0,x1,x2,x3]))] s:=by
 refine bG (V:=[0,2,3,4,5,6,7,8,9,10,11,12,13]) _ _ _ _ ?_;simp only[c40,f40];simp only[go_sem,h0,h1,h2,h3];intro q hq;have hne:=cE hb hq;simp only[go_sem,h0,h1,h2,h3,hne,hb];have ho:(x0.one&&(x1.one&&(x2.one&&x3.one)))=true:=by rw[h0,h1,h2,h3];rfl
 refine⟨ho,ho,?_⟩;exact pQ (vG (by simp only[aJ,if_true]) (aBm bD (tU hq (xI _ _ _))))
structure CatchC (C:Cx) (h:FuncId) (ft:TypeId):Prop where
 quiet:∀F g s w (p:Value),R C.toCtx F g s w->CallsD C.P h #[p] .returning w λe u' w'=>(∃v,e=.returned v)/\u'=.returning/\∃g',g.le g'/\R C.toCtx F g' s w'
 loud:∀F g s w (b k:Nat) (cs fs:List A) (v:Value),R C.toCtx F g s w->g.beta b=some k->s.getO b=some (.cells ft cs)->Rz g (.agg fs) v->fs.length=cs.length->fs.length=4 ->
  CallsD C.P h #[.pointer (some ⟨k,0,none⟩)] (.panicking [{ v:=.iface ft v,recovered:=false }]) w λe u' w'=>(∃v,e=.returned v)/\settle u'=.returning /\
   ∃g',g.le g'/\R C.toCtx F g' (s.setO b (.cells ft fs)) w'
theorem aIu:CatchC cx 40 36 where
 quiet:=by
  intro F g s w p hR;refine callsD_of_wpS (fn:=f40) func40 aGb λc₀ cs hu=>?_
  refine wpS_seq (aK4 ?_);have hrec:recoverD (c₀::cs)=none:=by simp[recoverD,hu]
  rw[hrec];refine wpS_of_wp ?_;have hE:=(aTW (g:=g) #[p] rfl).put (a:=⟨_,[]⟩) (d:=5) (x:=.nili) (v:=.nilIface) aD .nili;refine oY (λex a' w' hp=>?_) (aSF s F g w _ hR hE);obtain⟨g',e',s',x,h1,h2,h3,h4,h5,rfl,rfl⟩:=hp;cases ex<;>try exact h5.elim
  refine⟨h4,.returning,by rw[<-hu],_,aLH a' w',⟨_,rfl⟩,rfl,g',h1,h2⟩
 loud:=by
  intro F g s w b k cs fs v hR hbk hb hv hl h4
  obtain⟨x0,x1,x2,x3,rfl⟩:∃x0 x1 x2 x3,fs=[x0,x1,x2,x3]:=by
   match fs,h4 with
   | [x0,x1,x2,x3],_=>exact⟨x0,x1,x2,x3,rfl⟩
  obtain⟨y0,y1,y2,y3,rfl⟩:∃x0 x1 x2 x3,cs=[x0,x1,x2,x3]:=by
   match cs,hl with
   | [x0,x1,x2,x3],_=>exact⟨x0,x1,x2,x3,rfl⟩
  obtain⟨vs,hv1,hv2,hone⟩:=hv.agg_inv;refine callsD_of_wpS (fn:=f40) func40 aGb λc₀ cs hu=>?_
  refine wpS_seq (aK4 ?_);have hrec:recoverD (c₀::cs)=some (.iface 36 v,{ c₀ with mode:=.panicking [{ v:=.iface 36 v,recovered:=true }] }::cs):=by simp[recoverD,hu]
  rw[hrec];refine wpS_of_wp ?_
  have hE0:EnvOk g 14 [(0,.ptr b 0)] (#[Value.pointer (some ⟨k,0,none⟩)]++Array.replicate (f40.ntmps-(#[Value.pointer (some ⟨k,0,none⟩)]).size) undef):=by
   refine⟨by simp[f40],λt a ha=>?_⟩;simp only[Env.get]at ha;split at ha
   .rename_i ht;subst ht;cases ha;exact⟨_,rfl,.ptr b 0 k hbk⟩
   .cases ha
  have hE:=hE0.put (a:=⟨_,[]⟩) (d:=5) (x:=.iface 36 (.agg [x0,x1,x2,x3])) (v:=.iface 36 v) aD (.iface 36 _ v hv);refine oY (λex a' w' hp=>?_) (aTa s b x0 x1 x2 x3 y0 y1 y2 y3 hb (hone x0 bD) (hone x1 bD) (hone x2 bD) (hone x3 bD) F g w _ hR hE);obtain⟨g',e',s',x,h1,h2,h3,h4,h5,rfl,h6⟩:=hp;cases ex<;>try exact h5.elim
  refine⟨h4,.panicking [{ v:=.iface 36 v,recovered:=true }],rfl,_,aLH a' w',⟨_,rfl⟩,rfl,g',h1,h2.weaken h6 (λh=>by cases h)⟩
section
variable {C:Cx} {n:Nat} {e:Env} {s:St}
def aLk(C:Cx)(F:Fr)(g0:Gh)(n:Nat)(h:FuncId)(Q:Option Nat->XK->Env->St->Prop)(ex:Exit)(a:Act)(w:World):Prop :=
 ∃g' e s x d,g0.le g'/\R C.toCtx F g' s w/\EnvOk g' n e a.tmps/\XRz g' x ex /\
  (match d with
   | none=>a.defers=[]
   | some b=>∃k,g'.beta b=some k/\a.defers=[yM h k])/\Q d x e s
def ExD(C:Cx)(n:Nat)(h:FuncId)(c:Code)(Q:Option Nat->XK->Env->St->Prop)(e:Env)(s:St):Prop :=
 ∀F g w a,R C.toCtx F g s w->EnvOk g n e a.tmps->a.defers=[]->c.wp C.P (aLk C F g n h Q) a w
def aDH(R:Env->St->Prop)(Q:Option Nat->XK->Env->St->Prop):XK->Env->St->Prop
 | .normal,e,s=>R e s
 | x,e,s=>Q none x e s
theorem ExD.seq{h:FuncId}{c d:Code}{Q:Option Nat->XK->Env->St->Prop}(hc:Ex C n c (aDH (ExD C n h d Q) Q) e s):ExD C n h (.seq c d) Q e s:=λF g w a hR hE hD=>by
 refine wp_seq (oY (λex a' w' hq=>?_) (hc F g w a hR hE));obtain⟨g',e',s',x,h1,h2,h3,h4,h5,h6⟩:=hq;cases ex<;>cases x<;>try exact h5.elim
 .refine oY (λex a2 w2 hq=>?_) (h6 F g' w' a' h2 h3 (by rw[h4];exact hD));obtain⟨g2,e2,s2,x2,d2,q1,q2⟩:=hq;exact⟨g2,e2,s2,x2,d2,h1.trans q1,q2⟩
 all_goals exact⟨g',e',s',_,none,h1,h2,h3,h5,by rw[h4];exact hD,h6⟩
theorem ExD.defer{h:FuncId}{c d:Code}{y:Operand}{b:Nat}{Q:Option Nat->XK->Env->St->Prop}(hc:aF7 c=some (h,y))(hy:eT C e y=some (.ptr b 0))(hd:Ex C n d (Q (some b)) e s):ExD C n h (.seq c d) Q e s:=λF g w a hR hE hD=>by
 obtain⟨id,ops,ats,ty,pos,after,rfl,hops⟩:=aOc hc;obtain⟨k,hv,hbk⟩:=((hE.oper hR) y _ hy).ptr_inv;refine wp_seq ?_
 have hq:∀(a':Act),a'.tmps=a.tmps->a'.defers=[yM h k]->d.wp C.P (aLk C F g n h Q) a' w:=by
  intro a' ht hd';refine oY (λex a2 w2 hq=>?_) (hd F g w a' hR (by rw[ht];exact hE));obtain⟨g',e',s',x,h1,h2,h3,h4,h5,h6⟩:=hq;exact⟨g',e',s',x,some b,h1,h2,h3,h5,⟨k,h1.beta _ _ hbk,by rw[h4];exact hd'⟩,h6⟩
 refine wp_region_list ?_;rw[hops];unfold wpList;rw[if_pos (by simp[Region.wanted])];left
 have hex:(execOp a.eval ⟨none,.defer ⟨.value (.func h),#[y],ats⟩,ty,pos,after,none⟩).run C.P w=.ok (.defer (yM h k)) w:=by
  have e1:a.eval (.func h)=.func (.func h) #[] #[]:=rfl;simp only[execOp,resolve,e1,Deferred.ofValue,bP,cD,bN,lC,bS,cY,hv,yM];simp
 unfold Oper.wp;rw[hex,Oper.upon_defer];unfold wpList;exact hq _ rfl (by simp[Act.put,hD])
def vY(C:Cx)(rs:List ResultVar)(KV Kp:St->A->Prop):Option Nat->XK->Env->St->Prop
 | none,x,e,s=>mJ C rs KV Kp x e s
 | some b,.panic v,e,s=>∃fs cs,v=.iface 36 (.agg fs)/\s.getO b=some (.cells 36 cs)/\fs.length=cs.length/\fs.length=4/\mJ C rs KV Kp .ret e (s.setO b (.cells 36 fs))
 | some b,x,e,s=>mJ C rs KV Kp x e s
theorem aHd{f:FuncId}{fn:Func}{c:Code}{args:List A}{KV Kp:St->A->Prop}(hct:CatchC C 40 36)
  (hent:∀(k:Nat) (w:World),(invoke (.fn (.func 40) #[]) #[.pointer (some ⟨k,0,none⟩)]).run C.P w=.ok (.enter 40 #[.pointer (some ⟨k,0,none⟩)]) w)
  (hf : C.P.funcs[f]? = some fn) (hb : fn.body = some c) (hname : (fn.name == "runtime.NumGoroutine") = false) (hn : args.length ≤ fn.ntmps)
  (h:ExD C fn.ntmps 40 c (vY C fn.results.toList KV Kp) (pS 0 args) s):Den C f args KV Kp s:=by
 refine aM1 hf hb hname hn λF g w a hR hE hD=>?_
 refine oY (λex a' w' hq=>?_) (h F g w a hR hE hD);obtain⟨g',e',s',x,d,q1,q2,q3,q4,q7,hq⟩:=hq
 have ret:∀(g2:Gh) (s2:St) (w2:World) (x:XK),(x=.normal\/x=.ret)->mJ C fn.results.toList KV Kp x e' s2->R C.toCtx F g2 s2 w2->g'.le g2 ->
   ∃v,(results fn a'.tmps).run C.P w2=.ok v w2/\∃g3 a s,g.le g3/\R C.toCtx F g3 s w2/\Rz g3 a v/\KV s a:=by
  intro g2 s2 w2 x hx hk hR2 hle
  have hk':∃l,rQ C e' s2 fn.results.toList=some l/\KV s2 (aAu l):=by
   rcases hx with rfl|rfl<;>simp only[mJ]at hk<;>split at hk
   .exact⟨_,by assumption,hk⟩
   .exact hk.elim
   .exact⟨_,by assumption,hk⟩
   .exact hk.elim
  obtain⟨l,hl,hk'⟩:=hk';obtain⟨vs,r1,r2⟩:=aC0 hR2 (q3.mono hle) _ _ hl;refine⟨_,?_,g2,_,s2,q1.trans hle,hR2,aKd r2,hk'⟩;have e0:results fn a'.tmps=(do let vs <-fn.results.mapM (vZ a'.tmps);pure (if h:vs.size=1 then vs[0] else .tuple vs)):=rfl;rw[e0,bP,Array.mapM_eq_mapM_toList,Sem.run_map,r1];rfl
 cases d with
 | none =>
  simp only[vY]at hq;simp only at q7;cases ex<;>cases x<;>try exact q4.elim
  .obtain⟨v,r1,g3,aa,ss,r2⟩:=ret g' s' w' .normal (.inl rfl) hq q2 (gR g');simp only[bodyPostD,q7,Leaves];exact⟨v,r1,g3,aa,ss,r2⟩
  .exact hq.elim
  .exact hq.elim
  .obtain⟨v,r1,g3,aa,ss,r2⟩:=ret g' s' w' .ret (.inr rfl) hq q2 (gR g');simp only[bodyPostD,q7,Leaves];exact⟨v,r1,g3,aa,ss,r2⟩
  .obtain⟨v,rfl,hrv⟩:=q4;simp only[bodyPostD,q7,Leaves];exact⟨g',_,v,s',rfl,q1,q2,hrv,hq⟩
 | some b =>
  obtain⟨k,hbk,hdf⟩:=q7;have hinv:(invoke (yM 40 k).target (yM 40 k).args).run C.P w'=.ok (.enter 40 #[.pointer (some ⟨k,0,none⟩)]) w':=hent k w'
  have quiet:∀(x:XK),(x=.normal\/x=.ret)->mJ C fn.results.toList KV Kp x e' s'->Leaves C.P fn a'.tmps (aAj C F g KV Kp) [yM 40 k] .returning w':=by
   intro x hx hq;refine⟨by simp,_,_,_,_,rfl,hinv,?_⟩;refineλc cs hc=>?_
   obtain⟨e,u',w2,fr,⟨⟨v0,rfl⟩,rfl,g2,hle,hR2⟩,hcm⟩:=hct.quiet F g' s' w' (.pointer (some ⟨k,0,none⟩)) q2 c cs hc;obtain⟨v,r1,r2⟩:=ret g2 s' w2 x hx hq hR2 hle;exact⟨.returned v0,.returning,w2,fr,(show Leaves C.P fn a'.tmps (aAj C F g KV Kp) [] .returning w2 from⟨v,r1,r2⟩),hcm⟩
  cases ex<;>cases x<;>try exact q4.elim
  .simp only[bodyPostD,hdf];exact quiet .normal (.inl rfl) hq
  .exact hq.elim
  .exact hq.elim
  .simp only[bodyPostD,hdf];exact quiet .ret (.inr rfl) hq
  .obtain⟨v,rfl,hrv⟩:=q4;obtain⟨fs,cs,rfl,hbo,hl,h4,hq⟩:=hq;obtain⟨u,rfl,hru⟩:=hrv.iface_inv;simp only[bodyPostD,hdf];refine⟨by simp,_,_,_,_,rfl,hinv,?_⟩;refineλc cs0 hc0=>?_
   obtain⟨e,u',w2,fr,⟨⟨v0,rfl⟩,hset,g2,hle,hR2⟩,hcm⟩:=hct.loud F g' s' w' b k cs fs u q2 hbk hbo hru hl h4 c cs0 hc0;obtain⟨v,r1,r2⟩:=ret g2 _ w2 .ret (.inr rfl) hq hR2 hle;exact⟨.returned v0,u',w2,fr,(show Leaves C.P fn a'.tmps (aAj C F g KV Kp) [] (settle u') w2 from by rw[hset];exact⟨v,r1,r2⟩),hcm⟩
end
end
section
section
variable {C:Cx} {n:Nat} {h b:Nat} {R:Env->St->Prop} {Q:Option Nat->XK->Env->St->Prop} {e:Env} {s:St} {rs:List ResultVar} {KV Kp:St->A->Prop} {x:XK} {v:A}
@[go_sem] theorem aUx:aDH R Q .normal e s=R e s:=rfl
@[go_sem] theorem aU9:aDH R Q .ret e s=Q none .ret e s:=rfl
@[go_sem] theorem aUB:aDH R Q (.panic v) e s=Q none (.panic v) e s:=rfl
@[go_sem] theorem aUS:vY C rs KV Kp none x e s=mJ C rs KV Kp x e s:=rfl
@[go_sem] theorem aUv:vY C rs KV Kp (some b) .normal e s=mJ C rs KV Kp .normal e s:=rfl
@[go_sem] theorem aVl:vY C rs KV Kp (some b) .ret e s=mJ C rs KV Kp .ret e s:=rfl
@[go_sem] theorem aUz:vY C rs KV Kp (some b) (.panic v) e s=∃fs cs,v=.iface 36 (.agg fs)/\s.getO b=some (.cells 36 cs)/\fs.length=cs.length/\fs.length=4/\mJ C rs KV Kp .ret e (s.setO b (.cells 36 fs)):=rfl
end
theorem aKQ(k:Nat)(w:World):(invoke (.fn (.func 40) #[]) #[.pointer (some ⟨k,0,none⟩)]).run cx.P w=.ok (.enter 40 #[.pointer (some ⟨k,0,none⟩)]) w:=aT1 k w
def nV:DOwn:=⟨none,none,none,none,none,none,none,none,none⟩
def qN:Tok:=⟨0,[],0,0,0⟩
theorem aDj(d:Dfn)(o:DOwn){s:St}(h:OwnOk s (cG d o)):A.le (.agg (cH d o).cs) d.enc:=by
 have z:∀k (a:fE),(cG d o)[k]?=some a->a.1=none->a.2.1=0:=λk a hk=>h.nil a (cM hk)
 have g:∀{α:Type} (tk:Option Nat) (f:α->A) (l:List α) (k:Nat) (e:TypeId),(cG d o)[k]?=some (tk,l.length,e)->A.le (gv tk (l.map f)) (.list none (l.map f)):=λtk f l k e hk =>
  iY tk _ (λhn=>by rw[fK (z k _ hk hn)];rfl)
 exact A.le.agg ⟨⟨bB _,rfl⟩,⟨g o.so _ _ 0 9 rfl,rfl⟩,⟨g o.be _ _ 1 104 rfl,rfl⟩,⟨g o.op _ _ 2 73 rfl,rfl⟩,⟨g o.fu _ _ 3 73 rfl,rfl⟩,⟨g o.va _ _ 4 9 rfl,rfl⟩,⟨g o.eq _ _ 5 80 rfl,rfl⟩,⟨g o.on _ _ 6 68 rfl,rfl⟩,⟨bB _,rfl⟩,⟨g o.ma _ _ 7 68 rfl,rfl⟩,⟨g o.ru _ _ 8 84 rfl,rfl⟩,⟨bB _,rfl⟩,⟨bB _,rfl⟩,trivial⟩
theorem aCl{s:St}:OwnOk s (cG gL nV):=by
 refine⟨λo ho u hu=>?_,λo ho _=>?_,λi j a b u hi hj ha hb=>?_⟩
 .simp only[cG,eB,wJ,fH]at ho;rcases ho with rfl|rfl|rfl|rfl|rfl|rfl|rfl|rfl|rfl<;>cases hu
 .simp only[cG,eB,wJ,fH]at ho;rcases ho with rfl|rfl|rfl|rfl|rfl|rfl|rfl|rfl|rfl<;>rfl
 .have:=cM hi;simp only[cG,eB,wJ,fH]at this;rcases this with rfl|rfl|rfl|rfl|rfl|rfl|rfl|rfl|rfl<;>cases ha
section
variable {T:List Tok} {fin:Fault} {s:St} {r:Nat} {KV Kp:St->A->Prop}
def aDE(KV:St->A->Prop)(s:St)(r:Nat):Rd Dfn->Prop
 | .ok d _ _=>∀o,KV (s.setO r o) (.tuple [d.enc,Fault.none.enc])
 | .bad f=>∀o,KV (s.setO r o) (.tuple [gL.enc,f.enc])
theorem aKl(hT:TOk T)(hr:s.getO r=some (bC T fin (cH gL nV) qN 0 0))(hk:aDE KV s r (kV false fin T)):Den cx 38 [.ptr r 0] KV Kp s:=by
 have hlenT:=hT.len;refine Den.drop ?_;refine aHd aIu aKQ func38 rfl rfl (lM rfl) ?_;refine ExD.seq ?_;refine bG (V:=[0,2,3,25]) _ _ _ _ ?_;simp only[go_sem,ntmps38,f38];(intro b2 hb2;try simp only[aI,aZ,ne_eq]at hb2);have e2:=cE hr (by first|exact hb2|exact hb2.2|exact hb2.2.2|exact hb2.2.2.2|exact hb2.2.2.2.2|exact hb2.2.2.2.2.2|exact hb2.2.2.2.2.2.2);simp only[go_sem,ntmps38,f38,hb2,e2];(intro b3 hb3;try simp only[aI,aZ,ne_eq]at hb3);have e3:=cE hr (by first|exact hb3|exact hb3.2|exact hb3.2.2|exact hb3.2.2.2|exact hb3.2.2.2.2|exact hb3.2.2.2.2.2|exact hb3.2.2.2.2.2.2);simp only[go_sem,ntmps38,f38,hb2,e2,hb3,e3];refine ExD.defer (by rfl) (b:=b3) (by simp only[go_sem,ntmps38,f38,hb2,e2,hb3,e3]) ?_;refine bG (V:=[0,2,3,25]) _ _ _ _ ?_;simp only[go_sem,ntmps38,f38,hb2,e2,hb3,e3];generalize hs2:(s.setO b2 (Ob.cells 33 [.str [],.nils,.nils,.nils,.nils,.nils,.nils,.nils,.str [],.nils,.nils,.str [],.str []])).setO b3 (Ob.cells 36 [.int .i64 0,.str [],.int .i64 0,.int .i64 0])=s2;have hr2:s2.getO r=some (bC T fin (cH gL nV) qN 0 0):=by subst hs2;exact(by simp only[aJ,eD,kB,aZ,ne_eq,dK,reduceIte,ntmps38,f38,hb2,e2,hb3,e3,hr]<;>(first|done|rfl|assumption))
 have h22:s2.getO b2=some (Ob.cells 33 [.str [],.nils,.nils,.nils,.nils,.nils,.nils,.nils,.str [],.nils,.nils,.str [],.str []]):=by subst hs2;exact(by simp only[aJ,eD,kB,aZ,ne_eq,dK,reduceIte,ntmps38,f38,hb2,e2,hb3,e3]<;>(first|done|rfl|assumption))
 have h23:s2.getO b3=some (Ob.cells 36 [.int .i64 0,.str [],.int .i64 0,.int .i64 0]):=by subst hs2;exact(by simp only[aJ,eD,kB,aZ,ne_eq,dK,reduceIte,ntmps38,f38,hb2,e2,hb3,e3]<;>(first|done|rfl|assumption))
 have hs2g:∀s1:St,s1.gx s2 r->s1.gx s r:=λs1 h=>h.trans (by subst hs2;exact aS)
 have bad:∀(f:Fault) (s1:St) (o:Ob) (e:Env),e.get 2=some (.ptr b2 0)->e.get 3=some (.ptr b3 0)->(∀o,KV (s.setO r o) (.tuple [gL.enc,f.enc]))->s1.gx s2 r->s1.getO r=some o ->
   vY cx [ResultVar.cell 2 33,ResultVar.cell 3 36] (DK KV) (DK Kp) (some b3) (.panic (.iface 36 f.enc)) e s1:=by
  intro f s1 o e g2 g3 hb hg ho;have q2:=hg.ob b2 e2.2 _ h22;have q3:=hg.ob b3 e3.2 _ h23;simp only[go_sem,ntmps38,f38,hb2,e2,hb3,e3,q2,q3];refine⟨f.cs,_,rfl,rfl,rfl,rfl,?_⟩;simp only[go_sem,ntmps38,f38,hb2,e2,hb3,e3,q2,q3,g2,g3];have hbo:=hb o;simp only[go_sem]at hbo;exact DK.mk hbo (St.gx.ge (cX hb3.2 (hs2g _ hg)) (by rw[aJ,if_neg e3.2];exact ho)) (A.le.tuple ⟨aDj gL nV (s:=s) aCl,bB _,trivial⟩)
 have hk2:(kV false fin T).to (λd _ _=>∀o,KV (s.setO r o) (.tuple [d.enc,Fault.none.enc])) (λf=>∀o,KV (s.setO r o) (.tuple [gL.enc,f.enc])):=by
  revert hk;unfold aDE;cases kV false fin T<;>exact id
 simp only[kV,bR]at hk2;have hT0:T=T.drop 0:=rfl;rw[hT0]at hk2;refine fN (d:=cH gL nV) (T:=T) (fin:=fin) (first:=qN) (i:=0) (n:=0) _ hr2 (aU _) hT (aT hk2 (λ_ w1 m1 hk3 hlt1 hw1 hm1=>?_) (λf h o=>?_));rotate_left
 .exact bad f _ o _ rfl rfl h (eR (fJ _ _)) (by rw[aJ,if_pos rfl])
 subst m1;rw[<-hw1]at hk3;simp only[go_sem];refine iL (d:=cH gL nV) (T:=T) (fin:=fin) (first:=qN) (i:=0+1) (n:=0) (by rw[aJ,if_pos rfl];rfl) hlt1 hT (aT hk3 (λx w2 m2 hk4 hlt2 hw2 hm2=>?_) (λf h o=>?_));rotate_left
 .exact bad f _ o _ rfl rfl h (eR (eR (fJ _ _))) (by rw[aJ,if_pos rfl])
 subst m2;rw[<-hw2]at hk4;simp only[go_sem,e2,e3,h22,h23];refine fN (d:={ cH gL nV with name:=x }) (T:=T) (fin:=fin) (first:=qN) (i:=0+1+1) (n:=0) _ (by rw[aJ,if_pos rfl];rfl) hlt2 hT (aT hk4 (λ_ w3 m3 hk5 hlt3 hw3 hm3=>?_) (λf h o=>?_));rotate_left
 .exact bad f _ o _ rfl rfl h (eR (eR (fJ _ _))) (by rw[aJ,if_pos rfl])
 subst m3;rw[<-hw3]at hk5;simp only[go_sem,e2,e3,h22,h23];rw[show(T.drop (0+1+1+1)).length=T.length-(0+1+1+1)by rw[dR]]at hk5
 refine Ex.loop (ι:=(Dfn × DOwn) × Nat × Nat × Nat) (λc=>[(0,.ptr r 0),(2,.ptr b2 0),(3,.ptr b3 0)]) (λc=>lK T fin qN r s2 c.1.1 c.1.2 c.2.1 c.2.2.1)
  (λc=>ItQ s2 c.1.1 c.1.2 c.2.1/\c.2.1<=T.length/\c.2.2.1<=2000/\T.length-c.2.1<c.2.2.2/\(oJ false fin c.2.2.2 c.1.1 (T.drop c.2.1) c.2.2.1).to (λd _ _=>∀o,KV (s.setO r o) (.tuple [d.enc,Fault.none.enc])) (λf=>∀o,KV (s.setO r o) (.tuple [gL.enc,f.enc])))
  (λc=>T.length-c.2.1) (({ gL with name:=x },nV),0+1+1+1,0,T.length-(0+1+1+1)+1) ?_ ?_ ?_ ?_
 .refine⟨⟨aCl,λa ha=>?_⟩,hlt3,aU _,jB _,hk5⟩;simp only[cG,eB,wJ,fH]at ha;rcases ha with rfl|rfl|rfl|rfl|rfl|rfl|rfl|rfl|rfl<;>exact aU _
 .simp only[go_sem,e2,e3,h22,h23]
 .show St.ge _ (s2.setO r _);exact aX
 .rintro⟨⟨d,o⟩,i,n,k⟩ ⟨hQ,hi,hn,hik,hk6⟩;simp only at hQ hi hn hik hk6;obtain⟨k,rfl⟩:∃k',k=k'+1:=⟨k-1,by omega⟩
  have hown:=hQ.own;have hfr:=hown.free;refine bG (V:=[0,2,3,25]) _ _ _ _ ?_;unfold lK;have n23:=hb3.1;simp only[go_sem,e2,e3,h22,h23,aK,n23];(refine bL (OT.r 0 10) [] ?_;simp only[go_sem,e2,e3,h22,h23,aK,n23]);cases hc:decide (i<T.length)with
  | true =>
   have hlt:i<T.length:=by simpa using hc
   have hne:T.drop i≠[]:=by intro e;have:=congrArg List.length e;rw[dR,aF]at this;omega
   obtain⟨t,w,hw⟩:∃t w,T.drop i=t::w:=by
    cases hq:T.drop i with
    | nil=>exact absurd hq hne
    | cons t w=>exact⟨t,w,rfl⟩
   rw[hw,oJ,bR,<-hw]at hk6;simp only[go_sem,e2,e3,h22,h23,aK,n23];refine aQ2 hT hi hQ hn (aT hk6 (λd' w' n' hk7 j o' hj hjT hw' hn' hQ'=>?_) (λf h s1 x hg hr1=>?_))
   .subst hw';simp only[go_sem,e2,e3,h22,h23,aK,n23];exact⟨((d',o'),j,n',k),⟨hQ',hjT,hn',by simp only;omega,hk7⟩,by simp only;omega,aM _⟩
   .exact bad f _ _ _ rfl rfl h hg hr1
  | false =>
   have hge:¬ i<T.length:=by simpa using hc
   rw[wH aB,oJ,bZ]at hk6;simp only[go_sem,e2,e3,h22,h23,aK,n23];(refine bL (OT.r 0 7) [(5,[4])] ?_;simp only[go_sem,e2,e3,h22,h23,aK,n23]);have hone:(A.one (gv o.so (d.sig.sorts.map .str))&&(A.one (gv o.be (d.sig.below.map Below.enc))&&(A.one (gv o.op (d.sig.ops.map Opr.enc))&&(A.one (gv o.fu (d.sig.funs.map Opr.enc))&&(A.one (gv o.va (d.sig.values.map .str))&&(A.one (gv o.eq (d.eqs.map Eqn.enc))&&(A.one (gv o.on (d.once.map Cel.enc))&&(A.one (gv o.ma (d.many.map Cel.enc))&&A.one (gv o.ru (d.rules.map Rul.enc))))))))))=true:=by simp only[rH,fB]
   refine⟨hone,?_⟩;have hk7:=hk6 (bC T fin (cH d o) qN i n);have hle:=aDj d o hown;simp only[go_sem]at hk7;simp only[go_sem]at hle;refine DK.mk hk7 (aJL (pQ (vG (by simp only[aJ,e2,e3,if_false,if_true]<;>rfl) (tU hb3.2 (tU hb2 (aBm bD (aIf (hs2g s2 (fJ _ _)) bD)))))) (λa ha u hu=>by have:=hfr a ha u hu;subst hs2;exact this)) (A.le.tuple ⟨hle,bB _,trivial⟩)
end
end
section
structure RQ (T:List Tok) where
 at_:Nat
 le:at_<=T.length
 f:Fault
 first:Nat
 nodes:Int
 over:Bool
section
variable {T:List Tok} (fin:Fault)
def RQ.ok(q:RQ T):Bool:=decide (q.f.code=0)
def RQ.tok(q:RQ T):Tok:=(T[q.at_]?).getD ⟨0,[],0,0,0⟩
def sX:Tm:=.mk 0 0 [] [] [] []
end
end
section
def kJ(x:aC):Fault:=⟨12,[],1+(x.count 10:Nat),x.length-nO x 10 x.length⟩
def aLe(x:aC):Dfn × Fault:=match jS dG true x with
 | .bad f=>(gL,f)
 | .ok T=>match kV false (kJ x) T with
  | .ok d _ _=>(d,Fault.none)
  | .bad f=>(gL,f)
def vN(x:aC):Dfn × Fault:=if 20000<x.length then(gL,⟨3,[],0,0⟩) else aLe x
def aAp(x:aC):Tm × Fault:=if 20000<x.length then(sX,⟨3,[],0,0⟩) else match jS dG true x with
 | .bad f=>(sX,f)
 | .ok T=>match gE false (kJ x) T 0 with
  | .ok t [] _=>(t,Fault.none)
  | .ok _ (t::w) _=>(sX,fW (kJ x) 11 (t::w))
  | .bad f=>(sX,f)
theorem aGc{x:aC}{l:List Tok}(hx:x.length<=4294967280)(h:jS dG true x=.ok l):TOk l:=by
 obtain⟨h1,h2⟩:=aST h;refine⟨by omega,λt ht=>(h2 t ht).num,λt ht=>?_,λt ht=>?_⟩
 .have:=(h2 t ht).col;omega
 .have:=(h2 t ht).txt;omega
theorem aIh(x:aC)(c:UInt8):∀n,nO x c n<n/\-1<=nO x c n
 | 0=>by simp[nO]
 | n+1=>by
  have:=aIh x c n;simp only[nO];split<;>omega
section
variable {s:St} {KV Kp:St->A->Prop}
theorem aHL(x:aC)(hx:x.length<=4294967280) (hk:match jS dG true x with
  | .ok l=>∀r,s.getO r=none->KV (s.setO r (bC l (kJ x) (cH gL nV) qN 0 0)) (.tuple [.ptr r 0,Fault.none.enc])
  | .bad f=>KV s (.tuple [.nilp,f.enc])):Den cx 83 [.str x] KV Kp s:=by
 have hcnt:x.count 10<=x.length:=List.count_le_length;have hlast:=aIh x 10 x.length;(refine aO func83 [0,2,3,4,5,6,14] ?_;simp only[go_sem,ntmps83,f83]);(intro b3 hb3;try simp only[aK,aZ,aI,ne_eq]at hb3);simp only[go_sem,hb3];refine aQc _ x _ _ aB ?_;cases hl:jS dG true x with
 | bad f =>
  rw[hl]at hk;have hc:=aCp hl;have hc0:decide (f.code=0)=false:=by rw[hc];rfl
  simp only[Lx.out];simp only[go_sem,hb3];(intro b5 hb5;try simp only[aK,aZ,aI,ne_eq]at hb5);simp only[go_sem,hb3,hb5,hc0];(refine bL (OT.r 0 3) [] ?_;simp only[go_sem,hb3,hb5]);simp only[go_sem]at hk;exact aP hk aX
 | ok l =>
  rw[hl]at hk;simp only[Lx.out];have h00:Fault.none.code=0:=rfl;simp only[go_sem,hb3,Fault.none];(intro b5 hb5;try simp only[aK,aZ,aI,ne_eq]at hb5);simp only[go_sem,hb3,hb5];refine aNj _ _ _ _ _ ?_;simp only[go_sem,hb3,hb5,iU (1+((x.count 10:Nat):Int)) aB aB];refine aMy _ x 10 _ _ aB ?_;simp only[go_sem,hb3,hb5,iU ((x.length:Int)-nO x 10 x.length) aB aB];(intro b6 hb6;try simp only[aK,aZ,aI,ne_eq]at hb6);simp only[go_sem,hb3,hb5,hb6];(refine bL (OT.l [0,1,2,4,3,5,6] .nil) [(3,[4])] ?_;simp only[go_sem,hb3,hb5,hb6]);(intro b7 hb7;try simp only[aK,aZ,aI,ne_eq]at hb7);simp only[go_sem,hb3,hb5,hb6,hb7];have hk2:=hk b7 (by first|exact hb7.2.2.2|exact hb7.2.2);simp only[Fault.enc,Fault.cs,Fault.none]at hk2;exact aP hk2 aX
theorem aIr(x:aC)(hx:x.length<=4294967280) (hk:if 20000<x.length then KV s (.tuple [.nilp,Fault.enc ⟨3,[],0,0⟩]) else match jS dG true x with
  | .ok l=>∀r,s.getO r=none->KV (s.setO r (bC l (kJ x) (cH gL nV) qN 0 0)) (.tuple [.ptr r 0,Fault.none.enc])
  | .bad f=>KV s (.tuple [.nilp,f.enc])):Den cx 37 [.str x] KV Kp s:=by
 (refine aO func37 [0,2,3,6] ?_;simp only[go_sem,ntmps37,f37]);(intro b3 hb3;try simp only[aK,aZ,aI,ne_eq]at hb3);simp only[go_sem,hb3];cases c:decide ((20000:Int)<(x.length:Int))with
 | true =>
  rw[if_pos (by simp at c;omega)]at hk;simp only[go_sem,hb3,c];simp only[go_sem]at hk;exact aP hk aX
 | false =>
  rw[if_neg (by simp at c;omega)]at hk;simp only[go_sem,hb3,c];refine aHL x hx ?_;cases hl:jS dG true x with
  | bad f =>
   rw[hl]at hk;simp only at hk⊢;simp only[go_sem,hb3];simp only[go_sem]at hk;exact aP hk aX
  | ok l =>
   rw[hl]at hk;simp only at hk⊢;intro r hr;have hk2:=hk r (by have:=hr;rw[aJ]at this;split at this;cases this;exact this);have e3:b3≠r:=λe=>by subst e;rw[aJ,if_pos rfl]at hr;cases hr
   simp only[Fault.enc,Fault.cs,Fault.none]at hk2⊢;have e3S:=e3.symm;simp only[go_sem,hb3,e3,e3.symm];exact aP hk2 aX
theorem aO7(x:aC)(hx:x.length<=4294967280)(hk:KV s (.tuple [(vN x).1.enc,(vN x).2.enc])):Den cx 15 [.str x] KV Kp s:=by
 have zd:A.le (.agg [.str [],.nils,.nils,.nils,.nils,.nils,.nils,.nils,.str [],.nils,.nils,.str [],.str []]) gL.enc:=aDj gL nV (s:=s) aCl;(refine aO func15 [0,2,3,4,5,13] ?_;simp only[go_sem,ntmps15,f15]);(intro b2 hb2;try simp only[aK,aZ,aI,ne_eq]at hb2);simp only[go_sem,hb2];(intro b3 hb3;try simp only[aK,aZ,aI,ne_eq]at hb3);simp only[go_sem,hb2,hb3];refine aIr x hx ?_;unfold vN at hk;split
 .rename_i c;rw[if_pos c]at hk;simp only[go_sem,hb2,hb3];(intro b5 hb5;try simp only[aK,aZ,aI,ne_eq]at hb5);simp only[go_sem,hb2,hb3,hb5];(refine bL (OT.r 0 4) [(2,[1])] ?_;simp only[go_sem,hb2,hb3,hb5]);exact DK.mk hk aX (A.le.tuple ⟨zd,bB _,trivial⟩)
 .rename_i c;rw[if_neg c]at hk;unfold aLe at hk;cases hl:jS dG true x with
  | bad f =>
   rw[hl]at hk;have hc0:decide (f.code=0)=false:=by rw[aCp hl];rfl
   simp only at hk⊢;simp only[go_sem,hb2,hb3];(intro b5 hb5;try simp only[aK,aZ,aI,ne_eq]at hb5);simp only[go_sem,hb2,hb3,hb5,hc0];(refine bL (OT.r 0 4) [(2,[1])] ?_;simp only[go_sem,hb2,hb3,hb5]);simp only[go_sem]at hk;exact DK.mk hk aX (A.le.tuple ⟨zd,bB _,trivial⟩)
  | ok T =>
   rw[hl]at hk;simp only at hk⊢;intro r hr;simp only[aI,ne_eq]at hr;simp only[go_sem,hb2,hb3,hr,Fault.none];(intro b5 hb5;try simp only[aK,aZ,aI,ne_eq]at hb5);simp only[go_sem,hb2,hb3,hr,hb5];refine aKl (T:=T) (fin:=kJ x) (aGc hx hl) gH ?_;unfold aDE;cases hd:kV false (kJ x) T with
   | bad f =>
    rw[hd]at hk;simp only at hk⊢;intro o;simp only[go_sem,hb2,hb3,hr,hb5];simp only[go_sem]at hk;exact aP hk aX
   | ok d w n =>
    rw[hd]at hk;simp only at hk⊢;intro o;simp only[go_sem,hb2,hb3,hr,hb5];simp only[go_sem]at hk;exact aP hk aX
theorem aPj(x:aC)(hx:x.length<=4294967280)(hk:KV s (.tuple [(aAp x).1.enc,(aAp x).2.enc])):Den cx 18 [.str x] KV Kp s:=by
 have zt:A.le (.agg [.int .i64 0,.int .i64 0,.str [],.str [],.nils,.nils]) sX.enc:=Tm.le_leaf 0 0 [] [];refine Den.drop ?_;refine aHd aIu aKQ func18 rfl rfl (lM rfl) ?_;refine ExD.seq ?_;refine bG (V:=[0,2,3,4,5,13,27]) _ _ _ _ ?_;simp only[go_sem,ntmps18,f18];(intro b2 hb2;try simp only[aK,aZ,aI,ne_eq]at hb2);simp only[go_sem,ntmps18,f18,hb2];(intro b3 hb3;try simp only[aK,aZ,aI,ne_eq]at hb3);simp only[go_sem,ntmps18,f18,hb2,hb3];refine ExD.seq ?_;refine bG (V:=[0,2,3,4,5,13,27]) _ _ _ _ ?_;simp only[go_sem,ntmps18,f18,hb2,hb3];refine aIr x hx ?_;unfold aAp at hk;split
 .rename_i c;rw[if_pos c]at hk;simp only[go_sem,ntmps18,f18,hb2,hb3];refine ExD.seq ?_;refine bG (V:=[0,2,3,4,5,13,27]) _ _ _ _ ?_;simp only[go_sem,ntmps18,f18,hb2,hb3];(refine bL (OT.r 0 4) [(2,[1])] ?_;simp only[go_sem,ntmps18,f18,hb2,hb3]);exact DK.mk hk aX (A.le.tuple ⟨zt,bB _,trivial⟩)
 .rename_i c;rw[if_neg c]at hk;cases hl:jS dG true x with
  | bad f =>
   rw[hl]at hk;have hc0:decide (f.code=0)=false:=by rw[aCp hl];rfl
   simp only at hk⊢;simp only[go_sem,ntmps18,f18,hb2,hb3];refine ExD.seq ?_;refine bG (V:=[0,2,3,4,5,13,27]) _ _ _ _ ?_;simp only[go_sem,ntmps18,f18,hb2,hb3,hc0];(refine bL (OT.r 0 4) [(2,[1])] ?_;simp only[go_sem,ntmps18,f18,hb2,hb3]);simp only[go_sem]at hk;exact DK.mk hk aX (A.le.tuple ⟨zt,bB _,trivial⟩)
  | ok T =>
   rw[hl]at hk;have hT:=aGc hx hl;have hlenT:=hT.len;simp only at hk⊢;intro r hr;simp only[aI,ne_eq]at hr;simp only[go_sem,hb2,hb3,ntmps18,f18,hr,Fault.none];refine ExD.seq ?_;refine bG (V:=[0,2,3,4,5,13,27]) _ _ _ _ ?_;simp only[go_sem,hb2,hb3,ntmps18,f18,hr];refine ExD.defer (by rfl) (b:=b3) (by simp only[go_sem,hb2,hb3,ntmps18,f18,hr]) ?_;refine bG (V:=[0,2,3,4,5,13,27]) _ _ _ _ ?_;simp only[go_sem,hb2,hb3,ntmps18,f18,hr];have n23:b2≠b3:=by first|exact hb3.1.1|exact hb3.1
   have hrb2:r≠b2:=λe=>hr.2.1.2 e
   have hrb3:r≠b3:=λe=>hr.1.2 e
   have hs:s.getO r=none:=hr.2.2
   have bad:∀(f:Fault) (s1:St) (e:Env),e.get 2=some (.ptr b2 0)->e.get 3=some (.ptr b3 0)->KV s (.tuple [sX.enc,f.enc]) ->
     s1.getO b2=some (.cells 43 [.int .i64 0,.int .i64 0,.str [],.str [],.nils,.nils])->s1.getO b3=some (.cells 36 [.int .i64 0,.str [],.int .i64 0,.int .i64 0])->s1.ge s ->
     vY cx [ResultVar.cell 2 43,ResultVar.cell 3 36] (DK KV) (DK Kp) (some b3) (.panic (.iface 36 f.enc)) e s1:=by
    intro f s1 e g2 g3 hb q2 q3 hg;simp only[go_sem,q2,q3,n23,n23.symm,g2,g3];refine⟨f.cs,_,rfl,rfl,rfl,rfl,?_⟩;simp only[go_sem,q2,q3,n23,n23.symm,g2,g3];simp only[go_sem]at hb;exact DK.mk hb (pQ (tU (by first|exact hb3.2|exact hb3.2.2) (aCa hg _ _))) (A.le.tuple ⟨zt,bB _,trivial⟩)
   have hk2:(gE false (kJ x) T 0).to (λt w _=>match w with|[]=>KV s (.tuple [t.enc,Fault.none.enc])|t::w=>KV s (.tuple [sX.enc,(fW (kJ x) 11 (t::w)).enc])) (λf=>KV s (.tuple [sX.enc,f.enc])):=by
    revert hk;cases gE false (kJ x) T 0 with
    | bad f=>exact id
    | ok t w n=>cases w<;>exact id
   refine sB (d:=cH gL nV) (T:=T) (fin:=kJ x) (first:=qN) (i:=0) (n:=0) hT (by simp only[aJ,eD,kB,aZ,ne_eq,dK,reduceIte,hb2,hb3,ntmps18,f18,hr]<;>(first|done|rfl|assumption)) (aU _) (aU _) (aT (show(gE false (kJ x) (T.drop 0) 0).to _ _ from hk2) (λt w m hk3 j hj hjT hw hm=>?_) (λf h o=>?_));rotate_left
   .refine bad f _ _ rfl rfl h ?_ ?_ ?_
    .exact(by simp only[aJ,eD,kB,aZ,ne_eq,dK,reduceIte,hb2,hb3,ntmps18,f18,hr,hrb2,hrb3,hrb2.symm,hrb3.symm,n23,n23.symm]<;>(first|done|rfl|assumption))
    .exact(by simp only[aJ,eD,kB,aZ,ne_eq,dK,reduceIte,hb2,hb3,ntmps18,f18,hr,hrb2,hrb3,hrb2.symm,hrb3.symm,n23,n23.symm]<;>(first|done|rfl|assumption))
    .exact aX
   simp only[go_sem,hb2,hb3,ntmps18,f18,hr,dH];(intro b5 hb5;try simp only[aK,aZ,aI,ne_eq]at hb5);simp only[go_sem,hb2,hb3,ntmps18,f18,hr,hb5];(refine bL (OT.r 0 10) [] ?_;simp only[go_sem,hb2,hb3,ntmps18,f18,hr,hb5]);cases hc:decide (j<T.length)with
   | true =>
    have hlt:j<T.length:=by simpa using hc
    cases w with
    | nil=>exfalso;have:=congrArg List.length hw;rw[dR,aF]at this;omega
    | cons t2 w2 =>
     simp only[go_sem,hb2,hb3,ntmps18,f18,hr,hb5];refine oH (d:=cH gL nV) (T:=T) (fin:=kJ x) (first:=qN) (i:=j) (n:=m) 11 (by simp only[aJ,eD,kB,aZ,ne_eq,dK,reduceIte,hb2,hb3,ntmps18,f18,hr,hb5]<;>(first|done|rfl|assumption)) hjT hT ?_;rw[hw];refine bad _ _ _ rfl rfl hk3 ?_ ?_ ?_
     .exact(by simp only[aJ,eD,kB,aZ,ne_eq,dK,reduceIte,hb2,hb3,ntmps18,f18,hr,hb5,hrb2,hrb3,hrb2.symm,hrb3.symm,n23,n23.symm]<;>(first|done|rfl|assumption))
     .exact(by simp only[aJ,eD,kB,aZ,ne_eq,dK,reduceIte,hb2,hb3,ntmps18,f18,hr,hb5,hrb2,hrb3,hrb2.symm,hrb3.symm,n23,n23.symm]<;>(first|done|rfl|assumption))
     .exact aX
   | false =>
    have hge:¬ j<T.length:=by simpa using hc
    cases w with
    | cons t2 w2=>exfalso;have:=congrArg List.length hw;rw[dR,aE]at this;omega
    | nil =>
     simp only[dH]at hk3;simp only[go_sem,hb2,hb3,ntmps18,f18,hr,hb5];(refine bL (OT.r 0 4) [(2,[1])] ?_;simp only[go_sem,hb2,hb3,ntmps18,f18,hr,hb5]);simp only[go_sem]at hk3;exact aP hk3 aX
end
end
section
theorem bV{α β:Type}(a:α)(w:List Tok)(n:Nat)(k:α->List Tok->Nat->Rd β):(Rd.ok a w n).bind k=k a w n:=rfl
theorem fV(x y:aC)(w:List Tok):isT x (aR y::w)=decide (y=x):=by simp[isT,eH,aR];exact gG.2 Iff.rfl
theorem tS(x y:aC)(w:List Tok):isT x (bE y::w)=decide (y=x):=by simp[isT,eH,bE];exact gG.2 Iff.rfl
section
variable (fin:Fault) (first:Tok)
theorem aGj{t:Tm}(h:Gd t)(w:List Tok):isT [124] (bH t.pc++w)=false/\isT [93] (bH t.pc++w)=false/\isT [125] (bH t.pc++w)=false/\isT [41] (bH t.pc++w)=false:=by
 obtain⟨u,P,e,hu⟩:=h.hd;rw[e,bH,aV];exact⟨hu.n1,hu.n2,hu.n3,hu.n4⟩
theorem aQX(t:Tm)(l:List Tm):bH (eS true (t::l))=aR [44]::bH (eS false (t::l)):=by
 simp only[eS,oE,if_true,cJ,if_false,aW,aV,bH]
theorem aP6(t u:Tm)(l:List Tm):bH (fA true (t::u::l))=aR [44]::bH (fA false (t::u::l)):=by
 simp only[fA,oE,if_true,cJ,if_false,aW,aV,bH]
theorem aFg(f:Tm->Nat->Option Nat)(one:List Tm->List Tok->Nat->Rd Tm)(B:Nat):∀(l:List Tm) (acc:List Tm) (m m':Nat) (w:List Tok) (g:Nat),
  (∀acc t m m' w,acc.length<B->t∈l->f t m=some m'->one acc (bH t.pc++w) m=.ok t w m')->l≠[]->l.length<=g->acc.length+l.length<=B->dU f l m=some m'->isT [44] w=false ->
  dD fin [44] (λacc w n=>(one acc w n).bind λa w n=>.ok (acc++[a]) w n) g acc (bH (eS false l)++w) m=.ok (acc++l) w m'
 | [],acc,m,m',w,g,h1,hne,_,_,_,_=>absurd rfl hne
 | t::r,acc,m,m',w,g,h1,_,hg,hB,hm,hw=>by
  obtain⟨g,rfl⟩:∃g',g=g'+1:=⟨g-1,by simp only[aE]at hg;omega⟩
  simp only[dU]at hm;cases hf:f t m with
  | none=>rw[hf]at hm;cases hm
  | some m1 =>
   rw[hf]at hm;simp only[Option.bind_some]at hm;simp only[aE]at hg hB
   have e1:bH (eS false (t::r))++w=bH t.pc++(bH (eS true r)++w):=by
    simp only[eS,oE,cJ,if_false,aW,lF,bI]
   rw[e1,dD,h1 acc t m m1 _ aB (bY ..) hf];simp only[bV];cases r with
   | nil =>
    simp only[dU,bJ]at hm;subst hm;rw[show bH (eS true [])++w=w from rfl,if_neg (by rw[hw];decide)]
   | cons u r =>
    have e2:bH (eS true (u::r))++w=aR [44]::(bH (eS false (u::r))++w):=by rw[aQX,aV]
    rw[e2,fV,if_pos aD,List.tail_cons,aFg f one B (u::r) (acc++[t]) m1 m' w g (λacc t m m' w ha ht=>h1 acc t m m' w ha (cT _ ht)) bD (by simp only[aE]at hg⊢;omega) (by simp only[aE,aG,aF]at hB⊢;omega) hm hw,bI];rfl
theorem aJb(f:Tm->Nat->Option Nat)(tm:List Tok->Nat->Rd Tm):∀(q:Nat) (l:List Tm) (acc:List Tm) (m m':Nat) (w:List Tok) (g:Nat),l.length<=q->l.length % 2=0 ->
  (∀t m m' w,t∈l->f t m=some m'->tm (bH t.pc++w) m=.ok t w m')->l≠[]->l.length<=g->dU f l m=some m'->isT [44] w=false ->
  dD fin [44] (nX fin tm) g acc (bH (fA false l)++w) m=.ok (acc++l) w m'
 | q,[],acc,m,m',w,g,_,_,h1,hne,_,_,_=>absurd rfl hne
 | q,[_],acc,m,m',w,g,_,he,_,_,_,_,_=>by simp at he
 | 0,k::v::r,acc,m,m',w,g,hq,_,_,_,_,_,_=>by simp at hq
 | q+1,k::v::r,acc,m,m',w,g,hq,he,h1,_,hg,hm,hw=>by
  simp only[aE]at hg hq he;obtain⟨g,rfl⟩:∃g',g=g'+1:=⟨g-1,by omega⟩
  simp only[dU]at hm;cases hf:f k m with
  | none=>rw[hf]at hm;cases hm
  | some m1 =>
   rw[hf]at hm;simp only[Option.bind_some]at hm;cases hf2:f v m1 with
   | none=>rw[hf2]at hm;cases hm
   | some m2 =>
    rw[hf2]at hm;simp only[Option.bind_some]at hm
    have e1:bH (fA false (k::v::r))++w=bH k.pc++(aR [45,62]::(bH v.pc++(bH (fA true r)++w))):=by
     simp only[fA,oE,cJ,if_false,aW,lF,bH,bI,aV]
    rw[e1,dD];simp only[nX];rw[h1 k m m1 _ (bY ..) hf];simp only[bV,fZ];rw[fV,if_pos aD];simp only[List.tail_cons,bV];rw[h1 v m1 m2 _ (cT _ (bY ..)) hf2];simp only[bV];cases r with
    | nil =>
     simp only[dU,bJ]at hm;subst hm;rw[show bH (fA true [])++w=w from rfl,if_neg (by rw[hw];decide)]
    | cons u r =>
     cases r with
     | nil=>simp at he
     | cons x r =>
     have e2:bH (fA true (u::x::r))++w=aR [44]::(bH (fA false (u::x::r))++w):=by rw[aP6,aV]
     rw[e2,fV,if_pos aD,List.tail_cons,aJb f tm q (u::x::r) (acc++[k,v]) m2 m' w g (by simp only[aE]at hq⊢;omega) (by simp only[aE]at he⊢;omega) (λt m m' w ht=>h1 t m m' w (cT _ (cT _ ht))) bD (by simp only[aE]at hg⊢;omega) hm hw,bI];rfl
theorem aAR{x:aC}(hr:x ∉ gX):(bE x).free=true:=by
 unfold Tok.free bE;simp[hr]
theorem aBq(e:Bool)(S:aC)(rs:List Tm)(h:sL S rs):bH (gV e rs)=[]/\rs=[]\/∃x,rs=[.mk 6 0 x S [] []]/\bH (gV e rs)=[aR [124],bE x]/\x ∉ gX:=by
 rcases h with rfl|⟨x,rfl,_,hr⟩
 .exact .inl ⟨rfl,rfl⟩
 .exact .inr ⟨x,rfl,by cases e<;>rfl,hr⟩
theorem aH6{S:aC}{rs:List Tm}(h:sL S rs)(e:Bool)(k m m':Nat)(c:aC)(hc:c≠[124])(w:List Tok)(hm:jH k rs.length m=some m') :
  qO fin first (decide (k=0)) S (bH (gV e rs)++aR c::w) m=.ok rs (aR c::w) m':=by
 rcases aBq e S rs h with⟨h1,h2⟩|⟨x,h2,h1,hr⟩
 .rw[h1,aW];subst h2;simp only[jH,aF,if_true,bJ]at hm;subst hm;unfold qO;rw[fV,if_neg (by simp[hc])]
 .rw[h1];subst h2;simp only[jH,aE,aF,gI,Nat.succ_ne_zero,if_false]at hm;split at hm
  .rename_i hk;simp only[bJ]at hm;subst hm;unfold qO;rw[aV,fV,if_pos aD];simp only[List.tail_cons,aV,aW];rw[if_pos (aAR hr),if_neg (by simp;omega)];unfold oO;rw[if_neg aB];rfl
  .cases hm
end
end
section
section
variable (fin:Fault) (first:Tok)
theorem aCW{m:Nat}(h:m+1<=2000)(w:List Tok):oO first w m=.ok () w (m+1):=by
 unfold oO;rw[if_neg aB]
theorem aCC(x:aC):(aR x).text=x:=rfl
theorem vD(x:aC):(bE x).text=x:=rfl
theorem aOb(x:aC)(l c:Int):Tok.begins ⟨3,x,0,l,c⟩=true:=rfl
theorem aON(n:Int)(l c:Int):Tok.begins ⟨2,[],n,l,c⟩=true:=rfl
theorem zE(k m:Nat)(x:aC)(w:List Tok)(hx:(aR x).begins=true)(h:m+1<=2000) :
  fC false fin first (k+1) (aR x::w) m=mV fin first (fC false fin first k) (decide (k=0)) (aR x) w (m+1):=by
 rw[fC,if_pos hx,aCW first h,bV,if_neg (by simp[aR]),if_neg (by simp[aR]),if_neg (by simp[aR])]
theorem aC3(k m:Nat)(x:aC)(w:List Tok)(hx:(bE x).begins=true)(h:m+1<=2000) :
  fC false fin first (k+1) (bE x::w) m=sH false fin first (fC false fin first k) (bE x) w (m+1):=by
 rw[fC,if_pos hx,aCW first h,bV,if_neg (by simp[bE]),if_neg (by simp[bE]),if_pos (by simp[bE])]
theorem aLt{x:aC}(h:x ∉ gX):x≠aAi/\x≠aAb:=by
 refine⟨?_,?_⟩<;>(rintro rfl;exact h aD)
theorem iC(x:aC)(w:List Tok)(n:Nat):fZ fin x (aR x::w) n=.ok () w n:=by
 unfold fZ;rw[fV,if_pos bD,List.tail_cons]
theorem aF9:∀(l:List Tm),(∀y,y∈l->Gd y)->∀b,l.length<=(bH (eS b l)).length
 | [],_,b=>aU _
 | t::r,h,b=>by
  obtain⟨u,P,e,_⟩:=(h t (bY ..)).hd;have:=aF9 r (λy hy=>h y (cT _ hy)) true;simp only[eS,lF,aG,e,bH,aE];omega
theorem aKy:∀(m:Nat) (l:List Tm),l.length<=m->l.length % 2=0->(∀y,y∈l->Gd y)->∀b,l.length<=(bH (fA b l)).length
 | _,[],_,_,_,b=>aU _
 | _,[_],_,he,_,b=>by simp at he
 | 0,k::v::r,hm,_,_,b=>by simp at hm
 | m+1,k::v::r,hm,he,h,b=>by
  simp only[aE]at hm he;obtain⟨u,P,e,_⟩:=(h k (bY ..)).hd;obtain⟨u2,P2,e2,_⟩:=(h v (cT _ (bY ..))).hd;have:=aKy m r aB aB (λy hy=>h y (cT _ (cT _ hy))) true;simp only[fA,lF,aG,e,e2,bH,aE];omega
theorem aRm:∀(k:Nat) (t:Tm) (m m':Nat) (w:List Tok),Gd t->eF k t m=some m'->fC false fin first k (bH t.pc++w) m=.ok t w m':=by
 intro k
 induction k with
 | zero=>intro t m m' w hg h;cases h
 | succ k ih =>
  intro t m m' w hg h
  have h2000:m+1<=2000:=by
   cases t;simp only[eF]at h;split at h
   ·assumption
   .cases h
  cases hg with
  | int n h1 h2 =>
   have hm:m'=m+1:=by
    simp only[eF,dU,jH,h2000,if_true,Option.bind_some,aF,bJ]at h;exact h.symm
   subst hm;rw[pc1];by_cases hn:n<0
   .rw[if_pos hn];simp only[bH,aV,aW];rw[zE fin first k m _ _ aD h2000];unfold mV;rw[aCC,if_pos rfl];simp only[aR];rw[if_pos aD,show - -n=n by omega]
   .rw[if_neg hn];simp only[bH,aV,aW];rw[fC,if_pos (aON ..),aCW first h2000,bV,if_pos rfl]
  | bool n hb =>
   have hm:m'=m+1:=by
    simp only[eF,dU,jH,h2000,if_true,Option.bind_some,aF,bJ]at h;exact h.symm
   subst hm;rw[pc2];simp only[bH,aV,aW];rcases hb with rfl|rfl
   .rw[if_neg aD,aC3 fin first k m _ _ aD h2000];rfl
   .rw[if_pos rfl,aC3 fin first k m _ _ aD h2000];rfl
  | text x hx =>
   have hm:m'=m+1:=by
    simp only[eF,dU,jH,h2000,if_true,Option.bind_some,aF,bJ]at h;exact h.symm
   subst hm;rw[pc3];simp only[bH,aV,aW];rw[fC,if_pos (aOb ..),aCW first h2000,bV];simp only;rw[if_neg aD,if_pos (by trivial)]
  | id x hx hr =>
   have hm:m'=m+1:=by
    simp only[eF,dU,jH,h2000,if_true,Option.bind_some,aF,bJ]at h;exact h.symm
   subst hm;rw[pc4];simp only[bH,aV,aW];rw[zE fin first k m _ _ aD h2000];unfold mV;rw[aCC,if_neg aD,if_pos rfl];simp only;rw[if_pos ⟨aAR hr,hx⟩];rfl
  | app x ks hx hr hl hk =>
   obtain⟨g1,g2⟩:=aLt hr
   have hm:dU (eF k) ks (m+1)=some m':=by
    simp only[eF,h2000,if_true]at h;cases hf:dU (eF k) ks (m+1)with
    | none=>rw[hf]at h;cases h
    | some m1 =>
     rw[hf]at h;simp only[Option.bind_some,jH,aF,if_true]at h;exact h
   rw[pc5];simp only[bH,lF,aV,aW,bI];rw[aC3 fin first k m _ _ (aBb hx (.inl hr)).b h2000];unfold sH;rw[vD,if_neg g1,if_neg g2,fV,if_neg aD,iC,bV];cases ks with
   | nil =>
    simp only[dU,bJ]at hm;subst hm;rw[show bH (eS false [])++aR [41]::w=aR [41]::w from rfl,fV,if_pos aD];rfl
   | cons t r =>
    have e1:bH (eS false (t::r))++aR [41]::w=bH t.pc++(bH (eS true r)++aR [41]::w):=by
     simp only[eS,oE,cJ,if_false,aW,lF,bI]
    rw[e1,(aGj (hk t (bY ..)) _).2.2.2,if_neg aD,<-e1];unfold jR;rw[aFg fin (eF k) _ 8 (t::r) [] (m+1) m' _ _ (λacc y m m' w ha hy hf=>?_) bD ?_ (by simpa using hl) hm (by rw[fV];decide)]
    .rw[bV,iC,bV];rfl
    .have:=aF9 (t::r) hk false;rw[aG];omega
    .unfold nY;rw[if_neg aB];exact ih y m m' w (hk y hy) hf
  | opn x hx =>
   have hm:m'=m+1:=by
    simp only[eF,dU,jH,h2000,if_true,Option.bind_some,aF,bJ]at h;exact h.symm
   subst hm;rw[wC,if_pos hx];simp only[bH,aV,aW];rcases hx with rfl|rfl
   .rw[zE fin first k m _ _ aD h2000];rfl
   .rw[zE fin first k m _ _ aD h2000];rfl
  | var x s hx hr hs hrs =>
   obtain⟨g1,g2⟩:=aLt hr;obtain⟨_,_,_,_,_,h6,h7⟩:=vK hx
   have hm:m'=m+1:=by
    simp only[eF,dU,jH,h2000,if_true,Option.bind_some,aF,bJ]at h;exact h.symm
   subst hm;rw[wC,if_neg (by simp[h6,h7])];simp only[bH,aV,aW];rw[aC3 fin first k m _ _ (aBb hx (.inl hr)).b h2000];unfold sH;rw[vD,if_neg g1,if_neg g2,fV,if_pos aD,List.tail_cons];unfold eN;simp only;rw[if_pos (aAR hrs)];rfl
  | list ks rs hk hr =>
   obtain⟨m1,hm,hmr⟩:∃m1,dU (eF k) ks (m+1)=some m1/\jH k rs.length m1=some m':=by
    simp only[eF,h2000,if_true]at h;cases hf:dU (eF k) ks (m+1)with
    | none=>rw[hf]at h;cases h
    | some m1=>rw[hf]at h;exact⟨m1,rfl,h⟩
   rw[pc7];simp only[bH,lF,aV,aW,bI];rw[zE fin first k m _ _ aD h2000];unfold mV;rw[aCC,if_neg aD,if_neg aD,if_pos rfl]
   have hel:(if isT [124] (bH (eS false ks)++(bH (gV ks.isEmpty rs)++aR [93]::w))=true\/isT [93] (bH (eS false ks)++(bH (gV ks.isEmpty rs)++aR [93]::w))=true then Rd.ok [] (bH (eS false ks)++(bH (gV ks.isEmpty rs)++aR [93]::w)) (m+1)
     else jR fin (λ_=>fC false fin first k) [] (bH (eS false ks)++(bH (gV ks.isEmpty rs)++aR [93]::w)) (m+1))=Rd.ok ks (bH (gV ks.isEmpty rs)++aR [93]::w) m1:=by
    cases ks with
    | nil =>
     simp only[dU,bJ]at hm;subst hm;rw[show∀W,bH (eS false [])++W=W fromλW=>rfl];rw[if_pos];rcases aBq true aDr rs hr with⟨e,_⟩|⟨y,_,e,_⟩
     .rw[show bH (gV ([]:List Tm).isEmpty rs)=[] from e];exact .inr (by rw[aW,fV];decide)
     .rw[show bH (gV ([]:List Tm).isEmpty rs)=[aR [124],bE y] from e];exact .inl (by rw[aV,fV];decide)
    | cons t r =>
     have e1:∀W,bH (eS false (t::r))++W=bH t.pc++(bH (eS true r)++W):=by
      intro W;simp only[eS,oE,cJ,if_false,aW,lF,bI]
     obtain⟨q1,q2,_⟩:=aGj (hk t (bY ..)) (bH (eS true r)++(bH (gV (t::r).isEmpty rs)++aR [93]::w));rw[if_neg (by rw[e1,q1,q2];simp)];unfold jR;rw[aFg fin (eF k) _ (t::r).length (t::r) [] (m+1) m1 _ _ (λacc y m m' w ha hy hf=>ih y m m' w (hk y hy) hf) bD ?_ bD hm ?_]
     .rfl
     .have:=aF9 (t::r) hk false;rw[aG];omega
     .rcases aBq (t::r).isEmpty aDr rs hr with⟨e,_⟩|⟨y,_,e,_⟩
      .rw[e,aW,fV];decide
      .rw[e,aV,fV];decide
   rw[hel,bV,aH6 fin first hr _ k m1 m' [93] aD w hmr,bV,iC,bV]
  | map ks rs he hk hr =>
   obtain⟨m1,hm,hmr⟩:∃m1,dU (eF k) ks (m+1)=some m1/\jH k rs.length m1=some m':=by
    simp only[eF,h2000,if_true]at h;cases hf:dU (eF k) ks (m+1)with
    | none=>rw[hf]at h;cases h
    | some m1=>rw[hf]at h;exact⟨m1,rfl,h⟩
   rw[pc8];simp only[bH,lF,aV,aW,bI];rw[zE fin first k m _ _ aD h2000];unfold mV;rw[aCC,if_neg aD,if_neg aD,if_neg aD,if_pos rfl]
   have hel:(if isT [124] (bH (fA false ks)++(bH (gV ks.isEmpty rs)++aR [125]::w))=true\/isT [125] (bH (fA false ks)++(bH (gV ks.isEmpty rs)++aR [125]::w))=true then Rd.ok [] (bH (fA false ks)++(bH (gV ks.isEmpty rs)++aR [125]::w)) (m+1)
     else dD fin [44] (nX fin (fC false fin first k)) ((bH (fA false ks)++(bH (gV ks.isEmpty rs)++aR [125]::w)).length+1) [] (bH (fA false ks)++(bH (gV ks.isEmpty rs)++aR [125]::w)) (m+1))=Rd.ok ks (bH (gV ks.isEmpty rs)++aR [125]::w) m1:=by
    cases ks with
    | nil =>
     simp only[dU,bJ]at hm;subst hm;rw[show∀W,bH (fA false [])++W=W fromλW=>rfl];rw[if_pos];rcases aBq true aDz rs hr with⟨e,_⟩|⟨y,_,e,_⟩
     .rw[show bH (gV ([]:List Tm).isEmpty rs)=[] from e];exact .inr (by rw[aW,fV];decide)
     .rw[show bH (gV ([]:List Tm).isEmpty rs)=[aR [124],bE y] from e];exact .inl (by rw[aV,fV];decide)
    | cons t r =>
     cases r with
     | nil=>simp at he
     | cons v r =>
     have e1:∀W,bH (fA false (t::v::r))++W=bH t.pc++(aR [45,62]::(bH v.pc++(bH (fA true r)++W))):=by
      intro W;simp only[fA,oE,cJ,if_false,aW,lF,bH,bI,aV]
     obtain⟨q1,_,q3,_⟩:=aGj (hk t (bY ..)) (aR [45,62]::(bH v.pc++(bH (fA true r)++(bH (gV (t::v::r).isEmpty rs)++aR [125]::w))));rw[if_neg (by rw[e1,q1,q3];simp)];rw[aJb fin (eF k) _ _ (t::v::r) [] (m+1) m1 _ _ (bT _) he (λy m m' w hy hf=>ih y m m' w (hk y hy) hf) bD ?_ hm ?_]
     .rfl
     .have:=aKy _ (t::v::r) (bT _) he hk false;rw[aG];omega
     .rcases aBq (t::v::r).isEmpty aDz rs hr with⟨e,_⟩|⟨y,_,e,_⟩
      .rw[e,aW,fV];decide
      .rw[e,aV,fV];decide
   rw[hel,bV,aH6 fin first hr _ k m1 m' [125] aD w hmr,bV,iC,bV]
end
end
end Go.AV
