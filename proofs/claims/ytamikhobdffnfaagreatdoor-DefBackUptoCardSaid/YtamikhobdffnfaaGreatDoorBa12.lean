/-
  Of DefBack.
-/
import Derived.Test.YtamikhobdffnfaaGreatDoorBa11
set_option linter.all false
set_option maxRecDepth 99999
set_option maxHeartbeats 0
namespace Go.AV
open Go Go.Proofs Tryz
section
section
variable {T:List Tok} {fin:Fault} {d:Dc} {first:Tok} {i n:Nat} {s:St} {r:Nat} {KV Kp:St->A->Prop}
theorem aVd(tk:Option Nat){es m:List A}(h:tk=none->es=[])(hl:aBu es m):A.le (gv tk es) (.list none m):=by
 cases tk with
 | none =>
  rw[h rfl]at hl;have:m=[]:=fW (by rw[<-aGJ hl];rfl);rw[this];exact A.le.nil
 | some t=>exactλg v u=>(A.le.list hl) g v ((A.le.forget t es) g v u)
theorem aOG(m:List Part):aBu (m.map vO) (m.map Part.enc):=by
 induction m with
 | nil=>trivial
 | cons p m u =>
  refine⟨?_,u⟩;simp only[vO,Part.enc,Part.cs,A.cells,Tm.cs,aZ,bA];exact⟨⟨bH _,rfl⟩,⟨bH _,rfl⟩,⟨bH _,rfl⟩,⟨bH _,rfl⟩,⟨bH _,rfl⟩,⟨bH _,rfl⟩,⟨bH _,rfl⟩,⟨bH _,rfl⟩,⟨aNd _,rfl⟩,⟨bH _,rfl⟩,⟨bH _,rfl⟩,trivial⟩
theorem aSf(hT:TOk T)(t:Tok)(hr:s.getO r=some (bK T fin d first i n))(hi:i<=T.length)(hn:n<=2000)
  (hk:(xQ false fin t.line t.col (T.drop i) n).to (PK T i (λj m=>s.setO r (bK T fin d first j m)) Rul.enc KV) (PB s r Kp)):Den cx 154 [.ptr r 0,t.enc] KV Kp s:=by
 have hlenT:=hT.len;simp only[xQ,bX]at hk;simp only[go_sem];(refine aR func154 [0,1,3,4,5,6,7,8,19,42] ?_;simp only[go_sem,ntmps154,f154]);(intro b3 hb3;try simp only[jE,cO,dG]at hb3);have e3:=cJ hr (mD hb3);simp only[go_sem,hb3,e3];(intro b4 hb4;try simp only[jE,cO,dG]at hb4);have e4:=cJ hr (mD hb4);simp only[go_sem,hb3,e3,hb4,e4];(refine bO (OT.l [0,2,3,4,5,1,6,7,8] .nil) [(1,[3,5]),(7,[3,5])] ?_;simp only[go_sem,hb3,e3,hb4,e4]);(refine jJ (T:=T) (fin:=fin) (d:=d) (first:=first) (i:=i) (n:=n) gH hi hT (bB hk (λx1 w1 m1 hk1 hlt1 hw1 hm1=>?_) (λf h=>PB.mk aY h));subst m1;rw[<-hw1]at hk1);simp only[go_sem,hb3,e3,hb4,e4];(intro b5 hb5;try simp only[jE,cO,dG]at hb5);have e5:=cJ hr (mD hb5);simp only[go_sem,hb3,e3,hb4,e4,hb5,e5];(refine gC (T:=T) (fin:=fin) (d:=d) (first:=first) (i:=i+1) (n:=n) _ gH hlt1 hT (bB hk1 (λ_ w2 m2 hk2 hlt2 hw2 hm2=>?_) (λf h=>PB.mk aY h));subst m2;rw[<-hw2]at hk2);simp only[go_sem,hb3,e3,hb4,e4,hb5,e5];rw[show(T.drop (i+1+1)).length=T.length-(i+1+1)by rw[eC]]at hk2
 have h5:((s.setO b3 (.cells 60 t.cs)).setO b4 (.cells 84 [.str [],.nils,.nils,.nils,.nils,.int .i64 0,.int .i64 0])).getO b5=none:=by
  rw[aL,aB hb5.2.1.1,aL,aB hb5.2.2.1.1];exact hb5.2.2.2
 generalize hs2:(s.setO b3 (.cells 60 t.cs)).setO b4 (.cells 84 [.str [],.nils,.nils,.nils,.nils,.int .i64 0,.int .i64 0])=s2 at h5
 have hs2O:∀b o,s.getO b=some o->s2.getO b=some o:=λb o h=>by
  subst hs2;rw[aL,aB (λe=>by subst e;rw[hb4.2]at h;cases h),aL,aB (λe=>by subst e;rw[hb3]at h;cases h)];exact h
 have hs2g:s2.ge s:=⟨hs2O,λu m hm=>by subst hs2;exact hm,λx hx=>by subst hs2;exact hx⟩;have hg2:∀s1:St,s1.gx s2 r->s1.gx s r:=λs1 h=>⟨λc hc x hx=>h.ob c hc x (hs2O c x hx),λu m hm=>h.tk u m (by subst hs2;exact hm),λx hx=>h.ls x (by subst hs2;exact hx)⟩
 have h24:s2.getO b4=some (.cells 84 [.str [],.nils,.nils,.nils,.nils,.int .i64 0,.int .i64 0]):=by subst hs2;rw[aL,aF rfl]
 have PBk:∀(s1:St) (f:Fault),s1.gx s2 r->PB s r Kp f->PB s1 r (DK Kp) f:=λs1 f hg h o=>h.at (eX (hg2 _ hg)) (by rw[aL,aF rfl])
 refine Ex.loop (ι:=(Rul × Option Nat × Option Nat × Option Nat) × Nat × Bool × Nat × Nat) (λc=>[(0,.ptr r 0),(3,.ptr b3 0),(4,.ptr b4 0),(5,.ptr b5 0),(6,.int .i64 c.2.1),(7,.bool c.2.2.1)])
  (λc=>iG T fin d first b5 r s2 c.1.1 c.1.2.1 c.1.2.2.1 c.1.2.2.2 c.2.2.2.1 c.2.2.2.2)
  (fun c => RulQ b5 r s2 c.1.1 c.1.2.1 c.1.2.2.1 c.1.2.2.2 c.2.2.2.1 ∧ c.2.1 ≤ c.2.2.2.1 ∧ i + 1 + 1 ≤ c.2.2.2.1 ∧ c.2.2.2.1 ≤ T.length ∧ c.2.2.2.2 ≤ 2000 ∧
   (match c.2.2.1 with
    | true=>∃k,T.length-c.2.2.2.1<k/\(dK fin [59] (sX false fin) k (c.1.1,c.2.1) (T.drop c.2.2.2.1) c.2.2.2.2).to (λa w n=>(qT false fin w n).to (λl w n=>PK T i (λj m=>s.setO r (bK T fin d first j m)) Rul.enc KV { a.1 with cond:=l } w n) (PB s r Kp)) (PB s r Kp)
    | false=>(qT false fin (T.drop c.2.2.2.1) c.2.2.2.2).to (λl w n=>PK T i (λj m=>s.setO r (bK T fin d first j m)) Rul.enc KV { c.1.1 with cond:=l } w n) (PB s r Kp)))
  (λc=>T.length-c.2.2.2.1) ((⟨x1,[],[],[],[],t.line,t.col⟩,none,none,none),0,true,i+1+1,n) ?_ ?_ ?_ ?_
 .refine⟨⟨⟨?_,?_,?_⟩,h5,hb5.1.2,aU _,aU _,aU _⟩,aU _,aV _,hlt2,hn,_,iD _,hk2⟩
  .intro o ho u hu;simp only[fV,eA,pF,eS]at ho;rcases ho with rfl|rfl|rfl<;>cases hu
  .intro o ho _;simp only[fV,eA,pF,eS]at ho;rcases ho with rfl|rfl|rfl<;>rfl
  .intro i j a b u hi hj ha hb;have:=bZ hi;simp only[fV,eA,pF,eS]at this;rcases this with rfl|rfl|rfl<;>cases ha
 .simp only[go_sem,hb3,e3,hb4,e4,hb5,e5];rfl
 .show St.ge _ ((s2.setO b5 _).setO r _);subst hs2;exact bC
 .rintro⟨⟨x,tp,tn,td⟩,cnt,more,i2,n2⟩ ⟨hQ,hcnt,hi1,hi2,hn2,hk3⟩;simp only at hQ hcnt hi1 hi2 hn2 hk3;have hQ0:=hQ;obtain⟨hown,hb,hne,l1,l2,l3⟩:=hQ;have hfr:=hown.free;have n45:=hb5.2.1.1;have n54:=hb5.2.1.2;refine bE (V:=[0,1,3,4,5,6,7,8,19,42]) _ _ _ _ ?_;cases more with
  | false =>
   simp only at hk3;unfold iG wI;have hneS:=hne.symm;simp only[go_sem,aN,hne,hne.symm,h24,e4,n45,n54];refine aJI (T:=T) (fin:=fin) (d:=d) (first:=first) (i:=i2) (n:=n2) hT gH hi2 hn2 (bB hk3 (λl w m hk4 j hj hjT hw hm=>?_) (λf h=>PBk _ _ aY h));simp only[go_sem,aN,hne,hne.symm,h24,e4,n45,n54];refine⟨by cases tp<;>cases tn<;>cases td<;>rfl,?_⟩;refine DK.mk (hk4 j aC hjT hw hm) (aKr bC (λo ho u hu=>by have:=hfr o ho u hu;subst hs2;exact this)) ?_;simp only[Rul.enc,Rul.cs];have z1:tp=none->x.parts=[]:=λe=>fW (hown.nil (tp,x.parts.length,86) (by simp[fV]) e)
   have z2:tn=none->x.new=[]:=λe=>fW (hown.nil (tn,x.new.length,141) (by simp[fV]) e)
   have z3:td=none->x.drop=[]:=λe=>fW (hown.nil (td,x.drop.length,9) (by simp[fV]) e)
   exact A.le.agg ⟨⟨bH _,rfl⟩,⟨aVd tp (λe=>by rw[z1 e];rfl) (aOG _),rfl⟩,⟨bH _,rfl⟩,⟨iQ tn _ (λe=>by rw[z2 e];rfl),rfl⟩,⟨iQ td _ (λe=>by rw[z3 e];rfl),rfl⟩,⟨bH _,rfl⟩,⟨bH _,rfl⟩,trivial⟩
  | true =>
   obtain⟨k,hk3,hk4⟩:=hk3;obtain⟨k,rfl⟩:∃k',k=k'+1:=⟨k-1,by omega⟩
   rw[dK,bX]at hk4;have hneS:=hne.symm;simp only[go_sem,aN,hne,hne.symm,h24,e4,n45,n54];refine lD (T:=T) (fin:=fin) (d:=d) (first:=first) (i:=i2) (n:=n2) (by unfold iG;rw[aN,aL,aF rfl]) hi2 ?_;cases hw:T.drop i2 with
   | nil =>
    rw[hw]at hk4;exact hk4.at (hg2 (iG T fin d first b5 r s2 x tp tn td i2 n2) (by unfold iG;exact aY)) (o:=bK T fin d first i2 n2) (by unfold iG;rw[aN,aL,aF rfl])
   | cons t2 w =>
    obtain⟨g1,g2,g3,g4⟩:=mS hw;rw[hw]at hk4;simp only[sX]at hk4;simp only[go_sem,aN,hne,hne.symm,h24,e4,n45,n54];intro b8 hb8
    have hpart:((t2.kind=1/\(¬ t2.text∈iM\/t2.text=[110,101,119]\/t2.text=[100,114,111,112]))->¬ 20<=cnt)->(pN false fin x (T.drop i2) n2).to (λx' w n=>(if isT [59] w=true then dK fin [59] (sX false fin) k (x',cnt+1) w.tail n else Rd.ok (x',cnt+1) w n).to
      (λa w n=>(qT false fin w n).to (λl w n=>PK T i (λj m=>s.setO r (bK T fin d first j m)) Rul.enc KV { a.1 with cond:=l } w n) (PB s r Kp)) (PB s r Kp)) (PB s r Kp):=λh=>by
     rw[hw];rw[aB (λhc=>h hc.1 hc.2),bX]at hk4;exact hk4
    simp only[go_sem,aN,hne,hne.symm,h24,e4,n45,n54];cases c1:decide (t2.kind=1)
    .have hk5:=hpart (λhc=>by have:=hc.1;simp[this]at c1);simp only[go_sem,aN,hne,hne.symm,h24,e4,n45,n54,c1];refine iJ (eB hb8) ?_;refine aB6 hT b5 x tp tn td hQ0 hi2 hn2 (bB hk5 (λx' w1 m1 hk6 j tp' tn' td' hj hjT hw1 hm1 hQ'=>?_) (λf h s1 o hg hr1=>h.at (hg2 _ hg) hr1));subst hw1;simp only[go_sem,aN,hne,hne.symm,h24,e4,n45,n54,cF cnt aC];refine kJ (T:=T) (fin:=fin) (d:=d) (first:=first) (i:=j) (n:=m1) _ (by unfold iG;rw[aN,aL,aF rfl]) hjT hT ?_;cases c9:isT [59] (T.drop j)with
     | true =>
      rw[aF c9,nP]at hk6;have hlt9:=mJ c9;simp only[go_sem,aN,hne,hne.symm,h24,e4,n45,n54];refine⟨((x',tp',tn',td'),cnt+1,true,j+1,m1),⟨⟨hQ'.own,hQ'.hb,hQ'.ne,by have:=hQ'.l1;simp only;omega,by have:=hQ'.l2;simp only;omega,by have:=hQ'.l3;simp only;omega⟩,aP,aP,hlt9,hm1,k,aP,hk6⟩,aP,?_⟩;refine⟨⟨rfl,rfl⟩,?_⟩;unfold iG;rw[zL,nR];exact aM _
     | false =>
      rw[aB (by simp[c9]),cG]at hk6;simp only[go_sem,aN,hne,hne.symm,h24,e4,n45,n54];refine⟨((x',tp',tn',td'),cnt+1,false,j,m1),⟨hQ',aP,aP,hjT,hm1,hk6⟩,aP,?_⟩;exact⟨⟨rfl,rfl⟩,aM _⟩
    simp only[go_sem,aN,hne,hne.symm,h24,e4,n45,n54,c1];refine vF _ _ _ _ ?_;simp only[go_sem,aN,hne,hne.symm,h24,e4,n45,n54];cases c2:decide (t2.text∈iM)
    .simp only[go_sem,aN,hne,hne.symm,h24,e4,n45,n54,c2];refine iJ (eB hb8) ?_;refine nS (T:=T) (fin:=fin) (d:=d) (first:=first) (i:=i2) (n:=n2) _ _ (by unfold iG;rw[aN,aL,aF rfl]) hi2 ?_;by_cases h20:20<=cnt
     .rw[aF ⟨⟨gQ c1,.inl (gQ c2)⟩,h20⟩,eR]at hk4;rw[aF aC,hw];exact PBk _ _ (by unfold iG;exact aY) hk4
     rw[aB aC];have hk5:=hpart (λ_=>h20);simp only[go_sem,aN,hne,hne.symm,h24,e4,n45,n54];refine aB6 hT b5 x tp tn td hQ0 hi2 hn2 (bB hk5 (λx' w1 m1 hk6 j tp' tn' td' hj hjT hw1 hm1 hQ'=>?_) (λf h s1 o hg hr1=>h.at (hg2 _ hg) hr1));subst hw1;simp only[go_sem,aN,hne,hne.symm,h24,e4,n45,n54,cF cnt aC];refine kJ (T:=T) (fin:=fin) (d:=d) (first:=first) (i:=j) (n:=m1) _ (by unfold iG;rw[aN,aL,aF rfl]) hjT hT ?_;cases c9:isT [59] (T.drop j)with
     | true =>
      rw[aF c9,nP]at hk6;have hlt9:=mJ c9;simp only[go_sem,aN,hne,hne.symm,h24,e4,n45,n54];refine⟨((x',tp',tn',td'),cnt+1,true,j+1,m1),⟨⟨hQ'.own,hQ'.hb,hQ'.ne,by have:=hQ'.l1;simp only;omega,by have:=hQ'.l2;simp only;omega,by have:=hQ'.l3;simp only;omega⟩,aP,aP,hlt9,hm1,k,aP,hk6⟩,aP,?_⟩;refine⟨⟨rfl,rfl⟩,?_⟩;unfold iG;rw[zL,nR];exact aM _
     | false =>
      rw[aB (by simp[c9]),cG]at hk6;simp only[go_sem,aN,hne,hne.symm,h24,e4,n45,n54];refine⟨((x',tp',tn',td'),cnt+1,false,j,m1),⟨hQ',aP,aP,hjT,hm1,hk6⟩,aP,?_⟩;exact⟨⟨rfl,rfl⟩,aM _⟩
    simp only[go_sem,aN,hne,hne.symm,h24,e4,n45,n54,c2];cases c3:decide (t2.text=[110,101,119]);rotate_left
    .simp only[go_sem,aN,hne,hne.symm,h24,e4,n45,n54,c3];refine iJ (eB hb8) ?_;refine nS (T:=T) (fin:=fin) (d:=d) (first:=first) (i:=i2) (n:=n2) _ _ (by unfold iG;rw[aN,aL,aF rfl]) hi2 ?_;by_cases h20:20<=cnt
     .rw[aF ⟨⟨gQ c1,.inr (.inl (gQ c3))⟩,h20⟩,eR]at hk4;rw[aF aC,hw];exact PBk _ _ (by unfold iG;exact aY) hk4
     rw[aB aC];have hk5:=hpart (λ_=>h20);simp only[go_sem,aN,hne,hne.symm,h24,e4,n45,n54];refine aB6 hT b5 x tp tn td hQ0 hi2 hn2 (bB hk5 (λx' w1 m1 hk6 j tp' tn' td' hj hjT hw1 hm1 hQ'=>?_) (λf h s1 o hg hr1=>h.at (hg2 _ hg) hr1));subst hw1;simp only[go_sem,aN,hne,hne.symm,h24,e4,n45,n54,cF cnt aC];refine kJ (T:=T) (fin:=fin) (d:=d) (first:=first) (i:=j) (n:=m1) _ (by unfold iG;rw[aN,aL,aF rfl]) hjT hT ?_;cases c9:isT [59] (T.drop j)with
     | true =>
      rw[aF c9,nP]at hk6;have hlt9:=mJ c9;simp only[go_sem,aN,hne,hne.symm,h24,e4,n45,n54];refine⟨((x',tp',tn',td'),cnt+1,true,j+1,m1),⟨⟨hQ'.own,hQ'.hb,hQ'.ne,by have:=hQ'.l1;simp only;omega,by have:=hQ'.l2;simp only;omega,by have:=hQ'.l3;simp only;omega⟩,aP,aP,hlt9,hm1,k,aP,hk6⟩,aP,?_⟩;refine⟨⟨rfl,rfl⟩,?_⟩;unfold iG;rw[zL,nR];exact aM _
     | false =>
      rw[aB (by simp[c9]),cG]at hk6;simp only[go_sem,aN,hne,hne.symm,h24,e4,n45,n54];refine⟨((x',tp',tn',td'),cnt+1,false,j,m1),⟨hQ',aP,aP,hjT,hm1,hk6⟩,aP,?_⟩;exact⟨⟨rfl,rfl⟩,aM _⟩
    simp only[go_sem,aN,hne,hne.symm,h24,e4,n45,n54,c3];cases c4:decide (t2.text=[100,114,111,112]);rotate_left
    .simp only[go_sem,aN,hne,hne.symm,h24,e4,n45,n54,c4];refine iJ (eB hb8) ?_;refine nS (T:=T) (fin:=fin) (d:=d) (first:=first) (i:=i2) (n:=n2) _ _ (by unfold iG;rw[aN,aL,aF rfl]) hi2 ?_;by_cases h20:20<=cnt
     .rw[aF ⟨⟨gQ c1,.inr (.inr (gQ c4))⟩,h20⟩,eR]at hk4;rw[aF aC,hw];exact PBk _ _ (by unfold iG;exact aY) hk4
     rw[aB aC];have hk5:=hpart (λ_=>h20);simp only[go_sem,aN,hne,hne.symm,h24,e4,n45,n54];refine aB6 hT b5 x tp tn td hQ0 hi2 hn2 (bB hk5 (λx' w1 m1 hk6 j tp' tn' td' hj hjT hw1 hm1 hQ'=>?_) (λf h s1 o hg hr1=>h.at (hg2 _ hg) hr1));subst hw1;simp only[go_sem,aN,hne,hne.symm,h24,e4,n45,n54,cF cnt aC];refine kJ (T:=T) (fin:=fin) (d:=d) (first:=first) (i:=j) (n:=m1) _ (by unfold iG;rw[aN,aL,aF rfl]) hjT hT ?_;cases c9:isT [59] (T.drop j)with
     | true =>
      rw[aF c9,nP]at hk6;have hlt9:=mJ c9;simp only[go_sem,aN,hne,hne.symm,h24,e4,n45,n54];refine⟨((x',tp',tn',td'),cnt+1,true,j+1,m1),⟨⟨hQ'.own,hQ'.hb,hQ'.ne,by have:=hQ'.l1;simp only;omega,by have:=hQ'.l2;simp only;omega,by have:=hQ'.l3;simp only;omega⟩,aP,aP,hlt9,hm1,k,aP,hk6⟩,aP,?_⟩;refine⟨⟨rfl,rfl⟩,?_⟩;unfold iG;rw[zL,nR];exact aM _
     | false =>
      rw[aB (by simp[c9]),cG]at hk6;simp only[go_sem,aN,hne,hne.symm,h24,e4,n45,n54];refine⟨((x',tp',tn',td'),cnt+1,false,j,m1),⟨hQ',aP,aP,hjT,hm1,hk6⟩,aP,?_⟩;exact⟨⟨rfl,rfl⟩,aM _⟩
    simp only[go_sem,aN,hne,hne.symm,h24,e4,n45,n54,c4];have hk5:=hpart (λhc=>by have h1:=hc.2;simp at c2 c3 c4;rcases h1 with h1|h1|h1;exact(h1 c2).elim;exact(c3 h1).elim;exact(c4 h1).elim);refine iJ (eB hb8) ?_;refine aB6 hT b5 x tp tn td hQ0 hi2 hn2 (bB hk5 (λx' w1 m1 hk6 j tp' tn' td' hj hjT hw1 hm1 hQ'=>?_) (λf h s1 o hg hr1=>h.at (hg2 _ hg) hr1));subst hw1;simp only[go_sem,aN,hne,hne.symm,h24,e4,n45,n54,cF cnt aC];refine kJ (T:=T) (fin:=fin) (d:=d) (first:=first) (i:=j) (n:=m1) _ (by unfold iG;rw[aN,aL,aF rfl]) hjT hT ?_;cases c9:isT [59] (T.drop j)with
    | true =>
     rw[aF c9,nP]at hk6;have hlt9:=mJ c9;simp only[go_sem,aN,hne,hne.symm,h24,e4,n45,n54];refine⟨((x',tp',tn',td'),cnt+1,true,j+1,m1),⟨⟨hQ'.own,hQ'.hb,hQ'.ne,by have:=hQ'.l1;simp only;omega,by have:=hQ'.l2;simp only;omega,by have:=hQ'.l3;simp only;omega⟩,aP,aP,hlt9,hm1,k,aP,hk6⟩,aP,?_⟩;refine⟨⟨rfl,rfl⟩,?_⟩;unfold iG;rw[zL,nR];exact aM _
    | false =>
     rw[aB (by simp[c9]),cG]at hk6;simp only[go_sem,aN,hne,hne.symm,h24,e4,n45,n54];refine⟨((x',tp',tn',td'),cnt+1,false,j,m1),⟨hQ',aP,aP,hjT,hm1,hk6⟩,aP,?_⟩;exact⟨⟨rfl,rfl⟩,aM _⟩
end
end
section
structure GrQ {α:Type} (b1 b3 r:Nat) (s:St) (acc:List α) (tk:Option Nat) (i:Nat):Prop where
 len:acc.length<=i
 h1:s.getO b1=some (.cells 74 [.ptr r 0])
 h3:s.getO b3=some (.cells 191 [.ptr r 6])
 ne:b1≠r/\b3≠r
 nil:tk=none->acc=[]
 free:∀t,tk=some t->s.getT t=none
def pT(T:List Tok)(fin:Fault)(d:Dc)(first:Tok)(r:Nat)(s:St)(m:List aD)(tk:Option Nat)(i n:Nat):St :=
 gs (s.setO r (bK T fin { d with sorts:=gv tk (m.map .str) } first i n)) tk m.length 9
def pS(T:List Tok)(fin:Fault)(d:Dc)(first:Tok)(r:Nat)(s:St)(m:List Cel)(tk:Option Nat)(i n:Nat):St :=
 gs (s.setO r (bK T fin { d with many:=gv tk (m.map Cel.enc) } first i n)) tk m.length 68
section
variable {T:List Tok} {fin:Fault} {d:Dc} {first:Tok} {i n:Nat} {s:St} {r:Nat} {KV Kp:St->A->Prop}
theorem aGI(H:TOk T)(b1:Nat)(m:Bool)(B:s.getO b1=some (.cells 74 [.ptr r 0]))(y:s.getO r=some (bK T fin d first i n))(M:i+1<=T.length)
  (F:match m with|true=>PB s r Kp (gK fin 14 (T.drop i))|false=>KV (s.setO r (bK T fin d first (i+1) n)) (.tuple [])):Den cx 225 [.bool m,.ptr b1 0] KV Kp s:=by
 have z:=H.len;have u:=y;simp only[go_sem]at u;(refine aR func225 [0,1,3] ?_;simp only[go_sem,ntmps225,f225]);cases m with
 | true =>
  simp only[go_sem,B];refine pH 14 y aC H ?_;exact F.here y
 | false =>
  simp only[go_sem,B,u,cF i aC];exact aO F
theorem aRo(hT:TOk T)(b1 b3:Nat)(H:List aD)(tk:Option Nat)(hQ:GrQ b1 b3 r s H tk i)(hi:i<=T.length)(hn:n<=2000)
  (hk : (mK fin 40 H.length (T.drop i) n fun w n => eU fin w n).to (fun a w n' => ∀ j y,i + 1 ≤ j → j ≤ T.length → T.drop j = w → n' ≤ 2000 → GrQ b1 b3 r s (H ++ [a]) y j → KV (pT T fin d first r s (H ++ [a]) y j n') (.bool true))
   (λf=>∀s1 o,s1.gx s r->s1.getO r=some o->Kp s1 (.iface 36 f.enc))):Den cx 147 [.ptr b1 0,.ptr b3 0] KV Kp (pT T fin d first r s H tk i n):=by
 obtain⟨bf,S,O,⟨m,z⟩,b2,Z⟩:=hQ;have bd:=hT.len;have hg:oF (pT T fin d first r s H tk i n) tk (H.map A.str).length 9:=by rw[aK];exact iU λe=>by rw[b2 e];rfl
 (refine aR func147 [0,1,2,3,14] ?_;simp only[go_sem,ntmps147,f147]);unfold pT;have bg:=m.symm;have bh:=z.symm;simp only[go_sem,S,O,m,m.symm,z,z.symm];refine lD (d:={ d with sorts:=gv tk (H.map A.str) }) (T:=T) (fin:=fin) (first:=first) (i:=i) (n:=n) gH hi ?_;cases hw:T.drop i with
 | nil=>rw[hw]at hk;exact aO (hk _ (bK T fin { d with sorts:=gv tk (H.map A.str) } first i n) aY gH)
 | cons t w =>
  obtain⟨g1,g2,g3,g4⟩:=mS hw;rw[hw]at hk
  have b0:(t.free=true->¬ 40<=H.length)->(eU fin (T.drop i) n).to (λa w n'=>∀j y,i+1<=j->j<=T.length->T.drop j=w->n'<=2000->GrQ b1 b3 r s (H++[a]) y j->KV (pT T fin d first r s (H++[a]) y j n') (.bool true))
    (λf=>∀s1 o,s1.gx s r->s1.getO r=some o->Kp s1 (.iface 36 f.enc)):=λh=>by
   rw[hw];simp only[mK]at hk;rw[aB (λhc=>h hc.1 hc.2)]at hk;exact hk
  simp only[go_sem,S,O,m,m.symm,z,z.symm];(refine jM λb5 B=>?_);have F:=cJ O B.2;have M:=cJ S B.2;simp only[go_sem,S,O,m,m.symm,z,z.symm,B,F,M];cases c1:decide (t.kind=1)
  .have b8:=b0 (λhf=>by simp[Tok.free,c1]at hf);simp only[go_sem,S,O,m,m.symm,z,z.symm,B,F,M,c1];(refine bO (OT.r 0 14) [(7,[0,1,5]),(9,[0])] ?_;simp only[go_sem,S,O,m,m.symm,z,z.symm,B,F,M]);refine jJ (d:={ d with sorts:=gv tk (H.map A.str) }) (T:=T) (fin:=fin) (first:=first) (i:=i) (n:=n) gH hi hT (bB b8 (λx w2 m2 bb b6 b9 bc=>?_) (λf h=>dZ aY h));subst m2;have hj:i+1<=i+1:=aV _;simp only[go_sem,S,O,m,m.symm,z,z.symm,B,F,M];refine⟨by decide,λy U=>by simp only[cC]at U;subst U;rfl,eI rfl rfl (by rw[aK];exact iU λe=>by rw[b2 e];rfl) (λy U=>?_) (by simp only[aK,aG,aH];omega) (λu hu=>?_)⟩
   .simp only[cH]at U;obtain⟨q,_,rfl⟩:=U;rfl
   have b4:=gI hu Z;rw[fY hu];simp only[go_sem,S,O,m,m.symm,z,z.symm,B,F,M];have b7:=bb (i+1) (some u) hj b6 b9 hn ⟨by simp only[aI,aG,aH];omega,S,O,⟨m,z⟩,λe=>(by cases e),λt' e=>by cases e;exact b4⟩;refine aS b7 ?_;simp only[pT,dF,cN,bN,dI,aI,aG,aH,aK];exact bC
  simp only[go_sem,S,O,m,m.symm,z,z.symm,B,F,M,c1];refine vF _ _ _ _ ?_;simp only[go_sem,S,O,m,m.symm,z,z.symm,B,F,M];cases c2:decide (t.text∈iM);rotate_left
  .have b8:=b0 (λhf=>by simp[Tok.free,c2]at hf);simp only[go_sem,S,O,m,m.symm,z,z.symm,B,F,M,c2];(refine bO (OT.r 0 14) [(7,[0,1,5]),(9,[0])] ?_;simp only[go_sem,S,O,m,m.symm,z,z.symm,B,F,M]);refine jJ (d:={ d with sorts:=gv tk (H.map A.str) }) (T:=T) (fin:=fin) (first:=first) (i:=i) (n:=n) gH hi hT (bB b8 (λx w2 m2 bb b6 b9 bc=>?_) (λf h=>dZ aY h));subst m2;have hj:i+1<=i+1:=aV _;simp only[go_sem,S,O,m,m.symm,z,z.symm,B,F,M];refine⟨by decide,λy U=>by simp only[cC]at U;subst U;rfl,eI rfl rfl (by rw[aK];exact iU λe=>by rw[b2 e];rfl) (λy U=>?_) (by simp only[aK,aG,aH];omega) (λu hu=>?_)⟩
   .simp only[cH]at U;obtain⟨q,_,rfl⟩:=U;rfl
   have b4:=gI hu Z;rw[fY hu];simp only[go_sem,S,O,m,m.symm,z,z.symm,B,F,M];have b7:=bb (i+1) (some u) hj b6 b9 hn ⟨by simp only[aI,aG,aH];omega,S,O,⟨m,z⟩,λe=>(by cases e),λt' e=>by cases e;exact b4⟩;refine aS b7 ?_;simp only[pT,dF,cN,bN,dI,aI,aG,aH,aK];exact bC
  simp only[go_sem,S,O,m,m.symm,z,z.symm,B,F,M,c2];(refine bO (OT.r 0 8) [] ?_;simp only[go_sem,S,O,m,m.symm,z,z.symm,B,F,M,qO hg]);refine nS (d:={ d with sorts:=gv tk (H.map A.str) }) (T:=T) (fin:=fin) (first:=first) (i:=i) (n:=n) _ _ gH hi ?_;by_cases h8:40<=H.length
  .rw[aF aC,hw];simp only[mK]at hk;rw[aF ⟨by simp[Tok.free,c1,c2],h8⟩]at hk;exact dZ aY hk
  rw[aB aC];have b8:=b0 (λ_=>h8);simp only[go_sem,S,O,m,m.symm,z,z.symm,B,F,M];(refine bO (OT.r 0 14) [(7,[0,1,5]),(9,[0])] ?_;simp only[go_sem,S,O,m,m.symm,z,z.symm,B,F,M]);refine jJ (d:={ d with sorts:=gv tk (H.map A.str) }) (T:=T) (fin:=fin) (first:=first) (i:=i) (n:=n) gH hi hT (bB b8 (λx w2 m2 bb b6 b9 bc=>?_) (λf h=>dZ aY h));subst m2;have hj:i+1<=i+1:=aV _;simp only[go_sem,S,O,m,m.symm,z,z.symm,B,F,M];refine⟨by decide,λy U=>by simp only[cC]at U;subst U;rfl,eI rfl rfl (by rw[aK];exact iU λe=>by rw[b2 e];rfl) (λy U=>?_) (by simp only[aK,aG,aH];omega) (λu hu=>?_)⟩
  .simp only[cH]at U;obtain⟨q,_,rfl⟩:=U;rfl
  have b4:=gI hu Z;rw[fY hu];simp only[go_sem,S,O,m,m.symm,z,z.symm,B,F,M];have b7:=bb (i+1) (some u) hj b6 b9 hn ⟨by simp only[aI,aG,aH];omega,S,O,⟨m,z⟩,λe=>(by cases e),λt' e=>by cases e;exact b4⟩;refine aS b7 ?_;simp only[pT,dF,cN,bN,dI,aI,aG,aH,aK];exact bC
theorem aQ8(hT:TOk T)(b1 b3:Nat)(H:List Cel)(tk:Option Nat)(hQ:GrQ b1 b3 r s H tk i)(hi:i<=T.length)(hn:n<=2000)
  (hk : (mK fin 12 H.length (T.drop i) n fun w n => pQ false fin w n).to (fun a w n' => ∀ j y,i + 1 ≤ j → j ≤ T.length → T.drop j = w → n' ≤ 2000 → GrQ b1 b3 r s (H ++ [a]) y j → KV (pS T fin d first r s (H ++ [a]) y j n') (.bool true))
   (λf=>∀s1 o,s1.gx s r->s1.getO r=some o->Kp s1 (.iface 36 f.enc))):Den cx 227 [.ptr b1 0,.ptr b3 0] KV Kp (pS T fin d first r s H tk i n):=by
 obtain⟨bf,S,O,⟨m,z⟩,b2,Z⟩:=hQ;have bd:=hT.len;have hg:oF (pS T fin d first r s H tk i n) tk (H.map Cel.enc).length 68:=by rw[aK];exact iU λe=>by rw[b2 e];rfl
 (refine aR func227 [0,1,2,3,14] ?_;simp only[go_sem,ntmps227,f227]);unfold pS;have bg:=m.symm;have bh:=z.symm;simp only[go_sem,S,O,m,m.symm,z,z.symm];refine lD (d:={ d with many:=gv tk (H.map Cel.enc) }) (T:=T) (fin:=fin) (first:=first) (i:=i) (n:=n) gH hi ?_;cases hw:T.drop i with
 | nil=>rw[hw]at hk;exact aO (hk _ (bK T fin { d with many:=gv tk (H.map Cel.enc) } first i n) aY gH)
 | cons t w =>
  obtain⟨g1,g2,g3,g4⟩:=mS hw;rw[hw]at hk
  have b0:(t.free=true->¬ 12<=H.length)->(pQ false fin (T.drop i) n).to (λa w n'=>∀j y,i+1<=j->j<=T.length->T.drop j=w->n'<=2000->GrQ b1 b3 r s (H++[a]) y j->KV (pS T fin d first r s (H++[a]) y j n') (.bool true))
    (λf=>∀s1 o,s1.gx s r->s1.getO r=some o->Kp s1 (.iface 36 f.enc)):=λh=>by
   rw[hw];simp only[mK]at hk;rw[aB (λhc=>h hc.1 hc.2)]at hk;exact hk
  simp only[go_sem,S,O,m,m.symm,z,z.symm];(refine jM λb5 B=>?_);have F:=cJ O B.2;have M:=cJ S B.2;simp only[go_sem,S,O,m,m.symm,z,z.symm,B,F,M];cases c1:decide (t.kind=1)
  .have b9:=b0 (λhf=>by simp[Tok.free,c1]at hf);simp only[go_sem,S,O,m,m.symm,z,z.symm,B,F,M,c1];(refine bO (OT.r 0 12) [(6,[0,1,4]),(8,[0])] ?_;simp only[go_sem,S,O,m,m.symm,z,z.symm,B,F,M]);refine aDF (d:={ d with many:=gv tk (H.map Cel.enc) }) (T:=T) (fin:=fin) (first:=first) (i:=i) (n:=n) hT gH hi hn (bB b9 (λx w2 m2 bc j hj b7 bb b6=>?_) (λf h=>dZ aY h));simp only[go_sem,S,O,m,m.symm,z,z.symm,B,F,M];refine⟨by decide,λy U=>by simp only[cC]at U;subst U;rfl,eI rfl rfl (by rw[aK];exact iU λe=>by rw[b2 e];rfl) (λy U=>?_) (by simp only[aK,aG,aH];omega) (λu hu=>?_)⟩
   .simp only[cH]at U;obtain⟨q,_,rfl⟩:=U;rfl
   have b4:=gI hu Z;rw[fY hu];simp only[go_sem,S,O,m,m.symm,z,z.symm,B,F,M];have b8:=bc j (some u) hj b7 bb b6 ⟨by simp only[aI,aG,aH];omega,S,O,⟨m,z⟩,λe=>(by cases e),λt' e=>by cases e;exact b4⟩;refine aS b8 ?_;simp only[pS,dF,cN,bN,dI,aI,aG,aH,aK];exact bC
  simp only[go_sem,S,O,m,m.symm,z,z.symm,B,F,M,c1];refine vF _ _ _ _ ?_;simp only[go_sem,S,O,m,m.symm,z,z.symm,B,F,M];cases c2:decide (t.text∈iM);rotate_left
  .have b9:=b0 (λhf=>by simp[Tok.free,c2]at hf);simp only[go_sem,S,O,m,m.symm,z,z.symm,B,F,M,c2];(refine bO (OT.r 0 12) [(6,[0,1,4]),(8,[0])] ?_;simp only[go_sem,S,O,m,m.symm,z,z.symm,B,F,M]);refine aDF (d:={ d with many:=gv tk (H.map Cel.enc) }) (T:=T) (fin:=fin) (first:=first) (i:=i) (n:=n) hT gH hi hn (bB b9 (λx w2 m2 bc j hj b7 bb b6=>?_) (λf h=>dZ aY h));simp only[go_sem,S,O,m,m.symm,z,z.symm,B,F,M];refine⟨by decide,λy U=>by simp only[cC]at U;subst U;rfl,eI rfl rfl (by rw[aK];exact iU λe=>by rw[b2 e];rfl) (λy U=>?_) (by simp only[aK,aG,aH];omega) (λu hu=>?_)⟩
   .simp only[cH]at U;obtain⟨q,_,rfl⟩:=U;rfl
   have b4:=gI hu Z;rw[fY hu];simp only[go_sem,S,O,m,m.symm,z,z.symm,B,F,M];have b8:=bc j (some u) hj b7 bb b6 ⟨by simp only[aI,aG,aH];omega,S,O,⟨m,z⟩,λe=>(by cases e),λt' e=>by cases e;exact b4⟩;refine aS b8 ?_;simp only[pS,dF,cN,bN,dI,aI,aG,aH,aK];exact bC
  simp only[go_sem,S,O,m,m.symm,z,z.symm,B,F,M,c2];(refine bO (OT.r 0 7) [] ?_;simp only[go_sem,S,O,m,m.symm,z,z.symm,B,F,M,qO hg]);refine nS (d:={ d with many:=gv tk (H.map Cel.enc) }) (T:=T) (fin:=fin) (first:=first) (i:=i) (n:=n) _ _ gH hi ?_;by_cases h8:12<=H.length
  .rw[aF aC,hw];simp only[mK]at hk;rw[aF ⟨by simp[Tok.free,c1,c2],h8⟩]at hk;exact dZ aY hk
  rw[aB aC];have b9:=b0 (λ_=>h8);simp only[go_sem,S,O,m,m.symm,z,z.symm,B,F,M];(refine bO (OT.r 0 12) [(6,[0,1,4]),(8,[0])] ?_;simp only[go_sem,S,O,m,m.symm,z,z.symm,B,F,M]);refine aDF (d:={ d with many:=gv tk (H.map Cel.enc) }) (T:=T) (fin:=fin) (first:=first) (i:=i) (n:=n) hT gH hi hn (bB b9 (λx w2 m2 bc j hj b7 bb b6=>?_) (λf h=>dZ aY h));simp only[go_sem,S,O,m,m.symm,z,z.symm,B,F,M];refine⟨by decide,λy U=>by simp only[cC]at U;subst U;rfl,eI rfl rfl (by rw[aK];exact iU λe=>by rw[b2 e];rfl) (λy U=>?_) (by simp only[aK,aG,aH];omega) (λu hu=>?_)⟩
  .simp only[cH]at U;obtain⟨q,_,rfl⟩:=U;rfl
  have b4:=gI hu Z;rw[fY hu];simp only[go_sem,S,O,m,m.symm,z,z.symm,B,F,M];have b8:=bc j (some u) hj b7 bb b6 ⟨by simp only[aI,aG,aH];omega,S,O,⟨m,z⟩,λe=>(by cases e),λt' e=>by cases e;exact b4⟩;refine aS b8 ?_;simp only[pS,dF,cN,bN,dI,aI,aG,aH,aK];exact bC
end
end
section
structure DOwn where
 so:Option Nat
 be:Option Nat
 op:Option Nat
 fu:Option Nat
 va:Option Nat
 eq:Option Nat
 on:Option Nat
 ma:Option Nat
 ru:Option Nat
def cR(d:Dfn)(o:DOwn):Dc:=⟨d.name,gv o.so (d.sig.sorts.map .str),gv o.be (d.sig.below.map Below.enc),gv o.op (d.sig.ops.map Opr.enc),gv o.fu (d.sig.funs.map Opr.enc),gv o.va (d.sig.values.map .str),
 gv o.eq (d.eqs.map Eqn.enc),gv o.on (d.once.map Cel.enc),d.kind,gv o.ma (d.many.map Cel.enc),gv o.ru (d.rules.map Rul.enc),d.start,d.watch⟩
def cK(d:Dfn)(o:DOwn):List fZ:=[(o.so,d.sig.sorts.length,9),(o.be,d.sig.below.length,104),(o.op,d.sig.ops.length,73),(o.fu,d.sig.funs.length,73),(o.va,d.sig.values.length,9),
 (o.eq,d.eqs.length,80),(o.on,d.once.length,68),(o.ma,d.many.length,68),(o.ru,d.rules.length,84)]
def mM(T:List Tok)(fin:Fault)(first:Tok)(r:Nat)(s:St)(d:Dfn)(o:DOwn)(i n:Nat):St:=eT (s.setO r (bK T fin (cR d o) first i n)) (cK d o)
structure ItQ (s:St) (d:Dfn) (o:DOwn) (i:Nat):Prop where
 own:OwnOk s (cK d o)
 len:∀a,a∈cK d o->a.2.1<=i
theorem ItQ.le{s:St}{d:Dfn}{o:DOwn}{i j:Nat}(h:ItQ s d o i)(m:i<=j):ItQ s d o j:=⟨h.own,λa u=>mR (h.len a u) m⟩
theorem ItQ.set{s:St}{d z:Dfn}{o B:DOwn}{i j k:Nat}{a:fZ}(h:ItQ s d o i)(y:cK z B=(cK d o).set k a)(m:OwnOk s ((cK d o).set k a))(F:i<=j)(H:a.2.1<=j):ItQ s z B j :=
 ⟨by rw [y]; exact m,fun b u => by
  rw[y]at u;rcases yE u with u|rfl
  .exact mR (h.len b u) F
  .exact H⟩
attribute [go_sem] cR
section
variable {T:List Tok} {fin:Fault} {d:Dfn} {o:DOwn} {first:Tok} {i n:Nat} {s:St} {r:Nat} {KV Kp:St->A->Prop}
theorem GrQ.setT{α:Type}{b1 y r:Nat}{s:St}{m:List α}{tk:Option Nat}{i t:Nat}{v:Nat × TypeId}(h:GrQ b1 y r s m tk i)(B:tk≠some t):GrQ b1 y r (s.setT t v) m tk i :=
 ⟨h.len,h.h1,h.h3,h.ne,h.nil,λu z=>by rw[dM,aB (λe=>B (by rw[z,e]))];exact h.free u z⟩
theorem GrQ.unT{α:Type}{b1 y r:Nat}{s:St}{m:List α}{tk:Option Nat}{i t:Nat}{v:Nat × TypeId}(h:GrQ b1 y r (s.setT t v) m tk i):tk≠some t/\∀u,tk=some u->s.getT u=none:=by
 have B:tk≠some t:=λe=>by
  have:=h.free t e;rw[dM,aF rfl]at this;cases this
 refine⟨B,λu z=>?_⟩;have:=h.free u z;rw[dM]at this;split at this
 .cases this
 .exact this
theorem GrQ.dropT{α:Type}{b1 u r:Nat}{s:St}{m:List α}{tk:Option Nat}{i t:Nat}{v:Nat × TypeId}(h:GrQ b1 u r (s.setT t v) m tk i):GrQ b1 u r s m tk i :=
 ⟨h.len,h.h1,h.h3,h.ne,h.nil,h.unT.2⟩
theorem aLr{α:Type}{b1 y r:Nat}{s X:St}{u:List α}{tk:Option Nat}{i n t:Nat}{e:TypeId}(h:GrQ b1 y r s u tk i)(m:(gs X tk n e).getT t=none)(z:X.getT t=s.getT t:=by rfl):tk≠some t/\s.getT t=none:=by
 rw[iN]at m;split at m
 .cases m
 .rename_i e;exact⟨e,by rw[<-z];exact m⟩
theorem aK3{X:St}{r:Nat}{x:Ob}{tk:Option Nat}{n t:Nat}{e:TypeId}{v u:Nat × TypeId}(h:tk≠some t):((gs ((X.setT t v).setO r x) tk n e).setT t u).ge (gs ((X.setT t u).setO r x) tk n e):=by
 refine⟨λb o ho=>by rw[pW];rw[cO]at *;exact ho,λc m B=>?_,λy F=>by cases tk<;>exact F⟩;rw[iN,getT_setO,dM]at B;rw[dM,iN,getT_setO,dM];by_cases z:t=c
 .subst z;rw[aB h,aF rfl]at B;rw[aF rfl];exact B
 .rw[aB z]at B⊢;rw[aB z];exact B
theorem aJo{X:St}{r:Nat}{x:Ob}{tk:Option Nat}{n t:Nat}{e:TypeId}{v:Nat × TypeId}(h:X.getT t=none):(gs ((X.setT t v).setO r x) tk n e).ge (gs (X.setO r x) tk n e) :=
 aLs (λb o ho=>ho) (λy B=>B) (λc m _ F=>by
  show(X.setT t v).getT c=some m;have u:X.getT c=some m:=F;rw[dM];by_cases z:t=c
  .subst z;rw[h]at u;cases u
  .rw[aB z];exact u)
theorem aQ4(hT:TOk T)(t:Tok)(w:List Tok)(hw:T.drop i=t::w)(hQ:ItQ s d o i)(hn:n<=2000)
  (O : (nX false fin d t w n).to (fun d' w n' => ∀ j o',i + 1 ≤ j → j ≤ T.length → T.drop j = w → n' ≤ 2000 → ItQ s d' o' j → KV (mM T fin first r s d' o' j n') (.tuple []))
   (λf=>∀s1 x,s1.gx s r->s1.getO r=some x->Kp s1 (.iface 36 f.enc))):Den cx 155 [.ptr r 0,t.enc] KV Kp (mM T fin first r s d o i n):=by
 obtain⟨g1,g2,g3,g4⟩:=mS hw;have hi:i<=T.length:=by omega
 have bt:=hT.len;have F:=hQ.own;have bq:=F.free;have bh:nJ (gv o.on (d.once.map Cel.enc))=some (.int .i64 (d.once.map Cel.enc).length):=qO (by rw[aK];exact zR F (k:=6) rfl);have b6:∀x:aD,isT x (T.drop i)=eO t x:=λx=>by rw[hw];rfl
 simp only[go_sem];(refine aR func155 [0,1,2,4,5,12,27,42,70] ?_;simp only[go_sem,ntmps155,f155]);unfold mM;(refine jM λb2 m=>?_);simp only[go_sem,aN,m];(refine jM λb3 B=>?_);simp only[go_sem,aN,m,B];(refine jM λb4 z=>?_);simp only[go_sem,aN,m,B,z];refine oR (d:=cR d o) (T:=T) (fin:=fin) (first:=first) (i:=i) (n:=n) _ gH hi ?_;rw[b6];cases c1:eO t [115,116,97,114,116];rotate_left
 ·
  rw[nX,aF c1]at O;simp only[go_sem,aN,m,B,z];refine aGI hT b2 _ (d:=cR d o) (T:=T) (fin:=fin) (first:=first) (i:=i) (n:=n) gH gH g2 ?_;cases cs:decide (d.start=[])
  .rw[aB (gQ cs),eR]at O;rw[hw];exact dZ aY O
  rw[aF (gQ cs),bX,<-g3]at O;simp only[fF];simp only[go_sem,aN,m,B,z];(refine bO (OT.r 0 6) [(2,[0])] ?_;simp only[go_sem,aN,m,B,z]);refine jJ (d:=cR d o) (T:=T) (fin:=fin) (first:=first) (i:=i+1) (n:=n) gH g2 hT (bB O (λx w2 m2 M S Z b7=>?_) (λf h=>dZ aY h));rw[cG]at M;subst m2;simp only[go_sem,aN,m,B,z];have U:=M (i+1+1) o aC S Z hn ⟨hQ.own,λa ha=>mR (hQ.len a ha) aC⟩;refine aS U ?_;refine lH (l:=cK d o) ?_;simp only[cR];exact bC
 simp only[go_sem,aN,m,B,z];refine oR (d:=cR d o) (T:=T) (fin:=fin) (first:=first) (i:=i) (n:=n) _ gH hi ?_;rw[b6];cases c2:eO t [119,97,116,99,104];rotate_left
 ·
  rw[nX,aB (by simp[c1]),aF c2]at O;simp only[go_sem,aN,m,B,z];refine aGI hT b2 _ (d:=cR d o) (T:=T) (fin:=fin) (first:=first) (i:=i) (n:=n) gH gH g2 ?_;cases cs:decide (d.watch=[])
  .rw[aB (gQ cs),eR]at O;rw[hw];exact dZ aY O
  rw[aF (gQ cs),bX,<-g3]at O;simp only[fF];simp only[go_sem,aN,m,B,z];(refine bO (OT.r 0 6) [(2,[0])] ?_;simp only[go_sem,aN,m,B,z]);refine jJ (d:=cR d o) (T:=T) (fin:=fin) (first:=first) (i:=i+1) (n:=n) gH g2 hT (bB O (λx w2 m2 M S Z b7=>?_) (λf h=>dZ aY h));rw[cG]at M;subst m2;simp only[go_sem,aN,m,B,z];have U:=M (i+1+1) o aC S Z hn ⟨hQ.own,λa ha=>mR (hQ.len a ha) aC⟩;refine aS U ?_;refine lH (l:=cK d o) ?_;simp only[cR];exact bC
 simp only[go_sem,aN,m,B,z];refine oR (d:=cR d o) (T:=T) (fin:=fin) (first:=first) (i:=i) (n:=n) _ gH hi ?_;rw[b6];cases c3:eO t [99,101,108,108];rotate_left
 ·
  rw[nX,aB (by simp[c1]),aB (by simp[c2]),aF c3]at O;simp only[go_sem,aN,m,B,z];(refine bO (OT.r 0 7) [] ?_;simp only[go_sem,aN,m,B,z,bh]);refine nS (d:=cR d o) (T:=T) (fin:=fin) (first:=first) (i:=i) (n:=n) _ _ gH hi ?_;by_cases bf:12<=d.once.length
  .rw[aF bf,eR]at O;rw[aF (by(try simp only[aK]);omega),hw];exact dZ aY O
  rw[aB bf,bX,<-g3]at O;rw[aB (by(try simp only[aK]);omega)];simp only[go_sem,aN,m,B,z,cF i aC];(refine bO (OT.r 0 12) [(6,[0,1,4]),(8,[0])] ?_;simp only[go_sem,aN,m,B,z]);refine aDF (d:=cR d o) (T:=T) (fin:=fin) (first:=first) (i:=i+1) (n:=n) hT gH g2 hn (bB O (λx w2 m2 M j hj b5 Z b7=>?_) (λf h=>dZ aY h));rw[cG]at M;simp only[go_sem,aN,m,B,z];refine⟨by decide,λy hy=>by simp only[cC]at hy;subst hy;rfl,eI rfl rfl (by rw[aK];refine qJ F (k:=6) (o:=(o.on,d.once.length,68)) rfl ?_;exactλ_=>rfl) (λy hy=>?_) (by have:=hQ.len (o.on,d.once.length,68) (by simp[cK]);simp only[aK,aG,aH];simp only at this;omega) (λu hu=>?_)⟩
  .simp only[cH]at hy;obtain⟨q,_,rfl⟩:=hy;rfl
  have H:=qN F (k:=6) (o:=(o.on,d.once.length,68)) rfl hu (λ_=>rfl) (d.once.length+1);simp only[go_sem,aN,m,B,z];have U:=M j { o with on:=some u } aC b5 Z b7 (ItQ.set (k:=6) hQ (by simp[cK]) H aC (by have:=hQ.len (o.on,d.once.length,68) (by simp[cK]);simp only at this⊢;omega));refine aS U (St.ge.trans (qP F (k:=6) (o:=(o.on,d.once.length,68)) rfl H (λ_=>rfl)) ?_);unfold mM;rw[show cK { d with once:=d.once++[x] } { o with on:=some u }=(cK d o).set 6 (some u,d.once.length+1,68)by simp[cK]];refine lH ?_;simp only[cR,dF,cN,bN,dI];exact bC
 simp only[go_sem,aN,m,B,z];refine oR (d:=cR d o) (T:=T) (fin:=fin) (first:=first) (i:=i) (n:=n) _ gH hi ?_;rw[b6];cases c4:eO t [109,97,110,121];rotate_left
 ·
  rw[nX,aB (by simp[c1]),aB (by simp[c2]),aB (by simp[c3]),aF c4]at O;simp only[go_sem,aN,m,B,z];refine aGI hT b2 _ (d:=cR d o) (T:=T) (fin:=fin) (first:=first) (i:=i) (n:=n) gH gH g2 ?_;cases cs:decide (d.kind=[])
  .rw[aB (gQ cs),eR]at O;rw[hw];exact dZ aY O
  rw[aF (gQ cs),bX,<-g3]at O;simp only[fF];simp only[go_sem,aN,m,B,z];(refine bO (OT.r 0 6) [(2,[0])] ?_;simp only[go_sem,aN,m,B,z]);refine jJ (d:=cR d o) (T:=T) (fin:=fin) (first:=first) (i:=i+1) (n:=n) gH g2 hT (bB O (λx w2 m2 M S Z b7=>?_) (λf h=>dZ aY h));subst m2;rw[<-Z,bX]at M;simp only[go_sem,aN,m,B,z];refine gC (d:=cR { d with kind:=x } o) (T:=T) (fin:=fin) (first:=first) (i:=i+1+1) (n:=n) _ gH S hT (bB M (λ_ w3 m3 U bg bp c6=>?_) (λf h=>dZ aY h));subst m3;rw[<-bp,bX]at U;simp only[go_sem,aN,m,B,z];have b8:(eT (((s.setO b2 (.cells 74 [.ptr r 0])).setO b3 (.cells 60 t.cs)).setO b4 (.cells 191 [.ptr r 6])) ((cK d o).set 7 (none,0,68))).getO b2=some (.cells 74 [.ptr r 0]):=by simp only[aN,aL,z,B,bR,bT]
  have b9:(eT (((s.setO b2 (.cells 74 [.ptr r 0])).setO b3 (.cells 60 t.cs)).setO b4 (.cells 191 [.ptr r 6])) ((cK d o).set 7 (none,0,68))).getO b4=some (.cells 191 [.ptr r 6]):=by simp only[aN,aL,bT]
  have bk:∀a,a∈(cK d o).set 7 (none,0,68)->∀u,a.1=some u->s.getT u=none:=λa ha u hu=>by
   rcases yE ha with ha|rfl
   .exact bq a ha u hu
   .cases hu
  have bl:(eT (((s.setO b2 (.cells 74 [.ptr r 0])).setO b3 (.cells 60 t.cs)).setO b4 (.cells 191 [.ptr r 6])) ((cK d o).set 7 (none,0,68))).gx s r:=by
   refine aHB bk ?_;exact aY
  have c7:d.many.length<=i:=by have:=hQ.len (o.ma,d.many.length,68) (by simp[cK]);exact this
  refine iJ (s':=pS T fin (cR { d with kind:=x } o) first r (eT (((s.setO b2 (.cells 74 [.ptr r 0])).setO b3 (.cells 60 t.cs)).setO b4 (.cells 191 [.ptr r 6])) ((cK d o).set 7 (none,0,68))) d.many o.ma (i+1+1+1) n) ?_ (aFF (fin:=fin) (σ:=List Cel) (α:=Unit) (X:=Option Nat) (r:=r) (λ_=>.bool true) (λ_=>rfl) (λ_=>rfl) hT
   (λs' b0 tk i n=>pS T fin (cR { d with kind:=x } o) first r s' b0 tk i n) (λs' b0 tk i=>GrQ b2 b4 r s' b0 tk i) (λb0 w n=>((mK fin 12 b0.length w n λw n=>pQ false fin w n).bind λa w n=>.ok (b0++[a]) w n).bind λa w n=>.ok (a,()) w n) 227 [] [.ptr b2 0,.ptr b4 0]
   (λs' a x i n=>⟨_,first,by unfold pS;rw[cO,aL,aF rfl],by unfold pS;rw[zU,nR];exact aM _⟩) (λs' a x i n t v h ht=>?_) (λs' a x i n t v u ht h=>?_) (λs' a x i n t v ht h=>⟨h.dropT,aJo ht⟩)
   (λs' a x i h=>⟨by have:=h.len;omega,h.h1,h.h3,h.ne,h.nil,h.free⟩) (λs' a x i n h=>iY (eX (gA _ _)) h.free)
   (λs' a x i n c9 cb h br bv bc=>aQ8 hT b2 b4 a x h br bv ?_)
   d.many o.ma (i+1+1+1) n ?_ bg hn ?_)
  .refine St.ge.trans (b:=eT ((((s.setO b2 (.cells 74 [.ptr r 0])).setO b3 (.cells 60 t.cs)).setO b4 (.cells 191 [.ptr r 6])).setO r (bK T fin (cR { d with kind:=x } o) first (i+1+1+1) n)) (cK d o)) (lH bC) ?_;unfold pS;rw[zL];exact aJ5 F (k:=7) (o:=(o.ma,d.many.length,68)) rfl 0 68
  .have hx:=aLr h ht;exact⟨hx.2,h.setT hx.1,aHe hx.1⟩
  .have hx:=h.unT;exact⟨by show(gs _ _ _ _).getT t=_;rw[iN,aB hx.1];show(s'.setT t v).getT t=_;rw[dM,aF rfl],h.dropT.setT hx.1,aK3 hx.1⟩
  .rw[bX,bX]at bc;exact bB bc (λa w n h2 j y hj b5 hw hn hy=>h2 j y aC b5 hw hn hy) (λ_ h=>h)
  .refine⟨by omega,b8,b9,⟨m.1.2,z.2.2.1.2⟩,λe=>fW (F.nil (o.ma,d.many.length,68) (by simp[cK]) e),λu hu=>(by refine aL1 F (k:=7) (o:=(o.ma,d.many.length,68)) rfl 0 68 ?_ hu;exactλ_=>rfl)⟩
  refine bB (aDu _ _ _ _ _ [] _ _ _ _ U) (λc w4 m4 bb j y hj b5 bz bw hy=>?_) (λf h s1 x hg bm=>aO (h _ _ (hg.trans bl) bm));obtain⟨l,ul⟩:=c;simp only at bb hy⊢;subst bz;rw[bX]at bb;have H:OwnOk s ((cK d o).set 7 (y,l.length,68)):=by refine aKT F (k:=7) (by simp[cK]) 0 68 68 ?_ hy.free (λe=>by rw[hy.nil e];rfl);exactλ_=>rfl
  unfold pS;simp only[go_sem,aN,m,B,z];refine iJ (aLj (l:=cK d o) (k:=7) (by simp[cK]) H 0 68) ?_;have c5:=H.free;refine gC (d:=cR { d with kind:=x,many:=l } { o with ma:=y }) (T:=T) (fin:=fin) (first:=first) (i:=j) (n:=m4) _ gH b5 hT (bB bb (λ_ w5 m5 bj bd bn c8=>?_) (λf h=>dZ aY h));subst m5;rw[cG]at bj;simp only[go_sem,aN,m,B,z];have c0:=bj (j+1) { o with ma:=y } aC bd bn bw (ItQ.set (k:=7) (a:=(y,l.length,68)) hQ (by simp[cK]) H aC (by have:=hy.len;simp only;omega));refine aS c0 ?_;unfold mM;rw[show cK { d with kind:=x,many:=l } { o with ma:=y }=(cK d o).set 7 (y,l.length,68)by simp[cK]];refine lH ?_;simp only[cR];exact bC
 rw[nX,aB (by simp[c1]),aB (by simp[c2]),aB (by simp[c3]),aB (by simp[c4]),eR]at O;simp only[go_sem,aN,m,B,z];refine pH (d:=cR d o) (T:=T) (fin:=fin) (first:=first) (i:=i) (n:=n) 11 gH hi hT ?_;rw[hw];exact aO (O _ (bK T fin (cR d o) first i n) aY gH)
end
end
section
theorem aKd(fin:Fault):∀(f:Nat) (m:List aD) (w:List Tok) (n:Nat),
  (dK fin [44] (λm w n=>(eU fin w n).bind λa w n=>.ok (m++[a]) w n) f m w n).to (λl w' _=>l.length+w'.length<=m.length+w.length) (λ_=>True)
 | 0,m,w,n=>trivial
 | f+1,m,w,n=>by
  rw[dK,bX,bX];cases w with
  | nil=>trivial
  | cons t w =>
   simp only[eU];split
   .simp only[cG];split
    .refine bB (aKd fin f _ w.tail n) (λl w' _ h=>?_) (λ_ h=>h);simp only[aI,aG,aH,List.length_tail]at h⊢;omega
    .simp only[cG,aI,aG,aH];omega
   ·trivial
section
variable {T:List Tok} {fin:Fault} {d:Dfn} {o:DOwn} {first:Tok} {i n:Nat} {s:St} {r:Nat} {KV Kp:St->A->Prop}
theorem aR8(hT:TOk T)(hi:i<=T.length)(hQ:ItQ s d o i)(hn:n<=2000)
  (hk : (iP false fin d (T.drop i) n).to (fun d' w n' => ∀ j o',i + 1 ≤ j → j ≤ T.length → T.drop j = w → n' ≤ 2000 → ItQ s d' o' j → KV (mM T fin first r s d' o' j n') (.tuple []))
   (λf=>∀s1 x,s1.gx s r->s1.getO r=some x->Kp s1 (.iface 36 f.enc))):Den cx 86 [.ptr r 0] KV Kp (mM T fin first r s d o i n):=by
 have ct:=hT.len;have M:=hQ.own;have cr:=M.free;have L0:=hQ.len (o.so,d.sig.sorts.length,9) (by simp[cK]);have L1:=hQ.len (o.be,d.sig.below.length,104) (by simp[cK]);have L2:=hQ.len (o.op,d.sig.ops.length,73) (by simp[cK]);have L3:=hQ.len (o.fu,d.sig.funs.length,73) (by simp[cK]);have L4:=hQ.len (o.va,d.sig.values.length,9) (by simp[cK]);have L5:=hQ.len (o.eq,d.eqs.length,80) (by simp[cK]);have L8:=hQ.len (o.ru,d.rules.length,84) (by simp[cK]);simp only at L0 L1 L2 L3 L4 L5 L8;have G1:nJ (gv o.be (d.sig.below.map Below.enc))=some (.int .i64 (d.sig.below.map Below.enc).length):=qO (by rw[aK];exact zR M (k:=1) rfl);have G2:nJ (gv o.op (d.sig.ops.map Opr.enc))=some (.int .i64 (d.sig.ops.map Opr.enc).length):=qO (by rw[aK];exact zR M (k:=2) rfl);have G3:nJ (gv o.fu (d.sig.funs.map Opr.enc))=some (.int .i64 (d.sig.funs.map Opr.enc).length):=qO (by rw[aK];exact zR M (k:=3) rfl);have G5:nJ (gv o.eq (d.eqs.map Eqn.enc))=some (.int .i64 (d.eqs.map Eqn.enc).length):=qO (by rw[aK];exact zR M (k:=5) rfl);have G8:nJ (gv o.ru (d.rules.map Rul.enc))=some (.int .i64 (d.rules.map Rul.enc).length):=qO (by rw[aK];exact zR M (k:=8) rfl);(refine aR func86 [0,1,2,3,4,5,14,20,59,76,107,134,177] ?_;simp only[go_sem,ntmps86,f86]);unfold mM;(refine jM λb1 m=>?_);simp only[go_sem,aN,m];refine lD (d:=cR d o) (T:=T) (fin:=fin) (first:=first) (i:=i) (n:=n) gH hi ?_;cases hw:T.drop i with
 | nil=>rw[hw]at hk;exact aO (hk _ (bK T fin (cR d o) first i n) aY gH)
 | cons t w =>
  obtain⟨g1,g2,g3,g4⟩:=mS hw;have bh:∀x:aD,isT x (T.drop i)=eO t x:=λx=>by rw[hw];rfl
  rw[hw]at hk;simp only[iP,bX]at hk;simp only[go_sem,aN,m];(refine jM λb2 B=>?_);simp only[go_sem,aN,m,B];(refine jM λb3 F=>?_);simp only[go_sem,aN,m,B,F];refine kJ (d:=cR d o) (T:=T) (fin:=fin) (first:=first) (i:=i) (n:=n) _ gH hi hT ?_;rw[bh];cases c1:eO t [115,111,114,116];rotate_left
  .rw[aF c1,bX,<-g3]at hk;simp only;simp only[go_sem,aN,m,B,F];have bw:(eT (((s.setO b1 (.cells 74 [.ptr r 0])).setO b2 (.cells 60 t.cs)).setO b3 (.cells 191 [.ptr r 6])) ((cK d o).set 0 (none,0,9))).getO b1=some (.cells 74 [.ptr r 0]):=by simp only[aN,aL,F,B,bR,bT]
   have bz:(eT (((s.setO b1 (.cells 74 [.ptr r 0])).setO b2 (.cells 60 t.cs)).setO b3 (.cells 191 [.ptr r 6])) ((cK d o).set 0 (none,0,9))).getO b3=some (.cells 191 [.ptr r 6]):=by simp only[aN,aL,bT]
   have cl:∀a,a∈(cK d o).set 0 (none,0,9)->∀u,a.1=some u->s.getT u=none:=λa ha u hu=>by
    rcases yE ha with ha|rfl
    .exact cr a ha u hu
    .cases hu
   have cn:(eT (((s.setO b1 (.cells 74 [.ptr r 0])).setO b2 (.cells 60 t.cs)).setO b3 (.cells 191 [.ptr r 6])) ((cK d o).set 0 (none,0,9))).gx s r:=by
    refine aHB cl ?_;exact aY
   refine iJ (s':=pT T fin (cR d o) first r (eT (((s.setO b1 (.cells 74 [.ptr r 0])).setO b2 (.cells 60 t.cs)).setO b3 (.cells 191 [.ptr r 6])) ((cK d o).set 0 (none,0,9))) d.sig.sorts o.so (i+1) n) ?_ (aFF (fin:=fin) (σ:=List aD) (α:=Unit) (X:=Option Nat) (r:=r) (λ_=>.bool true) (λ_=>rfl) (λ_=>rfl) hT
    (λs' bk tk i n=>pT T fin (cR d o) first r s' bk tk i n) (λs' bk tk i=>GrQ b1 b3 r s' bk tk i) (λbk w n=>((mK fin 40 bk.length w n λw n=>eU fin w n).bind λa w n=>.ok (bk++[a]) w n).bind λa w n=>.ok (a,()) w n) 147 [] [.ptr b1 0,.ptr b3 0]
    (λs' a x i n=>⟨_,first,by unfold pT;rw[cO,aL,aF rfl],by unfold pT;rw[zU,nR];exact aM _⟩) (λs' a x i n t v h ht=>?_) (λs' a x i n t v u ht h=>?_) (λs' a x i n t v ht h=>⟨h.dropT,aJo ht⟩)
    (λs' a x i h=>⟨by have:=h.len;omega,h.h1,h.h3,h.ne,h.nil,h.free⟩) (λs' a x i n h=>iY (eX (gA _ _)) h.free)
    (λs' a x i n cz f1 h c0 c8 br=>aRo hT b1 b3 a x h c0 c8 ?_)
    d.sig.sorts o.so (i+1) n ?_ g2 hn ?_)
   .refine St.ge.trans (b:=eT ((((s.setO b1 (.cells 74 [.ptr r 0])).setO b2 (.cells 60 t.cs)).setO b3 (.cells 191 [.ptr r 6])).setO r (bK T fin (cR d o) first (i+1) n)) (cK d o)) (lH bC) ?_;unfold pT;rw[zL];exact aJ5 M (k:=0) (o:=(o.so,d.sig.sorts.length,9)) rfl 0 9
   .have hx:=aLr h ht;exact⟨hx.2,h.setT hx.1,aHe hx.1⟩
   .have hx:=h.unT;exact⟨by show(gs _ _ _ _).getT t=_;rw[iN,aB hx.1];show(s'.setT t v).getT t=_;rw[dM,aF rfl],h.dropT.setT hx.1,aK3 hx.1⟩
   .rw[bX,bX]at br;exact bB br (λa w n h2 j y hj b8 hw hn Z=>h2 j y aC b8 hw hn Z) (λ_ h=>h)
   .refine⟨by omega,bw,bz,⟨m.1.2,F.2.2.1.2⟩,λe=>fW (M.nil (o.so,d.sig.sorts.length,9) (by simp[cK]) e),λu hu=>(by refine aL1 M (k:=0) (o:=(o.so,d.sig.sorts.length,9)) rfl 0 9 ?_ hu;exactλ_=>rfl)⟩
   refine bB (aDu _ _ _ _ _ [] _ _ _ _ hk) (λc w4 m4 bd j y hj b8 bq bt Z=>?_) (λf h s1 x hg bl=>aO (h _ _ (hg.trans cn) bl));obtain⟨l,ul⟩:=c;simp only at bd Z⊢;subst bq;rw[cG]at bd;have H:OwnOk s ((cK d o).set 0 (y,l.length,9)):=by refine aKT M (k:=0) (by simp[cK]) 0 9 9 ?_ Z.free (λe=>by rw[Z.nil e];rfl);exactλ_=>rfl
   unfold pT;simp only[go_sem,aN,m,B,F];refine iJ (aLj (l:=cK d o) (k:=0) (by simp[cK]) H 0 9) ?_;have b9:=H.free;refine gC (d:=cR { d with sig:={ d.sig with sorts:=l } } { o with so:=y }) (T:=T) (fin:=fin) (first:=first) (i:=j) (n:=m4) _ gH b8 hT (bB bd (λ_ w9 m9 S O b6 bg=>?_) (λf h=>dZ aY h));subst m9;rw[cG]at S;simp only[go_sem,aN,m,B,F];have U:=S (j+1) { o with so:=y } aC O b6 bt (ItQ.set (k:=0) (a:=(y,l.length,9)) hQ (by simp[cK]) H aC (by have:=Z.len;simp only;omega));refine aS U ?_;unfold mM;rw[show cK { d with sig:={ d.sig with sorts:=l } } { o with so:=y }=(cK d o).set 0 (y,l.length,9)by simp[cK]];refine lH ?_;simp only[cR,dF,cN,bN,dI];exact bC
  rw[aB (by simp[c1])]at hk;simp only;simp only[go_sem,aN,m,B,F];refine oR (d:=cR d o) (T:=T) (fin:=fin) (first:=first) (i:=i) (n:=n) _ gH hi ?_;rw[bh];simp only[go_sem,aN,m,B,F];cases c2:eO t [115,117,98,115,111,114,116];rotate_left
  .rw[aF c2,aAM,eR]at hk;simp only[go_sem,aN,m,B,F];(refine bO (OT.r 0 8) [] ?_;simp only[go_sem,aN,m,B,F,G1]);refine nS (d:=cR d o) (T:=T) (fin:=fin) (first:=first) (i:=i) (n:=n) _ _ gH hi ?_;by_cases hm:200<=d.sig.below.length
   .rw[aF hm]at hk;rw[aF (by(try simp only[aK]);omega),hw];exact dZ aY hk
   rw[aB hm,bX,<-g3]at hk;rw[aB (by(try simp only[aK]);omega)];simp only[go_sem,aN,m,B,F,cF i aC];refine jJ (d:=cR d o) (T:=T) (fin:=fin) (first:=first) (i:=i+1) (n:=n) gH g2 hT (bB hk (λx w2 m2 b0 cb b7 bb=>?_) (λf h=>dZ aY h));subst m2;rw[<-b7,bX]at b0;simp only[go_sem,aN,m,B,F];(refine jM λb4 bj=>?_);simp only[go_sem,aN,m,B,F,bj];refine gC (d:=cR d o) (T:=T) (fin:=fin) (first:=first) (i:=i+1+1) (n:=n) _ gH cb hT (bB b0 (λ_ w3 m3 bc bn bm bv=>?_) (λf h=>dZ aY h));subst m3;rw[<-bm,bX]at bc;simp only[go_sem,aN,m,B,F,bj];refine jJ (d:=cR d o) (T:=T) (fin:=fin) (first:=first) (i:=i+1+1+1) (n:=n) gH bn hT (bB bc (λy w4 m4 bd cd bq bt=>?_) (λf h=>dZ aY h));subst m4;rw[<-bq,cG]at bd;simp only[go_sem,aN,m,B,F,bj];(refine bO (OT.r 0 13) [(8,[0])] ?_;simp only[go_sem,aN,m,B,F,bj])
   (try simp only[go_sem,aN,m,B,F,bj])
   refine⟨by decide,λy Z=>by simp only[cC]at Z;subst Z;rfl,eI rfl rfl (by rw[aK];refine qJ M (k:=1) (o:=(o.be,d.sig.below.length,104)) rfl ?_;exactλ_=>rfl) (λy Z=>?_) (by simp only[aK,aG,aH];omega) (λu hu=>?_)⟩
   .simp only[cH]at Z;obtain⟨q,_,rfl⟩:=Z;rfl
   have H:=qN M (k:=1) (o:=(o.be,d.sig.below.length,104)) rfl hu (λ_=>rfl) (d.sig.below.length+1);simp only[go_sem,aN,m,B,F,bj];refine iJ (qP M (k:=1) (o:=(o.be,d.sig.below.length,104)) rfl H (λ_=>rfl)) ?_;have b9:=H.free;refine gC (d:={ cR d o with below:=.list (some u) (d.sig.below.map Below.enc++[Below.enc ⟨x,y⟩]) }) (T:=T) (fin:=fin) (first:=first) (i:=i+1+1+1+1) (n:=n) _ gH cd hT (bB bd (λ_ w9 m9 S O b6 bg=>?_) (λf h=>dZ aY h));subst m9;rw[cG]at S;simp only[go_sem,aN,m,B,F,bj];have U:=S (i+1+1+1+1+1) { o with be:=some u } aC O b6 hn (ItQ.set (k:=1) (a:=(some u,d.sig.below.length+1,104)) hQ (by simp[cK]) H aC aP);refine aS U ?_;unfold mM;rw[show cK { d with sig:={ d.sig with below:=d.sig.below++[⟨x,y⟩] } } { o with be:=some u }=(cK d o).set 1 (some u,d.sig.below.length+1,104)by simp[cK]];refine lH ?_;simp only[cR,dF,cN,bN,dI];exact bC
  rw[aB (by simp[c2])]at hk;simp only[go_sem,aN,m,B,F];refine kJ (d:=cR d o) (T:=T) (fin:=fin) (first:=first) (i:=i) (n:=n) _ gH hi hT ?_;rw[bh];cases c3:eO t [118,97,108,117,101];rotate_left
  .rw[aF c3,bX,<-g3]at hk;simp only;simp only[go_sem,aN,m,B,F];(refine bO (OT.r 0 15) [(9,[0,1,5]),(10,[0])] ?_;simp only[go_sem,aN,m,B,F])
   refine iJ (tS gH) (aOt (fin:=fin) (d:=cR d o) (fi:=first) (λx:aD=>A.str x) (λ_=>rfl) (λ_=>rfl) hT (λ_=>True) (λ_ _ _=>Iff.rfl) (eU fin) 85 [.ptr r 0] []
    (aEB (λ_ _ h=>h) (λs' i' n' cz f1 cm _ c0 c8 br=>jJ cm c0 hT (bB br (λ_ _ _ h h1 h2 h3=>by subst h3;exact h (i'+1) aC h1 h2 c8) (λ_ h=>h)))) (i+1) n trivial g2 hn ?_)
   refine bB (aGa hk (aKd _ _ _ _ _)) (λl w3 m3 bc j3 f5 cf bm bv=>?_) (λf h s1 o hg bl=>aO (h _ o (hg.trans aY) bl));obtain⟨hl,bc⟩:=bc;subst bm;simp only[aH,eC]at hl;rw[cG]at bc;simp only[go_sem,aN,m,B,F];refine⟨by decide,λy Z=>by simp only[cH]at Z;obtain⟨q,_,rfl⟩:=Z;rfl,eI rfl rfl (by rw[aK];refine qJ M (k:=4) (o:=(o.va,d.sig.values.length,9)) rfl ?_;exactλ_=>rfl) (λy Z=>?_) (by simp only[aK];omega) (λu hu=>?_)⟩
   .simp only[cH]at Z;obtain⟨q,_,rfl⟩:=Z;rfl
   have H:=qN M (k:=4) (o:=(o.va,d.sig.values.length,9)) rfl hu (λ_=>rfl) (d.sig.values.length+l.length);simp only[go_sem,aN,m,B,F,aK];refine iJ (qP M (k:=4) (o:=(o.va,d.sig.values.length,9)) rfl H (λ_=>rfl)) ?_;have b9:=H.free;refine gC (d:={ cR d o with values:=.list (some u) (d.sig.values.map A.str++l.map A.str) }) (T:=T) (fin:=fin) (first:=first) (i:=j3) (n:=m3) _ gH cf hT (bB bc (λ_ w9 m9 S O b6 bg=>?_) (λf h=>dZ aY h));subst m9;rw[cG]at S;simp only[go_sem,aN,m,B,F];have U:=S (j3+1) { o with va:=some u } aC O b6 bv (ItQ.set (k:=4) (a:=(some u,d.sig.values.length+l.length,9)) hQ (by simp[cK]) H aC aP);refine aS U ?_;unfold mM;rw[show cK { d with sig:={ d.sig with values:=d.sig.values++l } } { o with va:=some u }=(cK d o).set 4 (some u,d.sig.values.length+l.length,9)by simp[cK]];refine lH ?_;simp only[cR,dF,cN,bN,dI];exact bC
  rw[aB (by simp[c3])]at hk;simp only;simp only[go_sem,aN,m,B,F];refine oR (d:=cR d o) (T:=T) (fin:=fin) (first:=first) (i:=i) (n:=n) _ gH hi ?_;rw[bh];simp only[go_sem,aN,m,B,F];cases c4:eO t [111,112];rotate_left
  .rw[aF (.inl c4),aAM,eR]at hk;simp only[go_sem,aN,m,B,F,c4];have bp:t.text=[111,112]:=by have:=c4;simp[eO]at this;exact this.2
   have d4:decide (t.text=[111,112])=true:=by rw[bp];rfl
   (refine bO (OT.r 0 15) [] ?_;simp only[go_sem,aN,m,B,F,G2,G3,hU ((d.sig.ops.length:Int)+(d.sig.funs.length:Int)) aC aC]);refine nS (d:=cR d o) (T:=T) (fin:=fin) (first:=first) (i:=i) (n:=n) _ _ gH hi ?_;by_cases hm:200<=d.sig.ops.length+d.sig.funs.length
   .rw[aF hm]at hk;rw[aF (by(try simp only[aK]);omega),hw];exact dZ aY hk
   rw[aB hm,aF bp,bX,<-g3]at hk;rw[aB (by(try simp only[aK]);omega)];simp only[go_sem,aN,m,B,F,cF i aC,d4];(refine bO (OT.r 0 14) [(7,[0,1,5]),(9,[0])] ?_;simp only[go_sem,aN,m,B,F]);refine aU1 (d:=cR d o) (T:=T) (fin:=fin) (first:=first) (i:=i+1) (n:=n) hT gH g2 hn (bB hk (λx w2 m2 b0 j hj b8 b7 bb=>?_) (λf h=>dZ aY h));subst b7;rw[cG]at b0;simp only[go_sem,aN,m,B,F];refine⟨by decide,λy Z=>by simp only[cC]at Z;subst Z;rfl,eI rfl rfl (by rw[aK];refine qJ M (k:=2) (o:=(o.op,d.sig.ops.length,73)) rfl ?_;exactλ_=>rfl) (λy Z=>?_) (by simp only[aK,aG,aH];omega) (λu hu=>?_)⟩
   .simp only[cH]at Z;obtain⟨q,_,rfl⟩:=Z;rfl
   have H:=qN M (k:=2) (o:=(o.op,d.sig.ops.length,73)) rfl hu (λ_=>rfl) (d.sig.ops.length+1);simp only[go_sem,aN,m,B,F];refine iJ (qP M (k:=2) (o:=(o.op,d.sig.ops.length,73)) rfl H (λ_=>rfl)) ?_;have b9:=H.free;refine gC (d:={ cR d o with ops:=.list (some u) (d.sig.ops.map Opr.enc++[Opr.enc x]) }) (T:=T) (fin:=fin) (first:=first) (i:=j) (n:=m2) _ gH b8 hT (bB b0 (λ_ w9 m9 S O b6 bg=>?_) (λf h=>dZ aY h));subst m9;rw[cG]at S;simp only[go_sem,aN,m,B,F];have U:=S (j+1) { o with op:=some u } aC O b6 bb (ItQ.set (k:=2) (a:=(some u,d.sig.ops.length+1,73)) hQ (by simp[cK]) H aC aP);refine aS U ?_;unfold mM;rw[show cK { d with sig:={ d.sig with ops:=d.sig.ops++[x] } } { o with op:=some u }=(cK d o).set 2 (some u,d.sig.ops.length+1,73)by simp[cK]];refine lH ?_;simp only[cR,dF,cN,bN,dI];exact bC
  simp only[go_sem,aN,m,B,F,c4];refine oR (d:=cR d o) (T:=T) (fin:=fin) (first:=first) (i:=i) (n:=n) _ gH hi ?_;rw[bh];simp only[go_sem,aN,m,B,F];cases c5:eO t [102,117,110];rotate_left
  .rw[aF (.inr c5),aAM,eR]at hk;simp only[go_sem,aN,m,B,F,c5];have bp:¬ t.text=[111,112]:=by have:=c5;simp[eO]at this;rw[this.2];decide
   have d4:decide (t.text=[111,112])=false:=gQ bp;(refine bO (OT.r 0 15) [] ?_;simp only[go_sem,aN,m,B,F,G2,G3,hU ((d.sig.ops.length:Int)+(d.sig.funs.length:Int)) aC aC]);refine nS (d:=cR d o) (T:=T) (fin:=fin) (first:=first) (i:=i) (n:=n) _ _ gH hi ?_;by_cases hm:200<=d.sig.ops.length+d.sig.funs.length
   .rw[aF hm]at hk;rw[aF (by(try simp only[aK]);omega),hw];exact dZ aY hk
   rw[aB hm,aB bp,bX,<-g3]at hk;rw[aB (by(try simp only[aK]);omega)];simp only[go_sem,aN,m,B,F,cF i aC,d4];(refine bO (OT.r 0 14) [(7,[0,1,5]),(9,[0])] ?_;simp only[go_sem,aN,m,B,F]);refine aTl (d:=cR d o) (T:=T) (fin:=fin) (first:=first) (i:=i+1) (n:=n) hT gH g2 hn (bB hk (λx w2 m2 b0 j hj b8 b7 bb=>?_) (λf h=>dZ aY h));subst b7;rw[cG]at b0;simp only[go_sem,aN,m,B,F];refine⟨by decide,λy Z=>by simp only[cC]at Z;subst Z;rfl,eI rfl rfl (by rw[aK];refine qJ M (k:=3) (o:=(o.fu,d.sig.funs.length,73)) rfl ?_;exactλ_=>rfl) (λy Z=>?_) (by simp only[aK,aG,aH];omega) (λu hu=>?_)⟩
   .simp only[cH]at Z;obtain⟨q,_,rfl⟩:=Z;rfl
   have H:=qN M (k:=3) (o:=(o.fu,d.sig.funs.length,73)) rfl hu (λ_=>rfl) (d.sig.funs.length+1);simp only[go_sem,aN,m,B,F];refine iJ (qP M (k:=3) (o:=(o.fu,d.sig.funs.length,73)) rfl H (λ_=>rfl)) ?_;have b9:=H.free;refine gC (d:={ cR d o with funs:=.list (some u) (d.sig.funs.map Opr.enc++[Opr.enc x]) }) (T:=T) (fin:=fin) (first:=first) (i:=j) (n:=m2) _ gH b8 hT (bB b0 (λ_ w9 m9 S O b6 bg=>?_) (λf h=>dZ aY h));subst m9;rw[cG]at S;simp only[go_sem,aN,m,B,F];have U:=S (j+1) { o with fu:=some u } aC O b6 bb (ItQ.set (k:=3) (a:=(some u,d.sig.funs.length+1,73)) hQ (by simp[cK]) H aC aP);refine aS U ?_;unfold mM;rw[show cK { d with sig:={ d.sig with funs:=d.sig.funs++[x] } } { o with fu:=some u }=(cK d o).set 3 (some u,d.sig.funs.length+1,73)by simp[cK]];refine lH ?_;simp only[cR,dF,cN,bN,dI];exact bC
  rw[aB (by simp[c4,c5])]at hk;simp only[go_sem,aN,m,B,F,c5];refine oR (d:=cR d o) (T:=T) (fin:=fin) (first:=first) (i:=i) (n:=n) _ gH hi ?_;rw[bh];simp only[go_sem,aN,m,B,F];cases c6:eO t [108,101,116];rotate_left
  .rw[aF c6,aAM,eR]at hk;simp only[go_sem,aN,m,B,F,c6];(refine bO (OT.r 0 7) [] ?_;simp only[go_sem,aN,m,B,F,G5]);refine nS (d:=cR d o) (T:=T) (fin:=fin) (first:=first) (i:=i) (n:=n) _ _ gH hi ?_;by_cases hm:300<=d.eqs.length
   .rw[aF hm]at hk;rw[aF (by(try simp only[aK]);omega),hw];exact dZ aY hk
   rw[aB hm,bX,<-g3]at hk;rw[aB (by(try simp only[aK]);omega)];simp only[go_sem,aN,m,B,F,cF i aC];(refine bO (OT.l [0,2,3,4,5,1,6,7,8] .nil) [(1,[3,5]),(7,[0,3,5])] ?_;simp only[go_sem,aN,m,B,F]);refine tU (d:=cR d o) (T:=T) (fin:=fin) (first:=first) (i:=i+1) (n:=n) hT gH g2 hn (bB hk (λx w2 m2 b0 j2 f4 c9 b7 bb=>?_) (λf h=>dZ aY h));subst b7;rw[bX]at b0;simp only[go_sem,aN,m,B,F,dJ];(refine jM λb5 bf=>?_);simp only[go_sem,aN,m,B,F,bf];refine gC (d:=cR d o) (T:=T) (fin:=fin) (first:=first) (i:=j2) (n:=m2) _ gH c9 hT (bB b0 (λ_ w3 m3 bc bn bm bv=>?_) (λf h=>dZ aY h));subst m3;rw[<-bm,bX]at bc;simp only[go_sem,aN,m,B,F,bf];refine tU (d:=cR d o) (T:=T) (fin:=fin) (first:=first) (i:=j2+1) (n:=m2) hT gH bn bb (bB bc (λy w4 m4 bd j4 f6 cj bq bt=>?_) (λf h=>dZ aY h));subst bq;rw[bX]at bd;simp only[go_sem,aN,m,B,F,bf,dJ];refine aJI (d:=cR d o) (T:=T) (fin:=fin) (first:=first) (i:=j4) (n:=m4) hT gH cj bt (bB bd (λz w5 m5 ck j5 f3 cg cp cq=>?_) (λf h=>dZ aY h));subst cp;rw[cG]at ck;simp only[go_sem,aN,m,B,F,bf];(refine bO (OT.r 0 11) [(7,[0])] ?_;simp only[go_sem,aN,m,B,F,bf])
   (try simp only[go_sem,aN,m,B,F,bf])
   refine⟨by decide,λy Z=>by simp only[cC]at Z;subst Z;rfl,eI rfl rfl (by rw[aK];refine qJ M (k:=5) (o:=(o.eq,d.eqs.length,80)) rfl ?_;exactλ_=>rfl) (λy Z=>?_) (by simp only[aK,aG,aH];omega) (λu hu=>?_)⟩
   .simp only[cH]at Z;obtain⟨q,_,rfl⟩:=Z;rfl
   have H:=qN M (k:=5) (o:=(o.eq,d.eqs.length,80)) rfl hu (λ_=>rfl) (d.eqs.length+1);simp only[go_sem,aN,m,B,F,bf];refine iJ (qP M (k:=5) (o:=(o.eq,d.eqs.length,80)) rfl H (λ_=>rfl)) ?_;have b9:=H.free;refine gC (d:={ cR d o with eqs:=.list (some u) (d.eqs.map Eqn.enc++[Eqn.enc ⟨x,y,z,t.line,t.col⟩]) }) (T:=T) (fin:=fin) (first:=first) (i:=j5) (n:=m5) _ gH cg hT (bB ck (λ_ w9 m9 S O b6 bg=>?_) (λf h=>dZ aY h));subst m9;rw[cG]at S;simp only[go_sem,aN,m,B,F,bf];have U:=S (j5+1) { o with eq:=some u } aC O b6 cq (ItQ.set (k:=5) (a:=(some u,d.eqs.length+1,80)) hQ (by simp[cK]) H aC aP);refine aS U ?_;unfold mM;rw[show cK { d with eqs:=d.eqs++[⟨x,y,z,t.line,t.col⟩] } { o with eq:=some u }=(cK d o).set 5 (some u,d.eqs.length+1,80)by simp[cK]];refine lH ?_;simp only[cR,dF,cN,bN,dI];exact bC
  rw[aB (by simp[c6])]at hk;simp only[go_sem,aN,m,B,F,c6];refine oR (d:=cR d o) (T:=T) (fin:=fin) (first:=first) (i:=i) (n:=n) _ gH hi ?_;rw[bh];simp only[go_sem,aN,m,B,F];cases c7:eO t [114,117,108,101];rotate_left
  .rw[aF c7,aAM,eR]at hk;simp only[go_sem,aN,m,B,F,c7];(refine bO (OT.r 0 7) [] ?_;simp only[go_sem,aN,m,B,F,G8]);refine nS (d:=cR d o) (T:=T) (fin:=fin) (first:=first) (i:=i) (n:=n) _ _ gH hi ?_;by_cases hm:300<=d.rules.length
   .rw[aF hm]at hk;rw[aF (by(try simp only[aK]);omega),hw];exact dZ aY hk
   rw[aB hm,bX,<-g3]at hk;rw[aB (by(try simp only[aK]);omega)];simp only[go_sem,aN,m,B,F,cF i aC];(refine bO (OT.r 0 13) [(7,[0,1,4]),(9,[0])] ?_;simp only[go_sem,aN,m,B,F]);refine aSf (d:=cR d o) (T:=T) (fin:=fin) (first:=first) (i:=i+1) (n:=n) hT t gH g2 hn (bB hk (λx w2 m2 b0 j hj b8 b7 bb=>?_) (λf h=>dZ aY h));subst b7;rw[cG]at b0;simp only[go_sem,aN,m,B,F];refine⟨by decide,λy Z=>by simp only[cC]at Z;subst Z;rfl,eI rfl rfl (by rw[aK];refine qJ M (k:=8) (o:=(o.ru,d.rules.length,84)) rfl ?_;exactλ_=>rfl) (λy Z=>?_) (by simp only[aK,aG,aH];omega) (λu hu=>?_)⟩
   .simp only[cH]at Z;obtain⟨q,_,rfl⟩:=Z;rfl
   have H:=qN M (k:=8) (o:=(o.ru,d.rules.length,84)) rfl hu (λ_=>rfl) (d.rules.length+1);simp only[go_sem,aN,m,B,F];refine iJ (qP M (k:=8) (o:=(o.ru,d.rules.length,84)) rfl H (λ_=>rfl)) ?_;have b9:=H.free;refine gC (d:={ cR d o with rules:=.list (some u) (d.rules.map Rul.enc++[Rul.enc x]) }) (T:=T) (fin:=fin) (first:=first) (i:=j) (n:=m2) _ gH b8 hT (bB b0 (λ_ w9 m9 S O b6 bg=>?_) (λf h=>dZ aY h));subst m9;rw[cG]at S;simp only[go_sem,aN,m,B,F];have U:=S (j+1) { o with ru:=some u } aC O b6 bb (ItQ.set (k:=8) (a:=(some u,d.rules.length+1,84)) hQ (by simp[cK]) H aC aP);refine aS U ?_;unfold mM;rw[show cK { d with rules:=d.rules++[x] } { o with ru:=some u }=(cK d o).set 8 (some u,d.rules.length+1,84)by simp[cK]];refine lH ?_;simp only[cR,dF,cN,bN,dI];exact bC
  rw[aB (by simp[c7])]at hk;simp only[go_sem,aN,m,B,F,c7];refine iJ (s':=mM T fin first r (((s.setO b1 (.cells 74 [.ptr r 0])).setO b2 (.cells 60 t.cs)).setO b3 (.cells 191 [.ptr r 6])) d o i n) (lH bC) (aQ4 hT t w hw ⟨M.to (λ_=>rfl),hQ.len⟩ hn (bB hk (λd2 w2 m2 b0 j o2 hj b8 b7 bb ch=>?_) (λf h s1 x hg bl=>aO (h s1 x (hg.trans aY) bl))));subst b7;have H:OwnOk s (cK d2 o2):=ch.own.to (λ_=>rfl);unfold mM;simp only[go_sem,aN,m,B,F];have b9:=H.free;refine gC (d:=cR d2 o2) (T:=T) (fin:=fin) (first:=first) (i:=j) (n:=m2) _ gH b8 hT (bB b0 (λ_ w9 m9 S O b6 bg=>?_) (λf h=>dZ aY h));subst m9;rw[cG]at S;simp only[go_sem,aN,m,B,F];have U:=S (j+1) o2 aC O b6 bb ⟨H,λa ha=>mR (ch.len a ha) aC⟩;refine aS U (lH ?_);simp only[cR];exact bC
end
end
noncomputable def c40:Code:=match f40.body with
 | some (.seq _ c)=>c
 | _=>.skip
theorem aHi : f40.body = some (.seq (.region 0 #[⟨some 5,.call ⟨.builtin .recover,#[],#[]⟩,20,"parse.go:505",#[],none⟩] false) c40) := rfl
theorem aNm(a:Act)(w:World):(results f40 a.tmps).run cx.P w=.ok (.tuple #[]) w:=by
 have m:results f40 a.tmps=(do let vs <-(#[]:Array ResultVar).mapM (xW a.tmps);pure (if h:vs.size=1 then vs[0] else .tuple vs)):=rfl;rw[m];simp
theorem aML{P:Program}{Q:Exit->Act->List Frame->World->Prop}{a:Act}{cs:List Frame}{w:World}
  (h : match recoverD cs with
   | some (v,cs')=>Q .normal (a.put (some 5) v) cs' w
   | none=>Q .normal (a.put (some 5) .nilIface) cs w) :
  (Code.region 0 #[⟨some 5,.call ⟨.builtin .recover,#[],#[]⟩,20,"parse.go:505",#[],none⟩] false).wpS P Q a cs w := by
 refine wpS_region ?_;have y : List.range (#[(⟨some 5,.call ⟨.builtin .recover,#[],#[]⟩,20,"parse.go:505",#[],none⟩ : Oper)]).size = [0] := rfl;rw [y];unfold wpOpsS;have ho : (#[(⟨some 5,.call ⟨.builtin .recover,#[],#[]⟩,20,"parse.go:505",#[],none⟩ : Oper)])[0]? = some ⟨some 5,.call ⟨.builtin .recover,#[],#[]⟩,20,"parse.go:505",#[],none⟩ := rfl;rw [ho];simp only;rw [aF (by simp [Region.wanted])];have u : (execOp a.eval ⟨some 5,.call ⟨.builtin .recover,#[],#[]⟩,20,"parse.go:505",#[],none⟩).run P w = .ok .recover w := rfl;rw [u];simp only;cases m : recoverD cs with
 | none=>rw[m]at h;simp only;unfold wpOpsS;exact h
 | some x=>obtain⟨v,cs'⟩:=x;rw[m]at h;simp only;unfold wpOpsS;exact h
theorem aVA{g:Gh}(vals:Array Value)(m:vals.size=1):EnvOk g 14 [] (vals++Array.replicate (f40.ntmps-vals.size) undef) :=
 .nil (by rw[m];simp[m,f40])
theorem aVE(k:Nat)(w:World):(invoke (.fn (.func 40) #[]) #[.pointer (some ⟨k,0,none⟩)]).run cx.P w=.ok (.enter 40 #[.pointer (some ⟨k,0,none⟩)]) w:=by
 have u:(callFunc 40 #[.pointer (some ⟨k,0,none⟩)]).run prog w=.ok (.enter 40 #[.pointer (some ⟨k,0,none⟩)]) w:=by
  have hf : prog.funcs[40]? = some f40 := func40;have m : (f40.name == "runtime.NumGoroutine") = false := rfl;simp only [callFunc,bW,run_program,bV,hf,m,cE,↓reduceIte,aHi,Option.isNone_some,cI]
 show(callFunc 40 (#[Value.pointer (some ⟨k,0,none⟩)]++#[])).run prog w=_;rw[Array.append_empty];exact u
section
theorem aUJ(s:St):Ex cx 14 c40 (λx _ s'=>x=.normal/\s'=s) [(5,.nili)] s:=by
 refine bE (V:=[0,2,3,4,5,6,7,8,9,10,11,12,13]) _ _ _ _ ?_;simp only[c40,f40];simp only[go_sem]
theorem aVg(s:St)(b:Nat)(m z u y U y1 y2 y3:A)(S:s.getO b=some (.cells 36 [U,y1,y2,y3]))(H:m.one=true)(M:z.one=true)(h2:u.one=true)(F:y.one=true) :
  Ex cx 14 c40 (λx _ s'=>x=.normal/\s'.ge (s.setO b (.cells 36 [m,z,u,y]))) [(0,.ptr b 0),(5,.iface 36 (.agg [m,z,u,y]))] s:=by
 refine bE (V:=[0,2,3,4,5,6,7,8,9,10,11,12,13]) _ _ _ _ ?_;simp only[c40,f40];simp only[go_sem,H,M,h2,F];intro q O;have B:=cJ S O;simp only[go_sem,H,M,h2,F,B,S];have ho:(m.one&&(z.one&&(u.one&&y.one)))=true:=by rw[H,M,h2,F];rfl
 refine⟨ho,ho,?_⟩;exact qV (xK (by simp only[aL,bT]) (aCt bJ (vU O (zE _ _ _))))
structure CatchC (C:Cx) (h:FuncId) (ft:TypeId):Prop where
 quiet:∀F g s w (p:Value),R C.toCtx F g s w->CallsD C.P h #[p] .returning w λe u' w'=>(∃v,e=.returned v)/\u'=.returning/\∃g',g.le g'/\R C.toCtx F g' s w'
 loud:∀F g s w (b k:Nat) (cs fs:List A) (v:Value),R C.toCtx F g s w->g.beta b=some k->s.getO b=some (.cells ft cs)->Rz g (.agg fs) v->fs.length=cs.length->fs.length=4 ->
  CallsD C.P h #[.pointer (some ⟨k,0,none⟩)] (.panicking [{ v:=.iface ft v,recovered:=false }]) w λe u' w'=>(∃v,e=.returned v)/\settle u'=.returning /\
   ∃g',g.le g'/\R C.toCtx F g' (s.setO b (.cells ft fs)) w'
theorem aJ7:CatchC cx 40 36 where
 quiet:=by
  intro F g s w p hR;refine callsD_of_wpS (fn:=f40) func40 aHi λu cs S=>?_
  refine wpS_seq (aML ?_);have z:recoverD (u::cs)=none:=by simp[recoverD,S]
  rw[z];refine wpS_of_wp ?_;have hE:=(aVA (g:=g) #[p] rfl).put (a:=⟨_,[]⟩) (d:=5) (x:=.nili) (v:=.nilIface) aE .nili;refine qF (λex a' w' hp=>?_) (aUJ s F g w _ hR hE);obtain⟨g',e',s',x,h1,h2,h3,O,Z,rfl,rfl⟩:=hp;cases ex<;>try exact Z.elim
  refine⟨O,.returning,by rw[<-S],_,aNm a' w',⟨_,rfl⟩,rfl,g',h1,h2⟩
 loud:=by
  intro F g s w b k cs fs v hR b2 hb hv hl O
  obtain⟨y,M,B,H,rfl⟩:∃y M B H,fs=[y,M,B,H]:=by
   match fs,O with
   | [y,M,B,H],_=>exact⟨y,M,B,H,rfl⟩
  obtain⟨y0,y1,y2,y3,rfl⟩:∃y M B H,cs=[y,M,B,H]:=by
   match cs,hl with
   | [y,M,B,H],_=>exact⟨y,M,B,H,rfl⟩
  obtain⟨vs,b3,b4,m⟩:=hv.agg_inv;refine callsD_of_wpS (fn:=f40) func40 aHi λu cs S=>?_
  refine wpS_seq (aML ?_);have z:recoverD (u::cs)=some (.iface 36 v,{ u with mode:=.panicking [{ v:=.iface 36 v,recovered:=true }] }::cs):=by simp[recoverD,S]
  rw[z];refine wpS_of_wp ?_
  have b0:EnvOk g 14 [(0,.ptr b 0)] (#[Value.pointer (some ⟨k,0,none⟩)]++Array.replicate (f40.ntmps-(#[Value.pointer (some ⟨k,0,none⟩)]).size) undef):=by
   refine⟨by simp[f40],λt a U=>?_⟩;simp only[Env.get]at U;split at U
   .rename_i ht;subst ht;cases U;exact⟨_,rfl,.ptr b 0 k b2⟩
   .cases U
  have hE:=b0.put (a:=⟨_,[]⟩) (d:=5) (x:=.iface 36 (.agg [y,M,B,H])) (v:=.iface 36 v) aE (.iface 36 _ v hv);refine qF (λex a' w' hp=>?_) (aVg s b y M B H y0 y1 y2 y3 hb (m y bJ) (m M bJ) (m B bJ) (m H bJ) F g w _ hR hE);obtain⟨g',e',s',x,h1,h2,h3,O,Z,rfl,h6⟩:=hp;cases ex<;>try exact Z.elim
  refine⟨O,.panicking [{ v:=.iface 36 v,recovered:=true }],rfl,_,aNm a' w',⟨_,rfl⟩,rfl,g',h1,h2.weaken h6 (λh=>by cases h)⟩
section
variable {C:Cx} {n:Nat} {e:Env} {s:St}
def aMZ(C:Cx)(F:Fr)(g0:Gh)(n:Nat)(h:FuncId)(Q:Option Nat->XK->Env->St->Prop)(ex:Exit)(a:Act)(w:World):Prop :=
 ∃g' e s x d,g0.le g'/\R C.toCtx F g' s w/\EnvOk g' n e a.tmps/\XRz g' x ex /\
  (match d with
   | none=>a.defers=[]
   | some b=>∃k,g'.beta b=some k/\a.defers=[aAn h k])/\Q d x e s
def ExD(C:Cx)(n:Nat)(h:FuncId)(c:Code)(Q:Option Nat->XK->Env->St->Prop)(e:Env)(s:St):Prop :=
 ∀F g w a,R C.toCtx F g s w->EnvOk g n e a.tmps->a.defers=[]->c.wp C.P (aMZ C F g n h Q) a w
def aEI(R:Env->St->Prop)(Q:Option Nat->XK->Env->St->Prop):XK->Env->St->Prop
 | .normal,e,s=>R e s
 | x,e,s=>Q none x e s
theorem ExD.seq{h:FuncId}{c d:Code}{Q:Option Nat->XK->Env->St->Prop}(Z:Ex C n c (aEI (ExD C n h d Q) Q) e s):ExD C n h (.seq c d) Q e s:=λF g w a hR hE M=>by
 refine wp_seq (qF (λz U w' m=>?_) (Z F g w a hR hE));obtain⟨B,e',s',x,O,h2,H,y,u,S⟩:=m;cases z<;>cases x<;>try exact u.elim
 .refine qF (λz a2 w2 m=>?_) (S F B w' U h2 H (by rw[y];exact M));obtain⟨g2,e2,s2,x2,d2,q1,q2⟩:=m;exact⟨g2,e2,s2,x2,d2,O.trans q1,q2⟩
 all_goals exact⟨B,e',s',_,none,O,h2,H,u,by rw[y];exact M,S⟩
theorem ExD.defer{h:FuncId}{c d:Code}{y:Operand}{b:Nat}{Q:Option Nat->XK->Env->St->Prop}(hc:aHc c=some (h,y))(hy:fC C e y=some (.ptr b 0))(hd:Ex C n d (Q (some b)) e s):ExD C n h (.seq c d) Q e s:=λF g w a S U hD=>by
 obtain⟨id,ops,B,ty,pos,after,rfl,u⟩:=aPN hc;obtain⟨k,hv,O⟩:=((U.oper S) y _ hy).ptr_inv;refine wp_seq ?_
 have z:∀(m:Act),m.tmps=a.tmps->m.defers=[aAn h k]->d.wp C.P (aMZ C F g n h Q) m w:=by
  intro m ht H;refine qF (λex a2 w2 z=>?_) (hd F g w m S (by rw[ht];exact U));obtain⟨g',e',s',x,Z,h2,h3,h4,h5,h6⟩:=z;exact⟨g',e',s',x,some b,Z,h2,h3,h5,⟨k,Z.beta _ _ O,by rw[h4];exact H⟩,h6⟩
 refine wp_region_list ?_;rw[u];unfold wpList;rw[aF (by simp[Region.wanted])];left
 have M:(execOp a.eval ⟨none,.defer ⟨.value (.func h),#[y],B⟩,ty,pos,after,none⟩).run C.P w=.ok (.defer (aAn h k)) w:=by
  have e1:a.eval (.func h)=.func (.func h) #[] #[]:=rfl;simp only[execOp,resolve,e1,Deferred.ofValue,bW,cI,bV,mE,bN,dI,hv,aAn];simp
 unfold Oper.wp;rw[M,Oper.upon_defer];unfold wpList;exact z _ rfl (by simp[Act.put,hD])
def xU(C:Cx)(rs:List ResultVar)(KV Kp:St->A->Prop):Option Nat->XK->Env->St->Prop
 | none,x,e,s=>nK C rs KV Kp x e s
 | some b,.panic v,e,s=>∃m cs,v=.iface 36 (.agg m)/\s.getO b=some (.cells 36 cs)/\m.length=cs.length/\m.length=4/\nK C rs KV Kp .ret e (s.setO b (.cells 36 m))
 | some b,x,e,s=>nK C rs KV Kp x e s
theorem aIy{f:FuncId}{fn:Func}{c:Code}{args:List A}{KV Kp:St->A->Prop}(b5:CatchC C 40 36)
  (b7:∀(k:Nat) (w:World),(invoke (.fn (.func 40) #[]) #[.pointer (some ⟨k,0,none⟩)]).run C.P w=.ok (.enter 40 #[.pointer (some ⟨k,0,none⟩)]) w)
  (hf : C.P.funcs[f]? = some fn) (hb : fn.body = some c) (b4 : (fn.name == "runtime.NumGoroutine") = false) (hn : args.length ≤ fn.ntmps)
  (h:ExD C fn.ntmps 40 c (xU C fn.results.toList KV Kp) (rC 0 args) s):Den C f args KV Kp s:=by
 refine aOM hf hb b4 hn λF g w a hR hE hD=>?_
 refine qF (λex a' w' m=>?_) (h F g w a hR hE hD);obtain⟨O,e',s',x,d,q1,q2,q3,q4,q7,m⟩:=m
 have ret:∀(M:Gh) (s2:St) (w2:World) (x:XK),(x=.normal\/x=.ret)->nK C fn.results.toList KV Kp x e' s2->R C.toCtx F M s2 w2->O.le M ->
   ∃v,(results fn a'.tmps).run C.P w2=.ok v w2/\∃U a s,g.le U/\R C.toCtx F U s w2/\Rz U a v/\KV s a:=by
  intro M s2 w2 x hx hk y z
  have Z:∃l,tH C e' s2 fn.results.toList=some l/\KV s2 (aBx l):=by
   rcases hx with rfl|rfl<;>simp only[nK]at hk<;>split at hk
   .exact⟨_,by assumption,hk⟩
   .exact hk.elim
   .exact⟨_,by assumption,hk⟩
   .exact hk.elim
  obtain⟨l,hl,Z⟩:=Z;obtain⟨vs,H,B⟩:=aDV y (q3.mono z) _ _ hl;refine⟨_,?_,M,_,s2,q1.trans z,y,aMi B,Z⟩;have e0:results fn a'.tmps=(do let vs <-fn.results.mapM (xW a'.tmps);pure (if h:vs.size=1 then vs[0] else .tuple vs)):=rfl;rw[e0,bW,Array.mapM_eq_mapM_toList,Sem.run_map,H];rfl
 cases d with
 | none =>
  simp only[xU]at m;simp only at q7;cases ex<;>cases x<;>try exact q4.elim
  .obtain⟨v,H,U,aa,ss,B⟩:=ret O s' w' .normal (.inl rfl) m q2 (iE O);simp only[bodyPostD,q7,Leaves];exact⟨v,H,U,aa,ss,B⟩
  .exact m.elim
  .exact m.elim
  .obtain⟨v,H,U,aa,ss,B⟩:=ret O s' w' .ret (.inr rfl) m q2 (iE O);simp only[bodyPostD,q7,Leaves];exact⟨v,H,U,aa,ss,B⟩
  .obtain⟨v,rfl,b2⟩:=q4;simp only[bodyPostD,q7,Leaves];exact⟨O,_,v,s',rfl,q1,q2,b2,m⟩
 | some b =>
  obtain⟨k,bd,b3⟩:=q7;have S:(invoke (aAn 40 k).target (aAn 40 k).args).run C.P w'=.ok (.enter 40 #[.pointer (some ⟨k,0,none⟩)]) w':=b7 k w'
  have quiet:∀(x:XK),(x=.normal\/x=.ret)->nK C fn.results.toList KV Kp x e' s'->Leaves C.P fn a'.tmps (aBs C F g KV Kp) [aAn 40 k] .returning w':=by
   intro x hx m;refine⟨by simp,_,_,_,_,rfl,S,?_⟩;refineλc cs hc=>?_
   obtain⟨e,u',w2,fr,⟨⟨v0,rfl⟩,rfl,M,z,y⟩,b0⟩:=b5.quiet F O s' w' (.pointer (some ⟨k,0,none⟩)) q2 c cs hc;obtain⟨v,H,B⟩:=ret M s' w2 x hx m y z;exact⟨.returned v0,.returning,w2,fr,(show Leaves C.P fn a'.tmps (aBs C F g KV Kp) [] .returning w2 from⟨v,H,B⟩),b0⟩
  cases ex<;>cases x<;>try exact q4.elim
  .simp only[bodyPostD,b3];exact quiet .normal (.inl rfl) m
  .exact m.elim
  .exact m.elim
  .simp only[bodyPostD,b3];exact quiet .ret (.inr rfl) m
  .obtain⟨v,rfl,b2⟩:=q4;obtain⟨fs,cs,rfl,b8,hl,h4,m⟩:=m;obtain⟨u,rfl,bc⟩:=b2.iface_inv;simp only[bodyPostD,b3];refine⟨by simp,_,_,_,_,rfl,S,?_⟩;refineλc b9 bb=>?_
   obtain⟨e,u',w2,fr,⟨⟨v0,rfl⟩,b6,M,z,y⟩,b0⟩:=b5.loud F O s' w' b k cs fs u q2 bd b8 bc hl h4 c b9 bb;obtain⟨v,H,B⟩:=ret M _ w2 .ret (.inr rfl) m y z;exact⟨.returned v0,u',w2,fr,(show Leaves C.P fn a'.tmps (aBs C F g KV Kp) [] (settle u') w2 from by rw[b6];exact⟨v,H,B⟩),b0⟩
end
end
section
section
variable {C:Cx} {n:Nat} {h b:Nat} {R:Env->St->Prop} {Q:Option Nat->XK->Env->St->Prop} {e:Env} {s:St} {rs:List ResultVar} {KV Kp:St->A->Prop} {x:XK} {v:A}
@[go_sem] theorem aWj:aEI R Q .normal e s=R e s:=rfl
@[go_sem] theorem aWY:aEI R Q .ret e s=Q none .ret e s:=rfl
@[go_sem] theorem aWn:aEI R Q (.panic v) e s=Q none (.panic v) e s:=rfl
@[go_sem] theorem aWE:xU C rs KV Kp none x e s=nK C rs KV Kp x e s:=rfl
@[go_sem] theorem aWk:xU C rs KV Kp (some b) .normal e s=nK C rs KV Kp .normal e s:=rfl
@[go_sem] theorem aW5:xU C rs KV Kp (some b) .ret e s=nK C rs KV Kp .ret e s:=rfl
@[go_sem] theorem aWo:xU C rs KV Kp (some b) (.panic v) e s=∃m cs,v=.iface 36 (.agg m)/\s.getO b=some (.cells 36 cs)/\m.length=cs.length/\m.length=4/\nK C rs KV Kp .ret e (s.setO b (.cells 36 m)):=rfl
end
theorem aM4(k:Nat)(w:World):(invoke (.fn (.func 40) #[]) #[.pointer (some ⟨k,0,none⟩)]).run cx.P w=.ok (.enter 40 #[.pointer (some ⟨k,0,none⟩)]) w:=aVE k w
def oT:DOwn:=⟨none,none,none,none,none,none,none,none,none⟩
def rZ:Tok:=⟨0,[],0,0,0⟩
theorem aEn(d:Dfn)(o:DOwn){s:St}(h:OwnOk s (cK d o)):A.le (.agg (cR d o).cs) d.enc:=by
 have z:∀k (a:fZ),(cK d o)[k]?=some a->a.1=none->a.2.1=0:=λk a m=>h.nil a (bZ m)
 have g:∀{α:Type} (tk:Option Nat) (f:α->A) (l:List α) (k:Nat) (e:TypeId),(cK d o)[k]?=some (tk,l.length,e)->A.le (gv tk (l.map f)) (.list none (l.map f)):=λtk f l k e m =>
  iQ tk _ (λu=>by rw[fW (z k _ m u)];rfl)
 exact A.le.agg ⟨⟨bH _,rfl⟩,⟨g o.so _ _ 0 9 rfl,rfl⟩,⟨g o.be _ _ 1 104 rfl,rfl⟩,⟨g o.op _ _ 2 73 rfl,rfl⟩,⟨g o.fu _ _ 3 73 rfl,rfl⟩,⟨g o.va _ _ 4 9 rfl,rfl⟩,⟨g o.eq _ _ 5 80 rfl,rfl⟩,⟨g o.on _ _ 6 68 rfl,rfl⟩,⟨bH _,rfl⟩,⟨g o.ma _ _ 7 68 rfl,rfl⟩,⟨g o.ru _ _ 8 84 rfl,rfl⟩,⟨bH _,rfl⟩,⟨bH _,rfl⟩,trivial⟩
theorem aDr{s:St}:OwnOk s (cK gY oT):=by
 refine⟨λo ho u m=>?_,λo ho _=>?_,λi j a b u y B z F=>?_⟩
 .simp only[cK,eA,pF,eS]at ho;rcases ho with rfl|rfl|rfl|rfl|rfl|rfl|rfl|rfl|rfl<;>cases m
 .simp only[cK,eA,pF,eS]at ho;rcases ho with rfl|rfl|rfl|rfl|rfl|rfl|rfl|rfl|rfl<;>rfl
 .have:=bZ y;simp only[cK,eA,pF,eS]at this;rcases this with rfl|rfl|rfl|rfl|rfl|rfl|rfl|rfl|rfl<;>cases z
section
variable {T:List Tok} {fin:Fault} {s:St} {r:Nat} {KV Kp:St->A->Prop}
def aEF(KV:St->A->Prop)(s:St)(r:Nat):Rd Dfn->Prop
 | .ok d _ _=>∀o,KV (s.setO r o) (.tuple [d.enc,Fault.none.enc])
 | .bad f=>∀o,KV (s.setO r o) (.tuple [gY.enc,f.enc])
theorem aMd(hT:TOk T)(hr:s.getO r=some (bK T fin (cR gY oT) rZ 0 0))(hk:aEF KV s r (lW false fin T)):Den cx 38 [.ptr r 0] KV Kp s:=by
 have bw:=hT.len;refine Den.drop ?_;refine aIy aJ7 aM4 func38 rfl rfl (mO rfl) ?_;refine ExD.seq ?_;refine bE (V:=[0,2,3,25]) _ _ _ _ ?_;simp only[go_sem,ntmps38,f38];(intro b2 y;try simp only[jE,cO,dG]at y);have F:=cJ hr (mD y);simp only[go_sem,ntmps38,f38,y,F];(intro b3 m;try simp only[jE,cO,dG]at m);have H:=cJ hr (mD m);simp only[go_sem,ntmps38,f38,y,F,m,H];refine ExD.defer (by rfl) (b:=b3) (by simp only[go_sem,ntmps38,f38,y,F,m,H]) ?_;refine bE (V:=[0,2,3,25]) _ _ _ _ ?_;simp only[go_sem,ntmps38,f38,y,F,m,H];generalize O:(s.setO b2 (Ob.cells 33 [.str [],.nils,.nils,.nils,.nils,.nils,.nils,.nils,.str [],.nils,.nils,.str [],.str []])).setO b3 (Ob.cells 36 [.int .i64 0,.str [],.int .i64 0,.int .i64 0])=s2;have bp:s2.getO r=some (bK T fin (cR gY oT) rZ 0 0):=by subst O;exact(wQ (And.intro y (And.intro F (And.intro m (And.intro H hr)))))
 have z:s2.getO b2=some (Ob.cells 33 [.str [],.nils,.nils,.nils,.nils,.nils,.nils,.nils,.str [],.nils,.nils,.str [],.str []]):=by subst O;exact(wQ (And.intro y (And.intro F (And.intro m H))))
 have B:s2.getO b3=some (Ob.cells 36 [.int .i64 0,.str [],.int .i64 0,.int .i64 0]):=by subst O;exact(wQ (And.intro y (And.intro F (And.intro m H))))
 have Z:∀s1:St,s1.gx s2 r->s1.gx s r:=λs1 h=>h.trans (by subst O;exact aY)
 have bad:∀(f:Fault) (s1:St) (o:Ob) (e:Env),e.get 2=some (.ptr b2 0)->e.get 3=some (.ptr b3 0)->(∀o,KV (s.setO r o) (.tuple [gY.enc,f.enc]))->s1.gx s2 r->s1.getO r=some o ->
   xU cx [ResultVar.cell 2 33,ResultVar.cell 3 36] (DK KV) (DK Kp) (some b3) (.panic (.iface 36 f.enc)) e s1:=by
  intro f s1 o e g2 g3 hb hg ho;have q2:=hg.ob b2 F.2 _ z;have q3:=hg.ob b3 H.2 _ B;simp only[go_sem,ntmps38,f38,y,F,m,H,q2,q3];refine⟨f.cs,_,rfl,rfl,rfl,rfl,?_⟩;simp only[go_sem,ntmps38,f38,y,F,m,H,q2,q3,g2,g3];have b6:=hb o;simp only[go_sem]at b6;exact DK.mk b6 (St.gx.ge (dH m.2 (Z _ hg)) (by rw[aL,aB H.2];exact ho)) (A.le.tuple ⟨aEn gY oT (s:=s) aDr,bH _,trivial⟩)
 have b4:(lW false fin T).to (λd _ _=>∀o,KV (s.setO r o) (.tuple [d.enc,Fault.none.enc])) (λf=>∀o,KV (s.setO r o) (.tuple [gY.enc,f.enc])):=by
  revert hk;unfold aEF;cases lW false fin T<;>exact id
 simp only[lW,bX]at b4;have br:T=T.drop 0:=rfl;rw[br]at b4;refine gC (d:=cR gY oT) (T:=T) (fin:=fin) (first:=rZ) (i:=0) (n:=0) _ bp (aU _) hT (bB b4 (λ_ w1 m1 bc b8 bn c4=>?_) (λf h o=>?_));rotate_left
 .exact bad f _ o _ rfl rfl h (eX (gA _ _)) (by rw[aL,aF rfl])
 subst m1;rw[<-bn]at bc;simp only[go_sem];refine jJ (d:=cR gY oT) (T:=T) (fin:=fin) (first:=rZ) (i:=0+1) (n:=0) (by rw[aL,aF rfl];rfl) b8 hT (bB bc (λx w2 m2 bd b9 bj c1=>?_) (λf h o=>?_));rotate_left
 .exact bad f _ o _ rfl rfl h (eX (eX (gA _ _))) (by rw[aL,aF rfl])
 subst m2;rw[<-bj]at bd;simp only[go_sem,F,H,z,B];refine gC (d:={ cR gY oT with name:=x }) (T:=T) (fin:=fin) (first:=rZ) (i:=0+1+1) (n:=0) _ (by rw[aL,aF rfl];rfl) b9 hT (bB bd (λ_ w3 m3 b5 bb bm c0=>?_) (λf h o=>?_));rotate_left
 .exact bad f _ o _ rfl rfl h (eX (eX (gA _ _))) (by rw[aL,aF rfl])
 subst m3;rw[<-bm]at b5;simp only[go_sem,F,H,z,B];rw[show(T.drop (0+1+1+1)).length=T.length-(0+1+1+1)by rw[eC]]at b5
 refine Ex.loop (ι:=(Dfn × DOwn) × Nat × Nat × Nat) (λc=>[(0,.ptr r 0),(2,.ptr b2 0),(3,.ptr b3 0)]) (λc=>mM T fin rZ r s2 c.1.1 c.1.2 c.2.1 c.2.2.1)
  (λc=>ItQ s2 c.1.1 c.1.2 c.2.1/\c.2.1<=T.length/\c.2.2.1<=2000/\T.length-c.2.1<c.2.2.2/\(pK false fin c.2.2.2 c.1.1 (T.drop c.2.1) c.2.2.1).to (λd _ _=>∀o,KV (s.setO r o) (.tuple [d.enc,Fault.none.enc])) (λf=>∀o,KV (s.setO r o) (.tuple [gY.enc,f.enc])))
  (λc=>T.length-c.2.1) (({ gY with name:=x },oT),0+1+1+1,0,T.length-(0+1+1+1)+1) ?_ ?_ ?_ ?_
 .refine⟨⟨aDr,λa ha=>?_⟩,bb,aU _,iD _,b5⟩;simp only[cK,eA,pF,eS]at ha;rcases ha with rfl|rfl|rfl|rfl|rfl|rfl|rfl|rfl|rfl<;>exact aU _
 .simp only[go_sem,F,H,z,B]
 .show St.ge _ (s2.setO r _);exact bC
 .rintro⟨⟨d,o⟩,i,n,k⟩ ⟨hQ,hi,hn,bt,S⟩;simp only at hQ hi hn bt S;obtain⟨k,rfl⟩:∃k',k=k'+1:=⟨k-1,by omega⟩
  have b0:=hQ.own;have bq:=b0.free;refine bE (V:=[0,2,3,25]) _ _ _ _ ?_;unfold mM;have M:=m.1;simp only[go_sem,F,H,z,B,aN,M];(refine bO (OT.r 0 10) [] ?_;simp only[go_sem,F,H,z,B,aN,M]);cases hc:decide (i<T.length)with
  | true =>
   have c2:i<T.length:=gQ hc;have bh:T.drop i≠[]:=by intro e;have:=dV List.length e;rw[eC,aH]at this;omega
   obtain⟨t,w,hw⟩:∃t w,T.drop i=t::w:=by
    cases hq:T.drop i with
    | nil=>exact cM hq bh
    | cons t w=>exact⟨t,w,rfl⟩
   rw[hw,pK,bX,<-hw]at S;simp only[go_sem,F,H,z,B,aN,M];refine aR8 hT hi hQ hn (bB S (λd' w' n' U j o' hj bv bl bz bg=>?_) (λf h s1 x hg bk=>?_))
   .subst bl;simp only[go_sem,F,H,z,B,aN,M];exact⟨((d',o'),j,n',k),⟨bg,bv,bz,aP,U⟩,aP,aM _⟩
   .exact bad f _ _ _ rfl rfl h hg bk
  | false =>
   have c3:¬ i<T.length:=gQ hc;rw[yF aC,pK,cG]at S;simp only[go_sem,F,H,z,B,aN,M];(refine bO (OT.r 0 7) [(5,[4])] ?_;simp only[go_sem,F,H,z,B,aN,M]);have b7:(A.one (gv o.so (d.sig.sorts.map .str))&&(A.one (gv o.be (d.sig.below.map Below.enc))&&(A.one (gv o.op (d.sig.ops.map Opr.enc))&&(A.one (gv o.fu (d.sig.funs.map Opr.enc))&&(A.one (gv o.va (d.sig.values.map .str))&&(A.one (gv o.eq (d.eqs.map Eqn.enc))&&(A.one (gv o.on (d.once.map Cel.enc))&&(A.one (gv o.ma (d.many.map Cel.enc))&&A.one (gv o.ru (d.rules.map Rul.enc))))))))))=true:=by simp only[sU,fS]
   refine⟨b7,?_⟩;have U:=S (bK T fin (cR d o) rZ i n);have bf:=aEn d o b0;simp only[go_sem]at U;simp only[go_sem]at bf;refine DK.mk U (aKr (qV (xK (by simp only[aL,F,H,bR,bT]<;>rfl) (vU m.2 (vU y (aCt bJ (aKm (Z s2 (gA _ _)) bJ)))))) (λa ha u hu=>by have:=bq a ha u hu;subst O;exact this)) (A.le.tuple ⟨bf,bH _,trivial⟩)
end
end
section
structure RQ (T:List Tok) where
 at_:Nat
 le:at_<=T.length
 f:Fault
 first:Nat
 nodes:Int
 over:Bool
section
variable {T:List Tok} (fin:Fault)
def RQ.ok(q:RQ T):Bool:=decide (q.f.code=0)
def RQ.tok(q:RQ T):Tok:=(T[q.at_]?).getD ⟨0,[],0,0,0⟩
def uP:Tm:=.mk 0 0 [] [] [] []
end
end
section
def lB(x:aD):Fault:=⟨12,[],1+(x.count 10:Nat),x.length-oP x 10 x.length⟩
def aHC(x:aD):Dfn × Fault:=match kC dR true x with
 | .bad f=>(gY,f)
 | .ok T=>match lW false (lB x) T with
  | .ok d _ _=>(d,Fault.none)
  | .bad f=>(gY,f)
def sZ(x:aD):Dfn × Fault:=if 20000<x.length then(gY,⟨3,[],0,0⟩) else aHC x
def aBn(x:aD):Tm × Fault:=if 20000<x.length then(uP,⟨3,[],0,0⟩) else match kC dR true x with
 | .bad f=>(uP,f)
 | .ok T=>match gS false (lB x) T 0 with
  | .ok t [] _=>(t,Fault.none)
  | .ok _ (t::w) _=>(uP,gK (lB x) 11 (t::w))
  | .bad f=>(uP,f)
theorem aHs{x:aD}{l:List Tok}(u:x.length<=4294967280)(h:kC dR true x=.ok l):TOk l:=by
 obtain⟨y,h2⟩:=aUZ h;refine⟨by omega,λt m=>(h2 t m).num,λt m=>?_,λt m=>?_⟩
 .have:=(h2 t m).col;omega
 .have:=(h2 t m).txt;omega
theorem aJN(x:aD)(c:UInt8):∀n,oP x c n<n/\-1<=oP x c n
 | 0=>by simp[oP]
 | n+1=>by
  have:=aJN x c n;simp only[oP];split<;>omega
section
variable {s:St} {KV Kp:St->A->Prop}
theorem aJu(x:aD)(hx:x.length<=4294967280) (B:match kC dR true x with
  | .ok l=>∀r,s.getO r=none->KV (s.setO r (bK l (lB x) (cR gY oT) rZ 0 0)) (.tuple [.ptr r 0,Fault.none.enc])
  | .bad f=>KV s (.tuple [.nilp,f.enc])):Den cx 83 [.str x] KV Kp s:=by
 have O:x.count 10<=x.length:=List.count_le_length;have H:=aJN x 10 x.length;(refine aR func83 [0,2,3,4,5,6,14] ?_;simp only[go_sem,ntmps83,f83]);(refine jM λb3 m=>?_);simp only[go_sem,m];refine aSV _ x _ _ aC ?_;cases hl:kC dR true x with
 | bad f =>
  rw[hl]at B;have S:=aDK hl;have M:decide (f.code=0)=false:=by rw[S];rfl
  simp only[Lx.out];simp only[go_sem,m];(refine jM λU u=>?_);simp only[go_sem,m,u,M];(refine bO (OT.r 0 3) [] ?_;simp only[go_sem,m,u]);simp only[go_sem]at B;exact aS B bC
 | ok l =>
  rw[hl]at B;simp only[Lx.out];have b0:Fault.none.code=0:=rfl;simp only[go_sem,m,Fault.none];(refine jM λU u=>?_);simp only[go_sem,m,u];refine aOH _ _ _ _ _ ?_;simp only[go_sem,m,u,hU (1+((x.count 10:Nat):Int)) aC aC];refine aOm _ x 10 _ _ aC ?_;simp only[go_sem,m,u,hU ((x.length:Int)-oP x 10 x.length) aC aC];(refine jM λb6 y=>?_);simp only[go_sem,m,u,y];(refine bO (OT.l [0,1,2,4,3,5,6] .nil) [(3,[4])] ?_;simp only[go_sem,m,u,y]);(refine jM λZ z=>?_);simp only[go_sem,m,u,y,z];have F:=B Z (by first|exact z.2.2.2|exact z.2.2);simp only[Fault.enc,Fault.cs,Fault.none]at F;exact aS F bC
theorem aJR(x:aD)(H:x.length<=4294967280) (m:if 20000<x.length then KV s (.tuple [.nilp,Fault.enc ⟨3,[],0,0⟩]) else match kC dR true x with
  | .ok l=>∀r,s.getO r=none->KV (s.setO r (bK l (lB x) (cR gY oT) rZ 0 0)) (.tuple [.ptr r 0,Fault.none.enc])
  | .bad f=>KV s (.tuple [.nilp,f.enc])):Den cx 37 [.str x] KV Kp s:=by
 (refine aR func37 [0,2,3,6] ?_;simp only[go_sem,ntmps37,f37]);(refine jM λF u=>?_);simp only[go_sem,u];cases c:decide ((20000:Int)<(x.length:Int))with
 | true =>
  rw[aF (by simp at c;omega)]at m;simp only[go_sem,u,c];simp only[go_sem]at m;exact aS m bC
 | false =>
  rw[aB (by simp at c;omega)]at m;simp only[go_sem,u,c];refine aJu x H ?_;cases hl:kC dR true x with
  | bad f =>
   rw[hl]at m;simp only at m⊢;simp only[go_sem,u];simp only[go_sem]at m;exact aS m bC
  | ok l =>
   rw[hl]at m;simp only at m⊢;intro r z;have y:=m r (by have:=z;rw[aL]at this;split at this;cases this;exact this);have B:F≠r:=λe=>by subst e;rw[aL,aF rfl]at z;cases z
   simp only[Fault.enc,Fault.cs,Fault.none]at y⊢;have M:=B.symm;simp only[go_sem,u,B,B.symm];exact aS y bC
theorem aRs(x:aD)(H:x.length<=4294967280)(y:KV s (.tuple [(sZ x).1.enc,(sZ x).2.enc])):Den cx 15 [.str x] KV Kp s:=by
 have M:A.le (.agg [.str [],.nils,.nils,.nils,.nils,.nils,.nils,.nils,.str [],.nils,.nils,.str [],.str []]) gY.enc:=aEn gY oT (s:=s) aDr;(refine aR func15 [0,2,3,4,5,13] ?_;simp only[go_sem,ntmps15,f15]);(refine jM λS m=>?_);simp only[go_sem,m];(refine jM λU u=>?_);simp only[go_sem,m,u];refine aJR x H ?_;unfold sZ at y;split
 .rename_i c;rw[aF c]at y;simp only[go_sem,m,u];(refine jM λO z=>?_);simp only[go_sem,m,u,z];(refine bO (OT.r 0 4) [(2,[1])] ?_;simp only[go_sem,m,u,z]);exact DK.mk y bC (A.le.tuple ⟨M,bH _,trivial⟩)
 .rename_i c;rw[aB c]at y;unfold aHC at y;cases hl:kC dR true x with
  | bad f =>
   rw[hl]at y;have F:decide (f.code=0)=false:=by rw[aDK hl];rfl
   simp only at y⊢;simp only[go_sem,m,u];(refine jM λO z=>?_);simp only[go_sem,m,u,z,F];(refine bO (OT.r 0 4) [(2,[1])] ?_;simp only[go_sem,m,u,z]);simp only[go_sem]at y;exact DK.mk y bC (A.le.tuple ⟨M,bH _,trivial⟩)
  | ok T =>
   rw[hl]at y;simp only at y⊢;intro r B;simp only[jE,dG]at B;simp only[go_sem,m,u,B,Fault.none];(refine jM λO z=>?_);simp only[go_sem,m,u,B,z];refine aMd (T:=T) (fin:=lB x) (aHs H hl) gH ?_;unfold aEF;cases hd:lW false (lB x) T with
   | bad f =>
    rw[hd]at y;simp only at y⊢;intro o;simp only[go_sem,m,u,B,z];simp only[go_sem]at y;exact aS y bC
   | ok d w n =>
    rw[hd]at y;simp only at y⊢;intro o;simp only[go_sem,m,u,B,z];simp only[go_sem]at y;exact aS y bC
theorem aQx(x:aD)(hx:x.length<=4294967280)(O:KV s (.tuple [(aBn x).1.enc,(aBn x).2.enc])):Den cx 18 [.str x] KV Kp s:=by
 have zt:A.le (.agg [.int .i64 0,.int .i64 0,.str [],.str [],.nils,.nils]) uP.enc:=Tm.le_leaf 0 0 [] [];refine Den.drop ?_;refine aIy aJ7 aM4 func18 rfl rfl (mO rfl) ?_;refine ExD.seq ?_;refine bE (V:=[0,2,3,4,5,13,27]) _ _ _ _ ?_;simp only[go_sem,ntmps18,f18];(refine jM λZ y=>?_);simp only[go_sem,ntmps18,f18,y];(refine jM λU u=>?_);simp only[go_sem,ntmps18,f18,y,u];refine ExD.seq ?_;refine bE (V:=[0,2,3,4,5,13,27]) _ _ _ _ ?_;simp only[go_sem,ntmps18,f18,y,u];refine aJR x hx ?_;unfold aBn at O;split
 .rename_i c;rw[aF c]at O;simp only[go_sem,ntmps18,f18,y,u];refine ExD.seq ?_;refine bE (V:=[0,2,3,4,5,13,27]) _ _ _ _ ?_;simp only[go_sem,ntmps18,f18,y,u];(refine bO (OT.r 0 4) [(2,[1])] ?_;simp only[go_sem,ntmps18,f18,y,u]);exact DK.mk O bC (A.le.tuple ⟨zt,bH _,trivial⟩)
 .rename_i c;rw[aB c]at O;cases hl:kC dR true x with
  | bad f =>
   rw[hl]at O;have b0:decide (f.code=0)=false:=by rw[aDK hl];rfl
   simp only at O⊢;simp only[go_sem,ntmps18,f18,y,u];refine ExD.seq ?_;refine bE (V:=[0,2,3,4,5,13,27]) _ _ _ _ ?_;simp only[go_sem,ntmps18,f18,y,u,b0];(refine bO (OT.r 0 4) [(2,[1])] ?_;simp only[go_sem,ntmps18,f18,y,u]);simp only[go_sem]at O;exact DK.mk O bC (A.le.tuple ⟨zt,bH _,trivial⟩)
  | ok T =>
   rw[hl]at O;have hT:=aHs hx hl;have b6:=hT.len;simp only at O⊢;intro r H;simp only[jE,dG]at H;simp only[go_sem,y,u,ntmps18,f18,H,Fault.none];refine ExD.seq ?_;refine bE (V:=[0,2,3,4,5,13,27]) _ _ _ _ ?_;simp only[go_sem,y,u,ntmps18,f18,H];refine ExD.defer (by rfl) (b:=U) (by simp only[go_sem,y,u,ntmps18,f18,H]) ?_;refine bE (V:=[0,2,3,4,5,13,27]) _ _ _ _ ?_;simp only[go_sem,y,u,ntmps18,f18,H];have F:Z≠U:=by first|exact u.1.1|exact u.1
   have B:r≠Z:=λe=>H.2.1.2 e
   have z:r≠U:=λe=>H.1.2 e
   have hs:s.getO r=none:=H.2.2
   have bad:∀(f:Fault) (s1:St) (e:Env),e.get 2=some (.ptr Z 0)->e.get 3=some (.ptr U 0)->KV s (.tuple [uP.enc,f.enc]) ->
     s1.getO Z=some (.cells 43 [.int .i64 0,.int .i64 0,.str [],.str [],.nils,.nils])->s1.getO U=some (.cells 36 [.int .i64 0,.str [],.int .i64 0,.int .i64 0])->s1.ge s ->
     xU cx [ResultVar.cell 2 43,ResultVar.cell 3 36] (DK KV) (DK Kp) (some U) (.panic (.iface 36 f.enc)) e s1:=by
    intro f s1 e g2 g3 hb q2 q3 hg;simp only[go_sem,q2,q3,F,F.symm,g2,g3];refine⟨f.cs,_,rfl,rfl,rfl,rfl,?_⟩;simp only[go_sem,q2,q3,F,F.symm,g2,g3];simp only[go_sem]at hb;exact DK.mk hb (qV (vU (by first|exact u.2|exact u.2.2) (aDp hg _ _))) (A.le.tuple ⟨zt,bH _,trivial⟩)
   have b7:(gS false (lB x) T 0).to (λt w _=>match w with|[]=>KV s (.tuple [t.enc,Fault.none.enc])|t::w=>KV s (.tuple [uP.enc,(gK (lB x) 11 (t::w)).enc])) (λf=>KV s (.tuple [uP.enc,f.enc])):=by
    revert O;cases gS false (lB x) T 0 with
    | bad f=>exact id
    | ok t w n=>cases w<;>exact id
   refine tU (d:=cR gY oT) (T:=T) (fin:=lB x) (first:=rZ) (i:=0) (n:=0) hT (wQ (And.intro y (And.intro u H))) (aU _) (aU _) (bB (show(gS false (lB x) (T.drop 0) 0).to _ _ from b7) (λt w m S j hj b4 hw hm=>?_) (λf h o=>?_));rotate_left
   .refine bad f _ _ rfl rfl h ?_ ?_ ?_
    .exact(wQ (And.intro y (And.intro u (And.intro H (And.intro B (And.intro z (And.intro B.symm (And.intro z.symm (And.intro F F.symm)))))))))
    .exact(wQ (And.intro y (And.intro u (And.intro H (And.intro B (And.intro z (And.intro B.symm (And.intro z.symm (And.intro F F.symm)))))))))
    .exact bC
   simp only[go_sem,y,u,ntmps18,f18,H,dJ];(refine jM λb5 M=>?_);simp only[go_sem,y,u,ntmps18,f18,H,M];(refine bO (OT.r 0 10) [] ?_;simp only[go_sem,y,u,ntmps18,f18,H,M]);cases hc:decide (j<T.length)with
   | true =>
    have b8:j<T.length:=gQ hc;cases w with
    | nil=>exfalso;have:=dV List.length hw;rw[eC,aH]at this;omega
    | cons t2 w2 =>
     simp only[go_sem,y,u,ntmps18,f18,H,M];refine pH (d:=cR gY oT) (T:=T) (fin:=lB x) (first:=rZ) (i:=j) (n:=m) 11 (wQ (And.intro y (And.intro u (And.intro H M)))) b4 hT ?_;rw[hw];refine bad _ _ _ rfl rfl S ?_ ?_ ?_
     .exact(wQ (And.intro y (And.intro u (And.intro H (And.intro M (And.intro B (And.intro z (And.intro B.symm (And.intro z.symm (And.intro F F.symm))))))))))
     .exact(wQ (And.intro y (And.intro u (And.intro H (And.intro M (And.intro B (And.intro z (And.intro B.symm (And.intro z.symm (And.intro F F.symm))))))))))
     .exact bC
   | false =>
    have b9:¬ j<T.length:=gQ hc;cases w with
    | cons t2 w2=>exfalso;have:=dV List.length hw;rw[eC,aG]at this;omega
    | nil =>
     simp only[dJ]at S;simp only[go_sem,y,u,ntmps18,f18,H,M];(refine bO (OT.r 0 4) [(2,[1])] ?_;simp only[go_sem,y,u,ntmps18,f18,H,M]);simp only[go_sem]at S;exact aS S bC
end
end
section
theorem bY{α m:Type}(a:α)(w:List Tok)(n:Nat)(k:α->List Tok->Nat->Rd m):(Rd.ok a w n).bind k=k a w n:=rfl
theorem gG(x y:aD)(w:List Tok):isT x (aW y::w)=decide (y=x):=by simp[isT,eO,aW];exact gV.2 Iff.rfl
theorem vV(x y:aD)(w:List Tok):isT x (bL y::w)=decide (y=x):=by simp[isT,eO,bL];exact gV.2 Iff.rfl
section
variable (fin:Fault) (first:Tok)
theorem aHn{t:Tm}(h:Gd t)(w:List Tok):isT [124] (bP t.pc++w)=false/\isT [93] (bP t.pc++w)=false/\isT [125] (bP t.pc++w)=false/\isT [41] (bP t.pc++w)=false:=by
 obtain⟨u,P,e,m⟩:=h.hd;rw[e,bP,aZ];exact⟨m.n1,m.n2,m.n3,m.n4⟩
theorem aS4(t:Tm)(l:List Tm):bP (eY true (t::l))=aW [44]::bP (eY false (t::l)):=by
 simp only[eY,oY,bT,cE,bR,bA,aZ,bP]
theorem aSu(t u:Tm)(l:List Tm):bP (fO true (t::u::l))=aW [44]::bP (fO false (t::u::l)):=by
 simp only[fO,oY,bT,cE,bR,bA,aZ,bP]
theorem aGg(f:Tm->Nat->Option Nat)(one:List Tm->List Tok->Nat->Rd Tm)(B:Nat):∀(l:List Tm) (y:List Tm) (m z:Nat) (w:List Tok) (g:Nat),
  (∀y t m z w,y.length<B->t∈l->f t m=some z->one y (bP t.pc++w) m=.ok t w z)->l≠[]->l.length<=g->y.length+l.length<=B->eM f l m=some z->isT [44] w=false ->
  dK fin [44] (λy w n=>(one y w n).bind λa w n=>.ok (y++[a]) w n) g y (bP (eY false l)++w) m=.ok (y++l) w z
 | [],y,m,z,w,g,O,H,_,_,_,_=>cM rfl H
 | t::r,y,m,z,w,g,O,_,M,S,F,Z=>by
  obtain⟨g,rfl⟩:∃g',g=g'+1:=⟨g-1,by simp only[aG]at M;omega⟩
  simp only[eM]at F;cases hf:f t m with
  | none=>rw[hf]at F;cases F
  | some U =>
   rw[hf]at F;simp only[Option.bind_some]at F;simp only[aG]at M S
   have e1:bP (eY false (t::r))++w=bP t.pc++(bP (eY true r)++w):=by
    simp only[eY,oY,cE,bR,bA,mF,bG]
   rw[e1,dK,O y t m U _ aC (bU ..) hf];simp only[bY];cases r with
   | nil =>
    simp only[eM,bQ]at F;subst F;rw[show bP (eY true [])++w=w from rfl,aB (by rw[Z];decide)]
   | cons u r =>
    have e2:bP (eY true (u::r))++w=aW [44]::(bP (eY false (u::r))++w):=by rw[aS4,aZ]
    rw[e2,gG,aF aE,List.tail_cons,aGg f one B (u::r) (y++[t]) U z w g (λy t m z w ha ht=>O y t m z w ha (cP _ ht)) bJ (by simp only[aG]at M⊢;omega) (by simp only[aG,aI,aH]at S⊢;omega) F Z,bG];rfl
theorem aKI(f:Tm->Nat->Option Nat)(Z:List Tok->Nat->Rd Tm):∀(q:Nat) (l:List Tm) (y:List Tm) (m z:Nat) (w:List Tok) (g:Nat),l.length<=q->l.length % 2=0 ->
  (∀t m z w,t∈l->f t m=some z->Z (bP t.pc++w) m=.ok t w z)->l≠[]->l.length<=g->eM f l m=some z->isT [44] w=false ->
  dK fin [44] (oV fin Z) g y (bP (fO false l)++w) m=.ok (y++l) w z
 | q,[],y,m,z,w,g,_,_,O,S,_,_,_=>cM rfl S
 | q,[_],y,m,z,w,g,_,H,_,_,_,_,_=>by simp at H
 | 0,k::v::r,y,m,z,w,g,M,_,_,_,_,_,_=>by simp at M
 | q+1,k::v::r,y,m,z,w,g,M,H,O,_,hg,B,hw=>by
  simp only[aG]at hg M H;obtain⟨g,rfl⟩:∃g',g=g'+1:=⟨g-1,by omega⟩
  simp only[eM]at B;cases hf:f k m with
  | none=>rw[hf]at B;cases B
  | some U =>
   rw[hf]at B;simp only[Option.bind_some]at B;cases F:f v U with
   | none=>rw[F]at B;cases B
   | some m2 =>
    rw[F]at B;simp only[Option.bind_some]at B
    have e1:bP (fO false (k::v::r))++w=bP k.pc++(aW [45,62]::(bP v.pc++(bP (fO true r)++w))):=by
     simp only[fO,oY,cE,bR,bA,mF,bP,bG,aZ]
    rw[e1,dK];simp only[oV];rw[O k m U _ (bU ..) hf];simp only[bY,gP];rw[gG,aF aE];simp only[List.tail_cons,bY];rw[O v U m2 _ (cP _ (bU ..)) F];simp only[bY];cases r with
    | nil =>
     simp only[eM,bQ]at B;subst B;rw[show bP (fO true [])++w=w from rfl,aB (by rw[hw];decide)]
    | cons u r =>
     cases r with
     | nil=>simp at H
     | cons x r =>
     have e2:bP (fO true (u::x::r))++w=aW [44]::(bP (fO false (u::x::r))++w):=by rw[aSu,aZ]
     rw[e2,gG,aF aE,List.tail_cons,aKI f Z q (u::x::r) (y++[k,v]) m2 z w g (by simp only[aG]at M⊢;omega) (by simp only[aG]at H⊢;omega) (λt m z w ht=>O t m z w (cP _ (cP _ ht))) bJ (by simp only[aG]at hg⊢;omega) B hw,bG];rfl
theorem aB0{x:aD}(m:x ∉ iM):(bL x).free=true:=by
 unfold Tok.free bL;simp[m]
theorem aCv(e:Bool)(S:aD)(rs:List Tm)(h:wC S rs):bP (iI e rs)=[]/\rs=[]\/∃x,rs=[.mk 6 0 x S [] []]/\bP (iI e rs)=[aW [124],bL x]/\x ∉ iM:=by
 rcases h with rfl|⟨x,rfl,_,m⟩
 .exact .inl ⟨rfl,rfl⟩
 .exact .inr ⟨x,rfl,by cases e<;>rfl,m⟩
theorem aKg{S:aD}{rs:List Tm}(h:wC S rs)(e:Bool)(k m z:Nat)(c:aD)(B:c≠[124])(w:List Tok)(u:jZ k rs.length m=some z) :
  rY fin first (decide (k=0)) S (bP (iI e rs)++aW c::w) m=.ok rs (aW c::w) z:=by
 rcases aCv e S rs h with⟨y,h2⟩|⟨x,h2,y,F⟩
 .rw[y,bA];subst h2;simp only[jZ,aH,bT,bQ]at u;subst u;unfold rY;rw[gG,aB (by simp[B])]
 .rw[y];subst h2;simp only[jZ,aG,aH,fH,Nat.succ_ne_zero,bR]at u;split at u
  .rename_i H;simp only[bQ]at u;subst u;unfold rY;rw[aZ,gG,aF aE];simp only[List.tail_cons,aZ,bA];rw[aF (aB0 F),aB (by simp;omega)];unfold pO;rw[aB aC];rfl
  .cases u
end
end
section
section
variable (fin:Fault) (first:Tok)
theorem aEe{m:Nat}(h:m+1<=2000)(w:List Tok):pO first w m=.ok () w (m+1):=by
 unfold pO;rw[aB aC]
theorem aDA(x:aD):(aW x).text=x:=rfl
theorem xE(x:aD):(bL x).text=x:=rfl
theorem aQf(x:aD)(l c:Int):Tok.begins ⟨3,x,0,l,c⟩=true:=rfl
theorem aQq(n:Int)(l c:Int):Tok.begins ⟨2,[],n,l,c⟩=true:=rfl
theorem aAN(k m:Nat)(x:aD)(w:List Tok)(u:(aW x).begins=true)(h:m+1<=2000) :
  fU false fin first (k+1) (aW x::w) m=nT fin first (fU false fin first k) (decide (k=0)) (aW x) w (m+1):=by
 rw[fU,aF u,aEe first h,bY,aB (by simp[aW]),aB (by simp[aW]),aB (by simp[aW])]
theorem aD4(k m:Nat)(x:aD)(w:List Tok)(u:(bL x).begins=true)(h:m+1<=2000) :
  fU false fin first (k+1) (bL x::w) m=uC false fin first (fU false fin first k) (bL x) w (m+1):=by
 rw[fU,aF u,aEe first h,bY,aB (by simp[bL]),aB (by simp[bL]),aF (by simp[bL])]
theorem aMy{x:aD}(h:x ∉ iM):x≠aBl/\x≠aA8:=by
 refine⟨?_,?_⟩<;>(rintro rfl;exact h aE)
theorem iZ(x:aD)(w:List Tok)(n:Nat):gP fin x (aW x::w) n=.ok () w n:=by
 unfold gP;rw[gG,aF bJ,List.tail_cons]
theorem aHh:∀(l:List Tm),(∀y,y∈l->Gd y)->∀b,l.length<=(bP (eY b l)).length
 | [],_,b=>aU _
 | t::r,h,b=>by
  obtain⟨u,P,e,_⟩:=(h t (bU ..)).hd;have:=aHh r (λy m=>h y (cP _ m)) true;simp only[eY,mF,aI,e,bP,aG];omega
theorem aL5:∀(m:Nat) (l:List Tm),l.length<=m->l.length % 2=0->(∀y,y∈l->Gd y)->∀b,l.length<=(bP (fO b l)).length
 | _,[],_,_,_,b=>aU _
 | _,[_],_,z,_,b=>by simp at z
 | 0,k::v::r,B,_,_,b=>by simp at B
 | m+1,k::v::r,B,z,h,b=>by
  simp only[aG]at B z;obtain⟨u,P,e,_⟩:=(h k (bU ..)).hd;obtain⟨O,M,F,_⟩:=(h v (cP _ (bU ..))).hd;have:=aL5 m r aC aC (λy H=>h y (cP _ (cP _ H))) true;simp only[fO,mF,aI,e,F,bP,aG];omega
theorem aTj:∀(k:Nat) (t:Tm) (m F:Nat) (w:List Tok),Gd t->fM k t m=some F->fU false fin first k (bP t.pc++w) m=.ok t w F:=by
 intro k
 induction k with
 | zero=>intro t m F w hg h;cases h
 | succ k ih =>
  intro t m F w hg h
  have u:m+1<=2000:=by
   cases t;simp only[fM]at h;split at h
   ·assumption
   .cases h
  cases hg with
  | int n h1 h2 =>
   have B:F=m+1:=by
    simp only[fM,eM,jZ,u,bT,Option.bind_some,aH,bQ]at h;exact h.symm
   subst B;rw[pc1];by_cases hn:n<0
   .rw[aF hn];simp only[bP,aZ,bA];rw[aAN fin first k m _ _ aE u];unfold nT;rw[aDA,aF rfl];simp only[aW];rw[aF aE,show - -n=n by omega]
   .rw[aB hn];simp only[bP,aZ,bA];rw[fU,aF (aQq ..),aEe first u,bY,aF rfl]
  | bool n hb =>
   have B:F=m+1:=by
    simp only[fM,eM,jZ,u,bT,Option.bind_some,aH,bQ]at h;exact h.symm
   subst B;rw[pc2];simp only[bP,aZ,bA];rcases hb with rfl|rfl
   .rw[aB aE,aD4 fin first k m _ _ aE u];rfl
   .rw[aF rfl,aD4 fin first k m _ _ aE u];rfl
  | text x S =>
   have B:F=m+1:=by
    simp only[fM,eM,jZ,u,bT,Option.bind_some,aH,bQ]at h;exact h.symm
   subst B;rw[pc3];simp only[bP,aZ,bA];rw[fU,aF (aQf ..),aEe first u,bY];simp only;rw[aB aE,aF (by trivial)]
  | id x S M =>
   have B:F=m+1:=by
    simp only[fM,eM,jZ,u,bT,Option.bind_some,aH,bQ]at h;exact h.symm
   subst B;rw[pc4];simp only[bP,aZ,bA];rw[aAN fin first k m _ _ aE u];unfold nT;rw[aDA,aB aE,aF rfl];simp only;rw[aF ⟨aB0 M,S⟩];rfl
  | app x z S M hl O =>
   obtain⟨g1,g2⟩:=aMy M
   have B:eM (fM k) z (m+1)=some F:=by
    simp only[fM,u,bT]at h;cases hf:eM (fM k) z (m+1)with
    | none=>rw[hf]at h;cases h
    | some H =>
     rw[hf]at h;simp only[Option.bind_some,jZ,aH,bT]at h;exact h
   rw[pc5];simp only[bP,mF,aZ,bA,bG];rw[aD4 fin first k m _ _ (aCi S (.inl M)).b u];unfold uC;rw[xE,aB g1,aB g2,gG,aB aE,iZ,bY];cases z with
   | nil =>
    simp only[eM,bQ]at B;subst B;rw[show bP (eY false [])++aW [41]::w=aW [41]::w from rfl,gG,aF aE];rfl
   | cons t r =>
    have e1:bP (eY false (t::r))++aW [41]::w=bP t.pc++(bP (eY true r)++aW [41]::w):=by
     simp only[eY,oY,cE,bR,bA,mF,bG]
    rw[e1,(aHn (O t (bU ..)) _).2.2.2,aB aE,<-e1];unfold kP;rw[aGg fin (fM k) _ 8 (t::r) [] (m+1) F _ _ (λb2 y m F w ha hy hf=>?_) bJ ?_ (gQ hl) B (by rw[gG];decide)]
    .rw[bY,iZ,bY];rfl
    .have:=aHh (t::r) O false;rw[aI];omega
    .unfold oW;rw[aB aC];exact ih y m F w (O y hy) hf
  | opn x S =>
   have B:F=m+1:=by
    simp only[fM,eM,jZ,u,bT,Option.bind_some,aH,bQ]at h;exact h.symm
   subst B;rw[xZ,aF S];simp only[bP,aZ,bA];rcases S with rfl|rfl
   .rw[aAN fin first k m _ _ aE u];rfl
   .rw[aAN fin first k m _ _ aE u];rfl
  | var x s S M hs b0 =>
   obtain⟨g1,g2⟩:=aMy M;obtain⟨_,_,_,_,_,h6,h7⟩:=zW S
   have B:F=m+1:=by
    simp only[fM,eM,jZ,u,bT,Option.bind_some,aH,bQ]at h;exact h.symm
   subst B;rw[xZ,aB (by simp[h6,h7])];simp only[bP,aZ,bA];rw[aD4 fin first k m _ _ (aCi S (.inl M)).b u];unfold uC;rw[xE,aB g1,aB g2,gG,aF aE,List.tail_cons];unfold eU;simp only;rw[aF (aB0 b0)];rfl
  | list z rs O M =>
   obtain⟨H,B,Z⟩:∃H,eM (fM k) z (m+1)=some H/\jZ k rs.length H=some F:=by
    simp only[fM,u,bT]at h;cases hf:eM (fM k) z (m+1)with
    | none=>rw[hf]at h;cases h
    | some H=>rw[hf]at h;exact⟨H,rfl,h⟩
   rw[pc7];simp only[bP,mF,aZ,bA,bG];rw[aAN fin first k m _ _ aE u];unfold nT;rw[aDA,aB aE,aB aE,aF rfl]
   have U:(if isT [124] (bP (eY false z)++(bP (iI z.isEmpty rs)++aW [93]::w))=true\/isT [93] (bP (eY false z)++(bP (iI z.isEmpty rs)++aW [93]::w))=true then Rd.ok [] (bP (eY false z)++(bP (iI z.isEmpty rs)++aW [93]::w)) (m+1)
     else kP fin (λ_=>fU false fin first k) [] (bP (eY false z)++(bP (iI z.isEmpty rs)++aW [93]::w)) (m+1))=Rd.ok z (bP (iI z.isEmpty rs)++aW [93]::w) H:=by
    cases z with
    | nil =>
     simp only[eM,bQ]at B;subst B;rw[show∀W,bP (eY false [])++W=W fromλW=>rfl];rw[aF];rcases aCv true aEs rs M with⟨e,_⟩|⟨y,_,e,_⟩
     .rw[show bP (iI ([]:List Tm).isEmpty rs)=[] from e];exact .inr (by rw[bA,gG];decide)
     .rw[show bP (iI ([]:List Tm).isEmpty rs)=[aW [124],bL y] from e];exact .inl (by rw[aZ,gG];decide)
    | cons t r =>
     have e1:∀W,bP (eY false (t::r))++W=bP t.pc++(bP (eY true r)++W):=by
      intro W;simp only[eY,oY,cE,bR,bA,mF,bG]
     obtain⟨q1,q2,_⟩:=aHn (O t (bU ..)) (bP (eY true r)++(bP (iI (t::r).isEmpty rs)++aW [93]::w));rw[aB (by rw[e1,q1,q2];simp)];unfold kP;rw[aGg fin (fM k) _ (t::r).length (t::r) [] (m+1) H _ _ (λb2 y m F w ha hy hf=>ih y m F w (O y hy) hf) bJ ?_ bJ B ?_]
     .rfl
     .have:=aHh (t::r) O false;rw[aI];omega
     .rcases aCv (t::r).isEmpty aEs rs M with⟨e,_⟩|⟨y,_,e,_⟩
      .rw[e,bA,gG];decide
      .rw[e,aZ,gG];decide
   rw[U,bY,aKg fin first M _ k H F [93] aE w Z,bY,iZ,bY]
  | map z rs he O M =>
   obtain⟨H,B,Z⟩:∃H,eM (fM k) z (m+1)=some H/\jZ k rs.length H=some F:=by
    simp only[fM,u,bT]at h;cases hf:eM (fM k) z (m+1)with
    | none=>rw[hf]at h;cases h
    | some H=>rw[hf]at h;exact⟨H,rfl,h⟩
   rw[pc8];simp only[bP,mF,aZ,bA,bG];rw[aAN fin first k m _ _ aE u];unfold nT;rw[aDA,aB aE,aB aE,aB aE,aF rfl]
   have U:(if isT [124] (bP (fO false z)++(bP (iI z.isEmpty rs)++aW [125]::w))=true\/isT [125] (bP (fO false z)++(bP (iI z.isEmpty rs)++aW [125]::w))=true then Rd.ok [] (bP (fO false z)++(bP (iI z.isEmpty rs)++aW [125]::w)) (m+1)
     else dK fin [44] (oV fin (fU false fin first k)) ((bP (fO false z)++(bP (iI z.isEmpty rs)++aW [125]::w)).length+1) [] (bP (fO false z)++(bP (iI z.isEmpty rs)++aW [125]::w)) (m+1))=Rd.ok z (bP (iI z.isEmpty rs)++aW [125]::w) H:=by
    cases z with
    | nil =>
     simp only[eM,bQ]at B;subst B;rw[show∀W,bP (fO false [])++W=W fromλW=>rfl];rw[aF];rcases aCv true aED rs M with⟨e,_⟩|⟨y,_,e,_⟩
     .rw[show bP (iI ([]:List Tm).isEmpty rs)=[] from e];exact .inr (by rw[bA,gG];decide)
     .rw[show bP (iI ([]:List Tm).isEmpty rs)=[aW [124],bL y] from e];exact .inl (by rw[aZ,gG];decide)
    | cons t r =>
     cases r with
     | nil=>simp at he
     | cons v r =>
     have e1:∀W,bP (fO false (t::v::r))++W=bP t.pc++(aW [45,62]::(bP v.pc++(bP (fO true r)++W))):=by
      intro W;simp only[fO,oY,cE,bR,bA,mF,bP,bG,aZ]
     obtain⟨q1,_,q3,_⟩:=aHn (O t (bU ..)) (aW [45,62]::(bP v.pc++(bP (fO true r)++(bP (iI (t::v::r).isEmpty rs)++aW [125]::w))));rw[aB (by rw[e1,q1,q3];simp)];rw[aKI fin (fM k) _ _ (t::v::r) [] (m+1) H _ _ (aV _) he (λy m F w hy hf=>ih y m F w (O y hy) hf) bJ ?_ B ?_]
     .rfl
     .have:=aL5 _ (t::v::r) (aV _) he O false;rw[aI];omega
     .rcases aCv (t::v::r).isEmpty aED rs M with⟨e,_⟩|⟨y,_,e,_⟩
      .rw[e,bA,gG];decide
      .rw[e,aZ,gG];decide
   rw[U,bY,aKg fin first M _ k H F [125] aE w Z,bY,iZ,bY]
end
end
def Tm.rsv1(t:Tm):Bool:=(decide (t.text∈iM)&&!decide (t.kind=3))||decide (t.sort∈iM)||(decide (t.kind=5)&&(decide (1<t.text.length)&&decide (t.text[t.text.length-2]?=some 39)))
mutual
def Tm.rsv:Tm->Bool
 | .mk k n x s ks rs=>(Tm.mk k n x s ks rs).rsv1||(aG2 ks||aG2 rs)
def aG2:List Tm->Bool
 | []=>false
 | t::r=>t.rsv||aG2 r
end
mutual
def Tm.cnt:Tm->Nat
 | .mk _ _ _ _ ks rs=>1+(dW ks+dW rs)
def dW:List Tm->Nat
 | []=>0
 | t::r=>t.cnt+dW r
end
theorem aB2(t:Tm):t.cnt=1+(dW t.kids+dW t.rest):=by cases t;rw[Tm.cnt];rfl
theorem vT(t:Tm):1<=t.cnt:=by rw[aB2];omega
theorem zM:∀l:List Tm,l.length<=dW l
 | []=>aV _
 | t::r=>by have:=zM r;have:=vT t;simp only[dW,aG];omega
theorem aAY:∀{l:List Tm} {x:Tm},x∈l->x.cnt<=dW l
 | t::r,x,h=>by
  simp only[dW];rcases List.mem_cons.1 h with rfl|h
  .omega
  .have:=aAY h;omega
theorem aDB:∀a b:List Tm,dW (a++b)=dW a+dW b
 | [],b=>by simp[dW]
 | t::r,b=>by simp[dW,aDB r b,qE]
def aLS:List aD:=[[65,110,121],[73,110,116],[66,111,111,108],[84,101,120,116],[73,100],[76,105,115,116],[77,97,112]]
def aEz(x:aD):Bool:=dT x&&!decide (x∈iM)
def aBp(x:aD):Bool:=aEz x&&(!decide (x∈aB9)&&!decide (x∈aLS))
theorem aOu(s:St)(x:aD)(KV Kp)(m:KV s (.bool (aEz x))):Den cx 106 [.str x] KV Kp s:=by
 unfold aEz at m;(refine aR func106 [0,2] ?_;simp only[go_sem,ntmps106,f106]);refine yP _ _ _ _ ?_;cases u:dT x<;>rw[u]at m<;>simp only[go_sem,u]
 .exact aO m
 .refine vF _ _ _ _ ?_;simp only[go_sem];exact aO m
theorem aIs(s:St)(x:aD)(KV Kp)(m:KV s (.bool (aBp x))):Den cx 59 [.str x] KV Kp s:=by
 unfold aBp at m;(refine aR func59 [0,2,3] ?_;simp only[go_sem,ntmps59,f59]);refine aOu _ _ _ _ ?_;cases u:aEz x<;>rw[u]at m<;>simp only[go_sem,u]
 .exact aO m
 .refine aOc _ _ _ _ ?_;cases h2:decide (x∈aB9)<;>rw[h2]at m<;>simp only[go_sem,h2]
  .refine aAD _ aLS _ _ _ ?_;simp only[go_sem];exact aO m
  .exact aO m
def aBo(a b x:aD):aD:=if x=a then b else if x=b then a else x
theorem aQb(s:St)(a b x:aD)(KV Kp)(m:KV s (.str (aBo a b x))):Den cx 62 [.str x,.str a,.str b] KV Kp s:=by
 unfold aBo at m;(refine aR func62 [0,1,2,6,7,8,12] ?_;simp only[go_sem,ntmps62,f62]);cases u:decide (x=a)
 .rw[aB (gQ u)]at m;simp only[go_sem,u];cases h2:decide (x=b)
  .rw[aB (gQ h2)]at m;simp only[go_sem,h2];exact aO m
  .rw[aF (gQ h2)]at m;simp only[go_sem,h2];exact aO m
 .rw[aF (gQ u)]at m;simp only[go_sem,u];exact aO m
def Kn(L:List (Nat × Ob))(s:St):Prop:=∀p,p∈L->s.getO p.1=some p.2
theorem Kn.ge{L:List (Nat × Ob)}{s s':St}(h:Kn L s)(u:s'.ge s):Kn L s':=λp m=>u.ob _ _ (h p m)
theorem Kn.new{L:List (Nat × Ob)}{s:St}(h:Kn L s){b:Nat}(m:s.getO b=none)(o:Ob):Kn L (s.setO b o):=h.ge (eB m)
def FnK(f:FuncId)(caps:List A)(L:List (Nat × Ob))(φ:aD->aD):Prop:=∀x s KV Kp,x.length<=140737488355328->Kn L s->KV s (.str (φ x))->Den cx f ([]++[.str x]++caps) KV Kp s
theorem FnK.more{f:FuncId}{caps:List A}{L M:List (Nat × Ob)}{φ:aD->aD}(h:FnK f caps L φ)(m:∀p,p∈L->p∈M):FnK f caps M φ:=λx s KV Kp u B z=>h x s KV Kp u (λp y=>B p (m p y)) z
theorem aRm(a b:aD)(p q:Nat):FnK 61 [.ptr p 0,.ptr q 0] [(p,.cells 9 [.str a]),(q,.cells 9 [.str b])] (aBo a b):=by
 intro x s KV Kp _ y z;have m:=y _ (bU ..);have u:=y _ (cP _ (bU ..));simp only at m u;show Den cx 61 [.str x,.ptr p 0,.ptr q 0] KV Kp s;(refine aR func61 [0,1,2,4] ?_;simp only[go_sem,ntmps61,f61]);simp only[go_sem,m,u];refine aQb _ _ _ _ _ _ ?_;simp only[go_sem];exact aO z
def pD(φ:aD->aD)(x:aD):aD:=if x=[] then [] else φ x
theorem aR1{f:FuncId}{caps:List A}{L:List (Nat × Ob)}{φ:aD->aD}(h:FnK f caps L φ)(p:Nat):FnK 109 [.ptr p 0] ((p,.cells 116 [.fn f [] caps])::L) (pD φ):=by
 intro x s KV Kp B z m;have y:=z _ (bU ..);simp only at y;unfold pD at m;show Den cx 109 [.str x,.ptr p 0] KV Kp s;(refine aR func109 [0,1,3,5] ?_;simp only[go_sem,ntmps109,f109]);cases u:decide (x=[])
 .rw[aB (gQ u)]at m;simp only[go_sem,u,y];refine h x s _ _ B (λp F=>z p (cP _ F)) ?_;simp only[go_sem];exact aO m
 .rw[aF (gQ u)]at m;obtain rfl:x=[]:=gQ u;simp only[go_sem,u];exact aO m
def pX(φ:aD->aD)(x:aD):aD:=if rS x=true then φ (x.take (x.length-2))++x.drop (x.length-2) else φ x
def LenS(φ:aD->aD):Prop:=∀x:aD,x.length<=140737488355328->(φ x).length<=140737488355328
theorem aR5{f:FuncId}{caps:List A}{L:List (Nat × Ob)}{φ:aD->aD}(h:FnK f caps L φ)(y:LenS φ)(p:Nat):FnK 202 [.ptr p 0] ((p,.cells 162 [.fn f [] caps])::L) (pX φ):=by
 intro x s KV Kp H F m;have B:=F _ (bU ..);simp only at B;unfold pX at m;show Den cx 202 [.str x,.ptr p 0] KV Kp s;(refine aR func202 [0,1,3,4,5] ?_;simp only[go_sem,ntmps202,f202]);refine aGh _ _ _ _ aC ?_;have M:(140737488355328:Nat)+140737488355328<=maxLen:=by decide
 cases hf:rS x
 .rw[hf]at m;simp only[cE,bR]at m⊢;simp only[go_sem,B];refine h x s _ _ H (λp z=>F p (cP _ z)) ?_;have:=y x H;simp only[go_sem];refine⟨by omega,?_⟩;rw[eH];exact aO m
 .rw[hf]at m;simp only[bT]at m⊢;simp only[go_sem,B];have u:(x.take (x.length-2)).length<=140737488355328:=by rw[cQ];omega
  refine h _ s _ _ u (λp z=>F p (cP _ z)) ?_;have:=y _ u;simp only[go_sem];refine⟨by rw[eC];omega,?_⟩;exact aO m
mutual
def Tm.chg(op vr:aD->aD):(aD->aD)->Tm->Tm
 | st,.mk k n t s ks rs=>.mk k n (if k=5 then op t else if k=6 then(if t=[95]\/t=[36] then t else vr t) else t) (if k=6 then(if t=[95]\/t=[36] then s else st s) else s) (xJ op vr st ks) (xJ op vr id rs)
def xJ(op vr:aD->aD):(aD->aD)->List Tm->List Tm
 | _,[]=>[]
 | st,t::r=>t.chg op vr st::xJ op vr st r
end
theorem aKD(op m st:aD->aD):∀l:List Tm,xJ op m st l=l.map (Tm.chg op m st)
 | []=>rfl
 | t::r=>by rw[xJ,aKD op m st r];rfl
def aEL(u:FuncId)(z:List A)(B:FuncId)(cv:List A)(L:List (Nat × Ob))(op y:aD->aD)(t:Tm):Prop:=∀m cs st s KV Kp,FnK m cs L st->Kn L s->KV s (t.chg op y st).enc ->
 Den cx 203 [.agg t.cs,.fn u [] z,.fn m [] cs,.fn B [] cv] KV Kp s
theorem sM{α m:Type}(f:α->m){l:List α}{i:Nat}{x:α}(h:l[i]?=some x):(l.take (i+1)).map f=(l.take i).map f++[f x]:=by rw[fD,h,cN];rfl
theorem Kn.gs{L:List (Nat × Ob)}{s:St}(h:Kn L s)(tk:Option Nat)(n:Nat)(e:TypeId):Kn L (gs s tk n e):=λp m=>by rw[cO];exact h p m
theorem gvM{α:Type}{f:α->Tm}{tk:Option Nat}{l:List α}{s:St}{e:TypeId}(h:tk=none->l.map f=[]):oF (gs s tk l.length e) tk ((l.map f).map Tm.enc).length e:=by
 rw[aK,aK];exact iU λe=>by have:=dV List.length (h e);simpa using this
theorem aJd(fo:FuncId)(co:List A)(fv:FuncId)(cv:List A)(L:List (Nat × Ob))(op H st:aD->aD)(O:FuncId)(cs:List A)(hs:FnK O cs L st)(l:List Tm)(hl:l.length<=4294967295)(ih:∀t,t∈l->aEL fo co fv cv L op H t)
  (b5 b7:Nat)(s:St)(KV Kp:St->A->Prop)(h5:s.getO b5=some (.cells 116 [.fn fo [] co]))(h7:s.getO b7=some (.cells 116 [.fn fv [] cv]))(hK:Kn L s)
  (hk:KV s (.list none ((xJ op H st l).map Tm.enc))):Den cx 269 [.list none (l.map Tm.enc),.fn O [] cs,.ptr b5 0,.ptr b7 0] KV Kp s:=by
 rw[aKD]at hk;(refine aR func269 [0,1,2,3,6,7,9,10,11,12,13] ?_;simp only[go_sem,ntmps269,f269])
 refine Ex.loop (ι:=Nat × Option Nat) (λc=>[(1,.fn O [] cs),(2,.ptr b5 0),(3,.ptr b7 0),(7,gv c.2 (((l.take c.1).map (Tm.chg op H st)).map Tm.enc)),(10,.list none (l.map Tm.enc)),(11,.int .i64 (l.length:Nat)),(12,.int .i64 (c.1:Nat))])
  (λc=>gs s c.2 ((l.take c.1).map (Tm.chg op H st)).length 43)
  (λc=>sD s ((l.take c.1).map (Tm.chg op H st)) c.2/\c.1<=l.length) (λc=>l.length-c.1) (0,none) ⟨⟨λ_=>rfl,λt e=>(by cases e)⟩,aU _⟩ ?_ (by exact aM _) ?_
 .simp only[go_sem]
  first|done|exact rfl|exact⟨rfl,rfl⟩
 .rintro⟨i,tk⟩ ⟨⟨z,m⟩,hi⟩;simp only at z m hi;refine bE (V:=[0,1,2,3,6,7,9,10,11,12,13]) _ _ _ _ ?_;simp only[go_sem]
  (apply aT<;>intro h)<;>simp only[go_sem,h]
  .have F:i<l.length:=gQ h;clear h;obtain⟨x,M⟩:∃a,l[i]?=some a:=⟨_,aX F⟩
   have Z:=sM (Tm.chg op H st) M;simp only[go_sem,M,F];(refine iK λb9 B=>?_);have n5:=cJ h5 B;have n7:=cJ h7 B;simp only[go_sem,M,F,B,h5,h7,n5,n7];refine ih x (bZ M) O cs st _ _ _ hs ((hK.new B _).gs _ _ _) ?_;simp only[go_sem];refine⟨by decide,λy S=>by simp only[cC]at S;subst S;rfl,eI rfl rfl (gvM z) (λy S=>oS S) (by simp only[aK,cQ,aG,aH];omega) (λu hu=>?_)⟩;have U:=gI hu m;rw[fY hu];simp only[go_sem,M,F,B];refine⟨(i+1,some u),⟨⟨λh=>(by cases h),λt h=>by cases h;exact U⟩,F⟩,aP,?_,?_⟩
   .simp only[go_sem,cF i aC,dF,Z,cN]
   .rw[show(l.take i).length+1=(l.take (i+1)).length by simp only[cQ];omega];exact gR (jD B)
  .have b0:i=l.length:=by have:¬ i<l.length:=gQ h;omega
   subst b0;rw[List.take_length]at z⊢;exact DK.mk hk (lI (aM _) m) (iQ _ _ (λe=>by rw[z e];rfl))
theorem aRN(L:List (Nat × Ob)):FnK 270 [] L id:=by
 intro x s KV Kp _ _ m;show Den cx 270 [.str x] KV Kp s;(refine aR func270 [0,2] ?_;simp only[go_sem,ntmps270,f270]);exact aO m
theorem aU3(op m st:aD->aD)(t:Tm):t.chg op m st=.mk t.kind t.n (if t.kind=5 then op t.text else if t.kind=6 then(if t.text=[95]\/t.text=[36] then t.text else m t.text) else t.text) (if t.kind=6 then(if t.text=[95]\/t.text=[36] then t.sort else st t.sort) else t.sort) (xJ op m st t.kids) (xJ op m id t.rest):=by
 cases t;rw[Tm.chg];rfl
theorem aOw(fo:FuncId)(co:List A)(U:FuncId)(cv:List A)(L:List (Nat × Ob))(op Z:aD->aD)(ho:FnK fo co L op)(hv:FnK U cv L Z)(N:Nat):∀t:Tm,t.cnt<N->t.cnt<=4294967295->TmW t->aEL fo co U cv L op Z t:=by
 induction N with
 | zero=>intro t h;omega
 | succ N ih =>
 intro t hN hc hw fs cs st s KV Kp hs hK F;have b0:=hw.text;have b2:=hw.sort;have b5:=aB2 t;have b3:∀x,x∈t.kids->aEL fo co U cv L op Z x:=λx O=>ih x (by have:=aAY O;omega) (by have:=aAY O;omega) (hw.kids x O)
 have b4:∀x,x∈t.rest->aEL fo co U cv L op Z x:=λx O=>ih x (by have:=aAY O;omega) (by have:=aAY O;omega) (hw.rest x O)
 have lk:t.kids.length<=4294967295:=by have:=zM t.kids;omega
 have lr:t.rest.length<=4294967295:=by have:=zM t.rest;omega
 rw[aU3]at F;(refine aR func203 [0,1,2,3,4,5,7,8,9,11,12,19,28] ?_;simp only[go_sem,ntmps203,f203]);(refine aQ λp4 m=>?_);simp only[go_sem,m];(refine aQ λp5 u=>?_);simp only[go_sem,m,u];(refine aQ λp7 y=>?_);simp only[go_sem,m,u,y];(refine aQ λp8 z=>?_);simp only[go_sem,m,u,y,z];cases k5:decide (t.kind=5)
 case' true =>
  have S:t.kind=5:=gQ k5;rw[aF S,aB (show¬ t.kind=6 by omega)]at F;simp only[go_sem,k5,m,u,y,z];refine ho t.text _ _ _ b0 (hK.ge bC) ?_;simp only[go_sem,m,u,y,z]
 case' false =>
  have S:¬ t.kind=5:=gQ k5;rw[aB S]at F;simp only[go_sem,k5,m,u,y,z];cases k6:decide (t.kind=6)
  case' false =>
   have M:¬ t.kind=6:=gQ k6;rw[aB M,aB M]at F;simp only[go_sem,k6,m,u,y,z]
  case' true =>
   have M:t.kind=6:=gQ k6;rw[aF M,aF M]at F;simp only[go_sem,k6,m,u,y,z];cases x1:decide (t.text=[95])
   case' true =>
    have H:t.text=[95]:=gQ x1;rw[aF (.inl H),aF (.inl H)]at F;simp only[go_sem,x1,m,u,y,z]
   case' false =>
    have H:¬ t.text=[95]:=gQ x1;simp only[go_sem,x1,m,u,y,z];cases x2:decide (t.text=[36])
    case' true =>
     have B:t.text=[36]:=gQ x2;rw[aF (.inr B),aF (.inr B)]at F;simp only[go_sem,x2,m,u,y,z]
    case' false =>
     have B:¬ t.text=[36]:=gQ x2;rw[aB (λe=>e.elim H B),aB (λe=>e.elim H B)]at F;simp only[go_sem,x2,m,u,y,z];(refine bO (OT.l [0,1,2,4,5,6,3,8,7,9,10,11] .nil) [(3,[6])] ?_;simp only[go_sem,m,u,y,z]);refine hv t.text _ _ _ b0 (hK.ge bC) ?_;simp only[go_sem,m,u,y,z];refine hs t.sort _ _ _ b2 (hK.ge bC) ?_;simp only[go_sem,m,u,y,z]
 all_goals (
  refine aJd fo co U cv L op Z st fs cs hs t.kids lk b3 p5 p7 _ _ _ gH gH (hK.ge bC) ?_;simp only[go_sem,m,u,y,z];refine aJd fo co U cv L op Z id 270 [] (aRN L) t.rest lr b4 p5 p7 _ _ _ gH gH (hK.ge bC) ?_;simp only[go_sem,m,u,y,z];rw[dJ]at F;simp only[Tm.cs,Tm.kind,Tm.n,Tm.text,Tm.sort,Tm.kids,Tm.rest]at F;exact aS F bC)
def oG(φ:aD->aD)(t:Tm):Tm:=t.chg (pX φ) φ φ
structure ChF (f:FuncId) (caps:List A) (L:List (Nat × Ob)) (φ:aD->aD):Prop where
 fn:FnK f caps L φ
 len:LenS φ
structure TmB (t:Tm):Prop where
 w:TmW t
 c:t.cnt<=4294967295
theorem aBT{f:FuncId}{caps:List A}{L:List (Nat × Ob)}{φ:aD->aD}(h:ChF f caps L φ)(t:Tm)(H:TmB t)(s:St)(KV Kp:St->A->Prop)(S:Kn L s)(O:KV s (oG φ t).enc) :
  Den cx 114 [.fn f [] caps,.agg t.cs] KV Kp s:=by
 (refine aR func114 [0,1,2,3,4,5] ?_;simp only[go_sem,ntmps114,f114]);(refine aQ λF m=>?_);simp only[go_sem,m];(refine aQ λZ y=>?_);simp only[go_sem,m,y];(refine aQ λU B=>?_);simp only[go_sem,m,y,B];have M:∀p,p∈L->p∈(F,Ob.cells 162 [.fn f [] caps])::L:=λp z=>cP _ z
 refine aOw 202 [.ptr F 0] f caps ((F,.cells 162 [.fn f [] caps])::L) (pX φ) φ (aR5 h.fn h.len F) (h.fn.more M) _ t (iD _) H.c H.w f caps φ _ _ _ (h.fn.more M) ?_ ?_
 .intro p z;rcases List.mem_cons.1 z with rfl|z
  .exact gH
  .exact S.ge bC p z
 .have u:KV s (Tm.chg (pX φ) φ φ t).enc:=O;rw[dJ]at u⊢;simp only[go_sem,m,y,B];simp only[Tm.cs]at u;exact aS u bC
section
theorem tN{α m:Type}{f:α->m}{en:m->A}{tk:Option Nat}{l:List α}{s:St}{e:TypeId}(h:tk=none->l.map f=[]):oF (gs s tk l.length e) tk ((l.map f).map en).length e:=by
 rw[aK,aK];exact iU λe=>by have:=dV List.length (h e);simpa using this
section
variable {f:FuncId} {caps:List A} {L:List (Nat × Ob)} {φ:aD->aD} (hf:ChF f caps L φ)
include hf
theorem aCY(l:List Tm)(hl:l.length<=4294967295)(hw:∀t,t∈l->TmB t)(s:St)(KV Kp:St->A->Prop)(hK:Kn L s)(hk:KV s (.list none ((l.map (oG φ)).map Tm.enc))) :
  Den cx 115 [.fn f [] caps,.list none (l.map Tm.enc)] KV Kp s:=by
 (refine aR func115 [0,1,4,5,7,8,9,10,11] ?_;simp only[go_sem,ntmps115,f115])
 refine Ex.loop (ι:=Nat × Option Nat) (λc=>[(0,.fn f [] caps),(5,gv c.2 (((l.take c.1).map (oG φ)).map Tm.enc)),(8,.list none (l.map Tm.enc)),(9,.int .i64 (l.length:Nat)),(10,.int .i64 (c.1:Nat))])
  (λc=>gs s c.2 ((l.take c.1).map (oG φ)).length 43)
  (λc=>sD s ((l.take c.1).map (oG φ)) c.2/\c.1<=l.length) (λc=>l.length-c.1) (0,none) ⟨⟨λ_=>rfl,λt e=>(by cases e)⟩,aU _⟩ ?_ (by exact aM _) ?_
 .simp only[go_sem]
  first|done|exact rfl|exact⟨rfl,rfl⟩
 .rintro⟨i,tk⟩ ⟨⟨z,m⟩,hi⟩;simp only at z m hi;refine bE (V:=[0,1,4,5,7,8,9,10,11]) _ _ _ _ ?_;simp only[go_sem]
  (apply aT<;>intro h)<;>simp only[go_sem,h]
  .have B:i<l.length:=gQ h;clear h;obtain⟨x,H⟩:∃a,l[i]?=some a:=⟨_,aX B⟩
   have S:=sM (oG φ) H;simp only[go_sem,H,B];(refine iK λb9 F=>?_);simp only[go_sem,H,B,F];refine aBT hf x (hw x (bZ H)) _ _ _ ((hK.new F _).gs _ _ _) ?_;simp only[go_sem];refine⟨by decide,λy M=>by simp only[cC]at M;subst M;rfl,eI rfl rfl (tN z) (λy M=>oS M) (by simp only[aK,cQ,aG,aH];omega) (λu Z=>?_)⟩;have O:=gI Z m;rw[fY Z];simp only[go_sem,H,B,F];refine⟨(i+1,some u),⟨⟨λh=>(by cases h),λt h=>by cases h;exact O⟩,B⟩,aP,?_,?_⟩
   .simp only[go_sem,cF i aC,dF,S,cN]
   .rw[show(l.take i).length+1=(l.take (i+1)).length by simp only[cQ];omega];exact gR (jD F)
  .have U:i=l.length:=by have:¬ i<l.length:=gQ h;omega
   subst U;rw[List.take_length]at z⊢;exact DK.mk hk (lI (aM _) m) (iQ _ _ (λe=>by rw[z e];rfl))
def vD(φ:aD->aD)(c:Cel):Cel:={ c with name:=φ c.name,sort:=φ c.sort,init:=oG φ c.init }
structure CelB (c:Cel):Prop where
 n:c.name.length<=140737488355328
 s:c.sort.length<=140737488355328
 t:TmB c.init
theorem aIu(l:List Cel)(hl:l.length<=4294967295)(hw:∀c,c∈l->CelB c)(s:St)(KV Kp:St->A->Prop)(Z:Kn L s)(hk:KV s (.list none ((l.map (vD φ)).map Cel.enc))) :
  Den cx 113 [.fn f [] caps,.list none (l.map Cel.enc)] KV Kp s:=by
 (refine aR func113 [0,1,4,5,7,8,9,10,11] ?_;simp only[go_sem,ntmps113,f113])
 refine Ex.loop (ι:=Nat × Option Nat) (λc=>[(0,.fn f [] caps),(5,gv c.2 (((l.take c.1).map (vD φ)).map Cel.enc)),(8,.list none (l.map Cel.enc)),(9,.int .i64 (l.length:Nat)),(10,.int .i64 (c.1:Nat))])
  (λc=>gs s c.2 ((l.take c.1).map (vD φ)).length 68)
  (λc=>((c.2=none->(l.take c.1).map (vD φ)=[])/\∀t,c.2=some t->s.getT t=none)/\c.1<=l.length) (λc=>l.length-c.1) (0,none) ⟨⟨λ_=>rfl,λt e=>(by cases e)⟩,aU _⟩ ?_ (by exact aM _) ?_
 .simp only[go_sem]
  first|done|exact rfl|exact⟨rfl,rfl⟩
 .rintro⟨i,tk⟩ ⟨⟨B,z⟩,hi⟩;simp only at B z hi;refine bE (V:=[0,1,4,5,7,8,9,10,11]) _ _ _ _ ?_;simp only[go_sem]
  (apply aT<;>intro h)<;>simp only[go_sem,h]
  .have F:i<l.length:=gQ h;clear h;obtain⟨x,H⟩:∃a,l[i]?=some a:=⟨_,aX F⟩
   have S:=sM (vD φ) H;obtain⟨w1,w2,w3⟩:=hw x (bZ H);simp only[go_sem,H,F];(refine iK λb7 m=>?_);simp only[go_sem,H,F,m];(refine bO (OT.l [0,1,2,4,5,6,8,9,10,3,12,7,11,13,14,15,16,17] .nil) [(3,[6,10]),(7,[10])] ?_;simp only[go_sem,m]);refine hf.fn x.name _ _ _ w1 ((Z.new m _).gs _ _ _) ?_;simp only[go_sem,m];refine hf.fn x.sort _ _ _ w2 ((Z.new m _).gs _ _ _) ?_;simp only[go_sem,m];refine aBT hf x.init w3 _ _ _ ((Z.new m _).gs _ _ _) ?_;simp only[go_sem,m];refine⟨by decide,λy M=>by simp only[cC]at M;subst M;rfl,eI rfl rfl (tN B) (λy M=>zS M) (by simp only[aK,cQ,aG,aH];omega) (λu hu=>?_)⟩;have O:=gI hu z;rw[fY hu];simp only[go_sem,H,F,m];refine⟨(i+1,some u),⟨⟨λh=>(by cases h),λt h=>by cases h;exact O⟩,F⟩,aP,?_,?_⟩
   .simp only[go_sem,cF i aC,dF,S,cN,vD]
   .rw[show(l.take i).length+1=(l.take (i+1)).length by simp only[cQ];omega];exact gR (jD m)
  .have U:i=l.length:=by have:¬ i<l.length:=gQ h;omega
   subst U;rw[List.take_length]at B⊢;exact DK.mk hk (lI (aM _) z) (iQ _ _ (λe=>by rw[B e];rfl))
theorem aC2(l:List aD)(hl:l.length<=4294967295)(hw:∀x,x∈l->x.length<=140737488355328)(s:St)(KV Kp:St->A->Prop)(hK:Kn L s)(Z:KV s (.list none ((l.map φ).map .str))) :
  Den cx 199 [.list none (l.map .str),.fn f [] caps] KV Kp s:=by
 (refine aR func199 [0,1,4,5,7,8,9,10,11] ?_;simp only[go_sem,ntmps199,f199])
 refine Ex.loop (ι:=Nat × Option Nat) (λc=>[(1,.fn f [] caps),(5,gv c.2 (((l.take c.1).map φ).map .str)),(8,.list none (l.map .str)),(9,.int .i64 (l.length:Nat)),(10,.int .i64 (c.1:Nat))])
  (λc=>gs s c.2 ((l.take c.1).map φ).length 9)
  (λc=>((c.2=none->(l.take c.1).map φ=[])/\∀t,c.2=some t->s.getT t=none)/\c.1<=l.length) (λc=>l.length-c.1) (0,none) ⟨⟨λ_=>rfl,λt e=>(by cases e)⟩,aU _⟩ ?_ (by exact aM _) ?_
 .simp only[go_sem]
  first|done|exact rfl|exact⟨rfl,rfl⟩
 .rintro⟨i,tk⟩ ⟨⟨z,m⟩,hi⟩;simp only at z m hi;refine bE (V:=[0,1,4,5,7,8,9,10,11]) _ _ _ _ ?_;simp only[go_sem]
  (apply aT<;>intro h)<;>simp only[go_sem,h]
  .have B:i<l.length:=gQ h;clear h;obtain⟨x,F⟩:∃a,l[i]?=some a:=⟨_,aX B⟩
   have O:=sM φ F;simp only[go_sem,F,B];refine hf.fn x _ _ _ (hw x (bZ F)) (hK.gs _ _ _) ?_;simp only[go_sem];refine⟨by decide,λy H=>by simp only[cC]at H;subst H;rfl,eI rfl rfl (tN z) (λy H=>by obtain⟨_,_,rfl⟩:=cH.1 H;rfl) (by simp only[aK,cQ,aG,aH];omega) (λu U=>?_)⟩;have M:=gI U m;rw[fY U];simp only[go_sem,F,B];refine⟨(i+1,some u),⟨⟨λh=>(by cases h),λt h=>by cases h;exact M⟩,B⟩,aP,?_,?_⟩
   .simp only[go_sem,cF i aC,dF,O,cN]
   .rw[show(l.take i).length+1=(l.take (i+1)).length by simp only[cQ];omega];exact aM _
  .have S:i=l.length:=by have:¬ i<l.length:=gQ h;omega
   subst S;rw[List.take_length]at z⊢;exact DK.mk Z (lI (aM _) m) (iQ _ _ (λe=>by rw[z e];rfl))
end
end
end Go.AV
