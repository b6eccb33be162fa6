/-
  Of CheckOrder.
-/
import Derived.Test.YtliopiiflebkdaaGreatDoorOr08
import Derived.Lib.ItoaNum
set_option linter.all false
set_option maxRecDepth 99999
set_option maxHeartbeats 0
namespace Go.AV
open Go Go.Proofs Tryz
theorem rA(s:St)(x:aC)(KV Kp)(h:KV s (.bool (decide (x∈kF)))):Den cx 153 [.str x] KV Kp s:=by
 (refine aL func153 [0,2] ?_;simp only[go_sem,ntmps153,f153]);refine aIn _ _ _ ?_;simp only[go_sem,vI];refine kR _ _ _ _ _ ?_;simp only[go_sem];exact aN h
theorem aBV(s:St)(x:aC)(KV Kp)(h:KV s (.bool (decide (x∈jQ)))):Den cx 92 [.str x] KV Kp s:=by
 (refine aL func92 [0,2] ?_;simp only[go_sem,ntmps92,f92]);refine aIq _ _ _ ?_;simp only[go_sem,vI];refine kR _ _ _ _ _ ?_;simp only[go_sem];exact aN h
theorem aFk(w:aC)(x:aC):∀(l:List aC) (n:Nat),jC w (l++[x]) n=if jC w l n<x.length/\mH w x=true then x.length else jC w l n
 | [],n=>rfl
 | y::l,n=>aFk w x l _
theorem aCn(w:aC):∀(l:List aC) (n:Nat),n<=w.length->jC w l n<=w.length
 | [],n,h=>h
 | y::l,n,h=>by
  refine aCn w l _ ?_;split
  .rename_i m;have:=m.2;simp only[mH,dI,dA]at this;exact this.1
  .exact h
theorem aDr:∀(w:aC) (c:UInt8),Lib.indexByte w c<(w.length:Int)
 | [],c=>by simp[Lib.indexByte]
 | d::w,c=>by
  have m:=aDr w c;have h:=Lib.indexByte_ge w c;unfold Lib.indexByte;simp only[aO];split
  .omega
  .split<;>omega
theorem aLX(s:St)(r:Nat)(x:aC)(F l c:Nat)(sg:List aC)(op:Bool)(KV Kp)
  (G:s.getO r=some (.cells 231 (eL x F l c sg op)))(hx:x.length<=4294967296)(ha:F<x.length)(bk:sg.length<=4294967296)
  (z:KV s (.tuple [(kJ (x.drop F) sg op).1.enc,.int .i64 (kJ (x.drop F) sg op).2.1,.bool (kJ (x.drop F) sg op).2.2])):Den cx 202 [.ptr r 0] KV Kp s:=by
 obtain⟨b,w,hw⟩:∃b w,x.drop F=b::w:=by
  cases h:x.drop F with
  | nil=>have:=mY List.length h;simp at this;omega
  | cons b w=>exact⟨b,w,rfl⟩
 have M:(b::w).length<=4294967296:=by rw[<-hw,cS];omega
 (refine aL func202 [0,2,3,4,5,6,8,20,33,41,67,68,69,70,81,100] ?_;simp only[go_sem,ntmps202,f202]);(refine aM λq B=>?_);have m:=aS G B;simp only[go_sem,G,B,m,eL];(refine bB (OT.r 0 10) [] ?_;simp only[go_sem,G,B,m,eL]);rw[hw]at z⊢;have b7:0<(b::w).length:=by simp
 simp only[go_sem,Nat.le_of_lt ha,b7];refine⟨⟨by omega,by omega⟩,?_⟩;have e1:List.take (Int.toNat 1) (b::w)=[b]:=rfl;rw[e1];refine oX _ _ _ _ ?_;simp only[go_sem]
 (apply aQ<;>intro h)<;>simp only[go_sem,h,G,B,m,eL]
 .refine aG5 _ _ _ (λc=>iU c.toNat) _ _ M (λc KV Kp h=>zY _ _ _ _ h) ?_;have hn:((b::w).takeWhile λc=>iU c.toNat).length<=(b::w).length:=(List.takeWhile_sublist _).length_le;simp only[kJ,h,cM]at z;generalize ((b::w).takeWhile λc=>iU c.toNat).length=n at z hn;simp only[go_sem,G,B,m,eL,hn];refine⟨gQ hn,?_⟩;have e2:decide ((n:Int)<=40)=decide (n<=40):=by rw[cW];omega
  rw[e2];exact aF z (eG B)
 .refine aEQ _ _ _ _ ?_;have O:¬ dT [b]=true:=by rw[h];simp
  simp only[go_sem]
  (apply aQ<;>intro h)<;>simp only[go_sem,h,G,B,m,eL]
  .simp only[kJ,O,cI,h,cM,cQ]at z;refine aKn _ _ _ _ M ?_;simp only[go_sem,G,B,m];exact aF z (eG B)
  .have b6:¬ mI b.toNat=true:=by rw[h];simp
   have b0:(34:UInt8).toNat=34:=rfl
   have e3:decide ((b.toNat:Int)=34)=decide (b=34):=by
    rw[cW,<-rB,b0];omega
   rw[e3]
   (apply aQ<;>intro h)<;>simp only[go_sem,h,G,B,m,eL]
   .have hb:b=34:=gQ h;simp only[kJ,O,b6,hb,cI,cM]at z;refine⟨⟨by omega,by omega⟩,?_⟩
    have e4:List.take (w.length+1-Int.toNat 1) (List.drop (Int.toNat 1) (b::w))=w:=by
     show List.take (w.length+1-1) w=w;simp
    have e5:(A.int IntKind.u8 34)=.int .u8 ((34:UInt8).toNat):=rfl;rw[e4,e5];refine zO _ _ _ _ _ ?_;have bj:=Lib.indexByte_ge w 34;have bd:=aDr w 34;obtain⟨k,bc⟩:∃k:Nat,Lib.indexByte w 34=(k:Int)-1:=⟨(Lib.indexByte w 34+1).toNat,by omega⟩
    rw[bc]at z bd⊢;simp only[aO]at M;have bh:k<=w.length:=by omega
    have ew:IntKind.i64.wrap ((k:Int)-1+2)=((k+1:Nat):Int):=by rw[eW _ aB aB];omega
    have Z:IntKind.i64.wrap (((k+1:Nat):Int)-1)=(k:Int):=by rw[eW _ aB aB];omega
    have en:((k:Int)-1+2).toNat=k+1:=by omega
    simp only[en]at z;simp only[go_sem,ew];(refine bB (OT.r 0 19) [] ?_;simp only[go_sem,G,B,m,eL,Z]);have em:(if(k:Int)<1 then(1:Int) else k)=((max k 1:Nat):Int):=by split<;>omega
    rw[em];refine⟨⟨by omega,by omega,by omega⟩,?_⟩
    have et:List.take (Int.toNat ((max k 1:Nat):Int)-Int.toNat 1) (List.drop (Int.toNat 1) (b::w))=w.take (k-1):=by
     show List.take (max k 1-1) w=w.take (k-1);congr 1;omega
    rw[et];have b9:k+1-2=k-1:=by omega
    rw[b9]at z
    (apply aQ<;>intro h)<;>simp only[go_sem,h,G,B,m,eL,Z]
    .have L:1<k+1:=by have:=h;simp at this;omega
     refine⟨⟨by omega,by omega,by omega⟩,?_⟩;have bb:List.take (k-Int.toNat 1) (List.drop (Int.toNat 1) (b::w))=w.take (k-1):=rfl;rw[bb];refine aEn _ _ _ _ ?_;simp only[go_sem,G,B,m];simp only[L,xE,fW]at z;exact aF z (eG B)
    .have L:¬ 1<k+1:=by have:=h;simp at this;omega
     simp only[L,xB,gG]at z;exact aF z (eG B)
   .have bf:¬ b=34:=gQ h;simp only[kJ,O,b6,bf,cI]at z;have hz:=aCn (b::w) sg 0 (aX _)
    refine Ex.loop (λi=>[(0,.ptr r 0),(2,.ptr q 0),(3,.int .i64 (jC (b::w) (sg.take i) 0:Nat)),(5,.str (b::w)),(6,.int .u8 b.toNat),(67,.list none (sg.map .str)),(68,.int .i64 (sg.length:Nat)),(69,.int .i64 (i:Nat))])
     (λ_=>s.setO q (.cells 173 [.int .i64 0,.str [],.int .i64 0,.int .i64 0,.int .i64 0])) (λi=>i<=sg.length) (λi=>sg.length-i) 0 (aX _) ?_ (aG _) ?_
    .simp[Env.has,Env.get,jC]
    .intro i hi;refine bC (V:=[0,2,3,4,5,6,8,20,33,41,67,68,69,70,81,100]) _ _ _ _ ?_;simp only[go_sem]
     (apply aQ<;>intro h)<;>simp only[go_sem,h,G,B,m,eL]
     .have b5:i<sg.length:=gQ h;obtain⟨y,hy⟩:∃y,sg[i]?=some y:=⟨sg[i],aV b5⟩
      have H:jC (b::w) (sg.take (i+1)) 0=if jC (b::w) (sg.take i) 0<y.length/\mH (b::w) y=true then y.length else jC (b::w) (sg.take i) 0:=by
       rw[<-aFk,eO,hy];rfl
      generalize jC (b::w) (sg.take i) 0=n at H;refine⟨b5,?_⟩;simp only[go_sem,hy]
      (apply aQ<;>intro h)<;>simp only[go_sem,h,G,B,m,eL]
      .have h5:n<y.length:=gQ h;refine aEa _ _ _ _ _ ?_;simp only[go_sem]
       (apply aQ<;>intro h)<;>simp only[go_sem,h]
       .exact⟨i+1,by omega,by omega,⟨by rw[H,aE ⟨h5,h⟩],bM i aB⟩,aG _⟩
       .exact⟨i+1,by omega,by omega,⟨by rw[H,aD (by rw[h];simp)],bM i aB⟩,aG _⟩
      .have h5:¬ n<y.length:=gQ h;exact⟨i+1,by omega,by omega,⟨by rw[H,aD (by simp[h5])],bM i aB⟩,aG _⟩
     .have bg:sg.length<=i:=gQ h;obtain rfl:i=sg.length:=by omega
      rw[List.take_length];generalize jC (b::w) sg 0=n at z hz
      have b8:(s.setO q (.cells 173 [.int .i64 0,.str [],.int .i64 0,.int .i64 0,.int .i64 0])).getO r=some (.cells 231 (eL x F l c sg op)):=by
       rw[aH,aD m.2];exact G
      simp only[cQ,cI]at z;have b2:(39:UInt8).toNat=39:=rfl;have b4:(95:UInt8).toNat=95:=rfl;have S:decide ((b.toNat:Int)=39)=decide (b=39):=by rw[cW,<-rB,b2];omega
      have U:decide ((b.toNat:Int)=95)=decide (b=95):=by rw[cW,<-rB,b4];omega
      have e0:decide ((n:Int)=0)=decide (n=0):=by rw[cW];omega
      rw[e0];cases h0:decide (n=0)<;>cases op<;>simp only[go_sem,b8,B,m,eL,S,U]<;>cases b1:decide (b=39)<;>cases b3:decide (b=95)<;>(try simp only[go_sem,b8,B,m,eL,S,U,b1,b3])
      all_goals (simp only[dA,gP]at h0 b1 b3)
      all_goals (have ed:decide (0<(n:Int))=decide (0<n):=by rw[cW];omega)
      all_goals (simp only[aO]at hz)
      all_goals first
       | (rw[aD (λhc=>by simp_all)]at z;refine⟨by omega,?_⟩;rw[ed];exact aF z (eG B))
       | (rw[aE (by simp_all)]at z;refine⟨by omega,?_⟩;exact aF z (eG B))
theorem aDv(p:UInt8->Bool)(w:aC):(w.takeWhile p).length<=w.length:=(List.takeWhile_sublist _).length_le
theorem aHm{p:UInt8->Bool}{c:UInt8}{w:aC}(h:p c=true):1<=((c::w).takeWhile p).length:=by simp[List.takeWhile,h]
theorem aCy{c:UInt8}{r:aC}{sg:List aC}{op:Bool}{t:Tok}{n:Nat}(h:kJ (c::r) sg op=(t,n,true)):1<=n/\n<=(c::r).length:=by
 simp only[kJ]at h;split at h
 .rename_i m;simp only[lO,dA]at h;obtain⟨_,rfl,_⟩:=h;refine⟨aHm ?_,aDv _ _⟩;simp only[dT,dI,List.all_cons]at m;exact m.2.2.1
 .split at h
  .rename_i y;simp only[pM]at h;split at h
   .simp at h
   .simp only[lO,dA]at h;obtain⟨_,rfl,_⟩:=h;exact⟨aHm y,aDv _ _⟩
  .split at h
   .simp only[lO,dI,dA]at h;have:=aDr r 34;simp only[aO];omega
   .have hz:=aCn (c::r) sg 0 (aX _);simp only[lO,dA]at h;obtain⟨_,rfl,h⟩:=h;refine⟨h,?_⟩;split
    .simp
    .exact hz
theorem vB:∀(f:Nat) (w:aC),oP f w<=w.length
 | 0,w=>aX _
 | f+1,[]=>aX _
 | f+1,b::r=>by
  simp only[oP];split
  .have:=vB f r;simp only[aO];omega
  .split
   .have:=vB f ((b::r).drop ((b::r).takeWhile (λc=>!decide (c=10))).length);rw[cS]at this;have:=aDv (λc=>!decide (c=10)) (b::r);omega
   .exact aX _
def Lx.out(KV:St->A->Prop):Lx->St->Prop
 | .ok l,s=>KV s (.tuple [.list none (l.map Tok.enc),Fault.none.enc])
 | .bad f,s=>KV s (.tuple [.list none [],f.enc])
theorem aNm(s:St)(r:Nat)(x:aC)(sg:List aC)(KV Kp)
  (hr:s.getO r=some (.cells 231 (eL x 0 1 1 sg true)))(hx:x.length<=4294967290)(hsg:sg.length<=4294967296)
  (hk:∀o,(lK sg true x).out KV (s.setO r o)):Den cx 182 [.ptr r 0] KV Kp s:=by
 (refine aL func182 [0,2,3,4,5,6,18,38] ?_;simp only[go_sem,ntmps182,f182]);(refine aM λq hq=>?_);have hne:=aS hr hq;simp only[go_sem,hr,hq,hne,eL];refine aFc _ r x 0 1 1 sg true _ _ (by rw[aH,aD hne.2];exact hr) aB (aX _) aB aB ?_;have hb0:=vB x.length x;change eE x<=x.length at hb0;simp only[go_sem,hr,hq,hne,eL]
 refine Ex.loop (ι:=Nat × (Nat × Nat) × List Tok × Option Nat) (λi=>[(0,.ptr r 0),(2,gv i.2.2.2 (i.2.2.1.map Tok.enc)),(3,.ptr q 0)])
  (λi=>gs ((s.setO q (.cells 51 [.int .i64 0,.str [],.int .i64 0,.int .i64 0])).setO r (.cells 231 (eL x i.1 i.2.1.1 i.2.1.2 sg true))) i.2.2.2 i.2.2.1.length 173)
  (fun i => i.1 ≤ x.length ∧ i.2.1.1 ≤ i.1 + 1 ∧ i.2.1.2 ≤ i.1 + 1 ∧ (i.2.2.2 = none → i.2.2.1 = []) ∧ (∀ t,i.2.2.2 = some t → s.getT t = none) ∧ i.2.2.1.length ≤ i.1 ∧
   ∃f,x.length-i.1<=f/\lK sg true x=nJ sg true f (x.drop i.1) i.2.1 i.2.2.1) (λi=>x.length-i.1)
  (eE x,dJ (1,1) (x.take (eE x)),[],none) ?_ ?_ ?_ ?_
 .have:=rU (x.take (eE x)) (1,1) 0 aB aB;rw[dV]at this;refine⟨hb0,aP,aP,λ_=>rfl,λt h=>(by cases h),aX _,x.length,aP,rfl⟩
 .simp only[go_sem];rfl
 .simp only[go_sem];exact aG _
 .rintro⟨a,⟨l,c⟩,acc,tk⟩ ⟨ha,hl,hc,hn,hf,hla,f,hff,hlex⟩;simp only at ha hl hc hn hf hla hff hlex;refine bC (V:=[0,2,3,4,5,6,18,38]) _ _ _ _ ?_;simp only[go_sem];(refine bB (OT.r 0 10) [] ?_;simp only[go_sem,hne,eL])
  (apply aQ<;>intro h)<;>simp only[go_sem,h]
  .have hlt:a<x.length:=gQ h;obtain⟨b,w,hw⟩:∃b w,x.drop a=b::w:=⟨_,_,kN hlt⟩
   obtain⟨f,rfl⟩:∃f',f=f'+1:=⟨f-1,by omega⟩
   refine aLX _ r x a l c sg true _ _ (by simp only[go_sem];rfl) aB hlt hsg ?_;rw[hw]at hlex⊢;simp only[nJ]at hlex;rcases htok:kJ (b::w) sg true with⟨⟨tkd,ttx,tn,tl,tc⟩,n,ok⟩
   rw[htok]at hlex;simp only[go_sem];(refine aM λq2 hq2=>?_)
   have hne2:q2≠r/\q2≠q:=by
    have h1:=hq2;rw[bW,aH]at h1;have h2:=hq2;rw[bW,aH]at h2;constructor<;>rintro rfl
    .simp at h1
    .rw[aD hne.1,aH]at h2;simp at h2
   simp only[go_sem,hne,hne2,hq2];(refine bB (OT.r 0 12) [(9,[7])] ?_;simp only[go_sem,hne,hne2,eL])
   (apply aQ<;>intro h)<;>simp only[go_sem,h,hne,hne2,eL]
   .have hok:ok=false:=gQ h;subst hok;simp only at hlex;(refine bB (OT.r 0 25) [] ?_;simp only[go_sem,hne,hne2,eL,Nat.le_of_lt hlt]);have ew:IntKind.i64.wrap ((a:Int)+1)=((a+1:Nat):Int):=bM a aB;rw[ew];refine⟨⟨by omega,by omega⟩,?_⟩;have et:List.take ((((a+1:Nat):Int)).toNat-a) (x.drop a)=[b]:=by rw[hw,Int.toNat_natCast,Nat.add_sub_cancel_left];rfl
    rw[et];rw[hlex]at hk;refine DK.mk (hk _) (gE (bQ ?_ (bQ ?_ (mT (eG hq)))) ?_) (A.le.tuple ⟨A.le.nil,bF _,trivial⟩)
    .rw[aH,aD hne.1];exact hq
    .have h1:=hq2;rw[bW,aH,aD hne2.1.symm,aH,aD hne2.2.symm]at h1;rw[aH,aD hne2.1.symm];exact h1
    .exact hf
   .have hok:ok=true:=gQ h;subst hok;simp only at hlex;obtain⟨hn1,hn2⟩:=aCy htok;refine⟨by decide,by simp[A.cells],cT rfl rfl (by rw[aK];exact eD λe=>by rw[hn e];rfl) (λy hy=>by simp only[cD]at hy;obtain⟨z,_,rfl⟩:=hy;rfl) (by simp;omega) λt ht=>?_⟩;have hft':s.getT t=none:=by have:=eX ht (λu hu=>hf u hu);exact this
    rw[eP ht];simp only[go_sem,hne,hne2];refine aAr _ r x a l c n sg true _ _ (by simp only[go_sem,hne,hne2];rfl) aB (by have:=mY List.length hw;rw[cS]at this;omega) aB aB ?_;simp only[go_sem];have hal:=rU ((b::w).take n) (l,c) a hl hc;rw[dV,aD5 hn2]at hal;have hwl:x.length-a=(b::w).length:=by rw[<-hw,cS]
    rw[hw];have hblk:=vB ((b::w).drop n).length ((b::w).drop n);change eE ((b::w).drop n)<=_ at hblk;rw[cS]at hblk;have hdd:x.drop (a+n)=(b::w).drop n:=by rw[<-pZ,hw]
    refine aFc _ r x (a+n) _ _ sg true _ _ (by simp only[go_sem,hne,hne2];rfl) aB aB aB aB ?_;simp only[go_sem];rw[hdd];refine⟨(a+n+eE ((b::w).drop n),dJ (dJ (l,c) ((b::w).take n)) (((b::w).drop n).take (eE ((b::w).drop n))),acc++[⟨tkd,ttx,tn,l,c⟩],some t),⟨?_,?_,?_,?_,?_,?_,f,?_,?_⟩,?_,?_,?_⟩
    .simp only;omega
    .have:=rU (((b::w).drop n).take (eE ((b::w).drop n))) (dJ (l,c) ((b::w).take n)) (a+n) aB aB;rw[dV,cS,aD5 hblk]at this;simp only;omega
    .have:=rU (((b::w).drop n).take (eE ((b::w).drop n))) (dJ (l,c) ((b::w).take n)) (a+n) aB aB;rw[dV,cS,aD5 hblk]at this;simp only;omega
    .intro h;cases h
    .intro u hu;cases hu;exact hft'
    .simp only[aI,aO,aU];omega
    .simp only;omega
    .simp only[hlex];congr 1;rw[<-pZ,hdd]
    .simp only;omega
    .simp only[bY,bN,cP,dB];exact rfl
    .simp only[gs,aI,aO,aU];refine fY (aK8 ?_ hne2.1);have h1:=hq2;rw[bW,aH,aD hne2.1.symm]at h1;exact h1
  ·(refine bB (OT.r 0 4) [] ?_; simp only [go_sem,hne,eL]);have hge : x.length ≤ a := gQ h
   have hlx:lK sg true x=.ok acc:=by
    rw[hlex,eB hge];cases f<;>rfl
   rw[hlx]at hk;refine DK.mk (hk _) (gE (bQ ?_ (mT (eG hq))) ?_) (A.le.tuple ⟨gK tk _ (λe=>by rw[hn e];rfl),bF _,trivial⟩)
   .rw[aH,aD hne.1];exact hq
   .exact hf
theorem aME(s:St)(x:aC)(KV Kp)(B:x.length<=4294967290)(y:(lK gV true x).out KV s):Den cx 147 [.str x] KV Kp s:=by
 (refine aL func147 [0,2,3] ?_;simp only[go_sem,ntmps147,f147]);(refine aM λq h=>?_);simp only[go_sem,h];refine aJn _ _ _ ?_;simp only[go_sem,vI];(refine aM λr z=>?_);have m:q≠r:=z.1.1;simp only[go_sem,z,h,m];refine aNm _ r x gV _ _ (by rw[aH,aE rfl];rfl) B fJ λo=>?_
 cases hl:lK gV true x with
 | ok l =>
  rw[hl]at y;simp only[Lx.out]at y⊢;simp only[go_sem,z,h,m,Fault.none];exact aF y (bQ h (bQ z.2 (eG h)))
 | bad f =>
  rw[hl]at y;simp only[Lx.out]at y⊢;simp only[go_sem,z,h,m];exact aF y (bQ h (bQ z.2 (eG h)))
section
def Tok.name(t:Tok):aC:=if t.kind=2 then Lib.itoa t.n else t.text
def eJ(t:Tok)(x:aC):Bool:=(decide (t.kind=4)||decide (t.kind=1))&&decide (t.text=x)
def cJ(x:aC):List Tok->Bool
 | []=>false
 | t::_=>eJ t x
def Tok.free(t:Tok):Bool:=decide (t.kind=1)&&!decide (t.text∈kF)
def eY(fin:Fault)(h:Int):List Tok->Fault
 | []=>fin
 | t::_=>⟨h,t.name,t.line,t.col⟩
def oJ(fin:Fault):List Tok->Fault
 | []=>fin
 | t::_=>⟨3,[],t.line,t.col⟩
inductive Rd (α:Type) where
 | ok (a:α) (w:List Tok) (n:Nat)
 | bad (f:Fault)
def Rd.bind{α h:Type}(r:Rd α)(k:α->List Tok->Nat->Rd h):Rd h:=match r with
 | .ok a w n=>k a w n
 | .bad f=>.bad f
def Rd.to{α:Type}(r:Rd α)(k:α->List Tok->Nat->Prop)(b:Fault->Prop):Prop:=match r with
 | .ok a w n=>k a w n
 | .bad f=>b f
theorem bH{α h:Type}(r:Rd α)(k:α->List Tok->Nat->Rd h)(p:h->List Tok->Nat->Prop)(b:Fault->Prop) :
  (r.bind k).to p b=r.to (λa w n=>(k a w n).to p b) b:=by cases r<;>rfl
theorem aT{α:Type}{r:Rd α}{p y:α->List Tok->Nat->Prop}{b m:Fault->Prop}(h:r.to p b)(B:∀a w n,p a w n->y a w n)(z:∀f,b f->m f):r.to y m:=by
 cases r with
 | ok a w n=>exact B a w n h
 | bad f=>exact z f h
theorem bR{α:Type}(a:α)(w:List Tok)(n:Nat)(p:α->List Tok->Nat->Prop)(b:Fault->Prop):(Rd.ok a w n).to p b=p a w n:=rfl
theorem dE{α:Type}(f:Fault)(p:α->List Tok->Nat->Prop)(b:Fault->Prop):(Rd.bad f:Rd α).to p b=b f:=rfl
theorem uR{α:Type}(c:Prop) [Decidable c] (x y:Rd α) (p:α->List Tok->Nat->Prop) (b:Fault->Prop):(if c then x else y).to p b=if c then x.to p b else y.to p b:=by
 split<;>rfl
section
variable (lk:Bool) (fin:Fault)
def fI(x:aC)(w:List Tok)(n:Nat):Rd Unit:=if cJ x w=true then .ok () w.tail n else .bad (eY fin 11 w)
def eH:List Tok->Nat->Rd aC
 | [],_=>.bad fin
 | t::w,n=>if t.free=true then .ok t.text w n else .bad (eY fin 11 (t::w))
def vA(h:Int):List Tok->Nat->Rd Int
 | [],_=>.bad fin
 | t::w,n=>if t.kind=2 then(if t.n<1\/h<t.n then .bad (eY fin 20 (t::w)) else .ok t.n w n) else .bad (eY fin 11 (t::w))
def aDu(h m:Nat)(w:List Tok)(n:Nat):Rd Unit:=if m<=h then .bad (oJ fin w) else .ok () w n
def dO{σ:Type}(sep:aC)(one:σ->List Tok->Nat->Rd σ):Nat->σ->List Tok->Nat->Rd σ
 | 0,_,_,_=>.bad fin
 | f+1,a,w,n=>(one a w n).bind λa w n=>if cJ sep w=true then dO sep one f a w.tail n else .ok a w n
def nF{α:Type}(one:List α->List Tok->Nat->Rd α)(acc:List α)(w:List Tok)(n:Nat):Rd (List α) :=
 dO fin [44] (λacc w n=>(one acc w n).bind λa w n=>.ok (acc++[a]) w n) (w.length+1) acc w n
def Tok.begins(t:Tok):Bool :=
 if t.kind=2\/t.kind=3 then true
 else if t.kind=1 then !decide (t.text∈kF)||(decide (t.text=[116,114,117,101])||decide (t.text=[102,97,108,115,101]))
 else decide (t.text∈[[45],[39],[95],[91],[123],[36]])
def sE(x:aC):Bool:=dT x&&(match x with|c::_=>decide (97<=c.toNat)&&decide (c.toNat<=122)|[]=>false)&&!decide (x=[116,114,117,101])&&!decide (x=[102,97,108,115,101])
def tL(first:Tok)(w:List Tok)(n:Nat):Rd Unit:=if 2000<n+1 then .bad ⟨3,[],first.line,first.col⟩ else .ok () w (n+1)
def vP(first:Tok)(h:Bool)(sort:aC)(w:List Tok)(n:Nat):Rd (List Tm) :=
 if cJ [124] w=true then
  match w.tail with
  | []=>.bad fin
  | t::w=>if t.free=true then(if h=true then .bad ⟨19,t.text,t.line,t.col⟩ else(tL first w n).bind λ_ w n=>.ok [.mk 6 0 t.text sort [] []] w n) else .bad (eY fin 11 (t::w))
 else .ok [] w n
def wC(first:Tok)(h:List Tok->Nat->Rd Tm)(acc:List Tm)(w:List Tok)(n:Nat):Rd Tm :=
 if acc.length=8 then
  match w with
  | []=>.bad fin
  | t::w=>if t.begins=true then .bad (if lk=true/\2000<=n then⟨3,[],first.line,first.col⟩ else⟨3,[],t.line,t.col⟩) else h (t::w) n
 else h w n
def aAW(first:Tok)(h:List Tok->Nat->Rd Tm)(t:Tok)(w:List Tok)(n:Nat):Rd Tm :=
 if t.text=[116,114,117,101] then .ok (.mk 2 1 [] [] [] []) w n
 else if t.text=[102,97,108,115,101] then .ok (.mk 2 0 [] [] [] []) w n
 else if cJ [58] w=true then(eH fin w.tail n).bind λx w n=>.ok (.mk 6 0 t.text x [] []) w n
 else(fI fin [40] w n).bind λ_ w n =>
  if cJ [41] w=true then .ok (.mk 5 0 t.text [] [] []) w.tail n
  else(nF fin (wC lk fin first h) [] w n).bind λl w n=>(fI fin [41] w n).bind λ_ w n=>.ok (.mk 5 0 t.text [] l []) w n
def yY(h:List Tok->Nat->Rd Tm)(acc:List Tm)(w:List Tok)(n:Nat):Rd (List Tm) :=
 (h w n).bind λk w n=>(fI fin [45,62] w n).bind λ_ w n=>(h w n).bind λv w n=>.ok (acc++[k,v]) w n
def rM(first:Tok)(m:List Tok->Nat->Rd Tm)(h:Bool)(t:Tok)(w:List Tok)(n:Nat):Rd Tm :=
 if t.text=[45] then
  match w with
  | []=>.bad fin
  | u::w=>if u.kind=2/\u.line=t.line/\u.col=t.col+1 then .ok (.mk 1 (-u.n) [] [] [] []) w n else .bad (eY fin 11 (u::w))
 else if t.text=[39] then
  match w with
  | []=>.bad fin
  | u::w=>if u.free=true/\sE u.text=true then .ok (.mk 4 0 u.text [] [] []) w n else .bad (eY fin 11 (u::w))
 else if t.text=[91] then
  (if cJ [124] w = true ∨ cJ [93] w = true then Rd.ok [] w n else nF fin (fun _ => m) [] w n).bind fun l w n =>
   (vP fin first h [76,105,115,116] w n).bind λr w n=>(fI fin [93] w n).bind λ_ w n=>.ok (.mk 7 0 [] [] l r) w n
 else if t.text=[123] then
  (if cJ [124] w = true ∨ cJ [125] w = true then Rd.ok [] w n else dO fin [44] (yY fin m) (w.length + 1) [] w n).bind fun l w n =>
   (vP fin first h [77,97,112] w n).bind λr w n=>(fI fin [125] w n).bind λ_ w n=>.ok (.mk 8 0 [] [] l r) w n
 else .ok (.mk 6 0 t.text [65,110,121] [] []) w n
def iL(first:Tok):Nat->List Tok->Nat->Rd Tm
 | _,[],_=>.bad fin
 | 0,t::w,_=>if t.begins=true then .bad (eY fin 19 (t::w)) else .bad (eY fin 11 (t::w))
 | k+1,t::w,n =>
  if t.begins=true then
   (tL first w n).bind fun _ w n =>
    if t.kind=2 then .ok (.mk 1 t.n [] [] [] []) w n
    else if t.kind=3 then .ok (.mk 3 0 t.text [] [] []) w n
    else if t.kind=1 then aAW lk fin first (iL first k) t w n
    else rM fin first (iL first k) (decide (k=0)) t w n
  else .bad (eY fin 11 (t::w))
def lA(w:List Tok)(n:Nat):Rd Tm:=match w with
 | []=>.bad fin
 | t::_=>match iL lk fin t 60 w 0 with
  | .ok a w _=>.ok a w n
  | .bad f=>.bad f
def rR(w:List Tok)(n:Nat):Rd (List Tm) :=
 if cJ [105,102] w=true then
  nF fin (λacc w n=>match w with
   | []=>.bad fin
   | t::r=>if t.begins=true then(aDu fin acc.length 20 (t::r) n).bind λ_ w n=>lA lk fin w n else lA lk fin (t::r) n) [] w.tail n
 else .ok [] w n
def mK{α:Type}(m h:Nat)(w:List Tok)(n:Nat)(k:List Tok->Nat->Rd α):Rd α:=match w with
 | []=>.bad fin
 | t::r=>if t.free=true/\m<=h then .bad (oJ fin (t::r)) else k (t::r) n
def tN(w:List Tok)(n:Nat):Rd Cel:=match w with
 | []=>.bad fin
 | t::r=>(eH fin (t::r) n).bind λx w n=>(fI fin [58] w n).bind λ_ w n=>(eH fin w n).bind λy w n=>(fI fin [61] w n).bind λ_ w n =>
   (lA lk fin w n).bind λi w n=>.ok ⟨x,y,i,t.line,t.col⟩ w n
def yE:Nat->List Piece->List aC->Bool->List Tok->Nat->Rd (List Piece × List aC × Bool)
 | 0,_,_,_,_,_=>.bad fin
 | f+1,h,az,m,w,n =>
  if cJ [45,62] w=true then .ok (h,az,m) w.tail n
  else match w with
   | []=>.bad fin
   | t::w=>if t.kind=3\/t.free=true then
     (if 20<=h.length then .bad (oJ fin (t::w))
     else if t.kind=3 then yE f (h++[⟨t.text,[]⟩]) az true w n
     else if 8<=az.length then .bad (oJ fin (t::w))
     else yE f (h++[⟨[],t.text⟩]) (az++[t.text]) m w n)
    else .bad (eY fin 11 (t::w))
def oG:Nat->Opr->List Tok->Nat->Rd Opr
 | 0,_,_,_=>.bad fin
 | f+1,o,w,n =>
  if cJ [46] w=true then .ok o w n
  else match w with
   | []=>.bad fin
   | t::w =>
    if¬ t.kind=1 then .bad (eY fin 11 (t::w))
    else if t.text=[112,114,101,99] then
     (if 0<o.prec then .bad (eY fin 14 (t::w)) else(vA fin 20 w n).bind λm w n=>oG f { o with prec:=m } w n)
    else if t.text=[108,101,102,116] then
     (if o.assoc=0 then oG f { o with assoc:=1 } w n else .bad (eY fin 14 (t::w)))
    else if t.text=[114,105,103,104,116] then
     (if o.assoc=0 then oG f { o with assoc:=2 } w n else .bad (eY fin 14 (t::w)))
    else if t.text=[115,116,114,105,99,116] then
     (if 0 < o.strict.length then .bad (eY fin 14 (t :: w)) else
      (fI fin [40] w n).bind λ_ w n=>(nF fin (λ_=>vA fin 8) [] w n).bind λl w n=>(fI fin [41] w n).bind λ_ w n=>oG f { o with strict:=l } w n)
    else .bad (eY fin 11 (t::w))
def opR(w:List Tok)(n:Nat):Rd Opr :=
 (eH fin w n).bind fun x w n => (fI fin [58] w n).bind fun _ w n => (yE fin (w.length + 1) [] [] false w n).bind fun p w n =>
  (eH fin w n).bind λy w n=>oG fin (w.length+1) ⟨x,p.2.1,y,if p.2.2=true then p.1 else [],0,0,[]⟩ w n
def tM:Nat->List aC->List Tok->Nat->Rd (List aC)
 | 0,_,_,_=>.bad fin
 | f+1,az,w,n =>
  if cJ [45,62] w=true then .ok az w.tail n
  else(mK fin 8 az.length w n λw n=>eH fin w n).bind λx w n=>tM f (az++[x]) w n
def aDL(w:List Tok)(n:Nat):Rd Opr :=
 (eH fin w n).bind fun x w n => (fI fin [58] w n).bind fun _ w n => (tM fin (w.length + 1) [] w n).bind fun az w n =>
  (eH fin w n).bind λy w n=>.ok ⟨x,az,y,[],0,0,[]⟩ w n
def aA3(r:Rul)(w:List Tok)(n:Nat):Rd Rul:=match w with
 | []=>.bad fin
 | t::w =>
  if eJ t [110,101,119]=true then
   (fI fin [40] w n).bind λ_ w n=>(nF fin (λ_=>lA lk fin) [] w n).bind λl w n=>(fI fin [41] w n).bind λ_ w n=>.ok { r with new:=r.new++[⟨l⟩] } w n
  else if eJ t [100,114,111,112]=true then
   (fI fin [64] w n).bind λ_ w n=>(eH fin w n).bind λx w n=>.ok { r with drop:=r.drop++[x] } w n
  else
   (eH fin (t :: w) n).bind fun x w n =>
    (if cJ [64] w = true then eH fin w.tail n else Rd.ok [] w n).bind fun y w n => (fI fin [58] w n).bind fun _ w n => (lA lk fin w n).bind fun l w n =>
     (if cJ [61,62] w = true then (lA lk fin w.tail n).bind fun u w n => Rd.ok [u] w n else Rd.ok [] w n).bind fun h w n =>
      .ok { r with parts:=r.parts++[⟨x,y,l,h,t.line,t.col⟩] } w n
def aAP(c:Rul × Nat)(w:List Tok)(n:Nat):Rd (Rul × Nat):=match w with
 | []=>.bad fin
 | t::r=>if(t.kind=1/\(¬ t.text∈kF\/t.text=[110,101,119]\/t.text=[100,114,111,112]))/\20<=c.2 then .bad (oJ fin (t::r))
  else(aA3 lk fin c.1 (t::r) n).bind λx w n=>.ok (x,c.2+1) w n
def aDB(h m:Int)(w:List Tok)(n:Nat):Rd Rul :=
 (eH fin w n).bind fun x w n => (fI fin [58] w n).bind fun _ w n =>
  (dO fin [59] (aAP lk fin) (w.length+1) (⟨x,[],[],[],[],h,m⟩,0) w n).bind λc w n=>(rR lk fin w n).bind λl w n=>.ok { c.1 with cond:=l } w n
def tG(d:Dfn)(t:Tok)(w:List Tok)(n:Nat):Rd Dfn :=
 if eJ t [115,116,97,114,116]=true then
  (if d.start=[] then(eH fin w n).bind λx w n=>.ok { d with start:=x } w n else .bad (eY fin 14 (t::w)))
 else if eJ t [119,97,116,99,104]=true then
  (if d.watch=[] then(eH fin w n).bind λx w n=>.ok { d with watch:=x } w n else .bad (eY fin 14 (t::w)))
 else if eJ t [99,101,108,108]=true then
  (if 12<=d.once.length then .bad (oJ fin (t::w)) else(tN lk fin w n).bind λc w n=>.ok { d with once:=d.once++[c] } w n)
 else if eJ t [109,97,110,121]=true then
  (if d.kind = [] then
   (eH fin w n).bind fun x w n => (fI fin [40] w n).bind fun _ w n =>
    (nF fin (λacc w n=>mK fin 12 acc.length w n λw n=>tN lk fin w n) d.many w n).bind λl w n=>(fI fin [41] w n).bind λ_ w n=>.ok { d with kind:=x,many:=l } w n
  else .bad (eY fin 14 (t::w)))
 else .bad (eY fin 11 (t::w))
def aDt(d:Dfn)(w:List Tok)(n:Nat):Rd Dfn:=match w with
 | []=>.bad fin
 | t::w =>
  (if eJ t [115,111,114,116] = true then
   (nF fin (λacc w n=>mK fin 40 acc.length w n λw n=>eH fin w n) d.sig.sorts w n).bind λl w n=>Rd.ok { d with sig:={ d.sig with sorts:=l } } w n
  else if eJ t [115,117,98,115,111,114,116]=true then
   (if 200 ≤ d.sig.below.length then Rd.bad (oJ fin (t :: w)) else
    (eH fin w n).bind λx w n=>(fI fin [60] w n).bind λ_ w n=>(eH fin w n).bind λy w n=>Rd.ok { d with sig:={ d.sig with below:=d.sig.below++[⟨x,y⟩] } } w n)
  else if eJ t [118,97,108,117,101]=true then
   (nF fin (λ_=>eH fin) [] w n).bind λl w n=>Rd.ok { d with sig:={ d.sig with values:=d.sig.values++l } } w n
  else if eJ t [111,112]=true\/eJ t [102,117,110]=true then
   (if 200<=d.sig.ops.length+d.sig.funs.length then Rd.bad (oJ fin (t::w))
   else if t.text=[111,112] then(opR fin w n).bind λo w n=>Rd.ok { d with sig:={ d.sig with ops:=d.sig.ops++[o] } } w n
   else(aDL fin w n).bind λo w n=>Rd.ok { d with sig:={ d.sig with funs:=d.sig.funs++[o] } } w n)
  else if eJ t [108,101,116]=true then
   (if 300 ≤ d.eqs.length then Rd.bad (oJ fin (t :: w)) else
    (lA lk fin w n).bind fun l w n => (fI fin [61] w n).bind fun _ w n => (lA lk fin w n).bind fun r w n => (rR lk fin w n).bind fun c w n =>
     Rd.ok { d with eqs:=d.eqs++[⟨l,r,c,t.line,t.col⟩] } w n)
  else if eJ t [114,117,108,101]=true then
   (if 300<=d.rules.length then Rd.bad (oJ fin (t::w)) else(aDB lk fin t.line t.col w n).bind λr w n=>Rd.ok { d with rules:=d.rules++[r] } w n)
  else tG lk fin d t w n).bind λd w n=>(fI fin [46] w n).bind λ_ w n=>.ok d w n
def yK:Nat->Dfn->List Tok->Nat->Rd Dfn
 | 0,_,_,_=>.bad fin
 | f+1,d,w,n=>match w with
  | []=>.ok d [] n
  | _::_=>(aDt lk fin d w n).bind λd w n=>yK f d w n
def fZ:Dfn:=⟨[],⟨[],[],[],[],[]⟩,[],[],[],[],[],[],[]⟩
def vW(w:List Tok):Rd Dfn :=
 (fI fin [108,97,110,103,117,97,103,101] w 0).bind λ_ w n=>(eH fin w n).bind λx w n=>(fI fin [46] w n).bind λ_ w n=>yK lk fin (w.length+1) { fZ with name:=x } w n
end
end
section
structure Dc where
 name:aC
 sorts:A
 below:A
 ops:A
 funs:A
 values:A
 eqs:A
 once:A
 kind:aC
 many:A
 rules:A
 start:aC
 watch:aC
def Dc.cs(d:Dc):List A:=[.str d.name,d.sorts,d.below,d.ops,d.funs,d.values,d.eqs,d.once,.str d.kind,d.many,d.rules,.str d.start,.str d.watch]
def psC(T:List Tok)(fin:Fault)(d:Dc)(first:Tok)(i n:Nat):List A :=
 .list none (T.map Tok.enc)::.int .i64 i::(fin.cs++(d.cs++(first.cs++[.int .i64 n,.bool false])))
def aZ(T:List Tok)(fin:Fault)(d:Dc)(first:Tok)(i n:Nat):Ob:=.cells 175 (psC T fin d first i n)
attribute [go_sem] Dc.cs psC aZ
structure TOk (T:List Tok):Prop where
 len:T.length<=4294967290
 num:∀t,t∈T->0<=t.n/\t.n<=2147483647
 col:∀t,t∈T->0<=t.col/\t.col<=4294967296
 txt:∀t,t∈T->t.text.length<=4294967296
def PK{α:Type}(T:List Tok)(i:Nat)(S:Nat->Nat->St)(enc:α->A)(KV:St->A->Prop)(a:α)(w:List Tok)(n:Nat):Prop:=∀j,i<=j->j<=T.length->T.drop j=w->n<=2000->KV (S j n) (enc a)
def PB(s:St)(r:Nat)(Kp:St->A->Prop)(f:Fault):Prop:=∀o,Kp (s.setO r o) (.iface 51 f.enc)
theorem iR{T:List Tok}{i:Nat}{t:Tok}{w:List Tok}(h:T.drop i=t::w):T[i]?=some t/\i<T.length/\T.drop (i+1)=w/\t∈T:=by
 have hl:=mY List.length h;rw[cS,aO]at hl;have m:(T.drop i)[0]?=some t:=by rw[h];rfl
 rw[jL,Nat.add_zero]at m;refine⟨m,by omega,?_,cR m⟩;rw[<-pZ,h];rfl
section
variable {T:List Tok} {fin:Fault} {d:Dc} {first:Tok} {i n:Nat} {s:St} {r:Nat} {KV Kp:St->A->Prop}
theorem gS(z:s.getO r=some (aZ T fin d first i n))(L:i<=T.length)
  (F:match T.drop i with|t::_=>KV s t.enc|[]=>Kp s (.iface 51 fin.enc)):Den cx 152 [.ptr r 0] KV Kp s:=by
 simp only[go_sem]at z;(refine aL func152 [0,2,12] ?_;simp only[go_sem,ntmps152,f152]);intro b B;have m:=aS z B;simp only[go_sem,B,m,z];(refine bB (OT.r 0 10) [] ?_;simp only[go_sem,z,m])
 (apply aQ<;>intro h)<;>simp only[go_sem,h,z,m]
 .have H:i=T.length:=gQ h;rw[eB aB]at F;exact aF F (eG B)
 .have y:i<T.length:=by
   have:¬ i=T.length:=gQ h;omega
  rw[kN y]at F;have G:T[i]?=some T[i]:=aV y;(refine bB (OT.r 0 11) [] ?_;simp only[go_sem,z,m,G,y]);exact aF F (eG B)
theorem kI(x:aC)(z:s.getO r=some (aZ T fin d first i n))(L:i<=T.length)
  (y:KV s (.bool (cJ x (T.drop i)))):Den cx 157 [.ptr r 0,.str x] KV Kp s:=by
 simp only[go_sem]at z;(refine aL func157 [0,1,4,5,15] ?_;simp only[go_sem,ntmps157,f157]);(refine bB (OT.r 0 10) [] ?_;simp only[go_sem,z])
 (apply aQ<;>intro h)<;>simp only[go_sem,h,z]
 .have H:i=T.length:=gQ h;rw[eB aB]at y;exact aN y
 .have m:i<T.length:=by
   have:¬ i=T.length:=gQ h;omega
  rw[kN m]at y;have G:T[i]?=some T[i]:=aV m;simp only[cJ,eJ]at y;(refine bB (OT.r 0 12) [(10,[3,7,9])] ?_;simp only[go_sem,z,G,m]);intro b B;have F:=aS z B;simp only[go_sem,B,F,z,G,m]
  (repeat' (first|exact aF y bA|((apply aQ<;>intro h)<;>simp only[go_sem,h,B]<;>(try simp only[h,fW,gG,jB,jN,nT,lS,mS,iO,fV,iG]at y))))
theorem gC(x:aC)(y:s.getO r=some (aZ T fin d first i n))(B:i<=T.length)(z:TOk T)
  (m:match cJ x (T.drop i)with|true=>KV (s.setO r (aZ T fin d first (i+1) n)) (.bool true)|false=>KV s (.bool false)):Den cx 150 [.ptr r 0,.str x] KV Kp s:=by
 (refine aL func150 [0,1,4,8] ?_;simp only[go_sem,ntmps150,f150]);refine kI x y B ?_;simp only[go_sem]at y;have:=z.len;simp only[go_sem]
 (apply aQ<;>intro h)<;>simp only[go_sem,h]
 .rw[show cJ x (T.drop i)=false from gQ h]at m;exact aN m
 .rw[show cJ x (T.drop i)=true from gQ h]at m;simp only[go_sem,y,bM i aB];exact aN m
theorem iI{x:aC}(h:cJ x (T.drop i)=true):i+1<=T.length:=by
 cases m:T.drop i with
 | nil=>rw[m]at h;cases h
 | cons t w=>exact(iR m).2.1
theorem aJH(t:Tok)(B:0<=t.n)(F:t.n<=2147483647)(y:KV s (.str t.name)):Den cx 187 [t.enc] KV Kp s:=by
 unfold Tok.name at y;simp only[go_sem];(refine aL func187 [0,1,2,5] ?_;simp only[go_sem,ntmps187,f187]);(refine aM λb z=>?_);simp only[go_sem,z]
 (apply aQ<;>intro h)<;>simp only[go_sem,h,z]
 .have m:t.kind=2:=gQ h;rw[aE m]at y;refine aMf t.n aB aB _ _ _ ?_;simp only[go_sem];exact aF y (eG z)
 .have m:¬ t.kind=2:=gQ h;rw[aD m]at y;exact aF y (eG z)
theorem aCz(t:Tok)(m:Kp s (.iface 51 (Fault.enc ⟨3,[],t.line,t.col⟩))):Den cx 188 [t.enc] KV Kp s:=by
 simp only[go_sem]at m;simp only[go_sem];(refine aL func188 [0,1] ?_;simp only[go_sem,ntmps188,f188]);(refine aM λb h=>?_);simp only[go_sem,h];exact aF m (eG h)
theorem lZ(h:Int)(M:s.getO r=some (aZ T fin d first i n))(L:i<=T.length)(H:TOk T)
  (m:Kp s (.iface 51 (eY fin h (T.drop i)).enc)):Den cx 151 [.ptr r 0,.int .i64 h] KV Kp s:=by
 (refine aL func151 [0,1,4] ?_;simp only[go_sem,ntmps151,f151]);refine gS M L ?_;cases z:T.drop i with
 | nil=>rw[z]at m;exact aN m
 | cons t w =>
  rw[z]at m;obtain⟨O,S,U,B⟩:=iR z;obtain⟨F,G⟩:=H.num t B;simp only[eY]at m;simp only[go_sem]at m;simp only[go_sem];(refine aM λb y=>?_);simp only[go_sem,y];(refine bB (OT.l [0,1,3,4,5,6,2,7,8,9] .nil) [(2,[4,6])] ?_;simp only[go_sem,y]);refine aJH t F G ?_;simp only[go_sem,y];exact aF m (eG y)
end
end
section
section
variable {T:List Tok} {fin:Fault} {d:Dc} {first:Tok} {i n:Nat} {s:St} {r:Nat} {KV Kp:St->A->Prop}
theorem PB.here{f:Fault}{o:Ob}(h:PB s r Kp f)(m:s.getO r=some o):DK Kp s (.iface 51 f.enc):=aF (h o) (qE m)
theorem PB.at{f:Fault}{o:Ob}{s1:St}(h:PB s r Kp f)(m:s1.gx s r)(y:s1.getO r=some o):DK Kp s1 (.iface 51 f.enc):=aF (h o) (m.ge y)
theorem eA(x:aC)(y:s.getO r=some (aZ T fin d first i n))(B:i<=T.length)(z:TOk T)
  (h:(fI fin x (T.drop i) n).to (λ_ w F=>i+1<=T.length->T.drop (i+1)=w->F=n->KV (s.setO r (aZ T fin d first (i+1) n)) (.tuple [])) (PB s r Kp)):Den cx 117 [.ptr r 0,.list none [.str x]] KV Kp s:=by
 (refine aL func117 [0,1,5,6,7,8,9,15] ?_;simp only[go_sem,ntmps117,f117])
 refine Ex.loop (λk:Nat=>[(0,.ptr r 0),(6,.list none [.str x]),(7,.int .i64 1),(8,.int .i64 k)]) (λk=>match k with|0=>s|_+1=>s.setO r (aZ T fin d first (i+1) n))
  (λk=>k=0\/k=1/\cJ x (T.drop i)=true) (λk=>1-k) 0 (.inl rfl) ?_ (aG _) ?_
 .simp only[go_sem];exact⟨rfl,rfl⟩
 .rintro k (rfl|⟨rfl,m⟩)
  .refine bC (V:=[0,1,5,6,7,8,9,15]) _ _ _ _ ?_;simp only[go_sem];refine⟨by simp,?_⟩;simp only[go_sem];refine gC x y B z ?_;cases m:cJ x (T.drop i)with
   | true =>
    simp only[go_sem];exact⟨1,.inr rfl,by omega,rfl,aG _⟩
   | false =>
    simp only[go_sem];refine lZ 11 y B z ?_;simp only[fI,m,cQ,cI,dE]at h;exact h.here y
  .refine bC (V:=[0,1,5,6,7,8,9,15]) _ _ _ _ ?_;simp only[fI,m,cM,bR]at h;simp only[go_sem];exact aN (h (iI m) aW trivial)
theorem fN(L:s.getO r=some (aZ T fin d first i n))(Z:i<=T.length)(U:TOk T)
  (z:(eH fin (T.drop i) n).to (λx w n'=>i+1<=T.length->T.drop (i+1)=w->n'=n->KV (s.setO r (aZ T fin d first (i+1) n)) (.str x)) (PB s r Kp)):Den cx 118 [.ptr r 0] KV Kp s:=by
 (refine aL func118 [0,2,3,13] ?_;simp only[go_sem,ntmps118,f118]);refine gS L Z ?_;cases O:T.drop i with
 | nil=>rw[O]at z;exact PB.here z L
 | cons t w =>
  rw[O]at z;obtain⟨h1,h2,h3,h4⟩:=iR O;have:=U.len;simp only[eH]at z;simp only[go_sem];(refine aM λb G=>?_);have m:=aS L G;have M:(s.setO b (.cells 173 t.cs)).getO r=some (aZ T fin d first i n):=by rw[aH,aD m.2];exact L
  have y:=L;simp only[go_sem]at y
  have bad:∀B,t.free=false->Den cx 151 [.ptr r 0,.int .i64 11] B (DK Kp) (s.setO b (.cells 173 t.cs)):=by
   intro B S;refine lZ 11 M Z U ?_;rw[S]at z;simp only[cQ,cI,dE]at z;rw[O];exact z.at aR M
  have F:t.free=true->KV (s.setO r (aZ T fin d first (i+1) n)) (.str t.text):=by
   intro S;rw[S]at z;simp only[cM,bR]at z;exact z h2 h3 trivial
  simp only[go_sem,G,m,y]
  (apply aQ<;>intro h)<;>simp only[go_sem,h,G,m,y]
  .refine bad _ ?_;rw[Tok.free,show decide (t.kind=1)=false from gQ h];rfl
  .refine rA _ _ _ _ ?_;simp only[go_sem,G,m,y];have H:decide (t.kind=1)=true:=gQ h
   (apply aQ<;>intro h)<;>simp only[go_sem,h,G,m,y]
   .refine bad _ ?_;rw[Tok.free,H,h];rfl
   .have hg:=F (by rw[Tok.free,H,h];rfl);simp only[go_sem,bM i aB];exact aF hg (St.gx.ge aR (by rw[aH,aE rfl];rfl))
theorem aGn(B:s.getO r=some (aZ T fin d first i n))(F:n<=2000)
  (y:(tL first (T.drop i) n).to (λ_ w n=>w=T.drop i->n<=2000->KV (s.setO r (aZ T fin d first i n)) (.tuple [])) (PB s r Kp)):Den cx 209 [.ptr r 0] KV Kp s:=by
 have m:=B;simp only[go_sem]at m;(refine aL func209 [0,13] ?_;simp only[go_sem,ntmps209,f209]);simp only[go_sem,m,bM n aB]
 (apply aQ<;>intro h)<;>simp only[go_sem,h,m]
 .refine aCz first ?_
  have z:2000<n+1:=by have:=h;simp at this;omega
  simp only[tL,z,cM,dE]at y;exact y.at aR (by rw[aH,aE rfl])
 .have z:¬ 2000<n+1:=by have:=h;simp at this;omega
  simp only[tL,z,cI,bR]at y;exact aN (y trivial aB)
end
end
section
section
variable {T:List Tok} {fin:Fault} {d:Dc} {first:Tok} {i n:Nat} {s:St} {r:Nat} {KV Kp:St->A->Prop}
theorem aKo(t:Tok)(y:KV s (.bool t.begins)):Den cx 212 [t.enc] KV Kp s:=by
 simp only[go_sem];(refine aL func212 [0,1,2,4,5,8] ?_;simp only[go_sem,ntmps212,f212]);(refine aM λb m=>?_);simp only[go_sem,m]
 (apply aQ<;>intro h)<;>simp only[go_sem,h,m]
 .have B:t.kind=2:=gQ h;rw[show t.begins=true by simp[Tok.begins,B]]at y
  (try simp only[go_sem,m])
  exact aF y (eG m)
 .have B:¬ t.kind=2:=gQ h
  (try simp only[go_sem,m])
  (apply aQ<;>intro h)<;>simp only[go_sem,h,m]
  .have F:t.kind=3:=gQ h;rw[show t.begins=true by simp[Tok.begins,F]]at y
   (try simp only[go_sem,m])
   exact aF y (eG m)
  .have F:¬ t.kind=3:=gQ h
   (try simp only[go_sem,m])
   (apply aQ<;>intro h)<;>simp only[go_sem,h,m]
   .have z:t.kind=1:=gQ h;rw[show t.begins=(!decide (t.text∈kF)||(decide (t.text=[116,114,117,101])||decide (t.text=[102,97,108,115,101])))by simp[Tok.begins,z]]at y
    (try simp only[go_sem,m])
    refine rA _ _ _ _ ?_;simp only[go_sem,m];cases G:decide (t.text∈kF)<;>simp only[go_sem,m]
    .rw[G]at y;exact aF y (eG m)
    .rw[G]at y;cases H:decide (t.text=[116,114,117,101])<;>simp only[go_sem,m]
     .rw[H]at y;exact aF y (eG m)
     .rw[H]at y;exact aF y (eG m)
   .have z:¬ t.kind=1:=gQ h;rw[show t.begins=decide (t.text∈[[45],[39],[95],[91],[123],[36]])by simp[Tok.begins,z,B,F]]at y
    (try simp only[go_sem,m])
    refine kR _ [[45],[39],[95],[91],[123],[36]] _ _ _ ?_;simp only[go_sem,m];exact aF y (eG m)
theorem jR(a b:Int)(z:s.getO r=some (aZ T fin d first i n))(F:i<=T.length)
  (m:if b<=a then PB s r Kp (oJ fin (T.drop i)) else KV s (.tuple [])):Den cx 156 [.ptr r 0,.int .i64 a,.int .i64 b] KV Kp s:=by
 (refine aL func156 [0,1,2,8] ?_;simp only[go_sem,ntmps156,f156])
 (apply aQ<;>intro h)<;>simp only[go_sem,h]
 .have y:b<=a:=gQ h;rw[aE y]at m;refine gS z F ?_;cases B:T.drop i with
  | nil=>rw[B]at m;exact m.here z
  | cons t w =>
   rw[B]at m;simp only[go_sem];refine aCz t ?_;exact m.here z
 .have y:¬ b<=a:=gQ h;rw[aD y]at m;exact aN m
theorem zZ(y:s.getO r=some (aZ T fin d first i n))(F:i<=T.length)
  (h:match T.drop i with|t::_=>KV s (.bool t.begins)|[]=>PB s r Kp fin):Den cx 193 [.ptr r 0] KV Kp s:=by
 have m:=y;simp only[go_sem]at m;(refine aL func193 [0,2] ?_;simp only[go_sem,ntmps193,f193]);refine gS y F ?_;cases B:T.drop i with
 | nil=>rw[B]at h;exact h.here y
 | cons t w =>
  rw[B]at h;simp only at h;simp only[go_sem];refine aKo t ?_;simp only[go_sem];cases z:t.begins<;>simp only[go_sem,m]
  .rw[z]at h;exact aN h
  .rw[z]at h;exact aN h
theorem aES(m:Int)(O:s.getO r=some (aZ T fin d first i n))(hi:i<=T.length)(hT:TOk T)
  (F:(vA fin m (T.drop i) n).to (λx w n'=>i+1<=T.length->T.drop (i+1)=w->n'=n->KV (s.setO r (aZ T fin d first (i+1) n)) (.int .i64 x)) (PB s r Kp)):Den cx 206 [.ptr r 0,.int .i64 m] KV Kp s:=by
 (refine aL func206 [0,1,4,5,10,21] ?_;simp only[go_sem,ntmps206,f206]);refine gS O hi ?_;cases hw:T.drop i with
 | nil=>rw[hw]at F;exact PB.here F O
 | cons t w =>
  rw[hw]at F;obtain⟨h1,Z,h3,h4⟩:=iR hw;have:=hT.len;simp only[vA]at F;simp only[go_sem];(refine aM λb H=>?_);have z:=aS O H;have S:(s.setO b (.cells 173 t.cs)).getO r=some (aZ T fin d first i n):=by rw[aH,aD z.2];exact O
  have B:=O;simp only[go_sem]at B
  have bad:∀L y,PB s r Kp (eY fin y (t::w))->Den cx 151 [.ptr r 0,.int .i64 y] L (DK Kp) (s.setO b (.cells 173 t.cs)):=by
   intro L y hf;refine lZ y S hi hT ?_;rw[hw];exact hf.at aR S
  simp only[go_sem,H,z,B]
  (apply aQ<;>intro h)<;>simp only[go_sem,h,H,z,B]
  .have Z:¬ t.kind=2:=gQ h;rw[aD Z,dE]at F;exact bad _ _ F
  .have Z:t.kind=2:=gQ h;rw[aE Z]at F;have range:(t.n<1\/m<t.n)->PB s r Kp (eY fin 20 (t::w)):=λhc=>by rw[aE hc]at F;exact F
   have M:¬ (t.n<1\/m<t.n)->KV (s.setO r (aZ T fin d first (i+1) n)) (.int .i64 t.n):=λhc=>by
    rw[aD hc]at F;exact F aB h3 rfl
   cases G:decide (t.n<1)
   .cases U:decide (m<t.n)
    ·(try simp only[go_sem,H,z,B,G,U,bM i aB])
     exact aF (M (by simp at G U;omega)) (St.gx.ge aR (by rw[aH,aE rfl];rfl))
    ·(try simp only[go_sem,H,z,B,G,U])
     exact bad _ _ (range (by simp at G U;omega))
   ·(try simp only[go_sem,H,z,B,G])
    exact bad _ _ (range (by simp at G;omega))
end
end
theorem aAb{α:Type}(fin:Fault)(sep:aC)(one:List Tok->Nat->Rd α):∀(f:Nat) (m l:List α) (w:List Tok) (n:Nat) (p:List α->List Tok->Nat->Prop) (b:Fault->Prop),
  (dO fin sep (λacc w n=>(one w n).bind λa w n=>.ok (acc++[a]) w n) f (m++l) w n).to p b ->
  (dO fin sep (λ(c:Unit × List α) w n=>((one w n).bind λa w n=>Rd.ok ((),a) w n).bind λq w n=>.ok (q.1,c.2++[q.2]) w n) f ((),l) w n).to (λc w n=>p (m++c.2) w n) b
 | 0,m,l,w,n,p,b,h=>h
 | f+1,m,l,w,n,p,b,h=>by
  simp only[dO,bH]at h⊢;refine aT h (λa w n h=>?_) (λ_ h=>h);simp only[bR]at h⊢;split
  .rename_i e;rw[aE e]at h;refine aAb fin sep one f m (l++[a]) w.tail n p b ?_;rw[<-fF];exact h
  .rename_i e;rw[aD e]at h;rw[bR]at h⊢;rw[<-fF];exact h
theorem aAg{σ:Type}(fin:Fault)(sep:aC)(one:σ->List Tok->Nat->Rd σ):∀(f:Nat) (a:σ) (l:List Unit) (w:List Tok) (n:Nat) (p:σ->List Tok->Nat->Prop) (b:Fault->Prop),
  (dO fin sep one f a w n).to p b ->
  (dO fin sep (λ(c:σ × List Unit) w n=>((one c.1 w n).bind λa w n=>Rd.ok (a,()) w n).bind λq w n=>.ok (q.1,c.2++[q.2]) w n) f (a,l) w n).to (λc w n=>p c.1 w n) b
 | 0,a,l,w,n,p,b,h=>h
 | f+1,a,l,w,n,p,b,h=>by
  simp only[dO,bH]at h⊢;refine aT h (λa w n h=>?_) (λ_ h=>h);simp only[bR]at h⊢;split
  .rename_i e;rw[aE e]at h;exact aAg fin sep one f a (l++[()]) w.tail n p b h
  .rename_i e;rw[aD e]at h;exact h
theorem aB3{σ α X:Type}(enc:α->A)(hz:∀a,(enc a).cells.length=6)(ho:∀a,fE (enc a).cells=true)
  {T:List Tok}{fin:Fault}{m:St}{r:Nat}{KV Kp:St->A->Prop}(hT:TOk T)
  (S:St->σ->X->Nat->Nat->St)(Q:St->σ->X->Nat->Prop)(one:σ->List Tok->Nat->Rd (σ × α))(f:FuncId)(first z:List A)
  (hr:∀(s:St) (a:σ) (x:X) (i n:Nat),∃d fi,(S s a x i n).getO r=some (aZ T fin d fi i n)/\((S s a x i n).setO r (aZ T fin d fi (i+1) n)).ge (S s a x (i+1) n))
  (h1:∀(s:St) (a:σ) (x:X) (i n:Nat) (t:Nat) (v:Nat × TypeId),Q s a x i->(S s a x i n).getT t=none->s.getT t=none/\Q (s.setT t v) a x i/\((S s a x i n).setT t v).ge (S (s.setT t v) a x i n))
  (h2:∀(s:St) (a:σ) (x:X) (i n:Nat) (t:Nat) (v u:Nat × TypeId),s.getT t=none->Q (s.setT t v) a x i->(S (s.setT t v) a x i n).getT t=some v/\Q (s.setT t u) a x i/\((S (s.setT t v) a x i n).setT t u).ge (S (s.setT t u) a x i n))
  (h3:∀(s:St) (a:σ) (x:X) (i n:Nat) (t:Nat) (v:Nat × TypeId),s.getT t=none->Q (s.setT t v) a x i->Q s a x i/\(S (s.setT t v) a x i n).ge (S s a x i n))
  (hi:∀(s:St) (a:σ) (x:X) (i:Nat),Q s a x i->Q s a x (i+1))
  (hg:∀(s:St) (a:σ) (x:X) (i n:Nat),Q s a x i->(S s a x i n).gx s r)
  (hf : ∀ (s : St) (a : σ) (x : X) (i n : Nat) (KV Kp : St → A → Prop),Q s a x i → i ≤ T.length → n ≤ 2000 → (one a (T.drop i) n).to (fun p w B => ∀ j y,i ≤ j → j ≤ T.length → T.drop j = w → B ≤ 2000 → Q s p.1 y j → KV (S s p.1 y j B) (enc p.2))
   (λf=>∀s1 o,s1.gx s r->s1.getO r=some o->Kp s1 (.iface 51 f.enc))->Den cx f (first++[]++z) KV Kp (S s a x i n))
  (a0:σ)(x0:X)(i0 Z:Nat)(hQ:Q m a0 x0 i0)(b0:i0<=T.length)(b3:Z<=2000)
  (hk : (dO fin [44] (fun (c : σ × List α) w n => (one c.1 w n).bind fun p w n => .ok (p.1,c.2 ++ [p.2]) w n) ((T.drop i0).length + 1) (a0,[]) (T.drop i0) Z).to
   (λc w n=>∀j y,i0<=j->j<=T.length->T.drop j=w->n<=2000->Q m c.1 y j->KV (S m c.1 y j n) (.list none (c.2.map enc)))
   (λf=>∀s1 o,s1.gx m r->s1.getO r=some o->Kp s1 (.iface 51 f.enc))):Den cx 191 [.ptr r 0,.fn f first z] KV Kp (S m a0 x0 i0 Z):=by
 (refine sH func191 [0,1,4,5,10] ?_;simp only[go_sem,ntmps191,f191]);have b1:=hT.len;rw[show(T.drop i0).length=T.length-i0 by rw[cS]]at hk;simp only[dO,bH]at hk;refine dC (hf m a0 x0 i0 Z _ _ hQ b0 b3 (aT hk (λp w B h=>?_) (λg h=>?_)))
 .intro j y hj H hw L F;simp only[bR,bP]at h;simp only[go_sem];refine .inr ⟨⟨hz _,ho _⟩,λt ht=>?_⟩;obtain⟨g1,g2,g3⟩:=h1 m p.1 y j B t (1,39) F ht
  refine Ex.loop (ι:=(σ × X × Nat × Nat) × List α) (λc=>[(0,.ptr r 0),(1,.fn f first z),(5,.list (some t) (c.2.map enc))])
   (λc=>S (m.setT t (c.2.length,39)) c.1.1 c.1.2.1 c.1.2.2.1 c.1.2.2.2)
   (fun c => Q (m.setT t (c.2.length,39)) c.1.1 c.1.2.1 c.1.2.2.1 ∧ i0 ≤ c.1.2.2.1 ∧ c.1.2.2.1 ≤ T.length ∧ c.1.2.2.2 ≤ 2000 ∧ c.2.length ≤ c.1.2.2.1 + 1 ∧ ∃ k,T.length - c.1.2.2.1 ≤ k ∧
    (if cJ [44] (T.drop c.1.2.2.1) = true then dO fin [44] (fun (c : σ × List α) w n => (one c.1 w n).bind fun p w n => .ok (p.1,c.2 ++ [p.2]) w n) k (c.1.1,c.2) (T.drop c.1.2.2.1).tail c.1.2.2.2
     else Rd.ok (c.1.1,c.2) (T.drop c.1.2.2.1) c.1.2.2.2).to
      (λc w n=>∀j y,i0<=j->j<=T.length->T.drop j=w->n<=2000->Q m c.1 y j->KV (S m c.1 y j n) (.list none (c.2.map enc)))
      (λf=>∀s1 o,s1.gx m r->s1.getO r=some o->Kp s1 (.iface 51 f.enc)))
   (λc=>T.length-c.1.2.2.1) ((p.1,y,j,B),[p.2]) ?_ ?_ ?_ ?_
  .refine⟨g2,hj,H,L,by simp only[aO,aU];omega,T.length-i0,aP,?_⟩;simp only[hw];exact h
  .simp only[go_sem]
  .exact g3
  .rintro⟨⟨a,x,i,n⟩,l⟩ ⟨q1,q2,q3,qn,q4,k,q5,O⟩;simp only at q1 q2 q3 qn q4 q5 O;obtain⟨d,fi,b4,b5⟩:=hr (m.setT t (l.length,39)) a x i n;refine bC (V:=[0,1,4,5,10]) _ _ _ _ ?_;simp only[go_sem];refine dC (gC _ b4 q3 hT ?_);cases hx:cJ [44] (T.drop i)with
   | false =>
    rw[hx]at O;simp only[cQ,cI,bR]at O;obtain⟨e1,e2⟩:=h3 m a x i n t (l.length,39) g1 q1;simp only[go_sem];exact DK.mk (O i x q2 q3 rfl qn e1) e2 (A.le.forget _ _)
   | true =>
    rw[hx]at O;have b2:=iI hx;obtain⟨k,rfl⟩:∃k',k=k'+1:=⟨k-1,by omega⟩
    simp only[cM,dO,bH,bR,jO]at O;simp only[go_sem];refine dC (fA b5 (hf (m.setT t (l.length,39)) a x (i+1) n _ _ (hi _ _ _ _ q1) b2 qn (aT O (λp w B h=>?_) (λg h=>?_))))
    .intro j y hj H hw L F;obtain⟨e1,e2,e3⟩:=h2 m p.1 y j B t (l.length,39) (l.length+1,39) g1 F;simp only[go_sem];refine .inl ⟨⟨hz _,ho _⟩,by decide,λq U=>?_,e1,λq U=>?_,by omega,((p.1,y,j,B),l++[p.2]),⟨?_,aP,H,L,?_,k,aP,?_⟩,aP,?_,?_⟩
     .simp only[cC]at U;subst U;exact hz _
     .simp only[cD]at U;obtain⟨q',_,rfl⟩:=U;exact hz _
     .simp only[aI,aO,aU];exact e2
     .simp only[aI,aO,aU];omega
     .simp only[hw];exact h
     .simp only[bY,bN,cP]
     .simp only[aI,aO,aU];exact e3
    .intro s1 o G M;simp only[go_sem];exact aN (h s1 o (G.dropT g1) M)
 .intro s1 o G M;exact aN (h s1 o G M)
theorem aD9{α:Type}(enc:α->A)(hz:∀a,(enc a).cells.length=6)(ho:∀a,fE (enc a).cells=true)
  {T:List Tok}{fin:Fault}{d:Dc}{fi:Tok}{O:St}{r:Nat}{KV Kp:St->A->Prop}(hT:TOk T)
  (Q:St->Prop)(L:∀(s:St) (t:Nat) (v:Nat × TypeId),Q (s.setT t v)↔Q s)(one:List Tok->Nat->Rd α)(f:FuncId)(first m:List A)
  (hf : ∀ (s : St) (i n : Nat) (KV Kp : St → A → Prop),Q s → i ≤ T.length → n ≤ 2000 → (one (T.drop i) n).to (fun a w n' => ∀ j,i ≤ j → j ≤ T.length → T.drop j = w → n' ≤ 2000 → KV (s.setO r (aZ T fin d fi j n')) (enc a))
   (λf=>∀s1 o,s1.gx s r->s1.getO r=some o->Kp s1 (.iface 51 f.enc))->Den cx f (first++[]++m) KV Kp (s.setO r (aZ T fin d fi i n)))
  (i0 G:Nat)(hQ:Q O)(S:i0<=T.length)(Z:G<=2000)
  (H : (nF fin (fun _ => one) [] (T.drop i0) G).to
   (λl w n=>∀j,i0<=j->j<=T.length->T.drop j=w->n<=2000->KV (O.setO r (aZ T fin d fi j n)) (.list none (l.map enc)))
   (λf=>∀s1 o,s1.gx O r->s1.getO r=some o->Kp s1 (.iface 51 f.enc))):Den cx 191 [.ptr r 0,.fn f first m] KV Kp (O.setO r (aZ T fin d fi i0 G)):=by
 refine aB3 (σ:=Unit) (X:=Unit) enc hz ho hT (λs _ _ i n=>s.setO r (aZ T fin d fi i n)) (λs _ _ _=>Q s) (λ_ w n=>(one w n).bind λa w n=>.ok ((),a) w n) f first m
  (λs _ _ i n=>⟨d,fi,by rw[aH,aE rfl],by rw[lW];exact aG _⟩) (λs _ _ i n t v h M=>⟨M,(L s t v).2 h,aG _⟩)
  (λs _ _ i n t v u M h=>⟨?_,(L s t u).2 ((L s t v).1 h),?_⟩) (λs _ _ i n t v M h=>⟨(L s t v).1 h,?_⟩) (λs _ _ i h=>h) (λs _ _ i n h=>dM (dX s r)) (λs _ _ i n KV Kp h hi hn H=>?_) () () i0 G hQ S Z ?_
 .show(s.setT t v).getT t=some v;rw[cF,aE rfl]
 .show(((s.setT t v).setT t u).setO r _).ge ((s.setT t u).setO r _);exact mT (zR s t v u)
 .exact mT (zU M)
 .refine hf s i n KV Kp h hi hn ?_;rw[bH]at H;refine aT H (λa w n' F j U z hw B=>?_) (λ_ F=>F);exact F j () U z hw B h
 .have:=aAb fin [44] one ((T.drop i0).length+1) [] [] (T.drop i0) G _ _ H;refine aT this (λc w n h j y U z hw B b0=>?_) (λ_ F=>F);have h':=h j U z hw B;simpa only[bP]using h'
theorem aI9{σ α X:Type}(enc:α->A)(hz:∀a,(enc a).cells.length=1)(ho:∀a,fE (enc a).cells=true)
  {T:List Tok}{fin:Fault}{m:St}{r:Nat}{KV Kp:St->A->Prop}(hT:TOk T)
  (S:St->σ->X->Nat->Nat->St)(Q:St->σ->X->Nat->Prop)(one:σ->List Tok->Nat->Rd (σ × α))(f:FuncId)(first z:List A)
  (hr:∀(s:St) (a:σ) (x:X) (i n:Nat),∃d fi,(S s a x i n).getO r=some (aZ T fin d fi i n)/\((S s a x i n).setO r (aZ T fin d fi (i+1) n)).ge (S s a x (i+1) n))
  (h1:∀(s:St) (a:σ) (x:X) (i n:Nat) (t:Nat) (v:Nat × TypeId),Q s a x i->(S s a x i n).getT t=none->s.getT t=none/\Q (s.setT t v) a x i/\((S s a x i n).setT t v).ge (S (s.setT t v) a x i n))
  (h2:∀(s:St) (a:σ) (x:X) (i n:Nat) (t:Nat) (v u:Nat × TypeId),s.getT t=none->Q (s.setT t v) a x i->(S (s.setT t v) a x i n).getT t=some v/\Q (s.setT t u) a x i/\((S (s.setT t v) a x i n).setT t u).ge (S (s.setT t u) a x i n))
  (h3:∀(s:St) (a:σ) (x:X) (i n:Nat) (t:Nat) (v:Nat × TypeId),s.getT t=none->Q (s.setT t v) a x i->Q s a x i/\(S (s.setT t v) a x i n).ge (S s a x i n))
  (hi:∀(s:St) (a:σ) (x:X) (i:Nat),Q s a x i->Q s a x (i+1))
  (hg:∀(s:St) (a:σ) (x:X) (i n:Nat),Q s a x i->(S s a x i n).gx s r)
  (hf : ∀ (s : St) (a : σ) (x : X) (i n : Nat) (KV Kp : St → A → Prop),Q s a x i → i ≤ T.length → n ≤ 2000 → (one a (T.drop i) n).to (fun p w B => ∀ j y,i ≤ j → j ≤ T.length → T.drop j = w → B ≤ 2000 → Q s p.1 y j → KV (S s p.1 y j B) (enc p.2))
   (λf=>∀s1 o,s1.gx s r->s1.getO r=some o->Kp s1 (.iface 51 f.enc))->Den cx f (first++[]++z) KV Kp (S s a x i n))
  (a0:σ)(x0:X)(i0 Z:Nat)(hQ:Q m a0 x0 i0)(b0:i0<=T.length)(b3:Z<=2000)
  (hk : (dO fin [44] (fun (c : σ × List α) w n => (one c.1 w n).bind fun p w n => .ok (p.1,c.2 ++ [p.2]) w n) ((T.drop i0).length + 1) (a0,[]) (T.drop i0) Z).to
   (λc w n=>∀j y,i0<=j->j<=T.length->T.drop j=w->n<=2000->Q m c.1 y j->KV (S m c.1 y j n) (.list none (c.2.map enc)))
   (λf=>∀s1 o,s1.gx m r->s1.getO r=some o->Kp s1 (.iface 51 f.enc))):Den cx 158 [.ptr r 0,.fn f first z] KV Kp (S m a0 x0 i0 Z):=by
 (refine sH func158 [0,1,4,5,10] ?_;simp only[go_sem,ntmps158,f158]);have b1:=hT.len;rw[show(T.drop i0).length=T.length-i0 by rw[cS]]at hk;simp only[dO,bH]at hk;refine dC (hf m a0 x0 i0 Z _ _ hQ b0 b3 (aT hk (λp w B h=>?_) (λg h=>?_)))
 .intro j y hj H hw L F;simp only[bR,bP]at h;simp only[go_sem];refine .inr ⟨⟨hz _,ho _⟩,λt ht=>?_⟩;obtain⟨g1,g2,g3⟩:=h1 m p.1 y j B t (1,9) F ht
  refine Ex.loop (ι:=(σ × X × Nat × Nat) × List α) (λc=>[(0,.ptr r 0),(1,.fn f first z),(5,.list (some t) (c.2.map enc))])
   (λc=>S (m.setT t (c.2.length,9)) c.1.1 c.1.2.1 c.1.2.2.1 c.1.2.2.2)
   (fun c => Q (m.setT t (c.2.length,9)) c.1.1 c.1.2.1 c.1.2.2.1 ∧ i0 ≤ c.1.2.2.1 ∧ c.1.2.2.1 ≤ T.length ∧ c.1.2.2.2 ≤ 2000 ∧ c.2.length ≤ c.1.2.2.1 + 1 ∧ ∃ k,T.length - c.1.2.2.1 ≤ k ∧
    (if cJ [44] (T.drop c.1.2.2.1) = true then dO fin [44] (fun (c : σ × List α) w n => (one c.1 w n).bind fun p w n => .ok (p.1,c.2 ++ [p.2]) w n) k (c.1.1,c.2) (T.drop c.1.2.2.1).tail c.1.2.2.2
     else Rd.ok (c.1.1,c.2) (T.drop c.1.2.2.1) c.1.2.2.2).to
      (λc w n=>∀j y,i0<=j->j<=T.length->T.drop j=w->n<=2000->Q m c.1 y j->KV (S m c.1 y j n) (.list none (c.2.map enc)))
      (λf=>∀s1 o,s1.gx m r->s1.getO r=some o->Kp s1 (.iface 51 f.enc)))
   (λc=>T.length-c.1.2.2.1) ((p.1,y,j,B),[p.2]) ?_ ?_ ?_ ?_
  .refine⟨g2,hj,H,L,by simp only[aO,aU];omega,T.length-i0,aP,?_⟩;simp only[hw];exact h
  .simp only[go_sem]
  .exact g3
  .rintro⟨⟨a,x,i,n⟩,l⟩ ⟨q1,q2,q3,qn,q4,k,q5,O⟩;simp only at q1 q2 q3 qn q4 q5 O;obtain⟨d,fi,b4,b5⟩:=hr (m.setT t (l.length,9)) a x i n;refine bC (V:=[0,1,4,5,10]) _ _ _ _ ?_;simp only[go_sem];refine dC (gC _ b4 q3 hT ?_);cases hx:cJ [44] (T.drop i)with
   | false =>
    rw[hx]at O;simp only[cQ,cI,bR]at O;obtain⟨e1,e2⟩:=h3 m a x i n t (l.length,9) g1 q1;simp only[go_sem];exact DK.mk (O i x q2 q3 rfl qn e1) e2 (A.le.forget _ _)
   | true =>
    rw[hx]at O;have b2:=iI hx;obtain⟨k,rfl⟩:∃k',k=k'+1:=⟨k-1,by omega⟩
    simp only[cM,dO,bH,bR,jO]at O;simp only[go_sem];refine dC (fA b5 (hf (m.setT t (l.length,9)) a x (i+1) n _ _ (hi _ _ _ _ q1) b2 qn (aT O (λp w B h=>?_) (λg h=>?_))))
    .intro j y hj H hw L F;obtain⟨e1,e2,e3⟩:=h2 m p.1 y j B t (l.length,9) (l.length+1,9) g1 F;simp only[go_sem];refine .inl ⟨⟨hz _,ho _⟩,by decide,λq U=>?_,e1,λq U=>?_,by omega,((p.1,y,j,B),l++[p.2]),⟨?_,aP,H,L,?_,k,aP,?_⟩,aP,?_,?_⟩
     .simp only[cC]at U;subst U;exact hz _
     .simp only[cD]at U;obtain⟨q',_,rfl⟩:=U;exact hz _
     .simp only[aI,aO,aU];exact e2
     .simp only[aI,aO,aU];omega
     .simp only[hw];exact h
     .simp only[bY,bN,cP]
     .simp only[aI,aO,aU];exact e3
    .intro s1 o G M;simp only[go_sem];exact aN (h s1 o (G.dropT g1) M)
 .intro s1 o G M;exact aN (h s1 o G M)
theorem aID{α:Type}(enc:α->A)(hz:∀a,(enc a).cells.length=1)(ho:∀a,fE (enc a).cells=true)
  {T:List Tok}{fin:Fault}{d:Dc}{fi:Tok}{O:St}{r:Nat}{KV Kp:St->A->Prop}(hT:TOk T)
  (Q:St->Prop)(L:∀(s:St) (t:Nat) (v:Nat × TypeId),Q (s.setT t v)↔Q s)(one:List Tok->Nat->Rd α)(f:FuncId)(first m:List A)
  (hf : ∀ (s : St) (i n : Nat) (KV Kp : St → A → Prop),Q s → i ≤ T.length → n ≤ 2000 → (one (T.drop i) n).to (fun a w n' => ∀ j,i ≤ j → j ≤ T.length → T.drop j = w → n' ≤ 2000 → KV (s.setO r (aZ T fin d fi j n')) (enc a))
   (λf=>∀s1 o,s1.gx s r->s1.getO r=some o->Kp s1 (.iface 51 f.enc))->Den cx f (first++[]++m) KV Kp (s.setO r (aZ T fin d fi i n)))
  (i0 G:Nat)(hQ:Q O)(S:i0<=T.length)(Z:G<=2000)
  (H : (nF fin (fun _ => one) [] (T.drop i0) G).to
   (λl w n=>∀j,i0<=j->j<=T.length->T.drop j=w->n<=2000->KV (O.setO r (aZ T fin d fi j n)) (.list none (l.map enc)))
   (λf=>∀s1 o,s1.gx O r->s1.getO r=some o->Kp s1 (.iface 51 f.enc))):Den cx 158 [.ptr r 0,.fn f first m] KV Kp (O.setO r (aZ T fin d fi i0 G)):=by
 refine aI9 (σ:=Unit) (X:=Unit) enc hz ho hT (λs _ _ i n=>s.setO r (aZ T fin d fi i n)) (λs _ _ _=>Q s) (λ_ w n=>(one w n).bind λa w n=>.ok ((),a) w n) f first m
  (λs _ _ i n=>⟨d,fi,by rw[aH,aE rfl],by rw[lW];exact aG _⟩) (λs _ _ i n t v h M=>⟨M,(L s t v).2 h,aG _⟩)
  (λs _ _ i n t v u M h=>⟨?_,(L s t u).2 ((L s t v).1 h),?_⟩) (λs _ _ i n t v M h=>⟨(L s t v).1 h,?_⟩) (λs _ _ i h=>h) (λs _ _ i n h=>dM (dX s r)) (λs _ _ i n KV Kp h hi hn H=>?_) () () i0 G hQ S Z ?_
 .show(s.setT t v).getT t=some v;rw[cF,aE rfl]
 .show(((s.setT t v).setT t u).setO r _).ge ((s.setT t u).setO r _);exact mT (zR s t v u)
 .exact mT (zU M)
 .refine hf s i n KV Kp h hi hn ?_;rw[bH]at H;refine aT H (λa w n' F j U z hw B=>?_) (λ_ F=>F);exact F j () U z hw B h
 .have:=aAb fin [44] one ((T.drop i0).length+1) [] [] (T.drop i0) G _ _ H;refine aT this (λc w n h j y U z hw B b0=>?_) (λ_ F=>F);have h':=h j U z hw B;simpa only[bP]using h'
theorem aB2{σ α X:Type}(enc:α->A)(hz:∀a,(enc a).cells.length=1)(ho:∀a,fE (enc a).cells=true)
  {T:List Tok}{fin:Fault}{m:St}{r:Nat}{KV Kp:St->A->Prop}(hT:TOk T)
  (S:St->σ->X->Nat->Nat->St)(Q:St->σ->X->Nat->Prop)(one:σ->List Tok->Nat->Rd (σ × α))(f:FuncId)(first z:List A)
  (hr:∀(s:St) (a:σ) (x:X) (i n:Nat),∃d fi,(S s a x i n).getO r=some (aZ T fin d fi i n)/\((S s a x i n).setO r (aZ T fin d fi (i+1) n)).ge (S s a x (i+1) n))
  (h1:∀(s:St) (a:σ) (x:X) (i n:Nat) (t:Nat) (v:Nat × TypeId),Q s a x i->(S s a x i n).getT t=none->s.getT t=none/\Q (s.setT t v) a x i/\((S s a x i n).setT t v).ge (S (s.setT t v) a x i n))
  (h2:∀(s:St) (a:σ) (x:X) (i n:Nat) (t:Nat) (v u:Nat × TypeId),s.getT t=none->Q (s.setT t v) a x i->(S (s.setT t v) a x i n).getT t=some v/\Q (s.setT t u) a x i/\((S (s.setT t v) a x i n).setT t u).ge (S (s.setT t u) a x i n))
  (h3:∀(s:St) (a:σ) (x:X) (i n:Nat) (t:Nat) (v:Nat × TypeId),s.getT t=none->Q (s.setT t v) a x i->Q s a x i/\(S (s.setT t v) a x i n).ge (S s a x i n))
  (hi:∀(s:St) (a:σ) (x:X) (i:Nat),Q s a x i->Q s a x (i+1))
  (hg:∀(s:St) (a:σ) (x:X) (i n:Nat),Q s a x i->(S s a x i n).gx s r)
  (hf : ∀ (s : St) (a : σ) (x : X) (i n : Nat) (KV Kp : St → A → Prop),Q s a x i → i ≤ T.length → n ≤ 2000 → (one a (T.drop i) n).to (fun p w B => ∀ j y,i ≤ j → j ≤ T.length → T.drop j = w → B ≤ 2000 → Q s p.1 y j → KV (S s p.1 y j B) (enc p.2))
   (λf=>∀s1 o,s1.gx s r->s1.getO r=some o->Kp s1 (.iface 51 f.enc))->Den cx f (first++[]++z) KV Kp (S s a x i n))
  (a0:σ)(x0:X)(i0 Z:Nat)(hQ:Q m a0 x0 i0)(b0:i0<=T.length)(b3:Z<=2000)
  (hk : (dO fin [44] (fun (c : σ × List α) w n => (one c.1 w n).bind fun p w n => .ok (p.1,c.2 ++ [p.2]) w n) ((T.drop i0).length + 1) (a0,[]) (T.drop i0) Z).to
   (λc w n=>∀j y,i0<=j->j<=T.length->T.drop j=w->n<=2000->Q m c.1 y j->KV (S m c.1 y j n) (.list none (c.2.map enc)))
   (λf=>∀s1 o,s1.gx m r->s1.getO r=some o->Kp s1 (.iface 51 f.enc))):Den cx 154 [.ptr r 0,.fn f first z] KV Kp (S m a0 x0 i0 Z):=by
 (refine sH func154 [0,1,4,5,10] ?_;simp only[go_sem,ntmps154,f154]);have b1:=hT.len;rw[show(T.drop i0).length=T.length-i0 by rw[cS]]at hk;simp only[dO,bH]at hk;refine dC (hf m a0 x0 i0 Z _ _ hQ b0 b3 (aT hk (λp w B h=>?_) (λg h=>?_)))
 .intro j y hj H hw L F;simp only[bR,bP]at h;simp only[go_sem];refine .inr ⟨⟨hz _,ho _⟩,λt ht=>?_⟩;obtain⟨g1,g2,g3⟩:=h1 m p.1 y j B t (1,4) F ht
  refine Ex.loop (ι:=(σ × X × Nat × Nat) × List α) (λc=>[(0,.ptr r 0),(1,.fn f first z),(5,.list (some t) (c.2.map enc))])
   (λc=>S (m.setT t (c.2.length,4)) c.1.1 c.1.2.1 c.1.2.2.1 c.1.2.2.2)
   (fun c => Q (m.setT t (c.2.length,4)) c.1.1 c.1.2.1 c.1.2.2.1 ∧ i0 ≤ c.1.2.2.1 ∧ c.1.2.2.1 ≤ T.length ∧ c.1.2.2.2 ≤ 2000 ∧ c.2.length ≤ c.1.2.2.1 + 1 ∧ ∃ k,T.length - c.1.2.2.1 ≤ k ∧
    (if cJ [44] (T.drop c.1.2.2.1) = true then dO fin [44] (fun (c : σ × List α) w n => (one c.1 w n).bind fun p w n => .ok (p.1,c.2 ++ [p.2]) w n) k (c.1.1,c.2) (T.drop c.1.2.2.1).tail c.1.2.2.2
     else Rd.ok (c.1.1,c.2) (T.drop c.1.2.2.1) c.1.2.2.2).to
      (λc w n=>∀j y,i0<=j->j<=T.length->T.drop j=w->n<=2000->Q m c.1 y j->KV (S m c.1 y j n) (.list none (c.2.map enc)))
      (λf=>∀s1 o,s1.gx m r->s1.getO r=some o->Kp s1 (.iface 51 f.enc)))
   (λc=>T.length-c.1.2.2.1) ((p.1,y,j,B),[p.2]) ?_ ?_ ?_ ?_
  .refine⟨g2,hj,H,L,by simp only[aO,aU];omega,T.length-i0,aP,?_⟩;simp only[hw];exact h
  .simp only[go_sem]
  .exact g3
  .rintro⟨⟨a,x,i,n⟩,l⟩ ⟨q1,q2,q3,qn,q4,k,q5,O⟩;simp only at q1 q2 q3 qn q4 q5 O;obtain⟨d,fi,b4,b5⟩:=hr (m.setT t (l.length,4)) a x i n;refine bC (V:=[0,1,4,5,10]) _ _ _ _ ?_;simp only[go_sem];refine dC (gC _ b4 q3 hT ?_);cases hx:cJ [44] (T.drop i)with
   | false =>
    rw[hx]at O;simp only[cQ,cI,bR]at O;obtain⟨e1,e2⟩:=h3 m a x i n t (l.length,4) g1 q1;simp only[go_sem];exact DK.mk (O i x q2 q3 rfl qn e1) e2 (A.le.forget _ _)
   | true =>
    rw[hx]at O;have b2:=iI hx;obtain⟨k,rfl⟩:∃k',k=k'+1:=⟨k-1,by omega⟩
    simp only[cM,dO,bH,bR,jO]at O;simp only[go_sem];refine dC (fA b5 (hf (m.setT t (l.length,4)) a x (i+1) n _ _ (hi _ _ _ _ q1) b2 qn (aT O (λp w B h=>?_) (λg h=>?_))))
    .intro j y hj H hw L F;obtain⟨e1,e2,e3⟩:=h2 m p.1 y j B t (l.length,4) (l.length+1,4) g1 F;simp only[go_sem];refine .inl ⟨⟨hz _,ho _⟩,by decide,λq U=>?_,e1,λq U=>?_,by omega,((p.1,y,j,B),l++[p.2]),⟨?_,aP,H,L,?_,k,aP,?_⟩,aP,?_,?_⟩
     .simp only[cC]at U;subst U;exact hz _
     .simp only[cD]at U;obtain⟨q',_,rfl⟩:=U;exact hz _
     .simp only[aI,aO,aU];exact e2
     .simp only[aI,aO,aU];omega
     .simp only[hw];exact h
     .simp only[bY,bN,cP]
     .simp only[aI,aO,aU];exact e3
    .intro s1 o G M;simp only[go_sem];exact aN (h s1 o (G.dropT g1) M)
 .intro s1 o G M;exact aN (h s1 o G M)
theorem aI8{σ α X:Type}(enc:α->A)(hz:∀a,(enc a).cells.length=1)(ho:∀a,fE (enc a).cells=true)
  {T:List Tok}{fin:Fault}{m:St}{r:Nat}{KV Kp:St->A->Prop}(hT:TOk T)
  (S:St->σ->X->Nat->Nat->St)(Q:St->σ->X->Nat->Prop)(one:σ->List Tok->Nat->Rd (σ × α))(f:FuncId)(first z:List A)
  (hr:∀(s:St) (a:σ) (x:X) (i n:Nat),∃d fi,(S s a x i n).getO r=some (aZ T fin d fi i n)/\((S s a x i n).setO r (aZ T fin d fi (i+1) n)).ge (S s a x (i+1) n))
  (h1:∀(s:St) (a:σ) (x:X) (i n:Nat) (t:Nat) (v:Nat × TypeId),Q s a x i->(S s a x i n).getT t=none->s.getT t=none/\Q (s.setT t v) a x i/\((S s a x i n).setT t v).ge (S (s.setT t v) a x i n))
  (h2:∀(s:St) (a:σ) (x:X) (i n:Nat) (t:Nat) (v u:Nat × TypeId),s.getT t=none->Q (s.setT t v) a x i->(S (s.setT t v) a x i n).getT t=some v/\Q (s.setT t u) a x i/\((S (s.setT t v) a x i n).setT t u).ge (S (s.setT t u) a x i n))
  (h3:∀(s:St) (a:σ) (x:X) (i n:Nat) (t:Nat) (v:Nat × TypeId),s.getT t=none->Q (s.setT t v) a x i->Q s a x i/\(S (s.setT t v) a x i n).ge (S s a x i n))
  (hi:∀(s:St) (a:σ) (x:X) (i:Nat),Q s a x i->Q s a x (i+1))
  (hg:∀(s:St) (a:σ) (x:X) (i n:Nat),Q s a x i->(S s a x i n).gx s r)
  (hf : ∀ (s : St) (a : σ) (x : X) (i n : Nat) (KV Kp : St → A → Prop),Q s a x i → i ≤ T.length → n ≤ 2000 → (one a (T.drop i) n).to (fun p w B => ∀ j y,i ≤ j → j ≤ T.length → T.drop j = w → B ≤ 2000 → Q s p.1 y j → KV (S s p.1 y j B) (enc p.2))
   (λf=>∀s1 o,s1.gx s r->s1.getO r=some o->Kp s1 (.iface 51 f.enc))->Den cx f (first++[]++z) KV Kp (S s a x i n))
  (a0:σ)(x0:X)(i0 Z:Nat)(hQ:Q m a0 x0 i0)(b0:i0<=T.length)(b3:Z<=2000)
  (hk : (dO fin [44] (fun (c : σ × List α) w n => (one c.1 w n).bind fun p w n => .ok (p.1,c.2 ++ [p.2]) w n) ((T.drop i0).length + 1) (a0,[]) (T.drop i0) Z).to
   (λc w n=>∀j y,i0<=j->j<=T.length->T.drop j=w->n<=2000->Q m c.1 y j->KV (S m c.1 y j n) (.list none (c.2.map enc)))
   (λf=>∀s1 o,s1.gx m r->s1.getO r=some o->Kp s1 (.iface 51 f.enc))):Den cx 207 [.ptr r 0,.fn f first z] KV Kp (S m a0 x0 i0 Z):=by
 (refine sH func207 [0,1,4,5,10] ?_;simp only[go_sem,ntmps207,f207]);have b1:=hT.len;rw[show(T.drop i0).length=T.length-i0 by rw[cS]]at hk;simp only[dO,bH]at hk;refine dC (hf m a0 x0 i0 Z _ _ hQ b0 b3 (aT hk (λp w B h=>?_) (λg h=>?_)))
 .intro j y hj H hw L F;simp only[bR,bP]at h;simp only[go_sem];refine .inr ⟨⟨hz _,ho _⟩,λt ht=>?_⟩;obtain⟨g1,g2,g3⟩:=h1 m p.1 y j B t (1,3) F ht
  refine Ex.loop (ι:=(σ × X × Nat × Nat) × List α) (λc=>[(0,.ptr r 0),(1,.fn f first z),(5,.list (some t) (c.2.map enc))])
   (λc=>S (m.setT t (c.2.length,3)) c.1.1 c.1.2.1 c.1.2.2.1 c.1.2.2.2)
   (fun c => Q (m.setT t (c.2.length,3)) c.1.1 c.1.2.1 c.1.2.2.1 ∧ i0 ≤ c.1.2.2.1 ∧ c.1.2.2.1 ≤ T.length ∧ c.1.2.2.2 ≤ 2000 ∧ c.2.length ≤ c.1.2.2.1 + 1 ∧ ∃ k,T.length - c.1.2.2.1 ≤ k ∧
    (if cJ [44] (T.drop c.1.2.2.1) = true then dO fin [44] (fun (c : σ × List α) w n => (one c.1 w n).bind fun p w n => .ok (p.1,c.2 ++ [p.2]) w n) k (c.1.1,c.2) (T.drop c.1.2.2.1).tail c.1.2.2.2
     else Rd.ok (c.1.1,c.2) (T.drop c.1.2.2.1) c.1.2.2.2).to
      (λc w n=>∀j y,i0<=j->j<=T.length->T.drop j=w->n<=2000->Q m c.1 y j->KV (S m c.1 y j n) (.list none (c.2.map enc)))
      (λf=>∀s1 o,s1.gx m r->s1.getO r=some o->Kp s1 (.iface 51 f.enc)))
   (λc=>T.length-c.1.2.2.1) ((p.1,y,j,B),[p.2]) ?_ ?_ ?_ ?_
  .refine⟨g2,hj,H,L,by simp only[aO,aU];omega,T.length-i0,aP,?_⟩;simp only[hw];exact h
  .simp only[go_sem]
  .exact g3
  .rintro⟨⟨a,x,i,n⟩,l⟩ ⟨q1,q2,q3,qn,q4,k,q5,O⟩;simp only at q1 q2 q3 qn q4 q5 O;obtain⟨d,fi,b4,b5⟩:=hr (m.setT t (l.length,3)) a x i n;refine bC (V:=[0,1,4,5,10]) _ _ _ _ ?_;simp only[go_sem];refine dC (gC _ b4 q3 hT ?_);cases hx:cJ [44] (T.drop i)with
   | false =>
    rw[hx]at O;simp only[cQ,cI,bR]at O;obtain⟨e1,e2⟩:=h3 m a x i n t (l.length,3) g1 q1;simp only[go_sem];exact DK.mk (O i x q2 q3 rfl qn e1) e2 (A.le.forget _ _)
   | true =>
    rw[hx]at O;have b2:=iI hx;obtain⟨k,rfl⟩:∃k',k=k'+1:=⟨k-1,by omega⟩
    simp only[cM,dO,bH,bR,jO]at O;simp only[go_sem];refine dC (fA b5 (hf (m.setT t (l.length,3)) a x (i+1) n _ _ (hi _ _ _ _ q1) b2 qn (aT O (λp w B h=>?_) (λg h=>?_))))
    .intro j y hj H hw L F;obtain⟨e1,e2,e3⟩:=h2 m p.1 y j B t (l.length,3) (l.length+1,3) g1 F;simp only[go_sem];refine .inl ⟨⟨hz _,ho _⟩,by decide,λq U=>?_,e1,λq U=>?_,by omega,((p.1,y,j,B),l++[p.2]),⟨?_,aP,H,L,?_,k,aP,?_⟩,aP,?_,?_⟩
     .simp only[cC]at U;subst U;exact hz _
     .simp only[cD]at U;obtain⟨q',_,rfl⟩:=U;exact hz _
     .simp only[aI,aO,aU];exact e2
     .simp only[aI,aO,aU];omega
     .simp only[hw];exact h
     .simp only[bY,bN,cP]
     .simp only[aI,aO,aU];exact e3
    .intro s1 o G M;simp only[go_sem];exact aN (h s1 o (G.dropT g1) M)
 .intro s1 o G M;exact aN (h s1 o G M)
theorem aIC{α:Type}(enc:α->A)(hz:∀a,(enc a).cells.length=1)(ho:∀a,fE (enc a).cells=true)
  {T:List Tok}{fin:Fault}{d:Dc}{fi:Tok}{O:St}{r:Nat}{KV Kp:St->A->Prop}(hT:TOk T)
  (Q:St->Prop)(L:∀(s:St) (t:Nat) (v:Nat × TypeId),Q (s.setT t v)↔Q s)(one:List Tok->Nat->Rd α)(f:FuncId)(first m:List A)
  (hf : ∀ (s : St) (i n : Nat) (KV Kp : St → A → Prop),Q s → i ≤ T.length → n ≤ 2000 → (one (T.drop i) n).to (fun a w n' => ∀ j,i ≤ j → j ≤ T.length → T.drop j = w → n' ≤ 2000 → KV (s.setO r (aZ T fin d fi j n')) (enc a))
   (λf=>∀s1 o,s1.gx s r->s1.getO r=some o->Kp s1 (.iface 51 f.enc))->Den cx f (first++[]++m) KV Kp (s.setO r (aZ T fin d fi i n)))
  (i0 G:Nat)(hQ:Q O)(S:i0<=T.length)(Z:G<=2000)
  (H : (nF fin (fun _ => one) [] (T.drop i0) G).to
   (λl w n=>∀j,i0<=j->j<=T.length->T.drop j=w->n<=2000->KV (O.setO r (aZ T fin d fi j n)) (.list none (l.map enc)))
   (λf=>∀s1 o,s1.gx O r->s1.getO r=some o->Kp s1 (.iface 51 f.enc))):Den cx 207 [.ptr r 0,.fn f first m] KV Kp (O.setO r (aZ T fin d fi i0 G)):=by
 refine aI8 (σ:=Unit) (X:=Unit) enc hz ho hT (λs _ _ i n=>s.setO r (aZ T fin d fi i n)) (λs _ _ _=>Q s) (λ_ w n=>(one w n).bind λa w n=>.ok ((),a) w n) f first m
  (λs _ _ i n=>⟨d,fi,by rw[aH,aE rfl],by rw[lW];exact aG _⟩) (λs _ _ i n t v h M=>⟨M,(L s t v).2 h,aG _⟩)
  (λs _ _ i n t v u M h=>⟨?_,(L s t u).2 ((L s t v).1 h),?_⟩) (λs _ _ i n t v M h=>⟨(L s t v).1 h,?_⟩) (λs _ _ i h=>h) (λs _ _ i n h=>dM (dX s r)) (λs _ _ i n KV Kp h hi hn H=>?_) () () i0 G hQ S Z ?_
 .show(s.setT t v).getT t=some v;rw[cF,aE rfl]
 .show(((s.setT t v).setT t u).setO r _).ge ((s.setT t u).setO r _);exact mT (zR s t v u)
 .exact mT (zU M)
 .refine hf s i n KV Kp h hi hn ?_;rw[bH]at H;refine aT H (λa w n' F j U z hw B=>?_) (λ_ F=>F);exact F j () U z hw B h
 .have:=aAb fin [44] one ((T.drop i0).length+1) [] [] (T.drop i0) G _ _ H;refine aT this (λc w n h j y U z hw B b0=>?_) (λ_ F=>F);have h':=h j U z hw B;simpa only[bP]using h'
theorem aA4{α:Type}{enc:α->A}{T:List Tok}{fin:Fault}{d:Dc}{fi:Tok}{r:Nat}{Q:St->Prop}{one:List Tok->Nat->Rd α}{f:FuncId}{args:List A}(y:∀(s:St) (o:Ob),Q s->Q (s.setO r o))
  (h:∀(s:St) (i n:Nat) (KV Kp:St->A->Prop),s.getO r=some (aZ T fin d fi i n)->Q s->i<=T.length->n<=2000->(one (T.drop i) n).to (PK T i (λj m=>s.setO r (aZ T fin d fi j m)) enc KV) (PB s r Kp)->Den cx f args KV Kp s) :
  ∀(s:St) (i n:Nat) (KV Kp:St->A->Prop),Q s->i<=T.length->n<=2000->(one (T.drop i) n).to (λa w B=>∀j,i<=j->j<=T.length->T.drop j=w->B<=2000->KV (s.setO r (aZ T fin d fi j B)) (enc a))
   (λf=>∀s1 o,s1.gx s r->s1.getO r=some o->Kp s1 (.iface 51 f.enc))->Den cx f args KV Kp (s.setO r (aZ T fin d fi i n)):=by
 intro s i n KV Kp F G O L;refine h (s.setO r _) i n KV Kp (by rw[aH,aE rfl]) (y s _ F) G O (aT L (λa w m h j H z S M=>?_) (λf h o=>?_))
 .simp only[lW];exact h j H z S M
 .exact h _ o (dM (dM (dX s r))) (by rw[aH,aE rfl])
section
theorem aGs(s:St)(x:aC)(KV Kp)(m:KV s (.bool (sE x))):Den cx 173 [.str x] KV Kp s:=by
 (refine aL func173 [0,2] ?_;simp only[go_sem,ntmps173,f173]);refine oX _ _ _ _ ?_;simp only[go_sem];cases z:dT x with
 | false =>
  simp only[go_sem];rw[show sE x=false by simp[sE,z]]at m;exact aN m
 | true =>
  cases x with
  | nil=>simp[dT]at z
  | cons c r =>
   have y:decide ((97:Int)<=(c.toNat:Int))=decide (97<=c.toNat):=by rw[cW];omega
   have h:decide ((c.toNat:Int)<=122)=decide (c.toNat<=122):=by rw[cW];omega
   rw[show sE (c::r)=((decide (97<=c.toNat)&&decide (c.toNat<=122))&&!decide (c::r=[116,114,117,101])&&!decide (c::r=[102,97,108,115,101]))by simp[sE,z]]at m;cases B:decide (97<=c.toNat)<;>cases F:decide (c.toNat<=122)<;>cases G:decide (c::r=[116,114,117,101])<;>cases H:decide (c::r=[102,97,108,115,101])<;>simp only[go_sem,y,h,B,F,G,H]
   all_goals (rw[B,F,G,H]at m;exact aN m)
section
variable {T:List Tok} {fin:Fault} {d:Dc} {first:Tok} {i n:Nat} {s:St} {r:Nat} {KV Kp:St->A->Prop}
theorem PB.mk{s1:St}{f:Fault}(m:s1.gx s r)(h:PB s r Kp f):PB s1 r (DK Kp) f:=λo=>h.at (dM m) (by rw[aH,aE rfl])
theorem uX(z:Nat)(sort:aC)(hr:s.getO r=some (aZ T fin d first i n))(hi:i<=T.length)(U:TOk T)(hn:n<=2000)
  (y:(vP fin first (decide (z=60)) sort (T.drop i) n).to (PK T i (λj m=>s.setO r (aZ T fin d first j m)) (λl=>.list none (l.map Tm.enc)) KV) (PB s r Kp)) :
  Den cx 228 [.ptr r 0,.int .i64 z,.str sort] KV Kp s:=by
 (refine aL func228 [0,1,2,6,7,8,11,17] ?_;simp only[go_sem,ntmps228,f228]);refine gC _ hr hi U ?_;cases S:cJ [124] (T.drop i)with
 | false =>
  simp only[vP,S,cQ,cI,bR]at y;simp only[go_sem];exact DK.mk (y i (bL _) hi rfl hn) (qE hr) A.le.nil
 | true =>
  have M:=iI S;simp only[vP,S,cM,jO]at y;simp only[go_sem];have B:(s.setO r (aZ T fin d first (i+1) n)).getO r=some (aZ T fin d first (i+1) n):=by rw[aH,aE rfl]
  refine gS B M ?_;cases H:T.drop (i+1)with
  | nil=>rw[H]at y;exact PB.at y aR B
  | cons t w =>
   rw[H]at y;obtain⟨h1,h2,h3,h4⟩:=iR H;simp only at y;simp only[go_sem];(refine aM λb G=>?_);have O:((s.setO r (aZ T fin d first (i+1) n)).setO b (.cells 173 t.cs)).getO r=some (aZ T fin d first (i+1) n):=by rw[aH,aD (Ne.symm G.1.1),B]
   simp only[go_sem,G];refine fN O (Nat.le_of_lt h2) U ?_;rw[H];simp only[eH];cases hf:t.free with
   | false =>
    rw[hf]at y;simp only[cQ,cI,dE]at y⊢;exact PB.mk aR y
   | true =>
    rw[hf]at y;simp only[cM,bR]at y⊢;intro L F _;simp only[go_sem];have ed:decide ((z:Int)=60)=decide (z=60):=by rw[cW];omega
    simp only[go_sem,ed];cases Z:decide (z=60)with
    | true =>
     rw[Z]at y;simp only[cM,dE]at y;simp only[go_sem,G];exact PB.at (f:=⟨19,t.text,t.line,t.col⟩) y aR (by rw[aH,aE rfl]<;>rfl)
    | false =>
     rw[Z]at y;simp only[cQ,cI,bH]at y;simp only[go_sem,G];refine aGn (T:=T) (fin:=fin) (d:=d) (first:=first) (i:=i+1+1) (n:=n) (by rw[aH,aE rfl]<;>rfl) hn ?_;rw[F];refine aT y (λ_ w2 n2 h=>?_) (λf h=>PB.mk aR h);intro e1 e2;subst e1;simp only[bR]at h;simp only[go_sem];refine DK.mk (h (i+1+1) aB L F e2) (St.gx.ge aR (by rw[aH,aE rfl]<;>rfl)) ?_;exact A.le.list ⟨by simp only[List.map,cG,A.cells,sC,Tm.cs];exact⟨⟨bF _,rfl⟩,⟨bF _,rfl⟩,⟨bF _,rfl⟩,⟨bF _,rfl⟩,⟨A.le.nil,rfl⟩,⟨A.le.nil,rfl⟩,trivial⟩,trivial⟩
end
end
section
def tF(T:List Tok)(fin:Fault)(r k:Nat):Prop:=∀(s:St) (d:Dc) (first:Tok) (i n:Nat) (KV Kp:St->A->Prop),s.getO r=some (aZ T fin d first i n)->i<=T.length->n<=2000 ->
 (iL false fin first k (T.drop i) n).to (PK T (i+1) (λj m=>s.setO r (aZ T fin d first j m)) Tm.enc KV) (PB s r Kp)->Den cx 190 [.ptr r 0,.int .i64 ((61-k:Nat):Int)] KV Kp s
theorem Tm.hz(a:Tm):a.enc.cells.length=6:=by rw[cG];rfl
theorem Tm.ho(a:Tm):fE a.enc.cells=true:=by rw[cG];rfl
theorem Tm.le_leaf(k n:Int)(x y:aC):A.le (.agg [.int .i64 k,.int .i64 n,.str x,.str y,.nils,.nils]) (Tm.enc (.mk k n x y [] [])):=by
 rw[cG];exact A.le.agg ⟨⟨bF _,rfl⟩,⟨bF _,rfl⟩,⟨bF _,rfl⟩,⟨bF _,rfl⟩,⟨A.le.nil,rfl⟩,⟨A.le.nil,rfl⟩,trivial⟩
section
variable {T:List Tok} {fin:Fault} {d:Dc} {first:Tok} {i n:Nat} {s:St} {r:Nat} {KV Kp:St->A->Prop}
theorem aJy(k:Nat)(O:k<=60)(U:tF T fin r k)(G H:Nat)(L:s.getO G=some (.cells 130 [.ptr r 0]))(M:s.getO H=some (.cells 3 [.int .i64 ((60-k:Nat):Int)]))
  (S:s.getO r=some (aZ T fin d first i n))(hi:i<=T.length)(hn:n<=2000)
  (hk:(iL false fin first k (T.drop i) n).to (PK T (i+1) (λj m=>s.setO r (aZ T fin d first j m)) Tm.enc KV) (PB s r Kp)):Den cx 227 [.ptr G 0,.ptr H 0] KV Kp s:=by
 (refine aL func227 [0,1,2] ?_;simp only[go_sem,ntmps227,f227]);(refine aM λb y=>?_);have Z:=aS L y;have e5:=aS M y;have z:=aS S y;have ed:IntKind.i64.wrap (((60-k:Nat):Int)+1)=((61-k:Nat):Int):=by rw[bM _ aB];congr 1;omega
 simp only[go_sem,y,Z,e5,L,M,ed];refine U _ d first i n _ _ (by rw[aH,aD z.2];exact S) hi hn (aT hk (λa w m h j hj F hw hm=>?_) (λf h=>PB.mk aR h))
 have B:=h j hj F hw hm;simp only at B;rw[cG]at B;simp only[go_sem,y,z];exact aF B (St.gx.ge aR (by rw[aH,aD z.2,aH,aE rfl]<;>rfl))
end
end
section
section
variable {T:List Tok} {fin:Fault} {d:Dc} {first:Tok} {i n:Nat} {s:St} {r:Nat} {KV Kp:St->A->Prop}
structure EntQ (b2 b3 q r k:Nat) (s:St) (acc:List Tm) (tk:Option Nat) (i:Nat):Prop where
 len:acc.length<=i
 h2:s.getO b2=some (.cells 130 [.ptr r 0])
 h3:s.getO b3=some (.cells 3 [.int .i64 ((60-k:Nat):Int)])
 hq:s.getO q=none
 ne:q≠r/\q≠b2/\q≠b3/\r≠b2/\r≠b3
 nil:tk=none->acc=[]
 free:∀t,tk=some t->s.getT t=none
def eV(T:List Tok)(fin:Fault)(d:Dc)(first:Tok)(kind:Int)(x:aC)(q r:Nat)(s:St)(acc:List Tm)(tk:Option Nat)(i n:Nat):St :=
 gs ((s.setO q (.cells 39 [.int .i64 kind,.int .i64 0,.str x,.str [],gv tk (acc.map Tm.enc),.nils])).setO r (aZ T fin d first i n)) tk acc.length 39
theorem aMS(k b2 b3 q:Nat)(bm:k<=60)(IH:tF T fin r k)(hT:TOk T)(acc:List Tm)(tk:Option Nat)(hQ:EntQ b2 b3 q r k s acc tk i)(hi:i<=T.length)(hn:n<=2000)
  (hk : (yY fin (iL false fin first k) acc (T.drop i) n).to (fun a w n' => ∀ j y,i ≤ j → j ≤ T.length → T.drop j = w → n' ≤ 2000 → EntQ b2 b3 q r k s a y j → KV (eV T fin d first 8 [] q r s a y j n') (.bool true))
   (λf=>∀s1 o,s1.gx s r->s1.getO r=some o->Kp s1 (.iface 51 f.enc))):Den cx 235 [.ptr q 0,.ptr b2 0,.ptr b3 0] KV Kp (eV T fin d first 8 [] q r s acc tk i n):=by
 obtain⟨bk,h2,h3,hq,⟨B,F,G,H,L⟩,b6,M⟩:=hQ;have bn:=hT.len;have ed:IntKind.i64.wrap (((60-k:Nat):Int)+1)=((61-k:Nat):Int):=by rw[bM _ aB];congr 1;omega
 have hg:gZ (eV T fin d first 8 [] q r s acc tk i n) tk (acc.map Tm.enc).length 39:=by rw[aK];exact eD λe=>by rw[b6 e];rfl
 refine aFV ?_;(refine aL func235 [0,1,2,3] ?_;simp only[go_sem,ntmps235,f235]);unfold eV;simp only[yY,bH]at hk;cases tk with
 | none =>
  obtain rfl:=b6 rfl;simp only[aAI];(refine bB (OT.l [0,1,2,3,4,6,7,5,8,9,11] (.pair 10 12)) [(5,[1])] ?_;simp only[go_sem,B,F,G,H,L,B.symm,F.symm,G.symm,H.symm,L.symm,h2,h3,ed]);refine IH _ d first i n _ _ (by rw[bW,aH,aE rfl]<;>rfl) hi hn (aT hk (λkk w m b8 j hj b7 hw hm=>?_) (λf h o=>?_))
  rotate_left
  .simp only[go_sem];exact aN (h _ _ (mU (fD (dM (cE hq (dX s r))) M) rfl) (by rw[dR,bW,aH,aE rfl]<;>rfl))
  simp only[go_sem,B,F,G,H,L,B.symm,F.symm,G.symm,H.symm,L.symm,h2,h3,ed,Tm.hz];refine⟨by decide,?_⟩;intro t ht;refine⟨rfl,?_⟩;have b1:s.getT t=none:=ht;subst hw;refine fA aE0 ?_;refine eA (T:=T) (fin:=fin) (d:=d) (first:=first) (i:=j) (n:=m) _ (by simp only[dR,bW,aH,bJ,reduceIte,B,eF]<;>(first|done|rfl)) b7 hT (aT b8 (λ_ w2 m2 b9 bc bh bd=>?_) (λf h o=>?_));rotate_left
  .simp only[go_sem];exact aN (h _ o (by repeat (first|exact dX _ _|refine qC ?_ rfl|refine mU ?_ rfl|refine fD ?_ (λ_ e=>by cases e;assumption)|refine dM ?_|refine cE hq ?_)) (by simp only[dR,bW,aH,bJ,reduceIte,B,eF]<;>(first|done|rfl)))
  subst bh bd;simp only[go_sem,B,F,G,H,L,B.symm,F.symm,G.symm,H.symm,L.symm,h2,h3,ed];(refine bB (OT.l [0,1,2,3,4,6,7,5,8,9,11] (.pair 10 12)) [(5,[1])] ?_;simp only[go_sem,B,F,G,H,L,B.symm,F.symm,G.symm,H.symm,L.symm,h2,h3,ed]);refine IH _ d first (j+1) _ _ _ (by simp only[dR,bW,aH,bJ,reduceIte,B,eF]<;>(first|done|rfl)) bc hm (aT b9 (λvv w3 m3 bb j3 bl b5 bj bf=>?_) (λf h o=>?_))
  rotate_left
  .simp only[go_sem];exact aN (h _ o (by repeat (first|exact dX _ _|refine qC ?_ rfl|refine mU ?_ rfl|refine fD ?_ (λ_ e=>by cases e;assumption)|refine dM ?_|refine cE hq ?_)) (by simp only[dR,bW,aH,bJ,reduceIte,B,eF]<;>(first|done|rfl)))
  simp only[go_sem,B,F,G,H,L,B.symm,F.symm,G.symm,H.symm,L.symm,h2,h3,ed,Tm.hz];refine⟨by decide,⟨by rw[sP,eI,aE rfl],λy Z=>?_⟩,λt2 bg=>?_⟩
  .simp only[cC]at Z;subst Z;rfl
  have b4:s.getT t2=none:=aFY bg b1 (λ_=>rfl);have U:=bb j3 (some t2) aB b5 bj bf ⟨by simp only[aI,aO,aU]at bk⊢;omega,h2,h3,hq,⟨B,F,G,H,L⟩,λe=>(by cases e),λt' e=>by cases e;exact b4⟩;simp only[eV,dB]at U;rw[show(([]:List Tm)++[kk,vv]).length=2 by simp]at U;refine aF (s2:=(gs ((s.setO q (.cells 39 [.int .i64 8,.int .i64 0,.str [],.str [],.list (some t2) ((([]:List Tm)++[kk,vv]).map Tm.enc),.nils])).setO r (aZ T fin d first j3 m3)) (some t2) (2) 39).setL none) U ?_;refine aE4 b1 (λb o O=>?_) (λ_=>rfl) aW;simp only[aH]at O⊢;by_cases S:q=b
  .subst S;simp only[B,B.symm,cM,cI]at O⊢;simpa [cG,Tm.cs]using O
  .by_cases b0:r=b
   .simp only[S,b0,cM,cI]at O⊢;exact O
   .simp only[S,b0,cI]at O⊢;exact O
 | some u =>
  simp only[dB];(refine bB (OT.l [0,1,2,3,4,6,7,5,8,9,11] (.pair 10 12)) [(5,[1])] ?_;simp only[go_sem,B,F,G,H,L,B.symm,F.symm,G.symm,H.symm,L.symm,h2,h3,ed]);refine IH _ d first i n _ _ (by rw[bW,aH,aE rfl]<;>rfl) hi hn (aT hk (λkk w m b8 j hj b7 hw hm=>?_) (λf h o=>?_))
  rotate_left
  .simp only[go_sem];exact aN (h _ _ (mU (fD (dM (cE hq (dX s r))) M) rfl) (by rw[dR,bW,aH,aE rfl]<;>rfl))
  simp only[go_sem,B,F,G,H,L,B.symm,F.symm,G.symm,H.symm,L.symm,h2,h3,ed,Tm.hz];refine⟨by decide,?_⟩;refine⟨⟨by rw[eI,aE rfl],λy Z=>?_,by omega⟩,λt ht=>?_⟩
  .simp only[cD]at Z;obtain⟨z,_,rfl⟩:=Z;exact Tm.hz z
  have b1:s.getT t=none:=aAq ht (M u rfl) (λ_=>rfl);subst hw;refine fA (aCc (M u rfl)) ?_;refine eA (T:=T) (fin:=fin) (d:=d) (first:=first) (i:=j) (n:=m) _ (by simp only[dR,bW,aH,bJ,reduceIte,B,eF]<;>(first|done|rfl)) b7 hT (aT b8 (λ_ w2 m2 b9 bc bh bd=>?_) (λf h o=>?_));rotate_left
  .simp only[go_sem];exact aN (h _ o (by repeat (first|exact dX _ _|refine qC ?_ rfl|refine mU ?_ rfl|refine fD ?_ (λ_ e=>by cases e;assumption)|refine dM ?_|refine cE hq ?_)) (by simp only[dR,bW,aH,bJ,reduceIte,B,eF]<;>(first|done|rfl)))
  subst bh bd;simp only[go_sem,B,F,G,H,L,B.symm,F.symm,G.symm,H.symm,L.symm,h2,h3,ed];(refine bB (OT.l [0,1,2,3,4,6,7,5,8,9,11] (.pair 10 12)) [(5,[1])] ?_;simp only[go_sem,B,F,G,H,L,B.symm,F.symm,G.symm,H.symm,L.symm,h2,h3,ed]);refine IH _ d first (j+1) _ _ _ (by simp only[dR,bW,aH,bJ,reduceIte,B,eF]<;>(first|done|rfl)) bc hm (aT b9 (λvv w3 m3 bb j3 bl b5 bj bf=>?_) (λf h o=>?_))
  rotate_left
  .simp only[go_sem];exact aN (h _ o (by repeat (first|exact dX _ _|refine qC ?_ rfl|refine mU ?_ rfl|refine fD ?_ (λ_ e=>by cases e;assumption)|refine dM ?_|refine cE hq ?_)) (by simp only[dR,bW,aH,bJ,reduceIte,B,eF]<;>(first|done|rfl)))
  simp only[go_sem,B,F,G,H,L,B.symm,F.symm,G.symm,H.symm,L.symm,h2,h3,ed,Tm.hz];refine⟨by decide,⟨by rw[sP,eI,aE rfl];simp,λy Z=>?_,by simp;omega⟩,λt2 bg=>?_⟩
  .rcases dK.1 Z with Z|Z
   .simp only[cD]at Z;obtain⟨z,_,rfl⟩:=Z;exact Tm.hz z
   .simp only[cC]at Z;subst Z;rfl
  have b4:s.getT t2=none:=aFY bg b1 (λ_=>rfl);have U:=bb j3 (some t2) aB b5 bj bf ⟨by simp only[aI,aO,aU]at bk⊢;omega,h2,h3,hq,⟨B,F,G,H,L⟩,λe=>(by cases e),λt' e=>by cases e;exact b4⟩;simp only[eV,dB]at U;rw[show(acc++[kk,vv]).length=acc.length+2 by simp]at U;refine aF (s2:=(gs ((s.setO q (.cells 39 [.int .i64 8,.int .i64 0,.str [],.str [],.list (some t2) ((acc++[kk,vv]).map Tm.enc),.nils])).setO r (aZ T fin d first j3 m3)) (some t2) (acc.length+2) 39).setL none) U ?_;refine aE4 b1 (λb o O=>?_) (λ_=>rfl) aW;simp only[aH]at O⊢;by_cases S:q=b
  .subst S;simp only[B,B.symm,cM,cI]at O⊢;simpa [cG,Tm.cs]using O
  .by_cases b0:r=b
   .simp only[S,b0,cM,cI]at O⊢;exact O
   .simp only[S,b0,cI]at O⊢;exact O
end
end
section
section
variable {T:List Tok} {fin:Fault} {d:Dc} {first:Tok} {i n:Nat} {s:St} {r:Nat} {KV Kp:St->A->Prop}
theorem EntQ.setT{m y q r k:Nat}{s:St}{acc:List Tm}{tk:Option Nat}{i t:Nat}{v:Nat × TypeId}(h:EntQ m y q r k s acc tk i)(B:tk≠some t):EntQ m y q r k (s.setT t v) acc tk i :=
 ⟨h.len,h.h2,h.h3,h.hq,h.ne,h.nil,fun u z => by
  rw[cF,aD (λe=>B (by rw[z,e]))];exact h.free u z⟩
theorem EntQ.unT{m y q r k:Nat}{s:St}{acc:List Tm}{tk:Option Nat}{i t:Nat}{v:Nat × TypeId}(h:EntQ m y q r k (s.setT t v) acc tk i):tk≠some t/\∀u,tk=some u->s.getT u=none:=by
 have z:tk≠some t:=λe=>by
  have:=h.free t e;rw[cF,aE rfl]at this;cases this
 refine⟨z,λu B=>?_⟩;have:=h.free u B;rw[cF]at this;split at this
 .cases this
 .exact this
theorem EntQ.dropT{m y q r k:Nat}{s:St}{acc:List Tm}{tk:Option Nat}{i t:Nat}{v:Nat × TypeId}(h:EntQ m y q r k (s.setT t v) acc tk i):EntQ m y q r k s acc tk i :=
 ⟨h.len,h.h2,h.h3,h.hq,h.ne,h.nil,h.unT.2⟩
section
variable {kind:Int} {x:aC} {q:Nat} {acc:List Tm} {tk:Option Nat} {t:Nat} {v u:Nat × TypeId}
theorem uU:(eV T fin d first kind x q r s acc tk i n).getT t=if tk=some t then some (acc.length,39) else s.getT t:=eI _ _ _ _ _
theorem aFx(h:tk≠some t):((eV T fin d first kind x q r s acc tk i n).setT t v).ge (eV T fin d first kind x q r (s.setT t v) acc tk i n):=aDa h
theorem aFJ(h:tk≠some t):((eV T fin d first kind x q r (s.setT t v) acc tk i n).setT t u).ge (eV T fin d first kind x q r (s.setT t u) acc tk i n):=by
 refine⟨λb o ho=>by rw[cU];unfold eV at *;rw[bW]at *;exact ho,λc m B=>?_,λy F=>by cases tk<;>exact F⟩;rw[uU,cF]at B;rw[cF,uU,cF];by_cases z:t=c
 .subst z;rw[aD h,aE rfl]at B;rw[aE rfl];exact B
 .rw[aD z]at B⊢;rw[aD z];exact B
theorem aFo(h:s.getT t=none):(eV T fin d first kind x q r (s.setT t v) acc tk i n).ge (eV T fin d first kind x q r s acc tk i n) :=
 aCU (λb o ho=>ho) (λy G=>G) (λc m _ F=>by
  show(s.setT t v).getT c=some m;have z:s.getT c=some m:=F;rw[cF];by_cases B:t=c
  .subst B;rw[h]at z;cases z
  .rw[aD B];exact z)
theorem aHb(h:q≠r):(eV T fin d first kind x q r s acc tk i n).getO r=some (aZ T fin d first i n):=by
 unfold eV;rw[bW,aH,aE rfl]
theorem aFL:((eV T fin d first kind x q r s acc tk i n).setO r (aZ T fin d first (i+1) n)).ge (eV T fin d first kind x q r s acc tk (i+1) n):=by
 unfold eV;rw[aAF,lW];exact aG _
end
theorem aJS(k:Nat)(bg:k<=60)(IH:tF T fin r k)(hr:s.getO r=some (aZ T fin d first i n))(hi:i<=T.length)(hT:TOk T)(hn:n<=2000)
  (hk : ((if cJ [124] (T.drop i) = true ∨ cJ [125] (T.drop i) = true then Rd.ok [] (T.drop i) n else dO fin [44] (yY fin (iL false fin first k)) ((T.drop i).length + 1) [] (T.drop i) n).bind fun l w n =>
   (vP fin first (decide (k=0)) [77,97,112] w n).bind λr w n=>(fI fin [125] w n).bind λ_ w n=>.ok (.mk 8 0 [] [] l r) w n).to (PK T i (λj m=>s.setO r (aZ T fin d first j m)) Tm.enc KV) (PB s r Kp)) :
  Den cx 229 [.ptr r 0,.int .i64 ((60-k:Nat):Int)] KV Kp s:=by
 (refine aL func229 [0,1,2,3,4,5,6,16] ?_;simp only[go_sem,ntmps229,f229]);(refine aM λb2 z=>?_);simp only[go_sem,z];(refine aM λb3 F=>?_);simp only[go_sem,z,F];(refine aM λb4 G=>?_);simp only[go_sem,z,F,G];(refine aM λb5 B=>?_);have L:=aS hr z;have M:=aS hr F.2;have O:=aS hr G.2.2;have H:=aS hr B.2.2.2;have ek:decide (60-k=60)=decide (k=0):=by rw[cW];omega
 simp only[go_sem,z,F,G,B,L,M,O,H];refine kI (T:=T) (fin:=fin) (d:=d) (first:=first) (i:=i) (n:=n) _ gH hi ?_;simp only[go_sem,z,F,G,B,L,M,O,H];cases cA:cJ [124] (T.drop i)
 .simp only[go_sem,z,F,G,B,L,M,O,H,cA];refine kI (T:=T) (fin:=fin) (d:=d) (first:=first) (i:=i) (n:=n) _ gH hi ?_;simp only[go_sem,z,F,G,B,L,M,O,H,cA];cases cB:cJ [125] (T.drop i)
  .simp only[go_sem,z,F,G,B,L,M,O,H,cA,cB];rw[aD (by rw[cA,cB];simp),bH]at hk
   refine fA (qE gH) (aB2 (fin:=fin) (σ:=List Tm) (α:=Unit) (X:=Option Nat) (r:=r) (λ_=>.bool true) (λ_=>rfl) (λ_=>rfl) hT
    (λs' acc tk i n=>eV T fin d first 8 [] b5 r s' acc tk i n) (λs' acc tk i=>EntQ b2 b3 b5 r k s' acc tk i) (λacc w n=>(yY fin (iL false fin first k) acc w n).bind λa w n=>.ok (a,()) w n) 235 [] [.ptr b5 0,.ptr b2 0,.ptr b3 0]
    (λs' a x i n=>⟨d,first,aHb H.2,aFL⟩) (λs' a x i n t v h ht=>?_) (λs' a x i n t v u ht h=>?_) (λs' a x i n t v ht h=>⟨h.dropT,aFo ht⟩)
    (λs' a x i h=>⟨by have:=h.len;omega,h.h2,h.h3,h.hq,h.ne,h.nil,h.free⟩) (λs' a x i n h=>fD (dM (cE h.hq (dX _ _))) h.free)
    (λs' a x i n bn bp h bh bk bf=>aMS k b2 b3 b5 bg IH hT a x h bh bk (by rw[bH]at bf;exact aT bf (λ_ _ _ h=>h) (λ_ h=>h)))
    [] none i n ?_ hi hn ?_)
   .have b8:=ht;rw[uU]at b8;have hx:x≠some t:=λe=>by rw[aE e]at b8;cases b8
    rw[aD hx]at b8;exact⟨b8,h.setT hx,aFx hx⟩
   .have hx:=h.unT.1;refine⟨by rw[uU,aD hx,cF,aE rfl],h.dropT.setT hx,aFJ hx⟩
   .refine⟨aX _,gH,gH,?_,⟨H.2,B.2.2.1.2,B.2.1.2,L.1,M.1⟩,λ_=>rfl,λt e=>(by cases e)⟩;simp only[aH,bJ,reduceIte,B]
   refine aT (aAg _ _ _ _ _ [] _ _ _ _ hk) (λc w m bc j y hj bj hw hm hy=>?_) (λf h s1 o hg bm=>h.at (hg.trans aR) bm);obtain⟨l,ul⟩:=c;simp only at bc hy;subst hw;rw[bH,<-ek]at bc;have S:∀t,y=some t->s.getT t=none:=hy.free
   have bl:=hy.nil;simp only[eV];simp only[go_sem,z,F,G,B,L,M,O,H];refine uX (T:=T) (fin:=fin) (d:=d) (first:=first) (i:=j) (n:=m) (60-k) _ (by simp only[dR,bW,aH,bJ,reduceIte,eF,z,F,G,B,L,M,O,H]<;>(first|done|rfl|assumption)) bj hT hm (aT bc (λrs w2 m2 Z j2 bd U b9 b6=>?_) (λf h=>PB.mk (by repeat (first|exact dX _ _|refine fD ?_ S|refine dM ?_|refine cE z ?_|refine cE F.2 ?_|refine cE G.2.2 ?_|refine cE B.2.2.2 ?_)) h));subst b9;simp only[go_sem,z,F,G,B,L,M,O,H];refine eA (T:=T) (fin:=fin) (d:=d) (first:=first) (i:=j2) (n:=m2) _ (by simp only[dR,bW,aH,bJ,reduceIte,eF,z,F,G,B,L,M,O,H]<;>(first|done|rfl|assumption)) U hT ?_;rw[bH]at Z;refine aT Z (λ_ w3 m3 b0 b1 bb b7=>?_) (λf h=>PB.mk (by repeat (first|exact dX _ _|refine fD ?_ S|refine dM ?_|refine cE z ?_|refine cE F.2 ?_|refine cE G.2.2 ?_|refine cE B.2.2.2 ?_)) h);rw[bR]at b0;subst b7;simp only[go_sem,z,F,G,B,L,M,O,H];refine⟨qI y _,?_⟩;refine DK.mk (b0 (j2+1) aB b1 bb b6) (St.gx.ge (by repeat (first|exact dX _ _|refine fD ?_ S|refine dM ?_|refine cE z ?_|refine cE F.2 ?_|refine cE G.2.2 ?_|refine cE B.2.2.2 ?_)) (by simp only[dR,bW,aH,bJ,reduceIte,eF,z,F,G,B,L,M,O,H]<;>(first|done|rfl|assumption))) ?_;rw[cG];exact A.le.agg ⟨⟨bF _,rfl⟩,⟨bF _,rfl⟩,⟨bF _,rfl⟩,⟨bF _,rfl⟩,⟨gK y _ (λe=>by rw[bl e];rfl),rfl⟩,⟨bF _,rfl⟩,trivial⟩
  ·(try simp only[go_sem,z,F,G,B,L,M,O,H,cA,cB])
   rw[aE (by simp[cA,cB]),bH,bR,bH,<-ek]at hk;have S:∀t:Nat,(none:Option Nat)=some t->s.getT t=none:=λt e=>by cases e
   refine uX (T:=T) (fin:=fin) (d:=d) (first:=first) (i:=i) (n:=n) (60-k) _ (by simp only[dR,bW,aH,bJ,reduceIte,eF,z,F,G,B,L,M,O,H]<;>(first|done|rfl|assumption)) hi hT hn (aT hk (λrs w2 m2 Z j2 bd U b9 b6=>?_) (λf h=>PB.mk (by repeat (first|exact dX _ _|refine fD ?_ S|refine dM ?_|refine cE z ?_|refine cE F.2 ?_|refine cE G.2.2 ?_|refine cE B.2.2.2 ?_)) h));subst b9;simp only[go_sem,z,F,G,B,L,M,O,H];refine eA (T:=T) (fin:=fin) (d:=d) (first:=first) (i:=j2) (n:=m2) _ (by simp only[dR,bW,aH,bJ,reduceIte,eF,z,F,G,B,L,M,O,H]<;>(first|done|rfl|assumption)) U hT ?_;rw[bH]at Z;refine aT Z (λ_ w3 m3 b0 b1 bb b7=>?_) (λf h=>PB.mk (by repeat (first|exact dX _ _|refine fD ?_ S|refine dM ?_|refine cE z ?_|refine cE F.2 ?_|refine cE G.2.2 ?_|refine cE B.2.2.2 ?_)) h);rw[bR]at b0;subst b7;simp only[go_sem,z,F,G,B,L,M,O,H];refine DK.mk (b0 (j2+1) aB b1 bb b6) (St.gx.ge (by repeat (first|exact dX _ _|refine fD ?_ S|refine dM ?_|refine cE z ?_|refine cE F.2 ?_|refine cE G.2.2 ?_|refine cE B.2.2.2 ?_)) (by simp only[dR,bW,aH,bJ,reduceIte,eF,z,F,G,B,L,M,O,H]<;>(first|done|rfl|assumption))) ?_;rw[cG];exact A.le.agg ⟨⟨bF _,rfl⟩,⟨bF _,rfl⟩,⟨bF _,rfl⟩,⟨bF _,rfl⟩,⟨A.le.nil,rfl⟩,⟨bF _,rfl⟩,trivial⟩
 ·(try simp only[go_sem,z,F,G,B,L,M,O,H,cA])
  rw[aE (by simp[cA]),bH,bR,bH,<-ek]at hk;have S:∀t:Nat,(none:Option Nat)=some t->s.getT t=none:=λt e=>by cases e
  refine uX (T:=T) (fin:=fin) (d:=d) (first:=first) (i:=i) (n:=n) (60-k) _ (by simp only[dR,bW,aH,bJ,reduceIte,eF,z,F,G,B,L,M,O,H]<;>(first|done|rfl|assumption)) hi hT hn (aT hk (λrs w2 m2 Z j2 bd U b9 b6=>?_) (λf h=>PB.mk (by repeat (first|exact dX _ _|refine fD ?_ S|refine dM ?_|refine cE z ?_|refine cE F.2 ?_|refine cE G.2.2 ?_|refine cE B.2.2.2 ?_)) h));subst b9;simp only[go_sem,z,F,G,B,L,M,O,H];refine eA (T:=T) (fin:=fin) (d:=d) (first:=first) (i:=j2) (n:=m2) _ (by simp only[dR,bW,aH,bJ,reduceIte,eF,z,F,G,B,L,M,O,H]<;>(first|done|rfl|assumption)) U hT ?_;rw[bH]at Z;refine aT Z (λ_ w3 m3 b0 b1 bb b7=>?_) (λf h=>PB.mk (by repeat (first|exact dX _ _|refine fD ?_ S|refine dM ?_|refine cE z ?_|refine cE F.2 ?_|refine cE G.2.2 ?_|refine cE B.2.2.2 ?_)) h);rw[bR]at b0;subst b7;simp only[go_sem,z,F,G,B,L,M,O,H];refine DK.mk (b0 (j2+1) aB b1 bb b6) (St.gx.ge (by repeat (first|exact dX _ _|refine fD ?_ S|refine dM ?_|refine cE z ?_|refine cE F.2 ?_|refine cE G.2.2 ?_|refine cE B.2.2.2 ?_)) (by simp only[dR,bW,aH,bJ,reduceIte,eF,z,F,G,B,L,M,O,H]<;>(first|done|rfl|assumption))) ?_;rw[cG];exact A.le.agg ⟨⟨bF _,rfl⟩,⟨bF _,rfl⟩,⟨bF _,rfl⟩,⟨bF _,rfl⟩,⟨A.le.nil,rfl⟩,⟨bF _,rfl⟩,trivial⟩
end
end
section
section
variable {T:List Tok} {fin:Fault} {d:Dc} {first:Tok} {i n:Nat} {s:St} {r:Nat} {KV Kp:St->A->Prop}
theorem aKR(k:Nat)(bj:k<=60)(IH:tF T fin r k)(t:Tok)(hr:s.getO r=some (aZ T fin d first i n))(hi:i<=T.length)(hT:TOk T)(hn:n<=2000)(ht:t∈T)
  (O:(rM fin first (iL false fin first k) (decide (k=0)) t (T.drop i) n).to (PK T i (λj m=>s.setO r (aZ T fin d first j m)) Tm.enc KV) (PB s r Kp)) :
  Den cx 211 [.ptr r 0,t.enc,.int .i64 ((60-k:Nat):Int)] KV Kp s:=by
 simp only[go_sem];(refine aL func211 [0,1,2,3,4,5,6,7,8,9,11,12,33,47,71,84,94,107] ?_;simp only[go_sem,ntmps211,f211]);(refine aM λb3 y=>?_);simp only[go_sem,y];(refine aM λb4 z=>?_);simp only[go_sem,y,z];(refine aM λb5 B=>?_);simp only[go_sem,y,z,B];(refine aM λb6 F=>?_);have H:=aS hr y;have M:=aS hr z.2;have L:=aS hr B.2.2;have G:=aS hr F.2.2.2;have Z:=hr;simp only[go_sem]at Z;have c0:=hT.len;simp only[go_sem,y,z,B,F,H,M,L,G]
 (apply aQ<;>intro h)<;>simp only[go_sem,h,y,z,B,F,H,M,L,G]
 ·
  have hx:t.text=[45]:=gQ h;simp only[rM,hx,cM]at O
  (try simp only[go_sem,y,z,B,F,H,M,L,G])
  refine gS (T:=T) (fin:=fin) (d:=d) (first:=first) (i:=i) (n:=n) gH hi ?_;cases hw:T.drop i with
  | nil=>rw[hw]at O;exact O.at aR gH
  | cons u w =>
   rw[hw]at O;obtain⟨h1,h2,h3,h4⟩:=iR hw;simp only[go_sem];(refine aM λb7 S=>?_);have e7:=aS hr S.2.2.2.2
   have bad:∀(bc:St->A->Prop) (s1:St),s1.gx s r->s1.getO r=some (aZ T fin d first i n)->PB s r Kp (eY fin 11 (u::w))->Den cx 151 [.ptr r 0,.int .i64 11] bc (DK Kp) s1:=by
    intro bc s1 bk bb hf;refine lZ 11 bb hi hT ?_;rw[hw];exact hf.at bk bb
   simp only at O;have bh:IntKind.i64.wrap (t.col+1)=t.col+1:=by have:=hT.col t ht;exact eW _ aB aB
   have bm:IntKind.i64.wrap (0-u.n)=-u.n:=by have:=hT.num u h4;rw[eW _ aB aB];omega
   cases c1:decide (u.kind=2)
   .have h2:¬ u.kind=2:=gQ c1;rw[aD (λhc=>h2 hc.1),dE]at O;simp only[go_sem,y,z,B,F,H,M,L,G,S,e7,Z,c1];exact bad _ _ aR gH O
   cases c2:decide (u.line=t.line)
   .have h2:¬ u.line=t.line:=gQ c2;rw[aD (λhc=>h2 hc.2.1),dE]at O;simp only[go_sem,y,z,B,F,H,M,L,G,S,e7,Z,c1,c2];exact bad _ _ aR gH O
   cases c3:decide (u.col=t.col+1)
   .have h2:¬ u.col=t.col+1:=gQ c3;rw[aD (λhc=>h2 hc.2.2),dE]at O;simp only[go_sem,y,z,B,F,H,M,L,G,S,e7,Z,c1,c2,bh,c3];exact bad _ _ aR gH O
   .rw[aE ⟨gQ c1,gQ c2,gQ c3⟩,bR]at O;simp only[go_sem,y,z,B,F,H,M,L,G,S,e7,Z,c1,c2,bh,c3,bM i aB,bm];refine DK.mk (O (i+1) aB h2 h3 hn) (St.gx.ge aR gH) (Tm.le_leaf _ _ _ _)
 have x1:¬ t.text=[45]:=gQ h
 (try simp only[go_sem,y,z,B,F,H,M,L,G])
 (apply aQ<;>intro h)<;>simp only[go_sem,h,y,z,B,F,H,M,L,G]
 ·
  have hx:t.text=[39]:=gQ h;rw[rM.eq_def,aD x1,aE hx]at O
  (try simp only[go_sem,y,z,B,F,H,M,L,G])
  refine gS (T:=T) (fin:=fin) (d:=d) (first:=first) (i:=i) (n:=n) gH hi ?_;cases hw:T.drop i with
  | nil=>rw[hw]at O;exact O.at aR gH
  | cons u w =>
   rw[hw]at O;obtain⟨h1,h2,h3,h4⟩:=iR hw;simp only[go_sem];(refine aM λb7 S=>?_);have e7:=aS hr S.2.2.2.2
   have bad:∀(bc:St->A->Prop) (s1:St),s1.gx s r->s1.getO r=some (aZ T fin d first i n)->PB s r Kp (eY fin 11 (u::w))->Den cx 151 [.ptr r 0,.int .i64 11] bc (DK Kp) s1:=by
    intro bc s1 bk bb hf;refine lZ 11 bb hi hT ?_;rw[hw];exact hf.at bk bb
   simp only at O;cases c1:decide (u.kind=1)
   .have h2:¬ u.free=true:=by simp[Tok.free,c1]
    rw[aD (λhc=>h2 hc.1),dE]at O;simp only[go_sem,y,z,B,F,H,M,L,G,S,e7,Z,c1];exact bad _ _ aR gH O
   simp only[go_sem,y,z,B,F,H,M,L,G,S,e7,Z,c1];refine rA _ _ _ _ ?_;simp only[go_sem,y,z,B,F,H,M,L,G,S,e7,Z,c1];cases c2:decide (u.text∈kF);rotate_left
   .have h2:¬ u.free=true:=by simp[Tok.free,c2]
    rw[aD (λhc=>h2 hc.1),dE]at O;simp only[go_sem,y,z,B,F,H,M,L,G,S,e7,Z,c1,c2];exact bad _ _ aR gH O
   simp only[go_sem,y,z,B,F,H,M,L,G,S,e7,Z,c1,c2];refine aGs _ _ _ _ ?_;simp only[go_sem,y,z,B,F,H,M,L,G,S,e7,Z,c1,c2];cases c3:sE u.text
   .rw[aD (λhc=>by rw[c3]at hc;exact cV hc.2 aW),dE]at O;simp only[go_sem,y,z,B,F,H,M,L,G,S,e7,Z,c1,c2,c3];exact bad _ _ aR gH O
   .rw[aE ⟨by simp[Tok.free,c1,c2],c3⟩,bR]at O;simp only[go_sem,y,z,B,F,H,M,L,G,S,e7,Z,c1,c2,c3,bM i aB];refine DK.mk (O (i+1) aB h2 h3 hn) (St.gx.ge aR gH) (Tm.le_leaf _ _ _ _)
 have x2:¬ t.text=[39]:=gQ h
 (try simp only[go_sem,y,z,B,F,H,M,L,G])
 (apply aQ<;>intro h)<;>simp only[go_sem,h,y,z,B,F,H,M,L,G]
 ·
  have hx:t.text=[91]:=gQ h;rw[rM.eq_def,aD x1,aD x2,aE hx]at O
  (try simp only[go_sem,y,z,B,F,H,M,L,G])
  (refine aM λb9 U=>?_);have e9:=aS hr U.2.2.2.2;simp only[go_sem,y,z,B,F,H,M,L,G,U,e9];refine kI (T:=T) (fin:=fin) (d:=d) (first:=first) (i:=i) (n:=n) _ gH hi ?_;simp only[go_sem,y,z,B,F,H,M,L,G,U,e9];have ek:decide (60-k=60)=decide (k=0):=by rw[cW];omega
  cases cA:cJ [124] (T.drop i)
  .simp only[go_sem,y,z,B,F,H,M,L,G,U,e9,cA];refine kI (T:=T) (fin:=fin) (d:=d) (first:=first) (i:=i) (n:=n) _ gH hi ?_;simp only[go_sem,y,z,B,F,H,M,L,G,U,e9,cA];cases cB:cJ [93] (T.drop i)
   .simp only[go_sem,y,z,B,F,H,M,L,G,U,e9,cA,cB];rw[aD (by rw[cA,cB];simp),bH]at O
    refine fA (qE gH) (aD9 (fin:=fin) (d:=d) (fi:=first) Tm.enc Tm.hz Tm.ho hT (λs'=>s'.getO b3=some (.cells 130 [.ptr r 0])/\s'.getO b5=some (.cells 3 [.int .i64 ((60-k:Nat):Int)])) (λ_ _ _=>Iff.rfl)
     (iL false fin first k) 227 [] [.ptr b3 0,.ptr b5 0] (aA4 (fun s' o hq => ⟨by rw [aH,aD H.1]; exact hq.1,by rw [aH,aD L.1]; exact hq.2⟩)
      (λs' i' n' bc c4 bz br bt bw bv=>aJy k bj IH b3 b5 br.1 br.2 bz bt bw (aT bv (λ_ _ _ h j hj=>h j aB) (λ_ h=>h)))) i n ?_ hi hn ?_)
    .exact⟨gH,gH⟩
    refine aT O (λl w m bp j hj bl hw hm=>?_) (λf h s1 o hg bb=>h.at (hg.trans aR) bb);subst hw;rw[bH,<-ek]at bp;simp only[go_sem,y,z,B,F,H,M,L,G,U,e9];refine uX (T:=T) (fin:=fin) (d:=d) (first:=first) (i:=j) (n:=m) (60-k) _ gH bl hT hm (aT bp (λrs w2 m2 b1 j2 bn b0 bf bq=>?_) (λf h=>PB.mk aR h));subst bf;simp only[go_sem,y,z,B,F,H,M,L,G,U,e9];refine eA (T:=T) (fin:=fin) (d:=d) (first:=first) (i:=j2) (n:=m2) _ gH b0 hT ?_;rw[bH]at b1;refine aT b1 (λ_ w3 m3 b2 b8 bg bd=>?_) (λf h=>PB.mk aR h);rw[bR]at b2;simp only[go_sem,y,z,B,F,H,M,L,G,U,e9];exact DK.mk (b2 (j2+1) aB b8 bg aB) (St.gx.ge aR (by subst bd;rw[aH,aD G.2,aH,aE rfl]<;>rfl)) (by rw[cG];exact bF _)
   .simp only[go_sem,y,z,B,F,H,M,L,G,U,e9,cA,cB];rw[aE (by simp[cA,cB]),bH,bR,bH,<-ek]at O;refine uX (T:=T) (fin:=fin) (d:=d) (first:=first) (i:=i) (n:=n) (60-k) _ gH hi hT hn (aT O (λrs w2 m2 b1 j2 bn b0 bf bq=>?_) (λf h=>PB.mk aR h));subst bf;simp only[go_sem,y,z,B,F,H,M,L,G,U,e9];refine eA (T:=T) (fin:=fin) (d:=d) (first:=first) (i:=j2) (n:=m2) _ gH b0 hT ?_;rw[bH]at b1;refine aT b1 (λ_ w3 m3 b2 b8 bg bd=>?_) (λf h=>PB.mk aR h);rw[bR]at b2;simp only[go_sem,y,z,B,F,H,M,L,G,U,e9];exact DK.mk (b2 (j2+1) aB b8 bg aB) (St.gx.ge aR (by subst bd;rw[aH,aD G.2,aH,aE rfl]<;>rfl)) (by rw[cG];exact A.le.agg ⟨⟨bF _,rfl⟩,⟨bF _,rfl⟩,⟨bF _,rfl⟩,⟨bF _,rfl⟩,⟨A.le.nil,rfl⟩,⟨bF _,rfl⟩,trivial⟩)
  .simp only[go_sem,y,z,B,F,H,M,L,G,U,e9,cA];rw[aE (by simp[cA]),bH,bR,bH,<-ek]at O;refine uX (T:=T) (fin:=fin) (d:=d) (first:=first) (i:=i) (n:=n) (60-k) _ gH hi hT hn (aT O (λrs w2 m2 b1 j2 bn b0 bf bq=>?_) (λf h=>PB.mk aR h));subst bf;simp only[go_sem,y,z,B,F,H,M,L,G,U,e9];refine eA (T:=T) (fin:=fin) (d:=d) (first:=first) (i:=j2) (n:=m2) _ gH b0 hT ?_;rw[bH]at b1;refine aT b1 (λ_ w3 m3 b2 b8 bg bd=>?_) (λf h=>PB.mk aR h);rw[bR]at b2;simp only[go_sem,y,z,B,F,H,M,L,G,U,e9];exact DK.mk (b2 (j2+1) aB b8 bg aB) (St.gx.ge aR (by subst bd;rw[aH,aD G.2,aH,aE rfl]<;>rfl)) (by rw[cG];exact A.le.agg ⟨⟨bF _,rfl⟩,⟨bF _,rfl⟩,⟨bF _,rfl⟩,⟨bF _,rfl⟩,⟨A.le.nil,rfl⟩,⟨bF _,rfl⟩,trivial⟩)
 have x3:¬ t.text=[91]:=gQ h
 (try simp only[go_sem,y,z,B,F,H,M,L,G])
 (apply aQ<;>intro h)<;>simp only[go_sem,h,y,z,B,F,H,M,L,G]
 ·
  have hx:t.text=[123]:=gQ h;rw[rM.eq_def,aD x1,aD x2,aD x3,aE hx]at O
  (try simp only[go_sem,y,z,B,F,H,M,L,G])
  refine aJS (T:=T) (fin:=fin) (d:=d) (first:=first) (i:=i) (n:=n) k bj IH gH hi hT hn (aT O (λa w m h j hj bl hw hm=>?_) (λf h=>PB.mk aR h));have h':=h j hj bl hw hm;simp only at h';rw[cG]at h';simp only[go_sem,y,z,B,F,H,M,L,G];exact aF h' (St.gx.ge aR gH)
 have x4:¬ t.text=[123]:=gQ h;rw[rM.eq_def,aD x1,aD x2,aD x3,aD x4,bR]at O
 (try simp only[go_sem,y,z,B,F,H,M,L,G])
 exact DK.mk (O i (bL _) hi rfl hn) (St.gx.ge aR gH) (Tm.le_leaf _ _ _ _)
end
end
section
section
variable {T:List Tok} {fin:Fault} {d:Dc} {first:Tok} {i n:Nat} {s:St} {r:Nat} {KV Kp:St->A->Prop}
theorem aMO(k b2 b3 q:Nat)(x:aC)(hk60:k<=60)(IH:tF T fin r k)(hT:TOk T)(acc:List Tm)(tk:Option Nat)(hQ:EntQ b2 b3 q r k s acc tk i)(hi:i<=T.length)(hn:n<=2000)
  (hk : (wC false fin first (iL false fin first k) acc (T.drop i) n).to (fun a w n' => ∀ j y,i ≤ j → j ≤ T.length → T.drop j = w → n' ≤ 2000 → EntQ b2 b3 q r k s (acc ++ [a]) y j → KV (eV T fin d first 5 x q r s (acc ++ [a]) y j n') a.enc)
   (λf=>∀s1 o,s1.gx s r->s1.getO r=some o->Kp s1 (.iface 51 f.enc))):Den cx 226 [.ptr q 0,.ptr b2 0,.ptr b3 0] KV Kp (eV T fin d first 5 x q r s acc tk i n):=by
 obtain⟨hac,h2,h3,hq,⟨n1,n2,n3,n4,n5⟩,hnil,hfree⟩:=hQ;have hlen:=hT.len;have ed:IntKind.i64.wrap (((60-k:Nat):Int)+1)=((61-k:Nat):Int):=by rw[bM _ aB];congr 1;omega
 have hg:gZ (eV T fin d first 5 x q r s acc tk i n) tk (acc.map Tm.enc).length 39:=by rw[aK];exact eD λe=>by rw[hnil e];rfl
 refine aFV ?_;(refine aL func226 [0,1,2,3,4,12] ?_;simp only[go_sem,ntmps226,f226]);unfold eV;(refine aM λb6 hb6=>?_)
 have f6:s.getO b6=none/\b6≠r/\b6≠q:=by
  have h0:=hb6;rw[bW,aH]at h0;split at h0
  .cases h0
  .rename_i hrb;rw[aH]at h0;split at h0
   .cases h0
   .rename_i hqb;exact⟨h0,λe=>hrb e.symm,λe=>hqb e.symm⟩
 obtain⟨hf6,e6,e6q⟩:=f6;clear hb6;have e62:=(aS h2 hf6);have e63:=(aS h3 hf6);simp only[go_sem,n1,n2,n3,n4,n5,n1.symm,n2.symm,n3.symm,n4.symm,n5.symm,h2,h3,ed,hf6,e6,e6.symm,e6q,e6q.symm,e62,e63,mD hg];cases tk with
 | none =>
  obtain rfl:=hnil rfl;simp only[aAI];cases c8:decide ((([]:List Tm).length:Int)=8)
  ·(try simp only [go_sem,n1,n2,n3,n4,n5,n1.symm,n2.symm,n3.symm,n4.symm,n5.symm,h2,h3,ed,hf6,e6,e6.symm,e6q,e6q.symm,e62,e63,c8])
   have hk3:=hk;rw[wC.eq_def,aD (by intro e;simp[e]at c8)]at hk3;refine IH _ d first i n _ _ (by simp only[dR,bW,aH,bJ,reduceIte,eF,n1,n2,n3,n4,n5,n1.symm,n2.symm,n3.symm,n4.symm,n5.symm,h2,h3,ed,hf6,e6,e6.symm,e6q,e6q.symm,e62,e63]<;>(first|done|rfl|assumption)) hi hn (aT hk3 (λa w m hk2 j hj hjT hw hm=>?_) (λf h o=>?_))
   rotate_left
   .simp only[go_sem];exact aN (h _ o (by repeat (first|exact dX _ _|refine qC ?_ rfl|refine mU ?_ rfl|refine fD ?_ hfree|refine dM ?_|refine cE hq ?_|refine cE hf6 ?_)) (by simp only[dR,bW,aH,bJ,reduceIte,eF,n1,n2,n3,n4,n5,n1.symm,n2.symm,n3.symm,n4.symm,n5.symm,h2,h3,ed,hf6,e6,e6.symm,e6q,e6q.symm,e62,e63]<;>(first|done|rfl|assumption)))
   simp only[go_sem,n1,n2,n3,n4,n5,n1.symm,n2.symm,n3.symm,n4.symm,n5.symm,h2,h3,ed,hf6,e6,e6.symm,e6q,e6q.symm,e62,e63,cG,Tm.cs];intro b7 hb7;rw[bW]at hb7;obtain⟨e7,hb7⟩:=mV hb7;obtain⟨e76,hb7⟩:=mV hb7;obtain⟨_,hb7⟩:=mV hb7;obtain⟨e7q,hf7⟩:=mV hb7;have e72:=(aS h2 hf7);have e73:=(aS h3 hf7);simp only[go_sem,n1,n2,n3,n4,n5,n1.symm,n2.symm,n3.symm,n4.symm,n5.symm,h2,h3,ed,hf6,e6,e6.symm,e6q,e6q.symm,e62,e63,hf7,e7,e7.symm,e7q,e7q.symm,e76,e76.symm,e72,e73];(refine bB (OT.l [0,1,2,3,4,5,6,8] (.pair 7 9)) [] ?_;simp only[go_sem,n1,n2,n3,n4,n5,n1.symm,n2.symm,n3.symm,n4.symm,n5.symm,h2,h3,ed,hf6,e6,e6.symm,e6q,e6q.symm,e62,e63,hf7,e7,e7.symm,e7q,e7q.symm,e76,e76.symm,e72,e73]);refine⟨by decide,?_⟩;intro t ht;have hft:s.getT t=none:=ht;refine⟨rfl,?_⟩;have hk5:=hk2 j (some t) aB hjT hw hm ⟨by simp only[aI,aO,aU]at hac⊢;omega,h2,h3,hq,⟨n1,n2,n3,n4,n5⟩,λe=>(by cases e),λt' e=>by cases e;exact hft⟩;simp only[eV,dB]at hk5;rw[show(([]:List Tm)++[a]).length=1 by simp,cG a]at hk5;refine aF (s2:=(gs ((s.setO q (.cells 39 [.int .i64 5,.int .i64 0,.str x,.str [],.list (some t) ((([]:List Tm)++[a]).map Tm.enc),.nils])).setO r (aZ T fin d first j m)) (some t) (1) 39).setL none) hk5 (St.ge.trans aE0 (aC7 (λb o hb=>?_) (λ_=>rfl)));simp only[aH]at hb⊢;by_cases hb1:q=b
   .subst hb1;simp only[n1,n1.symm,e6q,e6q.symm,e7q,e7q.symm,cM,cI]at hb⊢;simpa [cG,Tm.cs]using hb
   .by_cases hb2:r=b
    .subst hb2;simp only[hb1,e6,e6.symm,e7,e7.symm,cM,cI]at hb⊢;exact hb
    .simp only[hb1,hb2,cI]at hb⊢;by_cases hb3:b6=b
     .subst hb3;rw[hf6]at hb;cases hb
     .by_cases hb4:b7=b
      .subst hb4;rw[hf7]at hb;cases hb
      .simp only[hb3,hb4,cI];exact hb
  .simp at c8
 | some u =>
  simp only[dB];cases c8:decide ((acc.length:Int)=8)
  ·(try simp only [go_sem,n1,n2,n3,n4,n5,n1.symm,n2.symm,n3.symm,n4.symm,n5.symm,h2,h3,ed,hf6,e6,e6.symm,e6q,e6q.symm,e62,e63,c8])
   have hk3:=hk;rw[wC.eq_def,aD (by intro e;simp[e]at c8)]at hk3;refine IH _ d first i n _ _ (by simp only[dR,bW,aH,bJ,reduceIte,eF,n1,n2,n3,n4,n5,n1.symm,n2.symm,n3.symm,n4.symm,n5.symm,h2,h3,ed,hf6,e6,e6.symm,e6q,e6q.symm,e62,e63]<;>(first|done|rfl|assumption)) hi hn (aT hk3 (λa w m hk2 j hj hjT hw hm=>?_) (λf h o=>?_))
   rotate_left
   .simp only[go_sem];exact aN (h _ o (by repeat (first|exact dX _ _|refine qC ?_ rfl|refine mU ?_ rfl|refine fD ?_ hfree|refine dM ?_|refine cE hq ?_|refine cE hf6 ?_)) (by simp only[dR,bW,aH,bJ,reduceIte,eF,n1,n2,n3,n4,n5,n1.symm,n2.symm,n3.symm,n4.symm,n5.symm,h2,h3,ed,hf6,e6,e6.symm,e6q,e6q.symm,e62,e63]<;>(first|done|rfl|assumption)))
   simp only[go_sem,n1,n2,n3,n4,n5,n1.symm,n2.symm,n3.symm,n4.symm,n5.symm,h2,h3,ed,hf6,e6,e6.symm,e6q,e6q.symm,e62,e63,cG,Tm.cs];intro b7 hb7;rw[bW]at hb7;obtain⟨e7,hb7⟩:=mV hb7;obtain⟨e76,hb7⟩:=mV hb7;obtain⟨_,hb7⟩:=mV hb7;obtain⟨e7q,hf7⟩:=mV hb7;have e72:=(aS h2 hf7);have e73:=(aS h3 hf7);simp only[go_sem,n1,n2,n3,n4,n5,n1.symm,n2.symm,n3.symm,n4.symm,n5.symm,h2,h3,ed,hf6,e6,e6.symm,e6q,e6q.symm,e62,e63,hf7,e7,e7.symm,e7q,e7q.symm,e76,e76.symm,e72,e73];(refine bB (OT.l [0,1,2,3,4,5,6,8] (.pair 7 9)) [] ?_;simp only[go_sem,n1,n2,n3,n4,n5,n1.symm,n2.symm,n3.symm,n4.symm,n5.symm,h2,h3,ed,hf6,e6,e6.symm,e6q,e6q.symm,e62,e63,hf7,e7,e7.symm,e7q,e7q.symm,e76,e76.symm,e72,e73]);refine⟨by decide,?_⟩;refine⟨⟨by rw[eI,aE rfl],λy hy=>?_,by omega⟩,λt ht=>?_⟩
   .simp only[cD]at hy;obtain⟨z,_,rfl⟩:=hy;exact Tm.hz z
   have hft:s.getT t=none:=aAq ht (hfree u rfl) (λ_=>rfl);have hk5:=hk2 j (some t) aB hjT hw hm ⟨by simp only[aI,aO,aU]at hac⊢;omega,h2,h3,hq,⟨n1,n2,n3,n4,n5⟩,λe=>(by cases e),λt' e=>by cases e;exact hft⟩;simp only[eV,dB]at hk5;rw[show(acc++[a]).length=acc.length+1 by simp,cG a]at hk5;refine aF (s2:=(gs ((s.setO q (.cells 39 [.int .i64 5,.int .i64 0,.str x,.str [],.list (some t) ((acc++[a]).map Tm.enc),.nils])).setO r (aZ T fin d first j m)) (some t) (acc.length+1) 39).setL none) hk5 (St.ge.trans (aCc (hfree u rfl)) (aC7 (λb o hb=>?_) (λ_=>rfl)));simp only[aH]at hb⊢;by_cases hb1:q=b
   .subst hb1;simp only[n1,n1.symm,e6q,e6q.symm,e7q,e7q.symm,cM,cI]at hb⊢;simpa [cG,Tm.cs]using hb
   .by_cases hb2:r=b
    .subst hb2;simp only[hb1,e6,e6.symm,e7,e7.symm,cM,cI]at hb⊢;exact hb
    .simp only[hb1,hb2,cI]at hb⊢;by_cases hb3:b6=b
     .subst hb3;rw[hf6]at hb;cases hb
     .by_cases hb4:b7=b
      .subst hb4;rw[hf7]at hb;cases hb
      .simp only[hb3,hb4,cI];exact hb
  ·(try simp only [go_sem,n1,n2,n3,n4,n5,n1.symm,n2.symm,n3.symm,n4.symm,n5.symm,h2,h3,ed,hf6,e6,e6.symm,e6q,e6q.symm,e62,e63,c8])
   rw[wC.eq_def,aE (by simp at c8;omega)]at hk;refine zZ (T:=T) (fin:=fin) (d:=d) (first:=first) (i:=i) (n:=n) (by simp only[dR,bW,aH,bJ,reduceIte,eF,n1,n2,n3,n4,n5,n1.symm,n2.symm,n3.symm,n4.symm,n5.symm,h2,h3,ed,hf6,e6,e6.symm,e6q,e6q.symm,e62,e63]<;>(first|done|rfl|assumption)) hi ?_;cases hw0:T.drop i with
   | nil =>
    rw[hw0]at hk;intro o;simp only[go_sem];exact aN (hk _ o (by repeat (first|exact dX _ _|refine qC ?_ rfl|refine mU ?_ rfl|refine fD ?_ hfree|refine dM ?_|refine cE hq ?_|refine cE hf6 ?_)) (by simp only[dR,bW,aH,bJ,reduceIte,eF,n1,n2,n3,n4,n5,n1.symm,n2.symm,n3.symm,n4.symm,n5.symm,h2,h3,ed,hf6,e6,e6.symm,e6q,e6q.symm,e62,e63]<;>(first|done|rfl|assumption)))
   | cons t0 w0 =>
    rw[hw0]at hk;simp only at hk⊢;cases hb0:t0.begins with
    | true =>
     rw[hb0]at hk;simp only[cM,cQ,mW,cI,dE]at hk;simp only[go_sem,n1,n2,n3,n4,n5,n1.symm,n2.symm,n3.symm,n4.symm,n5.symm,h2,h3,ed,hf6,e6,e6.symm,e6q,e6q.symm,e62,e63];refine gS (T:=T) (fin:=fin) (d:=d) (first:=first) (i:=i) (n:=n) (by simp only[dR,bW,aH,bJ,reduceIte,eF,n1,n2,n3,n4,n5,n1.symm,n2.symm,n3.symm,n4.symm,n5.symm,h2,h3,ed,hf6,e6,e6.symm,e6q,e6q.symm,e62,e63]<;>(first|done|rfl|assumption)) hi ?_;rw[hw0];simp only[go_sem];refine aCz t0 ?_;simp only[go_sem];exact aN (hk _ _ (by repeat (first|exact dX _ _|refine qC ?_ rfl|refine mU ?_ rfl|refine fD ?_ hfree|refine dM ?_|refine cE hq ?_|refine cE hf6 ?_)) (by simp only[dR,bW,aH,bJ,reduceIte,eF,n1,n2,n3,n4,n5,n1.symm,n2.symm,n3.symm,n4.symm,n5.symm,h2,h3,ed,hf6,e6,e6.symm,e6q,e6q.symm,e62,e63]<;>(first|done|rfl|assumption)))
    | false =>
     rw[hb0]at hk;simp only[cQ,cI]at hk;have hk3:=hk;rw[<-hw0]at hk3;simp only[go_sem,n1,n2,n3,n4,n5,n1.symm,n2.symm,n3.symm,n4.symm,n5.symm,h2,h3,ed,hf6,e6,e6.symm,e6q,e6q.symm,e62,e63];refine IH _ d first i n _ _ (by simp only[dR,bW,aH,bJ,reduceIte,eF,n1,n2,n3,n4,n5,n1.symm,n2.symm,n3.symm,n4.symm,n5.symm,h2,h3,ed,hf6,e6,e6.symm,e6q,e6q.symm,e62,e63]<;>(first|done|rfl|assumption)) hi hn (aT hk3 (λa w m hk2 j hj hjT hw hm=>?_) (λf h o=>?_))
     rotate_left
     .simp only[go_sem];exact aN (h _ o (by repeat (first|exact dX _ _|refine qC ?_ rfl|refine mU ?_ rfl|refine fD ?_ hfree|refine dM ?_|refine cE hq ?_|refine cE hf6 ?_)) (by simp only[dR,bW,aH,bJ,reduceIte,eF,n1,n2,n3,n4,n5,n1.symm,n2.symm,n3.symm,n4.symm,n5.symm,h2,h3,ed,hf6,e6,e6.symm,e6q,e6q.symm,e62,e63]<;>(first|done|rfl|assumption)))
     simp only[go_sem,n1,n2,n3,n4,n5,n1.symm,n2.symm,n3.symm,n4.symm,n5.symm,h2,h3,ed,hf6,e6,e6.symm,e6q,e6q.symm,e62,e63,cG,Tm.cs];intro b7 hb7;rw[bW]at hb7;obtain⟨e7,hb7⟩:=mV hb7;obtain⟨e76,hb7⟩:=mV hb7;obtain⟨_,hb7⟩:=mV hb7;obtain⟨e7q,hf7⟩:=mV hb7;have e72:=(aS h2 hf7);have e73:=(aS h3 hf7);simp only[go_sem,n1,n2,n3,n4,n5,n1.symm,n2.symm,n3.symm,n4.symm,n5.symm,h2,h3,ed,hf6,e6,e6.symm,e6q,e6q.symm,e62,e63,hf7,e7,e7.symm,e7q,e7q.symm,e76,e76.symm,e72,e73];(refine bB (OT.l [0,1,2,3,4,5,6,8] (.pair 7 9)) [] ?_;simp only[go_sem,n1,n2,n3,n4,n5,n1.symm,n2.symm,n3.symm,n4.symm,n5.symm,h2,h3,ed,hf6,e6,e6.symm,e6q,e6q.symm,e62,e63,hf7,e7,e7.symm,e7q,e7q.symm,e76,e76.symm,e72,e73]);refine⟨by decide,?_⟩;refine⟨⟨by rw[eI,aE rfl],λy hy=>?_,by omega⟩,λt ht=>?_⟩
     .simp only[cD]at hy;obtain⟨z,_,rfl⟩:=hy;exact Tm.hz z
     have hft:s.getT t=none:=aAq ht (hfree u rfl) (λ_=>rfl);have hk5:=hk2 j (some t) aB hjT hw hm ⟨by simp only[aI,aO,aU]at hac⊢;omega,h2,h3,hq,⟨n1,n2,n3,n4,n5⟩,λe=>(by cases e),λt' e=>by cases e;exact hft⟩;simp only[eV,dB]at hk5;rw[show(acc++[a]).length=acc.length+1 by simp,cG a]at hk5;refine aF (s2:=(gs ((s.setO q (.cells 39 [.int .i64 5,.int .i64 0,.str x,.str [],.list (some t) ((acc++[a]).map Tm.enc),.nils])).setO r (aZ T fin d first j m)) (some t) (acc.length+1) 39).setL none) hk5 (St.ge.trans (aCc (hfree u rfl)) (aC7 (λb o hb=>?_) (λ_=>rfl)));simp only[aH]at hb⊢;by_cases hb1:q=b
     .subst hb1;simp only[n1,n1.symm,e6q,e6q.symm,e7q,e7q.symm,cM,cI]at hb⊢;simpa [cG,Tm.cs]using hb
     .by_cases hb2:r=b
      .subst hb2;simp only[hb1,e6,e6.symm,e7,e7.symm,cM,cI]at hb⊢;exact hb
      .simp only[hb1,hb2,cI]at hb⊢;by_cases hb3:b6=b
       .subst hb3;rw[hf6]at hb;cases hb
       .by_cases hb4:b7=b
        .subst hb4;rw[hf7]at hb;cases hb
        .simp only[hb3,hb4,cI];exact hb
end
end
section
section
variable {T:List Tok} {fin:Fault} {d:Dc} {first:Tok} {i n:Nat} {s:St} {r:Nat} {KV Kp:St->A->Prop}
theorem aEA(h:s.getO r=some (aZ T fin d first i n))(m:KV s (.bool false)):Den cx 224 [.ptr r 0] KV Kp s:=by
 simp only[go_sem]at h;(refine aL func224 [0,2] ?_;simp only[go_sem,ntmps224,f224]);simp only[go_sem,h];exact aN m
theorem aK0(h:s.getO r=some (aZ T fin d first i n))(m:KV s (.str [])):Den cx 225 [.ptr r 0] KV Kp s:=by
 simp only[go_sem]at h;(refine aL func225 [0,2,12] ?_;simp only[go_sem,ntmps225,f225]);simp only[go_sem,h];exact aN m
theorem aF1{α:Type}(fin:Fault)(sep:aC)(one:List α->List Tok->Nat->Rd α):∀(f:Nat) (a:List α) (l:List α) (w:List Tok) (n:Nat) (p:List α->List Tok->Nat->Prop) (b:Fault->Prop),
  (dO fin sep (λacc w n=>(one acc w n).bind λa w n=>.ok (acc++[a]) w n) f a w n).to p b ->
  (dO fin sep (λ(c:List α × List α) w n=>((one c.1 w n).bind λa w n=>Rd.ok (c.1++[a],a) w n).bind λq w n=>.ok (q.1,c.2++[q.2]) w n) f (a,l) w n).to (λc w n=>p c.1 w n) b
 | 0,a,l,w,n,p,b,h=>h
 | f+1,a,l,w,n,p,b,h=>by
  simp only[dO,bH]at h⊢;refine aT h (λx w n h=>?_) (λ_ h=>h);simp only[bR]at h⊢;split
  .rename_i e;rw[aE e]at h;exact aF1 fin sep one f (a++[x]) (l++[x]) w.tail n p b h
  .rename_i e;rw[aD e]at h;exact h
theorem aLQ(k:Nat)(bc:k<=60)(IH:tF T fin r k)(t:Tok)(ht:t∈T)(hr:s.getO r=some (aZ T fin d first i n))(hi:i<=T.length)(hT:TOk T)(hn:n<=2000)
  (U:(aAW false fin first (iL false fin first k) t (T.drop i) n).to (PK T i (λj m=>s.setO r (aZ T fin d first j m)) Tm.enc KV) (PB s r Kp)) :
  Den cx 210 [.ptr r 0,t.enc,.int .i64 ((60-k:Nat):Int)] KV Kp s:=by
 simp only[go_sem];(refine aL func210 [0,1,2,3,4,5,6,7,8,9,19,29,47] ?_;simp only[go_sem,ntmps210,f210]);(refine aM λb3 z=>?_);simp only[go_sem,z];(refine aM λb4 B=>?_);simp only[go_sem,z,B];(refine aM λb5 F=>?_);simp only[go_sem,z,B,F];(refine aM λb6 G=>?_);have L:=aS hr z;have O:=aS hr B.2;have M:=aS hr F.2.2;have S:=aS hr G.2.2.2;have bm:=hr;simp only[go_sem]at bm;have bp:=hT.len;simp only[go_sem,z,B,F,G,L,O,M,S];rw[aAW.eq_def]at U;cases c1:decide (t.text=[116,114,117,101]);rotate_left
 .rw[aE (gQ c1),bR]at U;simp only[go_sem,z,B,F,G,L,O,M,S,c1];refine aEA (T:=T) (fin:=fin) (d:=d) (first:=first) (i:=i) (n:=n) gH ?_;simp only[go_sem,z,B,F,G,L,O,M,S,c1];exact DK.mk (U i (bL _) hi rfl hn) (St.gx.ge aR gH) (Tm.le_leaf _ _ _ _)
 rw[aD (gQ c1)]at U;simp only[go_sem,z,B,F,G,L,O,M,S,c1];cases c2:decide (t.text=[102,97,108,115,101]);rotate_left
 .rw[aE (gQ c2),bR]at U;simp only[go_sem,z,B,F,G,L,O,M,S,c1,c2];refine aEA (T:=T) (fin:=fin) (d:=d) (first:=first) (i:=i) (n:=n) gH ?_;simp only[go_sem,z,B,F,G,L,O,M,S,c1,c2];exact DK.mk (U i (bL _) hi rfl hn) (St.gx.ge aR gH) (Tm.le_leaf _ _ _ _)
 rw[aD (gQ c2)]at U;simp only[go_sem,z,B,F,G,L,O,M,S,c1,c2];refine gC (T:=T) (fin:=fin) (d:=d) (first:=first) (i:=i) (n:=n) _ gH hi hT ?_;cases c3:cJ [58] (T.drop i)with
 | true =>
  rw[aE c3,bH,jO]at U;have b1:=iI c3;simp only[go_sem,z,B,F,G,L,O,M,S];(refine bB (OT.r 0 6) [(3,[1])] ?_;simp only[go_sem,z,B,F,G,L,O,M,S]);refine fN (T:=T) (fin:=fin) (d:=d) (first:=first) (i:=i+1) (n:=n) gH b1 hT (aT U (λx w m h Z hw hm=>?_) (λf h=>PB.mk aR h));subst hm;rw[bR]at h;simp only[go_sem,z,B,F,G,L,O,M,S];exact DK.mk (h (i+1+1) aB Z hw hn) (St.gx.ge aR gH) (Tm.le_leaf _ _ _ _)
 | false =>
  rw[aD (by simp[c3]),bH]at U;simp only[go_sem,z,B,F,G,L,O,M,S];(refine bB (OT.r 0 8) [(3,[1]),(6,[1,2])] ?_;simp only[go_sem,z,B,F,G,L,O,M,S]);refine aK0 (T:=T) (fin:=fin) (d:=d) (first:=first) (i:=i) (n:=n) gH ?_;simp only[go_sem,z,B,F,G,L,O,M,S];refine⟨by have:=hT.txt t ht;unfold maxLen;omega,?_⟩;rw[dQ];(refine aM λb7 H=>?_);have e7:=aS hr H.2.2.2.2;simp only[go_sem,z,B,F,G,L,O,M,S,H,e7];refine eA (T:=T) (fin:=fin) (d:=d) (first:=first) (i:=i) (n:=n) _ gH hi hT (aT U (λ_ w m h b1 hw hm=>?_) (λf h=>PB.mk aR h));subst hw hm;simp only[go_sem,z,B,F,G,L,O,M,S,H,e7];refine gC (T:=T) (fin:=fin) (d:=d) (first:=first) (i:=i+1) (n:=_) _ gH b1 hT ?_;cases c4:cJ [41] (T.drop (i+1))with
  | true =>
   rw[aE c4,bR]at h;have Z:=iI c4;simp only[go_sem,z,B,F,G,L,O,M,S,H,e7];refine DK.mk (h (i+1+1) aB Z aW hn) (St.gx.ge aR gH) ?_;exact Tm.le_leaf _ _ _ _
  | false =>
   rw[aD (by simp[c4]),bH]at h;simp only[go_sem,z,B,F,G,L,O,M,S,H,e7]
   refine aB3 (fin:=fin) (σ:=List Tm) (α:=Tm) (X:=Option Nat) (r:=r) Tm.enc Tm.hz Tm.ho hT
    (λs' acc tk i n=>eV T fin d first 5 t.text b7 r s' acc tk i n) (λs' acc tk i=>EntQ b3 b5 b7 r k s' acc tk i) (λacc w n=>(wC false fin first (iL false fin first k) acc w n).bind λa w n=>.ok (acc++[a],a) w n) 226 [] [.ptr b7 0,.ptr b3 0,.ptr b5 0]
    (λs' a x i n=>⟨d,first,aHb e7.2,aFL⟩) (λs' a x i n t v h ht=>?_) (λs' a x i n t v u ht h=>?_) (λs' a x i n t v ht h=>⟨h.dropT,aFo ht⟩)
    (λs' a x i h=>⟨by have:=h.len;omega,h.h2,h.h3,h.hq,h.ne,h.nil,h.free⟩) (λs' a x i n h=>fD (dM (cE h.hq (dX _ _))) h.free)
    (λs' a x i n bq br h bf bj b9=>aMO k b3 b5 b7 t.text bc IH hT a x h bf bj (by rw[bH]at b9;exact aT b9 (λ_ _ _ h=>h) (λ_ h=>h)))
    [] none (i+1) _ ?_ b1 hn ?_
   .have b0:=ht;rw[uU]at b0;have hx:x≠some t:=λe=>by rw[aE e]at b0;cases b0
    rw[aD hx]at b0;exact⟨b0,h.setT hx,aFx hx⟩
   .have hx:=h.unT.1;refine⟨by rw[uU,aD hx,cF,aE rfl],h.dropT.setT hx,aFJ hx⟩
   .refine⟨aX _,gH,gH,?_,⟨e7.2,?_,?_,L.1,M.1⟩,λ_=>rfl,λt e=>(by cases e)⟩
    .simp only[aH,bJ,reduceIte,H]
    .exact H.2.2.2.1.2
    .exact H.2.1.2
   refine aT (aF1 _ _ _ _ _ [] _ _ _ _ h) (λc w m2 b2 j y hj bg hw hm hy=>?_) (λf h s1 o hg bl=>h.at (hg.trans aR) bl);obtain⟨l,ul⟩:=c;simp only at b2 hy;subst hw;rw[bH]at b2;have b8:∀t,y=some t->s.getT t=none:=hy.free
   have bk:=hy.nil;simp only[eV];simp only[go_sem,z,B,F,G,L,O,M,S,H,e7];refine eA (T:=T) (fin:=fin) (d:=d) (first:=first) (i:=j) (n:=m2) _ (by simp only[dR,bW,aH,bJ,reduceIte,eF,z,B,F,G,L,O,M,S,H,e7]<;>(first|done|rfl|assumption)) bg hT (aT b2 (λ_ w3 m3 bb bd bn bh=>?_) (λf h=>PB.mk (by repeat (first|exact dX _ _|refine fD ?_ b8|refine dM ?_|refine cE z ?_|refine cE B.2 ?_|refine cE F.2.2 ?_|refine cE G.2.2.2 ?_|refine cE H.2.2.2.2 ?_)) h));rw[bR]at bb;subst bh;simp only[go_sem,z,B,F,G,L,O,M,S,H,e7];refine⟨qI y _,?_⟩;refine DK.mk (bb (j+1) aB bd bn hm) (St.gx.ge (by repeat (first|exact dX _ _|refine fD ?_ b8|refine dM ?_|refine cE z ?_|refine cE B.2 ?_|refine cE F.2.2 ?_|refine cE G.2.2.2 ?_|refine cE H.2.2.2.2 ?_)) (by simp only[dR,bW,aH,bJ,reduceIte,eF,z,B,F,G,L,O,M,S,H,e7]<;>(first|done|rfl|assumption))) ?_;rw[cG];exact A.le.agg ⟨⟨bF _,rfl⟩,⟨bF _,rfl⟩,⟨bF _,rfl⟩,⟨bF _,rfl⟩,⟨gK y _ (λe=>by rw[bk e];rfl),rfl⟩,⟨A.le.nil,rfl⟩,trivial⟩
end
end
section
section
variable {T:List Tok} {fin:Fault} {r:Nat}
theorem aNG(hT:TOk T):∀k,k<=60->tF T fin r k:=by
 intro k
 induction k with
 | zero =>
  intro _ s d first i n KV Kp hr S hn B
  have b1:decide ((60:Int)<((61:Nat):Int))=true:=by decide
  have b2:decide ((60:Int)<((61-0:Nat):Int))=true:=by decide
  (refine aL func190 [0,1,4,5,10,14,27,28,33,38] ?_;simp only[go_sem,ntmps190,f190]);(refine aM λb4 y=>?_);have G:=aS hr y;simp only[go_sem,y,G];refine gS (T:=T) (fin:=fin) (d:=d) (first:=first) (i:=i) (n:=n) gH S ?_;cases L:T.drop i with
  | nil=>rw[L]at B;exact B.at aR gH
  | cons t w =>
   rw[L]at B;simp only[go_sem,y,G];(refine aM λb5 z=>?_);have H:=aS hr z.2;simp only[go_sem,y,G,z,H];refine zZ (T:=T) (fin:=fin) (d:=d) (first:=first) (i:=i) (n:=n) gH S ?_;rw[L];simp only[iL]at B⊢;cases hb:t.begins with
   | true =>
    rw[hb]at B;simp only[cM,dE]at B;simp only[go_sem,y,G,z,H,b1,b2];refine lZ (T:=T) (fin:=fin) (d:=d) (first:=first) (i:=i) (n:=n) 19 gH S hT ?_;rw[L];exact B.at aR gH
   | false =>
    rw[hb]at B;simp only[cQ,cI,dE]at B;simp only[go_sem,y,G,z,H];refine lZ (T:=T) (fin:=fin) (d:=d) (first:=first) (i:=i) (n:=n) 11 gH S hT ?_;rw[L];exact B.at aR gH
 | succ k ih =>
  intro b7 s d first i n KV Kp hr S hn B
  rw[show(61-(k+1):Nat)=60-k by omega];have IH:=ih aB;have b8:=hT.len;have b0:decide ((60:Int)<((60-k:Nat):Int))=false:=by rw[gP];omega
  (refine aL func190 [0,1,4,5,10,14,27,28,33,38] ?_;simp only[go_sem,ntmps190,f190]);(refine aM λb4 y=>?_);have G:=aS hr y;simp only[go_sem,y,G];refine gS (T:=T) (fin:=fin) (d:=d) (first:=first) (i:=i) (n:=n) gH S ?_;cases L:T.drop i with
  | nil=>rw[L]at B;exact B.at aR gH
  | cons t w =>
   rw[L]at B;obtain⟨h1,h2,h3,h4⟩:=iR L;simp only[go_sem,y,G];(refine aM λb5 z=>?_);have H:=aS hr z.2;simp only[go_sem,y,G,z,H];refine zZ (T:=T) (fin:=fin) (d:=d) (first:=first) (i:=i) (n:=n) gH S ?_;rw[L];simp only[iL]at B⊢;cases hb:t.begins with
   | false =>
    rw[hb]at B;simp only[cQ,cI,dE]at B;simp only[go_sem,y,G,z,H];refine lZ (T:=T) (fin:=fin) (d:=d) (first:=first) (i:=i) (n:=n) 11 gH S hT ?_;rw[L];exact B.at aR gH
   | true =>
    rw[hb]at B;simp only[cM,bH]at B;simp only[go_sem,y,G,z,H,b0];refine aGn (T:=T) (fin:=fin) (d:=d) (first:=first) (i:=i) (n:=n) gH hn ?_
    have b3:(tL first (T.drop i) n).to (λ_ w' U=>w'=T.drop i->U<=2000->((if t.kind=2 then Rd.ok (Tm.mk 1 t.n [] [] [] []) w U else if t.kind=3 then Rd.ok (Tm.mk 3 0 t.text [] [] []) w U else if t.kind=1 then aAW false fin first (iL false fin first k) t w U else rM fin first (iL false fin first k) (decide (k=0)) t w U)).to (PK T (i+1) (λj m=>s.setO r (aZ T fin d first j m)) Tm.enc KV) (PB s r Kp)) (PB s r Kp):=by
     unfold tL at B⊢;split
     .rename_i hc;rw[aE hc]at B;exact B
     .rename_i hc;rw[aD hc]at B;exactλ_ _=>B
    refine aT b3 (λ_ w' U F b6 M=>?_) (λf h=>PB.mk aR h);have F:=F b6 M;simp only[go_sem,y,G,z,H,bM i aB]
    (apply aQ<;>intro h)<;>simp only[go_sem,h,y,G,z,H]
    .have x2:t.kind=2:=gQ h;rw[aE x2,bR]at F
     (try simp only[go_sem,y,G,z,H])
     exact DK.mk (F (i+1) (bL _) h2 h3 M) (St.gx.ge aR gH) (Tm.le_leaf _ _ _ _)
    have x2:¬ t.kind=2:=gQ h;rw[aD x2]at F
    (try simp only[go_sem,y,G,z,H])
    (apply aQ<;>intro h)<;>simp only[go_sem,h,y,G,z,H]
    .have x3:t.kind=3:=gQ h;rw[aE x3,bR]at F
     (try simp only[go_sem,y,G,z,H])
     exact DK.mk (F (i+1) (bL _) h2 h3 M) (St.gx.ge aR gH) (Tm.le_leaf _ _ _ _)
    have x3:¬ t.kind=3:=gQ h;rw[aD x3]at F
    (try simp only[go_sem,y,G,z,H])
    have O:∀(a:Tm) (w:List Tok) (m:Nat),PK T (i+1) (λj m=>s.setO r (aZ T fin d first j m)) Tm.enc KV a w m ->
      ∀(j:Nat),i+1<=j->j<=T.length->T.drop j=w->m<=2000->KV (s.setO r (aZ T fin d first j m)) (.agg a.cs):=λa w m h j h1 h2 h3 h4=>by
     rw[<-cG];exact h j h1 h2 h3 h4
    (apply aQ<;>intro h)<;>simp only[go_sem,h,y,G,z,H]
    .have x1:t.kind=1:=gQ h;rw[aE x1,<-h3]at F
     (try simp only[go_sem,y,G,z,H])
     refine aLQ (T:=T) (fin:=fin) (d:=d) (first:=first) (i:=i+1) (n:=U) k aB IH t h4 gH h2 hT M (aT F (λa w m h j hj Z L hm=>?_) (λf h=>PB.mk aR h));have h':=O _ _ _ h j hj Z L hm;simp only[go_sem]at h';simp only[go_sem,y,G,z,H,cG];exact aF h' (St.gx.ge aR gH)
    .have x1:¬ t.kind=1:=gQ h;rw[aD x1,<-h3]at F
     (try simp only[go_sem,y,G,z,H])
     refine aKR (T:=T) (fin:=fin) (d:=d) (first:=first) (i:=i+1) (n:=U) k aB IH t gH h2 hT M h4 (aT F (λa w m h j hj Z L hm=>?_) (λf h=>PB.mk aR h));have h':=O _ _ _ h j hj Z L hm;simp only[go_sem]at h';simp only[go_sem,y,G,z,H,cG];exact aF h' (St.gx.ge aR gH)
end
end
section
section
variable {T:List Tok} {fin:Fault} {d:Dc} {first:Tok} {i n:Nat} {s:St} {r:Nat} {KV Kp:St->A->Prop}
theorem qF(hT:TOk T)(O:s.getO r=some (aZ T fin d first i n))(hi:i<=T.length)(hn:n<=2000)
  (hk:(lA false fin (T.drop i) n).to (PK T (i+1) (λj m=>s.setO r (aZ T fin d first j m)) Tm.enc KV) (PB s r Kp)):Den cx 161 [.ptr r 0] KV Kp s:=by
 (refine aL func161 [0,2,3,4,5] ?_;simp only[go_sem,ntmps161,f161]);have B:=O;simp only[go_sem]at B;(intro b2 y;try simp only[cN,bW,bJ]at y);have H:=aS O (iE y);simp only[go_sem,B,y,H];(refine bB (OT.r 0 11) [(8,[3,7]),(9,[7])] ?_;simp only[go_sem,B,y,H]);(intro b3 F;try simp only[cN,bW,bJ]at F);have M:=aS O (iE F);simp only[go_sem,B,y,H,F,M]
 have z:(match T.drop i with|t::w=>(match iL false fin t 60 (T.drop i) 0 with|.ok a w _=>Rd.ok a w n|.bad f=>.bad f).to (PK T (i+1) (λj m=>s.setO r (aZ T fin d first j m)) Tm.enc KV) (PB s r Kp)|[]=>PB s r Kp fin):=by
  unfold lA at hk;revert hk;cases T.drop i with
  | nil=>exactλh=>h
  | cons t w=>exactλh=>h
 refine gS (T:=T) (fin:=fin) (d:=d) (first:=first) (i:=i) (n:=n) gH hi ?_;cases U:T.drop i with
 | nil=>rw[U]at z;exact z.at aR gH
 | cons t w =>
  rw[U]at z;simp only at z⊢;simp only[go_sem,B,y,H,F,M];refine aNG hT 60 (bL _) _ d t i 0 _ _ gH hi (aX _) ?_;rw[U];cases ht:iL false fin t 60 (t::w) 0 with
  | bad f=>rw[ht]at z;exact PB.mk aR z
  | ok a w2 m =>
   rw[ht]at z;intro j hj S Z hm;have L:=z j hj S Z hn;simp only[cG]at L;simp only[go_sem,B,y,H,F,M];(intro b5 G;try simp only[cN,bW,bJ]at G);have e5:=aS O (iE G);simp only[go_sem,B,y,H,F,M,G,e5];exact aF L (St.gx.ge aR gH)
theorem cO{s1:St}{f:Fault}(m:s1.gx s r)(h:∀s1 o,s1.gx s r->s1.getO r=some o->Kp s1 (.iface 51 f.enc)):PB s1 r (DK Kp) f:=λo=>aN (h _ o (dM m) (by rw[aH,aE rfl]))
def yR(fin:Fault)(a:Nat)(w:List Tok)(n:Nat):Rd Tm:=match w with
 | []=>.bad fin
 | t::r=>if t.begins=true then(aDu fin a 20 (t::r) n).bind λ_ w n=>lA false fin w n else lA false fin (t::r) n
def nL(T:List Tok)(fin:Fault)(d:Dc)(first:Tok)(h r:Nat)(s:St)(a i n:Nat):St :=
 (s.setO h (.cells 3 [.int .i64 (a:Int)])).setO r (aZ T fin d first i n)
structure CndQ (b1 b3 r:Nat) (s:St) (a i:Nat):Prop where
 len:a<=i
 h1:s.getO b1=some (.cells 130 [.ptr r 0])
 h3:s.getO b3=none
 ne:b1≠r/\b3≠r/\b1≠b3
theorem aLp(hT:TOk T)(b1 Z a:Nat)(hQ:CndQ b1 Z r s a i)(hi:i<=T.length)(hn:n<=2000)
  (z : (yR fin a (T.drop i) n).to (fun x w n' => ∀ j,i + 1 ≤ j → j ≤ T.length → T.drop j = w → n' ≤ 2000 → KV (nL T fin d first Z r s (a + 1) j n') x.enc)
   (λf=>∀s1 o,s1.gx s r->s1.getO r=some o->Kp s1 (.iface 51 f.enc))):Den cx 192 [.ptr b1 0,.ptr Z 0] KV Kp (nL T fin d first Z r s a i n):=by
 obtain⟨b7,S,h3,B,F,G⟩:=hQ;have b6:=hT.len;(refine aL func192 [0,1,2,4] ?_;simp only[go_sem,ntmps192,f192]);unfold nL;have m1:=B.symm;have m2:=F.symm;have m3:=G.symm;(refine aM λb2 y=>?_);have e2:=aS S y.2.2;simp only[go_sem,B,F,G,B.symm,F.symm,G.symm,S,y,e2];refine zZ (T:=T) (fin:=fin) (d:=d) (first:=first) (i:=i) (n:=n) gH hi ?_
 have H:∀(O:St->A->Prop) (s2:St),s2.gx s r->s2.getO r=some (aZ T fin d first i n) ->
   (∀(j:Nat) (x:Tm) (m:Nat),i+1<=j->j<=T.length->m<=2000->(∀w,T.drop j=w->KV (nL T fin d first Z r s (a+1) j m) x.enc)->O (s2.setO r (aZ T fin d first j m)) x.enc) ->
   (lA false fin (T.drop i) n).to (fun x w n' => ∀ j,i + 1 ≤ j → j ≤ T.length → T.drop j = w → n' ≤ 2000 → KV (nL T fin d first Z r s (a + 1) j n') x.enc)
    (λf=>∀s1 o,s1.gx s r->s1.getO r=some o->Kp s1 (.iface 51 f.enc))->Den cx 161 [.ptr r 0] O (DK Kp) s2:=by
  intro O s2 hg b5 b4 U;refine qF hT b5 hi hn (aT U (λx w m h j hj M U hm=>b4 j x m hj M hm λw' b8=>?_) (λf h=>cO hg h));exact h j hj M U hm
 cases U:T.drop i with
 | nil=>rw[U]at z;exact cO aR z
 | cons t w =>
  rw[U]at z H;simp only[yR]at z⊢;cases hb:t.begins with
  | true =>
   rw[hb]at z;simp only[cM,bH,aDu]at z;simp only[go_sem,B,F,G,B.symm,F.symm,G.symm,S,y,e2];refine jR (T:=T) (fin:=fin) (d:=d) (first:=first) (i:=i) (n:=n) _ _ gH hi ?_;by_cases b0:20<=a
   .rw[aE b0]at z;rw[aE aB,U];exact cO aR z
   .rw[aD b0,bR]at z;rw[aD aB];simp only[go_sem,B,F,G,B.symm,F.symm,G.symm,S,y,e2,bM a aB];refine H _ _ aR gH (λj x m hj M hm h=>?_) z;have L:=h _ rfl;simp only[cG,nL]at L;simp only[go_sem,B,F,G,B.symm,F.symm,G.symm,S,y,e2,cG];exact aF L bK
  | false =>
   rw[hb]at z;simp only[cQ,cI]at z;simp only[go_sem,B,F,G,B.symm,F.symm,G.symm,S,y,e2,bM a aB];refine H _ _ aR gH (λj x m hj M hm h=>?_) z;have L:=h _ rfl;simp only[cG,nL]at L;simp only[go_sem,B,F,G,B.symm,F.symm,G.symm,S,y,e2,cG];exact aF L bK
theorem aFi{α:Type}(fin:Fault)(sep:aC)(one:List α->List Tok->Nat->Rd α):∀(f:Nat) (a:List α) (w:List Tok) (n:Nat) (p:List α->List Tok->Nat->Prop) (b:Fault->Prop),
  (dO fin sep (λacc w n=>(one acc w n).bind λa w n=>.ok (acc++[a]) w n) f a w n).to p b ->
  (dO fin sep (λ(c:List α × List α) w n=>((one c.1 w n).bind λa w n=>Rd.ok (c.1++[a],a) w n).bind λq w n=>.ok (q.1,c.2++[q.2]) w n) f (a,a) w n).to (λc w n=>c.1=c.2/\p c.2 w n) b
 | 0,a,w,n,p,b,h=>h
 | f+1,a,w,n,p,b,h=>by
  simp only[dO,bH]at h⊢;refine aT h (λx w n h=>?_) (λ_ h=>h);simp only[bR]at h⊢;split
  .rename_i e;rw[aE e]at h;exact aFi fin sep one f (a++[x]) w.tail n p b h
  .rename_i e;rw[aD e]at h;exact⟨rfl,h⟩
theorem aLz(w:List Tok)(n:Nat):rR false fin w n=if cJ [105,102] w=true then nF fin (λacc w n=>yR fin acc.length w n) [] w.tail n else .ok [] w n:=by
 unfold rR yR;split
 .congr 1
 .rfl
theorem aFI(hT:TOk T)(hr:s.getO r=some (aZ T fin d first i n))(hi:i<=T.length)(hn:n<=2000)
  (M:(rR false fin (T.drop i) n).to (PK T i (λj m=>s.setO r (aZ T fin d first j m)) (λl=>.list none (l.map Tm.enc)) KV) (PB s r Kp)):Den cx 162 [.ptr r 0] KV Kp s:=by
 rw[aLz]at M;(refine aL func162 [0,1,2,3,6] ?_;simp only[go_sem,ntmps162,f162]);(intro S z;try simp only[cN,bW,bJ]at z);have G:=aS hr (iE z);simp only[go_sem,z,G];refine gC (T:=T) (fin:=fin) (d:=d) (first:=first) (i:=i) (n:=n) _ gH hi hT ?_;cases c:cJ [105,102] (T.drop i)with
 | false =>
  rw[aD (by simp[c]),bR]at M;simp only[go_sem,z,G];exact DK.mk (M i (bL _) hi rfl hn) (St.gx.ge aR gH) A.le.nil
 | true =>
  rw[aE c,jO]at M;have b2:=iI c;simp only[go_sem,z,G];(intro L B;try simp only[cN,bW,bJ]at B);have Z:=aS hr (iE B);simp only[go_sem,z,G,B,Z]
  refine fA (s':=nL T fin d first L r (s.setO S (.cells 130 [.ptr r 0])) 0 (i+1) n) ?_ (aB3 (fin:=fin) (σ:=List Tm) (α:=Tm) (X:=Unit) (r:=r) Tm.enc Tm.hz Tm.ho hT
    (λs' acc _ i n=>nL T fin d first L r s' acc.length i n) (λs' acc _ i=>CndQ S L r s' acc.length i) (λacc w n=>(yR fin acc.length w n).bind λa w n=>.ok (acc++[a],a) w n) 192 [] [.ptr S 0,.ptr L 0]
    (λs' a x i n=>⟨d,first,by unfold nL;rw[aH,aE rfl],by unfold nL;rw[lW];exact aG _⟩) (λs' a x i n t v h U=>⟨U,⟨h.len,h.h1,h.h3,h.ne⟩,aG _⟩)
    (λs' a x i n t v u U h=>⟨?_,⟨h.len,h.h1,h.h3,h.ne⟩,?_⟩) (λs' a x i n t v U h=>⟨⟨h.len,h.h1,h.h3,h.ne⟩,?_⟩)
    (λs' a x i h=>⟨by have:=h.len;omega,h.h1,h.h3,h.ne⟩) (λs' a x i n h=>dM (cE h.h3 (dX _ _)))
    (λs' a x i n b6 b7 h b0 b4 O=>aLp hT S L a.length h b0 b4 ?_)
    [] () (i+1) n ?_ b2 hn ?_)
  .exact bK
  .show(s'.setT t v).getT t=some v;rw[cF,aE rfl]
  .exact mT (mT (zR s' t v u))
  .exact mT (mT (zU U))
  .rw[bH]at O;refine aT O (λx w m H j hj F hw hm=>?_) (λ_ h=>h);have h3:=H j () aB F hw hm ⟨by have:=h.len;simp only[aI,aO,aU];omega,h.h1,h.h3,h.ne⟩;simpa only[aI,aO,aU]using h3
  .refine⟨aX _,gH,?_,?_⟩
   .simp only[aH,bJ,reduceIte,B]
   .simp only[B,G,Z,bJ,eF,gT,nW]
  .refine aT (aFi _ _ _ _ _ _ _ _ _ M) (λc w m H j y hj F hw hm hy=>?_) (λf h s1 o hg b5=>h.at (hg.trans aR) b5);obtain⟨l,ul⟩:=c;obtain⟨e,H⟩:=H;simp only at e H;subst e;have h3:=H j aB F hw hm;unfold nL;simp only[go_sem,z,G,B,Z];exact aF h3 bK
end
end
section
section
variable {T:List Tok} {fin:Fault} {d:Dc} {first:Tok} {i n:Nat} {s:St} {r:Nat} {KV Kp:St->A->Prop}
theorem aAv(M:TOk T)(hr:s.getO r=some (aZ T fin d first i n))(hi:i<=T.length)(hn:n<=2000)
  (G:(tN false fin (T.drop i) n).to (PK T (i+1) (λj m=>s.setO r (aZ T fin d first j m)) Cel.enc KV) (PB s r Kp)):Den cx 196 [.ptr r 0] KV Kp s:=by
 (refine aL func196 [0,2,3,4] ?_;simp only[go_sem,ntmps196,f196]);(intro b2 y;try simp only[cN,bW,bJ]at y);have F:=aS hr (iE y);simp only[go_sem,y,F];refine gS (T:=T) (fin:=fin) (d:=d) (first:=first) (i:=i) (n:=n) gH hi ?_;cases hw:T.drop i with
 | nil=>rw[hw]at G;exact G.at aR gH
 | cons t w =>
  rw[hw]at G;obtain⟨g1,g2,g3,g4⟩:=iR hw;simp only[tN,bH]at G;simp only[go_sem,y,F];(intro b3 z;try simp only[cN,bW,bJ]at z);have H:=aS hr (iE z);simp only[go_sem,y,F,z,H];(refine bB (OT.l [0,2,3,4,5,1,6,7,8] .nil) [(1,[3,5]),(7,[3,5])] ?_;simp only[go_sem,y,F,z,H]);rw[<-hw]at G;(refine fN (T:=T) (fin:=fin) (d:=d) (first:=first) (i:=i) (n:=n) gH hi M (aT G (λx1 w1 m1 S b5 bb bj=>?_) (λf h=>PB.mk aR h));subst m1;rw[<-bb]at S);simp only[go_sem,y,F,z,H];(intro b4 B;try simp only[cN,bW,bJ]at B);have L:=aS hr (iE B);simp only[go_sem,y,F,z,H,B,L];(refine eA (T:=T) (fin:=fin) (d:=d) (first:=first) (i:=i+1) (n:=n) _ gH b5 M (aT S (λ_ w2 m2 U b6 bc bk=>?_) (λf h=>PB.mk aR h));subst m2;rw[<-bc]at U);simp only[go_sem,y,F,z,H,B,L];(refine fN (T:=T) (fin:=fin) (d:=d) (first:=first) (i:=i+1+1) (n:=n) gH b6 M (aT U (λx3 w3 m3 Z b7 bd bl=>?_) (λf h=>PB.mk aR h));subst m3;rw[<-bd]at Z);simp only[go_sem,y,F,z,H,B,L];(refine eA (T:=T) (fin:=fin) (d:=d) (first:=first) (i:=i+1+1+1) (n:=n) _ gH b7 M (aT Z (λ_ w4 m4 b0 b8 bf bm=>?_) (λf h=>PB.mk aR h));subst m4;rw[<-bf]at b0);simp only[go_sem,y,F,z,H,B,L];(refine qF (T:=T) (fin:=fin) (d:=d) (first:=first) (i:=i+1+1+1+1) (n:=n) M gH b8 hn (aT b0 (λa5 w5 m5 b1 j5 bh O bg b9=>?_) (λf h=>PB.mk aR h));rw[<-bg]at b1);have G:=b1 j5 aB O rfl b9;simp only[Cel.enc,Cel.cs]at G;simp only[go_sem]at G;simp only[go_sem,y,F,z,H,B,L,cG];exact aF G bK
def vY(T:List Tok)(fin:Fault)(d:Dc)(first:Tok)(b r:Nat)(x:aC)(s:St)(tk:Option Nat)(h:List aC)(i n:Nat):St :=
 gs ((s.setO b (.cells 64 [.str x,gv tk (h.map .str),.str [],.nils,.int .i64 0,.int .i64 0,.nils])).setO r (aZ T fin d first i n)) tk h.length 9
theorem aNf(hT:TOk T)(hr:s.getO r=some (aZ T fin d first i n))(hi:i<=T.length)(hn:n<=2000)
  (hk:(aDL fin (T.drop i) n).to (PK T i (λj m=>s.setO r (aZ T fin d first j m)) Opr.enc KV) (PB s r Kp)):Den cx 160 [.ptr r 0] KV Kp s:=by
 have bj:=hT.len;simp only[aDL,bH]at hk;(refine aL func160 [0,2,3,4,13,24] ?_;simp only[go_sem,ntmps160,f160]);(intro b2 z;try simp only[cN,bW,bJ]at z);have G:=aS hr (iE z);simp only[go_sem,z,G];(refine fN (T:=T) (fin:=fin) (d:=d) (first:=first) (i:=i) (n:=n) gH hi hT (aT hk (λx1 w1 m1 b9 bb bl bp=>?_) (λf h=>PB.mk aR h));subst m1;rw[<-bl]at b9);simp only[go_sem,z,G];(intro b3 B;try simp only[cN,bW,bJ]at B);have L:=aS hr (iE B);simp only[go_sem,z,G,B,L];(refine eA (T:=T) (fin:=fin) (d:=d) (first:=first) (i:=i+1) (n:=n) _ gH bb hT (aT b9 (λ_ w2 m2 b8 bc bm bq=>?_) (λf h=>PB.mk aR h));subst m2;rw[<-bm]at b8);simp only[go_sem,z,G,B,L];rw[show(T.drop (i+1+1)).length=T.length-(i+1+1)by rw[cS]]at b8
 refine Ex.loop (ι:=Option Nat × List aC × Nat) (λc=>[(0,.ptr r 0),(2,.ptr b2 0),(3,.ptr b3 0)]) (λc=>vY T fin d first b3 r x1 (s.setO b2 (.cells 64 [.str [],.nils,.str [],.nils,.int .i64 0,.int .i64 0,.nils])) c.1 c.2.1 c.2.2 n)
  (fun c => (c.1 = none → c.2.1 = []) ∧ (∀ t,c.1 = some t → s.getT t = none) ∧ i + 1 + 1 ≤ c.2.2 ∧ c.2.2 ≤ T.length ∧ c.2.1.length ≤ c.2.2 ∧ ∃ k,T.length - c.2.2 < k ∧
   (tM fin k c.2.1 (T.drop c.2.2) n).to (λar w n=>(eH fin w n).to (λy w n=>PK T i (λj m=>s.setO r (aZ T fin d first j m)) Opr.enc KV ⟨x1,ar,y,[],0,0,[]⟩ w n) (PB s r Kp)) (PB s r Kp))
  (λc=>T.length-c.2.2) (none,[],i+1+1) ?_ ?_ ?_ ?_
 .exact⟨λ_=>rfl,λt e=>(by cases e),bL _,bc,aX _,_,lN _,b8⟩
 .simp only[go_sem,z,G,B,L]
 .exact bK
 .rintro⟨tk,ar,i2⟩ ⟨M,O,bg,b0,has,k,bh,H⟩;simp only at M O bg b0 has bh H;obtain⟨k,rfl⟩:∃k',k=k'+1:=⟨k-1,by omega⟩
  have hg:gZ (vY T fin d first b3 r x1 (s.setO b2 (.cells 64 [.str [],.nils,.str [],.nils,.int .i64 0,.int .i64 0,.nils])) tk ar i2 n) tk (ar.map A.str).length 9:=by rw[aK];exact eD λe=>by rw[M e];rfl
  refine bC (V:=[0,2,3,4,13,24]) _ _ _ _ ?_;unfold vY;simp only[go_sem,z,G,B,L];refine gC (T:=T) (fin:=fin) (d:=d) (first:=first) (i:=i2) (n:=n) _ gH b0 hT ?_;cases hx:cJ [45,62] (T.drop i2)with
  | true =>
   rw[tM,aE hx,bR,jO]at H;have bk:=iI hx;simp only[go_sem,z,G,B,L];(refine fN (T:=T) (fin:=fin) (d:=d) (first:=first) (i:=i2+1) (n:=n) gH bk hT (aT H (λx5 w5 m5 S bd bn br=>?_) (λf h=>PB.mk aR h));subst m5;rw[<-bn]at S);simp only[go_sem,z,G,B,L];have hk:=S (i2+1+1) aB bd rfl hn;simp only[Opr.enc,Opr.cs]at hk;simp only[go_sem]at hk;refine⟨qI _ _,?_⟩;refine DK.mk hk bK ?_;exact A.le.agg ⟨⟨bF _,rfl⟩,⟨gK _ _ (λe=>by rw[M e];rfl),rfl⟩,⟨bF _,rfl⟩,⟨A.le.nil,rfl⟩,⟨bF _,rfl⟩,⟨bF _,rfl⟩,⟨A.le.nil,rfl⟩,trivial⟩
  | false =>
   simp only[go_sem,z,G,B,L];refine gS (T:=T) (fin:=fin) (d:=d) (first:=first) (i:=i2) (n:=n) gH b0 ?_;cases hw:T.drop i2 with
   | nil=>rw[hw,tM,aD (by simp[cJ])]at H;exact H.at aR gH
   | cons t w =>
    obtain⟨g1,g2,g3,g4⟩:=iR hw;rw[hw,tM,aD (by rw[<-hw,hx];simp),bH]at H;simp only[go_sem,z,G,B,L];(intro b4 F;try simp only[cN,bW,bJ]at F);have e4:=aS hr (iE F);simp only[go_sem,z,G,B,L,F,e4]
    have b1:(t.free=true->¬ 8<=ar.length)->(eH fin (T.drop i2) n).to (λa w n=>(tM fin k (ar++[a]) w n).to (λar w n =>
      (eH fin w n).to (λy w n=>PK T i (λj m=>s.setO r (aZ T fin d first j m)) Opr.enc KV ⟨x1,ar,y,[],0,0,[]⟩ w n) (PB s r Kp)) (PB s r Kp)) (PB s r Kp):=λh=>by
     rw[hw];simp only[mK]at H;rw[aD (λhc=>h hc.1 hc.2)]at H;exact H
    cases c1:decide (t.kind=1)
    .have S:=b1 (λhf=>by simp[Tok.free,c1]at hf);simp only[go_sem,z,G,B,L,F,e4,c1];(refine bB (OT.r 0 8) [(3,[1])] ?_;simp only[go_sem,z,G,B,L,F,e4]);(refine fN (T:=T) (fin:=fin) (d:=d) (first:=first) (i:=i2) (n:=n) gH b0 hT (aT S (λx6 w6 m6 U b7 b6 bf=>?_) (λf h=>PB.mk aR h));subst m6;rw[<-b6]at U);simp only[go_sem,z,G,B,L,F,e4];refine⟨by decide,λy Z=>by simp only[cC]at Z;subst Z;rfl,cT rfl rfl (by rw[aK];exact eD λe=>by rw[M e];rfl) (λy Z=>?_) (by simp only[aK,aO,aU];omega) (λt ht=>?_)⟩
     .simp only[cD]at Z;obtain⟨q,_,rfl⟩:=Z;rfl
     have b5:=eX ht O;rw[eP ht];simp only[go_sem,z,G,B,L,F,e4];refine⟨(some t,ar++[x6],i2+1),⟨λe=>(by cases e),λt' e=>by cases e;exact b5,aP,aP,by simp only[aI,aO,aU];omega,k,aP,U⟩,aP,?_⟩
     .simp only[vY,dB,bY,bN,cP,aI,aO,aU,aK];exact bK
    simp only[go_sem,z,G,B,L,F,e4,c1];refine rA _ _ _ _ ?_;simp only[go_sem,z,G,B,L,F,e4];cases c2:decide (t.text∈kF);rotate_left
    .have S:=b1 (λhf=>by simp[Tok.free,c2]at hf);simp only[go_sem,z,G,B,L,F,e4,c2];(refine bB (OT.r 0 8) [(3,[1])] ?_;simp only[go_sem,z,G,B,L,F,e4]);(refine fN (T:=T) (fin:=fin) (d:=d) (first:=first) (i:=i2) (n:=n) gH b0 hT (aT S (λx6 w6 m6 U b7 b6 bf=>?_) (λf h=>PB.mk aR h));subst m6;rw[<-b6]at U);simp only[go_sem,z,G,B,L,F,e4];refine⟨by decide,λy Z=>by simp only[cC]at Z;subst Z;rfl,cT rfl rfl (by rw[aK];exact eD λe=>by rw[M e];rfl) (λy Z=>?_) (by simp only[aK,aO,aU];omega) (λt ht=>?_)⟩
     .simp only[cD]at Z;obtain⟨q,_,rfl⟩:=Z;rfl
     have b5:=eX ht O;rw[eP ht];simp only[go_sem,z,G,B,L,F,e4];refine⟨(some t,ar++[x6],i2+1),⟨λe=>(by cases e),λt' e=>by cases e;exact b5,aP,aP,by simp only[aI,aO,aU];omega,k,aP,U⟩,aP,?_⟩
     .simp only[vY,dB,bY,bN,cP,aI,aO,aU,aK];exact bK
    simp only[go_sem,z,G,B,L,F,e4,c2,mD hg];refine jR (T:=T) (fin:=fin) (d:=d) (first:=first) (i:=i2) (n:=n) _ _ gH b0 ?_;by_cases h8:8<=ar.length
    .rw[aE aB,hw];simp only[mK]at H;rw[aE ⟨by simp[Tok.free,c1,c2],h8⟩]at H;exact PB.mk aR H
    rw[aD aB];have S:=b1 (λ_=>h8);simp only[go_sem,z,G,B,L,F,e4];(refine bB (OT.r 0 8) [(3,[1])] ?_;simp only[go_sem,z,G,B,L,F,e4]);(refine fN (T:=T) (fin:=fin) (d:=d) (first:=first) (i:=i2) (n:=n) gH b0 hT (aT S (λx6 w6 m6 U b7 b6 bf=>?_) (λf h=>PB.mk aR h));subst m6;rw[<-b6]at U);simp only[go_sem,z,G,B,L,F,e4];refine⟨by decide,λy Z=>by simp only[cC]at Z;subst Z;rfl,cT rfl rfl (by rw[aK];exact eD λe=>by rw[M e];rfl) (λy Z=>?_) (by simp only[aK,aO,aU];omega) (λt ht=>?_)⟩
    .simp only[cD]at Z;obtain⟨q,_,rfl⟩:=Z;rfl
    have b5:=eX ht O;rw[eP ht];simp only[go_sem,z,G,B,L,F,e4];refine⟨(some t,ar++[x6],i2+1),⟨λe=>(by cases e),λt' e=>by cases e;exact b5,aP,aP,by simp only[aI,aO,aU];omega,k,aP,U⟩,aP,?_⟩
    .simp only[vY,dB,bY,bN,cP,aI,aO,aU,aK];exact bK
end
end
section
def nv(es:List A):A:=match es with
 | []=>.nils
 | x::l=>.list none (x::l)
@[go_sem] theorem aPL(es:List A):(nv es).cells=[nv es]:=by cases es<;>rfl
@[go_sem] theorem aQo(es:List A):(nv es).one=true:=by cases es<;>rfl
@[go_sem] theorem aQB(s:St)(es:List A):gA s (nv es)=nv es:=by cases es<;>rfl
@[go_sem] theorem aP5(es:List A):jI (nv es)=some (.int .i64 es.length):=by cases es<;>rfl
theorem aHG(es:List A):A.le (nv es) (.list none es):=by
 cases es with
 | nil=>exact A.le.nil
 | cons x l=>exact bF _
def wN(o:Opr)(h m:A):List A:=[.str o.name,h,.str o.sort,m,.int .i64 o.prec,.int .i64 o.assoc,nv (o.strict.map (.int .i64))]
attribute [go_sem] wN
theorem aGA{α:Type}(fin:Fault)(sep:aC)(one:List α->List Tok->Nat->Rd α):∀(f:Nat) (a:List α) (w:List Tok) (n:Nat) (p:List α->List Tok->Nat->Prop) (b:Fault->Prop),
  (dO fin sep (λacc w n=>(one acc w n).bind λa w n=>.ok (acc++[a]) w n) f a w n).to p b ->
  (dO fin sep (λacc w n=>(one acc w n).bind λa w n=>.ok (acc++[a]) w n) f a w n).to (λl w n=>l≠[]/\p l w n) b
 | 0,a,w,n,p,b,h=>h
 | f+1,a,w,n,p,b,h=>by
  simp only[dO,bH]at h⊢;refine aT h (λx w n h=>?_) (λ_ h=>h);simp only[bR]at h⊢;split
  .rename_i e;rw[aE e]at h;exact aGA fin sep one f (a++[x]) w.tail n p b h
  .rename_i e;rw[aD e]at h;exact⟨by simp,h⟩
section
variable {T:List Tok} {fin:Fault} {d:Dc} {first:Tok} {i n:Nat} {s:St} {r:Nat} {KV Kp:St->A->Prop}
theorem aDA{s1:St}{L M:List Nat}{f:Fault}(y:r∈L)(m:s1.gel s L M)(h:∀s1 o,s1.gel s L M->s1.getO r=some o->Kp s1 (.iface 51 f.enc)):PB s1 r (DK Kp) f :=
 λo=>aN (h _ o (yI y m) (by rw[aH,aE rfl]))
theorem aKg(B:TOk T)(y:Nat)(H:s.getO r=some (aZ T fin d first i n))(z:s.getO y=some (.cells 130 [.ptr r 0]))(F:i<=T.length)
  (G:(vA fin 8 (T.drop i) n).to (λx w L=>i+1<=T.length->T.drop (i+1)=w->L=n->KV (s.setO r (aZ T fin d first (i+1) n)) (.int .i64 x)) (PB s r Kp)):Den cx 208 [.ptr y 0] KV Kp s:=by
 (refine aL func208 [0,1] ?_;simp only[go_sem,ntmps208,f208]);simp only[go_sem,z];refine aES 8 H F B (aT G (λx w m h a b c=>?_) (λf h=>PB.mk (dX _ _) h));simp only[go_sem];exact aN (h a b c)
theorem aFT(hT:TOk T)(b:Nat)(aA pA:A)(L:aA.one=true)(M:pA.one=true)(o:Opr)(k:Nat)(hr:s.getO r=some (aZ T fin d first i n))(hb:s.getO b=some (.cells 64 (wN o aA pA)))(y:b≠r)(hi:i<=T.length)(hn:n<=2000)(bf:T.length-i<k)
  (hk : (oG fin k o (T.drop i) n).to (fun o' w n' => ∀ j,i ≤ j → j ≤ T.length → T.drop j = w → n' ≤ 2000 → KV ((s.setO b (.cells 64 (wN o' aA pA))).setO r (aZ T fin d first j n')) (.tuple []))
   (λf=>∀s1 x,s1.gel s [b,r] []->s1.getO r=some x->Kp s1 (.iface 51 f.enc))):Den cx 189 [.ptr r 0,.ptr b 0] KV Kp s:=by
 have bk:=hT.len;(refine aL func189 [0,1,2,4,7,11,14,21,63,74,87,94,99] ?_;simp only[go_sem,ntmps189,f189]);(intro b2 B;try simp only[cN,bW,bJ]at B);have H:=aS hr (iE B);have F:=aS hb B;have bq:=y.symm;simp only[go_sem,B,H,y,y.symm,F,L,M]
 refine Ex.loop (ι:=Opr × Nat × Nat × Nat) (λc=>[(0,.ptr r 0),(1,.ptr b 0),(2,.ptr b2 0)]) (λc=>((s.setO b2 (.cells 130 [.ptr r 0])).setO b (.cells 64 (wN c.1 aA pA))).setO r (aZ T fin d first c.2.1 c.2.2.1))
  (fun c => i ≤ c.2.1 ∧ c.2.1 ≤ T.length ∧ c.2.2.1 ≤ 2000 ∧ T.length - c.2.1 < c.2.2.2 ∧ (oG fin c.2.2.2 c.1 (T.drop c.2.1) c.2.2.1).to (fun o' w n' => ∀ j,i ≤ j → j ≤ T.length → T.drop j = w → n' ≤ 2000 → KV ((s.setO b (.cells 64 (wN o' aA pA))).setO r (aZ T fin d first j n')) (.tuple []))
   (λf=>∀s1 x,s1.gel s [b,r] []->s1.getO r=some x->Kp s1 (.iface 51 f.enc)))
  (λc=>T.length-c.2.1) (o,i,n,k) ?_ ?_ ?_ ?_
 .exact⟨bL _,hi,hn,bf,hk⟩
 .simp only[go_sem,B,H,y,y.symm,F,L,M]
 .refine nA (rP ?_ (rP ?_ (uY _ _ _)))
  .rw[aH,aD H.2];exact hr
  .rw[aH,aD F.2];exact hb
 .rintro⟨o,i2,n,k⟩ ⟨b8,b0,hn,bj,z⟩;simp only at b8 b0 hn bj z;obtain⟨k,rfl⟩:∃k',k=k'+1:=⟨k-1,by omega⟩
  have b3:r∈[b,r]:=by simp
  refine bC (V:=[0,1,2,4,7,11,14,21,63,74,87,94,99]) _ _ _ _ ?_;simp only[go_sem,B,H,y,y.symm,F,L,M];refine kI (T:=T) (fin:=fin) (d:=d) (first:=first) (i:=i2) (n:=n) _ gH b0 ?_;rw[oG.eq_def]at z;simp only at z;cases hx:cJ [46] (T.drop i2)with
  | true =>
   rw[aE hx,bR]at z;simp only[go_sem,B,H,y,y.symm,F,L,M];exact aF (z i2 b8 b0 rfl hn) bK
  | false =>
   rw[aD (by rw[hx];simp)]at z;simp only[go_sem,B,H,y,y.symm,F,L,M];refine gS (T:=T) (fin:=fin) (d:=d) (first:=first) (i:=i2) (n:=n) gH b0 ?_;cases hw:T.drop i2 with
   | nil=>rw[hw]at z;exact aN (z _ (aZ T fin d first i2 n) iY gH)
   | cons t w =>
    obtain⟨g1,g2,g3,g4⟩:=iR hw;rw[hw]at z;simp only at z;simp only[go_sem,B,H,y,y.symm,F,L,M];(refine aM λb4 G=>?_);simp only[go_sem,B,H,y,y.symm,F,L,M,G]
    have bad:∀(b7:St->A->Prop) (c:Int) (s1:St),s1.gel s [b,r] []->s1.getO r=some (aZ T fin d first i2 n)->(∀s1 x,s1.gel s [b,r] []->s1.getO r=some x->Kp s1 (.iface 51 (eY fin c (t::w)).enc))->Den cx 151 [.ptr r 0,.int .i64 c] b7 (DK Kp) s1:=by
     intro b7 c s1 bc b6 hf;refine lZ c b6 b0 hT ?_;rw[hw];exact aN (hf _ _ bc b6)
    by_cases x1:t.text=[112,114,101,99]
    .have S:decide (t.text=[112,114,101,99])=true:=by rw[x1];rfl
     have U:decide (t.text=[108,101,102,116])=false:=by rw[x1];rfl
     have Z:decide (t.text=[114,105,103,104,116])=false:=by rw[x1];rfl
     have d4:decide (t.text=[115,116,114,105,99,116])=false:=by rw[x1];rfl
     simp only[go_sem,B,H,y,y.symm,F,L,M,G,S,U,Z,d4];cases O:decide (t.kind=1)
     .rw[aE (gQ O),dE]at z;simp only[go_sem,B,H,y,y.symm,F,L,M,G,O];exact bad _ _ _ iY gH z
     rw[aD (gQ O),aE x1]at z;simp only[go_sem,B,H,y,y.symm,F,L,M,G,O,S,U,Z,d4];cases c2:decide (0<o.prec)
     .rw[aD (gQ c2),bH,<-g3]at z;simp only[go_sem,B,H,y,y.symm,F,L,M,G,O,c2,S,U,Z,d4,bM i2 aB];refine aES (T:=T) (fin:=fin) (d:=d) (first:=first) (i:=i2+1) (n:=n) 20 gH g2 hT (aT z (λx w m b1 bt hw hm=>?_) (λf h=>aDA b3 iY h));subst m;rw[<-hw]at b1;simp only[go_sem,B,H,y,y.symm,F,L,M,G];refine⟨({ o with prec:=x },i2+1+1,n,k),⟨aP,aP,hn,aP,b1⟩,aP,bK⟩
     .rw[aE (gQ c2),dE]at z;simp only[go_sem,B,H,y,y.symm,F,L,M,G,O,c2,S,U,Z,d4];exact bad _ _ _ iY gH z
    by_cases x2:t.text=[108,101,102,116]
    .have S:decide (t.text=[112,114,101,99])=false:=by rw[x2];rfl
     have U:decide (t.text=[108,101,102,116])=true:=by rw[x2];rfl
     have Z:decide (t.text=[114,105,103,104,116])=false:=by rw[x2];rfl
     have d4:decide (t.text=[115,116,114,105,99,116])=false:=by rw[x2];rfl
     simp only[go_sem,B,H,y,y.symm,F,L,M,G,S,U,Z,d4];cases O:decide (t.kind=1)
     .rw[aE (gQ O),dE]at z;simp only[go_sem,B,H,y,y.symm,F,L,M,G,O];exact bad _ _ _ iY gH z
     rw[aD (gQ O),aD x1,aE x2]at z;simp only[go_sem,B,H,y,y.symm,F,L,M,G,O,S,U,Z,d4];cases c2:decide (o.assoc=0)
     .rw[aD (gQ c2),dE]at z;simp only[go_sem,B,H,y,y.symm,F,L,M,G,O,c2,S,U,Z,d4];exact bad _ _ _ iY gH z
     .rw[aE (gQ c2),<-g3]at z;simp only[go_sem,B,H,y,y.symm,F,L,M,G,O,c2,S,U,Z,d4,bM i2 aB];refine⟨({ o with assoc:=1 },i2+1,n,k),⟨aP,aP,hn,aP,z⟩,aP,bK⟩
    by_cases x3:t.text=[114,105,103,104,116]
    .have S:decide (t.text=[112,114,101,99])=false:=by rw[x3];rfl
     have U:decide (t.text=[108,101,102,116])=false:=by rw[x3];rfl
     have Z:decide (t.text=[114,105,103,104,116])=true:=by rw[x3];rfl
     have d4:decide (t.text=[115,116,114,105,99,116])=false:=by rw[x3];rfl
     simp only[go_sem,B,H,y,y.symm,F,L,M,G,S,U,Z,d4];cases O:decide (t.kind=1)
     .rw[aE (gQ O),dE]at z;simp only[go_sem,B,H,y,y.symm,F,L,M,G,O];exact bad _ _ _ iY gH z
     rw[aD (gQ O),aD x1,aD x2,aE x3]at z;simp only[go_sem,B,H,y,y.symm,F,L,M,G,O,S,U,Z,d4];cases c2:decide (o.assoc=0)
     .rw[aD (gQ c2),dE]at z;simp only[go_sem,B,H,y,y.symm,F,L,M,G,O,c2,S,U,Z,d4];exact bad _ _ _ iY gH z
     .rw[aE (gQ c2),<-g3]at z;simp only[go_sem,B,H,y,y.symm,F,L,M,G,O,c2,S,U,Z,d4,bM i2 aB];refine⟨({ o with assoc:=2 },i2+1,n,k),⟨aP,aP,hn,aP,z⟩,aP,bK⟩
    by_cases x4:t.text=[115,116,114,105,99,116]
    .have S:decide (t.text=[112,114,101,99])=false:=by rw[x4];rfl
     have U:decide (t.text=[108,101,102,116])=false:=by rw[x4];rfl
     have Z:decide (t.text=[114,105,103,104,116])=false:=by rw[x4];rfl
     have d4:decide (t.text=[115,116,114,105,99,116])=true:=by rw[x4];rfl
     simp only[go_sem,B,H,y,y.symm,F,L,M,G,S,U,Z,d4];cases O:decide (t.kind=1)
     .rw[aE (gQ O),dE]at z;simp only[go_sem,B,H,y,y.symm,F,L,M,G,O];exact bad _ _ _ iY gH z
     rw[aD (gQ O),aD x1,aD x2,aD x3,aE x4]at z;simp only[go_sem,B,H,y,y.symm,F,L,M,G,O,S,U,Z,d4];cases c2:decide ((0:Int)<(o.strict.length:Int));rotate_left
     .rw[aE (gQ c2),dE]at z;simp only[go_sem,B,H,y,y.symm,F,L,M,G,O,c2,S,U,Z,d4];exact bad _ _ _ iY gH z
     rw[aD (gQ c2),bH,<-g3]at z;simp only[go_sem,B,H,y,y.symm,F,L,M,G,O,c2,S,U,Z,d4,bM i2 aB];refine eA (T:=T) (fin:=fin) (d:=d) (first:=first) (i:=i2+1) (n:=n) _ gH g2 hT (aT z (λ_ w m b1 bb hw hm=>?_) (λf h=>aDA b3 iY h));subst m;rw[<-hw,bH]at b1;simp only[go_sem,B,H,y,y.symm,F,L,M,G]
     refine fA (qE gH) (aIC (fin:=fin) (d:=d) (fi:=first) (λx:Int=>A.int .i64 x) (λ_=>rfl) (λ_=>rfl) hT (λs'=>s'.getO b2=some (.cells 130 [.ptr r 0])) (λ_ _ _=>Iff.rfl)
      (vA fin 8) 208 [] [.ptr b2 0] (aA4 (fun s' x hq => by rw [aH,aD H.1]; exact hq)
       (λs' i' n' b7 br bn bm bd bl bh=>aKg hT b2 bn bm bd (aT bh (λ_ _ _ h h1 h2 h3=>by subst h3;exact h (i'+1) aB h1 h2 bl) (λ_ h=>h)))) (i2+1+1) n ?_ bb hn ?_)
     .exact gH
     refine aT (aGA _ _ _ _ _ _ _ _ _ b1) (λl w m b5 j hj bg hw hm=>?_) (λf h s1 x hg b6=>aN (h _ _ ((aFv hg b3).trans iY) b6));obtain⟨hl,b5⟩:=b5;subst hw;rw[bH]at b5
     obtain⟨x0,l0,rfl⟩:∃x0 l0,l=x0::l0:=by
      cases l with
      | nil=>exact cV rfl hl
      | cons a b=>exact⟨a,b,rfl⟩
     simp only[go_sem,B,H,y,y.symm,F,L,M,G];refine eA (T:=T) (fin:=fin) (d:=d) (first:=first) (i:=j) (n:=m) _ gH bg hT (aT b5 (λ_ w m' b9 bp hw bv=>?_) (λf h=>aDA b3 iY h));subst m';rw[<-hw]at b9;simp only[go_sem,B,H,y,y.symm,F,L,M,G];refine⟨({ o with strict:=x0::l0 },j+1,m,k),⟨aP,aP,hm,aP,b9⟩,aP,bK⟩
    .have S:decide (t.text=[112,114,101,99])=false:=gQ x1;have U:decide (t.text=[108,101,102,116])=false:=gQ x2;have Z:decide (t.text=[114,105,103,104,116])=false:=gQ x3;have d4:decide (t.text=[115,116,114,105,99,116])=false:=gQ x4;rw[aD x1,aD x2,aD x3,aD x4,ite_self,dE]at z;simp only[go_sem,B,H,y,y.symm,F,L,M,G,S,U,Z,d4];exact bad _ _ _ iY gH z
end
end
section
section
variable {T:List Tok} {fin:Fault} {d:Dc} {first:Tok} {i n:Nat} {s:St} {r:Nat} {KV Kp:St->A->Prop}
theorem aAk{α:Type}{r:Rd α}{p:α->List Tok->Nat->Prop}{b:Fault->Prop}(h:∀a w n,p a w n)(m:∀f,b f):r.to p b:=by
 cases r with
 | ok a w n=>exact h a w n
 | bad f=>exact m f
theorem aCD{α:Type}{r:Rd α}{p q:α->List Tok->Nat->Prop}{b:Fault->Prop}(h:r.to p b)(m:r.to q (λ_=>True)):r.to (λa w n=>q a w n/\p a w n) b:=by
 cases r with
 | ok a w n=>exact⟨m,h⟩
 | bad f=>exact h
theorem aCa(fin:Fault):∀(k:Nat) (o:Opr) (w:List Tok) (n:Nat),(oG fin k o w n).to (λh _ _=>h.name=o.name/\h.args=o.args/\h.sort=o.sort/\h.pieces=o.pieces) (λ_=>True)
 | 0,o,w,n=>trivial
 | k+1,o,w,n=>by
  have m:=λ(h:Opr) w n=>aCa fin k h w n
  rw[oG.eq_def];simp only;split
  .exact⟨rfl,rfl,rfl,rfl⟩
  .cases w with
   | nil=>trivial
   | cons t w =>
    simp only[uR,bH,dE]
    repeat' split
    all_goals first|trivial|exact m _ _ _|exact aAk (λa w n=>m { o with prec:=a } w n) (λ_=>trivial)|exact aAk (λ_ w n=>aAk (λl w n=>aAk (λ_ w n=>m { o with strict:=l } w n) (λ_=>trivial)) (λ_=>trivial)) (λ_=>trivial)
def wR(T:List Tok)(fin:Fault)(d:Dc)(first:Tok)(b r:Nat)(x:aC)(s:St)(y z:Option Nat)(h:List aC)(m:List Piece)(i n:Nat):St :=
 gs (gs ((s.setO b (.cells 64 [.str x,gv y (h.map .str),.str [],gv z (m.map Piece.enc),.int .i64 0,.int .i64 0,.nils])).setO r (aZ T fin d first i n)) y h.length 9) z m.length 195
theorem aOf(hT:TOk T)(hr:s.getO r=some (aZ T fin d first i n))(hi:i<=T.length)(hn:n<=2000)
  (hk:(opR fin (T.drop i) n).to (PK T i (λj m=>s.setO r (aZ T fin d first j m)) Opr.enc KV) (PB s r Kp)):Den cx 159 [.ptr r 0] KV Kp s:=by
 have bt:=hT.len;simp only[opR,bH]at hk;(refine aL func159 [0,2,3,4,5,14,29,39,76] ?_;simp only[go_sem,ntmps159,f159]);(intro b2 B;try simp only[cN,bW,bJ]at B);have G:=aS hr (iE B);simp only[go_sem,B,G];(refine fN (T:=T) (fin:=fin) (d:=d) (first:=first) (i:=i) (n:=n) gH hi hT (aT hk (λx1 w1 m1 bj bm c0 c6=>?_) (λf h=>PB.mk aR h));subst m1;rw[<-c0]at bj);simp only[go_sem,B,G];(intro b3 z;try simp only[cN,bW,bJ]at z);have L:=aS hr (iE z);simp only[go_sem,B,G,z,L];(refine eA (T:=T) (fin:=fin) (d:=d) (first:=first) (i:=i+1) (n:=n) _ gH bm hT (aT bj (λ_ w2 m2 bc bn c4 c7=>?_) (λf h=>PB.mk aR h));subst m2;rw[<-c4]at bc);simp only[go_sem,B,G,z,L];rw[show(T.drop (i+1+1)).length=T.length-(i+1+1)by rw[cS]]at bc
 refine Ex.loop (ι:=(Option Nat × Option Nat) × (List aC × List Piece × Bool) × Nat) (λc=>[(0,.ptr r 0),(2,.ptr b2 0),(3,.ptr b3 0),(4,.bool c.2.1.2.2)])
  (λc=>wR T fin d first b3 r x1 (s.setO b2 (.cells 64 [.str [],.nils,.str [],.nils,.int .i64 0,.int .i64 0,.nils])) c.1.1 c.1.2 c.2.1.1 c.2.1.2.1 c.2.2 n)
  (fun c => (c.1.1 = none → c.2.1.1 = []) ∧ (c.1.2 = none → c.2.1.2.1 = []) ∧ (∀ t,c.1.1 = some t → s.getT t = none) ∧ (∀ t,c.1.2 = some t → s.getT t = none ∧ c.1.1 ≠ some t) ∧ i + 1 + 1 ≤ c.2.2 ∧ c.2.2 ≤ T.length ∧ c.2.1.1.length ≤ c.2.2 ∧ c.2.1.2.1.length ≤ c.2.2 ∧ ∃ k,T.length - c.2.2 < k ∧
   (yE fin k c.2.1.2.1 c.2.1.1 c.2.1.2.2 (T.drop c.2.2) n).to (λp w n=>(eH fin w n).to (λy w n=>(oG fin (w.length+1) ⟨x1,p.2.1,y,if p.2.2=true then p.1 else [],0,0,[]⟩ w n).to (PK T i (λj m=>s.setO r (aZ T fin d first j m)) Opr.enc KV) (PB s r Kp)) (PB s r Kp)) (PB s r Kp))
  (λc=>T.length-c.2.2) ((none,none),([],[],false),i+1+1) ?_ ?_ ?_ ?_
 .exact⟨λ_=>rfl,λ_=>rfl,λt e=>(by cases e),λt e=>(by cases e),bL _,bn,aX _,aX _,_,lN _,bc⟩
 .simp only[go_sem,B,G,z,L]
 .exact bK
 .rintro⟨⟨ta,tp⟩,⟨ar,ps,tx⟩,i2⟩ ⟨M,O,b8,b1,bq,U,has,bw,k,br,F⟩;simp only at M O b8 b1 bq U has bw br F;obtain⟨k,rfl⟩:∃k',k=k'+1:=⟨k-1,by omega⟩
  have c5:∀t,tp=some t->s.getT t=none:=λt e=>(b1 t e).1
  have bh:gZ (wR T fin d first b3 r x1 (s.setO b2 (.cells 64 [.str [],.nils,.str [],.nils,.int .i64 0,.int .i64 0,.nils])) ta tp ar ps i2 n) tp (ps.map Piece.enc).length 195:=by rw[aK];exact eD λe=>by rw[O e];rfl
  have bp:gZ (wR T fin d first b3 r x1 (s.setO b2 (.cells 64 [.str [],.nils,.str [],.nils,.int .i64 0,.int .i64 0,.nils])) ta tp ar ps i2 n) ta (ar.map A.str).length 9:=by
   rw[aK];cases ta with
   | none=>rw[M rfl];rfl
   | some t =>
    show(gs _ _ _ _).getT t=_;rw[eI,aD (λe=>(b1 t e).2 rfl),eI,aE rfl]
  refine bC (V:=[0,2,3,4,5,14,29,39,76]) _ _ _ _ ?_;unfold wR;simp only[go_sem,B,G,z,L];refine gC (T:=T) (fin:=fin) (d:=d) (first:=first) (i:=i2) (n:=n) _ gH U hT ?_;rw[yE.eq_def]at F;simp only at F;cases hx:cJ [45,62] (T.drop i2)with
  | true =>
   rw[aE hx,bR,jO]at F;have bl:=iI hx
   have bk:∀(o:Opr),o.name=x1->o.args=ar->o.pieces=(if tx=true then ps else [])->A.le (.agg (wN o (gv ta (ar.map A.str)) (if tx=true then gv tp (ps.map Piece.enc) else .nils))) o.enc:=λo e1 G L=>by
    subst e1 G;refine A.le.agg ⟨⟨bF _,rfl⟩,⟨gK _ _ (λe=>by rw[M e];rfl),rfl⟩,⟨bF _,rfl⟩,⟨?_,rfl⟩,⟨bF _,rfl⟩,⟨bF _,rfl⟩,⟨aHG _,rfl⟩,trivial⟩;rw[L];cases tx
    .exact A.le.nil
    .exact gK _ _ (λe=>by rw[O e];rfl)
   simp only[go_sem,B,G,z,L];cases tx
   .simp only[go_sem,B,G,z,L];(refine fN (T:=T) (fin:=fin) (d:=d) (first:=first) (i:=i2+1) (n:=n) gH bl hT (aT F (λx5 w5 m5 b6 b7 bg bv=>?_) (λf h=>PB.mk aR h));subst m5;rw[<-bg]at b6);simp only[go_sem,B,G,z,L];refine aFT hT b3 (gv ta (ar.map A.str)) .nils (qI _ _) rfl ⟨x1,ar,x5,[],0,0,[]⟩ ((List.drop (i2+1+1) T).length+1) (T:=T) (fin:=fin) (d:=d) (first:=first) (i:=i2+1+1) (n:=n) gH gH z.1.2 b7 hn (by rw[cS];omega) (aT (aCD b6 (aCa _ _ _ _ _)) (λo' w m h j hj bb hw hm=>?_) (λf h s1 x hg bf=>?_))
    .obtain⟨⟨q1,q2,q3,q4⟩,h⟩:=h;have hk:=h j aB bb hw hm;simp only[go_sem,B,G,z,L];refine⟨by cases ta<;>cases o'.strict<;>rfl,?_⟩;refine DK.mk hk bK ?_;have:=bk o' q1 q2 q4;simp only[go_sem]at this;exact this
    .exact aF (h x) (nA (rP bf (aF5 z.2.2 (hg.trans iY))))
   .simp only[go_sem,B,G,z,L];(refine fN (T:=T) (fin:=fin) (d:=d) (first:=first) (i:=i2+1) (n:=n) gH bl hT (aT F (λx5 w5 m5 b6 b7 bg bv=>?_) (λf h=>PB.mk aR h));subst m5;rw[<-bg]at b6);simp only[go_sem,B,G,z,L];refine aFT hT b3 (gv ta (ar.map A.str)) (gv tp (ps.map Piece.enc)) (qI _ _) (qI _ _) ⟨x1,ar,x5,ps,0,0,[]⟩ ((List.drop (i2+1+1) T).length+1) (T:=T) (fin:=fin) (d:=d) (first:=first) (i:=i2+1+1) (n:=n) gH gH z.1.2 b7 hn (by rw[cS];omega) (aT (aCD b6 (aCa _ _ _ _ _)) (λo' w m h j hj bb hw hm=>?_) (λf h s1 x hg bf=>?_))
    .obtain⟨⟨q1,q2,q3,q4⟩,h⟩:=h;have hk:=h j aB bb hw hm;simp only[go_sem,B,G,z,L];refine⟨by cases ta<;>cases tp<;>cases o'.strict<;>rfl,?_⟩;refine DK.mk hk bK ?_;have:=bk o' q1 q2 q4;simp only[go_sem]at this;exact this
    .exact aF (h x) (nA (rP bf (aF5 z.2.2 (hg.trans iY))))
  | false =>
   rw[aD (by rw[hx];simp)]at F;simp only[go_sem,B,G,z,L];refine gS (T:=T) (fin:=fin) (d:=d) (first:=first) (i:=i2) (n:=n) gH U ?_;cases hw:T.drop i2 with
   | nil=>rw[hw]at F;exact F.at aR gH
   | cons t w =>
    obtain⟨g1,g2,g3,g4⟩:=iR hw;rw[hw]at F;simp only at F;simp only[go_sem,B,G,z,L];(intro b4 H;try simp only[cN,bW,bJ]at H);have e4:=aS hr (iE H);simp only[go_sem,B,G,z,L,H,e4];cases c3:decide (t.kind=3);rotate_left
    ·
     have k3:t.kind=3:=gQ c3;rw[aE (.inl k3),aE k3]at F;simp only[go_sem,B,G,z,L,H,e4,c3,mD bh];refine jR (T:=T) (fin:=fin) (d:=d) (first:=first) (i:=i2) (n:=n) _ _ gH U ?_;by_cases b0:20<=ps.length
     .rw[aE b0,dE]at F;rw[aE aB,hw];exact PB.mk aR F
     rw[aD b0,<-g3]at F;rw[aD aB];simp only[go_sem,B,G,z,L,H,e4,c3];refine⟨by decide,λy Z=>by simp only[cC]at Z;subst Z;rfl,cT rfl rfl (by rw[aK];exact eD λe=>by rw[O e];rfl) (λy Z=>?_) (by simp only[aK,aO,aU];omega) (λu S=>?_)⟩
     .simp only[cD]at Z;obtain⟨q,_,rfl⟩:=Z;rfl
     have b5:s.getT u=none/\ta≠some u:=by
      rcases S with e|⟨e,S⟩
      .exact b1 u e
      .rw[e]at S;have S:(gs (gs _ ta _ _) none _ _).getT u=none:=S;rw[eI,aD aW,eI]at S;split at S
       .cases S
       .rename_i G;exact⟨S,G⟩
     have bd:=b5.2;rw[eP S];simp only[go_sem,B,G,z,L,H,e4,bM i2 aB];refine⟨((ta,some u),(ar,ps++[⟨t.text,[]⟩],true),i2+1),⟨M,λe=>(by cases e),b8,λt' e=>by cases e;exact b5,aP,aP,aP,by simp only[aI,aO,aU];omega,k,aP,F⟩,aP,?_⟩;simp only[wR,dB,bY,bN,cP,aI,aO,aU,aK];exact⟨trivial,bK⟩
    have k3:¬ t.kind=3:=gQ c3;cases c1:decide (t.kind=1)
    .rw[aD (by simp[k3,Tok.free,c1]),dE]at F;simp only[go_sem,B,G,z,L,H,e4,c3,c1];refine lZ (T:=T) (fin:=fin) (d:=d) (first:=first) (i:=i2) (n:=n) 11 gH U hT ?_;rw[hw];exact PB.at F aR gH
    simp only[go_sem,B,G,z,L,H,e4,c3,c1];refine rA _ _ _ _ ?_;simp only[go_sem,B,G,z,L,H,e4];cases c2:decide (t.text∈kF);rotate_left
    .rw[aD (by simp[k3,Tok.free,c2]),dE]at F;simp only[go_sem,B,G,z,L,H,e4,c2];refine lZ (T:=T) (fin:=fin) (d:=d) (first:=first) (i:=i2) (n:=n) 11 gH U hT ?_;rw[hw];exact PB.at F aR gH
    rw[aE (.inr (by simp[Tok.free,c1,c2])),aD k3]at F;simp only[go_sem,B,G,z,L,H,e4,c2,mD bh];refine jR (T:=T) (fin:=fin) (d:=d) (first:=first) (i:=i2) (n:=n) _ _ gH U ?_;by_cases b0:20<=ps.length
    .rw[aE b0,dE]at F;rw[aE aB,hw];exact PB.mk aR F
    rw[aD b0]at F;rw[aD aB];simp only[go_sem,B,G,z,L,H,e4,c3,mD bp];refine jR (T:=T) (fin:=fin) (d:=d) (first:=first) (i:=i2) (n:=n) _ _ gH U ?_;by_cases h8:8<=ar.length
    .rw[aE h8,dE]at F;rw[aE aB,hw];exact PB.mk aR F
    rw[aD h8,<-g3]at F;rw[aD aB];simp only[go_sem,B,G,z,L,H,e4,c3];refine⟨by decide,λy Z=>by simp only[cC]at Z;subst Z;rfl,cT rfl rfl (by rw[aK];exact eD λe=>by rw[O e];rfl) (λy Z=>?_) (by simp only[aK,aO,aU];omega) (λu S=>?_)⟩
    .simp only[cD]at Z;obtain⟨q,_,rfl⟩:=Z;rfl
    have b5:s.getT u=none/\ta≠some u:=by
     rcases S with e|⟨e,S⟩
     .exact b1 u e
     .rw[e]at S;have S:(gs (gs _ ta _ _) none _ _).getT u=none:=S;rw[eI,aD aW,eI]at S;split at S
      .cases S
      .rename_i G;exact⟨S,G⟩
    have bd:=b5.2;rw[eP S];simp only[go_sem,B,G,z,L,H,e4];refine⟨by decide,λy Z=>by simp only[cC]at Z;subst Z;rfl,cT rfl rfl ?_ (λy Z=>?_) (by simp only[aK,aO,aU];omega) (λv hv=>?_)⟩
    .rw[aK];cases ta with
     | none=>rw[M rfl];rfl
     | some t =>
      show St.getT _ t=_;rw[cF,aD (λe=>bd (by rw[e])),eI,aE rfl]
    .simp only[cD]at Z;obtain⟨q,_,rfl⟩:=Z;rfl
    have b9:s.getT v=none/\¬ v=u:=by
     rcases hv with e|⟨e,hv⟩
     .exact⟨b8 v e,λG=>bd (by rw[e,G])⟩
     .subst e;rw[cF]at hv;split at hv
      .cases hv
      .rename_i G;exact⟨hv,λL=>G L.symm⟩
    simp only[go_sem,B,G,z,L,H,e4,bM i2 aB];refine⟨((some v,some u),(ar++[t.text],ps++[⟨[],t.text⟩],tx),i2+1),⟨λe=>(by cases e),λe=>(by cases e),λt' e=>by cases e;exact b9.1,λt' e=>by cases e;exact⟨b5.1,λe=>b9.2 (by cases e;rfl)⟩,aP,aP,by simp only[aI,aO,aU];omega,by simp only[aI,aO,aU];omega,k,aP,F⟩,aP,?_⟩;simp only[wR,dB,bY,bN,cP,aI,aO,aU,aK];have bz:=b9.2;refine⟨trivial,nA (aAl ?_ (aAl ?_ iY))⟩
    .rintro _ ⟨⟩;simp only[cF,bz,cI,reduceIte,fX]
    .rintro _ ⟨⟩;simp only[cF,reduceIte,fX]
end
end
section
def qG(p:Part):A:=.agg (.str p.cell::.str p.at_::(p.left.cs++[nv (p.right.map Tm.enc),.int .i64 p.line,.int .i64 p.col]))
def qT(x:Rul)(y m h:Option Nat):Ob:=.cells 46 [.str x.name,gv y (x.parts.map qG),.nils,gv m (x.new.map Fresh.enc),gv h (x.drop.map .str),.int .i64 x.line,.int .i64 x.col]
def dU(x:Rul)(y m h:Option Nat):List dY:=[(y,x.parts.length,69),(m,x.new.length,71),(h,x.drop.length,9)]
def eS(T:List Tok)(fin:Fault)(d:Dc)(first:Tok)(b r:Nat)(s:St)(x:Rul)(y m h:Option Nat)(i n:Nat):St:=dF ((s.setO b (qT x y m h)).setO r (aZ T fin d first i n)) (dU x y m h)
structure RulQ (b r:Nat) (s:St) (x:Rul) (tp tn td:Option Nat) (i:Nat):Prop where
 own:OwnOk s (dU x tp tn td)
 hb:s.getO b=none
 ne:b≠r
 l1:x.parts.length<=i
 l2:x.new.length<=i
 l3:x.drop.length<=i
section
variable {T:List Tok} {fin:Fault} {d:Dc} {first:Tok} {i n:Nat} {s:St} {r:Nat} {KV Kp:St->A->Prop}
theorem xP(hT:TOk T)(b:Nat)(x:Rul)(O Z U:Option Nat)(hQ:RulQ b r s x O Z U i)(hi:i<=T.length)(hn:n<=2000)
  (hk : (aA3 false fin x (T.drop i) n).to (fun x' w n' => ∀ j bv bt br,i + 1 ≤ j → j ≤ T.length → T.drop j = w → n' ≤ 2000 → RulQ b r s x' bv bt br j → KV (eS T fin d first b r s x' bv bt br j n') (.tuple []))
   (λf=>∀s1 o,s1.gx s r->s1.getO r=some o->Kp s1 (.iface 51 f.enc))):Den cx 194 [.ptr r 0,.ptr b 0] KV Kp (eS T fin d first b r s x O Z U i n):=by
 obtain⟨F,hb,m,l1,l2,l3⟩:=hQ;have c6:=hT.len;have cl:=F.free;(refine aL func194 [0,1,4,5,16,27,42,65] ?_;simp only[go_sem,ntmps194,f194]);unfold eS qT;have ch:=m.symm;simp only[go_sem,aJ,m,m.symm];refine gS (T:=T) (fin:=fin) (d:=d) (first:=first) (i:=i) (n:=n) gH hi ?_;cases hw:T.drop i with
 | nil=>rw[hw]at hk;exact aN (hk _ (aZ T fin d first i n) aR gH)
 | cons t w =>
  obtain⟨g1,g2,g3,g4⟩:=iR hw;rw[hw]at hk;simp only[aA3]at hk;simp only[go_sem,aJ,m,m.symm];(refine gF λb4 z=>?_);simp only[go_sem,aJ,m,m.symm,z];refine gC (T:=T) (fin:=fin) (d:=d) (first:=first) (i:=i) (n:=n) _ gH hi hT ?_;rw[hw];cases c1:eJ t [110,101,119]with
  | true =>
   rw[aE c1,bH,<-g3]at hk;simp only[cJ,c1];simp only[go_sem,aJ,m,m.symm,z];refine eA (T:=T) (fin:=fin) (d:=d) (first:=first) (i:=i+1) (n:=n) _ gH g2 hT (aT hk (λ_ w2 m2 b8 bb bk c7=>?_) (λf h=>cO aR h));subst m2;rw[<-bk,bH]at b8;simp only[go_sem,aJ,m,m.symm,z];(refine bB (OT.r 0 15) [(8,[4])] ?_;simp only[go_sem,aJ,m,m.symm,z])
   refine fA (qE gH) (aD9 (fin:=fin) (d:=d) (fi:=first) Tm.enc Tm.hz Tm.ho hT (λ_=>True) (λ_ _ _=>Iff.rfl) (lA false fin) 161 [.ptr r 0] []
    (aA4 (λ_ _ h=>h) (λs' i' n' cj ck cd _ bw cb c5=>qF hT cd bw cb (aT c5 (λ_ _ _ h j hj=>h j aB) (λ_ h=>h)))) (i+1+1) n trivial bb hn ?_)
   refine aT b8 (λl w3 m3 S j3 cm bq bg bh=>?_) (λf h s1 o hg cf=>aN (h _ o (hg.trans aR) cf));subst bg;rw[bH]at S;simp only[go_sem,aJ,m,m.symm,z];refine⟨by decide,λy M=>by simp only[cC]at M;subst M;rfl,cT rfl rfl (by rw[aK];refine lX F (k:=1) (o:=(Z,x.new.length,71)) rfl ?_;exactλ_=>rfl) (λy M=>?_) (by simp only[aK,aO,aU];omega) (λu hu=>?_)⟩
   .simp only[cD]at M;obtain⟨q,_,rfl⟩:=M;rfl
   have B:=mF F (k:=1) (o:=(Z,x.new.length,71)) rfl hu (λ_=>rfl) (x.new.length+1);simp only[go_sem,aJ,m,m.symm,z];refine fA (mB F (k:=1) (o:=(Z,x.new.length,71)) rfl B (λ_=>rfl)) ?_;have H:OwnOk s (dU { x with new:=x.new++[⟨l⟩] } O (some u) U):=by simpa only[dU,aI,aO,aU,qZ,sN]using B
   rw[show(dU x O Z U).set 1 (some u,x.new.length+1,(Z,x.new.length,71).snd.snd)=dU { x with new:=x.new++[⟨l⟩] } O (some u) U by simp[dU]];have cg:=H.free;refine eA (T:=T) (fin:=fin) (d:=d) (first:=first) (i:=j3) (n:=m3) _ gH bq hT (aT S (λ_ w4 m4 b6 b2 bl c8=>?_) (λf h=>cO aR h));subst m4;rw[bR]at b6;simp only[go_sem,aJ,m,m.symm,z];have L:=b6 (j3+1) O (some u) U aB b2 bl bh ⟨H,hb,m,aP,by simp only[aI,aO,aU];omega,aP⟩;refine aF L ?_;unfold eS;refine gW ?_;simp only[qT,dB,bY,bN,cP,qG,nv,Tm.cs,bS,bP,cG];exact bK
  | false =>
   rw[aD (by simp[c1])]at hk;simp only[cJ,c1];simp only[go_sem,aJ,m,m.symm,z];refine gC (T:=T) (fin:=fin) (d:=d) (first:=first) (i:=i) (n:=n) _ gH hi hT ?_;rw[hw];cases c2:eJ t [100,114,111,112]with
   | true =>
    rw[aE c2,bH,<-g3]at hk;simp only[cJ,c2];simp only[go_sem,aJ,m,m.symm,z];refine eA (T:=T) (fin:=fin) (d:=d) (first:=first) (i:=i+1) (n:=n) _ gH g2 hT (aT hk (λ_ w2 m2 b8 bb bk c7=>?_) (λf h=>cO aR h));subst m2;rw[<-bk,bH]at b8;simp only[go_sem,aJ,m,m.symm,z];(refine bB (OT.r 0 12) [(6,[4])] ?_;simp only[go_sem,aJ,m,m.symm,z]);refine fN (T:=T) (fin:=fin) (d:=d) (first:=first) (i:=i+1+1) (n:=n) gH bb hT (aT b8 (λy w3 m3 S b3 bg bh=>?_) (λf h=>cO aR h));subst m3;rw[bR]at S;simp only[go_sem,aJ,m,m.symm,z];refine⟨by decide,λy M=>by simp only[cC]at M;subst M;rfl,cT rfl rfl (by rw[aK];refine lX F (k:=2) (o:=(U,x.drop.length,9)) rfl ?_;exactλ_=>rfl) (λy M=>?_) (by simp only[aK,aO,aU];omega) (λu hu=>?_)⟩
    .simp only[cD]at M;obtain⟨q,_,rfl⟩:=M;rfl
    have B:=mF F (k:=2) (o:=(U,x.drop.length,9)) rfl hu (λ_=>rfl) (x.drop.length+1);have H:OwnOk s (dU { x with drop:=x.drop++[y] } O Z (some u)):=by simpa only[dU,aI,aO,aU,qZ,sN]using B
    simp only[go_sem,aJ,m,m.symm,z];have L:=S (i+1+1+1) O Z (some u) aB b3 bg hn ⟨H,hb,m,aP,aP,by simp only[aI,aO,aU];omega⟩;refine aF L (St.ge.trans (mB F (k:=2) (o:=(U,x.drop.length,9)) rfl B (λ_=>rfl)) ?_);unfold eS;rw[show(dU x O Z U).set 2 (some u,x.drop.length+1,(U,x.drop.length,9).snd.snd)=dU { x with drop:=x.drop++[y] } O Z (some u)by simp[dU]];refine gW ?_;simp only[qT,dB,bY,bN,cP,qG,nv,Tm.cs,bS,bP,cG];exact bK
   | false =>
    rw[aD (by simp[c2]),bH,<-hw]at hk;simp only[cJ,c2];simp only[go_sem,aJ,m,m.symm,z];(refine bB (OT.l [0,2,3,4,5,1,6,7,8] .nil) [(1,[3,5]),(7,[3,5])] ?_;simp only[go_sem,aJ,m,m.symm,z]);refine fN (T:=T) (fin:=fin) (d:=d) (first:=first) (i:=i) (n:=n) gH hi hT (aT hk (λy w3 m3 S b3 bg bh=>?_) (λf h=>cO aR h));subst m3;rw[<-bg]at S;simp only[go_sem,aJ,m,m.symm,z];(refine gF λb5 G=>?_);simp only[go_sem,aJ,m,m.symm,z,G];refine gC (T:=T) (fin:=fin) (d:=d) (first:=first) (i:=i+1) (n:=n) _ gH b3 hT ?_;rw[bH]at S;cases c3:cJ [64] (T.drop (i+1))with
    | true =>
     rw[aE c3,jO]at S;have b2:=iI c3;simp only[go_sem,aJ,m,m.symm,z,G];refine fN (T:=T) (fin:=fin) (d:=d) (first:=first) (i:=i+1+1) (n:=n) gH b2 hT (aT S (λy2 w4 m4 b6 b2 bl c8=>?_) (λf h=>cO aR h));subst m4;rw[<-bl]at b6;simp only[go_sem,aJ,m,m.symm,z,G];rw[bH]at b6;refine eA (T:=T) (fin:=fin) (d:=d) (first:=first) (i:=i+1+1+1) (n:=n) _ gH b2 hT (aT b6 (λ_ w5 m5 L bc bm c9=>?_) (λf h=>cO aR h));subst m5;rw[<-bm,bH]at L;simp only[go_sem,aJ,m,m.symm,z,G];refine qF (T:=T) (fin:=fin) (d:=d) (first:=first) (i:=i+1+1+1+1) (n:=n) hT gH bc hn (aT L (λl6 w6 m6 b0 j6 bz b1 bn bf=>?_) (λf h=>cO aR h));rw[<-bn,bH]at b0;simp only[go_sem,aJ,m,m.symm,z,G,cG];refine gC (T:=T) (fin:=fin) (d:=d) (first:=first) (i:=j6) (n:=m6) _ gH b1 hT ?_;cases c4:cJ [61,62] (T.drop j6)with
     | true =>
      rw[aE c4,jO,bH]at b0;have bd:=iI c4;simp only[go_sem,aJ,m,m.symm,z,G];refine qF (T:=T) (fin:=fin) (d:=d) (first:=first) (i:=j6+1) (n:=m6) hT gH bd bf (aT b0 (λl8 w8 m8 b9 j8 c0 b7 bp bj=>?_) (λf h=>cO aR h));rw[bR,<-bp,bR]at b9;simp only[go_sem,aJ,m,m.symm,z,G,cG];(refine bB (OT.r 0 11) [] ?_;simp only[go_sem,aJ,m,m.symm,z,G])
      (try simp only[go_sem,aJ,m,m.symm,z,G])
      refine⟨by decide,λy M=>by simp only[cC]at M;subst M;rfl,cT rfl rfl (by rw[aK];refine lX F (k:=0) (o:=(O,x.parts.length,69)) rfl ?_;exactλ_=>rfl) (λy M=>?_) (by simp only[aK,aO,aU];omega) (λu hu=>?_)⟩
      .simp only[cD]at M;obtain⟨q,_,rfl⟩:=M;rfl
      have B:=mF F (k:=0) (o:=(O,x.parts.length,69)) rfl hu (λ_=>rfl) (x.parts.length+1);have H:OwnOk s (dU { x with parts:=x.parts++[⟨y,y2,l6,[l8],t.line,t.col⟩] } (some u) Z U):=by simpa only[dU,aI,aO,aU,qZ,sN]using B
      simp only[go_sem,aJ,m,m.symm,z,G];have L:=b9 (j8) (some u) Z U aB b7 rfl bj ⟨H,hb,m,by simp only[aI,aO,aU];omega,aP,aP⟩;refine aF L (St.ge.trans (mB F (k:=0) (o:=(O,x.parts.length,69)) rfl B (λ_=>rfl)) ?_);unfold eS;rw[show(dU x O Z U).set 0 (some u,x.parts.length+1,(O,x.parts.length,69).snd.snd)=dU { x with parts:=x.parts++[⟨y,y2,l6,[l8],t.line,t.col⟩] } (some u) Z U by simp[dU]];refine gW ?_;simp only[qT,dB,bY,bN,cP,qG,nv,Tm.cs,bS,bP,cG];exact bK
     | false =>
      rw[aD (by simp[c4]),bR,bR]at b0;simp only[go_sem,aJ,m,m.symm,z,G];(refine bB (OT.r 0 11) [] ?_;simp only[go_sem,aJ,m,m.symm,z,G])
      (try simp only[go_sem,aJ,m,m.symm,z,G])
      refine⟨by decide,λy M=>by simp only[cC]at M;subst M;rfl,cT rfl rfl (by rw[aK];refine lX F (k:=0) (o:=(O,x.parts.length,69)) rfl ?_;exactλ_=>rfl) (λy M=>?_) (by simp only[aK,aO,aU];omega) (λu hu=>?_)⟩
      .simp only[cD]at M;obtain⟨q,_,rfl⟩:=M;rfl
      have B:=mF F (k:=0) (o:=(O,x.parts.length,69)) rfl hu (λ_=>rfl) (x.parts.length+1);have H:OwnOk s (dU { x with parts:=x.parts++[⟨y,y2,l6,[],t.line,t.col⟩] } (some u) Z U):=by simpa only[dU,aI,aO,aU,qZ,sN]using B
      simp only[go_sem,aJ,m,m.symm,z,G];have L:=b0 (j6) (some u) Z U aB b1 rfl bf ⟨H,hb,m,by simp only[aI,aO,aU];omega,aP,aP⟩;refine aF L (St.ge.trans (mB F (k:=0) (o:=(O,x.parts.length,69)) rfl B (λ_=>rfl)) ?_);unfold eS;rw[show(dU x O Z U).set 0 (some u,x.parts.length+1,(O,x.parts.length,69).snd.snd)=dU { x with parts:=x.parts++[⟨y,y2,l6,[],t.line,t.col⟩] } (some u) Z U by simp[dU]];refine gW ?_;simp only[qT,dB,bY,bN,cP,qG,nv,Tm.cs,bS,bP,cG];exact bK
    | false =>
     rw[aD (by simp[c3]),bR]at S;simp only[go_sem,aJ,m,m.symm,z,G];rw[bH]at S;refine eA (T:=T) (fin:=fin) (d:=d) (first:=first) (i:=i+1) (n:=n) _ gH b3 hT (aT S (λ_ w5 m5 L bc bm c9=>?_) (λf h=>cO aR h));subst m5;rw[<-bm,bH]at L;simp only[go_sem,aJ,m,m.symm,z,G];refine qF (T:=T) (fin:=fin) (d:=d) (first:=first) (i:=i+1+1) (n:=n) hT gH bc hn (aT L (λl6 w6 m6 b0 j6 bz b1 bn bf=>?_) (λf h=>cO aR h));rw[<-bn,bH]at b0;simp only[go_sem,aJ,m,m.symm,z,G,cG];refine gC (T:=T) (fin:=fin) (d:=d) (first:=first) (i:=j6) (n:=m6) _ gH b1 hT ?_;cases c4:cJ [61,62] (T.drop j6)with
     | true =>
      rw[aE c4,jO,bH]at b0;have bd:=iI c4;simp only[go_sem,aJ,m,m.symm,z,G];refine qF (T:=T) (fin:=fin) (d:=d) (first:=first) (i:=j6+1) (n:=m6) hT gH bd bf (aT b0 (λl8 w8 m8 b9 j8 c0 b7 bp bj=>?_) (λf h=>cO aR h));rw[bR,<-bp,bR]at b9;simp only[go_sem,aJ,m,m.symm,z,G,cG];(refine bB (OT.r 0 11) [] ?_;simp only[go_sem,aJ,m,m.symm,z,G])
      (try simp only[go_sem,aJ,m,m.symm,z,G])
      refine⟨by decide,λy M=>by simp only[cC]at M;subst M;rfl,cT rfl rfl (by rw[aK];refine lX F (k:=0) (o:=(O,x.parts.length,69)) rfl ?_;exactλ_=>rfl) (λy M=>?_) (by simp only[aK,aO,aU];omega) (λu hu=>?_)⟩
      .simp only[cD]at M;obtain⟨q,_,rfl⟩:=M;rfl
      have B:=mF F (k:=0) (o:=(O,x.parts.length,69)) rfl hu (λ_=>rfl) (x.parts.length+1);have H:OwnOk s (dU { x with parts:=x.parts++[⟨y,[],l6,[l8],t.line,t.col⟩] } (some u) Z U):=by simpa only[dU,aI,aO,aU,qZ,sN]using B
      simp only[go_sem,aJ,m,m.symm,z,G];have L:=b9 (j8) (some u) Z U aB b7 rfl bj ⟨H,hb,m,by simp only[aI,aO,aU];omega,aP,aP⟩;refine aF L (St.ge.trans (mB F (k:=0) (o:=(O,x.parts.length,69)) rfl B (λ_=>rfl)) ?_);unfold eS;rw[show(dU x O Z U).set 0 (some u,x.parts.length+1,(O,x.parts.length,69).snd.snd)=dU { x with parts:=x.parts++[⟨y,[],l6,[l8],t.line,t.col⟩] } (some u) Z U by simp[dU]];refine gW ?_;simp only[qT,dB,bY,bN,cP,qG,nv,Tm.cs,bS,bP,cG];exact bK
     | false =>
      rw[aD (by simp[c4]),bR,bR]at b0;simp only[go_sem,aJ,m,m.symm,z,G];(refine bB (OT.r 0 11) [] ?_;simp only[go_sem,aJ,m,m.symm,z,G])
      (try simp only[go_sem,aJ,m,m.symm,z,G])
      refine⟨by decide,λy M=>by simp only[cC]at M;subst M;rfl,cT rfl rfl (by rw[aK];refine lX F (k:=0) (o:=(O,x.parts.length,69)) rfl ?_;exactλ_=>rfl) (λy M=>?_) (by simp only[aK,aO,aU];omega) (λu hu=>?_)⟩
      .simp only[cD]at M;obtain⟨q,_,rfl⟩:=M;rfl
      have B:=mF F (k:=0) (o:=(O,x.parts.length,69)) rfl hu (λ_=>rfl) (x.parts.length+1);have H:OwnOk s (dU { x with parts:=x.parts++[⟨y,[],l6,[],t.line,t.col⟩] } (some u) Z U):=by simpa only[dU,aI,aO,aU,qZ,sN]using B
      simp only[go_sem,aJ,m,m.symm,z,G];have L:=b0 (j6) (some u) Z U aB b1 rfl bf ⟨H,hb,m,by simp only[aI,aO,aU];omega,aP,aP⟩;refine aF L (St.ge.trans (mB F (k:=0) (o:=(O,x.parts.length,69)) rfl B (λ_=>rfl)) ?_);unfold eS;rw[show(dU x O Z U).set 0 (some u,x.parts.length+1,(O,x.parts.length,69).snd.snd)=dU { x with parts:=x.parts++[⟨y,[],l6,[],t.line,t.col⟩] } (some u) Z U by simp[dU]];refine gW ?_;simp only[qT,dB,bY,bN,cP,qG,nv,Tm.cs,bS,bP,cG];exact bK
end
end
section
section
variable {T:List Tok} {fin:Fault} {d:Dc} {first:Tok} {i n:Nat} {s:St} {r:Nat} {KV Kp:St->A->Prop}
theorem aNR(tk:Option Nat){es m:List A}(h:tk=none->es=[])(hl:vX es m):A.le (gv tk es) (.list none m):=by
 cases tk with
 | none =>
  rw[h rfl]at hl;have:m=[]:=fC (by rw[<-aCX hl];rfl);rw[this];exact A.le.nil
 | some t=>exactλg v y=>(A.le.list hl) g v ((A.le.forget t es) g v y)
theorem aIX(h:List Part):vX (h.map qG) (h.map Part.enc):=by
 induction h with
 | nil=>trivial
 | cons p h m =>
  refine⟨?_,m⟩;simp only[qG,Part.enc,Part.cs,A.cells,Tm.cs,bS,bP];exact⟨⟨bF _,rfl⟩,⟨bF _,rfl⟩,⟨bF _,rfl⟩,⟨bF _,rfl⟩,⟨bF _,rfl⟩,⟨bF _,rfl⟩,⟨bF _,rfl⟩,⟨bF _,rfl⟩,⟨aHG _,rfl⟩,⟨bF _,rfl⟩,⟨bF _,rfl⟩,trivial⟩
theorem aMQ(hT:TOk T)(t:Tok)(hr:s.getO r=some (aZ T fin d first i n))(hi:i<=T.length)(hn:n<=2000)
  (hk:(aDB false fin t.line t.col (T.drop i) n).to (PK T i (λj m=>s.setO r (aZ T fin d first j m)) Rul.enc KV) (PB s r Kp)):Den cx 163 [.ptr r 0,t.enc] KV Kp s:=by
 have hlenT:=hT.len;simp only[aDB,bH]at hk;simp only[go_sem];(refine aL func163 [0,1,3,4,5,6,7,8,19,42] ?_;simp only[go_sem,ntmps163,f163]);(intro b3 hb3;try simp only[cN,bW,bJ]at hb3);have e3:=aS hr (iE hb3);simp only[go_sem,hb3,e3];(intro b4 hb4;try simp only[cN,bW,bJ]at hb4);have e4:=aS hr (iE hb4);simp only[go_sem,hb3,e3,hb4,e4];(refine bB (OT.l [0,2,3,4,5,1,6,7,8] .nil) [(1,[3,5]),(7,[3,5])] ?_;simp only[go_sem,hb3,e3,hb4,e4]);(refine fN (T:=T) (fin:=fin) (d:=d) (first:=first) (i:=i) (n:=n) gH hi hT (aT hk (λx1 w1 m1 hk1 hlt1 hw1 hm1=>?_) (λf h=>PB.mk aR h));subst m1;rw[<-hw1]at hk1);simp only[go_sem,hb3,e3,hb4,e4];(intro b5 hb5;try simp only[cN,bW,bJ]at hb5);have e5:=aS hr (iE hb5);simp only[go_sem,hb3,e3,hb4,e4,hb5,e5];(refine eA (T:=T) (fin:=fin) (d:=d) (first:=first) (i:=i+1) (n:=n) _ gH hlt1 hT (aT hk1 (λ_ w2 m2 hk2 hlt2 hw2 hm2=>?_) (λf h=>PB.mk aR h));subst m2;rw[<-hw2]at hk2);simp only[go_sem,hb3,e3,hb4,e4,hb5,e5];rw[show(T.drop (i+1+1)).length=T.length-(i+1+1)by rw[cS]]at hk2
 have h5:((s.setO b3 (.cells 173 t.cs)).setO b4 (.cells 46 [.str [],.nils,.nils,.nils,.nils,.int .i64 0,.int .i64 0])).getO b5=none:=by
  rw[aH,aD hb5.2.1.1,aH,aD hb5.2.2.1.1];exact hb5.2.2.2
 generalize hs2:(s.setO b3 (.cells 173 t.cs)).setO b4 (.cells 46 [.str [],.nils,.nils,.nils,.nils,.int .i64 0,.int .i64 0])=s2 at h5
 have hs2O:∀b o,s.getO b=some o->s2.getO b=some o:=λb o h=>by
  subst hs2;rw[aH,aD (λe=>by subst e;rw[hb4.2]at h;cases h),aH,aD (λe=>by subst e;rw[hb3]at h;cases h)];exact h
 have hs2g:s2.ge s:=⟨hs2O,λu m hm=>by subst hs2;exact hm,λx hx=>by subst hs2;exact hx⟩;have hg2:∀s1:St,s1.gx s2 r->s1.gx s r:=λs1 h=>⟨λc hc x hx=>h.ob c hc x (hs2O c x hx),λu m hm=>h.tk u m (by subst hs2;exact hm),λx hx=>h.ls x (by subst hs2;exact hx)⟩
 have h24:s2.getO b4=some (.cells 46 [.str [],.nils,.nils,.nils,.nils,.int .i64 0,.int .i64 0]):=by subst hs2;rw[aH,aE rfl]
 have PBk:∀(s1:St) (f:Fault),s1.gx s2 r->PB s r Kp f->PB s1 r (DK Kp) f:=λs1 f hg h o=>h.at (dM (hg2 _ hg)) (by rw[aH,aE rfl])
 refine Ex.loop (ι:=(Rul × Option Nat × Option Nat × Option Nat) × Nat × Bool × Nat × Nat) (λc=>[(0,.ptr r 0),(3,.ptr b3 0),(4,.ptr b4 0),(5,.ptr b5 0),(6,.int .i64 c.2.1),(7,.bool c.2.2.1)])
  (λc=>eS T fin d first b5 r s2 c.1.1 c.1.2.1 c.1.2.2.1 c.1.2.2.2 c.2.2.2.1 c.2.2.2.2)
  (fun c => RulQ b5 r s2 c.1.1 c.1.2.1 c.1.2.2.1 c.1.2.2.2 c.2.2.2.1 ∧ c.2.1 ≤ c.2.2.2.1 ∧ i + 1 + 1 ≤ c.2.2.2.1 ∧ c.2.2.2.1 ≤ T.length ∧ c.2.2.2.2 ≤ 2000 ∧
   (match c.2.2.1 with
    | true=>∃k,T.length-c.2.2.2.1<k/\(dO fin [59] (aAP false fin) k (c.1.1,c.2.1) (T.drop c.2.2.2.1) c.2.2.2.2).to (λa w n=>(rR false fin w n).to (λl w n=>PK T i (λj m=>s.setO r (aZ T fin d first j m)) Rul.enc KV { a.1 with cond:=l } w n) (PB s r Kp)) (PB s r Kp)
    | false=>(rR false fin (T.drop c.2.2.2.1) c.2.2.2.2).to (λl w n=>PK T i (λj m=>s.setO r (aZ T fin d first j m)) Rul.enc KV { c.1.1 with cond:=l } w n) (PB s r Kp)))
  (λc=>T.length-c.2.2.2.1) ((⟨x1,[],[],[],[],t.line,t.col⟩,none,none,none),0,true,i+1+1,n) ?_ ?_ ?_ ?_
 .refine⟨⟨⟨?_,?_,?_⟩,h5,hb5.1.2,aX _,aX _,aX _⟩,aX _,bL _,hlt2,hn,_,lN _,hk2⟩
  .intro o ho u hu;simp only[dU,dD,kQ,eU]at ho;rcases ho with rfl|rfl|rfl<;>cases hu
  .intro o ho _;simp only[dU,dD,kQ,eU]at ho;rcases ho with rfl|rfl|rfl<;>rfl
  .intro i j a b u hi hj ha hb;have:=cR hi;simp only[dU,dD,kQ,eU]at this;rcases this with rfl|rfl|rfl<;>cases ha
 .simp only[go_sem,hb3,e3,hb4,e4,hb5,e5];rfl
 .show St.ge _ ((s2.setO b5 _).setO r _);subst hs2;exact bK
 .rintro⟨⟨x,tp,tn,td⟩,cnt,more,i2,n2⟩ ⟨hQ,hcnt,hi1,hi2,hn2,hk3⟩;simp only at hQ hcnt hi1 hi2 hn2 hk3;have hQ0:=hQ;obtain⟨hown,hb,hne,l1,l2,l3⟩:=hQ;have hfr:=hown.free;have n45:=hb5.2.1.1;have n54:=hb5.2.1.2;refine bC (V:=[0,1,3,4,5,6,7,8,19,42]) _ _ _ _ ?_;cases more with
  | false =>
   simp only at hk3;unfold eS qT;have hneS:=hne.symm;simp only[go_sem,aJ,hne,hne.symm,h24,e4,n45,n54];refine aFI (T:=T) (fin:=fin) (d:=d) (first:=first) (i:=i2) (n:=n2) hT gH hi2 hn2 (aT hk3 (λl w m hk4 j hj hjT hw hm=>?_) (λf h=>PBk _ _ aR h));simp only[go_sem,aJ,hne,hne.symm,h24,e4,n45,n54];refine⟨by cases tp<;>cases tn<;>cases td<;>rfl,?_⟩;refine DK.mk (hk4 j aB hjT hw hm) (aGw bK (λo ho u hu=>by have:=hfr o ho u hu;subst hs2;exact this)) ?_;simp only[Rul.enc,Rul.cs];have z1:tp=none->x.parts=[]:=λe=>fC (hown.nil (tp,x.parts.length,69) (by simp[dU]) e)
   have z2:tn=none->x.new=[]:=λe=>fC (hown.nil (tn,x.new.length,71) (by simp[dU]) e)
   have z3:td=none->x.drop=[]:=λe=>fC (hown.nil (td,x.drop.length,9) (by simp[dU]) e)
   exact A.le.agg ⟨⟨bF _,rfl⟩,⟨aNR tp (λe=>by rw[z1 e];rfl) (aIX _),rfl⟩,⟨bF _,rfl⟩,⟨gK tn _ (λe=>by rw[z2 e];rfl),rfl⟩,⟨gK td _ (λe=>by rw[z3 e];rfl),rfl⟩,⟨bF _,rfl⟩,⟨bF _,rfl⟩,trivial⟩
  | true =>
   obtain⟨k,hk3,hk4⟩:=hk3;obtain⟨k,rfl⟩:∃k',k=k'+1:=⟨k-1,by omega⟩
   rw[dO,bH]at hk4;have hneS:=hne.symm;simp only[go_sem,aJ,hne,hne.symm,h24,e4,n45,n54];refine gS (T:=T) (fin:=fin) (d:=d) (first:=first) (i:=i2) (n:=n2) (by unfold eS;rw[aJ,aH,aE rfl]) hi2 ?_;cases hw:T.drop i2 with
   | nil =>
    rw[hw]at hk4;exact hk4.at (hg2 (eS T fin d first b5 r s2 x tp tn td i2 n2) (by unfold eS;exact aR)) (o:=aZ T fin d first i2 n2) (by unfold eS;rw[aJ,aH,aE rfl])
   | cons t2 w =>
    obtain⟨g1,g2,g3,g4⟩:=iR hw;rw[hw]at hk4;simp only[aAP]at hk4;simp only[go_sem,aJ,hne,hne.symm,h24,e4,n45,n54];intro b8 hb8
    have hpart:((t2.kind=1/\(¬ t2.text∈kF\/t2.text=[110,101,119]\/t2.text=[100,114,111,112]))->¬ 20<=cnt)->(aA3 false fin x (T.drop i2) n2).to (λx' w n=>(if cJ [59] w=true then dO fin [59] (aAP false fin) k (x',cnt+1) w.tail n else Rd.ok (x',cnt+1) w n).to
      (λa w n=>(rR false fin w n).to (λl w n=>PK T i (λj m=>s.setO r (aZ T fin d first j m)) Rul.enc KV { a.1 with cond:=l } w n) (PB s r Kp)) (PB s r Kp)) (PB s r Kp):=λh=>by
     rw[hw];rw[aD (λhc=>h hc.1 hc.2),bH]at hk4;exact hk4
    simp only[go_sem,aJ,hne,hne.symm,h24,e4,n45,n54];cases c1:decide (t2.kind=1)
    .have hk5:=hpart (λhc=>by have:=hc.1;simp[this]at c1);simp only[go_sem,aJ,hne,hne.symm,h24,e4,n45,n54,c1];refine fA (eG hb8) ?_;refine xP hT b5 x tp tn td hQ0 hi2 hn2 (aT hk5 (λx' w1 m1 hk6 j tp' tn' td' hj hjT hw1 hm1 hQ'=>?_) (λf h s1 o hg hr1=>h.at (hg2 _ hg) hr1));subst hw1;simp only[go_sem,aJ,hne,hne.symm,h24,e4,n45,n54,bM cnt aB];refine gC (T:=T) (fin:=fin) (d:=d) (first:=first) (i:=j) (n:=m1) _ (by unfold eS;rw[aJ,aH,aE rfl]) hjT hT ?_;cases c9:cJ [59] (T.drop j)with
     | true =>
      rw[aE c9,jO]at hk6;have hlt9:=iI c9;simp only[go_sem,aJ,hne,hne.symm,h24,e4,n45,n54];refine⟨((x',tp',tn',td'),cnt+1,true,j+1,m1),⟨⟨hQ'.own,hQ'.hb,hQ'.ne,by have:=hQ'.l1;simp only;omega,by have:=hQ'.l2;simp only;omega,by have:=hQ'.l3;simp only;omega⟩,aP,aP,hlt9,hm1,k,aP,hk6⟩,aP,?_⟩;refine⟨⟨rfl,rfl⟩,?_⟩;unfold eS;rw[sX,lW];exact aG _
     | false =>
      rw[aD (by simp[c9]),bR]at hk6;simp only[go_sem,aJ,hne,hne.symm,h24,e4,n45,n54];refine⟨((x',tp',tn',td'),cnt+1,false,j,m1),⟨hQ',aP,aP,hjT,hm1,hk6⟩,aP,?_⟩;exact⟨⟨rfl,rfl⟩,aG _⟩
    simp only[go_sem,aJ,hne,hne.symm,h24,e4,n45,n54,c1];refine rA _ _ _ _ ?_;simp only[go_sem,aJ,hne,hne.symm,h24,e4,n45,n54];cases c2:decide (t2.text∈kF)
    .simp only[go_sem,aJ,hne,hne.symm,h24,e4,n45,n54,c2];refine fA (eG hb8) ?_;refine jR (T:=T) (fin:=fin) (d:=d) (first:=first) (i:=i2) (n:=n2) _ _ (by unfold eS;rw[aJ,aH,aE rfl]) hi2 ?_;by_cases h20:20<=cnt
     .rw[aE ⟨⟨gQ c1,.inl (gQ c2)⟩,h20⟩,dE]at hk4;rw[aE aB,hw];exact PBk _ _ (by unfold eS;exact aR) hk4
     rw[aD aB];have hk5:=hpart (λ_=>h20);simp only[go_sem,aJ,hne,hne.symm,h24,e4,n45,n54];refine xP hT b5 x tp tn td hQ0 hi2 hn2 (aT hk5 (λx' w1 m1 hk6 j tp' tn' td' hj hjT hw1 hm1 hQ'=>?_) (λf h s1 o hg hr1=>h.at (hg2 _ hg) hr1));subst hw1;simp only[go_sem,aJ,hne,hne.symm,h24,e4,n45,n54,bM cnt aB];refine gC (T:=T) (fin:=fin) (d:=d) (first:=first) (i:=j) (n:=m1) _ (by unfold eS;rw[aJ,aH,aE rfl]) hjT hT ?_;cases c9:cJ [59] (T.drop j)with
     | true =>
      rw[aE c9,jO]at hk6;have hlt9:=iI c9;simp only[go_sem,aJ,hne,hne.symm,h24,e4,n45,n54];refine⟨((x',tp',tn',td'),cnt+1,true,j+1,m1),⟨⟨hQ'.own,hQ'.hb,hQ'.ne,by have:=hQ'.l1;simp only;omega,by have:=hQ'.l2;simp only;omega,by have:=hQ'.l3;simp only;omega⟩,aP,aP,hlt9,hm1,k,aP,hk6⟩,aP,?_⟩;refine⟨⟨rfl,rfl⟩,?_⟩;unfold eS;rw[sX,lW];exact aG _
     | false =>
      rw[aD (by simp[c9]),bR]at hk6;simp only[go_sem,aJ,hne,hne.symm,h24,e4,n45,n54];refine⟨((x',tp',tn',td'),cnt+1,false,j,m1),⟨hQ',aP,aP,hjT,hm1,hk6⟩,aP,?_⟩;exact⟨⟨rfl,rfl⟩,aG _⟩
    simp only[go_sem,aJ,hne,hne.symm,h24,e4,n45,n54,c2];cases c3:decide (t2.text=[110,101,119]);rotate_left
    .simp only[go_sem,aJ,hne,hne.symm,h24,e4,n45,n54,c3];refine fA (eG hb8) ?_;refine jR (T:=T) (fin:=fin) (d:=d) (first:=first) (i:=i2) (n:=n2) _ _ (by unfold eS;rw[aJ,aH,aE rfl]) hi2 ?_;by_cases h20:20<=cnt
     .rw[aE ⟨⟨gQ c1,.inr (.inl (gQ c3))⟩,h20⟩,dE]at hk4;rw[aE aB,hw];exact PBk _ _ (by unfold eS;exact aR) hk4
     rw[aD aB];have hk5:=hpart (λ_=>h20);simp only[go_sem,aJ,hne,hne.symm,h24,e4,n45,n54];refine xP hT b5 x tp tn td hQ0 hi2 hn2 (aT hk5 (λx' w1 m1 hk6 j tp' tn' td' hj hjT hw1 hm1 hQ'=>?_) (λf h s1 o hg hr1=>h.at (hg2 _ hg) hr1));subst hw1;simp only[go_sem,aJ,hne,hne.symm,h24,e4,n45,n54,bM cnt aB];refine gC (T:=T) (fin:=fin) (d:=d) (first:=first) (i:=j) (n:=m1) _ (by unfold eS;rw[aJ,aH,aE rfl]) hjT hT ?_;cases c9:cJ [59] (T.drop j)with
     | true =>
      rw[aE c9,jO]at hk6;have hlt9:=iI c9;simp only[go_sem,aJ,hne,hne.symm,h24,e4,n45,n54];refine⟨((x',tp',tn',td'),cnt+1,true,j+1,m1),⟨⟨hQ'.own,hQ'.hb,hQ'.ne,by have:=hQ'.l1;simp only;omega,by have:=hQ'.l2;simp only;omega,by have:=hQ'.l3;simp only;omega⟩,aP,aP,hlt9,hm1,k,aP,hk6⟩,aP,?_⟩;refine⟨⟨rfl,rfl⟩,?_⟩;unfold eS;rw[sX,lW];exact aG _
     | false =>
      rw[aD (by simp[c9]),bR]at hk6;simp only[go_sem,aJ,hne,hne.symm,h24,e4,n45,n54];refine⟨((x',tp',tn',td'),cnt+1,false,j,m1),⟨hQ',aP,aP,hjT,hm1,hk6⟩,aP,?_⟩;exact⟨⟨rfl,rfl⟩,aG _⟩
    simp only[go_sem,aJ,hne,hne.symm,h24,e4,n45,n54,c3];cases c4:decide (t2.text=[100,114,111,112]);rotate_left
    .simp only[go_sem,aJ,hne,hne.symm,h24,e4,n45,n54,c4];refine fA (eG hb8) ?_;refine jR (T:=T) (fin:=fin) (d:=d) (first:=first) (i:=i2) (n:=n2) _ _ (by unfold eS;rw[aJ,aH,aE rfl]) hi2 ?_;by_cases h20:20<=cnt
     .rw[aE ⟨⟨gQ c1,.inr (.inr (gQ c4))⟩,h20⟩,dE]at hk4;rw[aE aB,hw];exact PBk _ _ (by unfold eS;exact aR) hk4
     rw[aD aB];have hk5:=hpart (λ_=>h20);simp only[go_sem,aJ,hne,hne.symm,h24,e4,n45,n54];refine xP hT b5 x tp tn td hQ0 hi2 hn2 (aT hk5 (λx' w1 m1 hk6 j tp' tn' td' hj hjT hw1 hm1 hQ'=>?_) (λf h s1 o hg hr1=>h.at (hg2 _ hg) hr1));subst hw1;simp only[go_sem,aJ,hne,hne.symm,h24,e4,n45,n54,bM cnt aB];refine gC (T:=T) (fin:=fin) (d:=d) (first:=first) (i:=j) (n:=m1) _ (by unfold eS;rw[aJ,aH,aE rfl]) hjT hT ?_;cases c9:cJ [59] (T.drop j)with
     | true =>
      rw[aE c9,jO]at hk6;have hlt9:=iI c9;simp only[go_sem,aJ,hne,hne.symm,h24,e4,n45,n54];refine⟨((x',tp',tn',td'),cnt+1,true,j+1,m1),⟨⟨hQ'.own,hQ'.hb,hQ'.ne,by have:=hQ'.l1;simp only;omega,by have:=hQ'.l2;simp only;omega,by have:=hQ'.l3;simp only;omega⟩,aP,aP,hlt9,hm1,k,aP,hk6⟩,aP,?_⟩;refine⟨⟨rfl,rfl⟩,?_⟩;unfold eS;rw[sX,lW];exact aG _
     | false =>
      rw[aD (by simp[c9]),bR]at hk6;simp only[go_sem,aJ,hne,hne.symm,h24,e4,n45,n54];refine⟨((x',tp',tn',td'),cnt+1,false,j,m1),⟨hQ',aP,aP,hjT,hm1,hk6⟩,aP,?_⟩;exact⟨⟨rfl,rfl⟩,aG _⟩
    simp only[go_sem,aJ,hne,hne.symm,h24,e4,n45,n54,c4];have hk5:=hpart (λhc=>by have h1:=hc.2;simp at c2 c3 c4;rcases h1 with h1|h1|h1;exact(h1 c2).elim;exact(c3 h1).elim;exact(c4 h1).elim);refine fA (eG hb8) ?_;refine xP hT b5 x tp tn td hQ0 hi2 hn2 (aT hk5 (λx' w1 m1 hk6 j tp' tn' td' hj hjT hw1 hm1 hQ'=>?_) (λf h s1 o hg hr1=>h.at (hg2 _ hg) hr1));subst hw1;simp only[go_sem,aJ,hne,hne.symm,h24,e4,n45,n54,bM cnt aB];refine gC (T:=T) (fin:=fin) (d:=d) (first:=first) (i:=j) (n:=m1) _ (by unfold eS;rw[aJ,aH,aE rfl]) hjT hT ?_;cases c9:cJ [59] (T.drop j)with
    | true =>
     rw[aE c9,jO]at hk6;have hlt9:=iI c9;simp only[go_sem,aJ,hne,hne.symm,h24,e4,n45,n54];refine⟨((x',tp',tn',td'),cnt+1,true,j+1,m1),⟨⟨hQ'.own,hQ'.hb,hQ'.ne,by have:=hQ'.l1;simp only;omega,by have:=hQ'.l2;simp only;omega,by have:=hQ'.l3;simp only;omega⟩,aP,aP,hlt9,hm1,k,aP,hk6⟩,aP,?_⟩;refine⟨⟨rfl,rfl⟩,?_⟩;unfold eS;rw[sX,lW];exact aG _
    | false =>
     rw[aD (by simp[c9]),bR]at hk6;simp only[go_sem,aJ,hne,hne.symm,h24,e4,n45,n54];refine⟨((x',tp',tn',td'),cnt+1,false,j,m1),⟨hQ',aP,aP,hjT,hm1,hk6⟩,aP,?_⟩;exact⟨⟨rfl,rfl⟩,aG _⟩
end
end
section
structure GrQ {α:Type} (b1 b3 r:Nat) (s:St) (acc:List α) (tk:Option Nat) (i:Nat):Prop where
 len:acc.length<=i
 h1:s.getO b1=some (.cells 130 [.ptr r 0])
 h3:s.getO b3=some (.cells 207 [.ptr r 6])
 ne:b1≠r/\b3≠r
 nil:tk=none->acc=[]
 free:∀t,tk=some t->s.getT t=none
def lI(T:List Tok)(fin:Fault)(d:Dc)(first:Tok)(r:Nat)(s:St)(acc:List aC)(tk:Option Nat)(i n:Nat):St :=
 gs (s.setO r (aZ T fin { d with sorts:=gv tk (acc.map .str) } first i n)) tk acc.length 9
def lG(T:List Tok)(fin:Fault)(d:Dc)(first:Tok)(r:Nat)(s:St)(acc:List Cel)(tk:Option Nat)(i n:Nat):St :=
 gs (s.setO r (aZ T fin { d with many:=gv tk (acc.map Cel.enc) } first i n)) tk acc.length 67
section
variable {T:List Tok} {fin:Fault} {d:Dc} {first:Tok} {i n:Nat} {s:St} {r:Nat} {KV Kp:St->A->Prop}
theorem aCP(F:TOk T)(z:Nat)(h:Bool)(B:s.getO z=some (.cells 130 [.ptr r 0]))(y:s.getO r=some (aZ T fin d first i n))(L:i+1<=T.length)
  (G:match h with|true=>PB s r Kp (eY fin 14 (T.drop i))|false=>KV (s.setO r (aZ T fin d first (i+1) n)) (.tuple [])):Den cx 195 [.bool h,.ptr z 0] KV Kp s:=by
 have H:=F.len;have m:=y;simp only[go_sem]at m;(refine aL func195 [0,1,3] ?_;simp only[go_sem,ntmps195,f195]);cases h with
 | true =>
  simp only[go_sem,B];refine lZ 14 y aB F ?_;exact G.here y
 | false =>
  simp only[go_sem,B,m,bM i aB];exact aN G
theorem aKZ(hT:TOk T)(b1 b3:Nat)(acc:List aC)(tk:Option Nat)(hQ:GrQ b1 b3 r s acc tk i)(hi:i<=T.length)(hn:n<=2000)
  (hk : (mK fin 40 acc.length (T.drop i) n fun w n => eH fin w n).to (fun a w n' => ∀ j y,i + 1 ≤ j → j ≤ T.length → T.drop j = w → n' ≤ 2000 → GrQ b1 b3 r s (acc ++ [a]) y j → KV (lI T fin d first r s (acc ++ [a]) y j n') (.bool true))
   (λf=>∀s1 o,s1.gx s r->s1.getO r=some o->Kp s1 (.iface 51 f.enc))):Den cx 155 [.ptr b1 0,.ptr b3 0] KV Kp (lI T fin d first r s acc tk i n):=by
 obtain⟨bb,H,L,⟨m,z⟩,U,O⟩:=hQ;have b9:=hT.len;have hg:gZ (lI T fin d first r s acc tk i n) tk (acc.map A.str).length 9:=by rw[aK];exact eD λe=>by rw[U e];rfl
 (refine aL func155 [0,1,2,3,14] ?_;simp only[go_sem,ntmps155,f155]);unfold lI;have bc:=m.symm;have bd:=z.symm;simp only[go_sem,H,L,m,m.symm,z,z.symm];refine gS (d:={ d with sorts:=gv tk (acc.map A.str) }) (T:=T) (fin:=fin) (first:=first) (i:=i) (n:=n) gH hi ?_;cases hw:T.drop i with
 | nil=>rw[hw]at hk;exact aN (hk _ (aZ T fin { d with sorts:=gv tk (acc.map A.str) } first i n) aR gH)
 | cons t w =>
  obtain⟨g1,g2,g3,g4⟩:=iR hw;rw[hw]at hk
  have S:(t.free=true->¬ 40<=acc.length)->(eH fin (T.drop i) n).to (λa w n'=>∀j y,i+1<=j->j<=T.length->T.drop j=w->n'<=2000->GrQ b1 b3 r s (acc++[a]) y j->KV (lI T fin d first r s (acc++[a]) y j n') (.bool true))
    (λf=>∀s1 o,s1.gx s r->s1.getO r=some o->Kp s1 (.iface 51 f.enc)):=λh=>by
   rw[hw];simp only[mK]at hk;rw[aD (λhc=>h hc.1 hc.2)]at hk;exact hk
  simp only[go_sem,H,L,m,m.symm,z,z.symm];(refine gF λb5 B=>?_);have G:=aS L B.2;have F:=aS H B.2;simp only[go_sem,H,L,m,m.symm,z,z.symm,B,G,F];cases c1:decide (t.kind=1)
  .have b0:=S (λhf=>by simp[Tok.free,c1]at hf);simp only[go_sem,H,L,m,m.symm,z,z.symm,B,G,F,c1];(refine bB (OT.r 0 14) [(7,[0,1,5]),(9,[0])] ?_;simp only[go_sem,H,L,m,m.symm,z,z.symm,B,G,F]);refine fN (d:={ d with sorts:=gv tk (acc.map A.str) }) (T:=T) (fin:=fin) (first:=first) (i:=i) (n:=n) gH hi hT (aT b0 (λx w2 m2 b2 b6 b7 b8=>?_) (λf h=>cO aR h));subst m2;have hj:i+1<=i+1:=bL _;simp only[go_sem,H,L,m,m.symm,z,z.symm,B,G,F];refine⟨by decide,λy M=>by simp only[cC]at M;subst M;rfl,cT rfl rfl (by rw[aK];exact eD λe=>by rw[U e];rfl) (λy M=>?_) (by simp only[aK,aO,aU];omega) (λu hu=>?_)⟩
   .simp only[cD]at M;obtain⟨q,_,rfl⟩:=M;rfl
   have Z:=eX hu O;rw[eP hu];simp only[go_sem,H,L,m,m.symm,z,z.symm,B,G,F];have b4:=b2 (i+1) (some u) hj b6 b7 hn ⟨by simp only[aI,aO,aU];omega,H,L,⟨m,z⟩,λe=>(by cases e),λt' e=>by cases e;exact Z⟩;refine aF b4 ?_;simp only[lI,dB,bY,bN,cP,aI,aO,aU,aK];exact bK
  simp only[go_sem,H,L,m,m.symm,z,z.symm,B,G,F,c1];refine rA _ _ _ _ ?_;simp only[go_sem,H,L,m,m.symm,z,z.symm,B,G,F];cases c2:decide (t.text∈kF);rotate_left
  .have b0:=S (λhf=>by simp[Tok.free,c2]at hf);simp only[go_sem,H,L,m,m.symm,z,z.symm,B,G,F,c2];(refine bB (OT.r 0 14) [(7,[0,1,5]),(9,[0])] ?_;simp only[go_sem,H,L,m,m.symm,z,z.symm,B,G,F]);refine fN (d:={ d with sorts:=gv tk (acc.map A.str) }) (T:=T) (fin:=fin) (first:=first) (i:=i) (n:=n) gH hi hT (aT b0 (λx w2 m2 b2 b6 b7 b8=>?_) (λf h=>cO aR h));subst m2;have hj:i+1<=i+1:=bL _;simp only[go_sem,H,L,m,m.symm,z,z.symm,B,G,F];refine⟨by decide,λy M=>by simp only[cC]at M;subst M;rfl,cT rfl rfl (by rw[aK];exact eD λe=>by rw[U e];rfl) (λy M=>?_) (by simp only[aK,aO,aU];omega) (λu hu=>?_)⟩
   .simp only[cD]at M;obtain⟨q,_,rfl⟩:=M;rfl
   have Z:=eX hu O;rw[eP hu];simp only[go_sem,H,L,m,m.symm,z,z.symm,B,G,F];have b4:=b2 (i+1) (some u) hj b6 b7 hn ⟨by simp only[aI,aO,aU];omega,H,L,⟨m,z⟩,λe=>(by cases e),λt' e=>by cases e;exact Z⟩;refine aF b4 ?_;simp only[lI,dB,bY,bN,cP,aI,aO,aU,aK];exact bK
  simp only[go_sem,H,L,m,m.symm,z,z.symm,B,G,F,c2];(refine bB (OT.r 0 8) [] ?_;simp only[go_sem,H,L,m,m.symm,z,z.symm,B,G,F,mD hg]);refine jR (d:={ d with sorts:=gv tk (acc.map A.str) }) (T:=T) (fin:=fin) (first:=first) (i:=i) (n:=n) _ _ gH hi ?_;by_cases h8:40<=acc.length
  .rw[aE aB,hw];simp only[mK]at hk;rw[aE ⟨by simp[Tok.free,c1,c2],h8⟩]at hk;exact cO aR hk
  rw[aD aB];have b0:=S (λ_=>h8);simp only[go_sem,H,L,m,m.symm,z,z.symm,B,G,F];(refine bB (OT.r 0 14) [(7,[0,1,5]),(9,[0])] ?_;simp only[go_sem,H,L,m,m.symm,z,z.symm,B,G,F]);refine fN (d:={ d with sorts:=gv tk (acc.map A.str) }) (T:=T) (fin:=fin) (first:=first) (i:=i) (n:=n) gH hi hT (aT b0 (λx w2 m2 b2 b6 b7 b8=>?_) (λf h=>cO aR h));subst m2;have hj:i+1<=i+1:=bL _;simp only[go_sem,H,L,m,m.symm,z,z.symm,B,G,F];refine⟨by decide,λy M=>by simp only[cC]at M;subst M;rfl,cT rfl rfl (by rw[aK];exact eD λe=>by rw[U e];rfl) (λy M=>?_) (by simp only[aK,aO,aU];omega) (λu hu=>?_)⟩
  .simp only[cD]at M;obtain⟨q,_,rfl⟩:=M;rfl
  have Z:=eX hu O;rw[eP hu];simp only[go_sem,H,L,m,m.symm,z,z.symm,B,G,F];have b4:=b2 (i+1) (some u) hj b6 b7 hn ⟨by simp only[aI,aO,aU];omega,H,L,⟨m,z⟩,λe=>(by cases e),λt' e=>by cases e;exact Z⟩;refine aF b4 ?_;simp only[lI,dB,bY,bN,cP,aI,aO,aU,aK];exact bK
theorem aK2(hT:TOk T)(b1 b3:Nat)(acc:List Cel)(tk:Option Nat)(hQ:GrQ b1 b3 r s acc tk i)(hi:i<=T.length)(hn:n<=2000)
  (hk : (mK fin 12 acc.length (T.drop i) n fun w n => tN false fin w n).to (fun a w n' => ∀ j y,i + 1 ≤ j → j ≤ T.length → T.drop j = w → n' ≤ 2000 → GrQ b1 b3 r s (acc ++ [a]) y j → KV (lG T fin d first r s (acc ++ [a]) y j n') (.bool true))
   (λf=>∀s1 o,s1.gx s r->s1.getO r=some o->Kp s1 (.iface 51 f.enc))):Den cx 197 [.ptr b1 0,.ptr b3 0] KV Kp (lG T fin d first r s acc tk i n):=by
 obtain⟨bb,H,L,⟨m,z⟩,U,O⟩:=hQ;have b9:=hT.len;have hg:gZ (lG T fin d first r s acc tk i n) tk (acc.map Cel.enc).length 67:=by rw[aK];exact eD λe=>by rw[U e];rfl
 (refine aL func197 [0,1,2,3,14] ?_;simp only[go_sem,ntmps197,f197]);unfold lG;have bc:=m.symm;have bd:=z.symm;simp only[go_sem,H,L,m,m.symm,z,z.symm];refine gS (d:={ d with many:=gv tk (acc.map Cel.enc) }) (T:=T) (fin:=fin) (first:=first) (i:=i) (n:=n) gH hi ?_;cases hw:T.drop i with
 | nil=>rw[hw]at hk;exact aN (hk _ (aZ T fin { d with many:=gv tk (acc.map Cel.enc) } first i n) aR gH)
 | cons t w =>
  obtain⟨g1,g2,g3,g4⟩:=iR hw;rw[hw]at hk
  have S:(t.free=true->¬ 12<=acc.length)->(tN false fin (T.drop i) n).to (λa w n'=>∀j y,i+1<=j->j<=T.length->T.drop j=w->n'<=2000->GrQ b1 b3 r s (acc++[a]) y j->KV (lG T fin d first r s (acc++[a]) y j n') (.bool true))
    (λf=>∀s1 o,s1.gx s r->s1.getO r=some o->Kp s1 (.iface 51 f.enc)):=λh=>by
   rw[hw];simp only[mK]at hk;rw[aD (λhc=>h hc.1 hc.2)]at hk;exact hk
  simp only[go_sem,H,L,m,m.symm,z,z.symm];(refine gF λb5 B=>?_);have G:=aS L B.2;have F:=aS H B.2;simp only[go_sem,H,L,m,m.symm,z,z.symm,B,G,F];cases c1:decide (t.kind=1)
  .have b0:=S (λhf=>by simp[Tok.free,c1]at hf);simp only[go_sem,H,L,m,m.symm,z,z.symm,B,G,F,c1];(refine bB (OT.r 0 12) [(6,[0,1,4]),(8,[0])] ?_;simp only[go_sem,H,L,m,m.symm,z,z.symm,B,G,F]);refine aAv (d:={ d with many:=gv tk (acc.map Cel.enc) }) (T:=T) (fin:=fin) (first:=first) (i:=i) (n:=n) hT gH hi hn (aT b0 (λx w2 m2 b2 j hj b6 b8 b7=>?_) (λf h=>cO aR h));simp only[go_sem,H,L,m,m.symm,z,z.symm,B,G,F];refine⟨by decide,λy M=>by simp only[cC]at M;subst M;rfl,cT rfl rfl (by rw[aK];exact eD λe=>by rw[U e];rfl) (λy M=>?_) (by simp only[aK,aO,aU];omega) (λu hu=>?_)⟩
   .simp only[cD]at M;obtain⟨q,_,rfl⟩:=M;rfl
   have Z:=eX hu O;rw[eP hu];simp only[go_sem,H,L,m,m.symm,z,z.symm,B,G,F];have b4:=b2 j (some u) hj b6 b8 b7 ⟨by simp only[aI,aO,aU];omega,H,L,⟨m,z⟩,λe=>(by cases e),λt' e=>by cases e;exact Z⟩;refine aF b4 ?_;simp only[lG,dB,bY,bN,cP,aI,aO,aU,aK];exact bK
  simp only[go_sem,H,L,m,m.symm,z,z.symm,B,G,F,c1];refine rA _ _ _ _ ?_;simp only[go_sem,H,L,m,m.symm,z,z.symm,B,G,F];cases c2:decide (t.text∈kF);rotate_left
  .have b0:=S (λhf=>by simp[Tok.free,c2]at hf);simp only[go_sem,H,L,m,m.symm,z,z.symm,B,G,F,c2];(refine bB (OT.r 0 12) [(6,[0,1,4]),(8,[0])] ?_;simp only[go_sem,H,L,m,m.symm,z,z.symm,B,G,F]);refine aAv (d:={ d with many:=gv tk (acc.map Cel.enc) }) (T:=T) (fin:=fin) (first:=first) (i:=i) (n:=n) hT gH hi hn (aT b0 (λx w2 m2 b2 j hj b6 b8 b7=>?_) (λf h=>cO aR h));simp only[go_sem,H,L,m,m.symm,z,z.symm,B,G,F];refine⟨by decide,λy M=>by simp only[cC]at M;subst M;rfl,cT rfl rfl (by rw[aK];exact eD λe=>by rw[U e];rfl) (λy M=>?_) (by simp only[aK,aO,aU];omega) (λu hu=>?_)⟩
   .simp only[cD]at M;obtain⟨q,_,rfl⟩:=M;rfl
   have Z:=eX hu O;rw[eP hu];simp only[go_sem,H,L,m,m.symm,z,z.symm,B,G,F];have b4:=b2 j (some u) hj b6 b8 b7 ⟨by simp only[aI,aO,aU];omega,H,L,⟨m,z⟩,λe=>(by cases e),λt' e=>by cases e;exact Z⟩;refine aF b4 ?_;simp only[lG,dB,bY,bN,cP,aI,aO,aU,aK];exact bK
  simp only[go_sem,H,L,m,m.symm,z,z.symm,B,G,F,c2];(refine bB (OT.r 0 7) [] ?_;simp only[go_sem,H,L,m,m.symm,z,z.symm,B,G,F,mD hg]);refine jR (d:={ d with many:=gv tk (acc.map Cel.enc) }) (T:=T) (fin:=fin) (first:=first) (i:=i) (n:=n) _ _ gH hi ?_;by_cases h8:12<=acc.length
  .rw[aE aB,hw];simp only[mK]at hk;rw[aE ⟨by simp[Tok.free,c1,c2],h8⟩]at hk;exact cO aR hk
  rw[aD aB];have b0:=S (λ_=>h8);simp only[go_sem,H,L,m,m.symm,z,z.symm,B,G,F];(refine bB (OT.r 0 12) [(6,[0,1,4]),(8,[0])] ?_;simp only[go_sem,H,L,m,m.symm,z,z.symm,B,G,F]);refine aAv (d:={ d with many:=gv tk (acc.map Cel.enc) }) (T:=T) (fin:=fin) (first:=first) (i:=i) (n:=n) hT gH hi hn (aT b0 (λx w2 m2 b2 j hj b6 b8 b7=>?_) (λf h=>cO aR h));simp only[go_sem,H,L,m,m.symm,z,z.symm,B,G,F];refine⟨by decide,λy M=>by simp only[cC]at M;subst M;rfl,cT rfl rfl (by rw[aK];exact eD λe=>by rw[U e];rfl) (λy M=>?_) (by simp only[aK,aO,aU];omega) (λu hu=>?_)⟩
  .simp only[cD]at M;obtain⟨q,_,rfl⟩:=M;rfl
  have Z:=eX hu O;rw[eP hu];simp only[go_sem,H,L,m,m.symm,z,z.symm,B,G,F];have b4:=b2 j (some u) hj b6 b8 b7 ⟨by simp only[aI,aO,aU];omega,H,L,⟨m,z⟩,λe=>(by cases e),λt' e=>by cases e;exact Z⟩;refine aF b4 ?_;simp only[lG,dB,bY,bN,cP,aI,aO,aU,aK];exact bK
end
end
end Go.AV
