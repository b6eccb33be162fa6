/-
  Of CheckChecks.
-/
import Derived.Test.YthaljojbclndaaaGreatDoorCc08
import Derived.Lib.ItoaNum
import Derived.Shelf.Sort.Plain
import Derived.Shelf.Slices.CompactS
import Derived.Shelf.Slices.In.SortNone
import Derived.Sort.Walk0
set_option linter.all false
set_option maxRecDepth 99999
set_option maxHeartbeats 0
namespace Go.AV
open Go Go.Proofs Tryz
theorem wH(s:St)(x:aC)(KV Kp)(h:KV s (.bool (decide (x∈nZ)))):Den cx 218 [.str x] KV Kp s:=by
 (refine aN func218 [0,2] ?_;simp only[go_sem,ntmps218,f218]);refine aNK _ _ _ ?_;simp only[go_sem,aAN];refine pG _ _ _ _ _ ?_;simp only[go_sem];exact aP h
theorem aFx(s:St)(x:aC)(KV Kp)(h:KV s (.bool (decide (x∈gY)))):Den cx 124 [.str x] KV Kp s:=by
 (refine aN func124 [0,2] ?_;simp only[go_sem,ntmps124,f124]);refine aNZ _ _ _ ?_;simp only[go_sem,aAN];refine pG _ _ _ _ _ ?_;simp only[go_sem];exact aP h
def aEp(n:Int):Bool:=decide (-2147483647<=n)&&decide (n<=2147483647)
theorem aJ3(s:St)(n:Int)(KV Kp)(m:KV s (.bool (aEp n))):Den cx 230 [.int .i64 n] KV Kp s:=by
 unfold aEp at m;(refine aN func230 [0,2] ?_;simp only[go_sem,ntmps230,f230])
 (repeat' (first|exact aG m aR|((apply aJ<;>intro h)<;>simp only[go_sem,h]<;>(try simp only[h,dW,gB,eU,iZ,lM,jT,jA,gW,fP,iB]at m))))
def mE(x:aC):Bool:=decide (2<x.length)&&(decide (x[x.length-2]?=some 39)&&(match x[x.length-1]? with|some c=>decide (49<=c.toNat)&&decide (c.toNat<=56)|none=>false))
theorem aKi(s:St)(x:aC)(KV Kp)(hl:x.length<=4611686018427387904)(h:KV s (if mE x=true then .tuple [.str (x.take (x.length-2)),.str (x.drop (x.length-2))] else .tuple [.str x,.str []])):Den cx 123 [.str x] KV Kp s:=by
 have w0:IntKind.i64.wrap ((x.length:Int)-2)=(x.length:Int)-2:=by
  exact fV _ aB aB
 (refine aN func123 [0,2,3,4,29] ?_;simp only[go_sem,ntmps123,f123]);by_cases Z:2<x.length
 .have w1:(x.length:Int)-2=((x.length-2:Nat):Int):=by omega
  have O:=w0.trans w1
  have M:IntKind.i64.wrap (((x.length-2:Nat):Int)+1)=((x.length-1:Nat):Int):=by
   rw[aU _ aB];omega
  have S:decide ((0:Int)<((x.length-2:Nat):Int))=true:=by rw[bW];omega
  obtain⟨u,y⟩:∃c,x[x.length-2]?=some c:=⟨_,dI aB⟩
  obtain⟨m,z⟩:∃c,x[x.length-1]?=some c:=⟨_,dI aB⟩
  have G:x.length-2<x.length:=by omega
  have H:x.length-1<x.length:=by omega
  simp only[go_sem,O,M,S,y,z,qK,G,H]
  have ef:mE x=(decide ((u.toNat:Int)=39)&&(decide ((49:Int)<=(m.toNat:Int))&&decide ((m.toNat:Int)<=56))):=by
   unfold mE;rw[y,z,cT Z,dW]
   have e1:decide (some u=some (39:UInt8))=decide ((u.toNat:Int)=39):=by
    rw[cC,bV,<-rJ];show u.toNat=39↔_;omega
   have e2:decide ((49:Int)<=(m.toNat:Int))=decide (49<=m.toNat):=by rw[cC];omega
   have e3:decide ((m.toNat:Int)<=56)=decide (m.toNat<=56):=by rw[cC];omega
   rw[e1,e2,e3]
  rw[ef]at h;cases B:decide ((u.toNat:Int)=39)<;>rw[B]at h<;>simp only[go_sem,O,M,y,z,qK,G,H,B]
  .exact aP h
  .cases U:decide ((49:Int)<=(m.toNat:Int))<;>rw[U]at h<;>simp only[go_sem,O,M,y,z,qK,G,H,B,U]
   .exact aP h
   .cases hC:decide ((m.toNat:Int)<=56)<;>rw[hC]at h<;>simp only[go_sem,O,M,y,z,qK,G,H,B,U,hC]
    .exact aP h
    ·(refine bD (OT.r 0 8) [] ?_;simp only[go_sem]);exact⟨by omega,by omega,aP h⟩
 .have S:decide ((0:Int)<(x.length:Int)-2)=false:=by rw[fO];omega
  simp only[go_sem,w0,S];rw[aD (by simp[mE,Z])]at h;exact aP h
def rU(x:aC):Bool:=cP (if mE x=true then x.take (x.length-2) else x)
theorem aSb(s:St)(x:aC)(KV Kp)(hl:x.length<=4611686018427387904)(h:KV s (.bool (rU x))):Den cx 233 [.str x] KV Kp s:=by
 (refine aN func233 [0,2,3] ?_;simp only[go_sem,ntmps233,f233]);refine aKi _ _ _ _ hl ?_;cases m:mE x<;>simp only[rU,m,dF,dA,cZ]at h⊢<;>simp only[go_sem]<;>refine tO _ _ _ _ ?_<;>simp only[go_sem]<;>exact aP h
theorem aJP(w:aC)(x:aC):∀(l:List aC) (n:Nat),mX w (l++[x]) n=if mX w l n<x.length/\qX w x=true then x.length else mX w l n
 | [],n=>rfl
 | y::l,n=>aJP w x l _
theorem aF6(w:aC):∀(l:List aC) (n:Nat),n<=w.length->mX w l n<=w.length
 | [],n,h=>h
 | y::l,n,h=>by
  refine aF6 w l _ ?_;split
  .rename_i m;have:=m.2;simp only[qX,bP,bW]at this;exact this.1
  .exact h
theorem aHf:∀(w:aC) (c:UInt8),Lib.indexByte w c<(w.length:Int)
 | [],c=>by simp[Lib.indexByte]
 | d::w,c=>by
  have m:=aHf w c;have h:=Lib.indexByte_ge w c;unfold Lib.indexByte;simp only[aV];split
  .omega
  .split<;>omega
theorem aRH(s:St)(r:Nat)(x:aC)(B l c:Nat)(sg:List aC)(op:Bool)(KV Kp)
  (G:s.getO r=some (.cells 261 (gM x B l c sg op)))(hx:x.length<=4294967296)(ha:B<x.length)(bl:sg.length<=4294967296)
  (u:KV s (.tuple [(oR (x.drop B) sg op).1.enc,.int .i64 (oR (x.drop B) sg op).2.1,.bool (oR (x.drop B) sg op).2.2])):Den cx 271 [.ptr r 0] KV Kp s:=by
 obtain⟨b,w,hw⟩:∃b w,x.drop B=b::w:=by
  cases h:x.drop B with
  | nil=>have:=lE List.length h;simp at this;omega
  | cons b w=>exact⟨b,w,rfl⟩
 have O:(b::w).length<=4294967296:=by rw[<-hw,dS];omega
 (refine aN func271 aMX ?_;simp only[go_sem,ntmps271,f271]);(refine aM λq z=>?_);have m:=aI G z;simp only[go_sem,G,z,m,gM];(refine bD (OT.r 0 10) [] ?_;simp only[go_sem,G,z,m,gM]);rw[hw]at u⊢;have b8:0<(b::w).length:=by simp
 simp only[go_sem,Nat.le_of_lt ha,b8];refine⟨⟨by omega,by omega⟩,?_⟩;have e1:List.take (Int.toNat 1) (b::w)=[b]:=rfl;rw[e1];refine tO _ _ _ _ ?_;simp only[go_sem]
 (apply aJ<;>intro h)<;>simp only[go_sem,h,G,z,m,gM]
 .refine aLN _ _ _ (λc=>jW c.toNat) _ _ O (λc KV Kp h=>aDe _ _ _ _ h) ?_;have hn:((b::w).takeWhile λc=>jW c.toNat).length<=(b::w).length:=(List.takeWhile_sublist _).length_le;simp only[oR,h,dF]at u;generalize ((b::w).takeWhile λc=>jW c.toNat).length=n at u hn;simp only[go_sem,G,z,m,gM,hn];refine⟨gQ hn,?_⟩;have e2:decide ((n:Int)<=40)=decide (n<=40):=by rw[cC];omega
  rw[e2];exact aG u (gF z)
 .refine aJl _ _ _ _ ?_;have S:¬ cP [b]=true:=by rw[h];simp
  simp only[go_sem]
  (apply aJ<;>intro h)<;>simp only[go_sem,h,G,z,m,gM]
  .simp only[oR,S,cZ,h,dF,dA]at u;refine aQn _ _ _ _ O ?_;simp only[go_sem,G,z,m];exact aG u (gF z)
  .have b7:¬ lT b.toNat=true:=by rw[h];simp
   have b1:(34:UInt8).toNat=34:=rfl
   have e3:decide ((b.toNat:Int)=34)=decide (b=34):=by
    rw[cC,<-rJ,b1];omega
   rw[e3]
   (apply aJ<;>intro h)<;>simp only[go_sem,h,G,z,m,gM]
   .have hb:b=34:=gQ h;simp only[oR,S,b7,hb,cZ,dF]at u;refine⟨⟨by omega,by omega⟩,?_⟩
    have e4:List.take (w.length+1-Int.toNat 1) (List.drop (Int.toNat 1) (b::w))=w:=by
     show List.take (w.length+1-1) w=w;simp
    have e5:(A.int IntKind.u8 34)=.int .u8 ((34:UInt8).toNat):=rfl;rw[e4,e5];refine aCZ _ _ _ _ _ ?_;have bk:=Lib.indexByte_ge w 34;have bf:=aHf w 34;obtain⟨k,bd⟩:∃k:Nat,Lib.indexByte w 34=(k:Int)-1:=⟨(Lib.indexByte w 34+1).toNat,by omega⟩
    rw[bd]at u bf⊢;simp only[aV]at O;have bj:k<=w.length:=by omega
    have ew:IntKind.i64.wrap ((k:Int)-1+2)=((k+1:Nat):Int):=by rw[fV _ aB aB];omega
    have b0:IntKind.i64.wrap (((k+1:Nat):Int)-1)=(k:Int):=by rw[fV _ aB aB];omega
    have en:((k:Int)-1+2).toNat=k+1:=by omega
    simp only[en]at u;simp only[go_sem,ew];(refine bD (OT.r 0 19) [] ?_;simp only[go_sem,G,z,m,gM,b0]);have em:(if(k:Int)<1 then(1:Int) else k)=((max k 1:Nat):Int):=by split<;>omega
    rw[em];refine⟨⟨by omega,by omega,by omega⟩,?_⟩
    have et:List.take (Int.toNat ((max k 1:Nat):Int)-Int.toNat 1) (List.drop (Int.toNat 1) (b::w))=w.take (k-1):=by
     show List.take (max k 1-1) w=w.take (k-1);congr 1;omega
    rw[et];have bb:k+1-2=k-1:=by omega
    rw[bb]at u
    (apply aJ<;>intro h)<;>simp only[go_sem,h,G,z,m,gM,b0]
    .have M:1<k+1:=by have:=h;simp at this;omega
     refine⟨⟨by omega,by omega,by omega⟩,?_⟩;have bc:List.take (k-Int.toNat 1) (List.drop (Int.toNat 1) (b::w))=w.take (k-1):=rfl;rw[bc];refine aIN _ _ _ _ ?_;simp only[go_sem,G,z,m];simp only[M,aBJ,dW]at u;exact aG u (gF z)
    .have M:¬ 1<k+1:=by have:=h;simp at this;omega
     simp only[M,aBC,gB]at u;exact aG u (gF z)
   .have bg:¬ b=34:=gQ h;simp only[oR,S,b7,bg,cZ]at u;have hz:=aF6 (b::w) sg 0 (aW _)
    refine Ex.loop (λi=>[(0,.ptr r 0),(2,.ptr q 0),(3,.int .i64 (mX (b::w) (sg.take i) 0:Nat)),(5,.str (b::w)),(6,.int .u8 b.toNat),(67,.list none (sg.map .str)),(68,.int .i64 (sg.length:Nat)),(69,.int .i64 (i:Nat))])
     (λ_=>s.setO q (.cells 209 [.int .i64 0,.str [],.int .i64 0,.int .i64 0,.int .i64 0])) (λi=>i<=sg.length) (λi=>sg.length-i) 0 (aW _) ?_ (aE _) ?_
    .simp[Env.has,Env.get,mX]
    .intro i hi;refine aX (V:=aMX) _ _ _ _ ?_;simp only[go_sem]
     (apply aJ<;>intro h)<;>simp only[go_sem,h,G,z,m,gM]
     .have b6:i<sg.length:=gQ h;obtain⟨y,hy⟩:∃y,sg[i]?=some y:=⟨sg[i],dI b6⟩
      have H:mX (b::w) (sg.take (i+1)) 0=if mX (b::w) (sg.take i) 0<y.length/\qX (b::w) y=true then y.length else mX (b::w) (sg.take i) 0:=by
       rw[<-aJP,gJ,hy];rfl
      generalize mX (b::w) (sg.take i) 0=n at H;refine⟨b6,?_⟩;simp only[go_sem,hy]
      (apply aJ<;>intro h)<;>simp only[go_sem,h,G,z,m,gM]
      .have h5:n<y.length:=gQ h;refine aIm _ _ _ _ _ ?_;simp only[go_sem]
       (apply aJ<;>intro h)<;>simp only[go_sem,h]
       .exact⟨i+1,by omega,by omega,⟨by rw[H,aF ⟨h5,h⟩],aU i aB⟩,aE _⟩
       .exact⟨i+1,by omega,by omega,⟨by rw[H,aD (by rw[h];simp)],aU i aB⟩,aE _⟩
      .have h5:¬ n<y.length:=gQ h;exact⟨i+1,by omega,by omega,⟨by rw[H,aD (by simp[h5])],aU i aB⟩,aE _⟩
     .have bh:sg.length<=i:=gQ h;obtain rfl:i=sg.length:=by omega
      rw[bT];generalize mX (b::w) sg 0=n at u hz
      have b9:(s.setO q (.cells 209 [.int .i64 0,.str [],.int .i64 0,.int .i64 0,.int .i64 0])).getO r=some (.cells 261 (gM x B l c sg op)):=by
       rw[aL,aD m.2];exact G
      simp only[dA,cZ]at u;have b3:(39:UInt8).toNat=39:=rfl;have b5:(95:UInt8).toNat=95:=rfl;have U:decide ((b.toNat:Int)=39)=decide (b=39):=by rw[cC,<-rJ,b3];omega
      have Z:decide ((b.toNat:Int)=95)=decide (b=95):=by rw[cC,<-rJ,b5];omega
      have e0:decide ((n:Int)=0)=decide (n=0):=by rw[cC];omega
      rw[e0];cases h0:decide (n=0)<;>cases op<;>simp only[go_sem,b9,z,m,gM,U,Z]<;>cases b2:decide (b=39)<;>cases b4:decide (b=95)<;>(try simp only[go_sem,b9,z,m,gM,U,Z,b2,b4])
      all_goals (simp only[bW,fO]at h0 b2 b4)
      all_goals (have ed:decide (0<(n:Int))=decide (0<n):=by rw[cC];omega)
      all_goals (simp only[aV]at hz)
      all_goals first
       | (rw[aD (λhc=>by simp_all)]at u;refine⟨by omega,?_⟩;rw[ed];exact aG u (gF z))
       | (rw[aF (by simp_all)]at u;refine⟨by omega,?_⟩;exact aG u (gF z))
theorem aHl(p:UInt8->Bool)(w:aC):(w.takeWhile p).length<=w.length:=(List.takeWhile_sublist _).length_le
theorem aML{p:UInt8->Bool}{c:UInt8}{w:aC}(h:p c=true):1<=((c::w).takeWhile p).length:=by simp[List.takeWhile,h]
theorem aF7{c:UInt8}{r:aC}{sg:List aC}{op:Bool}{t:Tok}{n:Nat}(h:oR (c::r) sg op=(t,n,true)):1<=n/\n<=(c::r).length:=by
 simp only[oR]at h;split at h
 .rename_i m;simp only[pE,bW]at h;obtain⟨_,rfl,_⟩:=h;refine⟨aML ?_,aHl _ _⟩;simp only[cP,bP,fG]at m;exact m.2.2.1
 .split at h
  .rename_i u;simp only[uH]at h;split at h
   .simp at h
   .simp only[pE,bW]at h;obtain⟨_,rfl,_⟩:=h;exact⟨aML u,aHl _ _⟩
  .split at h
   .simp only[pE,bP,bW]at h;have:=aHf r 34;simp only[aV];omega
   .have hz:=aF6 (c::r) sg 0 (aW _);simp only[pE,bW]at h;obtain⟨_,rfl,h⟩:=h;refine⟨h,?_⟩;split
    .simp
    .exact hz
theorem aAF:∀(f:Nat) (w:aC),tF f w<=w.length
 | 0,w=>aW _
 | f+1,[]=>aW _
 | f+1,b::r=>by
  simp only[tF];split
  .have:=aAF f r;simp only[aV];omega
  .split
   .have:=aAF f ((b::r).drop ((b::r).takeWhile (λc=>!decide (c=10))).length);rw[dS]at this;have:=aHl (λc=>!decide (c=10)) (b::r);omega
   .exact aW _
def Lx.out(KV:St->A->Prop):Lx->St->Prop
 | .ok l,s=>KV s (.tuple [.list none (l.map Tok.enc),Fault.none.enc])
 | .bad f,s=>KV s (.tuple [.list none [],f.enc])
theorem aTW(s:St)(r:Nat)(x:aC)(sg:List aC)(KV Kp)
  (hr:s.getO r=some (.cells 261 (gM x 0 1 1 sg true)))(hx:x.length<=4294967290)(bb:sg.length<=4294967296)
  (hk:∀o,(qC sg true x).out KV (s.setO r o)):Den cx 252 [.ptr r 0] KV Kp s:=by
 (refine aN func252 [0,2,3,4,5,6,18,38] ?_;simp only[go_sem,ntmps252,f252]);(refine aM λq hq=>?_);have B:=aI hr hq;simp only[go_sem,hr,hq,B,gM];refine aJU _ r x 0 1 1 sg true _ _ (by rw[aL,aD B.2];exact hr) aB (aW _) aB aB ?_;have b1:=aAF x.length x;change gD x<=x.length at b1;simp only[go_sem,hr,hq,B,gM]
 refine Ex.loop (ι:=Nat × (Nat × Nat) × List Tok × Option Nat) (λi=>[(0,.ptr r 0),(2,gv i.2.2.2 (i.2.2.1.map Tok.enc)),(3,.ptr q 0)])
  (λi=>gs ((s.setO q (.cells 36 [.int .i64 0,.str [],.int .i64 0,.int .i64 0])).setO r (.cells 261 (gM x i.1 i.2.1.1 i.2.1.2 sg true))) i.2.2.2 i.2.2.1.length 209)
  (fun i => i.1 ≤ x.length ∧ i.2.1.1 ≤ i.1 + 1 ∧ i.2.1.2 ≤ i.1 + 1 ∧ (i.2.2.2 = none → i.2.2.1 = []) ∧ (∀ t,i.2.2.2 = some t → s.getT t = none) ∧ i.2.2.1.length ≤ i.1 ∧
   ∃f,x.length-i.1<=f/\qC sg true x=rV sg true f (x.drop i.1) i.2.1 i.2.2.1) (λi=>x.length-i.1)
  (gD x,eV (1,1) (x.take (gD x)),[],none) ?_ ?_ ?_ ?_
 .have:=xL (x.take (gD x)) (1,1) 0 aB aB;rw[dT]at this;refine⟨b1,aQ,aQ,λ_=>rfl,λt h=>(by cases h),aW _,x.length,aQ,rfl⟩
 .simp only[go_sem];rfl
 .simp only[go_sem];exact aE _
 .rintro⟨a,⟨l,c⟩,b0,tk⟩ ⟨ha,hl,hc,hn,hf,b7,f,b5,G⟩;simp only at ha hl hc hn hf b7 b5 G;refine aX (V:=[0,2,3,4,5,6,18,38]) _ _ _ _ ?_;simp only[go_sem];(refine bD (OT.r 0 10) [] ?_;simp only[go_sem,B,gM])
  (apply aJ<;>intro h)<;>simp only[go_sem,h]
  .have U:a<x.length:=gQ h;obtain⟨b,w,hw⟩:∃b w,x.drop a=b::w:=⟨_,_,oZ U⟩
   obtain⟨f,rfl⟩:∃f',f=f'+1:=⟨f-1,by omega⟩
   refine aRH _ r x a l c sg true _ _ (by simp only[go_sem];rfl) aB U bb ?_;rw[hw]at G⊢;simp only[rV]at G;rcases S:oR (b::w) sg true with⟨⟨bc,bd,tn,tl,tc⟩,n,ok⟩
   rw[S]at G;simp only[go_sem];(refine aM λq2 M=>?_)
   have m:q2≠r/\q2≠q:=by
    have O:=M;rw[cS,aL]at O;have h2:=M;rw[cS,aL]at h2;constructor<;>rintro rfl
    .simp at O
    .rw[aD B.1,aL]at h2;simp at h2
   simp only[go_sem,B,m,M];(refine bD (OT.r 0 12) [(9,[7])] ?_;simp only[go_sem,B,m,gM])
   (apply aJ<;>intro h)<;>simp only[go_sem,h,B,m,gM]
   .have Z:ok=false:=gQ h;subst Z;simp only at G;(refine bD (OT.r 0 25) [] ?_;simp only[go_sem,B,m,gM,Nat.le_of_lt U]);have ew:IntKind.i64.wrap ((a:Int)+1)=((a+1:Nat):Int):=aU a aB;rw[ew];refine⟨⟨by omega,by omega⟩,?_⟩;have et:List.take ((((a+1:Nat):Int)).toNat-a) (x.drop a)=[b]:=by rw[hw,qK,Nat.add_sub_cancel_left];rfl
    rw[et];rw[G]at hk;refine DK.mk (hk _) (fR (bG ?_ (bG ?_ (rM (gF hq)))) ?_) (A.le.tuple ⟨A.le.nil,bL _,trivial⟩)
    .rw[aL,aD B.1];exact hq
    .have O:=M;rw[cS,aL,aD m.1.symm,aL,aD m.2.symm]at O;rw[aL,aD m.1.symm];exact O
    .exact hf
   .have Z:ok=true:=gQ h;subst Z;simp only at G;obtain⟨bf,b9⟩:=aF7 S;refine⟨by decide,by simp[A.cells],dU rfl rfl (by rw[aO];exact fD λe=>by rw[hn e];rfl) (λy hy=>by simp only[cN]at hy;obtain⟨z,_,rfl⟩:=hy;rfl) (by simp;omega) λt ht=>?_⟩;have b3:s.getT t=none:=by have:=iD ht (λu hu=>hf u hu);exact this
    rw[gR ht];simp only[go_sem,B,m];refine aDP _ r x a l c n sg true _ _ (by simp only[go_sem,B,m];rfl) aB (by have:=lE List.length hw;rw[dS]at this;omega) aB aB ?_;simp only[go_sem];have b4:=xL ((b::w).take n) (l,c) a hl hc;rw[dT,aIf b9]at b4;have bg:x.length-a=(b::w).length:=by rw[<-hw,dS]
    rw[hw];have H:=aAF ((b::w).drop n).length ((b::w).drop n);change gD ((b::w).drop n)<=_ at H;rw[dS]at H;have b2:x.drop (a+n)=(b::w).drop n:=by rw[<-uZ,hw]
    refine aJU _ r x (a+n) _ _ sg true _ _ (by simp only[go_sem,B,m];rfl) aB aB aB aB ?_;simp only[go_sem];rw[b2];refine⟨(a+n+gD ((b::w).drop n),eV (eV (l,c) ((b::w).take n)) (((b::w).drop n).take (gD ((b::w).drop n))),b0++[⟨bc,bd,tn,l,c⟩],some t),⟨?_,?_,?_,?_,?_,?_,f,?_,?_⟩,?_,?_,?_⟩
    .simp only;omega
    .have:=xL (((b::w).drop n).take (gD ((b::w).drop n))) (eV (l,c) ((b::w).take n)) (a+n) aB aB;rw[dT,dS,aIf H]at this;simp only;omega
    .have:=xL (((b::w).drop n).take (gD ((b::w).drop n))) (eV (l,c) ((b::w).take n)) (a+n) aB aB;rw[dT,dS,aIf H]at this;simp only;omega
    .intro h;cases h
    .intro u hu;cases hu;exact b3
    .simp only[aH,aV,aZ];omega
    .simp only;omega
    .simp only[G];congr 1;rw[<-uZ,b2]
    .simp only;omega
    .simp only[bU,bX,dL,eK];exact rfl
    .simp only[gs,aH,aV,aZ];refine fB (aR3 ?_ m.1);have O:=M;rw[cS,aL,aD m.1.symm]at O;exact O
  ·(refine bD (OT.r 0 4) [] ?_;simp only[go_sem,B,gM]);have b6:x.length≤a:=gQ h
   have b8:qC sg true x=.ok b0:=by
    rw[G,dP b6];cases f<;>rfl
   rw[b8]at hk;refine DK.mk (hk _) (fR (bG ?_ (rM (gF hq))) ?_) (A.le.tuple ⟨kJ tk _ (λe=>by rw[hn e];rfl),bL _,trivial⟩)
   .rw[aL,aD B.1];exact hq
   .exact hf
theorem aSY(s:St)(x:aC)(KV Kp)(z:x.length<=4294967290)(u:(qC kS true x).out KV s):Den cx 212 [.str x] KV Kp s:=by
 (refine aN func212 [0,2,3] ?_;simp only[go_sem,ntmps212,f212]);(refine aM λq h=>?_);simp only[go_sem,h];refine aOW _ _ _ ?_;simp only[go_sem,aAN];(refine aM λr y=>?_);have m:q≠r:=y.1.1;simp only[go_sem,y,h,m];refine aTW _ r x kS _ _ (by rw[aL,aF rfl];rfl) z dM λo=>?_
 cases hl:qC kS true x with
 | ok l =>
  rw[hl]at u;simp only[Lx.out]at u⊢;simp only[go_sem,y,h,m,Fault.none];exact aG u (bG h (bG y.2 (gF h)))
 | bad f =>
  rw[hl]at u;simp only[Lx.out]at u⊢;simp only[go_sem,y,h,m];exact aG u (bG h (bG y.2 (gF h)))
section
def Tok.name(t:Tok):aC:=if t.kind=2 then Lib.itoa t.n else t.text
def gL(t:Tok)(x:aC):Bool:=(decide (t.kind=4)||decide (t.kind=1))&&decide (t.text=x)
def dO(x:aC):List Tok->Bool
 | []=>false
 | t::_=>gL t x
def Tok.free(t:Tok):Bool:=decide (t.kind=1)&&!decide (t.text∈nZ)
def iE(fin:Fault)(h:Int):List Tok->Fault
 | []=>fin
 | t::_=>⟨h,t.name,t.line,t.col⟩
def sR(fin:Fault):List Tok->Fault
 | []=>fin
 | t::_=>⟨3,[],t.line,t.col⟩
inductive Rd (α:Type) where
 | ok (a:α) (w:List Tok) (n:Nat)
 | bad (f:Fault)
def Rd.bind{α h:Type}(r:Rd α)(k:α->List Tok->Nat->Rd h):Rd h:=match r with
 | .ok a w n=>k a w n
 | .bad f=>.bad f
def Rd.to{α:Type}(r:Rd α)(k:α->List Tok->Nat->Prop)(b:Fault->Prop):Prop:=match r with
 | .ok a w n=>k a w n
 | .bad f=>b f
theorem bY{α h:Type}(r:Rd α)(k:α->List Tok->Nat->Rd h)(p:h->List Tok->Nat->Prop)(b:Fault->Prop) :
  (r.bind k).to p b=r.to (λa w n=>(k a w n).to p b) b:=by cases r<;>rfl
theorem bE{α:Type}{r:Rd α}{p u:α->List Tok->Nat->Prop}{b m:Fault->Prop}(h:r.to p b)(z:∀a w n,p a w n->u a w n)(y:∀f,b f->m f):r.to u m:=by
 cases r with
 | ok a w n=>exact z a w n h
 | bad f=>exact y f h
theorem cL{α:Type}(a:α)(w:List Tok)(n:Nat)(p:α->List Tok->Nat->Prop)(b:Fault->Prop):(Rd.ok a w n).to p b=p a w n:=rfl
theorem eP{α:Type}(f:Fault)(p:α->List Tok->Nat->Prop)(b:Fault->Prop):(Rd.bad f:Rd α).to p b=b f:=rfl
theorem aAw{α:Type}(c:Prop) [Decidable c] (x y:Rd α) (p:α->List Tok->Nat->Prop) (b:Fault->Prop):(if c then x else y).to p b=if c then x.to p b else y.to p b:=by
 split<;>rfl
section
variable (lk:Bool) (fin:Fault)
def iO(x:aC)(w:List Tok)(n:Nat):Rd Unit:=if dO x w=true then .ok () w.tail n else .bad (iE fin 11 w)
def gI:List Tok->Nat->Rd aC
 | [],_=>.bad fin
 | t::w,n=>if t.free=true then .ok t.text w n else .bad (iE fin 11 (t::w))
def aAK(h:Int):List Tok->Nat->Rd Int
 | [],_=>.bad fin
 | t::w,n=>if t.kind=2 then(if t.n<1\/h<t.n then .bad (iE fin 20 (t::w)) else .ok t.n w n) else .bad (iE fin 11 (t::w))
def aHq(h m:Nat)(w:List Tok)(n:Nat):Rd Unit:=if m<=h then .bad (sR fin w) else .ok () w n
def eY{σ:Type}(sep:aC)(one:σ->List Tok->Nat->Rd σ):Nat->σ->List Tok->Nat->Rd σ
 | 0,_,_,_=>.bad fin
 | f+1,a,w,n=>(one a w n).bind λa w n=>if dO sep w=true then eY sep one f a w.tail n else .ok a w n
def rT{α:Type}(one:List α->List Tok->Nat->Rd α)(h:List α)(w:List Tok)(n:Nat):Rd (List α) :=
 eY fin [44] (λh w n=>(one h w n).bind λa w n=>.ok (h++[a]) w n) (w.length+1) h w n
def Tok.begins(t:Tok):Bool :=
 if t.kind=2\/t.kind=3 then true
 else if t.kind=1 then !decide (t.text∈nZ)||(decide (t.text=[116,114,117,101])||decide (t.text=[102,97,108,115,101]))
 else decide (t.text∈[[45],[39],[95],[91],[123],[36]])
def oV(x:aC):Bool:=cP x&&(match x with|c::_=>decide (97<=c.toNat)&&decide (c.toNat<=122)|[]=>false)&&!decide (x=[116,114,117,101])&&!decide (x=[102,97,108,115,101])
def zP(first:Tok)(w:List Tok)(n:Nat):Rd Unit:=if 2000<n+1 then .bad ⟨3,[],first.line,first.col⟩ else .ok () w (n+1)
def aAU(first:Tok)(h:Bool)(sort:aC)(w:List Tok)(n:Nat):Rd (List Tm) :=
 if dO [124] w=true then
  match w.tail with
  | []=>.bad fin
  | t::w=>if t.free=true then(if h=true then .bad ⟨19,t.text,t.line,t.col⟩ else(zP first w n).bind λ_ w n=>.ok [.mk 6 0 t.text sort [] []] w n) else .bad (iE fin 11 (t::w))
 else .ok [] w n
def aBg(first:Tok)(m:List Tok->Nat->Rd Tm)(h:List Tm)(w:List Tok)(n:Nat):Rd Tm :=
 if h.length=8 then
  match w with
  | []=>.bad fin
  | t::w=>if t.begins=true then .bad (if lk=true/\2000<=n then⟨3,[],first.line,first.col⟩ else⟨3,[],t.line,t.col⟩) else m (t::w) n
 else m w n
def aD6(first:Tok)(h:List Tok->Nat->Rd Tm)(t:Tok)(w:List Tok)(n:Nat):Rd Tm :=
 if t.text=[116,114,117,101] then .ok (.mk 2 1 [] [] [] []) w n
 else if t.text=[102,97,108,115,101] then .ok (.mk 2 0 [] [] [] []) w n
 else if dO [58] w=true then(gI fin w.tail n).bind λx w n=>.ok (.mk 6 0 t.text x [] []) w n
 else(iO fin [40] w n).bind λ_ w n =>
  if dO [41] w=true then .ok (.mk 5 0 t.text [] [] []) w.tail n
  else(rT fin (aBg lk fin first h) [] w n).bind λl w n=>(iO fin [41] w n).bind λ_ w n=>.ok (.mk 5 0 t.text [] l []) w n
def aCF(m:List Tok->Nat->Rd Tm)(h:List Tm)(w:List Tok)(n:Nat):Rd (List Tm) :=
 (m w n).bind λk w n=>(iO fin [45,62] w n).bind λ_ w n=>(m w n).bind λv w n=>.ok (h++[k,v]) w n
def xA(first:Tok)(m:List Tok->Nat->Rd Tm)(h:Bool)(t:Tok)(w:List Tok)(n:Nat):Rd Tm :=
 if t.text=[45] then
  match w with
  | []=>.bad fin
  | u::w=>if u.kind=2/\u.line=t.line/\u.col=t.col+1 then .ok (.mk 1 (-u.n) [] [] [] []) w n else .bad (iE fin 11 (u::w))
 else if t.text=[39] then
  match w with
  | []=>.bad fin
  | u::w=>if u.free=true/\oV u.text=true then .ok (.mk 4 0 u.text [] [] []) w n else .bad (iE fin 11 (u::w))
 else if t.text=[91] then
  (if dO [124] w=true∨dO [93] w=true then Rd.ok [] w n else rT fin (fun _=>m) [] w n).bind fun l w n =>
   (aAU fin first h [76,105,115,116] w n).bind λr w n=>(iO fin [93] w n).bind λ_ w n=>.ok (.mk 7 0 [] [] l r) w n
 else if t.text=[123] then
  (if dO [124] w=true∨dO [125] w=true then Rd.ok [] w n else eY fin [44] (aCF fin m) (w.length+1) [] w n).bind fun l w n =>
   (aAU fin first h [77,97,112] w n).bind λr w n=>(iO fin [125] w n).bind λ_ w n=>.ok (.mk 8 0 [] [] l r) w n
 else .ok (.mk 6 0 t.text [65,110,121] [] []) w n
def lV(first:Tok):Nat->List Tok->Nat->Rd Tm
 | _,[],_=>.bad fin
 | 0,t::w,_=>if t.begins=true then .bad (iE fin 19 (t::w)) else .bad (iE fin 11 (t::w))
 | k+1,t::w,n =>
  if t.begins=true then
   (zP first w n).bind fun _ w n =>
    if t.kind=2 then .ok (.mk 1 t.n [] [] [] []) w n
    else if t.kind=3 then .ok (.mk 3 0 t.text [] [] []) w n
    else if t.kind=1 then aD6 lk fin first (lV first k) t w n
    else xA fin first (lV first k) (decide (k=0)) t w n
  else .bad (iE fin 11 (t::w))
def pV(w:List Tok)(n:Nat):Rd Tm:=match w with
 | []=>.bad fin
 | t::_=>match lV lk fin t 60 w 0 with
  | .ok a w _=>.ok a w n
  | .bad f=>.bad f
def xK(w:List Tok)(n:Nat):Rd (List Tm) :=
 if dO [105,102] w=true then
  rT fin (λh w n=>match w with
   | []=>.bad fin
   | t::r=>if t.begins=true then(aHq fin h.length 20 (t::r) n).bind λ_ w n=>pV lk fin w n else pV lk fin (t::r) n) [] w.tail n
 else .ok [] w n
def qZ{α:Type}(m h:Nat)(w:List Tok)(n:Nat)(k:List Tok->Nat->Rd α):Rd α:=match w with
 | []=>.bad fin
 | t::r=>if t.free=true/\m<=h then .bad (sR fin (t::r)) else k (t::r) n
def zN(w:List Tok)(n:Nat):Rd Cel:=match w with
 | []=>.bad fin
 | t::r=>(gI fin (t::r) n).bind λx w n=>(iO fin [58] w n).bind λ_ w n=>(gI fin w n).bind λy w n=>(iO fin [61] w n).bind λ_ w n =>
   (pV lk fin w n).bind λi w n=>.ok ⟨x,y,i,t.line,t.col⟩ w n
def aCh:Nat->List Piece->List aC->Bool->List Tok->Nat->Rd (List Piece × List aC × Bool)
 | 0,_,_,_,_,_=>.bad fin
 | f+1,h,az,m,w,n =>
  if dO [45,62] w=true then .ok (h,az,m) w.tail n
  else match w with
   | []=>.bad fin
   | t::w=>if t.kind=3\/t.free=true then
     (if 20<=h.length then .bad (sR fin (t::w))
     else if t.kind=3 then aCh f (h++[⟨t.text,[]⟩]) az true w n
     else if 8<=az.length then .bad (sR fin (t::w))
     else aCh f (h++[⟨[],t.text⟩]) (az++[t.text]) m w n)
    else .bad (iE fin 11 (t::w))
def sP:Nat->Opr->List Tok->Nat->Rd Opr
 | 0,_,_,_=>.bad fin
 | f+1,o,w,n =>
  if dO [46] w=true then .ok o w n
  else match w with
   | []=>.bad fin
   | t::w =>
    if¬ t.kind=1 then .bad (iE fin 11 (t::w))
    else if t.text=[112,114,101,99] then
     (if 0<o.prec then .bad (iE fin 14 (t::w)) else(aAK fin 20 w n).bind λm w n=>sP f { o with prec:=m } w n)
    else if t.text=[108,101,102,116] then
     (if o.assoc=0 then sP f { o with assoc:=1 } w n else .bad (iE fin 14 (t::w)))
    else if t.text=[114,105,103,104,116] then
     (if o.assoc=0 then sP f { o with assoc:=2 } w n else .bad (iE fin 14 (t::w)))
    else if t.text=[115,116,114,105,99,116] then
     (if 0 < o.strict.length then .bad (iE fin 14 (t :: w)) else
      (iO fin [40] w n).bind λ_ w n=>(rT fin (λ_=>aAK fin 8) [] w n).bind λl w n=>(iO fin [41] w n).bind λ_ w n=>sP f { o with strict:=l } w n)
    else .bad (iE fin 11 (t::w))
def opR(w:List Tok)(n:Nat):Rd Opr :=
 (gI fin w n).bind fun x w n=>(iO fin [58] w n).bind fun _ w n=>(aCh fin (w.length+1) [] [] false w n).bind fun p w n =>
  (gI fin w n).bind λy w n=>sP fin (w.length+1) ⟨x,p.2.1,y,if p.2.2=true then p.1 else [],0,0,[]⟩ w n
def zO:Nat->List aC->List Tok->Nat->Rd (List aC)
 | 0,_,_,_=>.bad fin
 | f+1,az,w,n =>
  if dO [45,62] w=true then .ok az w.tail n
  else(qZ fin 8 az.length w n λw n=>gI fin w n).bind λx w n=>zO f (az++[x]) w n
def aHF(w:List Tok)(n:Nat):Rd Opr :=
 (gI fin w n).bind fun x w n=>(iO fin [58] w n).bind fun _ w n=>(zO fin (w.length+1) [] w n).bind fun az w n =>
  (gI fin w n).bind λy w n=>.ok ⟨x,az,y,[],0,0,[]⟩ w n
def aEv(r:Rul)(w:List Tok)(n:Nat):Rd Rul:=match w with
 | []=>.bad fin
 | t::w =>
  if gL t [110,101,119]=true then
   (iO fin [40] w n).bind λ_ w n=>(rT fin (λ_=>pV lk fin) [] w n).bind λl w n=>(iO fin [41] w n).bind λ_ w n=>.ok { r with new:=r.new++[⟨l⟩] } w n
  else if gL t [100,114,111,112]=true then
   (iO fin [64] w n).bind λ_ w n=>(gI fin w n).bind λx w n=>.ok { r with drop:=r.drop++[x] } w n
  else
   (gI fin (t::w) n).bind fun x w n =>
    (if dO [64] w=true then gI fin w.tail n else Rd.ok [] w n).bind fun y w n=>(iO fin [58] w n).bind fun _ w n=>(pV lk fin w n).bind fun l w n =>
     (if dO [61,62] w=true then (pV lk fin w.tail n).bind fun u w n=>Rd.ok [u] w n else Rd.ok [] w n).bind fun h w n =>
      .ok { r with parts:=r.parts++[⟨x,y,l,h,t.line,t.col⟩] } w n
def aEe(c:Rul × Nat)(w:List Tok)(n:Nat):Rd (Rul × Nat):=match w with
 | []=>.bad fin
 | t::r=>if(t.kind=1/\(¬ t.text∈nZ\/t.text=[110,101,119]\/t.text=[100,114,111,112]))/\20<=c.2 then .bad (sR fin (t::r))
  else(aEv lk fin c.1 (t::r) n).bind λx w n=>.ok (x,c.2+1) w n
def aHr(h m:Int)(w:List Tok)(n:Nat):Rd Rul :=
 (gI fin w n).bind fun x w n=>(iO fin [58] w n).bind fun _ w n =>
  (eY fin [59] (aEe lk fin) (w.length+1) (⟨x,[],[],[],[],h,m⟩,0) w n).bind λc w n=>(xK lk fin w n).bind λl w n=>.ok { c.1 with cond:=l } w n
def zL(d:Dfn)(t:Tok)(w:List Tok)(n:Nat):Rd Dfn :=
 if gL t [115,116,97,114,116]=true then
  (if d.start=[] then(gI fin w n).bind λx w n=>.ok { d with start:=x } w n else .bad (iE fin 14 (t::w)))
 else if gL t [119,97,116,99,104]=true then
  (if d.watch=[] then(gI fin w n).bind λx w n=>.ok { d with watch:=x } w n else .bad (iE fin 14 (t::w)))
 else if gL t [99,101,108,108]=true then
  (if 12<=d.once.length then .bad (sR fin (t::w)) else(zN lk fin w n).bind λc w n=>.ok { d with once:=d.once++[c] } w n)
 else if gL t [109,97,110,121]=true then
  (if d.kind = [] then
   (gI fin w n).bind fun x w n=>(iO fin [40] w n).bind fun _ w n =>
    (rT fin (λh w n=>qZ fin 12 h.length w n λw n=>zN lk fin w n) d.many w n).bind λl w n=>(iO fin [41] w n).bind λ_ w n=>.ok { d with kind:=x,many:=l } w n
  else .bad (iE fin 14 (t::w)))
 else .bad (iE fin 11 (t::w))
def aHB(d:Dfn)(w:List Tok)(n:Nat):Rd Dfn:=match w with
 | []=>.bad fin
 | t::w =>
  (if gL t [115,111,114,116] = true then
   (rT fin (λh w n=>qZ fin 40 h.length w n λw n=>gI fin w n) d.sig.sorts w n).bind λl w n=>Rd.ok { d with sig:={ d.sig with sorts:=l } } w n
  else if gL t [115,117,98,115,111,114,116]=true then
   (if 200 ≤ d.sig.below.length then Rd.bad (sR fin (t :: w)) else
    (gI fin w n).bind λx w n=>(iO fin [60] w n).bind λ_ w n=>(gI fin w n).bind λy w n=>Rd.ok { d with sig:={ d.sig with below:=d.sig.below++[⟨x,y⟩] } } w n)
  else if gL t [118,97,108,117,101]=true then
   (rT fin (λ_=>gI fin) [] w n).bind λl w n=>Rd.ok { d with sig:={ d.sig with values:=d.sig.values++l } } w n
  else if gL t [111,112]=true\/gL t [102,117,110]=true then
   (if 200<=d.sig.ops.length+d.sig.funs.length then Rd.bad (sR fin (t::w))
   else if t.text=[111,112] then(opR fin w n).bind λo w n=>Rd.ok { d with sig:={ d.sig with ops:=d.sig.ops++[o] } } w n
   else(aHF fin w n).bind λo w n=>Rd.ok { d with sig:={ d.sig with funs:=d.sig.funs++[o] } } w n)
  else if gL t [108,101,116]=true then
   (if 300 ≤ d.eqs.length then Rd.bad (sR fin (t :: w)) else
    (pV lk fin w n).bind fun l w n=>(iO fin [61] w n).bind fun _ w n=>(pV lk fin w n).bind fun r w n=>(xK lk fin w n).bind fun c w n =>
     Rd.ok { d with eqs:=d.eqs++[⟨l,r,c,t.line,t.col⟩] } w n)
  else if gL t [114,117,108,101]=true then
   (if 300<=d.rules.length then Rd.bad (sR fin (t::w)) else(aHr lk fin t.line t.col w n).bind λr w n=>Rd.ok { d with rules:=d.rules++[r] } w n)
  else zL lk fin d t w n).bind λd w n=>(iO fin [46] w n).bind λ_ w n=>.ok d w n
def aCq:Nat->Dfn->List Tok->Nat->Rd Dfn
 | 0,_,_,_=>.bad fin
 | f+1,d,w,n=>match w with
  | []=>.ok d [] n
  | _::_=>(aHB lk fin d w n).bind λd w n=>aCq f d w n
def jL:Dfn:=⟨[],⟨[],[],[],[],[]⟩,[],[],[],[],[],[],[]⟩
def aA4(w:List Tok):Rd Dfn :=
 (iO fin [108,97,110,103,117,97,103,101] w 0).bind λ_ w n=>(gI fin w n).bind λx w n=>(iO fin [46] w n).bind λ_ w n=>aCq lk fin (w.length+1) { jL with name:=x } w n
end
end
section
structure Dc where
 name:aC
 sorts:A
 below:A
 ops:A
 funs:A
 values:A
 eqs:A
 once:A
 kind:aC
 many:A
 rules:A
 start:aC
 watch:aC
def Dc.cs(d:Dc):List A:=[.str d.name,d.sorts,d.below,d.ops,d.funs,d.values,d.eqs,d.once,.str d.kind,d.many,d.rules,.str d.start,.str d.watch]
def psC(T:List Tok)(fin:Fault)(d:Dc)(first:Tok)(i n:Nat):List A :=
 .list none (T.map Tok.enc)::.int .i64 i::(fin.cs++(d.cs++(first.cs++[.int .i64 n,.bool false])))
def bI(T:List Tok)(fin:Fault)(d:Dc)(first:Tok)(i n:Nat):Ob:=.cells 211 (psC T fin d first i n)
attribute [go_sem] Dc.cs psC bI
structure TOk (T:List Tok):Prop where
 len:T.length<=4294967290
 num:∀t,t∈T->0<=t.n/\t.n<=2147483647
 col:∀t,t∈T->0<=t.col/\t.col<=4294967296
 txt:∀t,t∈T->t.text.length<=4294967296
def PK{α:Type}(T:List Tok)(i:Nat)(S:Nat->Nat->St)(enc:α->A)(KV:St->A->Prop)(a:α)(w:List Tok)(n:Nat):Prop:=∀j,i<=j->j<=T.length->T.drop j=w->n<=2000->KV (S j n) (enc a)
def PB(s:St)(r:Nat)(Kp:St->A->Prop)(f:Fault):Prop:=∀o,Kp (s.setO r o) (.iface 36 f.enc)
theorem mD{T:List Tok}{i:Nat}{t:Tok}{w:List Tok}(h:T.drop i=t::w):T[i]?=some t/\i<T.length/\T.drop (i+1)=w/\t∈T:=by
 have hl:=lE List.length h;rw[dS,aV]at hl;have m:(T.drop i)[0]?=some t:=by rw[h];rfl
 rw[mR,lD]at m;refine⟨m,by omega,?_,bK m⟩;rw[<-uZ,h];rfl
section
variable {T:List Tok} {fin:Fault} {d:Dc} {first:Tok} {i n:Nat} {s:St} {r:Nat} {KV Kp:St->A->Prop}
theorem kP(y:s.getO r=some (bI T fin d first i n))(M:i<=T.length)
  (B:match T.drop i with|t::_=>KV s t.enc|[]=>Kp s (.iface 36 fin.enc)):Den cx 217 [.ptr r 0] KV Kp s:=by
 simp only[go_sem]at y;(refine aN func217 [0,2,12] ?_;simp only[go_sem,ntmps217,f217]);intro b z;have m:=aI y z;simp only[go_sem,z,m,y];(refine bD (OT.r 0 10) [] ?_;simp only[go_sem,y,m])
 (apply aJ<;>intro h)<;>simp only[go_sem,h,y,m]
 .have H:i=T.length:=gQ h;rw[dP aB]at B;exact aG B (gF z)
 .have u:i<T.length:=by
   have:¬ i=T.length:=gQ h;omega
  rw[oZ u]at B;have G:T[i]?=some T[i]:=dI u;(refine bD (OT.r 0 11) [] ?_;simp only[go_sem,y,m,G,u]);exact aG B (gF z)
theorem oM(x:aC)(y:s.getO r=some (bI T fin d first i n))(M:i<=T.length)
  (u:KV s (.bool (dO x (T.drop i)))):Den cx 222 [.ptr r 0,.str x] KV Kp s:=by
 simp only[go_sem]at y;(refine aN func222 [0,1,4,5,15] ?_;simp only[go_sem,ntmps222,f222]);(refine bD (OT.r 0 10) [] ?_;simp only[go_sem,y])
 (apply aJ<;>intro h)<;>simp only[go_sem,h,y]
 .have H:i=T.length:=gQ h;rw[dP aB]at u;exact aP u
 .have m:i<T.length:=by
   have:¬ i=T.length:=gQ h;omega
  rw[oZ m]at u;have G:T[i]?=some T[i]:=dI m;simp only[dO,gL]at u;(refine bD (OT.r 0 12) [(10,[3,7,9])] ?_;simp only[go_sem,y,G,m]);intro b z;have B:=aI y z;simp only[go_sem,z,B,y,G,m]
  (repeat' (first|exact aG u aR|((apply aJ<;>intro h)<;>simp only[go_sem,h,z]<;>(try simp only[h,dW,gB,eU,iZ,lM,jT,jA,gW,fP,iB]at u))))
theorem jV(x:aC)(u:s.getO r=some (bI T fin d first i n))(z:i<=T.length)(y:TOk T)
  (m:match dO x (T.drop i)with|true=>KV (s.setO r (bI T fin d first (i+1) n)) (.bool true)|false=>KV s (.bool false)):Den cx 215 [.ptr r 0,.str x] KV Kp s:=by
 (refine aN func215 [0,1,4,8] ?_;simp only[go_sem,ntmps215,f215]);refine oM x u z ?_;simp only[go_sem]at u;have:=y.len;simp only[go_sem]
 (apply aJ<;>intro h)<;>simp only[go_sem,h]
 .rw[show dO x (T.drop i)=false from gQ h]at m;exact aP m
 .rw[show dO x (T.drop i)=true from gQ h]at m;simp only[go_sem,u,aU i aB];exact aP m
theorem lR{x:aC}(h:dO x (T.drop i)=true):i+1<=T.length:=by
 cases m:T.drop i with
 | nil=>rw[m]at h;cases h
 | cons t w=>exact(mD m).2.1
theorem aPK(t:Tok)(z:0<=t.n)(B:t.n<=2147483647)(u:KV s (.str t.name)):Den cx 257 [t.enc] KV Kp s:=by
 unfold Tok.name at u;simp only[go_sem];(refine aN func257 [0,1,2,5] ?_;simp only[go_sem,ntmps257,f257]);(refine aM λb y=>?_);simp only[go_sem,y]
 (apply aJ<;>intro h)<;>simp only[go_sem,h,y]
 .have m:t.kind=2:=gQ h;rw[aF m]at u;refine aSd t.n aB aB _ _ _ ?_;simp only[go_sem];exact aG u (gF y)
 .have m:¬ t.kind=2:=gQ h;rw[aD m]at u;exact aG u (gF y)
theorem aF9(t:Tok)(m:Kp s (.iface 36 (Fault.enc ⟨3,[],t.line,t.col⟩))):Den cx 258 [t.enc] KV Kp s:=by
 simp only[go_sem]at m;simp only[go_sem];(refine aN func258 [0,1] ?_;simp only[go_sem,ntmps258,f258]);(refine aM λb h=>?_);simp only[go_sem,h];exact aG m (gF h)
theorem qQ(h:Int)(O:s.getO r=some (bI T fin d first i n))(M:i<=T.length)(H:TOk T)
  (m:Kp s (.iface 36 (iE fin h (T.drop i)).enc)):Den cx 216 [.ptr r 0,.int .i64 h] KV Kp s:=by
 (refine aN func216 [0,1,4] ?_;simp only[go_sem,ntmps216,f216]);refine kP O M ?_;cases y:T.drop i with
 | nil=>rw[y]at m;exact aP m
 | cons t w =>
  rw[y]at m;obtain⟨S,U,Z,z⟩:=mD y;obtain⟨B,G⟩:=H.num t z;simp only[iE]at m;simp only[go_sem]at m;simp only[go_sem];(refine aM λb u=>?_);simp only[go_sem,u];(refine bD (OT.l [0,1,3,4,5,6,2,7,8,9] .nil) [(2,[4,6])] ?_;simp only[go_sem,u]);refine aPK t B G ?_;simp only[go_sem,u];exact aG m (gF u)
end
end
section
section
variable {T:List Tok} {fin:Fault} {d:Dc} {first:Tok} {i n:Nat} {s:St} {r:Nat} {KV Kp:St->A->Prop}
theorem PB.here{f:Fault}{o:Ob}(h:PB s r Kp f)(m:s.getO r=some o):DK Kp s (.iface 36 f.enc):=aG (h o) (St.ge_same m)
theorem PB.at{f:Fault}{o:Ob}{s1:St}(h:PB s r Kp f)(m:s1.gx s r)(u:s1.getO r=some o):DK Kp s1 (.iface 36 f.enc):=aG (h o) (m.ge u)
theorem fQ(x:aC)(u:s.getO r=some (bI T fin d first i n))(z:i<=T.length)(y:TOk T)
  (h:(iO fin x (T.drop i) n).to (λ_ w B=>i+1<=T.length->T.drop (i+1)=w->B=n->KV (s.setO r (bI T fin d first (i+1) n)) (.tuple [])) (PB s r Kp)):Den cx 178 [.ptr r 0,.list none [.str x]] KV Kp s:=by
 (refine aN func178 [0,1,5,6,7,8,9,15] ?_;simp only[go_sem,ntmps178,f178])
 refine Ex.loop (λk:Nat=>[(0,.ptr r 0),(6,.list none [.str x]),(7,.int .i64 1),(8,.int .i64 k)]) (λk=>match k with|0=>s|_+1=>s.setO r (bI T fin d first (i+1) n))
  (λk=>k=0\/k=1/\dO x (T.drop i)=true) (λk=>1-k) 0 (.inl rfl) ?_ (aE _) ?_
 .simp only[go_sem];exact⟨rfl,rfl⟩
 .rintro k (rfl|⟨rfl,m⟩)
  .refine aX (V:=[0,1,5,6,7,8,9,15]) _ _ _ _ ?_;simp only[go_sem];refine⟨by simp,?_⟩;simp only[go_sem];refine jV x u z y ?_;cases m:dO x (T.drop i)with
   | true =>
    simp only[go_sem];exact⟨1,.inr rfl,by omega,rfl,aE _⟩
   | false =>
    simp only[go_sem];refine qQ 11 u z y ?_;simp only[iO,m,dA,cZ,eP]at h;exact h.here u
  .refine aX (V:=[0,1,5,6,7,8,9,15]) _ _ _ _ ?_;simp only[iO,m,dF,cL]at h;simp only[go_sem];exact aP (h (lR m) bA trivial)
theorem iR(M:s.getO r=some (bI T fin d first i n))(hi:i<=T.length)(Z:TOk T)
  (y:(gI fin (T.drop i) n).to (λx w n'=>i+1<=T.length->T.drop (i+1)=w->n'=n->KV (s.setO r (bI T fin d first (i+1) n)) (.str x)) (PB s r Kp)):Den cx 179 [.ptr r 0] KV Kp s:=by
 (refine aN func179 [0,2,3,13] ?_;simp only[go_sem,ntmps179,f179]);refine kP M hi ?_;cases S:T.drop i with
 | nil=>rw[S]at y;exact PB.here y M
 | cons t w =>
  rw[S]at y;obtain⟨h1,h2,h3,h4⟩:=mD S;have:=Z.len;simp only[gI]at y;simp only[go_sem];(refine aM λb G=>?_);have m:=aI M G;have O:(s.setO b (.cells 209 t.cs)).getO r=some (bI T fin d first i n):=by rw[aL,aD m.2];exact M
  have u:=M;simp only[go_sem]at u
  have bad:∀z,t.free=false->Den cx 216 [.ptr r 0,.int .i64 11] z (DK Kp) (s.setO b (.cells 209 t.cs)):=by
   intro z U;refine qQ 11 O hi Z ?_;rw[U]at y;simp only[dA,cZ,eP]at y;rw[S];exact y.at bC O
  have B:t.free=true->KV (s.setO r (bI T fin d first (i+1) n)) (.str t.text):=by
   intro U;rw[U]at y;simp only[dF,cL]at y;exact y h2 h3 trivial
  simp only[go_sem,G,m,u]
  (apply aJ<;>intro h)<;>simp only[go_sem,h,G,m,u]
  .refine bad _ ?_;rw[Tok.free,show decide (t.kind=1)=false from gQ h];rfl
  .refine wH _ _ _ _ ?_;simp only[go_sem,G,m,u];have H:decide (t.kind=1)=true:=gQ h
   (apply aJ<;>intro h)<;>simp only[go_sem,h,G,m,u]
   .refine bad _ ?_;rw[Tok.free,H,h];rfl
   .have hg:=B (by rw[Tok.free,H,h];rfl);simp only[go_sem,aU i aB];exact aG hg (St.gx.ge bC (by rw[aL,aF rfl];rfl))
theorem aLh(z:s.getO r=some (bI T fin d first i n))(B:n<=2000)
  (u:(zP first (T.drop i) n).to (λ_ w n=>w=T.drop i->n<=2000->KV (s.setO r (bI T fin d first i n)) (.tuple [])) (PB s r Kp)):Den cx 278 [.ptr r 0] KV Kp s:=by
 have m:=z;simp only[go_sem]at m;(refine aN func278 [0,13] ?_;simp only[go_sem,ntmps278,f278]);simp only[go_sem,m,aU n aB]
 (apply aJ<;>intro h)<;>simp only[go_sem,h,m]
 .refine aF9 first ?_
  have y:2000<n+1:=by have:=h;simp at this;omega
  simp only[zP,y,dF,eP]at u;exact u.at bC (by rw[aL,aF rfl])
 .have y:¬ 2000<n+1:=by have:=h;simp at this;omega
  simp only[zP,y,cZ,cL]at u;exact aP (u trivial aB)
end
end
section
section
variable {T:List Tok} {fin:Fault} {d:Dc} {first:Tok} {i n:Nat} {s:St} {r:Nat} {KV Kp:St->A->Prop}
theorem aQa(t:Tok)(u:KV s (.bool t.begins)):Den cx 281 [t.enc] KV Kp s:=by
 simp only[go_sem];(refine aN func281 [0,1,2,4,5,8] ?_;simp only[go_sem,ntmps281,f281]);(refine aM λb m=>?_);simp only[go_sem,m]
 (apply aJ<;>intro h)<;>simp only[go_sem,h,m]
 .have z:t.kind=2:=gQ h;rw[show t.begins=true by simp[Tok.begins,z]]at u
  (try simp only[go_sem,m])
  exact aG u (gF m)
 .have z:¬ t.kind=2:=gQ h
  (try simp only[go_sem,m])
  (apply aJ<;>intro h)<;>simp only[go_sem,h,m]
  .have B:t.kind=3:=gQ h;rw[show t.begins=true by simp[Tok.begins,B]]at u
   (try simp only[go_sem,m])
   exact aG u (gF m)
  .have B:¬ t.kind=3:=gQ h
   (try simp only[go_sem,m])
   (apply aJ<;>intro h)<;>simp only[go_sem,h,m]
   .have y:t.kind=1:=gQ h;rw[show t.begins=(!decide (t.text∈nZ)||(decide (t.text=[116,114,117,101])||decide (t.text=[102,97,108,115,101])))by simp[Tok.begins,y]]at u
    (try simp only[go_sem,m])
    refine wH _ _ _ _ ?_;simp only[go_sem,m];cases G:decide (t.text∈nZ)<;>simp only[go_sem,m]
    .rw[G]at u;exact aG u (gF m)
    .rw[G]at u;cases H:decide (t.text=[116,114,117,101])<;>simp only[go_sem,m]
     .rw[H]at u;exact aG u (gF m)
     .rw[H]at u;exact aG u (gF m)
   .have y:¬ t.kind=1:=gQ h;rw[show t.begins=decide (t.text∈[[45],[39],[95],[91],[123],[36]])by simp[Tok.begins,y,z,B]]at u
    (try simp only[go_sem,m])
    refine pG _ [[45],[39],[95],[91],[123],[36]] _ _ _ ?_;simp only[go_sem,m];exact aG u (gF m)
theorem nM(a b:Int)(y:s.getO r=some (bI T fin d first i n))(B:i<=T.length)
  (m:if b<=a then PB s r Kp (sR fin (T.drop i)) else KV s (.tuple [])):Den cx 221 [.ptr r 0,.int .i64 a,.int .i64 b] KV Kp s:=by
 (refine aN func221 [0,1,2,8] ?_;simp only[go_sem,ntmps221,f221])
 (apply aJ<;>intro h)<;>simp only[go_sem,h]
 .have u:b<=a:=gQ h;rw[aF u]at m;refine kP y B ?_;cases z:T.drop i with
  | nil=>rw[z]at m;exact m.here y
  | cons t w =>
   rw[z]at m;simp only[go_sem];refine aF9 t ?_;exact m.here y
 .have u:¬ b<=a:=gQ h;rw[aD u]at m;exact aP m
theorem aDn(u:s.getO r=some (bI T fin d first i n))(B:i<=T.length)
  (h:match T.drop i with|t::_=>KV s (.bool t.begins)|[]=>PB s r Kp fin):Den cx 263 [.ptr r 0] KV Kp s:=by
 have m:=u;simp only[go_sem]at m;(refine aN func263 [0,2] ?_;simp only[go_sem,ntmps263,f263]);refine kP u B ?_;cases z:T.drop i with
 | nil=>rw[z]at h;exact h.here u
 | cons t w =>
  rw[z]at h;simp only at h;simp only[go_sem];refine aQa t ?_;simp only[go_sem];cases y:t.begins<;>simp only[go_sem,m]
  .rw[y]at h;exact aP h
  .rw[y]at h;exact aP h
theorem aJv(m:Int)(S:s.getO r=some (bI T fin d first i n))(hi:i<=T.length)(hT:TOk T)
  (B:(aAK fin m (T.drop i) n).to (λx w n'=>i+1<=T.length->T.drop (i+1)=w->n'=n->KV (s.setO r (bI T fin d first (i+1) n)) (.int .i64 x)) (PB s r Kp)):Den cx 275 [.ptr r 0,.int .i64 m] KV Kp s:=by
 (refine aN func275 [0,1,4,5,10,21] ?_;simp only[go_sem,ntmps275,f275]);refine kP S hi ?_;cases hw:T.drop i with
 | nil=>rw[hw]at B;exact PB.here B S
 | cons t w =>
  rw[hw]at B;obtain⟨h1,h2,h3,h4⟩:=mD hw;have:=hT.len;simp only[aAK]at B;simp only[go_sem];(refine aM λb H=>?_);have y:=aI S H;have U:(s.setO b (.cells 209 t.cs)).getO r=some (bI T fin d first i n):=by rw[aL,aD y.2];exact S
  have z:=S;simp only[go_sem]at z
  have bad:∀M u,PB s r Kp (iE fin u (t::w))->Den cx 216 [.ptr r 0,.int .i64 u] M (DK Kp) (s.setO b (.cells 209 t.cs)):=by
   intro M u hf;refine qQ u U hi hT ?_;rw[hw];exact hf.at bC U
  simp only[go_sem,H,y,z]
  (apply aJ<;>intro h)<;>simp only[go_sem,h,H,y,z]
  .have h2:¬ t.kind=2:=gQ h;rw[aD h2,eP]at B;exact bad _ _ B
  .have h2:t.kind=2:=gQ h;rw[aF h2]at B;have range:(t.n<1\/m<t.n)->PB s r Kp (iE fin 20 (t::w)):=λhc=>by rw[aF hc]at B;exact B
   have O:¬ (t.n<1\/m<t.n)->KV (s.setO r (bI T fin d first (i+1) n)) (.int .i64 t.n):=λhc=>by
    rw[aD hc]at B;exact B aB h3 rfl
   cases G:decide (t.n<1)
   .cases Z:decide (m<t.n)
    ·(try simp only[go_sem,H,y,z,G,Z,aU i aB])
     exact aG (O (by simp at G Z;omega)) (St.gx.ge bC (by rw[aL,aF rfl];rfl))
    ·(try simp only[go_sem,H,y,z,G,Z])
     exact bad _ _ (range (by simp at G Z;omega))
   ·(try simp only[go_sem,H,y,z,G])
    exact bad _ _ (range (by simp at G;omega))
end
end
theorem aDk{α:Type}(fin:Fault)(sep:aC)(one:List Tok->Nat->Rd α):∀(f:Nat) (m l:List α) (w:List Tok) (n:Nat) (p:List α->List Tok->Nat->Prop) (b:Fault->Prop),
  (eY fin sep (λu w n=>(one w n).bind λa w n=>.ok (u++[a]) w n) f (m++l) w n).to p b ->
  (eY fin sep (λ(c:Unit × List α) w n=>((one w n).bind λa w n=>Rd.ok ((),a) w n).bind λq w n=>.ok (q.1,c.2++[q.2]) w n) f ((),l) w n).to (λc w n=>p (m++c.2) w n) b
 | 0,m,l,w,n,p,b,h=>h
 | f+1,m,l,w,n,p,b,h=>by
  simp only[eY,bY]at h⊢;refine bE h (λa w n h=>?_) (λ_ h=>h);simp only[cL]at h⊢;split
  .rename_i e;rw[aF e]at h;refine aDk fin sep one f m (l++[a]) w.tail n p b ?_;rw[<-eG];exact h
  .rename_i e;rw[aD e]at h;rw[cL]at h⊢;rw[<-eG];exact h
theorem aDu{σ:Type}(fin:Fault)(sep:aC)(one:σ->List Tok->Nat->Rd σ):∀(f:Nat) (a:σ) (l:List Unit) (w:List Tok) (n:Nat) (p:σ->List Tok->Nat->Prop) (b:Fault->Prop),
  (eY fin sep one f a w n).to p b ->
  (eY fin sep (λ(c:σ × List Unit) w n=>((one c.1 w n).bind λa w n=>Rd.ok (a,()) w n).bind λq w n=>.ok (q.1,c.2++[q.2]) w n) f (a,l) w n).to (λc w n=>p c.1 w n) b
 | 0,a,l,w,n,p,b,h=>h
 | f+1,a,l,w,n,p,b,h=>by
  simp only[eY,bY]at h⊢;refine bE h (λa w n h=>?_) (λ_ h=>h);simp only[cL]at h⊢;split
  .rename_i e;rw[aF e]at h;exact aDu fin sep one f a (l++[()]) w.tail n p b h
  .rename_i e;rw[aD e]at h;exact h
theorem aFI{σ α X:Type}(enc:α->A)(hz:∀a,(enc a).cells.length=6)(ho:∀a,iF (enc a).cells=true)
  {T:List Tok}{fin:Fault}{m:St}{r:Nat}{KV Kp:St->A->Prop}(hT:TOk T)
  (S:St->σ->X->Nat->Nat->St)(Q:St->σ->X->Nat->Prop)(one:σ->List Tok->Nat->Rd (σ × α))(f:FuncId)(first z:List A)
  (hr:∀(s:St) (a:σ) (x:X) (i n:Nat),∃d fi,(S s a x i n).getO r=some (bI T fin d fi i n)/\((S s a x i n).setO r (bI T fin d fi (i+1) n)).ge (S s a x (i+1) n))
  (h1:∀(s:St) (a:σ) (x:X) (i n:Nat) (t:Nat) (v:Nat × TypeId),Q s a x i->(S s a x i n).getT t=none->s.getT t=none/\Q (s.setT t v) a x i/\((S s a x i n).setT t v).ge (S (s.setT t v) a x i n))
  (h2:∀(s:St) (a:σ) (x:X) (i n:Nat) (t:Nat) (v u:Nat × TypeId),s.getT t=none->Q (s.setT t v) a x i->(S (s.setT t v) a x i n).getT t=some v/\Q (s.setT t u) a x i/\((S (s.setT t v) a x i n).setT t u).ge (S (s.setT t u) a x i n))
  (h3:∀(s:St) (a:σ) (x:X) (i n:Nat) (t:Nat) (v:Nat × TypeId),s.getT t=none->Q (s.setT t v) a x i->Q s a x i/\(S (s.setT t v) a x i n).ge (S s a x i n))
  (hi:∀(s:St) (a:σ) (x:X) (i:Nat),Q s a x i->Q s a x (i+1))
  (hg:∀(s:St) (a:σ) (x:X) (i n:Nat),Q s a x i->(S s a x i n).gx s r)
  (hf : ∀ (s : St) (a : σ) (x : X) (i n : Nat) (KV Kp : St → A → Prop),Q s a x i → i ≤ T.length → n ≤ 2000 → (one a (T.drop i) n).to (fun p w B => ∀ j y,i ≤ j → j ≤ T.length → T.drop j = w → B ≤ 2000 → Q s p.1 y j → KV (S s p.1 y j B) (enc p.2))
   (λf=>∀s1 o,s1.gx s r->s1.getO r=some o->Kp s1 (.iface 36 f.enc))->Den cx f (first++[]++z) KV Kp (S s a x i n))
  (a0:σ)(x0:X)(i0 n0:Nat)(hQ:Q m a0 x0 i0)(b0:i0<=T.length)(b3:n0<=2000)
  (hk : (eY fin [44] (fun (c : σ × List α) w n => (one c.1 w n).bind fun p w n => .ok (p.1,c.2 ++ [p.2]) w n) ((T.drop i0).length + 1) (a0,[]) (T.drop i0) n0).to
   (λc w n=>∀j y,i0<=j->j<=T.length->T.drop j=w->n<=2000->Q m c.1 y j->KV (S m c.1 y j n) (.list none (c.2.map enc)))
   (λf=>∀s1 o,s1.gx m r->s1.getO r=some o->Kp s1 (.iface 36 f.enc))):Den cx 261 [.ptr r 0,.fn f first z] KV Kp (S m a0 x0 i0 n0):=by
 (refine uQ func261 xN ?_;simp only[go_sem,ntmps261,f261]);have b1:=hT.len;rw[show(T.drop i0).length=T.length-i0 by rw[dS]]at hk;simp only[eY,bY]at hk;refine cW (hf m a0 x0 i0 n0 _ _ hQ b0 b3 (bE hk (λp w B h=>?_) (λg h=>?_)))
 .intro j y hj M hw O G;simp only[cL,dD]at h;simp only[go_sem];refine .inr ⟨⟨hz _,ho _⟩,λt ht=>?_⟩;obtain⟨g1,g2,g3⟩:=h1 m p.1 y j B t (1,67) G ht
  refine Ex.loop (ι:=(σ × X × Nat × Nat) × List α) (λc=>[(0,.ptr r 0),(1,.fn f first z),(5,.list (some t) (c.2.map enc))])
   (λc=>S (m.setT t (c.2.length,67)) c.1.1 c.1.2.1 c.1.2.2.1 c.1.2.2.2)
   (fun c => Q (m.setT t (c.2.length,67)) c.1.1 c.1.2.1 c.1.2.2.1 ∧ i0 ≤ c.1.2.2.1 ∧ c.1.2.2.1 ≤ T.length ∧ c.1.2.2.2 ≤ 2000 ∧ c.2.length ≤ c.1.2.2.1 + 1 ∧ ∃ k,T.length - c.1.2.2.1 ≤ k ∧
    (if dO [44] (T.drop c.1.2.2.1) = true then eY fin [44] (fun (c : σ × List α) w n => (one c.1 w n).bind fun p w n => .ok (p.1,c.2 ++ [p.2]) w n) k (c.1.1,c.2) (T.drop c.1.2.2.1).tail c.1.2.2.2
     else Rd.ok (c.1.1,c.2) (T.drop c.1.2.2.1) c.1.2.2.2).to
      (λc w n=>∀j y,i0<=j->j<=T.length->T.drop j=w->n<=2000->Q m c.1 y j->KV (S m c.1 y j n) (.list none (c.2.map enc)))
      (λf=>∀s1 o,s1.gx m r->s1.getO r=some o->Kp s1 (.iface 36 f.enc)))
   (λc=>T.length-c.1.2.2.1) ((p.1,y,j,B),[p.2]) ?_ ?_ ?_ ?_
  .refine⟨g2,hj,M,O,by simp only[aV,aZ];omega,T.length-i0,aQ,?_⟩;simp only[hw];exact h
  .simp only[go_sem]
  .exact g3
  .rintro⟨⟨a,x,i,n⟩,l⟩ ⟨q1,q2,q3,qn,q4,k,q5,Z⟩;simp only at q1 q2 q3 qn q4 q5 Z;obtain⟨d,fi,b4,b5⟩:=hr (m.setT t (l.length,67)) a x i n;refine aX (V:=xN) _ _ _ _ ?_;simp only[go_sem];refine cW (jV _ b4 q3 hT ?_);cases hx:dO [44] (T.drop i)with
   | false =>
    rw[hx]at Z;simp only[dA,cZ,cL]at Z;obtain⟨e1,e2⟩:=h3 m a x i n t (l.length,67) g1 q1;simp only[go_sem];exact DK.mk (Z i x q2 q3 rfl qn e1) e2 (A.le.forget _ _)
   | true =>
    rw[hx]at Z;have b2:=lR hx;obtain⟨k,rfl⟩:∃k',k=k'+1:=⟨k-1,by omega⟩
    simp only[dF,eY,bY,cL,nJ]at Z;simp only[go_sem];refine cW (iH b5 (hf (m.setT t (l.length,67)) a x (i+1) n _ _ (hi _ _ _ _ q1) b2 qn (bE Z (λp w B h=>?_) (λg h=>?_))))
    .intro j y hj M hw O G;obtain⟨e1,e2,e3⟩:=h2 m p.1 y j B t (l.length,67) (l.length+1,67) g1 G;simp only[go_sem];refine .inl ⟨⟨hz _,ho _⟩,by decide,λq hq=>?_,e1,λq hq=>?_,by omega,((p.1,y,j,B),l++[p.2]),⟨?_,aQ,M,O,?_,k,aQ,?_⟩,aQ,?_,?_⟩
     .simp only[bO]at hq;subst hq;exact hz _
     .simp only[cN]at hq;obtain⟨q',_,rfl⟩:=hq;exact hz _
     .simp only[aH,aV,aZ];exact e2
     .simp only[aH,aV,aZ];omega
     .simp only[hw];exact h
     .simp only[bU,bX,dL]
     .simp only[aH,aV,aZ];exact e3
    .intro s1 o H U;simp only[go_sem];exact aP (h s1 o (H.dropT g1) U)
 .intro s1 o H U;exact aP (h s1 o H U)
theorem aIn{α:Type}(enc:α->A)(hz:∀a,(enc a).cells.length=6)(ho:∀a,iF (enc a).cells=true)
  {T:List Tok}{fin:Fault}{d:Dc}{fi:Tok}{U:St}{r:Nat}{KV Kp:St->A->Prop}(hT:TOk T)
  (Q:St->Prop)(O:∀(s:St) (t:Nat) (v:Nat × TypeId),Q (s.setT t v)↔Q s)(one:List Tok->Nat->Rd α)(f:FuncId)(first m:List A)
  (hf : ∀ (s : St) (i n : Nat) (KV Kp : St → A → Prop),Q s → i ≤ T.length → n ≤ 2000 → (one (T.drop i) n).to (fun a w n' => ∀ j,i ≤ j → j ≤ T.length → T.drop j = w → n' ≤ 2000 → KV (s.setO r (bI T fin d fi j n')) (enc a))
   (λf=>∀s1 o,s1.gx s r->s1.getO r=some o->Kp s1 (.iface 36 f.enc))->Den cx f (first++[]++m) KV Kp (s.setO r (bI T fin d fi i n)))
  (i0 H:Nat)(hQ:Q U)(Z:i0<=T.length)(b0:H<=2000)
  (M : (rT fin (fun _ => one) [] (T.drop i0) H).to
   (λl w n=>∀j,i0<=j->j<=T.length->T.drop j=w->n<=2000->KV (U.setO r (bI T fin d fi j n)) (.list none (l.map enc)))
   (λf=>∀s1 o,s1.gx U r->s1.getO r=some o->Kp s1 (.iface 36 f.enc))):Den cx 261 [.ptr r 0,.fn f first m] KV Kp (U.setO r (bI T fin d fi i0 H)):=by
 refine aFI (σ:=Unit) (X:=Unit) enc hz ho hT (λs _ _ i n=>s.setO r (bI T fin d fi i n)) (λs _ _ _=>Q s) (λ_ w n=>(one w n).bind λa w n=>.ok ((),a) w n) f first m
  (λs _ _ i n=>⟨d,fi,by rw[aL,aF rfl],by rw[qP];exact aE _⟩) (λs _ _ i n t v h S=>⟨S,(O s t v).2 h,aE _⟩)
  (λs _ _ i n t v u S h=>⟨?_,(O s t u).2 ((O s t v).1 h),?_⟩) (λs _ _ i n t v S h=>⟨(O s t v).1 h,?_⟩) (λs _ _ i h=>h) (λs _ _ i n h=>eW (fN s r)) (λs _ _ i n KV Kp h hi hn M=>?_) () () i0 H hQ Z b0 ?_
 .show(s.setT t v).getT t=some v;rw[dC,aF rfl]
 .show(((s.setT t v).setT t u).setO r _).ge ((s.setT t u).setO r _);exact rM (aBB s t v u)
 .exact rM (aAn S)
 .refine hf s i n KV Kp h hi hn ?_;rw[bY]at M;refine bE M (λa w n' G j hj z hw B=>?_) (λ_ G=>G);exact G j () hj z hw B h
 .have:=aDk fin [44] one ((T.drop i0).length+1) [] [] (T.drop i0) H _ _ M;refine bE this (λc w n h j y hj z hw B b1=>?_) (λ_ G=>G);have h':=h j hj z hw B;simpa only[dD]using h'
theorem aOM{σ α X:Type}(enc:α->A)(hz:∀a,(enc a).cells.length=1)(ho:∀a,iF (enc a).cells=true)
  {T:List Tok}{fin:Fault}{m:St}{r:Nat}{KV Kp:St->A->Prop}(hT:TOk T)
  (S:St->σ->X->Nat->Nat->St)(Q:St->σ->X->Nat->Prop)(one:σ->List Tok->Nat->Rd (σ × α))(f:FuncId)(first z:List A)
  (hr:∀(s:St) (a:σ) (x:X) (i n:Nat),∃d fi,(S s a x i n).getO r=some (bI T fin d fi i n)/\((S s a x i n).setO r (bI T fin d fi (i+1) n)).ge (S s a x (i+1) n))
  (h1:∀(s:St) (a:σ) (x:X) (i n:Nat) (t:Nat) (v:Nat × TypeId),Q s a x i->(S s a x i n).getT t=none->s.getT t=none/\Q (s.setT t v) a x i/\((S s a x i n).setT t v).ge (S (s.setT t v) a x i n))
  (h2:∀(s:St) (a:σ) (x:X) (i n:Nat) (t:Nat) (v u:Nat × TypeId),s.getT t=none->Q (s.setT t v) a x i->(S (s.setT t v) a x i n).getT t=some v/\Q (s.setT t u) a x i/\((S (s.setT t v) a x i n).setT t u).ge (S (s.setT t u) a x i n))
  (h3:∀(s:St) (a:σ) (x:X) (i n:Nat) (t:Nat) (v:Nat × TypeId),s.getT t=none->Q (s.setT t v) a x i->Q s a x i/\(S (s.setT t v) a x i n).ge (S s a x i n))
  (hi:∀(s:St) (a:σ) (x:X) (i:Nat),Q s a x i->Q s a x (i+1))
  (hg:∀(s:St) (a:σ) (x:X) (i n:Nat),Q s a x i->(S s a x i n).gx s r)
  (hf : ∀ (s : St) (a : σ) (x : X) (i n : Nat) (KV Kp : St → A → Prop),Q s a x i → i ≤ T.length → n ≤ 2000 → (one a (T.drop i) n).to (fun p w B => ∀ j y,i ≤ j → j ≤ T.length → T.drop j = w → B ≤ 2000 → Q s p.1 y j → KV (S s p.1 y j B) (enc p.2))
   (λf=>∀s1 o,s1.gx s r->s1.getO r=some o->Kp s1 (.iface 36 f.enc))->Den cx f (first++[]++z) KV Kp (S s a x i n))
  (a0:σ)(x0:X)(i0 n0:Nat)(hQ:Q m a0 x0 i0)(b0:i0<=T.length)(b3:n0<=2000)
  (hk : (eY fin [44] (fun (c : σ × List α) w n => (one c.1 w n).bind fun p w n => .ok (p.1,c.2 ++ [p.2]) w n) ((T.drop i0).length + 1) (a0,[]) (T.drop i0) n0).to
   (λc w n=>∀j y,i0<=j->j<=T.length->T.drop j=w->n<=2000->Q m c.1 y j->KV (S m c.1 y j n) (.list none (c.2.map enc)))
   (λf=>∀s1 o,s1.gx m r->s1.getO r=some o->Kp s1 (.iface 36 f.enc))):Den cx 223 [.ptr r 0,.fn f first z] KV Kp (S m a0 x0 i0 n0):=by
 (refine uQ func223 xN ?_;simp only[go_sem,ntmps223,f223]);have b1:=hT.len;rw[show(T.drop i0).length=T.length-i0 by rw[dS]]at hk;simp only[eY,bY]at hk;refine cW (hf m a0 x0 i0 n0 _ _ hQ b0 b3 (bE hk (λp w B h=>?_) (λg h=>?_)))
 .intro j y hj M hw O G;simp only[cL,dD]at h;simp only[go_sem];refine .inr ⟨⟨hz _,ho _⟩,λt ht=>?_⟩;obtain⟨g1,g2,g3⟩:=h1 m p.1 y j B t (1,9) G ht
  refine Ex.loop (ι:=(σ × X × Nat × Nat) × List α) (λc=>[(0,.ptr r 0),(1,.fn f first z),(5,.list (some t) (c.2.map enc))])
   (λc=>S (m.setT t (c.2.length,9)) c.1.1 c.1.2.1 c.1.2.2.1 c.1.2.2.2)
   (fun c => Q (m.setT t (c.2.length,9)) c.1.1 c.1.2.1 c.1.2.2.1 ∧ i0 ≤ c.1.2.2.1 ∧ c.1.2.2.1 ≤ T.length ∧ c.1.2.2.2 ≤ 2000 ∧ c.2.length ≤ c.1.2.2.1 + 1 ∧ ∃ k,T.length - c.1.2.2.1 ≤ k ∧
    (if dO [44] (T.drop c.1.2.2.1) = true then eY fin [44] (fun (c : σ × List α) w n => (one c.1 w n).bind fun p w n => .ok (p.1,c.2 ++ [p.2]) w n) k (c.1.1,c.2) (T.drop c.1.2.2.1).tail c.1.2.2.2
     else Rd.ok (c.1.1,c.2) (T.drop c.1.2.2.1) c.1.2.2.2).to
      (λc w n=>∀j y,i0<=j->j<=T.length->T.drop j=w->n<=2000->Q m c.1 y j->KV (S m c.1 y j n) (.list none (c.2.map enc)))
      (λf=>∀s1 o,s1.gx m r->s1.getO r=some o->Kp s1 (.iface 36 f.enc)))
   (λc=>T.length-c.1.2.2.1) ((p.1,y,j,B),[p.2]) ?_ ?_ ?_ ?_
  .refine⟨g2,hj,M,O,by simp only[aV,aZ];omega,T.length-i0,aQ,?_⟩;simp only[hw];exact h
  .simp only[go_sem]
  .exact g3
  .rintro⟨⟨a,x,i,n⟩,l⟩ ⟨q1,q2,q3,qn,q4,k,q5,Z⟩;simp only at q1 q2 q3 qn q4 q5 Z;obtain⟨d,fi,b4,b5⟩:=hr (m.setT t (l.length,9)) a x i n;refine aX (V:=xN) _ _ _ _ ?_;simp only[go_sem];refine cW (jV _ b4 q3 hT ?_);cases hx:dO [44] (T.drop i)with
   | false =>
    rw[hx]at Z;simp only[dA,cZ,cL]at Z;obtain⟨e1,e2⟩:=h3 m a x i n t (l.length,9) g1 q1;simp only[go_sem];exact DK.mk (Z i x q2 q3 rfl qn e1) e2 (A.le.forget _ _)
   | true =>
    rw[hx]at Z;have b2:=lR hx;obtain⟨k,rfl⟩:∃k',k=k'+1:=⟨k-1,by omega⟩
    simp only[dF,eY,bY,cL,nJ]at Z;simp only[go_sem];refine cW (iH b5 (hf (m.setT t (l.length,9)) a x (i+1) n _ _ (hi _ _ _ _ q1) b2 qn (bE Z (λp w B h=>?_) (λg h=>?_))))
    .intro j y hj M hw O G;obtain⟨e1,e2,e3⟩:=h2 m p.1 y j B t (l.length,9) (l.length+1,9) g1 G;simp only[go_sem];refine .inl ⟨⟨hz _,ho _⟩,by decide,λq hq=>?_,e1,λq hq=>?_,by omega,((p.1,y,j,B),l++[p.2]),⟨?_,aQ,M,O,?_,k,aQ,?_⟩,aQ,?_,?_⟩
     .simp only[bO]at hq;subst hq;exact hz _
     .simp only[cN]at hq;obtain⟨q',_,rfl⟩:=hq;exact hz _
     .simp only[aH,aV,aZ];exact e2
     .simp only[aH,aV,aZ];omega
     .simp only[hw];exact h
     .simp only[bU,bX,dL]
     .simp only[aH,aV,aZ];exact e3
    .intro s1 o H U;simp only[go_sem];exact aP (h s1 o (H.dropT g1) U)
 .intro s1 o H U;exact aP (h s1 o H U)
theorem aOd{α:Type}(enc:α->A)(hz:∀a,(enc a).cells.length=1)(ho:∀a,iF (enc a).cells=true)
  {T:List Tok}{fin:Fault}{d:Dc}{fi:Tok}{U:St}{r:Nat}{KV Kp:St->A->Prop}(hT:TOk T)
  (Q:St->Prop)(O:∀(s:St) (t:Nat) (v:Nat × TypeId),Q (s.setT t v)↔Q s)(one:List Tok->Nat->Rd α)(f:FuncId)(first m:List A)
  (hf : ∀ (s : St) (i n : Nat) (KV Kp : St → A → Prop),Q s → i ≤ T.length → n ≤ 2000 → (one (T.drop i) n).to (fun a w n' => ∀ j,i ≤ j → j ≤ T.length → T.drop j = w → n' ≤ 2000 → KV (s.setO r (bI T fin d fi j n')) (enc a))
   (λf=>∀s1 o,s1.gx s r->s1.getO r=some o->Kp s1 (.iface 36 f.enc))->Den cx f (first++[]++m) KV Kp (s.setO r (bI T fin d fi i n)))
  (i0 H:Nat)(hQ:Q U)(Z:i0<=T.length)(b0:H<=2000)
  (M : (rT fin (fun _ => one) [] (T.drop i0) H).to
   (λl w n=>∀j,i0<=j->j<=T.length->T.drop j=w->n<=2000->KV (U.setO r (bI T fin d fi j n)) (.list none (l.map enc)))
   (λf=>∀s1 o,s1.gx U r->s1.getO r=some o->Kp s1 (.iface 36 f.enc))):Den cx 223 [.ptr r 0,.fn f first m] KV Kp (U.setO r (bI T fin d fi i0 H)):=by
 refine aOM (σ:=Unit) (X:=Unit) enc hz ho hT (λs _ _ i n=>s.setO r (bI T fin d fi i n)) (λs _ _ _=>Q s) (λ_ w n=>(one w n).bind λa w n=>.ok ((),a) w n) f first m
  (λs _ _ i n=>⟨d,fi,by rw[aL,aF rfl],by rw[qP];exact aE _⟩) (λs _ _ i n t v h S=>⟨S,(O s t v).2 h,aE _⟩)
  (λs _ _ i n t v u S h=>⟨?_,(O s t u).2 ((O s t v).1 h),?_⟩) (λs _ _ i n t v S h=>⟨(O s t v).1 h,?_⟩) (λs _ _ i h=>h) (λs _ _ i n h=>eW (fN s r)) (λs _ _ i n KV Kp h hi hn M=>?_) () () i0 H hQ Z b0 ?_
 .show(s.setT t v).getT t=some v;rw[dC,aF rfl]
 .show(((s.setT t v).setT t u).setO r _).ge ((s.setT t u).setO r _);exact rM (aBB s t v u)
 .exact rM (aAn S)
 .refine hf s i n KV Kp h hi hn ?_;rw[bY]at M;refine bE M (λa w n' G j hj z hw B=>?_) (λ_ G=>G);exact G j () hj z hw B h
 .have:=aDk fin [44] one ((T.drop i0).length+1) [] [] (T.drop i0) H _ _ M;refine bE this (λc w n h j y hj z hw B b1=>?_) (λ_ G=>G);have h':=h j hj z hw B;simpa only[dD]using h'
theorem aFK{σ α X:Type}(enc:α->A)(hz:∀a,(enc a).cells.length=1)(ho:∀a,iF (enc a).cells=true)
  {T:List Tok}{fin:Fault}{m:St}{r:Nat}{KV Kp:St->A->Prop}(hT:TOk T)
  (S:St->σ->X->Nat->Nat->St)(Q:St->σ->X->Nat->Prop)(one:σ->List Tok->Nat->Rd (σ × α))(f:FuncId)(first z:List A)
  (hr:∀(s:St) (a:σ) (x:X) (i n:Nat),∃d fi,(S s a x i n).getO r=some (bI T fin d fi i n)/\((S s a x i n).setO r (bI T fin d fi (i+1) n)).ge (S s a x (i+1) n))
  (h1:∀(s:St) (a:σ) (x:X) (i n:Nat) (t:Nat) (v:Nat × TypeId),Q s a x i->(S s a x i n).getT t=none->s.getT t=none/\Q (s.setT t v) a x i/\((S s a x i n).setT t v).ge (S (s.setT t v) a x i n))
  (h2:∀(s:St) (a:σ) (x:X) (i n:Nat) (t:Nat) (v u:Nat × TypeId),s.getT t=none->Q (s.setT t v) a x i->(S (s.setT t v) a x i n).getT t=some v/\Q (s.setT t u) a x i/\((S (s.setT t v) a x i n).setT t u).ge (S (s.setT t u) a x i n))
  (h3:∀(s:St) (a:σ) (x:X) (i n:Nat) (t:Nat) (v:Nat × TypeId),s.getT t=none->Q (s.setT t v) a x i->Q s a x i/\(S (s.setT t v) a x i n).ge (S s a x i n))
  (hi:∀(s:St) (a:σ) (x:X) (i:Nat),Q s a x i->Q s a x (i+1))
  (hg:∀(s:St) (a:σ) (x:X) (i n:Nat),Q s a x i->(S s a x i n).gx s r)
  (hf : ∀ (s : St) (a : σ) (x : X) (i n : Nat) (KV Kp : St → A → Prop),Q s a x i → i ≤ T.length → n ≤ 2000 → (one a (T.drop i) n).to (fun p w B => ∀ j y,i ≤ j → j ≤ T.length → T.drop j = w → B ≤ 2000 → Q s p.1 y j → KV (S s p.1 y j B) (enc p.2))
   (λf=>∀s1 o,s1.gx s r->s1.getO r=some o->Kp s1 (.iface 36 f.enc))->Den cx f (first++[]++z) KV Kp (S s a x i n))
  (a0:σ)(x0:X)(i0 n0:Nat)(hQ:Q m a0 x0 i0)(b0:i0<=T.length)(b3:n0<=2000)
  (hk : (eY fin [44] (fun (c : σ × List α) w n => (one c.1 w n).bind fun p w n => .ok (p.1,c.2 ++ [p.2]) w n) ((T.drop i0).length + 1) (a0,[]) (T.drop i0) n0).to
   (λc w n=>∀j y,i0<=j->j<=T.length->T.drop j=w->n<=2000->Q m c.1 y j->KV (S m c.1 y j n) (.list none (c.2.map enc)))
   (λf=>∀s1 o,s1.gx m r->s1.getO r=some o->Kp s1 (.iface 36 f.enc))):Den cx 219 [.ptr r 0,.fn f first z] KV Kp (S m a0 x0 i0 n0):=by
 (refine uQ func219 xN ?_;simp only[go_sem,ntmps219,f219]);have b1:=hT.len;rw[show(T.drop i0).length=T.length-i0 by rw[dS]]at hk;simp only[eY,bY]at hk;refine cW (hf m a0 x0 i0 n0 _ _ hQ b0 b3 (bE hk (λp w B h=>?_) (λg h=>?_)))
 .intro j y hj M hw O G;simp only[cL,dD]at h;simp only[go_sem];refine .inr ⟨⟨hz _,ho _⟩,λt ht=>?_⟩;obtain⟨g1,g2,g3⟩:=h1 m p.1 y j B t (1,4) G ht
  refine Ex.loop (ι:=(σ × X × Nat × Nat) × List α) (λc=>[(0,.ptr r 0),(1,.fn f first z),(5,.list (some t) (c.2.map enc))])
   (λc=>S (m.setT t (c.2.length,4)) c.1.1 c.1.2.1 c.1.2.2.1 c.1.2.2.2)
   (fun c => Q (m.setT t (c.2.length,4)) c.1.1 c.1.2.1 c.1.2.2.1 ∧ i0 ≤ c.1.2.2.1 ∧ c.1.2.2.1 ≤ T.length ∧ c.1.2.2.2 ≤ 2000 ∧ c.2.length ≤ c.1.2.2.1 + 1 ∧ ∃ k,T.length - c.1.2.2.1 ≤ k ∧
    (if dO [44] (T.drop c.1.2.2.1) = true then eY fin [44] (fun (c : σ × List α) w n => (one c.1 w n).bind fun p w n => .ok (p.1,c.2 ++ [p.2]) w n) k (c.1.1,c.2) (T.drop c.1.2.2.1).tail c.1.2.2.2
     else Rd.ok (c.1.1,c.2) (T.drop c.1.2.2.1) c.1.2.2.2).to
      (λc w n=>∀j y,i0<=j->j<=T.length->T.drop j=w->n<=2000->Q m c.1 y j->KV (S m c.1 y j n) (.list none (c.2.map enc)))
      (λf=>∀s1 o,s1.gx m r->s1.getO r=some o->Kp s1 (.iface 36 f.enc)))
   (λc=>T.length-c.1.2.2.1) ((p.1,y,j,B),[p.2]) ?_ ?_ ?_ ?_
  .refine⟨g2,hj,M,O,by simp only[aV,aZ];omega,T.length-i0,aQ,?_⟩;simp only[hw];exact h
  .simp only[go_sem]
  .exact g3
  .rintro⟨⟨a,x,i,n⟩,l⟩ ⟨q1,q2,q3,qn,q4,k,q5,Z⟩;simp only at q1 q2 q3 qn q4 q5 Z;obtain⟨d,fi,b4,b5⟩:=hr (m.setT t (l.length,4)) a x i n;refine aX (V:=xN) _ _ _ _ ?_;simp only[go_sem];refine cW (jV _ b4 q3 hT ?_);cases hx:dO [44] (T.drop i)with
   | false =>
    rw[hx]at Z;simp only[dA,cZ,cL]at Z;obtain⟨e1,e2⟩:=h3 m a x i n t (l.length,4) g1 q1;simp only[go_sem];exact DK.mk (Z i x q2 q3 rfl qn e1) e2 (A.le.forget _ _)
   | true =>
    rw[hx]at Z;have b2:=lR hx;obtain⟨k,rfl⟩:∃k',k=k'+1:=⟨k-1,by omega⟩
    simp only[dF,eY,bY,cL,nJ]at Z;simp only[go_sem];refine cW (iH b5 (hf (m.setT t (l.length,4)) a x (i+1) n _ _ (hi _ _ _ _ q1) b2 qn (bE Z (λp w B h=>?_) (λg h=>?_))))
    .intro j y hj M hw O G;obtain⟨e1,e2,e3⟩:=h2 m p.1 y j B t (l.length,4) (l.length+1,4) g1 G;simp only[go_sem];refine .inl ⟨⟨hz _,ho _⟩,by decide,λq hq=>?_,e1,λq hq=>?_,by omega,((p.1,y,j,B),l++[p.2]),⟨?_,aQ,M,O,?_,k,aQ,?_⟩,aQ,?_,?_⟩
     .simp only[bO]at hq;subst hq;exact hz _
     .simp only[cN]at hq;obtain⟨q',_,rfl⟩:=hq;exact hz _
     .simp only[aH,aV,aZ];exact e2
     .simp only[aH,aV,aZ];omega
     .simp only[hw];exact h
     .simp only[bU,bX,dL]
     .simp only[aH,aV,aZ];exact e3
    .intro s1 o H U;simp only[go_sem];exact aP (h s1 o (H.dropT g1) U)
 .intro s1 o H U;exact aP (h s1 o H U)
theorem aOU{σ α X:Type}(enc:α->A)(hz:∀a,(enc a).cells.length=1)(ho:∀a,iF (enc a).cells=true)
  {T:List Tok}{fin:Fault}{m:St}{r:Nat}{KV Kp:St->A->Prop}(hT:TOk T)
  (S:St->σ->X->Nat->Nat->St)(Q:St->σ->X->Nat->Prop)(one:σ->List Tok->Nat->Rd (σ × α))(f:FuncId)(first z:List A)
  (hr:∀(s:St) (a:σ) (x:X) (i n:Nat),∃d fi,(S s a x i n).getO r=some (bI T fin d fi i n)/\((S s a x i n).setO r (bI T fin d fi (i+1) n)).ge (S s a x (i+1) n))
  (h1:∀(s:St) (a:σ) (x:X) (i n:Nat) (t:Nat) (v:Nat × TypeId),Q s a x i->(S s a x i n).getT t=none->s.getT t=none/\Q (s.setT t v) a x i/\((S s a x i n).setT t v).ge (S (s.setT t v) a x i n))
  (h2:∀(s:St) (a:σ) (x:X) (i n:Nat) (t:Nat) (v u:Nat × TypeId),s.getT t=none->Q (s.setT t v) a x i->(S (s.setT t v) a x i n).getT t=some v/\Q (s.setT t u) a x i/\((S (s.setT t v) a x i n).setT t u).ge (S (s.setT t u) a x i n))
  (h3:∀(s:St) (a:σ) (x:X) (i n:Nat) (t:Nat) (v:Nat × TypeId),s.getT t=none->Q (s.setT t v) a x i->Q s a x i/\(S (s.setT t v) a x i n).ge (S s a x i n))
  (hi:∀(s:St) (a:σ) (x:X) (i:Nat),Q s a x i->Q s a x (i+1))
  (hg:∀(s:St) (a:σ) (x:X) (i n:Nat),Q s a x i->(S s a x i n).gx s r)
  (hf : ∀ (s : St) (a : σ) (x : X) (i n : Nat) (KV Kp : St → A → Prop),Q s a x i → i ≤ T.length → n ≤ 2000 → (one a (T.drop i) n).to (fun p w B => ∀ j y,i ≤ j → j ≤ T.length → T.drop j = w → B ≤ 2000 → Q s p.1 y j → KV (S s p.1 y j B) (enc p.2))
   (λf=>∀s1 o,s1.gx s r->s1.getO r=some o->Kp s1 (.iface 36 f.enc))->Den cx f (first++[]++z) KV Kp (S s a x i n))
  (a0:σ)(x0:X)(i0 n0:Nat)(hQ:Q m a0 x0 i0)(b0:i0<=T.length)(b3:n0<=2000)
  (hk : (eY fin [44] (fun (c : σ × List α) w n => (one c.1 w n).bind fun p w n => .ok (p.1,c.2 ++ [p.2]) w n) ((T.drop i0).length + 1) (a0,[]) (T.drop i0) n0).to
   (λc w n=>∀j y,i0<=j->j<=T.length->T.drop j=w->n<=2000->Q m c.1 y j->KV (S m c.1 y j n) (.list none (c.2.map enc)))
   (λf=>∀s1 o,s1.gx m r->s1.getO r=some o->Kp s1 (.iface 36 f.enc))):Den cx 276 [.ptr r 0,.fn f first z] KV Kp (S m a0 x0 i0 n0):=by
 (refine uQ func276 xN ?_;simp only[go_sem,ntmps276,f276]);have b1:=hT.len;rw[show(T.drop i0).length=T.length-i0 by rw[dS]]at hk;simp only[eY,bY]at hk;refine cW (hf m a0 x0 i0 n0 _ _ hQ b0 b3 (bE hk (λp w B h=>?_) (λg h=>?_)))
 .intro j y hj M hw O G;simp only[cL,dD]at h;simp only[go_sem];refine .inr ⟨⟨hz _,ho _⟩,λt ht=>?_⟩;obtain⟨g1,g2,g3⟩:=h1 m p.1 y j B t (1,3) G ht
  refine Ex.loop (ι:=(σ × X × Nat × Nat) × List α) (λc=>[(0,.ptr r 0),(1,.fn f first z),(5,.list (some t) (c.2.map enc))])
   (λc=>S (m.setT t (c.2.length,3)) c.1.1 c.1.2.1 c.1.2.2.1 c.1.2.2.2)
   (fun c => Q (m.setT t (c.2.length,3)) c.1.1 c.1.2.1 c.1.2.2.1 ∧ i0 ≤ c.1.2.2.1 ∧ c.1.2.2.1 ≤ T.length ∧ c.1.2.2.2 ≤ 2000 ∧ c.2.length ≤ c.1.2.2.1 + 1 ∧ ∃ k,T.length - c.1.2.2.1 ≤ k ∧
    (if dO [44] (T.drop c.1.2.2.1) = true then eY fin [44] (fun (c : σ × List α) w n => (one c.1 w n).bind fun p w n => .ok (p.1,c.2 ++ [p.2]) w n) k (c.1.1,c.2) (T.drop c.1.2.2.1).tail c.1.2.2.2
     else Rd.ok (c.1.1,c.2) (T.drop c.1.2.2.1) c.1.2.2.2).to
      (λc w n=>∀j y,i0<=j->j<=T.length->T.drop j=w->n<=2000->Q m c.1 y j->KV (S m c.1 y j n) (.list none (c.2.map enc)))
      (λf=>∀s1 o,s1.gx m r->s1.getO r=some o->Kp s1 (.iface 36 f.enc)))
   (λc=>T.length-c.1.2.2.1) ((p.1,y,j,B),[p.2]) ?_ ?_ ?_ ?_
  .refine⟨g2,hj,M,O,by simp only[aV,aZ];omega,T.length-i0,aQ,?_⟩;simp only[hw];exact h
  .simp only[go_sem]
  .exact g3
  .rintro⟨⟨a,x,i,n⟩,l⟩ ⟨q1,q2,q3,qn,q4,k,q5,Z⟩;simp only at q1 q2 q3 qn q4 q5 Z;obtain⟨d,fi,b4,b5⟩:=hr (m.setT t (l.length,3)) a x i n;refine aX (V:=xN) _ _ _ _ ?_;simp only[go_sem];refine cW (jV _ b4 q3 hT ?_);cases hx:dO [44] (T.drop i)with
   | false =>
    rw[hx]at Z;simp only[dA,cZ,cL]at Z;obtain⟨e1,e2⟩:=h3 m a x i n t (l.length,3) g1 q1;simp only[go_sem];exact DK.mk (Z i x q2 q3 rfl qn e1) e2 (A.le.forget _ _)
   | true =>
    rw[hx]at Z;have b2:=lR hx;obtain⟨k,rfl⟩:∃k',k=k'+1:=⟨k-1,by omega⟩
    simp only[dF,eY,bY,cL,nJ]at Z;simp only[go_sem];refine cW (iH b5 (hf (m.setT t (l.length,3)) a x (i+1) n _ _ (hi _ _ _ _ q1) b2 qn (bE Z (λp w B h=>?_) (λg h=>?_))))
    .intro j y hj M hw O G;obtain⟨e1,e2,e3⟩:=h2 m p.1 y j B t (l.length,3) (l.length+1,3) g1 G;simp only[go_sem];refine .inl ⟨⟨hz _,ho _⟩,by decide,λq hq=>?_,e1,λq hq=>?_,by omega,((p.1,y,j,B),l++[p.2]),⟨?_,aQ,M,O,?_,k,aQ,?_⟩,aQ,?_,?_⟩
     .simp only[bO]at hq;subst hq;exact hz _
     .simp only[cN]at hq;obtain⟨q',_,rfl⟩:=hq;exact hz _
     .simp only[aH,aV,aZ];exact e2
     .simp only[aH,aV,aZ];omega
     .simp only[hw];exact h
     .simp only[bU,bX,dL]
     .simp only[aH,aV,aZ];exact e3
    .intro s1 o H U;simp only[go_sem];exact aP (h s1 o (H.dropT g1) U)
 .intro s1 o H U;exact aP (h s1 o H U)
theorem aOk{α:Type}(enc:α->A)(hz:∀a,(enc a).cells.length=1)(ho:∀a,iF (enc a).cells=true)
  {T:List Tok}{fin:Fault}{d:Dc}{fi:Tok}{U:St}{r:Nat}{KV Kp:St->A->Prop}(hT:TOk T)
  (Q:St->Prop)(O:∀(s:St) (t:Nat) (v:Nat × TypeId),Q (s.setT t v)↔Q s)(one:List Tok->Nat->Rd α)(f:FuncId)(first m:List A)
  (hf : ∀ (s : St) (i n : Nat) (KV Kp : St → A → Prop),Q s → i ≤ T.length → n ≤ 2000 → (one (T.drop i) n).to (fun a w n' => ∀ j,i ≤ j → j ≤ T.length → T.drop j = w → n' ≤ 2000 → KV (s.setO r (bI T fin d fi j n')) (enc a))
   (λf=>∀s1 o,s1.gx s r->s1.getO r=some o->Kp s1 (.iface 36 f.enc))->Den cx f (first++[]++m) KV Kp (s.setO r (bI T fin d fi i n)))
  (i0 H:Nat)(hQ:Q U)(Z:i0<=T.length)(b0:H<=2000)
  (M : (rT fin (fun _ => one) [] (T.drop i0) H).to
   (λl w n=>∀j,i0<=j->j<=T.length->T.drop j=w->n<=2000->KV (U.setO r (bI T fin d fi j n)) (.list none (l.map enc)))
   (λf=>∀s1 o,s1.gx U r->s1.getO r=some o->Kp s1 (.iface 36 f.enc))):Den cx 276 [.ptr r 0,.fn f first m] KV Kp (U.setO r (bI T fin d fi i0 H)):=by
 refine aOU (σ:=Unit) (X:=Unit) enc hz ho hT (λs _ _ i n=>s.setO r (bI T fin d fi i n)) (λs _ _ _=>Q s) (λ_ w n=>(one w n).bind λa w n=>.ok ((),a) w n) f first m
  (λs _ _ i n=>⟨d,fi,by rw[aL,aF rfl],by rw[qP];exact aE _⟩) (λs _ _ i n t v h S=>⟨S,(O s t v).2 h,aE _⟩)
  (λs _ _ i n t v u S h=>⟨?_,(O s t u).2 ((O s t v).1 h),?_⟩) (λs _ _ i n t v S h=>⟨(O s t v).1 h,?_⟩) (λs _ _ i h=>h) (λs _ _ i n h=>eW (fN s r)) (λs _ _ i n KV Kp h hi hn M=>?_) () () i0 H hQ Z b0 ?_
 .show(s.setT t v).getT t=some v;rw[dC,aF rfl]
 .show(((s.setT t v).setT t u).setO r _).ge ((s.setT t u).setO r _);exact rM (aBB s t v u)
 .exact rM (aAn S)
 .refine hf s i n KV Kp h hi hn ?_;rw[bY]at M;refine bE M (λa w n' G j hj z hw B=>?_) (λ_ G=>G);exact G j () hj z hw B h
 .have:=aDk fin [44] one ((T.drop i0).length+1) [] [] (T.drop i0) H _ _ M;refine bE this (λc w n h j y hj z hw B b1=>?_) (λ_ G=>G);have h':=h j hj z hw B;simpa only[dD]using h'
theorem aEi{α:Type}{enc:α->A}{T:List Tok}{fin:Fault}{d:Dc}{fi:Tok}{r:Nat}{Q:St->Prop}{one:List Tok->Nat->Rd α}{f:FuncId}{args:List A}(u:∀(s:St) (o:Ob),Q s->Q (s.setO r o))
  (h:∀(s:St) (i n:Nat) (KV Kp:St->A->Prop),s.getO r=some (bI T fin d fi i n)->Q s->i<=T.length->n<=2000->(one (T.drop i) n).to (PK T i (λj m=>s.setO r (bI T fin d fi j m)) enc KV) (PB s r Kp)->Den cx f args KV Kp s) :
  ∀(s:St) (i n:Nat) (KV Kp:St->A->Prop),Q s->i<=T.length->n<=2000->(one (T.drop i) n).to (λa w z=>∀j,i<=j->j<=T.length->T.drop j=w->z<=2000->KV (s.setO r (bI T fin d fi j z)) (enc a))
   (λf=>∀s1 o,s1.gx s r->s1.getO r=some o->Kp s1 (.iface 36 f.enc))->Den cx f args KV Kp (s.setO r (bI T fin d fi i n)):=by
 intro s i n KV Kp B G S M;refine h (s.setO r _) i n KV Kp (by rw[aL,aF rfl]) (u s _ B) G S (bE M (λa w m h j H y U O=>?_) (λf h o=>?_))
 .simp only[qP];exact h j H y U O
 .exact h _ o (eW (eW (fN s r))) (by rw[aL,aF rfl])
section
theorem aLr(s:St)(x:aC)(KV Kp)(m:KV s (.bool (oV x))):Den cx 232 [.str x] KV Kp s:=by
 (refine aN func232 [0,2] ?_;simp only[go_sem,ntmps232,f232]);refine tO _ _ _ _ ?_;simp only[go_sem];cases y:cP x with
 | false =>
  simp only[go_sem];rw[show oV x=false by simp[oV,y]]at m;exact aP m
 | true =>
  cases x with
  | nil=>simp[cP]at y
  | cons c r =>
   have u:decide ((97:Int)<=(c.toNat:Int))=decide (97<=c.toNat):=by rw[cC];omega
   have h:decide ((c.toNat:Int)<=122)=decide (c.toNat<=122):=by rw[cC];omega
   rw[show oV (c::r)=((decide (97<=c.toNat)&&decide (c.toNat<=122))&&!decide (c::r=[116,114,117,101])&&!decide (c::r=[102,97,108,115,101]))by simp[oV,y]]at m;cases z:decide (97<=c.toNat)<;>cases B:decide (c.toNat<=122)<;>cases G:decide (c::r=[116,114,117,101])<;>cases H:decide (c::r=[102,97,108,115,101])<;>simp only[go_sem,u,h,z,B,G,H]
   all_goals (rw[z,B,G,H]at m;exact aP m)
section
variable {T:List Tok} {fin:Fault} {d:Dc} {first:Tok} {i n:Nat} {s:St} {r:Nat} {KV Kp:St->A->Prop}
theorem PB.mk{s1:St}{f:Fault}(m:s1.gx s r)(h:PB s r Kp f):PB s1 r (DK Kp) f:=λo=>h.at (eW m) (by rw[aL,aF rfl])
theorem aAE(y:Nat)(sort:aC)(hr:s.getO r=some (bI T fin d first i n))(hi:i<=T.length)(Z:TOk T)(hn:n<=2000)
  (u:(aAU fin first (decide (y=60)) sort (T.drop i) n).to (PK T i (λj m=>s.setO r (bI T fin d first j m)) (λl=>.list none (l.map Tm.enc)) KV) (PB s r Kp)) :
  Den cx 297 [.ptr r 0,.int .i64 y,.str sort] KV Kp s:=by
 (refine aN func297 [0,1,2,6,7,8,11,17] ?_;simp only[go_sem,ntmps297,f297]);refine jV _ hr hi Z ?_;cases U:dO [124] (T.drop i)with
 | false =>
  simp only[aAU,U,dA,cZ,cL]at u;simp only[go_sem];exact DK.mk (u i (bJ _) hi rfl hn) (St.ge_same hr) A.le.nil
 | true =>
  have O:=lR U;simp only[aAU,U,dF,nJ]at u;simp only[go_sem];have z:(s.setO r (bI T fin d first (i+1) n)).getO r=some (bI T fin d first (i+1) n):=by rw[aL,aF rfl]
  refine kP z O ?_;cases H:T.drop (i+1)with
  | nil=>rw[H]at u;exact PB.at u bC z
  | cons t w =>
   rw[H]at u;obtain⟨h1,h2,h3,h4⟩:=mD H;simp only at u;simp only[go_sem];(refine aM λb G=>?_);have S:((s.setO r (bI T fin d first (i+1) n)).setO b (.cells 209 t.cs)).getO r=some (bI T fin d first (i+1) n):=by rw[aL,aD (Ne.symm G.1.1),z]
   simp only[go_sem,G];refine iR S (Nat.le_of_lt h2) Z ?_;rw[H];simp only[gI];cases hf:t.free with
   | false =>
    rw[hf]at u;simp only[dA,cZ,eP]at u⊢;exact PB.mk bC u
   | true =>
    rw[hf]at u;simp only[dF,cL]at u⊢;intro M B _;simp only[go_sem];have ed:decide ((y:Int)=60)=decide (y=60):=by rw[cC];omega
    simp only[go_sem,ed];cases hd:decide (y=60)with
    | true =>
     rw[hd]at u;simp only[dF,eP]at u;simp only[go_sem,G];exact PB.at (f:=⟨19,t.text,t.line,t.col⟩) u bC (by rw[aL,aF rfl]<;>rfl)
    | false =>
     rw[hd]at u;simp only[dA,cZ,bY]at u;simp only[go_sem,G];refine aLh (T:=T) (fin:=fin) (d:=d) (first:=first) (i:=i+1+1) (n:=n) (by rw[aL,aF rfl]<;>rfl) hn ?_;rw[B];refine bE u (λ_ w2 n2 h=>?_) (λf h=>PB.mk bC h);intro e1 e2;subst e1;simp only[cL]at h;simp only[go_sem];refine DK.mk (h (i+1+1) aB M B e2) (St.gx.ge bC (by rw[aL,aF rfl]<;>rfl)) ?_;exact A.le.list ⟨by simp only[List.map,cY,A.cells,xW,Tm.cs];exact⟨⟨bL _,rfl⟩,⟨bL _,rfl⟩,⟨bL _,rfl⟩,⟨bL _,rfl⟩,⟨A.le.nil,rfl⟩,⟨A.le.nil,rfl⟩,trivial⟩,trivial⟩
end
end
inductive TmW:Tm->Prop
 | mk (k n:Int) (x y:aC) (a b:List Tm) (hx:x.length<=140737488355328) (hy:y.length<=140737488355328) (ha:∀t,t∈a->TmW t) (hb:∀t,t∈b->TmW t) (la:a.length<=140737488355328) (lb:b.length<=140737488355328):TmW (.mk k n x y a b)
theorem TmW.text{t:Tm}(h:TmW t):t.text.length<=140737488355328:=by cases h;assumption
theorem TmW.sort{t:Tm}(h:TmW t):t.sort.length<=140737488355328:=by cases h;assumption
theorem TmW.kids{t:Tm}(h:TmW t):∀x,x∈t.kids->TmW x:=by cases h;assumption
theorem TmW.rest{t:Tm}(h:TmW t):∀x,x∈t.rest->TmW x:=by cases h;assumption
theorem TmW.lk{t:Tm}(h:TmW t):t.kids.length<=140737488355328:=by cases h;assumption
theorem TmW.lr{t:Tm}(h:TmW t):t.rest.length<=140737488355328:=by cases h;assumption
def Tm.leaf(t:Tm):Bool:=decide (t.kids.length=0)&&decide (t.rest.length=0)
def Tm.opn(t:Tm):Bool:=decide (t.text=[95])||decide (t.text=[36])
def Tm.shV(t:Tm):Bool:=t.leaf&&((cP t.text&&cP t.sort)||(t.opn&&decide (t.sort=[65,110,121])))&&decide (t.n=0)
def Tm.shR(t:Tm)(S:aC):Bool:=match t.rest with
 | []=>true
 | r::l=>decide (l.length=0)&&(decide (r.kind=6)&&(r.shV&&(cP r.text&&decide (r.sort=S))))
def Tm.shape(t:Tm):Bool :=
 if t.kind=1 then t.leaf&&(aEp t.n||(decide (t.n=0)||decide (t.n=1)))&&(decide (t.text=[])&&decide (t.sort=[]))
 else if t.kind=2 then t.leaf&&(decide (t.n=0)||decide (t.n=1))&&(decide (t.text=[])&&decide (t.sort=[]))
 else if t.kind=3 then t.leaf&&sT t.text&&(decide (t.n=0)&&decide (t.sort=[]))
 else if t.kind=4 then t.leaf&&oV t.text&&(decide (t.n=0)&&decide (t.sort=[]))
 else if t.kind=5 then(rU t.text&&(decide (t.kids.length<=8)&&decide (t.rest.length=0)))&&(decide (t.n=0)&&decide (t.sort=[]))
 else if t.kind=6 then t.shV
 else if t.kind=7 then t.shR [76,105,115,116]&&(decide (t.n=0)&&(decide (t.text=[])&&decide (t.sort=[])))
 else if t.kind=8 then(t.shR [77,97,112]&&decide (t.kids.length % 2=0))&&(decide (t.n=0)&&(decide (t.text=[])&&decide (t.sort=[])))
 else false
theorem uR{s:St}{KV:St->A->Prop}{a b:Bool}(h:KV s (.bool a))(e:b=a):KV s (.bool b):=e▸h
theorem aJw(t:Tm)(m:t.kind=6)(B:TmW t)(s:St)(KV Kp)(z:KV s (.bool t.shV)):Den cx 181 [.agg t.cs] KV Kp s:=by
 (refine aN func181 vX ?_;simp only[go_sem,ntmps181,f181]);(refine aM λp u=>?_);simp only[go_sem,u,m];(refine aM λq y=>?_);simp only[go_sem,u,y,m,Int.reduceEq]
 repeat' (first|(refine tO _ _ _ _ ?_;simp only[go_sem,u,y,m,Int.reduceEq])|((refine bD (OT.r 0 8) [(5,[3])] ?_;simp only[go_sem,u,y,m,Int.reduceEq]))|refine aG (uR z ?_) aR|(apply aJ<;>intro h)<;>simp only[go_sem,h,u,y,m,Int.reduceEq])
 all_goals simp_all [Tm.shV,Tm.leaf,Tm.opn]
theorem aI8(t:Tm)(S:aC)(hw:TmW t)(s:St)(KV Kp){cs:List A}(hc:cs=t.cs)(h:KV s (.bool (t.shR S))):Den cx 234 [.agg cs,.str S] KV Kp s:=by
 subst hc;(refine aN func234 [0,1,2,4,5,9] ?_;simp only[go_sem,ntmps234,f234]);(refine aM λp u=>?_);simp only[go_sem,u];cases m:t.rest with
 | nil =>
  have e:t.shR S=true:=by unfold Tm.shR;rw[m]
  rw[e]at h;have M:decide (((0:Nat):Int)=0)=true:=rfl;simp only[go_sem,u,m,M];exact aG h aR
 | cons r l =>
  have H:decide (((l.length+1:Nat):Int)=0)=false:=by rw[fO];omega
  have O:decide (((l.length+1:Nat):Int)=1)=decide (l.length=0):=by rw[cC];omega
  simp only[go_sem,u,m,H];(refine aM λq B=>?_);simp only[go_sem,u,m,B,H,O];have e:t.shR S=(decide (l.length=0)&&(decide (r.kind=6)&&(r.shV&&(cP r.text&&decide (r.sort=S))))):=by unfold Tm.shR;rw[m]
  have G:TmW r:=hw.rest r (by rw[m];exact cQ ..);rw[e]at h;clear e;cases y:decide (l.length=0)<;>rw[y]at h<;>simp only[go_sem,u,m,B,y]
  .exact aG h aR
  cases z:decide (r.kind=6)<;>rw[z]at h<;>simp only[go_sem,u,m,B,y,z]
  .exact aG h aR
  refine aJw r (fT z) G _ _ _ ?_;cases U:r.shV<;>rw[U]at h<;>simp only[go_sem,u,m,B,y,z]
  .exact aG h aR
  refine tO _ _ _ _ ?_;cases Z:cP r.text<;>rw[Z]at h<;>simp only[go_sem,u,m,B,y,z]
  .exact aG h aR
  exact aG h aR
theorem kinds(k:Int):k=1\/k=2\/k=3\/k=4\/k=5\/k=6\/k=7\/k=8\/(k≠1/\k≠2/\k≠3/\k≠4/\k≠5/\k≠6/\k≠7/\k≠8):=by omega
theorem aRy(t:Tm)(H:TmW t)(s:St)(KV Kp)(z:KV s (.bool t.shape)):Den cx 181 [.agg t.cs] KV Kp s:=by
 have hx:=H.text;have G:decide ((t.kids.length:Int)<=8)=decide (t.kids.length<=8):=by rw[cC];omega
 have B:decide ((t.kids.length:Int).tmod 2=0)=decide (t.kids.length % 2=0):=by
  rw[cC,Int.tmod_eq_emod_of_nonneg aB];omega
 rcases kinds t.kind with m|m|m|m|m|m|m|m|m
 ·(refine aN func181 vX ?_;simp only[go_sem,ntmps181,f181]);(refine aM λp u=>?_);simp only[go_sem,u,m];(refine aM λq y=>?_);simp only[go_sem,u,y,m,Int.reduceEq]
  repeat' (first|(refine aJ3 _ _ _ _ ?_;simp only[go_sem,u,y,m,Int.reduceEq])|refine aG (uR z ?_) aR|(apply aJ<;>intro h)<;>simp only[go_sem,h,u,y,m,Int.reduceEq])
  all_goals first|(simp_all [Tm.shape,Tm.leaf];done)|(simp_all [Tm.shape,Tm.leaf];intros;omega)
 ·(refine aN func181 vX ?_;simp only[go_sem,ntmps181,f181]);(refine aM λp u=>?_);simp only[go_sem,u,m];(refine aM λq y=>?_);simp only[go_sem,u,y,m,Int.reduceEq]
  repeat' (first|(refine aJ3 _ _ _ _ ?_;simp only[go_sem,u,y,m,Int.reduceEq])|refine aG (uR z ?_) aR|(apply aJ<;>intro h)<;>simp only[go_sem,h,u,y,m,Int.reduceEq])
  all_goals first|(simp_all [Tm.shape,Tm.leaf];done)|(simp_all [Tm.shape,Tm.leaf];intros;omega)
 ·(refine aN func181 vX ?_;simp only[go_sem,ntmps181,f181]);(refine aM λp u=>?_);simp only[go_sem,u,m];(refine aM λq y=>?_);simp only[go_sem,u,y,m,Int.reduceEq]
  repeat' (first|(refine aIN _ _ _ _ ?_;simp only[go_sem,u,y,m,Int.reduceEq])|refine aG (uR z ?_) aR|(apply aJ<;>intro h)<;>simp only[go_sem,h,u,y,m,Int.reduceEq])
  all_goals first|(simp_all [Tm.shape,Tm.leaf];done)|(simp_all [Tm.shape,Tm.leaf];intros;omega)
 ·(refine aN func181 vX ?_;simp only[go_sem,ntmps181,f181]);(refine aM λp u=>?_);simp only[go_sem,u,m];(refine aM λq y=>?_);simp only[go_sem,u,y,m,Int.reduceEq]
  repeat' (first|(refine aLr _ _ _ _ ?_;simp only[go_sem,u,y,m,Int.reduceEq])|refine aG (uR z ?_) aR|(apply aJ<;>intro h)<;>simp only[go_sem,h,u,y,m,Int.reduceEq])
  all_goals first|(simp_all [Tm.shape,Tm.leaf];done)|(simp_all [Tm.shape,Tm.leaf];intros;omega)
 ·(refine aN func181 vX ?_;simp only[go_sem,ntmps181,f181]);(refine aM λp u=>?_);simp only[go_sem,u,m];(refine aM λq y=>?_);simp only[go_sem,u,y,m,Int.reduceEq]
  repeat' (first|(refine aSb _ _ _ _ aB ?_;simp only[go_sem,u,y,m,Int.reduceEq,G])|refine aG (uR z ?_) aR|(apply aJ<;>intro h)<;>simp only[go_sem,h,u,y,m,Int.reduceEq,G,B])
  all_goals first|(simp_all [Tm.shape,Tm.leaf];done)|(simp_all [Tm.shape,Tm.leaf];intros;omega)
 .exact aJw t m H s KV Kp (uR z (by simp[Tm.shape,m]))
 ·(refine aN func181 vX ?_;simp only[go_sem,ntmps181,f181]);(refine aM λp u=>?_);simp only[go_sem,u,m];(refine aM λq y=>?_);simp only[go_sem,u,y,m,Int.reduceEq]
  repeat' (first|(refine aI8 t _ H _ _ _ (by simp only[Tm.cs,m]) ?_;simp only[go_sem,u,y,m,Int.reduceEq,B])|refine aG (uR z ?_) aR|(apply aJ<;>intro h)<;>simp only[go_sem,h,u,y,m,Int.reduceEq,G,B])
  all_goals first|(simp_all [Tm.shape,Tm.leaf];done)|(simp_all [Tm.shape,Tm.leaf];intros;omega)
 ·(refine aN func181 vX ?_;simp only[go_sem,ntmps181,f181]);(refine aM λp u=>?_);simp only[go_sem,u,m];(refine aM λq y=>?_);simp only[go_sem,u,y,m,Int.reduceEq]
  repeat' (first|(refine aI8 t _ H _ _ _ (by simp only[Tm.cs,m]) ?_;simp only[go_sem,u,y,m,Int.reduceEq,B])|refine aG (uR z ?_) aR|(apply aJ<;>intro h)<;>simp only[go_sem,h,u,y,m,Int.reduceEq,G,B])
  all_goals first|(simp_all [Tm.shape,Tm.leaf];done)|(simp_all [Tm.shape,Tm.leaf];intros;omega)
 .obtain⟨n1,n2,n3,n4,n5,n6,n7,n8⟩:=m;have M:=bR n1;have O:=bR n2;have S:=bR n3;have U:=bR n4;have Z:=bR n5;have d6:=bR n6;have d7:=bR n7;have d8:=bR n8;(refine aN func181 vX ?_;simp only[go_sem,ntmps181,f181]);(refine aM λp u=>?_);simp only[go_sem,u];(refine aM λq y=>?_);simp only[go_sem,u,y,M,O,S,U,Z,d6,d7,d8]
  repeat' (first|refine aG (uR z ?_) aR|(apply aJ<;>intro h)<;>simp only[go_sem,h,u,y,M,O,S,U,Z,d6,d7,d8])
  all_goals simp_all [Tm.shape]
def jN(f:Tm->Nat->Option Nat):List Tm->Nat->Option Nat
 | [],m=>some m
 | t::r,m=>(f t m).bind (jN f r)
def zW(k r m:Nat):Option Nat:=if r=0 then some m else if 0<k/\m+r<=2000 then some (m+r) else none
def Tm.val:Nat->Tm->Nat->Option Nat
 | 0,_,_=>none
 | k+1,t,m=>if m+1<=2000 then(if t.shape=true then(jN (Tm.val k) t.kids (m+1)).bind (zW k t.rest.length) else none) else none
def oY(n:Int)(b:Bool):Ob:=.cells 161 [.int .i64 n,.bool b]
theorem aKb(f:Tm->Nat->Option Nat)(x:Tm):∀(l:List Tm) (m:Nat),jN f (l++[x]) m=(jN f l m).bind (f x)
 | [],m=>by
  simp only[dD,jN,sG];cases f x m<;>rfl
 | t::r,m=>by
  simp only[dY,jN];cases f t m with
  | none=>rfl
  | some n=>exact aKb f x r n
theorem aRi{f:Tm->Nat->Option Nat}{l:List Tm}{i:Nat}{x:Tm}(h:l[i]?=some x)(m:Nat):jN f (l.take (i+1)) m=(jN f (l.take i) m).bind (f x):=by
 rw[gJ,h];exact aKb f x _ m
theorem aRB{f:Tm->Nat->Option Nat}{l:List Tm}{i:Nat}{m:Nat}(h:jN f (l.take i) m=none):jN f l m=none:=by
 have:∀(a b:List Tm) m,jN f a m=none->jN f (a++b) m=none:=by
  intro a
  induction a with
  | nil=>intro b m h;cases h
  | cons t r y =>
   intro b m h;simp only[dY,jN]at h⊢;cases u:f t m with
   | none=>rfl
   | some n=>rw[u]at h;exact y b n h
 have:=this _ (l.drop i) m h
 rwa[mQ]at this
theorem aG8{f:Tm->Nat->Option Nat}(z:∀t m n,f t m=some n->n<=2000):∀(l:List Tm) (a b:Nat),a<=2000->jN f l a=some b->b<=2000
 | [],a,b,y,h=>by cases h;exact y
 | x::r,a,b,y,h=>by
  simp only[jN]at h;cases u:f x a with
  | none=>rw[u]at h;cases h
  | some c=>rw[u]at h;exact aG8 z r c b (z x a c u) h
theorem aMO:∀(k:Nat) (t:Tm) (m n:Nat),Tm.val k t m=some n->n<=2000
 | 0,_,_,_,h=>by cases h
 | k+1,t,m,n,h=>by
  unfold Tm.val at h;split at h
  .split at h
   .cases hl:jN (Tm.val k) t.kids (m+1)with
    | none=>rw[hl]at h;cases h
    | some q =>
     rw[hl]at h;simp only[sG,zW]at h;split at h
     .cases h;exact aG8 (λt m n h=>aMO k t m n h) _ _ _ (by assumption) hl
     .split at h
      .cases h;omega
      .cases h
   .cases h
  .cases h
def wE(k c j:Nat):Bool:=decide (j=0)||(decide (0<k)&&decide (c+j<=2000))
def leM(m:Nat):Bool:=decide (m<=2000)
theorem aHu(k c j:Nat):wE k c (j+1)=(decide (0<k)&&leM (c+j+1)):=by simp[wE,leM,nY]
theorem aPY:∀(k:Nat) (t:Tm) (n:Nat) (r:Nat) (s:St) (KV Kp:St->A->Prop),k<=60->n<=2000->TmW t->s.getO r=some (oY n true) ->
  (match Tm.val k t n with
   | some m=>KV (s.setO r (oY m true)) (.tuple [])
   | none=>∀z,KV (s.setO r (oY z false)) (.tuple []))->Den cx 116 [.ptr r 0,.agg t.cs,.int .i64 (61-(k:Int))] KV Kp s:=by
 intro k
 induction k with
 | zero =>
  intro t n r s KV Kp hk60 hn hw hr hk;simp only[oY]at hr hk⊢;have w1:=aU n aB;have d1:decide ((61-((0:Nat):Int))<=60)=false:=by decide
  simp only[Tm.val]at hk;(refine aN func116 aEw ?_;simp only[go_sem,ntmps116,f116]);(refine aM λp hp=>?_);have ep:=aI hr hp;simp only[go_sem,hr,hp,ep,w1,d1];refine aG (hk ((n+1:Nat):Int)) ?_;exact cD
 | succ k ih =>
  intro t n r s KV Kp hk60 hn hw hr hk;simp only[oY]at hr hk;have w1:=aU n aB;have d1:decide ((61-((k+1:Nat):Int))<=60)=true:=by rw[bW];omega
  (refine aN func116 aEw ?_;simp only[go_sem,ntmps116,f116]);(refine aM λp hp=>?_);have ep:=aI hr hp;simp only[go_sem,hr,hp,ep,w1,d1];by_cases h2:n+1<=2000
  .have d2:decide (((n+1:Nat):Int)<=2000)=true:=by rw[bW];omega
   simp only[go_sem,hr,hp,ep,w1,d1,d2];refine aRy t hw _ _ _ ?_;cases hs:t.shape
   .simp only[go_sem,hr,hp,ep,w1,d1,d2];have hv:Tm.val (k+1) t n=none:=by rw[Tm.val,aF h2,hs,aD dM]
    rw[hv]at hk;exact aG (hk ((n+1:Nat):Int)) cD
   have hv:Tm.val (k+1) t n=(jN (Tm.val k) t.kids (n+1)).bind (zW k t.rest.length):=by rw[Tm.val,aF h2,hs,aF rfl]
   rw[hv]at hk;simp only[go_sem,hr,hp,ep,w1,d1,d2]
   have w5:IntKind.i64.wrap (61-((k+1:Nat):Int)+1)=61-(k:Int):=by
    rw[fV _ aB aB];omega
   refine Ex.loop (ι:=Nat × Nat) (λc=>[(0,.ptr r 0),(2,.int .i64 (61-((k+1:Nat):Int))),(4,.ptr p 0),(43,.list none (t.kids.map Tm.enc)),(44,.int .i64 (t.kids.length:Nat)),(45,.int .i64 (c.1:Nat))])
    (λc=>(s.setO p (.cells 67 t.cs)).setO r (oY c.2 true)) (λc=>c.1<=t.kids.length/\jN (Tm.val k) (t.kids.take c.1) (n+1)=some c.2) (λc=>t.kids.length-c.1) (0,n+1) ⟨aW _,rfl⟩ ?_ ?_ ?_
   ·(simp only[go_sem];try exact rfl)
   .exact cD
   .rintro⟨i,c⟩ ⟨hi,hc⟩;simp only at hi hc;have hcl:=aG8 (λt m n h=>aMO k t m n h) _ _ _ h2 hc;simp only[oY];refine aX (V:=aEw) _ _ _ _ ?_;simp only[go_sem,hr,hp,ep]
    (apply aJ<;>intro h)<;>simp only[go_sem,h,hr,hp,ep]
    .have hix:i<t.kids.length:=gQ h;clear h;obtain⟨x,hx⟩:=bB hix;have hxm:x∈t.kids:=bK hx;simp only[go_sem,hr,hp,ep,hx,hix];(refine aM λb5 hb5=>?_);simp only[go_sem,hr,hp,ep,hx,hix,hb5,w5];refine ih x c r _ _ _ aB hcl (hw.kids x hxm) (by simp only[oY];exact gH) ?_;have htk:=aRi (f:=Tm.val k) hx (n+1);rw[hc]at htk;simp only[sG]at htk;cases hv2:Tm.val k x c with
     | none =>
      rw[hv2]at htk;rw[aRB htk]at hk;intro z;simp only[oY];simp only[go_sem,hr,hp,ep,hb5];exact aG (hk z) cD
     | some c2 =>
      rw[hv2]at htk;simp only[oY];simp only[go_sem,hr,hp,ep,hb5];refine⟨(i+1,c2),⟨hix,htk⟩,aQ,(by simp only[go_sem,aU i (by have:=hw.lk;omega)];try rfl),?_⟩;exact cD
    .have hii:i=t.kids.length:=by have:¬ i<t.kids.length:=gQ h;omega
     subst hii;rw[bT]at hc;rw[hc]at hk;simp only[sG]at hk;clear h;have hwr:=hw.lr;have d6:decide ((61-((k+1:Nat):Int))<60)=decide (0<k):=by rw[cC];omega
     refine Ex.loop (ι:=Nat) (λj=>[(0,.ptr r 0),(2,.int .i64 (61-((k+1:Nat):Int))),(4,.ptr p 0),(62,.int .i64 (t.rest.length:Nat)),(63,.int .i64 (j:Nat))])
      (λj=>(s.setO p (.cells 67 t.cs)).setO r (oY ((c+j:Nat):Int) (wE k c j))) (λj=>j<=t.rest.length) (λj=>t.rest.length-j) 0 (aW _) ?_ ?_ ?_
     ·(simp only[go_sem];try exact rfl)
     .exact cD
     .intro j hj;have w6:=aU (c+j) aB;simp only[oY];refine aX (V:=aEw) _ _ _ _ ?_;simp only[go_sem,hr,hp,ep]
      (apply aJ<;>intro h)<;>simp only[go_sem,h,hr,hp,ep]
      .have hjx:j<t.rest.length:=gQ h;clear h;have d7:decide (((c+j+1:Nat):Int)<=2000)=leM (c+j+1):=by unfold leM;rw[cC];omega
       have w7:=aU j aB;cases hb0:wE k c j with
       | false =>
        have e0:(decide (0<k)&&leM (c+j+1))=false:=by
         simp only[leM,wE,Bool.or_eq_false_iff,Bool.and_eq_false_iff,fO]at hb0⊢;omega
        simp only[go_sem,hr,hp,ep,hb0,w6,d6,d7];refine⟨j+1,hjx,by omega,(by simp only[go_sem,w7];try rfl),?_⟩;rw[aHu,e0];exact cD
       | true =>
        cases hk0:decide (0<k)with
        | false =>
         simp only[go_sem,hr,hp,ep,hb0,w6,d6,d7,hk0];refine⟨j+1,hjx,by omega,(by simp only[go_sem,w7];try rfl),?_⟩;rw[aHu,hk0,gB];exact cD
        | true =>
         simp only[go_sem,hr,hp,ep,hb0,w6,d6,d7,hk0];refine⟨j+1,hjx,by omega,(by simp only[go_sem,w7];try rfl),?_⟩;rw[aHu,hk0,dW];exact cD
      .have hjj:j=t.rest.length:=by have:¬ j<t.rest.length:=gQ h;omega
       subst hjj;clear h;cases hm:zW k t.rest.length c with
       | none =>
        rw[hm]at hk
        have e0:wE k c t.rest.length=false:=by
         unfold zW at hm;unfold wE;split at hm
         .cases hm
         .split at hm
          .cases hm
          .simp only[Bool.or_eq_false_iff,Bool.and_eq_false_iff,fO];omega
        rw[e0];exact aG (hk _) cD
       | some m =>
        rw[hm]at hk
        have e0:wE k c t.rest.length=true/\m=c+t.rest.length:=by
         unfold zW at hm;unfold wE;split at hm
         .cases hm;rename_i h0;exact⟨by rw[h0];rfl,by omega⟩
         .split at hm
          .rename_i h0 h1;cases hm;exact⟨by rw[cT h1.1,cT h1.2];simp,rfl⟩
          .cases hm
        rw[e0.1];rw[e0.2]at hk;exact aG hk cD
  .have d2:decide (((n+1:Nat):Int)<=2000)=false:=by rw[fO];omega
   have hv:Tm.val (k+1) t n=none:=by rw[Tm.val,aD h2]
   rw[hv]at hk;simp only[go_sem,hr,hp,ep,w1,d1,d2];exact aG (hk ((n+1:Nat):Int)) cD
theorem aIW(t:Tm)(G:TmW t)(s:St)(KV Kp:St->A->Prop)(h:KV s (.bool (Tm.val 60 t 0).isSome)):Den cx 57 [.agg t.cs] KV Kp s:=by
 (refine aN func57 [0,1,2,3] ?_;simp only[go_sem,ntmps57,f57]);(refine aM λp u=>?_);simp only[go_sem,u];(refine aM λq y=>?_);simp only[go_sem,u,y];refine aPY 60 t 0 q _ _ _ (bJ _) aB G (by simp only[oY];exact gH) ?_;cases B:Tm.val 60 t 0 with
 | none =>
  rw[B]at h;intro z;simp only[oY];simp only[go_sem,u,y];exact aG h cD
 | some m =>
  rw[B]at h;simp only[oY];simp only[go_sem,u,y];exact aG h cD
def kA{α:Type}(key:α->MK)(l:List α):List (MK × A):=l.map λx=>(key x,.bool true)
theorem aDX{α:Type} [DecidableEq α] (key:α->MK) (u:∀x y,key x=key y->x=y) (x:α) (l:List α):jP (key x) (kA key l)=if x∈l then some (.bool true) else none:=by
 induction l with
 | nil=>rfl
 | cons y l m =>
  simp only[kA,bX,jP]at m⊢;by_cases h:key x=key y
  .have:=u _ _ h;subst this;simp
  .have:x≠y:=λe=>h (by rw[e])
   simp only[aD h,m,dG,this,false_or]
theorem aDR{α:Type} [DecidableEq α] (key:α->MK) (u:∀x y,key x=key y->x=y) (x:α) (l:List α) (h:x ∉ l):lK (key x) (.bool true) (kA key l)=kA key (l++[x]):=by
 induction l with
 | nil=>rfl
 | cons y l m =>
  simp only[dG,not_or]at h;have z:¬ key x=key y:=λe=>h.1 (u _ _ e)
  have m:=m h.2;simp only[kA,bX,lK,aD z,dY]at m⊢;rw[m]
theorem aBA(s:St)(l:List aC)(KV Kp)(U:∀s',s'.ge s->KV s' (.bool (decide l.Nodup))):Den cx 60 [.list none (l.map .str)] KV Kp s:=by
 refine hH λS=>?_
 have M:=S _ (cQ ..);(refine aN func60 aBj ?_;simp only[go_sem,ntmps60,f60]);(refine aM λb hb=>?_);simp only[go_sem]
 refine Ex.loop (λi=>[(3,.mp b),(7,.list none (l.map .str)),(8,.int .i64 l.length),(9,.int .i64 (i:Nat))]) (λi=>s.setO b (.map 0 (kA .str (l.take i))))
     (λi=>i<=l.length/\(l.take i).Nodup) (λi=>l.length-i) 0 ⟨aW _,by simp⟩ ?_ (aE _) ?_
 .simp only[go_sem];exact rfl
 .rintro i ⟨hi,u⟩;refine aX (V:=aBj) _ _ _ _ ?_;simp only[go_sem]
  (apply aJ<;>intro h)<;>simp only[go_sem,h]
  .have m:i<l.length:=gQ h;obtain⟨a,G⟩:=bB m;have z:=aDX MK.str (λx y e=>by cases e;rfl) a (l.take i);have O:=aDR MK.str (λx y e=>by cases e;rfl) a (l.take i);by_cases B:a∈l.take i
   .rw[aF B]at z;simp only[go_sem,G,m,z]
    have H:¬ l.Nodup:=by
     intro H;rw[<-mQ i l,List.nodup_append]at H;refine H.2.2 a B a ?_ rfl;have:(l.drop i)[0]?=some a:=by rw[mR];simpa using G
     exact bK this
    exact aP (by have:=U (s.setO b (.map 0 (kA .str (l.take i)))) (bG (by assumption) (aE s));simpa [H]using this)
   .rw[aD B]at z;simp only[go_sem,G,m,z,O B,lB];have Z:l.take (i+1)=l.take i++[a]:=by rw[gJ,G];rfl
    refine⟨i+1,⟨by omega,?_⟩,by omega,?_,?_⟩
    .rw[Z,List.nodup_append];exact⟨u,by simp,λx hx y hy=>by simp at hy;subst hy;intro e;subst e;exact B hx⟩
    .exact M.wrap (i:=i) (gQ m)
    .rw[Z];exact aE _
  .have m:i=l.length:=by simp at h;omega
   subst m;rw[bT]at u;exact aP (by have:=U (s.setO b (.map 0 (kA .str l))) (bG (by assumption) (aE s));simpa [u]using this)
theorem aOg(s:St)(l:List Int)(KV Kp)(U:∀s',s'.ge s->KV s' (.bool (decide l.Nodup))):Den cx 127 [.list none (l.map (.int .i64))] KV Kp s:=by
 refine hH λS=>?_
 have M:=S _ (cQ ..);(refine aN func127 aBj ?_;simp only[go_sem,ntmps127,f127]);(refine aM λb hb=>?_);simp only[go_sem]
 refine Ex.loop (λi=>[(3,.mp b),(7,.list none (l.map (.int .i64))),(8,.int .i64 l.length),(9,.int .i64 (i:Nat))]) (λi=>s.setO b (.map 1 (kA .int (l.take i))))
     (λi=>i<=l.length/\(l.take i).Nodup) (λi=>l.length-i) 0 ⟨aW _,by simp⟩ ?_ (aE _) ?_
 .simp only[go_sem];exact rfl
 .rintro i ⟨hi,u⟩;refine aX (V:=aBj) _ _ _ _ ?_;simp only[go_sem]
  (apply aJ<;>intro h)<;>simp only[go_sem,h]
  .have m:i<l.length:=gQ h;obtain⟨a,G⟩:=bB m;have z:=aDX MK.int (λx y e=>by cases e;rfl) a (l.take i);have O:=aDR MK.int (λx y e=>by cases e;rfl) a (l.take i);by_cases B:a∈l.take i
   .rw[aF B]at z;simp only[go_sem,G,m,z]
    have H:¬ l.Nodup:=by
     intro H;rw[<-mQ i l,List.nodup_append]at H;refine H.2.2 a B a ?_ rfl;have:(l.drop i)[0]?=some a:=by rw[mR];simpa using G
     exact bK this
    exact aP (by have:=U (s.setO b (.map 1 (kA .int (l.take i)))) (bG (by assumption) (aE s));simpa [H]using this)
   .rw[aD B]at z;simp only[go_sem,G,m,z,O B,lB];have Z:l.take (i+1)=l.take i++[a]:=by rw[gJ,G];rfl
    refine⟨i+1,⟨by omega,?_⟩,by omega,?_,?_⟩
    .rw[Z,List.nodup_append];exact⟨u,by simp,λx hx y hy=>by simp at hy;subst hy;intro e;subst e;exact B hx⟩
    .exact M.wrap (i:=i) (gQ m)
    .rw[Z];exact aE _
  .have m:i=l.length:=by simp at h;omega
   subst m;rw[bT]at u;exact aP (by have:=U (s.setO b (.map 1 (kA .int l))) (bG (by assumption) (aE s));simpa [u]using this)
def kR:List aC:=[[65,110,121],[73,110,116],[66,111,111,108],[84,101,120,116],[73,100],[76,105,115,116],[77,97,112]]
theorem aII(s:St)(KV Kp)(h:KV s (.list none (kR.map .str))):Den cx 63 [] KV Kp s:=by
 (refine aN func63 [0] ?_;simp only[go_sem,ntmps63,f63]);exact aP h
def eX{α:Type}(r:α->α->Bool):List α->List α->Bool
 | [],[]=>true
 | a::xs,b::ys=>r a b&&eX r xs ys
 | _,_=>false
theorem aDm{α:Type}{r:α->α->Bool}:∀{xs ys:List α},xs.length≠ys.length->eX r xs ys=false
 | [],[],h=>cV rfl h
 | [],_::_,_=>rfl
 | _::_,[],_=>rfl
 | a::xs,b::ys,h=>by simp only[eX,aDm (r:=r) (xs:=xs) (ys:=ys) (gQ h),iZ]
theorem yP{α:Type}{r:α->α->Bool}:∀{xs ys:List α},xs.length=ys.length->(eX r xs ys=true↔∀(i:Nat) (a b:α),xs[i]?=some a->ys[i]?=some b->r a b=true)
 | [],[],_=>by simp[eX]
 | [],_::_,h=>by simp at h
 | _::_,[],h=>by simp at h
 | a::xs,b::ys,h=>by
  rw[eX,bP,yP (gQ h)];constructor
  .rintro⟨z,B⟩ i x y m u;cases i with
   | zero=>simp at m u;subst m;subst u;exact z
   | succ i=>exact B i x y (gQ m) (gQ u)
  .intro h;exact⟨h 0 a b bA bA,λi x y m u=>h (i+1) x y (gQ m) (gQ u)⟩
theorem aI3:∀a b:List Tm,aAD a b=eX Tm.same a b
 | [],[]=>rfl
 | [],_::_=>rfl
 | _::_,[]=>rfl
 | a::l,b::r=>by rw[aAD,eX,aI3 l r]
theorem aP8(a b:Tm):a.same b=(decide (a.kind=b.kind)&&(decide (a.n=b.n)&&(decide (a.text=b.text)&&(decide (a.sort=b.sort)&&(eX Tm.same a.kids b.kids&&eX Tm.same a.rest b.rest))))):=by
 cases a;cases b;simp only[Tm.same,aI3,Tm.kind,Tm.n,Tm.text,Tm.sort,Tm.kids,Tm.rest];rfl
theorem Tm.hz6(a:Tm):∃cs,a.enc=.agg cs/\cs.length=6/\iF cs=true:=⟨_,a.enc_eq,rfl,rfl⟩
theorem aPT(s:St)(xs ys:List aC)(KV Kp)(U:KV s (.bool (eX (λa b=>decide (a=b)) xs ys))) :
  Den cx 188 [.list none (xs.map .str),.list none (ys.map .str)] KV Kp s:=by
 refine hH λb0=>?_
 have Z:=b0 _ (cQ ..);(refine aN func188 aET ?_;simp only[go_sem,ntmps188,f188])
 (first|refine gC8 (λh=>?_) (λh=>?_)|refine gC9 (λh=>?_) (λh=>?_)|refine gD1 (λh=>?_) (λh=>?_))<;>simp only[go_sem,h]
 .exact aP (by rwa[aDm (by intro e;simp[e]at h)]at U)
 .have z:xs.length=ys.length:=by simp at h;omega
  refine Ex.loop (λi=>[(0,.list none (xs.map .str)),(1,.list none (ys.map .str)),(12,.int .i64 xs.length),(13,.int .i64 (i:Nat))]) (λ_=>s)
     (λi=>i<=xs.length/\∀(j:Nat) a b,j<i->xs[j]?=some a->ys[j]?=some b->(λa b=>decide (a=b)) a b=true) (λi=>xs.length-i) 0 ⟨aW _,λj _ _ hj=>by omega⟩ ?_ (aE s) ?_
  .simp only[go_sem];exact rfl
  .rintro i ⟨hi,u⟩;refine aX (V:=aET) _ _ _ _ ?_;simp only[go_sem]
   (first|refine gC8 (λh=>?_) (λh=>?_)|refine gC9 (λh=>?_) (λh=>?_)|refine gD1 (λh=>?_) (λh=>?_))<;>simp only[go_sem,h]
   .have m:i<xs.length:=gQ h;have G:i<ys.length:=by omega
    obtain⟨a,M⟩:=bB m;obtain⟨b,O⟩:=bB G;(refine bD (OT.r 0 9) [] ?_;simp only[go_sem]);simp only[go_sem,M,O,m,G]
    (first|refine gC8 (λh=>?_) (λh=>?_)|refine gC9 (λh=>?_) (λh=>?_)|refine gD1 (λh=>?_) (λh=>?_))<;>simp only[go_sem,h]
    .have hr:(λa b=>decide (a=b)) a b=false:=by simpa only[iY,eU]using h
     have:eX (λa b=>decide (a=b)) xs ys=false:=by
      rw[jQ];intro he;have:=(yP z).1 he i a b M O;exact cV (hr.symm.trans this) dM
     exact aP (by rwa[this]at U)
    .have hr:(λa b=>decide (a=b)) a b=true:=by simpa only[aFv,eU]using h
     refine⟨i+1,⟨by omega,λj x y hj B H=>?_⟩,by omega,?_,aE s⟩
     .by_cases S:j=i
      .subst S;rw[M]at B;rw[O]at H;cases B;cases H;exact hr
      .exact u j x y aB B H
     .simp only[go_sem,Z.wrap (i:=i) (gQ m)]
   .have m:i=xs.length:=by simp at h;omega
    have:eX (λa b=>decide (a=b)) xs ys=true:=(yP z).2 λj x y B H=>u j x y (by rw[m];exact(dZ.1 B).1) B H
    exact aP (by rwa[this]at U)
def Eqn.same(a b:Eqn):Bool:=a.left.same b.left&&(a.right.same b.right&&eX Tm.same a.cond b.cond)
def Cel.same(a b:Cel):Bool:=decide (a.name=b.name)&&(decide (a.sort=b.sort)&&a.init.same b.init)
def Part.same(a b:Part):Bool:=decide (a.cell=b.cell)&&(decide (a.at_=b.at_)&&(a.left.same b.left&&eX Tm.same a.right b.right))
def Fresh.same(a b:Fresh):Bool:=eX Tm.same a.cells b.cells
theorem Eqn.hz(a:Eqn):∃cs,a.enc=.agg cs/\cs.length=15/\iF cs=true:=⟨_,rfl,rfl,rfl⟩
theorem Cel.hz(a:Cel):∃cs,a.enc=.agg cs/\cs.length=10/\iF cs=true:=⟨_,rfl,rfl,rfl⟩
theorem Part.hz(a:Part):∃cs,a.enc=.agg cs/\cs.length=11/\iF cs=true:=⟨_,rfl,rfl,rfl⟩
theorem Fresh.hz(a:Fresh):∃cs,a.enc=.agg cs/\cs.length=1/\iF cs=true:=⟨_,rfl,rfl,rfl⟩
theorem Rul.hz(a:Rul):∃cs,a.enc=.agg cs/\cs.length=7/\iF cs=true:=⟨_,rfl,rfl,rfl⟩
theorem Opr.hz(a:Opr):∃cs,a.enc=.agg cs/\cs.length=7/\iF cs=true:=⟨_,rfl,rfl,rfl⟩
def Rul.same(a b:Rul):Bool:=decide (a.name=b.name)&&(eX Part.same a.parts b.parts&&(eX Tm.same a.cond b.cond&&(eX Fresh.same a.new b.new&&eX (λa b=>decide (a=b)) a.drop b.drop)))
def Opr.same(a b:Opr):Bool:=decide (a.name=b.name)&&(decide (a.sort=b.sort)&&(decide (a.prec=b.prec)&&(decide (a.assoc=b.assoc)&&(eX (λa b=>decide (a=b)) a.args b.args&&(eX (λa b=>decide (a.text=b.text)&&decide (a.sort=b.sort)) a.pieces b.pieces&&eX (λa b=>decide (a=b)) a.strict b.strict)))))
def Sig.same(a b:Sig):Bool:=eX (λa b=>decide (a=b)) a.sorts b.sorts&&(eX (λa b=>decide (a.low=b.low)&&decide (a.high=b.high)) a.below b.below&&(eX (λa b=>decide (a=b)) a.values b.values&&(eX Opr.same a.ops b.ops&&eX Opr.same a.funs b.funs)))
def Dfn.same(a b:Dfn):Bool:=decide (a.name=b.name)&&(decide (a.kind=b.kind)&&(decide (a.start=b.start)&&(decide (a.watch=b.watch)&&(a.sig.same b.sig&&(eX Eqn.same a.eqs b.eqs&&(eX Cel.same a.once b.once&&(eX Cel.same a.many b.many&&eX Rul.same a.rules b.rules)))))))
end Go.AV
section
open Go.Proofs.Tryz
namespace Go.Proofs
open Go.Shelf
def Tryz.lays190_ren:Go.Shelf.Ren:=⟨λ|125=>109|128=>174|129=>175|190=>45|258=>108|302=>165|303=>166|304=>167|305=>168|306=>169|307=>170|308=>171|309=>172|310=>173|329=>207|330=>208|333=>206|334=>209|335=>210|336=>211|344=>251|n=>n,λ|0=>0|3=>3|4=>4|5=>5|9=>9|31=>22|46=>152|51=>201|53=>203|131=>198|182=>193|183=>194|218=>226|222=>186|228=>256|229=>257|n=>n,λn=>n⟩
theorem Tryz.lays190:Go.Proofs.Lays.n190 Tryz.prog Tryz.lays190_ren:={
 mixed:=by kernel_rfl
 f125:=Tryz.func109.trans (congrArg some (by kernel_rfl))
 f128:=Tryz.func174.trans (congrArg some (by kernel_rfl))
 f129:=Tryz.func175.trans (congrArg some (by kernel_rfl))
 f190:=Tryz.func45.trans (congrArg some (by kernel_rfl))
 f258:=Tryz.func108.trans (congrArg some (by kernel_rfl))
 f302:=Tryz.func165.trans (congrArg some (by kernel_rfl))
 f303:=Tryz.func166.trans (congrArg some (by kernel_rfl))
 f304:=Tryz.func167.trans (congrArg some (by kernel_rfl))
 f305:=Tryz.func168.trans (congrArg some (by kernel_rfl))
 f306:=Tryz.func169.trans (congrArg some (by kernel_rfl))
 f307:=Tryz.func170.trans (congrArg some (by kernel_rfl))
 f308:=Tryz.func171.trans (congrArg some (by kernel_rfl))
 f309:=Tryz.func172.trans (congrArg some (by kernel_rfl))
 f310:=Tryz.func173.trans (congrArg some (by kernel_rfl))
 f329:=Tryz.func207.trans (congrArg some (by kernel_rfl))
 f330:=Tryz.func208.trans (congrArg some (by kernel_rfl))
 f333:=Tryz.func206.trans (congrArg some (by kernel_rfl))
 f334:=Tryz.func209.trans (congrArg some (by kernel_rfl))
 f335:=Tryz.func210.trans (congrArg some (by kernel_rfl))
 f336:=Tryz.func211.trans (congrArg some (by kernel_rfl))
 f344:=Tryz.func251.trans (congrArg some (by kernel_rfl))
 t0:=Tryz.underlying0
 a0:=Tryz.isAgg0
 z0:=Tryz.sizeOf0
 v0:=Tryz.zeroValue0
 t3:=Tryz.underlying3
 a3:=Tryz.isAgg3
 z3:=Tryz.sizeOf3
 v3:=Tryz.zeroValue3
 t4:=Tryz.underlying4
 a4:=Tryz.isAgg4
 z4:=Tryz.sizeOf4
 v4:=Tryz.zeroValue4
 t5:=Tryz.underlying5
 a5:=Tryz.isAgg5
 z5:=Tryz.sizeOf5
 v5:=Tryz.zeroValue5
 t9:=Tryz.underlying9
 a9:=Tryz.isAgg9
 z9:=Tryz.sizeOf9
 v9:=Tryz.zeroValue9
 t31:=Tryz.underlying22
 a31:=Tryz.isAgg22
 z31:=Tryz.sizeOf22
 v31:=Tryz.zeroValue22
 t46:=Tryz.underlying152
 a46:=Tryz.isAgg152
 z46:=Tryz.sizeOf152
 v46:=Tryz.zeroValue152
 t51:=Tryz.underlying201
 a51:=Tryz.isAgg201
 z51:=Tryz.sizeOf201
 v51:=Tryz.zeroValue201
 t53:=Tryz.underlying203
 a53:=Tryz.isAgg203
 z53:=Tryz.sizeOf203
 v53:=Tryz.zeroValue203
 t131:=Tryz.underlying198
 a131:=Tryz.isAgg198
 z131:=Tryz.sizeOf198
 v131:=Tryz.zeroValue198
 t182:=Tryz.underlying193
 a182:=Tryz.isAgg193
 z182:=Tryz.sizeOf193
 v182:=Tryz.zeroValue193
 t183:=Tryz.underlying194
 a183:=Tryz.isAgg194
 z183:=Tryz.sizeOf194
 v183:=Tryz.zeroValue194
 t218:=Tryz.underlying226
 a218:=Tryz.isAgg226
 z218:=Tryz.sizeOf226
 v218:=Tryz.zeroValue226
 t222:=Tryz.underlying186
 a222:=Tryz.isAgg186
 z222:=Tryz.sizeOf186
 v222:=Tryz.zeroValue186
 t228:=Tryz.underlying256
 a228:=Tryz.isAgg256
 z228:=Tryz.sizeOf256
 v228:=Tryz.zeroValue256
 t229:=Tryz.underlying257
 a229:=Tryz.isAgg257
 z229:=Tryz.sizeOf257
 v229:=Tryz.zeroValue257 }
def Tryz.lays194_ren:Go.Shelf.Ren:=⟨λ|194=>194|n=>n,λ|0=>0|3=>3|4=>4|9=>9|31=>22|n=>n,λn=>n⟩
theorem Tryz.lays194:Go.Proofs.Lays.n194 Tryz.prog Tryz.lays194_ren:={
 mixed:=by kernel_rfl
 f194:=Tryz.func194.trans (congrArg some (by kernel_rfl))
 t0:=Tryz.underlying0
 a0:=Tryz.isAgg0
 z0:=Tryz.sizeOf0
 v0:=Tryz.zeroValue0
 t3:=Tryz.underlying3
 a3:=Tryz.isAgg3
 z3:=Tryz.sizeOf3
 v3:=Tryz.zeroValue3
 t4:=Tryz.underlying4
 a4:=Tryz.isAgg4
 z4:=Tryz.sizeOf4
 v4:=Tryz.zeroValue4
 t9:=Tryz.underlying9
 a9:=Tryz.isAgg9
 z9:=Tryz.sizeOf9
 v9:=Tryz.zeroValue9
 t31:=Tryz.underlying22
 a31:=Tryz.isAgg22
 z31:=Tryz.sizeOf22
 v31:=Tryz.zeroValue22 }
open Go.RowKit Go.Sort
theorem Tryz.sort_str(h off cap:Nat)(ss:List (List UInt8))(w:World)(hH:Holds encStr w h off ss.toArray)(m:h<w.heap.size)(u:ss.length<4611686018427387904) :
  Calls Tryz.prog 45 #[.slice (some ⟨h,off,none⟩) ss.length cap] w λe w' =>
   e=.returned (.tuple #[])/\∃n z,w'=grow (putRow encStr (Sort.ahead w n) h off (ss.mergeSort λx y=>decide (x<=y)).toArray) z:=Any.slices_Sort_string Tryz.lays190 h off cap ss w hH m u
theorem Tryz.sort_none(p:Option Addr)(cap:Nat)(w:World) :
  Calls Tryz.prog 45 #[.slice p 0 cap] w λe w'=>e=.returned (.tuple #[])/\w'=w:=Any.slices_Sort_string_none Tryz.lays190 p cap w
theorem Tryz.compact_str(h off cap:Nat)(m:List (List UInt8))(w:World)(hH:Holds encStr w h off m.toArray)(y:m.length<=9223372036854775807)(u:m.length<=cap) :
  Calls Tryz.prog 194 #[.slice (some ⟨h,off,none⟩) m.length cap] w λe w'=>e=.returned (.slice (some ⟨h,off,none⟩) (Lib.compact m).length cap)/\∃q,w'=putRow encStr (Sort.ahead w q) h off (Lib.compact m++List.replicate (m.length-(Lib.compact m).length) []).toArray:=Any.slices_Compact_string Tryz.lays194 h off cap m w hH y u
end Go.Proofs
end
section
open Go.Proofs.Tryz
namespace Go.AV
open Go Go.Proofs Go.Sort
def rZ(x:aC):List aC->List aC
 | []=>[x]
 | y::r=>if x<=y then x::y::r else y::rZ x r
def sV:List aC->List aC
 | []=>[]
 | x::r=>rZ x (sV r)
theorem aBT(x:aC):∀l:List aC,(rZ x l).Perm (x::l)
 | []=>.refl _
 | y::r=>by
  simp only[rZ];split
  .exact .refl _
  .exact((aBT x r).cons y).trans (.swap x y r)
theorem tP:∀l:List aC,(sV l).Perm l
 | []=>.refl _
 | x::r=>(aBT x _).trans ((tP r).cons x)
theorem aFS(x:aC):∀l:List aC,l.Pairwise (λa b=>a<=b)->(rZ x l).Pairwise (λa b=>a<=b)
 | [],_=>by simp[rZ]
 | y::r,h=>by
  simp only[rZ];rw[List.pairwise_cons]at h;split
  .rename_i m;rw[List.pairwise_cons,List.pairwise_cons]
   exact⟨λz hz=>by
    rcases List.mem_cons.1 hz with rfl|hz
    .exact m
    .exact List.le_trans m (h.1 z hz),h⟩
  .rename_i m;rw[List.pairwise_cons];refine⟨λz hz=>?_,aFS x r h.2⟩;rcases List.mem_cons.1 ((aBT x r).mem_iff.1 hz)with rfl|hz
   .exact(List.le_total y z).resolve_right m
   .exact h.1 z hz
theorem aC6:∀l:List aC,(sV l).Pairwise (λa b=>a<=b)
 | []=>.nil
 | x::r=>aFS x _ (aC6 r)
theorem aSe(l:List aC):(l.mergeSort λx y=>decide (x<=y))=sV l:=by
 have u:(l.mergeSort λx y=>decide (x<=y)).Perm (sV l):=(List.mergeSort_perm l _).trans (tP l).symm
 have z:(l.mergeSort λx y=>decide (x<=y)).Pairwise (λa b:aC=>a<=b):=by
  have:=List.pairwise_mergeSort (le:=λx y:aC=>decide (x<=y)) (λa b c h m=>by simp only[bW]at *;exact List.le_trans h m) (λa b=>by simp only[gV,bW];exact List.le_total a b) l;simpa using this
 exact List.Perm.eq_of_pairwise (λa b _ _ h m=>List.le_antisymm h m) z (aC6 l) u
theorem Rzs.strs{g:Gh}:∀{ss:List aC} {J:List A} {vs:List Value},Rzs g (ss.map .str++J) vs->∃us,vs=ss.map sA++us/\Rzs g J us
 | [],J,vs,h=>⟨vs,rfl,h⟩
 | x::r,J,[],h=>by have:=h.1;simp at this
 | x::r,J,v::vs,h=>by
  have y:=(h.2 0 (.str x) v rfl rfl).str_inv;obtain⟨us,rfl,m⟩:=Rzs.strs (g:=g) (ss:=r) (J:=J) (vs:=vs) ⟨gQ h.1,λj c u z m=>h.2 (j+1) c u (gQ z) (gQ m)⟩;exact⟨us,by rw[y];rfl,m⟩
theorem aJG{g:Gh}:∀(ss:List aC) {J:List A} {us:List Value},Rzs g J us->Rzs g (ss.map .str++J) (ss.map sA++us)
 | [],J,us,h=>h
 | x::r,J,us,h=>.cons (.str x) (aJG r h)
theorem aKh{w:World}{k:Nat}{ss:List aC}{rest:List Value}{e:TypeId}(m:w.heap[k]?=some (.cells (ss.map sA++rest).toArray e)):Holds encStr w k 0 ss.toArray:=by
 intro j h;have h:j<ss.length:=gQ h;constructor
 .simp only[World.cell?,m,iQ,mP];rw[kE (gQ h),nH,dI h];simp[h,encStr,sA]
 .simp[World.frozen?,m]
theorem aTU{w:World}{k:Nat}{ss:List aC}{rest:List Value}{e:TypeId}(y:w.heap[k]?=some (.cells (ss.map sA++rest).toArray e)){d:List aC}(m:d.length=ss.length)(n:Nat) :
  (putRow encStr (Sort.ahead w n) k 0 d.toArray).heap[k]?=some (.cells (d.map sA++rest).toArray e)/\∀j,j≠k->(putRow encStr (Sort.ahead w n) k 0 d.toArray).heap[j]?=w.heap[j]?:=by
 constructor
 .simp only[putRow,mapBlock,Sort.ahead,Array.getElem?_modify,y,onCells,dF,lL];congr 2;apply Array.ext_getElem?;intro i;simp only[putCells,Array.getElem?_mapIdx,mP];by_cases h:i<d.length
  .rw[kE (by simpa [m]using h),kE (gQ h),nH,nH,dI (by omega:i<ss.length),dI h];simp[h,encStr,sA]
  .rw[sC (by simpa [m]using h),sC (gQ h),aO,aO,m];cases rest[i-ss.length]? with
   | none=>rfl
   | some x=>simp[h]
 .intro j u;simp only[putRow,mapBlock,Sort.ahead,Array.getElem?_modify,aD (Ne.symm u)]
theorem aMU{F:Fr}{g:Gh}{s:St}{w:World}(y:R cx.toCtx F g s w){b k:Nat}{ss:List aC}{J:List A}(B:s.getO b=some (.cells 9 (ss.map .str++J)))(G:g.beta b=some k) :
  ∃us rest,w.heap[k]?=some (.cells (ss.map sA++rest).toArray 9)/\k<w.heap.size/\∀(d:List aC) (n:Nat),d.length=ss.length->R cx.toCtx F g (s.setO b (.cells 9 (d.map .str++J))) (putRow encStr (Sort.ahead w n) k 0 d.toArray)/\us=ss:=by
 obtain⟨Z,u,⟨vs,rest,m,hz,H⟩,_,_⟩:=y.obj b _ B;rw[G]at u;cases u;obtain⟨us,rfl,O⟩:=hz.strs;rw[eG]at m;refine⟨ss,us++rest,m,(iW.1 m).1,λd n M=>⟨?_,rfl⟩⟩;obtain⟨S,U⟩:=aTU m M n;refine y.setObj B G U ?_;refine⟨d.map sA++us,rest,by rw[S,eG],aJG d O,λc h=>?_⟩;rcases cK.1 h with h|h
 .obtain⟨z,_,rfl⟩:=cN.1 h;rfl
 .exact H c (mA _ h)
section
variable {b cap:Nat} {ss:List aC} {J:List A} {s:St} {KV Kp:St->A->Prop}
theorem aJy(H:s.getO b=some (.cells 9 (ss.map .str++J)))(hl:ss.length<4611686018427387904)(O:KV (s.setO b (.cells 9 ((sV ss).map .str++J))) (.tuple [])):Den cx 45 [.mg b ss.length cap] KV Kp s:=by
 intro F g w vals G m;change OutV cx F g KV Kp ((callFunc 45 vals.toArray).run prog w);rw[aAx (P:=prog) func45 rfl rfl vals.toArray w]
 match vals,m.1,m with
 | [x],_,m =>
 have S:=m.2 0 _ x rfl rfl;cases S with
 | mg b n cap k y B U =>
 obtain⟨_,rest,M,z,h⟩:=aMU G H y;refine Calls.mono (sort_str k 0 cap ss w (aKh M) z hl) ?_;rintro e w' ⟨rfl,n,Z,rfl⟩;rw[aSe];have u:=(h (sV ss) n (tP ss).length_eq).1;exact⟨g,_,_,fJ g,u.keep (λc B=>heap_grow_old _ _ B),.tuple [] [] rfl bA,O⟩
theorem aF0(u:KV s (.tuple [])):Den cx 45 [.nils] KV Kp s:=by
 intro F g w vals m h;change OutV cx F g KV Kp ((callFunc 45 vals.toArray).run prog w);rw[aAx (P:=prog) func45 rfl rfl vals.toArray w]
 match vals,h.1,h with
 | [x],_,h =>
 have y:=(h.2 0 _ x rfl rfl).nils_inv;subst y;refine Calls.mono (sort_none none 0 w) ?_;rintro e w' ⟨rfl,rfl⟩;exact⟨g,_,s,fJ g,m,.tuple [] [] rfl bA,u⟩
theorem aN1(z:s.getO b=some (.cells 9 (ss.map .str++J)))(hl:ss.length<=4294967296)(M:KV (s.setO b (.cells 9 ((Lib.compact ss++List.replicate (ss.length-(Lib.compact ss).length) []).map .str++J))) (.mg b (Lib.compact ss).length cap)) :
  Den cx 194 [.mg b ss.length cap] KV Kp s:=by
 intro F g w vals y u;change OutV cx F g KV Kp ((callFunc 194 vals.toArray).run prog w);rw[aAx (P:=prog) func194 rfl rfl vals.toArray w]
 match vals,u.1,u with
 | [x],_,u =>
 have U:=u.2 0 _ x rfl rfl;cases U with
 | mg b n cap k h B S =>
 obtain⟨_,rest,H,O,m⟩:=aMU y z h
 have G:(Lib.compact ss).length<=ss.length:=by
  unfold Lib.compact Lib.compactUpTo;rw[aO];exact pH (List.length_filter_le _ _) (by rw[List.length_range];exact bJ _)
 refine Calls.mono (compact_str k 0 cap ss w (aKh H) aB B) ?_;rintro e w' ⟨rfl,n,rfl⟩;exact⟨g,_,_,fJ g,(m _ n (by rw[aH,List.length_replicate];omega)).1,.mg b _ cap k h aB S,M⟩
theorem aNR(u:KV s .nils):Den cx 194 [.nils] KV Kp s:=by
 intro F g w vals m h;change OutV cx F g KV Kp ((callFunc 194 vals.toArray).run prog w);rw[aAx (P:=prog) func194 rfl rfl vals.toArray w]
 match vals,h.1,h with
 | [x],_,h =>
 have y:=(h.2 0 _ x rfl rfl).nils_inv;subst y;refine Calls.mono (Any.slices_Compact_string_empty lays194 none 0 w) ?_;rintro e w' ⟨rfl,rfl⟩;exact⟨g,_,_,fJ g,m,.nils,u⟩
end
theorem aPU(ss:List aC)(x:aC):x∈Lib.compact ss↔x∈ss:=by
 unfold Lib.compact Lib.compactUpTo;simp only[cN,List.mem_filter,vA];constructor
 .rintro⟨j,⟨m,_⟩,rfl⟩;simp[m]
 .intro h;obtain⟨j,m,rfl⟩:=kM h
  induction j with
  | zero=>exact⟨0,⟨m,by simp[Lib.keeps]⟩,by simp[m]⟩
  | succ j B =>
   by_cases u:Lib.keeps ss.toArray (j+1)=true
   .exact⟨j+1,⟨m,u⟩,by simp[m]⟩
   .obtain⟨i,z,y⟩:=B aB (kF _);refine⟨i,z,y.trans ?_⟩;simp[Lib.keeps]at u;simpa [m,(by omega:j<ss.length)]using u.symm
def St.delO(s:St)(b:Nat):St:={ s with ob:=λu=>if u=b then none else s.ob u,ov:=zZ b s.ov }
theorem aC4(s:St)(b q:Nat):(s.delO b).getO q=if q=b then none else s.getO q:=aGr b s.ob q s.ov
def FZ(KV:St->A->Prop)(s:St)(v:A):Prop:=KV s v\/∃b n cap e es J,v=.mg b n cap/\n=es.length/\s.getO b=some (.cells e (es++J))/\(∀y,y∈es->y.cells=[y])/\KV (s.delO b) (.list none es)
theorem aMk{f:FuncId}{args:List A}{s:St}{KV Kp:St->A->Prop}(h:Den cx f args (FZ KV) Kp s):Den cx f args KV Kp s:=by
 have key:∀(F:Fr) (g u:Gh) (s':St) (w':World) (a:A) (v:Value),g.le u->R cx.toCtx F u s' w'->Rz u a v->FZ KV s' a->∃M a' b3,g.le M/\R cx.toCtx F M b3 w'/\Rz M a' v/\KV b3 a':=by
  intro F g u s' w' a v hg Z B h;rcases h with h|⟨b,n,cap,e,es,J,rfl,rfl,hb,hy,h⟩
  .exact⟨u,a,s',hg,Z,B,h⟩
  .cases B with
   | mg b n cap k b0 O hm =>
   obtain⟨k',e1,⟨vs,rest,hh,hz,h1⟩,b2,hF⟩:=Z.obj b _ hb;rw[b0]at e1;cases e1;have b8:vs.length=es.length+J.length:=by rw[hz.1,aH]
   have z:=aDf b2 vs
   have m:R cx.toCtx F u (s'.delO b) w':=Z.weaken ⟨λq o ho=>by
    rw[aC4]at ho;split at ho
    .cases ho
    .exact ho,λ_ _ h=>h,λ_ h=>h⟩ (λhd=>by cases hd)
   refine⟨u.know k vs,.list none es,s'.delO b,hg.trans z,⟨λq o ho=>?_,λt n e ht=>?_,m.sep,λq pre H=>?_,λq o ho=>?_,λq cs hq=>?_,m.fsh,m.bet,m.inj,m.dtm,λx hx=>(m.lst x hx).mono z,m.bfr,m.env⟩,?_,h⟩
   .obtain⟨j,q1,q2,q3,q4⟩:=m.obj q o ho
    have b5:j≠k:=by
     rintro rfl;have:=m.inj q b j q1 b0;subst this;rw[aC4,aF rfl]at ho;cases ho
    exact⟨j,q1,q2.mono z,by simp[Gh.know,b5,q3],q4⟩
   .obtain⟨v,xs,t1,t2,t3,t4⟩:=m.tok t n e ht;refine⟨v,xs,t1,t2,t3,λc O=>?_⟩;have b4:c≠k:=by rintro rfl;have:=(t4 c O).1;rw[b2]at this;cases this
    exact⟨by simp[Gh.know,b4,(t4 c O).1],(t4 c O).2⟩
   .simp only[Gh.know]at H;split at H
    .cases H;rename_i hq;subst hq;exact⟨rest,e,(0,0),hh⟩
    .exact m.pis q pre H
   .obtain⟨o1,o2⟩:=m.frm q o ho;have b6:q≠k:=by rintro rfl;rw[hF]at ho;cases ho
    exact⟨o1,by simp[Gh.know,b6,o2]⟩
   .obtain⟨pre,ty,fr,p1,p2,p3,p4⟩:=m.glb q cs hq;exact⟨pre,ty,fr,p1,p2,p3,λj c v O B=>(p4 j c v O B).mono z⟩
   .refine .list none es k 0 1 cap vs (by simp[Gh.know]) aB O hm (λy G=>by rw[hy y G];rfl) (λy G c b1=>?_) (λi y j c v hi hj B=>?_) (λt ht=>by cases ht)
    .rw[hy y G]at b1;rw[bO.1 b1];exact h1 y (iX _ G)
    .rw[hy y (bK hi)]at hj
     obtain rfl:j=0:=by
      have:=(dZ.1 hj).1;simp at this;omega
     simp only[mO,bV]at hj;subst hj;simp only[iQ,Nat.mul_one,lD]at B;exact(hz.2 i y v (by rw[kE (dZ.1 hi).1];exact hi) B).mono z
 intro F g w vals Z B;have:=h F g w vals Z B;revert this;generalize (callFunc f vals.toArray).run cx.P w=r;intro S;cases r with
 | ok x w' =>
  cases x<;>simp only[OutV]at S⊢
  .obtain⟨u,a,s',U,a2,a3,a4⟩:=S;exact key F g u s' w' a _ U a2 a3 a4
  .obtain⟨u,s',U,a2,a3⟩:=S;rcases a3 with h|⟨b,n,cap,e,es,J,h,_⟩
   .exact⟨u,s',U,a2,h⟩
   .cases h
  .refine Calls.mono S λen b7 H=>?_
   cases en with
   | returned v=>obtain⟨u,a,s',U,a2,a3,a4⟩:=H;exact key F g u s' b7 a _ U a2 a3 a4
   | panicked mK=>exact H
   | outgrown=>exact H
 | halt x w'=>(cases x<;>simp only[OutV]at S⊢)<;>exact S
end Go.AV
end
namespace Go.AV
open Go Go.Proofs Tryz
def jB(x:aC)(out:List aC)(b:Below):List aC:=if b.low=x/\b.high ∉ out then out++[b.high] else out
def xI(h:List Below):Nat->Nat->List aC->List aC
 | 0,_,out=>out
 | f+1,i,out=>match out[i]? with
  | none=>out
  | some x=>xI h f (i+1) (h.foldl (jB x) out)
def pU(h:List Below)(a:aC):List aC:=xI h (h.length+2) 0 [a]
def nN(sg:Sig):List aC:=kR++sg.sorts
def zF(sg:Sig)(a:aC):List aC:=if a∈nN sg then pU sg.below a else []
def cR(sg:Sig)(a:aC):Bool:=decide (a∈nN sg)
def vM(sg:Sig)(x y:aC):Bool:=decide (y=[65,110,121])||decide (y∈zF sg x)
def mZ(sg:Sig)(x y:aC):Bool:=vM sg x y||vM sg y x
def vJ(sg:Sig)(a:aC):Bool:=sg.values.any λv=>vM sg a v
def eN:List Opr->aC->Option Opr
 | [],_=>none
 | o::r,n=>match eN r n with
  | some p=>some p
  | none=>if o.name=n then some o else none
def mI:Opr:=⟨[],[],[],[],0,0,[]⟩
def oQ(c:UInt8):Bool:=!decide ((c.toNat:Int)<33)&&(!decide (126<(c.toNat:Int))&&(!jW c.toNat&&!decide (c∈[34,39,92])))
def vL(x:aC):Bool:=!decide (x=[])&&(!decide (20<x.length)&&x.all oQ)
def zE(a:aC):Bool:=cP a&&!decide (a∈kR)
def yV(sg:Sig)(b:Below):Bool:=!decide (b.low=[65,110,121])&&(cR sg b.low&&(decide (b.high∈sg.sorts)&&!decide (b.low∈zF sg b.high)))
def vK(p:Piece):Bool:=decide (p.sort=[]) == (vL p.text||(cP p.text&&!decide (20<p.text.length)))&&!(!decide (p.sort=[])&&!decide (p.text=[]))
def aDy(o:Opr):Bool:=decide (o.pieces.length=0)||(o.pieces.all vK&&(!decide (20<o.pieces.length)&&eX (λa b=>decide (a=b)) ((o.pieces.map Piece.sort).filter (λx=>!decide (x=[]))) o.args))
def vP(sg:Sig)(o:Opr):Bool :=
 rU o.name&&(!decide (o.name∈gY)&&(!decide (8<o.args.length)&&(o.args.all (cR sg)&&(decide (o.sort∈sg.sorts) &&
 (((decide (0<=o.prec)&&decide (o.prec<=20))&&(decide (0<o.pieces.length)||decide (o.prec=0)))&&(((decide (0<=o.assoc)&&decide (o.assoc<=2))&&(decide (0<o.prec)||decide (o.assoc=0))) &&
 ((o.strict.all λi=>decide (1<=i)&&decide (i<=o.args.length))&&(decide o.strict.Nodup&&aDy o))))))))
def xG(sg:Sig)(o:Opr):Bool :=
 cP o.name&&(!decide (o.name∈gY)&&(!decide (8<o.args.length)&&(o.args.all (cR sg)&&(cR sg o.sort&&(decide (o.pieces.length=0)&&(decide (o.prec=0)&&(decide (o.assoc=0)&&decide (o.strict.length=0))))))))
def qR(sg:Sig):Bool :=
 !decide (40<sg.sorts.length)&&(!decide (200<sg.below.length)&&(!decide (200<sg.ops.length+sg.funs.length)&&(decide sg.below.Nodup&&(decide sg.values.Nodup &&
 (decide sg.sorts.Nodup&&(sg.sorts.all zE&&(decide (sg.ops.map Opr.name++sg.funs.map Opr.name).Nodup &&
 (sg.below.all (yV sg)&&(sg.values.all (cR sg)&&(sg.ops.all (vP sg)&&sg.funs.all (xG sg)))))))))))
def zQ(n:aC):List aC :=
 if n∈[[97,100,100],[115,117,98],[109,117,108],[100,105,118],[109,111,100],[108,116],[108,101],[103,116],[103,101]] then [[73,110,116],[73,110,116]]
 else if n∈[[110,101,103],[116,101,120,116]] then [[73,110,116]]
 else if n∈[[101,113],[110,101]] then [[65,110,121],[65,110,121]]
 else if n∈[[97,110,100],[111,114]] then [[66,111,111,108],[66,111,111,108]]
 else if n=[110,111,116] then [[66,111,111,108]]
 else if n=[112,105,99,107] then [[66,111,111,108],[65,110,121],[65,110,121]]
 else if n=[99,97,116] then [[84,101,120,116],[84,101,120,116]]
 else if n=[108,101,110,103,116,104] then [[76,105,115,116]]
 else if n=[106,111,105,110] then [[76,105,115,116],[76,105,115,116]]
 else if n∈[[103,101,116],[104,97,115],[100,101,108]] then [[77,97,112],[65,110,121]]
 else if n=[112,117,116] then [[77,97,112],[65,110,121],[65,110,121]]
 else if n∈[[107,101,121,115],[115,105,122,101]] then [[77,97,112]]
 else if n=[105,115] then [[65,110,121],[84,101,120,116]]
 else [[65,110,121]]
def aA0(n:aC):aC :=
 if n∈[[97,100,100],[115,117,98],[109,117,108],[100,105,118],[109,111,100],[110,101,103],[108,101,110,103,116,104],[115,105,122,101]] then [73,110,116]
 else if n∈[[99,97,116],[116,101,120,116]] then [84,101,120,116]
 else if n∈[[106,111,105,110],[107,101,121,115]] then [76,105,115,116]
 else if n∈[[112,117,116],[100,101,108]] then [77,97,112]
 else if n∈[[112,105,99,107],[103,101,116]] then [65,110,121]
 else [66,111,111,108]
def bOp(n:aC):Opr:=⟨n,zQ n,aA0 n,[],0,0,[]⟩
def hU(sg:Sig)(n:aC):Opr × Bool × Bool:=match eN sg.ops n with
 | some o=>(o,false,true)
 | none=>match eN sg.funs n with
  | some o=>(o,true,true)
  | none=>if n∈gY then(bOp n,true,true) else(mI,true,false)
def lU(sg:Sig)(t:Tm):aC :=
 if t.kind=1 then [73,110,116] else if t.kind=2 then [66,111,111,108] else if t.kind=3 then [84,101,120,116] else if t.kind=4 then [73,100] else if t.kind=7 then [76,105,115,116] else if t.kind=8 then [77,97,112]
 else if t.kind=5 then(hU sg t.text).1.sort else if cR sg t.sort=true then t.sort else []
def nP(sg:Sig):List Tm->List aC->Bool
 | t::r,a::l=>mZ sg (lU sg t) a&&nP sg r l
 | _,_=>true
def aEq(sg:Sig)(t:Tm):Bool:=if t.kind=6 then cR sg t.sort else if t.kind=5 then
  (hU sg t.text).2.2&&(decide ((hU sg t.text).1.args.length=t.kids.length)&&nP sg t.kids (hU sg t.text).1.args) else true
mutual
def fC(sg:Sig):Tm->Bool
 | .mk k n x y ks rs=>aEx sg ks&&aEq sg (.mk k n x y ks rs)
def aEx(sg:Sig):List Tm->Bool
 | []=>true
 | t::r=>fC sg t&&aEx sg r
end
mutual
def Tm.pre:Tm->List Tm
 | .mk k n x y ks rs=>.mk k n x y ks rs::(aY ks++aY rs)
def aY:List Tm->List Tm
 | []=>[]
 | t::r=>t.pre++aY r
end
theorem iJ(t:Tm):t.pre=t::aY (t.kids++t.rest):=by
 have h:∀a b:List Tm,aY (a++b)=aY a++aY b:=by
  intro a b
  induction a with
  | nil=>rfl
  | cons x r m=>simp only[dY,aY,m,eG]
 cases t;simp only[Tm.pre,Tm.kids,Tm.rest,h]
theorem aLF(sg:Sig)(t:Tm):fC sg t=(t.kids.all (fC sg)&&aEq sg t):=by
 have h:∀l:List Tm,aEx sg l=l.all (fC sg):=by
  intro l
  induction l with
  | nil=>rfl
  | cons x r m=>simp only[aEx,m,fG]
 cases t;simp only[fC,h,Tm.kids]
def iT(l:List Tm):List aC:=((aY l).filter λt=>decide (t.kind=6)).map Tm.text
def lI(l:List Tm):List aC:=sV (iT l)
def nR:List (aC × aC)->aC->Option aC
 | [],_=>none
 | (a,b)::r,x=>if a=x then some b else nR r x
def uF(st:List (aC × aC) × aC)(x:Tm):List (aC × aC) × aC :=
 if x.kind=6/\x.text≠[95] then
  match nR st.1 x.text with
  | some h=>if h≠x.sort/\(st.2=[]\/Go.Op.bytesLess x.text st.2=true) then(st.1,x.text) else st
  | none=>(st.1++[(x.text,x.sort)],st.2)
 else st
def pS(l:List Tm):aC:=((aY l).foldl uF ([],[])).2
def yZ(sg:Sig)(x:Tm):Bool:=decide (x.kind=5)&&(hU sg x.text).2.1
def pM(sg:Sig)(t:Tm):Bool:=t.pre.any (yZ sg)
def xM(t:Tm):Bool:=decide (t.kind=1)||(decide (t.kind=3)||decide (t.kind=4))
def vW(k:Tm):Bool:=xM k||(decide (k.kind=6)&&!decide (k.text=[95]))
def mH:List Tm->List Tm
 | []=>[]
 | [x]=>[x]
 | x::_::r=>x::mH r
def zR(x:Tm):Bool:=!(decide (x.kind=6)&&decide (x.text=[36]))&&(!decide (x.kind=8)||(mH x.kids).all vW)
def mF(sg:Sig)(p:Tm):Bool:=(Tm.val 60 p 0).isSome&&(fC sg p&&(!pM sg p&&(decide (pS [p]=[])&&p.pre.all zR)))
def aK(a b:Option Fault):Option Fault:=match a with
 | none=>b
 | some f=>some f
def bS{α:Type}(f:α->Option Fault):List α->Option Fault
 | []=>none
 | x::r=>aK (f x) (bS f r)
def bH(b:Bool)(f:Fault):Option Fault:=if b=true then some f else none
def lH(sg:Sig)(n:aC)(l c:Int)(ts:List Tm):Option Fault:=bH (!ts.all (fC sg)) ⟨16,n,l,c⟩
def jY(sg:Sig)(n:aC)(l c:Int)(t:Tm)(S:aC):Option Fault:=bH (!mZ sg (lU sg t) S) ⟨16,n,l,c⟩
def vS(l c:Int)(ts:List Tm):Option Fault:=bH (!decide (pS ts=[])) ⟨16,pS ts,l,c⟩
def uB(l c:Int)(lefts ts:List Tm):Option Fault:=bS (λs=>bH (decide (s=[95])||(decide (s=[36])||!decide (s∈iT lefts))) ⟨17,s,l,c⟩) (lI ts)
def lG(x:Eqn):aC:=if x.left.kind=5\/x.left.kind=6 then x.left.text else []
def xX(sg:Sig)(x:Eqn):Option Fault :=
 if x.left.kind=5 then match eN sg.funs x.left.text with
  | none=>some ⟨15,lG x,x.line,x.col⟩
  | some f =>
   aK (lH sg (lG x) x.line x.col (x.left::x.right::x.cond))
   (aK (bH (x.left.kids.any (pM sg)) ⟨16,lG x,x.line,x.col⟩)
   (aK (bH (!x.left.kids.all (mF sg)) ⟨16,lG x,x.line,x.col⟩)
   (aK (vS x.line x.col (x.right::x.cond++[x.left]))
   (aK (uB x.line x.col [x.left] (x.right::x.cond))
   (aK (bS (λt=>jY sg (lG x) x.line x.col t [66,111,111,108]) x.cond)
   (jY sg (lG x) x.line x.col x.right f.sort))))))
 else some ⟨15,lG x,x.line,x.col⟩
def yB(sg:Sig)(h:List aC)(x:Cel):Option Fault :=
 aK (if x.name∈h then some ⟨14,x.name,x.line,x.col⟩ else bH (!cR sg x.sort) ⟨13,x.name,x.line,x.col⟩)
 (aK (lH sg x.name x.line x.col [x.init]) (aK (jY sg x.name x.line x.col x.init x.sort)
 (bS (λs=>bH (!decide (s=[36])) ⟨17,s,x.line,x.col⟩) (lI [x.init]))))
def mW(sg:Sig):List aC->List Cel->Option Fault
 | _,[]=>none
 | h,x::r=>aK (yB sg h x) (mW sg (h++[x.name]) r)
def dJ(d:Dfn)(n:aC):aC × Bool × Bool:=match d.once.find? λx=>decide (x.name=n)with
 | some x=>(x.sort,false,true)
 | none=>match d.many.find? λx=>decide (x.name=n)with
  | some x=>(x.sort,true,true)
  | none=>([],false,false)
def xF(d:Dfn):Option Fault :=
 aK (bH (!cR d.sig d.start) ⟨13,d.start,0,0⟩)
 (aK (bH (!(dJ d d.watch).2.2||(dJ d d.watch).2.1) ⟨13,d.watch,0,0⟩)
 (aK (bH (!(decide (d.kind=[]) == decide (d.many.length=0))) ⟨15,d.kind,0,0⟩)
 (aK (bS (λo:Opr=>bH (decide (0<o.strict.length)&&(!(dJ d [107]).2.2||!decide ((dJ d [107]).1=[76,105,115,116]))) ⟨13,[107],0,0⟩) d.sig.ops)
 (bS (λo:Opr=>bH (decide (0<o.strict.length)&&vJ d.sig o.sort) ⟨16,o.name,0,0⟩) d.sig.ops))))
def zS(d:Dfn)(h:List Part)(x:Part):Option Fault :=
 if(dJ d x.cell).2.2=false then some ⟨13,x.cell,x.line,x.col⟩
 else if(dJ d x.cell).2.1≠!decide (x.at_=[]) then some ⟨15,x.cell,x.line,x.col⟩
 else if(h.any λy=>decide (y.cell=x.cell)&&decide (y.at_=x.at_))=true then some ⟨14,x.cell,x.line,x.col⟩
 else if mF d.sig x.left=false\/1<x.right.length then some ⟨16,x.cell,x.line,x.col⟩
 else aK (lH d.sig x.cell x.line x.col x.right) (bS (λt=>jY d.sig x.cell x.line x.col t (dJ d x.cell).1) (x.left::x.right))
def xD(d:Dfn):List Part->List Part->Option Fault
 | _,[]=>none
 | h,x::r=>aK (zS d h x) (xD d (h++[x]) r)
def rQ(d:Dfn)(n:aC)(l c:Int):List Tm->List Cel->Option Fault
 | t::r,x::m=>aK (lH d.sig n l c [t]) (aK (jY d.sig n l c t x.sort) (rQ d n l c r m))
 | _,_=>none
def mG(l c:Int):List aC->List aC->Option Fault
 | _,[]=>none
 | h,s::r=>aK (bH (decide (s∈h)) ⟨14,s,l,c⟩) (mG l c (h++[s]) r)
def uJ(d:Dfn)(r:Rul):Option Fault :=
 aK (bS (λx:Fresh=>bH (decide (d.kind=[])||!decide (x.cells.length=d.many.length)) ⟨15,r.name,r.line,r.col⟩) r.new)
 (aK (bS (λx:Fresh=>rQ d r.name r.line r.col x.cells d.many) r.new)
 (aK (bS (λs=>bH (!r.parts.any λx=>decide (x.at_=s)) ⟨13,s,r.line,r.col⟩) r.drop)
 (mG r.line r.col [] r.drop)))
def gC(r:Rul):List Tm:=r.parts.map Part.left
def eH(r:Rul):List Tm:=r.parts.flatMap Part.right++r.cond++r.new.flatMap Fresh.cells
def zU(d:Dfn)(h:List aC)(r:Rul):Option Fault :=
 if r.name∈h then some ⟨14,r.name,r.line,r.col⟩
 else if r.parts=[] then some ⟨15,r.name,r.line,r.col⟩
 else aK (xD d [] r.parts) (aK (vS r.line r.col (gC r++eH r)) (aK (uB r.line r.col (gC r) (eH r))
  (aK (bS (λt=>aK (lH d.sig r.name r.line r.col [t]) (jY d.sig r.name r.line r.col t [66,111,111,108])) r.cond) (uJ d r))))
def uG(d:Dfn):List aC->List Rul->Option Fault
 | _,[]=>none
 | h,r::l=>aK (zU d h r) (uG d (h++[r.name]) l)
def fL(x:Eqn):List Tm:=x.left::x.right::x.cond
def fX(r:Rul):List Tm:=r.parts.flatMap (λp=>p.left::p.right)++(r.cond++r.new.flatMap Fresh.cells)
def eD(d:Dfn):List Tm:=d.eqs.flatMap fL++((d.once++d.many).map Cel.init++d.rules.flatMap fX)
def mM(r:Rul):List aC:=r.name::r.drop++(r.parts.map Part.at_).filter λx=>!decide (x=[])
def hZ(d:Dfn):List aC:=[d.name,d.start,d.watch]++((if d.kind=[] then [] else [d.kind])++((d.once++d.many).map Cel.name++d.rules.flatMap mM))
def qU(d:Dfn):Bool :=
 !decide (12<d.once.length)&&(!decide (12<d.many.length)&&(!decide (300<d.rules.length)&&(!decide (300<d.eqs.length) &&
 ((d.eqs.all λx=>!decide (20<x.cond.length))&&((d.rules.all λr=>decide (r.parts.length<=20)&&(decide (r.cond.length<=20)&&(decide (r.new.length<=20)&&decide (r.drop.length<=20)))) &&
 ((hZ d).all cP&&(eD d).all λt=>(Tm.val 60 t 0).isSome))))))
def uA(d:Dfn):Option Fault :=
 if qU d=false then some ⟨2,[],0,0⟩
 else if qR d.sig=false then some ⟨16,[],0,0⟩
 else aK (bS (xX d.sig) d.eqs) (aK (mW d.sig [] (d.once++d.many)) (aK (xF d) (uG d [] d.rules)))
def sM(d:Dfn):Fault:=(uA d).getD Fault.none
def rO(d:Dfn):Bool:=decide ((sM d).code=0)
def jZ(l:List Opr)(n:aC):Option Opr:=l.find? λo=>decide (o.name=n)
theorem aBL:∀{l:List Opr} {n:aC} {o:Opr},eN l n=some o->o∈l/\o.name=n
 | x::r,n,o,h=>by
  simp only[eN]at h;cases m:eN r n with
  | some p =>
   rw[m]at h;cases h;obtain⟨u,y⟩:=aBL m;exact⟨eA _ u,y⟩
  | none =>
   rw[m]at h;simp only at h;split at h
   .cases h;exact⟨cQ ..,by assumption⟩
   .cases h
theorem aPo{l:List Opr}{n:aC}(h:∀o,o∈l->o.name≠n):eN l n=none:=by
 cases e:eN l n with
 | none=>rfl
 | some o=>obtain⟨m,u⟩:=aBL e;exact cV u (h o m)
theorem aDg{l:List Opr}(h:(l.map Opr.name).Nodup)(n:aC):jZ l n=eN l n:=by
 induction l with
 | nil=>rfl
 | cons o r z =>
  rw[bX,List.nodup_cons]at h;by_cases e:o.name=n
  .have u:eN r n=none:=aPo λp y m=>h.1 (by rw[e,<-m];exact cN.2 ⟨p,y,rfl⟩)
   simp only[jZ,List.find?_cons,eN,u,cT e,aF e]
  .have:=z h.2;unfold jZ at this;simp only[jZ,List.find?_cons,eN,bR e,aD e,this];cases eN r n<;>rfl
def sL(sg:Sig)(a b:aC):Bool:=decide (b=[65,110,121])||decide (b∈pU sg.below a)
def xJ(sg:Sig)(a b:aC):Bool:=sL sg a b||sL sg b a
theorem aGp{sg:Sig}{a b:aC}(h:cR sg a=true):sL sg a b=vM sg a b:=by
 unfold sL vM zF;rw[aF (fT h)]
theorem aLn{sg:Sig}{a b:aC}(h:cR sg a=true)(m:cR sg b=true):xJ sg a b=mZ sg a b:=by
 unfold xJ mZ;rw[aGp h,aGp m]
def tS(sg:Sig)(a:aC):Bool:=sg.values.any λv=>sL sg a v
theorem aQz{sg:Sig}{a:aC}(h:cR sg a=true):tS sg a=vJ sg a:=by
 unfold tS vJ;simp only[aGp h]
def aCp(sg:Sig):Bool:=(sg.sorts.all λa=>cP a&&!decide (a∈kR))&&(decide (sg.sorts.length<=40)&&decide sg.sorts.Nodup)
def aCl(sg:Sig):Bool :=
 ((sg.below.all λb=>cR sg b.low&&(!decide (b.low=[65,110,121])&&decide (b.high∈sg.sorts)))&&decide sg.below.Nodup)&&((sg.below.all λb=>!decide (b.low∈pU sg.below b.high))&&decide (sg.below.length<=200))
def aAP(x:aC):Bool:=(decide (1<=x.length)&&decide (x.length<=20))&&(cP x||x.all oQ)
def wR(p:Piece):Bool:=!(!decide (p.sort=[])&&!decide (p.text=[]))&&(!decide (p.sort=[])||aAP p.text)
def aAI(o:Opr):Bool:=(o.pieces.all wR)&&(if o.pieces.length=0 then decide (o.prec=0)&&decide (o.assoc=0) else
 decide (o.pieces.length<=20)&&(eX (λa b=>decide (a=b)) ((o.pieces.map Piece.sort).filter (λx=>!decide (x=[]))) o.args&&((decide (0<=o.prec)&&decide (o.prec<=20))&&((decide (0<=o.assoc)&&decide (o.assoc<=2))&&(decide (0<o.prec)||decide (o.assoc=0))))))
def aAH(o:Opr):Bool:=(o.strict.all λi=>decide (1<=i)&&decide (i<=o.args.length))&&decide o.strict.Nodup
def tY(sg:Sig)(o:Opr):Bool:=o.args.all (cR sg)&&decide (o.args.length<=8)
def yF(sg:Sig)(o:Opr):Bool:=rU o.name&&(!decide (o.name∈gY)&&(tY sg o&&(decide (o.sort∈sg.sorts)&&(aAI o&&aAH o))))
def xZ(sg:Sig)(o:Opr):Bool:=cP o.name&&(!decide (o.name∈gY)&&(tY sg o&&(cR sg o.sort&&(decide (o.pieces.length=0)&&(decide (o.prec=0)&&(decide (o.assoc=0)&&decide (o.strict.length=0)))))))
def aCM(sg:Sig):Bool:=(sg.ops.all (yF sg)&&sg.funs.all (xZ sg))&&(decide (sg.ops.length+sg.funs.length<=200)&&decide (sg.ops.map Opr.name++sg.funs.map Opr.name).Nodup)
def aAT(sg:Sig):Bool :=
 (!decide (40<sg.sorts.length)&&(!decide (200<sg.below.length)&&!decide (200<sg.ops.length+sg.funs.length)))&&((aCp sg&&(aCl sg&&aCM sg))&&(sg.values.all (cR sg)&&decide sg.values.Nodup))
theorem aTe(x:aC)(h:x≠[])(m:x.length<=20):vL x=x.all oQ:=by
 unfold vL;rw[bR h,bR (show¬ 20<x.length by omega)];rfl
theorem aTl(p:Piece):wR p=vK p:=by
 unfold wR vK aAP;by_cases u:p.sort=[]
 .rw[cT u];by_cases h:p.text=[]
  .rw[h];decide
  .have y:1<=p.text.length:=List.length_pos_iff.2 h;rw[bR h,cT y];by_cases m:p.text.length<=20
   .rw[aTe _ h m,cT m,bR (show¬ 20<p.text.length by omega)];cases cP p.text<;>cases p.text.all oQ<;>rfl
   .have z:vL p.text=false:=by unfold vL;rw[cT (show 20<p.text.length by omega)];simp
    rw[z,bR m,cT (show 20<p.text.length by omega)];cases cP p.text<;>cases p.text.all oQ<;>rfl
 .rw[bR u];by_cases h:p.text=[]
  .rw[h];decide
  .rw[bR h];simp
theorem aVo{sg:Sig}(o:Opr):yF sg o=vP sg o:=by
 have z:o.pieces.all wR=o.pieces.all vK:=by congr 1;funext p;exact aTl p
 unfold yF vP tY aAI aAH aDy;rw[z,gA];by_cases u:o.pieces.length=0
 .have y:o.pieces=[]:=eS u;simp only[u,dF,y,nK,bP,gV,bW,iY,fO,aZ,true_or,oI,gG];constructor
  .rintro⟨a,b,⟨c,d⟩,e,⟨f,g⟩,h⟩;exact⟨a,b,by omega,c,e,⟨⟨by omega,by omega⟩,.inr f⟩,⟨⟨by omega,by omega⟩,.inr g⟩,h⟩
  .rintro⟨a,b,d,c,e,⟨⟨B,G⟩,f⟩,⟨⟨g1,g2⟩,g⟩,h⟩;exact⟨a,b,⟨c,by omega⟩,e,⟨by omega,by omega⟩,h⟩
 .simp only[aD u,bP,gV,bW,iY,fO];constructor
  .rintro⟨a,b,⟨c,d⟩,e,⟨f,g,h,⟨i,j⟩,⟨k,l⟩,m⟩,n,q⟩;exact⟨a,b,by omega,c,e,⟨⟨i,j⟩,by omega⟩,⟨⟨k,l⟩,m⟩,n,q,.inr ⟨f,by omega,h⟩⟩
  .rintro⟨a,b,d,c,e,⟨⟨i,j⟩,_⟩,⟨⟨k,l⟩,m⟩,n,q,h⟩;rcases h with h|⟨f,g,h⟩
   .exact cV h u
   .exact⟨a,b,⟨c,by omega⟩,e,⟨f,by omega,h,⟨i,j⟩,⟨k,l⟩,m⟩,n,q⟩
theorem aUN{sg:Sig}(o:Opr):xZ sg o=xG sg o:=by
 unfold xZ xG tY;rw[gA];simp only[bP,bW,iY,fO];constructor
 .rintro⟨a,b,⟨c,d⟩,e⟩;exact⟨a,b,by omega,c,e⟩
 .rintro⟨a,b,d,c,e⟩;exact⟨a,b,⟨c,by omega⟩,e⟩
theorem aTb(sg:Sig):aAT sg=qR sg:=by
 have ho:sg.ops.all (yF sg)=sg.ops.all (vP sg):=by congr 1;funext p;exact aVo p
 have hf:sg.funs.all (xZ sg)=sg.funs.all (xG sg):=by congr 1;funext p;exact aUN p
 unfold aAT qR aCp aCl aCM;rw[ho,hf,gA];simp only[bP,bW,iY,fO,dE];constructor
 .rintro⟨⟨u,a2,a3⟩,⟨⟨b1,b2,y⟩,⟨⟨c1,z⟩,c3,c4⟩,⟨B,G⟩,d3,H⟩,M,O⟩;refine⟨u,a2,a3,z,O,y,λx h=>?_,H,λx h=>?_,M,B,G⟩
  .have:=b1 x h;unfold zE;simp only[bP,iY,fO];exact this
  .obtain⟨S,U,m⟩:=c1 x h;unfold yV zF;have hh:x.high∈nN sg:=mA _ m;simp only[bP,iY,fO,bW,aF hh];exact⟨U,S,m,c3 x h⟩
 .rintro⟨u,a2,a3,z,O,y,f1,H,g1,M,B,G⟩
  have k:∀x,x∈sg.below->(cR sg x.low=true/\¬ x.low=[65,110,121]/\x.high∈sg.sorts)/\¬ x.low∈pU sg.below x.high:=λx h=>by
   have:=g1 x h;unfold yV zF at this;simp only[bP,iY,fO,bW]at this;obtain⟨S,U,m,Z⟩:=this;rw[aF (show x.high∈nN sg from mA _ m)]at Z;exact⟨⟨U,S,m⟩,Z⟩
  refine⟨⟨u,a2,a3⟩,⟨⟨λx h=>?_,by omega,y⟩,⟨⟨λx h=>(k x h).1,z⟩,λx h=>(k x h).2,by omega⟩,⟨B,G⟩,by omega,H⟩,M,O⟩;have:=f1 x h;unfold zE at this;simpa using this
section
def vT(sg:Sig)(n:aC):Option (List aC × aC):=match jZ sg.ops n with
 | some o=>some (o.args,o.sort)
 | none=>match jZ sg.funs n with
  | some o=>some (o.args,o.sort)
  | none=>if n∈gY then some (zQ n,aA0 n) else none
def iN(sg:Sig)(t:Tm):aC × Bool :=
 if t.kind=1 then([73,110,116],true) else if t.kind=2 then([66,111,111,108],true) else if t.kind=3 then([84,101,120,116],true) else if t.kind=4 then([73,100],true) else if t.kind=7 then([76,105,115,116],true) else if t.kind=8 then([77,97,112],true)
 else if t.kind=6 then(t.sort,cR sg t.sort) else match vT sg t.text with
  | some p=>(p.2,true)
  | none=>([],false)
def xO(sg:Sig)(n:aC):List aC:=match vT sg n with
 | some p=>p.1
 | none=>[]
def xR(sg:Sig):List Tm->List aC->Bool
 | t::r,a::l=>xJ sg (iN sg t).1 a&&xR sg r l
 | _,_=>true
def aD7(sg:Sig)(t:Tm):Bool:=!decide (t.kind=5)||(decide ((xO sg t.text).length=t.kids.length)&&xR sg t.kids (xO sg t.text))
mutual
def pY(sg:Sig):Tm->Bool
 | .mk k n x y ks rs=>(iN sg (.mk k n x y ks rs)).2&&(aEd sg ks&&aD7 sg (.mk k n x y ks rs))
def aEd(sg:Sig):List Tm->Bool
 | []=>true
 | t::r=>pY sg t&&aEd sg r
end
theorem aGI(sg:Sig)(t:Tm):pY sg t=((iN sg t).2&&(t.kids.all (pY sg)&&aD7 sg t)):=by
 have h:∀l:List Tm,aEd sg l=l.all (pY sg):=by
  intro l
  induction l with
  | nil=>rfl
  | cons x r m=>simp only[aEd,m,fG]
 cases t;simp only[pY,h,Tm.kids]
structure SigOk (sg:Sig):Prop where
 no:(sg.ops.map Opr.name).Nodup
 nf:(sg.funs.map Opr.name).Nodup
 op:∀o,o∈sg.ops->cR sg o.sort=true/\∀a,a∈o.args->cR sg a=true
 fn:∀o,o∈sg.funs->cR sg o.sort=true/\∀a,a∈o.args->cR sg a=true
 nd:∀a b,a∈sg.ops->b∈sg.funs->a.name≠b.name
theorem aU8{sg:Sig}(h:qR sg=true):SigOk sg:=by
 unfold qR at h;simp only[bP,bW,dE]at h;obtain⟨_,_,_,_,_,_,_,m,_,_,u,y⟩:=h;rw[List.nodup_append]at m;refine⟨m.1,m.2.1,λo ho=>?_,λo ho=>?_,λa b z B e=>m.2.2 a.name (cN.2 ⟨a,z,rfl⟩) b.name (cN.2 ⟨b,B,rfl⟩) e⟩
 .have:=u o ho;unfold vP at this;simp only[bP,bW,dE]at this;exact⟨cT (mA _ this.2.2.2.2.1),this.2.2.2.1⟩
 .have:=y o ho;unfold xG at this;simp only[bP,bW,dE]at this;exact⟨this.2.2.2.2.1,this.2.2.2.1⟩
theorem vF(sg:Sig){a:aC}(h:a∈kR):cR sg a=true:=cT (iX _ h)
theorem aSn(n:aC):aA0 n∈kR:=by
 unfold aA0
 repeat' split
 all_goals decide
def aK4:List (List aC):=[[[73,110,116],[73,110,116]],[[73,110,116]],[[65,110,121],[65,110,121]],[[66,111,111,108],[66,111,111,108]],[[66,111,111,108]],[[66,111,111,108],[65,110,121],[65,110,121]],[[84,101,120,116],[84,101,120,116]],[[76,105,115,116]],[[76,105,115,116],[76,105,115,116]],[[77,97,112],[65,110,121]],[[77,97,112],[65,110,121],[65,110,121]],[[77,97,112]],[[65,110,121],[84,101,120,116]],[[65,110,121]]]
theorem aUI{α:Type}{p:Prop} [Decidable p] {a b:α} {L:List α} (m:a∈L) (u:b∈L):(if p then a else b)∈L:=by
 by_cases h:p
 .rw[aF h];exact m
 .rw[aD h];exact u
theorem aSr(n:aC):zQ n∈aK4:=by
 unfold zQ
 repeat (refine aUI dM ?_)
 decide
theorem aSw(n:aC):∀a,a∈zQ n->a∈kR:=by
 have k:(aK4.all λl=>l.all λa=>decide (a∈kR))=true:=by decide
 intro a h;exact fT (dE.1 (dE.1 k _ (aSr n)) a h)
section
variable {sg:Sig}
theorem aFN(h:SigOk sg)(n:aC):vT sg n=if(hU sg n).2.2=true then some ((hU sg n).1.args,(hU sg n).1.sort) else none:=by
 unfold vT hU;rw[aDg h.no,aDg h.nf];cases eN sg.ops n with
 | some o=>rfl
 | none =>
  cases eN sg.funs n with
  | some o=>rfl
  | none =>
   by_cases m:n∈gY
   .simp only[aF m,dF];rfl
   .simp only[aD m];rfl
theorem aKe(h:SigOk sg){n:aC}(m:(hU sg n).2.2=true):cR sg (hU sg n).1.sort=true/\∀a,a∈(hU sg n).1.args->cR sg a=true:=by
 unfold hU at m⊢;cases u:eN sg.ops n with
 | some o=>exact h.op o (aBL u).1
 | none =>
  rw[u]at m;simp only at m⊢;cases y:eN sg.funs n with
  | some o=>exact h.fn o (aBL y).1
  | none =>
   rw[y]at m;simp only at m⊢;by_cases z:n∈gY
   .rw[aF z];exact⟨vF sg (aSn n),λa B=>vF sg (aSw n a B)⟩
   .rw[aD z]at m;cases m
theorem aMZ(h:SigOk sg){t:Tm}(y:1<=t.kind/\t.kind<=8)(ho:(iN sg t).2=true):cR sg (iN sg t).1=true/\lU sg t=(iN sg t).1:=by
 have u:t.kind=1\/t.kind=2\/t.kind=3\/t.kind=4\/t.kind=5\/t.kind=6\/t.kind=7\/t.kind=8:=by omega
 unfold iN at ho⊢;unfold lU;rcases u with e|e|e|e|e|e|e|e<;>simp only[e,dF,reduceIte,(by decide:¬ (2:Int)=1),(by decide:¬ (3:Int)=1),(by decide:¬ (3:Int)=2),(by decide:¬ (4:Int)=1),(by decide:¬ (4:Int)=2),(by decide:¬ (4:Int)=3),(by decide:¬ (5:Int)=1),(by decide:¬ (5:Int)=2),(by decide:¬ (5:Int)=3),(by decide:¬ (5:Int)=4),(by decide:¬ (5:Int)=7),(by decide:¬ (5:Int)=8),(by decide:¬ (5:Int)=6),(by decide:¬ (6:Int)=1),(by decide:¬ (6:Int)=2),(by decide:¬ (6:Int)=3),(by decide:¬ (6:Int)=4),(by decide:¬ (6:Int)=7),(by decide:¬ (6:Int)=8),(by decide:¬ (6:Int)=5),(by decide:¬ (7:Int)=1),(by decide:¬ (7:Int)=2),(by decide:¬ (7:Int)=3),(by decide:¬ (7:Int)=4),(by decide:¬ (8:Int)=1),(by decide:¬ (8:Int)=2),(by decide:¬ (8:Int)=3),(by decide:¬ (8:Int)=4),(by decide:¬ (8:Int)=7)]at ho⊢
 .exact⟨vF sg dM,trivial⟩
 .exact⟨vF sg dM,trivial⟩
 .exact⟨vF sg dM,trivial⟩
 .exact⟨vF sg dM,trivial⟩
 .rw[aFN h]at ho⊢;cases m:(hU sg t.text).2.2 with
  | false=>rw[m]at ho;cases ho
  | true=>exact⟨(aKe h m).1,rfl⟩
 .exact⟨ho,by rw[aF ho]⟩
 .exact⟨vF sg dM,trivial⟩
 .exact⟨vF sg dM,trivial⟩
theorem aPV(h:SigOk sg){n:aC}(m:(hU sg n).2.2=true):xO sg n=(hU sg n).1.args:=by
 unfold xO;rw[aFN h,aF m]
theorem aLS(h:SigOk sg):∀{ks:List Tm} {l:List aC},(∀k,k∈ks->(1<=k.kind/\k.kind<=8)/\(iN sg k).2=true)->(∀a,a∈l->cR sg a=true)->xR sg ks l=nP sg ks l
 | [],l,_,_=>by cases l<;>rfl
 | k::r,[],_,_=>rfl
 | k::r,a::l,u,hl=>by
  obtain⟨y,z⟩:=u k (cQ ..);obtain⟨B,G⟩:=aMZ h y z;simp only[xR,nP];rw[G,aLn B (hl a (cQ ..)),aLS h (λx m=>u x (eA _ m)) (λx m=>hl x (eA _ m))]
def KindOk(t:Tm):Prop:=∀x,x∈t.pre->1<=x.kind/\x.kind<=8
theorem KindOk.kid{t k:Tm}(h:KindOk t)(m:k∈t.kids):KindOk k:=λx u=>h x (by
 rw[iJ];refine eA _ ?_
 have:∀l:List Tm,k∈l->x∈aY l:=by
  intro l
  induction l with
  | nil=>intro h;cases h
  | cons y r z =>
   intro h;simp only[aY];rcases List.mem_cons.1 h with rfl|h
   .exact iX _ u
   .exact mA _ (z h)
 exact this _ (iX _ m))
theorem KindOk.self{t:Tm}(h:KindOk t):1<=t.kind/\t.kind<=8:=h t (by rw[iJ];exact cQ ..)
theorem aL9{t:Tm}(h:pY sg t=true):(iN sg t).2=true:=by
 rw[aGI]at h;simp only[bP]at h;exact h.1
theorem aMd(h:SigOk sg)(N:Nat):∀t:Tm,SizeOf.sizeOf t<N->KindOk t->pY sg t=fC sg t:=by
 induction N with
 | zero=>intro t h;omega
 | succ N Z =>
  intro t ht M;have m:∀k,k∈t.kids->pY sg k=fC sg k:=λk z=>Z k (by have:=mT z;omega) (M.kid z)
  have y:t.kids.all (pY sg)=t.kids.all (fC sg):=by
   rw[gA];simp only[dE];exact⟨λH k u=>by rw[<-m k u];exact H k u,λH k u=>by rw[m k u];exact H k u⟩
  rw[aGI,aLF,y];have hs:=M.self;cases U:t.kids.all (fC sg)with
  | false=>simp
  | true =>
   have O:∀k,k∈t.kids->(1<=k.kind/\k.kind<=8)/\(iN sg k).2=true:=λk u=>⟨(M.kid u).self,aL9 (by rw[m k u];exact dE.1 U k u)⟩
   simp only[dW];unfold aD7 aEq;by_cases B:t.kind=5
   .rw[aD aB,aF B,cT B]
    have ho:(iN sg t).2=(hU sg t.text).2.2:=by
     unfold iN;rw[aD aB,aD aB,aD aB,aD aB,aD aB,aD aB,aD aB,aFN h];cases (hU sg t.text).2.2<;>rfl
    rw[ho];cases S:(hU sg t.text).2.2 with
    | false=>rfl
    | true =>
     rw[aPV h S,aLS h O (aKe h S).2];simp
   .rw[bR B,aD B];by_cases G:t.kind=6
    .rw[aF G]
     have ho:(iN sg t).2=cR sg t.sort:=by
      unfold iN;rw[aD aB,aD aB,aD aB,aD aB,aD aB,aD aB,aF G]
     rw[ho];simp
    .rw[aD G]
     have ho:(iN sg t).2=true:=by
      unfold iN
      repeat' split
      all_goals first|rfl|omega
     rw[ho];rfl
end
end
def sU:Nat->Tm->Nat->Option Nat
 | 0,_,_=>none
 | k+1,t,m=>if(m+(1+t.rest.length)<=2000/\(t.rest.length=0\/1<=k))/\t.shape=true then jN (sU k) t.kids (m+(1+t.rest.length)) else none
def lJ:Nat->Tm->Bool
 | 0,_=>false
 | k+1,t=>t.shape&&((decide (t.rest.length=0)||decide (1<=k))&&t.kids.all (lJ k))
def nE:Nat->Tm->Nat
 | 0,_=>0
 | k+1,t=>1+t.rest.length+(t.kids.map (nE k)).sum
def aBe(b:Bool)(n:Nat):Option Nat:=match b with
 | true=>some n
 | false=>none
theorem aCs{b:Bool}{n m:Nat}(h:b=true)(e:m=n):aBe b n=some m:=by rw[h,e];rfl
theorem xH{b:Bool}{n:Nat}(h:¬ b=true):aBe b n=none:=by rw[jQ.2 h];rfl
theorem aG7{f:Tm->Nat->Option Nat}{ok:Tm->Bool}{c:Tm->Nat}{N:Nat}(h:∀t m,f t m=aBe (ok t&&decide (m+c t<=N)) (m+c t)) :
  ∀(l:List Tm) (m:Nat),m<=N->jN f l m=aBe (l.all ok&&decide (m+(l.map c).sum<=N)) (m+(l.map c).sum)
 | [],m,y=>by
  refine(aCs ?_ rfl).symm;simpa using y
 | t::r,m,y=>by
  simp only[jN,h];by_cases u:(ok t&&decide (m+c t<=N))=true
  .rw[aCs u rfl];simp only[bP,bW]at u;simp only[sG];rw[aG7 h r _ u.2];simp only[fG,bX,List.sum_cons,u.1,dW,nY]
  .rw[xH u,xH]
   .rfl
   .simp only[fG,bP,bX,List.sum_cons,bW]at u⊢;rintro⟨z,B⟩;exact u ⟨z.1,by omega⟩
theorem aLt(k:Nat):∀t m,sU k t m=aBe (lJ k t&&decide (m+nE k t<=2000)) (m+nE k t):=by
 induction k with
 | zero=>intro t m;rfl
 | succ k B =>
  intro t m;rw[sU];by_cases h:(m+(1+t.rest.length)<=2000/\(t.rest.length=0\/1<=k))/\t.shape=true
  .rw[aF h,aG7 B _ _ h.1.1]
   have e:lJ (k+1) t=t.kids.all (lJ k):=by
    have u:(decide (t.rest.length=0)||decide (1<=k))=true:=gQ h.1.2;rw[lJ,h.2,u];rfl
   rw[e,nE,nY]
  .rw[aD h,xH];simp only[lJ,nE,bP,gV,bW];rintro⟨⟨u,z,G⟩,y⟩;have y:=fT y;exact h ⟨⟨by omega,z⟩,u⟩
theorem aHd(k:Nat):∀t m,Tm.val k t m=aBe (lJ k t&&decide (m+nE k t<=2000)) (m+nE k t):=by
 induction k with
 | zero=>intro t m;rfl
 | succ k M =>
  intro t m;rw[Tm.val];by_cases B:m+1<=2000
  ·rw[aF B];by_cases y:t.shape=true
   ·rw[aF y,aG7 M _ _ B];by_cases u:(t.kids.all (lJ k)&&decide (m+1+(t.kids.map (nE k)).sum≤2000))=true
    .rw[aCs u rfl];simp only[bP,bW]at u;simp only[sG,zW];by_cases G:t.rest.length=0
     .rw[aF G];refine(aCs ?_ ?_).symm
      .simp only[lJ,nE,y,u.1,G,bP,gV,bW];exact⟨⟨trivial,.inl trivial,trivial⟩,by first|omega|exact cT aB⟩
      .rw[nE];omega
     .rw[aD G];by_cases H:0<k/\m+1+(t.kids.map (nE k)).sum+t.rest.length<=2000
      .rw[aF H];refine(aCs ?_ ?_).symm
       .simp only[lJ,nE,y,u.1,bP,gV,bW];exact⟨⟨trivial,.inr aB,trivial⟩,cT aB⟩
       .rw[nE];omega
      .rw[aD H,xH];simp only[lJ,nE,bP,gV,bW];rintro⟨⟨_,z,_⟩,h⟩;have h:=fT h;exact H ⟨by omega,by omega⟩
    .rw[xH u,xH]
     .rfl
     .simp only[lJ,nE,bP,gV,bW]at u⊢;rintro⟨⟨_,_,z⟩,h⟩;have h:=fT h;exact u ⟨z,by omega⟩
   .rw[aD y,xH];simp only[lJ,bP];rintro⟨⟨z,_⟩,_⟩;exact y z
  .rw[aD B,xH];simp only[nE,bP,bW];rintro⟨_,h⟩;have h:=fT h;omega
theorem aSp(t:Tm):(sU 60 t 0).isSome=(Tm.val 60 t 0).isSome:=by rw[aLt,aHd]
theorem aQu{t:Tm}(h:t.shape=true):1<=t.kind/\t.kind<=8:=by
 unfold Tm.shape at h
 repeat' (split at h)
 all_goals first|omega|(cases h)
theorem aBK{t:Tm}(h:t.shape=true):∀y,y∈t.rest->y.kind=6/\y.kids=[]/\y.rest=[]:=by
 have u:t.leaf=true->t.rest=[]:=λh=>by
  unfold Tm.leaf at h;simp only[bP,bW]at h;exact eS h.2
 have B:∀S,t.shR S=true->∀y,y∈t.rest->y.kind=6/\y.kids=[]/\y.rest=[]:=λS h y m=>by
  unfold Tm.shR at h;cases G:t.rest with
  | nil=>rw[G]at m;cases m
  | cons r l =>
   rw[G]at h m;simp only[bP,bW]at h;obtain⟨H,M,z,O⟩:=h;have hl:=eS H;subst hl;rw[bO.1 m];unfold Tm.shV Tm.leaf at z;simp only[bP,bW]at z;exact⟨M,eS z.1.1.1,eS z.1.1.2⟩
 intro y m;unfold Tm.shape at h;split at h
 .simp only[bP]at h;rw[u h.1.1]at m;cases m
 split at h
 .simp only[bP]at h;rw[u h.1.1]at m;cases m
 split at h
 .simp only[bP]at h;rw[u h.1.1]at m;cases m
 split at h
 .simp only[bP]at h;rw[u h.1.1]at m;cases m
 split at h
 .simp only[bP,bW]at h;rw[eS h.1.2.2]at m;cases m
 split at h
 .unfold Tm.shV at h;simp only[bP]at h;rw[u h.1.1]at m;cases m
 split at h
 .simp only[bP]at h;exact B _ h.1 y m
 split at h
 .simp only[bP]at h;exact B _ h.1.1 y m
 .cases h
theorem aR6(k:Nat):∀t,lJ k t=true->KindOk t:=by
 induction k with
 | zero=>intro t h;cases h
 | succ k U =>
  intro t h x B;simp only[lJ,bP,dE]at h;obtain⟨O,h2,S⟩:=h;rw[iJ]at B;rcases List.mem_cons.1 B with rfl|B
  .exact aQu O
  .have M:∀l:List Tm,x∈aY l->∃y,y∈l/\x∈y.pre:=by
    intro l
    induction l with
    | nil=>intro h;cases h
    | cons y r H =>
     intro h;simp only[aY]at h;rcases cK.1 h with h|h
     .exact⟨y,cQ ..,h⟩
     .obtain⟨z,hz,G⟩:=H h;exact⟨z,eA _ hz,G⟩
   obtain⟨y,u,m⟩:=M _ B;rcases cK.1 u with u|u
   .exact U y (S y u) x m
   .obtain⟨Z,q2,q3⟩:=aBK O y u;rw[iJ,q2,q3]at m;simp only[dK,aY,bO]at m;rw[m,Z];decide
theorem aGw{t:Tm}(h:(Tm.val 60 t 0).isSome=true):KindOk t:=by
 rw[aHd]at h;refine aR6 60 t ?_;cases e:lJ 60 t with
 | true=>rfl
 | false=>rw[e]at h;cases h
theorem wJ{α:Type}{m:List (List α)}{i:Nat}{a:List α}(h:m[i]?=some a):(m.take (i+1)).flatten=(m.take i).flatten++a/\(m.take (i+1)).flatten.length<=m.flatten.length:=by
 refine⟨by rw[gJ,h];simp,?_⟩;have:m.flatten.length=((m.take (i+1)).flatten++(m.drop (i+1)).flatten).length:=by rw[<-List.flatten_append,mQ]
 rw[this,aH];omega
instance : Inhabited Tm := ⟨.mk 0 0 [] [] [] []⟩
instance : Inhabited Opr := ⟨mI⟩
instance : Inhabited Cel := ⟨⟨[],[],default,0,0⟩⟩
theorem aOY(n:Nat)(H:n<=4294967296)(s:St)(KV Kp:St->A->Prop)(y:∀tk,(∀t,tk=some t->s.getT t=none)->KV (gs s tk 0 9) (gv tk [])):Den cx 129 [.nils,.int .i64 (n:Nat)] KV Kp s:=by
 have z:decide ((n:Int)<0)=false:=by rw[fO];omega
 have G:IntKind.i64.wrap ((n:Int)-IntKind.i64.wrap (0-0))=(n:Int):=by rw[show IntKind.i64.wrap (0-0)=0 by decide,fV _ aB aB];omega
 (refine aN func129 [0,1,4,6,16] ?_;simp only[go_sem,ntmps129,f129]);simp only[go_sem,z];rw[G];cases n with
 | zero =>
  have m:decide ((0:Int)<((0:Nat):Int))=false:=by decide
  simp only[go_sem,m];exact aP (y none (λt h=>by cases h))
 | succ n =>
  have m:decide ((0:Int)<((n+1:Nat):Int))=true:=by rw[bW];omega
  simp only[go_sem,m,uM];refine⟨⟨by omega,by omega,by decide⟩,λt B=>?_⟩;simp only[go_sem];exact aP (y (some t) (λu h=>by cases h;exact B))
theorem aOc(B:List (List aC))(hn:B.flatten.length<=4294967296)(s:St)(KV Kp:St->A->Prop)(hk:KV s (.list none (B.flatten.map A.str))):Den cx 72 [.list none (B.map λl=>.list none (l.map A.str))] KV Kp s:=by
 refine hH λb0=>?_
 have U:=b0 _ (cQ ..);clear b0;(refine aN func72 rX ?_;simp only[go_sem,ntmps72,f72])
 refine Ex.loop (ι:=Nat) (λi=>[(0,.list none (B.map λl=>.list none (l.map A.str))),(3,.int .i64 ((B.take i).flatten.length:Nat)),(9,.list none (B.map λl=>.list none (l.map A.str))),(10,.int .i64 (B.length:Nat)),(11,.int .i64 (i:Nat))])
  (λ_=>s) (λi=>i<=B.length) (λi=>B.length-i) 0 (aW _) ?_ (aE _) ?_
 .simp only[go_sem];exact⟨rfl,rfl⟩
 .intro i hi;refine aX (V:=rX) _ _ _ _ ?_;simp only[go_sem]
  (apply aJ<;>intro h)<;>simp only[go_sem,h]
  .have m:i<B.length:=gQ h;clear h;obtain⟨a,O⟩:=bB m;obtain⟨M,H⟩:=wJ O
   have w2:IntKind.i64.wrap (((B.take i).flatten.length:Int)+(a.length:Int))=(((B.take (i+1)).flatten.length:Nat):Int):=by
    rw[M,aH,fV _ aB (by rw[M,aH]at H;omega)];omega
   have d0:decide ((((B.take (i+1)).flatten.length:Nat):Int)<0)=false:=by rw[fO];omega
   simp only[go_sem,O,m,w2,d0];exact⟨i+1,m,by omega,⟨rfl,U.wrap (i:=i) (gQ m)⟩,aE _⟩
  .have m:i=B.length:=by have:¬ i<B.length:=gQ h;omega
   subst m;clear h;rw[bT];refine aOY _ hn _ _ _ (λtk S=>?_);simp only[go_sem];clear hi
   refine Ex.loop (ι:=Nat × Option Nat) (λk=>[(6,gv k.2 ((B.take k.1).flatten.map A.str)),(25,.list none (B.map λl=>.list none (l.map A.str))),(26,.int .i64 (B.length:Nat)),(27,.int .i64 (k.1:Nat))])
    (λk=>gs s k.2 (B.take k.1).flatten.length 9) (λk=>k.1<=B.length/\(k.2=none->(B.take k.1).flatten=[])/\∀t,k.2=some t->s.getT t=none) (λk=>B.length-k.1) (0,tk) ⟨aW _,λ_=>rfl,S⟩ ?_ (aE _) ?_
   .simp only[go_sem];exact⟨by cases tk<;>rfl,rfl⟩
   .rintro⟨i,tk⟩ ⟨hi,G,S⟩;simp only at hi G S;refine aX (V:=rX) _ _ _ _ ?_;simp only[go_sem]
    (apply aJ<;>intro h)<;>simp only[go_sem,h]
    .have m:i<B.length:=gQ h;clear h;obtain⟨a,O⟩:=bB m;obtain⟨M,H⟩:=wJ O
     have hz:∀(l:List aC) (y:A),y∈l.map A.str->y.cells.length=(A.cells (A.str default)).length:=λl y Z=>by
      obtain⟨z,_,rfl⟩:=cN.1 Z
      first|rfl|(simp only[cY];rfl)
     simp only[go_sem,O,m];refine⟨by decide,λy Z=>hz a y Z,dU rfl rfl (by rw[aO];exact fD λe=>by rw[G e];rfl) (λy Z=>hz _ y Z) (by rw[M,aH]at H;simp only[aO];omega) (λu hu=>?_)⟩;have b1:=iD hu S;rw[gR hu];simp only[go_sem];refine⟨(i+1,some u),⟨m,λh=>(by cases h),λt h=>by cases h;exact b1⟩,aQ,⟨?_,U.wrap (i:=i) (gQ m)⟩,?_⟩
     .rw[M,bU];rfl
     .rw[M];simp only[gs,aO,aH];exact aE _
    .have m:i=B.length:=by have:¬ i<B.length:=gQ h;omega
     subst m;rw[bT]at G⊢;exact DK.mk hk (fR (aE _) S) (kJ _ _ (λe=>by rw[G e];rfl))
theorem aP1(n:Nat)(H:n<=4294967296)(s:St)(KV Kp:St->A->Prop)(y:∀tk,(∀t,tk=some t->s.getT t=none)->KV (gs s tk 0 67) (gv tk [])):Den cx 145 [.nils,.int .i64 (n:Nat)] KV Kp s:=by
 have z:decide ((n:Int)<0)=false:=by rw[fO];omega
 have G:IntKind.i64.wrap ((n:Int)-IntKind.i64.wrap (0-0))=(n:Int):=by rw[show IntKind.i64.wrap (0-0)=0 by decide,fV _ aB aB];omega
 (refine aN func145 [0,1,4,6,16] ?_;simp only[go_sem,ntmps145,f145]);simp only[go_sem,z];rw[G];cases n with
 | zero =>
  have m:decide ((0:Int)<((0:Nat):Int))=false:=by decide
  simp only[go_sem,m];exact aP (y none (λt h=>by cases h))
 | succ n =>
  have m:decide ((0:Int)<((n+1:Nat):Int))=true:=by rw[bW];omega
  simp only[go_sem,m,uM];refine⟨⟨by omega,by omega,by decide⟩,λt B=>?_⟩;simp only[go_sem];exact aP (y (some t) (λu h=>by cases h;exact B))
theorem aIo(B:List (List Tm))(hn:B.flatten.length<=4294967296)(s:St)(KV Kp:St->A->Prop)(hk:KV s (.list none (B.flatten.map Tm.enc))):Den cx 85 [.list none (B.map λl=>.list none (l.map Tm.enc))] KV Kp s:=by
 refine hH λb0=>?_
 have U:=b0 _ (cQ ..);clear b0;(refine aN func85 rX ?_;simp only[go_sem,ntmps85,f85])
 refine Ex.loop (ι:=Nat) (λi=>[(0,.list none (B.map λl=>.list none (l.map Tm.enc))),(3,.int .i64 ((B.take i).flatten.length:Nat)),(9,.list none (B.map λl=>.list none (l.map Tm.enc))),(10,.int .i64 (B.length:Nat)),(11,.int .i64 (i:Nat))])
  (λ_=>s) (λi=>i<=B.length) (λi=>B.length-i) 0 (aW _) ?_ (aE _) ?_
 .simp only[go_sem];exact⟨rfl,rfl⟩
 .intro i hi;refine aX (V:=rX) _ _ _ _ ?_;simp only[go_sem]
  (apply aJ<;>intro h)<;>simp only[go_sem,h]
  .have m:i<B.length:=gQ h;clear h;obtain⟨a,O⟩:=bB m;obtain⟨M,H⟩:=wJ O
   have w2:IntKind.i64.wrap (((B.take i).flatten.length:Int)+(a.length:Int))=(((B.take (i+1)).flatten.length:Nat):Int):=by
    rw[M,aH,fV _ aB (by rw[M,aH]at H;omega)];omega
   have d0:decide ((((B.take (i+1)).flatten.length:Nat):Int)<0)=false:=by rw[fO];omega
   simp only[go_sem,O,m,w2,d0];exact⟨i+1,m,by omega,⟨rfl,U.wrap (i:=i) (gQ m)⟩,aE _⟩
  .have m:i=B.length:=by have:¬ i<B.length:=gQ h;omega
   subst m;clear h;rw[bT];refine aP1 _ hn _ _ _ (λtk S=>?_);simp only[go_sem];clear hi
   refine Ex.loop (ι:=Nat × Option Nat) (λk=>[(6,gv k.2 ((B.take k.1).flatten.map Tm.enc)),(25,.list none (B.map λl=>.list none (l.map Tm.enc))),(26,.int .i64 (B.length:Nat)),(27,.int .i64 (k.1:Nat))])
    (λk=>gs s k.2 (B.take k.1).flatten.length 67) (λk=>k.1<=B.length/\(k.2=none->(B.take k.1).flatten=[])/\∀t,k.2=some t->s.getT t=none) (λk=>B.length-k.1) (0,tk) ⟨aW _,λ_=>rfl,S⟩ ?_ (aE _) ?_
   .simp only[go_sem];exact⟨by cases tk<;>rfl,rfl⟩
   .rintro⟨i,tk⟩ ⟨hi,G,S⟩;simp only at hi G S;refine aX (V:=rX) _ _ _ _ ?_;simp only[go_sem]
    (apply aJ<;>intro h)<;>simp only[go_sem,h]
    .have m:i<B.length:=gQ h;clear h;obtain⟨a,O⟩:=bB m;obtain⟨M,H⟩:=wJ O
     have hz:∀(l:List Tm) (y:A),y∈l.map Tm.enc->y.cells.length=(A.cells (Tm.enc default)).length:=λl y Z=>by
      obtain⟨z,_,rfl⟩:=cN.1 Z
      first|rfl|(simp only[cY];rfl)
     simp only[go_sem,O,m];refine⟨by decide,λy Z=>hz a y Z,dU rfl rfl (by rw[aO];exact fD λe=>by rw[G e];rfl) (λy Z=>hz _ y Z) (by rw[M,aH]at H;simp only[aO];omega) (λu hu=>?_)⟩;have b1:=iD hu S;rw[gR hu];simp only[go_sem];refine⟨(i+1,some u),⟨m,λh=>(by cases h),λt h=>by cases h;exact b1⟩,aQ,⟨?_,U.wrap (i:=i) (gQ m)⟩,?_⟩
     .rw[M,bU];rfl
     .rw[M];simp only[gs,aO,aH];exact aE _
    .have m:i=B.length:=by have:¬ i<B.length:=gQ h;omega
     subst m;rw[bT]at G⊢;exact DK.mk hk (fR (aE _) S) (kJ _ _ (λe=>by rw[G e];rfl))
theorem aPl(n:Nat)(H:n<=4294967296)(s:St)(KV Kp:St->A->Prop)(y:∀tk,(∀t,tk=some t->s.getT t=none)->KV (gs s tk 0 96) (gv tk [])):Den cx 139 [.nils,.int .i64 (n:Nat)] KV Kp s:=by
 have z:decide ((n:Int)<0)=false:=by rw[fO];omega
 have G:IntKind.i64.wrap ((n:Int)-IntKind.i64.wrap (0-0))=(n:Int):=by rw[show IntKind.i64.wrap (0-0)=0 by decide,fV _ aB aB];omega
 (refine aN func139 [0,1,4,6,16] ?_;simp only[go_sem,ntmps139,f139]);simp only[go_sem,z];rw[G];cases n with
 | zero =>
  have m:decide ((0:Int)<((0:Nat):Int))=false:=by decide
  simp only[go_sem,m];exact aP (y none (λt h=>by cases h))
 | succ n =>
  have m:decide ((0:Int)<((n+1:Nat):Int))=true:=by rw[bW];omega
  simp only[go_sem,m,uM];refine⟨⟨by omega,by omega,by decide⟩,λt B=>?_⟩;simp only[go_sem];exact aP (y (some t) (λu h=>by cases h;exact B))
theorem aFE(B:List (List Cel))(hn:B.flatten.length<=4294967296)(s:St)(KV Kp:St->A->Prop)(hk:KV s (.list none (B.flatten.map Cel.enc))):Den cx 80 [.list none (B.map λl=>.list none (l.map Cel.enc))] KV Kp s:=by
 refine hH λb0=>?_
 have U:=b0 _ (cQ ..);clear b0;(refine aN func80 rX ?_;simp only[go_sem,ntmps80,f80])
 refine Ex.loop (ι:=Nat) (λi=>[(0,.list none (B.map λl=>.list none (l.map Cel.enc))),(3,.int .i64 ((B.take i).flatten.length:Nat)),(9,.list none (B.map λl=>.list none (l.map Cel.enc))),(10,.int .i64 (B.length:Nat)),(11,.int .i64 (i:Nat))])
  (λ_=>s) (λi=>i<=B.length) (λi=>B.length-i) 0 (aW _) ?_ (aE _) ?_
 .simp only[go_sem];exact⟨rfl,rfl⟩
 .intro i hi;refine aX (V:=rX) _ _ _ _ ?_;simp only[go_sem]
  (apply aJ<;>intro h)<;>simp only[go_sem,h]
  .have m:i<B.length:=gQ h;clear h;obtain⟨a,O⟩:=bB m;obtain⟨M,H⟩:=wJ O
   have w2:IntKind.i64.wrap (((B.take i).flatten.length:Int)+(a.length:Int))=(((B.take (i+1)).flatten.length:Nat):Int):=by
    rw[M,aH,fV _ aB (by rw[M,aH]at H;omega)];omega
   have d0:decide ((((B.take (i+1)).flatten.length:Nat):Int)<0)=false:=by rw[fO];omega
   simp only[go_sem,O,m,w2,d0];exact⟨i+1,m,by omega,⟨rfl,U.wrap (i:=i) (gQ m)⟩,aE _⟩
  .have m:i=B.length:=by have:¬ i<B.length:=gQ h;omega
   subst m;clear h;rw[bT];refine aPl _ hn _ _ _ (λtk S=>?_);simp only[go_sem];clear hi
   refine Ex.loop (ι:=Nat × Option Nat) (λk=>[(6,gv k.2 ((B.take k.1).flatten.map Cel.enc)),(25,.list none (B.map λl=>.list none (l.map Cel.enc))),(26,.int .i64 (B.length:Nat)),(27,.int .i64 (k.1:Nat))])
    (λk=>gs s k.2 (B.take k.1).flatten.length 96) (λk=>k.1<=B.length/\(k.2=none->(B.take k.1).flatten=[])/\∀t,k.2=some t->s.getT t=none) (λk=>B.length-k.1) (0,tk) ⟨aW _,λ_=>rfl,S⟩ ?_ (aE _) ?_
   .simp only[go_sem];exact⟨by cases tk<;>rfl,rfl⟩
   .rintro⟨i,tk⟩ ⟨hi,G,S⟩;simp only at hi G S;refine aX (V:=rX) _ _ _ _ ?_;simp only[go_sem]
    (apply aJ<;>intro h)<;>simp only[go_sem,h]
    .have m:i<B.length:=gQ h;clear h;obtain⟨a,O⟩:=bB m;obtain⟨M,H⟩:=wJ O
     have hz:∀(l:List Cel) (y:A),y∈l.map Cel.enc->y.cells.length=(A.cells (Cel.enc default)).length:=λl y Z=>by
      obtain⟨z,_,rfl⟩:=cN.1 Z
      first|rfl|(simp only[cY];rfl)
     simp only[go_sem,O,m];refine⟨by decide,λy Z=>hz a y Z,dU rfl rfl (by rw[aO];exact fD λe=>by rw[G e];rfl) (λy Z=>hz _ y Z) (by rw[M,aH]at H;simp only[aO];omega) (λu hu=>?_)⟩;have b1:=iD hu S;rw[gR hu];simp only[go_sem];refine⟨(i+1,some u),⟨m,λh=>(by cases h),λt h=>by cases h;exact b1⟩,aQ,⟨?_,U.wrap (i:=i) (gQ m)⟩,?_⟩
     .rw[M,bU];rfl
     .rw[M];simp only[gs,aO,aH];exact aE _
    .have m:i=B.length:=by have:¬ i<B.length:=gQ h;omega
     subst m;rw[bT]at G⊢;exact DK.mk hk (fR (aE _) S) (kJ _ _ (λe=>by rw[G e];rfl))
theorem gX(a b:List Tm):aY (a++b)=aY a++aY b:=by
 induction a with
 | nil=>rfl
 | cons x r h=>simp only[dY,aY,h,eG]
theorem aTw(t:Tm):1<=t.pre.length:=by rw[iJ];simp
theorem lO(l:List Tm):l.length<=(aY l).length:=by
 induction l with
 | nil=>exact aW _
 | cons x r h=>have:=aTw x;simp only[aY,aH,aV];omega
theorem aBW{l:List Tm}{i:Nat}{x:Tm}(h:l[i]?=some x):aY (l.take (i+1))=aY (l.take i)++x.pre:=by
 rw[gJ,h,gX];simp only[Option.toList,aY,dK]
theorem aBR{l:List Tm}{i:Nat}{x:Tm}(h:l[i]?=some x):(aY (l.drop i)).length=x.pre.length+(aY (l.drop (i+1))).length:=by
 obtain⟨m,rfl⟩:=dZ.1 h;rw[oZ m];simp only[aY,aH]
def Keep{h:Type}(Ow:h->Nat->Prop)(s:St)(v:h)(s':St)(m:h):Prop:=∀q o,s.getO q=some o->¬ Ow v q->s'.getO q=some o/\¬ Ow m q
theorem Keep.refl{m:Type}{Ow:m->Nat->Prop}(s:St)(v:m):Keep Ow s v s v:=λq o h n=>⟨h,n⟩
theorem Keep.trans{z:Type}{Ow:z->Nat->Prop}{s s' m:St}{v y u:z}(h:Keep Ow s v s' y)(B:Keep Ow s' y m u):Keep Ow s v m u:=λq o x n=>by
 obtain⟨a,b⟩:=h q o x n;exact B q o a b
theorem Keep.ge{m:Type}{Ow:m->Nat->Prop}{s s':St}(h:s'.ge s)(v:m):Keep Ow s v s' v:=λq o x n=>⟨h.ob q o x,n⟩
structure WalkOk {σ τ:Type} (step:σ->Tm->σ) (I:Nat->σ->τ->St->Prop) (Ow:τ->Nat->Prop) (f:FuncId) (caps:List A):Prop where
 st:∀{n a v s s'},I n a v s->s'.ge s->I n a v s'
 fr:∀{n a v s q},I n a v s->s.getO q=none->¬ Ow v q
 go:∀(n:Nat) (a:σ) (v:τ) (x:Tm) (deep:Int) (s:St) (KV Kp:St->A->Prop),x.kids.length+x.rest.length<=4294967296->I (n+1) a v s->(∀s' v',I n (step a x) v' s'->Keep Ow s v s' v'->KV s' (.tuple []))->Den cx f ([]++[.agg x.cs,.int .i64 deep]++caps) KV Kp s
theorem aPe{σ τ:Type}{step:σ->Tm->σ}{I:Nat->σ->τ->St->Prop}{Ow:τ->Nat->Prop}{f:FuncId}{z:List A}(W:WalkOk step I Ow f z)(m:Nat) :
  ∀(t:Tm) (u:Int) (n:Nat) (a:σ) (v:τ) (s:St) (KV Kp:St->A->Prop),SizeOf.sizeOf t<m->t.pre.length<=4294967296->I (t.pre.length+n) a v s ->
   (∀s' v',I n (t.pre.foldl step a) v' s'->Keep Ow s v s' v'->KV s' (.tuple []))->Den cx 103 [.agg t.cs,.int .i64 u,.fn f [] z] KV Kp s:=by
 induction m with
 | zero=>intro t u n a v s KV Kp hm;omega
 | succ m ih =>
 intro t u n a v s KV Kp hm hb hI hk;have S:=iJ t;generalize hL:t.kids++t.rest=L at S;have b8:t.pre.length=1+(aY L).length:=by rw[S,aV];omega
 have b7:=lO L
 have b5:∀x,x∈L->SizeOf.sizeOf x<SizeOf.sizeOf t:=λx y=>by
  rw[<-hL]at y;rcases cK.1 y with y|y
  .exact mT y
  .exact vB y
 (refine aN func103 [0,1,2,3,7,17,18,19,20] ?_;simp only[go_sem,ntmps103,f103]);(refine aM λp hp=>?_);simp only[go_sem,hp]
 have b0:I (((aY L).length+n)+1) a v (s.setO p (.cells 67 t.cs)):=by
  rw[show(aY L).length+n+1=t.pre.length+n by omega];exact W.st hI (bG hp (aE s))
 refine W.go _ a v t u _ _ _ (by rw[<-aH,hL];omega) b0 (λs2 v2 b1 G=>?_);obtain⟨g2,o2⟩:=G p (.cells 67 t.cs) (by simp only[aL,dF];rfl) (W.fr hI hp);have G:Keep Ow s v s2 v2:=(Keep.ge (bG hp (aE s)) v).trans G;simp only[Tm.cs]at g2;simp only[go_sem,g2];refine aIo [t.kids,t.rest] (by simp only[mB,pB,dK,hL];omega) _ _ _ ?_;simp only[mB,pB,dK,hL];simp only[go_sem,g2]
 refine Ex.loop (ι:=Nat × σ × τ × St) (λc=>[(1,.int .i64 u),(2,.fn f [] z),(3,.ptr p 0),(17,.list none (L.map Tm.enc)),(18,.int .i64 (L.length:Nat)),(19,.int .i64 (c.1:Nat))])
  (λc=>c.2.2.2) (λc=>c.1<=L.length/\c.2.1=(aY (L.take c.1)).foldl step (step a t)/\I ((aY (L.drop c.1)).length+n) c.2.1 c.2.2.1 c.2.2.2/\Keep Ow s v c.2.2.2 c.2.2.1) (λc=>L.length-c.1)
  (0,step a t,v2,s2) ⟨aW _,rfl,gQ b1,G⟩ ?_ (aE _) ?_
 .simp only[go_sem]
  try exact rfl
 .rintro⟨i,a3,v3,s3⟩ ⟨hi,H,B,O⟩;simp only at hi H B O;refine aX (V:=[0,1,2,3,7,17,18,19,20]) _ _ _ _ ?_;simp only[go_sem]
  (apply aJ<;>intro h)<;>simp only[go_sem,h]
  .have M:i<L.length:=gQ h;clear h;obtain⟨x,y⟩:=bB M;have b6:x∈L:=bK y;have bb:=b5 x b6;have U:=aBR y;have Z:=aBW y
   have b9:x.pre.length<=(aY L).length:=by
    have e:aY L=aY (L.take i)++aY (L.drop i):=by rw[<-gX,mQ]
    have:=lE List.length e;rw[aH,U]at this;omega
   simp only[go_sem,y,M];(refine aM λq hq=>?_);simp only[go_sem,y,M,hq];refine ih x _ ((aY (L.drop (i+1))).length+n) a3 v3 _ _ _ aB aB ?_ (λs4 v4 b2 b3=>?_)
   .rw[<-nY,<-U];exact W.st B (bG hq (aE _))
   .simp only[go_sem];refine⟨(i+1,_,v4,s4),⟨M,by rw[Z,rI,<-H],b2,O.trans ((Keep.ge (bG hq (aE _)) v3).trans b3)⟩,aQ,aU i aB,aE _⟩
  .have b4:i=L.length:=by have:¬ i<L.length:=gQ h;omega
   subst b4;rw[bT]at H;rw[dP (bJ _)]at B;refine aP (hk s3 v3 ?_ O);rw[S,pD,<-H];simpa [aY]using B
theorem aAl{σ u:Type}{step:σ->Tm->σ}{I:Nat->σ->u->St->Prop}{Ow:u->Nat->Prop}{f:FuncId}{h:List A}(W:WalkOk step I Ow f h)
  (t:Tm)(m:Int)(n:Nat)(a:σ)(v:u)(s:St)(KV Kp:St->A->Prop)(B:t.pre.length<=4294967296)(z:I (t.pre.length+n) a v s)
  (G:∀s' y,I n (t.pre.foldl step a) y s'->Keep Ow s v s' y->KV s' (.tuple [])):Den cx 103 [.agg t.cs,.int .i64 m,.fn f [] h] KV Kp s :=
 aPe W _ t m n a v s KV Kp (fZ _) B z G
theorem mV{x:Tm}:∀{l:List Tm},x∈aY l↔∃y,y∈l/\x∈y.pre
 | []=>⟨λh=>(by cases h),λ⟨_,h,_⟩=>(by cases h)⟩
 | y::r=>by
  rw[aY,cK,mV (l:=r)];constructor
  .rintro(h|⟨z,m,u⟩)
   .exact⟨y,cQ ..,h⟩
   .exact⟨z,eA _ m,u⟩
  .rintro⟨z,m,u⟩;rcases List.mem_cons.1 m with rfl|m
   .exact .inl u
   .exact .inr ⟨z,m,u⟩
def Shaped(t:Tm):Prop:=∀x,x∈t.pre->x.shape=true
theorem Shaped.self{t:Tm}(h:Shaped t):t.shape=true:=h t (by rw[iJ];exact cQ ..)
theorem Shaped.kid{t k:Tm}(h:Shaped t)(m:k∈t.kids):Shaped k:=λx u=>h x (by
 rw[iJ];exact eA _ (mV.2 ⟨k,iX _ m,u⟩))
theorem Shaped.rst{t k:Tm}(h:Shaped t)(m:k∈t.rest):Shaped k:=λx u=>h x (by
 rw[iJ];exact eA _ (mV.2 ⟨k,mA _ m,u⟩))
theorem aGk{t:Tm}(h:t.shape=true)(e:t.kind=6):t.kids=[]/\t.rest=[]/\t.n=0/\(cP t.text=true\/t.text=[95]\/t.text=[36]):=by
 unfold Tm.shape at h;rw[aD aB,aD aB,aD aB,aD aB,aD aB,aF e]at h;unfold Tm.shV Tm.leaf Tm.opn at h;simp only[bP,gV,bW]at h;obtain⟨⟨⟨u,y⟩,m⟩,z⟩:=h;refine⟨eS u,eS y,z,?_⟩;rcases m with m|m
 .exact .inl m.1
 .exact .inr m.1
theorem aKr{t:Tm}{S:aC}(h:t.shR S=true):∀y,y∈t.rest->y.kind=6/\y.shV=true:=by
 intro y m;unfold Tm.shR at h;cases u:t.rest with
 | nil=>rw[u]at m;cases m
 | cons r l =>
  rw[u]at h m;simp only[bP,bW]at h;obtain⟨z,B,G,H⟩:=h;have hl:=eS z;subst hl;rw[bO.1 m];exact⟨B,G⟩
theorem aPd{t:Tm}(h:t.shape=true):∀y,y∈t.rest->y.kind=6/\y.shape=true:=by
 intro y m;have z:=aBK h y m;refine⟨z.1,?_⟩
 have key:y.shV=true:=by
  have u:t.leaf=true->y.shV=true:=λh=>by
   unfold Tm.leaf at h;simp only[bP,bW]at h;rw[eS h.2]at m;cases m
  unfold Tm.shape at h;split at h
  .simp only[bP]at h;exact u h.1.1
  split at h
  .simp only[bP]at h;exact u h.1.1
  split at h
  .simp only[bP]at h;exact u h.1.1
  split at h
  .simp only[bP]at h;exact u h.1.1
  split at h
  .simp only[bP,bW]at h;rw[eS h.1.2.2]at m;cases m
  split at h
  .unfold Tm.shV at h;simp only[bP]at h;exact u h.1.1
  split at h
  .simp only[bP]at h;exact(aKr h.1 y m).2
  split at h
  .simp only[bP]at h;exact(aKr h.1.1 y m).2
  .cases h
 unfold Tm.shape;rw[aD aB,aD aB,aD aB,aD aB,aD aB,aF z.1];exact key
theorem aQb(k:Nat):∀t,lJ k t=true->Shaped t:=by
 induction k with
 | zero=>intro t h;cases h
 | succ k H =>
  intro t h x z;simp only[lJ,bP,dE]at h;obtain⟨B,S,G⟩:=h;rw[iJ]at z;rcases List.mem_cons.1 z with rfl|z
  .exact B
  .obtain⟨y,u,m⟩:=mV.1 z;rcases cK.1 u with u|u
   .exact H y (G y u) x m
   .obtain⟨U,M,O⟩:=aBK B y u;rw[iJ,M,O]at m;simp only[dK,aY,bO]at m;rw[m];exact(aPd B y u).2
theorem aDc{t:Tm}(h:(Tm.val 60 t 0).isSome=true):Shaped t:=by
 rw[aHd]at h;refine aQb 60 t ?_;cases e:lJ 60 t with
 | true=>rfl
 | false=>rw[e]at h;cases h
mutual
def jK(sg:Sig):Tm->Bool
 | .mk k n x y ks rs=>(decide (k=5)&&(jZ sg.ops x).isNone)||aDH sg ks
def aDH(sg:Sig):List Tm->Bool
 | []=>false
 | t::r=>jK sg t||aDH sg r
end
theorem aJI(sg:Sig)(t:Tm):jK sg t=((decide (t.kind=5)&&(jZ sg.ops t.text).isNone)||t.kids.any (jK sg)):=by
 have h:∀l:List Tm,aDH sg l=l.any (jK sg):=by
  intro l
  induction l with
  | nil=>rfl
  | cons x r m=>simp only[aDH,m,pF]
 cases t;simp only[jK,h];rfl
theorem aQm(sg:Sig)(n:aC):(hU sg n).2.1=(eN sg.ops n).isNone:=by
 unfold hU;cases eN sg.ops n with
 | some o=>rfl
 | none =>
  cases eN sg.funs n with
  | some o=>rfl
  | none=>simp only;split<;>rfl
theorem aQ8{sg:Sig}(h:SigOk sg)(N:Nat):∀t:Tm,SizeOf.sizeOf t<N->Shaped t->jK sg t=pM sg t:=by
 induction N with
 | zero=>intro t h;omega
 | succ N O =>
  intro t ht H;unfold pM;rw[aJI,iJ,pF,gA]
  have M:(decide (t.kind=5)&&(jZ sg.ops t.text).isNone)=yZ sg t:=by
   unfold yZ;rw[aQm,aDg h.no]
  rw[M,gV,gV,jS,jS];have m:∀k,k∈t.kids->jK sg k=k.pre.any (yZ sg):=λk G=>O k (by have:=mT G;omega) (H.kid G)
  constructor
  .rintro(u|⟨k,u,z⟩)
   .exact .inl u
   .rw[m k u,jS]at z;obtain⟨x,y,B⟩:=z;exact .inr ⟨x,mV.2 ⟨k,iX _ u,y⟩,B⟩
  .rintro(u|⟨x,u,z⟩)
   .exact .inl u
   .obtain⟨k,y,B⟩:=mV.1 u;rcases cK.1 y with y|y
    .exact .inr ⟨k,y,by rw[m k y,jS];exact⟨x,B,z⟩⟩
    .obtain⟨S,U,Z⟩:=aBK H.self k y;rw[iJ,U,Z]at B;simp only[dK,aY,bO]at B;rw[B,yZ,S]at z;simp at z
def nG(x:Tm):Bool:=decide (x.kind=6)&&!decide (x.text=[95])
def jH(l:List Tm):List Tm:=(aY l).filter nG
def nC(out:List Tm)(t:Tm):List Tm:=if(out.any λv=>v.same t)=true then out else out++[t]
mutual
def eF:Tm->List Tm->List Tm
 | .mk k n x y ks rs,out=>if(decide (k=6)&&!decide (x=[95]))=true then nC out (.mk k n x y ks rs) else aCz rs (aCz ks out)
def aCz:List Tm->List Tm->List Tm
 | [],out=>out
 | t::r,out=>aCz r (eF t out)
end
theorem aKN:∀(l out:List Tm),aCz l out=l.foldl (λo t=>eF t o) out
 | [],_=>rfl
 | t::r,out=>by rw[aCz,aKN r];rfl
theorem aG4(t:Tm)(out:List Tm):eF t out=if nG t=true then nC out t else t.rest.foldl (λo t=>eF t o) (t.kids.foldl (λo t=>eF t o) out):=by
 cases t;simp only[eF,aKN];rfl
theorem aQ3(t:Tm)(r:List Tm):jH (t::r)=jH [t]++jH r:=by
 unfold jH;simp only[aY,dK,List.filter_append]
theorem aDi{P:Tm->Prop}(h:∀t,P t->∀out,eF t out=(jH [t]).foldl nC out):∀(l:List Tm),(∀t,t∈l->P t)->∀out,l.foldl (λo t=>eF t o) out=(jH l).foldl nC out
 | [],_,_=>rfl
 | t::r,hl,out=>by
  rw[pD,aDi h r (λx m=>hl x (eA _ m)),h t (hl t (cQ ..)),aQ3 t r,rI]
theorem aSZ(N:Nat):∀t:Tm,SizeOf.sizeOf t<N->Shaped t->∀out,eF t out=(jH [t]).foldl nC out:=by
 induction N with
 | zero=>intro t h;omega
 | succ N z =>
  intro t H y out;rw[aG4]
  have e:jH [t]=(if nG t=true then [t] else [])++(jH t.kids++jH t.rest):=by
   unfold jH;rw[aY,aY,dK,iJ,List.filter_cons,gX,List.filter_append];split<;>rfl
  by_cases m:nG t=true
  .rw[aF m,e,aF m];unfold nG at m;simp only[bP,bW]at m;obtain⟨B,G,_⟩:=aGk y.self m.1;rw[B,G];rfl
  .rw[aD m,e,aD m,dD,rI];rw[aDi (P:=λt=>SizeOf.sizeOf t<N/\Shaped t) (λt h=>z t h.1 h.2) t.kids λk u=>⟨by have:=mT u;omega,y.kid u⟩];rw[aDi (P:=λt=>SizeOf.sizeOf t<N/\Shaped t) (λt h=>z t h.1 h.2) t.rest λk u=>⟨by have:=vB u;omega,y.rst u⟩]
def oH(l:List Tm):List Tm:=l.foldl (λo t=>eF t o) []
theorem aJt{l:List Tm}(h:∀t,t∈l->Shaped t):oH l=(jH l).foldl nC [] :=
 aDi (P:=Shaped) (λt m out=>aSZ _ t (fZ _) m out) l h []
def oT(vs:List Tm)(x:aC):Prop:=∃a b,a∈vs/\b∈vs/\a.text=x/\b.text=x/\a.sort≠b.sort
def wC(t:Tm):Prop:=t.kind=6/\t.kids=[]/\t.rest=[]/\t.n=0/\t.text≠[]
theorem aEb{l:List Tm}(h:∀t,t∈l->Shaped t):∀v,v∈jH l->wC v:=by
 intro v y;unfold jH at y;rw[List.mem_filter]at y;obtain⟨t,M,O⟩:=mV.1 y.1;have H:=h t M v O;have u:=y.2;unfold nG at u;simp only[bP,bW]at u;obtain⟨z,B,G,m⟩:=aGk H u.1;refine⟨u.1,z,B,G,λe=>?_⟩;rw[e]at m;rcases m with m|m|m
 .exact cV m dM
 .cases m
 .cases m
theorem aLw{a b:Tm}(B:wC a)(G:wC b):a.same b=true↔a.text=b.text/\a.sort=b.sort:=by
 obtain⟨h,a2,a3,a4,_⟩:=B;obtain⟨m,u,y,z,_⟩:=G;cases a;cases b;simp only[Tm.kind,Tm.kids,Tm.rest,Tm.n]at h a2 a3 a4 m u y z;subst h a2 a3 a4 m u y z;simp[Tm.same,aAD,Tm.text,Tm.sort]
theorem aBU{vs:List Tm}{y:Tm}{x:aC}:oT (vs++[y]) x↔oT vs x\/(x=y.text/\∃a,a∈vs/\a.text=x/\a.sort≠y.sort):=by
 constructor
 .rintro⟨a,b,m,u,B,G,z⟩;rw[cK,bO]at m u;rcases m with m|rfl
  .rcases u with u|rfl
   .exact .inl ⟨a,b,m,u,B,G,z⟩
   .exact .inr ⟨G.symm,a,m,B,z⟩
  .rcases u with u|rfl
   .exact .inr ⟨B.symm,b,u,G,λe=>z e.symm⟩
   .exact cV rfl z
 .rintro(⟨a,b,m,u,h⟩|⟨B,a,m,G,z⟩)
  .exact⟨a,b,iX _ m,iX _ u,h⟩
  .exact⟨a,y,iX _ m,mA _ (bO.2 rfl),G,B.symm,z⟩
structure DupI (seen out:List Tm):Prop where
 sub:∀x,x∈out->x∈seen
 cov:∀x,x∈seen->∃y,y∈out/\y.text=x.text/\y.sort=x.sort
 dup:∀x,2<=(out.map Tm.text).count x↔oT seen x
theorem DupI.step{B out:List Tm}{y:Tm}(h:DupI B out)(hv:∀v,v∈B->wC v)(hy:wC y):DupI (B++[y]) (nC out y):=by
 unfold nC;by_cases S:(out.any λv=>v.same y)=true
 .rw[aF S];rw[jS]at S;obtain⟨v,G,m⟩:=S;rw[aLw (hv v (h.sub v G)) hy]at m;refine⟨λx u=>iX _ (h.sub x u),λx u=>?_,λx=>?_⟩
  .rcases cK.1 u with u|u
   .exact h.cov x u
   .rw[bO.1 u];exact⟨v,G,m⟩
  .rw[h.dup,aBU];refine⟨.inl,λH=>H.elim id ?_⟩;rintro⟨e,a,ha,O,M⟩;exact⟨a,v,ha,h.sub v G,O,by rw[e,m.1],by rw[m.2];exact M⟩
 ·rw[aD S];have Z:∀ v,v∈out→¬ (v.text=y.text∧v.sort=y.sort):=fun v G e=>S (jS.2 ⟨v,G,(aLw (hv v (h.sub v G)) hy).2 e⟩)
  refine⟨λx u=>?_,λx u=>?_,λx=>?_⟩
  .rcases cK.1 u with u|u
   .exact iX _ (h.sub x u)
   .exact mA _ u
  .rcases cK.1 u with u|u
   .obtain⟨z,O,M⟩:=h.cov x u;exact⟨z,iX _ O,M⟩
   .rw[bO.1 u];exact⟨y,mA _ (bO.2 rfl),rfl,rfl⟩
  .rw[aBU,<-h.dup,bU,List.count_append,List.map_singleton,List.count_singleton];by_cases e:y.text=x
   .subst e;simp only[beq_self_eq_true,dF]
    have hc:1<=(out.map Tm.text).count y.text↔∃a,a∈B/\a.text=y.text/\a.sort≠y.sort:=by
     rw[Nat.one_le_iff_ne_zero,Ne,List.count_eq_zero,Classical.not_not,cN];constructor
     .rintro⟨v,O,M⟩;exact⟨v,h.sub v O,M,λU=>Z v O ⟨M,U⟩⟩
     .rintro⟨a,O,M,h3⟩;obtain⟨v,h4,h5,_⟩:=h.cov a O;exact⟨v,h4,by rw[h5,M]⟩
    constructor
    .intro H;by_cases M:2<=(out.map Tm.text).count y.text
     .exact .inl M
     .exact .inr ⟨trivial,hc.1 aB⟩
    .rintro(H|⟨_,H⟩)
     .omega
     .have:=hc.2 H;omega
   .have U:(y.text == x)=false:=by simp[e]
    simp only[U,dA,cZ,lD];refine⟨.inl,λH=>H.elim id λH=>cV H.1.symm e⟩
theorem aHU:∀(vs m out:List Tm),DupI m out->(∀v,v∈m->wC v)->(∀v,v∈vs->wC v)->DupI (m++vs) (vs.foldl nC out)
 | [],m,out,h,_,_=>by rw[dK];exact h
 | y::r,m,out,h,B,z=>by
  have:=aHU r (m++[y]) (nC out y) (h.step B (z y (cQ ..))) (λv u=>by
   rcases cK.1 u with u|u
   .exact B v u
   .rw[bO.1 u];exact z y (cQ ..)) (λv u=>z v (eA _ u))
  rw[eG]at this;exact this
theorem aID{l:List Tm}(h:∀t,t∈l->Shaped t):∀x,2<=((oH l).map Tm.text).count x↔oT (jH l) x:=by
 rw[aJt h];have:=aHU (jH l) [] [] ⟨λx m=>(by cases m),λx m=>(by cases m),λx=>⟨λh=>by simp at h,λ⟨a,b,h,_⟩=>by cases h⟩⟩ (λv u=>by cases u) (aEb h);rw[dD]at this;exact this.dup
def MinC(vs:List Tm)(r:aC):Prop:=(r=[]/\∀x,¬ oT vs x)\/(r≠[]/\oT vs r/\∀x,oT vs x->r<=x)
theorem MinC.uniq{vs:List Tm}{r q:aC}(B:MinC vs r)(z:MinC vs q):r=q:=by
 rcases B with⟨u,a2⟩|⟨u,a2,a3⟩
 .rcases z with⟨m,h⟩|⟨m,h,y⟩
  .rw[u,m]
  .exact cV h (a2 _)
 .rcases z with⟨m,h⟩|⟨m,h,y⟩
  .exact cV a2 (h _)
  .exact List.le_antisymm (a3 _ h) (y _ a2)
theorem MinC.congr{vs H:List Tm}{r:aC}(h:MinC vs r)(e:∀v,v∈vs↔v∈H):MinC H r:=by
 have B:∀x,oT vs x↔oT H x:=λx=>⟨λ⟨a,b,u,y,z⟩=>⟨a,b,(e a).1 u,(e b).1 y,z⟩,λ⟨a,b,u,y,z⟩=>⟨a,b,(e a).2 u,(e b).2 y,z⟩⟩
 rcases h with⟨m,a2⟩|⟨m,a2,a3⟩
 .exact .inl ⟨m,λx G=>a2 x ((B x).2 G)⟩
 .exact .inr ⟨m,(B _).1 a2,λx G=>a3 x ((B x).2 G)⟩
theorem aCy(a b:aC):Go.Op.bytesLess a b=decide (a<b):=Go.Proofs.bytesLess_eq a b
structure TwI (seen:List Tm) (st:List (aC × aC) × aC):Prop where
 ass:∀x s,nR st.1 x=some s->∃a,a∈seen/\a.text=x/\a.sort=s
 cov:∀a,a∈seen->∃s,nR st.1 a.text=some s
 min:MinC seen st.2
theorem aF1:∀(m:List (aC × aC)) (k v x:aC),nR (m++[(k,v)]) x=match nR m x with
  | some s=>some s
  | none=>if k=x then some v else none
 | [],k,v,x=>rfl
 | (a,b)::r,k,v,x=>by
  simp only[dY,nR];by_cases h:a=x
  .simp only[aF h]
  .simp only[aD h,aF1 r]
theorem TwI.step{m:List Tm}{st:List (aC × aC) × aC}{y:Tm}(h:TwI m st)(hy:wC y)(hi:nG y=true):TwI (m++[y]) (uF st y):=by
 have b1:y.kind=6/\y.text≠[95]:=by
  unfold nG at hi;simpa using hi
 unfold uF;rw[aF b1];cases ho:nR st.1 y.text with
 | none =>
  have b2:∀a,a∈m->a.text≠y.text:=λa G e=>by
   obtain⟨s,z⟩:=h.cov a G;rw[e,ho]at z;cases z
  have M:∀x,oT (m++[y]) x↔oT m x:=λx=>by
   rw[aBU];exact⟨λH=>H.elim id λ⟨e,a,Z,O,_⟩=>cV (O.trans e) (b2 a Z),.inl⟩
  refine⟨λx s z=>?_,λa G=>?_,?_⟩
  .simp only[aF1]at z;cases u:nR st.1 x with
   | some s2 =>
    rw[u]at z;cases z;obtain⟨a,Z,O⟩:=h.ass x s u;exact⟨a,iX _ Z,O⟩
   | none =>
    rw[u]at z;simp only at z;split at z
    .cases z;exact⟨y,mA _ (bO.2 rfl),by assumption,rfl⟩
    .cases z
  .simp only[aF1];rcases cK.1 G with G|G
   .obtain⟨s,z⟩:=h.cov a G;exact⟨s,by rw[z]⟩
   .rw[bO.1 G,ho];exact⟨y.sort,aF rfl⟩
  .rcases h.min with⟨B,a2⟩|⟨B,a2,a3⟩
   .exact .inl ⟨B,λx u=>a2 x ((M x).1 u)⟩
   .exact .inr ⟨B,(M _).2 a2,λx u=>a3 x ((M x).1 u)⟩
 | some b0 =>
  obtain⟨a0,p1,p2,p3⟩:=h.ass _ _ ho
  have U:∀a,a∈m++[y]->∃s,nR st.1 a.text=some s:=λa G=>by
   rcases cK.1 G with G|G
   .exact h.cov a G
   .rw[bO.1 G];exact⟨b0,ho⟩
  have S:∀x s,nR st.1 x=some s->∃a,a∈m++[y]/\a.text=x/\a.sort=s:=λx s z=>by
   obtain⟨a,Z,O⟩:=h.ass x s z;exact⟨a,iX _ Z,O⟩
  by_cases e:b0=y.sort
  .have M:∀x,oT (m++[y]) x↔oT m x:=λx=>by
    rw[aBU];refine⟨λH=>H.elim id λ⟨e2,a,Z,O,h3⟩=>⟨a,a0,Z,p1,O,by rw[p2,e2],by rw[p3,e];exact h3⟩,.inl⟩
   simp only[dB,e,not_true_eq_false,oG,cZ];refine⟨S,U,?_⟩;rcases h.min with⟨B,a2⟩|⟨B,a2,a3⟩
   .exact .inl ⟨B,λx u=>a2 x ((M x).1 u)⟩
   .exact .inr ⟨B,(M _).2 a2,λx u=>a3 x ((M x).1 u)⟩
  .have M:∀x,oT (m++[y]) x↔oT m x\/x=y.text:=λx=>by
    rw[aBU];refine⟨λH=>H.elim .inl λH=>.inr H.1,λH=>H.elim .inl λe2=>.inr ⟨e2,a0,p1,by rw[p2,e2],by rw[p3];exact e⟩⟩
   simp only[dB,e,fY,gG];have hm:=h.min;by_cases hl:st.2=[]\/Go.Op.bytesLess y.text st.2=true
   .rw[aF hl];refine⟨S,U,.inr ⟨hy.2.2.2.2,(M _).2 (.inr rfl),λx u=>?_⟩⟩;rcases(M x).1 u with u|rfl
    .rcases hm with⟨B,a2⟩|⟨B,a2,a3⟩
     .exact cV u (a2 x)
     .rcases hl with hl|hl
      .exact cV hl B
      .rw[aCy,bW]at hl;exact List.le_trans (List.le_of_lt hl) (a3 x u)
    .exact List.le_refl _
   .rw[aD hl];have O:¬ st.2=[]:=λe=>hl (.inl e)
    have h3:st.2<=y.text:=by
     have:¬ y.text<st.2:=λq=>hl (.inr (by rw[aCy];exact cT q))
     exact List.not_lt.1 this
    refine⟨S,U,?_⟩;rcases hm with⟨B,a2⟩|⟨B,a2,a3⟩
    .exact cV B O
    .refine .inr ⟨B,(M _).2 (.inl a2),λx u=>?_⟩;rcases(M x).1 u with u|rfl
     .exact a3 x u
     .exact h3
theorem twI:∀(vs m:List Tm) (st:List (aC × aC) × aC),TwI m st->(∀v,v∈vs->nG v=true->wC v)->TwI (m++vs.filter nG) (vs.foldl uF st)
 | [],m,st,h,_=>by rw[List.filter_nil,dK];exact h
 | y::r,m,st,h,B=>by
  by_cases u:nG y=true
  .have:=twI r (m++[y]) (uF st y) (h.step (B y (cQ ..) u) u) (λv z=>B v (eA _ z));rw[eG]at this;rw[List.filter_cons,aF u];exact this
  .rw[List.filter_cons,aD u,pD]
   have e:uF st y=st:=by
    unfold uF;rw[aD];unfold nG at u;simpa using u
   rw[e];exact twI r m st h (λv z=>B v (eA _ z))
theorem aKw{l:List Tm}(h:∀t,t∈l->Shaped t):MinC (jH l) (pS l):=by
 have:=twI (aY l) [] ([],[]) ⟨λx s h=>(by cases h),λa h=>(by cases h),.inl ⟨rfl,λx ⟨a,b,h,_⟩=>by cases h⟩⟩ (λv u m=>aEb h v (List.mem_filter.2 ⟨u,m⟩));rw[dD]at this;exact this.min
def uN(v:Tm)(h:List Tm)(st:aC × Bool):aC × Bool:=h.foldl (λst w=>if v.text=w.text/\(st.2=false\/Go.Op.bytesLess v.text st.1=true) then(v.text,true) else st) st
def sY:List Tm->List Tm->aC × Bool->aC × Bool
 | _,[],st=>st
 | b,v::r,st=>sY (b++[v]) r (uN v b st)
def oW(l:List Tm):aC × Bool:=sY [] (oH l) ([],false)
theorem aLJ(v:Tm):∀(B:List Tm) (st:aC × Bool),uN v B st=if v.text∈B.map Tm.text/\(st.2=false\/v.text<st.1) then(v.text,true) else st
 | [],st=>by rw[aD (by rintro⟨h,_⟩;cases h)];rfl
 | w::r,st=>by
  have z:=aLJ v r;unfold uN at z⊢;rw[pD,z];have y:Go.Op.bytesLess v.text st.1=true↔v.text<st.1:=by rw[aCy,bW]
  simp only[y,bX,dG];by_cases m:st.2=false\/v.text<st.1
  .by_cases u:v.text=w.text
   .rw[aF (show v.text=w.text/\(st.2=false\/v.text<st.1) from⟨u,m⟩),aF (show(v.text=w.text\/v.text∈r.map Tm.text)/\(st.2=false\/v.text<st.1) from⟨.inl u,m⟩)];split<;>rfl
   .rw[aD (show¬ (v.text=w.text/\_) fromλh=>u h.1)];simp only[u,false_or]
  .rw[aD (show¬ (v.text=w.text/\_) fromλh=>m h.2),aD (λh=>m h.2),aD (λh=>m h.2)]
def aHQ(b:List Tm)(st:aC × Bool):Prop:=(st=([],false)/\∀x,¬ 2<=(b.map Tm.text).count x)\/(st.2=true/\2<=(b.map Tm.text).count st.1/\∀x,2<=(b.map Tm.text).count x->st.1<=x)
theorem aMB:∀(r b:List Tm) (st:aC × Bool),aHQ b st->aHQ (b++r) (sY b r st)
 | [],b,st,h=>by rw[dK];exact h
 | v::r,b,st,h=>by
  have B:∀x,2<=((b++[v]).map Tm.text).count x↔2<=(b.map Tm.text).count x\/(x=v.text/\v.text∈b.map Tm.text):=λx=>by
   rw[bU,List.count_append,List.map_singleton,List.count_singleton];by_cases e:v.text=x
   .subst e;simp only[beq_self_eq_true,dF,gG];rw[<-List.count_pos_iff];omega
   .have S:(v.text == x)=false:=by simp[e]
    simp only[S,dA,cZ,lD];exact⟨.inl,λH=>H.elim id λH=>cV H.1.symm e⟩
  have Z:aHQ (b++[v]) (uN v b st):=by
   rw[aLJ];by_cases z:v.text∈b.map Tm.text/\(st.2=false\/v.text<st.1)
   .rw[aF z];refine .inr ⟨rfl,(B _).2 (.inr ⟨rfl,z.1⟩),λx m=>?_⟩;rcases(B x).1 m with m|⟨rfl,_⟩
    .rcases h with⟨rfl,y⟩|⟨M,y,O⟩
     .exact cV m (y x)
     .rcases z.2 with G|G
      .rw[M]at G;cases G
      .exact List.le_trans (List.le_of_lt G) (O x m)
    .exact List.le_refl _
   .rw[aD z];rcases h with⟨rfl,y⟩|⟨M,y,O⟩
    .refine .inl ⟨rfl,λx m=>?_⟩;rcases(B x).1 m with u|⟨_,u⟩
     .exact y x u
     .exact z ⟨u,.inl rfl⟩
    .refine .inr ⟨M,(B _).2 (.inl y),λx m=>?_⟩;rcases(B x).1 m with u|⟨U,u⟩
     .exact O x u
     .rw[U];exact List.not_lt.1 λq=>z ⟨u,.inr q⟩
  have:=aMB r (b++[v]) (uN v b st) Z;rw[eG]at this;exact this
theorem aUG{l m:List Tm}(h:∀t,t∈l->Shaped t)(e:∀x,x∈l↔x∈m):oW l=(pS m,!decide (pS m=[])):=by
 have S:∀t,t∈m->Shaped t:=λt ht=>h t ((e t).2 ht)
 have H:MinC (jH l) (pS m):=(aKw S).congr λv=>by
  unfold jH;simp only[List.mem_filter,mV,e]
 have M:=aMB (oH l) [] ([],false) (.inl ⟨rfl,λx h=>by simp at h⟩);rw[dD]at M;have z:=aID h;show sY [] (oH l) ([],false)=_;rcases M with⟨u,a2⟩|⟨u,a2,a3⟩
 .have:MinC (jH l) []:=.inl ⟨rfl,λx B=>a2 x ((z x).2 B)⟩;rw[u,H.uniq this];rfl
 .generalize sY [] (oH l) ([],false)=q at u a2 a3;obtain⟨G,q2⟩:=q;simp only at u a2 a3;have O:=(z G).1 a2
  have y:G≠[]:=by
   obtain⟨a,_,U,_,Z,_⟩:=O;rw[<-Z];exact(aEb h a U).2.2.2.2
  have:MinC (jH l) G:=.inr ⟨y,O,λx B=>a3 x ((z x).2 B)⟩;rw[H.uniq this,u,bR y];rfl
theorem aUW{l:List Tm}(h:∀t,t∈l->Shaped t):decide ((oH l).map Tm.text).Nodup=decide (pS l=[]):=by
 have u:=aID h;have y:=aKw h;rw[gA,bW,bW,List.nodup_iff_count];constructor
 .intro H;rcases y with⟨m,_⟩|⟨m,a2,_⟩
  .exact m
  .have:=(u _).2 a2;have:=H (pS l);omega
 .intro H x;rcases y with⟨m,a2⟩|⟨m,_⟩
  .exact Nat.le_of_not_lt λq=>a2 x ((u x).1 q)
  .exact cV H m
theorem aIs{x:aC}{out:List aC}{b:Below}{i:Nat}{y:aC}(h:out[i]?=some y):(jB x out b)[i]?=some y:=by
 unfold jB;split
 .rw[kE (dZ.1 h).1];exact h
 .exact h
def oS(h:List Below)(out:List aC):Nat:=h.countP λb=>decide (b.high∈out)
theorem aD0(h:List Below)(out:List aC):oS h out<=h.length:=List.countP_le_length
theorem aKz(out:List aC)(h:aC):∀m:List Below,oS m out<=oS m (out++[h])
 | []=>bJ _
 | c::r=>by
  have z:=aKz out h r;simp only[oS,List.countP_cons,cK,bO,bW]at z⊢;split<;>split<;>first|omega|(rename_i u y;exact cV (Or.inl u) y)
theorem aKV(out:List aC)(h:aC)(z:h ∉ out):∀(u:List Below) (b:Below),b∈u->b.high=h->oS u out+1<=oS u (out++[h])
 | [],b,m,_=>by cases m
 | c::r,b,m,y=>by
  have M:=aKz out h r;have B:=λm=>aKV out h z r b m y
  simp only[oS,List.countP_cons,cK,bO,bW]at B M⊢;rcases List.mem_cons.1 m with rfl|m
  .rw[aD (by rw[y];exact z),aF (.inr y)];omega
  .have:=B m;split<;>split<;>first|omega|(rename_i G H;exact cV (Or.inl G) H)
theorem aFz{m:List Below}{x:aC}{out:List aC}{b:Below}(u:b∈m)(h:out.length<=1+oS m out):(jB x out b).length<=1+oS m (jB x out b):=by
 unfold jB;split
 .rename_i y;have:=aKV out b.high y.2 m b u rfl;rw[aH,uV];omega
 .exact h
theorem aIh{m:List Below}{x:aC}{out:List aC}{j:Nat}{b:Below}(h:m[j]?=some b):(m.take (j+1)).foldl (jB x) out=jB x ((m.take j).foldl (jB x) out) b:=by
 rw[gJ,h];simp[rI]
theorem aJR{m:List Below}{x:aC}{out:List aC}(h:out.length<=1+oS m out):∀l:List Below,(∀b,b∈l->b∈m)->(l.foldl (jB x) out).length<=1+oS m (l.foldl (jB x) out)
 | l,hl=>by
  induction l generalizing out with
  | nil=>exact h
  | cons b r y=>exact y (aFz (hl b (cQ ..)) h) (λc u=>hl c (eA _ u))
theorem aJH(h:List Below)(f:Nat)(out:List aC):xI h f out.length out=out:=by
 cases f with
 | zero=>rfl
 | succ f=>simp only[xI,List.getElem?_eq_none_iff.2 (bJ _)]
theorem fK{l:List aC}{y:A}(h:y∈l.map A.str):y.cells.length=1:=by
 obtain⟨z,_,rfl⟩:=cN.1 h;rfl
theorem oP(s:St)(t:Nat)(v w:Nat × TypeId):(s.setT t v).setT t w=s.setT t w:=by simp only[St.setT,aCb]
theorem aPp(tk:Option Nat)(s:St)(l:List aC)(x:aC)(KV Kp:St->A->Prop)(h:KV s (.bool (decide (x∈l)))):Den cx 62 [.list tk (l.map .str),.str x] KV Kp s :=
 jI (show kC [.list tk (l.map .str),.str x] [.list none (l.map .str),.str x] from⟨A.le.forget _ _,bL _,trivial⟩) (pG s l x KV Kp h)
theorem aOI(sg:Sig)(a:aC)(hw:sg.below.length<=4294967000)(s:St)(KV Kp:St->A->Prop)(hk:KV s (strs (pU sg.below a))):Den cx 73 [.agg sg.cs,.str a] KV Kp s:=by
 (refine uQ func73 aBa ?_;simp only[go_sem,ntmps73,f73]);(refine aM λp H=>?_);simp only[go_sem];refine .inr λt b7=>?_
 refine Ex.loop (ι:=Nat × List aC) (λc=>[(2,.ptr p 0),(5,.list (some t) (c.2.map .str)),(6,.int .i64 (c.1:Nat))])
  (λc=>(s.setO p (.cells 26 sg.cs)).setT t (c.2.length,9))
  (λc=>c.1<=c.2.length/\c.2.length<=1+oS sg.below c.2/\∃f,f+c.1=sg.below.length+2/\xI sg.below f c.1 c.2=pU sg.below a) (λc=>sg.below.length+2-c.1) (0,[a]) ⟨aW _,by simp,_,rfl,rfl⟩ ?_ (by exact aE _) ?_
 .simp only[go_sem];exact rfl
 .rintro⟨i,out⟩ ⟨hi,b0,f,hf,M⟩;simp only at hi b0 hf M;have b8:=aD0 sg.below out;refine aX (V:=aBa) _ _ _ _ ?_;simp only[go_sem,H]
  (apply aJ<;>intro h)<;>simp only[go_sem,h,H]
  .have b5:i<out.length:=gQ h;clear h;obtain⟨x,hx⟩:=bB b5;obtain⟨f,rfl⟩:∃f',f=f'+1:=⟨f-1,by omega⟩
   simp only[xI,hx]at M
   refine Ex.loop (ι:=Nat × List aC) (λc=>[(2,.ptr p 0),(5,.list (some t) (c.2.map .str)),(6,.int .i64 (i:Nat)),(18,.list none (sg.below.map Below.enc)),(19,.int .i64 (sg.below.length:Nat)),(20,.int .i64 (c.1:Nat))])
    (λc=>(s.setO p (.cells 26 sg.cs)).setT t (c.2.length,9))
    (λc=>c.1<=sg.below.length/\c.2=(sg.below.take c.1).foldl (jB x) out/\c.2[i]?=some x/\c.2.length<=1+oS sg.below c.2) (λc=>sg.below.length-c.1) (0,out) ⟨aW _,rfl,hx,b0⟩ ?_ (by exact aE _) ?_
   .simp only[go_sem]
    try exact rfl
   .rintro⟨j,B⟩ ⟨hj,S,z,U⟩;simp only at hj S z U;have b9:=aD0 sg.below B;have b4:i<B.length:=(dZ.1 z).1;refine aX (V:=aBa) _ _ _ _ ?_;simp only[go_sem,H]
    (apply aJ<;>intro h)<;>simp only[go_sem,h,H]
    .have m:j<sg.below.length:=gQ h;clear h;obtain⟨b,hb⟩:=bB m;have G:=aIh (x:=x) (out:=out) hb;rw[<-S]at G;have b2:b∈sg.below:=bK hb;have h4:=aFz (x:=x) b2 U;have h3:=aIs (x:=x) (b:=b) z;have w1:=aU j aB;simp only[go_sem,H,hb,m];(refine aM λq Z=>?_);simp only[nW,iM,dB]at Z;simp only[go_sem,H,Z,hb,m,z];(refine bD (OT.r 0 14) [] ?_;simp only[go_sem,H,Z,hb,m,z]);refine⟨b4,?_⟩
     (apply aJ<;>intro h)<;>simp only[go_sem,h,H,Z,hb,m,z]
     .have O:b.low=x:=gQ h;clear h;refine cW (aPp _ _ B b.high _ _ ?_);by_cases hm:b.high∈B
      .have d1:decide (b.high∈B)=true:=cT hm;simp only[go_sem,d1,H,Z,hb];have e1:jB x B b=B:=by unfold jB;rw[aD (λh=>h.2 hm)]
       rw[e1]at G;exact⟨(j+1,B),⟨m,G.symm,z,U⟩,aQ,⟨rfl,w1⟩,fB (gE (And.intro H Z))⟩
      .have d1:decide (b.high∈B)=false:=bR hm;have e1:jB x B b=B++[b.high]:=by unfold jB;rw[aF ⟨O,hm⟩]
       rw[e1]at G h3 h4;simp only[go_sem,d1,H,Z,hb];refine .inl ⟨by decide,λy hy=>by rw[bO.1 hy];rfl,λy hy=>fK hy,by omega,(j+1,B++[b.high]),⟨m,G.symm,h3,h4⟩,aQ,⟨by rw[bU];rfl,w1⟩,?_⟩;rw[oP,show B.length+1=(B++[b.high]).length by simp];exact fB (gE (And.intro H Z))
     .have O:¬ b.low=x:=gQ h;clear h;have e1:jB x B b=B:=by unfold jB;rw[aD (λh=>O h.1)]
      rw[e1]at G;exact⟨(j+1,B),⟨m,G.symm,z,U⟩,aQ,⟨rfl,w1⟩,fB (gE (And.intro H Z))⟩
    .have b6:j=sg.below.length:=by have:¬ j<sg.below.length:=gQ h;omega
     subst b6;clear h;rw[bT]at S;subst S;have b1:=aJR (x:=x) b0 sg.below (λb h=>h);exact⟨(i+1,_),⟨aQ,b1,f,aQ,M⟩,aQ,⟨rfl,aU i aB⟩,aE _⟩
  .have b3:i=out.length:=by have:¬ i<out.length:=gQ h;omega
   subst b3;rw[aJH]at M;subst M;exact DK.mk hk (fR (tk:=some t) (bG H (aE s)) (λu hu=>by cases hu;exact b7)) (A.le.forget _ _)
theorem aD1(k y:MK)(v:A):∀m:List (MK × A),jP k (lK y v m)=if y=k then some v else jP k m
 | []=>by
  simp only[lK,jP];by_cases h:k=y
  .rw[aF h,aF h.symm]
  .rw[aD h,aD (Ne.symm h)]
 | (q,w)::r=>by
  have z:=aD1 k y v r;simp only[lK];by_cases h:y=q
  .subst h;rw[aF rfl];simp only[jP];by_cases u:k=y
   .rw[aF u,aF u.symm]
   .rw[aD u,aD u,aD (Ne.symm u)]
  .rw[aD h];simp only[jP,z];by_cases u:k=q
   .subst u;rw[aF rfl,aD h,aF rfl]
   .rw[aD u,aD u]
theorem aIX(o:Opr)(x:aC):∀l:List Opr,eN (l++[o]) x=if o.name=x then some o else eN l x
 | []=>by simp only[dD,eN]
 | p::r=>by
  simp only[dY,eN,aIX o x r];by_cases h:o.name=x
  .simp only[aF h]
  .simp only[aD h]
theorem aJe{l:List Opr}{i:Nat}{o:Opr}(h:l[i]?=some o)(x:aC):eN (l.take (i+1)) x=if o.name=x then some o else eN (l.take i) x:=by
 rw[gJ,h];exact aIX o x _
def BookAt(s:St)(r:Nat)(sg:Sig):Prop:=∃a o f h u m,s.getO r=some (.cells 123 (sg.cs++[.mp a,.mp o,.mp f]))/\s.getO a=some (.map 0 h)/\s.getO o=some (.map 0 u)/\s.getO f=some (.map 0 m) /\
 (∀x,jP (.str x) h=if x∈nN sg then some (strs (pU sg.below x)) else none)/\(∀x,jP (.str x) u=(eN sg.ops x).map Opr.enc)/\(∀x,jP (.str x) m=(eN sg.funs x).map Opr.enc)
theorem BookAt.ge{s s':St}{r:Nat}{sg:Sig}(h:BookAt s r sg)(m:s'.ge s):BookAt s' r sg:=by
 obtain⟨a,o,f,H,O,M,u,y,z,B,G⟩:=h;exact⟨a,o,f,H,O,M,m.ob _ _ u,m.ob _ _ y,m.ob _ _ z,m.ob _ _ B,G⟩
theorem aGe(sg:Sig)(hw:sg.below.length<=4294967000)(b5:sg.sorts.length<=4294967000)(s:St)(KV Kp:St->A->Prop)(hk:∀s' r,s'.ge s->BookAt s' r sg->KV s' (.ptr r 0)):Den cx 26 [.agg sg.cs] KV Kp s:=by
 refine hH λb1=>?_
 have b0:=b1 _ (cQ ..);have b4:Rlz (.list none (sg.ops.map Opr.enc)):=b0.cell (by simp[Sig.cs]);have b3:Rlz (.list none (sg.funs.map Opr.enc)):=b0.cell (by simp[Sig.cs]);clear b1 b0;(refine aN func26 aEE ?_;simp only[go_sem,ntmps26,f26]);(refine aM λp u=>?_);simp only[go_sem,u];(refine aM λa z=>?_);simp only[go_sem,u,z];(refine aM λo ho=>?_);simp only[go_sem,u,z,ho];(refine aM λf B=>?_);simp only[go_sem,u,z,ho,B];(refine aM λr G=>?_);simp only[go_sem,u,z,ho,B,G];(refine bD (OT.l [1,2,6,0,3,4,5] .nil) [(0,[2])] ?_;simp only[go_sem,u,z,ho,B,G]);refine aII _ _ _ ?_;simp only[go_sem,u,z,ho,B,G];refine aOc [kR,sg.sorts] (by simp only[mB,pB,dK,aH,kR,aV,aZ];omega) _ _ _ ?_;rw[show [kR,sg.sorts].flatten=nN sg by simp[nN]];simp only[go_sem,u,z,ho,B,G];have b2:(nN sg).length<=4294967200:=by simp only[nN,kR,aH,aV,aZ];omega
 generalize hL:nN sg=L at b2⊢;have en:¬ a=r:=λe=>by subst e;simp at G
 refine Ex.loop (ι:=Nat × List (MK × A)) (λc=>[(1,.ptr p 0),(3,.ptr r 0),(20,.list none (L.map .str)),(21,.int .i64 (L.length:Nat)),(22,.int .i64 (c.1:Nat))])
  (λc=>((((s.setO p (.cells 26 sg.cs)).setO a (.map 0 c.2)).setO o (.map 0 [])).setO f (.map 0 [])).setO r (.cells 123 (sg.cs++[.mp a,.mp o,.mp f])))
  (λc=>c.1<=L.length/\∀x,jP (.str x) c.2=if x∈L.take c.1 then some (strs (pU sg.below x)) else none) (λc=>L.length-c.1) (0,[]) ⟨aW _,λx=>by simp[jP]⟩ ?_ (by simp only[go_sem];exact aE _) ?_
 .simp only[go_sem]
  try exact rfl
 .rintro⟨i,ma⟩ ⟨O,S⟩;simp only at O S;refine aX (V:=aEE) _ _ _ _ ?_;simp only[go_sem,u,z,ho,B,G]
  (apply aJ<;>intro h)<;>simp only[go_sem,h,u,z,ho,B,G]
  .have m:i<L.length:=gQ h;clear h;obtain⟨x,H⟩:=bB m;simp only[go_sem,u,z,ho,B,G,H,m];(refine bD (OT.r 0 9) [(7,[3])] ?_;simp only[go_sem,u,z,ho,B,G,H,m]);refine aOI sg x hw _ _ _ ?_;simp only[go_sem,u,z,ho,B,G,H,m,strs];refine⟨(i+1,lK (.str x) (strs (pU sg.below x)) ma),⟨m,λy=>?_⟩,aQ,aU i aB,?_⟩;rotate_left
   .simp only[Sig.cs,dY,dD,strs];exact cD
   .rw[aD1,S,gJ,H];simp only[Option.toList,cK,bO];by_cases e:x=y
    .subst e;rw[aF rfl,aF (.inr rfl)];rfl
    .rw[aD (λh=>e (by injection h))];by_cases e2:y∈L.take i
     .rw[aF e2,aF (.inl e2)];rfl
     .rw[aD e2,aD (λh=>h.elim e2 (λh=>e h.symm))]
  .have M:i=L.length:=by have:¬ i<L.length:=gQ h;omega
   subst M;rw[bT]at S
   refine Ex.loop (ι:=Nat × List (MK × A)) (λc=>[(1,.ptr p 0),(3,.ptr r 0),(36,.list none (sg.ops.map Opr.enc)),(37,.int .i64 (sg.ops.length:Nat)),(38,.int .i64 (c.1:Nat))])
    (λc=>((((s.setO p (.cells 26 sg.cs)).setO a (.map 0 ma)).setO o (.map 0 c.2)).setO f (.map 0 [])).setO r (.cells 123 (sg.cs++[.mp a,.mp o,.mp f])))
    (λc=>c.1<=sg.ops.length/\∀x,jP (.str x) c.2=(eN (sg.ops.take c.1) x).map Opr.enc) (λc=>sg.ops.length-c.1) (0,[]) ⟨aW _,λx=>by simp[jP,eN]⟩ ?_ (by simp only[go_sem];exact aE _) ?_
   .simp only[go_sem]
    try exact rfl
   .clear O h;rintro⟨i,mo⟩ ⟨O,Z⟩;simp only at O Z;refine aX (V:=aEE) _ _ _ _ ?_;simp only[go_sem,u,z,ho,B,G]
    (apply aJ<;>intro h)<;>simp only[go_sem,h,u,z,ho,B,G]
    .have m:i<sg.ops.length:=gQ h;clear h;obtain⟨x,H⟩:=bB m;simp only[go_sem,u,z,ho,B,G,H,m];(refine aM λq hq=>?_);simp only[go_sem,u,z,ho,B,G,H,m,hq];(refine bD (OT.r 0 8) [] ?_;simp only[go_sem,u,z,ho,B,G,H,m,hq]);refine⟨(i+1,lK (.str x.name) x.enc mo),⟨m,λy=>?_⟩,aQ,b4.wrap (i:=i) (gQ m),?_⟩;rotate_left
     .simp only[Sig.cs,Opr.enc,Opr.cs,dY,dD];exact cD
     .rw[aD1,aJe H,Z];by_cases e:x.name=y
      .rw[aF e,aF (by rw[e])];rfl
      .rw[aD e,aD (λh=>e (by injection h))]
    .have M:=bQ O h;subst M;rw[bT]at Z
     refine Ex.loop (ι:=Nat × List (MK × A)) (λc=>[(1,.ptr p 0),(3,.ptr r 0),(51,.list none (sg.funs.map Opr.enc)),(52,.int .i64 (sg.funs.length:Nat)),(53,.int .i64 (c.1:Nat))])
      (λc=>((((s.setO p (.cells 26 sg.cs)).setO a (.map 0 ma)).setO o (.map 0 mo)).setO f (.map 0 c.2)).setO r (.cells 123 (sg.cs++[.mp a,.mp o,.mp f])))
      (λc=>c.1<=sg.funs.length/\∀x,jP (.str x) c.2=(eN (sg.funs.take c.1) x).map Opr.enc) (λc=>sg.funs.length-c.1) (0,[]) ⟨aW _,λx=>by simp[jP,eN]⟩ ?_ (by simp only[go_sem];exact aE _) ?_
     .simp only[go_sem]
      try exact rfl
     .clear O h;rintro⟨i,mf⟩ ⟨O,U⟩;simp only at O U;refine aX (V:=aEE) _ _ _ _ ?_;simp only[go_sem,u,z,ho,B,G]
      (apply aJ<;>intro h)<;>simp only[go_sem,h,u,z,ho,B,G]
      .have m:i<sg.funs.length:=gQ h;clear h;obtain⟨x,H⟩:=bB m;simp only[go_sem,u,z,ho,B,G,H,m];(refine aM λq hq=>?_);simp only[go_sem,u,z,ho,B,G,H,m,hq];(refine bD (OT.r 0 8) [] ?_;simp only[go_sem,u,z,ho,B,G,H,m,hq]);refine⟨(i+1,lK (.str x.name) x.enc mf),⟨m,λy=>?_⟩,aQ,b3.wrap (i:=i) (gQ m),?_⟩;rotate_left
       .simp only[Sig.cs,Opr.enc,Opr.cs,dY,dD];exact cD
       .rw[aD1,aJe H,U];by_cases e:x.name=y
        .rw[aF e,aF (by rw[e])];rfl
        .rw[aD e,aD (λh=>e (by injection h))]
      .have M:=bQ O h;subst M;rw[bT]at U;refine aP (hk _ r ?_ ⟨a,o,f,ma,mo,mf,?_,?_,?_,?_,by rw[hL];exact S,Z,U⟩)
       .exact aR
       .simp only[go_sem]
       .exact gH
       .exact gH
       .exact gH
end Go.AV
