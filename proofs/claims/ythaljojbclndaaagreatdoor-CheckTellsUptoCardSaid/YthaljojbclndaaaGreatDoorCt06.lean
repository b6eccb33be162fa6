/-
  Of CheckTells.
-/
import Derived.Test.YthaljojbclndaaaGreatDoorCt05
set_option linter.all false
set_option maxRecDepth 99999
set_option maxHeartbeats 0
namespace Go.AV
open Go Go.Proofs Tryz
theorem aO7(s:St)(x:aA)(KV Kp)(h:KV s (.bool (decide (x∈aAH)))):Den cx 218 [.str x] KV Kp s:=by
 (refine aO func218 [0,2] ?_;simp only[go_sem,ntmps218,f218]);refine aO9 _ _ _ ?_;simp only[go_sem,zJ];refine qK _ _ _ _ _ ?_;simp only[go_sem];exact aS h
theorem aDl(s:St)(x:aA)(KV Kp)(h:KV s (.bool (decide (x∈fX)))):Den cx 124 [.str x] KV Kp s:=by
 (refine aO func124 [0,2] ?_;simp only[go_sem,ntmps124,f124]);refine aPi _ _ _ ?_;simp only[go_sem,zJ];refine qK _ _ _ _ _ ?_;simp only[go_sem];exact aS h
noncomputable def xtS:XT:=⟨xY,cx.eq,glS,cvS,usS⟩
theorem aWI:xtS.ok oR where
 tt:=λt u h=>h
 eq:=λt a b r h=>h
 gl:=λg=>rfl
 cv:=λa b=>rfl
 us:=λa=>rfl
noncomputable def nC(ext:FuncId->Option (List A->XS->CR)):XP:=⟨xtS,fnS,ext,aE9,177,36⟩
theorem aOo(ext:FuncId->Option (List A->XS->CR)):(nC ext).T=xtS:=by unfold nC;with_reducible rfl
theorem aXA(ext:FuncId->Option (List A->XS->CR)):(nC ext).T.tt=xY:=by rw[aOo];unfold xtS;with_reducible rfl
theorem aWG(ext:FuncId->Option (List A->XS->CR)):(nC ext).fns=fnS:=by unfold nC;with_reducible rfl
theorem aWH(ext:FuncId->Option (List A->XS->CR)):(nC ext).ord=aE9:=by unfold nC;with_reducible rfl
theorem aN8(ext:FuncId->Option (List A->XS->CR)):(nC ext).hd=177:=by unfold nC;with_reducible rfl
theorem aXz(ext:FuncId->Option (List A->XS->CR)):(nC ext).ft=36:=by unfold nC;with_reducible rfl
theorem aWF(ext:FuncId->Option (List A->XS->CR)):(nC ext).ext=ext:=by unfold nC;with_reducible rfl
theorem aUR:oR.det=true:=rfl
theorem aUS:oR.P.follows .mixedOrders=true:=aLQ
theorem aWd(f:FuncId)(u:FX)(h:fnS f=some u):∃fn,prog.funcs[f]?=some fn/\fn.body=some u.code/\fn.ntmps=u.n/\fn.results.toList=u.rs /\
  (fn.name == "runtime.NumGoroutine") = false ∧ mH xY aE9 f u.code = true := by
 unfold fnS at h;cases B:aIv f with
 | false=>rw[B]at h;cases h
 | true =>
  rw[B]at h;simp only at h;cases z:prog.funcs[f]? with
  | none=>rw[z]at h;cases h
  | some fn =>
   rw[z]at h;simp only at h;cases y:fn.body with
   | none=>rw[y]at h;cases h
   | some c =>
    rw[y]at h;simp only[bM]at h;subst h;have G:(f:Nat)<371:=Nat.lt_of_lt_of_le (fU.1 z).1 aUP;have e:=cL.1 aV4 f (rW.2 G);unfold ckF at e;rw[B,z]at e;simp only at e;rw[y]at e;simp only[aY,fV]at e;exact⟨fn,rfl,y,rfl,rfl,e.1,e.2⟩
def aH7(D:Cx)(e:FuncId->Option (List A->XS->CR)):Prop :=
 ∀(f:FuncId) (h:List A->XS->CR),e f=some h->∀(l:List A) (u:XS) (s:St) (KV Kp:St->A->Prop),Sim s u->(h l u).to KV Kp->Den D f l KV Kp s
theorem aWX{X:XP}{D:Cx}(u:X.T.ok D)(y:D.det=true)(z:D.P.follows .mixedOrders=true)
  (B : ∀ f h,X.fns f = some h → ∃ fn,D.P.funcs[f]? = some fn ∧ fn.body = some h.code ∧ fn.ntmps = h.n ∧ fn.results.toList = h.rs ∧
   (fn.name == "runtime.NumGoroutine") = false ∧ mH X.T.tt X.ord f h.code = true) (G : Catch D X.hd X.ft)
  (H:∀(k:Nat) (w:World),(invoke (.fn (.func X.hd) #[]) #[.pointer (some ⟨k,0,none⟩)]).run D.P w=.ok (.enter X.hd #[.pointer (some ⟨k,0,none⟩)]) w)
  (M:aH7 D X.ext):X.ok D:=⟨u,y,z,B,G,H,M⟩
theorem aWE{e:FuncId->Option (List A->XS->CR)}(z:aH7 oR e):(nC e).ok oR:=by
 refine aWX ?_ aUR aUS ?_ ?_ ?_ ?_
 .rw[aOo];exact aWI
 .intro f y h;rw[aWG]at h;rw[aWH,aXA,aWM];exact aWd f y h
 .rw[aN8,aXz];exact aTC
 .intro k w;have u:=aWO k w;rw[<-aN8 e]at u;exact u
 .rw[aWF]
  assumption
theorem aV7:({ oR with det:=false }:Cx)=cx:=rfl
theorem aHy{l:List A}(h:iA (frz 60) l=some l):∀c,c∈l->c.lp c:=λx G=>by
 obtain⟨j,z,rfl⟩:=iC G;obtain⟨y,u,B⟩:=(uS h).2 j l[j] (cO z);rw[cO z]at u;cases u;exact tR 60 _ _ B
theorem aUK:iA (frz 60) xP=some xP:=by kernel_rfl
theorem aVA:iA (frz 60) aFb=some aFb:=by kernel_rfl
theorem aNn(b:Nat)(cs:List A)(h:cx.gl b=some cs):∀c,c∈cs->c.lp c:=by
 have u:glS b=some cs:=h;unfold glS at u;split at u
 .cases u;exact aHy aUK
 .cases u;exact aHy aVA
 .cases u
theorem aWy{f:FuncId}{args:List A}{a:A}(u:∀x,x∈args->x.lp x)(B:a.lp a)(h:∀KV Kp s,KV s a->Den cx f args KV Kp s){KV Kp:St->A->Prop}{s:St}(H:KV s a):Den oR f args KV Kp s:=by
 refine aGk (C:=oR) false (Q:=λ_ r=>r=a) aNn u (λS g2 s2 T r v z O M=>?_) ?_ H
 .subst M;exact⟨g2.pi,z.pis,λb _=>rfl,λy G=>B g2 y v G O⟩
 .rw[aV7];exact h _ _ _ rfl
def xO(f:FuncId)(h:List A->Option A):Prop:=∀l a,h l=some a->iA (frz 60) l=some l/\a.lp a/\∀KV Kp s,KV s a->Den cx f l KV Kp s
def aBm:List (Nat × (List A->Option A))->FuncId->Option (List A->XS->CR)
 | [],_=>none
 | (g,h)::r,f=>match Nat.beq f g with
  | true=>some λl u=>match h l with
   | some a=>.val a u
   | none=>.bad
  | false=>aBm r f
theorem aMv:∀L:List (Nat × (List A->Option A)),(∀p,p∈L->xO p.1 p.2)->aH7 oR (aBm L)
 | [],_=>λf h u=>by cases u
 | (g,h)::r,hL=>fun f G u l T s KV Kp B y=>by
  unfold aBm at u;cases e:Nat.beq f g with
  | false=>rw[e]at u;exact aMv r (λp S=>hL p (cZ _ S)) f G u l T s KV Kp B y
  | true =>
   rw[e]at u;simp only[bM]at u;subst u;obtain rfl:=cQ e;cases z:h l with
   | none=>simp only[z]at y;exact y.elim
   | some a =>
    simp only[z]at y;obtain⟨H,M,O⟩:=hL _ (bY ..) l a z;exact aWy (aHy H) M O (y s B)
def eqO(a:A):Option A->Bool
 | some b=>xZ b a
 | none=>false
theorem aD5{L:List (Nat × (List A->Option A))}(hL:∀p,p∈L->xO p.1 p.2){fuel:Nat}{f:FuncId}{args:List A}{KV Kp:St->A->Prop}{s:St}{a:A}
  (u:iA (frz 60) args=some args)(h:eqO a (aFa (aIw (nC (aBm L)) fuel f args))=true)(B:KV s a):Den cx f args KV Kp s:=by
 have z:(nC (aBm L)).ok { cx with det:=true }:=aWE (aMv L hL);cases y:aFa (aIw (nC (aBm L)) fuel f args)with
 | none=>rw[y]at h;cases h
 | some b =>
  rw[y]at h;have e:b=a:=uW _ _ _ h;subst e;exact Den.run true z aNn u y B
theorem aKE(w:aA)(x:aA):∀(l:List aA) (n:Nat),qS w (l++[x]) n=if qS w l n<x.length/\rI w x=true then x.length else qS w l n
 | [],n=>rfl
 | y::l,n=>aKE w x l _
theorem aGX(w:aA):∀(l:List aA) (n:Nat),n<=w.length->qS w l n<=w.length
 | [],n,h=>h
 | y::l,n,h=>by
  refine aGX w l _ ?_;split
  .rename_i u;have:=u.2;simp only[rI,aY,bR]at this;exact this.1
  .exact h
theorem aHU:∀(w:aA) (c:UInt8),Lib.indexByte w c<(w.length:Int)
 | [],c=>by simp[Lib.indexByte]
 | d::w,c=>by
  have u:=aHU w c;have h:=Lib.indexByte_ge w c;unfold Lib.indexByte;simp only[bB];split
  .omega
  .split<;>omega
theorem aTb(s:St)(r:Nat)(x:aA)(G l c:Nat)(sg:List aA)(op:Bool)(KV Kp)
  (H:s.getO r=some (.cells 261 (fS x G l c sg op)))(hx:x.length<=4294967296)(ha:G<x.length)(bk:sg.length<=4294967296)
  (z:KV s (.tuple [(sN (x.drop G) sg op).1.enc,.int .i64 (sN (x.drop G) sg op).2.1,.bool (sN (x.drop G) sg op).2.2])):Den cx 271 [.ptr r 0] KV Kp s:=by
 obtain⟨b,w,hw⟩:∃b w,x.drop G=b::w:=by
  cases h:x.drop G with
  | nil=>have:=jF List.length h;simp at this;omega
  | cons b w=>exact⟨b,w,rfl⟩
 have S:(b::w).length<=4294967296:=by rw[<-hw,eR];omega
 (refine aO func271 aN0 ?_;simp only[go_sem,ntmps271,f271]);(refine aL λq B=>?_);have u:=aM H B;simp only[go_sem,H,B,u,fS];(refine bX (OT.r 0 10) [] ?_;simp only[go_sem,H,B,u,fS]);rw[hw]at z⊢;have b7:0<(b::w).length:=by simp
 simp only[go_sem,Nat.le_of_lt ha,b7];refine⟨⟨by omega,by omega⟩,?_⟩;have e1:List.take (Int.toNat 1) (b::w)=[b]:=rfl;rw[e1];refine tC _ _ _ _ ?_;simp only[go_sem]
 (apply aI<;>intro h)<;>simp only[go_sem,h,H,B,u,fS]
 .refine aM1 _ _ _ (λc=>jK c.toNat) _ _ S (λc KV Kp h=>aDB _ _ _ _ h) ?_;have hn:((b::w).takeWhile λc=>jK c.toNat).length<=(b::w).length:=(List.takeWhile_sublist _).length_le;simp only[sN,h,dJ]at z;generalize ((b::w).takeWhile λc=>jK c.toNat).length=n at z hn;simp only[go_sem,H,B,u,fS,hn];refine⟨gQ hn,?_⟩;have e2:decide ((n:Int)<=40)=decide (n<=40):=by rw[bW];omega
  rw[e2];exact aD z (nG B)
 .refine aJU _ _ _ _ ?_;have T:¬ cA [b]=true:=by rw[h];simp
  simp only[go_sem]
  (apply aI<;>intro h)<;>simp only[go_sem,h,H,B,u,fS]
  .simp only[sN,T,dY,h,dJ,cV]at z;refine aRV _ _ _ _ S ?_;simp only[go_sem,H,B,u];exact aD z (nG B)
  .have b6:¬ lS b.toNat=true:=by rw[h];simp
   have b0:(34:UInt8).toNat=34:=rfl
   have e3:decide ((b.toNat:Int)=34)=decide (b=34):=by
    rw[bW,<-rD,b0];omega
   rw[e3]
   (apply aI<;>intro h)<;>simp only[go_sem,h,H,B,u,fS]
   .have hb:b=34:=gQ h;simp only[sN,T,b6,hb,dY,dJ]at z;refine⟨⟨by omega,by omega⟩,?_⟩
    have e4:List.take (w.length+1-Int.toNat 1) (List.drop (Int.toNat 1) (b::w))=w:=by
     show List.take (w.length+1-1) w=w;simp
    have e5:(A.int IntKind.u8 34)=.int .u8 ((34:UInt8).toNat):=rfl;rw[e4,e5];refine aDm _ _ _ _ _ ?_;have bj:=Lib.indexByte_ge w 34;have bd:=aHU w 34;obtain⟨k,bc⟩:∃k:Nat,Lib.indexByte w 34=(k:Int)-1:=⟨(Lib.indexByte w 34+1).toNat,by omega⟩
    rw[bc]at z bd⊢;simp only[bB]at S;have bh:k<=w.length:=by omega
    have ew:IntKind.i64.wrap ((k:Int)-1+2)=((k+1:Nat):Int):=by rw[gT _ aB aB];omega
    have Z:IntKind.i64.wrap (((k+1:Nat):Int)-1)=(k:Int):=by rw[gT _ aB aB];omega
    have en:((k:Int)-1+2).toNat=k+1:=by omega
    simp only[en]at z;simp only[go_sem,ew];(refine bX (OT.r 0 19) [] ?_;simp only[go_sem,H,B,u,fS,Z]);have em:(if(k:Int)<1 then(1:Int) else k)=((max k 1:Nat):Int):=by split<;>omega
    rw[em];refine⟨⟨by omega,by omega,by omega⟩,?_⟩
    have et:List.take (Int.toNat ((max k 1:Nat):Int)-Int.toNat 1) (List.drop (Int.toNat 1) (b::w))=w.take (k-1):=by
     show List.take (max k 1-1) w=w.take (k-1);congr 1;omega
    rw[et];have b9:k+1-2=k-1:=by omega
    rw[b9]at z
    (apply aI<;>intro h)<;>simp only[go_sem,h,H,B,u,fS,Z]
    .have O:1<k+1:=by have:=h;simp at this;omega
     refine⟨⟨by omega,by omega,by omega⟩,?_⟩;have bb:List.take (k-Int.toNat 1) (List.drop (Int.toNat 1) (b::w))=w.take (k-1):=rfl;rw[bb];refine aJp _ _ _ _ ?_;simp only[go_sem,H,B,u];simp only[O,wG,dD]at z;exact aD z (nG B)
    .have O:¬ 1<k+1:=by have:=h;simp at this;omega
     simp only[O,tA,eY]at z;exact aD z (nG B)
   .have bf:¬ b=34:=gQ h;simp only[sN,T,b6,bf,dY]at z;have hz:=aGX (b::w) sg 0 (aN _)
    refine Ex.loop (λi=>[(0,.ptr r 0),(2,.ptr q 0),(3,.int .i64 (qS (b::w) (sg.take i) 0:Nat)),(5,.str (b::w)),(6,.int .u8 b.toNat),(67,.list none (sg.map .str)),(68,.int .i64 (sg.length:Nat)),(69,.int .i64 (i:Nat))])
     (λ_=>s.setO q (.cells 209 [.int .i64 0,.str [],.int .i64 0,.int .i64 0,.int .i64 0])) (λi=>i<=sg.length) (λi=>sg.length-i) 0 (aN _) ?_ (aC _) ?_
    .simp[Env.has,Env.get,qS]
    .intro i hi;refine aQ (V:=aN0) _ _ _ _ ?_;simp only[go_sem]
     (apply aI<;>intro h)<;>simp only[go_sem,h,H,B,u,fS]
     .have b5:i<sg.length:=gQ h;obtain⟨y,hy⟩:∃y,sg[i]?=some y:=⟨sg[i],cO b5⟩
      have M:qS (b::w) (sg.take (i+1)) 0=if qS (b::w) (sg.take i) 0<y.length/\rI (b::w) y=true then y.length else qS (b::w) (sg.take i) 0:=by
       rw[<-aKE,fL,hy];rfl
      generalize qS (b::w) (sg.take i) 0=n at M;refine⟨b5,?_⟩;simp only[go_sem,hy]
      (apply aI<;>intro h)<;>simp only[go_sem,h,H,B,u,fS]
      .have h5:n<y.length:=gQ h;refine aI7 _ _ _ _ _ ?_;simp only[go_sem]
       (apply aI<;>intro h)<;>simp only[go_sem,h]
       .exact⟨i+1,by omega,by omega,⟨by rw[M,aF ⟨h5,h⟩],aR i aB⟩,aC _⟩
       .exact⟨i+1,by omega,by omega,⟨by rw[M,aE (by rw[h];simp)],aR i aB⟩,aC _⟩
      .have h5:¬ n<y.length:=gQ h;exact⟨i+1,by omega,by omega,⟨by rw[M,aE (by simp[h5])],aR i aB⟩,aC _⟩
     .have bg:sg.length<=i:=gQ h;obtain rfl:i=sg.length:=by omega
      rw[bK];generalize qS (b::w) sg 0=n at z hz
      have b8:(s.setO q (.cells 209 [.int .i64 0,.str [],.int .i64 0,.int .i64 0,.int .i64 0])).getO r=some (.cells 261 (fS x G l c sg op)):=by
       rw[aX,aE u.2];exact H
      simp only[cV,dY]at z;have b2:(39:UInt8).toNat=39:=rfl;have b4:(95:UInt8).toNat=95:=rfl;have U:decide ((b.toNat:Int)=39)=decide (b=39):=by rw[bW,<-rD,b2];omega
      have Y:decide ((b.toNat:Int)=95)=decide (b=95):=by rw[bW,<-rD,b4];omega
      have e0:decide ((n:Int)=0)=decide (n=0):=by rw[bW];omega
      rw[e0];cases h0:decide (n=0)<;>cases op<;>simp only[go_sem,b8,B,u,fS,U,Y]<;>cases b1:decide (b=39)<;>cases b3:decide (b=95)<;>(try simp only[go_sem,b8,B,u,fS,U,Y,b1,b3])
      all_goals (simp only[bR,eF]at h0 b1 b3)
      all_goals (have ed:decide (0<(n:Int))=decide (0<n):=by rw[bW];omega)
      all_goals (simp only[bB]at hz)
      all_goals first
       | (rw[aE (λhc=>by simp_all)]at z;refine⟨by omega,?_⟩;rw[ed];exact aD z (nG B))
       | (rw[aF (by simp_all)]at z;refine⟨by omega,?_⟩;exact aD z (nG B))
theorem aIe(p:UInt8->Bool)(w:aA):(w.takeWhile p).length<=w.length:=(List.takeWhile_sublist _).length_le
theorem aNz{p:UInt8->Bool}{c:UInt8}{w:aA}(h:p c=true):1<=((c::w).takeWhile p).length:=by simp[List.takeWhile,h]
theorem aTa{c:UInt8}{r:aA}{sg:List aA}{op:Bool}{t:Tok}{n:Nat}(h:sN (c::r) sg op=(t,n,true)):1<=n/\n<=(c::r).length:=by
 simp only[sN]at h;split at h
 .rename_i u;simp only[uL,bR]at h;obtain⟨_,rfl,_⟩:=h;refine⟨aNz ?_,aIe _ _⟩;simp only[cA,aY,eG]at u;exact u.2.2.1
 .split at h
  .rename_i y;simp only[vF]at h;split at h
   .simp at h
   .simp only[uL,bR]at h;obtain⟨_,rfl,_⟩:=h;exact⟨aNz y,aIe _ _⟩
  .split at h
   .simp only[uL,aY,bR]at h;have:=aHU r 34;simp only[bB];omega
   .have hz:=aGX (c::r) sg 0 (aN _);simp only[uL,bR]at h;obtain⟨_,rfl,h⟩:=h;refine⟨h,?_⟩;split
    .simp
    .exact hz
theorem aD8:∀(f:Nat) (w:aA),sU f w<=w.length
 | 0,w=>aN _
 | f+1,[]=>aN _
 | f+1,b::r=>by
  simp only[sU];split
  .have:=aD8 f r;simp only[bB];omega
  .split
   .have:=aD8 f ((b::r).drop ((b::r).takeWhile (λc=>!decide (c=10))).length);rw[eR]at this;have:=aIe (λc=>!decide (c=10)) (b::r);omega
   .exact aN _
def Lx.out(KV:St->A->Prop):Lx->St->Prop
 | .ok l,s=>KV s (.tuple [.list none (l.map Tok.enc),Fault.none.enc])
 | .bad f,s=>KV s (.tuple [.list none [],f.enc])
theorem aUQ(s:St)(r:Nat)(x:aA)(sg:List aA)(KV Kp)
  (hr:s.getO r=some (.cells 261 (fS x 0 1 1 sg true)))(hx:x.length<=4294967290)(bb:sg.length<=4294967296)
  (hk:∀o,(xU sg true x).out KV (s.setO r o)):Den cx 252 [.ptr r 0] KV Kp s:=by
 (refine aO func252 [0,2,3,4,5,6,18,38] ?_;simp only[go_sem,ntmps252,f252]);(refine aL λq Z=>?_);have G:=aM hr Z;simp only[go_sem,hr,Z,G,fS];refine aKi _ r x 0 1 1 sg true _ _ (by rw[aX,aE G.2];exact hr) aB (aN _) aB aB ?_;have b1:=aD8 x.length x;change gI x<=x.length at b1;simp only[go_sem,hr,Z,G,fS]
 refine Ex.loop (ι:=Nat × (Nat × Nat) × List Tok × Option Nat) (λi=>[(0,.ptr r 0),(2,gv i.2.2.2 (i.2.2.1.map Tok.enc)),(3,.ptr q 0)])
  (λi=>gs ((s.setO q (.cells 36 [.int .i64 0,.str [],.int .i64 0,.int .i64 0])).setO r (.cells 261 (fS x i.1 i.2.1.1 i.2.1.2 sg true))) i.2.2.2 i.2.2.1.length 209)
  (fun i => i.1 ≤ x.length ∧ i.2.1.1 ≤ i.1 + 1 ∧ i.2.1.2 ≤ i.1 + 1 ∧ (i.2.2.2 = none → i.2.2.1 = []) ∧ (∀ t,i.2.2.2 = some t → s.getT t = none) ∧ i.2.2.1.length ≤ i.1 ∧
   ∃f,x.length-i.1<=f/\xU sg true x=aE4 sg true f (x.drop i.1) i.2.1 i.2.2.1) (λi=>x.length-i.1)
  (gI x,eP (1,1) (x.take (gI x)),[],none) ?_ ?_ ?_ ?_
 .have:=wV (x.take (gI x)) (1,1) 0 aB aB;rw[dG]at this;refine⟨b1,bD,bD,λ_=>rfl,λt h=>(by cases h),aN _,x.length,bD,rfl⟩
 .simp only[go_sem];rfl
 .simp only[go_sem];exact aC _
 .rintro⟨a,⟨l,c⟩,b0,tk⟩ ⟨ha,hl,hc,hn,hf,b7,f,b5,H⟩;simp only at ha hl hc hn hf b7 b5 H;refine aQ (V:=[0,2,3,4,5,6,18,38]) _ _ _ _ ?_;simp only[go_sem];(refine bX (OT.r 0 10) [] ?_;simp only[go_sem,G,fS])
  (apply aI<;>intro h)<;>simp only[go_sem,h]
  .have U:a<x.length:=gQ h;obtain⟨b,w,hw⟩:∃b w,x.drop a=b::w:=⟨_,_,rA U⟩
   obtain⟨f,rfl⟩:∃f',f=f'+1:=⟨f-1,by omega⟩
   refine aTb _ r x a l c sg true _ _ (by simp only[go_sem];rfl) aB U bb ?_;rw[hw]at H⊢;simp only[aE4]at H;rcases T:sN (b::w) sg true with⟨⟨bc,bd,tn,tl,tc⟩,n,ok⟩
   rw[T]at H;simp only[go_sem];(refine aL λq2 O=>?_)
   have B:q2≠r/\q2≠q:=by
    have S:=O;rw[mM,aX]at S;have h2:=O;rw[mM,aX]at h2;constructor<;>rintro rfl
    .simp at S
    .rw[aE G.1,aX]at h2;simp at h2
   simp only[go_sem,G,B,O];(refine bX (OT.r 0 12) [(9,[7])] ?_;simp only[go_sem,G,B,fS])
   (apply aI<;>intro h)<;>simp only[go_sem,h,G,B,fS]
   .have Y:ok=false:=gQ h;subst Y;simp only at H;(refine bX (OT.r 0 25) [] ?_;simp only[go_sem,G,B,fS,Nat.le_of_lt U]);have ew:IntKind.i64.wrap ((a:Int)+1)=((a+1:Nat):Int):=aR a aB;rw[ew];refine⟨⟨by omega,by omega⟩,?_⟩;have et:List.take ((((a+1:Nat):Int)).toNat-a) (x.drop a)=[b]:=by rw[hw,qH,Nat.add_sub_cancel_left];rfl
    rw[et];rw[H]at hk;refine DK.mk (hk _) (eJ (aZ ?_ (aZ ?_ (aKd (nG Z)))) ?_) (A.le.tuple ⟨A.le.nil,cN _,trivial⟩)
    .rw[aX,aE G.1];exact Z
    .have S:=O;rw[mM,aX,aE B.1.symm,aX,aE B.2.symm]at S;rw[aX,aE B.1.symm];exact S
    .exact hf
   .have Y:ok=true:=gQ h;subst Y;simp only at H;obtain⟨bf,b9⟩:=aTa T;refine⟨by decide,by simp[A.cells],fJ rfl rfl (by rw[aW];exact iS λe=>by rw[hn e];rfl) (λy hy=>by simp only[cW]at hy;obtain⟨z,_,rfl⟩:=hy;rfl) (by simp;omega) λt ht=>?_⟩;have b3:s.getT t=none:=by have:=kB ht (λu hu=>hf u hu);exact this
    rw[kF ht];simp only[go_sem,G,B];refine aD6 _ r x a l c n sg true _ _ (by simp only[go_sem,G,B];rfl) aB (by have:=jF List.length hw;rw[eR]at this;omega) aB aB ?_;simp only[go_sem];have b4:=wV ((b::w).take n) (l,c) a hl hc;rw[dG,aIV b9]at b4;have bg:x.length-a=(b::w).length:=by rw[<-hw,eR]
    rw[hw];have M:=aD8 ((b::w).drop n).length ((b::w).drop n);change gI ((b::w).drop n)<=_ at M;rw[eR]at M;have b2:x.drop (a+n)=(b::w).drop n:=by rw[<-wD,hw]
    refine aKi _ r x (a+n) _ _ sg true _ _ (by simp only[go_sem,G,B];rfl) aB aB aB aB ?_;simp only[go_sem];rw[b2];refine⟨(a+n+gI ((b::w).drop n),eP (eP (l,c) ((b::w).take n)) (((b::w).drop n).take (gI ((b::w).drop n))),b0++[⟨bc,bd,tn,l,c⟩],some t),⟨?_,?_,?_,?_,?_,?_,f,?_,?_⟩,?_,?_,?_⟩
    .simp only;omega
    .have:=wV (((b::w).drop n).take (gI ((b::w).drop n))) (eP (l,c) ((b::w).take n)) (a+n) aB aB;rw[dG,eR,aIV M]at this;simp only;omega
    .have:=wV (((b::w).drop n).take (gI ((b::w).drop n))) (eP (l,c) ((b::w).take n)) (a+n) aB aB;rw[dG,eR,aIV M]at this;simp only;omega
    .intro h;cases h
    .intro u hu;cases hu;exact b3
    .simp only[aG,bB,bQ];omega
    .simp only;omega
    .simp only[H];congr 1;rw[<-wD,b2]
    .simp only;omega
    .simp only[cB,cC,eZ,nW];exact rfl
    .simp only[gs,aG,bB,bQ];refine dV (aSc ?_ B.1);have S:=O;rw[mM,aX,aE B.1.symm]at S;exact S
  ·(refine bX (OT.r 0 4) [] ?_;simp only[go_sem,G,fS]);have b6:x.length≤a:=gQ h
   have b8:xU sg true x=.ok b0:=by
    rw[H,dB b6];cases f<;>rfl
   rw[b8]at hk;refine DK.mk (hk _) (eJ (aZ ?_ (aKd (nG Z))) ?_) (A.le.tuple ⟨nM tk _ (λe=>by rw[hn e];rfl),cN _,trivial⟩)
   .rw[aX,aE G.1];exact Z
   .exact hf
theorem aTZ(s:St)(x:aA)(KV Kp)(B:x.length<=4294967290)(y:(xU vG true x).out KV s):Den cx 212 [.str x] KV Kp s:=by
 (refine aO func212 [0,2,3] ?_;simp only[go_sem,ntmps212,f212]);(refine aL λq h=>?_);simp only[go_sem,h];refine aJk _ _ _ ?_;simp only[go_sem,zJ];(refine aL λr z=>?_);have u:q≠r:=z.1.1;simp only[go_sem,z,h,u];refine aUQ _ r x vG _ _ (by rw[aX,aF rfl];rfl) B cT λo=>?_
 cases hl:xU vG true x with
 | ok l =>
  rw[hl]at y;simp only[Lx.out]at y⊢;simp only[go_sem,z,h,u,Fault.none];exact aD y (aZ h (aZ z.2 (nG h)))
 | bad f =>
  rw[hl]at y;simp only[Lx.out]at y⊢;simp only[go_sem,z,h,u];exact aD y (aZ h (aZ z.2 (nG h)))
def eq8:List UInt8->List UInt8->Bool
 | [],l=>match l with
  | []=>true
  | _::_=>false
 | a::r,l=>match l with
  | []=>false
  | b::m=>match Nat.beq a.toNat b.toNat with
   | true=>eq8 r m
   | false=>false
theorem aHR:∀a b:List UInt8,eq8 a b=decide (a=b)
 | [],[]=>rfl
 | [],_::_=>rfl
 | _::_,[]=>rfl
 | a::r,b::m=>by
  unfold eq8;simp only;cases h:Nat.beq a.toNat b.toNat with
  | true =>
   have e:a=b:=rD.1 (cQ h);subst e;simp only[aHR r m,List.cons.injEq,eU]
  | false =>
   have e:¬ a=b:=λe=>by rw[e]at h;rw[Nat.beq_refl]at h;cases h
   simp only[List.cons.injEq,e,nT,tA]
def aCX(x:List UInt8):List (List UInt8)->Bool
 | []=>false
 | y::r=>match eq8 x y with
  | true=>true
  | false=>aCX x r
theorem aMj(x:List UInt8):∀W,aCX x W=decide (x∈W)
 | []=>by simp[aCX]
 | y::r=>by
  unfold aCX;rw[aHR];by_cases e:x=y
  .simp[e]
  .simp[e,aMj x r]
def hW(W:List (List UInt8)):List A->Option A
 | [.str x]=>some (.bool (aCX x W))
 | _=>none
def hF:List A->Option A
 | [.str x]=>match eq8 x aEC with
  | true=>some (zJ vG)
  | false=>none
 | _=>none
def hI:List A->Option A
 | [.str x,.int .u8 (.ofNat n)]=>match Nat.blt n 256 with
  | true=>some (.int .i64 (Lib.indexByte x (UInt8.ofNat n)))
  | false=>none
 | _=>none
def hC:List A->Option A
 | [.str x,.int .u8 (.ofNat n)]=>match Nat.blt n 256 with
  | true=>some (.int .i64 (x.count (UInt8.ofNat n):Nat))
  | false=>none
 | _=>none
def aOh:Lx->A
 | .ok l=>.tuple [.list none (l.map Tok.enc),Fault.none.enc]
 | .bad f=>.tuple [.list none [],f.enc]
def hL:List A->Option A
 | [.str x]=>match Nat.ble x.length 1000 with
  | true=>some (aOh (xU vG true x))
  | false=>none
 | _=>none
theorem aMe:∀l:List Tok,iA (frz 3) (l.map Tok.enc)=some (l.map Tok.enc)
 | []=>rfl
 | t::r=>by
  have h:frz 3 t.enc=some t.enc:=rfl;simp only[cC,iA,h,aMe r]
theorem pL:xO 212 hL:=by
 intro l a e;unfold hL at e;split at e
 .rename_i x;cases c:Nat.ble x.length 1000 with
  | false=>rw[c]at e;cases e
  | true =>
   rw[c]at e;cases e;have z:=eQ c;refine⟨rfl,?_,λKV Kp s h=>aTZ s x KV Kp aB ?_⟩
   .cases xU vG true x with
    | ok l =>
     have u:frz 4 (.list none (l.map Tok.enc))=some (.list none (l.map Tok.enc)):=by
      show(iA (frz 3) (l.map Tok.enc)).map (A.list none)=_;rw[aMe];rfl
     have y:frz 4 Fault.none.enc=some Fault.none.enc:=rfl;refine tR 5 _ _ ?_;show(iA (frz 4) [.list none (l.map Tok.enc),Fault.none.enc]).map A.tuple=_;simp only[iA,u,y,gS,aOh]
    | bad f=>exact tR 5 _ _ rfl
   .cases hl:xU vG true x<;>rw[hl]at h<;>exact h
 .cases e
theorem aNB{n:Nat}(h:n<256):((UInt8.ofNat n).toNat:Int)=Int.ofNat n:=by
 rw[UInt8.toNat_ofNat'];simp[Nat.mod_eq_of_lt h]
theorem pW{f:FuncId}{W:List (List UInt8)}(h:∀(s:St) (x:List UInt8) (KV Kp:St->A->Prop),KV s (.bool (decide (x∈W)))->Den cx f [.str x] KV Kp s):xO f (hW W):=by
 intro l a e;unfold hW at e;split at e
 .cases e;rename_i x;exact⟨rfl,tR 1 _ _ rfl,λKV Kp s u=>h s x KV Kp (by rw[<-aMj];exact u)⟩
 .cases e
theorem pF:xO 184 hF:=by
 intro l a e;unfold hF at e;split at e
 .rename_i x;cases c:eq8 x aEC with
  | false=>rw[c]at e;cases e
  | true =>
   rw[c]at e;cases e;rw[aHR,bR]at c;subst c;exact⟨rfl,tR 2 _ _ (by kernel_rfl),λKV Kp s h=>aJk s KV Kp h⟩
 .cases e
theorem pI:xO 284 hI:=by
 intro l a e;unfold hI at e;split at e
 .rename_i x n;cases c:Nat.blt n 256 with
  | false=>rw[c]at e;cases e
  | true =>
   rw[c]at e;cases e;rw[Nat.blt_eq]at c;refine⟨rfl,tR 1 _ _ rfl,λKV Kp s h=>?_⟩;have:=aIZ s x (UInt8.ofNat n) KV Kp h;rw[aNB c]at this;exact this
 .cases e
theorem pC:xO 254 hC:=by
 intro l a e;unfold hC at e;split at e
 .rename_i x n;cases c:Nat.blt n 256 with
  | false=>rw[c]at e;cases e
  | true =>
   rw[c]at e;cases e;rw[Nat.blt_eq]at c;refine⟨rfl,tR 1 _ _ rfl,λKV Kp s h=>?_⟩;have:=aPW s x (UInt8.ofNat n) KV Kp h;rw[aNB c]at this;exact this
 .cases e
def aNX:List (Nat × (List A->Option A)):=[(212,hL),(218,hW aAH),(124,hW fX),(184,hF),(284,hI),(254,hC)]
theorem aD4:∀p,p∈aNX->xO p.1 p.2:=λp u=>by
 simp only[aNX,cR,gX,dW]at u;rcases u with rfl|rfl|rfl|rfl|rfl|rfl
 .exact pL
 .exact pW λs x KV Kp h=>aO7 s x KV Kp h
 .exact pW λs x KV Kp h=>aDl s x KV Kp h
 .exact pF
 .exact pI
 .exact pC
def aNY:aA:=[108,97,110,103,117,97,103,101,32,115,117,109,115,46,32,115,111,114,116,32,69,120,112,44,32,80,103,109,46,32,115,117,98,115,111,114,116,32,73,110,116,32,60,32,69,120,112,46,32,115,117,98,115,111,114,116,32,69,120,112,32,60,32,80,103,109,46,32,118,97,108,117,101,32,73,110,116,46,32,111,112,32,112,108,117,115,32,58,32,69,120,112,32,34,43,34,32,69,120,112,32,45,62,32,69,120,112,32,112,114,101,99,32,53,32,108,101,102,116,32,115,116,114,105,99,116,40,49,44,32,50,41,46,32,99,101,108,108,32,107,32,58,32,76,105,115,116,32,61,32,91,36,93,46,32,115,116,97,114,116,32,80,103,109,46,32,119,97,116,99,104,32,107,46,32,114,117,108,101,32,97,100,100,32,58,32,107,32,58,32,91,112,108,117,115,40,88,58,73,110,116,44,32,89,58,73,110,116,41,32,124,32,75,93,32,61,62,32,91,97,100,100,40,88,58,73,110,116,44,32,89,58,73,110,116,41,32,124,32,75,93,46]
def aOa:aA:=[108,97,110,103,117,97,103,101,32,101,46,32,102,117,110,32,102,32,58,32,73,110,116,32,45,62,32,73,110,116,46,32,108,101,116,32,102,40,88,58,73,110,116,41,32,61,32,89,58,73,110,116,46,32,115,116,97,114,116,32,73,110,116,46,32,99,101,108,108,32,107,32,58,32,65,110,121,32,61,32,36,46,32,119,97,116,99,104,32,107,46]
def aOb:aA:=[108,97,110,103,117,97,103,101,32,101,46,32,115,116,97,114,116,32,73,110,116,46,32,99,101,108,108,32,107,32,58,32,73,110,116,32,61,32,36,46,32,119,97,116,99,104,32,99,46]
def aOc:aA:=[108,97,110,103,117,97,103,101]
def vX:Tm:=.mk 6 0 [88] [73,110,116] [] []
def vY:Tm:=.mk 6 0 [89] [73,110,116] [] []
def vK:Tm:=.mk 6 0 [75] [76,105,115,116] [] []
def vD:Tm:=.mk 6 0 [36] [65,110,121] [] []
def mU:Dfn:=⟨[115,117,109,115],⟨[[69,120,112],[80,103,109]],[⟨[73,110,116],[69,120,112]⟩,⟨[69,120,112],[80,103,109]⟩],[⟨[112,108,117,115],[[69,120,112],[69,120,112]],[69,120,112],[⟨[],[69,120,112]⟩,⟨[43],[]⟩,⟨[],[69,120,112]⟩],5,1,[1,2]⟩],[],[[73,110,116]]⟩,[],[⟨[107],[76,105,115,116],.mk 7 0 [] [] [vD] [],1,140⟩],[],[],[⟨[97,100,100],[⟨[107],[],.mk 7 0 [] [] [.mk 5 0 [112,108,117,115] [] [vX,vY] []] [vK],[.mk 7 0 [] [] [.mk 5 0 [97,100,100] [] [vX,vY] []] [vK]],1,187⟩],[],[],[],1,176⟩],[80,103,109],[107]⟩
def aCM:Dfn:=⟨[101],⟨[],[],[],[⟨[102],[[73,110,116]],[73,110,116],[],0,0,[]⟩],[]⟩,[⟨.mk 5 0 [102] [] [vX] [],vY,[],1,33⟩],[⟨[107],[65,110,121],vD,1,71⟩],[],[],[],[73,110,116],[107]⟩
def aCN:Dfn:=⟨[101],⟨[],[],[],[],[]⟩,[],[⟨[107],[73,110,116],vD,1,29⟩],[],[],[],[73,110,116],[99]⟩
def xI:Dfn:=⟨[],⟨[],[],[],[],[]⟩,[],[],[],[],[],[],[]⟩
def aAK(x:aA)(d:Dfn)(f:Fault):Prop:=∀KV Kp s,KV s (.tuple [d.enc,f.enc])->Den cx 50 [.str x] KV Kp s
theorem aQS:aAK aOc xI ⟨12,[],1,9⟩:=λKV Kp s h=>aD5 (fuel:=100000) aD4 rfl (by decide +kernel) h
end Go.AV
