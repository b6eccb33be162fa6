/-
  Of CheckChecks.
-/
import Derived.Test.YthaljojbclndaaaGreatDoorCc10
set_option linter.all false
set_option maxRecDepth 99999
set_option maxHeartbeats 0
namespace Go.AV
open Go Go.Proofs Tryz
section
theorem aIq(s:St)(c:Int)(KV Kp)(m:KV s (.bool (mJ c))):Den cx 147 [.int .u8 c] KV Kp s:=by
 unfold mJ at m;(refine aN func147 [0,2] ?_;simp only[go_sem,ntmps147,f147])
 (repeat' (first|exact aG m aR|((apply aJ<;>intro h)<;>simp only[go_sem,h]<;>(try simp only[h,dW,gB,eU,iZ,lM,jT,jA,gW,fP,iB]at m))))
theorem aIJ(s:St)(c:Int)(KV Kp)(m:KV s (.bool (lT c))):Den cx 148 [.int .u8 c] KV Kp s:=by
 unfold lT at m;(refine aN func148 [0,2] ?_;simp only[go_sem,ntmps148,f148])
 (repeat' (first|exact aG m aR|((apply aJ<;>intro h)<;>simp only[go_sem,h]<;>(try simp only[h,dW,gB,eU,iZ,lM,jT,jA,gW,fP,iB]at m))))
theorem aBQ(c:Int):jW c=(mJ c||(lT c||decide (c=95))):=rfl
theorem tJ(s:St)(x:List UInt8)(KV Kp)(hx:x.length<=4611686018427387904)(H:KV s (.bool (cP x))):Den cx 89 [.str x] KV Kp s:=by
 (refine aN func89 aEA ?_;simp only[go_sem,ntmps89,f89])
 refine Ex.loop (λi=>[(0,.str x),(5,.int .i64 x.length),(6,.int .i64 (i:Nat))]) (λ_=>s)
  (λi=>i<=x.length/\(∀d∈x.take i,jW d.toNat=true)/\(∀c,0<i->x[0]?=some c->mJ c.toNat=true)) (λi=>x.length-i) 0 ⟨aW _,by simp,λ_ h=>by omega⟩ ?_ (aE s) ?_
 .simp only[go_sem];rfl
 .rintro i ⟨hi,m,B⟩;refine aX (V:=aEA) _ _ _ _ ?_;simp only[go_sem];by_cases u:i<x.length
  .have dl:decide (i<x.length)=true:=gQ u;obtain⟨d,G⟩:=bB u;have Z:(0:Int)<=(i:Int):=by omega
   simp only[go_sem,dl,G,u,Z];refine aIq _ _ _ _ ?_;simp only[go_sem,dl,G,u,Z]
   have next:jW d.toNat=true->(i=0->mJ d.toNat=true)->∃j,((j<=x.length/\(∀d∈x.take j,jW d.toNat=true)/\(∀c,0<j->x[0]?=some c->mJ c.toNat=true))/\x.length-j<x.length-i)/\j=i+1:=by
    intro hp hz;refine⟨i+1,⟨⟨by omega,?_,?_⟩,by omega⟩,rfl⟩
    .intro z hz;rw[gJ,G]at hz;simp only[cK,Option.toList_some,bO]at hz;rcases hz with hz|rfl
     .exact m z hz
     .exact hp
    .intro c _ hc;by_cases b1:i=0
     .subst b1;rw[G]at hc;cases hc;exact hz rfl
     .exact B c aB hc
   have bad:(jW d.toNat=false\/i=0/\mJ d.toNat=false)->cP x=false:=by
    intro hb;cases x with
    | nil=>rfl
    | cons c r =>
     simp only[cP,Bool.and_eq_false_iff];rcases hb with hp|⟨rfl,hl⟩
     .refine .inr (.inr (jQ.2 λm=>?_));rw[dE]at m;have:=m d (bK G);rw[hp]at this;cases this
     .have:d=c:=gQ G.symm;subst this;exact .inr (.inl hl)
   have ew:=aU i aB;have di:decide ((i:Int)=0)=decide (i=0):=by rw[cC];omega
   cases y:mJ d.toNat with
   | true =>
    simp only[go_sem,y,ew];obtain⟨j,⟨h1,h2⟩,rfl⟩:=next (by rw[aBQ,y];rfl) (λ_=>y);exact⟨i+1,h1,h2,rfl,aE s⟩
   | false =>
    simp only[go_sem,y,di];cases O:decide (i=0)with
    | true =>
     simp only[go_sem,y,O];rw[bad (.inr ⟨gQ O,y⟩)]at H;exact aP H
    | false =>
     simp only[go_sem,y,O,G,u,Z];refine aIJ _ _ _ _ ?_;simp only[go_sem,y,O,G,u,Z];cases U:lT d.toNat with
     | true =>
      simp only[go_sem,U,ew];obtain⟨j,⟨h1,h2⟩,rfl⟩:=next (by rw[aBQ,y,U];rfl) (λe=>by simp[e]at O);exact⟨i+1,h1,h2,rfl,aE s⟩
     | false =>
      simp only[go_sem,U,G,u,Z];cases c4:decide ((d.toNat:Int)=95)with
      | true =>
       simp only[go_sem,c4,ew];obtain⟨j,⟨h1,h2⟩,rfl⟩:=next (by rw[aBQ,y,U,c4];rfl) (λe=>by simp[e]at O);exact⟨i+1,h1,h2,rfl,aE s⟩
      | false =>
       simp only[go_sem,c4];rw[bad (.inl (by rw[aBQ,y,U,c4];rfl))]at H;exact aP H
  .have dl:decide (i<x.length)=false:=gQ u;have u:i=x.length:=by omega
   rw[u,bT]at m;rw[u]at B;simp only[go_sem,dl];cases hz:decide ((1:Int)<=(x.length:Int))with
   | false =>
    have:x=[]:=eS (by simp at hz;omega);simp only[go_sem,hz];rw[show cP x=false by rw[this];rfl]at H;exact aP H
   | true =>
    obtain⟨c,r,b0⟩:∃c r,x=c::r:=by
     cases x with
     | nil=>simp at hz
     | cons c r=>exact⟨c,r,rfl⟩
    have hl:=B c (by simp at hz;omega) (by rw[b0];rfl)
    have he:cP x=decide ((x.length:Int)<=40):=by
     have e1:cP x=decide (x.length<=40):=by
      rw[b0]at m⊢;simp only[cP,hl,dW];rw[dE.2 m,eU]
     rw[e1,cC];omega
    rw[he]at H;simp only[go_sem,hz];exact aP H
theorem aPJ(s:St)(xs ys:List aC)(KV Kp)(hk:KV s (.bool (eX (λa b=>decide (a=b)) xs ys))) :
  Den cx 248 [.list none (xs.map .str),.list none (ys.map .str)] KV Kp s:=by
 refine hH λb1=>?_
 have b0:=b1 _ (cQ ..);(refine aN func248 aET ?_;simp only[go_sem,ntmps248,f248])
 (apply aJ<;>intro h)<;>simp only[go_sem,h]
 .exact aP (by rwa[aDm (by intro e;simp[e]at h)]at hk)
 .have z:xs.length=ys.length:=by simp at h;omega
  refine Ex.loop (λi=>[(0,.list none (xs.map .str)),(1,.list none (ys.map .str)),(12,.int .i64 xs.length),(13,.int .i64 (i:Nat))]) (λ_=>s)
     (λi=>i<=xs.length/\∀(j:Nat) a b,j<i->xs[j]?=some a->ys[j]?=some b->(λa b=>decide (a=b)) a b=true) (λi=>xs.length-i) 0 ⟨aW _,λj _ _ hj=>by omega⟩ ?_ (aE s) ?_
  .simp only[go_sem];exact rfl
  .rintro i ⟨hi,u⟩;refine aX (V:=aET) _ _ _ _ ?_;simp only[go_sem]
   (apply aJ<;>intro h)<;>simp only[go_sem,h]
   .have m:i<xs.length:=gQ h;have G:i<ys.length:=by omega
    obtain⟨a,O⟩:=bB m;obtain⟨b,U⟩:=bB G;(refine bD (OT.r 0 9) [] ?_;simp only[go_sem]);simp only[go_sem,O,U,m,G]
    (apply aJ<;>intro h)<;>simp only[go_sem,h]
    .have hr:(λa b=>decide (a=b)) a b=false:=by simpa only[iY,eU]using h
     have:eX (λa b=>decide (a=b)) xs ys=false:=by
      rw[jQ];intro he;have:=(yP z).1 he i a b O U;exact cV (hr.symm.trans this) dM
     exact aP (by rwa[this]at hk)
    .have hr:(λa b=>decide (a=b)) a b=true:=by simpa only[aFv,eU]using h
     refine⟨i+1,⟨by omega,λj x y hj B H=>?_⟩,by omega,?_,aE s⟩
     .by_cases Z:j=i
      .subst Z;rw[O]at B;rw[U]at H;cases B;cases H;exact hr
      .exact u j x y aB B H
     .simp only[go_sem,b0.wrap (i:=i) (gQ m)]
   .have m:i=xs.length:=by simp at h;omega
    have:eX (λa b=>decide (a=b)) xs ys=true:=(yP z).2 λj x y B H=>u j x y (by rw[m];exact(dZ.1 B).1) B H
    exact aP (by rwa[this]at hk)
section
variable {s:St} {KV Kp:St->A->Prop}
theorem mU(l:List aC)(x:aC)(u:KV s (.bool (decide (x∈l)))):Den cx 46 [.list none (l.map .str),.str x] KV Kp s:=by
 refine hH λH=>?_
 have G:=H _ (cQ ..);(refine aN func46 [0,1,4,6,7,8,9,10,15] ?_;simp only[go_sem,ntmps46,f46]);refine Ex.loop (ι:=Nat) (λi=>[(1,.str x),(7,.list none ((l).map .str)),(8,.int .i64 ((l).length:Nat)),(9,.int .i64 (i:Nat))]) (λ_=>s) (λi=>i<=(l).length/\x ∉ l.take i) (λi=>(l).length-i) 0 ⟨aW _,by simp⟩ ?_ (aE _) ?_
 .simp only[go_sem]
  try exact rfl
  try exact⟨rfl,rfl⟩
 .rintro i ⟨U,z⟩;refine aX (V:=[0,1,4,6,7,8,9,10,15]) _ _ _ _ ?_;simp only[go_sem]
  (apply aJ<;>intro h)<;>simp only[go_sem,h]
  .have y:i<l.length:=gQ h;clear h;obtain⟨a,B⟩:=bB y;have O:=bK B
   (try simp only[go_sem,B,y])
   (apply aJ<;>intro h)<;>simp only[go_sem,h]
   .have m:a=x:=gQ h;rw[show decide (x∈l)=true from cT (m▸O)]at u;exact aP u
   .have m:¬ a=x:=gQ h;exact⟨i+1,⟨y,by rw[eB B,cK,bO];rintro(q|q);exact z q;exact m q.symm⟩,by omega,G.wrap (i:=i) (gQ y),aE _⟩
  .have Z:=bQ U h;clear h;subst Z;rw[bT]at z;rw[bR z]at u;exact aP u
def wT:List aC:=[[65,110,121],[66,111,111,108],[73,100],[73,110,116],[76,105,115,116],[77,97,112],[84,101,120,116]]
def aGo:List aC:=[[97,100,100],[97,110,100],[99,97,116],[100,101,108],[100,105,118],[101,113],[103,101],[103,101,116],[103,116],[104,97,115],[105,115],[105,115,118,97,108,117,101],[106,111,105,110],[107,101,121,115],[108,101],[108,101,110,103,116,104],[108,116],[109,111,100],[109,117,108],[110,101],[110,101,103],[110,111,116],[111,114],[112,105,99,107],[112,117,116],[115,105,122,101],[115,117,98],[116,101,120,116]]
theorem aKW{a b:List aC}(m:(a.all λx=>decide (x∈b))=true)(u:(b.all λx=>decide (x∈a))=true)(x:aC):decide (x∈a)=decide (x∈b):=by
 rw[cC];exact⟨λh=>fT (dE.1 m x h),λh=>fT (dE.1 u x h)⟩
theorem aDj(x:aC):decide (x∈wT)=decide (x∈kR):=aKW dM dM x
theorem aPz(x:aC):decide (x∈aGo)=decide (x∈gY):=aKW dM dM x
theorem aC2(h:KV s (strs wT)):Den cx 162 [] KV Kp s:=by
 (refine aN func162 [0] ?_;simp only[go_sem,ntmps162,f162]);exact aP h
theorem aNN(h:KV s (strs aGo)):Den cx 246 [] KV Kp s:=by
 (refine aN func246 [0] ?_;simp only[go_sem,ntmps246,f246]);exact aP h
theorem aFy(x:aC)(h:KV s (.bool (decide (x∈gY)))):Den cx 199 [.str x] KV Kp s:=by
 (refine aN func199 [0,2] ?_;simp only[go_sem,ntmps199,f199]);refine aNN ?_;unfold strs;simp only[go_sem];refine mU aGo x ?_;rw[aPz];simp only[go_sem];exact aP h
theorem aC3(sg:Sig)(x:aC)(h:KV s (.bool (cR sg x))):Den cx 153 [.agg sg.cs,.str x] KV Kp s:=by
 have e:cR sg x=(decide (x∈kR)||decide (x∈sg.sorts)):=by
  unfold cR nN;rw[gA];simp
 rw[e]at h;(refine aN func153 [0,1,2,4] ?_;simp only[go_sem,ntmps153,f153]);(refine aM λp m=>?_);simp only[go_sem,m];refine aC2 ?_;unfold strs;simp only[go_sem,m];refine mU wT x ?_;rw[aDj];cases c:decide (x∈kR)<;>rw[c]at h<;>simp only[go_sem,m]
 .refine mU sg.sorts x ?_;simp only[go_sem,m];exact aG h aR
 .exact aG h aR
theorem aFw(l:List aC)(B:KV s (.bool (decide l.Nodup))):Den cx 154 [.list none (l.map .str)] KV Kp s:=by
 refine hH λZ=>?_
 have O:=Z _ (cQ ..);(refine aN func154 [0,2,3,5,6,7,16] ?_;simp only[go_sem,ntmps154,f154]);refine Ex.loop (ι:=Nat) (λi=>[(0,.list none ((l).map .str)),(5,.int .i64 ((l).length:Nat)),(6,.int .i64 (i:Nat))]) (λ_=>s) (λi=>i<=(l).length/\(l.take i).Nodup) (λi=>(l).length-i) 0 ⟨aW _,by simp⟩ ?_ (aE _) ?_
 .simp only[go_sem]
  try exact rfl
  try exact⟨rfl,rfl⟩
 .rintro i ⟨hi,G⟩;refine aX (V:=[0,2,3,5,6,7,16]) _ _ _ _ ?_;simp only[go_sem]
  (apply aJ<;>intro h)<;>simp only[go_sem,h]
  .have y:i<l.length:=gQ h;clear h;obtain⟨a,z⟩:=bB y;have am:=bK z
   (try simp only[go_sem,z,y])
   (refine bD (OT.r 0 8) [] ?_;simp only[go_sem,z,y]);rw[<-lC];refine⟨λx hx=>fK hx,hi,mU (l.take i) a ?_⟩;simp only[go_sem]
   have m:(l.take (i+1)).Nodup↔a ∉ l.take i:=by
    rw[eB z,List.nodup_append];simp only[bO];exact⟨λH q=>H.2.2 a q a rfl rfl,λH=>⟨G,by simp,λu hu v hv e=>H (by rw[<-hv,<-e];exact hu)⟩⟩
   (apply aJ<;>intro h)<;>simp only[go_sem,h]
   .have U:a∈l.take i:=gQ h;rw[bR (λq=>(m.1 (q.sublist (List.take_sublist _ _))) U)]at B;exact aP B
   .have U:a ∉ l.take i:=gQ h;exact⟨i+1,⟨y,m.2 U⟩,by omega,O.wrap (i:=i) (gQ y),aE _⟩
  .have ie:=bQ hi h;clear h;subst ie;rw[bT]at G;rw[cT G]at B;exact aP B
theorem aOT(x:aC)(hl:x.length<=4611686018427387904)(h:KV s (if mE x=true then .tuple [.str (x.take (x.length-2)),.str (x.drop (x.length-2))] else .tuple [.str x,.str []])):Den cx 245 [.str x] KV Kp s:=by
 (refine aN func245 [0,2,3,4,29] ?_;simp only[go_sem,ntmps245,f245]);by_cases h2:2<x.length
 .have G:IntKind.i64.wrap ((x.length:Int)-2)=((x.length-2:Nat):Int):=by rw[fV _ aB aB];omega
  have B:IntKind.i64.wrap ((x.length:Int)-1)=((x.length-1:Nat):Int):=by rw[fV _ aB aB];omega
  have d1:decide ((3:Int)<=(x.length:Int))=true:=by rw[bW];omega
  obtain⟨u,y⟩:∃c,x[x.length-2]?=some c:=⟨_,dI aB⟩
  obtain⟨m,z⟩:∃c,x[x.length-1]?=some c:=⟨_,dI aB⟩
  have O:x.length-2<x.length:=by omega
  have U:x.length-1<x.length:=by omega
  have Z:(0:Int)<=((x.length-2:Nat):Int):=by omega
  have n2:(0:Int)<=((x.length-1:Nat):Int):=by omega
  simp only[go_sem,G,B,d1,y,z,qK,O,U,Z,n2]
  have ef:mE x=(decide ((u.toNat:Int)=39)&&(decide ((49:Int)<=(m.toNat:Int))&&decide ((m.toNat:Int)<=56))):=by
   unfold mE;rw[y,z,cT h2,dW]
   have e1:decide (some u=some (39:UInt8))=decide ((u.toNat:Int)=39):=by
    rw[cC,bV,<-rJ];show u.toNat=39↔_;omega
   have e2:decide ((49:Int)<=(m.toNat:Int))=decide (49<=m.toNat):=by rw[cC];omega
   have e3:decide ((m.toNat:Int)<=56)=decide (m.toNat<=56):=by rw[cC];omega
   rw[e1,e2,e3]
  rw[ef]at h;cases H:decide ((u.toNat:Int)=39)<;>rw[H]at h<;>simp only[go_sem,G,B,y,z,qK,O,U,Z,n2,H]
  .exact aP h
  .cases hB:decide ((49:Int)<=(m.toNat:Int))<;>rw[hB]at h<;>simp only[go_sem,G,B,y,z,qK,O,U,Z,n2,H,hB]
   .exact aP h
   .cases hC:decide ((m.toNat:Int)<=56)<;>rw[hC]at h<;>simp only[go_sem,G,B,y,z,qK,O,U,Z,n2,H,hB,hC]
    .exact aP h
    ·(refine bD (OT.r 0 10) [] ?_;simp only[go_sem,G,B]);exact⟨by omega,by omega,aP h⟩
 .have d1:decide ((3:Int)<=(x.length:Int))=false:=by rw[fO];omega
  simp only[go_sem,d1];rw[aD (by simp[mE,h2])]at h;exact aP h
theorem aI1(x:aC)(hl:x.length<=4611686018427387904)(h:KV s (.bool (rU x))):Den cx 198 [.str x] KV Kp s:=by
 (refine aN func198 [0,2,3] ?_;simp only[go_sem,ntmps198,f198]);refine aOT _ aB ?_;cases m:mE x<;>simp only[rU,m,dF,dA,cZ]at h⊢<;>simp only[go_sem]<;>refine tJ _ _ _ _ (by(try rw[dT]);omega) ?_<;>simp only[go_sem]<;>exact aP h
theorem aSC(b:UInt8):oQ b=!(decide ((b.toNat:Int)<33)||(decide (126<(b.toNat:Int))||(mJ b.toNat||(lT b.toNat||(decide ((b.toNat:Int)=95)||(decide ((b.toNat:Int)=34)||(decide ((b.toNat:Int)=39)||decide ((b.toNat:Int)=92)))))))):=by
 have e:decide (b∈([34,39,92]:List UInt8))=(decide ((b.toNat:Int)=34)||(decide ((b.toNat:Int)=39)||decide ((b.toNat:Int)=92))):=by
  rw[gA];simp only[bW,gV,dG,iI,eJ,<-rJ];show b.toNat=34\/b.toNat=39\/b.toNat=92↔_;omega
 unfold oQ;rw[e,aBQ];simp only[Bool.not_or,Bool.and_assoc]
theorem aOy(x:aC)(hl:x.length<=4611686018427387904)(m:KV s (.bool (aAP x))):Den cx 247 [.str x] KV Kp s:=by
 unfold aAP at m;have O:decide ((x.length:Int)<1)=!decide (1<=x.length):=by rw[<-decide_not,cC];omega
 have U:decide ((20:Int)<(x.length:Int))=!decide (x.length<=20):=by rw[<-decide_not,cC];omega
 (refine aN func247 [0,2,3,4,12,14,16,17,18,52] ?_;simp only[go_sem,ntmps247,f247]);simp only[go_sem,O,U];cases c1:decide (1<=x.length)<;>rw[c1]at m O<;>simp only[go_sem,O,U]
 .exact aP m
 cases c2:decide (x.length<=20)<;>rw[c2]at m U<;>simp only[go_sem,O,U]
 .exact aP m
 refine tJ _ _ _ _ hl ?_;cases c3:cP x<;>rw[c3]at m<;>simp only[go_sem]
 rotate_left
 .exact aP m
 refine Ex.loop (ι:=Nat) (λi=>[(0,.str x),(16,.int .i64 (x.length:Nat)),(17,.int .i64 (i:Nat))]) (λ_=>s) (λi=>i<=x.length/\(x.take i).all oQ=true) (λi=>x.length-i) 0 ⟨aW _,by simp⟩ ?_ (aE s) ?_
 .simp only[go_sem]
  try exact rfl
 .rintro i ⟨hi,Z⟩;refine aX (V:=[0,2,3,4,12,14,16,17,18,52]) _ _ _ _ ?_;simp only[go_sem]
  (apply aJ<;>intro h)<;>simp only[go_sem,h]
  .have y:i<x.length:=gQ h;clear h;obtain⟨d,u⟩:=bB y;have dm:=bK u
   (try simp only[go_sem,u,y])
   have z:(0:Int)<=(i:Int):=by omega
   have e:=aSC d;have bad:oQ d=false->x.all oQ=false:=λq=>jQ.2 λH=>by rw[dE]at H;rw[H d dm]at q;cases q
   (try simp only[go_sem,u,y,z])
   cases c4:decide ((d.toNat:Int)<33)<;>rw[c4]at e<;>simp only[go_sem,u,y,z,c4]
   rotate_left
   .rw[bad e]at m;exact aP m
   cases c5:decide (126<(d.toNat:Int))<;>rw[c5]at e<;>simp only[go_sem,u,y,z,c5]
   rotate_left
   .rw[bad e]at m;exact aP m
   refine aIq _ _ _ _ ?_;cases c6:mJ d.toNat<;>rw[c6]at e<;>simp only[go_sem,u,y,z]
   rotate_left
   .rw[bad e]at m;exact aP m
   refine aIJ _ _ _ _ ?_;cases c7:lT d.toNat<;>rw[c7]at e<;>simp only[go_sem,u,y,z]
   rotate_left
   .rw[bad e]at m;exact aP m
   cases c8:decide ((d.toNat:Int)=95)<;>rw[c8]at e<;>simp only[go_sem,u,y,z,c8]
   rotate_left
   .rw[bad e]at m;exact aP m
   cases c9:decide ((d.toNat:Int)=34)<;>rw[c9]at e<;>simp only[go_sem,u,y,z,c9]
   rotate_left
   .rw[bad e]at m;exact aP m
   cases B:decide ((d.toNat:Int)=39)<;>rw[B]at e<;>simp only[go_sem,u,y,z,B]
   rotate_left
   .rw[bad e]at m;exact aP m
   cases G:decide ((d.toNat:Int)=92)<;>rw[G]at e<;>simp only[go_sem,u,y,z,G]
   rotate_left
   .rw[bad e]at m;exact aP m
   exact⟨i+1,⟨y,by rw[eB u,kN,Z,fG,e];rfl⟩,by omega,aU i aB,aE _⟩
  .have ie:=bQ hi h;clear h;subst ie;rw[bT]at Z;rw[Z]at m;exact aP m
theorem aI7(sg:Sig)(o:Opr)(y:KV s (.bool (tY sg o)))(U:o.args.length<=4294967000):Den cx 200 [.agg sg.cs,.agg o.cs] KV Kp s:=by
 unfold tY at y;(refine aN func200 [0,1,2,3,4,6,8,9,10,11,17] ?_;simp only[go_sem,ntmps200,f200]);(refine aM λp m=>?_);simp only[go_sem,m];(refine aM λq u=>?_);simp only[go_sem,m,u];refine Ex.loop (ι:=Nat) (λi=>[(2,.ptr p 0),(3,.ptr q 0),(8,.list none ((o.args).map .str)),(9,.int .i64 ((o.args).length:Nat)),(10,.int .i64 (i:Nat))]) (λ_=>(s.setO p (.cells 26 sg.cs)).setO q (.cells 80 o.cs)) (λi=>i<=(o.args).length/\(o.args.take i).all (cR sg)=true) (λi=>(o.args).length-i) 0 ⟨aW _,by simp⟩ ?_ (aE _) ?_
 .simp only[go_sem,m,u]
  try exact rfl
  try exact⟨rfl,rfl⟩
 .rintro i ⟨Z,z⟩;refine aX (V:=[0,1,2,3,4,6,8,9,10,11,17]) _ _ _ _ ?_;simp only[go_sem,m,u]
  (apply aJ<;>intro h)<;>simp only[go_sem,h,m,u]
  .have G:i<o.args.length:=gQ h;clear h;obtain⟨a,B⟩:=bB G;have O:=bK B
   (try simp only[go_sem,B,G,m,u])
   refine aC3 sg a ?_;simp only[go_sem,m,u];cases c:cR sg a<;>simp only[go_sem,m,u]
   .rw[show o.args.all (cR sg)=false from jQ.2 λH=>by rw[dE]at H;rw[H a O]at c;cases c]at y;exact aG y aR
   .exact⟨i+1,⟨G,by rw[eB B,kN,z,fG,c];rfl⟩,by omega,aU i aB,aE _⟩
  .have ie:=bQ Z h;clear h;subst ie;rw[bT]at z;rw[z]at y;have e:decide ((o.args.length:Int)<=8)=decide (o.args.length<=8):=by rw[cC];omega
   rw[e];exact aG y aR
end
end
section
section
variable {s:St} {KV Kp:St->A->Prop}
theorem aUY(tk:Option Nat)(l:List aC)(x:aC)(h:KV s (.bool (decide (x∈l)))):Den cx 46 [.list tk (l.map .str),.str x] KV Kp s :=
 jI (show kC [.list tk (l.map .str),.str x] [.list none (l.map .str),.str x] from⟨A.le.forget _ _,bL _,trivial⟩) (mU l x h)
end
theorem aIz(sg:Sig)(a:aC)(hw:sg.below.length<=4294967000)(s:St)(KV Kp:St->A->Prop)(hk:KV s (strs (pU sg.below a))):Den cx 197 [.agg sg.cs,.str a] KV Kp s:=by
 (refine uQ func197 aBa ?_;simp only[go_sem,ntmps197,f197]);(refine aM λp H=>?_);simp only[go_sem];refine .inr λt b8=>?_
 refine Ex.loop (ι:=Nat × List aC) (λc=>[(2,.ptr p 0),(5,.list (some t) (c.2.map .str)),(6,.int .i64 (c.1:Nat))])
  (λc=>(s.setO p (.cells 26 sg.cs)).setT t (c.2.length,9))
  (λc=>c.1<=c.2.length/\c.2.length<=1+oS sg.below c.2/\∃f,f+c.1=sg.below.length+2/\xI sg.below f c.1 c.2=pU sg.below a) (λc=>sg.below.length+2-c.1) (0,[a]) ⟨aW _,by simp,_,rfl,rfl⟩ ?_ (by exact aE _) ?_
 .simp only[go_sem];exact rfl
 .rintro⟨i,out⟩ ⟨hi,b1,f,hf,O⟩;simp only at hi b1 hf O;have b9:=aD0 sg.below out;refine aX (V:=aBa) _ _ _ _ ?_;simp only[go_sem,H]
  (apply aJ<;>intro h)<;>simp only[go_sem,h,H]
  .have b6:i<out.length:=gQ h;clear h;obtain⟨x,hx⟩:=bB b6;obtain⟨f,rfl⟩:∃f',f=f'+1:=⟨f-1,by omega⟩
   simp only[xI,hx]at O
   refine Ex.loop (ι:=Nat × List aC) (λc=>[(2,.ptr p 0),(5,.list (some t) (c.2.map .str)),(6,.int .i64 (i:Nat)),(18,.list none (sg.below.map Below.enc)),(19,.int .i64 (sg.below.length:Nat)),(20,.int .i64 (c.1:Nat))])
    (λc=>(s.setO p (.cells 26 sg.cs)).setT t (c.2.length,9))
    (λc=>c.1<=sg.below.length/\c.2=(sg.below.take c.1).foldl (jB x) out/\c.2[i]?=some x/\c.2.length<=1+oS sg.below c.2) (λc=>sg.below.length-c.1) (0,out) ⟨aW _,rfl,hx,b1⟩ ?_ (by exact aE _) ?_
   .simp only[go_sem]
    try exact rfl
   .rintro⟨j,B⟩ ⟨hj,Z,z,b0⟩;simp only at hj Z z b0;have bb:=aD0 sg.below B;have b5:i<B.length:=(dZ.1 z).1;refine aX (V:=aBa) _ _ _ _ ?_;simp only[go_sem,H]
    (apply aJ<;>intro h)<;>simp only[go_sem,h,H]
    .have m:j<sg.below.length:=gQ h;clear h;obtain⟨b,hb⟩:=bB m;have G:=aIh (x:=x) (out:=out) hb;rw[<-Z]at G;have b3:b∈sg.below:=bK hb;have h4:=aFz (x:=x) b3 b0;have h3:=aIs (x:=x) (b:=b) z;have w1:=aU j aB;simp only[go_sem,H,hb,m];(refine aM λq hq=>?_);simp only[nW,iM,dB]at hq;simp only[go_sem,H,hq,hb,m,z];(refine bD (OT.r 0 14) [] ?_;simp only[go_sem,H,hq,hb,m,z]);refine⟨b5,?_⟩
     (apply aJ<;>intro h)<;>simp only[go_sem,h,H,hq,hb,m,z]
     .have U:b.low=x:=gQ h;clear h;refine cW (aUY _ B b.high ?_);by_cases hm:b.high∈B
      .have d1:decide (b.high∈B)=true:=cT hm;simp only[go_sem,d1,H,hq,hb];have e1:jB x B b=B:=by unfold jB;rw[aD (λh=>h.2 hm)]
       rw[e1]at G;exact⟨(j+1,B),⟨m,G.symm,z,b0⟩,aQ,⟨rfl,w1⟩,fB (gE (And.intro H hq))⟩
      .have d1:decide (b.high∈B)=false:=bR hm;have e1:jB x B b=B++[b.high]:=by unfold jB;rw[aF ⟨U,hm⟩]
       rw[e1]at G h3 h4;simp only[go_sem,d1,H,hq,hb];refine .inl ⟨by decide,λy hy=>by rw[bO.1 hy];rfl,λy hy=>fK hy,by omega,(j+1,B++[b.high]),⟨m,G.symm,h3,h4⟩,aQ,⟨by rw[bU];rfl,w1⟩,?_⟩;rw[oP,show B.length+1=(B++[b.high]).length by simp];exact fB (gE (And.intro H hq))
     .have U:¬ b.low=x:=gQ h;clear h;have e1:jB x B b=B:=by unfold jB;rw[aD (λh=>U h.1)]
      rw[e1]at G;exact⟨(j+1,B),⟨m,G.symm,z,b0⟩,aQ,⟨rfl,w1⟩,fB (gE (And.intro H hq))⟩
    .have b7:j=sg.below.length:=by have:¬ j<sg.below.length:=gQ h;omega
     subst b7;clear h;rw[bT]at Z;subst Z;have b2:=aJR (x:=x) b1 sg.below (λb h=>h);exact⟨(i+1,_),⟨aQ,b2,f,aQ,O⟩,aQ,⟨rfl,aU i aB⟩,aE _⟩
  .have b4:i=out.length:=by have:¬ i<out.length:=gQ h;omega
   subst b4;rw[aJH]at O;subst O;exact DK.mk hk (fR (tk:=some t) (bG H (aE s)) (λu hu=>by cases hu;exact b8)) (A.le.forget _ _)
section
variable {s:St} {KV Kp:St->A->Prop}
theorem aFG(sg:Sig)(a b:aC)(u:sg.below.length<=4294967000)(h:KV s (.bool (sL sg a b))):Den cx 163 [.agg sg.cs,.str a,.str b] KV Kp s:=by
 unfold sL at h;(refine aN func163 [0,1,2,3,6] ?_;simp only[go_sem,ntmps163,f163]);(refine aM λp m=>?_);simp only[go_sem,m];cases c:decide (b=[65,110,121])<;>rw[c]at h<;>simp only[go_sem,m,c]
 .refine aIz sg a u _ _ _ ?_;unfold strs;simp only[go_sem,m];refine mU _ b ?_;simp only[go_sem,m];exact aG h aR
 .exact aG h aR
theorem aIw(sg:Sig)(a b:aC)(u:sg.below.length<=4294967000)(h:KV s (.bool (xJ sg a b))):Den cx 161 [.agg sg.cs,.str a,.str b] KV Kp s:=by
 unfold xJ at h;(refine aN func161 [0,1,2,3,6] ?_;simp only[go_sem,ntmps161,f161]);(refine aM λp m=>?_);simp only[go_sem,m];refine aFG sg a b u ?_;cases c:sL sg a b<;>rw[c]at h<;>simp only[go_sem,m]
 .refine aFG sg b a u ?_;simp only[go_sem,m];exact aG h aR
 .exact aG h aR
theorem aNV(sg:Sig)(a:aC)(H:sg.below.length<=4294967000)(y:sg.values.length<=4294967000)(u:KV s (.bool (tS sg a))):Den cx 101 [.agg sg.cs,.str a] KV Kp s:=by
 unfold tS at u;(refine aN func101 [0,1,2,4,6,8,9,10,11,17] ?_;simp only[go_sem,ntmps101,f101]);(refine aM λp m=>?_);simp only[go_sem,m];refine Ex.loop (ι:=Nat) (λi=>[(1,.str a),(2,.ptr p 0),(8,.list none ((sg.values).map .str)),(9,.int .i64 ((sg.values).length:Nat)),(10,.int .i64 (i:Nat))]) (λ_=>s.setO p (.cells 26 sg.cs)) (λi=>i<=(sg.values).length/\(sg.values.take i).any (λv=>sL sg a v)=false) (λi=>(sg.values).length-i) 0 ⟨aW _,rfl⟩ ?_ (aE _) ?_
 .simp only[go_sem,m]
  try exact rfl
  try exact⟨rfl,rfl⟩
 .rintro i ⟨G,z⟩;refine aX (V:=[0,1,2,4,6,8,9,10,11,17]) _ _ _ _ ?_;simp only[go_sem,m]
  (apply aJ<;>intro h)<;>simp only[go_sem,h,m]
  .have B:i<sg.values.length:=gQ h;clear h;obtain⟨v,y⟩:=bB B;have U:=bK y
   (try simp only[go_sem,y,B,m])
   refine aFG sg a v H ?_;cases c:sL sg a v<;>simp only[go_sem,m]
   .exact⟨i+1,⟨B,by rw[eB y,pC,z,pF,c];rfl⟩,by omega,aU i aB,aE _⟩
   .rw[show(sg.values.any λv=>sL sg a v)=true from jS.2 ⟨v,U,c⟩]at u;exact aG u aR
  .have O:=bQ G h;clear h;subst O;rw[bT]at z;rw[z]at u;exact aG u aR
theorem aDb(l:List Opr)(n:aC)(z:KV s (.tuple [((jZ l n).getD mI).enc,.bool (jZ l n).isSome])):Den cx 41 [.list none (l.map Opr.enc),.str n] KV Kp s:=by
 refine hH λb0=>?_
 have U:=b0 _ (cQ ..);(refine aN func41 [0,1,4,5,7,8,9,10,11,17] ?_;simp only[go_sem,ntmps41,f41]);(refine aM λp m=>?_);simp only[go_sem,m];refine Ex.loop (ι:=Nat) (λi=>[(1,.str n),(4,.ptr p 0),(8,.list none ((l).map Opr.enc)),(9,.int .i64 ((l).length:Nat)),(10,.int .i64 (i:Nat))]) (λ_=>s.setO p (.cells 80 [.str [],.nils,.str [],.nils,.int .i64 0,.int .i64 0,.nils])) (λi=>i<=(l).length/\(∀o,o∈l.take i->o.name≠n)) (λi=>(l).length-i) 0 ⟨aW _,λo h=>(by cases h)⟩ ?_ (aE _) ?_
 .simp only[go_sem,m]
  try exact rfl
  try exact⟨rfl,rfl⟩
 .rintro i ⟨hi,B⟩;refine aX (V:=[0,1,4,5,7,8,9,10,11,17]) _ _ _ _ ?_;simp only[go_sem,m]
  (apply aJ<;>intro h)<;>simp only[go_sem,h,m]
  .have u:i<l.length:=gQ h;clear h;obtain⟨o,ho⟩:=bB u;have om:=bK ho
   (try simp only[go_sem,ho,u,m])
   (refine aM λq Z=>?_);simp only[go_sem,m,Z]
   (apply aJ<;>intro h)<;>simp only[go_sem,h,m,Z]
   .have H:o.name=n:=gQ h
    have O:jZ l n=some o:=by
     unfold jZ;rw[List.find?_eq_some_iff_getElem];refine⟨cT H,i,u,by rw[dI u]at ho;exact tH ho,λj hj=>?_⟩;have:=B l[j] (bK (by rw[List.getElem?_take_of_lt hj,dI aB]));simpa using this
    rw[O]at z;simp only[qL,Option.isSome_some,Opr.enc,Opr.cs]at z;exact aG z aR
   .have H:¬ o.name=n:=gQ h;refine⟨i+1,⟨u,λy G=>?_⟩,by omega,U.wrap (i:=i) (gQ u),(gE (And.intro m Z))⟩;rw[eB ho,cK,bO]at G;rcases G with G|rfl
    .exact B y G
    .exact H
  .have ie:=bQ hi h;clear h;subst ie;rw[bT]at B
   have O:jZ l n=none:=by
    unfold jZ;rw[sE];exactλx hx=>by simpa using B x hx
   rw[O]at z;exact DK.mk z aR (A.le.tuple ⟨aDC,bL _,trivial⟩)
theorem aOJ(sg:Sig)(hl:sg.sorts.length<=4294967000)(Z:∀a,a∈sg.sorts->a.length<=4294967000)(u:KV s (.bool (aCp sg))):Den cx 150 [.agg sg.cs] KV Kp s:=by
 unfold aCp at u;(refine aN func150 [0,1,2,4,6,7,8,9,19] ?_;simp only[go_sem,ntmps150,f150]);(refine aM λp m=>?_);simp only[go_sem,m];refine Ex.loop (ι:=Nat) (λi=>[(1,.ptr p 0),(6,.list none ((sg.sorts).map .str)),(7,.int .i64 ((sg.sorts).length:Nat)),(8,.int .i64 (i:Nat))]) (λ_=>s.setO p (.cells 26 sg.cs)) (λi=>i<=(sg.sorts).length/\(sg.sorts.take i).all (λa=>cP a&&!decide (a∈kR))=true) (λi=>(sg.sorts).length-i) 0 ⟨aW _,rfl⟩ ?_ (aE _) ?_
 .simp only[go_sem,m]
  try exact rfl
  try exact⟨rfl,rfl⟩
 .rintro i ⟨U,y⟩;refine aX (V:=[0,1,2,4,6,7,8,9,19]) _ _ _ _ ?_;simp only[go_sem,m]
  (apply aJ<;>intro h)<;>simp only[go_sem,h,m]
  .have B:i<sg.sorts.length:=gQ h;clear h;obtain⟨a,z⟩:=bB B;have G:=bK z
   (try simp only[go_sem,z,B,m])
   refine tJ _ a _ _ (by have:=Z a G;omega) ?_;have bad:(cP a&&!decide (a∈kR))=false->(sg.sorts.all λa=>cP a&&!decide (a∈kR))=false:=λq=>jQ.2 λH=>by rw[dE]at H;rw[H a G]at q;cases q
   cases c:cP a<;>rw[c]at bad<;>simp only[go_sem,m]
   .rw[bad rfl]at u;exact aG u aR
   refine aC2 ?_;unfold strs;simp only[go_sem,m];refine mU wT a ?_;rw[aDj];cases O:decide (a∈kR)<;>rw[O]at bad<;>simp only[go_sem,m]
   .exact⟨i+1,⟨B,by rw[eB z,kN,y,fG,c,O];rfl⟩,by omega,aU i aB,aE _⟩
   .rw[bad rfl]at u;exact aG u aR
  .have ie:=bQ U h;clear h;subst ie;rw[bT]at y;rw[y]at u;have e:decide ((sg.sorts.length:Int)<=40)=decide (sg.sorts.length<=40):=by rw[cC];omega
   (try simp only[go_sem,m,e])
   cases c:decide (sg.sorts.length<=40)<;>rw[c]at u e<;>simp only[go_sem,m,e]
   .exact aG u aR
   refine aFw sg.sorts ?_;simp only[go_sem,m];exact aG u aR
theorem aFX{α:Type}{l:List α}{i:Nat}{a:α}(m:l[i]?=some a)(h:(l.take i).Nodup):(l.take (i+1)).Nodup↔a ∉ l.take i:=by
 rw[eB m,List.nodup_append];simp only[bO];exact⟨λH q=>H.2.2 a q a rfl rfl,λH=>⟨h,by simp,λu y v z e=>H (by rw[<-z,<-e];exact y)⟩⟩
theorem aOe(o:Opr)(hl:o.strict.length<=4294967000)(G:o.args.length<=4294967000)(u:KV s (.bool (aAH o))):Den cx 202 [.agg o.cs] KV Kp s:=by
 unfold aAH at u;(refine aN func202 aHw ?_;simp only[go_sem,ntmps202,f202]);(refine aM λp m=>?_);simp only[go_sem,m];refine Ex.loop (ι:=Nat) (λi=>[(1,.ptr p 0),(8,.list none ((o.strict).map (.int .i64))),(9,.int .i64 ((o.strict).length:Nat)),(10,.int .i64 (i:Nat))]) (λ_=>s.setO p (.cells 80 o.cs)) (λi=>i<=(o.strict).length/\(o.strict.take i).all (λi=>decide (1<=i)&&decide (i<=o.args.length))=true/\(o.strict.take i).Nodup) (λi=>(o.strict).length-i) 0 ⟨aW _,⟨rfl,List.nodup_nil⟩⟩ ?_ (aE _) ?_
 .simp only[go_sem,m]
  try exact rfl
  try exact⟨rfl,rfl⟩
 .rintro i ⟨hi,B⟩;refine aX (V:=aHw) _ _ _ _ ?_;simp only[go_sem,m]
  (apply aJ<;>intro h)<;>simp only[go_sem,h,m]
  .have ix:i<o.strict.length:=gQ h;clear h;obtain⟨a,G⟩:=bB ix;have am:=bK G
   (try simp only[go_sem,G,ix,m])
   have bad:(decide (1<=a)&&decide (a<=(o.args.length:Int)))=false->(o.strict.all λi=>decide (1<=i)&&decide (i<=(o.args.length:Int)))=false:=λq=>jQ.2 λH=>by rw[dE]at H;rw[H a am]at q;cases q
   have d1:decide (a<1)=!decide (1<=a):=by rw[<-decide_not,cC];omega
   have d2:decide ((o.args.length:Int)<a)=!decide (a<=(o.args.length:Int)):=by rw[<-decide_not,cC];omega
   cases c1:decide (1<=a)<;>rw[c1]at bad d1<;>simp only[go_sem,m,d1,d2]
   .rw[bad rfl]at u;exact aG u aR
   cases c2:decide (a<=(o.args.length:Int))<;>rw[c2]at bad d2<;>simp only[go_sem,m,d1,d2]
   .rw[bad rfl]at u;exact aG u aR
   rw[<-lC];refine⟨λx hx=>by obtain⟨z,_,rfl⟩:=cN.1 hx;rfl,hi,?_⟩;have O:(o.strict.take (i+1)).Nodup↔a ∉ o.strict.take i:=aFX G B.2;have tail:a ∉ o.strict.take i->(o.strict.take (i+1)).all (λi=>decide (1<=i)&&decide (i<=(o.args.length:Int)))=true/\(o.strict.take (i+1)).Nodup:=λq=>⟨by rw[eB G,kN,B.1,fG,c1,c2];rfl,O.2 q⟩
   have tl:(o.strict.take i).length<=4294967000:=by rw[dT];omega
   refine Ex.loop (ι:=Nat) (λj=>[(1,.ptr p 0),(4,.int .i64 a),(8,.list none (o.strict.map (.int .i64))),(9,.int .i64 (o.strict.length:Nat)),(10,.int .i64 (i:Nat)),(27,.list none (((o.strict.take i)).map (.int .i64))),(28,.int .i64 (((o.strict.take i)).length:Nat)),(29,.int .i64 (j:Nat))]) (λ_=>s.setO p (.cells 80 o.cs)) (λj=>j<=((o.strict.take i)).length/\(∀b,b∈(o.strict.take i).take j->b≠a)) (λj=>((o.strict.take i)).length-j) 0 ⟨aW _,λb h=>(by cases h)⟩ ?_ (aE _) ?_
   .simp only[go_sem,m]
    try exact rfl
    try exact⟨rfl,rfl⟩
   .rintro j ⟨hj,Z⟩;refine aX (V:=aHw) _ _ _ _ ?_;simp only[go_sem,m]
    (apply aJ<;>intro h)<;>simp only[go_sem,h,m]
    .have jx:j<(o.strict.take i).length:=gQ h;clear h;obtain⟨b,hb⟩:=bB jx;have bm:=bK hb
     (try simp only[go_sem,hb,jx,m])
     (apply aJ<;>intro h)<;>simp only[go_sem,h,m]
     .have he:b=a:=gQ h;rw[bR (λq=>O.1 (q.sublist (List.take_sublist _ _)) (he▸bm)),iZ]at u;exact aG u aR
     .have he:¬ b=a:=gQ h;refine⟨j+1,⟨jx,λy U=>?_⟩,by omega,aU j aB,aE _⟩;rw[eB hb,cK,bO]at U;rcases U with U|rfl
      .exact Z y U
      .exact he
    .have je:=bQ hj h;clear h;rw[je,bT]at Z;exact⟨i+1,⟨ix,tail λq=>Z a q rfl⟩,by omega,aU i aB,aE _⟩
  .have ie:=bQ hi h;clear h;subst ie;rw[bT]at B;rw[B.1,cT B.2]at u;exact aG u aR
theorem aVr:List.lookup 112 [(36,[0,2,0,0]),(112,[2,2]),(218,[2,2])]=some [2,2]:=rfl
theorem aOH(sg:Sig)(hw:sg.below.length<=4294967000)(B:KV s (.bool (aCl sg))):Den cx 151 [.agg sg.cs] KV Kp s:=by
 unfold aCl at B;(refine aN func151 aEo ?_;simp only[go_sem,ntmps151,f151]);(refine aM λp m=>?_);simp only[go_sem,m];refine Ex.loop (ι:=Nat) (λi=>[(1,.ptr p 0),(10,.list none ((sg.below).map Below.enc)),(11,.int .i64 ((sg.below).length:Nat)),(12,.int .i64 (i:Nat))]) (λ_=>s.setO p (.cells 26 sg.cs)) (λi=>i<=(sg.below).length/\(sg.below.take i).all (λb=>cR sg b.low&&(!decide (b.low=[65,110,121])&&decide (b.high∈sg.sorts)))=true/\(sg.below.take i).Nodup) (λi=>(sg.below).length-i) 0 ⟨aW _,⟨rfl,List.nodup_nil⟩⟩ ?_ (aE _) ?_
 .simp only[go_sem,m]
  try exact rfl
  try exact⟨rfl,rfl⟩
 .rintro i ⟨hi,G⟩;refine aX (V:=aEo) _ _ _ _ ?_;simp only[go_sem,m]
  (apply aJ<;>intro h)<;>simp only[go_sem,h,m]
  .have U:i<sg.below.length:=gQ h;clear h;obtain⟨a,O⟩:=bB U;have am:=bK O
   (try simp only[go_sem,O,U,m])
   (refine aM λq u=>?_);simp only[go_sem,m,u];have bad:(cR sg a.low&&(!decide (a.low=[65,110,121])&&decide (a.high∈sg.sorts)))=false->(sg.below.all λb=>cR sg b.low&&(!decide (b.low=[65,110,121])&&decide (b.high∈sg.sorts)))=false:=λq=>jQ.2 λH=>by rw[dE]at H;rw[H a am]at q;cases q
   refine aC3 sg a.low ?_;cases Z:cR sg a.low<;>rw[Z]at bad<;>simp only[go_sem,m,u]
   .rw[bad rfl]at B;exact aG B aR
   cases c2:decide (a.low=[65,110,121])<;>rw[c2]at bad<;>simp only[go_sem,m,u,c2]
   rotate_left
   .rw[bad rfl]at B;exact aG B aR
   refine mU sg.sorts a.high ?_;cases c3:decide (a.high∈sg.sorts)<;>rw[c3]at bad<;>simp only[go_sem,m,u]
   .rw[bad rfl]at B;exact aG B aR
   rw[<-lC];refine⟨λx hx=>by obtain⟨z,_,rfl⟩:=cN.1 hx;rfl,hi,?_⟩;have b0:(sg.below.take (i+1)).Nodup↔a ∉ sg.below.take i:=aFX O G.2;have tail:a ∉ sg.below.take i->(sg.below.take (i+1)).all (λb=>cR sg b.low&&(!decide (b.low=[65,110,121])&&decide (b.high∈sg.sorts)))=true/\(sg.below.take (i+1)).Nodup:=λq=>⟨by rw[eB O,kN,G.1,fG,Z,c2,c3];rfl,b0.2 q⟩
   have tl:(sg.below.take i).length<=4294967000:=by rw[dT];omega
   refine Ex.loop (ι:=Nat) (λj=>[(1,.ptr p 0),(4,.ptr q 0),(10,.list none (sg.below.map Below.enc)),(11,.int .i64 (sg.below.length:Nat)),(12,.int .i64 (i:Nat)),(38,.list none (((sg.below.take i)).map Below.enc)),(39,.int .i64 (((sg.below.take i)).length:Nat)),(40,.int .i64 (j:Nat))]) (λ_=>(s.setO p (.cells 26 sg.cs)).setO q (.cells 112 a.cs)) (λj=>j<=((sg.below.take i)).length/\(∀b,b∈(sg.below.take i).take j->b≠a)) (λj=>((sg.below.take i)).length-j) 0 ⟨aW _,λb h=>(by cases h)⟩ ?_ (aE _) ?_
   .simp only[go_sem,m,u]
    try exact rfl
    try exact⟨rfl,rfl⟩
   .rintro j ⟨hj,Hj⟩;refine aX (V:=aEo) _ _ _ _ ?_;simp only[go_sem,m,u]
    (apply aJ<;>intro h)<;>simp only[go_sem,h,m,u]
    .have jx:j<(sg.below.take i).length:=gQ h;clear h;obtain⟨b,hb⟩:=bB jx;have bm:=bK hb
     (try simp only[go_sem,hb,jx,m,u])
     (refine aM λr hr=>?_);simp only[go_sem,m,u,hr,aVr]
     have ee:(a.low=b.low/\a.high=b.high)↔b=a:=by
      cases a;cases b;simp only[Below.mk.injEq];exact⟨λh=>⟨h.1.symm,h.2.symm⟩,λh=>⟨h.1.symm,h.2.symm⟩⟩
     (apply aJ<;>intro h)<;>simp only[go_sem,h,m,u,hr]
     .have he:b=a:=ee.1 (gQ h);rw[bR (λq=>b0.1 (q.sublist (List.take_sublist _ _)) (he▸bm)),iZ]at B;exact aG B aR
     .have he:¬ b=a:=λe=>cV (ee.2 e) (gQ h)
      refine⟨j+1,⟨jx,λy hy=>?_⟩,by omega,aU j aB,(gE (And.intro m (And.intro u hr)))⟩;rw[eB hb,cK,bO]at hy;rcases hy with hy|rfl
      .exact Hj y hy
      .exact he
    .have je:=bQ hj h;clear h;rw[je,bT]at Hj;exact⟨i+1,⟨U,tail λq=>Hj a q rfl⟩,by omega,aU i aB,(gE (And.intro m u))⟩
  .have ie:=bQ hi h;clear h;subst ie;rw[bT]at G;rw[G.1,cT G.2]at B
   (try simp only[go_sem,m])
   refine Ex.loop (ι:=Nat) (λi=>[(1,.ptr p 0),(50,.list none ((sg.below).map Below.enc)),(51,.int .i64 ((sg.below).length:Nat)),(52,.int .i64 (i:Nat))]) (λ_=>s.setO p (.cells 26 sg.cs)) (λi=>i<=(sg.below).length/\(sg.below.take i).all (λb=>!decide (b.low∈pU sg.below b.high))=true) (λi=>(sg.below).length-i) 0 ⟨aW _,rfl⟩ ?_ (aE _) ?_
   .simp only[go_sem,m]
    try exact rfl
    try exact⟨rfl,rfl⟩
   .rintro i ⟨hi,G⟩;refine aX (V:=aEo) _ _ _ _ ?_;simp only[go_sem,m]
    (apply aJ<;>intro h)<;>simp only[go_sem,h,m]
    .have U:i<sg.below.length:=gQ h;clear h;obtain⟨a,O⟩:=bB U;have am:=bK O
     (try simp only[go_sem,O,U,m])
     (refine aM λq u=>?_);simp only[go_sem,m,u];(refine bD (OT.l [0,1,2,4,5,3,6] .nil) [(3,[5])] ?_;simp only[go_sem,m,u]);refine aIz sg a.high hw _ _ _ ?_;unfold strs;simp only[go_sem,m,u];refine mU _ a.low ?_;cases Z:decide (a.low∈pU sg.below a.high)<;>simp only[go_sem,m,u]
     .exact⟨i+1,⟨U,by rw[eB O,kN,G,fG,Z];rfl⟩,by omega,aU i aB,(gE (And.intro m u))⟩
     .rw[show(sg.below.all λb=>!decide (b.low∈pU sg.below b.high))=false from jQ.2 λH=>by rw[dE]at H;have:=H a am;rw[Z]at this;cases this]at B;exact aG B aR
    .have ie:=bQ hi h;clear h;subst ie;rw[bT]at G;rw[G]at B;have e:decide ((sg.below.length:Int)<=200)=decide (sg.below.length<=200):=by rw[cC];omega
     (try simp only[go_sem,m,e])
     exact aG B aR
theorem aOn(o:Opr)(hl:o.pieces.length<=4294967000)(ht:∀x,x∈o.pieces->x.text.length<=4294967000)(m:KV s (.bool (aAI o))):Den cx 201 [.agg o.cs] KV Kp s:=by
 unfold aAI at m;(refine aN func201 [0,1,2,3,5,7,8,9,10,13,22,31,40] ?_;simp only[go_sem,ntmps201,f201]);(refine aM λp hp=>?_)
 (try simp only[go_sem])
 obtain⟨S0,gp,b4,b0⟩:=gZ s p (.cells 80 o.cs) (hp)
 try simp only[go_sem]at b0 gp
 rw[b0];clear b0;clear hp
 (try simp only[go_sem,gp])
 refine Ex.loop (ι:=Nat × Option Nat) (λk=>[(1,.ptr p 0),(3,gv k.2 ((((o.pieces.take k.1).map Piece.sort).filter (λx=>!decide (x=[]))).map .str)),(7,.list none (o.pieces.map Piece.enc)),(8,.int .i64 (o.pieces.length:Nat)),(9,.int .i64 (k.1:Nat))])
  (λk=>gs S0 k.2 (((o.pieces.take k.1).map Piece.sort).filter (λx=>!decide (x=[]))).length 9)
  (λk=>k.1<=o.pieces.length/\(k.2=none->((o.pieces.take k.1).map Piece.sort).filter (λx=>!decide (x=[]))=[])/\(∀t,k.2=some t->S0.getT t=none)/\(o.pieces.take k.1).all wR=true) (λk=>o.pieces.length-k.1) (0,none) ⟨aW _,λ_=>rfl,λt h=>(by cases h),rfl⟩ ?_ (aE _) ?_
 .simp only[go_sem,gp]
  try exact⟨rfl,rfl⟩
 .rintro⟨i,tk⟩ ⟨hi,hn,hf,hI⟩;simp only at hi hn hf hI;refine aX (V:=[0,1,2,3,5,7,8,9,10,13,22,31,40]) _ _ _ _ ?_;have G:=fR (aE S0) (n:=(((o.pieces.take i).map Piece.sort).filter (λx=>!decide (x=[]))).length) (e:=9) hf;have b2:iV (gs S0 tk (((o.pieces.take i).map Piece.sort).filter (λx=>!decide (x=[]))).length 9) tk (((o.pieces.take i).map Piece.sort).filter (λx=>!decide (x=[]))).length 9:=fD λe=>by rw[hn e];rfl
  simp only;generalize hS:gs S0 tk (((o.pieces.take i).map Piece.sort).filter (λx=>!decide (x=[]))).length 9=S at G b2;have g1:=G.ob _ _ gp;simp only[go_sem,g1]
  (apply aJ<;>intro h)<;>simp only[go_sem,h,g1]
  .have ix:i<o.pieces.length:=gQ h;clear h;obtain⟨x,hx⟩:=bB ix;have xm:=bK hx;have ts:=eB hx;have bad:wR x=false->o.pieces.all wR=false:=λq=>jQ.2 λH=>by rw[dE]at H;rw[H x xm]at q;cases q
   simp only[go_sem,g1,hx,ix];(refine cH λq hq=>?_);have f1:=aI g1 (aS hq)
   (try simp only[go_sem,g1,hx,ix,hq,f1])
   obtain⟨S2,gq,B,b1⟩:=gZ S q (.cells 218 x.cs) (aS hq)
   try simp only[go_sem]at b1 gq
   rw[b1];clear b1;have g2:=B.ob _ _ g1;have b5:=yX b2 B;have pe:wR x=(!(!decide (x.sort=[])&&!decide (x.text=[]))&&(!decide (x.sort=[])||aAP x.text)):=rfl;have U:=B.trans (G.trans b4);cases O:decide (x.sort=[])<;>rw[O]at pe<;>simp only[go_sem,g2,gq,O]
   .cases c2:decide (x.text=[])<;>rw[c2]at pe<;>simp only[go_sem,g2,gq,c2]
    .rw[bad pe]at m;exact aG m U
    (apply aJ<;>intro h)<;>simp only[go_sem,h,g2,gq,O]
    .clear h
     have Z:((o.pieces.take (i+1)).map Piece.sort).filter (λx=>!decide (x=[]))=((o.pieces.take i).map Piece.sort).filter (λx=>!decide (x=[]))++[x.sort]:=by
      rw[ts,bU,List.filter_append,List.map_singleton,List.filter_cons,O];rfl
     have fl:(((o.pieces.take i).map Piece.sort).filter (λx=>!decide (x=[]))).length<=4294967000:=pH (List.length_filter_le _ _) (by rw[aO,dT];omega);generalize ((o.pieces.take i).map Piece.sort).filter (λx=>!decide (x=[]))=L at hn b2 b5 Z fl hS⊢;refine⟨by decide,λy hy=>(by rw[bO.1 hy];rfl),dU rfl rfl (by rw[aO];exact b5) (λy hy=>fK hy) (by simp only[aO,aV,aZ];omega) (λu hu=>?_)⟩;have b6:=aB8 hf (B.trans G) hu;simp only[go_sem];refine⟨(i+1,some u),⟨ix,λh=>(by cases h),λt h=>by cases h;exact b6,by rw[ts,kN,hI,fG,pe];rfl⟩,aQ,⟨by rw[Z,bU];rfl,aU i aB⟩,?_⟩;show St.ge _ (S0.setT u ((((o.pieces.take (i+1)).map Piece.sort).filter (λx=>!decide (x=[]))).length,9));rw[Z,aH];exact fB (B.trans G)
    .rw[O]at h;cases h
   .have Z:((o.pieces.take (i+1)).map Piece.sort).filter (λx=>!decide (x=[]))=((o.pieces.take i).map Piece.sort).filter (λx=>!decide (x=[])):=by
     rw[ts,bU,List.filter_append,List.map_singleton,List.filter_cons,O];exact dK _
    refine aOy x.text (by have:=ht x xm;omega) ?_;cases c2:aAP x.text<;>rw[c2]at pe<;>simp only[go_sem,g2,gq]
    .rw[bad (by rw[pe];simp)]at m;exact aG m U
    .refine⟨(i+1,tk),⟨ix,by simpa only[Z]using hn,hf,by rw[ts,kN,hI,fG,pe];simp⟩,aQ,⟨by rw[Z],aU i aB⟩,?_⟩;simp only;rw[Z,hS];exact B
  .have ie:=bQ hi h;clear h;subst ie;rw[bT]at hI hn;rw[hI]at m;simp only[bT]
   (try simp only[go_sem,g1])
   have z:=G.trans b4;have e0:decide ((o.pieces.length:Int)=0)=decide (o.pieces.length=0):=by rw[cC];omega
   have b3:decide ((o.pieces.length:Int)<=20)=decide (o.pieces.length<=20):=by rw[cC];omega
   (apply aJ<;>intro h)<;>simp only[go_sem,h,g1]
   .have h0:o.pieces.length=0:=gQ h;rw[aF h0]at m;cases O:decide (o.prec=0)<;>rw[O]at m<;>simp only[go_sem,g1,O]
    .exact aG m z
    .exact aG m z
   .have h0:¬ o.pieces.length=0:=gQ h;clear h;rw[aD h0]at m;cases O:decide (o.pieces.length<=20)<;>rw[O]at m b3<;>simp only[go_sem,g1,b3]
    .exact aG m z
    refine jI (show kC _ [.list none ((((o.pieces.map Piece.sort).filter (λx=>!decide (x=[]))).map .str)),.list none (o.args.map .str)] from⟨kJ tk ((((o.pieces.map Piece.sort).filter (λx=>!decide (x=[]))).map .str)) (λe=>by rw[hn e];rfl),bL _,trivial⟩) (aPJ S _ o.args _ _ ?_);cases c2:eX (λa b=>decide (a=b)) ((o.pieces.map Piece.sort).filter (λx=>!decide (x=[]))) o.args<;>rw[c2]at m<;>simp only[go_sem,g1]
    .exact aG m z
    cases c3:decide (0<=o.prec)<;>rw[c3]at m<;>simp only[go_sem,g1,c3]
    .exact aG m z
    cases c4:decide (o.prec<=20)<;>rw[c4]at m<;>simp only[go_sem,g1,c4]
    .exact aG m z
    cases c5:decide (0<=o.assoc)<;>rw[c5]at m<;>simp only[go_sem,g1,c5]
    .exact aG m z
    cases c6:decide (o.assoc<=2)<;>rw[c6]at m<;>simp only[go_sem,g1,c6]
    .exact aG m z
    cases c7:decide (0<o.prec)<;>rw[c7]at m<;>simp only[go_sem,g1,c7]
    .exact aG m z
    .exact aG m z
end
end
section
structure OprB (o:Opr):Prop where
 nm:o.name.length<=4294967000
 ar:o.args.length<=4294967000
 pc:o.pieces.length<=4294967000
 pt:∀x,x∈o.pieces->x.text.length<=4294967000
 st:o.strict.length<=4294967000
section
variable {s:St} {KV Kp:St->A->Prop}
theorem aQM(sg:Sig)(hl:sg.ops.length+sg.funs.length<=4294967000)(hB:∀o,o∈sg.ops++sg.funs->OprB o)(z:KV s (.bool (aCM sg))):Den cx 152 [.agg sg.cs] KV Kp s:=by
 unfold aCM at z;(refine aN func152 aHo ?_;simp only[go_sem,ntmps152,f152]);(refine aM λp hp=>?_)
 (try simp only[go_sem])
 obtain⟨S0,gp,b3,b4⟩:=gZ s p (.cells 26 sg.cs) (hp)
 try simp only[go_sem]at b4 gp
 rw[b4];clear b4;clear hp
 (try simp only[go_sem,gp])
 refine Ex.loop (ι:=Nat × Option Nat) (λk=>[(1,.ptr p 0),(3,gv k.2 (((sg.ops.take k.1).map Opr.name).map .str)),(9,.list none (sg.ops.map Opr.enc)),(10,.int .i64 (sg.ops.length:Nat)),(11,.int .i64 (k.1:Nat))])
  (λk=>gs S0 k.2 ((sg.ops.take k.1).length) 9)
  (λk=>k.1<=sg.ops.length/\(k.2=none->((sg.ops.take k.1).map Opr.name)=[])/\(∀t,k.2=some t->S0.getT t=none)/\(sg.ops.take k.1).all (yF sg)=true) (λk=>sg.ops.length-k.1) (0,none) ⟨aW _,λ_=>rfl,λt h=>(by cases h),rfl⟩ ?_ (aE _) ?_
 .simp only[go_sem,gp]
  try exact⟨rfl,rfl⟩
  try exact⟨by rw[dK],rfl⟩
 .rintro⟨i,tk⟩ ⟨hi,hn,hf,hI⟩;simp only at hi hn hf hI;refine aX (V:=aHo) _ _ _ _ ?_;have O:((sg.ops.take i).map Opr.name).length=(sg.ops.take i).length:=by simp only[aH,aO]
  have U:=fR (aE S0) (n:=(sg.ops.take i).length) (e:=9) hf;have G:iV (gs S0 tk ((sg.ops.take i).length) 9) tk ((sg.ops.take i).length) 9:=fD λe=>by rw[<-O,hn e];rfl
  have nl:(sg.ops.take i).length<=4294967000:=by simp only[dT];omega
  simp only;generalize hS:gs S0 tk ((sg.ops.take i).length) 9=S at U G;have g1:=U.ob _ _ gp;simp only[go_sem,g1]
  (apply aJ<;>intro h)<;>simp only[go_sem,h,g1]
  .have ix:i<sg.ops.length:=gQ h;clear h;obtain⟨x,hx⟩:=bB ix;have xm:=bK hx;have ts:=eB hx;have bad:yF sg x=false->sg.ops.all (yF sg)=false:=λq=>jQ.2 λH=>by rw[dE]at H;rw[H x xm]at q;cases q
   simp only[go_sem,g1,hx,ix];(refine cH λq hq=>?_);have f1:=aI g1 (aS hq)
   (try simp only[go_sem,g1,hx,ix,hq,f1])
   obtain⟨S2,gq,Z,b0⟩:=gZ S q (.cells 80 x.cs) (aS hq)
   try simp only[go_sem]at b0 gq
   rw[b0];clear b0;have g2:=Z.ob _ _ g1;have b1:=yX G Z;have fe:((sg.ops.take (i+1)).map Opr.name)=((sg.ops.take i).map Opr.name)++[x.name]:=by rw[ts,bU];rfl
   have fc:(sg.ops.take (i+1)).length=(sg.ops.take i).length+1:=by rw[ts,aH];rfl
   (try simp only[go_sem,g2,gq])
   generalize (sg.ops.take i).length=n at O G b1 nl hS fc⊢;generalize ((sg.ops.take i).map Opr.name)=N at hn O fe⊢;subst O;refine⟨by decide,λy hy=>(by rw[bO.1 hy];rfl),dU rfl rfl (by rw[aO];exact b1) (λy hy=>fK hy) (by simp only[aO,aV,aZ];omega) (λu hu=>?_)⟩;have b2:=aB8 hf (Z.trans U) hu;simp only[go_sem,g2,gq];have g3:(S2.setT u (N.length+1,9)).getO p=_:=g2;have q3:(S2.setT u (N.length+1,9)).getO q=_:=gq;have h3:(S2.setT u (N.length+1,9)).ge (S0.setT u (N.length+1,9)):=fB (Z.trans U);have m:(S2.setT u (N.length+1,9)).ge s:=h3.trans ((aAn b2).trans b3);generalize S2.setT u (N.length+1,9)=S3 at g3 q3 h3 m⊢;have B:yF sg x=(rU x.name&&(!decide (x.name∈gY)&&(tY sg x&&(decide (x.sort∈sg.sorts)&&(aAI x&&aAH x))))):=rfl;have hb:=hB x (iX _ xm);refine aI1 x.name (by have:=hb.nm;omega) ?_;cases c:rU x.name<;>rw[c]at B<;>simp only[go_sem,g3,q3]
   .rw[bad (by rw[B];simp)]at z;exact aG z m
   clear c;refine aFy x.name ?_;cases c:decide (x.name∈gY)<;>rw[c]at B<;>simp only[go_sem,g3,q3]
   rotate_left
   .rw[bad (by rw[B];simp)]at z;exact aG z m
   clear c;refine cF (aI7 sg x ?_ hb.ar);cases c:tY sg x<;>rw[c]at B<;>simp only[go_sem,g3,q3]
   .rw[bad (by rw[B];simp)]at z;exact aG z m
   clear c;refine mU sg.sorts x.sort ?_;cases c:decide (x.sort∈sg.sorts)<;>rw[c]at B<;>simp only[go_sem,g3,q3]
   .rw[bad (by rw[B];simp)]at z;exact aG z m
   clear c;refine cF (aOn x hb.pc hb.pt ?_);cases c:aAI x<;>rw[c]at B<;>simp only[go_sem,g3,q3]
   .rw[bad (by rw[B];simp)]at z;exact aG z m
   clear c;refine cF (aOe x hb.st hb.ar ?_);cases c:aAH x<;>rw[c]at B<;>simp only[go_sem,g3,q3]
   .rw[bad (by rw[B];simp)]at z;exact aG z m
   clear c;refine⟨(i+1,some u),⟨ix,λh=>(by cases h),λt h=>by cases h;exact b2,by rw[ts,kN,hI,fG,B];simp⟩,aQ,⟨by rw[fe,bU];rfl,aU i aB⟩,?_⟩;show St.ge _ (S0.setT u ((sg.ops.take (i+1)).length,9));rw[fc];exact h3
  .have ie:=bQ hi h;clear h;subst ie;simp only[bT]at hI hn hS G nl⊢;rw[hI,dW]at z
   (try simp only[go_sem,g1])
   clear G hI nl O
   refine Ex.loop (ι:=Nat × Option Nat) (λk=>[(1,.ptr p 0),(3,gv k.2 ((sg.ops.map Opr.name++(sg.funs.take k.1).map Opr.name).map .str)),(55,.list none (sg.funs.map Opr.enc)),(56,.int .i64 (sg.funs.length:Nat)),(57,.int .i64 (k.1:Nat))])
    (λk=>gs S0 k.2 (sg.ops.length+(sg.funs.take k.1).length) 9)
    (λk=>k.1<=sg.funs.length/\(k.2=none->(sg.ops.map Opr.name++(sg.funs.take k.1).map Opr.name)=[])/\(∀t,k.2=some t->S0.getT t=none)/\(sg.funs.take k.1).all (xZ sg)=true) (λk=>sg.funs.length-k.1) (0,tk) ⟨aW _,λe=>(by simpa using hn e),hf,rfl⟩ ?_ (by rw[<-hS];exact aE _) ?_
   .simp only[go_sem,gp]
    try exact⟨rfl,rfl⟩
    try exact⟨by rw[dK],rfl⟩
   .rintro⟨i,tk⟩ ⟨hi,hn,hf,hJ⟩;simp only at hi hn hf hJ;refine aX (V:=aHo) _ _ _ _ ?_;have O:(sg.ops.map Opr.name++(sg.funs.take i).map Opr.name).length=sg.ops.length+(sg.funs.take i).length:=by simp only[aH,aO]
    have U:=fR (aE S0) (n:=sg.ops.length+(sg.funs.take i).length) (e:=9) hf;have G:iV (gs S0 tk (sg.ops.length+(sg.funs.take i).length) 9) tk (sg.ops.length+(sg.funs.take i).length) 9:=fD λe=>by rw[<-O,hn e];rfl
    have nl:sg.ops.length+(sg.funs.take i).length<=4294967000:=by simp only[dT];omega
    simp only;generalize hS:gs S0 tk (sg.ops.length+(sg.funs.take i).length) 9=S at U G;have g1:=U.ob _ _ gp;simp only[go_sem,g1]
    (apply aJ<;>intro h)<;>simp only[go_sem,h,g1]
    .have ix:i<sg.funs.length:=gQ h;clear h;obtain⟨x,hx⟩:=bB ix;have xm:=bK hx;have ts:=eB hx;have bad:xZ sg x=false->sg.funs.all (xZ sg)=false:=λq=>jQ.2 λH=>by rw[dE]at H;rw[H x xm]at q;cases q
     simp only[go_sem,g1,hx,ix];(refine cH λq hq=>?_);have f1:=aI g1 (aS hq)
     (try simp only[go_sem,g1,hx,ix,hq,f1])
     obtain⟨S2,gq,Z,b0⟩:=gZ S q (.cells 80 x.cs) (aS hq)
     try simp only[go_sem]at b0 gq
     rw[b0];clear b0;have g2:=Z.ob _ _ g1;have b1:=yX G Z;have fe:(sg.ops.map Opr.name++(sg.funs.take (i+1)).map Opr.name)=(sg.ops.map Opr.name++(sg.funs.take i).map Opr.name)++[x.name]:=by rw[ts,bU];exact(eG _ _ _).symm
     have fc:sg.ops.length+(sg.funs.take (i+1)).length=sg.ops.length+(sg.funs.take i).length+1:=by rw[ts,aH];rfl
     (try simp only[go_sem,g2,gq])
     generalize sg.ops.length+(sg.funs.take i).length=n at O G b1 nl hS fc⊢;generalize (sg.ops.map Opr.name++(sg.funs.take i).map Opr.name)=N at hn O fe⊢;subst O;refine⟨by decide,λy hy=>(by rw[bO.1 hy];rfl),dU rfl rfl (by rw[aO];exact b1) (λy hy=>fK hy) (by simp only[aO,aV,aZ];omega) (λu hu=>?_)⟩;have b2:=aB8 hf (Z.trans U) hu;simp only[go_sem,g2,gq];have g3:(S2.setT u (N.length+1,9)).getO p=_:=g2;have q3:(S2.setT u (N.length+1,9)).getO q=_:=gq;have h3:(S2.setT u (N.length+1,9)).ge (S0.setT u (N.length+1,9)):=fB (Z.trans U);have m:(S2.setT u (N.length+1,9)).ge s:=h3.trans ((aAn b2).trans b3);generalize S2.setT u (N.length+1,9)=S3 at g3 q3 h3 m⊢;have B:xZ sg x=(cP x.name&&(!decide (x.name∈gY)&&(tY sg x&&(cR sg x.sort&&(decide (x.pieces.length=0)&&(decide (x.prec=0)&&(decide (x.assoc=0)&&decide (x.strict.length=0)))))))):=rfl;have hb:=hB x (mA _ xm);refine tJ _ x.name _ _ (by have:=hb.nm;omega) ?_;cases c:cP x.name<;>rw[c]at B<;>simp only[go_sem,g3,q3]
     .rw[bad (by rw[B];simp)]at z;exact aG z m
     clear c;refine aFy x.name ?_;cases c:decide (x.name∈gY)<;>rw[c]at B<;>simp only[go_sem,g3,q3]
     rotate_left
     .rw[bad (by rw[B];simp)]at z;exact aG z m
     clear c;refine cF (aI7 sg x ?_ hb.ar);cases c:tY sg x<;>rw[c]at B<;>simp only[go_sem,g3,q3]
     .rw[bad (by rw[B];simp)]at z;exact aG z m
     clear c;refine cF (aC3 sg x.sort ?_);cases c:cR sg x.sort<;>rw[c]at B<;>simp only[go_sem,g3,q3]
     .rw[bad (by rw[B];simp)]at z;exact aG z m
     clear c;cases c:decide (x.pieces.length=0)<;>rw[c]at B<;>simp only[go_sem,g3,q3,(show decide ((0:Int)<(x.pieces.length:Int))=!decide (x.pieces.length=0)by rw[<-decide_not,cC];omega),c]
     .rw[bad (by rw[B];simp)]at z;exact aG z m
     clear c;cases c:decide (x.prec=0)<;>rw[c]at B<;>simp only[go_sem,g3,q3,c]
     .rw[bad (by rw[B];simp)]at z;exact aG z m
     clear c;cases c:decide (x.assoc=0)<;>rw[c]at B<;>simp only[go_sem,g3,q3,c]
     .rw[bad (by rw[B];simp)]at z;exact aG z m
     clear c;cases c:decide (x.strict.length=0)<;>rw[c]at B<;>simp only[go_sem,g3,q3,(show decide ((0:Int)<(x.strict.length:Int))=!decide (x.strict.length=0)by rw[<-decide_not,cC];omega),c]
     .rw[bad (by rw[B];simp)]at z;exact aG z m
     clear c;refine⟨(i+1,some u),⟨ix,λh=>(by cases h),λt h=>by cases h;exact b2,by rw[ts,kN,hJ,fG,B];simp⟩,aQ,⟨by rw[fe,bU];rfl,aU i aB⟩,?_⟩;show St.ge _ (S0.setT u (sg.ops.length+(sg.funs.take (i+1)).length,9));rw[fc];exact h3
    .have ie:=bQ hi h;clear h;subst ie;simp only[bT]at hJ hn hS G nl⊢;rw[hJ,dW]at z;have b5:=U.trans b3
     have e:decide ((((sg.ops.map Opr.name++sg.funs.map Opr.name).map A.str).length:Int)<=200)=decide (sg.ops.length+sg.funs.length<=200):=by
      rw[cC];simp only[aH,aO];omega
     (try simp only[go_sem,g1])
     rw[pP (s:=S) (tk:=tk) (es:=(sg.ops.map Opr.name++sg.funs.map Opr.name).map A.str) (e:=9) (by rw[show((sg.ops.map Opr.name++sg.funs.map Opr.name).map A.str).length=sg.ops.length+sg.funs.length by simp only[aH,aO]];exact G)];cases c:decide (sg.ops.length+sg.funs.length<=200)<;>rw[c]at z e<;>simp only[e,reduceIte]<;>simp only[go_sem,g1]
     .exact aG z b5
     refine jI (show kC _ [.list none ((sg.ops.map Opr.name++sg.funs.map Opr.name).map .str)] from⟨kJ tk ((sg.ops.map Opr.name++sg.funs.map Opr.name).map .str) (λe=>by rw[hn e];rfl),trivial⟩) (aFw (sg.ops.map Opr.name++sg.funs.map Opr.name) ?_);simp only[go_sem,g1];exact aG z b5
structure SigB (sg:Sig):Prop where
 so:sg.sorts.length<=4294967000
 sn:∀a,a∈sg.sorts->a.length<=4294967000
 be:sg.below.length<=4294967000
 op:sg.ops.length+sg.funs.length<=4294967000
 va:sg.values.length<=4294967000
 or:∀o,o∈sg.ops++sg.funs->OprB o
theorem aPD(sg:Sig)(h:SigB sg)(u:KV s (.bool (aAT sg))):Den cx 92 [.agg sg.cs] KV Kp s:=by
 have hw:=h.op;have U:=h.so;have O:=h.be;have b0:=h.va;unfold aAT at u;(refine aN func92 [0,1,2,4,39,41,42,43,44,50] ?_;simp only[go_sem,ntmps92,f92]);(refine aM λp hp=>?_)
 (try simp only[go_sem])
 obtain⟨S0,y,m,z⟩:=gZ s p (.cells 26 sg.cs) (hp)
 try simp only[go_sem]at z y
 rw[z];clear z;clear hp;have e1:decide ((40:Int)<(sg.sorts.length:Int))=decide (40<sg.sorts.length):=by rw[cC];omega
 have e2:decide ((200:Int)<(sg.below.length:Int))=decide (200<sg.below.length):=by rw[cC];omega
 have w3:IntKind.i64.wrap ((sg.ops.length:Int)+(sg.funs.length:Int))=((sg.ops.length+sg.funs.length:Nat):Int):=by rw[fV _ aB aB];omega
 have e3:decide ((200:Int)<((sg.ops.length+sg.funs.length:Nat):Int))=decide (200<sg.ops.length+sg.funs.length):=by rw[cC];omega
 (try simp only[go_sem,y])
 cases c1:decide (40<sg.sorts.length)<;>rw[c1]at u e1<;>simp only[go_sem,y,e1]
 rotate_left
 .exact aG u m
 cases c2:decide (200<sg.below.length)<;>rw[c2]at u e2<;>simp only[go_sem,y,e2]
 rotate_left
 .exact aG u m
 cases c3:decide (200<sg.ops.length+sg.funs.length)<;>rw[c3]at u e3<;>simp only[go_sem,y,w3,e3]
 rotate_left
 .exact aG u m
 refine cF (aOJ sg U h.sn ?_);cases c4:aCp sg<;>rw[c4]at u<;>simp only[go_sem,y]
 .exact aG u m
 refine cF (aOH sg O ?_);cases c5:aCl sg<;>rw[c5]at u<;>simp only[go_sem,y]
 .exact aG u m
 refine cF (aQM sg hw h.or ?_);cases c6:aCM sg<;>rw[c6]at u<;>simp only[go_sem,y]
 .exact aG u m
 refine Ex.loop (ι:=Nat) (λi=>[(1,.ptr p 0),(41,.list none ((sg.values).map .str)),(42,.int .i64 ((sg.values).length:Nat)),(43,.int .i64 (i:Nat))]) (λ_=>S0) (λi=>i<=(sg.values).length/\(sg.values.take i).all (cR sg)=true) (λi=>(sg.values).length-i) 0 ⟨aW _,rfl⟩ ?_ (aE _) ?_
 .simp only[go_sem,y]
  try exact rfl
  try exact⟨rfl,rfl⟩
 .rintro i ⟨hi,B⟩;refine aX (V:=[0,1,2,4,39,41,42,43,44,50]) _ _ _ _ ?_;simp only[go_sem,y]
  (apply aJ<;>intro h)<;>simp only[go_sem,h,y]
  .have Z:i<sg.values.length:=gQ h;clear h;obtain⟨a,G⟩:=bB Z;have am:=bK G
   (try simp only[go_sem,G,Z,y])
   refine cF (aC3 sg a ?_);cases c:cR sg a<;>simp only[go_sem,y]
   .rw[show sg.values.all (cR sg)=false from jQ.2 λH=>by rw[dE]at H;rw[H a am]at c;cases c]at u;exact aG u m
   .exact⟨i+1,⟨Z,by rw[eB G,kN,B,fG,c];rfl⟩,by omega,aU i aB,aE _⟩
  .have ie:=bQ hi h;clear h;subst ie;rw[bT]at B;rw[B]at u
   (try simp only[go_sem,y])
   refine aFw sg.values ?_;simp only[go_sem,y];exact aG u m
end
end
section
section
variable {s:St} {KV Kp:St->A->Prop}
theorem aUA(b:UInt8):qF b=!(decide ((b.toNat:Int)<32)||(decide (126<(b.toNat:Int))||(decide ((b.toNat:Int)=34)||decide ((b.toNat:Int)=92)))):=by
 have h:decide (32<=b.toNat)=!decide ((b.toNat:Int)<32):=by rw[<-decide_not,cC];omega
 have m:decide (b.toNat<=126)=!decide ((126:Int)<b.toNat):=by rw[<-decide_not,cC];omega
 have u:decide (b=34)=decide ((b.toNat:Int)=34):=by
  rw[cC,<-rJ];show b.toNat=34↔_;omega
 have y:decide (b=92)=decide ((b.toNat:Int)=92):=by
  rw[cC,<-rJ];show b.toNat=92↔_;omega
 unfold qF;rw[h,m,u,y];simp only[Bool.not_or]
theorem aN6(x:aC)(hl:x.length<=4611686018427387904)(m:KV s (.bool (sT x))):Den cx 242 [.str x] KV Kp s:=by
 unfold sT at m;(refine aN func242 aEA ?_;simp only[go_sem,ntmps242,f242]);refine Ex.loop (ι:=Nat) (λi=>[(0,.str x),(5,.int .i64 (x.length:Nat)),(6,.int .i64 (i:Nat))]) (λ_=>s) (λi=>i<=x.length/\(x.take i).all qF=true) (λi=>x.length-i) 0 ⟨aW _,by simp⟩ ?_ (aE s) ?_
 .simp only[go_sem]
  try exact rfl
 .rintro i ⟨hi,G⟩;refine aX (V:=aEA) _ _ _ _ ?_;simp only[go_sem]
  (apply aJ<;>intro h)<;>simp only[go_sem,h]
  .have y:i<x.length:=gQ h;clear h;obtain⟨d,u⟩:=bB y;have dm:=bK u
   (try simp only[go_sem,u,y])
   have B:(0:Int)<=(i:Int):=by omega
   have e:=aUA d;have bad:qF d=false->x.all qF=false:=λq=>jQ.2 λH=>by rw[dE]at H;rw[H d dm]at q;cases q
   (try simp only[go_sem,u,y,B])
   cases O:decide ((d.toNat:Int)<32)<;>rw[O]at e<;>simp only[go_sem,u,y,B,O]
   rotate_left
   .rw[bad e]at m;exact aP m
   cases U:decide (126<(d.toNat:Int))<;>rw[U]at e<;>simp only[go_sem,u,y,B,U]
   rotate_left
   .rw[bad e]at m;exact aP m
   cases Z:decide ((d.toNat:Int)=34)<;>rw[Z]at e<;>simp only[go_sem,u,y,B,Z]
   rotate_left
   .rw[bad e]at m;exact aP m
   cases z:decide ((d.toNat:Int)=92)<;>rw[z]at e<;>simp only[go_sem,u,y,B,z]
   rotate_left
   .rw[bad e]at m;exact aP m
   exact⟨i+1,⟨y,by rw[eB u,kN,G,fG,e];rfl⟩,by omega,aU i aB,aE _⟩
  .have ie:=bQ hi h;clear h;subst ie;rw[bT]at G;rw[G,dW]at m;have e:decide ((x.length:Int)<=200)=decide (x.length<=200):=by rw[cC];omega
   (try simp only[go_sem,e])
   exact aP m
theorem aPB(x:aC)(O:x.length<=4611686018427387904)(m:KV s (.bool (oV x))):Den cx 243 [.str x] KV Kp s:=by
 (refine aN func243 [0,2] ?_;simp only[go_sem,ntmps243,f243]);refine tJ _ _ _ _ O ?_;simp only[go_sem];cases y:cP x with
 | false =>
  simp only[go_sem];rw[show oV x=false by simp[oV,y]]at m;exact aP m
 | true =>
  cases x with
  | nil=>simp[cP]at y
  | cons c r =>
   have u:decide ((97:Int)<=(c.toNat:Int))=decide (97<=c.toNat):=by rw[cC];omega
   have h:decide ((c.toNat:Int)<=122)=decide (c.toNat<=122):=by rw[cC];omega
   rw[show oV (c::r)=((decide (97<=c.toNat)&&decide (c.toNat<=122))&&!decide (c::r=[116,114,117,101])&&!decide (c::r=[102,97,108,115,101]))by simp[oV,y]]at m;cases z:decide (97<=c.toNat)<;>cases B:decide (c.toNat<=122)<;>cases G:decide (c::r=[116,114,117,101])<;>cases H:decide (c::r=[102,97,108,115,101])<;>simp only[go_sem,u,h,z,B,G,H]
   all_goals (rw[z,B,G,H]at m;exact aP m)
def jF(t:Tm)(a b c d e:Bool):Bool :=
 (a||decide (t.n=0))&&((b||decide (t.text=[]))&&((c||decide (t.sort=[]))&&((d||decide (t.kids.length=0))&&(e||decide (t.rest.length=0)))))
def xU(t:Tm)(S:aC):Bool:=match t.rest with
 | []=>true
 | r::l=>decide (l.length=0)&&(decide (r.kind=6)&&(cP r.text&&(decide (r.sort=S)&&jF r false true true false false)))
def aHv(t:Tm):Bool :=
 if t.kind=1 then decide (-2147483647<=t.n)&&(decide (t.n<=2147483647)&&jF t true false false false false)
 else if t.kind=2 then(decide (t.n=0)||decide (t.n=1))&&jF t true false false false false
 else if t.kind=3 then sT t.text&&jF t false true false false false
 else if t.kind=4 then oV t.text&&jF t false true false false false
 else if t.kind=5 then rU t.text&&(decide (t.kids.length<=8)&&jF t false true false true false)
 else if t.kind=6 then(if(decide (t.text=[95])||decide (t.text=[36]))=true then decide (t.sort=[65,110,121])&&jF t false true true false false else cP t.text&&(cP t.sort&&jF t false true true false false))
 else if t.kind=7 then xU t [76,105,115,116]&&jF t false false false true true
 else if t.kind=8 then xU t [77,97,112]&&(decide (t.kids.length % 2=0)&&jF t false false false true true)
 else false
theorem aLz(t:Tm){S:aC}(m:cP S=true):xU t S=t.shR S:=by
 unfold xU Tm.shR;cases t.rest with
 | nil=>rfl
 | cons r l =>
  simp only[jF,Tm.shV,Tm.leaf,Tm.opn];by_cases h:r.sort=S
  .rw[h,m,gA];simp only[bP,gV,bW,gW,jT];constructor
   .rintro⟨a,b,c,d,e,f,g,i,j⟩;exact⟨a,b,⟨⟨⟨gQ i,gQ j⟩,.inl ⟨c,trivial⟩⟩,gQ e⟩,c,trivial⟩
   .rintro⟨a,b,⟨⟨⟨i,j⟩,_⟩,e⟩,c,_⟩;exact⟨a,b,c,trivial,gQ e,trivial,trivial,gQ i,gQ j⟩
  .rw[bR h];simp
theorem aSW(t:Tm):aHv t=t.shape:=by
 unfold aHv Tm.shape;have Z:cP ([76,105,115,116]:aC)=true:=by decide
 have z2:cP ([77,97,112]:aC)=true:=by decide
 rw[aLz t Z,aLz t z2];by_cases m:t.kind=1
 .rw[aF m,aF m,gA];simp only[jF,Tm.leaf,aEp,bP,gV,bW,gW,jT,dA,false_or];constructor
  .rintro⟨a,b,c,d,e,f,g⟩;exact⟨⟨⟨f,g⟩,.inl ⟨a,b⟩⟩,d,e⟩
  .rintro⟨⟨⟨f,g⟩,h⟩,d,e⟩;refine⟨?_,?_,trivial,d,e,f,g⟩
   .rcases h with h|h|h<;>omega
   .rcases h with h|h|h<;>omega
 rw[aD m,aD m];by_cases u:t.kind=2
 .rw[aF u,aF u,gA];simp only[jF,Tm.leaf,bP,gV,bW,dA,false_or,true_or,gG];constructor
  .rintro⟨a,d,e,f,g⟩;exact⟨⟨⟨f,g⟩,a⟩,d,e⟩
  .rintro⟨⟨⟨f,g⟩,a⟩,d,e⟩;exact⟨a,d,e,f,g⟩
 rw[aD u,aD u];by_cases y:t.kind=3
 .rw[aF y,aF y,gA];simp only[jF,Tm.leaf,bP,gV,bW,dA,false_or,true_or,gG];constructor
  .rintro⟨a,b,d,f,g⟩;exact⟨⟨⟨f,g⟩,a⟩,b,d⟩
  .rintro⟨⟨⟨f,g⟩,a⟩,b,d⟩;exact⟨a,b,d,f,g⟩
 rw[aD y,aD y];by_cases z:t.kind=4
 .rw[aF z,aF z,gA];simp only[jF,Tm.leaf,bP,gV,bW,dA,false_or,true_or,gG];constructor
  .rintro⟨a,b,d,f,g⟩;exact⟨⟨⟨f,g⟩,a⟩,b,d⟩
  .rintro⟨⟨⟨f,g⟩,a⟩,b,d⟩;exact⟨a,b,d,f,g⟩
 rw[aD z,aD z];by_cases B:t.kind=5
 .rw[aF B,aF B,gA];simp only[jF,bP,gV,bW,dA,false_or,true_or,gG];constructor
  .rintro⟨a,b,c,d,e⟩;exact⟨⟨a,b,e⟩,c,d⟩
  .rintro⟨⟨a,b,e⟩,c,d⟩;exact⟨a,b,c,d,e⟩
 rw[aD B,aD B];by_cases G:t.kind=6
 .rw[aF G,aF G];unfold Tm.shV Tm.leaf Tm.opn;by_cases ho:(decide (t.text=[95])||decide (t.text=[36]))=true
  .rw[aF ho,ho]
   have U:cP t.text=false:=by
    rw[gV,bW,bW]at ho;rcases ho with h|h<;>rw[h]<;>decide
   rw[U,gA];simp only[jF,bP,gV,bW,dA,false_or,true_or,gG,oG];constructor
   .rintro⟨a,b,c,d⟩;exact⟨⟨⟨c,d⟩,a⟩,b⟩
   .rintro⟨⟨⟨c,d⟩,a⟩,b⟩;exact⟨a,b,c,d⟩
  .rw[aD ho];rw[Bool.not_eq_true]at ho;rw[ho,gA];simp only[jF,bP,gV,bW,dA,false_or,true_or,gG,oG,eJ];constructor
   .rintro⟨a,b,e,c,d⟩;exact⟨⟨⟨c,d⟩,a,b⟩,e⟩
   .rintro⟨⟨⟨c,d⟩,a,b⟩,e⟩;exact⟨a,b,e,c,d⟩
 rw[aD G,aD G];by_cases H:t.kind=7
 .rw[aF H,aF H,gA];simp only[jF,bP,gV,bW,dA,false_or,true_or,gG,oI]
 rw[aD H,aD H];by_cases O:t.kind=8
 .rw[aF O,aF O,gA];simp only[jF,bP,gV,bW,dA,false_or,true_or,gG,oI,and_assoc]
 rw[aD O,aD O]
def aM1:List (Bool × Bool × Bool × Bool × Bool):=[(true,false,false,false,false),(false,true,false,false,false),(false,true,false,true,false),(false,true,true,false,false),(false,false,false,true,true)]
theorem rK(t:Tm)(a b c d e:Bool)(hz:(a,b,c,d,e)∈aM1)(m:KV s (.bool (jF t a b c d e))):Den cx 241 [.agg t.cs,.bool a,.bool b,.bool c,.bool d,.bool e] KV Kp s:=by
 unfold jF at m;have y:decide ((t.kids.length:Int)=0)=decide (t.kids.length=0):=by rw[cC];omega
 have z:decide ((t.rest.length:Int)=0)=decide (t.rest.length=0):=by rw[cC];omega
 simp only[aM1,dG,iI,eJ,pE]at hz;(refine aN func241 [0,1,2,3,4,5,6,12] ?_;simp only[go_sem,ntmps241,f241]);(refine aM λp u=>?_);simp only[go_sem,u];rcases hz with⟨rfl,rfl,rfl,rfl,rfl⟩|⟨rfl,rfl,rfl,rfl,rfl⟩|⟨rfl,rfl,rfl,rfl,rfl⟩|⟨rfl,rfl,rfl,rfl,rfl⟩|⟨rfl,rfl,rfl,rfl,rfl⟩
 all_goals (simp only[jT,gW,dW,eU]at m;(try simp only[go_sem,u,y,z]))
 all_goals (repeat' (first|exact aG m aR|((apply aJ<;>intro h)<;>simp only[go_sem,h,u,y,z]<;>(try simp only[h,dW,gB]at m))))
theorem aJs(t:Tm)(S:aC)(hr:∀y,y∈t.rest->y.text.length<=4611686018427387904)(m:KV s (.bool (xU t S))):Den cx 244 [.agg t.cs,.str S] KV Kp s:=by
 unfold xU at m;(refine aN func244 [0,1,2,4,5,9] ?_;simp only[go_sem,ntmps244,f244]);(refine aM λp z=>?_);simp only[go_sem,z];cases u:t.rest with
 | nil =>
  rw[u]at m
  replace m:KV s (.bool true):=m
  simp only[go_sem,z,u]
  (apply aJ<;>intro h)<;>simp only[go_sem,h,z,u]
  .exact aG m aR
  .exfalso;simp at h
 | cons r l =>
  rw[u]at m;have Z:decide (((r::l).length:Int)=0)=false:=by rw[fO,aV];omega
  have e2:decide ((l.length:Int)+1=1)=decide (l.length=0):=by rw[cC];omega
  replace m:KV s (.bool (decide (l.length=0)&&(decide (r.kind=6)&&(cP r.text&&(decide (r.sort=S)&&jF r false true true false false))))):=m
  simp only[go_sem,z,u,Z]
  (apply aJ<;>intro h)<;>simp only[go_sem,h,z,u]
  .exfalso;simp at h;omega
  clear h;(refine aM λq B=>?_);simp only[go_sem,z,B,u]
  (apply aJ<;>intro h)<;>simp only[go_sem,h,z,B,u]
  rotate_left
  .have G:decide (l.length=0)=false:=by rw[fO];intro q;rw[q]at h;simp at h
   rw[G]at m;exact aG m aR
  have G:decide (l.length=0)=true:=by rw[bW];simp at h;omega
  rw[G]at m;clear h;cases H:decide (r.kind=6)<;>rw[H]at m<;>simp only[go_sem,z,B,u,H]
  .exact aG m aR
  refine tJ _ r.text _ _ (hr r (by rw[u];exact cQ ..)) ?_;cases U:cP r.text<;>rw[U]at m<;>simp only[go_sem,z,B,u]
  .exact aG m aR
  cases O:decide (r.sort=S)<;>rw[O]at m<;>simp only[go_sem,z,B,u,O]
  .exact aG m aR
  refine cF (rK r false true true false false dM ?_);simp only[go_sem,z,B,u];exact aG m aR
theorem aO4(t:Tm)(hw:TmW t)(m:KV s (.bool t.shape)):Den cx 196 [.agg t.cs] KV Kp s:=by
 have hr:∀y,y∈t.rest->y.text.length<=4611686018427387904:=λy hy=>by have:=(hw.rest y hy).text;omega
 have b0:=hw.lk;have ht:=hw.text;have hs:=hw.sort;clear hw;rw[<-aSW]at m;unfold aHv at m;have k1:decide ((t.kids.length:Int)<=8)=decide (t.kids.length<=8):=by rw[cC];omega
 have k2:decide ((t.kids.length:Int).tmod 2=0)=decide (t.kids.length % 2=0):=by
  rw[cC,show(t.kids.length:Int).tmod 2=((t.kids.length % 2:Nat):Int) from rfl];omega
 have d2:((2:Int)=0)=False:=by simp
 (refine aN func196 [0,1,2,4,5,19,33,42,51,66,75,95,103] ?_;simp only[go_sem,ntmps196,f196]);(refine aM λp u=>?_);simp only[go_sem,u];by_cases Z:t.kind=1
 .rw[aF Z]at m;simp only[go_sem,u,Z,Int.reduceEq];cases z:decide (-2147483647<=t.n)<;>rw[z]at m<;>simp only[go_sem,u,z]
  .exact aG m aR
  cases B:decide (t.n<=2147483647)<;>rw[B]at m<;>simp only[go_sem,u,B]
  .exact aG m aR
  rw[<-Z];refine cF (rK t true false false false false dM ?_);simp only[go_sem,u];exact aG m aR
 rw[aD Z]at m;have G:decide (t.kind=1)=false:=bR Z;by_cases e2:t.kind=2
 .rw[aF e2]at m;simp only[go_sem,u,G,e2,Int.reduceEq];rw[<-e2];cases z:decide (t.n=0)<;>rw[z]at m<;>simp only[go_sem,u,z]
  .cases B:decide (t.n=1)<;>rw[B]at m<;>simp only[go_sem,u,B]
   .exact aG m aR
   refine cF (rK t true false false false false dM ?_);simp only[go_sem,u];exact aG m aR
  .refine cF (rK t true false false false false dM ?_);simp only[go_sem,u];exact aG m aR
 rw[aD e2]at m;have O:decide (t.kind=2)=false:=bR e2;by_cases e3:t.kind=3
 .rw[aF e3]at m;simp only[go_sem,u,G,O,e3,Int.reduceEq];rw[<-e3];refine aN6 t.text aB ?_;cases z:sT t.text<;>rw[z]at m<;>simp only[go_sem,u]
  .exact aG m aR
  refine cF (rK t false true false false false dM ?_);simp only[go_sem,u];exact aG m aR
 rw[aD e3]at m;have U:decide (t.kind=3)=false:=bR e3;by_cases e4:t.kind=4
 .rw[aF e4]at m;simp only[go_sem,u,G,O,U,e4,Int.reduceEq];rw[<-e4];refine aPB t.text aB ?_;cases z:oV t.text<;>rw[z]at m<;>simp only[go_sem,u]
  .exact aG m aR
  refine cF (rK t false true false false false dM ?_);simp only[go_sem,u];exact aG m aR
 rw[aD e4]at m;have n4:decide (t.kind=4)=false:=bR e4;by_cases e5:t.kind=5
 .rw[aF e5]at m;simp only[go_sem,u,G,O,U,n4,e5,Int.reduceEq];rw[<-e5];refine aI1 t.text aB ?_;cases z:rU t.text<;>rw[z]at m<;>simp only[go_sem,u]
  .exact aG m aR
  cases B:decide (t.kids.length<=8)<;>rw[B]at m k1<;>simp only[go_sem,u,k1]
  .exact aG m aR
  refine cF (rK t false true false true false dM ?_);simp only[go_sem,u];exact aG m aR
 rw[aD e5]at m;have n5:decide (t.kind=5)=false:=bR e5;by_cases e6:t.kind=6
 .rw[aF e6]at m;simp only[go_sem,u,G,O,U,n4,n5,e6,Int.reduceEq];rw[<-e6];have opn:∀b:Bool,(decide (t.text=[95])||decide (t.text=[36]))=b->KV s (.bool (if b=true then decide (t.sort=[65,110,121])&&jF t false true true false false else cP t.text&&(cP t.sort&&jF t false true true false false))):=λb e=>by rw[e]at m;exact m
  cases z:decide (t.text=[95])<;>rw[z]at opn<;>simp only[go_sem,u,z]
  .cases B:decide (t.text=[36])<;>rw[B]at opn<;>simp only[go_sem,u,B]
   ·replace m:=opn false rfl
    simp only[dA,cZ]at m;refine tJ _ t.text _ _ aB ?_;cases H:cP t.text<;>rw[H]at m<;>simp only[go_sem,u]
    .exact aG m aR
    refine tJ _ t.sort _ _ aB ?_;cases c4:cP t.sort<;>rw[c4]at m<;>simp only[go_sem,u]
    .exact aG m aR
    refine cF (rK t false true true false false dM ?_);simp only[go_sem,u];exact aG m aR
   ·replace m:=opn true rfl
    simp only[dF]at m;cases H:decide (t.sort=[65,110,121])<;>rw[H]at m<;>simp only[go_sem,u,H]
    .exact aG m aR
    refine cF (rK t false true true false false dM ?_);simp only[go_sem,u];exact aG m aR
  ·replace m:=opn true rfl
   simp only[dF]at m;cases H:decide (t.sort=[65,110,121])<;>rw[H]at m<;>simp only[go_sem,u,H]
   .exact aG m aR
   refine cF (rK t false true true false false dM ?_);simp only[go_sem,u];exact aG m aR
 rw[aD e6]at m;have n6:decide (t.kind=6)=false:=bR e6;by_cases e7:t.kind=7
 .rw[aF e7]at m;simp only[go_sem,u,G,O,U,n4,n5,n6,e7,Int.reduceEq];rw[<-e7];refine cF (aJs t [76,105,115,116] hr ?_);cases z:xU t [76,105,115,116]<;>rw[z]at m<;>simp only[go_sem,u]
  .exact aG m aR
  refine cF (rK t false false false true true dM ?_);simp only[go_sem,u];exact aG m aR
 rw[aD e7]at m;have n7:decide (t.kind=7)=false:=bR e7;by_cases e8:t.kind=8
 .rw[aF e8]at m;simp only[go_sem,u,G,O,U,n4,n5,n6,n7,e8,Int.reduceEq];rw[<-e8];refine cF (aJs t [77,97,112] hr ?_);cases z:xU t [77,97,112]<;>rw[z]at m<;>simp only[go_sem,u,d2]
  .exact aG m aR
  (apply aJ<;>intro h)<;>simp only[go_sem,h,u]
  .have B:decide (t.kids.length % 2=0)=true:=by
    rw[<-k2];simpa using h
   rw[B]at m;clear h;refine cF (rK t false false false true true dM ?_);simp only[go_sem,u];exact aG m aR
  .have B:decide (t.kids.length % 2=0)=false:=by
    rw[<-k2];simpa using h
   rw[B]at m;exact aG m aR
 rw[aD e8]at m;have n8:decide (t.kind=8)=false:=bR e8;simp only[go_sem,u,G,O,U,n4,n5,n6,n7,n8];exact aG m aR
end
end
def aCC(KV:St->A->Prop)(s:St)(q:Nat):Option Nat->Prop
 | some m=>KV (s.setO q (.cells 3 [.int .i64 (2000-(m:Int))])) (.bool true)
 | none=>∀x:Int,KV (s.setO q (.cells 3 [.int .i64 x])) (.bool false)
theorem aSR{k:Nat}{t:Tm}{m n:Nat}(h:sU k t m=some n):n<=2000:=by
 rw[aLt]at h;cases u:(lJ k t&&decide (m+nE k t<=2000))with
 | false=>rw[u]at h;cases h
 | true =>
  rw[u]at h;cases h;simp only[bP,bW]at u;exact u.2
theorem wP{S s:St}{q:Nat}{o:Ob}(h:S.ge s):(S.setO q o).ge (s.setO q o):=⟨λb x m=>by
 rw[aL]at m⊢;split
 .rename_i e;rw[aF e]at m;exact m
 .rename_i e;rw[aD e]at m;exact h.ob _ _ m,λt v u=>h.tk t v u,λy z=>h.ls y z⟩
theorem aEs(s:St)(q:Nat)(o x:Ob):((s.setO q o).setO q x).ge (s.setO q x):=⟨λb y h=>by
 rw[aL]at h⊢;split
 .rename_i e;rw[aF e]at h;exact h
 .rename_i e;rw[aD e]at h;rw[aL,aD e];exact h,λt v m=>m,λy h=>h⟩
theorem ge_same{s:St}{q:Nat}{o:Ob}(h:s.getO q=some o):s.ge (s.setO q o):=⟨λb x m=>by
 rw[aL]at m;split at m
 .rename_i e;rw[<-e,h];exact m
 .exact m,λt v u=>u,λy z=>z⟩
theorem aN8(q:Nat)(k:Nat):∀(t:Tm) (m:Nat) (s:St) (KV Kp:St->A->Prop),TmW t->k<=60->m<=2000->s.getO q=some (.cells 3 [.int .i64 (2000-(m:Int))])->aCC KV s q (sU k t m)->Den cx 149 [.agg t.cs,.int .i64 (k:Int),.ptr q 0] KV Kp s:=by
 induction k with
 | zero =>
  intro t m s KV Kp hw b2 hm hq hk;have b6:=hw.lr
  replace hk:∀x:Int,KV (s.setO q (.cells 3 [.int .i64 x])) (.bool false):=hk
  have w1:IntKind.i64.wrap (1+(t.rest.length:Int))=1+(t.rest.length:Int):=fV _ aB aB;have w2:IntKind.i64.wrap (2000-(m:Int)-(1+(t.rest.length:Int)))=2000-(m:Int)-(1+(t.rest.length:Int)):=fV _ aB aB;(refine aN func149 aHy ?_;simp only[go_sem,ntmps149,f149]);(refine cH λp Z=>?_);have f1:=aI hq (aS Z);simp only[go_sem,hq,f1,Z];have u:∀x:Int,((s.setO p (.cells 67 t.cs)).setO q (.cells 3 [.int .i64 x])).ge (s.setO q (.cells 3 [.int .i64 x])):=λx=>wP (bG Z (aE s))
  simp only[Tm.cs]at u;have z:decide (((0:Nat):Int)<1)=true:=rfl;(refine bD (OT.r 0 10) [] ?_;simp only[go_sem,hq,f1,Z,w1,w2]);cases c0:decide (2000-(m:Int)-(1+(t.rest.length:Int))<0)<;>simp only[go_sem,hq,f1,Z,w1,w2,c0,z]
  .exact aG (hk _) (u _)
  .exact aG (hk _) (u _)
 | succ k ih =>
  intro t m s KV Kp hw b2 hm hq hk;have b6:=hw.lr;have b8:=hw.lk;have w1:IntKind.i64.wrap (1+(t.rest.length:Int))=1+(t.rest.length:Int):=fV _ aB aB;have w2:IntKind.i64.wrap (2000-(m:Int)-(1+(t.rest.length:Int)))=2000-(m:Int)-(1+(t.rest.length:Int)):=fV _ aB aB;have w3:IntKind.i64.wrap (((k+1:Nat):Int)-1)=(k:Int):=by rw[fV _ aB aB];omega
  rw[sU]at hk;have bad:¬ ((m+(1+t.rest.length)<=2000/\(t.rest.length=0\/1<=k))/\t.shape=true)->∀x:Int,KV (s.setO q (.cells 3 [.int .i64 x])) (.bool false):=λh=>by rw[aD h]at hk;exact hk
  (refine aN func149 aHy ?_;simp only[go_sem,ntmps149,f149]);(refine cH λp Z=>?_);have f1:=aI hq (aS Z);simp only[go_sem,hq,f1,Z];have u:∀x:Int,((s.setO p (.cells 67 t.cs)).setO q (.cells 3 [.int .i64 x])).ge (s.setO q (.cells 3 [.int .i64 x])):=λx=>wP (bG Z (aE s))
  have b5:¬ p=q:=λe=>by subst e;rw[hq]at Z;cases Z
  have H:∀x:Int,((s.setO p (.cells 67 t.cs)).setO q (.cells 3 [.int .i64 x])).getO p=some (.cells 67 t.cs):=λx=>by rw[aL,aD (λe=>b5 e.symm),aL,aF rfl]
  have G:∀x:Int,((s.setO p (.cells 67 t.cs)).setO q (.cells 3 [.int .i64 x])).getO q=some (.cells 3 [.int .i64 x]):=λx=>by rw[aL,aF rfl]
  simp only[Tm.cs]at u H G;have z:decide (((k+1:Nat):Int)<1)=false:=by rw[fO];omega
  (refine bD (OT.r 0 10) [] ?_;simp only[go_sem,hq,f1,Z,w1,w2]);have u:=u (2000-(m:Int)-(1+(t.rest.length:Int)));have H:=H (2000-(m:Int)-(1+(t.rest.length:Int)));have G:=G (2000-(m:Int)-(1+(t.rest.length:Int)));generalize hS:((s.setO p (.cells 67 [.int .i64 t.kind,.int .i64 t.n,.str t.text,.str t.sort,.list none (t.kids.map Tm.enc),.list none (t.rest.map Tm.enc)])).setO q (.cells 3 [.int .i64 (2000-(m:Int)-(1+(t.rest.length:Int)))]))=S at u H G⊢;cases c0:decide (2000-(m:Int)-(1+(t.rest.length:Int))<0)<;>simp only[go_sem,H,G,c0,z]
  rotate_left
  .exact aG (bad (λh=>by have:=fT c0;omega) _) u
  have c0:=of_decide_eq_false c0;have b3:m+(1+t.rest.length)<=2000:=by omega
  have fin:(t.rest.length=0\/1<=k)->t.shape=true->aCC KV s q (jN (sU k) t.kids (m+(1+t.rest.length))):=λh1 h2=>by rw[aF ⟨⟨b3,h1⟩,h2⟩]at hk;exact hk
  have zk:decide (((k+1:Nat):Int)<2)=!decide (1<=k):=by rw[<-decide_not,cC];omega
  cases c1:decide ((0:Int)<(t.rest.length:Int))<;>cases c2:decide (1<=k)<;>rw[c2]at zk<;>simp only[go_sem,H,G,c1,z,zk]
  rotate_left 2
  .exact aG (bad (λh=>by have:=fT c1;have:=of_decide_eq_false c2;omega) _) u
  all_goals
   have b7:t.rest.length=0\/1<=k:=by simp only[bW,fO]at c1 c2;omega
   clear c1 c2 zk;refine cF (aO4 t hw ?_);cases c3:t.shape<;>simp only[go_sem,H,G]
   .exact aG (bad (λh=>by rw[c3]at h;cases h.2) _) u
   replace fin:=fin b7 c3
   have e0:2000-(m:Int)-(1+(t.rest.length:Int))=2000-((m+(1+t.rest.length):Nat):Int):=by omega
   rw[e0]at G
   refine Ex.loop (ι:=Nat × Nat) (λc=>[(1,.int .i64 ((k+1:Nat):Int)),(2,.ptr q 0),(3,.ptr p 0),(42,.list none (t.kids.map Tm.enc)),(43,.int .i64 (t.kids.length:Nat)),(44,.int .i64 (c.1:Nat))]) (λc=>S.setO q (.cells 3 [.int .i64 (2000-(c.2:Int))]))
    (λc=>c.1<=t.kids.length/\c.2<=2000/\aCC KV s q (jN (sU k) (t.kids.drop c.1) c.2)) (λc=>t.kids.length-c.1) (0,m+(1+t.rest.length)) ⟨aW _,b3,fin⟩ ?_ (ge_same G) ?_
   .simp only[go_sem]
    try exact rfl
   .rintro⟨i,m2⟩ ⟨hi,b4,hI⟩;simp only at hi b4 hI;refine aX (V:=aHy) _ _ _ _ ?_;have O:(S.setO q (.cells 3 [.int .i64 (2000-(m2:Int))])).getO p=_:=(aL S q _ p).trans ((aD λe=>b5 e.symm).trans H);have B:(S.setO q (.cells 3 [.int .i64 (2000-(m2:Int))])).getO q=some (.cells 3 [.int .i64 (2000-(m2:Int))]):=by rw[aL,aF rfl]
    have b0:∀{S3:St} (o:Ob),S3.ge (S.setO q (.cells 3 [.int .i64 (2000-(m2:Int))]))->(S3.setO q o).ge (S.setO q o):=λo h=>(wP h).trans (aEs _ _ _ _)
    simp only;generalize S.setO q (.cells 3 [.int .i64 (2000-(m2:Int))])=S2 at O B b0⊢;have b1:∀{S3:St} (o:Ob),S3.ge S2->(S3.setO q o).ge (s.setO q o):=λo h=>(b0 o h).trans (by rw[<-hS];exact(aEs _ _ _ _).trans (wP (bG Z (aE s))))
    simp only[go_sem,O,B]
    (apply aJ<;>intro h)<;>simp only[go_sem,h,O,B]
    .have ix:i<t.kids.length:=gQ h;clear h;obtain⟨x,hx⟩:=bB ix;have xm:=bK hx;simp only[go_sem,O,B,hx,ix];(refine cH λr hr=>?_);have f2:=aI B (aS hr);simp only[go_sem,O,B,hx,ix,hr,f2];rw[iC hx,jN]at hI;have U:(S2.setO r (.cells 67 x.cs)).ge S2:=bG (aS hr) (aE _);simp only[Tm.cs]at U;refine sI (ih x m2 _ _ _ (hw.kids x xm) aB b4 (by first|exact U.ob _ _ B) ?_) (by simp only[Tm.cs,w3]);cases hf:sU k x m2 with
     | none =>
      rw[hf]at hI;intro y;simp only[go_sem,O,B,hr,f2];exact aG (hI y) (b1 _ U)
     | some m4 =>
      rw[hf]at hI;unfold aCC;simp only[go_sem,O,B,hr,f2];exact⟨(i+1,m4),⟨ix,aSR hf,hI⟩,aQ,aU i aB,b0 _ U⟩
    .have ie:=bQ hi h;clear h;subst ie;rw[dP (bJ _)]at hI
     replace hI:KV (s.setO q (.cells 3 [.int .i64 (2000-(m2:Int))])) (.bool true):=hI
     refine aG hI ?_;have:=b1 (.cells 3 [.int .i64 (2000-(m2:Int))]) (aE S2);exact(ge_same B).trans this
section
section
variable {s:St} {KV Kp:St->A->Prop}
theorem aJc(t:Tm)(z:TmW t)(h:KV s (.bool (Tm.val 60 t 0).isSome)):Den cx 90 [.agg t.cs] KV Kp s:=by
 rw[<-aSp]at h;(refine aN func90 [0,1,2,3] ?_;simp only[go_sem,ntmps90,f90]);(refine aM λp u=>?_);simp only[go_sem,u];(refine aM λq y=>?_);simp only[go_sem,u,y];refine sI (aN8 q 60 t 0 _ _ _ z aB aB (by rw[aL,aF rfl];rfl) ?_) (by simp only[Tm.cs];rfl);cases m:sU 60 t 0 with
 | none =>
  rw[m]at h;intro x;simp only[go_sem];exact aG h aR
 | some n =>
  rw[m]at h;unfold aCC;simp only[go_sem];exact aG h aR
theorem aQf(t:Tm)(h:KV s (.bool (xM t))):Den cx 204 [.agg t.cs] KV Kp s:=by
 unfold xM at h;(refine aN func204 [0,1,2] ?_;simp only[go_sem,ntmps204,f204]);(refine aM λp m=>?_);simp only[go_sem,m];cases u:decide (t.kind=1)<;>rw[u]at h<;>simp only[go_sem,m,u]
 rotate_left
 .exact aG h aR
 cases y:decide (t.kind=3)<;>rw[y]at h<;>simp only[go_sem,m,y]
 rotate_left
 .exact aG h aR
 exact aG h aR
theorem aNQ{n:aC}(h:n∈gY)(m:KV s (.tuple [strs (zQ n),.str (aA0 n)])):Den cx 249 [.str n] KV Kp s:=by
 simp only[gY,dG,iI,eJ]at h;rcases h with rfl|rfl|rfl|rfl|rfl|rfl|rfl|rfl|rfl|rfl|rfl|rfl|rfl|rfl|rfl|rfl|rfl|rfl|rfl|rfl|rfl|rfl|rfl|rfl|rfl|rfl|rfl|rfl
 all_goals ((refine aN func249 [0,2,3,4,5,12,15,21,25,29,32,35,38,41,44,47,50,53,56,59,62,65] ?_;simp only[go_sem,ntmps249,f249]);(try simp (decide:=true) only[go_sem]);exact aP m)
def aEP:Option (List aC × aC)->A
 | some p=>.tuple [strs p.1,.str p.2,.bool true]
 | none=>.tuple [.nils,.str [],.bool false]
theorem aIS(sg:Sig)(n:aC)(u:KV s (aEP (vT sg n))):Den cx 203 [.agg sg.cs,.str n] KV Kp s:=by
 unfold vT at u;(refine aN func203 [0,1,2,4,5,6,7,8,9,10,11,12,20,32,39] ?_;simp only[go_sem,ntmps203,f203]);(refine aM λp h=>?_);simp only[go_sem,h];refine aDb sg.ops n ?_;cases B:jZ sg.ops n with
 | some o =>
  rw[B]at u;simp only[go_sem,h,qL,Option.isSome_some];(refine aM λq m=>?_);simp only[go_sem,h,m];(refine bD (OT.r 0 7) [] ?_;simp only[go_sem,h,m]);exact aG u aR
 | none =>
  rw[B]at u;simp only[go_sem,h,uY,kZ,mI];(refine aM λq m=>?_);simp only[go_sem,h,m];refine aDb sg.funs n ?_;cases G:jZ sg.funs n with
  | some o =>
   rw[G]at u;simp only[go_sem,h,m,qL,Option.isSome_some];(refine aM λr y=>?_);simp only[go_sem,h,m,y];(refine bD (OT.r 0 7) [] ?_;simp only[go_sem,h,m,y]);exact aG u aR
  | none =>
   rw[G]at u;simp only[go_sem,h,m,uY,kZ,mI];(refine aM λr y=>?_);simp only[go_sem,h,m,y];refine aFy n ?_;by_cases z:n∈gY
   .rw[aF z]at u;simp only[go_sem,h,m,y,cT z];refine aNQ z ?_;unfold strs;simp only[go_sem,h,m,y];exact aG u aR
   .rw[aD z]at u;simp only[go_sem,h,m,y,bR z];exact aG u aR
theorem aGd(sg:Sig)(t:Tm)(h:KV s (.tuple [.str (iN sg t).1,.bool (iN sg t).2])):Den cx 160 [.agg sg.cs,.agg t.cs] KV Kp s:=by
 unfold iN at h;(refine aN func160 [0,1,2,3,4,5,7,8,10,11,13,15,17,19,21,23] ?_;simp only[go_sem,ntmps160,f160]);(refine aM λp m=>?_);simp only[go_sem,m];(refine aM λq u=>?_);simp only[go_sem,m,u];by_cases B:t.kind=1
 .rw[aF B]at h;simp only[go_sem,m,u,B,Int.reduceEq];rw[<-B];exact aG h aR
 rw[aD B]at h;have y:decide (t.kind=1)=false:=bR B;by_cases G:t.kind=2
 .rw[aF G]at h;simp only[go_sem,m,u,y,G,Int.reduceEq];rw[<-G];exact aG h aR
 rw[aD G]at h;have z:decide (t.kind=2)=false:=bR G;by_cases H:t.kind=3
 .rw[aF H]at h;simp only[go_sem,m,u,y,z,H,Int.reduceEq];rw[<-H];exact aG h aR
 rw[aD H]at h;have n3:decide (t.kind=3)=false:=bR H;by_cases O:t.kind=4
 .rw[aF O]at h;simp only[go_sem,m,u,y,z,n3,O,Int.reduceEq];rw[<-O];exact aG h aR
 rw[aD O]at h;have n4:decide (t.kind=4)=false:=bR O;by_cases Z:t.kind=7
 .rw[aF Z]at h;simp only[go_sem,m,u,y,z,n3,n4,Z,Int.reduceEq];rw[<-Z];exact aG h aR
 rw[aD Z]at h;have n7:decide (t.kind=7)=false:=bR Z;by_cases e8:t.kind=8
 .rw[aF e8]at h;simp only[go_sem,m,u,y,z,n3,n4,n7,e8,Int.reduceEq];rw[<-e8];exact aG h aR
 rw[aD e8]at h;have n8:decide (t.kind=8)=false:=bR e8;by_cases U:t.kind=6
 .rw[aF U]at h
  have ee:cR sg t.sort=(decide (t.sort∈wT)||decide (t.sort∈sg.sorts)):=by
   rw[aDj];unfold cR nN;rw[gA];simp
  rw[ee]at h;simp only[go_sem,m,u,y,z,n3,n4,n7,n8,U,Int.reduceEq];rw[<-U];(refine bD (OT.l [0,1,3,4,2,5,6,7,8,9,10,11,12,13,14] .nil) [(2,[1,4,8,10]),(5,[1,8,10]),(11,[1])] ?_;simp only[go_sem,m,u]);refine aC2 ?_;unfold strs;simp only[go_sem,m,u];refine mU wT t.sort ?_;cases c:decide (t.sort∈wT)<;>rw[c]at h<;>simp only[go_sem,m,u]
  .refine mU sg.sorts t.sort ?_;simp only[go_sem,m,u];exact aG h aR
  .exact aG h aR
 rw[aD U]at h;have n6:decide (t.kind=6)=false:=bR U;simp only[go_sem,m,u,y,z,n3,n4,n7,n8,n6];refine cF (aIS sg t.text ?_);cases h1:vT sg t.text with
 | some r =>
  rw[h1]at h;simp only[aEP,strs];simp only[go_sem,m,u];exact aG h aR
 | none =>
  rw[h1]at h;simp only[aEP];simp only[go_sem,m,u];exact aG h aR
theorem aQO{sg:Sig}{ks:List Tm}{l:List aC}{i:Nat}{k:Tm}{a:aC}(m:ks[i]?=some k)(h:l[i]?=some a):xR sg (ks.drop i) (l.drop i)=(xJ sg (iN sg k).1 a&&xR sg (ks.drop (i+1)) (l.drop (i+1))):=by
 rw[iC m,iC h];rfl
theorem aOX(sg:Sig)(hw:sg.below.length<=4294967000)(N:Nat):∀(t:Tm) (s:St) (KV Kp:St->A->Prop),SizeOf.sizeOf t<N->TmW t->KV s (.bool (pY sg t))->Den cx 156 [.agg sg.cs,.agg t.cs] KV Kp s:=by
 induction N with
 | zero=>intro t s KV Kp h;omega
 | succ N ih =>
  intro t s KV Kp ht b5 y;have b7:=b5.lk;rw[aGI]at y;(refine aN func156 aHm ?_;simp only[go_sem,ntmps156,f156]);(refine aM λp hp=>?_)
  (try simp only[go_sem])
  obtain⟨S0,gp,b6,b0⟩:=gZ s p (.cells 26 sg.cs) (hp)
  try simp only[go_sem]at b0 gp
  rw[b0];clear b0
  (try simp only[go_sem,gp])
  (refine cH λq hq=>?_);have f1:=aI gp (aS hq)
  (try simp only[go_sem,gp,f1])
  obtain⟨S,m,b3,b1⟩:=gZ S0 q (.cells 67 t.cs) (aS hq)
  try simp only[go_sem]at b1 m
  rw[b1];clear b1;have g1:=b3.ob _ _ gp;have z:=b3.trans b6;clear hp hq f1
  (try simp only[go_sem,g1,m])
  refine cF (aGd sg t ?_);cases c1:(iN sg t).2<;>rw[c1]at y<;>simp only[go_sem,g1,m]
  .exact aG y z
  rw[dW]at y;refine Ex.loop (ι:=Nat) (λi=>[(2,.ptr p 0),(3,.ptr q 0),(25,.list none ((t.kids).map Tm.enc)),(26,.int .i64 ((t.kids).length:Nat)),(27,.int .i64 (i:Nat))]) (λ_=>S) (λi=>i<=(t.kids).length/\(t.kids.take i).all (pY sg)=true) (λi=>(t.kids).length-i) 0 ⟨aW _,rfl⟩ ?_ (aE _) ?_
  .simp only[go_sem,g1,m]
   try exact rfl
   try exact⟨rfl,rfl⟩
  .rintro i ⟨hi,G⟩;refine aX (V:=aHm) _ _ _ _ ?_;simp only[go_sem,g1,m]
   (apply aJ<;>intro h)<;>simp only[go_sem,h,g1,m]
   .have U:i<t.kids.length:=gQ h;clear h;obtain⟨x,O⟩:=bB U;have xm:=bK O
    (try simp only[go_sem,O,U,g1,m])
    (refine cH λr B=>?_);have f2:=aI m (aS B);have f3:=aI g1 (aS B)
    (try simp only[go_sem,g1,m,O,U,B,f2,f3])
    have u:(S.setO r (.cells 67 x.cs)).ge S:=bG (aS B) (aE _);simp only[Tm.cs]at u;refine cF (ih x _ _ _ (by have:=mT xm;omega) (b5.kids x xm) ?_);cases c2:pY sg x<;>(try simp only[go_sem,g1,m,B,f2,f3])
    .rw[show t.kids.all (pY sg)=false from jQ.2 λH=>by rw[dE]at H;rw[H x xm]at c2;cases c2]at y;exact aG y (u.trans z)
    .exact⟨i+1,⟨U,by rw[eB O,kN,G,fG,c2];rfl⟩,by omega,aU i aB,u⟩
   .have ie:=bQ hi h;clear h;subst ie;rw[bT]at G;rw[G,dW]at y
    (try simp only[go_sem,g1,m])
    unfold aD7 at y;by_cases e5:t.kind=5
    .rw[cT e5]at y
     replace y:KV s (.bool (decide ((xO sg t.text).length=t.kids.length)&&xR sg t.kids (xO sg t.text))):=y
     (try simp only[go_sem,g1,m,cT e5])
     obtain⟨w,b2⟩:∃w,vT sg t.text=some w:=by
      unfold iN at c1;rw[aD aB,aD aB,aD aB,aD aB,aD aB,aD aB,aD aB]at c1;cases ha:vT sg t.text with
      | some w=>exact⟨w,rfl⟩
      | none=>rw[ha]at c1;cases c1
     have b4:xO sg t.text=w.1:=by unfold xO;rw[b2]
     rw[b4]at y;refine cF (aIS sg t.text ?_);rw[b2];simp only[aEP,strs]
     (try simp only[go_sem,g1,m])
     (apply aJ<;>intro h)<;>simp only[go_sem,h,g1,m]
     .rw[bR (show¬ w.1.length=t.kids.length fromλe=>by rw[e]at h;simp at h)]at y;exact aG y z
     have Z:w.1.length=t.kids.length:=by simp at h;omega
     clear h;rw[cT Z,dW]at y;generalize w.1=l at y Z⊢;clear b4 b2;refine Ex.loop (ι:=Nat) (λi=>[(2,.ptr p 0),(9,.list none (l.map .str)),(54,.list none ((t.kids).map Tm.enc)),(55,.int .i64 ((t.kids).length:Nat)),(56,.int .i64 (i:Nat))]) (λ_=>S) (λi=>i<=(t.kids).length/\KV s (.bool (xR sg (t.kids.drop i) (l.drop i)))) (λi=>(t.kids).length-i) 0 ⟨aW _,y⟩ ?_ (aE _) ?_
     .simp only[go_sem,g1,m]
      try exact rfl
      try exact⟨rfl,rfl⟩
     .rintro i ⟨hi,G⟩;refine aX (V:=aHm) _ _ _ _ ?_;simp only[go_sem,g1,m]
      (apply aJ<;>intro h)<;>simp only[go_sem,h,g1,m]
      .have U:i<t.kids.length:=gQ h;clear h;obtain⟨x,O⟩:=bB U;have xm:=bK O
       (try simp only[go_sem,O,U,g1,m])
       obtain⟨a,ha⟩:∃a,l[i]?=some a:=⟨_,dI aB⟩
       have il:i<l.length:=by omega
       rw[aQO O ha]at G;(refine cH λr B=>?_);have f2:=aI m (aS B);have f3:=aI g1 (aS B)
       (try simp only[go_sem,g1,m,O,U,B,f2,f3])
       have u:(S.setO r (.cells 67 x.cs)).ge S:=bG (aS B) (aE _);simp only[Tm.cs]at u;refine cF (aGd sg x ?_)
       (try simp only[go_sem,g1,m,B,f2,f3])
       (refine bD (OT.r 0 8) [] ?_;simp only[go_sem,g1,m,B,f2,f3,ha]);refine⟨il,cF (aIw sg (iN sg x).1 a hw ?_)⟩;cases c2:xJ sg (iN sg x).1 a<;>rw[c2]at G<;>(try simp only[go_sem,g1,m,B,f2,f3])
       .exact aG G (u.trans z)
       .exact⟨i+1,⟨U,G⟩,by omega,aU i aB,u⟩
      .have ie:=bQ hi h;clear h;rw[ie,dP (bJ _)]at G;exact aG G z
    .rw[bR e5]at y
     replace y:KV s (.bool true):=y
     (try simp only[go_sem,g1,m,bR e5])
     exact aG y z
theorem wQ(sg:Sig)(z:sg.below.length<=4294967000)(t:Tm)(h:TmW t)(m:KV s (.bool (eI sg t))):Den cx 94 [.agg sg.cs,.agg t.cs] KV Kp s:=by
 unfold eI at m;(refine aN func94 [0,1,2,3,4] ?_;simp only[go_sem,ntmps94,f94]);(refine aM λp u=>?_);simp only[go_sem,u];(refine aM λq y=>?_);simp only[go_sem,u,y];refine cF (aJc t h ?_);cases c:(Tm.val 60 t 0).isSome<;>rw[c]at m<;>simp only[go_sem,u,y]
 .exact aG m aR
 refine cF (aOX sg z _ t _ _ _ (fZ _) h ?_);simp only[go_sem,u,y];exact aG m aR
end
end
theorem aIi(xs ys:List Tm)(s:St)(KV Kp:St->A->Prop)(hf:∀(a b:Tm) (s':St) (KV Kp:St->A->Prop),a∈xs->KV s' (.bool (a.same b))->Den cx 205 [a.enc,b.enc] KV Kp s')
  (hk:KV s (.bool (eX Tm.same xs ys))):Den cx 250 [.list none (xs.map Tm.enc),.list none (ys.map Tm.enc)] KV Kp s:=by
 refine hH λb2=>?_
 have b1:=b2 _ (cQ ..);(refine aN func250 [0,1,4,5,10,12,13,14,25] ?_;simp only[go_sem,ntmps250,f250])
 (apply aJ<;>intro h)<;>simp only[go_sem,h]
 .exact aP (by rwa[aDm (by intro e;simp[e]at h)]at hk)
 .have z:xs.length=ys.length:=by simp at h;omega
  refine Ex.loop (λi=>[(0,.list none (xs.map Tm.enc)),(1,.list none (ys.map Tm.enc)),(12,.int .i64 xs.length),(13,.int .i64 (i:Nat))]) (λ_=>s)
     (λi=>i<=xs.length/\∀(j:Nat) a b,j<i->xs[j]?=some a->ys[j]?=some b->a.same b=true) (λi=>xs.length-i) 0 ⟨aW _,λj _ _ hj=>by omega⟩ ?_ (aE s) ?_
  .simp only[go_sem];exact rfl
  .rintro i ⟨hi,u⟩;refine aX (V:=[0,1,4,5,10,12,13,14,25]) _ _ _ _ ?_;simp only[go_sem]
   (apply aJ<;>intro h)<;>simp only[go_sem,h]
   .have m:i<xs.length:=gQ h;have G:i<ys.length:=by omega
    obtain⟨a,O⟩:=bB m;obtain⟨b,U⟩:=bB G;obtain⟨ca,ea,la,oa⟩:=Tm.hz6 a;obtain⟨cb,eb,lb,ob⟩:=Tm.hz6 b;(refine bD (OT.r 0 10) [] ?_;simp only[go_sem,O,m,U,G])
    have Z:∀(KV Kp:St->A->Prop),KV s (.bool (a.same b))->Den cx 205 [.agg a.cs,.agg b.cs] KV Kp s:=λKV Kp h=>by
     have:=hf a b s KV Kp (bK O) h
     rwa[cY,cY]at this
    refine Z _ _ ?_;simp only[go_sem]
    (apply aJ<;>intro h)<;>simp only[go_sem,h]
    .have hr:a.same b=false:=gQ h;refine aP ?_
     have:eX Tm.same xs ys=false:=by
      rw[jQ];intro he;have:=(yP z).1 he i a b O U;rw[hr]at this;cases this
     rwa[this]at hk
    .have hr:a.same b=true:=gQ h;refine⟨i+1,⟨by omega,λj x y hj B H=>?_⟩,by omega,?_,aE _⟩
     .by_cases b0:j=i
      .subst b0;rw[O]at B;rw[U]at H;cases B;cases H;exact hr
      .exact u j x y aB B H
     .simp only[go_sem,b1.wrap (i:=i) (gQ m)]
   .have m:i=xs.length:=by simp at h;omega
    have:eX Tm.same xs ys=true:=(yP z).2 λj x y B H=>u j x y (by rw[m];exact(dZ.1 B).1) B H
    exact aP (by rwa[this]at hk)
theorem aQl(m:Nat):∀(a b:Tm) (s:St) (KV Kp),SizeOf.sizeOf a<m->KV s (.bool (a.same b))->Den cx 205 [a.enc,b.enc] KV Kp s:=by
 induction m with
 | zero=>intro a b s KV Kp hm;omega
 | succ m Z =>
 intro a b s KV Kp hm u;rw[aP8]at u;simp only[go_sem];(refine aN func205 [0,1,2,3,4] ?_;simp only[go_sem,ntmps205,f205]);(refine aM λp G=>?_);simp only[go_sem,G];(refine aM λq H=>?_);simp only[go_sem,G,H]
 (apply aJ<;>intro h)<;>simp only[go_sem,h,G,H]<;>(try simp only[h,dW,gB,eU,iZ,lM,jT,jA,gW,fP,iB]at u)
 ·(apply aJ<;>intro h)<;>simp only[go_sem,h,G,H]<;>(try simp only[h,dW,gB,eU,iZ,lM,jT,jA,gW,fP,iB] at u)
  ·(apply aJ<;>intro h)<;>simp only[go_sem,h,G,H]<;>(try simp only[h,dW,gB,eU,iZ,lM,jT,jA,gW,fP,iB] at u)
   ·(apply aJ<;>intro h)<;>simp only[go_sem,h,G,H]<;>(try simp only[h,dW,gB,eU,iZ,lM,jT,jA,gW,fP,iB] at u)
    .refine aIi _ _ _ _ _ (λx y s' z B U O=>Z x y s' z B (by have:=mT U;omega) O) ?_;simp only[go_sem]
     (apply aJ<;>intro h)<;>simp only[go_sem,h,G,H]<;>(try simp only[h,dW,gB,eU,iZ,lM,jT,jA,gW,fP,iB]at u)
     .refine aIi _ _ _ _ _ (λx y s' z B U O=>Z x y s' z B (by have:=vB U;omega) O) ?_;simp only[go_sem];exact aG u aR
     .exact aG u aR
    .exact aG u aR
   .exact aG u aR
  .exact aG u aR
 .exact aG u aR
theorem aIg(sg:Sig)(N:Nat):∀(t:Tm) (s:St) (KV Kp:St->A->Prop),SizeOf.sizeOf t<N->TmW t->KV s (.bool (jK sg t))->Den cx 155 [.agg sg.cs,.agg t.cs] KV Kp s:=by
 induction N with
 | zero=>intro t s KV Kp h;omega
 | succ N ih =>
  intro t s KV Kp ht b2 z;have b5:=b2.lk;rw[aJI]at z;(refine aN func155 aHz ?_;simp only[go_sem,ntmps155,f155]);(refine aM λp hp=>?_)
  (try simp only[go_sem])
  obtain⟨S0,gp,b4,b0⟩:=gZ s p (.cells 26 sg.cs) (hp)
  try simp only[go_sem]at b0 gp
  rw[b0];clear b0
  (try simp only[go_sem,gp])
  (refine cH λq hq=>?_);have f1:=aI gp (aS hq)
  (try simp only[go_sem,gp,f1])
  obtain⟨S,y,b3,b1⟩:=gZ S0 q (.cells 67 t.cs) (aS hq)
  try simp only[go_sem]at b1 y
  rw[b1];clear b1;have g1:=b3.ob _ _ gp;have B:=b3.trans b4;clear hp hq f1;have rest:KV s (.bool (t.kids.any (jK sg)))->KV s (.bool (t.kids.any (jK sg))):=id;cases e5:decide (t.kind=5)<;>rw[e5]at z<;>(try simp only[go_sem,g1,y,e5])
  rotate_left
  ·rw[dW] at z;refine aDb sg.ops t.text ?_;cases h1:jZ sg.ops t.text with
   | none =>
    rw[h1]at z
    (try simp only[go_sem,g1,y,uY,kZ,mI])
    (refine cH λr u=>?_);have G:=aI g1 (aS u);have H:=aI y (aS u)
    (try simp only[go_sem,g1,y,u,G,H])
    exact aG z ((bG (aS u) (aE _)).trans B)
   | some o =>
    rw[h1]at z
    replace z:=rest z
    (try simp only[go_sem,g1,y,qL,Option.isSome_some])
    (refine cH λr u=>?_);have G:=aI g1 (aS u);have H:=aI y (aS u)
    (try simp only[go_sem,g1,y,u,G,H])
    have b6:S.getO r=none:=by first|exact u|exact u.2
    clear u
    skip
    refine Ex.loop (ι:=Nat) (λi=>[(2,.ptr p 0),(3,.ptr q 0),(23,.list none ((t.kids).map Tm.enc)),(24,.int .i64 ((t.kids).length:Nat)),(25,.int .i64 (i:Nat))]) (λ_=>S) (λi=>i<=(t.kids).length/\(t.kids.take i).any (jK sg)=false) (λi=>(t.kids).length-i) 0 ⟨aW _,rfl⟩ ?_ aR ?_
    .simp only[go_sem,g1,y]
     try exact rfl
     try exact⟨rfl,rfl⟩
    .rintro i ⟨hi,Z⟩;refine aX (V:=aHz) _ _ _ _ ?_;simp only[go_sem,g1,y]
     (apply aJ<;>intro h)<;>simp only[go_sem,h,g1,y]
     .have U:i<t.kids.length:=gQ h;clear h;obtain⟨x,O⟩:=bB U;have xm:=bK O
      (try simp only[go_sem,O,U,g1,y])
      (refine cH λr u=>?_);have G:=aI y (aS u);have H:=aI g1 (aS u)
      (try simp only[go_sem,g1,y,O,U,u,G,H])
      have m:(S.setO r (.cells 67 x.cs)).ge S:=bG (aS u) (aE _);simp only[Tm.cs]at m;refine cF (ih x _ _ _ (by have:=mT xm;omega) (b2.kids x xm) ?_);cases c2:jK sg x<;>(try simp only[go_sem,g1,y,u,G,H])
      .exact⟨i+1,⟨U,by rw[eB O,pC,Z,pF,c2];rfl⟩,by omega,aU i aB,m⟩
      .rw[jS.2 ⟨x,xm,c2⟩]at z;exact aG z (m.trans B)
     .have ie:=bQ hi h;clear h;subst ie;rw[bT]at Z;rw[Z]at z;exact aG z B
  .rw[gB,gW]at z;refine Ex.loop (ι:=Nat) (λi=>[(2,.ptr p 0),(3,.ptr q 0),(23,.list none ((t.kids).map Tm.enc)),(24,.int .i64 ((t.kids).length:Nat)),(25,.int .i64 (i:Nat))]) (λ_=>S) (λi=>i<=(t.kids).length/\(t.kids.take i).any (jK sg)=false) (λi=>(t.kids).length-i) 0 ⟨aW _,rfl⟩ ?_ aR ?_
   .simp only[go_sem,g1,y]
    try exact rfl
    try exact⟨rfl,rfl⟩
   .rintro i ⟨hi,Z⟩;refine aX (V:=aHz) _ _ _ _ ?_;simp only[go_sem,g1,y]
    (apply aJ<;>intro h)<;>simp only[go_sem,h,g1,y]
    .have U:i<t.kids.length:=gQ h;clear h;obtain⟨x,O⟩:=bB U;have xm:=bK O
     (try simp only[go_sem,O,U,g1,y])
     (refine cH λr u=>?_);have G:=aI y (aS u);have H:=aI g1 (aS u)
     (try simp only[go_sem,g1,y,O,U,u,G,H])
     have m:(S.setO r (.cells 67 x.cs)).ge S:=bG (aS u) (aE _);simp only[Tm.cs]at m;refine cF (ih x _ _ _ (by have:=mT xm;omega) (b2.kids x xm) ?_);cases c2:jK sg x<;>(try simp only[go_sem,g1,y,u,G,H])
     .exact⟨i+1,⟨U,by rw[eB O,pC,Z,pF,c2];rfl⟩,by omega,aU i aB,m⟩
     .rw[jS.2 ⟨x,xm,c2⟩]at z;exact aG z (m.trans B)
    .have ie:=bQ hi h;clear h;subst ie;rw[bT]at Z;rw[Z]at z;exact aG z B
theorem aVl(i:Nat):decide (((i:Int).tmod 2)=0)=decide (i % 2=0):=by
 rw[cC,show(i:Int).tmod 2=((i % 2:Nat):Int) from rfl];omega
theorem aPs(N:Nat):∀(t:Tm) (s:St) (KV Kp:St->A->Prop),SizeOf.sizeOf t<N->TmW t->KV s (.bool (pW t))->Den cx 157 [.agg t.cs] KV Kp s:=by
 induction N with
 | zero=>intro t s KV Kp h;omega
 | succ N ih =>
  intro t s KV Kp ht U hk;have b1:=U.lk;rw[aKO]at hk;(refine aN func157 [0,1,2,3,4,6,7,8,9,15,39] ?_;simp only[go_sem,ntmps157,f157]);(refine aM λp hp=>?_)
  (try simp only[go_sem])
  obtain⟨S,B,b0,H⟩:=gZ s p (.cells 67 t.cs) (hp)
  try simp only[go_sem]at H B
  rw[H];clear H;clear hp
  (try simp only[go_sem,B])
  refine Ex.loop (ι:=Nat) (λi=>[(1,.ptr p 0),(6,.list none ((t.kids).map Tm.enc)),(7,.int .i64 ((t.kids).length:Nat)),(8,.int .i64 (i:Nat))]) (λ_=>S) (λi=>i<=(t.kids).length/\KV s (.bool (rP (decide (t.kind=8)) (decide (i % 2=0)) (t.kids.drop i)))) (λi=>(t.kids).length-i) 0 ⟨aW _,hk⟩ ?_ (aE _) ?_
  .simp only[go_sem,B]
   try exact rfl
   try exact⟨rfl,rfl⟩
  .rintro i ⟨hi,u⟩;refine aX (V:=[0,1,2,3,4,6,7,8,9,15,39]) _ _ _ _ ?_;simp only[go_sem,B]
   (apply aJ<;>intro h)<;>simp only[go_sem,h,B]
   .have Z:i<t.kids.length:=gQ h;clear h;obtain⟨x,hx⟩:=bB Z;have xm:=bK hx
    (try simp only[go_sem,hx,Z,B])
    (refine cH λr hr=>?_);have f2:=aI B (aS hr)
    (try simp only[go_sem,B,hx,Z,hr,f2])
    obtain⟨S3,gr,y,O⟩:=gZ S r (.cells 67 x.cs) (aS hr)
    try simp only[go_sem]at O gr
    rw[O];clear O;have G:=y.ob _ _ B;have z:=y.trans b0;have en:decide ((i+1) % 2=0)=!decide (i % 2=0):=by rw[<-decide_not,cC];omega
    rw[iC hx,rP]at u
    (try simp only[go_sem,G,gr])
    refine cF (ih x _ _ _ (by have:=mT xm;omega) (U.kids x xm) ?_);cases c2:pW x<;>rw[c2]at u<;>(try simp only[go_sem,G,gr])
    .exact aG u z
    rw[dW]at u;unfold uL at u;have m:KV s (.bool (rP (decide (t.kind=8)) (!decide (i % 2=0)) (t.kids.drop (i+1))))->KV s (.bool (rP (decide (t.kind=8)) (decide ((i+1) % 2=0)) (t.kids.drop (i+1)))):=λh=>by rw[en];exact h
    cases c3:decide (t.kind=8)<;>rw[c3]at u m<;>(try simp only[go_sem,G,gr,c3])
    .exact⟨i+1,⟨Z,m u⟩,by omega,aU i aB,y⟩
    have d2:((2:Int)=0)=False:=by simp
    have dm:=aVl i;cases c4:decide (i % 2=0)<;>rw[c4]at u m dm<;>(try simp only[go_sem,G,gr,d2,dm])
    .exact⟨i+1,⟨Z,m u⟩,by omega,aU i aB,y⟩
    refine cF (aQf x ?_);cases c5:xM x<;>rw[c5]at u<;>(try simp only[go_sem,G,gr])
    rotate_left
    .exact⟨i+1,⟨Z,m u⟩,by omega,aU i aB,y⟩
    cases c6:decide (x.kind=6)<;>rw[c6]at u<;>(try simp only[go_sem,G,gr,c6])
    .exact aG u z
    refine tJ _ x.text _ _ (by have:=(U.kids x xm).text;omega) ?_;cases c7:cP x.text<;>rw[c7]at u<;>(try simp only[go_sem,G,gr])
    .exact aG u z
    .exact⟨i+1,⟨Z,m u⟩,by omega,aU i aB,y⟩
   .have ie:=bQ hi h;clear h;subst ie;rw[dP (bJ _)]at u;exact aG u b0
theorem aMh{S h:St}{tk:Option Nat}{n u:Nat}{e:TypeId}{v:Nat × TypeId}(m:S.ge (gs h tk n e))(y:tk=some u\/tk=none/\S.getT u=none):(S.setT u v).ge (h.setT u v):=by
 rcases y with rfl|⟨rfl,_⟩
 .exact(fB m).trans (aBB h u _ _)
 .exact fB m
theorem aT0{S m:St}{tk:Option Nat}{n:Nat}{e:TypeId}(h:S.ge m):(gs S tk n e).ge (gs m tk n e):=by
 cases tk with
 | none=>exact h
 | some t=>exact fB h
theorem aSU(out:List Tm)(t:Tm):(nC out t).length<=out.length+1:=by
 unfold nC;split
 .omega
 .rw[aH];simp
theorem aAA{f:Tm->List Tm->List Tm}:∀(l out:List Tm),(∀t,t∈l->∀o,(f t o).length<=o.length+t.pre.length)->(l.foldl (λo t=>f t o) out).length<=out.length+(aY l).length
 | [],out,_=>by simp[aY]
 | t::r,out,h=>by
  have u:=aAA r (f t out) λx m=>h x (eA _ m)
  have y:=h t (cQ ..) out;rw[pD,aY,aH];omega
theorem aDW(N:Nat):∀t:Tm,SizeOf.sizeOf t<N->∀out,(eF t out).length<=out.length+t.pre.length:=by
 induction N with
 | zero=>intro t h;omega
 | succ N u =>
  intro t B out;rw[aG4,iJ,aV,gX,aH];split
  .have:=aSU out t;omega
  .have y:=aAA (f:=eF) t.kids out λx m=>u x (by have:=mT m;omega)
   have z:=aAA (f:=eF) t.rest (t.kids.foldl (λo t=>eF t o) out) λx m=>u x (by have:=vB m;omega)
   omega
theorem aGm{l out:List Tm}{i:Nat}{x:Tm}(h:l[i]?=some x):(l.take (i+1)).foldl (λo t=>eF t o) out=eF x ((l.take i).foldl (λo t=>eF t o) out):=by
 rw[eB h,rI];rfl
theorem aAG{l:List Tm}{i:Nat}{x:Tm}(h:l[i]?=some x):(aY (l.take i)).length+x.pre.length<=(aY l).length:=by
 conv=>rhs;rw[<-mQ i l,iC h]
 rw[gX,aY];simp only[aH];omega
theorem aIC(N:Nat):∀(t:Tm) (tk:Option Nat) (out:List Tm) (z s:St) (KV Kp:St->A->Prop),SizeOf.sizeOf t<N->TmW t->out.length+t.pre.length<=4294967000->(tk=none->out=[])->(∀u,tk=some u->z.getT u=none)->s.ge (gs z tk out.length 67) ->
  (∀G,(G=none->eF t out=[])->(∀u,G=some u->z.getT u=none)->KV (gs z G (eF t out).length 67) (gv G ((eF t out).map Tm.enc)))->Den cx 158 [gv tk (out.map Tm.enc),.agg t.cs] KV Kp s:=by
 induction N with
 | zero=>intro t tk out z s KV Kp h;omega
 | succ N ih =>
  intro t tk out z s KV Kp ht b3 hb hn U hs hk;have bl:=b3.lk;have bm:=b3.lr;have bj:t.pre.length=1+((aY t.kids).length+(aY t.rest).length):=by rw[iJ,aV,gX,aH];omega
  rw[aG4]at hk;have b9:s.ge z:=hs.trans (fR (aE z) U);(refine aN func158 aCv ?_;simp only[go_sem,ntmps158,f158]);(refine aM λp hp=>?_)
  (try simp only[go_sem])
  have b6:(s.setO p (.cells 67 t.cs)).ge (gs (z.setO p (.cells 67 t.cs)) tk out.length 67):=by rw[<-aCf];exact wP hs
  have p0:z.getO p=none:=by
   cases h0:z.getO p with
   | none=>rfl
   | some o=>rw[b9.ob _ _ h0]at hp;cases hp
  have b4:(z.setO p (.cells 67 t.cs)).ge z:=bG p0 (aE z);have H:(s.setO p (.cells 67 t.cs)).getO p=some (.cells 67 t.cs):=by rw[aL,aF rfl]
  have b5:(s.setO p (.cells 67 t.cs)).ge s:=bG hp (aE _);generalize b7:(s.setO p (.cells 67 t.cs))=S at H b5 b6;simp only[Tm.cs]at b7 H;rw[b7];clear b7;by_cases hv:nG t=true
  ·rw[aF hv] at hk;have B:=hv;unfold nG at B;simp only[bP,iY] at B
   (try simp only[go_sem,H,B.1,B.2])
   have b2:=b5.trans hs;have bg:iV S tk out.length 67:=yX (fD λe=>by rw[hn e];rfl) b2;cases tk with
   | none =>
    have ho:=hn rfl;subst ho
    (try simp only[go_sem,H,gv])
    refine Ex.loop (ι:=Unit) (λ_=>[(0,.nils),(3,.ptr p 0),(20,.int .i64 0),(21,.int .i64 0)]) (λ_=>S) (λ_=>True) (λ_=>0) () trivial ?_ (aE _) ?_
    .simp only[go_sem]
     try exact⟨rfl,rfl⟩
    .rintro⟨⟩ _;refine aX (V:=aCv) _ _ _ _ ?_;have d0:decide ((0:Int)<0)=false:=rfl;simp only[go_sem,H,d0];refine⟨by decide,λy hy=>(by rw[bO.1 hy];rfl),λu hu=>?_⟩;simp only[go_sem];have e:nC [] t=[t]:=rfl;rw[e]at hk
     have bd:z.getT u=none:=by
      cases h0:z.getT u with
      | none=>rfl
      | some v=>rw[(b5.trans b9).tk _ _ h0]at hu;cases hu
     have:=hk (some u) (λh=>by cases h) (λw hw=>by cases hw;exact bd);refine DK.mk this (aMh b2 (.inr ⟨rfl,hu⟩)) ?_;rw[List.map_singleton,cY];exact bL _
   | some u =>
    (try simp only[go_sem,H,gv])
    have bn:=U u rfl;refine Ex.loop (ι:=Nat) (λi=>[(0,.list (some u) (out.map Tm.enc)),(3,.ptr p 0),(19,.list (some u) (out.map Tm.enc)),(20,.int .i64 (out.length:Nat)),(21,.int .i64 (i:Nat))]) (λ_=>S) (λi=>i<=out.length/\(out.take i).any (λv=>v.same t)=false) (λi=>out.length-i) 0 ⟨aW _,rfl⟩ ?_ (aE _) ?_
    .simp only[go_sem]
     try exact rfl
    .rintro i ⟨hi,Hi⟩;refine aX (V:=aCv) _ _ _ _ ?_;simp only[go_sem,H]
     (apply aJ<;>intro h)<;>simp only[go_sem,h,H]
     .have ix:i<out.length:=gQ h;clear h;obtain⟨x,O⟩:=bB ix;have xm:=bK O
      (try simp only[go_sem,O,ix,H])
      (refine cH λr hr=>?_);have f2:=aI H (aS hr)
      (try simp only[go_sem,H,O,ix,hr,f2])
      have m:(S.setO r (.cells 67 x.cs)).ge S:=bG (aS hr) (aE _);simp only[Tm.cs]at m;refine sI (aQl _ x t _ _ _ (fZ _) ?_) (by simp only[cY,Tm.cs]);cases c2:x.same t<;>(try simp only[go_sem,H,hr,f2])
      .exact⟨i+1,⟨ix,by rw[eB O,pC,Hi,pF,c2];rfl⟩,by omega,aU i aB,m⟩
      .have e:nC out t=out:=by unfold nC;rw[aF (jS.2 ⟨x,xm,c2⟩)]
       rw[e]at hk;exact aG (hk (some u) (λh=>by cases h) U) (m.trans b2)
     .have ie:=bQ hi h;clear h;subst ie;rw[bT]at Hi;have e:nC out t=out++[t]:=by unfold nC;rw[aD (by rw[Hi];simp)]
      rw[e]at hk
      (try simp only[go_sem,H])
      refine⟨by decide,λy hy=>(by rw[bO.1 hy];rfl),bg,λy hy=>kV hy,by first|omega|(simp only[aO,aV,aZ];omega),?_⟩
      (try simp only[go_sem])
      have:=hk (some u) (λh=>by cases h) U;refine DK.mk this ?_ ?_
      .show St.ge _ (z.setT u ((out++[t]).length,67));rw[aH];exact aMh b2 (.inl rfl)
      .rw[bU,List.map_singleton,cY];exact bL _
  ·rw[aD hv] at hk;have B:(decide (t.kind=6)&&!decide (t.text=[95]))=false:=by simpa [nG] using hv
   have g1:(z.setO p (.cells 67 t.cs)).getO p=some (.cells 67 t.cs):=by rw[aL,aF rfl]
   generalize bc:z.setO p (.cells 67 t.cs)=S1 at b6 b4 g1;have bk:=U;have bf:∀u,z.getT u=S1.getT u:=λu=>by rw[<-bc];rfl
   simp only[bf]at U hk;simp only[Tm.cs]at g1;cases c1:decide (t.kind=6)<;>cases c2:decide (t.text=[95])<;>rw[c1,c2]at B<;>(try (exfalso;revert B;decide))<;>(try simp only[go_sem,H,c1,c2])
   all_goals
    clear c1 c2 B hv
    refine Ex.loop (ι:=Nat × Option Nat) (λc=>[(0,gv c.2 (((t.kids.take c.1).foldl (λo t=>eF t o) out).map Tm.enc)),(3,.ptr p 0),(35,.list none (t.kids.map Tm.enc)),(36,.int .i64 (t.kids.length:Nat)),(37,.int .i64 (c.1:Nat))])
     (λc=>gs S1 c.2 ((t.kids.take c.1).foldl (λo t=>eF t o) out).length 67) (λc=>c.1<=t.kids.length/\(c.2=none->((t.kids.take c.1).foldl (λo t=>eF t o) out)=[])/\(∀u,c.2=some u->S1.getT u=none)) (λc=>t.kids.length-c.1) (0,tk) ⟨aW _,hn,U⟩ ?_ (by exact b6) ?_
    .simp only[go_sem,H]
     try exact rfl
     try exact⟨rfl,rfl⟩
    .rintro⟨i,tk⟩ ⟨hi,hn,U⟩;simp only at hi hn U;refine aX (V:=aCv) _ _ _ _ ?_;have b0:((t.kids.take i).foldl (λo t=>eF t o) out).length<=out.length+(aY (t.kids.take i)).length:=aAA (f:=eF) _ _ λx _=>aDW _ x (fZ _)
     have Z:(gs S1 tk ((t.kids.take i).foldl (λo t=>eF t o) out).length 67).getO p=_:=(cS _ _ _ _ _).trans g1;simp only;generalize hS:gs S1 tk ((t.kids.take i).foldl (λo t=>eF t o) out).length 67=S2 at Z;simp only[go_sem,Z]
     (apply aJ<;>intro h)<;>simp only[go_sem,h,Z]
     .have ix:i<t.kids.length:=gQ h;clear h;obtain⟨x,O⟩:=bB ix;have xm:=bK O
      (try simp only[go_sem,O,ix,Z])
      (refine cH λr hr=>?_);have f2:=aI Z (aS hr)
      (try simp only[go_sem,Z,O,ix,hr,f2])
      have m:(S2.setO r (.cells 67 x.cs)).ge S2:=bG (aS hr) (aE _);simp only[Tm.cs]at m;have bh:=aAG O;refine cF (ih x tk ((t.kids.take i).foldl (λo t=>eF t o) out) S1 _ _ _ (by have:=mT xm;omega) (b3.kids x xm) aB hn U (by rw[hS];exact m) (λG b1 b8=>?_));rw[<-aGm O]at b1⊢;simp only[go_sem];exact⟨(i+1,G),⟨ix,b1,b8⟩,aQ,⟨rfl,aU i aB⟩,aE _⟩
     .have ie:=bQ hi h;clear h;subst ie;simp only[bT]at hn hS b0⊢;have bb:(t.kids.foldl (λo t=>eF t o) out).length<=out.length+(aY t.kids).length:=b0;generalize t.kids.foldl (λo t=>eF t o) out=O1 at hk hn hS bb⊢
      (try simp only[go_sem,Z])
      clear b0
      refine Ex.loop (ι:=Nat × Option Nat) (λc=>[(0,gv c.2 (((t.rest.take c.1).foldl (λo t=>eF t o) O1).map Tm.enc)),(3,.ptr p 0),(46,.list none (t.rest.map Tm.enc)),(47,.int .i64 (t.rest.length:Nat)),(48,.int .i64 (c.1:Nat))])
       (λc=>gs S1 c.2 ((t.rest.take c.1).foldl (λo t=>eF t o) O1).length 67) (λc=>c.1<=t.rest.length/\(c.2=none->((t.rest.take c.1).foldl (λo t=>eF t o) O1)=[])/\(∀u,c.2=some u->S1.getT u=none)) (λc=>t.rest.length-c.1) (0,tk) ⟨aW _,hn,U⟩ ?_ (by show St.ge S2 (gs S1 tk O1.length 67);rw[hS];exact aE _) ?_
      .simp only[go_sem,H]
       try exact rfl
       try exact⟨rfl,rfl⟩
      .rintro⟨i,tk⟩ ⟨hi,hn,U⟩;simp only at hi hn U;refine aX (V:=aCv) _ _ _ _ ?_;have b0:((t.rest.take i).foldl (λo t=>eF t o) O1).length<=O1.length+(aY (t.rest.take i)).length:=aAA (f:=eF) _ _ λx _=>aDW _ x (fZ _)
       have Z:(gs S1 tk ((t.rest.take i).foldl (λo t=>eF t o) O1).length 67).getO p=_:=(cS _ _ _ _ _).trans g1;simp only;generalize hS:gs S1 tk ((t.rest.take i).foldl (λo t=>eF t o) O1).length 67=S2 at Z;simp only[go_sem,Z]
       (apply aJ<;>intro h)<;>simp only[go_sem,h,Z]
       .have ix:i<t.rest.length:=gQ h;clear h;obtain⟨x,O⟩:=bB ix;have xm:=bK O
        (try simp only[go_sem,O,ix,Z])
        (refine cH λr hr=>?_);have f2:=aI Z (aS hr)
        (try simp only[go_sem,Z,O,ix,hr,f2])
        have m:(S2.setO r (.cells 67 x.cs)).ge S2:=bG (aS hr) (aE _);simp only[Tm.cs]at m;have bh:=aAG O;refine cF (ih x tk ((t.rest.take i).foldl (λo t=>eF t o) O1) S1 _ _ _ (by have:=vB xm;omega) (b3.rest x xm) aB hn U (by rw[hS];exact m) (λG b1 b8=>?_));rw[<-aGm O]at b1⊢;simp only[go_sem];exact⟨(i+1,G),⟨ix,b1,b8⟩,aQ,⟨rfl,aU i aB⟩,aE _⟩
       .have ie:=bQ hi h;clear h;subst ie;simp only[bT]at hn hS b0⊢;exact aG (hk tk hn U) (by rw[<-hS];exact aT0 b4)
section
section
variable {s:St} {KV Kp:St->A->Prop}
theorem aR2(l:List Tm)(hW:∀t,t∈l->TmW t)(hP:(aY l).length<=4294967000)(hk:KV s (.tuple [.str (oW l).1,.bool (oW l).2])):Den cx 96 [.list none (l.map Tm.enc)] KV Kp s:=by
 have bb:l.length<=(aY l).length:=by
  have:∀l:List Tm,l.length<=(aY l).length:=λl=>by
   induction l with
   | nil=>exact bJ _
   | cons x r ih=>rw[aY,aH,iJ,aV,aV];omega
  exact this l
 (refine aN func96 aCJ ?_;simp only[go_sem,ntmps96,f96])
 refine Ex.loop (ι:=Nat × Option Nat) (λc=>[(4,gv c.2 (((l.take c.1).foldl (λo t=>eF t o) []).map Tm.enc)),(13,.list none (l.map Tm.enc)),(14,.int .i64 (l.length:Nat)),(15,.int .i64 (c.1:Nat))])
  (λc=>gs s c.2 ((l.take c.1).foldl (λo t=>eF t o) []).length 67) (λc=>c.1<=l.length/\(c.2=none->(l.take c.1).foldl (λo t=>eF t o) []=[])/\(∀u,c.2=some u->s.getT u=none)) (λc=>l.length-c.1) (0,none) ⟨aW _,λ_=>rfl,λu h=>by cases h⟩ ?_ (aE _) ?_
 .simp only[go_sem]
  try exact⟨rfl,rfl⟩
 .rintro⟨i,tk⟩ ⟨hi,hn,hf⟩;simp only at hi hn hf;refine aX (V:=aCJ) _ _ _ _ ?_;have O:((l.take i).foldl (λo t=>eF t o) []).length<=0+(aY (l.take i)).length:=aAA (f:=eF) _ _ λx _=>aDW _ x (fZ _)
  simp only;generalize hS:gs s tk ((l.take i).foldl (λo t=>eF t o) []).length 67=S;simp only[go_sem]
  (apply aJ<;>intro h)<;>simp only[go_sem,h]
  .have B:i<l.length:=gQ h;clear h;obtain⟨x,Z⟩:=bB B;have xm:=bK Z
   (try simp only[go_sem,Z,B])
   (refine aM λr z=>?_)
   (try simp only[go_sem,Z,B,z])
   have H:(S.setO r (.cells 67 x.cs)).ge S:=bG z (aE _);simp only[Tm.cs]at H;have bc:=aAG Z;refine cF (aIC _ x tk ((l.take i).foldl (λo t=>eF t o) []) s _ _ _ (fZ _) (hW x xm) aB hn hf (by rw[hS];exact H) (λb8 b5 b7=>?_));rw[<-aGm Z]at b5⊢;simp only[go_sem];exact⟨(i+1,b8),⟨B,b5,b7⟩,aQ,⟨rfl,aU i aB⟩,aE _⟩
  .have ie:=bQ hi h;clear h;subst ie;simp only[bT]at hn hS O⊢;have b4:S.ge s:=by rw[<-hS];exact fR (aE s) hf
   unfold oW at hk;have b3:l.foldl (λo t=>eF t o) []=oH l:=rfl;rw[b3]at hn O⊢;clear hS b3;generalize oH l=L at hk hn O⊢;generalize hQ:sY [] L ([],false)=Q at hk;have b9:L.length<=4294967000:=by omega
   cases tk with
   | none =>
    have hL:=hn rfl;subst hL;subst hQ
    (try simp only[go_sem,gv])
    refine Ex.loop (ι:=Unit) (λ_=>[(7,.str []),(8,.bool false),(24,.int .i64 0),(25,.int .i64 0)]) (λ_=>S) (λ_=>True) (λ_=>0) () trivial ?_ (aE _) ?_
    .simp only[go_sem]
     try exact⟨rfl,rfl⟩
    .rintro⟨⟩ _;refine aX (V:=aCJ) _ _ _ _ ?_;have d0:decide ((0:Int)<0)=false:=rfl;simp only[go_sem,d0];exact aG hk b4
   | some u =>
    (try simp only[go_sem,gv])
    refine Ex.loop (ι:=Nat × (aC × Bool)) (λc=>[(4,.list (some u) (L.map Tm.enc)),(7,.str c.2.1),(8,.bool c.2.2),(23,.list (some u) (L.map Tm.enc)),(24,.int .i64 (L.length:Nat)),(25,.int .i64 (c.1:Nat))]) (λ_=>S)
     (λc=>c.1<=L.length/\sY (L.take c.1) (L.drop c.1) c.2=Q) (λc=>L.length-c.1) (0,([],false)) ⟨aW _,hQ⟩ ?_ (aE _) ?_
    .simp only[go_sem]
     try exact rfl
     try exact⟨rfl,rfl⟩
    .rintro⟨i,st⟩ ⟨hi,m⟩;simp only at hi m;refine aX (V:=aCJ) _ _ _ _ ?_;simp only[go_sem]
     (apply aJ<;>intro h)<;>simp only[go_sem,h]
     .have B:i<L.length:=gQ h;clear h;obtain⟨v,hv⟩:=bB B;have vm:=bK hv
      (try simp only[go_sem,hv,B])
      (refine aM λp y=>?_)
      (try simp only[go_sem,hv,B,y])
      rw[<-lC];rw[iC hv,sY,<-eB hv]at m;refine⟨λx Z=>kV Z,hi,?_⟩;have tl:(L.take i).length<=4294967000:=by rw[dT];omega
      refine Ex.loop (ι:=Nat × (aC × Bool)) (λc=>[(4,.list (some u) (L.map Tm.enc)),(7,.str c.2.1),(8,.bool c.2.2),(10,.ptr p 0),(23,.list (some u) (L.map Tm.enc)),(24,.int .i64 (L.length:Nat)),(25,.int .i64 (i:Nat)),(32,.list none ((L.take i).map Tm.enc)),(33,.int .i64 ((L.take i).length:Nat)),(34,.int .i64 (c.1:Nat))]) (λ_=>S.setO p (.cells 67 v.cs))
       (λc=>c.1<=(L.take i).length/\sY (L.take (i+1)) (L.drop (i+1)) (uN v ((L.take i).drop c.1) c.2)=Q) (λc=>(L.take i).length-c.1) (0,st) ⟨aW _,m⟩ ?_ (by exact aE _) ?_
      .simp only[go_sem,y]
       try exact rfl
       try exact⟨rfl,rfl⟩
      .clear m;rintro⟨j,st⟩ ⟨hj,m⟩;simp only at hj m;refine aX (V:=aCJ) _ _ _ _ ?_;simp only[go_sem,y]
       (apply aJ<;>intro h)<;>simp only[go_sem,h,y]
       .have jx:j<(L.take i).length:=gQ h;clear h;obtain⟨w,hw⟩:=bB jx;have wm:=bK hw
        (try simp only[go_sem,hw,jx,y])
        (refine aM λr z=>?_)
        (try simp only[go_sem,y,hw,jx,z])
        rw[iC hw]at m;have U:uN v (w::(L.take i).drop (j+1)) st=uN v ((L.take i).drop (j+1)) (if v.text=w.text/\(st.2=false\/Go.Op.bytesLess v.text st.1=true) then(v.text,true) else st):=rfl;rw[U]at m;have G:∀b0,sY (L.take (i+1)) (L.drop (i+1)) (uN v ((L.take i).drop (j+1)) b0)=Q->j+1<=(L.take i).length/\sY (L.take (i+1)) (L.drop (i+1)) (uN v ((L.take i).drop (j+1)) b0)=Q:=λb0 h=>⟨jx,h⟩
        cases c1:decide (v.text=w.text)<;>(try simp only[go_sem,y,z,c1])
        .rw[aD (λh=>of_decide_eq_false c1 h.1)]at m;exact⟨(j+1,st),G _ m,aQ,⟨rfl,rfl,aU j aB⟩,(gE (And.intro y z))⟩
        have e1:=fT c1;obtain⟨b1,b2⟩:=st;simp only at m⊢;cases b2<;>(try simp only[go_sem,y,z])
        .rw[aF ⟨e1,.inl rfl⟩]at m;exact⟨(j+1,(v.text,true)),G _ m,aQ,⟨rfl,rfl,aU j aB⟩,(gE (And.intro y z))⟩
        .cases c3:Go.Op.bytesLess v.text b1<;>(try simp only[go_sem,y,z,c3])
         .rw[aD (λh=>by rcases h.2 with h|h;cases h;rw[c3]at h;cases h)]at m;exact⟨(j+1,(b1,true)),G _ m,aQ,⟨rfl,rfl,aU j aB⟩,(gE (And.intro y z))⟩
         .rw[aF ⟨e1,.inr c3⟩]at m;exact⟨(j+1,(v.text,true)),G _ m,aQ,⟨rfl,rfl,aU j aB⟩,(gE (And.intro y z))⟩
       .have je:=bQ hj h;clear h;rw[je,dP (bJ _)]at m;exact⟨(i+1,st),⟨B,m⟩,aQ,⟨rfl,rfl,aU i aB⟩,bG y (aE _)⟩
     .have ie:=bQ hi h;clear h;rw[ie,dP (bJ _)]at m;have b6:st=Q:=m;rw[<-b6]at hk;exact aG hk b4
end
end
section
section
variable {s:St} {KV Kp:St->A->Prop}
theorem aJD(l:List Tm)(hl:l.length<=4294967000)(hk:KV s (.bool (decide (l.map Tm.text).Nodup))):Den cx 159 [.list none (l.map Tm.enc)] KV Kp s:=by
  (refine aN func159 aHp ?_;simp only[go_sem,ntmps159,f159]);refine Ex.loop (ι:=Nat) (λi=>[(0,.list none (l.map Tm.enc)),(7,.list none ((l).map Tm.enc)),(8,.int .i64 ((l).length:Nat)),(9,.int .i64 (i:Nat))]) (λ_=>s) (λi=>i<=(l).length/\((l.map Tm.text).take i).Nodup) (λi=>(l).length-i) 0 ⟨aW _,List.nodup_nil⟩ ?_ (aE _) ?_
  · simp only[go_sem]
    try exact rfl
    try exact⟨rfl,rfl⟩
  · rintro i ⟨hi,Hi⟩
    refine aX (V:=aHp) _ _ _ _ ?_;simp only[go_sem]
    (apply aJ<;>intro h)<;>simp only[go_sem,h]
    · have ix:i<l.length:=gQ h
      clear h;obtain⟨a,ha⟩:=bB ix;have am:=bK ha
      (try simp only[go_sem,ha,ix])
      (refine aM λp hp=>?_)
      (try simp only[go_sem,ha,ix,hp])
      rw[<-lC];refine⟨λx hx=>kV hx,hi,?_⟩;have ha2:(l.map Tm.text)[i]?=some a.text:=by rw[nH,ha];rfl
      have hnd:((l.map Tm.text).take (i+1)).Nodup↔a.text ∉ (l.map Tm.text).take i:=aFX ha2 Hi;have tl:(l.take i).length<=4294967000:=by rw[dT];omega
      refine Ex.loop (ι:=Nat) (λj=>[(0,.list none (l.map Tm.enc)),(3,.int .i64 (i:Nat)),(4,.ptr p 0),(7,.list none (l.map Tm.enc)),(8,.int .i64 (l.length:Nat)),(9,.int .i64 (i:Nat)),(16,.list none (((l.take i)).map Tm.enc)),(17,.int .i64 (((l.take i)).length:Nat)),(18,.int .i64 (j:Nat))]) (λ_=>s.setO p (.cells 67 a.cs)) (λj=>j<=((l.take i)).length/\(∀b,b∈(l.take i).take j->b.text≠a.text)) (λj=>((l.take i)).length-j) 0 ⟨aW _,λb h=>(by cases h)⟩ ?_ (aE _) ?_
      · simp only[go_sem,hp]
        try exact rfl
        try exact⟨rfl,rfl⟩
      · rintro j ⟨hj,Hj⟩
        refine aX (V:=aHp) _ _ _ _ ?_;simp only[go_sem,hp]
        (apply aJ<;>intro h)<;>simp only[go_sem,h,hp]
        · have jx:j<(l.take i).length:=gQ h
          clear h;obtain⟨b,hb⟩:=bB jx;have bm:=bK hb
          (try simp only[go_sem,hb,jx,hp])
          (refine aM λr hr=>?_)
          (try simp only[go_sem,hb,jx,hp,hr])
          (apply aJ<;>intro h)<;>simp only[go_sem,h,hp,hr]
          · have he : b.text = a.text := by have : a.text = b.text := gQ h
                                            exact this.symm
            have hm:a.text∈(l.map Tm.text).take i:=by rw[<-lC];exact cN.2 ⟨b,bm,he⟩
            rw[bR (λq=>hnd.1 (q.sublist (List.take_sublist _ _)) hm)]at hk;exact aG hk aR
          · have he : ¬ b.text = a.text := by have : ¬ a.text = b.text := gQ h
                                              exactλe=>this e.symm
            refine⟨j+1,⟨jx,λy hy=>?_⟩,by omega,aU j aB,(gE (And.intro hp hr))⟩;rw[eB hb,cK,bO]at hy;rcases hy with hy|rfl
            · exact Hj y hy
            · exact he
        · have je:=bQ hj h
          clear h;rw[je,bT]at Hj;refine⟨i+1,⟨ix,hnd.2 λq=>?_⟩,by omega,aU i aB,(gE hp)⟩;rw[<-lC]at q;obtain⟨y,hy,e⟩:=cN.1 q;exact Hj y hy e
    · have ie:=bQ hi h
      clear h;subst ie;rw[show(l.map Tm.text).take l.length=l.map Tm.text from lZ (by rw[aO];exact bJ _)]at Hi;rw[cT Hi]at hk;exact aP hk
theorem aTq(t:Tm):eF t []=oH [t]:=rfl
theorem aIe(sg:Sig)(hw:sg.below.length<=4294967000)(t:Tm)(B:TmW t)(b3:t.pre.length<=4294967000)(m:KV s (.bool (nO sg t))):Den cx 95 [.agg sg.cs,.agg t.cs] KV Kp s:=by
 unfold nO at m;(refine aN func95 aHP ?_;simp only[go_sem,ntmps95,f95]);(refine aM λp hp=>?_)
 (try simp only[go_sem])
 obtain⟨S0,gp,b1,G⟩:=gZ s p (.cells 26 sg.cs) (hp)
 try simp only[go_sem]at G gp
 rw[G];clear G
 (try simp only[go_sem,gp])
 (refine cH λq hq=>?_);have f1:=aI gp (aS hq)
 (try simp only[go_sem,gp,f1])
 obtain⟨S,gq,Z,O⟩:=gZ S0 q (.cells 67 t.cs) (aS hq)
 try simp only[go_sem]at O gq
 rw[O];clear O;have g1:=Z.ob _ _ gp;have z:=Z.trans b1;clear hp hq f1
 (try simp only[go_sem,g1,gq])
 refine cF (wQ sg hw t B ?_);cases c1:eI sg t<;>rw[c1]at m<;>(try simp only[go_sem,g1,gq])
 .exact aG m z
 refine cF (aIg sg _ t _ _ _ (fZ _) B ?_);cases c2:jK sg t<;>rw[c2]at m<;>(try simp only[go_sem,g1,gq])
 rotate_left
 .exact aG m z
 refine cF (aPs _ t _ _ _ (fZ _) B ?_);cases c3:pW t<;>rw[c3]at m<;>(try simp only[go_sem,g1,gq])
 .exact aG m z
 have U:=aDW _ t (fZ _) [];refine sI (aIC _ t none [] S S _ _ (fZ _) B (gQ b3) (λ_=>rfl) (λu h=>by cases h) (aE _) (λtk hn hf=>?_)) (by simp only[Tm.cs];rfl);rw[aTq]at hn U⊢;generalize oH [t]=L at m hn U⊢;have hL:L.length<=4294967000:=by simp only[aZ]at U;omega
 have b0:(gs S tk L.length 67).ge S:=fR (aE S) hf;generalize gs S tk L.length 67=S2 at b0⊢;have y:=b0.trans z
 replace m:KV s (.bool ((L.all λv=>!decide (v.text=[36]))&&decide (L.map Tm.text).Nodup)):=m
 cases tk with
 | none =>
  have b2:=hn rfl;subst b2
  (try simp only[go_sem,gv])
  refine Ex.loop (ι:=Unit) (λ_=>[(5,.nils),(25,.int .i64 0),(26,.int .i64 0)]) (λ_=>S2) (λ_=>True) (λ_=>0) () trivial ?_ (aE _) ?_
  .simp only[go_sem]
   try exact⟨rfl,rfl⟩
  .rintro⟨⟩ _;refine aX (V:=aHP) _ _ _ _ ?_;have d0:decide ((0:Int)<0)=false:=rfl;simp only[go_sem,d0];refine jI (show kC _ [.list none (([]:List Tm).map Tm.enc)] from⟨A.le.nil,trivial⟩) (aJD [] bA ?_);simp only[go_sem];exact aG m y
 | some u =>
  (try simp only[go_sem,gv])
  refine Ex.loop (ι:=Nat) (λi=>[(5,.list (some u) (L.map Tm.enc)),(24,.list (some u) (L.map Tm.enc)),(25,.int .i64 (L.length:Nat)),(26,.int .i64 (i:Nat))]) (λ_=>S2) (λi=>i<=L.length/\(L.take i).all (λv=>!decide (v.text=[36]))=true) (λi=>L.length-i) 0 ⟨aW _,rfl⟩ ?_ (aE _) ?_
  .simp only[go_sem]
   try exact rfl
   try exact⟨rfl,rfl⟩
  .rintro i ⟨hi,Hi⟩;refine aX (V:=aHP) _ _ _ _ ?_;simp only[go_sem]
   (apply aJ<;>intro h)<;>simp only[go_sem,h]
   .have ix:i<L.length:=gQ h;clear h;obtain⟨x,hx⟩:=bB ix;have xm:=bK hx
    (try simp only[go_sem,hx,ix])
    (refine aM λr hr=>?_)
    (try simp only[go_sem,hx,ix,hr])
    cases c4:decide (x.text=[36])<;>(try simp only[go_sem,hr,c4])
    .exact⟨i+1,⟨ix,by rw[eB hx,kN,Hi,fG,c4];rfl⟩,by omega,aU i aB,bG hr (aE _)⟩
    .rw[show(L.all λv=>!decide (v.text=[36]))=false from jQ.2 λH=>by rw[dE]at H;have:=H x xm;rw[c4]at this;cases this]at m;exact aG m ((bG hr (aE _)).trans y)
   .have ie:=bQ hi h;clear h;subst ie;rw[bT]at Hi;rw[Hi]at m;refine jI (show kC _ [.list none (L.map Tm.enc)] from⟨A.le.forget _ _,trivial⟩) (aJD L hL ?_);simp only[go_sem];exact aG m y
end
end
section
theorem aG3{x:aC}:∀{l:List aC} {i:Nat},(∀y,y∈l.take i->y<x)->(∀y,y∈l.drop i->x<=y)->rZ x l=l.take i++x::l.drop i
 | [],i,_,_=>by simp[rZ]
 | y::r,0,_,h=>by
  rw[rZ,aF (h y (cQ ..))];rfl
 | y::r,i+1,m,u=>by
  have B:=m y (cQ ..);rw[rZ,aD (λe=>List.lt_irrefl _ (List.lt_of_le_of_lt e B)),aG3 (i:=i) (λz hz=>m z (eA _ hz)) (λz hz=>u z hz)];rfl
theorem aTK{x:aC}{l:List aC}{i:Nat}(H:l.Pairwise λa b=>a<=b)(G:∀y,y∈l.take i->y<x)(u:∀y,y∈l.drop i->x<=y):x∈l↔l[i]?=some x:=by
 constructor
 .intro h;rw[<-mQ i l,cK]at h;rcases h with h|h
  .exact cV (G x h) (List.lt_irrefl _)
  .cases m:l.drop i with
   | nil=>rw[m]at h;cases h
   | cons y r =>
    have B:l[i]?=some y:=by
     have:=lE List.head? m;rw[List.head?_drop]at this;exact this
    rw[m]at h u;rcases List.mem_cons.1 h with rfl|h
    .exact B
    .have z:(l.drop i).Pairwise λa b=>a<=b:=H.sublist (List.drop_sublist _ _)
     rw[m,List.pairwise_cons]at z;rw[B,List.le_antisymm (z.1 x h) (u y (cQ ..))]
 ·exactλh=>bK h
theorem aKj{tk:Option Nat}{a b:List A}(h:a=b):(A.list tk a).le (A.list none b):=h▸A.le.forget _ _
section
variable {s:St} {KV Kp:St->A->Prop}
theorem aRh(l:List aC)(x:aC)(hs:l.Pairwise λa b=>a<=b)(hl:l.length<=4294967000)(hk:KV s (.list none ((kL l x).map .str))):Den cx 47 [.list none (l.map .str),.str x] KV Kp s:=by
 (refine uQ func47 [0,1,4,5,18,32] ?_;simp only[go_sem,ntmps47,f47])
 (try simp only[go_sem])
 refine Ex.loop (ι:=Nat) (λi=>[(0,.list none (l.map .str)),(1,.str x),(5,.int .i64 (i:Nat))]) (λ_=>s) (λi=>i<=l.length/\∀y,y∈l.drop i->x<=y) (λi=>i) l.length ⟨bJ _,λy h=>by rw[dP (bJ _)]at h;cases h⟩ ?_ (aE _) ?_
 .simp only[go_sem]
  try exact rfl
 .rintro i ⟨hi,H⟩;refine aX (V:=[0,1,4,5,18,32]) _ _ _ _ ?_;simp only[go_sem]
  have fin:i=0\/(∃y,l[i-1]?=some y/\y<x)->∀y,y∈l.take i->y<x:=λh=>by
   rcases h with rfl|⟨y,m,b5⟩
   .intro z hz;cases hz
   .intro z hz;obtain⟨j,hj,e⟩:=kM hz;rw[dT]at hj;rw[List.getElem_take]at e;obtain⟨q1,q2⟩:=dZ.1 m
    have b4:z<=y:=by
     rw[<-e,<-q2];by_cases b3:j=i-1
     .subst b3;exact List.le_refl _
     .exact(List.pairwise_iff_getElem.1 hs) j (i-1) aB q1 aB
    exact List.lt_of_le_of_lt b4 b5
  have e0:(i:Int)-1=((i-1:Nat):Int)\/i=0:=by omega
  cases c0:decide ((0:Int)<(i:Int));rotate_left
  focus
   have b2:0<i:=by have:=fT c0;omega
   obtain⟨y,m⟩:∃y,l[i-1]?=some y:=⟨_,dI aB⟩
   have w1:IntKind.i64.wrap ((i:Int)-1)=((i-1:Nat):Int):=by rw[fV _ aB aB];omega
   have ix:i-1<l.length:=by omega
   have n1:(0:Int)<=((i-1:Nat):Int):=by omega
   simp only[go_sem,c0,w1,m,ix,n1,qK];cases U:Go.Op.bytesLess y x<;>simp only[go_sem,U,w1]
   .refine⟨i-1,⟨by omega,λz hz=>?_⟩,by omega,rfl,aE _⟩;rw[iC m,show i-1+1=i by omega]at hz;rcases List.mem_cons.1 hz with rfl|hz
    .rw[aCy,fO]at U;exact List.not_lt.1 U
    .exact H z hz
   have hb:∀z,z∈l.take i->z<x:=fin (.inr ⟨y,m,by rw[aCy,bW]at U;exact U⟩)
   clear b2 m w1 ix n1 U
  rotate_left
  focus
   have hb:∀z,z∈l.take i->z<x:=fin (.inl (by have:=of_decide_eq_false c0;omega))
   simp only[go_sem,c0]
  all_goals
   clear fin c0 e0;have b0:=aTK hs hb H;by_cases Z:i<l.length
   .obtain⟨z,hz⟩:=bB Z;have dl:decide (i<l.length)=true:=cT Z;have n1:(0:Int)<=(i:Int):=by omega
    simp only[go_sem,dl,hz,Z,n1,qK];cases U:decide (z=x)<;>simp only[go_sem,U]
    .have B:¬ x∈l:=λh=>by rw[b0,hz]at h;exact of_decide_eq_false U (tH h)
     have ea:kL l x=l.take i++x::l.drop i:=by rw[kL,aD B,aG3 hb H]
     (refine bD (OT.l [0,1,2,3,4,6,7,8,5,9,10,11] .nil) [] ?_;simp only[go_sem]);refine⟨⟨λy m=>fK m,by omega⟩,λy m=>fK m,by omega,.inr λu hu=>⟨by decide,λy m=>fK (l:=(l.drop i).take (l.length-i)) (by rw[lC,List.map_drop];exact m),λy m=>(by rw[bO.1 m];rfl),by simp only[aV,aZ,aO,dT,dS];omega,?_⟩⟩
     (try simp only[go_sem])
     refine⟨by decide,λy m=>(by rcases List.mem_cons.1 m with rfl|m;rfl;exact fK (l:=(l.drop i).take (l.length-i)) (by rw[lC,List.map_drop];exact m)),⟨by simp only[aV];omega,λy m=>fK (l:=l.take i) (by rw[lC];exact m),by simp only[aV,aO,dT,dS];omega⟩,λv G=>?_⟩
     (try simp only[go_sem])
     simp only[dC]at G;have O:u≠v:=λe=>by rw[aF e]at G;cases G
     simp only[aD O]at G;refine DK.mk hk ?_ (aKj ?_)
     .rw[oP];refine fR (tk:=some v) (fR (tk:=some u) (aE s) (λt h=>by cases h;exact hu)) (λt h=>?_);cases h;simp only[gs,dC];rw[aD O];exact G
     .rw[ea,bU,bX,lC,List.map_drop,lZ (l:=(l.map A.str).drop i) (by simp only[dS,aO];omega)]
    .have b1:x∈l:=b0.2 (by rw[hz,fT U]);rw[kL,aF b1]at hk;exact aP hk
   .have B:¬ x∈l:=λh=>by rw[b0,uU aB]at h;cases h
    have ea:kL l x=l.take i++x::l.drop i:=by rw[kL,aD B,aG3 hb H]
    have dl:decide (i<l.length)=false:=bR Z;simp only[go_sem,dl];(refine bD (OT.l [0,1,2,3,4,6,7,8,5,9,10,11] .nil) [] ?_;simp only[go_sem]);refine⟨⟨λy m=>fK m,by omega⟩,λy m=>fK m,by omega,.inr λu hu=>⟨by decide,λy m=>fK (l:=(l.drop i).take (l.length-i)) (by rw[lC,List.map_drop];exact m),λy m=>(by rw[bO.1 m];rfl),by simp only[aV,aZ,aO,dT,dS];omega,?_⟩⟩
    (try simp only[go_sem])
    refine⟨by decide,λy m=>(by rcases List.mem_cons.1 m with rfl|m;rfl;exact fK (l:=(l.drop i).take (l.length-i)) (by rw[lC,List.map_drop];exact m)),⟨by simp only[aV];omega,λy m=>fK (l:=l.take i) (by rw[lC];exact m),by simp only[aV,aO,dT,dS];omega⟩,λv G=>?_⟩
    (try simp only[go_sem])
    simp only[dC]at G;have O:u≠v:=λe=>by rw[aF e]at G;cases G
    simp only[aD O]at G;refine DK.mk hk ?_ (aKj ?_)
    .rw[oP];refine fR (tk:=some v) (fR (tk:=some u) (aE s) (λt h=>by cases h;exact hu)) (λt h=>?_);cases h;simp only[gs,dC];rw[aD O];exact G
    .rw[ea,bU,bX,lC,List.map_drop,lZ (l:=(l.map A.str).drop i) (by simp only[dS,aO];omega)]
end
end
section
section
variable {s:St} {KV Kp:St->A->Prop}
theorem aSQ(l:List Tm):∀out:List aC,l.foldl jC out=(((aY l).filter λx=>decide (x.kind=6)).map Tm.text).foldl kL out:=by
 induction l with
 | nil=>intro out;rfl
 | cons t r h =>
  intro out;rw[pD,h];unfold jC;rw[aY,List.filter_append,bU,rI]
theorem aRZ(out:List aC)(t:Tm):jC out t=(t.kids++t.rest).foldl jC (if decide (t.kind=6)=true then kL out t.text else out):=by
 rw[aSQ];unfold jC;rw[iJ,List.filter_cons];split<;>rfl
theorem aN2{out:List aC}(t:Tm)(h:out.Pairwise λa b=>a<=b):(jC out t).Pairwise λa b=>a<=b:=(aG1 _ _ h).1
theorem aKY(l:List aC)(x:aC):(kL l x).length<=l.length+1:=by
 unfold kL;split
 .omega
 .rw[(aBT x l).length_eq,aV];omega
theorem aLk:∀(m l:List aC),(m.foldl kL l).length<=l.length+m.length
 | [],l=>bJ _
 | x::r,l=>by
  have h:=aLk r (kL l x);have u:=aKY l x;rw[pD,aV];omega
theorem aJC(out:List aC)(t:Tm):(jC out t).length<=out.length+t.pre.length:=by
 refine pH (aLk _ _) ?_;rw[aO];exact Nat.add_le_add_left (List.length_filter_le _ _) _
theorem aFV{L:List Tm}{i:Nat}{x:Tm}(h:L[i]?=some x)(o:List aC):(L.take (i+1)).foldl jC o=jC ((L.take i).foldl jC o) x:=by
 rw[eB h,rI];rfl
theorem aC5:∀(L:List Tm) {o:List aC},(o.Pairwise λa b=>a<=b)->(L.foldl jC o).Pairwise λa b=>a<=b
 | [],_,h=>h
 | t::r,_,h=>aC5 r (aN2 t h)
theorem aBX:∀(L:List Tm) (o:List aC),(L.foldl jC o).length<=o.length+(aY L).length
 | [],o=>Nat.le_add_right _ _
 | t::r,o=>by
  have h:=aBX r (jC o t);have m:=aJC o t;rw[pD,aY,aH];omega
theorem aFJ(N:Nat):∀(t:Tm) (out:List aC) (s:St) (KV Kp:St->A->Prop),SizeOf.sizeOf t<N->TmW t->(out.Pairwise λa b=>a<=b)->out.length+t.pre.length<=4294967000->KV s (.list none ((jC out t).map .str))->Den cx 100 [.list none (out.map .str),.agg t.cs] KV Kp s:=by
 induction N with
 | zero=>intro t out s KV Kp h;omega
 | succ N ih =>
  intro t out s KV Kp ht b6 b1 hb U;have bc:t.pre.length=1+(aY (t.kids++t.rest)).length:=by rw[iJ,aV];omega
  have bf:t.kids.length+t.rest.length<=(aY (t.kids++t.rest)).length:=by
   have:∀l:List Tm,l.length<=(aY l).length:=λl=>by
    induction l with
    | nil=>exact bJ _
    | cons x r ih=>rw[aY,aH,iJ,aV,aV];omega
   have:=this (t.kids++t.rest);rw[aH]at this;exact this
  rw[aRZ]at U;(refine aN func100 [0,1,3,4,6,9,20,21,22,23] ?_;simp only[go_sem,ntmps100,f100]);(refine aM λp hp=>?_)
  (try simp only[go_sem])
  obtain⟨S,z,b7,O⟩:=gZ s p (.cells 67 t.cs) (hp)
  try simp only[go_sem]at O z
  rw[O];clear O;clear hp;cases c1:decide (t.kind=6)<;>rw[c1]at U<;>(try simp only[go_sem,z,c1])
  rotate_left
  focus
   refine aRh out t.text b1 aB ?_
   (try simp only[go_sem,z])
   have m:=aJk t.text b1;have b0:=aKY out t.text;simp only[dF]at U;generalize kL out t.text=o at U m b0⊢
  rotate_left
  focus
   have m:=b1;have b0:out.length<=out.length+1:=Nat.le_succ _;simp only[dA,cZ]at U;generalize b8:out=o at U m⊢;rw[b8]at b0 hb
  all_goals
   (refine bD (OT.l [0,1,2,4,5,8,3,6,7] .nil) [(3,[5])] ?_;simp only[go_sem,z]);refine⟨by decide,λy B=>kV B,pO (tk:=none) (es:=[]) (λ_=>rfl) (λt h=>by cases h) (λy B=>by cases B) (by simp only[aO,aZ];omega) (λbj b4 b2=>?_)⟩
   (try simp only[go_sem,z])
   refine⟨by decide,λy B=>kV B,pO (λh=>by simpa using b4 h) (λt ht=>by rw[wX t ht];simp) (λy B=>kV (gQ B)) (by simp only[aO,aZ,dD];omega) (λG Z b3=>?_)⟩
   (try simp only[go_sem,z,aCa Z])
   have b5:G=none->t.kids++t.rest=[]:=λh=>by
    have:=Z h;simpa using this
   have hV:∀(i:Nat) (y:Tm),(t.kids++t.rest)[i]?=some y->∃u,ev G (List.map Tm.enc t.kids++List.map Tm.enc t.rest)=.list (some u) ((t.kids++t.rest).map Tm.enc):=λi y B=>by
    cases G with
    | none =>
     rw[b5 rfl]at B;cases B
    | some u=>exact⟨u,by rw[bU];rfl⟩
   refine Ex.loop (ι:=Nat) (λi=>[(0,.list none ((((t.kids++t.rest).take i).foldl jC o).map .str)),(20,ev G (List.map Tm.enc t.kids++List.map Tm.enc t.rest)),(21,.int .i64 ((t.kids++t.rest).length:Nat)),(22,.int .i64 (i:Nat))]) (λ_=>S) (λi=>i<=(t.kids++t.rest).length) (λi=>(t.kids++t.rest).length-i) 0 (aW _) ?_ (by exact zG (aE _) b2 (λt h=>(b3 t h).imp id (λh=>⟨_,h⟩))) ?_
   ·(simp only[go_sem,z];try simp)
   .clear b2 b3 b4 Z;intro i hi;refine aX (V:=[0,1,3,4,6,9,20,21,22,23]) _ _ _ _ ?_;simp only[go_sem,z]
    (apply aJ<;>intro h)<;>simp only[go_sem,h,z]
    .have ix:i<(t.kids++t.rest).length:=gQ h;clear h;obtain⟨x,hx⟩:=bB ix;have xm:=bK hx;obtain⟨u,hu⟩:=hV i x hx;have bh:=aAG hx
     have bb:TmW x:=by
      rcases cK.1 xm with q|q
      .exact b6.kids x q
      .exact b6.rest x q
     have b9:SizeOf.sizeOf x<N:=by
      rcases cK.1 xm with q|q
      .have:=mT q;omega
      .have:=vB q;omega
     have bd:=aBX ((t.kids++t.rest).take i) o;have bg:(t.kids++t.rest).length=t.kids.length+t.rest.length:=aH;simp only[go_sem,z,hu,hx,ix];(refine cH λr hr=>?_);have f2:=aI z (aS hr);simp only[go_sem,z,hu,hx,ix,hr,f2];have H:(S.setO r (.cells 67 x.cs)).ge S:=bG (aS hr) (aE _);simp only[Tm.cs]at H;refine cF (ih x _ _ _ _ b9 bb (aC5 ((t.kids++t.rest).take i) m) aB ?_);rw[<-aFV hx]
     (try simp only[go_sem,z,hr,f2])
     exact⟨i+1,ix,by omega,⟨rfl,aU i aB⟩,H⟩
    .have ie:=bQ hi h;clear h;subst ie;rw[bT];exact aG U b7
end
end
section
section
variable {s:St} {KV Kp:St->A->Prop}
def nl(i:Nat)(es:List A):A:=match i with
 | 0=>.nils
 | _+1=>.list none es
theorem aHD{i:Nat}{es:List A}(h:i=0->es=[]):(nl i es).le (.list none es):=by
 cases i with
 | zero=>rw[h rfl];exact A.le.nil
 | succ i=>exact bL _
theorem aL1(l:List Tm):l.length<=(aY l).length:=by
 induction l with
 | nil=>exact bJ _
 | cons x r h=>rw[aY,aH,iJ,aV,aV];omega
theorem aQI(l b:List Tm)(hW:∀t,t∈l++b->TmW t)(hP:(aY l).length+(aY b).length<=4294967000)(z:KV s (.tuple [.str (oO l b).1,.bool (oO l b).2])):Den cx 97 [.list none (l.map Tm.enc),.list none (b.map Tm.enc)] KV Kp s:=by
 have b7:=aL1 l;have b6:=aL1 b;(refine aN func97 aCI ?_;simp only[go_sem,ntmps97,f97]);refine Ex.loop (ι:=Nat) (λi=>[(1,.list none (b.map Tm.enc)),(6,nl i (((l.take i).foldl jC []).map .str)),(7,.nils),(14,.list none (l.map Tm.enc)),(15,.int .i64 (l.length:Nat)),(16,.int .i64 (i:Nat))]) (λ_=>s) (λi=>i<=l.length) (λi=>l.length-i) 0 (aW _) ?_ (aE _) ?_
 .simp only[go_sem]
  try exact⟨rfl,rfl⟩
 .intro i hi;refine aX (V:=aCI) _ _ _ _ ?_;simp only[go_sem]
  (apply aJ<;>intro h)<;>simp only[go_sem,h]
  .have u:i<l.length:=gQ h;clear h;obtain⟨x,y⟩:=bB u;have xm:=bK y
   (try simp only[go_sem,y,u])
   (refine aM λr Z=>?_)
   (try simp only[go_sem,y,u,Z])
   have b5:=aAG y;have O:=aBX (l.take i) [];simp only[aZ]at O;refine jI (show kC _ [.list none (((l.take i).foldl jC []).map .str),.agg x.cs] from⟨aHD (λe=>by subst e;rfl),by simp only[Tm.cs];exact bL _,trivial⟩) (aFJ _ x _ _ _ _ (fZ _) (hW x (iX _ xm)) (aC5 (l.take i) .nil) aB ?_);rw[<-aFV y]
   (try simp only[go_sem,Z])
   exact⟨i+1,u,by omega,⟨rfl,aU i aB⟩,bG Z (aE _)⟩
  .have ie:=bQ hi h;clear h;subst ie;simp only[bT]
   (try simp only[go_sem])
   have hA:l.foldl jC []=jJ l:=rfl;have H:=aBX l [];simp only[aZ]at H;rw[hA]at H⊢;have b2:l.length=0->jJ l=[]:=λe=>by rw[eS e];rfl
   clear hA;refine Ex.loop (ι:=Nat) (λi=>[(6,nl l.length ((jJ l).map .str)),(7,nl i (((b.take i).foldl jC []).map .str)),(24,.list none (b.map Tm.enc)),(25,.int .i64 (b.length:Nat)),(26,.int .i64 (i:Nat))]) (λ_=>s) (λi=>i<=b.length) (λi=>b.length-i) 0 (aW _) ?_ (aE _) ?_
   .simp only[go_sem]
    try exact⟨rfl,rfl⟩
   .intro i hi;refine aX (V:=aCI) _ _ _ _ ?_;simp only[go_sem]
    (apply aJ<;>intro h)<;>simp only[go_sem,h]
    .have u:i<b.length:=gQ h;clear h;obtain⟨x,y⟩:=bB u;have xm:=bK y
     (try simp only[go_sem,y,u])
     (refine aM λr Z=>?_)
     (try simp only[go_sem,y,u,Z])
     have b5:=aAG y;have O:=aBX (b.take i) [];simp only[aZ]at O;refine jI (show kC _ [.list none (((b.take i).foldl jC []).map .str),.agg x.cs] from⟨aHD (λe=>by subst e;rfl),by simp only[Tm.cs];exact bL _,trivial⟩) (aFJ _ x _ _ _ _ (fZ _) (hW x (mA _ xm)) (aC5 (b.take i) .nil) aB ?_);rw[<-aFV y]
     (try simp only[go_sem,Z])
     exact⟨i+1,u,by omega,⟨rfl,aU i aB⟩,bG Z (aE _)⟩
    .have ie:=bQ hi h;clear h;subst ie;simp only[bT]
     (try simp only[go_sem])
     have hB:b.foldl jC []=jJ b:=rfl;rw[hB];have b3:b.length=0->jJ b=[]:=λe=>by rw[eS e];rfl
     unfold oO at z;generalize jJ b=B at z b3⊢;generalize jJ l=L at z b2 H⊢;clear hB;by_cases b1:l.length=0
     .have b4:=b2 b1;subst b4;rw[b1]
      (try simp only[go_sem,nl])
      refine Ex.loop (ι:=Unit) (λ_=>[(35,.int .i64 0),(36,.int .i64 0)]) (λ_=>s) (λ_=>True) (λ_=>0) () trivial ?_ (aE _) ?_
      .simp only[go_sem]
       try exact⟨rfl,rfl⟩
      .rintro⟨⟩ _;refine aX (V:=aCI) _ _ _ _ ?_;have d0:decide ((0:Int)<0)=false:=rfl;simp only[go_sem,d0];exact aP z
     .obtain⟨m,hm⟩:∃m,l.length=m+1:=⟨l.length-1,by omega⟩
      rw[hm];have e6:nl (m+1) (L.map .str)=.list none (L.map .str):=rfl;rw[e6]
      (try simp only[go_sem])
      refine Ex.loop (ι:=Nat) (λi=>[(7,nl b.length (B.map .str)),(34,.list none (L.map .str)),(35,.int .i64 (L.length:Nat)),(36,.int .i64 (i:Nat))]) (λ_=>s) (λi=>i<=L.length/\L.find? (sW B)=(L.drop i).find? (sW B)) (λi=>L.length-i) 0 ⟨aW _,rfl⟩ ?_ (aE _) ?_
      .simp only[go_sem]
       try exact rfl
       try exact⟨rfl,rfl⟩
      .rintro i ⟨hi,G⟩;refine aX (V:=aCI) _ _ _ _ ?_;simp only[go_sem]
       (apply aJ<;>intro h)<;>simp only[go_sem,h]
       .have u:i<L.length:=gQ h;clear h;obtain⟨a,ha⟩:=bB u;have am:=bK ha
        (try simp only[go_sem,ha,u])
        rw[iC ha,List.find?_cons]at G;have U:sW B a=(decide (a=[95])||(decide (a=[36])||!decide (a∈B))):=rfl;have bad:sW B a=true->KV s (.tuple [.str a,.bool true]):=λh=>by rw[h]at G;rw[G]at z;exact z
        have b0:sW B a=false->L.find? (sW B)=(L.drop (i+1)).find? (sW B):=λh=>by rw[h]at G;exact G
        cases c1:decide (a=[95])<;>rw[c1]at U<;>(try simp only[go_sem,c1,ha,u])
        rotate_left
        .exact aP (bad U)
        cases c2:decide (a=[36])<;>rw[c2]at U<;>(try simp only[go_sem,c2,ha,u])
        rotate_left
        .exact aP (bad U)
        refine jI (show kC _ [.list none (B.map .str),.str a] from⟨aHD (λe=>by rw[b3 e];rfl),bL _,trivial⟩) (mU B a ?_);cases c3:decide (a∈B)<;>rw[c3]at U<;>(try simp only[go_sem])
        .exact aP (bad U)
        .exact⟨i+1,⟨u,b0 U⟩,by omega,aU i aB,aE _⟩
       .have ie:=bQ hi h;clear h;subst ie;rw[dP (bJ _)]at G;rw[G]at z;exact aP z
end
end
section
def bZ(d:Dfn)(o:Option Fault):Ob:=.cells 74 (d.cs++(o.getD Fault.none).cs)
theorem aTu{o:Option Fault}(h:NZ o):decide ((o.getD Fault.none).code=0)=o.isNone:=by
 cases o with
 | none=>rfl
 | some f=>exact bR (h f rfl)
def sQ(d:Dfn)(n:aC):Cel:=match d.once.find? λx=>decide (x.name=n)with
 | some x=>x
 | none=>match d.many.find? λx=>decide (x.name=n)with
  | some x=>x
  | none=>⟨[],[],⟨0,0,[],[],[],[]⟩,0,0⟩
def aEj(d:Dfn)(n:aC):Nat:=match d.once.findIdx? λx=>decide (x.name=n)with
 | some i=>i
 | none=>match d.many.findIdx? λx=>decide (x.name=n)with
  | some i=>i
  | none=>0
theorem aJT(d:Dfn)(n:aC):(sQ d n).sort=(dJ d n).1:=by
 unfold sQ dJ;cases d.once.find? λx=>decide (x.name=n)with
 | some x=>rfl
 | none=>cases d.many.find? λx=>decide (x.name=n)<;>rfl
theorem aL7{l:List Cel}{n:aC}{i:Nat}{x:Cel}(z:l[i]?=some x)(G:x.name=n)(h:∀y,y∈l.take i->y.name≠n) :
  (l.find? λx=>decide (x.name=n))=some x/\(l.findIdx? λx=>decide (x.name=n))=some i:=by
 have B:=(dZ.1 z).1
 have u:∀j (m:j<i),(decide (l[j].name=n))=false:=λj m=>by
  have:=h l[j] (bK (by rw[List.getElem?_take_of_lt m,dI aB]));simpa using this
 constructor
 .rw[List.find?_eq_some_iff_getElem];refine⟨cT G,i,B,by rw[dI B]at z;exact tH z,λj m=>?_⟩;have:=u j m;simpa using this
 .rw[List.findIdx?_eq_some_iff_getElem];refine⟨B,?_,λj m=>?_⟩
  .rw[dI B]at z;rw[tH z];exact cT G
  .have:=u j m;simpa using this
theorem aMf{l:List Cel}{n:aC}(h:∀y,y∈l->y.name≠n):(l.find? λx=>decide (x.name=n))=none/\(l.findIdx? λx=>decide (x.name=n))=none:=by
 constructor
 .rw[sE];exactλy m=>by simpa using h y m
 .rw[List.findIdx?_eq_none_iff];exactλy m=>by simpa using h y m
section
variable {s:St} {KV Kp:St->A->Prop} {c:Nat} {d:Dfn} {o:Option Fault}
theorem vI(h:s.getO c=some (bZ d o))(hz:NZ o)(m:KV s (.bool o.isNone)):Den cx 32 [.ptr c 0] KV Kp s:=by
 rw[<-aTu hz]at m;simp only[go_sem,bZ]at h;(refine aN func32 [0,2] ?_;simp only[go_sem,ntmps32,f32]);simp only[go_sem,h];exact aP m
theorem fA(g:Fault)(m:s.getO c=some (bZ d o))(hz:NZ o)(u:KV (s.setO c (bZ d (aK o (some g)))) (.tuple [])):Den cx 91 [.ptr c 0,.int .i64 g.code,.str g.name,.int .i64 g.line,.int .i64 g.col] KV Kp s:=by
 have h:=m;(refine aN func91 [0,1,2,3,4,11] ?_;simp only[go_sem,ntmps91,f91]);refine vI h hz ?_;cases o with
 | some f =>
  (try simp only[go_sem,qI])
  exact aG u (ge_same h)
 | none =>
  simp only[bZ,Dfn.cs,Sig.cs,Fault.cs,dY,dD,aK,qL,uY,Fault.none]at m u
  (try simp only[go_sem,yL,m])
  exact aP u
theorem yO(t:Tm)(S:aC)(h:s.getO c=some (bZ d o))(B:d.sig.below.length<=4294967000)(y:KV s (.bool (fH d.sig t S))):Den cx 98 [.ptr c 0,.agg t.cs,.str S] KV Kp s:=by
 unfold fH at y;simp only[go_sem,bZ]at h;(refine aN func98 [0,1,2,4,6,7,8] ?_;simp only[go_sem,ntmps98,f98]);(refine cH λp m=>?_);have u:=aI h (aS m)
 (try simp only[go_sem,h,u,m])
 (refine bD (OT.r 0 12) [] ?_;simp only[go_sem,h,u,m]);refine cF (aGd d.sig t ?_);cases z:(iN d.sig t).2<;>rw[z]at y<;>(try simp only[go_sem,h,u,m])
 .exact aG y aR
 refine cF (aIw d.sig (iN d.sig t).1 S B ?_)
 (try simp only[go_sem,h,u,m])
 exact aG y aR
theorem aIG(x:aC)(h:s.getO c=some (bZ d o))(m:KV s (.bool (cR d.sig x))):Den cx 99 [.ptr c 0,.str x] KV Kp s:=by
 have e:cR d.sig x=(decide (x∈kR)||decide (x∈d.sig.sorts)):=by
  unfold cR nN;rw[gA];simp
 rw[e]at m;simp only[go_sem,bZ]at h;(refine aN func99 [0,1,4] ?_;simp only[go_sem,ntmps99,f99]);refine aC2 ?_;unfold strs
 (try simp only[go_sem,h])
 refine mU wT x ?_;rw[aDj];cases u:decide (x∈kR)<;>rw[u]at m<;>(try simp only[go_sem,h])
 .refine mU d.sig.sorts x ?_
  (try simp only[go_sem,h])
  exact aP m
 .exact aP m
theorem aOR(sg:Sig)(t:Tm)(U:TmW t)(Z:KV s (.bool (!t.kids.any (jK sg)))):Den cx 93 [.agg sg.cs,.agg t.cs] KV Kp s:=by
 have b1:=U.lk;(refine aN func93 [0,1,2,3,4,6,8,9,10,11,16] ?_;simp only[go_sem,ntmps93,f93]);(refine aM λp hp=>?_)
 (try simp only[go_sem])
 obtain⟨S0,G,b0,y⟩:=gZ s p (.cells 26 sg.cs) (hp)
 try simp only[go_sem]at y G
 rw[y];clear y
 (try simp only[go_sem,G])
 (refine cH λq hq=>?_);have f1:=aI G (aS hq)
 (try simp only[go_sem,G,f1])
 obtain⟨S,u,B,z⟩:=gZ S0 q (.cells 67 t.cs) (aS hq)
 try simp only[go_sem]at z u
 rw[z];clear z;have g1:=B.ob _ _ G;have H:=B.trans b0;clear hp hq f1
 (try simp only[go_sem,g1,u])
 refine Ex.loop (ι:=Nat) (λi=>[(2,.ptr p 0),(3,.ptr q 0),(8,.list none ((t.kids).map Tm.enc)),(9,.int .i64 ((t.kids).length:Nat)),(10,.int .i64 (i:Nat))]) (λ_=>S) (λi=>i<=(t.kids).length/\(t.kids.take i).any (jK sg)=false) (λi=>(t.kids).length-i) 0 ⟨aW _,rfl⟩ ?_ (aE _) ?_
 .simp only[go_sem,g1,u]
  try exact rfl
  try exact⟨rfl,rfl⟩
 .rintro i ⟨hi,Hi⟩;refine aX (V:=[0,1,2,3,4,6,8,9,10,11,16]) _ _ _ _ ?_;simp only[go_sem,g1,u]
  (apply aJ<;>intro h)<;>simp only[go_sem,h,g1,u]
  .have ix:i<t.kids.length:=gQ h;clear h;obtain⟨x,hx⟩:=bB ix;have xm:=bK hx
   (try simp only[go_sem,hx,ix,g1,u])
   (refine cH λr O=>?_);have f2:=aI u (aS O);have f3:=aI g1 (aS O)
   (try simp only[go_sem,g1,u,hx,ix,O,f2,f3])
   have m:(S.setO r (.cells 67 x.cs)).ge S:=bG (aS O) (aE _);simp only[Tm.cs]at m;refine cF (aIg sg _ x _ _ _ (fZ _) (U.kids x xm) ?_);cases c2:jK sg x<;>(try simp only[go_sem,g1,u,O,f2,f3])
   .exact⟨i+1,⟨ix,by rw[eB hx,pC,Hi,pF,c2];rfl⟩,by omega,aU i aB,m⟩
   .rw[jS.2 ⟨x,xm,c2⟩]at Z;exact aG Z (m.trans H)
  .have ie:=bQ hi h;clear h;subst ie;rw[bT]at Hi;rw[Hi]at Z;exact aG Z H
theorem aSS:A.le (.agg [.str [],.str [],.int .i64 0,.int .i64 0,.str [],.str [],.nils,.nils,.int .i64 0,.int .i64 0]) (Cel.enc ⟨[],[],⟨0,0,[],[],[],[]⟩,0,0⟩) :=
 A.le.agg ⟨⟨bL _,rfl⟩,⟨bL _,rfl⟩,⟨bL _,rfl⟩,⟨bL _,rfl⟩,⟨bL _,rfl⟩,⟨bL _,rfl⟩,⟨A.le.nil,rfl⟩,⟨A.le.nil,rfl⟩,⟨bL _,rfl⟩,⟨bL _,rfl⟩,trivial⟩
theorem aDl(n:aC)(ho:d.once.length<=4294967000)(hm:d.many.length<=4294967000)(B:KV s (.tuple [(sQ d n).enc,.bool (dJ d n).2.1,.int .i64 (aEj d n:Nat),.bool (dJ d n).2.2])):Den cx 48 [.agg d.cs,.str n] KV Kp s:=by
 (refine aN func48 aHK ?_;simp only[go_sem,ntmps48,f48]);(refine aM λp hp=>?_)
 (try simp only[go_sem])
 obtain⟨S0,gp,b1,b0⟩:=gZ s p (.cells 31 d.cs) (hp)
 try simp only[go_sem]at b0 gp
 rw[b0];clear b0
 (try simp only[go_sem,gp])
 (refine cH λq hq=>?_);have f1:=aI gp (aS hq)
 (try simp only[go_sem,gp,f1])
 have Z:(S0.setO q (.cells 96 [.str [],.str [],.int .i64 0,.int .i64 0,.str [],.str [],.nils,.nils,.int .i64 0,.int .i64 0])).ge S0:=bG (aS hq) (aE _);have m:(S0.setO q (.cells 96 [.str [],.str [],.int .i64 0,.int .i64 0,.str [],.str [],.nils,.nils,.int .i64 0,.int .i64 0])).getO q=some (.cells 96 [.str [],.str [],.int .i64 0,.int .i64 0,.str [],.str [],.nils,.nils,.int .i64 0,.int .i64 0]):=by rw[aL,aF rfl]
 have b2:S0.getO q=none:=by first|exact hq|exact hq.2
 have u:∀(S3:St) (o:Ob),S3.ge (S0.setO q (.cells 96 [.str [],.str [],.int .i64 0,.int .i64 0,.str [],.str [],.nils,.nils,.int .i64 0,.int .i64 0]))->(S3.setO q o).ge s:=λS3 o h =>
  (wP h).trans ((aEs _ _ _ _).trans ((bG b2 (aE _)).trans b1))
 generalize S0.setO q (.cells 96 [.str [],.str [],.int .i64 0,.int .i64 0,.str [],.str [],.nils,.nils,.int .i64 0,.int .i64 0])=S at Z m u⊢;have g1:=Z.ob _ _ gp;have b3:=Z.trans b1;clear hp hq f1
 (try simp only[go_sem,g1,m])
 refine Ex.loop (ι:=Nat) (λi=>[(1,.str n),(2,.ptr p 0),(4,.ptr q 0),(13,.list none ((d.once).map Cel.enc)),(14,.int .i64 ((d.once).length:Nat)),(15,.int .i64 (i:Nat))]) (λ_=>S) (λi=>i<=(d.once).length/\(∀y,y∈d.once.take i->y.name≠n)) (λi=>(d.once).length-i) 0 ⟨aW _,λy h=>(by cases h)⟩ ?_ (aE _) ?_
 .simp only[go_sem,g1,m]
  try exact rfl
  try exact⟨rfl,rfl⟩
 .rintro i ⟨hi,H⟩;refine aX (V:=aHK) _ _ _ _ ?_;simp only[go_sem,g1,m]
  (apply aJ<;>intro h)<;>simp only[go_sem,h,g1,m]
  .have U:i<d.once.length:=gQ h;clear h;obtain⟨x,G⟩:=bB U;have xm:=bK G
   (try simp only[go_sem,G,U,g1,m])
   (refine cH λr z=>?_);have f2:=aI m (aS z);have f3:=aI g1 (aS z)
   (try simp only[go_sem,g1,m,G,U,z,f2,f3])
   (apply aJ<;>intro h)<;>simp only[go_sem,h,g1,m,z,f2,f3]
   .have he:x.name=n:=gQ h;obtain⟨h1,h2⟩:=aL7 G he H;unfold sQ dJ aEj at B;rw[h1,h2]at B;simp only[Cel.enc,Cel.cs,Tm.cs,dY,dD]at B;exact aG B (u _ _ (bG (aS z) (aE _)))
   .have he:¬ x.name=n:=gQ h;refine⟨i+1,⟨U,λy O=>?_⟩,by omega,aU i aB,bG (aS z) (aE _)⟩;rw[eB G,cK,bO]at O;rcases O with O|rfl
    .exact H y O
    .exact he
  .have ie:=bQ hi h;clear h;subst ie;rw[bT]at H;obtain⟨n1,n2⟩:=aMf H
   (try simp only[go_sem,g1,m])
   refine Ex.loop (ι:=Nat) (λi=>[(1,.str n),(4,.ptr q 0),(28,.list none ((d.many).map Cel.enc)),(29,.int .i64 ((d.many).length:Nat)),(30,.int .i64 (i:Nat))]) (λ_=>S) (λi=>i<=(d.many).length/\(∀y,y∈d.many.take i->y.name≠n)) (λi=>(d.many).length-i) 0 ⟨aW _,λy h=>(by cases h)⟩ ?_ (aE _) ?_
   .simp only[go_sem,g1,m]
    try exact rfl
    try exact⟨rfl,rfl⟩
   .rintro i ⟨hi,H⟩;refine aX (V:=aHK) _ _ _ _ ?_;simp only[go_sem,g1,m]
    (apply aJ<;>intro h)<;>simp only[go_sem,h,g1,m]
    .have U:i<d.many.length:=gQ h;clear h;obtain⟨x,G⟩:=bB U;have xm:=bK G
     (try simp only[go_sem,G,U,g1,m])
     (refine cH λr z=>?_);have f2:=aI m (aS z)
     (try simp only[go_sem,g1,m,G,U,z,f2])
     (apply aJ<;>intro h)<;>simp only[go_sem,h,g1,m,z,f2]
     .have he:x.name=n:=gQ h;obtain⟨h1,h2⟩:=aL7 G he H;unfold sQ dJ aEj at B;rw[n1,n2,h1,h2]at B;simp only[Cel.enc,Cel.cs,Tm.cs,dY,dD]at B;exact aG B (u _ _ (bG (aS z) (aE _)))
     .have he:¬ x.name=n:=gQ h;refine⟨i+1,⟨U,λy O=>?_⟩,by omega,aU i aB,bG (aS z) (aE _)⟩;rw[eB G,cK,bO]at O;rcases O with O|rfl
      .exact H y O
      .exact he
    .have ie:=bQ hi h;clear h;subst ie;rw[bT]at H;obtain⟨m1,m2⟩:=aMf H;unfold sQ dJ aEj at B;rw[n1,n2,m1,m2]at B
     (try simp only[go_sem,m])
     exact DK.mk B (u _ _ (aE _)) (A.le.tuple ⟨aSS,bL _,bL _,bL _,trivial⟩)
end
end
section
def hdC(k:Nat)(c:Code):Code:=match k with
 | 0=>.skip
 | k+1=>match c with
  | .seq c d=>.seq c (hdC k d)
  | _=>.skip
def tlC(k:Nat)(c:Code):Code:=match k with
 | 0=>c
 | k+1=>match c with
  | .seq _ d=>tlC k d
  | c=>c
@[go_sem] theorem hdC_zero(c:Code):hdC 0 c=.skip:=rfl
@[go_sem] theorem hdC_seq(k:Nat)(c d:Code):hdC (k+1) (.seq c d)=.seq c (hdC k d):=rfl
@[go_sem] theorem tlC_zero(c:Code):tlC 0 c=c:=rfl
@[go_sem] theorem tlC_seq(k:Nat)(c d:Code):tlC (k+1) (.seq c d)=tlC k d:=rfl
section
variable {C:Cx} {n:Nat} {V:List Nat} {Q:XK->Env->St->Prop}
theorem aMy{M:Env->St->Prop}:∀(k:Nat) (c:Code) (e:Env) (s:St),(∀e s,M e s->Ex C n (tlC k c) Q e s)->fS C n V (hdC k c) (kX M Q) e s->Ex C n c Q e s
 | 0,c,e,s,m,h=>m e s h
 | k+1,c,e,s,m,h=>by
  cases c
  case seq c d =>
   have y:fS C n V c (kX (fS C n V (hdC k d) (kX M Q)) (kX M Q)) e s:=h;refine Ex.seq (Ex.mono (aX _ _ _ _ y) λx e s u=>?_);cases x
   case normal=>exact aMy k d e s m u
   all_goals exact u
  all_goals exact m e s h
theorem Ex.cut(k:Nat){ι:Type}(E:ι->Env)(S:ι->St)(I:ι->Prop){c:Code}{e:Env}{s:St}
  (h:fS C n V (hdC k c) (kX (λe' s'=>∃j,I j/\e'.has (E j)/\s'.ge (S j)) Q) e s)
  (m:∀j,I j->Ex C n (tlC k c) Q (E j) (S j))(u:C.det=false:=by rfl):Ex C n c Q e s :=
 aMy (V:=V) k c e s (λ_ _ ⟨j,z,y,B⟩=>Ex.weaken (aC1 y) B (m j z) u) h
end
theorem gBx{f:FuncId}{c:Code}{args:List A}{KV Kp:St->A->Prop}{s:St}{fn:Func}(y:kY.P.funcs[f]?=some fn)
  (h:Ex kY fn.ntmps c (lW kY fn.results.toList (DK KV) (DK Kp)) (oN 0 args) s)
  (u:fn.body=some c:=by exact rfl)
  (m : (fn.name == "runtime.NumGoroutine") = false := by exact rfl) (z : args.length ≤ fn.ntmps := by exact jO rfl) : Den cx f args KV Kp s :=
 Den.drop (aMi (aBG (C:=kY) y u m z h))
end
theorem aDT{s:St}{e:TypeId}{m:TI}{ys:List A}{KV:St->A->Prop}{tk:Option Nat}{es:List A}(h:rD cx s e m ys KV (ev tk es)):rD kY s e m ys KV (ev tk es):=by
 cases tk with
 | none =>
  cases ys with
  | nil=>exact h
  | cons y r=>exact h
 | some t=>exact h
theorem aTH{tk:Option Nat}{es:List A}{y:A}(h:tk=none->es++[y]=[]):∃t,tk=some t:=by
 cases tk with
 | none=>exact cV (h rfl) bA
 | some t=>exact⟨t,rfl⟩
section
theorem tZ{S:St}{c p:Nat}{X v:Ob}(h:S.getO p=some v)(m:c≠p):(S.setO c X).getO p=some v:=by rw[aL,aD m];exact h
def OV(c:Nat)(s S:St):Prop:=∀X,(S.setO c X).ge (s.setO c X)
section
variable {s S S':St} {KV Kp:St->A->Prop} {c:Nat} {d:Dfn} {o:Option Fault}
theorem OV.of(h:S.ge s):OV c s S:=λX=>wP h
theorem OV.ge(h:OV c s S)(m:S'.ge S):OV c s S':=λX=>(wP m).trans (h X)
theorem OV.set(h:OV c s S)(Y:Ob):OV c s (S.setO c Y):=λX=>(aEs _ _ _ _).trans (h X)
theorem OV.fin(h:OV c s S){X:Ob}(m:S.getO c=some X):S.ge (s.setO c X):=(ge_same m).trans (h X)
theorem NZ.snoc{o:Option Fault}(h:NZ o){g:Fault}(m:g.code≠0):NZ (aK o (some g)):=dQ h (lQ m)
theorem aLl(l:List Tm){tk:Option Nat}{es:List A}(u:es=l.map Tm.enc)(m:∀t,t∈l->TmW t)(h:(aY l).length<=4294967000)(y:KV s (.tuple [.str (oW l).1,.bool (oW l).2])):Den cx 96 [.list tk es] KV Kp s:=by
 subst u;exact jI (show kC [.list tk (l.map Tm.enc)] [.list none (l.map Tm.enc)] from⟨A.le.forget _ _,trivial⟩) (aR2 l m h y)
theorem aKD(l b:List Tm){tk tl:Option Nat}{es h:List A}(y:es=l.map Tm.enc)(hl:h=b.map Tm.enc)(u:∀t,t∈l++b->TmW t)(m:(aY l).length+(aY b).length<=4294967000)(z:KV s (.tuple [.str (oO l b).1,.bool (oO l b).2])):Den cx 97 [.list tk es,.list tl h] KV Kp s:=by
 subst y;subst hl;exact jI (show kC [.list tk (l.map Tm.enc),.list tl (b.map Tm.enc)] [.list none (l.map Tm.enc),.list none (b.map Tm.enc)] from⟨A.le.forget _ _,A.le.forget _ _,trivial⟩) (aQI l b u m z)
structure M33 (c:Nat) (d:Dfn) (o:Option Fault) (x:Eqn) (s S:St) (p r:Nat) (f:Opr):Prop where
 gck:S.getO c=some (bZ d o)
 gp:S.getO p=some (.cells 69 x.cs)
 gr:S.getO r=some (.cells 80 f.cs)
 npc:c≠p
 nrc:c≠r
 ov:OV c s S
structure M33a (c:Nat) (d:Dfn) (o:Option Fault) (x:Eqn) (s:St) (j:St × Nat × Nat × Nat × Opr × Bool):Prop where
 m:M33 c d o x s j.1 j.2.1 j.2.2.2.1 j.2.2.2.2.1
 hN:jZ d.sig.funs x.left.text=some j.2.2.2.2.1
 h5:x.left.kind=5
 hb:j.2.2.2.2.2=(!x.left.kids.any (jK d.sig)&&(eI d.sig x.left&&eI d.sig x.right))
 gq:j.1.getO j.2.2.1=some (.cells 26 d.sig.cs)
theorem M33.fail{c p r:Nat}{d:Dfn}{o m:Option Fault}{x:Eqn}{s S:St}{f:Opr}(h:M33 c d o x s S p r f):M33 c d m x s (S.setO c (bZ d m)) p r f :=
 ⟨by rw[aL,aF rfl],tZ h.gp h.npc,tZ h.gr h.nrc,h.npc,h.nrc,h.ov.set _⟩
theorem M33.to{c p r:Nat}{d:Dfn}{o:Option Fault}{x:Eqn}{s S S':St}{f:Opr}(h:M33 c d o x s S p r f)(g:S'.ge S):M33 c d o x s S' p r f :=
 ⟨g.ob _ _ h.gck,g.ob _ _ h.gp,g.ob _ _ h.gr,h.npc,h.nrc,h.ov.ge g⟩
theorem aLR(x:Eqn)(t:Tm):t∈x.left::(x.cond++[x.right])↔t∈fL x:=by
 simp only[fL,dG,cK,iI,eJ];exact or_congr_right Or.comm
theorem aK6(x:Eqn):(aY (x.left::(x.cond++[x.right]))).length=(aY (fL x)).length:=by
 simp only[fL,aY,gX,aH,dK];omega
theorem jU(o:Option Fault):aK o none=o:=by cases o<;>rfl
theorem aL3{o:Option Fault}(h:NZ o){k:Int}(q:aC × Bool)(l m:Int)(u:k≠0):NZ (aK o (jG k q l m)):=by
 unfold jG;split
 .exact h.snoc u
 .rw[jU];exact h
theorem aNO(x:Eqn)(hc:s.getO c=some (bZ d o))(hz:NZ o)(hw:d.sig.below.length<=4294967000)(hW:∀t,t∈fL x->TmW t)(hP:(aY (fL x)).length<=4294967000)
  (U:KV (s.setO c (bZ d (aK o (rY d.sig x)))) (.tuple [])):Den cx 33 [.ptr c 0,.agg x.cs] KV Kp s:=by
 have bk:=hc;have bl:=hW x.left (cQ ..);have c4:=hW x.right (eA _ (cQ ..));have c8:=wN (l:=fL x) (x:=x.left) (cQ ..);have c7:x.cond.length+2<=(aY (fL x)).length:=lO (fL x);have c6:=aK5 x.left;unfold rY at U;simp only[go_sem,bZ]at hc;(refine gBx func33 ?_;simp only[go_sem,ntmps33,f33]);refine Ex.cut (V:=yC) 5 (ι:=St × Nat × Nat × Nat × Opr × Bool) (λj=>[(0,.ptr c 0),(3,.ptr j.2.1 0),(4,.ptr j.2.2.1 0),(5,.ptr j.2.2.2.1 0),(8,.bool j.2.2.2.2.2)]) (λj=>j.1) (M33a c d o x s) ?_ ?_
 ·(try simp only[go_sem])
  (refine cH λp hp=>?_);have f1:=aI hc (aS hp)
  (try simp only[go_sem,hc,f1,hp])
  obtain⟨S0,z,bf,bg⟩:=gZ s p (.cells 69 x.cs) (aS hp)
  try simp only[go_sem]at bg z
  rw[bg];clear bg;have B:=bf.ob _ _ hc;have b9:c≠p:=f1.1;clear hp f1
  (try simp only[go_sem,B,z])
  (refine cH λq hq=>?_);have f1:=aI B (aS hq);have f2:=aI z (aS hq)
  (try simp only[go_sem,B,z,hq,f1,f2])
  obtain⟨S1,H,b8,bh⟩:=gZ S0 q (.cells 26 d.sig.cs) (aS hq)
  try simp only[go_sem]at bh H
  rw[bh];clear bh;have z:=b8.ob _ _ z;have B:=b8.ob _ _ B;have b7:=b8.trans bf;have c9:c≠q:=f1.1;clear hq f1 f2 bf b8
  (try simp only[go_sem,B,z,H])
  refine cW (aDb d.sig.funs x.left.text ?_);by_cases h5:x.left.kind=5;rotate_left
  .rw[aD h5]at U;have d5:decide (x.left.kind=5)=false:=bR h5;generalize (jZ d.sig.funs x.left.text).getD mI=w;generalize (jZ d.sig.funs x.left.text).isSome=b
   (try simp only[go_sem,B,z,H])
   (refine cH λr hr=>?_);have f1:=aI B (aS hr);have f2:=aI z (aS hr);have f3:=aI H (aS hr)
   (try simp only[go_sem,B,z,H,hr,f1,f2,f3])
   obtain⟨S,gr,b2,b4⟩:=gZ S1 r (.cells 80 w.cs) (aS hr)
   try simp only[go_sem]at b4 gr
   rw[b4];clear b4;have z:=b2.ob _ _ z;have B:=b2.ob _ _ B;have ge:=b2.trans b7;have b3:S.getO c=some (bZ d o):=ge.ob _ _ bk;clear hr f1 f2 f3 H gr
   (try simp only[go_sem,B,z,d5])
   cases d6:decide (x.left.kind=6)<;>(try simp only[go_sem,B,z,d5,d6])
   .have en:lG x=[]:=aD (λh=>h.elim h5 (of_decide_eq_false d6));rw[en]at U;refine cW (fA ⟨15,[],x.line,x.col⟩ b3 hz ?_)
    (try simp only[go_sem])
    exact aG U (OV.of ge _)
   .have en:lG x=x.left.text:=aF (.inr (fT d6));rw[en]at U;refine cW (fA ⟨15,x.left.text,x.line,x.col⟩ b3 hz ?_)
    (try simp only[go_sem])
    exact aG U (OV.of ge _)
  have d5:decide (x.left.kind=5)=true:=cT h5;rw[aF h5]at U;have en:lG x=x.left.text:=aF (.inl h5);rw[en]at U;cases hN:jZ d.sig.funs x.left.text with
  | none =>
   rw[hN]at U
   (try simp only[go_sem,B,z,H,uY,kZ,mI])
   (refine cH λr hr=>?_);have f1:=aI B (aS hr);have f2:=aI z (aS hr)
   (try simp only[go_sem,B,z,H,hr,f1,f2,d5])
   have ge:=(bG (o:=.cells 80 [.str [],.list none [],.str [],.list none [],.int .i64 0,.int .i64 0,.list none []]) (aS hr) (aE S1)).trans b7;refine cW (fA ⟨15,x.left.text,x.line,x.col⟩ (ge.ob _ _ bk) hz ?_)
   (try simp only[go_sem])
   exact aG U (OV.of ge _)
  | some f =>
   rw[hN]at U;simp only at U
   (try simp only[go_sem,B,z,H,qL,Option.isSome_some])
   (refine cH λr hr=>?_);have f1:=aI B (aS hr);have f2:=aI z (aS hr);have f3:=aI H (aS hr)
   (try simp only[go_sem,B,z,H,hr,f1,f2,f3])
   obtain⟨S,gr,b2,b4⟩:=gZ S1 r (.cells 80 f.cs) (aS hr)
   try simp only[go_sem]at b4 gr
   rw[b4];clear b4;have z:=b2.ob _ _ z;have H:=b2.ob _ _ H;have B:=b2.ob _ _ B;have ge:=b2.trans b7;have b3:S.getO c=some (bZ d o):=ge.ob _ _ bk;have bb:c≠r:=f1.1;clear hr f1 f2 f3 b2 b7
   (try simp only[go_sem,B,z,H,gr,d5])
   refine cW (cF (aOR d.sig x.left bl ?_));cases c1:(!x.left.kids.any (jK d.sig))<;>(try simp only[go_sem,B,z,H,gr])
   rotate_left
   focus
    refine cW (cF (wQ d.sig hw x.left bl ?_));cases c2:eI d.sig x.left<;>(try simp only[go_sem,B,z,H,gr])
    rotate_left
    focus
     refine cW (cF (wQ d.sig hw x.right c4 ?_));cases c3:eI d.sig x.right<;>(try simp only[go_sem,B,z,H,gr])
     .exact⟨(S,p,q,r,f,false),⟨⟨b3,z,gr,b9,bb,OV.of ge⟩,hN,h5,by simp only[c1,c2,c3];rfl,H⟩,⟨rfl,rfl,rfl,rfl⟩,aE _⟩
     .exact⟨(S,p,q,r,f,true),⟨⟨b3,z,gr,b9,bb,OV.of ge⟩,hN,h5,by simp only[c1,c2,c3];rfl,H⟩,⟨rfl,rfl,rfl,rfl⟩,aE _⟩
    .exact⟨(S,p,q,r,f,false),⟨⟨b3,z,gr,b9,bb,OV.of ge⟩,hN,h5,by simp only[c1,c2];rfl,H⟩,⟨rfl,rfl,rfl,rfl⟩,aE _⟩
   .exact⟨(S,p,q,r,f,false),⟨⟨b3,z,gr,b9,bb,OV.of ge⟩,hN,h5,by simp only[c1];rfl,H⟩,⟨rfl,rfl,rfl,rfl⟩,aE _⟩
 rintro⟨S,p,q,r,f,b0⟩ ⟨m,hN,h5,b6,H⟩;simp only at m hN b6 H;simp only[tlC_seq,tlC_zero];rw[aF h5,hN]at U;simp only at U
 have bd:vO d.sig x=((b0&&x.cond.all (eI d.sig))&&x.left.kids.all (nO d.sig)):=by
  rw[b6];unfold vO;simp only[Bool.and_assoc]
 clear b6;refine Ex.cut (V:=yC) 3 (ι:=Unit) (λ_=>[(0,.ptr c 0),(3,.ptr p 0),(5,.ptr r 0),(8,.bool true)]) (λ_=>S) (λ_=>vO d.sig x=true) ?_ ?_
 .have B:=m.gck;have z:=m.gp;have gr:=m.gr;simp only[go_sem,bZ]at B;simp only[go_sem]at z gr H
  (try simp only[go_sem,B,z,H,gr])
  have b6:b0=b0:=rfl;refine Ex.loop (ι:=Nat) (λi=>[(0,.ptr c 0),(3,.ptr p 0),(4,.ptr q 0),(5,.ptr r 0),(8,.bool (b0&&(x.cond.take i).all (eI d.sig))),(79,.list none (x.cond.map Tm.enc)),(80,.int .i64 (x.cond.length:Nat)),(81,.int .i64 (i:Nat))]) (λ_=>S) (λi=>i<=x.cond.length) (λi=>x.cond.length-i) 0 (aW _) ?_ (by first|exact aE _|assumption) ?_
  .simp only[go_sem,B,z,H,gr]
   try simp only[kO,nK,eU,b6,sJ]
   try exact rfl
   try exact⟨rfl,rfl⟩
   try exact⟨trivial,rfl⟩
  .intro i hi;refine aX (V:=yC) _ _ _ _ ?_;simp only[go_sem,B,z,H,gr]
   (apply aJ<;>intro h)<;>simp only[go_sem,h,B,z,H,gr]
   .have ix:i<x.cond.length:=gQ h;clear h;obtain⟨y,Z⟩:=bB ix;have ym:=bK Z
    (try simp only[go_sem,Z,ix,B,z,H,gr])
    (refine cH λz1 G=>?_);have e1:=aI B (aS G);have ez:=aI H (aS G)
    (try simp only[go_sem,B,z,H,gr,Z,ix,G,e1,ez])
    have O:(S.setO z1 (.cells 67 y.cs)).ge S:=bG (aS G) (aE _);simp only[Tm.cs]at O;have et:(x.cond.take (i+1)).all (eI d.sig)=((x.cond.take i).all (eI d.sig)&&eI d.sig y):=by rw[eB Z,kN,fG,nK,eU]
    cases hB:(b0&&(x.cond.take i).all (eI d.sig))<;>(try simp only[go_sem,B,z,H,gr,G,e1,ez])
    .refine⟨i+1,ix,by omega,?_,O⟩
     try simp only[et,<-Bool.and_assoc,hB,gB]
     try exact aU i aB
     try exact⟨trivial,aU i aB⟩
     try exact⟨rfl,aU i aB⟩
    .refine cW (cF (wQ d.sig hw y (hW y (eA _ (eA _ ym))) ?_))
     (try simp only[go_sem,B,z,H,gr,G,e1,ez])
     refine⟨i+1,ix,by omega,?_,O⟩
     try simp only[et,<-Bool.and_assoc,hB,dW]
     try exact aU i aB
     try exact⟨trivial,aU i aB⟩
     try exact⟨rfl,aU i aB⟩
   .have ie:=bQ hi h;clear h;subst ie;simp only[bT];obtain⟨b1,bj⟩:∃b1,b1=(b0&&x.cond.all (eI d.sig)):=⟨_,rfl⟩
    rw[<-bj]at bd⊢
    (try simp only[go_sem,B,z,H,gr])
    refine Ex.loop (ι:=Nat) (λi=>[(0,.ptr c 0),(3,.ptr p 0),(4,.ptr q 0),(5,.ptr r 0),(8,.bool (b1&&(x.left.kids.take i).all (nO d.sig))),(94,.list none (x.left.kids.map Tm.enc)),(95,.int .i64 (x.left.kids.length:Nat)),(96,.int .i64 (i:Nat))]) (λ_=>S) (λi=>i<=x.left.kids.length) (λi=>x.left.kids.length-i) 0 (aW _) ?_ (by first|exact aE _|assumption) ?_
    .simp only[go_sem,B,z,H,gr]
     try simp only[kO,nK,eU,bj,sJ]
     try exact rfl
     try exact⟨rfl,rfl⟩
     try exact⟨trivial,rfl⟩
    .intro i hi;refine aX (V:=yC) _ _ _ _ ?_;simp only[go_sem,B,z,H,gr]
     (apply aJ<;>intro h)<;>simp only[go_sem,h,B,z,H,gr]
     .have ix:i<x.left.kids.length:=gQ h;clear h;obtain⟨y,Z⟩:=bB ix;have ym:=bK Z
      (try simp only[go_sem,Z,ix,B,z,H,gr])
      (refine cH λz1 G=>?_);have e1:=aI B (aS G);have ez:=aI H (aS G)
      (try simp only[go_sem,B,z,H,gr,Z,ix,G,e1,ez])
      have O:(S.setO z1 (.cells 67 y.cs)).ge S:=bG (aS G) (aE _);simp only[Tm.cs]at O;have et:(x.left.kids.take (i+1)).all (nO d.sig)=((x.left.kids.take i).all (nO d.sig)&&nO d.sig y):=by rw[eB Z,kN,fG,nK,eU]
      cases hB:(b1&&(x.left.kids.take i).all (nO d.sig))<;>(try simp only[go_sem,B,z,H,gr,G,e1,ez])
      .refine⟨i+1,ix,by omega,?_,O⟩
       try simp only[et,<-Bool.and_assoc,hB,gB]
       try exact aU i aB
       try exact⟨trivial,aU i aB⟩
       try exact⟨rfl,aU i aB⟩
      .refine cW (cF (aIe d.sig hw y (bl.kids y ym) (by have:=aGP ym;omega) ?_))
       (try simp only[go_sem,B,z,H,gr,G,e1,ez])
       refine⟨i+1,ix,by omega,?_,O⟩
       try simp only[et,<-Bool.and_assoc,hB,dW]
       try exact aU i aB
       try exact⟨trivial,aU i aB⟩
       try exact⟨rfl,aU i aB⟩
     .have ie:=bQ hi h;clear h;subst ie;simp only[bT];rw[<-bd]
      (try simp only[go_sem,B,z,H,gr])
      clear bj;cases cE:vO d.sig x<;>(try simp only[go_sem,B,z,H,gr])
      .rw[aF cE]at U;refine cW (fA ⟨16,f.name,x.line,x.col⟩ m.gck hz ?_)
       (try simp only[go_sem])
       exact aG U (m.ov _)
      .exact⟨(),aE _⟩
 rintro⟨⟩ cE;rw[aD (by rw[cE];decide)]at U;clear bd H;simp only[tlC_seq,tlC_zero];have bz:(x.cond++[x.right]).length=x.cond.length+1:=by rw[aH];rfl
 refine Ex.cut (V:=yC) 2 (ι:=St × Nat) (λj=>[(0,.ptr c 0),(3,.ptr p 0),(5,.ptr r 0),(8,.bool true),(13,.list (some j.2) ((x.cond++[x.right]).map Tm.enc))]) (λj=>j.1) (λj=>M33 c d (aK o (jG 16 (oW (x.left::(x.cond++[x.right]))) x.line x.col)) x s j.1 p r f) ?_ ?_
 .have z:=m.gp;simp only[Eqn.cs]at z
  (try simp only[go_sem,z])
  (refine bD (OT.l [0,1,2,4,5,6,3,7,8] .nil) [(3,[5])] ?_;simp only[go_sem,z]);refine⟨by decide,λy Z=>kV Z,aDT (pO (tk:=none) (es:=[]) (λ_=>rfl) (λt h=>by cases h) (λy Z=>by cases Z) (by simp only[aO,aZ];omega) (λc5 bv bq=>?_))⟩
  (try simp only[go_sem,z])
  refine⟨by decide,λy Z=>(by rw[bO.1 Z];rfl),aDT (pO (λh=>by simpa using bv h) (λt ht=>by rw[wX t ht];simp) (λy Z=>kV (gQ Z)) (by simp only[aO,aV,aZ,dD];omega) (λcb bw br=>?_))⟩;obtain⟨t2,rfl⟩:=aTH bw;generalize bn:gs (gs S c5 _ _) (some t2) _ _=S2;have bt:S2.ge S:=by rw[<-bn];exact zG (aE _) bq (λt h=>(br t h).imp id (λh=>⟨_,h⟩))
  clear bn bv bq bw br;have eL:(List.map Tm.enc x.cond++[A.agg x.right.cs])=(x.cond++[x.right]).map Tm.enc:=by simp only[bU,bX,dL,cY]
  simp only[Tm.cs]at eL;have z:=bt.ob _ _ z;have m2:=m.to bt
  (try simp only[go_sem,z,ev,eL])
  refine .inr λt c0=>⟨by decide,λy Z=>kV Z,λy Z=>(by rw[bO.1 Z];rfl),by simp only[aV,aZ,aO,bz];omega,?_⟩
  generalize bp:St.setT _ t _=S3;have bc:S3.ge S2:=by rw[<-bp];simp only[oP];exact fR (tk:=some t) (aE S2) (λu hu=>by cases hu;exact c0)
  have z:=bc.ob _ _ z;have m3:=m2.to bc;clear bp;have eM:(A.agg x.left.cs::List.map Tm.enc (x.cond++[x.right]))=(x.left::(x.cond++[x.right])).map Tm.enc:=by simp only[bX,cY]
  simp only[Tm.cs]at eM
  (try simp only[go_sem,z,eM])
  refine cW (aLl (x.left::(x.cond++[x.right])) (by simp only[bX,bU,dL,cY,Tm.cs,dY,dD]) (λt ht=>hW t ((aLR x t).1 ht)) (by rw[aK6];exact hP) ?_)
  (try simp only[go_sem,z])
  generalize oW (x.left::(x.cond++[x.right]))=Q;obtain⟨v,b⟩:=Q;cases b<;>(try simp only[go_sem,z])
  .exact⟨(S3,t2),by rw[jG,aD (λh=>by cases h),jU];exact m3,rfl,aE _⟩
  .refine cW (fA ⟨16,v,x.line,x.col⟩ m3.gck hz ?_)
   (try simp only[go_sem])
   exact⟨(S3.setO c _,t2),by rw[jG,aF rfl];exact m3.fail,rfl,aE _⟩
 clear m S;rintro⟨S,t2⟩ m;simp only at m;generalize b5:jG 16 (oW (x.left::(x.cond++[x.right]))) x.line x.col=P1 at U m⊢;have G:NZ (aK o P1):=by rw[<-b5];exact aL3 hz _ _ _ dM
 rw[<-eO]at U;clear b5 hz;generalize aK o P1=o1 at U m G;simp only[tlC_seq,tlC_zero];refine Ex.cut (V:=yC) 1 (ι:=St) (λ_=>[(0,.ptr c 0),(3,.ptr p 0),(5,.ptr r 0),(8,.bool true)]) (λj=>j) (λj=>M33 c d (aK o1 (jG 17 (oO (x.cond++[x.right]) [x.left]) x.line x.col)) x s j p r f) ?_ ?_
 .have z:=m.gp;simp only[Eqn.cs]at z
  (try simp only[go_sem,z])
  refine .inl (cW (aKD (x.cond++[x.right]) [x.left] rfl (by simp only[bX,dL,cY,Tm.cs]) (λt ht=>hW t ((aLR x t).1 (by simp only[dG,cK,iI,eJ]at ht⊢;exact Or.comm.1 ht))) (by rw[<-aK6,aY,aH]at hP;simp only[aY,dK];omega) ?_))
  (try simp only[go_sem,z])
  generalize oO (x.cond++[x.right]) [x.left]=Q;obtain⟨v,b⟩:=Q;cases b<;>(try simp only[go_sem,z])
  .exact⟨S,by rw[jG,aD (λh=>by cases h),jU];exact m,aE _⟩
  .refine cW (fA ⟨17,v,x.line,x.col⟩ m.gck G ?_)
   (try simp only[go_sem])
   exact⟨S.setO c _,by rw[jG,aF rfl];exact m.fail,aE _⟩
 clear m S;rintro S m;generalize b5:jG 17 (oO (x.cond++[x.right]) [x.left]) x.line x.col=P1 at U m⊢;have bm:NZ (aK o1 P1):=by rw[<-b5];exact aL3 G _ _ _ dM
 rw[<-eO]at U;clear b5 G;generalize aK o1 P1=o2 at U m bm;simp only[tlC_seq,tlC_zero];refine aX (V:=yC) _ _ _ _ ?_;have B:=m.gck;have z:=m.gp;have gr:=m.gr;simp only[go_sem,bZ]at B;simp only[go_sem]at z gr
 (try simp only[go_sem,B,z,gr])
 refine Ex.loop (ι:=Nat) (λi=>[(0,.ptr c 0),(3,.ptr p 0),(5,.ptr r 0),(8,.bool ((x.cond.take i).all λt=>fH d.sig t [66,111,111,108])),(159,.list none (x.cond.map Tm.enc)),(160,.int .i64 (x.cond.length:Nat)),(161,.int .i64 (i:Nat))]) (λ_=>S) (λi=>i<=x.cond.length) (λi=>x.cond.length-i) 0 (aW _) ?_ (aE _) ?_
 .simp only[go_sem,B,z,gr]
  try exact rfl
  try exact⟨rfl,rfl⟩
  try exact⟨trivial,rfl⟩
 .intro i hi;refine aX (V:=yC) _ _ _ _ ?_;simp only[go_sem,B,z,gr]
  (apply aJ<;>intro h)<;>simp only[go_sem,h,B,z,gr]
  .have ix:i<x.cond.length:=gQ h;clear h;obtain⟨y,Z⟩:=bB ix;have ym:=bK Z
   (try simp only[go_sem,Z,ix,B,z,gr])
   (refine cH λz1 G=>?_);have e1:=aI B (aS G);have ez:=aI z (aS G)
   (try simp only[go_sem,B,z,gr,Z,ix,G,e1,ez])
   have O:(S.setO z1 (.cells 67 y.cs)).ge S:=bG (aS G) (aE _);simp only[Tm.cs]at O;have et:((x.cond.take (i+1)).all λt=>fH d.sig t [66,111,111,108])=((x.cond.take i).all (λt=>fH d.sig t [66,111,111,108])&&fH d.sig y [66,111,111,108]):=by rw[eB Z,kN,fG,nK,eU]
   cases hB:((x.cond.take i).all λt=>fH d.sig t [66,111,111,108])<;>(try simp only[go_sem,B,z,gr,G,e1,ez])
   .refine⟨i+1,ix,by omega,?_,O⟩
    try simp only[et,hB,gB]
    try exact aU i aB
    try exact⟨trivial,aU i aB⟩
    try exact⟨rfl,aU i aB⟩
   .refine cW (cF (yO y [66,111,111,108] (O.ob _ _ m.gck) hw ?_))
    (try simp only[go_sem,B,z,gr,G,e1,ez])
    refine⟨i+1,ix,by omega,?_,O⟩
    try simp only[et,hB,dW]
    try exact aU i aB
    try exact⟨trivial,aU i aB⟩
    try exact⟨rfl,aU i aB⟩
  .have ie:=bQ hi h;clear h;subst ie;simp only[bT]
   (try simp only[go_sem,B,z,gr])
   cases hB:(x.cond.all λt=>fH d.sig t [66,111,111,108])<;>(try simp only[go_sem,B,z,gr])<;>rw[hB]at U
   .refine cW (fA ⟨16,f.name,x.line,x.col⟩ m.gck bm ?_)
    (try simp only[go_sem])
    exact aG U (m.ov _)
   .refine cW (cF (yO x.right f.sort m.gck hw ?_));cases hC:fH d.sig x.right f.sort<;>(try simp only[go_sem,B,z,gr])<;>rw[hC]at U
    .refine cW (fA ⟨16,f.name,x.line,x.col⟩ m.gck bm ?_)
     (try simp only[go_sem])
     exact aG U (m.ov _)
    .rw[show bH (!(true&&true)) (⟨16,f.name,x.line,x.col⟩:Fault)=none from rfl,jU]at U;exact aG U (m.ov.fin m.gck)
end
end
section
theorem aGV(o:Option Fault)(b h:Bool)(g:Fault):aK (aK o (bH b g)) (bH h g)=aK o (bH (b||h) g):=by rw[eO,aAL]
theorem oh{a b c:Option Fault}{f:Fault}(h:aK a (aK (some f) b)=c):aK (aK a (some f)) b=c:=by rw[eO];exact h
theorem aPt{sg:Sig}{b:List aC}{l:List Cel}{i:Nat}{x:Cel}(h:l[i]?=some x):pT sg b (l.drop i)=aK (aCE sg b x) (pT sg (b++[x.name]) (l.drop (i+1))):=by
 rw[iC h];rfl
theorem aTi{l:List Cel}{x:aC}:(l.any λy=>decide (x=y.name))=decide (x∈l.map Cel.name):=by
 rw[gA,jS];simp only[bW,cN];exact⟨λ⟨y,h,m⟩=>⟨y,h,m.symm⟩,λ⟨y,h,m⟩=>⟨y,h,m.symm⟩⟩
structure M34 (c:Nat) (d:Dfn) (o:Option Fault) (q:Nat) (x:Cel) (s S:St):Prop where
 gck:S.getO c=some (bZ d o)
 gq:S.getO q=some (.cells 96 x.cs)
 ov:OV c s S
 nz:NZ o
 nq:c≠q
theorem M34.fail{c q:Nat}{d:Dfn}{o:Option Fault}{x:Cel}{s S:St}{g:Fault}(h:M34 c d o q x s S)(m:g.code≠0:=by simp):M34 c d (aK o (some g)) q x s (S.setO c (bZ d (aK o (some g)))) :=
 ⟨by rw[aL,aF rfl],tZ h.gq h.nq,h.ov.set _,h.nz.snoc m,h.nq⟩
theorem M34.to{c q:Nat}{d:Dfn}{o:Option Fault}{x:Cel}{s S S':St}(h:M34 c d o q x s S)(g:S'.ge S):M34 c d o q x s S' :=
 ⟨g.ob _ _ h.gck,g.ob _ _ h.gq,h.ov.ge g,h.nz,h.nq⟩
section
variable {s S S':St} {KV Kp:St->A->Prop} {c:Nat} {d:Dfn} {o:Option Fault}
theorem aP5(hc:s.getO c=some (bZ d o))(hz:NZ o)(hw:d.sig.below.length<=4294967000)(hN:d.once.length+d.many.length<=4294967000)(hT:∀x,x∈d.once++d.many->TmW x.init/\x.init.pre.length<=4294967000)
  (hk:KV (s.setO c (bZ d (aK o (pT d.sig [] (d.once++d.many))))) (.tuple [])):Den cx 34 [.ptr c 0] KV Kp s:=by
 have bk:=hc;simp only[go_sem,bZ]at hc;(refine aN func34 aES ?_;simp only[go_sem,ntmps34,f34]);(refine bD (OT.l [0,1,2,3,4,5,7,8,9,10,11,6,12,13] .nil) [(6,[11])] ?_;simp only[go_sem,hc]);refine⟨by decide,λy O=>tX O,pO (tk:=none) (es:=[]) (λ_=>rfl) (λt h=>by cases h) (λy O=>by cases O) (by simp only[aO,aZ];omega) (λbp bf bc=>?_)⟩
 (try simp only[go_sem,hc])
 refine⟨by decide,λy O=>tX O,pO (λh=>by simpa using bf h) (λt ht=>by rw[wX t ht];simp) (λy O=>tX (gQ O)) (by simp only[aO,aZ,dD];omega) (λb5 bb bd=>?_)⟩
 (try simp only[go_sem,hc,aCa bb])
 have bg:b5=none->d.once++d.many=[]:=λh=>by
  have:=bb h;simpa using this
 have hV:∀(i:Nat) (y:Cel),(d.once++d.many)[i]?=some y->∃u,ev b5 (List.map Cel.enc d.once++List.map Cel.enc d.many)=.list (some u) ((d.once++d.many).map Cel.enc):=λi y O=>by
  cases b5 with
  | none =>
   rw[bg rfl]at O;cases O
  | some u=>exact⟨u,by rw[bU];rfl⟩
 have bl:(d.once++d.many).length<=4294967000:=by rw[aH];exact hN
 generalize bn:ev b5 (List.map Cel.enc d.once++List.map Cel.enc d.many)=V at hV⊢;generalize hQ:aK o (pT d.sig [] (d.once++d.many))=Q at hk
 refine Ex.loop (ι:=Nat × Option Fault) (λk=>[(0,.ptr c 0),(2,V),(22,V),(23,.int .i64 ((d.once++d.many).length:Nat)),(24,.int .i64 (k.1:Nat))]) (λk=>s.setO c (bZ d k.2))
  (λk=>k.1<=(d.once++d.many).length/\NZ k.2/\aK k.2 (pT d.sig (((d.once++d.many).take k.1).map Cel.name) ((d.once++d.many).drop k.1))=Q) (λk=>(d.once++d.many).length-k.1) (0,o) ⟨aW _,hz,hQ⟩ ?_ (by exact(zG (aE _) bc (λt h=>(bd t h).imp id (λh=>⟨_,h⟩))).trans (ge_same bk)) ?_
 ·(simp only[go_sem,hc];try simp)
 .clear bc bd bf bb hQ;rintro⟨i,o1⟩ ⟨hi,H,hI⟩;simp only at hi H hI;refine aX (V:=aES) _ _ _ _ ?_;have b1:(s.setO c (bZ d o1)).getO c=some (bZ d o1):=by rw[aL,aF rfl]
  have ov:OV c s (s.setO c (bZ d o1)):=(OV.of (aE s)).set _;simp only;generalize s.setO c (bZ d o1)=S at b1 ov⊢;have z:=b1;simp only[go_sem,bZ]at z;simp only[go_sem,z]
  (apply aJ<;>intro h)<;>simp only[go_sem,h,z]
  .have ix:i<(d.once++d.many).length:=gQ h;clear h;obtain⟨x,hx⟩:=bB ix;have xm:=bK hx
   (try simp only[go_sem,hx,ix,z])
   obtain⟨u,hu⟩:=hV i x hx;rw[aPt hx]at hI;simp only[go_sem,z,hu,hx,ix];(refine cH λq hq=>?_);have f1:=aI z (aS hq);simp only[go_sem,z,hu,hx,ix,hq,f1];obtain⟨S1,B,b4,b9⟩:=gZ S q (.cells 96 x.cs) (aS hq)
   try simp only[go_sem]at b9 B
   rw[b9];clear b9;have z:=b4.ob _ _ z;have b6:S1.getO c=some (bZ d o1):=b4.ob _ _ b1;have bh:=ov.ge b4;have nq:c≠q:=f1.1;clear hq f1 b4
   (try simp only[go_sem,z,B,hu])
   rw[<-lC];refine⟨λy O=>tX O,hi,?_⟩;obtain⟨M,hM⟩:∃M,M=(d.once++d.many).take i:=⟨_,rfl⟩
   rw[<-hM]at hI⊢;have bm:M.length<=4294967000:=by rw[hM,dT];omega
   refine Ex.loop (ι:=Nat × Option Fault × St) (λk=>[(0,.ptr c 0),(2,V),(4,.ptr q 0),(22,V),(23,.int .i64 ((d.once++d.many).length:Nat)),(24,.int .i64 (i:Nat)),(31,.list none (M.map Cel.enc)),(32,.int .i64 (M.length:Nat)),(33,.int .i64 (k.1:Nat))]) (λk=>k.2.2)
    (λk=>k.1<=M.length/\M34 c d k.2.1 q x s k.2.2/\k.2.1=aK o1 (bH ((M.take k.1).any λy=>decide (x.name=y.name)) ⟨14,x.name,x.line,x.col⟩)) (λk=>M.length-k.1) (0,o1,S1) ⟨aW _,⟨b6,B,bh,H,nq⟩,(jU o1).symm⟩ ?_ (by exact aE _) ?_
   .simp only[go_sem,z,B]
    try exact rfl
    try exact⟨rfl,rfl⟩
    try exact⟨trivial,rfl⟩
    try exact⟨hu.symm,hu.symm,rfl⟩
   .clear b6 B bh z H nq b1 ov;rintro⟨j,o2,S2⟩ ⟨hj,m,b0⟩;simp only at hj m b0;refine aX (V:=aES) _ _ _ _ ?_;have z:=m.gck;have B:=m.gq;simp only[go_sem,bZ]at z B;simp only[go_sem,z,B]
    (apply aJ<;>intro h)<;>simp only[go_sem,h,z,B]
    .have jx:j<M.length:=gQ h;clear h;obtain⟨y,O⟩:=bB jx;have ym:=bK O
     (try simp only[go_sem,O,jx,z,B])
     (refine cH λz1 H=>?_);have e1:=aI z (aS H);have ez:=aI B (aS H)
     (try simp only[go_sem,z,B,O,jx,H,e1,ez])
     obtain⟨S3,b7,b2,b3⟩:=gZ S2 z1 (.cells 96 y.cs) (aS H)
     try simp only[go_sem]at b3 b7
     rw[b3];clear b3;have m3:=m.to b2;have B:=b2.ob _ _ B;have z:=b2.ob _ _ z;clear H e1 ez
     (try simp only[go_sem,z,B,b7])
     have et:((M.take (j+1)).any λy=>decide (x.name=y.name))=(((M.take j).any λy=>decide (x.name=y.name))||decide (x.name=y.name)):=by rw[eB O,pC,pF,aIR,jA]
     cases c1:decide (x.name=y.name)<;>(try simp only[go_sem,z,B,b7,c1])
     .exact⟨(j+1,o2,S3),⟨jx,m3,by rw[et,c1,jA];exact b0⟩,aQ,aU j aB,aE _⟩
     .refine fA ⟨14,x.name,x.line,x.col⟩ m3.gck m3.nz ?_
      (try simp only[go_sem])
      exact⟨(j+1,_,_),⟨jx,m3.fail,by rw[et,c1,b0];exact aGV o1 _ true _⟩,aQ,aU j aB,aE _⟩
    .have je:=bQ hj h;clear h;subst je;simp only[bT]at b0;rw[aTi]at b0
     have G:aK o2 (aK (if cR d.sig x.sort=false then some ⟨13,x.name,x.line,x.col⟩ else
      aK (bH (!(eI d.sig x.init&&fH d.sig x.init x.sort)) ⟨16,x.name,x.line,x.col⟩) (bS (λs=>bH (!decide (s=[36])) ⟨17,s,x.line,x.col⟩) (jJ [x.init]))) (pT d.sig (M.map Cel.name++[x.name]) ((d.once++d.many).drop (i+1))))=Q:=by
      rw[b0,<-hI];unfold aCE;simp only[eO]
     clear hI b0
     (try simp only[go_sem,z,B])
     refine aIG x.sort m.gck ?_;cases cE:cR d.sig x.sort<;>(try simp only[go_sem,z,B])<;>rw[cE]at G
     .refine fA ⟨13,x.name,x.line,x.col⟩ m.gck m.nz ?_
      (try simp only[go_sem])
      rw[<-G]at hk;exact aG hk (m.ov _)
     ·rw[aD dM] at G;generalize hR:pT d.sig (M.map Cel.name++[x.name]) ((d.once++d.many).drop (i+1))=R at G;(refine bD (OT.r 0 18) [(7,[12,14])] ?_;simp only[go_sem,z,B]);refine cF (wQ d.sig hw x.init (hT x xm).1 ?_);cases cI:eI d.sig x.init<;>simp only[go_sem,z,B]<;>rw[cI] at G
      rotate_left
      focus
       refine cF (yO x.init x.sort m.gck hw ?_);cases cM:fH d.sig x.init x.sort<;>simp only[go_sem,z,B]<;>rw[cM]at G
       focus
        refine fA ⟨16,x.name,x.line,x.col⟩ m.gck m.nz ?_;have m3:=m.fail (g:=⟨16,x.name,x.line,x.col⟩) (by show(16:Int)≠0;decide);have U:aK (aK o2 (some ⟨16,x.name,x.line,x.col⟩)) (aK (bS (λs=>bH (!decide (s=[36])) ⟨17,s,x.line,x.col⟩) (jJ [x.init])) R)=Q:=by rw[<-G];simp only[eO];rfl
        obtain⟨S3,b8⟩:∃S3,S3=S2.setO c (bZ d (aK o2 (some ⟨16,x.name,x.line,x.col⟩))):=⟨_,rfl⟩
        rw[<-b8]at m3⊢;generalize aK o2 (some ⟨16,x.name,x.line,x.col⟩)=o3 at m3 U
       rotate_left
       focus
        have m3:=m;have U:aK o2 (aK (bS (λs=>bH (!decide (s=[36])) ⟨17,s,x.line,x.col⟩) (jJ [x.init])) R)=Q:=G
       rotate_left
      rotate_left;rotate_left
      focus
       refine fA ⟨16,x.name,x.line,x.col⟩ m.gck m.nz ?_;have m3:=m.fail (g:=⟨16,x.name,x.line,x.col⟩) (by show(16:Int)≠0;decide);have U:aK (aK o2 (some ⟨16,x.name,x.line,x.col⟩)) (aK (bS (λs=>bH (!decide (s=[36])) ⟨17,s,x.line,x.col⟩) (jJ [x.init])) R)=Q:=by rw[<-G];simp only[eO];rfl
       obtain⟨S3,b8⟩:∃S3,S3=S2.setO c (bZ d (aK o2 (some ⟨16,x.name,x.line,x.col⟩))):=⟨_,rfl⟩
       rw[<-b8]at m3⊢;generalize aK o2 (some ⟨16,x.name,x.line,x.col⟩)=o3 at m3 U
      all_goals
       clear m G z B;have z:=m3.gck;have B:=m3.gq;simp only[go_sem,bZ]at z B
       (try simp only[go_sem,z,B])
       refine jI (show kC _ [.list none (([]:List aC).map .str),.agg x.init.cs] from⟨A.le.nil,by simp only[Tm.cs];exact bL _,trivial⟩) (aFJ _ x.init [] _ _ _ (fZ _) (hT x xm).1 .nil (by have:=(hT x xm).2;simp only[aZ];omega) ?_);have eT:jC [] x.init=jJ [x.init]:=rfl
       have bj:(jJ [x.init]).length<=4294967000:=by
        have h1:=aJC [] x.init;have h2:=(hT x xm).2;rw[eT,aZ]at h1;omega
       rw[eT];generalize jJ [x.init]=L at U bj⊢;clear eT
       (try simp only[go_sem,z,B])
       refine Ex.loop (ι:=Nat × Option Fault × St) (λk=>[(0,.ptr c 0),(2,V),(4,.ptr q 0),(22,V),(23,.int .i64 ((d.once++d.many).length:Nat)),(24,.int .i64 (i:Nat)),(92,.list none (L.map .str)),(93,.int .i64 (L.length:Nat)),(94,.int .i64 (k.1:Nat))]) (λk=>k.2.2)
        (λk=>k.1<=L.length/\M34 c d k.2.1 q x s k.2.2/\aK k.2.1 (aK (bS (λs=>bH (!decide (s=[36])) ⟨17,s,x.line,x.col⟩) (L.drop k.1)) R)=Q) (λk=>L.length-k.1) (0,_,_) ⟨aW _,m3,U⟩ ?_ (by exact aE _) ?_
       .simp only[go_sem,z,B]
        try exact rfl
        try exact⟨rfl,rfl⟩
       .clear m3 z B U;rintro⟨j,o4,S4⟩ ⟨hj,m,Z⟩;simp only at hj m Z;refine aX (V:=aES) _ _ _ _ ?_;have z:=m.gck;have B:=m.gq;simp only[go_sem,bZ]at z B;simp only[go_sem,z,B]
        (apply aJ<;>intro h)<;>simp only[go_sem,h,z,B]
        .have jx:j<L.length:=gQ h;clear h;obtain⟨v,hv⟩:=bB jx;have vm:=bK hv
         (try simp only[go_sem,hv,jx,z,B])
         rw[iC hv,bS]at Z;cases c1:decide (v=[36])<;>(try simp only[go_sem,z,B,c1])<;>rw[c1]at Z
         .refine fA ⟨17,v,x.line,x.col⟩ m.gck m.nz ?_
          (try simp only[go_sem])
          exact⟨(j+1,aK o4 (some ⟨17,v,x.line,x.col⟩),S4.setO c _),⟨jx,m.fail,by rw[<-Z];simp only[eO];rfl⟩,aQ,aU j aB,aE _⟩
         .exact⟨(j+1,o4,S4),⟨jx,m,Z⟩,aQ,aU j aB,aE _⟩
        .have je:=bQ hj h;clear h;subst je;rw[dP (bJ _)]at Z;have eM:((d.once++d.many).take (i+1)).map Cel.name=M.map Cel.name++[x.name]:=by rw[eB hx,bU,hM];rfl
         exact⟨(i+1,o4),⟨ix,m.nz,by rw[eM,hR];exact Z⟩,aQ,⟨hu,hu,aU i aB⟩,m.ov.fin m.gck⟩
  .have ie:=bQ hi h;clear h;rw[ie,dP (bJ _)]at hI;have G:o1=Q:=by rw[<-hI];exact(jU o1).symm
   rw[<-G]at hk;exact aG hk (ov.fin b1)
end
end
section
theorem gBy{f:FuncId}{c:Code}{args:List A}{KV Kp:St->A->Prop}{s:St}{fn:Func}(y:cx.P.funcs[f]?=some fn)
  (h:Ex cx fn.ntmps c (lW cx fn.results.toList (DK KV) (DK Kp)) (oN 0 args) s)
  (u:fn.body=some c:=by exact rfl)
  (m : (fn.name == "runtime.NumGoroutine") = false := by exact rfl) (z : args.length ≤ fn.ntmps := by exact jO rfl) : Den cx f args KV Kp s :=
 Den.drop (aBG y u m z h)
structure BX (c:Nat) (d:Dfn) (L:List (Nat × TypeId × List A)) (s:St) (o:Option Fault) (S:St):Prop where
 gck:S.getO c=some (bZ d o)
 gb:∀b,b∈L->c≠b.1/\S.getO b.1=some (.cells b.2.1 b.2.2)
 ov:OV c s S
 nz:NZ o
section
variable {c:Nat} {d:Dfn} {L M:List (Nat × TypeId × List A)} {s S S':St} {o:Option Fault}
theorem BX.fail{g:Fault}(h:BX c d L s o S)(u:g.code≠0:=by simp):BX c d L s (aK o (some g)) (S.setO c (bZ d (aK o (some g)))) :=
 ⟨by rw[aL,aF rfl],λb m=>⟨(h.gb b m).1,tZ (h.gb b m).2 (h.gb b m).1⟩,h.ov.set _,h.nz.snoc u⟩
theorem BX.set{u:Option Fault}(h:BX c d L s o S)(y:NZ u):BX c d L s u (S.setO c (bZ d u)) :=
 ⟨by rw[aL,aF rfl],λb m=>⟨(h.gb b m).1,tZ (h.gb b m).2 (h.gb b m).1⟩,h.ov.set _,y⟩
theorem BX.to(h:BX c d L s o S)(g:S'.ge S):BX c d L s o S' :=
 ⟨g.ob _ _ h.gck,λb m=>⟨(h.gb b m).1,g.ob _ _ (h.gb b m).2⟩,h.ov.ge g,h.nz⟩
theorem BX.none(h:BX c d L s o S):BX c d L s (aK o none) S:=by rw[jU];exact h
theorem BX.add{r:Nat}{T:TypeId}{cs:List A}(h:BX c d L s o S)(g:S'.ge S)(u:c≠r)(gr:S'.getO r=some (.cells T cs)):BX c d ((r,T,cs)::L) s o S' :=
 ⟨g.ob _ _ h.gck,λb m=>by rcases List.mem_cons.1 m with rfl|m;exact⟨u,gr⟩;exact⟨(h.gb b m).1,g.ob _ _ (h.gb b m).2⟩,h.ov.ge g,h.nz⟩
theorem BX.tl{b:Nat × TypeId × List A}(h:BX c d (b::L) s o S):BX c d L s o S:=⟨h.gck,λb m=>h.gb b (eA _ m),h.ov,h.nz⟩
theorem BX.g0{r:Nat}{T:TypeId}{cs:List A}(h:BX c d ((r,T,cs)::L) s o S):S.getO r=some (.cells T cs):=(h.gb _ (cQ ..)).2
theorem BX.g1{r:Nat}{T:TypeId}{cs:List A}{a}(h:BX c d (a::(r,T,cs)::L) s o S):S.getO r=some (.cells T cs):=h.tl.g0
theorem BX.g2{r:Nat}{T:TypeId}{cs:List A}{a b}(h:BX c d (a::b::(r,T,cs)::L) s o S):S.getO r=some (.cells T cs):=h.tl.g1
theorem BX.eqo{m:Option Fault}(h:BX c d L s o S)(e:o=m):BX c d L s m S:=e▸h
end
section
variable {s S S':St} {KV Kp:St->A->Prop} {c:Nat} {d:Dfn} {o:Option Fault}
theorem aPC(x:Rul)(i:Nat)(y:Part)(hi:x.parts[i]?=some y)(hc:s.getO c=some (bZ d o))(hz:NZ o)(ho:d.once.length<=4294967000)(hm:d.many.length<=4294967000)(hw:d.sig.below.length<=4294967000)
  (bh:x.parts.length<=4294967000)(bj:y.right.length<=4294967000)(hW:∀t,t∈y.left::y.right->TmW t)(hP:y.left.pre.length<=4294967000)
  (hk:KV (s.setO c (bZ d (aK o (uI d (x.parts.take i) y)))) (.tuple [])):Den cx 102 [.ptr c 0,.agg x.cs,.int .i64 (i:Nat)] KV Kp s:=by
 have bd:=hc;have ix:i<x.parts.length:=(dZ.1 hi).1;have n0:(0:Int)<=(i:Int):=by omega
 unfold uI at hk;simp only[go_sem,bZ]at hc;(refine gBy func102 ?_;simp only[go_sem,ntmps102,f102]);refine Ex.cut (V:=xT) 3 (ι:=St × Nat × Nat × Nat) (λj=>[(0,.ptr c 0),(2,.int .i64 (i:Nat)),(4,.ptr j.2.1 0),(6,.ptr j.2.2.1 0),(7,.ptr j.2.2.2 0),(8,.bool (dJ d y.cell).2.1),(10,.bool (dJ d y.cell).2.2)]) (λj=>j.1) (λj=>BX c d [(j.2.2.2,96,(sQ d y.cell).cs),(j.2.2.1,101,y.cs),(j.2.1,50,x.cs)] s o j.1) ?_ ?_
 ·(try simp only[go_sem])
  (refine cH λq hq=>?_);have f1:=aI hc (aS hq)
  (try simp only[go_sem,hc,f1,hq])
  obtain⟨S0,O,bc,b8⟩:=gZ s q (.cells 50 x.cs) (aS hq)
  try simp only[go_sem]at b8 O
  rw[b8];clear b8;have m0:BX c d [(q,50,x.cs)] s o S0:=BX.add (L:=[]) ⟨bd,λb hb=>(by cases hb),OV.of (aE s),hz⟩ bc f1.1 (by simp only[go_sem];exact O);have u:=bc.ob _ _ hc;clear hq f1
  (try simp only[go_sem,u,O,hi,ix,n0])
  (refine cH λp hp=>?_);have f1:=aI u (aS hp);have f2:=aI O (aS hp)
  (try simp only[go_sem,u,O,hp,f1,f2,hi,ix,n0])
  obtain⟨S1,B,b5,b7⟩:=gZ S0 p (.cells 101 y.cs) (aS hp)
  try simp only[go_sem]at b7 B
  rw[b7];clear b7;have m1:=m0.add b5 f1.1 B;have u:=b5.ob _ _ u;have O:=b5.ob _ _ O;clear hp f1 f2 m0
  (try simp only[go_sem,u,B,O])
  (refine bD (OT.l [0,1,2,3,4,5] (.alt (.node 6 (OT.l [7,8,9,10,11,12,13,14,15,16] .nil)) (.node 12 (OT.l [6,7,8,9,10,11,13,14,15,16] .nil)))) [(12,[3,5])] ?_;simp only[go_sem,u,B,O]);obtain⟨w,bb⟩:∃w,w=sQ d y.cell:=⟨_,rfl⟩
  rw[<-bb];refine⟨?_,?_⟩
  .refine cF (aDl (d:=d) y.cell ho hm ?_);rw[<-bb]
   (try simp only[go_sem,u,B,O])
   (refine cH λr hr=>?_);have f1:=aI u (aS hr);have f2:=aI B (aS hr);have f3:=aI O (aS hr)
   (try simp only[go_sem,u,B,O,hr,f1,f2,f3])
   obtain⟨S2,gr,b6,b2⟩:=gZ S1 r (.cells 96 w.cs) (aS hr)
   try simp only[go_sem]at b2 gr
   rw[b2];clear b2;exact⟨(S2,q,p,r),m1.add b6 f1.1 gr,⟨rfl,rfl,rfl⟩,aE _⟩
  ·(refine cH λr hr=>?_);have f1:=aI u (aS hr);have f2:=aI B (aS hr);have f3:=aI O (aS hr)
   (try simp only[go_sem,u,B,O,hr,f1,f2,f3])
   refine cF (aDl (d:=d) y.cell ho hm ?_);rw[<-bb]
   (try simp only[go_sem,u,B,O,hr,f1,f2,f3])
   obtain⟨S2,gr,b6,b2⟩:=gZ S1 r (.cells 96 w.cs) (aS hr)
   try simp only[go_sem]at b2 gr
   rw[b2];clear b2;exact⟨(S2,q,p,r),m1.add b6 f1.1 gr,⟨rfl,rfl,rfl⟩,aE _⟩
 rintro⟨S,q,p,r⟩ m;simp only at m;simp only[tlC_seq,tlC_zero];refine Ex.cut (V:=xT) 1 (ι:=Unit) (λ_=>[(0,.ptr c 0),(2,.int .i64 (i:Nat)),(4,.ptr q 0),(6,.ptr p 0),(7,.ptr r 0)]) (λ_=>S) (λ_=>(dJ d y.cell).2.2=true/\((dJ d y.cell).2.1 == decide (y.at_=[]))=false) ?_ ?_
 .have u:=m.gck;have gr:=m.g0;have B:=m.g1;have O:=m.g2;simp only[go_sem,bZ]at u gr B O;cases c2:(dJ d y.cell).2.2<;>(try simp only[go_sem,u,B,O,gr])
  .rw[aF c2]at hk;refine fA ⟨13,y.cell,y.line,y.col⟩ m.gck hz ?_
   (try simp only[go_sem])
   exact aG hk (m.ov _)
  .rw[aD (by rw[c2];decide)]at hk;cases c3:((dJ d y.cell).2.1 == decide (y.at_=[]))<;>(try simp only[go_sem,u,B,O,gr,c3])
   .exact⟨(),aE _⟩
   .rw[aF (gQ c3)]at hk;refine fA ⟨15,y.cell,y.line,y.col⟩ m.gck hz ?_
    (try simp only[go_sem])
    exact aG hk (m.ov _)
 rintro⟨⟩ ⟨c2,c3⟩;rw[aD (by rw[c2];decide),aD (λe=>by rw[e]at c3;simp at c3)]at hk;have bf:(sQ d y.cell).sort=(dJ d y.cell).1:=aJT d _;rw[<-bf]at hk;generalize sQ d y.cell=w at m hk;clear bf c2 c3 hc bd hz;simp only[tlC_seq,tlC_zero];obtain⟨M,hM⟩:∃M,M=x.parts.take i:=⟨_,rfl⟩
 rw[<-hM]at hk;have bg:M.length<=4294967000:=by rw[hM,dT];omega
 refine Ex.cut (V:=xT) 1 (ι:=St) (λj=>[(0,.ptr c 0),(6,.ptr p 0),(7,.ptr r 0)]) (λj=>j) (λj=>BX c d [(r,96,w.cs),(p,101,y.cs)] s (aK o (bH (M.any λz=>decide (z.cell=y.cell)&&decide (z.at_=y.at_)) ⟨14,y.cell,y.line,y.col⟩)) j) ?_ ?_
 .have u:=m.gck;have gr:=m.g0;have B:=m.g1;have O:=m.g2;simp only[go_sem,bZ]at u gr B O;have m:=(BX.mk m.gck (λb hb=>m.gb b (by simp only[dG,iI,eJ]at hb⊢;rcases hb with rfl|rfl<;>simp)) m.ov m.nz:BX c d [(r,96,w.cs),(p,101,y.cs)] s o S)
  (try simp only[go_sem,u,gr,B,O])
  rw[<-lC,<-hM];refine⟨λz hz=>aMa hz,Nat.le_of_lt ix,?_⟩;generalize hQ:bH (M.any λz=>decide (z.cell=y.cell)&&decide (z.at_=y.at_)) ⟨14,y.cell,y.line,y.col⟩=Q
  refine Ex.loop (ι:=Nat × Option Fault × St) (λk=>[(0,.ptr c 0),(6,.ptr p 0),(7,.ptr r 0),(61,.list none (M.map Part.enc)),(62,.int .i64 (M.length:Nat)),(63,.int .i64 (k.1:Nat))]) (λk=>k.2.2)
   (λk=>k.1<=M.length/\BX c d [(r,96,w.cs),(p,101,y.cs)] s k.2.1 k.2.2/\k.2.1=aK o (bH ((M.take k.1).any λz=>decide (z.cell=y.cell)&&decide (z.at_=y.at_)) ⟨14,y.cell,y.line,y.col⟩)) (λk=>M.length-k.1) (0,o,S) ⟨aW _,m,(jU o).symm⟩ ?_ (by exact aE _) ?_
  .simp only[go_sem,u,gr,B]
   try exact rfl
   try exact⟨rfl,rfl⟩
  .clear u gr B O m;rintro⟨j,o2,S2⟩ ⟨hj,m,b3⟩;simp only at hj m b3;refine aX (V:=xT) _ _ _ _ ?_;have u:=m.gck;have gr:=m.g0;have B:=m.g1;simp only[go_sem,bZ]at u gr B;simp only[go_sem,u,gr,B]
   (apply aJ<;>intro h)<;>simp only[go_sem,h,u,gr,B]
   .have jx:j<M.length:=gQ h;clear h;obtain⟨z,hz⟩:=bB jx;have zm:=bK hz
    (try simp only[go_sem,hz,jx,u,gr,B])
    (refine cH λz1 H=>?_);have e1:=aI u (aS H);have e2:=aI gr (aS H);have e3:=aI B (aS H)
    (try simp only[go_sem,u,gr,B,hz,jx,H,e1,e2,e3])
    obtain⟨S3,Z,G,U⟩:=gZ S2 z1 (.cells 101 z.cs) (aS H)
    try simp only[go_sem]at U Z
    rw[U];clear U;have m3:=m.to G;have B:=G.ob _ _ B;have gr:=G.ob _ _ gr;have u:=G.ob _ _ u;clear H e1 e2 e3
    (try simp only[go_sem,u,gr,B,Z])
    have et:((M.take (j+1)).any λz=>decide (z.cell=y.cell)&&decide (z.at_=y.at_))=(((M.take j).any λz=>decide (z.cell=y.cell)&&decide (z.at_=y.at_))||(decide (z.cell=y.cell)&&decide (z.at_=y.at_))):=by rw[eB hz,pC,pF,aIR,jA]
    have b9:(decide (z.cell=y.cell)&&decide (z.at_=y.at_))=true->aK o2 (some ⟨14,y.cell,y.line,y.col⟩)=aK o (bH ((M.take (j+1)).any λz=>decide (z.cell=y.cell)&&decide (z.at_=y.at_)) ⟨14,y.cell,y.line,y.col⟩):=λh=>by rw[et,h,b3];exact aGV o _ true _
    have b4:(decide (z.cell=y.cell)&&decide (z.at_=y.at_))=false->o2=aK o (bH ((M.take (j+1)).any λz=>decide (z.cell=y.cell)&&decide (z.at_=y.at_)) ⟨14,y.cell,y.line,y.col⟩):=λh=>by rw[et,h,jA];exact b3
    cases c1:decide (z.cell=y.cell)<;>(try simp only[go_sem,u,gr,B,Z,c1])<;>rw[c1]at b9 b4
    .exact⟨(j+1,o2,S3),⟨jx,m3,b4 rfl⟩,aQ,aU j aB,aE _⟩
    .cases c2:decide (z.at_=y.at_)<;>(try simp only[go_sem,u,gr,B,Z,c2])<;>rw[c2]at b9 b4
     .exact⟨(j+1,o2,S3),⟨jx,m3,b4 rfl⟩,aQ,aU j aB,aE _⟩
     .refine fA ⟨14,y.cell,y.line,y.col⟩ m3.gck m3.nz ?_
      (try simp only[go_sem])
      exact⟨(j+1,_,_),⟨jx,m3.fail,b9 rfl⟩,aQ,aU j aB,aE _⟩
   .have je:=bQ hj h;clear h;subst je;simp only[bT]at b3;rw[hQ]at b3;exact⟨S2,m.eqo b3,aE _⟩
 generalize hQ:bH (M.any λz=>decide (z.cell=y.cell)&&decide (z.at_=y.at_)) ⟨14,y.cell,y.line,y.col⟩=Q at hk⊢;rw[<-eO]at hk;generalize aK o Q=o1 at hk⊢;clear hQ m bg hM;rintro S m;simp only[tlC_seq,tlC_zero];refine Ex.cut (V:=xT) 1 (ι:=Unit) (λ_=>[(0,.ptr c 0),(6,.ptr p 0),(7,.ptr r 0),(13,.bool (decide (y.right.length<=1)&&(nO d.sig y.left&&fH d.sig y.left w.sort)))]) (λ_=>S) (λ_=>True) ?_ ?_
 .have u:=m.gck;have gr:=m.g0;have B:=m.g1;simp only[go_sem,bZ]at u gr B;have e1:decide ((y.right.length:Int)<=1)=decide (y.right.length<=1):=cC.2 aB;cases c1:decide (y.right.length<=1)
  ·(refine bD (OT.r 0 23) [(12,[17,19])] ?_;simp only[go_sem,u,gr,B,e1,c1]);exact⟨(),aE _⟩
  ·(refine bD (OT.r 0 23) [(12,[17,19])] ?_;simp only[go_sem,u,gr,B,e1,c1]);refine cF (aIe d.sig hw y.left (hW _ (cQ ..)) hP ?_);cases c2:nO d.sig y.left<;>(try simp only[go_sem,u,gr,B])
   .exact⟨(),aE _⟩
   .refine cF (yO y.left w.sort m.gck hw ?_)
    (try simp only[go_sem,u,gr,B])
    exact⟨(),aE _⟩
 generalize (decide (y.right.length<=1)&&(nO d.sig y.left&&fH d.sig y.left w.sort))=b0 at hk⊢;rintro⟨⟩ -;simp only[tlC_seq,tlC_zero];refine Ex.cut (V:=xT) 1 (ι:=Unit) (λ_=>[(0,.ptr c 0),(6,.ptr p 0),(13,.bool (b0&&y.right.all λt=>eI d.sig t&&fH d.sig t w.sort))]) (λ_=>S) (λ_=>True) ?_ ?_
 .have u:=m.gck;have gr:=m.g0;have B:=m.g1;simp only[go_sem,bZ]at u gr B
  (try simp only[go_sem,u,gr,B])
  refine Ex.loop (ι:=Nat) (λk=>[(0,.ptr c 0),(6,.ptr p 0),(7,.ptr r 0),(13,.bool (b0&&(y.right.take k).all λt=>eI d.sig t&&fH d.sig t w.sort)),(111,.list none (y.right.map Tm.enc)),(112,.int .i64 (y.right.length:Nat)),(113,.int .i64 (k:Nat))]) (λ_=>S)
   (λk=>k<=y.right.length) (λk=>y.right.length-k) 0 (aW _) ?_ (by exact aE _) ?_
  .simp only[go_sem,u,gr,B]
   try simp only[kO,nK,eU,sJ]
   exact⟨trivial,rfl⟩
  .intro j hj;refine aX (V:=xT) _ _ _ _ ?_;simp only[go_sem,u,gr,B]
   (apply aJ<;>intro h)<;>simp only[go_sem,h,u,gr,B]
   .have jx:j<y.right.length:=gQ h;clear h;obtain⟨z,hz⟩:=bB jx;have zm:=bK hz
    (try simp only[go_sem,hz,jx,u,gr,B])
    (refine cH λz1 H=>?_);have e1:=aI u (aS H);have e2:=aI gr (aS H);have e3:=aI B (aS H)
    (try simp only[go_sem,u,gr,B,hz,jx,H,e1,e2,e3])
    obtain⟨S3,Z,G,U⟩:=gZ S z1 (.cells 67 z.cs) (aS H)
    try simp only[go_sem]at U Z
    rw[U];clear U;have m3:=m.to G;have B:=G.ob _ _ B;have gr:=G.ob _ _ gr;have u:=G.ob _ _ u;clear H e1 e2 e3;have et:(b0&&(y.right.take (j+1)).all λt=>eI d.sig t&&fH d.sig t w.sort)=((b0&&(y.right.take j).all λt=>eI d.sig t&&fH d.sig t w.sort)&&(eI d.sig z&&fH d.sig z w.sort)):=by rw[eB hz,kN,fG,nK,eU,Bool.and_assoc]
    cases hB:(b0&&(y.right.take j).all λt=>eI d.sig t&&fH d.sig t w.sort)<;>rw[hB]at et
    ·(refine bD (OT.r 0 18) [(8,[12,14])] ?_;simp only[go_sem,u,gr,B,Z,hB]);exact⟨j+1,jx,by omega,⟨et.symm,aU j aB⟩,G⟩
    ·(refine bD (OT.r 0 18) [(8,[12,14])] ?_;simp only[go_sem,u,gr,B,Z,hB]);refine cF (wQ d.sig hw z (hW z (eA _ zm)) ?_);cases c1:eI d.sig z<;>(try simp only[go_sem,u,gr,B,Z])<;>rw[c1] at et
     .exact⟨j+1,jx,by omega,⟨et.symm,aU j aB⟩,G⟩
     .refine cF (yO z w.sort m3.gck hw ?_)
      (try simp only[go_sem,u,gr,B,Z])
      exact⟨j+1,jx,by omega,⟨et.symm,aU j aB⟩,G⟩
   .have je:=bQ hj h;clear h;subst je;simp only[bT];exact⟨(),trivial,aE _⟩
 generalize (b0&&y.right.all λt=>eI d.sig t&&fH d.sig t w.sort)=b1 at hk⊢;rintro⟨⟩ -;simp only[tlC_seq,tlC_zero];refine aX (V:=xT) _ _ _ _ ?_;have u:=m.gck;have B:=m.g1;simp only[go_sem,bZ]at u B;cases b1<;>(try simp only[go_sem,u,B])
 .refine fA ⟨16,y.cell,y.line,y.col⟩ m.gck m.nz ?_
  (try simp only[go_sem])
  exact aG hk (m.ov _)
 .have hk:KV (s.setO c (bZ d (aK o1 none))) (.tuple []):=hk;rw[jU]at hk;exact aG hk (m.ov.fin m.gck)
end
end
section
def zH(T:List Tok)(fin:Fault)(r k:Nat):Prop:=∀(s:St) (d:Dc) (first:Tok) (i n:Nat) (KV Kp:St->A->Prop),s.getO r=some (bI T fin d first i n)->i<=T.length->n<=2000 ->
 (lV false fin first k (T.drop i) n).to (PK T (i+1) (λj m=>s.setO r (bI T fin d first j m)) Tm.enc KV) (PB s r Kp)->Den cx 260 [.ptr r 0,.int .i64 ((61-k:Nat):Int)] KV Kp s
theorem Tm.hz(a:Tm):a.enc.cells.length=6:=by rw[cY];rfl
theorem Tm.ho(a:Tm):iF a.enc.cells=true:=by rw[cY];rfl
theorem Tm.le_leaf(k n:Int)(x y:aC):A.le (.agg [.int .i64 k,.int .i64 n,.str x,.str y,.nils,.nils]) (Tm.enc (.mk k n x y [] [])):=by
 rw[cY];exact A.le.agg ⟨⟨bL _,rfl⟩,⟨bL _,rfl⟩,⟨bL _,rfl⟩,⟨bL _,rfl⟩,⟨A.le.nil,rfl⟩,⟨A.le.nil,rfl⟩,trivial⟩
section
variable {T:List Tok} {fin:Fault} {d:Dc} {first:Tok} {i n:Nat} {s:St} {r:Nat} {KV Kp:St->A->Prop}
theorem aPF(k:Nat)(Z:k<=60)(IH:zH T fin r k)(G H:Nat)(O:s.getO G=some (.cells 153 [.ptr r 0]))(U:s.getO H=some (.cells 3 [.int .i64 ((60-k:Nat):Int)]))
  (hr:s.getO r=some (bI T fin d first i n))(hi:i<=T.length)(hn:n<=2000)
  (hk:(lV false fin first k (T.drop i) n).to (PK T (i+1) (λj m=>s.setO r (bI T fin d first j m)) Tm.enc KV) (PB s r Kp)):Den cx 296 [.ptr G 0,.ptr H 0] KV Kp s:=by
 (refine aN func296 [0,1,2] ?_;simp only[go_sem,ntmps296,f296]);(refine aM λb u=>?_);have e3:=aI O u;have e5:=aI U u;have y:=aI hr u;have ed:IntKind.i64.wrap (((60-k:Nat):Int)+1)=((61-k:Nat):Int):=by rw[aU _ aB];congr 1;omega
 simp only[go_sem,u,e3,e5,O,U,ed];refine IH _ d first i n _ _ (by rw[aL,aD y.2];exact hr) hi hn (bE hk (λa w m h j hj B hw hm=>?_) (λf h=>PB.mk bC h))
 have z:=h j hj B hw hm;simp only at z;rw[cY]at z;simp only[go_sem,u,y];exact aG z (St.gx.ge bC (by rw[aL,aD y.2,aL,aF rfl]<;>rfl))
end
end
section
section
variable {T:List Tok} {fin:Fault} {d:Dc} {first:Tok} {i n:Nat} {s:St} {r:Nat} {KV Kp:St->A->Prop}
structure EntQ (b2 b3 q r k:Nat) (s:St) (acc:List Tm) (tk:Option Nat) (i:Nat):Prop where
 len:acc.length<=i
 h2:s.getO b2=some (.cells 153 [.ptr r 0])
 h3:s.getO b3=some (.cells 3 [.int .i64 ((60-k:Nat):Int)])
 hq:s.getO q=none
 ne:q≠r/\q≠b2/\q≠b3/\r≠b2/\r≠b3
 nil:tk=none->acc=[]
 free:∀t,tk=some t->s.getT t=none
def iA(T:List Tok)(fin:Fault)(d:Dc)(first:Tok)(kind:Int)(x:aC)(q r:Nat)(s:St)(h:List Tm)(tk:Option Nat)(i n:Nat):St :=
 gs ((s.setO q (.cells 67 [.int .i64 kind,.int .i64 0,.str x,.str [],gv tk (h.map Tm.enc),.nils])).setO r (bI T fin d first i n)) tk h.length 67
theorem aSM(k b2 b3 q:Nat)(bq:k<=60)(IH:zH T fin r k)(hT:TOk T)(Z:List Tm)(tk:Option Nat)(hQ:EntQ b2 b3 q r k s Z tk i)(hi:i<=T.length)(hn:n<=2000)
  (hk : (aCF fin (lV false fin first k) Z (T.drop i) n).to (fun a w n' => ∀ j y,i ≤ j → j ≤ T.length → T.drop j = w → n' ≤ 2000 → EntQ b2 b3 q r k s a y j → KV (iA T fin d first 8 [] q r s a y j n') (.bool true))
   (λf=>∀s1 o,s1.gx s r->s1.getO r=some o->Kp s1 (.iface 36 f.enc))):Den cx 304 [.ptr q 0,.ptr b2 0,.ptr b3 0] KV Kp (iA T fin d first 8 [] q r s Z tk i n):=by
 obtain⟨bn,h2,h3,hq,⟨B,G,H,O,U⟩,b9,b0⟩:=hQ;have br:=hT.len;have ed:IntKind.i64.wrap (((60-k:Nat):Int)+1)=((61-k:Nat):Int):=by rw[aU _ aB];congr 1;omega
 have hg:iV (iA T fin d first 8 [] q r s Z tk i n) tk (Z.map Tm.enc).length 67:=by rw[aO];exact fD λe=>by rw[b9 e];rfl
 refine aKa ?_;(refine aN func304 [0,1,2,3] ?_;simp only[go_sem,ntmps304,f304]);unfold iA;simp only[aCF,bY]at hk;cases tk with
 | none =>
  obtain rfl:=b9 rfl;simp only[aDU];(refine bD (OT.l [0,1,2,3,4,6,7,5,8,9,11] (.pair 10 12)) [(5,[1])] ?_;simp only[go_sem,B,G,H,O,U,B.symm,G.symm,H.symm,O.symm,U.symm,h2,h3,ed]);refine IH _ d first i n _ _ (by rw[cS,aL,aF rfl]<;>rfl) hi hn (bE hk (λkk w m bc j hj bb hw hm=>?_) (λf h o=>?_))
  rotate_left
  .simp only[go_sem];exact aP (h _ _ (rL (iK (eW (dH hq (fN s r))) b0) rfl) (by rw[fF,cS,aL,aF rfl]<;>rfl))
  simp only[go_sem,B,G,H,O,U,B.symm,G.symm,H.symm,O.symm,U.symm,h2,h3,ed,Tm.hz];refine⟨by decide,?_⟩;intro t ht;refine⟨rfl,?_⟩;have b6:s.getT t=none:=ht;subst hw;refine iH aI5 ?_;refine fQ (T:=T) (fin:=fin) (d:=d) (first:=first) (i:=j) (n:=m) _ (by simp only[fF,cS,aL,dB,reduceIte,B,fY]<;>(first|done|rfl)) bb hT (bE bc (λ_ w2 m2 bd bg bl bh=>?_) (λf h o=>?_));rotate_left
  .simp only[go_sem];exact aP (h _ o (by repeat (first|exact fN _ _|refine vC ?_ rfl|refine rL ?_ rfl|refine iK ?_ (λ_ e=>by cases e;assumption)|refine eW ?_|refine dH hq ?_)) (by simp only[fF,cS,aL,dB,reduceIte,B,fY]<;>(first|done|rfl)))
  subst bl bh;simp only[go_sem,B,G,H,O,U,B.symm,G.symm,H.symm,O.symm,U.symm,h2,h3,ed];(refine bD (OT.l [0,1,2,3,4,6,7,5,8,9,11] (.pair 10 12)) [(5,[1])] ?_;simp only[go_sem,B,G,H,O,U,B.symm,G.symm,H.symm,O.symm,U.symm,h2,h3,ed]);refine IH _ d first (j+1) _ _ _ (by simp only[fF,cS,aL,dB,reduceIte,B,fY]<;>(first|done|rfl)) bg hm (bE bd (λvv w3 m3 bf j3 bp b8 bm bj=>?_) (λf h o=>?_))
  rotate_left
  .simp only[go_sem];exact aP (h _ o (by repeat (first|exact fN _ _|refine vC ?_ rfl|refine rL ?_ rfl|refine iK ?_ (λ_ e=>by cases e;assumption)|refine eW ?_|refine dH hq ?_)) (by simp only[fF,cS,aL,dB,reduceIte,B,fY]<;>(first|done|rfl)))
  simp only[go_sem,B,G,H,O,U,B.symm,G.symm,H.symm,O.symm,U.symm,h2,h3,ed,Tm.hz];refine⟨by decide,⟨by rw[yN,gK,aF rfl],λy hy=>?_⟩,λt2 bk=>?_⟩
  .simp only[bO]at hy;subst hy;rfl
  have b7:s.getT t2=none:=aJ4 bk b6 (λ_=>rfl);have b4:=bf j3 (some t2) aB b8 bm bj ⟨by simp only[aH,aV,aZ]at bn⊢;omega,h2,h3,hq,⟨B,G,H,O,U⟩,λe=>(by cases e),λt' e=>by cases e;exact b7⟩;simp only[iA,eK]at b4;rw[show(([]:List Tm)++[kk,vv]).length=2 by simp]at b4;refine aG (s2:=(gs ((s.setO q (.cells 67 [.int .i64 8,.int .i64 0,.str [],.str [],.list (some t2) ((([]:List Tm)++[kk,vv]).map Tm.enc),.nils])).setO r (bI T fin d first j3 m3)) (some t2) (2) 67).setL none) b4 ?_;refine aJM b6 (λb o hb=>?_) (λ_=>rfl) bA;simp only[aL]at hb⊢;by_cases b1:q=b
  .subst b1;simp only[B,B.symm,dF,cZ]at hb⊢;simpa [cY,Tm.cs]using hb
  .by_cases b5:r=b
   .simp only[b1,b5,dF,cZ]at hb⊢;exact hb
   .simp only[b1,b5,cZ]at hb⊢;exact hb
 | some u =>
  simp only[eK];(refine bD (OT.l [0,1,2,3,4,6,7,5,8,9,11] (.pair 10 12)) [(5,[1])] ?_;simp only[go_sem,B,G,H,O,U,B.symm,G.symm,H.symm,O.symm,U.symm,h2,h3,ed]);refine IH _ d first i n _ _ (by rw[cS,aL,aF rfl]<;>rfl) hi hn (bE hk (λkk w m bc j hj bb hw hm=>?_) (λf h o=>?_))
  rotate_left
  .simp only[go_sem];exact aP (h _ _ (rL (iK (eW (dH hq (fN s r))) b0) rfl) (by rw[fF,cS,aL,aF rfl]<;>rfl))
  simp only[go_sem,B,G,H,O,U,B.symm,G.symm,H.symm,O.symm,U.symm,h2,h3,ed,Tm.hz];refine⟨by decide,?_⟩;refine⟨⟨by rw[gK,aF rfl],λy hy=>?_,by omega⟩,λt ht=>?_⟩
  .simp only[cN]at hy;obtain⟨z,_,rfl⟩:=hy;exact Tm.hz z
  have b6:s.getT t=none:=aDF ht (b0 u rfl) (λ_=>rfl);subst hw;refine iH (aFO (b0 u rfl)) ?_;refine fQ (T:=T) (fin:=fin) (d:=d) (first:=first) (i:=j) (n:=m) _ (by simp only[fF,cS,aL,dB,reduceIte,B,fY]<;>(first|done|rfl)) bb hT (bE bc (λ_ w2 m2 bd bg bl bh=>?_) (λf h o=>?_));rotate_left
  .simp only[go_sem];exact aP (h _ o (by repeat (first|exact fN _ _|refine vC ?_ rfl|refine rL ?_ rfl|refine iK ?_ (λ_ e=>by cases e;assumption)|refine eW ?_|refine dH hq ?_)) (by simp only[fF,cS,aL,dB,reduceIte,B,fY]<;>(first|done|rfl)))
  subst bl bh;simp only[go_sem,B,G,H,O,U,B.symm,G.symm,H.symm,O.symm,U.symm,h2,h3,ed];(refine bD (OT.l [0,1,2,3,4,6,7,5,8,9,11] (.pair 10 12)) [(5,[1])] ?_;simp only[go_sem,B,G,H,O,U,B.symm,G.symm,H.symm,O.symm,U.symm,h2,h3,ed]);refine IH _ d first (j+1) _ _ _ (by simp only[fF,cS,aL,dB,reduceIte,B,fY]<;>(first|done|rfl)) bg hm (bE bd (λvv w3 m3 bf j3 bp b8 bm bj=>?_) (λf h o=>?_))
  rotate_left
  .simp only[go_sem];exact aP (h _ o (by repeat (first|exact fN _ _|refine vC ?_ rfl|refine rL ?_ rfl|refine iK ?_ (λ_ e=>by cases e;assumption)|refine eW ?_|refine dH hq ?_)) (by simp only[fF,cS,aL,dB,reduceIte,B,fY]<;>(first|done|rfl)))
  simp only[go_sem,B,G,H,O,U,B.symm,G.symm,H.symm,O.symm,U.symm,h2,h3,ed,Tm.hz];refine⟨by decide,⟨by rw[yN,gK,aF rfl];simp,λy hy=>?_,by simp;omega⟩,λt2 bk=>?_⟩
  .rcases cK.1 hy with hy|hy
   .simp only[cN]at hy;obtain⟨z,_,rfl⟩:=hy;exact Tm.hz z
   .simp only[bO]at hy;subst hy;rfl
  have b7:s.getT t2=none:=aJ4 bk b6 (λ_=>rfl);have b4:=bf j3 (some t2) aB b8 bm bj ⟨by simp only[aH,aV,aZ]at bn⊢;omega,h2,h3,hq,⟨B,G,H,O,U⟩,λe=>(by cases e),λt' e=>by cases e;exact b7⟩;simp only[iA,eK]at b4;rw[show(Z++[kk,vv]).length=Z.length+2 by simp]at b4;refine aG (s2:=(gs ((s.setO q (.cells 67 [.int .i64 8,.int .i64 0,.str [],.str [],.list (some t2) ((Z++[kk,vv]).map Tm.enc),.nils])).setO r (bI T fin d first j3 m3)) (some t2) (Z.length+2) 67).setL none) b4 ?_;refine aJM b6 (λb o hb=>?_) (λ_=>rfl) bA;simp only[aL]at hb⊢;by_cases b1:q=b
  .subst b1;simp only[B,B.symm,dF,cZ]at hb⊢;simpa [cY,Tm.cs]using hb
  .by_cases b5:r=b
   .simp only[b1,b5,dF,cZ]at hb⊢;exact hb
   .simp only[b1,b5,cZ]at hb⊢;exact hb
end
end
end Go.AV
