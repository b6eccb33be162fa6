/-
  Of CheckTells.
-/
import Derived.Test.YthaljojbclndaaaGreatDoorCt11
set_option linter.all false
set_option maxRecDepth 99999
set_option maxHeartbeats 0
namespace Go.AV
open Go Go.Proofs Tryz
section
theorem rX{u:Type}(f:u->Option Fault){l:List u}{i:Nat}{x:u}(h:l[i]?=some x):bO f (l.drop i)=aH (f x) (bO f (l.drop (i+1))):=by
 obtain⟨y,rfl⟩:=cX.1 h;rw[rA y];rfl
section
variable {s:St} {KV Kp:St->A->Prop} {c:Nat} {d:Dfn}
theorem aPP(l k:Int)(lefts ts:List Tm)(H:(aP lefts).length<=4294967200)(M:(aP ts).length<=4294967200)(u:CK KV Kp s (tO l k lefts ts)) :
  Den cx 78 [.agg [.int .i64 l,.int .i64 k],.list none (lefts.map Tm.enc),.list none (ts.map Tm.enc)] KV Kp s:=by
 unfold tO at u
 have T:(lH ts).length<=(aP ts).length:=by
  unfold lH hZ;rw[(lY _).length_eq,aW];exact List.length_filter_le _ _
 (refine aO func78 [0,1,2,3,6,8,12,13,14,15,29] ?_;simp only[go_sem,ntmps78,f78]);(refine aL λp y=>?_);simp only[go_sem,y];refine aRj lefts H _ _ _ (λvs U=>?_);simp only[go_sem,y,strs];refine aJ8 ts M _ _ _ ?_;simp only[go_sem,y,strs];generalize lH ts=L at u T⊢
 refine Ex.loop (ι:=Nat) (λi=>[(3,.ptr p 0),(6,.list none (vs.map .str)),(12,.list none (L.map .str)),(13,.int .i64 (L.length:Nat)),(14,.int .i64 (i:Nat))])
  (λ_=>s.setO p (.cells 58 [.int .i64 l,.int .i64 k])) (λi=>i<=L.length/\CK KV Kp s (bO (λs=>bC (decide (s=[95])||(decide (s=[36])||!decide (s∈hZ lefts))) ⟨17,s,l,k⟩) (L.drop i))) (λi=>L.length-i) 0 ⟨aN _,u⟩ ?_ (aC _) ?_
 .simp only[go_sem]
  try exact rfl
 .clear u;rintro i ⟨hi,u⟩;refine aQ (V:=[0,1,2,3,6,8,12,13,14,15,29]) _ _ _ _ ?_;simp only[go_sem,y]
  (apply aI<;>intro h)<;>simp only[go_sem,h,y]
  .have z:i<L.length:=gQ h;clear h;obtain⟨x,Z⟩:=aU z;rw[rX _ Z]at u;simp only[go_sem,y,Z,z];cases G:decide (x=[95])<;>rw[G]at u<;>simp only[go_sem,y,G]
   rotate_left
   ·replace u:CK KV Kp s (some (⟨17,x,l,k⟩:Fault)):=u
    refine fA 17 x l k ?_;simp only[go_sem];exact aD u aK
   cases Y:decide (x=[36])<;>rw[Y]at u<;>simp only[go_sem,y,G,Y]
   rotate_left
   ·replace u:CK KV Kp s (some (⟨17,x,l,k⟩:Fault)):=u
    refine fA 17 x l k ?_;simp only[go_sem];exact aD u aK
   have S:x≠[95]:=of_decide_eq_false G;have B:decide (x∈vs)=decide (x∈hZ lefts):=by rw[bW,U];exact⟨λh=>h.1,λh=>⟨h,S⟩⟩
   refine qK _ _ _ _ _ ?_;rw[B];cases c3:decide (x∈hZ lefts)<;>rw[c3]at u<;>simp only[go_sem,y]
   ·replace u:CK KV Kp s (some (⟨17,x,l,k⟩:Fault)):=u
    refine fA 17 x l k ?_;simp only[go_sem];exact aD u aK
   .exact⟨i+1,⟨z,u⟩,by omega,aR i aB,eE⟩
  .have O:=bI hi h;subst O;rw[dB (bF _)]at u;exact aD u aK
theorem aKS{u:Type}{q:u->Bool}{l:List u}{i:Nat}{x:u}(h:l[i]?=some x)(y:(l.take i).find? q=none):(l.take (i+1)).find? q=if q x=true then some x else none:=by
 rw[fL,h,List.find?_append,y];cases z:q x<;>simp[z]
theorem aJl{u:Type}{q:u->Bool}{l:List u}{i:Nat}{x:u}(h:(l.take i).find? q=some x):l.find? q=some x:=by
 rw[<-lA i l,List.find?_append,h];rfl
theorem aGp(h:CkAt s c d)(ho:d.once.length<=4294967000)(Z:d.many.length<=4294967000)(n:aA)(G:KV s (.tuple [.str (cP d n).1,.bool (cP d n).2.1,.bool (cP d n).2.2])):Den cx 82 [.ptr c 0,.str n] KV Kp s:=by
 obtain⟨r,T,Y⟩:=h;unfold cP at G;(refine aO func82 aIH ?_;simp only[go_sem,ntmps82,f82]);simp only[go_sem,T]
 refine Ex.loop (ι:=Nat) (λi=>[(0,.ptr c 0),(1,.str n),(15,.list none (d.once.map Cel.enc)),(16,.int .i64 (d.once.length:Nat)),(17,.int .i64 (i:Nat))])
  (λ_=>s) (λi=>i<=d.once.length/\(d.once.take i).find? (λx=>decide (x.name=n))=none) (λi=>d.once.length-i) 0 ⟨aN _,rfl⟩ ?_ (aC _) ?_
 .simp only[go_sem]
  try exact rfl
 .rintro i ⟨S,u⟩;refine aQ (V:=aIH) _ _ _ _ ?_;simp only[go_sem]
  (apply aI<;>intro h)<;>simp only[go_sem,h]
  .have z:i<d.once.length:=gQ h;clear h;obtain⟨x,O⟩:=aU z;have y:=aKS O u;simp only[go_sem,O,z];(refine aL λq H=>?_);have U:=aM T H;simp only[go_sem,O,z,H];cases B:decide (x.name=n)
   .rw[B,aE cT]at y;simp only[go_sem,H,B];exact⟨i+1,⟨z,y⟩,by omega,aR i aB,eE⟩
   .rw[B,aF rfl]at y;rw[aJl y]at G;simp only[go_sem,H,B];exact aD G aK
  .have M:=bI S h;subst M;clear h S;rw[bK]at u;rw[u]at G;simp only at G;simp only[go_sem,T]
   refine Ex.loop (ι:=Nat) (λi=>[(0,.ptr c 0),(1,.str n),(32,.list none (d.many.map Cel.enc)),(33,.int .i64 (d.many.length:Nat)),(34,.int .i64 (i:Nat))])
    (λ_=>s) (λi=>i<=d.many.length/\(d.many.take i).find? (λx=>decide (x.name=n))=none) (λi=>d.many.length-i) 0 ⟨aN _,rfl⟩ ?_ (aC _) ?_
   .simp only[go_sem]
    try exact rfl
   .rintro i ⟨S,u⟩;refine aQ (V:=aIH) _ _ _ _ ?_;simp only[go_sem]
    (apply aI<;>intro h)<;>simp only[go_sem,h]
    .have z:i<d.many.length:=gQ h;clear h;obtain⟨x,O⟩:=aU z;have y:=aKS O u;simp only[go_sem,O,z];(refine aL λq H=>?_);have U:=aM T H;simp only[go_sem,O,z,H];cases B:decide (x.name=n)
     .rw[B,aE cT]at y;simp only[go_sem,H,B];exact⟨i+1,⟨z,y⟩,by omega,aR i aB,eE⟩
     .rw[B,aF rfl]at y;rw[aJl y]at G;simp only[go_sem,H,B];exact aD G aK
    .have M:=bI S h;subst M;clear h S;rw[bK]at u;rw[u]at G;exact aS G
end
end
def pU(e:Eqn):List Tm:=[e.left,e.right]++e.cond
def pV(p:Part):List Tm:=[p.left]++p.right
def nQ(r:Rul):List Tm:=r.parts.flatMap pV++(r.cond++r.new.flatMap Fresh.cells)
def oP(c:Cel):List Tm:=[c.init]
def vV(d:Dfn):List Tm:=d.eqs.flatMap pU++((d.once++d.many).flatMap oP++d.rules.flatMap nQ)
theorem yZ(d:Dfn):vV d=bZ d:=by
 have e:∀l:List Cel,l.flatMap oP=l.map Cel.init:=λl=>by induction l with|nil=>rfl|cons x r h=>simp only[gR,h,cC];rfl
 simp only[vV,bZ,e];rfl
theorem aCr{u y:Type}(f:u->List y){l:List u}{i:Nat}{x:u}(h:l[i]?=some x):(l.take (i+1)).flatMap f=(l.take i).flatMap f++f x:=by
 rw[fL,h,qF];simp
theorem aCC{u y:Type}(f:u->List y)(l:List u)(i:Nat):((l.take i).flatMap f).length<=(l.flatMap f).length:=by
 have h:(l.flatMap f).length=((l.take i).flatMap f).length+((l.drop i).flatMap f).length:=by rw[<-aG,<-qF,lA]
 omega
theorem aMc(e:Eqn):(pU e).length=2+e.cond.length:=by simp only[pU,aG,bB,bQ]
theorem aMd(p:Part):(pV p).length=1+p.right.length:=by simp only[pV,aG,bB,bQ]
theorem tN(l:List Tm):∀y,y∈l.map Tm.enc->y.cells.length=6:=λy h=>hU h
theorem gvE{tk:Option Nat}{l:List Tm}{s:St}(h:tk=none->l=[]):mN (gs s tk l.length 67) tk (l.map Tm.enc).length 67:=by
 rw[aW];exact iS λe=>by rw[h e];rfl
theorem aGw(x:Dfn)(hB:(vV x).length<=4294967296)(hM:x.once.length+x.many.length<=4294967000)(s:St)(KV Kp:St->A->Prop)(hk:KV s (.list none ((vV x).map Tm.enc))):Den cx 43 [.agg x.cs] KV Kp s:=by
 refine gC λbn=>?_
 have bp:=bn _ (bY ..);have bt:Rlz (.list none (x.eqs.map Eqn.enc)):=bp.cell (by simp[Dfn.cs]);have bm:Rlz (.list none (x.rules.map Rul.enc)):=bp.cell (by simp[Dfn.cs]);clear bn
 have bc:(x.eqs.flatMap pU).length+(((x.once++x.many).flatMap oP).length+(x.rules.flatMap nQ).length)<=4294967296:=by
  unfold vV at hB;simpa only[aG]using hB
 simp only[go_sem];(refine aO func43 aBy ?_;simp only[go_sem,ntmps43,f43]);(refine aL λp Z=>?_);simp only[go_sem,Z]
 refine Ex.loop (ι:=Nat × Option Nat) (λc=>[(1,.ptr p 0),(3,gv c.2 (((x.eqs.take c.1).flatMap pU).map Tm.enc)),(15,.list none (x.eqs.map Eqn.enc)),(16,.int .i64 x.eqs.length),(17,.int .i64 (c.1:Nat))])
  (λc=>gs (s.setO p (.cells 31 x.cs)) c.2 ((x.eqs.take c.1).flatMap pU).length 67)
  (λc=>uF s ((x.eqs.take c.1).flatMap pU) c.2/\c.1<=x.eqs.length) (λc=>x.eqs.length-c.1) (0,none) ⟨⟨λ_=>rfl,λt e=>(by cases e)⟩,aN _⟩ ?_ (by exact aC _) ?_
 ·(simp only[go_sem,Z];try exact⟨rfl,rfl⟩)
 ·rintro ⟨i,tk⟩ ⟨⟨z,B⟩,hi⟩;simp only at z B hi;refine aQ (V:=aBy) _ _ _ _ ?_;simp only[go_sem,Z]
  (apply aI<;>intro h)<;>simp only[go_sem,h,Z]
  .have G:i<x.eqs.length:=gQ h;clear h;obtain⟨e,he⟩:=aU G;have H:=aCr pU he;have S:=aCC pU x.eqs (i+1);rw[H,aG,aMc]at S;simp only[go_sem,Z,he,G];(refine oS λb5 bb=>?_);simp only[go_sem,Z,he,G,bb];(refine bX (OT.l [0,1,2,3,4,7,8,5,6,9,10] .nil) [(5,[8]),(6,[8])] ?_;simp only[go_sem,Z,he,G,bb]);refine⟨by decide,λy U=>?_,fJ rfl rfl (gvE z) (tN _) (by simp only[aW,bB,bQ];omega) (λu hu=>?_)⟩
   .simp only[cR,nE,dW]at U;rcases U with rfl|rfl<;>rfl
   have T:=kB hu B;rw[kF hu];simp only[go_sem,Z,he,G,bb];refine⟨by decide,tN _,by simp only[aG,aW,bB,bQ],λy U=>?_,by simp only[aG,aW,bB,bQ];omega,?_⟩
   .simp only[bT,cR,nE,dW]at U;rcases U with U|rfl|rfl
    .exact hU U
    .rfl
    .rfl
   refine⟨(i+1,some u),⟨⟨λh=>(by cases h),λt h=>by cases h;exact T⟩,G⟩,bD,?_,?_⟩
   .simp only[go_sem,bt.wrap (i:=i) (gQ G),nW,H,cB,pU,dO]
   .have e1:∀(a b:A),(List.map Tm.enc ((x.eqs.take i).flatMap pU)++[a,b]).length+e.cond.length=((x.eqs.take (i+1)).flatMap pU).length:=λa b=>by simp only[H,aG,aMc,aW,bB,bQ];omega
    rw[tF,e1];exact dV (eW (And.intro Z bb))
  .have b3:i=x.eqs.length:=by have:¬ i<x.eqs.length:=gQ h;omega
   subst b3;rw[bK]at z;rw[bK];clear h hi;obtain⟨L0,bf⟩:∃L,L=x.eqs.flatMap pU:=⟨_,rfl⟩
   rw[<-bf]at z bc⊢;refine aGb [x.once,x.many] (by simp only[lV,oW,cK,aG];omega) _ _ _ ?_;rw[show [x.once,x.many].flatten=x.once++x.many by simp];simp only[go_sem];obtain⟨Y,b4⟩:∃L,L=x.once++x.many:=⟨_,rfl⟩
   have bk:Y.length<=4294967000:=by rw[b4,aG];exact hM
   rw[<-b4]at bc⊢
   refine Ex.loop (ι:=Nat × Option Nat) (λc=>[(1,.ptr p 0),(3,gv c.2 ((L0++(Y.take c.1).flatMap oP).map Tm.enc)),(37,.list none (Y.map Cel.enc)),(38,.int .i64 (Y.length:Nat)),(39,.int .i64 (c.1:Nat))])
    (λc=>gs (s.setO p (.cells 31 x.cs)) c.2 (L0++(Y.take c.1).flatMap oP).length 67)
    (λc=>uF s (L0++(Y.take c.1).flatMap oP) c.2/\c.1<=Y.length) (λc=>Y.length-c.1) (0,tk) ⟨⟨gQ z,B⟩,aN _⟩ ?_ (by simp only[iD,rV,cK];exact aC _) ?_
   .simp only[go_sem];simp
   .clear z B tk;rintro⟨i,tk⟩ ⟨⟨z,B⟩,hi⟩;simp only at z B hi;refine aQ (V:=aBy) _ _ _ _ ?_;simp only[go_sem]
    (apply aI<;>intro h)<;>simp only[go_sem,h]
    .have G:i<Y.length:=gQ h;clear h;obtain⟨o,ho⟩:=aU G;have H:=aCr oP ho;have S:=aCC oP Y (i+1);rw[H,aG]at S;simp only[oP,bB,bQ]at S;simp only[go_sem,Z,ho,G];(refine oS λb7 bh=>?_);simp only[go_sem,Z,ho,G,bh];refine⟨by decide,λy U=>by simp only[bS]at U;subst U;rfl,fJ rfl rfl (gvE z) (tN _) (by simp only[aW,aG,bB,bQ];omega) (λu hu=>?_)⟩;have T:=kB hu B;rw[kF hu];simp only[go_sem,Z,ho,G,bh];refine⟨(i+1,some u),⟨⟨λh=>(by cases h),λt h=>by cases h;exact T⟩,G⟩,bD,?_,?_⟩
     .simp only[go_sem,aR i aB,nW,H,cB,oP,dO]
     .rw[show(L0++(Y.take i).flatMap oP).length+1=(L0++(Y.take (i+1)).flatMap oP).length by rw[H];simp only[aW,aG,oP,bB,bQ];omega];exact dV (eW (And.intro Z bh))
    .have b3:i=Y.length:=by have:¬ i<Y.length:=gQ h;omega
     subst b3;clear h hi;rw[bK]at z;rw[bK];obtain⟨L1,b6⟩:∃L,L=L0++Y.flatMap oP:=⟨_,rfl⟩
     have c2:L1.length+(x.rules.flatMap nQ).length<=4294967296:=by rw[b6,aG];omega
     rw[<-b6]at z⊢;have bl:vV x=L1++x.rules.flatMap nQ:=by rw[vV,<-bf,<-b4,b6,dO]
     rw[bl]at hk;clear bc hB;clear b4 bk b6 bf L0
     refine Ex.loop (ι:=Nat × Option Nat) (λc=>[(3,gv c.2 ((L1++(x.rules.take c.1).flatMap nQ).map Tm.enc)),(50,.list none (x.rules.map Rul.enc)),(51,.int .i64 x.rules.length),(52,.int .i64 (c.1:Nat))])
      (λc=>gs s c.2 (L1++(x.rules.take c.1).flatMap nQ).length 67)
      (λc=>uF s (L1++(x.rules.take c.1).flatMap nQ) c.2/\c.1<=x.rules.length) (λc=>x.rules.length-c.1) (0,tk) ⟨⟨gQ z,B⟩,aN _⟩ ?_ ?_ ?_
     .simp only[go_sem,Z];simp
     .simp only[iD,rV,cK];exact aCD (aGS (aCt Z (aDY _ _ _)))
     .clear z B tk;rintro⟨i,tk⟩ ⟨⟨z,B⟩,hi⟩;simp only at z B hi;refine aQ (V:=aBy) _ _ _ _ ?_;simp only[go_sem]
      (apply aI<;>intro h)<;>simp only[go_sem,h]
      .have G:i<x.rules.length:=gQ h;clear h;obtain⟨r,hr⟩:=aU G;have H:=aCr nQ hr;have S:=aCC nQ x.rules (i+1);rw[H,aG]at S;simp only[go_sem,hr,G];(refine oS λb9 O=>?_);simp only[go_sem,hr,G,O];have bq:Rlz (.agg r.cs):=bm.agg_elem (cW.2 ⟨r,bA hr,rfl⟩);have bv:Rlz (.list none (r.parts.map Part.enc)):=bq.cell (by simp[Rul.cs]);have bw:Rlz (.list none (r.new.map Fresh.enc)):=bq.cell (by simp[Rul.cs]);have br:IntKind.i64.wrap ((i:Int)+1)=((i+1:Nat):Int):=bm.wrap (i:=i) (gQ G);obtain⟨L2,bg⟩:∃L,L=L1++(x.rules.take i).flatMap nQ:=⟨_,rfl⟩
       have b1:L1++(x.rules.take (i+1)).flatMap nQ=L2++nQ r:=by rw[H,bg,dO]
       have bd:L2.length+(nQ r).length<=4294967296:=by rw[bg,aG];omega
       rw[<-bg]at z⊢;clear S H
       refine Ex.loop (ι:=Nat × Option Nat) (λc=>[(3,gv c.2 ((L2++(r.parts.take c.1).flatMap pV).map Tm.enc)),(9,.ptr b9 0),(50,.list none (x.rules.map Rul.enc)),(51,.int .i64 x.rules.length),(52,.int .i64 (i:Nat)),(57,.list none (r.parts.map Part.enc)),(58,.int .i64 r.parts.length),(59,.int .i64 (c.1:Nat))])
        (λc=>gs (s.setO b9 (.cells 50 r.cs)) c.2 (L2++(r.parts.take c.1).flatMap pV).length 67)
        (λc=>uF s (L2++(r.parts.take c.1).flatMap pV) c.2/\c.1<=r.parts.length) (λc=>r.parts.length-c.1) (0,tk) ⟨⟨gQ z,B⟩,aN _⟩ ?_ (by simp only[iD,rV,cK];exact aC _) ?_
       .simp only[go_sem,O];simp
       .clear z B tk;rintro⟨j,tk⟩ ⟨⟨z,B⟩,hj⟩;simp only at z B hj;refine aQ (V:=aBy) _ _ _ _ ?_;simp only[go_sem,O]
        (apply aI<;>intro h)<;>simp only[go_sem,h,O]
        .have M:j<r.parts.length:=gQ h;clear h;obtain⟨q,hq⟩:=aU M;have H:=aCr pV hq;have S:=aCC pV r.parts (j+1);rw[H,aG,aMd]at S;rw[nQ,aG]at bd;simp only[go_sem,O,hq,M];(refine oS λc0 b0=>?_);simp only[go_sem,O,hq,M,b0];(refine bX (OT.l [0,1,2,3,5,6,4,7,8] .nil) [(4,[6])] ?_;simp only[go_sem,O,hq,M,b0]);refine⟨by decide,λy U=>by simp only[bS]at U;subst U;rfl,fJ rfl rfl (gvE z) (tN _) (by simp only[aW,aG,bB,bQ];omega) (λu hu=>?_)⟩;have T:=kB hu B;rw[kF hu];simp only[go_sem,O,hq,M,b0];refine⟨by decide,tN _,by simp only[aG,aW,bB,bQ],λy U=>?_,by simp only[aG,aW,bB,bQ];omega,?_⟩
         .simp only[bT,bS]at U;rcases U with U|rfl
          .exact tN _ _ U
          .rfl
         refine⟨(j+1,some u),⟨⟨λh=>(by cases h),λt h=>by cases h;exact T⟩,M⟩,bD,?_,?_⟩
         .simp only[go_sem,bv.wrap (i:=j) (gQ M),nW,H,cB,pV,dO]
         .have e1:∀(a:A),(List.map Tm.enc (L2++(r.parts.take j).flatMap pV)++[a]).length+q.right.length=(L2++(r.parts.take (j+1)).flatMap pV).length:=λa=>by simp only[H,aG,aMd,aW,bB,bQ];omega
          rw[tF,e1];exact dV (eW (And.intro O b0))
        .have bj:j=r.parts.length:=by have:¬ j<r.parts.length:=gQ h;omega
         subst bj;clear h hj;rw[bK]at z;rw[bK];rw[nQ]at b1 bd;simp only[aG]at bd;obtain⟨L3,b8⟩:∃L,L=L2++r.parts.flatMap pV:=⟨_,rfl⟩
         rw[<-dO,<-b8]at b1;have bz:L3.length=L2.length+(r.parts.flatMap pV).length:=by rw[b8,aG]
         rw[<-b8]at z⊢;clear b8;refine⟨by decide,tN _,fJ rfl rfl (gvE z) (tN _) (by simp only[aW];omega) (λu hu=>?_)⟩;have T:=kB hu B;rw[kF hu];simp only[go_sem,O];clear z B hu tk
         refine Ex.loop (ι:=Nat × Option Nat) (λc=>[(3,gv c.2 ((L3++(r.cond++(r.new.take c.1).flatMap Fresh.cells)).map Tm.enc)),(50,.list none (x.rules.map Rul.enc)),(51,.int .i64 x.rules.length),(52,.int .i64 (i:Nat)),(77,.list none (r.new.map Fresh.enc)),(78,.int .i64 r.new.length),(79,.int .i64 (c.1:Nat))])
          (λc=>gs s c.2 (L3++(r.cond++(r.new.take c.1).flatMap Fresh.cells)).length 67)
          (λc=>uF s (L3++(r.cond++(r.new.take c.1).flatMap Fresh.cells)) c.2/\c.1<=r.new.length) (λc=>r.new.length-c.1) (0,some u) ⟨⟨λh=>(by cases h),λt h=>by cases h;exact T⟩,aN _⟩ ?_ ?_ ?_
         .simp only[go_sem,O,nW,cB];simp
         .show St.ge _ (s.setT u ((L3++(r.cond++(r.new.take 0).flatMap Fresh.cells)).length,67));rw[show(L3++(r.cond++(r.new.take 0).flatMap Fresh.cells)).length=L3.length+r.cond.length by simp];exact dV (eW O)
         .rintro⟨j,tk⟩ ⟨⟨z,B⟩,hj⟩;simp only at z B hj;refine aQ (V:=aBy) _ _ _ _ ?_;simp only[go_sem]
          (apply aI<;>intro h)<;>simp only[go_sem,h]
          .have M:j<r.new.length:=gQ h;clear h;obtain⟨q,hq⟩:=aU M;have H:=aCr Fresh.cells hq;have S:=aCC Fresh.cells r.new (j+1);rw[H,aG]at S;simp only[go_sem,hq,M];(refine oS λc1 b2=>?_);simp only[go_sem,hq,M,b2];refine⟨by decide,tN _,fJ rfl rfl (gvE z) (tN _) (by simp only[aW,aG];omega) (λu hu=>?_)⟩;have T:=kB hu B;rw[kF hu];simp only[go_sem,hq,M,b2];refine⟨(j+1,some u),⟨⟨λh=>(by cases h),λt h=>by cases h;exact T⟩,M⟩,bD,?_,?_⟩
           .simp only[go_sem,bw.wrap (i:=j) (gQ M),nW,H,cB,dO]
           .rw[show(L3++(r.cond++(r.new.take j).flatMap Fresh.cells)).length+q.cells.length=(L3++(r.cond++(r.new.take (j+1)).flatMap Fresh.cells)).length by simp only[H,aG];omega];exact dV (eW b2)
          .have bj:j=r.new.length:=by have:¬ j<r.new.length:=gQ h;omega
           subst bj;clear h hj;rw[bK,<-b1]at z;rw[bK,<-b1];refine⟨(i+1,tk),⟨⟨z,B⟩,G⟩,bD,?_,aC _⟩;simp only[go_sem,br]
      .have b3:i=x.rules.length:=by have:¬ i<x.rules.length:=gQ h;omega
       subst b3;rw[bK]at z⊢;exact DK.mk hk (eJ (aC _) B) (nM _ _ (λe=>by rw[z e];rfl))
section
theorem wO{l:List Tm}{x:Tm}(h:x∈l):x.pre.length<=(aP l).length:=by
 induction l with
 | nil=>cases h
 | cons y r u =>
  simp only[aP,aG];rcases List.mem_cons.1 h with rfl|h
  .omega
  .have:=u h;omega
theorem aHJ{t x:Tm}(h:x∈t.kids):x.pre.length<=t.pre.length:=by
 rw[fP t,bB];have:=wO (l:=t.kids++t.rest) (gN _ h);omega
theorem jP{l:List Tm}{y:A}(h:y∈l.map Tm.enc):y.cells.length=6:=by
 obtain⟨z,_,rfl⟩:=cW.1 h;rw[fZ];rfl
theorem aSt(f:Fault)(r:Option Fault):aH (bC false f) r=r:=rfl
theorem aGQ(f:Fault)(r:Option Fault):aH (bC (!true) f) r=r:=rfl
theorem dR(a b c:Option Fault):aH (aH a b) c=aH a (aH b c):=by cases a<;>rfl
theorem aS1(x:Eqn):(aP (x.right::x.cond)).length<=(aP (dH x)).length:=by
 simp only[dH,aP,aG];omega
theorem aSZ(x:Eqn):(aP (x.right::x.cond++[x.left])).length=(aP (dH x)).length:=by
 rw[dP];simp only[dH,aP,aG,cK];omega
theorem aLL(t:Tm):t.kids.length+1<=t.pre.length:=by
 rw[fP t,bB];have:=iP (t.kids++t.rest);rw[aG]at this;omega
theorem aTl{u:Type}{f:u->Bool}{l:List u}{i:Nat}{x:u}(h:l[i]?=some x)(y:(l.take i).any f=false):(l.take (i+1)).any f=f x:=by
 rw[fL,h,oY,y];simp
theorem aTm{u:Type}{f:u->Bool}{l:List u}{x:u}(h:x∈l)(y:f x=true):l.any f=true:=iW.2 ⟨x,h,y⟩
section
variable {s:St} {KV Kp:St->A->Prop} {c:Nat} {d:Dfn}
theorem CK.map{a:Option Fault}(h:CK KV Kp s a){u y:St->A->Prop}{s':St}(z:KV s (.tuple [])->u s' (.tuple []))(B:∀f:Fault,Kp s (.iface 36 f.enc)->y s' (.iface 36 f.enc)):CK u y s' a:=by
 cases a with
 | none=>exact z h
 | some f=>exact B f h
theorem aRE(h:CkAt s c d)(n:aA)(l k:Int)(ts:List Tm){tk:Option Nat}{es:List A}(u:es=ts.map Tm.enc)(y:CK KV Kp s (lG d.sig n l k ts)):Den cx 74 [.ptr c 0,.agg [.int .i64 l,.int .i64 k],.str n,.list tk es] KV Kp s:=by
 subst u;exact gL (show gO [.ptr c 0,.agg [.int .i64 l,.int .i64 k],.str n,.list tk (ts.map Tm.enc)] [.ptr c 0,.agg [.int .i64 l,.int .i64 k],.str n,.list none (ts.map Tm.enc)] from⟨cN _,cN _,cN _,A.le.forget _ _,trivial⟩) (aBV h n l k ts y)
theorem aKx(l k:Int)(ts:List Tm)(h:(aP ts).length<=4294967200){tk:Option Nat}{es:List A}(u:es=ts.map Tm.enc)(y:CK KV Kp s (vM l k ts)):Den cx 77 [.agg [.int .i64 l,.int .i64 k],.list tk es] KV Kp s:=by
 subst u;exact gL (show gO [.agg [.int .i64 l,.int .i64 k],.list tk (ts.map Tm.enc)] [.agg [.int .i64 l,.int .i64 k],.list none (ts.map Tm.enc)] from⟨cN _,A.le.forget _ _,trivial⟩) (aQP l k ts h y)
theorem aJN(l k:Int)(lefts ts:List Tm)(h:(aP lefts).length<=4294967200)(u:(aP ts).length<=4294967200){tk tl:Option Nat}{es y:List A}(hl:y=lefts.map Tm.enc)(z:es=ts.map Tm.enc)(B:CK KV Kp s (tO l k lefts ts)) :
  Den cx 78 [.agg [.int .i64 l,.int .i64 k],.list tl y,.list tk es] KV Kp s:=by
 subst z;subst hl;exact gL (show gO [.agg [.int .i64 l,.int .i64 k],.list tl (lefts.map Tm.enc),.list tk (ts.map Tm.enc)] [.agg [.int .i64 l,.int .i64 k],.list none (lefts.map Tm.enc),.list none (ts.map Tm.enc)] from⟨cN _,A.le.forget _ _,A.le.forget _ _,trivial⟩) (aPP l k lefts ts h u B)
theorem aTK(h:CkAt s c d)(x:Eqn)(hW:∀t,t∈dH x->TmW t)(hL:(aP (dH x)).length<=4294967000)(G:CK KV Kp s (xR d.sig x)):Den cx 27 [.ptr c 0,.agg x.cs] KV Kp s:=by
 have hC:=h;obtain⟨r,H,hB⟩:=h;unfold xR at G;have bp:=wO (l:=dH x) (x:=x.left) (bY ..);have bn:x.cond.length+2<=(aP (dH x)).length:=iP (dH x);have bm:=aLL x.left;have bl:TmW x.left:=hW _ (bY ..);(refine gBo func27 aFi ?_;simp only[go_sem,ntmps27,f27]);(refine aL λp T=>?_);have e1:=aM H T;simp only[go_sem,T];(refine aL λq U=>?_);have e2:=aM H U.2;have e3:¬ p=q:=U.1.1;simp only[go_sem,T,U,H,e1,e2];by_cases h5:x.left.kind=5
 .have Z:decide (x.left.kind=5)=true:=cF h5;rw[aF h5]at G;have en:lE x=x.left.text:=aF (.inl h5);simp only[en]at G;simp only[go_sem,T,U,H,e1,e2,Z];cases hl:dA d.sig.funs x.left.text with
  | none =>
   rw[hl]at G;(refine bX (OT.l [0,1,2,3,4,5,6] (.alt (.node 7 (OT.l [8,9,10,11,12,13] .nil)) (.node 11 (OT.l [7,8,9,10,12,13] .nil)))) [(11,[3,6])] ?_;simp only[go_sem,T,U,H,e1,e2,Z]);refine⟨?_,?_⟩
   .refine cU (rG (hB.ge ?_) x.left.text ?_)
    .exact aK
    simp only[go_sem,T,U,H,e1,e2,Z,hl,uK,lB,kX];(refine bP λb6 z=>?_);have e6:=aM H (aJ z);simp only[go_sem,T,U,H,e1,e2,Z,z,e6];refine cU (fA 15 _ _ _ ?_);simp only[go_sem];exact aD G aK
   ·(refine bP λb6 z=>?_);have e6:=aM H (aJ z);simp only[go_sem,T,U,H,e1,e2,Z,z,e6];refine cU (rG (hB.ge ?_) x.left.text ?_)
    .exact aK
    simp only[go_sem,T,U,H,e1,e2,Z,hl,z,e6,uK,lB,kX];refine cU (fA 15 _ _ _ ?_);simp only[go_sem];exact aD G aK
  | some f =>
   rw[hl]at G;simp only at G;(refine bX (OT.l [0,1,2,3,4,5,6] (.alt (.node 7 (OT.l [8,9,10,11,12,13] .nil)) (.node 11 (OT.l [7,8,9,10,12,13] .nil)))) [(11,[3,6])] ?_;simp only[go_sem,T,U,H,e1,e2,Z]);refine⟨?oA,?oB⟩
   case' oA =>
    refine cU (rG (hB.ge ?_) x.left.text ?_)
    .exact aK
    simp only[go_sem,T,U,H,e1,e2,Z,hl,oX,Option.isSome_some];(refine bP λb6 z=>?_);have e6:=aM H (aJ z);simp only[go_sem,T,U,H,e1,e2,Z,z,e6]
   case' oB =>
    (refine bP λb6 z=>?_);have e6:=aM H (aJ z);simp only[go_sem,T,U,H,e1,e2,Z,z,e6];refine cU (rG (hB.ge ?_) x.left.text ?_)
    .exact aK
    simp only[go_sem,T,U,H,e1,e2,Z,hl,z,e6,oX,Option.isSome_some]
   all_goals
    (refine bX (OT.l [0,1,2,3,4,5,6,8,9,7,10,11] .nil) [(7,[1,9]),(10,[1])] ?_;simp only[go_sem,T,U,H,e1,e2,Z,z,e6]);refine .inr λt bk=>⟨by decide,λy hy=>jP hy,λy hy=>?_,by omega,?_⟩
    .simp only[cR,gX,dW]at hy;rcases hy with rfl|rfl<;>rfl
    generalize hS:St.setT (St.setT _ t _) t _=S;have b1:S.ge s:=by subst hS;rw[oI];exact eJ (tk:=some t) (by exact aK) (λu hu=>by cases hu;exact bk)
    have gp:S.getO p=some (.cells 69 x.cs):=by subst hS;simp only[Eqn.cs,Tm.cs,bL,bE];exact gH
    have gq:S.getO q=some (.cells 58 [.int .i64 x.line,.int .i64 x.col]):=by subst hS;exact gH
    have g6:S.getO b6=some (.cells 80 f.cs):=by subst hS;simp only[Opr.cs];exact gH
    simp only[Eqn.cs,Tm.cs,Opr.cs,bL,bE]at gp g6;clear hS;have bh:=hC.ge b1;have bf:=hB.ge b1;have gc:=b1.ob _ _ H;refine cU (aRE bh _ _ _ (dH x) (by simp only[dH,cC,fZ];rfl) (lR G (λG=>?_) (λf hf=>?_)));rotate_left
    .simp only[go_sem];exact aD hf b1
    simp only[go_sem,gp,gq,g6]
    refine Ex.loop (ι:=Nat) (λi=>[(0,.ptr c 0),(3,.ptr p 0),(4,.ptr q 0),(5,.str x.left.text),(6,.ptr b6 0),(69,.list none (x.left.kids.map Tm.enc)),(70,.int .i64 (x.left.kids.length:Nat)),(71,.int .i64 (i:Nat))])
     (λ_=>S) (λi=>i<=x.left.kids.length/\(x.left.kids.take i).any (pD d.sig)=false) (λi=>x.left.kids.length-i) 0 ⟨aN _,rfl⟩ ?_ (aC _) ?_
    .simp only[go_sem]
     try exact rfl
    .rintro i ⟨hi,Y⟩;refine aQ (V:=aFi) _ _ _ _ ?_;simp only[go_sem]
     (apply aI<;>intro h)<;>simp only[go_sem,h]
     .have M:i<x.left.kids.length:=gQ h;clear h;obtain⟨k,O⟩:=aU M;have b2:k∈x.left.kids:=bA O;have bj:=aHJ b2;have bd:=aTl (f:=pD d.sig) O Y;simp only[go_sem,O,M];(refine bP λb9 B=>?_);have f1:=aM gc (aJ B);have f2:=aM gq B;simp only[go_sem,O,M,B,f1,gc];(refine bX (OT.r 0 6) [] ?_;simp only[go_sem,O,M,B,f1,gc]);refine cU (aI6 (bf.ge (aZ B (aC S))) k aB ?_);cases hf:pD d.sig k
      .simp only[go_sem,B,f2,gq];exact⟨i+1,⟨M,by rw[bd,hf]⟩,by omega,aR i aB,eE⟩
      .simp only[go_sem,B,f2,gq];rw[aTm b2 hf]at G
       replace G:CK KV Kp s (some (⟨16,x.left.text,x.line,x.col⟩:Fault)):=G
       refine cU (fA 16 _ _ _ ?_);simp only[go_sem];exact aD G ((aZ B (aC S)).trans b1)
     .have b4:=bI hi h;subst b4;clear h hi;rw[bK]at Y;rw[Y,aSt]at G;simp only[go_sem,gp,gq,g6]
      refine Ex.loop (ι:=Nat) (λi=>[(0,.ptr c 0),(3,.ptr p 0),(4,.ptr q 0),(5,.str x.left.text),(6,.ptr b6 0),(87,.list none (x.left.kids.map Tm.enc)),(88,.int .i64 (x.left.kids.length:Nat)),(89,.int .i64 (i:Nat))])
       (λ_=>S) (λi=>i<=x.left.kids.length/\(x.left.kids.take i).all (mC d.sig)=true) (λi=>x.left.kids.length-i) 0 ⟨aN _,rfl⟩ ?_ (aC _) ?_
      .simp only[go_sem]
       try exact rfl
      .clear Y;rintro i ⟨hi,Y⟩;refine aQ (V:=aFi) _ _ _ _ ?_;simp only[go_sem]
       (apply aI<;>intro h)<;>simp only[go_sem,h]
       .have M:i<x.left.kids.length:=gQ h;clear h;obtain⟨k,O⟩:=aU M;have b2:k∈x.left.kids:=bA O;have bj:=aHJ b2;have bd:=aG1 (f:=mC d.sig) O Y;simp only[go_sem,O,M];(refine bP λb9 B=>?_);have f1:=aM gc (aJ B);have f2:=aM gq B;simp only[go_sem,O,M,B,f1,gc];(refine bX (OT.r 0 7) [] ?_;simp only[go_sem,O,M,B,f1,gc]);refine cU (aJo (bf.ge (aZ B (aC S))) k (bl.kids k b2) aB ?_);cases hf:mC d.sig k
        .simp only[go_sem,B,f2,gq];rw[aGK b2 hf]at G
         replace G:CK KV Kp s (some (⟨16,x.left.text,x.line,x.col⟩:Fault)):=G
         refine cU (fA 16 _ _ _ ?_);simp only[go_sem];exact aD G ((aZ B (aC S)).trans b1)
        .simp only[go_sem,B,f2,gq];exact⟨i+1,⟨M,by rw[bd,hf]⟩,by omega,aR i aB,eE⟩
       .have b4:=bI hi h;subst b4;clear h hi;rw[bK]at Y;rw[Y,aGQ]at G;simp only[go_sem,gp,gq,g6];refine .inr λt2 b5=>⟨by decide,λy hy=>jP hy,λy hy=>(by rw[bS.1 hy];rfl),by omega,?_⟩
        have bq:s.getT t2=none:=by
         cases h0:s.getT t2 with
         | none=>rfl
         | some m=>rw[b1.tk _ _ h0]at b5;cases b5
        (refine bX (OT.r 0 7) [(5,[0])] ?_;simp only[go_sem,gp,gq,g6]);refine⟨by decide,λy hy=>(by rw[bS.1 hy];rfl),by first|omega|rfl|(simp;omega),λy hy=>?_,by first|omega|(simp;omega),?_⟩
        .rcases List.mem_cons.1 hy with rfl|hy
         .rfl
         .exact jP hy
        generalize bb:St.setT (St.setT _ t2 _) t2 _=S2;have b0:S2.ge s:=by subst bb;simp only[oI];exact(eJ (tk:=some t2) (aC S) (λu hu=>by cases hu;exact b5)).trans b1
        have bc:S2.ge S:=by subst bb;simp only[oI];exact eJ (tk:=some t2) (aC S) (λu hu=>by cases hu;exact b5)
        have b8:=bc.ob _ _ gp;have b3:=bc.ob _ _ gq;have b7:=bc.ob _ _ g6;clear bb;have bg:=hC.ge b0;refine cU (aKx _ _ (x.right::x.cond++[x.left]) ?_ ?_ (lR G (λG=>?_) (λf hf=>?_)))
        .rw[aSZ x];omega
        .simp only[bL,cC,cB,eZ,fZ];rfl
        rotate_left
        .simp only[go_sem];exact aD hf b0
        simp only[go_sem,b8,b3,b7];refine .inl ?_;refine cU (aJN _ _ [x.left] (x.right::x.cond) ?_ ?_ ?_ ?_ (lR G (λG=>?_) (λf hf=>?_)))
        .simp only[aP,cK];omega
        .have:=aS1 x;omega
        .rw[aBu];rfl
        .simp only[cC,fZ];rfl
        rotate_left
        .simp only[go_sem];exact aD hf b0
        simp only[go_sem,b8,b3,b7]
        refine Ex.loop (ι:=Nat) (λi=>[(0,.ptr c 0),(3,.ptr p 0),(4,.ptr q 0),(5,.str x.left.text),(6,.ptr b6 0),(124,.list none (x.cond.map Tm.enc)),(125,.int .i64 (x.cond.length:Nat)),(126,.int .i64 (i:Nat))])
         (λ_=>S2) (λi=>i<=x.cond.length/\CK KV Kp s (aH (bO (λt=>jL d.sig x.left.text x.line x.col t [66,111,111,108]) (x.cond.drop i)) (jL d.sig x.left.text x.line x.col x.right f.sort))) (λi=>x.cond.length-i) 0 ⟨aN _,G⟩ ?_ (aC _) ?_
        .simp only[go_sem]
         try exact rfl
        .clear G;rintro i ⟨hi,G⟩;refine aQ (V:=aFi) _ _ _ _ ?_;simp only[go_sem]
         (apply aI<;>intro h)<;>simp only[go_sem,h]
         .have M:i<x.cond.length:=gQ h;clear h;obtain⟨k,O⟩:=aU M;rw[rX _ O,dR]at G;simp only[go_sem,O,M];(refine bP λb9 B=>?_);have f2:=aM b3 (aJ B);simp only[go_sem,O,M,B,f2,b3];refine cU (aAn (bg.ge (aZ B (aC S2))) _ _ _ k _ (lR G (λG=>?_) (λf hf=>?_)));rotate_left
          .simp only[go_sem];exact aD hf ((aZ B (aC S2)).trans b0)
          simp only[go_sem];exact⟨i+1,⟨M,G⟩,by omega,aR i aB,eE⟩
         .have b4:=bI hi h;subst b4;clear h hi;rw[dB (bF _)]at G;simp only[go_sem,b8,b3,b7];refine cU (aAn bg _ _ _ x.right f.sort (CK.map (a:=jL d.sig x.left.text x.line x.col x.right f.sort) G (λG=>?_) (λf hf=>?_)));rotate_left
          .simp only[go_sem];exact aD hf b0
          simp only[go_sem];exact aD G b0
 .rw[aE h5]at G;have Z:decide (x.left.kind=5)=false:=bN h5;have fin:∀n:aA,n=lE x->CK KV Kp s (some ⟨15,n,x.line,x.col⟩):=λn e=>by rw[e];exact G
  unfold lE at fin;by_cases h6:x.left.kind=6
  .have G:=fin x.left.text (by rw[aF (.inr h6)]);have d6:decide (x.left.kind=6)=true:=cF h6;simp only[go_sem,T,U,H,e1,e2,Z,d6];(refine bX (OT.l [0,1,2,3,4,5,6] (.alt (.node 7 (OT.l [8,9,10,11,12,13] .nil)) (.node 11 (OT.l [7,8,9,10,12,13] .nil)))) [(11,[3,6])] ?_;simp only[go_sem,T,U,H,e1,e2,Z]);refine⟨?oC,?oD⟩
   case' oC =>
    refine cU (rG (hB.ge ?_) x.left.text ?_)
    .exact aK
    simp only[go_sem,T,U,H,e1,e2,Z];(refine bP λb6 z=>?_);have e6:=aM H (aJ z);simp only[go_sem,T,U,H,e1,e2,Z,z,e6]
   case' oD =>
    (refine bP λb6 z=>?_);have e6:=aM H (aJ z);simp only[go_sem,T,U,H,e1,e2,Z,z,e6];refine cU (rG (hB.ge ?_) x.left.text ?_)
    .exact aK
    simp only[go_sem,T,U,H,e1,e2,Z,z,e6]
   all_goals
    refine cU (fA 15 _ _ _ ?_);simp only[go_sem];exact aD G aK
  .have G:=fin [] (by rw[aE (λh=>h.elim h5 h6)]);have d6:decide (x.left.kind=6)=false:=bN h6;simp only[go_sem,T,U,H,e1,e2,Z,d6];(refine bX (OT.l [0,1,2,3,4,5,6] (.alt (.node 7 (OT.l [8,9,10,11,12,13] .nil)) (.node 11 (OT.l [7,8,9,10,12,13] .nil)))) [(11,[3,6])] ?_;simp only[go_sem,T,U,H,e1,e2,Z]);refine⟨?oE,?oF⟩
   case' oE =>
    refine cU (rG (hB.ge ?_) x.left.text ?_)
    .exact aK
    simp only[go_sem,T,U,H,e1,e2,Z];(refine bP λb6 z=>?_);have e6:=aM H (aJ z);simp only[go_sem,T,U,H,e1,e2,Z,z,e6]
   case' oF =>
    (refine bP λb6 z=>?_);have e6:=aM H (aJ z);simp only[go_sem,T,U,H,e1,e2,Z,z,e6];refine cU (rG (hB.ge ?_) x.left.text ?_)
    .exact aK
    simp only[go_sem,T,U,H,e1,e2,Z,z,e6]
   all_goals
    refine cU (fA 15 _ _ _ ?_);simp only[go_sem];exact aD G aK
end
end
section
section
variable {s:St} {KV Kp:St->A->Prop}
theorem aPo(x:aA)(h:KV s (.bool (!cA x))):Den cx 51 [.str x] KV Kp s:=by
 (refine aO func51 [0,2] ?_;simp only[go_sem,ntmps51,f51]);refine tC _ _ _ _ ?_;simp only[go_sem];exact aS h
theorem aPp(t:Tm)(y:TmW t)(h:KV s (.bool (!(Tm.val 60 t 0).isSome))):Den cx 56 [.agg t.cs] KV Kp s:=by
 (refine aO func56 [0,1,2] ?_;simp only[go_sem,ntmps56,f56]);(refine aL λp u=>?_);simp only[go_sem,u];refine aJ9 t y _ _ _ ?_;simp only[go_sem];exact aD h aK
theorem aVg(a b c d:Nat):decide ((20:Int)<aE6 (a:Int) (b:Int) (c:Int) (d:Int))=!(decide (a<=20)&&(decide (b<=20)&&(decide (c<=20)&&decide (d<=20)))):=by
 have h:(20:Int)<aE6 (a:Int) (b:Int) (c:Int) (d:Int)↔¬ (a<=20/\b<=20/\c<=20/\d<=20):=by
  unfold aE6;simp only;split<;>split<;>split<;>omega
 rw[fG];simp only[bR,fV,Bool.and_eq_false_iff,eF,h];omega
theorem gM{u:Type}{l:List u}{i:Nat}{x:u}(h:l[i]?=some x):l.drop i=x::l.drop (i+1):=by
 obtain⟨y,rfl⟩:=cX.1 h;exact rA y
theorem aQN(d:Dfn)(hB:(gE d).length<=4294967000)(hM:d.once.length+d.many.length<=4294967000)(s:St)(KV Kp:St->A->Prop)(hk:KV s (strs (gE d))):Den cx 54 [.agg d.cs] KV Kp s:=by
 refine gC λbg=>?_
 have bm:=bg _ (bY ..);have bd:Rlz (.list none (d.rules.map Rul.enc)):=bm.cell (by simp[Dfn.cs]);clear bg;simp only[go_sem];(refine gBo func54 aFm ?_;simp only[go_sem,ntmps54,f54]);(refine aL λp hp=>?_);simp only[go_sem,hp];refine .inr λt bc=>?_
 have Y:(s.setO p (.cells 31 d.cs)).getO p=some (.cells 31 d.cs):=by rw[aX,aF rfl]
 have b3:(s.setO p (.cells 31 d.cs)).ge s:=aZ hp (aC s);have bb:(s.setO p (.cells 31 d.cs)).getT t=none:=bc;simp only[Dfn.cs,Sig.cs,bL,bE]at Y b3 bb;generalize bj:s.setO p _=S1 at Y b3 bb⊢;clear bj bc hp;have bk:(d.once++d.many).length<=4294967000:=by rw[aG];exact hM
 obtain⟨X0,H⟩:∃X,X=[d.name,d.start,d.watch]++(if d.kind=[] then [] else [d.kind]):=⟨_,rfl⟩
 have b0:X0++((d.once++d.many).map Cel.name++d.rules.flatMap mK)=gE d:=by rw[H,dO];rfl
 cases c1:decide (d.kind=[])<;>simp only[go_sem,Y,c1]
 case' true =>
  rw[aF (eN c1)]at H;have b6:[A.str d.name,A.str d.start,A.str d.watch]=X0.map A.str:=by rw[H];rfl
  have b8:S1.setT t (3,9)=S1.setT t (X0.length,9):=by rw[H];rfl
 case' false =>
  rw[aE (of_decide_eq_false c1)]at H;refine .inl ⟨by decide,λy B=>(by rw[bS.1 B];rfl),λy B=>(by simp only[cR,gX,dW]at B;rcases B with rfl|rfl|rfl<;>rfl),?_⟩;rw[oI];have b6:[A.str d.name,A.str d.start,A.str d.watch,A.str d.kind]=X0.map A.str:=by rw[H];rfl
  have b8:S1.setT t (4,9)=S1.setT t (X0.length,9):=by rw[H];rfl
 all_goals
  rw[b6,b8];clear b6 b8 H;refine .inl ?_;refine cU (aGb [d.once,d.many] (by simp only[lV,oW,cK];omega) _ _ _ ?_);rw[show [d.once,d.many].flatten=d.once++d.many by simp];generalize d.once++d.many=cells at b0 bk;simp only[go_sem,Y];refine Ex.loop (ι:=Nat × List aA) (λc=>[(1,.ptr p 0),(3,.list (some t) (c.2.map .str)),(30,.list none (cells.map Cel.enc)),(31,.int .i64 (cells.length:Nat)),(32,.int .i64 (c.1:Nat))]) (λc=>S1.setT t (c.2.length,9)) (λc=>c.1<=cells.length/\c.2++((cells.drop c.1).map Cel.name++d.rules.flatMap mK)=gE d) (λc=>cells.length-c.1) (0,X0) ⟨aN _,b0⟩ ?_ (aC _) ?_
  .simp only[go_sem]
   try exact rfl
  .rintro⟨i,X⟩ ⟨hi,z⟩;simp only at hi z;refine aQ (V:=aFm) _ _ _ _ ?_;simp only[go_sem]
   (apply aI<;>intro h)<;>simp only[go_sem,h]
   .have G:i<cells.length:=gQ h;clear h;obtain⟨x,hx⟩:=aU G;rw[gM hx,cC,bL]at z;have b1:X.length+1<=4294967000:=by rw[<-z,aG,bB]at hB;omega
    simp only[go_sem,hx,G];(refine bP λb5 b2=>?_);have f1:=aM Y (aJ b2);simp only[go_sem,hx,G,b2,f1];refine .inl ⟨by decide,λy B=>(by rw[bS.1 B];rfl),λy B=>eI B,by omega,(i+1,X++[x.name]),⟨G,by rw[dO];exact z⟩,bD,⟨by rw[cB];rfl,aR i aB⟩,?_⟩;rw[oI];simp only[aG,bB,bQ];exact dV (eW b2)
   .have b4:=bI hi h;subst b4;rw[dB (bF _)]at z
    replace z:X++d.rules.flatMap mK=gE d:=z
    simp only[go_sem,Y];refine Ex.loop (ι:=Nat × List aA) (λc=>[(1,.ptr p 0),(3,.list (some t) (c.2.map .str)),(43,.list none (d.rules.map Rul.enc)),(44,.int .i64 (d.rules.length:Nat)),(45,.int .i64 (c.1:Nat))]) (λc=>S1.setT t (c.2.length,9)) (λc=>c.1<=d.rules.length/\c.2++(d.rules.drop c.1).flatMap mK=gE d) (λc=>d.rules.length-c.1) (0,X) ⟨aN _,z⟩ ?_ (aC _) ?_
    .simp only[go_sem]
     try exact rfl
    .clear z X b0;rintro⟨i,X⟩ ⟨hi,z⟩;simp only at hi z;refine aQ (V:=aFm) _ _ _ _ ?_;simp only[go_sem]
     (apply aI<;>intro h)<;>simp only[go_sem,h]
     .have G:i<d.rules.length:=gQ h;clear h;obtain⟨r,hr⟩:=aU G;have bn:Rlz (.agg r.cs):=bd.agg_elem (cW.2 ⟨r,bA hr,rfl⟩);have bf:Rlz (.list none (r.parts.map Part.enc)):=bn.cell (by simp[Rul.cs]);rw[gM hr,gR]at z;generalize hR:(d.rules.drop (i+1)).flatMap mK=R at z;have M:(X++(r.name::r.drop))++((r.parts.map Part.at_).filter (λx=>!decide (x=[]))++R)=gE d:=by rw[<-z];simp[mK]
      have b1:X.length+1+r.drop.length<=4294967000:=by rw[<-M]at hB;simp only[aG,bB]at hB;omega
      simp only[go_sem,hr,G];(refine bP λb7 S=>?_);have f1:=aM Y (aJ S);simp only[go_sem,hr,G,S,f1];(refine bX (OT.l [0,1,2,3,5,6,4,7,8] .nil) [(4,[6])] ?_;simp only[go_sem,hr,G,S,f1]);refine⟨by decide,λy B=>(by rw[bS.1 B];rfl),λy B=>eI B,by omega,by decide,λy B=>eI B,by simp,λy B=>?_,by simp only[aG,aW,bB,bQ];omega,?_⟩
      .rcases bT.1 B with B|B
       .exact eI B
       .rw[bS.1 B];rfl
      have gb:(S1.setO b7 (.cells 50 r.cs)).getO b7=some (.cells 50 r.cs):=by rw[aX,aF rfl]
      have T:(S1.setO b7 (.cells 50 r.cs)).ge S1:=aZ S (aC S1);rw[oI,oI,show List.map A.str X++[A.str r.name]++List.map A.str r.drop=(X++(r.name::r.drop)).map A.str by simp];rw[show(List.map A.str X++[A.str r.name]).length+r.drop.length=(X++(r.name::r.drop)).length by simp;omega];generalize X++(r.name::r.drop)=X3 at M;generalize Z:S1.setO b7 (.cells 50 r.cs)=S2 at gb T;simp only[Rul.cs]at Z;rw[Z];clear Z f1 S z b1;have bh:=T.ob _ _ Y;refine Ex.loop (ι:=Nat × List aA) (λc=>[(1,.ptr p 0),(3,.list (some t) (c.2.map .str)),(43,.list none (d.rules.map Rul.enc)),(44,.int .i64 (d.rules.length:Nat)),(45,.int .i64 (i:Nat)),(58,.list none (r.parts.map Part.enc)),(59,.int .i64 (r.parts.length:Nat)),(60,.int .i64 (c.1:Nat))]) (λc=>S2.setT t (c.2.length,9)) (λc=>c.1<=r.parts.length/\c.2++(((r.parts.drop c.1).map Part.at_).filter (λx=>!decide (x=[]))++R)=gE d) (λc=>r.parts.length-c.1) (0,X3) ⟨aN _,M⟩ ?_ (aC _) ?_
      .simp only[go_sem]
       try exact rfl
      .clear M X3 X;rintro⟨j,X⟩ ⟨hj,z⟩;simp only at hj z;refine aQ (V:=aFm) _ _ _ _ ?_;simp only[go_sem]
       (apply aI<;>intro h)<;>simp only[go_sem,h]
       .have O:j<r.parts.length:=gQ h;clear h;obtain⟨x,hx⟩:=aU O;rw[gM hx,cC,List.filter_cons]at z;simp only[go_sem,hx,O];(refine bP λb9 U=>?_);have f2:=aM bh (aJ U);cases c2:decide (x.at_=[])<;>rw[c2]at z<;>simp only[go_sem,hx,O,U,f2,c2]
        .have M:X++(x.at_::(((r.parts.drop (j+1)).map Part.at_).filter (λx=>!decide (x=[]))++R))=gE d:=z;have b1:X.length+1<=4294967000:=by rw[<-M,aG,bB]at hB;omega
         refine .inl ⟨by decide,λy B=>(by rw[bS.1 B];rfl),λy B=>eI B,by omega,(j+1,X++[x.at_]),⟨O,by rw[dO];exact M⟩,bD,⟨by rw[cB];rfl,bf.wrap (i:=j) (gQ O)⟩,?_⟩;rw[oI];simp only[aG,bB,bQ];exact dV (eW U)
        .refine⟨(j+1,X),⟨O,z⟩,bD,⟨rfl,bf.wrap (i:=j) (gQ O)⟩,?_⟩;exact dV (eW U)
       .have bl:=bI hj h;subst bl;rw[dB (bF _)]at z
        replace z:X++R=gE d:=z
        refine⟨(i+1,X),⟨G,by rw[hR];exact z⟩,bD,⟨rfl,bd.wrap (i:=i) (gQ G)⟩,dV T⟩
     .have b4:=bI hi h;subst b4;rw[dB (bF _),rV,cK]at z;subst z;exact DK.mk hk (eJ (tk:=some t) b3 (λu e=>by cases e;exact bb)) (A.le.forget _ _)
theorem aLt{u:Type}{f:u->Bool}{l:List u}{i:Nat}{x:u}(h:l[i]?=some x):(l.drop i).all f=(f x&&(l.drop (i+1)).all f):=by
 rw[gM h,eG]
theorem aPY(d:Dfn)(hT:∀t,t∈bZ d->TmW t)(hL:(bZ d).length<=4294967000)(hB:(gE d).length<=4294967000)(hM:d.once.length+d.many.length<=4294967000)(u:KV s (.bool (pE d))):Den cx 23 [.agg d.cs] KV Kp s:=by
 refine gC λb0=>?_
 have Z:=b0 _ (bY ..);have b2:Rlz (.list none (d.eqs.map Eqn.enc)):=Z.cell (by simp[Dfn.cs]);have b3:Rlz (.list none (d.rules.map Rul.enc)):=Z.cell (by simp[Dfn.cs]);clear b0 Z;unfold pE at u;have z1:decide ((12:Int)<((d.once.length:Nat):Int))=decide (12<d.once.length):=by rw[bW];omega
 have z2:decide ((12:Int)<((d.many.length:Nat):Int))=decide (12<d.many.length):=by rw[bW];omega
 have z3:decide ((300:Int)<((d.rules.length:Nat):Int))=decide (300<d.rules.length):=by rw[bW];omega
 have z4:decide ((300:Int)<((d.eqs.length:Nat):Int))=decide (300<d.eqs.length):=by rw[bW];omega
 (refine aO func23 aID ?_;simp only[go_sem,ntmps23,f23]);(refine aL λp hp=>?_);have M:(s.setO p (.cells 31 d.cs)).getO p=some (.cells 31 d.cs):=by rw[aX,aF rfl]
 have B:(s.setO p (.cells 31 d.cs)).ge s:=aZ hp (aC s);simp only[go_sem,hp,z1];simp only[Dfn.cs,Sig.cs,bL,bE]at M B;generalize b1:s.setO p _=S1 at M B⊢;clear b1 hp;cases H:decide (12<d.once.length)<;>rw[H]at u<;>simp only[go_sem,M,z1,H,z2]
 rotate_left
 .exact aD u B
 cases T:decide (12<d.many.length)<;>rw[T]at u<;>simp only[go_sem,M,z1,H,z2,T,z3]
 rotate_left
 .exact aD u B
 cases c3:decide (300<d.rules.length)<;>rw[c3]at u<;>simp only[go_sem,M,z1,H,z2,T,z3,c3,z4]
 rotate_left
 .exact aD u B
 cases c4:decide (300<d.eqs.length)<;>rw[c4]at u<;>simp only[go_sem,M,z1,H,z2,T,z3,c3,z4,c4]
 rotate_left
 .exact aD u B
 clear H T c3 c4 z1 z2 z3 z4;simp only[fN,dD]at u;refine Ex.loop (ι:=Nat) (λi=>[(1,.ptr p 0),(31,.list none (d.eqs.map Eqn.enc)),(32,.int .i64 (d.eqs.length:Nat)),(33,.int .i64 (i:Nat))]) (λ_=>S1) (λi=>i<=d.eqs.length/\KV s (.bool (((d.eqs.drop i).all λx=>!decide (20<x.cond.length))&&((d.rules.all λr=>decide (r.parts.length<=20)&&(decide (r.cond.length<=20)&&(decide (r.new.length<=20)&&decide (r.drop.length<=20))))&&((gE d).all cA&&(bZ d).all λt=>(Tm.val 60 t 0).isSome))))) (λi=>d.eqs.length-i) 0 ⟨aN _,u⟩ ?_ (aC _) ?_
 .simp only[go_sem]
  try exact rfl
 .clear u;rintro i ⟨hi,u⟩;refine aQ (V:=aID) _ _ _ _ ?_;simp only[go_sem]
  (apply aI<;>intro h)<;>simp only[go_sem,h]
  .have y:i<d.eqs.length:=gQ h;clear h;obtain⟨x,O⟩:=aU y;rw[aLt O]at u;have z:decide ((20:Int)<((x.cond.length:Nat):Int))=decide (20<x.cond.length):=by rw[bW];omega
   simp only[go_sem,O,y];(refine bP λb4 U=>?_);have f1:=aM M (aJ U);have G:(S1.setO b4 (.cells 69 x.cs)).ge S1:=aZ U (aC S1);simp only[Eqn.cs]at G;cases H:decide (20<x.cond.length)<;>rw[H]at u<;>simp only[go_sem,O,y,U,f1,z,H]
   .exact⟨i+1,⟨y,u⟩,by omega,b2.wrap (i:=i) (gQ y),eE⟩
   .exact aD u (G.trans B)
  .have Y:=bI hi h;subst Y;clear h hi;rw[dB (bF _)]at u;simp only[go_sem,M];refine Ex.loop (ι:=Nat) (λi=>[(1,.ptr p 0),(43,.list none (d.rules.map Rul.enc)),(44,.int .i64 (d.rules.length:Nat)),(45,.int .i64 (i:Nat))]) (λ_=>S1) (λi=>i<=d.rules.length/\KV s (.bool (((d.rules.drop i).all λr=>decide (r.parts.length<=20)&&(decide (r.cond.length<=20)&&(decide (r.new.length<=20)&&decide (r.drop.length<=20))))&&((gE d).all cA&&(bZ d).all λt=>(Tm.val 60 t 0).isSome)))) (λi=>d.rules.length-i) 0 ⟨aN _,u⟩ ?_ (aC _) ?_
   .simp only[go_sem]
    try exact rfl
   .clear u;rintro i ⟨hi,u⟩;refine aQ (V:=aID) _ _ _ _ ?_;simp only[go_sem]
    (apply aI<;>intro h)<;>simp only[go_sem,h]
    .have y:i<d.rules.length:=gQ h;clear h;obtain⟨x,O⟩:=aU y;rw[aLt O]at u;have z:=aVg x.parts.length x.cond.length x.new.length x.drop.length;simp only[go_sem,O,y];(refine bP λb6 S=>?_);have f1:=aM M (aJ S);have G:(S1.setO b6 (.cells 50 x.cs)).ge S1:=aZ S (aC S1);simp only[Rul.cs]at G;simp only[go_sem,O,y,S,f1,z];cases H:(decide (x.parts.length<=20)&&(decide (x.cond.length<=20)&&(decide (x.new.length<=20)&&decide (x.drop.length<=20))))<;>rw[H]at u<;>simp only[go_sem,O,y,S,f1,H]
     .exact aD u (G.trans B)
     .exact⟨i+1,⟨y,u⟩,by omega,b3.wrap (i:=i) (gQ y),G⟩
    .have Y:=bI hi h;subst Y;clear h hi;rw[dB (bF _)]at u
     replace u:KV s (.bool ((gE d).all cA&&(bZ d).all λt=>(Tm.val 60 t 0).isSome)):=u
     simp only[go_sem,M];refine dU (aQN d hB aB S1 _ _ ?_) (by simp only[Dfn.cs,Sig.cs,bL,bE]);simp only[go_sem,M];refine aGo (gE d) (λx=>!cA x) 51 [] [] _ _ _ (λx O KV Kp u=>aPo x u) ?_;rw[show((gE d).any λx=>!cA x)=!(gE d).all cA by simp[List.any_eq_not_all_not]];cases H:(gE d).all cA<;>rw[H]at u<;>simp only[go_sem,M]
     .exact aD u B
     .refine dU (aGw d (by rw[yZ];omega) hM S1 _ _ ?_) (by simp only[Dfn.cs,Sig.cs,bL,bE]);rw[yZ];simp only[go_sem,M];refine aQh (bZ d) (λt=>!(Tm.val 60 t 0).isSome) 56 [] [] _ _ _ (λx O KV Kp u=>aPp x (hT x O) u) ?_;rw[show((bZ d).any λt=>!(Tm.val 60 t 0).isSome)=!(bZ d).all λt=>(Tm.val 60 t 0).isSome by simp[List.any_eq_not_all_not]];simp only[go_sem];cases T:(bZ d).all λt=>(Tm.val 60 t 0).isSome<;>rw[T]at u<;>simp only[go_sem]
      .exact aD u B
      .exact aD u B
end
end
end Go.AV
