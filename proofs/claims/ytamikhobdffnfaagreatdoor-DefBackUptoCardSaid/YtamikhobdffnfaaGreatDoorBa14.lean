/-
  Of DefBack.
-/
import Derived.Test.YtamikhobdffnfaaGreatDoorBa13
import Derived.RangeFuncBox
import Derived.RangeFuncLeaves
import Derived.Shelf.Abstract
import Derived.OwnWalkIn
import Derived.TacticsInMore
import Derived.LoopNIn
import Derived.LoopIn
import Derived.Maps.AppendAt
set_option linter.all false
set_option maxRecDepth 99999
set_option maxHeartbeats 0
namespace Go.AV
open Go Go.Proofs Tryz
theorem aHO{s:St}{r:Nat}{h v:A}{c:List Wd}{t:Tm}(_:WrS s r h v (bS c t)):(bS c t).length+1<=c.length+8 * t.cnt:=sP t c
structure RulOk (x:Rul):Prop where
 left:∀p,p∈x.parts->TwOk p.left
 right:∀p,p∈x.parts->∀t,t∈p.right->TwOk t
 new:∀f,f∈x.new->∀t,t∈f.cells->TwOk t
 cond:∀t,t∈x.cond->TwOk t
theorem aO6(x:Rul)(hx:RulOk x)(r:Nat)(M v0:A)(LS:List (List Wd))(s:St)(KV Kp:St->A->Prop)(hw:WfS s r M v0 LS [])
  (hl:10+gF tA x.parts+gF tC x.new+gF (λ_=>4) x.drop+8 * dW x.cond<=4294967296)(cq:LS.length+1<=4294967296)
  (hk:∀s' bc,WfS s' r bc .nils (LS++[mX x]) []->Frm s s'->KV s' (.tuple [])):Den cx 184 [.ptr r 0,.agg x.cs] KV Kp s:=by
 have fin:∀{s1 v1 c} {bd bp:St->A->Prop} (hs:Stp r v0 v1 s s1) (b8:WrS s1 r M v1 c),c.length+1<=4294967296->(∀s' bc,WfS s' r bc .nils (LS++[aJ c [46]]) []->Frm s s'->bd s' (.tuple []))->Den cx 178 [.ptr r 0] bd bp s1:=by
  intro s1 v1 c bd bp hs b8 hc cl;exact rL r M v1 LS c s1 bd bp (hw.step hs b8) hc cq (λs2 v2 cj ck=>cl _ _ cj ((hs.frm hw.w).trans ck))
 have lp:=aEh tA x.parts;have ln:=aEh tC x.new;have ld:=aEh (λ_=>4) x.drop;(refine aR func184 [0,1,2,3,4,5,7,9,11,13,21,22,23,24,36,50,51,52,53,65,66,67,68,87,88,89,90] ?_;simp only[go_sem,ntmps184,f184]);(refine aQ λp hp=>?_);simp only[go_sem,hp];(refine aQ λq hq=>?_);simp only[go_sem,hp,hq];have cp:((s.setO p (.cells 110 [.ptr r 0])).setO q (.cells 84 x.cs)).getO p=some (.cells 110 [.ptr r 0]):=by simp only[aL,hq.1.1,hq.1.2,bR,bT]
 have ch:((s.setO p (.cells 110 [.ptr r 0])).setO q (.cells 84 x.cs)).getO q=some (.cells 84 x.cs):=by simp only[aL,bT]
 have c6:(s.setO p (.cells 110 [.ptr r 0])).getO q=none:=by simp only[aL,hq.1.1,hq.1.2,bR];exact hq.2
 have bl:=(hw.w.new hp (.cells 110 [.ptr r 0])).new c6 (.cells 84 x.cs);have bh:=(xG (r:=r) (v:=v0) hp (.cells 110 [.ptr r 0])).trans (xG c6 (.cells 84 x.cs));refine dU [[114,117,108,101],x.name,[58]] r M v0 _ _ _ _ bl dO (λs1 v1 b8 bf=>?_);have bg:=bf.keep bl cp aE aE;have b9:=bf.keep bl ch aE aE;simp only[go_sem,bg,b9];(refine aQ λc hc=>?_);have bk:c≠p:=λe=>by rw[e,bg]at hc;cases hc
 have bj:c≠q:=λe=>by rw[e,b9]at hc;cases hc
 simp only[go_sem,hc,bg,b9,bk,bj,bk.symm,bj.symm]
 have H0:RlS s r M v0 p q c x (s1.setO c (.cells 3 [.int .i64 ((0:Nat):Int)])) v1 (bF [] [[114,117,108,101],x.name,[58]]) 0 :=
  ⟨b8.new hc _,(bh.trans bf).trans (xG hc _),by simp only[aL,bk,bR];exact bg,by simp only[aL,bj,bR];exact b9,by simp only[aL,bT],(bh.trans bf).dom c hc⟩
 clear hw;obtain⟨c0,bm⟩:∃d,d=bF [] [[114,117,108,101],x.name,[58]]:=⟨_,rfl⟩
 have f4:c0.length=3:=by rw[bm];rfl
 rw[<-bm]at H0
 refine Ex.loop (ι:=Nat × (St × A)) (λk=>[(0,.ptr r 0),(2,.ptr p 0),(3,.ptr q 0),(4,.ptr c 0),(5,.fn 260 [] [.ptr c 0,.ptr p 0]),(21,.list none (x.parts.map Part.enc)),(22,.int .i64 (x.parts.length:Nat)),(23,.int .i64 (k.1:Nat))])
  (λk=>k.2.1) (λk=>k.1<=x.parts.length/\RlS s r M v0 p q c x k.2.1 k.2.2 (eZ jV 0 c0 (x.parts.take k.1)) k.1) (λk=>x.parts.length-k.1) (0,(s1.setO c (.cells 3 [.int .i64 ((0:Nat):Int)]),v1)) ⟨aU _,H0⟩ ?_ (aM _) ?_
 ·(simp only[go_sem];try exact rfl)
 .rintro⟨i,s2,v2⟩ ⟨hi,H⟩;simp only at hi H;refine bE (V:=[0,1,2,3,4,5,7,9,11,13,21,22,23,24,36,50,51,52,53,65,66,67,68,87,88,89,90]) _ _ _ _ ?_;simp only[go_sem]
  (apply aT<;>intro h)<;>simp only[go_sem,h]
  .have F:i<x.parts.length:=gQ h;clear h;obtain⟨y,Z⟩:∃a,x.parts[i]?=some a:=⟨_,aX F⟩
   have bb:y∈x.parts:=bZ Z;have w1:=cF i aC;have c8:=aAV tA Z;have b2:=zD jV tA (λn x c=>aJF n x c) (x.parts.take i) 0 c0;have cr:tA y=4+8 * y.left.cnt+8 * dW y.right:=rfl;have S:=aF0 jV Z 0 c0;simp only[go_sem,Z,F];(refine aQ λb hb=>?_);simp only[go_sem,Z,F,hb];have H:=H.new hb (.cells 86 y.cs);have B:(s2.setO b (.cells 86 y.cs)).getO b=some (.cells 86 y.cs):=by simp only[aL,bT]
   obtain⟨U,b4⟩:∃d,d=eZ jV 0 c0 (x.parts.take i):=⟨_,rfl⟩
   rw[<-b4]at H b2 S;refine aF4 i aC c p r M v2 _ _ _ _ H.gc H.gp H.w aC (λs3 v3 u m bz c3=>?_);have bn:b≠c:=λe=>by have h1:=H.gc;rw[<-e,B]at h1;cases h1
   have bq:=m.keep H.w B aE aE;have B:(s3.setO c (.cells 3 [.int .i64 ((i+1:Nat):Int)])).getO b=some (.cells 86 y.cs):=by rw[aL,aB (Ne.symm bn)];exact bq
   have H:=H.count m u;obtain⟨s2,b0⟩:∃d,d=s3.setO c (.cells 3 [.int .i64 ((i+1:Nat):Int)]):=⟨_,rfl⟩
   rw[<-b0]at H B⊢;obtain⟨v2,b3⟩:∃d,d=v3:=⟨_,rfl⟩
   rw[<-b3]at H;obtain⟨c1,O⟩:∃d,d=fB i U:=⟨_,rfl⟩
   have bw:c1.length<=U.length+1:=O▸aA1 i U;rw[<-O]at H;simp only[go_sem,H.gp,H.gq,H.gc,B];refine dU [y.cell] r M v2 _ _ _ _ H.w dO (λs2 v2 u m=>?_);have B:=m.keep H.w B aE aE;have H:=H.step m u;simp only[go_sem,H.gp,H.gq,H.gc,B];cases a1:decide (y.at_=[])
   all_goals (simp only[go_sem,a1,H.gp,H.gq,H.gc,B])
   all_goals (
    first
    | (have e1:∀d,(if y.at_=[] then d else bF d [[64],y.at_])=d:=λd=>aF (gQ a1))
    | (
     have e1:∀d,(if y.at_=[] then d else bF d [[64],y.at_])=bF d [[64],y.at_]:=λd=>aB (gQ a1)
     refine dU [[64],y.at_] r M v2 _ _ _ _ H.w dO (λs2 v2 u m=>?_);have B:=m.keep H.w B aE aE;have H:=H.step m u;simp only[go_sem,H.gp,H.gq,H.gc,B]
     skip))
   all_goals (
    refine dU [[58]] r M v2 _ _ _ _ H.w dO (λs2 v2 u m=>?_);have B:=m.keep H.w B aE aE;have H:=H.step m u;simp only[go_sem,H.gp,H.gq,H.gc,B];refine hx.left y bb r M v2 _ _ _ _ H.w (by(try simp only[fT,iS,aG,aH]);omega) (λs2 v2 u m=>?_);have B:=m.keep H.w B aE aE;have H:=H.step m u;have cm:=aHO u;simp only[fT,iS,aG,aH]at cm;simp only[go_sem,H.gp,H.gq,H.gc,B]
    have H2:∃c2,RlS s r M v0 p q c x s2 v2 c2 (i+1)/\c2.length<=U.length+4+8 * y.left.cnt/\jV i U y=kM c2 y.right:=by
     refine⟨_,H,by omega,?_⟩;unfold jV;rw[<-O];simp only[e1];rfl
    obtain⟨c2,H,ct,cg⟩:=H2
    refine Ex.loop (ι:=Nat × (St × A)) (λk=>[(0,.ptr r 0),(2,.ptr p 0),(3,.ptr q 0),(4,.ptr c 0),(5,.fn 260 [] [.ptr c 0,.ptr p 0]),(7,.ptr b 0),(21,.list none (x.parts.map Part.enc)),(22,.int .i64 (x.parts.length:Nat)),(23,.int .i64 (i:Nat)),(50,.list none (y.right.map Tm.enc)),(51,.int .i64 (y.right.length:Nat)),(52,.int .i64 (k.1:Nat))])
     (λk=>k.2.1) (λk=>k.1<=y.right.length/\RlS s r M v0 p q c x k.2.1 k.2.2 (kM c2 (y.right.take k.1)) (i+1)) (λk=>y.right.length-k.1) (0,(s2,v2)) ⟨aU _,H⟩ ?_ (aM _) ?_
    ·(simp only[go_sem];try exact rfl)
    .rintro⟨j,s2,v2⟩ ⟨hj,H⟩;simp only at hj H;have lr:=zM y.right;refine bE (V:=[0,1,2,3,4,5,7,9,11,13,21,22,23,24,36,50,51,52,53,65,66,67,68,87,88,89,90]) _ _ _ _ ?_;simp only[go_sem]
     (apply aT<;>intro h)<;>simp only[go_sem,h]
     .have b7:j<y.right.length:=gQ h;clear h;obtain⟨z,hz⟩:∃a,y.right[j]?=some a:=⟨_,aX b7⟩
      have w2:=cF j aC;have cz:=aDa hz;have f5:=aGp (y.right.take j) c2;have cf:=aPf hz c2;have f1:=vT z;simp only[go_sem,hz,b7];(refine aQ λd hd=>?_);simp only[go_sem,hz,b7,hd];have H:=H.new hd (.cells 43 z.cs);have b5:(s2.setO d (.cells 43 z.cs)).getO d=some (.cells 43 z.cs):=by simp only[aL,bT]
      have bt:d≠p:=λe=>by have h1:=H.gp;rw[<-e,b5]at h1;cases h1
      simp only[go_sem,H.gp,b5,bt,bt.symm,‹RlS s r M v0 p q c x s2 v2 _ _›.gp];refine dU [[61,62]] r M v2 _ _ _ _ H.w dO (λs2 v2 u m=>?_);have b5:=m.keep H.w b5 aE aE;have H:=H.step m u;simp only[go_sem,H.gp,H.gq,H.gc,b5];refine hx.right y bb z (bZ hz) r M v2 _ _ _ _ H.w (by(try simp only[fT,iS,aG,aH]);omega) (λs2 v2 u m=>?_);have H:=H.step m u;simp only[go_sem];exact⟨(j+1,s2,v2),⟨b7,by rw[cf];exact H⟩,aP,w2,aM _⟩
     .have cn:j=y.right.length:=by have:¬ j<y.right.length:=gQ h;omega
      subst cn;rw[List.take_length,<-cg]at H;exact⟨(i+1,s2,v2),⟨F,by rw[S,fH];exact H⟩,aP,w1,aM _⟩)
  .have b6:i=x.parts.length:=by have:¬ i<x.parts.length:=gQ h;omega
   subst b6;rw[List.take_length]at H;have cd:=zD jV tA (λn x c=>aJF n x c) x.parts 0 c0;obtain⟨d1,c5⟩:∃d,d=eZ jV 0 c0 x.parts:=⟨_,rfl⟩
   rw[<-c5]at H cd;simp only[go_sem,H.gq]
   refine Ex.loop (ι:=Nat × (St × A)) (λk=>[(0,.ptr r 0),(2,.ptr p 0),(3,.ptr q 0),(4,.ptr c 0),(5,.fn 260 [] [.ptr c 0,.ptr p 0]),(65,.list none (x.new.map Fresh.enc)),(66,.int .i64 (x.new.length:Nat)),(67,.int .i64 (k.1:Nat))])
    (λk=>k.2.1) (λk=>k.1<=x.new.length/\RlS s r M v0 p q c x k.2.1 k.2.2 (eZ kX x.parts.length d1 (x.new.take k.1)) (x.parts.length+k.1)) (λk=>x.new.length-k.1) (0,(s2,v2)) ⟨aU _,H⟩ ?_ (aM _) ?_
   ·(simp only[go_sem];try exact rfl)
   .rintro⟨i,s2,v2⟩ ⟨hi,H⟩;simp only at hi H;refine bE (V:=[0,1,2,3,4,5,7,9,11,13,21,22,23,24,36,50,51,52,53,65,66,67,68,87,88,89,90]) _ _ _ _ ?_;simp only[go_sem]
    (apply aT<;>intro h)<;>simp only[go_sem,h]
    .have F:i<x.new.length:=gQ h;clear h;obtain⟨y,Z⟩:∃a,x.new[i]?=some a:=⟨_,aX F⟩
     have bb:y∈x.new:=bZ Z;have w1:=cF i aC;have c8:=aAV tC Z;have b2:=zD kX tC (λn x c=>aKL n x c) (x.new.take i) x.parts.length d1;have cr:tC y=4+8 * dW y.cells:=rfl;have S:=aF0 kX Z x.parts.length d1;simp only[go_sem,Z,F];(refine aQ λb hb=>?_);simp only[go_sem,Z,F,hb];have H:=H.new hb (.cells 141 y.cs);have B:(s2.setO b (.cells 141 y.cs)).getO b=some (.cells 141 y.cs):=by simp only[aL,bT]
     obtain⟨U,b4⟩:∃d,d=eZ kX x.parts.length d1 (x.new.take i):=⟨_,rfl⟩
     rw[<-b4]at H b2 S;refine aF4 (x.parts.length+i) aC c p r M v2 _ _ _ _ H.gc H.gp H.w aC (λs3 v3 u m bz c3=>?_);have bn:b≠c:=λe=>by have h1:=H.gc;rw[<-e,B]at h1;cases h1
     have bq:=m.keep H.w B aE aE;have B:(s3.setO c (.cells 3 [.int .i64 ((x.parts.length+i+1:Nat):Int)])).getO b=some (.cells 141 y.cs):=by rw[aL,aB (Ne.symm bn)];exact bq
     have H:=H.count m u;obtain⟨s2,b0⟩:∃d,d=s3.setO c (.cells 3 [.int .i64 ((x.parts.length+i+1:Nat):Int)]):=⟨_,rfl⟩
     rw[<-b0]at H B⊢;obtain⟨v2,b3⟩:∃d,d=v3:=⟨_,rfl⟩
     rw[<-b3]at H;obtain⟨c1,O⟩:∃d,d=fB (x.parts.length+i) U:=⟨_,rfl⟩
     have bw:c1.length<=U.length+1:=O▸aA1 (x.parts.length+i) U;rw[<-O]at H;simp only[go_sem,H.gp,H.gq,H.gc,B];refine dU [[110,101,119],[40]] r M v2 _ _ _ _ H.w dO (λs2 v2 u m=>?_);have B:=m.keep H.w B aE aE;have H:=H.step m u;simp only[go_sem,H.gp,H.gq,H.gc,B];have br:=zN y.cells false (bF c1 [[110,101,119],[40]]);rw[fT]at br;simp only[aG,aH]at br;refine aCW y.cells (hx.new y bb) r M v2 _ _ _ _ H.w (by(try simp only[fT,iS,aG,aH]);omega) (λs2 v2 u m=>?_);have H:=H.step m u;simp only[go_sem,H.gp,H.gq,H.gc];refine dU [[41]] r M v2 _ _ _ _ H.w dO (λs2 v2 u m=>?_);have H:=H.step m u;simp only[go_sem,H.gp,H.gq,H.gc]
     exact⟨(i+1,s2,v2),⟨F,by
      have e:kX (x.parts.length+i) U y=bF (gW false (bF c1 [[110,101,119],[40]]) y.cells) [[41]]:=by rw[kX,O,aBR];rfl
      rw[S,e];exact H⟩,aP,w1,aM _⟩
    .have b6:i=x.new.length:=by have:¬ i<x.new.length:=gQ h;omega
     subst b6;rw[List.take_length]at H;have bv:=zD kX tC (λn x c=>aKL n x c) x.new x.parts.length d1;obtain⟨d2,c4⟩:∃d,d=eZ kX x.parts.length d1 x.new:=⟨_,rfl⟩
     rw[<-c4]at H bv;simp only[go_sem,H.gq]
     refine Ex.loop (ι:=Nat × (St × A)) (λk=>[(0,.ptr r 0),(2,.ptr p 0),(3,.ptr q 0),(4,.ptr c 0),(5,.fn 260 [] [.ptr c 0,.ptr p 0]),(87,.list none (x.drop.map .str)),(88,.int .i64 (x.drop.length:Nat)),(89,.int .i64 (k.1:Nat))])
      (λk=>k.2.1) (λk=>k.1<=x.drop.length/\RlS s r M v0 p q c x k.2.1 k.2.2 (eZ kW (x.parts.length+x.new.length) d2 (x.drop.take k.1)) (x.parts.length+x.new.length+k.1)) (λk=>x.drop.length-k.1) (0,(s2,v2)) ⟨aU _,H⟩ ?_ (aM _) ?_
     ·(simp only[go_sem];try exact rfl)
     .rintro⟨i,s2,v2⟩ ⟨hi,H⟩;simp only at hi H;refine bE (V:=[0,1,2,3,4,5,7,9,11,13,21,22,23,24,36,50,51,52,53,65,66,67,68,87,88,89,90]) _ _ _ _ ?_;simp only[go_sem]
      (apply aT<;>intro h)<;>simp only[go_sem,h]
      .have F:i<x.drop.length:=gQ h;clear h;obtain⟨y,Z⟩:∃a,x.drop[i]?=some a:=⟨_,aX F⟩
       have w1:=cF i aC;have c8:=aAV (λ_=>4) Z;have b2:=zD kW (λ_=>4) (λn x c=>aKn n x c) (x.drop.take i) (x.parts.length+x.new.length) d2;have S:=aF0 kW Z (x.parts.length+x.new.length) d2;simp only[go_sem,Z,F];obtain⟨U,b4⟩:∃d,d=eZ kW (x.parts.length+x.new.length) d2 (x.drop.take i):=⟨_,rfl⟩
       rw[<-b4]at H b2 S;refine aF4 (x.parts.length+x.new.length+i) aC c p r M v2 _ _ _ _ H.gc H.gp H.w aC (λs3 v3 u m bz c3=>?_);have H:=H.count m u;obtain⟨s2,b0⟩:∃d,d=s3.setO c (.cells 3 [.int .i64 ((x.parts.length+x.new.length+i+1:Nat):Int)]):=⟨_,rfl⟩
       rw[<-b0]at H⊢;obtain⟨v2,b3⟩:∃d,d=v3:=⟨_,rfl⟩
       rw[<-b3]at H;obtain⟨c1,O⟩:∃d,d=fB (x.parts.length+x.new.length+i) U:=⟨_,rfl⟩
       have bw:c1.length<=U.length+1:=O▸aA1 (x.parts.length+x.new.length+i) U;rw[<-O]at H;simp only[go_sem,H.gp,H.gq,H.gc];refine dU [[100,114,111,112],[64],y] r M v2 _ _ _ _ H.w dO (λs2 v2 u m=>?_);have H:=H.step m u;simp only[go_sem,H.gp,H.gq,H.gc]
       exact⟨(i+1,s2,v2),⟨F,by
        have e:kW (x.parts.length+x.new.length+i) U y=bF c1 [[100,114,111,112],[64],y]:=by rw[kW,O]
        rw[S,e];exact H⟩,aP,w1,aM _⟩
      .have b6:i=x.drop.length:=by have:¬ i<x.drop.length:=gQ h;omega
       subst b6;rw[List.take_length]at H;have c7:=zD kW (λ_=>4) (λn x c=>aKn n x c) x.drop (x.parts.length+x.new.length) d2;obtain⟨d3,c9⟩:∃d,d=eZ kW (x.parts.length+x.new.length) d2 x.drop:=⟨_,rfl⟩
       rw[<-c9]at H c7;simp only[go_sem,H.gp,H.gq];refine aIz x.cond hx.cond r M v2 _ _ _ _ H.w aC (λs2 v2 u m=>?_);have H:=H.step m u
       have f3:(pM d3 x.cond).length<=d3.length+1+8 * dW x.cond:=by
        unfold pM;split
        .omega
        .have:=zN x.cond false (aJ d3 [105,102]);rw[aBR,iS]at this;omega
       simp only[go_sem,H.gp];refine fin H.t H.w aC (λs' bc hW hF=>?_);simp only[go_sem];exact aO (hk _ _ (by rw[mX];simp only[<-bm,<-c5,<-c4,<-c9];exact hW) hF)
structure ItS (s0:St) (r q:Nat) (e:TypeId) (cs:List A) (s:St) (vi:A) (LS:List (List Wd)):Prop where
 w:WfS s r vi .nils LS []
 f:Frm s0 s
 g:s.getO q=some (.cells e cs)
 ne:mY (.cells e cs)
theorem ItS.next{y:St}{r q:Nat}{e:TypeId}{cs:List A}{s s':St}{B m:A}{F LS':List (List Wd)}(h:ItS y r q e cs s B F)(z:WfS s' r m .nils LS' [])(u:Frm s s'):ItS y r q e cs s' m LS' :=
 ⟨z,h.f.trans u,u.ob _ _ h.g h.ne,h.ne⟩
theorem WfS.new{s:St}{r:Nat}{u v:A}{y:List (List Wd)}{m:List Wd}(h:WfS s r u v y m){b:Nat}(z:s.getO b=none)(o:Ob):WfS (s.setO b o) r u v y m:=h.step (xG z o) (h.w.new z o)
theorem ItS.new{u:St}{r q:Nat}{e:TypeId}{cs:List A}{s:St}{m:A}{y:List (List Wd)}(h:ItS u r q e cs s m y){b:Nat}(z:s.getO b=none)(o:Ob):ItS u r q e cs (s.setO b o) m y :=
 h.next (h.w.new z o) ((xG (r:=r) (v:=A.nils) z o).frm h.w.w)
theorem ItS.t0{m:St}{r q:Nat}{e:TypeId}{cs:List A}{s:St}{h:A}{u:List (List Wd)}(_:ItS m r q e cs s h u):Stp r A.nils A.nils s s:=Stp.refl r A.nils s
theorem ItS.eq{u:St}{r q:Nat}{e:TypeId}{cs:List A}{s:St}{m:A}{y LS':List (List Wd)}(h:ItS u r q e cs s m y)(z:y=LS'):ItS u r q e cs s m LS':=z▸h
structure OprOk (o:Opr):Prop where
 hst:∀n,n∈o.strict->-9223372036854775808<=n/\n<=9223372036854775807
 hpr:o.prec<=9223372036854775807
 hpc:∀p,p∈o.pieces->p.text.length<=4294967296
 hl:o.pieces.length+o.args.length+2 * o.strict.length+20<=4294967296
structure SigOk (s:Sig):Prop where
 sorts:s.sorts.length<=1073741824
 values:s.values.length<=1073741824
 ops:∀o,o∈s.ops->OprOk o
 funs:∀o,o∈s.funs->o.args.length<=1073741824
def aHo(x:Below):List Wd:=aJ (bF [] [[115,117,98,115,111,114,116],x.low,[60],x.high]) [46]
theorem aC9(k:aD)(l:List aD):(nB k l).length<=1:=by unfold nB;split<;>simp
theorem aIS(l:List aD)(b:Bool)(c:List Wd):(dL aJ b c l).length<=c.length+2 * l.length:=by
 have:=yR aJ (λ_=>1) (λx c=>by rw[iS];exact aV _) l b c
 rwa[aD1]at this
theorem aPL(x:Sig)(hx:SigOk x)(r:Nat)(B:A)(LS:List (List Wd))(s:St)(KV Kp:St->A->Prop)(hw:WfS s r B .nils LS [])(hl:LS.length+10+x.below.length+x.ops.length+x.funs.length<=4294967296)
  (hk:∀s' bc,WfS s' r bc .nils (LS++wJ x) []->Frm s s'->KV s' (.tuple [])):Den cx 179 [.ptr r 0,.agg x.cs] KV Kp s:=by
 have bk:=hx.sorts;have bj:=hx.values;(refine aR func179 [0,1,3,5,7,9,13,24,25,26,27,43,54,55,56,57,65,66,67,68] ?_;simp only[go_sem,ntmps179,f179]);(refine aQ λq hq=>?_);have H:ItS s r q 28 x.cs (s.setO q (.cells 28 x.cs)) B LS:=⟨hw.new hq _,(xG (r:=r) (v:=A.nils) hq _).frm hw.w,by rw[aL,aF rfl],by simp only[mY];decide⟩;simp only[go_sem,hq];clear hw;have ds:decide ((0:Int)<(x.sorts.length:Int))=decide (0<x.sorts.length):=by rw[gV];omega
 have dv:decide ((0:Int)<(x.values.length:Int))=decide (0<x.values.length):=by rw[gV];omega
 have b7:=λc=>aIS x.sorts false c
 have b8:=λc=>aIS x.values false c
 have bb:∃L,L=LS++nB [115,111,114,116] x.sorts:=⟨_,rfl⟩
 obtain⟨L1,b2⟩:=bb;have bd:L1.length<=LS.length+1:=by rw[b2,aI];have:=aC9 [115,111,114,116] x.sorts;omega
 cases p1:decide (0<x.sorts.length)
 all_goals (simp only[go_sem,ds,p1,H.g])
 any_goals (
  have b6:0<x.sorts.length:=gQ p1;have t:=H.t0;have w:=H.w.w;have m:=H.g;refine dU [[115,111,114,116]] r B _ _ _ _ _ w dO (λs2 v2 z u=>?_);have m:=u.keep w m aE aE;have t:=t.trans u;have w:=z;simp only[go_sem,m];refine aIB x.sorts r B _ _ _ _ _ w dO (λs2 v2 z u=>?_);have m:=u.keep w m aE aE;have t:=t.trans u;have w:=z;simp only[go_sem,m];have b4:=b7 (bF [] [[115,111,114,116]]);simp only[fT,aG,aH]at b4;refine rL r B _ _ _ _ _ _ (H.w.step t w) dO dO (λs1 B hW hF=>?_);have H:=H.next hW ((t.frm H.w.w).trans hF);simp only[go_sem,H.g];have H:=H.eq (LS':=L1) (by rw[b2,nB,aB (λe=>by rw[e]at b6;cases b6)];rfl)
  skip)
 all_goals (
  first
  | (have H:ItS _ _ _ _ _ _ _ L1:=H)
  | (have H:=H.eq (LS':=L1) (by rw[b2,nB,aF (fW (gQ p1)),eH]))
  refine Ex.loop (ι:=Nat × (St × A)) (λk=>[(0,.ptr r 0),(3,.ptr q 0),(24,.list none (x.below.map Below.enc)),(25,.int .i64 (x.below.length:Nat)),(26,.int .i64 (k.1:Nat))])
   (λk=>k.2.1) (λk=>k.1<=x.below.length/\ItS s r q 28 x.cs k.2.1 k.2.2 (L1++(x.below.take k.1).map aHo)) (λk=>x.below.length-k.1) (0,(_,B)) ⟨aU _,H.eq bJ⟩ ?_ (aM _) ?_
  ·(simp only[go_sem];try exact rfl)
  .rintro⟨i,s1,B⟩ ⟨hi,H⟩;simp only at hi H;refine bE (V:=[0,1,3,5,7,9,13,24,25,26,27,43,54,55,56,57,65,66,67,68]) _ _ _ _ ?_;simp only[go_sem]
   (apply aT<;>intro h)<;>simp only[go_sem,h]
   .have F:i<x.below.length:=gQ h;clear h;obtain⟨y,O⟩:∃a,x.below[i]?=some a:=⟨_,aX F⟩
    have w1:=cF i aC;have U:=yI aHo O;simp only[go_sem,O,F];(refine aQ λb hb=>?_);simp only[go_sem,O,F,hb];have H:=H.new hb (.cells 104 y.cs);have t:=H.t0;have w:=H.w.w;have m:=H.g;refine dU [[115,117,98,115,111,114,116],y.low,[60],y.high] r B _ _ _ _ _ w dO (λs2 v2 z u=>?_);have m:=u.keep w m aE aE;have t:=t.trans u;have w:=z;simp only[go_sem,m];refine rL r B _ _ _ _ _ _ (H.w.step t w) dO dO (λs1 B hW hF=>?_);have H:=H.next hW ((t.frm H.w.w).trans hF);simp only[go_sem,H.g];exact⟨(i+1,s1,B),⟨F,H.eq (by rw[U,bG];rfl)⟩,aP,w1,aM _⟩
   .have Z:i=x.below.length:=by have:¬ i<x.below.length:=gQ h;omega
    subst Z;rw[List.take_length]at H;simp only[go_sem,H.g];obtain⟨L2,b3⟩:∃L,L=L1++x.below.map aHo:=⟨_,rfl⟩
    have bh:L2.length<=LS.length+1+x.below.length:=by rw[b3,aI,aK];omega
    obtain⟨L3,b0⟩:∃L,L=L2++nB [118,97,108,117,101] x.values:=⟨_,rfl⟩
    have bg:L3.length<=L2.length+1:=by rw[b0,aI];have:=aC9 [118,97,108,117,101] x.values;omega
    rw[<-b3]at H;clear h;cases p2:decide (0<x.values.length)
    all_goals (simp only[go_sem,dv,p2,H.g])
    any_goals (
     have b9:0<x.values.length:=gQ p2;have t:=H.t0;have w:=H.w.w;have m:=H.g;refine dU [[118,97,108,117,101]] r B _ _ _ _ _ w dO (λs2 v2 z u=>?_);have m:=u.keep w m aE aE;have t:=t.trans u;have w:=z;simp only[go_sem,m];refine aIB x.values r B _ _ _ _ _ w dO (λs2 v2 z u=>?_);have m:=u.keep w m aE aE;have t:=t.trans u;have w:=z;simp only[go_sem,m];have b4:=b8 (bF [] [[118,97,108,117,101]]);simp only[fT,aG,aH]at b4;refine rL r B _ _ _ _ _ _ (H.w.step t w) dO dO (λs1 B hW hF=>?_);have H:=H.next hW ((t.frm H.w.w).trans hF);simp only[go_sem,H.g];have H:=H.eq (LS':=L3) (by rw[b0,nB,aB (λe=>by rw[e]at b9;cases b9)];rfl)
     skip)
    all_goals (
     first
     | (have H:ItS _ _ _ _ _ _ _ L3:=H)
     | (have H:=H.eq (LS':=L3) (by rw[b0,nB,aF (fW (gQ p2)),eH]))
     refine Ex.loop (ι:=Nat × (St × A)) (λk=>[(0,.ptr r 0),(3,.ptr q 0),(54,.list none (x.ops.map Opr.enc)),(55,.int .i64 (x.ops.length:Nat)),(56,.int .i64 (k.1:Nat))])
      (λk=>k.2.1) (λk=>k.1<=x.ops.length/\ItS s r q 28 x.cs k.2.1 k.2.2 (L3++(x.ops.take k.1).map pV)) (λk=>x.ops.length-k.1) (0,(_,B)) ⟨aU _,H.eq bJ⟩ ?_ (aM _) ?_
     ·(simp only[go_sem];try exact rfl)
     .rintro⟨i,s1,B⟩ ⟨hi,H⟩;simp only at hi H;refine bE (V:=[0,1,3,5,7,9,13,24,25,26,27,43,54,55,56,57,65,66,67,68]) _ _ _ _ ?_;simp only[go_sem]
      (apply aT<;>intro h)<;>simp only[go_sem,h]
      .have F:i<x.ops.length:=gQ h;clear h;obtain⟨y,O⟩:∃a,x.ops[i]?=some a:=⟨_,aX F⟩
       have S:=hx.ops y (bZ O);have w1:=cF i aC;have U:=yI pV O;simp only[go_sem,O,F];(refine aQ λb hb=>?_);simp only[go_sem,O,F,hb];have H:=H.new hb (.cells 73 y.cs);refine aRh y S.hst S.hpr S.hpc r B _ _ _ _ _ H.w S.hl (by simp only[aI,aK,cQ];omega) (λs1 B hW hF=>?_);have H:=H.next hW hF;simp only[go_sem];exact⟨(i+1,s1,B),⟨F,H.eq (by rw[U,bG])⟩,aP,w1,aM _⟩
      .have Z:i=x.ops.length:=by have:¬ i<x.ops.length:=gQ h;omega
       subst Z;rw[List.take_length]at H;simp only[go_sem,H.g];obtain⟨L4,b5⟩:∃L,L=L3++x.ops.map pV:=⟨_,rfl⟩
       have bf:L4.length<=L3.length+x.ops.length:=by rw[b5,aI,aK];omega
       rw[<-b5]at H;clear h
       refine Ex.loop (ι:=Nat × (St × A)) (λk=>[(0,.ptr r 0),(3,.ptr q 0),(65,.list none (x.funs.map Opr.enc)),(66,.int .i64 (x.funs.length:Nat)),(67,.int .i64 (k.1:Nat))])
        (λk=>k.2.1) (λk=>k.1<=x.funs.length/\ItS s r q 28 x.cs k.2.1 k.2.2 (L4++(x.funs.take k.1).map uO)) (λk=>x.funs.length-k.1) (0,(_,B)) ⟨aU _,H.eq bJ⟩ ?_ (aM _) ?_
       ·(simp only[go_sem];try exact rfl)
       .rintro⟨i,s1,B⟩ ⟨hi,H⟩;simp only at hi H;refine bE (V:=[0,1,3,5,7,9,13,24,25,26,27,43,54,55,56,57,65,66,67,68]) _ _ _ _ ?_;simp only[go_sem]
        (apply aT<;>intro h)<;>simp only[go_sem,h]
        .have F:i<x.funs.length:=gQ h;clear h;obtain⟨y,O⟩:∃a,x.funs[i]?=some a:=⟨_,aX F⟩
         have S:=hx.funs y (bZ O);have w1:=cF i aC;have U:=yI uO O;simp only[go_sem,O,F];(refine aQ λb hb=>?_);simp only[go_sem,O,F,hb];have H:=H.new hb (.cells 73 y.cs);have M:(s1.setO b (.cells 73 y.cs)).getO b=some (.cells 73 y.cs):=by rw[aL,aF rfl]
         have t:=H.t0;have w:=H.w.w;have m:=H.g;refine dU [[102,117,110],y.name,[58]] r B _ _ _ _ _ w dO (λs2 v2 z u=>?_);have m:=u.keep w m aE aE;have M:=u.keep w M aE aE;have t:=t.trans u;have w:=z;simp only[go_sem,m,M];refine dU y.args r B _ _ _ _ _ w dO (λs2 v2 z u=>?_);have m:=u.keep w m aE aE;have M:=u.keep w M aE aE;have t:=t.trans u;have w:=z;simp only[go_sem,m,M];refine dU [[45,62],y.sort] r B _ _ _ _ _ w dO (λs2 v2 z u=>?_);have m:=u.keep w m aE aE;have M:=u.keep w M aE aE;have t:=t.trans u;have w:=z;simp only[go_sem,m,M];refine rL r B _ _ _ _ _ _ (H.w.step t w) dO dO (λs1 B hW hF=>?_);have H:=H.next hW ((t.frm H.w.w).trans hF);simp only[go_sem,H.g];exact⟨(i+1,s1,B),⟨F,H.eq (by rw[U,bG];rfl)⟩,aP,w1,aM _⟩
        .have Z:i=x.funs.length:=by have:¬ i<x.funs.length:=gQ h;omega
         subst Z;rw[List.take_length]at H;exact aO (hk _ _ (H.eq (by rw[b5,b0,b3,b2,wJ];simp only[bG];rfl)).w H.f)))
structure EqnOk (e:Eqn):Prop where
 left:TwOk e.left
 right:TwOk e.right
 cond:∀t,t∈e.cond->TwOk t
 bd:10+8 * e.left.cnt+8 * e.right.cnt+8 * dW e.cond<=4294967296
structure CelOk (c:Cel):Prop where
 init:TwOk c.init
 bd:20+8 * c.init.cnt<=4294967296
structure RulOk2 (x:Rul):Prop where
 ok:RulOk x
 bd:10+gF tA x.parts+gF tC x.new+gF (λ_=>4) x.drop+8 * dW x.cond<=4294967296
structure DfnOk (d:Dfn):Prop where
 sig:SigOk d.sig
 eqs:∀e,e∈d.eqs->EqnOk e
 once:∀c,c∈d.once->CelOk c
 many:∀c,c∈d.many->CelOk c
 manyB:20+gF tB d.many<=4294967296
 rules:∀x,x∈d.rules->RulOk2 x
 len:100+d.sig.below.length+d.sig.ops.length+d.sig.funs.length+d.eqs.length+d.once.length+d.rules.length<=4294967296
theorem aQA(c:List Wd)(l:List Tm):(pM c l).length<=c.length+1+8 * dW l:=by
 unfold pM;split
 .omega
 .have:=zN l false (aJ c [105,102]);rw[aBR,iS]at this;omega
theorem aSv(x:Sig):(wJ x).length<=2+x.below.length+x.ops.length+x.funs.length:=by
 have h:=aC9 [115,111,114,116] x.sorts;have h2:=aC9 [118,97,108,117,101] x.values;simp only[wJ,aI,aK];omega
theorem aF2(k y:aD):(mU k y).length<=1:=by unfold mU;split<;>simp
def tF(x:Dfn):Nat->List (List Wd)
 | 0=>[]
 | 1=>mU [115,116,97,114,116] x.start
 | _=>mU [115,116,97,114,116] x.start++mU [119,97,116,99,104] x.watch
theorem aSO(x:Dfn):∀i,(tF x i).length<=2
 | 0=>by simp[tF]
 | 1=>mR (aF2 _ _) aC
 | i+2=>by
  have a:=aF2 [115,116,97,114,116] x.start;have b:=aF2 [119,97,116,99,104] x.watch;simp only[tF,aI];omega
theorem aPM(x:Dfn)(hx:DfnOk x)(r:Nat)(s:St)(KV Kp:St->A->Prop)(hw:WfS s r .nils .nils [] [])
  (hk:∀s' bj,WfS s' r bj .nils (eD x) []->Frm s s'->KV s' (.tuple [])):Den cx 100 [.ptr r 0,.agg x.cs] KV Kp s:=by
 have br:=hx.len;(refine aR func100 [0,1,3,5,7,9,10,12,25,26,27,28,53,54,55,56,70,87,88,89,90,96,100,110,111,112,113] ?_;simp only[go_sem,ntmps100,f100]);(refine aQ λq hq=>?_);have H:ItS s r q 33 x.cs (s.setO q (.cells 33 x.cs)) .nils []:=⟨hw.new hq _,(xG (r:=r) (v:=A.nils) hq _).frm hw.w,by rw[aL,aF rfl],by simp only[mY];decide⟩;simp only[go_sem,hq];clear hw;obtain⟨F,bg⟩:∃v,v=A.nils:=⟨_,rfl⟩
 rw[<-bg]at H;have t:=H.t0;have w:=H.w.w;have u:=H.g;refine dU [[108,97,110,103,117,97,103,101],x.name] r F _ _ _ _ _ w dO (λs2 v2 z m=>?_);have u:=m.keep w u aE aE;have t:=t.trans m;have w:=z;simp only[go_sem,u];refine rL r F _ _ _ _ _ _ (H.w.step t w) dO dO (λs1 F Z U=>?_);have H:=H.next Z ((t.frm H.w.w).trans U);simp only[go_sem,H.g];obtain⟨L0,b9⟩:∃L,L=[aJ (bF [] [[108,97,110,103,117,97,103,101],x.name]) [46]]:=⟨_,rfl⟩
 have bq:L0.length=1:=by rw[b9];rfl
 have H:=H.eq (LS':=L0) (by rw[b9];rfl);refine aPL x.sig hx.sig r F _ _ _ _ H.w aC (λs1 F Z U=>?_);have H:=H.next Z U;simp only[go_sem,H.g];obtain⟨L1,b7⟩:∃L,L=L0++wJ x.sig:=⟨_,rfl⟩
 have bk:L1.length<=3+x.sig.below.length+x.sig.ops.length+x.sig.funs.length:=by rw[b7,aI];have:=aSv x.sig;omega
 rw[<-b7]at H
 refine Ex.loop (ι:=Nat × (St × A)) (λk=>[(0,.ptr r 0),(3,.ptr q 0),(25,.list none (x.eqs.map Eqn.enc)),(26,.int .i64 (x.eqs.length:Nat)),(27,.int .i64 (k.1:Nat))])
  (λk=>k.2.1) (λk=>k.1<=x.eqs.length/\ItS s r q 33 x.cs k.2.1 k.2.2 (L1++(x.eqs.take k.1).map rE)) (λk=>x.eqs.length-k.1) (0,(_,F)) ⟨aU _,H.eq bJ⟩ ?_ (aM _) ?_
 ·(simp only[go_sem];try exact rfl)
 ·rintro ⟨i,s1,F⟩ ⟨hi,H⟩;simp only at hi H;refine bE (V := [0,1,3,5,7,9,10,12,25,26,27,28,53,54,55,56,70,87,88,89,90,96,100,110,111,112,113]) _ _ _ _ ?_;simp only [go_sem]
  (apply aT<;>intro h)<;>simp only[go_sem,h]
  .have M:i<x.eqs.length:=gQ h;clear h;obtain⟨y,hy⟩:∃a,x.eqs[i]?=some a:=⟨_,aX M⟩
   have O:=hx.eqs y (bZ hy);have b5:=O.bd;have S:=cF i aC;have b0:=yI rE hy;simp only[go_sem,hy,M];(refine aQ λb hb=>?_);simp only[go_sem,hy,M,hb];have H:=H.new hb (.cells 80 y.cs);have B:(s1.setO b (.cells 80 y.cs)).getO b=some (.cells 80 y.cs):=by rw[aL,aF rfl]
   have t:=H.t0;have w:=H.w.w;have u:=H.g;refine dU [[108,101,116]] r F _ _ _ _ _ w dO (λs2 v2 z m=>?_);have u:=m.keep w u aE aE;have B:=m.keep w B aE aE;have t:=t.trans m;have w:=z;simp only[go_sem,u,B];refine O.left r F _ _ _ _ _ w dO (λs2 v2 z m=>?_);have u:=m.keep w u aE aE;have B:=m.keep w B aE aE;have t:=t.trans m;have w:=z;simp only[go_sem,u,B];have h1:=aHO z;simp only[fT,aG,aH]at h1;refine dU [[61]] r F _ _ _ _ _ w dO (λs2 v2 z m=>?_);have u:=m.keep w u aE aE;have B:=m.keep w B aE aE;have t:=t.trans m;have w:=z;simp only[go_sem,u,B];refine O.right r F _ _ _ _ _ w dO (λs2 v2 z m=>?_);have u:=m.keep w u aE aE;have B:=m.keep w B aE aE;have t:=t.trans m;have w:=z;simp only[go_sem,u,B];have h2:=aHO z;simp only[fT,aG,aH]at h2;refine aIz y.cond O.cond r F _ _ _ _ _ w dO (λs2 v2 z m=>?_);have u:=m.keep w u aE aE;have B:=m.keep w B aE aE;have t:=t.trans m;have w:=z;simp only[go_sem,u,B];have h3:=aQA (bS (bF (bS (bF [] [[108,101,116]]) y.left) [[61]]) y.right) y.cond;refine rL r F _ _ _ _ _ _ (H.w.step t w) dO dO (λs1 F Z U=>?_);have H:=H.next Z ((t.frm H.w.w).trans U);simp only[go_sem,H.g];exact⟨(i+1,s1,F),⟨M,H.eq (by rw[b0,bG];rfl)⟩,aP,S,aM _⟩
  .have b2:i=x.eqs.length:=by have:¬ i<x.eqs.length:=gQ h;omega
   subst b2;rw[List.take_length]at H;simp only[go_sem,H.g];obtain⟨L2,b6⟩:∃L,L=L1++x.eqs.map rE:=⟨_,rfl⟩
   have bn:L2.length<=L1.length+x.eqs.length:=by rw[b6,aI,aK];omega
   rw[<-b6]at H;clear h
   refine Ex.loop (ι:=Nat × (St × A)) (λk=>[(0,.ptr r 0),(3,.ptr q 0),(53,.list none (x.once.map Cel.enc)),(54,.int .i64 (x.once.length:Nat)),(55,.int .i64 (k.1:Nat))])
    (λk=>k.2.1) (λk=>k.1<=x.once.length/\ItS s r q 33 x.cs k.2.1 k.2.2 (L2++(x.once.take k.1).map (λc=>aJ (gX (aJ [] [99,101,108,108]) c) [46]))) (λk=>x.once.length-k.1) (0,(_,F)) ⟨aU _,H.eq bJ⟩ ?_ (aM _) ?_
   ·(simp only[go_sem];try exact rfl)
   .rintro⟨i,s1,F⟩ ⟨hi,H⟩;simp only at hi H;refine bE (V:=[0,1,3,5,7,9,10,12,25,26,27,28,53,54,55,56,70,87,88,89,90,96,100,110,111,112,113]) _ _ _ _ ?_;simp only[go_sem]
    (apply aT<;>intro h)<;>simp only[go_sem,h]
    .have M:i<x.once.length:=gQ h;clear h;obtain⟨y,hy⟩:∃a,x.once[i]?=some a:=⟨_,aX M⟩
     have O:=hx.once y (bZ hy);have b5:=O.bd;have S:=cF i aC;have b0:=yI (λc=>aJ (gX (aJ [] [99,101,108,108]) c) [46]) hy;simp only[go_sem,hy,M];(refine aQ λb hb=>?_);simp only[go_sem,hy,M,hb];have H:=H.new hb (.cells 68 y.cs);have B:(s1.setO b (.cells 68 y.cs)).getO b=some (.cells 68 y.cs):=by rw[aL,aF rfl]
     have t:=H.t0;have w:=H.w.w;have u:=H.g;refine dU [[99,101,108,108]] r F _ _ _ _ _ w dO (λs2 v2 z m=>?_);have u:=m.keep w u aE aE;have B:=m.keep w B aE aE;have t:=t.trans m;have w:=z;simp only[go_sem,u,B];refine aFO y O.init r F _ _ _ _ _ w dO (λs2 v2 z m=>?_);have u:=m.keep w u aE aE;have B:=m.keep w B aE aE;have t:=t.trans m;have w:=z;simp only[go_sem,u,B];have h3:=aGP y (bF [] [[99,101,108,108]]);simp only[fT,aG,aH,tB]at h3;refine rL r F _ _ _ _ _ _ (H.w.step t w) dO dO (λs1 F Z U=>?_);have H:=H.next Z ((t.frm H.w.w).trans U);simp only[go_sem,H.g];exact⟨(i+1,s1,F),⟨M,H.eq (by rw[b0,bG];rfl)⟩,aP,S,aM _⟩
    .have b2:i=x.once.length:=by have:¬ i<x.once.length:=gQ h;omega
     subst b2;rw[List.take_length]at H;simp only[go_sem,H.g];obtain⟨L3,bb⟩:∃L,L=L2++x.once.map (λc=>aJ (gX (aJ [] [99,101,108,108]) c) [46]):=⟨_,rfl⟩
     have bm:L3.length<=L2.length+x.once.length:=by rw[bb,aI,aK];omega
     rw[<-bb]at H;clear h;obtain⟨L4,b4⟩:∃L,L=L3++(if x.kind=[] then [] else [aJ (aJ (dL gX false (bF [] [[109,97,110,121],x.kind,[40]]) x.many) [41]) [46]]):=⟨_,rfl⟩
     have bp:L4.length<=L3.length+1:=by rw[b4,aI];split<;>simp
     have bt:=hx.manyB;have bf:=yR gX tB aGP x.many false (bF [] [[109,97,110,121],x.kind,[40]]);simp only[fT,aG,aH]at bf;cases p1:decide (x.kind=[])
     all_goals (simp only[go_sem,p1,H.g])
     any_goals (
      have bh:¬ x.kind=[]:=gQ p1;have t:=H.t0;have w:=H.w.w;have u:=H.g;refine dU [[109,97,110,121],x.kind,[40]] r F _ _ _ _ _ w dO (λs2 v2 z m=>?_);have u:=m.keep w u aE aE;have t:=t.trans m;have w:=z;simp only[go_sem,u];refine aOC x.many (λc hc=>(hx.many c hc).init) r F _ _ _ _ _ w dO (λs2 v2 z m=>?_);have u:=m.keep w u aE aE;have t:=t.trans m;have w:=z;simp only[go_sem,u];refine dU [[41]] r F _ _ _ _ _ w dO (λs2 v2 z m=>?_);have u:=m.keep w u aE aE;have t:=t.trans m;have w:=z;simp only[go_sem,u];refine rL r F _ _ _ _ _ _ (H.w.step t w) dO dO (λs1 F Z U=>?_);have H:=H.next Z ((t.frm H.w.w).trans U);simp only[go_sem,H.g];have H:=H.eq (LS':=L4) (by rw[b4,aB bh];rfl)
      skip)
     all_goals (
      first
      | (have H:ItS _ _ _ _ _ _ _ L4:=H)
      | (have H:=H.eq (LS':=L4) (by rw[b4,aF (gQ p1),eH]))
      refine Ex.loop (ι:=Nat × (St × A)) (λk=>[(0,.ptr r 0),(3,.ptr q 0),(87,.list none [.str [115,116,97,114,116],.str [119,97,116,99,104]]),(88,.int .i64 2),(89,.int .i64 (k.1:Nat))])
       (λk=>k.2.1) (λk=>k.1<=2/\ItS s r q 33 x.cs k.2.1 k.2.2 (L4++tF x k.1)) (λk=>2-k.1) (0,(_,F)) ⟨aU _,H.eq (by simp[tF])⟩ ?_ (aM _) ?_
      .simp only[go_sem];exact⟨rfl,rfl⟩
      .rintro⟨i,s1,F⟩ ⟨hi,H⟩;simp only at hi H;have b3:=aSO x i;have S:=cF i aC;refine bE (V:=[0,1,3,5,7,9,10,12,25,26,27,28,53,54,55,56,70,87,88,89,90,96,100,110,111,112,113]) _ _ _ _ ?_;have dA:decide (((0:Nat):Int)<2)=true:=by decide
       have dB:decide (((1:Nat):Int)<2)=true:=by decide
       have dC:decide (((2:Nat):Int)<2)=false:=by decide
       have nW:decide (([115,116,97,114,116]:List UInt8)=[119,97,116,99,104])=false:=by decide
       match i,hi,H,b3,S with
       | 0,hi,H,b3,S =>
        simp only[go_sem,H.g,dA,nW];cases p2:decide (x.start=[])
        .simp only[go_sem,p2];have bc:¬ x.start=[]:=gQ p2;have t:=H.t0;have w:=H.w.w;have u:=H.g;refine dU [[115,116,97,114,116],x.start] r F _ _ _ _ _ w dO (λs2 v2 z m=>?_);have u:=m.keep w u aE aE;have t:=t.trans m;have w:=z;simp only[go_sem,u];refine rL r F _ _ _ _ _ _ (H.w.step t w) dO dO (λs1 F Z U=>?_);have H:=H.next Z ((t.frm H.w.w).trans U);simp only[go_sem,H.g];exact⟨(1,s1,F),⟨by omega,H.eq (by simp only[tF,mU,aB bc,eH];first|done|rfl)⟩,by omega,S,aM _⟩
        .simp only[go_sem,p2];exact⟨(1,s1,F),⟨by omega,H.eq (by simp only[tF,mU,aF (sJ p2)])⟩,by omega,S,aM _⟩
       | 1,hi,H,b3,S =>
        simp only[go_sem,H.g,dB,tR];cases p2:decide (x.watch=[])
        .simp only[go_sem,p2];have bc:¬ x.watch=[]:=gQ p2;have t:=H.t0;have w:=H.w.w;have u:=H.g;refine dU [[119,97,116,99,104],x.watch] r F _ _ _ _ _ w dO (λs2 v2 z m=>?_);have u:=m.keep w u aE aE;have t:=t.trans m;have w:=z;simp only[go_sem,u];refine rL r F _ _ _ _ _ _ (H.w.step t w) dO dO (λs1 F Z U=>?_);have H:=H.next Z ((t.frm H.w.w).trans U);simp only[go_sem,H.g];exact⟨(2,s1,F),⟨by omega,H.eq (by simp only[tF];rw[bG,show mU [119,97,116,99,104] x.watch=_ from aB bc];first|done|rfl)⟩,by omega,S,aM _⟩
        .simp only[go_sem,p2];exact⟨(2,s1,F),⟨by omega,H.eq (by simp only[tF];rw[show mU [119,97,116,99,104] x.watch=_ from aF (sJ p2),eH])⟩,by omega,S,aM _⟩
       | 2,hi,H,b3,S =>
        simp only[go_sem,H.g,dC];clear S hi;obtain⟨L5,b8⟩:∃L,L=L4++tF x 2:=⟨_,rfl⟩
        have bl:L5.length<=L4.length+2:=by rw[b8,aI];omega
        rw[<-b8]at H
        refine Ex.loop (ι:=Nat × (St × A)) (λk=>[(0,.ptr r 0),(3,.ptr q 0),(110,.list none (x.rules.map Rul.enc)),(111,.int .i64 (x.rules.length:Nat)),(112,.int .i64 (k.1:Nat))])
         (λk=>k.2.1) (λk=>k.1<=x.rules.length/\ItS s r q 33 x.cs k.2.1 k.2.2 (L5++(x.rules.take k.1).map mX)) (λk=>x.rules.length-k.1) (0,(s1,F)) ⟨aU _,H.eq bJ⟩ ?_ (aM _) ?_
        ·(simp only[go_sem];try exact rfl)
        .rintro⟨i,s1,F⟩ ⟨hi,H⟩;simp only at hi H;refine bE (V:=[0,1,3,5,7,9,10,12,25,26,27,28,53,54,55,56,70,87,88,89,90,96,100,110,111,112,113]) _ _ _ _ ?_;simp only[go_sem]
         (apply aT<;>intro h)<;>simp only[go_sem,h]
         .have M:i<x.rules.length:=gQ h;clear h;obtain⟨y,hy⟩:∃a,x.rules[i]?=some a:=⟨_,aX M⟩
          have O:=hx.rules y (bZ hy);have b5:=O.bd;have S:=cF i aC;have b0:=yI mX hy;simp only[go_sem,hy,M];(refine aQ λb hb=>?_);simp only[go_sem,hy,M,hb];have H:=H.new hb (.cells 84 y.cs);refine aO6 y O.ok r F .nils _ _ _ _ H.w b5 (by simp only[aI,aK,cQ];omega) (λs1 F Z U=>?_);have H:=H.next Z U;simp only[go_sem];exact⟨(i+1,s1,F),⟨M,H.eq (by rw[b0,bG])⟩,aP,S,aM _⟩
         .have b2:i=x.rules.length:=by have:¬ i<x.rules.length:=gQ h;omega
          subst b2;rw[List.take_length]at H;refine aO (hk _ _ (H.eq ?_).w H.f);rw[b8,b4,bb,b6,b7,b9,eD];simp only[bG,tF])
structure TxS (s0:St) (p:Nat) (s:St) (tk:Option Nat) (acc:aD):Prop where
 b:Bw s 154 p tk acc
 g:s.gel s0 [p] tk.toList
 hp:s0.getO p=none
 ht:∀t,tk=some t->s0.getT t=none
theorem TxS.init{s:St}{p:Nat}(m:s.getO p=none):TxS s p (s.setO p (.cells 154 [.nilp,.nils])) none [] :=
 ⟨⟨by rw[aL,aF rfl];rfl,λt h=>(by cases h),λ_=>rfl⟩,vU m (zE _ _ _),m,λt h=>(by cases h)⟩
theorem TxS.get{y s:St}{p:Nat}{tk:Option Nat}{m:aD}(h:TxS y p s tk m){q:Nat}{o:Ob}(u:y.getO q=some o):s.getO q=some o :=
 h.g.ob q (λe=>by rw[cC.1 e,h.hp]at u;cases u) o u
theorem TxS.new{u s:St}{p:Nat}{tk:Option Nat}{m:aD}(h:TxS u p s tk m){b:Nat}(y:s.getO b=none)(o:Ob):TxS u p (s.setO b o) tk m :=
 ⟨h.b.set y o,vU (by
  cases e:u.getO b with
  | none=>rfl
  | some x=>rw[h.get e]at y;cases y) h.g,h.hp,h.ht⟩
theorem TxS.write{B s:St}{p:Nat}{tk:Option Nat}{y:aD}(h:TxS B p s tk y){u:Nat}(z:tk=some u\/tk=none/\s.getT u=none)(x:aD):TxS B p (wR s 154 p u (y++x)) (some u) (y++x):=by
 refine⟨aVi ..,aCt (bU ..) (aLH (bU ..) ⟨h.g.ob,λt F m H=>h.g.tk t (λe=>?_) m H,h.g.ls⟩),h.hp,λt F=>?_⟩
 .rcases z with rfl|⟨rfl,_⟩
  .exact F e
  .cases e
 .cases F;rcases z with rfl|⟨rfl,z⟩
  .exact h.ht _ rfl
  .cases e:B.getT u with
   | none=>rfl
   | some m=>rw[h.g.tk u bJ m e]at z;cases z
theorem TxS.ge{B s:St}{p u:Nat}{y:aD}(h:TxS B p s (some u) y):(s.delT u).ge B :=
 ⟨fun c x H => h.get H,fun t m z => by
  have F:t≠u:=λe=>by rw[e,h.ht u rfl]at z;cases z
  rw[sN,aB F];exact h.g.tk t (gQ F) m z,h.g.ls⟩
theorem TxS.wr{y s:St}{p:Nat}{tk:Option Nat}{m:aD}(h:TxS y p s tk m)(x:aD)(hl:m.length+x.length<=4294967296)(KV Kp:St->A->Prop)
  (B:∀s' u,TxS y p s' (some u) (m++x)->(∀q o,s.getO q=some o->q≠p->s'.getO q=some o)->KV s' (.tuple [.int .i64 x.length,.nili])):Den cx 102 [.ptr p 0,.str x] KV Kp s :=
 aPO 154 p tk m x s KV Kp (.inl rfl) h.b hl (λu z=>B _ u (h.write z x) (λq o F H=>by rw[aSD,aB (λe=>H e.symm)];exact F))
def iV(h:List (List Wd)):aD:=h.flatMap λl=>kO l++[10]
theorem sT{α β:Type}(f:α->List β){l:List α}{i:Nat}{x:α}(h:l[i]?=some x):(l.take (i+1)).flatMap f=(l.take i).flatMap f++f x:=by
 rw[fD,h,List.flatMap_append];simp
theorem sY{α β:Type}(f:α->List β)(l:List α)(i:Nat):((l.take i).flatMap f).length<=(l.flatMap f).length:=by
 have h:(l.flatMap f).length=((l.take i).flatMap f).length+((l.drop i).flatMap f).length:=by rw[<-aI,<-List.flatMap_append,List.take_append_drop]
 omega
theorem aPY{l:List Wd}{i:Nat}{w:Wd}(h:l[i]?=some w):kO (l.take (i+1))=kO (l.take i)++((if w.2=true then [] else [32])++w.1):=sT _ h
theorem aLh{m:List Wd}{i:Nat}{w:Wd}(h:m[i]?=some w)(J:List A):((gM m++J).drop (i * 2)).take 2=w.cs/\i * 2+2<=(gM m++J).length:=by
 induction m generalizing i with
 | nil=>cases h
 | cons x r y =>
  cases i with
  | zero=>cases h;exact⟨rfl,by simp[gM,Wd.cs]⟩
  | succ i =>
   have:=y (i:=i) h;have u:(i+1) * 2=i * 2+2:=by omega
   rw[u];refine⟨this.1,?_⟩;have h2:=this.2;simp only[gM,kG,Wd.cs,aZ,bA,aG]at h2⊢;omega
theorem aRA(h:List (List Wd)):h.length<=(iV h).length:=by
 induction h with
 | nil=>simp
 | cons x l m=>simp only[iV,kG,aI,aG,aH]at m⊢;omega
theorem aQn(r:Nat)(vi:A)(m:List (List Wd))(s:St)(KV Kp:St->A->Prop)(hw:WfS s r vi .nils m [])(hn:m≠[])(H:∀y,y∈m->y≠[]/\y.length<=4294967296)(hl:(iV m).length<=4294967296)
  (hk:KV s (.str (iV m))):Den cx 57 [.ptr r 0] KV Kp s:=by
 obtain⟨⟨hr,h0,-⟩,hi⟩:=hw;cases hi with
 | nil=>exact cM rfl hn
 | mg b cap _ vs J hb bf hc hJ h1 hv =>
 have b4:=aRA m;(refine aR func57 [0,2,3,5,7,11,12,13,14,17,18,19,20,25] ?_;simp only[go_sem,ntmps57,f57]);(refine aQ λp hp=>?_);have T0:=TxS.init hp;have g0:=T0.get hr;simp only[go_sem,g0]
 refine Ex.loop (ι:=Nat × (St × Option Nat)) (λk=>[(3,.ptr p 0),(11,.mg b m.length cap),(12,.int .i64 (m.length:Nat)),(13,.int .i64 (k.1:Nat))])
  (λk=>k.2.1) (λk=>k.1<=m.length/\TxS s p k.2.1 k.2.2 (iV (m.take k.1))) (λk=>m.length-k.1) (0,(_,none)) ⟨aU _,T0⟩ ?_ (aM _) ?_
 ·(simp only[go_sem];try exact rfl)
 .rintro⟨i,s1,tk⟩ ⟨hi,T⟩;simp only at hi T;refine bE (V:=[0,2,3,5,7,11,12,13,14,17,18,19,20,25]) _ _ _ _ ?_;simp only[go_sem]
  (apply aT<;>intro h)<;>simp only[go_sem,h]
  .have U:i<m.length:=gQ h;clear h;obtain⟨y,S⟩:∃a,m[i]?=some a:=⟨_,aX U⟩
   obtain⟨v,b3⟩:∃a,vs[i]?=some a:=⟨_,aX aC⟩
   obtain⟨b8,-⟩:=hv i v y b3 S;obtain⟨b9,bd⟩:=H y (bZ S);have b0:iV (m.take (i+1))=iV (m.take i)++(kO y++[10]):=sT _ S;have b5:(iV (m.take (i+1))).length<=(iV m).length:=sY _ _ _;have w1:=cF i aC;rw[b0]at b5;simp only[aI,aG,aH]at b5;cases b8 with
   | nil=>exact cM rfl b9
   | mg b2 M _ J2 b6 bk bg bh bj =>
   have bb:(vs++J)[i]?=some (.mg b2 y.length M):=by rw[lC aC];exact b3
   have gb:=T.get hb;simp only[go_sem,gb,bb,U,Nat.mul_one]
   refine Ex.loop (ι:=Nat × (St × Option Nat)) (λk=>[(3,.ptr p 0),(11,.mg b m.length cap),(12,.int .i64 (m.length:Nat)),(13,.int .i64 (i:Nat)),(17,.mg b2 y.length M),(18,.int .i64 (y.length:Nat)),(19,.int .i64 (k.1:Nat))])
    (λk=>k.2.1) (λk=>k.1<=y.length/\TxS s p k.2.1 k.2.2 (iV (m.take i)++kO (y.take k.1))) (λk=>y.length-k.1) (0,(_,tk)) ⟨aU _,by simpa [kO]using T⟩ ?_ (aM _) ?_
   ·(simp only[go_sem];try exact rfl)
   .clear T gb;rintro⟨j,s1,tk⟩ ⟨hj,T⟩;simp only at hj T;refine bE (V:=[0,2,3,5,7,11,12,13,14,17,18,19,20,25]) _ _ _ _ ?_;simp only[go_sem]
    (apply aT<;>intro h)<;>simp only[go_sem,h]
    .have F:j<y.length:=gQ h;clear h;obtain⟨w,hw⟩:∃a,y[j]?=some a:=⟨_,aX F⟩
     obtain⟨e1,e2⟩:=aLh hw J2;have bc:(j * 2+2<=(gM y++J2).length)=True:=eq_true e2;have gb:=T.get b6;have z:=aPY hw;have B:(kO (y.take (j+1))).length<=(kO y).length:=sY _ _ _;have w2:=cF j aC;rw[z]at B;simp only[aI]at B;simp only[go_sem,gb,F,e1,bc,bT];(refine aQ λq hq=>?_);cases hc:w.2 with
     | true =>
      rw[hc]at B z;simp only[bT,bA,aH]at B z;have T:=T.new hq (.cells 156 [.str w.1,.bool true]);simp only[go_sem,hq,Wd.cs,hc];refine T.wr w.1 (by simp only[aI];omega) _ _ (λs2 u T O=>?_);simp only[go_sem];exact⟨(j+1,s2,some u),⟨F,by rw[z,<-bG];exact T⟩,aP,w2,aM _⟩
     | false =>
      rw[hc]at B z;simp only[cE,bR,aG,aH]at B z;have T:=T.new hq (.cells 156 [.str w.1,.bool false]);have gq:(s1.setO q (.cells 156 [.str w.1,.bool false])).getO q=some (.cells 156 [.str w.1,.bool false]):=by rw[aL,aF rfl]
      simp only[go_sem,hq,Wd.cs,hc];refine T.wr [32] (by simp only[aI,aG,aH];omega) _ _ (λs2 u T2 O=>?_);have b7:=O q _ gq (λe=>by have:=T0.b.ob;have h2:=T.b.ob;rw[<-e,gq]at h2;cases h2);simp only[go_sem,b7];refine T2.wr w.1 (by simp only[aI,aG,aH];omega) _ _ (λs3 u T3 _=>?_);simp only[go_sem];exact⟨(j+1,s3,some u),⟨F,by rw[z,<-bG];simpa using T3⟩,aP,w2,aM _⟩
    .have Z:j=y.length:=by have:¬ j<y.length:=gQ h;omega
     subst Z;rw[List.take_length]at T;refine T.wr [10] (by simp only[aI,aG,aH];omega) _ _ (λs2 u T O=>?_);simp only[go_sem];exact⟨(i+1,s2,some u),⟨U,by rw[b0,<-bG];exact T⟩,aP,w1,aM _⟩
  .have Z:i=m.length:=by have:¬ i<m.length:=gQ h;omega
   subst Z;rw[List.take_length]at T;have H:iV m≠[]:=λe=>by rw[e]at b4;exact hn (fW (gQ b4))
   cases tk with
   | none=>exact cM (T.b.nil rfl) H
   | some u =>
    refine aJi 154 p u _ _ _ _ T.b H ?_;simp only[go_sem];exact aS hk T.ge
def kE(h x:aD):Bool:=!decide (h=[])&&(!decide (x=[])&&((match h.getLast? with|some c=>fK c.toNat|none=>false)&&(!decide (h=[95])&&(match x.head? with|some c=>fK c.toNat|none=>false))))
theorem vM(m x:aD)(r:List aD):lF m (x::r)=(if kE m x=true then [32] else [])++(x++lF x r):=by
 rw[lF];by_cases h:kE m x=true
 .rw[aF h,aF];simp only[kE,cT,qD,fR]at h;exact h
 .rw[aB h,aB];simp only[kE,cT,qD,fR]at h;exact h
theorem aF6:∀(l:List aD) (a x:aD),lF a (l++[x])=lF a l++((if kE (l.getLastD a) x=true then [32] else [])++x)
 | [],a,x=>by rw[bA,vM];simp[lF]
 | y::r,a,x=>by rw[aZ,vM,vM,aF6 r y x,List.getLastD_cons];simp
def dN(h:List (List Wd)):List aD:=h.flatMap λl=>l.map (·.1)
def lG(h:List (List Wd)):aD:=lF [] (dN h)
theorem aRl(a b:List aD)(z:aD):(lF z a).length<=(lF z (a++b)).length:=by
 induction a generalizing z with
 | nil=>simp[lF]
 | cons x r h=>rw[aZ,vM,vM];have:=h x;simp only[aI];omega
theorem aLR:∀(l:List aD) (a z:aD),(l.getLastD a).length<=a.length+(lF z l).length
 | [],a,z=>by simp
 | y::r,a,z=>by rw[List.getLastD_cons,vM];have:=aLR r y y;simp only[aI];omega
theorem aO1(r:Nat)(vi:A)(y:List (List Wd))(s:St)(KV Kp:St->A->Prop)(hw:WfS s r vi .nils y [])(hn:lG y≠[])(bv:y.length<=4294967296)(bm:∀B,B∈y->B≠[]/\B.length<=4294967296)(hl:(lG y).length<=4294967296)
  (hk:KV s (.str (lG y))):Den cx 101 [.ptr r 0] KV Kp s:=by
 obtain⟨⟨hr,h0,-⟩,hi⟩:=hw;cases hi with
 | nil=>exact cM rfl hn
 | mg b cap _ vs J hb bz hc hJ h1 hv =>
 (refine aR func101 [0,2,3,4,6,8,12,13,14,15,18,19,20,21,48] ?_;simp only[go_sem,ntmps101,f101]);(refine aQ λp hp=>?_);have T0:=TxS.init hp;have g0:=T0.get hr;simp only[go_sem,g0]
 refine Ex.loop (ι:=Nat × (St × Option Nat)) (λk=>[(3,.ptr p 0),(4,.str ((dN (y.take k.1)).getLastD [])),(12,.mg b y.length cap),(13,.int .i64 (y.length:Nat)),(14,.int .i64 (k.1:Nat))])
  (λk=>k.2.1) (λk=>k.1<=y.length/\TxS s p k.2.1 k.2.2 (lG (y.take k.1))) (λk=>y.length-k.1) (0,(_,none)) ⟨aU _,T0⟩ ?_ (aM _) ?_
 .simp only[go_sem];exact⟨rfl,rfl⟩
 ·rintro ⟨i,s1,tk⟩ ⟨hi,T⟩;simp only at hi T;refine bE (V := [0,2,3,4,6,8,12,13,14,15,18,19,20,21,48]) _ _ _ _ ?_;simp only [go_sem]
  (apply aT<;>intro h)<;>simp only[go_sem,h]
  .have b9:i<y.length:=gQ h;clear h;obtain⟨B,b8⟩:∃a,y[i]?=some a:=⟨_,aX b9⟩
   obtain⟨v,bh⟩:∃a,vs[i]?=some a:=⟨_,aX aC⟩
   obtain⟨bn,-⟩:=hv i v B bh b8;obtain⟨bp,bw⟩:=bm B (bZ b8);have b7:dN (y.take (i+1))=dN (y.take i)++B.map (·.1):=sT _ b8;have w1:=cF i aC;cases bn with
   | nil=>exact cM rfl bp
   | mg b2 b5 _ J2 bl c7 c0 c3 c6 =>
   have br:(vs++J)[i]?=some (.mg b2 B.length b5):=by rw[lC aC];exact bh
   have gb:=T.get hb;simp only[go_sem,gb,br,b9,Nat.mul_one]
   refine Ex.loop (ι:=Nat × (St × Option Nat)) (λk=>[(3,.ptr p 0),(4,.str ((dN (y.take i)++(B.take k.1).map (·.1)).getLastD [])),(12,.mg b y.length cap),(13,.int .i64 (y.length:Nat)),(14,.int .i64 (i:Nat)),(18,.mg b2 B.length b5),(19,.int .i64 (B.length:Nat)),(20,.int .i64 (k.1:Nat))])
    (λk=>k.2.1) (λk=>k.1<=B.length/\TxS s p k.2.1 k.2.2 (lF [] (dN (y.take i)++(B.take k.1).map (·.1)))) (λk=>B.length-k.1) (0,(_,tk)) ⟨aU _,by simpa [lG]using T⟩ ?_ (aM _) ?_
   ·(simp only[go_sem];first|exact rfl|simp)
   .clear T gb;rintro⟨j,s1,tk⟩ ⟨hj,T⟩;simp only at hj T;refine bE (V:=[0,2,3,4,6,8,12,13,14,15,18,19,20,21,48]) _ _ _ _ ?_;simp only[go_sem]
    (apply aT<;>intro h)<;>simp only[go_sem,h]
    .have H:j<B.length:=gQ h;clear h;obtain⟨w,hw⟩:∃a,B[j]?=some a:=⟨_,aX H⟩
     obtain⟨e1,e2⟩:=aLh hw J2;have bt:(j * 2+2<=(gM B++J2).length)=True:=eq_true e2;have gb:=T.get bl;have w2:=cF j aC;have bc:(B.take (j+1)).map (·.1)=(B.take j).map (·.1)++[w.1]:=by rw[fD,hw,cN];rfl
     have m:(lF [] (dN (y.take i)++(B.take (j+1)).map (·.1))).length<=(lG y).length:=by
      have e3:dN y=(dN (y.take i)++(B.take (j+1)).map (·.1))++((B.drop (j+1)).map (·.1)++dN (y.drop (i+1))):=by
       rw[bG,<-bG ((B.take (j+1)).map _),<-cN,List.take_append_drop,<-bG,<-b7];unfold dN;rw[<-List.flatMap_append,List.take_append_drop]
      unfold lG;rw[e3];exact aRl _ _ _
     rw[bc,<-bG,aF6]at m;have bk:((dN (y.take i)++(B.take j).map (·.1))++[w.1]).getLastD []=w.1:=by simp
     have b6:=aF6 (dN (y.take i)++(B.take j).map (·.1)) [] w.1;simp only[aI]at m;simp only[go_sem,gb,H,e1,bt,bT];(refine aQ λq hq=>?_);have T:=T.new hq (.cells 156 [.str w.1,.bool w.2]);have M:(s1.setO q (.cells 156 [.str w.1,.bool w.2])).getO q=some (.cells 156 [.str w.1,.bool w.2]):=by rw[aL,aF rfl]
     simp only[go_sem,hq,Wd.cs];generalize hS:s1.setO q (.cells 156 [.str w.1,.bool w.2])=S at T M;generalize hD:dN (y.take i)++(B.take j).map (·.1)=D at T bk b6 m;have bf:(D.getLastD []).length<=9223372036854775807:=by have h1:=aLR D [] [];have h2:=m;simp only[aH]at h1;omega
     generalize c4:D.getLastD []=la at b6 m bf;have O:q≠p:=λe=>by have h2:=T.b.ob;rw[<-e,M]at h2;cases h2
     have fin:∀s2 u,TxS s p s2 (some u) (lF [] D++((if kE la w.1=true then [32] else [])++w.1))->TxS s p s2 (some u) (lF [] (dN (y.take i)++(B.take (j+1)).map (·.1))):=λs2 u h=>by rw[bc,<-bG,hD,b6];exact h
     have U:(dN (y.take i)++(B.take (j+1)).map (·.1)).getLastD []=w.1:=by rw[bc,<-bG,hD,bk]
     cases q1:decide (la=[])
     .obtain⟨c1,b0⟩:∃c,la.getLast?=some c:=by
       cases h:la.getLast? with
       | none=>rw[List.getLast?_eq_none_iff.1 h]at q1;simp at q1
       | some c=>exact⟨c,rfl⟩
      have bd:la[la.length-1]?=some c1:=by rw[<-List.getLast?_eq_getElem?];exact b0
      have bv:la.length<=9223372036854775807:=bf
      have c5:0<la.length:=by
       cases la with
       | nil=>simp at q1
       | cons _ _=>simp
      have wl:IntKind.i64.wrap ((la.length:Int)-1)=((la.length-1:Nat):Int):=by rw[hU _ aC aC];omega
      simp only[go_sem,M,q1];cases q2:decide (w.1=[])
      .obtain⟨c2,z2,b4⟩:∃c z,w.1=c::z:=by
        cases h:w.1 with
        | nil=>rw[h]at q2;simp at q2
        | cons c z=>exact⟨c,z,rfl⟩
       have b3:w.1.head?=some c2:=by rw[b4];rfl
       have bj:w.1[0]?=some c2:=by rw[b4];rfl
       have bq:0<w.1.length:=by rw[b4];simp
       simp only[go_sem,M,q2,wl,Int.toNat_natCast];refine⟨by omega,?_⟩;simp only[go_sem,bd];refine aBV _ _ _ _ ?_;cases q3:fK c1.toNat
       .simp only[go_sem,q3,M];have hg:kE la w.1=false:=by simp only[kE,q1,q2,q3,b0,fF,gB,fE,fX,fG,fS]
        rw[hg]at m fin;simp only[cE,bR,bA,aH]at m fin;refine T.wr w.1 aC _ _ (λs2 u Z F=>?_);simp only[go_sem,F q _ M O];exact⟨(j+1,s2,some u),⟨H,fin _ _ Z⟩,aP,⟨U.symm,w2⟩,aM _⟩
       .simp only[go_sem,q3];cases q4:decide (la=[95])
        .simp only[go_sem,q4,M];refine⟨bq,?_⟩;simp only[go_sem,bj];refine aBV _ _ _ _ ?_;cases q5:fK c2.toNat
         .simp only[go_sem,q5,M];have hg:kE la w.1=false:=by simp only[kE,q1,q2,q3,q4,q5,b0,b3,fF,gB,fE,fX,fG,fS]
          rw[hg]at m fin;simp only[cE,bR,bA,aH]at m fin;refine T.wr w.1 aC _ _ (λs2 u Z F=>?_);simp only[go_sem,F q _ M O];exact⟨(j+1,s2,some u),⟨H,fin _ _ Z⟩,aP,⟨U.symm,w2⟩,aM _⟩
         .simp only[go_sem,q5,M];have hg:kE la w.1=true:=by simp only[kE,q1,q2,q3,q4,q5,b0,b3,fF,gB,fE,fX,fG,fS]
          rw[hg]at m fin;simp only[bT,aG,aH]at m fin;refine T.wr [32] (by simp only[aG,aH];omega) _ _ (λs2 u Z F=>?_);have bg:=F q _ M O;simp only[go_sem,bg];refine Z.wr w.1 (by simp only[aI,aG,aH];omega) _ _ (λs3 u T3 F=>?_);simp only[go_sem,F q _ bg O];exact⟨(j+1,s3,some u),⟨H,fin _ _ (gQ T3)⟩,aP,⟨U.symm,w2⟩,aM _⟩
        .simp only[go_sem,q4,M];have hg:kE la w.1=false:=by simp only[kE,q1,q2,q3,q4,b0,fF,gB,fE,fX,fG,fS]
         rw[hg]at m fin;simp only[cE,bR,bA,aH]at m fin;refine T.wr w.1 aC _ _ (λs2 u Z F=>?_);simp only[go_sem,F q _ M O];exact⟨(j+1,s2,some u),⟨H,fin _ _ Z⟩,aP,⟨U.symm,w2⟩,aM _⟩
      .simp only[go_sem,M,q2];have hg:kE la w.1=false:=by simp only[kE,q1,q2,fF,gB,fE,fX,fG,fS]
       rw[hg]at m fin;simp only[cE,bR,bA,aH]at m fin;refine T.wr w.1 aC _ _ (λs2 u Z F=>?_);simp only[go_sem,F q _ M O];exact⟨(j+1,s2,some u),⟨H,fin _ _ Z⟩,aP,⟨U.symm,w2⟩,aM _⟩
     .simp only[go_sem,M,q1];have hg:kE la w.1=false:=by simp only[kE,q1,fF,gB,fE,fX,fG,fS]
      rw[hg]at m fin;simp only[cE,bR,bA,aH]at m fin;refine T.wr w.1 aC _ _ (λs2 u Z F=>?_);simp only[go_sem,F q _ M O];exact⟨(j+1,s2,some u),⟨H,fin _ _ Z⟩,aP,⟨U.symm,w2⟩,aM _⟩
    .have bb:j=B.length:=by have:¬ j<B.length:=gQ h;omega
     subst bb;rw[List.take_length,<-b7]at T;rw[List.take_length,<-b7];exact⟨(i+1,s1,tk),⟨b9,T⟩,aP,⟨rfl,w1⟩,aM _⟩
  .have bb:i=y.length:=by have:¬ i<y.length:=gQ h;omega
   subst bb;rw[List.take_length]at T;cases tk with
   | none=>exact cM (T.b.nil rfl) hn
   | some u =>
    refine aJi 154 p u _ _ _ _ T.b hn ?_;simp only[go_sem];exact aS hk T.ge
def jL(e:Eqn):List Tm:=[e.left,e.right]++e.cond
def kD(p:Part):List Tm:=[p.left]++p.right
def iW(r:Rul):List Tm:=r.parts.flatMap kD++(r.cond++r.new.flatMap Fresh.cells)
def lZ(c:Cel):List Tm:=[c.init]
def jK(d:Dfn):List Tm:=d.eqs.flatMap jL++((d.once++d.many).flatMap lZ++d.rules.flatMap iW)
theorem aPn(n:Nat)(F:n<=65536)(s:St)(KV Kp:St->A->Prop)(m:∀tk,(∀t,tk=some t->s.getT t=none)->KV (gs s tk 0 68) (gv tk [])):Den cx 288 [.nils,.int .i64 (n:Nat)] KV Kp s:=by
 have y:decide ((n:Int)<0)=false:=by rw[fR];omega
 have B:IntKind.i64.wrap ((n:Int)-IntKind.i64.wrap (0-0))=(n:Int):=by rw[show IntKind.i64.wrap (0-0)=0 by decide,hU _ aC aC];omega
 (refine aR func288 [0,1,4,6,16] ?_;simp only[go_sem,ntmps288,f288]);simp only[go_sem,y];rw[B];cases n with
 | zero =>
  have d1:decide ((0:Int)<((0:Nat):Int))=false:=by decide
  simp only[go_sem,d1];exact aO (m none (λt h=>by cases h))
 | succ n =>
  have d1:decide ((0:Int)<((n+1:Nat):Int))=true:=by rw[dE];omega
  simp only[go_sem,d1,aAp];refine⟨⟨by omega,by omega,by decide⟩,λt z=>?_⟩;simp only[go_sem];exact aO (m (some t) (λu h=>by cases h;exact z))
def tL(a b:List Cel):Nat->List Cel
 | 0=>[]
 | 1=>a
 | _=>a++b
theorem aOp(a b:List Cel)(B:a.length+b.length<=65536)(s:St)(KV Kp:St->A->Prop)(hk:KV s (.list none ((a++b).map Cel.enc))):Den cx 248 [.list none [.list none (a.map Cel.enc),.list none (b.map Cel.enc)]] KV Kp s:=by
 (refine aR func248 [0,2,3,5,6,8,9,10,11,12,20,25,26,27,28] ?_;simp only[go_sem,ntmps248,f248])
 refine Ex.loop (ι:=Nat) (λk=>[(0,.list none [.list none (a.map Cel.enc),.list none (b.map Cel.enc)]),(3,.int .i64 ((tL a b k).length:Nat)),(9,.list none [.list none (a.map Cel.enc),.list none (b.map Cel.enc)]),(10,.int .i64 2),(11,.int .i64 (k:Nat))])
  (λ_=>s) (λk=>k<=2) (λk=>2-k) 0 (aU _) ?_ (aM _) ?_
 .simp only[go_sem];exact⟨rfl,rfl,rfl⟩
 .intro i z;refine bE (V:=[0,2,3,5,6,8,9,10,11,12,20,25,26,27,28]) _ _ _ _ ?_;have m:=cF i aC
  match i,z,m with
  | 0,z,m =>
   have O:decide (((0:Nat):Int)<2)=true:=by decide
   have Z:decide ((a.length:Int)<0)=false:=by rw[fR];omega
   have w2:IntKind.i64.wrap (((0:Nat):Int)+(a.length:Int))=(a.length:Int):=by rw[hU _ aC aC];omega
   simp only[go_sem,O,w2,Z,tL];exact⟨1,by omega,by omega,⟨rfl,m⟩,aM _⟩
  | 1,z,m =>
   have O:decide (((1:Nat):Int)<2)=true:=by decide
   have w2:IntKind.i64.wrap ((a.length:Int)+(b.length:Int))=(((a++b).length:Nat):Int):=by rw[hU _ aC aC,aI];omega
   have Z:decide ((((a++b).length:Nat):Int)<0)=false:=by rw[fR];omega
   simp only[go_sem,O,w2,Z,tL];exact⟨2,by omega,by omega,⟨rfl,m⟩,aM _⟩
  | 2,z,m =>
   have O:decide (((2:Nat):Int)<2)=false:=by decide
   simp only[go_sem,O,tL];refine aPn _ (by rw[aI];omega) _ _ _ (λtk M=>?_);simp only[go_sem];clear z m
   refine Ex.loop (ι:=Nat × Option Nat) (λk=>[(6,gv k.2 ((tL a b k.1).map Cel.enc)),(25,.list none [.list none (a.map Cel.enc),.list none (b.map Cel.enc)]),(26,.int .i64 2),(27,.int .i64 (k.1:Nat))])
    (λk=>gs s k.2 (tL a b k.1).length 68) (λk=>k.1<=2/\(k.2=none->tL a b k.1=[])/\∀t,k.2=some t->s.getT t=none) (λk=>2-k.1) (0,tk) ⟨aU _,λ_=>rfl,M⟩ ?_ (aM _) ?_
   .simp only[go_sem]
    try exact⟨rfl,rfl,rfl⟩
   .rintro⟨i,tk⟩ ⟨z,B,M⟩;simp only at z B M;refine bE (V:=[0,2,3,5,6,8,9,10,11,12,20,25,26,27,28]) _ _ _ _ ?_;have m:=cF i aC
    match i,z,m,B with
    | 0,z,m,B =>
     have U:decide (((0:Nat):Int)<2)=true:=by decide
     simp only[go_sem,U];refine⟨by decide,λy H=>zS H,eI rfl rfl (by rw[aK];exact iU λe=>rfl) (λy H=>by cases H) (by simp only[aK,tL,aH];omega) (λu S=>?_)⟩;have F:=gI S M;rw[fY S];simp only[go_sem,tL];exact⟨(1,some u),⟨by omega,λh=>(by cases h),λt h=>by cases h;exact F⟩,by omega,⟨rfl,m⟩,by simp only[gs,aK,aH,fH];exact aM _⟩
    | 1,z,m,B =>
     have U:decide (((1:Nat):Int)<2)=true:=by decide
     simp only[go_sem,U];refine⟨by decide,λy H=>zS H,eI rfl rfl (by rw[aK];exact iU λe=>by rw[B e];rfl) (λy H=>zS H) (by simp only[aK,tL];omega) (λu S=>?_)⟩;have F:=gI S M;rw[fY S];simp only[go_sem,tL];exact⟨(2,some u),⟨by omega,λh=>(by cases h),λt h=>by cases h;exact F⟩,by omega,⟨by simp only[gv,cN],m⟩,by simp only[gs,aK,aI];exact aM _⟩
    | 2,z,m,B =>
     simp only[go_sem,O];exact DK.mk hk (lI (aM _) M) (iQ _ _ (λe=>by rw[B e];rfl))
theorem aKO(e:Eqn):(jL e).length=2+e.cond.length:=by simp only[jL,aI,aG,aH]
theorem aLq(p:Part):(kD p).length=1+p.right.length:=by simp only[kD,aI,aG,aH]
theorem tZ(l:List Tm):∀y,y∈l.map Tm.enc->y.cells.length=6:=λy h=>oS h
theorem gvE{tk:Option Nat}{l:List Tm}{s:St}(h:tk=none->l=[]):oF (gs s tk l.length 43) tk (l.map Tm.enc).length 43:=by
 rw[aK];exact iU λe=>by rw[h e];rfl
theorem aOT(x:Dfn)(hB:(jK x).length<=4294967296)(hM:x.once.length+x.many.length<=65536)(s:St)(KV Kp:St->A->Prop)(hk:KV s (.list none ((jK x).map Tm.enc))):Den cx 175 [.agg x.cs] KV Kp s:=by
 refine iO λbn=>?_
 have bl:=bn _ (bU ..);have bv:Rlz (.list none (x.eqs.map Eqn.enc)):=bl.cell (by simp[Dfn.cs]);have bp:Rlz (.list none (x.rules.map Rul.enc)):=bl.cell (by simp[Dfn.cs]);clear bn
 have bg:(x.eqs.flatMap jL).length+(((x.once++x.many).flatMap lZ).length+(x.rules.flatMap iW).length)<=4294967296:=by
  unfold jK at hB;simpa only[aI]using hB
 simp only[go_sem];(refine aR func175 [0,1,2,3,5,7,9,11,13,15,16,17,18,37,38,39,40,50,51,52,53,57,58,59,60,77,78,79,80] ?_;simp only[go_sem,ntmps175,f175]);(refine aQ λp hp=>?_);simp only[go_sem,hp]
 refine Ex.loop (ι:=Nat × Option Nat) (λc=>[(1,.ptr p 0),(3,gv c.2 (((x.eqs.take c.1).flatMap jL).map Tm.enc)),(15,.list none (x.eqs.map Eqn.enc)),(16,.int .i64 x.eqs.length),(17,.int .i64 (c.1:Nat))])
  (λc=>gs (s.setO p (.cells 33 x.cs)) c.2 ((x.eqs.take c.1).flatMap jL).length 43)
  (λc=>sD s ((x.eqs.take c.1).flatMap jL) c.2/\c.1<=x.eqs.length) (λc=>x.eqs.length-c.1) (0,none) ⟨⟨λ_=>rfl,λt e=>(by cases e)⟩,aU _⟩ ?_ (by exact aM _) ?_
 ·(simp only[go_sem,hp];try exact⟨rfl,rfl⟩)
 ·rintro ⟨i,tk⟩ ⟨⟨m,z⟩,hi⟩;simp only at m z hi;refine bE (V := [0,1,2,3,5,7,9,11,13,15,16,17,18,37,38,39,40,50,51,52,53,57,58,59,60,77,78,79,80]) _ _ _ _ ?_;simp only [go_sem,hp]
  (apply aT<;>intro h)<;>simp only[go_sem,h,hp]
  .have F:i<x.eqs.length:=gQ h;clear h;obtain⟨e,he⟩:∃a,x.eqs[i]?=some a:=⟨_,aX F⟩
   have B:=sT jL he;have O:=sY jL x.eqs (i+1);rw[B,aI,aKO]at O;simp only[go_sem,hp,he,F];(refine iK λb5 b8=>?_);simp only[go_sem,hp,he,F,b8];(refine bO (OT.l [0,1,2,3,4,5,7,8,6,9,10] .nil) [(6,[8])] ?_;simp only[go_sem,hp,he,F,b8]);refine⟨by decide,λy U=>?_,eI rfl rfl (gvE m) (tZ _) (by simp only[aK,aG,aH];omega) (λu hu=>?_)⟩
   .simp only[eA,List.mem_nil_iff,eS]at U;rcases U with rfl|rfl<;>rfl
   have S:=gI hu z;rw[fY hu];simp only[go_sem,hp,he,F,b8];refine⟨by decide,tZ _,by simp only[aI,aK,aG,aH],λy U=>?_,by simp only[aI,aK,aG,aH];omega,?_⟩
   .simp only[cZ,eA,List.mem_nil_iff,eS]at U;rcases U with U|rfl|rfl
    .exact oS U
    .rfl
    .rfl
   refine⟨(i+1,some u),⟨⟨λh=>(by cases h),λt h=>by cases h;exact S⟩,F⟩,aP,?_,?_⟩
   .simp only[go_sem,bv.wrap (i:=i) (gQ F),dF,B,cN,jL,bG]
   .have e1:∀(a b:A),(List.map Tm.enc ((x.eqs.take i).flatMap jL)++[a,b]).length+e.cond.length=((x.eqs.take (i+1)).flatMap jL).length:=λa b=>by simp only[B,aI,aKO,aK,aG,aH];omega
    rw[aBX,e1];exact gR (jD (And.intro hp b8))
  .have b4:i=x.eqs.length:=by have:¬ i<x.eqs.length:=gQ h;omega
   subst b4;rw[List.take_length]at m;rw[List.take_length];clear h hi;obtain⟨L0,bk⟩:∃L,L=x.eqs.flatMap jL:=⟨_,rfl⟩
   rw[<-bk]at m bg⊢;refine aOp x.once x.many hM _ _ _ ?_;simp only[go_sem];obtain⟨Z,b6⟩:∃L,L=x.once++x.many:=⟨_,rfl⟩
   have br:Z.length<=65536:=by rw[b6,aI];exact hM
   rw[<-b6]at bg⊢
   refine Ex.loop (ι:=Nat × Option Nat) (λc=>[(1,.ptr p 0),(3,gv c.2 ((L0++(Z.take c.1).flatMap lZ).map Tm.enc)),(37,.list none (Z.map Cel.enc)),(38,.int .i64 (Z.length:Nat)),(39,.int .i64 (c.1:Nat))])
    (λc=>gs (s.setO p (.cells 33 x.cs)) c.2 (L0++(Z.take c.1).flatMap lZ).length 43)
    (λc=>sD s (L0++(Z.take c.1).flatMap lZ) c.2/\c.1<=Z.length) (λc=>Z.length-c.1) (0,tk) ⟨⟨gQ m,z⟩,aU _⟩ ?_ (by simp only[List.take_zero,List.flatMap_nil,eH];exact aM _) ?_
   .simp only[go_sem];simp
   .clear m z tk;rintro⟨i,tk⟩ ⟨⟨m,z⟩,hi⟩;simp only at m z hi;refine bE (V:=[0,1,2,3,5,7,9,11,13,15,16,17,18,37,38,39,40,50,51,52,53,57,58,59,60,77,78,79,80]) _ _ _ _ ?_;simp only[go_sem]
    (apply aT<;>intro h)<;>simp only[go_sem,h]
    .have F:i<Z.length:=gQ h;clear h;obtain⟨o,ho⟩:∃a,Z[i]?=some a:=⟨_,aX F⟩
     have B:=sT lZ ho;have O:=sY lZ Z (i+1);rw[B,aI]at O;simp only[lZ,aG,aH]at O;simp only[go_sem,hp,ho,F];(refine iK λb7 bf=>?_);simp only[go_sem,hp,ho,F,bf];refine⟨by decide,λy U=>by simp only[cC]at U;subst U;rfl,eI rfl rfl (gvE m) (tZ _) (by simp only[aK,aI,aG,aH];omega) (λu hu=>?_)⟩;have S:=gI hu z;rw[fY hu];simp only[go_sem,hp,ho,F,bf];refine⟨(i+1,some u),⟨⟨λh=>(by cases h),λt h=>by cases h;exact S⟩,F⟩,aP,?_,?_⟩
     .simp only[go_sem,cF i aC,dF,B,cN,lZ,bG]
     .rw[show(L0++(Z.take i).flatMap lZ).length+1=(L0++(Z.take (i+1)).flatMap lZ).length by rw[B];simp only[aK,aI,lZ,aG,aH];omega];exact gR (jD (And.intro hp bf))
    .have b4:i=Z.length:=by have:¬ i<Z.length:=gQ h;omega
     subst b4;clear h hi;rw[List.take_length]at m;rw[List.take_length];obtain⟨L1,bb⟩:∃L,L=L0++Z.flatMap lZ:=⟨_,rfl⟩
     have c3:L1.length+(x.rules.flatMap iW).length<=4294967296:=by rw[bb,aI];omega
     rw[<-bb]at m⊢;have bq:jK x=L1++x.rules.flatMap iW:=by rw[jK,<-bk,<-b6,bb,bG]
     rw[bq]at hk;clear bg hB;clear b6 br bb bk L0
     refine Ex.loop (ι:=Nat × Option Nat) (λc=>[(3,gv c.2 ((L1++(x.rules.take c.1).flatMap iW).map Tm.enc)),(50,.list none (x.rules.map Rul.enc)),(51,.int .i64 x.rules.length),(52,.int .i64 (c.1:Nat))])
      (λc=>gs s c.2 (L1++(x.rules.take c.1).flatMap iW).length 43)
      (λc=>sD s (L1++(x.rules.take c.1).flatMap iW) c.2/\c.1<=x.rules.length) (λc=>x.rules.length-c.1) (0,tk) ⟨⟨gQ m,z⟩,aU _⟩ ?_ ?_ ?_
     .simp only[go_sem,hp];simp
     .simp only[List.take_zero,List.flatMap_nil,eH];exact qV (aDj (vU hp (zE _ _ _)))
     .clear m z tk;rintro⟨i,tk⟩ ⟨⟨m,z⟩,hi⟩;simp only at m z hi;refine bE (V:=[0,1,2,3,5,7,9,11,13,15,16,17,18,37,38,39,40,50,51,52,53,57,58,59,60,77,78,79,80]) _ _ _ _ ?_;simp only[go_sem]
      (apply aT<;>intro h)<;>simp only[go_sem,h]
      .have F:i<x.rules.length:=gQ h;clear h;obtain⟨r,hr⟩:∃a,x.rules[i]?=some a:=⟨_,aX F⟩
       have B:=sT iW hr;have O:=sY iW x.rules (i+1);rw[B,aI]at O;simp only[go_sem,hr,F];(refine iK λb9 M=>?_);simp only[go_sem,hr,F,M];have bm:Rlz (.agg r.cs):=bp.agg_elem (cH.2 ⟨r,bZ hr,rfl⟩);have bt:Rlz (.list none (r.parts.map Part.enc)):=bm.cell (by simp[Rul.cs]);have bz:Rlz (.list none (r.new.map Fresh.enc)):=bm.cell (by simp[Rul.cs]);have bw:IntKind.i64.wrap ((i:Int)+1)=((i+1:Nat):Int):=bp.wrap (i:=i) (gQ F);obtain⟨L2,bd⟩:∃L,L=L1++(x.rules.take i).flatMap iW:=⟨_,rfl⟩
       have b0:L1++(x.rules.take (i+1)).flatMap iW=L2++iW r:=by rw[B,bd,bG]
       have bj:L2.length+(iW r).length<=4294967296:=by rw[bd,aI];omega
       rw[<-bd]at m⊢;clear O B
       refine Ex.loop (ι:=Nat × Option Nat) (λc=>[(3,gv c.2 ((L2++(r.parts.take c.1).flatMap kD).map Tm.enc)),(9,.ptr b9 0),(50,.list none (x.rules.map Rul.enc)),(51,.int .i64 x.rules.length),(52,.int .i64 (i:Nat)),(57,.list none (r.parts.map Part.enc)),(58,.int .i64 r.parts.length),(59,.int .i64 (c.1:Nat))])
        (λc=>gs (s.setO b9 (.cells 84 r.cs)) c.2 (L2++(r.parts.take c.1).flatMap kD).length 43)
        (λc=>sD s (L2++(r.parts.take c.1).flatMap kD) c.2/\c.1<=r.parts.length) (λc=>r.parts.length-c.1) (0,tk) ⟨⟨gQ m,z⟩,aU _⟩ ?_ (by simp only[List.take_zero,List.flatMap_nil,eH];exact aM _) ?_
       .simp only[go_sem,M];simp
       .clear m z tk;rintro⟨j,tk⟩ ⟨⟨m,z⟩,hj⟩;simp only at m z hj;refine bE (V:=[0,1,2,3,5,7,9,11,13,15,16,17,18,37,38,39,40,50,51,52,53,57,58,59,60,77,78,79,80]) _ _ _ _ ?_;simp only[go_sem,M]
        (apply aT<;>intro h)<;>simp only[go_sem,h,M]
        .have H:j<r.parts.length:=gQ h;clear h;obtain⟨q,hq⟩:∃a,r.parts[j]?=some a:=⟨_,aX H⟩
         have B:=sT kD hq;have O:=sY kD r.parts (j+1);rw[B,aI,aLq]at O;rw[iW,aI]at bj;simp only[go_sem,M,hq,H];(refine iK λc1 b2=>?_);simp only[go_sem,M,hq,H,b2];(refine bO (OT.l [0,1,2,3,5,6,4,7,8] .nil) [(4,[6])] ?_;simp only[go_sem,M,hq,H,b2]);refine⟨by decide,λy U=>by simp only[cC]at U;subst U;rfl,eI rfl rfl (gvE m) (tZ _) (by simp only[aK,aI,aG,aH];omega) (λu hu=>?_)⟩;have S:=gI hu z;rw[fY hu];simp only[go_sem,M,hq,H,b2];refine⟨by decide,tZ _,by simp only[aI,aK,aG,aH],λy U=>?_,by simp only[aI,aK,aG,aH];omega,?_⟩
         .simp only[cZ,cC]at U;rcases U with U|rfl
          .exact tZ _ _ U
          .rfl
         refine⟨(j+1,some u),⟨⟨λh=>(by cases h),λt h=>by cases h;exact S⟩,H⟩,aP,?_,?_⟩
         .simp only[go_sem,bt.wrap (i:=j) (gQ H),dF,B,cN,kD,bG]
         .have e1:∀(a:A),(List.map Tm.enc (L2++(r.parts.take j).flatMap kD)++[a]).length+q.right.length=(L2++(r.parts.take (j+1)).flatMap kD).length:=λa=>by simp only[B,aI,aLq,aK,aG,aH];omega
          rw[aBX,e1];exact gR (jD (And.intro M b2))
        .have bh:j=r.parts.length:=by have:¬ j<r.parts.length:=gQ h;omega
         subst bh;clear h hj;rw[List.take_length]at m;rw[List.take_length];rw[iW]at b0 bj;simp only[aI]at bj;obtain⟨L3,bc⟩:∃L,L=L2++r.parts.flatMap kD:=⟨_,rfl⟩
         rw[<-bG,<-bc]at b0;have c0:L3.length=L2.length+(r.parts.flatMap kD).length:=by rw[bc,aI]
         rw[<-bc]at m⊢;clear bc;refine⟨by decide,tZ _,eI rfl rfl (gvE m) (tZ _) (by simp only[aK];omega) (λu hu=>?_)⟩;have S:=gI hu z;rw[fY hu];simp only[go_sem,M];clear m z hu tk
         refine Ex.loop (ι:=Nat × Option Nat) (λc=>[(3,gv c.2 ((L3++(r.cond++(r.new.take c.1).flatMap Fresh.cells)).map Tm.enc)),(50,.list none (x.rules.map Rul.enc)),(51,.int .i64 x.rules.length),(52,.int .i64 (i:Nat)),(77,.list none (r.new.map Fresh.enc)),(78,.int .i64 r.new.length),(79,.int .i64 (c.1:Nat))])
          (λc=>gs s c.2 (L3++(r.cond++(r.new.take c.1).flatMap Fresh.cells)).length 43)
          (λc=>sD s (L3++(r.cond++(r.new.take c.1).flatMap Fresh.cells)) c.2/\c.1<=r.new.length) (λc=>r.new.length-c.1) (0,some u) ⟨⟨λh=>(by cases h),λt h=>by cases h;exact S⟩,aU _⟩ ?_ ?_ ?_
         .simp only[go_sem,M,dF,cN];simp
         .show St.ge _ (s.setT u ((L3++(r.cond++(r.new.take 0).flatMap Fresh.cells)).length,43));rw[show(L3++(r.cond++(r.new.take 0).flatMap Fresh.cells)).length=L3.length+r.cond.length by simp];exact gR (jD M)
         .rintro⟨j,tk⟩ ⟨⟨m,z⟩,hj⟩;simp only at m z hj;refine bE (V:=[0,1,2,3,5,7,9,11,13,15,16,17,18,37,38,39,40,50,51,52,53,57,58,59,60,77,78,79,80]) _ _ _ _ ?_;simp only[go_sem]
          (apply aT<;>intro h)<;>simp only[go_sem,h]
          .have H:j<r.new.length:=gQ h;clear h;obtain⟨q,hq⟩:∃a,r.new[j]?=some a:=⟨_,aX H⟩
           have B:=sT Fresh.cells hq;have O:=sY Fresh.cells r.new (j+1);rw[B,aI]at O;simp only[go_sem,hq,H];(refine iK λc2 b3=>?_);simp only[go_sem,hq,H,b3];refine⟨by decide,tZ _,eI rfl rfl (gvE m) (tZ _) (by simp only[aK,aI];omega) (λu hu=>?_)⟩;have S:=gI hu z;rw[fY hu];simp only[go_sem,hq,H,b3];refine⟨(j+1,some u),⟨⟨λh=>(by cases h),λt h=>by cases h;exact S⟩,H⟩,aP,?_,?_⟩
           .simp only[go_sem,bz.wrap (i:=j) (gQ H),dF,B,cN,bG]
           .rw[show(L3++(r.cond++(r.new.take j).flatMap Fresh.cells)).length+q.cells.length=(L3++(r.cond++(r.new.take (j+1)).flatMap Fresh.cells)).length by simp only[B,aI];omega];exact gR (jD b3)
          .have bh:j=r.new.length:=by have:¬ j<r.new.length:=gQ h;omega
           subst bh;clear h hj;rw[List.take_length,<-b0]at m;rw[List.take_length,<-b0];refine⟨(i+1,tk),⟨⟨m,z⟩,F⟩,aP,?_,aM _⟩;simp only[go_sem,bw]
      .have b4:i=x.rules.length:=by have:¬ i<x.rules.length:=gQ h;omega
       subst b4;rw[List.take_length]at m⊢;exact DK.mk hk (lI (aM _) z) (iQ _ _ (λe=>by rw[m e];rfl))
def gE(t:Tm):Bool:=(Tm.val 60 t 0).isSome
theorem aQc(t:Tm)(h:TmW t)(s:St)(KV Kp:St->A->Prop)(u:KV s (.bool (!gE t))):Den cx 176 [.agg t.cs] KV Kp s:=by
 (refine aR func176 [0,1,2] ?_;simp only[go_sem,ntmps176,f176]);(refine aQ λp m=>?_);simp only[go_sem,m];refine aPG t h _ _ _ ?_;simp only[go_sem];exact aS u cD
theorem aPW(l:List Tm)(U:∀t,t∈l->TmW t)(s:St)(KV Kp:St->A->Prop)(O:∀n:Int,decide (0<=n)=!l.all gE->KV s (.int .i64 n)):Den cx 247 [.list none (l.map Tm.enc),.fn 176 [] []] KV Kp s:=by
 refine iO λB=>?_
 have M:=B _ (bU ..);(refine aR func247 [0,1,4,5,7,8,9,16] ?_;simp only[go_sem,ntmps247,f247])
 refine Ex.loop (ι:=Nat) (λi=>[(0,.list none (l.map Tm.enc)),(1,.fn 176 [] []),(7,.int .i64 l.length),(8,.int .i64 (i:Nat))]) (λ_=>s)
  (λi=>i<=l.length/\(l.take i).all gE=true) (λi=>l.length-i) 0 ⟨aU _,rfl⟩ ?_ (aM s) ?_
 ·(simp only[go_sem];try exact rfl)
 .rintro i ⟨Z,F⟩;refine bE (V:=[0,1,4,5,7,8,9,16]) _ _ _ _ ?_;simp only[go_sem]
  (apply aT<;>intro h)<;>simp only[go_sem,h]
  .have m:i<l.length:=gQ h;clear h;obtain⟨x,z⟩:∃a,l[i]?=some a:=⟨_,aX m⟩
   have u:x∈l:=bZ z;simp only[go_sem,z,m];refine aQc x (U x u) _ _ _ ?_;simp only[go_sem];cases y:gE x with
   | false =>
    simp only[go_sem,y];refine aO (O _ ?_)
    have S:l.all gE=false:=by
     rw[List.all_eq_false];exact⟨x,u,by simp[y]⟩
    rw[S];simp
   | true =>
    simp only[go_sem,y];refine⟨i+1,⟨m,?_⟩,by omega,by simp only[go_sem,M.wrap (i:=i) (gQ m)],aM _⟩;rw[fD,z,List.all_append,F];simp[y]
  .have H:i=l.length:=by have:¬ i<l.length:=gQ h;omega
   subst H;rw[List.take_length]at F;refine aO (O _ ?_);rw[F];rfl
theorem aPV(l:List Tm)(h:∀t,t∈l->TmW t)(s:St)(KV Kp:St->A->Prop)(u:KV s (.bool (!l.all gE))):Den cx 174 [.list none (l.map Tm.enc),.fn 176 [] []] KV Kp s:=by
 (refine aR func174 [0,1,4] ?_;simp only[go_sem,ntmps174,f174]);refine aPW l h _ _ _ (λn m=>?_);simp only[go_sem];rw[m];exact aO u
def wF(r:Rul):Bool:=decide (r.parts.length+r.new.length+r.drop.length<=20)&&decide (r.cond.length<=20)
def jP(d:Dfn):Bool :=
 (decide (d.eqs.length<=300)&&decide (d.rules.length<=300))&&(decide (d.once.length<=12)&&decide (d.many.length<=12))&&decide (d.sig.ops.length+d.sig.funs.length<=200)&&d.rules.all wF&&(jK d).all gE
theorem aPx(x:Dfn)(hB:(jK x).length<=4294967296)(hw:∀t,t∈jK x->TmW t)(hS:x.sig.ops.length+x.sig.funs.length<=4294967296)(hR:∀r,r∈x.rules->r.parts.length+r.new.length+r.drop.length<=4294967296)(s:St)(KV Kp:St->A->Prop)(O:KV s (.bool (jP x))):Den cx 99 [.agg x.cs] KV Kp s:=by
 refine iO λM=>?_
 have S:=M _ (bU ..);have Z:Rlz (.list none (x.rules.map Rul.enc)):=S.cell (by simp[Dfn.cs]);clear M;(refine aR func99 [0,1,2,4,34,36,37,38,39,59] ?_;simp only[go_sem,ntmps99,f99]);(refine aQ λp m=>?_);simp only[go_sem,m];have u:∀(b:Bool),b=false->jP x=(b&&jP x)->KV s (.bool false):=λb hb e=>by rw[hb,fE]at e;rw[e]at O;exact O
 (apply aT<;>intro h)<;>simp only[go_sem,h,m]
 .refine aS (u (decide (x.eqs.length<=300)&&decide (x.rules.length<=300)) ?_ ?_) cD
  .rw[dE]at h;rw[Bool.and_eq_false_iff,fR,fR];split at h<;>omega
  .cases F:decide (x.eqs.length<=300)<;>cases h2:decide (x.rules.length<=300)<;>simp[jP,F,h2]
 have F:x.eqs.length<=300/\x.rules.length<=300:=by
  rw[fR]at h;split at h<;>omega
 clear h
 (apply aT<;>intro h)<;>simp only[go_sem,h,m]
 .refine aS (u (decide (x.once.length<=12)&&decide (x.many.length<=12)) ?_ ?_) cD
  .rw[dE]at h;rw[Bool.and_eq_false_iff,fR,fR];split at h<;>omega
  .cases F:decide (x.once.length<=12)<;>cases h2:decide (x.many.length<=12)<;>simp[jP,F,h2]
 have h2:x.once.length<=12/\x.many.length<=12:=by
  rw[fR]at h;split at h<;>omega
 clear h;rw[hU _ aC aC]
 (apply aT<;>intro h)<;>simp only[go_sem,h,m]
 .refine aS (u (decide (x.sig.ops.length+x.sig.funs.length<=200)) ?_ ?_) cD
  .rw[dE]at h;rw[fR];omega
  .cases F:decide (x.sig.ops.length+x.sig.funs.length<=200)<;>simp[jP,F]
 have h3:x.sig.ops.length+x.sig.funs.length<=200:=by
  rw[fR]at h;omega
 clear h
 refine Ex.loop (ι:=Nat) (λc=>[(1,.ptr p 0),(36,.list none (x.rules.map Rul.enc)),(37,.int .i64 x.rules.length),(38,.int .i64 (c:Nat))]) (λ_=>s.setO p (.cells 33 x.cs))
  (λc=>c<=x.rules.length/\(x.rules.take c).all wF=true) (λc=>x.rules.length-c) 0 ⟨aU _,rfl⟩ ?_ (by exact aM _) ?_
 ·(simp only[go_sem,m];first|done|exact rfl|exact⟨rfl,rfl⟩)
 .rintro i ⟨hi,U⟩;refine bE (V:=[0,1,2,4,34,36,37,38,39,59]) _ _ _ _ ?_;simp only[go_sem,m]
  (apply aT<;>intro h)<;>simp only[go_sem,h,m]
  .have y:i<x.rules.length:=gQ h;obtain⟨e,H⟩:∃a,x.rules[i]?=some a:=⟨_,aX y⟩
   clear h;have b2:=hR e (bZ H);have w1:IntKind.i64.wrap ((e.parts.length:Int)+(e.new.length:Int))=(e.parts.length:Int)+(e.new.length:Int):=hU _ aC aC;have w2:IntKind.i64.wrap ((e.parts.length:Int)+(e.new.length:Int)+(e.drop.length:Int))=(e.parts.length:Int)+(e.new.length:Int)+(e.drop.length:Int):=hU _ aC aC
   have B:wF e=false->jP x=(false&&jP x):=λh=>by
    have:x.rules.all wF=false:=by rw[List.all_eq_false];exact⟨e,bZ H,by simp[h]⟩
    simp[jP,this]
   simp only[go_sem,m,H,y];(refine aQ λb5 z=>?_);simp only[go_sem,m,H,y,z,w1,w2]
   (apply aT<;>intro h)<;>simp only[go_sem,h,m,z]
   .refine aS (u false rfl (B ?_)) cD;rw[dE]at h;have:decide (e.parts.length+e.new.length+e.drop.length<=20)=false:=by rw[fR];omega
    rw[wF,this,fE]
   rw[fR]at h;have d1:decide (e.parts.length+e.new.length+e.drop.length<=20)=true:=by rw[dE];omega
   clear h
   (apply aT<;>intro h)<;>simp only[go_sem,h,m,z]
   .refine aS (u false rfl (B ?_)) cD;rw[dE]at h;have:decide (e.cond.length<=20)=false:=by rw[fR];omega
    rw[wF,this,fX]
   rw[fR]at h;have d2:decide (e.cond.length<=20)=true:=by rw[dE];omega
   exact⟨i+1,⟨y,by rw[fD,H,List.all_append,U];simp[wF,d1,d2]⟩,by omega,by simp only[go_sem,Z.wrap (i:=i) (gQ y)],(jD (And.intro m z))⟩
  .have b0:i=x.rules.length:=by have:¬ i<x.rules.length:=gQ h;omega
   subst b0;rw[List.take_length]at U;clear h;refine aOT x hB aC _ _ _ ?_;simp only[go_sem];refine aPV (jK x) hw _ _ _ ?_;simp only[go_sem]
   have hs:jP x=(jK x).all gE:=by
    simp[jP,F,h2,h3,U]
   rw[hs]at O;rw[Bool.not_not];exact aS O cD
theorem aUo(x:aD):lB x=fz (1+(x.count 10:Nat)) (x.length-oP x 10 x.length):=rfl
def rdS(x:Dfn):Bool:=match kC dR true (lG (eD x))with
 | .ok T=>(match lW false (lB (lG (eD x))) T with
  | .ok d _ _=>x.same d
  | .bad _=>false)
 | .bad _=>false
def jQ(x:Dfn):Bool:=jP x&&rdS x
structure DfnB (x:Dfn):Prop where
 tl:(jK x).length<=4294967296
 tw:∀t,t∈jK x->TmW t
 sl:x.sig.ops.length+x.sig.funs.length<=4294967296
 rl:∀r,r∈x.rules->r.parts.length+r.new.length+r.drop.length<=4294967296
 ok:jP x=true->DfnOk x
 sh:jP x=true->(lG (eD x)).length<=4294967280
 dl:jP x=true->(eD x).length<=4294967296
 li:jP x=true->∀ws,ws∈eD x->ws.length<=4294967296
def NoW(s:St):Prop:=∀p o,s.getO p=some o->mY o
theorem NoW.set{s:St}(h:NoW s){o:Ob}(ho:mY o)(p:Nat):NoW (s.setO p o):=λq x m=>by
 rw[aL]at m;split at m
 .cases m;exact ho
 .exact h q x m
theorem rR(c:List Wd)(x:aD):aJ c x≠[]:=by simp[aJ]
theorem aD7(x:Dfn):∀m,m∈eD x->m≠[]:=by
 intro m h;simp only[eD,wJ,nB,mU,cZ,cH,cC]at h;rcases h with rfl|h|h|h|h|h|h|h
 .exact rR _ _
 .rcases h with h|⟨_,_,rfl⟩|h|⟨_,_,rfl⟩|⟨_,_,rfl⟩
  .split at h
   .cases h
   .rw[cC.1 h];exact rR _ _
  .exact rR _ _
  .split at h
   .cases h
   .rw[cC.1 h];exact rR _ _
  .exact rR _ _
  .exact rR _ _
 .obtain⟨_,_,rfl⟩:=h;exact rR _ _
 .obtain⟨_,_,rfl⟩:=h;exact rR _ _
 .split at h
  .cases h
  .rw[cC.1 h];exact rR _ _
 .split at h
  .cases h
  .rw[cC.1 h];exact rR _ _
 .split at h
  .cases h
  .rw[cC.1 h];exact rR _ _
 .obtain⟨_,_,rfl⟩:=h;exact rR _ _
theorem aPU(x:Dfn):lG (eD x)≠[]:=by
 unfold lG dN eD;rw[List.singleton_append,kG];simp[aJ,bF,lF]
theorem aMW:∀(T:List Tok) (l c:Int),∃m,Mv T m/\∀v z,m=v::z->v.line=l/\v.col=c
 | [],l,c=>⟨[],.nil,λv z h=>by cases h⟩
 | t::w,l,c=>by
  obtain⟨w',u,h2⟩:=aMW w l (c+1);exact⟨t.to l c::w',.cons (λv z e _ _ _ _ _=>h2 v z e) u,λv z e=>by cases e;exact⟨rfl,rfl⟩⟩
theorem aSB{T:List Tok}{x:aD}{f:Fault}(h:lW false (lB x) T=.bad f):f.code≠0:=by
 obtain⟨z,u,-⟩:=aMW T 0 0;rw[aUo]at h;rcases aGb (f2:=fz 0 0) u with⟨g,m,e⟩|⟨d,w,n,y,w',e,_⟩
 .rw[e]at h;cases h;exact m
 .rw[e]at h;cases h
theorem WL.ge{s s':St}{v:A}{m:List Wd}(u:s'.ge s)(h:WL s v m):WL s' v m:=h.stp λb _ o ho=>u.ob b o ho
theorem WfS.ge{s s':St}{r:Nat}{B F:A}{y:List (List Wd)}{m:List Wd}(u:s'.ge s)(h:WfS s r B F y m):WfS s' r B F y m:=by
 refine⟨⟨u.ob _ _ h.w.ob,h.w.one,h.w.line.ge u⟩,?_⟩;cases h.i with
 | nil=>exact .nil
 | mg b cap _ vs J Z hl S hJ U H=>exact .mg b cap y vs J (u.ob _ _ Z) hl S hJ U λk v M z O=>⟨(H k v M z O).1.ge u,(H k v M z O).2⟩
theorem Frm.ge{s S s1:St}(m:Frm S s1)(h:S.ge s)(y:NoW s):s1.ge s :=
 ⟨λb o ho=>m.ob b o (h.ob b o ho) (y b o ho),λt n z=>m.tk _ _ (h.tk t n z),λx u=>by rw[m.ls];exact h.ls x u⟩
theorem aIk(x:Dfn)(z:DfnB x)(s:St)(hN:NoW s)(KV Kp:St->A->Prop)
  (hk:∀s' r M,s'.ge s->(jQ x=true->WfS s' r M .nils (eD x) [])->KV s' (.tuple [.ptr r 0,.bool (jQ x)])):Den cx 56 [.agg x.cs] KV Kp s:=by
 (refine aR func56 [0,1,2,3,4,5,6,11,24] ?_;simp only[go_sem,ntmps56,f56]);(refine aQ λp hp=>?_);simp only[go_sem,hp];(refine aQ λr hr=>?_);simp only[go_sem,hp,hr];refine aPx x z.tl z.tw z.sl z.rl _ _ _ ?_;simp only[go_sem];cases hz:jP x with
 | false =>
  have B:jQ x=false:=by rw[jQ,hz,fE]
  simp only[go_sem,hz,hp,hr];have:=hk ((s.setO p (.cells 33 x.cs)).setO r (.cells 149 [.nils,.nils])) r .nils cD (λh=>by rw[B]at h;cases h);rw[B]at this;exact aO this
 | true =>
  simp only[go_sem,hz,hp,hr];have Z:WfS ((s.setO p (.cells 33 x.cs)).setO r (.cells 149 [.nils,.nils])) r .nils .nils [] []:=⟨⟨by rw[aL,aF rfl],rfl,.nil⟩,.nil⟩
  have gp:((s.setO p (.cells 33 x.cs)).setO r (.cells 149 [.nils,.nils])).getO p=some (.cells 33 x.cs):=by
   rw[aL,aB (λe=>hr.1.1 e.symm),aL,aF rfl]
  have F:((s.setO p (.cells 33 x.cs)).setO r (.cells 149 [.nils,.nils])).ge s:=cD;refine aPM x (z.ok hz) r _ _ _ Z (λs1 M hW hF=>?_);have b0:=hF.ob p _ gp (by simp only[mY];decide);have u:s1.ge s:=hF.ge F hN;clear Z gp F hF hp hr;simp only[go_sem];refine aO1 r M (eD x) _ _ _ hW (aPU x) (z.dl hz) (λws h=>⟨aD7 x ws h,z.li hz ws h⟩) (by have:=z.sh hz;omega) ?_;simp only[go_sem];refine aJu _ (z.sh hz) ?_;cases hl:kC dR true (lG (eD x))with
  | bad f =>
   have B:jQ x=false:=by rw[jQ,rdS,hl,fX]
   have H:decide (f.code=0)=false:=by rw[aDK hl];rfl
   simp only;simp only[go_sem];(refine aQ λU m=>?_);simp only[go_sem,m,H]
   have:=hk (s1.setO U (.cells 36 f.cs)) r M (hH (by
    cases e:s.getO U with
    | none=>rfl
    | some o=>rw[u.ob U o e]at m;cases m) u) (λh=>by rw[B]at h;cases h)
   rw[B]at this;exact aO this
  | ok T =>
   simp only;intro q hq;obtain⟨O,hO⟩:∃O,O=bK T (lB (lG (eD x))) (cR gY oT) rZ 0 0:=⟨_,rfl⟩
   rw[<-hO];have b2:decide (Fault.none.code=0)=true:=rfl;simp only[go_sem,Fault.none];(refine aQ λU m=>?_);simp only[go_sem,hq,m];refine aMd (T:=T) (fin:=lB (lG (eD x))) (aHs (z.sh hz) hl) (by rw[aL,aB (λe=>m.1.1 e.symm),aL,aF rfl,hO]) ?_;unfold aEF;cases hd:lW false (lB (lG (eD x))) T with
   | bad f =>
    have B:jQ x=false:=by rw[jQ,rdS,hl];simp only[hd,fX]
    have H:decide (f.code=0)=false:=eQ (aSB hd);simp only;intro o;simp only[go_sem];(refine aQ λb6 y=>?_);simp only[go_sem,m,y,H]
    have b3:∀S:St,S.ge s1->KV S (.tuple [.ptr r 0,.bool false]):=λS hS=>by
     have:=hk S r M (hS.trans u) (λh=>by rw[B]at h;cases h)
     rwa[B]at this
    refine aO (b3 _ ?_);exact bC
   | ok d w n =>
    have B:jQ x=x.same d:=by rw[jQ,hz,rdS,hl];simp only[hd,fG]
    simp only;intro o;simp only[go_sem];(refine aQ λb6 y=>?_);have nf:∀{b:Nat},s1.getO b=none->¬ b=p:=λh e=>by rw[e,b0]at h;cases h
    have n1:=nf hq;have n2:=nf m.2;have n3:=nf (b:=b6) (by first|exact y.2|exact y.2.2|exact y.2.2.2);simp only[go_sem,m,y,b2,b0,n1,n2,n3];refine aC6 x d _ _ _ ?_;simp only[go_sem];have:=hk _ r M (St.ge.trans (bC (s1:=(((((s1.setO q O).setO U (.cells 36 Fault.none.cs)).setO q o).setO b6 (.cells 33 d.cs)).setO U (.cells 36 Fault.none.cs)))) u) (λh=>hW.ge bC);rw[B]at this;exact aO this
theorem aC1(x:Dfn)(m:DfnB x)(s:St)(u:NoW s)(KV Kp:St->A->Prop)(z:KV s (.bool (jQ x))):Den cx 25 [.agg x.cs] KV Kp s:=by
 (refine aR func25 [0,1,2,4] ?_;simp only[go_sem,ntmps25,f25]);(refine aQ λp y=>?_);simp only[go_sem,y];refine aIk x m _ (u.set (by simp only[mY];decide) _) _ _ (λs' r B h _=>?_);simp only[go_sem];exact aS z (h.trans cD)
def aCC(d:Dfn)(a b:aD):Bool:=jQ d&&(aBp a&&aBp b)
def aHQ(a b:aD)(d:Dfn):Dfn:=chD (pD (aBo a b)) d
theorem aSi{a b:aD}(m:a.length<=140737488355328)(u:b.length<=140737488355328):LenS (aBo a b):=λx h=>by
 unfold aBo;split
 .exact u
 split
 .exact m
 .exact h
theorem aIr(d:Dfn)(hd:DfnB d)(Z:DfnC d)(a b:aD)(ha:a.length<=140737488355328)(hb:b.length<=140737488355328)(s:St)(U:NoW s)(KV Kp:St->A->Prop)
  (z:KV s (.tuple [(if aCC d a b=true then aHQ a b d else gY).enc,.int .i64 (if aCC d a b=true then 0 else 2)])):Den cx 27 [.agg d.cs,.str a,.str b] KV Kp s:=by
 have H:A.le (.agg [.str [],.nils,.nils,.nils,.nils,.nils,.nils,.nils,.str [],.nils,.nils,.str [],.str []]) gY.enc:=aEn gY oT (s:=s) aDr;(refine aR func27 [0,1,2,3,4,5,6,7,20] ?_;simp only[go_sem,ntmps27,f27]);(refine aQ λp3 h=>?_);simp only[go_sem,h];(refine aQ λS m=>?_);simp only[go_sem,h,m];(refine aQ λO u=>?_);simp only[go_sem,h,m,u];(refine aQ λp6 y=>?_);simp only[go_sem,h,m,u,y];refine aC1 d hd _ ((((U.set (by simp only[mY];decide) _).set (by simp only[mY];decide) _).set (by simp only[mY];decide) _).set (by simp only[mY];decide) _) _ _ ?_;simp only[go_sem,h,m,u,y];unfold aCC at z;cases F:jQ d
 .rw[F]at z;simp only[go_sem,F,h,m,u,y];simp only[fE,fG,fX,cE,bR]at z;exact DK.mk z bC (A.le.tuple ⟨H,bH _,trivial⟩)
 rw[F]at z;simp only[go_sem,F,h,m,u,y];refine aIs _ _ _ _ ?_;cases h2:aBp a
 .rw[h2]at z;simp only[go_sem,h2,h,m,u,y];simp only[fE,fG,fX,cE,bR]at z;exact DK.mk z bC (A.le.tuple ⟨H,bH _,trivial⟩)
 rw[h2]at z;simp only[go_sem,h2,h,m,u,y];refine aIs _ _ _ _ ?_;cases B:aBp b
 .rw[B]at z;simp only[go_sem,B,h,m,u,y];simp only[fE,fG,fX,cE,bR]at z;exact DK.mk z bC (A.le.tuple ⟨H,bH _,trivial⟩)
 rw[B]at z;simp only[go_sem,B,h,m,u,y];refine aOy (f0:=61) (caps0:=[.ptr S 0,.ptr O 0]) ⟨aRm a b S O,aSi ha hb⟩ d Z _ _ _ ?_ ?_
 .intro p M;simp only[eA,List.mem_nil_iff,eS]at M;rcases M with rfl|rfl
  .exact gH
  .exact gH
 simp only[go_sem,h,m,u,y];simp only[Bool.and_self,bT,aHQ,Dfn.enc,Dfn.cs,Sig.cs,aZ,bA]at z;exact aS z bC
def uL(x:Dfn):aD × Int:=if jQ x=true then(if 20000<(iV (eD x)).length then([],3) else(iV (eD x),0)) else([],2)
theorem aF3(x:Dfn)(z:DfnB x)(hl:jQ x=true->(iV (eD x)).length<=4294967296)(s:St)(F:NoW s)(KV Kp:St->A->Prop)(u:KV s (.tuple [.str (uL x).1,.int .i64 (uL x).2])):Den cx 23 [.agg x.cs] KV Kp s:=by
 unfold uL at u;(refine aR func23 [0,1,2,3,4,5,6,13,18] ?_;simp only[go_sem,ntmps23,f23]);(refine aQ λp H=>?_);simp only[go_sem,H];refine aIk x z _ (F.set (by simp only[mY];decide) _) _ _ (λs' r M y O=>?_);cases m:jQ x with
 | false =>
  rw[m,aB aE]at u;simp only[go_sem,m];exact aS u (y.trans cD)
 | true =>
  have hz:jP x=true:=by
   unfold jQ at m;rw[cT]at m;exact m.1
  rw[m,aF rfl]at u;simp only[go_sem,m];refine aQn r M (eD x) _ _ _ (O m) (by simp[eD]) (λB h=>⟨aD7 x B h,z.li hz B h⟩) (hl m) ?_;simp only[go_sem]
  (apply aT<;>intro h)<;>simp only[go_sem,h]
  .rw[aF (by rw[dE]at h;omega)]at u;exact aS u (y.trans cD)
  .rw[aB (by rw[fR]at h;omega)]at u;exact aS u (y.trans cD)
def kF:Dfn:=⟨[101],⟨[[65]],[],[⟨[97],[],[65],[⟨[97],[]⟩],0,0,[]⟩],[],[]⟩,[],[⟨[99],[65],.mk 6 0 [36] [65,110,121] [] [],1,52⟩],[],[],[],[65],[99]⟩
def awT:Tm:=.mk 5 0 [102] [] [.mk 6 0 [88] [73,110,116] [] [],.mk 7 0 [] [] [.mk 1 (-1) [] [] [] []] [.mk 6 0 [76] [76,105,115,116] [] []]] []
def aNe:aD:=[108,97,110,103,117,97,103,101,32,101,46,10,115,111,114,116,32,65,46,10,111,112,32,97,32,58,32,34,97,34,32,45,62,32,65]++[46,10,99,101,108,108,32,99,32,58,32,65,32,61,32,36,46,10,115,116,97,114,116,32,65,46,10,119,97,116,99,104,32,99,46,10]
def awS:aD:=[108,97,110,103,117,97,103,101,32,101,46,32,115,111,114,116,32,65,46,32,111,112,32,97,32,58,32,34,97,34,32,45,62,32,65]++[46,32,115,116,97,114,116,32,65,46,32,99,101,108,108,32,99,32,58,32,65,32,61,32,36,46,32,119,97,116,99,104,32,99,46]
theorem aV4:sZ awS=(kF,⟨0,[],0,0⟩):=by kernel_rfl
theorem aVV:sZ [108,97,110,103,117,97,103,101,32,101,46,32,115,111,114,116]=(gY,⟨12,[],1,17⟩):=by kernel_rfl
theorem aVQ:sZ [108,97,110,103,117,97,103,101,32,101,46,10,115,111,114,116,32,65,32,66,46]=(gY,⟨11,[66],2,8⟩):=by kernel_rfl
theorem aVN:aBn [102,40,88,58,73,110,116,44,32,91,45,49,32,124,32,76,93,41]=(awT,⟨0,[],0,0⟩):=by kernel_rfl
theorem aVZ:aBn [45,32,53]=(uP,⟨11,[53],1,3⟩):=by kernel_rfl
theorem aVO:sZ [108,97,110,103,117,97,103,101,32,101,46,32,115,116,97,114,116,32,65,46,32,115,116,97,114,116,32,66,46]=(gY,⟨14,[115,116,97,114,116],1,22⟩):=by kernel_rfl
section
structure NmG (x:aD):Prop where
 n:dT x=true
 r:x ∉ iM
structure TmG (t:Tm):Prop where
 g:Gd t
 m:∃m,fM 60 t 0=some m
structure PcG (p:Piece):Prop where
 c:p.sort=[]/\oU p.text=true\/p.text=[]/\NmG p.sort
def lS(l:List Piece):List aD:=(l.filter λp=>!decide (p.sort=[])).map Piece.sort
structure OpG (o:Opr):Prop where
 n:NmG o.name
 s:NmG o.sort
 a:∀x,x∈o.args->NmG x
 an:o.args.length<=8
 p:o.pieces=[]\/(∃q,q∈o.pieces/\q.sort=[])/\o.args=lS o.pieces
 pg:∀q,q∈o.pieces->PcG q
 pn:o.pieces.length<=20
 c:0<=o.prec/\o.prec<=20
 s2:o.assoc=0\/o.assoc=1\/o.assoc=2
 t:∀n,n∈o.strict->1<=n/\n<=8
structure FunG (o:Opr):Prop where
 n:NmG o.name
 s:NmG o.sort
 a:∀x,x∈o.args->NmG x
 an:o.args.length<=8
 z:o.pieces=[]/\o.prec=0/\o.assoc=0/\o.strict=[]
structure TmsG (l:List Tm):Prop where
 n:l.length<=20
 t:∀t,t∈l->TmG t
structure EqG (e:Eqn):Prop where
 l:TmG e.left
 r:TmG e.right
 c:TmsG e.cond
structure CelG (c:Cel):Prop where
 n:NmG c.name
 s:NmG c.sort
 i:TmG c.init
structure PartG (p:Part):Prop where
 c:NmG p.cell
 a:p.at_=[]\/NmG p.at_
 l:TmG p.left
 r:p.right=[]\/∃u,p.right=[u]/\TmG u
structure NewG (f:Fresh):Prop where
 n:f.cells≠[]
 t:∀t,t∈f.cells->TmG t
structure RulP (r:Rul):Prop where
 n:NmG r.name
 p:∀p,p∈r.parts->PartG p
 f:∀f,f∈r.new->NewG f
 d:∀x,x∈r.drop->NmG x
structure RulG (r:Rul):Prop where
 p:RulP r
 c:TmsG r.cond
 l1:1<=r.parts.length+r.new.length+r.drop.length
 l2:r.parts.length+r.new.length+r.drop.length<=20
structure DfnG (d:Dfn):Prop where
 n:NmG d.name
 so:∀x,x∈d.sig.sorts->NmG x
 son:d.sig.sorts.length<=40
 be:∀x,x∈d.sig.below->NmG x.low/\NmG x.high
 ben:d.sig.below.length<=200
 va:∀x,x∈d.sig.values->NmG x
 op:∀x,x∈d.sig.ops->OpG x
 fu:∀x,x∈d.sig.funs->FunG x
 on:d.sig.ops.length+d.sig.funs.length<=200
 eq:∀x,x∈d.eqs->EqG x
 eqn:d.eqs.length<=300
 ce:∀x,x∈d.once->CelG x
 cen:d.once.length<=12
 ma:∀x,x∈d.many->CelG x
 man:d.many.length<=12
 ki:d.kind=[]/\d.many=[]\/NmG d.kind/\d.many≠[]
 ru:∀x,x∈d.rules->RulG x
 run:d.rules.length<=300
 st:d.start=[]\/NmG d.start
 wa:d.watch=[]\/NmG d.watch
def Rd.gr{α:Type}(P:α->Nat->Prop):Rd α->Prop
 | .ok a w n=>P a n/\∀t,t∈w->TokG t
 | .bad _=>True
def Gl{α:Type}(P:α->Nat->Prop)(F:List Tok->Nat->Rd α)(n:Nat):Prop:=∀w,(∀t,t∈w->TokG t)->(F w n).gr P
section
variable {α β:Type} {P:α->Nat->Prop} {Q:β->Nat->Prop}
theorem cU{r:Rd α}{k:α->List Tok->Nat->Rd β}(h:r.gr P)(m:∀a n,P a n->Gl Q (k a) n):(r.bind k).gr Q:=by
 cases r with
 | bad f=>trivial
 | ok a w n=>exact m a n h.1 w h.2
theorem dD(c:Prop) [Decidable c] {r s:Rd α} (h:c->r.gr P) (g:¬ c->s.gr P):(if c then r else s).gr P:=by
 by_cases m:c
 .rw[aF m];exact h m
 .rw[aB m];exact g m
theorem eL{a:α}{w:List Tok}{n:Nat}(h:P a n)(m:∀t,t∈w->TokG t):(Rd.ok a w n).gr P:=⟨h,m⟩
theorem uN{w:List Tok}(m:∀t,t∈w->TokG t):∀t,t∈w.tail->TokG t:=λt h=>m t (List.mem_of_mem_tail h)
theorem rW{t:Tok}{w:List Tok}(h:∀u,u∈t::w->TokG u):∀u,u∈w->TokG u:=λu m=>h u (cP _ m)
end
section
variable {fin:Fault}
theorem aKs{t:Tok}(h:TokG t)(y:t.kind=1):dT t.text=true:=by
 rcases h.is with⟨_,_,c,r,e,m,h2,u⟩|⟨m,_⟩|⟨m,_⟩|⟨m,_⟩
 .rw[e];simp only[dT,cT,dE]at m⊢;refine⟨u,m.2.1,?_⟩;exact h2
 all_goals omega
theorem aCb{t:Tok}(h:TokG t)(m:t.free=true):NmG t.text:=by
 simp only[Tok.free,cT,dE,qD,fR]at m;exact⟨aKs h m.1,m.2⟩
theorem kK(x:aD)(n:Nat):Gl (λ_ m=>m=n) (gP fin x) n:=λw h=>dD _ (λ_=>eL rfl (uN h)) (λ_=>trivial)
theorem lQ(n:Nat):Gl (λx m=>NmG x/\m=n) (eU fin) n:=λw u=>by
 cases w with
 | nil=>trivial
 | cons t w=>exact dD _ (λh=>eL ⟨aCb (u t (bU ..)) h,rfl⟩ (rW u)) (λ_=>trivial)
theorem aJ2(u:Int)(n:Nat):Gl (λx m=>(1<=x/\x<=u)/\m=n) (sR fin u) n:=λw y=>by
 cases w with
 | nil=>trivial
 | cons t w=>exact dD _ (λh=>dD _ (λ_=>trivial) (λh2=>eL ⟨⟨by omega,by omega⟩,rfl⟩ (rW y))) (λ_=>trivial)
theorem aLz(first:Tok)(n:Nat):Gl (λ_ m=>m=n+1/\n+1<=2000) (pO first) n:=λw u=>dD _ (λ_=>trivial) (λh=>eL ⟨rfl,by omega⟩ u)
theorem aDW{σ:Type}{I J:σ->Nat->Prop}(sep:aD){one:σ->List Tok->Nat->Rd σ}(h:∀a n,I a n->Gl J (one a) n)(y:∀a n,J a n->I a n):∀(f:Nat) (a:σ) (n:Nat),I a n->Gl J (dK fin sep one f a) n
 | 0,a,n,_=>λw u=>trivial
 | f+1,a,n,B=>λw u=>cU (h a n B w u) (λb m z w u=>dD _ (λ_=>aDW sep h y f b m (y b m z) _ (uN u)) (λ_=>eL z u))
theorem xI{α:Type}{I J:List α->Nat->Prop}{Q:List α->Nat->α->Nat->Prop}{one:List α->List Tok->Nat->Rd α}(h:∀u n,I u n->Gl (Q u n) (one u) n)(F:∀u n a m,I u n->Q u n a m->J (u++[a]) m)
  (B:∀a n,J a n->I a n){u:List α}{n:Nat}(H:I u n):Gl J (kP fin one u) n:=λw y =>
 aDW [44] (λa n z w y=>cU (h a n z w y) (λb m M w y=>eL (F a n b m z M) y)) B _ u n H w y
theorem vQ{k n:Nat}{a b:Int}{x y:aD}(h:n+1<=2000):fM (k+1) (.mk a b x y [] []) n=some (n+1):=by
 simp only[fM,eM,jZ,h,bT,Option.bind_some,aH]
theorem aGC{k n c m:Nat}{a b:Int}{x y:aD}{z u:List Tm}(h:n+1<=2000)(B:eM (fM k) z (n+1)=some c)(h2:jZ k u.length c=some m):fM (k+1) (.mk a b x y z u) n=some m:=by
 simp only[fM,h,bT,B,Option.bind_some,h2]
structure Kds (k n0:Nat) (l:List Tm) (m:Nat):Prop where
 g:∀t,t∈l->Gd t
 m:eM (fM k) l n0=some m
theorem Kds.nil(k n:Nat):Kds k n [] n:=⟨λt h=>(by cases h),rfl⟩
theorem Kds.snoc{k z m y:Nat}{l:List Tm}{t:Tm}(h:Kds k z l m)(F:Gd t)(B:fM k t m=some y):Kds k z (l++[t]) y:=by
 refine⟨λx u=>?_,by rw[aGj,h.m];exact B⟩;rcases cZ.1 u with u|u
 .exact h.g x u
 .rw[cC.1 u];exact F
theorem aMs(first:Tok)(k:Nat)(S:aD)(n:Nat):Gl (λB m=>wC S B/\jZ k B.length n=some m) (rY fin first (decide (k=0)) S) n:=λw y =>
 dD _ (λ_=>by
  have u:=uN y;cases h:w.tail with
  | nil=>trivial
  | cons t z =>
   rw[h]at u;refine dD _ (λF=>dD _ (λ_=>trivial) (λM=>?_)) (λ_=>trivial);refine cU (aLz first n z (rW u)) (λ_ m O w y=>eL ⟨?_,?_⟩ y)
   .have:=aCb (u t (bU ..)) F;exact .inr ⟨t.text,rfl,this.n,this.r⟩
   .obtain⟨rfl,h2⟩:=O;have H:¬ k=0:=gQ M;simp only[jZ,aG,aH,fH,Nat.succ_ne_zero,bR];rw[aF ⟨by omega,h2⟩]) (λ_=>eL ⟨.inl rfl,by simp[jZ]⟩ y)
theorem aU4(first:Tok){k:Nat}{y:List Tok->Nat->Rd Tm}(B:∀n,Gl (λt m=>Gd t/\fM k t n=some m) y n)(H:∀t w n,t.begins=false->∃f,y (t::w) n=.bad f)(u:List Tm)(n:Nat)(O:u.length<=8) :
  Gl (λt m=>u.length<8/\Gd t/\fM k t n=some m) (oW false fin first y u) n:=λw M=>by
 unfold oW;refine dD _ (λF=>?_) (λF=>?_)
 .cases w with
  | nil=>trivial
  | cons t w =>
   refine dD _ (λ_=>trivial) (λz=>?_);obtain⟨f,e⟩:=H t w n (gQ z);simp only[e];trivial
 .have:=B n w M;cases h:y w n with
  | bad f=>trivial
  | ok a w' m =>
   rw[h]at this;exact⟨⟨by omega,this.1⟩,this.2⟩
theorem aSt(first:Tok){k:Nat}{S:List Tok->Nat->Rd Tm}(U:∀n,Gl (λt m=>Gd t/\fM k t n=some m) S n)(hb:∀t w n,t.begins=false->∃f,S (t::w) n=.bad f)(t:Tok)(ht:TokG t)(h1:t.kind=1)(z:t.begins=true)(n:Nat)(H:n+1<=2000) :
  Gl (λt m=>Gd t/\fM (k+1) t n=some m) (uC false fin first S t) (n+1):=λw u=>by
 refine dD _ (λ_=>eL ⟨.bool 1 (.inr rfl),vQ H⟩ u) (λhA=>dD _ (λ_=>eL ⟨.bool 0 (.inl rfl),vQ H⟩ u) (λhB=>?_))
 have hr:t.text ∉ iM:=by
  unfold Tok.begins at z;rw[aB aC,aF h1]at z;simpa [hA,hB]using z
 have B:NmG t.text:=⟨aKs ht h1,hr⟩;refine dD _ (λ_=>cU (lQ (n+1) _ (uN u)) (λy m F w u=>?_)) (λ_=>cU (kK [40] (n+1) w u) (λ_ m Z w u=>?_))
 .obtain⟨F,rfl⟩:=F;exact eL ⟨.var _ _ B.n B.r F.n F.r,vQ H⟩ u
 .subst Z;refine dD _ (λ_=>eL ⟨.app _ [] B.n B.r (aU _) (λy F=>by cases F),vQ H⟩ (uN u)) (λ_=>?_);refine cU (xI (I:=λl m=>l.length<=8/\Kds k (n+1) l m) (J:=λl m=>l.length<=8/\Kds k (n+1) l m) (λM m O=>aU4 first U hb M m O.1) (λM m t m' O hq=>⟨by simp only[aI,aG,aH];omega,O.2.snoc hq.2.1 hq.2.2⟩) (λ_ _ h=>h) ⟨aU _,Kds.nil k _⟩ w u) (λl m hl w u=>?_);refine cU (kK [41] m w u) (λ_ m' Z w u=>?_);subst Z;exact eL ⟨.app _ l B.n B.r hl.1 hl.2.g,aGC H hl.2.m rfl⟩ u
theorem aUI{k H:Nat}{B:List Tok->Nat->Rd Tm}(y:∀n,Gl (λt m=>Gd t/\fM k t n=some m) B n)(h:List Tm)(n:Nat)(O:Kds k H h n/\h.length % 2=0) :
  Gl (λl m=>Kds k H l m/\l.length % 2=0) (oV fin B h) n:=λw u=>by
 refine cU (y n w u) (λa M F w u=>cU (kK [45,62] M w u) (λ_ S h2 w u=>?_));subst h2;refine cU (y S w u) (λb U z w u=>eL ⟨?_,by simp only[aI,aG,aH];omega⟩ u);have:=(O.1.snoc F.1 F.2).snoc z.1 z.2
 rwa[bG]at this
theorem aRG(first:Tok){k:Nat}{tm:List Tok->Nat->Rd Tm}(M:∀n,Gl (λt m=>Gd t/\fM k t n=some m) tm n)(t:Tok)(ht:TokG t)(h4:t.kind=4)(z:t.begins=true)(n:Nat)(H:n+1<=2000) :
  Gl (λt m=>Gd t/\fM (k+1) t n=some m) (nT fin first tm (decide (k=0)) t) (n+1):=λw y=>by
 refine dD _ (λ_=>?_) (λg1=>dD _ (λ_=>?_) (λg2=>dD _ (λ_=>?_) (λg3=>dD _ (λ_=>?_) (λg4=>?_))))
 .cases w with
  | nil=>trivial
  | cons u w =>
   refine dD _ (λh=>eL ⟨?_,vQ H⟩ (rW y)) (λ_=>trivial);rcases(y u (bU ..)).is with⟨e,_⟩|⟨_,_,h0,h1⟩|⟨e,_⟩|⟨e,_⟩
   .omega
   .exact .int _ aC aC
   .omega
   .omega
 .cases w with
  | nil=>trivial
  | cons u w =>
   refine dD _ (λh=>eL ⟨?_,vQ H⟩ (rW y)) (λ_=>trivial);have:=aCb (y u (bU ..)) h.1;exact .id _ h.2 this.r
 .refine cU (P:=λl m=>Kds k (n+1) l m) (dD _ (λ_=>eL (Kds.nil k _) y) (λ_=>xI (I:=λl m=>Kds k (n+1) l m) (J:=λl m=>Kds k (n+1) l m) (λB m _=>M m) (λB m t O S hq=>S.snoc hq.1 hq.2) (λ_ _ h=>h) (Kds.nil k _) w y)) (λl m hl w y=>?_);refine cU (aMs first k aEs m w y) (λU O F w y=>cU (kK [93] O w y) (λ_ m2 Z w y=>?_));subst Z;exact eL ⟨.list l U hl.g F.1,aGC H hl.m F.2⟩ y
 .refine cU (P:=λl m=>Kds k (n+1) l m/\l.length % 2=0) (dD _ (λ_=>eL ⟨Kds.nil k _,rfl⟩ y) (λ_=>aDW (I:=λl m=>Kds k (n+1) l m/\l.length % 2=0) (J:=λl m=>Kds k (n+1) l m/\l.length % 2=0) [44] (λB m S=>aUI M B m S) (λ_ _ h=>h) _ [] (n+1) ⟨Kds.nil k _,rfl⟩ w y)) (λl m hl w y=>?_);refine cU (aMs first k aED m w y) (λU O F w y=>cU (kK [125] O w y) (λ_ m2 Z w y=>?_));subst Z;exact eL ⟨.map l U hl.2 hl.1.g F.1,aGC H hl.1.m F.2⟩ y
 .refine eL ⟨.opn _ ?_,vQ H⟩ y;unfold Tok.begins at z;rw[aB aC,aB aC]at z;simp only[eA,List.mem_nil_iff,eS,dE]at z;rcases z with h|h|h|h|h|h
  .exact cM h g1
  .exact cM h g2
  .exact .inl h
  .exact cM h g3
  .exact cM h g4
  .exact .inr h
theorem aKu(first:Tok)(k:Nat)(t:Tok)(w:List Tok)(n:Nat)(h:t.begins=false):∃f,fU false fin first k (t::w) n=.bad f:=by
 cases k with
 | zero=>unfold fU;rw[h];exact⟨_,rfl⟩
 | succ k=>unfold fU;rw[h];exact⟨_,rfl⟩
theorem aG9(first:Tok):∀(k n:Nat),Gl (λt m=>Gd t/\fM k t n=some m) (fU false fin first k) n
 | 0,n=>λw u=>by
  cases w with
  | nil=>trivial
  | cons t w=>exact dD _ (λ_=>trivial) (λ_=>trivial)
 | k+1,n=>λw u=>by
  cases w with
  | nil=>trivial
  | cons t w =>
   have y:=u t (bU ..);refine dD _ (λz=>cU (aLz first n w (rW u)) (λ_ m O w u=>?_)) (λ_=>trivial);obtain⟨rfl,B⟩:=O;refine dD _ (λh2=>eL ⟨?_,vQ B⟩ u) (λh2=>dD _ (λM=>eL ⟨?_,vQ B⟩ u) (λM=>dD _ (λF=>?_) (λF=>?_)))
   .rcases y.is with⟨e,_⟩|⟨_,_,S,F⟩|⟨e,_⟩|⟨e,_⟩
    .omega
    .exact .int _ aC aC
    .omega
    .omega
   .rcases y.is with⟨e,_⟩|⟨e,_⟩|⟨_,_,h⟩|⟨e,_⟩
    .omega
    .omega
    .exact .text _ h
    .omega
   .exact aSt first (λn=>aG9 first k n) (λt w n h=>aKu first k t w n h) t y F z n B w u
   .have H:t.kind=4:=by rcases y.is with⟨e,_⟩|⟨e,_⟩|⟨e,_⟩|⟨e,_⟩<;>omega
    exact aRG first (λn=>aG9 first k n) t y H z n B w u
theorem zF(n:Nat):Gl (λt m=>TmG t/\m=n) (gS false fin) n:=λw u=>by
 cases w with
 | nil=>trivial
 | cons t w =>
  have:=aG9 (fin:=fin) t 60 0 (t::w) u;unfold gS;simp only;cases h:fU false fin t 60 (t::w) 0 with
  | bad f=>trivial
  | ok a z m =>
   rw[h]at this;exact⟨⟨⟨this.1.1,m,this.1.2⟩,rfl⟩,this.2⟩
end
end
def bD(c:List Wd):List aD:=c.map (·.1)
def tw(l:List Tok):List aD:=l.map Tok.word
theorem cW(c:List Wd)(x:aD):bD (aJ c x)=bD c++[x]:=by simp[bD,aJ]
theorem eV(l:List aD):∀c:List Wd,bD (bF c l)=bD c++l:=by
 induction l with
 | nil=>intro c;simp[bF]
 | cons x r h=>intro c;show bD (bF (aJ c x) r)=_;rw[h,cW,bG];rfl
theorem aDM(c:List Wd)(l:List aD):bD (lV c l)=bD c++l:=by
 cases l with
 | nil=>simp[lV]
 | cons x r =>
  have:∀(r:List aD) (c:List Wd),bD (r.foldl (λc s=>c++[(s,true)]) c)=bD c++r:=by
   intro r
   induction r with
   | nil=>intro c;simp
   | cons y r h=>intro c;rw[List.foldl_cons,h];simp[bD]
  show bD (r.foldl _ (aJ c x))=_;rw[this,cW,bG];rfl
theorem lU(a b:List Tok):tw (a++b)=tw a++tw b:=by simp[tw]
theorem kV:tw []=[]:=rfl
theorem lY(x:aD)(l:List Tok):tw (aW x::l)=x::tw l:=rfl
theorem mZ(x:aD)(l:List Tok):tw (bL x::l)=x::tw l:=rfl
def tkt(x:aD):Tok:=⟨3,x,0,0,0⟩
def tP(n:Int):Tok:=⟨2,[],n,0,0⟩
theorem aVS(x:aD)(l:List Tok):tw (tkt x::l)=([34]++x++[34])::tw l:=rfl
def tK(t:Tm):List Tok:=bP t.pc
def jN{α:Type}(one:α->List Tok):Bool->List α->List Tok
 | _,[]=>[]
 | b,x::r=>(if b=true then [aW [44]] else [])++(one x++jN one true r)
theorem wY{α:Type}(one:List Wd->α->List Wd)(m:α->List Tok):∀(l:List α) (b:Bool) (c:List Wd),(∀x,x∈l->∀c,bD (one c x)=bD c++tw (m x))->bD (dL one b c l)=bD c++tw (jN m b l)
 | [],b,c,_=>by simp[dL,jN,tw]
 | x::r,b,c,h=>by
  rw[dL,wY one m r true _ (λy u=>h y (cP _ u)),h x (bU ..),jN];cases b
  .simp[tw]
  .simp only[bT,cW,lU,lY,kV,bG]
theorem aNo(b:Bool):∀l:List Tm,bP (eY b l)=jN tK b l:=by
 intro l
 induction l generalizing b with
 | nil=>rfl
 | cons t r h =>
  rw[eY,jN,mF,mF,h];cases b<;>rfl
theorem aKY{S:aD}{m:List Tm}(h:wC S m)(e:Bool)(c:List Wd):bD (jY c m)=bD c++tw (bP (iI e m)):=by
 rcases h with rfl|⟨x,rfl,_,_⟩
 .simp[jY,iI,bP,tw]
 .simp only[jY,eV,Tm.text];cases e<;>rfl
theorem aK7:∀(m:Nat) (l:List Tm) (b:Bool) (c:List Wd),l.length<=m->l.length % 2=0->(∀t,t∈l->∀c,bD (bS c t)=bD c++tw (tK t))->bD (fA b c l)=bD c++tw (bP (fO b l))
 | _,[],b,c,_,_,_=>by simp[fA,fO,bP,tw]
 | _,[_],b,c,_,h,_=>by simp at h
 | 0,x::y::r,b,c,h,_,_=>by simp at h
 | m+1,x::y::r,b,c,u,z,h=>by
  simp only[aG]at u z;rw[fA,aK7 m r true _ aC aC (λt B=>h t (cP _ (cP _ B))),h y (cP _ (bU ..)),cW,h x (bU ..)];cases b
  .simp only[cE,bR,fO,oY,bA,mF,bP,lU,lY,tK,bG,aZ]
  .simp only[bT,cW,fO,oY,mF,bP,lU,lY,kV,tK,bG,aZ,bA]
theorem zJ{t:Tm}(h:Gd t):∀c:List Wd,bD (bS c t)=bD c++tw (tK t):=by
 induction h with
 | int n h1 h2 =>
  intro c;unfold tK;rw[bS,aF rfl,pc1];by_cases F:n<0
  .rw[aF F,aF F,aDM];have e:Lib.itoa n=45::Lib.decDigits n.natAbs:=by unfold Lib.itoa;rw[aF F]
   have e2:Lib.itoa (-n)=Lib.decDigits n.natAbs:=by unfold Lib.itoa;rw[aB aC];congr 1;omega
   rw[e];simp only[bP,lY];show _=bD c++([45]::[Lib.itoa (-n)]);rw[e2];rfl
  .rw[aB F,aB F,cW];rfl
 | bool n h =>
  intro c;unfold tK;rw[bS,aB aE,aF rfl,pc2,cW];rfl
 | text x h =>
  intro c;unfold tK;rw[bS,aB aE,aB aE,aF rfl,pc3,cW];rfl
 | id x h u =>
  intro c;unfold tK;rw[bS,aB aE,aB aE,aB aE,aF rfl,pc4,eV];rfl
 | app x m h u hl H z =>
  intro c;unfold tK;rw[bS,aB aE,aB aE,aB aE,aB aE,aF rfl,pc5,cW,<-aAF,wY bS tK m false _ (λy B=>z y B),eV];simp only[bP,mF,aNo,mZ,lY,lU,kV,bG,aZ,bA]
 | opn x h =>
  intro c;unfold tK;rw[bS,aB aE,aB aE,aB aE,aB aE,aB aE,aF rfl,aF h,xZ,aF h,cW];rfl
 | var x s U u hs Z =>
  intro c;unfold tK;obtain⟨_,_,_,_,_,M,O⟩:=zW U;rw[bS,aB aE,aB aE,aB aE,aB aE,aB aE,aF rfl,aB (by simp[M,O]),xZ,aB (by simp[M,O]),aDM];rfl
 | list m rs H u z =>
  intro c;unfold tK;rw[bS,aB aE,aB aE,aB aE,aB aE,aB aE,aB aE,aF rfl,pc7,cW,aKY u m.isEmpty,<-aAF,wY bS tK m false _ (λy B=>z y B),cW];simp only[bP,mF,aNo,mZ,lY,lU,kV,bG,aZ,bA]
 | map m rs S H u z =>
  intro c;unfold tK;rw[bS,aB aE,aB aE,aB aE,aB aE,aB aE,aB aE,aB aE,aF rfl,pc8,cW,aKY u m.isEmpty,aK7 _ m false _ (aV _) S (λy B=>z y B),cW];simp only[bP,mF,mZ,lY,lU,kV,bG,aZ,bA]
mutual
def A.bulk:A->Nat
 | .str x=>x.length
 | .list _ es=>bI es
 | .agg cs=>cX cs
 | _=>0
def bI:List A->Nat
 | []=>0
 | a::r=>A.bulk a+1+bI r
def cX:List A->Nat
 | []=>0
 | a::r=>A.bulk a+cX r
end
theorem aOz(a:A):cX a.cells=a.bulk:=by
 cases a<;>simp[A.cells,cX,A.bulk]
theorem vK:∀l r:List A,cX (l++r)=cX l+cX r
 | [],r=>by simp[cX]
 | a::l,r=>by simp[cX,vK l r,qE]
theorem aFS:∀l r:List A,bI (l++r)=bI l+bI r
 | [],r=>by simp[bI]
 | a::l,r=>by simp[bI,aFS l r,qE]
theorem aJA:∀l:List A,l.length<=bI l
 | []=>aV _
 | a::l=>by have:=aJA l;simp only[aG,bI];omega
theorem eE{α:Type}(en:α->A)(l:List α):l.length<=bI (l.map en):=by have:=aJA (l.map en);rwa[aK]at this
structure OprI (o:Opr):Prop where
 s:∀n,n∈o.strict->-9223372036854775808<=n/\n<=9223372036854775807
 p:o.prec<=9223372036854775807
theorem aBi(t:Tm):t.enc.bulk=t.text.length+(t.sort.length+(bI (t.kids.map Tm.enc)+bI (t.rest.map Tm.enc))):=by
 rw[dJ];simp only[A.bulk,Tm.cs,cX,Nat.add_zero,fH]
theorem fI{α:Type}(en:α->A):∀{l:List α} {x:α},x∈l->(en x).bulk+1<=bI (l.map en)
 | y::r,x,h=>by
  simp only[bN,bI];rcases List.mem_cons.1 h with rfl|h
  .omega
  .have:=fI en h;omega
theorem aR3{l:List aD}{x:aD}(h:x∈l):x.length+1<=bI (l.map .str):=fI (en:=A.str) h
theorem aRr(N:Nat):(∀t:Tm,SizeOf.sizeOf t<N->t.cnt<=1+t.enc.bulk)/\∀l:List Tm,(∀t,t∈l->SizeOf.sizeOf t<N)->dW l<=bI (l.map Tm.enc):=by
 induction N with
 | zero=>exact⟨λt h=>by omega,λl h=>by
   cases l with
   | nil=>simp[dW]
   | cons t r=>exact cM (h t (bU ..)) aC⟩
 | succ N z =>
  have u:∀t:Tm,SizeOf.sizeOf t<N+1->t.cnt<=1+t.enc.bulk:=λt F=>by
   have B:=z.2 t.kids (λx m=>by have:=aBP m;omega);have h2:=z.2 t.rest (λx m=>by have:=aFG m;omega);have:=aBi t;have:=aB2 t;omega
  refine⟨u,λl h=>?_⟩
  induction l with
  | nil=>simp[dW]
  | cons t r y =>
   have B:=u t (h t (bU ..));have h2:=y (λx m=>h x (cP _ m));simp only[dW,bN,bI];omega
theorem zH(t:Tm):t.cnt<=1+t.enc.bulk:=(aRr _).1 t (iD _)
theorem aEu(l:List Tm):dW l<=bI (l.map Tm.enc):=by
 induction l with
 | nil=>simp[dW]
 | cons t r h=>have:=zH t;simp only[dW,bN,bI];omega
theorem aKV(N:Nat):∀t:Tm,SizeOf.sizeOf t<N->t.enc.bulk<=100000000->TmW t:=by
 induction N with
 | zero=>intro t h;omega
 | succ N u =>
  intro t F H;have e:=aBi t;have k1:=λx (m:x∈t.kids)=>(show TmW x from u x (by have:=aBP m;omega) (by have:=fI Tm.enc m;omega))
  have k2:=λx (m:x∈t.rest)=>(show TmW x from u x (by have:=aFG m;omega) (by have:=fI Tm.enc m;omega))
  have B:=eE Tm.enc t.kids;have z:=eE Tm.enc t.rest;obtain⟨k,n,x,y,a,b⟩:=t;simp only[Tm.text,Tm.sort,Tm.kids,Tm.rest]at e k1 k2 B z;exact .mk k n x y a b aC aC k1 k2 aC aC
theorem aB5(t:Tm)(h:t.enc.bulk<=100000000):TmB t:=⟨aKV _ t (iD _) h,by have:=zH t;omega⟩
theorem aDg(l:List Tm)(m:bI (l.map Tm.enc)<=100000000):TmsB l:=⟨by have:=eE Tm.enc l;omega,λt h=>aB5 t (by have:=fI Tm.enc h;omega)⟩
theorem aDd(l:List aD)(m:bI (l.map .str)<=100000000):StrsB l:=⟨by have:=eE A.str l;omega,λt h=>by have:=aR3 h;omega⟩
theorem aJG(o:Opr)(u:o.enc.bulk<=100000000):OprB o:=by
 simp only[Opr.enc,Opr.cs,A.bulk,cX]at u;have h:=aDd o.args aC;have h2:=eE Piece.enc o.pieces;have y:=eE (.int .i64) o.strict;refine⟨by omega,by omega,h.n,h.s,by omega,λx m=>?_,by omega⟩;have:=fI Piece.enc m;simp only[Piece.enc,Piece.cs,A.bulk,cX]at this;omega
theorem aQ2(x:Sig)(m:cX x.cs<=100000000):SigB x:=by
 simp only[Sig.cs,A.bulk,cX]at m;have u:=eE Below.enc x.below;have h2:=eE Opr.enc x.ops;have z:=eE Opr.enc x.funs;refine⟨aDd _ aC,aDd _ aC,by omega,λy h=>?_,by omega,λy h=>aJG y ?_,by omega,λy h=>aJG y ?_⟩
 .have:=fI Below.enc h;simp only[Below.enc,Below.cs,A.bulk,cX]at this;exact⟨by omega,by omega⟩
 .have:=fI Opr.enc h;omega
 .have:=fI Opr.enc h;omega
theorem aGF(t:Tm):cX t.cs=t.enc.bulk:=by rw[dJ];rfl
theorem vR(e:Eqn):e.enc.bulk=e.left.enc.bulk+(e.right.enc.bulk+bI (e.cond.map Tm.enc)):=by
 simp only[Eqn.enc,Eqn.cs,A.bulk,vK,cX,aGF,Nat.add_zero]
theorem xF(c:Cel):c.enc.bulk=c.name.length+(c.sort.length+c.init.enc.bulk):=by
 simp only[Cel.enc,Cel.cs,A.bulk,vK,cX,aGF,Nat.add_zero]
theorem xA(p:Part):p.enc.bulk=p.cell.length+(p.at_.length+(p.left.enc.bulk+bI (p.right.map Tm.enc))):=by
 simp only[Part.enc,Part.cs,A.bulk,vK,cX,aGF,Nat.add_zero]
theorem yQ(f:Fresh):f.enc.bulk=bI (f.cells.map Tm.enc):=by
 simp only[Fresh.enc,Fresh.cs,A.bulk,cX,Nat.add_zero]
theorem rQ(r:Rul):r.enc.bulk=r.name.length+(bI (r.parts.map Part.enc)+(bI (r.cond.map Tm.enc)+(bI (r.new.map Fresh.enc)+bI (r.drop.map .str)))):=by
 simp only[Rul.enc,Rul.cs,A.bulk,cX,Nat.add_zero]
theorem aQY(r:Rul)(y:r.enc.bulk<=100000000):RulB r:=by
 rw[rQ]at y;have z:=eE Part.enc r.parts;have h2:=eE Fresh.enc r.new;have h:=aDd r.drop aC;refine⟨by omega,by omega,λp u=>?_,aDg _ aC,by omega,λf m=>?_,h.n,h.s⟩
 .have:=fI Part.enc u;rw[xA]at this;exact⟨by omega,by omega,aB5 _ aC,aDg _ aC⟩
 .have:=fI Fresh.enc m;rw[yQ]at this;exact aDg _ aC
theorem tW(d:Dfn):cX d.cs=d.name.length+(cX d.sig.cs+(bI (d.eqs.map Eqn.enc)+(bI (d.once.map Cel.enc)+(d.kind.length+(bI (d.many.map Cel.enc)+(bI (d.rules.map Rul.enc)+(d.start.length+d.watch.length))))))):=by
 simp only[Dfn.cs,A.bulk,vK,cX,Nat.add_zero]
theorem aJY(c:Cel)(h:c.enc.bulk<=100000000):CelB c:=by
 rw[xF]at h;exact⟨by omega,by omega,aB5 _ aC⟩
theorem aQI(d:Dfn)(y:cX d.cs<=100000000):DfnC d:=by
 rw[tW]at y;have z:=eE Eqn.enc d.eqs;have h2:=eE Cel.enc d.once;have F:=eE Cel.enc d.many;have B:=eE Rul.enc d.rules;refine⟨by omega,by omega,by omega,by omega,aQ2 _ aC,by omega,λe m=>?_,by omega,λc h=>aJY c ?_,by omega,λc h=>aJY c ?_,by omega,λr u=>aQY r ?_⟩
 .have:=fI Eqn.enc m;rw[vR]at this;exact⟨aB5 _ aC,aB5 _ aC,aDg _ aC⟩
 .have:=fI Cel.enc h;omega
 .have:=fI Cel.enc h;omega
 .have:=fI Rul.enc u;omega
theorem aDC{f g:Tm->Nat->Option Nat}{P:Tm->Prop}:∀(l:List Tm) (m n:Nat),(∀x a b,x∈l->f x a=some b->P x/\g x a=some b)->eM f l m=some n->(∀x,x∈l->P x)/\eM g l m=some n
 | [],m,n,_,h=>⟨λx u=>(by cases u),h⟩
 | t::r,m,n,y,h=>by
  simp only[eM]at h⊢;cases u:f t m with
  | none=>rw[u]at h;cases h
  | some c =>
   rw[u]at h;obtain⟨F,h2⟩:=y t m c (bU ..) u;obtain⟨B,z⟩:=aDC r c n (λx a b u=>y x a b (cP _ u)) h;refine⟨λx u=>?_,by rw[h2];exact z⟩;rcases List.mem_cons.1 u with rfl|u
   .exact F
   .exact B x u
theorem aGU:∀(m n:Nat),n<10 ^ m->0<m->(Lib.decDigits n).length<=m
 | 0,n,h,z=>by omega
 | m+1,n,h,_=>by
  rw[Lib.decDigits];split
  .simp
  .have u:n / 10<10 ^ m:=by rw[Nat.pow_succ]at h;omega
   have y:0<m:=by
    cases m with
    | zero=>simp at h;omega
    | succ m=>omega
   have:=aGU m (n / 10) u y;simp;omega
def sl:List aD->Nat
 | []=>0
 | x::r=>x.length+1+sl r
theorem dQ:∀a b:List aD,sl (a++b)=sl a+sl b
 | [],b=>by simp[sl]
 | x::a,b=>by rw[aZ,sl,sl,dQ a b];omega
theorem aHu:∀a:List aD,a.length<=sl a
 | []=>aV _
 | x::a=>by have:=aHu a;simp only[aG,sl];omega
theorem aMk{n:Int}(m:Nat)(u:-(10 ^ m:Nat)<n)(h2:n<(10 ^ m:Nat))(h:0<m):(Lib.itoa n).length<=m+1:=by
 unfold Lib.itoa;split
 .have:=aGU m n.natAbs aC h;simp only[aG];omega
 .have:=aGU m n.toNat aC h;omega
theorem yZ{α:Type}(one:List Wd->α->List Wd)(en:α->A)(B:Nat):∀(l:List α) (b:Bool) (c:List Wd),(∀x,x∈l->∀c,sl (bD (one c x))+2<=sl (bD c)+B * ((en x).bulk+1))->sl (bD (dL one b c l))<=sl (bD c)+B * bI (l.map en)
 | [],b,c,_=>by simp[dL,bI]
 | x::r,b,c,h=>by
  have u:=yZ one en B r true (one (if b=true then aJ c [44] else c) x) (λy m=>h y (cP _ m));have h2:=h x (bU ..) (if b=true then aJ c [44] else c)
  have z:sl (bD (if b=true then aJ c [44] else c))<=sl (bD c)+2:=by
   cases b
   .simp
   .simp[cW,dQ,sl]
  rw[dL,bN,bI,Nat.mul_add];omega
theorem aLM:∀(l:List Tm) (c:List Wd),sl (bD (jY c l))<=sl (bD c)+3 * bI (l.map Tm.enc)
 | [],c=>by simp[jY,bI]
 | t::r,c=>by
  have h:=aLM r (bF c [[124],t.text]);have h2:=aBi t;rw[eV,dQ]at h;simp only[sl,aG,aH]at h;simp only[jY,bN,bI];omega
theorem aLA:∀(k:Nat) (t:Tm) (m n:Nat),Tm.val k t m=some n->∀c,sl (bD (bS c t))<=sl (bD c)+(14+17 * t.enc.bulk)
 | 0,_,_,_,h=>by cases h
 | k+1,.mk H F x y B rs,m,n,h=>λc=>by
  unfold Tm.val at h;split at h
  .rename_i h2;split at h
   .rename_i Z
    have hv:∀t,t∈B->∃a b,Tm.val k t a=some b:=by
     cases hl:eM (Tm.val k) B (m+1)with
     | none=>rw[Tm.kids,hl]at h;cases h
     | some c =>
      have:=aDC (P:=λt=>∃a b,Tm.val k t a=some b) (g:=Tm.val k) B (m+1) c (λx a b hx hv=>⟨⟨a,b,hv⟩,hv⟩) hl;exact this.1
    have ih:∀t,t∈B->∀c,sl (bD (bS c t))<=sl (bD c)+(14+17 * t.enc.bulk):=λt S=>by
     obtain⟨a,b,e⟩:=hv t S;exact aLA k t a b e
    have hk:∀c,sl (bD (gW false c B))<=sl (bD c)+17 * bI (B.map Tm.enc):=λc=>by
     rw[<-aAF];exact yZ bS Tm.enc 17 B false c (λt S c=>by have:=ih t S c;omega)
    have e:=aBi (.mk H F x y B rs);simp only[Tm.text,Tm.sort,Tm.kids,Tm.rest]at e;rw[bS];by_cases z:H=1
    .rw[aF z]
     have M:-2147483647<=F/\F<=2147483647:=by
      unfold Tm.shape at Z;rw[aF (show(Tm.mk H F x y B rs).kind=1 from z)]at Z;simp only[aBj,cT,oK,dE]at Z;have h3:((-2147483647<=F/\F<=2147483647)\/(F=0\/F=1)):=Z.1.2;omega
     have hl:=aMk (n:=F) 10 aC aC aE;by_cases hn:F<0
     .rw[aF hn,aDM,dQ];simp only[sl,eC,aG,aH];omega
     .rw[aB hn,cW,dQ];simp only[sl];omega
    rw[aB z];by_cases z:H=2
    .rw[aF z,cW,dQ];split<;>simp only[sl,aG,aH]<;>omega
    rw[aB z];by_cases z:H=3
    .rw[aF z,cW,dQ];simp only[sl,aG,aH,aI];omega
    rw[aB z];by_cases z:H=4
    .rw[aF z,eV,dQ];simp only[sl,aG,aH];omega
    rw[aB z];by_cases z:H=5
    .rw[aF z,cW,dQ];have:=hk (bF c [x,[40]]);rw[eV,dQ]at this;simp only[sl,aG,aH]at this⊢;omega
    rw[aB z];by_cases z:H=6
    .rw[aF z];split
     .rw[cW,dQ];simp only[sl];omega
     .rw[aDM,dQ];simp only[sl,aG,aH];omega
    rw[aB z];have hr:=aLM rs;by_cases z:H=7
    .rw[aF z,cW,dQ];have O:=hk (aJ c [91]);have U:=hr (gW false (aJ c [91]) B);rw[cW,dQ]at O;simp only[sl,aG,aH]at O⊢;omega
    rw[aB z];by_cases z:H=8
    ·rw [aF z,cW,dQ]
     have he:∀(q:Nat) (l:List Tm) (b:Bool) (c:List Wd),l.length<=q->(∀t,t∈l->∀c,sl (bD (bS c t))<=sl (bD c)+(14+17 * t.enc.bulk))->sl (bD (fA b c l))<=sl (bD c)+17 * bI (l.map Tm.enc):=by
      intro q
      induction q with
      | zero =>
       intro l b c hl _;cases l with
       | nil=>simp[fA,bI]
       | cons x l=>simp at hl
      | succ q b0 =>
       intro l b c hl M
       match l,hl,M with
       | [],_,_=>simp[fA,bI]
       | [_],_,_=>simp[fA]
       | u::v::r,hl,M =>
        have O:=M u (bU ..) (if b=true then aJ c [44] else c);have U:=M v (cP _ (bU ..)) (aJ (bS (if b=true then aJ c [44] else c) u) [45,62]);have g3:=b0 r true (bS (aJ (bS (if b=true then aJ c [44] else c) u) [45,62]) v) (by simp only[aG]at hl;omega) (λt S=>M t (cP _ (cP _ S)))
        have g4:sl (bD (if b=true then aJ c [44] else c))<=sl (bD c)+2:=by
         cases b
         .simp
         .simp[cW,dQ,sl]
        rw[cW,dQ]at U;simp only[sl,aG,aH]at U;rw[fA,bN,bN,bI,bI];omega
     have O:=he _ B false (aJ c [123]) (aV _) ih;have U:=hr (fA false (aJ c [123]) B);rw[cW,dQ]at O;simp only[sl,aG,aH]at O⊢;omega
    rw[aB z];omega
   .cases h
  .cases h
theorem zG{t:Tm}(h:gE t=true)(c:List Wd):sl (bD (bS c t))<=sl (bD c)+(14+17 * t.enc.bulk):=by
 unfold gE at h;obtain⟨m,e⟩:=Option.isSome_iff_exists.1 h;exact aLA 60 t 0 m e c
theorem aLw{l:List Tm}(h:∀t,t∈l->gE t=true)(c:List Wd):sl (bD (pM c l))<=sl (bD c)+(3+17 * bI (l.map Tm.enc)):=by
 unfold pM;split
 .omega
 .have:=yZ bS Tm.enc 17 l false (aJ c [105,102]) (λt m c=>by have:=zG (h t m) c;omega);rw[cW,dQ]at this;simp only[sl,aG,aH]at this;omega
theorem aVy{e:Eqn}(h:∀t,t∈jL e->gE t=true):sl (bD (rE e))<=64 * (e.enc.bulk+1):=by
 have m:=zG (h e.left (by simp[jL])) (aJ [] [108,101,116]);have u:=zG (h e.right (by simp[jL])) (aJ (bS (aJ [] [108,101,116]) e.left) [61]);have y:=aLw (l:=e.cond) (λt z=>h t (by simp[jL,z])) (bS (aJ (bS (aJ [] [108,101,116]) e.left) [61]) e.right);rw[vR];unfold rE;rw[cW,dQ]at m u⊢;simp only[sl,bD,dI,aG,aH]at m u y⊢;omega
theorem aMY{x:Cel}(h:gE x.init=true)(c:List Wd):sl (bD (gX c x))+40<=sl (bD c)+64 * (x.enc.bulk+1):=by
 have m:=zG h (bF c [x.name,[58],x.sort,[61]]);rw[xF];unfold gX;rw[eV,dQ]at m;simp only[sl,aG,aH]at m⊢;omega
theorem aTc{x:Cel}(h:gE x.init=true):sl (bD (aJ (gX (aJ [] [99,101,108,108]) x) [46]))<=64 * (x.enc.bulk+1):=by
 have m:=aMY h (aJ [] [99,101,108,108]);rw[cW,dQ]at m⊢;simp only[sl,bD,dI,aG,aH]at m⊢;omega
theorem aLK(l:List aD):sl l<=bI (l.map .str):=by
 induction l with
 | nil=>simp[sl]
 | cons x r h=>simp only[sl,bN,bI,A.bulk];omega
theorem aQU(l:List Piece):sl (l.map mH)<=3 * bI (l.map Piece.enc):=by
 induction l with
 | nil=>simp[sl]
 | cons x r m =>
  have e:(Piece.enc x).bulk=x.text.length+x.sort.length:=by simp only[Piece.enc,Piece.cs,A.bulk,cX,Nat.add_zero]
  simp only[sl,bN,bI]
  have h:(mH x).length<=x.text.length+x.sort.length+2:=by
   unfold mH;split<;>(try simp only[aI,aG,aH])<;>omega
  omega
theorem aCq{n:Int}(h:-9223372036854775808<=n/\n<=9223372036854775807):(Lib.itoa n).length<=20:=aMk 19 aC aC aE
theorem aVB{o:Opr}(h:OprI o):sl (bD (pV o))<=64 * (o.enc.bulk+1):=by
 have e:o.enc.bulk=o.name.length+(bI (o.args.map .str)+(o.sort.length+(bI (o.pieces.map Piece.enc)+bI (o.strict.map (.int .i64))))):=by
  simp only[Opr.enc,Opr.cs,A.bulk,cX,Nat.add_zero,fH]
 have H:=aLK o.args;have M:=aQU o.pieces
 have y:∀c:List Wd,sl (bD (if o.strict=[] then c else aJ (dL (λc n=>aJ c (Lib.itoa n)) false (bF c [[115,116,114,105,99,116],[40]]) o.strict) [41]))<=sl (bD c)+(11+24 * bI (o.strict.map (.int .i64))):=by
  intro c;split
  .omega
  .have:=yZ (λc n=>aJ c (Lib.itoa n)) (A.int .i64) 24 o.strict false (bF c [[115,116,114,105,99,116],[40]]) (λx m c=>by
    have:=aCq (h.s x m);rw[cW,dQ];simp only[sl,A.bulk];omega)
   rw[eV,dQ]at this;rw[cW,dQ];simp only[sl,aG,aH]at this⊢;omega
 have u:∀c:List Wd,sl (bD (if o.assoc=1 then aJ c [108,101,102,116] else if o.assoc=2 then aJ c [114,105,103,104,116] else c))<=sl (bD c)+6:=by
  intro c;split
  .rw[cW,dQ];simp only[sl,aG,aH];omega
  .split
   .rw[cW,dQ];simp only[sl,aG,aH];omega
   .omega
 have z:∀c:List Wd,sl (bD (if 0<o.prec then bF c [[112,114,101,99],Lib.itoa o.prec] else c))<=sl (bD c)+26:=by
  intro c;split
  .rename_i F;have:=aCq (n:=o.prec) ⟨by omega,h.p⟩;rw[eV,dQ];simp only[sl,aG,aH];omega
  .omega
 have B:∀c:List Wd,sl (bD (if o.pieces=[] then bF c o.args else c))<=sl (bD c)+sl o.args:=by
  intro c;split
  .rw[eV,dQ];exact aV _
  .omega
 unfold pV;simp only[];rw[cW,dQ];refine mR (Nat.add_le_add_right (y _) _) ?_;refine mR (Nat.add_le_add_right (Nat.add_le_add_right (u _) _) _) ?_;refine mR (Nat.add_le_add_right (Nat.add_le_add_right (Nat.add_le_add_right (z _) _) _) _) ?_;rw[eV,dQ];refine mR (Nat.add_le_add_right (Nat.add_le_add_right (Nat.add_le_add_right (Nat.add_le_add_right (Nat.add_le_add_right (B _) _) _) _) _) _) ?_;rw[eV,dQ,eV,dQ];simp only[sl,bD,dI,aG,aH];omega
theorem aUv(o:Opr):sl (bD (uO o))<=64 * (o.enc.bulk+1):=by
 have e:o.enc.bulk=o.name.length+(bI (o.args.map .str)+(o.sort.length+(bI (o.pieces.map Piece.enc)+bI (o.strict.map (.int .i64))))):=by
  simp only[Opr.enc,Opr.cs,A.bulk,cX,Nat.add_zero,fH]
 have h:=aLK o.args;unfold uO;rw[cW,dQ,eV,dQ,eV,dQ,eV,dQ];simp only[sl,bD,dI,aG,aH];omega
theorem aHr(n:Nat)(c:List Wd):sl (bD (fB n c))<=sl (bD c)+2:=by
 unfold fB;split
 .rw[cW,dQ];simp only[sl,aG,aH];omega
 .omega
theorem aEb{α:Type}(one:Nat->List Wd->α->List Wd)(en:α->A):∀(l:List α) (n:Nat) (c:List Wd),(∀x,x∈l->∀n c,sl (bD (one n c x))<=sl (bD c)+64 * ((en x).bulk+1))->sl (bD (eZ one n c l))<=sl (bD c)+64 * bI (l.map en)
 | [],n,c,_=>by simp[eZ,bI]
 | x::r,n,c,h=>by
  have u:=aEb one en r (n+1) (one n c x) (λy m=>h y (cP _ m));have h2:=h x (bU ..) n c;rw[eZ,bN,bI];omega
theorem aK5:∀(l:List Tm) (c:List Wd),(∀t,t∈l->gE t=true)->sl (bD (kM c l))<=sl (bD c)+17 * bI (l.map Tm.enc)
 | [],c,_=>by simp[kM,bI]
 | t::r,c,h=>by
  have u:=aK5 r (bS (aJ c [61,62]) t) (λy m=>h y (cP _ m));have h2:=zG (h t (bU ..)) (aJ c [61,62]);rw[cW,dQ]at h2;simp only[sl,aG,aH]at h2;rw[kM,bN,bI];omega
theorem aUc{p:Part}(h:∀t,t∈kD p->gE t=true)(n:Nat)(c:List Wd):sl (bD (jV n c p))<=sl (bD c)+64 * (p.enc.bulk+1):=by
 have B:∀c:List Wd,sl (bD (if p.at_=[] then c else bF c [[64],p.at_]))<=sl (bD c)+(3+p.at_.length):=by
  intro c;split
  .omega
  .rw[eV,dQ];simp only[sl,aG,aH];omega
 have g0:=aHr n c;have m:=B (aJ (fB n c) p.cell);have u:=zG (h p.left (by simp[kD])) (aJ (if p.at_=[] then aJ (fB n c) p.cell else bF (aJ (fB n c) p.cell) [[64],p.at_]) [58]);have y:=aK5 p.right (bS (aJ (if p.at_=[] then aJ (fB n c) p.cell else bF (aJ (fB n c) p.cell) [[64],p.at_]) [58]) p.left) (λt z=>h t (by simp[kD,z]));rw[cW,dQ]at u;generalize F:(if p.at_=[] then aJ (fB n c) p.cell else bF (aJ (fB n c) p.cell) [[64],p.at_])=X at m u y;rw[cW,dQ]at m;rw[xA];unfold jV;simp only[];rw[F];simp only[sl,aG,aH]at m u y⊢;omega
theorem aUH{f:Fresh}(h:∀t,t∈f.cells->gE t=true)(n:Nat)(c:List Wd):sl (bD (kX n c f))<=sl (bD c)+64 * (f.enc.bulk+1):=by
 have g0:=aHr n c;have:=yZ bS Tm.enc 17 f.cells false (bF (fB n c) [[110,101,119],[40]]) (λt m c=>by have:=zG (h t m) c;omega);rw[eV,dQ]at this;rw[yQ];unfold kX;rw[cW,dQ];simp only[sl,aG,aH]at this⊢;omega
theorem aTV(x:aD)(n:Nat)(c:List Wd):sl (bD (kW n c x))<=sl (bD c)+64 * ((A.str x).bulk+1):=by
 have g0:=aHr n c;unfold kW;rw[eV,dQ];simp only[sl,aG,aH,A.bulk];omega
theorem aUG{r:Rul}(h:∀t,t∈iW r->gE t=true):sl (bD (mX r))<=64 * (r.enc.bulk+1):=by
 have z:∀p,p∈r.parts->∀t,t∈kD p->gE t=true:=λp z t u=>h t (by simp only[iW,cZ,List.mem_flatMap];exact .inl ⟨p,z,u⟩)
 have y:∀f,f∈r.new->∀t,t∈f.cells->gE t=true:=λf y t u=>h t (by simp only[iW,cZ,List.mem_flatMap];exact .inr (.inr ⟨f,y,u⟩))
 have M:∀t,t∈r.cond->gE t=true:=λt u=>h t (by simp only[iW,cZ];exact .inr (.inl u))
 unfold mX;simp only[];have B:=aEb jV Part.enc r.parts 0 (bF [] [[114,117,108,101],r.name,[58]]) (λp m n c=>aUc (z p m) n c);generalize eZ jV 0 (bF [] [[114,117,108,101],r.name,[58]]) r.parts=X at B⊢;have H:=aEb kX Fresh.enc r.new r.parts.length X (λp m n c=>aUH (y p m) n c);generalize eZ kX r.parts.length X r.new=Y at H⊢;have F:=aEb kW A.str r.drop (r.parts.length+r.new.length) Y (λp m n c=>aTV p n c);generalize eZ kW (r.parts.length+r.new.length) Y r.drop=Z at F⊢;have O:=aLw M Z;rw[eV,dQ]at B;rw[cW,dQ,rQ];simp only[sl,bD,dI,aG,aH]at B H F O⊢;omega
theorem zO{α:Type}(f:α->List Wd)(en:α->A):∀l:List α,(∀x,x∈l->sl (bD (f x))<=64 * ((en x).bulk+1))->sl (dN (l.map f))<=64 * bI (l.map en)
 | [],_=>by simp[dN,sl]
 | x::r,h=>by
  have u:=zO f en r (λy m=>h y (cP _ m));have h2:=h x (bU ..);have e:dN ((x::r).map f)=bD (f x)++dN (r.map f):=rfl;rw[e,dQ,bN,bI];omega
theorem aLl(k:aD)(l:List aD):sl (dN (nB k l))<=k.length+3+3 * bI (l.map .str):=by
 unfold nB;split
 .simp[dN,sl]
 .have:=yZ aJ A.str 3 l false (aJ [] k) (λx h c=>by
   rw[cW,dQ];simp only[sl,A.bulk];omega)
  have e:∀x:List Wd,dN [x]=bD x:=λx=>by simp[dN,bD]
  rw[cW,dQ]at this;rw[e,cW,dQ];simp only[sl,bD,dI,aG,aH]at this⊢;omega
theorem aLm(k x:aD):sl (dN (mU k x))<=k.length+x.length+4:=by
 unfold mU;split
 .simp[dN,sl]
 .have e:∀x:List Wd,dN [x]=bD x:=λx=>by simp[dN,bD]
  rw[e,cW,dQ,eV,dQ];simp only[sl,bD,dI,aG,aH];omega
theorem aLd{d:Dfn}(h:jP d=true):∀t,t∈jK d->gE t=true:=by
 simp only[jP,cT]at h;exact jF.1 h.2
theorem aUC{d:Dfn}(h:jP d=true)(S:∀o,o∈d.sig.ops->OprI o):sl (dN (eD d))<=128+64 * cX d.cs:=by
 have B:=aLd h;have y:∀e,e∈d.eqs->∀t,t∈jL e->gE t=true:=λe y t F=>B t (by simp only[jK,cZ,List.mem_flatMap];exact .inl ⟨e,y,F⟩)
 have u:∀c,c∈d.once\/c∈d.many->gE c.init=true:=λc u=>B _ (by simp only[jK,cZ,List.mem_flatMap];exact .inr (.inl ⟨c,u,by simp[lZ]⟩))
 have z:∀r,r∈d.rules->∀t,t∈iW r->gE t=true:=λr z t F=>B t (by simp only[jK,cZ,List.mem_flatMap];exact .inr (.inr ⟨r,z,F⟩))
 have g1:=aLl [115,111,114,116] d.sig.sorts
 have U:=zO (λx:Below=>aJ (bF [] [[115,117,98,115,111,114,116],x.low,[60],x.high]) [46]) Below.enc d.sig.below (λx m=>by
  rw[cW,dQ,eV,dQ];simp only[sl,bD,dI,aG,aH,Below.enc,Below.cs,A.bulk,cX];omega)
 have O:=aLl [118,97,108,117,101] d.sig.values;have g4:=zO pV Opr.enc d.sig.ops (λx m=>aVB (S x m));have g5:=zO uO Opr.enc d.sig.funs (λx m=>aUv x);have g6:=zO rE Eqn.enc d.eqs (λx m=>aVy (y x m));have g7:=zO (λc=>aJ (gX (aJ [] [99,101,108,108]) c) [46]) Cel.enc d.once (λx m=>aTc (u x (.inl m)));have g8:=zO mX Rul.enc d.rules (λx m=>aUG (z x m));have Z:=aLm [115,116,97,114,116] d.start;have H:=aLm [119,97,116,99,104] d.watch;have e:∀x:List Wd,dN [x]=bD x:=λx=>by simp[dN,bD]
 have M:sl (dN (if d.kind=[] then [] else [aJ (aJ (dL gX false (bF [] [[109,97,110,121],d.kind,[40]]) d.many) [41]) [46]]))<=12+d.kind.length+64 * bI (d.many.map Cel.enc):=by
  split
  .simp[dN,sl]
  .have:=yZ gX Cel.enc 64 d.many false (bF [] [[109,97,110,121],d.kind,[40]]) (λx m c=>by have:=aMY (u x (.inr m)) c;omega);rw[eV,dQ]at this;rw[e,cW,dQ,cW,dQ];simp only[sl,bD,dI,aG,aH]at this⊢;omega
 have es:cX d.sig.cs=bI (d.sig.sorts.map .str)+(bI (d.sig.below.map Below.enc)+(bI (d.sig.ops.map Opr.enc)+(bI (d.sig.funs.map Opr.enc)+bI (d.sig.values.map .str)))):=by
  simp only[Sig.cs,A.bulk,cX,Nat.add_zero]
 have wa:∀a b:List (List Wd),dN (a++b)=dN a++dN b:=λa b=>by simp[dN]
 rw[tW,es];unfold eD wJ;simp only[wa,dQ];rw[e,cW,dQ,eV,dQ];simp only[sl,bD,dI,aG,aH]at g1 U O g4 g5 g6 g7 g8 Z H M⊢;omega
end Go.AV
section
open Go.Proofs.Tryz
namespace Go.Proofs
open Go.RowKit Go.Shelf
attribute [local go_sem] Oper.semAt_some
abbrev SlV:=Option Addr × Nat × Nat
def slV(x:SlV):Value:=.slice x.1 x.2.1 x.2.2
theorem Tryz.infoE41:(Tryz.prog.info? 41).map (λi=>(i.zero,i.size,i.bytes))=some (some (.slice none 0 0),1,24):=by kernel_rfl
set_option maxHeartbeats 2000000 in
theorem Tryz.appendSeq_in(F:Fence)(n:Nat)(S:F.fn 294)(U:F.round=none)(hn:3<=n)(g:Nat)(lb:Array Value)(b4:F.fn g)(eg:∀args w,(callFunc g args).run Tryz.prog w=.ok (.enter g args) w)
  (xs:List SlV)(bb:xs.length<=maxLen)(b0:xs.length * 24<=140737488355328)(w:World)
  (hS:∀w',Below w.heap.size w w'->w.heap.size<=w'.heap.size->SeqStopsK F (n-1) Tryz.prog g lb (λx:SlV=>#[slV x]) (Below w.heap.size) (λys=>ys=xs) (λpre=>pre <+: xs) xs.length w') :
  CallsIn F n Tryz.prog 294 #[.slice none 0 0,.func (.func g) #[] lb] w λe W'=>∃v,e=.returned v/\W'.ownsRow w.heap.size 41 1 v xs.length (xs.map slV)/\(v=.slice none 0 0↔xs=[])/\Below w.heap.size w W':=by
 have h1:1<=n:=by omega
 obtain⟨i0,hi,b2,b5,b7⟩:=info_parts Tryz.infoE41;refine callsIn_of_wp_marks Tryz.func294 rfl S ?_ U;simp only[Tryz.ntmps294,List.size_toArray,List.length_cons,List.length_nil,Nat.reduceAdd,Nat.reduceSub,Array.replicate_succ,Array.replicate_zero,List.push_toArray,List.append_toArray,List.nil_append,List.cons_append]
 gi_wp2
 have bO:=Boxed.new w 248 (.slice none 0 0);have O:Below w.heap.size w (w.alloc (.cells #[.slice none 0 0] 248)):=(Below.refl _ w).alloc (Nat.le_refl _) _
 refine wpIn_rangeFunc_ownG U h1 (gf:=g) (lb:=lb) rfl b4 eg
  (hS _ O (by simp)) belowK_t (belowK_b (by simp)) (Below.refl _ _) (λ_=>rfl)
  (λpre W=>(∃v,Boxed W w.heap.size 248 v/\W.ownsRow w.heap.size 41 1 v pre.length (pre.map slV)/\(v=.slice none 0 0↔pre=[]))/\Below w.heap.size w W)
  (λ_ _ _=>False)
  (OwnFrom.and (Own.from (holdsRow_own w.heap.size w.heap.size 248 41 1 (λpre=>pre.length) (λpre=>pre.map slV) (λpre v=>v=.slice none 0 0↔pre=[])) _) (ownFrom_below (Nat.le_refl _) (by simp)))
  (λ_ _ _ _ _ hs _ _=>hs)
  ⟨⟨_,bO,World.ownsRow_nil _ _ _ _,by simp⟩,O⟩
  (λx=>{ tmps:=#[.slice none 0 0,.func (.func g) #[] lb,.pointer (some ⟨w.heap.size,0,none⟩),undef,.slice none 0 0,slV x,.func (.func g) #[] lb,slV x,undef,undef,undef,undef,undef],defers:=[] }) ?assign ?body ?done ?stop
 case assign =>
  intro l x W K Z
  gi_wp2
  exact Z
 case body =>
  rintro l pre ⟨xp,xn,xc⟩ W ⟨⟨v,hv,m,y⟩,B⟩ bd;have hq:slV (xp,xn,xc)=.slice xp xn xc:=rfl;rw[hq];have hc:=hv.cell
  gi_wp2_with (gi_at_builtin;refine wpListIn_append_own _ rfl _ _ 248 rfl w.heap.size 41 i0 (.slice none 0 0) 1 24 Tryz.underlying248 hi b2 b5 b7 rfl (by decide) _ _ _ rfl (m.alloc _) ⟨W.heap.size,0,none⟩ 1 1 [.slice xp xn xc] rfl rfl (cell_one_new _ _ _) (by simp[Value.oneCell']) (by omega) (by omega) (by have:=B.size;simp;omega) ?_;intro v' w1 u z _;obtain⟨g',b9,rfl⟩:=ownsRow_succ u;obtain⟨H,b3,b6,b8,M⟩:=hv.appended (by decide) m B.size (Nat.le_refl _) u z;have bc:=H.cell;have bf:=H.frozen)
  show _/\_;exact⟨b8.from _,M,⟨_,b3,by simpa [hq]using b6,by simp⟩,B.trans M⟩
 case done =>
  rintro D ys W hD rfl ⟨⟨v,hv,m,y⟩,B⟩ Z;have hc:=hv.cell
  gi_wp2
  refine⟨by simp,.inl ⟨_,_,rfl,run_takeDeferred Z,?_⟩⟩;exact⟨_,results_tmp rfl _ _ _,v,rfl,ownsRow_putObj m _ Z rfl,y,B.trans (belowK_b (w:=w) (Nat.le_refl _) W D _ _ (by simp at hD;omega) Z rfl rfl)⟩
 case stop =>
  rintro D c pre W _ _ h _;exact h.elim
set_option maxHeartbeats 2000000 in
theorem Tryz.collect_in(F:Fence)(n:Nat)(H:F.fn 257)(y:F.fn 294)(B:F.round=none)(hn:4<=n)(g:Nat)(lb:Array Value)(M:F.fn g)(U:∀args w,(callFunc g args).run Tryz.prog w=.ok (.enter g args) w)
  (xs:List SlV)(z:xs.length<=maxLen)(h:xs.length * 24<=140737488355328)(w:World)
  (Z:∀w',Below w.heap.size w w'->w.heap.size<=w'.heap.size->SeqStopsK F (n-1-1) Tryz.prog g lb (λx:SlV=>#[slV x]) (Below w.heap.size) (λys=>ys=xs) (λpre=>pre <+: xs) xs.length w') :
  CallsIn F n Tryz.prog 257 #[.func (.func g) #[] lb] w λe O=>∃v,e=.returned v/\O.ownsRow w.heap.size 41 1 v xs.length (xs.map slV)/\(v=.slice none 0 0↔xs=[])/\Below w.heap.size w O:=by
 have h1:1<=n:=by omega
 refine callsIn_of_wp Tryz.func257 rfl H ?_ B;simp only[Tryz.ntmps257,List.size_toArray,List.length_cons,List.length_nil,Nat.reduceAdd,Nat.reduceSub,Array.replicate_succ,Array.replicate_zero,List.push_toArray,List.append_toArray,List.nil_append,List.cons_append]
 gi_wp2_with (gi_at_call 294;refine(Tryz.appendSeq_in F (n-1) y B (by omega) g lb M U xs z h _ Z).mono ?_;rintro e w' ⟨v,rfl,m,u,S⟩)
 go_ret
 exact⟨v,rfl,m,u,S⟩
end Go.Proofs
end
