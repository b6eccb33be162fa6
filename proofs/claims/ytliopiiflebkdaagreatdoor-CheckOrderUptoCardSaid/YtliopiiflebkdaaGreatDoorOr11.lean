/-
  Of CheckOrder.
-/
import Derived.Test.YtliopiiflebkdaaGreatDoorOr10
set_option linter.all false
set_option maxRecDepth 99999
set_option maxHeartbeats 0
namespace Go.AV
open Go Go.Proofs Tryz
def pS(e:Eqn):Nat:=2+e.cond.length
def tO(p:Part):Nat:=1+p.right.length
def tY(r:Rul):Nat:=(r.parts.map tO).sum+(r.cond.length+(r.new.map λf=>f.cells.length).sum)
def wK(d:Dfn):Nat:=(d.eqs.map pS).sum+(d.once.length+(d.many.length+(d.rules.map tY).sum))
theorem aLF{α:Type}{l:List α}{i:Nat}{x:α}(h:l[i]?=some x):l.drop i=x::l.drop (i+1):=by
 obtain⟨q,rfl⟩:=dG.1 h;exact kN q
theorem aAt{α:Type}{f:α->Nat}{l:List α}{i:Nat}{x:α}(h:l[i]?=some x):((l.drop i).map f).sum=f x+((l.drop (i+1)).map f).sum:=by
 rw[aLF h,bN,List.sum_cons]
theorem aAe(s:St)(t:Nat)(v w:Nat × TypeId):(s.setT t v).setT t w=s.setT t w:=by simp only[St.setT,xT]
theorem aC4{l:List Cel}{y:A}(h:y∈l.map Cel.enc):y.cells.length=10:=by
 obtain⟨z,_,rfl⟩:=cD.1 h;rfl
def pT(s:St)(l:List Tm)(tk:Option Nat):Prop:=(tk=none->l=[])/\∀t,tk=some t->s.getT t=none
theorem aJs(x:Dfn)(hB:wK x<=4294967296)(s:St)(KV Kp:St->A->Prop)(hk:∀xs:List Tm,KV s (.list none (xs.map Tm.enc))):Den cx 10 [.agg x.cs] KV Kp s:=by
 refine fS λhz1=>?_
 have hza:=hz1 _ (dZ ..);have hw1:Rlz (.list none (x.eqs.map Eqn.enc)):=hza.cell (by simp[Dfn.cs]);have hw2:Rlz (.list none (x.rules.map Rul.enc)):=hza.cell (by simp[Dfn.cs]);clear hz1;unfold wK at hB;simp only[go_sem];(refine aL func10 [0,1,2,3,5,7,9,11,13,15,16,17,18,38,39,40,41,51,52,53,54,58,59,60,61,78,79,80,81] ?_;simp only[go_sem,ntmps10,f10]);(refine aM λp hp=>?_);simp only[go_sem,hp]
 refine Ex.loop (ι:=(List Tm × Option Nat) × Nat) (λc=>[(1,.ptr p 0),(3,gv c.1.2 (c.1.1.map Tm.enc)),(15,.list none (x.eqs.map Eqn.enc)),(16,.int .i64 x.eqs.length),(17,.int .i64 (c.2:Nat))])
  (λc=>gs (s.setO p (.cells 31 x.cs)) c.1.2 c.1.1.length 39)
  (λc=>pT s c.1.1 c.1.2/\c.2<=x.eqs.length/\c.1.1.length+((x.eqs.drop c.2).map pS).sum<=(x.eqs.map pS).sum) (λc=>x.eqs.length-c.2) (([],none),0) ⟨⟨λ_=>rfl,λt e=>(by cases e)⟩,aX _,by simp⟩ ?_ (by exact aG _) ?_
 ·(simp only[go_sem,hp];try exact⟨rfl,rfl⟩)
 ·rintro ⟨⟨l,tk⟩,i⟩ ⟨⟨hnil,hfree⟩,hi,hl⟩;simp only at hnil hfree hi hl;refine bC (V := [0,1,2,3,5,7,9,11,13,15,16,17,18,38,39,40,41,51,52,53,54,58,59,60,61,78,79,80,81]) _ _ _ _ ?_;simp only [go_sem,hp]
  (apply aQ<;>intro h)<;>simp only[go_sem,h,hp]
  .have hix:i<x.eqs.length:=gQ h;clear h;obtain⟨e,he⟩:∃a,x.eqs[i]?=some a:=⟨_,aV hix⟩
   have hsd:=aAt (f:=pS) he;have hew:pS e=2+e.cond.length:=rfl;simp only[go_sem,hp,he,hix];(refine mP λb5 hb5=>?_);simp only[go_sem,hp,he,hix,hb5];(refine bB (OT.l [0,1,2,3,4,7,8,5,6,9,10] .nil) [(5,[8]),(6,[8])] ?_;simp only[go_sem,hp,he,hix,hb5]);refine⟨by decide,λy hy=>?_,cT rfl rfl (by rw[aK];exact eD λe=>by rw[hnil e];rfl) (λy hy=>mG hy) (by simp only[aK,aO,aU];omega) (λu hu=>?_)⟩
   .simp only[dD,List.mem_nil_iff,eU]at hy;rcases hy with rfl|rfl<;>rfl
   have hfu:=eX hu hfree;rw[eP hu];simp only[go_sem,hp,he,hix,hb5];refine⟨by decide,λy hy=>mG hy,by simp only[aI,aK,aO,aU],λy hy=>?_,by simp only[aI,aK,aO,aU];omega,?_⟩
   .simp only[dK,dD,List.mem_nil_iff,eU]at hy;rcases hy with hy|rfl|rfl
    .exact mG hy
    .rfl
    .rfl
   refine⟨((l++[e.left,e.right]++e.cond,some u),i+1),⟨⟨λh=>(by cases h),λt h=>by cases h;exact hfu⟩,hix,by simp only[aI,aO,aU];omega⟩,aP,?_,?_⟩
   .simp only[go_sem,hw1.wrap (i:=i) (gQ hix),dB,bY]
   .have e1:∀a b:A,(List.map Tm.enc l++[a,b]).length+e.cond.length=(l++[e.left,e.right]++e.cond).length:=λa b=>by simp only[aI,aK,aO,aU]
    rw[aAe,e1];exact fY (hH (And.intro hp hb5))
  ·clear h;(refine bB (OT.l [0,1,2,4,5,8,3,6,7] .nil) [(3,[5])] ?_; simp only [go_sem,hp]);refine ⟨by decide,fun y hy => aC4 hy,aAB (tk := none) (es := []) (fun _ => rfl) (fun t h => by cases h) (fun y hy => by cases hy) (by simp only [aK,aU]; omega) (fun tk1 hn1 hf1 => ?_)⟩;simp only [go_sem,hp];refine ⟨by decide,fun y hy => aC4 hy,aAB (fun h => by simpa using hn1 h) (fun t ht => by rw [aC3 t ht]; simp) (fun y hy => aC4 (gQ hy)) (by simp only [aK,aU,bP]; omega) (fun tk2 hn2 hf2 => ?_)⟩;simp only [go_sem,hp,aGO hn2]
   have hn2':tk2=none->x.once++x.many=[]:=λh=>by
    have:=hn2 h;simpa using this
   have hV:∀(i:Nat) (o:Cel),(x.once++x.many)[i]?=some o->∃t,ev tk2 (List.map Cel.enc x.once++List.map Cel.enc x.many)=.list (some t) ((x.once++x.many).map Cel.enc):=λi o ho=>by
    cases tk2 with
    | none =>
     rw[hn2' rfl]at ho;cases ho
    | some t=>exact⟨t,by rw[bY];rfl⟩
   have hlE:l.length<=(x.eqs.map pS).sum:=by omega
   have hVl:(x.once++x.many).length=x.once.length+x.many.length:=aI
   refine Ex.loop (ι:=(List Tm × Option Nat) × Nat) (λc=>[(1,.ptr p 0),(3,gv c.1.2 (c.1.1.map Tm.enc)),(38,ev tk2 (List.map Cel.enc x.once++List.map Cel.enc x.many)),(39,.int .i64 ((x.once++x.many).length:Nat)),(40,.int .i64 (c.2:Nat))])
    (λc=>gs (s.setO p (.cells 31 x.cs)) c.1.2 c.1.1.length 39)
    (λc=>pT s c.1.1 c.1.2/\c.2<=(x.once++x.many).length/\c.1.1.length<=(x.eqs.map pS).sum+c.2) (λc=>(x.once++x.many).length-c.2) ((l,tk),0) ⟨⟨hnil,hfree⟩,aX _,hlE⟩ ?_ (by exact aHw (aG _) hf1 (λt h=>(hf2 t h).imp id (λh=>⟨_,h⟩))) ?_
   ·(simp only[go_sem,hp];try simp)
   .clear hf2 hf1 hn1 hnil hfree hl hi hn2 hlE;rintro⟨⟨l,tk⟩,i⟩ ⟨⟨hnil,hfree⟩,hi,hl⟩;simp only at hnil hfree hi hl;refine bC (V:=[0,1,2,3,5,7,9,11,13,15,16,17,18,38,39,40,41,51,52,53,54,58,59,60,61,78,79,80,81]) _ _ _ _ ?_;simp only[go_sem,hp]
    (apply aQ<;>intro h)<;>simp only[go_sem,h,hp]
    .have hix:i<(x.once++x.many).length:=gQ h;clear h;obtain⟨o,ho⟩:∃a,(x.once++x.many)[i]?=some a:=⟨_,aV hix⟩
     obtain⟨t,ht⟩:=hV i o ho;simp only[go_sem,hp,ht,ho,hix];(refine mP λb7 hb7=>?_);simp only[go_sem,hp,ht,ho,hix,hb7];refine⟨by decide,λy hy=>by simp only[cC]at hy;subst hy;rfl,cT rfl rfl (by rw[aK];exact eD λe=>by rw[hnil e];rfl) (λy hy=>mG hy) (by simp only[aK,aO,aU];omega) (λu hu=>?_)⟩;have hfu:=eX hu hfree;rw[eP hu];simp only[go_sem,hp,ht,ho,hix,hb7];refine⟨((l++[o.init],some u),i+1),⟨⟨λh=>(by cases h),λt h=>by cases h;exact hfu⟩,hix,by simp only[aI,aO,aU];omega⟩,aP,?_,?_⟩
     .simp only[go_sem,bM i aB,dB,bY]
     .rw[show l.length+1=(l++[o.init]).length by simp only[aI,aO,aU]];exact fY (hH (And.intro hp hb7))
    .clear h;have hlE:l.length<=(x.eqs.map pS).sum+(x.once.length+x.many.length):=by omega
     clear hi hl
     refine Ex.loop (ι:=(List Tm × Option Nat) × Nat) (λc=>[(3,gv c.1.2 (c.1.1.map Tm.enc)),(51,.list none (x.rules.map Rul.enc)),(52,.int .i64 x.rules.length),(53,.int .i64 (c.2:Nat))])
      (λc=>gs s c.1.2 c.1.1.length 39)
      (λc=>pT s c.1.1 c.1.2/\c.2<=x.rules.length/\c.1.1.length+((x.rules.drop c.2).map tY).sum<=4294967296) (λc=>x.rules.length-c.2) ((l,tk),0) ⟨⟨hnil,hfree⟩,aX _,by simp only[rC];omega⟩ ?_ ?_ ?_
     ·(simp only[go_sem,hp];first|done|exact rfl|exact⟨rfl,rfl⟩)
     .exact nA (aAm (sZ hp (uY _ _ _)))
     .clear hnil hfree hlE;rintro⟨⟨l,tk⟩,i⟩ ⟨⟨hnil,hfree⟩,hi,hl⟩;simp only at hnil hfree hi hl;refine bC (V:=[0,1,2,3,5,7,9,11,13,15,16,17,18,38,39,40,41,51,52,53,54,58,59,60,61,78,79,80,81]) _ _ _ _ ?_;simp only[go_sem]
      (apply aQ<;>intro h)<;>simp only[go_sem,h]
      .have hix:i<x.rules.length:=gQ h;clear h;obtain⟨r,hr⟩:∃a,x.rules[i]?=some a:=⟨_,aV hix⟩
       have hsd:=aAt (f:=tY) hr;have hrw:tY r=(r.parts.map tO).sum+(r.cond.length+(r.new.map λf=>f.cells.length).sum):=rfl;simp only[go_sem,hr,hix];(refine mP λb9 hb9=>?_);simp only[go_sem,hr,hix,hb9];have hzr:Rlz (.agg r.cs):=hw2.agg_elem (cD.2 ⟨r,cR hr,rfl⟩);have hw3:Rlz (.list none (r.parts.map Part.enc)):=hzr.cell (by simp[Rul.cs]);have hw4:Rlz (.list none (r.new.map Fresh.enc)):=hzr.cell (by simp[Rul.cs]);rw[hsd,hrw]at hl;clear hsd hrw;have hiw:IntKind.i64.wrap ((i:Int)+1)=((i+1:Nat):Int):=hw2.wrap (i:=i) (gQ hix);generalize hR:((x.rules.drop (i+1)).map tY).sum=R at hl
       refine Ex.loop (ι:=(List Tm × Option Nat) × Nat) (λc=>[(3,gv c.1.2 (c.1.1.map Tm.enc)),(9,.ptr b9 0),(51,.list none (x.rules.map Rul.enc)),(52,.int .i64 x.rules.length),(53,.int .i64 (i:Nat)),(58,.list none (r.parts.map Part.enc)),(59,.int .i64 r.parts.length),(60,.int .i64 (c.2:Nat))])
        (λc=>gs (s.setO b9 (.cells 46 r.cs)) c.1.2 c.1.1.length 39)
        (λc=>pT s c.1.1 c.1.2/\c.2<=r.parts.length/\c.1.1.length+(((r.parts.drop c.2).map tO).sum+(r.cond.length+(r.new.map λf=>f.cells.length).sum)+R)<=4294967296) (λc=>r.parts.length-c.2) ((l,tk),0) ⟨⟨hnil,hfree⟩,aX _,by simp only[rC];omega⟩ ?_ (by exact aG _) ?_
       ·(simp only[go_sem,hb9];first|done|exact rfl|exact⟨rfl,rfl⟩)
       .clear hnil hfree hl;rintro⟨⟨l,tk⟩,j⟩ ⟨⟨hnil,hfree⟩,hj,hl⟩;simp only at hnil hfree hj hl;refine bC (V:=[0,1,2,3,5,7,9,11,13,15,16,17,18,38,39,40,41,51,52,53,54,58,59,60,61,78,79,80,81]) _ _ _ _ ?_;simp only[go_sem,hb9]
        (apply aQ<;>intro h)<;>simp only[go_sem,h,hb9]
        .have hjx:j<r.parts.length:=gQ h;clear h;obtain⟨q,hq⟩:∃a,r.parts[j]?=some a:=⟨_,aV hjx⟩
         have hsd:=aAt (f:=tO) hq;have hqw:tO q=1+q.right.length:=rfl;simp only[go_sem,hb9,hq,hjx];(refine mP λb11 hb11=>?_);simp only[go_sem,hb9,hq,hjx,hb11];(refine bB (OT.l [0,1,2,3,5,6,4,7,8] .nil) [(4,[6])] ?_;simp only[go_sem,hb9,hq,hjx,hb11]);refine⟨by decide,λy hy=>by simp only[cC]at hy;subst hy;rfl,cT rfl rfl (by rw[aK];exact eD λe=>by rw[hnil e];rfl) (λy hy=>mG hy) (by simp only[aK,aO,aU];omega) (λu hu=>?_)⟩;have hfu:=eX hu hfree;rw[eP hu];simp only[go_sem,hb9,hq,hjx,hb11];refine⟨by decide,λy hy=>mG hy,by simp only[aI,aK,aO,aU],λy hy=>?_,by simp only[aI,aK,aO,aU];omega,?_⟩
         .simp only[dK,cC]at hy;rcases hy with hy|rfl
          .exact mG hy
          .rfl
         refine⟨((l++[q.left]++q.right,some u),j+1),⟨⟨λh=>(by cases h),λt h=>by cases h;exact hfu⟩,hjx,by simp only[aI,aO,aU];omega⟩,aP,?_,?_⟩
         .simp only[go_sem,hw3.wrap (i:=j) (gQ hjx),dB,bY]
         .have e1:∀a:A,(List.map Tm.enc l++[a]).length+q.right.length=(l++[q.left]++q.right).length:=λa=>by simp only[aI,aK,aO,aU]
          rw[aAe,e1];exact fY (hH (And.intro hb9 hb11))
        .clear h;have hl2:l.length+(r.cond.length+(r.new.map λf=>f.cells.length).sum+R)<=4294967296:=by omega
         clear hl hj;refine⟨by decide,λy hy=>mG hy,cT rfl rfl (by rw[aK];exact eD λe=>by rw[hnil e];rfl) (λy hy=>mG hy) (by simp only[aK];omega) (λu hu=>?_)⟩;have hfu:=eX hu hfree;rw[eP hu];simp only[go_sem,hb9]
         refine Ex.loop (ι:=(List Tm × Option Nat) × Nat) (λc=>[(3,gv c.1.2 (c.1.1.map Tm.enc)),(51,.list none (x.rules.map Rul.enc)),(52,.int .i64 x.rules.length),(53,.int .i64 (i:Nat)),(78,.list none (r.new.map Fresh.enc)),(79,.int .i64 r.new.length),(80,.int .i64 (c.2:Nat))])
          (λc=>gs s c.1.2 c.1.1.length 39)
          (λc=>pT s c.1.1 c.1.2/\c.2<=r.new.length/\c.1.1.length+(((r.new.drop c.2).map λf=>f.cells.length).sum+R)<=4294967296) (λc=>r.new.length-c.2) ((l++r.cond,some u),0) ⟨⟨λh=>(by cases h),λt h=>by cases h;exact hfu⟩,aX _,by simp only[rC,aI];omega⟩ ?_ ?_ ?_
         ·(simp only[go_sem,hb9,dB,bY];first|done|exact rfl|exact⟨rfl,rfl⟩)
         .show St.ge _ ((s.setT u ((l++r.cond).length,39)));rw[aI];exact fY (hH hb9)
         .clear hnil hfree hl2 hu hfu;rintro⟨⟨l,tk⟩,j⟩ ⟨⟨hnil,hfree⟩,hj,hl⟩;simp only at hnil hfree hj hl;refine bC (V:=[0,1,2,3,5,7,9,11,13,15,16,17,18,38,39,40,41,51,52,53,54,58,59,60,61,78,79,80,81]) _ _ _ _ ?_;simp only[go_sem]
          (apply aQ<;>intro h)<;>simp only[go_sem,h]
          .have hjx:j<r.new.length:=gQ h;clear h;obtain⟨q,hq⟩:∃a,r.new[j]?=some a:=⟨_,aV hjx⟩
           have hsd:((r.new.drop j).map λf=>f.cells.length).sum=q.cells.length+((r.new.drop (j+1)).map λf=>f.cells.length).sum:=aAt (f:=λf:Fresh=>f.cells.length) hq;simp only[go_sem,hq,hjx];(refine mP λb13 hb13=>?_);simp only[go_sem,hq,hjx,hb13];refine⟨by decide,λy hy=>mG hy,cT rfl rfl (by rw[aK];exact eD λe=>by rw[hnil e];rfl) (λy hy=>mG hy) (by simp only[aK];omega) (λu hu=>?_)⟩;have hfu:=eX hu hfree;rw[eP hu];simp only[go_sem,hq,hjx,hb13];refine⟨((l++q.cells,some u),j+1),⟨⟨λh=>(by cases h),λt h=>by cases h;exact hfu⟩,hjx,by simp only[aI];omega⟩,aP,?_,?_⟩
           .simp only[go_sem,hw4.wrap (i:=j) (gQ hjx),dB,bY]
           .show St.ge _ ((s.setT u ((l++q.cells).length,39)));rw[aI];exact fY (hH hb13)
          .clear h;refine⟨((l,tk),i+1),⟨⟨hnil,hfree⟩,hix,aP⟩,aP,?_,aG _⟩;simp only[go_sem,hiw]
      .clear h;exact DK.mk (hk l) (gE (aG _) hfree) (gK _ _ (λe=>by rw[hnil e];rfl))
theorem iQ(a b:List Tm):bG (a++b)=bG a++bG b:=by
 induction a with
 | nil=>rfl
 | cons x r h=>simp only[bS,bG,h,fF]
theorem aNy(t:Tm):1<=t.pre.length:=by rw[xI];simp
theorem nV(l:List Tm):l.length<=(bG l).length:=by
 induction l with
 | nil=>exact aX _
 | cons x r h=>have:=aNy x;simp only[bG,aI,aO];omega
theorem xF{l:List Tm}{i:Nat}{x:Tm}(h:l[i]?=some x):bG (l.take (i+1))=bG (l.take i)++x.pre:=by
 rw[eO,h,iQ];simp only[Option.toList,bG,dQ]
theorem xH{l:List Tm}{i:Nat}{x:Tm}(h:l[i]?=some x):(bG (l.drop i)).length=x.pre.length+(bG (l.drop (i+1))).length:=by
 obtain⟨q,rfl⟩:=dG.1 h;rw[kN q];simp only[bG,aI]
def Keep{h:Type}(Ow:h->Nat->Prop)(s:St)(v:h)(s':St)(u:h):Prop:=∀q o,s.getO q=some o->¬ Ow v q->s'.getO q=some o/\¬ Ow u q
theorem Keep.refl{u:Type}{Ow:u->Nat->Prop}(s:St)(v:u):Keep Ow s v s v:=λq o h n=>⟨h,n⟩
theorem Keep.trans{B:Type}{Ow:B->Nat->Prop}{s s' u:St}{v z y:B}(h:Keep Ow s v s' z)(F:Keep Ow s' z u y):Keep Ow s v u y:=λq o x n=>by
 obtain⟨a,b⟩:=h q o x n;exact F q o a b
theorem Keep.ge{u:Type}{Ow:u->Nat->Prop}{s s':St}(h:s'.ge s)(v:u):Keep Ow s v s' v:=λq o x n=>⟨h.ob q o x,n⟩
structure WalkOk {σ τ:Type} (step:σ->Tm->σ) (I:Nat->σ->τ->St->Prop) (Ow:τ->Nat->Prop) (f:FuncId) (caps:List A):Prop where
 st:∀{n a v s s'},I n a v s->s'.ge s->I n a v s'
 fr:∀{n a v s q},I n a v s->s.getO q=none->¬ Ow v q
 go:∀(n:Nat) (a:σ) (v:τ) (x:Tm) (deep:Int) (s:St) (KV Kp:St->A->Prop),x.kids.length+x.rest.length<=4294967296->I (n+1) a v s->(∀s' v',I n (step a x) v' s'->Keep Ow s v s' v'->KV s' (.tuple []))->Den cx f ([]++[.agg x.cs,.int .i64 deep]++caps) KV Kp s
theorem aJP{σ τ:Type}{step:σ->Tm->σ}{I:Nat->σ->τ->St->Prop}{Ow:τ->Nat->Prop}{f:FuncId}{z:List A}(W:WalkOk step I Ow f z)(m:Nat) :
  ∀(t:Tm) (u:Int) (n:Nat) (a:σ) (v:τ) (s:St) (KV Kp:St->A->Prop),SizeOf.sizeOf t<m->t.pre.length<=4294967296->I (t.pre.length+n) a v s ->
   (∀s' v',I n (t.pre.foldl step a) v' s'->Keep Ow s v s' v'->KV s' (.tuple []))->Den cx 73 [.agg t.cs,.int .i64 u,.fn f [] z] KV Kp s:=by
 induction m with
 | zero=>intro t u n a v s KV Kp hm;omega
 | succ m ih =>
 intro t u n a v s KV Kp hm hb hI hk;have O:=xI t;generalize hL:t.kids++t.rest=L at O;have b8:t.pre.length=1+(bG L).length:=by rw[O,aO];omega
 have b7:=nV L
 have b5:∀x,x∈L->SizeOf.sizeOf x<SizeOf.sizeOf t:=λx y=>by
  rw[<-hL]at y;rcases dK.1 y with y|y
  .exact zQ y
  .exact aB6 y
 (refine aL func73 [0,1,2,3,7,17,18,19,20] ?_;simp only[go_sem,ntmps73,f73]);(refine aM λp hp=>?_);simp only[go_sem,hp]
 have b0:I (((bG L).length+n)+1) a v (s.setO p (.cells 39 t.cs)):=by
  rw[show(bG L).length+n+1=t.pre.length+n by omega];exact W.st hI (bQ hp (aG s))
 refine W.go _ a v t u _ _ _ (by rw[<-aI,hL];omega) b0 (λs2 v2 b1 F=>?_);obtain⟨g2,o2⟩:=F p (.cells 39 t.cs) (by simp only[aH,cM];rfl) (W.fr hI hp);have F:Keep Ow s v s2 v2:=(Keep.ge (bQ hp (aG s)) v).trans F;simp only[Tm.cs]at g2;simp only[go_sem,g2];refine aEd [t.kids,t.rest] (by simp only[List.flatten_cons,List.flatten_nil,dQ,hL];omega) _ _ _ ?_;simp only[List.flatten_cons,List.flatten_nil,dQ,hL];simp only[go_sem,g2]
 refine Ex.loop (ι:=Nat × σ × τ × St) (λc=>[(1,.int .i64 u),(2,.fn f [] z),(3,.ptr p 0),(17,.list none (L.map Tm.enc)),(18,.int .i64 (L.length:Nat)),(19,.int .i64 (c.1:Nat))])
  (λc=>c.2.2.2) (λc=>c.1<=L.length/\c.2.1=(bG (L.take c.1)).foldl step (step a t)/\I ((bG (L.drop c.1)).length+n) c.2.1 c.2.2.1 c.2.2.2/\Keep Ow s v c.2.2.2 c.2.2.1) (λc=>L.length-c.1)
  (0,step a t,v2,s2) ⟨aX _,rfl,gQ b1,F⟩ ?_ (aG _) ?_
 .simp only[go_sem]
  try exact rfl
 .rintro⟨i,a3,v3,s3⟩ ⟨hi,G,B,M⟩;simp only at hi G B M;refine bC (V:=[0,1,2,3,7,17,18,19,20]) _ _ _ _ ?_;simp only[go_sem]
  (apply aQ<;>intro h)<;>simp only[go_sem,h]
  .have H:i<L.length:=gQ h;clear h;obtain⟨x,y⟩:∃a,L[i]?=some a:=⟨_,aV H⟩
   have b6:x∈L:=cR y;have bb:=b5 x b6;have U:=xH y;have Z:=xF y
   have b9:x.pre.length<=(bG L).length:=by
    have e:bG L=bG (L.take i)++bG (L.drop i):=by rw[<-iQ,List.take_append_drop]
    have:=mY List.length e;rw[aI,U]at this;omega
   simp only[go_sem,y,H];(refine aM λq hq=>?_);simp only[go_sem,y,H,hq];refine ih x _ ((bG (L.drop (i+1))).length+n) a3 v3 _ _ _ aB aB ?_ (λs4 v4 b2 b3=>?_)
   .rw[<-lP,<-U];exact W.st B (bQ hq (aG _))
   .simp only[go_sem];refine⟨(i+1,_,v4,s4),⟨H,by rw[Z,List.foldl_append,<-G],b2,M.trans ((Keep.ge (bQ hq (aG _)) v3).trans b3)⟩,aP,bM i aB,aG _⟩
  .have b4:i=L.length:=by have:¬ i<L.length:=gQ h;omega
   subst b4;rw[List.take_length]at G;rw[eB (bL _)]at B;refine aN (hk s3 v3 ?_ M);rw[O,List.foldl_cons,<-G];simpa [bG]using B
theorem uK{σ u:Type}{step:σ->Tm->σ}{I:Nat->σ->u->St->Prop}{Ow:u->Nat->Prop}{f:FuncId}{h:List A}(W:WalkOk step I Ow f h)
  (t:Tm)(q:Int)(n:Nat)(a:σ)(v:u)(s:St)(KV Kp:St->A->Prop)(B:t.pre.length<=4294967296)(z:I (t.pre.length+n) a v s)
  (F:∀s' y,I n (t.pre.foldl step a) y s'->Keep Ow s v s' y->KV s' (.tuple [])):Den cx 73 [.agg t.cs,.int .i64 q,.fn f [] h] KV Kp s :=
 aJP W _ t q n a v s KV Kp (lN _) B z F
theorem gBm{f:FuncId}{c:Code}{args:List A}{KV Kp:St->A->Prop}{s:St}{fn:Func}(y:kA.P.funcs[f]?=some fn)(V:List Nat)
  (h:eM kA fn.ntmps V c (jF kA fn.results.toList (DK KV) (DK Kp)) (mJ 0 args) s)
  (u:fn.body=some c:=by exact rfl)
  (q : (fn.name == "runtime.NumGoroutine") = false := by exact rfl) (z : args.length ≤ fn.ntmps := by exact gN rfl) : Den cx f args KV Kp s :=
 Den.drop (aNg (aCe (C:=kA) y u q z (bC _ _ _ _ h)))
inductive SL (s:St):A->List aC->Prop
 | nil:SL s .nils []
 | mg (b cap:Nat) (ws:List aC) (J:List A) (hb:s.getO b=some (.cells 9 (ws.map .str++J))) (hc:ws.length<=cap) (hJ:J.length=cap-ws.length) (h1:∀c,c∈J->c.one=true) (hn:ws≠[]):SL s (.mg b ws.length cap) ws
def aDs:A->Option Nat
 | .mg b _ _=>some b
 | _=>none
theorem SL.ge{s s':St}{v:A}{q:List aC}(h:SL s v q)(G:s'.ge s):SL s' v q:=by
 cases h with
 | nil=>exact .nil
 | mg b cap q J z B y u F=>exact .mg b cap q J (G.ob _ _ z) B y u F
theorem SL.one{s:St}{v:A}{q:List aC}(h:SL s v q):v.one=true:=by cases h<;>rfl
structure UsI (s0:St) (p:Nat) (n:Nat) (ws:List aC) (v:A) (s:St):Prop where
 ge:s.ge s0
 ob:s.getO p=some (.cells 22 [v])
 sl:SL s v ws
 nb:∀b,aDs v=some b->s0.getO b=none
 ln:ws.length+n<=4294967296
def zE(p:Nat)(v:A)(q:Nat):Prop:=q=p\/aDs v=some q
theorem UsI.st{s0:St}{p n:Nat}{u:List aC}{v:A}{s s':St}(h:UsI s0 p n u v s)(q:s'.ge s):UsI s0 p n u v s' :=
 ⟨q.trans h.ge,q.ob _ _ h.ob,h.sl.ge q,h.nb,h.ln⟩
theorem UsI.fr{s0:St}{p n:Nat}{z:List aC}{v:A}{s:St}{q:Nat}(h:UsI s0 p n z v s)(u:s.getO q=none):¬ zE p v q:=by
 rintro(rfl|y)
 .rw[h.ob]at u;cases u
 .have:=h.sl;cases this with
  | nil=>cases y
  | mg b cap z J B=>cases y;rw[B]at u;cases u
theorem UsI.less{s0:St}{p n m:Nat}{q:List aC}{v:A}{s:St}(h:UsI s0 p n q v s)(u:m<=n):UsI s0 p m q v s:=⟨h.ge,h.ob,h.sl,h.nb,by have:=h.ln;omega⟩
theorem UsI.app{s0:St}{p n:Nat}{H:List aC}{v:A}{s:St}{KV:St->A->Prop}{te:TI}(h:UsI s0 p (n+1) H v s)(b4:s0.getO p=none)(x:aC)(hs:te.sz=1)
  (hk:∀s' b m c,s'.getO p=some (.cells 22 [v])->UsI s0 p n (H++[x]) (.mg b m c) (s'.setO p (.cells 22 [.mg b m c]))->Keep (zE p) s v (s'.setO p (.cells 22 [.mg b m c])) (.mg b m c)->KV s' (.mg b m c)):oM kA s 9 te [.str x] KV v:=by
 obtain⟨G,hr,b5,b3,b6⟩:=h
 have key:∀(b n' u:Nat) (F:List A),(s.getO b=none\/aDs v=some b)->s0.getO b=none->b≠p->n'=(H++[x]).length->n'<=u->F.length=u-n'->(∀c,c∈F->c.one=true) ->
   KV (s.setO b (.cells 9 ((H++[x]).map .str++F))) (.mg b n' u):=by
  intro b n' u F z b0 O b2 U M L;subst b2;have g:∀v q,((s.setO b (.cells 9 ((H++[x]).map .str++F))).setO p (.cells 22 [v])).getO q=if p=q then some (.cells 22 [v]) else if b=q then some (.cells 9 ((H++[x]).map .str++F)) else s.getO q:=λv q=>by rw[aH,aH]
  refine hk _ _ _ _ (by rw[aH,aD O];exact hr) ⟨⟨λq o Z=>?_,λt m hm=>G.tk t m hm,λy hy=>G.ls y hy⟩,by rw[g,aE rfl],.mg b u _ F (by rw[g,aD (Ne.symm O),aE rfl]) U M L aW,λc hc=>by cases hc;exact b0,by rw[aI,List.length_singleton];omega⟩ (λq o Z hO=>?_)
  .rw[g,aD (λe=>by rw[<-e,b4]at Z;cases Z),aD (λe=>by rw[<-e,b0]at Z;cases Z)];exact G.ob q o Z
  .have n1:¬ p=q:=λe=>hO (.inl e.symm)
   have n2:¬ b=q:=λe=>by
    rcases z with z|z
    .rw[<-e,z]at Z;cases Z
    .exact hO (.inr (e▸z))
   refine⟨by rw[g,aD n1,aD n2];exact Z,?_⟩;rintro(h|h)
   .exact n1 h.symm
   .cases h;exact n2 rfl
 cases b5 with
 | nil =>
  refine⟨by simp,?_⟩;rw[aMy,hs];refine⟨by simp,λb cap J z hc hJ h1=>?_⟩;have e1:cY [A.str x]++J=(([]:List aC)++[x]).map .str++J:=by simp[cY,A.cells]
  rw[e1];refine key b 1 cap J (.inl z) ?_ (λe=>by rw[e,hr]at z;cases z) rfl (gQ hc) (gQ hJ) h1;cases h0:s0.getO b with
  | none=>rfl
  | some o=>rw[G.ob b o h0]at z;cases z
 | mg b cap _ J z hc hJ h1 hn =>
  show qP _ _ _ _ _ _ _ _ _ _ _;rw[z];have b1:(H.map A.str++J).length=cap * 1:=by rw[aI,aK,hJ];omega
  rw[hs];refine⟨⟨rfl,rfl,b1,hc,by simp only[List.length_singleton];omega,by simp⟩,λb' u F B U M L=>?_⟩
  have e1:(H.map A.str++J).take (H.length * 1)++(cY [A.str x]++F)=(H++[x]).map .str++F:=by
   rw[Nat.mul_one,List.take_left' aW];simp[cY,A.cells]
  rw[e1];have O:b≠p:=λe=>by rw[e,hr]at z;cases z
  rcases B with⟨rfl,_⟩|B
  .exact key _ _ u F (.inr rfl) (b3 _ rfl) O aW (gQ U) (gQ M) L
  .refine key b' _ u F (.inl B) ?_ (λe=>by rw[e,hr]at B;cases B) aW (gQ U) (gQ M) L;cases h0:s0.getO b' with
   | none=>rfl
   | some o=>rw[G.ob b' o h0]at B;cases B
def yM(h:List aC)(x:Tm):List aC:=if x.kind=6 then h++[x.text] else h
def tI(h:List aC)(x:Tm):List aC:=if x.kind=6/\x.text≠[95] then h++[x.text] else h
theorem UsI.keep{s0:St}{p n:Nat}{u:List aC}{v:A}{s s':St}(h:UsI s0 p (n+1) u v s)(q:s'.ge s):UsI s0 p n u v s'/\Keep (zE p) s v s' v:=⟨(h.st q).less (Nat.le_succ n),Keep.ge q v⟩
theorem aNl(s0:St)(p:Nat)(O:s0.getO p=none):WalkOk yM (UsI s0 p) (zE p) 108 [.ptr p 0] where
 st:=UsI.st
 fr:=UsI.fr
 go:=by
  intro n ws v x Z s KV Kp b0 H z;simp only[bP,bS];have g0:=H.ob;unfold yM at z;(refine gBm func108 [0,2,3,7] ?_;simp only[go_sem,ntmps108,f108]);(refine aM λq B=>?_);have h:(s.setO q (.cells 39 x.cs)).ge s:=bQ B (aG s);have G:=aS g0 B;simp only[go_sem,B,g0,G];by_cases F:x.kind=6
  .rw[aE F]at z;simp only[go_sem,B,cZ F,g0,G];refine⟨by decide,λy hy=>by rw[cC.1 hy];rfl,?_⟩;have u:=H.st h;simp only[Tm.cs]at u;refine u.app O x.text rfl (λs2 b2 n2 c2 U L M=>?_);simp only[go_sem,U];exact aN (z _ _ L ((Keep.ge h v).trans (by simp only[Tm.cs];exact M)))
  .rw[aD F]at z;simp only[go_sem,B,cH F,g0,G];obtain⟨k1,k2⟩:=H.keep h;simp only[Tm.cs]at k1 k2;exact aN (z _ _ k1 k2)
theorem aNI(s0:St)(p:Nat)(Z:s0.getO p=none):WalkOk tI (UsI s0 p) (zE p) 144 [.ptr p 0] where
 st:=UsI.st
 fr:=UsI.fr
 go:=by
  intro n ws v x b1 s KV Kp b3 M z;simp only[bP,bS];have g0:=M.ob;unfold tI at z;(refine gBm func144 [0,2,3,12] ?_;simp only[go_sem,ntmps144,f144]);(refine aM λq G=>?_);have u:(s.setO q (.cells 39 x.cs)).ge s:=bQ G (aG s);have L:=aS g0 G;obtain⟨k1,k2⟩:=M.keep u;simp only[Tm.cs]at k1 k2;by_cases B:x.kind=6
  .by_cases H:x.text=[95]
   .rw[aD (λh=>h.2 H)]at z;simp only[go_sem,G,cZ B,cZ H,g0,L];exact aN (z _ _ k1 k2)
   .rw[aE ⟨B,H⟩]at z;simp only[go_sem,G,cZ B,cH H,g0,L];refine⟨by decide,λy hy=>by rw[cC.1 hy];rfl,?_⟩;have F:=M.st u;simp only[Tm.cs]at F;refine F.app Z x.text rfl (λs2 b2 n2 c2 b0 O U=>?_);simp only[go_sem,b0];exact aN (z _ _ O ((Keep.ge u v).trans (by simp only[Tm.cs];exact U)))
  .rw[aD (λh=>B h.1)]at z;simp only[go_sem,G,cH B,g0,L];exact aN (z _ _ k1 k2)
theorem aJK(l:List Tm):∀q,l.foldl yM q=q++(l.filter λt=>decide (t.kind=6)).map Tm.text:=by
 induction l with
 | nil=>intro q;simp
 | cons x r u =>
  intro q;rw[List.foldl_cons,u];unfold yM;by_cases h:x.kind=6<;>simp[h]
theorem aKu(l:List Tm)(y:aC):∀u,y∈l.foldl tI u↔y∈u\/(y∈(l.filter λt=>decide (t.kind=6)).map Tm.text/\y≠[95]):=by
 induction l with
 | nil=>intro u;simp
 | cons x r B =>
  intro u;rw[List.foldl_cons,B];unfold tI;by_cases h:x.kind=6
  .by_cases q:x.text=[95]
   .rw[aD (λh=>h.2 q)];simp only[h,q,List.filter_cons,xE,cM,bN,dD];constructor
    .rintro(a|⟨a,b⟩)
     .exact .inl a
     .exact .inr ⟨.inr a,b⟩
    .rintro(a|⟨a|a,b⟩)
     .exact .inl a
     .exact cV a b
     .exact .inr ⟨a,b⟩
   .rw[aE ⟨h,q⟩];simp only[h,List.filter_cons,xE,cM,bN,dD,dK,kQ,eU];constructor
    .rintro((a|a)|⟨a,b⟩)
     .exact .inl a
     .exact .inr ⟨.inl a,a▸q⟩
     .exact .inr ⟨.inr a,b⟩
    .rintro(a|⟨a|a,b⟩)
     .exact .inl (.inl a)
     .exact .inl (.inr a)
     .exact .inr ⟨a,b⟩
  .rw[aD (λz=>h z.1)];simp[h]
theorem aEK(l:List Tm)(U:(bG l).length<=4294967200)(s:St)(KV Kp:St->A->Prop)(Z:KV s (strs (iK l))):Den cx 64 [.list none (l.map Tm.enc)] KV Kp s:=by
 refine Den.drop (aGW ?_);(refine gBm func64 [0,2,3,5,6,7,8,9] ?_;simp only[go_sem,ntmps64,f64]);(refine aM λp hp=>?_);simp only[go_sem,hp];have b7:=nV l;have h0:UsI s p ((bG l).length) [] .nils (s.setO p (.cells 22 [.nils])):=⟨bQ hp (aG s),by rw[aH,aE rfl],.nil,λb h=>(by cases h),(by simp only[aU];omega)⟩
 refine Ex.loop (ι:=Nat × A × St) (λc=>[(3,.ptr p 0),(6,.list none (l.map Tm.enc)),(7,.int .i64 (l.length:Nat)),(8,.int .i64 (c.1:Nat))])
  (λc=>c.2.2) (λc=>c.1<=l.length/\UsI s p ((bG (l.drop c.1)).length) ((bG (l.take c.1)).foldl yM []) c.2.1 c.2.2) (λc=>l.length-c.1) (0,.nils,_) ⟨aX _,h0⟩ ?_ (aG _) ?_
 .simp only[go_sem]
  try exact rfl
 .rintro⟨i,v,s1⟩ ⟨hi,H⟩;simp only at hi H;refine bC (V:=[0,2,3,5,6,7,8,9]) _ _ _ _ ?_;simp only[go_sem]
  (apply aQ<;>intro h)<;>simp only[go_sem,h]
  .have B:i<l.length:=gQ h;clear h;obtain⟨x,hx⟩:∃a,l[i]?=some a:=⟨_,aV B⟩
   have L:=xH hx;have M:=xF hx
   have b8:x.pre.length<=(bG l).length:=by
    have e:bG l=bG (l.take i)++bG (l.drop i):=by rw[<-iQ,List.take_append_drop]
    have:=mY List.length e;rw[aI,L]at this;omega
   simp only[go_sem,hx,B];(refine aM λq G=>?_);simp only[go_sem,hx,B,G];refine rS (uK (aNl s p hp) x 1 _ _ v _ _ _ aB (by rw[<-L];exact H.st (bQ G (aG _))) (λs4 v4 b0 b6=>?_));simp only[go_sem];exact⟨(i+1,v4,s4),⟨B,by rw[M,List.foldl_append];exact b0⟩,aP,bM i aB,aG _⟩
  .have b3:i=l.length:=Nat.le_antisymm hi (Nat.le_of_not_lt (gQ h));subst b3;rw[List.take_length,eB (bL _),aJK,bP]at H;clear h hi;have hu:(List.filter (λt=>decide (t.kind=6)) (bG l)).map Tm.text=oH l:=rfl;rw[hu]at H;obtain⟨u,g0,F,b5,b4⟩:=H;unfold iK at Z;generalize oH l=ws at F Z b4;simp only[go_sem,g0];cases F with
   | nil =>
    refine rS (aCh ?_);simp only[go_sem,g0];exact aN (.inl (DK.mk Z u A.le.nil))
   | mg b cap ws J U hc hJ h1 hn =>
    have b2:¬ b=p:=λe=>by rw[e,g0]at U;cases U
    have b1:=b5 b rfl;refine rS (aFa U aB ?_);simp only[go_sem,g0,b2];have F:=(rE ws).length_eq;refine aN (.inr ⟨b,_,cap,9,(pP ws).map .str,J,rfl,by rw[aK,F],by rw[aH,aE rfl],λy hy=>?_,aF Z ⟨λq o G=>?_,λt m hm=>u.tk t m hm,λy hy=>u.ls y hy⟩⟩)
    .obtain⟨z,_,rfl⟩:=cD.1 hy;rfl
    .have O:q≠b:=λe=>by rw[e,b1]at G;cases G
     rw[zP,aD O,aH,aD (Ne.symm O)];exact u.ob q o G
theorem aJC(l:List Tm)(Z:(bG l).length<=4294967200)(s:St)(KV Kp:St->A->Prop)(hk:∀vs:List aC,(∀x,x∈vs↔x∈oH l/\x≠[95])->KV s (strs vs)):Den cx 104 [.list none (l.map Tm.enc)] KV Kp s:=by
 refine Den.drop (aGW ?_);(refine gBm func104 [0,2,3,5,6,7,8,9] ?_;simp only[go_sem,ntmps104,f104]);(refine aM λp hp=>?_);simp only[go_sem,hp];have b6:=nV l;have h0:UsI s p ((bG l).length) [] .nils (s.setO p (.cells 22 [.nils])):=⟨bQ hp (aG s),by rw[aH,aE rfl],.nil,λb h=>(by cases h),(by simp only[aU];omega)⟩
 refine Ex.loop (ι:=Nat × A × St) (λc=>[(3,.ptr p 0),(6,.list none (l.map Tm.enc)),(7,.int .i64 (l.length:Nat)),(8,.int .i64 (c.1:Nat))])
  (λc=>c.2.2) (λc=>c.1<=l.length/\UsI s p ((bG (l.drop c.1)).length) ((bG (l.take c.1)).foldl tI []) c.2.1 c.2.2) (λc=>l.length-c.1) (0,.nils,_) ⟨aX _,h0⟩ ?_ (aG _) ?_
 .simp only[go_sem]
  try exact rfl
 .rintro⟨i,v,s1⟩ ⟨hi,U⟩;simp only at hi U;refine bC (V:=[0,2,3,5,6,7,8,9]) _ _ _ _ ?_;simp only[go_sem]
  (apply aQ<;>intro h)<;>simp only[go_sem,h]
  .have F:i<l.length:=gQ h;clear h;obtain⟨x,hx⟩:∃a,l[i]?=some a:=⟨_,aV F⟩
   have L:=xH hx;have M:=xF hx
   have b7:x.pre.length<=(bG l).length:=by
    have e:bG l=bG (l.take i)++bG (l.drop i):=by rw[<-iQ,List.take_append_drop]
    have:=mY List.length e;rw[aI,L]at this;omega
   simp only[go_sem,hx,F];(refine aM λq G=>?_);simp only[go_sem,hx,F,G];refine rS (uK (aNI s p hp) x 1 _ _ v _ _ _ aB (by rw[<-L];exact U.st (bQ G (aG _))) (λs4 v4 b0 b5=>?_));simp only[go_sem];exact⟨(i+1,v4,s4),⟨F,by rw[M,List.foldl_append];exact b0⟩,aP,bM i aB,aG _⟩
  .have b2:i=l.length:=Nat.le_antisymm hi (Nat.le_of_not_lt (gQ h));subst b2;rw[List.take_length,eB (bL _)]at U;clear h hi
   have hu:∀x,x∈(bG l).foldl tI []↔x∈oH l/\x≠[95]:=λx=>by
    rw[aKu];simp only[kQ,false_or];rfl
   obtain⟨B,g0,u,b4,b3⟩:=U;generalize (bG l).foldl tI []=ws at u hu b3;simp only[go_sem,g0];cases u with
   | nil =>
    refine rS (aCh ?_);simp only[go_sem,g0];refine rS (aIB ?_);simp only[go_sem,g0];exact aN (.inl (DK.mk (hk [] hu) B A.le.nil))
   | mg b cap ws J Z hc hJ h1 hn =>
    have H:¬ b=p:=λe=>by rw[e,g0]at Z;cases Z
    have b1:=b4 b rfl;refine rS (aFa Z aB ?_);simp only[go_sem,g0,H];have u:=(rE ws).length_eq;rw[<-u];refine rS (aIu (by rw[aH,aE rfl]) (by rw[u];omega) ?_);simp only[go_sem,g0,H];refine aN (.inr ⟨b,_,cap,9,(Lib.compact (pP ws)).map .str,_,rfl,by rw[aK],by rw[aH,aE rfl,bY,fF],λy hy=>?_,aF (hk _ (λx=>by rw[aJ1,(rE ws).mem_iff];exact hu x)) ⟨λq o G=>?_,λt m hm=>B.tk t m hm,λy hy=>B.ls y hy⟩⟩)
    .obtain⟨z,_,rfl⟩:=cD.1 hy;rfl
    .have O:q≠b:=λe=>by rw[e,b1]at G;cases G
     simp only[zP,aD O,aH,aD (Ne.symm O)];exact B.ob q o G
section
def uC(l:List (aC × aC)):List (MK × A):=l.map λe=>(MK.str e.1,A.str e.2)
theorem aHr(x:aC):∀l:List (aC × aC),gB (.str x) (uC l)=(tH l x).map .str
 | []=>rfl
 | (a,b)::r=>by
  have q:=aHr x r;simp only[uC,bN,gB,tH]at q⊢;by_cases h:a=x
  .subst h;simp
  .rw[aD h,aD (λe=>h (by injection e with e;exact e.symm)),q]
theorem aHx(x y:aC):∀l:List (aC × aC),tH l x=none->iD (.str x) (.str y) (uC l)=uC (l++[(x,y)])
 | [],_=>rfl
 | (a,b)::r,h=>by
  simp only[tH]at h;by_cases e:a=x
  .rw[aE e]at h;cases h
  .rw[aD e]at h;have q:=aHx x y r h;simp only[uC,bN,bS,iD]at q⊢;rw[aD (λe'=>e (by injection e' with e';exact e'.symm)),q]
structure SoI (s0:St) (p m q:Nat) (n:Nat) (a:List (aC × aC) × aC) (v:Unit) (s:St):Prop where
 ge:s.ge s0
 op:s.getO p=some (.cells 157 [.mp m])
 om:s.getO m=some (.map 0 (uC a.1))
 oq:s.getO q=some (.cells 9 [.str a.2])
def SoO(p m q:Nat)(v:Unit)(x:Nat):Prop:=x=p\/x=m\/x=q
theorem SoI.st{s0:St}{p m q n:Nat}{a:List (aC × aC) × aC}{v:Unit}{s s':St}(h:SoI s0 p m q n a v s)(u:s'.ge s):SoI s0 p m q n a v s' :=
 ⟨u.trans h.ge,u.ob _ _ h.op,u.ob _ _ h.om,u.ob _ _ h.oq⟩
theorem SoI.fr{s0:St}{p m q n:Nat}{a:List (aC × aC) × aC}{v:Unit}{s:St}{x:Nat}(h:SoI s0 p m q n a v s)(u:s.getO x=none):¬ SoO p m q v x:=by
 rintro(rfl|rfl|rfl)
 .rw[h.op]at u;cases u
 .rw[h.om]at u;cases u
 .rw[h.oq]at u;cases u
theorem Keep.set{u:Type}{Ow:u->Nat->Prop}{s:St}{v:u}{b:Nat}(h:Ow v b)(o:Ob):Keep Ow s v (s.setO b o) v:=λq x y n=>⟨by rw[aH,aD (λe:b=q=>n (e▸h))];exact y,n⟩
theorem pC{s s0:St}{b:Nat}(h:s.ge s0)(z:s0.getO b=none)(o:Ob):(s.setO b o).ge s0:=⟨λq x u=>by rw[aH,aD (λe=>by rw[<-e,z]at u;cases u)];exact h.ob q x u,λt m B=>h.tk t m B,λy F=>h.ls y F⟩
theorem SoI.setM{s0:St}{p m q n:Nat}{a:List (aC × aC) × aC}{v:Unit}{s:St}(h:SoI s0 p m q n a v s)(u:s0.getO m=none)(z:p≠m)(y:m≠q)(B:List (aC × aC)):SoI s0 p m q n (B,a.2) v (s.setO m (.map 0 (uC B))) :=
 ⟨pC h.ge u _,by rw[aH,aD (Ne.symm z)];exact h.op,by rw[aH,aE rfl],by rw[aH,aD y];exact h.oq⟩
theorem SoI.setQ{s0:St}{p m q n:Nat}{a:List (aC × aC) × aC}{v:Unit}{s:St}(h:SoI s0 p m q n a v s)(z:s0.getO q=none)(y:p≠q)(u:m≠q)(B:aC):SoI s0 p m q n (a.1,B) v (s.setO q (.cells 9 [.str B])) :=
 ⟨pC h.ge z _,by rw[aH,aD (Ne.symm y)];exact h.op,by rw[aH,aD (Ne.symm u)];exact h.om,by rw[aH,aE rfl]⟩
theorem aLm(s0:St)(p m q:Nat)(bc:s0.getO p=none)(b4:s0.getO m=none)(b3:s0.getO q=none)(b2:p≠q)(b5:p≠m)(b0:m≠q):WalkOk aAO (SoI s0 p m q) (SoO p m q) 143 [.ptr p 0,.ptr q 0] where
 st:=SoI.st
 fr:=SoI.fr
 go := by
  intro n a v x b8 s KV Kp bd Z u;obtain⟨ws,tw⟩:=a;simp only[bP,bS];have gp:=Z.op;have M:=Z.om;have O:=Z.oq;simp only at M O;have B:=aHr x.text ws;unfold aAO at u;simp only at u;(refine aL func143 [0,2,3,4,6,7,15,39,43] ?_;simp only[go_sem,ntmps143,f143]);(refine aM λc F=>?_);have b1:(s.setO c (.cells 39 x.cs)).ge s:=bQ F (aG s);have e1:=aS gp F;have e2:=aS M F;have e3:=aS O F;have y:SoI s0 p m q n (ws,tw) v (s.setO c (.cells 39 x.cs)):=(⟨Z.ge,Z.op,Z.om,Z.oq⟩:SoI s0 p m q n (ws,tw) v s).st b1;have z:Keep (SoO p m q) s v (s.setO c (.cells 39 x.cs)) v:=Keep.ge b1 v;have b9:=y;have bb:=z;simp only[Tm.cs]at y z;by_cases H:x.kind=6
  .by_cases L:x.text=[95]
   .rw[aD (λh=>h.2 L)]at u;simp only[go_sem,F,cZ H,cZ L];exact aN (u _ _ y z)
   ·rw [aE ⟨H,L⟩] at u;cases has : tH ws x.text with
    | none =>
     rw[has]at u B;simp only at u;simp only[Option.map_none]at B;have b6:=aHx x.text x.sort ws has;simp only[go_sem,F,cZ H,cH L,e1,e2,e3,gp,M,O,B,List.headD_cons,b6];exact aN (u _ _ (y.setM b4 b5 b0 _) (z.trans (Keep.set (.inr (.inl rfl)) _)))
    | some b7 =>
     rw[has]at u B;simp only at u;simp only[jM]at B;by_cases U:b7=x.sort
     .rw[aD (λh=>h.1 U)]at u;simp only[go_sem,F,cZ H,cH L,e1,e2,e3,gp,M,O,B,List.headD_cons,cZ U];exact aN (u _ _ y z)
     .by_cases h9:tw=[]
      .rw[aE ⟨U,.inl h9⟩]at u;simp only[go_sem,F,cZ H,cH L,e1,e2,e3,gp,M,O,B,List.headD_cons,cH U,cZ h9];exact aN (u _ _ (y.setQ b3 b2 b0 _) (z.trans (Keep.set (.inr (.inr rfl)) _)))
      .cases G:Go.Op.bytesLess x.text tw with
       | true =>
        rw[aE ⟨U,.inr G⟩]at u;simp only[go_sem,F,cZ H,cH L,e1,e2,e3,gp,M,O,B,List.headD_cons,cH U,cH h9,G];exact aN (u _ _ (y.setQ b3 b2 b0 _) (z.trans (Keep.set (.inr (.inr rfl)) _)))
       | false =>
        rw[aD (λh=>h.2.elim h9 (λh=>by rw[G]at h;cases h))]at u;simp only[go_sem,F,cZ H,cH L,e1,e2,e3,gp,M,O,B,List.headD_cons,cH U,cH h9,G];exact aN (u _ _ y z)
  .rw[aD (λh=>H h.1)]at u;simp only[go_sem,F,cH H];exact aN (u _ _ y z)
theorem aD7(l:List Tm)(hb:(bG l).length<=4294967200)(s:St)(KV Kp:St->A->Prop)(hk:∀s' m,s'.ge s->KV s' (.tuple [.mp m,.str (rQ l)])):Den cx 101 [.list none (l.map Tm.enc)] KV Kp s:=by
 (refine aL func101 [0,2,3,5,7,8,9,10] ?_;simp only[go_sem,ntmps101,f101]);(refine aM λp hp=>?_);simp only[go_sem,hp];(refine aM λq hq=>?_);simp only[go_sem,hp,hq];(refine aM λm Z=>?_);simp only[go_sem,hp,hq,Z];have b5:=nV l;have z:p≠q:=λe=>by subst e;simp at hq
 have H:p≠m:=λe=>by subst e;simp at Z
 have M:q≠m:=λe=>by subst e;simp at Z
 have y:s.getO p=none:=hp;have B:s.getO q=none:=by simp only[hq]
 have F:s.getO m=none:=by simp only[Z]
 have h0:SoI s p m q ((bG l).length) ([],[]) () ((((s.setO p (.cells 157 [.nilm])).setO q (.cells 9 [.str []])).setO m (.map 0 [])).setO p (.cells 157 [.mp m])) :=
  ⟨pC (pC (pC (pC (aG s) y _) B _) F _) y _,by simp only[aH,cM],by simp only[aH,cM,aD H];rfl,by simp only[aH,cM,aD z,aD (Ne.symm M)]⟩
 refine Ex.loop (ι:=Nat × (List (aC × aC) × aC) × St) (λc=>[(2,.ptr p 0),(3,.ptr q 0),(7,.list none (l.map Tm.enc)),(8,.int .i64 (l.length:Nat)),(9,.int .i64 (c.1:Nat))])
  (λc=>c.2.2) (λc=>c.1<=l.length/\c.2.1=(bG (l.take c.1)).foldl aAO ([],[])/\SoI s p m q ((bG (l.drop c.1)).length) c.2.1 () c.2.2) (λc=>l.length-c.1) (0,([],[]),_) ⟨aX _,rfl,h0⟩ ?_ (aG _) ?_
 .simp only[go_sem]
  try exact rfl
 .rintro⟨i,a,s1⟩ ⟨hi,U,O⟩;simp only at hi O U;refine bC (V:=[0,2,3,5,7,8,9,10]) _ _ _ _ ?_;simp only[go_sem]
  (apply aQ<;>intro h)<;>simp only[go_sem,h]
  .have u:i<l.length:=gQ h;clear h;obtain⟨x,hx⟩:∃a,l[i]?=some a:=⟨_,aV u⟩
   have G:=xH hx;have L:=xF hx
   have b6:x.pre.length<=(bG l).length:=by
    have e:bG l=bG (l.take i)++bG (l.drop i):=by rw[<-iQ,List.take_append_drop]
    have:=mY List.length e;rw[aI,G]at this;omega
   simp only[go_sem,hx,u];(refine aM λc hc=>?_);simp only[go_sem,hx,u,hc];refine uK (aLm s p m q y F B z H (Ne.symm M)) x 1 _ _ () _ _ _ aB (by rw[<-G];exact O.st (bQ hc (aG _))) (λs4 v4 b1 b4=>?_);simp only[go_sem];exact⟨(i+1,_,s4),⟨u,by rw[L,List.foldl_append,<-U],b1⟩,aP,bM i aB,aG _⟩
  .have b3:i=l.length:=Nat.le_antisymm hi (Nat.le_of_not_lt (gQ h));subst b3;rw[List.take_length]at U;rw[eB (bL _)]at O;clear h hi;subst U;obtain⟨b2,gp,gm,gq⟩:=O;have b0:s1.getO q=some (.cells 9 [.str (rQ l)]):=gq;(refine bB (OT.r 0 4) [(2,[1])] ?_;simp only[go_sem,gp,b0,z,Ne.symm z]);exact aN (hk _ m (pC (pC b2 y _) B _))
structure BxI (s0:St) (p:Nat) (ty:TypeId) {α:Type} (f:α->A) (n:Nat) (a:α) (v:Unit) (s:St):Prop where
 ge:s.ge s0
 ob:s.getO p=some (.cells ty [f a])
def jJ(p:Nat)(v:Unit)(x:Nat):Prop:=x=p
section
variable {s0:St} {p n:Nat} {ty:TypeId} {α:Type} {f:α->A} {a:α} {v:Unit} {s s':St}
theorem BxI.st(h:BxI s0 p ty f n a v s)(q:s'.ge s):BxI s0 p ty f n a v s':=⟨q.trans h.ge,q.ob _ _ h.ob⟩
theorem BxI.fr{x:Nat}(h:BxI s0 p ty f n a v s)(q:s.getO x=none):¬ jJ p v x:=by
 rintro rfl;rw[h.ob]at q;cases q
theorem BxI.set{m:Nat}(h:BxI s0 p ty f m a v s)(q:s0.getO p=none)(b:α):BxI s0 p ty f n b v (s.setO p (.cells ty [f b]))/\Keep (jJ p) s v (s.setO p (.cells ty [f b])) v :=
 ⟨⟨pC h.ge q _,by rw[aH,aE rfl]⟩,Keep.set (show jJ p v p from rfl) _⟩
theorem BxI.keep{m:Nat}(h:BxI s0 p ty f m a v s)(q:s'.ge s):BxI s0 p ty f n a v s'/\Keep (jJ p) s v s' v:=⟨⟨(h.st q).ge,(h.st q).ob⟩,Keep.ge q v⟩
end
theorem aLk(s0:St)(p q r:Nat)(sg:Sig)(H:s0.getO p=none)(b0:s0.getO q=some (.cells 78 [.ptr r 0]))(hB:BookAt s0 r sg) :
  WalkOk (λa x=>a||aDc sg x) (BxI s0 p 4 A.bool) (jJ p) 99 [.ptr q 0,.ptr p 0] where
 st:=BxI.st
 fr:=BxI.fr
 go:=by
  intro n a v x b3 s KV Kp b5 Z h;simp only[bP,bS];have F:=Z.ob;have L:=Z.ge.ob _ _ b0;have b4:¬ p=q:=λe=>by rw[e,b0]at H;cases H
  have b1:=hB.ge Z.ge;unfold aDc at h;(refine aL func99 [0,2,3,4,7,11] ?_;simp only[go_sem,ntmps99,f99]);(refine aM λc y=>?_);have G:(s.setO c (.cells 39 x.cs)).ge s:=bQ y (aG s);have O:=aS F y;have U:=aS L y;obtain⟨k1,k2⟩:=Z.keep G;by_cases h5:x.kind=5
  .have M:decide (x.kind=5)=true:=cZ h5;rw[M,fW]at h;simp only[go_sem,y,M,O,U,F,L];refine aBZ (b1.ge (by simp only[Tm.cs]at G;exact G)) x.text ?_;simp only[go_sem,y,O,U,F,L];(refine aM λd hd=>?_);have B:((s.setO c (.cells 39 x.cs)).setO d (.cells 64 (kW sg x.text).1.cs)).ge s:=by simp only[Tm.cs,Opr.cs];exact bA
   have b2:BxI s0 p 4 A.bool (n+1) a v ((s.setO c (.cells 39 x.cs)).setO d (.cells 64 (kW sg x.text).1.cs)):=Z.st B;obtain⟨z,u⟩:=b2.set H (a||(kW sg x.text).2.1);have u:=(Keep.ge (Ow:=jJ p) B v).trans u;simp only[Tm.cs,Opr.cs]at z u;have e3:=aS F hd.2;simp only[go_sem,y,hd,O,U,e3,F,L];cases ha:a
   .rw[ha]at h z u;simp only[iO]at h z u;cases hf:(kW sg x.text).2.1<;>rw[hf]at h z u<;>simp only[go_sem,y,hd,O,U,e3,F,L,ha]
    .exact aN (h _ _ z u)
    .exact aN (h _ _ z u)
   .rw[ha]at h z u;simp only[lS]at h z u;simp only[go_sem,y,hd,O,U,e3,F,L,ha];exact aN (h _ _ z u)
  .have M:decide (x.kind=5)=false:=cH h5;rw[M,gG,mS]at h;simp only[go_sem,y,M];simp only[Tm.cs]at k1 k2;exact aN (h _ _ k1 k2)
theorem aNe{α:Type}(f:α->Bool)(l:List α):∀a:Bool,l.foldl (λa x=>a||f x) a=(a||l.any f):=by
 induction l with
 | nil=>intro a;simp
 | cons x r h=>intro a;rw[List.foldl_cons,h,List.any_cons,Bool.or_assoc]
theorem aMB{α:Type}(f:α->Bool)(l:List α):∀a:Bool,l.foldl (λa x=>a&&f x) a=(a&&l.all f):=by
 induction l with
 | nil=>intro a;simp
 | cons x r h=>intro a;rw[List.foldl_cons,h,List.all_cons,Bool.and_assoc]
theorem aEb{r:Nat}{sg:Sig}{s:St}{KV Kp:St->A->Prop}(h:BookAt s r sg)(t:Tm)(O:t.pre.length<=4294967296)(U:KV s (.bool (tB sg t))):Den cx 58 [.ptr r 0,.agg t.cs] KV Kp s:=by
 (refine aL func58 [0,1,2,3,4,5] ?_;simp only[go_sem,ntmps58,f58]);(refine aM λq G=>?_);simp only[go_sem,G];(refine aM λc B=>?_);simp only[go_sem,G,B];(refine aM λp L=>?_);simp only[go_sem,G,B,L];have z:((s.setO q (.cells 78 [.ptr r 0])).setO c (.cells 39 t.cs)).ge s:=by simp only[Tm.cs];exact bA
 have u:((s.setO q (.cells 78 [.ptr r 0])).setO c (.cells 39 t.cs)).getO p=none:=by simp only[aH,L,cI]
 have F:¬ c=q:=λe=>by subst e;simp at B
 refine uK (aLk ((s.setO q (.cells 78 [.ptr r 0])).setO c (.cells 39 t.cs)) p q r sg u (by simp only[aH,cM,aD F]) (h.ge z)) t 1 0 false () _ _ _ O
  ⟨by simp only[Tm.cs];exact bQ (by simp only[Tm.cs]at u;exact u) (aG _),by rw[aH,aE rfl]⟩ (λZ v4 y M=>?_)
 have H:=y.ob;rw[aNe,iO]at H;simp only[go_sem,H];exact aF U (y.ge.trans z)
end
theorem aKI{l:List Tm}{i:Nat}{x:Tm}(h:l[i]?=some x):rZ (l.drop i)=x::rZ (l.drop (i+2)):=by
 obtain⟨u,rfl⟩:=dG.1 h;rw[kN u];by_cases q:i+1<l.length
 .rw[kN q];rfl
 .rw[eB aB,eB aB];rfl
theorem aNY(s0:St)(p:Nat)(b2:s0.getO p=none):WalkOk (λa x=>a&&vU x) (BxI s0 p 4 A.bool) (jJ p) 102 [.ptr p 0] where
 st:=BxI.st
 fr:=BxI.fr
 go := by
  intro n a v x b8 s KV Kp bb hI G;simp only[bP,bS];have gp:=hI.ob;(refine aL func102 [0,2,3,5,6,21,26] ?_;simp only[go_sem,ntmps102,f102]);(refine aM λc U=>?_);have L:(s.setO c (.cells 39 x.cs)).ge s:=bQ U (aG s);have e1:=aS gp U;have b4:BxI s0 p 4 A.bool n a v (s.setO c (.cells 39 x.cs)):=(hI.keep L).1;by_cases h8:x.kind=8
  .have d6:decide (x.kind=6)=false:=by rw[h8];rfl
   have d8:decide (x.kind=8)=true:=cZ h8;have b3:vU x=(rZ x.kids).all tR:=by unfold vU;rw[d6,d8];rfl
   rw[b3]at G;obtain⟨H,u⟩:=b4.set (n:=n) b2 a;have u:=(Keep.ge (Ow:=jJ p) L v).trans u
   have b9:s0.getO c=none:=by
    cases h0:s0.getO c with
    | none=>rfl
    | some o=>rw[hI.ge.ob c o h0]at U;cases U
   have b5:((s.setO c (.cells 39 x.cs)).setO p (.cells 4 [.bool a])).getO c=some (.cells 39 x.cs):=by rw[aH,aD (λe=>e1.1 e),aH,aE rfl]
   generalize hT:(a&&(rZ x.kids).all tR)=tgt at G;simp only[Tm.cs]at H u b5;cases a<;>simp only[go_sem,U,gp,e1,d6,d8]
   all_goals
    refine Ex.loop (ι:=Nat × Bool × St) (λd=>[(2,.ptr p 0),(3,.ptr c 0),(5,.int .i64 (d.1:Nat))]) (λd=>d.2.2)
     (λd=>d.1<=x.kids.length+1/\(d.2.1&&(rZ (x.kids.drop d.1)).all tR)=tgt/\BxI s0 p 4 A.bool n d.2.1 v d.2.2/\Keep (jJ p) s v d.2.2 v/\d.2.2.getO c=some (.cells 39 x.cs)) (λd=>x.kids.length+1-d.1) (0,_,_)
     ⟨aX _,hT,H,u,b5⟩ ?_ (aG _) ?_
    .simp only[go_sem]
     try rfl
    .rintro⟨i,b,s1⟩ ⟨hi,z,O,b1,F⟩;simp only at hi z O b1 F;have g1:=O.ob;simp only[Tm.cs]at F;refine bC (V:=[0,2,3,5,6,21,26]) _ _ _ _ ?_;simp only[go_sem,F]
     (apply aQ<;>intro h)<;>simp only[go_sem,h,F]
     .have b6:i<x.kids.length:=gQ h;clear h;obtain⟨y,hy⟩:∃a,x.kids[i]?=some a:=⟨_,aV b6⟩
      have b7:=aKI hy;rw[b7,List.all_cons,<-Bool.and_assoc]at z;simp only[go_sem,F,hy,b6];(refine aM λd Z=>?_);have f1:=aS g1 Z;have f2:=aS F Z
      have w2:IntKind.i64.wrap ((i:Int)+2)=((i+2:Nat):Int):=by
       rw[eW _ aB aB];omega
      have b0:(s1.setO d (.cells 39 y.cs)).ge s1:=bQ Z (aG _);obtain⟨M,B⟩:=((O.keep b0).1:BxI s0 p 4 A.bool n b v _).set (n:=n) b2 (b&&tR y);have B:=(b1.trans (Keep.ge (Ow:=jJ p) b0 v)).trans B
      have q:((s1.setO d (.cells 39 y.cs)).setO p (.cells 4 [.bool (b&&tR y)])).getO c=some (.cells 39 x.cs):=by
       rw[aH,aD (λe=>e1.1 e),aH,aD (λe=>f2.1 e.symm)];simp only[Tm.cs];exact F
      simp only[Tm.cs]at M B q;cases b
      .simp only[go_sem,Z,f1,f2,g1,F];simp only[gG]at z M B q;exact⟨(i+2,false,_),⟨aP,by rw[<-z];rfl,M,B,q⟩,aP,w2,aG _⟩
      .simp only[go_sem,Z,f1,f2,g1,F];refine aI4 y ?_;simp only[fW,tR]at z M B q;cases c1:aAU y<;>rw[c1]at z M B q<;>simp only[go_sem,Z,f1,f2,g1,F]
       .cases c2:decide (y.kind=6)<;>rw[c2]at z M B q<;>simp only[go_sem,Z,f1,f2,g1,F,c2]
        .exact⟨(i+2,_,_),⟨aP,z,M,B,q⟩,aP,w2,aG _⟩
        .cases c3:decide (y.text=[95])<;>rw[c3]at z M B q<;>(try simp only[go_sem,Z,f1,f2,g1,F,c2,c3])
         .exact⟨(i+2,_,_),⟨aP,z,M,B,q⟩,aP,w2,aG _⟩
         .exact⟨(i+2,_,_),⟨aP,z,M,B,q⟩,aP,w2,aG _⟩
       .exact⟨(i+2,_,_),⟨aP,z,M,B,q⟩,aP,w2,aG _⟩
     .have L:x.kids.length<=i:=Nat.le_of_not_lt (gQ h);rw[eB L]at z;simp only[rZ,List.all_nil,jB]at z;subst z;exact aN (G _ _ O b1)
  .have d8:decide (x.kind=8)=false:=cH h8;have b3:vU x=!(decide (x.kind=6)&&decide (x.text=[36])):=by unfold vU;rw[d8];simp
   rw[b3]at G;obtain⟨H,u⟩:=b4.set (n:=n) b2 (a&&!(decide (x.kind=6)&&decide (x.text=[36])));have u:=(Keep.ge (Ow:=jJ p) L v).trans u;simp only[Tm.cs]at H u;cases a
   .simp only[gG]at G H u;simp only[go_sem,U,gp,e1,d8];exact aN (G _ _ H u)
   .simp only[fW]at G H u;cases c1:decide (x.kind=6)<;>rw[c1]at G H u<;>simp only[go_sem,U,gp,e1,d8,c1]
    .exact aN (G _ _ H u)
    .cases c2:decide (x.text=[36])<;>rw[c2]at G H u<;>simp only[go_sem,U,gp,e1,d8,c1,c2]
     .exact aN (G _ _ H u)
     .exact aN (G _ _ H u)
section
theorem fL{C:Cx}{f:FuncId}{l q:List A}{KV Kp:St->A->Prop}{s:St}(h:Den C f l KV Kp s)(e:q=l):Den C f q KV Kp s:=by rw[e];exact h
theorem wE(t:Tm):[t].map Tm.enc=[.agg t.cs]:=by simp only[List.map,cG]
theorem aEg{r:Nat}{sg:Sig}{s:St}{KV Kp:St->A->Prop}(h:BookAt s r sg)(t:Tm)(hw:TmW t)(hb:t.pre.length<=4294967200)(q:KV s (.bool (rV sg t))):Den cx 59 [.ptr r 0,.agg t.cs] KV Kp s:=by
 unfold rV at q;(refine aL func59 [0,1,3,4,6,7,21] ?_;simp only[go_sem,ntmps59,f59]);(refine aM λc y=>?_);have G:BookAt (s.setO c (.cells 39 t.cs)) r sg:=h.ge (bQ y (aG s));simp only[Tm.cs]at G;simp only[go_sem,y];refine aEM t hw _ _ _ ?_;cases M:(Tm.val 60 t 0).isSome<;>rw[M]at q<;>simp only[go_sem,y]
 .exact aF q bA
 refine aEF t G ?_;cases O:iC sg t<;>rw[O]at q<;>simp only[go_sem,y]
 .exact aF q bA
 refine aEb G t aB ?_;cases U:tB sg t<;>rw[U]at q<;>simp only[go_sem,y]
 rotate_left
 .exact aF q bA
 refine fL (aD7 [t] (by simp only[bG,dQ];omega) _ _ _ (λs1 m z=>?_)) (by rw[wE];rfl);have B:s1.getO c=some (.cells 39 t.cs):=z.ob _ _ (by simp only[aH,cM];rfl);simp only[Tm.cs]at B;simp only[go_sem,B];(refine aM λp F=>?_);have Z:=aS B F;simp only[go_sem,B,F,Z];have H:s1.ge s:=z.trans bA;have h0:BxI s1 p 4 A.bool (t.pre.length+0) (decide (rQ [t]=[])) () (s1.setO p (.cells 4 [.bool (decide (rQ [t]=[]))])):=⟨bQ F (aG _),by rw[aH,aE rfl]⟩;refine uK (aNY s1 p F) t 1 0 _ () _ _ _ aB h0 (λs4 v4 u b0=>?_);have L:=u.ob;rw[aMB]at L;simp only[go_sem,L];exact aF q (u.ge.trans H)
def CK(KV Kp:St->A->Prop)(s:St):Option Fault->Prop
 | none=>KV s (.tuple [])
 | some f=>Kp s (.iface 51 f.enc)
section
variable {s:St} {KV Kp:St->A->Prop}
theorem iJ{a b:Option Fault}(h:CK KV Kp s (bU a b)){q u:St->A->Prop}{s':St}(y:CK KV Kp s b->q s' (.tuple []))(z:∀f:Fault,Kp s (.iface 51 f.enc)->u s' (.iface 51 f.enc)):CK q u s' a:=by
 cases a with
 | none=>exact y h
 | some f=>exact z f h
theorem aKH(h:Int)(n:aC)(l c:Int)(q:Kp s (.iface 51 (⟨h,n,l,c⟩:Fault).enc)):Den cx 41 [.int .i64 h,.str n,.int .i64 l,.int .i64 c] KV Kp s:=by
 (refine aL func41 [0,1,2,3] ?_;simp only[go_sem,ntmps41,f41]);exact aN q
theorem eC(h:Int)(n:aC)(l c:Int)(q:Kp s (.iface 51 (⟨h,n,l,c⟩:Fault).enc)):Den cx 19 [.agg [.int .i64 l,.int .i64 c],.int .i64 h,.str n] KV Kp s:=by
 (refine aL func19 [0,1,2,3] ?_;simp only[go_sem,ntmps19,f19]);(refine aM λp u=>?_);simp only[go_sem,u];refine aKH h n l c ?_;simp only[go_sem];exact aF q bA
def CkAt(s:St)(c:Nat)(d:Dfn):Prop:=∃r,s.getO c=some (.cells 81 (d.cs++[.ptr r 0]))/\BookAt s r d.sig
theorem CkAt.ge{s s':St}{c:Nat}{d:Dfn}(h:CkAt s c d)(q:s'.ge s):CkAt s' c d:=by
 obtain⟨r,u,y⟩:=h;exact⟨r,q.ob _ _ u,y.ge q⟩
variable {c:Nat} {d:Dfn}
theorem aJ9(h:CkAt s c d)(t:Tm)(B:KV s (.str (qO d.sig t))):Den cx 106 [.ptr c 0,.agg t.cs] KV Kp s:=by
 obtain⟨r,q,z⟩:=h;(refine aL func106 [0,1,3,4] ?_;simp only[go_sem,ntmps106,f106]);(refine aM λp u=>?_);have y:=aS q u;simp only[go_sem,u,y,q];(refine bB (OT.r 0 7) [] ?_;simp only[go_sem,u,y,q]);refine aD8 (z.ge (by exact bA)) t ?_;simp only[go_sem];exact aF B bA
theorem uH(h:CkAt s c d)(n:aC)(l k:Int)(t:Tm)(S:aC)(B:CK KV Kp s (iT d.sig n l k t S)):Den cx 62 [.ptr c 0,.agg [.int .i64 l,.int .i64 k],.str n,.agg t.cs,.str S] KV Kp s:=by
 have H:=h;obtain⟨r,y,L⟩:=h;unfold iT dN at B;(refine aL func62 [0,1,2,3,4,6,8,19] ?_;simp only[go_sem,ntmps62,f62]);(refine aM λp u=>?_);simp only[go_sem,u];(refine aM λq z=>?_);have F:=aS y u;have G:=aS y z.2;simp only[go_sem,u,z,y,F,G];(refine bB (OT.l [0,1,2,3,4,5,7,6,8,9] .nil) [(6,[3])] ?_;simp only[go_sem,u,z,F,G,y]);refine aJ9 (H.ge (by exact bA)) t ?_;simp only[go_sem,u,z,F,G,y];refine aET (L.ge (by exact bA)) _ S ?_;cases M:tJ d.sig (qO d.sig t) S<;>rw[M]at B<;>simp only[go_sem,u,z]
 .refine eC 16 n l k ?_;simp only[go_sem];exact aF B bA
 .exact aF B bA
theorem xD(h:CkAt s c d)(n:aC)(l k:Int)(u:List Tm)(G:CK KV Kp s (lD d.sig n l k u)):Den cx 57 [.ptr c 0,.agg [.int .i64 l,.int .i64 k],.str n,.list none (u.map Tm.enc)] KV Kp s:=by
 refine fS λL=>?_
 have b0:Rlz (.list none (u.map Tm.enc)):=L _ aW;clear L;obtain⟨r,F,hB⟩:=h;unfold lD dN at G;(refine aL func57 [0,1,2,3,5,9,10,11,12,13,22] ?_;simp only[go_sem,ntmps57,f57]);(refine aM λp B=>?_);have O:=aS F B;simp only[go_sem,B,F,O]
 refine Ex.loop (ι:=Nat) (λi=>[(0,.ptr c 0),(2,.str n),(5,.ptr p 0),(10,.list none (u.map Tm.enc)),(11,.int .i64 (u.length:Nat)),(12,.int .i64 (i:Nat))])
  (λ_=>s.setO p (.cells 75 [.int .i64 l,.int .i64 k])) (λi=>i<=u.length/\(u.take i).all (iC d.sig)=true) (λi=>u.length-i) 0 ⟨aX _,rfl⟩ ?_ (aG _) ?_
 .simp only[go_sem]
  try exact rfl
 .rintro i ⟨hi,y⟩;refine bC (V:=[0,1,2,3,5,9,10,11,12,13,22]) _ _ _ _ ?_;simp only[go_sem,B]
  (apply aQ<;>intro h)<;>simp only[go_sem,h,B]
  .have z:i<u.length:=gQ h;clear h;obtain⟨x,M⟩:∃a,u[i]?=some a:=⟨_,aV z⟩
   have b1:x∈u:=cR M;have ht:(u.take (i+1)).all (iC d.sig)=iC d.sig x:=by rw[eO,M,List.all_append,y];simp
   simp only[go_sem,B,M,z];(refine aM λq H=>?_);have e2:=aS F H.2;simp only[go_sem,B,M,z,H,O,e2,F];(refine bB (OT.r 0 7) [] ?_;simp only[go_sem,B,H,O,e2,F]);refine aEF x (hB.ge (by exact bA)) ?_;cases U:iC d.sig x
   .simp only[go_sem,B,H]
    have e:u.all (iC d.sig)=false:=by
     rw[wY];intro e;rw[fR]at e;rw[e x b1]at U;cases U
    rw[e]at G;refine eC 16 n l k ?_;simp only[go_sem];exact aF G bA
   .simp only[go_sem,B,H];exact⟨i+1,⟨z,by rw[ht,U]⟩,by omega,b0.wrap (i:=i) (gQ z),bK⟩
  .have Z:i=u.length:=Nat.le_antisymm hi (Nat.le_of_not_lt (gQ h));subst Z;rw[List.take_length]at y;rw[y]at G;exact aF G bA
theorem aJr(l k:Int)(u:List Tm)(F:(bG u).length<=4294967200)(y:CK KV Kp s (sB l k u)):Den cx 60 [.agg [.int .i64 l,.int .i64 k],.list none (u.map Tm.enc)] KV Kp s:=by
 unfold sB dN at y;(refine aL func60 [0,1,2,5,12] ?_;simp only[go_sem,ntmps60,f60]);(refine aM λp G=>?_);simp only[go_sem,G];refine aD7 u F _ _ _ (λs1 m q=>?_);have B:s1.getO p=some (.cells 75 [.int .i64 l,.int .i64 k]):=q.ob _ _ gH;have h:s1.ge s:=q.trans bA;cases z:decide (rQ u=[])<;>rw[z]at y<;>simp only[go_sem,B,z]
 .refine eC 16 _ l k ?_;simp only[go_sem];exact aF y h
 .exact aF y h
end
end
section
theorem nU{α:Type}(f:α->Option Fault){l:List α}{i:Nat}{x:α}(h:l[i]?=some x):dH f (l.drop i)=bU (f x) (dH f (l.drop (i+1))):=by
 obtain⟨q,rfl⟩:=dG.1 h;rw[kN q];rfl
section
variable {s:St} {KV Kp:St->A->Prop} {c:Nat} {d:Dfn}
theorem aIZ(l k:Int)(q B:List Tm)(H:(bG q).length<=4294967200)(M:(bG B).length<=4294967200)(u:CK KV Kp s (rT l k q B)) :
  Den cx 61 [.agg [.int .i64 l,.int .i64 k],.list none (q.map Tm.enc),.list none (B.map Tm.enc)] KV Kp s:=by
 unfold rT at u
 have Z:(iK B).length<=(bG B).length:=by
  unfold iK oH;rw[(rE _).length_eq,aK];exact List.length_filter_le _ _
 (refine aL func61 [0,1,2,3,6,8,12,13,14,15,29] ?_;simp only[go_sem,ntmps61,f61]);(refine aM λp y=>?_);simp only[go_sem,y];refine aJC q H _ _ _ (λvs b0=>?_);simp only[go_sem,y,strs];refine aEK B M _ _ _ ?_;simp only[go_sem,y,strs];generalize iK B=L at u Z⊢
 refine Ex.loop (ι:=Nat) (λi=>[(3,.ptr p 0),(6,.list none (vs.map .str)),(12,.list none (L.map .str)),(13,.int .i64 (L.length:Nat)),(14,.int .i64 (i:Nat))])
  (λ_=>s.setO p (.cells 75 [.int .i64 l,.int .i64 k])) (λi=>i<=L.length/\CK KV Kp s (dH (λs=>dN (decide (s=[95])||(decide (s=[36])||!decide (s∈oH q))) ⟨17,s,l,k⟩) (L.drop i))) (λi=>L.length-i) 0 ⟨aX _,u⟩ ?_ (aG _) ?_
 .simp only[go_sem]
  try exact rfl
 .clear u;rintro i ⟨hi,u⟩;refine bC (V:=[0,1,2,3,6,8,12,13,14,15,29]) _ _ _ _ ?_;simp only[go_sem,y]
  (apply aQ<;>intro h)<;>simp only[go_sem,h,y]
  .have z:i<L.length:=gQ h;clear h;obtain⟨x,hx⟩:∃a,L[i]?=some a:=⟨_,aV z⟩
   rw[nU _ hx]at u;simp only[go_sem,y,hx,z];cases G:decide (x=[95])<;>rw[G]at u<;>simp only[go_sem,y,G]
   rotate_left
   ·replace u:CK KV Kp s (some (⟨17,x,l,k⟩:Fault)):=u
    refine eC 17 x l k ?_;simp only[go_sem];exact aF u bA
   cases c2:decide (x=[36])<;>rw[c2]at u<;>simp only[go_sem,y,G,c2]
   rotate_left
   ·replace u:CK KV Kp s (some (⟨17,x,l,k⟩:Fault)):=u
    refine eC 17 x l k ?_;simp only[go_sem];exact aF u bA
   have U:x≠[95]:=of_decide_eq_false G;have F:decide (x∈vs)=decide (x∈oH q):=by rw[cW,b0];exact⟨λh=>h.1,λh=>⟨h,U⟩⟩
   refine kR _ _ _ _ _ ?_;rw[F];cases c3:decide (x∈oH q)<;>rw[c3]at u<;>simp only[go_sem,y]
   ·replace u:CK KV Kp s (some (⟨17,x,l,k⟩:Fault)):=u
    refine eC 17 x l k ?_;simp only[go_sem];exact aF u bA
   .exact⟨i+1,⟨z,u⟩,by omega,bM i aB,bK⟩
  .have O:i=L.length:=Nat.le_antisymm hi (Nat.le_of_not_lt (gQ h));subst O;rw[eB (bL _)]at u;exact aF u bA
theorem aFD{α:Type}{q:α->Bool}{l:List α}{i:Nat}{x:α}(h:l[i]?=some x)(u:(l.take i).find? q=none):(l.take (i+1)).find? q=if q x=true then some x else none:=by
 rw[eO,h,List.find?_append,u];cases y:q x<;>simp[y]
theorem aEo{α:Type}{q:α->Bool}{l:List α}{i:Nat}{x:α}(h:(l.take i).find? q=some x):l.find? q=some x:=by
 rw[<-List.take_append_drop i l,List.find?_append,h];rfl
theorem aCd(h:CkAt s c d)(ho:d.once.length<=4294967000)(hm:d.many.length<=4294967000)(n:aC)(F:KV s (.tuple [.str (gJ d n).1,.bool (gJ d n).2.1,.bool (gJ d n).2.2])):Den cx 65 [.ptr c 0,.str n] KV Kp s:=by
 obtain⟨r,O,Z⟩:=h;unfold gJ at F;(refine aL func65 [0,1,4,5,6,8,10,15,16,17,18,24,32,33,34,35,41] ?_;simp only[go_sem,ntmps65,f65]);simp only[go_sem,O]
 refine Ex.loop (ι:=Nat) (λi=>[(0,.ptr c 0),(1,.str n),(15,.list none (d.once.map Cel.enc)),(16,.int .i64 (d.once.length:Nat)),(17,.int .i64 (i:Nat))])
  (λ_=>s) (λi=>i<=d.once.length/\(d.once.take i).find? (λx=>decide (x.name=n))=none) (λi=>d.once.length-i) 0 ⟨aX _,rfl⟩ ?_ (aG _) ?_
 .simp only[go_sem]
  try exact rfl
 .rintro i ⟨M,u⟩;refine bC (V:=[0,1,4,5,6,8,10,15,16,17,18,24,32,33,34,35,41]) _ _ _ _ ?_;simp only[go_sem]
  (apply aQ<;>intro h)<;>simp only[go_sem,h]
  .have z:i<d.once.length:=gQ h;clear h;obtain⟨x,L⟩:∃a,d.once[i]?=some a:=⟨_,aV z⟩
   have y:=aFD L u;simp only[go_sem,L,z];(refine aM λq G=>?_);have U:=aS O G;simp only[go_sem,L,z,G];cases B:decide (x.name=n)
   .rw[B,aD fJ]at y;simp only[go_sem,G,B];exact⟨i+1,⟨z,y⟩,by omega,bM i aB,bK⟩
   .rw[B,aE rfl]at y;rw[aEo y]at F;simp only[go_sem,G,B];exact aF F bA
  .have H:i=d.once.length:=Nat.le_antisymm M (Nat.le_of_not_lt (gQ h));subst H;clear h M;rw[List.take_length]at u;rw[u]at F;simp only at F;simp only[go_sem,O]
   refine Ex.loop (ι:=Nat) (λi=>[(0,.ptr c 0),(1,.str n),(32,.list none (d.many.map Cel.enc)),(33,.int .i64 (d.many.length:Nat)),(34,.int .i64 (i:Nat))])
    (λ_=>s) (λi=>i<=d.many.length/\(d.many.take i).find? (λx=>decide (x.name=n))=none) (λi=>d.many.length-i) 0 ⟨aX _,rfl⟩ ?_ (aG _) ?_
   .simp only[go_sem]
    try exact rfl
   .rintro i ⟨M,u⟩;refine bC (V:=[0,1,4,5,6,8,10,15,16,17,18,24,32,33,34,35,41]) _ _ _ _ ?_;simp only[go_sem]
    (apply aQ<;>intro h)<;>simp only[go_sem,h]
    .have z:i<d.many.length:=gQ h;clear h;obtain⟨x,L⟩:∃a,d.many[i]?=some a:=⟨_,aV z⟩
     have y:=aFD L u;simp only[go_sem,L,z];(refine aM λq G=>?_);have U:=aS O G;simp only[go_sem,L,z,G];cases B:decide (x.name=n)
     .rw[B,aD fJ]at y;simp only[go_sem,G,B];exact⟨i+1,⟨z,y⟩,by omega,bM i aB,bK⟩
     .rw[B,aE rfl]at y;rw[aEo y]at F;simp only[go_sem,G,B];exact aF F bA
    .have H:i=d.many.length:=Nat.le_antisymm M (Nat.le_of_not_lt (gQ h));subst H;clear h M;rw[List.take_length]at u;rw[u]at F;exact aN F
end
end
def lF(e:Eqn):List Tm:=[e.left,e.right]++e.cond
def lJ(p:Part):List Tm:=[p.left]++p.right
def jW(r:Rul):List Tm:=r.parts.flatMap lJ++(r.cond++r.new.flatMap Fresh.cells)
def kK(c:Cel):List Tm:=[c.init]
def qR(d:Dfn):List Tm:=d.eqs.flatMap lF++((d.once++d.many).flatMap kK++d.rules.flatMap jW)
theorem yA(d:Dfn):qR d=fP d:=by
 have e:∀l:List Cel,l.flatMap kK=l.map Cel.init:=λl=>by induction l with|nil=>rfl|cons x r h=>simp only[kP,h,bN];rfl
 simp only[qR,fP,e];rfl
theorem xZ{α q:Type}(f:α->List q){l:List α}{i:Nat}{x:α}(h:l[i]?=some x):(l.take (i+1)).flatMap f=(l.take i).flatMap f++f x:=by
 rw[eO,h,List.flatMap_append];simp
theorem yN{α q:Type}(f:α->List q)(l:List α)(i:Nat):((l.take i).flatMap f).length<=(l.flatMap f).length:=by
 have h:(l.flatMap f).length=((l.take i).flatMap f).length+((l.drop i).flatMap f).length:=by rw[<-aI,<-List.flatMap_append,List.take_append_drop]
 omega
theorem aGg(e:Eqn):(lF e).length=2+e.cond.length:=by simp only[lF,aI,aO,aU]
theorem aGj(p:Part):(lJ p).length=1+p.right.length:=by simp only[lJ,aI,aO,aU]
theorem pE(l:List Tm):∀y,y∈l.map Tm.enc->y.cells.length=6:=λy h=>mG h
theorem zC{tk:Option Nat}{l:List Tm}{s:St}(h:tk=none->l=[]):gZ (gs s tk l.length 39) tk (l.map Tm.enc).length 39:=by
 rw[aK];exact eD λe=>by rw[h e];rfl
theorem aEU(x:Dfn)(hB:(qR x).length<=4294967296)(hM:x.once.length+x.many.length<=4294967000)(s:St)(KV Kp:St->A->Prop)(hk:KV s (.list none ((qR x).map Tm.enc))):Den cx 31 [.agg x.cs] KV Kp s:=by
 refine fS λbn=>?_
 have bp:=bn _ (dZ ..);have bt:Rlz (.list none (x.eqs.map Eqn.enc)):=bp.cell (by simp[Dfn.cs]);have bm:Rlz (.list none (x.rules.map Rul.enc)):=bp.cell (by simp[Dfn.cs]);clear bn
 have bc:(x.eqs.flatMap lF).length+(((x.once++x.many).flatMap kK).length+(x.rules.flatMap jW).length)<=4294967296:=by
  unfold qR at hB;simpa only[aI]using hB
 simp only[go_sem];(refine aL func31 [0,1,2,3,5,7,9,11,13,15,16,17,18,37,38,39,40,50,51,52,53,57,58,59,60,77,78,79,80] ?_;simp only[go_sem,ntmps31,f31]);(refine aM λp hp=>?_);simp only[go_sem,hp]
 refine Ex.loop (ι:=Nat × Option Nat) (λc=>[(1,.ptr p 0),(3,gv c.2 (((x.eqs.take c.1).flatMap lF).map Tm.enc)),(15,.list none (x.eqs.map Eqn.enc)),(16,.int .i64 x.eqs.length),(17,.int .i64 (c.1:Nat))])
  (λc=>gs (s.setO p (.cells 31 x.cs)) c.2 ((x.eqs.take c.1).flatMap lF).length 39)
  (λc=>pT s ((x.eqs.take c.1).flatMap lF) c.2/\c.1<=x.eqs.length) (λc=>x.eqs.length-c.1) (0,none) ⟨⟨λ_=>rfl,λt e=>(by cases e)⟩,aX _⟩ ?_ (by exact aG _) ?_
 ·(simp only[go_sem,hp];try exact⟨rfl,rfl⟩)
 ·rintro ⟨i,tk⟩ ⟨⟨z,B⟩,hi⟩;simp only at z B hi;refine bC (V := [0,1,2,3,5,7,9,11,13,15,16,17,18,37,38,39,40,50,51,52,53,57,58,59,60,77,78,79,80]) _ _ _ _ ?_;simp only [go_sem,hp]
  (apply aQ<;>intro h)<;>simp only[go_sem,h,hp]
  .have F:i<x.eqs.length:=gQ h;clear h;obtain⟨e,he⟩:∃a,x.eqs[i]?=some a:=⟨_,aV F⟩
   have G:=xZ lF he;have O:=yN lF x.eqs (i+1);rw[G,aI,aGg]at O;simp only[go_sem,hp,he,F];(refine mP λb5 bb=>?_);simp only[go_sem,hp,he,F,bb];(refine bB (OT.l [0,1,2,3,4,7,8,5,6,9,10] .nil) [(5,[8]),(6,[8])] ?_;simp only[go_sem,hp,he,F,bb]);refine⟨by decide,λy Z=>?_,cT rfl rfl (zC z) (pE _) (by simp only[aK,aO,aU];omega) (λu hu=>?_)⟩
   .simp only[dD,List.mem_nil_iff,eU]at Z;rcases Z with rfl|rfl<;>rfl
   have U:=eX hu B;rw[eP hu];simp only[go_sem,hp,he,F,bb];refine⟨by decide,pE _,by simp only[aI,aK,aO,aU],λy Z=>?_,by simp only[aI,aK,aO,aU];omega,?_⟩
   .simp only[dK,dD,List.mem_nil_iff,eU]at Z;rcases Z with Z|rfl|rfl
    .exact mG Z
    .rfl
    .rfl
   refine⟨(i+1,some u),⟨⟨λh=>(by cases h),λt h=>by cases h;exact U⟩,F⟩,aP,?_,?_⟩
   .simp only[go_sem,bt.wrap (i:=i) (gQ F),dB,G,bY,lF,fF]
   .have e1:∀(a b:A),(List.map Tm.enc ((x.eqs.take i).flatMap lF)++[a,b]).length+e.cond.length=((x.eqs.take (i+1)).flatMap lF).length:=λa b=>by simp only[G,aI,aGg,aK,aO,aU];omega
    rw[aAe,e1];exact fY (hH (And.intro hp bb))
  .have b3:i=x.eqs.length:=by have:¬ i<x.eqs.length:=gQ h;omega
   subst b3;rw[List.take_length]at z;rw[List.take_length];clear h hi;obtain⟨L0,bf⟩:∃L,L=x.eqs.flatMap lF:=⟨_,rfl⟩
   rw[<-bf]at z bc⊢;refine aBY [x.once,x.many] (by simp only[List.flatten_cons,List.flatten_nil,dQ,aI];omega) _ _ _ ?_;rw[show [x.once,x.many].flatten=x.once++x.many by simp];simp only[go_sem];obtain⟨CL,b4⟩:∃L,L=x.once++x.many:=⟨_,rfl⟩
   have bk:CL.length<=4294967000:=by rw[b4,aI];exact hM
   rw[<-b4]at bc⊢
   refine Ex.loop (ι:=Nat × Option Nat) (λc=>[(1,.ptr p 0),(3,gv c.2 ((L0++(CL.take c.1).flatMap kK).map Tm.enc)),(37,.list none (CL.map Cel.enc)),(38,.int .i64 (CL.length:Nat)),(39,.int .i64 (c.1:Nat))])
    (λc=>gs (s.setO p (.cells 31 x.cs)) c.2 (L0++(CL.take c.1).flatMap kK).length 39)
    (λc=>pT s (L0++(CL.take c.1).flatMap kK) c.2/\c.1<=CL.length) (λc=>CL.length-c.1) (0,tk) ⟨⟨gQ z,B⟩,aX _⟩ ?_ (by simp only[List.take_zero,List.flatMap_nil,dQ];exact aG _) ?_
   .simp only[go_sem];simp
   .clear z B tk;rintro⟨i,tk⟩ ⟨⟨z,B⟩,hi⟩;simp only at z B hi;refine bC (V:=[0,1,2,3,5,7,9,11,13,15,16,17,18,37,38,39,40,50,51,52,53,57,58,59,60,77,78,79,80]) _ _ _ _ ?_;simp only[go_sem]
    (apply aQ<;>intro h)<;>simp only[go_sem,h]
    .have F:i<CL.length:=gQ h;clear h;obtain⟨o,ho⟩:∃a,CL[i]?=some a:=⟨_,aV F⟩
     have G:=xZ kK ho;have O:=yN kK CL (i+1);rw[G,aI]at O;simp only[kK,aO,aU]at O;simp only[go_sem,hp,ho,F];(refine mP λb7 bh=>?_);simp only[go_sem,hp,ho,F,bh];refine⟨by decide,λy Z=>by simp only[cC]at Z;subst Z;rfl,cT rfl rfl (zC z) (pE _) (by simp only[aK,aI,aO,aU];omega) (λu hu=>?_)⟩;have U:=eX hu B;rw[eP hu];simp only[go_sem,hp,ho,F,bh];refine⟨(i+1,some u),⟨⟨λh=>(by cases h),λt h=>by cases h;exact U⟩,F⟩,aP,?_,?_⟩
     .simp only[go_sem,bM i aB,dB,G,bY,kK,fF]
     .rw[show(L0++(CL.take i).flatMap kK).length+1=(L0++(CL.take (i+1)).flatMap kK).length by rw[G];simp only[aK,aI,kK,aO,aU];omega];exact fY (hH (And.intro hp bh))
    .have b3:i=CL.length:=by have:¬ i<CL.length:=gQ h;omega
     subst b3;clear h hi;rw[List.take_length]at z;rw[List.take_length];obtain⟨L1,b6⟩:∃L,L=L0++CL.flatMap kK:=⟨_,rfl⟩
     have c2:L1.length+(x.rules.flatMap jW).length<=4294967296:=by rw[b6,aI];omega
     rw[<-b6]at z⊢;have bl:qR x=L1++x.rules.flatMap jW:=by rw[qR,<-bf,<-b4,b6,fF]
     rw[bl]at hk;clear bc hB;clear b4 bk b6 bf L0
     refine Ex.loop (ι:=Nat × Option Nat) (λc=>[(3,gv c.2 ((L1++(x.rules.take c.1).flatMap jW).map Tm.enc)),(50,.list none (x.rules.map Rul.enc)),(51,.int .i64 x.rules.length),(52,.int .i64 (c.1:Nat))])
      (λc=>gs s c.2 (L1++(x.rules.take c.1).flatMap jW).length 39)
      (λc=>pT s (L1++(x.rules.take c.1).flatMap jW) c.2/\c.1<=x.rules.length) (λc=>x.rules.length-c.1) (0,tk) ⟨⟨gQ z,B⟩,aX _⟩ ?_ ?_ ?_
     .simp only[go_sem,hp];simp
     .simp only[List.take_zero,List.flatMap_nil,dQ];exact nA (aAm (sZ hp (uY _ _ _)))
     .clear z B tk;rintro⟨i,tk⟩ ⟨⟨z,B⟩,hi⟩;simp only at z B hi;refine bC (V:=[0,1,2,3,5,7,9,11,13,15,16,17,18,37,38,39,40,50,51,52,53,57,58,59,60,77,78,79,80]) _ _ _ _ ?_;simp only[go_sem]
      (apply aQ<;>intro h)<;>simp only[go_sem,h]
      .have F:i<x.rules.length:=gQ h;clear h;obtain⟨r,hr⟩:∃a,x.rules[i]?=some a:=⟨_,aV F⟩
       have G:=xZ jW hr;have O:=yN jW x.rules (i+1);rw[G,aI]at O;simp only[go_sem,hr,F];(refine mP λb9 M=>?_);simp only[go_sem,hr,F,M];have bq:Rlz (.agg r.cs):=bm.agg_elem (cD.2 ⟨r,cR hr,rfl⟩);have bv:Rlz (.list none (r.parts.map Part.enc)):=bq.cell (by simp[Rul.cs]);have bw:Rlz (.list none (r.new.map Fresh.enc)):=bq.cell (by simp[Rul.cs]);have br:IntKind.i64.wrap ((i:Int)+1)=((i+1:Nat):Int):=bm.wrap (i:=i) (gQ F);obtain⟨L2,bg⟩:∃L,L=L1++(x.rules.take i).flatMap jW:=⟨_,rfl⟩
       have b1:L1++(x.rules.take (i+1)).flatMap jW=L2++jW r:=by rw[G,bg,fF]
       have bd:L2.length+(jW r).length<=4294967296:=by rw[bg,aI];omega
       rw[<-bg]at z⊢;clear O G
       refine Ex.loop (ι:=Nat × Option Nat) (λc=>[(3,gv c.2 ((L2++(r.parts.take c.1).flatMap lJ).map Tm.enc)),(9,.ptr b9 0),(50,.list none (x.rules.map Rul.enc)),(51,.int .i64 x.rules.length),(52,.int .i64 (i:Nat)),(57,.list none (r.parts.map Part.enc)),(58,.int .i64 r.parts.length),(59,.int .i64 (c.1:Nat))])
        (λc=>gs (s.setO b9 (.cells 46 r.cs)) c.2 (L2++(r.parts.take c.1).flatMap lJ).length 39)
        (λc=>pT s (L2++(r.parts.take c.1).flatMap lJ) c.2/\c.1<=r.parts.length) (λc=>r.parts.length-c.1) (0,tk) ⟨⟨gQ z,B⟩,aX _⟩ ?_ (by simp only[List.take_zero,List.flatMap_nil,dQ];exact aG _) ?_
       .simp only[go_sem,M];simp
       .clear z B tk;rintro⟨j,tk⟩ ⟨⟨z,B⟩,hj⟩;simp only at z B hj;refine bC (V:=[0,1,2,3,5,7,9,11,13,15,16,17,18,37,38,39,40,50,51,52,53,57,58,59,60,77,78,79,80]) _ _ _ _ ?_;simp only[go_sem,M]
        (apply aQ<;>intro h)<;>simp only[go_sem,h,M]
        .have H:j<r.parts.length:=gQ h;clear h;obtain⟨q,hq⟩:∃a,r.parts[j]?=some a:=⟨_,aV H⟩
         have G:=xZ lJ hq;have O:=yN lJ r.parts (j+1);rw[G,aI,aGj]at O;rw[jW,aI]at bd;simp only[go_sem,M,hq,H];(refine mP λc0 b0=>?_);simp only[go_sem,M,hq,H,b0];(refine bB (OT.l [0,1,2,3,5,6,4,7,8] .nil) [(4,[6])] ?_;simp only[go_sem,M,hq,H,b0]);refine⟨by decide,λy Z=>by simp only[cC]at Z;subst Z;rfl,cT rfl rfl (zC z) (pE _) (by simp only[aK,aI,aO,aU];omega) (λu hu=>?_)⟩;have U:=eX hu B;rw[eP hu];simp only[go_sem,M,hq,H,b0];refine⟨by decide,pE _,by simp only[aI,aK,aO,aU],λy Z=>?_,by simp only[aI,aK,aO,aU];omega,?_⟩
         .simp only[dK,cC]at Z;rcases Z with Z|rfl
          .exact pE _ _ Z
          .rfl
         refine⟨(j+1,some u),⟨⟨λh=>(by cases h),λt h=>by cases h;exact U⟩,H⟩,aP,?_,?_⟩
         .simp only[go_sem,bv.wrap (i:=j) (gQ H),dB,G,bY,lJ,fF]
         .have e1:∀(a:A),(List.map Tm.enc (L2++(r.parts.take j).flatMap lJ)++[a]).length+q.right.length=(L2++(r.parts.take (j+1)).flatMap lJ).length:=λa=>by simp only[G,aI,aGj,aK,aO,aU];omega
          rw[aAe,e1];exact fY (hH (And.intro M b0))
        .have bj:j=r.parts.length:=by have:¬ j<r.parts.length:=gQ h;omega
         subst bj;clear h hj;rw[List.take_length]at z;rw[List.take_length];rw[jW]at b1 bd;simp only[aI]at bd;obtain⟨L3,b8⟩:∃L,L=L2++r.parts.flatMap lJ:=⟨_,rfl⟩
         rw[<-fF,<-b8]at b1;have bz:L3.length=L2.length+(r.parts.flatMap lJ).length:=by rw[b8,aI]
         rw[<-b8]at z⊢;clear b8;refine⟨by decide,pE _,cT rfl rfl (zC z) (pE _) (by simp only[aK];omega) (λu hu=>?_)⟩;have U:=eX hu B;rw[eP hu];simp only[go_sem,M];clear z B hu tk
         refine Ex.loop (ι:=Nat × Option Nat) (λc=>[(3,gv c.2 ((L3++(r.cond++(r.new.take c.1).flatMap Fresh.cells)).map Tm.enc)),(50,.list none (x.rules.map Rul.enc)),(51,.int .i64 x.rules.length),(52,.int .i64 (i:Nat)),(77,.list none (r.new.map Fresh.enc)),(78,.int .i64 r.new.length),(79,.int .i64 (c.1:Nat))])
          (λc=>gs s c.2 (L3++(r.cond++(r.new.take c.1).flatMap Fresh.cells)).length 39)
          (λc=>pT s (L3++(r.cond++(r.new.take c.1).flatMap Fresh.cells)) c.2/\c.1<=r.new.length) (λc=>r.new.length-c.1) (0,some u) ⟨⟨λh=>(by cases h),λt h=>by cases h;exact U⟩,aX _⟩ ?_ ?_ ?_
         .simp only[go_sem,M,dB,bY];simp
         .show St.ge _ (s.setT u ((L3++(r.cond++(r.new.take 0).flatMap Fresh.cells)).length,39));rw[show(L3++(r.cond++(r.new.take 0).flatMap Fresh.cells)).length=L3.length+r.cond.length by simp];exact fY (hH M)
         .rintro⟨j,tk⟩ ⟨⟨z,B⟩,hj⟩;simp only at z B hj;refine bC (V:=[0,1,2,3,5,7,9,11,13,15,16,17,18,37,38,39,40,50,51,52,53,57,58,59,60,77,78,79,80]) _ _ _ _ ?_;simp only[go_sem]
          (apply aQ<;>intro h)<;>simp only[go_sem,h]
          .have H:j<r.new.length:=gQ h;clear h;obtain⟨q,hq⟩:∃a,r.new[j]?=some a:=⟨_,aV H⟩
           have G:=xZ Fresh.cells hq;have O:=yN Fresh.cells r.new (j+1);rw[G,aI]at O;simp only[go_sem,hq,H];(refine mP λc1 b2=>?_);simp only[go_sem,hq,H,b2];refine⟨by decide,pE _,cT rfl rfl (zC z) (pE _) (by simp only[aK,aI];omega) (λu hu=>?_)⟩;have U:=eX hu B;rw[eP hu];simp only[go_sem,hq,H,b2];refine⟨(j+1,some u),⟨⟨λh=>(by cases h),λt h=>by cases h;exact U⟩,H⟩,aP,?_,?_⟩
           .simp only[go_sem,bw.wrap (i:=j) (gQ H),dB,G,bY,fF]
           .rw[show(L3++(r.cond++(r.new.take j).flatMap Fresh.cells)).length+q.cells.length=(L3++(r.cond++(r.new.take (j+1)).flatMap Fresh.cells)).length by simp only[G,aI];omega];exact fY (hH b2)
          .have bj:j=r.new.length:=by have:¬ j<r.new.length:=gQ h;omega
           subst bj;clear h hj;rw[List.take_length,<-b1]at z;rw[List.take_length,<-b1];refine⟨(i+1,tk),⟨⟨z,B⟩,F⟩,aP,?_,aG _⟩;simp only[go_sem,br]
      .have b3:i=x.rules.length:=by have:¬ i<x.rules.length:=gQ h;omega
       subst b3;rw[List.take_length]at z⊢;exact DK.mk hk (gE (aG _) B) (gK _ _ (λe=>by rw[z e];rfl))
section
theorem xK{l:List Tm}{x:Tm}(h:x∈l):x.pre.length<=(bG l).length:=by
 induction l with
 | nil=>cases h
 | cons y r q =>
  simp only[bG,aI];rcases List.mem_cons.1 h with rfl|h
  .omega
  .have:=q h;omega
theorem aGK{t x:Tm}(h:x∈t.kids):x.pre.length<=t.pre.length:=by
 rw[xI t,aO];have:=xK (l:=t.kids++t.rest) (List.mem_append_left _ h);omega
theorem nC{l:List Tm}{y:A}(h:y∈l.map Tm.enc):y.cells.length=6:=by
 obtain⟨z,_,rfl⟩:=cD.1 h;rw[cG];rfl
theorem aLo(f:Fault)(r:Option Fault):bU (dN false f) r=r:=rfl
theorem aCv(f:Fault)(r:Option Fault):bU (dN (!true) f) r=r:=rfl
theorem lV(a b c:Option Fault):bU (bU a b) c=bU a (bU b c):=by cases a<;>rfl
theorem aKT(x:Eqn):(bG (x.right::x.cond)).length<=(bG (jX x)).length:=by
 simp only[jX,bG,aI];omega
theorem aLt(x:Eqn):(bG (x.right::x.cond++[x.left])).length=(bG (jX x)).length:=by
 rw[iQ];simp only[jX,bG,aI,dQ];omega
theorem aMk(t:Tm):t.kids.length+1<=t.pre.length:=by
 rw[xI t,aO];have:=nV (t.kids++t.rest);rw[aI]at this;omega
theorem aMv{α:Type}{f:α->Bool}{l:List α}{i:Nat}{x:α}(h:l[i]?=some x)(q:(l.take i).any f=false):(l.take (i+1)).any f=f x:=by
 rw[eO,h,List.any_append,q];simp
theorem aML{α:Type}{f:α->Bool}{l:List α}{x:α}(h:x∈l)(q:f x=true):l.any f=true:=List.any_eq_true.2 ⟨x,h,q⟩
section
variable {s:St} {KV Kp:St->A->Prop} {c:Nat} {d:Dfn}
theorem CK.map{a:Option Fault}(h:CK KV Kp s a){q u:St->A->Prop}{s':St}(y:KV s (.tuple [])->q s' (.tuple []))(z:∀f:Fault,Kp s (.iface 51 f.enc)->u s' (.iface 51 f.enc)):CK q u s' a:=by
 cases a with
 | none=>exact y h
 | some f=>exact z f h
theorem aKM(h:CkAt s c d)(n:aC)(l k:Int)(q:List Tm){tk:Option Nat}{es:List A}(u:es=q.map Tm.enc)(y:CK KV Kp s (lD d.sig n l k q)):Den cx 57 [.ptr c 0,.agg [.int .i64 l,.int .i64 k],.str n,.list tk es] KV Kp s:=by
 subst u;exact lU (show nK [.ptr c 0,.agg [.int .i64 l,.int .i64 k],.str n,.list tk (q.map Tm.enc)] [.ptr c 0,.agg [.int .i64 l,.int .i64 k],.str n,.list none (q.map Tm.enc)] from⟨bF _,bF _,bF _,A.le.forget _ _,trivial⟩) (xD h n l k q y)
theorem aFe(l k:Int)(h:List Tm)(q:(bG h).length<=4294967200){tk:Option Nat}{es:List A}(u:es=h.map Tm.enc)(y:CK KV Kp s (sB l k h)):Den cx 60 [.agg [.int .i64 l,.int .i64 k],.list tk es] KV Kp s:=by
 subst u;exact lU (show nK [.agg [.int .i64 l,.int .i64 k],.list tk (h.map Tm.enc)] [.agg [.int .i64 l,.int .i64 k],.list none (h.map Tm.enc)] from⟨bF _,A.le.forget _ _,trivial⟩) (aJr l k h q y)
theorem aEZ(l k:Int)(h q:List Tm)(u:(bG h).length<=4294967200)(y:(bG q).length<=4294967200){tk B:Option Nat}{es z:List A}(hl:z=h.map Tm.enc)(F:es=q.map Tm.enc)(G:CK KV Kp s (rT l k h q)) :
  Den cx 61 [.agg [.int .i64 l,.int .i64 k],.list B z,.list tk es] KV Kp s:=by
 subst F;subst hl;exact lU (show nK [.agg [.int .i64 l,.int .i64 k],.list B (h.map Tm.enc),.list tk (q.map Tm.enc)] [.agg [.int .i64 l,.int .i64 k],.list none (h.map Tm.enc),.list none (q.map Tm.enc)] from⟨bF _,A.le.forget _ _,A.le.forget _ _,trivial⟩) (aIZ l k h q u y G)
theorem aL4(h:CkAt s c d)(x:Eqn)(hW:∀t,t∈jX x->TmW t)(hL:(bG (jX x)).length<=4294967000)(F:CK KV Kp s (wD d.sig x)):Den cx 22 [.ptr c 0,.agg x.cs] KV Kp s:=by
 have hC:=h;obtain⟨r,G,hB⟩:=h;unfold wD at F;have bp:=xK (l:=jX x) (x:=x.left) (dZ ..);have bn:x.cond.length+2<=(bG (jX x)).length:=nV (jX x);have bm:=aMk x.left;have bl:TmW x.left:=hW _ (dZ ..);(refine sH func22 [0,1,3,4,5,6,7,9,11,12,14,29,51,69,70,71,72,80,87,88,89,90,99,124,125,126,127] ?_;simp only[go_sem,ntmps22,f22]);(refine aM λp M=>?_);have e1:=aS G M;simp only[go_sem,M];(refine aM λq O=>?_);have e2:=aS G O.2;have e3:¬ p=q:=O.1.1;simp only[go_sem,M,O,G,e1,e2];by_cases h5:x.left.kind=5
 .have Z:decide (x.left.kind=5)=true:=cZ h5;rw[aE h5]at F;have en:pI x=x.left.text:=aE (.inl h5);simp only[en]at F;simp only[go_sem,M,O,G,e1,e2,Z];cases hl:fH d.sig.funs x.left.text with
  | none =>
   rw[hl]at F;(refine bB (OT.l [0,1,2,3,4,5,6] (.alt (.node 7 (OT.l [8,9,10,11,12,13] .nil)) (.node 11 (OT.l [7,8,9,10,12,13] .nil)))) [(11,[3,6])] ?_;simp only[go_sem,M,O,G,e1,e2,Z]);refine⟨?_,?_⟩
   .refine dC (oZ (hB.ge ?_) x.left.text ?_)
    .exact bA
    simp only[go_sem,M,O,G,e1,e2,Z,hl,Option.getD_none,Option.isSome_none,nG];(intro b6 z;try simp only[cU,cN,bJ]at z);have e6:=aS G (by first|exact z|exact z.2|exact z.2.2|exact z.2.2.2|exact z.2.2.2.2);simp only[go_sem,M,O,G,e1,e2,Z,z,e6];refine dC (eC 15 _ _ _ ?_);simp only[go_sem];exact aF F bA
   ·(intro b6 z;try simp only[cU,cN,bJ]at z);have e6:=aS G (by first|exact z|exact z.2|exact z.2.2|exact z.2.2.2|exact z.2.2.2.2);simp only[go_sem,M,O,G,e1,e2,Z,z,e6];refine dC (oZ (hB.ge ?_) x.left.text ?_)
    .exact bA
    simp only[go_sem,M,O,G,e1,e2,Z,hl,z,e6,Option.getD_none,Option.isSome_none,nG];refine dC (eC 15 _ _ _ ?_);simp only[go_sem];exact aF F bA
  | some f =>
   rw[hl]at F;simp only at F;(refine bB (OT.l [0,1,2,3,4,5,6] (.alt (.node 7 (OT.l [8,9,10,11,12,13] .nil)) (.node 11 (OT.l [7,8,9,10,12,13] .nil)))) [(11,[3,6])] ?_;simp only[go_sem,M,O,G,e1,e2,Z]);refine⟨?oA,?oB⟩
   case' oA =>
    refine dC (oZ (hB.ge ?_) x.left.text ?_)
    .exact bA
    simp only[go_sem,M,O,G,e1,e2,Z,hl,Option.getD_some,Option.isSome_some];(intro b6 z;try simp only[cU,cN,bJ]at z);have e6:=aS G (by first|exact z|exact z.2|exact z.2.2|exact z.2.2.2|exact z.2.2.2.2);simp only[go_sem,M,O,G,e1,e2,Z,z,e6]
   case' oB =>
    (intro b6 z;try simp only[cU,cN,bJ]at z);have e6:=aS G (by first|exact z|exact z.2|exact z.2.2|exact z.2.2.2|exact z.2.2.2.2);simp only[go_sem,M,O,G,e1,e2,Z,z,e6];refine dC (oZ (hB.ge ?_) x.left.text ?_)
    .exact bA
    simp only[go_sem,M,O,G,e1,e2,Z,hl,z,e6,Option.getD_some,Option.isSome_some]
   all_goals
    (refine bB (OT.l [0,1,2,3,4,5,6,8,9,7,10,11] .nil) [(7,[1,9]),(10,[1])] ?_;simp only[go_sem,M,O,G,e1,e2,Z,z,e6]);refine .inr λt bk=>⟨by decide,λy hy=>nC hy,λy hy=>?_,by omega,?_⟩
    .simp only[dD,kQ,eU]at hy;rcases hy with rfl|rfl<;>rfl
    generalize hS:St.setT (St.setT _ t _) t _=S;have b1:S.ge s:=by subst hS;rw[nI];exact gE (tk:=some t) (by exact bA) (λu hu=>by cases hu;exact bk)
    have gp:S.getO p=some (.cells 41 x.cs):=by subst hS;simp only[Eqn.cs,Tm.cs,bS,bP];exact gH
    have gq:S.getO q=some (.cells 75 [.int .i64 x.line,.int .i64 x.col]):=by subst hS;exact gH
    have g6:S.getO b6=some (.cells 64 f.cs):=by subst hS;simp only[Opr.cs];exact gH
    simp only[Eqn.cs,Tm.cs,Opr.cs,bS,bP]at gp g6;clear hS;have bh:=hC.ge b1;have bf:=hB.ge b1;have gc:=b1.ob _ _ G;refine dC (aKM bh _ _ _ (jX x) (by simp only[jX,bN,cG];rfl) (iJ F (λF=>?_) (λf hf=>?_)));rotate_left
    .simp only[go_sem];exact aF hf b1
    simp only[go_sem,gp,gq,g6]
    refine Ex.loop (ι:=Nat) (λi=>[(0,.ptr c 0),(3,.ptr p 0),(4,.ptr q 0),(5,.str x.left.text),(6,.ptr b6 0),(69,.list none (x.left.kids.map Tm.enc)),(70,.int .i64 (x.left.kids.length:Nat)),(71,.int .i64 (i:Nat))])
     (λ_=>S) (λi=>i<=x.left.kids.length/\(x.left.kids.take i).any (tB d.sig)=false) (λi=>x.left.kids.length-i) 0 ⟨aX _,rfl⟩ ?_ (aG _) ?_
    .simp only[go_sem]
     try exact rfl
    .rintro i ⟨hi,U⟩;refine bC (V:=[0,1,3,4,5,6,7,9,11,12,14,29,51,69,70,71,72,80,87,88,89,90,99,124,125,126,127]) _ _ _ _ ?_;simp only[go_sem]
     (apply aQ<;>intro h)<;>simp only[go_sem,h]
     .have H:i<x.left.kids.length:=gQ h;clear h;obtain⟨k,L⟩:∃a,x.left.kids[i]?=some a:=⟨_,aV H⟩
      have b2:k∈x.left.kids:=cR L;have bj:=aGK b2;have bd:=aMv (f:=tB d.sig) L U;simp only[go_sem,L,H];(intro b9 B;try simp only[cU,cN,bJ]at B);have f1:=aS gc (by first|exact B|exact B.2|exact B.2.2|exact B.2.2.2|exact B.2.2.2.2);have f2:=aS gq B;simp only[go_sem,L,H,B,f1,gc];(refine bB (OT.r 0 6) [] ?_;simp only[go_sem,L,H,B,f1,gc]);refine dC (aEb (bf.ge (bQ B (aG S))) k aB ?_);cases hf:tB d.sig k
      .simp only[go_sem,B,f2,gq];exact⟨i+1,⟨H,by rw[bd,hf]⟩,by omega,bM i aB,bK⟩
      .simp only[go_sem,B,f2,gq];rw[aML b2 hf]at F
       replace F:CK KV Kp s (some (⟨16,x.left.text,x.line,x.col⟩:Fault)):=F
       refine dC (eC 16 _ _ _ ?_);simp only[go_sem];exact aF F ((bQ B (aG S)).trans b1)
     .have b4:i=x.left.kids.length:=Nat.le_antisymm hi (Nat.le_of_not_lt (gQ h));subst b4;clear h hi;rw[List.take_length]at U;rw[U,aLo]at F;simp only[go_sem,gp,gq,g6]
      refine Ex.loop (ι:=Nat) (λi=>[(0,.ptr c 0),(3,.ptr p 0),(4,.ptr q 0),(5,.str x.left.text),(6,.ptr b6 0),(87,.list none (x.left.kids.map Tm.enc)),(88,.int .i64 (x.left.kids.length:Nat)),(89,.int .i64 (i:Nat))])
       (λ_=>S) (λi=>i<=x.left.kids.length/\(x.left.kids.take i).all (rV d.sig)=true) (λi=>x.left.kids.length-i) 0 ⟨aX _,rfl⟩ ?_ (aG _) ?_
      .simp only[go_sem]
       try exact rfl
      .clear U;rintro i ⟨hi,U⟩;refine bC (V:=[0,1,3,4,5,6,7,9,11,12,14,29,51,69,70,71,72,80,87,88,89,90,99,124,125,126,127]) _ _ _ _ ?_;simp only[go_sem]
       (apply aQ<;>intro h)<;>simp only[go_sem,h]
       .have H:i<x.left.kids.length:=gQ h;clear h;obtain⟨k,L⟩:∃a,x.left.kids[i]?=some a:=⟨_,aV H⟩
        have b2:k∈x.left.kids:=cR L;have bj:=aGK b2;have bd:=aCW (f:=rV d.sig) L U;simp only[go_sem,L,H];(intro b9 B;try simp only[cU,cN,bJ]at B);have f1:=aS gc (by first|exact B|exact B.2|exact B.2.2|exact B.2.2.2|exact B.2.2.2.2);have f2:=aS gq B;simp only[go_sem,L,H,B,f1,gc];(refine bB (OT.r 0 7) [] ?_;simp only[go_sem,L,H,B,f1,gc]);refine dC (aEg (bf.ge (bQ B (aG S))) k (bl.kids k b2) aB ?_);cases hf:rV d.sig k
        .simp only[go_sem,B,f2,gq];rw[aCt b2 hf]at F
         replace F:CK KV Kp s (some (⟨16,x.left.text,x.line,x.col⟩:Fault)):=F
         refine dC (eC 16 _ _ _ ?_);simp only[go_sem];exact aF F ((bQ B (aG S)).trans b1)
        .simp only[go_sem,B,f2,gq];exact⟨i+1,⟨H,by rw[bd,hf]⟩,by omega,bM i aB,bK⟩
       .have b4:i=x.left.kids.length:=Nat.le_antisymm hi (Nat.le_of_not_lt (gQ h));subst b4;clear h hi;rw[List.take_length]at U;rw[U,aCv]at F;simp only[go_sem,gp,gq,g6];refine .inr λt2 b5=>⟨by decide,λy hy=>nC hy,λy hy=>(by rw[cC.1 hy];rfl),by omega,?_⟩
        have bq:s.getT t2=none:=by
         cases h0:s.getT t2 with
         | none=>rfl
         | some m=>rw[b1.tk _ _ h0]at b5;cases b5
        (refine bB (OT.r 0 7) [(5,[0])] ?_;simp only[go_sem,gp,gq,g6]);refine⟨by decide,λy hy=>(by rw[cC.1 hy];rfl),by first|omega|rfl|(simp;omega),λy hy=>?_,by first|omega|(simp;omega),?_⟩
        .rcases List.mem_cons.1 hy with rfl|hy
         .rfl
         .exact nC hy
        generalize bb:St.setT (St.setT _ t2 _) t2 _=S2;have b0:S2.ge s:=by subst bb;simp only[nI];exact(gE (tk:=some t2) (aG S) (λu hu=>by cases hu;exact b5)).trans b1
        have bc:S2.ge S:=by subst bb;simp only[nI];exact gE (tk:=some t2) (aG S) (λu hu=>by cases hu;exact b5)
        have b8:=bc.ob _ _ gp;have b3:=bc.ob _ _ gq;have b7:=bc.ob _ _ g6;clear bb;have bg:=hC.ge b0;refine dC (aFe _ _ (x.right::x.cond++[x.left]) ?_ ?_ (iJ F (λF=>?_) (λf hf=>?_)))
        .rw[aLt x];omega
        .simp only[bS,bN,bY,cP,cG];rfl
        rotate_left
        .simp only[go_sem];exact aF hf b0
        simp only[go_sem,b8,b3,b7];refine .inl ?_;refine dC (aEZ _ _ [x.left] (x.right::x.cond) ?_ ?_ ?_ ?_ (iJ F (λF=>?_) (λf hf=>?_)))
        .simp only[bG,dQ];omega
        .have:=aKT x;omega
        .rw[wE];rfl
        .simp only[bN,cG];rfl
        rotate_left
        .simp only[go_sem];exact aF hf b0
        simp only[go_sem,b8,b3,b7]
        refine Ex.loop (ι:=Nat) (λi=>[(0,.ptr c 0),(3,.ptr p 0),(4,.ptr q 0),(5,.str x.left.text),(6,.ptr b6 0),(124,.list none (x.cond.map Tm.enc)),(125,.int .i64 (x.cond.length:Nat)),(126,.int .i64 (i:Nat))])
         (λ_=>S2) (λi=>i<=x.cond.length/\CK KV Kp s (bU (dH (λt=>iT d.sig x.left.text x.line x.col t [66,111,111,108]) (x.cond.drop i)) (iT d.sig x.left.text x.line x.col x.right f.sort))) (λi=>x.cond.length-i) 0 ⟨aX _,F⟩ ?_ (aG _) ?_
        .simp only[go_sem]
         try exact rfl
        .clear F;rintro i ⟨hi,F⟩;refine bC (V:=[0,1,3,4,5,6,7,9,11,12,14,29,51,69,70,71,72,80,87,88,89,90,99,124,125,126,127]) _ _ _ _ ?_;simp only[go_sem]
         (apply aQ<;>intro h)<;>simp only[go_sem,h]
         .have H:i<x.cond.length:=gQ h;clear h;obtain⟨k,L⟩:∃a,x.cond[i]?=some a:=⟨_,aV H⟩
          rw[nU _ L,lV]at F;simp only[go_sem,L,H];(intro b9 B;try simp only[cU,cN,bJ]at B);have f2:=aS b3 (by first|exact B|exact B.2|exact B.2.2|exact B.2.2.2|exact B.2.2.2.2);simp only[go_sem,L,H,B,f2,b3];refine dC (uH (bg.ge (bQ B (aG S2))) _ _ _ k _ (iJ F (λF=>?_) (λf hf=>?_)));rotate_left
          .simp only[go_sem];exact aF hf ((bQ B (aG S2)).trans b0)
          simp only[go_sem];exact⟨i+1,⟨H,F⟩,by omega,bM i aB,bK⟩
         .have b4:i=x.cond.length:=Nat.le_antisymm hi (Nat.le_of_not_lt (gQ h));subst b4;clear h hi;rw[eB (bL _)]at F;simp only[go_sem,b8,b3,b7];refine dC (uH bg _ _ _ x.right f.sort (CK.map (a:=iT d.sig x.left.text x.line x.col x.right f.sort) F (λF=>?_) (λf hf=>?_)));rotate_left
          .simp only[go_sem];exact aF hf b0
          simp only[go_sem];exact aF F b0
 .rw[aD h5]at F;have Z:decide (x.left.kind=5)=false:=cH h5;have fin:∀n:aC,n=pI x->CK KV Kp s (some ⟨15,n,x.line,x.col⟩):=λn e=>by rw[e];exact F
  unfold pI at fin;by_cases h6:x.left.kind=6
  .have F:=fin x.left.text (by rw[aE (.inr h6)]);have d6:decide (x.left.kind=6)=true:=cZ h6;simp only[go_sem,M,O,G,e1,e2,Z,d6];(refine bB (OT.l [0,1,2,3,4,5,6] (.alt (.node 7 (OT.l [8,9,10,11,12,13] .nil)) (.node 11 (OT.l [7,8,9,10,12,13] .nil)))) [(11,[3,6])] ?_;simp only[go_sem,M,O,G,e1,e2,Z]);refine⟨?oC,?oD⟩
   case' oC =>
    refine dC (oZ (hB.ge ?_) x.left.text ?_)
    .exact bA
    simp only[go_sem,M,O,G,e1,e2,Z];(intro b6 z;try simp only[cU,cN,bJ]at z);have e6:=aS G (by first|exact z|exact z.2|exact z.2.2|exact z.2.2.2|exact z.2.2.2.2);simp only[go_sem,M,O,G,e1,e2,Z,z,e6]
   case' oD =>
    (intro b6 z;try simp only[cU,cN,bJ]at z);have e6:=aS G (by first|exact z|exact z.2|exact z.2.2|exact z.2.2.2|exact z.2.2.2.2);simp only[go_sem,M,O,G,e1,e2,Z,z,e6];refine dC (oZ (hB.ge ?_) x.left.text ?_)
    .exact bA
    simp only[go_sem,M,O,G,e1,e2,Z,z,e6]
   all_goals
    refine dC (eC 15 _ _ _ ?_);simp only[go_sem];exact aF F bA
  .have F:=fin [] (by rw[aD (λh=>h.elim h5 h6)]);have d6:decide (x.left.kind=6)=false:=cH h6;simp only[go_sem,M,O,G,e1,e2,Z,d6];(refine bB (OT.l [0,1,2,3,4,5,6] (.alt (.node 7 (OT.l [8,9,10,11,12,13] .nil)) (.node 11 (OT.l [7,8,9,10,12,13] .nil)))) [(11,[3,6])] ?_;simp only[go_sem,M,O,G,e1,e2,Z]);refine⟨?oE,?oF⟩
   case' oE =>
    refine dC (oZ (hB.ge ?_) x.left.text ?_)
    .exact bA
    simp only[go_sem,M,O,G,e1,e2,Z];(intro b6 z;try simp only[cU,cN,bJ]at z);have e6:=aS G (by first|exact z|exact z.2|exact z.2.2|exact z.2.2.2|exact z.2.2.2.2);simp only[go_sem,M,O,G,e1,e2,Z,z,e6]
   case' oF =>
    (intro b6 z;try simp only[cU,cN,bJ]at z);have e6:=aS G (by first|exact z|exact z.2|exact z.2.2|exact z.2.2.2|exact z.2.2.2.2);simp only[go_sem,M,O,G,e1,e2,Z,z,e6];refine dC (oZ (hB.ge ?_) x.left.text ?_)
    .exact bA
    simp only[go_sem,M,O,G,e1,e2,Z,z,e6]
   all_goals
    refine dC (eC 15 _ _ _ ?_);simp only[go_sem];exact aF F bA
end
end
section
section
variable {s:St} {KV Kp:St->A->Prop}
theorem aIU(x:aC)(h:KV s (.bool (!dT x))):Den cx 34 [.str x] KV Kp s:=by
 (refine aL func34 [0,2] ?_;simp only[go_sem,ntmps34,f34]);refine oX _ _ _ _ ?_;simp only[go_sem];exact aN h
theorem aIK(t:Tm)(u:TmW t)(h:KV s (.bool (!(Tm.val 60 t 0).isSome))):Den cx 39 [.agg t.cs] KV Kp s:=by
 (refine aL func39 [0,1,2] ?_;simp only[go_sem,ntmps39,f39]);(refine aM λp q=>?_);simp only[go_sem,q];refine aEM t u _ _ _ ?_;simp only[go_sem];exact aF h bA
theorem aNv(a b c d:Nat):decide ((20:Int)<aBn (a:Int) (b:Int) (c:Int) (d:Int))=!(decide (a<=20)&&(decide (b<=20)&&(decide (c<=20)&&decide (d<=20)))):=by
 have h:(20:Int)<aBn (a:Int) (b:Int) (c:Int) (d:Int)↔¬ (a<=20/\b<=20/\c<=20/\d<=20):=by
  unfold aBn;simp only;split<;>split<;>split<;>omega
 rw[Bool.eq_iff_iff];simp only[dA,kO,Bool.and_eq_false_iff,gP,h];omega
theorem uV{α:Type}{l:List α}{i:Nat}{x:α}(h:l[i]?=some x):l.drop i=x::l.drop (i+1):=by
 obtain⟨q,rfl⟩:=dG.1 h;exact kN q
theorem aJG(d:Dfn)(hB:(gI d).length<=4294967000)(hM:d.once.length+d.many.length<=4294967000)(s:St)(KV Kp:St->A->Prop)(hk:KV s (strs (gI d))):Den cx 37 [.agg d.cs] KV Kp s:=by
 refine fS λbg=>?_
 have bm:=bg _ (dZ ..);have bd:Rlz (.list none (d.rules.map Rul.enc)):=bm.cell (by simp[Dfn.cs]);clear bg;simp only[go_sem];(refine sH func37 [0,1,2,3,5,7,9,19,30,31,32,33,43,44,45,46,58,59,60,61,66] ?_;simp only[go_sem,ntmps37,f37]);(refine aM λp hp=>?_);simp only[go_sem,hp];refine .inr λt bc=>?_
 have Z:(s.setO p (.cells 31 d.cs)).getO p=some (.cells 31 d.cs):=by rw[aH,aE rfl]
 have b3:(s.setO p (.cells 31 d.cs)).ge s:=bQ hp (aG s);have bb:(s.setO p (.cells 31 d.cs)).getT t=none:=bc;simp only[Dfn.cs,Sig.cs,bS,bP]at Z b3 bb;generalize bj:s.setO p _=S1 at Z b3 bb⊢;clear bj bc hp;have bk:(d.once++d.many).length<=4294967000:=by rw[aI];exact hM
 obtain⟨X0,H⟩:∃X,X=[d.name,d.start,d.watch]++(if d.kind=[] then [] else [d.kind]):=⟨_,rfl⟩
 have b1:X0++((d.once++d.many).map Cel.name++d.rules.flatMap pR)=gI d:=by rw[H,fF];rfl
 cases c1:decide (d.kind=[])<;>simp only[go_sem,Z,c1]
 case' true =>
  rw[aE (gR c1)]at H;have b6:[A.str d.name,A.str d.start,A.str d.watch]=X0.map A.str:=by rw[H];rfl
  have b8:S1.setT t (3,9)=S1.setT t (X0.length,9):=by rw[H];rfl
 case' false =>
  rw[aD (of_decide_eq_false c1)]at H;refine .inl ⟨by decide,λy z=>(by rw[cC.1 z];rfl),λy z=>(by simp only[dD,kQ,eU]at z;rcases z with rfl|rfl|rfl<;>rfl),?_⟩;rw[nI];have b6:[A.str d.name,A.str d.start,A.str d.watch,A.str d.kind]=X0.map A.str:=by rw[H];rfl
  have b8:S1.setT t (4,9)=S1.setT t (X0.length,9):=by rw[H];rfl
 all_goals
  rw[b6,b8];clear b6 b8 H;refine .inl ?_;refine dC (aBY [d.once,d.many] (by simp only[List.flatten_cons,List.flatten_nil,dQ];omega) _ _ _ ?_);rw[show [d.once,d.many].flatten=d.once++d.many by simp];generalize d.once++d.many=cells at b1 bk;simp only[go_sem,Z];refine Ex.loop (ι:=Nat × List aC) (λc=>[(1,.ptr p 0),(3,.list (some t) (c.2.map .str)),(30,.list none (cells.map Cel.enc)),(31,.int .i64 (cells.length:Nat)),(32,.int .i64 (c.1:Nat))]) (λc=>S1.setT t (c.2.length,9)) (λc=>c.1<=cells.length/\c.2++((cells.drop c.1).map Cel.name++d.rules.flatMap pR)=gI d) (λc=>cells.length-c.1) (0,X0) ⟨aX _,b1⟩ ?_ (aG _) ?_
  .simp only[go_sem]
   try exact rfl
  .rintro⟨i,X⟩ ⟨hi,q⟩;simp only at hi q;refine bC (V:=[0,1,2,3,5,7,9,19,30,31,32,33,43,44,45,46,58,59,60,61,66]) _ _ _ _ ?_;simp only[go_sem]
   (apply aQ<;>intro h)<;>simp only[go_sem,h]
   .have B:i<cells.length:=gQ h;clear h;obtain⟨x,hx⟩:∃a,cells[i]?=some a:=⟨_,aV B⟩
    rw[uV hx,bN,bS]at q;have b2:X.length+1<=4294967000:=by rw[<-q,aI,aO]at hB;omega
    simp only[go_sem,hx,B];(intro b5 L;try simp only[cU,cN,bJ]at L);have f1:=aS Z (by first|exact L|exact L.2|exact L.2.2|exact L.2.2.2|exact L.2.2.2.2);simp only[go_sem,hx,B,L,f1];refine .inl ⟨by decide,λy z=>(by rw[cC.1 z];rfl),λy z=>kX z,by omega,(i+1,X++[x.name]),⟨B,by rw[fF];exact q⟩,aP,⟨by rw[bY];rfl,bM i aB⟩,?_⟩;rw[nI];simp only[aI,aO,aU];exact fY (hH L)
   .have b4:i=cells.length:=Nat.le_antisymm hi (Nat.le_of_not_lt (gQ h));subst b4;rw[eB (bL _)]at q
    replace q:X++d.rules.flatMap pR=gI d:=q
    simp only[go_sem,Z];refine Ex.loop (ι:=Nat × List aC) (λc=>[(1,.ptr p 0),(3,.list (some t) (c.2.map .str)),(43,.list none (d.rules.map Rul.enc)),(44,.int .i64 (d.rules.length:Nat)),(45,.int .i64 (c.1:Nat))]) (λc=>S1.setT t (c.2.length,9)) (λc=>c.1<=d.rules.length/\c.2++(d.rules.drop c.1).flatMap pR=gI d) (λc=>d.rules.length-c.1) (0,X) ⟨aX _,q⟩ ?_ (aG _) ?_
    .simp only[go_sem]
     try exact rfl
    .clear q X b1;rintro⟨i,X⟩ ⟨hi,q⟩;simp only at hi q;refine bC (V:=[0,1,2,3,5,7,9,19,30,31,32,33,43,44,45,46,58,59,60,61,66]) _ _ _ _ ?_;simp only[go_sem]
     (apply aQ<;>intro h)<;>simp only[go_sem,h]
     .have B:i<d.rules.length:=gQ h;clear h;obtain⟨r,hr⟩:∃a,d.rules[i]?=some a:=⟨_,aV B⟩
      have bn:Rlz (.agg r.cs):=bd.agg_elem (cD.2 ⟨r,cR hr,rfl⟩);have bf:Rlz (.list none (r.parts.map Part.enc)):=bn.cell (by simp[Rul.cs]);rw[uV hr,kP]at q;generalize hR:(d.rules.drop (i+1)).flatMap pR=R at q;have M:(X++(r.name::r.drop))++((r.parts.map Part.at_).filter (λx=>!decide (x=[]))++R)=gI d:=by rw[<-q];simp[pR]
      have b2:X.length+1+r.drop.length<=4294967000:=by rw[<-M]at hB;simp only[aI,aO]at hB;omega
      simp only[go_sem,hr,B];(intro b7 F;try simp only[cU,cN,bJ]at F);have f1:=aS Z (by first|exact F|exact F.2|exact F.2.2|exact F.2.2.2|exact F.2.2.2.2);simp only[go_sem,hr,B,F,f1];(refine bB (OT.l [0,1,2,3,5,6,4,7,8] .nil) [(4,[6])] ?_;simp only[go_sem,hr,B,F,f1]);refine⟨by decide,λy z=>(by rw[cC.1 z];rfl),λy z=>kX z,by omega,by decide,λy z=>kX z,by simp,λy z=>?_,by simp only[aI,aK,aO,aU];omega,?_⟩
      .rcases dK.1 z with z|z
       .exact kX z
       .rw[cC.1 z];rfl
      have gb:(S1.setO b7 (.cells 46 r.cs)).getO b7=some (.cells 46 r.cs):=by rw[aH,aE rfl]
      have U:(S1.setO b7 (.cells 46 r.cs)).ge S1:=bQ F (aG S1);rw[nI,nI,show List.map A.str X++[A.str r.name]++List.map A.str r.drop=(X++(r.name::r.drop)).map A.str by simp];rw[show(List.map A.str X++[A.str r.name]).length+r.drop.length=(X++(r.name::r.drop)).length by simp;omega];generalize X++(r.name::r.drop)=X3 at M;generalize b0:S1.setO b7 (.cells 46 r.cs)=S2 at gb U;simp only[Rul.cs]at b0;rw[b0];clear b0 f1 F q b2;have bh:=U.ob _ _ Z;refine Ex.loop (ι:=Nat × List aC) (λc=>[(1,.ptr p 0),(3,.list (some t) (c.2.map .str)),(43,.list none (d.rules.map Rul.enc)),(44,.int .i64 (d.rules.length:Nat)),(45,.int .i64 (i:Nat)),(58,.list none (r.parts.map Part.enc)),(59,.int .i64 (r.parts.length:Nat)),(60,.int .i64 (c.1:Nat))]) (λc=>S2.setT t (c.2.length,9)) (λc=>c.1<=r.parts.length/\c.2++(((r.parts.drop c.1).map Part.at_).filter (λx=>!decide (x=[]))++R)=gI d) (λc=>r.parts.length-c.1) (0,X3) ⟨aX _,M⟩ ?_ (aG _) ?_
      .simp only[go_sem]
       try exact rfl
      .clear M X3 X;rintro⟨j,X⟩ ⟨hj,q⟩;simp only at hj q;refine bC (V:=[0,1,2,3,5,7,9,19,30,31,32,33,43,44,45,46,58,59,60,61,66]) _ _ _ _ ?_;simp only[go_sem]
       (apply aQ<;>intro h)<;>simp only[go_sem,h]
       .have O:j<r.parts.length:=gQ h;clear h;obtain⟨x,hx⟩:∃a,r.parts[j]?=some a:=⟨_,aV O⟩
        rw[uV hx,bN,List.filter_cons]at q;simp only[go_sem,hx,O];(intro b9 G;try simp only[cU,cN,bJ]at G);have f2:=aS bh (by first|exact G|exact G.2|exact G.2.2|exact G.2.2.2|exact G.2.2.2.2);cases c2:decide (x.at_=[])<;>rw[c2]at q<;>simp only[go_sem,hx,O,G,f2,c2]
        .have M:X++(x.at_::(((r.parts.drop (j+1)).map Part.at_).filter (λx=>!decide (x=[]))++R))=gI d:=q;have b2:X.length+1<=4294967000:=by rw[<-M,aI,aO]at hB;omega
         refine .inl ⟨by decide,λy z=>(by rw[cC.1 z];rfl),λy z=>kX z,by omega,(j+1,X++[x.at_]),⟨O,by rw[fF];exact M⟩,aP,⟨by rw[bY];rfl,bf.wrap (i:=j) (gQ O)⟩,?_⟩;rw[nI];simp only[aI,aO,aU];exact fY (hH G)
        .refine⟨(j+1,X),⟨O,q⟩,aP,⟨rfl,bf.wrap (i:=j) (gQ O)⟩,?_⟩;exact fY (hH G)
       .have bl:j=r.parts.length:=Nat.le_antisymm hj (Nat.le_of_not_lt (gQ h));subst bl;rw[eB (bL _)]at q
        replace q:X++R=gI d:=q
        refine⟨(i+1,X),⟨B,by rw[hR];exact q⟩,aP,⟨rfl,bd.wrap (i:=i) (gQ B)⟩,fY U⟩
     .have b4:i=d.rules.length:=Nat.le_antisymm hi (Nat.le_of_not_lt (gQ h));subst b4;rw[eB (bL _),List.flatMap_nil,dQ]at q;subst q;exact DK.mk hk (gE (tk:=some t) b3 (λu e=>by cases e;exact bb)) (A.le.forget _ _)
theorem aF7{α:Type}{f:α->Bool}{l:List α}{i:Nat}{x:α}(h:l[i]?=some x):(l.drop i).all f=(f x&&(l.drop (i+1)).all f):=by
 rw[uV h,List.all_cons]
theorem aJa(d:Dfn)(hT:∀t,t∈fP d->TmW t)(hL:(fP d).length<=4294967000)(hB:(gI d).length<=4294967000)(hM:d.once.length+d.many.length<=4294967000)(q:KV s (.bool (mA d))):Den cx 18 [.agg d.cs] KV Kp s:=by
 refine fS λb0=>?_
 have Z:=b0 _ (dZ ..);have b2:Rlz (.list none (d.eqs.map Eqn.enc)):=Z.cell (by simp[Dfn.cs]);have b3:Rlz (.list none (d.rules.map Rul.enc)):=Z.cell (by simp[Dfn.cs]);clear b0 Z;unfold mA at q;have z1:decide ((12:Int)<((d.once.length:Nat):Int))=decide (12<d.once.length):=by rw[cW];omega
 have z2:decide ((12:Int)<((d.many.length:Nat):Int))=decide (12<d.many.length):=by rw[cW];omega
 have z3:decide ((300:Int)<((d.rules.length:Nat):Int))=decide (300<d.rules.length):=by rw[cW];omega
 have z4:decide ((300:Int)<((d.eqs.length:Nat):Int))=decide (300<d.eqs.length):=by rw[cW];omega
 (refine aL func18 [0,1,2,4,6,7,29,31,32,33,34,40,43,44,45,46,62] ?_;simp only[go_sem,ntmps18,f18]);(refine aM λp hp=>?_);have L:(s.setO p (.cells 31 d.cs)).getO p=some (.cells 31 d.cs):=by rw[aH,aE rfl]
 have y:(s.setO p (.cells 31 d.cs)).ge s:=bQ hp (aG s);simp only[go_sem,hp,z1];simp only[Dfn.cs,Sig.cs,bS,bP]at L y;generalize b1:s.setO p _=S1 at L y⊢;clear b1 hp;cases H:decide (12<d.once.length)<;>rw[H]at q<;>simp only[go_sem,L,z1,H,z2]
 rotate_left
 .exact aF q y
 cases O:decide (12<d.many.length)<;>rw[O]at q<;>simp only[go_sem,L,z1,H,z2,O,z3]
 rotate_left
 .exact aF q y
 cases c3:decide (300<d.rules.length)<;>rw[c3]at q<;>simp only[go_sem,L,z1,H,z2,O,z3,c3,z4]
 rotate_left
 .exact aF q y
 cases c4:decide (300<d.eqs.length)<;>rw[c4]at q<;>simp only[go_sem,L,z1,H,z2,O,z3,c3,z4,c4]
 rotate_left
 .exact aF q y
 clear H O c3 c4 z1 z2 z3 z4;simp only[iG,fW]at q;refine Ex.loop (ι:=Nat) (λi=>[(1,.ptr p 0),(31,.list none (d.eqs.map Eqn.enc)),(32,.int .i64 (d.eqs.length:Nat)),(33,.int .i64 (i:Nat))]) (λ_=>S1) (λi=>i<=d.eqs.length/\KV s (.bool (((d.eqs.drop i).all λx=>!decide (20<x.cond.length))&&((d.rules.all λr=>decide (r.parts.length<=20)&&(decide (r.cond.length<=20)&&(decide (r.new.length<=20)&&decide (r.drop.length<=20))))&&((gI d).all dT&&(fP d).all λt=>(Tm.val 60 t 0).isSome))))) (λi=>d.eqs.length-i) 0 ⟨aX _,q⟩ ?_ (aG _) ?_
 .simp only[go_sem]
  try exact rfl
 .clear q;rintro i ⟨hi,q⟩;refine bC (V:=[0,1,2,4,6,7,29,31,32,33,34,40,43,44,45,46,62]) _ _ _ _ ?_;simp only[go_sem]
  (apply aQ<;>intro h)<;>simp only[go_sem,h]
  .have u:i<d.eqs.length:=gQ h;clear h;obtain⟨x,M⟩:∃a,d.eqs[i]?=some a:=⟨_,aV u⟩
   rw[aF7 M]at q;have z:decide ((20:Int)<((x.cond.length:Nat):Int))=decide (20<x.cond.length):=by rw[cW];omega
   simp only[go_sem,M,u];(intro b4 G;try simp only[cU,cN,bJ]at G);have f1:=aS L (by first|exact G|exact G.2|exact G.2.2|exact G.2.2.2|exact G.2.2.2.2);have B:(S1.setO b4 (.cells 41 x.cs)).ge S1:=bQ G (aG S1);simp only[Eqn.cs]at B;cases H:decide (20<x.cond.length)<;>rw[H]at q<;>simp only[go_sem,M,u,G,f1,z,H]
   .exact⟨i+1,⟨u,q⟩,by omega,b2.wrap (i:=i) (gQ u),bK⟩
   .exact aF q (B.trans y)
  .have U:i=d.eqs.length:=Nat.le_antisymm hi (Nat.le_of_not_lt (gQ h));subst U;clear h hi;rw[eB (bL _)]at q;simp only[go_sem,L];refine Ex.loop (ι:=Nat) (λi=>[(1,.ptr p 0),(43,.list none (d.rules.map Rul.enc)),(44,.int .i64 (d.rules.length:Nat)),(45,.int .i64 (i:Nat))]) (λ_=>S1) (λi=>i<=d.rules.length/\KV s (.bool (((d.rules.drop i).all λr=>decide (r.parts.length<=20)&&(decide (r.cond.length<=20)&&(decide (r.new.length<=20)&&decide (r.drop.length<=20))))&&((gI d).all dT&&(fP d).all λt=>(Tm.val 60 t 0).isSome)))) (λi=>d.rules.length-i) 0 ⟨aX _,q⟩ ?_ (aG _) ?_
   .simp only[go_sem]
    try exact rfl
   .clear q;rintro i ⟨hi,q⟩;refine bC (V:=[0,1,2,4,6,7,29,31,32,33,34,40,43,44,45,46,62]) _ _ _ _ ?_;simp only[go_sem]
    (apply aQ<;>intro h)<;>simp only[go_sem,h]
    .have u:i<d.rules.length:=gQ h;clear h;obtain⟨x,M⟩:∃a,d.rules[i]?=some a:=⟨_,aV u⟩
     rw[aF7 M]at q;have z:=aNv x.parts.length x.cond.length x.new.length x.drop.length;simp only[go_sem,M,u];(intro b6 F;try simp only[cU,cN,bJ]at F);have f1:=aS L (by first|exact F|exact F.2|exact F.2.2|exact F.2.2.2|exact F.2.2.2.2);have B:(S1.setO b6 (.cells 46 x.cs)).ge S1:=bQ F (aG S1);simp only[Rul.cs]at B;simp only[go_sem,M,u,F,f1,z];cases H:(decide (x.parts.length<=20)&&(decide (x.cond.length<=20)&&(decide (x.new.length<=20)&&decide (x.drop.length<=20))))<;>rw[H]at q<;>simp only[go_sem,M,u,F,f1,H]
     .exact aF q (B.trans y)
     .exact⟨i+1,⟨u,q⟩,by omega,b3.wrap (i:=i) (gQ u),B⟩
    .have U:i=d.rules.length:=Nat.le_antisymm hi (Nat.le_of_not_lt (gQ h));subst U;clear h hi;rw[eB (bL _)]at q
     replace q:KV s (.bool ((gI d).all dT&&(fP d).all λt=>(Tm.val 60 t 0).isSome)):=q
     simp only[go_sem,L];refine fL (aJG d hB aB S1 _ _ ?_) (by simp only[Dfn.cs,Sig.cs,bS,bP]);simp only[go_sem,L];refine aB8 (gI d) (λx=>!dT x) 34 [] [] _ _ _ (λx M KV Kp q=>aIU x q) ?_;rw[show((gI d).any λx=>!dT x)=!(gI d).all dT by simp[List.any_eq_not_all_not]];cases H:(gI d).all dT<;>rw[H]at q<;>simp only[go_sem,L]
     .exact aF q y
     .refine fL (aEU d (by rw[yA];omega) hM S1 _ _ ?_) (by simp only[Dfn.cs,Sig.cs,bS,bP]);rw[yA];simp only[go_sem,L];refine aJ7 (fP d) (λt=>!(Tm.val 60 t 0).isSome) 39 [] [] _ _ _ (λx M KV Kp q=>aIK x (hT x M) q) ?_;rw[show((fP d).any λt=>!(Tm.val 60 t 0).isSome)=!(fP d).all λt=>(Tm.val 60 t 0).isSome by simp[List.any_eq_not_all_not]];simp only[go_sem];cases O:(fP d).all λt=>(Tm.val 60 t 0).isSome<;>rw[O]at q<;>simp only[go_sem]
      .exact aF q y
      .exact aF q y
end
end
section
section
variable {s:St} {KV Kp:St->A->Prop} {c:Nat} {d:Dfn}
def yH(x y:Part):Bool:=decide (y.cell=x.cell)&&decide (y.at_=x.at_)
theorem aJ4(p:Nat)(x y:Part)(u:s.getO p=some (.cells 69 x.cs))(h:KV s (.bool (yH x y))):Den cx 112 [.agg y.cs,.ptr p 0] KV Kp s:=by
 unfold yH at h;simp only[Part.cs,bS,bP]at u;(refine aL func112 [0,1,2,3] ?_;simp only[go_sem,ntmps112,f112]);(refine aM λq z=>?_);have F:=aS u z;simp only[go_sem,u,z,F];cases B:decide (y.cell=x.cell)<;>rw[B]at h<;>simp only[go_sem,u,z,F,B]
 .exact aF h bA
 .exact aF h bA
theorem aJo(p:Nat)(a:aC)(y:Part)(h:s.getO p=some (.cells 9 [.str a]))(B:KV s (.bool (decide (y.at_=a)))):Den cx 114 [.agg y.cs,.ptr p 0] KV Kp s:=by
 (refine aL func114 [0,1,2,3] ?_;simp only[go_sem,ntmps114,f114]);(refine aM λq u=>?_);have z:=aS h u;simp only[go_sem,h,u,z];exact aF B bA
theorem aJL(h:CkAt s c d)(ho:d.once.length<=4294967000)(hm:d.many.length<=4294967000)(z:List Part)(x:Part)(hW:TmW x.left)(hL:x.left.pre.length<=4294967000)(hR:x.right.length<=4294967000)
  (B:CK KV Kp s (yS d z x)):Den cx 67 [.ptr c 0,.agg x.cs,.list none (z.map Part.enc)] KV Kp s:=by
 have hC:=h;obtain⟨r,hc,hB⟩:=h;unfold yS at B;(refine sH func67 [0,1,2,4,6,7,8,9,11,25,32,42,50,81,82,83,84] ?_;simp only[go_sem,ntmps67,f67]);(refine aM λp hp=>?_);have e1:=aS hc hp;simp only[go_sem,hp];(refine aM λq hq=>?_);have e2:=aS hc hq.2;have F:((s.setO p (.cells 69 x.cs)).setO q (.cells 75 [.int .i64 x.line,.int .i64 x.col])).ge s:=by simp only[Part.cs,bS,bP];exact bA
 have H:((s.setO p (.cells 69 x.cs)).setO q (.cells 75 [.int .i64 x.line,.int .i64 x.col])).getO p=some (.cells 69 x.cs):=by rw[aH,aD (λe=>hq.1.1 e.symm),aH,aE rfl]
 have M:((s.setO p (.cells 69 x.cs)).setO q (.cells 75 [.int .i64 x.line,.int .i64 x.col])).getO q=some (.cells 75 [.int .i64 x.line,.int .i64 x.col]):=by rw[aH,aE rfl]
 simp only[go_sem,hp,hq,hc,e1,e2];generalize b1:((s.setO p (.cells 69 x.cs)).setO q (.cells 75 [.int .i64 x.line,.int .i64 x.col]))=S1 at F H M;simp only[Part.cs,bS,bP,Tm.cs]at b1;rw[b1];clear b1;have b0:=hC.ge F;have gc:=F.ob _ _ hc;have b7:=H;simp only[Part.cs,bS,bP,Tm.cs]at H;refine dC (aCd b0 ho hm x.cell ?_);generalize hS:gJ d x.cell=C at B;obtain⟨S,mn,ok⟩:=C;simp only[go_sem,H,M];cases ok with
 | false =>
  simp only[go_sem,H,M];refine dC (eC 13 _ _ _ ?_);simp only[go_sem];exact aF B F
 | true =>
  rw[aD (λh=>by cases h)]at B;simp only[go_sem,H,M];have key:mn=!decide (x.at_=[])\/mn≠!decide (x.at_=[]):=by cases mn<;>cases decide (x.at_=[])<;>simp
  rcases key with O|O
  rotate_left
  .rw[aE O]at B;cases c2:decide (x.at_=[])<;>cases mn<;>rw[c2]at O<;>first|exact cV rfl O|(simp only[go_sem,H,M,c2,beq_true,beq_false];refine dC (eC 15 _ _ _ ?_);simp only[go_sem];exact aF B F)
  rw[aD (λh=>h O)]at B;cases c2:decide (x.at_=[])<;>cases mn<;>rw[c2]at O<;>first|(cases O;done)|skip
  all_goals
   simp only[go_sem,H,M,c2,beq_true,beq_false];refine dC (aEl z (yH x) 112 [] [.ptr p 0] _ _ _ (λy hy KV Kp B=>aJ4 p x y b7 B) ?_);have b4:(z.any λy=>decide (y.cell=x.cell)&&decide (y.at_=x.at_))=z.any (yH x):=rfl;rw[b4]at B;cases hb:z.any (yH x)<;>rw[hb]at B
   rotate_left
   .simp only[go_sem,H,M];refine dC (eC 14 _ _ _ ?_);simp only[go_sem];exact aF B F
   rw[aD (λh:false=true=>by cases h)]at B;simp only[go_sem,H,M];(refine bB (OT.r 0 15) [(6,[10])] ?_;simp only[go_sem,H,M,gc]);refine dC (aEg (hB.ge F) x.left hW aB ?_);cases b6:rV d.sig x.left
   .rw[b6,aE (.inl rfl)]at B;simp only[go_sem,H,M];refine dC (eC 16 _ _ _ ?_);simp only[go_sem];exact aF B F
   rw[b6]at B;have f1:decide ((1:Int)<((x.right.length:Nat):Int))=decide (1<x.right.length):=by rw[cW];omega
   by_cases Z:1<x.right.length
   .rw[aE (.inr Z)]at B;simp only[go_sem,H,M,f1,cZ Z];refine dC (eC 16 _ _ _ ?_);simp only[go_sem];exact aF B F
   rw[aD (λh=>h.elim (λh=>by cases h) Z)]at B;simp only[go_sem,H,M,f1,cH Z];refine dC (xD b0 _ _ _ x.right (iJ B (λB=>?_) (λf hf=>?_)));rotate_left
   .simp only[go_sem];exact aF hf F
   simp only[go_sem,H,M];refine .inr λt bc=>⟨by decide,λy hy=>nC hy,λy hy=>(by rw[cC.1 hy];rfl),by omega,?_⟩
   have b5:((S1.setT t (1,39)).setT t (1+x.right.length,39)).ge S1:=by simp only[nI];exact gE (tk:=some t) (aG S1) (λu hu=>by cases hu;exact bc)
   have b3:(A.agg x.left.cs::x.right.map Tm.enc)=(x.left::x.right).map Tm.enc:=by simp only[bN,cG]
   simp only[Tm.cs]at b3;rw[b3]
   refine Ex.loop (ι:=Nat) (λi=>[(0,.ptr c 0),(4,.ptr p 0),(6,.ptr q 0),(7,.str S),(81,.list (some t) ((x.left::x.right).map Tm.enc)),(82,.int .i64 ((x.left::x.right).length:Nat)),(83,.int .i64 (i:Nat))])
    (λ_=>S1) (λi=>i<=(x.left::x.right).length/\CK KV Kp s (dH (λt=>iT d.sig x.cell x.line x.col t S) ((x.left::x.right).drop i))) (λi=>(x.left::x.right).length-i) 0 ⟨aX _,B⟩ ?_ b5 ?_
   .simp only[go_sem]
    try exact rfl
   .clear B;have b8:(x.left::x.right).length<=4294967100:=by rw[aO];omega
    generalize x.left::x.right=L at b8;rintro i ⟨hi,B⟩;refine bC (V:=[0,1,2,4,6,7,8,9,11,25,32,42,50,81,82,83,84]) _ _ _ _ ?_;simp only[go_sem]
    (apply aQ<;>intro h)<;>simp only[go_sem,h]
    .have U:i<L.length:=gQ h;clear h;obtain⟨k,b2⟩:∃a,L[i]?=some a:=⟨_,aV U⟩
     rw[nU _ b2]at B;simp only[go_sem,b2,U];(intro b9 G;try simp only[cU,cN,bJ]at G);have f2:=aS M (by first|exact G|exact G.2|exact G.2.2|exact G.2.2.2|exact G.2.2.2.2);have f3:=aS H G;simp only[go_sem,b2,U,G,f2,f3,M,H];refine dC (uH (b0.ge (bQ G (aG S1))) _ _ _ k _ (iJ B (λB=>?_) (λf hf=>?_)));rotate_left
     .simp only[go_sem];exact aF hf ((bQ G (aG S1)).trans F)
     simp only[go_sem];exact⟨i+1,⟨U,B⟩,by omega,bM i aB,bK⟩
    .have bb:i=L.length:=Nat.le_antisymm hi (Nat.le_of_not_lt (gQ h));subst bb;rw[eB (bL _)]at B;exact aF B F
end
end
section
theorem aJY{d:Dfn}{n:aC}{l k:Int}:∀{q:List Tm} {h:List Cel} {j:Nat} {t:Tm} {m:Cel},q[j]?=some t->h[j]?=some m ->
  kY d n l k (q.drop j) (h.drop j)=bU (lD d.sig n l k [t]) (bU (iT d.sig n l k t m.sort) (kY d n l k (q.drop (j+1)) (h.drop (j+1)))):=by
 intro q h j t m u y;obtain⟨z,rfl⟩:=dG.1 u;obtain⟨i2,rfl⟩:=dG.1 y;rw[kN z,kN i2];rfl
theorem aKN{l k:Int}{b:List aC}{ss:List aC}{j:Nat}{x:aC}(h:ss[j]?=some x):mL l k b (ss.drop j)=bU (dN (decide (x∈b)) ⟨14,x,l,k⟩) (mL l k (b++[x]) (ss.drop (j+1))):=by
 obtain⟨q,rfl⟩:=dG.1 h;rw[kN q];rfl
theorem rG{α:Type}{l:List α}{i:Nat}{x:α}(h:l[i]?=some x):l.take (i+1)=l.take i++[x]:=by rw[eO,h];rfl
section
variable {s:St} {KV Kp:St->A->Prop} {c:Nat} {d:Dfn}
theorem aJ3(h:CkAt s c d)(r:Rul)(hn:r.new.length<=4294967000)(bd:∀x,x∈r.new->x.cells.length<=4294967000)(hd:r.drop.length<=4294967000)(u:CK KV Kp s (pO d r)) :
  Den cx 70 [.ptr c 0,.agg [.int .i64 r.line,.int .i64 r.col],.agg r.cs] KV Kp s:=by
 have hC:=h;obtain⟨rb,hc,hB⟩:=h;unfold pO at u;(refine aL func70 [0,1,2,4,5,7,9,10,11,13,14,15,17,18,19,20,40,47,48,49,50,54,55,56,57,86,87,88,89,96,102,103,104,105,114] ?_;simp only[go_sem,ntmps70,f70]);(refine aM λq hq=>?_);simp only[go_sem,hq];(refine aM λp hp=>?_);simp only[go_sem,hp];have H:((s.setO q (.cells 75 [.int .i64 r.line,.int .i64 r.col])).setO p (.cells 46 r.cs)).ge s:=by simp only[Rul.cs];exact bA
 have L:((s.setO q (.cells 75 [.int .i64 r.line,.int .i64 r.col])).setO p (.cells 46 r.cs)).getO p=some (.cells 46 r.cs):=by rw[aH,aE rfl]
 have M:((s.setO q (.cells 75 [.int .i64 r.line,.int .i64 r.col])).setO p (.cells 46 r.cs)).getO q=some (.cells 75 [.int .i64 r.line,.int .i64 r.col]):=by rw[aH,aD (λe=>by subst e;simp at hp),aH,aE rfl]
 generalize b3:((s.setO q (.cells 75 [.int .i64 r.line,.int .i64 r.col])).setO p (.cells 46 r.cs))=S1 at H L M;simp only[Rul.cs]at b3;rw[b3];clear b3;have b5:=hC.ge H;have U:=H.ob _ _ hc;simp only[Rul.cs]at L
 (try simp only[go_sem,L,M])
 refine Ex.loop (ι:=Nat) (λi=>[(0,.ptr c 0),(4,.ptr q 0),(5,.ptr p 0),(17,.list none (r.new.map Fresh.enc)),(18,.int .i64 (r.new.length:Nat)),(19,.int .i64 (i:Nat))])
  (fun _ => S1) (fun i => i ≤ r.new.length ∧ (∀ x,x ∈ r.new.take i → x.cells.length = d.many.length) ∧ CK KV Kp s (bU (dH (fun x : Fresh => dN (decide (d.kind = []) || !decide (x.cells.length = d.many.length)) ⟨15,r.name,r.line,r.col⟩) (r.new.drop i))
   (bU (dH (λx:Fresh=>kY d r.name r.line r.col x.cells d.many) r.new) (bU (dH (λs=>dN (!r.parts.any λx=>decide (x.at_=s)) ⟨13,s,r.line,r.col⟩) r.drop) (mL r.line r.col [] r.drop)))))
  (λi=>r.new.length-i) 0 ⟨aX _,λx Z=>(by cases Z),u⟩ ?_ (aG _) ?_
 .simp only[go_sem]
  try exact rfl
 .clear u;rintro i ⟨hi,b2,u⟩;refine bC (V:=[0,1,2,4,5,7,9,10,11,13,14,15,17,18,19,20,40,47,48,49,50,54,55,56,57,86,87,88,89,96,102,103,104,105,114]) _ _ _ _ ?_;simp only[go_sem]
  (apply aQ<;>intro h)<;>simp only[go_sem,h]
  .have z:i<r.new.length:=gQ h;clear h;obtain⟨x,Z⟩:∃a,r.new[i]?=some a:=⟨_,aV z⟩
   rw[nU _ Z,lV]at u;have bg:=rG Z;simp only[go_sem,Z,z];(intro b7 G;try simp only[cU,cN,bJ]at G);have f1:=aS U (by first|exact G|exact G.2|exact G.2.2|exact G.2.2.2|exact G.2.2.2.2);have f2:=aS M G;have f3:=aS L G;simp only[go_sem,Z,z,G,f1,f2,f3,L,M,U];(refine bB (OT.r 0 18) [] ?_;simp only[go_sem,Z,z,G,f1,f2,f3,L,M,U]);have n1:decide (((x.cells.length:Nat):Int)=((d.many.length:Nat):Int))=decide (x.cells.length=d.many.length):=by rw[cW];omega
   cases c1:decide (d.kind=[])<;>rw[c1]at u<;>simp only[go_sem,Z,z,G,f1,f2,f3,L,M,U,c1,n1]
   rotate_left
   ·replace u:CK KV Kp s (some (⟨15,r.name,r.line,r.col⟩:Fault)):=u
    refine eC 15 _ _ _ ?_;simp only[go_sem];exact aF u ((bQ G (aG S1)).trans H)
   cases c2:decide (x.cells.length=d.many.length)<;>rw[c2]at u<;>simp only[go_sem,Z,z,G,f1,f2,f3,L,M,U,c1,c2,n1]
   ·replace u:CK KV Kp s (some (⟨15,r.name,r.line,r.col⟩:Fault)):=u
    refine eC 15 _ _ _ ?_;simp only[go_sem];exact aF u ((bQ G (aG S1)).trans H)
   .refine⟨i+1,⟨z,λy hy=>?_,u⟩,by omega,bM i aB,bK⟩;rw[bg]at hy;rcases dK.1 hy with hy|hy
    .exact b2 y hy
    .rw[cC.1 hy];exact gR c2
  .have O:i=r.new.length:=Nat.le_antisymm hi (Nat.le_of_not_lt (gQ h));subst O;clear h hi;rw[eB (bL _)]at u;rw[List.take_length]at b2
   replace u:CK KV Kp s (bU (dH (λx:Fresh=>kY d r.name r.line r.col x.cells d.many) r.new) (bU (dH (λs=>dN (!r.parts.any λx=>decide (x.at_=s)) ⟨13,s,r.line,r.col⟩) r.drop) (mL r.line r.col [] r.drop))):=u
   simp only[go_sem,L,M]
   refine Ex.loop (ι:=Nat) (λi=>[(0,.ptr c 0),(4,.ptr q 0),(5,.ptr p 0),(47,.list none (r.new.map Fresh.enc)),(48,.int .i64 (r.new.length:Nat)),(49,.int .i64 (i:Nat))])
    (λ_=>S1) (λi=>i<=r.new.length/\CK KV Kp s (bU (dH (λx:Fresh=>kY d r.name r.line r.col x.cells d.many) (r.new.drop i)) (bU (dH (λs=>dN (!r.parts.any λx=>decide (x.at_=s)) ⟨13,s,r.line,r.col⟩) r.drop) (mL r.line r.col [] r.drop))))
    (λi=>r.new.length-i) 0 ⟨aX _,u⟩ ?_ (aG _) ?_
   .simp only[go_sem]
    try exact rfl
   .clear u;rintro i ⟨hi,u⟩;refine bC (V:=[0,1,2,4,5,7,9,10,11,13,14,15,17,18,19,20,40,47,48,49,50,54,55,56,57,86,87,88,89,96,102,103,104,105,114]) _ _ _ _ ?_;simp only[go_sem]
    (apply aQ<;>intro h)<;>simp only[go_sem,h]
    .have z:i<r.new.length:=gQ h;clear h;obtain⟨x,Z⟩:∃a,r.new[i]?=some a:=⟨_,aV z⟩
     have bb:x∈r.new:=cR Z;have bj:=b2 x bb;have bh:=bd x bb;rw[nU _ Z,lV]at u;generalize hR:bU (dH (λx:Fresh=>kY d r.name r.line r.col x.cells d.many) (r.new.drop (i+1))) (bU (dH (λs=>dN (!r.parts.any λx=>decide (x.at_=s)) ⟨13,s,r.line,r.col⟩) r.drop) (mL r.line r.col [] r.drop))=R at u;simp only[go_sem,Z,z];(refine aM λb9 b6=>?_);simp only[go_sem,Z,z,b6]
     refine Ex.loop (ι:=Nat) (λj=>[(0,.ptr c 0),(4,.ptr q 0),(5,.ptr p 0),(47,.list none (r.new.map Fresh.enc)),(48,.int .i64 (r.new.length:Nat)),(49,.int .i64 (i:Nat)),(54,.list none (x.cells.map Tm.enc)),(55,.int .i64 (x.cells.length:Nat)),(56,.int .i64 (j:Nat))])
      (λ_=>S1) (λj=>j<=x.cells.length/\CK KV Kp s (bU (kY d r.name r.line r.col (x.cells.drop j) (d.many.drop j)) R)) (λj=>x.cells.length-j) 0 ⟨aX _,u⟩ ?_ (bQ b6 (aG S1)) ?_
     .simp only[go_sem]
      try exact rfl
     .clear u;rintro j ⟨hj,u⟩;refine bC (V:=[0,1,2,4,5,7,9,10,11,13,14,15,17,18,19,20,40,47,48,49,50,54,55,56,57,86,87,88,89,96,102,103,104,105,114]) _ _ _ _ ?_;simp only[go_sem]
      (apply aQ<;>intro h)<;>simp only[go_sem,h]
      .have b1:j<x.cells.length:=gQ h;clear h;obtain⟨t,ht⟩:∃a,x.cells[j]?=some a:=⟨_,aV b1⟩
       have b8:j<d.many.length:=by omega
       obtain⟨m,hm⟩:∃a,d.many[j]?=some a:=⟨_,aV b8⟩
       rw[aJY ht hm,lV,lV]at u;simp only[go_sem,ht,b1];(intro bc B;try simp only[cU,cN,bJ]at B);have f1:=aS U (by first|exact B|exact B.2|exact B.2.2|exact B.2.2.2|exact B.2.2.2.2);have f2:=aS M B;have f3:=aS L B;have b0:(S1.setO bc (.cells 39 t.cs)).ge S1:=bQ B (aG S1);simp only[Tm.cs]at b0;simp only[go_sem,ht,b1,B,f1,f2,f3,L,M,U];refine fL (xD (b5.ge b0) _ _ _ [t] (iJ u (λu=>?_) (λf hf=>?_))) (by rw[wE];rfl);rotate_left
       .simp only[go_sem];exact aF hf (b0.trans H)
       simp only[go_sem,ht,b1,B,f1,f2,f3,L,M,U];(refine bB (OT.r 0 15) [] ?_;simp only[go_sem,ht,b1,B,f1,f2,f3,L,M,U,hm,b8]);refine uH (b5.ge b0) _ _ _ t _ (iJ u (λu=>?_) (λf hf=>?_));rotate_left
       .simp only[go_sem];exact aF hf (b0.trans H)
       simp only[go_sem];exact⟨j+1,⟨b1,u⟩,by omega,bM j aB,b0⟩
      .have bf:j=x.cells.length:=Nat.le_antisymm hj (Nat.le_of_not_lt (gQ h));subst bf;rw[eB (bL _)]at u
       replace u:CK KV Kp s R:=u
       rw[<-hR]at u;exact⟨i+1,⟨z,u⟩,by omega,bM i aB,aG _⟩
    .have O:i=r.new.length:=Nat.le_antisymm hi (Nat.le_of_not_lt (gQ h));subst O;clear h hi;rw[eB (bL _)]at u
     replace u:CK KV Kp s (bU (dH (λs=>dN (!r.parts.any λx=>decide (x.at_=s)) ⟨13,s,r.line,r.col⟩) r.drop) (mL r.line r.col [] r.drop)):=u
     simp only[go_sem,L,M]
     refine Ex.loop (ι:=Nat) (λi=>[(0,.ptr c 0),(4,.ptr q 0),(5,.ptr p 0),(86,.list none (r.drop.map .str)),(87,.int .i64 (r.drop.length:Nat)),(88,.int .i64 (i:Nat))])
      (λ_=>S1) (λi=>i<=r.drop.length/\CK KV Kp s (bU (dH (λs=>dN (!r.parts.any λx=>decide (x.at_=s)) ⟨13,s,r.line,r.col⟩) (r.drop.drop i)) (mL r.line r.col [] r.drop))) (λi=>r.drop.length-i) 0 ⟨aX _,u⟩ ?_ (aG _) ?_
     .simp only[go_sem]
      try exact rfl
     .clear u;rintro i ⟨hi,u⟩;refine bC (V:=[0,1,2,4,5,7,9,10,11,13,14,15,17,18,19,20,40,47,48,49,50,54,55,56,57,86,87,88,89,96,102,103,104,105,114]) _ _ _ _ ?_;simp only[go_sem]
      (apply aQ<;>intro h)<;>simp only[go_sem,h]
      .have z:i<r.drop.length:=gQ h;clear h;obtain⟨a,ha⟩:∃a,r.drop[i]?=some a:=⟨_,aV z⟩
       rw[nU _ ha,lV]at u;simp only[go_sem,ha,z];(intro b4 F;try simp only[cU,cN,bJ]at F);have f1:=aS U (by first|exact F|exact F.2|exact F.2.2|exact F.2.2.2|exact F.2.2.2.2);have f2:=aS M F;have f3:=aS L F;simp only[go_sem,ha,z,F,f1,f2,f3,L,M,U];refine aEl r.parts (λx=>decide (x.at_=a)) 114 [] [.ptr b4 0] _ _ _ (λy hy KV Kp u=>aJo b4 a y (by rw[aH,aE rfl]) u) ?_;cases hb:r.parts.any λx=>decide (x.at_=a)<;>rw[hb]at u<;>simp only[go_sem,F,f1,f2,f3,L,M,U]
       ·replace u:CK KV Kp s (some (⟨13,a,r.line,r.col⟩:Fault)):=u
        refine eC 13 _ _ _ ?_;simp only[go_sem];exact aF u ((bQ F (aG S1)).trans H)
       .exact⟨i+1,⟨z,u⟩,by omega,bM i aB,bK⟩
      .have O:i=r.drop.length:=Nat.le_antisymm hi (Nat.le_of_not_lt (gQ h));subst O;clear h hi;rw[eB (bL _)]at u
       replace u:CK KV Kp s (mL r.line r.col [] r.drop):=u
       simp only[go_sem,L,M]
       refine Ex.loop (ι:=Nat) (λi=>[(0,.ptr c 0),(4,.ptr q 0),(5,.ptr p 0),(102,.list none (r.drop.map .str)),(103,.int .i64 (r.drop.length:Nat)),(104,.int .i64 (i:Nat))])
        (λ_=>S1) (λi=>i<=r.drop.length/\CK KV Kp s (mL r.line r.col (r.drop.take i) (r.drop.drop i))) (λi=>r.drop.length-i) 0 ⟨aX _,u⟩ ?_ (aG _) ?_
       .simp only[go_sem]
        try exact rfl
       .clear u;rintro i ⟨hi,u⟩;refine bC (V:=[0,1,2,4,5,7,9,10,11,13,14,15,17,18,19,20,40,47,48,49,50,54,55,56,57,86,87,88,89,96,102,103,104,105,114]) _ _ _ _ ?_;simp only[go_sem]
        (apply aQ<;>intro h)<;>simp only[go_sem,h]
        .have z:i<r.drop.length:=gQ h;clear h;obtain⟨a,ha⟩:∃a,r.drop[i]?=some a:=⟨_,aV z⟩
         rw[aKN ha,<-rG ha]at u;simp only[go_sem,ha,z,L,M,U];refine⟨λy hy=>kX hy,hi,fL (kR _ (r.drop.take i) a _ _ ?_) (by rw[List.map_take])⟩;cases c1:decide (a∈r.drop.take i)<;>rw[c1]at u<;>simp only[go_sem,L,M,U]
         .exact⟨i+1,⟨z,u⟩,by omega,bM i aB,aG _⟩
         ·replace u:CK KV Kp s (some (⟨14,a,r.line,r.col⟩:Fault)):=u
          refine eC 14 _ _ _ ?_;simp only[go_sem];exact aF u H
        .have O:i=r.drop.length:=Nat.le_antisymm hi (Nat.le_of_not_lt (gQ h));subst O;rw[eB (bL _)]at u;exact aF u H
end
end
section
theorem aI2(x:Tm)(l:List Tm)(B:l.length<=4294967000)(t:Nat)(s:St)(KV Kp:St->A->Prop)(q:∀u,s.getT u=none->KV (s.setT u ((x::l).length,39)) (.list (some u) ((x::l).map Tm.enc))) :
  Den cx 69 [.list (some t) ((x::l).map Tm.enc)] KV Kp s:=by
 simp only[bN,cG];(refine aL func69 [0,2,4] ?_;simp only[go_sem,ntmps69,f69]);refine⟨by decide,λy h=>?_,by omega,λu z=>?_⟩
 .rcases List.mem_cons.1 h with rfl|h
  .rfl
  .exact nC h
 .simp only[go_sem];refine aN ?_;have:=q u z;simp only[bN,aO,cG,Tm.cs]at this;exact this
theorem aJU(l:List Tm)(h:l≠[])(y:l.length<=4294967000)(t:Nat)(s:St)(KV Kp:St->A->Prop)(q:∀u,s.getT u=none->KV (s.setT u (l.length,39)) (.list (some u) (l.map Tm.enc))) :
  Den cx 69 [.list (some t) (l.map Tm.enc)] KV Kp s:=by
 cases l with
 | nil=>exact cV rfl h
 | cons x l=>exact aI2 x l (by rw[aO]at y;omega) t s KV Kp q
structure RlI (S1:St) (a:Option Nat) (n:Nat) (b:Option Nat) (m:Nat) (S:St):Prop where
 ge:S.ge S1
 ga:gZ S a n 39
 gb:gZ S b m 39
 na:∀t,a=some t->S1.getT t=none
 nb:∀t,b=some t->S1.getT t=none
 ne:∀t,a=some t->b≠some t
section
variable {S1 S S':St} {a b:Option Nat} {n m:Nat}
theorem RlI.swap(h:RlI S1 a n b m S):RlI S1 b m a n S:=⟨h.ge,h.gb,h.ga,h.nb,h.na,λt q u=>h.ne t u q⟩
theorem RlI.mono(h:RlI S1 a n b m S)(q:S'.ge S):RlI S1 a n b m S':=by
 refine⟨q.trans h.ge,?_,?_,h.na,h.nb,h.ne⟩
 .have:=h.ga;cases a with
  | none=>exact this
  | some t=>exact q.tk _ _ this
 .have:=h.gb;cases b with
  | none=>exact this
  | some t=>exact q.tk _ _ this
theorem RlI.step(h:RlI S1 a n b m S){t:Nat}(z:a=some t\/a=none/\S.getT t=none)(k:Nat):RlI S1 (some t) k b m (S.setT t (k,39)):=by
 have F:S1.getT t=none:=by
  rcases z with z|⟨_,z⟩
  .exact h.na t z
  .cases H:S1.getT t with
   | none=>rfl
   | some v=>rw[h.ge.tk _ _ H]at z;cases z
 have G:b≠some t:=by
  rcases z with z|⟨_,z⟩
  .exact h.ne t z
  .rintro rfl;have:S.getT t=some (m,39):=h.gb;rw[z]at this;cases this
 refine⟨⟨λq o L=>h.ge.ob q o L,λu v B=>?_,λy M=>h.ge.ls y M⟩,?_,?_,λu B=>by cases B;exact F,h.nb,λu B=>by cases B;exact G⟩
 .rw[cF,aD (λe=>by rw[<-e,F]at B;cases B)];exact h.ge.tk u v B
 .show(S.setT t (k,39)).getT t=_;rw[cF,aE rfl]
 .have:=h.gb;cases b with
  | none=>exact this
  | some u =>
   show(S.setT t (k,39)).getT u=_;rw[cF,aD (λe=>G (by rw[e]))];exact this
end
theorem aKc{d:Dfn}{b:List Part}{l:List Part}{i:Nat}{x:Part}(h:l[i]?=some x):pL d b (l.drop i)=bU (yS d b x) (pL d (b++[x]) (l.drop (i+1))):=by
 obtain⟨q,rfl⟩:=dG.1 h;rw[kN q];rfl
theorem aNn{l:List Part}{y:A}(h:y∈l.map Part.enc):y.cells.length=11:=by
 obtain⟨z,_,rfl⟩:=cD.1 h;rfl
theorem uO{α q:Type}(f:α->List q){l:List α}{i:Nat}{x:α}(h:l[i]?=some x):(l.take (i+1)).flatMap f=(l.take i).flatMap f++f x:=by
 rw[eO,h,List.flatMap_append];simp
theorem aFX{α q:Type}(f:α->List q)(l:List α)(i:Nat):((l.take i).flatMap f).length<=(l.flatMap f).length:=by
 have h:(l.flatMap f).length=((l.take i).flatMap f).length+((l.drop i).flatMap f).length:=by rw[<-aI,<-List.flatMap_append,List.take_append_drop]
 omega
theorem aK1(r:Rul):(bG (mE r++jD r)).length=(bG (sG r)).length:=by
 have h:∀q:List Part,(bG (q.map Part.left)).length+(bG (q.flatMap Part.right)).length=(bG (q.flatMap λp=>p.left::p.right)).length:=by
  intro q
  induction q with
  | nil=>rfl
  | cons x r u =>
   simp only[bN,kP,iQ,bG,aI,bS]at u⊢;omega
 have:=h r.parts;simp only[mE,jD,sG,iQ,aI]at this⊢;omega
section
variable {s:St} {KV Kp:St->A->Prop} {c:Nat} {d:Dfn}
theorem aKl(h:CkAt s c d)(ho:d.once.length<=4294967000)(hm:d.many.length<=4294967000)(L:List aC)(r:Rul)(hP:r.parts.length<=4294967000)(hW:∀x,x∈r.parts->TmW x.left)
  (hT:(bG (sG r)).length<=4294967000)(hn:r.new.length<=4294967000)(hd:r.drop.length<=4294967000)(B:CK KV Kp s (nH d L r)) :
  Den cx 25 [.ptr c 0,.agg r.cs,.list none (L.map .str)] KV Kp s:=by
 have hC:=h;obtain⟨rb,hc,hB⟩:=h;unfold nH at B;have c6:=aK1 r;rw[iQ,aI]at c6;have cg:=nV (mE r);have cj:=nV (jD r)
 have cd:(r.parts.flatMap Part.right).length+(r.cond.length+(r.new.flatMap Fresh.cells).length)<=4294967000:=by
  have:(jD r).length=(r.parts.flatMap Part.right).length+(r.cond.length+(r.new.flatMap Fresh.cells).length):=by simp only[jD,aI];omega
  omega
 have c2:∀x,x∈r.new->x.cells.length<=4294967000:=λx G=>by
  have:x.cells.length<=(r.new.flatMap Fresh.cells).length:=by
   obtain⟨a,b,e⟩:=List.append_of_mem G;rw[e];simp only[List.flatMap_append,kP,aI];omega
  omega
 have c7:∀x,x∈r.parts->x.left.pre.length<=4294967000/\x.right.length<=4294967000:=λx G=>by
  have h1:x.left.pre.length<=(bG (mE r)).length:=xK (cD.2 ⟨x,G,rfl⟩)
  have h2:x.right.length<=(r.parts.flatMap Part.right).length:=by
   obtain⟨a,b,e⟩:=List.append_of_mem G;rw[e];simp only[List.flatMap_append,kP,aI];omega
  omega
 (refine aL func25 [0,1,2,4,6,7,8,9,10,11,13,15,21,30,40,41,42,43,65,66,67,68,93,94,95,96] ?_;simp only[go_sem,ntmps25,f25]);(refine aM λp hp=>?_);have e1:=aS hc hp;simp only[go_sem,hp];(refine aM λq hq=>?_);have e2:=aS hc hq.2;have Z:((s.setO p (.cells 46 r.cs)).setO q (.cells 75 [.int .i64 r.line,.int .i64 r.col])).ge s:=by simp only[Rul.cs];exact bA
 have gp:((s.setO p (.cells 46 r.cs)).setO q (.cells 75 [.int .i64 r.line,.int .i64 r.col])).getO p=some (.cells 46 r.cs):=by rw[aH,aD (λe=>hq.1.1 e.symm),aH,aE rfl]
 have gq:((s.setO p (.cells 46 r.cs)).setO q (.cells 75 [.int .i64 r.line,.int .i64 r.col])).getO q=some (.cells 75 [.int .i64 r.line,.int .i64 r.col]):=by rw[aH,aE rfl]
 simp only[go_sem,hp,hq,hc,e1,e2];generalize bm:((s.setO p (.cells 46 r.cs)).setO q (.cells 75 [.int .i64 r.line,.int .i64 r.col]))=S1 at Z gp gq;simp only[Rul.cs]at bm;rw[bm];clear bm;have c0:=hC.ge Z;have gc:=Z.ob _ _ hc;simp only[Rul.cs]at gp;refine kR _ L r.name _ _ ?_;by_cases h0:r.name∈L
 .rw[aE h0]at B;simp only[go_sem,gp,gq,cZ h0];refine eC 14 _ _ _ ?_;simp only[go_sem];exact aF B Z
 rw[aD h0]at B
 have z1:decide (((r.parts.length:Nat):Int)=0)=decide (r.parts=[]):=by
  rw[cW];constructor
  .intro h;exact fC aB
  .intro h;rw[h];rfl
 have z2:decide (r.parts.length=0)=decide (r.parts=[]):=by rw[cW];exact List.length_eq_zero_iff
 by_cases h1:r.parts=[]
 .rw[aE h1]at B;simp only[go_sem,gp,gq,cH h0,z1,z2,cZ h1];refine eC 15 _ _ _ ?_;simp only[go_sem];exact aF B Z
 rw[aD h1]at B;simp only[go_sem,gp,gq,cH h0,z1,z2,cH h1]
 refine Ex.loop (ι:=Nat × Option Nat × Option Nat × St) (λk=>[(0,.ptr c 0),(4,.ptr p 0),(6,.ptr q 0),(7,gv k.2.1 (((r.parts.take k.1).map Part.left).map Tm.enc)),(8,gv k.2.2.1 (((r.parts.take k.1).flatMap Part.right).map Tm.enc)),(9,.nils),(40,.list none (r.parts.map Part.enc)),(41,.int .i64 (r.parts.length:Nat)),(42,.int .i64 (k.1:Nat))])
  (fun k => k.2.2.2) (fun k => k.1 ≤ r.parts.length ∧ RlI S1 k.2.1 ((r.parts.take k.1).map Part.left).length k.2.2.1 ((r.parts.take k.1).flatMap Part.right).length k.2.2.2 ∧ CK KV Kp s (bU (pL d (r.parts.take k.1) (r.parts.drop k.1)) (bU (sB r.line r.col (mE r ++ jD r)) (bU (rT r.line r.col (mE r) (jD r))
   (bU (dH (λt=>bU (lD d.sig r.name r.line r.col [t]) (iT d.sig r.name r.line r.col t [66,111,111,108])) r.cond) (pO d r)))))) (λk=>r.parts.length-k.1) (0,none,none,S1)
  ⟨aX _,⟨aG _,rfl,rfl,λt ht=>(by cases ht),λt ht=>(by cases ht),λt ht=>(by cases ht)⟩,B⟩ ?_ (aG _) ?_
 .simp only[go_sem]
  try exact⟨rfl,rfl,rfl⟩
 .clear B;rintro⟨i,a,b,S⟩ ⟨hi,hR,B⟩;simp only at hi hR B;refine bC (V:=[0,1,2,4,6,7,8,9,10,11,13,15,21,30,40,41,42,43,65,66,67,68,93,94,95,96]) _ _ _ _ ?_;simp only[go_sem]
  (apply aQ<;>intro h)<;>simp only[go_sem,h]
  .have z:i<r.parts.length:=gQ h;clear h;obtain⟨x,G⟩:∃a,r.parts[i]?=some a:=⟨_,aV z⟩
   have bv:x∈r.parts:=cR G;obtain⟨c8,c9⟩:=c7 x bv;rw[aKc G,lV,<-rG G]at B;have bp:=hR.ge.ob _ _ gc;have O:=hR.ge.ob _ _ gp;simp only[go_sem,G,z];(intro bf H;try simp only[cU,cN,bJ]at H);have f1:=aS O (by first|exact H|exact H.2|exact H.2.2|exact H.2.2.2|exact H.2.2.2.2);have bc:(S.setO bf (.cells 69 x.cs)).ge S:=bQ H (aG S);have gb:(S.setO bf (.cells 69 x.cs)).getO bf=some (.cells 69 x.cs):=by rw[aH,aE rfl]
   simp only[go_sem,G,z,H,f1,O];generalize bn:S.setO bf (.cells 69 x.cs)=S2 at bc gb;simp only[Part.cs,Tm.cs,bS,bP]at bn;rw[bn];clear bn f1 H;have bh:=hR.mono bc;have b3:=bc.ob _ _ O;simp only[Part.cs,Tm.cs,bS,bP]at gb;(refine bB (OT.r 0 7) [] ?_;simp only[go_sem,G,z,gb,b3]);refine⟨λy M=>aNn M,hi,?_⟩;rw[<-List.map_take];refine aJL (c0.ge bh.ge) ho hm _ x (hW x bv) c8 c9 (iJ B (λB=>?_) (λf U=>?_));rotate_left
   .simp only[go_sem];exact aF U (bh.ge.trans Z)
   simp only[go_sem,G,z,gb,b3];(refine bB (OT.l [0,1,2,3,5,6,7,4,8,9,10] .nil) [(4,[7])] ?_;simp only[go_sem,G,z,gb,b3]);refine⟨by decide,λy M=>(by rw[cC.1 M];rfl),cT rfl rfl (by rw[aK];exact bh.ga) (λy M=>nC M) (by simp only[aK,dV,aO,aU];omega) (λt ht=>?_)⟩;have bq:=bh.step ht ((r.parts.take i).length+1);simp only[go_sem,G,z,gb,b3];have b9:=aFX Part.right r.parts (i+1);rw[uO _ G,aI]at b9;refine⟨by decide,λy M=>nC M,cT rfl rfl (by rw[aK];exact bq.gb) (λy M=>nC M) (by simp only[aK];omega) (λu hu=>?_)⟩;have br:=(bq.swap.step hu ((((r.parts.take i).flatMap Part.right).map Tm.enc).length+(x.right.map Tm.enc).length)).swap;simp only[go_sem,G,z,gb,b3];simp only[aK]at br⊢;refine⟨(i+1,some t,some u,_),⟨z,?_,B⟩,aP,⟨?_,?_,bM i aB⟩,aG _⟩
   .have q1:(r.parts.take (i+1)).length=(r.parts.take i).length+1:=by rw[rG G];simp
    have q2:((r.parts.take (i+1)).flatMap Part.right).length=((r.parts.take i).flatMap Part.right).length+x.right.length:=by rw[uO _ G,aI]
    show RlI S1 (some t) (r.parts.take (i+1)).length (some u) ((r.parts.take (i+1)).flatMap Part.right).length _;rw[q1,q2];exact br
   .rw[rG G,bY,bY];simp only[bN,cP,cG,Tm.cs];rfl
   .rw[uO _ G,bY];rfl
  .have bd:i=r.parts.length:=Nat.le_antisymm hi (Nat.le_of_not_lt (gQ h));subst bd;clear h hi;rw[eB (bL _)]at B;rw[List.take_length]at hR⊢
   replace B:CK KV Kp s (bU (sB r.line r.col (mE r++jD r)) (bU (rT r.line r.col (mE r) (jD r)) (bU (dH (λt=>bU (lD d.sig r.name r.line r.col [t]) (iT d.sig r.name r.line r.col t [66,111,111,108])) r.cond) (pO d r)))):=B
   have O:=hR.ge.ob _ _ gp;have bk:=hR.ge.ob _ _ gq;have bp:=hR.ge.ob _ _ gc;simp only[go_sem,O,bk]
   refine Ex.loop (ι:=Nat × Option Nat) (λk=>[(0,.ptr c 0),(4,.ptr p 0),(6,.ptr q 0),(7,gv a ((r.parts.map Part.left).map Tm.enc)),(8,gv b ((r.parts.flatMap Part.right).map Tm.enc)),(9,gv k.2 (((r.new.take k.1).flatMap Fresh.cells).map Tm.enc)),(65,.list none (r.new.map Fresh.enc)),(66,.int .i64 (r.new.length:Nat)),(67,.int .i64 (k.1:Nat))])
    (λk=>gs S k.2 ((r.new.take k.1).flatMap Fresh.cells).length 39) (λk=>k.1<=r.new.length/\(k.2=none->((r.new.take k.1).flatMap Fresh.cells).length=0)/\∀t,k.2=some t->S.getT t=none) (λk=>r.new.length-k.1) (0,none)
    ⟨aX _,λ_=>rfl,λt ht=>(by cases ht)⟩ ?_ (aG _) ?_
   .simp only[go_sem]
    try exact⟨rfl,rfl⟩
   .rintro⟨i,k⟩ ⟨hi,bj,U⟩;simp only at hi bj U;refine bC (V:=[0,1,2,4,6,7,8,9,10,11,13,15,21,30,40,41,42,43,65,66,67,68,93,94,95,96]) _ _ _ _ ?_;simp only[go_sem]
    (apply aQ<;>intro h)<;>simp only[go_sem,h]
    .have z:i<r.new.length:=gQ h;clear h;obtain⟨x,G⟩:∃a,r.new[i]?=some a:=⟨_,aV z⟩
     simp only[go_sem,G,z];(refine mP λcf b8=>?_);simp only[go_sem,G,z,b8];have b9:=aFX Fresh.cells r.new (i+1);rw[uO _ G,aI]at b9;refine⟨by decide,λy M=>nC M,cT rfl rfl (by rw[aK];exact eD bj) (λy M=>nC M) (by simp only[aK];omega) (λu hu=>?_)⟩;have c3:=eX hu U;rw[eP hu];simp only[go_sem,G,z,b8];refine⟨(i+1,some u),⟨z,λh=>(by cases h),λt h=>by cases h;exact c3⟩,aP,⟨?_,bM i aB⟩,?_⟩
     .rw[uO _ G,bY];rfl
     .simp only[gs,aK];rw[uO _ G,aI];exact fY (hH b8)
    .have bd:i=r.new.length:=Nat.le_antisymm hi (Nat.le_of_not_lt (gQ h));subst bd;clear h hi;rw[List.take_length]at bj⊢
     obtain⟨t,rfl⟩:∃t,a=some t:=by
      cases a with
      | some t=>exact⟨t,rfl⟩
      | none=>exact cV (List.map_eq_nil_iff.1 (fC hR.ga)) h1
     have c1:b=none->r.parts.flatMap Part.right=[]:=λe=>by subst e;exact fC hR.gb
     have c4:k=none->r.new.flatMap Fresh.cells=[]:=λe=>fC (bj e)
     have bb:(gs S k (r.new.flatMap Fresh.cells).length 39).ge S:=gE (aG S) U;simp only[go_sem,O,bk];generalize gs S k (r.new.flatMap Fresh.cells).length 39=S5 at bb;have b4:=bb.ob _ _ O;have b6:=bb.ob _ _ bk;have bz:=bb.ob _ _ bp;have bt:=bb.trans (hR.ge.trans Z)
     refine⟨⟨by cases b<;>exact⟨rfl,rfl⟩,by cases k<;>exact⟨rfl,rfl⟩⟩,lU (show nK [.list none [gv b ((r.parts.flatMap Part.right).map Tm.enc),.list none (r.cond.map Tm.enc),gv k ((r.new.flatMap Fresh.cells).map Tm.enc)]] [.list none ([r.parts.flatMap Part.right,r.cond,r.new.flatMap Fresh.cells].map λl=>.list none (l.map Tm.enc))] from⟨A.le.list ⟨by simp only[aGr];exact⟨⟨gK _ _ λe=>by rw[c1 e];rfl,rfl⟩,trivial⟩,⟨⟨bF _,rfl⟩,trivial⟩,by simp only[aGr];exact⟨⟨gK _ _ λe=>by rw[c4 e];rfl,rfl⟩,trivial⟩,trivial⟩,trivial⟩)
      (aEd _ (by simp only[List.flatten_cons,List.flatten_nil,aI,aU];omega) _ _ _ ?_)⟩
     have b9:[r.parts.flatMap Part.right,r.cond,r.new.flatMap Fresh.cells].flatten=jD r:=by simp[jD]
     rw[b9];simp only[go_sem,b4,b6];(refine bB (OT.l [0,1,3,2,4,5] .nil) [(2,[0]),(4,[0])] ?_;simp only[go_sem,b4,b6]);have c5:r.parts.map Part.left≠[]:=λe=>h1 (List.map_eq_nil_iff.1 e)
     have ch:(r.parts.map Part.left).length=r.parts.length:=aK ..;have cb:(mE r).length=r.parts.length:=aK ..;refine aJU _ c5 aB t _ _ _ (λu hu=>?_);simp only[go_sem,b4,b6];refine⟨by decide,λy M=>nC M,λy M=>nC M,by omega,?_⟩
     have b0:((S5.setT u (r.parts.length,39)).setT u (r.parts.length+(jD r).length,39)).ge S5:=by
      rw[nI];exact gE (tk:=some u) (aG S5) (λt h=>by cases h;exact hu)
     rw[<-bY];refine aFe _ _ (mE r++jD r) (by rw[iQ,aI];omega) rfl (iJ B (λB=>?_) (λf U=>?_));rotate_left
     .simp only[go_sem];exact aF U (b0.trans bt)
     simp only[go_sem,b4,b6];generalize (S5.setT u (r.parts.length,39)).setT u (r.parts.length+(jD r).length,39)=S6 at b0;have b5:=b0.ob _ _ b4;have b7:=b0.ob _ _ b6;have bg:=b0.ob _ _ bz;have b2:=b0.trans bt;refine aEZ _ _ (mE r) (jD r) aB aB rfl rfl (iJ B (λB=>?_) (λf U=>?_));rotate_left
     .simp only[go_sem];exact aF U b2
     simp only[go_sem,b5,b7];have bl:=hC.ge b2
     refine Ex.loop (ι:=Nat) (λi=>[(0,.ptr c 0),(4,.ptr p 0),(6,.ptr q 0),(93,.list none (r.cond.map Tm.enc)),(94,.int .i64 (r.cond.length:Nat)),(95,.int .i64 (i:Nat))])
      (λ_=>S6) (λi=>i<=r.cond.length/\CK KV Kp s (bU (dH (λt=>bU (lD d.sig r.name r.line r.col [t]) (iT d.sig r.name r.line r.col t [66,111,111,108])) (r.cond.drop i)) (pO d r))) (λi=>r.cond.length-i) 0 ⟨aX _,B⟩ ?_ (aG _) ?_
     .simp only[go_sem]
      try exact rfl
     .clear B;rintro i ⟨hi,B⟩;refine bC (V:=[0,1,2,4,6,7,8,9,10,11,13,15,21,30,40,41,42,43,65,66,67,68,93,94,95,96]) _ _ _ _ ?_;simp only[go_sem]
      (apply aQ<;>intro h)<;>simp only[go_sem,h]
      .have z:i<r.cond.length:=gQ h;clear h;obtain⟨x,G⟩:∃a,r.cond[i]?=some a:=⟨_,aV z⟩
       rw[nU _ G,lV,lV]at B;simp only[go_sem,G,z];(intro bw F;try simp only[cU,cN,bJ]at F);have f1:=aS b5 (by first|exact F|exact F.2|exact F.2.2|exact F.2.2.2|exact F.2.2.2.2);have f2:=aS b7 F;have f3:=aS bg F;have b1:(S6.setO bw (.cells 39 x.cs)).ge S6:=bQ F (aG S6);simp only[Tm.cs]at b1;simp only[go_sem,G,z,F,f1,f2,f3,b5,b7,bg];refine fL (xD (bl.ge b1) _ _ _ [x] (iJ B (λB=>?_) (λf U=>?_))) (by rw[wE];rfl);rotate_left
       .simp only[go_sem];exact aF U (b1.trans b2)
       simp only[go_sem,G,z,F,f1,f2,f3,b5,b7,bg];refine uH (bl.ge b1) _ _ _ x _ (iJ B (λB=>?_) (λf U=>?_));rotate_left
       .simp only[go_sem];exact aF U (b1.trans b2)
       simp only[go_sem];exact⟨i+1,⟨z,B⟩,by omega,bM i aB,b1⟩
      .have bd:i=r.cond.length:=Nat.le_antisymm hi (Nat.le_of_not_lt (gQ h));subst bd;clear h hi;rw[eB (bL _)]at B
       replace B:CK KV Kp s (pO d r):=B
       simp only[go_sem,b5,b7,bg];refine aJ3 bl r hn c2 hd (CK.map (a:=pO d r) B (λB=>?_) (λf U=>?_))
       .simp only[go_sem];exact aF B b2
       .simp only[go_sem];exact aF U b2
end
end
section
section
variable {s S S':St} {KV Kp:St->A->Prop} {c:Nat} {d:Dfn}
theorem aGu{tk:Option Nat}{n:Nat}{e:TypeId}(h:gZ S tk n e)(q:S'.ge S):gZ S' tk n e:=by
 cases tk with
 | none=>exact h
 | some t=>exact q.tk _ _ h
theorem aGN{tk:Option Nat}{u:Nat}(q:∀t,tk=some t->s.getT t=none)(y:S.ge s)(z:tk=some u\/tk=none/\S.getT u=none):s.getT u=none:=by
 rcases z with e|⟨_,e⟩
 .exact q u e
 .cases h:s.getT u with
  | none=>rfl
  | some v=>rw[y.tk _ _ h]at e;cases e
theorem aJ6{sg:Sig}{b:List aC}{l:List Cel}{i:Nat}{x:Cel}(h:l[i]?=some x):nB sg b (l.drop i)=bU (aBl sg b x) (nB sg (b++[x.name]) (l.drop (i+1))):=by
 rw[uV h];rfl
theorem aJZ(tk:Option Nat)(s:St)(l:List aC)(x:aC)(h:tk=none->l=[])(KV Kp:St->A->Prop)(q:KV s (.bool (decide (x∈l)))):Den cx 45 [gv tk (l.map .str),.str x] KV Kp s :=
 lU (show nK [gv tk (l.map .str),.str x] [.list none (l.map .str),.str x] from⟨gK _ _ (λe=>by rw[h e];rfl),bF _,trivial⟩) (kR s l x KV Kp q)
theorem aJ8(h:CkAt s c d)(hN:(d.once++d.many).length<=4294967000)(hP:∀x,x∈d.once++d.many->x.init.pre.length<=4294967000)(q:CK KV Kp s (nB d.sig [] (d.once++d.many))):Den cx 23 [.ptr c 0] KV Kp s:=by
 have hC:=h;obtain⟨r,hc,hB⟩:=h;have b2:=hc;simp only[Dfn.cs,Sig.cs,bS,bP]at b2;(refine aL func23 [0,2,4,5,7,19,20,21,22,30,39,72,73,74,75,79] ?_;simp only[go_sem,ntmps23,f23]);(refine bB (OT.l [0,1,2,3,4,5,6,7,8,9,13,10,11,12] .nil) [] ?_;simp only[go_sem,b2]);refine aBY [d.once,d.many] (by simp only[List.flatten_cons,List.flatten_nil,dQ];omega) _ _ _ ?_;rw[show [d.once,d.many].flatten=d.once++d.many by simp];generalize hL:d.once++d.many=L at hN hP q;clear hL;simp only[go_sem]
 refine Ex.loop (ι:=Nat × Option Nat) (λk=>[(0,.ptr c 0),(2,gv k.2 (((L.take k.1).map Cel.name).map .str)),(19,.list none (L.map Cel.enc)),(20,.int .i64 (L.length:Nat)),(21,.int .i64 (k.1:Nat))]) (λk=>gs s k.2 ((L.take k.1).map Cel.name).length 9)
  (λk=>k.1<=L.length/\(k.2=none->(L.take k.1).map Cel.name=[])/\(∀t,k.2=some t->s.getT t=none)/\CK KV Kp s (nB d.sig ((L.take k.1).map Cel.name) (L.drop k.1))) (λk=>L.length-k.1) (0,none) ⟨aX _,λ_=>rfl,λt h=>(by cases h),q⟩ ?_ (aG _) ?_
 .simp only[go_sem]
  try exact⟨rfl,rfl⟩
 .clear q;rintro⟨i,tk⟩ ⟨hi,hn,hf,q⟩;simp only at hi hn hf q;refine bC (V:=[0,2,4,5,7,19,20,21,22,30,39,72,73,74,75,79]) _ _ _ _ ?_;have Z:(gs s tk ((L.take i).map Cel.name).length 9).ge s:=gE (aG s) hf;have b8:gZ (gs s tk ((L.take i).map Cel.name).length 9) tk ((L.take i).map Cel.name).length 9:=eD λe=>by rw[hn e];rfl
  simp only;generalize gs s tk ((L.take i).map Cel.name).length 9=S at Z b8;have gc:=Z.ob _ _ b2;simp only[go_sem]
  (apply aQ<;>intro h)<;>simp only[go_sem,h]
  .have O:i<L.length:=gQ h;clear h;obtain⟨x,hx⟩:∃a,L[i]?=some a:=⟨_,aV O⟩
   have b9:x∈L:=cR hx;rw[aJ6 hx]at q;simp only[go_sem,hx,O];(intro b4 z;try simp only[cU,cN,bJ]at z);have f1:=aS gc (by first|exact z|exact z.2|exact z.2.2|exact z.2.2.2|exact z.2.2.2.2);simp only[go_sem,hx,O,z,f1];(intro b5 B;try simp only[cU,cN,bJ]at B);have f2:=aS gc (by first|exact B|exact B.2|exact B.2.2|exact B.2.2.2|exact B.2.2.2.2);simp only[go_sem,hx,O,z,f1,B,f2];have H:((S.setO b4 (.cells 67 x.cs)).setO b5 (.cells 75 [.int .i64 x.line,.int .i64 x.col])).ge S:=by simp only[Cel.cs,Tm.cs,bS,bP];exact bA
   have M:((S.setO b4 (.cells 67 x.cs)).setO b5 (.cells 75 [.int .i64 x.line,.int .i64 x.col])).getO b4=some (.cells 67 x.cs):=by rw[aH,aD (λe=>B.1.1 e.symm),aH,aE rfl]
   have U:((S.setO b4 (.cells 67 x.cs)).setO b5 (.cells 75 [.int .i64 x.line,.int .i64 x.col])).getO b5=some (.cells 75 [.int .i64 x.line,.int .i64 x.col]):=by rw[aH,aE rfl]
   generalize b1:(S.setO b4 (.cells 67 x.cs)).setO b5 (.cells 75 [.int .i64 x.line,.int .i64 x.col])=S2 at H M U;simp only[Cel.cs,Tm.cs,bS,bP]at b1 M;rw[b1];clear b1 f1 f2 z B;have b6:=aGu b8 H;have G:=H.ob _ _ gc;have F:=H.trans Z;have b7:=hC.ge F;have bb:=hB.ge F;unfold aBl at q;refine aJZ tk _ _ x.name hn _ _ ?_;by_cases c1:x.name∈(L.take i).map Cel.name
   .rw[aE c1]at q;simp only[go_sem,M,U,G,cZ c1];refine eC 14 _ _ _ ?_;simp only[go_sem];exact aF q F
   rw[aD c1]at q;simp only[go_sem,M,U,G,cH c1];(refine bB (OT.r 0 9) [] ?_;simp only[go_sem,M,U,G]);simp only[lV]at q;refine oU bb x.sort ?_;cases c2:iB d.sig x.sort<;>rw[c2]at q<;>simp only[go_sem,M,U,G]
   ·replace q:CK KV Kp s (some (⟨13,x.name,x.line,x.col⟩:Fault)):=q
    refine eC 13 _ _ _ ?_;simp only[go_sem];exact aF q F
   replace q:CK KV Kp s (bU (lD d.sig x.name x.line x.col [x.init]) (bU (iT d.sig x.name x.line x.col x.init x.sort) (bU (dH (λs=>dN (!decide (s=[36])) ⟨17,s,x.line,x.col⟩) (iK [x.init])) (nB d.sig ((L.take i).map Cel.name++[x.name]) (L.drop (i+1)))))):=q
   refine fL (xD b7 _ _ _ [x.init] (iJ q (λq=>?_) (λf hf=>?_))) (by rw[wE];rfl);rotate_left
   .simp only[go_sem];exact aF hf F
   simp only[go_sem,M,U,G];refine uH b7 _ _ _ x.init _ (iJ q (λq=>?_) (λf hf=>?_));rotate_left
   .simp only[go_sem];exact aF hf F
   simp only[go_sem,M,U,G];refine fL (aEK [x.init] (by have:=hP x b9;simp only[bG,aI,aU];omega) _ _ _ ?_) (by rw[wE];rfl)
   have bg:(iK [x.init]).length<=4294967000:=by
    have h1:(iK [x.init]).length<=(bG [x.init]).length:=by
     unfold iK oH;rw[(rE _).length_eq,aK];exact List.length_filter_le _ _
    have:=hP x b9;simp only[bG,aI,aU]at h1;omega
   unfold strs;simp only[go_sem,M,U,G]
   refine Ex.loop (ι:=Nat) (λj=>[(0,.ptr c 0),(2,gv tk (((L.take i).map Cel.name).map .str)),(4,.ptr b4 0),(5,.ptr b5 0),(19,.list none (L.map Cel.enc)),(20,.int .i64 (L.length:Nat)),(21,.int .i64 (i:Nat)),(72,.list none ((iK [x.init]).map .str)),(73,.int .i64 ((iK [x.init]).length:Nat)),(74,.int .i64 (j:Nat))]) (λ_=>S2)
    (λj=>j<=(iK [x.init]).length/\CK KV Kp s (bU (dH (λs=>dN (!decide (s=[36])) ⟨17,s,x.line,x.col⟩) ((iK [x.init]).drop j)) (nB d.sig ((L.take i).map Cel.name++[x.name]) (L.drop (i+1))))) (λj=>(iK [x.init]).length-j) 0 ⟨aX _,q⟩ ?_ (aG _) ?_
   .simp only[go_sem]
    try exact rfl
   .clear q;rintro j ⟨hj,q⟩;refine bC (V:=[0,2,4,5,7,19,20,21,22,30,39,72,73,74,75,79]) _ _ _ _ ?_;simp only[go_sem]
    (apply aQ<;>intro h)<;>simp only[go_sem,h]
    .have b0:j<(iK [x.init]).length:=gQ h;clear h;obtain⟨a,ha⟩:∃a,(iK [x.init])[j]?=some a:=⟨_,aV b0⟩
     rw[nU _ ha,lV]at q;simp only[go_sem,ha,b0];cases c3:decide (a=[36])<;>rw[c3]at q<;>simp only[go_sem,ha,b0,c3,M,U]
     ·replace q:CK KV Kp s (some (⟨17,a,x.line,x.col⟩:Fault)):=q
      refine eC 17 _ _ _ ?_;simp only[go_sem];exact aF q F
     .exact⟨j+1,⟨b0,q⟩,by omega,bM j aB,aG _⟩
    .have bf:j=(iK [x.init]).length:=Nat.le_antisymm hj (Nat.le_of_not_lt (gQ h));subst bf;rw[eB (bL _)]at q
     replace q:CK KV Kp s (nB d.sig ((L.take i).map Cel.name++[x.name]) (L.drop (i+1))):=q
     simp only[go_sem,M,U];refine⟨by decide,λy hy=>(by rw[cC.1 hy];rfl),cT rfl rfl (by simp only[aK]at b6⊢;exact b6) (λy hy=>kX hy) (by simp only[aK,dV,aO,aU];omega) (λu hu=>?_)⟩;have bc:=aGN hf F hu;have b3:=rG hx;simp only[go_sem];refine⟨(i+1,some u),⟨O,λh=>(by cases h),λt h=>by cases h;exact bc,by rw[b3,bY];exact q⟩,aP,⟨by rw[b3,bY,bY];rfl,bM i aB⟩,?_⟩;show St.ge _ (s.setT u ((L.take (i+1)).length,9));rw[b3,aI];exact fY F
  .have bd:i=L.length:=Nat.le_antisymm hi (Nat.le_of_not_lt (gQ h));subst bd;rw[eB (bL _)]at q;exact aF q Z
theorem aJF(h:CkAt s c d)(ho:d.once.length<=4294967000)(hm:d.many.length<=4294967000)(hO:d.sig.ops.length<=4294967000)(q:CK KV Kp s (vK d)):Den cx 24 [.ptr c 0] KV Kp s:=by
 have hC:=h;obtain⟨r,hc,hB⟩:=h;have b4:=hB;obtain⟨a,oo,f,ma,mo,mf,hr,ha,b5,hf,la,lo,lf⟩:=b4;unfold vK at q;(refine aL func24 [0,2,4,5,6,8,10,12,24,47,68,89,90,91,92,106,117,118,119,120,135] ?_;simp only[go_sem,ntmps24,f24]);(refine aM λp hp=>?_);have F:(s.setO p (.cells 75 [.int .i64 0,.int .i64 0])).ge s:=bQ hp (aG s);have H:(s.setO p (.cells 75 [.int .i64 0,.int .i64 0])).getO p=some (.cells 75 [.int .i64 0,.int .i64 0]):=by rw[aH,aE rfl]
 (try simp only[go_sem])
 generalize s.setO p (.cells 75 [.int .i64 0,.int .i64 0])=S at F H⊢;clear hp;have b1:=hC.ge F;have b0:=hB.ge F;have L:=F.ob _ _ hc;have gr:=F.ob _ _ hr;simp only[Dfn.cs,Sig.cs,bS,bP]at L gr;(refine bB (OT.r 0 11) [] ?_;simp only[go_sem,L,H]);refine oU b0 d.start ?_;cases c1:iB d.sig d.start<;>rw[c1]at q<;>simp only[go_sem,L,H]
 ·replace q:CK KV Kp s (some (⟨13,d.start,0,0⟩:Fault)):=q
  (refine bB (OT.r 0 7) [] ?_;simp only[go_sem,L,H]);refine eC 13 _ _ _ ?_;simp only[go_sem];exact aF q F
 rw[aCv]at q;refine aCd b1 ho hm d.watch ?_;cases c2:(gJ d d.watch).2.2<;>rw[c2]at q<;>simp only[go_sem,L,H]
 ·replace q:CK KV Kp s (some (⟨13,d.watch,0,0⟩:Fault)):=q
  (refine bB (OT.r 0 7) [] ?_;simp only[go_sem,L,H]);refine eC 13 _ _ _ ?_;simp only[go_sem];exact aF q F
 cases c3:(gJ d d.watch).2.1<;>rw[c3]at q<;>simp only[go_sem,L,H]
 rotate_left
 ·replace q:CK KV Kp s (some (⟨13,d.watch,0,0⟩:Fault)):=q
  (refine bB (OT.r 0 7) [] ?_;simp only[go_sem,L,H]);refine eC 13 _ _ _ ?_;simp only[go_sem];exact aF q F
 replace q:CK KV Kp s (bU (dN (!(decide (d.kind=[]) == decide (d.many.length=0))) ⟨15,d.kind,0,0⟩)
  (bU (dH (λo:Opr=>dN (decide (0<o.strict.length)&&(!(gJ d [107]).2.2||!decide ((gJ d [107]).1=[76,105,115,116]))) ⟨13,[107],0,0⟩) d.sig.ops)
  (dH (λo:Opr=>dN (decide (0<o.strict.length)&&sV d.sig o.sort) ⟨16,o.name,0,0⟩) d.sig.ops))):=q
 have z0:decide (((d.many.length:Nat):Int)=0)=decide (d.many.length=0):=by rw[cW];omega
 (refine bB (OT.r 0 14) [] ?_;simp only[go_sem,L,H,z0]);have key:(decide (d.kind=[]) == decide (d.many.length=0))=false\/(decide (d.kind=[]) == decide (d.many.length=0))=true:=by cases decide (d.kind=[])<;>cases decide (d.many.length=0)<;>simp
 rcases key with c4|c4<;>rw[c4]at q<;>simp only[go_sem,L,H,c4]
 ·replace q:CK KV Kp s (some (⟨15,d.kind,0,0⟩:Fault)):=q
  (refine bB (OT.r 0 7) [] ?_;simp only[go_sem,L,H]);refine eC 15 _ _ _ ?_;simp only[go_sem];exact aF q F
 rw[aCv]at q;refine aCd b1 ho hm [107] ?_;simp only[go_sem,L,H,gr]
 refine Ex.loop (ι:=Nat) (λi=>[(0,.ptr c 0),(2,.ptr p 0),(6,.str (gJ d [107]).1),(8,.bool (gJ d [107]).2.2),(89,.list none (d.sig.ops.map Opr.enc)),(90,.int .i64 (d.sig.ops.length:Nat)),(91,.int .i64 (i:Nat))]) (λ_=>S)
  (λi=>i<=d.sig.ops.length/\CK KV Kp s (bU (dH (λo:Opr=>dN (decide (0<o.strict.length)&&(!(gJ d [107]).2.2||!decide ((gJ d [107]).1=[76,105,115,116]))) ⟨13,[107],0,0⟩) (d.sig.ops.drop i))
  (dH (λo:Opr=>dN (decide (0<o.strict.length)&&sV d.sig o.sort) ⟨16,o.name,0,0⟩) d.sig.ops))) (λi=>d.sig.ops.length-i) 0 ⟨aX _,q⟩ ?_ (aG _) ?_
 .simp only[go_sem]
  try exact rfl
 .clear q;rintro i ⟨hi,q⟩;refine bC (V:=[0,2,4,5,6,8,10,12,24,47,68,89,90,91,92,106,117,118,119,120,135]) _ _ _ _ ?_;simp only[go_sem]
  (apply aQ<;>intro h)<;>simp only[go_sem,h]
  .have y:i<d.sig.ops.length:=gQ h;clear h;obtain⟨x,M⟩:∃a,d.sig.ops[i]?=some a:=⟨_,aV y⟩
   rw[nU _ M,lV]at q;have z:decide ((0:Int)<((x.strict.length:Nat):Int))=decide (0<x.strict.length):=by rw[cW];omega
   simp only[go_sem,M,y];(intro b2 B;try simp only[cU,cN,bJ]at B);have U:=aS H (by first|exact B|exact B.2|exact B.2.2|exact B.2.2.2|exact B.2.2.2.2);have G:(S.setO b2 (.cells 64 x.cs)).ge S:=bQ B (aG S);simp only[Opr.cs]at G;cases O:decide (0<x.strict.length)<;>rw[O]at q<;>simp only[go_sem,M,y,B,U,z,O,H]
   .exact⟨i+1,⟨y,q⟩,by omega,bM i aB,G⟩
   cases c6:(gJ d [107]).2.2<;>rw[c6]at q<;>simp only[go_sem,M,y,B,U,z,O,H,c6]
   ·replace q:CK KV Kp s (some (⟨13,[107],0,0⟩:Fault)):=q
    refine eC 13 _ _ _ ?_;simp only[go_sem];exact aF q (G.trans F)
   cases c7:decide ((gJ d [107]).1=[76,105,115,116])<;>rw[c7]at q<;>simp only[go_sem,M,y,B,U,z,O,H,c6,c7]
   ·replace q:CK KV Kp s (some (⟨13,[107],0,0⟩:Fault)):=q
    refine eC 13 _ _ _ ?_;simp only[go_sem];exact aF q (G.trans F)
   .exact⟨i+1,⟨y,q⟩,by omega,bM i aB,G⟩
  .have Z:i=d.sig.ops.length:=Nat.le_antisymm hi (Nat.le_of_not_lt (gQ h));subst Z;clear h hi;rw[eB (bL _)]at q
   replace q:CK KV Kp s (dH (λo:Opr=>dN (decide (0<o.strict.length)&&sV d.sig o.sort) ⟨16,o.name,0,0⟩) d.sig.ops):=q
   simp only[go_sem,L,H,gr]
   refine Ex.loop (ι:=Nat) (λi=>[(0,.ptr c 0),(2,.ptr p 0),(117,.list none (d.sig.ops.map Opr.enc)),(118,.int .i64 (d.sig.ops.length:Nat)),(119,.int .i64 (i:Nat))]) (λ_=>S)
    (λi=>i<=d.sig.ops.length/\CK KV Kp s (dH (λo:Opr=>dN (decide (0<o.strict.length)&&sV d.sig o.sort) ⟨16,o.name,0,0⟩) (d.sig.ops.drop i))) (λi=>d.sig.ops.length-i) 0 ⟨aX _,q⟩ ?_ (aG _) ?_
   .simp only[go_sem]
    try exact rfl
   .clear q;rintro i ⟨hi,q⟩;refine bC (V:=[0,2,4,5,6,8,10,12,24,47,68,89,90,91,92,106,117,118,119,120,135]) _ _ _ _ ?_;simp only[go_sem]
    (apply aQ<;>intro h)<;>simp only[go_sem,h]
    .have y:i<d.sig.ops.length:=gQ h;clear h;obtain⟨x,M⟩:∃a,d.sig.ops[i]?=some a:=⟨_,aV y⟩
     rw[nU _ M]at q;have z:decide ((0:Int)<((x.strict.length:Nat):Int))=decide (0<x.strict.length):=by rw[cW];omega
     simp only[go_sem,M,y];(intro b3 u;try simp only[cU,cN,bJ]at u);have U:=aS H (by first|exact u|exact u.2|exact u.2.2|exact u.2.2.2|exact u.2.2.2.2);have f2:=aS L u;have G:(S.setO b3 (.cells 64 x.cs)).ge S:=bQ u (aG S);simp only[Opr.cs]at G;simp only[go_sem,M,y,u,U,f2,z,H,L];(refine bB (OT.r 0 13) [] ?_;simp only[go_sem,M,y,u,U,f2,z,H,L]);cases O:decide (0<x.strict.length)<;>rw[O]at q<;>simp only[go_sem,M,y,u,U,f2,z,O,H,L]
     .exact⟨i+1,⟨y,q⟩,by omega,bM i aB,G⟩
     refine aIr (b0.ge G) x.sort ?_;cases c6:sV d.sig x.sort<;>rw[c6]at q<;>simp only[go_sem,M,y,u,U,f2,z,O,H,L]
     .exact⟨i+1,⟨y,q⟩,by omega,bM i aB,G⟩
     ·replace q:CK KV Kp s (some (⟨16,x.name,0,0⟩:Fault)):=q
      refine eC 16 _ _ _ ?_;simp only[go_sem];exact aF q (G.trans F)
    .have Z:i=d.sig.ops.length:=Nat.le_antisymm hi (Nat.le_of_not_lt (gQ h));subst Z;rw[eB (bL _)]at q;exact aF q F
end
end
section
structure DfnC (d:Dfn):Prop where
 tm:∀t,t∈fP d->TmW t
 pr:(bG (fP d)).length<=4294967000
 nm:(gI d).length<=4294967000
 cl:d.once.length+d.many.length<=4294967000
 op:d.sig.ops.length+d.sig.funs.length<=4294967000
 nl:∀o,o∈d.sig.ops->o.name.length<=4611686018427387904/\o.pieces.length<=4294967000/\o.args.length<=4294967000
theorem aFU{α:Type}(f:α->List Tm){l:List α}{x:α}(h:x∈l):(bG (f x)).length<=(bG (l.flatMap f)).length:=by
 obtain⟨a,b,e⟩:=List.append_of_mem h;rw[e];simp only[List.flatMap_append,kP,iQ,aI];omega
section
variable {s:St} {KV Kp:St->A->Prop} {d:Dfn}
theorem aJX{b:List aC}{l:List Rul}{i:Nat}{x:Rul}(h:l[i]?=some x):pF d b (l.drop i)=bU (nH d b x) (pF d (b++[x.name]) (l.drop (i+1))):=by
 rw[uV h];rfl
theorem aB9(hd:DfnC d)(hk:KV s (pJ d).enc):Den cx 11 [.agg d.cs] KV Kp s:=by
 refine Den.drop ?_;refine aEh aLR aOp func11 rfl rfl (gN rfl) ?_;refine ExD.seq ?_;refine bC (V:=[0,1,2,3,4,6,7,9,13,19,29,30,31,32,44,45,46,47]) _ _ _ _ ?_;simp only[go_sem,ntmps11,f11];(refine aM λb1 b5=>?_);simp only[go_sem,b5];(refine aM λL b4=>?_);simp only[go_sem,b5,b4];refine ExD.defer (by rfl) (b:=L) (by simp only[go_sem]) ?_;refine bC (V:=[0,1,2,3,4,6,7,9,13,19,29,30,31,32,44,45,46,47]) _ _ _ _ ?_;simp only[go_sem];(refine aM λb3 b7=>?_);have bf:(((s.setO b1 (.cells 31 d.cs)).setO L (.cells 51 [.int .i64 0,.str [],.int .i64 0,.int .i64 0])).setO b3 (.cells 75 [.int .i64 0,.int .i64 0])).ge s:=by simp only[Dfn.cs,Sig.cs,bS,bP];exact bA
 have g1:(((s.setO b1 (.cells 31 d.cs)).setO L (.cells 51 [.int .i64 0,.str [],.int .i64 0,.int .i64 0])).setO b3 (.cells 75 [.int .i64 0,.int .i64 0])).getO b1=some (.cells 31 d.cs):=by
  rw[aH,aD (λe=>b7.2.1.1 e.symm),aH,aD (λe=>b4.1.1 e.symm),aH,aE rfl]
 have g2:(((s.setO b1 (.cells 31 d.cs)).setO L (.cells 51 [.int .i64 0,.str [],.int .i64 0,.int .i64 0])).setO b3 (.cells 75 [.int .i64 0,.int .i64 0])).getO L=some (.cells 51 [.int .i64 0,.str [],.int .i64 0,.int .i64 0]):=by
  rw[aH,aD (λe=>b7.1.1 e.symm),aH,aE rfl]
 have g3:(((s.setO b1 (.cells 31 d.cs)).setO L (.cells 51 [.int .i64 0,.str [],.int .i64 0,.int .i64 0])).setO b3 (.cells 75 [.int .i64 0,.int .i64 0])).getO b3=some (.cells 75 [.int .i64 0,.int .i64 0]):=by
  rw[aH,aE rfl]
 have bq:=b4.2;simp only[go_sem,b5,b4,b7];generalize hS:((s.setO b1 (.cells 31 d.cs)).setO L (.cells 51 [.int .i64 0,.str [],.int .i64 0,.int .i64 0])).setO b3 (.cells 75 [.int .i64 0,.int .i64 0])=S at bf g1 g2 g3;simp only[Dfn.cs,Sig.cs,bS,bP]at hS g1;rw[hS];clear hS b5 b4 b7
 have z:CK (λs0 _=>KV s0 Fault.none.enc) (λs0 a=>∀f:Fault,a=.iface 51 f.enc->KV s0 f.enc) s (qJ d):=by
  unfold pJ at hk;revert hk;cases qJ d with
  | none=>exactλhk=>hk
  | some f =>
   intro hk g e;have:f.enc=g.enc:=by injection e
   rw[<-this];exact hk
 clear hk
 have bc:∀{s1:St} (o:Ob),s1.ge S->(s1.setO L o).ge s:=λo hg=>by
  have h:=hg.trans bf;exact⟨λq o' hq=>by rw[aH,aD (λe=>by rw[<-e,bq]at hq;cases hq)];exact h.ob _ _ hq,λt v ht=>h.tk t v ht,λy hy=>h.ls y hy⟩
 have bad:∀(f:Fault) (s1:St) (e:Env),e.get 2=some (.ptr L 0)->(∀g:Fault,A.iface 51 f.enc=.iface 51 g.enc->KV s g.enc)->s1.ge S->sD cx [ResultVar.cell 2 51] (DK KV) (DK Kp) (some L) (.panic (.iface 51 f.enc)) e s1:=by
  intro f s1 e g hb hg;have q2:=hg.ob _ _ g2;simp only[go_sem,q2];refine⟨f.cs,_,rfl,rfl,rfl,rfl,?_⟩;simp only[go_sem,q2,g];exact aF (hb f rfl) (bc _ hg)
 have br:∀(s1:St) (e:Env),e.get 2=some (.ptr L 0)->KV s Fault.none.enc->s1.ge S->DK KV s1 Fault.none.enc:=λs1 e g hb hg=>aF hb (hg.trans bf)
 unfold qJ at z;refine fL (aJa d hd.tm (lQ (nV _) hd.pr) hd.nm hd.cl ?_) (by simp only[Dfn.cs,Sig.cs,bS,bP]);cases c1:mA d<;>rw[c1]at z<;>simp only[go_sem,g1,g2,g3]
 .rw[aE rfl]at z;refine eC 2 _ _ _ ?_;exact bad ⟨2,[],0,0⟩ _ _ rfl z (aG _)
 rw[aD fJ]at z;refine fL (aKf d.sig hd.op hd.nl ?_) (by simp only[Sig.cs]);cases c2:qH d.sig<;>rw[c2]at z<;>simp only[go_sem,g1,g2,g3]
 .rw[aE rfl]at z;refine eC 16 _ _ _ ?_;exact bad ⟨16,[],0,0⟩ _ _ rfl z (aG _)
 rw[aD fJ]at z
 have hv:d.sig.sorts.length<=40/\d.sig.below.length<=200/\d.sig.ops.length+d.sig.funs.length<=200:=by
  unfold qH at c2;simp only[dI,kO,gP]at c2;omega
 have O:d.once.length<=12/\d.many.length<=12/\d.rules.length<=300/\d.eqs.length<=300:=by
  unfold mA at c1;simp only[dI,kO,gP]at c1;omega
 have hr:∀r,r∈d.rules->r.parts.length<=20/\r.new.length<=20/\r.drop.length<=20:=by
  unfold mA at c1;simp only[dI,kO,gP,fR,dA]at c1;intro r hr;have:=c1.2.2.2.2.2.1 r hr;omega
 (refine bB (OT.r 0 7) [(3,[0])] ?_;simp only[go_sem,g1,g2,g3]);refine fL (aCu d.sig aB aB _ _ _ (λS2 r bd hB=>?_)) (by simp only[Sig.cs]);have Z:=bd.ob _ _ g1;simp only[go_sem,Z];(intro c hc;try simp only[cU,cN,bJ]at hc);have f1:=aS Z (by first|exact hc|exact hc.2|exact hc.2.2|exact hc.2.2.2|exact hc.2.2.2.2);have b0:(S2.setO c (.cells 81 (d.cs++[.ptr r 0]))).ge S2:=bQ hc (aG S2);have gc:(S2.setO c (.cells 81 (d.cs++[.ptr r 0]))).getO c=some (.cells 81 (d.cs++[.ptr r 0])):=by rw[aH,aE rfl]
 simp only[go_sem,Z,f1];generalize hG:S2.setO c (.cells 81 (d.cs++[.ptr r 0]))=S3 at b0 gc;simp only[Dfn.cs,Sig.cs,bS,bP]at hG;rw[hG];clear hG hc;have hC:CkAt S3 c d:=⟨r,gc,hB.ge b0⟩;have bn:=b0.ob _ _ Z;have hS:=b0.trans bd;have bk:=hS.ob _ _ g2;clear Z gc hB b0 bd
 refine Ex.loop (ι:=Nat) (λi=>[(1,.ptr b1 0),(2,.ptr L 0),(4,.ptr c 0),(29,.list none (d.eqs.map Eqn.enc)),(30,.int .i64 (d.eqs.length:Nat)),(31,.int .i64 (i:Nat))]) (λ_=>S3)
  (λi=>i<=d.eqs.length/\CK (λs0 x=>KV s0 Fault.none.enc) (λs0 a=>∀(f:Fault),a=A.iface 51 f.enc->KV s0 f.enc) s (bU (dH (wD d.sig) (d.eqs.drop i)) (bU (nB d.sig [] (d.once++d.many)) (bU (vK d) (pF d [] d.rules))))) (λi=>d.eqs.length-i) 0 ⟨aX _,z⟩ ?_ (aG _) ?_
 .simp only[go_sem]
  try exact rfl
 .clear z;rintro i ⟨hi,z⟩;refine bC (V:=[0,1,2,3,4,6,7,9,13,19,29,30,31,32,44,45,46,47]) _ _ _ _ ?_;simp only[go_sem]
  (apply aQ<;>intro h)<;>simp only[go_sem,h]
  .have F:i<d.eqs.length:=gQ h;clear h;obtain⟨x,U⟩:∃a,d.eqs[i]?=some a:=⟨_,aV F⟩
   have M:x∈d.eqs:=cR U;rw[nU _ U,lV]at z;simp only[go_sem,U,F];(intro b6 G;try simp only[cU,cN,bJ]at G);have f2:=aS bk (by first|exact G|exact G.2|exact G.2.2|exact G.2.2.2|exact G.2.2.2.2);have H:(S3.setO b6 (.cells 41 x.cs)).ge S3:=bQ G (aG S3);simp only[Eqn.cs,Tm.cs,bS,bP]at H;simp only[go_sem,U,F,G,f2];refine fL (aL4 (hC.ge H) x (λt ht=>hd.tm t ?_) ?_ (iJ z (λz=>?_) (λf O=>?_))) (by simp only[Eqn.cs,Tm.cs,bS,bP])
   .exact List.mem_append_left _ (List.mem_flatMap.2 ⟨x,M,ht⟩)
   .have h1:=aFU jX M;have h2:=hd.pr;simp only[fP,iQ,aI]at h2;omega
   rotate_left
   .exact bad f _ _ rfl O (H.trans hS)
   simp only[go_sem];exact⟨i+1,⟨F,z⟩,by omega,bM i aB,H⟩
  .have bg:i=d.eqs.length:=Nat.le_antisymm hi (Nat.le_of_not_lt (gQ h));subst bg;clear h hi;rw[eB (bL _)]at z
   replace z:CK (λs0 x=>KV s0 Fault.none.enc) (λs0 a=>∀(f:Fault),a=A.iface 51 f.enc->KV s0 f.enc) s (bU (nB d.sig [] (d.once++d.many)) (bU (vK d) (pF d [] d.rules))):=z
   refine aJ8 hC (by rw[aI];omega) (λx U=>?_) (iJ z (λz=>?_) (λf O=>?_))
   .have h1:=xK (l:=(d.once++d.many).map Cel.init) (cD.2 ⟨x,U,rfl⟩);have h2:=hd.pr;simp only[fP,iQ,aI]at h1 h2;omega
   rotate_left
   .exact bad f _ _ rfl O hS
   simp only[go_sem];refine aJF hC aB aB aB (iJ z (λz=>?_) (λf O=>?_));rotate_left
   .exact bad f _ _ rfl O hS
   simp only[go_sem,bn]
   refine Ex.loop (ι:=Nat × Option Nat) (λk=>[(1,.ptr b1 0),(2,.ptr L 0),(4,.ptr c 0),(7,gv k.2 (((d.rules.take k.1).map Rul.name).map .str)),(44,.list none (d.rules.map Rul.enc)),(45,.int .i64 (d.rules.length:Nat)),(46,.int .i64 (k.1:Nat))]) (λk=>gs S3 k.2 ((d.rules.take k.1).map Rul.name).length 9)
    (λk=>k.1<=d.rules.length/\(k.2=none->(d.rules.take k.1).map Rul.name=[])/\(∀t,k.2=some t->S3.getT t=none)/\CK (λs0 x=>KV s0 Fault.none.enc) (λs0 a=>∀(f:Fault),a=A.iface 51 f.enc->KV s0 f.enc) s (pF d ((d.rules.take k.1).map Rul.name) (d.rules.drop k.1))) (λk=>d.rules.length-k.1) (0,none)
    ⟨aX _,λ_=>rfl,λt h=>(by cases h),z⟩ ?_ (aG _) ?_
   .simp only[go_sem]
    try exact⟨rfl,rfl⟩
   .clear z;rintro⟨i,tk⟩ ⟨hi,hn,O,z⟩;simp only at hi hn O z;refine bC (V:=[0,1,2,3,4,6,7,9,13,19,29,30,31,32,44,45,46,47]) _ _ _ _ ?_;have b8:(gs S3 tk ((d.rules.take i).map Rul.name).length 9).ge S3:=gE (aG S3) O;have bm:gZ (gs S3 tk ((d.rules.take i).map Rul.name).length 9) tk ((d.rules.take i).map Rul.name).length 9:=eD λe=>by rw[hn e];rfl
    simp only;generalize gs S3 tk ((d.rules.take i).map Rul.name).length 9=S4 at b8 bm;have bl:=b8.ob _ _ bk;simp only[go_sem]
    (apply aQ<;>intro h)<;>simp only[go_sem,h]
    .have F:i<d.rules.length:=gQ h;clear h;obtain⟨x,U⟩:∃a,d.rules[i]?=some a:=⟨_,aV F⟩
     have M:x∈d.rules:=cR U;obtain⟨bt,bv,bw⟩:=hr x M;rw[aJX U]at z;simp only[go_sem,U,F];(intro b9 B;try simp only[cU,cN,bJ]at B);have f2:=aS bl (by first|exact B|exact B.2|exact B.2.2|exact B.2.2.2|exact B.2.2.2.2);have H:(S4.setO b9 (.cells 46 x.cs)).ge S4:=bQ B (aG S4);have g9:(S4.setO b9 (.cells 46 x.cs)).getO b9=some (.cells 46 x.cs):=by rw[aH,aE rfl]
     simp only[go_sem,U,F,B,f2];generalize hG:S4.setO b9 (.cells 46 x.cs)=S5 at H g9;simp only[Rul.cs]at hG g9;rw[hG];clear hG B f2;have bb:=H.trans b8;have bj:=aGu bm H
     refine lU (show nK [.ptr c 0,.agg x.cs,gv tk (((d.rules.take i).map Rul.name).map .str)] [.ptr c 0,.agg x.cs,.list none (((d.rules.take i).map Rul.name).map .str)] from⟨bF _,bF _,gK _ _ (λe=>by rw[hn e];rfl),trivial⟩)
      (aKl (hC.ge bb) aB aB _ x aB (λp hp=>hd.tm _ ?_) ?_ aB aB (iJ z (λz=>?_) (λf O=>?_)))
     .exact List.mem_append_right _ (List.mem_append_right _ (List.mem_flatMap.2 ⟨x,M,List.mem_append_left _ (List.mem_flatMap.2 ⟨p,hp,dZ ..⟩)⟩))
     .have h1:=aFU sG M;have h2:=hd.pr;simp only[fP,iQ,aI]at h2;omega
     rotate_left
     .exact bad f _ _ rfl O (bb.trans hS)
     simp only[go_sem,g9];refine⟨by decide,λy hy=>(by rw[cC.1 hy];rfl),cT rfl rfl (by simp only[aK]at bj⊢;exact bj) (λy hy=>kX hy) (by simp only[aK,dV,aO,aU];omega) (λu hu=>?_)⟩;have bp:=aGN O bb hu;have bh:=rG U;simp only[go_sem];refine⟨(i+1,some u),⟨F,λh=>(by cases h),λt h=>by cases h;exact bp,by rw[bh,bY];exact z⟩,aP,⟨by rw[bh,bY,bY];rfl,bM i aB⟩,?_⟩;show St.ge _ (S3.setT u ((d.rules.take (i+1)).length,9));rw[bh,aI];exact fY bb
    .have bg:i=d.rules.length:=Nat.le_antisymm hi (Nat.le_of_not_lt (gQ h));subst bg;rw[eB (bL _)]at z
     replace z:KV s Fault.none.enc:=z
     simp only[go_sem,bl];exact aF z (bc _ (b8.trans hS))
theorem uJ(q:DfnC d)(h:KV s (.bool (gU d))):Den cx 6 [.agg d.cs] KV Kp s:=by
 unfold gU at h;(refine aL func6 [0,1,2] ?_;simp only[go_sem,ntmps6,Tryz.f6]);(refine aM λp u=>?_);simp only[go_sem,u];refine fL (aB9 q ?_) (by simp only[Dfn.cs,Sig.cs,bS,bP]);simp only[go_sem];exact aF h bA
end
end
theorem aHz(t:Tm):t.enc.bulk=t.text.length+(t.sort.length+(cK (t.kids.map Tm.enc)+cK (t.rest.map Tm.enc))):=by
 rw[cG];simp only[A.bulk,Tm.cs,cX,Nat.add_zero,fX]
theorem kT{α:Type}(q:α->A):∀{l:List α} {x:α},x∈l->(q x).bulk+1<=cK (l.map q)
 | y::r,x,h=>by
  simp only[bN,cK];rcases List.mem_cons.1 h with rfl|h
  .omega
  .have:=kT q h;omega
theorem aMu(N:Nat):∀t:Tm,SizeOf.sizeOf t<N->t.enc.bulk<=100000000->TmW t:=by
 induction N with
 | zero=>intro t h;omega
 | succ N u =>
  intro t L H;have e:=aHz t;have z:=λx (q:x∈t.kids)=>(show TmW x from u x (by have:=zQ q;omega) (by have:=kT Tm.enc q;omega))
  have B:=λx (q:x∈t.rest)=>(show TmW x from u x (by have:=aB6 q;omega) (by have:=kT Tm.enc q;omega))
  have F:=iA Tm.enc t.kids;have G:=iA Tm.enc t.rest;obtain⟨k,n,x,y,a,b⟩:=t;simp only[Tm.text,Tm.sort,Tm.kids,Tm.rest]at e z B F G;exact .mk k n x y a b aB aB z B aB aB
theorem aCF(t:Tm):cX t.cs=t.enc.bulk:=by rw[cG];rfl
theorem aGp(e:Eqn):e.enc.bulk=e.left.enc.bulk+(e.right.enc.bulk+cK (e.cond.map Tm.enc)):=by
 simp only[Eqn.enc,Eqn.cs,A.bulk,qD,cX,aCF,Nat.add_zero]
theorem aGm(c:Cel):c.enc.bulk=c.name.length+(c.sort.length+c.init.enc.bulk):=by
 simp only[Cel.enc,Cel.cs,A.bulk,qD,cX,aCF,Nat.add_zero]
theorem aFK(p:Part):p.enc.bulk=p.cell.length+(p.at_.length+(p.left.enc.bulk+cK (p.right.map Tm.enc))):=by
 simp only[Part.enc,Part.cs,A.bulk,qD,cX,aCF,Nat.add_zero]
theorem aFg(f:Fresh):f.enc.bulk=cK (f.cells.map Tm.enc):=by
 simp only[Fresh.enc,Fresh.cs,A.bulk,cX,Nat.add_zero]
theorem aCJ(r:Rul):r.enc.bulk=r.name.length+(cK (r.parts.map Part.enc)+(cK (r.cond.map Tm.enc)+(cK (r.new.map Fresh.enc)+cK (r.drop.map .str)))):=by
 simp only[Rul.enc,Rul.cs,A.bulk,cX,Nat.add_zero]
theorem xR(d:Dfn):cX d.cs=d.name.length+(cX d.sig.cs+(cK (d.eqs.map Eqn.enc)+(cK (d.once.map Cel.enc)+(d.kind.length+(cK (d.many.map Cel.enc)+(cK (d.rules.map Rul.enc)+(d.start.length+d.watch.length))))))):=by
 simp only[Dfn.cs,A.bulk,qD,cX,Nat.add_zero]
theorem aMP(x:Sig):cX x.cs=cK (x.sorts.map .str)+(cK (x.below.map Below.enc)+(cK (x.ops.map Opr.enc)+(cK (x.funs.map Opr.enc)+cK (x.values.map .str)))):=by
 simp only[Sig.cs,A.bulk,cX,Nat.add_zero]
theorem aL5(o:Opr):o.enc.bulk=o.name.length+(cK (o.args.map .str)+(o.sort.length+(cK (o.pieces.map Piece.enc)+cK (o.strict.map (.int .i64))))):=by
 simp only[Opr.enc,Opr.cs,A.bulk,cX,Nat.add_zero,fX]
theorem aL8(N:Nat){d:Dfn}(z:cX d.cs<=N):∀t,t∈qR d->t.enc.bulk<=N:=by
 rw[xR]at z;intro t h;simp only[qR,dK,List.mem_flatMap]at h;rcases h with⟨e,q,h⟩|⟨c,q,h⟩|⟨r,q,h⟩
 .have u:=kT Eqn.enc q;rw[aGp]at u;simp only[lF,dK,dD,List.mem_nil_iff,eU]at h;rcases h with(rfl|rfl)|h
  .omega
  .omega
  .have:=kT Tm.enc h;omega
 .have u:c.enc.bulk<=cK (d.once.map Cel.enc)+cK (d.many.map Cel.enc):=by
   rcases q with q|q
   .have:=kT Cel.enc q;omega
   .have:=kT Cel.enc q;omega
  rw[aGm]at u;simp only[kK,cC]at h;rw[h];omega
 .have u:=kT Rul.enc q;rw[aCJ]at u;simp only[jW,lJ,dK,List.mem_flatMap,dD,List.mem_nil_iff,eU]at h;rcases h with⟨p,F,h⟩|h|⟨f,B,h⟩
  .have y:=kT Part.enc F;rw[aFK]at y;rcases h with rfl|h
   .omega
   .have:=kT Tm.enc h;omega
  .have:=kT Tm.enc h;omega
  .have y:=kT Fresh.enc B;rw[aFg]at y;have:=kT Tm.enc h;omega
theorem aMb(N:Nat):(∀t:Tm,SizeOf.sizeOf t<N->t.pre.length<=1+t.enc.bulk)/\∀l:List Tm,(∀t,t∈l->SizeOf.sizeOf t<N)->(bG l).length<=cK (l.map Tm.enc):=by
 induction N with
 | zero=>exact⟨λt h=>by omega,λl h=>by
   cases l with
   | nil=>exact aX _
   | cons t r=>exact cV (h t (dZ ..)) aB⟩
 | succ N y =>
  have key:∀t:Tm,SizeOf.sizeOf t<N+1->t.pre.length<=1+t.enc.bulk:=λt F=>by
   have z:=y.2 t.kids (λx q=>by have:=zQ q;omega);have B:=y.2 t.rest (λx q=>by have:=aB6 q;omega);have:=aHz t;rw[xI,iQ,aO,aI];omega
  refine⟨key,λl h=>?_⟩
  induction l with
  | nil=>exact aX _
  | cons t r u =>
   have z:=key t (h t (dZ ..));have B:=u (λx q=>h x (lL _ q));simp only[bG,aI,bN,cK];omega
theorem zB(t:Tm):t.pre.length<=1+t.enc.bulk:=(aMb _).1 t (lN _)
theorem aA2(l:List Tm):(bG l).length<=cK (l.map Tm.enc):=by
 induction l with
 | nil=>exact aX _
 | cons t r h=>have:=zB t;simp only[bG,aI,bN,cK];omega
theorem xQ{α:Type}(g:α->List Tm)(q:α->A):∀l:List α,(∀x,x∈l->(bG (g x)).length<=2 * ((q x).bulk+1))->(bG (l.flatMap g)).length<=2 * cK (l.map q)
 | [],_=>aX _
 | x::r,h=>by
  have z:=xQ g q r (λy u=>h y (lL _ u));have B:=h x (dZ ..);rw[kP,iQ,aI,bN,cK];omega
theorem aGq{α:Type}(g:α->List aC)(q:α->A):∀l:List α,(∀x,x∈l->(g x).length<=(q x).bulk+1)->(l.flatMap g).length<=cK (l.map q)
 | [],_=>aX _
 | x::r,h=>by
  have z:=aGq g q r (λy u=>h y (lL _ u));have B:=h x (dZ ..);rw[kP,aI,bN,cK];omega
theorem aOP(x:Eqn):(bG (jX x)).length<=2 * (x.enc.bulk+1):=by
 have h:=zB x.left;have q:=zB x.right;have u:=aA2 x.cond;rw[aGp];simp only[jX,bG,aI];omega
theorem aOU(r:Rul):(bG (sG r)).length<=2 * (r.enc.bulk+1):=by
 have h:=xQ (λp=>p.left::p.right) Part.enc r.parts (λp _=>by
  have h:=zB p.left;have q:=aA2 p.right;rw[aFK];simp only[bG,aI];omega)
 have q:=aA2 r.cond
 have u:=xQ Fresh.cells Fresh.enc r.new (λf _=>by
  have:=aA2 f.cells;rw[aFg];omega)
 rw[aCJ];simp only[sG,iQ,aI];omega
theorem aOq(r:Rul):(pR r).length<=r.enc.bulk+1:=by
 have h:=iA Part.enc r.parts;have q:=iA A.str r.drop;rw[aCJ];simp only[pR,aI,aO];refine lQ (Nat.add_le_add_left (List.length_filter_le _ _) _) ?_;rw[aK];omega
theorem aAi(d:Dfn)(z:cX d.cs<=100000000):DfnC d:=by
 have F:=aL8 100000000 z;rw[xR,aMP]at z;have B:=iA Cel.enc d.once;have M:=iA Cel.enc d.many;have O:=iA Opr.enc d.sig.ops;have U:=iA Opr.enc d.sig.funs;refine⟨λt h=>aMu _ t (lN _) (F t (by rw[yA];exact h)),?_,?_,?_,by omega,λo ho=>?_⟩
 .have u:=xQ jX Eqn.enc d.eqs (λx _=>aOP x);have y:=xQ sG Rul.enc d.rules (λx _=>aOU x)
  have q:∀l:List Cel,(bG (l.map Cel.init)).length<=cK (l.map Cel.enc):=by
   intro l
   induction l with
   | nil=>exact aX _
   | cons x r Z =>
    have L:=zB x.init;have B:=aGm x;simp only[bN,bG,aI,cK];omega
  have G:=q d.once;have H:=q d.many;simp only[fP,bY,iQ,aI];omega
 .have y:=aGq pR Rul.enc d.rules (λx _=>aOq x);have q:(if d.kind=[] then([]:List aC) else [d.kind]).length<=1:=by split<;>simp
  simp only[gI,aI,aK,aO,aU];omega
 .omega
 .have u:=kT Opr.enc ho;rw[aL5]at u;have y:=iA Piece.enc o.pieces;have q:=iA A.str o.args;exact⟨by omega,by omega,by omega⟩
structure TokW (N:Nat) (t:Tok):Prop where
 kind:t.kind=1/\(∃c r,t.text=c::r/\rX c.toNat=true)\/t.kind=2/\t.text=[]\/t.kind=3\/t.kind=4/\(t.text∈gV\/t.text=[39]\/t.text=[95])
 num:0<=t.n/\t.n<=2147483647
 col:0<=t.col/\t.col<=N
 line:0<=t.line/\t.line<=N
 txt:t.text.length<=N
theorem xX:∀(w:aC) (p:Nat × Nat),(dJ p w).1<=p.1+w.length/\(dJ p w).2<=p.2+w.length/\(1<=p.2->1<=(dJ p w).2)
 | [],p=>⟨bL _,bL _,λh=>h⟩
 | b::r,(l,c)=>by
  simp only[dJ];split
  .have:=xX r (l+1,1);simp only[aO]at this⊢;refine⟨?_,?_,λh=>this.2.2 (bL _)⟩<;>omega
  .have:=xX r (l,c+1);simp only[aO]at this⊢;refine⟨?_,?_,λh=>this.2.2 aB⟩<;>omega
theorem aCg(w:aC):∀(sg:List aC) (n:Nat),jC w sg n=n\/w.take (jC w sg n)∈sg
 | [],n=>.inl rfl
 | x::r,n=>by
  simp only[jC];split
  .rename_i h;rcases aCg w r x.length with q|q
   .rw[q];refine .inr (List.mem_cons.2 (.inl ?_));have u:=h.2;simp only[mH,dI,dA]at u;exact u.2
   .exact .inr (List.mem_cons.2 (.inr q))
  .rcases aCg w r n with q|q
   .exact .inl q
   .exact .inr (List.mem_cons.2 (.inr q))
theorem aNF{c:UInt8}{r:aC}{t:Tok}{n N:Nat}(h:kJ (c::r) gV true=(t,n,true))(Z:(c::r).length<=N)(l k:Nat)(hl:l<=N)(hk:k<=N):TokW N ⟨t.kind,t.text,t.n,l,k⟩:=by
 have q:∀m,((c::r).take m).length<=N:=λm=>by rw[dV];omega
 have O:=aCy h;have F:(0:Int)<=(k:Int)/\(k:Int)<=N:=⟨by omega,by omega⟩;have y:(0:Int)<=(l:Int)/\(l:Int)<=N:=⟨by omega,by omega⟩;have G:(0:Int)<=0/\(0:Int)<=2147483647:=by decide
 simp only[kJ]at h;split at h
 .rename_i U;simp only[lO,dA]at h;obtain⟨rfl,u,_⟩:=h;refine⟨.inl ⟨rfl,?_⟩,G,F,y,q _⟩;have B:rX c.toNat=true:=by simp only[dT,dI]at U;exact U.2.1
  obtain⟨m,hm⟩:∃m,n=m+1:=⟨n-1,by omega⟩
  rw[hm]at u;rw[u];exact⟨c,r.take m,rfl,B⟩
 .split at h
  .simp only[pM]at h;split at h
   .simp only[lO,cQ,and_false]at h
   .simp only[lO,dA]at h;obtain⟨rfl,_,L⟩:=h;exact⟨.inr (.inl ⟨rfl,rfl⟩),⟨Int.natCast_nonneg _,aP⟩,F,y,aX _⟩
  .split at h
   .simp only[lO]at h;obtain⟨z,u,_⟩:=h;generalize (Lib.indexByte r 34+2).toNat-2=m at z;subst z;refine⟨.inr (.inr (.inl rfl)),G,F,y,?_⟩;show(r.take m).length<=N;rw[dV];rw[aO]at Z;omega
   .simp only[lO,dA]at h;obtain⟨z,u,L⟩:=h;rw[u]at z L;subst z;refine⟨.inr (.inr (.inr ⟨rfl,?_⟩)),G,F,y,q n⟩;show(c::r).take n∈gV\/(c::r).take n=[39]\/(c::r).take n=[95];by_cases H:jC (c::r) gV 0=0/\True/\(c=39\/c=95)
    .rw[aE (gQ H)]at u;subst u;rcases H.2.2 with rfl|rfl
     .exact .inr (.inl rfl)
     .exact .inr (.inr rfl)
    .rw[aD (gQ H)]at u;subst u;rcases aCg (c::r) gV 0 with M|M
     .omega
     .exact .inl M
theorem aHq(N:Nat):∀(f:Nat) (w:aC) (p:Nat × Nat) (q:List Tok) (l:List Tok),p.1+w.length<=N->p.2+w.length<=N->q.length+w.length<=N->(∀t,t∈q->TokW N t)->nJ gV true f w p q=.ok l ->
  l.length<=N/\∀t,t∈l->TokW N t
 | _,[],p,q,l,F,G,y,z,h=>by
  simp only[nJ]at h;cases h;exact⟨gQ y,z⟩
 | 0,_::_,p,q,l,F,G,y,z,h=>by
  simp only[nJ]at h;cases h;exact⟨by omega,z⟩
 | f+1,c::r,p,q,l,F,G,y,z,h=>by
  simp only[nJ]at h;rcases u:kJ (c::r) gV true with⟨t,n,ok⟩
  rw[u]at h;cases ok with
  | false=>cases h
  | true =>
   simp only at h;obtain⟨U,H⟩:=aCy u;have O:eE ((c::r).drop n)<=((c::r).drop n).length:=vB _ _;have M:=xX ((c::r).take n) p;have a2:=xX (((c::r).drop n).take (eE ((c::r).drop n))) (dJ p ((c::r).take n));simp only[dV,cS,aO]at M a2 O F G y H;refine aHq N f _ _ _ l ?_ ?_ ?_ ?_ h
   .simp only[cS,aO];omega
   .simp only[cS,aO];omega
   .simp only[aI,aO,aU,cS]at y⊢;omega
   .intro Z L;rcases dK.1 L with B|B
    .exact z Z B
    .simp only[cC]at B;subst B;exact aNF u (by simp only[aO];omega) p.1 p.2 aB aB
theorem aOd{x:aC}{l:List Tok}(h:lK gV true x=.ok l):l.length<=x.length+1/\∀t,t∈l->TokW (x.length+1) t:=by
 have y:eE x<=x.length:=vB _ _;have q:=xX (x.take (eE x)) (1,1);simp only[dV]at q;refine aHq (x.length+1) _ _ _ _ l ?_ ?_ ?_ (λt u=>by cases u) h
 .simp only[cS];omega
 .simp only[cS];omega
 .simp only[cS,aU];omega
theorem aGe(sg:List aC)(op:Bool):∀(f:Nat) (w:aC) (p:Nat × Nat) (q:List Tok) (g:Fault),nJ sg op f w p q=.bad g->g.code=10
 | _,[],p,q,g,h=>by simp only[nJ]at h;cases h
 | 0,_::_,p,q,g,h=>by simp only[nJ]at h;cases h
 | f+1,c::r,p,q,g,h=>by
  simp only[nJ]at h;rcases u:kJ (c::r) sg op with⟨t,n,ok⟩
  rw[u]at h;cases ok with
  | false=>cases h;rfl
  | true=>exact aGe sg op f _ _ _ g h
theorem aGk{x:aC}{g:Fault}(h:lK gV true x=.bad g):g.code=10:=aGe _ _ _ _ _ _ _ h
section
structure RQ (T:List Tok) where
 at_:Nat
 le:at_<=T.length
 f:Fault
 first:Nat
 nodes:Int
 over:Bool
section
variable {T:List Tok} (fin:Fault)
def RQ.ok(q:RQ T):Bool:=decide (q.f.code=0)
def RQ.tok(q:RQ T):Tok:=(T[q.at_]?).getD ⟨0,[],0,0,0⟩
end
end
section
def yT(x:aC):Fault:=⟨12,[],1+(x.count 10:Nat),x.length-kZ x 10 x.length⟩
def aHi(x:aC):Dfn × Fault:=match lK gV true x with
 | .bad f=>(fZ,f)
 | .ok T=>match vW false (yT x) T with
  | .ok d _ _=>(d,Fault.none)
  | .bad f=>(fZ,f)
def gX(x:aC):Dfn × Fault:=if 20000<x.length then(fZ,⟨3,[],0,0⟩) else aHi x
theorem aOh{x:aC}{l:List Tok}(z:x.length<=4294967280)(h:lK gV true x=.ok l):TOk l:=by
 obtain⟨y,u⟩:=aOd h;refine⟨by omega,λt q=>(u t q).num,λt q=>?_,λt q=>?_⟩
 .have:=(u t q).col;omega
 .have:=(u t q).txt;omega
theorem aF3(x:aC)(c:UInt8):∀n,kZ x c n<n/\-1<=kZ x c n
 | 0=>by simp[kZ]
 | n+1=>by
  have:=aF3 x c n;simp only[kZ];split<;>omega
section
variable {s:St} {KV Kp:St->A->Prop}
theorem aKQ(x:aC)(hx:x.length<=4294967280) (z:match lK gV true x with
  | .ok l=>∀r,s.getO r=none->KV (s.setO r (aZ l (yT x) (bX fZ nD) qN 0 0)) (.tuple [.ptr r 0,Fault.none.enc])
  | .bad f=>KV s (.tuple [.nilp,f.enc])):Den cx 115 [.str x] KV Kp s:=by
 have H:x.count 10<=x.length:=List.count_le_length;have G:=aF3 x 10 x.length;(refine aL func115 [0,2,3,4,5,6,14] ?_;simp only[go_sem,ntmps115,f115]);(refine gF λZ h=>?_);simp only[go_sem,h];refine aME _ x _ _ aB ?_;cases hl:lK gV true x with
 | bad f =>
  rw[hl]at z;have U:=aGk hl;have F:decide (f.code=0)=false:=by rw[U];rfl
  simp only[Lx.out];simp only[go_sem,h];(refine gF λL q=>?_);simp only[go_sem,h,q,F];(refine bB (OT.r 0 3) [] ?_;simp only[go_sem,h,q]);simp only[go_sem]at z;exact aF z bK
 | ok l =>
  rw[hl]at z;simp only[Lx.out];have O:Fault.none.code=0:=rfl;simp only[go_sem,h,Fault.none];(refine gF λL q=>?_);simp only[go_sem,h,q];refine aJg _ _ _ _ _ ?_;simp only[go_sem,h,q,eW (1+((x.count 10:Nat):Int)) aB aB];refine aIz _ x 10 _ _ aB ?_;simp only[go_sem,h,q,eW ((x.length:Int)-kZ x 10 x.length) aB aB];(refine gF λb6 u=>?_);simp only[go_sem,h,q,u];(refine bB (OT.l [0,1,2,4,3,5,6] .nil) [(3,[4])] ?_;simp only[go_sem,h,q,u]);(refine gF λM y=>?_);simp only[go_sem,h,q,u,y];have B:=z M (by first|exact y.2.2.2|exact y.2.2);simp only[Fault.enc,Fault.cs,Fault.none]at B;exact aF B bK
theorem aLP(x:aC)(G:x.length<=4294967280) (q:if 20000<x.length then KV s (.tuple [.nilp,Fault.enc ⟨3,[],0,0⟩]) else match lK gV true x with
  | .ok l=>∀r,s.getO r=none->KV (s.setO r (aZ l (yT x) (bX fZ nD) qN 0 0)) (.tuple [.ptr r 0,Fault.none.enc])
  | .bad f=>KV s (.tuple [.nilp,f.enc])):Den cx 71 [.str x] KV Kp s:=by
 (refine aL func71 [0,2,3,6] ?_;simp only[go_sem,ntmps71,f71]);(refine gF λB h=>?_);simp only[go_sem,h];cases c:decide ((20000:Int)<(x.length:Int))with
 | true =>
  rw[aE (by simp at c;omega)]at q;simp only[go_sem,h,c];simp only[go_sem]at q;exact aF q bK
 | false =>
  rw[aD (by simp at c;omega)]at q;simp only[go_sem,h,c];refine aKQ x G ?_;cases hl:lK gV true x with
  | bad f =>
   rw[hl]at q;simp only at q⊢;simp only[go_sem,h];simp only[go_sem]at q;exact aF q bK
  | ok l =>
   rw[hl]at q;simp only at q⊢;intro r z;have u:=q r (by have:=z;rw[aH]at this;split at this;cases this;exact this);have y:B≠r:=λe=>by subst e;rw[aH,aE rfl]at z;cases z
   simp only[Fault.enc,Fault.cs,Fault.none]at u⊢;have F:=y.symm;simp only[go_sem,h,y,y.symm];exact aF u bK
theorem aLd(x:aC)(H:x.length<=4294967280)(y:KV s (.tuple [(gX x).1.enc,(gX x).2.enc])):Den cx 26 [.str x] KV Kp s:=by
 have L:A.le (.agg [.str [],.nils,.nils,.nils,.nils,.nils,.nils,.nils,.str [],.nils,.nils,.str [],.str []]) fZ.enc:=aAT fZ nD (s:=s) aAn;(refine aL func26 [0,2,3,4,5,13] ?_;simp only[go_sem,ntmps26,f26]);(refine gF λM h=>?_);simp only[go_sem,h];(refine gF λO q=>?_);simp only[go_sem,h,q];refine aLP x H ?_;unfold gX at y;split
 .rename_i c;rw[aE c]at y;simp only[go_sem,h,q];(refine gF λF u=>?_);simp only[go_sem,h,q,u];(refine bB (OT.r 0 4) [(2,[1])] ?_;simp only[go_sem,h,q,u]);exact DK.mk y bK (A.le.tuple ⟨L,bF _,trivial⟩)
 .rename_i c;rw[aD c]at y;unfold aHi at y;cases hl:lK gV true x with
  | bad f =>
   rw[hl]at y;have B:decide (f.code=0)=false:=by rw[aGk hl];rfl
   simp only at y⊢;simp only[go_sem,h,q];(refine gF λF u=>?_);simp only[go_sem,h,q,u,B];(refine bB (OT.r 0 4) [(2,[1])] ?_;simp only[go_sem,h,q,u]);simp only[go_sem]at y;exact DK.mk y bK (A.le.tuple ⟨L,bF _,trivial⟩)
  | ok T =>
   rw[hl]at y;simp only at y⊢;intro r z;simp only[cN,bJ]at z;simp only[go_sem,h,q,z,Fault.none];(refine gF λF u=>?_);simp only[go_sem,h,q,z,u];refine aNH (T:=T) (fin:=yT x) (aOh H hl) gH ?_;unfold aDF;cases G:vW false (yT x) T with
   | bad f =>
    rw[G]at y;simp only at y⊢;intro o;simp only[go_sem,h,q,z,u];simp only[go_sem]at y;exact aF y bK
   | ok d w n =>
    rw[G]at y;simp only at y⊢;intro o;simp only[go_sem,h,q,z,u];simp only[go_sem]at y;exact aF y bK
end
end
section
section
variable {s:St} {KV Kp:St->A->Prop} {d:Dfn}
theorem kE{S s:St}{b:Nat}(o:Ob)(h:S.ge s)(z:s.getO b=none):(S.setO b o).ge s :=
 ⟨λq G u=>by rw[aH,aD (λe=>by rw[<-e,z]at u;cases u)];exact h.ob _ _ u,λt v B=>h.tk t v B,λy F=>h.ls y F⟩
def nE(x:aC):Dfn × Fault :=
 if(gX x).2.code=0 then(if(pJ (gX x).1).code=0 then((gX x).1,pJ (gX x).1) else(fZ,pJ (gX x).1)) else(fZ,(gX x).2)
theorem aKt(x:aC)(hx:x.length<=4294967280)(H:DfnC (gX x).1)(z:KV s (.tuple [(nE x).1.enc,(nE x).2.enc])):Den cx 12 [.str x] KV Kp s:=by
 unfold nE at z;(refine aL func12 [0,2,3,4,5,13,18] ?_;simp only[go_sem,ntmps12,f12]);(refine aM λL h=>?_);simp only[go_sem,h];(refine aM λM q=>?_);simp only[go_sem,h,q];refine aLd x hx ?_;generalize gX x=P at H z;obtain⟨d,f⟩:=P;simp only at H z;simp only[go_sem,h,q];(refine aM λO u=>?_);simp only[go_sem,h,q,u];(refine aM λU y=>?_);have Z:A.le (.agg [.str [],.nils,.nils,.nils,.nils,.nils,.nils,.nils,.str [],.nils,.nils,.str [],.str []]) fZ.enc:=aAT fZ nD (s:=s) aAn
 have B:∀o1 o2 o3 o4 o5 o6 o7 o8,((((((((s.setO L o1).setO M o2).setO O o3).setO U o4).setO O o5).setO U o6).setO L o7).setO M o8).ge s:=λ_ _ _ _ _ _ _ _ =>
  kE _ (kE _ (kE _ (kE _ (kE _ (kE _ (kE _ (kE _ (aG s) h) q.2) u.2.2) y.2.2.2) u.2.2) y.2.2.2) h) q.2
 cases F:decide (f.code=0)<;>simp only[go_sem,h,q,u,y,F]
 .rw[aD (of_decide_eq_false F)]at z;(refine bB (OT.r 0 4) [(2,[1])] ?_;simp only[go_sem,h,q,u,y]);exact DK.mk z (B _ _ _ _ _ _ _ _) (A.le.tuple ⟨Z,bF _,trivial⟩)
 .rw[aE (gR F)]at z;refine fL (aB9 H ?_) (by simp only[Dfn.cs,Sig.cs,bS,bP]);generalize pJ d=g at z;cases G:decide (g.code=0)<;>simp only[go_sem,h,q,u,y,G]
  .rw[aD (of_decide_eq_false G)]at z;(refine bB (OT.r 0 4) [(2,[1])] ?_;simp only[go_sem,h,q,u,y]);exact DK.mk z (B _ _ _ _ _ _ _ _) (A.le.tuple ⟨Z,bF _,trivial⟩)
  .rw[aE (gR G)]at z;(refine bB (OT.r 0 4) [(2,[1])] ?_;simp only[go_sem,h,q,u,y]);exact aF z (B _ _ _ _ _ _ _ _)
theorem aKB(hd:DfnC d)(hs:gU d=true)(n:aC)(i:Nat)(x:Cel)(O:d.once[i]?=some x)(U:x.name=n)(L:∀j y,j<i->d.once[j]?=some y->y.name≠n)(hk:KV s (.tuple [.bool false,.int .i64 i,.int .i64 0])):Den cx 15 [.agg d.cs,.str n] KV Kp s:=by
 (refine aL func15 [0,1,2,4,5,6,7,8,9,10,13,15,16,17,18,25,29,30,31,32,39] ?_;simp only[go_sem,ntmps15,f15]);(refine aM λp M=>?_);have z:(s.setO p (.cells 31 d.cs)).ge s:=bQ M (aG s);have F:(s.setO p (.cells 31 d.cs)).getO p=some (.cells 31 d.cs):=by rw[aH,aE rfl]
 simp only[go_sem,M];simp only[Dfn.cs,Sig.cs,bS,bP]at F z;generalize hS:s.setO p _=S at F z⊢;clear hS M;have b1:=hd.cl
 have b0:i<d.once.length:=by
  rw[dG]at O;exact O.1
 refine fL (uJ hd ?_) (by simp only[Dfn.cs,Sig.cs,bS,bP]);rw[hs];simp only[go_sem,F];refine Ex.loop (ι:=Nat) (λj=>[(1,.str n),(2,.ptr p 0),(15,.list none (d.once.map Cel.enc)),(16,.int .i64 (d.once.length:Nat)),(17,.int .i64 (j:Nat))]) (λ_=>S) (λj=>j<=i) (λj=>i-j) 0 (aX _) ?_ (aG _) ?_
 .simp only[go_sem]
  try exact rfl
 .rintro j hj;refine bC (V:=[0,1,2,4,5,6,7,8,9,10,13,15,16,17,18,25,29,30,31,32,39]) _ _ _ _ ?_;simp only[go_sem]
  (apply aQ<;>intro h)<;>simp only[go_sem,h]
  .have B:j<d.once.length:=gQ h;clear h;obtain⟨y,G⟩:∃a,d.once[j]?=some a:=⟨_,aV B⟩
   simp only[go_sem,G,B];(intro b8 q;try simp only[cU,cN,bJ]at q);have Z:=aS F (by first|exact q|exact q.2|exact q.2.2|exact q.2.2.2|exact q.2.2.2.2);have u:(S.setO b8 (.cells 67 y.cs)).ge S:=bQ q (aG S);simp only[Cel.cs,Tm.cs,bS,bP]at u;by_cases e:j=i
   .subst e;rw[O]at G;cases G;simp only[go_sem,q,Z,cZ U];exact aF hk (u.trans z)
   .have H:j<i:=by omega
    simp only[go_sem,q,Z,cH (L j y H G)];exact⟨j+1,by omega,by omega,bM j aB,u⟩
  .exact cV (gQ h) (show¬ d.once.length<=j by omega)
end
end
def NZ(o:Option Fault):Prop:=∀f,o=some f->f.code≠0
theorem rN:NZ none:=λf h=>by cases h
theorem mZ{f:Fault}(h:f.code≠0):NZ (some f):=λg e=>by cases e;exact h
theorem eK{a b:Option Fault}(h:NZ a)(q:NZ b):NZ (bU a b):=by cases a with
 | none=>exact q
 | some f=>exact h
theorem jV{b:Bool}{f:Fault}(h:f.code≠0):NZ (dN b f):=by unfold dN;split;exact mZ h;exact rN
theorem pK{p:Prop} [Decidable p] {a b:Option Fault} (h:NZ a) (q:NZ b):NZ (if p then a else b):=by split<;>assumption
theorem mX{α:Type}{f:α->Option Fault}(h:∀x,NZ (f x)):∀l:List α,NZ (dH f l)
 | []=>rN
 | x::r=>eK (h x) (mX h r)
theorem yB{sg:Sig}{n:aC}{l c:Int}{h:List Tm}:NZ (lD sg n l c h):=jV aW
theorem uW{sg:Sig}{n:aC}{l c:Int}{t:Tm}{S:aC}:NZ (iT sg n l c t S):=jV aW
theorem aG2{l c:Int}{h:List Tm}:NZ (sB l c h):=jV aW
theorem aGv{l c:Int}{a b:List Tm}:NZ (rT l c a b):=mX (λ_=>jV aW) _
theorem aOr{sg:Sig}{x:Eqn}:NZ (wD sg x):=by
 unfold wD;refine pK ?_ (mZ aW);split
 .exact mZ aW
 .exact eK yB (eK (jV aW) (eK (jV aW) (eK aG2 (eK aGv (eK (mX (λ_=>uW) _) uW)))))
theorem aNw{sg:Sig}{b:List aC}{x:Cel}:NZ (aBl sg b x) :=
 eK (pK (mZ aW) (jV aW)) (eK yB (eK uW (mX (λ_=>jV aW) _)))
theorem aF8{sg:Sig}:∀(l:List Cel) (b:List aC),NZ (nB sg b l)
 | [],_=>rN
 | x::r,b=>eK aNw (aF8 r _)
theorem aMt{d:Dfn}:NZ (vK d):=eK (jV aW) (eK (jV aW) (eK (jV aW) (eK (mX (λ_=>jV aW) _) (mX (λ_=>jV aW) _))))
theorem aNb{d:Dfn}{b:List Part}{x:Part}:NZ (yS d b x) :=
 pK (mZ aW) (pK (mZ aW) (pK (mZ aW) (pK (mZ aW) (eK yB (mX (λ_=>uW) _)))))
theorem aGd{d:Dfn}:∀(l b:List Part),NZ (pL d b l)
 | [],_=>rN
 | x::r,b=>eK aNb (aGd r _)
theorem aF6{d:Dfn}{n:aC}{l c:Int}:∀(h:List Tm) (m:List Cel),NZ (kY d n l c h m)
 | [],_=>rN
 | _::_,[]=>rN
 | t::r,x::m=>eK yB (eK uW (aF6 r m))
theorem aG4{l c:Int}:∀(s b:List aC),NZ (mL l c b s)
 | [],_=>rN
 | x::r,b=>eK (jV aW) (aG4 r _)
theorem aNs{d:Dfn}{r:Rul}:NZ (pO d r):=eK (mX (λ_=>jV aW) _) (eK (mX (λ_=>aF6 _ _) _) (eK (mX (λ_=>jV aW) _) (aG4 _ _)))
theorem aNC{d:Dfn}{b:List aC}{r:Rul}:NZ (nH d b r) :=
 pK (mZ aW) (pK (mZ aW) (eK (aGd _ _) (eK aG2 (eK aGv (eK (mX (λ_=>eK yB uW) _) aNs)))))
theorem aGC{d:Dfn}:∀(l:List Rul) (b:List aC),NZ (pF d b l)
 | [],_=>rN
 | x::r,b=>eK aNC (aGC r _)
theorem aMr(d:Dfn):NZ (qJ d) :=
 pK (mZ aW) (pK (mZ aW) (eK (mX (λ_=>aOr) _) (eK (aF8 _ _) (eK aMt (aGC _ _)))))
theorem aFp(d:Dfn):gU d=true↔qJ d=none:=by
 unfold gU pJ;rw[dA];cases h:qJ d with
 | none=>exact⟨λ_=>rfl,λ_=>rfl⟩
 | some f=>exact⟨λe=>cV e (aMr d f h),λe=>(by cases e)⟩
theorem xS{a b:Option Fault}:bU a b=none↔a=none/\b=none:=by
 cases a with
 | none=>exact⟨λh=>⟨rfl,h⟩,λh=>h.2⟩
 | some f=>exact⟨λh=>(by cases h),λh=>(by cases h.1)⟩
theorem aFd{α:Type}{f:α->Option Fault}:∀{l:List α},dH f l=none↔∀x,x∈l->f x=none
 | []=>⟨λ_ x h=>(by cases h),λ_=>rfl⟩
 | y::r=>by
  have u:=aFd (f:=f) (l:=r);rw[dH,xS,u];exact⟨λh x q=>by rcases List.mem_cons.1 q with rfl|q;exact h.1;exact h.2 x q,λh=>⟨h y (dZ ..),λx q=>h x (lL _ q)⟩⟩
theorem aLi{d:Dfn}{b:List aC}{r:Rul}:nH d b r=none↔r.name ∉ b/\nH d [] r=none:=by
 unfold nH;by_cases h:r.name∈b
 .rw[aE h];exact⟨λe=>(by cases e),λe=>cV h e.1⟩
 .rw[aD h,aD (by simp:¬ r.name∈([]:List aC))];exact⟨λe=>⟨h,e⟩,λe=>e.2⟩
theorem aE6{d:Dfn}:∀{l:List Rul} {b:List aC},pF d b l=none↔(∀r,r∈l->nH d [] r=none)/\(l.map Rul.name).Nodup/\∀r,r∈l->r.name ∉ b
 | [],b=>⟨λ_=>⟨λr h=>(by cases h),List.nodup_nil,λr h=>(by cases h)⟩,λ_=>rfl⟩
 | x::r,b=>by
  have L:=aE6 (d:=d) (l:=r) (b:=b++[x.name]);rw[pF,xS,aLi,L,bN,List.nodup_cons];constructor
  .rintro⟨⟨z,F⟩,G,B,H⟩;refine⟨λy q=>by rcases List.mem_cons.1 q with rfl|q;exact F;exact G y q,⟨λu=>?_,B⟩,λy q=>?_⟩
   .obtain⟨y,q,e⟩:=cD.1 u;exact H y q (by rw[e];simp)
   .rcases List.mem_cons.1 q with rfl|q
    .exact z
    ·exactλh=>H y q (List.mem_append_left _ h)
  .rintro⟨z,⟨F,G⟩,B⟩;refine⟨⟨B x (dZ ..),z x (dZ ..)⟩,λy q=>z y (lL _ q),G,λy q u=>?_⟩;rcases dK.1 u with u|u
   .exact B y (lL _ q) u
   .exact F (cD.2 ⟨y,q,cC.1 u⟩)
theorem aE2{d:Dfn}(E:List Eqn)(R:List Rul):∀(l b:List Part),pL { d with eqs:=E,rules:=R } b l=pL d b l
 | [],_=>rfl
 | x::r,b=>by rw[pL,pL,aE2 E R r];rfl
theorem aE1{d:Dfn}(E:List Eqn)(R:List Rul)(n:aC)(l c:Int):∀(h:List Tm) (m:List Cel),kY { d with eqs:=E,rules:=R } n l c h m=kY d n l c h m
 | [],_=>rfl
 | _::_,[]=>rfl
 | t::r,x::m=>by rw[kY,kY,aE1 E R n l c r m]
theorem aLI{d:Dfn}(E:List Eqn)(R:List Rul)(b:List aC)(r:Rul):nH { d with eqs:=E,rules:=R } b r=nH d b r:=by
 unfold nH pO;rw[aE2];simp only[aE1]
theorem aMq{d:Dfn}{E:List Eqn}{R:List Rul}(B:∀x,x∈E->x∈d.eqs)(z:∀x,x∈R->x∈d.rules)(lE:E.length<=d.eqs.length)(lR:R.length<=d.rules.length)
  (h:mA d=true):mA { d with eqs:=E,rules:=R }=true:=by
 unfold mA at h⊢;simp only[dI,kO,gP,fR]at h⊢;obtain⟨F,G,U,Z,H,L,M,O⟩:=h;refine⟨F,G,by omega,by omega,λx q=>H x (B x q),λx q=>L x (z x q),λx q=>M x ?_,λx q=>O x ?_⟩
 .unfold gI at q⊢;simp only[dK,List.mem_flatMap]at q⊢;rcases q with q|q|q|⟨y,u,q⟩
  .exact .inl q
  .exact .inr (.inl q)
  .exact .inr (.inr (.inl q))
  .exact .inr (.inr (.inr ⟨y,z y u,q⟩))
 .unfold fP at q⊢;simp only[dK,List.mem_flatMap]at q⊢;rcases q with⟨y,u,q⟩|q|⟨y,u,q⟩
  .exact .inl ⟨y,B y u,q⟩
  .exact .inr (.inl q)
  .exact .inr (.inr ⟨y,z y u,q⟩)
theorem aFu{d:Dfn}{E:List Eqn}{R:List Rul}(u:∀x,x∈E->x∈d.eqs)(y:∀x,x∈R->x∈d.rules)(Z:E.length<=d.eqs.length)(lR:R.length<=d.rules.length)
  (O:(d.rules.map Rul.name).Nodup->(R.map Rul.name).Nodup)(h:gU d=true):gU { d with eqs:=E,rules:=R }=true:=by
 rw[aFp]at h⊢;unfold qJ at h⊢;cases q:mA d with
 | false=>rw[q]at h;cases h
 | true =>
  rw[aMq u y Z lR q];rw[q]at h;cases B:qH d.sig with
  | false=>rw[B]at h;cases h
  | true =>
   rw[B]at h;simp only[Bool.true_eq_false,cI]at h⊢;rw[xS,xS,xS,aFd,aE6]at h⊢;obtain⟨F,G,H,L,M,h6⟩:=h;exact⟨λx U=>F x (u x U),G,H,λr z=>by rw[aLI];exact L r (y r z),O M,λr z=>by simp⟩
theorem aKK(d:Dfn){E:List Eqn}{R:List Rul}(y:E.Perm d.eqs)(u:R.Perm d.rules):gU { d with eqs:=E,rules:=R }=gU d:=by
 have F:gU d=true->gU { d with eqs:=E,rules:=R }=true:=aFu (λx q=>y.mem_iff.1 q) (λx q=>u.mem_iff.1 q) (Nat.le_of_eq y.length_eq) (Nat.le_of_eq u.length_eq) (λz=>((u.map Rul.name).nodup_iff).2 z);have G:gU { d with eqs:=E,rules:=R }=true->gU d=true:=λh=>aFu (d:={ d with eqs:=E,rules:=R }) (E:=d.eqs) (R:=d.rules) (λx q=>y.mem_iff.2 q) (λx q=>u.mem_iff.2 q) (Nat.le_of_eq y.length_eq.symm) (Nat.le_of_eq u.length_eq.symm) (λz=>((u.map Rul.name).nodup_iff).1 z) h
 cases e:gU d with
 | true=>exact F e
 | false =>
  cases B:gU { d with eqs:=E,rules:=R }with
  | true=>rw[G B]at e;cases e
  | false=>rfl
section
theorem aKk(n:Nat)(G:n<=4294967296)(s:St)(KV Kp:St->A->Prop)(y:∀tk,(∀t,tk=some t->s.getT t=none)->KV (gs s tk 0 64) (gv tk [])):Den cx 77 [.nils,.int .i64 (n:Nat)] KV Kp s:=by
 have z:decide ((n:Int)<0)=false:=by rw[gP];omega
 have F:IntKind.i64.wrap ((n:Int)-IntKind.i64.wrap (0-0))=(n:Int):=by rw[show IntKind.i64.wrap (0-0)=0 by decide,eW _ aB aB];omega
 (refine aL func77 [0,1,4,6,16] ?_;simp only[go_sem,ntmps77,f77]);simp only[go_sem,z];rw[F];cases n with
 | zero =>
  have q:decide ((0:Int)<((0:Nat):Int))=false:=by decide
  simp only[go_sem,q];exact aN (y none (λt h=>by cases h))
 | succ n =>
  have q:decide ((0:Int)<((n+1:Nat):Int))=true:=by rw[dA];omega
  simp only[go_sem,q,pQ];refine⟨⟨by omega,by omega,by decide⟩,λt B=>?_⟩;simp only[go_sem];exact aN (y (some t) (λu h=>by cases h;exact B))
theorem aJe(B:List (List Opr))(hn:B.flatten.length<=4294967296)(s:St)(KV Kp:St->A->Prop)(hk:KV s (.list none (B.flatten.map Opr.enc))):Den cx 32 [.list none (B.map λl=>.list none (l.map Opr.enc))] KV Kp s:=by
 refine fS λZ=>?_
 have O:=Z _ (dZ ..);clear Z;(refine aL func32 [0,2,3,5,6,8,9,10,11,12,20,25,26,27,28] ?_;simp only[go_sem,ntmps32,f32])
 refine Ex.loop (ι:=Nat) (λi=>[(0,.list none (B.map λl=>.list none (l.map Opr.enc))),(3,.int .i64 ((B.take i).flatten.length:Nat)),(9,.list none (B.map λl=>.list none (l.map Opr.enc))),(10,.int .i64 (B.length:Nat)),(11,.int .i64 (i:Nat))])
  (λ_=>s) (λi=>i<=B.length) (λi=>B.length-i) 0 (aX _) ?_ (aG _) ?_
 .simp only[go_sem];exact⟨rfl,rfl⟩
 .intro i hi;refine bC (V:=[0,2,3,5,6,8,9,10,11,12,20,25,26,27,28]) _ _ _ _ ?_;simp only[go_sem]
  (apply aQ<;>intro h)<;>simp only[go_sem,h]
  .have q:i<B.length:=gQ h;clear h;obtain⟨a,L⟩:∃a,B[i]?=some a:=⟨_,aV q⟩
   obtain⟨H,G⟩:=rI L
   have w2:IntKind.i64.wrap (((B.take i).flatten.length:Int)+(a.length:Int))=(((B.take (i+1)).flatten.length:Nat):Int):=by
    rw[H,aI,eW _ aB (by rw[H,aI]at G;omega)];omega
   have d0:decide ((((B.take (i+1)).flatten.length:Nat):Int)<0)=false:=by rw[gP];omega
   simp only[go_sem,L,q,w2,d0];exact⟨i+1,q,by omega,⟨rfl,O.wrap (i:=i) (gQ q)⟩,aG _⟩
  .have q:i=B.length:=by have:¬ i<B.length:=gQ h;omega
   subst q;clear h;rw[List.take_length];refine aKk _ hn _ _ _ (λtk M=>?_);simp only[go_sem];clear hi
   refine Ex.loop (ι:=Nat × Option Nat) (λk=>[(6,gv k.2 ((B.take k.1).flatten.map Opr.enc)),(25,.list none (B.map λl=>.list none (l.map Opr.enc))),(26,.int .i64 (B.length:Nat)),(27,.int .i64 (k.1:Nat))])
    (λk=>gs s k.2 (B.take k.1).flatten.length 64) (λk=>k.1<=B.length/\(k.2=none->(B.take k.1).flatten=[])/\∀t,k.2=some t->s.getT t=none) (λk=>B.length-k.1) (0,tk) ⟨aX _,λ_=>rfl,M⟩ ?_ (aG _) ?_
   .simp only[go_sem];exact⟨by cases tk<;>rfl,rfl⟩
   .rintro⟨i,tk⟩ ⟨hi,F,M⟩;simp only at hi F M;refine bC (V:=[0,2,3,5,6,8,9,10,11,12,20,25,26,27,28]) _ _ _ _ ?_;simp only[go_sem]
    (apply aQ<;>intro h)<;>simp only[go_sem,h]
    .have q:i<B.length:=gQ h;clear h;obtain⟨a,L⟩:∃a,B[i]?=some a:=⟨_,aV q⟩
     obtain⟨H,G⟩:=rI L
     have hz:∀(l:List Opr) (y:A),y∈l.map Opr.enc->y.cells.length=(A.cells (Opr.enc default)).length:=λl y U=>by
      obtain⟨z,_,rfl⟩:=cD.1 U
      first|rfl|(simp only[cG];rfl)
     simp only[go_sem,L,q];refine⟨by decide,λy U=>hz a y U,cT rfl rfl (by rw[aK];exact eD λe=>by rw[F e];rfl) (λy U=>hz _ y U) (by rw[H,aI]at G;simp only[aK];omega) (λu hu=>?_)⟩;have b0:=eX hu M;rw[eP hu];simp only[go_sem];refine⟨(i+1,some u),⟨q,λh=>(by cases h),λt h=>by cases h;exact b0⟩,aP,⟨?_,O.wrap (i:=i) (gQ q)⟩,?_⟩
     .rw[H,bY];rfl
     .rw[H];simp only[gs,aK,aI];exact aG _
    .have q:i=B.length:=by have:¬ i<B.length:=gQ h;omega
     subst q;rw[List.take_length]at F⊢;exact DK.mk hk (gE (aG _) M) (gK _ _ (λe=>by rw[F e];rfl))
theorem aOE{α:Type} [DecidableEq α] (key:α->MK) (x:α) (l:List α) (h:x∈l):iD (key x) (.bool true) (gD key l)=gD key l:=by
 induction l with
 | nil=>cases h
 | cons y r q =>
  simp only[gD,bN,iD]at q⊢;by_cases e:key x=key y
  .rw[aE e]
  .rw[aD e];rcases List.mem_cons.1 h with rfl|h
   .exact cV rfl e
   .rw[q h]
def aAD(a:List aC)(x:Tm):List aC:=if x.kind=5 then(if x.text∈a then a else a++[x.text]) else a
def vO(l:List Tm):List aC:=(bG l).foldl aAD []
theorem aN2(a:List aC)(x:aC):iD (.str x) (.bool true) (gD .str a)=gD .str (if x∈a then a else a++[x]):=by
 by_cases h:x∈a
 .rw[aE h];exact aOE MK.str x a h
 .rw[aD h];exact aAC MK.str (λx y e=>by cases e;rfl) x a h
structure ApI (s0:St) (p b:Nat) (n:Nat) (a:List aC) (v:Unit) (s:St):Prop where
 ge:s.ge s0
 pc:s.getO p=some (.cells 86 [.mp b])
 ob:s.getO b=some (.map 0 (gD .str a))
section
variable {s0 s s':St} {p b n m:Nat} {a:List aC} {v:Unit}
theorem ApI.st(h:ApI s0 p b n a v s)(q:s'.ge s):ApI s0 p b n a v s':=⟨q.trans h.ge,q.ob _ _ h.pc,q.ob _ _ h.ob⟩
theorem ApI.fr{x:Nat}(h:ApI s0 p b n a v s)(q:s.getO x=none):¬ jJ b v x:=by
 rintro rfl;rw[h.ob]at q;cases q
theorem ApI.set(h:ApI s0 p b m a v s)(q:s0.getO b=none)(c:List aC):ApI s0 p b n c v (s.setO b (.map 0 (gD .str c)))/\Keep (jJ b) s v (s.setO b (.map 0 (gD .str c))) v:=by
 have u:¬ b=p:=λe=>by have:=h.pc;rw[<-e,h.ob]at this;cases this
 exact⟨⟨pC h.ge q _,by rw[aH,aD u];exact h.pc,by rw[aH,aE rfl]⟩,Keep.set (show jJ b v b from rfl) _⟩
theorem ApI.keep(h:ApI s0 p b m a v s)(q:s'.ge s):ApI s0 p b n a v s'/\Keep (jJ b) s v s' v:=⟨⟨(h.st q).ge,(h.st q).pc,(h.st q).ob⟩,Keep.ge q v⟩
end
theorem aLG(s0:St)(p b:Nat)(H:s0.getO b=none):WalkOk aAD (ApI s0 p b) (jJ b) 74 [.ptr p 0] where
 st:=ApI.st
 fr:=ApI.fr
 go:=by
  intro n a v x L s KV Kp b0 z u;simp only[bP,bS];have O:=z.pc;have M:=z.ob;unfold aAD at u;(refine aL func74 [0,2,3,7] ?_;simp only[go_sem,ntmps74,f74]);(refine aM λc q=>?_);have h:(s.setO c (.cells 39 x.cs)).ge s:=bQ q (aG s);have e1:=aS O q;have e2:=aS M q;have G:ApI s0 p b (n+1) a v (s.setO c (.cells 39 x.cs)):=z.st h;obtain⟨U,Z⟩:=z.keep (n:=n) h;by_cases y:x.kind=5
  .have F:decide (x.kind=5)=true:=cZ y;rw[aE y]at u;obtain⟨k3,B⟩:=G.set (n:=n) H (if x.text∈a then a else a++[x.text]);have B:=(Keep.ge (Ow:=jJ b) h v).trans B;simp only[Tm.cs]at k3 B;simp only[go_sem,q,F,e1,e2,O,M,aN2];exact aN (u _ _ k3 B)
  .have F:decide (x.kind=5)=false:=cH y;rw[aD y]at u;simp only[go_sem,q,F];simp only[Tm.cs]at U Z;exact aN (u _ _ U Z)
section
variable {s:St} {KV Kp:St->A->Prop} {d:Dfn}
theorem aIR(l:List Tm)(hb:(bG l).length<=4294967000)(hk:∀s' b,s'.ge s->s'.getO b=some (.map 0 (gD .str (vO l)))->KV s' (.mp b)):Den cx 28 [.list none (l.map Tm.enc)] KV Kp s:=by
 (refine aL func28 [0,2,3,5,7,8,9,10] ?_;simp only[go_sem,ntmps28,f28]);(refine aM λq F=>?_);simp only[go_sem,F];(refine aM λp L=>?_)
 have h0:ApI s p q ((bG l).length) [] () ((s.setO q (.map 0 [])).setO p (.cells 86 [.mp q])):=by
  refine⟨bQ L.2 (bQ F (aG s)),by rw[aH,aE rfl],?_⟩;rw[aH,aD L.1.2,aH,aE rfl];rfl
 simp only[go_sem,F,L];have b1:=nV l
 refine Ex.loop (ι:=Nat × St) (λc=>[(3,.ptr p 0),(7,.list none (l.map Tm.enc)),(8,.int .i64 (l.length:Nat)),(9,.int .i64 (c.1:Nat))])
  (λc=>c.2) (λc=>c.1<=l.length/\ApI s p q ((bG (l.drop c.1)).length) ((bG (l.take c.1)).foldl aAD []) () c.2) (λc=>l.length-c.1) (0,_) ⟨aX _,h0⟩ ?_ (aG _) ?_
 .simp only[go_sem]
  try exact rfl
 .rintro⟨i,s1⟩ ⟨U,y⟩;simp only at U y;refine bC (V:=[0,2,3,5,7,8,9,10]) _ _ _ _ ?_;simp only[go_sem]
  (apply aQ<;>intro h)<;>simp only[go_sem,h]
  .have u:i<l.length:=gQ h;clear h;obtain⟨x,B⟩:∃a,l[i]?=some a:=⟨_,aV u⟩
   have M:=xH B;have z:=xF B;have b2:=xK (cR B);simp only[go_sem,B,u];(refine aM λc O=>?_);simp only[go_sem,B,u,O];refine uK (aLG s p q F) x 1 _ _ () _ _ _ aB (by rw[<-M];exact y.st (bQ O (aG _))) (λs4 v4 G b0=>?_);simp only[go_sem];exact⟨(i+1,s4),⟨u,by rw[z,List.foldl_append];exact G⟩,aP,bM i aB,aG _⟩
  .have H:i=l.length:=Nat.le_antisymm U (Nat.le_of_not_lt (gQ h));subst H;rw[List.take_length]at y;have Z:=y.pc;simp only[go_sem,Z];exact aN (hk _ _ y.ge y.ob)
theorem aJN(h:gU d=true):mA d=true/\qH d.sig=true:=by
 rw[aFp]at h;unfold qJ at h;constructor
 .cases e:mA d with
  | true=>rfl
  | false=>rw[aE e]at h;cases h
 .cases e:mA d with
  | false=>rw[aE e]at h;cases h
  | true =>
   rw[aD (by rw[e];decide)]at h;cases q:qH d.sig with
   | true=>rfl
   | false=>rw[aE q]at h;cases h
theorem aJp(U:DfnC d)(H:gU d=true)(n:aC)(hn:fH d.sig.funs n=none)(Z:KV s (.tuple [.nils,.int .i64 4])):Den cx 13 [.agg d.cs,.str n] KV Kp s:=by
 have hv:d.sig.sorts.length<=40/\d.sig.below.length<=200:=by
  have F:=(aJN H).2;unfold qH at F;simp only[dI,kO,gP]at F;omega
 (refine aL func13 [0,1,2,4,5,6,8,9,11,12,13,15,18,29,31,32,33,34,41,54,56,66] ?_;simp only[go_sem,ntmps13,f13]);(refine aM λp B=>?_);have h:(s.setO p (.cells 31 d.cs)).ge s:=bQ B (aG s);have y:(s.setO p (.cells 31 d.cs)).getO p=some (.cells 31 d.cs):=by rw[aH,aE rfl]
 simp only[go_sem,B];simp only[Dfn.cs,Sig.cs,bS,bP]at y h;generalize O:s.setO p _=S at y h⊢;clear O B;refine fL (uJ U ?_) (by simp only[Dfn.cs,Sig.cs,bS,bP]);rw[H];simp only[go_sem,y];refine fL (aCu d.sig aB aB _ _ _ (λL r u M=>?_)) (by simp only[Sig.cs]);have z:=u.ob _ _ y;simp only[go_sem,z];refine oZ M n ?_;rw[hn];simp only[go_sem,Option.isSome_none,Option.getD_none,nG];(refine aM λq G=>?_);simp only[go_sem,G];exact aF Z ((kE _ (aG L) G).trans (u.trans h))
theorem aJk(U:DfnC d)(hs:gU d=true)(hu:∀o,o∈d.sig.ops++d.sig.funs->o.name∈vO (fP d)\/o.pieces.length≠0)(hk:KV s (.tuple [.nils,.int .i64 0])):Den cx 14 [.agg d.cs] KV Kp s:=by
 (refine aL func14 [0,1,2,3,4,5,7,10,21,22,23,24,37] ?_;simp only[go_sem,ntmps14,f14]);(refine aM λp hp=>?_);have G:(s.setO p (.cells 31 d.cs)).ge s:=bQ hp (aG s);have H:(s.setO p (.cells 31 d.cs)).getO p=some (.cells 31 d.cs):=by rw[aH,aE rfl]
 simp only[go_sem,hp];simp only[Dfn.cs,Sig.cs,bS,bP]at H G;generalize hS:s.setO p _=S at H G⊢;clear hS hp;refine fL (uJ U ?_) (by simp only[Dfn.cs,Sig.cs,bS,bP]);rw[hs];simp only[go_sem,H];have b4:(fP d).length<=4294967000:=lQ (nV _) U.pr;refine fL (aEU d (by rw[yA];omega) U.cl S _ _ ?_) (by simp only[Dfn.cs,Sig.cs,bS,bP]);rw[yA];simp only[go_sem,H];refine aIR (fP d) U.pr (λS2 b O hb=>?_);have M:=O.ob _ _ H;have b2:=O.trans G;simp only[go_sem,M];have Z:[d.sig.ops,d.sig.funs].flatten=d.sig.ops++d.sig.funs:=by simp
 have b0:(d.sig.ops++d.sig.funs).length<=4294967000:=by rw[aI];exact U.op
 refine aJe [d.sig.ops,d.sig.funs] (by rw[Z];omega) _ _ _ ?_;rw[Z];generalize d.sig.ops++d.sig.funs=L at hu b0;simp only[go_sem,M];refine Ex.loop (ι:=Nat) (λi=>[(1,.ptr p 0),(4,.mp b),(5,.nils),(21,.list none (L.map Opr.enc)),(22,.int .i64 (L.length:Nat)),(23,.int .i64 (i:Nat))]) (λ_=>S2) (λi=>i<=L.length) (λi=>L.length-i) 0 (aX _) ?_ (aG _) ?_
 .simp only[go_sem]
  try exact rfl
 .rintro i hi;refine bC (V:=[0,1,2,3,4,5,7,10,21,22,23,24,37]) _ _ _ _ ?_;simp only[go_sem]
  (apply aQ<;>intro h)<;>simp only[go_sem,h]
  .have q:i<L.length:=gQ h;clear h;obtain⟨x,hx⟩:∃a,L[i]?=some a:=⟨_,aV q⟩
   have b3:=hu x (cR hx);have B:=aAL MK.str (λx y e=>by cases e;rfl) x.name (vO (fP d));have z:decide (((x.pieces.length:Nat):Int)=0)=decide (x.pieces.length=0):=by rw[cW];omega
   simp only[go_sem,hx,q];(intro c u;try simp only[cU,cN,bJ]at u);have f1:=aS hb (by first|exact u|exact u.2|exact u.2.2|exact u.2.2.2|exact u.2.2.2.2);have F:(S2.setO c (.cells 64 x.cs)).ge S2:=bQ u (aG S2);simp only[Opr.cs]at F;by_cases hm:x.name∈vO (fP d)
   .rw[aE hm]at B;simp only[go_sem,hx,q,u,f1,hb,B,z,List.headD_cons];exact⟨i+1,q,by omega,bM i aB,F⟩
   .rw[aD hm]at B;have h0:decide (x.pieces.length=0)=false:=cH (b3.resolve_left hm);simp only[go_sem,hx,q,u,f1,hb,B,z,h0,List.headD_cons];exact⟨i+1,q,by omega,bM i aB,F⟩
  .have b1:i=L.length:=Nat.le_antisymm hi (Nat.le_of_not_lt (gQ h));subst b1;refine aCh ?_;simp only[go_sem];exact aF hk b2
end
end
section
def sA:aC:=[108,97,110,103,117,97,103,101,32,115,117,109,115,46,32,115,111,114,116,32,69,120,112,44,32,80,103,109,46,32,115,117,98,115,111,114,116,32,73,110,116,32,60,32,69,120,112,46,32,115,117,98,115,111,114,116,32,69,120,112,32,60,32,80,103,109,46,32,118,97,108,117,101,32,73,110,116,46,32,111,112,32,112,108,117,115,32,58,32,69,120,112,32,34,43,34,32,69,120,112,32,45,62,32,69,120,112,32,112,114,101,99,32,53,32,108,101,102,116,32,115,116,114,105,99,116,40,49,44,32,50,41,46,32,99,101,108,108,32,107,32,58,32,76,105,115,116,32,61,32,91,36,93,46,32,115,116,97,114,116,32,80,103,109,46,32,119,97,116,99,104,32,107,46,32,114,117,108,101,32,97,100,100,32,58,32,107,32,58,32,91,112,108,117,115,40,88,58,73,110,116,44,32,89,58,73,110,116,41,32,124,32,75,93,32,61,62,32,91,97,100,100,40,88,58,73,110,116,44,32,89,58,73,110,116,41,32,124,32,75,93,46]
def aBd:aC:=[108,97,110,103,117,97,103,101,32,101,46,32,102,117,110,32,102,32,58,32,73,110,116,32,45,62,32,73,110,116,46,32,108,101,116,32,102,40,88,58,73,110,116,41,32,61,32,89,58,73,110,116,46,32,115,116,97,114,116,32,73,110,116,46,32,99,101,108,108,32,107,32,58,32,65,110,121,32,61,32,36,46,32,119,97,116,99,104,32,107,46]
def aBf:aC:=[108,97,110,103,117,97,103,101,32,101,46,32,115,116,97,114,116,32,73,110,116,46,32,99,101,108,108,32,107,32,58,32,73,110,116,32,61,32,36,46,32,119,97,116,99,104,32,99,46]
def aBm:aC:=[108,97,110,103,117,97,103,101]
def jU:Dfn:=(gX sA).1
theorem aOR:(gX sA).2=Fault.none:=by kernel_rfl
theorem aBi:pJ jU=Fault.none:=by kernel_rfl
theorem aON:(nE aBd).2=⟨17,[89],1,33⟩:=by kernel_rfl
theorem aOO:(nE aBf).2=⟨13,[99],0,0⟩:=by kernel_rfl
theorem aOK:(nE aBm).2.code=12:=by kernel_rfl
theorem aHJ:cX jU.cs<=100000000:=gN (by kernel_rfl)
theorem aOS:nE sA=(jU,Fault.none):=by
 have h:(gX sA).2.code=0:=by rw[aOR];rfl
 have q:(pJ (gX sA).1).code=0:=by rw[show(gX sA).1=jU from rfl,aBi];rfl
 unfold nE;rw[aE h,aE q,show(gX sA).1=jU from rfl,aBi]
theorem aOM:gU jU=true:=by unfold gU;rw[aBi];rfl
theorem aOL:fH jU.sig.funs [112,108,117,115]=none:=by kernel_rfl
theorem aOA:((jU.sig.ops++jU.sig.funs).all λo=>decide (o.name∈vO (fP jU))||!decide (o.pieces.length=0))=true:=by kernel_rfl
theorem aOt:(jU.once[0]?).map Cel.name=some [107]:=by kernel_rfl
theorem aOF:cX (gX aBd).1.cs<=100000000:=gN (by kernel_rfl)
theorem aOx:cX (gX aBf).1.cs<=100000000:=gN (by kernel_rfl)
theorem aOC:cX (gX aBm).1.cs<=100000000:=gN (by kernel_rfl)
theorem aOD:DfnC jU:=aAi _ aHJ
section
variable {s:St} {KV Kp:St->A->Prop}
theorem awR{x:aC}{d:Dfn}{g:Fault}(h:nE x=(d,g))(y:x.length<=4294967280)(q:cX (gX x).1.cs<=100000000)(u:KV s (.tuple [d.enc,g.enc])):Den cx 12 [.str x] KV Kp s :=
 aKt x y (aAi _ q) (by rw[h];exact u)
theorem aDN:List.lookup 51 [(51,[0,2,0,0]),(102,[2,2]),(195,[2,2])]=some [0,2,0,0]:=rfl
theorem aAJ{T:St}{p q:Nat}(u:T.getO p=none)(h:(¬ p=q/\¬ q=p)/\T.getO q=none)(d:Dfn)(g:Fault):∃S,S=((((T.setO p (.cells 31 [.str [],.nils,.nils,.nils,.nils,.nils,.nils,.nils,.str [],.nils,.nils,.str [],.str []])).setO q (.cells 51 [.int .i64 0,.str [],.int .i64 0,.int .i64 0])).setO p (.cells 31 d.cs)).setO q (.cells 51 g.cs))/\S.ge T/\S.getO p=some (.cells 31 d.cs)/\S.getO q=some (.cells 51 g.cs) :=
 ⟨_,rfl,kE _ (kE _ (kE _ (kE _ (aG T) u) h.2) u) h.2,by rw[aH,aD h.1.2,aH,aE rfl],by rw[aH,aE rfl]⟩
theorem aEN(hk:KV s (.bool true)):Den cx 7 [] KV Kp s:=by
 obtain⟨d2,h2⟩:∃d,nE aBd=(d,⟨17,[89],1,33⟩):=⟨_,Prod.ext rfl aON⟩
 obtain⟨d3,h3⟩:∃d,nE aBf=(d,⟨13,[99],0,0⟩):=⟨_,Prod.ext rfl aOO⟩
 obtain⟨d4,f4,h4,b1⟩:∃d f,nE aBm=(d,f)/\f.code=12:=⟨_,_,rfl,aOK⟩
 obtain⟨x0,b0,b3⟩:=oT.1 aOt
 have hu:∀o,o∈jU.sig.ops++jU.sig.funs->o.name∈vO (fP jU)\/o.pieces.length≠0:=λo ho=>by
  have:=fR.1 aOA o ho;simpa using this
 (refine aL func7 [0,1,2,4,6,8,9,10,11,12,13,14,15,55] ?_;simp only[go_sem,ntmps7,f7]);refine awR (x:=sA) aOS fJ aHJ ?_;have O:=aOD;have q:=aOM;have Z:=aOL;have U:=aBi;generalize jU=d1 at b0 hu O q Z U⊢;simp only[go_sem];(refine aM λp1 z=>?_);simp only[go_sem,z];(refine aM λp2 H=>?_);simp only[go_sem,z,H];obtain⟨S1,e1,u1,g1,g2⟩:=aAJ z H d1 Fault.none;simp only[Dfn.cs,Sig.cs,Fault.cs,bS,bP]at e1 g1 g2;rw[<-e1];clear e1 z H;refine awR (x:=aBd) h2 fJ aOF ?_;simp only[go_sem];(refine aM λp3 B=>?_);simp only[go_sem,B];(refine aM λp4 L=>?_);simp only[go_sem,B,L];obtain⟨S2,e2,u2,g3,g4⟩:=aAJ B L d2 ⟨17,[89],1,33⟩;simp only[Dfn.cs,Sig.cs,Fault.cs,bS,bP]at e2 g3 g4;rw[<-e2];clear e2 B L;refine awR (x:=aBf) h3 fJ aOx ?_;simp only[go_sem];(refine aM λp5 F=>?_);simp only[go_sem,F];(refine aM λp6 M=>?_);simp only[go_sem,F,M];obtain⟨S3,e3,u3,g5,g6⟩:=aAJ F M d3 ⟨13,[99],0,0⟩;simp only[Dfn.cs,Sig.cs,Fault.cs,bS,bP]at e3 g5 g6;rw[<-e3];clear e3 F M;refine awR (x:=aBm) h4 fJ aOC ?_;simp only[go_sem];(refine aM λp7 h=>?_);simp only[go_sem,h];have u:=u3.ob _ _ (u2.ob _ _ g1);have k2:=u3.ob _ _ (u2.ob _ _ g2);have k4:=u3.ob _ _ g4;have n7:=aS u h;(refine aM λp8 G=>?_);have n8:=aS u G.2;simp only[go_sem,h,G,n7,n8,u];obtain⟨S4,e4,u4,g7,g8⟩:=aAJ h G d4 f4;simp only[Dfn.cs,Sig.cs,Fault.cs,bS,bP]at e4 g7 g8;rw[<-e4];clear e4 h G;have u:=u4.ob _ _ u;have k2:=u4.ob _ _ k2;have k4:=u4.ob _ _ k4;have k6:=u4.ob _ _ g6;have b2:=u4.trans (u3.trans (u2.trans u1));refine fL (aJp O q [112,108,117,115] Z ?_) (by simp only[Dfn.cs,Sig.cs,bS,bP]);simp only[go_sem,u];refine fL (aJk O q hu ?_) (by simp only[Dfn.cs,Sig.cs,bS,bP]);simp only[go_sem,u];refine fL (aKB O q [107] 0 x0 b0 b3 (λj y hj=>aB) ?_) (by simp only[Dfn.cs,Sig.cs,bS,bP]);simp only[go_sem,u,k2,aDN,Fault.none];refine fL (uJ O ?_) (by simp only[Dfn.cs,Sig.cs,bS,bP]);rw[q];simp only[go_sem,u,k2,k4,k6,aDN,Fault.none];refine fL (aB9 O ?_) (by simp only[Dfn.cs,Sig.cs,bS,bP]);rw[U];have z0:((0:Nat):Int)=0:=rfl;simp only[go_sem,u,k2,k4,k6,g8,aDN,Fault.none,cZ b1,z0];exact aF hk b2
end
end
theorem aLs(x:Dfn)(L:wK x<=4294967296)(M:x.sig.ops.length+x.sig.funs.length<=4294967296)(s:St)(KV Kp:St->A->Prop)(B:∀b:Bool,KV s (.bool b)):Den cx 5 [.agg x.cs] KV Kp s:=by
 refine fS λz=>?_
 have G:=z _ (dZ ..);have F:Rlz (.list none (x.rules.map Rul.enc)):=G.cell (by simp[Dfn.cs]);clear z;simp only[go_sem];(refine aL func5 [0,1,2,3,5,28,30,31,32,33,54] ?_;simp only[go_sem,ntmps5,Tryz.f5]);(refine aM λp q=>?_);simp only[go_sem,q]
 (apply aQ<;>intro h)<;>simp only[go_sem,h,q]
 .exact aF (B _) bA
 clear h;refine aLq x.sig M _ _ _ (λU=>?_);simp only[go_sem,q]
 (apply aQ<;>intro h)<;>simp only[go_sem,h,q]
 .exact aF (B _) bA
 clear h;generalize IntKind.i64.wrap (IntKind.i64.wrap (IntKind.i64.wrap ((x.eqs.length:Int)+(x.once.length:Int))+(x.many.length:Int))+(x.rules.length:Int))=n0
 refine Ex.loop (ι:=Int × Nat) (λc=>[(1,.ptr p 0),(3,.int .i64 c.1),(30,.list none (x.rules.map Rul.enc)),(31,.int .i64 x.rules.length),(32,.int .i64 (c.2:Nat))]) (λ_=>s.setO p (.cells 31 x.cs))
  (λc=>c.2<=x.rules.length) (λc=>x.rules.length-c.2) (n0,0) (aX _) ?_ (by exact aG _) ?_
 ·(simp only[go_sem,q];first|done|exact rfl|exact⟨rfl,rfl⟩)
 .rintro⟨l,i⟩ O;simp only at O;refine bC (V:=[0,1,2,3,5,28,30,31,32,33,54]) _ _ _ _ ?_;simp only[go_sem,q]
  (apply aQ<;>intro h)<;>simp only[go_sem,h,q]
  .have u:i<x.rules.length:=gQ h;obtain⟨e,H⟩:∃a,x.rules[i]?=some a:=⟨_,aV u⟩
   clear h;simp only[go_sem,q,H,u];(refine aM λb5 y=>?_);simp only[go_sem,q,H,u,y]
   (apply aQ<;>intro h)<;>simp only[go_sem,h,q,y]
   .exact aF (B _) bA
   exact⟨(_,i+1),u,aP,⟨rfl,F.wrap (i:=i) (gQ u)⟩,(hH (And.intro q y))⟩
  .clear h;refine aJs x L _ _ _ (λxs=>?_);simp only[go_sem,q];refine aK9 xs _ _ _ _ (λZ=>?_);simp only[go_sem,q];exact aF (B _) bA
section
theorem aOb(n:Int):0<=IntKind.u64.wrap n:=by
 have h:IntKind.u64.wrap n=n % 18446744073709551616:=by
  simp only[IntKind.wrap];rw[aD (by simp[IntKind.signed])];rfl
 rw[h];omega
theorem aOa(n:Int)(m:Nat)(q:0<m)(u:m<=4294967296):∃k:Nat,k<m/\IntKind.u64.wrap (m:Int)=m/\(IntKind.u64.wrap n).tmod (m:Int)=(k:Int)/\IntKind.i64.wrap (k:Int)=k/\IntKind.u64.wrap (k:Int)=k:=by
 have h:=aOb n;have y:0<=(IntKind.u64.wrap n).tmod (m:Int):=Int.tmod_nonneg _ h;have z:(IntKind.u64.wrap n).tmod (m:Int)<m:=Int.tmod_lt_of_pos _ aB;refine⟨((IntKind.u64.wrap n).tmod (m:Int)).toNat,by omega,IntWalk.u64_in _ aB,by omega,eW _ aB aB,IntWalk.u64_in _ aB⟩
theorem aGJ{X S:St}{tk:Option Nat}{n:Nat}{e:TypeId}(q:X.ge S)(h:∀u,tk=some u->S.getT u=none):(gs X tk n e).ge S :=
 ⟨fun b o B => by rw [bW]; exact q.ob b o B,fun t v z => by
  rw[eI];by_cases e:tk=some t
  .rw[h t e]at z;cases z
  .rw[aD e];exact q.tk t v z,λy F=>by rw[aA8];exact q.ls y F⟩
theorem yO{l:List Rul}{y:A}(h:y∈l.map Rul.enc):y.cells.length=7:=by
 obtain⟨z,_,rfl⟩:=cD.1 h;rfl
theorem aNP{l:List Eqn}{y:A}(h:y∈l.map Eqn.enc):y.cells.length=15:=by
 obtain⟨z,_,rfl⟩:=cD.1 h;rfl
section
variable {s:St} {KV Kp:St->A->Prop}
theorem aNQ{d e:Dfn}{R E:A}(u:e={ d with eqs:=e.eqs,rules:=e.rules })(h:A.le E (.list none (e.eqs.map Eqn.enc)))(q:A.le R (.list none (e.rules.map Rul.enc)))(oE:E.one=true)(y:R.one=true) :
  A.le (.agg [.str d.name,.list none (d.sig.sorts.map .str),.list none (d.sig.below.map Below.enc),.list none (d.sig.ops.map Opr.enc),.list none (d.sig.funs.map Opr.enc),.list none (d.sig.values.map .str),E,.list none (d.once.map Cel.enc),.str d.kind,.list none (d.many.map Cel.enc),R,.str d.start,.str d.watch]) (.agg e.cs):=by
 have hcs:e.cs=[.str d.name,.list none (d.sig.sorts.map .str),.list none (d.sig.below.map Below.enc),.list none (d.sig.ops.map Opr.enc),.list none (d.sig.funs.map Opr.enc),.list none (d.sig.values.map .str),.list none (e.eqs.map Eqn.enc),.list none (d.once.map Cel.enc),.str d.kind,.list none (d.many.map Cel.enc),.list none (e.rules.map Rul.enc),.str d.start,.str d.watch]:=by
  rw[u];rfl
 rw[hcs];exact A.le.agg ⟨⟨bF _,rfl⟩,⟨bF _,rfl⟩,⟨bF _,rfl⟩,⟨bF _,rfl⟩,⟨bF _,rfl⟩,⟨bF _,rfl⟩,⟨h,rfl⟩,⟨bF _,rfl⟩,⟨bF _,rfl⟩,⟨bF _,rfl⟩,⟨q,rfl⟩,⟨bF _,rfl⟩,⟨bF _,rfl⟩,trivial⟩
theorem aLj(d:Dfn){E:List Eqn}{R:List Rul}(h:cK (E.map Eqn.enc)<=cK (d.eqs.map Eqn.enc))(q:cK (R.map Rul.enc)<=cK (d.rules.map Rul.enc)):cX ({ d with eqs:=E,rules:=R }:Dfn).cs<=cX d.cs:=by
 rw[xR,xR];simp only;omega
end
end
end Go.AV
