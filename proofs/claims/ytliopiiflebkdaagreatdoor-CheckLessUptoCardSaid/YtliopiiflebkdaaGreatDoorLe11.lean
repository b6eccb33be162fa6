/-
  Of CheckLess.
-/
import Derived.Test.YtliopiiflebkdaaGreatDoorLe10
set_option linter.all false
set_option maxRecDepth 99999
set_option maxHeartbeats 0
namespace Go.AV
open Go Go.Proofs Tryz
def pU(e:Eqn):Nat:=2+e.cond.length
def tM(p:Part):Nat:=1+p.right.length
def tY(r:Rul):Nat:=(r.parts.map tM).sum+(r.cond.length+(r.new.map λf=>f.cells.length).sum)
def wJ(d:Dfn):Nat:=(d.eqs.map pU).sum+(d.once.length+(d.many.length+(d.rules.map tY).sum))
theorem aLH{α:Type}{l:List α}{i:Nat}{x:α}(h:l[i]?=some x):l.drop i=x::l.drop (i+1):=by
 obtain⟨q,rfl⟩:=dH.1 h;exact kO q
theorem aAx{α:Type}{f:α->Nat}{l:List α}{i:Nat}{x:α}(h:l[i]?=some x):((l.drop i).map f).sum=f x+((l.drop (i+1)).map f).sum:=by
 rw[aLH h,bP,List.sum_cons]
theorem aAq(s:St)(t:Nat)(v w:Nat × TypeId):(s.setT t v).setT t w=s.setT t w:=by simp only[St.setT,xW]
theorem aC7{l:List Cel}{y:A}(h:y∈l.map Cel.enc):y.cells.length=10:=by
 obtain⟨z,_,rfl⟩:=cC.1 h;rfl
def pV(s:St)(l:List Tm)(tk:Option Nat):Prop:=(tk=none->l=[])/\∀t,tk=some t->s.getT t=none
theorem aJO(x:Dfn)(hB:wJ x<=4294967296)(s:St)(KV Kp:St->A->Prop)(hk:∀xs:List Tm,KV s (.list none (xs.map Tm.enc))):Den cx 10 [.agg x.cs] KV Kp s:=by
 refine fT λhz1=>?_
 have hza:=hz1 _ (dZ ..);have hw1:Rlz (.list none (x.eqs.map Eqn.enc)):=hza.cell (by simp[Dfn.cs]);have hw2:Rlz (.list none (x.rules.map Rul.enc)):=hza.cell (by simp[Dfn.cs]);clear hz1;unfold wJ at hB;simp only[go_sem];(refine aM func10 [0,1,2,3,5,7,9,11,13,15,16,17,18,38,39,40,41,51,52,53,54,58,59,60,61,78,79,80,81] ?_;simp only[go_sem,ntmps10,f10]);(refine aL λp hp=>?_);simp only[go_sem,hp]
 refine Ex.loop (ι:=(List Tm × Option Nat) × Nat) (λc=>[(1,.ptr p 0),(3,gv c.1.2 (c.1.1.map Tm.enc)),(15,.list none (x.eqs.map Eqn.enc)),(16,.int .i64 x.eqs.length),(17,.int .i64 (c.2:Nat))])
  (λc=>gs (s.setO p (.cells 31 x.cs)) c.1.2 c.1.1.length 39)
  (λc=>pV s c.1.1 c.1.2/\c.2<=x.eqs.length/\c.1.1.length+((x.eqs.drop c.2).map pU).sum<=(x.eqs.map pU).sum) (λc=>x.eqs.length-c.2) (([],none),0) ⟨⟨λ_=>rfl,λt e=>(by cases e)⟩,aX _,by simp⟩ ?_ (by exact aG _) ?_
 ·(simp only[go_sem,hp];try exact⟨rfl,rfl⟩)
 ·rintro ⟨⟨l,tk⟩,i⟩ ⟨⟨hnil,hfree⟩,hi,hl⟩;simp only at hnil hfree hi hl;refine bC (V := [0,1,2,3,5,7,9,11,13,15,16,17,18,38,39,40,41,51,52,53,54,58,59,60,61,78,79,80,81]) _ _ _ _ ?_;simp only [go_sem,hp]
  (apply aQ<;>intro h)<;>simp only[go_sem,h,hp]
  .have hix:i<x.eqs.length:=gQ h;clear h;obtain⟨e,he⟩:∃a,x.eqs[i]?=some a:=⟨_,aV hix⟩
   have hsd:=aAx (f:=pU) he;have hew:pU e=2+e.cond.length:=rfl;simp only[go_sem,hp,he,hix];(refine mQ λb5 hb5=>?_);simp only[go_sem,hp,he,hix,hb5];(refine bB (OT.l [0,1,2,3,4,7,8,5,6,9,10] .nil) [(5,[8]),(6,[8])] ?_;simp only[go_sem,hp,he,hix,hb5]);refine⟨by decide,λy hy=>?_,cU rfl rfl (by rw[aK];exact eE λe=>by rw[hnil e];rfl) (λy hy=>mH hy) (by simp only[aK,aO,aT];omega) (λu hu=>?_)⟩
   .simp only[dD,List.mem_nil_iff,eT]at hy;rcases hy with rfl|rfl<;>rfl
   have hfu:=fB hu hfree;rw[eU hu];simp only[go_sem,hp,he,hix,hb5];refine⟨by decide,λy hy=>mH hy,by simp only[aI,aK,aO,aT],λy hy=>?_,by simp only[aI,aK,aO,aT];omega,?_⟩
   .simp only[dK,dD,List.mem_nil_iff,eT]at hy;rcases hy with hy|rfl|rfl
    .exact mH hy
    .rfl
    .rfl
   refine⟨((l++[e.left,e.right]++e.cond,some u),i+1),⟨⟨λh=>(by cases h),λt h=>by cases h;exact hfu⟩,hix,by simp only[aI,aO,aT];omega⟩,aP,?_,?_⟩
   .simp only[go_sem,hw1.wrap (i:=i) (gQ hix),dB,bY]
   .have e1:∀a b:A,(List.map Tm.enc l++[a,b]).length+e.cond.length=(l++[e.left,e.right]++e.cond).length:=λa b=>by simp only[aI,aK,aO,aT]
    rw[aAq,e1];exact fY (gX (And.intro hp hb5))
  ·clear h;(refine bB (OT.l [0,1,2,4,5,8,3,6,7] .nil) [(3,[5])] ?_; simp only [go_sem,hp]);refine ⟨by decide,fun y hy => aC7 hy,rK (tk := none) (es := []) (fun _ => rfl) (fun t h => by cases h) (fun y hy => by cases hy) (by simp only [aK,aT]; omega) (fun tk1 hn1 hf1 => ?_)⟩;simp only [go_sem,hp];refine ⟨by decide,fun y hy => aC7 hy,rK (fun h => by simpa using hn1 h) (fun t ht => by rw [aDb t ht]; simp) (fun y hy => aC7 (gQ hy)) (by simp only [aK,aT,bO]; omega) (fun tk2 hn2 hf2 => ?_)⟩;simp only [go_sem,hp,aGW hn2]
   have hn2':tk2=none->x.once++x.many=[]:=λh=>by
    have:=hn2 h;simpa using this
   have hV:∀(i:Nat) (o:Cel),(x.once++x.many)[i]?=some o->∃t,ev tk2 (List.map Cel.enc x.once++List.map Cel.enc x.many)=.list (some t) ((x.once++x.many).map Cel.enc):=λi o ho=>by
    cases tk2 with
    | none =>
     rw[hn2' rfl]at ho;cases ho
    | some t=>exact⟨t,by rw[bY];rfl⟩
   have hlE:l.length<=(x.eqs.map pU).sum:=by omega
   have hVl:(x.once++x.many).length=x.once.length+x.many.length:=aI
   refine Ex.loop (ι:=(List Tm × Option Nat) × Nat) (λc=>[(1,.ptr p 0),(3,gv c.1.2 (c.1.1.map Tm.enc)),(38,ev tk2 (List.map Cel.enc x.once++List.map Cel.enc x.many)),(39,.int .i64 ((x.once++x.many).length:Nat)),(40,.int .i64 (c.2:Nat))])
    (λc=>gs (s.setO p (.cells 31 x.cs)) c.1.2 c.1.1.length 39)
    (λc=>pV s c.1.1 c.1.2/\c.2<=(x.once++x.many).length/\c.1.1.length<=(x.eqs.map pU).sum+c.2) (λc=>(x.once++x.many).length-c.2) ((l,tk),0) ⟨⟨hnil,hfree⟩,aX _,hlE⟩ ?_ (by exact aHl (aG _) hf1 (λt h=>(hf2 t h).imp id (λh=>⟨_,h⟩))) ?_
   ·(simp only[go_sem,hp];try simp)
   .clear hf2 hf1 hn1 hnil hfree hl hi hn2 hlE;rintro⟨⟨l,tk⟩,i⟩ ⟨⟨hnil,hfree⟩,hi,hl⟩;simp only at hnil hfree hi hl;refine bC (V:=[0,1,2,3,5,7,9,11,13,15,16,17,18,38,39,40,41,51,52,53,54,58,59,60,61,78,79,80,81]) _ _ _ _ ?_;simp only[go_sem,hp]
    (apply aQ<;>intro h)<;>simp only[go_sem,h,hp]
    .have hix:i<(x.once++x.many).length:=gQ h;clear h;obtain⟨o,ho⟩:∃a,(x.once++x.many)[i]?=some a:=⟨_,aV hix⟩
     obtain⟨t,ht⟩:=hV i o ho;simp only[go_sem,hp,ht,ho,hix];(refine mQ λb7 hb7=>?_);simp only[go_sem,hp,ht,ho,hix,hb7];refine⟨by decide,λy hy=>by simp only[cD]at hy;subst hy;rfl,cU rfl rfl (by rw[aK];exact eE λe=>by rw[hnil e];rfl) (λy hy=>mH hy) (by simp only[aK,aO,aT];omega) (λu hu=>?_)⟩;have hfu:=fB hu hfree;rw[eU hu];simp only[go_sem,hp,ht,ho,hix,hb7];refine⟨((l++[o.init],some u),i+1),⟨⟨λh=>(by cases h),λt h=>by cases h;exact hfu⟩,hix,by simp only[aI,aO,aT];omega⟩,aP,?_,?_⟩
     .simp only[go_sem,bM i aB,dB,bY]
     .rw[show l.length+1=(l++[o.init]).length by simp only[aI,aO,aT]];exact fY (gX (And.intro hp hb7))
    .clear h;have hlE:l.length<=(x.eqs.map pU).sum+(x.once.length+x.many.length):=by omega
     clear hi hl
     refine Ex.loop (ι:=(List Tm × Option Nat) × Nat) (λc=>[(3,gv c.1.2 (c.1.1.map Tm.enc)),(51,.list none (x.rules.map Rul.enc)),(52,.int .i64 x.rules.length),(53,.int .i64 (c.2:Nat))])
      (λc=>gs s c.1.2 c.1.1.length 39)
      (λc=>pV s c.1.1 c.1.2/\c.2<=x.rules.length/\c.1.1.length+((x.rules.drop c.2).map tY).sum<=4294967296) (λc=>x.rules.length-c.2) ((l,tk),0) ⟨⟨hnil,hfree⟩,aX _,by simp only[qA];omega⟩ ?_ ?_ ?_
     ·(simp only[go_sem,hp];first|done|exact rfl|exact⟨rfl,rfl⟩)
     .exact nD (aAj (tD hp (vA _ _ _)))
     .clear hnil hfree hlE;rintro⟨⟨l,tk⟩,i⟩ ⟨⟨hnil,hfree⟩,hi,hl⟩;simp only at hnil hfree hi hl;refine bC (V:=[0,1,2,3,5,7,9,11,13,15,16,17,18,38,39,40,41,51,52,53,54,58,59,60,61,78,79,80,81]) _ _ _ _ ?_;simp only[go_sem]
      (apply aQ<;>intro h)<;>simp only[go_sem,h]
      .have hix:i<x.rules.length:=gQ h;clear h;obtain⟨r,hr⟩:∃a,x.rules[i]?=some a:=⟨_,aV hix⟩
       have hsd:=aAx (f:=tY) hr;have hrw:tY r=(r.parts.map tM).sum+(r.cond.length+(r.new.map λf=>f.cells.length).sum):=rfl;simp only[go_sem,hr,hix];(refine mQ λb9 hb9=>?_);simp only[go_sem,hr,hix,hb9];have hzr:Rlz (.agg r.cs):=hw2.agg_elem (cC.2 ⟨r,cR hr,rfl⟩);have hw3:Rlz (.list none (r.parts.map Part.enc)):=hzr.cell (by simp[Rul.cs]);have hw4:Rlz (.list none (r.new.map Fresh.enc)):=hzr.cell (by simp[Rul.cs]);rw[hsd,hrw]at hl;clear hsd hrw;have hiw:IntKind.i64.wrap ((i:Int)+1)=((i+1:Nat):Int):=hw2.wrap (i:=i) (gQ hix);generalize hR:((x.rules.drop (i+1)).map tY).sum=R at hl
       refine Ex.loop (ι:=(List Tm × Option Nat) × Nat) (λc=>[(3,gv c.1.2 (c.1.1.map Tm.enc)),(9,.ptr b9 0),(51,.list none (x.rules.map Rul.enc)),(52,.int .i64 x.rules.length),(53,.int .i64 (i:Nat)),(58,.list none (r.parts.map Part.enc)),(59,.int .i64 r.parts.length),(60,.int .i64 (c.2:Nat))])
        (λc=>gs (s.setO b9 (.cells 46 r.cs)) c.1.2 c.1.1.length 39)
        (λc=>pV s c.1.1 c.1.2/\c.2<=r.parts.length/\c.1.1.length+(((r.parts.drop c.2).map tM).sum+(r.cond.length+(r.new.map λf=>f.cells.length).sum)+R)<=4294967296) (λc=>r.parts.length-c.2) ((l,tk),0) ⟨⟨hnil,hfree⟩,aX _,by simp only[qA];omega⟩ ?_ (by exact aG _) ?_
       ·(simp only[go_sem,hb9];first|done|exact rfl|exact⟨rfl,rfl⟩)
       .clear hnil hfree hl;rintro⟨⟨l,tk⟩,j⟩ ⟨⟨hnil,hfree⟩,hj,hl⟩;simp only at hnil hfree hj hl;refine bC (V:=[0,1,2,3,5,7,9,11,13,15,16,17,18,38,39,40,41,51,52,53,54,58,59,60,61,78,79,80,81]) _ _ _ _ ?_;simp only[go_sem,hb9]
        (apply aQ<;>intro h)<;>simp only[go_sem,h,hb9]
        .have hjx:j<r.parts.length:=gQ h;clear h;obtain⟨q,hq⟩:∃a,r.parts[j]?=some a:=⟨_,aV hjx⟩
         have hsd:=aAx (f:=tM) hq;have hqw:tM q=1+q.right.length:=rfl;simp only[go_sem,hb9,hq,hjx];(refine mQ λb11 hb11=>?_);simp only[go_sem,hb9,hq,hjx,hb11];(refine bB (OT.l [0,1,2,3,5,6,4,7,8] .nil) [(4,[6])] ?_;simp only[go_sem,hb9,hq,hjx,hb11]);refine⟨by decide,λy hy=>by simp only[cD]at hy;subst hy;rfl,cU rfl rfl (by rw[aK];exact eE λe=>by rw[hnil e];rfl) (λy hy=>mH hy) (by simp only[aK,aO,aT];omega) (λu hu=>?_)⟩;have hfu:=fB hu hfree;rw[eU hu];simp only[go_sem,hb9,hq,hjx,hb11];refine⟨by decide,λy hy=>mH hy,by simp only[aI,aK,aO,aT],λy hy=>?_,by simp only[aI,aK,aO,aT];omega,?_⟩
         .simp only[dK,cD]at hy;rcases hy with hy|rfl
          .exact mH hy
          .rfl
         refine⟨((l++[q.left]++q.right,some u),j+1),⟨⟨λh=>(by cases h),λt h=>by cases h;exact hfu⟩,hjx,by simp only[aI,aO,aT];omega⟩,aP,?_,?_⟩
         .simp only[go_sem,hw3.wrap (i:=j) (gQ hjx),dB,bY]
         .have e1:∀a:A,(List.map Tm.enc l++[a]).length+q.right.length=(l++[q.left]++q.right).length:=λa=>by simp only[aI,aK,aO,aT]
          rw[aAq,e1];exact fY (gX (And.intro hb9 hb11))
        .clear h;have hl2:l.length+(r.cond.length+(r.new.map λf=>f.cells.length).sum+R)<=4294967296:=by omega
         clear hl hj;refine⟨by decide,λy hy=>mH hy,cU rfl rfl (by rw[aK];exact eE λe=>by rw[hnil e];rfl) (λy hy=>mH hy) (by simp only[aK];omega) (λu hu=>?_)⟩;have hfu:=fB hu hfree;rw[eU hu];simp only[go_sem,hb9]
         refine Ex.loop (ι:=(List Tm × Option Nat) × Nat) (λc=>[(3,gv c.1.2 (c.1.1.map Tm.enc)),(51,.list none (x.rules.map Rul.enc)),(52,.int .i64 x.rules.length),(53,.int .i64 (i:Nat)),(78,.list none (r.new.map Fresh.enc)),(79,.int .i64 r.new.length),(80,.int .i64 (c.2:Nat))])
          (λc=>gs s c.1.2 c.1.1.length 39)
          (λc=>pV s c.1.1 c.1.2/\c.2<=r.new.length/\c.1.1.length+(((r.new.drop c.2).map λf=>f.cells.length).sum+R)<=4294967296) (λc=>r.new.length-c.2) ((l++r.cond,some u),0) ⟨⟨λh=>(by cases h),λt h=>by cases h;exact hfu⟩,aX _,by simp only[qA,aI];omega⟩ ?_ ?_ ?_
         ·(simp only[go_sem,hb9,dB,bY];first|done|exact rfl|exact⟨rfl,rfl⟩)
         .show St.ge _ ((s.setT u ((l++r.cond).length,39)));rw[aI];exact fY (gX hb9)
         .clear hnil hfree hl2 hu hfu;rintro⟨⟨l,tk⟩,j⟩ ⟨⟨hnil,hfree⟩,hj,hl⟩;simp only at hnil hfree hj hl;refine bC (V:=[0,1,2,3,5,7,9,11,13,15,16,17,18,38,39,40,41,51,52,53,54,58,59,60,61,78,79,80,81]) _ _ _ _ ?_;simp only[go_sem]
          (apply aQ<;>intro h)<;>simp only[go_sem,h]
          .have hjx:j<r.new.length:=gQ h;clear h;obtain⟨q,hq⟩:∃a,r.new[j]?=some a:=⟨_,aV hjx⟩
           have hsd:((r.new.drop j).map λf=>f.cells.length).sum=q.cells.length+((r.new.drop (j+1)).map λf=>f.cells.length).sum:=aAx (f:=λf:Fresh=>f.cells.length) hq;simp only[go_sem,hq,hjx];(refine mQ λb13 hb13=>?_);simp only[go_sem,hq,hjx,hb13];refine⟨by decide,λy hy=>mH hy,cU rfl rfl (by rw[aK];exact eE λe=>by rw[hnil e];rfl) (λy hy=>mH hy) (by simp only[aK];omega) (λu hu=>?_)⟩;have hfu:=fB hu hfree;rw[eU hu];simp only[go_sem,hq,hjx,hb13];refine⟨((l++q.cells,some u),j+1),⟨⟨λh=>(by cases h),λt h=>by cases h;exact hfu⟩,hjx,by simp only[aI];omega⟩,aP,?_,?_⟩
           .simp only[go_sem,hw4.wrap (i:=j) (gQ hjx),dB,bY]
           .show St.ge _ ((s.setT u ((l++q.cells).length,39)));rw[aI];exact fY (gX hb13)
          .clear h;refine⟨((l,tk),i+1),⟨⟨hnil,hfree⟩,hix,aP⟩,aP,?_,aG _⟩;simp only[go_sem,hiw]
      .clear h;exact DK.mk (hk l) (gE (aG _) hfree) (hZ _ _ (λe=>by rw[hnil e];rfl))
theorem iP(a b:List Tm):bG (a++b)=bG a++bG b:=by
 induction a with
 | nil=>rfl
 | cons x r h=>simp only[bT,bG,h,fE]
theorem aNt(t:Tm):1<=t.pre.length:=by rw[xH];simp
theorem nV(l:List Tm):l.length<=(bG l).length:=by
 induction l with
 | nil=>exact aX _
 | cons x r h=>have:=aNt x;simp only[bG,aI,aO];omega
theorem xJ{l:List Tm}{i:Nat}{x:Tm}(h:l[i]?=some x):bG (l.take (i+1))=bG (l.take i)++x.pre:=by
 rw[eO,h,iP];simp only[Option.toList,bG,dR]
theorem xG{l:List Tm}{i:Nat}{x:Tm}(h:l[i]?=some x):(bG (l.drop i)).length=x.pre.length+(bG (l.drop (i+1))).length:=by
 obtain⟨q,rfl⟩:=dH.1 h;rw[kO q];simp only[bG,aI]
def Keep{h:Type}(Ow:h->Nat->Prop)(s:St)(v:h)(s':St)(u:h):Prop:=∀q o,s.getO q=some o->¬ Ow v q->s'.getO q=some o/\¬ Ow u q
theorem Keep.refl{u:Type}{Ow:u->Nat->Prop}(s:St)(v:u):Keep Ow s v s v:=λq o h n=>⟨h,n⟩
theorem Keep.trans{B:Type}{Ow:B->Nat->Prop}{s s' u:St}{v z y:B}(h:Keep Ow s v s' z)(F:Keep Ow s' z u y):Keep Ow s v u y:=λq o x n=>by
 obtain⟨a,b⟩:=h q o x n;exact F q o a b
theorem Keep.ge{u:Type}{Ow:u->Nat->Prop}{s s':St}(h:s'.ge s)(v:u):Keep Ow s v s' v:=λq o x n=>⟨h.ob q o x,n⟩
structure WalkOk {σ τ:Type} (step:σ->Tm->σ) (I:Nat->σ->τ->St->Prop) (Ow:τ->Nat->Prop) (f:FuncId) (caps:List A):Prop where
 st:∀{n a v s s'},I n a v s->s'.ge s->I n a v s'
 fr:∀{n a v s q},I n a v s->s.getO q=none->¬ Ow v q
 go:∀(n:Nat) (a:σ) (v:τ) (x:Tm) (deep:Int) (s:St) (KV Kp:St->A->Prop),x.kids.length+x.rest.length<=4294967296->I (n+1) a v s->(∀s' v',I n (step a x) v' s'->Keep Ow s v s' v'->KV s' (.tuple []))->Den cx f ([]++[.agg x.cs,.int .i64 deep]++caps) KV Kp s
theorem aJG{σ τ:Type}{step:σ->Tm->σ}{I:Nat->σ->τ->St->Prop}{Ow:τ->Nat->Prop}{f:FuncId}{z:List A}(W:WalkOk step I Ow f z)(m:Nat) :
  ∀(t:Tm) (u:Int) (n:Nat) (a:σ) (v:τ) (s:St) (KV Kp:St->A->Prop),SizeOf.sizeOf t<m->t.pre.length<=4294967296->I (t.pre.length+n) a v s ->
   (∀s' v',I n (t.pre.foldl step a) v' s'->Keep Ow s v s' v'->KV s' (.tuple []))->Den cx 73 [.agg t.cs,.int .i64 u,.fn f [] z] KV Kp s:=by
 induction m with
 | zero=>intro t u n a v s KV Kp hm;omega
 | succ m ih =>
 intro t u n a v s KV Kp hm hb hI hk;have O:=xH t;generalize hL:t.kids++t.rest=L at O;have b8:t.pre.length=1+(bG L).length:=by rw[O,aO];omega
 have b7:=nV L
 have b5:∀x,x∈L->SizeOf.sizeOf x<SizeOf.sizeOf t:=λx y=>by
  rw[<-hL]at y;rcases dK.1 y with y|y
  .exact zU y
  .exact aB6 y
 (refine aM func73 [0,1,2,3,7,17,18,19,20] ?_;simp only[go_sem,ntmps73,f73]);(refine aL λp hp=>?_);simp only[go_sem,hp]
 have b0:I (((bG L).length+n)+1) a v (s.setO p (.cells 39 t.cs)):=by
  rw[show(bG L).length+n+1=t.pre.length+n by omega];exact W.st hI (bQ hp (aG s))
 refine W.go _ a v t u _ _ _ (by rw[<-aI,hL];omega) b0 (λs2 v2 b1 F=>?_);obtain⟨g2,o2⟩:=F p (.cells 39 t.cs) (by simp only[aH,cM];rfl) (W.fr hI hp);have F:Keep Ow s v s2 v2:=(Keep.ge (bQ hp (aG s)) v).trans F;simp only[Tm.cs]at g2;simp only[go_sem,g2];refine aEi [t.kids,t.rest] (by simp only[List.flatten_cons,List.flatten_nil,dR,hL];omega) _ _ _ ?_;simp only[List.flatten_cons,List.flatten_nil,dR,hL];simp only[go_sem,g2]
 refine Ex.loop (ι:=Nat × σ × τ × St) (λc=>[(1,.int .i64 u),(2,.fn f [] z),(3,.ptr p 0),(17,.list none (L.map Tm.enc)),(18,.int .i64 (L.length:Nat)),(19,.int .i64 (c.1:Nat))])
  (λc=>c.2.2.2) (λc=>c.1<=L.length/\c.2.1=(bG (L.take c.1)).foldl step (step a t)/\I ((bG (L.drop c.1)).length+n) c.2.1 c.2.2.1 c.2.2.2/\Keep Ow s v c.2.2.2 c.2.2.1) (λc=>L.length-c.1)
  (0,step a t,v2,s2) ⟨aX _,rfl,gQ b1,F⟩ ?_ (aG _) ?_
 .simp only[go_sem]
  try exact rfl
 .rintro⟨i,a3,v3,s3⟩ ⟨hi,G,B,M⟩;simp only at hi G B M;refine bC (V:=[0,1,2,3,7,17,18,19,20]) _ _ _ _ ?_;simp only[go_sem]
  (apply aQ<;>intro h)<;>simp only[go_sem,h]
  .have H:i<L.length:=gQ h;clear h;obtain⟨x,y⟩:∃a,L[i]?=some a:=⟨_,aV H⟩
   have b6:x∈L:=cR y;have bb:=b5 x b6;have U:=xG y;have Z:=xJ y
   have b9:x.pre.length<=(bG L).length:=by
    have e:bG L=bG (L.take i)++bG (L.drop i):=by rw[<-iP,List.take_append_drop]
    have:=nA List.length e;rw[aI,U]at this;omega
   simp only[go_sem,y,H];(refine aL λq hq=>?_);simp only[go_sem,y,H,hq];refine ih x _ ((bG (L.drop (i+1))).length+n) a3 v3 _ _ _ aB aB ?_ (λs4 v4 b2 b3=>?_)
   .rw[<-lT,<-U];exact W.st B (bQ hq (aG _))
   .simp only[go_sem];refine⟨(i+1,_,v4,s4),⟨H,by rw[Z,List.foldl_append,<-G],b2,M.trans ((Keep.ge (bQ hq (aG _)) v3).trans b3)⟩,aP,bM i aB,aG _⟩
  .have b4:i=L.length:=by have:¬ i<L.length:=gQ h;omega
   subst b4;rw[List.take_length]at G;rw[eC (bH _)]at B;refine aN (hk s3 v3 ?_ M);rw[O,List.foldl_cons,<-G];simpa [bG]using B
theorem uK{σ u:Type}{step:σ->Tm->σ}{I:Nat->σ->u->St->Prop}{Ow:u->Nat->Prop}{f:FuncId}{h:List A}(W:WalkOk step I Ow f h)
  (t:Tm)(q:Int)(n:Nat)(a:σ)(v:u)(s:St)(KV Kp:St->A->Prop)(B:t.pre.length<=4294967296)(z:I (t.pre.length+n) a v s)
  (F:∀s' y,I n (t.pre.foldl step a) y s'->Keep Ow s v s' y->KV s' (.tuple [])):Den cx 73 [.agg t.cs,.int .i64 q,.fn f [] h] KV Kp s :=
 aJG W _ t q n a v s KV Kp (lQ _) B z F
theorem gBm{f:FuncId}{c:Code}{args:List A}{KV Kp:St->A->Prop}{s:St}{fn:Func}(y:kA.P.funcs[f]?=some fn)(V:List Nat)
  (h:eN kA fn.ntmps V c (jG kA fn.results.toList (DK KV) (DK Kp)) (mK 0 args) s)
  (u:fn.body=some c:=by exact rfl)
  (q : (fn.name == "runtime.NumGoroutine") = false := by exact rfl) (z : args.length ≤ fn.ntmps := by exact gO rfl) : Den cx f args KV Kp s :=
 Den.drop (aNn (aCg (C:=kA) y u q z (bC _ _ _ _ h)))
inductive SL (s:St):A->List aC->Prop
 | nil:SL s .nils []
 | mg (b cap:Nat) (ws:List aC) (J:List A) (hb:s.getO b=some (.cells 9 (ws.map .str++J))) (hc:ws.length<=cap) (hJ:J.length=cap-ws.length) (h1:∀c,c∈J->c.one=true) (hn:ws≠[]):SL s (.mg b ws.length cap) ws
def aDB:A->Option Nat
 | .mg b _ _=>some b
 | _=>none
theorem SL.ge{s s':St}{v:A}{q:List aC}(h:SL s v q)(G:s'.ge s):SL s' v q:=by
 cases h with
 | nil=>exact .nil
 | mg b cap q J z B y u F=>exact .mg b cap q J (G.ob _ _ z) B y u F
theorem SL.one{s:St}{v:A}{q:List aC}(h:SL s v q):v.one=true:=by cases h<;>rfl
structure UsI (s0:St) (p:Nat) (n:Nat) (ws:List aC) (v:A) (s:St):Prop where
 ge:s.ge s0
 ob:s.getO p=some (.cells 22 [v])
 sl:SL s v ws
 nb:∀b,aDB v=some b->s0.getO b=none
 ln:ws.length+n<=4294967296
def zH(p:Nat)(v:A)(q:Nat):Prop:=q=p\/aDB v=some q
theorem UsI.st{s0:St}{p n:Nat}{u:List aC}{v:A}{s s':St}(h:UsI s0 p n u v s)(q:s'.ge s):UsI s0 p n u v s' :=
 ⟨q.trans h.ge,q.ob _ _ h.ob,h.sl.ge q,h.nb,h.ln⟩
theorem UsI.fr{s0:St}{p n:Nat}{z:List aC}{v:A}{s:St}{q:Nat}(h:UsI s0 p n z v s)(u:s.getO q=none):¬ zH p v q:=by
 rintro(rfl|y)
 .rw[h.ob]at u;cases u
 .have:=h.sl;cases this with
  | nil=>cases y
  | mg b cap z J B=>cases y;rw[B]at u;cases u
theorem UsI.less{s0:St}{p n m:Nat}{q:List aC}{v:A}{s:St}(h:UsI s0 p n q v s)(u:m<=n):UsI s0 p m q v s:=⟨h.ge,h.ob,h.sl,h.nb,by have:=h.ln;omega⟩
theorem UsI.app{s0:St}{p n:Nat}{H:List aC}{v:A}{s:St}{KV:St->A->Prop}{te:TI}(h:UsI s0 p (n+1) H v s)(b4:s0.getO p=none)(x:aC)(hs:te.sz=1)
  (hk:∀s' b m c,s'.getO p=some (.cells 22 [v])->UsI s0 p n (H++[x]) (.mg b m c) (s'.setO p (.cells 22 [.mg b m c]))->Keep (zH p) s v (s'.setO p (.cells 22 [.mg b m c])) (.mg b m c)->KV s' (.mg b m c)):oM kA s 9 te [.str x] KV v:=by
 obtain⟨G,hr,b5,b3,b6⟩:=h
 have key:∀(b n' u:Nat) (F:List A),(s.getO b=none\/aDB v=some b)->s0.getO b=none->b≠p->n'=(H++[x]).length->n'<=u->F.length=u-n'->(∀c,c∈F->c.one=true) ->
   KV (s.setO b (.cells 9 ((H++[x]).map .str++F))) (.mg b n' u):=by
  intro b n' u F z b0 O b2 U M L;subst b2;have g:∀v q,((s.setO b (.cells 9 ((H++[x]).map .str++F))).setO p (.cells 22 [v])).getO q=if p=q then some (.cells 22 [v]) else if b=q then some (.cells 9 ((H++[x]).map .str++F)) else s.getO q:=λv q=>by rw[aH,aH]
  refine hk _ _ _ _ (by rw[aH,aD O];exact hr) ⟨⟨λq o Z=>?_,λt m hm=>G.tk t m hm,λy hy=>G.ls y hy⟩,by rw[g,aE rfl],.mg b u _ F (by rw[g,aD (Ne.symm O),aE rfl]) U M L aW,λc hc=>by cases hc;exact b0,by rw[aI,List.length_singleton];omega⟩ (λq o Z hO=>?_)
  .rw[g,aD (λe=>by rw[<-e,b4]at Z;cases Z),aD (λe=>by rw[<-e,b0]at Z;cases Z)];exact G.ob q o Z
  .have n1:¬ p=q:=λe=>hO (.inl e.symm)
   have n2:¬ b=q:=λe=>by
    rcases z with z|z
    .rw[<-e,z]at Z;cases Z
    .exact hO (.inr (e▸z))
   refine⟨by rw[g,aD n1,aD n2];exact Z,?_⟩;rintro(h|h)
   .exact n1 h.symm
   .cases h;exact n2 rfl
 cases b5 with
 | nil =>
  refine⟨by simp,?_⟩;rw[aMp,hs];refine⟨by simp,λb cap J z hc hJ h1=>?_⟩;have e1:cX [A.str x]++J=(([]:List aC)++[x]).map .str++J:=by simp[cX,A.cells]
  rw[e1];refine key b 1 cap J (.inl z) ?_ (λe=>by rw[e,hr]at z;cases z) rfl (gQ hc) (gQ hJ) h1;cases h0:s0.getO b with
  | none=>rfl
  | some o=>rw[G.ob b o h0]at z;cases z
 | mg b cap _ J z hc hJ h1 hn =>
  show qO _ _ _ _ _ _ _ _ _ _ _;rw[z];have b1:(H.map A.str++J).length=cap * 1:=by rw[aI,aK,hJ];omega
  rw[hs];refine⟨⟨rfl,rfl,b1,hc,by simp only[List.length_singleton];omega,by simp⟩,λb' u F B U M L=>?_⟩
  have e1:(H.map A.str++J).take (H.length * 1)++(cX [A.str x]++F)=(H++[x]).map .str++F:=by
   rw[Nat.mul_one,List.take_left' aW];simp[cX,A.cells]
  rw[e1];have O:b≠p:=λe=>by rw[e,hr]at z;cases z
  rcases B with⟨rfl,_⟩|B
  .exact key _ _ u F (.inr rfl) (b3 _ rfl) O aW (gQ U) (gQ M) L
  .refine key b' _ u F (.inl B) ?_ (λe=>by rw[e,hr]at B;cases B) aW (gQ U) (gQ M) L;cases h0:s0.getO b' with
   | none=>rfl
   | some o=>rw[G.ob b' o h0]at B;cases B
def yI(h:List aC)(x:Tm):List aC:=if x.kind=6 then h++[x.text] else h
def tK(h:List aC)(x:Tm):List aC:=if x.kind=6/\x.text≠[95] then h++[x.text] else h
theorem UsI.keep{s0:St}{p n:Nat}{u:List aC}{v:A}{s s':St}(h:UsI s0 p (n+1) u v s)(q:s'.ge s):UsI s0 p n u v s'/\Keep (zH p) s v s' v:=⟨(h.st q).less (Nat.le_succ n),Keep.ge q v⟩
theorem aNw(s0:St)(p:Nat)(O:s0.getO p=none):WalkOk yI (UsI s0 p) (zH p) 108 [.ptr p 0] where
 st:=UsI.st
 fr:=UsI.fr
 go:=by
  intro n ws v x Z s KV Kp b0 H z;simp only[bO,bT];have g0:=H.ob;unfold yI at z;(refine gBm func108 [0,2,3,7] ?_;simp only[go_sem,ntmps108,f108]);(refine aL λq B=>?_);have h:(s.setO q (.cells 39 x.cs)).ge s:=bQ B (aG s);have G:=aS g0 B;simp only[go_sem,B,g0,G];by_cases F:x.kind=6
  .rw[aE F]at z;simp only[go_sem,B,cY F,g0,G];refine⟨by decide,λy hy=>by rw[cD.1 hy];rfl,?_⟩;have u:=H.st h;simp only[Tm.cs]at u;refine u.app O x.text rfl (λs2 b2 n2 c2 U L M=>?_);simp only[go_sem,U];exact aN (z _ _ L ((Keep.ge h v).trans (by simp only[Tm.cs];exact M)))
  .rw[aD F]at z;simp only[go_sem,B,cJ F,g0,G];obtain⟨k1,k2⟩:=H.keep h;simp only[Tm.cs]at k1 k2;exact aN (z _ _ k1 k2)
theorem aNf(s0:St)(p:Nat)(Z:s0.getO p=none):WalkOk tK (UsI s0 p) (zH p) 144 [.ptr p 0] where
 st:=UsI.st
 fr:=UsI.fr
 go:=by
  intro n ws v x b1 s KV Kp b3 M z;simp only[bO,bT];have g0:=M.ob;unfold tK at z;(refine gBm func144 [0,2,3,12] ?_;simp only[go_sem,ntmps144,f144]);(refine aL λq G=>?_);have u:(s.setO q (.cells 39 x.cs)).ge s:=bQ G (aG s);have L:=aS g0 G;obtain⟨k1,k2⟩:=M.keep u;simp only[Tm.cs]at k1 k2;by_cases B:x.kind=6
  .by_cases H:x.text=[95]
   .rw[aD (λh=>h.2 H)]at z;simp only[go_sem,G,cY B,cY H,g0,L];exact aN (z _ _ k1 k2)
   .rw[aE ⟨B,H⟩]at z;simp only[go_sem,G,cY B,cJ H,g0,L];refine⟨by decide,λy hy=>by rw[cD.1 hy];rfl,?_⟩;have F:=M.st u;simp only[Tm.cs]at F;refine F.app Z x.text rfl (λs2 b2 n2 c2 b0 O U=>?_);simp only[go_sem,b0];exact aN (z _ _ O ((Keep.ge u v).trans (by simp only[Tm.cs];exact U)))
  .rw[aD (λh=>B h.1)]at z;simp only[go_sem,G,cJ B,g0,L];exact aN (z _ _ k1 k2)
theorem aKg(l:List Tm):∀q,l.foldl yI q=q++(l.filter λt=>decide (t.kind=6)).map Tm.text:=by
 induction l with
 | nil=>intro q;simp
 | cons x r u =>
  intro q;rw[List.foldl_cons,u];unfold yI;by_cases h:x.kind=6<;>simp[h]
theorem aKq(l:List Tm)(y:aC):∀u,y∈l.foldl tK u↔y∈u\/(y∈(l.filter λt=>decide (t.kind=6)).map Tm.text/\y≠[95]):=by
 induction l with
 | nil=>intro u;simp
 | cons x r B =>
  intro u;rw[List.foldl_cons,B];unfold tK;by_cases h:x.kind=6
  .by_cases q:x.text=[95]
   .rw[aD (λh=>h.2 q)];simp only[h,q,List.filter_cons,xF,cM,bP,dD];constructor
    .rintro(a|⟨a,b⟩)
     .exact .inl a
     .exact .inr ⟨.inr a,b⟩
    .rintro(a|⟨a|a,b⟩)
     .exact .inl a
     .exact cV a b
     .exact .inr ⟨a,b⟩
   .rw[aE ⟨h,q⟩];simp only[h,List.filter_cons,xF,cM,bP,dD,dK,kQ,eT];constructor
    .rintro((a|a)|⟨a,b⟩)
     .exact .inl a
     .exact .inr ⟨.inl a,a▸q⟩
     .exact .inr ⟨.inr a,b⟩
    .rintro(a|⟨a|a,b⟩)
     .exact .inl (.inl a)
     .exact .inl (.inr a)
     .exact .inr ⟨a,b⟩
  .rw[aD (λz=>h z.1)];simp[h]
theorem aEL(l:List Tm)(U:(bG l).length<=4294967200)(s:St)(KV Kp:St->A->Prop)(Z:KV s (strs (iI l))):Den cx 64 [.list none (l.map Tm.enc)] KV Kp s:=by
 refine Den.drop (aGY ?_);(refine gBm func64 [0,2,3,5,6,7,8,9] ?_;simp only[go_sem,ntmps64,f64]);(refine aL λp hp=>?_);simp only[go_sem,hp];have b7:=nV l;have h0:UsI s p ((bG l).length) [] .nils (s.setO p (.cells 22 [.nils])):=⟨bQ hp (aG s),by rw[aH,aE rfl],.nil,λb h=>(by cases h),(by simp only[aT];omega)⟩
 refine Ex.loop (ι:=Nat × A × St) (λc=>[(3,.ptr p 0),(6,.list none (l.map Tm.enc)),(7,.int .i64 (l.length:Nat)),(8,.int .i64 (c.1:Nat))])
  (λc=>c.2.2) (λc=>c.1<=l.length/\UsI s p ((bG (l.drop c.1)).length) ((bG (l.take c.1)).foldl yI []) c.2.1 c.2.2) (λc=>l.length-c.1) (0,.nils,_) ⟨aX _,h0⟩ ?_ (aG _) ?_
 .simp only[go_sem]
  try exact rfl
 .rintro⟨i,v,s1⟩ ⟨hi,H⟩;simp only at hi H;refine bC (V:=[0,2,3,5,6,7,8,9]) _ _ _ _ ?_;simp only[go_sem]
  (apply aQ<;>intro h)<;>simp only[go_sem,h]
  .have B:i<l.length:=gQ h;clear h;obtain⟨x,hx⟩:∃a,l[i]?=some a:=⟨_,aV B⟩
   have L:=xG hx;have M:=xJ hx
   have b8:x.pre.length<=(bG l).length:=by
    have e:bG l=bG (l.take i)++bG (l.drop i):=by rw[<-iP,List.take_append_drop]
    have:=nA List.length e;rw[aI,L]at this;omega
   simp only[go_sem,hx,B];(refine aL λq G=>?_);simp only[go_sem,hx,B,G];refine rT (uK (aNw s p hp) x 1 _ _ v _ _ _ aB (by rw[<-L];exact H.st (bQ G (aG _))) (λs4 v4 b0 b6=>?_));simp only[go_sem];exact⟨(i+1,v4,s4),⟨B,by rw[M,List.foldl_append];exact b0⟩,aP,bM i aB,aG _⟩
  .have b3:i=l.length:=Nat.le_antisymm hi (Nat.le_of_not_lt (gQ h));subst b3;rw[List.take_length,eC (bH _),aKg,bO]at H;clear h hi;have hu:(List.filter (λt=>decide (t.kind=6)) (bG l)).map Tm.text=oK l:=rfl;rw[hu]at H;obtain⟨u,g0,F,b5,b4⟩:=H;unfold iI at Z;generalize oK l=ws at F Z b4;simp only[go_sem,g0];cases F with
   | nil =>
    refine rT (aCq ?_);simp only[go_sem,g0];exact aN (.inl (DK.mk Z u A.le.nil))
   | mg b cap ws J U hc hJ h1 hn =>
    have b2:¬ b=p:=λe=>by rw[e,g0]at U;cases U
    have b1:=b5 b rfl;refine rT (aFg U aB ?_);simp only[go_sem,g0,b2];have F:=(rD ws).length_eq;refine aN (.inr ⟨b,_,cap,9,(pP ws).map .str,J,rfl,by rw[aK,F],by rw[aH,aE rfl],λy hy=>?_,aF Z ⟨λq o G=>?_,λt m hm=>u.tk t m hm,λy hy=>u.ls y hy⟩⟩)
    .obtain⟨z,_,rfl⟩:=cC.1 hy;rfl
    .have O:q≠b:=λe=>by rw[e,b1]at G;cases G
     rw[zR,aD O,aH,aD (Ne.symm O)];exact u.ob q o G
theorem aKc(l:List Tm)(Z:(bG l).length<=4294967200)(s:St)(KV Kp:St->A->Prop)(hk:∀vs:List aC,(∀x,x∈vs↔x∈oK l/\x≠[95])->KV s (strs vs)):Den cx 104 [.list none (l.map Tm.enc)] KV Kp s:=by
 refine Den.drop (aGY ?_);(refine gBm func104 [0,2,3,5,6,7,8,9] ?_;simp only[go_sem,ntmps104,f104]);(refine aL λp hp=>?_);simp only[go_sem,hp];have b6:=nV l;have h0:UsI s p ((bG l).length) [] .nils (s.setO p (.cells 22 [.nils])):=⟨bQ hp (aG s),by rw[aH,aE rfl],.nil,λb h=>(by cases h),(by simp only[aT];omega)⟩
 refine Ex.loop (ι:=Nat × A × St) (λc=>[(3,.ptr p 0),(6,.list none (l.map Tm.enc)),(7,.int .i64 (l.length:Nat)),(8,.int .i64 (c.1:Nat))])
  (λc=>c.2.2) (λc=>c.1<=l.length/\UsI s p ((bG (l.drop c.1)).length) ((bG (l.take c.1)).foldl tK []) c.2.1 c.2.2) (λc=>l.length-c.1) (0,.nils,_) ⟨aX _,h0⟩ ?_ (aG _) ?_
 .simp only[go_sem]
  try exact rfl
 .rintro⟨i,v,s1⟩ ⟨hi,U⟩;simp only at hi U;refine bC (V:=[0,2,3,5,6,7,8,9]) _ _ _ _ ?_;simp only[go_sem]
  (apply aQ<;>intro h)<;>simp only[go_sem,h]
  .have F:i<l.length:=gQ h;clear h;obtain⟨x,hx⟩:∃a,l[i]?=some a:=⟨_,aV F⟩
   have L:=xG hx;have M:=xJ hx
   have b7:x.pre.length<=(bG l).length:=by
    have e:bG l=bG (l.take i)++bG (l.drop i):=by rw[<-iP,List.take_append_drop]
    have:=nA List.length e;rw[aI,L]at this;omega
   simp only[go_sem,hx,F];(refine aL λq G=>?_);simp only[go_sem,hx,F,G];refine rT (uK (aNf s p hp) x 1 _ _ v _ _ _ aB (by rw[<-L];exact U.st (bQ G (aG _))) (λs4 v4 b0 b5=>?_));simp only[go_sem];exact⟨(i+1,v4,s4),⟨F,by rw[M,List.foldl_append];exact b0⟩,aP,bM i aB,aG _⟩
  .have b2:i=l.length:=Nat.le_antisymm hi (Nat.le_of_not_lt (gQ h));subst b2;rw[List.take_length,eC (bH _)]at U;clear h hi
   have hu:∀x,x∈(bG l).foldl tK []↔x∈oK l/\x≠[95]:=λx=>by
    rw[aKq];simp only[kQ,false_or];rfl
   obtain⟨B,g0,u,b4,b3⟩:=U;generalize (bG l).foldl tK []=ws at u hu b3;simp only[go_sem,g0];cases u with
   | nil =>
    refine rT (aCq ?_);simp only[go_sem,g0];refine rT (aIG ?_);simp only[go_sem,g0];exact aN (.inl (DK.mk (hk [] hu) B A.le.nil))
   | mg b cap ws J Z hc hJ h1 hn =>
    have H:¬ b=p:=λe=>by rw[e,g0]at Z;cases Z
    have b1:=b4 b rfl;refine rT (aFg Z aB ?_);simp only[go_sem,g0,H];have u:=(rD ws).length_eq;rw[<-u];refine rT (aIH (by rw[aH,aE rfl]) (by rw[u];omega) ?_);simp only[go_sem,g0,H];refine aN (.inr ⟨b,_,cap,9,(Lib.compact (pP ws)).map .str,_,rfl,by rw[aK],by rw[aH,aE rfl,bY,fE],λy hy=>?_,aF (hk _ (λx=>by rw[aJ3,(rD ws).mem_iff];exact hu x)) ⟨λq o G=>?_,λt m hm=>B.tk t m hm,λy hy=>B.ls y hy⟩⟩)
    .obtain⟨z,_,rfl⟩:=cC.1 hy;rfl
    .have O:q≠b:=λe=>by rw[e,b1]at G;cases G
     simp only[zR,aD O,aH,aD (Ne.symm O)];exact B.ob q o G
section
def uD(l:List (aC × aC)):List (MK × A):=l.map λe=>(MK.str e.1,A.str e.2)
theorem aHc(x:aC):∀l:List (aC × aC),gB (.str x) (uD l)=(tJ l x).map .str
 | []=>rfl
 | (a,b)::r=>by
  have q:=aHc x r;simp only[uD,bP,gB,tJ]at q⊢;by_cases h:a=x
  .subst h;simp
  .rw[aD h,aD (λe=>h (by injection e with e;exact e.symm)),q]
theorem aHB(x y:aC):∀l:List (aC × aC),tJ l x=none->iB (.str x) (.str y) (uD l)=uD (l++[(x,y)])
 | [],_=>rfl
 | (a,b)::r,h=>by
  simp only[tJ]at h;by_cases e:a=x
  .rw[aE e]at h;cases h
  .rw[aD e]at h;have q:=aHB x y r h;simp only[uD,bP,bT,iB]at q⊢;rw[aD (λe'=>e (by injection e' with e';exact e'.symm)),q]
structure SoI (s0:St) (p m q:Nat) (n:Nat) (a:List (aC × aC) × aC) (v:Unit) (s:St):Prop where
 ge:s.ge s0
 op:s.getO p=some (.cells 157 [.mp m])
 om:s.getO m=some (.map 0 (uD a.1))
 oq:s.getO q=some (.cells 9 [.str a.2])
def SoO(p m q:Nat)(v:Unit)(x:Nat):Prop:=x=p\/x=m\/x=q
theorem SoI.st{s0:St}{p m q n:Nat}{a:List (aC × aC) × aC}{v:Unit}{s s':St}(h:SoI s0 p m q n a v s)(u:s'.ge s):SoI s0 p m q n a v s' :=
 ⟨u.trans h.ge,u.ob _ _ h.op,u.ob _ _ h.om,u.ob _ _ h.oq⟩
theorem SoI.fr{s0:St}{p m q n:Nat}{a:List (aC × aC) × aC}{v:Unit}{s:St}{x:Nat}(h:SoI s0 p m q n a v s)(u:s.getO x=none):¬ SoO p m q v x:=by
 rintro(rfl|rfl|rfl)
 .rw[h.op]at u;cases u
 .rw[h.om]at u;cases u
 .rw[h.oq]at u;cases u
theorem Keep.set{u:Type}{Ow:u->Nat->Prop}{s:St}{v:u}{b:Nat}(h:Ow v b)(o:Ob):Keep Ow s v (s.setO b o) v:=λq x y n=>⟨by rw[aH,aD (λe:b=q=>n (e▸h))];exact y,n⟩
theorem pE{s s0:St}{b:Nat}(h:s.ge s0)(z:s0.getO b=none)(o:Ob):(s.setO b o).ge s0:=⟨λq x u=>by rw[aH,aD (λe=>by rw[<-e,z]at u;cases u)];exact h.ob q x u,λt m B=>h.tk t m B,λy F=>h.ls y F⟩
theorem SoI.setM{s0:St}{p m q n:Nat}{a:List (aC × aC) × aC}{v:Unit}{s:St}(h:SoI s0 p m q n a v s)(u:s0.getO m=none)(z:p≠m)(y:m≠q)(B:List (aC × aC)):SoI s0 p m q n (B,a.2) v (s.setO m (.map 0 (uD B))) :=
 ⟨pE h.ge u _,by rw[aH,aD (Ne.symm z)];exact h.op,by rw[aH,aE rfl],by rw[aH,aD y];exact h.oq⟩
theorem SoI.setQ{s0:St}{p m q n:Nat}{a:List (aC × aC) × aC}{v:Unit}{s:St}(h:SoI s0 p m q n a v s)(z:s0.getO q=none)(y:p≠q)(u:m≠q)(B:aC):SoI s0 p m q n (a.1,B) v (s.setO q (.cells 9 [.str B])) :=
 ⟨pE h.ge z _,by rw[aH,aD (Ne.symm y)];exact h.op,by rw[aH,aD (Ne.symm u)];exact h.om,by rw[aH,aE rfl]⟩
theorem aLN(s0:St)(p m q:Nat)(bc:s0.getO p=none)(b4:s0.getO m=none)(b3:s0.getO q=none)(b2:p≠q)(b5:p≠m)(b0:m≠q):WalkOk aAV (SoI s0 p m q) (SoO p m q) 143 [.ptr p 0,.ptr q 0] where
 st:=SoI.st
 fr:=SoI.fr
 go := by
  intro n a v x b8 s KV Kp bd Z u;obtain⟨ws,tw⟩:=a;simp only[bO,bT];have gp:=Z.op;have M:=Z.om;have O:=Z.oq;simp only at M O;have B:=aHc x.text ws;unfold aAV at u;simp only at u;(refine aM func143 [0,2,3,4,6,7,15,39,43] ?_;simp only[go_sem,ntmps143,f143]);(refine aL λc F=>?_);have b1:(s.setO c (.cells 39 x.cs)).ge s:=bQ F (aG s);have e1:=aS gp F;have e2:=aS M F;have e3:=aS O F;have y:SoI s0 p m q n (ws,tw) v (s.setO c (.cells 39 x.cs)):=(⟨Z.ge,Z.op,Z.om,Z.oq⟩:SoI s0 p m q n (ws,tw) v s).st b1;have z:Keep (SoO p m q) s v (s.setO c (.cells 39 x.cs)) v:=Keep.ge b1 v;have b9:=y;have bb:=z;simp only[Tm.cs]at y z;by_cases H:x.kind=6
  .by_cases L:x.text=[95]
   .rw[aD (λh=>h.2 L)]at u;simp only[go_sem,F,cY H,cY L];exact aN (u _ _ y z)
   ·rw [aE ⟨H,L⟩] at u;cases has : tJ ws x.text with
    | none =>
     rw[has]at u B;simp only at u;simp only[Option.map_none]at B;have b6:=aHB x.text x.sort ws has;simp only[go_sem,F,cY H,cJ L,e1,e2,e3,gp,M,O,B,List.headD_cons,b6];exact aN (u _ _ (y.setM b4 b5 b0 _) (z.trans (Keep.set (.inr (.inl rfl)) _)))
    | some b7 =>
     rw[has]at u B;simp only at u;simp only[jM]at B;by_cases U:b7=x.sort
     .rw[aD (λh=>h.1 U)]at u;simp only[go_sem,F,cY H,cJ L,e1,e2,e3,gp,M,O,B,List.headD_cons,cY U];exact aN (u _ _ y z)
     .by_cases h9:tw=[]
      .rw[aE ⟨U,.inl h9⟩]at u;simp only[go_sem,F,cY H,cJ L,e1,e2,e3,gp,M,O,B,List.headD_cons,cJ U,cY h9];exact aN (u _ _ (y.setQ b3 b2 b0 _) (z.trans (Keep.set (.inr (.inr rfl)) _)))
      .cases G:Go.Op.bytesLess x.text tw with
       | true =>
        rw[aE ⟨U,.inr G⟩]at u;simp only[go_sem,F,cY H,cJ L,e1,e2,e3,gp,M,O,B,List.headD_cons,cJ U,cJ h9,G];exact aN (u _ _ (y.setQ b3 b2 b0 _) (z.trans (Keep.set (.inr (.inr rfl)) _)))
       | false =>
        rw[aD (λh=>h.2.elim h9 (λh=>by rw[G]at h;cases h))]at u;simp only[go_sem,F,cY H,cJ L,e1,e2,e3,gp,M,O,B,List.headD_cons,cJ U,cJ h9,G];exact aN (u _ _ y z)
  .rw[aD (λh=>H h.1)]at u;simp only[go_sem,F,cJ H];exact aN (u _ _ y z)
theorem aEh(l:List Tm)(hb:(bG l).length<=4294967200)(s:St)(KV Kp:St->A->Prop)(hk:∀s' m,s'.ge s->KV s' (.tuple [.mp m,.str (rR l)])):Den cx 101 [.list none (l.map Tm.enc)] KV Kp s:=by
 (refine aM func101 [0,2,3,5,7,8,9,10] ?_;simp only[go_sem,ntmps101,f101]);(refine aL λp hp=>?_);simp only[go_sem,hp];(refine aL λq hq=>?_);simp only[go_sem,hp,hq];(refine aL λm Z=>?_);simp only[go_sem,hp,hq,Z];have b5:=nV l;have z:p≠q:=λe=>by subst e;simp at hq
 have H:p≠m:=λe=>by subst e;simp at Z
 have M:q≠m:=λe=>by subst e;simp at Z
 have y:s.getO p=none:=hp;have B:s.getO q=none:=by simp only[hq]
 have F:s.getO m=none:=by simp only[Z]
 have h0:SoI s p m q ((bG l).length) ([],[]) () ((((s.setO p (.cells 157 [.nilm])).setO q (.cells 9 [.str []])).setO m (.map 0 [])).setO p (.cells 157 [.mp m])) :=
  ⟨pE (pE (pE (pE (aG s) y _) B _) F _) y _,by simp only[aH,cM],by simp only[aH,cM,aD H];rfl,by simp only[aH,cM,aD z,aD (Ne.symm M)]⟩
 refine Ex.loop (ι:=Nat × (List (aC × aC) × aC) × St) (λc=>[(2,.ptr p 0),(3,.ptr q 0),(7,.list none (l.map Tm.enc)),(8,.int .i64 (l.length:Nat)),(9,.int .i64 (c.1:Nat))])
  (λc=>c.2.2) (λc=>c.1<=l.length/\c.2.1=(bG (l.take c.1)).foldl aAV ([],[])/\SoI s p m q ((bG (l.drop c.1)).length) c.2.1 () c.2.2) (λc=>l.length-c.1) (0,([],[]),_) ⟨aX _,rfl,h0⟩ ?_ (aG _) ?_
 .simp only[go_sem]
  try exact rfl
 .rintro⟨i,a,s1⟩ ⟨hi,U,O⟩;simp only at hi O U;refine bC (V:=[0,2,3,5,7,8,9,10]) _ _ _ _ ?_;simp only[go_sem]
  (apply aQ<;>intro h)<;>simp only[go_sem,h]
  .have u:i<l.length:=gQ h;clear h;obtain⟨x,hx⟩:∃a,l[i]?=some a:=⟨_,aV u⟩
   have G:=xG hx;have L:=xJ hx
   have b6:x.pre.length<=(bG l).length:=by
    have e:bG l=bG (l.take i)++bG (l.drop i):=by rw[<-iP,List.take_append_drop]
    have:=nA List.length e;rw[aI,G]at this;omega
   simp only[go_sem,hx,u];(refine aL λc hc=>?_);simp only[go_sem,hx,u,hc];refine uK (aLN s p m q y F B z H (Ne.symm M)) x 1 _ _ () _ _ _ aB (by rw[<-G];exact O.st (bQ hc (aG _))) (λs4 v4 b1 b4=>?_);simp only[go_sem];exact⟨(i+1,_,s4),⟨u,by rw[L,List.foldl_append,<-U],b1⟩,aP,bM i aB,aG _⟩
  .have b3:i=l.length:=Nat.le_antisymm hi (Nat.le_of_not_lt (gQ h));subst b3;rw[List.take_length]at U;rw[eC (bH _)]at O;clear h hi;subst U;obtain⟨b2,gp,gm,gq⟩:=O;have b0:s1.getO q=some (.cells 9 [.str (rR l)]):=gq;(refine bB (OT.r 0 4) [(2,[1])] ?_;simp only[go_sem,gp,b0,z,Ne.symm z]);exact aN (hk _ m (pE (pE b2 y _) B _))
structure BxI (s0:St) (p:Nat) (ty:TypeId) {α:Type} (f:α->A) (n:Nat) (a:α) (v:Unit) (s:St):Prop where
 ge:s.ge s0
 ob:s.getO p=some (.cells ty [f a])
def jJ(p:Nat)(v:Unit)(x:Nat):Prop:=x=p
section
variable {s0:St} {p n:Nat} {ty:TypeId} {α:Type} {f:α->A} {a:α} {v:Unit} {s s':St}
theorem BxI.st(h:BxI s0 p ty f n a v s)(q:s'.ge s):BxI s0 p ty f n a v s':=⟨q.trans h.ge,q.ob _ _ h.ob⟩
theorem BxI.fr{x:Nat}(h:BxI s0 p ty f n a v s)(q:s.getO x=none):¬ jJ p v x:=by
 rintro rfl;rw[h.ob]at q;cases q
theorem BxI.set{m:Nat}(h:BxI s0 p ty f m a v s)(q:s0.getO p=none)(b:α):BxI s0 p ty f n b v (s.setO p (.cells ty [f b]))/\Keep (jJ p) s v (s.setO p (.cells ty [f b])) v :=
 ⟨⟨pE h.ge q _,by rw[aH,aE rfl]⟩,Keep.set (show jJ p v p from rfl) _⟩
theorem BxI.keep{m:Nat}(h:BxI s0 p ty f m a v s)(q:s'.ge s):BxI s0 p ty f n a v s'/\Keep (jJ p) s v s' v:=⟨⟨(h.st q).ge,(h.st q).ob⟩,Keep.ge q v⟩
end
theorem aLm(s0:St)(p q r:Nat)(sg:Sig)(H:s0.getO p=none)(b0:s0.getO q=some (.cells 78 [.ptr r 0]))(hB:BookAt s0 r sg) :
  WalkOk (λa x=>a||aC4 sg x) (BxI s0 p 4 A.bool) (jJ p) 99 [.ptr q 0,.ptr p 0] where
 st:=BxI.st
 fr:=BxI.fr
 go:=by
  intro n a v x b3 s KV Kp b5 Z h;simp only[bO,bT];have F:=Z.ob;have L:=Z.ge.ob _ _ b0;have b4:¬ p=q:=λe=>by rw[e,b0]at H;cases H
  have b1:=hB.ge Z.ge;unfold aC4 at h;(refine aM func99 [0,2,3,4,7,11] ?_;simp only[go_sem,ntmps99,f99]);(refine aL λc y=>?_);have G:(s.setO c (.cells 39 x.cs)).ge s:=bQ y (aG s);have O:=aS F y;have U:=aS L y;obtain⟨k1,k2⟩:=Z.keep G;by_cases h5:x.kind=5
  .have M:decide (x.kind=5)=true:=cY h5;rw[M,fX]at h;simp only[go_sem,y,M,O,U,F,L];refine aB1 (b1.ge (by simp only[Tm.cs]at G;exact G)) x.text ?_;simp only[go_sem,y,O,U,F,L];(refine aL λd hd=>?_);have B:((s.setO c (.cells 39 x.cs)).setO d (.cells 64 (kY sg x.text).1.cs)).ge s:=by simp only[Tm.cs,Opr.cs];exact bA
   have b2:BxI s0 p 4 A.bool (n+1) a v ((s.setO c (.cells 39 x.cs)).setO d (.cells 64 (kY sg x.text).1.cs)):=Z.st B;obtain⟨z,u⟩:=b2.set H (a||(kY sg x.text).2.1);have u:=(Keep.ge (Ow:=jJ p) B v).trans u;simp only[Tm.cs,Opr.cs]at z u;have e3:=aS F hd.2;simp only[go_sem,y,hd,O,U,e3,F,L];cases ha:a
   .rw[ha]at h z u;simp only[iM]at h z u;cases hf:(kY sg x.text).2.1<;>rw[hf]at h z u<;>simp only[go_sem,y,hd,O,U,e3,F,L,ha]
    .exact aN (h _ _ z u)
    .exact aN (h _ _ z u)
   .rw[ha]at h z u;simp only[lU]at h z u;simp only[go_sem,y,hd,O,U,e3,F,L,ha];exact aN (h _ _ z u)
  .have M:decide (x.kind=5)=false:=cJ h5;rw[M,gJ,mU]at h;simp only[go_sem,y,M];simp only[Tm.cs]at k1 k2;exact aN (h _ _ k1 k2)
theorem aNp{α:Type}(f:α->Bool)(l:List α):∀a:Bool,l.foldl (λa x=>a||f x) a=(a||l.any f):=by
 induction l with
 | nil=>intro a;simp
 | cons x r h=>intro a;rw[List.foldl_cons,h,List.any_cons,Bool.or_assoc]
theorem aMM{α:Type}(f:α->Bool)(l:List α):∀a:Bool,l.foldl (λa x=>a&&f x) a=(a&&l.all f):=by
 induction l with
 | nil=>intro a;simp
 | cons x r h=>intro a;rw[List.foldl_cons,h,List.all_cons,Bool.and_assoc]
theorem aEg{r:Nat}{sg:Sig}{s:St}{KV Kp:St->A->Prop}(h:BookAt s r sg)(t:Tm)(O:t.pre.length<=4294967296)(U:KV s (.bool (sZ sg t))):Den cx 58 [.ptr r 0,.agg t.cs] KV Kp s:=by
 (refine aM func58 [0,1,2,3,4,5] ?_;simp only[go_sem,ntmps58,f58]);(refine aL λq G=>?_);simp only[go_sem,G];(refine aL λc B=>?_);simp only[go_sem,G,B];(refine aL λp L=>?_);simp only[go_sem,G,B,L];have z:((s.setO q (.cells 78 [.ptr r 0])).setO c (.cells 39 t.cs)).ge s:=by simp only[Tm.cs];exact bA
 have u:((s.setO q (.cells 78 [.ptr r 0])).setO c (.cells 39 t.cs)).getO p=none:=by simp only[aH,L,cI]
 have F:¬ c=q:=λe=>by subst e;simp at B
 refine uK (aLm ((s.setO q (.cells 78 [.ptr r 0])).setO c (.cells 39 t.cs)) p q r sg u (by simp only[aH,cM,aD F]) (h.ge z)) t 1 0 false () _ _ _ O
  ⟨by simp only[Tm.cs];exact bQ (by simp only[Tm.cs]at u;exact u) (aG _),by rw[aH,aE rfl]⟩ (λZ v4 y M=>?_)
 have H:=y.ob;rw[aNp,iM]at H;simp only[go_sem,H];exact aF U (y.ge.trans z)
end
theorem aKv{l:List Tm}{i:Nat}{x:Tm}(h:l[i]?=some x):rZ (l.drop i)=x::rZ (l.drop (i+2)):=by
 obtain⟨u,rfl⟩:=dH.1 h;rw[kO u];by_cases q:i+1<l.length
 .rw[kO q];rfl
 .rw[eC aB,eC aB];rfl
theorem aN5(s0:St)(p:Nat)(b2:s0.getO p=none):WalkOk (λa x=>a&&vQ x) (BxI s0 p 4 A.bool) (jJ p) 102 [.ptr p 0] where
 st:=BxI.st
 fr:=BxI.fr
 go := by
  intro n a v x b8 s KV Kp bb hI G;simp only[bO,bT];have gp:=hI.ob;(refine aM func102 [0,2,3,5,6,21,26] ?_;simp only[go_sem,ntmps102,f102]);(refine aL λc U=>?_);have L:(s.setO c (.cells 39 x.cs)).ge s:=bQ U (aG s);have e1:=aS gp U;have b4:BxI s0 p 4 A.bool n a v (s.setO c (.cells 39 x.cs)):=(hI.keep L).1;by_cases h8:x.kind=8
  .have d6:decide (x.kind=6)=false:=by rw[h8];rfl
   have d8:decide (x.kind=8)=true:=cY h8;have b3:vQ x=(rZ x.kids).all tS:=by unfold vQ;rw[d6,d8];rfl
   rw[b3]at G;obtain⟨H,u⟩:=b4.set (n:=n) b2 a;have u:=(Keep.ge (Ow:=jJ p) L v).trans u
   have b9:s0.getO c=none:=by
    cases h0:s0.getO c with
    | none=>rfl
    | some o=>rw[hI.ge.ob c o h0]at U;cases U
   have b5:((s.setO c (.cells 39 x.cs)).setO p (.cells 4 [.bool a])).getO c=some (.cells 39 x.cs):=by rw[aH,aD (λe=>e1.1 e),aH,aE rfl]
   generalize hT:(a&&(rZ x.kids).all tS)=tgt at G;simp only[Tm.cs]at H u b5;cases a<;>simp only[go_sem,U,gp,e1,d6,d8]
   all_goals
    refine Ex.loop (ι:=Nat × Bool × St) (λd=>[(2,.ptr p 0),(3,.ptr c 0),(5,.int .i64 (d.1:Nat))]) (λd=>d.2.2)
     (λd=>d.1<=x.kids.length+1/\(d.2.1&&(rZ (x.kids.drop d.1)).all tS)=tgt/\BxI s0 p 4 A.bool n d.2.1 v d.2.2/\Keep (jJ p) s v d.2.2 v/\d.2.2.getO c=some (.cells 39 x.cs)) (λd=>x.kids.length+1-d.1) (0,_,_)
     ⟨aX _,hT,H,u,b5⟩ ?_ (aG _) ?_
    .simp only[go_sem]
     try rfl
    .rintro⟨i,b,s1⟩ ⟨hi,z,O,b1,F⟩;simp only at hi z O b1 F;have g1:=O.ob;simp only[Tm.cs]at F;refine bC (V:=[0,2,3,5,6,21,26]) _ _ _ _ ?_;simp only[go_sem,F]
     (apply aQ<;>intro h)<;>simp only[go_sem,h,F]
     .have b6:i<x.kids.length:=gQ h;clear h;obtain⟨y,hy⟩:∃a,x.kids[i]?=some a:=⟨_,aV b6⟩
      have b7:=aKv hy;rw[b7,List.all_cons,<-Bool.and_assoc]at z;simp only[go_sem,F,hy,b6];(refine aL λd Z=>?_);have f1:=aS g1 Z;have f2:=aS F Z
      have w2:IntKind.i64.wrap ((i:Int)+2)=((i+2:Nat):Int):=by
       rw[fF _ aB aB];omega
      have b0:(s1.setO d (.cells 39 y.cs)).ge s1:=bQ Z (aG _);obtain⟨M,B⟩:=((O.keep b0).1:BxI s0 p 4 A.bool n b v _).set (n:=n) b2 (b&&tS y);have B:=(b1.trans (Keep.ge (Ow:=jJ p) b0 v)).trans B
      have q:((s1.setO d (.cells 39 y.cs)).setO p (.cells 4 [.bool (b&&tS y)])).getO c=some (.cells 39 x.cs):=by
       rw[aH,aD (λe=>e1.1 e),aH,aD (λe=>f2.1 e.symm)];simp only[Tm.cs];exact F
      simp only[Tm.cs]at M B q;cases b
      .simp only[go_sem,Z,f1,f2,g1,F];simp only[gJ]at z M B q;exact⟨(i+2,false,_),⟨aP,by rw[<-z];rfl,M,B,q⟩,aP,w2,aG _⟩
      .simp only[go_sem,Z,f1,f2,g1,F];refine aJs y ?_;simp only[fX,tS]at z M B q;cases c1:aA4 y<;>rw[c1]at z M B q<;>simp only[go_sem,Z,f1,f2,g1,F]
       .cases c2:decide (y.kind=6)<;>rw[c2]at z M B q<;>simp only[go_sem,Z,f1,f2,g1,F,c2]
        .exact⟨(i+2,_,_),⟨aP,z,M,B,q⟩,aP,w2,aG _⟩
        .cases c3:decide (y.text=[95])<;>rw[c3]at z M B q<;>(try simp only[go_sem,Z,f1,f2,g1,F,c2,c3])
         .exact⟨(i+2,_,_),⟨aP,z,M,B,q⟩,aP,w2,aG _⟩
         .exact⟨(i+2,_,_),⟨aP,z,M,B,q⟩,aP,w2,aG _⟩
       .exact⟨(i+2,_,_),⟨aP,z,M,B,q⟩,aP,w2,aG _⟩
     .have L:x.kids.length<=i:=Nat.le_of_not_lt (gQ h);rw[eC L]at z;simp only[rZ,List.all_nil,jA]at z;subst z;exact aN (G _ _ O b1)
  .have d8:decide (x.kind=8)=false:=cJ h8;have b3:vQ x=!(decide (x.kind=6)&&decide (x.text=[36])):=by unfold vQ;rw[d8];simp
   rw[b3]at G;obtain⟨H,u⟩:=b4.set (n:=n) b2 (a&&!(decide (x.kind=6)&&decide (x.text=[36])));have u:=(Keep.ge (Ow:=jJ p) L v).trans u;simp only[Tm.cs]at H u;cases a
   .simp only[gJ]at G H u;simp only[go_sem,U,gp,e1,d8];exact aN (G _ _ H u)
   .simp only[fX]at G H u;cases c1:decide (x.kind=6)<;>rw[c1]at G H u<;>simp only[go_sem,U,gp,e1,d8,c1]
    .exact aN (G _ _ H u)
    .cases c2:decide (x.text=[36])<;>rw[c2]at G H u<;>simp only[go_sem,U,gp,e1,d8,c1,c2]
     .exact aN (G _ _ H u)
     .exact aN (G _ _ H u)
section
theorem fO{C:Cx}{f:FuncId}{l q:List A}{KV Kp:St->A->Prop}{s:St}(h:Den C f l KV Kp s)(e:q=l):Den C f q KV Kp s:=by rw[e];exact h
theorem vX(t:Tm):[t].map Tm.enc=[.agg t.cs]:=by simp only[List.map,cG]
theorem aEr{r:Nat}{sg:Sig}{s:St}{KV Kp:St->A->Prop}(h:BookAt s r sg)(t:Tm)(hw:TmW t)(hb:t.pre.length<=4294967200)(q:KV s (.bool (rS sg t))):Den cx 59 [.ptr r 0,.agg t.cs] KV Kp s:=by
 unfold rS at q;(refine aM func59 [0,1,3,4,6,7,21] ?_;simp only[go_sem,ntmps59,f59]);(refine aL λc y=>?_);have G:BookAt (s.setO c (.cells 39 t.cs)) r sg:=h.ge (bQ y (aG s));simp only[Tm.cs]at G;simp only[go_sem,y];refine aEE t hw _ _ _ ?_;cases M:(Tm.val 60 t 0).isSome<;>rw[M]at q<;>simp only[go_sem,y]
 .exact aF q bA
 refine aEH t G ?_;cases O:iA sg t<;>rw[O]at q<;>simp only[go_sem,y]
 .exact aF q bA
 refine aEg G t aB ?_;cases U:sZ sg t<;>rw[U]at q<;>simp only[go_sem,y]
 rotate_left
 .exact aF q bA
 refine fO (aEh [t] (by simp only[bG,dR];omega) _ _ _ (λs1 m z=>?_)) (by rw[vX];rfl);have B:s1.getO c=some (.cells 39 t.cs):=z.ob _ _ (by simp only[aH,cM];rfl);simp only[Tm.cs]at B;simp only[go_sem,B];(refine aL λp F=>?_);have Z:=aS B F;simp only[go_sem,B,F,Z];have H:s1.ge s:=z.trans bA;have h0:BxI s1 p 4 A.bool (t.pre.length+0) (decide (rR [t]=[])) () (s1.setO p (.cells 4 [.bool (decide (rR [t]=[]))])):=⟨bQ F (aG _),by rw[aH,aE rfl]⟩;refine uK (aN5 s1 p F) t 1 0 _ () _ _ _ aB h0 (λs4 v4 u b0=>?_);have L:=u.ob;rw[aMM]at L;simp only[go_sem,L];exact aF q (u.ge.trans H)
def CK(KV Kp:St->A->Prop)(s:St):Option Fault->Prop
 | none=>KV s (.tuple [])
 | some f=>Kp s (.iface 51 f.enc)
section
variable {s:St} {KV Kp:St->A->Prop}
theorem iG{a b:Option Fault}(h:CK KV Kp s (bU a b)){q u:St->A->Prop}{s':St}(y:CK KV Kp s b->q s' (.tuple []))(z:∀f:Fault,Kp s (.iface 51 f.enc)->u s' (.iface 51 f.enc)):CK q u s' a:=by
 cases a with
 | none=>exact y h
 | some f=>exact z f h
theorem aKx(h:Int)(n:aC)(l c:Int)(q:Kp s (.iface 51 (⟨h,n,l,c⟩:Fault).enc)):Den cx 41 [.int .i64 h,.str n,.int .i64 l,.int .i64 c] KV Kp s:=by
 (refine aM func41 [0,1,2,3] ?_;simp only[go_sem,ntmps41,f41]);exact aN q
theorem eD(h:Int)(n:aC)(l c:Int)(q:Kp s (.iface 51 (⟨h,n,l,c⟩:Fault).enc)):Den cx 19 [.agg [.int .i64 l,.int .i64 c],.int .i64 h,.str n] KV Kp s:=by
 (refine aM func19 [0,1,2,3] ?_;simp only[go_sem,ntmps19,f19]);(refine aL λp u=>?_);simp only[go_sem,u];refine aKx h n l c ?_;simp only[go_sem];exact aF q bA
def CkAt(s:St)(c:Nat)(d:Dfn):Prop:=∃r,s.getO c=some (.cells 81 (d.cs++[.ptr r 0]))/\BookAt s r d.sig
theorem CkAt.ge{s s':St}{c:Nat}{d:Dfn}(h:CkAt s c d)(q:s'.ge s):CkAt s' c d:=by
 obtain⟨r,u,y⟩:=h;exact⟨r,q.ob _ _ u,y.ge q⟩
variable {c:Nat} {d:Dfn}
theorem aJB(h:CkAt s c d)(t:Tm)(B:KV s (.str (qN d.sig t))):Den cx 106 [.ptr c 0,.agg t.cs] KV Kp s:=by
 obtain⟨r,q,z⟩:=h;(refine aM func106 [0,1,3,4] ?_;simp only[go_sem,ntmps106,f106]);(refine aL λp u=>?_);have y:=aS q u;simp only[go_sem,u,y,q];(refine bB (OT.r 0 7) [] ?_;simp only[go_sem,u,y,q]);refine aEc (z.ge (by exact bA)) t ?_;simp only[go_sem];exact aF B bA
theorem uJ(h:CkAt s c d)(n:aC)(l k:Int)(t:Tm)(S:aC)(B:CK KV Kp s (iS d.sig n l k t S)):Den cx 62 [.ptr c 0,.agg [.int .i64 l,.int .i64 k],.str n,.agg t.cs,.str S] KV Kp s:=by
 have H:=h;obtain⟨r,y,L⟩:=h;unfold iS dN at B;(refine aM func62 [0,1,2,3,4,6,8,19] ?_;simp only[go_sem,ntmps62,f62]);(refine aL λp u=>?_);simp only[go_sem,u];(refine aL λq z=>?_);have F:=aS y u;have G:=aS y z.2;simp only[go_sem,u,z,y,F,G];(refine bB (OT.l [0,1,2,3,4,5,7,6,8,9] .nil) [(6,[3])] ?_;simp only[go_sem,u,z,F,G,y]);refine aJB (H.ge (by exact bA)) t ?_;simp only[go_sem,u,z,F,G,y];refine aEC (L.ge (by exact bA)) _ S ?_;cases M:tN d.sig (qN d.sig t) S<;>rw[M]at B<;>simp only[go_sem,u,z]
 .refine eD 16 n l k ?_;simp only[go_sem];exact aF B bA
 .exact aF B bA
theorem xD(h:CkAt s c d)(n:aC)(l k:Int)(u:List Tm)(G:CK KV Kp s (lH d.sig n l k u)):Den cx 57 [.ptr c 0,.agg [.int .i64 l,.int .i64 k],.str n,.list none (u.map Tm.enc)] KV Kp s:=by
 refine fT λL=>?_
 have b0:Rlz (.list none (u.map Tm.enc)):=L _ aW;clear L;obtain⟨r,F,hB⟩:=h;unfold lH dN at G;(refine aM func57 [0,1,2,3,5,9,10,11,12,13,22] ?_;simp only[go_sem,ntmps57,f57]);(refine aL λp B=>?_);have O:=aS F B;simp only[go_sem,B,F,O]
 refine Ex.loop (ι:=Nat) (λi=>[(0,.ptr c 0),(2,.str n),(5,.ptr p 0),(10,.list none (u.map Tm.enc)),(11,.int .i64 (u.length:Nat)),(12,.int .i64 (i:Nat))])
  (λ_=>s.setO p (.cells 75 [.int .i64 l,.int .i64 k])) (λi=>i<=u.length/\(u.take i).all (iA d.sig)=true) (λi=>u.length-i) 0 ⟨aX _,rfl⟩ ?_ (aG _) ?_
 .simp only[go_sem]
  try exact rfl
 .rintro i ⟨hi,y⟩;refine bC (V:=[0,1,2,3,5,9,10,11,12,13,22]) _ _ _ _ ?_;simp only[go_sem,B]
  (apply aQ<;>intro h)<;>simp only[go_sem,h,B]
  .have z:i<u.length:=gQ h;clear h;obtain⟨x,M⟩:∃a,u[i]?=some a:=⟨_,aV z⟩
   have b1:x∈u:=cR M;have ht:(u.take (i+1)).all (iA d.sig)=iA d.sig x:=by rw[eO,M,List.all_append,y];simp
   simp only[go_sem,B,M,z];(refine aL λq H=>?_);have e2:=aS F H.2;simp only[go_sem,B,M,z,H,O,e2,F];(refine bB (OT.r 0 7) [] ?_;simp only[go_sem,B,H,O,e2,F]);refine aEH x (hB.ge (by exact bA)) ?_;cases U:iA d.sig x
   .simp only[go_sem,B,H]
    have e:u.all (iA d.sig)=false:=by
     rw[wZ];intro e;rw[fS]at e;rw[e x b1]at U;cases U
    rw[e]at G;refine eD 16 n l k ?_;simp only[go_sem];exact aF G bA
   .simp only[go_sem,B,H];exact⟨i+1,⟨z,by rw[ht,U]⟩,by omega,b0.wrap (i:=i) (gQ z),bL⟩
  .have Z:i=u.length:=Nat.le_antisymm hi (Nat.le_of_not_lt (gQ h));subst Z;rw[List.take_length]at y;rw[y]at G;exact aF G bA
theorem aJQ(l k:Int)(u:List Tm)(F:(bG u).length<=4294967200)(y:CK KV Kp s (rV l k u)):Den cx 60 [.agg [.int .i64 l,.int .i64 k],.list none (u.map Tm.enc)] KV Kp s:=by
 unfold rV dN at y;(refine aM func60 [0,1,2,5,12] ?_;simp only[go_sem,ntmps60,f60]);(refine aL λp G=>?_);simp only[go_sem,G];refine aEh u F _ _ _ (λs1 m q=>?_);have B:s1.getO p=some (.cells 75 [.int .i64 l,.int .i64 k]):=q.ob _ _ gH;have h:s1.ge s:=q.trans bA;cases z:decide (rR u=[])<;>rw[z]at y<;>simp only[go_sem,B,z]
 .refine eD 16 _ l k ?_;simp only[go_sem];exact aF y h
 .exact aF y h
end
end
section
theorem nU{α:Type}(f:α->Option Fault){l:List α}{i:Nat}{x:α}(h:l[i]?=some x):dI f (l.drop i)=bU (f x) (dI f (l.drop (i+1))):=by
 obtain⟨q,rfl⟩:=dH.1 h;rw[kO q];rfl
section
variable {s:St} {KV Kp:St->A->Prop} {c:Nat} {d:Dfn}
theorem aI2(l k:Int)(q B:List Tm)(H:(bG q).length<=4294967200)(M:(bG B).length<=4294967200)(u:CK KV Kp s (rU l k q B)) :
  Den cx 61 [.agg [.int .i64 l,.int .i64 k],.list none (q.map Tm.enc),.list none (B.map Tm.enc)] KV Kp s:=by
 unfold rU at u
 have Z:(iI B).length<=(bG B).length:=by
  unfold iI oK;rw[(rD _).length_eq,aK];exact List.length_filter_le _ _
 (refine aM func61 [0,1,2,3,6,8,12,13,14,15,29] ?_;simp only[go_sem,ntmps61,f61]);(refine aL λp y=>?_);simp only[go_sem,y];refine aKc q H _ _ _ (λvs b0=>?_);simp only[go_sem,y,strs];refine aEL B M _ _ _ ?_;simp only[go_sem,y,strs];generalize iI B=L at u Z⊢
 refine Ex.loop (ι:=Nat) (λi=>[(3,.ptr p 0),(6,.list none (vs.map .str)),(12,.list none (L.map .str)),(13,.int .i64 (L.length:Nat)),(14,.int .i64 (i:Nat))])
  (λ_=>s.setO p (.cells 75 [.int .i64 l,.int .i64 k])) (λi=>i<=L.length/\CK KV Kp s (dI (λs=>dN (decide (s=[95])||(decide (s=[36])||!decide (s∈oK q))) ⟨17,s,l,k⟩) (L.drop i))) (λi=>L.length-i) 0 ⟨aX _,u⟩ ?_ (aG _) ?_
 .simp only[go_sem]
  try exact rfl
 .clear u;rintro i ⟨hi,u⟩;refine bC (V:=[0,1,2,3,6,8,12,13,14,15,29]) _ _ _ _ ?_;simp only[go_sem,y]
  (apply aQ<;>intro h)<;>simp only[go_sem,h,y]
  .have z:i<L.length:=gQ h;clear h;obtain⟨x,hx⟩:∃a,L[i]?=some a:=⟨_,aV z⟩
   rw[nU _ hx]at u;simp only[go_sem,y,hx,z];cases G:decide (x=[95])<;>rw[G]at u<;>simp only[go_sem,y,G]
   rotate_left
   ·replace u:CK KV Kp s (some (⟨17,x,l,k⟩:Fault)):=u
    refine eD 17 x l k ?_;simp only[go_sem];exact aF u bA
   cases c2:decide (x=[36])<;>rw[c2]at u<;>simp only[go_sem,y,G,c2]
   rotate_left
   ·replace u:CK KV Kp s (some (⟨17,x,l,k⟩:Fault)):=u
    refine eD 17 x l k ?_;simp only[go_sem];exact aF u bA
   have U:x≠[95]:=of_decide_eq_false G;have F:decide (x∈vs)=decide (x∈oK q):=by rw[cT,b0];exact⟨λh=>h.1,λh=>⟨h,U⟩⟩
   refine kR _ _ _ _ _ ?_;rw[F];cases c3:decide (x∈oK q)<;>rw[c3]at u<;>simp only[go_sem,y]
   ·replace u:CK KV Kp s (some (⟨17,x,l,k⟩:Fault)):=u
    refine eD 17 x l k ?_;simp only[go_sem];exact aF u bA
   .exact⟨i+1,⟨z,u⟩,by omega,bM i aB,bL⟩
  .have O:i=L.length:=Nat.le_antisymm hi (Nat.le_of_not_lt (gQ h));subst O;rw[eC (bH _)]at u;exact aF u bA
theorem aFC{α:Type}{q:α->Bool}{l:List α}{i:Nat}{x:α}(h:l[i]?=some x)(u:(l.take i).find? q=none):(l.take (i+1)).find? q=if q x=true then some x else none:=by
 rw[eO,h,List.find?_append,u];cases y:q x<;>simp[y]
theorem aEj{α:Type}{q:α->Bool}{l:List α}{i:Nat}{x:α}(h:(l.take i).find? q=some x):l.find? q=some x:=by
 rw[<-List.take_append_drop i l,List.find?_append,h];rfl
theorem aCi(h:CkAt s c d)(ho:d.once.length<=4294967000)(hm:d.many.length<=4294967000)(n:aC)(F:KV s (.tuple [.str (gL d n).1,.bool (gL d n).2.1,.bool (gL d n).2.2])):Den cx 65 [.ptr c 0,.str n] KV Kp s:=by
 obtain⟨r,O,Z⟩:=h;unfold gL at F;(refine aM func65 [0,1,4,5,6,8,10,15,16,17,18,24,32,33,34,35,41] ?_;simp only[go_sem,ntmps65,f65]);simp only[go_sem,O]
 refine Ex.loop (ι:=Nat) (λi=>[(0,.ptr c 0),(1,.str n),(15,.list none (d.once.map Cel.enc)),(16,.int .i64 (d.once.length:Nat)),(17,.int .i64 (i:Nat))])
  (λ_=>s) (λi=>i<=d.once.length/\(d.once.take i).find? (λx=>decide (x.name=n))=none) (λi=>d.once.length-i) 0 ⟨aX _,rfl⟩ ?_ (aG _) ?_
 .simp only[go_sem]
  try exact rfl
 .rintro i ⟨M,u⟩;refine bC (V:=[0,1,4,5,6,8,10,15,16,17,18,24,32,33,34,35,41]) _ _ _ _ ?_;simp only[go_sem]
  (apply aQ<;>intro h)<;>simp only[go_sem,h]
  .have z:i<d.once.length:=gQ h;clear h;obtain⟨x,L⟩:∃a,d.once[i]?=some a:=⟨_,aV z⟩
   have y:=aFC L u;simp only[go_sem,L,z];(refine aL λq G=>?_);have U:=aS O G;simp only[go_sem,L,z,G];cases B:decide (x.name=n)
   .rw[B,aD fK]at y;simp only[go_sem,G,B];exact⟨i+1,⟨z,y⟩,by omega,bM i aB,bL⟩
   .rw[B,aE rfl]at y;rw[aEj y]at F;simp only[go_sem,G,B];exact aF F bA
  .have H:i=d.once.length:=Nat.le_antisymm M (Nat.le_of_not_lt (gQ h));subst H;clear h M;rw[List.take_length]at u;rw[u]at F;simp only at F;simp only[go_sem,O]
   refine Ex.loop (ι:=Nat) (λi=>[(0,.ptr c 0),(1,.str n),(32,.list none (d.many.map Cel.enc)),(33,.int .i64 (d.many.length:Nat)),(34,.int .i64 (i:Nat))])
    (λ_=>s) (λi=>i<=d.many.length/\(d.many.take i).find? (λx=>decide (x.name=n))=none) (λi=>d.many.length-i) 0 ⟨aX _,rfl⟩ ?_ (aG _) ?_
   .simp only[go_sem]
    try exact rfl
   .rintro i ⟨M,u⟩;refine bC (V:=[0,1,4,5,6,8,10,15,16,17,18,24,32,33,34,35,41]) _ _ _ _ ?_;simp only[go_sem]
    (apply aQ<;>intro h)<;>simp only[go_sem,h]
    .have z:i<d.many.length:=gQ h;clear h;obtain⟨x,L⟩:∃a,d.many[i]?=some a:=⟨_,aV z⟩
     have y:=aFC L u;simp only[go_sem,L,z];(refine aL λq G=>?_);have U:=aS O G;simp only[go_sem,L,z,G];cases B:decide (x.name=n)
     .rw[B,aD fK]at y;simp only[go_sem,G,B];exact⟨i+1,⟨z,y⟩,by omega,bM i aB,bL⟩
     .rw[B,aE rfl]at y;rw[aEj y]at F;simp only[go_sem,G,B];exact aF F bA
    .have H:i=d.many.length:=Nat.le_antisymm M (Nat.le_of_not_lt (gQ h));subst H;clear h M;rw[List.take_length]at u;rw[u]at F;exact aN F
end
end
def lM(e:Eqn):List Tm:=[e.left,e.right]++e.cond
def lL(p:Part):List Tm:=[p.left]++p.right
def jX(r:Rul):List Tm:=r.parts.flatMap lL++(r.cond++r.new.flatMap Fresh.cells)
def kL(c:Cel):List Tm:=[c.init]
def qT(d:Dfn):List Tm:=d.eqs.flatMap lM++((d.once++d.many).flatMap kL++d.rules.flatMap jX)
theorem yG(d:Dfn):qT d=fQ d:=by
 have e:∀l:List Cel,l.flatMap kL=l.map Cel.init:=λl=>by induction l with|nil=>rfl|cons x r h=>simp only[kP,h,bP];rfl
 simp only[qT,fQ,e];rfl
theorem xV{α q:Type}(f:α->List q){l:List α}{i:Nat}{x:α}(h:l[i]?=some x):(l.take (i+1)).flatMap f=(l.take i).flatMap f++f x:=by
 rw[eO,h,List.flatMap_append];simp
theorem yP{α q:Type}(f:α->List q)(l:List α)(i:Nat):((l.take i).flatMap f).length<=(l.flatMap f).length:=by
 have h:(l.flatMap f).length=((l.take i).flatMap f).length+((l.drop i).flatMap f).length:=by rw[<-aI,<-List.flatMap_append,List.take_append_drop]
 omega
theorem aGn(e:Eqn):(lM e).length=2+e.cond.length:=by simp only[lM,aI,aO,aT]
theorem aGx(p:Part):(lL p).length=1+p.right.length:=by simp only[lL,aI,aO,aT]
theorem pD(l:List Tm):∀y,y∈l.map Tm.enc->y.cells.length=6:=λy h=>mH h
theorem zK{tk:Option Nat}{l:List Tm}{s:St}(h:tk=none->l=[]):gY (gs s tk l.length 39) tk (l.map Tm.enc).length 39:=by
 rw[aK];exact eE λe=>by rw[h e];rfl
theorem aEU(x:Dfn)(hB:(qT x).length<=4294967296)(hM:x.once.length+x.many.length<=4294967000)(s:St)(KV Kp:St->A->Prop)(hk:KV s (.list none ((qT x).map Tm.enc))):Den cx 31 [.agg x.cs] KV Kp s:=by
 refine fT λbn=>?_
 have bp:=bn _ (dZ ..);have bt:Rlz (.list none (x.eqs.map Eqn.enc)):=bp.cell (by simp[Dfn.cs]);have bm:Rlz (.list none (x.rules.map Rul.enc)):=bp.cell (by simp[Dfn.cs]);clear bn
 have bc:(x.eqs.flatMap lM).length+(((x.once++x.many).flatMap kL).length+(x.rules.flatMap jX).length)<=4294967296:=by
  unfold qT at hB;simpa only[aI]using hB
 simp only[go_sem];(refine aM func31 [0,1,2,3,5,7,9,11,13,15,16,17,18,37,38,39,40,50,51,52,53,57,58,59,60,77,78,79,80] ?_;simp only[go_sem,ntmps31,f31]);(refine aL λp hp=>?_);simp only[go_sem,hp]
 refine Ex.loop (ι:=Nat × Option Nat) (λc=>[(1,.ptr p 0),(3,gv c.2 (((x.eqs.take c.1).flatMap lM).map Tm.enc)),(15,.list none (x.eqs.map Eqn.enc)),(16,.int .i64 x.eqs.length),(17,.int .i64 (c.1:Nat))])
  (λc=>gs (s.setO p (.cells 31 x.cs)) c.2 ((x.eqs.take c.1).flatMap lM).length 39)
  (λc=>pV s ((x.eqs.take c.1).flatMap lM) c.2/\c.1<=x.eqs.length) (λc=>x.eqs.length-c.1) (0,none) ⟨⟨λ_=>rfl,λt e=>(by cases e)⟩,aX _⟩ ?_ (by exact aG _) ?_
 ·(simp only[go_sem,hp];try exact⟨rfl,rfl⟩)
 ·rintro ⟨i,tk⟩ ⟨⟨z,B⟩,hi⟩;simp only at z B hi;refine bC (V := [0,1,2,3,5,7,9,11,13,15,16,17,18,37,38,39,40,50,51,52,53,57,58,59,60,77,78,79,80]) _ _ _ _ ?_;simp only [go_sem,hp]
  (apply aQ<;>intro h)<;>simp only[go_sem,h,hp]
  .have F:i<x.eqs.length:=gQ h;clear h;obtain⟨e,he⟩:∃a,x.eqs[i]?=some a:=⟨_,aV F⟩
   have G:=xV lM he;have O:=yP lM x.eqs (i+1);rw[G,aI,aGn]at O;simp only[go_sem,hp,he,F];(refine mQ λb5 bb=>?_);simp only[go_sem,hp,he,F,bb];(refine bB (OT.l [0,1,2,3,4,7,8,5,6,9,10] .nil) [(5,[8]),(6,[8])] ?_;simp only[go_sem,hp,he,F,bb]);refine⟨by decide,λy Z=>?_,cU rfl rfl (zK z) (pD _) (by simp only[aK,aO,aT];omega) (λu hu=>?_)⟩
   .simp only[dD,List.mem_nil_iff,eT]at Z;rcases Z with rfl|rfl<;>rfl
   have U:=fB hu B;rw[eU hu];simp only[go_sem,hp,he,F,bb];refine⟨by decide,pD _,by simp only[aI,aK,aO,aT],λy Z=>?_,by simp only[aI,aK,aO,aT];omega,?_⟩
   .simp only[dK,dD,List.mem_nil_iff,eT]at Z;rcases Z with Z|rfl|rfl
    .exact mH Z
    .rfl
    .rfl
   refine⟨(i+1,some u),⟨⟨λh=>(by cases h),λt h=>by cases h;exact U⟩,F⟩,aP,?_,?_⟩
   .simp only[go_sem,bt.wrap (i:=i) (gQ F),dB,G,bY,lM,fE]
   .have e1:∀(a b:A),(List.map Tm.enc ((x.eqs.take i).flatMap lM)++[a,b]).length+e.cond.length=((x.eqs.take (i+1)).flatMap lM).length:=λa b=>by simp only[G,aI,aGn,aK,aO,aT];omega
    rw[aAq,e1];exact fY (gX (And.intro hp bb))
  .have b3:i=x.eqs.length:=by have:¬ i<x.eqs.length:=gQ h;omega
   subst b3;rw[List.take_length]at z;rw[List.take_length];clear h hi;obtain⟨L0,bf⟩:∃L,L=x.eqs.flatMap lM:=⟨_,rfl⟩
   rw[<-bf]at z bc⊢;refine aB4 [x.once,x.many] (by simp only[List.flatten_cons,List.flatten_nil,dR,aI];omega) _ _ _ ?_;rw[show [x.once,x.many].flatten=x.once++x.many by simp];simp only[go_sem];obtain⟨CL,b4⟩:∃L,L=x.once++x.many:=⟨_,rfl⟩
   have bk:CL.length<=4294967000:=by rw[b4,aI];exact hM
   rw[<-b4]at bc⊢
   refine Ex.loop (ι:=Nat × Option Nat) (λc=>[(1,.ptr p 0),(3,gv c.2 ((L0++(CL.take c.1).flatMap kL).map Tm.enc)),(37,.list none (CL.map Cel.enc)),(38,.int .i64 (CL.length:Nat)),(39,.int .i64 (c.1:Nat))])
    (λc=>gs (s.setO p (.cells 31 x.cs)) c.2 (L0++(CL.take c.1).flatMap kL).length 39)
    (λc=>pV s (L0++(CL.take c.1).flatMap kL) c.2/\c.1<=CL.length) (λc=>CL.length-c.1) (0,tk) ⟨⟨gQ z,B⟩,aX _⟩ ?_ (by simp only[List.take_zero,List.flatMap_nil,dR];exact aG _) ?_
   .simp only[go_sem];simp
   .clear z B tk;rintro⟨i,tk⟩ ⟨⟨z,B⟩,hi⟩;simp only at z B hi;refine bC (V:=[0,1,2,3,5,7,9,11,13,15,16,17,18,37,38,39,40,50,51,52,53,57,58,59,60,77,78,79,80]) _ _ _ _ ?_;simp only[go_sem]
    (apply aQ<;>intro h)<;>simp only[go_sem,h]
    .have F:i<CL.length:=gQ h;clear h;obtain⟨o,ho⟩:∃a,CL[i]?=some a:=⟨_,aV F⟩
     have G:=xV kL ho;have O:=yP kL CL (i+1);rw[G,aI]at O;simp only[kL,aO,aT]at O;simp only[go_sem,hp,ho,F];(refine mQ λb7 bh=>?_);simp only[go_sem,hp,ho,F,bh];refine⟨by decide,λy Z=>by simp only[cD]at Z;subst Z;rfl,cU rfl rfl (zK z) (pD _) (by simp only[aK,aI,aO,aT];omega) (λu hu=>?_)⟩;have U:=fB hu B;rw[eU hu];simp only[go_sem,hp,ho,F,bh];refine⟨(i+1,some u),⟨⟨λh=>(by cases h),λt h=>by cases h;exact U⟩,F⟩,aP,?_,?_⟩
     .simp only[go_sem,bM i aB,dB,G,bY,kL,fE]
     .rw[show(L0++(CL.take i).flatMap kL).length+1=(L0++(CL.take (i+1)).flatMap kL).length by rw[G];simp only[aK,aI,kL,aO,aT];omega];exact fY (gX (And.intro hp bh))
    .have b3:i=CL.length:=by have:¬ i<CL.length:=gQ h;omega
     subst b3;clear h hi;rw[List.take_length]at z;rw[List.take_length];obtain⟨L1,b6⟩:∃L,L=L0++CL.flatMap kL:=⟨_,rfl⟩
     have c2:L1.length+(x.rules.flatMap jX).length<=4294967296:=by rw[b6,aI];omega
     rw[<-b6]at z⊢;have bl:qT x=L1++x.rules.flatMap jX:=by rw[qT,<-bf,<-b4,b6,fE]
     rw[bl]at hk;clear bc hB;clear b4 bk b6 bf L0
     refine Ex.loop (ι:=Nat × Option Nat) (λc=>[(3,gv c.2 ((L1++(x.rules.take c.1).flatMap jX).map Tm.enc)),(50,.list none (x.rules.map Rul.enc)),(51,.int .i64 x.rules.length),(52,.int .i64 (c.1:Nat))])
      (λc=>gs s c.2 (L1++(x.rules.take c.1).flatMap jX).length 39)
      (λc=>pV s (L1++(x.rules.take c.1).flatMap jX) c.2/\c.1<=x.rules.length) (λc=>x.rules.length-c.1) (0,tk) ⟨⟨gQ z,B⟩,aX _⟩ ?_ ?_ ?_
     .simp only[go_sem,hp];simp
     .simp only[List.take_zero,List.flatMap_nil,dR];exact nD (aAj (tD hp (vA _ _ _)))
     .clear z B tk;rintro⟨i,tk⟩ ⟨⟨z,B⟩,hi⟩;simp only at z B hi;refine bC (V:=[0,1,2,3,5,7,9,11,13,15,16,17,18,37,38,39,40,50,51,52,53,57,58,59,60,77,78,79,80]) _ _ _ _ ?_;simp only[go_sem]
      (apply aQ<;>intro h)<;>simp only[go_sem,h]
      .have F:i<x.rules.length:=gQ h;clear h;obtain⟨r,hr⟩:∃a,x.rules[i]?=some a:=⟨_,aV F⟩
       have G:=xV jX hr;have O:=yP jX x.rules (i+1);rw[G,aI]at O;simp only[go_sem,hr,F];(refine mQ λb9 M=>?_);simp only[go_sem,hr,F,M];have bq:Rlz (.agg r.cs):=bm.agg_elem (cC.2 ⟨r,cR hr,rfl⟩);have bv:Rlz (.list none (r.parts.map Part.enc)):=bq.cell (by simp[Rul.cs]);have bw:Rlz (.list none (r.new.map Fresh.enc)):=bq.cell (by simp[Rul.cs]);have br:IntKind.i64.wrap ((i:Int)+1)=((i+1:Nat):Int):=bm.wrap (i:=i) (gQ F);obtain⟨L2,bg⟩:∃L,L=L1++(x.rules.take i).flatMap jX:=⟨_,rfl⟩
       have b1:L1++(x.rules.take (i+1)).flatMap jX=L2++jX r:=by rw[G,bg,fE]
       have bd:L2.length+(jX r).length<=4294967296:=by rw[bg,aI];omega
       rw[<-bg]at z⊢;clear O G
       refine Ex.loop (ι:=Nat × Option Nat) (λc=>[(3,gv c.2 ((L2++(r.parts.take c.1).flatMap lL).map Tm.enc)),(9,.ptr b9 0),(50,.list none (x.rules.map Rul.enc)),(51,.int .i64 x.rules.length),(52,.int .i64 (i:Nat)),(57,.list none (r.parts.map Part.enc)),(58,.int .i64 r.parts.length),(59,.int .i64 (c.1:Nat))])
        (λc=>gs (s.setO b9 (.cells 46 r.cs)) c.2 (L2++(r.parts.take c.1).flatMap lL).length 39)
        (λc=>pV s (L2++(r.parts.take c.1).flatMap lL) c.2/\c.1<=r.parts.length) (λc=>r.parts.length-c.1) (0,tk) ⟨⟨gQ z,B⟩,aX _⟩ ?_ (by simp only[List.take_zero,List.flatMap_nil,dR];exact aG _) ?_
       .simp only[go_sem,M];simp
       .clear z B tk;rintro⟨j,tk⟩ ⟨⟨z,B⟩,hj⟩;simp only at z B hj;refine bC (V:=[0,1,2,3,5,7,9,11,13,15,16,17,18,37,38,39,40,50,51,52,53,57,58,59,60,77,78,79,80]) _ _ _ _ ?_;simp only[go_sem,M]
        (apply aQ<;>intro h)<;>simp only[go_sem,h,M]
        .have H:j<r.parts.length:=gQ h;clear h;obtain⟨q,hq⟩:∃a,r.parts[j]?=some a:=⟨_,aV H⟩
         have G:=xV lL hq;have O:=yP lL r.parts (j+1);rw[G,aI,aGx]at O;rw[jX,aI]at bd;simp only[go_sem,M,hq,H];(refine mQ λc0 b0=>?_);simp only[go_sem,M,hq,H,b0];(refine bB (OT.l [0,1,2,3,5,6,4,7,8] .nil) [(4,[6])] ?_;simp only[go_sem,M,hq,H,b0]);refine⟨by decide,λy Z=>by simp only[cD]at Z;subst Z;rfl,cU rfl rfl (zK z) (pD _) (by simp only[aK,aI,aO,aT];omega) (λu hu=>?_)⟩;have U:=fB hu B;rw[eU hu];simp only[go_sem,M,hq,H,b0];refine⟨by decide,pD _,by simp only[aI,aK,aO,aT],λy Z=>?_,by simp only[aI,aK,aO,aT];omega,?_⟩
         .simp only[dK,cD]at Z;rcases Z with Z|rfl
          .exact pD _ _ Z
          .rfl
         refine⟨(j+1,some u),⟨⟨λh=>(by cases h),λt h=>by cases h;exact U⟩,H⟩,aP,?_,?_⟩
         .simp only[go_sem,bv.wrap (i:=j) (gQ H),dB,G,bY,lL,fE]
         .have e1:∀(a:A),(List.map Tm.enc (L2++(r.parts.take j).flatMap lL)++[a]).length+q.right.length=(L2++(r.parts.take (j+1)).flatMap lL).length:=λa=>by simp only[G,aI,aGx,aK,aO,aT];omega
          rw[aAq,e1];exact fY (gX (And.intro M b0))
        .have bj:j=r.parts.length:=by have:¬ j<r.parts.length:=gQ h;omega
         subst bj;clear h hj;rw[List.take_length]at z;rw[List.take_length];rw[jX]at b1 bd;simp only[aI]at bd;obtain⟨L3,b8⟩:∃L,L=L2++r.parts.flatMap lL:=⟨_,rfl⟩
         rw[<-fE,<-b8]at b1;have bz:L3.length=L2.length+(r.parts.flatMap lL).length:=by rw[b8,aI]
         rw[<-b8]at z⊢;clear b8;refine⟨by decide,pD _,cU rfl rfl (zK z) (pD _) (by simp only[aK];omega) (λu hu=>?_)⟩;have U:=fB hu B;rw[eU hu];simp only[go_sem,M];clear z B hu tk
         refine Ex.loop (ι:=Nat × Option Nat) (λc=>[(3,gv c.2 ((L3++(r.cond++(r.new.take c.1).flatMap Fresh.cells)).map Tm.enc)),(50,.list none (x.rules.map Rul.enc)),(51,.int .i64 x.rules.length),(52,.int .i64 (i:Nat)),(77,.list none (r.new.map Fresh.enc)),(78,.int .i64 r.new.length),(79,.int .i64 (c.1:Nat))])
          (λc=>gs s c.2 (L3++(r.cond++(r.new.take c.1).flatMap Fresh.cells)).length 39)
          (λc=>pV s (L3++(r.cond++(r.new.take c.1).flatMap Fresh.cells)) c.2/\c.1<=r.new.length) (λc=>r.new.length-c.1) (0,some u) ⟨⟨λh=>(by cases h),λt h=>by cases h;exact U⟩,aX _⟩ ?_ ?_ ?_
         .simp only[go_sem,M,dB,bY];simp
         .show St.ge _ (s.setT u ((L3++(r.cond++(r.new.take 0).flatMap Fresh.cells)).length,39));rw[show(L3++(r.cond++(r.new.take 0).flatMap Fresh.cells)).length=L3.length+r.cond.length by simp];exact fY (gX M)
         .rintro⟨j,tk⟩ ⟨⟨z,B⟩,hj⟩;simp only at z B hj;refine bC (V:=[0,1,2,3,5,7,9,11,13,15,16,17,18,37,38,39,40,50,51,52,53,57,58,59,60,77,78,79,80]) _ _ _ _ ?_;simp only[go_sem]
          (apply aQ<;>intro h)<;>simp only[go_sem,h]
          .have H:j<r.new.length:=gQ h;clear h;obtain⟨q,hq⟩:∃a,r.new[j]?=some a:=⟨_,aV H⟩
           have G:=xV Fresh.cells hq;have O:=yP Fresh.cells r.new (j+1);rw[G,aI]at O;simp only[go_sem,hq,H];(refine mQ λc1 b2=>?_);simp only[go_sem,hq,H,b2];refine⟨by decide,pD _,cU rfl rfl (zK z) (pD _) (by simp only[aK,aI];omega) (λu hu=>?_)⟩;have U:=fB hu B;rw[eU hu];simp only[go_sem,hq,H,b2];refine⟨(j+1,some u),⟨⟨λh=>(by cases h),λt h=>by cases h;exact U⟩,H⟩,aP,?_,?_⟩
           .simp only[go_sem,bw.wrap (i:=j) (gQ H),dB,G,bY,fE]
           .rw[show(L3++(r.cond++(r.new.take j).flatMap Fresh.cells)).length+q.cells.length=(L3++(r.cond++(r.new.take (j+1)).flatMap Fresh.cells)).length by simp only[G,aI];omega];exact fY (gX b2)
          .have bj:j=r.new.length:=by have:¬ j<r.new.length:=gQ h;omega
           subst bj;clear h hj;rw[List.take_length,<-b1]at z;rw[List.take_length,<-b1];refine⟨(i+1,tk),⟨⟨z,B⟩,F⟩,aP,?_,aG _⟩;simp only[go_sem,br]
      .have b3:i=x.rules.length:=by have:¬ i<x.rules.length:=gQ h;omega
       subst b3;rw[List.take_length]at z⊢;exact DK.mk hk (gE (aG _) B) (hZ _ _ (λe=>by rw[z e];rfl))
section
theorem xP{l:List Tm}{x:Tm}(h:x∈l):x.pre.length<=(bG l).length:=by
 induction l with
 | nil=>cases h
 | cons y r q =>
  simp only[bG,aI];rcases List.mem_cons.1 h with rfl|h
  .omega
  .have:=q h;omega
theorem aGX{t x:Tm}(h:x∈t.kids):x.pre.length<=t.pre.length:=by
 rw[xH t,aO];have:=xP (l:=t.kids++t.rest) (List.mem_append_left _ h);omega
theorem nH{l:List Tm}{y:A}(h:y∈l.map Tm.enc):y.cells.length=6:=by
 obtain⟨z,_,rfl⟩:=cC.1 h;rw[cG];rfl
theorem aLQ(f:Fault)(r:Option Fault):bU (dN false f) r=r:=rfl
theorem aCA(f:Fault)(r:Option Fault):bU (dN (!true) f) r=r:=rfl
theorem lW(a b c:Option Fault):bU (bU a b) c=bU a (bU b c):=by cases a<;>rfl
theorem aK6(x:Eqn):(bG (x.right::x.cond)).length<=(bG (jW x)).length:=by
 simp only[jW,bG,aI];omega
theorem aLI(x:Eqn):(bG (x.right::x.cond++[x.left])).length=(bG (jW x)).length:=by
 rw[iP];simp only[jW,bG,aI,dR];omega
theorem aMh(t:Tm):t.kids.length+1<=t.pre.length:=by
 rw[xH t,aO];have:=nV (t.kids++t.rest);rw[aI]at this;omega
theorem aMb{α:Type}{f:α->Bool}{l:List α}{i:Nat}{x:α}(h:l[i]?=some x)(q:(l.take i).any f=false):(l.take (i+1)).any f=f x:=by
 rw[eO,h,List.any_append,q];simp
theorem aMn{α:Type}{f:α->Bool}{l:List α}{x:α}(h:x∈l)(q:f x=true):l.any f=true:=List.any_eq_true.2 ⟨x,h,q⟩
section
variable {s:St} {KV Kp:St->A->Prop} {c:Nat} {d:Dfn}
theorem CK.map{a:Option Fault}(h:CK KV Kp s a){q u:St->A->Prop}{s':St}(y:KV s (.tuple [])->q s' (.tuple []))(z:∀f:Fault,Kp s (.iface 51 f.enc)->u s' (.iface 51 f.enc)):CK q u s' a:=by
 cases a with
 | none=>exact y h
 | some f=>exact z f h
theorem aKw(h:CkAt s c d)(n:aC)(l k:Int)(q:List Tm){tk:Option Nat}{es:List A}(u:es=q.map Tm.enc)(y:CK KV Kp s (lH d.sig n l k q)):Den cx 57 [.ptr c 0,.agg [.int .i64 l,.int .i64 k],.str n,.list tk es] KV Kp s:=by
 subst u;exact kU (show mM [.ptr c 0,.agg [.int .i64 l,.int .i64 k],.str n,.list tk (q.map Tm.enc)] [.ptr c 0,.agg [.int .i64 l,.int .i64 k],.str n,.list none (q.map Tm.enc)] from⟨bF _,bF _,bF _,A.le.forget _ _,trivial⟩) (xD h n l k q y)
theorem aE4(l k:Int)(h:List Tm)(q:(bG h).length<=4294967200){tk:Option Nat}{es:List A}(u:es=h.map Tm.enc)(y:CK KV Kp s (rV l k h)):Den cx 60 [.agg [.int .i64 l,.int .i64 k],.list tk es] KV Kp s:=by
 subst u;exact kU (show mM [.agg [.int .i64 l,.int .i64 k],.list tk (h.map Tm.enc)] [.agg [.int .i64 l,.int .i64 k],.list none (h.map Tm.enc)] from⟨bF _,A.le.forget _ _,trivial⟩) (aJQ l k h q y)
theorem aEF(l k:Int)(h q:List Tm)(u:(bG h).length<=4294967200)(y:(bG q).length<=4294967200){tk B:Option Nat}{es z:List A}(hl:z=h.map Tm.enc)(F:es=q.map Tm.enc)(G:CK KV Kp s (rU l k h q)) :
  Den cx 61 [.agg [.int .i64 l,.int .i64 k],.list B z,.list tk es] KV Kp s:=by
 subst F;subst hl;exact kU (show mM [.agg [.int .i64 l,.int .i64 k],.list B (h.map Tm.enc),.list tk (q.map Tm.enc)] [.agg [.int .i64 l,.int .i64 k],.list none (h.map Tm.enc),.list none (q.map Tm.enc)] from⟨bF _,A.le.forget _ _,A.le.forget _ _,trivial⟩) (aI2 l k h q u y G)
theorem aMN(h:CkAt s c d)(x:Eqn)(hW:∀t,t∈jW x->TmW t)(hL:(bG (jW x)).length<=4294967000)(F:CK KV Kp s (wD d.sig x)):Den cx 22 [.ptr c 0,.agg x.cs] KV Kp s:=by
 have hC:=h;obtain⟨r,G,hB⟩:=h;unfold wD at F;have bp:=xP (l:=jW x) (x:=x.left) (dZ ..);have bn:x.cond.length+2<=(bG (jW x)).length:=nV (jW x);have bm:=aMh x.left;have bl:TmW x.left:=hW _ (dZ ..);(refine sH func22 [0,1,3,4,5,6,7,9,11,12,14,29,51,69,70,71,72,80,87,88,89,90,99,124,125,126,127] ?_;simp only[go_sem,ntmps22,f22]);(refine aL λp M=>?_);have e1:=aS G M;simp only[go_sem,M];(refine aL λq O=>?_);have e2:=aS G O.2;have e3:¬ p=q:=O.1.1;simp only[go_sem,M,O,G,e1,e2];by_cases h5:x.left.kind=5
 .have Z:decide (x.left.kind=5)=true:=cY h5;rw[aE h5]at F;have en:pG x=x.left.text:=aE (.inl h5);simp only[en]at F;simp only[go_sem,M,O,G,e1,e2,Z];cases hl:fH d.sig.funs x.left.text with
  | none =>
   rw[hl]at F;(refine bB (OT.l [0,1,2,3,4,5,6] (.alt (.node 7 (OT.l [8,9,10,11,12,13] .nil)) (.node 11 (OT.l [7,8,9,10,12,13] .nil)))) [(11,[3,6])] ?_;simp only[go_sem,M,O,G,e1,e2,Z]);refine⟨?_,?_⟩
   .refine dC (pB (hB.ge ?_) x.left.text ?_)
    .exact bA
    simp only[go_sem,M,O,G,e1,e2,Z,hl,Option.getD_none,Option.isSome_none,nE];(intro b6 z;try simp only[cZ,cN,bJ]at z);have e6:=aS G (by first|exact z|exact z.2|exact z.2.2|exact z.2.2.2|exact z.2.2.2.2);simp only[go_sem,M,O,G,e1,e2,Z,z,e6];refine dC (eD 15 _ _ _ ?_);simp only[go_sem];exact aF F bA
   ·(intro b6 z;try simp only[cZ,cN,bJ]at z);have e6:=aS G (by first|exact z|exact z.2|exact z.2.2|exact z.2.2.2|exact z.2.2.2.2);simp only[go_sem,M,O,G,e1,e2,Z,z,e6];refine dC (pB (hB.ge ?_) x.left.text ?_)
    .exact bA
    simp only[go_sem,M,O,G,e1,e2,Z,hl,z,e6,Option.getD_none,Option.isSome_none,nE];refine dC (eD 15 _ _ _ ?_);simp only[go_sem];exact aF F bA
  | some f =>
   rw[hl]at F;simp only at F;(refine bB (OT.l [0,1,2,3,4,5,6] (.alt (.node 7 (OT.l [8,9,10,11,12,13] .nil)) (.node 11 (OT.l [7,8,9,10,12,13] .nil)))) [(11,[3,6])] ?_;simp only[go_sem,M,O,G,e1,e2,Z]);refine⟨?oA,?oB⟩
   case' oA =>
    refine dC (pB (hB.ge ?_) x.left.text ?_)
    .exact bA
    simp only[go_sem,M,O,G,e1,e2,Z,hl,Option.getD_some,Option.isSome_some];(intro b6 z;try simp only[cZ,cN,bJ]at z);have e6:=aS G (by first|exact z|exact z.2|exact z.2.2|exact z.2.2.2|exact z.2.2.2.2);simp only[go_sem,M,O,G,e1,e2,Z,z,e6]
   case' oB =>
    (intro b6 z;try simp only[cZ,cN,bJ]at z);have e6:=aS G (by first|exact z|exact z.2|exact z.2.2|exact z.2.2.2|exact z.2.2.2.2);simp only[go_sem,M,O,G,e1,e2,Z,z,e6];refine dC (pB (hB.ge ?_) x.left.text ?_)
    .exact bA
    simp only[go_sem,M,O,G,e1,e2,Z,hl,z,e6,Option.getD_some,Option.isSome_some]
   all_goals
    (refine bB (OT.l [0,1,2,3,4,5,6,8,9,7,10,11] .nil) [(7,[1,9]),(10,[1])] ?_;simp only[go_sem,M,O,G,e1,e2,Z,z,e6]);refine .inr λt bk=>⟨by decide,λy hy=>nH hy,λy hy=>?_,by omega,?_⟩
    .simp only[dD,kQ,eT]at hy;rcases hy with rfl|rfl<;>rfl
    generalize hS:St.setT (St.setT _ t _) t _=S;have b1:S.ge s:=by subst hS;rw[oH];exact gE (tk:=some t) (by exact bA) (λu hu=>by cases hu;exact bk)
    have gp:S.getO p=some (.cells 41 x.cs):=by subst hS;simp only[Eqn.cs,Tm.cs,bT,bO];exact gH
    have gq:S.getO q=some (.cells 75 [.int .i64 x.line,.int .i64 x.col]):=by subst hS;exact gH
    have g6:S.getO b6=some (.cells 64 f.cs):=by subst hS;simp only[Opr.cs];exact gH
    simp only[Eqn.cs,Tm.cs,Opr.cs,bT,bO]at gp g6;clear hS;have bh:=hC.ge b1;have bf:=hB.ge b1;have gc:=b1.ob _ _ G;refine dC (aKw bh _ _ _ (jW x) (by simp only[jW,bP,cG];rfl) (iG F (λF=>?_) (λf hf=>?_)));rotate_left
    .simp only[go_sem];exact aF hf b1
    simp only[go_sem,gp,gq,g6]
    refine Ex.loop (ι:=Nat) (λi=>[(0,.ptr c 0),(3,.ptr p 0),(4,.ptr q 0),(5,.str x.left.text),(6,.ptr b6 0),(69,.list none (x.left.kids.map Tm.enc)),(70,.int .i64 (x.left.kids.length:Nat)),(71,.int .i64 (i:Nat))])
     (λ_=>S) (λi=>i<=x.left.kids.length/\(x.left.kids.take i).any (sZ d.sig)=false) (λi=>x.left.kids.length-i) 0 ⟨aX _,rfl⟩ ?_ (aG _) ?_
    .simp only[go_sem]
     try exact rfl
    .rintro i ⟨hi,U⟩;refine bC (V:=[0,1,3,4,5,6,7,9,11,12,14,29,51,69,70,71,72,80,87,88,89,90,99,124,125,126,127]) _ _ _ _ ?_;simp only[go_sem]
     (apply aQ<;>intro h)<;>simp only[go_sem,h]
     .have H:i<x.left.kids.length:=gQ h;clear h;obtain⟨k,L⟩:∃a,x.left.kids[i]?=some a:=⟨_,aV H⟩
      have b2:k∈x.left.kids:=cR L;have bj:=aGX b2;have bd:=aMb (f:=sZ d.sig) L U;simp only[go_sem,L,H];(intro b9 B;try simp only[cZ,cN,bJ]at B);have f1:=aS gc (by first|exact B|exact B.2|exact B.2.2|exact B.2.2.2|exact B.2.2.2.2);have f2:=aS gq B;simp only[go_sem,L,H,B,f1,gc];(refine bB (OT.r 0 6) [] ?_;simp only[go_sem,L,H,B,f1,gc]);refine dC (aEg (bf.ge (bQ B (aG S))) k aB ?_);cases hf:sZ d.sig k
      .simp only[go_sem,B,f2,gq];exact⟨i+1,⟨H,by rw[bd,hf]⟩,by omega,bM i aB,bL⟩
      .simp only[go_sem,B,f2,gq];rw[aMn b2 hf]at F
       replace F:CK KV Kp s (some (⟨16,x.left.text,x.line,x.col⟩:Fault)):=F
       refine dC (eD 16 _ _ _ ?_);simp only[go_sem];exact aF F ((bQ B (aG S)).trans b1)
     .have b4:i=x.left.kids.length:=Nat.le_antisymm hi (Nat.le_of_not_lt (gQ h));subst b4;clear h hi;rw[List.take_length]at U;rw[U,aLQ]at F;simp only[go_sem,gp,gq,g6]
      refine Ex.loop (ι:=Nat) (λi=>[(0,.ptr c 0),(3,.ptr p 0),(4,.ptr q 0),(5,.str x.left.text),(6,.ptr b6 0),(87,.list none (x.left.kids.map Tm.enc)),(88,.int .i64 (x.left.kids.length:Nat)),(89,.int .i64 (i:Nat))])
       (λ_=>S) (λi=>i<=x.left.kids.length/\(x.left.kids.take i).all (rS d.sig)=true) (λi=>x.left.kids.length-i) 0 ⟨aX _,rfl⟩ ?_ (aG _) ?_
      .simp only[go_sem]
       try exact rfl
      .clear U;rintro i ⟨hi,U⟩;refine bC (V:=[0,1,3,4,5,6,7,9,11,12,14,29,51,69,70,71,72,80,87,88,89,90,99,124,125,126,127]) _ _ _ _ ?_;simp only[go_sem]
       (apply aQ<;>intro h)<;>simp only[go_sem,h]
       .have H:i<x.left.kids.length:=gQ h;clear h;obtain⟨k,L⟩:∃a,x.left.kids[i]?=some a:=⟨_,aV H⟩
        have b2:k∈x.left.kids:=cR L;have bj:=aGX b2;have bd:=aCU (f:=rS d.sig) L U;simp only[go_sem,L,H];(intro b9 B;try simp only[cZ,cN,bJ]at B);have f1:=aS gc (by first|exact B|exact B.2|exact B.2.2|exact B.2.2.2|exact B.2.2.2.2);have f2:=aS gq B;simp only[go_sem,L,H,B,f1,gc];(refine bB (OT.r 0 7) [] ?_;simp only[go_sem,L,H,B,f1,gc]);refine dC (aEr (bf.ge (bQ B (aG S))) k (bl.kids k b2) aB ?_);cases hf:rS d.sig k
        .simp only[go_sem,B,f2,gq];rw[aCG b2 hf]at F
         replace F:CK KV Kp s (some (⟨16,x.left.text,x.line,x.col⟩:Fault)):=F
         refine dC (eD 16 _ _ _ ?_);simp only[go_sem];exact aF F ((bQ B (aG S)).trans b1)
        .simp only[go_sem,B,f2,gq];exact⟨i+1,⟨H,by rw[bd,hf]⟩,by omega,bM i aB,bL⟩
       .have b4:i=x.left.kids.length:=Nat.le_antisymm hi (Nat.le_of_not_lt (gQ h));subst b4;clear h hi;rw[List.take_length]at U;rw[U,aCA]at F;simp only[go_sem,gp,gq,g6];refine .inr λt2 b5=>⟨by decide,λy hy=>nH hy,λy hy=>(by rw[cD.1 hy];rfl),by omega,?_⟩
        have bq:s.getT t2=none:=by
         cases h0:s.getT t2 with
         | none=>rfl
         | some m=>rw[b1.tk _ _ h0]at b5;cases b5
        (refine bB (OT.r 0 7) [(5,[0])] ?_;simp only[go_sem,gp,gq,g6]);refine⟨by decide,λy hy=>(by rw[cD.1 hy];rfl),by first|omega|rfl|(simp;omega),λy hy=>?_,by first|omega|(simp;omega),?_⟩
        .rcases List.mem_cons.1 hy with rfl|hy
         .rfl
         .exact nH hy
        generalize bb:St.setT (St.setT _ t2 _) t2 _=S2;have b0:S2.ge s:=by subst bb;simp only[oH];exact(gE (tk:=some t2) (aG S) (λu hu=>by cases hu;exact b5)).trans b1
        have bc:S2.ge S:=by subst bb;simp only[oH];exact gE (tk:=some t2) (aG S) (λu hu=>by cases hu;exact b5)
        have b8:=bc.ob _ _ gp;have b3:=bc.ob _ _ gq;have b7:=bc.ob _ _ g6;clear bb;have bg:=hC.ge b0;refine dC (aE4 _ _ (x.right::x.cond++[x.left]) ?_ ?_ (iG F (λF=>?_) (λf hf=>?_)))
        .rw[aLI x];omega
        .simp only[bT,bP,bY,cP,cG];rfl
        rotate_left
        .simp only[go_sem];exact aF hf b0
        simp only[go_sem,b8,b3,b7];refine .inl ?_;refine dC (aEF _ _ [x.left] (x.right::x.cond) ?_ ?_ ?_ ?_ (iG F (λF=>?_) (λf hf=>?_)))
        .simp only[bG,dR];omega
        .have:=aK6 x;omega
        .rw[vX];rfl
        .simp only[bP,cG];rfl
        rotate_left
        .simp only[go_sem];exact aF hf b0
        simp only[go_sem,b8,b3,b7]
        refine Ex.loop (ι:=Nat) (λi=>[(0,.ptr c 0),(3,.ptr p 0),(4,.ptr q 0),(5,.str x.left.text),(6,.ptr b6 0),(124,.list none (x.cond.map Tm.enc)),(125,.int .i64 (x.cond.length:Nat)),(126,.int .i64 (i:Nat))])
         (λ_=>S2) (λi=>i<=x.cond.length/\CK KV Kp s (bU (dI (λt=>iS d.sig x.left.text x.line x.col t [66,111,111,108]) (x.cond.drop i)) (iS d.sig x.left.text x.line x.col x.right f.sort))) (λi=>x.cond.length-i) 0 ⟨aX _,F⟩ ?_ (aG _) ?_
        .simp only[go_sem]
         try exact rfl
        .clear F;rintro i ⟨hi,F⟩;refine bC (V:=[0,1,3,4,5,6,7,9,11,12,14,29,51,69,70,71,72,80,87,88,89,90,99,124,125,126,127]) _ _ _ _ ?_;simp only[go_sem]
         (apply aQ<;>intro h)<;>simp only[go_sem,h]
         .have H:i<x.cond.length:=gQ h;clear h;obtain⟨k,L⟩:∃a,x.cond[i]?=some a:=⟨_,aV H⟩
          rw[nU _ L,lW]at F;simp only[go_sem,L,H];(intro b9 B;try simp only[cZ,cN,bJ]at B);have f2:=aS b3 (by first|exact B|exact B.2|exact B.2.2|exact B.2.2.2|exact B.2.2.2.2);simp only[go_sem,L,H,B,f2,b3];refine dC (uJ (bg.ge (bQ B (aG S2))) _ _ _ k _ (iG F (λF=>?_) (λf hf=>?_)));rotate_left
          .simp only[go_sem];exact aF hf ((bQ B (aG S2)).trans b0)
          simp only[go_sem];exact⟨i+1,⟨H,F⟩,by omega,bM i aB,bL⟩
         .have b4:i=x.cond.length:=Nat.le_antisymm hi (Nat.le_of_not_lt (gQ h));subst b4;clear h hi;rw[eC (bH _)]at F;simp only[go_sem,b8,b3,b7];refine dC (uJ bg _ _ _ x.right f.sort (CK.map (a:=iS d.sig x.left.text x.line x.col x.right f.sort) F (λF=>?_) (λf hf=>?_)));rotate_left
          .simp only[go_sem];exact aF hf b0
          simp only[go_sem];exact aF F b0
 .rw[aD h5]at F;have Z:decide (x.left.kind=5)=false:=cJ h5;have fin:∀n:aC,n=pG x->CK KV Kp s (some ⟨15,n,x.line,x.col⟩):=λn e=>by rw[e];exact F
  unfold pG at fin;by_cases h6:x.left.kind=6
  .have F:=fin x.left.text (by rw[aE (.inr h6)]);have d6:decide (x.left.kind=6)=true:=cY h6;simp only[go_sem,M,O,G,e1,e2,Z,d6];(refine bB (OT.l [0,1,2,3,4,5,6] (.alt (.node 7 (OT.l [8,9,10,11,12,13] .nil)) (.node 11 (OT.l [7,8,9,10,12,13] .nil)))) [(11,[3,6])] ?_;simp only[go_sem,M,O,G,e1,e2,Z]);refine⟨?oC,?oD⟩
   case' oC =>
    refine dC (pB (hB.ge ?_) x.left.text ?_)
    .exact bA
    simp only[go_sem,M,O,G,e1,e2,Z];(intro b6 z;try simp only[cZ,cN,bJ]at z);have e6:=aS G (by first|exact z|exact z.2|exact z.2.2|exact z.2.2.2|exact z.2.2.2.2);simp only[go_sem,M,O,G,e1,e2,Z,z,e6]
   case' oD =>
    (intro b6 z;try simp only[cZ,cN,bJ]at z);have e6:=aS G (by first|exact z|exact z.2|exact z.2.2|exact z.2.2.2|exact z.2.2.2.2);simp only[go_sem,M,O,G,e1,e2,Z,z,e6];refine dC (pB (hB.ge ?_) x.left.text ?_)
    .exact bA
    simp only[go_sem,M,O,G,e1,e2,Z,z,e6]
   all_goals
    refine dC (eD 15 _ _ _ ?_);simp only[go_sem];exact aF F bA
  .have F:=fin [] (by rw[aD (λh=>h.elim h5 h6)]);have d6:decide (x.left.kind=6)=false:=cJ h6;simp only[go_sem,M,O,G,e1,e2,Z,d6];(refine bB (OT.l [0,1,2,3,4,5,6] (.alt (.node 7 (OT.l [8,9,10,11,12,13] .nil)) (.node 11 (OT.l [7,8,9,10,12,13] .nil)))) [(11,[3,6])] ?_;simp only[go_sem,M,O,G,e1,e2,Z]);refine⟨?oE,?oF⟩
   case' oE =>
    refine dC (pB (hB.ge ?_) x.left.text ?_)
    .exact bA
    simp only[go_sem,M,O,G,e1,e2,Z];(intro b6 z;try simp only[cZ,cN,bJ]at z);have e6:=aS G (by first|exact z|exact z.2|exact z.2.2|exact z.2.2.2|exact z.2.2.2.2);simp only[go_sem,M,O,G,e1,e2,Z,z,e6]
   case' oF =>
    (intro b6 z;try simp only[cZ,cN,bJ]at z);have e6:=aS G (by first|exact z|exact z.2|exact z.2.2|exact z.2.2.2|exact z.2.2.2.2);simp only[go_sem,M,O,G,e1,e2,Z,z,e6];refine dC (pB (hB.ge ?_) x.left.text ?_)
    .exact bA
    simp only[go_sem,M,O,G,e1,e2,Z,z,e6]
   all_goals
    refine dC (eD 15 _ _ _ ?_);simp only[go_sem];exact aF F bA
end
end
section
section
variable {s:St} {KV Kp:St->A->Prop}
theorem aIZ(x:aC)(h:KV s (.bool (!dU x))):Den cx 34 [.str x] KV Kp s:=by
 (refine aM func34 [0,2] ?_;simp only[go_sem,ntmps34,f34]);refine oZ _ _ _ _ ?_;simp only[go_sem];exact aN h
theorem aIT(t:Tm)(u:TmW t)(h:KV s (.bool (!(Tm.val 60 t 0).isSome))):Den cx 39 [.agg t.cs] KV Kp s:=by
 (refine aM func39 [0,1,2] ?_;simp only[go_sem,ntmps39,f39]);(refine aL λp q=>?_);simp only[go_sem,q];refine aEE t u _ _ _ ?_;simp only[go_sem];exact aF h bA
theorem aNu(a b c d:Nat):decide ((20:Int)<aBk (a:Int) (b:Int) (c:Int) (d:Int))=!(decide (a<=20)&&(decide (b<=20)&&(decide (c<=20)&&decide (d<=20)))):=by
 have h:(20:Int)<aBk (a:Int) (b:Int) (c:Int) (d:Int)↔¬ (a<=20/\b<=20/\c<=20/\d<=20):=by
  unfold aBk;simp only;split<;>split<;>split<;>omega
 rw[Bool.eq_iff_iff];simp only[dA,kD,Bool.and_eq_false_iff,gG,h];omega
theorem uU{α:Type}{l:List α}{i:Nat}{x:α}(h:l[i]?=some x):l.drop i=x::l.drop (i+1):=by
 obtain⟨q,rfl⟩:=dH.1 h;exact kO q
theorem aJE(d:Dfn)(hB:(gK d).length<=4294967000)(hM:d.once.length+d.many.length<=4294967000)(s:St)(KV Kp:St->A->Prop)(hk:KV s (strs (gK d))):Den cx 37 [.agg d.cs] KV Kp s:=by
 refine fT λbg=>?_
 have bm:=bg _ (dZ ..);have bd:Rlz (.list none (d.rules.map Rul.enc)):=bm.cell (by simp[Dfn.cs]);clear bg;simp only[go_sem];(refine sH func37 [0,1,2,3,5,7,9,19,30,31,32,33,43,44,45,46,58,59,60,61,66] ?_;simp only[go_sem,ntmps37,f37]);(refine aL λp hp=>?_);simp only[go_sem,hp];refine .inr λt bc=>?_
 have Z:(s.setO p (.cells 31 d.cs)).getO p=some (.cells 31 d.cs):=by rw[aH,aE rfl]
 have b3:(s.setO p (.cells 31 d.cs)).ge s:=bQ hp (aG s);have bb:(s.setO p (.cells 31 d.cs)).getT t=none:=bc;simp only[Dfn.cs,Sig.cs,bT,bO]at Z b3 bb;generalize bj:s.setO p _=S1 at Z b3 bb⊢;clear bj bc hp;have bk:(d.once++d.many).length<=4294967000:=by rw[aI];exact hM
 obtain⟨X0,H⟩:∃X,X=[d.name,d.start,d.watch]++(if d.kind=[] then [] else [d.kind]):=⟨_,rfl⟩
 have b1:X0++((d.once++d.many).map Cel.name++d.rules.flatMap pR)=gK d:=by rw[H,fE];rfl
 cases c1:decide (d.kind=[])<;>simp only[go_sem,Z,c1]
 case' true =>
  rw[aE (gI c1)]at H;have b6:[A.str d.name,A.str d.start,A.str d.watch]=X0.map A.str:=by rw[H];rfl
  have b8:S1.setT t (3,9)=S1.setT t (X0.length,9):=by rw[H];rfl
 case' false =>
  rw[aD (of_decide_eq_false c1)]at H;refine .inl ⟨by decide,λy z=>(by rw[cD.1 z];rfl),λy z=>(by simp only[dD,kQ,eT]at z;rcases z with rfl|rfl|rfl<;>rfl),?_⟩;rw[oH];have b6:[A.str d.name,A.str d.start,A.str d.watch,A.str d.kind]=X0.map A.str:=by rw[H];rfl
  have b8:S1.setT t (4,9)=S1.setT t (X0.length,9):=by rw[H];rfl
 all_goals
  rw[b6,b8];clear b6 b8 H;refine .inl ?_;refine dC (aB4 [d.once,d.many] (by simp only[List.flatten_cons,List.flatten_nil,dR];omega) _ _ _ ?_);rw[show [d.once,d.many].flatten=d.once++d.many by simp];generalize d.once++d.many=cells at b1 bk;simp only[go_sem,Z];refine Ex.loop (ι:=Nat × List aC) (λc=>[(1,.ptr p 0),(3,.list (some t) (c.2.map .str)),(30,.list none (cells.map Cel.enc)),(31,.int .i64 (cells.length:Nat)),(32,.int .i64 (c.1:Nat))]) (λc=>S1.setT t (c.2.length,9)) (λc=>c.1<=cells.length/\c.2++((cells.drop c.1).map Cel.name++d.rules.flatMap pR)=gK d) (λc=>cells.length-c.1) (0,X0) ⟨aX _,b1⟩ ?_ (aG _) ?_
  .simp only[go_sem]
   try exact rfl
  .rintro⟨i,X⟩ ⟨hi,q⟩;simp only at hi q;refine bC (V:=[0,1,2,3,5,7,9,19,30,31,32,33,43,44,45,46,58,59,60,61,66]) _ _ _ _ ?_;simp only[go_sem]
   (apply aQ<;>intro h)<;>simp only[go_sem,h]
   .have B:i<cells.length:=gQ h;clear h;obtain⟨x,hx⟩:∃a,cells[i]?=some a:=⟨_,aV B⟩
    rw[uU hx,bP,bT]at q;have b2:X.length+1<=4294967000:=by rw[<-q,aI,aO]at hB;omega
    simp only[go_sem,hx,B];(intro b5 L;try simp only[cZ,cN,bJ]at L);have f1:=aS Z (by first|exact L|exact L.2|exact L.2.2|exact L.2.2.2|exact L.2.2.2.2);simp only[go_sem,hx,B,L,f1];refine .inl ⟨by decide,λy z=>(by rw[cD.1 z];rfl),λy z=>lD z,by omega,(i+1,X++[x.name]),⟨B,by rw[fE];exact q⟩,aP,⟨by rw[bY];rfl,bM i aB⟩,?_⟩;rw[oH];simp only[aI,aO,aT];exact fY (gX L)
   .have b4:i=cells.length:=Nat.le_antisymm hi (Nat.le_of_not_lt (gQ h));subst b4;rw[eC (bH _)]at q
    replace q:X++d.rules.flatMap pR=gK d:=q
    simp only[go_sem,Z];refine Ex.loop (ι:=Nat × List aC) (λc=>[(1,.ptr p 0),(3,.list (some t) (c.2.map .str)),(43,.list none (d.rules.map Rul.enc)),(44,.int .i64 (d.rules.length:Nat)),(45,.int .i64 (c.1:Nat))]) (λc=>S1.setT t (c.2.length,9)) (λc=>c.1<=d.rules.length/\c.2++(d.rules.drop c.1).flatMap pR=gK d) (λc=>d.rules.length-c.1) (0,X) ⟨aX _,q⟩ ?_ (aG _) ?_
    .simp only[go_sem]
     try exact rfl
    .clear q X b1;rintro⟨i,X⟩ ⟨hi,q⟩;simp only at hi q;refine bC (V:=[0,1,2,3,5,7,9,19,30,31,32,33,43,44,45,46,58,59,60,61,66]) _ _ _ _ ?_;simp only[go_sem]
     (apply aQ<;>intro h)<;>simp only[go_sem,h]
     .have B:i<d.rules.length:=gQ h;clear h;obtain⟨r,hr⟩:∃a,d.rules[i]?=some a:=⟨_,aV B⟩
      have bn:Rlz (.agg r.cs):=bd.agg_elem (cC.2 ⟨r,cR hr,rfl⟩);have bf:Rlz (.list none (r.parts.map Part.enc)):=bn.cell (by simp[Rul.cs]);rw[uU hr,kP]at q;generalize hR:(d.rules.drop (i+1)).flatMap pR=R at q;have M:(X++(r.name::r.drop))++((r.parts.map Part.at_).filter (λx=>!decide (x=[]))++R)=gK d:=by rw[<-q];simp[pR]
      have b2:X.length+1+r.drop.length<=4294967000:=by rw[<-M]at hB;simp only[aI,aO]at hB;omega
      simp only[go_sem,hr,B];(intro b7 F;try simp only[cZ,cN,bJ]at F);have f1:=aS Z (by first|exact F|exact F.2|exact F.2.2|exact F.2.2.2|exact F.2.2.2.2);simp only[go_sem,hr,B,F,f1];(refine bB (OT.l [0,1,2,3,5,6,4,7,8] .nil) [(4,[6])] ?_;simp only[go_sem,hr,B,F,f1]);refine⟨by decide,λy z=>(by rw[cD.1 z];rfl),λy z=>lD z,by omega,by decide,λy z=>lD z,by simp,λy z=>?_,by simp only[aI,aK,aO,aT];omega,?_⟩
      .rcases dK.1 z with z|z
       .exact lD z
       .rw[cD.1 z];rfl
      have gb:(S1.setO b7 (.cells 46 r.cs)).getO b7=some (.cells 46 r.cs):=by rw[aH,aE rfl]
      have U:(S1.setO b7 (.cells 46 r.cs)).ge S1:=bQ F (aG S1);rw[oH,oH,show List.map A.str X++[A.str r.name]++List.map A.str r.drop=(X++(r.name::r.drop)).map A.str by simp];rw[show(List.map A.str X++[A.str r.name]).length+r.drop.length=(X++(r.name::r.drop)).length by simp;omega];generalize X++(r.name::r.drop)=X3 at M;generalize b0:S1.setO b7 (.cells 46 r.cs)=S2 at gb U;simp only[Rul.cs]at b0;rw[b0];clear b0 f1 F q b2;have bh:=U.ob _ _ Z;refine Ex.loop (ι:=Nat × List aC) (λc=>[(1,.ptr p 0),(3,.list (some t) (c.2.map .str)),(43,.list none (d.rules.map Rul.enc)),(44,.int .i64 (d.rules.length:Nat)),(45,.int .i64 (i:Nat)),(58,.list none (r.parts.map Part.enc)),(59,.int .i64 (r.parts.length:Nat)),(60,.int .i64 (c.1:Nat))]) (λc=>S2.setT t (c.2.length,9)) (λc=>c.1<=r.parts.length/\c.2++(((r.parts.drop c.1).map Part.at_).filter (λx=>!decide (x=[]))++R)=gK d) (λc=>r.parts.length-c.1) (0,X3) ⟨aX _,M⟩ ?_ (aG _) ?_
      .simp only[go_sem]
       try exact rfl
      .clear M X3 X;rintro⟨j,X⟩ ⟨hj,q⟩;simp only at hj q;refine bC (V:=[0,1,2,3,5,7,9,19,30,31,32,33,43,44,45,46,58,59,60,61,66]) _ _ _ _ ?_;simp only[go_sem]
       (apply aQ<;>intro h)<;>simp only[go_sem,h]
       .have O:j<r.parts.length:=gQ h;clear h;obtain⟨x,hx⟩:∃a,r.parts[j]?=some a:=⟨_,aV O⟩
        rw[uU hx,bP,List.filter_cons]at q;simp only[go_sem,hx,O];(intro b9 G;try simp only[cZ,cN,bJ]at G);have f2:=aS bh (by first|exact G|exact G.2|exact G.2.2|exact G.2.2.2|exact G.2.2.2.2);cases c2:decide (x.at_=[])<;>rw[c2]at q<;>simp only[go_sem,hx,O,G,f2,c2]
        .have M:X++(x.at_::(((r.parts.drop (j+1)).map Part.at_).filter (λx=>!decide (x=[]))++R))=gK d:=q;have b2:X.length+1<=4294967000:=by rw[<-M,aI,aO]at hB;omega
         refine .inl ⟨by decide,λy z=>(by rw[cD.1 z];rfl),λy z=>lD z,by omega,(j+1,X++[x.at_]),⟨O,by rw[fE];exact M⟩,aP,⟨by rw[bY];rfl,bf.wrap (i:=j) (gQ O)⟩,?_⟩;rw[oH];simp only[aI,aO,aT];exact fY (gX G)
        .refine⟨(j+1,X),⟨O,q⟩,aP,⟨rfl,bf.wrap (i:=j) (gQ O)⟩,?_⟩;exact fY (gX G)
       .have bl:j=r.parts.length:=Nat.le_antisymm hj (Nat.le_of_not_lt (gQ h));subst bl;rw[eC (bH _)]at q
        replace q:X++R=gK d:=q
        refine⟨(i+1,X),⟨B,by rw[hR];exact q⟩,aP,⟨rfl,bd.wrap (i:=i) (gQ B)⟩,fY U⟩
     .have b4:i=d.rules.length:=Nat.le_antisymm hi (Nat.le_of_not_lt (gQ h));subst b4;rw[eC (bH _),List.flatMap_nil,dR]at q;subst q;exact DK.mk hk (gE (tk:=some t) b3 (λu e=>by cases e;exact bb)) (A.le.forget _ _)
theorem aGz{α:Type}{f:α->Bool}{l:List α}{i:Nat}{x:α}(h:l[i]?=some x):(l.drop i).all f=(f x&&(l.drop (i+1)).all f):=by
 rw[uU h,List.all_cons]
theorem aJr(d:Dfn)(hT:∀t,t∈fQ d->TmW t)(hL:(fQ d).length<=4294967000)(hB:(gK d).length<=4294967000)(hM:d.once.length+d.many.length<=4294967000)(q:KV s (.bool (kZ d))):Den cx 18 [.agg d.cs] KV Kp s:=by
 refine fT λb0=>?_
 have Z:=b0 _ (dZ ..);have b2:Rlz (.list none (d.eqs.map Eqn.enc)):=Z.cell (by simp[Dfn.cs]);have b3:Rlz (.list none (d.rules.map Rul.enc)):=Z.cell (by simp[Dfn.cs]);clear b0 Z;unfold kZ at q;have z1:decide ((12:Int)<((d.once.length:Nat):Int))=decide (12<d.once.length):=by rw[cT];omega
 have z2:decide ((12:Int)<((d.many.length:Nat):Int))=decide (12<d.many.length):=by rw[cT];omega
 have z3:decide ((300:Int)<((d.rules.length:Nat):Int))=decide (300<d.rules.length):=by rw[cT];omega
 have z4:decide ((300:Int)<((d.eqs.length:Nat):Int))=decide (300<d.eqs.length):=by rw[cT];omega
 (refine aM func18 [0,1,2,4,6,7,29,31,32,33,34,40,43,44,45,46,62] ?_;simp only[go_sem,ntmps18,f18]);(refine aL λp hp=>?_);have L:(s.setO p (.cells 31 d.cs)).getO p=some (.cells 31 d.cs):=by rw[aH,aE rfl]
 have y:(s.setO p (.cells 31 d.cs)).ge s:=bQ hp (aG s);simp only[go_sem,hp,z1];simp only[Dfn.cs,Sig.cs,bT,bO]at L y;generalize b1:s.setO p _=S1 at L y⊢;clear b1 hp;cases H:decide (12<d.once.length)<;>rw[H]at q<;>simp only[go_sem,L,z1,H,z2]
 rotate_left
 .exact aF q y
 cases O:decide (12<d.many.length)<;>rw[O]at q<;>simp only[go_sem,L,z1,H,z2,O,z3]
 rotate_left
 .exact aF q y
 cases c3:decide (300<d.rules.length)<;>rw[c3]at q<;>simp only[go_sem,L,z1,H,z2,O,z3,c3,z4]
 rotate_left
 .exact aF q y
 cases c4:decide (300<d.eqs.length)<;>rw[c4]at q<;>simp only[go_sem,L,z1,H,z2,O,z3,c3,z4,c4]
 rotate_left
 .exact aF q y
 clear H O c3 c4 z1 z2 z3 z4;simp only[iE,fX]at q;refine Ex.loop (ι:=Nat) (λi=>[(1,.ptr p 0),(31,.list none (d.eqs.map Eqn.enc)),(32,.int .i64 (d.eqs.length:Nat)),(33,.int .i64 (i:Nat))]) (λ_=>S1) (λi=>i<=d.eqs.length/\KV s (.bool (((d.eqs.drop i).all λx=>!decide (20<x.cond.length))&&((d.rules.all λr=>decide (r.parts.length<=20)&&(decide (r.cond.length<=20)&&(decide (r.new.length<=20)&&decide (r.drop.length<=20))))&&((gK d).all dU&&(fQ d).all λt=>(Tm.val 60 t 0).isSome))))) (λi=>d.eqs.length-i) 0 ⟨aX _,q⟩ ?_ (aG _) ?_
 .simp only[go_sem]
  try exact rfl
 .clear q;rintro i ⟨hi,q⟩;refine bC (V:=[0,1,2,4,6,7,29,31,32,33,34,40,43,44,45,46,62]) _ _ _ _ ?_;simp only[go_sem]
  (apply aQ<;>intro h)<;>simp only[go_sem,h]
  .have u:i<d.eqs.length:=gQ h;clear h;obtain⟨x,M⟩:∃a,d.eqs[i]?=some a:=⟨_,aV u⟩
   rw[aGz M]at q;have z:decide ((20:Int)<((x.cond.length:Nat):Int))=decide (20<x.cond.length):=by rw[cT];omega
   simp only[go_sem,M,u];(intro b4 G;try simp only[cZ,cN,bJ]at G);have f1:=aS L (by first|exact G|exact G.2|exact G.2.2|exact G.2.2.2|exact G.2.2.2.2);have B:(S1.setO b4 (.cells 41 x.cs)).ge S1:=bQ G (aG S1);simp only[Eqn.cs]at B;cases H:decide (20<x.cond.length)<;>rw[H]at q<;>simp only[go_sem,M,u,G,f1,z,H]
   .exact⟨i+1,⟨u,q⟩,by omega,b2.wrap (i:=i) (gQ u),bL⟩
   .exact aF q (B.trans y)
  .have U:i=d.eqs.length:=Nat.le_antisymm hi (Nat.le_of_not_lt (gQ h));subst U;clear h hi;rw[eC (bH _)]at q;simp only[go_sem,L];refine Ex.loop (ι:=Nat) (λi=>[(1,.ptr p 0),(43,.list none (d.rules.map Rul.enc)),(44,.int .i64 (d.rules.length:Nat)),(45,.int .i64 (i:Nat))]) (λ_=>S1) (λi=>i<=d.rules.length/\KV s (.bool (((d.rules.drop i).all λr=>decide (r.parts.length<=20)&&(decide (r.cond.length<=20)&&(decide (r.new.length<=20)&&decide (r.drop.length<=20))))&&((gK d).all dU&&(fQ d).all λt=>(Tm.val 60 t 0).isSome)))) (λi=>d.rules.length-i) 0 ⟨aX _,q⟩ ?_ (aG _) ?_
   .simp only[go_sem]
    try exact rfl
   .clear q;rintro i ⟨hi,q⟩;refine bC (V:=[0,1,2,4,6,7,29,31,32,33,34,40,43,44,45,46,62]) _ _ _ _ ?_;simp only[go_sem]
    (apply aQ<;>intro h)<;>simp only[go_sem,h]
    .have u:i<d.rules.length:=gQ h;clear h;obtain⟨x,M⟩:∃a,d.rules[i]?=some a:=⟨_,aV u⟩
     rw[aGz M]at q;have z:=aNu x.parts.length x.cond.length x.new.length x.drop.length;simp only[go_sem,M,u];(intro b6 F;try simp only[cZ,cN,bJ]at F);have f1:=aS L (by first|exact F|exact F.2|exact F.2.2|exact F.2.2.2|exact F.2.2.2.2);have B:(S1.setO b6 (.cells 46 x.cs)).ge S1:=bQ F (aG S1);simp only[Rul.cs]at B;simp only[go_sem,M,u,F,f1,z];cases H:(decide (x.parts.length<=20)&&(decide (x.cond.length<=20)&&(decide (x.new.length<=20)&&decide (x.drop.length<=20))))<;>rw[H]at q<;>simp only[go_sem,M,u,F,f1,H]
     .exact aF q (B.trans y)
     .exact⟨i+1,⟨u,q⟩,by omega,b3.wrap (i:=i) (gQ u),B⟩
    .have U:i=d.rules.length:=Nat.le_antisymm hi (Nat.le_of_not_lt (gQ h));subst U;clear h hi;rw[eC (bH _)]at q
     replace q:KV s (.bool ((gK d).all dU&&(fQ d).all λt=>(Tm.val 60 t 0).isSome)):=q
     simp only[go_sem,L];refine fO (aJE d hB aB S1 _ _ ?_) (by simp only[Dfn.cs,Sig.cs,bT,bO]);simp only[go_sem,L];refine aCc (gK d) (λx=>!dU x) 34 [] [] _ _ _ (λx M KV Kp q=>aIZ x q) ?_;rw[show((gK d).any λx=>!dU x)=!(gK d).all dU by simp[List.any_eq_not_all_not]];cases H:(gK d).all dU<;>rw[H]at q<;>simp only[go_sem,L]
     .exact aF q y
     .refine fO (aEU d (by rw[yG];omega) hM S1 _ _ ?_) (by simp only[Dfn.cs,Sig.cs,bT,bO]);rw[yG];simp only[go_sem,L];refine aKk (fQ d) (λt=>!(Tm.val 60 t 0).isSome) 39 [] [] _ _ _ (λx M KV Kp q=>aIT x (hT x M) q) ?_;rw[show((fQ d).any λt=>!(Tm.val 60 t 0).isSome)=!(fQ d).all λt=>(Tm.val 60 t 0).isSome by simp[List.any_eq_not_all_not]];simp only[go_sem];cases O:(fQ d).all λt=>(Tm.val 60 t 0).isSome<;>rw[O]at q<;>simp only[go_sem]
      .exact aF q y
      .exact aF q y
end
end
section
section
variable {s:St} {KV Kp:St->A->Prop} {c:Nat} {d:Dfn}
def yL(x y:Part):Bool:=decide (y.cell=x.cell)&&decide (y.at_=x.at_)
theorem aJH(p:Nat)(x y:Part)(u:s.getO p=some (.cells 69 x.cs))(h:KV s (.bool (yL x y))):Den cx 112 [.agg y.cs,.ptr p 0] KV Kp s:=by
 unfold yL at h;simp only[Part.cs,bT,bO]at u;(refine aM func112 [0,1,2,3] ?_;simp only[go_sem,ntmps112,f112]);(refine aL λq z=>?_);have F:=aS u z;simp only[go_sem,u,z,F];cases B:decide (y.cell=x.cell)<;>rw[B]at h<;>simp only[go_sem,u,z,F,B]
 .exact aF h bA
 .exact aF h bA
theorem aKh(p:Nat)(a:aC)(y:Part)(h:s.getO p=some (.cells 9 [.str a]))(B:KV s (.bool (decide (y.at_=a)))):Den cx 114 [.agg y.cs,.ptr p 0] KV Kp s:=by
 (refine aM func114 [0,1,2,3] ?_;simp only[go_sem,ntmps114,f114]);(refine aL λq u=>?_);have z:=aS h u;simp only[go_sem,h,u,z];exact aF B bA
theorem aJ4(h:CkAt s c d)(ho:d.once.length<=4294967000)(hm:d.many.length<=4294967000)(z:List Part)(x:Part)(hW:TmW x.left)(hL:x.left.pre.length<=4294967000)(hR:x.right.length<=4294967000)
  (B:CK KV Kp s (yU d z x)):Den cx 67 [.ptr c 0,.agg x.cs,.list none (z.map Part.enc)] KV Kp s:=by
 have hC:=h;obtain⟨r,hc,hB⟩:=h;unfold yU at B;(refine sH func67 [0,1,2,4,6,7,8,9,11,25,32,42,50,81,82,83,84] ?_;simp only[go_sem,ntmps67,f67]);(refine aL λp hp=>?_);have e1:=aS hc hp;simp only[go_sem,hp];(refine aL λq hq=>?_);have e2:=aS hc hq.2;have F:((s.setO p (.cells 69 x.cs)).setO q (.cells 75 [.int .i64 x.line,.int .i64 x.col])).ge s:=by simp only[Part.cs,bT,bO];exact bA
 have H:((s.setO p (.cells 69 x.cs)).setO q (.cells 75 [.int .i64 x.line,.int .i64 x.col])).getO p=some (.cells 69 x.cs):=by rw[aH,aD (λe=>hq.1.1 e.symm),aH,aE rfl]
 have M:((s.setO p (.cells 69 x.cs)).setO q (.cells 75 [.int .i64 x.line,.int .i64 x.col])).getO q=some (.cells 75 [.int .i64 x.line,.int .i64 x.col]):=by rw[aH,aE rfl]
 simp only[go_sem,hp,hq,hc,e1,e2];generalize b1:((s.setO p (.cells 69 x.cs)).setO q (.cells 75 [.int .i64 x.line,.int .i64 x.col]))=S1 at F H M;simp only[Part.cs,bT,bO,Tm.cs]at b1;rw[b1];clear b1;have b0:=hC.ge F;have gc:=F.ob _ _ hc;have b7:=H;simp only[Part.cs,bT,bO,Tm.cs]at H;refine dC (aCi b0 ho hm x.cell ?_);generalize hS:gL d x.cell=C at B;obtain⟨S,mn,ok⟩:=C;simp only[go_sem,H,M];cases ok with
 | false =>
  simp only[go_sem,H,M];refine dC (eD 13 _ _ _ ?_);simp only[go_sem];exact aF B F
 | true =>
  rw[aD (λh=>by cases h)]at B;simp only[go_sem,H,M];have key:mn=!decide (x.at_=[])\/mn≠!decide (x.at_=[]):=by cases mn<;>cases decide (x.at_=[])<;>simp
  rcases key with O|O
  rotate_left
  .rw[aE O]at B;cases c2:decide (x.at_=[])<;>cases mn<;>rw[c2]at O<;>first|exact cV rfl O|(simp only[go_sem,H,M,c2,beq_true,beq_false];refine dC (eD 15 _ _ _ ?_);simp only[go_sem];exact aF B F)
  rw[aD (λh=>h O)]at B;cases c2:decide (x.at_=[])<;>cases mn<;>rw[c2]at O<;>first|(cases O;done)|skip
  all_goals
   simp only[go_sem,H,M,c2,beq_true,beq_false];refine dC (aEt z (yL x) 112 [] [.ptr p 0] _ _ _ (λy hy KV Kp B=>aJH p x y b7 B) ?_);have b4:(z.any λy=>decide (y.cell=x.cell)&&decide (y.at_=x.at_))=z.any (yL x):=rfl;rw[b4]at B;cases hb:z.any (yL x)<;>rw[hb]at B
   rotate_left
   .simp only[go_sem,H,M];refine dC (eD 14 _ _ _ ?_);simp only[go_sem];exact aF B F
   rw[aD (λh:false=true=>by cases h)]at B;simp only[go_sem,H,M];(refine bB (OT.r 0 15) [(6,[10])] ?_;simp only[go_sem,H,M,gc]);refine dC (aEr (hB.ge F) x.left hW aB ?_);cases b6:rS d.sig x.left
   .rw[b6,aE (.inl rfl)]at B;simp only[go_sem,H,M];refine dC (eD 16 _ _ _ ?_);simp only[go_sem];exact aF B F
   rw[b6]at B;have f1:decide ((1:Int)<((x.right.length:Nat):Int))=decide (1<x.right.length):=by rw[cT];omega
   by_cases Z:1<x.right.length
   .rw[aE (.inr Z)]at B;simp only[go_sem,H,M,f1,cY Z];refine dC (eD 16 _ _ _ ?_);simp only[go_sem];exact aF B F
   rw[aD (λh=>h.elim (λh=>by cases h) Z)]at B;simp only[go_sem,H,M,f1,cJ Z];refine dC (xD b0 _ _ _ x.right (iG B (λB=>?_) (λf hf=>?_)));rotate_left
   .simp only[go_sem];exact aF hf F
   simp only[go_sem,H,M];refine .inr λt bc=>⟨by decide,λy hy=>nH hy,λy hy=>(by rw[cD.1 hy];rfl),by omega,?_⟩
   have b5:((S1.setT t (1,39)).setT t (1+x.right.length,39)).ge S1:=by simp only[oH];exact gE (tk:=some t) (aG S1) (λu hu=>by cases hu;exact bc)
   have b3:(A.agg x.left.cs::x.right.map Tm.enc)=(x.left::x.right).map Tm.enc:=by simp only[bP,cG]
   simp only[Tm.cs]at b3;rw[b3]
   refine Ex.loop (ι:=Nat) (λi=>[(0,.ptr c 0),(4,.ptr p 0),(6,.ptr q 0),(7,.str S),(81,.list (some t) ((x.left::x.right).map Tm.enc)),(82,.int .i64 ((x.left::x.right).length:Nat)),(83,.int .i64 (i:Nat))])
    (λ_=>S1) (λi=>i<=(x.left::x.right).length/\CK KV Kp s (dI (λt=>iS d.sig x.cell x.line x.col t S) ((x.left::x.right).drop i))) (λi=>(x.left::x.right).length-i) 0 ⟨aX _,B⟩ ?_ b5 ?_
   .simp only[go_sem]
    try exact rfl
   .clear B;have b8:(x.left::x.right).length<=4294967100:=by rw[aO];omega
    generalize x.left::x.right=L at b8;rintro i ⟨hi,B⟩;refine bC (V:=[0,1,2,4,6,7,8,9,11,25,32,42,50,81,82,83,84]) _ _ _ _ ?_;simp only[go_sem]
    (apply aQ<;>intro h)<;>simp only[go_sem,h]
    .have U:i<L.length:=gQ h;clear h;obtain⟨k,b2⟩:∃a,L[i]?=some a:=⟨_,aV U⟩
     rw[nU _ b2]at B;simp only[go_sem,b2,U];(intro b9 G;try simp only[cZ,cN,bJ]at G);have f2:=aS M (by first|exact G|exact G.2|exact G.2.2|exact G.2.2.2|exact G.2.2.2.2);have f3:=aS H G;simp only[go_sem,b2,U,G,f2,f3,M,H];refine dC (uJ (b0.ge (bQ G (aG S1))) _ _ _ k _ (iG B (λB=>?_) (λf hf=>?_)));rotate_left
     .simp only[go_sem];exact aF hf ((bQ G (aG S1)).trans F)
     simp only[go_sem];exact⟨i+1,⟨U,B⟩,by omega,bM i aB,bL⟩
    .have bb:i=L.length:=Nat.le_antisymm hi (Nat.le_of_not_lt (gQ h));subst bb;rw[eC (bH _)]at B;exact aF B F
end
end
section
theorem aJZ{d:Dfn}{n:aC}{l k:Int}:∀{q:List Tm} {h:List Cel} {j:Nat} {t:Tm} {m:Cel},q[j]?=some t->h[j]?=some m ->
  lC d n l k (q.drop j) (h.drop j)=bU (lH d.sig n l k [t]) (bU (iS d.sig n l k t m.sort) (lC d n l k (q.drop (j+1)) (h.drop (j+1)))):=by
 intro q h j t m u y;obtain⟨z,rfl⟩:=dH.1 u;obtain⟨i2,rfl⟩:=dH.1 y;rw[kO z,kO i2];rfl
theorem aKW{l k:Int}{b:List aC}{ss:List aC}{j:Nat}{x:aC}(h:ss[j]?=some x):mJ l k b (ss.drop j)=bU (dN (decide (x∈b)) ⟨14,x,l,k⟩) (mJ l k (b++[x]) (ss.drop (j+1))):=by
 obtain⟨q,rfl⟩:=dH.1 h;rw[kO q];rfl
theorem sT{α:Type}{l:List α}{i:Nat}{x:α}(h:l[i]?=some x):l.take (i+1)=l.take i++[x]:=by rw[eO,h];rfl
section
variable {s:St} {KV Kp:St->A->Prop} {c:Nat} {d:Dfn}
theorem aJJ(h:CkAt s c d)(r:Rul)(hn:r.new.length<=4294967000)(bd:∀x,x∈r.new->x.cells.length<=4294967000)(hd:r.drop.length<=4294967000)(u:CK KV Kp s (pQ d r)) :
  Den cx 70 [.ptr c 0,.agg [.int .i64 r.line,.int .i64 r.col],.agg r.cs] KV Kp s:=by
 have hC:=h;obtain⟨rb,hc,hB⟩:=h;unfold pQ at u;(refine aM func70 [0,1,2,4,5,7,9,10,11,13,14,15,17,18,19,20,40,47,48,49,50,54,55,56,57,86,87,88,89,96,102,103,104,105,114] ?_;simp only[go_sem,ntmps70,f70]);(refine aL λq hq=>?_);simp only[go_sem,hq];(refine aL λp hp=>?_);simp only[go_sem,hp];have H:((s.setO q (.cells 75 [.int .i64 r.line,.int .i64 r.col])).setO p (.cells 46 r.cs)).ge s:=by simp only[Rul.cs];exact bA
 have L:((s.setO q (.cells 75 [.int .i64 r.line,.int .i64 r.col])).setO p (.cells 46 r.cs)).getO p=some (.cells 46 r.cs):=by rw[aH,aE rfl]
 have M:((s.setO q (.cells 75 [.int .i64 r.line,.int .i64 r.col])).setO p (.cells 46 r.cs)).getO q=some (.cells 75 [.int .i64 r.line,.int .i64 r.col]):=by rw[aH,aD (λe=>by subst e;simp at hp),aH,aE rfl]
 generalize b3:((s.setO q (.cells 75 [.int .i64 r.line,.int .i64 r.col])).setO p (.cells 46 r.cs))=S1 at H L M;simp only[Rul.cs]at b3;rw[b3];clear b3;have b5:=hC.ge H;have U:=H.ob _ _ hc;simp only[Rul.cs]at L
 (try simp only[go_sem,L,M])
 refine Ex.loop (ι:=Nat) (λi=>[(0,.ptr c 0),(4,.ptr q 0),(5,.ptr p 0),(17,.list none (r.new.map Fresh.enc)),(18,.int .i64 (r.new.length:Nat)),(19,.int .i64 (i:Nat))])
  (fun _ => S1) (fun i => i ≤ r.new.length ∧ (∀ x,x ∈ r.new.take i → x.cells.length = d.many.length) ∧ CK KV Kp s (bU (dI (fun x : Fresh => dN (decide (d.kind = []) || !decide (x.cells.length = d.many.length)) ⟨15,r.name,r.line,r.col⟩) (r.new.drop i))
   (bU (dI (λx:Fresh=>lC d r.name r.line r.col x.cells d.many) r.new) (bU (dI (λs=>dN (!r.parts.any λx=>decide (x.at_=s)) ⟨13,s,r.line,r.col⟩) r.drop) (mJ r.line r.col [] r.drop)))))
  (λi=>r.new.length-i) 0 ⟨aX _,λx Z=>(by cases Z),u⟩ ?_ (aG _) ?_
 .simp only[go_sem]
  try exact rfl
 .clear u;rintro i ⟨hi,b2,u⟩;refine bC (V:=[0,1,2,4,5,7,9,10,11,13,14,15,17,18,19,20,40,47,48,49,50,54,55,56,57,86,87,88,89,96,102,103,104,105,114]) _ _ _ _ ?_;simp only[go_sem]
  (apply aQ<;>intro h)<;>simp only[go_sem,h]
  .have z:i<r.new.length:=gQ h;clear h;obtain⟨x,Z⟩:∃a,r.new[i]?=some a:=⟨_,aV z⟩
   rw[nU _ Z,lW]at u;have bg:=sT Z;simp only[go_sem,Z,z];(intro b7 G;try simp only[cZ,cN,bJ]at G);have f1:=aS U (by first|exact G|exact G.2|exact G.2.2|exact G.2.2.2|exact G.2.2.2.2);have f2:=aS M G;have f3:=aS L G;simp only[go_sem,Z,z,G,f1,f2,f3,L,M,U];(refine bB (OT.r 0 18) [] ?_;simp only[go_sem,Z,z,G,f1,f2,f3,L,M,U]);have n1:decide (((x.cells.length:Nat):Int)=((d.many.length:Nat):Int))=decide (x.cells.length=d.many.length):=by rw[cT];omega
   cases c1:decide (d.kind=[])<;>rw[c1]at u<;>simp only[go_sem,Z,z,G,f1,f2,f3,L,M,U,c1,n1]
   rotate_left
   ·replace u:CK KV Kp s (some (⟨15,r.name,r.line,r.col⟩:Fault)):=u
    refine eD 15 _ _ _ ?_;simp only[go_sem];exact aF u ((bQ G (aG S1)).trans H)
   cases c2:decide (x.cells.length=d.many.length)<;>rw[c2]at u<;>simp only[go_sem,Z,z,G,f1,f2,f3,L,M,U,c1,c2,n1]
   ·replace u:CK KV Kp s (some (⟨15,r.name,r.line,r.col⟩:Fault)):=u
    refine eD 15 _ _ _ ?_;simp only[go_sem];exact aF u ((bQ G (aG S1)).trans H)
   .refine⟨i+1,⟨z,λy hy=>?_,u⟩,by omega,bM i aB,bL⟩;rw[bg]at hy;rcases dK.1 hy with hy|hy
    .exact b2 y hy
    .rw[cD.1 hy];exact gI c2
  .have O:i=r.new.length:=Nat.le_antisymm hi (Nat.le_of_not_lt (gQ h));subst O;clear h hi;rw[eC (bH _)]at u;rw[List.take_length]at b2
   replace u:CK KV Kp s (bU (dI (λx:Fresh=>lC d r.name r.line r.col x.cells d.many) r.new) (bU (dI (λs=>dN (!r.parts.any λx=>decide (x.at_=s)) ⟨13,s,r.line,r.col⟩) r.drop) (mJ r.line r.col [] r.drop))):=u
   simp only[go_sem,L,M]
   refine Ex.loop (ι:=Nat) (λi=>[(0,.ptr c 0),(4,.ptr q 0),(5,.ptr p 0),(47,.list none (r.new.map Fresh.enc)),(48,.int .i64 (r.new.length:Nat)),(49,.int .i64 (i:Nat))])
    (λ_=>S1) (λi=>i<=r.new.length/\CK KV Kp s (bU (dI (λx:Fresh=>lC d r.name r.line r.col x.cells d.many) (r.new.drop i)) (bU (dI (λs=>dN (!r.parts.any λx=>decide (x.at_=s)) ⟨13,s,r.line,r.col⟩) r.drop) (mJ r.line r.col [] r.drop))))
    (λi=>r.new.length-i) 0 ⟨aX _,u⟩ ?_ (aG _) ?_
   .simp only[go_sem]
    try exact rfl
   .clear u;rintro i ⟨hi,u⟩;refine bC (V:=[0,1,2,4,5,7,9,10,11,13,14,15,17,18,19,20,40,47,48,49,50,54,55,56,57,86,87,88,89,96,102,103,104,105,114]) _ _ _ _ ?_;simp only[go_sem]
    (apply aQ<;>intro h)<;>simp only[go_sem,h]
    .have z:i<r.new.length:=gQ h;clear h;obtain⟨x,Z⟩:∃a,r.new[i]?=some a:=⟨_,aV z⟩
     have bb:x∈r.new:=cR Z;have bj:=b2 x bb;have bh:=bd x bb;rw[nU _ Z,lW]at u;generalize hR:bU (dI (λx:Fresh=>lC d r.name r.line r.col x.cells d.many) (r.new.drop (i+1))) (bU (dI (λs=>dN (!r.parts.any λx=>decide (x.at_=s)) ⟨13,s,r.line,r.col⟩) r.drop) (mJ r.line r.col [] r.drop))=R at u;simp only[go_sem,Z,z];(refine aL λb9 b6=>?_);simp only[go_sem,Z,z,b6]
     refine Ex.loop (ι:=Nat) (λj=>[(0,.ptr c 0),(4,.ptr q 0),(5,.ptr p 0),(47,.list none (r.new.map Fresh.enc)),(48,.int .i64 (r.new.length:Nat)),(49,.int .i64 (i:Nat)),(54,.list none (x.cells.map Tm.enc)),(55,.int .i64 (x.cells.length:Nat)),(56,.int .i64 (j:Nat))])
      (λ_=>S1) (λj=>j<=x.cells.length/\CK KV Kp s (bU (lC d r.name r.line r.col (x.cells.drop j) (d.many.drop j)) R)) (λj=>x.cells.length-j) 0 ⟨aX _,u⟩ ?_ (bQ b6 (aG S1)) ?_
     .simp only[go_sem]
      try exact rfl
     .clear u;rintro j ⟨hj,u⟩;refine bC (V:=[0,1,2,4,5,7,9,10,11,13,14,15,17,18,19,20,40,47,48,49,50,54,55,56,57,86,87,88,89,96,102,103,104,105,114]) _ _ _ _ ?_;simp only[go_sem]
      (apply aQ<;>intro h)<;>simp only[go_sem,h]
      .have b1:j<x.cells.length:=gQ h;clear h;obtain⟨t,ht⟩:∃a,x.cells[j]?=some a:=⟨_,aV b1⟩
       have b8:j<d.many.length:=by omega
       obtain⟨m,hm⟩:∃a,d.many[j]?=some a:=⟨_,aV b8⟩
       rw[aJZ ht hm,lW,lW]at u;simp only[go_sem,ht,b1];(intro bc B;try simp only[cZ,cN,bJ]at B);have f1:=aS U (by first|exact B|exact B.2|exact B.2.2|exact B.2.2.2|exact B.2.2.2.2);have f2:=aS M B;have f3:=aS L B;have b0:(S1.setO bc (.cells 39 t.cs)).ge S1:=bQ B (aG S1);simp only[Tm.cs]at b0;simp only[go_sem,ht,b1,B,f1,f2,f3,L,M,U];refine fO (xD (b5.ge b0) _ _ _ [t] (iG u (λu=>?_) (λf hf=>?_))) (by rw[vX];rfl);rotate_left
       .simp only[go_sem];exact aF hf (b0.trans H)
       simp only[go_sem,ht,b1,B,f1,f2,f3,L,M,U];(refine bB (OT.r 0 15) [] ?_;simp only[go_sem,ht,b1,B,f1,f2,f3,L,M,U,hm,b8]);refine uJ (b5.ge b0) _ _ _ t _ (iG u (λu=>?_) (λf hf=>?_));rotate_left
       .simp only[go_sem];exact aF hf (b0.trans H)
       simp only[go_sem];exact⟨j+1,⟨b1,u⟩,by omega,bM j aB,b0⟩
      .have bf:j=x.cells.length:=Nat.le_antisymm hj (Nat.le_of_not_lt (gQ h));subst bf;rw[eC (bH _)]at u
       replace u:CK KV Kp s R:=u
       rw[<-hR]at u;exact⟨i+1,⟨z,u⟩,by omega,bM i aB,aG _⟩
    .have O:i=r.new.length:=Nat.le_antisymm hi (Nat.le_of_not_lt (gQ h));subst O;clear h hi;rw[eC (bH _)]at u
     replace u:CK KV Kp s (bU (dI (λs=>dN (!r.parts.any λx=>decide (x.at_=s)) ⟨13,s,r.line,r.col⟩) r.drop) (mJ r.line r.col [] r.drop)):=u
     simp only[go_sem,L,M]
     refine Ex.loop (ι:=Nat) (λi=>[(0,.ptr c 0),(4,.ptr q 0),(5,.ptr p 0),(86,.list none (r.drop.map .str)),(87,.int .i64 (r.drop.length:Nat)),(88,.int .i64 (i:Nat))])
      (λ_=>S1) (λi=>i<=r.drop.length/\CK KV Kp s (bU (dI (λs=>dN (!r.parts.any λx=>decide (x.at_=s)) ⟨13,s,r.line,r.col⟩) (r.drop.drop i)) (mJ r.line r.col [] r.drop))) (λi=>r.drop.length-i) 0 ⟨aX _,u⟩ ?_ (aG _) ?_
     .simp only[go_sem]
      try exact rfl
     .clear u;rintro i ⟨hi,u⟩;refine bC (V:=[0,1,2,4,5,7,9,10,11,13,14,15,17,18,19,20,40,47,48,49,50,54,55,56,57,86,87,88,89,96,102,103,104,105,114]) _ _ _ _ ?_;simp only[go_sem]
      (apply aQ<;>intro h)<;>simp only[go_sem,h]
      .have z:i<r.drop.length:=gQ h;clear h;obtain⟨a,ha⟩:∃a,r.drop[i]?=some a:=⟨_,aV z⟩
       rw[nU _ ha,lW]at u;simp only[go_sem,ha,z];(intro b4 F;try simp only[cZ,cN,bJ]at F);have f1:=aS U (by first|exact F|exact F.2|exact F.2.2|exact F.2.2.2|exact F.2.2.2.2);have f2:=aS M F;have f3:=aS L F;simp only[go_sem,ha,z,F,f1,f2,f3,L,M,U];refine aEt r.parts (λx=>decide (x.at_=a)) 114 [] [.ptr b4 0] _ _ _ (λy hy KV Kp u=>aKh b4 a y (by rw[aH,aE rfl]) u) ?_;cases hb:r.parts.any λx=>decide (x.at_=a)<;>rw[hb]at u<;>simp only[go_sem,F,f1,f2,f3,L,M,U]
       ·replace u:CK KV Kp s (some (⟨13,a,r.line,r.col⟩:Fault)):=u
        refine eD 13 _ _ _ ?_;simp only[go_sem];exact aF u ((bQ F (aG S1)).trans H)
       .exact⟨i+1,⟨z,u⟩,by omega,bM i aB,bL⟩
      .have O:i=r.drop.length:=Nat.le_antisymm hi (Nat.le_of_not_lt (gQ h));subst O;clear h hi;rw[eC (bH _)]at u
       replace u:CK KV Kp s (mJ r.line r.col [] r.drop):=u
       simp only[go_sem,L,M]
       refine Ex.loop (ι:=Nat) (λi=>[(0,.ptr c 0),(4,.ptr q 0),(5,.ptr p 0),(102,.list none (r.drop.map .str)),(103,.int .i64 (r.drop.length:Nat)),(104,.int .i64 (i:Nat))])
        (λ_=>S1) (λi=>i<=r.drop.length/\CK KV Kp s (mJ r.line r.col (r.drop.take i) (r.drop.drop i))) (λi=>r.drop.length-i) 0 ⟨aX _,u⟩ ?_ (aG _) ?_
       .simp only[go_sem]
        try exact rfl
       .clear u;rintro i ⟨hi,u⟩;refine bC (V:=[0,1,2,4,5,7,9,10,11,13,14,15,17,18,19,20,40,47,48,49,50,54,55,56,57,86,87,88,89,96,102,103,104,105,114]) _ _ _ _ ?_;simp only[go_sem]
        (apply aQ<;>intro h)<;>simp only[go_sem,h]
        .have z:i<r.drop.length:=gQ h;clear h;obtain⟨a,ha⟩:∃a,r.drop[i]?=some a:=⟨_,aV z⟩
         rw[aKW ha,<-sT ha]at u;simp only[go_sem,ha,z,L,M,U];refine⟨λy hy=>lD hy,hi,fO (kR _ (r.drop.take i) a _ _ ?_) (by rw[List.map_take])⟩;cases c1:decide (a∈r.drop.take i)<;>rw[c1]at u<;>simp only[go_sem,L,M,U]
         .exact⟨i+1,⟨z,u⟩,by omega,bM i aB,aG _⟩
         ·replace u:CK KV Kp s (some (⟨14,a,r.line,r.col⟩:Fault)):=u
          refine eD 14 _ _ _ ?_;simp only[go_sem];exact aF u H
        .have O:i=r.drop.length:=Nat.le_antisymm hi (Nat.le_of_not_lt (gQ h));subst O;rw[eC (bH _)]at u;exact aF u H
end
end
section
theorem aJa(x:Tm)(l:List Tm)(B:l.length<=4294967000)(t:Nat)(s:St)(KV Kp:St->A->Prop)(q:∀u,s.getT u=none->KV (s.setT u ((x::l).length,39)) (.list (some u) ((x::l).map Tm.enc))) :
  Den cx 69 [.list (some t) ((x::l).map Tm.enc)] KV Kp s:=by
 simp only[bP,cG];(refine aM func69 [0,2,4] ?_;simp only[go_sem,ntmps69,f69]);refine⟨by decide,λy h=>?_,by omega,λu z=>?_⟩
 .rcases List.mem_cons.1 h with rfl|h
  .rfl
  .exact nH h
 .simp only[go_sem];refine aN ?_;have:=q u z;simp only[bP,aO,cG,Tm.cs]at this;exact this
theorem aJS(l:List Tm)(h:l≠[])(y:l.length<=4294967000)(t:Nat)(s:St)(KV Kp:St->A->Prop)(q:∀u,s.getT u=none->KV (s.setT u (l.length,39)) (.list (some u) (l.map Tm.enc))) :
  Den cx 69 [.list (some t) (l.map Tm.enc)] KV Kp s:=by
 cases l with
 | nil=>exact cV rfl h
 | cons x l=>exact aJa x l (by rw[aO]at y;omega) t s KV Kp q
structure RlI (S1:St) (a:Option Nat) (n:Nat) (b:Option Nat) (m:Nat) (S:St):Prop where
 ge:S.ge S1
 ga:gY S a n 39
 gb:gY S b m 39
 na:∀t,a=some t->S1.getT t=none
 nb:∀t,b=some t->S1.getT t=none
 ne:∀t,a=some t->b≠some t
section
variable {S1 S S':St} {a b:Option Nat} {n m:Nat}
theorem RlI.swap(h:RlI S1 a n b m S):RlI S1 b m a n S:=⟨h.ge,h.gb,h.ga,h.nb,h.na,λt q u=>h.ne t u q⟩
theorem RlI.mono(h:RlI S1 a n b m S)(q:S'.ge S):RlI S1 a n b m S':=by
 refine⟨q.trans h.ge,?_,?_,h.na,h.nb,h.ne⟩
 .have:=h.ga;cases a with
  | none=>exact this
  | some t=>exact q.tk _ _ this
 .have:=h.gb;cases b with
  | none=>exact this
  | some t=>exact q.tk _ _ this
theorem RlI.step(h:RlI S1 a n b m S){t:Nat}(z:a=some t\/a=none/\S.getT t=none)(k:Nat):RlI S1 (some t) k b m (S.setT t (k,39)):=by
 have F:S1.getT t=none:=by
  rcases z with z|⟨_,z⟩
  .exact h.na t z
  .cases H:S1.getT t with
   | none=>rfl
   | some v=>rw[h.ge.tk _ _ H]at z;cases z
 have G:b≠some t:=by
  rcases z with z|⟨_,z⟩
  .exact h.ne t z
  .rintro rfl;have:S.getT t=some (m,39):=h.gb;rw[z]at this;cases this
 refine⟨⟨λq o L=>h.ge.ob q o L,λu v B=>?_,λy M=>h.ge.ls y M⟩,?_,?_,λu B=>by cases B;exact F,h.nb,λu B=>by cases B;exact G⟩
 .rw[cF,aD (λe=>by rw[<-e,F]at B;cases B)];exact h.ge.tk u v B
 .show(S.setT t (k,39)).getT t=_;rw[cF,aE rfl]
 .have:=h.gb;cases b with
  | none=>exact this
  | some u =>
   show(S.setT t (k,39)).getT u=_;rw[cF,aD (λe=>G (by rw[e]))];exact this
end
theorem aJY{d:Dfn}{b:List Part}{l:List Part}{i:Nat}{x:Part}(h:l[i]?=some x):pK d b (l.drop i)=bU (yU d b x) (pK d (b++[x]) (l.drop (i+1))):=by
 obtain⟨q,rfl⟩:=dH.1 h;rw[kO q];rfl
theorem aNb{l:List Part}{y:A}(h:y∈l.map Part.enc):y.cells.length=11:=by
 obtain⟨z,_,rfl⟩:=cC.1 h;rfl
theorem uO{α q:Type}(f:α->List q){l:List α}{i:Nat}{x:α}(h:l[i]?=some x):(l.take (i+1)).flatMap f=(l.take i).flatMap f++f x:=by
 rw[eO,h,List.flatMap_append];simp
theorem aF8{α q:Type}(f:α->List q)(l:List α)(i:Nat):((l.take i).flatMap f).length<=(l.flatMap f).length:=by
 have h:(l.flatMap f).length=((l.take i).flatMap f).length+((l.drop i).flatMap f).length:=by rw[<-aI,<-List.flatMap_append,List.take_append_drop]
 omega
theorem aL3(r:Rul):(bG (mD r++jD r)).length=(bG (sC r)).length:=by
 have h:∀q:List Part,(bG (q.map Part.left)).length+(bG (q.flatMap Part.right)).length=(bG (q.flatMap λp=>p.left::p.right)).length:=by
  intro q
  induction q with
  | nil=>rfl
  | cons x r u =>
   simp only[bP,kP,iP,bG,aI,bT]at u⊢;omega
 have:=h r.parts;simp only[mD,jD,sC,iP,aI]at this⊢;omega
section
variable {s:St} {KV Kp:St->A->Prop} {c:Nat} {d:Dfn}
theorem aKr(h:CkAt s c d)(ho:d.once.length<=4294967000)(hm:d.many.length<=4294967000)(L:List aC)(r:Rul)(hP:r.parts.length<=4294967000)(hW:∀x,x∈r.parts->TmW x.left)
  (hT:(bG (sC r)).length<=4294967000)(hn:r.new.length<=4294967000)(hd:r.drop.length<=4294967000)(B:CK KV Kp s (nJ d L r)) :
  Den cx 25 [.ptr c 0,.agg r.cs,.list none (L.map .str)] KV Kp s:=by
 have hC:=h;obtain⟨rb,hc,hB⟩:=h;unfold nJ at B;have c6:=aL3 r;rw[iP,aI]at c6;have cg:=nV (mD r);have cj:=nV (jD r)
 have cd:(r.parts.flatMap Part.right).length+(r.cond.length+(r.new.flatMap Fresh.cells).length)<=4294967000:=by
  have:(jD r).length=(r.parts.flatMap Part.right).length+(r.cond.length+(r.new.flatMap Fresh.cells).length):=by simp only[jD,aI];omega
  omega
 have c2:∀x,x∈r.new->x.cells.length<=4294967000:=λx G=>by
  have:x.cells.length<=(r.new.flatMap Fresh.cells).length:=by
   obtain⟨a,b,e⟩:=List.append_of_mem G;rw[e];simp only[List.flatMap_append,kP,aI];omega
  omega
 have c7:∀x,x∈r.parts->x.left.pre.length<=4294967000/\x.right.length<=4294967000:=λx G=>by
  have h1:x.left.pre.length<=(bG (mD r)).length:=xP (cC.2 ⟨x,G,rfl⟩)
  have h2:x.right.length<=(r.parts.flatMap Part.right).length:=by
   obtain⟨a,b,e⟩:=List.append_of_mem G;rw[e];simp only[List.flatMap_append,kP,aI];omega
  omega
 (refine aM func25 [0,1,2,4,6,7,8,9,10,11,13,15,21,30,40,41,42,43,65,66,67,68,93,94,95,96] ?_;simp only[go_sem,ntmps25,f25]);(refine aL λp hp=>?_);have e1:=aS hc hp;simp only[go_sem,hp];(refine aL λq hq=>?_);have e2:=aS hc hq.2;have Z:((s.setO p (.cells 46 r.cs)).setO q (.cells 75 [.int .i64 r.line,.int .i64 r.col])).ge s:=by simp only[Rul.cs];exact bA
 have gp:((s.setO p (.cells 46 r.cs)).setO q (.cells 75 [.int .i64 r.line,.int .i64 r.col])).getO p=some (.cells 46 r.cs):=by rw[aH,aD (λe=>hq.1.1 e.symm),aH,aE rfl]
 have gq:((s.setO p (.cells 46 r.cs)).setO q (.cells 75 [.int .i64 r.line,.int .i64 r.col])).getO q=some (.cells 75 [.int .i64 r.line,.int .i64 r.col]):=by rw[aH,aE rfl]
 simp only[go_sem,hp,hq,hc,e1,e2];generalize bm:((s.setO p (.cells 46 r.cs)).setO q (.cells 75 [.int .i64 r.line,.int .i64 r.col]))=S1 at Z gp gq;simp only[Rul.cs]at bm;rw[bm];clear bm;have c0:=hC.ge Z;have gc:=Z.ob _ _ hc;simp only[Rul.cs]at gp;refine kR _ L r.name _ _ ?_;by_cases h0:r.name∈L
 .rw[aE h0]at B;simp only[go_sem,gp,gq,cY h0];refine eD 14 _ _ _ ?_;simp only[go_sem];exact aF B Z
 rw[aD h0]at B
 have z1:decide (((r.parts.length:Nat):Int)=0)=decide (r.parts=[]):=by
  rw[cT];constructor
  .intro h;exact fD aB
  .intro h;rw[h];rfl
 have z2:decide (r.parts.length=0)=decide (r.parts=[]):=by rw[cT];exact List.length_eq_zero_iff
 by_cases h1:r.parts=[]
 .rw[aE h1]at B;simp only[go_sem,gp,gq,cJ h0,z1,z2,cY h1];refine eD 15 _ _ _ ?_;simp only[go_sem];exact aF B Z
 rw[aD h1]at B;simp only[go_sem,gp,gq,cJ h0,z1,z2,cJ h1]
 refine Ex.loop (ι:=Nat × Option Nat × Option Nat × St) (λk=>[(0,.ptr c 0),(4,.ptr p 0),(6,.ptr q 0),(7,gv k.2.1 (((r.parts.take k.1).map Part.left).map Tm.enc)),(8,gv k.2.2.1 (((r.parts.take k.1).flatMap Part.right).map Tm.enc)),(9,.nils),(40,.list none (r.parts.map Part.enc)),(41,.int .i64 (r.parts.length:Nat)),(42,.int .i64 (k.1:Nat))])
  (fun k => k.2.2.2) (fun k => k.1 ≤ r.parts.length ∧ RlI S1 k.2.1 ((r.parts.take k.1).map Part.left).length k.2.2.1 ((r.parts.take k.1).flatMap Part.right).length k.2.2.2 ∧ CK KV Kp s (bU (pK d (r.parts.take k.1) (r.parts.drop k.1)) (bU (rV r.line r.col (mD r ++ jD r)) (bU (rU r.line r.col (mD r) (jD r))
   (bU (dI (λt=>bU (lH d.sig r.name r.line r.col [t]) (iS d.sig r.name r.line r.col t [66,111,111,108])) r.cond) (pQ d r)))))) (λk=>r.parts.length-k.1) (0,none,none,S1)
  ⟨aX _,⟨aG _,rfl,rfl,λt ht=>(by cases ht),λt ht=>(by cases ht),λt ht=>(by cases ht)⟩,B⟩ ?_ (aG _) ?_
 .simp only[go_sem]
  try exact⟨rfl,rfl,rfl⟩
 .clear B;rintro⟨i,a,b,S⟩ ⟨hi,hR,B⟩;simp only at hi hR B;refine bC (V:=[0,1,2,4,6,7,8,9,10,11,13,15,21,30,40,41,42,43,65,66,67,68,93,94,95,96]) _ _ _ _ ?_;simp only[go_sem]
  (apply aQ<;>intro h)<;>simp only[go_sem,h]
  .have z:i<r.parts.length:=gQ h;clear h;obtain⟨x,G⟩:∃a,r.parts[i]?=some a:=⟨_,aV z⟩
   have bv:x∈r.parts:=cR G;obtain⟨c8,c9⟩:=c7 x bv;rw[aJY G,lW,<-sT G]at B;have bp:=hR.ge.ob _ _ gc;have O:=hR.ge.ob _ _ gp;simp only[go_sem,G,z];(intro bf H;try simp only[cZ,cN,bJ]at H);have f1:=aS O (by first|exact H|exact H.2|exact H.2.2|exact H.2.2.2|exact H.2.2.2.2);have bc:(S.setO bf (.cells 69 x.cs)).ge S:=bQ H (aG S);have gb:(S.setO bf (.cells 69 x.cs)).getO bf=some (.cells 69 x.cs):=by rw[aH,aE rfl]
   simp only[go_sem,G,z,H,f1,O];generalize bn:S.setO bf (.cells 69 x.cs)=S2 at bc gb;simp only[Part.cs,Tm.cs,bT,bO]at bn;rw[bn];clear bn f1 H;have bh:=hR.mono bc;have b3:=bc.ob _ _ O;simp only[Part.cs,Tm.cs,bT,bO]at gb;(refine bB (OT.r 0 7) [] ?_;simp only[go_sem,G,z,gb,b3]);refine⟨λy M=>aNb M,hi,?_⟩;rw[<-List.map_take];refine aJ4 (c0.ge bh.ge) ho hm _ x (hW x bv) c8 c9 (iG B (λB=>?_) (λf U=>?_));rotate_left
   .simp only[go_sem];exact aF U (bh.ge.trans Z)
   simp only[go_sem,G,z,gb,b3];(refine bB (OT.l [0,1,2,3,5,6,7,4,8,9,10] .nil) [(4,[7])] ?_;simp only[go_sem,G,z,gb,b3]);refine⟨by decide,λy M=>(by rw[cD.1 M];rfl),cU rfl rfl (by rw[aK];exact bh.ga) (λy M=>nH M) (by simp only[aK,dQ,aO,aT];omega) (λt ht=>?_)⟩;have bq:=bh.step ht ((r.parts.take i).length+1);simp only[go_sem,G,z,gb,b3];have b9:=aF8 Part.right r.parts (i+1);rw[uO _ G,aI]at b9;refine⟨by decide,λy M=>nH M,cU rfl rfl (by rw[aK];exact bq.gb) (λy M=>nH M) (by simp only[aK];omega) (λu hu=>?_)⟩;have br:=(bq.swap.step hu ((((r.parts.take i).flatMap Part.right).map Tm.enc).length+(x.right.map Tm.enc).length)).swap;simp only[go_sem,G,z,gb,b3];simp only[aK]at br⊢;refine⟨(i+1,some t,some u,_),⟨z,?_,B⟩,aP,⟨?_,?_,bM i aB⟩,aG _⟩
   .have q1:(r.parts.take (i+1)).length=(r.parts.take i).length+1:=by rw[sT G];simp
    have q2:((r.parts.take (i+1)).flatMap Part.right).length=((r.parts.take i).flatMap Part.right).length+x.right.length:=by rw[uO _ G,aI]
    show RlI S1 (some t) (r.parts.take (i+1)).length (some u) ((r.parts.take (i+1)).flatMap Part.right).length _;rw[q1,q2];exact br
   .rw[sT G,bY,bY];simp only[bP,cP,cG,Tm.cs];rfl
   .rw[uO _ G,bY];rfl
  .have bd:i=r.parts.length:=Nat.le_antisymm hi (Nat.le_of_not_lt (gQ h));subst bd;clear h hi;rw[eC (bH _)]at B;rw[List.take_length]at hR⊢
   replace B:CK KV Kp s (bU (rV r.line r.col (mD r++jD r)) (bU (rU r.line r.col (mD r) (jD r)) (bU (dI (λt=>bU (lH d.sig r.name r.line r.col [t]) (iS d.sig r.name r.line r.col t [66,111,111,108])) r.cond) (pQ d r)))):=B
   have O:=hR.ge.ob _ _ gp;have bk:=hR.ge.ob _ _ gq;have bp:=hR.ge.ob _ _ gc;simp only[go_sem,O,bk]
   refine Ex.loop (ι:=Nat × Option Nat) (λk=>[(0,.ptr c 0),(4,.ptr p 0),(6,.ptr q 0),(7,gv a ((r.parts.map Part.left).map Tm.enc)),(8,gv b ((r.parts.flatMap Part.right).map Tm.enc)),(9,gv k.2 (((r.new.take k.1).flatMap Fresh.cells).map Tm.enc)),(65,.list none (r.new.map Fresh.enc)),(66,.int .i64 (r.new.length:Nat)),(67,.int .i64 (k.1:Nat))])
    (λk=>gs S k.2 ((r.new.take k.1).flatMap Fresh.cells).length 39) (λk=>k.1<=r.new.length/\(k.2=none->((r.new.take k.1).flatMap Fresh.cells).length=0)/\∀t,k.2=some t->S.getT t=none) (λk=>r.new.length-k.1) (0,none)
    ⟨aX _,λ_=>rfl,λt ht=>(by cases ht)⟩ ?_ (aG _) ?_
   .simp only[go_sem]
    try exact⟨rfl,rfl⟩
   .rintro⟨i,k⟩ ⟨hi,bj,U⟩;simp only at hi bj U;refine bC (V:=[0,1,2,4,6,7,8,9,10,11,13,15,21,30,40,41,42,43,65,66,67,68,93,94,95,96]) _ _ _ _ ?_;simp only[go_sem]
    (apply aQ<;>intro h)<;>simp only[go_sem,h]
    .have z:i<r.new.length:=gQ h;clear h;obtain⟨x,G⟩:∃a,r.new[i]?=some a:=⟨_,aV z⟩
     simp only[go_sem,G,z];(refine mQ λcf b8=>?_);simp only[go_sem,G,z,b8];have b9:=aF8 Fresh.cells r.new (i+1);rw[uO _ G,aI]at b9;refine⟨by decide,λy M=>nH M,cU rfl rfl (by rw[aK];exact eE bj) (λy M=>nH M) (by simp only[aK];omega) (λu hu=>?_)⟩;have c3:=fB hu U;rw[eU hu];simp only[go_sem,G,z,b8];refine⟨(i+1,some u),⟨z,λh=>(by cases h),λt h=>by cases h;exact c3⟩,aP,⟨?_,bM i aB⟩,?_⟩
     .rw[uO _ G,bY];rfl
     .simp only[gs,aK];rw[uO _ G,aI];exact fY (gX b8)
    .have bd:i=r.new.length:=Nat.le_antisymm hi (Nat.le_of_not_lt (gQ h));subst bd;clear h hi;rw[List.take_length]at bj⊢
     obtain⟨t,rfl⟩:∃t,a=some t:=by
      cases a with
      | some t=>exact⟨t,rfl⟩
      | none=>exact cV (List.map_eq_nil_iff.1 (fD hR.ga)) h1
     have c1:b=none->r.parts.flatMap Part.right=[]:=λe=>by subst e;exact fD hR.gb
     have c4:k=none->r.new.flatMap Fresh.cells=[]:=λe=>fD (bj e)
     have bb:(gs S k (r.new.flatMap Fresh.cells).length 39).ge S:=gE (aG S) U;simp only[go_sem,O,bk];generalize gs S k (r.new.flatMap Fresh.cells).length 39=S5 at bb;have b4:=bb.ob _ _ O;have b6:=bb.ob _ _ bk;have bz:=bb.ob _ _ bp;have bt:=bb.trans (hR.ge.trans Z)
     refine⟨⟨by cases b<;>exact⟨rfl,rfl⟩,by cases k<;>exact⟨rfl,rfl⟩⟩,kU (show mM [.list none [gv b ((r.parts.flatMap Part.right).map Tm.enc),.list none (r.cond.map Tm.enc),gv k ((r.new.flatMap Fresh.cells).map Tm.enc)]] [.list none ([r.parts.flatMap Part.right,r.cond,r.new.flatMap Fresh.cells].map λl=>.list none (l.map Tm.enc))] from⟨A.le.list ⟨by simp only[aGB];exact⟨⟨hZ _ _ λe=>by rw[c1 e];rfl,rfl⟩,trivial⟩,⟨⟨bF _,rfl⟩,trivial⟩,by simp only[aGB];exact⟨⟨hZ _ _ λe=>by rw[c4 e];rfl,rfl⟩,trivial⟩,trivial⟩,trivial⟩)
      (aEi _ (by simp only[List.flatten_cons,List.flatten_nil,aI,aT];omega) _ _ _ ?_)⟩
     have b9:[r.parts.flatMap Part.right,r.cond,r.new.flatMap Fresh.cells].flatten=jD r:=by simp[jD]
     rw[b9];simp only[go_sem,b4,b6];(refine bB (OT.l [0,1,3,2,4,5] .nil) [(2,[0]),(4,[0])] ?_;simp only[go_sem,b4,b6]);have c5:r.parts.map Part.left≠[]:=λe=>h1 (List.map_eq_nil_iff.1 e)
     have ch:(r.parts.map Part.left).length=r.parts.length:=aK ..;have cb:(mD r).length=r.parts.length:=aK ..;refine aJS _ c5 aB t _ _ _ (λu hu=>?_);simp only[go_sem,b4,b6];refine⟨by decide,λy M=>nH M,λy M=>nH M,by omega,?_⟩
     have b0:((S5.setT u (r.parts.length,39)).setT u (r.parts.length+(jD r).length,39)).ge S5:=by
      rw[oH];exact gE (tk:=some u) (aG S5) (λt h=>by cases h;exact hu)
     rw[<-bY];refine aE4 _ _ (mD r++jD r) (by rw[iP,aI];omega) rfl (iG B (λB=>?_) (λf U=>?_));rotate_left
     .simp only[go_sem];exact aF U (b0.trans bt)
     simp only[go_sem,b4,b6];generalize (S5.setT u (r.parts.length,39)).setT u (r.parts.length+(jD r).length,39)=S6 at b0;have b5:=b0.ob _ _ b4;have b7:=b0.ob _ _ b6;have bg:=b0.ob _ _ bz;have b2:=b0.trans bt;refine aEF _ _ (mD r) (jD r) aB aB rfl rfl (iG B (λB=>?_) (λf U=>?_));rotate_left
     .simp only[go_sem];exact aF U b2
     simp only[go_sem,b5,b7];have bl:=hC.ge b2
     refine Ex.loop (ι:=Nat) (λi=>[(0,.ptr c 0),(4,.ptr p 0),(6,.ptr q 0),(93,.list none (r.cond.map Tm.enc)),(94,.int .i64 (r.cond.length:Nat)),(95,.int .i64 (i:Nat))])
      (λ_=>S6) (λi=>i<=r.cond.length/\CK KV Kp s (bU (dI (λt=>bU (lH d.sig r.name r.line r.col [t]) (iS d.sig r.name r.line r.col t [66,111,111,108])) (r.cond.drop i)) (pQ d r))) (λi=>r.cond.length-i) 0 ⟨aX _,B⟩ ?_ (aG _) ?_
     .simp only[go_sem]
      try exact rfl
     .clear B;rintro i ⟨hi,B⟩;refine bC (V:=[0,1,2,4,6,7,8,9,10,11,13,15,21,30,40,41,42,43,65,66,67,68,93,94,95,96]) _ _ _ _ ?_;simp only[go_sem]
      (apply aQ<;>intro h)<;>simp only[go_sem,h]
      .have z:i<r.cond.length:=gQ h;clear h;obtain⟨x,G⟩:∃a,r.cond[i]?=some a:=⟨_,aV z⟩
       rw[nU _ G,lW,lW]at B;simp only[go_sem,G,z];(intro bw F;try simp only[cZ,cN,bJ]at F);have f1:=aS b5 (by first|exact F|exact F.2|exact F.2.2|exact F.2.2.2|exact F.2.2.2.2);have f2:=aS b7 F;have f3:=aS bg F;have b1:(S6.setO bw (.cells 39 x.cs)).ge S6:=bQ F (aG S6);simp only[Tm.cs]at b1;simp only[go_sem,G,z,F,f1,f2,f3,b5,b7,bg];refine fO (xD (bl.ge b1) _ _ _ [x] (iG B (λB=>?_) (λf U=>?_))) (by rw[vX];rfl);rotate_left
       .simp only[go_sem];exact aF U (b1.trans b2)
       simp only[go_sem,G,z,F,f1,f2,f3,b5,b7,bg];refine uJ (bl.ge b1) _ _ _ x _ (iG B (λB=>?_) (λf U=>?_));rotate_left
       .simp only[go_sem];exact aF U (b1.trans b2)
       simp only[go_sem];exact⟨i+1,⟨z,B⟩,by omega,bM i aB,b1⟩
      .have bd:i=r.cond.length:=Nat.le_antisymm hi (Nat.le_of_not_lt (gQ h));subst bd;clear h hi;rw[eC (bH _)]at B
       replace B:CK KV Kp s (pQ d r):=B
       simp only[go_sem,b5,b7,bg];refine aJJ bl r hn c2 hd (CK.map (a:=pQ d r) B (λB=>?_) (λf U=>?_))
       .simp only[go_sem];exact aF B b2
       .simp only[go_sem];exact aF U b2
end
end
section
section
variable {s S S':St} {KV Kp:St->A->Prop} {c:Nat} {d:Dfn}
theorem aGr{tk:Option Nat}{n:Nat}{e:TypeId}(h:gY S tk n e)(q:S'.ge S):gY S' tk n e:=by
 cases tk with
 | none=>exact h
 | some t=>exact q.tk _ _ h
theorem aG3{tk:Option Nat}{u:Nat}(q:∀t,tk=some t->s.getT t=none)(y:S.ge s)(z:tk=some u\/tk=none/\S.getT u=none):s.getT u=none:=by
 rcases z with e|⟨_,e⟩
 .exact q u e
 .cases h:s.getT u with
  | none=>rfl
  | some v=>rw[y.tk _ _ h]at e;cases e
theorem aJW{sg:Sig}{b:List aC}{l:List Cel}{i:Nat}{x:Cel}(h:l[i]?=some x):nC sg b (l.drop i)=bU (aBi sg b x) (nC sg (b++[x.name]) (l.drop (i+1))):=by
 rw[uU h];rfl
theorem aJw(tk:Option Nat)(s:St)(l:List aC)(x:aC)(h:tk=none->l=[])(KV Kp:St->A->Prop)(q:KV s (.bool (decide (x∈l)))):Den cx 45 [gv tk (l.map .str),.str x] KV Kp s :=
 kU (show mM [gv tk (l.map .str),.str x] [.list none (l.map .str),.str x] from⟨hZ _ _ (λe=>by rw[h e];rfl),bF _,trivial⟩) (kR s l x KV Kp q)
theorem aJv(h:CkAt s c d)(hN:(d.once++d.many).length<=4294967000)(hP:∀x,x∈d.once++d.many->x.init.pre.length<=4294967000)(q:CK KV Kp s (nC d.sig [] (d.once++d.many))):Den cx 23 [.ptr c 0] KV Kp s:=by
 have hC:=h;obtain⟨r,hc,hB⟩:=h;have b2:=hc;simp only[Dfn.cs,Sig.cs,bT,bO]at b2;(refine aM func23 [0,2,4,5,7,19,20,21,22,30,39,72,73,74,75,79] ?_;simp only[go_sem,ntmps23,f23]);(refine bB (OT.l [0,1,2,3,4,5,6,7,8,9,13,10,11,12] .nil) [] ?_;simp only[go_sem,b2]);refine aB4 [d.once,d.many] (by simp only[List.flatten_cons,List.flatten_nil,dR];omega) _ _ _ ?_;rw[show [d.once,d.many].flatten=d.once++d.many by simp];generalize hL:d.once++d.many=L at hN hP q;clear hL;simp only[go_sem]
 refine Ex.loop (ι:=Nat × Option Nat) (λk=>[(0,.ptr c 0),(2,gv k.2 (((L.take k.1).map Cel.name).map .str)),(19,.list none (L.map Cel.enc)),(20,.int .i64 (L.length:Nat)),(21,.int .i64 (k.1:Nat))]) (λk=>gs s k.2 ((L.take k.1).map Cel.name).length 9)
  (λk=>k.1<=L.length/\(k.2=none->(L.take k.1).map Cel.name=[])/\(∀t,k.2=some t->s.getT t=none)/\CK KV Kp s (nC d.sig ((L.take k.1).map Cel.name) (L.drop k.1))) (λk=>L.length-k.1) (0,none) ⟨aX _,λ_=>rfl,λt h=>(by cases h),q⟩ ?_ (aG _) ?_
 .simp only[go_sem]
  try exact⟨rfl,rfl⟩
 .clear q;rintro⟨i,tk⟩ ⟨hi,hn,hf,q⟩;simp only at hi hn hf q;refine bC (V:=[0,2,4,5,7,19,20,21,22,30,39,72,73,74,75,79]) _ _ _ _ ?_;have Z:(gs s tk ((L.take i).map Cel.name).length 9).ge s:=gE (aG s) hf;have b8:gY (gs s tk ((L.take i).map Cel.name).length 9) tk ((L.take i).map Cel.name).length 9:=eE λe=>by rw[hn e];rfl
  simp only;generalize gs s tk ((L.take i).map Cel.name).length 9=S at Z b8;have gc:=Z.ob _ _ b2;simp only[go_sem]
  (apply aQ<;>intro h)<;>simp only[go_sem,h]
  .have O:i<L.length:=gQ h;clear h;obtain⟨x,hx⟩:∃a,L[i]?=some a:=⟨_,aV O⟩
   have b9:x∈L:=cR hx;rw[aJW hx]at q;simp only[go_sem,hx,O];(intro b4 z;try simp only[cZ,cN,bJ]at z);have f1:=aS gc (by first|exact z|exact z.2|exact z.2.2|exact z.2.2.2|exact z.2.2.2.2);simp only[go_sem,hx,O,z,f1];(intro b5 B;try simp only[cZ,cN,bJ]at B);have f2:=aS gc (by first|exact B|exact B.2|exact B.2.2|exact B.2.2.2|exact B.2.2.2.2);simp only[go_sem,hx,O,z,f1,B,f2];have H:((S.setO b4 (.cells 67 x.cs)).setO b5 (.cells 75 [.int .i64 x.line,.int .i64 x.col])).ge S:=by simp only[Cel.cs,Tm.cs,bT,bO];exact bA
   have M:((S.setO b4 (.cells 67 x.cs)).setO b5 (.cells 75 [.int .i64 x.line,.int .i64 x.col])).getO b4=some (.cells 67 x.cs):=by rw[aH,aD (λe=>B.1.1 e.symm),aH,aE rfl]
   have U:((S.setO b4 (.cells 67 x.cs)).setO b5 (.cells 75 [.int .i64 x.line,.int .i64 x.col])).getO b5=some (.cells 75 [.int .i64 x.line,.int .i64 x.col]):=by rw[aH,aE rfl]
   generalize b1:(S.setO b4 (.cells 67 x.cs)).setO b5 (.cells 75 [.int .i64 x.line,.int .i64 x.col])=S2 at H M U;simp only[Cel.cs,Tm.cs,bT,bO]at b1 M;rw[b1];clear b1 f1 f2 z B;have b6:=aGr b8 H;have G:=H.ob _ _ gc;have F:=H.trans Z;have b7:=hC.ge F;have bb:=hB.ge F;unfold aBi at q;refine aJw tk _ _ x.name hn _ _ ?_;by_cases c1:x.name∈(L.take i).map Cel.name
   .rw[aE c1]at q;simp only[go_sem,M,U,G,cY c1];refine eD 14 _ _ _ ?_;simp only[go_sem];exact aF q F
   rw[aD c1]at q;simp only[go_sem,M,U,G,cJ c1];(refine bB (OT.r 0 9) [] ?_;simp only[go_sem,M,U,G]);simp only[lW]at q;refine oV bb x.sort ?_;cases c2:hU d.sig x.sort<;>rw[c2]at q<;>simp only[go_sem,M,U,G]
   ·replace q:CK KV Kp s (some (⟨13,x.name,x.line,x.col⟩:Fault)):=q
    refine eD 13 _ _ _ ?_;simp only[go_sem];exact aF q F
   replace q:CK KV Kp s (bU (lH d.sig x.name x.line x.col [x.init]) (bU (iS d.sig x.name x.line x.col x.init x.sort) (bU (dI (λs=>dN (!decide (s=[36])) ⟨17,s,x.line,x.col⟩) (iI [x.init])) (nC d.sig ((L.take i).map Cel.name++[x.name]) (L.drop (i+1)))))):=q
   refine fO (xD b7 _ _ _ [x.init] (iG q (λq=>?_) (λf hf=>?_))) (by rw[vX];rfl);rotate_left
   .simp only[go_sem];exact aF hf F
   simp only[go_sem,M,U,G];refine uJ b7 _ _ _ x.init _ (iG q (λq=>?_) (λf hf=>?_));rotate_left
   .simp only[go_sem];exact aF hf F
   simp only[go_sem,M,U,G];refine fO (aEL [x.init] (by have:=hP x b9;simp only[bG,aI,aT];omega) _ _ _ ?_) (by rw[vX];rfl)
   have bg:(iI [x.init]).length<=4294967000:=by
    have h1:(iI [x.init]).length<=(bG [x.init]).length:=by
     unfold iI oK;rw[(rD _).length_eq,aK];exact List.length_filter_le _ _
    have:=hP x b9;simp only[bG,aI,aT]at h1;omega
   unfold strs;simp only[go_sem,M,U,G]
   refine Ex.loop (ι:=Nat) (λj=>[(0,.ptr c 0),(2,gv tk (((L.take i).map Cel.name).map .str)),(4,.ptr b4 0),(5,.ptr b5 0),(19,.list none (L.map Cel.enc)),(20,.int .i64 (L.length:Nat)),(21,.int .i64 (i:Nat)),(72,.list none ((iI [x.init]).map .str)),(73,.int .i64 ((iI [x.init]).length:Nat)),(74,.int .i64 (j:Nat))]) (λ_=>S2)
    (λj=>j<=(iI [x.init]).length/\CK KV Kp s (bU (dI (λs=>dN (!decide (s=[36])) ⟨17,s,x.line,x.col⟩) ((iI [x.init]).drop j)) (nC d.sig ((L.take i).map Cel.name++[x.name]) (L.drop (i+1))))) (λj=>(iI [x.init]).length-j) 0 ⟨aX _,q⟩ ?_ (aG _) ?_
   .simp only[go_sem]
    try exact rfl
   .clear q;rintro j ⟨hj,q⟩;refine bC (V:=[0,2,4,5,7,19,20,21,22,30,39,72,73,74,75,79]) _ _ _ _ ?_;simp only[go_sem]
    (apply aQ<;>intro h)<;>simp only[go_sem,h]
    .have b0:j<(iI [x.init]).length:=gQ h;clear h;obtain⟨a,ha⟩:∃a,(iI [x.init])[j]?=some a:=⟨_,aV b0⟩
     rw[nU _ ha,lW]at q;simp only[go_sem,ha,b0];cases c3:decide (a=[36])<;>rw[c3]at q<;>simp only[go_sem,ha,b0,c3,M,U]
     ·replace q:CK KV Kp s (some (⟨17,a,x.line,x.col⟩:Fault)):=q
      refine eD 17 _ _ _ ?_;simp only[go_sem];exact aF q F
     .exact⟨j+1,⟨b0,q⟩,by omega,bM j aB,aG _⟩
    .have bf:j=(iI [x.init]).length:=Nat.le_antisymm hj (Nat.le_of_not_lt (gQ h));subst bf;rw[eC (bH _)]at q
     replace q:CK KV Kp s (nC d.sig ((L.take i).map Cel.name++[x.name]) (L.drop (i+1))):=q
     simp only[go_sem,M,U];refine⟨by decide,λy hy=>(by rw[cD.1 hy];rfl),cU rfl rfl (by simp only[aK]at b6⊢;exact b6) (λy hy=>lD hy) (by simp only[aK,dQ,aO,aT];omega) (λu hu=>?_)⟩;have bc:=aG3 hf F hu;have b3:=sT hx;simp only[go_sem];refine⟨(i+1,some u),⟨O,λh=>(by cases h),λt h=>by cases h;exact bc,by rw[b3,bY];exact q⟩,aP,⟨by rw[b3,bY,bY];rfl,bM i aB⟩,?_⟩;show St.ge _ (s.setT u ((L.take (i+1)).length,9));rw[b3,aI];exact fY F
  .have bd:i=L.length:=Nat.le_antisymm hi (Nat.le_of_not_lt (gQ h));subst bd;rw[eC (bH _)]at q;exact aF q Z
theorem aJ0(h:CkAt s c d)(ho:d.once.length<=4294967000)(hm:d.many.length<=4294967000)(hO:d.sig.ops.length<=4294967000)(q:CK KV Kp s (vO d)):Den cx 24 [.ptr c 0] KV Kp s:=by
 have hC:=h;obtain⟨r,hc,hB⟩:=h;have b4:=hB;obtain⟨a,oo,f,ma,mo,mf,hr,ha,b5,hf,la,lo,lf⟩:=b4;unfold vO at q;(refine aM func24 [0,2,4,5,6,8,10,12,24,47,68,89,90,91,92,106,117,118,119,120,135] ?_;simp only[go_sem,ntmps24,f24]);(refine aL λp hp=>?_);have F:(s.setO p (.cells 75 [.int .i64 0,.int .i64 0])).ge s:=bQ hp (aG s);have H:(s.setO p (.cells 75 [.int .i64 0,.int .i64 0])).getO p=some (.cells 75 [.int .i64 0,.int .i64 0]):=by rw[aH,aE rfl]
 (try simp only[go_sem])
 generalize s.setO p (.cells 75 [.int .i64 0,.int .i64 0])=S at F H⊢;clear hp;have b1:=hC.ge F;have b0:=hB.ge F;have L:=F.ob _ _ hc;have gr:=F.ob _ _ hr;simp only[Dfn.cs,Sig.cs,bT,bO]at L gr;(refine bB (OT.r 0 11) [] ?_;simp only[go_sem,L,H]);refine oV b0 d.start ?_;cases c1:hU d.sig d.start<;>rw[c1]at q<;>simp only[go_sem,L,H]
 ·replace q:CK KV Kp s (some (⟨13,d.start,0,0⟩:Fault)):=q
  (refine bB (OT.r 0 7) [] ?_;simp only[go_sem,L,H]);refine eD 13 _ _ _ ?_;simp only[go_sem];exact aF q F
 rw[aCA]at q;refine aCi b1 ho hm d.watch ?_;cases c2:(gL d d.watch).2.2<;>rw[c2]at q<;>simp only[go_sem,L,H]
 ·replace q:CK KV Kp s (some (⟨13,d.watch,0,0⟩:Fault)):=q
  (refine bB (OT.r 0 7) [] ?_;simp only[go_sem,L,H]);refine eD 13 _ _ _ ?_;simp only[go_sem];exact aF q F
 cases c3:(gL d d.watch).2.1<;>rw[c3]at q<;>simp only[go_sem,L,H]
 rotate_left
 ·replace q:CK KV Kp s (some (⟨13,d.watch,0,0⟩:Fault)):=q
  (refine bB (OT.r 0 7) [] ?_;simp only[go_sem,L,H]);refine eD 13 _ _ _ ?_;simp only[go_sem];exact aF q F
 replace q:CK KV Kp s (bU (dN (!(decide (d.kind=[]) == decide (d.many.length=0))) ⟨15,d.kind,0,0⟩)
  (bU (dI (λo:Opr=>dN (decide (0<o.strict.length)&&(!(gL d [107]).2.2||!decide ((gL d [107]).1=[76,105,115,116]))) ⟨13,[107],0,0⟩) d.sig.ops)
  (dI (λo:Opr=>dN (decide (0<o.strict.length)&&sX d.sig o.sort) ⟨16,o.name,0,0⟩) d.sig.ops))):=q
 have z0:decide (((d.many.length:Nat):Int)=0)=decide (d.many.length=0):=by rw[cT];omega
 (refine bB (OT.r 0 14) [] ?_;simp only[go_sem,L,H,z0]);have key:(decide (d.kind=[]) == decide (d.many.length=0))=false\/(decide (d.kind=[]) == decide (d.many.length=0))=true:=by cases decide (d.kind=[])<;>cases decide (d.many.length=0)<;>simp
 rcases key with c4|c4<;>rw[c4]at q<;>simp only[go_sem,L,H,c4]
 ·replace q:CK KV Kp s (some (⟨15,d.kind,0,0⟩:Fault)):=q
  (refine bB (OT.r 0 7) [] ?_;simp only[go_sem,L,H]);refine eD 15 _ _ _ ?_;simp only[go_sem];exact aF q F
 rw[aCA]at q;refine aCi b1 ho hm [107] ?_;simp only[go_sem,L,H,gr]
 refine Ex.loop (ι:=Nat) (λi=>[(0,.ptr c 0),(2,.ptr p 0),(6,.str (gL d [107]).1),(8,.bool (gL d [107]).2.2),(89,.list none (d.sig.ops.map Opr.enc)),(90,.int .i64 (d.sig.ops.length:Nat)),(91,.int .i64 (i:Nat))]) (λ_=>S)
  (λi=>i<=d.sig.ops.length/\CK KV Kp s (bU (dI (λo:Opr=>dN (decide (0<o.strict.length)&&(!(gL d [107]).2.2||!decide ((gL d [107]).1=[76,105,115,116]))) ⟨13,[107],0,0⟩) (d.sig.ops.drop i))
  (dI (λo:Opr=>dN (decide (0<o.strict.length)&&sX d.sig o.sort) ⟨16,o.name,0,0⟩) d.sig.ops))) (λi=>d.sig.ops.length-i) 0 ⟨aX _,q⟩ ?_ (aG _) ?_
 .simp only[go_sem]
  try exact rfl
 .clear q;rintro i ⟨hi,q⟩;refine bC (V:=[0,2,4,5,6,8,10,12,24,47,68,89,90,91,92,106,117,118,119,120,135]) _ _ _ _ ?_;simp only[go_sem]
  (apply aQ<;>intro h)<;>simp only[go_sem,h]
  .have y:i<d.sig.ops.length:=gQ h;clear h;obtain⟨x,M⟩:∃a,d.sig.ops[i]?=some a:=⟨_,aV y⟩
   rw[nU _ M,lW]at q;have z:decide ((0:Int)<((x.strict.length:Nat):Int))=decide (0<x.strict.length):=by rw[cT];omega
   simp only[go_sem,M,y];(intro b2 B;try simp only[cZ,cN,bJ]at B);have U:=aS H (by first|exact B|exact B.2|exact B.2.2|exact B.2.2.2|exact B.2.2.2.2);have G:(S.setO b2 (.cells 64 x.cs)).ge S:=bQ B (aG S);simp only[Opr.cs]at G;cases O:decide (0<x.strict.length)<;>rw[O]at q<;>simp only[go_sem,M,y,B,U,z,O,H]
   .exact⟨i+1,⟨y,q⟩,by omega,bM i aB,G⟩
   cases c6:(gL d [107]).2.2<;>rw[c6]at q<;>simp only[go_sem,M,y,B,U,z,O,H,c6]
   ·replace q:CK KV Kp s (some (⟨13,[107],0,0⟩:Fault)):=q
    refine eD 13 _ _ _ ?_;simp only[go_sem];exact aF q (G.trans F)
   cases c7:decide ((gL d [107]).1=[76,105,115,116])<;>rw[c7]at q<;>simp only[go_sem,M,y,B,U,z,O,H,c6,c7]
   ·replace q:CK KV Kp s (some (⟨13,[107],0,0⟩:Fault)):=q
    refine eD 13 _ _ _ ?_;simp only[go_sem];exact aF q (G.trans F)
   .exact⟨i+1,⟨y,q⟩,by omega,bM i aB,G⟩
  .have Z:i=d.sig.ops.length:=Nat.le_antisymm hi (Nat.le_of_not_lt (gQ h));subst Z;clear h hi;rw[eC (bH _)]at q
   replace q:CK KV Kp s (dI (λo:Opr=>dN (decide (0<o.strict.length)&&sX d.sig o.sort) ⟨16,o.name,0,0⟩) d.sig.ops):=q
   simp only[go_sem,L,H,gr]
   refine Ex.loop (ι:=Nat) (λi=>[(0,.ptr c 0),(2,.ptr p 0),(117,.list none (d.sig.ops.map Opr.enc)),(118,.int .i64 (d.sig.ops.length:Nat)),(119,.int .i64 (i:Nat))]) (λ_=>S)
    (λi=>i<=d.sig.ops.length/\CK KV Kp s (dI (λo:Opr=>dN (decide (0<o.strict.length)&&sX d.sig o.sort) ⟨16,o.name,0,0⟩) (d.sig.ops.drop i))) (λi=>d.sig.ops.length-i) 0 ⟨aX _,q⟩ ?_ (aG _) ?_
   .simp only[go_sem]
    try exact rfl
   .clear q;rintro i ⟨hi,q⟩;refine bC (V:=[0,2,4,5,6,8,10,12,24,47,68,89,90,91,92,106,117,118,119,120,135]) _ _ _ _ ?_;simp only[go_sem]
    (apply aQ<;>intro h)<;>simp only[go_sem,h]
    .have y:i<d.sig.ops.length:=gQ h;clear h;obtain⟨x,M⟩:∃a,d.sig.ops[i]?=some a:=⟨_,aV y⟩
     rw[nU _ M]at q;have z:decide ((0:Int)<((x.strict.length:Nat):Int))=decide (0<x.strict.length):=by rw[cT];omega
     simp only[go_sem,M,y];(intro b3 u;try simp only[cZ,cN,bJ]at u);have U:=aS H (by first|exact u|exact u.2|exact u.2.2|exact u.2.2.2|exact u.2.2.2.2);have f2:=aS L u;have G:(S.setO b3 (.cells 64 x.cs)).ge S:=bQ u (aG S);simp only[Opr.cs]at G;simp only[go_sem,M,y,u,U,f2,z,H,L];(refine bB (OT.r 0 13) [] ?_;simp only[go_sem,M,y,u,U,f2,z,H,L]);cases O:decide (0<x.strict.length)<;>rw[O]at q<;>simp only[go_sem,M,y,u,U,f2,z,O,H,L]
     .exact⟨i+1,⟨y,q⟩,by omega,bM i aB,G⟩
     refine aII (b0.ge G) x.sort ?_;cases c6:sX d.sig x.sort<;>rw[c6]at q<;>simp only[go_sem,M,y,u,U,f2,z,O,H,L]
     .exact⟨i+1,⟨y,q⟩,by omega,bM i aB,G⟩
     ·replace q:CK KV Kp s (some (⟨16,x.name,0,0⟩:Fault)):=q
      refine eD 16 _ _ _ ?_;simp only[go_sem];exact aF q (G.trans F)
    .have Z:i=d.sig.ops.length:=Nat.le_antisymm hi (Nat.le_of_not_lt (gQ h));subst Z;rw[eC (bH _)]at q;exact aF q F
end
end
section
structure DfnC (d:Dfn):Prop where
 tm:∀t,t∈fQ d->TmW t
 pr:(bG (fQ d)).length<=4294967000
 nm:(gK d).length<=4294967000
 cl:d.once.length+d.many.length<=4294967000
 op:d.sig.ops.length+d.sig.funs.length<=4294967000
 nl:∀o,o∈d.sig.ops->o.name.length<=4611686018427387904/\o.pieces.length<=4294967000/\o.args.length<=4294967000
theorem aFV{α:Type}(f:α->List Tm){l:List α}{x:α}(h:x∈l):(bG (f x)).length<=(bG (l.flatMap f)).length:=by
 obtain⟨a,b,e⟩:=List.append_of_mem h;rw[e];simp only[List.flatMap_append,kP,iP,aI];omega
section
variable {s:St} {KV Kp:St->A->Prop} {d:Dfn}
theorem aJ8{b:List aC}{l:List Rul}{i:Nat}{x:Rul}(h:l[i]?=some x):pL d b (l.drop i)=bU (nJ d b x) (pL d (b++[x.name]) (l.drop (i+1))):=by
 rw[uU h];rfl
theorem aCb(hd:DfnC d)(hk:KV s (pJ d).enc):Den cx 11 [.agg d.cs] KV Kp s:=by
 refine Den.drop ?_;refine aEn aLj aOq func11 rfl rfl (gO rfl) ?_;refine ExD.seq ?_;refine bC (V:=[0,1,2,3,4,6,7,9,13,19,29,30,31,32,44,45,46,47]) _ _ _ _ ?_;simp only[go_sem,ntmps11,f11];(refine aL λb1 b5=>?_);simp only[go_sem,b5];(refine aL λL b4=>?_);simp only[go_sem,b5,b4];refine ExD.defer (by rfl) (b:=L) (by simp only[go_sem]) ?_;refine bC (V:=[0,1,2,3,4,6,7,9,13,19,29,30,31,32,44,45,46,47]) _ _ _ _ ?_;simp only[go_sem];(refine aL λb3 b7=>?_);have bf:(((s.setO b1 (.cells 31 d.cs)).setO L (.cells 51 [.int .i64 0,.str [],.int .i64 0,.int .i64 0])).setO b3 (.cells 75 [.int .i64 0,.int .i64 0])).ge s:=by simp only[Dfn.cs,Sig.cs,bT,bO];exact bA
 have g1:(((s.setO b1 (.cells 31 d.cs)).setO L (.cells 51 [.int .i64 0,.str [],.int .i64 0,.int .i64 0])).setO b3 (.cells 75 [.int .i64 0,.int .i64 0])).getO b1=some (.cells 31 d.cs):=by
  rw[aH,aD (λe=>b7.2.1.1 e.symm),aH,aD (λe=>b4.1.1 e.symm),aH,aE rfl]
 have g2:(((s.setO b1 (.cells 31 d.cs)).setO L (.cells 51 [.int .i64 0,.str [],.int .i64 0,.int .i64 0])).setO b3 (.cells 75 [.int .i64 0,.int .i64 0])).getO L=some (.cells 51 [.int .i64 0,.str [],.int .i64 0,.int .i64 0]):=by
  rw[aH,aD (λe=>b7.1.1 e.symm),aH,aE rfl]
 have g3:(((s.setO b1 (.cells 31 d.cs)).setO L (.cells 51 [.int .i64 0,.str [],.int .i64 0,.int .i64 0])).setO b3 (.cells 75 [.int .i64 0,.int .i64 0])).getO b3=some (.cells 75 [.int .i64 0,.int .i64 0]):=by
  rw[aH,aE rfl]
 have bq:=b4.2;simp only[go_sem,b5,b4,b7];generalize hS:((s.setO b1 (.cells 31 d.cs)).setO L (.cells 51 [.int .i64 0,.str [],.int .i64 0,.int .i64 0])).setO b3 (.cells 75 [.int .i64 0,.int .i64 0])=S at bf g1 g2 g3;simp only[Dfn.cs,Sig.cs,bT,bO]at hS g1;rw[hS];clear hS b5 b4 b7
 have z:CK (λs0 _=>KV s0 Fault.none.enc) (λs0 a=>∀f:Fault,a=.iface 51 f.enc->KV s0 f.enc) s (qK d):=by
  unfold pJ at hk;revert hk;cases qK d with
  | none=>exactλhk=>hk
  | some f =>
   intro hk g e;have:f.enc=g.enc:=by injection e
   rw[<-this];exact hk
 clear hk
 have bc:∀{s1:St} (o:Ob),s1.ge S->(s1.setO L o).ge s:=λo hg=>by
  have h:=hg.trans bf;exact⟨λq o' hq=>by rw[aH,aD (λe=>by rw[<-e,bq]at hq;cases hq)];exact h.ob _ _ hq,λt v ht=>h.tk t v ht,λy hy=>h.ls y hy⟩
 have bad:∀(f:Fault) (s1:St) (e:Env),e.get 2=some (.ptr L 0)->(∀g:Fault,A.iface 51 f.enc=.iface 51 g.enc->KV s g.enc)->s1.ge S->sE cx [ResultVar.cell 2 51] (DK KV) (DK Kp) (some L) (.panic (.iface 51 f.enc)) e s1:=by
  intro f s1 e g hb hg;have q2:=hg.ob _ _ g2;simp only[go_sem,q2];refine⟨f.cs,_,rfl,rfl,rfl,rfl,?_⟩;simp only[go_sem,q2,g];exact aF (hb f rfl) (bc _ hg)
 have br:∀(s1:St) (e:Env),e.get 2=some (.ptr L 0)->KV s Fault.none.enc->s1.ge S->DK KV s1 Fault.none.enc:=λs1 e g hb hg=>aF hb (hg.trans bf)
 unfold qK at z;refine fO (aJr d hd.tm (kS (nV _) hd.pr) hd.nm hd.cl ?_) (by simp only[Dfn.cs,Sig.cs,bT,bO]);cases c1:kZ d<;>rw[c1]at z<;>simp only[go_sem,g1,g2,g3]
 .rw[aE rfl]at z;refine eD 2 _ _ _ ?_;exact bad ⟨2,[],0,0⟩ _ _ rfl z (aG _)
 rw[aD fK]at z;refine fO (aKi d.sig hd.op hd.nl ?_) (by simp only[Sig.cs]);cases c2:qI d.sig<;>rw[c2]at z<;>simp only[go_sem,g1,g2,g3]
 .rw[aE rfl]at z;refine eD 16 _ _ _ ?_;exact bad ⟨16,[],0,0⟩ _ _ rfl z (aG _)
 rw[aD fK]at z
 have hv:d.sig.sorts.length<=40/\d.sig.below.length<=200/\d.sig.ops.length+d.sig.funs.length<=200:=by
  unfold qI at c2;simp only[dF,kD,gG]at c2;omega
 have O:d.once.length<=12/\d.many.length<=12/\d.rules.length<=300/\d.eqs.length<=300:=by
  unfold kZ at c1;simp only[dF,kD,gG]at c1;omega
 have hr:∀r,r∈d.rules->r.parts.length<=20/\r.new.length<=20/\r.drop.length<=20:=by
  unfold kZ at c1;simp only[dF,kD,gG,fS,dA]at c1;intro r hr;have:=c1.2.2.2.2.2.1 r hr;omega
 (refine bB (OT.r 0 7) [(3,[0])] ?_;simp only[go_sem,g1,g2,g3]);refine fO (aCC d.sig aB aB _ _ _ (λS2 r bd hB=>?_)) (by simp only[Sig.cs]);have Z:=bd.ob _ _ g1;simp only[go_sem,Z];(intro c hc;try simp only[cZ,cN,bJ]at hc);have f1:=aS Z (by first|exact hc|exact hc.2|exact hc.2.2|exact hc.2.2.2|exact hc.2.2.2.2);have b0:(S2.setO c (.cells 81 (d.cs++[.ptr r 0]))).ge S2:=bQ hc (aG S2);have gc:(S2.setO c (.cells 81 (d.cs++[.ptr r 0]))).getO c=some (.cells 81 (d.cs++[.ptr r 0])):=by rw[aH,aE rfl]
 simp only[go_sem,Z,f1];generalize hG:S2.setO c (.cells 81 (d.cs++[.ptr r 0]))=S3 at b0 gc;simp only[Dfn.cs,Sig.cs,bT,bO]at hG;rw[hG];clear hG hc;have hC:CkAt S3 c d:=⟨r,gc,hB.ge b0⟩;have bn:=b0.ob _ _ Z;have hS:=b0.trans bd;have bk:=hS.ob _ _ g2;clear Z gc hB b0 bd
 refine Ex.loop (ι:=Nat) (λi=>[(1,.ptr b1 0),(2,.ptr L 0),(4,.ptr c 0),(29,.list none (d.eqs.map Eqn.enc)),(30,.int .i64 (d.eqs.length:Nat)),(31,.int .i64 (i:Nat))]) (λ_=>S3)
  (λi=>i<=d.eqs.length/\CK (λs0 x=>KV s0 Fault.none.enc) (λs0 a=>∀(f:Fault),a=A.iface 51 f.enc->KV s0 f.enc) s (bU (dI (wD d.sig) (d.eqs.drop i)) (bU (nC d.sig [] (d.once++d.many)) (bU (vO d) (pL d [] d.rules))))) (λi=>d.eqs.length-i) 0 ⟨aX _,z⟩ ?_ (aG _) ?_
 .simp only[go_sem]
  try exact rfl
 .clear z;rintro i ⟨hi,z⟩;refine bC (V:=[0,1,2,3,4,6,7,9,13,19,29,30,31,32,44,45,46,47]) _ _ _ _ ?_;simp only[go_sem]
  (apply aQ<;>intro h)<;>simp only[go_sem,h]
  .have F:i<d.eqs.length:=gQ h;clear h;obtain⟨x,U⟩:∃a,d.eqs[i]?=some a:=⟨_,aV F⟩
   have M:x∈d.eqs:=cR U;rw[nU _ U,lW]at z;simp only[go_sem,U,F];(intro b6 G;try simp only[cZ,cN,bJ]at G);have f2:=aS bk (by first|exact G|exact G.2|exact G.2.2|exact G.2.2.2|exact G.2.2.2.2);have H:(S3.setO b6 (.cells 41 x.cs)).ge S3:=bQ G (aG S3);simp only[Eqn.cs,Tm.cs,bT,bO]at H;simp only[go_sem,U,F,G,f2];refine fO (aMN (hC.ge H) x (λt ht=>hd.tm t ?_) ?_ (iG z (λz=>?_) (λf O=>?_))) (by simp only[Eqn.cs,Tm.cs,bT,bO])
   .exact List.mem_append_left _ (List.mem_flatMap.2 ⟨x,M,ht⟩)
   .have h1:=aFV jW M;have h2:=hd.pr;simp only[fQ,iP,aI]at h2;omega
   rotate_left
   .exact bad f _ _ rfl O (H.trans hS)
   simp only[go_sem];exact⟨i+1,⟨F,z⟩,by omega,bM i aB,H⟩
  .have bg:i=d.eqs.length:=Nat.le_antisymm hi (Nat.le_of_not_lt (gQ h));subst bg;clear h hi;rw[eC (bH _)]at z
   replace z:CK (λs0 x=>KV s0 Fault.none.enc) (λs0 a=>∀(f:Fault),a=A.iface 51 f.enc->KV s0 f.enc) s (bU (nC d.sig [] (d.once++d.many)) (bU (vO d) (pL d [] d.rules))):=z
   refine aJv hC (by rw[aI];omega) (λx U=>?_) (iG z (λz=>?_) (λf O=>?_))
   .have h1:=xP (l:=(d.once++d.many).map Cel.init) (cC.2 ⟨x,U,rfl⟩);have h2:=hd.pr;simp only[fQ,iP,aI]at h1 h2;omega
   rotate_left
   .exact bad f _ _ rfl O hS
   simp only[go_sem];refine aJ0 hC aB aB aB (iG z (λz=>?_) (λf O=>?_));rotate_left
   .exact bad f _ _ rfl O hS
   simp only[go_sem,bn]
   refine Ex.loop (ι:=Nat × Option Nat) (λk=>[(1,.ptr b1 0),(2,.ptr L 0),(4,.ptr c 0),(7,gv k.2 (((d.rules.take k.1).map Rul.name).map .str)),(44,.list none (d.rules.map Rul.enc)),(45,.int .i64 (d.rules.length:Nat)),(46,.int .i64 (k.1:Nat))]) (λk=>gs S3 k.2 ((d.rules.take k.1).map Rul.name).length 9)
    (λk=>k.1<=d.rules.length/\(k.2=none->(d.rules.take k.1).map Rul.name=[])/\(∀t,k.2=some t->S3.getT t=none)/\CK (λs0 x=>KV s0 Fault.none.enc) (λs0 a=>∀(f:Fault),a=A.iface 51 f.enc->KV s0 f.enc) s (pL d ((d.rules.take k.1).map Rul.name) (d.rules.drop k.1))) (λk=>d.rules.length-k.1) (0,none)
    ⟨aX _,λ_=>rfl,λt h=>(by cases h),z⟩ ?_ (aG _) ?_
   .simp only[go_sem]
    try exact⟨rfl,rfl⟩
   .clear z;rintro⟨i,tk⟩ ⟨hi,hn,O,z⟩;simp only at hi hn O z;refine bC (V:=[0,1,2,3,4,6,7,9,13,19,29,30,31,32,44,45,46,47]) _ _ _ _ ?_;have b8:(gs S3 tk ((d.rules.take i).map Rul.name).length 9).ge S3:=gE (aG S3) O;have bm:gY (gs S3 tk ((d.rules.take i).map Rul.name).length 9) tk ((d.rules.take i).map Rul.name).length 9:=eE λe=>by rw[hn e];rfl
    simp only;generalize gs S3 tk ((d.rules.take i).map Rul.name).length 9=S4 at b8 bm;have bl:=b8.ob _ _ bk;simp only[go_sem]
    (apply aQ<;>intro h)<;>simp only[go_sem,h]
    .have F:i<d.rules.length:=gQ h;clear h;obtain⟨x,U⟩:∃a,d.rules[i]?=some a:=⟨_,aV F⟩
     have M:x∈d.rules:=cR U;obtain⟨bt,bv,bw⟩:=hr x M;rw[aJ8 U]at z;simp only[go_sem,U,F];(intro b9 B;try simp only[cZ,cN,bJ]at B);have f2:=aS bl (by first|exact B|exact B.2|exact B.2.2|exact B.2.2.2|exact B.2.2.2.2);have H:(S4.setO b9 (.cells 46 x.cs)).ge S4:=bQ B (aG S4);have g9:(S4.setO b9 (.cells 46 x.cs)).getO b9=some (.cells 46 x.cs):=by rw[aH,aE rfl]
     simp only[go_sem,U,F,B,f2];generalize hG:S4.setO b9 (.cells 46 x.cs)=S5 at H g9;simp only[Rul.cs]at hG g9;rw[hG];clear hG B f2;have bb:=H.trans b8;have bj:=aGr bm H
     refine kU (show mM [.ptr c 0,.agg x.cs,gv tk (((d.rules.take i).map Rul.name).map .str)] [.ptr c 0,.agg x.cs,.list none (((d.rules.take i).map Rul.name).map .str)] from⟨bF _,bF _,hZ _ _ (λe=>by rw[hn e];rfl),trivial⟩)
      (aKr (hC.ge bb) aB aB _ x aB (λp hp=>hd.tm _ ?_) ?_ aB aB (iG z (λz=>?_) (λf O=>?_)))
     .exact List.mem_append_right _ (List.mem_append_right _ (List.mem_flatMap.2 ⟨x,M,List.mem_append_left _ (List.mem_flatMap.2 ⟨p,hp,dZ ..⟩)⟩))
     .have h1:=aFV sC M;have h2:=hd.pr;simp only[fQ,iP,aI]at h2;omega
     rotate_left
     .exact bad f _ _ rfl O (bb.trans hS)
     simp only[go_sem,g9];refine⟨by decide,λy hy=>(by rw[cD.1 hy];rfl),cU rfl rfl (by simp only[aK]at bj⊢;exact bj) (λy hy=>lD hy) (by simp only[aK,dQ,aO,aT];omega) (λu hu=>?_)⟩;have bp:=aG3 O bb hu;have bh:=sT U;simp only[go_sem];refine⟨(i+1,some u),⟨F,λh=>(by cases h),λt h=>by cases h;exact bp,by rw[bh,bY];exact z⟩,aP,⟨by rw[bh,bY,bY];rfl,bM i aB⟩,?_⟩;show St.ge _ (S3.setT u ((d.rules.take (i+1)).length,9));rw[bh,aI];exact fY bb
    .have bg:i=d.rules.length:=Nat.le_antisymm hi (Nat.le_of_not_lt (gQ h));subst bg;rw[eC (bH _)]at z
     replace z:KV s Fault.none.enc:=z
     simp only[go_sem,bl];exact aF z (bc _ (b8.trans hS))
theorem sP(q:DfnC d)(h:KV s (.bool (jC d))):Den cx 6 [.agg d.cs] KV Kp s:=by
 unfold jC at h;(refine aM func6 [0,1,2] ?_;simp only[go_sem,ntmps6,Tryz.f6]);(refine aL λp u=>?_);simp only[go_sem,u];refine fO (aCb q ?_) (by simp only[Dfn.cs,Sig.cs,bT,bO]);simp only[go_sem];exact aF h bA
end
end
theorem aHF(t:Tm):t.enc.bulk=t.text.length+(t.sort.length+(cH (t.kids.map Tm.enc)+cH (t.rest.map Tm.enc))):=by
 rw[cG];simp only[A.bulk,Tm.cs,cW,Nat.add_zero,fL]
theorem kV{α:Type}(q:α->A):∀{l:List α} {x:α},x∈l->(q x).bulk+1<=cH (l.map q)
 | y::r,x,h=>by
  simp only[bP,cH];rcases List.mem_cons.1 h with rfl|h
  .omega
  .have:=kV q h;omega
theorem aMU(N:Nat):∀t:Tm,SizeOf.sizeOf t<N->t.enc.bulk<=100000000->TmW t:=by
 induction N with
 | zero=>intro t h;omega
 | succ N u =>
  intro t L H;have e:=aHF t;have z:=λx (q:x∈t.kids)=>(show TmW x from u x (by have:=zU q;omega) (by have:=kV Tm.enc q;omega))
  have B:=λx (q:x∈t.rest)=>(show TmW x from u x (by have:=aB6 q;omega) (by have:=kV Tm.enc q;omega))
  have F:=iN Tm.enc t.kids;have G:=iN Tm.enc t.rest;obtain⟨k,n,x,y,a,b⟩:=t;simp only[Tm.text,Tm.sort,Tm.kids,Tm.rest]at e z B F G;exact .mk k n x y a b aB aB z B aB aB
theorem aC0(t:Tm):cW t.cs=t.enc.bulk:=by rw[cG];rfl
theorem aGb(e:Eqn):e.enc.bulk=e.left.enc.bulk+(e.right.enc.bulk+cH (e.cond.map Tm.enc)):=by
 simp only[Eqn.enc,Eqn.cs,A.bulk,qD,cW,aC0,Nat.add_zero]
theorem aGv(c:Cel):c.enc.bulk=c.name.length+(c.sort.length+c.init.enc.bulk):=by
 simp only[Cel.enc,Cel.cs,A.bulk,qD,cW,aC0,Nat.add_zero]
theorem aFu(p:Part):p.enc.bulk=p.cell.length+(p.at_.length+(p.left.enc.bulk+cH (p.right.map Tm.enc))):=by
 simp only[Part.enc,Part.cs,A.bulk,qD,cW,aC0,Nat.add_zero]
theorem aFj(f:Fresh):f.enc.bulk=cH (f.cells.map Tm.enc):=by
 simp only[Fresh.enc,Fresh.cs,A.bulk,cW,Nat.add_zero]
theorem aCR(r:Rul):r.enc.bulk=r.name.length+(cH (r.parts.map Part.enc)+(cH (r.cond.map Tm.enc)+(cH (r.new.map Fresh.enc)+cH (r.drop.map .str)))):=by
 simp only[Rul.enc,Rul.cs,A.bulk,cW,Nat.add_zero]
theorem aAz(d:Dfn):cW d.cs=d.name.length+(cW d.sig.cs+(cH (d.eqs.map Eqn.enc)+(cH (d.once.map Cel.enc)+(d.kind.length+(cH (d.many.map Cel.enc)+(cH (d.rules.map Rul.enc)+(d.start.length+d.watch.length))))))):=by
 simp only[Dfn.cs,A.bulk,qD,cW,Nat.add_zero]
theorem aMa(x:Sig):cW x.cs=cH (x.sorts.map .str)+(cH (x.below.map Below.enc)+(cH (x.ops.map Opr.enc)+(cH (x.funs.map Opr.enc)+cH (x.values.map .str)))):=by
 simp only[Sig.cs,A.bulk,cW,Nat.add_zero]
theorem aMv(o:Opr):o.enc.bulk=o.name.length+(cH (o.args.map .str)+(o.sort.length+(cH (o.pieces.map Piece.enc)+cH (o.strict.map (.int .i64))))):=by
 simp only[Opr.enc,Opr.cs,A.bulk,cW,Nat.add_zero,fL]
theorem aMF(N:Nat){d:Dfn}(z:cW d.cs<=N):∀t,t∈qT d->t.enc.bulk<=N:=by
 rw[aAz]at z;intro t h;simp only[qT,dK,List.mem_flatMap]at h;rcases h with⟨e,q,h⟩|⟨c,q,h⟩|⟨r,q,h⟩
 .have u:=kV Eqn.enc q;rw[aGb]at u;simp only[lM,dK,dD,List.mem_nil_iff,eT]at h;rcases h with(rfl|rfl)|h
  .omega
  .omega
  .have:=kV Tm.enc h;omega
 .have u:c.enc.bulk<=cH (d.once.map Cel.enc)+cH (d.many.map Cel.enc):=by
   rcases q with q|q
   .have:=kV Cel.enc q;omega
   .have:=kV Cel.enc q;omega
  rw[aGv]at u;simp only[kL,cD]at h;rw[h];omega
 .have u:=kV Rul.enc q;rw[aCR]at u;simp only[jX,lL,dK,List.mem_flatMap,dD,List.mem_nil_iff,eT]at h;rcases h with⟨p,F,h⟩|h|⟨f,B,h⟩
  .have y:=kV Part.enc F;rw[aFu]at y;rcases h with rfl|h
   .omega
   .have:=kV Tm.enc h;omega
  .have:=kV Tm.enc h;omega
  .have y:=kV Fresh.enc B;rw[aFj]at y;have:=kV Tm.enc h;omega
theorem aMs(N:Nat):(∀t:Tm,SizeOf.sizeOf t<N->t.pre.length<=1+t.enc.bulk)/\∀l:List Tm,(∀t,t∈l->SizeOf.sizeOf t<N)->(bG l).length<=cH (l.map Tm.enc):=by
 induction N with
 | zero=>exact⟨λt h=>by omega,λl h=>by
   cases l with
   | nil=>exact aX _
   | cons t r=>exact cV (h t (dZ ..)) aB⟩
 | succ N y =>
  have key:∀t:Tm,SizeOf.sizeOf t<N+1->t.pre.length<=1+t.enc.bulk:=λt F=>by
   have z:=y.2 t.kids (λx q=>by have:=zU q;omega);have B:=y.2 t.rest (λx q=>by have:=aB6 q;omega);have:=aHF t;rw[xH,iP,aO,aI];omega
  refine⟨key,λl h=>?_⟩
  induction l with
  | nil=>exact aX _
  | cons t r u =>
   have z:=key t (h t (dZ ..));have B:=u (λx q=>h x (lO _ q));simp only[bG,aI,bP,cH];omega
theorem zC(t:Tm):t.pre.length<=1+t.enc.bulk:=(aMs _).1 t (lQ _)
theorem aBd(l:List Tm):(bG l).length<=cH (l.map Tm.enc):=by
 induction l with
 | nil=>exact aX _
 | cons t r h=>have:=zC t;simp only[bG,aI,bP,cH];omega
theorem xS{α:Type}(g:α->List Tm)(q:α->A):∀l:List α,(∀x,x∈l->(bG (g x)).length<=2 * ((q x).bulk+1))->(bG (l.flatMap g)).length<=2 * cH (l.map q)
 | [],_=>aX _
 | x::r,h=>by
  have z:=xS g q r (λy u=>h y (lO _ u));have B:=h x (dZ ..);rw[kP,iP,aI,bP,cH];omega
theorem aGu{α:Type}(g:α->List aC)(q:α->A):∀l:List α,(∀x,x∈l->(g x).length<=(q x).bulk+1)->(l.flatMap g).length<=cH (l.map q)
 | [],_=>aX _
 | x::r,h=>by
  have z:=aGu g q r (λy u=>h y (lO _ u));have B:=h x (dZ ..);rw[kP,aI,bP,cH];omega
theorem aOM(x:Eqn):(bG (jW x)).length<=2 * (x.enc.bulk+1):=by
 have h:=zC x.left;have q:=zC x.right;have u:=aBd x.cond;rw[aGb];simp only[jW,bG,aI];omega
theorem aOL(r:Rul):(bG (sC r)).length<=2 * (r.enc.bulk+1):=by
 have h:=xS (λp=>p.left::p.right) Part.enc r.parts (λp _=>by
  have h:=zC p.left;have q:=aBd p.right;rw[aFu];simp only[bG,aI];omega)
 have q:=aBd r.cond
 have u:=xS Fresh.cells Fresh.enc r.new (λf _=>by
  have:=aBd f.cells;rw[aFj];omega)
 rw[aCR];simp only[sC,iP,aI];omega
theorem aOw(r:Rul):(pR r).length<=r.enc.bulk+1:=by
 have h:=iN Part.enc r.parts;have q:=iN A.str r.drop;rw[aCR];simp only[pR,aI,aO];refine kS (Nat.add_le_add_left (List.length_filter_le _ _) _) ?_;rw[aK];omega
theorem xL(d:Dfn)(z:cW d.cs<=100000000):DfnC d:=by
 have F:=aMF 100000000 z;rw[aAz,aMa]at z;have B:=iN Cel.enc d.once;have M:=iN Cel.enc d.many;have O:=iN Opr.enc d.sig.ops;have U:=iN Opr.enc d.sig.funs;refine⟨λt h=>aMU _ t (lQ _) (F t (by rw[yG];exact h)),?_,?_,?_,by omega,λo ho=>?_⟩
 .have u:=xS jW Eqn.enc d.eqs (λx _=>aOM x);have y:=xS sC Rul.enc d.rules (λx _=>aOL x)
  have q:∀l:List Cel,(bG (l.map Cel.init)).length<=cH (l.map Cel.enc):=by
   intro l
   induction l with
   | nil=>exact aX _
   | cons x r Z =>
    have L:=zC x.init;have B:=aGv x;simp only[bP,bG,aI,cH];omega
  have G:=q d.once;have H:=q d.many;simp only[fQ,bY,iP,aI];omega
 .have y:=aGu pR Rul.enc d.rules (λx _=>aOw x);have q:(if d.kind=[] then([]:List aC) else [d.kind]).length<=1:=by split<;>simp
  simp only[gK,aI,aK,aO,aT];omega
 .omega
 .have u:=kV Opr.enc ho;rw[aMv]at u;have y:=iN Piece.enc o.pieces;have q:=iN A.str o.args;exact⟨by omega,by omega,by omega⟩
structure TokW (N:Nat) (t:Tok):Prop where
 kind:t.kind=1/\(∃c r,t.text=c::r/\rX c.toNat=true)\/t.kind=2/\t.text=[]\/t.kind=3\/t.kind=4/\(t.text∈gV\/t.text=[39]\/t.text=[95])
 num:0<=t.n/\t.n<=2147483647
 col:0<=t.col/\t.col<=N
 line:0<=t.line/\t.line<=N
 txt:t.text.length<=N
theorem xT:∀(w:aC) (p:Nat × Nat),(dJ p w).1<=p.1+w.length/\(dJ p w).2<=p.2+w.length/\(1<=p.2->1<=(dJ p w).2)
 | [],p=>⟨bH _,bH _,λh=>h⟩
 | b::r,(l,c)=>by
  simp only[dJ];split
  .have:=xT r (l+1,1);simp only[aO]at this⊢;refine⟨?_,?_,λh=>this.2.2 (bH _)⟩<;>omega
  .have:=xT r (l,c+1);simp only[aO]at this⊢;refine⟨?_,?_,λh=>this.2.2 aB⟩<;>omega
theorem aCo(w:aC):∀(sg:List aC) (n:Nat),jB w sg n=n\/w.take (jB w sg n)∈sg
 | [],n=>.inl rfl
 | x::r,n=>by
  simp only[jB];split
  .rename_i h;rcases aCo w r x.length with q|q
   .rw[q];refine .inr (List.mem_cons.2 (.inl ?_));have u:=h.2;simp only[mG,dF,dA]at u;exact u.2
   .exact .inr (List.mem_cons.2 (.inr q))
  .rcases aCo w r n with q|q
   .exact .inl q
   .exact .inr (List.mem_cons.2 (.inr q))
theorem aM6{c:UInt8}{r:aC}{t:Tok}{n N:Nat}(h:kK (c::r) gV true=(t,n,true))(Z:(c::r).length<=N)(l k:Nat)(hl:l<=N)(hk:k<=N):TokW N ⟨t.kind,t.text,t.n,l,k⟩:=by
 have q:∀m,((c::r).take m).length<=N:=λm=>by rw[dQ];omega
 have O:=aCH h;have F:(0:Int)<=(k:Int)/\(k:Int)<=N:=⟨by omega,by omega⟩;have y:(0:Int)<=(l:Int)/\(l:Int)<=N:=⟨by omega,by omega⟩;have G:(0:Int)<=0/\(0:Int)<=2147483647:=by decide
 simp only[kK]at h;split at h
 .rename_i U;simp only[lS,dA]at h;obtain⟨rfl,u,_⟩:=h;refine⟨.inl ⟨rfl,?_⟩,G,F,y,q _⟩;have B:rX c.toNat=true:=by simp only[dU,dF]at U;exact U.2.1
  obtain⟨m,hm⟩:∃m,n=m+1:=⟨n-1,by omega⟩
  rw[hm]at u;rw[u];exact⟨c,r.take m,rfl,B⟩
 .split at h
  .simp only[pN]at h;split at h
   .simp only[lS,cQ,and_false]at h
   .simp only[lS,dA]at h;obtain⟨rfl,_,L⟩:=h;exact⟨.inr (.inl ⟨rfl,rfl⟩),⟨Int.natCast_nonneg _,aP⟩,F,y,aX _⟩
  .split at h
   .simp only[lS]at h;obtain⟨z,u,_⟩:=h;generalize (Lib.indexByte r 34+2).toNat-2=m at z;subst z;refine⟨.inr (.inr (.inl rfl)),G,F,y,?_⟩;show(r.take m).length<=N;rw[dQ];rw[aO]at Z;omega
   .simp only[lS,dA]at h;obtain⟨z,u,L⟩:=h;rw[u]at z L;subst z;refine⟨.inr (.inr (.inr ⟨rfl,?_⟩)),G,F,y,q n⟩;show(c::r).take n∈gV\/(c::r).take n=[39]\/(c::r).take n=[95];by_cases H:jB (c::r) gV 0=0/\True/\(c=39\/c=95)
    .rw[aE (gQ H)]at u;subst u;rcases H.2.2 with rfl|rfl
     .exact .inr (.inl rfl)
     .exact .inr (.inr rfl)
    .rw[aD (gQ H)]at u;subst u;rcases aCo (c::r) gV 0 with M|M
     .omega
     .exact .inl M
theorem aHm(N:Nat):∀(f:Nat) (w:aC) (p:Nat × Nat) (q:List Tok) (l:List Tok),p.1+w.length<=N->p.2+w.length<=N->q.length+w.length<=N->(∀t,t∈q->TokW N t)->nM gV true f w p q=.ok l ->
  l.length<=N/\∀t,t∈l->TokW N t
 | _,[],p,q,l,F,G,y,z,h=>by
  simp only[nM]at h;cases h;exact⟨gQ y,z⟩
 | 0,_::_,p,q,l,F,G,y,z,h=>by
  simp only[nM]at h;cases h;exact⟨by omega,z⟩
 | f+1,c::r,p,q,l,F,G,y,z,h=>by
  simp only[nM]at h;rcases u:kK (c::r) gV true with⟨t,n,ok⟩
  rw[u]at h;cases ok with
  | false=>cases h
  | true =>
   simp only at h;obtain⟨U,H⟩:=aCH u;have O:eF ((c::r).drop n)<=((c::r).drop n).length:=vC _ _;have M:=xT ((c::r).take n) p;have a2:=xT (((c::r).drop n).take (eF ((c::r).drop n))) (dJ p ((c::r).take n));simp only[dQ,cS,aO]at M a2 O F G y H;refine aHm N f _ _ _ l ?_ ?_ ?_ ?_ h
   .simp only[cS,aO];omega
   .simp only[cS,aO];omega
   .simp only[aI,aO,aT,cS]at y⊢;omega
   .intro Z L;rcases dK.1 L with B|B
    .exact z Z B
    .simp only[cD]at B;subst B;exact aM6 u (by simp only[aO];omega) p.1 p.2 aB aB
theorem aOh{x:aC}{l:List Tok}(h:lN gV true x=.ok l):l.length<=x.length+1/\∀t,t∈l->TokW (x.length+1) t:=by
 have y:eF x<=x.length:=vC _ _;have q:=xT (x.take (eF x)) (1,1);simp only[dQ]at q;refine aHm (x.length+1) _ _ _ _ l ?_ ?_ ?_ (λt u=>by cases u) h
 .simp only[cS];omega
 .simp only[cS];omega
 .simp only[cS,aT];omega
theorem aGD(sg:List aC)(op:Bool):∀(f:Nat) (w:aC) (p:Nat × Nat) (q:List Tok) (g:Fault),nM sg op f w p q=.bad g->g.code=10
 | _,[],p,q,g,h=>by simp only[nM]at h;cases h
 | 0,_::_,p,q,g,h=>by simp only[nM]at h;cases h
 | f+1,c::r,p,q,g,h=>by
  simp only[nM]at h;rcases u:kK (c::r) sg op with⟨t,n,ok⟩
  rw[u]at h;cases ok with
  | false=>cases h;rfl
  | true=>exact aGD sg op f _ _ _ g h
theorem aGF{x:aC}{g:Fault}(h:lN gV true x=.bad g):g.code=10:=aGD _ _ _ _ _ _ _ h
section
structure RQ (T:List Tok) where
 at_:Nat
 le:at_<=T.length
 f:Fault
 first:Nat
 nodes:Int
 over:Bool
section
variable {T:List Tok} (fin:Fault)
def RQ.ok(q:RQ T):Bool:=decide (q.f.code=0)
def RQ.tok(q:RQ T):Tok:=(T[q.at_]?).getD ⟨0,[],0,0,0⟩
end
end
section
def yZ(x:aC):Fault:=⟨12,[],1+(x.count 10:Nat),x.length-lB x 10 x.length⟩
def aHu(x:aC):Dfn × Fault:=match lN gV true x with
 | .bad f=>(fZ,f)
 | .ok T=>match wK false (yZ x) T with
  | .ok d _ _=>(d,Fault.none)
  | .bad f=>(fZ,f)
def gT(x:aC):Dfn × Fault:=if 20000<x.length then(fZ,⟨3,[],0,0⟩) else aHu x
theorem aOf{x:aC}{l:List Tok}(z:x.length<=4294967280)(h:lN gV true x=.ok l):TOk l:=by
 obtain⟨y,u⟩:=aOh h;refine⟨by omega,λt q=>(u t q).num,λt q=>?_,λt q=>?_⟩
 .have:=(u t q).col;omega
 .have:=(u t q).txt;omega
theorem aFH(x:aC)(c:UInt8):∀n,lB x c n<n/\-1<=lB x c n
 | 0=>by simp[lB]
 | n+1=>by
  have:=aFH x c n;simp only[lB];split<;>omega
section
variable {s:St} {KV Kp:St->A->Prop}
theorem aKH(x:aC)(hx:x.length<=4294967280) (z:match lN gV true x with
  | .ok l=>∀r,s.getO r=none->KV (s.setO r (aZ l (yZ x) (bX fZ nG) qP 0 0)) (.tuple [.ptr r 0,Fault.none.enc])
  | .bad f=>KV s (.tuple [.nilp,f.enc])):Den cx 115 [.str x] KV Kp s:=by
 have H:x.count 10<=x.length:=List.count_le_length;have G:=aFH x 10 x.length;(refine aM func115 [0,2,3,4,5,6,14] ?_;simp only[go_sem,ntmps115,f115]);(refine gF λZ h=>?_);simp only[go_sem,h];refine aMg _ x _ _ aB ?_;cases hl:lN gV true x with
 | bad f =>
  rw[hl]at z;have U:=aGF hl;have F:decide (f.code=0)=false:=by rw[U];rfl
  simp only[Lx.out];simp only[go_sem,h];(refine gF λL q=>?_);simp only[go_sem,h,q,F];(refine bB (OT.r 0 3) [] ?_;simp only[go_sem,h,q]);simp only[go_sem]at z;exact aF z bL
 | ok l =>
  rw[hl]at z;simp only[Lx.out];have O:Fault.none.code=0:=rfl;simp only[go_sem,h,Fault.none];(refine gF λL q=>?_);simp only[go_sem,h,q];refine aJe _ _ _ _ _ ?_;simp only[go_sem,h,q,fF (1+((x.count 10:Nat):Int)) aB aB];refine aIE _ x 10 _ _ aB ?_;simp only[go_sem,h,q,fF ((x.length:Int)-lB x 10 x.length) aB aB];(refine gF λb6 u=>?_);simp only[go_sem,h,q,u];(refine bB (OT.l [0,1,2,4,3,5,6] .nil) [(3,[4])] ?_;simp only[go_sem,h,q,u]);(refine gF λM y=>?_);simp only[go_sem,h,q,u,y];have B:=z M (by first|exact y.2.2.2|exact y.2.2);simp only[Fault.enc,Fault.cs,Fault.none]at B;exact aF B bL
theorem aK8(x:aC)(G:x.length<=4294967280) (q:if 20000<x.length then KV s (.tuple [.nilp,Fault.enc ⟨3,[],0,0⟩]) else match lN gV true x with
  | .ok l=>∀r,s.getO r=none->KV (s.setO r (aZ l (yZ x) (bX fZ nG) qP 0 0)) (.tuple [.ptr r 0,Fault.none.enc])
  | .bad f=>KV s (.tuple [.nilp,f.enc])):Den cx 71 [.str x] KV Kp s:=by
 (refine aM func71 [0,2,3,6] ?_;simp only[go_sem,ntmps71,f71]);(refine gF λB h=>?_);simp only[go_sem,h];cases c:decide ((20000:Int)<(x.length:Int))with
 | true =>
  rw[aE (by simp at c;omega)]at q;simp only[go_sem,h,c];simp only[go_sem]at q;exact aF q bL
 | false =>
  rw[aD (by simp at c;omega)]at q;simp only[go_sem,h,c];refine aKH x G ?_;cases hl:lN gV true x with
  | bad f =>
   rw[hl]at q;simp only at q⊢;simp only[go_sem,h];simp only[go_sem]at q;exact aF q bL
  | ok l =>
   rw[hl]at q;simp only at q⊢;intro r z;have u:=q r (by have:=z;rw[aH]at this;split at this;cases this;exact this);have y:B≠r:=λe=>by subst e;rw[aH,aE rfl]at z;cases z
   simp only[Fault.enc,Fault.cs,Fault.none]at u⊢;have F:=y.symm;simp only[go_sem,h,y,y.symm];exact aF u bL
theorem aLK(x:aC)(H:x.length<=4294967280)(y:KV s (.tuple [(gT x).1.enc,(gT x).2.enc])):Den cx 26 [.str x] KV Kp s:=by
 have L:A.le (.agg [.str [],.nils,.nils,.nils,.nils,.nils,.nils,.nils,.str [],.nils,.nils,.str [],.str []]) fZ.enc:=aA3 fZ nG (s:=s) aAh;(refine aM func26 [0,2,3,4,5,13] ?_;simp only[go_sem,ntmps26,f26]);(refine gF λM h=>?_);simp only[go_sem,h];(refine gF λO q=>?_);simp only[go_sem,h,q];refine aK8 x H ?_;unfold gT at y;split
 .rename_i c;rw[aE c]at y;simp only[go_sem,h,q];(refine gF λF u=>?_);simp only[go_sem,h,q,u];(refine bB (OT.r 0 4) [(2,[1])] ?_;simp only[go_sem,h,q,u]);exact DK.mk y bL (A.le.tuple ⟨L,bF _,trivial⟩)
 .rename_i c;rw[aD c]at y;unfold aHu at y;cases hl:lN gV true x with
  | bad f =>
   rw[hl]at y;have B:decide (f.code=0)=false:=by rw[aGF hl];rfl
   simp only at y⊢;simp only[go_sem,h,q];(refine gF λF u=>?_);simp only[go_sem,h,q,u,B];(refine bB (OT.r 0 4) [(2,[1])] ?_;simp only[go_sem,h,q,u]);simp only[go_sem]at y;exact DK.mk y bL (A.le.tuple ⟨L,bF _,trivial⟩)
  | ok T =>
   rw[hl]at y;simp only at y⊢;intro r z;simp only[cN,bJ]at z;simp only[go_sem,h,q,z,Fault.none];(refine gF λF u=>?_);simp only[go_sem,h,q,z,u];refine aNd (T:=T) (fin:=yZ x) (aOf H hl) gH ?_;unfold aDR;cases G:wK false (yZ x) T with
   | bad f =>
    rw[G]at y;simp only at y⊢;intro o;simp only[go_sem,h,q,z,u];simp only[go_sem]at y;exact aF y bL
   | ok d w n =>
    rw[G]at y;simp only at y⊢;intro o;simp only[go_sem,h,q,z,u];simp only[go_sem]at y;exact aF y bL
end
end
section
section
variable {s:St} {KV Kp:St->A->Prop} {d:Dfn}
theorem kF{S s:St}{b:Nat}(o:Ob)(h:S.ge s)(z:s.getO b=none):(S.setO b o).ge s :=
 ⟨λq G u=>by rw[aH,aD (λe=>by rw[<-e,z]at u;cases u)];exact h.ob _ _ u,λt v B=>h.tk t v B,λy F=>h.ls y F⟩
def nI(x:aC):Dfn × Fault :=
 if(gT x).2.code=0 then(if(pJ (gT x).1).code=0 then((gT x).1,pJ (gT x).1) else(fZ,pJ (gT x).1)) else(fZ,(gT x).2)
theorem aKD(x:aC)(hx:x.length<=4294967280)(H:DfnC (gT x).1)(z:KV s (.tuple [(nI x).1.enc,(nI x).2.enc])):Den cx 12 [.str x] KV Kp s:=by
 unfold nI at z;(refine aM func12 [0,2,3,4,5,13,18] ?_;simp only[go_sem,ntmps12,f12]);(refine aL λL h=>?_);simp only[go_sem,h];(refine aL λM q=>?_);simp only[go_sem,h,q];refine aLK x hx ?_;generalize gT x=P at H z;obtain⟨d,f⟩:=P;simp only at H z;simp only[go_sem,h,q];(refine aL λO u=>?_);simp only[go_sem,h,q,u];(refine aL λU y=>?_);have Z:A.le (.agg [.str [],.nils,.nils,.nils,.nils,.nils,.nils,.nils,.str [],.nils,.nils,.str [],.str []]) fZ.enc:=aA3 fZ nG (s:=s) aAh
 have B:∀o1 o2 o3 o4 o5 o6 o7 o8,((((((((s.setO L o1).setO M o2).setO O o3).setO U o4).setO O o5).setO U o6).setO L o7).setO M o8).ge s:=λ_ _ _ _ _ _ _ _ =>
  kF _ (kF _ (kF _ (kF _ (kF _ (kF _ (kF _ (kF _ (aG s) h) q.2) u.2.2) y.2.2.2) u.2.2) y.2.2.2) h) q.2
 cases F:decide (f.code=0)<;>simp only[go_sem,h,q,u,y,F]
 .rw[aD (of_decide_eq_false F)]at z;(refine bB (OT.r 0 4) [(2,[1])] ?_;simp only[go_sem,h,q,u,y]);exact DK.mk z (B _ _ _ _ _ _ _ _) (A.le.tuple ⟨Z,bF _,trivial⟩)
 .rw[aE (gI F)]at z;refine fO (aCb H ?_) (by simp only[Dfn.cs,Sig.cs,bT,bO]);generalize pJ d=g at z;cases G:decide (g.code=0)<;>simp only[go_sem,h,q,u,y,G]
  .rw[aD (of_decide_eq_false G)]at z;(refine bB (OT.r 0 4) [(2,[1])] ?_;simp only[go_sem,h,q,u,y]);exact DK.mk z (B _ _ _ _ _ _ _ _) (A.le.tuple ⟨Z,bF _,trivial⟩)
  .rw[aE (gI G)]at z;(refine bB (OT.r 0 4) [(2,[1])] ?_;simp only[go_sem,h,q,u,y]);exact aF z (B _ _ _ _ _ _ _ _)
theorem aKV(hd:DfnC d)(hs:jC d=true)(n:aC)(i:Nat)(x:Cel)(O:d.once[i]?=some x)(U:x.name=n)(L:∀j y,j<i->d.once[j]?=some y->y.name≠n)(hk:KV s (.tuple [.bool false,.int .i64 i,.int .i64 0])):Den cx 15 [.agg d.cs,.str n] KV Kp s:=by
 (refine aM func15 [0,1,2,4,5,6,7,8,9,10,13,15,16,17,18,25,29,30,31,32,39] ?_;simp only[go_sem,ntmps15,f15]);(refine aL λp M=>?_);have z:(s.setO p (.cells 31 d.cs)).ge s:=bQ M (aG s);have F:(s.setO p (.cells 31 d.cs)).getO p=some (.cells 31 d.cs):=by rw[aH,aE rfl]
 simp only[go_sem,M];simp only[Dfn.cs,Sig.cs,bT,bO]at F z;generalize hS:s.setO p _=S at F z⊢;clear hS M;have b1:=hd.cl
 have b0:i<d.once.length:=by
  rw[dH]at O;exact O.1
 refine fO (sP hd ?_) (by simp only[Dfn.cs,Sig.cs,bT,bO]);rw[hs];simp only[go_sem,F];refine Ex.loop (ι:=Nat) (λj=>[(1,.str n),(2,.ptr p 0),(15,.list none (d.once.map Cel.enc)),(16,.int .i64 (d.once.length:Nat)),(17,.int .i64 (j:Nat))]) (λ_=>S) (λj=>j<=i) (λj=>i-j) 0 (aX _) ?_ (aG _) ?_
 .simp only[go_sem]
  try exact rfl
 .rintro j hj;refine bC (V:=[0,1,2,4,5,6,7,8,9,10,13,15,16,17,18,25,29,30,31,32,39]) _ _ _ _ ?_;simp only[go_sem]
  (apply aQ<;>intro h)<;>simp only[go_sem,h]
  .have B:j<d.once.length:=gQ h;clear h;obtain⟨y,G⟩:∃a,d.once[j]?=some a:=⟨_,aV B⟩
   simp only[go_sem,G,B];(intro b8 q;try simp only[cZ,cN,bJ]at q);have Z:=aS F (by first|exact q|exact q.2|exact q.2.2|exact q.2.2.2|exact q.2.2.2.2);have u:(S.setO b8 (.cells 67 y.cs)).ge S:=bQ q (aG S);simp only[Cel.cs,Tm.cs,bT,bO]at u;by_cases e:j=i
   .subst e;rw[O]at G;cases G;simp only[go_sem,q,Z,cY U];exact aF hk (u.trans z)
   .have H:j<i:=by omega
    simp only[go_sem,q,Z,cJ (L j y H G)];exact⟨j+1,by omega,by omega,bM j aB,u⟩
  .exact cV (gQ h) (show¬ d.once.length<=j by omega)
end
end
def NZ(o:Option Fault):Prop:=∀f,o=some f->f.code≠0
theorem rL:NZ none:=λf h=>by cases h
theorem nB{f:Fault}(h:f.code≠0):NZ (some f):=λg e=>by cases e;exact h
theorem eJ{a b:Option Fault}(h:NZ a)(q:NZ b):NZ (bU a b):=by cases a with
 | none=>exact q
 | some f=>exact h
theorem jV{b:Bool}{f:Fault}(h:f.code≠0):NZ (dN b f):=by unfold dN;split;exact nB h;exact rL
theorem pH{p:Prop} [Decidable p] {a b:Option Fault} (h:NZ a) (q:NZ b):NZ (if p then a else b):=by split<;>assumption
theorem mZ{α:Type}{f:α->Option Fault}(h:∀x,NZ (f x)):∀l:List α,NZ (dI f l)
 | []=>rL
 | x::r=>eJ (h x) (mZ h r)
theorem xX{sg:Sig}{n:aC}{l c:Int}{h:List Tm}:NZ (lH sg n l c h):=jV aW
theorem uX{sg:Sig}{n:aC}{l c:Int}{t:Tm}{S:aC}:NZ (iS sg n l c t S):=jV aW
theorem aGJ{l c:Int}{h:List Tm}:NZ (rV l c h):=jV aW
theorem aGl{l c:Int}{a b:List Tm}:NZ (rU l c a b):=mZ (λ_=>jV aW) _
theorem aOz{sg:Sig}{x:Eqn}:NZ (wD sg x):=by
 unfold wD;refine pH ?_ (nB aW);split
 .exact nB aW
 .exact eJ xX (eJ (jV aW) (eJ (jV aW) (eJ aGJ (eJ aGl (eJ (mZ (λ_=>uX) _) uX)))))
theorem aNy{sg:Sig}{b:List aC}{x:Cel}:NZ (aBi sg b x) :=
 eJ (pH (nB aW) (jV aW)) (eJ xX (eJ uX (mZ (λ_=>jV aW) _)))
theorem aGE{sg:Sig}:∀(l:List Cel) (b:List aC),NZ (nC sg b l)
 | [],_=>rL
 | x::r,b=>eJ aNy (aGE r _)
theorem aMj{d:Dfn}:NZ (vO d):=eJ (jV aW) (eJ (jV aW) (eJ (jV aW) (eJ (mZ (λ_=>jV aW) _) (mZ (λ_=>jV aW) _))))
theorem aM8{d:Dfn}{b:List Part}{x:Part}:NZ (yU d b x) :=
 pH (nB aW) (pH (nB aW) (pH (nB aW) (pH (nB aW) (eJ xX (mZ (λ_=>uX) _)))))
theorem aGy{d:Dfn}:∀(l b:List Part),NZ (pK d b l)
 | [],_=>rL
 | x::r,b=>eJ aM8 (aGy r _)
theorem aGe{d:Dfn}{n:aC}{l c:Int}:∀(h:List Tm) (m:List Cel),NZ (lC d n l c h m)
 | [],_=>rL
 | _::_,[]=>rL
 | t::r,x::m=>eJ xX (eJ uX (aGe r m))
theorem aG9{l c:Int}:∀(s b:List aC),NZ (mJ l c b s)
 | [],_=>rL
 | x::r,b=>eJ (jV aW) (aG9 r _)
theorem aNo{d:Dfn}{r:Rul}:NZ (pQ d r):=eJ (mZ (λ_=>jV aW) _) (eJ (mZ (λ_=>aGe _ _) _) (eJ (mZ (λ_=>jV aW) _) (aG9 _ _)))
theorem aNA{d:Dfn}{b:List aC}{r:Rul}:NZ (nJ d b r) :=
 pH (nB aW) (pH (nB aW) (eJ (aGy _ _) (eJ aGJ (eJ aGl (eJ (mZ (λ_=>eJ xX uX) _) aNo)))))
theorem aGw{d:Dfn}:∀(l:List Rul) (b:List aC),NZ (pL d b l)
 | [],_=>rL
 | x::r,b=>eJ aNA (aGw r _)
theorem aMe(d:Dfn):NZ (qK d) :=
 pH (nB aW) (pH (nB aW) (eJ (mZ (λ_=>aOz) _) (eJ (aGE _ _) (eJ aMj (aGw _ _)))))
theorem aFU(d:Dfn):jC d=true↔qK d=none:=by
 unfold jC pJ;rw[dA];cases h:qK d with
 | none=>exact⟨λ_=>rfl,λ_=>rfl⟩
 | some f=>exact⟨λe=>cV e (aMe d f h),λe=>(by cases e)⟩
theorem xU{a b:Option Fault}:bU a b=none↔a=none/\b=none:=by
 cases a with
 | none=>exact⟨λh=>⟨rfl,h⟩,λh=>h.2⟩
 | some f=>exact⟨λh=>(by cases h),λh=>(by cases h.1)⟩
theorem aFf{α:Type}{f:α->Option Fault}:∀{l:List α},dI f l=none↔∀x,x∈l->f x=none
 | []=>⟨λ_ x h=>(by cases h),λ_=>rfl⟩
 | y::r=>by
  have u:=aFf (f:=f) (l:=r);rw[dI,xU,u];exact⟨λh x q=>by rcases List.mem_cons.1 q with rfl|q;exact h.1;exact h.2 x q,λh=>⟨h y (dZ ..),λx q=>h x (lO _ q)⟩⟩
theorem aKY{d:Dfn}{b:List aC}{r:Rul}:nJ d b r=none↔r.name ∉ b/\nJ d [] r=none:=by
 unfold nJ;by_cases h:r.name∈b
 .rw[aE h];exact⟨λe=>(by cases e),λe=>cV h e.1⟩
 .rw[aD h,aD (by simp:¬ r.name∈([]:List aC))];exact⟨λe=>⟨h,e⟩,λe=>e.2⟩
theorem aFn{d:Dfn}:∀{l:List Rul} {b:List aC},pL d b l=none↔(∀r,r∈l->nJ d [] r=none)/\(l.map Rul.name).Nodup/\∀r,r∈l->r.name ∉ b
 | [],b=>⟨λ_=>⟨λr h=>(by cases h),List.nodup_nil,λr h=>(by cases h)⟩,λ_=>rfl⟩
 | x::r,b=>by
  have L:=aFn (d:=d) (l:=r) (b:=b++[x.name]);rw[pL,xU,aKY,L,bP,List.nodup_cons];constructor
  .rintro⟨⟨z,F⟩,G,B,H⟩;refine⟨λy q=>by rcases List.mem_cons.1 q with rfl|q;exact F;exact G y q,⟨λu=>?_,B⟩,λy q=>?_⟩
   .obtain⟨y,q,e⟩:=cC.1 u;exact H y q (by rw[e];simp)
   .rcases List.mem_cons.1 q with rfl|q
    .exact z
    ·exactλh=>H y q (List.mem_append_left _ h)
  .rintro⟨z,⟨F,G⟩,B⟩;refine⟨⟨B x (dZ ..),z x (dZ ..)⟩,λy q=>z y (lO _ q),G,λy q u=>?_⟩;rcases dK.1 u with u|u
   .exact B y (lO _ q) u
   .exact F (cC.2 ⟨y,q,cD.1 u⟩)
theorem aFe{d:Dfn}(E:List Eqn)(R:List Rul):∀(l b:List Part),pK { d with eqs:=E,rules:=R } b l=pK d b l
 | [],_=>rfl
 | x::r,b=>by rw[pK,pK,aFe E R r];rfl
theorem aFa{d:Dfn}(E:List Eqn)(R:List Rul)(n:aC)(l c:Int):∀(h:List Tm) (m:List Cel),lC { d with eqs:=E,rules:=R } n l c h m=lC d n l c h m
 | [],_=>rfl
 | _::_,[]=>rfl
 | t::r,x::m=>by rw[lC,lC,aFa E R n l c r m]
theorem aLF{d:Dfn}(E:List Eqn)(R:List Rul)(b:List aC)(r:Rul):nJ { d with eqs:=E,rules:=R } b r=nJ d b r:=by
 unfold nJ pQ;rw[aFe];simp only[aFa]
theorem aMA{d:Dfn}{E:List Eqn}{R:List Rul}(B:∀x,x∈E->x∈d.eqs)(z:∀x,x∈R->x∈d.rules)(lE:E.length<=d.eqs.length)(lR:R.length<=d.rules.length)
  (h:kZ d=true):kZ { d with eqs:=E,rules:=R }=true:=by
 unfold kZ at h⊢;simp only[dF,kD,gG,fS]at h⊢;obtain⟨F,G,U,Z,H,L,M,O⟩:=h;refine⟨F,G,by omega,by omega,λx q=>H x (B x q),λx q=>L x (z x q),λx q=>M x ?_,λx q=>O x ?_⟩
 .unfold gK at q⊢;simp only[dK,List.mem_flatMap]at q⊢;rcases q with q|q|q|⟨y,u,q⟩
  .exact .inl q
  .exact .inr (.inl q)
  .exact .inr (.inr (.inl q))
  .exact .inr (.inr (.inr ⟨y,z y u,q⟩))
 .unfold fQ at q⊢;simp only[dK,List.mem_flatMap]at q⊢;rcases q with⟨y,u,q⟩|q|⟨y,u,q⟩
  .exact .inl ⟨y,B y u,q⟩
  .exact .inr (.inl q)
  .exact .inr (.inr ⟨y,z y u,q⟩)
theorem aF0{d:Dfn}{E:List Eqn}{R:List Rul}(u:∀x,x∈E->x∈d.eqs)(y:∀x,x∈R->x∈d.rules)(Z:E.length<=d.eqs.length)(lR:R.length<=d.rules.length)
  (O:(d.rules.map Rul.name).Nodup->(R.map Rul.name).Nodup)(h:jC d=true):jC { d with eqs:=E,rules:=R }=true:=by
 rw[aFU]at h⊢;unfold qK at h⊢;cases q:kZ d with
 | false=>rw[q]at h;cases h
 | true =>
  rw[aMA u y Z lR q];rw[q]at h;cases B:qI d.sig with
  | false=>rw[B]at h;cases h
  | true =>
   rw[B]at h;simp only[Bool.true_eq_false,cI]at h⊢;rw[xU,xU,xU,aFf,aFn]at h⊢;obtain⟨F,G,H,L,M,h6⟩:=h;exact⟨λx U=>F x (u x U),G,H,λr z=>by rw[aLF];exact L r (y r z),O M,λr z=>by simp⟩
theorem aJ5(d:Dfn)(i:Nat)(h:jC d=true):jC { d with rules:=d.rules.take i++d.rules.drop (i+1) }=true:=by
 have q:(d.rules.take i++d.rules.drop (i+1)).Sublist d.rules:=by
  conv=>rhs;rw[<-List.take_append_drop i d.rules]
  refine List.Sublist.append (List.Sublist.refl _) ?_;rw[<-mT];exact List.drop_sublist 1 _
 exact aF0 (E:=d.eqs) (λx h=>h) (λx y=>q.subset y) (bH _) q.length_le (λu=>(q.map Rul.name).nodup u) h
theorem aKe(d:Dfn)(i:Nat)(h:jC d=true):jC { d with eqs:=d.eqs.take i++d.eqs.drop (i+1) }=true:=by
 have q:(d.eqs.take i++d.eqs.drop (i+1)).Sublist d.eqs:=by
  conv=>rhs;rw[<-List.take_append_drop i d.eqs]
  refine List.Sublist.append (List.Sublist.refl _) ?_;rw[<-mT];exact List.drop_sublist 1 _
 exact aF0 (R:=d.rules) (λx y=>q.subset y) (λx h=>h) q.length_le (bH _) (λu=>u) h
section
theorem aKA(n:Nat)(G:n<=4294967296)(s:St)(KV Kp:St->A->Prop)(y:∀tk,(∀t,tk=some t->s.getT t=none)->KV (gs s tk 0 64) (gv tk [])):Den cx 77 [.nils,.int .i64 (n:Nat)] KV Kp s:=by
 have z:decide ((n:Int)<0)=false:=by rw[gG];omega
 have F:IntKind.i64.wrap ((n:Int)-IntKind.i64.wrap (0-0))=(n:Int):=by rw[show IntKind.i64.wrap (0-0)=0 by decide,fF _ aB aB];omega
 (refine aM func77 [0,1,4,6,16] ?_;simp only[go_sem,ntmps77,f77]);simp only[go_sem,z];rw[F];cases n with
 | zero =>
  have q:decide ((0:Int)<((0:Nat):Int))=false:=by decide
  simp only[go_sem,q];exact aN (y none (λt h=>by cases h))
 | succ n =>
  have q:decide ((0:Int)<((n+1:Nat):Int))=true:=by rw[dA];omega
  simp only[go_sem,q,pS];refine⟨⟨by omega,by omega,by decide⟩,λt B=>?_⟩;simp only[go_sem];exact aN (y (some t) (λu h=>by cases h;exact B))
theorem aJp(B:List (List Opr))(hn:B.flatten.length<=4294967296)(s:St)(KV Kp:St->A->Prop)(hk:KV s (.list none (B.flatten.map Opr.enc))):Den cx 32 [.list none (B.map λl=>.list none (l.map Opr.enc))] KV Kp s:=by
 refine fT λZ=>?_
 have O:=Z _ (dZ ..);clear Z;(refine aM func32 [0,2,3,5,6,8,9,10,11,12,20,25,26,27,28] ?_;simp only[go_sem,ntmps32,f32])
 refine Ex.loop (ι:=Nat) (λi=>[(0,.list none (B.map λl=>.list none (l.map Opr.enc))),(3,.int .i64 ((B.take i).flatten.length:Nat)),(9,.list none (B.map λl=>.list none (l.map Opr.enc))),(10,.int .i64 (B.length:Nat)),(11,.int .i64 (i:Nat))])
  (λ_=>s) (λi=>i<=B.length) (λi=>B.length-i) 0 (aX _) ?_ (aG _) ?_
 .simp only[go_sem];exact⟨rfl,rfl⟩
 .intro i hi;refine bC (V:=[0,2,3,5,6,8,9,10,11,12,20,25,26,27,28]) _ _ _ _ ?_;simp only[go_sem]
  (apply aQ<;>intro h)<;>simp only[go_sem,h]
  .have q:i<B.length:=gQ h;clear h;obtain⟨a,L⟩:∃a,B[i]?=some a:=⟨_,aV q⟩
   obtain⟨H,G⟩:=rG L
   have w2:IntKind.i64.wrap (((B.take i).flatten.length:Int)+(a.length:Int))=(((B.take (i+1)).flatten.length:Nat):Int):=by
    rw[H,aI,fF _ aB (by rw[H,aI]at G;omega)];omega
   have d0:decide ((((B.take (i+1)).flatten.length:Nat):Int)<0)=false:=by rw[gG];omega
   simp only[go_sem,L,q,w2,d0];exact⟨i+1,q,by omega,⟨rfl,O.wrap (i:=i) (gQ q)⟩,aG _⟩
  .have q:i=B.length:=by have:¬ i<B.length:=gQ h;omega
   subst q;clear h;rw[List.take_length];refine aKA _ hn _ _ _ (λtk M=>?_);simp only[go_sem];clear hi
   refine Ex.loop (ι:=Nat × Option Nat) (λk=>[(6,gv k.2 ((B.take k.1).flatten.map Opr.enc)),(25,.list none (B.map λl=>.list none (l.map Opr.enc))),(26,.int .i64 (B.length:Nat)),(27,.int .i64 (k.1:Nat))])
    (λk=>gs s k.2 (B.take k.1).flatten.length 64) (λk=>k.1<=B.length/\(k.2=none->(B.take k.1).flatten=[])/\∀t,k.2=some t->s.getT t=none) (λk=>B.length-k.1) (0,tk) ⟨aX _,λ_=>rfl,M⟩ ?_ (aG _) ?_
   .simp only[go_sem];exact⟨by cases tk<;>rfl,rfl⟩
   .rintro⟨i,tk⟩ ⟨hi,F,M⟩;simp only at hi F M;refine bC (V:=[0,2,3,5,6,8,9,10,11,12,20,25,26,27,28]) _ _ _ _ ?_;simp only[go_sem]
    (apply aQ<;>intro h)<;>simp only[go_sem,h]
    .have q:i<B.length:=gQ h;clear h;obtain⟨a,L⟩:∃a,B[i]?=some a:=⟨_,aV q⟩
     obtain⟨H,G⟩:=rG L
     have hz:∀(l:List Opr) (y:A),y∈l.map Opr.enc->y.cells.length=(A.cells (Opr.enc default)).length:=λl y U=>by
      obtain⟨z,_,rfl⟩:=cC.1 U
      first|rfl|(simp only[cG];rfl)
     simp only[go_sem,L,q];refine⟨by decide,λy U=>hz a y U,cU rfl rfl (by rw[aK];exact eE λe=>by rw[F e];rfl) (λy U=>hz _ y U) (by rw[H,aI]at G;simp only[aK];omega) (λu hu=>?_)⟩;have b0:=fB hu M;rw[eU hu];simp only[go_sem];refine⟨(i+1,some u),⟨q,λh=>(by cases h),λt h=>by cases h;exact b0⟩,aP,⟨?_,O.wrap (i:=i) (gQ q)⟩,?_⟩
     .rw[H,bY];rfl
     .rw[H];simp only[gs,aK,aI];exact aG _
    .have q:i=B.length:=by have:¬ i<B.length:=gQ h;omega
     subst q;rw[List.take_length]at F⊢;exact DK.mk hk (gE (aG _) M) (hZ _ _ (λe=>by rw[F e];rfl))
theorem aOt{α:Type} [DecidableEq α] (key:α->MK) (x:α) (l:List α) (h:x∈l):iB (key x) (.bool true) (gD key l)=gD key l:=by
 induction l with
 | nil=>cases h
 | cons y r q =>
  simp only[gD,bP,iB]at q⊢;by_cases e:key x=key y
  .rw[aE e]
  .rw[aD e];rcases List.mem_cons.1 h with rfl|h
   .exact cV rfl e
   .rw[q h]
def aAK(a:List aC)(x:Tm):List aC:=if x.kind=5 then(if x.text∈a then a else a++[x.text]) else a
def vP(l:List Tm):List aC:=(bG l).foldl aAK []
theorem aOp(a:List aC)(x:aC):iB (.str x) (.bool true) (gD .str a)=gD .str (if x∈a then a else a++[x]):=by
 by_cases h:x∈a
 .rw[aE h];exact aOt MK.str x a h
 .rw[aD h];exact aAM MK.str (λx y e=>by cases e;rfl) x a h
structure ApI (s0:St) (p b:Nat) (n:Nat) (a:List aC) (v:Unit) (s:St):Prop where
 ge:s.ge s0
 pc:s.getO p=some (.cells 86 [.mp b])
 ob:s.getO b=some (.map 0 (gD .str a))
section
variable {s0 s s':St} {p b n m:Nat} {a:List aC} {v:Unit}
theorem ApI.st(h:ApI s0 p b n a v s)(q:s'.ge s):ApI s0 p b n a v s':=⟨q.trans h.ge,q.ob _ _ h.pc,q.ob _ _ h.ob⟩
theorem ApI.fr{x:Nat}(h:ApI s0 p b n a v s)(q:s.getO x=none):¬ jJ b v x:=by
 rintro rfl;rw[h.ob]at q;cases q
theorem ApI.set(h:ApI s0 p b m a v s)(q:s0.getO b=none)(c:List aC):ApI s0 p b n c v (s.setO b (.map 0 (gD .str c)))/\Keep (jJ b) s v (s.setO b (.map 0 (gD .str c))) v:=by
 have u:¬ b=p:=λe=>by have:=h.pc;rw[<-e,h.ob]at this;cases this
 exact⟨⟨pE h.ge q _,by rw[aH,aD u];exact h.pc,by rw[aH,aE rfl]⟩,Keep.set (show jJ b v b from rfl) _⟩
theorem ApI.keep(h:ApI s0 p b m a v s)(q:s'.ge s):ApI s0 p b n a v s'/\Keep (jJ b) s v s' v:=⟨⟨(h.st q).ge,(h.st q).pc,(h.st q).ob⟩,Keep.ge q v⟩
end
theorem aLG(s0:St)(p b:Nat)(H:s0.getO b=none):WalkOk aAK (ApI s0 p b) (jJ b) 74 [.ptr p 0] where
 st:=ApI.st
 fr:=ApI.fr
 go:=by
  intro n a v x L s KV Kp b0 z u;simp only[bO,bT];have O:=z.pc;have M:=z.ob;unfold aAK at u;(refine aM func74 [0,2,3,7] ?_;simp only[go_sem,ntmps74,f74]);(refine aL λc q=>?_);have h:(s.setO c (.cells 39 x.cs)).ge s:=bQ q (aG s);have e1:=aS O q;have e2:=aS M q;have G:ApI s0 p b (n+1) a v (s.setO c (.cells 39 x.cs)):=z.st h;obtain⟨U,Z⟩:=z.keep (n:=n) h;by_cases y:x.kind=5
  .have F:decide (x.kind=5)=true:=cY y;rw[aE y]at u;obtain⟨k3,B⟩:=G.set (n:=n) H (if x.text∈a then a else a++[x.text]);have B:=(Keep.ge (Ow:=jJ b) h v).trans B;simp only[Tm.cs]at k3 B;simp only[go_sem,q,F,e1,e2,O,M,aOp];exact aN (u _ _ k3 B)
  .have F:decide (x.kind=5)=false:=cJ y;rw[aD y]at u;simp only[go_sem,q,F];simp only[Tm.cs]at U Z;exact aN (u _ _ U Z)
section
variable {s:St} {KV Kp:St->A->Prop} {d:Dfn}
theorem aIM(l:List Tm)(hb:(bG l).length<=4294967000)(hk:∀s' b,s'.ge s->s'.getO b=some (.map 0 (gD .str (vP l)))->KV s' (.mp b)):Den cx 28 [.list none (l.map Tm.enc)] KV Kp s:=by
 (refine aM func28 [0,2,3,5,7,8,9,10] ?_;simp only[go_sem,ntmps28,f28]);(refine aL λq F=>?_);simp only[go_sem,F];(refine aL λp L=>?_)
 have h0:ApI s p q ((bG l).length) [] () ((s.setO q (.map 0 [])).setO p (.cells 86 [.mp q])):=by
  refine⟨bQ L.2 (bQ F (aG s)),by rw[aH,aE rfl],?_⟩;rw[aH,aD L.1.2,aH,aE rfl];rfl
 simp only[go_sem,F,L];have b1:=nV l
 refine Ex.loop (ι:=Nat × St) (λc=>[(3,.ptr p 0),(7,.list none (l.map Tm.enc)),(8,.int .i64 (l.length:Nat)),(9,.int .i64 (c.1:Nat))])
  (λc=>c.2) (λc=>c.1<=l.length/\ApI s p q ((bG (l.drop c.1)).length) ((bG (l.take c.1)).foldl aAK []) () c.2) (λc=>l.length-c.1) (0,_) ⟨aX _,h0⟩ ?_ (aG _) ?_
 .simp only[go_sem]
  try exact rfl
 .rintro⟨i,s1⟩ ⟨U,y⟩;simp only at U y;refine bC (V:=[0,2,3,5,7,8,9,10]) _ _ _ _ ?_;simp only[go_sem]
  (apply aQ<;>intro h)<;>simp only[go_sem,h]
  .have u:i<l.length:=gQ h;clear h;obtain⟨x,B⟩:∃a,l[i]?=some a:=⟨_,aV u⟩
   have M:=xG B;have z:=xJ B;have b2:=xP (cR B);simp only[go_sem,B,u];(refine aL λc O=>?_);simp only[go_sem,B,u,O];refine uK (aLG s p q F) x 1 _ _ () _ _ _ aB (by rw[<-M];exact y.st (bQ O (aG _))) (λs4 v4 G b0=>?_);simp only[go_sem];exact⟨(i+1,s4),⟨u,by rw[z,List.foldl_append];exact G⟩,aP,bM i aB,aG _⟩
  .have H:i=l.length:=Nat.le_antisymm U (Nat.le_of_not_lt (gQ h));subst H;rw[List.take_length]at y;have Z:=y.pc;simp only[go_sem,Z];exact aN (hk _ _ y.ge y.ob)
theorem aEG(h:jC d=true):kZ d=true/\qI d.sig=true:=by
 rw[aFU]at h;unfold qK at h;constructor
 .cases e:kZ d with
  | true=>rfl
  | false=>rw[aE e]at h;cases h
 .cases e:kZ d with
  | false=>rw[aE e]at h;cases h
  | true =>
   rw[aD (by rw[e];decide)]at h;cases q:qI d.sig with
   | true=>rfl
   | false=>rw[aE q]at h;cases h
theorem aJz(U:DfnC d)(H:jC d=true)(n:aC)(hn:fH d.sig.funs n=none)(Z:KV s (.tuple [.nils,.int .i64 4])):Den cx 13 [.agg d.cs,.str n] KV Kp s:=by
 have hv:d.sig.sorts.length<=40/\d.sig.below.length<=200:=by
  have F:=(aEG H).2;unfold qI at F;simp only[dF,kD,gG]at F;omega
 (refine aM func13 [0,1,2,4,5,6,8,9,11,12,13,15,18,29,31,32,33,34,41,54,56,66] ?_;simp only[go_sem,ntmps13,f13]);(refine aL λp B=>?_);have h:(s.setO p (.cells 31 d.cs)).ge s:=bQ B (aG s);have y:(s.setO p (.cells 31 d.cs)).getO p=some (.cells 31 d.cs):=by rw[aH,aE rfl]
 simp only[go_sem,B];simp only[Dfn.cs,Sig.cs,bT,bO]at y h;generalize O:s.setO p _=S at y h⊢;clear O B;refine fO (sP U ?_) (by simp only[Dfn.cs,Sig.cs,bT,bO]);rw[H];simp only[go_sem,y];refine fO (aCC d.sig aB aB _ _ _ (λL r u M=>?_)) (by simp only[Sig.cs]);have z:=u.ob _ _ y;simp only[go_sem,z];refine pB M n ?_;rw[hn];simp only[go_sem,Option.isSome_none,Option.getD_none,nE];(refine aL λq G=>?_);simp only[go_sem,G];exact aF Z ((kF _ (aG L) G).trans (u.trans h))
theorem aJg(U:DfnC d)(hs:jC d=true)(hu:∀o,o∈d.sig.ops++d.sig.funs->o.name∈vP (fQ d)\/o.pieces.length≠0)(hk:KV s (.tuple [.nils,.int .i64 0])):Den cx 14 [.agg d.cs] KV Kp s:=by
 (refine aM func14 [0,1,2,3,4,5,7,10,21,22,23,24,37] ?_;simp only[go_sem,ntmps14,f14]);(refine aL λp hp=>?_);have G:(s.setO p (.cells 31 d.cs)).ge s:=bQ hp (aG s);have H:(s.setO p (.cells 31 d.cs)).getO p=some (.cells 31 d.cs):=by rw[aH,aE rfl]
 simp only[go_sem,hp];simp only[Dfn.cs,Sig.cs,bT,bO]at H G;generalize hS:s.setO p _=S at H G⊢;clear hS hp;refine fO (sP U ?_) (by simp only[Dfn.cs,Sig.cs,bT,bO]);rw[hs];simp only[go_sem,H];have b4:(fQ d).length<=4294967000:=kS (nV _) U.pr;refine fO (aEU d (by rw[yG];omega) U.cl S _ _ ?_) (by simp only[Dfn.cs,Sig.cs,bT,bO]);rw[yG];simp only[go_sem,H];refine aIM (fQ d) U.pr (λS2 b O hb=>?_);have M:=O.ob _ _ H;have b2:=O.trans G;simp only[go_sem,M];have Z:[d.sig.ops,d.sig.funs].flatten=d.sig.ops++d.sig.funs:=by simp
 have b0:(d.sig.ops++d.sig.funs).length<=4294967000:=by rw[aI];exact U.op
 refine aJp [d.sig.ops,d.sig.funs] (by rw[Z];omega) _ _ _ ?_;rw[Z];generalize d.sig.ops++d.sig.funs=L at hu b0;simp only[go_sem,M];refine Ex.loop (ι:=Nat) (λi=>[(1,.ptr p 0),(4,.mp b),(5,.nils),(21,.list none (L.map Opr.enc)),(22,.int .i64 (L.length:Nat)),(23,.int .i64 (i:Nat))]) (λ_=>S2) (λi=>i<=L.length) (λi=>L.length-i) 0 (aX _) ?_ (aG _) ?_
 .simp only[go_sem]
  try exact rfl
 .rintro i hi;refine bC (V:=[0,1,2,3,4,5,7,10,21,22,23,24,37]) _ _ _ _ ?_;simp only[go_sem]
  (apply aQ<;>intro h)<;>simp only[go_sem,h]
  .have q:i<L.length:=gQ h;clear h;obtain⟨x,hx⟩:∃a,L[i]?=some a:=⟨_,aV q⟩
   have b3:=hu x (cR hx);have B:=aAE MK.str (λx y e=>by cases e;rfl) x.name (vP (fQ d));have z:decide (((x.pieces.length:Nat):Int)=0)=decide (x.pieces.length=0):=by rw[cT];omega
   simp only[go_sem,hx,q];(intro c u;try simp only[cZ,cN,bJ]at u);have f1:=aS hb (by first|exact u|exact u.2|exact u.2.2|exact u.2.2.2|exact u.2.2.2.2);have F:(S2.setO c (.cells 64 x.cs)).ge S2:=bQ u (aG S2);simp only[Opr.cs]at F;by_cases hm:x.name∈vP (fQ d)
   .rw[aE hm]at B;simp only[go_sem,hx,q,u,f1,hb,B,z,List.headD_cons];exact⟨i+1,q,by omega,bM i aB,F⟩
   .rw[aD hm]at B;have h0:decide (x.pieces.length=0)=false:=cJ (b3.resolve_left hm);simp only[go_sem,hx,q,u,f1,hb,B,z,h0,List.headD_cons];exact⟨i+1,q,by omega,bM i aB,F⟩
  .have b1:i=L.length:=Nat.le_antisymm hi (Nat.le_of_not_lt (gQ h));subst b1;refine aCq ?_;simp only[go_sem];exact aF hk b2
end
end
section
def rY:aC:=[108,97,110,103,117,97,103,101,32,115,117,109,115,46,32,115,111,114,116,32,69,120,112,44,32,80,103,109,46,32,115,117,98,115,111,114,116,32,73,110,116,32,60,32,69,120,112,46,32,115,117,98,115,111,114,116,32,69,120,112,32,60,32,80,103,109,46,32,118,97,108,117,101,32,73,110,116,46,32,111,112,32,112,108,117,115,32,58,32,69,120,112,32,34,43,34,32,69,120,112,32,45,62,32,69,120,112,32,112,114,101,99,32,53,32,108,101,102,116,32,115,116,114,105,99,116,40,49,44,32,50,41,46,32,99,101,108,108,32,107,32,58,32,76,105,115,116,32,61,32,91,36,93,46,32,115,116,97,114,116,32,80,103,109,46,32,119,97,116,99,104,32,107,46,32,114,117,108,101,32,97,100,100,32,58,32,107,32,58,32,91,112,108,117,115,40,88,58,73,110,116,44,32,89,58,73,110,116,41,32,124,32,75,93,32,61,62,32,91,97,100,100,40,88,58,73,110,116,44,32,89,58,73,110,116,41,32,124,32,75,93,46]
def aBq:aC:=[108,97,110,103,117,97,103,101,32,101,46,32,102,117,110,32,102,32,58,32,73,110,116,32,45,62,32,73,110,116,46,32,108,101,116,32,102,40,88,58,73,110,116,41,32,61,32,89,58,73,110,116,46,32,115,116,97,114,116,32,73,110,116,46,32,99,101,108,108,32,107,32,58,32,65,110,121,32,61,32,36,46,32,119,97,116,99,104,32,107,46]
def aBg:aC:=[108,97,110,103,117,97,103,101,32,101,46,32,115,116,97,114,116,32,73,110,116,46,32,99,101,108,108,32,107,32,58,32,73,110,116,32,61,32,36,46,32,119,97,116,99,104,32,99,46]
def aBp:aC:=[108,97,110,103,117,97,103,101]
def jU:Dfn:=(gT rY).1
theorem aOU:(gT rY).2=Fault.none:=by kernel_rfl
theorem aBr:pJ jU=Fault.none:=by kernel_rfl
theorem aOT:(nI aBq).2=⟨17,[89],1,33⟩:=by kernel_rfl
theorem aOK:(nI aBg).2=⟨13,[99],0,0⟩:=by kernel_rfl
theorem aOV:(nI aBp).2.code=12:=by kernel_rfl
theorem aHP:cW jU.cs<=100000000:=gO (by kernel_rfl)
theorem aOQ:nI rY=(jU,Fault.none):=by
 have h:(gT rY).2.code=0:=by rw[aOU];rfl
 have q:(pJ (gT rY).1).code=0:=by rw[show(gT rY).1=jU from rfl,aBr];rfl
 unfold nI;rw[aE h,aE q,show(gT rY).1=jU from rfl,aBr]
theorem aOR:jC jU=true:=by unfold jC;rw[aBr];rfl
theorem aOS:fH jU.sig.funs [112,108,117,115]=none:=by kernel_rfl
theorem aOG:((jU.sig.ops++jU.sig.funs).all λo=>decide (o.name∈vP (fQ jU))||!decide (o.pieces.length=0))=true:=by kernel_rfl
theorem aOD:(jU.once[0]?).map Cel.name=some [107]:=by kernel_rfl
theorem aOJ:cW (gT aBq).1.cs<=100000000:=gO (by kernel_rfl)
theorem aOr:cW (gT aBg).1.cs<=100000000:=gO (by kernel_rfl)
theorem aOH:cW (gT aBp).1.cs<=100000000:=gO (by kernel_rfl)
theorem aOA:DfnC jU:=xL _ aHP
section
variable {s:St} {KV Kp:St->A->Prop}
theorem awR{x:aC}{d:Dfn}{g:Fault}(h:nI x=(d,g))(y:x.length<=4294967280)(q:cW (gT x).1.cs<=100000000)(u:KV s (.tuple [d.enc,g.enc])):Den cx 12 [.str x] KV Kp s :=
 aKD x y (xL _ q) (by rw[h];exact u)
theorem aDO:List.lookup 51 [(51,[0,2,0,0]),(102,[2,2]),(195,[2,2])]=some [0,2,0,0]:=rfl
theorem aAH{T:St}{p q:Nat}(u:T.getO p=none)(h:(¬ p=q/\¬ q=p)/\T.getO q=none)(d:Dfn)(g:Fault):∃S,S=((((T.setO p (.cells 31 [.str [],.nils,.nils,.nils,.nils,.nils,.nils,.nils,.str [],.nils,.nils,.str [],.str []])).setO q (.cells 51 [.int .i64 0,.str [],.int .i64 0,.int .i64 0])).setO p (.cells 31 d.cs)).setO q (.cells 51 g.cs))/\S.ge T/\S.getO p=some (.cells 31 d.cs)/\S.getO q=some (.cells 51 g.cs) :=
 ⟨_,rfl,kF _ (kF _ (kF _ (kF _ (aG T) u) h.2) u) h.2,by rw[aH,aD h.1.2,aH,aE rfl],by rw[aH,aE rfl]⟩
theorem zV(hk:KV s (.bool true)):Den cx 7 [] KV Kp s:=by
 obtain⟨d2,h2⟩:∃d,nI aBq=(d,⟨17,[89],1,33⟩):=⟨_,Prod.ext rfl aOT⟩
 obtain⟨d3,h3⟩:∃d,nI aBg=(d,⟨13,[99],0,0⟩):=⟨_,Prod.ext rfl aOK⟩
 obtain⟨d4,f4,h4,b1⟩:∃d f,nI aBp=(d,f)/\f.code=12:=⟨_,_,rfl,aOV⟩
 obtain⟨x0,b0,b3⟩:=oU.1 aOD
 have hu:∀o,o∈jU.sig.ops++jU.sig.funs->o.name∈vP (fQ jU)\/o.pieces.length≠0:=λo ho=>by
  have:=fS.1 aOG o ho;simpa using this
 (refine aM func7 [0,1,2,4,6,8,9,10,11,12,13,14,15,55] ?_;simp only[go_sem,ntmps7,f7]);refine awR (x:=rY) aOQ fK aHP ?_;have O:=aOA;have q:=aOR;have Z:=aOS;have U:=aBr;generalize jU=d1 at b0 hu O q Z U⊢;simp only[go_sem];(refine aL λp1 z=>?_);simp only[go_sem,z];(refine aL λp2 H=>?_);simp only[go_sem,z,H];obtain⟨S1,e1,u1,g1,g2⟩:=aAH z H d1 Fault.none;simp only[Dfn.cs,Sig.cs,Fault.cs,bT,bO]at e1 g1 g2;rw[<-e1];clear e1 z H;refine awR (x:=aBq) h2 fK aOJ ?_;simp only[go_sem];(refine aL λp3 B=>?_);simp only[go_sem,B];(refine aL λp4 L=>?_);simp only[go_sem,B,L];obtain⟨S2,e2,u2,g3,g4⟩:=aAH B L d2 ⟨17,[89],1,33⟩;simp only[Dfn.cs,Sig.cs,Fault.cs,bT,bO]at e2 g3 g4;rw[<-e2];clear e2 B L;refine awR (x:=aBg) h3 fK aOr ?_;simp only[go_sem];(refine aL λp5 F=>?_);simp only[go_sem,F];(refine aL λp6 M=>?_);simp only[go_sem,F,M];obtain⟨S3,e3,u3,g5,g6⟩:=aAH F M d3 ⟨13,[99],0,0⟩;simp only[Dfn.cs,Sig.cs,Fault.cs,bT,bO]at e3 g5 g6;rw[<-e3];clear e3 F M;refine awR (x:=aBp) h4 fK aOH ?_;simp only[go_sem];(refine aL λp7 h=>?_);simp only[go_sem,h];have u:=u3.ob _ _ (u2.ob _ _ g1);have k2:=u3.ob _ _ (u2.ob _ _ g2);have k4:=u3.ob _ _ g4;have n7:=aS u h;(refine aL λp8 G=>?_);have n8:=aS u G.2;simp only[go_sem,h,G,n7,n8,u];obtain⟨S4,e4,u4,g7,g8⟩:=aAH h G d4 f4;simp only[Dfn.cs,Sig.cs,Fault.cs,bT,bO]at e4 g7 g8;rw[<-e4];clear e4 h G;have u:=u4.ob _ _ u;have k2:=u4.ob _ _ k2;have k4:=u4.ob _ _ k4;have k6:=u4.ob _ _ g6;have b2:=u4.trans (u3.trans (u2.trans u1));refine fO (aJz O q [112,108,117,115] Z ?_) (by simp only[Dfn.cs,Sig.cs,bT,bO]);simp only[go_sem,u];refine fO (aJg O q hu ?_) (by simp only[Dfn.cs,Sig.cs,bT,bO]);simp only[go_sem,u];refine fO (aKV O q [107] 0 x0 b0 b3 (λj y hj=>aB) ?_) (by simp only[Dfn.cs,Sig.cs,bT,bO]);simp only[go_sem,u,k2,aDO,Fault.none];refine fO (sP O ?_) (by simp only[Dfn.cs,Sig.cs,bT,bO]);rw[q];simp only[go_sem,u,k2,k4,k6,aDO,Fault.none];refine fO (aCb O ?_) (by simp only[Dfn.cs,Sig.cs,bT,bO]);rw[U];have z0:((0:Nat):Int)=0:=rfl;simp only[go_sem,u,k2,k4,k6,g8,aDO,Fault.none,cY b1,z0];exact aF hk b2
end
end
theorem aLb(x:Dfn)(L:wJ x<=4294967296)(M:x.sig.ops.length+x.sig.funs.length<=4294967296)(s:St)(KV Kp:St->A->Prop)(B:∀b:Bool,KV s (.bool b)):Den cx 5 [.agg x.cs] KV Kp s:=by
 refine fT λz=>?_
 have G:=z _ (dZ ..);have F:Rlz (.list none (x.rules.map Rul.enc)):=G.cell (by simp[Dfn.cs]);clear z;simp only[go_sem];(refine aM func5 [0,1,2,3,5,28,30,31,32,33,54] ?_;simp only[go_sem,ntmps5,Tryz.f5]);(refine aL λp q=>?_);simp only[go_sem,q]
 (apply aQ<;>intro h)<;>simp only[go_sem,h,q]
 .exact aF (B _) bA
 clear h;refine aK3 x.sig M _ _ _ (λU=>?_);simp only[go_sem,q]
 (apply aQ<;>intro h)<;>simp only[go_sem,h,q]
 .exact aF (B _) bA
 clear h;generalize IntKind.i64.wrap (IntKind.i64.wrap (IntKind.i64.wrap ((x.eqs.length:Int)+(x.once.length:Int))+(x.many.length:Int))+(x.rules.length:Int))=n0
 refine Ex.loop (ι:=Int × Nat) (λc=>[(1,.ptr p 0),(3,.int .i64 c.1),(30,.list none (x.rules.map Rul.enc)),(31,.int .i64 x.rules.length),(32,.int .i64 (c.2:Nat))]) (λ_=>s.setO p (.cells 31 x.cs))
  (λc=>c.2<=x.rules.length) (λc=>x.rules.length-c.2) (n0,0) (aX _) ?_ (by exact aG _) ?_
 ·(simp only[go_sem,q];first|done|exact rfl|exact⟨rfl,rfl⟩)
 .rintro⟨l,i⟩ O;simp only at O;refine bC (V:=[0,1,2,3,5,28,30,31,32,33,54]) _ _ _ _ ?_;simp only[go_sem,q]
  (apply aQ<;>intro h)<;>simp only[go_sem,h,q]
  .have u:i<x.rules.length:=gQ h;obtain⟨e,H⟩:∃a,x.rules[i]?=some a:=⟨_,aV u⟩
   clear h;simp only[go_sem,q,H,u];(refine aL λb5 y=>?_);simp only[go_sem,q,H,u,y]
   (apply aQ<;>intro h)<;>simp only[go_sem,h,q,y]
   .exact aF (B _) bA
   exact⟨(_,i+1),u,aP,⟨rfl,F.wrap (i:=i) (gQ u)⟩,(gX (And.intro q y))⟩
  .clear h;refine aJO x L _ _ _ (λxs=>?_);simp only[go_sem,q];refine aLl xs _ _ _ _ (λZ=>?_);simp only[go_sem,q];exact aF (B _) bA
end Go.AV
