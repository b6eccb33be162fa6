/-
  CheckOrder: for any definition of bulk at most 1048576, and any number, the call returns true; the arguments read as before, memory that was there is as it was (where the listed package-level variables hold what the text of the program lays).
-/
import Derived.Test.YtliopiiflebkdaaGreatDoorOr11
import Derived.WideShapes
import Derived.Test.YtliopiiflebkdaaGreatDoorOr05
import Derived.Test.YtliopiiflebkdaaGreatDoorOr06
import Derived.ChangeMaps5
import Derived.ReadAgain
set_option linter.all false
set_option maxRecDepth 99999
set_option maxHeartbeats 0
namespace Go.AV
open Go Go.Proofs Tryz
section
theorem aKs{S:St}{b:Nat}{o:Ob}(h:S.getO b=some o):S.ge (S.setO b o):=by
 refine⟨λq x m=>?_,λt v u=>u,λy z=>z⟩;rw[aH]at m;split at m
 .rename_i e;subst e;rw[h];exact m
 .exact m
theorem aFh{α:Type}(m:α->A){l r:List α}(h:l.Perm r):cK (l.map m)=cK (r.map m):=by
 induction h with
 | nil=>rfl
 | cons x _ z=>simp only[bN,cK,z]
 | swap x y l=>simp only[bN,cK];omega
 | trans _ _ q u=>rw[q,u]
theorem aMs{α:Type}(l:List α)(k:Nat):(l.drop k++l.take k).Perm l:=by
 have h:(l.take k++l.drop k).Perm l:=by rw[List.take_append_drop]
 exact List.perm_append_comm.trans h
section
variable {s:St} {KV Kp:St->A->Prop}
theorem aKi(d:Dfn)(n:Int)(hb:cX d.cs<=100000000)(hB:wK d<=4294967296)(hS:d.sig.ops.length+d.sig.funs.length<=4294967296)(hk:KV s (.bool true)):Den cx 4 [.agg d.cs,.int .i64 n] KV Kp s:=by
 have hC:=aAi d hb
 have bj:d.rules.length<=100000000/\d.eqs.length<=100000000:=by
  have h1:=iA Rul.enc d.rules;have h2:=iA Eqn.enc d.eqs;rw[xR]at hb;omega
 (refine aL func4 [0,1,2,4,5,6,7,8,11,20,42,43,44] ?_;simp only[go_sem,ntmps4,Tryz.f4]);(refine aM λp hp=>?_);have O:(s.setO p (.cells 31 d.cs)).ge s:=bQ hp (aG s);have gp:(s.setO p (.cells 31 d.cs)).getO p=some (.cells 31 d.cs):=by rw[aH,aE rfl]
 simp only[go_sem,hp];simp only[Dfn.cs,Sig.cs,bS,bP]at gp O;generalize b8:s.setO p _=S at gp O⊢;clear b8 hp;refine fL (aLs d hB hS _ _ _ (λb=>?_)) (by simp only[Dfn.cs,Sig.cs,bS,bP]);cases b<;>simp only[go_sem,gp]
 .refine aEN ?_;simp only[go_sem];exact aF hk O
 (intro B q;try simp only[cU,cN,bJ]at q);have f1:=aS gp (by first|exact q|exact q.2|exact q.2.2|exact q.2.2.2|exact q.2.2.2.2);have z1:decide ((0:Int)<((d.rules.length:Nat):Int))=decide (0<d.rules.length):=by rw[cW];omega
 simp only[go_sem,q,f1,gp,z1]
 have b6:s.getO B=none:=by
  cases h:s.getO B with
  | none=>rfl
  | some o=>rw[O.ob _ _ h]at q;cases q
 have b2:(S.setO B (.cells 31 [.str d.name,.list none (d.sig.sorts.map .str),.list none (d.sig.below.map Below.enc),.list none (d.sig.ops.map Opr.enc),.list none (d.sig.funs.map Opr.enc),.list none (d.sig.values.map .str),.nils,.list none (d.once.map Cel.enc),.str d.kind,.list none (d.many.map Cel.enc),.nils,.str d.start,.str d.watch])).ge S:=bQ q (aG S);have g5:(S.setO B (.cells 31 [.str d.name,.list none (d.sig.sorts.map .str),.list none (d.sig.below.map Below.enc),.list none (d.sig.ops.map Opr.enc),.list none (d.sig.funs.map Opr.enc),.list none (d.sig.values.map .str),.nils,.list none (d.once.map Cel.enc),.str d.kind,.list none (d.many.map Cel.enc),.nils,.str d.start,.str d.watch])).getO B=some (.cells 31 [.str d.name,.list none (d.sig.sorts.map .str),.list none (d.sig.below.map Below.enc),.list none (d.sig.ops.map Opr.enc),.list none (d.sig.funs.map Opr.enc),.list none (d.sig.values.map .str),.nils,.list none (d.once.map Cel.enc),.str d.kind,.list none (d.many.map Cel.enc),.nils,.str d.start,.str d.watch]):=by rw[aH,aE rfl]
 generalize S.setO B (.cells 31 [.str d.name,.list none (d.sig.sorts.map .str),.list none (d.sig.below.map Below.enc),.list none (d.sig.ops.map Opr.enc),.list none (d.sig.funs.map Opr.enc),.list none (d.sig.values.map .str),.nils,.list none (d.once.map Cel.enc),.str d.kind,.list none (d.many.map Cel.enc),.nils,.str d.start,.str d.watch])=S5 at b2 g5⊢;have F:=b2.ob _ _ gp;have b0:=b2.trans O;clear b2 gp O f1 q;have b1:¬ B=p:=λe=>by rw[e,F]at g5;injection g5 with h;injection h with _ h;simp at h
 cases c1:decide (0<d.rules.length)<;>simp only[go_sem,g5,F,z1,c1]
 case' false =>
  obtain⟨m,z,hP,hN,g6⟩:∃m z,z.Perm d.rules/\(m=none->z=[])/\S5.getO B=some (.cells 31 [.str d.name,.list none (d.sig.sorts.map .str),.list none (d.sig.below.map Below.enc),.list none (d.sig.ops.map Opr.enc),.list none (d.sig.funs.map Opr.enc),.list none (d.sig.values.map .str),.nils,.list none (d.once.map Cel.enc),.str d.kind,.list none (d.many.map Cel.enc),gv m (z.map Rul.enc),.str d.start,.str d.watch]) :=
   ⟨none,[],by rw[fC (show d.rules.length=0 by have:=of_decide_eq_false c1;omega)],λ_=>rfl,g5⟩
  have Z:=b0;have G:=F;clear g5 F b0;generalize S5=S6 at g6 G Z⊢
 case' true =>
  obtain⟨k,hi,w1,w2,w3,w4⟩:=aOa n d.rules.length (gR c1) aB;have n0:¬ ((d.rules.length:Nat):Int)=0:=by omega
  simp only[go_sem,w1,w2,w3,w4,n0,cI];(refine bB (OT.l [0,1,2,3,4,5,7,8,9,10,6,11,12,13] .nil) [(6,[8])] ?_;simp only[go_sem,g5,F,Int.toNat_natCast]);have hD:List.take (d.rules.length-k) (List.drop k (d.rules.map Rul.enc))=(d.rules.drop k).map Rul.enc:=by rw[<-List.map_drop,jA aW]
  rw[hD,<-List.map_take];refine⟨λy U=>yO U,by omega,λy U=>yO U,by omega,by decide,λy U=>yO U,by simp only[aK,cS];omega,λt ht=>?_⟩;simp only[go_sem,g5,F,aK,b1];refine⟨by decide,λy U=>yO U,λy U=>yO U,by rw[cS,dV];omega,?_⟩;rw[<-bY]
  have Z:(((S5.setO B (.cells 31 [.str d.name,.list none (d.sig.sorts.map .str),.list none (d.sig.below.map Below.enc),.list none (d.sig.ops.map Opr.enc),.list none (d.sig.funs.map Opr.enc),.list none (d.sig.values.map .str),.nils,.list none (d.once.map Cel.enc),.str d.kind,.list none (d.many.map Cel.enc),.list (some t) ((d.rules.drop k++d.rules.take k).map Rul.enc),.str d.start,.str d.watch])).setT t ((d.rules.drop k).length,46)).setT t ((d.rules.drop k).length+(d.rules.take k).length,46)).ge s:=by
   rw[nI]
   exact aGJ (tk:=some t) (kE _ b0 b6) (λu hu=>by
    cases hu;cases h:s.getT t with
    | none=>rfl
    | some v=>rw[b0.tk _ _ h]at ht;cases ht)
  have G:(((S5.setO B (.cells 31 [.str d.name,.list none (d.sig.sorts.map .str),.list none (d.sig.below.map Below.enc),.list none (d.sig.ops.map Opr.enc),.list none (d.sig.funs.map Opr.enc),.list none (d.sig.values.map .str),.nils,.list none (d.once.map Cel.enc),.str d.kind,.list none (d.many.map Cel.enc),.list (some t) ((d.rules.drop k++d.rules.take k).map Rul.enc),.str d.start,.str d.watch])).setT t ((d.rules.drop k).length,46)).setT t ((d.rules.drop k).length+(d.rules.take k).length,46)).getO p=some (.cells 31 d.cs):=by
   rw[cU,cU,aH,aD b1];exact F
  simp only[Dfn.cs,Sig.cs,bS,bP]at G
  obtain⟨m,z,hP,hN,g6⟩:∃m z,z.Perm d.rules/\(m=none->z=[])/\(((S5.setO B (.cells 31 [.str d.name,.list none (d.sig.sorts.map .str),.list none (d.sig.below.map Below.enc),.list none (d.sig.ops.map Opr.enc),.list none (d.sig.funs.map Opr.enc),.list none (d.sig.values.map .str),.nils,.list none (d.once.map Cel.enc),.str d.kind,.list none (d.many.map Cel.enc),.list (some t) ((d.rules.drop k++d.rules.take k).map Rul.enc),.str d.start,.str d.watch])).setT t ((d.rules.drop k).length,46)).setT t ((d.rules.drop k).length+(d.rules.take k).length,46)).getO B=some (.cells 31 [.str d.name,.list none (d.sig.sorts.map .str),.list none (d.sig.below.map Below.enc),.list none (d.sig.ops.map Opr.enc),.list none (d.sig.funs.map Opr.enc),.list none (d.sig.values.map .str),.nils,.list none (d.once.map Cel.enc),.str d.kind,.list none (d.many.map Cel.enc),gv m (z.map Rul.enc),.str d.start,.str d.watch]) :=
   ⟨some t,d.rules.drop k++d.rules.take k,aMs d.rules k,λh=>(by cases h),by rw[cU,cU,aH,aE rfl];rfl⟩
  clear g5 F b0;generalize ((S5.setO B (.cells 31 [.str d.name,.list none (d.sig.sorts.map .str),.list none (d.sig.below.map Below.enc),.list none (d.sig.ops.map Opr.enc),.list none (d.sig.funs.map Opr.enc),.list none (d.sig.values.map .str),.nils,.list none (d.once.map Cel.enc),.str d.kind,.list none (d.many.map Cel.enc),.list (some t) ((d.rules.drop k++d.rules.take k).map Rul.enc),.str d.start,.str d.watch])).setT t ((d.rules.drop k).length,46)).setT t ((d.rules.drop k).length+(d.rules.take k).length,46)=S6 at g6 G Z⊢
 all_goals
  refine Ex.loop (ι:=Nat × Option Nat) (λc=>[(2,.ptr p 0),(5,.ptr B 0),(42,.int .i64 (d.eqs.length:Nat)),(43,.int .i64 (c.1:Nat))]) (λc=>gs (S6.setO B (.cells 31 [.str d.name,.list none (d.sig.sorts.map .str),.list none (d.sig.below.map Below.enc),.list none (d.sig.ops.map Opr.enc),.list none (d.sig.funs.map Opr.enc),.list none (d.sig.values.map .str),gv c.2 ((d.eqs.reverse.take c.1).map Eqn.enc),.list none (d.once.map Cel.enc),.str d.kind,.list none (d.many.map Cel.enc),gv m (z.map Rul.enc),.str d.start,.str d.watch])) c.2 (d.eqs.reverse.take c.1).length 41)
   (λc=>c.1<=d.eqs.length/\(c.2=none->d.eqs.reverse.take c.1=[])/\∀t,c.2=some t->S6.getT t=none) (λc=>d.eqs.length-c.1) (0,none) ⟨aX _,λ_=>rfl,λt h=>(by cases h)⟩ ?_ (aKs g6) ?_
  .simp only[go_sem]
   try exact rfl
  .rintro⟨i,tk⟩ ⟨hi,hn,hf⟩;simp only at hi hn hf;refine bC (V:=[0,1,2,4,5,6,7,8,11,20,42,43,44]) _ _ _ _ ?_;simp only[go_sem]
   (apply aQ<;>intro h)<;>simp only[go_sem,h]
   .have b3:i<d.eqs.length:=gQ h;clear h;obtain⟨x,hx⟩:∃a,d.eqs.reverse[i]?=some a:=⟨_,aV (by rw[List.length_reverse];exact b3)⟩
    have bh:d.eqs[d.eqs.length-1-i]?=some x:=by rw[<-List.getElem?_reverse b3];exact hx
    have bg:=rG hx;have w5:IntKind.i64.wrap (((d.eqs.length:Nat):Int)-1)=((d.eqs.length-1:Nat):Int):=by rw[eW _ aB aB];omega
    have w6:IntKind.i64.wrap (((d.eqs.length-1:Nat):Int)-(i:Int))=((d.eqs.length-1-i:Nat):Int):=by rw[eW _ aB aB];omega
    have bd:(d.eqs.length-1-i)<d.eqs.length:=by omega
    (refine bB (OT.r 0 16) [] ?_;simp only[go_sem,b1,G,w5,w6,bh,Int.toNat_natCast]);refine⟨bd,by decide,λy U=>(by rw[cC.1 U];rfl),cT rfl rfl (by rw[aK];exact eD λe=>by rw[hn e];rfl) (λy U=>aNP U) (by simp only[aK,dV,List.length_reverse,aO,aU];omega) (λu hu=>?_)⟩;have b9:=eX hu (λt e=>hf t e);rw[eP hu];simp only[go_sem,b1,G];refine⟨(i+1,some u),⟨b3,λh=>(by cases h),λt h=>by cases h;exact b9⟩,aP,bM i aB,?_⟩;show St.ge _ ((S6.setO B (.cells 31 [.str d.name,.list none (d.sig.sorts.map .str),.list none (d.sig.below.map Below.enc),.list none (d.sig.ops.map Opr.enc),.list none (d.sig.funs.map Opr.enc),.list none (d.sig.values.map .str),.list (some u) ((d.eqs.reverse.take (i+1)).map Eqn.enc),.list none (d.once.map Cel.enc),.str d.kind,.list none (d.many.map Cel.enc),gv m (z.map Rul.enc),.str d.start,.str d.watch])).setT u ((d.eqs.reverse.take (i+1)).length,41));rw[bg,bY,aI];exact aG _
   .have bb:i=d.eqs.length:=Nat.le_antisymm hi (Nat.le_of_not_lt (gQ h));subst bb;rw[jA (by rw[List.length_reverse];exact bL _)]at hn⊢
    have b5:(gs (S6.setO B (.cells 31 [.str d.name,.list none (d.sig.sorts.map .str),.list none (d.sig.below.map Below.enc),.list none (d.sig.ops.map Opr.enc),.list none (d.sig.funs.map Opr.enc),.list none (d.sig.values.map .str),gv tk (d.eqs.reverse.map Eqn.enc),.list none (d.once.map Cel.enc),.str d.kind,.list none (d.many.map Cel.enc),gv m (z.map Rul.enc),.str d.start,.str d.watch])) tk d.eqs.reverse.length 41).ge s:=aGJ (kE _ Z b6) (λu hu=>by
     cases h:s.getT u with
     | none=>rfl
     | some v=>have:=hf u hu;rw[Z.tk _ _ h]at this;cases this)
    have M:(gs (S6.setO B (.cells 31 [.str d.name,.list none (d.sig.sorts.map .str),.list none (d.sig.below.map Below.enc),.list none (d.sig.ops.map Opr.enc),.list none (d.sig.funs.map Opr.enc),.list none (d.sig.values.map .str),gv tk (d.eqs.reverse.map Eqn.enc),.list none (d.once.map Cel.enc),.str d.kind,.list none (d.many.map Cel.enc),gv m (z.map Rul.enc),.str d.start,.str d.watch])) tk d.eqs.reverse.length 41).getO p=some (.cells 31 [.str d.name,.list none (d.sig.sorts.map .str),.list none (d.sig.below.map Below.enc),.list none (d.sig.ops.map Opr.enc),.list none (d.sig.funs.map Opr.enc),.list none (d.sig.values.map .str),.list none (d.eqs.map Eqn.enc),.list none (d.once.map Cel.enc),.str d.kind,.list none (d.many.map Cel.enc),.list none (d.rules.map Rul.enc),.str d.start,.str d.watch]):=by rw[bW,aH,aD b1];exact G
    have L:(gs (S6.setO B (.cells 31 [.str d.name,.list none (d.sig.sorts.map .str),.list none (d.sig.below.map Below.enc),.list none (d.sig.ops.map Opr.enc),.list none (d.sig.funs.map Opr.enc),.list none (d.sig.values.map .str),gv tk (d.eqs.reverse.map Eqn.enc),.list none (d.once.map Cel.enc),.str d.kind,.list none (d.many.map Cel.enc),gv m (z.map Rul.enc),.str d.start,.str d.watch])) tk d.eqs.reverse.length 41).getO B=some (.cells 31 [.str d.name,.list none (d.sig.sorts.map .str),.list none (d.sig.below.map Below.enc),.list none (d.sig.ops.map Opr.enc),.list none (d.sig.funs.map Opr.enc),.list none (d.sig.values.map .str),gv tk (d.eqs.reverse.map Eqn.enc),.list none (d.once.map Cel.enc),.str d.kind,.list none (d.many.map Cel.enc),gv m (z.map Rul.enc),.str d.start,.str d.watch]):=by rw[bW,aH,aE rfl]
    generalize gs (S6.setO B (.cells 31 [.str d.name,.list none (d.sig.sorts.map .str),.list none (d.sig.below.map Below.enc),.list none (d.sig.ops.map Opr.enc),.list none (d.sig.funs.map Opr.enc),.list none (d.sig.values.map .str),gv tk (d.eqs.reverse.map Eqn.enc),.list none (d.once.map Cel.enc),.str d.kind,.list none (d.many.map Cel.enc),gv m (z.map Rul.enc),.str d.start,.str d.watch])) tk d.eqs.reverse.length 41=S8 at b5 M L⊢;have b4:(d.eqs.reverse).Perm d.eqs:=List.reverse_perm d.eqs;have b7:=aAi { d with eqs:=d.eqs.reverse,rules:=z } (lQ (aLj d (E:=d.eqs.reverse) (R:=z) (Nat.le_of_eq (aFh Eqn.enc b4)) (Nat.le_of_eq (aFh Rul.enc hP))) hb);have bf:=aKK d b4 hP;have bc:=aNQ (d:=d) (e:={ d with eqs:=d.eqs.reverse,rules:=z }) rfl (gK tk (d.eqs.reverse.map Eqn.enc) (λe=>by rw[hn e];rfl)) (gK m (z.map Rul.enc) (λe=>by rw[hN e];rfl)) (qI _ _) (qI _ _);(refine bB (OT.l [0,2,1,3,4,5,6,7,8] .nil) [(1,[2])] ?_;simp only[go_sem,M,L]);refine fL (uJ hC ?_) (by simp only[Dfn.cs,Sig.cs,bS,bP]);simp only[go_sem,M,L];refine lU (show nK [_] [.agg ({ d with eqs:=d.eqs.reverse,rules:=z }:Dfn).cs] from⟨bc,trivial⟩) (uJ b7 ?_);rw[bf];simp only[go_sem,M,L];cases gU d<;>simp only[go_sem,M,L,beq_true,beq_false]
    all_goals
     refine aEN ?_;simp only[go_sem,M,L];exact aF hk b5
end
end
mutual
def A.ir:A->Prop
 | .int .i64 i=>-9223372036854775808<=i/\i<=9223372036854775807
 | .list _ es=>oI es
 | .agg cs=>oI cs
 | _=>True
def oI:List A->Prop
 | []=>True
 | a::r=>A.ir a/\oI r
end
theorem aGZ{l r:List A}(h:oI l)(m:oI r):oI (l++r):=by
 induction l with
 | nil=>exact m
 | cons a l q=>exact⟨h.1,q h.2⟩
theorem aLB{a:A}(h:oI a.cells):a.ir:=by
 cases a<;>first|exact h.1|exact h
section
theorem aEP{H:Type}:∀l r:List (DataW H),YtliopiiflebkdaaGreatDoor.Rows.uptoBulkAll (l++r)=YtliopiiflebkdaaGreatDoor.Rows.uptoBulkAll l+YtliopiiflebkdaaGreatDoor.Rows.uptoBulkAll r
 | [],r=>by simp[YtliopiiflebkdaaGreatDoor.Rows.uptoBulkAll]
 | a::l,r=>by simp[YtliopiiflebkdaaGreatDoor.Rows.uptoBulkAll,aEP l r,lP]
mutual
def A.wm:A->Nat
 | .str x=>x.length
 | .list _ es=>max es.length (gY es)
 | .agg cs=>gY cs
 | _=>0
def gY:List A->Nat
 | []=>0
 | a::r=>max (A.wm a) (gY r)
end
theorem aJD(a:A):gY a.cells=a.wm:=by
 cases a<;>simp[A.cells,gY,A.wm]
theorem aCs:∀l r:List A,gY (l++r)=max (gY l) (gY r)
 | [],r=>by simp[gY]
 | a::l,r=>by simp[gY,aCs l r,Nat.max_assoc]
theorem aGo{H:Type}{P:Program}{e:TypeId}:∀l r:List (DataW H),DataW.weightsAll P e (l++r)=DataW.weightsAll P e l++DataW.weightsAll P e r
 | [],r=>by simp[DataW.weightsAll]
 | a::l,r=>by simp[DataW.weightsAll,aGo l r]
section
variable {H:Type} {enc:TypeId × Value->H} {P:Program} {W:World} {base:Nat} {spare:Nat->Bool} {held:Bool} {g:Gh}
def fT(g:Gh)(W:World):Prop:=∀b cs e fr,W.heap[b]?=some (.cells cs e fr)->g.pi b=some cs.toList
def Cl(g:Gh)(l:List A)(cs:List Value):Prop:=l.length=cs.length/\∀(j:Nat) (c:A) (v:Value),l[j]?=some c->cs[j]?=some v->Rz g c v
theorem Cl.nil:Cl g [] []:=⟨rfl,λj c v h=>by cases h⟩
theorem Cl.app{l r:List A}{cs u:List Value}(h:Cl g l cs)(y:Cl g r u):Cl g (l++r) (cs++u):=by
 refine⟨by rw[aI,aI,h.1,y.1],λj c v m q=>?_⟩;by_cases z:j<l.length
 .rw[gO z]at m;rw[gO (by rw[<-h.1];exact z)]at q;exact h.2 j c v m q
 .rw[nO aB]at m;rw[nO (by rw[<-h.1];omega),<-h.1]at q;exact y.2 _ c v m q
theorem Cl.one{a:A}{v:Value}(h:Rz g a v):Cl g [a] [v]:=⟨rfl,λj c w m q=>by
 cases j with
 | zero=>cases m;cases q;exact h
 | succ j=>cases m⟩
theorem aNK(S:ByteArray):Rz g (.str S.data.toList) (.string S):=by
 have h:=Rz.str (g:=g) S.data.toList;have e:(⟨S.data.toList.toArray⟩:ByteArray)=S:=by cases S;simp
 rw[e]at h;exact h
def dS(enc:TypeId × Value->H)(P:Program)(W:World)(base:Nat)(spare:Nat->Bool)(held:Bool)(g:Gh)(n:Nat)(t:TypeId)(Q:List A->Prop):Prop :=
 ∀h,h<=n->∀cs y,DataW.trod enc P W base spare held h t cs=some y->∃l,Q l/\cs.length=P.cellsOf t/\Cl g l cs/\(cX l+1<=YtliopiiflebkdaaGreatDoor.Rows.uptoBulk y.1/\oI l)/\∀N,(∀n,n∈DataW.weights P t y.1->n<=N)->gY l<=N
def xU(P:Program):Nat->List Field->Bool
 | _,[]=>true
 | o,f::r=>Nat.beq f.offset o&&xU P (o+P.cellsOf f.type) r
def vR(P:Program):List Field->Nat
 | []=>0
 | f::r=>P.cellsOf f.type+vR P r
inductive Each:List (List A->Prop)->List (List A)->Prop
 | nil:Each [] []
 | cons {Q:List A->Prop} {l:List A} {Qs:List (List A->Prop)} {ls:List (List A)} (h:Q l) (t:Each Qs ls):Each (Q::Qs) (l::ls)
inductive OpQs (enc:TypeId × Value->H) (P:Program) (W:World) (base:Nat) (spare:Nat->Bool) (held:Bool) (g:Gh) (n:Nat):List Field->List (List A->Prop)->Prop
 | nil:OpQs enc P W base spare held g n [] []
 | cons {f:Field} {Q:List A->Prop} {fs:List Field} {Qs:List (List A->Prop)} (h:dS enc P W base spare held g n f.type Q) (t:OpQs enc P W base spare held g n fs Qs):OpQs enc P W base spare held g n (f::fs) (Q::Qs)
theorem aEO{n m:Nat}(hf:m<=n):∀{z:List Field} {Qs:List (List A->Prop)} {o:Nat} {cs:List Value} {xs:List (DataW H × List MemPlace)},OpQs enc P W base spare held g n z Qs->xU P o z=true->cs.length=o+vR P z ->
  z.mapM (λf=>DataW.trod enc P W base spare held m f.type ((cs.drop f.offset).take (P.cellsOf f.type)))=some xs->∃B,Each Qs B/\Cl g B.flatten (cs.drop o)/\(cX B.flatten<=YtliopiiflebkdaaGreatDoor.Rows.uptoBulkAll (xs.map (·.1))/\oI B.flatten)/\∀N,(∀n,n∈DataW.weightsEach P (z.map (·.type)) (xs.map (·.1))->n<=N)->gY B.flatten<=N
 | [],_,o,cs,xs,.nil,_,hl,_=>⟨[],.nil,by
   have:cs.drop o=[]:=eB (by simp only[vR]at hl;omega);rw[this];exact Cl.nil,⟨by simp[cX],trivial⟩,λN _=>by simp[gY]⟩
 | f::z,_,o,cs,xs,.cons h t,q,hl,u=>by
  simp only[xU,dI]at q;obtain⟨ho,q⟩:=q
  replace ho:=nN ho
  rw[List.mapM_cons]at u;cases L:DataW.trod enc P W base spare held m f.type ((cs.drop f.offset).take (P.cellsOf f.type))with
  | none=>rw[L]at u;cases u
  | some y =>
   rw[L]at u;cases M:z.mapM (λf=>DataW.trod enc P W base spare held m f.type ((cs.drop f.offset).take (P.cellsOf f.type)))with
   | none=>rw[M]at u;cases u
   | some ys =>
    rw[M]at u;cases u;obtain⟨l,hQ,b0,hc,F,U⟩:=h m hf _ _ L;simp only[vR]at hl;obtain⟨B,hE,hcs,G,Z⟩:=aEO hf t q aB M
    refine⟨l::B,.cons hQ hE,?_,⟨by have:=F.1;have:=G.1;rw[List.flatten_cons,qD,bN];simp only[YtliopiiflebkdaaGreatDoor.Rows.uptoBulkAll];omega,by rw[List.flatten_cons];exact aGZ F.2 G.2⟩,λN O=>by
     rw[List.flatten_cons,aCs];simp only[bN,DataW.weightsEach,dK]at O;exact Nat.max_le.2 ⟨U N (λn S=>O n (.inl S)),Z N (λn S=>O n (.inr S))⟩⟩
    have e:cs.drop o=(cs.drop f.offset).take (P.cellsOf f.type)++cs.drop (o+P.cellsOf f.type):=by
     rw[ho,<-pZ,List.take_append_drop]
    rw[e,List.flatten_cons];exact hc.app hcs
theorem aE5{n:Nat}{t:TypeId}{u:Array Field}{G:List (List A->Prop)}{Q:List A->Prop}(O:P.underlying t=some (.struct u))(B:xU P 0 u.toList=true)(b0:P.cellsOf t=vR P u.toList)
  (h:OpQs enc P W base spare held g n u.toList G)(Z:∀z,Each G z->Q z.flatten):dS enc P W base spare held g (n+1) t Q:=by
 intro m hf cs y q;cases m with
 | zero=>cases q
 | succ m =>
  unfold DataW.trod at q;rw[O]at q;simp only at q;split at q
  .rename_i hl;cases F:u.toList.mapM (λf=>DataW.trod enc P W base spare held m f.type ((cs.drop f.offset).take (P.cellsOf f.type)))with
   | none=>rw[F]at q;cases q
   | some xs =>
    rw[F]at q;cases q;obtain⟨z,S,M,L,hw⟩:=aEO aB h B aB F;rw[rC]at M;exact⟨_,Z z S,hl,M,⟨by have:=L.1;simp only[YtliopiiflebkdaaGreatDoor.Rows.uptoBulk];omega,L.2⟩,λN U=>hw N (λn hn=>U n (by simp only[DataW.weights,O];exact hn))⟩
  .cases q
theorem aNV{k:IntKind}{i:Int}(h:(Lit.int k i).wf=true):oI [.int k i]:=by
 cases k<;>refine⟨?_,trivial⟩<;>first|trivial|(simp only[Lit.wf,dI,dA]at h;exact h)
theorem aAA{n:Nat}{t:TypeId}{k:IntKind}(B:P.underlying t=some (.int k))(u:P.cellsOf t=1):dS enc P W base spare held g n t (λl=>∃i:Int,(Lit.int k i).wf=true/\l=[.int k i]):=by
 intro m F cs y h;cases m with
 | zero=>cases h
 | succ m =>
  unfold DataW.trod at h;rw[B]at h;simp only at h;split at h<;>try (cases h;done)
  all_goals (rename_i heq;try (cases heq;done))
  all_goals (cases heq;split at h<;>try (cases h;done))
  rename_i z;obtain⟨rfl,q⟩:=z;cases h;exact⟨_,⟨_,q,rfl⟩,u.symm,Cl.one (.int _ _),⟨by simp[cX,A.bulk,YtliopiiflebkdaaGreatDoor.Rows.uptoBulk],aNV q⟩,λN _=>by simp[gY,A.wm]⟩
theorem aDe{n:Nat}{t:TypeId}(B:P.underlying t=some .string)(u:P.cellsOf t=1):dS enc P W base spare held g n t (λl=>∃x:List UInt8,x.length<=maxLen/\l=[.str x]):=by
 intro m F cs y h;cases m with
 | zero=>cases h
 | succ m =>
  unfold DataW.trod at h;rw[B]at h;simp only at h;split at h<;>try (cases h;done)
  all_goals (rename_i heq;try (cases heq;done))
  all_goals (split at h<;>try (cases h;done))
  rename_i z;cases h
  exact⟨_,⟨_,gQ z,rfl⟩,u.symm,Cl.one (aNK _),⟨by simp[cX,A.bulk,YtliopiiflebkdaaGreatDoor.Rows.uptoBulk],trivial,trivial⟩,λN q=>by
   simp only[DataW.weights,cC]at q;have:=q _ rfl;simpa [gY,A.wm]using this⟩
theorem aCR{α z:Type}{f:α->Option z}:∀{l:List α} {r:List z},l.mapM f=some r->r.length=l.length/\∀(j:Nat) (x:α),l[j]?=some x->∃y,r[j]?=some y/\f x=some y
 | [],r,h=>by
  rw[List.mapM_nil]at h;cases h;exact⟨rfl,λj x h=>by cases h⟩
 | a::l,r,h=>by
  rw[List.mapM_cons]at h;cases m:f a with
  | none=>rw[m]at h;cases h
  | some b =>
   rw[m]at h;cases q:l.mapM f with
   | none=>rw[q]at h;cases h
   | some bs =>
    rw[q]at h;cases h;obtain⟨hl,B⟩:=aCR q;refine⟨by simp[hl],λj x u=>?_⟩;cases j with
    | zero=>cases u;exact⟨b,rfl,m⟩
    | succ j=>exact B j x u
theorem aKS{a:Addr}{n:Nat}{cs:List Value}(h:W.cells? base a n=some cs):cs.length=n/\∀(j:Nat) (v:Value),cs[j]?=some v->W.cell? (a.add j)=some v:=by
 unfold World.cells? at h;split at h
 .obtain⟨hl,z⟩:=aCR h;rw[List.length_range]at hl;refine⟨hl,λj v q=>?_⟩;have B:j<n:=by rw[<-hl];exact(dG.1 q).1
  obtain⟨y,m,u⟩:=z j j (by rw[List.getElem?_range B]);rw[q]at m;cases m;exact u
 .cases h
theorem aGt{a:Addr}{v:Value}(h:W.cell? a=some v):∃c e fr,W.heap[a.block]?=some (.cells c e fr)/\a.spot=none/\c.toList[a.off]?=some v:=by
 unfold World.cell? at h;split at h
 .rename_i c e fr m;split at h
  .cases h
  .rename_i q;refine⟨c,e,fr,m,gQ q,gQ h⟩
 .cases h
theorem aFH{α:Type}{n:Nat}{t e:TypeId}{m:α->A}{R:α->Prop}(ht:P.underlying t=some (.slice e))(hc:P.cellsOf t=1)(hk:fT g W)(h:dS enc P W base spare held g n e (λl=>∃x,R x/\l=(m x).cells))
  (b3:∀x,(m x).cells.length=P.cellsOf e)(h1:∀x c,c∈(m x).cells->c.one=true)(b8:0<P.cellsOf e)(bg:0<P.bytesOf e):dS enc P W base spare held g (n+1) t (λl=>∃xs:List α,(∀x,x∈xs->R x)/\xs.length<=maxLen/\l=[.list none (xs.map m)]):=by
 intro G hf cs y q
 have one:∀{v:Value} {xs:List α},Rz g (.list none (xs.map m)) v->Cl g [.list none (xs.map m)] [v]:=λhr=>⟨rfl,λj c v hc hv=>by
  cases j with
  | zero=>cases hc;cases hv;exact hr
  | succ j=>cases hc⟩
 cases G with
 | zero=>cases q
 | succ G =>
  unfold DataW.trod at q;rw[ht]at q;simp only at q;split at q<;>try (cases q;done)
  all_goals (rename_i heq;try (cases heq;done))
  .cases q;exact⟨_,⟨[],λx h=>(by cases h),aX _,rfl⟩,hc.symm,Cl.one (.list0 none none 0 (aX _) (λt h=>by cases h)),⟨by simp[cX,A.bulk,cK,YtliopiiflebkdaaGreatDoor.Rows.uptoBulk],trivial,trivial⟩,λN _=>by simp[gY,A.wm]⟩
  .rename_i a len cap;cases heq;split at q<;>try (cases q;done)
   rename_i hh;obtain⟨hb,c4,b6⟩:=hh;cases hm:(List.range len).mapM (λi=>(W.cells? base (a.add (i * P.cellsOf e)) (P.cellsOf e)).bind (DataW.trod enc P W base spare held G e))with
   | none=>rw[hm]at q;cases q
   | some ys =>
    obtain⟨hl,hg⟩:=aCR hm;rw[List.length_range]at hl;rw[hm]at q;obtain⟨rest,_,rfl⟩:=oT.1 (show Option.map _ _=some y from q)
    have bj:∀i,i<len->∃(x:α) (cs:List Value) (y:DataW H × List MemPlace),ys[i]?=some y/\(((m x).bulk+1<=YtliopiiflebkdaaGreatDoor.Rows.uptoBulk y.1/\(m x).ir)/\∀N,(∀n,n∈DataW.weights P e y.1->n<=N)->(m x).wm<=N)/\R x/\W.cells? base (a.add (i * P.cellsOf e)) (P.cellsOf e)=some cs/\Cl g (m x).cells cs:=by
     intro i B;obtain⟨y,bv,U⟩:=hg i i (by rw[List.getElem?_range B]);cases hcs:W.cells? base (a.add (i * P.cellsOf e)) (P.cellsOf e)with
     | none=>rw[hcs]at U;cases U
     | some cs =>
      rw[hcs]at U;obtain⟨_,⟨x,hx,rfl⟩,_,b2,hb,hw⟩:=h G aB cs y U;rw[aIH]at hb;rw[aJD]at hw;exact⟨x,cs,y,bv,⟨⟨hb.1,aLB hb.2⟩,hw⟩,hx,rfl,b2⟩
    have bt:∀k,k<=len->∃xs:List α,(xs.length=k/\(cK (xs.map m)<=YtliopiiflebkdaaGreatDoor.Rows.uptoBulkAll ((ys.take k).map (·.1))/\oI (xs.map m))/\∀N,(∀n,n∈DataW.weightsAll P e ((ys.take k).map (·.1))->n<=N)->gY (xs.map m)<=N)/\∀(i:Nat) (x:α),xs[i]?=some x->R x/\∃cs,W.cells? base (a.add (i * P.cellsOf e)) (P.cellsOf e)=some cs/\Cl g (m x).cells cs:=by
     intro k
     induction k with
     | zero=>exactλ_=>⟨[],⟨rfl,⟨by simp[cK],trivial⟩,λN _=>by simp[gY]⟩,λi x h=>by cases h⟩
     | succ k ih =>
      intro c3;obtain⟨xs,⟨h3,⟨c1,bl⟩,bn⟩,h4⟩:=ih aB;obtain⟨x,cs,y2,bf,⟨⟨bz,bk⟩,bm⟩,h5,h6,h7⟩:=bj k aB
      have b1:cK ((xs++[x]).map m)<=YtliopiiflebkdaaGreatDoor.Rows.uptoBulkAll ((ys.take (k+1)).map (·.1)):=by
       rw[eO,bf,bY,bY,aEB,aEP];simp only[bN,cP,cK,Option.toList,YtliopiiflebkdaaGreatDoor.Rows.uptoBulkAll];omega
      refine⟨xs++[x],⟨by simp[h3],⟨b1,by rw[bY];exact aGZ bl ⟨bk,trivial⟩⟩,λN Z=>?_⟩,λi z hz=>?_⟩
      .rw[eO,bf,bY,aGo]at Z;simp only[dK,Option.toList,bN,cP,DataW.weightsAll,dQ]at Z;rw[bY,aCs];refine Nat.max_le.2 ⟨bn N (λn hn=>Z n (.inl hn)),?_⟩;have:=bm N (λn hn=>Z n (.inr hn));simpa [gY]using this
      by_cases B:i<xs.length
      .rw[gO B]at hz;exact h4 i z hz
      .rw[nO aB]at hz
       have:i-xs.length=0:=by
        have:=(dG.1 hz).1;simp at this;omega
       rw[this]at hz;cases hz;have:i=k:=by omega
       subst this;exact⟨h5,cs,h6,h7⟩
    obtain⟨xs,⟨bb,⟨br,S⟩,bd⟩,hx⟩:=bt len (bL _)
    have b1:cX [.list none (xs.map m)]+1<=YtliopiiflebkdaaGreatDoor.Rows.uptoBulk (DataW.slice (ys.map (·.1)) (rest.map (·.1))):=by
     rw[jA aB]at br;simp only[cX,A.bulk,YtliopiiflebkdaaGreatDoor.Rows.uptoBulk];omega
    have bp:∀N,(∀n,n∈DataW.weights P t (DataW.slice (ys.map (·.1)) (rest.map (·.1)))->n<=N)->gY [.list none (xs.map m)]<=N:=λN Z=>by
     simp only[DataW.weights,ht,dD,dK]at Z;rw[jA aB]at bd;have h1:=bd N (λn hn=>Z n (.inr (.inl hn)));have U:=Z _ (.inl rfl)
     have h3:xs.length<=((ys.map (·.1)).length+(rest.map (·.1)).length) * P.bytesOf e:=by
      rw[aK,aK];exact lQ aB (Nat.le_mul_of_pos_right _ bg)
     simp only[gY,A.wm,aK];exact Nat.max_le.2 ⟨Nat.max_le.2 ⟨lQ h3 U,h1⟩,aX _⟩
    refine⟨_,⟨xs,λx hm=>?_,by omega,rfl⟩,hc.symm,Cl.one ?_,⟨b1,S,trivial⟩,bp⟩
    .obtain⟨i,B,rfl⟩:=hU hm;exact(hx i _ (aV B)).1
    .by_cases h0:len=0
     .subst h0;have:xs=[]:=fC bb;subst this;exact .list0 none (some a) cap b6 (λt h=>by cases h)
     .have F:∀(i:Nat) (x:α) (j:Nat) (c:A),xs[i]?=some x->(m x).cells[j]?=some c->∃v,W.cell? ((a.add (i * P.cellsOf e)).add j)=some v/\Rz g c v:=by
       intro i x j c B hj;obtain⟨_,cs,h6,h7⟩:=hx i x B;obtain⟨_,h8⟩:=aKS h6;have b7:j<cs.length:=by rw[<-h7.1];exact(dG.1 hj).1
       exact⟨_,h8 j _ (aV b7),h7.2 j c _ hj (aV b7)⟩
      obtain⟨x0,bq⟩:∃x,xs[0]?=some x:=⟨_,aV aB⟩
      obtain⟨c0,bh⟩:∃c,(m x0).cells[0]?=some c:=⟨_,aV (by rw[b3];exact b8)⟩
      obtain⟨v0,b9,_⟩:=F 0 x0 0 c0 bq bh;have ea:(a.add (0 * P.cellsOf e)).add 0=a:=by simp[Addr.add]
      rw[ea]at b9;obtain⟨cc,ee,fr,u,O,_⟩:=aGt b9;obtain⟨b,off,bw⟩:=a;simp only at O u;subst O
      have b4:∀i j,((⟨b,off,none⟩:Addr).add (i * P.cellsOf e)).add j=⟨b,off+i * P.cellsOf e+j,none⟩:=by
       intro i j;unfold Addr.add;by_cases h1:i * P.cellsOf e=0<;>by_cases U:j=0<;>simp[h1,U]
      have pre:∀(i:Nat) (x:α) (j:Nat) (c:A),xs[i]?=some x->(m x).cells[j]?=some c->∃v,cc.toList[off+i * P.cellsOf e+j]?=some v/\Rz g c v:=by
       intro i x j c B hj;obtain⟨v,h8,h9⟩:=F i x j c B hj;rw[b4]at h8;obtain⟨c2,e2,f2,b0,_,b5⟩:=aGt h8;simp only at b0 b5;rw[u]at b0;cases b0;exact⟨v,b5,h9⟩
      have M:(xs.map m).length=len:=by rw[aK,bb]
      have L:=Rz.list (g:=g) none (xs.map m) b off (P.cellsOf e) cap cc.toList (hk b cc ee fr u) (by
       rw[M];obtain⟨xl,bc⟩:∃x,xs[len-1]?=some x:=⟨_,aV aB⟩
       obtain⟨cl,b2⟩:∃c,(m xl).cells[P.cellsOf e-1]?=some c:=⟨_,aV (by rw[b3];omega)⟩
       obtain⟨v,hv,_⟩:=pre (len-1) xl (P.cellsOf e-1) cl bc b2;have:=(dG.1 hv).1
       have e3:(len-1) * P.cellsOf e+P.cellsOf e=len * P.cellsOf e:=by
        rw[<-Nat.succ_mul];congr 1;omega
       omega) aB b6
       (fun y q => by
        obtain⟨x,_,rfl⟩:=cD.1 q;exact b3 x)
       (fun y q => by
        obtain⟨x,_,rfl⟩:=cD.1 q;exact h1 x)
       (fun i y j c v B hj hv => by
        rw[kD]at B;cases S:xs[i]? with
        | none=>rw[S]at B;cases B
        | some x =>
         rw[S]at B;cases B;obtain⟨w,hw,hr⟩:=pre i x j c S hj;rw[hv]at hw;cases hw;exact hr)
       (λt h=>by cases h)
      rw[M]at L;exact L
end
end
section
section
variable {H:Type} {enc:TypeId × Value->H} {P:Program} {W W':World} {base:Nat} {spare:Nat->Bool} {held:Bool}
def Old(W W':World):Prop:=∀k,k<W.heap.size->W'.heap[k]?=W.heap[k]?
theorem Old.get(h:Old W W'){b:Nat}{o:Obj}(m:W.heap[b]?=some o):W'.heap[b]?=some o:=by
 rw[h b (fQ.1 m).1];exact m
theorem Old.cell(h:Old W W'){a:Addr}{v:Value}(m:W.cell? a=some v):W'.cell? a=some v:=by
 unfold World.cell? at m⊢;split at m
 .rename_i c e fr q;rw[h.get q];exact m
 .cases m
theorem sW{α B:Type}{f z:α->Option B}(h:∀x y,f x=some y->z x=some y):∀{l:List α} {r:List B},l.mapM f=some r->l.mapM z=some r
 | [],r,m=>m
 | a::l,r,m=>by
  rw[List.mapM_cons]at m⊢;cases q:f a with
  | none=>rw[q]at m;cases m
  | some b =>
   rw[q]at m;cases u:l.mapM f with
   | none=>rw[u]at m;cases m
   | some bs =>
    rw[u]at m;rw[h a b q,sW h u];exact m
theorem aAw{α z:Type}{x u:Option α}{k q:α->Option z}{y:z}(F:∀a,x=some a->u=some a)(B:∀a y,k a=some y->q a=some y)(h:x.bind k=some y):u.bind q=some y:=by
 cases m:x with
 | none=>rw[m]at h;cases h
 | some a=>rw[m]at h;rw[F a m];exact B a y h
theorem vD{α u:Type}{x q:Option α}{k:α->u}{y:u}(z:∀a,x=some a->q=some a)(h:x.map k=some y):q.map k=some y:=by
 cases m:x with
 | none=>rw[m]at h;cases h
 | some a=>rw[m]at h;rw[z a m];exact h
theorem Old.cells(h:Old W W'){a:Addr}{n:Nat}{cs:List Value}(m:W.cells? base a n=some cs):W'.cells? base a n=some cs:=by
 unfold World.cells? at m⊢;split at m
 .rename_i q;rw[aE q];exact sW (λx y=>h.cell) m
 .cases m
theorem aFW(h:Old W W'):∀(q:Nat) (t:TypeId) (cs:List Value) (x:DataW H × List MemPlace),DataW.trod enc P W base spare held q t cs=some x->DataW.trod enc P W' base spare held q t cs=some x
 | 0,t,cs,x,m=>by cases m
 | q+1,t,cs,x,m=>by
  have B:=aFW h q
  have G:∀(e:TypeId) (a:Addr) (n:Nat) (y:DataW H × List MemPlace),(W.cells? base a n).bind (DataW.trod enc P W base spare held q e)=some y->(W'.cells? base a n).bind (DataW.trod enc P W' base spare held q e)=some y :=
   λe a n y=>aAw (λcs=>h.cells) (λcs y=>B e cs y)
  unfold DataW.trod at m⊢;split at m<;>(try simp only at m⊢)<;>(try exact m)
  case h_6=>exact vD (λy=>G _ _ _ y) m
  case h_8 =>
   split at m
   .rename_i u;rw[aE u];refine aAw (λy=>sW (λi y=>G _ _ _ y)) (λL y=>vD (λr M=>?_)) m;split at M
    .rename_i O;rw[aE O];exact sW (λi y=>G _ _ _ y) M
    .rename_i O;rw[aD O];exact M
   .cases m
  case h_9 =>
   split at m
   .rename_i u;rw[aE u];exact vD (λy=>sW (λf y=>B _ _ y)) m
   .cases m
  case h_10 =>
   split at m
   .rename_i u;rw[aE u];exact vD (λy=>sW (λf y=>B _ _ y)) m
   .cases m
  case h_12 =>
   split at m<;>(try simp only at m⊢)<;>(try exact m)
   exact vD (λy=>B _ _ y) m
  case h_14 =>
   split at m
   .rename_i es F S;rw[h.get S];simp only;split at m
    .rename_i u;rw[aE u];refine aAw (λy=>sW (λf y=>aAw (λk Z=>Z) (λk z hz=>?_))) (λa y hy=>hy) m;split at hz
     .rename_i U;simp only[U,cM];exact vD (λy=>B _ _ y) hz
     .cases hz
    .cases m
   .cases m
theorem aEt(h:Old W W'):∀{z:List TypeId} {vs:List Value} {y:List (DataW H)} {u:List MemPlace},DataW.TrodAll enc P W base spare held z vs y u->DataW.TrodAll enc P W' base spare held z vs y u
 | [],[],[],u,G=>G
 | t::z,v::vs,d::y,u,⟨p,q,⟨m,F⟩,B,e⟩=>⟨p,q,⟨m,aFW h _ _ _ _ F⟩,aEt h B,e⟩
end
end
section
section
variable {H:Type} {enc:TypeId × Value->H} {W:World} {base:Nat} {spare:Nat->Bool} {held:Bool} {g:Gh}
theorem aAy{P:Program}{t:TypeId}{Q:List A->Prop}:dS enc P W base spare held g 0 t Q:=λh q cs y m=>by
 obtain rfl:h=0:=by omega
 cases m
theorem kG{P:Program}{n:Nat}{t:TypeId}{Q R:List A->Prop}(h:dS enc P W base spare held g n t Q)(B:∀l,Q l->R l):dS enc P W base spare held g n t R:=λm z cs y F=>by
 obtain⟨l,q,u⟩:=h m z cs y F;exact⟨l,B l q,u⟩
theorem aNA(x:Tm):x.enc.cells.length=6:=by rw[cG];rfl
theorem aOi(x:Tm):∀c,c∈x.enc.cells->c.one=true:=by
 rw[cG];intro c h;simp only[A.cells,Tm.cs,dD,List.mem_nil_iff,eU]at h;rcases h with rfl|rfl|rfl|rfl|rfl|rfl<;>rfl
theorem aDh(u:fT g W):∀n,dS enc prog W base spare held g n 39 (λl=>∃x:Tm,True/\l=x.enc.cells) /\
  dS enc prog W base spare held g n 37 (λl=>∃xs:List Tm,(∀x,x∈xs->True)/\xs.length<=maxLen/\l=[.list none (xs.map Tm.enc)])
 | 0=>⟨aAy,aAy⟩
 | n+1=>by
  obtain⟨z,q⟩:=aDh u n;refine⟨?_,aFH underlying37 (by kernel_rfl) u z (λx=>(aNA x).trans (by kernel_rfl)) aOi (by rw[show prog.cellsOf 39=6 by kernel_rfl];omega) (gN (by kernel_rfl))⟩;refine aE5 underlying39 (by kernel_rfl) (by kernel_rfl) (.cons (aAA underlying36 (by kernel_rfl)) (.cons (aAA underlying3 (by kernel_rfl)) (.cons (aDe underlying9 (by kernel_rfl)) (.cons (aDe underlying9 (by kernel_rfl)) (.cons q (.cons q .nil)))))) ?_
  .intro S h;cases h with|cons B h =>
   cases h with|cons F h =>
   cases h with|cons G h =>
   cases h with|cons L h =>
   cases h with|cons M h =>
   cases h with|cons O h =>
   cases h;obtain⟨k,_,rfl⟩:=B;obtain⟨m,_,rfl⟩:=F;obtain⟨x,_,rfl⟩:=G;obtain⟨y,_,rfl⟩:=L;obtain⟨a,_,_,rfl⟩:=M;obtain⟨b,_,_,rfl⟩:=O;exact⟨.mk k m x y a b,trivial,by rw[cG];rfl⟩
end
end
section
section
variable {H:Type} {enc:TypeId × Value->H} {W:World} {base:Nat} {spare:Nat->Bool} {held:Bool} {g:Gh}
theorem oY{P:Program}{α:Type}{t e:TypeId}{q:α->A}(G:P.underlying t=some (.slice e))(B:P.cellsOf t=1)(F:fT g W)(h:∀n,dS enc P W base spare held g n e (λl=>∃x,l=(q x).cells))
  (y:∀x,(q x).cells.length=P.cellsOf e)(z:∀x c,c∈(q x).cells->c.one=true)(m:0<P.cellsOf e)(u:0<P.bytesOf e):∀n,dS enc P W base spare held g n t (λl=>∃xs:List α,l=[.list none (xs.map q)])
 | 0=>aAy
 | n+1=>kG (aFH (R:=λ_=>True) G B F (kG (h n) (λl ⟨x,e⟩=>⟨x,trivial,e⟩)) y z m u) (λl ⟨xs,_,_,e⟩=>⟨xs,e⟩)
theorem oW{P:Program}{t:TypeId}{m:Array Field}{y:List (List A->Prop)}{Q:List A->Prop}(F:P.underlying t=some (.struct m))(q:xU P 0 m.toList=true)(u:P.cellsOf t=vR P m.toList)
  (h:∀n,OpQs enc P W base spare held g n m.toList y)(B:∀z,Each y z->Q z.flatten):∀n,dS enc P W base spare held g n t Q
 | 0=>aAy
 | n+1=>aE5 F q u (h n) B
theorem pD(n:Nat):dS enc prog W base spare held g n 3 (λl=>∃i:Int,l=[.int .i64 i]):=kG (aAA underlying3 (by kernel_rfl)) (λl ⟨i,_,e⟩=>⟨i,e⟩)
theorem aMD(n:Nat):dS enc prog W base spare held g n 61 (λl=>∃i:Int,l=[.int .i64 i]):=kG (aAA underlying61 (by kernel_rfl)) (λl ⟨i,_,e⟩=>⟨i,e⟩)
theorem jS(n:Nat):dS enc prog W base spare held g n 9 (λl=>∃x:List UInt8,l=[.str x]):=kG (aDe underlying9 (by kernel_rfl)) (λl ⟨i,_,e⟩=>⟨i,e⟩)
theorem aA5(h:fT g W)(n:Nat):dS enc prog W base spare held g n 39 (λl=>∃x:Tm,l=x.cs):=kG (aDh h n).1 (λl ⟨x,_,e⟩=>⟨x,by rw[e,cG];rfl⟩)
theorem aAQ(h:fT g W)(n:Nat):dS enc prog W base spare held g n 37 (λl=>∃xs:List Tm,l=[.list none (xs.map Tm.enc)]):=kG (aDh h n).2 (λl ⟨x,_,_,e⟩=>⟨x,e⟩)
theorem aAK(m:fT g W):∀n,dS enc prog W base spare held g n 22 (λl=>∃xs:List (List UInt8),l=[.list none (xs.map .str)]) :=
 oY underlying22 (by kernel_rfl) m jS (λx=>(by kernel_rfl:1=prog.cellsOf 9)) (λx c h=>by simp only[A.cells,cC]at h;subst h;rfl) (by rw[show prog.cellsOf 9=1 by kernel_rfl];omega) (gN (by kernel_rfl))
theorem aNt(m:fT g W):∀n,dS enc prog W base spare held g n 62 (λl=>∃xs:List Int,l=[.list none (xs.map (.int .i64))]) :=
 oY underlying62 (by kernel_rfl) m pD (λx=>(by kernel_rfl:1=prog.cellsOf 3)) (λx c h=>by simp only[A.cells,cC]at h;subst h;rfl) (by rw[show prog.cellsOf 3=1 by kernel_rfl];omega) (gN (by kernel_rfl))
theorem aMC(n:Nat):dS enc prog W base spare held g n 102 (λl=>∃x:Below,l=x.cs) :=
 oW underlying102 (by kernel_rfl) (by kernel_rfl) (λn=>.cons (jS n) (.cons (jS n) .nil)) (λu h=>by
  cases h with|cons m h =>
  cases h with|cons q h =>
  cases h;obtain⟨a,rfl⟩:=m;obtain⟨b,rfl⟩:=q;exact⟨⟨a,b⟩,rfl⟩) n
theorem aMG(n:Nat):dS enc prog W base spare held g n 195 (λl=>∃x:Piece,l=x.cs) :=
 oW underlying195 (by kernel_rfl) (by kernel_rfl) (λn=>.cons (jS n) (.cons (jS n) .nil)) (λu h=>by
  cases h with|cons m h =>
  cases h with|cons q h =>
  cases h;obtain⟨a,rfl⟩:=m;obtain⟨b,rfl⟩:=q;exact⟨⟨a,b⟩,rfl⟩) n
end
end
section
section
variable {H:Type} {enc:TypeId × Value->H} {W:World} {base:Nat} {spare:Nat->Bool} {held:Bool} {g:Gh}
theorem aC6(x:Tm):∀c,c∈x.cs->c.one=true:=by
 intro c h;simp only[Tm.cs,dD,List.mem_nil_iff,eU]at h;rcases h with rfl|rfl|rfl|rfl|rfl|rfl<;>rfl
theorem aK6(x:Below):∀c,c∈x.enc.cells->c.one=true:=by
  intro c h;simp only[Below.enc,A.cells,Below.cs,dD,List.mem_nil_iff,eU]at h
  repeat' (first|(subst h;rfl)|(rcases h with h|h))
theorem aLC(h:fT g W):∀n,dS enc prog W base spare held g n 23 (λl=>∃xs:List Below,l=[.list none (xs.map Below.enc)]) :=
 oY underlying23 (by kernel_rfl) h (λn=>kG (aMC n) (λl ⟨x,e⟩=>⟨x,e⟩)) (λx=>(show x.enc.cells.length=2 from rfl).trans (by kernel_rfl)) aK6 (by rw[show prog.cellsOf 102=2 by kernel_rfl];omega) (gN (by kernel_rfl))
theorem aLK(x:Piece):∀c,c∈x.enc.cells->c.one=true:=by
  intro c h;simp only[Piece.enc,A.cells,Piece.cs,dD,List.mem_nil_iff,eU]at h
  repeat' (first|(subst h;rfl)|(rcases h with h|h))
theorem aLN(h:fT g W):∀n,dS enc prog W base spare held g n 60 (λl=>∃xs:List Piece,l=[.list none (xs.map Piece.enc)]) :=
 oY underlying60 (by kernel_rfl) h (λn=>kG (aMG n) (λl ⟨x,e⟩=>⟨x,e⟩)) (λx=>(show x.enc.cells.length=2 from rfl).trans (by kernel_rfl)) aLK (by rw[show prog.cellsOf 195=2 by kernel_rfl];omega) (gN (by kernel_rfl))
theorem aOe(m:fT g W)(n:Nat):dS enc prog W base spare held g n 64 (λl=>∃x:Opr,l=x.cs) :=
 oW underlying64 (by kernel_rfl) (by kernel_rfl) (λn=>.cons (jS n) (.cons (aAK m n) (.cons (jS n) (.cons (aLN m n) (.cons (pD n) (.cons (aMD n) (.cons (aNt m n) .nil))))))) (λO h=>by
  cases h with|cons y h =>
  cases h with|cons z h =>
  cases h with|cons B h =>
  cases h with|cons F h =>
  cases h with|cons G h =>
  cases h with|cons L h =>
  cases h with|cons M h =>
  cases h;obtain⟨a0,rfl⟩:=y;obtain⟨q,rfl⟩:=z;obtain⟨a2,rfl⟩:=B;obtain⟨a3,rfl⟩:=F;obtain⟨a4,rfl⟩:=G;obtain⟨a5,rfl⟩:=L;obtain⟨u,rfl⟩:=M;exact⟨⟨a0,q,a2,a3,a4,a5,u⟩,by simp only[Opr.cs,List.flatten_cons,List.flatten_nil,dQ,bS,bP]⟩) n
theorem aMX(x:Opr):∀c,c∈x.enc.cells->c.one=true:=by
  intro c h;simp only[Opr.enc,A.cells,Opr.cs,dD,List.mem_nil_iff,eU]at h
  repeat' (first|(subst h;rfl)|(rcases h with h|h))
theorem aGG(h:fT g W):∀n,dS enc prog W base spare held g n 24 (λl=>∃xs:List Opr,l=[.list none (xs.map Opr.enc)]) :=
 oY underlying24 (by kernel_rfl) h (λn=>kG (aOe h n) (λl ⟨x,e⟩=>⟨x,e⟩)) (λx=>(show x.enc.cells.length=7 from rfl).trans (by kernel_rfl)) aMX (by rw[show prog.cellsOf 64=7 by kernel_rfl];omega) (gN (by kernel_rfl))
theorem aNM(m:fT g W)(n:Nat):dS enc prog W base spare held g n 26 (λl=>∃x:Sig,l=x.cs) :=
 oW underlying26 (by kernel_rfl) (by kernel_rfl) (λn=>.cons (aAK m n) (.cons (aLC m n) (.cons (aGG m n) (.cons (aGG m n) (.cons (aAK m n) .nil))))) (λG h=>by
  cases h with|cons u h =>
  cases h with|cons y h =>
  cases h with|cons z h =>
  cases h with|cons B h =>
  cases h with|cons F h =>
  cases h;obtain⟨a0,rfl⟩:=u;obtain⟨q,rfl⟩:=y;obtain⟨a2,rfl⟩:=z;obtain⟨a3,rfl⟩:=B;obtain⟨a4,rfl⟩:=F;exact⟨⟨a0,q,a2,a3,a4⟩,by simp only[Sig.cs,List.flatten_cons,List.flatten_nil,dQ,bS,bP]⟩) n
theorem aN9(m:fT g W)(n:Nat):dS enc prog W base spare held g n 41 (λl=>∃x:Eqn,l=x.cs) :=
 oW underlying41 (by kernel_rfl) (by kernel_rfl) (λn=>.cons (aA5 m n) (.cons (aA5 m n) (.cons (aAQ m n) (.cons (pD n) (.cons (pD n) .nil))))) (λG h=>by
  cases h with|cons u h =>
  cases h with|cons y h =>
  cases h with|cons z h =>
  cases h with|cons B h =>
  cases h with|cons F h =>
  cases h;obtain⟨a0,rfl⟩:=u;obtain⟨q,rfl⟩:=y;obtain⟨a2,rfl⟩:=z;obtain⟨a3,rfl⟩:=B;obtain⟨a4,rfl⟩:=F;exact⟨⟨a0,q,a2,a3,a4⟩,by simp only[Eqn.cs,List.flatten_cons,List.flatten_nil,dQ,bS,bP]⟩) n
theorem aNx(x:Eqn):∀c,c∈x.enc.cells->c.one=true:=by
  intro c h;simp only[Eqn.enc,A.cells,Eqn.cs,dK,dD,List.mem_nil_iff,eU]at h
  repeat' (first|(subst h;rfl)|exact aC6 _ c h|(rcases h with h|h))
theorem aNu(h:fT g W):∀n,dS enc prog W base spare held g n 27 (λl=>∃xs:List Eqn,l=[.list none (xs.map Eqn.enc)]) :=
 oY underlying27 (by kernel_rfl) h (λn=>kG (aN9 h n) (λl ⟨x,e⟩=>⟨x,e⟩)) (λx=>(show x.enc.cells.length=15 from rfl).trans (by kernel_rfl)) aNx (by rw[show prog.cellsOf 41=15 by kernel_rfl];omega) (gN (by kernel_rfl))
theorem aNN(q:fT g W)(n:Nat):dS enc prog W base spare held g n 67 (λl=>∃x:Cel,l=x.cs) :=
 oW underlying67 (by kernel_rfl) (by kernel_rfl) (λn=>.cons (jS n) (.cons (jS n) (.cons (aA5 q n) (.cons (pD n) (.cons (pD n) .nil))))) (λG h=>by
  cases h with|cons u h =>
  cases h with|cons y h =>
  cases h with|cons z h =>
  cases h with|cons B h =>
  cases h with|cons F h =>
  cases h;obtain⟨a0,rfl⟩:=u;obtain⟨m,rfl⟩:=y;obtain⟨a2,rfl⟩:=z;obtain⟨a3,rfl⟩:=B;obtain⟨a4,rfl⟩:=F;exact⟨⟨a0,m,a2,a3,a4⟩,by simp only[Cel.cs,List.flatten_cons,List.flatten_nil,dQ,bS,bP]⟩) n
theorem aM2(x:Cel):∀c,c∈x.enc.cells->c.one=true:=by
  intro c h;simp only[Cel.enc,A.cells,Cel.cs,dK,dD,List.mem_nil_iff,eU]at h
  repeat' (first|(subst h;rfl)|exact aC6 _ c h|(rcases h with h|h))
theorem aG3(h:fT g W):∀n,dS enc prog W base spare held g n 28 (λl=>∃xs:List Cel,l=[.list none (xs.map Cel.enc)]) :=
 oY underlying28 (by kernel_rfl) h (λn=>kG (aNN h n) (λl ⟨x,e⟩=>⟨x,e⟩)) (λx=>(show x.enc.cells.length=10 from rfl).trans (by kernel_rfl)) aM2 (by rw[show prog.cellsOf 67=10 by kernel_rfl];omega) (gN (by kernel_rfl))
theorem aM9(m:fT g W)(n:Nat):dS enc prog W base spare held g n 69 (λl=>∃x:Part,l=x.cs) :=
 oW underlying69 (by kernel_rfl) (by kernel_rfl) (λn=>.cons (jS n) (.cons (jS n) (.cons (aA5 m n) (.cons (aAQ m n) (.cons (pD n) (.cons (pD n) .nil)))))) (λL h=>by
  cases h with|cons u h =>
  cases h with|cons y h =>
  cases h with|cons z h =>
  cases h with|cons B h =>
  cases h with|cons F h =>
  cases h with|cons G h =>
  cases h;obtain⟨a0,rfl⟩:=u;obtain⟨q,rfl⟩:=y;obtain⟨a2,rfl⟩:=z;obtain⟨a3,rfl⟩:=B;obtain⟨a4,rfl⟩:=F;obtain⟨a5,rfl⟩:=G;exact⟨⟨a0,q,a2,a3,a4,a5⟩,by simp only[Part.cs,List.flatten_cons,List.flatten_nil,dQ,bS,bP]⟩) n
theorem aMe(x:Part):∀c,c∈x.enc.cells->c.one=true:=by
  intro c h;simp only[Part.enc,A.cells,Part.cs,dK,dD,List.mem_nil_iff,eU]at h
  repeat' (first|(subst h;rfl)|exact aC6 _ c h|(rcases h with h|h))
theorem aMV(h:fT g W):∀n,dS enc prog W base spare held g n 43 (λl=>∃xs:List Part,l=[.list none (xs.map Part.enc)]) :=
 oY underlying43 (by kernel_rfl) h (λn=>kG (aM9 h n) (λl ⟨x,e⟩=>⟨x,e⟩)) (λx=>(show x.enc.cells.length=11 from rfl).trans (by kernel_rfl)) aMe (by rw[show prog.cellsOf 69=11 by kernel_rfl];omega) (gN (by kernel_rfl))
theorem aMR(m:fT g W)(n:Nat):dS enc prog W base spare held g n 71 (λl=>∃x:Fresh,l=x.cs) :=
 oW underlying71 (by kernel_rfl) (by kernel_rfl) (λn=>.cons (aAQ m n) .nil) (λu h=>by
  cases h with|cons q h =>
  cases h;obtain⟨a0,rfl⟩:=q;exact⟨⟨a0⟩,by simp only[Fresh.cs,List.flatten_cons,List.flatten_nil,dQ,bS,bP]⟩) n
theorem aLT(x:Fresh):∀c,c∈x.enc.cells->c.one=true:=by
  intro c h;simp only[Fresh.enc,A.cells,Fresh.cs,dD,List.mem_nil_iff,eU]at h
  repeat' (first|(subst h;rfl)|(rcases h with h|h))
theorem aLx(h:fT g W):∀n,dS enc prog W base spare held g n 44 (λl=>∃xs:List Fresh,l=[.list none (xs.map Fresh.enc)]) :=
 oY underlying44 (by kernel_rfl) h (λn=>kG (aMR h n) (λl ⟨x,e⟩=>⟨x,e⟩)) (λx=>(show x.enc.cells.length=1 from rfl).trans (by kernel_rfl)) aLT (by rw[show prog.cellsOf 71=1 by kernel_rfl];omega) (gN (by kernel_rfl))
theorem aOl(m:fT g W)(n:Nat):dS enc prog W base spare held g n 46 (λl=>∃x:Rul,l=x.cs) :=
 oW underlying46 (by kernel_rfl) (by kernel_rfl) (λn=>.cons (jS n) (.cons (aMV m n) (.cons (aAQ m n) (.cons (aLx m n) (.cons (aAK m n) (.cons (pD n) (.cons (pD n) .nil))))))) (λO h=>by
  cases h with|cons y h =>
  cases h with|cons z h =>
  cases h with|cons B h =>
  cases h with|cons F h =>
  cases h with|cons G h =>
  cases h with|cons L h =>
  cases h with|cons M h =>
  cases h;obtain⟨a0,rfl⟩:=y;obtain⟨q,rfl⟩:=z;obtain⟨a2,rfl⟩:=B;obtain⟨a3,rfl⟩:=F;obtain⟨a4,rfl⟩:=G;obtain⟨a5,rfl⟩:=L;obtain⟨u,rfl⟩:=M;exact⟨⟨a0,q,a2,a3,a4,a5,u⟩,by simp only[Rul.cs,List.flatten_cons,List.flatten_nil,dQ,bS,bP]⟩) n
theorem aNj(x:Rul):∀c,c∈x.enc.cells->c.one=true:=by
  intro c h;simp only[Rul.enc,A.cells,Rul.cs,dD,List.mem_nil_iff,eU]at h
  repeat' (first|(subst h;rfl)|(rcases h with h|h))
theorem aNB(h:fT g W):∀n,dS enc prog W base spare held g n 29 (λl=>∃xs:List Rul,l=[.list none (xs.map Rul.enc)]) :=
 oY underlying29 (by kernel_rfl) h (λn=>kG (aOl h n) (λl ⟨x,e⟩=>⟨x,e⟩)) (λx=>(show x.enc.cells.length=7 from rfl).trans (by kernel_rfl)) aNj (by rw[show prog.cellsOf 46=7 by kernel_rfl];omega) (gN (by kernel_rfl))
theorem aNS(m:fT g W)(n:Nat):dS enc prog W base spare held g n 31 (λl=>∃x:Dfn,l=x.cs) :=
 oW underlying31 (by kernel_rfl) (by kernel_rfl) (λn=>.cons (jS n) (.cons (aNM m n) (.cons (aNu m n) (.cons (aG3 m n) (.cons (jS n) (.cons (aG3 m n) (.cons (aNB m n) (.cons (jS n) (.cons (jS n) .nil))))))))) (λls h=>by
  cases h with|cons B h =>
  cases h with|cons F h =>
  cases h with|cons G h =>
  cases h with|cons L h =>
  cases h with|cons M h =>
  cases h with|cons O h =>
  cases h with|cons S h =>
  cases h with|cons U h =>
  cases h with|cons Z h =>
  cases h;obtain⟨a0,rfl⟩:=B;obtain⟨q,rfl⟩:=F;obtain⟨a2,rfl⟩:=G;obtain⟨a3,rfl⟩:=L;obtain⟨a4,rfl⟩:=M;obtain⟨a5,rfl⟩:=O;obtain⟨u,rfl⟩:=S;obtain⟨y,rfl⟩:=U;obtain⟨z,rfl⟩:=Z;exact⟨⟨a0,q,a2,a3,a4,a5,u,y,z⟩,by simp only[Dfn.cs,List.flatten_cons,List.flatten_nil,dQ,bS,bP]⟩) n
theorem aLO{v:Value}{d:DataW H}{G:List MemPlace}{r:Reach}{z:Nat}(F:fT g W)(u:Value.okWide prog W r z 31 v)(h:DataW.Trod enc prog W base spare held 31 v d G):∃x:Dfn,Rz g x.enc v/\cX x.cs+1<=YtliopiiflebkdaaGreatDoor.Rows.uptoBulk d/\x.enc.ir:=by
 obtain⟨cs,rfl,_⟩:=WideShapes.okWide_struct underlying31 u;obtain⟨m,B⟩:=h;obtain⟨l,⟨x,rfl⟩,hl,q,y,_⟩:=aNS F m m (bL _) _ _ B;refine⟨x,?_,y.1,y.2⟩;have:=Rz.agg (g:=g) x.cs cs.toList q.1.symm ?_ q.2
 .unfold Dfn.enc;simpa using this
 .intro c q;simp only[Dfn.cs,Sig.cs,dK,dD,List.mem_nil_iff,eU]at q
  repeat' (first|(subst q;rfl)|(rcases q with q|q))
end
end
theorem xG{α:Type}{f:α->Nat}{m:α->A}(k:Nat)(h:∀x,f x<=k * ((m x).bulk+1)):∀l:List α,(l.map f).sum<=k * cK (l.map m)
 | []=>by simp
 | x::l=>by
  have q:=h x;have u:=xG k h l;simp only[bN,List.sum_cons,cK,Nat.mul_add]at q u⊢;omega
theorem aOg(x:Eqn):pS x<=2 * (x.enc.bulk+1):=by
 have:=iA Tm.enc x.cond;simp only[pS,Eqn.enc,Eqn.cs,A.bulk,cX,qD];omega
theorem aMJ(x:Part):tO x<=1 * (x.enc.bulk+1):=by
 have:=iA Tm.enc x.right;simp only[tO,Part.enc,Part.cs,A.bulk,cX,qD];omega
theorem aLn(x:Fresh):x.cells.length<=1 * (x.enc.bulk+1):=by
 have:=iA Tm.enc x.cells;simp only[Fresh.enc,Fresh.cs,A.bulk,cX];omega
theorem aNz(x:Rul):tY x<=1 * (x.enc.bulk+1):=by
 have h:=xG 1 aMJ x.parts;have m:=iA Tm.enc x.cond;have q:=xG 1 aLn x.new;simp only[tY,Rul.enc,Rul.cs,A.bulk,cX]at h m q⊢;omega
theorem aMY(x:Dfn):wK x<=2 * cX x.cs/\x.sig.ops.length+x.sig.funs.length<=cX x.cs:=by
 have h:=xG 2 aOg x.eqs;have m:=xG 1 aNz x.rules;have q:=iA Cel.enc x.once;have u:=iA Cel.enc x.many;have y:=iA Opr.enc x.sig.ops;have z:=iA Opr.enc x.sig.funs;simp only[wK,Dfn.cs,Sig.cs,A.bulk,cX,qD];omega
end Go.AV
section
open Go.Proofs.Tryz
namespace Go.Proofs.YtliopiiflebkdaaGreatDoor
open Go Go.AV Go.Proofs.Tryz Go.ChangeShapes Go.WideShapes Go.ChangeAt Go.RowKit
theorem own:ownKnob prog.godebug=none:=by kernel_rfl
def allP(W:World):Nat->Option (List Value):=λb=>match W.heap[b]? with
 | some (.cells cs _ _)=>some cs.toList
 | _=>none
theorem knows_all {W : World} {l : List (String × DataW Unit)} (m : laidMet prog l W) (y : ("strings.asciiSpace",Rows.laid_strings_asciiSpace) ∈ l)
  (z : ("internal/strconv.uint64pow10",Rows.laid_internal_strconv_uint64pow10) ∈ l) : fT (sM (wQ (allP W)) W) W := by
 obtain⟨t0,B,q⟩:=zX aCA (aGH m y);obtain⟨t3,F,u⟩:=zX aCj (aGR m z);intro b cs e fr h;show wQ (allP W) b=some cs.toList;unfold wQ;split
 .rw[q]at h;cases h;rfl
 .rw[u]at h;cases h;rfl
 .unfold allP;rw[h]
theorem order_contract(H:Type)(enc:TypeId × Value->H)(W:World)(base:Nat)(args:Array Value)(U gs:List (DataW H))(y:List MemPlace)
  (u:∀(j:Nat) t v,Tryz.f4.params[j]?=some t->args[j]?=some v->Value.okWide prog W .any base t v)
  (hW:DataW.Whole enc prog Tryz.f4.params.toList Rows.checkOrderSpec.vars false W args.toList U gs y)(b2:Rows.uptoSmall H (U++gs)=true)(hL:laidMetH prog Rows.checkOrderUptoRow.laid W) :
  Calls prog 4 args W λe W'=>∃v,e=.returned v/\Rows.checkOrderSpec.post enc prog Tryz.f4 false true false false W args v W':=by
 have F := hW;have L := hW.lt;obtain ⟨p,q,z,hV,rfl,b6,b7⟩ := hW;have hA : DataW.TrodAll enc prog W 0 (fun _ => true) true Tryz.f4.params.toList args.toList U p := z;have b0 := hA;rw [params4] at hA u;obtain ⟨v0,v1,S,d1,p0,p1,rfl,rfl,rfl,h0,h1⟩ := trodAll_two hA;obtain ⟨rfl,rfl⟩ := trodVars_none hV;obtain ⟨m,rfl,rfl,rfl,b8⟩ := open_int underlying3 (u 1 3 v1 rfl rfl) h1;clear z;simp only [dQ] at F L;have m1 : ("strings.asciiSpace",Rows.laid_strings_asciiSpace) ∈ Rows.checkOrderUptoRow.laid := (.tail _ (.tail _ (.tail _ (.tail _ (.tail _ (.tail _ (.tail _ (.head _))))))));have m2 : ("internal/strconv.uint64pow10",Rows.laid_internal_strconv_uint64pow10) ∈ Rows.checkOrderUptoRow.laid := (.tail _ (.tail _ (.head _)));have hK := knows_all hL m1 m2;obtain ⟨a,ha,b5,hI⟩ := aLO hK (u 0 31 v0 rfl rfl) h0;have O : Rows.uptoBulkAll [S,.lit (.int .i64 m)] ≤ 1048576 := gR b2;simp only [Rows.uptoBulkAll,Rows.uptoBulk] at O;obtain ⟨b3,b4⟩ := aMY a
 have hc:=aKy (f:=4) (args:=[a.enc,.int .i64 m]) (vals:=[v0,.int .i64 m]) (W:=W) (p:=allP W) (l:=Rows.checkOrderUptoRow.laid) func4 rfl rfl hL m1 m2
  (fun b pre h => by
   unfold allP at h;split at h
   .rename_i cs t fr hh;cases h;exact⟨[],t,fr,by rw[hh,dQ]⟩
   .cases h)
  (.cons ha (.cons (.int .i64 m) (.nil _))) (aKi a m aB aB aB rfl)
 refine hc.mono λe W' ⟨he,b1,M,G⟩=>?_
 subst he;have Z:Rows.checkOrderSpec.fn H ([S,DataW.lit (.int .i64 m)]++[])={ results:=[.lit (.bool true)],args:=[S,.lit (.int .i64 m)] }:=rfl;have B:=aEt G b0;simp only[dQ]at B;refine⟨_,rfl,_,_,_,[],p0,[],F,?_,?_,?_,aMW b1 M G,λh=>by cases h⟩
 .rw[Z];exact trodAll_mk1 (shut_bool underlying4 true)
 .rw[Z]
  exact DataW.TrodAll.respare (kids_rows order_k1 order_k2) (slices_full_of prog (by kernel_rfl)) (λt ht=>by
   rw[params4]at ht;obtain rfl|rfl:t=31\/t=3:=gQ ht
   .exact gR (by kernel_rfl)
   .exact gR (by kernel_rfl)) B (λp hp=>cZ (L p hp))
 .rw[Z];rfl
def zeroV:Value:=.agg #[.string ⟨#[]⟩,.slice none 0 0,.slice none 0 0,.slice none 0 0,.slice none 0 0,.slice none 0 0,.slice none 0 0,.slice none 0 0,.string ⟨#[]⟩,.slice none 0 0,.slice none 0 0,.string ⟨#[]⟩,.string ⟨#[]⟩]
def zeroR{H:Type}:DataW H:=.agg [.lit (.string []),.agg [.nil,.nil,.nil,.nil,.nil],.nil,.nil,.lit (.string []),.nil,.nil,.lit (.string []),.lit (.string [])]
theorem order_reads(m:Os){H:Type}(enc:TypeId × Value->H) :
  ∃h,DataW.whole enc prog ((rH m).forCall (λ_ _=>0) ⟨#[],#[zeroV,.int .i64 0],[]⟩).memory Tryz.f4.params.toList (Rows.OpenSpec.upto Rows.checkOrderSpec).vars false #[zeroV,.int .i64 0].toList 8 =
   some ([zeroR,.lit (.int .i64 0)],[],h) :=
 ⟨[],by kernel_rfl⟩
theorem order_lifted(u:Os)(h:u.Started)(H:Type)(enc:TypeId × Value->H)(F:Stop.Interp) :
  ReturnsInHanded {} checked u 4 .any ((Rows.OpenSpec.upto Rows.checkOrderSpec).preRow enc prog Tryz.f4 Rows.checkOrderUptoRow.domain false Rows.checkOrderUptoRow.laid) (((Rows.OpenSpec.upto Rows.checkOrderSpec).at F).post enc prog Tryz.f4 false true false false):=by
 obtain⟨y,M⟩:=order_reads u enc
 refine returnsInHanded_of_row (C:=checked) (s:=Rows.OpenSpec.upto Rows.checkOrderSpec) own h (by kernel_rfl) func4
  (witness_row_atRef (enc := enc) (C := checked) false (rH u) #[zeroV,.int .i64 0] rfl (by kernel_rfl) (by kernel_rfl) (by kernel_rfl)
   (OpenSpec.preRow_of_cond 8 M (by kernel_rfl) (λk z=>by cases z;rfl) (by kernel_rfl) (aL1 u _))) ?_
 intro W base args B gs m q L _ z _ G _ _;exact order_contract H enc W base args B gs m q L (z _ rfl) G
theorem order_said:Rows.CheckOrderUptoSaid :=
 OpenClaim.holds_of_cond 4 Tryz.f4 rfl rfl rfl rfl rfl rfl rfl ⟨rfl,rfl,rfl,rfl,rfl⟩ rfl rfl rfl rfl rfl order_named func4 order_closed
  (gR (by kernel_rfl)) (by unfold Func.isWrapper;rw[aD (of_decide_eq_false (by kernel_rfl))];exact⟨rfl,rfl⟩)
  (λm h H enc _ F=>by rw[OpenClaim.pre_eq_preRow];exact order_lifted m h H enc F)
theorem order_plain(f:FuncId)(fn:Func)(q:Tryz.pinned.checked.prog.funcNamed Rows.checkOrderUptoRow.func=some f)(h:Tryz.pinned.checked.prog.funcs[f]?=some fn) :
  true=Tryz.pinned.checked.prog.looks []/\∀(j:Nat) t,fn.params[j]?=some t->Tryz.pinned.checked.prog.wantsStandIn t=false:=by
 obtain rfl:f=4:=uF (order_named.symm.trans q) |>.symm
 obtain rfl:fn=Tryz.f4:=(uF (func4.symm.trans h)).symm;refine⟨order_looks,λj t m=>?_⟩;rw[params4]at m;obtain rfl|rfl:t=31\/t=3:=by simpa using Array.mem_of_getElem? m
 .exact(show prog.wantsStandIn 31=false by kernel_rfl)
 .exact(show prog.wantsStandIn 3=false by kernel_rfl)
theorem checkOrderUpto_holds:Rows.CheckOrderUptoCardSaid :=
 Claim7.holds_tied_plain_at .later [] _ _ _ _ order_said (λ_ h=>by cases h) order_wf (λ_ h=>by cases h) checkOrderUpto_row_tie rfl ⟨rfl,rfl⟩ order_main rfl order_plain order_goes
#print axioms checkOrderUpto_holds
end Go.Proofs.YtliopiiflebkdaaGreatDoor
end
