/-
  CheckLess: for any definition of bulk at most 1048576, and any number, the call returns true; the arguments read as before, memory that was there is as it was (where the listed package-level variables hold what the text of the program lays).
-/
import Derived.Test.YtliopiiflebkdaaGreatDoorLe11
import Derived.WideShapes
import Derived.Test.YtliopiiflebkdaaGreatDoorLe05
import Derived.Test.YtliopiiflebkdaaGreatDoorLe06
import Derived.ChangeMaps5
import Derived.ReadAgain
set_option linter.all false
set_option maxRecDepth 99999
set_option maxHeartbeats 0
namespace Go.AV
open Go Go.Proofs Tryz
section
theorem aNR(n:Int):0<=IntKind.u64.wrap n:=by
 have h:IntKind.u64.wrap n=n % 18446744073709551616:=by
  simp only[IntKind.wrap];rw[aD (by simp[IntKind.signed])];rfl
 rw[h];omega
theorem aHg(n:Int)(m:Nat)(q:0<m)(u:m<=4294967296):∃k:Nat,k<m/\IntKind.u64.wrap (m:Int)=m/\(IntKind.u64.wrap n).tmod (m:Int)=(k:Int)/\IntKind.i64.wrap (k:Int)=k/\IntKind.u64.wrap (k:Int)=k:=by
 have h:=aNR n;have y:0<=(IntKind.u64.wrap n).tmod (m:Int):=Int.tmod_nonneg _ h;have z:(IntKind.u64.wrap n).tmod (m:Int)<m:=Int.tmod_lt_of_pos _ aB;refine⟨((IntKind.u64.wrap n).tmod (m:Int)).toNat,by omega,IntWalk.u64_in _ aB,by omega,fF _ aB aB,IntWalk.u64_in _ aB⟩
theorem aHL(tk:Option Nat)(es:List A)(h:tk=none->es=[]):A.le (ev tk es) (.list none es):=by
 cases tk with
 | none=>rw[h rfl];exactλg v x=>by cases x;exact .list0 none _ 0 (aX _) aW
 | some t=>exact A.le.forget _ _
theorem aAG{X S:St}{tk:Option Nat}{n:Nat}{e:TypeId}(m:X.ge S)(h:∀u,tk=some u->S.getT u=none):(gs X tk n e).ge S :=
 ⟨fun b o z => by rw [bW]; exact m.ob b o z,fun t v q => by
  rw[eB];by_cases e:tk=some t
  .rw[h t e]at q;cases q
  .rw[aD e];exact m.tk t v q,λy B=>by rw[aBb];exact m.ls y B⟩
theorem yM{l:List Rul}{y:A}(h:y∈l.map Rul.enc):y.cells.length=7:=by
 obtain⟨z,_,rfl⟩:=cC.1 h;rfl
theorem yH{l:List Eqn}{y:A}(h:y∈l.map Eqn.enc):y.cells.length=15:=by
 obtain⟨z,_,rfl⟩:=cC.1 h;rfl
section
variable {s:St} {KV Kp:St->A->Prop}
theorem aHy{d e:Dfn}{R E:A}(q:e={ d with eqs:=e.eqs,rules:=e.rules })(h:A.le E (.list none (e.eqs.map Eqn.enc)))(m:A.le R (.list none (e.rules.map Rul.enc)))(oE:E.one=true)(u:R.one=true) :
  A.le (.agg [.str d.name,.list none (d.sig.sorts.map .str),.list none (d.sig.below.map Below.enc),.list none (d.sig.ops.map Opr.enc),.list none (d.sig.funs.map Opr.enc),.list none (d.sig.values.map .str),E,.list none (d.once.map Cel.enc),.str d.kind,.list none (d.many.map Cel.enc),R,.str d.start,.str d.watch]) (.agg e.cs):=by
 have hcs:e.cs=[.str d.name,.list none (d.sig.sorts.map .str),.list none (d.sig.below.map Below.enc),.list none (d.sig.ops.map Opr.enc),.list none (d.sig.funs.map Opr.enc),.list none (d.sig.values.map .str),.list none (e.eqs.map Eqn.enc),.list none (d.once.map Cel.enc),.str d.kind,.list none (d.many.map Cel.enc),.list none (e.rules.map Rul.enc),.str d.start,.str d.watch]:=by
  rw[q];rfl
 rw[hcs];exact A.le.agg ⟨⟨bF _,rfl⟩,⟨bF _,rfl⟩,⟨bF _,rfl⟩,⟨bF _,rfl⟩,⟨bF _,rfl⟩,⟨bF _,rfl⟩,⟨h,rfl⟩,⟨bF _,rfl⟩,⟨bF _,rfl⟩,⟨bF _,rfl⟩,⟨m,rfl⟩,⟨bF _,rfl⟩,⟨bF _,rfl⟩,trivial⟩
theorem aFT(d:Dfn){E:List Eqn}{R:List Rul}(h:cH (E.map Eqn.enc)<=cH (d.eqs.map Eqn.enc))(m:cH (R.map Rul.enc)<=cH (d.rules.map Rul.enc)):cW ({ d with eqs:=E,rules:=R }:Dfn).cs<=cW d.cs:=by
 rw[aAz,aAz];simp only;omega
theorem aFo{α:Type}(h:α->A)(l:List α)(i:Nat):cH ((l.take i++l.drop (i+1)).map h)<=cH (l.map h):=by
 have m:cH (l.map h)=cH ((l.take i).map h)+cH ((l.drop i).map h):=by rw[<-zX,<-bY,List.take_append_drop]
 have q:cH ((l.drop (i+1)).map h)<=cH ((l.drop i).map h):=by
  rw[<-mT];cases l.drop i with
  | nil=>exact bH _
  | cons x r=>simp only[List.drop_succ_cons,qA,bP,cH];omega
 rw[bY,zX];omega
theorem aK1(d:Dfn)(n:Int)(hb:cW d.cs<=100000000)(hB:wJ d<=4294967296)(hS:d.sig.ops.length+d.sig.funs.length<=4294967296)(hk:KV s (.bool true)):Den cx 3 [.agg d.cs,.int .i64 n] KV Kp s:=by
 have hC:=xL d hb;(refine aM func3 [0,1,2,4,5,6,7,8,9,10,18,24,47,52,75] ?_;simp only[go_sem,ntmps3,Tryz.f3]);(refine aL λp hp=>?_);have F:(s.setO p (.cells 31 d.cs)).ge s:=bQ hp (aG s);have G:(s.setO p (.cells 31 d.cs)).getO p=some (.cells 31 d.cs):=by rw[aH,aE rfl]
 simp only[go_sem,hp];simp only[Dfn.cs,Sig.cs,bT,bO]at G F;generalize b6:s.setO p _=S at G F⊢;clear b6 hp;refine fO (aLb d hB hS _ _ _ (λb=>?_)) (by simp only[Dfn.cs,Sig.cs,bT,bO]);cases b<;>simp only[go_sem,G]
 .refine zV ?_;simp only[go_sem];exact aF hk F
 refine fO (sP hC ?_) (by simp only[Dfn.cs,Sig.cs,bT,bO]);cases hs:jC d<;>simp only[go_sem,G]
 .refine zV ?_;simp only[go_sem];exact aF hk F
 have U:d.rules.length<=300/\d.eqs.length<=300:=by
  have c1:=(aEG hs).1;unfold kZ at c1;simp only[dF,kD,gG]at c1;omega
 have z1:decide ((0:Int)<((d.rules.length:Nat):Int))=decide (0<d.rules.length):=by rw[cT];omega
 have z2:decide ((0:Int)<((d.eqs.length:Nat):Int))=decide (0<d.eqs.length):=by rw[cT];omega
 cases c1:decide (0<d.rules.length)<;>simp only[go_sem,G,z1,c1]
 case' true =>
  obtain⟨i,hi,w1,w2,w3,w4⟩:=aHg n d.rules.length (gI c1) aB;have n0:¬ ((d.rules.length:Nat):Int)=0:=by omega
  have wi:=bM i aB;simp only[go_sem,w1,w2,w3,w4,n0,cI];(intro p7 q;try simp only[cZ,cN,bJ]at q);have M:=aS G (by first|exact q|exact q.2|exact q.2.2|exact q.2.2.2|exact q.2.2.2.2);simp only[go_sem,q,M,G];(refine bB (OT.l [0,1,2,3,4,6,7,8,9,10,5,11,12,13] .nil) [(5,[7])] ?_;simp only[go_sem,q,M,G,wi,Int.toNat_natCast]);rw[<-List.map_take];refine⟨λy B=>yM B,by omega,λy B=>yM B,by omega,by decide,λy B=>yM B,rK (tk:=none) (es:=[]) (λ_=>rfl) (λt h=>by cases h) (λy B=>by cases B) (by simp only[aK,dQ,aT];omega) (λtk h0 U=>?_)⟩;simp only[bO,aT,fL]at h0⊢;have U:∀t,tk=some t->S.getT t=none:=λt e=>(U t e).resolve_left (λh=>by cases h)
  simp only[go_sem,q,M,G];have hD:List.take (d.rules.length-(i+1)) (List.drop (i+1) (d.rules.map Rul.enc))=(d.rules.drop (i+1)).map Rul.enc:=by rw[<-List.map_drop,iZ aW]
  rw[hD];refine⟨by decide,λy B=>yM B,rK (λe=>by rw[h0 e]) (λt ht=>by rw[eB,aE ht,aK]) (λy B=>yM B) (by simp only[aK,dQ,cS];omega) (λb0 O b2=>?_)⟩;rw[<-bY]at O⊢;have L:=aHy (d:=d) (e:={ d with rules:=d.rules.take i++d.rules.drop (i+1) }) rfl (bF _) (aHL b0 _ O) rfl (aHb _ _);have b1:=xL { d with rules:=d.rules.take i++d.rules.drop (i+1) } (kS (aFT d (E:=d.eqs) (R:=d.rules.take i++d.rules.drop (i+1)) (bH _) (aFo Rul.enc d.rules i)) hb);have b4:=aJ5 d i hs;cases b0<;>(try simp only[ev]at L⊢)<;>simp only[go_sem,q,M,G]
  all_goals
   refine kU (show mM [_] [.agg ({ d with rules:=d.rules.take i++d.rules.drop (i+1) }:Dfn).cs] from⟨L,trivial⟩) (sP b1 ?_);rw[b4];simp only[go_sem,q,M,G,z2];generalize hX:gs _ _ _ 46=S6
   have Z:S6.ge S:=by
    rw[<-hX];refine aAG (aAG (kF _ (aG S) q) U) (λu hu=>?_);rcases b2 u hu with h|h
    .exact U u h
    .rw[eB]at h;split at h
     .cases h
     .exact h
   have b3:=Z.trans F;have z:=Z.ob _ _ G;clear hX Z G F U b2 L b1 b4 hD
   (try simp only[go_sem,z,z2])
 case' false =>
  have b3:=F;have z:=G;clear F G;generalize S=S6 at b3 z⊢
  (try simp only[go_sem,z,z2])
 all_goals
  cases c2:decide (0<d.eqs.length)<;>simp only[go_sem,z,z2,c2]
  .refine zV ?_;simp only[go_sem];exact aF hk b3
  obtain⟨i,hi,w1,w2,w3,w4⟩:=aHg n d.eqs.length (gI c2) aB;have n0:¬ ((d.eqs.length:Nat):Int)=0:=by omega
  have wi:=bM i aB;simp only[go_sem,w1,w2,w3,w4,n0,cI];(intro b7 m;try simp only[cZ,cN,bJ]at m);have M:=aS z (by first|exact m|exact m.2|exact m.2.2|exact m.2.2.2|exact m.2.2.2.2);simp only[go_sem,m,M,z];(refine bB (OT.l [0,1,2,3,4,6,7,8,9,10,5,11,12,13] .nil) [(5,[7])] ?_;simp only[go_sem,m,M,z,wi,Int.toNat_natCast]);rw[<-List.map_take];refine⟨λy B=>yH B,by omega,λy B=>yH B,by omega,by decide,λy B=>yH B,rK (tk:=none) (es:=[]) (λ_=>rfl) (λt h=>by cases h) (λy B=>by cases B) (by simp only[aK,dQ,aT];omega) (λtk h0 U=>?_)⟩;simp only[bO,aT,fL]at h0⊢;have U:∀t,tk=some t->S6.getT t=none:=λt e=>(U t e).resolve_left (λh=>by cases h)
  simp only[go_sem,m,M,z];have hD:List.take (d.eqs.length-(i+1)) (List.drop (i+1) (d.eqs.map Eqn.enc))=(d.eqs.drop (i+1)).map Eqn.enc:=by rw[<-List.map_drop,iZ aW]
  rw[hD];refine⟨by decide,λy B=>yH B,rK (λe=>by rw[h0 e]) (λt ht=>by rw[eB,aE ht,aK]) (λy B=>yH B) (by simp only[aK,dQ,cS];omega) (λb0 O b2=>?_)⟩;rw[<-bY]at O⊢;have L:=aHy (d:=d) (e:={ d with eqs:=d.eqs.take i++d.eqs.drop (i+1) }) rfl (aHL b0 _ O) (bF _) (aHb _ _) rfl;have b1:=xL { d with eqs:=d.eqs.take i++d.eqs.drop (i+1) } (kS (aFT d (E:=d.eqs.take i++d.eqs.drop (i+1)) (R:=d.rules) (aFo Eqn.enc d.eqs i) (bH _)) hb);have b4:=aKe d i hs;cases b0<;>(try simp only[ev]at L⊢)<;>simp only[go_sem,m,M,z]
  all_goals
   refine kU (show mM [_] [.agg ({ d with eqs:=d.eqs.take i++d.eqs.drop (i+1) }:Dfn).cs] from⟨L,trivial⟩) (sP b1 ?_);rw[b4];simp only[go_sem,m,M,z];generalize hX:gs _ _ _ 41=S7
   have b5:S7.ge S6:=by
    rw[<-hX];refine aAG (aAG (kF _ (aG S6) m) U) (λu hu=>?_);rcases b2 u hu with h|h
    .exact U u h
    .rw[eB]at h;split at h
     .cases h
     .exact h
   refine zV ?_;simp only[go_sem];exact aF hk (b5.trans b3)
end
end
mutual
def A.ir:A->Prop
 | .int .i64 i=>-9223372036854775808<=i/\i<=9223372036854775807
 | .list _ es=>oJ es
 | .agg cs=>oJ cs
 | _=>True
def oJ:List A->Prop
 | []=>True
 | a::r=>A.ir a/\oJ r
end
theorem aGP{l r:List A}(h:oJ l)(m:oJ r):oJ (l++r):=by
 induction l with
 | nil=>exact m
 | cons a l q=>exact⟨h.1,q h.2⟩
theorem aLu{a:A}(h:oJ a.cells):a.ir:=by
 cases a<;>first|exact h.1|exact h
section
theorem aEW{H:Type}:∀l r:List (DataW H),YtliopiiflebkdaaGreatDoor.Rows.uptoBulkAll (l++r)=YtliopiiflebkdaaGreatDoor.Rows.uptoBulkAll l+YtliopiiflebkdaaGreatDoor.Rows.uptoBulkAll r
 | [],r=>by simp[YtliopiiflebkdaaGreatDoor.Rows.uptoBulkAll]
 | a::l,r=>by simp[YtliopiiflebkdaaGreatDoor.Rows.uptoBulkAll,aEW l r,lT]
mutual
def A.wm:A->Nat
 | .str x=>x.length
 | .list _ es=>max es.length (gW es)
 | .agg cs=>gW cs
 | _=>0
def gW:List A->Nat
 | []=>0
 | a::r=>max (A.wm a) (gW r)
end
theorem aJD(a:A):gW a.cells=a.wm:=by
 cases a<;>simp[A.cells,gW,A.wm]
theorem aCw:∀l r:List A,gW (l++r)=max (gW l) (gW r)
 | [],r=>by simp[gW]
 | a::l,r=>by simp[gW,aCw l r,Nat.max_assoc]
theorem aGC{H:Type}{P:Program}{e:TypeId}:∀l r:List (DataW H),DataW.weightsAll P e (l++r)=DataW.weightsAll P e l++DataW.weightsAll P e r
 | [],r=>by simp[DataW.weightsAll]
 | a::l,r=>by simp[DataW.weightsAll,aGC l r]
section
variable {H:Type} {enc:TypeId × Value->H} {P:Program} {W:World} {base:Nat} {spare:Nat->Bool} {held:Bool} {g:Gh}
def fU(g:Gh)(W:World):Prop:=∀b cs e fr,W.heap[b]?=some (.cells cs e fr)->g.pi b=some cs.toList
def Cl(g:Gh)(l:List A)(cs:List Value):Prop:=l.length=cs.length/\∀(j:Nat) (c:A) (v:Value),l[j]?=some c->cs[j]?=some v->Rz g c v
theorem Cl.nil:Cl g [] []:=⟨rfl,λj c v h=>by cases h⟩
theorem Cl.app{l r:List A}{cs u:List Value}(h:Cl g l cs)(y:Cl g r u):Cl g (l++r) (cs++u):=by
 refine⟨by rw[aI,aI,h.1,y.1],λj c v m q=>?_⟩;by_cases z:j<l.length
 .rw[gP z]at m;rw[gP (by rw[<-h.1];exact z)]at q;exact h.2 j c v m q
 .rw[nO aB]at m;rw[nO (by rw[<-h.1];omega),<-h.1]at q;exact y.2 _ c v m q
theorem Cl.one{a:A}{v:Value}(h:Rz g a v):Cl g [a] [v]:=⟨rfl,λj c w m q=>by
 cases j with
 | zero=>cases m;cases q;exact h
 | succ j=>cases m⟩
theorem aNX(S:ByteArray):Rz g (.str S.data.toList) (.string S):=by
 have h:=Rz.str (g:=g) S.data.toList;have e:(⟨S.data.toList.toArray⟩:ByteArray)=S:=by cases S;simp
 rw[e]at h;exact h
def dS(enc:TypeId × Value->H)(P:Program)(W:World)(base:Nat)(spare:Nat->Bool)(held:Bool)(g:Gh)(n:Nat)(t:TypeId)(Q:List A->Prop):Prop :=
 ∀h,h<=n->∀cs y,DataW.trod enc P W base spare held h t cs=some y->∃l,Q l/\cs.length=P.cellsOf t/\Cl g l cs/\(cW l+1<=YtliopiiflebkdaaGreatDoor.Rows.uptoBulk y.1/\oJ l)/\∀N,(∀n,n∈DataW.weights P t y.1->n<=N)->gW l<=N
def xY(P:Program):Nat->List Field->Bool
 | _,[]=>true
 | o,f::r=>Nat.beq f.offset o&&xY P (o+P.cellsOf f.type) r
def vR(P:Program):List Field->Nat
 | []=>0
 | f::r=>P.cellsOf f.type+vR P r
inductive Each:List (List A->Prop)->List (List A)->Prop
 | nil:Each [] []
 | cons {Q:List A->Prop} {l:List A} {Qs:List (List A->Prop)} {ls:List (List A)} (h:Q l) (t:Each Qs ls):Each (Q::Qs) (l::ls)
inductive OpQs (enc:TypeId × Value->H) (P:Program) (W:World) (base:Nat) (spare:Nat->Bool) (held:Bool) (g:Gh) (n:Nat):List Field->List (List A->Prop)->Prop
 | nil:OpQs enc P W base spare held g n [] []
 | cons {f:Field} {Q:List A->Prop} {fs:List Field} {Qs:List (List A->Prop)} (h:dS enc P W base spare held g n f.type Q) (t:OpQs enc P W base spare held g n fs Qs):OpQs enc P W base spare held g n (f::fs) (Q::Qs)
theorem aEK{n m:Nat}(hf:m<=n):∀{z:List Field} {Qs:List (List A->Prop)} {o:Nat} {cs:List Value} {xs:List (DataW H × List MemPlace)},OpQs enc P W base spare held g n z Qs->xY P o z=true->cs.length=o+vR P z ->
  z.mapM (λf=>DataW.trod enc P W base spare held m f.type ((cs.drop f.offset).take (P.cellsOf f.type)))=some xs->∃B,Each Qs B/\Cl g B.flatten (cs.drop o)/\(cW B.flatten<=YtliopiiflebkdaaGreatDoor.Rows.uptoBulkAll (xs.map (·.1))/\oJ B.flatten)/\∀N,(∀n,n∈DataW.weightsEach P (z.map (·.type)) (xs.map (·.1))->n<=N)->gW B.flatten<=N
 | [],_,o,cs,xs,.nil,_,hl,_=>⟨[],.nil,by
   have:cs.drop o=[]:=eC (by simp only[vR]at hl;omega);rw[this];exact Cl.nil,⟨by simp[cW],trivial⟩,λN _=>by simp[gW]⟩
 | f::z,_,o,cs,xs,.cons h t,q,hl,u=>by
  simp only[xY,dF]at q;obtain⟨ho,q⟩:=q
  replace ho:=nN ho
  rw[List.mapM_cons]at u;cases L:DataW.trod enc P W base spare held m f.type ((cs.drop f.offset).take (P.cellsOf f.type))with
  | none=>rw[L]at u;cases u
  | some y =>
   rw[L]at u;cases M:z.mapM (λf=>DataW.trod enc P W base spare held m f.type ((cs.drop f.offset).take (P.cellsOf f.type)))with
   | none=>rw[M]at u;cases u
   | some ys =>
    rw[M]at u;cases u;obtain⟨l,hQ,b0,hc,F,U⟩:=h m hf _ _ L;simp only[vR]at hl;obtain⟨B,hE,hcs,G,Z⟩:=aEK hf t q aB M
    refine⟨l::B,.cons hQ hE,?_,⟨by have:=F.1;have:=G.1;rw[List.flatten_cons,qD,bP];simp only[YtliopiiflebkdaaGreatDoor.Rows.uptoBulkAll];omega,by rw[List.flatten_cons];exact aGP F.2 G.2⟩,λN O=>by
     rw[List.flatten_cons,aCw];simp only[bP,DataW.weightsEach,dK]at O;exact Nat.max_le.2 ⟨U N (λn S=>O n (.inl S)),Z N (λn S=>O n (.inr S))⟩⟩
    have e:cs.drop o=(cs.drop f.offset).take (P.cellsOf f.type)++cs.drop (o+P.cellsOf f.type):=by
     rw[ho,<-mT,List.take_append_drop]
    rw[e,List.flatten_cons];exact hc.app hcs
theorem aE9{n:Nat}{t:TypeId}{u:Array Field}{G:List (List A->Prop)}{Q:List A->Prop}(O:P.underlying t=some (.struct u))(B:xY P 0 u.toList=true)(b0:P.cellsOf t=vR P u.toList)
  (h:OpQs enc P W base spare held g n u.toList G)(Z:∀z,Each G z->Q z.flatten):dS enc P W base spare held g (n+1) t Q:=by
 intro m hf cs y q;cases m with
 | zero=>cases q
 | succ m =>
  unfold DataW.trod at q;rw[O]at q;simp only at q;split at q
  .rename_i hl;cases F:u.toList.mapM (λf=>DataW.trod enc P W base spare held m f.type ((cs.drop f.offset).take (P.cellsOf f.type)))with
   | none=>rw[F]at q;cases q
   | some xs =>
    rw[F]at q;cases q;obtain⟨z,S,M,L,hw⟩:=aEK aB h B aB F;rw[qA]at M;exact⟨_,Z z S,hl,M,⟨by have:=L.1;simp only[YtliopiiflebkdaaGreatDoor.Rows.uptoBulk];omega,L.2⟩,λN U=>hw N (λn hn=>U n (by simp only[DataW.weights,O];exact hn))⟩
  .cases q
theorem aOe{k:IntKind}{i:Int}(h:(Lit.int k i).wf=true):oJ [.int k i]:=by
 cases k<;>refine⟨?_,trivial⟩<;>first|trivial|(simp only[Lit.wf,dF,dA]at h;exact h)
theorem aAL{n:Nat}{t:TypeId}{k:IntKind}(B:P.underlying t=some (.int k))(u:P.cellsOf t=1):dS enc P W base spare held g n t (λl=>∃i:Int,(Lit.int k i).wf=true/\l=[.int k i]):=by
 intro m F cs y h;cases m with
 | zero=>cases h
 | succ m =>
  unfold DataW.trod at h;rw[B]at h;simp only at h;split at h<;>try (cases h;done)
  all_goals (rename_i heq;try (cases heq;done))
  all_goals (cases heq;split at h<;>try (cases h;done))
  rename_i z;obtain⟨rfl,q⟩:=z;cases h;exact⟨_,⟨_,q,rfl⟩,u.symm,Cl.one (.int _ _),⟨by simp[cW,A.bulk,YtliopiiflebkdaaGreatDoor.Rows.uptoBulk],aOe q⟩,λN _=>by simp[gW,A.wm]⟩
theorem aDk{n:Nat}{t:TypeId}(B:P.underlying t=some .string)(u:P.cellsOf t=1):dS enc P W base spare held g n t (λl=>∃x:List UInt8,x.length<=maxLen/\l=[.str x]):=by
 intro m F cs y h;cases m with
 | zero=>cases h
 | succ m =>
  unfold DataW.trod at h;rw[B]at h;simp only at h;split at h<;>try (cases h;done)
  all_goals (rename_i heq;try (cases heq;done))
  all_goals (split at h<;>try (cases h;done))
  rename_i z;cases h
  exact⟨_,⟨_,gQ z,rfl⟩,u.symm,Cl.one (aNX _),⟨by simp[cW,A.bulk,YtliopiiflebkdaaGreatDoor.Rows.uptoBulk],trivial,trivial⟩,λN q=>by
   simp only[DataW.weights,cD]at q;have:=q _ rfl;simpa [gW,A.wm]using this⟩
theorem aC2{α z:Type}{f:α->Option z}:∀{l:List α} {r:List z},l.mapM f=some r->r.length=l.length/\∀(j:Nat) (x:α),l[j]?=some x->∃y,r[j]?=some y/\f x=some y
 | [],r,h=>by
  rw[List.mapM_nil]at h;cases h;exact⟨rfl,λj x h=>by cases h⟩
 | a::l,r,h=>by
  rw[List.mapM_cons]at h;cases m:f a with
  | none=>rw[m]at h;cases h
  | some b =>
   rw[m]at h;cases q:l.mapM f with
   | none=>rw[q]at h;cases h
   | some bs =>
    rw[q]at h;cases h;obtain⟨hl,B⟩:=aC2 q;refine⟨by simp[hl],λj x u=>?_⟩;cases j with
    | zero=>cases u;exact⟨b,rfl,m⟩
    | succ j=>exact B j x u
theorem aLs{a:Addr}{n:Nat}{cs:List Value}(h:W.cells? base a n=some cs):cs.length=n/\∀(j:Nat) (v:Value),cs[j]?=some v->W.cell? (a.add j)=some v:=by
 unfold World.cells? at h;split at h
 .obtain⟨hl,z⟩:=aC2 h;rw[List.length_range]at hl;refine⟨hl,λj v q=>?_⟩;have B:j<n:=by rw[<-hl];exact(dH.1 q).1
  obtain⟨y,m,u⟩:=z j j (by rw[List.getElem?_range B]);rw[q]at m;cases m;exact u
 .cases h
theorem aGp{a:Addr}{v:Value}(h:W.cell? a=some v):∃c e fr,W.heap[a.block]?=some (.cells c e fr)/\a.spot=none/\c.toList[a.off]?=some v:=by
 unfold World.cell? at h;split at h
 .rename_i c e fr m;split at h
  .cases h
  .rename_i q;refine⟨c,e,fr,m,gQ q,gQ h⟩
 .cases h
theorem aF2{α:Type}{n:Nat}{t e:TypeId}{m:α->A}{R:α->Prop}(ht:P.underlying t=some (.slice e))(hc:P.cellsOf t=1)(hk:fU g W)(h:dS enc P W base spare held g n e (λl=>∃x,R x/\l=(m x).cells))
  (b3:∀x,(m x).cells.length=P.cellsOf e)(h1:∀x c,c∈(m x).cells->c.one=true)(b8:0<P.cellsOf e)(bg:0<P.bytesOf e):dS enc P W base spare held g (n+1) t (λl=>∃xs:List α,(∀x,x∈xs->R x)/\xs.length<=maxLen/\l=[.list none (xs.map m)]):=by
 intro G hf cs y q
 have one:∀{v:Value} {xs:List α},Rz g (.list none (xs.map m)) v->Cl g [.list none (xs.map m)] [v]:=λhr=>⟨rfl,λj c v hc hv=>by
  cases j with
  | zero=>cases hc;cases hv;exact hr
  | succ j=>cases hc⟩
 cases G with
 | zero=>cases q
 | succ G =>
  unfold DataW.trod at q;rw[ht]at q;simp only at q;split at q<;>try (cases q;done)
  all_goals (rename_i heq;try (cases heq;done))
  .cases q;exact⟨_,⟨[],λx h=>(by cases h),aX _,rfl⟩,hc.symm,Cl.one (.list0 none none 0 (aX _) (λt h=>by cases h)),⟨by simp[cW,A.bulk,cH,YtliopiiflebkdaaGreatDoor.Rows.uptoBulk],trivial,trivial⟩,λN _=>by simp[gW,A.wm]⟩
  .rename_i a len cap;cases heq;split at q<;>try (cases q;done)
   rename_i hh;obtain⟨hb,c4,b6⟩:=hh;cases hm:(List.range len).mapM (λi=>(W.cells? base (a.add (i * P.cellsOf e)) (P.cellsOf e)).bind (DataW.trod enc P W base spare held G e))with
   | none=>rw[hm]at q;cases q
   | some ys =>
    obtain⟨hl,hg⟩:=aC2 hm;rw[List.length_range]at hl;rw[hm]at q;obtain⟨rest,_,rfl⟩:=oU.1 (show Option.map _ _=some y from q)
    have bj:∀i,i<len->∃(x:α) (cs:List Value) (y:DataW H × List MemPlace),ys[i]?=some y/\(((m x).bulk+1<=YtliopiiflebkdaaGreatDoor.Rows.uptoBulk y.1/\(m x).ir)/\∀N,(∀n,n∈DataW.weights P e y.1->n<=N)->(m x).wm<=N)/\R x/\W.cells? base (a.add (i * P.cellsOf e)) (P.cellsOf e)=some cs/\Cl g (m x).cells cs:=by
     intro i B;obtain⟨y,bv,U⟩:=hg i i (by rw[List.getElem?_range B]);cases hcs:W.cells? base (a.add (i * P.cellsOf e)) (P.cellsOf e)with
     | none=>rw[hcs]at U;cases U
     | some cs =>
      rw[hcs]at U;obtain⟨_,⟨x,hx,rfl⟩,_,b2,hb,hw⟩:=h G aB cs y U;rw[aIK]at hb;rw[aJD]at hw;exact⟨x,cs,y,bv,⟨⟨hb.1,aLu hb.2⟩,hw⟩,hx,rfl,b2⟩
    have bt:∀k,k<=len->∃xs:List α,(xs.length=k/\(cH (xs.map m)<=YtliopiiflebkdaaGreatDoor.Rows.uptoBulkAll ((ys.take k).map (·.1))/\oJ (xs.map m))/\∀N,(∀n,n∈DataW.weightsAll P e ((ys.take k).map (·.1))->n<=N)->gW (xs.map m)<=N)/\∀(i:Nat) (x:α),xs[i]?=some x->R x/\∃cs,W.cells? base (a.add (i * P.cellsOf e)) (P.cellsOf e)=some cs/\Cl g (m x).cells cs:=by
     intro k
     induction k with
     | zero=>exactλ_=>⟨[],⟨rfl,⟨by simp[cH],trivial⟩,λN _=>by simp[gW]⟩,λi x h=>by cases h⟩
     | succ k ih =>
      intro c3;obtain⟨xs,⟨h3,⟨c1,bl⟩,bn⟩,h4⟩:=ih aB;obtain⟨x,cs,y2,bf,⟨⟨bz,bk⟩,bm⟩,h5,h6,h7⟩:=bj k aB
      have b1:cH ((xs++[x]).map m)<=YtliopiiflebkdaaGreatDoor.Rows.uptoBulkAll ((ys.take (k+1)).map (·.1)):=by
       rw[eO,bf,bY,bY,zX,aEW];simp only[bP,cP,cH,Option.toList,YtliopiiflebkdaaGreatDoor.Rows.uptoBulkAll];omega
      refine⟨xs++[x],⟨by simp[h3],⟨b1,by rw[bY];exact aGP bl ⟨bk,trivial⟩⟩,λN Z=>?_⟩,λi z hz=>?_⟩
      .rw[eO,bf,bY,aGC]at Z;simp only[dK,Option.toList,bP,cP,DataW.weightsAll,dR]at Z;rw[bY,aCw];refine Nat.max_le.2 ⟨bn N (λn hn=>Z n (.inl hn)),?_⟩;have:=bm N (λn hn=>Z n (.inr hn));simpa [gW]using this
      by_cases B:i<xs.length
      .rw[gP B]at hz;exact h4 i z hz
      .rw[nO aB]at hz
       have:i-xs.length=0:=by
        have:=(dH.1 hz).1;simp at this;omega
       rw[this]at hz;cases hz;have:i=k:=by omega
       subst this;exact⟨h5,cs,h6,h7⟩
    obtain⟨xs,⟨bb,⟨br,S⟩,bd⟩,hx⟩:=bt len (bH _)
    have b1:cW [.list none (xs.map m)]+1<=YtliopiiflebkdaaGreatDoor.Rows.uptoBulk (DataW.slice (ys.map (·.1)) (rest.map (·.1))):=by
     rw[iZ aB]at br;simp only[cW,A.bulk,YtliopiiflebkdaaGreatDoor.Rows.uptoBulk];omega
    have bp:∀N,(∀n,n∈DataW.weights P t (DataW.slice (ys.map (·.1)) (rest.map (·.1)))->n<=N)->gW [.list none (xs.map m)]<=N:=λN Z=>by
     simp only[DataW.weights,ht,dD,dK]at Z;rw[iZ aB]at bd;have h1:=bd N (λn hn=>Z n (.inr (.inl hn)));have U:=Z _ (.inl rfl)
     have h3:xs.length<=((ys.map (·.1)).length+(rest.map (·.1)).length) * P.bytesOf e:=by
      rw[aK,aK];exact kS aB (Nat.le_mul_of_pos_right _ bg)
     simp only[gW,A.wm,aK];exact Nat.max_le.2 ⟨Nat.max_le.2 ⟨kS h3 U,h1⟩,aX _⟩
    refine⟨_,⟨xs,λx hm=>?_,by omega,rfl⟩,hc.symm,Cl.one ?_,⟨b1,S,trivial⟩,bp⟩
    .obtain⟨i,B,rfl⟩:=gZ hm;exact(hx i _ (aV B)).1
    .by_cases h0:len=0
     .subst h0;have:xs=[]:=fD bb;subst this;exact .list0 none (some a) cap b6 (λt h=>by cases h)
     .have F:∀(i:Nat) (x:α) (j:Nat) (c:A),xs[i]?=some x->(m x).cells[j]?=some c->∃v,W.cell? ((a.add (i * P.cellsOf e)).add j)=some v/\Rz g c v:=by
       intro i x j c B hj;obtain⟨_,cs,h6,h7⟩:=hx i x B;obtain⟨_,h8⟩:=aLs h6;have b7:j<cs.length:=by rw[<-h7.1];exact(dH.1 hj).1
       exact⟨_,h8 j _ (aV b7),h7.2 j c _ hj (aV b7)⟩
      obtain⟨x0,bq⟩:∃x,xs[0]?=some x:=⟨_,aV aB⟩
      obtain⟨c0,bh⟩:∃c,(m x0).cells[0]?=some c:=⟨_,aV (by rw[b3];exact b8)⟩
      obtain⟨v0,b9,_⟩:=F 0 x0 0 c0 bq bh;have ea:(a.add (0 * P.cellsOf e)).add 0=a:=by simp[Addr.add]
      rw[ea]at b9;obtain⟨cc,ee,fr,u,O,_⟩:=aGp b9;obtain⟨b,off,bw⟩:=a;simp only at O u;subst O
      have b4:∀i j,((⟨b,off,none⟩:Addr).add (i * P.cellsOf e)).add j=⟨b,off+i * P.cellsOf e+j,none⟩:=by
       intro i j;unfold Addr.add;by_cases h1:i * P.cellsOf e=0<;>by_cases U:j=0<;>simp[h1,U]
      have pre:∀(i:Nat) (x:α) (j:Nat) (c:A),xs[i]?=some x->(m x).cells[j]?=some c->∃v,cc.toList[off+i * P.cellsOf e+j]?=some v/\Rz g c v:=by
       intro i x j c B hj;obtain⟨v,h8,h9⟩:=F i x j c B hj;rw[b4]at h8;obtain⟨c2,e2,f2,b0,_,b5⟩:=aGp h8;simp only at b0 b5;rw[u]at b0;cases b0;exact⟨v,b5,h9⟩
      have M:(xs.map m).length=len:=by rw[aK,bb]
      have L:=Rz.list (g:=g) none (xs.map m) b off (P.cellsOf e) cap cc.toList (hk b cc ee fr u) (by
       rw[M];obtain⟨xl,bc⟩:∃x,xs[len-1]?=some x:=⟨_,aV aB⟩
       obtain⟨cl,b2⟩:∃c,(m xl).cells[P.cellsOf e-1]?=some c:=⟨_,aV (by rw[b3];omega)⟩
       obtain⟨v,hv,_⟩:=pre (len-1) xl (P.cellsOf e-1) cl bc b2;have:=(dH.1 hv).1
       have e3:(len-1) * P.cellsOf e+P.cellsOf e=len * P.cellsOf e:=by
        rw[<-Nat.succ_mul];congr 1;omega
       omega) aB b6
       (fun y q => by
        obtain⟨x,_,rfl⟩:=cC.1 q;exact b3 x)
       (fun y q => by
        obtain⟨x,_,rfl⟩:=cC.1 q;exact h1 x)
       (fun i y j c v B hj hv => by
        rw[kE]at B;cases S:xs[i]? with
        | none=>rw[S]at B;cases B
        | some x =>
         rw[S]at B;cases B;obtain⟨w,hw,hr⟩:=pre i x j c S hj;rw[hv]at hw;cases hw;exact hr)
       (λt h=>by cases h)
      rw[M]at L;exact L
end
end
section
section
variable {H:Type} {enc:TypeId × Value->H} {P:Program} {W W':World} {base:Nat} {spare:Nat->Bool} {held:Bool}
def Old(W W':World):Prop:=∀k,k<W.heap.size->W'.heap[k]?=W.heap[k]?
theorem Old.get(h:Old W W'){b:Nat}{o:Obj}(m:W.heap[b]?=some o):W'.heap[b]?=some o:=by
 rw[h b (fR.1 m).1];exact m
theorem Old.cell(h:Old W W'){a:Addr}{v:Value}(m:W.cell? a=some v):W'.cell? a=some v:=by
 unfold World.cell? at m⊢;split at m
 .rename_i c e fr q;rw[h.get q];exact m
 .cases m
theorem sY{α B:Type}{f z:α->Option B}(h:∀x y,f x=some y->z x=some y):∀{l:List α} {r:List B},l.mapM f=some r->l.mapM z=some r
 | [],r,m=>m
 | a::l,r,m=>by
  rw[List.mapM_cons]at m⊢;cases q:f a with
  | none=>rw[q]at m;cases m
  | some b =>
   rw[q]at m;cases u:l.mapM f with
   | none=>rw[u]at m;cases m
   | some bs =>
    rw[u]at m;rw[h a b q,sY h u];exact m
theorem aAA{α z:Type}{x u:Option α}{k q:α->Option z}{y:z}(F:∀a,x=some a->u=some a)(B:∀a y,k a=some y->q a=some y)(h:x.bind k=some y):u.bind q=some y:=by
 cases m:x with
 | none=>rw[m]at h;cases h
 | some a=>rw[m]at h;rw[F a m];exact B a y h
theorem vD{α u:Type}{x q:Option α}{k:α->u}{y:u}(z:∀a,x=some a->q=some a)(h:x.map k=some y):q.map k=some y:=by
 cases m:x with
 | none=>rw[m]at h;cases h
 | some a=>rw[m]at h;rw[z a m];exact h
theorem Old.cells(h:Old W W'){a:Addr}{n:Nat}{cs:List Value}(m:W.cells? base a n=some cs):W'.cells? base a n=some cs:=by
 unfold World.cells? at m⊢;split at m
 .rename_i q;rw[aE q];exact sY (λx y=>h.cell) m
 .cases m
theorem aF6(h:Old W W'):∀(q:Nat) (t:TypeId) (cs:List Value) (x:DataW H × List MemPlace),DataW.trod enc P W base spare held q t cs=some x->DataW.trod enc P W' base spare held q t cs=some x
 | 0,t,cs,x,m=>by cases m
 | q+1,t,cs,x,m=>by
  have B:=aF6 h q
  have G:∀(e:TypeId) (a:Addr) (n:Nat) (y:DataW H × List MemPlace),(W.cells? base a n).bind (DataW.trod enc P W base spare held q e)=some y->(W'.cells? base a n).bind (DataW.trod enc P W' base spare held q e)=some y :=
   λe a n y=>aAA (λcs=>h.cells) (λcs y=>B e cs y)
  unfold DataW.trod at m⊢;split at m<;>(try simp only at m⊢)<;>(try exact m)
  case h_6=>exact vD (λy=>G _ _ _ y) m
  case h_8 =>
   split at m
   .rename_i u;rw[aE u];refine aAA (λy=>sY (λi y=>G _ _ _ y)) (λL y=>vD (λr M=>?_)) m;split at M
    .rename_i O;rw[aE O];exact sY (λi y=>G _ _ _ y) M
    .rename_i O;rw[aD O];exact M
   .cases m
  case h_9 =>
   split at m
   .rename_i u;rw[aE u];exact vD (λy=>sY (λf y=>B _ _ y)) m
   .cases m
  case h_10 =>
   split at m
   .rename_i u;rw[aE u];exact vD (λy=>sY (λf y=>B _ _ y)) m
   .cases m
  case h_12 =>
   split at m<;>(try simp only at m⊢)<;>(try exact m)
   exact vD (λy=>B _ _ y) m
  case h_14 =>
   split at m
   .rename_i es F S;rw[h.get S];simp only;split at m
    .rename_i u;rw[aE u];refine aAA (λy=>sY (λf y=>aAA (λk Z=>Z) (λk z hz=>?_))) (λa y hy=>hy) m;split at hz
     .rename_i U;simp only[U,cM];exact vD (λy=>B _ _ y) hz
     .cases hz
    .cases m
   .cases m
theorem aEl(h:Old W W'):∀{z:List TypeId} {vs:List Value} {y:List (DataW H)} {u:List MemPlace},DataW.TrodAll enc P W base spare held z vs y u->DataW.TrodAll enc P W' base spare held z vs y u
 | [],[],[],u,G=>G
 | t::z,v::vs,d::y,u,⟨p,q,⟨m,F⟩,B,e⟩=>⟨p,q,⟨m,aF6 h _ _ _ _ F⟩,aEl h B,e⟩
end
end
section
section
variable {H:Type} {enc:TypeId × Value->H} {W:World} {base:Nat} {spare:Nat->Bool} {held:Bool} {g:Gh}
theorem aAv{P:Program}{t:TypeId}{Q:List A->Prop}:dS enc P W base spare held g 0 t Q:=λh q cs y m=>by
 obtain rfl:h=0:=by omega
 cases m
theorem kH{P:Program}{n:Nat}{t:TypeId}{Q R:List A->Prop}(h:dS enc P W base spare held g n t Q)(B:∀l,Q l->R l):dS enc P W base spare held g n t R:=λm z cs y F=>by
 obtain⟨l,q,u⟩:=h m z cs y F;exact⟨l,B l q,u⟩
theorem aM3(x:Tm):x.enc.cells.length=6:=by rw[cG];rfl
theorem aOc(x:Tm):∀c,c∈x.enc.cells->c.one=true:=by
 rw[cG];intro c h;simp only[A.cells,Tm.cs,dD,List.mem_nil_iff,eT]at h;rcases h with rfl|rfl|rfl|rfl|rfl|rfl<;>rfl
theorem aDp(u:fU g W):∀n,dS enc prog W base spare held g n 39 (λl=>∃x:Tm,True/\l=x.enc.cells) /\
  dS enc prog W base spare held g n 37 (λl=>∃xs:List Tm,(∀x,x∈xs->True)/\xs.length<=maxLen/\l=[.list none (xs.map Tm.enc)])
 | 0=>⟨aAv,aAv⟩
 | n+1=>by
  obtain⟨z,q⟩:=aDp u n;refine⟨?_,aF2 underlying37 (by kernel_rfl) u z (λx=>(aM3 x).trans (by kernel_rfl)) aOc (by rw[show prog.cellsOf 39=6 by kernel_rfl];omega) (gO (by kernel_rfl))⟩;refine aE9 underlying39 (by kernel_rfl) (by kernel_rfl) (.cons (aAL underlying36 (by kernel_rfl)) (.cons (aAL underlying3 (by kernel_rfl)) (.cons (aDk underlying9 (by kernel_rfl)) (.cons (aDk underlying9 (by kernel_rfl)) (.cons q (.cons q .nil)))))) ?_
  .intro S h;cases h with|cons B h =>
   cases h with|cons F h =>
   cases h with|cons G h =>
   cases h with|cons L h =>
   cases h with|cons M h =>
   cases h with|cons O h =>
   cases h;obtain⟨k,_,rfl⟩:=B;obtain⟨m,_,rfl⟩:=F;obtain⟨x,_,rfl⟩:=G;obtain⟨y,_,rfl⟩:=L;obtain⟨a,_,_,rfl⟩:=M;obtain⟨b,_,_,rfl⟩:=O;exact⟨.mk k m x y a b,trivial,by rw[cG];rfl⟩
end
end
section
section
variable {H:Type} {enc:TypeId × Value->H} {W:World} {base:Nat} {spare:Nat->Bool} {held:Bool} {g:Gh}
theorem oY{P:Program}{α:Type}{t e:TypeId}{q:α->A}(G:P.underlying t=some (.slice e))(B:P.cellsOf t=1)(F:fU g W)(h:∀n,dS enc P W base spare held g n e (λl=>∃x,l=(q x).cells))
  (y:∀x,(q x).cells.length=P.cellsOf e)(z:∀x c,c∈(q x).cells->c.one=true)(m:0<P.cellsOf e)(u:0<P.bytesOf e):∀n,dS enc P W base spare held g n t (λl=>∃xs:List α,l=[.list none (xs.map q)])
 | 0=>aAv
 | n+1=>kH (aF2 (R:=λ_=>True) G B F (kH (h n) (λl ⟨x,e⟩=>⟨x,trivial,e⟩)) y z m u) (λl ⟨xs,_,_,e⟩=>⟨xs,e⟩)
theorem oX{P:Program}{t:TypeId}{m:Array Field}{y:List (List A->Prop)}{Q:List A->Prop}(F:P.underlying t=some (.struct m))(q:xY P 0 m.toList=true)(u:P.cellsOf t=vR P m.toList)
  (h:∀n,OpQs enc P W base spare held g n m.toList y)(B:∀z,Each y z->Q z.flatten):∀n,dS enc P W base spare held g n t Q
 | 0=>aAv
 | n+1=>aE9 F q u (h n) B
theorem pF(n:Nat):dS enc prog W base spare held g n 3 (λl=>∃i:Int,l=[.int .i64 i]):=kH (aAL underlying3 (by kernel_rfl)) (λl ⟨i,_,e⟩=>⟨i,e⟩)
theorem aMw(n:Nat):dS enc prog W base spare held g n 61 (λl=>∃i:Int,l=[.int .i64 i]):=kH (aAL underlying61 (by kernel_rfl)) (λl ⟨i,_,e⟩=>⟨i,e⟩)
theorem jT(n:Nat):dS enc prog W base spare held g n 9 (λl=>∃x:List UInt8,l=[.str x]):=kH (aDk underlying9 (by kernel_rfl)) (λl ⟨i,_,e⟩=>⟨i,e⟩)
theorem aA6(h:fU g W)(n:Nat):dS enc prog W base spare held g n 39 (λl=>∃x:Tm,l=x.cs):=kH (aDp h n).1 (λl ⟨x,_,e⟩=>⟨x,by rw[e,cG];rfl⟩)
theorem aAZ(h:fU g W)(n:Nat):dS enc prog W base spare held g n 37 (λl=>∃xs:List Tm,l=[.list none (xs.map Tm.enc)]):=kH (aDp h n).2 (λl ⟨x,_,_,e⟩=>⟨x,e⟩)
theorem aAJ(m:fU g W):∀n,dS enc prog W base spare held g n 22 (λl=>∃xs:List (List UInt8),l=[.list none (xs.map .str)]) :=
 oY underlying22 (by kernel_rfl) m jT (λx=>(by kernel_rfl:1=prog.cellsOf 9)) (λx c h=>by simp only[A.cells,cD]at h;subst h;rfl) (by rw[show prog.cellsOf 9=1 by kernel_rfl];omega) (gO (by kernel_rfl))
theorem aNe(m:fU g W):∀n,dS enc prog W base spare held g n 62 (λl=>∃xs:List Int,l=[.list none (xs.map (.int .i64))]) :=
 oY underlying62 (by kernel_rfl) m pF (λx=>(by kernel_rfl:1=prog.cellsOf 3)) (λx c h=>by simp only[A.cells,cD]at h;subst h;rfl) (by rw[show prog.cellsOf 3=1 by kernel_rfl];omega) (gO (by kernel_rfl))
theorem aMD(n:Nat):dS enc prog W base spare held g n 102 (λl=>∃x:Below,l=x.cs) :=
 oX underlying102 (by kernel_rfl) (by kernel_rfl) (λn=>.cons (jT n) (.cons (jT n) .nil)) (λu h=>by
  cases h with|cons m h =>
  cases h with|cons q h =>
  cases h;obtain⟨a,rfl⟩:=m;obtain⟨b,rfl⟩:=q;exact⟨⟨a,b⟩,rfl⟩) n
theorem aMf(n:Nat):dS enc prog W base spare held g n 195 (λl=>∃x:Piece,l=x.cs) :=
 oX underlying195 (by kernel_rfl) (by kernel_rfl) (λn=>.cons (jT n) (.cons (jT n) .nil)) (λu h=>by
  cases h with|cons m h =>
  cases h with|cons q h =>
  cases h;obtain⟨a,rfl⟩:=m;obtain⟨b,rfl⟩:=q;exact⟨⟨a,b⟩,rfl⟩) n
end
end
section
section
variable {H:Type} {enc:TypeId × Value->H} {W:World} {base:Nat} {spare:Nat->Bool} {held:Bool} {g:Gh}
theorem aDh(x:Tm):∀c,c∈x.cs->c.one=true:=by
 intro c h;simp only[Tm.cs,dD,List.mem_nil_iff,eT]at h;rcases h with rfl|rfl|rfl|rfl|rfl|rfl<;>rfl
theorem aLa(x:Below):∀c,c∈x.enc.cells->c.one=true:=by
  intro c h;simp only[Below.enc,A.cells,Below.cs,dD,List.mem_nil_iff,eT]at h
  repeat' (first|(subst h;rfl)|(rcases h with h|h))
theorem aKZ(h:fU g W):∀n,dS enc prog W base spare held g n 23 (λl=>∃xs:List Below,l=[.list none (xs.map Below.enc)]) :=
 oY underlying23 (by kernel_rfl) h (λn=>kH (aMD n) (λl ⟨x,e⟩=>⟨x,e⟩)) (λx=>(show x.enc.cells.length=2 from rfl).trans (by kernel_rfl)) aLa (by rw[show prog.cellsOf 102=2 by kernel_rfl];omega) (gO (by kernel_rfl))
theorem aLo(x:Piece):∀c,c∈x.enc.cells->c.one=true:=by
  intro c h;simp only[Piece.enc,A.cells,Piece.cs,dD,List.mem_nil_iff,eT]at h
  repeat' (first|(subst h;rfl)|(rcases h with h|h))
theorem aLZ(h:fU g W):∀n,dS enc prog W base spare held g n 60 (λl=>∃xs:List Piece,l=[.list none (xs.map Piece.enc)]) :=
 oY underlying60 (by kernel_rfl) h (λn=>kH (aMf n) (λl ⟨x,e⟩=>⟨x,e⟩)) (λx=>(show x.enc.cells.length=2 from rfl).trans (by kernel_rfl)) aLo (by rw[show prog.cellsOf 195=2 by kernel_rfl];omega) (gO (by kernel_rfl))
theorem aN1(m:fU g W)(n:Nat):dS enc prog W base spare held g n 64 (λl=>∃x:Opr,l=x.cs) :=
 oX underlying64 (by kernel_rfl) (by kernel_rfl) (λn=>.cons (jT n) (.cons (aAJ m n) (.cons (jT n) (.cons (aLZ m n) (.cons (pF n) (.cons (aMw n) (.cons (aNe m n) .nil))))))) (λO h=>by
  cases h with|cons y h =>
  cases h with|cons z h =>
  cases h with|cons B h =>
  cases h with|cons F h =>
  cases h with|cons G h =>
  cases h with|cons L h =>
  cases h with|cons M h =>
  cases h;obtain⟨a0,rfl⟩:=y;obtain⟨q,rfl⟩:=z;obtain⟨a2,rfl⟩:=B;obtain⟨a3,rfl⟩:=F;obtain⟨a4,rfl⟩:=G;obtain⟨a5,rfl⟩:=L;obtain⟨u,rfl⟩:=M;exact⟨⟨a0,q,a2,a3,a4,a5,u⟩,by simp only[Opr.cs,List.flatten_cons,List.flatten_nil,dR,bT,bO]⟩) n
theorem aNc(x:Opr):∀c,c∈x.enc.cells->c.one=true:=by
  intro c h;simp only[Opr.enc,A.cells,Opr.cs,dD,List.mem_nil_iff,eT]at h
  repeat' (first|(subst h;rfl)|(rcases h with h|h))
theorem aGZ(h:fU g W):∀n,dS enc prog W base spare held g n 24 (λl=>∃xs:List Opr,l=[.list none (xs.map Opr.enc)]) :=
 oY underlying24 (by kernel_rfl) h (λn=>kH (aN1 h n) (λl ⟨x,e⟩=>⟨x,e⟩)) (λx=>(show x.enc.cells.length=7 from rfl).trans (by kernel_rfl)) aNc (by rw[show prog.cellsOf 64=7 by kernel_rfl];omega) (gO (by kernel_rfl))
theorem aOn(m:fU g W)(n:Nat):dS enc prog W base spare held g n 26 (λl=>∃x:Sig,l=x.cs) :=
 oX underlying26 (by kernel_rfl) (by kernel_rfl) (λn=>.cons (aAJ m n) (.cons (aKZ m n) (.cons (aGZ m n) (.cons (aGZ m n) (.cons (aAJ m n) .nil))))) (λG h=>by
  cases h with|cons u h =>
  cases h with|cons y h =>
  cases h with|cons z h =>
  cases h with|cons B h =>
  cases h with|cons F h =>
  cases h;obtain⟨a0,rfl⟩:=u;obtain⟨q,rfl⟩:=y;obtain⟨a2,rfl⟩:=z;obtain⟨a3,rfl⟩:=B;obtain⟨a4,rfl⟩:=F;exact⟨⟨a0,q,a2,a3,a4⟩,by simp only[Sig.cs,List.flatten_cons,List.flatten_nil,dR,bT,bO]⟩) n
theorem aNS(m:fU g W)(n:Nat):dS enc prog W base spare held g n 41 (λl=>∃x:Eqn,l=x.cs) :=
 oX underlying41 (by kernel_rfl) (by kernel_rfl) (λn=>.cons (aA6 m n) (.cons (aA6 m n) (.cons (aAZ m n) (.cons (pF n) (.cons (pF n) .nil))))) (λG h=>by
  cases h with|cons u h =>
  cases h with|cons y h =>
  cases h with|cons z h =>
  cases h with|cons B h =>
  cases h with|cons F h =>
  cases h;obtain⟨a0,rfl⟩:=u;obtain⟨q,rfl⟩:=y;obtain⟨a2,rfl⟩:=z;obtain⟨a3,rfl⟩:=B;obtain⟨a4,rfl⟩:=F;exact⟨⟨a0,q,a2,a3,a4⟩,by simp only[Eqn.cs,List.flatten_cons,List.flatten_nil,dR,bT,bO]⟩) n
theorem aNh(x:Eqn):∀c,c∈x.enc.cells->c.one=true:=by
  intro c h;simp only[Eqn.enc,A.cells,Eqn.cs,dK,dD,List.mem_nil_iff,eT]at h
  repeat' (first|(subst h;rfl)|exact aDh _ c h|(rcases h with h|h))
theorem aM4(h:fU g W):∀n,dS enc prog W base spare held g n 27 (λl=>∃xs:List Eqn,l=[.list none (xs.map Eqn.enc)]) :=
 oY underlying27 (by kernel_rfl) h (λn=>kH (aNS h n) (λl ⟨x,e⟩=>⟨x,e⟩)) (λx=>(show x.enc.cells.length=15 from rfl).trans (by kernel_rfl)) aNh (by rw[show prog.cellsOf 41=15 by kernel_rfl];omega) (gO (by kernel_rfl))
theorem aN2(q:fU g W)(n:Nat):dS enc prog W base spare held g n 67 (λl=>∃x:Cel,l=x.cs) :=
 oX underlying67 (by kernel_rfl) (by kernel_rfl) (λn=>.cons (jT n) (.cons (jT n) (.cons (aA6 q n) (.cons (pF n) (.cons (pF n) .nil))))) (λG h=>by
  cases h with|cons u h =>
  cases h with|cons y h =>
  cases h with|cons z h =>
  cases h with|cons B h =>
  cases h with|cons F h =>
  cases h;obtain⟨a0,rfl⟩:=u;obtain⟨m,rfl⟩:=y;obtain⟨a2,rfl⟩:=z;obtain⟨a3,rfl⟩:=B;obtain⟨a4,rfl⟩:=F;exact⟨⟨a0,m,a2,a3,a4⟩,by simp only[Cel.cs,List.flatten_cons,List.flatten_nil,dR,bT,bO]⟩) n
theorem aNl(x:Cel):∀c,c∈x.enc.cells->c.one=true:=by
  intro c h;simp only[Cel.enc,A.cells,Cel.cs,dK,dD,List.mem_nil_iff,eT]at h
  repeat' (first|(subst h;rfl)|exact aDh _ c h|(rcases h with h|h))
theorem aGI(h:fU g W):∀n,dS enc prog W base spare held g n 28 (λl=>∃xs:List Cel,l=[.list none (xs.map Cel.enc)]) :=
 oY underlying28 (by kernel_rfl) h (λn=>kH (aN2 h n) (λl ⟨x,e⟩=>⟨x,e⟩)) (λx=>(show x.enc.cells.length=10 from rfl).trans (by kernel_rfl)) aNl (by rw[show prog.cellsOf 67=10 by kernel_rfl];omega) (gO (by kernel_rfl))
theorem aNF(m:fU g W)(n:Nat):dS enc prog W base spare held g n 69 (λl=>∃x:Part,l=x.cs) :=
 oX underlying69 (by kernel_rfl) (by kernel_rfl) (λn=>.cons (jT n) (.cons (jT n) (.cons (aA6 m n) (.cons (aAZ m n) (.cons (pF n) (.cons (pF n) .nil)))))) (λL h=>by
  cases h with|cons u h =>
  cases h with|cons y h =>
  cases h with|cons z h =>
  cases h with|cons B h =>
  cases h with|cons F h =>
  cases h with|cons G h =>
  cases h;obtain⟨a0,rfl⟩:=u;obtain⟨q,rfl⟩:=y;obtain⟨a2,rfl⟩:=z;obtain⟨a3,rfl⟩:=B;obtain⟨a4,rfl⟩:=F;obtain⟨a5,rfl⟩:=G;exact⟨⟨a0,q,a2,a3,a4,a5⟩,by simp only[Part.cs,List.flatten_cons,List.flatten_nil,dR,bT,bO]⟩) n
theorem aMK(x:Part):∀c,c∈x.enc.cells->c.one=true:=by
  intro c h;simp only[Part.enc,A.cells,Part.cs,dK,dD,List.mem_nil_iff,eT]at h
  repeat' (first|(subst h;rfl)|exact aDh _ c h|(rcases h with h|h))
theorem aMJ(h:fU g W):∀n,dS enc prog W base spare held g n 43 (λl=>∃xs:List Part,l=[.list none (xs.map Part.enc)]) :=
 oY underlying43 (by kernel_rfl) h (λn=>kH (aNF h n) (λl ⟨x,e⟩=>⟨x,e⟩)) (λx=>(show x.enc.cells.length=11 from rfl).trans (by kernel_rfl)) aMK (by rw[show prog.cellsOf 69=11 by kernel_rfl];omega) (gO (by kernel_rfl))
theorem aL5(m:fU g W)(n:Nat):dS enc prog W base spare held g n 71 (λl=>∃x:Fresh,l=x.cs) :=
 oX underlying71 (by kernel_rfl) (by kernel_rfl) (λn=>.cons (aAZ m n) .nil) (λu h=>by
  cases h with|cons q h =>
  cases h;obtain⟨a0,rfl⟩:=q;exact⟨⟨a0⟩,by simp only[Fresh.cs,List.flatten_cons,List.flatten_nil,dR,bT,bO]⟩) n
theorem aLf(x:Fresh):∀c,c∈x.enc.cells->c.one=true:=by
  intro c h;simp only[Fresh.enc,A.cells,Fresh.cs,dD,List.mem_nil_iff,eT]at h
  repeat' (first|(subst h;rfl)|(rcases h with h|h))
theorem aLP(h:fU g W):∀n,dS enc prog W base spare held g n 44 (λl=>∃xs:List Fresh,l=[.list none (xs.map Fresh.enc)]) :=
 oY underlying44 (by kernel_rfl) h (λn=>kH (aL5 h n) (λl ⟨x,e⟩=>⟨x,e⟩)) (λx=>(show x.enc.cells.length=1 from rfl).trans (by kernel_rfl)) aLf (by rw[show prog.cellsOf 71=1 by kernel_rfl];omega) (gO (by kernel_rfl))
theorem aNZ(m:fU g W)(n:Nat):dS enc prog W base spare held g n 46 (λl=>∃x:Rul,l=x.cs) :=
 oX underlying46 (by kernel_rfl) (by kernel_rfl) (λn=>.cons (jT n) (.cons (aMJ m n) (.cons (aAZ m n) (.cons (aLP m n) (.cons (aAJ m n) (.cons (pF n) (.cons (pF n) .nil))))))) (λO h=>by
  cases h with|cons y h =>
  cases h with|cons z h =>
  cases h with|cons B h =>
  cases h with|cons F h =>
  cases h with|cons G h =>
  cases h with|cons L h =>
  cases h with|cons M h =>
  cases h;obtain⟨a0,rfl⟩:=y;obtain⟨q,rfl⟩:=z;obtain⟨a2,rfl⟩:=B;obtain⟨a3,rfl⟩:=F;obtain⟨a4,rfl⟩:=G;obtain⟨a5,rfl⟩:=L;obtain⟨u,rfl⟩:=M;exact⟨⟨a0,q,a2,a3,a4,a5,u⟩,by simp only[Rul.cs,List.flatten_cons,List.flatten_nil,dR,bT,bO]⟩) n
theorem aM0(x:Rul):∀c,c∈x.enc.cells->c.one=true:=by
  intro c h;simp only[Rul.enc,A.cells,Rul.cs,dD,List.mem_nil_iff,eT]at h
  repeat' (first|(subst h;rfl)|(rcases h with h|h))
theorem aNL(h:fU g W):∀n,dS enc prog W base spare held g n 29 (λl=>∃xs:List Rul,l=[.list none (xs.map Rul.enc)]) :=
 oY underlying29 (by kernel_rfl) h (λn=>kH (aNZ h n) (λl ⟨x,e⟩=>⟨x,e⟩)) (λx=>(show x.enc.cells.length=7 from rfl).trans (by kernel_rfl)) aM0 (by rw[show prog.cellsOf 46=7 by kernel_rfl];omega) (gO (by kernel_rfl))
theorem aOd(m:fU g W)(n:Nat):dS enc prog W base spare held g n 31 (λl=>∃x:Dfn,l=x.cs) :=
 oX underlying31 (by kernel_rfl) (by kernel_rfl) (λn=>.cons (jT n) (.cons (aOn m n) (.cons (aM4 m n) (.cons (aGI m n) (.cons (jT n) (.cons (aGI m n) (.cons (aNL m n) (.cons (jT n) (.cons (jT n) .nil))))))))) (λls h=>by
  cases h with|cons B h =>
  cases h with|cons F h =>
  cases h with|cons G h =>
  cases h with|cons L h =>
  cases h with|cons M h =>
  cases h with|cons O h =>
  cases h with|cons S h =>
  cases h with|cons U h =>
  cases h with|cons Z h =>
  cases h;obtain⟨a0,rfl⟩:=B;obtain⟨q,rfl⟩:=F;obtain⟨a2,rfl⟩:=G;obtain⟨a3,rfl⟩:=L;obtain⟨a4,rfl⟩:=M;obtain⟨a5,rfl⟩:=O;obtain⟨u,rfl⟩:=S;obtain⟨y,rfl⟩:=U;obtain⟨z,rfl⟩:=Z;exact⟨⟨a0,q,a2,a3,a4,a5,u,y,z⟩,by simp only[Dfn.cs,List.flatten_cons,List.flatten_nil,dR,bT,bO]⟩) n
theorem aLM{v:Value}{d:DataW H}{G:List MemPlace}{r:Reach}{z:Nat}(F:fU g W)(u:Value.okWide prog W r z 31 v)(h:DataW.Trod enc prog W base spare held 31 v d G):∃x:Dfn,Rz g x.enc v/\cW x.cs+1<=YtliopiiflebkdaaGreatDoor.Rows.uptoBulk d/\x.enc.ir:=by
 obtain⟨cs,rfl,_⟩:=WideShapes.okWide_struct underlying31 u;obtain⟨m,B⟩:=h;obtain⟨l,⟨x,rfl⟩,hl,q,y,_⟩:=aOd F m m (bH _) _ _ B;refine⟨x,?_,y.1,y.2⟩;have:=Rz.agg (g:=g) x.cs cs.toList q.1.symm ?_ q.2
 .unfold Dfn.enc;simpa using this
 .intro c q;simp only[Dfn.cs,Sig.cs,dK,dD,List.mem_nil_iff,eT]at q
  repeat' (first|(subst q;rfl)|(rcases q with q|q))
end
end
theorem xK{α:Type}{f:α->Nat}{m:α->A}(k:Nat)(h:∀x,f x<=k * ((m x).bulk+1)):∀l:List α,(l.map f).sum<=k * cH (l.map m)
 | []=>by simp
 | x::l=>by
  have q:=h x;have u:=xK k h l;simp only[bP,List.sum_cons,cH,Nat.mul_add]at q u⊢;omega
theorem aNO(x:Eqn):pU x<=2 * (x.enc.bulk+1):=by
 have:=iN Tm.enc x.cond;simp only[pU,Eqn.enc,Eqn.cs,A.bulk,cW,qD];omega
theorem aMk(x:Part):tM x<=1 * (x.enc.bulk+1):=by
 have:=iN Tm.enc x.right;simp only[tM,Part.enc,Part.cs,A.bulk,cW,qD];omega
theorem aLA(x:Fresh):x.cells.length<=1 * (x.enc.bulk+1):=by
 have:=iN Tm.enc x.cells;simp only[Fresh.enc,Fresh.cs,A.bulk,cW];omega
theorem aNr(x:Rul):tY x<=1 * (x.enc.bulk+1):=by
 have h:=xK 1 aMk x.parts;have m:=iN Tm.enc x.cond;have q:=xK 1 aLA x.new;simp only[tY,Rul.enc,Rul.cs,A.bulk,cW]at h m q⊢;omega
theorem aM5(x:Dfn):wJ x<=2 * cW x.cs/\x.sig.ops.length+x.sig.funs.length<=cW x.cs:=by
 have h:=xK 2 aNO x.eqs;have m:=xK 1 aNr x.rules;have q:=iN Cel.enc x.once;have u:=iN Cel.enc x.many;have y:=iN Opr.enc x.sig.ops;have z:=iN Opr.enc x.sig.funs;simp only[wJ,Dfn.cs,Sig.cs,A.bulk,cW,qD];omega
end Go.AV
section
open Go.Proofs.Tryz
namespace Go.Proofs.YtliopiiflebkdaaGreatDoor
open Go Go.AV Go.Proofs.Tryz Go.ChangeShapes Go.WideShapes Go.ChangeAt Go.RowKit
theorem own:ownKnob prog.godebug=none:=by kernel_rfl
def allP(W:World):Nat->Option (List Value):=λb=>match W.heap[b]? with
 | some (.cells cs _ _)=>some cs.toList
 | _=>none
theorem knows_all {W : World} {l : List (String × DataW Unit)} (m : laidMet prog l W) (y : ("strings.asciiSpace",Rows.laid_strings_asciiSpace) ∈ l)
  (z : ("internal/strconv.uint64pow10",Rows.laid_internal_strconv_uint64pow10) ∈ l) : fU (sL (wM (allP W)) W) W := by
 obtain⟨t0,B,q⟩:=aAd aCz (aHa m y);obtain⟨t3,F,u⟩:=aAd aCj (aG7 m z);intro b cs e fr h;show wM (allP W) b=some cs.toList;unfold wM;split
 .rw[q]at h;cases h;rfl
 .rw[u]at h;cases h;rfl
 .unfold allP;rw[h]
theorem less_contract(H:Type)(enc:TypeId × Value->H)(W:World)(base:Nat)(args:Array Value)(U gs:List (DataW H))(y:List MemPlace)
  (u:∀(j:Nat) t v,Tryz.f3.params[j]?=some t->args[j]?=some v->Value.okWide prog W .any base t v)
  (hW:DataW.Whole enc prog Tryz.f3.params.toList Rows.checkLessSpec.vars false W args.toList U gs y)(b2:Rows.uptoSmall H (U++gs)=true)(hL:laidMetH prog Rows.checkLessUptoRow.laid W) :
  Calls prog 3 args W λe W'=>∃v,e=.returned v/\Rows.checkLessSpec.post enc prog Tryz.f3 false true false false W args v W':=by
 have F := hW;have L := hW.lt;obtain ⟨p,q,z,hV,rfl,b6,b7⟩ := hW;have hA : DataW.TrodAll enc prog W 0 (fun _ => true) true Tryz.f3.params.toList args.toList U p := z;have b0 := hA;rw [params3] at hA u;obtain ⟨v0,v1,S,d1,p0,p1,rfl,rfl,rfl,h0,h1⟩ := trodAll_two hA;obtain ⟨rfl,rfl⟩ := trodVars_none hV;obtain ⟨m,rfl,rfl,rfl,b8⟩ := open_int underlying3 (u 1 3 v1 rfl rfl) h1;clear z;simp only [dR] at F L;have m1 : ("strings.asciiSpace",Rows.laid_strings_asciiSpace) ∈ Rows.checkLessUptoRow.laid := (.tail _ (.tail _ (.tail _ (.tail _ (.tail _ (.tail _ (.tail _ (.head _))))))));have m2 : ("internal/strconv.uint64pow10",Rows.laid_internal_strconv_uint64pow10) ∈ Rows.checkLessUptoRow.laid := (.tail _ (.tail _ (.head _)));have hK := knows_all hL m1 m2;obtain ⟨a,ha,b5,hI⟩ := aLM hK (u 0 31 v0 rfl rfl) h0;have O : Rows.uptoBulkAll [S,.lit (.int .i64 m)] ≤ 1048576 := gI b2;simp only [Rows.uptoBulkAll,Rows.uptoBulk] at O;obtain ⟨b3,b4⟩ := aM5 a
 have hc:=aKp (f:=3) (args:=[a.enc,.int .i64 m]) (vals:=[v0,.int .i64 m]) (W:=W) (p:=allP W) (l:=Rows.checkLessUptoRow.laid) func3 rfl rfl hL m1 m2
  (fun b pre h => by
   unfold allP at h;split at h
   .rename_i cs t fr hh;cases h;exact⟨[],t,fr,by rw[hh,dR]⟩
   .cases h)
  (.cons ha (.cons (.int .i64 m) (.nil _))) (aK1 a m aB aB aB rfl)
 refine hc.mono λe W' ⟨he,b1,M,G⟩=>?_
 subst he;have Z:Rows.checkLessSpec.fn H ([S,DataW.lit (.int .i64 m)]++[])={ results:=[.lit (.bool true)],args:=[S,.lit (.int .i64 m)] }:=rfl;have B:=aEl G b0;simp only[dR]at B;refine⟨_,rfl,_,_,_,[],p0,[],F,?_,?_,?_,aNg b1 M G,λh=>by cases h⟩
 .rw[Z];exact trodAll_mk1 (shut_bool underlying4 true)
 .rw[Z]
  exact DataW.TrodAll.respare (kids_rows less_k1 less_k2) (slices_full_of prog (by kernel_rfl)) (λt ht=>by
   rw[params3]at ht;obtain rfl|rfl:t=31\/t=3:=gQ ht
   .exact gI (by kernel_rfl)
   .exact gI (by kernel_rfl)) B (λp hp=>cY (L p hp))
 .rw[Z];rfl
def zeroV:Value:=.agg #[.string ⟨#[]⟩,.slice none 0 0,.slice none 0 0,.slice none 0 0,.slice none 0 0,.slice none 0 0,.slice none 0 0,.slice none 0 0,.string ⟨#[]⟩,.slice none 0 0,.slice none 0 0,.string ⟨#[]⟩,.string ⟨#[]⟩]
def zeroR{H:Type}:DataW H:=.agg [.lit (.string []),.agg [.nil,.nil,.nil,.nil,.nil],.nil,.nil,.lit (.string []),.nil,.nil,.lit (.string []),.lit (.string [])]
theorem less_reads(m:Os){H:Type}(enc:TypeId × Value->H) :
  ∃h,DataW.whole enc prog ((rE m).forCall (λ_ _=>0) ⟨#[],#[zeroV,.int .i64 0],[]⟩).memory Tryz.f3.params.toList (Rows.OpenSpec.upto Rows.checkLessSpec).vars false #[zeroV,.int .i64 0].toList 8 =
   some ([zeroR,.lit (.int .i64 0)],[],h) :=
 ⟨[],by kernel_rfl⟩
theorem less_lifted(u:Os)(h:u.Started)(H:Type)(enc:TypeId × Value->H)(F:Stop.Interp) :
  ReturnsInHanded {} checked u 3 .any ((Rows.OpenSpec.upto Rows.checkLessSpec).preRow enc prog Tryz.f3 Rows.checkLessUptoRow.domain false Rows.checkLessUptoRow.laid) (((Rows.OpenSpec.upto Rows.checkLessSpec).at F).post enc prog Tryz.f3 false true false false):=by
 obtain⟨y,M⟩:=less_reads u enc
 refine returnsInHanded_of_row (C:=checked) (s:=Rows.OpenSpec.upto Rows.checkLessSpec) own h (by kernel_rfl) func3
  (witness_row_atRef (enc := enc) (C := checked) false (rE u) #[zeroV,.int .i64 0] rfl (by kernel_rfl) (by kernel_rfl) (by kernel_rfl)
   (OpenSpec.preRow_of_cond 8 M (by kernel_rfl) (λk z=>by cases z;rfl) (by kernel_rfl) (aMi u _))) ?_
 intro W base args B gs m q L _ z _ G _ _;exact less_contract H enc W base args B gs m q L (z _ rfl) G
theorem less_said:Rows.CheckLessUptoSaid :=
 OpenClaim.holds_of_cond 3 Tryz.f3 rfl rfl rfl rfl rfl rfl rfl ⟨rfl,rfl,rfl,rfl,rfl⟩ rfl rfl rfl rfl rfl less_named func3 less_closed
  (gI (by kernel_rfl)) (by unfold Func.isWrapper;rw[aD (of_decide_eq_false (by kernel_rfl))];exact⟨rfl,rfl⟩)
  (λm h H enc _ F=>by rw[OpenClaim.pre_eq_preRow];exact less_lifted m h H enc F)
theorem less_plain(f:FuncId)(fn:Func)(q:Tryz.pinned.checked.prog.funcNamed Rows.checkLessUptoRow.func=some f)(h:Tryz.pinned.checked.prog.funcs[f]?=some fn) :
  true=Tryz.pinned.checked.prog.looks []/\∀(j:Nat) t,fn.params[j]?=some t->Tryz.pinned.checked.prog.wantsStandIn t=false:=by
 obtain rfl:f=3:=uH (less_named.symm.trans q) |>.symm
 obtain rfl:fn=Tryz.f3:=(uH (func3.symm.trans h)).symm;refine⟨less_looks,λj t m=>?_⟩;rw[params3]at m;obtain rfl|rfl:t=31\/t=3:=by simpa using Array.mem_of_getElem? m
 .exact(show prog.wantsStandIn 31=false by kernel_rfl)
 .exact(show prog.wantsStandIn 3=false by kernel_rfl)
theorem checkLessUpto_holds:Rows.CheckLessUptoCardSaid :=
 Claim7.holds_tied_plain_at .later [] _ _ _ _ less_said (λ_ h=>by cases h) less_wf (λ_ h=>by cases h) checkLessUpto_row_tie rfl ⟨rfl,rfl⟩ less_main rfl less_plain less_goes
#print axioms checkLessUpto_holds
end Go.Proofs.YtliopiiflebkdaaGreatDoor
end
