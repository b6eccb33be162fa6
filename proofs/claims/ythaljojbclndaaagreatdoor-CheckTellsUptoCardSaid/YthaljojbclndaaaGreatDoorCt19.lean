/-
  CheckTells: for any definition of bulk at most 1048576, and any string, the call returns true; the argument reads as before, memory that was there is as it was (where the listed package-level variables hold what the text of the program lays).
-/
import Derived.Test.YthaljojbclndaaaGreatDoorCt18
import Derived.WideShapes
import Derived.Test.YthaljojbclndaaaGreatDoorCt15
import Derived.Test.YthaljojbclndaaaGreatDoorCt16
import Derived.ChangeMaps5
import Derived.ReadAgain
set_option linter.all false
set_option maxRecDepth 99999
set_option maxHeartbeats 0
namespace Go.AV
open Go Go.Proofs Tryz
section
theorem aJO{H:Type}:∀l r:List (DataW H),YthaljojbclndaaaGreatDoor.Rows.uptoBulkAll (l++r)=YthaljojbclndaaaGreatDoor.Rows.uptoBulkAll l+YthaljojbclndaaaGreatDoor.Rows.uptoBulkAll r
 | [],r=>by simp[YthaljojbclndaaaGreatDoor.Rows.uptoBulkAll]
 | a::l,r=>by simp[YthaljojbclndaaaGreatDoor.Rows.uptoBulkAll,aJO l r,nS]
mutual
def A.wm:A->Nat
 | .str x=>x.length
 | .list _ es=>max es.length (kV es)
 | .agg cs=>kV cs
 | _=>0
def kV:List A->Nat
 | []=>0
 | a::r=>max (A.wm a) (kV r)
end
theorem aQc(a:A):kV a.cells=a.wm:=by
 cases a<;>simp[A.cells,kV,A.wm]
theorem aGI:∀l r:List A,kV (l++r)=max (kV l) (kV r)
 | [],r=>by simp[kV]
 | a::l,r=>by simp[kV,aGI l r,Nat.max_assoc]
theorem aMi{H:Type}{P:Program}{e:TypeId}:∀l r:List (DataW H),DataW.weightsAll P e (l++r)=DataW.weightsAll P e l++DataW.weightsAll P e r
 | [],r=>by simp[DataW.weightsAll]
 | a::l,r=>by simp[DataW.weightsAll,aMi l r]
section
variable {H:Type} {enc:TypeId × Value->H} {P:Program} {W:World} {base:Nat} {spare:Nat->Bool} {held:Bool} {g:Gh}
def iH(g:Gh)(W:World):Prop:=∀b cs e fr,W.heap[b]?=some (.cells cs e fr)->g.pi b=some cs.toList
def Cl(g:Gh)(l:List A)(cs:List Value):Prop:=l.length=cs.length/\∀(j:Nat) (c:A) (v:Value),l[j]?=some c->cs[j]?=some v->Rz g c v
theorem Cl.nil:Cl g [] []:=⟨rfl,λj c v h=>by cases h⟩
theorem Cl.app{l r:List A}{cs ds:List Value}(h:Cl g l cs)(z:Cl g r ds):Cl g (l++r) (cs++ds):=by
 refine⟨by rw[aG,aG,h.1,z.1],λj c v u y=>?_⟩;by_cases B:j<l.length
 .rw[jT B]at u;rw[jT (by rw[<-h.1];exact B)]at y;exact h.2 j c v u y
 .rw[rU aB]at u;rw[rU (by rw[<-h.1];omega),<-h.1]at y;exact z.2 _ c v u y
theorem Cl.one{a:A}{v:Value}(h:Rz g a v):Cl g [a] [v]:=⟨rfl,λj c w u y=>by
 cases j with
 | zero=>cases u;cases y;exact h
 | succ j=>cases u⟩
theorem aWw(S:ByteArray):Rz g (.str S.data.toList) (.string S):=by
 have h:=Rz.str (g:=g) S.data.toList;have e:(⟨S.data.toList.toArray⟩:ByteArray)=S:=by cases S;simp
 rw[e]at h;exact h
def eD(enc:TypeId × Value->H)(P:Program)(W:World)(base:Nat)(spare:Nat->Bool)(held:Bool)(g:Gh)(n:Nat)(t:TypeId)(Q:List A->Prop):Prop :=
 ∀fuel,fuel<=n->∀cs y,DataW.trod enc P W base spare held fuel t cs=some y->∃l,Q l/\cs.length=P.cellsOf t/\Cl g l cs/\(dI l+1<=YthaljojbclndaaaGreatDoor.Rows.uptoBulk y.1/\sF l)/\∀N,(∀n,n∈DataW.weights P t y.1->n<=N)->kV l<=N
def aCm(P:Program):Nat->List Field->Bool
 | _,[]=>true
 | o,f::r=>Nat.beq f.offset o&&aCm P (o+P.cellsOf f.type) r
def aBj(P:Program):List Field->Nat
 | []=>0
 | f::r=>P.cellsOf f.type+aBj P r
inductive Each:List (List A->Prop)->List (List A)->Prop
 | nil:Each [] []
 | cons {Q:List A->Prop} {l:List A} {Qs:List (List A->Prop)} {ls:List (List A)} (h:Q l) (t:Each Qs ls):Each (Q::Qs) (l::ls)
inductive OpQs (enc:TypeId × Value->H) (P:Program) (W:World) (base:Nat) (spare:Nat->Bool) (held:Bool) (g:Gh) (n:Nat):List Field->List (List A->Prop)->Prop
 | nil:OpQs enc P W base spare held g n [] []
 | cons {f:Field} {Q:List A->Prop} {fs:List Field} {Qs:List (List A->Prop)} (h:eD enc P W base spare held g n f.type Q) (t:OpQs enc P W base spare held g n fs Qs):OpQs enc P W base spare held g n (f::fs) (Q::Qs)
theorem aJ1{n fuel:Nat}(hf:fuel<=n):∀{B:List Field} {Qs:List (List A->Prop)} {o:Nat} {cs:List Value} {xs:List (DataW H × List MemPlace)},OpQs enc P W base spare held g n B Qs->aCm P o B=true->cs.length=o+aBj P B ->
  B.mapM (λf=>DataW.trod enc P W base spare held fuel f.type ((cs.drop f.offset).take (P.cellsOf f.type)))=some xs->∃G,Each Qs G/\Cl g G.flatten (cs.drop o)/\(dI G.flatten<=YthaljojbclndaaaGreatDoor.Rows.uptoBulkAll (xs.map (·.1))/\sF G.flatten)/\∀N,(∀n,n∈DataW.weightsEach P (B.map (·.type)) (xs.map (·.1))->n<=N)->kV G.flatten<=N
 | [],_,o,cs,xs,.nil,_,hl,_=>⟨[],.nil,by
   have:cs.drop o=[]:=dB (by simp only[aBj]at hl;omega);rw[this];exact Cl.nil,⟨by simp[dI],trivial⟩,λN _=>by simp[kV]⟩
 | f::B,_,o,cs,xs,.cons h t,u,hl,z=>by
  simp only[aCm,aY]at u;obtain⟨Z,u⟩:=u
  replace Z:=cQ Z
  rw[List.mapM_cons]at z;cases S:DataW.trod enc P W base spare held fuel f.type ((cs.drop f.offset).take (P.cellsOf f.type))with
  | none=>rw[S]at z;cases z
  | some y =>
   rw[S]at z;cases T:B.mapM (λf=>DataW.trod enc P W base spare held fuel f.type ((cs.drop f.offset).take (P.cellsOf f.type)))with
   | none=>rw[T]at z;cases z
   | some ys =>
    rw[T]at z;cases z;obtain⟨l,hQ,b2,hc,M,b0⟩:=h fuel hf _ _ S;simp only[aBj]at hl;obtain⟨G,hE,hcs,O,b1⟩:=aJ1 hf t u aB T
    refine⟨l::G,.cons hQ hE,?_,⟨by have:=M.1;have:=O.1;rw[lV,uN,cC];simp only[YthaljojbclndaaaGreatDoor.Rows.uptoBulkAll];omega,by rw[lV];exact aMG M.2 O.2⟩,λN U=>by
     rw[lV,aGI];simp only[cC,DataW.weightsEach,bT]at U;exact Nat.max_le.2 ⟨b0 N (λn Y=>U n (.inl Y)),b1 N (λn Y=>U n (.inr Y))⟩⟩
    have e:cs.drop o=(cs.drop f.offset).take (P.cellsOf f.type)++cs.drop (o+P.cellsOf f.type):=by
     rw[Z,<-wD,lA]
    rw[e,lV];exact hc.app hcs
theorem aKz{n:Nat}{t:TypeId}{z:Array Field}{O:List (List A->Prop)}{Q:List A->Prop}(U:P.underlying t=some (.struct z))(G:aCm P 0 z.toList=true)(b0:P.cellsOf t=aBj P z.toList)
  (h:OpQs enc P W base spare held g n z.toList O)(hQ:∀B,Each O B->Q B.flatten):eD enc P W base spare held g (n+1) t Q:=by
 intro fuel hf cs y u;cases fuel with
 | zero=>cases u
 | succ fuel =>
  unfold DataW.trod at u;rw[U]at u;simp only at u;split at u
  .rename_i hl;cases M:z.toList.mapM (λf=>DataW.trod enc P W base spare held fuel f.type ((cs.drop f.offset).take (P.cellsOf f.type)))with
   | none=>rw[M]at u;cases u
   | some xs =>
    rw[M]at u;cases u;obtain⟨B,Y,T,S,hw⟩:=aJ1 aB h G aB M;rw[aAl]at T;exact⟨_,hQ B Y,hl,T,⟨by have:=S.1;simp only[YthaljojbclndaaaGreatDoor.Rows.uptoBulk];omega,S.2⟩,λN Z=>hw N (λn hn=>Z n (by simp only[DataW.weights,U];exact hn))⟩
  .cases u
theorem aWg{k:IntKind}{i:Int}(h:(Lit.int k i).wf=true):sF [.int k i]:=by
 cases k<;>refine⟨?_,trivial⟩<;>first|trivial|(simp only[Lit.wf,aY,bR]at h;exact h)
theorem aEf{n:Nat}{t:TypeId}{k:IntKind}(G:P.underlying t=some (.int k))(z:P.cellsOf t=1):eD enc P W base spare held g n t (λl=>∃i:Int,(Lit.int k i).wf=true/\l=[.int k i]):=by
 intro fuel M cs y h;cases fuel with
 | zero=>cases h
 | succ fuel =>
  unfold DataW.trod at h;rw[G]at h;simp only at h;split at h<;>try (cases h;done)
  all_goals (rename_i heq;try (cases heq;done))
  all_goals (cases heq;split at h<;>try (cases h;done))
  rename_i B;obtain⟨rfl,u⟩:=B;cases h;exact⟨_,⟨_,u,rfl⟩,z.symm,Cl.one (.int _ _),⟨by simp[dI,A.bulk,YthaljojbclndaaaGreatDoor.Rows.uptoBulk],aWg u⟩,λN _=>by simp[kV,A.wm]⟩
theorem aHG{n:Nat}{t:TypeId}(G:P.underlying t=some .string)(z:P.cellsOf t=1):eD enc P W base spare held g n t (λl=>∃x:List UInt8,x.length<=maxLen/\l=[.str x]):=by
 intro fuel M cs y h;cases fuel with
 | zero=>cases h
 | succ fuel =>
  unfold DataW.trod at h;rw[G]at h;simp only at h;split at h<;>try (cases h;done)
  all_goals (rename_i heq;try (cases heq;done))
  all_goals (split at h<;>try (cases h;done))
  rename_i B;cases h
  exact⟨_,⟨_,gQ B,rfl⟩,z.symm,Cl.one (aWw _),⟨by simp[dI,A.bulk,YthaljojbclndaaaGreatDoor.Rows.uptoBulk],trivial,trivial⟩,λN u=>by
   simp only[DataW.weights,bS]at u;have:=u _ rfl;simpa [kV,A.wm]using this⟩
theorem aHg{B M:Type}{f:B->Option M}:∀{l:List B} {r:List M},l.mapM f=some r->r.length=l.length/\∀(j:Nat) (x:B),l[j]?=some x->∃y,r[j]?=some y/\f x=some y
 | [],r,h=>by
  rw[List.mapM_nil]at h;cases h;exact⟨rfl,λj x h=>by cases h⟩
 | a::l,r,h=>by
  rw[List.mapM_cons]at h;cases u:f a with
  | none=>rw[u]at h;cases h
  | some b =>
   rw[u]at h;cases z:l.mapM f with
   | none=>rw[z]at h;cases h
   | some bs =>
    rw[z]at h;cases h;obtain⟨hl,O⟩:=aHg z;refine⟨by simp[hl],λj x G=>?_⟩;cases j with
    | zero=>cases G;exact⟨b,rfl,u⟩
    | succ j=>exact O j x G
theorem aSn{a:Addr}{n:Nat}{cs:List Value}(h:W.cells? base a n=some cs):cs.length=n/\∀(j:Nat) (v:Value),cs[j]?=some v->W.cell? (a.add j)=some v:=by
 unfold World.cells? at h;split at h
 .obtain⟨hl,G⟩:=aHg h;rw[List.length_range]at hl;refine⟨hl,λj v z=>?_⟩;have M:j<n:=by rw[<-hl];exact(cX.1 z).1
  obtain⟨y,u,B⟩:=G j j (by rw[List.getElem?_range M]);rw[z]at u;cases u;exact B
 .cases h
theorem aLy{a:Addr}{v:Value}(h:W.cell? a=some v):∃c e fr,W.heap[a.block]?=some (.cells c e fr)/\a.spot=none/\c.toList[a.off]?=some v:=by
 unfold World.cell? at h;split at h
 .rename_i c e fr u;split at h
  .cases h
  .rename_i y;refine⟨c,e,fr,u,gQ y,gQ h⟩
 .cases h
theorem aLf{Y:Type}{n:Nat}{t e:TypeId}{en:Y->A}{R:Y->Prop}(ht:P.underlying t=some (.slice e))(hc:P.cellsOf t=1)(hk:iH g W)(h:eD enc P W base spare held g n e (λl=>∃x,R x/\l=(en x).cells))
  (b3:∀x,(en x).cells.length=P.cellsOf e)(h1:∀x c,c∈(en x).cells->c.one=true)(b8:0<P.cellsOf e)(bg:0<P.bytesOf e):eD enc P W base spare held g (n+1) t (λl=>∃xs:List Y,(∀x,x∈xs->R x)/\xs.length<=maxLen/\l=[.list none (xs.map en)]):=by
 intro fuel hf cs y u
 have one:∀{v:Value} {xs:List Y},Rz g (.list none (xs.map en)) v->Cl g [.list none (xs.map en)] [v]:=λhr=>⟨rfl,λj c v hc hv=>by
  cases j with
  | zero=>cases hc;cases hv;exact hr
  | succ j=>cases hc⟩
 cases fuel with
 | zero=>cases u
 | succ fuel =>
  unfold DataW.trod at u;rw[ht]at u;simp only at u;split at u<;>try (cases u;done)
  all_goals (rename_i heq;try (cases heq;done))
  .cases u;exact⟨_,⟨[],λx h=>(by cases h),aN _,rfl⟩,hc.symm,Cl.one (.list0 none none 0 (aN _) (λt h=>by cases h)),⟨by simp[dI,A.bulk,dE,YthaljojbclndaaaGreatDoor.Rows.uptoBulk],trivial,trivial⟩,λN _=>by simp[kV,A.wm]⟩
  .rename_i a len cap;cases heq;split at u<;>try (cases u;done)
   rename_i hh;obtain⟨hb,c4,b6⟩:=hh;cases hm:(List.range len).mapM (λi=>(W.cells? base (a.add (i * P.cellsOf e)) (P.cellsOf e)).bind (DataW.trod enc P W base spare held fuel e))with
   | none=>rw[hm]at u;cases u
   | some ys =>
    obtain⟨hl,hg⟩:=aHg hm;rw[List.length_range]at hl;rw[hm]at u;obtain⟨rest,_,rfl⟩:=kN.1 (show Option.map _ _=some y from u)
    have bj:∀i,i<len->∃(x:Y) (cs:List Value) (y:DataW H × List MemPlace),ys[i]?=some y/\(((en x).bulk+1<=YthaljojbclndaaaGreatDoor.Rows.uptoBulk y.1/\(en x).ir)/\∀N,(∀n,n∈DataW.weights P e y.1->n<=N)->(en x).wm<=N)/\R x/\W.cells? base (a.add (i * P.cellsOf e)) (P.cellsOf e)=some cs/\Cl g (en x).cells cs:=by
     intro i G;obtain⟨y,bv,Z⟩:=hg i i (by rw[List.getElem?_range G]);cases hcs:W.cells? base (a.add (i * P.cellsOf e)) (P.cellsOf e)with
     | none=>rw[hcs]at Z;cases Z
     | some cs =>
      rw[hcs]at Z;obtain⟨_,⟨x,hx,rfl⟩,_,b2,hb,hw⟩:=h fuel aB cs y Z;rw[aPn]at hb;rw[aQc]at hw;exact⟨x,cs,y,bv,⟨⟨hb.1,aSC hb.2⟩,hw⟩,hx,rfl,b2⟩
    have bt:∀k,k<=len->∃xs:List Y,(xs.length=k/\(dE (xs.map en)<=YthaljojbclndaaaGreatDoor.Rows.uptoBulkAll ((ys.take k).map (·.1))/\sF (xs.map en))/\∀N,(∀n,n∈DataW.weightsAll P e ((ys.take k).map (·.1))->n<=N)->kV (xs.map en)<=N)/\∀(i:Nat) (x:Y),xs[i]?=some x->R x/\∃cs,W.cells? base (a.add (i * P.cellsOf e)) (P.cellsOf e)=some cs/\Cl g (en x).cells cs:=by
     intro k
     induction k with
     | zero=>exactλ_=>⟨[],⟨rfl,⟨by simp[dE],trivial⟩,λN _=>by simp[kV]⟩,λi x h=>by cases h⟩
     | succ k ih =>
      intro c3;obtain⟨xs,⟨h3,⟨c1,bl⟩,bn⟩,h4⟩:=ih aB;obtain⟨x,cs,y2,bf,⟨⟨bz,bk⟩,bm⟩,h5,h6,h7⟩:=bj k aB
      have b1:dE ((xs++[x]).map en)<=YthaljojbclndaaaGreatDoor.Rows.uptoBulkAll ((ys.take (k+1)).map (·.1)):=by
       rw[fL,bf,cB,cB,aJC,aJO];simp only[cC,eZ,dE,Option.toList,YthaljojbclndaaaGreatDoor.Rows.uptoBulkAll];omega
      refine⟨xs++[x],⟨by simp[h3],⟨b1,by rw[cB];exact aMG bl ⟨bk,trivial⟩⟩,λN hN=>?_⟩,λi z hz=>?_⟩
      .rw[fL,bf,cB,aMi]at hN;simp only[bT,Option.toList,cC,eZ,DataW.weightsAll,cK]at hN;rw[cB,aGI];refine Nat.max_le.2 ⟨bn N (λn hn=>hN n (.inl hn)),?_⟩;have:=bm N (λn hn=>hN n (.inr hn));simpa [kV]using this
      by_cases G:i<xs.length
      .rw[jT G]at hz;exact h4 i z hz
      .rw[rU aB]at hz
       have:i-xs.length=0:=by
        have:=(cX.1 hz).1;simp at this;omega
       rw[this]at hz;cases hz;have:i=k:=by omega
       subst this;exact⟨h5,cs,h6,h7⟩
    obtain⟨xs,⟨bb,⟨br,U⟩,bd⟩,hx⟩:=bt len (bF _)
    have b1:dI [.list none (xs.map en)]+1<=YthaljojbclndaaaGreatDoor.Rows.uptoBulk (DataW.slice (ys.map (·.1)) (rest.map (·.1))):=by
     rw[lU aB]at br;simp only[dI,A.bulk,YthaljojbclndaaaGreatDoor.Rows.uptoBulk];omega
    have bp:∀N,(∀n,n∈DataW.weights P t (DataW.slice (ys.map (·.1)) (rest.map (·.1)))->n<=N)->kV [.list none (xs.map en)]<=N:=λN hN=>by
     simp only[DataW.weights,ht,cR,bT]at hN;rw[lU aB]at bd;have h1:=bd N (λn hn=>hN n (.inr (.inl hn)));have Z:=hN _ (.inl rfl)
     have h3:xs.length<=((ys.map (·.1)).length+(rest.map (·.1)).length) * P.bytesOf e:=by
      rw[aW,aW];exact rE aB (Nat.le_mul_of_pos_right _ bg)
     simp only[kV,A.wm,aW];exact Nat.max_le.2 ⟨Nat.max_le.2 ⟨rE h3 Z,h1⟩,aN _⟩
    refine⟨_,⟨xs,λx hm=>?_,by omega,rfl⟩,hc.symm,Cl.one ?_,⟨b1,U,trivial⟩,bp⟩
    .obtain⟨i,G,rfl⟩:=iC hm;exact(hx i _ (cO G)).1
    .by_cases h0:len=0
     .subst h0;have:xs=[]:=eK bb;subst this;exact .list0 none (some a) cap b6 (λt h=>by cases h)
     .have M:∀(i:Nat) (x:Y) (j:Nat) (c:A),xs[i]?=some x->(en x).cells[j]?=some c->∃v,W.cell? ((a.add (i * P.cellsOf e)).add j)=some v/\Rz g c v:=by
       intro i x j c G hj;obtain⟨_,cs,h6,h7⟩:=hx i x G;obtain⟨_,h8⟩:=aSn h6;have b7:j<cs.length:=by rw[<-h7.1];exact(cX.1 hj).1
       exact⟨_,h8 j _ (cO b7),h7.2 j c _ hj (cO b7)⟩
      obtain⟨x0,bq⟩:∃x,xs[0]?=some x:=⟨_,cO aB⟩
      obtain⟨c0,bh⟩:∃c,(en x0).cells[0]?=some c:=⟨_,cO (by rw[b3];exact b8)⟩
      obtain⟨v0,b9,_⟩:=M 0 x0 0 c0 bq bh;have ea:(a.add (0 * P.cellsOf e)).add 0=a:=by simp[Addr.add]
      rw[ea]at b9;obtain⟨cc,ee,fr,B,T,_⟩:=aLy b9;obtain⟨b,off,bw⟩:=a;simp only at T B;subst T
      have b4:∀i j,((⟨b,off,none⟩:Addr).add (i * P.cellsOf e)).add j=⟨b,off+i * P.cellsOf e+j,none⟩:=by
       intro i j;unfold Addr.add;by_cases h1:i * P.cellsOf e=0<;>by_cases Z:j=0<;>simp[h1,Z]
      have pre:∀(i:Nat) (x:Y) (j:Nat) (c:A),xs[i]?=some x->(en x).cells[j]?=some c->∃v,cc.toList[off+i * P.cellsOf e+j]?=some v/\Rz g c v:=by
       intro i x j c G hj;obtain⟨v,h8,h9⟩:=M i x j c G hj;rw[b4]at h8;obtain⟨c2,e2,f2,b0,_,b5⟩:=aLy h8;simp only at b0 b5;rw[B]at b0;cases b0;exact⟨v,b5,h9⟩
      have S:(xs.map en).length=len:=by rw[aW,bb]
      have O:=Rz.list (g:=g) none (xs.map en) b off (P.cellsOf e) cap cc.toList (hk b cc ee fr B) (by
       rw[S];obtain⟨xl,bc⟩:∃x,xs[len-1]?=some x:=⟨_,cO aB⟩
       obtain⟨cl,b2⟩:∃c,(en xl).cells[P.cellsOf e-1]?=some c:=⟨_,cO (by rw[b3];omega)⟩
       obtain⟨v,hv,_⟩:=pre (len-1) xl (P.cellsOf e-1) cl bc b2;have:=(cX.1 hv).1
       have e3:(len-1) * P.cellsOf e+P.cellsOf e=len * P.cellsOf e:=by
        rw[<-Nat.succ_mul];congr 1;omega
       omega) aB b6
       (fun y u => by
        obtain⟨x,_,rfl⟩:=cW.1 u;exact b3 x)
       (fun y u => by
        obtain⟨x,_,rfl⟩:=cW.1 u;exact h1 x)
       (fun i y j c v G hj hv => by
        rw[jU]at G;cases U:xs[i]? with
        | none=>rw[U]at G;cases G
        | some x =>
         rw[U]at G;cases G;obtain⟨w,hw,hr⟩:=pre i x j c U hj;rw[hv]at hw;cases hw;exact hr)
       (λt h=>by cases h)
      rw[S]at O;exact O
end
end
section
section
variable {H:Type} {enc:TypeId × Value->H} {P:Program} {W W':World} {base:Nat} {spare:Nat->Bool} {held:Bool}
def Old(W W':World):Prop:=∀k,k<W.heap.size->W'.heap[k]?=W.heap[k]?
theorem Old.get(h:Old W W'){b:Nat}{o:Obj}(u:W.heap[b]?=some o):W'.heap[b]?=some o:=by
 rw[h b (fU.1 u).1];exact u
theorem Old.cell(h:Old W W'){a:Addr}{v:Value}(u:W.cell? a=some v):W'.cell? a=some v:=by
 unfold World.cell? at u⊢;split at u
 .rename_i c e fr y;rw[h.get y];exact u
 .cases u
theorem yV{M O:Type}{f G:M->Option O}(h:∀x y,f x=some y->G x=some y):∀{l:List M} {r:List O},l.mapM f=some r->l.mapM G=some r
 | [],r,u=>u
 | a::l,r,u=>by
  rw[List.mapM_cons]at u⊢;cases z:f a with
  | none=>rw[z]at u;cases u
  | some b =>
   rw[z]at u;cases B:l.mapM f with
   | none=>rw[B]at u;cases u
   | some bs =>
    rw[B]at u;rw[h a b z,yV h B];exact u
theorem aDU{G M:Type}{x B:Option G}{k z:G->Option M}{y:M}(S:∀a,x=some a->B=some a)(O:∀a y,k a=some y->z a=some y)(h:x.bind k=some y):B.bind z=some y:=by
 cases u:x with
 | none=>rw[u]at h;cases h
 | some a=>rw[u]at h;rw[S a u];exact O a y h
theorem aAY{B G:Type}{x z:Option B}{k:B->G}{y:G}(M:∀a,x=some a->z=some a)(h:x.map k=some y):z.map k=some y:=by
 cases u:x with
 | none=>rw[u]at h;cases h
 | some a=>rw[u]at h;rw[M a u];exact h
theorem Old.cells(h:Old W W'){a:Addr}{n:Nat}{cs:List Value}(u:W.cells? base a n=some cs):W'.cells? base a n=some cs:=by
 unfold World.cells? at u⊢;split at u
 .rename_i z;rw[aF z];exact yV (λx y=>h.cell) u
 .cases u
theorem aLn(h:Old W W'):∀(fuel:Nat) (t:TypeId) (cs:List Value) (x:DataW H × List MemPlace),DataW.trod enc P W base spare held fuel t cs=some x->DataW.trod enc P W' base spare held fuel t cs=some x
 | 0,t,cs,x,u=>by cases u
 | fuel+1,t,cs,x,u=>by
  have G:=aLn h fuel
  have O:∀(e:TypeId) (a:Addr) (n:Nat) (y:DataW H × List MemPlace),(W.cells? base a n).bind (DataW.trod enc P W base spare held fuel e)=some y->(W'.cells? base a n).bind (DataW.trod enc P W' base spare held fuel e)=some y :=
   λe a n y=>aDU (λcs=>h.cells) (λcs y=>G e cs y)
  unfold DataW.trod at u⊢;split at u<;>(try simp only at u⊢)<;>(try exact u)
  case h_6=>exact aAY (λy=>O _ _ _ y) u
  case h_8 =>
   split at u
   .rename_i B;rw[aF B];refine aDU (λy=>yV (λi y=>O _ _ _ y)) (λS y=>aAY (λr T=>?_)) u;split at T
    .rename_i U;rw[aF U];exact yV (λi y=>O _ _ _ y) T
    .rename_i U;rw[aE U];exact T
   .cases u
  case h_9 =>
   split at u
   .rename_i B;rw[aF B];exact aAY (λy=>yV (λf y=>G _ _ y)) u
   .cases u
  case h_10 =>
   split at u
   .rename_i B;rw[aF B];exact aAY (λy=>yV (λf y=>G _ _ y)) u
   .cases u
  case h_12 =>
   split at u<;>(try simp only at u⊢)<;>(try exact u)
   exact aAY (λy=>G _ _ y) u
  case h_14 =>
   split at u
   .rename_i es M Y;rw[h.get Y];simp only;split at u
    .rename_i B;rw[aF B];refine aDU (λy=>yV (λf y=>aDU (λk hk=>hk) (λk z hz=>?_))) (λa y hy=>hy) u;split at hz
     .rename_i Z;simp only[Z,dJ];exact aAY (λy=>G _ _ y) hz
     .cases hz
    .cases u
   .cases u
theorem aJz(h:Old W W'):∀{ts:List TypeId} {vs:List Value} {ds:List (DataW H)} {u:List MemPlace},DataW.TrodAll enc P W base spare held ts vs ds u->DataW.TrodAll enc P W' base spare held ts vs ds u
 | [],[],[],u,B=>B
 | t::ts,v::vs,d::ds,u,⟨p,q,⟨fuel,z⟩,y,e⟩=>⟨p,q,⟨fuel,aLn h _ _ _ _ z⟩,aJz h y,e⟩
end
end
section
section
variable {H:Type} {enc:TypeId × Value->H} {W:World} {base:Nat} {spare:Nat->Bool} {held:Bool} {g:Gh}
theorem aD2{P:Program}{t:TypeId}{Q:List A->Prop}:eD enc P W base spare held g 0 t Q:=λfuel u cs y h=>by
 obtain rfl:fuel=0:=by omega
 cases h
theorem nX{P:Program}{n:Nat}{t:TypeId}{Q R:List A->Prop}(h:eD enc P W base spare held g n t Q)(G:∀l,Q l->R l):eD enc P W base spare held g n t R:=λfuel B cs y M=>by
 obtain⟨l,u,z⟩:=h fuel B cs y M;exact⟨l,G l u,z⟩
theorem aVQ(x:Tm):x.enc.cells.length=6:=by rw[fZ];rfl
theorem aWx(x:Tm):∀c,c∈x.enc.cells->c.one=true:=by
 rw[fZ];intro c h;simp only[A.cells,Tm.cs,cR,nE,dW]at h;rcases h with rfl|rfl|rfl|rfl|rfl|rfl<;>rfl
theorem aHY(z:iH g W):∀n,eD enc prog W base spare held g n 67 (λl=>∃x:Tm,True/\l=x.enc.cells) /\
  eD enc prog W base spare held g n 47 (λl=>∃xs:List Tm,(∀x,x∈xs->True)/\xs.length<=maxLen/\l=[.list none (xs.map Tm.enc)])
 | 0=>⟨aD2,aD2⟩
 | n+1=>by
  obtain⟨B,u⟩:=aHY z n;refine⟨?_,aLf underlying47 (by kernel_rfl) z B (λx=>(aVQ x).trans (by kernel_rfl)) aWx (by rw[show prog.cellsOf 67=6 by kernel_rfl];omega) (eQ (by kernel_rfl))⟩;refine aKz underlying67 (by kernel_rfl) (by kernel_rfl) (.cons (aEf underlying65 (by kernel_rfl)) (.cons (aEf underlying3 (by kernel_rfl)) (.cons (aHG underlying9 (by kernel_rfl)) (.cons (aHG underlying9 (by kernel_rfl)) (.cons u (.cons u .nil)))))) ?_
  .intro Y h;cases h with|cons G h =>
   cases h with|cons M h =>
   cases h with|cons O h =>
   cases h with|cons S h =>
   cases h with|cons T h =>
   cases h with|cons U h =>
   cases h;obtain⟨k,_,rfl⟩:=G;obtain⟨m,_,rfl⟩:=M;obtain⟨x,_,rfl⟩:=O;obtain⟨y,_,rfl⟩:=S;obtain⟨a,_,_,rfl⟩:=T;obtain⟨b,_,_,rfl⟩:=U;exact⟨.mk k m x y a b,trivial,by rw[fZ];rfl⟩
end
end
section
section
variable {H:Type} {enc:TypeId × Value->H} {W:World} {base:Nat} {spare:Nat->Bool} {held:Bool} {g:Gh}
theorem tD{P:Program}{B:Type}{t e:TypeId}{en:B->A}(S:P.underlying t=some (.slice e))(M:P.cellsOf t=1)(O:iH g W)(h:∀n,eD enc P W base spare held g n e (λl=>∃x,l=(en x).cells))
  (z:∀x,(en x).cells.length=P.cellsOf e)(G:∀x c,c∈(en x).cells->c.one=true)(u:0<P.cellsOf e)(y:0<P.bytesOf e):∀n,eD enc P W base spare held g n t (λl=>∃xs:List B,l=[.list none (xs.map en)])
 | 0=>aD2
 | n+1=>nX (aLf (R:=λ_=>True) S M O (nX (h n) (λl ⟨x,e⟩=>⟨x,trivial,e⟩)) z G u y) (λl ⟨xs,_,_,e⟩=>⟨xs,e⟩)
theorem tB{P:Program}{t:TypeId}{u:Array Field}{B:List (List A->Prop)}{Q:List A->Prop}(O:P.underlying t=some (.struct u))(y:aCm P 0 u.toList=true)(z:P.cellsOf t=aBj P u.toList)
  (h:∀n,OpQs enc P W base spare held g n u.toList B)(M:∀G,Each B G->Q G.flatten):∀n,eD enc P W base spare held g n t Q
 | 0=>aD2
 | n+1=>aKz O y z (h n) M
theorem tM(n:Nat):eD enc prog W base spare held g n 3 (λl=>∃i:Int,l=[.int .i64 i]):=nX (aEf underlying3 (by kernel_rfl)) (λl ⟨i,_,e⟩=>⟨i,e⟩)
theorem aUb(n:Nat):eD enc prog W base spare held g n 77 (λl=>∃i:Int,l=[.int .i64 i]):=nX (aEf underlying77 (by kernel_rfl)) (λl ⟨i,_,e⟩=>⟨i,e⟩)
theorem nL(n:Nat):eD enc prog W base spare held g n 9 (λl=>∃x:List UInt8,l=[.str x]):=nX (aHG underlying9 (by kernel_rfl)) (λl ⟨i,_,e⟩=>⟨i,e⟩)
theorem aEL(h:iH g W)(n:Nat):eD enc prog W base spare held g n 67 (λl=>∃x:Tm,l=x.cs):=nX (aHY h n).1 (λl ⟨x,_,e⟩=>⟨x,by rw[e,fZ];rfl⟩)
theorem aEz(h:iH g W)(n:Nat):eD enc prog W base spare held g n 47 (λl=>∃xs:List Tm,l=[.list none (xs.map Tm.enc)]):=nX (aHY h n).2 (λl ⟨x,_,_,e⟩=>⟨x,e⟩)
theorem aEg(u:iH g W):∀n,eD enc prog W base spare held g n 22 (λl=>∃xs:List (List UInt8),l=[.list none (xs.map .str)]) :=
 tD underlying22 (by kernel_rfl) u nL (λx=>(by kernel_rfl:1=prog.cellsOf 9)) (λx c h=>by simp only[A.cells,bS]at h;subst h;rfl) (by rw[show prog.cellsOf 9=1 by kernel_rfl];omega) (eQ (by kernel_rfl))
theorem aVs(u:iH g W):∀n,eD enc prog W base spare held g n 78 (λl=>∃xs:List Int,l=[.list none (xs.map (.int .i64))]) :=
 tD underlying78 (by kernel_rfl) u tM (λx=>(by kernel_rfl:1=prog.cellsOf 3)) (λx c h=>by simp only[A.cells,bS]at h;subst h;rfl) (by rw[show prog.cellsOf 3=1 by kernel_rfl];omega) (eQ (by kernel_rfl))
theorem aT9(n:Nat):eD enc prog W base spare held g n 112 (λl=>∃x:Below,l=x.cs) :=
 tB underlying112 (by kernel_rfl) (by kernel_rfl) (λn=>.cons (nL n) (.cons (nL n) .nil)) (λz h=>by
  cases h with|cons u h =>
  cases h with|cons y h =>
  cases h;obtain⟨a,rfl⟩:=u;obtain⟨b,rfl⟩:=y;exact⟨⟨a,b⟩,rfl⟩) n
theorem aUd(n:Nat):eD enc prog W base spare held g n 218 (λl=>∃x:Piece,l=x.cs) :=
 tB underlying218 (by kernel_rfl) (by kernel_rfl) (λn=>.cons (nL n) (.cons (nL n) .nil)) (λz h=>by
  cases h with|cons u h =>
  cases h with|cons y h =>
  cases h;obtain⟨a,rfl⟩:=u;obtain⟨b,rfl⟩:=y;exact⟨⟨a,b⟩,rfl⟩) n
end
end
section
section
variable {H:Type} {enc:TypeId × Value->H} {W:World} {base:Nat} {spare:Nat->Bool} {held:Bool} {g:Gh}
theorem aHM(x:Tm):∀c,c∈x.cs->c.one=true:=by
 intro c h;simp only[Tm.cs,cR,nE,dW]at h;rcases h with rfl|rfl|rfl|rfl|rfl|rfl<;>rfl
theorem aSi(x:Below):∀c,c∈x.enc.cells->c.one=true:=by
  intro c h;simp only[Below.enc,A.cells,Below.cs,cR,nE,dW]at h
  repeat' (first|(subst h;rfl)|(rcases h with h|h))
theorem aSU(h:iH g W):∀n,eD enc prog W base spare held g n 23 (λl=>∃xs:List Below,l=[.list none (xs.map Below.enc)]) :=
 tD underlying23 (by kernel_rfl) h (λn=>nX (aT9 n) (λl ⟨x,e⟩=>⟨x,e⟩)) (λx=>(show x.enc.cells.length=2 from rfl).trans (by kernel_rfl)) aSi (by rw[show prog.cellsOf 112=2 by kernel_rfl];omega) (eQ (by kernel_rfl))
theorem aSY(x:Piece):∀c,c∈x.enc.cells->c.one=true:=by
  intro c h;simp only[Piece.enc,A.cells,Piece.cs,cR,nE,dW]at h
  repeat' (first|(subst h;rfl)|(rcases h with h|h))
theorem aSW(h:iH g W):∀n,eD enc prog W base spare held g n 76 (λl=>∃xs:List Piece,l=[.list none (xs.map Piece.enc)]) :=
 tD underlying76 (by kernel_rfl) h (λn=>nX (aUd n) (λl ⟨x,e⟩=>⟨x,e⟩)) (λx=>(show x.enc.cells.length=2 from rfl).trans (by kernel_rfl)) aSY (by rw[show prog.cellsOf 218=2 by kernel_rfl];omega) (eQ (by kernel_rfl))
theorem aWq(u:iH g W)(n:Nat):eD enc prog W base spare held g n 80 (λl=>∃x:Opr,l=x.cs) :=
 tB underlying80 (by kernel_rfl) (by kernel_rfl) (λn=>.cons (nL n) (.cons (aEg u n) (.cons (nL n) (.cons (aSW u n) (.cons (tM n) (.cons (aUb n) (.cons (aVs u n) .nil))))))) (λZ h=>by
  cases h with|cons G h =>
  cases h with|cons M h =>
  cases h with|cons O h =>
  cases h with|cons S h =>
  cases h with|cons T h =>
  cases h with|cons U h =>
  cases h with|cons Y h =>
  cases h;obtain⟨a0,rfl⟩:=G;obtain⟨y,rfl⟩:=M;obtain⟨z,rfl⟩:=O;obtain⟨a3,rfl⟩:=S;obtain⟨a4,rfl⟩:=T;obtain⟨a5,rfl⟩:=U;obtain⟨B,rfl⟩:=Y;exact⟨⟨a0,y,z,a3,a4,a5,B⟩,by simp only[Opr.cs,lV,oW,cK,bL,bE]⟩) n
theorem aVq(x:Opr):∀c,c∈x.enc.cells->c.one=true:=by
  intro c h;simp only[Opr.enc,A.cells,Opr.cs,cR,nE,dW]at h
  repeat' (first|(subst h;rfl)|(rcases h with h|h))
theorem aMU(h:iH g W):∀n,eD enc prog W base spare held g n 24 (λl=>∃xs:List Opr,l=[.list none (xs.map Opr.enc)]) :=
 tD underlying24 (by kernel_rfl) h (λn=>nX (aWq h n) (λl ⟨x,e⟩=>⟨x,e⟩)) (λx=>(show x.enc.cells.length=7 from rfl).trans (by kernel_rfl)) aVq (by rw[show prog.cellsOf 80=7 by kernel_rfl];omega) (eQ (by kernel_rfl))
theorem aWs(u:iH g W)(n:Nat):eD enc prog W base spare held g n 26 (λl=>∃x:Sig,l=x.cs) :=
 tB underlying26 (by kernel_rfl) (by kernel_rfl) (λn=>.cons (aEg u n) (.cons (aSU u n) (.cons (aMU u n) (.cons (aMU u n) (.cons (aEg u n) .nil))))) (λT h=>by
  cases h with|cons B h =>
  cases h with|cons G h =>
  cases h with|cons M h =>
  cases h with|cons O h =>
  cases h with|cons S h =>
  cases h;obtain⟨a0,rfl⟩:=B;obtain⟨y,rfl⟩:=G;obtain⟨z,rfl⟩:=M;obtain⟨a3,rfl⟩:=O;obtain⟨a4,rfl⟩:=S;exact⟨⟨a0,y,z,a3,a4⟩,by simp only[Sig.cs,lV,oW,cK,bL,bE]⟩) n
theorem aWp(u:iH g W)(n:Nat):eD enc prog W base spare held g n 69 (λl=>∃x:Eqn,l=x.cs) :=
 tB underlying69 (by kernel_rfl) (by kernel_rfl) (λn=>.cons (aEL u n) (.cons (aEL u n) (.cons (aEz u n) (.cons (tM n) (.cons (tM n) .nil))))) (λT h=>by
  cases h with|cons B h =>
  cases h with|cons G h =>
  cases h with|cons M h =>
  cases h with|cons O h =>
  cases h with|cons S h =>
  cases h;obtain⟨a0,rfl⟩:=B;obtain⟨y,rfl⟩:=G;obtain⟨z,rfl⟩:=M;obtain⟨a3,rfl⟩:=O;obtain⟨a4,rfl⟩:=S;exact⟨⟨a0,y,z,a3,a4⟩,by simp only[Eqn.cs,lV,oW,cK,bL,bE]⟩) n
theorem aUZ(x:Eqn):∀c,c∈x.enc.cells->c.one=true:=by
  intro c h;simp only[Eqn.enc,A.cells,Eqn.cs,bT,cR,nE,dW]at h
  repeat' (first|(subst h;rfl)|exact aHM _ c h|(rcases h with h|h))
theorem aVr(h:iH g W):∀n,eD enc prog W base spare held g n 27 (λl=>∃xs:List Eqn,l=[.list none (xs.map Eqn.enc)]) :=
 tD underlying27 (by kernel_rfl) h (λn=>nX (aWp h n) (λl ⟨x,e⟩=>⟨x,e⟩)) (λx=>(show x.enc.cells.length=15 from rfl).trans (by kernel_rfl)) aUZ (by rw[show prog.cellsOf 69=15 by kernel_rfl];omega) (eQ (by kernel_rfl))
theorem aWn(z:iH g W)(n:Nat):eD enc prog W base spare held g n 96 (λl=>∃x:Cel,l=x.cs) :=
 tB underlying96 (by kernel_rfl) (by kernel_rfl) (λn=>.cons (nL n) (.cons (nL n) (.cons (aEL z n) (.cons (tM n) (.cons (tM n) .nil))))) (λT h=>by
  cases h with|cons B h =>
  cases h with|cons G h =>
  cases h with|cons M h =>
  cases h with|cons O h =>
  cases h with|cons S h =>
  cases h;obtain⟨a0,rfl⟩:=B;obtain⟨u,rfl⟩:=G;obtain⟨y,rfl⟩:=M;obtain⟨a3,rfl⟩:=O;obtain⟨a4,rfl⟩:=S;exact⟨⟨a0,u,y,a3,a4⟩,by simp only[Cel.cs,lV,oW,cK,bL,bE]⟩) n
theorem aUO(x:Cel):∀c,c∈x.enc.cells->c.one=true:=by
  intro c h;simp only[Cel.enc,A.cells,Cel.cs,bT,cR,nE,dW]at h
  repeat' (first|(subst h;rfl)|exact aHM _ c h|(rcases h with h|h))
theorem aMT(h:iH g W):∀n,eD enc prog W base spare held g n 28 (λl=>∃xs:List Cel,l=[.list none (xs.map Cel.enc)]) :=
 tD underlying28 (by kernel_rfl) h (λn=>nX (aWn h n) (λl ⟨x,e⟩=>⟨x,e⟩)) (λx=>(show x.enc.cells.length=10 from rfl).trans (by kernel_rfl)) aUO (by rw[show prog.cellsOf 96=10 by kernel_rfl];omega) (eQ (by kernel_rfl))
theorem aVt(u:iH g W)(n:Nat):eD enc prog W base spare held g n 101 (λl=>∃x:Part,l=x.cs) :=
 tB underlying101 (by kernel_rfl) (by kernel_rfl) (λn=>.cons (nL n) (.cons (nL n) (.cons (aEL u n) (.cons (aEz u n) (.cons (tM n) (.cons (tM n) .nil)))))) (λU h=>by
  cases h with|cons B h =>
  cases h with|cons G h =>
  cases h with|cons M h =>
  cases h with|cons O h =>
  cases h with|cons S h =>
  cases h with|cons T h =>
  cases h;obtain⟨a0,rfl⟩:=B;obtain⟨y,rfl⟩:=G;obtain⟨z,rfl⟩:=M;obtain⟨a3,rfl⟩:=O;obtain⟨a4,rfl⟩:=S;obtain⟨a5,rfl⟩:=T;exact⟨⟨a0,y,z,a3,a4,a5⟩,by simp only[Part.cs,lV,oW,cK,bL,bE]⟩) n
theorem aUh(x:Part):∀c,c∈x.enc.cells->c.one=true:=by
  intro c h;simp only[Part.enc,A.cells,Part.cs,bT,cR,nE,dW]at h
  repeat' (first|(subst h;rfl)|exact aHM _ c h|(rcases h with h|h))
theorem aUc(h:iH g W):∀n,eD enc prog W base spare held g n 46 (λl=>∃xs:List Part,l=[.list none (xs.map Part.enc)]) :=
 tD underlying46 (by kernel_rfl) h (λn=>nX (aVt h n) (λl ⟨x,e⟩=>⟨x,e⟩)) (λx=>(show x.enc.cells.length=11 from rfl).trans (by kernel_rfl)) aUh (by rw[show prog.cellsOf 101=11 by kernel_rfl];omega) (eQ (by kernel_rfl))
theorem aUa(u:iH g W)(n:Nat):eD enc prog W base spare held g n 103 (λl=>∃x:Fresh,l=x.cs) :=
 tB underlying103 (by kernel_rfl) (by kernel_rfl) (λn=>.cons (aEz u n) .nil) (λz h=>by
  cases h with|cons y h =>
  cases h;obtain⟨a0,rfl⟩:=y;exact⟨⟨a0⟩,by simp only[Fresh.cs,lV,oW,cK,bL,bE]⟩) n
theorem aSy(x:Fresh):∀c,c∈x.enc.cells->c.one=true:=by
  intro c h;simp only[Fresh.enc,A.cells,Fresh.cs,cR,nE,dW]at h
  repeat' (first|(subst h;rfl)|(rcases h with h|h))
theorem aSV(h:iH g W):∀n,eD enc prog W base spare held g n 48 (λl=>∃xs:List Fresh,l=[.list none (xs.map Fresh.enc)]) :=
 tD underlying48 (by kernel_rfl) h (λn=>nX (aUa h n) (λl ⟨x,e⟩=>⟨x,e⟩)) (λx=>(show x.enc.cells.length=1 from rfl).trans (by kernel_rfl)) aSy (by rw[show prog.cellsOf 103=1 by kernel_rfl];omega) (eQ (by kernel_rfl))
theorem aWr(u:iH g W)(n:Nat):eD enc prog W base spare held g n 50 (λl=>∃x:Rul,l=x.cs) :=
 tB underlying50 (by kernel_rfl) (by kernel_rfl) (λn=>.cons (nL n) (.cons (aUc u n) (.cons (aEz u n) (.cons (aSV u n) (.cons (aEg u n) (.cons (tM n) (.cons (tM n) .nil))))))) (λZ h=>by
  cases h with|cons G h =>
  cases h with|cons M h =>
  cases h with|cons O h =>
  cases h with|cons S h =>
  cases h with|cons T h =>
  cases h with|cons U h =>
  cases h with|cons Y h =>
  cases h;obtain⟨a0,rfl⟩:=G;obtain⟨y,rfl⟩:=M;obtain⟨z,rfl⟩:=O;obtain⟨a3,rfl⟩:=S;obtain⟨a4,rfl⟩:=T;obtain⟨a5,rfl⟩:=U;obtain⟨B,rfl⟩:=Y;exact⟨⟨a0,y,z,a3,a4,a5,B⟩,by simp only[Rul.cs,lV,oW,cK,bL,bE]⟩) n
theorem aVG(x:Rul):∀c,c∈x.enc.cells->c.one=true:=by
  intro c h;simp only[Rul.enc,A.cells,Rul.cs,cR,nE,dW]at h
  repeat' (first|(subst h;rfl)|(rcases h with h|h))
theorem aVu(h:iH g W):∀n,eD enc prog W base spare held g n 29 (λl=>∃xs:List Rul,l=[.list none (xs.map Rul.enc)]) :=
 tD underlying29 (by kernel_rfl) h (λn=>nX (aWr h n) (λl ⟨x,e⟩=>⟨x,e⟩)) (λx=>(show x.enc.cells.length=7 from rfl).trans (by kernel_rfl)) aVG (by rw[show prog.cellsOf 50=7 by kernel_rfl];omega) (eQ (by kernel_rfl))
theorem aWo(u:iH g W)(n:Nat):eD enc prog W base spare held g n 31 (λl=>∃x:Dfn,l=x.cs) :=
 tB underlying31 (by kernel_rfl) (by kernel_rfl) (λn=>.cons (nL n) (.cons (aWs u n) (.cons (aVr u n) (.cons (aMT u n) (.cons (nL n) (.cons (aMT u n) (.cons (aVu u n) (.cons (nL n) (.cons (nL n) .nil))))))))) (λls h=>by
  cases h with|cons O h =>
  cases h with|cons S h =>
  cases h with|cons T h =>
  cases h with|cons U h =>
  cases h with|cons Y h =>
  cases h with|cons Z h =>
  cases h with|cons q6 h =>
  cases h with|cons q7 h =>
  cases h with|cons q8 h =>
  cases h;obtain⟨a0,rfl⟩:=O;obtain⟨y,rfl⟩:=S;obtain⟨z,rfl⟩:=T;obtain⟨a3,rfl⟩:=U;obtain⟨a4,rfl⟩:=Y;obtain⟨a5,rfl⟩:=Z;obtain⟨B,rfl⟩:=q6;obtain⟨G,rfl⟩:=q7;obtain⟨M,rfl⟩:=q8;exact⟨⟨a0,y,z,a3,a4,a5,B,G,M⟩,by simp only[Dfn.cs,lV,oW,cK,bL,bE]⟩) n
theorem aST{v:Value}{d:DataW H}{O:List MemPlace}{r:Reach}{B:Nat}(M:iH g W)(y:Value.okWide prog W r B 31 v)(h:DataW.Trod enc prog W base spare held 31 v d O):∃x:Dfn,Rz g x.enc v/\dI x.cs+1<=YthaljojbclndaaaGreatDoor.Rows.uptoBulk d/\x.enc.ir:=by
 obtain⟨cs,rfl,_⟩:=WideShapes.okWide_struct underlying31 y;obtain⟨fuel,G⟩:=h;obtain⟨l,⟨x,rfl⟩,hl,u,z,_⟩:=aWo M fuel fuel (bF _) _ _ G;refine⟨x,?_,z.1,z.2⟩;have:=Rz.agg (g:=g) x.cs cs.toList u.1.symm ?_ u.2
 .unfold Dfn.enc;simpa using this
 .intro c u;simp only[Dfn.cs,Sig.cs,bT,cR,nE,dW]at u
  repeat' (first|(subst u;rfl)|(rcases u with u|u))
end
end
theorem aB9{u:Type}{f:u->Nat}{en:u->A}(k:Nat)(h:∀x,f x<=k * ((en x).bulk+1)):∀l:List u,(l.map f).sum<=k * dE (l.map en)
 | []=>by simp
 | x::l=>by
  have y:=h x;have z:=aB9 k h l;simp only[cC,List.sum_cons,dE,Nat.mul_add]at y z⊢;omega
theorem aWb(x:Eqn):eqW x<=2 * (x.enc.bulk+1):=by
 have:=fW Tm.enc x.cond;simp only[eqW,Eqn.enc,Eqn.cs,A.bulk,dI,uN];omega
theorem aUg(x:Part):aCS x<=1 * (x.enc.bulk+1):=by
 have:=fW Tm.enc x.right;simp only[aCS,Part.enc,Part.cs,A.bulk,dI,uN];omega
theorem aSx(x:Fresh):x.cells.length<=1 * (x.enc.bulk+1):=by
 have:=fW Tm.enc x.cells;simp only[Fresh.enc,Fresh.cs,A.bulk,dI];omega
theorem aVF(x:Rul):aC5 x<=1 * (x.enc.bulk+1):=by
 have h:=aB9 1 aUg x.parts;have u:=fW Tm.enc x.cond;have y:=aB9 1 aSx x.new;simp only[aC5,Rul.enc,Rul.cs,A.bulk,dI]at h u y⊢;omega
theorem aUU(x:Dfn):zT x<=2 * dI x.cs/\x.sig.ops.length+x.sig.funs.length<=dI x.cs:=by
 have h:=aB9 2 aWb x.eqs;have u:=aB9 1 aVF x.rules;have y:=fW Cel.enc x.once;have z:=fW Cel.enc x.many;have B:=fW Opr.enc x.sig.ops;have G:=fW Opr.enc x.sig.funs;simp only[zT,Dfn.cs,Sig.cs,A.bulk,dI,uN];omega
end Go.AV
section
open Go.Proofs.Tryz
namespace Go.Proofs.YthaljojbclndaaaGreatDoor
open Go Go.AV Go.Proofs.Tryz Go.ChangeShapes Go.WideShapes Go.ChangeAt Go.RowKit
open Go.ChangeMaps (open_string shut_string)
theorem own:ownKnob prog.godebug=none:=by kernel_rfl
def allP(W:World):Nat->Option (List Value):=λb=>match W.heap[b]? with
 | some (.cells cs _ _)=>some cs.toList
 | _=>none
theorem knows_all {W : World} {l : List (String × DataW Unit)} (hL : laidMet prog l W) (z : ("strings.asciiSpace",Rows.laid_strings_asciiSpace) ∈ l)
  (B : ("internal/strconv.uint64pow10",Rows.laid_internal_strconv_uint64pow10) ∈ l) : iH (yC (pi0 (allP W)) W) W := by
 obtain⟨t0,G,u⟩:=aDG aGM (aMl hL z);obtain⟨t3,M,y⟩:=aDG aGD (aMX hL B);intro b cs e fr h;show pi0 (allP W) b=some cs.toList;unfold pi0;split
 .rw[u]at h;cases h;rfl
 .rw[y]at h;cases h;rfl
 .unfold allP;rw[h]
theorem tells_contract(H:Type)(enc:TypeId × Value->H)(W:World)(base:Nat)(args:Array Value)(ds gs:List (DataW H))(y:List MemPlace)
  (u:∀(j:Nat) t v,Tryz.f4.params[j]?=some t->args[j]?=some v->Value.okWide prog W .any base t v)
  (hW:DataW.Whole enc prog Tryz.f4.params.toList Rows.checkTellsSpec.vars false W args.toList ds gs y)(b2:Rows.uptoSmall H (ds++gs)=true)(hL:laidMetH prog Rows.checkTellsUptoRow.laid W) :
  Calls prog 4 args W λe W'=>∃v,e=.returned v/\Rows.checkTellsSpec.post enc prog Tryz.f4 false true false false W args v W':=by
 have G := hW;have O := hW.lt;obtain ⟨p,q,z,hV,rfl,b6,b7⟩ := hW;have hA : DataW.TrodAll enc prog W 0 (fun _ => true) true Tryz.f4.params.toList args.toList ds p := z;have b0 := hA;rw [params4] at hA u;obtain ⟨v0,v1,Y,d1,p0,p1,rfl,rfl,rfl,h0,h1⟩ := trodAll_two hA;obtain ⟨rfl,rfl⟩ := trodVars_none hV;obtain ⟨S,rfl,rfl,rfl,hS⟩ := open_string underlying9 (u 1 9 v1 rfl rfl) h1;clear z;simp only [cK] at G O;have m1 : ("strings.asciiSpace",Rows.laid_strings_asciiSpace) ∈ Rows.checkTellsUptoRow.laid := (.tail _ (.tail _ (.tail _ (.tail _ (.tail _ (.tail _ (.tail _ (.head _))))))));have m2 : ("internal/strconv.uint64pow10",Rows.laid_internal_strconv_uint64pow10) ∈ Rows.checkTellsUptoRow.laid := (.tail _ (.tail _ (.head _)));have hK := knows_all hL m1 m2;obtain ⟨a,ha,b5,hI⟩ := aST hK (u 0 31 v0 rfl rfl) h0;have U : Rows.uptoBulkAll [Y,.lit (.string S.data.toList)] ≤ 1048576 := eN b2;simp only [Rows.uptoBulkAll,Rows.uptoBulk] at U;obtain ⟨b3,b4⟩ := aUU a
 have hc:=aR4 (f:=4) (args:=[a.enc,.str S.data.toList]) (vals:=[v0,.string S]) (W:=W) (p:=allP W) (l:=Rows.checkTellsUptoRow.laid) func4 rfl rfl hL m1 m2
  (fun b pre h => by
   unfold allP at h;split at h
   .rename_i cs t fr hh;cases h;exact⟨[],t,fr,by rw[hh,cK]⟩
   .cases h)
  (.cons ha (.cons (.str S.data.toList) (.nil _))) (aR9 a S.data.toList aB aB aB rfl)
 refine hc.mono λe W' ⟨he,b1,T,M⟩=>?_
 subst he;have Z:Rows.checkTellsSpec.fn H ([Y,DataW.lit (.string S.data.toList)]++[])={ results:=[.lit (.bool true)],args:=[Y,.lit (.string S.data.toList)] }:=rfl;have B:=aJz M b0;simp only[cK]at B;refine⟨_,rfl,_,_,_,[],p0,[],G,?_,?_,?_,aVd b1 T M,λh=>by cases h⟩
 .rw[Z];exact trodAll_mk1 (shut_bool underlying4 true)
 .rw[Z]
  exact DataW.TrodAll.respare (kids_rows tells_k1 tells_k2) (slices_full_of prog (by kernel_rfl)) (λt ht=>by
   rw[params4]at ht;obtain rfl|rfl:t=31\/t=9:=gQ ht
   .exact eN (by kernel_rfl)
   .exact eN (by kernel_rfl)) B (λp hp=>cF (O p hp))
 .rw[Z];rfl
def zeroV:Value:=.agg #[.string ⟨#[]⟩,.slice none 0 0,.slice none 0 0,.slice none 0 0,.slice none 0 0,.slice none 0 0,.slice none 0 0,.slice none 0 0,.string ⟨#[]⟩,.slice none 0 0,.slice none 0 0,.string ⟨#[]⟩,.string ⟨#[]⟩]
def zeroR{H:Type}:DataW H:=.agg [.lit (.string []),.agg [.nil,.nil,.nil,.nil,.nil],.nil,.nil,.lit (.string []),.nil,.nil,.lit (.string []),.lit (.string [])]
theorem tells_reads(u:Os){H:Type}(enc:TypeId × Value->H) :
  ∃h,DataW.whole enc prog ((wI u).forCall (λ_ _=>0) ⟨#[],#[zeroV,.string ⟨#[]⟩],[]⟩).memory Tryz.f4.params.toList (Rows.OpenSpec.upto Rows.checkTellsSpec).vars false #[zeroV,.string ⟨#[]⟩].toList 8 =
   some ([zeroR,.lit (.string [])],[],h) :=
 ⟨[],by kernel_rfl⟩
theorem tells_lifted(z:Os)(h:z.Started)(H:Type)(enc:TypeId × Value->H)(F:Stop.Interp) :
  ReturnsInHanded {} checked z 4 .any ((Rows.OpenSpec.upto Rows.checkTellsSpec).preRow enc prog Tryz.f4 Rows.checkTellsUptoRow.domain false Rows.checkTellsUptoRow.laid) (((Rows.OpenSpec.upto Rows.checkTellsSpec).at F).post enc prog Tryz.f4 false true false false):=by
 obtain⟨B,M⟩:=tells_reads z enc
 refine returnsInHanded_of_row (C:=checked) (s:=Rows.OpenSpec.upto Rows.checkTellsSpec) own h (by kernel_rfl) func4
  (witness_row_atRef (enc := enc) (C := checked) false (wI z) #[zeroV,.string ⟨#[]⟩] rfl (by kernel_rfl) (by kernel_rfl) (by kernel_rfl)
   (OpenSpec.preRow_of_cond 8 M (by kernel_rfl) (λk G=>by cases G;rfl) (by kernel_rfl) (aTX z _))) ?_
 intro W base args ds gs u y hW _ G _ hL _ _;exact tells_contract H enc W base args ds gs u y hW (G _ rfl) hL
theorem tells_said:Rows.CheckTellsUptoSaid :=
 OpenClaim.holds_of_cond 4 Tryz.f4 rfl rfl rfl rfl rfl rfl rfl ⟨rfl,rfl,rfl,rfl,rfl⟩ rfl rfl rfl rfl rfl tells_named func4 tells_closed
  (eN (by kernel_rfl)) (by unfold Func.isWrapper;rw[aE (of_decide_eq_false (by kernel_rfl))];exact⟨rfl,rfl⟩)
  (λu h H enc _ F=>by rw[OpenClaim.pre_eq_preRow];exact tells_lifted u h H enc F)
theorem tells_plain(f:FuncId)(fn:Func)(y:Tryz.pinned.checked.prog.funcNamed Rows.checkTellsUptoRow.func=some f)(h:Tryz.pinned.checked.prog.funcs[f]?=some fn) :
  true=Tryz.pinned.checked.prog.looks []/\∀(j:Nat) t,fn.params[j]?=some t->Tryz.pinned.checked.prog.wantsStandIn t=false:=by
 obtain rfl:f=4:=sW (tells_named.symm.trans y) |>.symm
 obtain rfl:fn=Tryz.f4:=(sW (func4.symm.trans h)).symm;refine⟨tells_looks,λj t u=>?_⟩;rw[params4]at u;obtain rfl|rfl:t=31\/t=9:=by simpa using Array.mem_of_getElem? u
 .exact(show prog.wantsStandIn 31=false by kernel_rfl)
 .exact(show prog.wantsStandIn 9=false by kernel_rfl)
theorem checkTellsUpto_holds:Rows.CheckTellsUptoCardSaid :=
 Claim7.holds_tied_plain_at .later [] _ _ _ _ tells_said (λ_ h=>by cases h) tells_wf (λ_ h=>by cases h) checkTellsUpto_row_tie rfl ⟨rfl,rfl⟩ tells_main rfl tells_plain tells_goes
#print axioms checkTellsUpto_holds
end Go.Proofs.YthaljojbclndaaaGreatDoor
end
