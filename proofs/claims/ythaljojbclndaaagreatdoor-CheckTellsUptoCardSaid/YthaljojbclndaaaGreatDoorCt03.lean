/-
  Of CheckTells.
-/
import Derived.Test.YthaljojbclndaaaGreatDoorCt02
import Derived.Recover
import Derived.Test.YthaljojbclndaaaGreatDoorProg
import Derived.KernelRfl
import Derived.Lib.Builder
set_option linter.all false
set_option maxRecDepth 99999
set_option maxHeartbeats 0
namespace Go.AV
open Go Go.Proofs Tryz
section
section
variable {C:Cx} {n:Nat} {ops:Array Oper} {K:Env->St->Prop} {Kp:St->A->Prop} {W:List (Nat × (St->Prop))} {s:St} {E:List (Nat × List Nat)}
theorem aMn{z:List Nat}{w:Nat × (St->Prop)}:∀{W:List (Nat × (St->Prop))},vZ z s W->w∈W->z.elem w.1=true->w.2 s
 | [],_,h,_=>by cases h
 | (m,p)::W,u,h,y=>by
  cases h with
  | head=>have:=u.1;rwa[aF y]at this
  | tail _ h=>exact aMn u.2 h y
theorem Dead.set{l:Array Bool}{m i:Nat}(h:Dead ops m l):Dead ops m (l.setIfInBounds i true):=by
 obtain⟨j,o,u,y,z,B⟩:=h;exact⟨j,o,u,y,getD_set_true z,B⟩
theorem aUF{i:Nat}:∀(f:Nat) (l:Array Bool) (e:Env) (s:St),fT C n ops K Kp W f l e s->fT C n ops K Kp ((i,λ_=>True)::W) f l e s:=by
 have B:∀(l:Array Bool) (s:St),chk ops W l s->chk ops ((i,λ_=>True)::W) l s:=by
  intro l s h w z y;cases z with
  | head=>trivial
  | tail _ z=>exact h w z y
 intro f
 induction f with
 | zero=>intro l e s h;exact⟨B _ _ h.1,h.2⟩
 | succ f G =>
  intro l e s h;refine⟨B _ _ h.1,h.2.1,λj H o M=>aAB (h.2.2 j H o M) λs' v u=>?_⟩;unfold cH at *;cases y:o.dst with
  | none=>rw[y]at u;exact G _ _ _ u
  | some d=>rw[y]at u;exact⟨u.1,G _ _ _ u.2⟩
theorem aS2{l:Array Bool}{i:Nat}(h:i∈Region.ready .any ops l):∃o,ops[i]?=some o:=by
 obtain⟨_,o,u,_⟩:=mem_ready.1 h;exact⟨o,u⟩
theorem aUi{g:Gh}{k:Nat}{es:List A}{x v:A}{z:Nat}{vo:Value}(h:Rz g (.list (some k) (es++[x])) vo)(hx:x.cells.length=z)(he:g.ends k es.length v):Rz g (.pen k es z) vo:=by
 obtain⟨a,cap,rfl,hm,O,U,hr⟩:=h.list_inv;rcases hr with h0|⟨b,off,sz,pre,rfl,hp,hl,S,h1,hh⟩
 .simp at h0
 obtain⟨Y,B,Z,k1,k2,k3,k4,k5,k6,k7,k8⟩:=he;have M:=U k rfl;have H:(es++[x]).length=es.length+1:=by simp
 rw[H]at M O hl⊢;rw[k1]at M;simp only[bM,qI,sX,mQ,eU]at M;obtain⟨⟨rfl,rfl⟩,rfl⟩:=M;have T:sz=z:=by rw[<-S x aV,hx]
 subst T
 refine .pen k es sz Y B (.list (some k) es Y 0 sz B pre hp ?_ aB hm (λy G=>S y (by simp[G])) (λy G=>h1 y (by simp[G])) (λi y j c u G O hu=>?_) (λt U=>by cases U;exact k2)) O
  (λy G=>S y (by simp[G]))
 .rw[fO]at hl;omega
 .have hi:i<es.length:=(cX.1 G).1;exact hh i y j c u (by rw[jT hi];exact G) O hu
theorem aD3(s:St)(k:Nat)(es:List A)(z:Nat):(iM s (.pen k es z)).cells=[iM s (.pen k es z)]/\(iM s (.pen k es z)).one=true:=by
 simp only[iM];cases s.ls with
 | none=>exact⟨rfl,rfl⟩
 | some q=>simp only[aBr];split<;>exact⟨rfl,rfl⟩
theorem aUf{k:Nat}{e:TypeId}{v:A}{b o z:Nat}{E:TypeId}{cs es:List A}(hv:v.cells.length=z) :
  Rle C (((s.setO b (.cells E (nU cs o (iM s (.pen k es z)).cells))).setT k (es.length+1,e)).setL (some (k,es.length,v)))
   (((s.setT k (es.length+1,e)).setL (some (k,es.length,v))).setO b (.cells E (nU cs o (iM ((s.setT k (es.length+1,e)).setL (some (k,es.length,v))) (.pen k es z)).cells))):=by
 intro F g w h;refine⟨λq x M=>?_,h.tok,h.sep,h.pis,h.frm,h.glb,h.fsh,h.bet,h.inj,h.dtm,h.lst,h.bfr,h.env⟩;rw[aX]at M;by_cases hq:b=q
 .subst hq;simp only[↓reduceIte,bM]at M;subst M
  have h2:(((s.setO b (.cells E (nU cs o (iM s (.pen k es z)).cells))).setT k (es.length+1,e)).setL (some (k,es.length,v))).getO b=some (.cells E (nU cs o (iM s (.pen k es z)).cells)):=by
   rw[yB,qY,aX];simp
  obtain⟨j,h3,h4,h5⟩:=h.obj b _ h2;refine⟨j,h3,?_,h5⟩;obtain⟨vs,rest,h6,U,h8⟩:=h4;have Z:nU cs o (iM s (.pen k es z)).cells=cs.set o (iM s (.pen k es z)):=by rw[(aD3 s k es z).1];rfl
  have O:nU cs o (iM ((s.setT k (es.length+1,e)).setL (some (k,es.length,v))) (.pen k es z)).cells=cs.set o (iM ((s.setT k (es.length+1,e)).setL (some (k,es.length,v))) (.pen k es z)):=by
   rw[(aD3 _ k es z).1];rfl
  rw[Z]at U h8;refine⟨vs,rest,h6,?_,?_⟩
  ·rw[O];refine ⟨gQ U.1,fun i c u y hu=>?_⟩;by_cases S:o=i
   .subst S;by_cases T:o<cs.length
    .rw[aBR,aF rfl,aF T]at y;cases y;have B:=U.2 o _ u (by rw[aBR,aF rfl,aF T]) hu;have G:g.ends k es.length v:=h.lst _ rfl
     have Y:Rz g (.pen k es z) u:=by
      simp only[iM]at B;cases hl:s.ls with
      | none=>rw[hl]at B;exact B
      | some q =>
       rw[hl]at B;simp only[aBr]at B;split at B
       .rename_i y;exact aUi B y.2.2 G
       .exact B
     exact aMW h Y
    .rw[yI (by simp;omega)]at y;cases y
   .rw[List.getElem?_set_ne S]at y;exact U.2 i c u (by rw[List.getElem?_set_ne S];exact y) hu
  .intro c y;rw[O]at y;obtain⟨i,S,rfl⟩:=iC y;have b0:i<cs.length:=gQ S;by_cases H:o=i
   .subst H;rw[List.getElem_set_self];exact(aD3 _ k es z).2
   .rw[List.getElem_set_ne H];exact h8 _ (bA (i:=i) (by rw[List.getElem?_set_ne H,cO b0]))
 .simp only[hq,↓reduceIte]at M;refine h.obj q x ?_;rw[yB,qY,aX,aE hq];rw[yB,qY]at M;exact M
theorem aRY{e:Env}{a b:Option Oper}(h:zH C e a b):∃t x y ty pos after O H M G B u k es z c o,
  a=some ⟨none,.store t x y,ty,pos,after,none⟩/\b=some ⟨none,.store O H M,G,B,u,none⟩ /\
  dN C e x=some (.rm k es.length z)/\dN C e H=some (.ptr c o)/\dN C e M=some (.pen k es z):=by
 unfold zH at h;split at h;rotate_left
 .exact h.elim
 rename_i t x y ty pos after O H M G B u;unfold aEM at h;split at h;rotate_left
 .exact h.elim
 rename_i a b c S T U;split at h;rotate_left
 .exact h.elim
 split at h;rotate_left
 .exact h.elim
 split at h;rotate_left
 .exact h.elim
 obtain⟨rfl,rfl,rfl⟩:=h;exact⟨t,x,y,ty,pos,after,O,H,M,G,B,u,_,_,_,_,_,rfl,rfl,S,T,U⟩
theorem aRA{l:Array Bool}(h:aHu ops l=true){m:Nat}{G:Oper}(B:ops[m]?=some G)(hl:tS G.op=true):Dead ops m l:=by
 simp only[aHu,cL,rW]at h;have z:=h m (fU.1 B).1;simp only[B,hl,eO,gJ,iW,rW,aY]at z;obtain⟨j,S,⟨u,H⟩,M⟩:=z;cases y:ops[j]? with
 | none=>simp[xG,y]at u
 | some o =>
  simp only[xG,y]at u;exact⟨j,o,y,u,H,aHZ ops.toList [] (λk=>by simp) (λk m O=>by simp at O) j m M⟩
theorem aVw(bk:∀e s s',Rle C s s'->K e s'->K e s){f:Nat}{l:Array Bool}{i j:Nat}{e:Env}(ht:oV ops (f+1) l (.pair i j)=true)(bv:DC ops l)(hc:chk ops W l s)
  (hW:∀w,w∈W->∃o,ops[w.1]?=some o/\tS o.op=true)
  (h:gA C n (ops.toList.map (·.dst)) ops.toList E K Kp (.pair i j) W e s):fT C n ops K Kp W (f+1) l e s:=by
 simp only[oV,aY,List.contains_iff_mem,cL,gB,beq_iff_eq,fV,aBP,mT,List.isEmpty_iff]at ht;obtain⟨⟨⟨⟨⟨⟨⟨⟨hi,hj⟩,hz⟩,b4⟩,bm⟩,bn⟩,b1⟩,b3⟩,hf⟩:=ht;obtain⟨f,rfl⟩:∃f',f=f'+1:=⟨f-1,by have:=eQ hf;omega⟩
 have B:∀(l':Array Bool) (s':St),(∀m,Dead ops m l->Dead ops m l')->chk ops W l' s':=λl' s' hl w hw bl=>by
  obtain⟨om,h1,h2⟩:=hW w hw;exact cG (hl _ (aRA b3 h1 h2)) bl
 have b5:Region.ready .any ops ((l.setIfInBounds j true).setIfInBounds i true)=[]:=by rw[Array.setIfInBounds_comm _ _ (λe=>b4 e.symm)];exact b1
 have b2:∀(l':Array Bool) (e:Env) (s:St),Region.ready .any ops l'=[]->(∀m,Dead ops m l->Dead ops m l')->K e s->fT C n ops K Kp W f l' e s:=by
  intro l' e s h1 h2 h3;cases f with
  | zero=>exact⟨B _ _ h2,h1,h3⟩
  | succ f=>exact⟨B _ _ h2,λ_=>h3,λm O=>by have:=aAz O;rw[h1]at this;cases this⟩
 simp only[gA,aHE,aBO]at h;obtain⟨hp,u⟩:=h;obtain⟨t,x,y,ty,pos,after,t',x',y',bw,br,bh,k,es,z,c,o,ho,b6,hx,Z,b0⟩:=aRY hp;rw[ho,b6]at u;simp only[kZ,iI,nA,aT,hx,Z,b0]at u;cases hy:dN C e y with
 | none=>rw[hy]at u;exact u.elim
 | some v =>
 cases U:C.tt t with
 | none=>rw[hy,U]at u;exact u.elim
 | some ti =>
 rw[hy,U]at u;simp only[rT]at u;cases Y:s.getT k with
 | none=>rw[Y]at u;exact u.elim
 | some me =>
 obtain⟨m,bg⟩:=me;rw[Y]at u;simp only at u;cases T:C.tt bg with
 | none=>rw[T]at u;exact u.elim
 | some te =>
 rw[T]at u;obtain⟨⟨rfl,bc,bd,b8,bf⟩,bt,u⟩:=u;simp only[cH,Z,b0]at u;cases M:C.tt t' with
 | none=>rw[M]at u;exact u.elim
 | some bq =>
 rw[M]at u;simp only[yB,qY]at u;cases hb:s.getO c with
 | none=>rw[hb]at u;exact u.elim
 | some ob =>
 cases ob with
 | iter _ _=>rw[hb]at u;exact u.elim
 | map _ _=>rw[hb]at u;exact u.elim
 | maps _ _ _ _=>rw[hb]at u;exact u.elim
 | mit _ _ _ _=>rw[hb]at u;exact u.elim
 | cells E0 cs =>
 rw[hb]at u;obtain⟨b9,_,hK⟩:=u;simp only[cH]at hK;have H:=λs':St=>aD3 s' k es z
 have bb:1=bq.sz/\o+1<=cs.length:=by
  obtain⟨q1,q2,_⟩:=b9;rw[(H _).1]at q1 q2;exact⟨q1,q2⟩
 have bj:=bk e _ _ (aUf (C:=C) (s:=s) (e:=bg) (b:=c) (o:=o) (E:=E0) (cs:=cs) b8) hK;refine⟨hc,λhr=>(by rw[hr]at hi;cases hi),λq hq oq S=>?_⟩;rcases hz q hq with rfl|rfl
 .rw[ho]at S;cases S;simp only[kJ,aT,hx,hy,U,rT,Y,T,cH];refine⟨⟨trivial,bc,bd,b8,bf⟩,B _ _ (λm O=>O.set),λhr=>?_,λq2 b7 bp G=>?_⟩
  .have:=ready_mono hj (λe=>b4 e.symm);rw[hr]at this;cases this
  .have:=bm q2 b7;subst this;rw[b6]at G;cases G;simp only[kJ,aT,Z,b0,M,yB,qY,hb,cH];exact⟨b9,b2 _ _ _ b1 (λm O=>O.set.set) hK⟩
 .rw[b6]at S;cases S;simp only[kJ,aT,Z,b0,M,hb,cH];refine⟨?_,B _ _ (λm O=>O.set),λhr=>?_,λq2 b7 bp G=>?_⟩
  .rw[(H s).1];refine⟨bb.1,bb.2,?_⟩;simp only[iF,eG,nF,(H s).2];rfl
  .have:=ready_mono hi b4;rw[hr]at this;cases this
  .have:=bn q2 b7;subst this;rw[ho]at G;cases G;simp only[kJ,aT,hx,hy,U,rT,St.getT_setO,Y,T,cH];exact⟨⟨trivial,bc,bd,b8,bf⟩,b2 _ _ _ b5 (λm O=>O.set.set) bj⟩
theorem aLq{t:OT}{e:Env}:gA C n (ops.toList.map (·.dst)) ops.toList E K Kp t W e s->∀x,x∈mE t ->
  kZ C n (ops.toList.map (·.dst)) E x.1 (gA C n (ops.toList.map (·.dst)) ops.toList E K Kp x.2) W Kp e s (ops[x.1]?):=by
 induction t with
 | nil=>intro _ x u;cases u
 | node i r _ =>
  intro h x u;simp only[mE,bS]at u;subst u;simp only[gA,aHE,aBO]at h;exact h
 | alt a b y z =>
  intro h x u;simp only[mE,bT]at u;rcases u with u|u
  .exact y h.1 x u
  .exact z h.2 x u
 | pair i j=>intro _ x u;cases u
theorem aNG(hE:okE ops E=true)(hK:∀e e' s,(∀t,e.get t=e'.get t)->K e s->K e' s)(b5:∀e s s',Rle C s s'->K e s'->K e s) :
  ∀(f:Nat) (l:Array Bool) (t:OT) (W:List (Nat × (St->Prop))) (e:Env) (s:St),oV ops f l t=true->DC ops l->chk ops W l s ->
   (∀w,w∈W->∃o,ops[w.1]?=some o/\tS o.op=true) ->
   gA C n (ops.toList.map (·.dst)) ops.toList E K Kp t W e s->fT C n ops K Kp W f l e s:=by
 intro f
 induction f with
 | zero =>
  intro l t W e s u B U hW h;cases t<;>simp only[oV]at u<;>try cases u
  exact⟨U,gQ u,h⟩
 | succ f ih =>
  intro l t W e s u B U hW h
  have b0:∀i r,i∈Region.ready .any ops l->xG ops i=true->oV ops f (l.setIfInBounds i true) r=true ->
    kZ C n (ops.toList.map (·.dst)) E i (gA C n (ops.toList.map (·.dst)) ops.toList E K Kp r) W Kp e s (ops[i]?) ->
    ∀o,ops[i]?=some o->kJ C (ops.toList.map (·.dst)) o (cH n o.dst (fT C n ops K Kp W f (l.setIfInBounds i true)) e) Kp e s:=by
   intro i r hr he hk hs o G;rw[G]at hs;simp only[xG,G]at he
   have b8:(l.setIfInBounds i true).getD i false=true:=by
    have:=(wR (mem_ready.1 hr).1).1;simp[this]
   have done:∀e' s' v,(∀t,e.get t=e'.get t)->chk ops W (l.setIfInBounds i true) s' ->
     cH n o.dst (gA C n (ops.toList.map (·.dst)) ops.toList E K Kp r W) e' s' v->cH n o.dst (fT C n ops K Kp W f (l.setIfInBounds i true)) e s' v:=by
    intro e' s' v y b1 z;unfold cH at *;cases Y:o.dst with
    | none=>rw[Y]at z;exact zB hK _ _ _ _ _ (λt=>(y t).symm) (ih _ r W e' s' hk (B.set hr) b1 hW z)
    | some d =>
     rw[Y]at z;refine⟨z.1,zB hK _ _ _ _ _ (λt=>?_) (ih _ r W _ s' hk (B.set hr) b1 hW z.2)⟩;rw[lX,lX];split<;>simp[y]
   refine aVK he hs (λe' s' v y b6 z=>done e' s' v y (λw H hl=>?_) z) (λe' y z=>done e' s _ y (λw H hl=>U w H λY=>hl Y.set) z);obtain⟨om,h1,h2⟩:=hW w H;rcases aWl hE G h1 he h2 with S|S
   .exact aMn b6 H S
   .exact cG ⟨i,o,G,he,b8,S⟩ hl
  cases t with
  | nil =>
   simp only[oV]at u;have b4:Region.ready .any ops l=[]:=gQ u;exact⟨U,λ_=>h,λi hi=>by have hi:=aAz hi;rw[b4]at hi;cases hi⟩
  | node i r =>
   simp only[oV]at u;have hs:=aLq h (i,r) (by simp[mE]);simp only at hs;split at u
   .rename_i M;simp only[aY,List.contains_iff_mem,cL,beq_iff_eq]at u;refine⟨U,λhr=>(by rw[hr]at u;cases u.1.1),λj hj o G=>?_⟩;have:=u.1.2 j hj;subst this;exact b0 _ r (aAz hj) M u.2 hs o G
   .rename_i M;simp only[aY,List.contains_iff_mem]at u;obtain⟨o,G⟩:=aS2 u.1.1;have O:iI o.op=false:=by simpa [xG,G]using M
    rw[G]at hs;obtain⟨v,po,e',y,h1,h2,S⟩:=aUu O hs
    have next:cH n o.dst (fT C n ops K Kp ((i,λs=>∀p,po=some p->p s)::W) f (l.setIfInBounds i true)) e s v:=by
     have b3:chk ops W (l.setIfInBounds i true) s:=λw H hl=>U w H λY=>hl Y.set
     have fin:∀T s1,chk ops W (l.setIfInBounds i true) s1->(∀p,po=some p->p s1) ->
       (match po with|none=>gA C n (ops.toList.map (·.dst)) ops.toList E K Kp r W T s1|some p=>gA C n (ops.toList.map (·.dst)) ops.toList E K Kp r ((i,p)::W) T s1) ->
       fT C n ops K Kp ((i,λs=>∀p,po=some p->p s)::W) f (l.setIfInBounds i true) T s1:=by
      intro T s1 b2 z hx;cases Z:po with
      | none =>
       rw[Z]at hx;have:=aUF (i:=i) _ _ _ _ (ih _ r W T s1 u.2 (B.set u.1.1) b2 hW hx);have T:(λs:St=>∀p:St->Prop,(none:Option (St->Prop))=some p->p s)=λ_=>True:=by funext s;simp
       rw[T];exact this
      | some p =>
       rw[Z]at hx;have T:(λs:St=>∀q:St->Prop,some p=some q->q s)=p:=by funext s;simp
       rw[T];refine ih _ r _ _ s1 u.2 (B.set u.1.1) ?_ ?_ hx
       .intro w H hl;cases H with
        | head=>exact z p Z
        | tail _ H=>exact b2 w H hl
       .intro w H;cases H with
        | head=>exact⟨o,G,(h1 p Z).1⟩
        | tail _ H=>exact hW w H
     unfold wB at S;unfold cH at *;cases Y:o.dst with
     | none =>
      rw[Y]at S;refine zB hK _ _ e' _ _ (λt=>(y t).symm) (fin e' s b3 (λp z=>(h1 p z).2) ?_);cases po<;>exact S
     | some d =>
      rw[Y]at S;have b7:d<n:=by cases po<;>exact S.1
      refine⟨b7,zB hK _ _ (e'.put d v) _ _ (λt=>?_) (fin _ s b3 (λp z=>(h1 p z).2) ?_)⟩
      .rw[lX,lX];split<;>simp[y]
      .cases po<;>exact S.2
    exact aUE G O hK v (λs=>∀p,po=some p->p s) f l e s B (Region.free_spec G u.1.2) u.1.1 (λs' KV z hk=>h2 s' KV z hk) (λp z=>(h1 p z).2) U next
  | alt a b =>
   simp only[oV,aY,cL,iW,beq_iff_eq,fV]at u;obtain⟨⟨h0,h1⟩,h2⟩:=u;refine⟨U,λhr=>(by rw[hr]at h0;cases h0),λj hj o G=>?_⟩;obtain⟨x,hx,rfl⟩:=h1 j hj;exact b0 x.1 x.2 (aAz hj) (h2 x hx).1 (h2 x hx).2 (aLq h x hx) o G
  | pair i j=>exact aVw b5 u B U hW h
theorem aUw{op:Op}{ρ:Operand->Option A}{z u:A->Option (St->Prop)->Prop}(h:qZ C op ρ s z)(y:∀v G,z v G->u v G):qZ C op ρ s u:=by
 cases op
 case load t x =>
  simp only[qZ]at h⊢;cases B:ρ x with
  | none=>rw[B]at h;exact pB (C:=C) (ρ:=ρ) (op:=.load t x) (K:=uG z) (K':=uG u) h λv=>y v none
  | some a =>
   rw[B]at h;cases a
   case ptr b o =>
    simp only[tkX]at h⊢;cases hl:sL C t b o s with
    | none=>rw[hl]at h;exact h.elim
    | some v=>rw[hl]at h;exact y _ _ h
   all_goals exact pB (C:=C) (ρ:=ρ) (op:=.load t x) (K:=uG z) (K':=uG u) h λv=>y v none
 case lookup t x k ok =>
  simp only[qZ]at h⊢;unfold lkX at h⊢;split at h
  .unfold lkL at h⊢;split at h
   .exact y _ _ h
   .exact h.elim
  .exact h.elim
 all_goals (simp only[qZ]at h⊢;exact pB h λv=>y v none)
theorem aHn{next u:List (Nat × (St->Prop))->Env->St->Prop}{i:Nat}{e:Env}{ds:List (Option Tmp)}(M:∀W e s,next W e s->u W e s){B:Option Oper}
  (h:kZ C n ds E i next W Kp e s B):kZ C n ds E i u W Kp e s B:=by
 have put:∀{dst:Option Tmp} {W:List (Nat × (St->Prop))} {e:Env} {s:St} {v:A},cH n dst (next W) e s v->cH n dst (u W) e s v:=by
  intro dst W e s v h;unfold cH at *;cases dst with
  | none=>exact M _ _ _ h
  | some d=>exact⟨h.1,M _ _ _ h.2⟩
 cases B with
 | none=>exact h
 | some o =>
  obtain⟨dst,op,ty,pos,after,gd⟩:=o
  have z:∀e,nA C n E i dst op next W Kp e s (iI op)->nA C n E i dst op u W Kp e s (iI op):=by
   intro e h;cases G:iI op with
   | true=>rw[G]at h;exact aDW h (λs' v y=>⟨y.1,put y.2⟩) λ_ _ h=>h
   | false =>
    rw[G]at h;refine aUw h λv T y=>?_
    cases T<;>exact put y
  cases gd with
  | none=>exact z e h
  | some S =>
   obtain⟨j,want⟩:=S;simp only[kZ]at h⊢;cases O:kI ds j with
   | none=>rw[O]at h;exact h.elim
   | some t =>
    rw[O]at h;simp only[gdY]at h⊢;cases H:e.get t with
    | none=>rw[H]at h;exact h.elim
    | some a =>
     rw[H]at h;cases a<;>simp only[pZ]at h⊢
     case bool b =>
      cases b<;>cases want<;>simp only at h⊢
      .exact z _ h
      .exact put h
      .exact put h
      .exact z _ h
     case tuple l=>exact put h
theorem aCi{K':Env->St->Prop}{ds:List (Option Tmp)}{y:List Oper}(u:∀e s,K e s->K' e s):∀(t:OT) (W:List (Nat × (St->Prop))) (e:Env) (s:St),
  gA C n ds y E K Kp t W e s->gA C n ds y E K' Kp t W e s
 | .nil,W,e,s,h=>u e s h
 | .node i r,W,e,s,h=>by
  simp only[gA]at h⊢;exact aHn (λW e s=>aCi u r W e s) h
 | .alt a b,W,e,s,h=>⟨aCi u a W e s h.1,aCi u b W e s h.2⟩
 | .pair i j,W,e,s,h=>⟨h.1,aHn (λW e s h=>aHn (λW e s h=>u e s h) h) h.2⟩
theorem aM6(n:Nat):uH (Array.replicate n false)<=n:=by simp[uH]
theorem aK2{tt:TypeId->Option TI}(h:vE tt ops=true):∀i t o,ops[i]?=some o->late ops i=true->o.op=.alloc t->(tt t).isSome=true:=by
 intro i t o y hl z;simp only[vE,cL,rW]at h;have u:=h i (fU.1 y).1;simp only[hl,y,z,eO,gJ]at u;exact u
theorem aUV{id:Nat}{V:List Nat}{y:XK->Env->St->Prop}{e:Env}(t:OT)(E:List (Nat × List Nat))
  (hm:C.P.follows .mixedOrders=true)
  (z:(okE ops E&&oV ops ops.size (Array.replicate ops.size false) t&&vE C.tt ops)=true)
  (h:gA C n (ops.toList.map (·.dst)) ops.toList E (mX V y) (vT y (ops.toList.map (·.dst)) e) t [] e s):aEF C n id ops (kL (mX V y) y) e s:=by
 simp only[aY]at z
 have B:∀(e e':Env) (s:St),(∀t,e.get t=e'.get t)->(∃u s2,e.ge u/\Rle C s s2/\mX V y u s2)->∃u s2,e'.ge u/\Rle C s s2/\mX V y u s2 :=
  λe e' s M ⟨u,s2,O,S⟩=>⟨u,s2,λt a ha=>by rw[<-M t];exact O t a ha,S⟩
 have H:∀(e:Env) (s s':St),Rle C s s'->(∃u s2,e.ge u/\Rle C s' s2/\mX V y u s2)->∃u s2,e.ge u/\Rle C s s2/\mX V y u s2 :=
  λe s s' hr ⟨u,s2,O,S,h3⟩=>⟨u,s2,O,λF g w T=>S F g w (hr F g w T),h3⟩
 have mono:∀(t:OT) (W:List (Nat × (St->Prop))) (e':Env) (s:St),gA C n (ops.toList.map (·.dst)) ops.toList E (mX V y) (vT y (ops.toList.map (·.dst)) e) t W e' s ->
   gA C n (ops.toList.map (·.dst)) ops.toList E (λe s=>∃u s2,e.ge u/\Rle C s s2/\mX V y u s2) (vT y (ops.toList.map (·.dst)) e) t W e' s:=by
  exactλt W e s h=>aCi (λe s G=>⟨e,s,Env.ge.refl e,Rle.refl s,G⟩) t W e s h
 intro F g w a T M;refine wp_region_any hm ?_
 have U:DC ops (Array.replicate ops.size false):=by
  intro j o ho hl;exfalso;by_cases Z:j<ops.size
  .simp[Z]at hl
  .simp[Z]at hl
 have hA:=aNG z.1.1 B H ops.size _ t [] e s z.1.2 U (λw Y=>by cases Y) (λw Y=>by cases Y) (mono t [] e s h);refine aNE (aHj e) (Q:=kL (mX V y) y) (λe s G=>G) (λs v G=>G) (aK2 z.2) _ _ g e s a _ (aM6 _) (dQ g) ?_ M (aH0 M) rfl hA;exact T.heap rfl
end
section
variable (C:Cx) (n:Nat) (ds:List (Option Tmp)) (ops:List Oper) (E:List (Nat × List Nat)) (K:Env->St->Prop) (Kp:St->A->Prop) (W:List (Nat × (St->Prop))) (e:Env) (s:St)
 (next:List (Nat × (St->Prop))->Env->St->Prop)(KK:A->Option (St->Prop)->Prop)
@[go_sem] theorem aY1(t:OT):OT.l [] t=t:=rfl
@[go_sem] theorem aYw(i:Nat)(r:List Nat)(t:OT):OT.l (i::r) t=.node i (OT.l r t):=rfl
@[go_sem] theorem aZj:gA C n ds ops E K Kp .nil W e s=K e s:=rfl
@[go_sem] theorem aYZ(i:Nat)(r:OT):gA C n ds ops E K Kp (.node i r) W e s=kZ C n ds E i (gA C n ds ops E K Kp r) W Kp e s (jQ ops i):=rfl
@[go_sem] theorem aZi(a b:OT):gA C n ds ops E K Kp (.alt a b) W e s=(gA C n ds ops E K Kp a W e s/\gA C n ds ops E K Kp b W e s):=rfl
@[go_sem] theorem aY0(i j:Nat):gA C n ds ops E K Kp (.pair i j) W e s=(zH C e (jQ ops i) (jQ ops j)/\kZ C n ds E i (λW e s=>kZ C n ds E j (λ_=>K) W Kp e s (jQ ops j)) W Kp e s (jQ ops i)):=rfl
@[go_sem] theorem aYk(o:Oper)(r:List Oper):jQ (o::r) 0=some o:=rfl
@[go_sem] theorem aYj(o:Oper)(r:List Oper)(i:Nat):jQ (o::r) (i+1)=jQ r i:=rfl
@[go_sem] theorem aYN (i:Nat) (dst:Option Tmp) (op:Op) (ty:TypeId) (pos:String) (after:Array Edge) :
  kZ C n ds E i next W Kp e s (some ⟨dst,op,ty,pos,after,none⟩)=nA C n E i dst op next W Kp e s (iI op):=rfl
@[go_sem] theorem aYs (i:Nat) (dst:Option Tmp) (op:Op) (ty:TypeId) (pos:String) (after:Array Edge) (j:Nat) (want:Bool) :
  kZ C n ds E i next W Kp e s (some ⟨dst,op,ty,pos,after,some (j,want)⟩)=gdY C n E i dst op next W Kp e s want (kI ds j):=rfl
@[go_sem] theorem aYG(i:Nat)(dst:Option Tmp)(op:Op)(want:Bool)(t:Nat):gdY C n E i dst op next W Kp e s want (some t)=pZ C n E i dst op next W Kp e s t want (e.get t):=rfl
@[go_sem] theorem aZK(i:Nat)(dst:Option Tmp)(op:Op)(t:Nat):pZ C n E i dst op next W Kp e s t true (some (.bool true))=nA C n E i dst op next W Kp (e.put t (.bool true)) s (iI op):=rfl
@[go_sem] theorem aZJ(i:Nat)(dst:Option Tmp)(op:Op)(t:Nat):pZ C n E i dst op next W Kp e s t true (some (.bool false))=cH n dst (next W) (e.put t (.bool false)) s (.tuple []):=rfl
@[go_sem] theorem aZI(i:Nat)(dst:Option Tmp)(op:Op)(t:Nat):pZ C n E i dst op next W Kp e s t false (some (.bool true))=cH n dst (next W) (e.put t (.bool true)) s (.tuple []):=rfl
@[go_sem] theorem aZH(i:Nat)(dst:Option Tmp)(op:Op)(t:Nat):pZ C n E i dst op next W Kp e s t false (some (.bool false))=nA C n E i dst op next W Kp (e.put t (.bool false)) s (iI op):=rfl
@[go_sem] theorem aZ3(i:Nat)(dst:Option Tmp)(op:Op)(t:Nat)(want:Bool)(l:List A):pZ C n E i dst op next W Kp e s t want (some (.tuple l))=cH n dst (next W) e s (.tuple []):=by
 cases want<;>rfl
@[go_sem] theorem aYE(i:Nat)(dst:Option Tmp)(op:Op):nA C n E i dst op next W Kp e s true=aT C op (dN C e) (aCZ n dst (oH E i) next W e) Kp s:=rfl
@[go_sem] theorem aYd(i:Nat)(dst:Option Tmp)(op:Op):nA C n E i dst op next W Kp e s false=qZ C op (dN C e) s (wB n dst i next W e s):=rfl
@[go_sem] theorem aY9(dst:Option Tmp)(h:List Nat)(v:A):aCZ n dst h next W e s v=(vZ h s W/\cH n dst (next W) e s v):=rfl
@[go_sem] theorem aYO(dst:Option Tmp)(i:Nat)(v:A):wB n dst i next W e s v none=cH n dst (next W) e s v:=rfl
@[go_sem] theorem aYP(dst:Option Tmp)(i:Nat)(v:A)(p:St->Prop):wB n dst i next W e s v (some p)=cH n dst (next ((i,p)::W)) e s v:=rfl
@[go_sem] theorem aZN(v:A):uG KK v=KK v none:=rfl
@[go_sem] theorem aYQ(t:TypeId)(b o:Nat)(v:A):tkL C t b o KK (some v)=KK v (some (aEx C t b o v)):=rfl
@[go_sem] theorem aZe(t:TypeId)(op:Op)(ρ:Operand->Option A)(b o:Nat):tkX C t op ρ s KK (some (.ptr b o))=tkL C t b o KK (sL C t b o s):=rfl
@[go_sem] theorem aYR(t:TypeId)(op:Op)(ρ:Operand->Option A)(cs:List A)(o:Nat):tkX C t op ρ s KK (some (.eptr cs o))=bH C op ρ (uG KK):=rfl
@[go_sem] theorem aYi(t:TypeId)(b o:Nat)(v:A):aEx C t b o v s=(sL C t b o s=some v):=rfl
@[go_sem] theorem aY3(h:List Nat):vZ h s []=True:=rfl
@[go_sem] theorem aYA(h:List Nat)(m:Nat)(p:St->Prop):vZ h s ((m,p)::W)=((if h.elem m=true then p s else True)/\vZ h s W):=rfl
end
attribute [go_sem] lkX lkL aNs aE5 zW aBp zM mkA zA lkV aEA aEJ aEZ aEY aE2
@[go_sem] theorem aZP:Nat.beq 0 2=false:=rfl
@[go_sem] theorem aZQ:Nat.beq 1 2=false:=rfl
@[go_sem] theorem aZR:Nat.beq 2 2=true:=rfl
@[go_sem] theorem aZS:Nat.beq 3 2=false:=rfl
@[go_sem] theorem aZT:Nat.beq 4 2=false:=rfl
@[go_sem] theorem aZU:Nat.beq 5 2=false:=rfl
@[go_sem] theorem aZV:Nat.beq 6 2=false:=rfl
@[go_sem] theorem aZW:Nat.beq 7 2=false:=rfl
@[go_sem] theorem aZX:Nat.beq 8 2=false:=rfl
@[go_sem] theorem aZY:Nat.beq 9 2=false:=rfl
@[go_sem] theorem aZk:Nat.beq 10 2=false:=rfl
@[go_sem] theorem aZl:Nat.beq 11 2=false:=rfl
@[go_sem] theorem aZm:Nat.beq 12 2=false:=rfl
attribute [go_sem] zH aEM aNT aNR iI oH sL qZ aCQ aEB aMH
end
section
def A.le(a b:A):Prop:=∀g v,Rz g a v->Rz g b v
theorem cN(a:A):a.le a:=λ_ _ h=>h
theorem A.le.trans{a b c:A}(h:a.le b)(u:b.le c):a.le c:=λg v x=>u g v (h g v x)
theorem A.le.nils(tk:Option Nat)(h:tk=none):A.le .nils (.list tk []):=λg v x=>by
 subst h;cases x;exact .list0 none none 0 (aN _) aV
theorem A.le.nil:A.le .nils (.list none []):=A.le.nils none rfl
theorem A.le.forget(tk:Option Nat)(es:List A):A.le (.list tk es) (.list none es):=λg v x=>x.forget
def zV:List A->List A->Prop
 | [],[]=>True
 | a::r,b::l=>(a.le b/\b.one=true)/\zV r l
 | _,_=>False
theorem aHb:∀{l r:List A},zV l r->l.length=r.length
 | [],[],_=>rfl
 | _::_,_::_,h=>by simp[aHb h.2]
 | [],_::_,h=>h.elim
 | _::_,[],h=>h.elim
theorem aCd:∀{l r:List A},zV l r->∀(j:Nat) (b:A),r[j]?=some b->∃a,l[j]?=some a/\a.le b/\b.one=true
 | [],[],_,j,b,y=>by simp at y
 | a::r,b::l,h,j,c,u=>by
  cases j with
  | zero=>simp at u;subst u;exact⟨a,by simp,h.1⟩
  | succ j=>obtain⟨x,z⟩:=aCd h.2 j c (gQ u);exact⟨x,gQ z⟩
 | [],_::_,h,_,_,_=>h.elim
 | _::_,[],h,_,_,_=>h.elim
theorem A.le.agg{l r:List A}(h:zV l r):A.le (.agg l) (.agg r):=λg v x=>by
 obtain⟨vs,rfl,y,G⟩:=x.agg_inv;refine .agg r vs (by rw[y.1,aHb h]) (λc B=>?_) λj c u B O=>?_
 .obtain⟨j,M,rfl⟩:=iC B;obtain⟨a,_,_,z⟩:=aCd h j r[j] (cO M);exact z
 .obtain⟨a,H,z,_⟩:=aCd h j c B;exact z g u (y.2 j a u H O)
def aC1:List A->List A->Prop
 | [],[]=>True
 | a::r,b::l=>a.le b/\aC1 r l
 | _,_=>False
theorem aHe:∀{l r:List A},aC1 l r->l.length=r.length
 | [],[],_=>rfl
 | _::_,_::_,h=>by simp[aHe h.2]
 | [],_::_,h=>h.elim
 | _::_,[],h=>h.elim
theorem aHd:∀{l r:List A},aC1 l r->∀(j:Nat) (b:A),r[j]?=some b->∃a,l[j]?=some a/\a.le b
 | [],[],_,j,b,y=>by simp at y
 | a::r,b::l,h,j,c,u=>by
  cases j with
  | zero=>simp at u;subst u;exact⟨a,by simp,h.1⟩
  | succ j=>obtain⟨x,z⟩:=aHd h.2 j c (gQ u);exact⟨x,gQ z⟩
 | [],_::_,h,_,_,_=>h.elim
 | _::_,[],h,_,_,_=>h.elim
theorem A.le.tuple{l r:List A}(h:aC1 l r):A.le (.tuple l) (.tuple r):=λg v x=>by
 obtain⟨vs,rfl,y⟩:=x.tuple_inv;refine .tuple r vs (by rw[y.1,aHe h]) λj c u G H=>?_
 obtain⟨a,B,z⟩:=aHd h j c G;exact z g u (y.2 j a u B H)
def DK(KV:St->A->Prop)(s:St)(a:A):Prop:=∃s2 h,s.ge s2/\a.le h/\KV s2 h
theorem DK.mk{KV:St->A->Prop}{s s2:St}{a u:A}(h:KV s2 u)(z:s.ge s2)(y:a.le u):DK KV s a:=⟨s2,u,z,y,h⟩
theorem DK.here{KV:St->A->Prop}{s:St}{a:A}(h:KV s a):DK KV s a:=⟨s,a,aC s,cN a,h⟩
theorem aD{KV:St->A->Prop}{s s2:St}{a:A}(h:KV s2 a)(u:s.ge s2):DK KV s a:=⟨s2,a,u,cN a,h⟩
section
variable {C:Cx} {s:St} {f:FuncId} {args:List A} {KV Kp:St->A->Prop}
theorem Den.drop(h:Den C f args (DK KV) (DK Kp) s)(hd:C.det=false:=by rfl):Den C f args KV Kp s:=by
 have u:∀{a b:Nat},C.toCtx.det=true->a<=b:=λh=>by rw[show C.toCtx.det=false from hd]at h;cases h
 intro F g w vals Z hv;have:=h F g w vals Z hv;revert this;generalize (callFunc f vals.toArray).run C.P w=r;intro O;cases r with
 | ok x w' =>
  cases x<;>simp only[OutV]at O⊢
  .obtain⟨y,a,s',z,B,a3,s2,b,G,H,M⟩:=O;exact⟨y,b,s2,z,B.weaken G u,H _ _ a3,M⟩
  .obtain⟨y,s',z,B,s2,b,G,H,M⟩:=O;have U:=H y _ (.tuple [] [] rfl aV)
   have hl:b=.tuple []:=by
    generalize S:(Value.tuple ([]:List Value).toArray)=v at U;cases U<;>first|(cases S;done)|skip
    rename_i cs vs hl _;have Y:vs=[]:=gQ S.symm;subst Y;rw[eK hl.symm]
   subst hl;exact⟨y,s2,z,B.weaken G u,M⟩
  .refine Calls.mono O λen b0 T=>?_
   cases en with
   | returned v=>obtain⟨y,a,s',z,B,a3,s2,b,G,H,M⟩:=T;exact⟨y,b,s2,z,B.weaken G u,H _ _ a3,M⟩
   | panicked mE=>obtain⟨y,a,v,s',a0,z,B,a3,s2,b,G,H,M⟩:=T;exact⟨y,b,v,s2,a0,z,B.weaken G u,H _ _ a3,M⟩
   | outgrown=>exact T
 | halt x w' =>
  cases x<;>simp only[OutV]at O⊢
  obtain⟨y,a,s',z,B,a3,s2,b,G,H,M⟩:=O;exact⟨y,b,s2,z,B.weaken G u,H _ _ a3,M⟩
def gO:List A->List A->Prop:=aC1
theorem gL{az:List A}(hl:gO args az)(h:Den C f az KV Kp s):Den C f args KV Kp s:=λF g w vals B y =>
 h F g w vals B ⟨by rw[y.1,aHe hl],λj c v H u=>by
  obtain⟨a,G,z⟩:=aHd hl j c H;exact z g v (y.2 j a v G u)⟩
end
@[go_sem] theorem gD6 (s:St) (b c:Nat) (o:Ob):((s.setO b o).getO c=none)=((b≠c∧c≠b)∧s.getO c=none):=by
 rw[aX];by_cases h:b=c
 .subst h;simp
 .have u:¬ c=b:=λe=>h e.symm
  simp[h,u]
theorem aM{s:St}{b c:Nat}{o:Ob}(h:s.getO b=some o)(u:s.getO c=none):b≠c/\c≠b:=by
 constructor
 .rintro rfl;rw[h]at u;cases u
 .rintro rfl;rw[h]at u;cases u
attribute [go_sem] aX qY St.getT_setO fE
def aS:=@DK.here
end
section
def eqT(B:List TypeId)(S:List (TypeId × List Nat))(N M:List TypeId)(t:TypeId):A->A->Option Bool
 | .nils,.nils=>if N.elem t then some true else none
 | .list _ (_::_),.nils=>if N.elem t then some false else none
 | .ml _ _ _,.nils=>if N.elem t then some false else none
 | .emp,.nils=>if N.elem t then some false else none
 | .nilp,.nilp=>if M.elem t then some true else none
 | .ptr _ _,.nilp=>if M.elem t then some false else none
 | .ptr a o,.ptr b p=>if M.elem t&&Nat.beq a b&&Nat.beq o p then some true else none
 | .bool a,.bool b=>if B.elem t then some (a == b) else none
 | .agg az,.agg bs=>match S.lookup t with
  | some ks=>yW ks az bs
  | none=>none
 | _,_=>none
def aIx(P:Program)(t:TypeId):Bool:=match P.underlying t with
 | some (.slice _)=>true
 | _=>false
def aIu(P:Program)(t:TypeId):Bool:=match P.underlying t with
 | some (.pointer e)=>(match P.info? e with
  | some i=>i.size != 0
  | none=>false)
 | _=>false
def aE0(P:Program)(B:List TypeId)(S:List (TypeId × List Nat))(N M:List TypeId):Bool :=
 (B.all (λt=>sC P t 1)&&S.all λx=>aCO P x.1 x.2)&&(N.all (aIx P)&&M.all (aIu P))
section
variable {P:Program} {w:World} {t:TypeId}
theorem aCH(h:aIx P t=true)(a:Option Addr)(l c:Nat){op:BinOp}(u:op=.eql\/op=.neq)(x y:Operand) :
  (eqGuard op t x y (.slice a l c) (.slice none 0 0)).run P w=.ok () w/\(binOp op t (.slice a l c) (.slice none 0 0)).run P w=.ok (.bool (if op=.eql then a.isNone else !a.isNone)) w:=by
 unfold aIx at h;split at h
 .rename_i e z;refine⟨by rcases u with rfl|rfl<;>rfl,?_⟩;rcases u with rfl|rfl
  .simp only[binOp,bG,run_equal_slice_nil w t e a l c z,bJ,bV,dJ]
  .rw[run_neq_slice_nil w t e a l c z];simp
 .cases h
theorem aHX(h:aIu P t=true)(a:Option Addr)(b:Option Addr)(r:Bool)
  (M:(a=none/\r=b.isNone)\/(b=none/\r=a.isNone)\/(∃k,a=some k/\b=some k/\r=true)){op:BinOp}(z:op=.eql\/op=.neq)(x y:Operand) :
  (eqGuard op t x y (.pointer a) (.pointer b)).run P w=.ok () w/\(binOp op t (.pointer a) (.pointer b)).run P w=.ok (.bool (if op=.eql then r else !r)) w:=by
 unfold aIu at h;split at h
 .rename_i e B;split at h
  .rename_i i G;have H:i.size≠0:=gQ h
   have u:∀d:Nat,(Op.equalIn (d+1) t (.pointer a) (.pointer b)).run P w=.ok r w:=by
    intro d;rcases M with⟨rfl,rfl⟩|⟨rfl,rfl⟩|⟨k,rfl,rfl,rfl⟩
    .simp[Op.equalIn,cS B]
    .cases a<;>simp[Op.equalIn,cS B]
    .simp[Op.equalIn,cS B,sizeOf,typeInfo,G,H,run_sameAddr_same]
   have heq:(Op.equal t (.pointer a) (.pointer b)).run P w=.ok r w:=u 9999;refine⟨by rcases z with rfl|rfl<;>rfl,?_⟩;rcases z with rfl|rfl
   .simp only[binOp,bG,heq,bJ,bV,dJ]
   .simp only[binOp,bG,heq,bJ,bV,reduceCtorEq,dY]
  .cases h
 .cases h
end
theorem aRQ{S:List (TypeId × List Nat)}{t:TypeId}{ks:List Nat}(h:S.lookup t=some ks):(t,ks)∈S:=by
 induction S with
 | nil=>simp at h
 | cons x S z =>
  obtain⟨u,l⟩:=x;simp only[List.lookup]at h;split at h
  .rename_i y;have:t=u:=gQ y;cases h;subst this;simp
  .exact cZ _ (z h)
theorem aWa{P:Program}{B:List TypeId}{S:List (TypeId × List Nat)}{N M:List TypeId}(G:aE0 P B S N M=true)(t:TypeId)(a b:A)(r:Bool)(h:eqT B S N M t a b=some r)
  (g:Gh)(va vb:Value)(w:World)(op:BinOp)(x y:Operand)(u:op=.eql\/op=.neq)(O:Rz g a va)(T:Rz g b vb) :
  (eqGuard op t x y va vb).run P w=.ok () w/\(binOp op t va vb).run P w=.ok (.bool (if op=.eql then r else !r)) w:=by
 simp only[aE0,aY,cL]at G;obtain⟨G,hN,hM⟩:=G;unfold eqT at h;split at h
 .split at h
  .rename_i z;cases h;rw[O.nils_inv,T.nils_inv];exact aCH (hN t (gQ z)) none 0 0 u x y
  .cases h
 .split at h
  .rename_i z;cases h;obtain⟨ad,cap,H,_,_,_,hh⟩:=O.list_inv;rcases hh with hh|⟨bk,off,sz,pre,rfl,_⟩
   .cases hh
   rw[H,T.nils_inv];exact aCH (hN t (gQ z)) (some ⟨bk,off,none⟩) _ _ u x y
  .cases h
 .split at h
  .rename_i z;cases h;obtain⟨k,cap,H,_⟩:=O.ml_inv;rw[H,T.nils_inv];exact aCH (hN t (gQ z)) (some _) _ _ u x y
  .cases h
 .split at h
  .rename_i z;cases h;obtain⟨k,H⟩:=O.emp_inv;rw[H,T.nils_inv];exact aCH (hN t (gQ z)) (some _) _ _ u x y
  .cases h
 .split at h
  .rename_i z;cases h;rw[O.nilp_inv,T.nilp_inv];exact aHX (hM t (gQ z)) none none true (.inl ⟨rfl,rfl⟩) u x y
  .cases h
 .split at h
  .rename_i z;cases h;obtain⟨k,H,_⟩:=O.ptr_inv;rw[H,T.nilp_inv];exact aHX (hM t (gQ z)) (some _) none false (.inr (.inl ⟨rfl,rfl⟩)) u x y
  .cases h
 .split at h
  .rename_i a' o' b' p' z;simp only[aY]at z;cases h;have e1:=cQ z.1.2;have e2:=cQ z.2;subst e1 e2;obtain⟨k,H,hk⟩:=O.ptr_inv;obtain⟨k2,b1,Y⟩:=T.ptr_inv;rw[hk]at Y;cases Y;rw[H,b1];exact aHX (hM t (gQ z.1.1)) (some _) (some _) true (.inr (.inr ⟨_,rfl,rfl,rfl⟩)) u x y
  .cases h
 .split at h
  .rename_i hb;simp only[bM]at h;subst h;have hk:=G.1 t (gQ hb)
   have hu:P.underlying t=some .bool:=by
    unfold sC at hk;split at hk<;>simp_all
   rw[O.bool_inv,T.bool_inv];refine⟨by rcases u with rfl|rfl<;>rfl,?_⟩;rcases u with rfl|rfl
   .simp only[binOp,bG,run_equal_bool w t _ _ hu,bJ,bV,dJ]
   .simp only[binOp,bG,run_equal_bool w t _ _ hu,bJ,bV,reduceCtorEq,dY]
  .simp at h
 .split at h
  .rename_i ks b0;have hf:=G.2 _ (aRQ b0);simp only[aCO,aY,fV]at hf;obtain⟨⟨h1,h2⟩,h3⟩:=hf;split at h3
   .rename_i fs hu;obtain⟨vs,rfl,b3,_⟩:=O.agg_inv;obtain⟨us,rfl,b2,_⟩:=T.agg_inv;have U:P.fieldsOf t=fs:=by simp[Program.fieldsOf,hu]
    have Z:=aGr (P:=P) (g:=g) (w:=w) (d:=9998) (i:=0) (xs:=vs.toArray) (ys:=us.toArray) h3 h (gQ b3) (gQ b2)
    have heq:(Op.equalIn 10000 t (.agg vs.toArray) (.agg us.toArray)).run P w=.ok r w:=by
     rw[show 10000=9999+1 from rfl,run_equalIn_struct w 9999 t _ _ (by rw[U];exact hu) h1,U];exact Z
    refine⟨run_eqGuard_agg w op t x y _ _ h2,?_⟩;rcases u with rfl|rfl
    .rw[run_eql_struct,heq];rfl
    .rw[run_neq_struct,heq];rfl
   .simp at h3
  .simp at h
 .simp at h
attribute [go_sem] eqT yW eqK
end
end Go.AV
section
open Go.Proofs.Tryz
namespace Go.AV
open Go
section
variable {C:Cx} {n:Nat} {ds:List (Option Tmp)} {dst:Option Tmp} {op:Op} {r:List Oper} {K:Env->St->Prop} {Kp:St->A->Prop} {e:Env} {s:St} {t:Nat} {want b:Bool}
theorem gC8(h:b=true->sV C n ds dst op r K Kp e s t want (some (.bool true)))(u:b=false->sV C n ds dst op r K Kp e s t want (some (.bool false))) :
  sV C n ds dst op r K Kp e s t want (some (.bool b)):=by
 cases b
 .exact u rfl
 .exact h rfl
theorem gD1{E:List (Nat × List Nat)}{i:Nat}{next:List (Nat × (St->Prop))->Env->St->Prop}{W:List (Nat × (St->Prop))}
  (h:b=true->pZ C n E i dst op next W Kp e s t want (some (.bool true)))(u:b=false->pZ C n E i dst op next W Kp e s t want (some (.bool false))) :
  pZ C n E i dst op next W Kp e s t want (some (.bool b)):=by
 cases b
 .exact u rfl
 .exact h rfl
theorem gC9{V:List Nat}{x y:Code}{Q:XK->Env->St->Prop}(h:b=true->eX C n V x Q e s)(u:b=false->eX C n V y Q e s) :
  brK C n V x y Q e s (some (.bool b)):=by
 cases b
 .exact u rfl
 .exact h rfl
end
theorem nG{s:St}{b:Nat}{o:Ob}(h:s.getO b=none):(s.setO b o).ge s :=
 ⟨fun c x u => by
  rw[aX];have:=aM u h;simp[this.2,u],λt n h=>h,λ_ h=>h⟩
theorem aZ{s:St}{b:Nat}{o:Ob}{s2:St}(h:s2.getO b=none)(u:s.ge s2):(s.setO b o).ge s2 :=
 ⟨fun c x y => by
  rw[aX];have:=aM y h;simp[this.2,u.ob c x y],λt n h=>u.tk t n h,λx h=>u.ls x h⟩
end Go.AV
namespace Go.AV
open Go
@[go_sem] theorem aX4 (s:St) (b n cap:Nat) (e e':TypeId) (sz m:Nat) (ys cs:List A) (KV:St→A→Prop):tX false s b n cap e sz m ys KV (some (.cells e' cs)) =
  ((false=false/\e'=e/\cs.length=cap * sz/\n<=cap/\n+m<=4294967296/\0<m) /\
  ∀(u h:Nat) (J:List A),(u=b/\h=cap\/s.getO u=none)->n+m<=h->J.length=(h-(n+m)) * sz->(∀c,c∈J->c.one=true) ->
   KV (s.setO u (.cells e (cs.take (n * sz)++(dF ys++J)))) (.mg u (n+m) h)):=rfl
attribute [go_sem] aE7
def gv(tk:Option Nat)(es:List A):A:=match tk with
 | none=>.nils
 | some t=>.list (some t) es
def mN(s:St)(tk:Option Nat)(n:Nat)(e:TypeId):Prop:=match tk with
 | none=>n=0
 | some t=>s.getT t=some (n,e)
theorem aMD(es:List A):gv none es=.nils:=rfl
theorem nW(t:Nat)(es:List A):gv (some t) es=.list (some t) es:=rfl
@[go_sem] theorem aLH(tk:Option Nat)(es:List A):(gv tk es).cells=[gv tk es]:=by cases tk<;>rfl
@[go_sem] theorem aZL(tk:Option Nat)(es:List A):(gv tk es).one=true:=by cases tk<;>rfl
@[go_sem] theorem aZM(s:St)(tk:Option Nat)(es:List A):iM s (gv tk es)=gv tk es:=by cases tk<;>rfl
theorem aVf{s:St}{tk:Option Nat}{es:List A}{e:TypeId}(h:mN s tk es.length e):lenS (gv tk es)=some (.int .i64 es.length):=by
 cases tk with
 | none =>
  have u:es.length=0:=h;simp only[gv,lenS,u];rfl
 | some t=>rfl
theorem fJ{C:Cx}{s:St}{e:TypeId}{B:TI}{ys:List A}{KV:St->A->Prop}{tk:Option Nat}{es:List A}(z:C.det=false)(O:Nat.beq C.mu 1=false)(u:mN s tk es.length e)
  (H:∀y,y∈es->y.cells.length=B.sz)(hl:es.length+ys.length<=4294967296)
  (h:∀t,(tk=some t\/tk=none/\s.getT t=none)->KV (s.setT t (es.length+ys.length,e)) (.list (some t) (es++ys))):oL C s e B ys KV (gv tk es):=by
 cases tk with
 | none =>
  have G:es=[]:=eK u;subst G;refine⟨gQ hl,?_⟩;unfold nO;rw[z];simp only[O];unfold newT;rw[z];intro t M;have:=h t (.inr ⟨rfl,M⟩);simpa using this
 | some t=>exact⟨u,H,hl,h t (.inl rfl)⟩
theorem aAW{u:Type}(p:Nat)(c d:u):∀L,oT p d (oT p c L)=oT p d L
 | []=>by simp[oT]
 | (q,x)::L=>by
  unfold oT;by_cases h:q=p
  .simp[h,oT]
  .simp[h,oT,aAW p c d L]
@[go_sem] theorem aYq(s:St)(b:Nat)(o h:Ob):(s.setO b o).setO b h=s.setO b h:=by
 simp only[St.setO,aAW]
end Go.AV
namespace Go.AV
open Go
def Rlz(a:A):Prop:=∃g v,Rz g a v
theorem Rlz.len{tk:Option Nat}{es:List A}(h:Rlz (.list tk es)):es.length<=maxLen:=by
 obtain⟨g,v,h⟩:=h;obtain⟨u,cap,B,z,y,_⟩:=h.list_inv;omega
theorem Rlz.wrap{tk:Option Nat}{es:List A}(h:Rlz (.list tk es)){i:Nat}(u:i<es.length):IntKind.i64.wrap ((i:Int)+1)=((i+1:Nat):Int):=by
 have:=h.len;unfold maxLen at this;exact aR i aB
theorem Rlz.cell{cs:List A}(h:Rlz (.agg cs)){c:A}(z:c∈cs):Rlz c:=by
 obtain⟨g,v,h⟩:=h;obtain⟨vs,rfl,y,_⟩:=h.agg_inv;obtain⟨j,B,rfl⟩:=iC z;obtain⟨u,_,G⟩:=y.get (cO B);exact⟨g,u,G⟩
theorem Rlz.elem{tk:Option Nat}{es:List A}(h:Rlz (.list tk es)){e:A}(B:e∈es){c:A}(H:c∈e.cells):Rlz c:=by
 obtain⟨g,v,h⟩:=h;obtain⟨S,cap,hv,Y,z,_,y⟩:=h.list_inv;rcases y with rfl|⟨b,off,sz,pre,rfl,Z,hl,O,G,y⟩
 .cases B
 .obtain⟨i,u,rfl⟩:=iC B;obtain⟨j,M,rfl⟩:=iC H;have T:=O _ (iX u)
  have U:i * sz+j<es.length * sz:=by
   have:(i+1) * sz<=es.length * sz:=qD _ u;rw[fO]at this;omega
  exact⟨g,_,y i _ j _ pre[off+i * sz+j] (cO u) (cO M) (cO aB)⟩
theorem Rlz.agg_elem{tk:Option Nat}{es:List A}(h:Rlz (.list tk es)){cs:List A}(z:A.agg cs∈es):Rlz (.agg cs):=by
 obtain⟨g,v,h⟩:=h;obtain⟨Y,cap,u,hm,M,_,H⟩:=h.list_inv;rcases H with rfl|⟨b,off,sz,pre,rfl,hp,hl,U,y,H⟩
 .cases z
 .obtain⟨i,O,G⟩:=iC z;have S:=U _ z
  have Z:i * sz+sz<=es.length * sz:=by
   have:(i+1) * sz<=es.length * sz:=qD _ O
   rwa[fO,Nat.one_mul]at this
  have T:cs.length=sz:=S;refine⟨g,.agg ((pre.drop (off+i * sz)).take sz).toArray,.agg cs _ (by rw[dG,eR];omega) (λc B=>y _ z c B) λj c v B u=>?_⟩;rw[mO]at u;split at u
  .rw[nD]at u;exact H i (.agg cs) j c v (by rw[cO O,G]) B u
  .cases u
section
variable {C:Cx} {s:St} {f:FuncId} {args:List A} {KV Kp:St->A->Prop}
theorem gC(h:(∀a,a∈args->Rlz a)->Den C f args KV Kp s):Den C f args KV Kp s:=λF g w vals z y =>
 h (λa B=>by
  obtain⟨j,G,rfl⟩:=iC B;obtain⟨u,_,H⟩:=y.get (cO G);exact⟨g,u,H⟩) F g w vals z y
end
theorem bP{X:St}{H Q:Nat->Prop}(k:∀p,H p->Q p)(h:∀p,X.getO p=none->H p:=by(intro p h;(try simp only[qY,gD6,mT]at h);exact h)):∀p,X.getO p=none->Q p:=λp e=>k p (h p e)
theorem gZ(S:St)(b:Nat)(o:Ob)(h:S.getO b=none):∃u,u.getO b=some o/\u.ge S/\S.setO b o=u:=⟨_,by rw[aX,aF rfl],aZ h (aC _),rfl⟩
theorem aL{X:St}{H Q:Nat->Prop}(k:∀p,H p->Q p)(h:∀p,X.getO p=none->H p:=by(intro p h;(try simp only[gD6,mT]at h);exact h)):∀p,X.getO p=none->Q p:=λp e=>k p (h p e)
theorem eW{u s:St}{F:Prop}(f:F)(h:F->u.ge s:=by(intro f;repeat (first|(refine aZ ?_ ?_;focus (simp only[gD6,mT,gA9,rY,f]<;>done))|exact aC _))):u.ge s:=h f
end Go.AV
end
section
open Go.Proofs.Tryz
namespace Go.AV
open Go
end Go.AV
end
namespace Go.AV
open Go Go.Proofs Tryz
inductive Tr (α:Type) where
 | lf
 | nd (l:Tr α) (v:Option α) (r:Tr α)
def Tr.get{h:Type}:Tr h->Nat->Option h
 | .lf,_=>none
 | .nd l v r,n=>match n with
  | 0=>v
  | k+1=>match Nat.beq (k % 2) 0 with
   | true=>l.get (k / 2)
   | false=>r.get (k / 2)
def aCu:Code->Option (FuncId × Operand)
 | .region _ ops u=>match u with
  | true=>none
  | false=>match ops.toList with
   | [o]=>match o.dst,o.guard,o.op with
    | none,none,.defer c=>match c.callee,c.args.toList with
     | .value (.func h),[x]=>some (h,x)
     | _,_=>none
    | _,_,_=>none
   | _=>none
 | _=>none
theorem aJd{C:Cx}{f:FuncId}{fn:Func}{c:Code}{args:List A}{KV Kp:St->A->Prop}{s:St}(H:C.P.funcs[f]?=some fn)(G:fn.body=some c)
  (y : (fn.name == "runtime.NumGoroutine") = false) (Z : args.length ≤ fn.ntmps)
  (h:∀F g w (a:Act),R C.toCtx F g s w->EnvOk g fn.ntmps (kW 0 args) a.tmps->a.defers=[]->c.wp C.P (bodyPostD C.P fn (vH C F g KV Kp)) a w):Den C f args KV Kp s:=by
 intro F g w vals T M
 have z:(callFunc f vals.toArray).run C.P w=.ok (.enter f vals.toArray) w:=by
  simp only[callFunc,bG,run_program,bJ,H,y,cV,↓reduceIte,G,qG,bV]
 rw[z];refine calls_of_wp_defers H G ?_
 have S:EnvOk g fn.ntmps (kW 0 args) (vals.toArray++Array.replicate (fn.ntmps-vals.toArray.size) undef):=by
  have hl:vals.length=args.length:=M.1;refine⟨by simp;omega,λt a U=>?_⟩;obtain⟨_,O⟩:=aGP args 0 t a U;obtain⟨u,B,Y⟩:=M.get O;rw[Nat.sub_zero]at B;refine⟨u,?_,Y⟩;have:t<vals.length:=(cX.1 B).1;rw[Array.getElem?_append_left (gQ this)];simpa using B
 exact h F g w ⟨_,[]⟩ T S rfl
def pQ(h k:Nat):Deferred:={ target:=.fn (.func h) #[],args:=#[.pointer (some ⟨k,0,none⟩)] }
theorem aKw{c:Code}{h:FuncId}{x:Operand}(u:aCu c=some (h,x)):∃H ops B ty pos after,c=.region H ops false/\ops.toList=[⟨none,.defer ⟨.value (.func h),#[x],B⟩,ty,pos,after,none⟩]:=by
 unfold aCu at u;split at u
 .rename_i H ops M;split at u
  .cases u
  .split at u
   .rename_i o U;split at u
    .rename_i c O S G;split at u
     .rename_i Y Z z y;cases u;obtain⟨dst,op,ty,pos,after,gd⟩:=o;obtain⟨T,args,B⟩:=c;simp only at O S G z y;subst O S G z;refine⟨H,ops,B,ty,pos,after,rfl,?_⟩;rw[U];have:args=#[x]:=by apply Array.ext';exact y
      rw[this]
     .cases u
    .cases u
   .cases u
 .cases u
def St.zero:St:=⟨λ_=>none,[],λ_=>none,[],0,none⟩
@[go_sem] def y1:TI:=⟨.other,1,8,[.nilf]⟩
@[go_sem] def y2:TI:=⟨.int .i64,1,8,[.int .i64 0]⟩
@[go_sem] def y3:TI:=⟨.bool,1,1,[.bool false]⟩
@[go_sem] def y4:TI:=⟨.int .u8,1,1,[.int .u8 0]⟩
@[go_sem] def y5:TI:=⟨.struct [(0,1,false),(1,1,false),(2,1,false),(3,1,false)],4,24,[.int .i64 0,.int .i64 0,.bool false,.int .u8 0]⟩
@[go_sem] def y6:TI:=⟨.string,1,16,[.str []]⟩
@[go_sem] def y7:TI:=⟨.int .u64,1,8,[.int .u64 0]⟩
@[go_sem] def y8:TI:=⟨.struct [(0,1,false),(1,1,false)],2,24,[.str [],.int .u64 0]⟩
@[go_sem] def y9:TI:=⟨.other,1,8,[.nilp]⟩
@[go_sem] def y10:TI:=⟨.struct [(0,1,false)],1,8,[.nilp]⟩
@[go_sem] def y11:TI:=⟨.iface,1,16,[.nili]⟩
@[go_sem] def y12:TI:=⟨.int .i32,1,4,[.int .i32 0]⟩
@[go_sem] def y13:TI:=⟨.slice 9,1,24,[.nils]⟩
@[go_sem] def y14:TI:=⟨.slice 112,1,24,[.nils]⟩
@[go_sem] def y15:TI:=⟨.slice 80,1,24,[.nils]⟩
@[go_sem] def y16:TI:=⟨.struct [(0,1,false),(1,1,false),(2,1,false),(3,1,false),(4,1,false)],5,120,[.nils,.nils,.nils,.nils,.nils]⟩
@[go_sem] def y17:TI:=⟨.slice 69,1,24,[.nils]⟩
@[go_sem] def y18:TI:=⟨.slice 96,1,24,[.nils]⟩
@[go_sem] def y19:TI:=⟨.slice 50,1,24,[.nils]⟩
@[go_sem] def y20:TI:=⟨.struct [(0,1,false),(1,5,true),(6,1,false),(7,1,false),(8,1,false),(9,1,false),(10,1,false),(11,1,false),(12,1,false)],13,280,[.str [],.nils,.nils,.nils,.nils,.nils,.nils,.nils,.str [],.nils,.nils,.str [],.str []]⟩
@[go_sem] def y21:TI:=⟨.struct [(0,1,false),(1,1,false),(2,1,false),(3,1,false)],4,40,[.int .i64 0,.str [],.int .i64 0,.int .i64 0]⟩
@[go_sem] def y22:TI:=⟨.slice 101,1,24,[.nils]⟩
@[go_sem] def y23:TI:=⟨.slice 67,1,24,[.nils]⟩
@[go_sem] def y24:TI:=⟨.slice 103,1,24,[.nils]⟩
@[go_sem] def y25:TI:=⟨.struct [(0,1,false),(1,1,false),(2,1,false),(3,1,false),(4,1,false),(5,1,false),(6,1,false)],7,128,[.str [],.nils,.nils,.nils,.nils,.int .i64 0,.int .i64 0]⟩
@[go_sem] def yF:TI:=⟨.struct [(0,1,false),(1,1,false)],2,16,[.int .i64 0,.int .i64 0]⟩
@[go_sem] def y27:TI:=⟨.struct [(0,13,true),(13,1,false)],14,288,[.str [],.nils,.nils,.nils,.nils,.nils,.nils,.nils,.str [],.nils,.nils,.str [],.str [],.nilp]⟩
@[go_sem] def y28:TI:=⟨.struct [(0,1,false),(1,1,false),(2,1,false),(3,1,false),(4,1,false),(5,1,false)],6,96,[.int .i64 0,.int .i64 0,.str [],.str [],.nils,.nils]⟩
@[go_sem] def y29:TI:=⟨.struct [(0,6,true),(6,6,true),(12,1,false),(13,1,false),(14,1,false)],15,232,[.int .i64 0,.int .i64 0,.str [],.str [],.nils,.nils,.int .i64 0,.int .i64 0,.str [],.str [],.nils,.nils,.nils,.int .i64 0,.int .i64 0]⟩
@[go_sem] def y30:TI:=⟨.struct [(0,13,true),(13,4,true)],17,320,[.str [],.nils,.nils,.nils,.nils,.nils,.nils,.nils,.str [],.nils,.nils,.str [],.str [],.int .i64 0,.str [],.int .i64 0,.int .i64 0]⟩
@[go_sem] def y31:TI:=⟨.slice 218,1,24,[.nils]⟩
@[go_sem] def y32:TI:=⟨.slice 3,1,24,[.nils]⟩
@[go_sem] def y33:TI:=⟨.struct [(0,1,false),(1,1,false),(2,1,false),(3,1,false),(4,1,false),(5,1,false),(6,1,false)],7,120,[.str [],.nils,.str [],.nils,.int .i64 0,.int .i64 0,.nils]⟩
@[go_sem] def y34:TI:=⟨.map 4 0,1,8,[.nilm]⟩
@[go_sem] def y35:TI:=⟨.struct [(0,1,false),(1,1,false),(2,6,true),(8,1,false),(9,1,false)],10,144,[.str [],.str [],.int .i64 0,.int .i64 0,.str [],.str [],.nils,.nils,.int .i64 0,.int .i64 0]⟩
@[go_sem] def y36:TI:=⟨.struct [(0,1,false),(1,1,false),(2,6,true),(8,1,false),(9,1,false),(10,1,false)],11,168,[.str [],.str [],.int .i64 0,.int .i64 0,.str [],.str [],.nils,.nils,.nils,.int .i64 0,.int .i64 0]⟩
@[go_sem] def y37:TI:=⟨.struct [(0,1,false)],1,24,[.nils]⟩
@[go_sem] def yG:TI:=⟨.struct [(0,1,false),(1,1,false)],2,32,[.str [],.str []]⟩
@[go_sem] def y39:TI:=⟨.map 22 0,1,8,[.nilm]⟩
@[go_sem] def y40:TI:=⟨.map 80 0,1,8,[.nilm]⟩
@[go_sem] def y41:TI:=⟨.struct [(0,5,true),(5,1,false),(6,1,false),(7,1,false)],8,144,[.nils,.nils,.nils,.nils,.nils,.nilm,.nilm,.nilm]⟩
@[go_sem] def y42:TI:=⟨.slice 24,1,24,[.nils]⟩
@[go_sem] def y43:TI:=⟨.struct [(0,1,false),(1,1,false)],2,16,[.int .i64 0,.bool false]⟩
@[go_sem] def y44:TI:=⟨.map 4 2,1,8,[.nilm]⟩
@[go_sem] def y45:TI:=⟨.slice 22,1,24,[.nils]⟩
@[go_sem] def y46:TI:=⟨.map 9 0,1,8,[.nilm]⟩
@[go_sem] def y47:TI:=⟨.slice 28,1,24,[.nils]⟩
@[go_sem] def y48:TI:=⟨.slice 47,1,24,[.nils]⟩
@[go_sem] def y49:TI:=⟨.int .u32,1,4,[.int .u32 0]⟩
@[go_sem] def y50:TI:=⟨.slice 209,1,24,[.nils]⟩
@[go_sem] def y51:TI:=⟨.struct [(0,1,false),(1,1,false),(2,1,false),(3,1,false),(4,1,false)],5,48,[.int .i64 0,.str [],.int .i64 0,.int .i64 0,.int .i64 0]⟩
@[go_sem] def y52:TI:=⟨.struct [(0,1,false),(1,1,false),(2,4,true),(6,13,true),(19,5,true),(24,1,false),(25,1,false)],26,416,[.nils,.int .i64 0,.int .i64 0,.str [],.int .i64 0,.int .i64 0,.str [],.nils,.nils,.nils,.nils,.nils,.nils,.nils,.str [],.nils,.nils,.str [],.str [],.int .i64 0,.str [],.int .i64 0,.int .i64 0,.int .i64 0,.int .i64 0,.bool false]⟩
@[go_sem] def y53:TI:=⟨.map 4 1,1,8,[.nilm]⟩
@[go_sem] def y54:TI:=⟨.slice 4,1,24,[.nils]⟩
@[go_sem] def y55:TI:=⟨.array 256 5,256,256,List.replicate 256 (.int .u8 0)⟩
@[go_sem] def y56:TI:=⟨.struct [(0,1,false),(1,1,false),(2,1,false),(3,1,false),(4,1,false),(5,1,false)],6,72,[.str [],.int .i64 0,.int .i64 0,.int .i64 0,.nils,.bool false]⟩
@[go_sem] def y57:TI:=⟨.slice 275,1,24,[.nils]⟩
@[go_sem] def y58:TI:=⟨.slice 292,1,24,[.nils]⟩
@[go_sem] def y59:TI:=⟨.slice 295,1,24,[.nils]⟩
@[go_sem] def y60:TI:=⟨.struct [(0,1,false),(1,1,false),(2,1,false)],3,56,[.nils,.nils,.int .i64 0]⟩
@[go_sem] def y61:TI:=⟨.int .u16,1,2,[.int .u16 0]⟩
@[go_sem] def y62:TI:=⟨.struct [(0,1,false),(1,1,false),(2,1,false)],3,6,[.int .u16 0,.int .u16 0,.int .u16 0]⟩
@[go_sem] def y63:TI:=⟨.struct [(0,1,false),(1,1,false),(2,1,false)],3,12,[.int .u32 0,.int .u32 0,.int .u32 0]⟩
@[go_sem] def y64:TI:=⟨.array 24 5,24,24,[.int .u8 0,.int .u8 0,.int .u8 0,.int .u8 0,.int .u8 0,.int .u8 0,.int .u8 0,.int .u8 0,.int .u8 0,.int .u8 0,.int .u8 0,.int .u8 0,.int .u8 0,.int .u8 0,.int .u8 0,.int .u8 0,.int .u8 0,.int .u8 0,.int .u8 0,.int .u8 0,.int .u8 0,.int .u8 0,.int .u8 0,.int .u8 0]⟩
@[go_sem] def y65:TI:=⟨.slice 5,1,24,[.nils]⟩
@[go_sem] def y66:TI:=⟨.array 20 203,20,160,[.int .u64 0,.int .u64 0,.int .u64 0,.int .u64 0,.int .u64 0,.int .u64 0,.int .u64 0,.int .u64 0,.int .u64 0,.int .u64 0,.int .u64 0,.int .u64 0,.int .u64 0,.int .u64 0,.int .u64 0,.int .u64 0,.int .u64 0,.int .u64 0,.int .u64 0,.int .u64 0]⟩
@[go_sem] def y67:TI:=⟨.struct [(0,1,false),(1,1,false),(2,1,false)],3,48,[.str [],.str [],.nili]⟩
@[go_sem] def y68:TI:=⟨.struct [(0,1,false),(1,1,false)],2,2,[.int .u8 0,.int .u8 0]⟩
@[go_sem] def y69:TI:=⟨.array 16 342,32,32,[.int .u8 0,.int .u8 0,.int .u8 0,.int .u8 0,.int .u8 0,.int .u8 0,.int .u8 0,.int .u8 0,.int .u8 0,.int .u8 0,.int .u8 0,.int .u8 0,.int .u8 0,.int .u8 0,.int .u8 0,.int .u8 0,.int .u8 0,.int .u8 0,.int .u8 0,.int .u8 0,.int .u8 0,.int .u8 0,.int .u8 0,.int .u8 0,.int .u8 0,.int .u8 0,.int .u8 0,.int .u8 0,.int .u8 0,.int .u8 0,.int .u8 0,.int .u8 0]⟩
@[go_sem] def y70:TI:=⟨.struct [(0,1,false)],1,16,[.str []]⟩
@[go_sem] def y71:TI:=⟨.array 32 5,32,32,[.int .u8 0,.int .u8 0,.int .u8 0,.int .u8 0,.int .u8 0,.int .u8 0,.int .u8 0,.int .u8 0,.int .u8 0,.int .u8 0,.int .u8 0,.int .u8 0,.int .u8 0,.int .u8 0,.int .u8 0,.int .u8 0,.int .u8 0,.int .u8 0,.int .u8 0,.int .u8 0,.int .u8 0,.int .u8 0,.int .u8 0,.int .u8 0,.int .u8 0,.int .u8 0,.int .u8 0,.int .u8 0,.int .u8 0,.int .u8 0,.int .u8 0,.int .u8 0]⟩
@[go_sem] def y72:TI:=⟨.struct [(0,1,false),(1,1,false),(2,1,false),(3,1,false)],4,40,[.nilp,.nilp,.nilp,.str []]⟩
@[go_sem] def y73:TI:=⟨.array 0 16,0,0,[]⟩
@[go_sem] def y74:TI:=⟨.struct [(0,1,false),(1,1,false),(2,1,false),(3,1,false),(4,1,false),(5,1,false),(6,1,false),(7,1,false),(8,1,false),(9,1,false),(10,1,false)],11,48,[.int .u64 0,.int .u64 0,.int .u32 0,.int .u8 0,.int .u8 0,.int .u8 0,.int .u8 0,.nilf,.nilp,.int .i32 0,.int .i32 0]⟩
def ttT:Tr TI:=(.nd (.nd (.nd (.nd (.nd (.nd (.nd (.nd (.nd .lf (some y1) .lf) (some y1) .lf) (some y27) (.nd (.nd .lf (some y1) .lf) (some y1) .lf)) (some y20) (.nd (.nd (.nd .lf (some y59) .lf) (some y1) .lf) (some y35) (.nd (.nd .lf (some y72) .lf) none .lf))) (some y9) (.nd (.nd (.nd (.nd .lf (some y1) .lf) (some y1) .lf) (some y33) (.nd (.nd .lf (some y1) .lf) (some y2) .lf)) (some y23) (.nd (.nd (.nd .lf (some y11) .lf) none .lf) (some yG) (.nd .lf (some y1) .lf)))) (some y5) (.nd (.nd (.nd (.nd (.nd .lf (some y1) .lf) (some y1) .lf) (some y1) (.nd .lf (some y1) .lf)) (some y1) (.nd (.nd (.nd .lf (some y63) .lf) (some y1) .lf) (some y37) (.nd (.nd .lf (some y12) .lf) none .lf))) (some y14) (.nd (.nd (.nd (.nd .lf (some y1) .lf) (some y1) .lf) (some y1) (.nd (.nd .lf (some y69) .lf) (some y1) .lf)) (some y1) (.nd (.nd .lf (some y48) .lf) (some y1) (.nd .lf (some y55) .lf))))) (some y2) (.nd (.nd (.nd (.nd (.nd (.nd .lf (some y9) .lf) (some y1) .lf) (some y28) (.nd .lf (some y1) .lf)) (some y21) (.nd (.nd (.nd .lf (some y62) .lf) (some y1) .lf) (some y1) (.nd .lf (some y1) .lf))) (some y10) (.nd (.nd (.nd (.nd .lf (some yF) .lf) (some y1) .lf) (some y34) (.nd (.nd .lf (some y67) .lf) (some y52) .lf)) (some y1) (.nd (.nd .lf (some y47) .lf) (some y1) (.nd .lf (some y1) .lf)))) (some y6) (.nd (.nd (.nd (.nd (.nd .lf (some y1) .lf) (some y1) .lf) (some y1) (.nd (.nd .lf (some y1) .lf) (some y7) .lf)) (some y1) (.nd (.nd (.nd .lf (some y1) .lf) (some y1) .lf) (some y1) (.nd (.nd .lf (some y9) .lf) (some y1) .lf))) (some y17) (.nd (.nd (.nd (.nd .lf (some y1) .lf) (some y1) .lf) (some y1) (.nd (.nd .lf (some y70) .lf) (some y1) .lf)) (some y1) (.nd (.nd (.nd .lf (some y1) .lf) (some y1) .lf) (some y41) (.nd .lf (some y1) .lf)))))) (some y1) (.nd (.nd (.nd (.nd (.nd (.nd .lf (some y1) .lf) (some y2) (.nd .lf (some y2) .lf)) (some y1) (.nd (.nd (.nd .lf (some y60) .lf) (some y43) .lf) none (.nd (.nd .lf (some y73) .lf) (some y1) .lf))) (some y9) (.nd (.nd (.nd (.nd .lf (some y57) .lf) (some y1) .lf) none (.nd (.nd .lf (some y1) .lf) (some y51) .lf)) (some y25) (.nd (.nd .lf (some y1) .lf) (some y1) (.nd .lf (some y1) .lf)))) (some y6) (.nd (.nd (.nd (.nd (.nd .lf (some y1) .lf) (some y1) .lf) (some y30) (.nd (.nd .lf (some y9) .lf) (some y49) .lf)) (some y1) (.nd (.nd (.nd .lf (some y1) .lf) (some y1) .lf) (some y1) (.nd (.nd .lf (some y74) .lf) (some y1) .lf))) (some y16) (.nd (.nd (.nd (.nd .lf (some y1) .lf) (some y9) .lf) (some y1) (.nd (.nd .lf (some y9) .lf) (some yG) .lf)) (some yF) (.nd (.nd .lf (some y1) .lf) (some y40) (.nd .lf (some y1) .lf))))) (some y4) (.nd (.nd (.nd (.nd (.nd (.nd .lf (some y56) .lf) none .lf) (some y29) (.nd (.nd .lf (some y1) .lf) (some y1) .lf)) (some y1) (.nd (.nd (.nd .lf (some y1) .lf) none .lf) (some y36) (.nd (.nd .lf (some y4) .lf) (some y1) .lf))) (some y12) (.nd (.nd (.nd (.nd .lf (some y9) .lf) (some y1) .lf) (some y1) (.nd (.nd .lf (some y68) .lf) (some y1) .lf)) none (.nd (.nd (.nd .lf (some y1) .lf) (some y1) .lf) (some y1) (.nd .lf (some y1) .lf)))) (some y8) (.nd (.nd (.nd (.nd (.nd .lf (some y1) .lf) (some y1) .lf) (some y2) (.nd (.nd .lf (some y66) .lf) (some y1) .lf)) (some y1) (.nd (.nd (.nd .lf (some y9) .lf) (some y1) .lf) (some y1) (.nd .lf (some y9) .lf))) (some y19) (.nd (.nd (.nd (.nd .lf (some y1) .lf) (some y1) .lf) (some y1) (.nd (.nd .lf (some y71) .lf) (some y1) .lf)) (some y9) (.nd (.nd (.nd .lf (some y1) .lf) (some y1) .lf) (some y1) .lf)))))) none (.nd (.nd (.nd (.nd (.nd (.nd (.nd (.nd .lf (some y9) .lf) (some y1) .lf) (some y27) (.nd (.nd .lf (some y65) .lf) (some y1) .lf)) (some y1) (.nd (.nd (.nd .lf (some y60) .lf) (some y43) .lf) (some y35) (.nd (.nd .lf (some y72) .lf) (some y1) .lf))) (some y9) (.nd (.nd (.nd (.nd .lf (some y1) .lf) (some y1) .lf) (some y33) (.nd .lf (some y51) .lf)) (some y24) (.nd (.nd (.nd .lf (some y11) .lf) (some y1) .lf) (some yG) (.nd .lf (some y1) .lf)))) (some y5) (.nd (.nd (.nd (.nd (.nd .lf (some y1) .lf) (some y1) .lf) (some y9) (.nd (.nd .lf (some y1) .lf) (some y1) .lf)) (some y1) (.nd (.nd (.nd .lf (some y1) .lf) (some y1) .lf) (some y1) (.nd (.nd .lf (some y12) .lf) (some y1) .lf))) (some y15) (.nd (.nd (.nd (.nd .lf (some y1) .lf) (some y7) .lf) (some y1) (.nd (.nd .lf (some y1) .lf) (some y53) .lf)) (some y9) (.nd (.nd .lf (some y1) .lf) (some y39) (.nd .lf (some y1) .lf))))) (some y3) (.nd (.nd (.nd (.nd (.nd (.nd .lf (some y56) .lf) (some y1) .lf) (some y29) (.nd (.nd .lf (some y1) .lf) (some y1) .lf)) (some y21) (.nd (.nd (.nd .lf (some y62) .lf) none .lf) (some y36) (.nd (.nd .lf (some y4) .lf) (some y1) .lf))) (some y11) (.nd (.nd (.nd (.nd .lf (some y1) .lf) (some y42) .lf) (some y1) (.nd (.nd .lf (some y1) .lf) (some y9) .lf)) (some y1) (.nd (.nd (.nd .lf (some y1) .lf) (some y1) .lf) (some y1) (.nd .lf (some y1) .lf)))) (some y7) (.nd (.nd (.nd (.nd (.nd .lf (some y1) .lf) none .lf) (some y31) (.nd (.nd .lf (some y1) .lf) (some y1) .lf)) (some y1) (.nd (.nd (.nd .lf (some y9) .lf) none .lf) (some y1) (.nd .lf (some y1) .lf))) (some y18) (.nd (.nd (.nd (.nd .lf (some y1) .lf) (some y1) .lf) (some y1) (.nd (.nd .lf (some y70) .lf) (some y1) .lf)) (some y9) (.nd (.nd (.nd .lf (some y9) .lf) (some y1) .lf) (some y1) (.nd .lf (some y1) .lf)))))) (some y2) (.nd (.nd (.nd (.nd (.nd (.nd (.nd .lf (some y1) .lf) (some y1) .lf) (some y28) (.nd (.nd .lf (some y1) .lf) none .lf)) (some y2) (.nd (.nd (.nd .lf (some y61) .lf) (some y44) .lf) (some y1) (.nd .lf (some y7) .lf))) (some y10) (.nd (.nd (.nd (.nd .lf (some yF) .lf) (some y1) .lf) (some y1) (.nd (.nd .lf (some y67) .lf) (some y52) .lf)) (some y25) (.nd (.nd (.nd .lf (some y1) .lf) (some y1) .lf) (some y1) (.nd .lf (some y1) .lf)))) (some y6) (.nd (.nd (.nd (.nd (.nd .lf (some y9) .lf) (some y1) .lf) (some y30) (.nd (.nd .lf (some y1) .lf) (some y1) .lf)) none (.nd (.nd (.nd .lf (some y1) .lf) (some y45) .lf) (some y1) (.nd (.nd .lf (some y74) .lf) (some y1) .lf))) (some y16) (.nd (.nd (.nd (.nd .lf (some y1) .lf) none .lf) (some y1) (.nd (.nd .lf (some y9) .lf) (some yG) .lf)) (some yF) (.nd (.nd (.nd .lf (some y1) .lf) (some y9) .lf) (some y41) (.nd .lf (some y1) .lf))))) (some y4) (.nd (.nd (.nd (.nd (.nd (.nd .lf (some y1) .lf) (some y1) .lf) (some y1) (.nd (.nd .lf (some y2) .lf) none .lf)) none (.nd (.nd (.nd .lf (some y63) .lf) (some y1) .lf) (some y37) (.nd (.nd .lf (some y1) .lf) (some y1) .lf))) (some y13) (.nd (.nd (.nd .lf (some y1) .lf) (some y1) (.nd (.nd .lf (some y68) .lf) (some y1) .lf)) (some y1) (.nd (.nd (.nd .lf (some y1) .lf) (some y1) .lf) (some y1) (.nd .lf (some y1) .lf)))) (some y8) (.nd (.nd (.nd (.nd (.nd .lf (some y9) .lf) (some y1) .lf) (some y32) (.nd .lf (some y50) .lf)) (some y22) (.nd (.nd (.nd .lf (some y1) .lf) (some y46) .lf) (some y1) (.nd .lf (some y54) .lf))) (some y20) (.nd (.nd (.nd (.nd .lf (some y58) .lf) (some y1) .lf) (some y1) (.nd .lf (some y1) .lf)) (some y1) (.nd (.nd (.nd .lf (some y64) .lf) (some y1) .lf) (some y1) (.nd .lf (some y1) .lf))))))))
def TT(t:TypeId):Option TI:=ttT.get t
def aWK(P:Program)(n:Nat):Bool:=(List.range n).all λt=>match TT t with|some h=>aIA P t h|none=>true
theorem aVV:aWK prog 364=true:=by decide +kernel
def xY(t:TypeId):Option TI:=match Nat.blt t 364 with
 | true=>TT t
 | false=>none
theorem aWJ(t:TypeId)(y:TI)(h:xY t=some y):y.ok prog t:=by
 unfold xY at h;split at h
 .rename_i u;rw[Nat.blt_eq]at u;have:=cL.1 aVV t (rW.2 u);rw[h]at this;exact aVO this
 .cases h
theorem aNL:aE0 prog [4] [(36,[0,2,0,0]),(112,[2,2]),(218,[2,2])] [22,76,78,47] [212]=true:=by decide +kernel
theorem aQF{P:Program}{e:TypeId}(z:P.cellsOf e≠0)(u:Nat)(h:1<=u):liesAt P P.depth e u 0 e 1=true:=by
 have y:P.depth=(2 * (P.types.size+Made.depth)+1)+1:=rfl;rw[y];simp only[liesAt,gB];left;rw[y];simp[rowAt,z,h,sameLayout]
theorem aG4:prog.underlying 212=some (.pointer 161)/\prog.underlying 363=some .unsafePointer/\(prog.info? 161).map (·.size)=some 2/\prog.cellsOf 161=2/\prog.underlying 345=some (.pointer 5)/\prog.cellsOf 5=1:=by
 refine⟨?_,?_,?_,?_,?_,?_⟩<;>kernel_rfl
def cvS(a b:TypeId):Option TypeId:=match Nat.beq a 212&&Nat.beq b 363 with
 | true=>some 161
 | false=>match Nat.beq a 363&&Nat.beq b 212 with
  | true=>some 161
  | false=>none
def usS(a:TypeId):Option TypeId:=match Nat.beq a 345 with
 | true=>some 5
 | false=>none
theorem aV6(a b e:TypeId)(h:cvS a b=some e)(w:World)(k:Nat)(vs:Array Value)(G:w.heap[k]?=some (.cells vs e))(M:prog.cellsOf e<=vs.size) :
  (convert a b (.pointer (some ⟨k,0,none⟩))).run prog w=.ok (.pointer (some ⟨k,0,none⟩)) w:=by
 obtain⟨z,B,O,y,_⟩:=aG4;obtain⟨j,H,S⟩:=kN.1 O;unfold cvS at h;split at h
 .rename_i u;simp only[aY]at u;obtain rfl:=cQ u.1;obtain rfl:=cQ u.2;cases h;rw[y]at M;exact Lib.run_to_unsafe w ⟨k,0,none⟩ z B H aB (cells:=vs.size) (e:=161) (by simp[World.shape?,G]) (by show 0<vs.size;omega)
 .split at h
  .rename_i u;simp only[aY]at u;obtain rfl:=cQ u.1;obtain rfl:=cQ u.2;cases h;rw[y]at M;exact Lib.run_from_unsafe w ⟨k,0,none⟩ B z H (cells:=vs.size) (e:=161) (by simp[World.shape?,G]) (aQF (by rw[y];decide) _ (by rw[y];omega))
  .cases h
def xP:List A:=(List.range 256).map λi=>.int .u8 (if(9<=i/\i<=13)\/i=32 then 1 else 0)
def aFb:List A:=(List.range 20).map λi=>.int .u64 ((10 ^ i:Nat):Int)
def glS:Nat->Option (List A)
 | 0=>some xP
 | 3=>some aFb
 | _=>none
theorem aV5(a b e:TypeId)(h:cvS a b=some e):(xY e).map (·.sz)=some (prog.cellsOf e):=by
 have u:=aG4.2.2.2.1;unfold cvS at h;split at h
 .cases h;rw[u];rfl
 .split at h
  .cases h;rw[u];rfl
  .cases h
theorem aWB(t e:TypeId)(h:usS t=some e):prog.underlying t=some (.pointer e)/\prog.cellsOf e=1:=by
 unfold usS at h;split at h
 .rename_i u;obtain rfl:=cQ u;cases h;exact aG4.2.2.2.2
 .cases h
noncomputable def cx:Cx:={ P:=prog,det:=false,gl:=glS,tt:=xY,htt:=aWJ,cv:=cvS,hcv:=aV6,hcs:=aV5,us:=usS,hus:=aWB,eq:=eqT [4] [(36,[0,2,0,0]),(112,[2,2]),(218,[2,2])] [22,76,78,47] [212],heq:=aWa aNL,nl:=λt=>[22,76,78,47].elem t,hnl:=λt z a n cap w op x y u=>⟨a.isNone,aCH (by have h:=aNL;simp only[aE0,aY,cL]at h;exact h.2.1 t (gQ z)) a n cap u x y⟩ }
@[go_sem] theorem aZ1(t:TypeId):cx.nl t=[22,76,78,47].elem t:=rfl
@[go_sem] theorem aZ0(t:TypeId)(a b:A):cx.eq t a b=eqT [4] [(36,[0,2,0,0]),(112,[2,2]),(218,[2,2])] [22,76,78,47] [212] t a b:=rfl
@[go_sem] theorem aY4(s:St)(n:Nat)(e:TypeId)(sz:Nat)(ys:List A)(KV:St->A->Prop):nO cx s n e sz ys KV=newT cx s n e ys KV:=rfl
noncomputable def mZ:Cx:={ cx with mu:=1 }
@[go_sem] theorem aLB(s:St)(n:Nat)(e:TypeId)(sz:Nat)(ys:List A)(KV:St->A->Prop):nO mZ s n e sz ys KV=(0<n/\aE7 s n e sz (dF ys) KV):=rfl
@[go_sem] theorem aZt:mZ.tt=cx.tt:=rfl
@[go_sem] theorem aZr:mZ.eq=cx.eq:=rfl
@[go_sem] theorem aZZ(t:TypeId):cx.cw t=none:=rfl
@[go_sem] theorem aZp:mZ.cv=cx.cv:=rfl
@[go_sem] theorem aZq:mZ.cw=cx.cw:=rfl
@[go_sem] theorem aZu:mZ.us=cx.us:=rfl
@[go_sem] theorem aY5:mZ.det=false:=rfl
@[go_sem] theorem aZs:mZ.toCtx=cx.toCtx:=rfl
@[go_sem] theorem aZo:aBq cx=false:=rfl
@[go_sem] theorem aY6:aBq mZ=false:=rfl
noncomputable def jS:Cx:={ cx with mu:=2 }
@[go_sem] theorem aYB(s:St)(n:Nat)(e:TypeId)(sz:Nat)(ys:List A)(KV:St->A->Prop):nO jS s n e sz ys KV=newT jS s n e ys KV:=rfl
@[go_sem] theorem aY8:aBq jS=true:=rfl
@[go_sem] theorem aZz:jS.tt=cx.tt:=rfl
@[go_sem] theorem aZx:jS.eq=cx.eq:=rfl
@[go_sem] theorem aZv:jS.cv=cx.cv:=rfl
@[go_sem] theorem aZw:jS.cw=cx.cw:=rfl
@[go_sem] theorem aZA:jS.us=cx.us:=rfl
@[go_sem] theorem aY7:jS.det=false:=rfl
@[go_sem] theorem aZy:jS.toCtx=cx.toCtx:=rfl
@[go_sem] theorem aZO (s:St) (t:TypeId) (KV:St→A→Prop) (a:A):xV jS s t KV a=match a,jS.tt t with
 | .list _ es,some h=>(match h.k with
  | .slice e=>∀k,s.getT k=none->KV (s.setT k (es.length,e)) (.list (some k) es)
  | _=>False)
 | _,_=>False:=by unfold xV;rfl
theorem aMp{f:FuncId}{l:List A}{KV Kp:St->A->Prop}{s:St}(h:Den jS f l KV Kp s):Den cx f l KV Kp s:=by assumption
theorem aUT{f:FuncId}{l:List A}{KV Kp:St->A->Prop}{s:St}(h:Den mZ f l KV Kp s):Den cx f l KV Kp s:=by assumption
theorem aLQ:cx.P.follows .mixedOrders=true:=by decide +kernel
section
@[go_sem] theorem ty0:cx.tt 1=some y1/\cx.tt 2=some y2/\cx.tt 3=some y2/\cx.tt 4=some y3/\cx.tt 5=some y4/\cx.tt 6=some y4/\cx.tt 7=some y5/\cx.tt 8=some y5/\cx.tt 9=some y6/\cx.tt 10=some y6/\cx.tt 11=some y6/\cx.tt 12=some y7:=⟨rfl,rfl,rfl,rfl,rfl,rfl,rfl,rfl,rfl,rfl,rfl,rfl⟩
@[go_sem] theorem ty1:cx.tt 13=some y8/\cx.tt 14=some y8/\cx.tt 15=some y9/\cx.tt 16=some y9/\cx.tt 17=some y9/\cx.tt 18=some y10/\cx.tt 19=some y10/\cx.tt 20=some y11/\cx.tt 21=some y12/\cx.tt 22=some y13/\cx.tt 23=some y14/\cx.tt 24=some y15:=⟨rfl,rfl,rfl,rfl,rfl,rfl,rfl,rfl,rfl,rfl,rfl,rfl⟩
@[go_sem] theorem ty2:cx.tt 25=some y16/\cx.tt 26=some y16/\cx.tt 27=some y17/\cx.tt 28=some y18/\cx.tt 29=some y19/\cx.tt 30=some y20/\cx.tt 31=some y20/\cx.tt 32=some y1/\cx.tt 33=some y1/\cx.tt 34=some y2/\cx.tt 35=some y21/\cx.tt 36=some y21:=⟨rfl,rfl,rfl,rfl,rfl,rfl,rfl,rfl,rfl,rfl,rfl,rfl⟩
@[go_sem] theorem ty3:cx.tt 37=some y1/\cx.tt 39=some y1/\cx.tt 40=some y1/\cx.tt 41=some y1/\cx.tt 43=some y1/\cx.tt 44=some y1/\cx.tt 45=some y1/\cx.tt 46=some y22/\cx.tt 47=some y23/\cx.tt 48=some y24/\cx.tt 49=some y25/\cx.tt 50=some y25:=⟨rfl,rfl,rfl,rfl,rfl,rfl,rfl,rfl,rfl,rfl,rfl,rfl⟩
@[go_sem] theorem ty4:cx.tt 51=some y1/\cx.tt 52=some y1/\cx.tt 54=some y1/\cx.tt 55=some y1/\cx.tt 56=some y9/\cx.tt 57=some yF/\cx.tt 58=some yF/\cx.tt 59=some y1/\cx.tt 60=some y9/\cx.tt 61=some y9/\cx.tt 62=some y1/\cx.tt 63=some y27:=⟨rfl,rfl,rfl,rfl,rfl,rfl,rfl,rfl,rfl,rfl,rfl,rfl⟩
@[go_sem] theorem ty5:cx.tt 64=some y27/\cx.tt 65=some y2/\cx.tt 66=some y28/\cx.tt 67=some y28/\cx.tt 68=some y29/\cx.tt 69=some y29/\cx.tt 70=some y1/\cx.tt 71=some y1/\cx.tt 72=some y9/\cx.tt 73=some y30/\cx.tt 74=some y30/\cx.tt 75=some y1:=⟨rfl,rfl,rfl,rfl,rfl,rfl,rfl,rfl,rfl,rfl,rfl,rfl⟩
@[go_sem] theorem ty6:cx.tt 76=some y31/\cx.tt 77=some y2/\cx.tt 78=some y32/\cx.tt 79=some y33/\cx.tt 80=some y33/\cx.tt 82=some y1/\cx.tt 83=some y34/\cx.tt 84=some y1/\cx.tt 85=some y1/\cx.tt 86=some y1/\cx.tt 87=some y1/\cx.tt 88=some y1:=⟨rfl,rfl,rfl,rfl,rfl,rfl,rfl,rfl,rfl,rfl,rfl,rfl⟩
@[go_sem] theorem ty7:cx.tt 89=some y1/\cx.tt 90=some y1/\cx.tt 91=some y1/\cx.tt 92=some y1/\cx.tt 93=some y1/\cx.tt 94=some y1/\cx.tt 95=some y35/\cx.tt 96=some y35/\cx.tt 98=some y1/\cx.tt 99=some y1/\cx.tt 100=some y36/\cx.tt 101=some y36:=⟨rfl,rfl,rfl,rfl,rfl,rfl,rfl,rfl,rfl,rfl,rfl,rfl⟩
@[go_sem] theorem ty8:cx.tt 102=some y37/\cx.tt 103=some y37/\cx.tt 104=some y1/\cx.tt 105=some y1/\cx.tt 106=some y1/\cx.tt 107=some y1/\cx.tt 108=some y1/\cx.tt 109=some y1/\cx.tt 110=some y1/\cx.tt 111=some yG/\cx.tt 112=some yG/\cx.tt 113=some y1:=⟨rfl,rfl,rfl,rfl,rfl,rfl,rfl,rfl,rfl,rfl,rfl,rfl⟩
@[go_sem] theorem ty9:cx.tt 114=some y1/\cx.tt 115=some y1/\cx.tt 116=some y1/\cx.tt 117=some y1/\cx.tt 118=some y1/\cx.tt 119=some y1/\cx.tt 120=some y39/\cx.tt 121=some y40/\cx.tt 122=some y41/\cx.tt 123=some y41/\cx.tt 124=some y1/\cx.tt 125=some y1:=⟨rfl,rfl,rfl,rfl,rfl,rfl,rfl,rfl,rfl,rfl,rfl,rfl⟩
@[go_sem] theorem aZ4:cx.tt 126=some y1/\cx.tt 127=some y1/\cx.tt 128=some y1/\cx.tt 129=some y1/\cx.tt 130=some y1/\cx.tt 131=some y1/\cx.tt 132=some y1/\cx.tt 134=some y1/\cx.tt 135=some y1/\cx.tt 136=some y1/\cx.tt 137=some y1/\cx.tt 138=some y1:=⟨rfl,rfl,rfl,rfl,rfl,rfl,rfl,rfl,rfl,rfl,rfl,rfl⟩
@[go_sem] theorem aZ5:cx.tt 139=some y1/\cx.tt 141=some y1/\cx.tt 142=some y1/\cx.tt 143=some y1/\cx.tt 144=some y1/\cx.tt 145=some y1/\cx.tt 146=some y1/\cx.tt 147=some y1/\cx.tt 148=some y42/\cx.tt 149=some y1/\cx.tt 150=some y1/\cx.tt 151=some y1:=⟨rfl,rfl,rfl,rfl,rfl,rfl,rfl,rfl,rfl,rfl,rfl,rfl⟩
@[go_sem] theorem aZ6:cx.tt 152=some y7/\cx.tt 153=some y9/\cx.tt 155=some y1/\cx.tt 156=some y1/\cx.tt 157=some y1/\cx.tt 158=some y1/\cx.tt 159=some y1/\cx.tt 160=some y43/\cx.tt 161=some y43/\cx.tt 162=some y44/\cx.tt 163=some y1/\cx.tt 166=some y1:=⟨rfl,rfl,rfl,rfl,rfl,rfl,rfl,rfl,rfl,rfl,rfl,rfl⟩
@[go_sem] theorem aZ7:cx.tt 167=some y1/\cx.tt 168=some y1/\cx.tt 169=some y1/\cx.tt 170=some y45/\cx.tt 171=some y1/\cx.tt 173=some y1/\cx.tt 174=some y46/\cx.tt 176=some y1/\cx.tt 177=some y1/\cx.tt 178=some y1/\cx.tt 179=some y47/\cx.tt 180=some y1:=⟨rfl,rfl,rfl,rfl,rfl,rfl,rfl,rfl,rfl,rfl,rfl,rfl⟩
@[go_sem] theorem aZ8:cx.tt 181=some y1/\cx.tt 182=some y1/\cx.tt 183=some y48/\cx.tt 184=some y1/\cx.tt 185=some y1/\cx.tt 186=some y9/\cx.tt 187=some y1/\cx.tt 188=some y1/\cx.tt 189=some y1/\cx.tt 190=some y1/\cx.tt 191=some y1/\cx.tt 192=some y1:=⟨rfl,rfl,rfl,rfl,rfl,rfl,rfl,rfl,rfl,rfl,rfl,rfl⟩
@[go_sem] theorem aZ9:cx.tt 193=some y2/\cx.tt 195=some y1/\cx.tt 196=some y1/\cx.tt 197=some y1/\cx.tt 199=some y1/\cx.tt 200=some y1/\cx.tt 201=some y49/\cx.tt 202=some y1/\cx.tt 203=some y7/\cx.tt 204=some y1/\cx.tt 205=some y1/\cx.tt 206=some y50:=⟨rfl,rfl,rfl,rfl,rfl,rfl,rfl,rfl,rfl,rfl,rfl,rfl⟩
@[go_sem] theorem bAa:cx.tt 207=some y2/\cx.tt 208=some y51/\cx.tt 209=some y51/\cx.tt 210=some y52/\cx.tt 211=some y52/\cx.tt 212=some y9/\cx.tt 213=some y1/\cx.tt 214=some y1/\cx.tt 215=some y1/\cx.tt 216=some y53/\cx.tt 217=some yG/\cx.tt 218=some yG:=⟨rfl,rfl,rfl,rfl,rfl,rfl,rfl,rfl,rfl,rfl,rfl,rfl⟩
@[go_sem] theorem bAb:cx.tt 219=some y1/\cx.tt 220=some y1/\cx.tt 221=some y1/\cx.tt 222=some y1/\cx.tt 224=some y1/\cx.tt 225=some y1/\cx.tt 226=some y7/\cx.tt 227=some y1/\cx.tt 228=some y1/\cx.tt 229=some y1/\cx.tt 230=some y1/\cx.tt 232=some y1:=⟨rfl,rfl,rfl,rfl,rfl,rfl,rfl,rfl,rfl,rfl,rfl,rfl⟩
@[go_sem] theorem bAc:cx.tt 233=some y1/\cx.tt 234=some y1/\cx.tt 235=some y1/\cx.tt 236=some y1/\cx.tt 237=some y9/\cx.tt 238=some y54/\cx.tt 239=some y1/\cx.tt 240=some y1/\cx.tt 241=some y1/\cx.tt 242=some y1/\cx.tt 243=some y1/\cx.tt 244=some y1:=⟨rfl,rfl,rfl,rfl,rfl,rfl,rfl,rfl,rfl,rfl,rfl,rfl⟩
@[go_sem] theorem bAd:cx.tt 245=some y1/\cx.tt 246=some y1/\cx.tt 248=some y1/\cx.tt 249=some y1/\cx.tt 250=some y1/\cx.tt 251=some y1/\cx.tt 252=some y1/\cx.tt 254=some y1/\cx.tt 255=some y1/\cx.tt 256=some y9/\cx.tt 258=some y1/\cx.tt 259=some y9:=⟨rfl,rfl,rfl,rfl,rfl,rfl,rfl,rfl,rfl,rfl,rfl,rfl⟩
@[go_sem] theorem bAe:cx.tt 260=some y56/\cx.tt 261=some y56/\cx.tt 262=some y1/\cx.tt 263=some y1/\cx.tt 264=some y1/\cx.tt 265=some y1/\cx.tt 266=some y9/\cx.tt 267=some y1/\cx.tt 268=some y1/\cx.tt 269=some y1/\cx.tt 270=some y9/\cx.tt 271=some y1:=⟨rfl,rfl,rfl,rfl,rfl,rfl,rfl,rfl,rfl,rfl,rfl,rfl⟩
@[go_sem] theorem bAf:cx.tt 272=some y1/\cx.tt 273=some y57/\cx.tt 274=some yF/\cx.tt 275=some yF/\cx.tt 276=some y1/\cx.tt 277=some y9/\cx.tt 279=some y1/\cx.tt 280=some y1/\cx.tt 281=some y1/\cx.tt 282=some y1/\cx.tt 283=some y1/\cx.tt 284=some y1:=⟨rfl,rfl,rfl,rfl,rfl,rfl,rfl,rfl,rfl,rfl,rfl,rfl⟩
@[go_sem] theorem bAg:cx.tt 285=some y1/\cx.tt 286=some y58/\cx.tt 287=some y59/\cx.tt 288=some y60/\cx.tt 289=some y60/\cx.tt 290=some y61/\cx.tt 291=some y62/\cx.tt 292=some y62/\cx.tt 293=some y1/\cx.tt 294=some y63/\cx.tt 295=some y63/\cx.tt 296=some y1:=⟨rfl,rfl,rfl,rfl,rfl,rfl,rfl,rfl,rfl,rfl,rfl,rfl⟩
@[go_sem] theorem bAh:cx.tt 297=some y1/\cx.tt 298=some y1/\cx.tt 299=some y1/\cx.tt 300=some y9/\cx.tt 301=some y9/\cx.tt 302=some y1/\cx.tt 303=some y11/\cx.tt 304=some y11/\cx.tt 306=some y1/\cx.tt 308=some y1/\cx.tt 309=some y1/\cx.tt 310=some y1:=⟨rfl,rfl,rfl,rfl,rfl,rfl,rfl,rfl,rfl,rfl,rfl,rfl⟩
@[go_sem] theorem bAi:cx.tt 314=some y1/\cx.tt 315=some y1/\cx.tt 316=some y9/\cx.tt 317=some y1/\cx.tt 318=some y64/\cx.tt 319=some y1/\cx.tt 320=some y65/\cx.tt 322=some y1/\cx.tt 324=some y1/\cx.tt 325=some y1/\cx.tt 326=some y2/\cx.tt 328=some y1:=⟨rfl,rfl,rfl,rfl,rfl,rfl,rfl,rfl,rfl,rfl,rfl,rfl⟩
@[go_sem] theorem bAj:cx.tt 329=some y9/\cx.tt 330=some y1/\cx.tt 331=some y1/\cx.tt 332=some y1/\cx.tt 333=some y66/\cx.tt 335=some y1/\cx.tt 337=some y1/\cx.tt 338=some y67/\cx.tt 339=some y67/\cx.tt 340=some y1/\cx.tt 341=some y68/\cx.tt 342=some y68:=⟨rfl,rfl,rfl,rfl,rfl,rfl,rfl,rfl,rfl,rfl,rfl,rfl⟩
@[go_sem] theorem bAk:cx.tt 343=some y69/\cx.tt 344=some y1/\cx.tt 345=some y9/\cx.tt 346=some y9/\cx.tt 347=some y70/\cx.tt 348=some y70/\cx.tt 349=some y71/\cx.tt 351=some y72/\cx.tt 352=some y72/\cx.tt 353=some y73/\cx.tt 356=some y4/\cx.tt 357=some y4:=⟨rfl,rfl,rfl,rfl,rfl,rfl,rfl,rfl,rfl,rfl,rfl,rfl⟩
@[go_sem] theorem bAl:cx.tt 358=some y1/\cx.tt 359=some y12/\cx.tt 360=some y12/\cx.tt 361=some y74/\cx.tt 362=some y74/\cx.tt 363=some y9:=⟨rfl,rfl,rfl,rfl,rfl,rfl⟩
end
@[go_sem] def aN1:List Nat:=[0,2,3,4,5,6,8,9,10,30,39,44,47,48,49,50,56,66]
@[go_sem] def pP:List Nat:=[0,1,4,5,7,8,9,16]
@[go_sem] def aN0:List Nat:=[0,2,3,4,5,6,8,20,33,41,67,68,69,70,81,100]
@[go_sem] def vN:List Nat:=[0,1,2,3,4,5,6,25,26,53,64,75,95,130,134]
@[go_sem] def aET:List Nat:=[0,1,2,4,7,41,43,44,45,46,58,62,63,64]
@[go_sem] def aBz:List Nat:=[0,2,3,5,7,8,9,10,15]
@[go_sem] def aBv:List Nat:=[0,1,4,5,10,12,13,14,24]
@[go_sem] def rR:List Nat:=[0,2,3,5,6,8,9,10,11,12,20,25,26,27,28]
@[go_sem] def aBB:List Nat:=[0,1,2,4,5,6,8,14,18,19,20,21,37]
@[go_sem] def aFh:List Nat:=[0,1,2,3,5,7,9,20,21,22,23,36,37,38,39,51,52,53,54]
@[go_sem] def aIf:List Nat:=[0,1,3,4,6,7,9,10,11,13,14,15,16,22,26,33,52,54,55,56,57,71]
@[go_sem] def aBA:List Nat:=[0,2,3,5,6,7,8,9]
@[go_sem] def aBw:List Nat:=[0,1,2,3,5,7,9,11,13,15,16,17,18,38,39,40,41,51,52,53,54,58,59,60,61,78,79,80,81]
@[go_sem] def aFl:List Nat:=[0,2,3,5,7,8,9,10]
@[go_sem] def aIH:List Nat:=[0,1,4,5,6,8,10,15,16,17,18,24,32,33,34,35,41]
@[go_sem] def aBy:List Nat:=[0,1,2,3,5,7,9,11,13,15,16,17,18,37,38,39,40,50,51,52,53,57,58,59,60,77,78,79,80]
@[go_sem] def aFi:List Nat:=[0,1,3,4,5,6,7,9,11,12,14,29,51,69,70,71,72,80,87,88,89,90,99,124,125,126,127]
@[go_sem] def aFm:List Nat:=[0,1,2,3,5,7,9,19,30,31,32,33,43,44,45,46,58,59,60,61,66]
@[go_sem] def aID:List Nat:=[0,1,2,4,6,7,29,31,32,33,34,40,43,44,45,46,62]
@[go_sem] def aOn:List Nat:=[0,1,2,4,6,7,8,9,11,25,32,42,50,81,82,83,84]
@[go_sem] def aBC:List Nat:=[0,1,2,4,5,7,9,10,11,13,14,15,17,18,19,20,40,47,48,49,50,54,55,56,57,86,87,88,89,96,102,103,104,105,114]
@[go_sem] def aFj:List Nat:=[0,1,2,4,6,7,8,9,10,11,13,15,21,30,40,41,42,43,65,66,67,68,93,94,95,96]
@[go_sem] def aIE:List Nat:=[0,2,4,5,7,19,20,21,22,30,39,72,73,74,75,79]
@[go_sem] def aIF:List Nat:=[0,2,4,5,6,8,10,12,24,47,68,89,90,91,92,106,117,118,119,120,135]
@[go_sem] def vl7:List Nat:=[0,1,2,3,4,6,7,9,13,19,29,30,31,32,44,45,46,47]
@[go_sem] def aC6:List Nat:=[0,1,2,4,5,6,7,8,9,10,13,15,16,17,18,25,29,30,31,32,39]
@[go_sem] def aFe:List Nat:=[0,1,2,4,5,6,8,9,11,12,13,15,18,29,31,32,33,34,41,54,56,66]
@[go_sem] def aFg:List Nat:=[0,1,2,3,4,5,7,10,21,22,23,24,37]
@[go_sem] def aFn:List Nat:=[0,2,3,5,6,7,30]
@[go_sem] def aIl:List Nat:=[0,1,2,3,4,6,8,9,10,11,23,27,28,29,30,35]
@[go_sem] def aEU:List Nat:=[0,1,2,3,4,6,8,10,11,12,13,34,38,39,40,41,46,50,51,52,53,62]
@[go_sem] def aIh:List Nat:=[0,1,2,3,5,7,9,10,11,12,52,55,56,57,58,109]
@[go_sem] def aIg:List Nat:=[0,1,2,3,6,8,40,42,43,44,45,53]
@[go_sem] def aIj:List Nat:=[0,1,2,3,4,6,8,9,12,13,14,23,25,26,27,28,34,38,52,54,55,56,57,74]
@[go_sem] def aIi:List Nat:=[0,1,2,3,4,6,8,11,21,23,24,25,26,31]
@[go_sem] def aCV:List Nat:=[0,1,3,4,6,8,10,18,19,20,21,22,27,35,36,37,38,46,47,48,49]
@[go_sem] def aIk:List Nat:=[0,2,3,4,6,7,8,9,10,16,17,18,19,26]
@[go_sem] def aII:List Nat:=[0,1,2,3,4,5,7,21,24,25,26,27,32]
@[go_sem] def aC7:List Nat:=[0,2,3,4,6,7,8,9,10,12,13,14,15,16,23,24,25,26,32,33,34,35,52]
@[go_sem] def aC8:List Nat:=[0,1,4,5,6,7,9,11,13,14,15,16,17,24,25,26,27,34,35,36,37,51]
@[go_sem] def aIG:List Nat:=[0,1,2,4,5,6,7,8,9,10,11,13,14,15,16,23,28,29,30,31,38]
@[go_sem] def xX:List Nat:=[0,1,3,4,5,6,7,8,10,12,13,14,15,16,17,19,41,51,79,80,81,82,94,95,96,97,108,134,150,159,160,161,162,182]
@[go_sem] def aFk:List Nat:=[0,2,3,4,6,8,22,23,24,25,31,32,33,34,41,55,81,92,93,94,95,99]
@[go_sem] def xM:List Nat:=[0,1,2,4,6,7,8,10,12,13,15,33,44,61,62,63,64,78,111,112,113,114,136]
@[go_sem] def kM:List Nat:=[0,1,4,6,7,8,9,10,11,13,14,15,16,17,19,21,23,24,25,27,28,29,44,45,46,47,54,67,77,78,79,80,85,110,111,112,113,123,133,147,156,157,158,159,175,186,187,188,189,209,220,221,222,223,227,228,229,230,260,272,273,274,275,285,295,296,297,298,307]
@[go_sem] def aBD:List Nat:=[0,1,2,3,5,7,9,19,31,32,33,34,44,45,46,47,56,57,58,59,64]
@[go_sem] def sS:List Nat:=[0,2,3,5,7,9,11,39,40,41,42,52,53,54,55,67,68,69,70,100,101,102,103,113,119]
@[go_sem] def aBx:List Nat:=[0,2,4,6,7,11,13,22,40,52,66,67,68,69,84,90,91,92,93,106]
@[go_sem] def yE:List Nat:=[0,1,2,3,5,6,13,14,15,16,20,26,30,35,36,37,40]
@[go_sem] def aFf:List Nat:=[0,1,2,4,5,7,8,9,11,13,15,17,20,30,32,33,34,35,42,50,51,52,53,61,62,63,64,75]
@[go_sem] def aIC:List Nat:=[0,1,2,3,4,5,7,9,12,14,15,16,17,32,33,34,35,48]
end Go.AV
