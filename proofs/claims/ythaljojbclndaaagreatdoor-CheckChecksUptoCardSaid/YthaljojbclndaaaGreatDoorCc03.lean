/-
  Of CheckChecks.
-/
import Derived.Test.YthaljojbclndaaaGreatDoorCc02
import Derived.Recover
import Derived.Test.YthaljojbclndaaaGreatDoorProg
import Derived.KernelRfl
import Derived.Lib.Builder
set_option linter.all false
set_option maxRecDepth 99999
set_option maxHeartbeats 0
namespace Go.AV
open Go Go.Proofs Tryz
section
section
variable {C:Cx} {n:Nat} {ops:Array Oper} {K:Env->St->Prop} {Kp:St->A->Prop} {W:List (Nat × (St->Prop))} {s:St} {E:List (Nat × List Nat)}
theorem aLI{z:List Nat}{w:Nat × (St->Prop)}:∀{W:List (Nat × (St->Prop))},yD z s W->w∈W->z.elem w.1=true->w.2 s
 | [],_,h,_=>by cases h
 | (m,p)::W,u,h,y=>by
  cases h with
  | head=>have:=u.1;rwa[aF y]at this
  | tail _ h=>exact aLI u.2 h y
theorem Dead.set{l:Array Bool}{m i:Nat}(h:Dead ops m l):Dead ops m (l.setIfInBounds i true):=by
 obtain⟨j,o,u,y,z,B⟩:=h;exact⟨j,o,u,y,getD_set_true z,B⟩
theorem aSN{i:Nat}:∀(f:Nat) (l:Array Bool) (e:Env) (s:St),gN C n ops K Kp W f l e s->gN C n ops K Kp ((i,λ_=>True)::W) f l e s:=by
 have z:∀(l:Array Bool) (s:St),chk ops W l s->chk ops ((i,λ_=>True)::W) l s:=by
  intro l s h w y u;cases y with
  | head=>trivial
  | tail _ y=>exact h w y u
 intro f
 induction f with
 | zero=>intro l e s h;exact⟨z _ _ h.1,h.2⟩
 | succ f B =>
  intro l e s h;refine⟨z _ _ h.1,h.2.1,λj G o ho=>aAs (h.2.2 j G o ho) λs' v m=>?_⟩;unfold cX at *;cases u:o.dst with
  | none=>rw[u]at m;exact B _ _ _ m
  | some d=>rw[u]at m;exact⟨m.1,B _ _ _ m.2⟩
theorem aRl{l:Array Bool}{i:Nat}(h:i∈Region.ready .any ops l):∃o,ops[i]?=some o:=by
 obtain⟨_,o,ho,_⟩:=mem_ready.1 h;exact⟨o,ho⟩
theorem aTa{g:Gh}{k:Nat}{es:List A}{x v:A}{z:Nat}{vo:Value}(h:Rz g (.list (some k) (es++[x])) vo)(hx:x.cells.length=z)(he:g.ends k es.length v):Rz g (.pen k es z) vo:=by
 obtain⟨a,cap,rfl,hm,M,U,hr⟩:=h.list_inv;rcases hr with h0|⟨b,off,sz,pre,rfl,hp,hl,O,h1,hh⟩
 .simp at h0
 obtain⟨Z,m,b0,k1,k2,k3,k4,k5,k6,k7,k8⟩:=he;have H:=U k rfl;have G:(es++[x]).length=es.length+1:=by simp
 rw[G]at H M hl⊢;rw[k1]at H;simp only[bV,qJ,tK,oI,gG]at H;obtain⟨⟨rfl,rfl⟩,rfl⟩:=H;have S:sz=z:=by rw[<-O x bA,hx]
 subst S
 refine .pen k es sz Z m (.list (some k) es Z 0 sz m pre hp ?_ aB hm (λy B=>O y (by simp[B])) (λy B=>h1 y (by simp[B])) (λi y j c u B M hu=>?_) (λt U=>by cases U;exact k2)) M
  (λy B=>O y (by simp[B]))
 .rw[gO]at hl;omega
 .have hi:i<es.length:=(dZ.1 B).1;exact hh i y j c u (by rw[kE hi];exact B) M hu
theorem aDG(s:St)(k:Nat)(es:List A)(z:Nat):(jM s (.pen k es z)).cells=[jM s (.pen k es z)]/\(jM s (.pen k es z)).one=true:=by
 simp only[jM];cases s.ls with
 | none=>exact⟨rfl,rfl⟩
 | some q=>simp only[aCH];split<;>exact⟨rfl,rfl⟩
theorem aR7{k:Nat}{e:TypeId}{v:A}{b o z:Nat}{E:TypeId}{cs es:List A}(hv:v.cells.length=z) :
  Rle C (((s.setO b (.cells E (pJ cs o (jM s (.pen k es z)).cells))).setT k (es.length+1,e)).setL (some (k,es.length,v)))
   (((s.setT k (es.length+1,e)).setL (some (k,es.length,v))).setO b (.cells E (pJ cs o (jM ((s.setT k (es.length+1,e)).setL (some (k,es.length,v))) (.pen k es z)).cells))):=by
 intro F g w h;refine⟨λq x H=>?_,h.tok,h.sep,h.pis,h.frm,h.glb,h.fsh,h.bet,h.inj,h.dtm,h.lst,h.bfr,h.env⟩;rw[aL]at H;by_cases hq:b=q
 .subst hq;simp only[↓reduceIte,bV]at H;subst H
  have h2:(((s.setO b (.cells E (pJ cs o (jM s (.pen k es z)).cells))).setT k (es.length+1,e)).setL (some (k,es.length,v))).getO b=some (.cells E (pJ cs o (jM s (.pen k es z)).cells)):=by
   rw[fF,nW,aL];simp
  obtain⟨j,h3,h4,h5⟩:=h.obj b _ h2;refine⟨j,h3,?_,h5⟩;obtain⟨vs,rest,h6,U,h8⟩:=h4;have b0:pJ cs o (jM s (.pen k es z)).cells=cs.set o (jM s (.pen k es z)):=by rw[(aDG s k es z).1];rfl
  have M:pJ cs o (jM ((s.setT k (es.length+1,e)).setL (some (k,es.length,v))) (.pen k es z)).cells=cs.set o (jM ((s.setT k (es.length+1,e)).setL (some (k,es.length,v))) (.pen k es z)):=by
   rw[(aDG _ k es z).1];rfl
  rw[b0]at U h8;refine⟨vs,rest,h6,?_,?_⟩
  ·rw[M];refine ⟨gQ U.1,fun i c u m hu=>?_⟩;by_cases O:o=i
   .subst O;by_cases S:o<cs.length
    .rw[uX,aF rfl,aF S]at m;cases m;have y:=U.2 o _ u (by rw[uX,aF rfl,aF S]) hu;have B:g.ends k es.length v:=h.lst _ rfl
     have Z:Rz g (.pen k es z) u:=by
      simp only[jM]at y;cases hl:s.ls with
      | none=>rw[hl]at y;exact y
      | some q =>
       rw[hl]at y;simp only[aCH]at y;split at y
       .rename_i m;exact aTa y m.2.2 B
       .exact y
     exact aLG h Z
    .rw[uU (by simp;omega)]at m;cases m
   .rw[List.getElem?_set_ne O]at m;exact U.2 i c u (by rw[List.getElem?_set_ne O];exact m) hu
  .intro c m;rw[M]at m;obtain⟨i,O,rfl⟩:=kM m;have b1:i<cs.length:=gQ O;by_cases G:o=i
   .subst G;rw[List.getElem_set_self];exact(aDG _ k es z).2
   .rw[List.getElem_set_ne G];exact h8 _ (bK (i:=i) (by rw[List.getElem?_set_ne G,dI b1]))
 .simp only[hq,↓reduceIte]at H;refine h.obj q x ?_;rw[fF,nW,aL,aD hq];rw[fF,nW]at H;exact H
theorem aQc{e:Env}{a b:Option Oper}(h:aCu C e a b):∃t x y ty pos after M G H B u m k es z c o,
  a=some ⟨none,.store t x y,ty,pos,after,none⟩/\b=some ⟨none,.store M G H,B,u,m,none⟩ /\
  eZ C e x=some (.rm k es.length z)/\eZ C e G=some (.ptr c o)/\eZ C e H=some (.pen k es z):=by
 unfold aCu at h;split at h;rotate_left
 .exact h.elim
 rename_i t x y ty pos after M G H B u m;unfold aHE at h;split at h;rotate_left
 .exact h.elim
 rename_i a b c O S U;split at h;rotate_left
 .exact h.elim
 split at h;rotate_left
 .exact h.elim
 split at h;rotate_left
 .exact h.elim
 obtain⟨rfl,rfl,rfl⟩:=h;exact⟨t,x,y,ty,pos,after,M,G,H,B,u,m,_,_,_,_,_,rfl,rfl,O,S,U⟩
theorem aQB{l:Array Bool}(h:aG0 ops l=true){m:Nat}{B:Oper}(z:ops[m]?=some B)(hl:uE B.op=true):Dead ops m l:=by
 simp only[aG0,dE,vA]at h;have y:=h m (iW.1 z).1;simp only[z,hl,fP,gW,jS,vA,bP]at y;obtain⟨j,O,⟨u,G⟩,H⟩:=y;cases ho:ops[j]? with
 | none=>simp[xP,ho]at u
 | some o =>
  simp only[xP,ho]at u;exact⟨j,o,ho,u,G,aHj ops.toList [] (λk=>by simp) (λk m M=>by simp at M) j m H⟩
theorem aTE(bm:∀e s s',Rle C s s'->K e s'->K e s){f:Nat}{l:Array Bool}{i j:Nat}{e:Env}(ht:rG ops (f+1) l (.pair i j)=true)(bz:DC ops l)(hc:chk ops W l s)
  (hW:∀w,w∈W->∃o,ops[w.1]?=some o/\uE o.op=true)
  (h:iP C n (ops.toList.map (·.dst)) ops.toList E K Kp (.pair i j) W e s):gN C n ops K Kp W (f+1) l e s:=by
 simp only[rG,bP,List.contains_iff_mem,dE,gV,beq_iff_eq,iY,aBy,dB,List.isEmpty_iff]at ht;obtain⟨⟨⟨⟨⟨⟨⟨⟨hi,hj⟩,hz⟩,b6⟩,bp⟩,bq⟩,b3⟩,b5⟩,hf⟩:=ht;obtain⟨f,rfl⟩:∃f',f=f'+1:=⟨f-1,by have:=jO hf;omega⟩
 have B:∀(l':Array Bool) (s':St),(∀m,Dead ops m l->Dead ops m l')->chk ops W l' s':=λl' s' hl w hw bn=>by
  obtain⟨om,h1,h2⟩:=hW w hw;exact cV (hl _ (aQB b5 h1 h2)) bn
 have b7:Region.ready .any ops ((l.setIfInBounds j true).setIfInBounds i true)=[]:=by rw[Array.setIfInBounds_comm _ _ (λe=>b6 e.symm)];exact b3
 have b4:∀(l':Array Bool) (e:Env) (s:St),Region.ready .any ops l'=[]->(∀m,Dead ops m l->Dead ops m l')->K e s->gN C n ops K Kp W f l' e s:=by
  intro l' e s h1 h2 h3;cases f with
  | zero=>exact⟨B _ _ h2,h1,h3⟩
  | succ f=>exact⟨B _ _ h2,λ_=>h3,λm O=>by have:=aAr O;rw[h1]at this;cases this⟩
 simp only[iP,aG2,aBx]at h;obtain⟨hp,u⟩:=h;obtain⟨t,x,y,ty,pos,after,t',x',y',c0,bv,bk,k,es,z,c,o,ho,b8,hx,b1,b2⟩:=aQc hp;rw[ho,b8]at u;simp only[lY,kI,nV,bF,hx,b1,b2]at u;cases hy:eZ C e y with
 | none=>rw[hy]at u;exact u.elim
 | some v =>
 cases Z:C.tt t with
 | none=>rw[hy,Z]at u;exact u.elim
 | some ti =>
 rw[hy,Z]at u;simp only[uS]at u;cases b0:s.getT k with
 | none=>rw[b0]at u;exact u.elim
 | some me =>
 obtain⟨m,bj⟩:=me;rw[b0]at u;simp only at u;cases U:C.tt bj with
 | none=>rw[U]at u;exact u.elim
 | some te =>
 rw[U]at u;obtain⟨⟨rfl,bf,bg,bb,bh⟩,bw,u⟩:=u;simp only[cX,b1,b2]at u;cases M:C.tt t' with
 | none=>rw[M]at u;exact u.elim
 | some bt =>
 rw[M]at u;simp only[fF,nW]at u;cases hb:s.getO c with
 | none=>rw[hb]at u;exact u.elim
 | some ob =>
 cases ob with
 | iter _ _=>rw[hb]at u;exact u.elim
 | map _ _=>rw[hb]at u;exact u.elim
 | cells E0 cs =>
 rw[hb]at u;obtain⟨bc,_,hK⟩:=u;simp only[cX]at hK;have H:=λs':St=>aDG s' k es z
 have bd:1=bt.sz/\o+1<=cs.length:=by
  obtain⟨q1,q2,_⟩:=bc;rw[(H _).1]at q1 q2;exact⟨q1,q2⟩
 have bl:=bm e _ _ (aR7 (C:=C) (s:=s) (e:=bj) (b:=c) (o:=o) (E:=E0) (cs:=cs) bb) hK;refine⟨hc,λhr=>(by rw[hr]at hi;cases hi),λq hq oq S=>?_⟩;rcases hz q hq with rfl|rfl
 .rw[ho]at S;cases S;simp only[kH,bF,hx,hy,Z,uS,b0,U,cX];refine⟨⟨trivial,bf,bg,bb,bh⟩,B _ _ (λm O=>O.set),λhr=>?_,λq2 b9 br G=>?_⟩
  .have:=ready_mono hj (λe=>b6 e.symm);rw[hr]at this;cases this
  .have:=bp q2 b9;subst this;rw[b8]at G;cases G;simp only[kH,bF,b1,b2,M,fF,nW,hb,cX];exact⟨bc,b4 _ _ _ b3 (λm O=>O.set.set) hK⟩
 .rw[b8]at S;cases S;simp only[kH,bF,b1,b2,M,hb,cX];refine⟨?_,B _ _ (λm O=>O.set),λhr=>?_,λq2 b9 br G=>?_⟩
  .rw[(H s).1];refine⟨bd.1,bd.2,?_⟩;simp only[iF,fG,nK,(H s).2];rfl
  .have:=ready_mono hi b6;rw[hr]at this;cases this
  .have:=bq q2 b9;subst this;rw[ho]at G;cases G;simp only[kH,bF,hx,hy,Z,uS,St.getT_setO,b0,U,cX];exact⟨⟨trivial,bf,bg,bb,bh⟩,b4 _ _ _ b7 (λm O=>O.set.set) bl⟩
theorem aKv{t:OT}{e:Env}:iP C n (ops.toList.map (·.dst)) ops.toList E K Kp t W e s->∀x,x∈mK t ->
  lY C n (ops.toList.map (·.dst)) E x.1 (iP C n (ops.toList.map (·.dst)) ops.toList E K Kp x.2) W Kp e s (ops[x.1]?):=by
 induction t with
 | nil=>intro _ x m;cases m
 | node i r _ =>
  intro h x m;simp only[mK,bO]at m;subst m;simp only[iP,aG2,aBx]at h;exact h
 | alt a b u y =>
  intro h x m;simp only[mK,cK]at m;rcases m with m|m
  .exact u h.1 x m
  .exact y h.2 x m
 | pair i j=>intro _ x m;cases m
theorem aUt(hE:okE ops E=true)(hK:∀e e' s,(∀t,e.get t=e'.get t)->K e s->K e' s)(b5:∀e s s',Rle C s s'->K e s'->K e s) :
  ∀(f:Nat) (l:Array Bool) (t:OT) (W:List (Nat × (St->Prop))) (e:Env) (s:St),rG ops f l t=true->DC ops l->chk ops W l s ->
   (∀w,w∈W->∃o,ops[w.1]?=some o/\uE o.op=true) ->
   iP C n (ops.toList.map (·.dst)) ops.toList E K Kp t W e s->gN C n ops K Kp W f l e s:=by
 intro f
 induction f with
 | zero =>
  intro l t W e s m z S hW h;cases t<;>simp only[rG]at m<;>try cases m
  exact⟨S,gQ m,h⟩
 | succ f ih =>
  intro l t W e s m z S hW h
  have b0:∀i r,i∈Region.ready .any ops l->xP ops i=true->rG ops f (l.setIfInBounds i true) r=true ->
    lY C n (ops.toList.map (·.dst)) E i (iP C n (ops.toList.map (·.dst)) ops.toList E K Kp r) W Kp e s (ops[i]?) ->
    ∀o,ops[i]?=some o->kH C (ops.toList.map (·.dst)) o (cX n o.dst (gN C n ops K Kp W f (l.setIfInBounds i true)) e) Kp e s:=by
   intro i r hr he hk hs o ho;rw[ho]at hs;simp only[xP,ho]at he
   have b8:(l.setIfInBounds i true).getD i false=true:=by
    have:=(wW (mem_ready.1 hr).1).1;simp[this]
   have done:∀e' s' v,(∀t,e.get t=e'.get t)->chk ops W (l.setIfInBounds i true) s' ->
     cX n o.dst (iP C n (ops.toList.map (·.dst)) ops.toList E K Kp r W) e' s' v->cX n o.dst (gN C n ops K Kp W f (l.setIfInBounds i true)) e s' v:=by
    intro e' s' v u b1 y;unfold cX at *;cases U:o.dst with
    | none=>rw[U]at y;exact yY hK _ _ _ _ _ (λt=>(u t).symm) (ih _ r W e' s' hk (z.set hr) b1 hW y)
    | some d =>
     rw[U]at y;refine⟨y.1,yY hK _ _ _ _ _ (λt=>?_) (ih _ r W _ s' hk (z.set hr) b1 hW y.2)⟩;rw[nL,nL];split<;>simp[u]
   refine aTO he hs (λe' s' v u b6 y=>done e' s' v u (λw B hl=>?_) y) (λe' u y=>done e' s _ u (λw B hl=>S w B λU=>hl U.set) y);obtain⟨om,h1,h2⟩:=hW w B;rcases aU0 hE ho h1 he h2 with M|M
   .exact aLI b6 B M
   .exact cV ⟨i,o,ho,he,b8,M⟩ hl
  cases t with
  | nil =>
   simp only[rG]at m;have b4:Region.ready .any ops l=[]:=gQ m;exact⟨S,λ_=>h,λi hi=>by have hi:=aAr hi;rw[b4]at hi;cases hi⟩
  | node i r =>
   simp only[rG]at m;have hs:=aKv h (i,r) (by simp[mK]);simp only at hs;split at m
   .rename_i G;simp only[bP,List.contains_iff_mem,dE,beq_iff_eq]at m;refine⟨S,λhr=>(by rw[hr]at m;cases m.1.1),λj hj o ho=>?_⟩;have:=m.1.2 j hj;subst this;exact b0 _ r (aAr hj) G m.2 hs o ho
   .rename_i G;simp only[bP,List.contains_iff_mem]at m;obtain⟨o,ho⟩:=aRl m.1.1;have H:kI o.op=false:=by simpa [xP,ho]using G
    rw[ho]at hs;obtain⟨v,po,e',u,h1,h2,M⟩:=aSF H hs
    have next:cX n o.dst (gN C n ops K Kp ((i,λs=>∀p,po=some p->p s)::W) f (l.setIfInBounds i true)) e s v:=by
     have b3:chk ops W (l.setIfInBounds i true) s:=λw B hl=>S w B λU=>hl U.set
     have fin:∀O s1,chk ops W (l.setIfInBounds i true) s1->(∀p,po=some p->p s1) ->
       (match po with|none=>iP C n (ops.toList.map (·.dst)) ops.toList E K Kp r W O s1|some p=>iP C n (ops.toList.map (·.dst)) ops.toList E K Kp r ((i,p)::W) O s1) ->
       gN C n ops K Kp ((i,λs=>∀p,po=some p->p s)::W) f (l.setIfInBounds i true) O s1:=by
      intro O s1 b2 y hx;cases Z:po with
      | none =>
       rw[Z]at hx;have:=aSN (i:=i) _ _ _ _ (ih _ r W O s1 m.2 (z.set m.1.1) b2 hW hx);have O:(λs:St=>∀p:St->Prop,(none:Option (St->Prop))=some p->p s)=λ_=>True:=by funext s;simp
       rw[O];exact this
      | some p =>
       rw[Z]at hx;have O:(λs:St=>∀q:St->Prop,some p=some q->q s)=p:=by funext s;simp
       rw[O];refine ih _ r _ _ s1 m.2 (z.set m.1.1) ?_ ?_ hx
       .intro w B hl;cases B with
        | head=>exact y p Z
        | tail _ B=>exact b2 w B hl
       .intro w B;cases B with
        | head=>exact⟨o,ho,(h1 p Z).1⟩
        | tail _ B=>exact hW w B
     unfold tkK at M;unfold cX at *;cases U:o.dst with
     | none =>
      rw[U]at M;refine yY hK _ _ e' _ _ (λt=>(u t).symm) (fin e' s b3 (λp y=>(h1 p y).2) ?_);cases po<;>exact M
     | some d =>
      rw[U]at M;have b7:d<n:=by cases po<;>exact M.1
      refine⟨b7,yY hK _ _ (e'.put d v) _ _ (λt=>?_) (fin _ s b3 (λp y=>(h1 p y).2) ?_)⟩
      .rw[nL,nL];split<;>simp[u]
      .cases po<;>exact M.2
    exact aSa ho H hK v (λs=>∀p,po=some p->p s) f l e s z (Region.free_spec ho m.1.2) m.1.1 (λs' KV y hk=>h2 s' KV y hk) (λp y=>(h1 p y).2) S next
  | alt a b =>
   simp only[rG,bP,dE,jS,beq_iff_eq,iY]at m;obtain⟨⟨h0,h1⟩,h2⟩:=m;refine⟨S,λhr=>(by rw[hr]at h0;cases h0),λj hj o ho=>?_⟩;obtain⟨x,hx,rfl⟩:=h1 j hj;exact b0 x.1 x.2 (aAr hj) (h2 x hx).1 (h2 x hx).2 (aKv h x hx) o ho
  | pair i j=>exact aTE b5 m z S hW h
theorem aS8{op:Op}{ρ:Operand->Option A}{y m:A->Option (St->Prop)->Prop}(h:tE C op ρ s y)(u:∀v B,y v B->m v B):tE C op ρ s m:=by
 cases op
 case load t x =>
  simp only[tE]at h⊢;cases z:ρ x with
  | none=>rw[z]at h;exact pK (C:=C) (ρ:=ρ) (op:=.load t x) (K:=wD y) (K':=wD m) h λv=>u v none
  | some a =>
   rw[z]at h;cases a
   case ptr b o =>
    simp only[tkX]at h⊢;cases hl:vQ C t b o s with
    | none=>rw[hl]at h;exact h.elim
    | some v=>rw[hl]at h;exact u _ _ h
   all_goals exact pK (C:=C) (ρ:=ρ) (op:=.load t x) (K:=wD y) (K':=wD m) h λv=>u v none
 case lookup t x k ok =>
  simp only[tE]at h⊢;unfold lkX at h⊢;split at h
  .unfold lkL at h⊢;split at h
   .exact u _ _ h
   .exact h.elim
  .exact h.elim
 all_goals (simp only[tE]at h⊢;exact pK h λv=>u v none)
theorem aGx{next m:List (Nat × (St->Prop))->Env->St->Prop}{i:Nat}{e:Env}{ds:List (Option Tmp)}(H:∀W e s,next W e s->m W e s){z:Option Oper}
  (h:lY C n ds E i next W Kp e s z):lY C n ds E i m W Kp e s z:=by
 have put:∀{dst:Option Tmp} {W:List (Nat × (St->Prop))} {e:Env} {s:St} {v:A},cX n dst (next W) e s v->cX n dst (m W) e s v:=by
  intro dst W e s v h;unfold cX at *;cases dst with
  | none=>exact H _ _ _ h
  | some d=>exact⟨h.1,H _ _ _ h.2⟩
 cases z with
 | none=>exact h
 | some o =>
  obtain⟨dst,op,ty,pos,after,gd⟩:=o
  have y:∀e,nV C n E i dst op next W Kp e s (kI op)->nV C n E i dst op m W Kp e s (kI op):=by
   intro e h;cases B:kI op with
   | true=>rw[B]at h;exact aDJ h (λs' v u=>⟨u.1,put u.2⟩) λ_ _ h=>h
   | false =>
    rw[B]at h;refine aS8 h λv S u=>?_
    cases S<;>exact put u
  cases gd with
  | none=>exact y e h
  | some O =>
   obtain⟨j,want⟩:=O;simp only[lY]at h⊢;cases M:mL ds j with
   | none=>rw[M]at h;exact h.elim
   | some t =>
    rw[M]at h;simp only[gdY]at h⊢;cases G:e.get t with
    | none=>rw[G]at h;exact h.elim
    | some a =>
     rw[G]at h;cases a<;>simp only[rE]at h⊢
     case bool b =>
      cases b<;>cases want<;>simp only at h⊢
      .exact y _ h
      .exact put h
      .exact put h
      .exact y _ h
     case tuple l=>exact put h
theorem aDN{K':Env->St->Prop}{ds:List (Option Tmp)}{u:List Oper}(m:∀e s,K e s->K' e s):∀(t:OT) (W:List (Nat × (St->Prop))) (e:Env) (s:St),
  iP C n ds u E K Kp t W e s->iP C n ds u E K' Kp t W e s
 | .nil,W,e,s,h=>m e s h
 | .node i r,W,e,s,h=>by
  simp only[iP]at h⊢;exact aGx (λW e s=>aDN m r W e s) h
 | .alt a b,W,e,s,h=>⟨aDN m a W e s h.1,aDN m b W e s h.2⟩
 | .pair i j,W,e,s,h=>⟨h.1,aGx (λW e s h=>aGx (λW e s h=>m e s h) h) h.2⟩
theorem aT9(n:Nat):uO (Array.replicate n false)<=n:=by simp[uO]
theorem aRf{tt:TypeId->Option TI}(h:aD8 tt ops=true):∀i t o,ops[i]?=some o->late ops i=true->o.op=.alloc t->(tt t).isSome=true:=by
 intro i t o ho hl u;simp only[aD8,dE,vA]at h;have m:=h i (iW.1 ho).1;simp only[hl,ho,u,fP,gW]at m;exact m
theorem aTo{id:Nat}{V:List Nat}{u:XK->Env->St->Prop}{e:Env}(t:OT)(E:List (Nat × List Nat))
  (hm:C.P.follows .mixedOrders=true)
  (y:(okE ops E&&rG ops ops.size (Array.replicate ops.size false) t&&aD8 C.tt ops)=true)
  (h:iP C n (ops.toList.map (·.dst)) ops.toList E (nB V u) (aAc u (ops.toList.map (·.dst)) e) t [] e s):aEn C n id ops (kX (nB V u) u) e s:=by
 simp only[bP]at y
 have z:∀(e e':Env) (s:St),(∀t,e.get t=e'.get t)->(∃m s2,e.ge m/\Rle C s s2/\nB V u m s2)->∃m s2,e'.ge m/\Rle C s s2/\nB V u m s2 :=
  λe e' s H ⟨m,s2,M,O⟩=>⟨m,s2,λt a ha=>by rw[<-H t];exact M t a ha,O⟩
 have G:∀(e:Env) (s s':St),Rle C s s'->(∃m s2,e.ge m/\Rle C s' s2/\nB V u m s2)->∃m s2,e.ge m/\Rle C s s2/\nB V u m s2 :=
  λe s s' hr ⟨m,s2,M,O,h3⟩=>⟨m,s2,M,λF g w S=>O F g w (hr F g w S),h3⟩
 have mono:∀(t:OT) (W:List (Nat × (St->Prop))) (e':Env) (s:St),iP C n (ops.toList.map (·.dst)) ops.toList E (nB V u) (aAc u (ops.toList.map (·.dst)) e) t W e' s ->
   iP C n (ops.toList.map (·.dst)) ops.toList E (λe s=>∃m s2,e.ge m/\Rle C s s2/\nB V u m s2) (aAc u (ops.toList.map (·.dst)) e) t W e' s:=by
  exactλt W e s h=>aDN (λe s B=>⟨e,s,Env.ge.refl e,Rle.refl s,B⟩) t W e s h
 intro F g w a S H;refine wp_region_any hm ?_
 have U:DC ops (Array.replicate ops.size false):=by
  intro j o ho hl;exfalso;by_cases hj:j<ops.size
  .simp[hj]at hl
  .simp[hj]at hl
 have hA:=aUt y.1.1 z G ops.size _ t [] e s y.1.2 U (λw Z=>by cases Z) (λw Z=>by cases Z) (mono t [] e s h);refine aUm (aLy e) (Q:=kX (nB V u) u) (λe s B=>B) (λs v B=>B) (aRf y.2) _ _ g e s a _ (aT9 _) (fJ g) ?_ H (aMx H) rfl hA;exact S.heap rfl
end
section
variable (C:Cx) (n:Nat) (ds:List (Option Tmp)) (ops:List Oper) (E:List (Nat × List Nat)) (K:Env->St->Prop) (Kp:St->A->Prop) (W:List (Nat × (St->Prop))) (e:Env) (s:St)
 (next:List (Nat × (St->Prop))->Env->St->Prop)(KK:A->Option (St->Prop)->Prop)
@[go_sem] theorem aWV(t:OT):OT.l [] t=t:=rfl
@[go_sem] theorem aWE(i:Nat)(r:List Nat)(t:OT):OT.l (i::r) t=.node i (OT.l r t):=rfl
@[go_sem] theorem aWW:iP C n ds ops E K Kp .nil W e s=K e s:=rfl
@[go_sem] theorem aWF(i:Nat)(r:OT):iP C n ds ops E K Kp (.node i r) W e s=lY C n ds E i (iP C n ds ops E K Kp r) W Kp e s (nD ops i):=rfl
@[go_sem] theorem aW3(a b:OT):iP C n ds ops E K Kp (.alt a b) W e s=(iP C n ds ops E K Kp a W e s/\iP C n ds ops E K Kp b W e s):=rfl
@[go_sem] theorem aWr(i j:Nat):iP C n ds ops E K Kp (.pair i j) W e s=(aCu C e (nD ops i) (nD ops j)/\lY C n ds E i (λW e s=>lY C n ds E j (λ_=>K) W Kp e s (nD ops j)) W Kp e s (nD ops i)):=rfl
@[go_sem] theorem aVW(o:Oper)(r:List Oper):nD (o::r) 0=some o:=rfl
@[go_sem] theorem aV2(o:Oper)(r:List Oper)(i:Nat):nD (o::r) (i+1)=nD r i:=rfl
@[go_sem] theorem aWo (i:Nat) (dst:Option Tmp) (op:Op) (ty:TypeId) (pos:String) (after:Array Edge) :
  lY C n ds E i next W Kp e s (some ⟨dst,op,ty,pos,after,none⟩)=nV C n E i dst op next W Kp e s (kI op):=rfl
@[go_sem] theorem aV9 (i:Nat) (dst:Option Tmp) (op:Op) (ty:TypeId) (pos:String) (after:Array Edge) (j:Nat) (want:Bool) :
  lY C n ds E i next W Kp e s (some ⟨dst,op,ty,pos,after,some (j,want)⟩)=gdY C n E i dst op next W Kp e s want (mL ds j):=rfl
@[go_sem] theorem aWs(i:Nat)(dst:Option Tmp)(op:Op)(want:Bool)(t:Nat):gdY C n E i dst op next W Kp e s want (some t)=rE C n E i dst op next W Kp e s t want (e.get t):=rfl
@[go_sem] theorem aXl(i:Nat)(dst:Option Tmp)(op:Op)(t:Nat):rE C n E i dst op next W Kp e s t true (some (.bool true))=nV C n E i dst op next W Kp (e.put t (.bool true)) s (kI op):=rfl
@[go_sem] theorem aXt(i:Nat)(dst:Option Tmp)(op:Op)(t:Nat):rE C n E i dst op next W Kp e s t true (some (.bool false))=cX n dst (next W) (e.put t (.bool false)) s (.tuple []):=rfl
@[go_sem] theorem aXf(i:Nat)(dst:Option Tmp)(op:Op)(t:Nat):rE C n E i dst op next W Kp e s t false (some (.bool true))=cX n dst (next W) (e.put t (.bool true)) s (.tuple []):=rfl
@[go_sem] theorem aXh(i:Nat)(dst:Option Tmp)(op:Op)(t:Nat):rE C n E i dst op next W Kp e s t false (some (.bool false))=nV C n E i dst op next W Kp (e.put t (.bool false)) s (kI op):=rfl
@[go_sem] theorem aXG(i:Nat)(dst:Option Tmp)(op:Op)(t:Nat)(want:Bool)(l:List A):rE C n E i dst op next W Kp e s t want (some (.tuple l))=cX n dst (next W) e s (.tuple []):=by
 cases want<;>rfl
@[go_sem] theorem aWu(i:Nat)(dst:Option Tmp)(op:Op):nV C n E i dst op next W Kp e s true=bF C op (eZ C e) (aHT n dst (zT E i) next W e) Kp s:=rfl
@[go_sem] theorem aVV(i:Nat)(dst:Option Tmp)(op:Op):nV C n E i dst op next W Kp e s false=tE C op (eZ C e) s (tkK n dst i next W e s):=rfl
@[go_sem] theorem aW2(dst:Option Tmp)(h:List Nat)(v:A):aHT n dst h next W e s v=(yD h s W/\cX n dst (next W) e s v):=rfl
@[go_sem] theorem aWj(dst:Option Tmp)(i:Nat)(v:A):tkK n dst i next W e s v none=cX n dst (next W) e s v:=rfl
@[go_sem] theorem aWx(dst:Option Tmp)(i:Nat)(v:A)(p:St->Prop):tkK n dst i next W e s v (some p)=cX n dst (next ((i,p)::W)) e s v:=rfl
@[go_sem] theorem aW6(v:A):wD KK v=KK v none:=rfl
@[go_sem] theorem aWH(t:TypeId)(b o:Nat)(v:A):tkL C t b o KK (some v)=KK v (some (aHe C t b o v)):=rfl
@[go_sem] theorem aWQ(t:TypeId)(op:Op)(ρ:Operand->Option A)(b o:Nat):tkX C t op ρ s KK (some (.ptr b o))=tkL C t b o KK (vQ C t b o s):=rfl
@[go_sem] theorem aWt(t:TypeId)(op:Op)(ρ:Operand->Option A)(cs:List A)(o:Nat):tkX C t op ρ s KK (some (.eptr cs o))=cJ C op ρ (wD KK):=rfl
@[go_sem] theorem aV7(t:TypeId)(b o:Nat)(v:A):aHe C t b o v s=(vQ C t b o s=some v):=rfl
@[go_sem] theorem aW1(h:List Nat):yD h s []=True:=rfl
@[go_sem] theorem aWv(h:List Nat)(m:Nat)(p:St->Prop):yD h s ((m,p)::W)=((if h.elem m=true then p s else True)/\yD h s W):=rfl
end
attribute [go_sem] lkX lkL aMp aEF aAa aA6 zM mkA zA lkV
@[go_sem] theorem aXN:Nat.beq 0 2=false:=rfl
@[go_sem] theorem aXI:Nat.beq 1 2=false:=rfl
@[go_sem] theorem aXB:Nat.beq 2 2=true:=rfl
@[go_sem] theorem aXK:Nat.beq 3 2=false:=rfl
@[go_sem] theorem aXC:Nat.beq 4 2=false:=rfl
@[go_sem] theorem aXD:Nat.beq 5 2=false:=rfl
@[go_sem] theorem aXz:Nat.beq 6 2=false:=rfl
@[go_sem] theorem aXF:Nat.beq 7 2=false:=rfl
@[go_sem] theorem aXH:Nat.beq 8 2=false:=rfl
@[go_sem] theorem aXJ:Nat.beq 9 2=false:=rfl
@[go_sem] theorem aXu:Nat.beq 10 2=false:=rfl
@[go_sem] theorem aW9:Nat.beq 11 2=false:=rfl
@[go_sem] theorem aXn:Nat.beq 12 2=false:=rfl
attribute [go_sem] aCu aHE aMV aMP kI zT vQ tE aEl aEh aLT
end
section
def A.le(a b:A):Prop:=∀g v,Rz g a v->Rz g b v
theorem bL(a:A):a.le a:=λ_ _ h=>h
theorem A.le.trans{a b c:A}(h:a.le b)(m:b.le c):a.le c:=λg v x=>m g v (h g v x)
theorem A.le.nils(tk:Option Nat)(h:tk=none):A.le .nils (.list tk []):=λg v x=>by
 subst h;cases x;exact .list0 none none 0 (aW _) bA
theorem A.le.nil:A.le .nils (.list none []):=A.le.nils none rfl
theorem A.le.forget(tk:Option Nat)(es:List A):A.le (.list tk es) (.list none es):=λg v x=>x.forget
def xW:List A->List A->Prop
 | [],[]=>True
 | a::r,b::l=>(a.le b/\b.one=true)/\xW r l
 | _,_=>False
theorem aGB:∀{l r:List A},xW l r->l.length=r.length
 | [],[],_=>rfl
 | _::_,_::_,h=>by simp[aGB h.2]
 | [],_::_,h=>h.elim
 | _::_,[],h=>h.elim
theorem aBZ:∀{l r:List A},xW l r->∀(j:Nat) (b:A),r[j]?=some b->∃a,l[j]?=some a/\a.le b/\b.one=true
 | [],[],_,j,b,u=>by simp at u
 | a::r,b::l,h,j,c,m=>by
  cases j with
  | zero=>simp at m;subst m;exact⟨a,by simp,h.1⟩
  | succ j=>obtain⟨x,y⟩:=aBZ h.2 j c (gQ m);exact⟨x,gQ y⟩
 | [],_::_,h,_,_,_=>h.elim
 | _::_,[],h,_,_,_=>h.elim
theorem A.le.agg{l r:List A}(h:xW l r):A.le (.agg l) (.agg r):=λg v x=>by
 obtain⟨vs,rfl,m,B⟩:=x.agg_inv;refine .agg r vs (by rw[m.1,aGB h]) (λc z=>?_) λj c u z M=>?_
 .obtain⟨j,H,rfl⟩:=kM z;obtain⟨a,_,_,y⟩:=aBZ h j r[j] (dI H);exact y
 .obtain⟨a,G,y,_⟩:=aBZ h j c z;exact y g u (m.2 j a u G M)
def aCD:List A->List A->Prop
 | [],[]=>True
 | a::r,b::l=>a.le b/\aCD r l
 | _,_=>False
theorem aGM:∀{l r:List A},aCD l r->l.length=r.length
 | [],[],_=>rfl
 | _::_,_::_,h=>by simp[aGM h.2]
 | [],_::_,h=>h.elim
 | _::_,[],h=>h.elim
theorem aGG:∀{l r:List A},aCD l r->∀(j:Nat) (b:A),r[j]?=some b->∃a,l[j]?=some a/\a.le b
 | [],[],_,j,b,u=>by simp at u
 | a::r,b::l,h,j,c,m=>by
  cases j with
  | zero=>simp at m;subst m;exact⟨a,by simp,h.1⟩
  | succ j=>obtain⟨x,y⟩:=aGG h.2 j c (gQ m);exact⟨x,gQ y⟩
 | [],_::_,h,_,_,_=>h.elim
 | _::_,[],h,_,_,_=>h.elim
theorem A.le.tuple{l r:List A}(h:aCD l r):A.le (.tuple l) (.tuple r):=λg v x=>by
 obtain⟨vs,rfl,m⟩:=x.tuple_inv;refine .tuple r vs (by rw[m.1,aGM h]) λj c u B G=>?_
 obtain⟨a,z,y⟩:=aGG h j c B;exact y g u (m.2 j a u z G)
def DK(KV:St->A->Prop)(s:St)(a:A):Prop:=∃s2 a2,s.ge s2/\a.le a2/\KV s2 a2
theorem DK.mk{KV:St->A->Prop}{s s2:St}{a a2:A}(h:KV s2 a2)(u:s.ge s2)(m:a.le a2):DK KV s a:=⟨s2,a2,u,m,h⟩
theorem DK.here{KV:St->A->Prop}{s:St}{a:A}(h:KV s a):DK KV s a:=⟨s,a,aE s,bL a,h⟩
theorem aG{KV:St->A->Prop}{s s2:St}{a:A}(h:KV s2 a)(m:s.ge s2):DK KV s a:=⟨s2,a,m,bL a,h⟩
section
variable {C:Cx} {s:St} {f:FuncId} {args:List A} {KV Kp:St->A->Prop}
theorem Den.drop(h:Den C f args (DK KV) (DK Kp) s)(hd:C.det=false:=by rfl):Den C f args KV Kp s:=by
 have m:∀{a b:Nat},C.toCtx.det=true->a<=b:=λh=>by rw[show C.toCtx.det=false from hd]at h;cases h
 intro F g w vals Z hv;have:=h F g w vals Z hv;revert this;generalize (callFunc f vals.toArray).run C.P w=r;intro H;cases r with
 | ok x w' =>
  cases x<;>simp only[OutV]at H⊢
  .obtain⟨u,a,s',y,a2,a3,s2,b,z,B,G⟩:=H;exact⟨u,b,s2,y,a2.weaken z m,B _ _ a3,G⟩
  .obtain⟨u,s',y,a2,s2,b,z,B,G⟩:=H;have S:=B u _ (.tuple [] [] rfl bA)
   have hl:b=.tuple []:=by
    generalize M:(Value.tuple ([]:List Value).toArray)=v at S;cases S<;>first|(cases M;done)|skip
    rename_i cs vs hl _;have U:vs=[]:=gQ M.symm;subst U;rw[eS hl.symm]
   subst hl;exact⟨u,s2,y,a2.weaken z m,G⟩
  .refine Calls.mono H λen b0 O=>?_
   cases en with
   | returned v=>obtain⟨u,a,s',y,a2,a3,s2,b,z,B,G⟩:=O;exact⟨u,b,s2,y,a2.weaken z m,B _ _ a3,G⟩
   | panicked mK=>obtain⟨u,a,v,s',a0,y,a2,a3,s2,b,z,B,G⟩:=O;exact⟨u,b,v,s2,a0,y,a2.weaken z m,B _ _ a3,G⟩
   | outgrown=>exact O
 | halt x w' =>
  cases x<;>simp only[OutV]at H⊢
  obtain⟨u,a,s',y,a2,a3,s2,b,z,B,G⟩:=H;exact⟨u,b,s2,y,a2.weaken z m,B _ _ a3,G⟩
def kC:List A->List A->Prop:=aCD
theorem jI{az:List A}(hl:kC args az)(h:Den C f az KV Kp s):Den C f args KV Kp s:=λF g w vals z u =>
 h F g w vals z ⟨by rw[u.1,aGM hl],λj c v G m=>by
  obtain⟨a,B,y⟩:=aGG hl j c G;exact y g v (u.2 j a v B m)⟩
end
@[go_sem] theorem iM (s:St) (b c:Nat) (o:Ob):((s.setO b o).getO c=none)=((b≠c∧c≠b)∧s.getO c=none):=by
 rw[aL];by_cases h:b=c
 .subst h;simp
 .have m:¬ c=b:=λe=>h e.symm
  simp[h,m]
theorem aI{s:St}{b c:Nat}{o:Ob}(h:s.getO b=some o)(m:s.getO c=none):b≠c/\c≠b:=by
 constructor
 .rintro rfl;rw[h]at m;cases m
 .rintro rfl;rw[h]at m;cases m
attribute [go_sem] aL nW St.getT_setO dC
def aP:=@DK.here
end
section
def eqT(B:List TypeId)(S:List (TypeId × List Nat))(N M:List TypeId)(t:TypeId):A->A->Option Bool
 | .nils,.nils=>if N.elem t then some true else none
 | .list _ (_::_),.nils=>if N.elem t then some false else none
 | .ml _ _ _,.nils=>if N.elem t then some false else none
 | .emp,.nils=>if N.elem t then some false else none
 | .nilp,.nilp=>if M.elem t then some true else none
 | .ptr _ _,.nilp=>if M.elem t then some false else none
 | .ptr a o,.ptr b p=>if M.elem t&&Nat.beq a b&&Nat.beq o p then some true else none
 | .bool a,.bool b=>if B.elem t then some (a == b) else none
 | .agg az,.agg bs=>match S.lookup t with
  | some ks=>zB ks az bs
  | none=>none
 | _,_=>none
def aHL(P:Program)(t:TypeId):Bool:=match P.underlying t with
 | some (.slice _)=>true
 | _=>false
def aHR(P:Program)(t:TypeId):Bool:=match P.underlying t with
 | some (.pointer e)=>(match P.info? e with
  | some i=>i.size != 0
  | none=>false)
 | _=>false
def aEG(P:Program)(B:List TypeId)(S:List (TypeId × List Nat))(N M:List TypeId):Bool :=
 (B.all (λt=>sO P t 1)&&S.all λx=>aCA P x.1 x.2)&&(N.all (aHL P)&&M.all (aHR P))
section
variable {P:Program} {w:World} {t:TypeId}
theorem aCt(h:aHL P t=true)(a:Option Addr)(l c:Nat){op:BinOp}(m:op=.eql\/op=.neq)(x y:Operand) :
  (eqGuard op t x y (.slice a l c) (.slice none 0 0)).run P w=.ok () w/\(binOp op t (.slice a l c) (.slice none 0 0)).run P w=.ok (.bool (if op=.eql then a.isNone else !a.isNone)) w:=by
 unfold aHL at h;split at h
 .rename_i e u;refine⟨by rcases m with rfl|rfl<;>rfl,?_⟩;rcases m with rfl|rfl
  .simp only[binOp,bN,run_equal_slice_nil w t e a l c u,bM,cG,dF]
  .rw[run_neq_slice_nil w t e a l c u];simp
 .cases h
theorem aHg(h:aHR P t=true)(a:Option Addr)(b:Option Addr)(r:Bool)
  (H:(a=none/\r=b.isNone)\/(b=none/\r=a.isNone)\/(∃k,a=some k/\b=some k/\r=true)){op:BinOp}(u:op=.eql\/op=.neq)(x y:Operand) :
  (eqGuard op t x y (.pointer a) (.pointer b)).run P w=.ok () w/\(binOp op t (.pointer a) (.pointer b)).run P w=.ok (.bool (if op=.eql then r else !r)) w:=by
 unfold aHR at h;split at h
 .rename_i e z;split at h
  .rename_i i B;have G:i.size≠0:=gQ h
   have m:∀d:Nat,(Op.equalIn (d+1) t (.pointer a) (.pointer b)).run P w=.ok r w:=by
    intro d;rcases H with⟨rfl,rfl⟩|⟨rfl,rfl⟩|⟨k,rfl,rfl,rfl⟩
    .simp[Op.equalIn,dN z]
    .cases a<;>simp[Op.equalIn,dN z]
    .simp[Op.equalIn,dN z,sizeOf,typeInfo,B,G,run_sameAddr_same]
   have heq:(Op.equal t (.pointer a) (.pointer b)).run P w=.ok r w:=m 9999;refine⟨by rcases u with rfl|rfl<;>rfl,?_⟩;rcases u with rfl|rfl
   .simp only[binOp,bN,heq,bM,cG,dF]
   .simp only[binOp,bN,heq,bM,cG,reduceCtorEq,cZ]
  .cases h
 .cases h
end
theorem aQv{S:List (TypeId × List Nat)}{t:TypeId}{ks:List Nat}(h:S.lookup t=some ks):(t,ks)∈S:=by
 induction S with
 | nil=>simp at h
 | cons x S y =>
  obtain⟨u,l⟩:=x;simp only[List.lookup]at h;split at h
  .rename_i m;have:t=u:=gQ m;cases h;subst this;simp
  .exact eA _ (y h)
theorem aUp{P:Program}{B:List TypeId}{S:List (TypeId × List Nat)}{N M:List TypeId}(z:aEG P B S N M=true)(t:TypeId)(a b:A)(r:Bool)(h:eqT B S N M t a b=some r)
  (g:Gh)(va vb:Value)(w:World)(op:BinOp)(x y:Operand)(m:op=.eql\/op=.neq)(H:Rz g a va)(O:Rz g b vb) :
  (eqGuard op t x y va vb).run P w=.ok () w/\(binOp op t va vb).run P w=.ok (.bool (if op=.eql then r else !r)) w:=by
 simp only[aEG,bP,dE]at z;obtain⟨z,hN,hM⟩:=z;unfold eqT at h;split at h
 .split at h
  .rename_i u;cases h;rw[H.nils_inv,O.nils_inv];exact aCt (hN t (gQ u)) none 0 0 m x y
  .cases h
 .split at h
  .rename_i u;cases h;obtain⟨ad,cap,G,_,_,_,hh⟩:=H.list_inv;rcases hh with hh|⟨bk,off,sz,pre,rfl,_⟩
   .cases hh
   rw[G,O.nils_inv];exact aCt (hN t (gQ u)) (some ⟨bk,off,none⟩) _ _ m x y
  .cases h
 .split at h
  .rename_i u;cases h;obtain⟨k,cap,G,_⟩:=H.ml_inv;rw[G,O.nils_inv];exact aCt (hN t (gQ u)) (some _) _ _ m x y
  .cases h
 .split at h
  .rename_i u;cases h;obtain⟨k,G⟩:=H.emp_inv;rw[G,O.nils_inv];exact aCt (hN t (gQ u)) (some _) _ _ m x y
  .cases h
 .split at h
  .rename_i u;cases h;rw[H.nilp_inv,O.nilp_inv];exact aHg (hM t (gQ u)) none none true (.inl ⟨rfl,rfl⟩) m x y
  .cases h
 .split at h
  .rename_i u;cases h;obtain⟨k,G,_⟩:=H.ptr_inv;rw[G,O.nilp_inv];exact aHg (hM t (gQ u)) (some _) none false (.inr (.inl ⟨rfl,rfl⟩)) m x y
  .cases h
 .split at h
  .rename_i a' o' b' p' u;simp only[bP]at u;cases h;have e1:=sB u.1.2;have e2:=sB u.2;subst e1 e2;obtain⟨k,G,hk⟩:=H.ptr_inv;obtain⟨k2,b2,Z⟩:=O.ptr_inv;rw[hk]at Z;cases Z;rw[G,b2];exact aHg (hM t (gQ u.1.1)) (some _) (some _) true (.inr (.inr ⟨_,rfl,rfl,rfl⟩)) m x y
  .cases h
 .split at h
  .rename_i hb;simp only[bV]at h;subst h;have hk:=z.1 t (gQ hb)
   have hu:P.underlying t=some .bool:=by
    unfold sO at hk;split at hk<;>simp_all
   rw[H.bool_inv,O.bool_inv];refine⟨by rcases m with rfl|rfl<;>rfl,?_⟩;rcases m with rfl|rfl
   .simp only[binOp,bN,run_equal_bool w t _ _ hu,bM,cG,dF]
   .simp only[binOp,bN,run_equal_bool w t _ _ hu,bM,cG,reduceCtorEq,cZ]
  .simp at h
 .split at h
  .rename_i ks b1;have hf:=z.2 _ (aQv b1);simp only[aCA,bP,iY]at hf;obtain⟨⟨h1,h2⟩,h3⟩:=hf;split at h3
   .rename_i fs hu;obtain⟨vs,rfl,b4,_⟩:=H.agg_inv;obtain⟨us,rfl,b3,_⟩:=O.agg_inv;have U:P.fieldsOf t=fs:=by simp[Program.fieldsOf,hu]
    have b0:=aFT (P:=P) (g:=g) (w:=w) (d:=9998) (i:=0) (xs:=vs.toArray) (ys:=us.toArray) h3 h (gQ b4) (gQ b3)
    have heq:(Op.equalIn 10000 t (.agg vs.toArray) (.agg us.toArray)).run P w=.ok r w:=by
     rw[show 10000=9999+1 from rfl,run_equalIn_struct w 9999 t _ _ (by rw[U];exact hu) h1,U];exact b0
    refine⟨run_eqGuard_agg w op t x y _ _ h2,?_⟩;rcases m with rfl|rfl
    .rw[run_eql_struct,heq];rfl
    .rw[run_neq_struct,heq];rfl
   .simp at h3
  .simp at h
 .simp at h
attribute [go_sem] eqT zB eqK
end
end Go.AV
section
open Go.Proofs.Tryz
namespace Go.AV
open Go
section
variable {C:Cx} {n:Nat} {ds:List (Option Tmp)} {dst:Option Tmp} {op:Op} {r:List Oper} {K:Env->St->Prop} {Kp:St->A->Prop} {e:Env} {s:St} {t:Nat} {want b:Bool}
theorem gC8(h:b=true->tC C n ds dst op r K Kp e s t want (some (.bool true)))(m:b=false->tC C n ds dst op r K Kp e s t want (some (.bool false))) :
  tC C n ds dst op r K Kp e s t want (some (.bool b)):=by
 cases b
 .exact m rfl
 .exact h rfl
theorem gD1{E:List (Nat × List Nat)}{i:Nat}{next:List (Nat × (St->Prop))->Env->St->Prop}{W:List (Nat × (St->Prop))}
  (h:b=true->rE C n E i dst op next W Kp e s t want (some (.bool true)))(m:b=false->rE C n E i dst op next W Kp e s t want (some (.bool false))) :
  rE C n E i dst op next W Kp e s t want (some (.bool b)):=by
 cases b
 .exact m rfl
 .exact h rfl
theorem gC9{V:List Nat}{x y:Code}{Q:XK->Env->St->Prop}(h:b=true->fS C n V x Q e s)(m:b=false->fS C n V y Q e s) :
  brK C n V x y Q e s (some (.bool b)):=by
 cases b
 .exact m rfl
 .exact h rfl
end
theorem gF{s:St}{b:Nat}{o:Ob}(h:s.getO b=none):(s.setO b o).ge s :=
 ⟨fun c x m => by
  rw[aL];have:=aI m h;simp[this.2,m],λt n h=>h,λ_ h=>h⟩
theorem bG{s:St}{b:Nat}{o:Ob}{s2:St}(h:s2.getO b=none)(m:s.ge s2):(s.setO b o).ge s2 :=
 ⟨fun c x u => by
  rw[aL];have:=aI u h;simp[this.2,m.ob c x u],λt n h=>m.tk t n h,λx h=>m.ls x h⟩
end Go.AV
namespace Go.AV
open Go
@[go_sem] theorem aVR (s:St) (b n cap:Nat) (e e':TypeId) (sz m:Nat) (ys cs:List A) (KV:St→A→Prop):vU false s b n cap e sz m ys KV (some (.cells e' cs)) =
  ((false=false/\e'=e/\cs.length=cap * sz/\n<=cap/\n+m<=4294967296/\0<m) /\
  ∀(u h:Nat) (J:List A),(u=b/\h=cap\/s.getO u=none)->n+m<=h->J.length=(h-(n+m)) * sz->(∀c,c∈J->c.one=true) ->
   KV (s.setO u (.cells e (cs.take (n * sz)++(eC ys++J)))) (.mg u (n+m) h)):=rfl
attribute [go_sem] aEy
def gv(tk:Option Nat)(es:List A):A:=match tk with
 | none=>.nils
 | some t=>.list (some t) es
def iV(s:St)(tk:Option Nat)(n:Nat)(e:TypeId):Prop:=match tk with
 | none=>n=0
 | some t=>s.getT t=some (n,e)
theorem aDU(es:List A):gv none es=.nils:=rfl
theorem eK(t:Nat)(es:List A):gv (some t) es=.list (some t) es:=rfl
@[go_sem] theorem aLa(tk:Option Nat)(es:List A):(gv tk es).cells=[gv tk es]:=by cases tk<;>rfl
@[go_sem] theorem zC(tk:Option Nat)(es:List A):(gv tk es).one=true:=by cases tk<;>rfl
@[go_sem] theorem aW5(s:St)(tk:Option Nat)(es:List A):jM s (gv tk es)=gv tk es:=by cases tk<;>rfl
theorem pP{s:St}{tk:Option Nat}{es:List A}{e:TypeId}(h:iV s tk es.length e):nA (gv tk es)=some (.int .i64 es.length):=by
 cases tk with
 | none =>
  have m:es.length=0:=h;simp only[gv,nA,m];rfl
 | some t=>rfl
theorem dU{C:Cx}{s:St}{e:TypeId}{z:TI}{ys:List A}{KV:St->A->Prop}{tk:Option Nat}{es:List A}(u:C.det=false)(M:Nat.beq C.mu 1=false)(m:iV s tk es.length e)
  (G:∀y,y∈es->y.cells.length=z.sz)(hl:es.length+ys.length<=4294967296)
  (h:∀t,(tk=some t\/tk=none/\s.getT t=none)->KV (s.setT t (es.length+ys.length,e)) (.list (some t) (es++ys))):rD C s e z ys KV (gv tk es):=by
 cases tk with
 | none =>
  have B:es=[]:=eS m;subst B;refine⟨gQ hl,?_⟩;unfold qA;rw[u];simp only[M];unfold newT;rw[u];intro t H;have:=h t (.inr ⟨rfl,H⟩);simpa using this
 | some t=>exact⟨m,G,hl,h t (.inl rfl)⟩
theorem aCb{α:Type}(p:Nat)(c d:α):∀L,oX p d (oX p c L)=oX p d L
 | []=>by simp[oX]
 | (q,x)::L=>by
  unfold oX;by_cases h:q=p
  .simp[h,oX]
  .simp[h,oX,aCb p c d L]
@[go_sem] theorem qP(s:St)(b:Nat)(o h:Ob):(s.setO b o).setO b h=s.setO b h:=by
 simp only[St.setO,aCb]
end Go.AV
namespace Go.AV
open Go
def Rlz(a:A):Prop:=∃g v,Rz g a v
theorem Rlz.len{tk:Option Nat}{es:List A}(h:Rlz (.list tk es)):es.length<=maxLen:=by
 obtain⟨g,v,h⟩:=h;obtain⟨m,cap,z,y,u,_⟩:=h.list_inv;omega
theorem Rlz.wrap{tk:Option Nat}{es:List A}(h:Rlz (.list tk es)){i:Nat}(m:i<es.length):IntKind.i64.wrap ((i:Int)+1)=((i+1:Nat):Int):=by
 have:=h.len;unfold maxLen at this;exact aU i aB
theorem Rlz.cell{cs:List A}(h:Rlz (.agg cs)){c:A}(y:c∈cs):Rlz c:=by
 obtain⟨g,v,h⟩:=h;obtain⟨vs,rfl,m,_⟩:=h.agg_inv;obtain⟨j,z,rfl⟩:=kM y;obtain⟨u,_,B⟩:=m.get (dI z);exact⟨g,u,B⟩
theorem Rlz.elem{tk:Option Nat}{es:List A}(h:Rlz (.list tk es)){e:A}(z:e∈es){c:A}(G:c∈e.cells):Rlz c:=by
 obtain⟨g,v,h⟩:=h;obtain⟨O,cap,hv,Z,y,_,u⟩:=h.list_inv;rcases u with rfl|⟨b,off,sz,pre,rfl,hp,hl,M,B,u⟩
 .cases z
 .obtain⟨i,m,rfl⟩:=kM z;obtain⟨j,H,rfl⟩:=kM G;have S:=M _ (kF m)
  have U:i * sz+j<es.length * sz:=by
   have:(i+1) * sz<=es.length * sz:=rH _ m;rw[gO]at this;omega
  exact⟨g,_,u i _ j _ pre[off+i * sz+j] (dI m) (dI H) (dI aB)⟩
theorem Rlz.agg_elem{tk:Option Nat}{es:List A}(h:Rlz (.list tk es)){cs:List A}(y:A.agg cs∈es):Rlz (.agg cs):=by
 obtain⟨g,v,h⟩:=h;obtain⟨Z,cap,m,hm,H,_,G⟩:=h.list_inv;rcases G with rfl|⟨b,off,sz,pre,rfl,hp,hl,U,u,G⟩
 .cases y
 .obtain⟨i,M,B⟩:=kM y;have O:=U _ y
  have hb:i * sz+sz<=es.length * sz:=by
   have:(i+1) * sz<=es.length * sz:=rH _ M
   rwa[gO,Nat.one_mul]at this
  have S:cs.length=sz:=O;refine⟨g,.agg ((pre.drop (off+i * sz)).take sz).toArray,.agg cs _ (by rw[dT,dS];omega) (λc z=>u _ y c z) λj c v z m=>?_⟩;rw[mS]at m;split at m
  .rw[mR]at m;exact G i (.agg cs) j c v (by rw[dI M,B]) z m
  .cases m
section
variable {C:Cx} {s:St} {f:FuncId} {args:List A} {KV Kp:St->A->Prop}
theorem hH(h:(∀a,a∈args->Rlz a)->Den C f args KV Kp s):Den C f args KV Kp s:=λF g w vals y m =>
 h (λa z=>by
  obtain⟨j,B,rfl⟩:=kM z;obtain⟨u,_,G⟩:=m.get (dI B);exact⟨g,u,G⟩) F g w vals y m
end
theorem cH{X:St}{H Q:Nat->Prop}(k:∀p,H p->Q p)(h:∀p,X.getO p=none->H p:=by(intro p h;(try simp only[nW,iM,dB]at h);exact h)):∀p,X.getO p=none->Q p:=λp e=>k p (h p e)
theorem gZ(S:St)(b:Nat)(o:Ob)(h:S.getO b=none):∃m,m.getO b=some o/\m.ge S/\S.setO b o=m:=⟨_,by rw[aL,aF rfl],bG h (aE _),rfl⟩
theorem aM{X:St}{H Q:Nat->Prop}(k:∀p,H p->Q p)(h:∀p,X.getO p=none->H p:=by(intro p h;(try simp only[iM,dB]at h);exact h)):∀p,X.getO p=none->Q p:=λp e=>k p (h p e)
theorem gE{s1 s:St}{F:Prop}(f:F)(h:F->s1.ge s:=by(intro f;repeat (first|(refine bG ?_ ?_;focus (simp only[iM,dB,fY,sJ,f]<;>done))|exact aE _))):s1.ge s:=h f
end Go.AV
end
namespace Go.AV
open Go Go.Proofs Tryz
theorem aOL{C:Cx}{f:FuncId}{args:List A}{s:St}{KV Kp:St->A->Prop}
  (m:∀vals w,(callFunc f vals).run C.P w=.ok (.enter f vals) w)
  (h : ∀ F g w vals,R C.toCtx F g s w → Rzs g args vals → Calls C.P f vals.toArray w fun e w' =>
   ∃v a,e=.returned v/\(∀k,k<w.heap.size->w'.heap[k]?=w.heap[k]?)/\(w'.os,w'.output)=(w.os,w.output)/\Rz g a v/\KV s a):Den C f args KV Kp s:=by
 intro F g w vals u M;rw[m];refine Calls.mono (h F g w vals u M) λe w' G=>?_
 obtain⟨v,a,rfl,B,z,H,y⟩:=G;exact⟨g,a,s,fJ g,u.keep B z,H,y⟩
inductive Tr (α:Type) where
 | lf
 | nd (l:Tr α) (v:Option α) (r:Tr α)
def Tr.get{α:Type}:Tr α->Nat->Option α
 | .lf,_=>none
 | .nd l v r,n=>match n with
  | 0=>v
  | k+1=>match Nat.beq (k % 2) 0 with
   | true=>l.get (k / 2)
   | false=>r.get (k / 2)
def aGZ:Code->Option (FuncId × Operand)
 | .region _ ops m=>match m with
  | true=>none
  | false=>match ops.toList with
   | [o]=>match o.dst,o.guard,o.op with
    | none,none,.defer c=>match c.callee,c.args.toList with
     | .value (.func h),[x]=>some (h,x)
     | _,_=>none
    | _,_,_=>none
   | _=>none
 | _=>none
theorem aOF{C:Cx}{f:FuncId}{fn:Func}{c:Code}{args:List A}{KV Kp:St->A->Prop}{s:St}(G:C.P.funcs[f]?=some fn)(B:fn.body=some c)
  (m : (fn.name == "runtime.NumGoroutine") = false) (hn : args.length ≤ fn.ntmps)
  (h:∀F g w (a:Act),R C.toCtx F g s w->EnvOk g fn.ntmps (oN 0 args) a.tmps->a.defers=[]->c.wp C.P (bodyPostD C.P fn (aAY C F g KV Kp)) a w):Den C f args KV Kp s:=by
 intro F g w vals S H
 have y:(callFunc f vals.toArray).run C.P w=.ok (.enter f vals.toArray) w:=by
  simp only[callFunc,bN,run_program,bM,G,m,dA,↓reduceIte,B,qI,cG]
 rw[y];refine calls_of_wp_defers G B ?_
 have O:EnvOk g fn.ntmps (oN 0 args) (vals.toArray++Array.replicate (fn.ntmps-vals.toArray.size) undef):=by
  have hl:vals.length=args.length:=H.1;refine⟨by simp;omega,λt a U=>?_⟩;obtain⟨_,M⟩:=aGc args 0 t a U;obtain⟨u,z,Z⟩:=H.get M;rw[Nat.sub_zero]at z;refine⟨u,?_,Z⟩;have:t<vals.length:=(dZ.1 z).1;rw[Array.getElem?_append_left (gQ this)];simpa using z
 exact h F g w ⟨_,[]⟩ S O rfl
def zY(h k:Nat):Deferred:={ target:=.fn (.func h) #[],args:=#[.pointer (some ⟨k,0,none⟩)] }
theorem aQs{c:Code}{h:FuncId}{x:Operand}(m:aGZ c=some (h,x)):∃G ops z ty pos after,c=.region G ops false/\ops.toList=[⟨none,.defer ⟨.value (.func h),#[x],z⟩,ty,pos,after,none⟩]:=by
 unfold aGZ at m;split at m
 .rename_i G ops H;split at m
  .cases m
  .split at m
   .rename_i o ho;split at m
    .rename_i c M O B;split at m
     .rename_i U Z y u;cases m;obtain⟨dst,op,ty,pos,after,gd⟩:=o;obtain⟨S,args,z⟩:=c;simp only at M O B y u;subst M O B y;refine⟨G,ops,z,ty,pos,after,rfl,?_⟩;rw[ho];have:args=#[x]:=by apply Array.ext';exact u
      rw[this]
     .cases m
    .cases m
   .cases m
 .cases m
def St.zero:St:=⟨λ_=>none,[],λ_=>none,[],0,none⟩
@[go_sem] def y1:TI:=⟨.other,1,8,[.nilf]⟩
@[go_sem] def y2:TI:=⟨.int .i64,1,8,[.int .i64 0]⟩
@[go_sem] def y3:TI:=⟨.bool,1,1,[.bool false]⟩
@[go_sem] def y4:TI:=⟨.int .u8,1,1,[.int .u8 0]⟩
@[go_sem] def y5:TI:=⟨.struct [(0,1,false),(1,1,false),(2,1,false),(3,1,false)],4,24,[.int .i64 0,.int .i64 0,.bool false,.int .u8 0]⟩
@[go_sem] def y6:TI:=⟨.string,1,16,[.str []]⟩
@[go_sem] def y7:TI:=⟨.int .u64,1,8,[.int .u64 0]⟩
@[go_sem] def y8:TI:=⟨.struct [(0,1,false),(1,1,false)],2,24,[.str [],.int .u64 0]⟩
@[go_sem] def y9:TI:=⟨.other,1,8,[.nilp]⟩
@[go_sem] def y10:TI:=⟨.struct [(0,1,false)],1,8,[.nilp]⟩
@[go_sem] def y11:TI:=⟨.iface,1,16,[.nili]⟩
@[go_sem] def y12:TI:=⟨.int .i32,1,4,[.int .i32 0]⟩
@[go_sem] def y13:TI:=⟨.slice 9,1,24,[.nils]⟩
@[go_sem] def y14:TI:=⟨.slice 112,1,24,[.nils]⟩
@[go_sem] def y15:TI:=⟨.slice 80,1,24,[.nils]⟩
@[go_sem] def y16:TI:=⟨.struct [(0,1,false),(1,1,false),(2,1,false),(3,1,false),(4,1,false)],5,120,[.nils,.nils,.nils,.nils,.nils]⟩
@[go_sem] def y17:TI:=⟨.slice 69,1,24,[.nils]⟩
@[go_sem] def y18:TI:=⟨.slice 96,1,24,[.nils]⟩
@[go_sem] def y19:TI:=⟨.slice 50,1,24,[.nils]⟩
@[go_sem] def y20:TI:=⟨.struct [(0,1,false),(1,5,true),(6,1,false),(7,1,false),(8,1,false),(9,1,false),(10,1,false),(11,1,false),(12,1,false)],13,280,[.str [],.nils,.nils,.nils,.nils,.nils,.nils,.nils,.str [],.nils,.nils,.str [],.str []]⟩
@[go_sem] def y21:TI:=⟨.struct [(0,1,false),(1,1,false),(2,1,false),(3,1,false)],4,40,[.int .i64 0,.str [],.int .i64 0,.int .i64 0]⟩
@[go_sem] def y22:TI:=⟨.slice 101,1,24,[.nils]⟩
@[go_sem] def y23:TI:=⟨.slice 67,1,24,[.nils]⟩
@[go_sem] def y24:TI:=⟨.slice 103,1,24,[.nils]⟩
@[go_sem] def y25:TI:=⟨.struct [(0,1,false),(1,1,false),(2,1,false),(3,1,false),(4,1,false),(5,1,false),(6,1,false)],7,128,[.str [],.nils,.nils,.nils,.nils,.int .i64 0,.int .i64 0]⟩
@[go_sem] def yE:TI:=⟨.struct [(0,1,false),(1,1,false)],2,16,[.int .i64 0,.int .i64 0]⟩
@[go_sem] def y27:TI:=⟨.struct [(0,13,true),(13,1,false)],14,288,[.str [],.nils,.nils,.nils,.nils,.nils,.nils,.nils,.str [],.nils,.nils,.str [],.str [],.nilp]⟩
@[go_sem] def y28:TI:=⟨.struct [(0,1,false),(1,1,false),(2,1,false),(3,1,false),(4,1,false),(5,1,false)],6,96,[.int .i64 0,.int .i64 0,.str [],.str [],.nils,.nils]⟩
@[go_sem] def y29:TI:=⟨.struct [(0,6,true),(6,6,true),(12,1,false),(13,1,false),(14,1,false)],15,232,[.int .i64 0,.int .i64 0,.str [],.str [],.nils,.nils,.int .i64 0,.int .i64 0,.str [],.str [],.nils,.nils,.nils,.int .i64 0,.int .i64 0]⟩
@[go_sem] def y30:TI:=⟨.struct [(0,13,true),(13,4,true)],17,320,[.str [],.nils,.nils,.nils,.nils,.nils,.nils,.nils,.str [],.nils,.nils,.str [],.str [],.int .i64 0,.str [],.int .i64 0,.int .i64 0]⟩
@[go_sem] def y31:TI:=⟨.slice 218,1,24,[.nils]⟩
@[go_sem] def y32:TI:=⟨.slice 3,1,24,[.nils]⟩
@[go_sem] def y33:TI:=⟨.struct [(0,1,false),(1,1,false),(2,1,false),(3,1,false),(4,1,false),(5,1,false),(6,1,false)],7,120,[.str [],.nils,.str [],.nils,.int .i64 0,.int .i64 0,.nils]⟩
@[go_sem] def y34:TI:=⟨.map 4 0,1,8,[.nilm]⟩
@[go_sem] def y35:TI:=⟨.struct [(0,1,false),(1,1,false),(2,6,true),(8,1,false),(9,1,false)],10,144,[.str [],.str [],.int .i64 0,.int .i64 0,.str [],.str [],.nils,.nils,.int .i64 0,.int .i64 0]⟩
@[go_sem] def y36:TI:=⟨.struct [(0,1,false),(1,1,false),(2,6,true),(8,1,false),(9,1,false),(10,1,false)],11,168,[.str [],.str [],.int .i64 0,.int .i64 0,.str [],.str [],.nils,.nils,.nils,.int .i64 0,.int .i64 0]⟩
@[go_sem] def y37:TI:=⟨.struct [(0,1,false)],1,24,[.nils]⟩
@[go_sem] def yI:TI:=⟨.struct [(0,1,false),(1,1,false)],2,32,[.str [],.str []]⟩
@[go_sem] def y39:TI:=⟨.map 22 0,1,8,[.nilm]⟩
@[go_sem] def y40:TI:=⟨.map 80 0,1,8,[.nilm]⟩
@[go_sem] def y41:TI:=⟨.struct [(0,5,true),(5,1,false),(6,1,false),(7,1,false)],8,144,[.nils,.nils,.nils,.nils,.nils,.nilm,.nilm,.nilm]⟩
@[go_sem] def y42:TI:=⟨.slice 24,1,24,[.nils]⟩
@[go_sem] def y43:TI:=⟨.struct [(0,1,false),(1,1,false)],2,16,[.int .i64 0,.bool false]⟩
@[go_sem] def y44:TI:=⟨.map 4 2,1,8,[.nilm]⟩
@[go_sem] def y45:TI:=⟨.slice 22,1,24,[.nils]⟩
@[go_sem] def y46:TI:=⟨.map 9 0,1,8,[.nilm]⟩
@[go_sem] def y47:TI:=⟨.slice 28,1,24,[.nils]⟩
@[go_sem] def y48:TI:=⟨.slice 47,1,24,[.nils]⟩
@[go_sem] def y49:TI:=⟨.int .u32,1,4,[.int .u32 0]⟩
@[go_sem] def y50:TI:=⟨.slice 209,1,24,[.nils]⟩
@[go_sem] def y51:TI:=⟨.struct [(0,1,false),(1,1,false),(2,1,false),(3,1,false),(4,1,false)],5,48,[.int .i64 0,.str [],.int .i64 0,.int .i64 0,.int .i64 0]⟩
@[go_sem] def y52:TI:=⟨.struct [(0,1,false),(1,1,false),(2,4,true),(6,13,true),(19,5,true),(24,1,false),(25,1,false)],26,416,[.nils,.int .i64 0,.int .i64 0,.str [],.int .i64 0,.int .i64 0,.str [],.nils,.nils,.nils,.nils,.nils,.nils,.nils,.str [],.nils,.nils,.str [],.str [],.int .i64 0,.str [],.int .i64 0,.int .i64 0,.int .i64 0,.int .i64 0,.bool false]⟩
@[go_sem] def y53:TI:=⟨.map 4 1,1,8,[.nilm]⟩
@[go_sem] def y54:TI:=⟨.slice 4,1,24,[.nils]⟩
@[go_sem] def y55:TI:=⟨.array 256 5,256,256,List.replicate 256 (.int .u8 0)⟩
@[go_sem] def y56:TI:=⟨.struct [(0,1,false),(1,1,false),(2,1,false),(3,1,false),(4,1,false),(5,1,false)],6,72,[.str [],.int .i64 0,.int .i64 0,.int .i64 0,.nils,.bool false]⟩
@[go_sem] def y57:TI:=⟨.slice 275,1,24,[.nils]⟩
@[go_sem] def y58:TI:=⟨.slice 292,1,24,[.nils]⟩
@[go_sem] def y59:TI:=⟨.slice 295,1,24,[.nils]⟩
@[go_sem] def y60:TI:=⟨.struct [(0,1,false),(1,1,false),(2,1,false)],3,56,[.nils,.nils,.int .i64 0]⟩
@[go_sem] def y61:TI:=⟨.int .u16,1,2,[.int .u16 0]⟩
@[go_sem] def y62:TI:=⟨.struct [(0,1,false),(1,1,false),(2,1,false)],3,6,[.int .u16 0,.int .u16 0,.int .u16 0]⟩
@[go_sem] def y63:TI:=⟨.struct [(0,1,false),(1,1,false),(2,1,false)],3,12,[.int .u32 0,.int .u32 0,.int .u32 0]⟩
@[go_sem] def y64:TI:=⟨.array 24 5,24,24,[.int .u8 0,.int .u8 0,.int .u8 0,.int .u8 0,.int .u8 0,.int .u8 0,.int .u8 0,.int .u8 0,.int .u8 0,.int .u8 0,.int .u8 0,.int .u8 0,.int .u8 0,.int .u8 0,.int .u8 0,.int .u8 0,.int .u8 0,.int .u8 0,.int .u8 0,.int .u8 0,.int .u8 0,.int .u8 0,.int .u8 0,.int .u8 0]⟩
@[go_sem] def y65:TI:=⟨.slice 5,1,24,[.nils]⟩
@[go_sem] def y66:TI:=⟨.array 20 203,20,160,[.int .u64 0,.int .u64 0,.int .u64 0,.int .u64 0,.int .u64 0,.int .u64 0,.int .u64 0,.int .u64 0,.int .u64 0,.int .u64 0,.int .u64 0,.int .u64 0,.int .u64 0,.int .u64 0,.int .u64 0,.int .u64 0,.int .u64 0,.int .u64 0,.int .u64 0,.int .u64 0]⟩
@[go_sem] def y67:TI:=⟨.struct [(0,1,false),(1,1,false),(2,1,false)],3,48,[.str [],.str [],.nili]⟩
@[go_sem] def y68:TI:=⟨.struct [(0,1,false),(1,1,false)],2,2,[.int .u8 0,.int .u8 0]⟩
@[go_sem] def y69:TI:=⟨.array 16 342,32,32,[.int .u8 0,.int .u8 0,.int .u8 0,.int .u8 0,.int .u8 0,.int .u8 0,.int .u8 0,.int .u8 0,.int .u8 0,.int .u8 0,.int .u8 0,.int .u8 0,.int .u8 0,.int .u8 0,.int .u8 0,.int .u8 0,.int .u8 0,.int .u8 0,.int .u8 0,.int .u8 0,.int .u8 0,.int .u8 0,.int .u8 0,.int .u8 0,.int .u8 0,.int .u8 0,.int .u8 0,.int .u8 0,.int .u8 0,.int .u8 0,.int .u8 0,.int .u8 0]⟩
@[go_sem] def y70:TI:=⟨.struct [(0,1,false)],1,16,[.str []]⟩
@[go_sem] def y71:TI:=⟨.array 32 5,32,32,[.int .u8 0,.int .u8 0,.int .u8 0,.int .u8 0,.int .u8 0,.int .u8 0,.int .u8 0,.int .u8 0,.int .u8 0,.int .u8 0,.int .u8 0,.int .u8 0,.int .u8 0,.int .u8 0,.int .u8 0,.int .u8 0,.int .u8 0,.int .u8 0,.int .u8 0,.int .u8 0,.int .u8 0,.int .u8 0,.int .u8 0,.int .u8 0,.int .u8 0,.int .u8 0,.int .u8 0,.int .u8 0,.int .u8 0,.int .u8 0,.int .u8 0,.int .u8 0]⟩
@[go_sem] def y72:TI:=⟨.struct [(0,1,false),(1,1,false),(2,1,false),(3,1,false)],4,40,[.nilp,.nilp,.nilp,.str []]⟩
@[go_sem] def y73:TI:=⟨.array 0 16,0,0,[]⟩
@[go_sem] def y74:TI:=⟨.struct [(0,1,false),(1,1,false),(2,1,false),(3,1,false),(4,1,false),(5,1,false),(6,1,false),(7,1,false),(8,1,false),(9,1,false),(10,1,false)],11,48,[.int .u64 0,.int .u64 0,.int .u32 0,.int .u8 0,.int .u8 0,.int .u8 0,.int .u8 0,.nilf,.nilp,.int .i32 0,.int .i32 0]⟩
def ttT:Tr TI:=(.nd (.nd (.nd (.nd (.nd (.nd (.nd (.nd (.nd .lf (some y1) .lf) (some y1) .lf) (some y27) (.nd (.nd .lf (some y1) .lf) (some y1) .lf)) (some y20) (.nd (.nd (.nd .lf (some y59) .lf) (some y1) .lf) (some y35) (.nd (.nd .lf (some y72) .lf) none .lf))) (some y9) (.nd (.nd (.nd (.nd .lf (some y1) .lf) (some y1) .lf) (some y33) (.nd (.nd .lf (some y1) .lf) (some y2) .lf)) (some y23) (.nd (.nd (.nd .lf (some y11) .lf) none .lf) (some yI) (.nd .lf (some y1) .lf)))) (some y5) (.nd (.nd (.nd (.nd (.nd .lf (some y1) .lf) (some y1) .lf) (some y1) (.nd .lf (some y1) .lf)) (some y1) (.nd (.nd (.nd .lf (some y63) .lf) (some y1) .lf) (some y37) (.nd (.nd .lf (some y12) .lf) none .lf))) (some y14) (.nd (.nd (.nd (.nd .lf (some y1) .lf) (some y1) .lf) (some y1) (.nd (.nd .lf (some y69) .lf) (some y1) .lf)) (some y1) (.nd (.nd .lf (some y48) .lf) (some y1) (.nd .lf (some y55) .lf))))) (some y2) (.nd (.nd (.nd (.nd (.nd (.nd .lf (some y9) .lf) (some y1) .lf) (some y28) (.nd .lf (some y1) .lf)) (some y21) (.nd (.nd (.nd .lf (some y62) .lf) (some y1) .lf) (some y1) (.nd .lf (some y1) .lf))) (some y10) (.nd (.nd (.nd (.nd .lf (some yE) .lf) (some y1) .lf) (some y34) (.nd (.nd .lf (some y67) .lf) (some y52) .lf)) (some y1) (.nd (.nd .lf (some y47) .lf) (some y1) (.nd .lf (some y1) .lf)))) (some y6) (.nd (.nd (.nd (.nd (.nd .lf (some y1) .lf) (some y1) .lf) (some y1) (.nd (.nd .lf (some y1) .lf) (some y7) .lf)) (some y1) (.nd (.nd (.nd .lf (some y1) .lf) (some y1) .lf) (some y1) (.nd (.nd .lf (some y9) .lf) (some y1) .lf))) (some y17) (.nd (.nd (.nd (.nd .lf (some y1) .lf) (some y1) .lf) (some y1) (.nd (.nd .lf (some y70) .lf) (some y1) .lf)) (some y1) (.nd (.nd (.nd .lf (some y1) .lf) (some y1) .lf) (some y41) (.nd .lf (some y1) .lf)))))) (some y1) (.nd (.nd (.nd (.nd (.nd (.nd .lf (some y1) .lf) (some y2) (.nd .lf (some y2) .lf)) (some y1) (.nd (.nd (.nd .lf (some y60) .lf) (some y43) .lf) none (.nd (.nd .lf (some y73) .lf) (some y1) .lf))) (some y9) (.nd (.nd (.nd (.nd .lf (some y57) .lf) (some y1) .lf) none (.nd (.nd .lf (some y1) .lf) (some y51) .lf)) (some y25) (.nd (.nd .lf (some y1) .lf) (some y1) (.nd .lf (some y1) .lf)))) (some y6) (.nd (.nd (.nd (.nd (.nd .lf (some y1) .lf) (some y1) .lf) (some y30) (.nd (.nd .lf (some y9) .lf) (some y49) .lf)) (some y1) (.nd (.nd (.nd .lf (some y1) .lf) (some y1) .lf) (some y1) (.nd (.nd .lf (some y74) .lf) (some y1) .lf))) (some y16) (.nd (.nd (.nd (.nd .lf (some y1) .lf) (some y9) .lf) (some y1) (.nd (.nd .lf (some y9) .lf) (some yI) .lf)) (some yE) (.nd (.nd .lf (some y1) .lf) (some y40) (.nd .lf (some y1) .lf))))) (some y4) (.nd (.nd (.nd (.nd (.nd (.nd .lf (some y56) .lf) none .lf) (some y29) (.nd (.nd .lf (some y1) .lf) (some y1) .lf)) (some y1) (.nd (.nd (.nd .lf (some y1) .lf) none .lf) (some y36) (.nd (.nd .lf (some y4) .lf) (some y1) .lf))) (some y12) (.nd (.nd (.nd (.nd .lf (some y9) .lf) (some y1) .lf) (some y1) (.nd (.nd .lf (some y68) .lf) (some y1) .lf)) none (.nd (.nd (.nd .lf (some y1) .lf) (some y1) .lf) (some y1) (.nd .lf (some y1) .lf)))) (some y8) (.nd (.nd (.nd (.nd (.nd .lf (some y1) .lf) (some y1) .lf) (some y2) (.nd (.nd .lf (some y66) .lf) (some y1) .lf)) (some y1) (.nd (.nd (.nd .lf (some y9) .lf) (some y1) .lf) (some y1) (.nd .lf (some y9) .lf))) (some y19) (.nd (.nd (.nd (.nd .lf (some y1) .lf) (some y1) .lf) (some y1) (.nd (.nd .lf (some y71) .lf) (some y1) .lf)) (some y9) (.nd (.nd (.nd .lf (some y1) .lf) (some y1) .lf) (some y1) .lf)))))) none (.nd (.nd (.nd (.nd (.nd (.nd (.nd (.nd .lf (some y9) .lf) (some y1) .lf) (some y27) (.nd (.nd .lf (some y65) .lf) (some y1) .lf)) (some y1) (.nd (.nd (.nd .lf (some y60) .lf) (some y43) .lf) (some y35) (.nd (.nd .lf (some y72) .lf) (some y1) .lf))) (some y9) (.nd (.nd (.nd (.nd .lf (some y1) .lf) (some y1) .lf) (some y33) (.nd .lf (some y51) .lf)) (some y24) (.nd (.nd (.nd .lf (some y11) .lf) (some y1) .lf) (some yI) (.nd .lf (some y1) .lf)))) (some y5) (.nd (.nd (.nd (.nd (.nd .lf (some y1) .lf) (some y1) .lf) (some y9) (.nd (.nd .lf (some y1) .lf) (some y1) .lf)) (some y1) (.nd (.nd (.nd .lf (some y1) .lf) (some y1) .lf) (some y1) (.nd (.nd .lf (some y12) .lf) (some y1) .lf))) (some y15) (.nd (.nd (.nd (.nd .lf (some y1) .lf) (some y7) .lf) (some y1) (.nd (.nd .lf (some y1) .lf) (some y53) .lf)) (some y9) (.nd (.nd .lf (some y1) .lf) (some y39) (.nd .lf (some y1) .lf))))) (some y3) (.nd (.nd (.nd (.nd (.nd (.nd .lf (some y56) .lf) (some y1) .lf) (some y29) (.nd (.nd .lf (some y1) .lf) (some y1) .lf)) (some y21) (.nd (.nd (.nd .lf (some y62) .lf) none .lf) (some y36) (.nd (.nd .lf (some y4) .lf) (some y1) .lf))) (some y11) (.nd (.nd (.nd (.nd .lf (some y1) .lf) (some y42) .lf) (some y1) (.nd (.nd .lf (some y1) .lf) (some y9) .lf)) (some y1) (.nd (.nd (.nd .lf (some y1) .lf) (some y1) .lf) (some y1) (.nd .lf (some y1) .lf)))) (some y7) (.nd (.nd (.nd (.nd (.nd .lf (some y1) .lf) none .lf) (some y31) (.nd (.nd .lf (some y1) .lf) (some y1) .lf)) (some y1) (.nd (.nd (.nd .lf (some y9) .lf) none .lf) (some y1) (.nd .lf (some y1) .lf))) (some y18) (.nd (.nd (.nd (.nd .lf (some y1) .lf) (some y1) .lf) (some y1) (.nd (.nd .lf (some y70) .lf) (some y1) .lf)) (some y9) (.nd (.nd (.nd .lf (some y9) .lf) (some y1) .lf) (some y1) (.nd .lf (some y1) .lf)))))) (some y2) (.nd (.nd (.nd (.nd (.nd (.nd (.nd .lf (some y1) .lf) (some y1) .lf) (some y28) (.nd (.nd .lf (some y1) .lf) none .lf)) (some y2) (.nd (.nd (.nd .lf (some y61) .lf) (some y44) .lf) (some y1) (.nd .lf (some y7) .lf))) (some y10) (.nd (.nd (.nd (.nd .lf (some yE) .lf) (some y1) .lf) (some y1) (.nd (.nd .lf (some y67) .lf) (some y52) .lf)) (some y25) (.nd (.nd (.nd .lf (some y1) .lf) (some y1) .lf) (some y1) (.nd .lf (some y1) .lf)))) (some y6) (.nd (.nd (.nd (.nd (.nd .lf (some y9) .lf) (some y1) .lf) (some y30) (.nd (.nd .lf (some y1) .lf) (some y1) .lf)) none (.nd (.nd (.nd .lf (some y1) .lf) (some y45) .lf) (some y1) (.nd (.nd .lf (some y74) .lf) (some y1) .lf))) (some y16) (.nd (.nd (.nd (.nd .lf (some y1) .lf) none .lf) (some y1) (.nd (.nd .lf (some y9) .lf) (some yI) .lf)) (some yE) (.nd (.nd (.nd .lf (some y1) .lf) (some y9) .lf) (some y41) (.nd .lf (some y1) .lf))))) (some y4) (.nd (.nd (.nd (.nd (.nd (.nd .lf (some y1) .lf) (some y1) .lf) (some y1) (.nd (.nd .lf (some y2) .lf) none .lf)) none (.nd (.nd (.nd .lf (some y63) .lf) (some y1) .lf) (some y37) (.nd (.nd .lf (some y1) .lf) (some y1) .lf))) (some y13) (.nd (.nd (.nd .lf (some y1) .lf) (some y1) (.nd (.nd .lf (some y68) .lf) (some y1) .lf)) (some y1) (.nd (.nd (.nd .lf (some y1) .lf) (some y1) .lf) (some y1) (.nd .lf (some y1) .lf)))) (some y8) (.nd (.nd (.nd (.nd (.nd .lf (some y9) .lf) (some y1) .lf) (some y32) (.nd .lf (some y50) .lf)) (some y22) (.nd (.nd (.nd .lf (some y1) .lf) (some y46) .lf) (some y1) (.nd .lf (some y54) .lf))) (some y20) (.nd (.nd (.nd (.nd .lf (some y58) .lf) (some y1) .lf) (some y1) (.nd .lf (some y1) .lf)) (some y1) (.nd (.nd (.nd .lf (some y64) .lf) (some y1) .lf) (some y1) (.nd .lf (some y1) .lf))))))))
def TT(t:TypeId):Option TI:=ttT.get t
def aVf(P:Program)(n:Nat):Bool:=(List.range n).all λt=>match TT t with|some h=>aHJ P t h|none=>true
theorem aUO:aVf prog 364=true:=by decide +kernel
def TTc(t:TypeId):Option TI:=match Nat.blt t 364 with
 | true=>TT t
 | false=>none
theorem aVc(t:TypeId)(u:TI)(h:TTc t=some u):u.ok prog t:=by
 unfold TTc at h;split at h
 .rename_i m;rw[Nat.blt_eq]at m;have:=dE.1 aUO t (vA.2 m);rw[h]at this;exact aTL this
 .cases h
theorem aMQ:aEG prog [4] [(36,[0,2,0,0]),(112,[2,2]),(218,[2,2])] [22,76,78,47] [212]=true:=by decide +kernel
theorem aPg{P:Program}{e:TypeId}(y:P.cellsOf e≠0)(m:Nat)(h:1<=m):liesAt P P.depth e m 0 e 1=true:=by
 have u:P.depth=(2 * (P.types.size+Made.depth)+1)+1:=rfl;rw[u];simp only[liesAt,gV];left;rw[u];simp[rowAt,y,h,sameLayout]
theorem aGF:prog.underlying 212=some (.pointer 161)/\prog.underlying 363=some .unsafePointer/\(prog.info? 161).map (·.size)=some 2/\prog.cellsOf 161=2/\prog.underlying 345=some (.pointer 5)/\prog.cellsOf 5=1:=by
 refine⟨?_,?_,?_,?_,?_,?_⟩<;>kernel_rfl
def cvS(a b:TypeId):Option TypeId:=match Nat.beq a 212&&Nat.beq b 363 with
 | true=>some 161
 | false=>match Nat.beq a 363&&Nat.beq b 212 with
  | true=>some 161
  | false=>none
def usS(a:TypeId):Option TypeId:=match Nat.beq a 345 with
 | true=>some 5
 | false=>none
theorem aUy(a b e:TypeId)(h:cvS a b=some e)(w:World)(k:Nat)(vs:Array Value)(B:w.heap[k]?=some (.cells vs e))(H:prog.cellsOf e<=vs.size) :
  (convert a b (.pointer (some ⟨k,0,none⟩))).run prog w=.ok (.pointer (some ⟨k,0,none⟩)) w:=by
 obtain⟨y,z,M,u,_⟩:=aGF;obtain⟨j,G,O⟩:=tG.1 M;unfold cvS at h;split at h
 .rename_i m;simp only[bP]at m;obtain rfl:=sB m.1;obtain rfl:=sB m.2;cases h;rw[u]at H;exact Lib.run_to_unsafe w ⟨k,0,none⟩ y z G aB (cells:=vs.size) (e:=161) (by simp[World.shape?,B]) (by show 0<vs.size;omega)
 .split at h
  .rename_i m;simp only[bP]at m;obtain rfl:=sB m.1;obtain rfl:=sB m.2;cases h;rw[u]at H;exact Lib.run_from_unsafe w ⟨k,0,none⟩ z y G (cells:=vs.size) (e:=161) (by simp[World.shape?,B]) (aPg (by rw[u];decide) _ (by rw[u];omega))
  .cases h
def aBk:List A:=[.int .u8 0,.int .u8 0,.int .u8 0,.int .u8 0,.int .u8 0,.int .u8 0,.int .u8 0,.int .u8 0,.int .u8 0,.int .u8 1,.int .u8 1,.int .u8 1,.int .u8 1,.int .u8 1,.int .u8 0,.int .u8 0,.int .u8 0,.int .u8 0,.int .u8 0,.int .u8 0,.int .u8 0,.int .u8 0,.int .u8 0,.int .u8 0,.int .u8 0,.int .u8 0,.int .u8 0,.int .u8 0,.int .u8 0,.int .u8 0,.int .u8 0,.int .u8 0,.int .u8 1,.int .u8 0,.int .u8 0,.int .u8 0,.int .u8 0,.int .u8 0,.int .u8 0,.int .u8 0,.int .u8 0,.int .u8 0,.int .u8 0,.int .u8 0,.int .u8 0,.int .u8 0,.int .u8 0,.int .u8 0,.int .u8 0,.int .u8 0,.int .u8 0,.int .u8 0,.int .u8 0,.int .u8 0,.int .u8 0,.int .u8 0,.int .u8 0,.int .u8 0,.int .u8 0,.int .u8 0,.int .u8 0,.int .u8 0,.int .u8 0,.int .u8 0,.int .u8 0,.int .u8 0,.int .u8 0,.int .u8 0,.int .u8 0,.int .u8 0,.int .u8 0,.int .u8 0,.int .u8 0,.int .u8 0,.int .u8 0,.int .u8 0,.int .u8 0,.int .u8 0,.int .u8 0,.int .u8 0,.int .u8 0,.int .u8 0,.int .u8 0,.int .u8 0,.int .u8 0,.int .u8 0,.int .u8 0,.int .u8 0,.int .u8 0,.int .u8 0,.int .u8 0,.int .u8 0,.int .u8 0,.int .u8 0,.int .u8 0,.int .u8 0,.int .u8 0,.int .u8 0,.int .u8 0,.int .u8 0,.int .u8 0,.int .u8 0,.int .u8 0,.int .u8 0,.int .u8 0,.int .u8 0,.int .u8 0,.int .u8 0,.int .u8 0,.int .u8 0,.int .u8 0,.int .u8 0,.int .u8 0,.int .u8 0,.int .u8 0,.int .u8 0,.int .u8 0,.int .u8 0,.int .u8 0,.int .u8 0,.int .u8 0,.int .u8 0,.int .u8 0,.int .u8 0,.int .u8 0,.int .u8 0,.int .u8 0,.int .u8 0,.int .u8 0,.int .u8 0,.int .u8 0,.int .u8 0,.int .u8 0,.int .u8 0,.int .u8 0,.int .u8 0,.int .u8 0,.int .u8 0,.int .u8 0,.int .u8 0,.int .u8 0,.int .u8 0,.int .u8 0,.int .u8 0,.int .u8 0,.int .u8 0,.int .u8 0,.int .u8 0,.int .u8 0,.int .u8 0,.int .u8 0,.int .u8 0,.int .u8 0,.int .u8 0,.int .u8 0,.int .u8 0,.int .u8 0,.int .u8 0,.int .u8 0,.int .u8 0,.int .u8 0,.int .u8 0,.int .u8 0,.int .u8 0,.int .u8 0,.int .u8 0,.int .u8 0,.int .u8 0,.int .u8 0,.int .u8 0,.int .u8 0,.int .u8 0,.int .u8 0,.int .u8 0,.int .u8 0,.int .u8 0,.int .u8 0,.int .u8 0,.int .u8 0,.int .u8 0,.int .u8 0,.int .u8 0,.int .u8 0,.int .u8 0,.int .u8 0,.int .u8 0,.int .u8 0,.int .u8 0,.int .u8 0,.int .u8 0,.int .u8 0,.int .u8 0,.int .u8 0,.int .u8 0,.int .u8 0,.int .u8 0,.int .u8 0,.int .u8 0,.int .u8 0,.int .u8 0,.int .u8 0,.int .u8 0,.int .u8 0,.int .u8 0,.int .u8 0,.int .u8 0,.int .u8 0,.int .u8 0,.int .u8 0,.int .u8 0,.int .u8 0,.int .u8 0,.int .u8 0,.int .u8 0,.int .u8 0,.int .u8 0,.int .u8 0,.int .u8 0,.int .u8 0,.int .u8 0,.int .u8 0,.int .u8 0,.int .u8 0,.int .u8 0,.int .u8 0,.int .u8 0,.int .u8 0,.int .u8 0,.int .u8 0,.int .u8 0,.int .u8 0,.int .u8 0,.int .u8 0,.int .u8 0,.int .u8 0,.int .u8 0,.int .u8 0,.int .u8 0,.int .u8 0,.int .u8 0,.int .u8 0,.int .u8 0,.int .u8 0,.int .u8 0,.int .u8 0,.int .u8 0,.int .u8 0,.int .u8 0,.int .u8 0,.int .u8 0,.int .u8 0,.int .u8 0,.int .u8 0,.int .u8 0,.int .u8 0,.int .u8 0]
def aA2:List A:=[.int .u64 1,.int .u64 10,.int .u64 100,.int .u64 1000,.int .u64 10000,.int .u64 100000,.int .u64 1000000,.int .u64 10000000,.int .u64 100000000,.int .u64 1000000000,.int .u64 10000000000,.int .u64 100000000000,.int .u64 1000000000000,.int .u64 10000000000000,.int .u64 100000000000000,.int .u64 1000000000000000,.int .u64 10000000000000000,.int .u64 100000000000000000,.int .u64 1000000000000000000,.int .u64 10000000000000000000]
def glS:Nat->Option (List A)
 | 0=>some aBk
 | 3=>some aA2
 | _=>none
theorem aUZ(a b e:TypeId)(h:cvS a b=some e):(TTc e).map (·.sz)=some (prog.cellsOf e):=by
 have m:=aGF.2.2.2.1;unfold cvS at h;split at h
 .cases h;rw[m];rfl
 .split at h
  .cases h;rw[m];rfl
  .cases h
theorem aUB(t e:TypeId)(h:usS t=some e):prog.underlying t=some (.pointer e)/\prog.cellsOf e=1:=by
 unfold usS at h;split at h
 .rename_i m;obtain rfl:=sB m;cases h;exact aGF.2.2.2.2
 .cases h
noncomputable def cx:Cx:={ P:=prog,det:=false,gl:=glS,tt:=TTc,htt:=aVc,cv:=cvS,hcv:=aUy,hcs:=aUZ,us:=usS,hus:=aUB,eq:=eqT [4] [(36,[0,2,0,0]),(112,[2,2]),(218,[2,2])] [22,76,78,47] [212],heq:=aUp aMQ,nl:=λt=>[22,76,78,47].elem t,hnl:=λt u a n cap w op x y m=>⟨a.isNone,aCt (by have h:=aMQ;simp only[aEG,bP,dE]at h;exact h.2.1 t (gQ u)) a n cap m x y⟩ }
@[go_sem] theorem aXL(t:TypeId):cx.nl t=[22,76,78,47].elem t:=rfl
@[go_sem] theorem aXA(t:TypeId)(a b:A):cx.eq t a b=eqT [4] [(36,[0,2,0,0]),(112,[2,2]),(218,[2,2])] [22,76,78,47] [212] t a b:=rfl
@[go_sem] theorem aWT(s:St)(n:Nat)(e:TypeId)(sz:Nat)(ys:List A)(KV:St->A->Prop):qA cx s n e sz ys KV=newT cx s n e ys KV:=rfl
noncomputable def nX:Cx:={ cx with mu:=1 }
@[go_sem] theorem aSy(s:St)(n:Nat)(e:TypeId)(sz:Nat)(ys:List A)(KV:St->A->Prop):qA nX s n e sz ys KV=(0<n/\aEy s n e sz (eC ys) KV):=rfl
@[go_sem] theorem aXx:nX.tt=cx.tt:=rfl
@[go_sem] theorem aXp:nX.eq=cx.eq:=rfl
@[go_sem] theorem aXE(t:TypeId):cx.cw t=none:=rfl
@[go_sem] theorem aW4:nX.cv=cx.cv:=rfl
@[go_sem] theorem aXi:nX.cw=cx.cw:=rfl
@[go_sem] theorem aXr:nX.us=cx.us:=rfl
@[go_sem] theorem aWX:nX.det=false:=rfl
@[go_sem] theorem aXa:nX.toCtx=cx.toCtx:=rfl
@[go_sem] theorem aXc:aCK cx=false:=rfl
@[go_sem] theorem aWU:aCK nX=false:=rfl
noncomputable def kY:Cx:={ cx with mu:=2 }
@[go_sem] theorem aWy(s:St)(n:Nat)(e:TypeId)(sz:Nat)(ys:List A)(KV:St->A->Prop):qA kY s n e sz ys KV=newT kY s n e ys KV:=rfl
@[go_sem] theorem aWS:aCK kY=true:=rfl
@[go_sem] theorem aXd:kY.tt=cx.tt:=rfl
@[go_sem] theorem aW8:kY.eq=cx.eq:=rfl
@[go_sem] theorem aXm:kY.cv=cx.cv:=rfl
@[go_sem] theorem aXj:kY.cw=cx.cw:=rfl
@[go_sem] theorem aXk:kY.us=cx.us:=rfl
@[go_sem] theorem aWO:kY.det=false:=rfl
@[go_sem] theorem aXy:kY.toCtx=cx.toCtx:=rfl
attribute [go_sem] aBb
theorem aMi{f:FuncId}{l:List A}{KV Kp:St->A->Prop}{s:St}(h:Den kY f l KV Kp s):Den cx f l KV Kp s:=by assumption
theorem aTS{f:FuncId}{l:List A}{KV Kp:St->A->Prop}{s:St}(h:Den nX f l KV Kp s):Den cx f l KV Kp s:=by assumption
theorem aSh:cx.P.follows .mixedOrders=true:=by decide +kernel
section
@[go_sem] theorem ty0:cx.tt 1=some y1/\cx.tt 2=some y2/\cx.tt 3=some y2/\cx.tt 4=some y3/\cx.tt 5=some y4/\cx.tt 6=some y4/\cx.tt 7=some y5/\cx.tt 8=some y5/\cx.tt 9=some y6/\cx.tt 10=some y6/\cx.tt 11=some y6/\cx.tt 12=some y7:=⟨rfl,rfl,rfl,rfl,rfl,rfl,rfl,rfl,rfl,rfl,rfl,rfl⟩
@[go_sem] theorem ty1:cx.tt 13=some y8/\cx.tt 14=some y8/\cx.tt 15=some y9/\cx.tt 16=some y9/\cx.tt 17=some y9/\cx.tt 18=some y10/\cx.tt 19=some y10/\cx.tt 20=some y11/\cx.tt 21=some y12/\cx.tt 22=some y13/\cx.tt 23=some y14/\cx.tt 24=some y15:=⟨rfl,rfl,rfl,rfl,rfl,rfl,rfl,rfl,rfl,rfl,rfl,rfl⟩
@[go_sem] theorem ty2:cx.tt 25=some y16/\cx.tt 26=some y16/\cx.tt 27=some y17/\cx.tt 28=some y18/\cx.tt 29=some y19/\cx.tt 30=some y20/\cx.tt 31=some y20/\cx.tt 32=some y1/\cx.tt 33=some y1/\cx.tt 34=some y2/\cx.tt 35=some y21/\cx.tt 36=some y21:=⟨rfl,rfl,rfl,rfl,rfl,rfl,rfl,rfl,rfl,rfl,rfl,rfl⟩
@[go_sem] theorem ty3:cx.tt 37=some y1/\cx.tt 39=some y1/\cx.tt 40=some y1/\cx.tt 41=some y1/\cx.tt 43=some y1/\cx.tt 44=some y1/\cx.tt 45=some y1/\cx.tt 46=some y22/\cx.tt 47=some y23/\cx.tt 48=some y24/\cx.tt 49=some y25/\cx.tt 50=some y25:=⟨rfl,rfl,rfl,rfl,rfl,rfl,rfl,rfl,rfl,rfl,rfl,rfl⟩
@[go_sem] theorem ty4:cx.tt 51=some y1/\cx.tt 52=some y1/\cx.tt 54=some y1/\cx.tt 55=some y1/\cx.tt 56=some y9/\cx.tt 57=some yE/\cx.tt 58=some yE/\cx.tt 59=some y1/\cx.tt 60=some y9/\cx.tt 61=some y9/\cx.tt 62=some y1/\cx.tt 63=some y27:=⟨rfl,rfl,rfl,rfl,rfl,rfl,rfl,rfl,rfl,rfl,rfl,rfl⟩
@[go_sem] theorem ty5:cx.tt 64=some y27/\cx.tt 65=some y2/\cx.tt 66=some y28/\cx.tt 67=some y28/\cx.tt 68=some y29/\cx.tt 69=some y29/\cx.tt 70=some y1/\cx.tt 71=some y1/\cx.tt 72=some y9/\cx.tt 73=some y30/\cx.tt 74=some y30/\cx.tt 75=some y1:=⟨rfl,rfl,rfl,rfl,rfl,rfl,rfl,rfl,rfl,rfl,rfl,rfl⟩
@[go_sem] theorem ty6:cx.tt 76=some y31/\cx.tt 77=some y2/\cx.tt 78=some y32/\cx.tt 79=some y33/\cx.tt 80=some y33/\cx.tt 82=some y1/\cx.tt 83=some y34/\cx.tt 84=some y1/\cx.tt 85=some y1/\cx.tt 86=some y1/\cx.tt 87=some y1/\cx.tt 88=some y1:=⟨rfl,rfl,rfl,rfl,rfl,rfl,rfl,rfl,rfl,rfl,rfl,rfl⟩
@[go_sem] theorem ty7:cx.tt 89=some y1/\cx.tt 90=some y1/\cx.tt 91=some y1/\cx.tt 92=some y1/\cx.tt 93=some y1/\cx.tt 94=some y1/\cx.tt 95=some y35/\cx.tt 96=some y35/\cx.tt 98=some y1/\cx.tt 99=some y1/\cx.tt 100=some y36/\cx.tt 101=some y36:=⟨rfl,rfl,rfl,rfl,rfl,rfl,rfl,rfl,rfl,rfl,rfl,rfl⟩
@[go_sem] theorem ty8:cx.tt 102=some y37/\cx.tt 103=some y37/\cx.tt 104=some y1/\cx.tt 105=some y1/\cx.tt 106=some y1/\cx.tt 107=some y1/\cx.tt 108=some y1/\cx.tt 109=some y1/\cx.tt 110=some y1/\cx.tt 111=some yI/\cx.tt 112=some yI/\cx.tt 113=some y1:=⟨rfl,rfl,rfl,rfl,rfl,rfl,rfl,rfl,rfl,rfl,rfl,rfl⟩
@[go_sem] theorem ty9:cx.tt 114=some y1/\cx.tt 115=some y1/\cx.tt 116=some y1/\cx.tt 117=some y1/\cx.tt 118=some y1/\cx.tt 119=some y1/\cx.tt 120=some y39/\cx.tt 121=some y40/\cx.tt 122=some y41/\cx.tt 123=some y41/\cx.tt 124=some y1/\cx.tt 125=some y1:=⟨rfl,rfl,rfl,rfl,rfl,rfl,rfl,rfl,rfl,rfl,rfl,rfl⟩
@[go_sem] theorem aXT:cx.tt 126=some y1/\cx.tt 127=some y1/\cx.tt 128=some y1/\cx.tt 129=some y1/\cx.tt 130=some y1/\cx.tt 131=some y1/\cx.tt 132=some y1/\cx.tt 134=some y1/\cx.tt 135=some y1/\cx.tt 136=some y1/\cx.tt 137=some y1/\cx.tt 138=some y1:=⟨rfl,rfl,rfl,rfl,rfl,rfl,rfl,rfl,rfl,rfl,rfl,rfl⟩
@[go_sem] theorem aXY:cx.tt 139=some y1/\cx.tt 141=some y1/\cx.tt 142=some y1/\cx.tt 143=some y1/\cx.tt 144=some y1/\cx.tt 145=some y1/\cx.tt 146=some y1/\cx.tt 147=some y1/\cx.tt 148=some y42/\cx.tt 149=some y1/\cx.tt 150=some y1/\cx.tt 151=some y1:=⟨rfl,rfl,rfl,rfl,rfl,rfl,rfl,rfl,rfl,rfl,rfl,rfl⟩
@[go_sem] theorem aXZ:cx.tt 152=some y7/\cx.tt 153=some y9/\cx.tt 155=some y1/\cx.tt 156=some y1/\cx.tt 157=some y1/\cx.tt 158=some y1/\cx.tt 159=some y1/\cx.tt 160=some y43/\cx.tt 161=some y43/\cx.tt 162=some y44/\cx.tt 163=some y1/\cx.tt 166=some y1:=⟨rfl,rfl,rfl,rfl,rfl,rfl,rfl,rfl,rfl,rfl,rfl,rfl⟩
@[go_sem] theorem aXU:cx.tt 167=some y1/\cx.tt 168=some y1/\cx.tt 169=some y1/\cx.tt 170=some y45/\cx.tt 171=some y1/\cx.tt 173=some y1/\cx.tt 174=some y46/\cx.tt 176=some y1/\cx.tt 177=some y1/\cx.tt 178=some y1/\cx.tt 179=some y47/\cx.tt 180=some y1:=⟨rfl,rfl,rfl,rfl,rfl,rfl,rfl,rfl,rfl,rfl,rfl,rfl⟩
@[go_sem] theorem aX3:cx.tt 181=some y1/\cx.tt 182=some y1/\cx.tt 183=some y48/\cx.tt 184=some y1/\cx.tt 185=some y1/\cx.tt 186=some y9/\cx.tt 187=some y1/\cx.tt 188=some y1/\cx.tt 189=some y1/\cx.tt 190=some y1/\cx.tt 191=some y1/\cx.tt 192=some y1:=⟨rfl,rfl,rfl,rfl,rfl,rfl,rfl,rfl,rfl,rfl,rfl,rfl⟩
@[go_sem] theorem aX1:cx.tt 193=some y2/\cx.tt 195=some y1/\cx.tt 196=some y1/\cx.tt 197=some y1/\cx.tt 199=some y1/\cx.tt 200=some y1/\cx.tt 201=some y49/\cx.tt 202=some y1/\cx.tt 203=some y7/\cx.tt 204=some y1/\cx.tt 205=some y1/\cx.tt 206=some y50:=⟨rfl,rfl,rfl,rfl,rfl,rfl,rfl,rfl,rfl,rfl,rfl,rfl⟩
@[go_sem] theorem aX5:cx.tt 207=some y2/\cx.tt 208=some y51/\cx.tt 209=some y51/\cx.tt 210=some y52/\cx.tt 211=some y52/\cx.tt 212=some y9/\cx.tt 213=some y1/\cx.tt 214=some y1/\cx.tt 215=some y1/\cx.tt 216=some y53/\cx.tt 217=some yI/\cx.tt 218=some yI:=⟨rfl,rfl,rfl,rfl,rfl,rfl,rfl,rfl,rfl,rfl,rfl,rfl⟩
@[go_sem] theorem aXO:cx.tt 219=some y1/\cx.tt 220=some y1/\cx.tt 221=some y1/\cx.tt 222=some y1/\cx.tt 224=some y1/\cx.tt 225=some y1/\cx.tt 226=some y7/\cx.tt 227=some y1/\cx.tt 228=some y1/\cx.tt 229=some y1/\cx.tt 230=some y1/\cx.tt 232=some y1:=⟨rfl,rfl,rfl,rfl,rfl,rfl,rfl,rfl,rfl,rfl,rfl,rfl⟩
@[go_sem] theorem aXV:cx.tt 233=some y1/\cx.tt 234=some y1/\cx.tt 235=some y1/\cx.tt 236=some y1/\cx.tt 237=some y9/\cx.tt 238=some y54/\cx.tt 239=some y1/\cx.tt 240=some y1/\cx.tt 241=some y1/\cx.tt 242=some y1/\cx.tt 243=some y1/\cx.tt 244=some y1:=⟨rfl,rfl,rfl,rfl,rfl,rfl,rfl,rfl,rfl,rfl,rfl,rfl⟩
@[go_sem] theorem aXR:cx.tt 245=some y1/\cx.tt 246=some y1/\cx.tt 248=some y1/\cx.tt 249=some y1/\cx.tt 250=some y1/\cx.tt 251=some y1/\cx.tt 252=some y1/\cx.tt 254=some y1/\cx.tt 255=some y1/\cx.tt 256=some y9/\cx.tt 258=some y1/\cx.tt 259=some y9:=⟨rfl,rfl,rfl,rfl,rfl,rfl,rfl,rfl,rfl,rfl,rfl,rfl⟩
@[go_sem] theorem aXQ:cx.tt 260=some y56/\cx.tt 261=some y56/\cx.tt 262=some y1/\cx.tt 263=some y1/\cx.tt 264=some y1/\cx.tt 265=some y1/\cx.tt 266=some y9/\cx.tt 267=some y1/\cx.tt 268=some y1/\cx.tt 269=some y1/\cx.tt 270=some y9/\cx.tt 271=some y1:=⟨rfl,rfl,rfl,rfl,rfl,rfl,rfl,rfl,rfl,rfl,rfl,rfl⟩
@[go_sem] theorem aX0:cx.tt 272=some y1/\cx.tt 273=some y57/\cx.tt 274=some yE/\cx.tt 275=some yE/\cx.tt 276=some y1/\cx.tt 277=some y9/\cx.tt 279=some y1/\cx.tt 280=some y1/\cx.tt 281=some y1/\cx.tt 282=some y1/\cx.tt 283=some y1/\cx.tt 284=some y1:=⟨rfl,rfl,rfl,rfl,rfl,rfl,rfl,rfl,rfl,rfl,rfl,rfl⟩
@[go_sem] theorem aX2:cx.tt 285=some y1/\cx.tt 286=some y58/\cx.tt 287=some y59/\cx.tt 288=some y60/\cx.tt 289=some y60/\cx.tt 290=some y61/\cx.tt 291=some y62/\cx.tt 292=some y62/\cx.tt 293=some y1/\cx.tt 294=some y63/\cx.tt 295=some y63/\cx.tt 296=some y1:=⟨rfl,rfl,rfl,rfl,rfl,rfl,rfl,rfl,rfl,rfl,rfl,rfl⟩
@[go_sem] theorem aXW:cx.tt 297=some y1/\cx.tt 298=some y1/\cx.tt 299=some y1/\cx.tt 300=some y9/\cx.tt 301=some y9/\cx.tt 302=some y1/\cx.tt 303=some y11/\cx.tt 304=some y11/\cx.tt 306=some y1/\cx.tt 308=some y1/\cx.tt 309=some y1/\cx.tt 310=some y1:=⟨rfl,rfl,rfl,rfl,rfl,rfl,rfl,rfl,rfl,rfl,rfl,rfl⟩
@[go_sem] theorem aXP:cx.tt 314=some y1/\cx.tt 315=some y1/\cx.tt 316=some y9/\cx.tt 317=some y1/\cx.tt 318=some y64/\cx.tt 319=some y1/\cx.tt 320=some y65/\cx.tt 322=some y1/\cx.tt 324=some y1/\cx.tt 325=some y1/\cx.tt 326=some y2/\cx.tt 328=some y1:=⟨rfl,rfl,rfl,rfl,rfl,rfl,rfl,rfl,rfl,rfl,rfl,rfl⟩
@[go_sem] theorem aX4:cx.tt 329=some y9/\cx.tt 330=some y1/\cx.tt 331=some y1/\cx.tt 332=some y1/\cx.tt 333=some y66/\cx.tt 335=some y1/\cx.tt 337=some y1/\cx.tt 338=some y67/\cx.tt 339=some y67/\cx.tt 340=some y1/\cx.tt 341=some y68/\cx.tt 342=some y68:=⟨rfl,rfl,rfl,rfl,rfl,rfl,rfl,rfl,rfl,rfl,rfl,rfl⟩
@[go_sem] theorem aXX:cx.tt 343=some y69/\cx.tt 344=some y1/\cx.tt 345=some y9/\cx.tt 346=some y9/\cx.tt 347=some y70/\cx.tt 348=some y70/\cx.tt 349=some y71/\cx.tt 351=some y72/\cx.tt 352=some y72/\cx.tt 353=some y73/\cx.tt 356=some y4/\cx.tt 357=some y4:=⟨rfl,rfl,rfl,rfl,rfl,rfl,rfl,rfl,rfl,rfl,rfl,rfl⟩
@[go_sem] theorem aXS:cx.tt 358=some y1/\cx.tt 359=some y12/\cx.tt 360=some y12/\cx.tt 361=some y74/\cx.tt 362=some y74/\cx.tt 363=some y9:=⟨rfl,rfl,rfl,rfl,rfl,rfl⟩
end
@[go_sem] def aMW:List Nat:=[0,2,3,4,5,6,8,9,10,30,39,44,47,48,49,50,56,66]
@[go_sem] def pX:List Nat:=[0,1,4,5,7,8,9,16]
@[go_sem] def aMX:List Nat:=[0,2,3,4,5,6,8,20,33,41,67,68,69,70,81,100]
@[go_sem] def xN:List Nat:=[0,1,4,5,10]
@[go_sem] def vX:List Nat:=[0,1,2,3,4,5,6,25,26,53,64,75,95,130,134]
@[go_sem] def aEw:List Nat:=[0,1,2,4,7,41,43,44,45,46,58,62,63,64]
@[go_sem] def aBj:List Nat:=[0,2,3,5,7,8,9,10,15]
@[go_sem] def aET:List Nat:=[0,1,4,5,10,12,13,14,24]
@[go_sem] def rX:List Nat:=[0,2,3,5,6,8,9,10,11,12,20,25,26,27,28]
@[go_sem] def aBa:List Nat:=[0,1,2,4,5,6,8,14,18,19,20,21,37]
@[go_sem] def aEE:List Nat:=[0,1,2,3,5,7,9,20,21,22,23,36,37,38,39,51,52,53,54]
@[go_sem] def aHA:List Nat:=[0,1,3,4,6,7,9,10,11,13,14,15,16,22,26,33,52,54,55,56,57,71]
@[go_sem] def aBd:List Nat:=[0,2,3,5,6,7,8,9]
@[go_sem] def aEH:List Nat:=[0,2,3,5,7,8,9,10]
@[go_sem] def aHO:List Nat:=[0,1,4,5,6,8,10,15,16,17,18,24,32,33,34,35,41]
@[go_sem] def aEO:List Nat:=[0,1,3,4,5,6,7,9,11,12,14,29,51,69,70,71,72,80,87,88,89,90,99,124,125,126,127]
@[go_sem] def aA3:List Nat:=[0,1,2,3,5,7,9,11,13,15,16,17,18,38,39,40,41,51,52,53,54,58,59,60,61,78,79,80,81]
@[go_sem] def aA1:List Nat:=[0,1,2,3,5,7,9,11,13,15,16,17,18,37,38,39,40,50,51,52,53,57,58,59,60,77,78,79,80]
@[go_sem] def aEL:List Nat:=[0,1,2,3,5,7,9,19,30,31,32,33,43,44,45,46,58,59,60,61,66]
@[go_sem] def aHI:List Nat:=[0,1,2,4,6,7,29,31,32,33,34,40,43,44,45,46,62]
@[go_sem] def aM2:List Nat:=[0,1,2,4,6,7,8,9,11,25,32,42,50,81,82,83,84]
@[go_sem] def aBc:List Nat:=[0,1,2,4,5,7,9,10,11,13,14,15,17,18,19,20,40,47,48,49,50,54,55,56,57,86,87,88,89,96,102,103,104,105,114]
@[go_sem] def aEK:List Nat:=[0,1,2,4,6,7,8,9,10,11,13,15,21,30,40,41,42,43,65,66,67,68,93,94,95,96]
@[go_sem] def aHN:List Nat:=[0,2,4,5,7,19,20,21,22,30,39,72,73,74,75,79]
@[go_sem] def aHS:List Nat:=[0,2,4,5,6,8,10,12,24,47,68,89,90,91,92,106,117,118,119,120,135]
@[go_sem] def aEA:List Nat:=[0,2,3,5,6,7,30]
@[go_sem] def aHw:List Nat:=[0,1,2,3,4,6,8,9,10,11,23,27,28,29,30,35]
@[go_sem] def aEo:List Nat:=[0,1,2,3,4,6,8,10,11,12,13,34,38,39,40,41,46,50,51,52,53,62]
@[go_sem] def aHo:List Nat:=[0,1,2,3,5,7,9,10,11,12,52,55,56,57,58,109]
@[go_sem] def aHy:List Nat:=[0,1,2,3,6,8,40,42,43,44,45,53]
@[go_sem] def aHm:List Nat:=[0,1,2,3,4,6,8,9,12,13,14,23,25,26,27,28,34,38,52,54,55,56,57,74]
@[go_sem] def aHz:List Nat:=[0,1,2,3,4,6,8,11,21,23,24,25,26,31]
@[go_sem] def aCv:List Nat:=[0,1,3,4,6,8,10,18,19,20,21,22,27,35,36,37,38,46,47,48,49]
@[go_sem] def aCJ:List Nat:=[0,2,3,4,6,7,8,9,10,12,13,14,15,16,23,24,25,26,32,33,34,35,52]
@[go_sem] def aHp:List Nat:=[0,2,3,4,6,7,8,9,10,16,17,18,19,26]
@[go_sem] def aHP:List Nat:=[0,1,2,3,4,5,7,21,24,25,26,27,32]
@[go_sem] def aCI:List Nat:=[0,1,4,5,6,7,9,11,13,14,15,16,17,24,25,26,27,34,35,36,37,51]
@[go_sem] def aHK:List Nat:=[0,1,2,4,5,6,7,8,9,10,11,13,14,15,16,23,28,29,30,31,38]
@[go_sem] def yC:List Nat:=[0,1,3,4,5,6,7,8,10,12,13,14,15,16,17,19,41,51,79,80,81,82,94,95,96,97,108,134,150,159,160,161,162,182]
@[go_sem] def aES:List Nat:=[0,2,3,4,6,8,22,23,24,25,31,32,33,34,41,55,81,92,93,94,95,99]
@[go_sem] def xT:List Nat:=[0,1,2,4,6,7,8,10,12,13,15,33,44,61,62,63,64,78,111,112,113,114,136]
@[go_sem] def vl7:List Nat:=[0,1,2,3,4,6,7,9,13,19,29,30,31,32,44,45,46,47]
@[go_sem] def kK:List Nat:=[0,1,4,6,7,8,9,10,11,13,14,15,16,17,19,21,23,24,25,27,28,29,44,45,46,47,54,67,77,78,79,80,85,110,111,112,113,123,133,147,156,157,158,159,175,186,187,188,189,209,220,221,222,223,227,228,229,230,260,272,273,274,275,285,295,296,297,298,307]
@[go_sem] def aBh:List Nat:=[0,1,2,3,5,7,9,19,31,32,33,34,44,45,46,47,56,57,58,59,64]
@[go_sem] def tA:List Nat:=[0,2,3,5,7,9,11,39,40,41,42,52,53,54,55,67,68,69,70,100,101,102,103,113,119]
@[go_sem] def aBl:List Nat:=[0,2,4,6,7,11,13,22,40,52,66,67,68,69,84,90,91,92,93,106]
@[go_sem] def yJ:List Nat:=[0,1,2,3,5,6,13,14,15,16,20,26,30,35,36,37,40]
@[go_sem] def aM5:List Nat:=[0,1,2,4,5,6,7,8,9,10,13,15,16,17,18,25,29,30,31,32,39]
end Go.AV
