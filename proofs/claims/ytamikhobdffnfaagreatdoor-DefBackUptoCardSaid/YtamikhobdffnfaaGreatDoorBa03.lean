/-
  Of DefBack.
-/
import Derived.Test.YtamikhobdffnfaaGreatDoorBa02
import Derived.Laws.Cover3
import Derived.LaidEqlPtr
import Derived.Laws.StructEq
import Derived.Laws.Pointers
import Derived.Recover
import Derived.Test.YtamikhobdffnfaaGreatDoorProg
import Derived.KernelRfl
import Derived.Lib.Builder
set_option linter.all false
set_option maxRecDepth 99999
set_option maxHeartbeats 0
namespace Go.AV
open Go Go.Proofs Tryz
section
def kZ:Op->Bool
 | .store ..=>true
 | .alloc _=>true
 | .box ..=>true
 | .panic _=>true
 | .range ..=>true
 | .makeSlice ..=>true
 | .next ..=>true
 | .call c=>match c.callee with
  | .builtin .len=>false
  | .builtin .max=>false
  | .builtin .min=>false
  | _=>true
 | _=>false
def kY(C:Cx)(ds:List (Option Tmp))(o:Oper)(KV Kp:St->A->Prop)(e:Env)(s:St):Prop :=
  match o.guard with
  | none=>bM C o.op (fC C e) KV Kp s
  | some (j,want)=>∃t,mW ds j=some t /\
      ((∃ b,e.get t = some (.bool b) ∧ ((b = want ∧ bM C o.op (fC C e) KV Kp s) ∨ (b ≠ want ∧ KV s (.tuple [])))) ∨
       (∃l,e.get t=some (.tuple l)/\KV s (.tuple [])))
inductive Bef (ops:Array Oper):Nat->Nat->Prop
 | edge {j:Nat} {o:Oper} {e:Edge} (ho:ops[j]?=some o) (he:e∈o.after) (hb:Region.binds .any e=true):Bef ops e.on j
 | step {m j:Nat} {o:Oper} {e:Edge} (ho:ops[j]?=some o) (he:e∈o.after) (hb:Region.binds .any e=true) (h:Bef ops m e.on):Bef ops m j
def DC(ops:Array Oper)(l:Array Bool):Prop :=
 ∀j o,ops[j]?=some o->l.getD j false=true->∀e,e∈o.after->Region.binds .any e=true->l.getD e.on false=true
def Dead(ops:Array Oper)(m:Nat)(l:Array Bool):Prop :=
 ∃j o,ops[j]?=some o/\kZ o.op=true/\l.getD j false=true/\Bef ops m j
def rH(ops:Array Oper)(W:List (Nat × (St->Prop)))(l:Array Bool)(s:St):Prop:=∀w,w∈W->¬ Dead ops w.1 l->w.2 s
def sS(o:Oper)(m:Nat):Bool:=o.after.toList.any λe=>Region.binds .any e&&Nat.beq e.on m
def late(ops:Array Oper)(i:Nat):Bool:=match ops[i]? with
 | some o=>match o.op,o.dst,o.guard with
  | .alloc _,some d,none=>(o.after.toList.all λe=>!Region.binds .any e) &&
    (List.range ops.size).all fun j => match ops[j]? with
     | some h=>(Nat.beq j i||!(h.dst == some d))&&(Nat.beq j i||!(h.looksAt ops).elem d||sS h i)&&(!sS h i||(List.range ops.size).all λm=>Nat.beq m j||sS h m)
     | none=>true
  | _,_,_=>false
 | none=>false
def pL(ops:Array Oper)(l:Array Bool):List Nat :=
 if(Region.ready .any ops l).all (late ops) then Region.ready .any ops l else(Region.ready .any ops l).filter λi=>!late ops i
theorem aAJ{ops:Array Oper}{l:Array Bool}{i:Nat}(h:i∈pL ops l):i∈Region.ready .any ops l:=by
 unfold pL at h;split at h
 .exact h
 .exact(List.mem_filter.1 h).1
theorem aDq{ops:Array Oper}{l:Array Bool}{i:Nat}(h:i∈Region.ready .any ops l)(m:late ops i=false):i∈pL ops l:=by
 unfold pL;split
 .exact h
 .exact List.mem_filter.2 ⟨h,by simp[m]⟩
theorem aIU{ops:Array Oper}{l:Array Bool}{i j:Nat}(h:j∈pL ops l)(u:i∈Region.ready .any ops l)(hl:late ops i=false):late ops j=false:=by
 unfold pL at h;split at h
 .rename_i m;rw[jF]at m;have:=m i u;rw[hl]at this;cases this
 .have:=(List.mem_filter.1 h).2;simpa using this
theorem aPH{ops:Array Oper}{i:Nat}{o:Oper}(ho:ops[i]?=some o)(h:late ops i=true):kZ o.op=true:=by
 unfold late at h;rw[ho]at h;simp only at h;split at h
 .rename_i m _ _;rw[m];rfl
 .cases h
def iB(C:Cx)(n:Nat)(ops:Array Oper)(K:Env->St->Prop)(Kp:St->A->Prop)(W:List (Nat × (St->Prop))):Nat->Array Bool->Env->St->Prop
 | 0,l,e,s=>rH ops W l s/\Region.ready .any ops l=[]/\K e s
 | f+1,l,e,s=>rH ops W l s/\(Region.ready .any ops l=[]->K e s)/\∀i,i∈pL ops l->∀o,ops[i]?=some o ->
   kY C (ops.toList.map (·.dst)) o (cY n o.dst (iB C n ops K Kp W f (l.setIfInBounds i true)) e) Kp e s
section
variable {C:Cx} {n:Nat} {ops:Array Oper} {K:Env->St->Prop} {Kp:St->A->Prop} {W:List (Nat × (St->Prop))} {s:St}
theorem aLN{f:Nat}{l:Array Bool}{e:Env}(h:iB C n ops K Kp W f l e s):rH ops W l s:=by
 cases f with
 | zero=>exact h.1
 | succ f=>exact h.1
theorem aAH{ds:List (Option Tmp)}{o:Oper}{KV m:St->A->Prop}{e:Env}(h:kY C ds o KV Kp e s)(u:∀s v,KV s v->m s v):kY C ds o m Kp e s:=by
 unfold kY at *;split
 .rename_i y;simp only[y]at h;exact aDw h u λ_ _ h=>h
 .rename_i j want y;simp only[y]at h;obtain⟨t,B,h⟩:=h;refine⟨t,B,?_⟩;rcases h with⟨b,z,h|h⟩|⟨l,hl,h⟩
  .exact .inl ⟨b,z,.inl ⟨h.1,aDw h.2 u λ_ _ h=>h⟩⟩
  .exact .inl ⟨b,z,.inr ⟨h.1,u _ _ h.2⟩⟩
  .exact .inr ⟨l,hl,u _ _ h⟩
theorem aQ1{o:Oper}{e e':Env}(h:∀t,t∈o.looksAt ops->e.get t=e'.get t)(x:Operand)(m:x∈o.op.operands):fC C e x=fC C e' x:=by
 cases x with
 | tmp t =>
  have:=h t (List.mem_append_left _ (List.mem_filterMap.2 ⟨.tmp t,gQ m,rfl⟩));simpa [fC]using this
 | _=>rfl
theorem aC4{o:Oper}{KV:St->A->Prop}{e e':Env}(B:∀t,t∈o.looksAt ops->e.get t=e'.get t)
  (h:kY C (ops.toList.map (·.dst)) o KV Kp e s):kY C (ops.toList.map (·.dst)) o KV Kp e' s:=by
 have m:=aQ1 (C:=C) B;unfold kY at *;split
 .rename_i u;simp only[u]at h;exact aJE m h
 .rename_i j want u;simp only[u]at h;obtain⟨t,y,h⟩:=h
  have z:e.get t=e'.get t:=B t (by
   rw[aGy]at y;simp[Oper.looksAt,u,y])
  refine⟨t,y,?_⟩;rw[<-z];rcases h with⟨b,H,h|h⟩|⟨l,hl,h⟩
  .exact .inl ⟨b,H,.inl ⟨h.1,aJE m h.2⟩⟩
  .exact .inl ⟨b,H,.inr h⟩
  .exact .inr ⟨l,hl,h⟩
theorem zV(y:∀e e' s,(∀t,e.get t=e'.get t)->K e s->K e' s):∀(f:Nat) (l:Array Bool) (e e':Env) (s:St),(∀t,e.get t=e'.get t) ->
  iB C n ops K Kp W f l e s->iB C n ops K Kp W f l e' s
 | 0,l,e,e',s,m,h=>⟨h.1,h.2.1,y _ _ _ m h.2.2⟩
 | f+1,l,e,e',s,m,h=>by
  refine⟨h.1,λz=>y _ _ _ m (h.2.1 z),λi B o ho=>?_⟩;refine aAH (aC4 (λt _=>m t) (h.2.2 i B o ho)) λs' v u=>?_
  unfold cY at *;cases hd:o.dst with
  | none=>rw[hd]at u;exact zV y f _ e e' s' m u
  | some d =>
   rw[hd]at u;refine⟨u.1,zV y f _ _ _ s' (λt=>?_) u.2⟩;rw[nQ,nQ];split<;>simp[m]
theorem xH{l:Array Bool}{i:Nat}(h:l.getD i true=false):i<l.size/\l.getD i false=false:=by
 rcases aIG i l.size with m|m
 .exact⟨m,by simp[m]at h⊢;exact h⟩
 .simp[Array.getElem?_eq_none m]at h
theorem Bef.listed{l:Array Bool}(u:DC ops l){m j:Nat}(h:Bef ops m j):l.getD j false=true->l.getD m false=true:=by
 induction h with
 | edge ho y B=>intro z;exact u _ _ ho z _ y B
 | step ho y B _ H=>intro z;exact H (u _ _ ho z _ y B)
theorem Bef.ready{l:Array Bool}(B:DC ops l){m j:Nat}(h:Bef ops m j)(M:j∈Region.ready .any ops l):l.getD m false=true:=by
 obtain⟨_,O,y,u⟩:=mem_ready.1 M;cases h with
 | edge ho z H=>rw[y]at ho;cases ho;exact u _ z H
 | step ho z H h=>rw[y]at ho;cases ho;exact h.listed B (u _ z H)
theorem DC.set{l:Array Bool}(y:DC ops l){j:Nat}(M:j∈Region.ready .any ops l):DC ops (l.setIfInBounds j true):=by
 intro k o ho B e z H;obtain⟨O,S,u,m⟩:=mem_ready.1 M;refine getD_set_true ?_;by_cases h:j=k
 .subst h;rw[u]at ho;cases ho;exact m e z H
 .rw[getD_set_ne false h]at B;exact y k o ho B e z H
theorem aSo{i:Nat}{B:Oper}(hi:ops[i]?=some B)(b9:kZ B.op=false)(hK:∀e e' s,(∀t,e.get t=e'.get t)->K e s->K e' s)
  (v:A)(p:St->Prop):∀(f:Nat) (l:Array Bool) (e:Env) (s:St),DC ops l ->
  (∀j oj,ops[j]?=some oj->j≠i->l.getD j true=false->(∀e∈oj.after,Region.binds .any e=true->e.on≠i)->B.apart ops oj=true) ->
  i∈Region.ready .any ops l->(∀s' KV,p s'->KV s' v->kY C (ops.toList.map (·.dst)) B KV Kp e s')->p s->rH ops W l s ->
  cY n B.dst (iB C n ops K Kp ((i,p)::W) f (l.setIfInBounds i true)) e s v->iB C n ops K Kp W (f+1) l e s:=by
 have bk:late ops i=false:=by
  cases hl:late ops i with
  | false=>rfl
  | true=>have:=aPH hi hl;rw[b9]at this;cases this
 have drop:∀(f:Nat) (l:Array Bool) (e:Env) (s:St),iB C n ops K Kp ((i,p)::W) f l e s->iB C n ops K Kp W f l e s:=by
  intro f
  induction f with
  | zero=>intro l e s h;exact⟨λw hw=>h.1 w (cP _ hw),h.2⟩
  | succ f ih =>
   intro l e s h;refine⟨λw hw=>h.1 w (cP _ hw),h.2.1,λj hj o ho=>aAH (h.2.2 j hj o ho) λs' v hv=>?_⟩;unfold cY at *;cases hd:o.dst with
   | none=>rw[hd]at hv;exact ih _ _ _ hv
   | some d=>rw[hd]at hv;exact⟨hv.1,ih _ _ _ hv.2⟩
 have b5:∀(l:Array Bool) (m:Nat),Dead ops m (l.setIfInBounds i true)->Dead ops m l:=by
  rintro l m ⟨j,o,ho,he,hl,hb⟩;refine⟨j,o,ho,he,?_,hb⟩;by_cases bj:i=j
  .subst bj;rw[hi]at ho;cases ho;rw[b9]at he;cases he
  ·rwa[getD_set_ne false bj]at hl
 have bb:∀(f:Nat) (l:Array Bool) (e:Env) (s:St),(∀s' KV,p s'->KV s' v->kY C (ops.toList.map (·.dst)) B KV Kp e s')->p s ->
   cY n B.dst (iB C n ops K Kp ((i,p)::W) f (l.setIfInBounds i true)) e s v ->
   ∀o,ops[i]?=some o->kY C (ops.toList.map (·.dst)) o (cY n o.dst (iB C n ops K Kp W f (l.setIfInBounds i true)) e) Kp e s:=by
  intro f l e s hy hp H o ho;rw[hi]at ho;cases ho;refine hy s _ hp ?_;unfold cY at *;cases hd:B.dst with
  | none=>rw[hd]at H;exact drop _ _ _ _ H
  | some d=>rw[hd]at H;exact⟨H.1,drop _ _ _ _ H.2⟩
 intro f
 induction f with
 | zero =>
  intro l e s b3 _ hr hy hp hc H;refine⟨hc,λh=>(by rw[h]at hr;cases hr),λj Z o ho=>?_⟩;have hj:=aAJ Z;have bf:=aIU Z hr bk;by_cases y:j=i
  .subst y;exact bb 0 l e s hy hp H o ho
  .have bh:=ready_mono hj y
   have bm:Region.ready .any ops (l.setIfInBounds i true)=[]:=by
    unfold cY at H;cases hd:B.dst with
    | none=>rw[hd]at H;exact H.2.1
    | some d=>rw[hd]at H;exact H.2.2.1
   rw[bm]at bh;cases bh
 | succ f ih =>
  intro l e s b3 b0 hr hy hp hc H;refine⟨hc,λh=>(by rw[h]at hr;cases hr),λj Z oj b2=>?_⟩;have hj:=aAJ Z;have bf:=aIU Z hr bk;by_cases y:j=i
  .subst y;exact bb _ l e s hy hp H oj b2
  .obtain⟨b8,bz,bc,bn⟩:=mem_ready.1 hj;rw[b2]at bc;cases bc;have bd:=xH (mem_ready.1 hr).1
   have bl:∀e∈oj.after,Region.binds .any e=true->e.on≠i:=λe he hb heq=>by
    have S:=bn e he hb;rw[heq,bd.2]at S;cases S
   have bt:=b0 j oj b2 y b8 bl;obtain⟨a1,a2,a3⟩:=Oper.apart_spec bt
   have b4:∀k ok,ops[k]?=some ok->k≠i->(l.setIfInBounds j true).getD k true=false ->
     (∀e∈ok.after,Region.binds .any e=true->e.on≠i)->B.apart ops ok=true:=λk ok hk br bg bw=>by
    refine b0 k ok hk br ?_ bw;by_cases O:j=k
    .subst O;exact b8
    .rw[getD_set_ne true O]at bg;exact bg
   have b6:¬ i=j:=λh=>y h.symm
   have bp:¬ Dead ops i ((l.setIfInBounds j true).setIfInBounds i true):=by
    intro hd;obtain⟨k,o,ho,he,hl,hb⟩:=b5 _ _ hd;by_cases O:j=k
    .subst O;have:=hb.ready b3 hj;rw[bd.2]at this;cases this
    .rw[getD_set_ne false O]at hl;have:=hb.listed b3 hl;rw[bd.2]at this;cases this
   have U:(l.setIfInBounds i true).setIfInBounds j true=(l.setIfInBounds j true).setIfInBounds i true:=Array.setIfInBounds_comm _ _ b6
   have after:∀(e':Env) (s':St),(∀t,t∈B.looksAt ops->e.get t=e'.get t) ->
     cY n B.dst (iB C n ops K Kp ((i,p)::W) f ((l.setIfInBounds j true).setIfInBounds i true)) e' s' v ->
     iB C n ops K Kp W (f+1) (l.setIfInBounds j true) e' s':=by
    intro e' s' bv H'
    have b7:rH ops ((i,p)::W) ((l.setIfInBounds j true).setIfInBounds i true) s':=by
     unfold cY at H';cases hd:B.dst with
     | none=>rw[hd]at H';exact aLN H'
     | some d=>rw[hd]at H';exact aLN H'.2
    refine ih (l.setIfInBounds j true) e' s' (b3.set hj) b4 (ready_mono hr b6) (λs2 KV S h2=>aC4 bv (hy s2 KV S h2)) ?_ ?_ H'
    .exact b7 _ (bU ..) bp
    ·exactλw hw hl=>b7 w (cP _ hw) λhd=>hl (b5 _ _ hd)
   unfold cY at H;cases hd:B.dst with
   | none =>
    rw[hd]at H;have S:=H.2.2 j (aDq (ready_mono hj y) bf) oj b2;refine aAH S λs' u M=>?_
    rw[U]at M;unfold cY at *;cases z:oj.dst with
    | none=>rw[z]at M;exact after e s' (λ_ _=>rfl) (by rw[hd];exact M)
    | some dj =>
     rw[z]at M;refine⟨M.1,after (e.put dj u) s' (λt ht=>?_) (by rw[hd];exact M.2)⟩;rw[nQ,aB (λh:dj=t=>a3 dj z (by rw[h];exact ht))]
   | some d =>
    rw[hd]at H;have S:=H.2.2.2 j (aDq (ready_mono hj y) bf) oj b2;have h2:=aC4 (e':=e) (λt ht=>by rw[nQ,aB (λh:d=t=>a1 d hd (by rw[h];exact ht))]) S;refine aAH h2 λs' u M=>?_
    rw[U]at M;unfold cY at *;cases z:oj.dst with
    | none=>rw[z]at M;exact after e s' (λ_ _=>rfl) (by rw[hd];exact⟨H.1,M⟩)
    | some dj =>
     rw[z]at M
     refine⟨M.1,after (e.put dj u) s' (λt ht=>?_) (by
      rw[hd];refine⟨H.1,zV hK _ _ _ _ _ (λt=>?_) M.2⟩;have bq:¬ d=dj:=λh:d=dj=>a2 d hd (by rw[h];exact z)
      simp only[nQ];by_cases S:dj=t
      .subst S;simp[bq]
      .simp[S])⟩
     rw[nQ,aB (λh:dj=t=>a3 dj z (by rw[h];exact ht))]
end
end
section
section
variable {C:Cx} {F:Fr} {g g0:Gh} {s:St} {w:World} {n:Nat} {ops:Array Oper} {K:Env->St->Prop} {Kp:St->A->Prop} {W:List (Nat × (St->Prop))}
theorem aAG{o:Oper}{m:Nat}:sS o m=true↔∃e,e∈o.after/\Region.binds .any e=true/\e.on=m:=by
 simp only[sS,List.any_eq_true,cT,Array.mem_toList_iff];constructor
 .rintro⟨e,h,h2,u⟩;exact⟨e,h,h2,oH u⟩
 .rintro⟨e,h,h2,rfl⟩;exact⟨e,h,h2,Nat.beq_refl _⟩
theorem yX{i:Nat}(h:late ops i=true):∃d t ty pos after,ops[i]?=some ⟨some d,.alloc t,ty,pos,after,none⟩/\(∀e,e∈after->Region.binds .any e=false) /\
  ∀j y,ops[j]?=some y->j≠i->y.dst≠some d/\(d∈y.looksAt ops->sS y i=true)/\(sS y i=true->∀m,m<ops.size->m≠j->sS y m=true):=by
 unfold late at h;cases ho:ops[i]? with
 | none=>rw[ho]at h;cases h
 | some o =>
  rw[ho]at h;obtain⟨dst,op,ty,pos,after,gd⟩:=o;simp only at h;split at h
  .rename_i _ _ _ t d;simp only[cT,jF,wW,Array.mem_toList_iff,qD]at h;refine⟨d,t,ty,pos,after,rfl,h.1,λj y Z O=>?_⟩;have h2:=h.2 j (jU.1 Z).1;rw[Z]at h2;simp only[cT,oK,qD,aBN,dG,jF,wW]at h2;obtain⟨⟨B,u⟩,z⟩:=h2
   have H:Nat.beq j i=false:=by
    cases H:Nat.beq j i with
    | false=>rfl
    | true=>exact cM (oH H) O
   refine⟨?_,λhl=>?_,λM m hm S=>?_⟩
   .rcases B with B|B
    .rw[H]at B;cases B
    .exact B
   .rcases u with(u|u)|u
    .rw[H]at u;cases u
    .have:(y.looksAt ops).elem d=true:=List.elem_eq_true_of_mem hl;rw[this]at u;cases u
    .exact u
   .rcases z with z|z
    .rw[M]at z;cases z
    .rcases z m hm with U|U
     .exact cM (oH U) S
     .exact U
  .cases h
def Pend(C:Cx)(n:Nat)(ops:Array Oper)(F:Fr):List (Nat × Nat)->Fr->Array Value->Prop
 | [],h,_=>h=F
 | (i,k)::P,h,tmps=>∃F1 d t ty pos after m z,Pend C n ops F P F1 tmps/\ops[i]?=some ⟨some d,.alloc t,ty,pos,after,none⟩/\late ops i=true/\C.tt t=some m /\
   (∀g,Rzs g m.zero (Value.cells z).toList)/\(d<n->tmps[d]?=some (.pointer (some ⟨k,0,none⟩)))/\F1 k=none/\h=(λj=>if j=k then some (.cells z.cells t,none) else F1 j)
theorem Pend.subP:∀{P:List (Nat × Nat)} {u:Fr} {tmps:Array Value},Pend C n ops F P u tmps->∀k o p,u k=some (o,some p)->F k=some (o,some p)
 | [],u,tmps,h,k,o,p,m=>by rw[show u=F from h]at m;exact m
 | (i,q)::P,u,tmps,h,k,o,p,m=>by
  obtain⟨F1,d,t,ty,pos,after,H,z,B,_,_,_,_,_,M,rfl⟩:=h;refine B.subP k o p ?_;by_cases y:k=q
  .simp[y]at m
  .simpa only[y,↓reduceIte]using m
theorem Pend.sub:∀{P:List (Nat × Nat)} {m:Fr} {tmps:Array Value},Pend C n ops F P m tmps->∀k o,F k=some o->m k=some o
 | [],m,tmps,h,k,o,u=>by rw[show m=F from h];exact u
 | (i,q)::P,m,tmps,h,k,o,u=>by
  obtain⟨F1,d,t,ty,pos,after,M,z,B,_,_,_,_,_,H,rfl⟩:=h;have:=B.sub k o u;have y:k≠q:=by rintro rfl;rw[H]at this;cases this
  simp only[y,↓reduceIte];exact this
theorem Pend.put{a:Act}{j:Nat}{o:Oper}{v:Value}(ho:ops[j]?=some o):∀{P:List (Nat × Nat)} {m:Fr},(∀p,p∈P->p.1≠j)->Pend C n ops F P m a.tmps->Pend C n ops F P m (a.put o.dst v).tmps
 | [],m,_,h=>h
 | (i,q)::P,m,S,h=>by
  obtain⟨F1,d,t,ty,pos,after,ti,z,h1,h2,M,h4,h5,U,h7,h8⟩:=h;refine⟨F1,d,t,ty,pos,after,ti,z,h1.put ho (λp hp=>S p (by simp[hp])),h2,M,h4,h5,λhd=>?_,h7,h8⟩;obtain⟨d',t',b0,Z,u,H,_,e3⟩:=yX M;rw[h2]at H;cases H;have y:=(e3 j o ho (λe=>S (i,q) bJ e.symm)).1;cases B:o.dst with
  | none=>exact U hd
  | some O =>
   have:O≠d:=by rintro rfl;exact y B
   show(a.tmps.setIfInBounds O v)[d]?=_;rw[aCP this];exact U hd
theorem Pend.late:∀{P:List (Nat × Nat)} {u:Fr} {tmps:Array Value},Pend C n ops F P u tmps->∀p,p∈P->late ops p.1=true
 | [],_,_,_,p,m=>by cases m
 | (i,k)::P,u,tmps,h,p,m=>by
  obtain⟨F1,d,t,ty,pos,after,H,z,B,h2,y,_⟩:=h;cases m with
  | head=>exact y
  | tail _ m=>exact B.late p m
def jT(ops:Array Oper)(P:List (Nat × Nat)):List (Option Tmp):=P.map λp=>(ops[p.1]?).bind (·.dst)
def iF(P:List (Nat × Nat))(l:Array Bool):Array Bool:=P.foldr (λp l=>l.setIfInBounds p.1 true) l
theorem aB8{m:Nat}(d:Bool):∀(P:List (Nat × Nat)) (l:Array Bool),(∀p,p∈P->p.1≠m)->(iF P l).getD m d=l.getD m d
 | [],l,_=>rfl
 | p::P,l,h=>by
  simp only[iF,List.foldr_cons];rw[getD_set_ne d (h p bJ)];exact aB8 d P l λq u=>h q (by simp[u])
theorem aKh{m:Nat}:∀(P:List (Nat × Nat)) (l:Array Bool),l.getD m false=true->(iF P l).getD m false=true
 | [],l,h=>h
 | p::P,l,h=>by
  simp only[iF,List.foldr_cons];exact getD_set_true (aKh P l h)
theorem aGO{i:Nat}:∀(P:List (Nat × Nat)) (l:Array Bool),(∀p,p∈P->p.1≠i)->(iF P l).setIfInBounds i true=iF P (l.setIfInBounds i true)
 | [],l,_=>rfl
 | p::P,l,h=>by
  have m:=h p bJ;simp only[iF,List.foldr_cons];rw[Array.setIfInBounds_comm _ _ m];have:=aGO (i:=i) P l λq u=>h q (by simp[u])
  simp only[iF]at this;rw[this]
def uX(l:Array Bool):Nat:=l.toList.count false
theorem aL3{l:Array Bool}{i:Nat}(h:l.getD i true=false):uX (l.setIfInBounds i true)+1=uX l:=by
 obtain⟨l⟩:=l
 have m:∀(l:List Bool) (i:Nat),l[i]?=some false->(l.set i true).count false+1=l.count false:=by
  intro l
  induction l with
  | nil=>intro i h;simp at h
  | cons x r y =>
   intro i h;cases i with
   | zero=>simp only[lM,bQ]at h;subst h;simp
   | succ i =>
    have:=y i (gQ h);simp only[wV,List.count_cons];omega
 have hl:l[i]?=some false:=by
  cases u:l[i]? with
  | none=>simp[u]at h
  | some b=>simp[u]at h;rw[h]
 simpa [uX]using m l i hl
theorem aSj{l:Array Bool}(h:uX l=0):Region.ready .any ops l=[]:=by
 rw[List.eq_nil_iff_forall_not_mem];intro i m;have:=aL3 (mem_ready.1 m).1;omega
theorem EnvOk.at{g:Gh}{n:Nat}{e:Env}{tmps:Array Value}{d:Nat}{x:A}{v:Value}(h:EnvOk g n e tmps)(hd:tmps[d]?=some v)(z:Rz g x v):EnvOk g n (e.put d x) tmps:=by
 refine⟨h.size,λt y m=>?_⟩;rw[nQ]at m;by_cases u:d=t
 .subst u;simp only[↓reduceIte,bQ]at m;subst m;exact⟨v,hd,z⟩
 .simp only[u,↓reduceIte]at m;exact h.val t y m
theorem R.adopt{F1:Fr}{k b:Nat}{o:Obj}{ob:Ob}(h:R C.toCtx (λj=>if j=k then some (o,none) else F1 j) g s w)(hF:F1 k=none)(ho:ObRz g ob (some o))(hb:g.beta b=none){s':St}
  (hO:∀q,s'.getO q=if b=q then some ob else s.getO q)(hT:∀q,s'.getT q=s.getT q)(hL:s'.ls=s.ls)(hl:C.det=true->s.lim<=s'.lim/\b<s'.lim) :
  R C.toCtx F1 (g.bx b k) s' w:=by
 have u:=aAW hb k;have hk:=h.frm k (o,none) bJ
 have z:∀c q,g.beta c=some q->q≠k:=by
  rintro c q m rfl;have:=h.bfr c q m;simp at this
 have y:=h.unframe (F0:=F1) λq x H=>by
  have:q≠k:=by rintro rfl;rw[hF]at H;cases H
  simp only[this,↓reduceIte];exact H
 have y:=y λq x p H=>by
  by_cases S:q=k
  .simp[S]at H
  .simpa only[S,↓reduceIte]using H
 refine⟨λc x B=>?_,?_,?_,y.pis,y.frm,λc cs m=>?_,?_,?_,?_,λhd c m=>?_,λx B=>(h.lst x (by rw[<-hL];exact B)).mono u,λc q m=>?_,h.env⟩
 .rw[hO]at B;by_cases U:b=c
  .subst U;simp only[↓reduceIte,bQ]at B;subst B;exact⟨k,by simp[Gh.bx],by rw[hk.1];exact ho.mono u,hk.2,hF⟩
  .simp only[U,↓reduceIte]at B;obtain⟨q,h1,h2,h3⟩:=y.obj c x B;exact⟨q,u.beta _ _ h1,h2.mono u,h3⟩
 .intro t n e M;rw[hT]at M;exact y.tok t n e M
 .intro t t' n n' v v' c z M O;rw[hT]at M O;exact y.sep t t' n n' v v' c z M O
 .obtain⟨pre,ty,fr,hp,hl,h1,hr⟩:=y.glb c cs m;exact⟨pre,ty,fr,hp,hl,h1,λj c v m hv=>(hr j c v m hv).mono u⟩
 .obtain⟨N,Z⟩:=h.fsh;refine⟨max N (b+1),λt M=>⟨by rw[hT];exact(Z t aC).1,(Z t aC).2.1,?_⟩⟩;have:t≠b:=by omega
  simp[Gh.bx,this,(Z t aC).2.2]
 .intro c q m;simp only[Gh.bx]at m;split at m
  .cases m;exact(jU.1 hk.1).1
  .exact h.bet c q m
 .intro c d q m hd;simp only[Gh.bx]at m hd;split at m<;>split at hd
  .omega
  .cases m;exact cM rfl (z d k hd)
  .cases hd;exact cM rfl (z c k m)
  .exact h.inj c d q m hd
 .obtain⟨l1,l2⟩:=hl hd;obtain⟨d1,d2⟩:=h.dtm hd c aC;have:c≠b:=by omega
  exact⟨by simp[Gh.bx,this,d1],d2⟩
 .simp only[Gh.bx]at m;split at m
  .cases m;exact hF
  .exact y.bfr c q m
theorem R.lay(h:R C.toCtx F g s w)(o:Obj):R C.toCtx (λj=>if j=w.heap.size then some (o,none) else F j) g s (w.alloc o):=by
 have M:∀k,k<w.heap.size->(w.alloc o).heap[k]?=w.heap[k]?:=λk M=>wX w o M
 have m:=h.keep M;refine⟨λc x U=>?_,λt n e Z=>?_,m.sep,m.pis,λq x u=>?_,λc cs H=>?_,m.fsh,m.bet,m.inj,m.dtm,m.lst,λc q H=>?_,m.env⟩;rotate_left 3
 .obtain⟨pre,ty,fr,S,y⟩:=h.glb c cs H;have:c≠w.heap.size:=Nat.ne_of_lt (h.lt_frm S);exact⟨pre,ty,fr,by simp only[this,↓reduceIte];exact S,y⟩
 rotate_left 1
 .obtain⟨q,y,h2,O,z⟩:=m.obj c x U;have:q≠w.heap.size:=Nat.ne_of_lt (h.bet c q y);exact⟨q,y,h2,O,by simp only[this,↓reduceIte];exact z⟩
 .obtain⟨v,xs,y,h2,O,z⟩:=m.tok t n e Z;refine⟨v,xs,y,h2,O,λq u=>?_⟩;have:q≠w.heap.size:=Nat.ne_of_lt (h.lt_pi (z q u).1);exact⟨(z q u).1,by simp only[this,↓reduceIte];exact(z q u).2⟩
 .by_cases B:q=w.heap.size
  .subst B;simp only[↓reduceIte,bQ]at u;subst u;exact⟨yJ w o,h.pi_new⟩
  .simp only[B,↓reduceIte]at u;exact m.frm q x u
 .have:q≠w.heap.size:=Nat.ne_of_lt (h.bet c q H);simp only[this,↓reduceIte];exact h.bfr c q H
theorem aPZ{k:Nat}{F1:Fr}{o:Obj}{ob:Ob}{f:Nat->A}{KV:St->A->Prop}(h:R C.toCtx (λj=>if j=k then some (o,none) else F1 j) g s w)(z:F1 k=none)(ho:ObRz g ob (some o))
  (u:uR C s ob f KV):∃b s',g.beta b=none/\R C.toCtx F1 (g.bx b k) s' w/\KV s' (f b):=by
 unfold uR at u;cases hd:C.det with
 | false =>
  rw[hd]at u;obtain⟨b,m⟩:=h.some_free;exact⟨b,s.setO b ob,m,h.adopt z ho m (λq=>aL s b ob q) (λq=>rfl) rfl (λy=>by rw[hd]at y;cases y),u b (h.free m)⟩
 | true =>
  rw[hd]at u;have m:=(h.dtm hd s.lim (aV _)).1;exact⟨s.lim,s.newO ob,m,h.adopt z ho m (λq=>aIE s ob q) (λq=>rfl) rfl (λ_=>⟨Nat.le_succ _,iD _⟩),u⟩
theorem aHK{a:Act}(f:Nat)(hn:a.tmps.size=n):∀(P:List (Nat × Nat)) (y:Array Bool) (F':Fr) (g:Gh) (e:Env) (s:St),(∀p,p∈P->y.getD p.1 true=false)->(P.map (·.1)).Nodup ->
  (∀m,m∈Region.ready .any ops y->late ops m=true)->Pend C n ops F P F' a.tmps->R C.toCtx F' g s w->EnvOk g n (e.rem (jT ops P)) a.tmps ->
  iB C n ops K Kp W (f+P.length) y e s->∃g' e' s',g.le g'/\R C.toCtx F g' s' w/\EnvOk g' n e' a.tmps/\iB C n ops K Kp W f (iF P y) e' s'
 | [],y,F',g,e,s,_,_,_,hP,hR,O,h=>by
  rw[show F'=F from hP]at hR;refine⟨g,e,s,iE g,hR,O.sub λt x U=>?_,h⟩;rw[qG];simpa [jT]using U
 | (i,k) :: P,y,F',g,e,s,b4,b7,b0,hP,hR,O,h => by
  obtain⟨F1,d,t,ty,pos,after,ti,z,h1,h2,h3,h4,h5,h6,h7,rfl⟩:=hP;obtain⟨d',t',c3,c1,bl,q1,q2,q3⟩:=yX h3;rw[h2]at q1;cases q1;have bb:=b4 (i,k) bJ;have hr:i∈Region.ready .any ops y:=mem_ready.2 ⟨bb,_,h2,λe O B=>by rw[q2 e O]at B;cases B⟩
  have hz:i∈pL ops y:=by
   unfold pL;rw[aF (by rw[jF];exact b0)];exact hr
  have hs:=h.2.2 i hz _ h2;simp only[kY,bM,h4,aEK]at hs;obtain⟨b,s',B,b6,S⟩:=aPZ hR h7 (ob:=.cells t ti.zero) ⟨z.cells.toList,[],by simp,h5 g,(C.htt t ti h4).one⟩ hs;obtain⟨c0,S⟩:=S;have b8:=aAW B k;simp only[bN,List.nodup_cons]at b7;have b2:∀p,p∈P->p.1≠i:=λp hp e=>b7.1 (cH.2 ⟨p,hp,e⟩)
  have Z:iF ((i,k)::P) y=iF P (y.setIfInBounds i true):=by
   rw[<-aGO P y b2];rfl
  have H:EnvOk (g.bx b k) n ((e.put d (.ptr b 0)).rem (jT ops P)) a.tmps:=by
   have h8:=(O.mono b8).at (h6 c0) (x:=.ptr b 0) (.ptr b 0 k (by simp[Gh.bx]));refine h8.sub λu x U=>?_
   rw[qG]at U;split at U
   .cases U
   .rename_i hu;rw[nQ]at U⊢;by_cases b3:d=u
    .simpa only[b3,↓reduceIte]using U
    .simp only[b3,↓reduceIte]at U⊢;rw[qG,aB]
     .exact U
     .rw[List.elem_iff]at hu⊢;simp only[jT,bN,h2,Option.bind_some,eA,bQ,not_or]at hu⊢;exact⟨λe=>b3 e.symm,hu⟩
  by_cases bd:P=[]
  .subst bd;rw[show F1=F from h1]at b6
   have bp:((e.put d (.ptr b 0)).rem (jT ops []))=e.put d (.ptr b 0):=by
    have:∀e:Env,e.rem []=e:=by
     intro e
     induction e with
     | nil=>rfl
     | cons x e ih=>simp only[Env.rem,List.elem_nil,cE,↓reduceIte,ih]
    exact this _
   rw[bp]at H;exact⟨_,_,s',b8,b6,H,by rw[Z];exact S⟩
  .have bf:∀m,m∈Region.ready .any ops (y.setIfInBounds i true)->late ops m=true:=by
    intro m hm;by_cases bj:m∈Region.ready .any ops y
    .exact b0 m bj
    .exfalso;obtain⟨m0,om,b5,M⟩:=mem_ready.1 hm
     have bg:m≠i:=by
      rintro rfl;have bt:=(xH bb).1;simp[bt]at m0
     have bc:sS om i=true:=by
      cases bk:sS om i with
      | true=>rfl
      | false =>
       exfalso;refine bj (mem_ready.2 ⟨by rw[getD_set_ne true (λe=>bg e.symm)]at m0;exact m0,om,b5,λed bh B=>?_⟩)
       have bn:i≠ed.on:=by
        intro bw;rw[aAG.2 ⟨ed,bh,B,bw.symm⟩]at bk;cases bk
       have:=M ed bh B
       rwa[getD_set_ne false bn]at this
     obtain⟨⟨p,kp⟩,b9⟩:=List.exists_mem_of_ne_nil P bd;have br:p≠i:=b2 (p,kp) b9;have bz:=b4 (p,kp) (by simp[b9]);obtain⟨d2,t2,ty2,c2,bm,z1,z2,_⟩:=yX (h1.late (p,kp) b9)
     have bv:p≠m:=by
      rintro rfl;rw[b5]at z1;cases z1;obtain⟨e,O,B,_⟩:=aAG.1 bc;rw[z2 e O]at B;cases B
     obtain⟨e,O,B,bq⟩:=aAG.1 ((q3 m om b5 bg).2.2 bc p (jU.1 z1).1 bv);have:=M e O B;rw[bq,getD_set_ne false (λe=>br e.symm),(xH bz).2]at this;cases this
   obtain⟨g',e',s2,r1,r2,r3,r4⟩:=aHK f hn P (y.setIfInBounds i true) F1 (g.bx b k) (e.put d (.ptr b 0)) s'
    (λp hp=>by rw[getD_set_ne true (λe=>b2 p hp e.symm)];exact b4 p (by simp[hp])) b7.2 bf h1 b6 H S
   exact⟨g',e',s2,b8.trans r1,r2,r3,by rw[Z];exact r4⟩
def Rle(C:Cx)(s s':St):Prop:=∀(F:Fr) (g:Gh) (w:World),R C.toCtx F g s w->R C.toCtx F g s' w
theorem Rle.refl(s:St):Rle C s s:=λ_ _ _ h=>h
theorem aQ9{P:List (Nat × Nat)}{B:Fr}{tmps:Array Value}(h:Pend C n ops F P B tmps){d:Nat}(hd:(jT ops P).elem (some d)=true):∃p,p∈P/\∃t ty pos after,ops[p.1]?=some ⟨some d,.alloc t,ty,pos,after,none⟩:=by
 have z:=List.mem_of_elem_eq_true hd;simp only[jT,cH]at z;obtain⟨p,u,m⟩:=z;obtain⟨H,t,ty,pos,after,y,_⟩:=yX (h.late p u);rw[y]at m;simp only[Option.bind_some,bQ]at m;subst m;exact⟨p,u,t,ty,pos,after,y⟩
theorem aT2{e0:Env}(cg:∀o,o∈ops.toList->∀d,o.dst=some d->e0.get d=none){D:List Deferred}{Q:XK->Env->St->Prop}(hK:∀e s,K e s->∃e' s',e.ge e'/\Rle C s s'/\Q .normal e' s')
  (c6:∀s v,Kp s v->Q (.panic v) e0 s)(htt:∀i t o,ops[i]?=some o->late ops i=true->o.op=.alloc t->(C.tt t).isSome=true) :
  ∀(f:Nat) (P:List (Nat × Nat)) (y:Array Bool) (U:Fr) (g:Gh) (e:Env) (s:St) (a:Act) (w:World),uX (iF P y)<=f->(∀p,p∈P->y.getD p.1 true=false)->(P.map (·.1)).Nodup ->
   Pend C n ops F P U a.tmps->g0.le g->R C.toCtx U g s w->EnvOk g n (e.rem (jT ops P)) a.tmps->EnvOk g n e0 a.tmps->a.defers=D ->
   iB C n ops K Kp W (f+P.length) y e s->wpAny C.P .any ops (Post C F g0 n D Q) f (iF P y) a w:=by
 have fin:∀(g:Gh) (e:Env) (s:St) (a:Act) (w:World),g0.le g->R C.toCtx F g s w->EnvOk g n e a.tmps->a.defers=D->K e s->Post C F g0 n D Q .normal a w :=
  λg e s a w hg hR H hD h=>by
   obtain⟨e',s',h1,h2,h3⟩:=hK _ _ h;exact⟨g,e',s',.normal,hg,h2 _ _ _ hR,H.sub h1,hD,trivial,h3⟩
 have bd:∀(f:Nat) (P:List (Nat × Nat)) (y:Array Bool) (U:Fr) (g:Gh) (e:Env) (s:St) (a:Act) (w:World),(∀p,p∈P->y.getD p.1 true=false)->(P.map (·.1)).Nodup ->
   Pend C n ops F P U a.tmps->g0.le g->R C.toCtx U g s w->EnvOk g n (e.rem (jT ops P)) a.tmps->a.defers=D ->
   iB C n ops K Kp W (f+P.length) y e s->Region.ready .any ops (iF P y)=[]->Post C F g0 n D Q .normal a w:=by
  intro f P y U g e s a w O Z hP hg hR H hD h hr
  obtain⟨g',e',s',r1,r2,r3,r4⟩:=aHK f H.size P y U g e s O Z (λm hm=>by
   by_cases b9:∃p,p∈P/\p.1=m
   .obtain⟨p,B,rfl⟩:=b9;exact hP.late p B
   .exfalso;obtain⟨m0,om,b8,b0⟩:=mem_ready.1 hm;have:m∈Region.ready .any ops (iF P y):=mem_ready.2 ⟨by rw[aB8 true P y (λp B e=>b9 ⟨p,B,e⟩)];exact m0,om,b8,λe H hb=>aKh P y (b0 e H hb)⟩;rw[hr]at this;cases this) hP hR H h
  have hk:K e' s':=by
   cases f with
   | zero=>exact r4.2.2
   | succ f=>exact r4.2.1 hr
  exact fin g' e' s' a w (hg.trans r1) r2 r3 hD hk
 intro f
 induction f with
 | zero =>
  intro P y U g e s a w hu O Z hP hg hR H b4 hD h;have hr:Region.ready .any ops (iF P y)=[]:=aSj aC;exact⟨hr,bd 0 P y U g e s a w O Z hP hg hR H hD h hr⟩
 | succ f ih =>
  intro P y U g e s a w hu O Z hP hg hR H b4 hD h;refine⟨λhr=>bd (f+1) P y U g e s a w O Z hP hg hR H hD h hr,λi hi=>?_⟩;obtain⟨bc,o,ho,b0⟩:=mem_ready.1 hi
  have S:∀p,p∈P->p.1≠i:=by
   rintro p B rfl;have cf:=(xH (O p B)).1
   have:(iF P y).getD p.1 false=true:=by
    have:∀{P:List (Nat × Nat)},p∈P->(iF P y).getD p.1 false=true:=by
     intro P
     induction P with
     | nil=>intro h;cases h
     | cons q P c8 =>
      intro h
      have ch:∀P:List (Nat × Nat),(iF P y).size=y.size:=by
       intro P
       induction P with
       | nil=>rfl
       | cons x P ih=>simp only[iF,List.foldr_cons,Array.size_setIfInBounds]at *;exact ih
      simp only[iF,List.foldr_cons];cases h with
      | head =>
       have:=ch P;simp only[iF]at this;simp[this,cf]
      | tail _ h=>exact getD_set_true (c8 h)
    exact this B
   rw[(xH bc).2]at this;cases this
  have bg:y.getD i true=false:=by rw[aB8 true P y S]at bc;exact bc
  have b5:uX ((iF P y).setIfInBounds i true)<=f:=by have:=aL3 bc;omega
  have bl:∀d,o.dst=some d->e0.get d=none:=cg o (by obtain⟨h1,h2⟩:=jU.1 ho;rw[<-h2];simp)
  by_cases b3:late ops i=true
  ·
   obtain⟨d,t,ty,pos,after,q1,q2,q3⟩:=yX b3;rw[ho]at q1;cases q1;obtain⟨ti,c0⟩:=Option.isSome_iff_exists.1 (htt i t _ ho b3 rfl);obtain⟨z,hz,c4⟩:=aCg c0 w;unfold wpOp;rw[ho];simp only;rw[aF (by simp[Region.wanted])];left
   have bn:(execOp a.eval ⟨some d,.alloc t,ty,pos,after,none⟩).run C.P w=.ok (.value (.pointer (some ⟨w.heap.size,0,none⟩))) (w.alloc (.cells z.cells t)):=by
    simp only[execOp,Instr.alloc,bW,hz,bV,newVar,newRow,run_newObj,cI];rfl
   unfold Oper.wp;rw[bn,Oper.upon_value];have bt:(iF P y).setIfInBounds i true=iF ((i,w.heap.size)::P) y:=rfl;rw[bt]at b5⊢
   have cp:∀p,p∈P->∀d' t' bm b7 b2,ops[p.1]?=some ⟨some d',.alloc t',bm,b7,b2,none⟩->d'≠d:=by
    intro p B d' t' bm b7 b2 cb e;have:=(q3 p.1 _ cb (S p B)).1;exact this (by rw[e])
   refine ih ((i,w.heap.size)::P) y (λj=>if j=w.heap.size then some (.cells z.cells t,none) else U j) g e s _ _ b5 (λp B=>?_) ?_ ?_ hg (hR.lay _) ?_ (b4.other bl) (by rw[aDb];exact hD) ?_
   .cases B with
    | head=>exact bg
    | tail _ B=>exact O p B
   .simp only[bN,List.nodup_cons];refine⟨λhm=>?_,Z⟩;obtain⟨p,B,c7⟩:=cH.1 hm;exact S p B c7
   .refine⟨U,d,t,ty,pos,after,ti,z,hP.put ho (λp B=>S p B),ho,b3,c0,c4,λhd=>?_,hR.frm_new,rfl⟩;show(a.tmps.setIfInBounds d _)[d]?=_;simp[H.size,hd]
   .have:=H.del (d:=d) (v:=.pointer (some ⟨w.heap.size,0,none⟩));refine this.sub λu x hx=>?_
    rw[qG]at hx;split at hx
    .cases hx
    .rename_i c1
     have bv:¬ u=d/\¬ (jT ops P).elem (some u)=true:=by
      rw[List.elem_iff]at c1⊢;simpa only[jT,bN,ho,Option.bind_some,eA,bQ,not_or]using c1
     have c5:¬ d=u:=λe=>bv.1 e.symm
     rw[aI0,aB c5,qG,aB bv.2];exact hx
   .have:f+((i,w.heap.size)::P).length=f+1+P.length:=by simp only[aG];omega
    rw[this];exact h
  .have b6:late ops i=false:=gQ b3
   have step:∀(P:List (Nat × Nat)) (y:Array Bool) (U:Fr) (g:Gh) (e:Env) (s:St),uX ((iF P y).setIfInBounds i true)<=f->(∀p,p∈P->y.getD p.1 true=false)->(∀p,p∈P->p.1≠i)->(P.map (·.1)).Nodup ->
     Pend C n ops F P U a.tmps->g0.le g->R C.toCtx U g s w->EnvOk g n (e.rem (jT ops P)) a.tmps->EnvOk g n e0 a.tmps->(∀d,(jT ops P).elem (some d)=true->d ∉ o.looksAt ops) ->
     kY C (ops.toList.map (·.dst)) o (cY n o.dst (iB C n ops K Kp W (f+P.length) (y.setIfInBounds i true)) e) Kp e s ->
     wpOp C.P ops (Post C F g0 n D Q) i (wpAny C.P .any ops (Post C F g0 n D Q) f ((iF P y).setIfInBounds i true)) a w:=by
    intro P y U g e s b5 O S Z hP hg hR H b4 bh hs;rw[aGO P y S]at b5⊢;have bz:∀p,p∈P->(y.setIfInBounds i true).getD p.1 true=false:=λp B=>by rw[getD_set_ne true (λe=>S p B e.symm)];exact O p B
    have ck:=aC4 (ops:=ops) (e':=e.rem (jT ops P)) (λt ht=>by
     rw[qG,aB];intro hh;exact bh t hh ht) hs
    have next:∀g' v w' e1 s',g.le g'->R C.toCtx U g' s' w'->EnvOk g' n e1 (a.put o.dst v).tmps->EnvOk g' n e0 (a.put o.dst v).tmps->(a.put o.dst v).defers=D ->
      (∃e2,iB C n ops K Kp W (f+P.length) (y.setIfInBounds i true) e2 s'/\∀t x,(e2.rem (jT ops P)).get t=some x->e1.get t=some x) ->
      wpAny C.P .any ops (Post C F g0 n D Q) f (iF P (y.setIfInBounds i true)) (a.put o.dst v) w':=by
     rintro g' v w' e1 s' h1 h2 h3 h4 h5 ⟨e2,h6,h7⟩;exact ih P (y.setIfInBounds i true) U g' e2 s' _ w' b5 bz Z (hP.put ho S) (hg.trans h1) h2 (h3.sub h7) h4 h5 h6
    have conv:∀s' v,cY n o.dst (iB C n ops K Kp W (f+P.length) (y.setIfInBounds i true)) e s' v ->
      cY n o.dst (λe1 s'=>∃e2,iB C n ops K Kp W (f+P.length) (y.setIfInBounds i true) e2 s'/\∀t x,(e2.rem (jT ops P)).get t=some x->e1.get t=some x) (e.rem (jT ops P)) s' v:=by
     intro s' v hv;unfold cY at hv⊢;cases hd:o.dst with
     | none=>rw[hd]at hv;exact⟨e,hv,λt x hx=>hx⟩
     | some d =>
      rw[hd]at hv;refine⟨hv.1,_,hv.2,λt x hx=>?_⟩;rw[qG]at hx;split at hx
      .cases hx
      .rename_i ht;rw[nQ]at hx⊢;by_cases br:d=t
       .simpa only[br,↓reduceIte]using hx
       .simp only[br,↓reduceIte]at hx⊢;rw[qG,aB ht];exact hx
    have M:=aAH ck conv;have hF:=λk o=>hP.sub k o
    unfold wpOp;rw[ho];simp only;obtain⟨dst,op,ty,pos,after,gd⟩:=o
    have bp:bM C op (fC C (e.rem (jT ops P))) (cY n dst (λe1 s'=>∃e2,iB C n ops K Kp W (f+P.length) (y.setIfInBounds i true) e2 s'/\∀t x,(e2.rem (jT ops P)).get t=some x->e1.get t=some x) (e.rem (jT ops P))) Kp s ->
      (⟨dst,op,ty,pos,after,gd⟩:Oper).wp C.P a w (wpAny C.P .any ops (Post C F g0 n D Q) f (iF P (y.setIfInBounds i true))) (Post C F g0 n D Q):=by
     intro cl;have:=aMI (ev:=a.eval) (ty:=ty) (dst:=dst) (pos:=pos) (after:=after) (gd:=gd) hR (H.oper hR) cl;exact aIx hF (λk o p=>hP.subP k o p) (o:=⟨dst,op,ty,pos,after,gd⟩) hg H b4 bl hD next c6 this
    have skip:cY n dst (λe1 s'=>∃e2,iB C n ops K Kp W (f+P.length) (y.setIfInBounds i true) e2 s'/\∀t x,(e2.rem (jT ops P)).get t=some x->e1.get t=some x) (e.rem (jT ops P)) s (.tuple []) ->
      wpAny C.P .any ops (Post C F g0 n D Q) f (iF P (y.setIfInBounds i true)) (a.put dst undef) w:=by
     intro hs;unfold cY at hs;cases bf:dst with
     | none=>subst bf;exact next g undef w _ s (iE g) hR H b4 hD hs
     | some d=>subst bf;exact next g undef w _ s (iE g) hR (H.put hs.1 (.tuple [] [] rfl bJ)) (b4.other λd' cd=>by cases cd;exact bl d rfl) (by rw[aDb];exact hD) hs.2
    unfold kY at M;cases gd with
    | none =>
     rw[aF (by simp[Region.wanted])];exact .inl (bp M)
    | some jw =>
     obtain⟨j,want⟩:=jw;obtain⟨t,ht,M⟩:=M;rcases M with⟨b,hb,M⟩|⟨ls,hl,M⟩
     .have hy:=aJw (b:=b) ht H hb
      have hw:Region.wanted (⟨dst,op,ty,pos,after,some (j,want)⟩:Oper) (yielded ops a.tmps)=(b == want):=by
       simp only[Region.wanted,hy];cases b<;>cases want<;>rfl
      rcases M with⟨bk,M⟩|⟨bk,M⟩
      .rw[aF (by rw[hw];simpa using bk)];exact .inl (bp M)
      .rw[aB (by rw[hw];simpa using bk)];exact skip M
     .have hy:=aIA ht H hl;rw[aB (by simp[Region.wanted,hy])];exact skip M
   by_cases bb:∃p,p∈P/\sS o p.1=true
   ·
    obtain⟨p,B,bq⟩:=bb;obtain⟨dp,tp,cn,cm,c3,p1,p2,p3⟩:=yX (hP.late p B);have c2:=(p3 i o ho (λe=>S p B e.symm)).2.2 bq
    obtain⟨g',e',s',r1,r2,r3,r4⟩:=aHK (f+1) H.size P y U g e s O Z (λm hm=>by
     by_cases b9:∃p,p∈P/\p.1=m
     .obtain⟨p,B,rfl⟩:=b9;exact hP.late p B
     .exfalso;obtain⟨m0,om,b8,cj⟩:=mem_ready.1 hm;by_cases bw:m=i
      .subst bw;rw[ho]at b8;cases b8;obtain⟨e,H,hb,bj⟩:=aAG.1 bq;have:=cj e H hb;rw[bj,(xH (O p B)).2]at this;cases this
      .obtain⟨e,H,hb,bj⟩:=aAG.1 (c2 m (jU.1 b8).1 bw);have:=b0 e H hb;rw[bj,aB8 false P y (λp B e=>b9 ⟨p,B,e⟩),(xH m0).2]at this;cases this) hP hR H h
    refine step [] (iF P y) F g' e' s' b5 (λp B=>by cases B) (λp B=>by cases B) bJ rfl (hg.trans r1) r2 (r3.sub λt x hx=>?_) (b4.mono r1) (λd hd=>by simp[jT]at hd) ?_
    .rw[qG]at hx;simpa [jT]using hx
    .exact r4.2.2 i (aDq hi b6) o ho
   .have c9:i∈Region.ready .any ops y:=mem_ready.2 ⟨bg,o,ho,λe H hb=>by
     have:=b0 e H hb;rw[aB8 false P y (λp B e'=>bb ⟨p,B,aAG.2 ⟨e,H,hb,e'.symm⟩⟩)]at this;exact this⟩
    refine step P y U g e s b5 O S Z hP hg hR H b4 (λd hd hl=>?_) ?_
    .obtain⟨p,B,t,ty,pos,after,h1⟩:=aQ9 hP hd;obtain⟨d',t',bm,b7,b2,p1,p2,p3⟩:=yX (hP.late p B);rw[h1]at p1;cases p1;exact bb ⟨p,B,(p3 i o ho (λe=>S p B e.symm)).2.1 hl⟩
    .have e1:f+1+P.length=f+P.length+1:=by omega
     rw[e1]at h;exact h.2.2 i (aDq c9 b6) o ho
theorem aUX{m:Env}(u:∀o,o∈ops.toList->∀d,o.dst=some d->m.get d=none){D:List Deferred}{Q:XK->Env->St->Prop}(hK:∀e s,K e s->∃e' s',e.ge e'/\Rle C s s'/\Q .normal e' s')
  (y:∀s v,Kp s v->Q (.panic v) m s)(htt:∀i t o,ops[i]?=some o->late ops i=true->o.op=.alloc t->(C.tt t).isSome=true)
  (f:Nat)(l:Array Bool)(g:Gh)(e:Env)(s:St)(a:Act)(w:World)(M:uX l<=f)(Z:g0.le g)(S:R C.toCtx F g s w)(H:EnvOk g n e a.tmps)(z:EnvOk g n m a.tmps)(U:a.defers=D)
  (h:iB C n ops K Kp W f l e s):wpAny C.P .any ops (Post C F g0 n D Q) f l a w :=
 aT2 u hK y htt f [] l F g e s a w M (λp O=>by cases O) bJ rfl Z S (H.sub λt x B=>by rw[qG]at B;simpa [jT]using B) z U h
inductive OT where
 | nil
 | node (i:Nat) (r:OT)
 | alt (a b:OT)
 | pair (i j:Nat)
def OT.l:List Nat->OT->OT
 | [],t=>t
 | i::r,t=>.node i (OT.l r t)
def nH:List Oper->Nat->Option Oper
 | [],_=>none
 | o::_,0=>some o
 | _::r,i+1=>nH r i
def wE(C:Cx)(t:TypeId)(b o:Nat)(s:St):Option A:=match s.getO b with
 | some (.cells _ cs)=>uJ C t cs o
 | _=>none
def aHq(C:Cx)(t:TypeId)(b o:Nat)(v:A)(s:St):Prop:=wE C t b o s=some v
def tkL(C:Cx)(t:TypeId)(b o:Nat)(h:A->Option (St->Prop)->Prop):Option A->Prop
 | some v=>h v (some (aHq C t b o v))
 | none=>False
def wS(h:A->Option (St->Prop)->Prop)(v:A):Prop:=h v none
def tkX(C:Cx)(t:TypeId)(op:Op)(ρ:Operand->Option A)(s:St)(h:A->Option (St->Prop)->Prop):Option A->Prop
 | some (.ptr b o)=>tkL C t b o h (wE C t b o s)
 | _=>cS C op ρ (wS h)
def wO(C:Cx)(op:Op)(ρ:Operand->Option A)(s:St)(h:A->Option (St->Prop)->Prop):Prop :=
 match op with
 | .load t x=>tkX C t (.load t x) ρ s h (ρ x)
 | op=>cS C op ρ (wS h)
def aAf:List (Nat × List Nat)->Nat->List Nat
 | [],_=>[]
 | (j,l)::r,i=>if j=i then l else aAf r i
def yC(h:List Nat)(s:St):List (Nat × (St->Prop))->Prop
 | []=>True
 | (m,p)::W=>(if h.elem m=true then p s else True)/\yC h s W
def aHP(n:Nat)(dst:Option Tmp)(h:List Nat)(next:List (Nat × (St->Prop))->Env->St->Prop)(W:List (Nat × (St->Prop)))(e:Env)(s:St)(v:A):Prop :=
 yC h s W/\cY n dst (next W) e s v
def tkK(n:Nat)(dst:Option Tmp)(i:Nat)(next:List (Nat × (St->Prop))->Env->St->Prop)(W:List (Nat × (St->Prop)))(e:Env)(s:St)(v:A):Option (St->Prop)->Prop
 | none=>cY n dst (next W) e s v
 | some p=>cY n dst (next ((i,p)::W)) e s v
def oI(C:Cx)(n:Nat)(E:List (Nat × List Nat))(i:Nat)(dst:Option Tmp)(op:Op)(next:List (Nat × (St->Prop))->Env->St->Prop)(W:List (Nat × (St->Prop)))
  (Kp:St->A->Prop)(e:Env)(s:St):Bool->Prop
 | true=>bM C op (fC C e) (aHP n dst (aAf E i) next W e) Kp s
 | false=>wO C op (fC C e) s (tkK n dst i next W e s)
def rJ(C:Cx)(n:Nat)(E:List (Nat × List Nat))(i:Nat)(dst:Option Tmp)(op:Op)(next:List (Nat × (St->Prop))->Env->St->Prop)(W:List (Nat × (St->Prop)))
  (Kp:St->A->Prop)(e:Env)(s:St)(t:Nat)(want:Bool):Option A->Prop
 | some (.bool true)=>match want with
  | true=>oI C n E i dst op next W Kp (e.put t (.bool true)) s (kZ op)
  | false=>cY n dst (next W) (e.put t (.bool true)) s (.tuple [])
 | some (.bool false)=>match want with
  | false=>oI C n E i dst op next W Kp (e.put t (.bool false)) s (kZ op)
  | true=>cY n dst (next W) (e.put t (.bool false)) s (.tuple [])
 | some (.tuple _)=>cY n dst (next W) e s (.tuple [])
 | _=>False
def gdY(C:Cx)(n:Nat)(E:List (Nat × List Nat))(i:Nat)(dst:Option Tmp)(op:Op)(next:List (Nat × (St->Prop))->Env->St->Prop)(W:List (Nat × (St->Prop)))
  (Kp:St->A->Prop)(e:Env)(s:St)(want:Bool):Option Tmp->Prop
 | none=>False
 | some t=>rJ C n E i dst op next W Kp e s t want (e.get t)
def mN(C:Cx)(n:Nat)(ds:List (Option Tmp))(E:List (Nat × List Nat))(i:Nat)(next:List (Nat × (St->Prop))->Env->St->Prop)(W:List (Nat × (St->Prop)))
  (Kp:St->A->Prop)(e:Env)(s:St):Option Oper->Prop
 | none=>False
 | some ⟨dst,op,_,_,_,none⟩=>oI C n E i dst op next W Kp e s (kZ op)
 | some ⟨dst,op,_,_,_,some (j,want)⟩=>gdY C n E i dst op next W Kp e s want (mW ds j)
def aHJ:Option A->Option A->Option A->Prop
 | some a,some b,some c=>match a with
  | .rm k m z=>match b with
   | .ptr _ _=>match c with
    | .pen h es u=>k=h/\m=es.length/\z=u
    | _=>False
   | _=>False
  | _=>False
 | _,_,_=>False
def aCs(C:Cx)(e:Env):Option Oper->Option Oper->Prop
 | some ⟨none,.store _ x _,_,_,_,none⟩,some ⟨none,.store _ h m,_,_,_,none⟩=>aHJ (fC C e x) (fC C e h) (fC C e m)
 | _,_=>False
def jG(C:Cx)(n:Nat)(ds:List (Option Tmp))(ops:List Oper)(E:List (Nat × List Nat))(K:Env->St->Prop)(Kp:St->A->Prop):OT->List (Nat × (St->Prop))->Env->St->Prop
 | .nil,W,e,s=>K e s
 | .node i r,W,e,s=>mN C n ds E i (jG C n ds ops E K Kp r) W Kp e s (nH ops i)
 | .alt a b,W,e,s=>jG C n ds ops E K Kp a W e s/\jG C n ds ops E K Kp b W e s
 | .pair i j,W,e,s=>aCs C e (nH ops i) (nH ops j)/\mN C n ds E i (λW e s=>mN C n ds E j (λ_=>K) W Kp e s (nH ops j)) W Kp e s (nH ops i)
theorem aHa:∀(l:List Oper) (i:Nat),nH l i=l[i]?
 | [],i=>by simp[nH]
 | o::r,0=>rfl
 | o::r,i+1=>by simp[nH,aHa r i]
def uE:Op->Bool
 | .load ..=>true
 | _=>false
def msk(h:List Nat):List Edge->Nat->Nat
 | [],m=>m
 | e::r,m=>msk h r (if Region.binds .any e then m ||| (1 <<< e.on) ||| (h[e.on]?.getD 0) else m)
def prs:List Oper->List Nat->List Nat
 | [],h=>h
 | o::r,h=>prs r (h++[msk h o.after.toList 0])
def okE(ops:Array Oper)(E:List (Nat × List Nat)):Bool :=
 let T:=prs ops.toList []
 (List.range ops.size).all fun i => match ops[i]? with
  | some o=>!kZ o.op||(List.range ops.size).all λm=>match ops[m]? with
   | some h=>!uE h.op||(aAf E i).elem m||(T[i]?.getD 0).testBit m
   | none=>true
  | none=>true
def nE:OT->List (Nat × OT)
 | .nil=>[]
 | .node i r=>[(i,r)]
 | .alt a b=>nE a++nE b
 | .pair _ _=>[]
def xP(ops:Array Oper)(i:Nat):Bool:=match ops[i]? with
 | some o=>kZ o.op
 | none=>false
def aGY(ops:Array Oper)(l:Array Bool):Bool :=
 let T:=prs ops.toList []
 (List.range ops.size).all fun m => match ops[m]? with
  | some o=>!uE o.op||(List.range ops.size).any λj=>xP ops j&&l.getD j false&&(T[j]?.getD 0).testBit m
  | none=>true
def aEl(tt:TypeId->Option TI)(ops:Array Oper):Bool :=
 (List.range ops.size).all fun i => !late ops i || (match ops[i]? with
  | some o=>match o.op with
   | .alloc t=>(tt t).isSome
   | _=>true
  | none=>true)
def rI(ops:Array Oper):Nat->Array Bool->OT->Bool
 | _,l,.nil=>(Region.ready .any ops l).isEmpty
 | 0,l,_=>false
 | f+1,l,.node i r=>if xP ops i then(Region.ready .any ops l).contains i&&(pL ops l).all (· == i)&&rI ops f (l.setIfInBounds i true) r
   else(Region.ready .any ops l).contains i&&Region.free .any ops l i&&rI ops f (l.setIfInBounds i true) r
 | f+1,l,.alt a b=>!(Region.ready .any ops l).isEmpty&&(pL ops l).all (λj=>(nE (.alt a b)).any λx=>x.1 == j) &&
   (nE (.alt a b)).all λx=>xP ops x.1&&rI ops f (l.setIfInBounds x.1 true) x.2
 | f+1,l,.pair i j=>(Region.ready .any ops l).contains i&&(Region.ready .any ops l).contains j&&(pL ops l).all (λm=>m == i||m == j)&&!(i == j) &&
   (pL ops (l.setIfInBounds i true)).all (· == j)&&(pL ops (l.setIfInBounds j true)).all (· == i)&&(Region.ready .any ops ((l.setIfInBounds i true).setIfInBounds j true)).isEmpty&&aGY ops l&&Nat.ble 1 f
theorem aMz{T:List Nat}{j:Nat}{o:Oper}(ho:ops[j]?=some o)(B:∀k m,(T[k]?.getD 0).testBit m=true->Bef ops m k) :
  ∀(es:List Edge) (m:Nat),(∀e,e∈es->e∈o.after)->(∀k,m.testBit k=true->Bef ops k j)->∀k,(msk T es m).testBit k=true->Bef ops k j
 | [],m,_,y,k,u=>y k u
 | e::r,m,z,y,k,u=>by
  refine aMz ho B r _ (λe' h=>z e' (cP _ h)) (λk u=>?_) k u;split at u
  .rename_i H;simp only[Nat.testBit_or,oK]at u;rcases u with(u|u)|u
   .exact y k u
   .rw[Nat.testBit_shiftLeft]at u;simp only[cT,dE]at u;obtain⟨O,h2⟩:=u
    have:k-e.on=0:=by
     rcases Nat.eq_zero_or_pos (k-e.on)with h|h
     .exact h
     .have M:k-e.on≠0:=by omega
      rw[Nat.testBit_one_eq_true_iff_self_eq_zero]at h2;exact h2
    have u:k=e.on:=by omega
    subst u;exact .edge ho (z e bJ) H
   .exact .step ho (z e bJ) H (B _ _ u)
  .exact y k u
theorem aHk:∀(l:List Oper) (u:List Nat),(∀k,l[k]?=ops[u.length+k]?)->(∀k m,(u[k]?.getD 0).testBit m=true->Bef ops m k) ->
  ∀k m,((prs l u)[k]?.getD 0).testBit m=true->Bef ops m k
 | [],u,_,h=>h
 | o::r,u,hl,h=>by
  have ho:ops[u.length]?=some o:=by have:=hl 0;simpa using this.symm
  refine aHk r _ (λk=>?_) (λk m y=>?_)
  .have:=hl (k+1);simp only[List.getElem?_cons_succ]at this;rw[this,aI,List.length_singleton];congr 1;omega
  .by_cases B:k<u.length
   .rw[lC B]at y;exact h k m y
   .by_cases z:k=u.length
    .subst z;simp only[pY (aV _),Nat.sub_self,lM,Option.getD_some]at y;exact aMz ho h o.after.toList 0 (λe z=>gQ z) (λk y=>by simp at y) m y
    .rw[sG (by simp;omega)]at y;simp at y
theorem aUE{E:List (Nat × List Nat)}(h:okE ops E=true){i m:Nat}{o u:Oper}(y:ops[i]?=some o)(B:ops[m]?=some u)(H:kZ o.op=true)(hl:uE u.op=true) :
  (aAf E i).elem m=true\/Bef ops m i:=by
 simp only[okE,jF,wW]at h;have z:=h i (jU.1 y).1;simp only[y,H,fF,jH,jF,wW]at z;have h2:=z m (jU.1 B).1;simp only[B,hl,fF,jH,oK]at h2;rcases h2 with h2|h2
 .exact .inl h2
 .exact .inr (aHk ops.toList [] (λk=>by simp) (λk m M=>by simp at M) i m h2)
theorem aLW{e e':Env}(h:∀t,e.get t=e'.get t):fC C e=fC C e':=by
 funext x;cases x<;>first|(simp only[fC,h])|rfl
variable {E:List (Nat × List Nat)} {i:Nat} {next:List (Nat × (St->Prop))->Env->St->Prop}
theorem aIC{e:Env}{t:Nat}{a:A}(h:e.get t=some a):∀u,e.get u=(e.put t a).get u:=λu=>by
 rw[nQ];by_cases m:t=u
 .subst m;simp[h]
 .simp[m]
theorem aS9{o:Oper}{KV:St->A->Prop}{e:Env}(M:kZ o.op=true)(h:mN C n (ops.toList.map (·.dst)) E i next W Kp e s (some o))
  (S:∀e' s' v,(∀t,e.get t=e'.get t)->yC (aAf E i) s' W->cY n o.dst (next W) e' s' v->KV s' v)
  (h2:∀e',(∀t,e.get t=e'.get t)->cY n o.dst (next W) e' s (.tuple [])->KV s (.tuple [])):kY C (ops.toList.map (·.dst)) o KV Kp e s:=by
 obtain⟨dst,op,ty,pos,after,gd⟩:=o
 have m:∀e',(∀t,e.get t=e'.get t)->oI C n E i dst op next W Kp e' s (kZ op)->bM C op (fC C e) KV Kp s:=by
  intro e' u z;simp only at M;rw[M]at z;simp only[oI]at z;rw[aLW u];exact aDw z (λs' v O=>S e' s' v u O.1 O.2) λ_ _ h=>h
 unfold kY;cases gd with
 | none=>exact m e (λ_=>rfl) h
 | some U =>
  obtain⟨j,want⟩:=U;simp only[mN]at h;cases H:mW (ops.toList.map (·.dst)) j with
  | none=>rw[H]at h;exact h.elim
  | some t =>
   rw[H]at h;simp only[gdY]at h;refine⟨t,H,?_⟩;cases B:e.get t with
   | none=>rw[B]at h;exact h.elim
   | some a =>
    rw[B]at h;have y:=aIC B;cases a<;>simp only[rJ]at h
    case bool b =>
     cases b<;>cases want<;>simp only at h
     .exact .inl ⟨false,rfl,.inl ⟨rfl,m _ y h⟩⟩
     .exact .inl ⟨false,rfl,.inr ⟨by simp,h2 _ y h⟩⟩
     .exact .inl ⟨true,rfl,.inr ⟨by simp,h2 _ y h⟩⟩
     .exact .inl ⟨true,rfl,.inl ⟨rfl,m _ y h⟩⟩
    case tuple l=>exact .inr ⟨l,rfl,h2 _ (λ_=>rfl) h⟩
theorem aMp{op:Op}{ρ:Operand->Option A}{B:A->Option (St->Prop)->Prop}(h:wO C op ρ s B) :
  ∃v y,B v y/\(∀p,y=some p->uE op=true/\p s)/\∀s' (KV:St->A->Prop),(∀p,y=some p->p s')->KV s' v->bM C op ρ KV Kp s':=by
 have m:cS C op ρ (wS B)->∃v y,B v y/\(∀p,y=some p->uE op=true/\p s)/\∀s' (KV:St->A->Prop),(∀p,y=some p->p s')->KV s' v->bM C op ρ KV Kp s':=by
  intro h;obtain⟨v,O,h2⟩:=aLP h;exact⟨v,none,O,(λp z=>by cases z),λs' KV _ M=>aCh (h2 (KV s') M)⟩
 cases op
 case load t x =>
  simp only[wO]at h;cases H:ρ x with
  | none=>rw[H]at h;exact m h
  | some a =>
   rw[H]at h;cases a
   case ptr b o =>
    simp only[tkX]at h;cases hl:wE C t b o s with
    | none=>rw[hl]at h;exact h.elim
    | some v =>
     rw[hl]at h;refine⟨v,_,h,λp z=>by cases z;exact⟨rfl,hl⟩,λs' KV z M=>?_⟩;have u:wE C t b o s'=some v:=z _ rfl;unfold wE at u;simp only[bM,H];split at u
     .rename_i cs hcs;simp only[hcs,u];exact M
     .cases u
   all_goals exact m h
 all_goals exact m h
theorem aSS{o:Oper}{e:Env}(S:kZ o.op=false)(h:mN C n (ops.toList.map (·.dst)) E i next W Kp e s (some o)) :
  ∃v m e',(∀t,e.get t=e'.get t)/\(∀p,m=some p->uE o.op=true/\p s) /\
   (∀s' (KV:St->A->Prop),(∀p,m=some p->p s')->KV s' v->kY C (ops.toList.map (·.dst)) o KV Kp e s')/\tkK n o.dst i next W e' s v m:=by
 obtain⟨dst,op,ty,pos,after,gd⟩:=o;simp only at S;unfold kY;cases gd with
 | none =>
  simp only[mN,S,oI]at h;obtain⟨v,m,h1,h2,U⟩:=aMp (Kp:=Kp) h;exact⟨v,m,e,λ_=>rfl,h2,U,h1⟩
 | some jw =>
  obtain⟨j,want⟩:=jw;simp only[mN]at h;cases B:mW (ops.toList.map (·.dst)) j with
  | none=>rw[B]at h;exact h.elim
  | some t =>
   rw[B]at h;simp only[gdY]at h;cases z:e.get t with
   | none=>rw[z]at h;exact h.elim
   | some a =>
    rw[z]at h;have O:=aIC z
    have H:∀b,a=.bool b->b=want->oI C n E i dst op next W Kp (e.put t a) s (kZ op)->∃v m e',(∀t,e.get t=e'.get t)/\(∀p,m=some p->uE op=true/\p s) /\
      (∀ s' (KV : St → A → Prop),(∀ p,m = some p → p s') → KV s' v → ∃ t',mW (ops.toList.map (·.dst)) j = some t' ∧
       ((∃b,e.get t'=some (.bool b)/\((b=want/\bM C op (fC C e) KV Kp s')\/(b≠want/\KV s' (.tuple []))))\/(∃l,e.get t'=some (.tuple l)/\KV s' (.tuple [])))) /\
      tkK n dst i next W e' s v m:=by
     intro b Z b0 M;rw[S]at M;simp only[oI]at M;rw[<-aLW O]at M;obtain⟨v,m,h1,h2,U⟩:=aMp (Kp:=Kp) M;exact⟨v,m,e.put t a,O,h2,λs' KV u y=>⟨t,B,.inl ⟨b,by rw[z,Z],.inl ⟨b0,U s' KV u y⟩⟩⟩,h1⟩
    cases a<;>simp only[rJ]at h
    case bool b =>
     cases b<;>cases want<;>simp only at h
     .exact H false rfl rfl h
     .exact⟨.tuple [],none,_,O,(λp u=>by cases u),λs' KV _ y=>⟨t,B,.inl ⟨false,z,.inr ⟨by simp,y⟩⟩⟩,h⟩
     .exact⟨.tuple [],none,_,O,(λp u=>by cases u),λs' KV _ y=>⟨t,B,.inl ⟨true,z,.inr ⟨by simp,y⟩⟩⟩,h⟩
     .exact H true rfl rfl h
    case tuple l=>exact⟨.tuple [],none,e,λ_=>rfl,(λp u=>by cases u),λs' KV _ y=>⟨t,B,.inr ⟨l,z,y⟩⟩,h⟩
end
end
section
section
variable {C:Cx} {n:Nat} {ops:Array Oper} {K:Env->St->Prop} {Kp:St->A->Prop} {W:List (Nat × (St->Prop))} {s:St} {E:List (Nat × List Nat)}
theorem aMg{y:List Nat}{w:Nat × (St->Prop)}:∀{W:List (Nat × (St->Prop))},yC y s W->w∈W->y.elem w.1=true->w.2 s
 | [],_,h,_=>by cases h
 | (m,p)::W,z,h,u=>by
  cases h with
  | head=>have:=z.1;rwa[aF u]at this
  | tail _ h=>exact aMg z.2 h u
theorem Dead.set{l:Array Bool}{m i:Nat}(h:Dead ops m l):Dead ops m (l.setIfInBounds i true):=by
 obtain⟨j,o,u,h2,z,y⟩:=h;exact⟨j,o,u,h2,getD_set_true z,y⟩
theorem aSU{i:Nat}:∀(f:Nat) (l:Array Bool) (e:Env) (s:St),iB C n ops K Kp W f l e s->iB C n ops K Kp ((i,λ_=>True)::W) f l e s:=by
 have y:∀(l:Array Bool) (s:St),rH ops W l s->rH ops ((i,λ_=>True)::W) l s:=by
  intro l s h w u hd;cases u with
  | head=>trivial
  | tail _ u=>exact h w u hd
 intro f
 induction f with
 | zero=>intro l e s h;exact⟨y _ _ h.1,h.2⟩
 | succ f z =>
  intro l e s h;refine⟨y _ _ h.1,h.2.1,λj B o ho=>aAH (h.2.2 j B o ho) λs' v m=>?_⟩;unfold cY at *;cases hd:o.dst with
  | none=>rw[hd]at m;exact z _ _ _ m
  | some d=>rw[hd]at m;exact⟨m.1,z _ _ _ m.2⟩
theorem aQ7{l:Array Bool}{i:Nat}(h:i∈Region.ready .any ops l):∃o,ops[i]?=some o:=by
 obtain⟨_,o,ho,_⟩:=mem_ready.1 h;exact⟨o,ho⟩
theorem aSs{g:Gh}{k:Nat}{es:List A}{x v:A}{z:Nat}{vo:Value}(h:Rz g (.list (some k) (es++[x])) vo)(hx:x.cells.length=z)(he:g.ends k es.length v):Rz g (.pen k es z) vo:=by
 obtain⟨a,cap,rfl,hm,M,U,hr⟩:=h.list_inv;rcases hr with h0|⟨b,off,sz,pre,rfl,hp,hl,S,h1,hh⟩
 .simp at h0
 obtain⟨b',m,b0,k1,k2,k3,k4,k5,k6,k7,k8⟩:=he;have O:=U k rfl;have H:(es++[x]).length=es.length+1:=by simp
 rw[H]at O M hl⊢;rw[k1]at O;simp only[bQ,sI,vJ,sQ,kS]at O;obtain⟨⟨rfl,rfl⟩,rfl⟩:=O;have Z:sz=z:=by rw[<-S x bJ,hx]
 subst Z
 refine .pen k es sz b' m (.list (some k) es b' 0 sz m pre hp ?_ aC hm (λy B=>S y (by simp[B])) (λy B=>h1 y (by simp[B])) (λi y j c u B M hu=>?_) (λt U=>by cases U;exact k2)) M
  (λy B=>S y (by simp[B]))
 .rw[iL]at hl;omega
 .have hi:i<es.length:=(eF.1 B).1;exact hh i y j c u (by rw[lC hi];exact B) M hu
theorem aDz(s:St)(k:Nat)(es:List A)(z:Nat):(kB s (.pen k es z)).cells=[kB s (.pen k es z)]/\(kB s (.pen k es z)).one=true:=by
 simp only[kB];cases s.ls with
 | none=>exact⟨rfl,rfl⟩
 | some q=>simp only[aCA];split<;>exact⟨rfl,rfl⟩
theorem aSK{k:Nat}{e:TypeId}{v:A}{b o z:Nat}{E:TypeId}{cs es:List A}(hv:v.cells.length=z) :
  Rle C (((s.setO b (.cells E (lP cs o (kB s (.pen k es z)).cells))).setT k (es.length+1,e)).setL (some (k,es.length,v)))
   (((s.setT k (es.length+1,e)).setL (some (k,es.length,v))).setO b (.cells E (lP cs o (kB ((s.setT k (es.length+1,e)).setL (some (k,es.length,v))) (.pen k es z)).cells))):=by
 intro F g w h;refine⟨λq x M=>?_,h.tok,h.sep,h.pis,h.frm,h.glb,h.fsh,h.bet,h.inj,h.dtm,h.lst,h.bfr,h.env⟩;rw[aL]at M;by_cases hq:b=q
 .subst hq;simp only[↓reduceIte,bQ]at M;subst M
  have h2:(((s.setO b (.cells E (lP cs o (kB s (.pen k es z)).cells))).setT k (es.length+1,e)).setL (some (k,es.length,v))).getO b=some (.cells E (lP cs o (kB s (.pen k es z)).cells)):=by
   rw[fQ,pW,aL];simp
  obtain⟨j,h3,h4,h5⟩:=h.obj b _ h2;refine⟨j,h3,?_,h5⟩;obtain⟨vs,rest,h6,Z,h8⟩:=h4;have b3:lP cs o (kB s (.pen k es z)).cells=cs.set o (kB s (.pen k es z)):=by rw[(aDz s k es z).1];rfl
  have O:lP cs o (kB ((s.setT k (es.length+1,e)).setL (some (k,es.length,v))) (.pen k es z)).cells=cs.set o (kB ((s.setT k (es.length+1,e)).setL (some (k,es.length,v))) (.pen k es z)):=by
   rw[(aDz _ k es z).1];rfl
  rw[b3]at Z h8;refine⟨vs,rest,h6,?_,?_⟩
  ·rw [O];refine ⟨gQ Z.1,fun i c u m hu => ?_⟩;by_cases U : o = i
   .subst U;by_cases S:o<cs.length
    .rw[vG,aF rfl,aF S]at m;cases m;have y:=Z.2 o _ u (by rw[vG,aF rfl,aF S]) hu;have B:g.ends k es.length v:=h.lst _ rfl
     have b0:Rz g (.pen k es z) u:=by
      simp only[kB]at y;cases hl:s.ls with
      | none=>rw[hl]at y;exact y
      | some q =>
       rw[hl]at y;simp only[aCA]at y;split at y
       .rename_i m;exact aSs y m.2.2 B
       .exact y
     exact aLT h b0
    .rw[sG (by simp;omega)]at m;cases m
   .rw[List.getElem?_set_ne U]at m;exact Z.2 i c u (by rw[List.getElem?_set_ne U];exact m) hu
  .intro c m;rw[O]at m;obtain⟨i,U,rfl⟩:=lN m;have b2:i<cs.length:=gQ U;by_cases H:o=i
   .subst H;rw[List.getElem_set_self];exact(aDz _ k es z).2
   .rw[List.getElem_set_ne H];exact h8 _ (bZ (i:=i) (by rw[List.getElem?_set_ne H,aX b2]))
 .simp only[hq,↓reduceIte]at M;refine h.obj q x ?_;rw[fQ,pW,aL,aB hq];rw[fQ,pW]at M;exact M
theorem aQg{e:Env}{a b:Option Oper}(h:aCs C e a b):∃t x y ty pos after O M H B u m k es z c o,
  a=some ⟨none,.store t x y,ty,pos,after,none⟩/\b=some ⟨none,.store O M H,B,u,m,none⟩ /\
  fC C e x=some (.rm k es.length z)/\fC C e M=some (.ptr c o)/\fC C e H=some (.pen k es z):=by
 unfold aCs at h;split at h;rotate_left
 .exact h.elim
 rename_i t x y ty pos after O M H B u m;unfold aHJ at h;split at h;rotate_left
 .exact h.elim
 rename_i a b c U Z S;split at h;rotate_left
 .exact h.elim
 split at h;rotate_left
 .exact h.elim
 split at h;rotate_left
 .exact h.elim
 obtain⟨rfl,rfl,rfl⟩:=h;exact⟨t,x,y,ty,pos,after,O,M,H,B,u,m,_,_,_,_,_,rfl,rfl,U,Z,S⟩
theorem aP9{l:Array Bool}(h:aGY ops l=true){m:Nat}{z:Oper}(y:ops[m]?=some z)(hl:uE z.op=true):Dead ops m l:=by
 simp only[aGY,jF,wW]at h;have u:=h m (jU.1 y).1;simp only[y,hl,fF,jH,List.any_eq_true,wW,cT]at u;obtain⟨j,O,⟨h2,M⟩,H⟩:=u;cases ho:ops[j]? with
 | none=>simp[xP,ho]at h2
 | some o =>
  simp only[xP,ho]at h2;exact⟨j,o,ho,h2,M,aHk ops.toList [] (λk=>by simp) (λk m B=>by simp at B) j m H⟩
theorem aTk(bq:∀e s s',Rle C s s'->K e s'->K e s){f:Nat}{l:Array Bool}{i j:Nat}{e:Env}(ht:rI ops (f+1) l (.pair i j)=true)(c2:DC ops l)(hc:rH ops W l s)
  (hW:∀w,w∈W->∃o,ops[w.1]?=some o/\uE o.op=true)
  (h:jG C n (ops.toList.map (·.dst)) ops.toList E K Kp (.pair i j) W e s):iB C n ops K Kp W (f+1) l e s:=by
 simp only[rI,cT,List.contains_iff_mem,jF,oK,beq_iff_eq,qD,aBN,dG,List.isEmpty_iff]at ht;obtain⟨⟨⟨⟨⟨⟨⟨⟨hi,hj⟩,hz⟩,b9⟩,bv⟩,bp⟩,b6⟩,bc⟩,hf⟩:=ht;obtain⟨f,rfl⟩:∃f',f=f'+1:=⟨f-1,by have:=mO hf;omega⟩
 have B:∀(l':Array Bool) (s':St),(∀m,Dead ops m l->Dead ops m l')->rH ops W l' s':=λl' s' hl w hw bt=>by
  obtain⟨om,h1,h2⟩:=hW w hw;exact cM (hl _ (aP9 bc h1 h2)) bt
 have b7:Region.ready .any ops ((l.setIfInBounds j true).setIfInBounds i true)=[]:=by rw[Array.setIfInBounds_comm _ _ (λe=>b9 e.symm)];exact b6
 have b5:∀(l':Array Bool) (e:Env) (s:St),Region.ready .any ops l'=[]->(∀m,Dead ops m l->Dead ops m l')->K e s->iB C n ops K Kp W f l' e s:=by
  intro l' e s h1 h2 h3;cases f with
  | zero=>exact⟨B _ _ h2,h1,h3⟩
  | succ f=>exact⟨B _ _ h2,λ_=>h3,λm U=>by have:=aAJ U;rw[h1]at this;cases this⟩
 simp only[jG,aHa,aCS]at h;obtain⟨hp,u⟩:=h;obtain⟨t,x,y,ty,pos,after,t',x',y',c1,bz,bm,k,es,z,c,o,ho,bd,hx,Z,b0⟩:=aQg hp;rw[ho,bd]at u;simp only[mN,kZ,oI,bM,hx,Z,b0]at u;cases hy:fC C e y with
 | none=>rw[hy]at u;exact u.elim
 | some v =>
 cases b4:C.tt t with
 | none=>rw[hy,b4]at u;exact u.elim
 | some ti =>
 rw[hy,b4]at u;simp only[uW]at u;cases S:s.getT k with
 | none=>rw[S]at u;exact u.elim
 | some me =>
 obtain⟨m,bh⟩:=me;rw[S]at u;simp only at u;cases b3:C.tt bh with
 | none=>rw[b3]at u;exact u.elim
 | some te =>
 rw[b3]at u;obtain⟨⟨rfl,bf,bl,b8,bg⟩,c0,u⟩:=u;simp only[cY,Z,b0]at u;cases O:C.tt t' with
 | none=>rw[O]at u;exact u.elim
 | some bw =>
 rw[O]at u;simp only[fQ,pW]at u;cases hb:s.getO c with
 | none=>rw[hb]at u;exact u.elim
 | some ob =>
 cases ob with
 | iter _ _=>rw[hb]at u;exact u.elim
 | cells E0 cs =>
 rw[hb]at u;obtain⟨bj,_,hK⟩:=u;simp only[cY]at hK;have M:=λs':St=>aDz s' k es z
 have bk:1=bw.sz/\o+1<=cs.length:=by
  obtain⟨q1,q2,_⟩:=bj;rw[(M _).1]at q1 q2;exact⟨q1,q2⟩
 have bn:=bq e _ _ (aSK (C:=C) (s:=s) (e:=bh) (b:=c) (o:=o) (E:=E0) (cs:=cs) b8) hK;refine⟨hc,λhr=>(by rw[hr]at hi;cases hi),λq hq oq b2=>?_⟩;rcases hz q hq with rfl|rfl
 .rw[ho]at b2;cases b2;simp only[kY,bM,hx,hy,b4,uW,S,b3,cY];refine⟨⟨trivial,bf,bl,b8,bg⟩,B _ _ (λm U=>U.set),λhr=>?_,λq2 bb br H=>?_⟩
  .have:=ready_mono hj (λe=>b9 e.symm);rw[hr]at this;cases this
  .have:=bv q2 bb;subst this;rw[bd]at H;cases H;simp only[kY,bM,Z,b0,O,fQ,pW,hb,cY];exact⟨bj,b5 _ _ _ b6 (λm U=>U.set.set) hK⟩
 .rw[bd]at b2;cases b2;simp only[kY,bM,Z,b0,O,hb,cY];refine⟨?_,B _ _ (λm U=>U.set),λhr=>?_,λq2 bb br H=>?_⟩
  .rw[(M s).1];refine⟨bk.1,bk.2,?_⟩;simp only[gD,List.all_cons,List.all_nil,(M s).2];rfl
  .have:=ready_mono hi b9;rw[hr]at this;cases this
  .have:=bp q2 bb;subst this;rw[ho]at H;cases H;simp only[kY,bM,hx,hy,b4,uW,St.getT_setO,S,b3,cY];exact⟨⟨trivial,bf,bl,b8,bg⟩,b5 _ _ _ b7 (λm U=>U.set.set) bn⟩
theorem aJ9{t:OT}{e:Env}:jG C n (ops.toList.map (·.dst)) ops.toList E K Kp t W e s->∀x,x∈nE t ->
  mN C n (ops.toList.map (·.dst)) E x.1 (jG C n (ops.toList.map (·.dst)) ops.toList E K Kp x.2) W Kp e s (ops[x.1]?):=by
 induction t with
 | nil=>intro _ x m;cases m
 | node i r _ =>
  intro h x m;simp only[nE,cC]at m;subst m;simp only[jG,aHa,aCS]at h;exact h
 | alt a b y u =>
  intro h x m;simp only[nE,cZ]at m;rcases m with m|m
  .exact y h.1 x m
  .exact u h.2 x m
 | pair i j=>intro _ x m;cases m
theorem aVw(hE:okE ops E=true)(hK:∀e e' s,(∀t,e.get t=e'.get t)->K e s->K e' s)(b7:∀e s s',Rle C s s'->K e s'->K e s) :
  ∀(f:Nat) (l:Array Bool) (t:OT) (W:List (Nat × (St->Prop))) (e:Env) (s:St),rI ops f l t=true->DC ops l->rH ops W l s ->
   (∀w,w∈W->∃o,ops[w.1]?=some o/\uE o.op=true) ->
   jG C n (ops.toList.map (·.dst)) ops.toList E K Kp t W e s->iB C n ops K Kp W f l e s:=by
 intro f
 induction f with
 | zero =>
  intro l t W e s m z U hW h;cases t<;>simp only[rI]at m<;>try cases m
  exact⟨U,gQ m,h⟩
 | succ f ih =>
  intro l t W e s m z U hW h
  have b6:∀i r,i∈Region.ready .any ops l->xP ops i=true->rI ops f (l.setIfInBounds i true) r=true ->
    mN C n (ops.toList.map (·.dst)) E i (jG C n (ops.toList.map (·.dst)) ops.toList E K Kp r) W Kp e s (ops[i]?) ->
    ∀o,ops[i]?=some o->kY C (ops.toList.map (·.dst)) o (cY n o.dst (iB C n ops K Kp W f (l.setIfInBounds i true)) e) Kp e s:=by
   intro i r hr he hk hs o ho;rw[ho]at hs;simp only[xP,ho]at he
   have b9:(l.setIfInBounds i true).getD i false=true:=by
    have:=(xH (mem_ready.1 hr).1).1;simp[this]
   have done:∀e' s' v,(∀t,e.get t=e'.get t)->rH ops W (l.setIfInBounds i true) s' ->
     cY n o.dst (jG C n (ops.toList.map (·.dst)) ops.toList E K Kp r W) e' s' v->cY n o.dst (iB C n ops K Kp W f (l.setIfInBounds i true)) e s' v:=by
    intro e' s' v y b5 u;unfold cY at *;cases hd:o.dst with
    | none=>rw[hd]at u;exact zV hK _ _ _ _ _ (λt=>(y t).symm) (ih _ r W e' s' hk (z.set hr) b5 hW u)
    | some d =>
     rw[hd]at u;refine⟨u.1,zV hK _ _ _ _ _ (λt=>?_) (ih _ r W _ s' hk (z.set hr) b5 hW u.2)⟩;rw[nQ,nQ];split<;>simp[y]
   refine aS9 he hs (λe' s' v y bb u=>done e' s' v y (λw B hl=>?_) u) (λe' y u=>done e' s _ y (λw B hl=>U w B λhd=>hl hd.set) u);obtain⟨om,h1,h2⟩:=hW w B;rcases aUE hE ho h1 he h2 with O|O
   .exact aMg bb B O
   .exact cM ⟨i,o,ho,he,b9,O⟩ hl
  cases t with
  | nil =>
   simp only[rI]at m;have b3:Region.ready .any ops l=[]:=gQ m;exact⟨U,λ_=>h,λi hi=>by have hi:=aAJ hi;rw[b3]at hi;cases hi⟩
  | node i r =>
   simp only[rI]at m;have hs:=aJ9 h (i,r) (by simp[nE]);simp only at hs;split at m
   .rename_i H;simp only[cT,List.contains_iff_mem,jF,beq_iff_eq]at m;refine⟨U,λhr=>(by rw[hr]at m;cases m.1.1),λj hj o ho=>?_⟩;have:=m.1.2 j hj;subst this;exact b6 _ r (aAJ hj) H m.2 hs o ho
   .rename_i H;simp only[cT,List.contains_iff_mem]at m;obtain⟨o,ho⟩:=aQ7 m.1.1;have M:kZ o.op=false:=by simpa [xP,ho]using H
    rw[ho]at hs;obtain⟨v,S,e',y,h1,h2,O⟩:=aSS M hs
    have next:cY n o.dst (iB C n ops K Kp ((i,λs=>∀p,S=some p->p s)::W) f (l.setIfInBounds i true)) e s v:=by
     have b4:rH ops W (l.setIfInBounds i true) s:=λw B hl=>U w B λhd=>hl hd.set
     have fin:∀Z s1,rH ops W (l.setIfInBounds i true) s1->(∀p,S=some p->p s1) ->
       (match S with|none=>jG C n (ops.toList.map (·.dst)) ops.toList E K Kp r W Z s1|some p=>jG C n (ops.toList.map (·.dst)) ops.toList E K Kp r ((i,p)::W) Z s1) ->
       iB C n ops K Kp ((i,λs=>∀p,S=some p->p s)::W) f (l.setIfInBounds i true) Z s1:=by
      intro Z s1 b2 u hx;cases b0:S with
      | none =>
       rw[b0]at hx;have:=aSU (i:=i) _ _ _ _ (ih _ r W Z s1 m.2 (z.set m.1.1) b2 hW hx);have Z:(λs:St=>∀p:St->Prop,(none:Option (St->Prop))=some p->p s)=λ_=>True:=by funext s;simp
       rw[Z];exact this
      | some p =>
       rw[b0]at hx;have Z:(λs:St=>∀q:St->Prop,some p=some q->q s)=p:=by funext s;simp
       rw[Z];refine ih _ r _ _ s1 m.2 (z.set m.1.1) ?_ ?_ hx
       .intro w B hl;cases B with
        | head=>exact u p b0
        | tail _ B=>exact b2 w B hl
       .intro w B;cases B with
        | head=>exact⟨o,ho,(h1 p b0).1⟩
        | tail _ B=>exact hW w B
     unfold tkK at O;unfold cY at *;cases hd:o.dst with
     | none =>
      rw[hd]at O;refine zV hK _ _ e' _ _ (λt=>(y t).symm) (fin e' s b4 (λp u=>(h1 p u).2) ?_);cases S<;>exact O
     | some d =>
      rw[hd]at O;have b8:d<n:=by cases S<;>exact O.1
      refine⟨b8,zV hK _ _ (e'.put d v) _ _ (λt=>?_) (fin _ s b4 (λp u=>(h1 p u).2) ?_)⟩
      .rw[nQ,nQ];split<;>simp[y]
      .cases S<;>exact O.2
    exact aSo ho M hK v (λs=>∀p,S=some p->p s) f l e s z (Region.free_spec ho m.1.2) m.1.1 (λs' KV u hk=>h2 s' KV u hk) (λp u=>(h1 p u).2) U next
  | alt a b =>
   simp only[rI,cT,jF,List.any_eq_true,beq_iff_eq,qD]at m;obtain⟨⟨h0,h1⟩,h2⟩:=m;refine⟨U,λhr=>(by rw[hr]at h0;cases h0),λj hj o ho=>?_⟩;obtain⟨x,hx,rfl⟩:=h1 j hj;exact b6 x.1 x.2 (aAJ hj) (h2 x hx).1 (h2 x hx).2 (aJ9 h x hx) o ho
  | pair i j=>exact aTk b7 m z U hW h
theorem aSY{op:Op}{ρ:Operand->Option A}{u m:A->Option (St->Prop)->Prop}(h:wO C op ρ s u)(y:∀v B,u v B->m v B):wO C op ρ s m:=by
 cases op
 case load t x =>
  simp only[wO]at h⊢;cases z:ρ x with
  | none=>rw[z]at h;exact pG (C:=C) (ρ:=ρ) (op:=.load t x) (K:=wS u) (K':=wS m) h λv=>y v none
  | some a =>
   rw[z]at h;cases a
   case ptr b o =>
    simp only[tkX]at h⊢;cases hl:wE C t b o s with
    | none=>rw[hl]at h;exact h.elim
    | some v=>rw[hl]at h;exact y _ _ h
   all_goals exact pG (C:=C) (ρ:=ρ) (op:=.load t x) (K:=wS u) (K':=wS m) h λv=>y v none
 all_goals (simp only[wO]at h⊢;exact pG h λv=>y v none)
theorem aGQ{next m:List (Nat × (St->Prop))->Env->St->Prop}{i:Nat}{e:Env}{ds:List (Option Tmp)}(O:∀W e s,next W e s->m W e s){z:Option Oper}
  (h:mN C n ds E i next W Kp e s z):mN C n ds E i m W Kp e s z:=by
 have put:∀{dst:Option Tmp} {W:List (Nat × (St->Prop))} {e:Env} {s:St} {v:A},cY n dst (next W) e s v->cY n dst (m W) e s v:=by
  intro dst W e s v h;unfold cY at *;cases dst with
  | none=>exact O _ _ _ h
  | some d=>exact⟨h.1,O _ _ _ h.2⟩
 cases z with
 | none=>exact h
 | some o =>
  obtain⟨dst,op,ty,pos,after,gd⟩:=o
  have y:∀e,oI C n E i dst op next W Kp e s (kZ op)->oI C n E i dst op m W Kp e s (kZ op):=by
   intro e h;cases B:kZ op with
   | true=>rw[B]at h;exact aDw h (λs' v u=>⟨u.1,put u.2⟩) λ_ _ h=>h
   | false =>
    rw[B]at h;refine aSY h λv S u=>?_
    cases S<;>exact put u
  cases gd with
  | none=>exact y e h
  | some U =>
   obtain⟨j,want⟩:=U;simp only[mN]at h⊢;cases M:mW ds j with
   | none=>rw[M]at h;exact h.elim
   | some t =>
    rw[M]at h;simp only[gdY]at h⊢;cases H:e.get t with
    | none=>rw[H]at h;exact h.elim
    | some a =>
     rw[H]at h;cases a<;>simp only[rJ]at h⊢
     case bool b =>
      cases b<;>cases want<;>simp only at h⊢
      .exact y _ h
      .exact put h
      .exact put h
      .exact y _ h
     case tuple l=>exact put h
theorem aDI{K':Env->St->Prop}{ds:List (Option Tmp)}{u:List Oper}(m:∀e s,K e s->K' e s):∀(t:OT) (W:List (Nat × (St->Prop))) (e:Env) (s:St),
  jG C n ds u E K Kp t W e s->jG C n ds u E K' Kp t W e s
 | .nil,W,e,s,h=>m e s h
 | .node i r,W,e,s,h=>by
  simp only[jG]at h⊢;exact aGQ (λW e s=>aDI m r W e s) h
 | .alt a b,W,e,s,h=>⟨aDI m a W e s h.1,aDI m b W e s h.2⟩
 | .pair i j,W,e,s,h=>⟨h.1,aGQ (λW e s h=>aGQ (λW e s h=>m e s h) h) h.2⟩
theorem aUj(n:Nat):uX (Array.replicate n false)<=n:=by simp[uX]
theorem aRc{tt:TypeId->Option TI}(h:aEl tt ops=true):∀i t o,ops[i]?=some o->late ops i=true->o.op=.alloc t->(tt t).isSome=true:=by
 intro i t o ho hl u;simp only[aEl,jF,wW]at h;have m:=h i (jU.1 ho).1;simp only[hl,ho,u,fF,jH]at m;exact m
theorem aTm{id:Nat}{V:List Nat}{u:XK->Env->St->Prop}{e:Env}(t:OT)(E:List (Nat × List Nat))
  (hm:C.P.follows .mixedOrders=true)
  (y:(okE ops E&&rI ops ops.size (Array.replicate ops.size false) t&&aEl C.tt ops)=true)
  (h:jG C n (ops.toList.map (·.dst)) ops.toList E (nI V u) (aAl u (ops.toList.map (·.dst)) e) t [] e s):aEt C n id ops (oD (nI V u) u) e s:=by
 simp only[cT]at y
 have B:∀(e e':Env) (s:St),(∀t,e.get t=e'.get t)->(∃m s2,e.ge m/\Rle C s s2/\nI V u m s2)->∃m s2,e'.ge m/\Rle C s s2/\nI V u m s2 :=
  λe e' s M ⟨m,s2,S,h2⟩=>⟨m,s2,λt a ha=>by rw[<-M t];exact S t a ha,h2⟩
 have H:∀(e:Env) (s s':St),Rle C s s'->(∃m s2,e.ge m/\Rle C s' s2/\nI V u m s2)->∃m s2,e.ge m/\Rle C s s2/\nI V u m s2 :=
  λe s s' hr ⟨m,s2,S,h2,h3⟩=>⟨m,s2,S,λF g w O=>h2 F g w (hr F g w O),h3⟩
 have mono:∀(t:OT) (W:List (Nat × (St->Prop))) (e':Env) (s:St),jG C n (ops.toList.map (·.dst)) ops.toList E (nI V u) (aAl u (ops.toList.map (·.dst)) e) t W e' s ->
   jG C n (ops.toList.map (·.dst)) ops.toList E (λe s=>∃m s2,e.ge m/\Rle C s s2/\nI V u m s2) (aAl u (ops.toList.map (·.dst)) e) t W e' s:=by
  exactλt W e s h=>aDI (λe s z=>⟨e,s,Env.ge.refl e,Rle.refl s,z⟩) t W e s h
 intro F g w a O M;refine wp_region_any hm ?_
 have Z:DC ops (Array.replicate ops.size false):=by
  intro j o ho hl;exfalso;by_cases hj:j<ops.size
  .simp[hj]at hl
  .simp[hj]at hl
 have hA:=aVw y.1.1 B H ops.size _ t [] e s y.1.2 Z (λw U=>by cases U) (λw U=>by cases U) (mono t [] e s h);refine aUX (aLu e) (Q:=oD (nI V u) u) (λe s z=>z) (λs v z=>z) (aRc y.2) _ _ g e s a _ (aUj _) (iE g) ?_ M (aM0 M) rfl hA;exact O.heap rfl
end
section
variable (C:Cx) (n:Nat) (ds:List (Option Tmp)) (ops:List Oper) (E:List (Nat × List Nat)) (K:Env->St->Prop) (Kp:St->A->Prop) (W:List (Nat × (St->Prop))) (e:Env) (s:St)
 (next:List (Nat × (St->Prop))->Env->St->Prop)(KK:A->Option (St->Prop)->Prop)
@[go_sem] theorem aXj(t:OT):OT.l [] t=t:=rfl
@[go_sem] theorem aW9(i:Nat)(r:List Nat)(t:OT):OT.l (i::r) t=.node i (OT.l r t):=rfl
@[go_sem] theorem aXv:jG C n ds ops E K Kp .nil W e s=K e s:=rfl
@[go_sem] theorem aXf(i:Nat)(r:OT):jG C n ds ops E K Kp (.node i r) W e s=mN C n ds E i (jG C n ds ops E K Kp r) W Kp e s (nH ops i):=rfl
@[go_sem] theorem aXx(a b:OT):jG C n ds ops E K Kp (.alt a b) W e s=(jG C n ds ops E K Kp a W e s/\jG C n ds ops E K Kp b W e s):=rfl
@[go_sem] theorem aW0(i j:Nat):jG C n ds ops E K Kp (.pair i j) W e s=(aCs C e (nH ops i) (nH ops j)/\mN C n ds E i (λW e s=>mN C n ds E j (λ_=>K) W Kp e s (nH ops j)) W Kp e s (nH ops i)):=rfl
@[go_sem] theorem aWz(o:Oper)(r:List Oper):nH (o::r) 0=some o:=rfl
@[go_sem] theorem aWL(o:Oper)(r:List Oper)(i:Nat):nH (o::r) (i+1)=nH r i:=rfl
@[go_sem] theorem aWZ (i : Nat) (dst : Option Tmp) (op : Op) (ty : TypeId) (pos : String) (after : Array Edge) :
  mN C n ds E i next W Kp e s (some ⟨dst,op,ty,pos,after,none⟩)=oI C n E i dst op next W Kp e s (kZ op):=rfl
@[go_sem] theorem aWB (i : Nat) (dst : Option Tmp) (op : Op) (ty : TypeId) (pos : String) (after : Array Edge) (j : Nat) (want : Bool) :
  mN C n ds E i next W Kp e s (some ⟨dst,op,ty,pos,after,some (j,want)⟩)=gdY C n E i dst op next W Kp e s want (mW ds j):=rfl
@[go_sem] theorem aXb(i:Nat)(dst:Option Tmp)(op:Op)(want:Bool)(t:Nat):gdY C n E i dst op next W Kp e s want (some t)=rJ C n E i dst op next W Kp e s t want (e.get t):=rfl
@[go_sem] theorem aXE(i:Nat)(dst:Option Tmp)(op:Op)(t:Nat):rJ C n E i dst op next W Kp e s t true (some (.bool true))=oI C n E i dst op next W Kp (e.put t (.bool true)) s (kZ op):=rfl
@[go_sem] theorem aXN(i:Nat)(dst:Option Tmp)(op:Op)(t:Nat):rJ C n E i dst op next W Kp e s t true (some (.bool false))=cY n dst (next W) (e.put t (.bool false)) s (.tuple []):=rfl
@[go_sem] theorem aXD(i:Nat)(dst:Option Tmp)(op:Op)(t:Nat):rJ C n E i dst op next W Kp e s t false (some (.bool true))=cY n dst (next W) (e.put t (.bool true)) s (.tuple []):=rfl
@[go_sem] theorem aX1(i:Nat)(dst:Option Tmp)(op:Op)(t:Nat):rJ C n E i dst op next W Kp e s t false (some (.bool false))=oI C n E i dst op next W Kp (e.put t (.bool false)) s (kZ op):=rfl
@[go_sem] theorem aX7 (i : Nat) (dst : Option Tmp) (op : Op) (t : Nat) (want : Bool) (l : List A) : rJ C n E i dst op next W Kp e s t want (some (.tuple l)) = cY n dst (next W) e s (.tuple []) := by
  cases want<;>rfl
@[go_sem] theorem aW6(i:Nat)(dst:Option Tmp)(op:Op):oI C n E i dst op next W Kp e s true=bM C op (fC C e) (aHP n dst (aAf E i) next W e) Kp s:=rfl
@[go_sem] theorem aWF(i:Nat)(dst:Option Tmp)(op:Op):oI C n E i dst op next W Kp e s false=wO C op (fC C e) s (tkK n dst i next W e s):=rfl
@[go_sem] theorem aXo(dst:Option Tmp)(h:List Nat)(v:A):aHP n dst h next W e s v=(yC h s W/\cY n dst (next W) e s v):=rfl
@[go_sem] theorem aW8(dst:Option Tmp)(i:Nat)(v:A):tkK n dst i next W e s v none=cY n dst (next W) e s v:=rfl
@[go_sem] theorem aXg(dst:Option Tmp)(i:Nat)(v:A)(p:St->Prop):tkK n dst i next W e s v (some p)=cY n dst (next ((i,p)::W)) e s v:=rfl
@[go_sem] theorem aXY(v:A):wS KK v=KK v none:=rfl
@[go_sem] theorem aXh(t:TypeId)(b o:Nat)(v:A):tkL C t b o KK (some v)=KK v (some (aHq C t b o v)):=rfl
@[go_sem] theorem aXr(t:TypeId)(op:Op)(ρ:Operand->Option A)(b o:Nat):tkX C t op ρ s KK (some (.ptr b o))=tkL C t b o KK (wE C t b o s):=rfl
@[go_sem] theorem aXc(t:TypeId)(op:Op)(ρ:Operand->Option A)(cs:List A)(o:Nat):tkX C t op ρ s KK (some (.eptr cs o))=cS C op ρ (wS KK):=rfl
@[go_sem] theorem aWs(t:TypeId)(b o:Nat)(v:A):aHq C t b o v s=(wE C t b o s=some v):=rfl
@[go_sem] theorem aXk(h:List Nat):yC h s []=True:=rfl
@[go_sem] theorem aXi(h:List Nat)(m:Nat)(p:St->Prop):yC h s ((m,p)::W)=((if h.elem m=true then p s else True)/\yC h s W):=rfl
end
attribute [go_sem] aCs aHJ kZ aAf wE wO aEA aEj aLF
end
section
def A.le(a b:A):Prop:=∀g v,Rz g a v->Rz g b v
theorem bH(a:A):a.le a:=λ_ _ h=>h
theorem A.le.trans{a b c:A}(h:a.le b)(m:b.le c):a.le c:=λg v x=>m g v (h g v x)
theorem A.le.nils(tk:Option Nat)(h:tk=none):A.le .nils (.list tk []):=λg v x=>by
 subst h;cases x;exact .list0 none none 0 (aU _) bJ
theorem A.le.nil:A.le .nils (.list none []):=A.le.nils none rfl
theorem A.le.forget(tk:Option Nat)(es:List A):A.le (.list tk es) (.list none es):=λg v x=>x.forget
def tG:List A->List A->Prop
 | [],[]=>True
 | a::r,b::l=>(a.le b/\b.one=true)/\tG r l
 | _,_=>False
theorem aDQ:∀{l r:List A},tG l r->l.length=r.length
 | [],[],_=>rfl
 | _::_,_::_,h=>by simp[aDQ h.2]
 | [],_::_,h=>h.elim
 | _::_,[],h=>h.elim
theorem zI:∀{l r:List A},tG l r->∀(j:Nat) (b:A),r[j]?=some b->∃a,l[j]?=some a/\a.le b/\b.one=true
 | [],[],_,j,b,y=>by simp at y
 | a::r,b::l,h,j,c,m=>by
  cases j with
  | zero=>simp at m;subst m;exact⟨a,by simp,h.1⟩
  | succ j=>obtain⟨x,u⟩:=zI h.2 j c (gQ m);exact⟨x,gQ u⟩
 | [],_::_,h,_,_,_=>h.elim
 | _::_,[],h,_,_,_=>h.elim
theorem A.le.agg{l r:List A}(h:tG l r):A.le (.agg l) (.agg r):=λg v x=>by
 obtain⟨vs,rfl,m,B⟩:=x.agg_inv;refine .agg r vs (by rw[m.1,aDQ h]) (λc y=>?_) λj c u y H=>?_
 .obtain⟨j,M,rfl⟩:=lN y;obtain⟨a,_,_,z⟩:=zI h j r[j] (aX M);exact z
 .obtain⟨a,O,z,_⟩:=zI h j c y;exact z g u (m.2 j a u O H)
def aCD:List A->List A->Prop
 | [],[]=>True
 | a::r,b::l=>a.le b/\aCD r l
 | _,_=>False
theorem aGG:∀{l r:List A},aCD l r->l.length=r.length
 | [],[],_=>rfl
 | _::_,_::_,h=>by simp[aGG h.2]
 | [],_::_,h=>h.elim
 | _::_,[],h=>h.elim
theorem aGB:∀{l r:List A},aCD l r->∀(j:Nat) (b:A),r[j]?=some b->∃a,l[j]?=some a/\a.le b
 | [],[],_,j,b,y=>by simp at y
 | a::r,b::l,h,j,c,m=>by
  cases j with
  | zero=>simp at m;subst m;exact⟨a,by simp,h.1⟩
  | succ j=>obtain⟨x,u⟩:=aGB h.2 j c (gQ m);exact⟨x,gQ u⟩
 | [],_::_,h,_,_,_=>h.elim
 | _::_,[],h,_,_,_=>h.elim
theorem A.le.tuple{l r:List A}(h:aCD l r):A.le (.tuple l) (.tuple r):=λg v x=>by
 obtain⟨vs,rfl,m⟩:=x.tuple_inv;refine .tuple r vs (by rw[m.1,aGG h]) λj c u y z=>?_
 obtain⟨a,H,B⟩:=aGB h j c y;exact B g u (m.2 j a u H z)
def DK(KV:St->A->Prop)(s:St)(a:A):Prop:=∃s2 a2,s.ge s2/\a.le a2/\KV s2 a2
theorem DK.mk{KV:St->A->Prop}{s s2:St}{a a2:A}(h:KV s2 a2)(m:s.ge s2)(u:a.le a2):DK KV s a:=⟨s2,a2,m,u,h⟩
theorem DK.here{KV:St->A->Prop}{s:St}{a:A}(h:KV s a):DK KV s a:=⟨s,a,aM s,bH a,h⟩
theorem aS{KV:St->A->Prop}{s s2:St}{a:A}(h:KV s2 a)(m:s.ge s2):DK KV s a:=⟨s2,a,m,bH a,h⟩
section
variable {C:Cx} {s:St} {f:FuncId} {args:List A} {KV Kp:St->A->Prop}
theorem Den.drop(h:Den C f args (DK KV) (DK Kp) s)(hd:C.det=false:=by rfl):Den C f args KV Kp s:=by
 have m:∀{a b:Nat},C.toCtx.det=true->a<=b:=λh=>by rw[show C.toCtx.det=false from hd]at h;cases h
 intro F g w vals S U;have:=h F g w vals S U;revert this;generalize (callFunc f vals.toArray).run C.P w=r;intro B;cases r with
 | ok x w' =>
  cases x<;>simp only[OutV]at B⊢
  .obtain⟨u,a,s',a1,a2,a3,s2,b,z,h2,y⟩:=B;exact⟨u,b,s2,a1,a2.weaken z m,h2 _ _ a3,y⟩
  .obtain⟨u,s',a1,a2,s2,b,z,h2,y⟩:=B;have O:=h2 u _ (.tuple [] [] rfl bJ)
   have hl:b=.tuple []:=by
    generalize H:(Value.tuple ([]:List Value).toArray)=v at O;cases O<;>first|(cases H;done)|skip
    rename_i cs vs hl _;have h0:vs=[]:=gQ H.symm;subst h0;rw[fW hl.symm]
   subst hl;exact⟨u,s2,a1,a2.weaken z m,y⟩
  .refine Calls.mono B λen Z M=>?_
   cases en with
   | returned v=>obtain⟨u,a,s',a1,a2,a3,s2,b,z,h2,y⟩:=M;exact⟨u,b,s2,a1,a2.weaken z m,h2 _ _ a3,y⟩
   | panicked nE=>obtain⟨u,a,v,s',a0,a1,a2,a3,s2,b,z,h2,y⟩:=M;exact⟨u,b,v,s2,a0,a1,a2.weaken z m,h2 _ _ a3,y⟩
   | outgrown=>exact M
 | halt x w' =>
  cases x<;>simp only[OutV]at B⊢
  obtain⟨u,a,s',a1,a2,a3,s2,b,z,h2,y⟩:=B;exact⟨u,b,s2,a1,a2.weaken z m,h2 _ _ a3,y⟩
def aBz:List A->List A->Prop:=aCD
theorem aBU{az:List A}(hl:aBz args az)(h:Den C f az KV Kp s):Den C f args KV Kp s:=λF g w vals z u =>
 h F g w vals z ⟨by rw[u.1,aGG hl],λj c v y m=>by
  obtain⟨a,H,B⟩:=aGB hl j c y;exact B g v (u.2 j a v H m)⟩
end
@[go_sem] theorem jE (s : St) (b c : Nat) (o : Ob) : ((s.setO b o).getO c = none) = ((b ≠ c ∧ c ≠ b) ∧ s.getO c = none) := by
  rw[aL];by_cases h:b=c
  · subst h;simp
  · have m:¬ c=b:=λe=>h e.symm
    simp[h,m]
theorem cJ{s:St}{b c:Nat}{o:Ob}(h:s.getO b=some o)(m:s.getO c=none):b≠c/\c≠b:=by
 constructor
 .rintro rfl;rw[h]at m;cases m
 .rintro rfl;rw[h]at m;cases m
attribute [go_sem] aL pW St.getT_setO dM
def aO:=@DK.here
end
section
def eqK:Nat->A->A->Option Bool
 | 0,.int j a,.int k b=>if j=k then some (decide (a=b)) else none
 | 1,.bool a,.bool b=>some (a == b)
 | 2,.str a,.str b=>some (decide (a=b))
 | _,_,_=>none
def aA0:List Nat->List A->List A->Option Bool
 | [],[],[]=>some true
 | k::h,a::r,b::l=>match eqK k a b,aA0 h r l with
  | some x,some y=>some (x&&y)
  | _,_=>none
 | _,_,_=>none
def vX(P:Program)(t:TypeId)(k:Nat):Bool:=match P.underlying t with
 | some (.int _)=>k == 0
 | some .bool=>k == 1
 | some .string=>k == 2
 | _=>false
def aDy(P:Program):List Field->List Nat->Nat->Bool
 | [],[],_=>true
 | f :: r,k :: h,i => (f.name != "_") && f.offset == i && vX P f.type k && aDy P r h (i + 1)
 | _,_,_=>false
def aNi(P:Program)(t:TypeId)(h:List Nat):Bool :=
 !P.stoodInHeld t&&!P.eqGuardType P.depth t&&(match P.underlying t with
  | some (.struct m)=>aDy P m.toList h 0
  | _=>false)
section
variable {P:Program} {g:Gh} {w:World}
theorem aUq{a b:A}{r:Bool}{k:Nat}{t:TypeId}{M H:Value}{d:Nat}(h:eqK k a b=some r)(B:Rz g a M)(z:Rz g b H)(u:vX P t k=true) :
  (Op.equalIn (d+1) t M H).run P w=.ok r w:=by
 unfold eqK at h;split at h
 .split at h
  .rename_i y;subst y;simp only[bQ]at h;subst h;have m:∃O,P.underlying t=some (.int O):=by unfold vX at u;split at u<;>simp_all
   obtain⟨O,m⟩:=m;rw[B.int_inv,z.int_inv,run_equalIn_int w d t _ _ _ _ m];congr 1
  .simp at h
 .simp only[bQ]at h;subst h;have m:P.underlying t=some .bool:=by unfold vX at u;split at u<;>simp_all
  rw[B.bool_inv,z.bool_inv,run_equalIn_bool' w d t _ _ m]
 .simp only[bQ]at h;subst h;have m:P.underlying t=some .string:=by unfold vX at u;split at u<;>simp_all
  rw[B.str_inv,z.str_inv,run_equalIn_string w d t _ _ m];simp only[ByteArray.toList_mk];congr 1;rw[Bool.eq_iff_iff];simp
 .simp at h
theorem aLV{t:TypeId}{k:Nat}(u:vX P t k=true){xs:Array Value}{i:Nat}{v:Value}(m:xs[i]?=some v):(part t xs i).run P w=.ok v w:=by
 unfold vX at u
 split at u<;>first
  | (rename_i h;simp[part,isAgg,eJ h,m];done)
  | (rename_i h _;simp[part,isAgg,eJ h,m];done)
  | (rename_i h;simp only[part,isAgg,bW,eJ h,bV,cI,cE,bR,m];done)
  | cases u
theorem aIL{d:Nat}{xs ys:Array Value}:∀{z:List Field} {B:List Nat} {az H:List A} {i:Nat} {r:Bool},aDy P z B i=true->aA0 B az H=some r ->
  Rzs g az (xs.toList.drop i)->Rzs g H (ys.toList.drop i)->(Op.eqFields (d+1) xs ys z).run P w=.ok r w
 | [],[],[],[],i,r,_,h,_,_=>by simp only[aA0,bQ]at h;subst h;rfl
 | f::z,k::B,a::az,b::H,i,r,hf,h,ra,U=>by
  simp only[aDy,cT,bne_iff_ne,beq_iff_eq]at hf;obtain⟨⟨⟨Z,rfl⟩,M⟩,h4⟩:=hf;simp only[aA0]at h;split at h
  .rename_i x y hx hy;simp only[bQ]at h;subst h;obtain⟨va,u,S⟩:=ra.get (j:=0) (c:=a) bJ;obtain⟨vb,m,O⟩:=U.get (j:=0) (c:=b) bJ;rw[qC,Nat.add_zero,aCS]at u m;have ih:=aIL (d:=d) (i:=f.offset+1) h4 hy (by have:=ra.drop 1;simpa [vI]using this) (by have:=U.drop 1;simpa [vI]using this);simp only[Op.eqFields,aF Z,dG,Z,gU,bT,bW,aLV M u,aLV M m,bV,aUq hx S O M];cases x
   .simp
   .simp[ih]
  .simp at h
end
def eqT(B:List TypeId)(S:List (TypeId × List Nat))(N M:List TypeId)(t:TypeId):A->A->Option Bool
 | .nils,.nils=>if N.elem t then some true else none
 | .list _ (_::_),.nils=>if N.elem t then some false else none
 | .ml _ _ _,.nils=>if N.elem t then some false else none
 | .emp,.nils=>if N.elem t then some false else none
 | .nilp,.nilp=>if M.elem t then some true else none
 | .ptr _ _,.nilp=>if M.elem t then some false else none
 | .ptr a o,.ptr b p=>if M.elem t&&Nat.beq a b&&Nat.beq o p then some true else none
 | .bool a,.bool b=>if B.elem t then some (a == b) else none
 | .agg az,.agg m=>match S.lookup t with
  | some h=>aA0 h az m
  | none=>none
 | _,_=>none
def aHR(P:Program)(t:TypeId):Bool:=match P.underlying t with
 | some (.slice _)=>true
 | _=>false
def aH2(P:Program)(t:TypeId):Bool:=match P.underlying t with
 | some (.pointer e)=>(match P.info? e with
  | some i=>i.size != 0
  | none=>false)
 | _=>false
def aEJ(P:Program)(B:List TypeId)(S:List (TypeId × List Nat))(N M:List TypeId):Bool :=
 (B.all (λt=>vX P t 1)&&S.all λx=>aNi P x.1 x.2)&&(N.all (aHR P)&&M.all (aH2 P))
section
variable {P:Program} {w:World} {t:TypeId}
theorem aCo(h:aHR P t=true)(a:Option Addr)(l c:Nat){op:BinOp}(m:op=.eql\/op=.neq)(x y:Operand) :
  (eqGuard op t x y (.slice a l c) (.slice none 0 0)).run P w=.ok () w/\(binOp op t (.slice a l c) (.slice none 0 0)).run P w=.ok (.bool (if op=.eql then a.isNone else !a.isNone)) w:=by
 unfold aHR at h;split at h
 .rename_i e u;refine⟨by rcases m with rfl|rfl<;>rfl,?_⟩;rcases m with rfl|rfl
  .simp only[binOp,bW,run_equal_slice_nil w t e a l c u,bV,cI,bT]
  .rw[run_neq_slice_nil w t e a l c u];simp
 .cases h
theorem aHz(h:aH2 P t=true)(a:Option Addr)(b:Option Addr)(r:Bool)
  (H:(a=none/\r=b.isNone)\/(b=none/\r=a.isNone)\/(∃k,a=some k/\b=some k/\r=true)){op:BinOp}(m:op=.eql\/op=.neq)(x y:Operand) :
  (eqGuard op t x y (.pointer a) (.pointer b)).run P w=.ok () w/\(binOp op t (.pointer a) (.pointer b)).run P w=.ok (.bool (if op=.eql then r else !r)) w:=by
 unfold aH2 at h;split at h
 .rename_i e z;split at h
  .rename_i i M;have B:i.size≠0:=gQ h
   have u:∀d:Nat,(Op.equalIn (d+1) t (.pointer a) (.pointer b)).run P w=.ok r w:=by
    intro d;rcases H with⟨rfl,rfl⟩|⟨rfl,rfl⟩|⟨k,rfl,rfl,rfl⟩
    .simp[Op.equalIn,eJ z]
    .cases a<;>simp[Op.equalIn,eJ z]
    .simp[Op.equalIn,eJ z,sizeOf,typeInfo,M,B,run_sameAddr_same]
   have heq:(Op.equal t (.pointer a) (.pointer b)).run P w=.ok r w:=u 9999;refine⟨by rcases m with rfl|rfl<;>rfl,?_⟩;rcases m with rfl|rfl
   .simp only[binOp,bW,heq,bV,cI,bT]
   .simp only[binOp,bW,heq,bV,cI,reduceCtorEq,bR]
  .cases h
 .cases h
end
theorem aQs{S:List (TypeId × List Nat)}{t:TypeId}{m:List Nat}(h:S.lookup t=some m):(t,m)∈S:=by
 induction S with
 | nil=>simp at h
 | cons x S y =>
  obtain⟨u,l⟩:=x;simp only[List.lookup]at h;split at h
  .rename_i z;have:t=u:=gQ z;cases h;subst this;simp
  .exact cP _ (y h)
theorem aU8{P:Program}{B:List TypeId}{S:List (TypeId × List Nat)}{N M:List TypeId}(z:aEJ P B S N M=true)(t:TypeId)(a b:A)(r:Bool)(h:eqT B S N M t a b=some r)
  (g:Gh)(va vb:Value)(w:World)(op:BinOp)(x y:Operand)(m:op=.eql\/op=.neq)(U:Rz g a va)(H:Rz g b vb) :
  (eqGuard op t x y va vb).run P w=.ok () w/\(binOp op t va vb).run P w=.ok (.bool (if op=.eql then r else !r)) w:=by
 simp only[aEJ,cT,jF]at z;obtain⟨z,hN,hM⟩:=z;unfold eqT at h;split at h
 .split at h
  .rename_i u;cases h;rw[U.nils_inv,H.nils_inv];exact aCo (hN t (gQ u)) none 0 0 m x y
  .cases h
 .split at h
  .rename_i u;cases h;obtain⟨ad,cap,O,_,_,_,hh⟩:=U.list_inv;rcases hh with hh|⟨bk,off,sz,pre,rfl,_⟩
   .cases hh
   rw[O,H.nils_inv];exact aCo (hN t (gQ u)) (some ⟨bk,off,none⟩) _ _ m x y
  .cases h
 .split at h
  .rename_i u;cases h;obtain⟨k,cap,O,_⟩:=U.ml_inv;rw[O,H.nils_inv];exact aCo (hN t (gQ u)) (some _) _ _ m x y
  .cases h
 .split at h
  .rename_i u;cases h;obtain⟨k,O⟩:=U.emp_inv;rw[O,H.nils_inv];exact aCo (hN t (gQ u)) (some _) _ _ m x y
  .cases h
 .split at h
  .rename_i u;cases h;rw[U.nilp_inv,H.nilp_inv];exact aHz (hM t (gQ u)) none none true (.inl ⟨rfl,rfl⟩) m x y
  .cases h
 .split at h
  .rename_i u;cases h;obtain⟨k,O,_⟩:=U.ptr_inv;rw[O,H.nilp_inv];exact aHz (hM t (gQ u)) (some _) none false (.inr (.inl ⟨rfl,rfl⟩)) m x y
  .cases h
 .split at h
  .rename_i a' o' b' p' u;simp only[cT]at u;cases h;have e1:=oH u.1.2;have e2:=oH u.2;subst e1 e2;obtain⟨k,O,hk⟩:=U.ptr_inv;obtain⟨k2,b5,b3⟩:=H.ptr_inv;rw[hk]at b3;cases b3;rw[O,b5];exact aHz (hM t (gQ u.1.1)) (some _) (some _) true (.inr (.inr ⟨_,rfl,rfl,rfl⟩)) m x y
  .cases h
 .split at h
  .rename_i hb;simp only[bQ]at h;subst h;have hk:=z.1 t (gQ hb)
   have Z:P.underlying t=some .bool:=by
    unfold vX at hk;split at hk<;>simp_all
   rw[U.bool_inv,H.bool_inv];refine⟨by rcases m with rfl|rfl<;>rfl,?_⟩;rcases m with rfl|rfl
   .simp only[binOp,bW,run_equal_bool w t _ _ Z,bV,cI,bT]
   .simp only[binOp,bW,run_equal_bool w t _ _ Z,bV,cI,reduceCtorEq,bR]
  .simp at h
 .split at h
  .rename_i ks b6;have hf:=z.2 _ (aQs b6);simp only[aNi,cT,qD]at hf;obtain⟨⟨h1,h2⟩,h3⟩:=hf;split at h3
   .rename_i fs Z;obtain⟨vs,rfl,b4,_⟩:=U.agg_inv;obtain⟨us,rfl,b7,_⟩:=H.agg_inv;have b2:P.fieldsOf t=fs:=by simp[Program.fieldsOf,Z]
    have b0:=aIL (P:=P) (g:=g) (w:=w) (d:=9998) (i:=0) (xs:=vs.toArray) (ys:=us.toArray) h3 h (gQ b4) (gQ b7)
    have heq:(Op.equalIn 10000 t (.agg vs.toArray) (.agg us.toArray)).run P w=.ok r w:=by
     rw[show 10000=9999+1 from rfl,run_equalIn_struct w 9999 t _ _ (by rw[b2];exact Z) h1,b2];exact b0
    refine⟨run_eqGuard_agg w op t x y _ _ h2,?_⟩;rcases m with rfl|rfl
    .rw[run_eql_struct,heq];rfl
    .rw[run_neq_struct,heq];rfl
   .simp at h3
  .simp at h
 .simp at h
attribute [go_sem] eqT aA0 eqK
end
end Go.AV
section
open Go.Proofs.Tryz
namespace Go.AV
open Go
section
variable {C:Cx} {n:Nat} {ds:List (Option Tmp)} {dst:Option Tmp} {op:Op} {r:List Oper} {K:Env->St->Prop} {Kp:St->A->Prop} {e:Env} {s:St} {t:Nat} {want b:Bool}
theorem mB(h:b=true->tO C n ds dst op r K Kp e s t want (some (.bool true)))(h2:b=false->tO C n ds dst op r K Kp e s t want (some (.bool false))) :
  tO C n ds dst op r K Kp e s t want (some (.bool b)):=by
 cases b
 .exact h2 rfl
 .exact h rfl
theorem mC{E:List (Nat × List Nat)}{i:Nat}{next:List (Nat × (St->Prop))->Env->St->Prop}{W:List (Nat × (St->Prop))}
  (h:b=true->rJ C n E i dst op next W Kp e s t want (some (.bool true)))(h2:b=false->rJ C n E i dst op next W Kp e s t want (some (.bool false))) :
  rJ C n E i dst op next W Kp e s t want (some (.bool b)):=by
 cases b
 .exact h2 rfl
 .exact h rfl
theorem mA{V:List Nat}{x y:Code}{Q:XK->Env->St->Prop}(h:b=true->iC C n V x Q e s)(h2:b=false->iC C n V y Q e s) :
  brK C n V x y Q e s (some (.bool b)):=by
 cases b
 .exact h2 rfl
 .exact h rfl
end
theorem eB{s:St}{b:Nat}{o:Ob}(h:s.getO b=none):(s.setO b o).ge s :=
 ⟨fun c x m => by
  rw[aL];have:=cJ m h;simp[this.2,m],λt n h=>h,λ_ h=>h⟩
theorem hH{s:St}{b:Nat}{o:Ob}{s2:St}(h:s2.getO b=none)(m:s.ge s2):(s.setO b o).ge s2 :=
 ⟨fun c x u => by
  rw[aL];have:=cJ u h;simp[this.2,m.ob c x u],λt n h=>m.tk t n h,λx h=>m.ls x h⟩
end Go.AV
namespace Go.AV
open Go
theorem aIp:∀(vs p q:List A),q.length=vs.length->lP (p++q) p.length vs=p++vs
 | [],p,q,h=>by have:q=[]:=fW (gQ h);subst this;rfl
 | v::vs,p,[],h=>by simp at h
 | v::vs,p,x::q,h=>by
  have m:=aIp vs (p++[v]) q (gQ h);simp only[bG,aZ,bA,aI,aG,aH,fH]at m;simp only[lP];rw[List.set_append_right _ _ (aV _),Nat.sub_self];simpa using m
@[go_sem] theorem aWi {z vs : List A} (h : z.length = vs.length) : lP z 0 vs = vs := by
  have:=aIp vs [] z h;simpa using this
@[go_sem] theorem aWq (s : St) (b n cap : Nat) (e e' : TypeId) (sz m : Nat) (ys cs : List A) (KV : St → A → Prop) : uI false s b n cap e sz m ys KV (some (.cells e' cs)) =
  ((false=false/\e'=e/\cs.length=cap * sz/\n<=cap/\n+m<=4294967296/\0<m) /\
  ∀(u h:Nat) (J:List A),(u=b/\h=cap\/s.getO u=none)->n+m<=h->J.length=(h-(n+m)) * sz->(∀c,c∈J->c.one=true) ->
   KV (s.setO u (.cells e (cs.take (n * sz)++(flat ys++J)))) (.mg u (n+m) h)):=rfl
attribute [go_sem] aEH
def gv(tk:Option Nat)(es:List A):A:=match tk with
 | none=>.nils
 | some t=>.list (some t) es
def oF(s:St)(tk:Option Nat)(n:Nat)(e:TypeId):Prop:=match tk with
 | none=>n=0
 | some t=>s.getT t=some (n,e)
theorem aMn(es:List A):gv none es=.nils:=rfl
theorem dF(t:Nat)(es:List A):gv (some t) es=.list (some t) es:=rfl
@[go_sem] theorem aWT(tk:Option Nat)(es:List A):(gv tk es).cells=[gv tk es]:=by cases tk<;>rfl
@[go_sem] theorem sU(tk:Option Nat)(es:List A):(gv tk es).one=true:=by cases tk<;>rfl
@[go_sem] theorem aXW(s:St)(tk:Option Nat)(es:List A):kB s (gv tk es)=gv tk es:=by cases tk<;>rfl
theorem qO{s:St}{tk:Option Nat}{es:List A}{e:TypeId}(h:oF s tk es.length e):nJ (gv tk es)=some (.int .i64 es.length):=by
 cases tk with
 | none =>
  have m:es.length=0:=h;simp only[gv,nJ,m];rfl
 | some t=>rfl
theorem eI{C:Cx}{s:St}{e:TypeId}{m:TI}{ys:List A}{KV:St->A->Prop}{tk:Option Nat}{es:List A}(z:C.det=false)(M:Nat.beq C.mu 1=false)(h:oF s tk es.length e)
  (B:∀y,y∈es->y.cells.length=m.sz)(hl:es.length+ys.length<=4294967296)
  (u:∀t,(tk=some t\/tk=none/\s.getT t=none)->KV (s.setT t (es.length+ys.length,e)) (.list (some t) (es++ys))):oB C s e m ys KV (gv tk es):=by
 cases tk with
 | none =>
  have O:es=[]:=fW h;subst O;refine⟨gQ hl,?_⟩;unfold oC;rw[z];simp only[M];unfold newT;rw[z];intro t H;have:=u t (.inr ⟨rfl,H⟩);simpa using this
 | some t=>exact⟨h,B,hl,u t (.inl rfl)⟩
theorem aEd{α:Type}(p:Nat)(c d:α):∀L,pB p d (pB p c L)=pB p d L
 | []=>by simp[pB]
 | (q,x)::L=>by
  unfold pB;by_cases h:q=p
  .simp[h,pB]
  .simp[h,pB,aEd p c d L]
@[go_sem] theorem nR (s : St) (b : Nat) (o h : Ob) : (s.setO b o).setO b h = s.setO b h := by
  simp only[St.setO,aEd]
end Go.AV
namespace Go.AV
open Go
def Rlz(a:A):Prop:=∃g v,Rz g a v
theorem Rlz.len{tk:Option Nat}{es:List A}(h:Rlz (.list tk es)):es.length<=maxLen:=by
 obtain⟨g,v,h⟩:=h;obtain⟨y,cap,m,z,u,_⟩:=h.list_inv;omega
theorem Rlz.wrap{tk:Option Nat}{es:List A}(h:Rlz (.list tk es)){i:Nat}(m:i<es.length):IntKind.i64.wrap ((i:Int)+1)=((i+1:Nat):Int):=by
 have:=h.len;unfold maxLen at this;exact cF i aC
theorem Rlz.cell{cs:List A}(h:Rlz (.agg cs)){c:A}(y:c∈cs):Rlz c:=by
 obtain⟨g,v,h⟩:=h;obtain⟨vs,rfl,m,_⟩:=h.agg_inv;obtain⟨j,B,rfl⟩:=lN y;obtain⟨u,_,z⟩:=m.get (aX B);exact⟨g,u,z⟩
theorem Rlz.elem{tk:Option Nat}{es:List A}(h:Rlz (.list tk es)){e:A}(y:e∈es){c:A}(H:c∈e.cells):Rlz c:=by
 obtain⟨g,v,h⟩:=h;obtain⟨ad,cap,U,hm,z,_,m⟩:=h.list_inv;rcases m with rfl|⟨b,off,sz,pre,rfl,S,hl,M,B,m⟩
 .cases y
 .obtain⟨i,u,rfl⟩:=lN y;obtain⟨j,O,rfl⟩:=lN H;have Z:=M _ (mP u)
  have hb:i * sz+j<es.length * sz:=by
   have:(i+1) * sz<=es.length * sz:=pZ _ u;rw[iL]at this;omega
  exact⟨g,_,m i _ j _ pre[off+i * sz+j] (aX u) (aX O) (aX aC)⟩
theorem Rlz.agg_elem{tk:Option Nat}{es:List A}(h:Rlz (.list tk es)){cs:List A}(y:A.agg cs∈es):Rlz (.agg cs):=by
 obtain⟨g,v,h⟩:=h;obtain⟨ad,cap,m,hm,M,_,B⟩:=h.list_inv;rcases B with rfl|⟨b,off,sz,pre,rfl,hp,hl,U,u,B⟩
 .cases y
 .obtain⟨i,O,H⟩:=lN y;have Z:=U _ y
  have hb:i * sz+sz<=es.length * sz:=by
   have:(i+1) * sz<=es.length * sz:=pZ _ O
   rwa[iL,Nat.one_mul]at this
  have S:cs.length=sz:=Z;refine⟨g,.agg ((pre.drop (off+i * sz)).take sz).toArray,.agg cs _ (by rw[cQ,eC];omega) (λc z=>u _ y c z) λj c v z m=>?_⟩;rw[oJ]at m;split at m
  .rw[qC]at m;exact B i (.agg cs) j c v (by rw[aX O,H]) z m
  .cases m
section
variable {C:Cx} {s:St} {f:FuncId} {args:List A} {KV Kp:St->A->Prop}
theorem iO(h:(∀a,a∈args->Rlz a)->Den C f args KV Kp s):Den C f args KV Kp s:=λF g w vals z m =>
 h (λa H=>by
  obtain⟨j,B,rfl⟩:=lN H;obtain⟨u,_,y⟩:=m.get (aX B);exact⟨g,u,y⟩) F g w vals z m
end
theorem aQ{X:St}{H Q:Nat->Prop}(k:∀p,H p->Q p)(h:∀p,X.getO p=none->H p:=by(intro p h;(try simp only[jE,dG]at h);exact h)):∀p,X.getO p=none->Q p:=λp e=>k p (h p e)
theorem jD{s1 s:St}{F:Prop}(f:F)(h:F->s1.ge s:=by(intro f;repeat (first|(refine hH ?_ ?_;focus (simp only[jE,dG,gU,vS,f]<;>done))|exact aM _))):s1.ge s:=h f
end Go.AV
end
namespace Go.AV
open Go Go.Proofs Tryz
theorem aO0{C:Cx}{f:FuncId}{args:List A}{s:St}{KV Kp:St->A->Prop}
  (m:∀vals w,(callFunc f vals).run C.P w=.ok (.enter f vals) w)
  (h : ∀ F g w vals,R C.toCtx F g s w → Rzs g args vals → Calls C.P f vals.toArray w fun e w' =>
   ∃v a,e=.returned v/\(∀k,k<w.heap.size->w'.heap[k]?=w.heap[k]?)/\(w'.os,w'.output)=(w.os,w.output)/\Rz g a v/\KV s a):Den C f args KV Kp s:=by
 intro F g w vals u M;rw[m];refine Calls.mono (h F g w vals u M) λe w' z=>?_
 obtain⟨v,a,rfl,H,y,B,O⟩:=z;exact⟨g,a,s,iE g,u.keep H y,B,O⟩
inductive Tr (α:Type) where
 | lf
 | nd (l:Tr α) (v:Option α) (r:Tr α)
def Tr.get{α:Type}:Tr α->Nat->Option α
 | .lf,_=>none
 | .nd l v r,n=>match n with
  | 0=>v
  | k+1=>match Nat.beq (k % 2) 0 with
   | true=>l.get (k / 2)
   | false=>r.get (k / 2)
def aHc:Code->Option (FuncId × Operand)
 | .region _ ops m=>match m with
  | true=>none
  | false=>match ops.toList with
   | [o]=>match o.dst,o.guard,o.op with
    | none,none,.defer c=>match c.callee,c.args.toList with
     | .value (.func h),[x]=>some (h,x)
     | _,_=>none
    | _,_,_=>none
   | _=>none
 | _=>none
theorem aOM{C:Cx}{f:FuncId}{fn:Func}{c:Code}{args:List A}{KV Kp:St->A->Prop}{s:St}(M:C.P.funcs[f]?=some fn)(H:fn.body=some c)
  (m : (fn.name == "runtime.NumGoroutine") = false) (hn : args.length ≤ fn.ntmps)
  (h:∀F g w (a:Act),R C.toCtx F g s w->EnvOk g fn.ntmps (rC 0 args) a.tmps->a.defers=[]->c.wp C.P (bodyPostD C.P fn (aBs C F g KV Kp)) a w):Den C f args KV Kp s:=by
 intro F g w vals S B
 have z:(callFunc f vals.toArray).run C.P w=.ok (.enter f vals.toArray) w:=by
  simp only[callFunc,bW,run_program,bV,M,m,cE,↓reduceIte,H,Option.isNone_some,cI]
 rw[z];refine calls_of_wp_defers M H ?_
 have U:EnvOk g fn.ntmps (rC 0 args) (vals.toArray++Array.replicate (fn.ntmps-vals.toArray.size) undef):=by
  have hl:vals.length=args.length:=B.1;refine⟨by simp;omega,λt a Z=>?_⟩;obtain⟨_,h2⟩:=aGf args 0 t a Z;obtain⟨u,y,O⟩:=B.get h2;rw[Nat.sub_zero]at y;refine⟨u,?_,O⟩;have:t<vals.length:=(eF.1 y).1;rw[Array.getElem?_append_left (gQ this)];simpa using y
 exact h F g w ⟨_,[]⟩ S U rfl
def aAn(h k:Nat):Deferred:={ target:=.fn (.func h) #[],args:=#[.pointer (some ⟨k,0,none⟩)] }
theorem aPN{c:Code}{h:FuncId}{x:Operand}(m:aHc c=some (h,x)):∃id ops z ty pos after,c=.region id ops false/\ops.toList=[⟨none,.defer ⟨.value (.func h),#[x],z⟩,ty,pos,after,none⟩]:=by
 unfold aHc at m;split at m
 .rename_i id ops M;split at m
  .cases m
  .split at m
   .rename_i o ho;split at m
    .rename_i c hd H B;split at m
     .rename_i S U y u;cases m;obtain⟨dst,op,ty,pos,after,gd⟩:=o;obtain⟨O,args,z⟩:=c;simp only at hd H B y u;subst hd H B y;refine⟨id,ops,z,ty,pos,after,rfl,?_⟩;rw[ho];have:args=#[x]:=by apply Array.ext';exact u
      rw[this]
     .cases m
    .cases m
   .cases m
 .cases m
def St.zero:St:=⟨λ_=>none,[],λ_=>none,[],0,none⟩
@[go_sem] def y1:TI:=⟨.other,1,8,[.nilf]⟩
@[go_sem] def y2:TI:=⟨.int .i64,1,8,[.int .i64 0]⟩
@[go_sem] def y3:TI:=⟨.bool,1,1,[.bool false]⟩
@[go_sem] def y4:TI:=⟨.int .u8,1,1,[.int .u8 0]⟩
@[go_sem] def y5:TI:=⟨.struct [(0,1,false),(1,1,false),(2,1,false),(3,1,false)],4,24,[.int .i64 0,.int .i64 0,.bool false,.int .u8 0]⟩
@[go_sem] def y6:TI:=⟨.string,1,16,[.str []]⟩
@[go_sem] def y7:TI:=⟨.int .u64,1,8,[.int .u64 0]⟩
@[go_sem] def y8:TI:=⟨.struct [(0,1,false),(1,1,false)],2,24,[.str [],.int .u64 0]⟩
@[go_sem] def y9:TI:=⟨.other,1,8,[.nilp]⟩
@[go_sem] def y10:TI:=⟨.struct [(0,1,false)],1,8,[.nilp]⟩
@[go_sem] def y11:TI:=⟨.iface,1,16,[.nili]⟩
@[go_sem] def y12:TI:=⟨.int .i32,1,4,[.int .i32 0]⟩
@[go_sem] def y13:TI:=⟨.slice 9,1,24,[.nils]⟩
@[go_sem] def y14:TI:=⟨.slice 104,1,24,[.nils]⟩
@[go_sem] def y15:TI:=⟨.slice 73,1,24,[.nils]⟩
@[go_sem] def y16:TI:=⟨.struct [(0,1,false),(1,1,false),(2,1,false),(3,1,false),(4,1,false)],5,120,[.nils,.nils,.nils,.nils,.nils]⟩
@[go_sem] def y17:TI:=⟨.slice 80,1,24,[.nils]⟩
@[go_sem] def y18:TI:=⟨.slice 68,1,24,[.nils]⟩
@[go_sem] def y19:TI:=⟨.slice 84,1,24,[.nils]⟩
@[go_sem] def y20:TI:=⟨.struct [(0,1,false),(1,5,true),(6,1,false),(7,1,false),(8,1,false),(9,1,false),(10,1,false),(11,1,false),(12,1,false)],13,280,[.str [],.nils,.nils,.nils,.nils,.nils,.nils,.nils,.str [],.nils,.nils,.str [],.str []]⟩
@[go_sem] def y21:TI:=⟨.struct [(0,1,false),(1,1,false),(2,1,false),(3,1,false)],4,40,[.int .i64 0,.str [],.int .i64 0,.int .i64 0]⟩
@[go_sem] def y22:TI:=⟨.slice 43,1,24,[.nils]⟩
@[go_sem] def y23:TI:=⟨.struct [(0,1,false),(1,1,false),(2,1,false),(3,1,false),(4,1,false),(5,1,false)],6,96,[.int .i64 0,.int .i64 0,.str [],.str [],.nils,.nils]⟩
@[go_sem] def y24:TI:=⟨.slice 60,1,24,[.nils]⟩
@[go_sem] def y25:TI:=⟨.struct [(0,1,false),(1,1,false),(2,1,false),(3,1,false),(4,1,false)],5,48,[.int .i64 0,.str [],.int .i64 0,.int .i64 0,.int .i64 0]⟩
@[go_sem] def y26:TI:=⟨.struct [(0,1,false),(1,1,false),(2,6,true),(8,1,false),(9,1,false)],10,144,[.str [],.str [],.int .i64 0,.int .i64 0,.str [],.str [],.nils,.nils,.int .i64 0,.int .i64 0]⟩
@[go_sem] def y27:TI:=⟨.slice 143,1,24,[.nils]⟩
@[go_sem] def y28:TI:=⟨.slice 3,1,24,[.nils]⟩
@[go_sem] def y29:TI:=⟨.struct [(0,1,false),(1,1,false),(2,1,false),(3,1,false),(4,1,false),(5,1,false),(6,1,false)],7,120,[.str [],.nils,.str [],.nils,.int .i64 0,.int .i64 0,.nils]⟩
@[go_sem] def y30:TI:=⟨.struct [(0,6,true),(6,6,true),(12,1,false),(13,1,false),(14,1,false)],15,232,[.int .i64 0,.int .i64 0,.str [],.str [],.nils,.nils,.int .i64 0,.int .i64 0,.str [],.str [],.nils,.nils,.nils,.int .i64 0,.int .i64 0]⟩
@[go_sem] def y31:TI:=⟨.slice 86,1,24,[.nils]⟩
@[go_sem] def y32:TI:=⟨.slice 141,1,24,[.nils]⟩
@[go_sem] def y33:TI:=⟨.struct [(0,1,false),(1,1,false),(2,1,false),(3,1,false),(4,1,false),(5,1,false),(6,1,false)],7,128,[.str [],.nils,.nils,.nils,.nils,.int .i64 0,.int .i64 0]⟩
@[go_sem] def y34:TI:=⟨.struct [(0,1,false),(1,1,false),(2,6,true),(8,1,false),(9,1,false),(10,1,false)],11,168,[.str [],.str [],.int .i64 0,.int .i64 0,.str [],.str [],.nils,.nils,.nils,.int .i64 0,.int .i64 0]⟩
@[go_sem] def y35:TI:=⟨.struct [(0,1,false),(1,1,false),(2,4,true),(6,13,true),(19,5,true),(24,1,false),(25,1,false)],26,416,[.nils,.int .i64 0,.int .i64 0,.str [],.int .i64 0,.int .i64 0,.str [],.nils,.nils,.nils,.nils,.nils,.nils,.nils,.str [],.nils,.nils,.str [],.str [],.int .i64 0,.str [],.int .i64 0,.int .i64 0,.int .i64 0,.int .i64 0,.bool false]⟩
@[go_sem] def y36:TI:=⟨.struct [(0,1,false),(1,1,false),(2,1,false),(3,1,false),(4,4,true),(8,1,false),(9,1,false),(10,1,false),(11,13,true)],24,392,[.nils,.int .i64 0,.int .i64 0,.int .i64 0,.int .i64 0,.str [],.int .i64 0,.int .i64 0,.int .i64 0,.int .i64 0,.bool false,.str [],.nils,.nils,.nils,.nils,.nils,.nils,.nils,.str [],.nils,.nils,.str [],.str []]⟩
@[go_sem] def sE:TI:=⟨.struct [(0,1,false),(1,1,false)],2,32,[.str [],.str []]⟩
@[go_sem] def y38:TI:=⟨.struct [(0,1,false),(1,1,false),(2,1,false),(3,1,false),(4,1,false),(5,1,false),(6,4,true)],10,128,[.str [],.int .i64 0,.int .i64 0,.int .i64 0,.nils,.nils,.int .i64 0,.str [],.int .i64 0,.int .i64 0]⟩
@[go_sem] def y39:TI:=⟨.struct [(0,1,false)],1,24,[.nils]⟩
@[go_sem] def y40:TI:=⟨.slice 147,1,24,[.nils]⟩
@[go_sem] def y41:TI:=⟨.slice 156,1,24,[.nils]⟩
@[go_sem] def y42:TI:=⟨.struct [(0,1,false),(1,1,false)],2,48,[.nils,.nils]⟩
@[go_sem] def y43:TI:=⟨.slice 5,1,24,[.nils]⟩
@[go_sem] def y44:TI:=⟨.struct [(0,1,false),(1,1,false)],2,32,[.nilp,.nils]⟩
@[go_sem] def y45:TI:=⟨.struct [(0,1,false),(1,1,false)],2,24,[.str [],.bool false]⟩
@[go_sem] def y46:TI:=⟨.struct [(0,1,false),(1,1,false)],2,16,[.int .i64 0,.bool false]⟩
@[go_sem] def y47:TI:=⟨.struct [(0,2,true)],2,32,[.nilp,.nils]⟩
@[go_sem] def y48:TI:=⟨.slice 4,1,24,[.nils]⟩
@[go_sem] def y49:TI:=⟨.struct [(0,1,false),(1,1,false),(2,1,false),(3,1,false),(4,1,false),(5,1,false)],6,72,[.str [],.int .i64 0,.int .i64 0,.int .i64 0,.nils,.bool false]⟩
@[go_sem] def y50:TI:=⟨.slice 41,1,24,[.nils]⟩
@[go_sem] def y51:TI:=⟨.array 256 5,256,256,List.replicate 256 (.int .u8 0)⟩
@[go_sem] def y52:TI:=⟨.slice 30,1,24,[.nils]⟩
@[go_sem] def y53:TI:=⟨.slice 276,1,24,[.nils]⟩
@[go_sem] def y54:TI:=⟨.struct [(0,1,false),(1,1,false)],2,16,[.int .i64 0,.int .i64 0]⟩
@[go_sem] def y55:TI:=⟨.int .u32,1,4,[.int .u32 0]⟩
@[go_sem] def y56:TI:=⟨.array 24 5,24,24,[.int .u8 0,.int .u8 0,.int .u8 0,.int .u8 0,.int .u8 0,.int .u8 0,.int .u8 0,.int .u8 0,.int .u8 0,.int .u8 0,.int .u8 0,.int .u8 0,.int .u8 0,.int .u8 0,.int .u8 0,.int .u8 0,.int .u8 0,.int .u8 0,.int .u8 0,.int .u8 0,.int .u8 0,.int .u8 0,.int .u8 0,.int .u8 0]⟩
@[go_sem] def y57:TI:=⟨.slice 295,1,24,[.nils]⟩
@[go_sem] def y58:TI:=⟨.slice 298,1,24,[.nils]⟩
@[go_sem] def y59:TI:=⟨.struct [(0,1,false),(1,1,false),(2,1,false)],3,56,[.nils,.nils,.int .i64 0]⟩
@[go_sem] def y60:TI:=⟨.int .u16,1,2,[.int .u16 0]⟩
@[go_sem] def y61:TI:=⟨.struct [(0,1,false),(1,1,false),(2,1,false)],3,6,[.int .u16 0,.int .u16 0,.int .u16 0]⟩
@[go_sem] def y62:TI:=⟨.struct [(0,1,false),(1,1,false),(2,1,false)],3,12,[.int .u32 0,.int .u32 0,.int .u32 0]⟩
@[go_sem] def y63:TI:=⟨.array 20 284,20,160,[.int .u64 0,.int .u64 0,.int .u64 0,.int .u64 0,.int .u64 0,.int .u64 0,.int .u64 0,.int .u64 0,.int .u64 0,.int .u64 0,.int .u64 0,.int .u64 0,.int .u64 0,.int .u64 0,.int .u64 0,.int .u64 0,.int .u64 0,.int .u64 0,.int .u64 0,.int .u64 0]⟩
@[go_sem] def y64:TI:=⟨.array 32 5,32,32,[.int .u8 0,.int .u8 0,.int .u8 0,.int .u8 0,.int .u8 0,.int .u8 0,.int .u8 0,.int .u8 0,.int .u8 0,.int .u8 0,.int .u8 0,.int .u8 0,.int .u8 0,.int .u8 0,.int .u8 0,.int .u8 0,.int .u8 0,.int .u8 0,.int .u8 0,.int .u8 0,.int .u8 0,.int .u8 0,.int .u8 0,.int .u8 0,.int .u8 0,.int .u8 0,.int .u8 0,.int .u8 0,.int .u8 0,.int .u8 0,.int .u8 0,.int .u8 0]⟩
@[go_sem] def y65:TI:=⟨.struct [(0,1,false),(1,1,false),(2,1,false)],3,48,[.str [],.str [],.nili]⟩
@[go_sem] def y66:TI:=⟨.struct [(0,1,false),(1,1,false)],2,2,[.int .u8 0,.int .u8 0]⟩
@[go_sem] def y67:TI:=⟨.array 16 335,32,32,[.int .u8 0,.int .u8 0,.int .u8 0,.int .u8 0,.int .u8 0,.int .u8 0,.int .u8 0,.int .u8 0,.int .u8 0,.int .u8 0,.int .u8 0,.int .u8 0,.int .u8 0,.int .u8 0,.int .u8 0,.int .u8 0,.int .u8 0,.int .u8 0,.int .u8 0,.int .u8 0,.int .u8 0,.int .u8 0,.int .u8 0,.int .u8 0,.int .u8 0,.int .u8 0,.int .u8 0,.int .u8 0,.int .u8 0,.int .u8 0,.int .u8 0,.int .u8 0]⟩
@[go_sem] def y68:TI:=⟨.struct [(0,1,false)],1,16,[.str []]⟩
@[go_sem] def y69:TI:=⟨.struct [(0,1,false),(1,1,false),(2,1,false),(3,1,false)],4,40,[.nilp,.nilp,.nilp,.str []]⟩
@[go_sem] def y70:TI:=⟨.array 0 16,0,0,[]⟩
@[go_sem] def y71:TI:=⟨.struct [(0,1,false),(1,1,false),(2,1,false),(3,1,false),(4,1,false),(5,1,false),(6,1,false),(7,1,false),(8,1,false),(9,1,false),(10,1,false)],11,48,[.int .u64 0,.int .u64 0,.int .u32 0,.int .u8 0,.int .u8 0,.int .u8 0,.int .u8 0,.nilf,.nilp,.int .i32 0,.int .i32 0]⟩
def ttT:Tr TI:=(.nd (.nd (.nd (.nd (.nd (.nd (.nd (.nd (.nd .lf (some y51) .lf) (some y1) .lf) (some y1) (.nd (.nd .lf (some y1) .lf) (some y9) .lf)) (some y19) (.nd .lf (some y36) (.nd (.nd .lf (some y71) .lf) (some y1) .lf))) (some y9) (.nd (.nd (.nd (.nd .lf (some y1) .lf) (some sE) .lf) (some y30) (.nd (.nd .lf (some y66) .lf) (some y1) .lf)) (some y1) (.nd (.nd (.nd .lf (some y63) .lf) (some y1) .lf) none (.nd .lf (some y1) .lf)))) (some y5) (.nd (.nd (.nd (.nd .lf (some y1) .lf) (some y28) (.nd .lf (some y1) .lf)) (some y1) (.nd (.nd (.nd .lf (some y61) .lf) (some y1) .lf) (some sE) (.nd .lf (some y1) .lf))) (some y1) (.nd (.nd (.nd (.nd .lf (some y9) .lf) (some y9) .lf) (some y1) (.nd (.nd .lf (some y70) .lf) (some y1) .lf)) (some y24) (.nd (.nd .lf (some y46) .lf) (some y1) (.nd .lf (some y1) .lf))))) (some y2) (.nd (.nd (.nd (.nd (.nd (.nd .lf (some y1) .lf) (some y1) .lf) (some y26) (.nd (.nd .lf (some y9) .lf) (some y1) .lf)) (some y21) (.nd (.nd (.nd .lf (some y59) .lf) none .lf) (some y1) (.nd .lf (some y1) .lf))) (some y10) (.nd (.nd (.nd (.nd .lf (some y54) .lf) (some y41) .lf) (some y33) (.nd (.nd .lf (some y68) .lf) (some y1) .lf)) none (.nd (.nd (.nd .lf (some y9) .lf) (some y1) .lf) (some y1) (.nd .lf (some y1) .lf)))) (some y6) (.nd (.nd (.nd (.nd (.nd .lf (some y1) .lf) (some y1) .lf) none (.nd (.nd .lf (some y65) .lf) (some y1) .lf)) (some y23) (.nd (.nd (.nd .lf (some y1) .lf) (some sE) .lf) (some y1) (.nd .lf (some y1) .lf))) (some y16) (.nd (.nd (.nd (.nd .lf (some y56) .lf) (some y45) .lf) (some y35) (.nd (.nd .lf (some y4) .lf) (some y1) .lf)) (some y25) (.nd (.nd (.nd .lf (some y1) .lf) (some y47) .lf) (some y1) (.nd .lf (some y1) .lf)))))) (some y1) (.nd (.nd (.nd (.nd (.nd (.nd (.nd .lf (some y1) .lf) (some y1) .lf) (some y1) (.nd .lf (some y1) .lf)) (some y20) (.nd (.nd (.nd .lf (some y57) .lf) (some y1) .lf) (some y1) (.nd .lf (some y49) .lf))) (some y9) (.nd (.nd (.nd (.nd .lf (some y1) .lf) (some y1) .lf) (some y31) (.nd (.nd .lf (some y1) .lf) (some y1) .lf)) none (.nd (.nd (.nd .lf (some y1) .lf) (some y1) .lf) (some y1) (.nd .lf (some y1) .lf)))) (some y6) (.nd (.nd (.nd (.nd (.nd .lf (some y1) .lf) (some y38) .lf) (some y29) (.nd .lf (some y1) .lf)) (some y22) (.nd (.nd (.nd .lf (some y62) .lf) (some y1) .lf) (some y1) (.nd .lf (some y9) .lf))) (some y14) (.nd (.nd (.nd (.nd .lf (some y1) .lf) (some y44) .lf) (some y1) (.nd .lf (some y1) .lf)) (some y1) (.nd (.nd (.nd .lf (some y1) .lf) (some y1) .lf) (some y1) (.nd .lf (some y1) .lf))))) (some y4) (.nd (.nd (.nd (.nd (.nd (.nd .lf (some y1) .lf) (some y1) .lf) (some y27) (.nd (.nd .lf (some y1) .lf) (some y1) .lf)) none (.nd (.nd (.nd .lf (some y60) .lf) (some y1) .lf) (some y1) (.nd .lf (some y1) .lf))) (some y12) (.nd (.nd (.nd (.nd .lf (some y55) .lf) (some y42) .lf) (some y34) (.nd (.nd .lf (some y69) .lf) (some y1) .lf)) (some y1) (.nd (.nd .lf (some y1) .lf) (some y1) (.nd .lf (some y1) .lf)))) (some y8) (.nd (.nd (.nd (.nd (.nd .lf (some y1) .lf) (some y39) .lf) (some y1) (.nd (.nd .lf (some y1) .lf) (some y1) .lf)) (some y1) (.nd (.nd (.nd .lf (some y1) .lf) (some y1) .lf) (some y1) (.nd .lf (some y1) .lf))) (some y17) (.nd (.nd (.nd (.nd .lf (some y1) .lf) (some y11) .lf) (some y9) (.nd (.nd .lf (some y12) .lf) (some y9) .lf)) (some y1) (.nd (.nd .lf (some y1) .lf) (some y1) (.nd .lf (some y9) .lf))))))) none (.nd (.nd (.nd (.nd (.nd (.nd (.nd (.nd .lf (some y1) .lf) (some y1) .lf) (some y1) (.nd (.nd .lf (some y2) .lf) (some y48) .lf)) (some y20) (.nd (.nd (.nd .lf (some y1) .lf) (some y1) .lf) none (.nd (.nd .lf (some y71) .lf) (some y9) .lf))) (some y9) (.nd (.nd (.nd (.nd .lf (some y1) .lf) (some y1) .lf) (some y30) (.nd (.nd .lf (some y67) .lf) (some y1) .lf)) (some y1) (.nd (.nd .lf (some y1) .lf) (some y1) (.nd .lf (some y1) .lf)))) (some y5) (.nd (.nd (.nd (.nd (.nd .lf (some y1) .lf) (some y9) .lf) (some y29) (.nd (.nd .lf (some y1) .lf) (some y1) .lf)) (some y2) (.nd (.nd (.nd .lf (some y1) .lf) (some y1) .lf) (some sE) (.nd .lf (some y1) .lf))) (some y13) (.nd (.nd (.nd (.nd .lf (some y1) .lf) (some y43) .lf) (some y9) (.nd .lf (some y1) .lf)) none (.nd (.nd (.nd .lf (some y1) .lf) (some y46) .lf) (some y1) (.nd .lf (some y50) .lf))))) (some y3) (.nd (.nd (.nd (.nd (.nd (.nd .lf (some y1) .lf) (some y1) .lf) (some y26) (.nd (.nd .lf (some y1) .lf) (some y1) .lf)) (some y21) (.nd (.nd (.nd .lf (some y59) .lf) (some y1) .lf) (some y1) (.nd .lf (some y1) .lf))) (some y11) (.nd (.nd (.nd (.nd .lf (some y54) .lf) (some y42) .lf) (some y33) (.nd (.nd .lf (some y68) .lf) (some y1) .lf)) (some y1) (.nd (.nd (.nd .lf (some y1) .lf) (some y1) .lf) (some y1) (.nd .lf (some y1) .lf)))) (some y7) (.nd (.nd (.nd (.nd (.nd .lf (some y52) .lf) (some y39) .lf) (some y1) (.nd (.nd .lf (some y65) .lf) (some y1) .lf)) none (.nd (.nd .lf (some y1) .lf) (some y1) (.nd .lf (some y1) .lf))) (some y16) (.nd (.nd (.nd (.nd .lf (some y7) .lf) (some y45) .lf) (some y1) (.nd (.nd .lf (some y1) .lf) (some y1) .lf)) (some y25) (.nd (.nd (.nd .lf (some y1) .lf) (some y1) .lf) (some y1) (.nd .lf (some y1) .lf)))))) (some y2) (.nd (.nd (.nd (.nd (.nd (.nd (.nd .lf (some y1) .lf) (some y1) .lf) (some y1) (.nd (.nd .lf (some y1) .lf) (some y1) .lf)) (some y2) (.nd (.nd (.nd .lf (some y58) .lf) (some y1) .lf) (some y1) (.nd .lf (some y49) .lf))) (some y10) (.nd (.nd (.nd (.nd .lf (some y53) .lf) (some y40) .lf) (some y32) (.nd (.nd .lf (some y9) .lf) (some y9) .lf)) (some y1) (.nd (.nd (.nd .lf (some y9) .lf) (some y1) .lf) (some y1) (.nd .lf (some y1) .lf)))) (some y6) (.nd (.nd (.nd (.nd (.nd .lf (some y1) .lf) (some y38) .lf) (some y9) (.nd (.nd .lf (some y1) .lf) (some y1) .lf)) (some y23) (.nd (.nd (.nd .lf (some y62) .lf) (some sE) .lf) (some y1) (.nd .lf (some y1) .lf))) (some y15) (.nd (.nd (.nd (.nd .lf (some y7) .lf) (some y44) .lf) (some y35) (.nd (.nd .lf (some y4) .lf) (some y1) .lf)) (some y2) (.nd (.nd (.nd .lf (some y9) .lf) (some y47) .lf) (some y1) (.nd .lf (some y1) .lf))))) (some y4) (.nd (.nd (.nd (.nd (.nd (.nd .lf (some y1) .lf) (some y1) .lf) (some y2) (.nd (.nd .lf (some y64) .lf) (some y1) .lf)) (some y1) (.nd (.nd (.nd .lf (some y61) .lf) (some y1) .lf) (some y1) (.nd .lf (some y9) .lf))) (some y1) (.nd (.nd (.nd (.nd .lf (some y1) .lf) (some y1) .lf) (some y34) (.nd (.nd .lf (some y69) .lf) (some y1) .lf)) (some y1) (.nd (.nd .lf (some y1) .lf) (some y1) (.nd .lf (some y1) .lf)))) (some y8) (.nd (.nd (.nd (.nd (.nd .lf (some y1) .lf) (some sE) .lf) (some y1) (.nd (.nd .lf (some y66) .lf) (some y1) .lf)) (some y1) (.nd (.nd (.nd .lf (some y1) .lf) (some y1) .lf) (some y9) (.nd .lf (some y1) .lf))) (some y18) (.nd (.nd (.nd (.nd .lf (some y1) .lf) (some y11) .lf) (some y36) (.nd (.nd .lf (some y12) .lf) (some y9) .lf)) (some y1) (.nd (.nd (.nd .lf (some y1) .lf) (some y1) .lf) (some y1) (.nd .lf (some y1) .lf))))))))
def TT(t:TypeId):Option TI:=ttT.get t
def aVF(P:Program)(n:Nat):Bool:=(List.range n).all λt=>match TT t with|some h=>aH0 P t h|none=>true
theorem aVl:aVF prog 353=true:=by decide +kernel
def TTc(t:TypeId):Option TI:=match Nat.blt t 353 with
 | true=>TT t
 | false=>none
theorem aVL(t:TypeId)(u:TI)(h:TTc t=some u):u.ok prog t:=by
 unfold TTc at h;split at h
 .rename_i m;rw[Nat.blt_eq]at m;have:=jF.1 aVl t (wW.2 m);rw[h]at this;exact aT4 this
 .cases h
theorem aNh:aEJ prog [4] [(36,[0,2,0,0]),(104,[2,2]),(143,[2,2])] [24,69,71] [151]=true:=by decide +kernel
theorem aPo{P:Program}{e:TypeId}(m:P.cellsOf e≠0)(count:Nat)(h:1<=count):liesAt P P.depth e count 0 e 1=true:=by
 have hd:P.depth=(2 * (P.types.size+Made.depth)+1)+1:=rfl;rw[hd];simp only[liesAt,oK];left;rw[hd];simp[rowAt,m,h,sameLayout]
theorem aDO:prog.underlying 151=some (.pointer 154)/\prog.underlying 253=some .unsafePointer/\(prog.info? 154).map (·.size)=some 2/\prog.cellsOf 154=2/\prog.underlying 210=some (.pointer 5)/\prog.cellsOf 5=1:=by
 refine⟨?_,?_,?_,?_,?_,?_⟩<;>kernel_rfl
def cvS(a b:TypeId):Option TypeId:=match Nat.beq a 151&&Nat.beq b 253 with
 | true=>some 154
 | false=>match Nat.beq a 253&&Nat.beq b 151 with
  | true=>some 154
  | false=>none
def usS(a:TypeId):Option TypeId:=match Nat.beq a 210 with
 | true=>some 5
 | false=>none
theorem aUF(a b e:TypeId)(h:cvS a b=some e)(w:World)(k:Nat)(vs:Array Value)(y:w.heap[k]?=some (.cells vs e))(H:prog.cellsOf e<=vs.size) :
  (convert a b (.pointer (some ⟨k,0,none⟩))).run prog w=.ok (.pointer (some ⟨k,0,none⟩)) w:=by
 obtain⟨z,h2,O,u,_⟩:=aDO;obtain⟨j,B,M⟩:=sF.1 O;unfold cvS at h;split at h
 .rename_i m;simp only[cT]at m;obtain rfl:=oH m.1;obtain rfl:=oH m.2;cases h;rw[u]at H;exact Lib.run_to_unsafe w ⟨k,0,none⟩ z h2 B aC (cells:=vs.size) (e:=154) (by simp[World.shape?,y]) (by show 0<vs.size;omega)
 .split at h
  .rename_i m;simp only[cT]at m;obtain rfl:=oH m.1;obtain rfl:=oH m.2;cases h;rw[u]at H;exact Lib.run_from_unsafe w ⟨k,0,none⟩ h2 z B (cells:=vs.size) (e:=154) (by simp[World.shape?,y]) (aPo (by rw[u];decide) _ (by rw[u];omega))
  .cases h
theorem aP2{P:Program}{e u:TypeId}{y:Array Field}(M:P.cellsOf e≠0)(z:P.cellsOf u≠0)(Z:P.underlying e=some (.struct y))(H:P.stoodInHeld e=false)(B:∃f∈y,f.offset=0/\f.type=u)
  (count:Nat)(h:1<=count):liesAt P P.depth e count 0 u 1=true:=by
 have hd:P.depth=(2 * (P.types.size+Made.depth)+1)+1:=rfl;obtain⟨f,hm,S,O⟩:=B;rw[hd];simp only[liesAt,oK];left;rw[hd];generalize 2 * (P.types.size+Made.depth)=m;subst O;have U:0<count:=h;rw[rowAt];simp only[M,Z,H,U,Nat.zero_div,Nat.zero_mod,bR,tR,fG,gB,oK,cT];right;rw[Array.any_eq_true'];refine⟨f,hm,?_⟩;simp[z,rowAt,sameLayout,S];exact Nat.pos_of_ne_zero z
def aHW(d:Option TypeDesc)(u:TypeId):Bool:=match d with
 | some (.struct h)=>h.any λf=>f.offset == 0&&f.type == u
 | _=>false
theorem aRO:aHW (prog.underlying 187) 154=true/\prog.stoodInHeld 187=false/\prog.cellsOf 187=2:=by
 refine⟨?_,?_,?_⟩<;>kernel_rfl
theorem aTd{d:Option TypeDesc}{u:TypeId}(h:aHW d u=true):∃m,d=some (.struct m)/\∃f∈m,f.offset=0/\f.type=u:=by
 unfold aHW at h;split at h
 .rename_i m;rw[Array.any_eq_true']at h;obtain⟨f,y,h⟩:=h;simp only[cT,beq_iff_eq]at h;exact⟨m,rfl,f,y,h⟩
 .cases h
def cwS(a:TypeId):Option TypeId:=match Nat.beq a 187 with
 | true=>some 154
 | false=>none
theorem aUp(a b e' e:TypeId)(h:cvS a b=some e')(u:cwS e=some e')(w:World)(k:Nat)(vs:Array Value)(z:w.heap[k]?=some (.cells vs e))(S:prog.cellsOf e'<=vs.size) :
  (convert a b (.pointer (some ⟨k,0,none⟩))).run prog w=.ok (.pointer (some ⟨k,0,none⟩)) w:=by
 obtain⟨H,h2,U,y,_⟩:=aDO;obtain⟨g0,g4,B⟩:=aRO;obtain⟨fs,Z,O⟩:=aTd g0;obtain⟨j,M,b0⟩:=sF.1 U;unfold cwS at u;split at u
 .rename_i m;obtain rfl:=oH m;cases u;rw[y]at S;unfold cvS at h;split at h
  .rename_i m;simp only[cT]at m;obtain rfl:=oH m.1;obtain rfl:=oH m.2;exact Lib.run_to_unsafe w ⟨k,0,none⟩ H h2 M aC (cells:=vs.size) (e:=187) (by simp[World.shape?,z]) (by show 0<vs.size;omega)
  .split at h
   .rename_i m;simp only[cT]at m;obtain rfl:=oH m.1;obtain rfl:=oH m.2;exact Lib.run_from_unsafe w ⟨k,0,none⟩ h2 H M (cells:=vs.size) (e:=187) (by simp[World.shape?,z]) (aP2 (by rw[B];decide) (by rw[y];decide) Z g4 O _ (by rw[B];omega))
   .cases h
 .cases u
def aBw:List A:=[.int .u8 0,.int .u8 0,.int .u8 0,.int .u8 0,.int .u8 0,.int .u8 0,.int .u8 0,.int .u8 0,.int .u8 0,.int .u8 1,.int .u8 1,.int .u8 1,.int .u8 1,.int .u8 1,.int .u8 0,.int .u8 0,.int .u8 0,.int .u8 0,.int .u8 0,.int .u8 0,.int .u8 0,.int .u8 0,.int .u8 0,.int .u8 0,.int .u8 0,.int .u8 0,.int .u8 0,.int .u8 0,.int .u8 0,.int .u8 0,.int .u8 0,.int .u8 0,.int .u8 1,.int .u8 0,.int .u8 0,.int .u8 0,.int .u8 0,.int .u8 0,.int .u8 0,.int .u8 0,.int .u8 0,.int .u8 0,.int .u8 0,.int .u8 0,.int .u8 0,.int .u8 0,.int .u8 0,.int .u8 0,.int .u8 0,.int .u8 0,.int .u8 0,.int .u8 0,.int .u8 0,.int .u8 0,.int .u8 0,.int .u8 0,.int .u8 0,.int .u8 0,.int .u8 0,.int .u8 0,.int .u8 0,.int .u8 0,.int .u8 0,.int .u8 0,.int .u8 0,.int .u8 0,.int .u8 0,.int .u8 0,.int .u8 0,.int .u8 0,.int .u8 0,.int .u8 0,.int .u8 0,.int .u8 0,.int .u8 0,.int .u8 0,.int .u8 0,.int .u8 0,.int .u8 0,.int .u8 0,.int .u8 0,.int .u8 0,.int .u8 0,.int .u8 0,.int .u8 0,.int .u8 0,.int .u8 0,.int .u8 0,.int .u8 0,.int .u8 0,.int .u8 0,.int .u8 0,.int .u8 0,.int .u8 0,.int .u8 0,.int .u8 0,.int .u8 0,.int .u8 0,.int .u8 0,.int .u8 0,.int .u8 0,.int .u8 0,.int .u8 0,.int .u8 0,.int .u8 0,.int .u8 0,.int .u8 0,.int .u8 0,.int .u8 0,.int .u8 0,.int .u8 0,.int .u8 0,.int .u8 0,.int .u8 0,.int .u8 0,.int .u8 0,.int .u8 0,.int .u8 0,.int .u8 0,.int .u8 0,.int .u8 0,.int .u8 0,.int .u8 0,.int .u8 0,.int .u8 0,.int .u8 0,.int .u8 0,.int .u8 0,.int .u8 0,.int .u8 0,.int .u8 0,.int .u8 0,.int .u8 0,.int .u8 0,.int .u8 0,.int .u8 0,.int .u8 0,.int .u8 0,.int .u8 0,.int .u8 0,.int .u8 0,.int .u8 0,.int .u8 0,.int .u8 0,.int .u8 0,.int .u8 0,.int .u8 0,.int .u8 0,.int .u8 0,.int .u8 0,.int .u8 0,.int .u8 0,.int .u8 0,.int .u8 0,.int .u8 0,.int .u8 0,.int .u8 0,.int .u8 0,.int .u8 0,.int .u8 0,.int .u8 0,.int .u8 0,.int .u8 0,.int .u8 0,.int .u8 0,.int .u8 0,.int .u8 0,.int .u8 0,.int .u8 0,.int .u8 0,.int .u8 0,.int .u8 0,.int .u8 0,.int .u8 0,.int .u8 0,.int .u8 0,.int .u8 0,.int .u8 0,.int .u8 0,.int .u8 0,.int .u8 0,.int .u8 0,.int .u8 0,.int .u8 0,.int .u8 0,.int .u8 0,.int .u8 0,.int .u8 0,.int .u8 0,.int .u8 0,.int .u8 0,.int .u8 0,.int .u8 0,.int .u8 0,.int .u8 0,.int .u8 0,.int .u8 0,.int .u8 0,.int .u8 0,.int .u8 0,.int .u8 0,.int .u8 0,.int .u8 0,.int .u8 0,.int .u8 0,.int .u8 0,.int .u8 0,.int .u8 0,.int .u8 0,.int .u8 0,.int .u8 0,.int .u8 0,.int .u8 0,.int .u8 0,.int .u8 0,.int .u8 0,.int .u8 0,.int .u8 0,.int .u8 0,.int .u8 0,.int .u8 0,.int .u8 0,.int .u8 0,.int .u8 0,.int .u8 0,.int .u8 0,.int .u8 0,.int .u8 0,.int .u8 0,.int .u8 0,.int .u8 0,.int .u8 0,.int .u8 0,.int .u8 0,.int .u8 0,.int .u8 0,.int .u8 0,.int .u8 0,.int .u8 0,.int .u8 0,.int .u8 0,.int .u8 0,.int .u8 0,.int .u8 0,.int .u8 0,.int .u8 0,.int .u8 0,.int .u8 0,.int .u8 0,.int .u8 0,.int .u8 0,.int .u8 0,.int .u8 0,.int .u8 0,.int .u8 0,.int .u8 0]
def aBy:List A:=[.int .u64 1,.int .u64 10,.int .u64 100,.int .u64 1000,.int .u64 10000,.int .u64 100000,.int .u64 1000000,.int .u64 10000000,.int .u64 100000000,.int .u64 1000000000,.int .u64 10000000000,.int .u64 100000000000,.int .u64 1000000000000,.int .u64 10000000000000,.int .u64 100000000000000,.int .u64 1000000000000000,.int .u64 10000000000000000,.int .u64 100000000000000000,.int .u64 1000000000000000000,.int .u64 10000000000000000000]
def glS:Nat->Option (List A)
 | 0=>some aBw
 | 3=>some aBy
 | _=>none
theorem aUx(a b e:TypeId)(h:cvS a b=some e):(TTc e).map (·.sz)=some (prog.cellsOf e):=by
 have m:=aDO.2.2.2.1;unfold cvS at h;split at h
 .cases h;rw[m];rfl
 .split at h
  .cases h;rw[m];rfl
  .cases h
theorem aUS(t e:TypeId)(h:usS t=some e):prog.underlying t=some (.pointer e)/\prog.cellsOf e=1:=by
 unfold usS at h;split at h
 .rename_i m;obtain rfl:=oH m;cases h;exact aDO.2.2.2.2
 .cases h
noncomputable def cx:Cx:={ P:=prog,det:=false,gl:=glS,tt:=TTc,htt:=aVL,cv:=cvS,hcv:=aUF,hcs:=aUx,cw:=cwS,hcw:=aUp,us:=usS,hus:=aUS,eq:=eqT [4] [(36,[0,2,0,0]),(104,[2,2]),(143,[2,2])] [24,69,71] [151],heq:=aU8 aNh,nl:=λt=>[24,69,71].elem t,hnl:=λt u a n cap w op x y m=>⟨a.isNone,aCo (by have h:=aNh;simp only[aEJ,cT,jF]at h;exact h.2.1 t (gQ u)) a n cap m x y⟩ }
@[go_sem] theorem aX4(t:TypeId):cx.nl t=[24,69,71].elem t:=rfl
@[go_sem] theorem aX6(t:TypeId)(a b:A):cx.eq t a b=eqT [4] [(36,[0,2,0,0]),(104,[2,2]),(143,[2,2])] [24,69,71] [151] t a b:=rfl
@[go_sem] theorem aXw(s:St)(n:Nat)(e:TypeId)(sz:Nat)(ys:List A)(KV:St->A->Prop):oC cx s n e sz ys KV=newT cx s n e ys KV:=rfl
noncomputable def nN:Cx:={ cx with mu:=1 }
@[go_sem] theorem aKU(s:St)(n:Nat)(e:TypeId)(sz:Nat)(ys:List A)(KV:St->A->Prop):oC nN s n e sz ys KV=(0<n/\aEH s n e sz (flat ys) KV):=rfl
@[go_sem] theorem aXS:nN.tt=cx.tt:=rfl
@[go_sem] theorem aXU:nN.eq=cx.eq:=rfl
@[go_sem] theorem aX8:cx.cw 187=some 154:=rfl
@[go_sem] theorem aXR:nN.cv=cx.cv:=rfl
@[go_sem] theorem aXP:nN.cw=cx.cw:=rfl
@[go_sem] theorem aXL:nN.us=cx.us:=rfl
@[go_sem] theorem aXs:nN.det=false:=rfl
@[go_sem] theorem aXM:nN.toCtx=cx.toCtx:=rfl
@[go_sem] theorem aXC:aCy cx=false:=rfl
@[go_sem] theorem aXl:aCy nN=false:=rfl
noncomputable def kQ:Cx:={ cx with mu:=2 }
@[go_sem] theorem aW2(s:St)(n:Nat)(e:TypeId)(sz:Nat)(ys:List A)(KV:St->A->Prop):oC kQ s n e sz ys KV=newT kQ s n e ys KV:=rfl
@[go_sem] theorem aXA:aCy kQ=true:=rfl
@[go_sem] theorem aXH:kQ.tt=cx.tt:=rfl
@[go_sem] theorem aXG:kQ.eq=cx.eq:=rfl
@[go_sem] theorem aXZ:kQ.cv=cx.cv:=rfl
@[go_sem] theorem aXX:kQ.cw=cx.cw:=rfl
@[go_sem] theorem aXF:kQ.us=cx.us:=rfl
@[go_sem] theorem aXy:kQ.det=false:=rfl
@[go_sem] theorem aXQ:kQ.toCtx=cx.toCtx:=rfl
attribute [go_sem] aBB
theorem aTw{f:FuncId}{l:List A}{KV Kp:St->A->Prop}{s:St}(h:Den kQ f l KV Kp s):Den cx f l KV Kp s:=by assumption
theorem aT7{f:FuncId}{l:List A}{KV Kp:St->A->Prop}{s:St}(h:Den nN f l KV Kp s):Den cx f l KV Kp s:=by assumption
theorem aSF:cx.P.follows .mixedOrders=true:=by decide +kernel
section
@[go_sem] theorem ty0:cx.tt 1=some y1/\cx.tt 2=some y2/\cx.tt 3=some y2/\cx.tt 4=some y3/\cx.tt 5=some y4/\cx.tt 6=some y4/\cx.tt 7=some y5/\cx.tt 8=some y5/\cx.tt 9=some y6/\cx.tt 10=some y6/\cx.tt 11=some y6/\cx.tt 12=some y7:=⟨rfl,rfl,rfl,rfl,rfl,rfl,rfl,rfl,rfl,rfl,rfl,rfl⟩
@[go_sem] theorem ty1:cx.tt 13=some y8/\cx.tt 14=some y8/\cx.tt 15=some y9/\cx.tt 16=some y9/\cx.tt 17=some y9/\cx.tt 18=some y10/\cx.tt 19=some y10/\cx.tt 20=some y11/\cx.tt 21=some y12/\cx.tt 22=some y1/\cx.tt 23=some y1/\cx.tt 24=some y13:=⟨rfl,rfl,rfl,rfl,rfl,rfl,rfl,rfl,rfl,rfl,rfl,rfl⟩
@[go_sem] theorem ty2:cx.tt 25=some y14/\cx.tt 26=some y15/\cx.tt 27=some y16/\cx.tt 28=some y16/\cx.tt 29=some y17/\cx.tt 30=some y18/\cx.tt 31=some y19/\cx.tt 32=some y20/\cx.tt 33=some y20/\cx.tt 34=some y2/\cx.tt 35=some y21/\cx.tt 36=some y21:=⟨rfl,rfl,rfl,rfl,rfl,rfl,rfl,rfl,rfl,rfl,rfl,rfl⟩
@[go_sem] theorem ty3:cx.tt 38=some y1/\cx.tt 39=some y1/\cx.tt 40=some y2/\cx.tt 41=some y22/\cx.tt 42=some y23/\cx.tt 43=some y23/\cx.tt 45=some y1/\cx.tt 46=some y1/\cx.tt 47=some y1/\cx.tt 48=some y1/\cx.tt 50=some y1/\cx.tt 52=some y1:=⟨rfl,rfl,rfl,rfl,rfl,rfl,rfl,rfl,rfl,rfl,rfl,rfl⟩
@[go_sem] theorem ty4:cx.tt 53=some y1/\cx.tt 54=some y1/\cx.tt 55=some y24/\cx.tt 57=some y1/\cx.tt 58=some y2/\cx.tt 59=some y25/\cx.tt 60=some y25/\cx.tt 61=some y1/\cx.tt 62=some y1/\cx.tt 63=some y1/\cx.tt 64=some y1/\cx.tt 65=some y1:=⟨rfl,rfl,rfl,rfl,rfl,rfl,rfl,rfl,rfl,rfl,rfl,rfl⟩
@[go_sem] theorem ty5:cx.tt 66=some y1/\cx.tt 67=some y26/\cx.tt 68=some y26/\cx.tt 69=some y27/\cx.tt 70=some y2/\cx.tt 71=some y28/\cx.tt 72=some y29/\cx.tt 73=some y29/\cx.tt 74=some y9/\cx.tt 76=some y1/\cx.tt 77=some y1/\cx.tt 78=some y1:=⟨rfl,rfl,rfl,rfl,rfl,rfl,rfl,rfl,rfl,rfl,rfl,rfl⟩
@[go_sem] theorem ty6:cx.tt 79=some y30/\cx.tt 80=some y30/\cx.tt 81=some y31/\cx.tt 82=some y32/\cx.tt 83=some y33/\cx.tt 84=some y33/\cx.tt 85=some y34/\cx.tt 86=some y34/\cx.tt 87=some y1/\cx.tt 88=some y9/\cx.tt 89=some y1/\cx.tt 90=some y35:=⟨rfl,rfl,rfl,rfl,rfl,rfl,rfl,rfl,rfl,rfl,rfl,rfl⟩
@[go_sem] theorem ty7:cx.tt 91=some y35/\cx.tt 92=some y1/\cx.tt 93=some y9/\cx.tt 94=some y36/\cx.tt 95=some y36/\cx.tt 97=some y1/\cx.tt 98=some y1/\cx.tt 99=some y1/\cx.tt 100=some y1/\cx.tt 101=some y1/\cx.tt 102=some y1/\cx.tt 103=some sE:=⟨rfl,rfl,rfl,rfl,rfl,rfl,rfl,rfl,rfl,rfl,rfl,rfl⟩
@[go_sem] theorem ty8:cx.tt 104=some sE/\cx.tt 105=some y1/\cx.tt 106=some y1/\cx.tt 107=some y1/\cx.tt 108=some y1/\cx.tt 109=some y1/\cx.tt 110=some y9/\cx.tt 112=some y1/\cx.tt 113=some y1/\cx.tt 114=some y1/\cx.tt 115=some y1/\cx.tt 116=some y1:=⟨rfl,rfl,rfl,rfl,rfl,rfl,rfl,rfl,rfl,rfl,rfl,rfl⟩
@[go_sem] theorem ty9:cx.tt 117=some y1/\cx.tt 118=some y1/\cx.tt 119=some y1/\cx.tt 120=some y1/\cx.tt 121=some y1/\cx.tt 122=some y1/\cx.tt 123=some y1/\cx.tt 124=some y1/\cx.tt 125=some y1/\cx.tt 126=some y1/\cx.tt 127=some y1/\cx.tt 128=some y1:=⟨rfl,rfl,rfl,rfl,rfl,rfl,rfl,rfl,rfl,rfl,rfl,rfl⟩
@[go_sem] theorem aX9:cx.tt 129=some y1/\cx.tt 130=some y1/\cx.tt 131=some y1/\cx.tt 132=some y1/\cx.tt 133=some y1/\cx.tt 134=some y1/\cx.tt 135=some y1/\cx.tt 136=some y9/\cx.tt 137=some y38/\cx.tt 138=some y38/\cx.tt 139=some y1/\cx.tt 140=some y39:=⟨rfl,rfl,rfl,rfl,rfl,rfl,rfl,rfl,rfl,rfl,rfl,rfl⟩
@[go_sem] theorem aYn:cx.tt 141=some y39/\cx.tt 142=some sE/\cx.tt 143=some sE/\cx.tt 144=some y1/\cx.tt 145=some y1/\cx.tt 146=some y40/\cx.tt 147=some y41/\cx.tt 148=some y42/\cx.tt 149=some y42/\cx.tt 150=some y1/\cx.tt 151=some y9/\cx.tt 152=some y43:=⟨rfl,rfl,rfl,rfl,rfl,rfl,rfl,rfl,rfl,rfl,rfl,rfl⟩
@[go_sem] theorem aYf:cx.tt 153=some y44/\cx.tt 154=some y44/\cx.tt 155=some y45/\cx.tt 156=some y45/\cx.tt 157=some y11/\cx.tt 158=some y11/\cx.tt 160=some y1/\cx.tt 161=some y1/\cx.tt 162=some y1/\cx.tt 164=some y1/\cx.tt 165=some y1/\cx.tt 166=some y1:=⟨rfl,rfl,rfl,rfl,rfl,rfl,rfl,rfl,rfl,rfl,rfl,rfl⟩
@[go_sem] theorem aYe:cx.tt 167=some y1/\cx.tt 168=some y1/\cx.tt 169=some y1/\cx.tt 170=some sE/\cx.tt 171=some sE/\cx.tt 172=some y1/\cx.tt 173=some y1/\cx.tt 174=some y1/\cx.tt 175=some y1/\cx.tt 176=some y1/\cx.tt 177=some y1/\cx.tt 178=some y1:=⟨rfl,rfl,rfl,rfl,rfl,rfl,rfl,rfl,rfl,rfl,rfl,rfl⟩
@[go_sem] theorem aYd:cx.tt 179=some y1/\cx.tt 180=some y1/\cx.tt 181=some y1/\cx.tt 182=some y1/\cx.tt 183=some y46/\cx.tt 184=some y46/\cx.tt 185=some y1/\cx.tt 186=some y47/\cx.tt 187=some y47/\cx.tt 188=some y1/\cx.tt 189=some y1/\cx.tt 190=some y1:=⟨rfl,rfl,rfl,rfl,rfl,rfl,rfl,rfl,rfl,rfl,rfl,rfl⟩
@[go_sem] theorem aYi:cx.tt 191=some y9/\cx.tt 192=some y48/\cx.tt 193=some y1/\cx.tt 194=some y1/\cx.tt 195=some y1/\cx.tt 196=some y1/\cx.tt 197=some y1/\cx.tt 198=some y1/\cx.tt 199=some y1/\cx.tt 200=some y1/\cx.tt 201=some y1/\cx.tt 202=some y1:=⟨rfl,rfl,rfl,rfl,rfl,rfl,rfl,rfl,rfl,rfl,rfl,rfl⟩
@[go_sem] theorem aYl:cx.tt 203=some y1/\cx.tt 204=some y1/\cx.tt 205=some y1/\cx.tt 206=some y1/\cx.tt 207=some y1/\cx.tt 208=some y1/\cx.tt 209=some y1/\cx.tt 210=some y9/\cx.tt 211=some y1/\cx.tt 212=some y1/\cx.tt 213=some y1/\cx.tt 214=some y1:=⟨rfl,rfl,rfl,rfl,rfl,rfl,rfl,rfl,rfl,rfl,rfl,rfl⟩
@[go_sem] theorem aYm:cx.tt 215=some y1/\cx.tt 216=some y1/\cx.tt 217=some y1/\cx.tt 218=some y1/\cx.tt 219=some y1/\cx.tt 220=some y1/\cx.tt 221=some y9/\cx.tt 222=some y9/\cx.tt 223=some y1/\cx.tt 224=some y9/\cx.tt 225=some y49/\cx.tt 226=some y49:=⟨rfl,rfl,rfl,rfl,rfl,rfl,rfl,rfl,rfl,rfl,rfl,rfl⟩
@[go_sem] theorem aYk:cx.tt 227=some y1/\cx.tt 228=some y1/\cx.tt 229=some y1/\cx.tt 230=some y9/\cx.tt 231=some y1/\cx.tt 232=some y1/\cx.tt 233=some y9/\cx.tt 234=some y1/\cx.tt 235=some y1/\cx.tt 236=some y1/\cx.tt 237=some y1/\cx.tt 238=some y1:=⟨rfl,rfl,rfl,rfl,rfl,rfl,rfl,rfl,rfl,rfl,rfl,rfl⟩
@[go_sem] theorem aYq:cx.tt 239=some y1/\cx.tt 240=some y1/\cx.tt 241=some y1/\cx.tt 242=some y1/\cx.tt 243=some y1/\cx.tt 244=some y1/\cx.tt 245=some y1/\cx.tt 246=some y1/\cx.tt 247=some y1/\cx.tt 248=some y50/\cx.tt 249=some y1/\cx.tt 250=some y1:=⟨rfl,rfl,rfl,rfl,rfl,rfl,rfl,rfl,rfl,rfl,rfl,rfl⟩
@[go_sem] theorem aYb:cx.tt 251=some y1/\cx.tt 252=some y1/\cx.tt 253=some y9/\cx.tt 254=some y1/\cx.tt 256=some y1/\cx.tt 257=some y1/\cx.tt 258=some y1/\cx.tt 259=some y1/\cx.tt 260=some y1/\cx.tt 261=some y1/\cx.tt 262=some y1/\cx.tt 264=some y1:=⟨rfl,rfl,rfl,rfl,rfl,rfl,rfl,rfl,rfl,rfl,rfl,rfl⟩
@[go_sem] theorem aYh:cx.tt 265=some y1/\cx.tt 266=some y1/\cx.tt 267=some y1/\cx.tt 268=some y52/\cx.tt 269=some y1/\cx.tt 270=some y1/\cx.tt 271=some y1/\cx.tt 272=some y1/\cx.tt 273=some y1/\cx.tt 274=some y53/\cx.tt 275=some y54/\cx.tt 276=some y54:=⟨rfl,rfl,rfl,rfl,rfl,rfl,rfl,rfl,rfl,rfl,rfl,rfl⟩
@[go_sem] theorem aYa:cx.tt 277=some y55/\cx.tt 278=some y1/\cx.tt 279=some y9/\cx.tt 280=some y1/\cx.tt 281=some y1/\cx.tt 282=some y7/\cx.tt 283=some y56/\cx.tt 284=some y7/\cx.tt 285=some y1/\cx.tt 286=some y1/\cx.tt 288=some y1/\cx.tt 289=some y57:=⟨rfl,rfl,rfl,rfl,rfl,rfl,rfl,rfl,rfl,rfl,rfl,rfl⟩
@[go_sem] theorem aYj:cx.tt 290=some y58/\cx.tt 291=some y59/\cx.tt 292=some y59/\cx.tt 293=some y60/\cx.tt 294=some y61/\cx.tt 295=some y61/\cx.tt 296=some y1/\cx.tt 297=some y62/\cx.tt 298=some y62/\cx.tt 299=some y1/\cx.tt 301=some y1/\cx.tt 302=some y1:=⟨rfl,rfl,rfl,rfl,rfl,rfl,rfl,rfl,rfl,rfl,rfl,rfl⟩
@[go_sem] theorem aYg:cx.tt 303=some y63/\cx.tt 305=some y1/\cx.tt 306=some y9/\cx.tt 307=some y9/\cx.tt 308=some y1/\cx.tt 312=some y1/\cx.tt 313=some y1/\cx.tt 314=some y9/\cx.tt 315=some y1/\cx.tt 316=some y1/\cx.tt 318=some y1/\cx.tt 319=some y1:=⟨rfl,rfl,rfl,rfl,rfl,rfl,rfl,rfl,rfl,rfl,rfl,rfl⟩
@[go_sem] theorem aYp:cx.tt 320=some y2/\cx.tt 322=some y1/\cx.tt 323=some y9/\cx.tt 324=some y1/\cx.tt 325=some y1/\cx.tt 326=some y64/\cx.tt 328=some y1/\cx.tt 330=some y1/\cx.tt 331=some y65/\cx.tt 332=some y65/\cx.tt 333=some y1/\cx.tt 334=some y66:=⟨rfl,rfl,rfl,rfl,rfl,rfl,rfl,rfl,rfl,rfl,rfl,rfl⟩
@[go_sem] theorem aYo:cx.tt 335=some y66/\cx.tt 336=some y67/\cx.tt 337=some y1/\cx.tt 338=some y9/\cx.tt 339=some y68/\cx.tt 340=some y68/\cx.tt 341=some y69/\cx.tt 342=some y69/\cx.tt 343=some y70/\cx.tt 346=some y4/\cx.tt 347=some y4/\cx.tt 348=some y1:=⟨rfl,rfl,rfl,rfl,rfl,rfl,rfl,rfl,rfl,rfl,rfl,rfl⟩
@[go_sem] theorem aYc:cx.tt 349=some y12/\cx.tt 350=some y12/\cx.tt 351=some y71/\cx.tt 352=some y71:=⟨rfl,rfl,rfl,rfl⟩
end
end Go.AV
