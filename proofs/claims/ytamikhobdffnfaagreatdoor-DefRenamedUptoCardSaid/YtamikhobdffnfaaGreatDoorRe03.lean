/-
  Of DefRenamed.
-/
import Derived.Test.YtamikhobdffnfaaGreatDoorRe02
import Derived.Laws.Cover3
import Derived.LaidEqlPtr
import Derived.Laws.StructEq
import Derived.Laws.Pointers
import Derived.Recover
import Derived.Test.YtamikhobdffnfaaGreatDoorProg
import Derived.KernelRfl
import Derived.Lib.Builder
set_option linter.all false
set_option maxRecDepth 99999
set_option maxHeartbeats 0
namespace Go.AV
open Go Go.Proofs Tryz
section
def jZ:Op->Bool
 | .store ..=>true
 | .alloc _=>true
 | .box ..=>true
 | .panic _=>true
 | .range ..=>true
 | .makeSlice ..=>true
 | .next ..=>true
 | .call c=>match c.callee with
  | .builtin .len=>false
  | .builtin .max=>false
  | .builtin .min=>false
  | _=>true
 | _=>false
def kA(C:Cx)(ds:List (Option Tmp))(o:Oper)(KV Kp:St->A->Prop)(e:Env)(s:St):Prop :=
  match o.guard with
  | none=>bF C o.op (eT C e) KV Kp s
  | some (j,want)=>∃t,lX ds j=some t /\
      ((∃ b,e.get t = some (.bool b) ∧ ((b = want ∧ bF C o.op (eT C e) KV Kp s) ∨ (b ≠ want ∧ KV s (.tuple [])))) ∨
       (∃l,e.get t=some (.tuple l)/\KV s (.tuple [])))
inductive Bef (ops:Array Oper):Nat->Nat->Prop
 | edge {j:Nat} {o:Oper} {e:Edge} (ho:ops[j]?=some o) (he:e∈o.after) (hb:Region.binds .any e=true):Bef ops e.on j
 | step {m j:Nat} {o:Oper} {e:Edge} (ho:ops[j]?=some o) (he:e∈o.after) (hb:Region.binds .any e=true) (h:Bef ops m e.on):Bef ops m j
def DC(ops:Array Oper)(l:Array Bool):Prop :=
 ∀j o,ops[j]?=some o->l.getD j false=true->∀e,e∈o.after->Region.binds .any e=true->l.getD e.on false=true
def Dead(ops:Array Oper)(m:Nat)(l:Array Bool):Prop :=
 ∃j o,ops[j]?=some o/\jZ o.op=true/\l.getD j false=true/\Bef ops m j
def pV(ops:Array Oper)(W:List (Nat × (St->Prop)))(l:Array Bool)(s:St):Prop:=∀w,w∈W->¬ Dead ops w.1 l->w.2 s
def rF(o:Oper)(m:Nat):Bool:=o.after.toList.any λe=>Region.binds .any e&&Nat.beq e.on m
def late(ops:Array Oper)(i:Nat):Bool:=match ops[i]? with
 | some o=>match o.op,o.dst,o.guard with
  | .alloc _,some d,none=>(o.after.toList.all λe=>!Region.binds .any e) &&
    (List.range ops.size).all fun j => match ops[j]? with
     | some o'=>(Nat.beq j i||!(o'.dst == some d))&&(Nat.beq j i||!(o'.looksAt ops).elem d||rF o' i)&&(!rF o' i||(List.range ops.size).all λm=>Nat.beq m j||rF o' m)
     | none=>true
  | _,_,_=>false
 | none=>false
def oK(ops:Array Oper)(l:Array Bool):List Nat :=
 if(Region.ready .any ops l).all (late ops) then Region.ready .any ops l else(Region.ready .any ops l).filter λi=>!late ops i
theorem yZ{ops:Array Oper}{l:Array Bool}{i:Nat}(h:i∈oK ops l):i∈Region.ready .any ops l:=by
 unfold oK at h;split at h
 .exact h
 .exact(List.mem_filter.1 h).1
theorem aB9{ops:Array Oper}{l:Array Bool}{i:Nat}(h:i∈Region.ready .any ops l)(hi:late ops i=false):i∈oK ops l:=by
 unfold oK;split
 .exact h
 .exact List.mem_filter.2 ⟨h,by simp[hi]⟩
theorem aHl{ops:Array Oper}{l:Array Bool}{i j:Nat}(h:j∈oK ops l)(hi:i∈Region.ready .any ops l)(hl:late ops i=false):late ops j=false:=by
 unfold oK at h;split at h
 .rename_i ha;rw[iH]at ha;have:=ha i hi;rw[hl]at this;cases this
 .have:=(List.mem_filter.1 h).2;simpa using this
theorem aOF{ops:Array Oper}{i:Nat}{o:Oper}(ho:ops[i]?=some o)(h:late ops i=true):jZ o.op=true:=by
 unfold late at h;rw[ho]at h;simp only at h;split at h
 .rename_i e1 _ _;rw[e1];rfl
 .cases h
def gP(C:Cx)(n:Nat)(ops:Array Oper)(K:Env->St->Prop)(Kp:St->A->Prop)(W:List (Nat × (St->Prop))):Nat->Array Bool->Env->St->Prop
 | 0,l,e,s=>pV ops W l s/\Region.ready .any ops l=[]/\K e s
 | f+1,l,e,s=>pV ops W l s/\(Region.ready .any ops l=[]->K e s)/\∀i,i∈oK ops l->∀o,ops[i]?=some o ->
   kA C (ops.toList.map (·.dst)) o (cQ n o.dst (gP C n ops K Kp W f (l.setIfInBounds i true)) e) Kp e s
section
variable {C:Cx} {n:Nat} {ops:Array Oper} {K:Env->St->Prop} {Kp:St->A->Prop} {W:List (Nat × (St->Prop))} {s:St}
theorem aKe{f:Nat}{l:Array Bool}{e:Env}(h:gP C n ops K Kp W f l e s):pV ops W l s:=by
 cases f with
 | zero=>exact h.1
 | succ f=>exact h.1
theorem zB{ds:List (Option Tmp)}{o:Oper}{KV KV':St->A->Prop}{e:Env}(h:kA C ds o KV Kp e s)(hk:∀s v,KV s v->KV' s v):kA C ds o KV' Kp e s:=by
 unfold kA at *;split
 .rename_i hg;simp only[hg]at h;exact aCF h hk λ_ _ h=>h
 .rename_i j want hg;simp only[hg]at h;obtain⟨t,ht,h⟩:=h;refine⟨t,ht,?_⟩;rcases h with⟨b,hb,h|h⟩|⟨l,hl,h⟩
  .exact .inl ⟨b,hb,.inl ⟨h.1,aCF h.2 hk λ_ _ h=>h⟩⟩
  .exact .inl ⟨b,hb,.inr ⟨h.1,hk _ _ h.2⟩⟩
  .exact .inr ⟨l,hl,hk _ _ h⟩
theorem aPV{o:Oper}{e e':Env}(he:∀t,t∈o.looksAt ops->e.get t=e'.get t)(x:Operand)(hx:x∈o.op.operands):eT C e x=eT C e' x:=by
 cases x with
 | tmp t =>
  have:=he t (List.mem_append_left _ (List.mem_filterMap.2 ⟨.tmp t,by simpa using hx,rfl⟩));simpa [eT]using this
 | _=>rfl
theorem aBX{o:Oper}{KV:St->A->Prop}{e e':Env}(he:∀t,t∈o.looksAt ops->e.get t=e'.get t)
  (h:kA C (ops.toList.map (·.dst)) o KV Kp e s):kA C (ops.toList.map (·.dst)) o KV Kp e' s:=by
 have hop:=aPV (C:=C) he;unfold kA at *;split
 .rename_i hg;simp only[hg]at h;exact aIR hop h
 .rename_i j want hg;simp only[hg]at h;obtain⟨t,ht,h⟩:=h
  have htl:e.get t=e'.get t:=he t (by
   rw[aFy]at ht;simp[Oper.looksAt,hg,ht])
  refine⟨t,ht,?_⟩;rw[<-htl];rcases h with⟨b,hb,h|h⟩|⟨l,hl,h⟩
  .exact .inl ⟨b,hb,.inl ⟨h.1,aIR hop h.2⟩⟩
  .exact .inl ⟨b,hb,.inr h⟩
  .exact .inr ⟨l,hl,h⟩
theorem xU(hK:∀e e' s,(∀t,e.get t=e'.get t)->K e s->K e' s):∀(f:Nat) (l:Array Bool) (e e':Env) (s:St),(∀t,e.get t=e'.get t) ->
  gP C n ops K Kp W f l e s->gP C n ops K Kp W f l e' s
 | 0,l,e,e',s,he,h=>⟨h.1,h.2.1,hK _ _ _ he h.2.2⟩
 | f+1,l,e,e',s,he,h=>by
  refine⟨h.1,λhr=>hK _ _ _ he (h.2.1 hr),λi hi o ho=>?_⟩;refine zB (aBX (λt _=>he t) (h.2.2 i hi o ho)) λs' v hv=>?_
  unfold cQ at *;cases hd:o.dst with
  | none=>rw[hd]at hv;exact xU hK f _ e e' s' he hv
  | some d =>
   rw[hd]at hv;refine⟨hv.1,xU hK f _ _ _ s' (λt=>?_) hv.2⟩;rw[mS,mS];split<;>simp[he]
theorem vJ{l:Array Bool}{i:Nat}(h:l.getD i true=false):i<l.size/\l.getD i false=false:=by
 rcases aHk i l.size with h'|h'
 .exact⟨h',by simp[h']at h⊢;exact h⟩
 .simp[Array.getElem?_eq_none h']at h
theorem Bef.listed{l:Array Bool}(hdc:DC ops l){m j:Nat}(h:Bef ops m j):l.getD j false=true->l.getD m false=true:=by
 induction h with
 | edge ho he hb=>intro hj;exact hdc _ _ ho hj _ he hb
 | step ho he hb _ ih=>intro hj;exact ih (hdc _ _ ho hj _ he hb)
theorem Bef.ready{l:Array Bool}(hdc:DC ops l){m j:Nat}(h:Bef ops m j)(hj:j∈Region.ready .any ops l):l.getD m false=true:=by
 obtain⟨_,o',ho',hall⟩:=mem_ready.1 hj;cases h with
 | edge ho he hb=>rw[ho']at ho;cases ho;exact hall _ he hb
 | step ho he hb h=>rw[ho']at ho;cases ho;exact h.listed hdc (hall _ he hb)
theorem DC.set{l:Array Bool}(hdc:DC ops l){j:Nat}(hj:j∈Region.ready .any ops l):DC ops (l.setIfInBounds j true):=by
 intro k o ho hk e he hb;obtain⟨h0,o',ho',hall⟩:=mem_ready.1 hj;refine getD_set_true ?_;by_cases hkj:j=k
 .subst hkj;rw[ho']at ho;cases ho;exact hall e he hb
 .rw[getD_set_ne false hkj]at hk;exact hdc k o ho hk e he hb
theorem aQL{i:Nat}{oi:Oper}(hi:ops[i]?=some oi)(heff:jZ oi.op=false)(hK:∀e e' s,(∀t,e.get t=e'.get t)->K e s->K e' s)
  (v:A)(p:St->Prop):∀(f:Nat) (l:Array Bool) (e:Env) (s:St),DC ops l ->
  (∀j oj,ops[j]?=some oj->j≠i->l.getD j true=false->(∀e∈oj.after,Region.binds .any e=true->e.on≠i)->oi.apart ops oj=true) ->
  i∈Region.ready .any ops l->(∀s' KV,p s'->KV s' v->kA C (ops.toList.map (·.dst)) oi KV Kp e s')->p s->pV ops W l s ->
  cQ n oi.dst (gP C n ops K Kp ((i,p)::W) f (l.setIfInBounds i true)) e s v->gP C n ops K Kp W (f+1) l e s:=by
 have hli:late ops i=false:=by
  cases hl:late ops i with
  | false=>rfl
  | true=>have:=aOF hi hl;rw[heff]at this;cases this
 have drop:∀(f:Nat) (l:Array Bool) (e:Env) (s:St),gP C n ops K Kp ((i,p)::W) f l e s->gP C n ops K Kp W f l e s:=by
  intro f
  induction f with
  | zero=>intro l e s h;exact⟨λw hw=>h.1 w (cT _ hw),h.2⟩
  | succ f ih =>
   intro l e s h;refine⟨λw hw=>h.1 w (cT _ hw),h.2.1,λj hj o ho=>zB (h.2.2 j hj o ho) λs' v hv=>?_⟩;unfold cQ at *;cases hd:o.dst with
   | none=>rw[hd]at hv;exact ih _ _ _ hv
   | some d=>rw[hd]at hv;exact⟨hv.1,ih _ _ _ hv.2⟩
 have dead:∀(l:Array Bool) (m:Nat),Dead ops m (l.setIfInBounds i true)->Dead ops m l:=by
  rintro l m ⟨j,o,ho,he,hl,hb⟩;refine⟨j,o,ho,he,?_,hb⟩;by_cases hij:i=j
  .subst hij;rw[hi]at ho;cases ho;rw[heff]at he;cases he
  ·rwa[getD_set_ne false hij]at hl
 have self:∀(f:Nat) (l:Array Bool) (e:Env) (s:St),(∀s' KV,p s'->KV s' v->kA C (ops.toList.map (·.dst)) oi KV Kp e s')->p s ->
   cQ n oi.dst (gP C n ops K Kp ((i,p)::W) f (l.setIfInBounds i true)) e s v ->
   ∀o,ops[i]?=some o->kA C (ops.toList.map (·.dst)) o (cQ n o.dst (gP C n ops K Kp W f (l.setIfInBounds i true)) e) Kp e s:=by
  intro f l e s hy hp H o ho;rw[hi]at ho;cases ho;refine hy s _ hp ?_;unfold cQ at *;cases hd:oi.dst with
  | none=>rw[hd]at H;exact drop _ _ _ _ H
  | some d=>rw[hd]at H;exact⟨H.1,drop _ _ _ _ H.2⟩
 intro f
 induction f with
 | zero =>
  intro l e s hdc _ hr hy hp hc H;refine⟨hc,λh=>(by rw[h]at hr;cases hr),λj hjz o ho=>?_⟩;have hj:=yZ hjz;have hjl:=aHl hjz hr hli;by_cases hji:j=i
  .subst hji;exact self 0 l e s hy hp H o ho
  .have hj':=ready_mono hj hji
   have hnil:Region.ready .any ops (l.setIfInBounds i true)=[]:=by
    unfold cQ at H;cases hd:oi.dst with
    | none=>rw[hd]at H;exact H.2.1
    | some d=>rw[hd]at H;exact H.2.2.1
   rw[hnil]at hj';cases hj'
 | succ f ih =>
  intro l e s hdc hfree hr hy hp hc H;refine⟨hc,λh=>(by rw[h]at hr;cases hr),λj hjz oj hoj=>?_⟩;have hj:=yZ hjz;have hjl:=aHl hjz hr hli;by_cases hji:j=i
  .subst hji;exact self _ l e s hy hp H oj hoj
  .obtain⟨hjun,oj',hoj',hall⟩:=mem_ready.1 hj;rw[hoj]at hoj';cases hoj';have hi0:=vJ (mem_ready.1 hr).1
   have hnot:∀e∈oj.after,Region.binds .any e=true->e.on≠i:=λe he hb heq=>by
    have h1:=hall e he hb;rw[heq,hi0.2]at h1;cases h1
   have hap:=hfree j oj hoj hji hjun hnot;obtain⟨a1,a2,a3⟩:=Oper.apart_spec hap
   have hfree':∀k ok,ops[k]?=some ok->k≠i->(l.setIfInBounds j true).getD k true=false ->
     (∀e∈ok.after,Region.binds .any e=true->e.on≠i)->oi.apart ops ok=true:=λk ok hk hki hun hno=>by
    refine hfree k ok hk hki ?_ hno;by_cases hjk:j=k
    .subst hjk;exact hjun
    .rw[getD_set_ne true hjk]at hun;exact hun
   have hji':¬ i=j:=λh=>hji h.symm
   have live:¬ Dead ops i ((l.setIfInBounds j true).setIfInBounds i true):=by
    intro hd;obtain⟨k,o,ho,he,hl,hb⟩:=dead _ _ hd;by_cases hjk:j=k
    .subst hjk;have:=hb.ready hdc hj;rw[hi0.2]at this;cases this
    .rw[getD_set_ne false hjk]at hl;have:=hb.listed hdc hl;rw[hi0.2]at this;cases this
   have hcomm:(l.setIfInBounds i true).setIfInBounds j true=(l.setIfInBounds j true).setIfInBounds i true:=Array.setIfInBounds_comm _ _ hji'
   have after:∀(e':Env) (s':St),(∀t,t∈oi.looksAt ops->e.get t=e'.get t) ->
     cQ n oi.dst (gP C n ops K Kp ((i,p)::W) f ((l.setIfInBounds j true).setIfInBounds i true)) e' s' v ->
     gP C n ops K Kp W (f+1) (l.setIfInBounds j true) e' s':=by
    intro e' s' he' H'
    have hchk:pV ops ((i,p)::W) ((l.setIfInBounds j true).setIfInBounds i true) s':=by
     unfold cQ at H';cases hd:oi.dst with
     | none=>rw[hd]at H';exact aKe H'
     | some d=>rw[hd]at H';exact aKe H'.2
    refine ih (l.setIfInBounds j true) e' s' (hdc.set hj) hfree' (ready_mono hr hji') (λs2 KV h1 h2=>aBX he' (hy s2 KV h1 h2)) ?_ ?_ H'
    .exact hchk _ (bY ..) live
    ·exactλw hw hl=>hchk w (cT _ hw) λhd=>hl (dead _ _ hd)
   unfold cQ at H;cases hd:oi.dst with
   | none =>
    rw[hd]at H;have h1:=H.2.2 j (aB9 (ready_mono hj hji) hjl) oj hoj;refine zB h1 λs' u hu=>?_
    rw[hcomm]at hu;unfold cQ at *;cases hdj:oj.dst with
    | none=>rw[hdj]at hu;exact after e s' (λ_ _=>rfl) (by rw[hd];exact hu)
    | some dj =>
     rw[hdj]at hu;refine⟨hu.1,after (e.put dj u) s' (λt ht=>?_) (by rw[hd];exact hu.2)⟩;rw[mS,if_neg (λh:dj=t=>a3 dj hdj (by rw[h];exact ht))]
   | some d =>
    rw[hd]at H;have h1:=H.2.2.2 j (aB9 (ready_mono hj hji) hjl) oj hoj;have h2:=aBX (e':=e) (λt ht=>by rw[mS,if_neg (λh:d=t=>a1 d hd (by rw[h];exact ht))]) h1;refine zB h2 λs' u hu=>?_
    rw[hcomm]at hu;unfold cQ at *;cases hdj:oj.dst with
    | none=>rw[hdj]at hu;exact after e s' (λ_ _=>rfl) (by rw[hd];exact⟨H.1,hu⟩)
    | some dj =>
     rw[hdj]at hu
     refine⟨hu.1,after (e.put dj u) s' (λt ht=>?_) (by
      rw[hd];refine⟨H.1,xU hK _ _ _ _ _ (λt=>?_) hu.2⟩;have hne:¬ d=dj:=λh:d=dj=>a2 d hd (by rw[h];exact hdj)
      simp only[mS];by_cases h1:dj=t
      .subst h1;simp[hne]
      .simp[h1])⟩
     rw[mS,if_neg (λh:dj=t=>a3 dj hdj (by rw[h];exact ht))]
end
end
section
section
variable {C:Cx} {F:Fr} {g g0:Gh} {s:St} {w:World} {n:Nat} {ops:Array Oper} {K:Env->St->Prop} {Kp:St->A->Prop} {W:List (Nat × (St->Prop))}
theorem yY{o:Oper}{m:Nat}:rF o m=true↔∃e,e∈o.after/\Region.binds .any e=true/\e.on=m:=by
 simp only[rF,List.any_eq_true,cL,Array.mem_toList_iff];constructor
 .rintro⟨e,h1,h2,h3⟩;exact⟨e,h1,h2,nI h3⟩
 .rintro⟨e,h1,h2,rfl⟩;exact⟨e,h1,h2,Nat.beq_refl _⟩
theorem wX{i:Nat}(h:late ops i=true):∃d t ty pos after,ops[i]?=some ⟨some d,.alloc t,ty,pos,after,none⟩/\(∀e,e∈after->Region.binds .any e=false) /\
  ∀j o',ops[j]?=some o'->j≠i->o'.dst≠some d/\(d∈o'.looksAt ops->rF o' i=true)/\(rF o' i=true->∀m,m<ops.size->m≠j->rF o' m=true):=by
 unfold late at h;cases ho:ops[i]? with
 | none=>rw[ho]at h;cases h
 | some o =>
  rw[ho]at h;obtain⟨dst,op,ty,pos,after,gd⟩:=o;simp only at h;split at h
  .rename_i _ _ _ t d;simp only[cL,iH,uS,Array.mem_toList_iff,oG]at h;refine⟨d,t,ty,pos,after,rfl,h.1,λj o' hj hne=>?_⟩;have h2:=h.2 j (jA.1 hj).1;rw[hj]at h2;simp only[cL,qB,oG,aAJ,ne_eq,iH,uS]at h2;obtain⟨⟨h3,h4⟩,h5⟩:=h2
   have hb:Nat.beq j i=false:=by
    cases hb:Nat.beq j i with
    | false=>rfl
    | true=>exact absurd (nI hb) hne
   refine⟨?_,λhl=>?_,λhbi m hm hmj=>?_⟩
   .rcases h3 with h3|h3
    .rw[hb]at h3;cases h3
    .exact h3
   .rcases h4 with(h4|h4)|h4
    .rw[hb]at h4;cases h4
    .have:(o'.looksAt ops).elem d=true:=List.elem_eq_true_of_mem hl;rw[this]at h4;cases h4
    .exact h4
   .rcases h5 with h5|h5
    .rw[hbi]at h5;cases h5
    .rcases h5 m hm with h6|h6
     .exact absurd (nI h6) hmj
     .exact h6
  .cases h
def Pend(C:Cx)(n:Nat)(ops:Array Oper)(F:Fr):List (Nat × Nat)->Fr->Array Value->Prop
 | [],F',_=>F'=F
 | (i,k)::P,F',tmps=>∃F1 d t ty pos after ti z,Pend C n ops F P F1 tmps/\ops[i]?=some ⟨some d,.alloc t,ty,pos,after,none⟩/\late ops i=true/\C.tt t=some ti /\
   (∀g,Rzs g ti.zero (Value.cells z).toList)/\(d<n->tmps[d]?=some (.pointer (some ⟨k,0,none⟩)))/\F1 k=none/\F'=(λj=>if j=k then some (.cells z.cells t,none) else F1 j)
theorem Pend.subP:∀{P:List (Nat × Nat)} {F':Fr} {tmps:Array Value},Pend C n ops F P F' tmps->∀k o p,F' k=some (o,some p)->F k=some (o,some p)
 | [],F',tmps,h,k,o,p,hk=>by rw[show F'=F from h]at hk;exact hk
 | (i,q)::P,F',tmps,h,k,o,p,hk=>by
  obtain⟨F1,d,t,ty,pos,after,ti,z,h1,_,_,_,_,_,h7,rfl⟩:=h;refine h1.subP k o p ?_;by_cases hkq:k=q
  .simp[hkq]at hk
  .simpa only[hkq,↓reduceIte]using hk
theorem Pend.sub:∀{P:List (Nat × Nat)} {F':Fr} {tmps:Array Value},Pend C n ops F P F' tmps->∀k o,F k=some o->F' k=some o
 | [],F',tmps,h,k,o,hk=>by rw[show F'=F from h];exact hk
 | (i,q)::P,F',tmps,h,k,o,hk=>by
  obtain⟨F1,d,t,ty,pos,after,ti,z,h1,_,_,_,_,_,h7,rfl⟩:=h;have:=h1.sub k o hk;have hne:k≠q:=by rintro rfl;rw[h7]at this;cases this
  simp only[hne,↓reduceIte];exact this
theorem Pend.put{a:Act}{j:Nat}{o:Oper}{v:Value}(ho:ops[j]?=some o):∀{P:List (Nat × Nat)} {F':Fr},(∀p,p∈P->p.1≠j)->Pend C n ops F P F' a.tmps->Pend C n ops F P F' (a.put o.dst v).tmps
 | [],F',_,h=>h
 | (i,q)::P,F',hj,h=>by
  obtain⟨F1,d,t,ty,pos,after,ti,z,h1,h2,h3,h4,h5,h6,h7,h8⟩:=h;refine⟨F1,d,t,ty,pos,after,ti,z,h1.put ho (λp hp=>hj p (by simp[hp])),h2,h3,h4,h5,λhd=>?_,h7,h8⟩;obtain⟨d',t',ty',pos',after',e1,_,e3⟩:=wX h3;rw[h2]at e1;cases e1;have hne:=(e3 j o ho (λe=>hj (i,q) bD e.symm)).1;cases hd':o.dst with
  | none=>exact h6 hd
  | some d2 =>
   have:d2≠d:=by rintro rfl;exact hne hd'
   show(a.tmps.setIfInBounds d2 v)[d]?=_;rw[aBF this];exact h6 hd
theorem Pend.late:∀{P:List (Nat × Nat)} {F':Fr} {tmps:Array Value},Pend C n ops F P F' tmps->∀p,p∈P->late ops p.1=true
 | [],_,_,_,p,hp=>by cases hp
 | (i,k)::P,F',tmps,h,p,hp=>by
  obtain⟨F1,d,t,ty,pos,after,ti,z,h1,h2,h3,_⟩:=h;cases hp with
  | head=>exact h3
  | tail _ hp=>exact h1.late p hp
def iZ(ops:Array Oper)(P:List (Nat × Nat)):List (Option Tmp):=P.map λp=>(ops[p.1]?).bind (·.dst)
def gT(P:List (Nat × Nat))(l:Array Bool):Array Bool:=P.foldr (λp l=>l.setIfInBounds p.1 true) l
theorem aAX{m:Nat}(d:Bool):∀(P:List (Nat × Nat)) (l:Array Bool),(∀p,p∈P->p.1≠m)->(gT P l).getD m d=l.getD m d
 | [],l,_=>rfl
 | p::P,l,h=>by
  simp only[gT,List.foldr_cons];rw[getD_set_ne d (h p bD)];exact aAX d P l λq hq=>h q (by simp[hq])
theorem aId{m:Nat}:∀(P:List (Nat × Nat)) (l:Array Bool),l.getD m false=true->(gT P l).getD m false=true
 | [],l,h=>h
 | p::P,l,h=>by
  simp only[gT,List.foldr_cons];exact getD_set_true (aId P l h)
theorem aFC{i:Nat}:∀(P:List (Nat × Nat)) (l:Array Bool),(∀p,p∈P->p.1≠i)->(gT P l).setIfInBounds i true=gT P (l.setIfInBounds i true)
 | [],l,_=>rfl
 | p::P,l,h=>by
  have hp:=h p bD;simp only[gT,List.foldr_cons];rw[Array.setIfInBounds_comm _ _ hp];have:=aFC (i:=i) P l λq hq=>h q (by simp[hq])
  simp only[gT]at this;rw[this]
def tB(l:Array Bool):Nat:=l.toList.count false
theorem aKt{l:Array Bool}{i:Nat}(h:l.getD i true=false):tB (l.setIfInBounds i true)+1=tB l:=by
 obtain⟨l⟩:=l
 have key:∀(l:List Bool) (i:Nat),l[i]?=some false->(l.set i true).count false+1=l.count false:=by
  intro l
  induction l with
  | nil=>intro i h;simp at h
  | cons x r ih =>
   intro i h;cases i with
   | zero=>simp only[kM,bJ]at h;subst h;simp
   | succ i =>
    have:=ih i (by simpa using h);simp only[uQ,List.count_cons];omega
 have hl:l[i]?=some false:=by
  cases hx:l[i]? with
  | none=>simp[hx]at h
  | some b=>simp[hx]at h;rw[h]
 simpa [tB]using key l i hl
theorem aRa{l:Array Bool}(h:tB l=0):Region.ready .any ops l=[]:=by
 rw[List.eq_nil_iff_forall_not_mem];intro i hi;have:=aKt (mem_ready.1 hi).1;omega
theorem EnvOk.at{g:Gh}{n:Nat}{e:Env}{tmps:Array Value}{d:Nat}{x:A}{v:Value}(h:EnvOk g n e tmps)(hd:tmps[d]?=some v)(hv:Rz g x v):EnvOk g n (e.put d x) tmps:=by
 refine⟨h.size,λt y hy=>?_⟩;rw[mS]at hy;by_cases ht:d=t
 .subst ht;simp only[↓reduceIte,bJ]at hy;subst hy;exact⟨v,hd,hv⟩
 .simp only[ht,↓reduceIte]at hy;exact h.val t y hy
theorem R.adopt{F1:Fr}{k b:Nat}{o:Obj}{ob:Ob}(h:R C.toCtx (λj=>if j=k then some (o,none) else F1 j) g s w)(hF:F1 k=none)(ho:ObRz g ob (some o))(hb:g.beta b=none){s':St}
  (hO:∀q,s'.getO q=if b=q then some ob else s.getO q)(hT:∀q,s'.getT q=s.getT q)(hL:s'.ls=s.ls)(hl:C.det=true->s.lim<=s'.lim/\b<s'.lim) :
  R C.toCtx F1 (g.bx b k) s' w:=by
 have hle:=zO hb k;have hk:=h.frm k (o,none) bD
 have hne:∀c q,g.beta c=some q->q≠k:=by
  rintro c q hc rfl;have:=h.bfr c q hc;simp at this
 have h':=h.unframe (F0:=F1) λq x hq=>by
  have:q≠k:=by rintro rfl;rw[hF]at hq;cases hq
  simp only[this,↓reduceIte];exact hq
 have h':=h' λq x p hq=>by
  by_cases hqk:q=k
  .simp[hqk]at hq
  .simpa only[hqk,↓reduceIte]using hq
 refine⟨λc x hx=>?_,?_,?_,h'.pis,h'.frm,λc cs hc=>?_,?_,?_,?_,λhd c hc=>?_,λx hx=>(h.lst x (by rw[<-hL];exact hx)).mono hle,λc q hc=>?_,h.env⟩
 .rw[hO]at hx;by_cases hbc:b=c
  .subst hbc;simp only[↓reduceIte,bJ]at hx;subst hx;exact⟨k,by simp[Gh.bx],by rw[hk.1];exact ho.mono hle,hk.2,hF⟩
  .simp only[hbc,↓reduceIte]at hx;obtain⟨q,h1,h2,h3⟩:=h'.obj c x hx;exact⟨q,hle.beta _ _ h1,h2.mono hle,h3⟩
 .intro t n e ht;rw[hT]at ht;exact h'.tok t n e ht
 .intro t t' n n' v v' c hne ht ht';rw[hT]at ht ht';exact h'.sep t t' n n' v v' c hne ht ht'
 .obtain⟨pre,ty,fr,hp,hl,h1,hr⟩:=h'.glb c cs hc;exact⟨pre,ty,fr,hp,hl,h1,λj c v hc hv=>(hr j c v hc hv).mono hle⟩
 .obtain⟨N,hN⟩:=h.fsh;refine⟨max N (b+1),λt ht=>⟨by rw[hT];exact(hN t aB).1,(hN t aB).2.1,?_⟩⟩;have:t≠b:=by omega
  simp[Gh.bx,this,(hN t aB).2.2]
 .intro c q hc;simp only[Gh.bx]at hc;split at hc
  .cases hc;exact(jA.1 hk.1).1
  .exact h.bet c q hc
 .intro c d q hc hd;simp only[Gh.bx]at hc hd;split at hc<;>split at hd
  .omega
  .cases hc;exact absurd rfl (hne d k hd)
  .cases hd;exact absurd rfl (hne c k hc)
  .exact h.inj c d q hc hd
 .obtain⟨l1,l2⟩:=hl hd;obtain⟨d1,d2⟩:=h.dtm hd c aB;have:c≠b:=by omega
  exact⟨by simp[Gh.bx,this,d1],d2⟩
 .simp only[Gh.bx]at hc;split at hc
  .cases hc;exact hF
  .exact h'.bfr c q hc
theorem R.lay(h:R C.toCtx F g s w)(o:Obj):R C.toCtx (λj=>if j=w.heap.size then some (o,none) else F j) g s (w.alloc o):=by
 have hk:∀k,k<w.heap.size->(w.alloc o).heap[k]?=w.heap[k]?:=λk hk=>uT w o hk
 have h':=h.keep hk;refine⟨λc x hx=>?_,λt n e ht=>?_,h'.sep,h'.pis,λq x hq=>?_,λc cs hc=>?_,h'.fsh,h'.bet,h'.inj,h'.dtm,h'.lst,λc q hc=>?_,h'.env⟩;rotate_left 3
 .obtain⟨pre,ty,fr,hp,h1⟩:=h.glb c cs hc;have:c≠w.heap.size:=Nat.ne_of_lt (h.lt_frm hp);exact⟨pre,ty,fr,by simp only[this,↓reduceIte];exact hp,h1⟩
 rotate_left 1
 .obtain⟨q,h1,h2,h3,h4⟩:=h'.obj c x hx;have:q≠w.heap.size:=Nat.ne_of_lt (h.bet c q h1);exact⟨q,h1,h2,h3,by simp only[this,↓reduceIte];exact h4⟩
 .obtain⟨v,xs,h1,h2,h3,h4⟩:=h'.tok t n e ht;refine⟨v,xs,h1,h2,h3,λq hq=>?_⟩;have:q≠w.heap.size:=Nat.ne_of_lt (h.lt_pi (h4 q hq).1);exact⟨(h4 q hq).1,by simp only[this,↓reduceIte];exact(h4 q hq).2⟩
 .by_cases hq':q=w.heap.size
  .subst hq';simp only[↓reduceIte,bJ]at hq;subst hq;exact⟨wL w o,h.pi_new⟩
  .simp only[hq',↓reduceIte]at hq;exact h'.frm q x hq
 .have:q≠w.heap.size:=Nat.ne_of_lt (h.bet c q hc);simp only[this,↓reduceIte];exact h.bfr c q hc
theorem aOe{k:Nat}{F1:Fr}{o:Obj}{ob:Ob}{f:Nat->A}{KV:St->A->Prop}(h:R C.toCtx (λj=>if j=k then some (o,none) else F1 j) g s w)(hF:F1 k=none)(ho:ObRz g ob (some o))
  (hK:sQ C s ob f KV):∃b s',g.beta b=none/\R C.toCtx F1 (g.bx b k) s' w/\KV s' (f b):=by
 unfold sQ at hK;cases hd:C.det with
 | false =>
  rw[hd]at hK;obtain⟨b,hb⟩:=h.some_free;exact⟨b,s.setO b ob,hb,h.adopt hF ho hb (λq=>aJ s b ob q) (λq=>rfl) rfl (λhh=>by rw[hd]at hh;cases hh),hK b (h.free hb)⟩
 | true =>
  rw[hd]at hK;have hb:=(h.dtm hd s.lim (bT _)).1;exact⟨s.lim,s.newO ob,hb,h.adopt hF ho hb (λq=>aHh s ob q) (λq=>rfl) rfl (λ_=>⟨Nat.le_succ _,jB _⟩),hK⟩
theorem aGt{a:Act}(f:Nat)(hn:a.tmps.size=n):∀(P:List (Nat × Nat)) (la:Array Bool) (F':Fr) (g:Gh) (e:Env) (s:St),(∀p,p∈P->la.getD p.1 true=false)->(P.map (·.1)).Nodup ->
  (∀m,m∈Region.ready .any ops la->late ops m=true)->Pend C n ops F P F' a.tmps->R C.toCtx F' g s w->EnvOk g n (e.rem (iZ ops P)) a.tmps ->
  gP C n ops K Kp W (f+P.length) la e s->∃g' e' s',g.le g'/\R C.toCtx F g' s' w/\EnvOk g' n e' a.tmps/\gP C n ops K Kp W f (gT P la) e' s'
 | [],la,F',g,e,s,_,_,_,hP,hR,he,h=>by
  rw[show F'=F from hP]at hR;refine⟨g,e,s,gR g,hR,he.sub λt x hx=>?_,h⟩;rw[pB];simpa [iZ]using hx
 | (i,k) :: P,la,F',g,e,s,hun,hnd,hall,hP,hR,he,h => by
  obtain⟨F1,d,t,ty,pos,after,ti,z,h1,h2,h3,h4,h5,h6,h7,rfl⟩:=hP;obtain⟨d',t',ty',pos',after',q1,q2,q3⟩:=wX h3;rw[h2]at q1;cases q1;have hi0:=hun (i,k) bD;have hr:i∈Region.ready .any ops la:=mem_ready.2 ⟨hi0,_,h2,λe he hb=>by rw[q2 e he]at hb;cases hb⟩
  have hz:i∈oK ops la:=by
   unfold oK;rw[if_pos (by rw[iH];exact hall)];exact hr
  have hs:=h.2.2 i hz _ h2;simp only[kA,bF,h4,aDx]at hs;obtain⟨b,s',hb,hR',hK'⟩:=aOe hR h7 (ob:=.cells t ti.zero) ⟨z.cells.toList,[],by simp,h5 g,(C.htt t ti h4).one⟩ hs;obtain⟨hdn,hK'⟩:=hK';have hle:=zO hb k;simp only[bS,List.nodup_cons]at hnd;have hne:∀p,p∈P->p.1≠i:=λp hp e=>hnd.1 (cC.2 ⟨p,hp,e⟩)
  have hset:gT ((i,k)::P) la=gT P (la.setIfInBounds i true):=by
   rw[<-aFC P la hne];rfl
  have henv:EnvOk (g.bx b k) n ((e.put d (.ptr b 0)).rem (iZ ops P)) a.tmps:=by
   have h8:=(he.mono hle).at (h6 hdn) (x:=.ptr b 0) (.ptr b 0 k (by simp[Gh.bx]));refine h8.sub λu x hx=>?_
   rw[pB]at hx;split at hx
   .cases hx
   .rename_i hu;rw[mS]at hx⊢;by_cases hdu:d=u
    .simpa only[hdu,↓reduceIte]using hx
    .simp only[hdu,↓reduceIte]at hx⊢;rw[pB,if_neg]
     .exact hx
     .rw[List.elem_iff]at hu⊢;simp only[iZ,bS,h2,Option.bind_some,eB,bJ,not_or]at hu⊢;exact⟨λe=>hdu e.symm,hu⟩
  by_cases hPn:P=[]
  .subst hPn;rw[show F1=F from h1]at hR'
   have hn0:((e.put d (.ptr b 0)).rem (iZ ops []))=e.put d (.ptr b 0):=by
    have:∀e:Env,e.rem []=e:=by
     intro e
     induction e with
     | nil=>rfl
     | cons x e ih=>simp only[Env.rem,List.elem_nil,cJ,↓reduceIte,ih]
    exact this _
   rw[hn0]at henv;exact⟨_,_,s',hle,hR',henv,by rw[hset];exact hK'⟩
  .have hnew:∀m,m∈Region.ready .any ops (la.setIfInBounds i true)->late ops m=true:=by
    intro m hm;by_cases hm':m∈Region.ready .any ops la
    .exact hall m hm'
    .exfalso;obtain⟨m0,om,hom,hdeps⟩:=mem_ready.1 hm
     have hmi:m≠i:=by
      rintro rfl;have hlt:=(vJ hi0).1;simp[hlt]at m0
     have hbi:rF om i=true:=by
      cases hbb:rF om i with
      | true=>rfl
      | false =>
       exfalso;refine hm' (mem_ready.2 ⟨by rw[getD_set_ne true (λe=>hmi e.symm)]at m0;exact m0,om,hom,λed he2 hb=>?_⟩)
       have hei:i≠ed.on:=by
        intro hie;rw[yY.2 ⟨ed,he2,hb,hie.symm⟩]at hbb;cases hbb
       have:=hdeps ed he2 hb
       rwa[getD_set_ne false hei]at this
     obtain⟨⟨p,kp⟩,hpP⟩:=List.exists_mem_of_ne_nil P hPn;have hpi:p≠i:=hne (p,kp) hpP;have hp0:=hun (p,kp) (by simp[hpP]);obtain⟨d2,t2,ty2,pos2,after2,z1,z2,_⟩:=wX (h1.late (p,kp) hpP)
     have hpm:p≠m:=by
      rintro rfl;rw[hom]at z1;cases z1;obtain⟨e,he,hb,_⟩:=yY.1 hbi;rw[z2 e he]at hb;cases hb
     obtain⟨e,he,hb,hep⟩:=yY.1 ((q3 m om hom hmi).2.2 hbi p (jA.1 z1).1 hpm);have:=hdeps e he hb;rw[hep,getD_set_ne false (λe=>hpi e.symm),(vJ hp0).2]at this;cases this
   obtain⟨g',e',s2,r1,r2,r3,r4⟩:=aGt f hn P (la.setIfInBounds i true) F1 (g.bx b k) (e.put d (.ptr b 0)) s'
    (λp hp=>by rw[getD_set_ne true (λe=>hne p hp e.symm)];exact hun p (by simp[hp])) hnd.2 hnew h1 hR' henv hK'
   exact⟨g',e',s2,hle.trans r1,r2,r3,by rw[hset];exact r4⟩
def Rle(C:Cx)(s s':St):Prop:=∀(F:Fr) (g:Gh) (w:World),R C.toCtx F g s w->R C.toCtx F g s' w
theorem Rle.refl(s:St):Rle C s s:=λ_ _ _ h=>h
theorem aO2{P:List (Nat × Nat)}{F':Fr}{tmps:Array Value}(h:Pend C n ops F P F' tmps){d:Nat}(hd:(iZ ops P).elem (some d)=true):∃p,p∈P/\∃t ty pos after,ops[p.1]?=some ⟨some d,.alloc t,ty,pos,after,none⟩:=by
 have hm:=List.mem_of_elem_eq_true hd;simp only[iZ,cC]at hm;obtain⟨p,hp,hb⟩:=hm;obtain⟨d',t,ty,pos,after,h1,_⟩:=wX (h.late p hp);rw[h1]at hb;simp only[Option.bind_some,bJ]at hb;subst hb;exact⟨p,hp,t,ty,pos,after,h1⟩
theorem aSj{e0:Env}(hds:∀o,o∈ops.toList->∀d,o.dst=some d->e0.get d=none){D:List Deferred}{Q:XK->Env->St->Prop}(hK:∀e s,K e s->∃e' s',e.ge e'/\Rle C s s'/\Q .normal e' s')
  (hKp:∀s v,Kp s v->Q (.panic v) e0 s)(htt:∀i t o,ops[i]?=some o->late ops i=true->o.op=.alloc t->(C.tt t).isSome=true) :
  ∀(f:Nat) (P:List (Nat × Nat)) (la:Array Bool) (F':Fr) (g:Gh) (e:Env) (s:St) (a:Act) (w:World),tB (gT P la)<=f->(∀p,p∈P->la.getD p.1 true=false)->(P.map (·.1)).Nodup ->
   Pend C n ops F P F' a.tmps->g0.le g->R C.toCtx F' g s w->EnvOk g n (e.rem (iZ ops P)) a.tmps->EnvOk g n e0 a.tmps->a.defers=D ->
   gP C n ops K Kp W (f+P.length) la e s->wpAny C.P .any ops (Post C F g0 n D Q) f (gT P la) a w:=by
 have fin:∀(g:Gh) (e:Env) (s:St) (a:Act) (w:World),g0.le g->R C.toCtx F g s w->EnvOk g n e a.tmps->a.defers=D->K e s->Post C F g0 n D Q .normal a w :=
  λg e s a w hg hR he hD h=>by
   obtain⟨e',s',h1,h2,h3⟩:=hK _ _ h;exact⟨g,e',s',.normal,hg,h2 _ _ _ hR,he.sub h1,hD,trivial,h3⟩
 have last:∀(f:Nat) (P:List (Nat × Nat)) (la:Array Bool) (F':Fr) (g:Gh) (e:Env) (s:St) (a:Act) (w:World),(∀p,p∈P->la.getD p.1 true=false)->(P.map (·.1)).Nodup ->
   Pend C n ops F P F' a.tmps->g0.le g->R C.toCtx F' g s w->EnvOk g n (e.rem (iZ ops P)) a.tmps->a.defers=D ->
   gP C n ops K Kp W (f+P.length) la e s->Region.ready .any ops (gT P la)=[]->Post C F g0 n D Q .normal a w:=by
  intro f P la F' g e s a w hun hnd hP hg hR he hD h hr
  obtain⟨g',e',s',r1,r2,r3,r4⟩:=aGt f he.size P la F' g e s hun hnd (λm hm=>by
   by_cases hmP:∃p,p∈P/\p.1=m
   .obtain⟨p,hp,rfl⟩:=hmP;exact hP.late p hp
   .exfalso;obtain⟨m0,om,hom,hdeps⟩:=mem_ready.1 hm;have:m∈Region.ready .any ops (gT P la):=mem_ready.2 ⟨by rw[aAX true P la (λp hp e=>hmP ⟨p,hp,e⟩)];exact m0,om,hom,λe he hb=>aId P la (hdeps e he hb)⟩;rw[hr]at this;cases this) hP hR he h
  have hk:K e' s':=by
   cases f with
   | zero=>exact r4.2.2
   | succ f=>exact r4.2.1 hr
  exact fin g' e' s' a w (hg.trans r1) r2 r3 hD hk
 intro f
 induction f with
 | zero =>
  intro P la F' g e s a w hu hun hnd hP hg hR he he0 hD h;have hr:Region.ready .any ops (gT P la)=[]:=aRa aB;exact⟨hr,last 0 P la F' g e s a w hun hnd hP hg hR he hD h hr⟩
 | succ f ih =>
  intro P la F' g e s a w hu hun hnd hP hg hR he he0 hD h;refine⟨λhr=>last (f+1) P la F' g e s a w hun hnd hP hg hR he hD h hr,λi hi=>?_⟩;obtain⟨hi0,o,ho,hdeps⟩:=mem_ready.1 hi
  have hiP:∀p,p∈P->p.1≠i:=by
   rintro p hp rfl;have hlt:=(vJ (hun p hp)).1
   have:(gT P la).getD p.1 false=true:=by
    have:∀{P:List (Nat × Nat)},p∈P->(gT P la).getD p.1 false=true:=by
     intro P
     induction P with
     | nil=>intro h;cases h
     | cons q P ih' =>
      intro h
      have hsz:∀P:List (Nat × Nat),(gT P la).size=la.size:=by
       intro P
       induction P with
       | nil=>rfl
       | cons x P ih=>simp only[gT,List.foldr_cons,Array.size_setIfInBounds]at *;exact ih
      simp only[gT,List.foldr_cons];cases h with
      | head =>
       have:=hsz P;simp only[gT]at this;simp[this,hlt]
      | tail _ h=>exact getD_set_true (ih' h)
    exact this hp
   rw[(vJ hi0).2]at this;cases this
  have hila:la.getD i true=false:=by rw[aAX true P la hiP]at hi0;exact hi0
  have hu':tB ((gT P la).setIfInBounds i true)<=f:=by have:=aKt hi0;omega
  have hd0:∀d,o.dst=some d->e0.get d=none:=hds o (by obtain⟨h1,h2⟩:=jA.1 ho;rw[<-h2];simp)
  by_cases hlate:late ops i=true
  ·
   obtain⟨d,t,ty,pos,after,q1,q2,q3⟩:=wX hlate;rw[ho]at q1;cases q1;obtain⟨ti,hti⟩:=Option.isSome_iff_exists.1 (htt i t _ ho hlate rfl);obtain⟨z,hz,hzr⟩:=aA9 hti w;unfold wpOp;rw[ho];simp only;rw[if_pos (by simp[Region.wanted])];left
   have hrun:(execOp a.eval ⟨some d,.alloc t,ty,pos,after,none⟩).run C.P w=.ok (.value (.pointer (some ⟨w.heap.size,0,none⟩))) (w.alloc (.cells z.cells t)):=by
    simp only[execOp,Instr.alloc,bP,hz,bN,newVar,newRow,run_newObj,cD];rfl
   unfold Oper.wp;rw[hrun,Oper.upon_value];have hset:(gT P la).setIfInBounds i true=gT ((i,w.heap.size)::P) la:=rfl;rw[hset]at hu'⊢
   have hdP:∀p,p∈P->∀d' t' ty' pos' after',ops[p.1]?=some ⟨some d',.alloc t',ty',pos',after',none⟩->d'≠d:=by
    intro p hp d' t' ty' pos' after' hp' e;have:=(q3 p.1 _ hp' (hiP p hp)).1;exact this (by rw[e])
   refine ih ((i,w.heap.size)::P) la (λj=>if j=w.heap.size then some (.cells z.cells t,none) else F' j) g e s _ _ hu' (λp hp=>?_) ?_ ?_ hg (hR.lay _) ?_ (he0.other hd0) (by rw[aB0];exact hD) ?_
   .cases hp with
    | head=>exact hila
    | tail _ hp=>exact hun p hp
   .simp only[bS,List.nodup_cons];refine⟨λhm=>?_,hnd⟩;obtain⟨p,hp,hpe⟩:=cC.1 hm;exact hiP p hp hpe
   .refine⟨F',d,t,ty,pos,after,ti,z,hP.put ho (λp hp=>hiP p hp),ho,hlate,hti,hzr,λhd=>?_,hR.frm_new,rfl⟩;show(a.tmps.setIfInBounds d _)[d]?=_;simp[he.size,hd]
   .have:=he.del (d:=d) (v:=.pointer (some ⟨w.heap.size,0,none⟩));refine this.sub λu x hx=>?_
    rw[pB]at hx;split at hx
    .cases hx
    .rename_i hu2
     have hu3:¬ u=d/\¬ (iZ ops P).elem (some u)=true:=by
      rw[List.elem_iff]at hu2⊢;simpa only[iZ,bS,ho,Option.bind_some,eB,bJ,not_or]using hu2
     have hdu:¬ d=u:=λe=>hu3.1 e.symm
     rw[aHq,if_neg hdu,pB,if_neg hu3.2];exact hx
   .have:f+((i,w.heap.size)::P).length=f+1+P.length:=by simp only[aE];omega
    rw[this];exact h
  .have hlate':late ops i=false:=by simpa using hlate
   have step:∀(P:List (Nat × Nat)) (la:Array Bool) (F':Fr) (g:Gh) (e:Env) (s:St),tB ((gT P la).setIfInBounds i true)<=f->(∀p,p∈P->la.getD p.1 true=false)->(∀p,p∈P->p.1≠i)->(P.map (·.1)).Nodup ->
     Pend C n ops F P F' a.tmps->g0.le g->R C.toCtx F' g s w->EnvOk g n (e.rem (iZ ops P)) a.tmps->EnvOk g n e0 a.tmps->(∀d,(iZ ops P).elem (some d)=true->d ∉ o.looksAt ops) ->
     kA C (ops.toList.map (·.dst)) o (cQ n o.dst (gP C n ops K Kp W (f+P.length) (la.setIfInBounds i true)) e) Kp e s ->
     wpOp C.P ops (Post C F g0 n D Q) i (wpAny C.P .any ops (Post C F g0 n D Q) f ((gT P la).setIfInBounds i true)) a w:=by
    intro P la F' g e s hu' hun hiP hnd hP hg hR he he0 hlook hs;rw[aFC P la hiP]at hu'⊢;have hun':∀p,p∈P->(la.setIfInBounds i true).getD p.1 true=false:=λp hp=>by rw[getD_set_ne true (λe=>hiP p hp e.symm)];exact hun p hp
    have hs1:=aBX (ops:=ops) (e':=e.rem (iZ ops P)) (λt ht=>by
     rw[pB,if_neg];intro hh;exact hlook t hh ht) hs
    have next:∀g' v w' e1 s',g.le g'->R C.toCtx F' g' s' w'->EnvOk g' n e1 (a.put o.dst v).tmps->EnvOk g' n e0 (a.put o.dst v).tmps->(a.put o.dst v).defers=D ->
      (∃e2,gP C n ops K Kp W (f+P.length) (la.setIfInBounds i true) e2 s'/\∀t x,(e2.rem (iZ ops P)).get t=some x->e1.get t=some x) ->
      wpAny C.P .any ops (Post C F g0 n D Q) f (gT P (la.setIfInBounds i true)) (a.put o.dst v) w':=by
     rintro g' v w' e1 s' h1 h2 h3 h4 h5 ⟨e2,h6,h7⟩;exact ih P (la.setIfInBounds i true) F' g' e2 s' _ w' hu' hun' hnd (hP.put ho hiP) (hg.trans h1) h2 (h3.sub h7) h4 h5 h6
    have conv:∀s' v,cQ n o.dst (gP C n ops K Kp W (f+P.length) (la.setIfInBounds i true)) e s' v ->
      cQ n o.dst (λe1 s'=>∃e2,gP C n ops K Kp W (f+P.length) (la.setIfInBounds i true) e2 s'/\∀t x,(e2.rem (iZ ops P)).get t=some x->e1.get t=some x) (e.rem (iZ ops P)) s' v:=by
     intro s' v hv;unfold cQ at hv⊢;cases hd:o.dst with
     | none=>rw[hd]at hv;exact⟨e,hv,λt x hx=>hx⟩
     | some d =>
      rw[hd]at hv;refine⟨hv.1,_,hv.2,λt x hx=>?_⟩;rw[pB]at hx;split at hx
      .cases hx
      .rename_i ht;rw[mS]at hx⊢;by_cases hdt:d=t
       .simpa only[hdt,↓reduceIte]using hx
       .simp only[hdt,↓reduceIte]at hx⊢;rw[pB,if_neg ht];exact hx
    have hs2:=zB hs1 conv;have hF:=λk o=>hP.sub k o
    unfold wpOp;rw[ho];simp only;obtain⟨dst,op,ty,pos,after,gd⟩:=o
    have run:bF C op (eT C (e.rem (iZ ops P))) (cQ n dst (λe1 s'=>∃e2,gP C n ops K Kp W (f+P.length) (la.setIfInBounds i true) e2 s'/\∀t x,(e2.rem (iZ ops P)).get t=some x->e1.get t=some x) (e.rem (iZ ops P))) Kp s ->
      (⟨dst,op,ty,pos,after,gd⟩:Oper).wp C.P a w (wpAny C.P .any ops (Post C F g0 n D Q) f (gT P (la.setIfInBounds i true))) (Post C F g0 n D Q):=by
     intro hev;have:=aLx (ev:=a.eval) (ty:=ty) (dst:=dst) (pos:=pos) (after:=after) (gd:=gd) hR (he.oper hR) hev;exact aHg hF (λk o p=>hP.subP k o p) (o:=⟨dst,op,ty,pos,after,gd⟩) hg he he0 hd0 hD next hKp this
    have skip:cQ n dst (λe1 s'=>∃e2,gP C n ops K Kp W (f+P.length) (la.setIfInBounds i true) e2 s'/\∀t x,(e2.rem (iZ ops P)).get t=some x->e1.get t=some x) (e.rem (iZ ops P)) s (.tuple []) ->
      wpAny C.P .any ops (Post C F g0 n D Q) f (gT P (la.setIfInBounds i true)) (a.put dst undef) w:=by
     intro hs;unfold cQ at hs;cases hdst:dst with
     | none=>subst hdst;exact next g undef w _ s (gR g) hR he he0 hD hs
     | some d=>subst hdst;exact next g undef w _ s (gR g) hR (he.put hs.1 (.tuple [] [] rfl bD)) (he0.other λd' hd'=>by cases hd';exact hd0 d rfl) (by rw[aB0];exact hD) hs.2
    unfold kA at hs2;cases gd with
    | none =>
     rw[if_pos (by simp[Region.wanted])];exact .inl (run hs2)
    | some jw =>
     obtain⟨j,want⟩:=jw;obtain⟨t,ht,hs2⟩:=hs2;rcases hs2 with⟨b,hb,hs2⟩|⟨ls,hl,hs2⟩
     .have hy:=aH3 (b:=b) ht he hb
      have hw:Region.wanted (⟨dst,op,ty,pos,after,some (j,want)⟩:Oper) (yielded ops a.tmps)=(b == want):=by
       simp only[Region.wanted,hy];cases b<;>cases want<;>rfl
      rcases hs2 with⟨hbw,hs2⟩|⟨hbw,hs2⟩
      .rw[if_pos (by rw[hw];simpa using hbw)];exact .inl (run hs2)
      .rw[if_neg (by rw[hw];simpa using hbw)];exact skip hs2
     .have hy:=aHf ht he hl;rw[if_neg (by simp[Region.wanted,hy])];exact skip hs2
   by_cases hdep:∃p,p∈P/\rF o p.1=true
   ·
    obtain⟨p,hp,hbp⟩:=hdep;obtain⟨dp,tp,typ,posp,afterp,p1,p2,p3⟩:=wX (hP.late p hp);have hall:=(p3 i o ho (λe=>hiP p hp e.symm)).2.2 hbp
    obtain⟨g',e',s',r1,r2,r3,r4⟩:=aGt (f+1) he.size P la F' g e s hun hnd (λm hm=>by
     by_cases hmP:∃p,p∈P/\p.1=m
     .obtain⟨p,hp,rfl⟩:=hmP;exact hP.late p hp
     .exfalso;obtain⟨m0,om,hom,hdm⟩:=mem_ready.1 hm;by_cases hmi:m=i
      .subst hmi;rw[ho]at hom;cases hom;obtain⟨e,he,hb,hep⟩:=yY.1 hbp;have:=hdm e he hb;rw[hep,(vJ (hun p hp)).2]at this;cases this
      .obtain⟨e,he,hb,hep⟩:=yY.1 (hall m (jA.1 hom).1 hmi);have:=hdeps e he hb;rw[hep,aAX false P la (λp hp e=>hmP ⟨p,hp,e⟩),(vJ m0).2]at this;cases this) hP hR he h
    refine step [] (gT P la) F g' e' s' hu' (λp hp=>by cases hp) (λp hp=>by cases hp) bD rfl (hg.trans r1) r2 (r3.sub λt x hx=>?_) (he0.mono r1) (λd hd=>by simp[iZ]at hd) ?_
    .rw[pB]at hx;simpa [iZ]using hx
    .exact r4.2.2 i (aB9 hi hlate') o ho
   .have hri:i∈Region.ready .any ops la:=mem_ready.2 ⟨hila,o,ho,λe he hb=>by
     have:=hdeps e he hb;rw[aAX false P la (λp hp e'=>hdep ⟨p,hp,yY.2 ⟨e,he,hb,e'.symm⟩⟩)]at this;exact this⟩
    refine step P la F' g e s hu' hun hiP hnd hP hg hR he he0 (λd hd hl=>?_) ?_
    .obtain⟨p,hp,t,ty,pos,after,h1⟩:=aO2 hP hd;obtain⟨d',t',ty',pos',after',p1,p2,p3⟩:=wX (hP.late p hp);rw[h1]at p1;cases p1;exact hdep ⟨p,hp,(p3 i o ho (λe=>hiP p hp e.symm)).2.1 hl⟩
    .have e1:f+1+P.length=f+P.length+1:=by omega
     rw[e1]at h;exact h.2.2 i (aB9 hri hlate') o ho
theorem aSO{e0:Env}(hds:∀o,o∈ops.toList->∀d,o.dst=some d->e0.get d=none){D:List Deferred}{Q:XK->Env->St->Prop}(hK:∀e s,K e s->∃e' s',e.ge e'/\Rle C s s'/\Q .normal e' s')
  (hKp:∀s v,Kp s v->Q (.panic v) e0 s)(htt:∀i t o,ops[i]?=some o->late ops i=true->o.op=.alloc t->(C.tt t).isSome=true)
  (f:Nat)(l:Array Bool)(g:Gh)(e:Env)(s:St)(a:Act)(w:World)(hu:tB l<=f)(hg:g0.le g)(hR:R C.toCtx F g s w)(he:EnvOk g n e a.tmps)(he0:EnvOk g n e0 a.tmps)(hD:a.defers=D)
  (h:gP C n ops K Kp W f l e s):wpAny C.P .any ops (Post C F g0 n D Q) f l a w :=
 aSj hds hK hKp htt f [] l F g e s a w hu (λp hp=>by cases hp) bD rfl hg hR (he.sub λt x hx=>by rw[pB]at hx;simpa [iZ]using hx) he0 hD h
inductive OT where
 | nil
 | node (i:Nat) (r:OT)
 | alt (a b:OT)
 | pair (i j:Nat)
def OT.l:List Nat->OT->OT
 | [],t=>t
 | i::r,t=>.node i (OT.l r t)
def mI:List Oper->Nat->Option Oper
 | [],_=>none
 | o::_,0=>some o
 | _::r,i+1=>mI r i
def uA(C:Cx)(t:TypeId)(b o:Nat)(s:St):Option A:=match s.getO b with
 | some (.cells _ cs)=>sO C t cs o
 | _=>none
def aGn(C:Cx)(t:TypeId)(b o:Nat)(v:A)(s:St):Prop:=uA C t b o s=some v
def tkL(C:Cx)(t:TypeId)(b o:Nat)(KK:A->Option (St->Prop)->Prop):Option A->Prop
 | some v=>KK v (some (aGn C t b o v))
 | none=>False
def uL(KK:A->Option (St->Prop)->Prop)(v:A):Prop:=KK v none
def tkX(C:Cx)(t:TypeId)(op:Op)(ρ:Operand->Option A)(s:St)(KK:A->Option (St->Prop)->Prop):Option A->Prop
 | some (.ptr b o)=>tkL C t b o KK (uA C t b o s)
 | _=>cK C op ρ (uL KK)
def uO(C:Cx)(op:Op)(ρ:Operand->Option A)(s:St)(KK:A->Option (St->Prop)->Prop):Prop :=
 match op with
 | .load t x=>tkX C t (.load t x) ρ s KK (ρ x)
 | op=>cK C op ρ (uL KK)
def yE:List (Nat × List Nat)->Nat->List Nat
 | [],_=>[]
 | (j,l)::r,i=>if j=i then l else yE r i
def wE(ms:List Nat)(s:St):List (Nat × (St->Prop))->Prop
 | []=>True
 | (m,p)::W=>(if ms.elem m=true then p s else True)/\wE ms s W
def aGB(n:Nat)(dst:Option Tmp)(ms:List Nat)(next:List (Nat × (St->Prop))->Env->St->Prop)(W:List (Nat × (St->Prop)))(e:Env)(s:St)(v:A):Prop :=
 wE ms s W/\cQ n dst (next W) e s v
def yR(n:Nat)(dst:Option Tmp)(i:Nat)(next:List (Nat × (St->Prop))->Env->St->Prop)(W:List (Nat × (St->Prop)))(e:Env)(s:St)(v:A):Option (St->Prop)->Prop
 | none=>cQ n dst (next W) e s v
 | some p=>cQ n dst (next ((i,p)::W)) e s v
def nH(C:Cx)(n:Nat)(E:List (Nat × List Nat))(i:Nat)(dst:Option Tmp)(op:Op)(next:List (Nat × (St->Prop))->Env->St->Prop)(W:List (Nat × (St->Prop)))
  (Kp:St->A->Prop)(e:Env)(s:St):Bool->Prop
 | true=>bF C op (eT C e) (aGB n dst (yE E i) next W e) Kp s
 | false=>uO C op (eT C e) s (yR n dst i next W e s)
def pY(C:Cx)(n:Nat)(E:List (Nat × List Nat))(i:Nat)(dst:Option Tmp)(op:Op)(next:List (Nat × (St->Prop))->Env->St->Prop)(W:List (Nat × (St->Prop)))
  (Kp:St->A->Prop)(e:Env)(s:St)(t:Nat)(want:Bool):Option A->Prop
 | some (.bool true)=>match want with
  | true=>nH C n E i dst op next W Kp (e.put t (.bool true)) s (jZ op)
  | false=>cQ n dst (next W) (e.put t (.bool true)) s (.tuple [])
 | some (.bool false)=>match want with
  | false=>nH C n E i dst op next W Kp (e.put t (.bool false)) s (jZ op)
  | true=>cQ n dst (next W) (e.put t (.bool false)) s (.tuple [])
 | some (.tuple _)=>cQ n dst (next W) e s (.tuple [])
 | _=>False
def gdY(C:Cx)(n:Nat)(E:List (Nat × List Nat))(i:Nat)(dst:Option Tmp)(op:Op)(next:List (Nat × (St->Prop))->Env->St->Prop)(W:List (Nat × (St->Prop)))
  (Kp:St->A->Prop)(e:Env)(s:St)(want:Bool):Option Tmp->Prop
 | none=>False
 | some t=>pY C n E i dst op next W Kp e s t want (e.get t)
def lL(C:Cx)(n:Nat)(ds:List (Option Tmp))(E:List (Nat × List Nat))(i:Nat)(next:List (Nat × (St->Prop))->Env->St->Prop)(W:List (Nat × (St->Prop)))
  (Kp:St->A->Prop)(e:Env)(s:St):Option Oper->Prop
 | none=>False
 | some ⟨dst,op,_,_,_,none⟩=>nH C n E i dst op next W Kp e s (jZ op)
 | some ⟨dst,op,_,_,_,some (j,want)⟩=>gdY C n E i dst op next W Kp e s want (lX ds j)
def aGw:Option A->Option A->Option A->Prop
 | some a,some b,some c=>match a with
  | .rm k m z=>match b with
   | .ptr _ _=>match c with
    | .pen k' es z'=>k=k'/\m=es.length/\z=z'
    | _=>False
   | _=>False
  | _=>False
 | _,_,_=>False
def aBk(C:Cx)(e:Env):Option Oper->Option Oper->Prop
 | some ⟨none,.store _ x _,_,_,_,none⟩,some ⟨none,.store _ x' y',_,_,_,none⟩=>aGw (eT C e x) (eT C e x') (eT C e y')
 | _,_=>False
def iI(C:Cx)(n:Nat)(ds:List (Option Tmp))(ops:List Oper)(E:List (Nat × List Nat))(K:Env->St->Prop)(Kp:St->A->Prop):OT->List (Nat × (St->Prop))->Env->St->Prop
 | .nil,W,e,s=>K e s
 | .node i r,W,e,s=>lL C n ds E i (iI C n ds ops E K Kp r) W Kp e s (mI ops i)
 | .alt a b,W,e,s=>iI C n ds ops E K Kp a W e s/\iI C n ds ops E K Kp b W e s
 | .pair i j,W,e,s=>aBk C e (mI ops i) (mI ops j)/\lL C n ds E i (λW e s=>lL C n ds E j (λ_=>K) W Kp e s (mI ops j)) W Kp e s (mI ops i)
theorem aF3:∀(l:List Oper) (i:Nat),mI l i=l[i]?
 | [],i=>by simp[mI]
 | o::r,0=>rfl
 | o::r,i+1=>by simp[mI,aF3 r i]
def sF:Op->Bool
 | .load ..=>true
 | _=>false
def msk(acc:List Nat):List Edge->Nat->Nat
 | [],m=>m
 | e::r,m=>msk acc r (if Region.binds .any e then m ||| (1 <<< e.on) ||| (acc[e.on]?.getD 0) else m)
def prs:List Oper->List Nat->List Nat
 | [],acc=>acc
 | o::r,acc=>prs r (acc++[msk acc o.after.toList 0])
def okE(ops:Array Oper)(E:List (Nat × List Nat)):Bool :=
 let T:=prs ops.toList []
 (List.range ops.size).all fun i => match ops[i]? with
  | some o=>!jZ o.op||(List.range ops.size).all λm=>match ops[m]? with
   | some om=>!sF om.op||(yE E i).elem m||(T[i]?.getD 0).testBit m
   | none=>true
  | none=>true
def mF:OT->List (Nat × OT)
 | .nil=>[]
 | .node i r=>[(i,r)]
 | .alt a b=>mF a++mF b
 | .pair _ _=>[]
def vV(ops:Array Oper)(i:Nat):Bool:=match ops[i]? with
 | some o=>jZ o.op
 | none=>false
def aFQ(ops:Array Oper)(l:Array Bool):Bool :=
 let T:=prs ops.toList []
 (List.range ops.size).all fun m => match ops[m]? with
  | some o=>!sF o.op||(List.range ops.size).any λj=>vV ops j&&l.getD j false&&(T[j]?.getD 0).testBit m
  | none=>true
def aDc(tt:TypeId->Option TI)(ops:Array Oper):Bool :=
 (List.range ops.size).all fun i => !late ops i || (match ops[i]? with
  | some o=>match o.op with
   | .alloc t=>(tt t).isSome
   | _=>true
  | none=>true)
def pX(ops:Array Oper):Nat->Array Bool->OT->Bool
 | _,l,.nil=>(Region.ready .any ops l).isEmpty
 | 0,l,_=>false
 | f+1,l,.node i r=>if vV ops i then(Region.ready .any ops l).contains i&&(oK ops l).all (· == i)&&pX ops f (l.setIfInBounds i true) r
   else(Region.ready .any ops l).contains i&&Region.free .any ops l i&&pX ops f (l.setIfInBounds i true) r
 | f+1,l,.alt a b=>!(Region.ready .any ops l).isEmpty&&(oK ops l).all (λj=>(mF (.alt a b)).any λx=>x.1 == j) &&
   (mF (.alt a b)).all λx=>vV ops x.1&&pX ops f (l.setIfInBounds x.1 true) x.2
 | f+1,l,.pair i j=>(Region.ready .any ops l).contains i&&(Region.ready .any ops l).contains j&&(oK ops l).all (λm=>m == i||m == j)&&!(i == j) &&
   (oK ops (l.setIfInBounds i true)).all (· == j)&&(oK ops (l.setIfInBounds j true)).all (· == i)&&(Region.ready .any ops ((l.setIfInBounds i true).setIfInBounds j true)).isEmpty&&aFQ ops l&&Nat.ble 1 f
theorem aKW{T:List Nat}{j:Nat}{o:Oper}(ho:ops[j]?=some o)(hT:∀k m,(T[k]?.getD 0).testBit m=true->Bef ops m k) :
  ∀(es:List Edge) (m:Nat),(∀e,e∈es->e∈o.after)->(∀k,m.testBit k=true->Bef ops k j)->∀k,(msk T es m).testBit k=true->Bef ops k j
 | [],m,_,hm,k,hk=>hm k hk
 | e::r,m,he,hm,k,hk=>by
  refine aKW ho hT r _ (λe' h=>he e' (cT _ h)) (λk hk=>?_) k hk;split at hk
  .rename_i hb;simp only[Nat.testBit_or,qB]at hk;rcases hk with(hk|hk)|hk
   .exact hm k hk
   .rw[Nat.testBit_shiftLeft]at hk;simp only[cL,cU]at hk;obtain⟨h1,h2⟩:=hk
    have:k-e.on=0:=by
     rcases Nat.eq_zero_or_pos (k-e.on)with h|h
     .exact h
     .have hne:k-e.on≠0:=by omega
      rw[Nat.testBit_one_eq_true_iff_self_eq_zero]at h2;exact h2
    have hk:k=e.on:=by omega
    subst hk;exact .edge ho (he e bD) hb
   .exact .step ho (he e bD) hb (hT _ _ hk)
  .exact hm k hk
theorem aGh:∀(l:List Oper) (acc:List Nat),(∀k,l[k]?=ops[acc.length+k]?)->(∀k m,(acc[k]?.getD 0).testBit m=true->Bef ops m k) ->
  ∀k m,((prs l acc)[k]?.getD 0).testBit m=true->Bef ops m k
 | [],acc,_,h=>h
 | o::r,acc,hl,h=>by
  have ho:ops[acc.length]?=some o:=by have:=hl 0;simpa using this.symm
  refine aGh r _ (λk=>?_) (λk m hk=>?_)
  .have:=hl (k+1);simp only[List.getElem?_cons_succ]at this;rw[this,aG,List.length_singleton];congr 1;omega
  .by_cases hlt:k<acc.length
   .rw[kC hlt]at hk;exact h k m hk
   .by_cases he:k=acc.length
    .subst he;simp only[oT (bT _),Nat.sub_self,kM,Option.getD_some]at hk;exact aKW ho h o.after.toList 0 (λe he=>by simpa using he) (λk hk=>by simp at hk) m hk
    .rw[qW (by simp;omega)]at hk;simp at hk
theorem aS4{E:List (Nat × List Nat)}(h:okE ops E=true){i m:Nat}{o om:Oper}(hi:ops[i]?=some o)(hm:ops[m]?=some om)(he:jZ o.op=true)(hl:sF om.op=true) :
  (yE E i).elem m=true\/Bef ops m i:=by
 simp only[okE,iH,uS]at h;have h1:=h i (jA.1 hi).1;simp only[hi,he,eV,iJ,iH,uS]at h1;have h2:=h1 m (jA.1 hm).1;simp only[hm,hl,eV,iJ,qB]at h2;rcases h2 with h2|h2
 .exact .inl h2
 .exact .inr (aGh ops.toList [] (λk=>by simp) (λk m hk=>by simp at hk) i m h2)
theorem aKM{e e':Env}(he:∀t,e.get t=e'.get t):eT C e=eT C e':=by
 funext x;cases x<;>first|(simp only[eT,he])|rfl
variable {E:List (Nat × List Nat)} {i:Nat} {next:List (Nat × (St->Prop))->Env->St->Prop}
theorem aHc{e:Env}{t:Nat}{a:A}(h:e.get t=some a):∀u,e.get u=(e.put t a).get u:=λu=>by
 rw[mS];by_cases hu:t=u
 .subst hu;simp[h]
 .simp[hu]
theorem aRE{o:Oper}{KV:St->A->Prop}{e:Env}(he:jZ o.op=true)(h:lL C n (ops.toList.map (·.dst)) E i next W Kp e s (some o))
  (h1:∀e' s' v,(∀t,e.get t=e'.get t)->wE (yE E i) s' W->cQ n o.dst (next W) e' s' v->KV s' v)
  (h2:∀e',(∀t,e.get t=e'.get t)->cQ n o.dst (next W) e' s (.tuple [])->KV s (.tuple [])):kA C (ops.toList.map (·.dst)) o KV Kp e s:=by
 obtain⟨dst,op,ty,pos,after,gd⟩:=o
 have run:∀e',(∀t,e.get t=e'.get t)->nH C n E i dst op next W Kp e' s (jZ op)->bF C op (eT C e) KV Kp s:=by
  intro e' hee hx;simp only at he;rw[he]at hx;simp only[nH]at hx;rw[aKM hee];exact aCF hx (λs' v hv=>h1 e' s' v hee hv.1 hv.2) λ_ _ h=>h
 unfold kA;cases gd with
 | none=>exact run e (λ_=>rfl) h
 | some jw =>
  obtain⟨j,want⟩:=jw;simp only[lL]at h;cases ht:lX (ops.toList.map (·.dst)) j with
  | none=>rw[ht]at h;exact h.elim
  | some t =>
   rw[ht]at h;simp only[gdY]at h;refine⟨t,ht,?_⟩;cases hg:e.get t with
   | none=>rw[hg]at h;exact h.elim
   | some a =>
    rw[hg]at h;have hs:=aHc hg;cases a<;>simp only[pY]at h
    case bool b =>
     cases b<;>cases want<;>simp only at h
     .exact .inl ⟨false,rfl,.inl ⟨rfl,run _ hs h⟩⟩
     .exact .inl ⟨false,rfl,.inr ⟨by simp,h2 _ hs h⟩⟩
     .exact .inl ⟨true,rfl,.inr ⟨by simp,h2 _ hs h⟩⟩
     .exact .inl ⟨true,rfl,.inl ⟨rfl,run _ hs h⟩⟩
    case tuple l=>exact .inr ⟨l,rfl,h2 _ (λ_=>rfl) h⟩
theorem aJ8{op:Op}{ρ:Operand->Option A}{KK:A->Option (St->Prop)->Prop}(h:uO C op ρ s KK) :
  ∃v po,KK v po/\(∀p,po=some p->sF op=true/\p s)/\∀s' (KV:St->A->Prop),(∀p,po=some p->p s')->KV s' v->bF C op ρ KV Kp s':=by
 have still:cK C op ρ (uL KK)->∃v po,KK v po/\(∀p,po=some p->sF op=true/\p s)/\∀s' (KV:St->A->Prop),(∀p,po=some p->p s')->KV s' v->bF C op ρ KV Kp s':=by
  intro h;obtain⟨v,h1,h2⟩:=aJY h;exact⟨v,none,h1,(λp hp=>by cases hp),λs' KV _ hk=>aA6 (h2 (KV s') hk)⟩
 cases op
 case load t x =>
  simp only[uO]at h;cases hx:ρ x with
  | none=>rw[hx]at h;exact still h
  | some a =>
   rw[hx]at h;cases a
   case ptr b o =>
    simp only[tkX]at h;cases hl:uA C t b o s with
    | none=>rw[hl]at h;exact h.elim
    | some v =>
     rw[hl]at h;refine⟨v,_,h,λp hp=>by cases hp;exact⟨rfl,hl⟩,λs' KV hp hk=>?_⟩;have hp':uA C t b o s'=some v:=hp _ rfl;unfold uA at hp';simp only[bF,hx];split at hp'
     .rename_i cs hcs;simp only[hcs,hp'];exact hk
     .cases hp'
   all_goals exact still h
 all_goals exact still h
theorem aQt{o:Oper}{e:Env}(he:jZ o.op=false)(h:lL C n (ops.toList.map (·.dst)) E i next W Kp e s (some o)) :
  ∃v po e',(∀t,e.get t=e'.get t)/\(∀p,po=some p->sF o.op=true/\p s) /\
   (∀s' (KV:St->A->Prop),(∀p,po=some p->p s')->KV s' v->kA C (ops.toList.map (·.dst)) o KV Kp e s')/\yR n o.dst i next W e' s v po:=by
 obtain⟨dst,op,ty,pos,after,gd⟩:=o;simp only at he;unfold kA;cases gd with
 | none =>
  simp only[lL,he,nH]at h;obtain⟨v,po,h1,h2,h3⟩:=aJ8 (Kp:=Kp) h;exact⟨v,po,e,λ_=>rfl,h2,h3,h1⟩
 | some jw =>
  obtain⟨j,want⟩:=jw;simp only[lL]at h;cases ht:lX (ops.toList.map (·.dst)) j with
  | none=>rw[ht]at h;exact h.elim
  | some t =>
   rw[ht]at h;simp only[gdY]at h;cases hg:e.get t with
   | none=>rw[hg]at h;exact h.elim
   | some a =>
    rw[hg]at h;have hs:=aHc hg
    have run:∀b,a=.bool b->b=want->nH C n E i dst op next W Kp (e.put t a) s (jZ op)->∃v po e',(∀t,e.get t=e'.get t)/\(∀p,po=some p->sF op=true/\p s) /\
      (∀ s' (KV : St → A → Prop),(∀ p,po = some p → p s') → KV s' v → ∃ t',lX (ops.toList.map (·.dst)) j = some t' ∧
       ((∃b,e.get t'=some (.bool b)/\((b=want/\bF C op (eT C e) KV Kp s')\/(b≠want/\KV s' (.tuple []))))\/(∃l,e.get t'=some (.tuple l)/\KV s' (.tuple [])))) /\
      yR n dst i next W e' s v po:=by
     intro b hab hbw hx;rw[he]at hx;simp only[nH]at hx;rw[<-aKM hs]at hx;obtain⟨v,po,h1,h2,h3⟩:=aJ8 (Kp:=Kp) hx;exact⟨v,po,e.put t a,hs,h2,λs' KV hp hk=>⟨t,ht,.inl ⟨b,by rw[hg,hab],.inl ⟨hbw,h3 s' KV hp hk⟩⟩⟩,h1⟩
    cases a<;>simp only[pY]at h
    case bool b =>
     cases b<;>cases want<;>simp only at h
     .exact run false rfl rfl h
     .exact⟨.tuple [],none,_,hs,(λp hp=>by cases hp),λs' KV _ hk=>⟨t,ht,.inl ⟨false,hg,.inr ⟨by simp,hk⟩⟩⟩,h⟩
     .exact⟨.tuple [],none,_,hs,(λp hp=>by cases hp),λs' KV _ hk=>⟨t,ht,.inl ⟨true,hg,.inr ⟨by simp,hk⟩⟩⟩,h⟩
     .exact run true rfl rfl h
    case tuple l=>exact⟨.tuple [],none,e,λ_=>rfl,(λp hp=>by cases hp),λs' KV _ hk=>⟨t,ht,.inr ⟨l,hg,hk⟩⟩,h⟩
end
end
section
section
variable {C:Cx} {n:Nat} {ops:Array Oper} {K:Env->St->Prop} {Kp:St->A->Prop} {W:List (Nat × (St->Prop))} {s:St} {E:List (Nat × List Nat)}
theorem aKh{ms:List Nat}{w:Nat × (St->Prop)}:∀{W:List (Nat × (St->Prop))},wE ms s W->w∈W->ms.elem w.1=true->w.2 s
 | [],_,h,_=>by cases h
 | (m,p)::W,hc,h,he=>by
  cases h with
  | head=>have:=hc.1;rwa[if_pos he]at this
  | tail _ h=>exact aKh hc.2 h he
theorem Dead.set{l:Array Bool}{m i:Nat}(h:Dead ops m l):Dead ops m (l.setIfInBounds i true):=by
 obtain⟨j,o,h1,h2,h3,h4⟩:=h;exact⟨j,o,h1,h2,getD_set_true h3,h4⟩
theorem aQP{i:Nat}:∀(f:Nat) (l:Array Bool) (e:Env) (s:St),gP C n ops K Kp W f l e s->gP C n ops K Kp ((i,λ_=>True)::W) f l e s:=by
 have hc:∀(l:Array Bool) (s:St),pV ops W l s->pV ops ((i,λ_=>True)::W) l s:=by
  intro l s h w hw hd;cases hw with
  | head=>trivial
  | tail _ hw=>exact h w hw hd
 intro f
 induction f with
 | zero=>intro l e s h;exact⟨hc _ _ h.1,h.2⟩
 | succ f ih =>
  intro l e s h;refine⟨hc _ _ h.1,h.2.1,λj hj o ho=>zB (h.2.2 j hj o ho) λs' v hv=>?_⟩;unfold cQ at *;cases hd:o.dst with
  | none=>rw[hd]at hv;exact ih _ _ _ hv
  | some d=>rw[hd]at hv;exact⟨hv.1,ih _ _ _ hv.2⟩
theorem aOU{l:Array Bool}{i:Nat}(h:i∈Region.ready .any ops l):∃o,ops[i]?=some o:=by
 obtain⟨_,o,ho,_⟩:=mem_ready.1 h;exact⟨o,ho⟩
theorem aQh{g:Gh}{k:Nat}{es:List A}{x v:A}{z:Nat}{vo:Value}(h:Rz g (.list (some k) (es++[x])) vo)(hx:x.cells.length=z)(he:g.ends k es.length v):Rz g (.pen k es z) vo:=by
 obtain⟨a,cap,rfl,hm,hc,ht,hr⟩:=h.list_inv;rcases hr with h0|⟨b,off,sz,pre,rfl,hp,hl,hs,h1,hh⟩
 .simp at h0
 obtain⟨b',cap',pre',k1,k2,k3,k4,k5,k6,k7,k8⟩:=he;have e1:=ht k rfl;have hlen:(es++[x]).length=es.length+1:=by simp
 rw[hlen]at e1 hc hl⊢;rw[k1]at e1;simp only[bJ,qY,tJ,rE,jV]at e1;obtain⟨⟨rfl,rfl⟩,rfl⟩:=e1;have hsz:sz=z:=by rw[<-hs x bD,hx]
 subst hsz
 refine .pen k es sz b' cap' (.list (some k) es b' 0 sz cap' pre hp ?_ aB hm (λy hy=>hs y (by simp[hy])) (λy hy=>h1 y (by simp[hy])) (λi y j c u hy hc hu=>?_) (λt ht=>by cases ht;exact k2)) hc
  (λy hy=>hs y (by simp[hy]))
 .rw[gW]at hl;omega
 .have hi:i<es.length:=(dV.1 hy).1;exact hh i y j c u (by rw[kC hi];exact hy) hc hu
theorem aCI(s:St)(k:Nat)(es:List A)(z:Nat):(jI s (.pen k es z)).cells=[jI s (.pen k es z)]/\(jI s (.pen k es z)).one=true:=by
 simp only[jI];cases s.ls with
 | none=>exact⟨rfl,rfl⟩
 | some q=>simp only[aBv];split<;>exact⟨rfl,rfl⟩
theorem aQF{k:Nat}{e:TypeId}{v:A}{b o z:Nat}{E:TypeId}{cs es:List A}(hv:v.cells.length=z) :
  Rle C (((s.setO b (.cells E (kO cs o (jI s (.pen k es z)).cells))).setT k (es.length+1,e)).setL (some (k,es.length,v)))
   (((s.setT k (es.length+1,e)).setL (some (k,es.length,v))).setO b (.cells E (kO cs o (jI ((s.setT k (es.length+1,e)).setL (some (k,es.length,v))) (.pen k es z)).cells))):=by
 intro F g w hR;refine⟨λq x hx=>?_,hR.tok,hR.sep,hR.pis,hR.frm,hR.glb,hR.fsh,hR.bet,hR.inj,hR.dtm,hR.lst,hR.bfr,hR.env⟩;rw[aJ]at hx;by_cases hq:b=q
 .subst hq;simp only[↓reduceIte,bJ]at hx;subst hx
  have h2:(((s.setO b (.cells E (kO cs o (jI s (.pen k es z)).cells))).setT k (es.length+1,e)).setL (some (k,es.length,v))).getO b=some (.cells E (kO cs o (jI s (.pen k es z)).cells)):=by
   rw[eD,kB,aJ];simp
  obtain⟨j,h3,h4,h5⟩:=hR.obj b _ h2;refine⟨j,h3,?_,h5⟩;obtain⟨vs,rest,h6,h7,h8⟩:=h4;have hc2:kO cs o (jI s (.pen k es z)).cells=cs.set o (jI s (.pen k es z)):=by rw[(aCI s k es z).1];rfl
  have hc1:kO cs o (jI ((s.setT k (es.length+1,e)).setL (some (k,es.length,v))) (.pen k es z)).cells=cs.set o (jI ((s.setT k (es.length+1,e)).setL (some (k,es.length,v))) (.pen k es z)):=by
   rw[(aCI _ k es z).1];rfl
  rw[hc2]at h7 h8;refine⟨vs,rest,h6,?_,?_⟩
  ·rw [hc1];refine ⟨by simpa using h7.1,fun i c u hc hu => ?_⟩;by_cases hi : o = i
   .subst hi;by_cases hlt:o<cs.length
    .rw[tG,if_pos rfl,if_pos hlt]at hc;cases hc;have h9:=h7.2 o _ u (by rw[tG,if_pos rfl,if_pos hlt]) hu;have hends:g.ends k es.length v:=hR.lst _ rfl
     have h10:Rz g (.pen k es z) u:=by
      simp only[jI]at h9;cases hl:s.ls with
      | none=>rw[hl]at h9;exact h9
      | some q =>
       rw[hl]at h9;simp only[aBv]at h9;split at h9
       .rename_i hc;exact aQh h9 hc.2.2 hends
       .exact h9
     exact aKk hR h10
    .rw[qW (by simp;omega)]at hc;cases hc
   .rw[List.getElem?_set_ne hi]at hc;exact h7.2 i c u (by rw[List.getElem?_set_ne hi];exact hc) hu
  .intro c hc;rw[hc1]at hc;obtain⟨i,hi,rfl⟩:=kN hc;have hi':i<cs.length:=by simpa using hi
   by_cases hio:o=i
   .subst hio;rw[List.getElem_set_self];exact(aCI _ k es z).2
   .rw[List.getElem_set_ne hio];exact h8 _ (cM (i:=i) (by rw[List.getElem?_set_ne hio,aY hi']))
 .simp only[hq,↓reduceIte]at hx;refine hR.obj q x ?_;rw[eD,kB,aJ,if_neg hq];rw[eD,kB]at hx;exact hx
theorem aOJ{e:Env}{a b:Option Oper}(h:aBk C e a b):∃t x y ty pos after t' x' y' ty' pos' after' k es z c o,
  a=some ⟨none,.store t x y,ty,pos,after,none⟩/\b=some ⟨none,.store t' x' y',ty',pos',after',none⟩ /\
  eT C e x=some (.rm k es.length z)/\eT C e x'=some (.ptr c o)/\eT C e y'=some (.pen k es z):=by
 unfold aBk at h;split at h;rotate_left
 .exact h.elim
 rename_i t x y ty pos after t' x' y' ty' pos' after';unfold aGw at h;split at h;rotate_left
 .exact h.elim
 rename_i a b c ha hb hc;split at h;rotate_left
 .exact h.elim
 split at h;rotate_left
 .exact h.elim
 split at h;rotate_left
 .exact h.elim
 obtain⟨rfl,rfl,rfl⟩:=h;exact⟨t,x,y,ty,pos,after,t',x',y',ty',pos',after',_,_,_,_,_,rfl,rfl,ha,hb,hc⟩
theorem aOy{l:Array Bool}(h:aFQ ops l=true){m:Nat}{om:Oper}(hm:ops[m]?=some om)(hl:sF om.op=true):Dead ops m l:=by
 simp only[aFQ,iH,uS]at h;have h1:=h m (jA.1 hm).1;simp only[hm,hl,eV,iJ,List.any_eq_true,uS,cL]at h1;obtain⟨j,hj,⟨h2,h3⟩,h4⟩:=h1;cases ho:ops[j]? with
 | none=>simp[vV,ho]at h2
 | some o =>
  simp only[vV,ho]at h2;exact⟨j,o,ho,h2,h3,aGh ops.toList [] (λk=>by simp) (λk m hk=>by simp at hk) j m h4⟩
theorem aRL(hKR:∀e s s',Rle C s s'->K e s'->K e s){f:Nat}{l:Array Bool}{i j:Nat}{e:Env}(ht:pX ops (f+1) l (.pair i j)=true)(hdc:DC ops l)(hc:pV ops W l s)
  (hW:∀w,w∈W->∃o,ops[w.1]?=some o/\sF o.op=true)
  (h:iI C n (ops.toList.map (·.dst)) ops.toList E K Kp (.pair i j) W e s):gP C n ops K Kp W (f+1) l e s:=by
 simp only[pX,cL,List.contains_iff_mem,iH,qB,beq_iff_eq,oG,aAJ,ne_eq,List.isEmpty_iff]at ht;obtain⟨⟨⟨⟨⟨⟨⟨⟨hi,hj⟩,hz⟩,hij⟩,hzi⟩,hzj⟩,hnil⟩,hdead⟩,hf⟩:=ht;obtain⟨f,rfl⟩:∃f',f=f'+1:=⟨f-1,by have:=lM hf;omega⟩
 have chkAll:∀(l':Array Bool) (s':St),(∀m,Dead ops m l->Dead ops m l')->pV ops W l' s':=λl' s' hl w hw hnd=>by
  obtain⟨om,h1,h2⟩:=hW w hw;exact absurd (hl _ (aOy hdead h1 h2)) hnd
 have hnil':Region.ready .any ops ((l.setIfInBounds j true).setIfInBounds i true)=[]:=by rw[Array.setIfInBounds_comm _ _ (λe=>hij e.symm)];exact hnil
 have last:∀(l':Array Bool) (e:Env) (s:St),Region.ready .any ops l'=[]->(∀m,Dead ops m l->Dead ops m l')->K e s->gP C n ops K Kp W f l' e s:=by
  intro l' e s h1 h2 h3;cases f with
  | zero=>exact⟨chkAll _ _ h2,h1,h3⟩
  | succ f=>exact⟨chkAll _ _ h2,λ_=>h3,λm hm=>by have:=yZ hm;rw[h1]at this;cases this⟩
 simp only[iI,aF3,aBI]at h;obtain⟨hp,hs⟩:=h;obtain⟨t,x,y,ty,pos,after,t',x',y',ty',pos',after',k,es,z,c,o,ho,ho',hx,hx',hy'⟩:=aOJ hp;rw[ho,ho']at hs;simp only[lL,jZ,nH,bF,hx,hx',hy']at hs;cases hy:eT C e y with
 | none=>rw[hy]at hs;exact hs.elim
 | some v =>
 cases hti:C.tt t with
 | none=>rw[hy,hti]at hs;exact hs.elim
 | some ti =>
 rw[hy,hti]at hs;simp only[sZ]at hs;cases htk:s.getT k with
 | none=>rw[htk]at hs;exact hs.elim
 | some me =>
 obtain⟨m,te0⟩:=me;rw[htk]at hs;simp only at hs;cases hte:C.tt te0 with
 | none=>rw[hte]at hs;exact hs.elim
 | some te =>
 rw[hte]at hs;obtain⟨⟨rfl,hz1,hz2,hz3,hz4⟩,hck,hs⟩:=hs;simp only[cQ,hx',hy']at hs;cases hti':C.tt t' with
 | none=>rw[hti']at hs;exact hs.elim
 | some ti' =>
 rw[hti']at hs;simp only[eD,kB]at hs;cases hb:s.getO c with
 | none=>rw[hb]at hs;exact hs.elim
 | some ob =>
 cases ob with
 | iter _ _=>rw[hb]at hs;exact hs.elim
 | cells E0 cs =>
 rw[hb]at hs;obtain⟨hcd,_,hK⟩:=hs;simp only[cQ]at hK;have hones:=λs':St=>aCI s' k es z
 have hsz:1=ti'.sz/\o+1<=cs.length:=by
  obtain⟨q1,q2,_⟩:=hcd;rw[(hones _).1]at q1 q2;exact⟨q1,q2⟩
 have hK2:=hKR e _ _ (aQF (C:=C) (s:=s) (e:=te0) (b:=c) (o:=o) (E:=E0) (cs:=cs) hz3) hK;refine⟨hc,λhr=>(by rw[hr]at hi;cases hi),λq hq oq hoq=>?_⟩;rcases hz q hq with rfl|rfl
 .rw[ho]at hoq;cases hoq;simp only[kA,bF,hx,hy,hti,sZ,htk,hte,cQ];refine⟨⟨trivial,hz1,hz2,hz3,hz4⟩,chkAll _ _ (λm hm=>hm.set),λhr=>?_,λq2 hq2 oq2 hoq2=>?_⟩
  .have:=ready_mono hj (λe=>hij e.symm);rw[hr]at this;cases this
  .have:=hzi q2 hq2;subst this;rw[ho']at hoq2;cases hoq2;simp only[kA,bF,hx',hy',hti',eD,kB,hb,cQ];exact⟨hcd,last _ _ _ hnil (λm hm=>hm.set.set) hK⟩
 .rw[ho']at hoq;cases hoq;simp only[kA,bF,hx',hy',hti',hb,cQ];refine⟨?_,chkAll _ _ (λm hm=>hm.set),λhr=>?_,λq2 hq2 oq2 hoq2=>?_⟩
  .rw[(hones s).1];refine⟨hsz.1,hsz.2,?_⟩;simp only[fP,List.all_cons,List.all_nil,(hones s).2];rfl
  .have:=ready_mono hi hij;rw[hr]at this;cases this
  .have:=hzj q2 hq2;subst this;rw[ho]at hoq2;cases hoq2;simp only[kA,bF,hx,hy,hti,sZ,St.getT_setO,htk,hte,cQ];exact⟨⟨trivial,hz1,hz2,hz3,hz4⟩,last _ _ _ hnil' (λm hm=>hm.set.set) hK2⟩
theorem aIx{t:OT}{e:Env}:iI C n (ops.toList.map (·.dst)) ops.toList E K Kp t W e s->∀x,x∈mF t ->
  lL C n (ops.toList.map (·.dst)) E x.1 (iI C n (ops.toList.map (·.dst)) ops.toList E K Kp x.2) W Kp e s (ops[x.1]?):=by
 induction t with
 | nil=>intro _ x hx;cases hx
 | node i r _ =>
  intro h x hx;simp only[mF,bW]at hx;subst hx;simp only[iI,aF3,aBI]at h;exact h
 | alt a b iha ihb =>
  intro h x hx;simp only[mF,cW]at hx;rcases hx with hx|hx
  .exact iha h.1 x hx
  .exact ihb h.2 x hx
 | pair i j=>intro _ x hx;cases hx
theorem aSN(hE:okE ops E=true)(hK:∀e e' s,(∀t,e.get t=e'.get t)->K e s->K e' s)(hKR:∀e s s',Rle C s s'->K e s'->K e s) :
  ∀(f:Nat) (l:Array Bool) (t:OT) (W:List (Nat × (St->Prop))) (e:Env) (s:St),pX ops f l t=true->DC ops l->pV ops W l s ->
   (∀w,w∈W->∃o,ops[w.1]?=some o/\sF o.op=true) ->
   iI C n (ops.toList.map (·.dst)) ops.toList E K Kp t W e s->gP C n ops K Kp W f l e s:=by
 intro f
 induction f with
 | zero =>
  intro l t W e s ht hdc hc hW h;cases t<;>simp only[pX]at ht<;>try cases ht
  exact⟨hc,by simpa using ht,h⟩
 | succ f ih =>
  intro l t W e s ht hdc hc hW h
  have eff:∀i r,i∈Region.ready .any ops l->vV ops i=true->pX ops f (l.setIfInBounds i true) r=true ->
    lL C n (ops.toList.map (·.dst)) E i (iI C n (ops.toList.map (·.dst)) ops.toList E K Kp r) W Kp e s (ops[i]?) ->
    ∀o,ops[i]?=some o->kA C (ops.toList.map (·.dst)) o (cQ n o.dst (gP C n ops K Kp W f (l.setIfInBounds i true)) e) Kp e s:=by
   intro i r hr he hk hs o ho;rw[ho]at hs;simp only[vV,ho]at he
   have hil:(l.setIfInBounds i true).getD i false=true:=by
    have:=(vJ (mem_ready.1 hr).1).1;simp[this]
   have done:∀e' s' v,(∀t,e.get t=e'.get t)->pV ops W (l.setIfInBounds i true) s' ->
     cQ n o.dst (iI C n (ops.toList.map (·.dst)) ops.toList E K Kp r W) e' s' v->cQ n o.dst (gP C n ops K Kp W f (l.setIfInBounds i true)) e s' v:=by
    intro e' s' v hee hc' hp;unfold cQ at *;cases hd:o.dst with
    | none=>rw[hd]at hp;exact xU hK _ _ _ _ _ (λt=>(hee t).symm) (ih _ r W e' s' hk (hdc.set hr) hc' hW hp)
    | some d =>
     rw[hd]at hp;refine⟨hp.1,xU hK _ _ _ _ _ (λt=>?_) (ih _ r W _ s' hk (hdc.set hr) hc' hW hp.2)⟩;rw[mS,mS];split<;>simp[hee]
   refine aRE he hs (λe' s' v hee hck hp=>done e' s' v hee (λw hw hl=>?_) hp) (λe' hee hp=>done e' s _ hee (λw hw hl=>hc w hw λhd=>hl hd.set) hp);obtain⟨om,h1,h2⟩:=hW w hw;rcases aS4 hE ho h1 he h2 with h3|h3
   .exact aKh hck hw h3
   .exact absurd ⟨i,o,ho,he,hil,h3⟩ hl
  cases t with
  | nil =>
   simp only[pX]at ht;have hnil:Region.ready .any ops l=[]:=by simpa using ht
   exact⟨hc,λ_=>h,λi hi=>by have hi:=yZ hi;rw[hnil]at hi;cases hi⟩
  | node i r =>
   simp only[pX]at ht;have hs:=aIx h (i,r) (by simp[mF]);simp only at hs;split at ht
   .rename_i heff;simp only[cL,List.contains_iff_mem,iH,beq_iff_eq]at ht;refine⟨hc,λhr=>(by rw[hr]at ht;cases ht.1.1),λj hj o ho=>?_⟩;have:=ht.1.2 j hj;subst this;exact eff _ r (yZ hj) heff ht.2 hs o ho
   .rename_i heff;simp only[cL,List.contains_iff_mem]at ht;obtain⟨o,ho⟩:=aOU ht.1.1;have heff':jZ o.op=false:=by simpa [vV,ho]using heff
    rw[ho]at hs;obtain⟨v,po,e',hee,h1,h2,h3⟩:=aQt heff' hs
    have next:cQ n o.dst (gP C n ops K Kp ((i,λs=>∀p,po=some p->p s)::W) f (l.setIfInBounds i true)) e s v:=by
     have hcl:pV ops W (l.setIfInBounds i true) s:=λw hw hl=>hc w hw λhd=>hl hd.set
     have fin:∀e1 s1,pV ops W (l.setIfInBounds i true) s1->(∀p,po=some p->p s1) ->
       (match po with|none=>iI C n (ops.toList.map (·.dst)) ops.toList E K Kp r W e1 s1|some p=>iI C n (ops.toList.map (·.dst)) ops.toList E K Kp r ((i,p)::W) e1 s1) ->
       gP C n ops K Kp ((i,λs=>∀p,po=some p->p s)::W) f (l.setIfInBounds i true) e1 s1:=by
      intro e1 s1 hc1 hp hx;cases hpo:po with
      | none =>
       rw[hpo]at hx;have:=aQP (i:=i) _ _ _ _ (ih _ r W e1 s1 ht.2 (hdc.set ht.1.1) hc1 hW hx);have e1:(λs:St=>∀p:St->Prop,(none:Option (St->Prop))=some p->p s)=λ_=>True:=by funext s;simp
       rw[e1];exact this
      | some p =>
       rw[hpo]at hx;have e1:(λs:St=>∀q:St->Prop,some p=some q->q s)=p:=by funext s;simp
       rw[e1];refine ih _ r _ _ s1 ht.2 (hdc.set ht.1.1) ?_ ?_ hx
       .intro w hw hl;cases hw with
        | head=>exact hp p hpo
        | tail _ hw=>exact hc1 w hw hl
       .intro w hw;cases hw with
        | head=>exact⟨o,ho,(h1 p hpo).1⟩
        | tail _ hw=>exact hW w hw
     unfold yR at h3;unfold cQ at *;cases hd:o.dst with
     | none =>
      rw[hd]at h3;refine xU hK _ _ e' _ _ (λt=>(hee t).symm) (fin e' s hcl (λp hp=>(h1 p hp).2) ?_);cases po<;>exact h3
     | some d =>
      rw[hd]at h3;have hd1:d<n:=by cases po<;>exact h3.1
      refine⟨hd1,xU hK _ _ (e'.put d v) _ _ (λt=>?_) (fin _ s hcl (λp hp=>(h1 p hp).2) ?_)⟩
      .rw[mS,mS];split<;>simp[hee]
      .cases po<;>exact h3.2
    exact aQL ho heff' hK v (λs=>∀p,po=some p->p s) f l e s hdc (Region.free_spec ho ht.1.2) ht.1.1 (λs' KV hp hk=>h2 s' KV hp hk) (λp hp=>(h1 p hp).2) hc next
  | alt a b =>
   simp only[pX,cL,iH,List.any_eq_true,beq_iff_eq,oG]at ht;obtain⟨⟨h0,h1⟩,h2⟩:=ht;refine⟨hc,λhr=>(by rw[hr]at h0;cases h0),λj hj o ho=>?_⟩;obtain⟨x,hx,rfl⟩:=h1 j hj;exact eff x.1 x.2 (yZ hj) (h2 x hx).1 (h2 x hx).2 (aIx h x hx) o ho
  | pair i j=>exact aRL hKR ht hdc hc hW h
theorem aQp{op:Op}{ρ:Operand->Option A}{KK KK':A->Option (St->Prop)->Prop}(h:uO C op ρ s KK)(hk:∀v po,KK v po->KK' v po):uO C op ρ s KK':=by
 cases op
 case load t x =>
  simp only[uO]at h⊢;cases hx:ρ x with
  | none=>rw[hx]at h;exact oI (C:=C) (ρ:=ρ) (op:=.load t x) (K:=uL KK) (K':=uL KK') h λv=>hk v none
  | some a =>
   rw[hx]at h;cases a
   case ptr b o =>
    simp only[tkX]at h⊢;cases hl:uA C t b o s with
    | none=>rw[hl]at h;exact h.elim
    | some v=>rw[hl]at h;exact hk _ _ h
   all_goals exact oI (C:=C) (ρ:=ρ) (op:=.load t x) (K:=uL KK) (K':=uL KK') h λv=>hk v none
 all_goals (simp only[uO]at h⊢;exact oI h λv=>hk v none)
theorem aFz{next next':List (Nat × (St->Prop))->Env->St->Prop}{i:Nat}{e:Env}{ds:List (Option Tmp)}(hn:∀W e s,next W e s->next' W e s){oo:Option Oper}
  (h:lL C n ds E i next W Kp e s oo):lL C n ds E i next' W Kp e s oo:=by
 have put:∀{dst:Option Tmp} {W:List (Nat × (St->Prop))} {e:Env} {s:St} {v:A},cQ n dst (next W) e s v->cQ n dst (next' W) e s v:=by
  intro dst W e s v h;unfold cQ at *;cases dst with
  | none=>exact hn _ _ _ h
  | some d=>exact⟨h.1,hn _ _ _ h.2⟩
 cases oo with
 | none=>exact h
 | some o =>
  obtain⟨dst,op,ty,pos,after,gd⟩:=o
  have ex:∀e,nH C n E i dst op next W Kp e s (jZ op)->nH C n E i dst op next' W Kp e s (jZ op):=by
   intro e h;cases he:jZ op with
   | true=>rw[he]at h;exact aCF h (λs' v hv=>⟨hv.1,put hv.2⟩) λ_ _ h=>h
   | false =>
    rw[he]at h;refine aQp h λv po hv=>?_
    cases po<;>exact put hv
  cases gd with
  | none=>exact ex e h
  | some jw =>
   obtain⟨j,want⟩:=jw;simp only[lL]at h⊢;cases ht:lX ds j with
   | none=>rw[ht]at h;exact h.elim
   | some t =>
    rw[ht]at h;simp only[gdY]at h⊢;cases hg:e.get t with
    | none=>rw[hg]at h;exact h.elim
    | some a =>
     rw[hg]at h;cases a<;>simp only[pY]at h⊢
     case bool b =>
      cases b<;>cases want<;>simp only at h⊢
      .exact ex _ h
      .exact put h
      .exact put h
      .exact ex _ h
     case tuple l=>exact put h
theorem aCw{K':Env->St->Prop}{ds:List (Option Tmp)}{os:List Oper}(hk:∀e s,K e s->K' e s):∀(t:OT) (W:List (Nat × (St->Prop))) (e:Env) (s:St),
  iI C n ds os E K Kp t W e s->iI C n ds os E K' Kp t W e s
 | .nil,W,e,s,h=>hk e s h
 | .node i r,W,e,s,h=>by
  simp only[iI]at h⊢;exact aFz (λW e s=>aCw hk r W e s) h
 | .alt a b,W,e,s,h=>⟨aCw hk a W e s h.1,aCw hk b W e s h.2⟩
 | .pair i j,W,e,s,h=>⟨h.1,aFz (λW e s h=>aFz (λW e s h=>hk e s h) h) h.2⟩
theorem aSB(n:Nat):tB (Array.replicate n false)<=n:=by simp[tB]
theorem aPu{tt:TypeId->Option TI}(h:aDc tt ops=true):∀i t o,ops[i]?=some o->late ops i=true->o.op=.alloc t->(tt t).isSome=true:=by
 intro i t o ho hl he;simp only[aDc,iH,uS]at h;have h1:=h i (jA.1 ho).1;simp only[hl,ho,he,eV,iJ]at h1;exact h1
theorem aRF{id:Nat}{V:List Nat}{Q0:XK->Env->St->Prop}{e:Env}(t:OT)(E:List (Nat × List Nat))
  (hm:C.P.follows .mixedOrders=true)
  (hck:(okE ops E&&pX ops ops.size (Array.replicate ops.size false) t&&aDc C.tt ops)=true)
  (h:iI C n (ops.toList.map (·.dst)) ops.toList E (mL V Q0) (yF Q0 (ops.toList.map (·.dst)) e) t [] e s):aDq C n id ops (nE (mL V Q0) Q0) e s:=by
 simp only[cL]at hck
 have hext:∀(e e':Env) (s:St),(∀t,e.get t=e'.get t)->(∃e2 s2,e.ge e2/\Rle C s s2/\mL V Q0 e2 s2)->∃e2 s2,e'.ge e2/\Rle C s s2/\mL V Q0 e2 s2 :=
  λe e' s he ⟨e2,s2,h1,h2⟩=>⟨e2,s2,λt a ha=>by rw[<-he t];exact h1 t a ha,h2⟩
 have hrle:∀(e:Env) (s s':St),Rle C s s'->(∃e2 s2,e.ge e2/\Rle C s' s2/\mL V Q0 e2 s2)->∃e2 s2,e.ge e2/\Rle C s s2/\mL V Q0 e2 s2 :=
  λe s s' hr ⟨e2,s2,h1,h2,h3⟩=>⟨e2,s2,h1,λF g w hR=>h2 F g w (hr F g w hR),h3⟩
 have mono:∀(t:OT) (W:List (Nat × (St->Prop))) (e':Env) (s:St),iI C n (ops.toList.map (·.dst)) ops.toList E (mL V Q0) (yF Q0 (ops.toList.map (·.dst)) e) t W e' s ->
   iI C n (ops.toList.map (·.dst)) ops.toList E (λe s=>∃e2 s2,e.ge e2/\Rle C s s2/\mL V Q0 e2 s2) (yF Q0 (ops.toList.map (·.dst)) e) t W e' s:=by
  exactλt W e s h=>aCw (λe s hk=>⟨e,s,Env.ge.refl e,Rle.refl s,hk⟩) t W e s h
 intro F g w a hR he;refine wp_region_any hm ?_
 have hdc:DC ops (Array.replicate ops.size false):=by
  intro j o ho hl;exfalso;by_cases hj:j<ops.size
  .simp[hj]at hl
  .simp[hj]at hl
 have hA:=aSN hck.1.1 hext hrle ops.size _ t [] e s hck.1.2 hdc (λw hw=>by cases hw) (λw hw=>by cases hw) (mono t [] e s h);refine aSO (aJW e) (Q:=nE (mL V Q0) Q0) (λe s hk=>hk) (λs v hk=>hk) (aPu hck.2) _ _ g e s a _ (aSB _) (gR g) ?_ he (aK3 he) rfl hA;exact hR.heap rfl
end
section
variable (C:Cx) (n:Nat) (ds:List (Option Tmp)) (ops:List Oper) (E:List (Nat × List Nat)) (K:Env->St->Prop) (Kp:St->A->Prop) (W:List (Nat × (St->Prop))) (e:Env) (s:St)
 (next:List (Nat × (St->Prop))->Env->St->Prop)(KK:A->Option (St->Prop)->Prop)
@[go_sem] theorem aVN(t:OT):OT.l [] t=t:=rfl
@[go_sem] theorem aVg(i:Nat)(r:List Nat)(t:OT):OT.l (i::r) t=.node i (OT.l r t):=rfl
@[go_sem] theorem aVA:iI C n ds ops E K Kp .nil W e s=K e s:=rfl
@[go_sem] theorem aVj(i:Nat)(r:OT):iI C n ds ops E K Kp (.node i r) W e s=lL C n ds E i (iI C n ds ops E K Kp r) W Kp e s (mI ops i):=rfl
@[go_sem] theorem aVL(a b:OT):iI C n ds ops E K Kp (.alt a b) W e s=(iI C n ds ops E K Kp a W e s/\iI C n ds ops E K Kp b W e s):=rfl
@[go_sem] theorem aVb(i j:Nat):iI C n ds ops E K Kp (.pair i j) W e s=(aBk C e (mI ops i) (mI ops j)/\lL C n ds E i (λW e s=>lL C n ds E j (λ_=>K) W Kp e s (mI ops j)) W Kp e s (mI ops i)):=rfl
@[go_sem] theorem aUN(o:Oper)(r:List Oper):mI (o::r) 0=some o:=rfl
@[go_sem] theorem aUP(o:Oper)(r:List Oper)(i:Nat):mI (o::r) (i+1)=mI r i:=rfl
@[go_sem] theorem aVd (i : Nat) (dst : Option Tmp) (op : Op) (ty : TypeId) (pos : String) (after : Array Edge) :
  lL C n ds E i next W Kp e s (some ⟨dst,op,ty,pos,after,none⟩)=nH C n E i dst op next W Kp e s (jZ op):=rfl
@[go_sem] theorem aUW (i : Nat) (dst : Option Tmp) (op : Op) (ty : TypeId) (pos : String) (after : Array Edge) (j : Nat) (want : Bool) :
  lL C n ds E i next W Kp e s (some ⟨dst,op,ty,pos,after,some (j,want)⟩)=gdY C n E i dst op next W Kp e s want (lX ds j):=rfl
@[go_sem] theorem aVm(i:Nat)(dst:Option Tmp)(op:Op)(want:Bool)(t:Nat):gdY C n E i dst op next W Kp e s want (some t)=pY C n E i dst op next W Kp e s t want (e.get t):=rfl
@[go_sem] theorem aV8(i:Nat)(dst:Option Tmp)(op:Op)(t:Nat):pY C n E i dst op next W Kp e s t true (some (.bool true))=nH C n E i dst op next W Kp (e.put t (.bool true)) s (jZ op):=rfl
@[go_sem] theorem aWe(i:Nat)(dst:Option Tmp)(op:Op)(t:Nat):pY C n E i dst op next W Kp e s t true (some (.bool false))=cQ n dst (next W) (e.put t (.bool false)) s (.tuple []):=rfl
@[go_sem] theorem aVV(i:Nat)(dst:Option Tmp)(op:Op)(t:Nat):pY C n E i dst op next W Kp e s t false (some (.bool true))=cQ n dst (next W) (e.put t (.bool true)) s (.tuple []):=rfl
@[go_sem] theorem aVU(i:Nat)(dst:Option Tmp)(op:Op)(t:Nat):pY C n E i dst op next W Kp e s t false (some (.bool false))=nH C n E i dst op next W Kp (e.put t (.bool false)) s (jZ op):=rfl
@[go_sem] theorem aWk (i : Nat) (dst : Option Tmp) (op : Op) (t : Nat) (want : Bool) (l : List A) : pY C n E i dst op next W Kp e s t want (some (.tuple l)) = cQ n dst (next W) e s (.tuple []) := by
  cases want<;>rfl
@[go_sem] theorem aVr(i:Nat)(dst:Option Tmp)(op:Op):nH C n E i dst op next W Kp e s true=bF C op (eT C e) (aGB n dst (yE E i) next W e) Kp s:=rfl
@[go_sem] theorem aUM(i:Nat)(dst:Option Tmp)(op:Op):nH C n E i dst op next W Kp e s false=uO C op (eT C e) s (yR n dst i next W e s):=rfl
@[go_sem] theorem aVM(dst:Option Tmp)(ms:List Nat)(v:A):aGB n dst ms next W e s v=(wE ms s W/\cQ n dst (next W) e s v):=rfl
@[go_sem] theorem aVh(dst:Option Tmp)(i:Nat)(v:A):yR n dst i next W e s v none=cQ n dst (next W) e s v:=rfl
@[go_sem] theorem aU8(dst:Option Tmp)(i:Nat)(v:A)(p:St->Prop):yR n dst i next W e s v (some p)=cQ n dst (next ((i,p)::W)) e s v:=rfl
@[go_sem] theorem aVZ(v:A):uL KK v=KK v none:=rfl
@[go_sem] theorem aU7(t:TypeId)(b o:Nat)(v:A):tkL C t b o KK (some v)=KK v (some (aGn C t b o v)):=rfl
@[go_sem] theorem aVw(t:TypeId)(op:Op)(ρ:Operand->Option A)(b o:Nat):tkX C t op ρ s KK (some (.ptr b o))=tkL C t b o KK (uA C t b o s):=rfl
@[go_sem] theorem aU3(t:TypeId)(op:Op)(ρ:Operand->Option A)(cs:List A)(o:Nat):tkX C t op ρ s KK (some (.eptr cs o))=cK C op ρ (uL KK):=rfl
@[go_sem] theorem aUE(t:TypeId)(b o:Nat)(v:A):aGn C t b o v s=(uA C t b o s=some v):=rfl
@[go_sem] theorem aVF(ms:List Nat):wE ms s []=True:=rfl
@[go_sem] theorem aVf(ms:List Nat)(m:Nat)(p:St->Prop):wE ms s ((m,p)::W)=((if ms.elem m=true then p s else True)/\wE ms s W):=rfl
end
attribute [go_sem] aBk aGw jZ yE uA uO aDm aDg aJ5
end
section
def A.le(a b:A):Prop:=∀g v,Rz g a v->Rz g b v
theorem bB(a:A):a.le a:=λ_ _ h=>h
theorem A.le.trans{a b c:A}(h:a.le b)(h':b.le c):a.le c:=λg v x=>h' g v (h g v x)
theorem A.le.nils(tk:Option Nat)(h:tk=none):A.le .nils (.list tk []):=λg v x=>by
 subst h;cases x;exact .list0 none none 0 (aU _) bD
theorem A.le.nil:A.le .nils (.list none []):=A.le.nils none rfl
theorem A.le.forget(tk:Option Nat)(es:List A):A.le (.list tk es) (.list none es):=λg v x=>x.forget
def rO:List A->List A->Prop
 | [],[]=>True
 | a::r,b::l=>(a.le b/\b.one=true)/\rO r l
 | _,_=>False
theorem aCy:∀{l r:List A},rO l r->l.length=r.length
 | [],[],_=>rfl
 | _::_,_::_,h=>by simp[aCy h.2]
 | [],_::_,h=>h.elim
 | _::_,[],h=>h.elim
theorem xK:∀{l r:List A},rO l r->∀(j:Nat) (b:A),r[j]?=some b->∃a,l[j]?=some a/\a.le b/\b.one=true
 | [],[],_,j,b,hb=>by simp at hb
 | a::r,b::l,h,j,c,hc=>by
  cases j with
  | zero=>simp at hc;subst hc;exact⟨a,by simp,h.1⟩
  | succ j=>obtain⟨x,hx⟩:=xK h.2 j c (by simpa using hc);exact⟨x,by simpa using hx⟩
 | [],_::_,h,_,_,_=>h.elim
 | _::_,[],h,_,_,_=>h.elim
theorem A.le.agg{l r:List A}(h:rO l r):A.le (.agg l) (.agg r):=λg v x=>by
 obtain⟨vs,rfl,hrs,hone⟩:=x.agg_inv;refine .agg r vs (by rw[hrs.1,aCy h]) (λc hc=>?_) λj c u hc hu=>?_
 .obtain⟨j,hj,rfl⟩:=kN hc;obtain⟨a,_,_,h1⟩:=xK h j r[j] (aY hj);exact h1
 .obtain⟨a,ha,h1,_⟩:=xK h j c hc;exact h1 g u (hrs.2 j a u ha hu)
def aDy:List A->List A->Prop
 | [],[]=>True
 | a::r,b::l=>a.le b/\aDy r l
 | _,_=>False
theorem aJR:∀{l r:List A},aDy l r->l.length=r.length
 | [],[],_=>rfl
 | _::_,_::_,h=>by simp[aJR h.2]
 | [],_::_,h=>h.elim
 | _::_,[],h=>h.elim
theorem aJp:∀{l r:List A},aDy l r->∀(j:Nat) (b:A),r[j]?=some b->∃a,l[j]?=some a/\a.le b
 | [],[],_,j,b,hb=>by simp at hb
 | a::r,b::l,h,j,c,hc=>by
  cases j with
  | zero=>simp at hc;subst hc;exact⟨a,by simp,h.1⟩
  | succ j=>obtain⟨x,hx⟩:=aJp h.2 j c (by simpa using hc);exact⟨x,by simpa using hx⟩
 | [],_::_,h,_,_,_=>h.elim
 | _::_,[],h,_,_,_=>h.elim
theorem A.le.tuple{l r:List A}(h:aDy l r):A.le (.tuple l) (.tuple r):=λg v x=>by
 obtain⟨vs,rfl,hrs⟩:=x.tuple_inv;refine .tuple r vs (by rw[hrs.1,aJR h]) λj c u hc hu=>?_
 obtain⟨a,ha,h1⟩:=aJp h j c hc;exact h1 g u (hrs.2 j a u ha hu)
def DK(KV:St->A->Prop)(s:St)(a:A):Prop:=∃s2 a2,s.ge s2/\a.le a2/\KV s2 a2
theorem DK.mk{KV:St->A->Prop}{s s2:St}{a a2:A}(h:KV s2 a2)(hs:s.ge s2)(ha:a.le a2):DK KV s a:=⟨s2,a2,hs,ha,h⟩
theorem DK.here{KV:St->A->Prop}{s:St}{a:A}(h:KV s a):DK KV s a:=⟨s,a,aM s,bB a,h⟩
theorem aP{KV:St->A->Prop}{s s2:St}{a:A}(h:KV s2 a)(hs:s.ge s2):DK KV s a:=⟨s2,a,hs,bB a,h⟩
section
variable {C:Cx} {s:St} {f:FuncId} {args:List A} {KV Kp:St->A->Prop}
theorem Den.drop(h:Den C f args (DK KV) (DK Kp) s)(hd:C.det=false:=by rfl):Den C f args KV Kp s:=by
 have hdt:∀{a b:Nat},C.toCtx.det=true->a<=b:=λh=>by rw[show C.toCtx.det=false from hd]at h;cases h
 intro F g w vals hR hv;have:=h F g w vals hR hv;revert this;generalize (callFunc f vals.toArray).run C.P w=r;intro hr;cases r with
 | ok x w' =>
  cases x<;>simp only[OutV]at hr⊢
  .obtain⟨g',a,s',a1,a2,a3,s2,b,h1,h2,h3⟩:=hr;exact⟨g',b,s2,a1,a2.weaken h1 hdt,h2 _ _ a3,h3⟩
  .obtain⟨g',s',a1,a2,s2,b,h1,h2,h3⟩:=hr;have ht:=h2 g' _ (.tuple [] [] rfl bD)
   have hl:b=.tuple []:=by
    generalize hvv:(Value.tuple ([]:List Value).toArray)=v at ht;cases ht<;>first|(cases hvv;done)|skip
    rename_i cs vs hl _;have h0:vs=[]:=by simpa using hvv.symm
    subst h0;rw[fK hl.symm]
   subst hl;exact⟨g',s2,a1,a2.weaken h1 hdt,h3⟩
  .refine Calls.mono hr λen w'' hp=>?_
   cases en with
   | returned v=>obtain⟨g',a,s',a1,a2,a3,s2,b,h1,h2,h3⟩:=hp;exact⟨g',b,s2,a1,a2.weaken h1 hdt,h2 _ _ a3,h3⟩
   | panicked mF=>obtain⟨g',a,v,s',a0,a1,a2,a3,s2,b,h1,h2,h3⟩:=hp;exact⟨g',b,v,s2,a0,a1,a2.weaken h1 hdt,h2 _ _ a3,h3⟩
   | outgrown=>exact hp
 | halt x w' =>
  cases x<;>simp only[OutV]at hr⊢
  obtain⟨g',a,s',a1,a2,a3,s2,b,h1,h2,h3⟩:=hr;exact⟨g',b,s2,a1,a2.weaken h1 hdt,h2 _ _ a3,h3⟩
end
@[go_sem] theorem aI (s : St) (b c : Nat) (o : Ob) : ((s.setO b o).getO c = none) = ((b ≠ c ∧ c ≠ b) ∧ s.getO c = none) := by
  rw[aJ];by_cases h:b=c
  · subst h;simp
  · have h':¬ c=b:=λe=>h e.symm
    simp[h,h']
theorem cE{s:St}{b c:Nat}{o:Ob}(h:s.getO b=some o)(h':s.getO c=none):b≠c/\c≠b:=by
 constructor
 .rintro rfl;rw[h]at h';cases h'
 .rintro rfl;rw[h]at h';cases h'
attribute [go_sem] aJ kB St.getT_setO dE
def aN:=@DK.here
end
section
def eqK:Nat->A->A->Option Bool
 | 0,.int j a,.int k b=>if j=k then some (decide (a=b)) else none
 | 1,.bool a,.bool b=>some (a == b)
 | 2,.str a,.str b=>some (decide (a=b))
 | _,_,_=>none
def zS:List Nat->List A->List A->Option Bool
 | [],[],[]=>some true
 | k::ks,a::r,b::l=>match eqK k a b,zS ks r l with
  | some x,some y=>some (x&&y)
  | _,_=>none
 | _,_,_=>none
def tV(P:Program)(t:TypeId)(k:Nat):Bool:=match P.underlying t with
 | some (.int _)=>k == 0
 | some .bool=>k == 1
 | some .string=>k == 2
 | _=>false
def aCK(P:Program):List Field->List Nat->Nat->Bool
 | [],[],_=>true
 | f :: r,k :: ks,i => (f.name != "_") && f.offset == i && tV P f.type k && aCK P r ks (i + 1)
 | _,_,_=>false
def aLO(P:Program)(t:TypeId)(ks:List Nat):Bool :=
 !P.stoodInHeld t&&!P.eqGuardType P.depth t&&(match P.underlying t with
  | some (.struct fs)=>aCK P fs.toList ks 0
  | _=>false)
section
variable {P:Program} {g:Gh} {w:World}
theorem aTL{a b:A}{r:Bool}{k:Nat}{t:TypeId}{va vb:Value}{d:Nat}(h:eqK k a b=some r)(ra:Rz g a va)(rb:Rz g b vb)(hk:tV P t k=true) :
  (Op.equalIn (d+1) t va vb).run P w=.ok r w:=by
 unfold eqK at h;split at h
 .split at h
  .rename_i hjk;subst hjk;simp only[bJ]at h;subst h;have hu:∃ik,P.underlying t=some (.int ik):=by unfold tV at hk;split at hk<;>simp_all
   obtain⟨ik,hu⟩:=hu;rw[ra.int_inv,rb.int_inv,run_equalIn_int w d t _ _ _ _ hu];congr 1
  .simp at h
 .simp only[bJ]at h;subst h;have hu:P.underlying t=some .bool:=by unfold tV at hk;split at hk<;>simp_all
  rw[ra.bool_inv,rb.bool_inv,run_equalIn_bool' w d t _ _ hu]
 .simp only[bJ]at h;subst h;have hu:P.underlying t=some .string:=by unfold tV at hk;split at hk<;>simp_all
  rw[ra.str_inv,rb.str_inv,run_equalIn_string w d t _ _ hu];simp only[ByteArray.toList_mk];congr 1;rw[Bool.eq_iff_iff];simp
 .simp at h
theorem aKC{t:TypeId}{k:Nat}(hk:tV P t k=true){xs:Array Value}{i:Nat}{v:Value}(hv:xs[i]?=some v):(part t xs i).run P w=.ok v w:=by
 unfold tV at hk
 split at hk<;>first
  | (rename_i hu;simp[part,isAgg,dX hu,hv];done)
  | (rename_i hu _;simp[part,isAgg,dX hu,hv];done)
  | (rename_i hu;simp only[part,isAgg,bP,dX hu,bN,cD,cJ,if_false,hv];done)
  | cases hk
theorem aHJ{d:Nat}{xs ys:Array Value}:∀{fs:List Field} {ks:List Nat} {az bs:List A} {i:Nat} {r:Bool},aCK P fs ks i=true->zS ks az bs=some r ->
  Rzs g az (xs.toList.drop i)->Rzs g bs (ys.toList.drop i)->(Op.eqFields (d+1) xs ys fs).run P w=.ok r w
 | [],[],[],[],i,r,_,h,_,_=>by simp only[zS,bJ]at h;subst h;rfl
 | f::fs,k::ks,a::az,b::bs,i,r,hf,h,ra,rb=>by
  simp only[aCK,cL,bne_iff_ne,beq_iff_eq]at hf;obtain⟨⟨⟨h1,rfl⟩,h3⟩,h4⟩:=hf;simp only[zS]at h;split at h
  .rename_i x y hx hy;simp only[bJ]at h;subst h;obtain⟨va,hva,hra⟩:=ra.get (j:=0) (c:=a) bD;obtain⟨vb,hvb,hrb⟩:=rb.get (j:=0) (c:=b) bD;rw[oW,Nat.add_zero,aBI]at hva hvb;have ih:=aHJ (d:=d) (i:=f.offset+1) h4 hy (by have:=ra.drop 1;simpa [tI]using this) (by have:=rb.drop 1;simpa [tI]using this);simp only[Op.eqFields,if_pos h1,ne_eq,h1,dK,if_true,bP,aKC h3 hva,aKC h3 hvb,bN,aTL hx hra hrb h3];cases x
   .simp
   .simp[ih]
  .simp at h
end
def eqT(B:List TypeId)(S:List (TypeId × List Nat))(N M:List TypeId)(t:TypeId):A->A->Option Bool
 | .nils,.nils=>if N.elem t then some true else none
 | .list _ (_::_),.nils=>if N.elem t then some false else none
 | .ml _ _ _,.nils=>if N.elem t then some false else none
 | .emp,.nils=>if N.elem t then some false else none
 | .nilp,.nilp=>if M.elem t then some true else none
 | .ptr _ _,.nilp=>if M.elem t then some false else none
 | .ptr a o,.ptr b p=>if M.elem t&&Nat.beq a b&&Nat.beq o p then some true else none
 | .bool a,.bool b=>if B.elem t then some (a == b) else none
 | .agg az,.agg bs=>match S.lookup t with
  | some ks=>zS ks az bs
  | none=>none
 | _,_=>none
def aGE(P:Program)(t:TypeId):Bool:=match P.underlying t with
 | some (.slice _)=>true
 | _=>false
def aGC(P:Program)(t:TypeId):Bool:=match P.underlying t with
 | some (.pointer e)=>(match P.info? e with
  | some i=>i.size != 0
  | none=>false)
 | _=>false
def aDw(P:Program)(B:List TypeId)(S:List (TypeId × List Nat))(N M:List TypeId):Bool :=
 (B.all (λt=>tV P t 1)&&S.all λx=>aLO P x.1 x.2)&&(N.all (aGE P)&&M.all (aGC P))
section
variable {P:Program} {w:World} {t:TypeId}
theorem aBj(h:aGE P t=true)(a:Option Addr)(l c:Nat){op:BinOp}(hop:op=.eql\/op=.neq)(x y:Operand) :
  (eqGuard op t x y (.slice a l c) (.slice none 0 0)).run P w=.ok () w/\(binOp op t (.slice a l c) (.slice none 0 0)).run P w=.ok (.bool (if op=.eql then a.isNone else !a.isNone)) w:=by
 unfold aGE at h;split at h
 .rename_i e he;refine⟨by rcases hop with rfl|rfl<;>rfl,?_⟩;rcases hop with rfl|rfl
  .simp only[binOp,bP,run_equal_slice_nil w t e a l c he,bN,cD,if_true]
  .rw[run_neq_slice_nil w t e a l c he];simp
 .cases h
theorem aGp(h:aGC P t=true)(a:Option Addr)(b:Option Addr)(r:Bool)
  (hr:(a=none/\r=b.isNone)\/(b=none/\r=a.isNone)\/(∃k,a=some k/\b=some k/\r=true)){op:BinOp}(hop:op=.eql\/op=.neq)(x y:Operand) :
  (eqGuard op t x y (.pointer a) (.pointer b)).run P w=.ok () w/\(binOp op t (.pointer a) (.pointer b)).run P w=.ok (.bool (if op=.eql then r else !r)) w:=by
 unfold aGC at h;split at h
 .rename_i e he;split at h
  .rename_i i hi;have hn:i.size≠0:=by simpa using h
   have heq':∀d:Nat,(Op.equalIn (d+1) t (.pointer a) (.pointer b)).run P w=.ok r w:=by
    intro d;rcases hr with⟨rfl,rfl⟩|⟨rfl,rfl⟩|⟨k,rfl,rfl,rfl⟩
    .simp[Op.equalIn,dX he]
    .cases a<;>simp[Op.equalIn,dX he]
    .simp[Op.equalIn,dX he,sizeOf,typeInfo,hi,hn,run_sameAddr_same]
   have heq:(Op.equal t (.pointer a) (.pointer b)).run P w=.ok r w:=heq' 9999;refine⟨by rcases hop with rfl|rfl<;>rfl,?_⟩;rcases hop with rfl|rfl
   .simp only[binOp,bP,heq,bN,cD,if_true]
   .simp only[binOp,bP,heq,bN,cD,reduceCtorEq,if_false]
  .cases h
 .cases h
end
theorem aOd{S:List (TypeId × List Nat)}{t:TypeId}{ks:List Nat}(h:S.lookup t=some ks):(t,ks)∈S:=by
 induction S with
 | nil=>simp at h
 | cons x S ih =>
  obtain⟨u,l⟩:=x;simp only[List.lookup]at h;split at h
  .rename_i hb;have:t=u:=by simpa using hb
   cases h;subst this;simp
  .exact cT _ (ih h)
theorem aS5{P:Program}{B:List TypeId}{S:List (TypeId × List Nat)}{N M:List TypeId}(hok:aDw P B S N M=true)(t:TypeId)(a b:A)(r:Bool)(h:eqT B S N M t a b=some r)
  (g:Gh)(va vb:Value)(w:World)(op:BinOp)(x y:Operand)(hop:op=.eql\/op=.neq)(ra:Rz g a va)(rb:Rz g b vb) :
  (eqGuard op t x y va vb).run P w=.ok () w/\(binOp op t va vb).run P w=.ok (.bool (if op=.eql then r else !r)) w:=by
 simp only[aDw,cL,iH]at hok;obtain⟨hok,hN,hM⟩:=hok;unfold eqT at h;split at h
 .split at h
  .rename_i hn;cases h;rw[ra.nils_inv,rb.nils_inv];exact aBj (hN t (by simpa using hn)) none 0 0 hop x y
  .cases h
 .split at h
  .rename_i hn;cases h;obtain⟨ad,cap,hv,_,_,_,hh⟩:=ra.list_inv;rcases hh with hh|⟨bk,off,sz,pre,rfl,_⟩
   .cases hh
   rw[hv,rb.nils_inv];exact aBj (hN t (by simpa using hn)) (some ⟨bk,off,none⟩) _ _ hop x y
  .cases h
 .split at h
  .rename_i hn;cases h;obtain⟨k,cap,hv,_⟩:=ra.ml_inv;rw[hv,rb.nils_inv];exact aBj (hN t (by simpa using hn)) (some _) _ _ hop x y
  .cases h
 .split at h
  .rename_i hn;cases h;obtain⟨k,hv⟩:=ra.emp_inv;rw[hv,rb.nils_inv];exact aBj (hN t (by simpa using hn)) (some _) _ _ hop x y
  .cases h
 .split at h
  .rename_i hn;cases h;rw[ra.nilp_inv,rb.nilp_inv];exact aGp (hM t (by simpa using hn)) none none true (.inl ⟨rfl,rfl⟩) hop x y
  .cases h
 .split at h
  .rename_i hn;cases h;obtain⟨k,hv,_⟩:=ra.ptr_inv;rw[hv,rb.nilp_inv];exact aGp (hM t (by simpa using hn)) (some _) none false (.inr (.inl ⟨rfl,rfl⟩)) hop x y
  .cases h
 .split at h
  .rename_i a' o' b' p' hn;simp only[cL]at hn;cases h;have e1:=nI hn.1.2;have e2:=nI hn.2;subst e1 e2;obtain⟨k,hv,hk⟩:=ra.ptr_inv;obtain⟨k2,hv2,hk2⟩:=rb.ptr_inv;rw[hk]at hk2;cases hk2;rw[hv,hv2];exact aGp (hM t (by simpa using hn.1.1)) (some _) (some _) true (.inr (.inr ⟨_,rfl,rfl,rfl⟩)) hop x y
  .cases h
 .split at h
  .rename_i hb;simp only[bJ]at h;subst h;have hk:=hok.1 t (by simpa using hb)
   have hu:P.underlying t=some .bool:=by
    unfold tV at hk;split at hk<;>simp_all
   rw[ra.bool_inv,rb.bool_inv];refine⟨by rcases hop with rfl|rfl<;>rfl,?_⟩;rcases hop with rfl|rfl
   .simp only[binOp,bP,run_equal_bool w t _ _ hu,bN,cD,if_true]
   .simp only[binOp,bP,run_equal_bool w t _ _ hu,bN,cD,reduceCtorEq,if_false]
  .simp at h
 .split at h
  .rename_i ks hks;have hf:=hok.2 _ (aOd hks);simp only[aLO,cL,oG]at hf;obtain⟨⟨h1,h2⟩,h3⟩:=hf;split at h3
   .rename_i fs hu;obtain⟨vs,rfl,rvs,_⟩:=ra.agg_inv;obtain⟨us,rfl,rus,_⟩:=rb.agg_inv;have hfo:P.fieldsOf t=fs:=by simp[Program.fieldsOf,hu]
    have hrun:=aHJ (P:=P) (g:=g) (w:=w) (d:=9998) (i:=0) (xs:=vs.toArray) (ys:=us.toArray) h3 h (by simpa using rvs) (by simpa using rus)
    have heq:(Op.equalIn 10000 t (.agg vs.toArray) (.agg us.toArray)).run P w=.ok r w:=by
     rw[show 10000=9999+1 from rfl,run_equalIn_struct w 9999 t _ _ (by rw[hfo];exact hu) h1,hfo];exact hrun
    refine⟨run_eqGuard_agg w op t x y _ _ h2,?_⟩;rcases hop with rfl|rfl
    .rw[run_eql_struct,heq];rfl
    .rw[run_neq_struct,heq];rfl
   .simp at h3
  .simp at h
 .simp at h
attribute [go_sem] eqT zS eqK
end
end Go.AV
section
open Go.Proofs.Tryz
namespace Go.AV
open Go
section
variable {C:Cx} {n:Nat} {ds:List (Option Tmp)} {dst:Option Tmp} {op:Op} {r:List Oper} {K:Env->St->Prop} {Kp:St->A->Prop} {e:Env} {s:St} {t:Nat} {want b:Bool}
theorem kZ(h1:b=true->rR C n ds dst op r K Kp e s t want (some (.bool true)))(h2:b=false->rR C n ds dst op r K Kp e s t want (some (.bool false))) :
  rR C n ds dst op r K Kp e s t want (some (.bool b)):=by
 cases b
 .exact h2 rfl
 .exact h1 rfl
theorem lA{E:List (Nat × List Nat)}{i:Nat}{next:List (Nat × (St->Prop))->Env->St->Prop}{W:List (Nat × (St->Prop))}
  (h1:b=true->pY C n E i dst op next W Kp e s t want (some (.bool true)))(h2:b=false->pY C n E i dst op next W Kp e s t want (some (.bool false))) :
  pY C n E i dst op next W Kp e s t want (some (.bool b)):=by
 cases b
 .exact h2 rfl
 .exact h1 rfl
theorem kY{V:List Nat}{x y:Code}{Q:XK->Env->St->Prop}(h1:b=true->gQ C n V x Q e s)(h2:b=false->gQ C n V y Q e s) :
  brK C n V x y Q e s (some (.bool b)):=by
 cases b
 .exact h2 rfl
 .exact h1 rfl
end
theorem dS{s:St}{b:Nat}{o:Ob}(h:s.getO b=none):(s.setO b o).ge s :=
 ⟨fun c x hc => by
  rw[aJ];have:=cE hc h;simp[this.2,hc],λt n h=>h,λ_ h=>h⟩
theorem eC{s:St}{b:Nat}{o:Ob}{s2:St}(h:s2.getO b=none)(hs:s.ge s2):(s.setO b o).ge s2 :=
 ⟨fun c x hc => by
  rw[aJ];have:=cE hc h;simp[this.2,hs.ob c x hc],λt n h=>hs.tk t n h,λx h=>hs.ls x h⟩
end Go.AV
namespace Go.AV
open Go
theorem aG7:∀(vs p q:List A),q.length=vs.length->kO (p++q) p.length vs=p++vs
 | [],p,q,h=>by have:q=[]:=fK (by simpa using h);subst this;rfl
 | v::vs,p,[],h=>by simp at h
 | v::vs,p,x::q,h=>by
  have h1:=aG7 vs (p++[v]) q (by simpa using h);simp only[bI,aV,aW,aG,aE,aF,gI]at h1;simp only[kO];rw[List.set_append_right _ _ (bT _),Nat.sub_self];simpa using h1
@[go_sem] theorem aUu {z vs : List A} (h : z.length = vs.length) : kO z 0 vs = vs := by
  have:=aG7 vs [] z h;simpa using this
@[go_sem] theorem aUC (s : St) (b n cap : Nat) (e e' : TypeId) (sz m : Nat) (ys cs : List A) (KV : St → A → Prop) : sM false s b n cap e sz m ys KV (some (.cells e' cs)) =
  ((false=false/\e'=e/\cs.length=cap * sz/\n<=cap/\n+m<=4294967296/\0<m) /\
  ∀(b' cap':Nat) (J:List A),(b'=b/\cap'=cap\/s.getO b'=none)->n+m<=cap'->J.length=(cap'-(n+m)) * sz->(∀c,c∈J->c.one=true) ->
   KV (s.setO b' (.cells e (cs.take (n * sz)++(flat ys++J)))) (.mg b' (n+m) cap')):=rfl
attribute [go_sem] aDG
def gv(tk:Option Nat)(es:List A):A:=match tk with
 | none=>.nils
 | some t=>.list (some t) es
def nJ(s:St)(tk:Option Nat)(n:Nat)(e:TypeId):Prop:=match tk with
 | none=>n=0
 | some t=>s.getT t=some (n,e)
theorem aKI(es:List A):gv none es=.nils:=rfl
theorem dO(t:Nat)(es:List A):gv (some t) es=.list (some t) es:=rfl
@[go_sem] theorem aVn(tk:Option Nat)(es:List A):(gv tk es).cells=[gv tk es]:=by cases tk<;>rfl
@[go_sem] theorem rH(tk:Option Nat)(es:List A):(gv tk es).one=true:=by cases tk<;>rfl
@[go_sem] theorem aVO(s:St)(tk:Option Nat)(es:List A):jI s (gv tk es)=gv tk es:=by cases tk<;>rfl
theorem pF{s:St}{tk:Option Nat}{es:List A}{e:TypeId}(h:nJ s tk es.length e):mK (gv tk es)=some (.int .i64 es.length):=by
 cases tk with
 | none =>
  have h0:es.length=0:=h;simp only[gv,mK,h0];rfl
 | some t=>rfl
theorem dY{C:Cx}{s:St}{e:TypeId}{te:TI}{ys:List A}{KV:St->A->Prop}{tk:Option Nat}{es:List A}(hm:C.det=false)(hu:Nat.beq C.mu 1=false)(hg:nJ s tk es.length e)
  (he:∀y,y∈es->y.cells.length=te.sz)(hl:es.length+ys.length<=4294967296)
  (hK:∀t,(tk=some t\/tk=none/\s.getT t=none)->KV (s.setT t (es.length+ys.length,e)) (.list (some t) (es++ys))):qP C s e te ys KV (gv tk es):=by
 cases tk with
 | none =>
  have h0:es=[]:=fK hg;subst h0;refine⟨by simpa using hl,?_⟩;unfold oQ;rw[hm];simp only[hu];unfold newT;rw[hm];intro t ht;have:=hK t (.inr ⟨rfl,ht⟩);simpa using this
 | some t=>exact⟨hg,he,hl,hK t (.inl rfl)⟩
theorem aC9{α:Type}(p:Nat)(c d:α):∀L,oC p d (oC p c L)=oC p d L
 | []=>by simp[oC]
 | (q,x)::L=>by
  unfold oC;by_cases h:q=p
  .simp[h,oC]
  .simp[h,oC,aC9 p c d L]
@[go_sem] theorem mT (s : St) (b : Nat) (o o' : Ob) : (s.setO b o).setO b o' = s.setO b o' := by
  simp only[St.setO,aC9]
end Go.AV
namespace Go.AV
open Go
def Rlz(a:A):Prop:=∃g v,Rz g a v
theorem Rlz.len{tk:Option Nat}{es:List A}(h:Rlz (.list tk es)):es.length<=maxLen:=by
 obtain⟨g,v,h⟩:=h;obtain⟨ad,cap,hv,hm,hc,_⟩:=h.list_inv;omega
theorem Rlz.wrap{tk:Option Nat}{es:List A}(h:Rlz (.list tk es)){i:Nat}(hi:i<es.length):IntKind.i64.wrap ((i:Int)+1)=((i+1:Nat):Int):=by
 have:=h.len;unfold maxLen at this;exact cF i aB
theorem Rlz.cell{cs:List A}(h:Rlz (.agg cs)){c:A}(hc:c∈cs):Rlz c:=by
 obtain⟨g,v,h⟩:=h;obtain⟨vs,rfl,hrs,_⟩:=h.agg_inv;obtain⟨j,hj,rfl⟩:=kN hc;obtain⟨u,_,hu⟩:=hrs.get (aY hj);exact⟨g,u,hu⟩
theorem Rlz.elem{tk:Option Nat}{es:List A}(h:Rlz (.list tk es)){e:A}(he:e∈es){c:A}(hc:c∈e.cells):Rlz c:=by
 obtain⟨g,v,h⟩:=h;obtain⟨ad,cap,hv,hm,hcap,_,hr⟩:=h.list_inv;rcases hr with rfl|⟨b,off,sz,pre,rfl,hp,hl,hs,hone,hr⟩
 .cases he
 .obtain⟨i,hi,rfl⟩:=kN he;obtain⟨j,hj,rfl⟩:=kN hc;have h1:=hs _ (lN hi)
  have hb:i * sz+j<es.length * sz:=by
   have:(i+1) * sz<=es.length * sz:=oU _ hi;rw[gW]at this;omega
  exact⟨g,_,hr i _ j _ pre[off+i * sz+j] (aY hi) (aY hj) (aY aB)⟩
theorem Rlz.agg_elem{tk:Option Nat}{es:List A}(h:Rlz (.list tk es)){cs:List A}(he:A.agg cs∈es):Rlz (.agg cs):=by
 obtain⟨g,v,h⟩:=h;obtain⟨ad,cap,hv,hm,hcap,_,hr⟩:=h.list_inv;rcases hr with rfl|⟨b,off,sz,pre,rfl,hp,hl,hs,hone,hr⟩
 .cases he
 .obtain⟨i,hi,hie⟩:=kN he;have h1:=hs _ he
  have hb:i * sz+sz<=es.length * sz:=by
   have:(i+1) * sz<=es.length * sz:=oU _ hi
   rwa[gW,Nat.one_mul]at this
  have hcl:cs.length=sz:=h1;refine⟨g,.agg ((pre.drop (off+i * sz)).take sz).toArray,.agg cs _ (by rw[bK,dR];omega) (λc hc=>hone _ he c hc) λj c v hc hv=>?_⟩;rw[nK]at hv;split at hv
  .rw[oW]at hv;exact hr i (.agg cs) j c v (by rw[aY hi,hie]) hc hv
  .cases hv
section
variable {C:Cx} {s:St} {f:FuncId} {args:List A} {KV Kp:St->A->Prop}
theorem jD(h:(∀a,a∈args->Rlz a)->Den C f args KV Kp s):Den C f args KV Kp s:=λF g w vals hR hv =>
 h (λa ha=>by
  obtain⟨j,hj,rfl⟩:=kN ha;obtain⟨u,_,hu⟩:=hv.get (aY hj);exact⟨g,u,hu⟩) F g w vals hR hv
end
end Go.AV
end
namespace Go.AV
open Go Go.Proofs Tryz
theorem aM0{C:Cx}{f:FuncId}{args:List A}{s:St}{KV Kp:St->A->Prop}
  (hent:∀vals w,(callFunc f vals).run C.P w=.ok (.enter f vals) w)
  (h : ∀ F g w vals,R C.toCtx F g s w → Rzs g args vals → Calls C.P f vals.toArray w fun e w' =>
   ∃v a,e=.returned v/\(∀k,k<w.heap.size->w'.heap[k]?=w.heap[k]?)/\(w'.os,w'.output)=(w.os,w.output)/\Rz g a v/\KV s a):Den C f args KV Kp s:=by
 intro F g w vals hR hv;rw[hent];refine Calls.mono (h F g w vals hR hv) λe w' hp=>?_
 obtain⟨v,a,rfl,hk,he,hr,hK⟩:=hp;exact⟨g,a,s,gR g,hR.keep hk he,hr,hK⟩
inductive Tr (α:Type) where
 | lf
 | nd (l:Tr α) (v:Option α) (r:Tr α)
def Tr.get{α:Type}:Tr α->Nat->Option α
 | .lf,_=>none
 | .nd l v r,n=>match n with
  | 0=>v
  | k+1=>match Nat.beq (k % 2) 0 with
   | true=>l.get (k / 2)
   | false=>r.get (k / 2)
def aF7:Code->Option (FuncId × Operand)
 | .region _ ops draw=>match draw with
  | true=>none
  | false=>match ops.toList with
   | [o]=>match o.dst,o.guard,o.op with
    | none,none,.defer c=>match c.callee,c.args.toList with
     | .value (.func h),[x]=>some (h,x)
     | _,_=>none
    | _,_,_=>none
   | _=>none
 | _=>none
theorem aM1{C:Cx}{f:FuncId}{fn:Func}{c:Code}{args:List A}{KV Kp:St->A->Prop}{s:St}(hf:C.P.funcs[f]?=some fn)(hb:fn.body=some c)
  (hname : (fn.name == "runtime.NumGoroutine") = false) (hn : args.length ≤ fn.ntmps)
  (h:∀F g w (a:Act),R C.toCtx F g s w->EnvOk g fn.ntmps (pS 0 args) a.tmps->a.defers=[]->c.wp C.P (bodyPostD C.P fn (aAj C F g KV Kp)) a w):Den C f args KV Kp s:=by
 intro F g w vals hR hv
 have hcf:(callFunc f vals.toArray).run C.P w=.ok (.enter f vals.toArray) w:=by
  simp only[callFunc,bP,run_program,bN,hf,hname,cJ,↓reduceIte,hb,Option.isNone_some,cD]
 rw[hcf];refine calls_of_wp_defers hf hb ?_
 have hE:EnvOk g fn.ntmps (pS 0 args) (vals.toArray++Array.replicate (fn.ntmps-vals.toArray.size) undef):=by
  have hl:vals.length=args.length:=hv.1;refine⟨by simp;omega,λt a ha=>?_⟩;obtain⟨_,h2⟩:=aFp args 0 t a ha;obtain⟨u,hu,hr⟩:=hv.get h2;rw[Nat.sub_zero]at hu;refine⟨u,?_,hr⟩;have:t<vals.length:=(dV.1 hu).1;rw[Array.getElem?_append_left (by simpa using this)];simpa using hu
 exact h F g w ⟨_,[]⟩ hR hE rfl
def yM(h k:Nat):Deferred:={ target:=.fn (.func h) #[],args:=#[.pointer (some ⟨k,0,none⟩)] }
theorem aOc{c:Code}{h:FuncId}{x:Operand}(hc:aF7 c=some (h,x)):∃id ops ats ty pos after,c=.region id ops false/\ops.toList=[⟨none,.defer ⟨.value (.func h),#[x],ats⟩,ty,pos,after,none⟩]:=by
 unfold aF7 at hc;split at hc
 .rename_i id ops draw;split at hc
  .cases hc
  .split at hc
   .rename_i o ho;split at hc
    .rename_i c hd hg hop;split at hc
     .rename_i h' x' hcal hargs;cases hc;obtain⟨dst,op,ty,pos,after,gd⟩:=o;obtain⟨cal,args,ats⟩:=c;simp only at hd hg hop hcal hargs;subst hd hg hop hcal;refine⟨id,ops,ats,ty,pos,after,rfl,?_⟩;rw[ho];have:args=#[x]:=by apply Array.ext';exact hargs
      rw[this]
     .cases hc
    .cases hc
   .cases hc
 .cases hc
def St.zero:St:=⟨λ_=>none,[],λ_=>none,[],0,none⟩
@[go_sem] def y1:TI:=⟨.other,1,8,[.nilf]⟩
@[go_sem] def y2:TI:=⟨.int .i64,1,8,[.int .i64 0]⟩
@[go_sem] def y3:TI:=⟨.bool,1,1,[.bool false]⟩
@[go_sem] def y4:TI:=⟨.int .u8,1,1,[.int .u8 0]⟩
@[go_sem] def y5:TI:=⟨.struct [(0,1,false),(1,1,false),(2,1,false),(3,1,false)],4,24,[.int .i64 0,.int .i64 0,.bool false,.int .u8 0]⟩
@[go_sem] def y6:TI:=⟨.string,1,16,[.str []]⟩
@[go_sem] def y7:TI:=⟨.int .u64,1,8,[.int .u64 0]⟩
@[go_sem] def y8:TI:=⟨.struct [(0,1,false),(1,1,false)],2,24,[.str [],.int .u64 0]⟩
@[go_sem] def y9:TI:=⟨.other,1,8,[.nilp]⟩
@[go_sem] def y10:TI:=⟨.struct [(0,1,false)],1,8,[.nilp]⟩
@[go_sem] def y11:TI:=⟨.iface,1,16,[.nili]⟩
@[go_sem] def y12:TI:=⟨.int .i32,1,4,[.int .i32 0]⟩
@[go_sem] def y13:TI:=⟨.slice 9,1,24,[.nils]⟩
@[go_sem] def y14:TI:=⟨.slice 104,1,24,[.nils]⟩
@[go_sem] def y15:TI:=⟨.slice 73,1,24,[.nils]⟩
@[go_sem] def y16:TI:=⟨.struct [(0,1,false),(1,1,false),(2,1,false),(3,1,false),(4,1,false)],5,120,[.nils,.nils,.nils,.nils,.nils]⟩
@[go_sem] def y17:TI:=⟨.slice 80,1,24,[.nils]⟩
@[go_sem] def y18:TI:=⟨.slice 68,1,24,[.nils]⟩
@[go_sem] def y19:TI:=⟨.slice 84,1,24,[.nils]⟩
@[go_sem] def y20:TI:=⟨.struct [(0,1,false),(1,5,true),(6,1,false),(7,1,false),(8,1,false),(9,1,false),(10,1,false),(11,1,false),(12,1,false)],13,280,[.str [],.nils,.nils,.nils,.nils,.nils,.nils,.nils,.str [],.nils,.nils,.str [],.str []]⟩
@[go_sem] def y21:TI:=⟨.struct [(0,1,false),(1,1,false),(2,1,false),(3,1,false)],4,40,[.int .i64 0,.str [],.int .i64 0,.int .i64 0]⟩
@[go_sem] def y22:TI:=⟨.slice 43,1,24,[.nils]⟩
@[go_sem] def y23:TI:=⟨.struct [(0,1,false),(1,1,false),(2,1,false),(3,1,false),(4,1,false),(5,1,false)],6,96,[.int .i64 0,.int .i64 0,.str [],.str [],.nils,.nils]⟩
@[go_sem] def y24:TI:=⟨.slice 60,1,24,[.nils]⟩
@[go_sem] def y25:TI:=⟨.struct [(0,1,false),(1,1,false),(2,1,false),(3,1,false),(4,1,false)],5,48,[.int .i64 0,.str [],.int .i64 0,.int .i64 0,.int .i64 0]⟩
@[go_sem] def y26:TI:=⟨.struct [(0,1,false),(1,1,false),(2,6,true),(8,1,false),(9,1,false)],10,144,[.str [],.str [],.int .i64 0,.int .i64 0,.str [],.str [],.nils,.nils,.int .i64 0,.int .i64 0]⟩
@[go_sem] def y27:TI:=⟨.slice 143,1,24,[.nils]⟩
@[go_sem] def y28:TI:=⟨.slice 3,1,24,[.nils]⟩
@[go_sem] def y29:TI:=⟨.struct [(0,1,false),(1,1,false),(2,1,false),(3,1,false),(4,1,false),(5,1,false),(6,1,false)],7,120,[.str [],.nils,.str [],.nils,.int .i64 0,.int .i64 0,.nils]⟩
@[go_sem] def y30:TI:=⟨.struct [(0,6,true),(6,6,true),(12,1,false),(13,1,false),(14,1,false)],15,232,[.int .i64 0,.int .i64 0,.str [],.str [],.nils,.nils,.int .i64 0,.int .i64 0,.str [],.str [],.nils,.nils,.nils,.int .i64 0,.int .i64 0]⟩
@[go_sem] def y31:TI:=⟨.slice 86,1,24,[.nils]⟩
@[go_sem] def y32:TI:=⟨.slice 141,1,24,[.nils]⟩
@[go_sem] def y33:TI:=⟨.struct [(0,1,false),(1,1,false),(2,1,false),(3,1,false),(4,1,false),(5,1,false),(6,1,false)],7,128,[.str [],.nils,.nils,.nils,.nils,.int .i64 0,.int .i64 0]⟩
@[go_sem] def y34:TI:=⟨.struct [(0,1,false),(1,1,false),(2,6,true),(8,1,false),(9,1,false),(10,1,false)],11,168,[.str [],.str [],.int .i64 0,.int .i64 0,.str [],.str [],.nils,.nils,.nils,.int .i64 0,.int .i64 0]⟩
@[go_sem] def y35:TI:=⟨.struct [(0,1,false),(1,1,false),(2,4,true),(6,13,true),(19,5,true),(24,1,false),(25,1,false)],26,416,[.nils,.int .i64 0,.int .i64 0,.str [],.int .i64 0,.int .i64 0,.str [],.nils,.nils,.nils,.nils,.nils,.nils,.nils,.str [],.nils,.nils,.str [],.str [],.int .i64 0,.str [],.int .i64 0,.int .i64 0,.int .i64 0,.int .i64 0,.bool false]⟩
@[go_sem] def y36:TI:=⟨.struct [(0,1,false),(1,1,false),(2,1,false),(3,1,false),(4,4,true),(8,1,false),(9,1,false),(10,1,false),(11,13,true)],24,392,[.nils,.int .i64 0,.int .i64 0,.int .i64 0,.int .i64 0,.str [],.int .i64 0,.int .i64 0,.int .i64 0,.int .i64 0,.bool false,.str [],.nils,.nils,.nils,.nils,.nils,.nils,.nils,.str [],.nils,.nils,.str [],.str []]⟩
@[go_sem] def qS:TI:=⟨.struct [(0,1,false),(1,1,false)],2,32,[.str [],.str []]⟩
@[go_sem] def y38:TI:=⟨.struct [(0,1,false),(1,1,false),(2,1,false),(3,1,false),(4,1,false),(5,1,false),(6,4,true)],10,128,[.str [],.int .i64 0,.int .i64 0,.int .i64 0,.nils,.nils,.int .i64 0,.str [],.int .i64 0,.int .i64 0]⟩
@[go_sem] def y39:TI:=⟨.struct [(0,1,false)],1,24,[.nils]⟩
@[go_sem] def y40:TI:=⟨.slice 147,1,24,[.nils]⟩
@[go_sem] def y41:TI:=⟨.slice 156,1,24,[.nils]⟩
@[go_sem] def y42:TI:=⟨.struct [(0,1,false),(1,1,false)],2,48,[.nils,.nils]⟩
@[go_sem] def y43:TI:=⟨.slice 5,1,24,[.nils]⟩
@[go_sem] def y44:TI:=⟨.struct [(0,1,false),(1,1,false)],2,32,[.nilp,.nils]⟩
@[go_sem] def y45:TI:=⟨.struct [(0,1,false),(1,1,false)],2,24,[.str [],.bool false]⟩
@[go_sem] def y46:TI:=⟨.struct [(0,1,false),(1,1,false)],2,16,[.int .i64 0,.bool false]⟩
@[go_sem] def y47:TI:=⟨.struct [(0,2,true)],2,32,[.nilp,.nils]⟩
@[go_sem] def y48:TI:=⟨.slice 4,1,24,[.nils]⟩
@[go_sem] def y49:TI:=⟨.struct [(0,1,false),(1,1,false),(2,1,false),(3,1,false),(4,1,false),(5,1,false)],6,72,[.str [],.int .i64 0,.int .i64 0,.int .i64 0,.nils,.bool false]⟩
@[go_sem] def y50:TI:=⟨.slice 41,1,24,[.nils]⟩
@[go_sem] def y51:TI:=⟨.array 256 5,256,256,List.replicate 256 (.int .u8 0)⟩
@[go_sem] def y52:TI:=⟨.slice 30,1,24,[.nils]⟩
@[go_sem] def y53:TI:=⟨.slice 276,1,24,[.nils]⟩
@[go_sem] def y54:TI:=⟨.struct [(0,1,false),(1,1,false)],2,16,[.int .i64 0,.int .i64 0]⟩
@[go_sem] def y55:TI:=⟨.int .u32,1,4,[.int .u32 0]⟩
@[go_sem] def y56:TI:=⟨.array 24 5,24,24,[.int .u8 0,.int .u8 0,.int .u8 0,.int .u8 0,.int .u8 0,.int .u8 0,.int .u8 0,.int .u8 0,.int .u8 0,.int .u8 0,.int .u8 0,.int .u8 0,.int .u8 0,.int .u8 0,.int .u8 0,.int .u8 0,.int .u8 0,.int .u8 0,.int .u8 0,.int .u8 0,.int .u8 0,.int .u8 0,.int .u8 0,.int .u8 0]⟩
@[go_sem] def y57:TI:=⟨.slice 295,1,24,[.nils]⟩
@[go_sem] def y58:TI:=⟨.slice 298,1,24,[.nils]⟩
@[go_sem] def y59:TI:=⟨.struct [(0,1,false),(1,1,false),(2,1,false)],3,56,[.nils,.nils,.int .i64 0]⟩
@[go_sem] def y60:TI:=⟨.int .u16,1,2,[.int .u16 0]⟩
@[go_sem] def y61:TI:=⟨.struct [(0,1,false),(1,1,false),(2,1,false)],3,6,[.int .u16 0,.int .u16 0,.int .u16 0]⟩
@[go_sem] def y62:TI:=⟨.struct [(0,1,false),(1,1,false),(2,1,false)],3,12,[.int .u32 0,.int .u32 0,.int .u32 0]⟩
@[go_sem] def y63:TI:=⟨.array 20 284,20,160,[.int .u64 0,.int .u64 0,.int .u64 0,.int .u64 0,.int .u64 0,.int .u64 0,.int .u64 0,.int .u64 0,.int .u64 0,.int .u64 0,.int .u64 0,.int .u64 0,.int .u64 0,.int .u64 0,.int .u64 0,.int .u64 0,.int .u64 0,.int .u64 0,.int .u64 0,.int .u64 0]⟩
@[go_sem] def y64:TI:=⟨.array 32 5,32,32,[.int .u8 0,.int .u8 0,.int .u8 0,.int .u8 0,.int .u8 0,.int .u8 0,.int .u8 0,.int .u8 0,.int .u8 0,.int .u8 0,.int .u8 0,.int .u8 0,.int .u8 0,.int .u8 0,.int .u8 0,.int .u8 0,.int .u8 0,.int .u8 0,.int .u8 0,.int .u8 0,.int .u8 0,.int .u8 0,.int .u8 0,.int .u8 0,.int .u8 0,.int .u8 0,.int .u8 0,.int .u8 0,.int .u8 0,.int .u8 0,.int .u8 0,.int .u8 0]⟩
@[go_sem] def y65:TI:=⟨.struct [(0,1,false),(1,1,false),(2,1,false)],3,48,[.str [],.str [],.nili]⟩
@[go_sem] def y66:TI:=⟨.struct [(0,1,false),(1,1,false)],2,2,[.int .u8 0,.int .u8 0]⟩
@[go_sem] def y67:TI:=⟨.array 16 335,32,32,[.int .u8 0,.int .u8 0,.int .u8 0,.int .u8 0,.int .u8 0,.int .u8 0,.int .u8 0,.int .u8 0,.int .u8 0,.int .u8 0,.int .u8 0,.int .u8 0,.int .u8 0,.int .u8 0,.int .u8 0,.int .u8 0,.int .u8 0,.int .u8 0,.int .u8 0,.int .u8 0,.int .u8 0,.int .u8 0,.int .u8 0,.int .u8 0,.int .u8 0,.int .u8 0,.int .u8 0,.int .u8 0,.int .u8 0,.int .u8 0,.int .u8 0,.int .u8 0]⟩
@[go_sem] def y68:TI:=⟨.struct [(0,1,false)],1,16,[.str []]⟩
@[go_sem] def y69:TI:=⟨.struct [(0,1,false),(1,1,false),(2,1,false),(3,1,false)],4,40,[.nilp,.nilp,.nilp,.str []]⟩
@[go_sem] def y70:TI:=⟨.array 0 16,0,0,[]⟩
@[go_sem] def y71:TI:=⟨.struct [(0,1,false),(1,1,false),(2,1,false),(3,1,false),(4,1,false),(5,1,false),(6,1,false),(7,1,false),(8,1,false),(9,1,false),(10,1,false)],11,48,[.int .u64 0,.int .u64 0,.int .u32 0,.int .u8 0,.int .u8 0,.int .u8 0,.int .u8 0,.nilf,.nilp,.int .i32 0,.int .i32 0]⟩
def ttT:Tr TI:=(.nd (.nd (.nd (.nd (.nd (.nd (.nd (.nd (.nd .lf (some y51) .lf) (some y1) .lf) (some y1) (.nd (.nd .lf (some y1) .lf) (some y9) .lf)) (some y19) (.nd .lf (some y36) (.nd (.nd .lf (some y71) .lf) (some y1) .lf))) (some y9) (.nd (.nd (.nd (.nd .lf (some y1) .lf) (some qS) .lf) (some y30) (.nd (.nd .lf (some y66) .lf) (some y1) .lf)) (some y1) (.nd (.nd (.nd .lf (some y63) .lf) (some y1) .lf) none (.nd .lf (some y1) .lf)))) (some y5) (.nd (.nd (.nd (.nd .lf (some y1) .lf) (some y28) (.nd .lf (some y1) .lf)) (some y1) (.nd (.nd (.nd .lf (some y61) .lf) (some y1) .lf) (some qS) (.nd .lf (some y1) .lf))) (some y1) (.nd (.nd (.nd (.nd .lf (some y9) .lf) (some y9) .lf) (some y1) (.nd (.nd .lf (some y70) .lf) (some y1) .lf)) (some y24) (.nd (.nd .lf (some y46) .lf) (some y1) (.nd .lf (some y1) .lf))))) (some y2) (.nd (.nd (.nd (.nd (.nd (.nd .lf (some y1) .lf) (some y1) .lf) (some y26) (.nd (.nd .lf (some y9) .lf) (some y1) .lf)) (some y21) (.nd (.nd (.nd .lf (some y59) .lf) none .lf) (some y1) (.nd .lf (some y1) .lf))) (some y10) (.nd (.nd (.nd (.nd .lf (some y54) .lf) (some y41) .lf) (some y33) (.nd (.nd .lf (some y68) .lf) (some y1) .lf)) none (.nd (.nd (.nd .lf (some y9) .lf) (some y1) .lf) (some y1) (.nd .lf (some y1) .lf)))) (some y6) (.nd (.nd (.nd (.nd (.nd .lf (some y1) .lf) (some y1) .lf) none (.nd (.nd .lf (some y65) .lf) (some y1) .lf)) (some y23) (.nd (.nd (.nd .lf (some y1) .lf) (some qS) .lf) (some y1) (.nd .lf (some y1) .lf))) (some y16) (.nd (.nd (.nd (.nd .lf (some y56) .lf) (some y45) .lf) (some y35) (.nd (.nd .lf (some y4) .lf) (some y1) .lf)) (some y25) (.nd (.nd (.nd .lf (some y1) .lf) (some y47) .lf) (some y1) (.nd .lf (some y1) .lf)))))) (some y1) (.nd (.nd (.nd (.nd (.nd (.nd (.nd .lf (some y1) .lf) (some y1) .lf) (some y1) (.nd .lf (some y1) .lf)) (some y20) (.nd (.nd (.nd .lf (some y57) .lf) (some y1) .lf) (some y1) (.nd .lf (some y49) .lf))) (some y9) (.nd (.nd (.nd (.nd .lf (some y1) .lf) (some y1) .lf) (some y31) (.nd (.nd .lf (some y1) .lf) (some y1) .lf)) none (.nd (.nd (.nd .lf (some y1) .lf) (some y1) .lf) (some y1) (.nd .lf (some y1) .lf)))) (some y6) (.nd (.nd (.nd (.nd (.nd .lf (some y1) .lf) (some y38) .lf) (some y29) (.nd .lf (some y1) .lf)) (some y22) (.nd (.nd (.nd .lf (some y62) .lf) (some y1) .lf) (some y1) (.nd .lf (some y9) .lf))) (some y14) (.nd (.nd (.nd (.nd .lf (some y1) .lf) (some y44) .lf) (some y1) (.nd .lf (some y1) .lf)) (some y1) (.nd (.nd (.nd .lf (some y1) .lf) (some y1) .lf) (some y1) (.nd .lf (some y1) .lf))))) (some y4) (.nd (.nd (.nd (.nd (.nd (.nd .lf (some y1) .lf) (some y1) .lf) (some y27) (.nd (.nd .lf (some y1) .lf) (some y1) .lf)) none (.nd (.nd (.nd .lf (some y60) .lf) (some y1) .lf) (some y1) (.nd .lf (some y1) .lf))) (some y12) (.nd (.nd (.nd (.nd .lf (some y55) .lf) (some y42) .lf) (some y34) (.nd (.nd .lf (some y69) .lf) (some y1) .lf)) (some y1) (.nd (.nd .lf (some y1) .lf) (some y1) (.nd .lf (some y1) .lf)))) (some y8) (.nd (.nd (.nd (.nd (.nd .lf (some y1) .lf) (some y39) .lf) (some y1) (.nd (.nd .lf (some y1) .lf) (some y1) .lf)) (some y1) (.nd (.nd (.nd .lf (some y1) .lf) (some y1) .lf) (some y1) (.nd .lf (some y1) .lf))) (some y17) (.nd (.nd (.nd (.nd .lf (some y1) .lf) (some y11) .lf) (some y9) (.nd (.nd .lf (some y12) .lf) (some y9) .lf)) (some y1) (.nd (.nd .lf (some y1) .lf) (some y1) (.nd .lf (some y9) .lf))))))) none (.nd (.nd (.nd (.nd (.nd (.nd (.nd (.nd .lf (some y1) .lf) (some y1) .lf) (some y1) (.nd (.nd .lf (some y2) .lf) (some y48) .lf)) (some y20) (.nd (.nd (.nd .lf (some y1) .lf) (some y1) .lf) none (.nd (.nd .lf (some y71) .lf) (some y9) .lf))) (some y9) (.nd (.nd (.nd (.nd .lf (some y1) .lf) (some y1) .lf) (some y30) (.nd (.nd .lf (some y67) .lf) (some y1) .lf)) (some y1) (.nd (.nd .lf (some y1) .lf) (some y1) (.nd .lf (some y1) .lf)))) (some y5) (.nd (.nd (.nd (.nd (.nd .lf (some y1) .lf) (some y9) .lf) (some y29) (.nd (.nd .lf (some y1) .lf) (some y1) .lf)) (some y2) (.nd (.nd (.nd .lf (some y1) .lf) (some y1) .lf) (some qS) (.nd .lf (some y1) .lf))) (some y13) (.nd (.nd (.nd (.nd .lf (some y1) .lf) (some y43) .lf) (some y9) (.nd .lf (some y1) .lf)) none (.nd (.nd (.nd .lf (some y1) .lf) (some y46) .lf) (some y1) (.nd .lf (some y50) .lf))))) (some y3) (.nd (.nd (.nd (.nd (.nd (.nd .lf (some y1) .lf) (some y1) .lf) (some y26) (.nd (.nd .lf (some y1) .lf) (some y1) .lf)) (some y21) (.nd (.nd (.nd .lf (some y59) .lf) (some y1) .lf) (some y1) (.nd .lf (some y1) .lf))) (some y11) (.nd (.nd (.nd (.nd .lf (some y54) .lf) (some y42) .lf) (some y33) (.nd (.nd .lf (some y68) .lf) (some y1) .lf)) (some y1) (.nd (.nd (.nd .lf (some y1) .lf) (some y1) .lf) (some y1) (.nd .lf (some y1) .lf)))) (some y7) (.nd (.nd (.nd (.nd (.nd .lf (some y52) .lf) (some y39) .lf) (some y1) (.nd (.nd .lf (some y65) .lf) (some y1) .lf)) none (.nd (.nd .lf (some y1) .lf) (some y1) (.nd .lf (some y1) .lf))) (some y16) (.nd (.nd (.nd (.nd .lf (some y7) .lf) (some y45) .lf) (some y1) (.nd (.nd .lf (some y1) .lf) (some y1) .lf)) (some y25) (.nd (.nd (.nd .lf (some y1) .lf) (some y1) .lf) (some y1) (.nd .lf (some y1) .lf)))))) (some y2) (.nd (.nd (.nd (.nd (.nd (.nd (.nd .lf (some y1) .lf) (some y1) .lf) (some y1) (.nd (.nd .lf (some y1) .lf) (some y1) .lf)) (some y2) (.nd (.nd (.nd .lf (some y58) .lf) (some y1) .lf) (some y1) (.nd .lf (some y49) .lf))) (some y10) (.nd (.nd (.nd (.nd .lf (some y53) .lf) (some y40) .lf) (some y32) (.nd (.nd .lf (some y9) .lf) (some y9) .lf)) (some y1) (.nd (.nd (.nd .lf (some y9) .lf) (some y1) .lf) (some y1) (.nd .lf (some y1) .lf)))) (some y6) (.nd (.nd (.nd (.nd (.nd .lf (some y1) .lf) (some y38) .lf) (some y9) (.nd (.nd .lf (some y1) .lf) (some y1) .lf)) (some y23) (.nd (.nd (.nd .lf (some y62) .lf) (some qS) .lf) (some y1) (.nd .lf (some y1) .lf))) (some y15) (.nd (.nd (.nd (.nd .lf (some y7) .lf) (some y44) .lf) (some y35) (.nd (.nd .lf (some y4) .lf) (some y1) .lf)) (some y2) (.nd (.nd (.nd .lf (some y9) .lf) (some y47) .lf) (some y1) (.nd .lf (some y1) .lf))))) (some y4) (.nd (.nd (.nd (.nd (.nd (.nd .lf (some y1) .lf) (some y1) .lf) (some y2) (.nd (.nd .lf (some y64) .lf) (some y1) .lf)) (some y1) (.nd (.nd (.nd .lf (some y61) .lf) (some y1) .lf) (some y1) (.nd .lf (some y9) .lf))) (some y1) (.nd (.nd (.nd (.nd .lf (some y1) .lf) (some y1) .lf) (some y34) (.nd (.nd .lf (some y69) .lf) (some y1) .lf)) (some y1) (.nd (.nd .lf (some y1) .lf) (some y1) (.nd .lf (some y1) .lf)))) (some y8) (.nd (.nd (.nd (.nd (.nd .lf (some y1) .lf) (some qS) .lf) (some y1) (.nd (.nd .lf (some y66) .lf) (some y1) .lf)) (some y1) (.nd (.nd (.nd .lf (some y1) .lf) (some y1) .lf) (some y9) (.nd .lf (some y1) .lf))) (some y18) (.nd (.nd (.nd (.nd .lf (some y1) .lf) (some y11) .lf) (some y36) (.nd (.nd .lf (some y12) .lf) (some y9) .lf)) (some y1) (.nd (.nd (.nd .lf (some y1) .lf) (some y1) .lf) (some y1) (.nd .lf (some y1) .lf))))))))
def TT(t:TypeId):Option TI:=ttT.get t
def aT0(P:Program)(n:Nat):Bool:=(List.range n).all λt=>match TT t with|some ti=>aGJ P t ti|none=>true
theorem aTn:aT0 prog 353=true:=by decide +kernel
def TTc(t:TypeId):Option TI:=match Nat.blt t 353 with
 | true=>TT t
 | false=>none
theorem aTY(t:TypeId)(ti:TI)(h:TTc t=some ti):ti.ok prog t:=by
 unfold TTc at h;split at h
 .rename_i ht;rw[Nat.blt_eq]at ht;have:=iH.1 aTn t (uS.2 ht);rw[h]at this;exact aRs this
 .cases h
theorem aLI:aDw prog [4] [(36,[0,2,0,0]),(104,[2,2]),(143,[2,2])] [24,69,71] [151]=true:=by decide +kernel
theorem aND{P:Program}{e:TypeId}(hc:P.cellsOf e≠0)(count:Nat)(h:1<=count):liesAt P P.depth e count 0 e 1=true:=by
 have hd:P.depth=(2 * (P.types.size+Made.depth)+1)+1:=rfl;rw[hd];simp only[liesAt,qB];left;rw[hd];simp[rowAt,hc,h,sameLayout]
theorem aCE:prog.underlying 151=some (.pointer 154)/\prog.underlying 253=some .unsafePointer/\(prog.info? 154).map (·.size)=some 2/\prog.cellsOf 154=2/\prog.underlying 210=some (.pointer 5)/\prog.cellsOf 5=1:=by
 refine⟨?_,?_,?_,?_,?_,?_⟩<;>kernel_rfl
def yQ(a b:TypeId):Option TypeId:=match Nat.beq a 151&&Nat.beq b 253 with
 | true=>some 154
 | false=>match Nat.beq a 253&&Nat.beq b 151 with
  | true=>some 154
  | false=>none
def usS(a:TypeId):Option TypeId:=match Nat.beq a 210 with
 | true=>some 5
 | false=>none
theorem aTk(a b e:TypeId)(h:yQ a b=some e)(w:World)(k:Nat)(vs:Array Value)(hh:w.heap[k]?=some (.cells vs e))(hs:prog.cellsOf e<=vs.size) :
  (convert a b (.pointer (some ⟨k,0,none⟩))).run prog w=.ok (.pointer (some ⟨k,0,none⟩)) w:=by
 obtain⟨h1,h2,h3,h4,_⟩:=aCE;obtain⟨j,hj,hj2⟩:=qV.1 h3;unfold yQ at h;split at h
 .rename_i hc;simp only[cL]at hc;obtain rfl:=nI hc.1;obtain rfl:=nI hc.2;cases h;rw[h4]at hs;exact Lib.run_to_unsafe w ⟨k,0,none⟩ h1 h2 hj aB (cells:=vs.size) (e:=154) (by simp[World.shape?,hh]) (by show 0<vs.size;omega)
 .split at h
  .rename_i hc;simp only[cL]at hc;obtain rfl:=nI hc.1;obtain rfl:=nI hc.2;cases h;rw[h4]at hs;exact Lib.run_from_unsafe w ⟨k,0,none⟩ h2 h1 hj (cells:=vs.size) (e:=154) (by simp[World.shape?,hh]) (aND (by rw[h4];decide) _ (by rw[h4];omega))
  .cases h
theorem aOK{P:Program}{e u:TypeId}{fs:Array Field}(hc:P.cellsOf e≠0)(hu:P.cellsOf u≠0)(hs:P.underlying e=some (.struct fs))(hh:P.stoodInHeld e=false)(hf:∃f∈fs,f.offset=0/\f.type=u)
  (count:Nat)(h:1<=count):liesAt P P.depth e count 0 u 1=true:=by
 have hd:P.depth=(2 * (P.types.size+Made.depth)+1)+1:=rfl;obtain⟨f,hm,h0,ht⟩:=hf;rw[hd];simp only[liesAt,qB];left;rw[hd];generalize 2 * (P.types.size+Made.depth)=m;subst ht;have h1:0<count:=h;rw[rowAt];simp only[hc,hs,hh,h1,Nat.zero_div,Nat.zero_mod,if_false,uU,eW,fM,qB,cL];right;rw[Array.any_eq_true'];refine⟨f,hm,?_⟩;simp[hu,rowAt,sameLayout,h0];exact Nat.pos_of_ne_zero hu
def aGH(d:Option TypeDesc)(u:TypeId):Bool:=match d with
 | some (.struct fs)=>fs.any λf=>f.offset == 0&&f.type == u
 | _=>false
theorem aP4:aGH (prog.underlying 187) 154=true/\prog.stoodInHeld 187=false/\prog.cellsOf 187=2:=by
 refine⟨?_,?_,?_⟩<;>kernel_rfl
theorem aSl{d:Option TypeDesc}{u:TypeId}(h:aGH d u=true):∃fs,d=some (.struct fs)/\∃f∈fs,f.offset=0/\f.type=u:=by
 unfold aGH at h;split at h
 .rename_i fs;rw[Array.any_eq_true']at h;obtain⟨f,hm,h⟩:=h;simp only[cL,beq_iff_eq]at h;exact⟨fs,rfl,f,hm,h⟩
 .cases h
def cwS(a:TypeId):Option TypeId:=match Nat.beq a 187 with
 | true=>some 154
 | false=>none
theorem aTq(a b e' e:TypeId)(h:yQ a b=some e')(h':cwS e=some e')(w:World)(k:Nat)(vs:Array Value)(hh:w.heap[k]?=some (.cells vs e))(hs:prog.cellsOf e'<=vs.size) :
  (convert a b (.pointer (some ⟨k,0,none⟩))).run prog w=.ok (.pointer (some ⟨k,0,none⟩)) w:=by
 obtain⟨h1,h2,h3,h4,_⟩:=aCE;obtain⟨g0,g4,g5⟩:=aP4;obtain⟨fs,g1,g2⟩:=aSl g0;obtain⟨j,hj,hj2⟩:=qV.1 h3;unfold cwS at h';split at h'
 .rename_i hc;obtain rfl:=nI hc;cases h';rw[h4]at hs;unfold yQ at h;split at h
  .rename_i hc;simp only[cL]at hc;obtain rfl:=nI hc.1;obtain rfl:=nI hc.2;exact Lib.run_to_unsafe w ⟨k,0,none⟩ h1 h2 hj aB (cells:=vs.size) (e:=187) (by simp[World.shape?,hh]) (by show 0<vs.size;omega)
  .split at h
   .rename_i hc;simp only[cL]at hc;obtain rfl:=nI hc.1;obtain rfl:=nI hc.2;exact Lib.run_from_unsafe w ⟨k,0,none⟩ h2 h1 hj (cells:=vs.size) (e:=187) (by simp[World.shape?,hh]) (aOK (by rw[g5];decide) (by rw[h4];decide) g1 g4 g2 _ (by rw[g5];omega))
   .cases h
 .cases h'
def aAr:List A:=[.int .u8 0,.int .u8 0,.int .u8 0,.int .u8 0,.int .u8 0,.int .u8 0,.int .u8 0,.int .u8 0,.int .u8 0,.int .u8 1,.int .u8 1,.int .u8 1,.int .u8 1,.int .u8 1,.int .u8 0,.int .u8 0,.int .u8 0,.int .u8 0,.int .u8 0,.int .u8 0,.int .u8 0,.int .u8 0,.int .u8 0,.int .u8 0,.int .u8 0,.int .u8 0,.int .u8 0,.int .u8 0,.int .u8 0,.int .u8 0,.int .u8 0,.int .u8 0,.int .u8 1,.int .u8 0,.int .u8 0,.int .u8 0,.int .u8 0,.int .u8 0,.int .u8 0,.int .u8 0,.int .u8 0,.int .u8 0,.int .u8 0,.int .u8 0,.int .u8 0,.int .u8 0,.int .u8 0,.int .u8 0,.int .u8 0,.int .u8 0,.int .u8 0,.int .u8 0,.int .u8 0,.int .u8 0,.int .u8 0,.int .u8 0,.int .u8 0,.int .u8 0,.int .u8 0,.int .u8 0,.int .u8 0,.int .u8 0,.int .u8 0,.int .u8 0,.int .u8 0,.int .u8 0,.int .u8 0,.int .u8 0,.int .u8 0,.int .u8 0,.int .u8 0,.int .u8 0,.int .u8 0,.int .u8 0,.int .u8 0,.int .u8 0,.int .u8 0,.int .u8 0,.int .u8 0,.int .u8 0,.int .u8 0,.int .u8 0,.int .u8 0,.int .u8 0,.int .u8 0,.int .u8 0,.int .u8 0,.int .u8 0,.int .u8 0,.int .u8 0,.int .u8 0,.int .u8 0,.int .u8 0,.int .u8 0,.int .u8 0,.int .u8 0,.int .u8 0,.int .u8 0,.int .u8 0,.int .u8 0,.int .u8 0,.int .u8 0,.int .u8 0,.int .u8 0,.int .u8 0,.int .u8 0,.int .u8 0,.int .u8 0,.int .u8 0,.int .u8 0,.int .u8 0,.int .u8 0,.int .u8 0,.int .u8 0,.int .u8 0,.int .u8 0,.int .u8 0,.int .u8 0,.int .u8 0,.int .u8 0,.int .u8 0,.int .u8 0,.int .u8 0,.int .u8 0,.int .u8 0,.int .u8 0,.int .u8 0,.int .u8 0,.int .u8 0,.int .u8 0,.int .u8 0,.int .u8 0,.int .u8 0,.int .u8 0,.int .u8 0,.int .u8 0,.int .u8 0,.int .u8 0,.int .u8 0,.int .u8 0,.int .u8 0,.int .u8 0,.int .u8 0,.int .u8 0,.int .u8 0,.int .u8 0,.int .u8 0,.int .u8 0,.int .u8 0,.int .u8 0,.int .u8 0,.int .u8 0,.int .u8 0,.int .u8 0,.int .u8 0,.int .u8 0,.int .u8 0,.int .u8 0,.int .u8 0,.int .u8 0,.int .u8 0,.int .u8 0,.int .u8 0,.int .u8 0,.int .u8 0,.int .u8 0,.int .u8 0,.int .u8 0,.int .u8 0,.int .u8 0,.int .u8 0,.int .u8 0,.int .u8 0,.int .u8 0,.int .u8 0,.int .u8 0,.int .u8 0,.int .u8 0,.int .u8 0,.int .u8 0,.int .u8 0,.int .u8 0,.int .u8 0,.int .u8 0,.int .u8 0,.int .u8 0,.int .u8 0,.int .u8 0,.int .u8 0,.int .u8 0,.int .u8 0,.int .u8 0,.int .u8 0,.int .u8 0,.int .u8 0,.int .u8 0,.int .u8 0,.int .u8 0,.int .u8 0,.int .u8 0,.int .u8 0,.int .u8 0,.int .u8 0,.int .u8 0,.int .u8 0,.int .u8 0,.int .u8 0,.int .u8 0,.int .u8 0,.int .u8 0,.int .u8 0,.int .u8 0,.int .u8 0,.int .u8 0,.int .u8 0,.int .u8 0,.int .u8 0,.int .u8 0,.int .u8 0,.int .u8 0,.int .u8 0,.int .u8 0,.int .u8 0,.int .u8 0,.int .u8 0,.int .u8 0,.int .u8 0,.int .u8 0,.int .u8 0,.int .u8 0,.int .u8 0,.int .u8 0,.int .u8 0,.int .u8 0,.int .u8 0,.int .u8 0,.int .u8 0,.int .u8 0,.int .u8 0,.int .u8 0,.int .u8 0,.int .u8 0,.int .u8 0,.int .u8 0,.int .u8 0,.int .u8 0,.int .u8 0,.int .u8 0,.int .u8 0,.int .u8 0,.int .u8 0,.int .u8 0,.int .u8 0,.int .u8 0,.int .u8 0,.int .u8 0]
def aAz:List A:=[.int .u64 1,.int .u64 10,.int .u64 100,.int .u64 1000,.int .u64 10000,.int .u64 100000,.int .u64 1000000,.int .u64 10000000,.int .u64 100000000,.int .u64 1000000000,.int .u64 10000000000,.int .u64 100000000000,.int .u64 1000000000000,.int .u64 10000000000000,.int .u64 100000000000000,.int .u64 1000000000000000,.int .u64 10000000000000000,.int .u64 100000000000000000,.int .u64 1000000000000000000,.int .u64 10000000000000000000]
def glS:Nat->Option (List A)
 | 0=>some aAr
 | 3=>some aAz
 | _=>none
theorem aTH(a b e:TypeId)(h:yQ a b=some e):(TTc e).map (·.sz)=some (prog.cellsOf e):=by
 have h4:=aCE.2.2.2.1;unfold yQ at h;split at h
 .cases h;rw[h4];rfl
 .split at h
  .cases h;rw[h4];rfl
  .cases h
theorem aS3(t e:TypeId)(h:usS t=some e):prog.underlying t=some (.pointer e)/\prog.cellsOf e=1:=by
 unfold usS at h;split at h
 .rename_i hc;obtain rfl:=nI hc;cases h;exact aCE.2.2.2.2
 .cases h
noncomputable def cx:Cx:={ P:=prog,det:=false,gl:=glS,tt:=TTc,htt:=aTY,cv:=yQ,hcv:=aTk,hcs:=aTH,cw:=cwS,hcw:=aTq,us:=usS,hus:=aS3,eq:=eqT [4] [(36,[0,2,0,0]),(104,[2,2]),(143,[2,2])] [24,69,71] [151],heq:=aS5 aLI,nl:=λt=>[24,69,71].elem t,hnl:=λt ht a n cap w op x y hop=>⟨a.isNone,aBj (by have h:=aLI;simp only[aDw,cL,iH]at h;exact h.2.1 t (by simpa using ht)) a n cap hop x y⟩ }
@[go_sem] theorem aWi(t:TypeId):cx.nl t=[24,69,71].elem t:=rfl
@[go_sem] theorem aWg(t:TypeId)(a b:A):cx.eq t a b=eqT [4] [(36,[0,2,0,0]),(104,[2,2]),(143,[2,2])] [24,69,71] [151] t a b:=rfl
@[go_sem] theorem aVG(s:St)(n:Nat)(e:TypeId)(sz:Nat)(ys:List A)(KV:St->A->Prop):oQ cx s n e sz ys KV=newT cx s n e ys KV:=rfl
noncomputable def mN:Cx:={ cx with mu:=1 }
@[go_sem] theorem aJn(s:St)(n:Nat)(e:TypeId)(sz:Nat)(ys:List A)(KV:St->A->Prop):oQ mN s n e sz ys KV=(0<n/\aDG s n e sz (flat ys) KV):=rfl
@[go_sem] theorem aVX:mN.tt=cx.tt:=rfl
@[go_sem] theorem aWb:mN.eq=cx.eq:=rfl
@[go_sem] theorem aWj:cx.cw 187=some 154:=rfl
@[go_sem] theorem aVQ:mN.cv=cx.cv:=rfl
@[go_sem] theorem aWc:mN.cw=cx.cw:=rfl
@[go_sem] theorem aVP:mN.us=cx.us:=rfl
@[go_sem] theorem aVJ:mN.det=false:=rfl
@[go_sem] theorem aVR:mN.toCtx=cx.toCtx:=rfl
@[go_sem] theorem aVY:aBx cx=false:=rfl
@[go_sem] theorem aVH:aBx mN=false:=rfl
noncomputable def nG:Cx:={ cx with mu:=2 }
@[go_sem] theorem aU1(s:St)(n:Nat)(e:TypeId)(sz:Nat)(ys:List A)(KV:St->A->Prop):oQ nG s n e sz ys KV=newT nG s n e ys KV:=rfl
@[go_sem] theorem aVz:aBx nG=true:=rfl
@[go_sem] theorem aV1:nG.tt=cx.tt:=rfl
@[go_sem] theorem aWa:nG.eq=cx.eq:=rfl
@[go_sem] theorem aWf:nG.cv=cx.cv:=rfl
@[go_sem] theorem aV4:nG.cw=cx.cw:=rfl
@[go_sem] theorem aV9:nG.us=cx.us:=rfl
@[go_sem] theorem aVE:nG.det=false:=rfl
@[go_sem] theorem aV6:nG.toCtx=cx.toCtx:=rfl
attribute [go_sem] aAx
theorem aRM{f:FuncId}{l:List A}{KV Kp:St->A->Prop}{s:St}(h:Den nG f l KV Kp s):Den cx f l KV Kp s:=by assumption
theorem aRY{f:FuncId}{l:List A}{KV Kp:St->A->Prop}{s:St}(h:Den mN f l KV Kp s):Den cx f l KV Kp s:=by assumption
theorem aQ3:cx.P.follows .mixedOrders=true:=by decide +kernel
section
@[go_sem] theorem ty0:cx.tt 1=some y1/\cx.tt 2=some y2/\cx.tt 3=some y2/\cx.tt 4=some y3/\cx.tt 5=some y4/\cx.tt 6=some y4/\cx.tt 7=some y5/\cx.tt 8=some y5/\cx.tt 9=some y6/\cx.tt 10=some y6/\cx.tt 11=some y6/\cx.tt 12=some y7:=⟨rfl,rfl,rfl,rfl,rfl,rfl,rfl,rfl,rfl,rfl,rfl,rfl⟩
@[go_sem] theorem ty1:cx.tt 13=some y8/\cx.tt 14=some y8/\cx.tt 15=some y9/\cx.tt 16=some y9/\cx.tt 17=some y9/\cx.tt 18=some y10/\cx.tt 19=some y10/\cx.tt 20=some y11/\cx.tt 21=some y12/\cx.tt 22=some y1/\cx.tt 23=some y1/\cx.tt 24=some y13:=⟨rfl,rfl,rfl,rfl,rfl,rfl,rfl,rfl,rfl,rfl,rfl,rfl⟩
@[go_sem] theorem ty2:cx.tt 25=some y14/\cx.tt 26=some y15/\cx.tt 27=some y16/\cx.tt 28=some y16/\cx.tt 29=some y17/\cx.tt 30=some y18/\cx.tt 31=some y19/\cx.tt 32=some y20/\cx.tt 33=some y20/\cx.tt 34=some y2/\cx.tt 35=some y21/\cx.tt 36=some y21:=⟨rfl,rfl,rfl,rfl,rfl,rfl,rfl,rfl,rfl,rfl,rfl,rfl⟩
@[go_sem] theorem ty3:cx.tt 38=some y1/\cx.tt 39=some y1/\cx.tt 40=some y2/\cx.tt 41=some y22/\cx.tt 42=some y23/\cx.tt 43=some y23/\cx.tt 45=some y1/\cx.tt 46=some y1/\cx.tt 47=some y1/\cx.tt 48=some y1/\cx.tt 50=some y1/\cx.tt 52=some y1:=⟨rfl,rfl,rfl,rfl,rfl,rfl,rfl,rfl,rfl,rfl,rfl,rfl⟩
@[go_sem] theorem ty4:cx.tt 53=some y1/\cx.tt 54=some y1/\cx.tt 55=some y24/\cx.tt 57=some y1/\cx.tt 58=some y2/\cx.tt 59=some y25/\cx.tt 60=some y25/\cx.tt 61=some y1/\cx.tt 62=some y1/\cx.tt 63=some y1/\cx.tt 64=some y1/\cx.tt 65=some y1:=⟨rfl,rfl,rfl,rfl,rfl,rfl,rfl,rfl,rfl,rfl,rfl,rfl⟩
@[go_sem] theorem ty5:cx.tt 66=some y1/\cx.tt 67=some y26/\cx.tt 68=some y26/\cx.tt 69=some y27/\cx.tt 70=some y2/\cx.tt 71=some y28/\cx.tt 72=some y29/\cx.tt 73=some y29/\cx.tt 74=some y9/\cx.tt 76=some y1/\cx.tt 77=some y1/\cx.tt 78=some y1:=⟨rfl,rfl,rfl,rfl,rfl,rfl,rfl,rfl,rfl,rfl,rfl,rfl⟩
@[go_sem] theorem ty6:cx.tt 79=some y30/\cx.tt 80=some y30/\cx.tt 81=some y31/\cx.tt 82=some y32/\cx.tt 83=some y33/\cx.tt 84=some y33/\cx.tt 85=some y34/\cx.tt 86=some y34/\cx.tt 87=some y1/\cx.tt 88=some y9/\cx.tt 89=some y1/\cx.tt 90=some y35:=⟨rfl,rfl,rfl,rfl,rfl,rfl,rfl,rfl,rfl,rfl,rfl,rfl⟩
@[go_sem] theorem ty7:cx.tt 91=some y35/\cx.tt 92=some y1/\cx.tt 93=some y9/\cx.tt 94=some y36/\cx.tt 95=some y36/\cx.tt 97=some y1/\cx.tt 98=some y1/\cx.tt 99=some y1/\cx.tt 100=some y1/\cx.tt 101=some y1/\cx.tt 102=some y1/\cx.tt 103=some qS:=⟨rfl,rfl,rfl,rfl,rfl,rfl,rfl,rfl,rfl,rfl,rfl,rfl⟩
@[go_sem] theorem ty8:cx.tt 104=some qS/\cx.tt 105=some y1/\cx.tt 106=some y1/\cx.tt 107=some y1/\cx.tt 108=some y1/\cx.tt 109=some y1/\cx.tt 110=some y9/\cx.tt 112=some y1/\cx.tt 113=some y1/\cx.tt 114=some y1/\cx.tt 115=some y1/\cx.tt 116=some y1:=⟨rfl,rfl,rfl,rfl,rfl,rfl,rfl,rfl,rfl,rfl,rfl,rfl⟩
@[go_sem] theorem ty9:cx.tt 117=some y1/\cx.tt 118=some y1/\cx.tt 119=some y1/\cx.tt 120=some y1/\cx.tt 121=some y1/\cx.tt 122=some y1/\cx.tt 123=some y1/\cx.tt 124=some y1/\cx.tt 125=some y1/\cx.tt 126=some y1/\cx.tt 127=some y1/\cx.tt 128=some y1:=⟨rfl,rfl,rfl,rfl,rfl,rfl,rfl,rfl,rfl,rfl,rfl,rfl⟩
@[go_sem] theorem aWz:cx.tt 129=some y1/\cx.tt 130=some y1/\cx.tt 131=some y1/\cx.tt 132=some y1/\cx.tt 133=some y1/\cx.tt 134=some y1/\cx.tt 135=some y1/\cx.tt 136=some y9/\cx.tt 137=some y38/\cx.tt 138=some y38/\cx.tt 139=some y1/\cx.tt 140=some y39:=⟨rfl,rfl,rfl,rfl,rfl,rfl,rfl,rfl,rfl,rfl,rfl,rfl⟩
@[go_sem] theorem aWs:cx.tt 141=some y39/\cx.tt 142=some qS/\cx.tt 143=some qS/\cx.tt 144=some y1/\cx.tt 145=some y1/\cx.tt 146=some y40/\cx.tt 147=some y41/\cx.tt 148=some y42/\cx.tt 149=some y42/\cx.tt 150=some y1/\cx.tt 151=some y9/\cx.tt 152=some y43:=⟨rfl,rfl,rfl,rfl,rfl,rfl,rfl,rfl,rfl,rfl,rfl,rfl⟩
@[go_sem] theorem aWp:cx.tt 153=some y44/\cx.tt 154=some y44/\cx.tt 155=some y45/\cx.tt 156=some y45/\cx.tt 157=some y11/\cx.tt 158=some y11/\cx.tt 160=some y1/\cx.tt 161=some y1/\cx.tt 162=some y1/\cx.tt 164=some y1/\cx.tt 165=some y1/\cx.tt 166=some y1:=⟨rfl,rfl,rfl,rfl,rfl,rfl,rfl,rfl,rfl,rfl,rfl,rfl⟩
@[go_sem] theorem aWl:cx.tt 167=some y1/\cx.tt 168=some y1/\cx.tt 169=some y1/\cx.tt 170=some qS/\cx.tt 171=some qS/\cx.tt 172=some y1/\cx.tt 173=some y1/\cx.tt 174=some y1/\cx.tt 175=some y1/\cx.tt 176=some y1/\cx.tt 177=some y1/\cx.tt 178=some y1:=⟨rfl,rfl,rfl,rfl,rfl,rfl,rfl,rfl,rfl,rfl,rfl,rfl⟩
@[go_sem] theorem aWx:cx.tt 179=some y1/\cx.tt 180=some y1/\cx.tt 181=some y1/\cx.tt 182=some y1/\cx.tt 183=some y46/\cx.tt 184=some y46/\cx.tt 185=some y1/\cx.tt 186=some y47/\cx.tt 187=some y47/\cx.tt 188=some y1/\cx.tt 189=some y1/\cx.tt 190=some y1:=⟨rfl,rfl,rfl,rfl,rfl,rfl,rfl,rfl,rfl,rfl,rfl,rfl⟩
@[go_sem] theorem aWr:cx.tt 191=some y9/\cx.tt 192=some y48/\cx.tt 193=some y1/\cx.tt 194=some y1/\cx.tt 195=some y1/\cx.tt 196=some y1/\cx.tt 197=some y1/\cx.tt 198=some y1/\cx.tt 199=some y1/\cx.tt 200=some y1/\cx.tt 201=some y1/\cx.tt 202=some y1:=⟨rfl,rfl,rfl,rfl,rfl,rfl,rfl,rfl,rfl,rfl,rfl,rfl⟩
@[go_sem] theorem aWm:cx.tt 203=some y1/\cx.tt 204=some y1/\cx.tt 205=some y1/\cx.tt 206=some y1/\cx.tt 207=some y1/\cx.tt 208=some y1/\cx.tt 209=some y1/\cx.tt 210=some y9/\cx.tt 211=some y1/\cx.tt 212=some y1/\cx.tt 213=some y1/\cx.tt 214=some y1:=⟨rfl,rfl,rfl,rfl,rfl,rfl,rfl,rfl,rfl,rfl,rfl,rfl⟩
@[go_sem] theorem aWu:cx.tt 215=some y1/\cx.tt 216=some y1/\cx.tt 217=some y1/\cx.tt 218=some y1/\cx.tt 219=some y1/\cx.tt 220=some y1/\cx.tt 221=some y9/\cx.tt 222=some y9/\cx.tt 223=some y1/\cx.tt 224=some y9/\cx.tt 225=some y49/\cx.tt 226=some y49:=⟨rfl,rfl,rfl,rfl,rfl,rfl,rfl,rfl,rfl,rfl,rfl,rfl⟩
@[go_sem] theorem aWq:cx.tt 227=some y1/\cx.tt 228=some y1/\cx.tt 229=some y1/\cx.tt 230=some y9/\cx.tt 231=some y1/\cx.tt 232=some y1/\cx.tt 233=some y9/\cx.tt 234=some y1/\cx.tt 235=some y1/\cx.tt 236=some y1/\cx.tt 237=some y1/\cx.tt 238=some y1:=⟨rfl,rfl,rfl,rfl,rfl,rfl,rfl,rfl,rfl,rfl,rfl,rfl⟩
@[go_sem] theorem aWy:cx.tt 239=some y1/\cx.tt 240=some y1/\cx.tt 241=some y1/\cx.tt 242=some y1/\cx.tt 243=some y1/\cx.tt 244=some y1/\cx.tt 245=some y1/\cx.tt 246=some y1/\cx.tt 247=some y1/\cx.tt 248=some y50/\cx.tt 249=some y1/\cx.tt 250=some y1:=⟨rfl,rfl,rfl,rfl,rfl,rfl,rfl,rfl,rfl,rfl,rfl,rfl⟩
@[go_sem] theorem aWw:cx.tt 251=some y1/\cx.tt 252=some y1/\cx.tt 253=some y9/\cx.tt 254=some y1/\cx.tt 256=some y1/\cx.tt 257=some y1/\cx.tt 258=some y1/\cx.tt 259=some y1/\cx.tt 260=some y1/\cx.tt 261=some y1/\cx.tt 262=some y1/\cx.tt 264=some y1:=⟨rfl,rfl,rfl,rfl,rfl,rfl,rfl,rfl,rfl,rfl,rfl,rfl⟩
@[go_sem] theorem aWt:cx.tt 265=some y1/\cx.tt 266=some y1/\cx.tt 267=some y1/\cx.tt 268=some y52/\cx.tt 269=some y1/\cx.tt 270=some y1/\cx.tt 271=some y1/\cx.tt 272=some y1/\cx.tt 273=some y1/\cx.tt 274=some y53/\cx.tt 275=some y54/\cx.tt 276=some y54:=⟨rfl,rfl,rfl,rfl,rfl,rfl,rfl,rfl,rfl,rfl,rfl,rfl⟩
@[go_sem] theorem aWn:cx.tt 277=some y55/\cx.tt 278=some y1/\cx.tt 279=some y9/\cx.tt 280=some y1/\cx.tt 281=some y1/\cx.tt 282=some y7/\cx.tt 283=some y56/\cx.tt 284=some y7/\cx.tt 285=some y1/\cx.tt 286=some y1/\cx.tt 288=some y1/\cx.tt 289=some y57:=⟨rfl,rfl,rfl,rfl,rfl,rfl,rfl,rfl,rfl,rfl,rfl,rfl⟩
@[go_sem] theorem aWv:cx.tt 290=some y58/\cx.tt 291=some y59/\cx.tt 292=some y59/\cx.tt 293=some y60/\cx.tt 294=some y61/\cx.tt 295=some y61/\cx.tt 296=some y1/\cx.tt 297=some y62/\cx.tt 298=some y62/\cx.tt 299=some y1/\cx.tt 301=some y1/\cx.tt 302=some y1:=⟨rfl,rfl,rfl,rfl,rfl,rfl,rfl,rfl,rfl,rfl,rfl,rfl⟩
@[go_sem] theorem aWC:cx.tt 303=some y63/\cx.tt 305=some y1/\cx.tt 306=some y9/\cx.tt 307=some y9/\cx.tt 308=some y1/\cx.tt 312=some y1/\cx.tt 313=some y1/\cx.tt 314=some y9/\cx.tt 315=some y1/\cx.tt 316=some y1/\cx.tt 318=some y1/\cx.tt 319=some y1:=⟨rfl,rfl,rfl,rfl,rfl,rfl,rfl,rfl,rfl,rfl,rfl,rfl⟩
@[go_sem] theorem aWo:cx.tt 320=some y2/\cx.tt 322=some y1/\cx.tt 323=some y9/\cx.tt 324=some y1/\cx.tt 325=some y1/\cx.tt 326=some y64/\cx.tt 328=some y1/\cx.tt 330=some y1/\cx.tt 331=some y65/\cx.tt 332=some y65/\cx.tt 333=some y1/\cx.tt 334=some y66:=⟨rfl,rfl,rfl,rfl,rfl,rfl,rfl,rfl,rfl,rfl,rfl,rfl⟩
@[go_sem] theorem aWB:cx.tt 335=some y66/\cx.tt 336=some y67/\cx.tt 337=some y1/\cx.tt 338=some y9/\cx.tt 339=some y68/\cx.tt 340=some y68/\cx.tt 341=some y69/\cx.tt 342=some y69/\cx.tt 343=some y70/\cx.tt 346=some y4/\cx.tt 347=some y4/\cx.tt 348=some y1:=⟨rfl,rfl,rfl,rfl,rfl,rfl,rfl,rfl,rfl,rfl,rfl,rfl⟩
@[go_sem] theorem aWA:cx.tt 349=some y12/\cx.tt 350=some y12/\cx.tt 351=some y71/\cx.tt 352=some y71:=⟨rfl,rfl,rfl,rfl⟩
end
end Go.AV
