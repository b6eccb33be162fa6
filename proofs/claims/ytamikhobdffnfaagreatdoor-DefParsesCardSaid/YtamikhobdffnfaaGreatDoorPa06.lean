/-
  Of DefParses.
-/
import Derived.Test.YtamikhobdffnfaaGreatDoorPa05
set_option linter.all false
set_option maxRecDepth 99999
set_option maxHeartbeats 0
namespace Go.AV
open Go Go.Proofs Tryz
section
def iO:Op→Bool
 | .store ..=>true
 | .alloc _=>true
 | .box ..=>true
 | .panic _=>true
 | .range ..=>true
 | .makeSlice ..=>true
 | .next ..=>true
 | .call c=>match c.callee with
  | .builtin .len=>false
  | .builtin .max=>false
  | .builtin .min=>false
  | _=>true
 | _=>false
def jY (C:Cx) (ds:List (Option Tmp)) (o:Oper) (KV Kp:St→A→Prop) (e:Env) (s:St):Prop :=
  match o.guard with
  | none=>aX C o.op (eF C e) KV Kp s
  | some (j,want)=>∃ t,jV ds j=some t ∧
      ((∃ b,e.get t = some (.bool b) ∧ ((b = want ∧ aX C o.op (eF C e) KV Kp s) ∨ (b ≠ want ∧ KV s (.tuple [])))) ∨
       (∃ l,e.get t=some (.tuple l)∧KV s (.tuple [])))
inductive Bef (ops:Array Oper):Nat→Nat→Prop
 | edge {j:Nat} {o:Oper} {e:Edge} (ho:ops[j]?=some o) (he:e∈o.after) (hb:Region.binds .any e=true):Bef ops e.on j
 | step {m j:Nat} {o:Oper} {e:Edge} (ho:ops[j]?=some o) (he:e∈o.after) (hb:Region.binds .any e=true) (h:Bef ops m e.on):Bef ops m j
def DC (ops:Array Oper) (l:Array Bool):Prop :=
 ∀ j o,ops[j]?=some o→l.getD j false=true→∀ e,e∈o.after→Region.binds .any e=true→l.getD e.on false=true
def Dead (ops:Array Oper) (m:Nat) (l:Array Bool):Prop :=
 ∃ j o,ops[j]?=some o∧iO o.op=true∧l.getD j false=true∧Bef ops m j
def pL (ops:Array Oper) (W:List (Nat × (St→Prop))) (l:Array Bool) (s:St):Prop:=∀ w,w∈W→¬ Dead ops w.1 l→w.2 s
def qO (o:Oper) (m:Nat):Bool:=o.after.toList.any fun e=>Region.binds .any e&&Nat.beq e.on m
def late (ops:Array Oper) (i:Nat):Bool:=match ops[i]? with
 | some o=>match o.op,o.dst,o.guard with
  | .alloc _,some d,none=>(o.after.toList.all fun e=>!Region.binds .any e) &&
    (List.range ops.size).all fun j => match ops[j]? with
     | some o'=>(Nat.beq j i||!(o'.dst == some d))&&(Nat.beq j i||!(o'.looksAt ops).elem d||qO o' i)&&(!qO o' i||(List.range ops.size).all fun m=>Nat.beq m j||qO o' m)
     | none=>true
  | _,_,_=>false
 | none=>false
def oD (ops:Array Oper) (l:Array Bool):List Nat :=
 if (Region.ready .any ops l).all (late ops) then Region.ready .any ops l else (Region.ready .any ops l).filter fun i=>!late ops i
theorem xH {ops:Array Oper} {l:Array Bool} {i:Nat} (h:i∈oD ops l):i∈Region.ready .any ops l:=by
 unfold oD at h;split at h
 ·exact h
 ·exact (List.mem_filter.1 h).1
theorem aBC {ops:Array Oper} {l:Array Bool} {i:Nat} (h:i∈Region.ready .any ops l) (hi:late ops i=false):i∈oD ops l:=by
 unfold oD;split
 ·exact h
 ·exact List.mem_filter.2 ⟨h,by simp[hi]⟩
theorem aGl {ops:Array Oper} {l:Array Bool} {i j:Nat} (h:j∈oD ops l) (hi:i∈Region.ready .any ops l) (hl:late ops i=false):late ops j=false:=by
 unfold oD at h;split at h
 ·rename_i ha;rw[iV] at ha;have:=ha i hi;rw[hl] at this;cases this
 ·have:=(List.mem_filter.1 h).2;simpa using this
theorem aLP {ops:Array Oper} {i:Nat} {o:Oper} (ho:ops[i]?=some o) (h:late ops i=true):iO o.op=true:=by
 unfold late at h;rw[ho] at h;simp only at h;split at h
 ·rename_i e1 _ _;rw[e1];rfl
 ·cases h
def gD (C:Cx) (n:Nat) (ops:Array Oper) (K:Env→St→Prop) (Kp:St→A→Prop) (W:List (Nat × (St→Prop))):Nat→Array Bool→Env→St→Prop
 | 0,l,e,s=>pL ops W l s∧Region.ready .any ops l=[]∧K e s
 | f+1,l,e,s=>pL ops W l s∧(Region.ready .any ops l=[]→K e s)∧∀ i,i∈oD ops l→∀ o,ops[i]?=some o →
   jY C (ops.toList.map (·.dst)) o (cG n o.dst (gD C n ops K Kp W f (l.setIfInBounds i true)) e) Kp e s
section
variable {C:Cx} {n:Nat} {ops:Array Oper} {K:Env→St→Prop} {Kp:St→A→Prop} {W:List (Nat × (St→Prop))} {s:St}
theorem aIT {f:Nat} {l:Array Bool} {e:Env} (h:gD C n ops K Kp W f l e s):pL ops W l s:=by
 cases f with
 | zero=>exact h.1
 | succ f=>exact h.1
theorem xG {ds:List (Option Tmp)} {o:Oper} {KV KV':St→A→Prop} {e:Env} (h:jY C ds o KV Kp e s) (hk:∀ s v,KV s v→KV' s v):jY C ds o KV' Kp e s:=by
 unfold jY at *;split
 ·rename_i hg;simp only[hg] at h;exact aBR h hk fun _ _ h=>h
 ·rename_i j want hg;simp only[hg] at h;obtain ⟨t,ht,h⟩:=h;refine ⟨t,ht,?_⟩;rcases h with ⟨b,hb,h|h⟩|⟨l,hl,h⟩
  ·exact .inl ⟨b,hb,.inl ⟨h.1,aBR h.2 hk fun _ _ h=>h⟩⟩
  ·exact .inl ⟨b,hb,.inr ⟨h.1,hk _ _ h.2⟩⟩
  ·exact .inr ⟨l,hl,hk _ _ h⟩
theorem aMS {o:Oper} {e e':Env} (he:∀ t,t∈o.looksAt ops→e.get t=e'.get t) (x:Operand) (hx:x∈o.op.operands):eF C e x=eF C e' x:=by
 cases x with
 | tmp t =>
  have:=he t (List.mem_append_left _ (List.mem_filterMap.2 ⟨.tmp t,by simpa using hx,rfl⟩));simpa [eF] using this
 | _=>rfl
theorem aBg {o:Oper} {KV:St→A→Prop} {e e':Env} (he:∀ t,t∈o.looksAt ops→e.get t=e'.get t)
  (h:jY C (ops.toList.map (·.dst)) o KV Kp e s):jY C (ops.toList.map (·.dst)) o KV Kp e' s:=by
 have hop:=aMS (C:=C) he;unfold jY at *;split
 ·rename_i hg;simp only[hg] at h;exact aHz hop h
 ·rename_i j want hg;simp only[hg] at h;obtain ⟨t,ht,h⟩:=h
  have htl:e.get t=e'.get t:=he t (by
   rw[aEy] at ht;simp[Oper.looksAt,hg,ht])
  refine ⟨t,ht,?_⟩;rw[← htl];rcases h with ⟨b,hb,h|h⟩|⟨l,hl,h⟩
  ·exact .inl ⟨b,hb,.inl ⟨h.1,aHz hop h.2⟩⟩
  ·exact .inl ⟨b,hb,.inr h⟩
  ·exact .inr ⟨l,hl,h⟩
theorem vU (hK:∀ e e' s,(∀ t,e.get t=e'.get t)→K e s→K e' s):∀ (f:Nat) (l:Array Bool) (e e':Env) (s:St),(∀ t,e.get t=e'.get t) →
  gD C n ops K Kp W f l e s→gD C n ops K Kp W f l e' s
 | 0,l,e,e',s,he,h=>⟨h.1,h.2.1,hK _ _ _ he h.2.2⟩
 | f+1,l,e,e',s,he,h=>by
  refine ⟨h.1,fun hr=>hK _ _ _ he (h.2.1 hr),fun i hi o ho=>?_⟩;refine xG (aBg (fun t _=>he t) (h.2.2 i hi o ho)) fun s' v hv=>?_
  unfold cG at *;cases hd:o.dst with
  | none=>rw[hd] at hv;exact vU hK f _ e e' s' he hv
  | some d =>
   rw[hd] at hv;refine ⟨hv.1,vU hK f _ _ _ s' (fun t=>?_) hv.2⟩;rw[lH,lH];split<;>simp[he]
theorem uM {l:Array Bool} {i:Nat} (h:l.getD i true=false):i<l.size∧l.getD i false=false:=by
 rcases sP i l.size with h'|h'
 ·exact ⟨h',by simp[h'] at h ⊢;exact h⟩
 ·simp[Array.getElem?_eq_none h'] at h
theorem Bef.listed {l:Array Bool} (hdc:DC ops l) {m j:Nat} (h:Bef ops m j):l.getD j false=true→l.getD m false=true:=by
 induction h with
 | edge ho he hb=>intro hj;exact hdc _ _ ho hj _ he hb
 | step ho he hb _ ih=>intro hj;exact ih (hdc _ _ ho hj _ he hb)
theorem Bef.ready {l:Array Bool} (hdc:DC ops l) {m j:Nat} (h:Bef ops m j) (hj:j∈Region.ready .any ops l):l.getD m false=true:=by
 obtain ⟨_,o',ho',hall⟩:=mem_ready.1 hj;cases h with
 | edge ho he hb=>rw[ho'] at ho;cases ho;exact hall _ he hb
 | step ho he hb h=>rw[ho'] at ho;cases ho;exact h.listed hdc (hall _ he hb)
theorem DC.set {l:Array Bool} (hdc:DC ops l) {j:Nat} (hj:j∈Region.ready .any ops l):DC ops (l.setIfInBounds j true):=by
 intro k o ho hk e he hb;obtain ⟨h0,o',ho',hall⟩:=mem_ready.1 hj;refine getD_set_true ?_;by_cases hkj:j=k
 ·subst hkj;rw[ho'] at ho;cases ho;exact hall e he hb
 ·rw[getD_set_ne false hkj] at hk;exact hdc k o ho hk e he hb
theorem aNl {i:Nat} {oi:Oper} (hi:ops[i]?=some oi) (heff:iO oi.op=false) (hK:∀ e e' s,(∀ t,e.get t=e'.get t)→K e s→K e' s)
  (v:A) (p:St→Prop):∀ (f:Nat) (l:Array Bool) (e:Env) (s:St),DC ops l →
  (∀ j oj,ops[j]?=some oj→j≠i→l.getD j true=false→(∀ e∈oj.after,Region.binds .any e=true→e.on≠i)→oi.apart ops oj=true) →
  i∈Region.ready .any ops l→(∀ s' KV,p s'→KV s' v→jY C (ops.toList.map (·.dst)) oi KV Kp e s')→p s→pL ops W l s →
  cG n oi.dst (gD C n ops K Kp ((i,p)::W) f (l.setIfInBounds i true)) e s v→gD C n ops K Kp W (f+1) l e s:=by
 have hli:late ops i=false:=by
  cases hl:late ops i with
  | false=>rfl
  | true=>have:=aLP hi hl;rw[heff] at this;cases this
 have drop:∀ (f:Nat) (l:Array Bool) (e:Env) (s:St),gD C n ops K Kp ((i,p)::W) f l e s→gD C n ops K Kp W f l e s:=by
  intro f
  induction f with
  | zero=>intro l e s h;exact ⟨fun w hw=>h.1 w (zR _ hw),h.2⟩
  | succ f ih =>
   intro l e s h;refine ⟨fun w hw=>h.1 w (zR _ hw),h.2.1,fun j hj o ho=>xG (h.2.2 j hj o ho) fun s' v hv=>?_⟩;unfold cG at *;cases hd:o.dst with
   | none=>rw[hd] at hv;exact ih _ _ _ hv
   | some d=>rw[hd] at hv;exact ⟨hv.1,ih _ _ _ hv.2⟩
 have dead:∀ (l:Array Bool) (m:Nat),Dead ops m (l.setIfInBounds i true)→Dead ops m l:=by
  rintro l m ⟨j,o,ho,he,hl,hb⟩;refine ⟨j,o,ho,he,?_,hb⟩;by_cases hij:i=j
  ·subst hij;rw[hi] at ho;cases ho;rw[heff] at he;cases he
  ·rwa[getD_set_ne false hij] at hl
 have self:∀ (f:Nat) (l:Array Bool) (e:Env) (s:St),(∀ s' KV,p s'→KV s' v→jY C (ops.toList.map (·.dst)) oi KV Kp e s')→p s →
   cG n oi.dst (gD C n ops K Kp ((i,p)::W) f (l.setIfInBounds i true)) e s v →
   ∀ o,ops[i]?=some o→jY C (ops.toList.map (·.dst)) o (cG n o.dst (gD C n ops K Kp W f (l.setIfInBounds i true)) e) Kp e s:=by
  intro f l e s hy hp H o ho;rw[hi] at ho;cases ho;refine hy s _ hp ?_;unfold cG at *;cases hd:oi.dst with
  | none=>rw[hd] at H;exact drop _ _ _ _ H
  | some d=>rw[hd] at H;exact ⟨H.1,drop _ _ _ _ H.2⟩
 intro f
 induction f with
 | zero =>
  intro l e s hdc _ hr hy hp hc H;refine ⟨hc,fun h=>(by rw[h] at hr;cases hr),fun j hjz o ho=>?_⟩;have hj:=xH hjz;have hjl:=aGl hjz hr hli;by_cases hji:j=i
  ·subst hji;exact self 0 l e s hy hp H o ho
  ·have hj':=ready_mono hj hji
   have hnil:Region.ready .any ops (l.setIfInBounds i true)=[]:=by
    unfold cG at H;cases hd:oi.dst with
    | none=>rw[hd] at H;exact H.2.1
    | some d=>rw[hd] at H;exact H.2.2.1
   rw[hnil] at hj';cases hj'
 | succ f ih =>
  intro l e s hdc hfree hr hy hp hc H;refine ⟨hc,fun h=>(by rw[h] at hr;cases hr),fun j hjz oj hoj=>?_⟩;have hj:=xH hjz;have hjl:=aGl hjz hr hli;by_cases hji:j=i
  ·subst hji;exact self _ l e s hy hp H oj hoj
  ·obtain ⟨hjun,oj',hoj',hall⟩:=mem_ready.1 hj;rw[hoj] at hoj';cases hoj';have hi0:=uM (mem_ready.1 hr).1
   have hnot:∀ e∈oj.after,Region.binds .any e=true→e.on≠i:=fun e he hb heq=>by
    have h1:=hall e he hb;rw[heq,hi0.2] at h1;cases h1
   have hap:=hfree j oj hoj hji hjun hnot;obtain ⟨a1,a2,a3⟩:=Oper.apart_spec hap
   have hfree':∀ k ok,ops[k]?=some ok→k≠i→(l.setIfInBounds j true).getD k true=false →
     (∀ e∈ok.after,Region.binds .any e=true→e.on≠i)→oi.apart ops ok=true:=fun k ok hk hki hun hno=>by
    refine hfree k ok hk hki ?_ hno;by_cases hjk:j=k
    ·subst hjk;exact hjun
    ·rw[getD_set_ne true hjk] at hun;exact hun
   have hji':¬ i=j:=fun h=>hji h.symm
   have live:¬ Dead ops i ((l.setIfInBounds j true).setIfInBounds i true):=by
    intro hd;obtain ⟨k,o,ho,he,hl,hb⟩:=dead _ _ hd;by_cases hjk:j=k
    ·subst hjk;have:=hb.ready hdc hj;rw[hi0.2] at this;cases this
    ·rw[getD_set_ne false hjk] at hl;have:=hb.listed hdc hl;rw[hi0.2] at this;cases this
   have hcomm:(l.setIfInBounds i true).setIfInBounds j true=(l.setIfInBounds j true).setIfInBounds i true:=Array.setIfInBounds_comm _ _ hji'
   have after:∀ (e':Env) (s':St),(∀ t,t∈oi.looksAt ops→e.get t=e'.get t) →
     cG n oi.dst (gD C n ops K Kp ((i,p)::W) f ((l.setIfInBounds j true).setIfInBounds i true)) e' s' v →
     gD C n ops K Kp W (f+1) (l.setIfInBounds j true) e' s':=by
    intro e' s' he' H'
    have hchk:pL ops ((i,p)::W) ((l.setIfInBounds j true).setIfInBounds i true) s':=by
     unfold cG at H';cases hd:oi.dst with
     | none=>rw[hd] at H';exact aIT H'
     | some d=>rw[hd] at H';exact aIT H'.2
    refine ih (l.setIfInBounds j true) e' s' (hdc.set hj) hfree' (ready_mono hr hji') (fun s2 KV h1 h2=>aBg he' (hy s2 KV h1 h2)) ?_ ?_ H'
    ·exact hchk _ (rK ..) live
    ·exact fun w hw hl=>hchk w (zR _ hw) fun hd=>hl (dead _ _ hd)
   unfold cG at H;cases hd:oi.dst with
   | none =>
    rw[hd] at H;have h1:=H.2.2 j (aBC (ready_mono hj hji) hjl) oj hoj;refine xG h1 fun s' u hu=>?_
    rw[hcomm] at hu;unfold cG at *;cases hdj:oj.dst with
    | none=>rw[hdj] at hu;exact after e s' (fun _ _=>rfl) (by rw[hd];exact hu)
    | some dj =>
     rw[hdj] at hu;refine ⟨hu.1,after (e.put dj u) s' (fun t ht=>?_) (by rw[hd];exact hu.2)⟩;rw[lH,if_neg (fun h:dj=t=>a3 dj hdj (by rw[h];exact ht))]
   | some d =>
    rw[hd] at H;have h1:=H.2.2.2 j (aBC (ready_mono hj hji) hjl) oj hoj;have h2:=aBg (e':=e) (fun t ht=>by rw[lH,if_neg (fun h:d=t=>a1 d hd (by rw[h];exact ht))]) h1;refine xG h2 fun s' u hu=>?_
    rw[hcomm] at hu;unfold cG at *;cases hdj:oj.dst with
    | none=>rw[hdj] at hu;exact after e s' (fun _ _=>rfl) (by rw[hd];exact ⟨H.1,hu⟩)
    | some dj =>
     rw[hdj] at hu
     refine ⟨hu.1,after (e.put dj u) s' (fun t ht=>?_) (by
      rw[hd];refine ⟨H.1,vU hK _ _ _ _ _ (fun t=>?_) hu.2⟩;have hne:¬ d=dj:=fun h:d=dj=>a2 d hd (by rw[h];exact hdj)
      simp only[lH];by_cases h1:dj=t
      ·subst h1;simp[hne]
      ·simp[h1])⟩
     rw[lH,if_neg (fun h:dj=t=>a3 dj hdj (by rw[h];exact ht))]
end
end
section
section
variable {C:Cx} {F:Fr} {g g0:Gh} {s:St} {w:World} {n:Nat} {ops:Array Oper} {K:Env→St→Prop} {Kp:St→A→Prop} {W:List (Nat × (St→Prop))}
theorem xD {o:Oper} {m:Nat}:qO o m=true↔∃ e,e∈o.after∧Region.binds .any e=true∧e.on=m:=by
 simp only[qO,List.any_eq_true,bT,Array.mem_toList_iff];constructor
 ·rintro ⟨e,h1,h2,h3⟩;exact ⟨e,h1,h2,cC h3⟩
 ·rintro ⟨e,h1,h2,rfl⟩;exact ⟨e,h1,h2,Nat.beq_refl _⟩
theorem vM {i:Nat} (h:late ops i=true):∃ d t ty pos after,ops[i]?=some ⟨some d,.alloc t,ty,pos,after,none⟩∧(∀ e,e∈after→Region.binds .any e=false) ∧
  ∀ j o',ops[j]?=some o'→j≠i→o'.dst≠some d∧(d∈o'.looksAt ops→qO o' i=true)∧(qO o' i=true→∀ m,m<ops.size→m≠j→qO o' m=true):=by
 unfold late at h;cases ho:ops[i]? with
 | none=>rw[ho] at h;cases h
 | some o =>
  rw[ho] at h;obtain ⟨dst,op,ty,pos,after,gd⟩:=o;simp only at h;split at h
  ·rename_i _ _ _ t d;simp only[bT,iV,sN,Array.mem_toList_iff,mM] at h;refine ⟨d,t,ty,pos,after,rfl,h.1,fun j o' hj hne=>?_⟩;have h2:=h.2 j (jC.1 hj).1;rw[hj] at h2;simp only[bT,mN,mM,zS,ne_eq,iV,sN] at h2;obtain ⟨⟨h3,h4⟩,h5⟩:=h2
   have hb:Nat.beq j i=false:=by
    cases hb:Nat.beq j i with
    | false=>rfl
    | true=>exact absurd (cC hb) hne
   refine ⟨?_,fun hl=>?_,fun hbi m hm hmj=>?_⟩
   ·rcases h3 with h3|h3
    ·rw[hb] at h3;cases h3
    ·exact h3
   ·rcases h4 with (h4|h4)|h4
    ·rw[hb] at h4;cases h4
    ·have:(o'.looksAt ops).elem d=true:=List.elem_eq_true_of_mem hl;rw[this] at h4;cases h4
    ·exact h4
   ·rcases h5 with h5|h5
    ·rw[hbi] at h5;cases h5
    ·rcases h5 m hm with h6|h6
     ·exact absurd (cC h6) hmj
     ·exact h6
  ·cases h
def Pend (C:Cx) (n:Nat) (ops:Array Oper) (F:Fr):List (Nat × Nat)→Fr→Array Value→Prop
 | [],F',_=>F'=F
 | (i,k)::P,F',tmps=>∃ F1 d t ty pos after ti z,Pend C n ops F P F1 tmps∧ops[i]?=some ⟨some d,.alloc t,ty,pos,after,none⟩∧late ops i=true∧C.tt t=some ti ∧
   (∀ g,Rzs g ti.zero (Value.cells z).toList)∧(d<n→tmps[d]?=some (.pointer (some ⟨k,0,none⟩)))∧F1 k=none∧F'=(fun j=>if j=k then some (.cells z.cells t,none) else F1 j)
theorem Pend.subP:∀ {P:List (Nat × Nat)} {F':Fr} {tmps:Array Value},Pend C n ops F P F' tmps→∀ k o p,F' k=some (o,some p)→F k=some (o,some p)
 | [],F',tmps,h,k,o,p,hk=>by rw[show F'=F from h] at hk;exact hk
 | (i,q)::P,F',tmps,h,k,o,p,hk=>by
  obtain ⟨F1,d,t,ty,pos,after,ti,z,h1,_,_,_,_,_,h7,rfl⟩:=h;refine h1.subP k o p ?_;by_cases hkq:k=q
  ·simp[hkq] at hk
  ·simpa only[hkq,↓reduceIte] using hk
theorem Pend.sub:∀ {P:List (Nat × Nat)} {F':Fr} {tmps:Array Value},Pend C n ops F P F' tmps→∀ k o,F k=some o→F' k=some o
 | [],F',tmps,h,k,o,hk=>by rw[show F'=F from h];exact hk
 | (i,q)::P,F',tmps,h,k,o,hk=>by
  obtain ⟨F1,d,t,ty,pos,after,ti,z,h1,_,_,_,_,_,h7,rfl⟩:=h;have:=h1.sub k o hk;have hne:k≠q:=by rintro rfl;rw[h7] at this;cases this
  simp only[hne,↓reduceIte];exact this
theorem Pend.put {a:Act} {j:Nat} {o:Oper} {v:Value} (ho:ops[j]?=some o):∀ {P:List (Nat × Nat)} {F':Fr},(∀ p,p∈P→p.1≠j)→Pend C n ops F P F' a.tmps→Pend C n ops F P F' (a.put o.dst v).tmps
 | [],F',_,h=>h
 | (i,q)::P,F',hj,h=>by
  obtain ⟨F1,d,t,ty,pos,after,ti,z,h1,h2,h3,h4,h5,h6,h7,h8⟩:=h;refine ⟨F1,d,t,ty,pos,after,ti,z,h1.put ho (fun p hp=>hj p (by simp[hp])),h2,h3,h4,h5,fun hd=>?_,h7,h8⟩;obtain ⟨d',t',ty',pos',after',e1,_,e3⟩:=vM h3;rw[h2] at e1;cases e1;have hne:=(e3 j o ho (fun e=>hj (i,q) (by simp) e.symm)).1;cases hd':o.dst with
  | none=>exact h6 hd
  | some d2 =>
   have:d2≠d:=by rintro rfl;exact hne hd'
   show (a.tmps.setIfInBounds d2 v)[d]?=_;rw[aA2 this];exact h6 hd
theorem Pend.late:∀ {P:List (Nat × Nat)} {F':Fr} {tmps:Array Value},Pend C n ops F P F' tmps→∀ p,p∈P→late ops p.1=true
 | [],_,_,_,p,hp=>by cases hp
 | (i,k)::P,F',tmps,h,p,hp=>by
  obtain ⟨F1,d,t,ty,pos,after,ti,z,h1,h2,h3,_⟩:=h;cases hp with
  | head=>exact h3
  | tail _ hp=>exact h1.late p hp
def iN (ops:Array Oper) (P:List (Nat × Nat)):List (Option Tmp):=P.map fun p=>(ops[p.1]?).bind (·.dst)
def gN (P:List (Nat × Nat)) (l:Array Bool):Array Bool:=P.foldr (fun p l=>l.setIfInBounds p.1 true) l
theorem aAl {m:Nat} (d:Bool):∀ (P:List (Nat × Nat)) (l:Array Bool),(∀ p,p∈P→p.1≠m)→(gN P l).getD m d=l.getD m d
 | [],l,_=>rfl
 | p::P,l,h=>by
  simp only[gN,List.foldr_cons];rw[getD_set_ne d (h p (by simp))];exact aAl d P l fun q hq=>h q (by simp[hq])
theorem aHE {m:Nat}:∀ (P:List (Nat × Nat)) (l:Array Bool),l.getD m false=true→(gN P l).getD m false=true
 | [],l,h=>h
 | p::P,l,h=>by
  simp only[gN,List.foldr_cons];exact getD_set_true (aHE P l h)
theorem aEq {i:Nat}:∀ (P:List (Nat × Nat)) (l:Array Bool),(∀ p,p∈P→p.1≠i)→(gN P l).setIfInBounds i true=gN P (l.setIfInBounds i true)
 | [],l,_=>rfl
 | p::P,l,h=>by
  have hp:=h p (by simp);simp only[gN,List.foldr_cons];rw[Array.setIfInBounds_comm _ _ hp];have:=aEq (i:=i) P l fun q hq=>h q (by simp[hq])
  simp only[gN] at this;rw[this]
def sE (l:Array Bool):Nat:=l.toList.count false
theorem aIn {l:Array Bool} {i:Nat} (h:l.getD i true=false):sE (l.setIfInBounds i true)+1=sE l:=by
 obtain ⟨l⟩:=l
 have key:∀ (l:List Bool) (i:Nat),l[i]?=some false→(l.set i true).count false+1=l.count false:=by
  intro l
  induction l with
  | nil=>intro i h;simp at h
  | cons x r ih =>
   intro i h;cases i with
   | zero=>simp only[kI,bM] at h;subst h;simp
   | succ i =>
    have:=ih i (by simpa using h);simp only[lF,List.count_cons];omega
 have hl:l[i]?=some false:=by
  cases hx:l[i]? with
  | none=>simp[hx] at h
  | some b=>simp[hx] at h;rw[h]
 simpa [sE] using key l i hl
theorem aNQ {l:Array Bool} (h:sE l=0):Region.ready .any ops l=[]:=by
 rw[List.eq_nil_iff_forall_not_mem];intro i hi;have:=aIn (mem_ready.1 hi).1;omega
theorem EnvOk.at {g:Gh} {n:Nat} {e:Env} {tmps:Array Value} {d:Nat} {x:A} {v:Value} (h:EnvOk g n e tmps) (hd:tmps[d]?=some v) (hv:Rz g x v):EnvOk g n (e.put d x) tmps:=by
 refine ⟨h.size,fun t y hy=>?_⟩;rw[lH] at hy;by_cases ht:d=t
 ·subst ht;simp only[↓reduceIte,bM] at hy;subst hy;exact ⟨v,hd,hv⟩
 ·simp only[ht,↓reduceIte] at hy;exact h.val t y hy
theorem R.adopt {F1:Fr} {k b:Nat} {o:Obj} {ob:Ob} (h:R C.toCtx (fun j=>if j=k then some (o,none) else F1 j) g s w) (hF:F1 k=none) (ho:ObRz g ob (some o)) (hb:g.beta b=none) {s':St}
  (hO:∀ q,s'.getO q=if b=q then some ob else s.getO q) (hT:∀ q,s'.getT q=s.getT q) (hL:s'.ls=s.ls) (hl:C.det=true→s.lim≤s'.lim∧b<s'.lim) :
  R C.toCtx F1 (g.bx b k) s' w:=by
 have hle:=xW hb k;have hk:=h.frm k (o,none) (by simp)
 have hne:∀ c q,g.beta c=some q→q≠k:=by
  rintro c q hc rfl;have:=h.bfr c q hc;simp at this
 have h':=h.unframe (F0:=F1) fun q x hq=>by
  have:q≠k:=by rintro rfl;rw[hF] at hq;cases hq
  simp only[this,↓reduceIte];exact hq
 have h':=h' fun q x p hq=>by
  by_cases hqk:q=k
  ·simp[hqk] at hq
  ·simpa only[hqk,↓reduceIte] using hq
 refine ⟨fun c x hx=>?_,?_,?_,h'.pis,h'.frm,fun c cs hc=>?_,?_,?_,?_,fun hd c hc=>?_,fun x hx=>(h.lst x (by rw[← hL];exact hx)).mono hle,fun c q hc=>?_,h.env⟩
 ·rw[hO] at hx;by_cases hbc:b=c
  ·subst hbc;simp only[↓reduceIte,bM] at hx;subst hx;exact ⟨k,by simp[Gh.bx],by rw[hk.1];exact ho.mono hle,hk.2,hF⟩
  ·simp only[hbc,↓reduceIte] at hx;obtain ⟨q,h1,h2,h3⟩:=h'.obj c x hx;exact ⟨q,hle.beta _ _ h1,h2.mono hle,h3⟩
 ·intro t n e ht;rw[hT] at ht;exact h'.tok t n e ht
 ·intro t t' n n' v v' c hne ht ht';rw[hT] at ht ht';exact h'.sep t t' n n' v v' c hne ht ht'
 ·obtain ⟨pre,ty,fr,hp,hl,h1,hr⟩:=h'.glb c cs hc;exact ⟨pre,ty,fr,hp,hl,h1,fun j c v hc hv=>(hr j c v hc hv).mono hle⟩
 ·obtain ⟨N,hN⟩:=h.fsh;refine ⟨max N (b+1),fun t ht=>⟨by rw[hT];exact (hN t (by omega)).1,(hN t (by omega)).2.1,?_⟩⟩;have:t≠b:=by omega
  simp[Gh.bx,this,(hN t (by omega)).2.2]
 ·intro c q hc;simp only[Gh.bx] at hc;split at hc
  ·cases hc;exact (jC.1 hk.1).1
  ·exact h.bet c q hc
 ·intro c d q hc hd;simp only[Gh.bx] at hc hd;split at hc<;>split at hd
  ·omega
  ·cases hc;exact absurd rfl (hne d k hd)
  ·cases hd;exact absurd rfl (hne c k hc)
  ·exact h.inj c d q hc hd
 ·obtain ⟨l1,l2⟩:=hl hd;obtain ⟨d1,d2⟩:=h.dtm hd c (by omega);have:c≠b:=by omega
  exact ⟨by simp[Gh.bx,this,d1],d2⟩
 ·simp only[Gh.bx] at hc;split at hc
  ·cases hc;exact hF
  ·exact h'.bfr c q hc
theorem R.lay (h:R C.toCtx F g s w) (o:Obj):R C.toCtx (fun j=>if j=w.heap.size then some (o,none) else F j) g s (w.alloc o):=by
 have hk:∀ k,k<w.heap.size→(w.alloc o).heap[k]?=w.heap[k]?:=fun k hk=>uA w o hk
 have h':=h.keep hk;refine ⟨fun c x hx=>?_,fun t n e ht=>?_,h'.sep,h'.pis,fun q x hq=>?_,fun c cs hc=>?_,h'.fsh,h'.bet,h'.inj,h'.dtm,h'.lst,fun c q hc=>?_,h'.env⟩;rotate_left 3
 ·obtain ⟨pre,ty,fr,hp,h1⟩:=h.glb c cs hc;have:c≠w.heap.size:=Nat.ne_of_lt (h.lt_frm hp);exact ⟨pre,ty,fr,by simp only[this,↓reduceIte];exact hp,h1⟩
 rotate_left 1
 ·obtain ⟨q,h1,h2,h3,h4⟩:=h'.obj c x hx;have:q≠w.heap.size:=Nat.ne_of_lt (h.bet c q h1);exact ⟨q,h1,h2,h3,by simp only[this,↓reduceIte];exact h4⟩
 ·obtain ⟨v,xs,h1,h2,h3,h4⟩:=h'.tok t n e ht;refine ⟨v,xs,h1,h2,h3,fun q hq=>?_⟩;have:q≠w.heap.size:=Nat.ne_of_lt (h.lt_pi (h4 q hq).1);exact ⟨(h4 q hq).1,by simp only[this,↓reduceIte];exact (h4 q hq).2⟩
 ·by_cases hq':q=w.heap.size
  ·subst hq';simp only[↓reduceIte,bM] at hq;subst hq;exact ⟨vG w o,h.pi_new⟩
  ·simp only[hq',↓reduceIte] at hq;exact h'.frm q x hq
 ·have:q≠w.heap.size:=Nat.ne_of_lt (h.bet c q hc);simp only[this,↓reduceIte];exact h.bfr c q hc
theorem aLN {k:Nat} {F1:Fr} {o:Obj} {ob:Ob} {f:Nat→A} {KV:St→A→Prop} (h:R C.toCtx (fun j=>if j=k then some (o,none) else F1 j) g s w) (hF:F1 k=none) (ho:ObRz g ob (some o))
  (hK:pJ C s ob f KV):∃ b s',g.beta b=none∧R C.toCtx F1 (g.bx b k) s' w∧KV s' (f b):=by
 unfold pJ at hK;cases hd:C.det with
 | false =>
  rw[hd] at hK;obtain ⟨b,hb⟩:=h.some_free;exact ⟨b,s.setO b ob,hb,h.adopt hF ho hb (fun q=>aJ s b ob q) (fun q=>rfl) rfl (fun hh=>by rw[hd] at hh;cases hh),hK b (h.free hb)⟩
 | true =>
  rw[hd] at hK;have hb:=(h.dtm hd s.lim (bE _)).1;exact ⟨s.lim,s.newO ob,hb,h.adopt hF ho hb (fun q=>xC s ob q) (fun q=>rfl) rfl (fun _=>⟨Nat.le_succ _,iU _⟩),hK⟩
theorem aFs {a:Act} (f:Nat) (hn:a.tmps.size=n):∀ (P:List (Nat × Nat)) (la:Array Bool) (F':Fr) (g:Gh) (e:Env) (s:St),(∀ p,p∈P→la.getD p.1 true=false)→(P.map (·.1)).Nodup →
  (∀ m,m∈Region.ready .any ops la→late ops m=true)→Pend C n ops F P F' a.tmps→R C.toCtx F' g s w→EnvOk g n (e.rem (iN ops P)) a.tmps →
  gD C n ops K Kp W (f+P.length) la e s→∃ g' e' s',g.le g'∧R C.toCtx F g' s' w∧EnvOk g' n e' a.tmps∧gD C n ops K Kp W f (gN P la) e' s'
 | [],la,F',g,e,s,_,_,_,hP,hR,he,h=>by
  rw[show F'=F from hP] at hR;refine ⟨g,e,s,fU g,hR,he.sub fun t x hx=>?_,h⟩;rw[nX];simpa [iN] using hx
 | (i,k) :: P,la,F',g,e,s,hun,hnd,hall,hP,hR,he,h => by
  obtain ⟨F1,d,t,ty,pos,after,ti,z,h1,h2,h3,h4,h5,h6,h7,rfl⟩:=hP;obtain ⟨d',t',ty',pos',after',q1,q2,q3⟩:=vM h3;rw[h2] at q1;cases q1;have hi0:=hun (i,k) (by simp);have hr:i∈Region.ready .any ops la:=mem_ready.2 ⟨hi0,_,h2,fun e he hb=>by rw[q2 e he] at hb;cases hb⟩
  have hz:i∈oD ops la:=by
   unfold oD;rw[if_pos (by rw[iV];exact hall)];exact hr
  have hs:=h.2.2 i hz _ h2;simp only[jY,aX,h4,wD] at hs;obtain ⟨b,s',hb,hR',hK'⟩:=aLN hR h7 (ob:=.cells t ti.zero) ⟨z.cells.toList,[],by simp,h5 g,(C.htt t ti h4).one⟩ hs;obtain ⟨hdn,hK'⟩:=hK';have hle:=xW hb k;simp only[bK,List.nodup_cons] at hnd;have hne:∀ p,p∈P→p.1≠i:=fun p hp e=>hnd.1 (bW.2 ⟨p,hp,e⟩)
  have hset:gN ((i,k)::P) la=gN P (la.setIfInBounds i true):=by
   rw[← aEq P la hne];rfl
  have henv:EnvOk (g.bx b k) n ((e.put d (.ptr b 0)).rem (iN ops P)) a.tmps:=by
   have h8:=(he.mono hle).at (h6 hdn) (x:=.ptr b 0) (.ptr b 0 k (by simp[Gh.bx]));refine h8.sub fun u x hx=>?_
   rw[nX] at hx;split at hx
   ·cases hx
   ·rename_i hu;rw[lH] at hx ⊢;by_cases hdu:d=u
    ·simpa only[hdu,↓reduceIte] using hx
    ·simp only[hdu,↓reduceIte] at hx ⊢;rw[nX,if_neg]
     ·exact hx
     ·rw[List.elem_iff] at hu ⊢;simp only[iN,bK,h2,Option.bind_some,iR,bM,not_or] at hu ⊢;exact ⟨fun e=>hdu e.symm,hu⟩
  by_cases hPn:P=[]
  ·subst hPn;rw[show F1=F from h1] at hR'
   have hn0:((e.put d (.ptr b 0)).rem (iN ops []))=e.put d (.ptr b 0):=by
    have:∀ e:Env,e.rem []=e:=by
     intro e
     induction e with
     | nil=>rfl
     | cons x e ih=>simp only[Env.rem,List.elem_nil,bN,↓reduceIte,ih]
    exact this _
   rw[hn0] at henv;exact ⟨_,_,s',hle,hR',henv,by rw[hset];exact hK'⟩
  ·have hnew:∀ m,m∈Region.ready .any ops (la.setIfInBounds i true)→late ops m=true:=by
    intro m hm;by_cases hm':m∈Region.ready .any ops la
    ·exact hall m hm'
    ·exfalso;obtain ⟨m0,om,hom,hdeps⟩:=mem_ready.1 hm
     have hmi:m≠i:=by
      rintro rfl;have hlt:=(uM hi0).1;simp[hlt] at m0
     have hbi:qO om i=true:=by
      cases hbb:qO om i with
      | true=>rfl
      | false =>
       exfalso;refine hm' (mem_ready.2 ⟨by rw[getD_set_ne true (fun e=>hmi e.symm)] at m0;exact m0,om,hom,fun ed he2 hb=>?_⟩)
       have hei:i≠ed.on:=by
        intro hie;rw[xD.2 ⟨ed,he2,hb,hie.symm⟩] at hbb;cases hbb
       have:=hdeps ed he2 hb
       rwa[getD_set_ne false hei] at this
     obtain ⟨⟨p,kp⟩,hpP⟩:=List.exists_mem_of_ne_nil P hPn;have hpi:p≠i:=hne (p,kp) hpP;have hp0:=hun (p,kp) (by simp[hpP]);obtain ⟨d2,t2,ty2,pos2,after2,z1,z2,_⟩:=vM (h1.late (p,kp) hpP)
     have hpm:p≠m:=by
      rintro rfl;rw[hom] at z1;cases z1;obtain ⟨e,he,hb,_⟩:=xD.1 hbi;rw[z2 e he] at hb;cases hb
     obtain ⟨e,he,hb,hep⟩:=xD.1 ((q3 m om hom hmi).2.2 hbi p (jC.1 z1).1 hpm);have:=hdeps e he hb;rw[hep,getD_set_ne false (fun e=>hpi e.symm),(uM hp0).2] at this;cases this
   obtain ⟨g',e',s2,r1,r2,r3,r4⟩:=aFs f hn P (la.setIfInBounds i true) F1 (g.bx b k) (e.put d (.ptr b 0)) s'
    (fun p hp=>by rw[getD_set_ne true (fun e=>hne p hp e.symm)];exact hun p (by simp[hp])) hnd.2 hnew h1 hR' henv hK'
   exact ⟨g',e',s2,hle.trans r1,r2,r3,by rw[hset];exact r4⟩
def Rle (C:Cx) (s s':St):Prop:=∀ (F:Fr) (g:Gh) (w:World),R C.toCtx F g s w→R C.toCtx F g s' w
theorem Rle.refl (s:St):Rle C s s:=fun _ _ _ h=>h
theorem aMA {P:List (Nat × Nat)} {F':Fr} {tmps:Array Value} (h:Pend C n ops F P F' tmps) {d:Nat} (hd:(iN ops P).elem (some d)=true):∃ p,p∈P∧∃ t ty pos after,ops[p.1]?=some ⟨some d,.alloc t,ty,pos,after,none⟩:=by
 have hm:=List.mem_of_elem_eq_true hd;simp only[iN,bW] at hm;obtain ⟨p,hp,hb⟩:=hm;obtain ⟨d',t,ty,pos,after,h1,_⟩:=vM (h.late p hp);rw[h1] at hb;simp only[Option.bind_some,bM] at hb;subst hb;exact ⟨p,hp,t,ty,pos,after,h1⟩
theorem aO5 {e0:Env} (hds:∀ o,o∈ops.toList→∀ d,o.dst=some d→e0.get d=none) {D:List Deferred} {Q:XK→Env→St→Prop} (hK:∀ e s,K e s→∃ e' s',e.ge e'∧Rle C s s'∧Q .normal e' s')
  (hKp:∀ s v,Kp s v→Q (.panic v) e0 s) (htt:∀ i t o,ops[i]?=some o→late ops i=true→o.op=.alloc t→(C.tt t).isSome=true) :
  ∀ (f:Nat) (P:List (Nat × Nat)) (la:Array Bool) (F':Fr) (g:Gh) (e:Env) (s:St) (a:Act) (w:World),sE (gN P la)≤f→(∀ p,p∈P→la.getD p.1 true=false)→(P.map (·.1)).Nodup →
   Pend C n ops F P F' a.tmps→g0.le g→R C.toCtx F' g s w→EnvOk g n (e.rem (iN ops P)) a.tmps→EnvOk g n e0 a.tmps→a.defers=D →
   gD C n ops K Kp W (f+P.length) la e s→wpAny C.P .any ops (Post C F g0 n D Q) f (gN P la) a w:=by
 have fin:∀ (g:Gh) (e:Env) (s:St) (a:Act) (w:World),g0.le g→R C.toCtx F g s w→EnvOk g n e a.tmps→a.defers=D→K e s→Post C F g0 n D Q .normal a w :=
  fun g e s a w hg hR he hD h=>by
   obtain ⟨e',s',h1,h2,h3⟩:=hK _ _ h;exact ⟨g,e',s',.normal,hg,h2 _ _ _ hR,he.sub h1,hD,trivial,h3⟩
 have last:∀ (f:Nat) (P:List (Nat × Nat)) (la:Array Bool) (F':Fr) (g:Gh) (e:Env) (s:St) (a:Act) (w:World),(∀ p,p∈P→la.getD p.1 true=false)→(P.map (·.1)).Nodup →
   Pend C n ops F P F' a.tmps→g0.le g→R C.toCtx F' g s w→EnvOk g n (e.rem (iN ops P)) a.tmps→a.defers=D →
   gD C n ops K Kp W (f+P.length) la e s→Region.ready .any ops (gN P la)=[]→Post C F g0 n D Q .normal a w:=by
  intro f P la F' g e s a w hun hnd hP hg hR he hD h hr
  obtain ⟨g',e',s',r1,r2,r3,r4⟩:=aFs f he.size P la F' g e s hun hnd (fun m hm=>by
   by_cases hmP:∃ p,p∈P∧p.1=m
   ·obtain ⟨p,hp,rfl⟩:=hmP;exact hP.late p hp
   ·exfalso;obtain ⟨m0,om,hom,hdeps⟩:=mem_ready.1 hm;have:m∈Region.ready .any ops (gN P la):=mem_ready.2 ⟨by rw[aAl true P la (fun p hp e=>hmP ⟨p,hp,e⟩)];exact m0,om,hom,fun e he hb=>aHE P la (hdeps e he hb)⟩;rw[hr] at this;cases this) hP hR he h
  have hk:K e' s':=by
   cases f with
   | zero=>exact r4.2.2
   | succ f=>exact r4.2.1 hr
  exact fin g' e' s' a w (hg.trans r1) r2 r3 hD hk
 intro f
 induction f with
 | zero =>
  intro P la F' g e s a w hu hun hnd hP hg hR he he0 hD h;have hr:Region.ready .any ops (gN P la)=[]:=aNQ (by omega);exact ⟨hr,last 0 P la F' g e s a w hun hnd hP hg hR he hD h hr⟩
 | succ f ih =>
  intro P la F' g e s a w hu hun hnd hP hg hR he he0 hD h;refine ⟨fun hr=>last (f+1) P la F' g e s a w hun hnd hP hg hR he hD h hr,fun i hi=>?_⟩;obtain ⟨hi0,o,ho,hdeps⟩:=mem_ready.1 hi
  have hiP:∀ p,p∈P→p.1≠i:=by
   rintro p hp rfl;have hlt:=(uM (hun p hp)).1
   have:(gN P la).getD p.1 false=true:=by
    have:∀ {P:List (Nat × Nat)},p∈P→(gN P la).getD p.1 false=true:=by
     intro P
     induction P with
     | nil=>intro h;cases h
     | cons q P ih' =>
      intro h
      have hsz:∀ P:List (Nat × Nat),(gN P la).size=la.size:=by
       intro P
       induction P with
       | nil=>rfl
       | cons x P ih=>simp only[gN,List.foldr_cons,Array.size_setIfInBounds] at *;exact ih
      simp only[gN,List.foldr_cons];cases h with
      | head =>
       have:=hsz P;simp only[gN] at this;simp[this,hlt]
      | tail _ h=>exact getD_set_true (ih' h)
    exact this hp
   rw[(uM hi0).2] at this;cases this
  have hila:la.getD i true=false:=by rw[aAl true P la hiP] at hi0;exact hi0
  have hu':sE ((gN P la).setIfInBounds i true)≤f:=by have:=aIn hi0;omega
  have hd0:∀ d,o.dst=some d→e0.get d=none:=hds o (by obtain ⟨h1,h2⟩:=jC.1 ho;rw[← h2];simp)
  by_cases hlate:late ops i=true
  ·
   obtain ⟨d,t,ty,pos,after,q1,q2,q3⟩:=vM hlate;rw[ho] at q1;cases q1;obtain ⟨ti,hti⟩:=Option.isSome_iff_exists.1 (htt i t _ ho hlate rfl);obtain ⟨z,hz,hzr⟩:=aAt hti w;unfold wpOp;rw[ho];simp only;rw[if_pos (by simp[Region.wanted])];left
   have hrun:(execOp a.eval ⟨some d,.alloc t,ty,pos,after,none⟩).run C.P w=.ok (.value (.pointer (some ⟨w.heap.size,0,none⟩))) (w.alloc (.cells z.cells t)):=by
    simp only[execOp,Instr.alloc,bH,hz,bJ,newVar,newRow,run_newObj,bX];rfl
   unfold Oper.wp;rw[hrun,Oper.upon_value];have hset:(gN P la).setIfInBounds i true=gN ((i,w.heap.size)::P) la:=rfl;rw[hset] at hu' ⊢
   have hdP:∀ p,p∈P→∀ d' t' ty' pos' after',ops[p.1]?=some ⟨some d',.alloc t',ty',pos',after',none⟩→d'≠d:=by
    intro p hp d' t' ty' pos' after' hp' e;have:=(q3 p.1 _ hp' (hiP p hp)).1;exact this (by rw[e])
   refine ih ((i,w.heap.size)::P) la (fun j=>if j=w.heap.size then some (.cells z.cells t,none) else F' j) g e s _ _ hu' (fun p hp=>?_) ?_ ?_ hg (hR.lay _) ?_ (he0.other hd0) (by rw[aBl];exact hD) ?_
   ·cases hp with
    | head=>exact hila
    | tail _ hp=>exact hun p hp
   ·simp only[bK,List.nodup_cons];refine ⟨fun hm=>?_,hnd⟩;obtain ⟨p,hp,hpe⟩:=bW.1 hm;exact hiP p hp hpe
   ·refine ⟨F',d,t,ty,pos,after,ti,z,hP.put ho (fun p hp=>hiP p hp),ho,hlate,hti,hzr,fun hd=>?_,hR.frm_new,rfl⟩;show (a.tmps.setIfInBounds d _)[d]?=_;simp[he.size,hd]
   ·have:=he.del (d:=d) (v:=.pointer (some ⟨w.heap.size,0,none⟩));refine this.sub fun u x hx=>?_
    rw[nX] at hx;split at hx
    ·cases hx
    ·rename_i hu2
     have hu3:¬ u=d∧¬ (iN ops P).elem (some u)=true:=by
      rw[List.elem_iff] at hu2 ⊢;simpa only[iN,bK,ho,Option.bind_some,iR,bM,not_or] using hu2
     have hdu:¬ d=u:=fun e=>hu3.1 e.symm
     rw[Env.get_del,if_neg hdu,nX,if_neg hu3.2];exact hx
   ·have:f+((i,w.heap.size)::P).length=f+1+P.length:=by simp only[aF];omega
    rw[this];exact h
  ·have hlate':late ops i=false:=by simpa using hlate
   have step:∀ (P:List (Nat × Nat)) (la:Array Bool) (F':Fr) (g:Gh) (e:Env) (s:St),sE ((gN P la).setIfInBounds i true)≤f→(∀ p,p∈P→la.getD p.1 true=false)→(∀ p,p∈P→p.1≠i)→(P.map (·.1)).Nodup →
     Pend C n ops F P F' a.tmps→g0.le g→R C.toCtx F' g s w→EnvOk g n (e.rem (iN ops P)) a.tmps→EnvOk g n e0 a.tmps→(∀ d,(iN ops P).elem (some d)=true→d ∉ o.looksAt ops) →
     jY C (ops.toList.map (·.dst)) o (cG n o.dst (gD C n ops K Kp W (f+P.length) (la.setIfInBounds i true)) e) Kp e s →
     wpOp C.P ops (Post C F g0 n D Q) i (wpAny C.P .any ops (Post C F g0 n D Q) f ((gN P la).setIfInBounds i true)) a w:=by
    intro P la F' g e s hu' hun hiP hnd hP hg hR he he0 hlook hs;rw[aEq P la hiP] at hu' ⊢;have hun':∀ p,p∈P→(la.setIfInBounds i true).getD p.1 true=false:=fun p hp=>by rw[getD_set_ne true (fun e=>hiP p hp e.symm)];exact hun p hp
    have hs1:=aBg (ops:=ops) (e':=e.rem (iN ops P)) (fun t ht=>by
     rw[nX,if_neg];intro hh;exact hlook t hh ht) hs
    have next:∀ g' v w' e1 s',g.le g'→R C.toCtx F' g' s' w'→EnvOk g' n e1 (a.put o.dst v).tmps→EnvOk g' n e0 (a.put o.dst v).tmps→(a.put o.dst v).defers=D →
      (∃ e2,gD C n ops K Kp W (f+P.length) (la.setIfInBounds i true) e2 s'∧∀ t x,(e2.rem (iN ops P)).get t=some x→e1.get t=some x) →
      wpAny C.P .any ops (Post C F g0 n D Q) f (gN P (la.setIfInBounds i true)) (a.put o.dst v) w':=by
     rintro g' v w' e1 s' h1 h2 h3 h4 h5 ⟨e2,h6,h7⟩;exact ih P (la.setIfInBounds i true) F' g' e2 s' _ w' hu' hun' hnd (hP.put ho hiP) (hg.trans h1) h2 (h3.sub h7) h4 h5 h6
    have conv:∀ s' v,cG n o.dst (gD C n ops K Kp W (f+P.length) (la.setIfInBounds i true)) e s' v →
      cG n o.dst (fun e1 s'=>∃ e2,gD C n ops K Kp W (f+P.length) (la.setIfInBounds i true) e2 s'∧∀ t x,(e2.rem (iN ops P)).get t=some x→e1.get t=some x) (e.rem (iN ops P)) s' v:=by
     intro s' v hv;unfold cG at hv ⊢;cases hd:o.dst with
     | none=>rw[hd] at hv;exact ⟨e,hv,fun t x hx=>hx⟩
     | some d =>
      rw[hd] at hv;refine ⟨hv.1,_,hv.2,fun t x hx=>?_⟩;rw[nX] at hx;split at hx
      ·cases hx
      ·rename_i ht;rw[lH] at hx ⊢;by_cases hdt:d=t
       ·simpa only[hdt,↓reduceIte] using hx
       ·simp only[hdt,↓reduceIte] at hx ⊢;rw[nX,if_neg ht];exact hx
    have hs2:=xG hs1 conv;have hF:=fun k o=>hP.sub k o
    unfold wpOp;rw[ho];simp only;obtain ⟨dst,op,ty,pos,after,gd⟩:=o
    have run:aX C op (eF C (e.rem (iN ops P))) (cG n dst (fun e1 s'=>∃ e2,gD C n ops K Kp W (f+P.length) (la.setIfInBounds i true) e2 s'∧∀ t x,(e2.rem (iN ops P)).get t=some x→e1.get t=some x) (e.rem (iN ops P))) Kp s →
      (⟨dst,op,ty,pos,after,gd⟩:Oper).wp C.P a w (wpAny C.P .any ops (Post C F g0 n D Q) f (gN P (la.setIfInBounds i true))) (Post C F g0 n D Q):=by
     intro hev;have:=aJt (ev:=a.eval) (ty:=ty) (dst:=dst) (pos:=pos) (after:=after) (gd:=gd) hR (he.oper hR) hev;exact aFZ hF (fun k o p=>hP.subP k o p) (o:=⟨dst,op,ty,pos,after,gd⟩) hg he he0 hd0 hD next hKp this
    have skip:cG n dst (fun e1 s'=>∃ e2,gD C n ops K Kp W (f+P.length) (la.setIfInBounds i true) e2 s'∧∀ t x,(e2.rem (iN ops P)).get t=some x→e1.get t=some x) (e.rem (iN ops P)) s (.tuple []) →
      wpAny C.P .any ops (Post C F g0 n D Q) f (gN P (la.setIfInBounds i true)) (a.put dst undef) w:=by
     intro hs;unfold cG at hs;cases hdst:dst with
     | none=>subst hdst;exact next g undef w _ s (fU g) hR he he0 hD hs
     | some d=>subst hdst;exact next g undef w _ s (fU g) hR (he.put hs.1 (.tuple [] [] rfl (by simp))) (he0.other fun d' hd'=>by cases hd';exact hd0 d rfl) (by rw[aBl];exact hD) hs.2
    unfold jY at hs2;cases gd with
    | none =>
     rw[if_pos (by simp[Region.wanted])];exact .inl (run hs2)
    | some jw =>
     obtain ⟨j,want⟩:=jw;obtain ⟨t,ht,hs2⟩:=hs2;rcases hs2 with ⟨b,hb,hs2⟩|⟨ls,hl,hs2⟩
     ·have hy:=aGB (b:=b) ht he hb
      have hw:Region.wanted (⟨dst,op,ty,pos,after,some (j,want)⟩:Oper) (yielded ops a.tmps)=(b == want):=by
       simp only[Region.wanted,hy];cases b<;>cases want<;>rfl
      rcases hs2 with ⟨hbw,hs2⟩|⟨hbw,hs2⟩
      ·rw[if_pos (by rw[hw];simpa using hbw)];exact .inl (run hs2)
      ·rw[if_neg (by rw[hw];simpa using hbw)];exact skip hs2
     ·have hy:=aF1 ht he hl;rw[if_neg (by simp[Region.wanted,hy])];exact skip hs2
   by_cases hdep:∃ p,p∈P∧qO o p.1=true
   ·
    obtain ⟨p,hp,hbp⟩:=hdep;obtain ⟨dp,tp,typ,posp,afterp,p1,p2,p3⟩:=vM (hP.late p hp);have hall:=(p3 i o ho (fun e=>hiP p hp e.symm)).2.2 hbp
    obtain ⟨g',e',s',r1,r2,r3,r4⟩:=aFs (f+1) he.size P la F' g e s hun hnd (fun m hm=>by
     by_cases hmP:∃ p,p∈P∧p.1=m
     ·obtain ⟨p,hp,rfl⟩:=hmP;exact hP.late p hp
     ·exfalso;obtain ⟨m0,om,hom,hdm⟩:=mem_ready.1 hm;by_cases hmi:m=i
      ·subst hmi;rw[ho] at hom;cases hom;obtain ⟨e,he,hb,hep⟩:=xD.1 hbp;have:=hdm e he hb;rw[hep,(uM (hun p hp)).2] at this;cases this
      ·obtain ⟨e,he,hb,hep⟩:=xD.1 (hall m (jC.1 hom).1 hmi);have:=hdeps e he hb;rw[hep,aAl false P la (fun p hp e=>hmP ⟨p,hp,e⟩),(uM m0).2] at this;cases this) hP hR he h
    refine step [] (gN P la) F g' e' s' hu' (fun p hp=>by cases hp) (fun p hp=>by cases hp) (by simp) rfl (hg.trans r1) r2 (r3.sub fun t x hx=>?_) (he0.mono r1) (fun d hd=>by simp[iN] at hd) ?_
    ·rw[nX] at hx;simpa [iN] using hx
    ·exact r4.2.2 i (aBC hi hlate') o ho
   ·have hri:i∈Region.ready .any ops la:=mem_ready.2 ⟨hila,o,ho,fun e he hb=>by
     have:=hdeps e he hb;rw[aAl false P la (fun p hp e'=>hdep ⟨p,hp,xD.2 ⟨e,he,hb,e'.symm⟩⟩)] at this;exact this⟩
    refine step P la F' g e s hu' hun hiP hnd hP hg hR he he0 (fun d hd hl=>?_) ?_
    ·obtain ⟨p,hp,t,ty,pos,after,h1⟩:=aMA hP hd;obtain ⟨d',t',ty',pos',after',p1,p2,p3⟩:=vM (hP.late p hp);rw[h1] at p1;cases p1;exact hdep ⟨p,hp,(p3 i o ho (fun e=>hiP p hp e.symm)).2.1 hl⟩
    ·have e1:f+1+P.length=f+P.length+1:=by omega
     rw[e1] at h;exact h.2.2 i (aBC hri hlate') o ho
theorem aJm {e0:Env} (hds:∀ o,o∈ops.toList→∀ d,o.dst=some d→e0.get d=none) {D:List Deferred} {Q:XK→Env→St→Prop} (hK:∀ e s,K e s→∃ e' s',e.ge e'∧Rle C s s'∧Q .normal e' s')
  (hKp:∀ s v,Kp s v→Q (.panic v) e0 s) (htt:∀ i t o,ops[i]?=some o→late ops i=true→o.op=.alloc t→(C.tt t).isSome=true)
  (f:Nat) (l:Array Bool) (g:Gh) (e:Env) (s:St) (a:Act) (w:World) (hu:sE l≤f) (hg:g0.le g) (hR:R C.toCtx F g s w) (he:EnvOk g n e a.tmps) (he0:EnvOk g n e0 a.tmps) (hD:a.defers=D)
  (h:gD C n ops K Kp W f l e s):wpAny C.P .any ops (Post C F g0 n D Q) f l a w :=
 aO5 hds hK hKp htt f [] l F g e s a w hu (fun p hp=>by cases hp) (by simp) rfl hg hR (he.sub fun t x hx=>by rw[nX] at hx;simpa [iN] using hx) he0 hD h
inductive OT where
 | nil
 | node (i:Nat) (r:OT)
 | alt (a b:OT)
 | pair (i j:Nat)
def OT.l:List Nat→OT→OT
 | [],t=>t
 | i::r,t=>.node i (OT.l r t)
def jB:List Oper→Nat→Option Oper
 | [],_=>none
 | o::_,0=>some o
 | _::r,i+1=>jB r i
def qW (C:Cx) (t:TypeId) (b o:Nat) (s:St):Option A:=match s.getO b with
 | some (.cells _ cs)=>pY C t cs o
 | _=>none
def aCg (C:Cx) (t:TypeId) (b o:Nat) (v:A) (s:St):Prop:=qW C t b o s=some v
def tkL (C:Cx) (t:TypeId) (b o:Nat) (KK:A→Option (St→Prop)→Prop):Option A→Prop
 | some v=>KK v (some (aCg C t b o v))
 | none=>False
def sD (KK:A→Option (St→Prop)→Prop) (v:A):Prop:=KK v none
def wM (C:Cx) (t:TypeId) (op:Op) (ρ:Operand→Option A) (s:St) (KK:A→Option (St→Prop)→Prop):Option A→Prop
 | some (.ptr b o)=>tkL C t b o KK (qW C t b o s)
 | _=>bF C op ρ (sD KK)
def rH (C:Cx) (op:Op) (ρ:Operand→Option A) (s:St) (KK:A→Option (St→Prop)→Prop):Prop :=
 match op with
 | .load t x=>wM C t (.load t x) ρ s KK (ρ x)
 | op=>bF C op ρ (sD KK)
def nO:List (Nat × List Nat)→Nat→List Nat
 | [],_=>[]
 | (j,l)::r,i=>if j=i then l else nO r i
def tU (ms:List Nat) (s:St):List (Nat × (St→Prop))→Prop
 | []=>True
 | (m,p)::W=>(if ms.elem m=true then p s else True)∧tU ms s W
def aAV (n:Nat) (dst:Option Tmp) (ms:List Nat) (next:List (Nat × (St→Prop))→Env→St→Prop) (W:List (Nat × (St→Prop))) (e:Env) (s:St) (v:A):Prop :=
 tU ms s W∧cG n dst (next W) e s v
def tT (n:Nat) (dst:Option Tmp) (i:Nat) (next:List (Nat × (St→Prop))→Env→St→Prop) (W:List (Nat × (St→Prop))) (e:Env) (s:St) (v:A):Option (St→Prop)→Prop
 | none=>cG n dst (next W) e s v
 | some p=>cG n dst (next ((i,p)::W)) e s v
def mI (C:Cx) (n:Nat) (E:List (Nat × List Nat)) (i:Nat) (dst:Option Tmp) (op:Op) (next:List (Nat × (St→Prop))→Env→St→Prop) (W:List (Nat × (St→Prop)))
  (Kp:St→A→Prop) (e:Env) (s:St):Bool→Prop
 | true=>aX C op (eF C e) (aAV n dst (nO E i) next W e) Kp s
 | false=>rH C op (eF C e) s (tT n dst i next W e s)
def oS (C:Cx) (n:Nat) (E:List (Nat × List Nat)) (i:Nat) (dst:Option Tmp) (op:Op) (next:List (Nat × (St→Prop))→Env→St→Prop) (W:List (Nat × (St→Prop)))
  (Kp:St→A→Prop) (e:Env) (s:St) (t:Nat) (want:Bool):Option A→Prop
 | some (.bool true)=>match want with
  | true=>mI C n E i dst op next W Kp (e.put t (.bool true)) s (iO op)
  | false=>cG n dst (next W) (e.put t (.bool true)) s (.tuple [])
 | some (.bool false)=>match want with
  | false=>mI C n E i dst op next W Kp (e.put t (.bool false)) s (iO op)
  | true=>cG n dst (next W) (e.put t (.bool false)) s (.tuple [])
 | some (.tuple _)=>cG n dst (next W) e s (.tuple [])
 | _=>False
def wK (C:Cx) (n:Nat) (E:List (Nat × List Nat)) (i:Nat) (dst:Option Tmp) (op:Op) (next:List (Nat × (St→Prop))→Env→St→Prop) (W:List (Nat × (St→Prop)))
  (Kp:St→A→Prop) (e:Env) (s:St) (want:Bool):Option Tmp→Prop
 | none=>False
 | some t=>oS C n E i dst op next W Kp e s t want (e.get t)
def kH (C:Cx) (n:Nat) (ds:List (Option Tmp)) (E:List (Nat × List Nat)) (i:Nat) (next:List (Nat × (St→Prop))→Env→St→Prop) (W:List (Nat × (St→Prop)))
  (Kp:St→A→Prop) (e:Env) (s:St):Option Oper→Prop
 | none=>False
 | some ⟨dst,op,_,_,_,none⟩=>mI C n E i dst op next W Kp e s (iO op)
 | some ⟨dst,op,_,_,_,some (j,want)⟩=>wK C n E i dst op next W Kp e s want (jV ds j)
def aCC:Option A→Option A→Option A→Prop
 | some a,some b,some c=>match a with
  | .rm k m z=>match b with
   | .ptr _ _=>match c with
    | .pen k' es z'=>k=k'∧m=es.length∧z=z'
    | _=>False
   | _=>False
  | _=>False
 | _,_,_=>False
def wB (C:Cx) (e:Env):Option Oper→Option Oper→Prop
 | some ⟨none,.store _ x _,_,_,_,none⟩,some ⟨none,.store _ x' y',_,_,_,none⟩=>aCC (eF C e x) (eF C e x') (eF C e y')
 | _,_=>False
def gP (C:Cx) (n:Nat) (ds:List (Option Tmp)) (ops:List Oper) (E:List (Nat × List Nat)) (K:Env→St→Prop) (Kp:St→A→Prop):OT→List (Nat × (St→Prop))→Env→St→Prop
 | .nil,W,e,s=>K e s
 | .node i r,W,e,s=>kH C n ds E i (gP C n ds ops E K Kp r) W Kp e s (jB ops i)
 | .alt a b,W,e,s=>gP C n ds ops E K Kp a W e s∧gP C n ds ops E K Kp b W e s
 | .pair i j,W,e,s=>wB C e (jB ops i) (jB ops j)∧kH C n ds E i (fun W e s=>kH C n ds E j (fun _=>K) W Kp e s (jB ops j)) W Kp e s (jB ops i)
theorem aER:∀ (l:List Oper) (i:Nat),jB l i=l[i]?
 | [],i=>by simp[jB]
 | o::r,0=>rfl
 | o::r,i+1=>by simp[jB,aER r i]
def rU:Op→Bool
 | .load ..=>true
 | _=>false
def msk (acc:List Nat):List Edge→Nat→Nat
 | [],m=>m
 | e::r,m=>msk acc r (if Region.binds .any e then m ||| (1 <<< e.on) ||| (acc[e.on]?.getD 0) else m)
def prs:List Oper→List Nat→List Nat
 | [],acc=>acc
 | o::r,acc=>prs r (acc++[msk acc o.after.toList 0])
def wP (ops:Array Oper) (E:List (Nat × List Nat)):Bool :=
 let T:=prs ops.toList []
 (List.range ops.size).all fun i => match ops[i]? with
  | some o=>!iO o.op||(List.range ops.size).all fun m=>match ops[m]? with
   | some om=>!rU om.op||(nO E i).elem m||(T[i]?.getD 0).testBit m
   | none=>true
  | none=>true
def lQ:OT→List (Nat × OT)
 | .nil=>[]
 | .node i r=>[(i,r)]
 | .alt a b=>lQ a++lQ b
 | .pair _ _=>[]
def uW (ops:Array Oper) (i:Nat):Bool:=match ops[i]? with
 | some o=>iO o.op
 | none=>false
def aEV (ops:Array Oper) (l:Array Bool):Bool :=
 let T:=prs ops.toList []
 (List.range ops.size).all fun m => match ops[m]? with
  | some o=>!rU o.op||(List.range ops.size).any fun j=>uW ops j&&l.getD j false&&(T[j]?.getD 0).testBit m
  | none=>true
def tE (tt:TypeId→Option TI) (ops:Array Oper):Bool :=
 (List.range ops.size).all fun i => !late ops i || (match ops[i]? with
  | some o=>match o.op with
   | .alloc t=>(tt t).isSome
   | _=>true
  | none=>true)
def nS (ops:Array Oper):Nat→Array Bool→OT→Bool
 | _,l,.nil=>(Region.ready .any ops l).isEmpty
 | 0,l,_=>false
 | f+1,l,.node i r=>if uW ops i then (Region.ready .any ops l).contains i&&(oD ops l).all (· == i)&&nS ops f (l.setIfInBounds i true) r
   else (Region.ready .any ops l).contains i&&Region.free .any ops l i&&nS ops f (l.setIfInBounds i true) r
 | f+1,l,.alt a b=>!(Region.ready .any ops l).isEmpty&&(oD ops l).all (fun j=>(lQ (.alt a b)).any fun x=>x.1 == j) &&
   (lQ (.alt a b)).all fun x=>uW ops x.1&&nS ops f (l.setIfInBounds x.1 true) x.2
 | f+1,l,.pair i j=>(Region.ready .any ops l).contains i&&(Region.ready .any ops l).contains j&&(oD ops l).all (fun m=>m == i||m == j)&&!(i == j) &&
   (oD ops (l.setIfInBounds i true)).all (· == j)&&(oD ops (l.setIfInBounds j true)).all (· == i)&&(Region.ready .any ops ((l.setIfInBounds i true).setIfInBounds j true)).isEmpty&&aEV ops l&&Nat.ble 1 f
theorem aJi {T:List Nat} {j:Nat} {o:Oper} (ho:ops[j]?=some o) (hT:∀ k m,(T[k]?.getD 0).testBit m=true→Bef ops m k) :
  ∀ (es:List Edge) (m:Nat),(∀ e,e∈es→e∈o.after)→(∀ k,m.testBit k=true→Bef ops k j)→∀ k,(msk T es m).testBit k=true→Bef ops k j
 | [],m,_,hm,k,hk=>hm k hk
 | e::r,m,he,hm,k,hk=>by
  refine aJi ho hT r _ (fun e' h=>he e' (zR _ h)) (fun k hk=>?_) k hk;split at hk
  ·rename_i hb;simp only[Nat.testBit_or,mN] at hk;rcases hk with (hk|hk)|hk
   ·exact hm k hk
   ·rw[Nat.testBit_shiftLeft] at hk;simp only[bT,eC] at hk;obtain ⟨h1,h2⟩:=hk
    have:k-e.on=0:=by
     rcases Nat.eq_zero_or_pos (k-e.on) with h|h
     ·exact h
     ·have hne:k-e.on≠0:=by omega
      rw[Nat.testBit_one_eq_true_iff_self_eq_zero] at h2;exact h2
    have hk:k=e.on:=by omega
    subst hk;exact .edge ho (he e (by simp)) hb
   ·exact .step ho (he e (by simp)) hb (hT _ _ hk)
  ·exact hm k hk
theorem aE1:∀ (l:List Oper) (acc:List Nat),(∀ k,l[k]?=ops[acc.length+k]?)→(∀ k m,(acc[k]?.getD 0).testBit m=true→Bef ops m k) →
  ∀ k m,((prs l acc)[k]?.getD 0).testBit m=true→Bef ops m k
 | [],acc,_,h=>h
 | o::r,acc,hl,h=>by
  have ho:ops[acc.length]?=some o:=by have:=hl 0;simpa using this.symm
  refine aE1 r _ (fun k=>?_) (fun k m hk=>?_)
  ·have:=hl (k+1);simp only[List.getElem?_cons_succ] at this;rw[this,aR,List.length_singleton];congr 1;omega
  ·by_cases hlt:k<acc.length
   ·rw[oT hlt] at hk;exact h k m hk
   ·by_cases he:k=acc.length
    ·subst he;simp only[wR (bE _),Nat.sub_self,kI,Option.getD_some] at hk;exact aJi ho h o.after.toList 0 (fun e he=>by simpa using he) (fun k hk=>by simp at hk) m hk
    ·rw[tZ (by simp;omega)] at hk;simp at hk
theorem aPa {E:List (Nat × List Nat)} (h:wP ops E=true) {i m:Nat} {o om:Oper} (hi:ops[i]?=some o) (hm:ops[m]?=some om) (he:iO o.op=true) (hl:rU om.op=true) :
  (nO E i).elem m=true∨Bef ops m i:=by
 simp only[wP,iV,sN] at h;have h1:=h i (jC.1 hi).1;simp only[hi,he,dT,eD,iV,sN] at h1;have h2:=h1 m (jC.1 hm).1;simp only[hm,hl,dT,eD,mN] at h2;rcases h2 with h2|h2
 ·exact .inl h2
 ·exact .inr (aE1 ops.toList [] (fun k=>by simp) (fun k m hk=>by simp at hk) i m h2)
theorem aII {e e':Env} (he:∀ t,e.get t=e'.get t):eF C e=eF C e':=by
 funext x;cases x<;>first|(simp only[eF,he])|rfl
variable {E:List (Nat × List Nat)} {i:Nat} {next:List (Nat × (St→Prop))→Env→St→Prop}
theorem aF8 {e:Env} {t:Nat} {a:A} (h:e.get t=some a):∀ u,e.get u=(e.put t a).get u:=fun u=>by
 rw[lH];by_cases hu:t=u
 ·subst hu;simp[h]
 ·simp[hu]
theorem aOw {o:Oper} {KV:St→A→Prop} {e:Env} (he:iO o.op=true) (h:kH C n (ops.toList.map (·.dst)) E i next W Kp e s (some o))
  (h1:∀ e' s' v,(∀ t,e.get t=e'.get t)→tU (nO E i) s' W→cG n o.dst (next W) e' s' v→KV s' v)
  (h2:∀ e',(∀ t,e.get t=e'.get t)→cG n o.dst (next W) e' s (.tuple [])→KV s (.tuple [])):jY C (ops.toList.map (·.dst)) o KV Kp e s:=by
 obtain ⟨dst,op,ty,pos,after,gd⟩:=o
 have run:∀ e',(∀ t,e.get t=e'.get t)→mI C n E i dst op next W Kp e' s (iO op)→aX C op (eF C e) KV Kp s:=by
  intro e' hee hx;simp only at he;rw[he] at hx;simp only[mI] at hx;rw[aII hee];exact aBR hx (fun s' v hv=>h1 e' s' v hee hv.1 hv.2) fun _ _ h=>h
 unfold jY;cases gd with
 | none=>exact run e (fun _=>rfl) h
 | some jw =>
  obtain ⟨j,want⟩:=jw;simp only[kH] at h;cases ht:jV (ops.toList.map (·.dst)) j with
  | none=>rw[ht] at h;exact h.elim
  | some t =>
   rw[ht] at h;simp only[wK] at h;refine ⟨t,ht,?_⟩;cases hg:e.get t with
   | none=>rw[hg] at h;exact h.elim
   | some a =>
    rw[hg] at h;have hs:=aF8 hg;cases a<;>simp only[oS] at h
    case bool b =>
     cases b<;>cases want<;>simp only at h
     ·exact .inl ⟨false,rfl,.inl ⟨rfl,run _ hs h⟩⟩
     ·exact .inl ⟨false,rfl,.inr ⟨by simp,h2 _ hs h⟩⟩
     ·exact .inl ⟨true,rfl,.inr ⟨by simp,h2 _ hs h⟩⟩
     ·exact .inl ⟨true,rfl,.inl ⟨rfl,run _ hs h⟩⟩
    case tuple l=>exact .inr ⟨l,rfl,h2 _ (fun _=>rfl) h⟩
theorem aIL {op:Op} {ρ:Operand→Option A} {KK:A→Option (St→Prop)→Prop} (h:rH C op ρ s KK) :
  ∃ v po,KK v po∧(∀ p,po=some p→rU op=true∧p s)∧∀ s' (KV:St→A→Prop),(∀ p,po=some p→p s')→KV s' v→aX C op ρ KV Kp s':=by
 have still:bF C op ρ (sD KK)→∃ v po,KK v po∧(∀ p,po=some p→rU op=true∧p s)∧∀ s' (KV:St→A→Prop),(∀ p,po=some p→p s')→KV s' v→aX C op ρ KV Kp s':=by
  intro h;obtain ⟨v,h1,h2⟩:=aIh h;exact ⟨v,none,h1,(fun p hp=>by cases hp),fun s' KV _ hk=>yB (h2 (KV s') hk)⟩
 cases op
 case load t x =>
  simp only[rH] at h;cases hx:ρ x with
  | none=>rw[hx] at h;exact still h
  | some a =>
   rw[hx] at h;cases a
   case ptr b o =>
    simp only[wM] at h;cases hl:qW C t b o s with
    | none=>rw[hl] at h;exact h.elim
    | some v =>
     rw[hl] at h;refine ⟨v,_,h,fun p hp=>by cases hp;exact ⟨rfl,hl⟩,fun s' KV hp hk=>?_⟩;have hp':qW C t b o s'=some v:=hp _ rfl;unfold qW at hp';simp only[aX,hx];split at hp'
     ·rename_i cs hcs;simp only[hcs,hp'];exact hk
     ·cases hp'
   all_goals exact still h
 all_goals exact still h
theorem aNL {o:Oper} {e:Env} (he:iO o.op=false) (h:kH C n (ops.toList.map (·.dst)) E i next W Kp e s (some o)) :
  ∃ v po e',(∀ t,e.get t=e'.get t)∧(∀ p,po=some p→rU o.op=true∧p s) ∧
   (∀ s' (KV:St→A→Prop),(∀ p,po=some p→p s')→KV s' v→jY C (ops.toList.map (·.dst)) o KV Kp e s')∧tT n o.dst i next W e' s v po:=by
 obtain ⟨dst,op,ty,pos,after,gd⟩:=o;simp only at he;unfold jY;cases gd with
 | none =>
  simp only[kH,he,mI] at h;obtain ⟨v,po,h1,h2,h3⟩:=aIL (Kp:=Kp) h;exact ⟨v,po,e,fun _=>rfl,h2,h3,h1⟩
 | some jw =>
  obtain ⟨j,want⟩:=jw;simp only[kH] at h;cases ht:jV (ops.toList.map (·.dst)) j with
  | none=>rw[ht] at h;exact h.elim
  | some t =>
   rw[ht] at h;simp only[wK] at h;cases hg:e.get t with
   | none=>rw[hg] at h;exact h.elim
   | some a =>
    rw[hg] at h;have hs:=aF8 hg
    have run:∀ b,a=.bool b→b=want→mI C n E i dst op next W Kp (e.put t a) s (iO op)→∃ v po e',(∀ t,e.get t=e'.get t)∧(∀ p,po=some p→rU op=true∧p s) ∧
      (∀ s' (KV : St → A → Prop),(∀ p,po = some p → p s') → KV s' v → ∃ t',jV (ops.toList.map (·.dst)) j = some t' ∧
       ((∃ b,e.get t'=some (.bool b)∧((b=want∧aX C op (eF C e) KV Kp s')∨(b≠want∧KV s' (.tuple []))))∨(∃ l,e.get t'=some (.tuple l)∧KV s' (.tuple [])))) ∧
      tT n dst i next W e' s v po:=by
     intro b hab hbw hx;rw[he] at hx;simp only[mI] at hx;rw[← aII hs] at hx;obtain ⟨v,po,h1,h2,h3⟩:=aIL (Kp:=Kp) hx;exact ⟨v,po,e.put t a,hs,h2,fun s' KV hp hk=>⟨t,ht,.inl ⟨b,by rw[hg,hab],.inl ⟨hbw,h3 s' KV hp hk⟩⟩⟩,h1⟩
    cases a<;>simp only[oS] at h
    case bool b =>
     cases b<;>cases want<;>simp only at h
     ·exact run false rfl rfl h
     ·exact ⟨.tuple [],none,_,hs,(fun p hp=>by cases hp),fun s' KV _ hk=>⟨t,ht,.inl ⟨false,hg,.inr ⟨by simp,hk⟩⟩⟩,h⟩
     ·exact ⟨.tuple [],none,_,hs,(fun p hp=>by cases hp),fun s' KV _ hk=>⟨t,ht,.inl ⟨true,hg,.inr ⟨by simp,hk⟩⟩⟩,h⟩
     ·exact run true rfl rfl h
    case tuple l=>exact ⟨.tuple [],none,e,fun _=>rfl,(fun p hp=>by cases hp),fun s' KV _ hk=>⟨t,ht,.inr ⟨l,hg,hk⟩⟩,h⟩
end
end
end Go.AV
