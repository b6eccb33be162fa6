/-
  Of DefStrings.
-/
import Derived.Test.YtamikhobdffnfaaGreatDoorSt05
set_option linter.all false
set_option maxRecDepth 99999
set_option maxHeartbeats 0
namespace Go.AV
open Go Go.Proofs Tryz
section
def fI:Op→Bool
 | .store ..=>true
 | .alloc _=>true
 | .box ..=>true
 | .panic _=>true
 | .range ..=>true
 | .makeSlice ..=>true
 | .next ..=>true
 | .call c=>match c.callee with
  | .builtin .len=>false
  | .builtin .max=>false
  | .builtin .min=>false
  | _=>true
 | _=>false
def gT (C:Cx) (ds:List (Option Tmp)) (o:Oper) (KV Kp:St→A→Prop) (e:Env) (s:St):Prop :=
  match o.guard with
  | none=>aJ C o.op (cT C e) KV Kp s
  | some (j,want)=>∃ t,gS ds j=some t ∧
      ((∃ b,e.get t = some (.bool b) ∧ ((b = want ∧ aJ C o.op (cT C e) KV Kp s) ∨ (b ≠ want ∧ KV s (.tuple [])))) ∨
       (∃ l,e.get t=some (.tuple l)∧KV s (.tuple [])))
inductive Bef (ops:Array Oper):Nat→Nat→Prop
 | edge {j:Nat} {o:Oper} {e:Edge} (ho:ops[j]?=some o) (he:e∈o.after) (hb:Region.binds .any e=true):Bef ops e.on j
 | step {m j:Nat} {o:Oper} {e:Edge} (ho:ops[j]?=some o) (he:e∈o.after) (hb:Region.binds .any e=true) (h:Bef ops m e.on):Bef ops m j
def DC (ops:Array Oper) (l:Array Bool):Prop :=
 ∀ j o,ops[j]?=some o→l.getD j false=true→∀ e,e∈o.after→Region.binds .any e=true→l.getD e.on false=true
def Dead (ops:Array Oper) (m:Nat) (l:Array Bool):Prop :=
 ∃ j o,ops[j]?=some o∧fI o.op=true∧l.getD j false=true∧Bef ops m j
def mJ (ops:Array Oper) (W:List (Nat × (St→Prop))) (l:Array Bool) (s:St):Prop:=∀ w,w∈W→¬ Dead ops w.1 l→w.2 s
def nO (o:Oper) (m:Nat):Bool:=o.after.toList.any fun e=>Region.binds .any e&&Nat.beq e.on m
def late (ops:Array Oper) (i:Nat):Bool:=match ops[i]? with
 | some o=>match o.op,o.dst,o.guard with
  | .alloc _,some d,none=>(o.after.toList.all fun e=>!Region.binds .any e) &&
    (List.range ops.size).all fun j => match ops[j]? with
     | some o'=>(Nat.beq j i||!(o'.dst == some d))&&(Nat.beq j i||!(o'.looksAt ops).elem d||nO o' i)&&(!nO o' i||(List.range ops.size).all fun m=>Nat.beq m j||nO o' m)
     | none=>true
  | _,_,_=>false
 | none=>false
def lD (ops:Array Oper) (l:Array Bool):List Nat :=
 if (Region.ready .any ops l).all (late ops) then Region.ready .any ops l else (Region.ready .any ops l).filter fun i=>!late ops i
theorem tD {ops:Array Oper} {l:Array Bool} {i:Nat} (h:i∈lD ops l):i∈Region.ready .any ops l:=by
 unfold lD at h;split at h
 ·exact h
 ·exact (List.mem_filter.1 h).1
theorem yO {ops:Array Oper} {l:Array Bool} {i:Nat} (h:i∈Region.ready .any ops l) (hi:late ops i=false):i∈lD ops l:=by
 unfold lD;split
 ·exact h
 ·exact List.mem_filter.2 ⟨h,by simp[hi]⟩
theorem aD0 {ops:Array Oper} {l:Array Bool} {i j:Nat} (h:j∈lD ops l) (hi:i∈Region.ready .any ops l) (hl:late ops i=false):late ops j=false:=by
 unfold lD at h;split at h
 ·rename_i ha;rw[fD] at ha;have:=ha i hi;rw[hl] at this;cases this
 ·have:=(List.mem_filter.1 h).2;simpa using this
theorem aJz {ops:Array Oper} {i:Nat} {o:Oper} (ho:ops[i]?=some o) (h:late ops i=true):fI o.op=true:=by
 unfold late at h;rw[ho] at h;simp only at h;split at h
 ·rename_i e1 _ _;rw[e1];rfl
 ·cases h
def eC (C:Cx) (n:Nat) (ops:Array Oper) (K:Env→St→Prop) (Kp:St→A→Prop) (W:List (Nat × (St→Prop))):Nat→Array Bool→Env→St→Prop
 | 0,l,e,s=>mJ ops W l s∧Region.ready .any ops l=[]∧K e s
 | f+1,l,e,s=>mJ ops W l s∧(Region.ready .any ops l=[]→K e s)∧∀ i,i∈lD ops l→∀ o,ops[i]?=some o →
   gT C (ops.toList.map (·.dst)) o (bJ n o.dst (eC C n ops K Kp W f (l.setIfInBounds i true)) e) Kp e s
section
variable {C:Cx} {n:Nat} {ops:Array Oper} {K:Env→St→Prop} {Kp:St→A→Prop} {W:List (Nat × (St→Prop))} {s:St}
theorem aGt {f:Nat} {l:Array Bool} {e:Env} (h:eC C n ops K Kp W f l e s):mJ ops W l s:=by
 cases f with
 | zero=>exact h.1
 | succ f=>exact h.1
theorem tE {ds:List (Option Tmp)} {o:Oper} {KV KV':St→A→Prop} {e:Env} (h:gT C ds o KV Kp e s) (hk:∀ s v,KV s v→KV' s v):gT C ds o KV' Kp e s:=by
 unfold gT at *;split
 ·rename_i hg;simp only[hg] at h;exact yQ h hk fun _ _ h=>h
 ·rename_i j want hg;simp only[hg] at h;obtain ⟨t,ht,h⟩:=h;refine ⟨t,ht,?_⟩;rcases h with ⟨b,hb,h|h⟩|⟨l,hl,h⟩
  ·exact .inl ⟨b,hb,.inl ⟨h.1,yQ h.2 hk fun _ _ h=>h⟩⟩
  ·exact .inl ⟨b,hb,.inr ⟨h.1,hk _ _ h.2⟩⟩
  ·exact .inr ⟨l,hl,hk _ _ h⟩
theorem aKa {o:Oper} {e e':Env} (he:∀ t,t∈o.looksAt ops→e.get t=e'.get t) (x:Operand) (hx:x∈o.op.operands):cT C e x=cT C e' x:=by
 cases x with
 | tmp t =>
  have:=he t (List.mem_append_left _ (List.mem_filterMap.2 ⟨.tmp t,by simpa using hx,rfl⟩));simpa [cT] using this
 | _=>rfl
theorem xY {o:Oper} {KV:St→A→Prop} {e e':Env} (he:∀ t,t∈o.looksAt ops→e.get t=e'.get t)
  (h:gT C (ops.toList.map (·.dst)) o KV Kp e s):gT C (ops.toList.map (·.dst)) o KV Kp e' s:=by
 have hop:=aKa (C:=C) he;unfold gT at *;split
 ·rename_i hg;simp only[hg] at h;exact aE3 hop h
 ·rename_i j want hg;simp only[hg] at h;obtain ⟨t,ht,h⟩:=h
  have htl:e.get t=e'.get t:=he t (by
   rw[aCl] at ht;simp[Oper.looksAt,hg,ht])
  refine ⟨t,ht,?_⟩;rw[← htl];rcases h with ⟨b,hb,h|h⟩|⟨l,hl,h⟩
  ·exact .inl ⟨b,hb,.inl ⟨h.1,aE3 hop h.2⟩⟩
  ·exact .inl ⟨b,hb,.inr h⟩
  ·exact .inr ⟨l,hl,h⟩
theorem rY (hK:∀ e e' s,(∀ t,e.get t=e'.get t)→K e s→K e' s):∀ (f:Nat) (l:Array Bool) (e e':Env) (s:St),(∀ t,e.get t=e'.get t) →
  eC C n ops K Kp W f l e s→eC C n ops K Kp W f l e' s
 | 0,l,e,e',s,he,h=>⟨h.1,h.2.1,hK _ _ _ he h.2.2⟩
 | f+1,l,e,e',s,he,h=>by
  refine ⟨h.1,fun hr=>hK _ _ _ he (h.2.1 hr),fun i hi o ho=>?_⟩;refine tE (xY (fun t _=>he t) (h.2.2 i hi o ho)) fun s' v hv=>?_
  unfold bJ at *;cases hd:o.dst with
  | none=>rw[hd] at hv;exact rY hK f _ e e' s' he hv
  | some d =>
   rw[hd] at hv;refine ⟨hv.1,rY hK f _ _ _ s' (fun t=>?_) hv.2⟩;rw[iU,iU];split<;>simp[he]
theorem qL {l:Array Bool} {i:Nat} (h:l.getD i true=false):i<l.size∧l.getD i false=false:=by
 rcases pF i l.size with h'|h'
 ·exact ⟨h',by simp[h'] at h ⊢;exact h⟩
 ·simp[Array.getElem?_eq_none h'] at h
theorem Bef.listed {l:Array Bool} (hdc:DC ops l) {m j:Nat} (h:Bef ops m j):l.getD j false=true→l.getD m false=true:=by
 induction h with
 | edge ho he hb=>intro hj;exact hdc _ _ ho hj _ he hb
 | step ho he hb _ ih=>intro hj;exact ih (hdc _ _ ho hj _ he hb)
theorem Bef.ready {l:Array Bool} (hdc:DC ops l) {m j:Nat} (h:Bef ops m j) (hj:j∈Region.ready .any ops l):l.getD m false=true:=by
 obtain ⟨_,o',ho',hall⟩:=mem_ready.1 hj;cases h with
 | edge ho he hb=>rw[ho'] at ho;cases ho;exact hall _ he hb
 | step ho he hb h=>rw[ho'] at ho;cases ho;exact h.listed hdc (hall _ he hb)
theorem DC.set {l:Array Bool} (hdc:DC ops l) {j:Nat} (hj:j∈Region.ready .any ops l):DC ops (l.setIfInBounds j true):=by
 intro k o ho hk e he hb;obtain ⟨h0,o',ho',hall⟩:=mem_ready.1 hj;refine getD_set_true ?_;by_cases hkj:j=k
 ·subst hkj;rw[ho'] at ho;cases ho;exact hall e he hb
 ·rw[getD_set_ne false hkj] at hk;exact hdc k o ho hk e he hb
theorem aLb {i:Nat} {oi:Oper} (hi:ops[i]?=some oi) (heff:fI oi.op=false) (hK:∀ e e' s,(∀ t,e.get t=e'.get t)→K e s→K e' s)
  (v:A) (p:St→Prop):∀ (f:Nat) (l:Array Bool) (e:Env) (s:St),DC ops l →
  (∀ j oj,ops[j]?=some oj→j≠i→l.getD j true=false→(∀ e∈oj.after,Region.binds .any e=true→e.on≠i)→oi.apart ops oj=true) →
  i∈Region.ready .any ops l→(∀ s' KV,p s'→KV s' v→gT C (ops.toList.map (·.dst)) oi KV Kp e s')→p s→mJ ops W l s →
  bJ n oi.dst (eC C n ops K Kp ((i,p)::W) f (l.setIfInBounds i true)) e s v→eC C n ops K Kp W (f+1) l e s:=by
 have hli:late ops i=false:=by
  cases hl:late ops i with
  | false=>rfl
  | true=>have:=aJz hi hl;rw[heff] at this;cases this
 have drop:∀ (f:Nat) (l:Array Bool) (e:Env) (s:St),eC C n ops K Kp ((i,p)::W) f l e s→eC C n ops K Kp W f l e s:=by
  intro f
  induction f with
  | zero=>intro l e s h;exact ⟨fun w hw=>h.1 w (eQ _ hw),h.2⟩
  | succ f ih =>
   intro l e s h;refine ⟨fun w hw=>h.1 w (eQ _ hw),h.2.1,fun j hj o ho=>tE (h.2.2 j hj o ho) fun s' v hv=>?_⟩;unfold bJ at *;cases hd:o.dst with
   | none=>rw[hd] at hv;exact ih _ _ _ hv
   | some d=>rw[hd] at hv;exact ⟨hv.1,ih _ _ _ hv.2⟩
 have dead:∀ (l:Array Bool) (m:Nat),Dead ops m (l.setIfInBounds i true)→Dead ops m l:=by
  rintro l m ⟨j,o,ho,he,hl,hb⟩;refine ⟨j,o,ho,he,?_,hb⟩;by_cases hij:i=j
  ·subst hij;rw[hi] at ho;cases ho;rw[heff] at he;cases he
  ·rwa[getD_set_ne false hij] at hl
 have self:∀ (f:Nat) (l:Array Bool) (e:Env) (s:St),(∀ s' KV,p s'→KV s' v→gT C (ops.toList.map (·.dst)) oi KV Kp e s')→p s →
   bJ n oi.dst (eC C n ops K Kp ((i,p)::W) f (l.setIfInBounds i true)) e s v →
   ∀ o,ops[i]?=some o→gT C (ops.toList.map (·.dst)) o (bJ n o.dst (eC C n ops K Kp W f (l.setIfInBounds i true)) e) Kp e s:=by
  intro f l e s hy hp H o ho;rw[hi] at ho;cases ho;refine hy s _ hp ?_;unfold bJ at *;cases hd:oi.dst with
  | none=>rw[hd] at H;exact drop _ _ _ _ H
  | some d=>rw[hd] at H;exact ⟨H.1,drop _ _ _ _ H.2⟩
 intro f
 induction f with
 | zero =>
  intro l e s hdc _ hr hy hp hc H;refine ⟨hc,fun h=>(by rw[h] at hr;cases hr),fun j hjz o ho=>?_⟩;have hj:=tD hjz;have hjl:=aD0 hjz hr hli;by_cases hji:j=i
  ·subst hji;exact self 0 l e s hy hp H o ho
  ·have hj':=ready_mono hj hji
   have hnil:Region.ready .any ops (l.setIfInBounds i true)=[]:=by
    unfold bJ at H;cases hd:oi.dst with
    | none=>rw[hd] at H;exact H.2.1
    | some d=>rw[hd] at H;exact H.2.2.1
   rw[hnil] at hj';cases hj'
 | succ f ih =>
  intro l e s hdc hfree hr hy hp hc H;refine ⟨hc,fun h=>(by rw[h] at hr;cases hr),fun j hjz oj hoj=>?_⟩;have hj:=tD hjz;have hjl:=aD0 hjz hr hli;by_cases hji:j=i
  ·subst hji;exact self _ l e s hy hp H oj hoj
  ·obtain ⟨hjun,oj',hoj',hall⟩:=mem_ready.1 hj;rw[hoj] at hoj';cases hoj';have hi0:=qL (mem_ready.1 hr).1
   have hnot:∀ e∈oj.after,Region.binds .any e=true→e.on≠i:=fun e he hb heq=>by
    have h1:=hall e he hb;rw[heq,hi0.2] at h1;cases h1
   have hap:=hfree j oj hoj hji hjun hnot;obtain ⟨a1,a2,a3⟩:=Oper.apart_spec hap
   have hfree':∀ k ok,ops[k]?=some ok→k≠i→(l.setIfInBounds j true).getD k true=false →
     (∀ e∈ok.after,Region.binds .any e=true→e.on≠i)→oi.apart ops ok=true:=fun k ok hk hki hun hno=>by
    refine hfree k ok hk hki ?_ hno;by_cases hjk:j=k
    ·subst hjk;exact hjun
    ·rw[getD_set_ne true hjk] at hun;exact hun
   have hji':¬ i=j:=fun h=>hji h.symm
   have live:¬ Dead ops i ((l.setIfInBounds j true).setIfInBounds i true):=by
    intro hd;obtain ⟨k,o,ho,he,hl,hb⟩:=dead _ _ hd;by_cases hjk:j=k
    ·subst hjk;have:=hb.ready hdc hj;rw[hi0.2] at this;cases this
    ·rw[getD_set_ne false hjk] at hl;have:=hb.listed hdc hl;rw[hi0.2] at this;cases this
   have hcomm:(l.setIfInBounds i true).setIfInBounds j true=(l.setIfInBounds j true).setIfInBounds i true:=Array.setIfInBounds_comm _ _ hji'
   have after:∀ (e':Env) (s':St),(∀ t,t∈oi.looksAt ops→e.get t=e'.get t) →
     bJ n oi.dst (eC C n ops K Kp ((i,p)::W) f ((l.setIfInBounds j true).setIfInBounds i true)) e' s' v →
     eC C n ops K Kp W (f+1) (l.setIfInBounds j true) e' s':=by
    intro e' s' he' H'
    have hchk:mJ ops ((i,p)::W) ((l.setIfInBounds j true).setIfInBounds i true) s':=by
     unfold bJ at H';cases hd:oi.dst with
     | none=>rw[hd] at H';exact aGt H'
     | some d=>rw[hd] at H';exact aGt H'.2
    refine ih (l.setIfInBounds j true) e' s' (hdc.set hj) hfree' (ready_mono hr hji') (fun s2 KV h1 h2=>xY he' (hy s2 KV h1 h2)) ?_ ?_ H'
    ·exact hchk _ (eK ..) live
    ·exact fun w hw hl=>hchk w (eQ _ hw) fun hd=>hl (dead _ _ hd)
   unfold bJ at H;cases hd:oi.dst with
   | none =>
    rw[hd] at H;have h1:=H.2.2 j (yO (ready_mono hj hji) hjl) oj hoj;refine tE h1 fun s' u hu=>?_
    rw[hcomm] at hu;unfold bJ at *;cases hdj:oj.dst with
    | none=>rw[hdj] at hu;exact after e s' (fun _ _=>rfl) (by rw[hd];exact hu)
    | some dj =>
     rw[hdj] at hu;refine ⟨hu.1,after (e.put dj u) s' (fun t ht=>?_) (by rw[hd];exact hu.2)⟩;rw[iU,if_neg (fun h:dj=t=>a3 dj hdj (by rw[h];exact ht))]
   | some d =>
    rw[hd] at H;have h1:=H.2.2.2 j (yO (ready_mono hj hji) hjl) oj hoj;have h2:=xY (e':=e) (fun t ht=>by rw[iU,if_neg (fun h:d=t=>a1 d hd (by rw[h];exact ht))]) h1;refine tE h2 fun s' u hu=>?_
    rw[hcomm] at hu;unfold bJ at *;cases hdj:oj.dst with
    | none=>rw[hdj] at hu;exact after e s' (fun _ _=>rfl) (by rw[hd];exact ⟨H.1,hu⟩)
    | some dj =>
     rw[hdj] at hu
     refine ⟨hu.1,after (e.put dj u) s' (fun t ht=>?_) (by
      rw[hd];refine ⟨H.1,rY hK _ _ _ _ _ (fun t=>?_) hu.2⟩;have hne:¬ d=dj:=fun h:d=dj=>a2 d hd (by rw[h];exact hdj)
      simp only[iU];by_cases h1:dj=t
      ·subst h1;simp[hne]
      ·simp[h1])⟩
     rw[iU,if_neg (fun h:dj=t=>a3 dj hdj (by rw[h];exact ht))]
end
end
section
section
variable {C:Cx} {F:Fr} {g g0:Gh} {s:St} {w:World} {n:Nat} {ops:Array Oper} {K:Env→St→Prop} {Kp:St→A→Prop} {W:List (Nat × (St→Prop))}
theorem tA {o:Oper} {m:Nat}:nO o m=true↔∃ e,e∈o.after∧Region.binds .any e=true∧e.on=m:=by
 simp only[nO,List.any_eq_true,aZ,Array.mem_toList_iff];constructor
 ·rintro ⟨e,h1,h2,h3⟩;exact ⟨e,h1,h2,bH h3⟩
 ·rintro ⟨e,h1,h2,rfl⟩;exact ⟨e,h1,h2,Nat.beq_refl _⟩
theorem rT {i:Nat} (h:late ops i=true):∃ d t ty pos after,ops[i]?=some ⟨some d,.alloc t,ty,pos,after,none⟩∧(∀ e,e∈after→Region.binds .any e=false) ∧
  ∀ j o',ops[j]?=some o'→j≠i→o'.dst≠some d∧(d∈o'.looksAt ops→nO o' i=true)∧(nO o' i=true→∀ m,m<ops.size→m≠j→nO o' m=true):=by
 unfold late at h;cases ho:ops[i]? with
 | none=>rw[ho] at h;cases h
 | some o =>
  rw[ho] at h;obtain ⟨dst,op,ty,pos,after,gd⟩:=o;simp only at h;split at h
  ·rename_i _ _ _ t d;simp only[aZ,fD,pD,Array.mem_toList_iff,oZ] at h;refine ⟨d,t,ty,pos,after,rfl,h.1,fun j o' hj hne=>?_⟩;have h2:=h.2 j (fP.1 hj).1;rw[hj] at h2;simp only[aZ,kF,oZ,vP,ne_eq,fD,pD] at h2;obtain ⟨⟨h3,h4⟩,h5⟩:=h2
   have hb:Nat.beq j i=false:=by
    cases hb:Nat.beq j i with
    | false=>rfl
    | true=>exact absurd (bH hb) hne
   refine ⟨?_,fun hl=>?_,fun hbi m hm hmj=>?_⟩
   ·rcases h3 with h3|h3
    ·rw[hb] at h3;cases h3
    ·exact h3
   ·rcases h4 with (h4|h4)|h4
    ·rw[hb] at h4;cases h4
    ·have:(o'.looksAt ops).elem d=true:=List.elem_eq_true_of_mem hl;rw[this] at h4;cases h4
    ·exact h4
   ·rcases h5 with h5|h5
    ·rw[hbi] at h5;cases h5
    ·rcases h5 m hm with h6|h6
     ·exact absurd (bH h6) hmj
     ·exact h6
  ·cases h
def Pend (C:Cx) (n:Nat) (ops:Array Oper) (F:Fr):List (Nat × Nat)→Fr→Array Value→Prop
 | [],F',_=>F'=F
 | (i,k)::P,F',tmps=>∃ F1 d t ty pos after ti z,Pend C n ops F P F1 tmps∧ops[i]?=some ⟨some d,.alloc t,ty,pos,after,none⟩∧late ops i=true∧C.tt t=some ti ∧
   (∀ g,Rzs g ti.zero (Value.cells z).toList)∧(d<n→tmps[d]?=some (.pointer (some ⟨k,0,none⟩)))∧F1 k=none∧F'=(fun j=>if j=k then some (.cells z.cells t,none) else F1 j)
theorem Pend.subP:∀ {P:List (Nat × Nat)} {F':Fr} {tmps:Array Value},Pend C n ops F P F' tmps→∀ k o p,F' k=some (o,some p)→F k=some (o,some p)
 | [],F',tmps,h,k,o,p,hk=>by rw[show F'=F from h] at hk;exact hk
 | (i,q)::P,F',tmps,h,k,o,p,hk=>by
  obtain ⟨F1,d,t,ty,pos,after,ti,z,h1,_,_,_,_,_,h7,rfl⟩:=h;refine h1.subP k o p ?_;by_cases hkq:k=q
  ·simp[hkq] at hk
  ·simpa only[hkq,↓reduceIte] using hk
theorem Pend.sub:∀ {P:List (Nat × Nat)} {F':Fr} {tmps:Array Value},Pend C n ops F P F' tmps→∀ k o,F k=some o→F' k=some o
 | [],F',tmps,h,k,o,hk=>by rw[show F'=F from h];exact hk
 | (i,q)::P,F',tmps,h,k,o,hk=>by
  obtain ⟨F1,d,t,ty,pos,after,ti,z,h1,_,_,_,_,_,h7,rfl⟩:=h;have:=h1.sub k o hk;have hne:k≠q:=by rintro rfl;rw[h7] at this;cases this
  simp only[hne,↓reduceIte];exact this
theorem Pend.put {a:Act} {j:Nat} {o:Oper} {v:Value} (ho:ops[j]?=some o):∀ {P:List (Nat × Nat)} {F':Fr},(∀ p,p∈P→p.1≠j)→Pend C n ops F P F' a.tmps→Pend C n ops F P F' (a.put o.dst v).tmps
 | [],F',_,h=>h
 | (i,q)::P,F',hj,h=>by
  obtain ⟨F1,d,t,ty,pos,after,ti,z,h1,h2,h3,h4,h5,h6,h7,h8⟩:=h;refine ⟨F1,d,t,ty,pos,after,ti,z,h1.put ho (fun p hp=>hj p (by simp[hp])),h2,h3,h4,h5,fun hd=>?_,h7,h8⟩;obtain ⟨d',t',ty',pos',after',e1,_,e3⟩:=rT h3;rw[h2] at e1;cases e1;have hne:=(e3 j o ho (fun e=>hj (i,q) (by simp) e.symm)).1;cases hd':o.dst with
  | none=>exact h6 hd
  | some d2 =>
   have:d2≠d:=by rintro rfl;exact hne hd'
   show (a.tmps.setIfInBounds d2 v)[d]?=_;rw[xO this];exact h6 hd
theorem Pend.late:∀ {P:List (Nat × Nat)} {F':Fr} {tmps:Array Value},Pend C n ops F P F' tmps→∀ p,p∈P→late ops p.1=true
 | [],_,_,_,p,hp=>by cases hp
 | (i,k)::P,F',tmps,h,p,hp=>by
  obtain ⟨F1,d,t,ty,pos,after,ti,z,h1,h2,h3,_⟩:=h;cases hp with
  | head=>exact h3
  | tail _ hp=>exact h1.late p hp
def fJ (ops:Array Oper) (P:List (Nat × Nat)):List (Option Tmp):=P.map fun p=>(ops[p.1]?).bind (·.dst)
def eD (P:List (Nat × Nat)) (l:Array Bool):Array Bool:=P.foldr (fun p l=>l.setIfInBounds p.1 true) l
theorem vZ {m:Nat} (d:Bool):∀ (P:List (Nat × Nat)) (l:Array Bool),(∀ p,p∈P→p.1≠m)→(eD P l).getD m d=l.getD m d
 | [],l,_=>rfl
 | p::P,l,h=>by
  simp only[eD,List.foldr_cons];rw[getD_set_ne d (h p (by simp))];exact vZ d P l fun q hq=>h q (by simp[hq])
theorem aE4 {m:Nat}:∀ (P:List (Nat × Nat)) (l:Array Bool),l.getD m false=true→(eD P l).getD m false=true
 | [],l,h=>h
 | p::P,l,h=>by
  simp only[eD,List.foldr_cons];exact getD_set_true (aE4 P l h)
theorem aB3 {i:Nat}:∀ (P:List (Nat × Nat)) (l:Array Bool),(∀ p,p∈P→p.1≠i)→(eD P l).setIfInBounds i true=eD P (l.setIfInBounds i true)
 | [],l,_=>rfl
 | p::P,l,h=>by
  have hp:=h p (by simp);simp only[eD,List.foldr_cons];rw[Array.setIfInBounds_comm _ _ hp];have:=aB3 (i:=i) P l fun q hq=>h q (by simp[hq])
  simp only[eD] at this;rw[this]
def oW (l:Array Bool):Nat:=l.toList.count false
theorem aGo {l:Array Bool} {i:Nat} (h:l.getD i true=false):oW (l.setIfInBounds i true)+1=oW l:=by
 obtain ⟨l⟩:=l
 have key:∀ (l:List Bool) (i:Nat),l[i]?=some false→(l.set i true).count false+1=l.count false:=by
  intro l
  induction l with
  | nil=>intro i h;simp at h
  | cons x r ih =>
   intro i h;cases i with
   | zero=>simp only[iJ,aP] at h;subst h;simp
   | succ i =>
    have:=ih i (by simpa using h);simp only[nK,List.count_cons];omega
 have hl:l[i]?=some false:=by
  cases hx:l[i]? with
  | none=>simp[hx] at h
  | some b=>simp[hx] at h;rw[h]
 simpa [oW] using key l i hl
theorem aKJ {l:Array Bool} (h:oW l=0):Region.ready .any ops l=[]:=by
 rw[List.eq_nil_iff_forall_not_mem];intro i hi;have:=aGo (mem_ready.1 hi).1;omega
theorem EnvOk.at {g:Gh} {n:Nat} {e:Env} {tmps:Array Value} {d:Nat} {x:A} {v:Value} (h:EnvOk g n e tmps) (hd:tmps[d]?=some v) (hv:Rz g x v):EnvOk g n (e.put d x) tmps:=by
 refine ⟨h.size,fun t y hy=>?_⟩;rw[iU] at hy;by_cases ht:d=t
 ·subst ht;simp only[↓reduceIte,aP] at hy;subst hy;exact ⟨v,hd,hv⟩
 ·simp only[ht,↓reduceIte] at hy;exact h.val t y hy
theorem R.adopt {F1:Fr} {k b:Nat} {o:Obj} {ob:Ob} (h:R C.toCtx (fun j=>if j=k then some (o,none) else F1 j) g s w) (hF:F1 k=none) (ho:ObRz g ob (some o)) (hb:g.beta b=none) {s':St}
  (hO:∀ q,s'.getO q=if b=q then some ob else s.getO q) (hT:∀ q,s'.getT q=s.getT q) (hL:s'.ls=s.ls) (hl:C.det=true→s.lim≤s'.lim∧b<s'.lim) :
  R C.toCtx F1 (g.bx b k) s' w:=by
 have hle:=tR hb k;have hk:=h.frm k (o,none) (by simp)
 have hne:∀ c q,g.beta c=some q→q≠k:=by
  rintro c q hc rfl;have:=h.bfr c q hc;simp at this
 have h':=h.unframe (F0:=F1) fun q x hq=>by
  have:q≠k:=by rintro rfl;rw[hF] at hq;cases hq
  simp only[this,↓reduceIte];exact hq
 have h':=h' fun q x p hq=>by
  by_cases hqk:q=k
  ·simp[hqk] at hq
  ·simpa only[hqk,↓reduceIte] using hq
 refine ⟨fun c x hx=>?_,?_,?_,h'.pis,h'.frm,fun c cs hc=>?_,?_,?_,?_,fun hd c hc=>?_,fun x hx=>(h.lst x (by rw[← hL];exact hx)).mono hle,fun c q hc=>?_,h.env⟩
 ·rw[hO] at hx;by_cases hbc:b=c
  ·subst hbc;simp only[↓reduceIte,aP] at hx;subst hx;exact ⟨k,by simp[Gh.bx],by rw[hk.1];exact ho.mono hle,hk.2,hF⟩
  ·simp only[hbc,↓reduceIte] at hx;obtain ⟨q,h1,h2,h3⟩:=h'.obj c x hx;exact ⟨q,hle.beta _ _ h1,h2.mono hle,h3⟩
 ·intro t n e ht;rw[hT] at ht;exact h'.tok t n e ht
 ·intro t t' n n' v v' c hne ht ht';rw[hT] at ht ht';exact h'.sep t t' n n' v v' c hne ht ht'
 ·obtain ⟨pre,ty,fr,hp,hl,h1,hr⟩:=h'.glb c cs hc;exact ⟨pre,ty,fr,hp,hl,h1,fun j c v hc hv=>(hr j c v hc hv).mono hle⟩
 ·obtain ⟨N,hN⟩:=h.fsh;refine ⟨max N (b+1),fun t ht=>⟨by rw[hT];exact (hN t (by omega)).1,(hN t (by omega)).2.1,?_⟩⟩;have:t≠b:=by omega
  simp[Gh.bx,this,(hN t (by omega)).2.2]
 ·intro c q hc;simp only[Gh.bx] at hc;split at hc
  ·cases hc;exact (fP.1 hk.1).1
  ·exact h.bet c q hc
 ·intro c d q hc hd;simp only[Gh.bx] at hc hd;split at hc<;>split at hd
  ·omega
  ·cases hc;exact absurd rfl (hne d k hd)
  ·cases hd;exact absurd rfl (hne c k hc)
  ·exact h.inj c d q hc hd
 ·obtain ⟨l1,l2⟩:=hl hd;obtain ⟨d1,d2⟩:=h.dtm hd c (by omega);have:c≠b:=by omega
  exact ⟨by simp[Gh.bx,this,d1],d2⟩
 ·simp only[Gh.bx] at hc;split at hc
  ·cases hc;exact hF
  ·exact h'.bfr c q hc
theorem R.lay (h:R C.toCtx F g s w) (o:Obj):R C.toCtx (fun j=>if j=w.heap.size then some (o,none) else F j) g s (w.alloc o):=by
 have hk:∀ k,k<w.heap.size→(w.alloc o).heap[k]?=w.heap[k]?:=fun k hk=>qF w o hk
 have h':=h.keep hk;refine ⟨fun c x hx=>?_,fun t n e ht=>?_,h'.sep,h'.pis,fun q x hq=>?_,fun c cs hc=>?_,h'.fsh,h'.bet,h'.inj,h'.dtm,h'.lst,fun c q hc=>?_,h'.env⟩;rotate_left 3
 ·obtain ⟨pre,ty,fr,hp,h1⟩:=h.glb c cs hc;have:c≠w.heap.size:=Nat.ne_of_lt (h.lt_frm hp);exact ⟨pre,ty,fr,by simp only[this,↓reduceIte];exact hp,h1⟩
 rotate_left 1
 ·obtain ⟨q,h1,h2,h3,h4⟩:=h'.obj c x hx;have:q≠w.heap.size:=Nat.ne_of_lt (h.bet c q h1);exact ⟨q,h1,h2,h3,by simp only[this,↓reduceIte];exact h4⟩
 ·obtain ⟨v,xs,h1,h2,h3,h4⟩:=h'.tok t n e ht;refine ⟨v,xs,h1,h2,h3,fun q hq=>?_⟩;have:q≠w.heap.size:=Nat.ne_of_lt (h.lt_pi (h4 q hq).1);exact ⟨(h4 q hq).1,by simp only[this,↓reduceIte];exact (h4 q hq).2⟩
 ·by_cases hq':q=w.heap.size
  ·subst hq';simp only[↓reduceIte,aP] at hq;subst hq;exact ⟨rM w o,h.pi_new⟩
  ·simp only[hq',↓reduceIte] at hq;exact h'.frm q x hq
 ·have:q≠w.heap.size:=Nat.ne_of_lt (h.bet c q hc);simp only[this,↓reduceIte];exact h.bfr c q hc
theorem aI8 {k:Nat} {F1:Fr} {o:Obj} {ob:Ob} {f:Nat→A} {KV:St→A→Prop} (h:R C.toCtx (fun j=>if j=k then some (o,none) else F1 j) g s w) (hF:F1 k=none) (ho:ObRz g ob (some o))
  (hK:mG C s ob f KV):∃ b s',g.beta b=none∧R C.toCtx F1 (g.bx b k) s' w∧KV s' (f b):=by
 unfold mG at hK;cases hd:C.det with
 | false =>
  rw[hd] at hK;obtain ⟨b,hb⟩:=h.some_free;exact ⟨b,s.setO b ob,hb,h.adopt hF ho hb (fun q=>aE s b ob q) (fun q=>rfl) rfl (fun hh=>by rw[hd] at hh;cases hh),hK b (h.free hb)⟩
 | true =>
  rw[hd] at hK;have hb:=(h.dtm hd s.lim (bG _)).1;exact ⟨s.lim,s.newO ob,hb,h.adopt hF ho hb (fun q=>sZ s ob q) (fun q=>rfl) rfl (fun _=>⟨Nat.le_succ _,fK _⟩),hK⟩
theorem aC6 {a:Act} (f:Nat) (hn:a.tmps.size=n):∀ (P:List (Nat × Nat)) (la:Array Bool) (F':Fr) (g:Gh) (e:Env) (s:St),(∀ p,p∈P→la.getD p.1 true=false)→(P.map (·.1)).Nodup →
  (∀ m,m∈Region.ready .any ops la→late ops m=true)→Pend C n ops F P F' a.tmps→R C.toCtx F' g s w→EnvOk g n (e.rem (fJ ops P)) a.tmps →
  eC C n ops K Kp W (f+P.length) la e s→∃ g' e' s',g.le g'∧R C.toCtx F g' s' w∧EnvOk g' n e' a.tmps∧eC C n ops K Kp W f (eD P la) e' s'
 | [],la,F',g,e,s,_,_,_,hP,hR,he,h=>by
  rw[show F'=F from hP] at hR;refine ⟨g,e,s,dX g,hR,he.sub fun t x hx=>?_,h⟩;rw[kZ];simpa [fJ] using hx
 | (i,k) :: P,la,F',g,e,s,hun,hnd,hall,hP,hR,he,h => by
  obtain ⟨F1,d,t,ty,pos,after,ti,z,h1,h2,h3,h4,h5,h6,h7,rfl⟩:=hP;obtain ⟨d',t',ty',pos',after',q1,q2,q3⟩:=rT h3;rw[h2] at q1;cases q1;have hi0:=hun (i,k) (by simp);have hr:i∈Region.ready .any ops la:=mem_ready.2 ⟨hi0,_,h2,fun e he hb=>by rw[q2 e he] at hb;cases hb⟩
  have hz:i∈lD ops la:=by
   unfold lD;rw[if_pos (by rw[fD];exact hall)];exact hr
  have hs:=h.2.2 i hz _ h2;simp only[gT,aJ,h4,sM] at hs;obtain ⟨b,s',hb,hR',hK'⟩:=aI8 hR h7 (ob:=.cells t ti.zero) ⟨z.cells.toList,[],by simp,h5 g,(C.htt t ti h4).one⟩ hs;obtain ⟨hdn,hK'⟩:=hK';have hle:=tR hb k;simp only[bU,List.nodup_cons] at hnd;have hne:∀ p,p∈P→p.1≠i:=fun p hp e=>hnd.1 (cO.2 ⟨p,hp,e⟩)
  have hset:eD ((i,k)::P) la=eD P (la.setIfInBounds i true):=by
   rw[← aB3 P la hne];rfl
  have henv:EnvOk (g.bx b k) n ((e.put d (.ptr b 0)).rem (fJ ops P)) a.tmps:=by
   have h8:=(he.mono hle).at (h6 hdn) (x:=.ptr b 0) (.ptr b 0 k (by simp[Gh.bx]));refine h8.sub fun u x hx=>?_
   rw[kZ] at hx;split at hx
   ·cases hx
   ·rename_i hu;rw[iU] at hx ⊢;by_cases hdu:d=u
    ·simpa only[hdu,↓reduceIte] using hx
    ·simp only[hdu,↓reduceIte] at hx ⊢;rw[kZ,if_neg]
     ·exact hx
     ·rw[List.elem_iff] at hu ⊢;simp only[fJ,bU,h2,Option.bind_some,eW,aP,not_or] at hu ⊢;exact ⟨fun e=>hdu e.symm,hu⟩
  by_cases hPn:P=[]
  ·subst hPn;rw[show F1=F from h1] at hR'
   have hn0:((e.put d (.ptr b 0)).rem (fJ ops []))=e.put d (.ptr b 0):=by
    have:∀ e:Env,e.rem []=e:=by
     intro e
     induction e with
     | nil=>rfl
     | cons x e ih=>simp only[Env.rem,List.elem_nil,bR,↓reduceIte,ih]
    exact this _
   rw[hn0] at henv;exact ⟨_,_,s',hle,hR',henv,by rw[hset];exact hK'⟩
  ·have hnew:∀ m,m∈Region.ready .any ops (la.setIfInBounds i true)→late ops m=true:=by
    intro m hm;by_cases hm':m∈Region.ready .any ops la
    ·exact hall m hm'
    ·exfalso;obtain ⟨m0,om,hom,hdeps⟩:=mem_ready.1 hm
     have hmi:m≠i:=by
      rintro rfl;have hlt:=(qL hi0).1;simp[hlt] at m0
     have hbi:nO om i=true:=by
      cases hbb:nO om i with
      | true=>rfl
      | false =>
       exfalso;refine hm' (mem_ready.2 ⟨by rw[getD_set_ne true (fun e=>hmi e.symm)] at m0;exact m0,om,hom,fun ed he2 hb=>?_⟩)
       have hei:i≠ed.on:=by
        intro hie;rw[tA.2 ⟨ed,he2,hb,hie.symm⟩] at hbb;cases hbb
       have:=hdeps ed he2 hb
       rwa[getD_set_ne false hei] at this
     obtain ⟨⟨p,kp⟩,hpP⟩:=List.exists_mem_of_ne_nil P hPn;have hpi:p≠i:=hne (p,kp) hpP;have hp0:=hun (p,kp) (by simp[hpP]);obtain ⟨d2,t2,ty2,pos2,after2,z1,z2,_⟩:=rT (h1.late (p,kp) hpP)
     have hpm:p≠m:=by
      rintro rfl;rw[hom] at z1;cases z1;obtain ⟨e,he,hb,_⟩:=tA.1 hbi;rw[z2 e he] at hb;cases hb
     obtain ⟨e,he,hb,hep⟩:=tA.1 ((q3 m om hom hmi).2.2 hbi p (fP.1 z1).1 hpm);have:=hdeps e he hb;rw[hep,getD_set_ne false (fun e=>hpi e.symm),(qL hp0).2] at this;cases this
   obtain ⟨g',e',s2,r1,r2,r3,r4⟩:=aC6 f hn P (la.setIfInBounds i true) F1 (g.bx b k) (e.put d (.ptr b 0)) s'
    (fun p hp=>by rw[getD_set_ne true (fun e=>hne p hp e.symm)];exact hun p (by simp[hp])) hnd.2 hnew h1 hR' henv hK'
   exact ⟨g',e',s2,hle.trans r1,r2,r3,by rw[hset];exact r4⟩
def Rle (C:Cx) (s s':St):Prop:=∀ (F:Fr) (g:Gh) (w:World),R C.toCtx F g s w→R C.toCtx F g s' w
theorem Rle.refl (s:St):Rle C s s:=fun _ _ _ h=>h
theorem aKu {P:List (Nat × Nat)} {F':Fr} {tmps:Array Value} (h:Pend C n ops F P F' tmps) {d:Nat} (hd:(fJ ops P).elem (some d)=true):∃ p,p∈P∧∃ t ty pos after,ops[p.1]?=some ⟨some d,.alloc t,ty,pos,after,none⟩:=by
 have hm:=List.mem_of_elem_eq_true hd;simp only[fJ,cO] at hm;obtain ⟨p,hp,hb⟩:=hm;obtain ⟨d',t,ty,pos,after,h1,_⟩:=rT (h.late p hp);rw[h1] at hb;simp only[Option.bind_some,aP] at hb;subst hb;exact ⟨p,hp,t,ty,pos,after,h1⟩
theorem aL3 {e0:Env} (hds:∀ o,o∈ops.toList→∀ d,o.dst=some d→e0.get d=none) {D:List Deferred} {Q:XK→Env→St→Prop} (hK:∀ e s,K e s→∃ e' s',e.ge e'∧Rle C s s'∧Q .normal e' s')
  (hKp:∀ s v,Kp s v→Q (.panic v) e0 s) (htt:∀ i t o,ops[i]?=some o→late ops i=true→o.op=.alloc t→(C.tt t).isSome=true) :
  ∀ (f:Nat) (P:List (Nat × Nat)) (la:Array Bool) (F':Fr) (g:Gh) (e:Env) (s:St) (a:Act) (w:World),oW (eD P la)≤f→(∀ p,p∈P→la.getD p.1 true=false)→(P.map (·.1)).Nodup →
   Pend C n ops F P F' a.tmps→g0.le g→R C.toCtx F' g s w→EnvOk g n (e.rem (fJ ops P)) a.tmps→EnvOk g n e0 a.tmps→a.defers=D →
   eC C n ops K Kp W (f+P.length) la e s→wpAny C.P .any ops (Post C F g0 n D Q) f (eD P la) a w:=by
 have fin:∀ (g:Gh) (e:Env) (s:St) (a:Act) (w:World),g0.le g→R C.toCtx F g s w→EnvOk g n e a.tmps→a.defers=D→K e s→Post C F g0 n D Q .normal a w :=
  fun g e s a w hg hR he hD h=>by
   obtain ⟨e',s',h1,h2,h3⟩:=hK _ _ h;exact ⟨g,e',s',.normal,hg,h2 _ _ _ hR,he.sub h1,hD,trivial,h3⟩
 have last:∀ (f:Nat) (P:List (Nat × Nat)) (la:Array Bool) (F':Fr) (g:Gh) (e:Env) (s:St) (a:Act) (w:World),(∀ p,p∈P→la.getD p.1 true=false)→(P.map (·.1)).Nodup →
   Pend C n ops F P F' a.tmps→g0.le g→R C.toCtx F' g s w→EnvOk g n (e.rem (fJ ops P)) a.tmps→a.defers=D →
   eC C n ops K Kp W (f+P.length) la e s→Region.ready .any ops (eD P la)=[]→Post C F g0 n D Q .normal a w:=by
  intro f P la F' g e s a w hun hnd hP hg hR he hD h hr
  obtain ⟨g',e',s',r1,r2,r3,r4⟩:=aC6 f he.size P la F' g e s hun hnd (fun m hm=>by
   by_cases hmP:∃ p,p∈P∧p.1=m
   ·obtain ⟨p,hp,rfl⟩:=hmP;exact hP.late p hp
   ·exfalso;obtain ⟨m0,om,hom,hdeps⟩:=mem_ready.1 hm;have:m∈Region.ready .any ops (eD P la):=mem_ready.2 ⟨by rw[vZ true P la (fun p hp e=>hmP ⟨p,hp,e⟩)];exact m0,om,hom,fun e he hb=>aE4 P la (hdeps e he hb)⟩;rw[hr] at this;cases this) hP hR he h
  have hk:K e' s':=by
   cases f with
   | zero=>exact r4.2.2
   | succ f=>exact r4.2.1 hr
  exact fin g' e' s' a w (hg.trans r1) r2 r3 hD hk
 intro f
 induction f with
 | zero =>
  intro P la F' g e s a w hu hun hnd hP hg hR he he0 hD h;have hr:Region.ready .any ops (eD P la)=[]:=aKJ (by omega);exact ⟨hr,last 0 P la F' g e s a w hun hnd hP hg hR he hD h hr⟩
 | succ f ih =>
  intro P la F' g e s a w hu hun hnd hP hg hR he he0 hD h;refine ⟨fun hr=>last (f+1) P la F' g e s a w hun hnd hP hg hR he hD h hr,fun i hi=>?_⟩;obtain ⟨hi0,o,ho,hdeps⟩:=mem_ready.1 hi
  have hiP:∀ p,p∈P→p.1≠i:=by
   rintro p hp rfl;have hlt:=(qL (hun p hp)).1
   have:(eD P la).getD p.1 false=true:=by
    have:∀ {P:List (Nat × Nat)},p∈P→(eD P la).getD p.1 false=true:=by
     intro P
     induction P with
     | nil=>intro h;cases h
     | cons q P ih' =>
      intro h
      have hsz:∀ P:List (Nat × Nat),(eD P la).size=la.size:=by
       intro P
       induction P with
       | nil=>rfl
       | cons x P ih=>simp only[eD,List.foldr_cons,Array.size_setIfInBounds] at *;exact ih
      simp only[eD,List.foldr_cons];cases h with
      | head =>
       have:=hsz P;simp only[eD] at this;simp[this,hlt]
      | tail _ h=>exact getD_set_true (ih' h)
    exact this hp
   rw[(qL hi0).2] at this;cases this
  have hila:la.getD i true=false:=by rw[vZ true P la hiP] at hi0;exact hi0
  have hu':oW ((eD P la).setIfInBounds i true)≤f:=by have:=aGo hi0;omega
  have hd0:∀ d,o.dst=some d→e0.get d=none:=hds o (by obtain ⟨h1,h2⟩:=fP.1 ho;rw[← h2];simp)
  by_cases hlate:late ops i=true
  ·
   obtain ⟨d,t,ty,pos,after,q1,q2,q3⟩:=rT hlate;rw[ho] at q1;cases q1;obtain ⟨ti,hti⟩:=Option.isSome_iff_exists.1 (htt i t _ ho hlate rfl);obtain ⟨z,hz,hzr⟩:=wN hti w;unfold wpOp;rw[ho];simp only;rw[if_pos (by simp[Region.wanted])];left
   have hrun:(execOp a.eval ⟨some d,.alloc t,ty,pos,after,none⟩).run C.P w=.ok (.value (.pointer (some ⟨w.heap.size,0,none⟩))) (w.alloc (.cells z.cells t)):=by
    simp only[execOp,Instr.alloc,aV,hz,aW,newVar,newRow,run_newObj,bC];rfl
   unfold Oper.wp;rw[hrun,Oper.upon_value];have hset:(eD P la).setIfInBounds i true=eD ((i,w.heap.size)::P) la:=rfl;rw[hset] at hu' ⊢
   have hdP:∀ p,p∈P→∀ d' t' ty' pos' after',ops[p.1]?=some ⟨some d',.alloc t',ty',pos',after',none⟩→d'≠d:=by
    intro p hp d' t' ty' pos' after' hp' e;have:=(q3 p.1 _ hp' (hiP p hp)).1;exact this (by rw[e])
   refine ih ((i,w.heap.size)::P) la (fun j=>if j=w.heap.size then some (.cells z.cells t,none) else F' j) g e s _ _ hu' (fun p hp=>?_) ?_ ?_ hg (hR.lay _) ?_ (he0.other hd0) (by rw[yA];exact hD) ?_
   ·cases hp with
    | head=>exact hila
    | tail _ hp=>exact hun p hp
   ·simp only[bU,List.nodup_cons];refine ⟨fun hm=>?_,hnd⟩;obtain ⟨p,hp,hpe⟩:=cO.1 hm;exact hiP p hp hpe
   ·refine ⟨F',d,t,ty,pos,after,ti,z,hP.put ho (fun p hp=>hiP p hp),ho,hlate,hti,hzr,fun hd=>?_,hR.frm_new,rfl⟩;show (a.tmps.setIfInBounds d _)[d]?=_;simp[he.size,hd]
   ·have:=he.del (d:=d) (v:=.pointer (some ⟨w.heap.size,0,none⟩));refine this.sub fun u x hx=>?_
    rw[kZ] at hx;split at hx
    ·cases hx
    ·rename_i hu2
     have hu3:¬ u=d∧¬ (fJ ops P).elem (some u)=true:=by
      rw[List.elem_iff] at hu2 ⊢;simpa only[fJ,bU,ho,Option.bind_some,eW,aP,not_or] using hu2
     have hdu:¬ d=u:=fun e=>hu3.1 e.symm
     rw[Env.get_del,if_neg hdu,kZ,if_neg hu3.2];exact hx
   ·have:f+((i,w.heap.size)::P).length=f+1+P.length:=by simp only[aD];omega
    rw[this];exact h
  ·have hlate':late ops i=false:=by simpa using hlate
   have step:∀ (P:List (Nat × Nat)) (la:Array Bool) (F':Fr) (g:Gh) (e:Env) (s:St),oW ((eD P la).setIfInBounds i true)≤f→(∀ p,p∈P→la.getD p.1 true=false)→(∀ p,p∈P→p.1≠i)→(P.map (·.1)).Nodup →
     Pend C n ops F P F' a.tmps→g0.le g→R C.toCtx F' g s w→EnvOk g n (e.rem (fJ ops P)) a.tmps→EnvOk g n e0 a.tmps→(∀ d,(fJ ops P).elem (some d)=true→d ∉ o.looksAt ops) →
     gT C (ops.toList.map (·.dst)) o (bJ n o.dst (eC C n ops K Kp W (f+P.length) (la.setIfInBounds i true)) e) Kp e s →
     wpOp C.P ops (Post C F g0 n D Q) i (wpAny C.P .any ops (Post C F g0 n D Q) f ((eD P la).setIfInBounds i true)) a w:=by
    intro P la F' g e s hu' hun hiP hnd hP hg hR he he0 hlook hs;rw[aB3 P la hiP] at hu' ⊢;have hun':∀ p,p∈P→(la.setIfInBounds i true).getD p.1 true=false:=fun p hp=>by rw[getD_set_ne true (fun e=>hiP p hp e.symm)];exact hun p hp
    have hs1:=xY (ops:=ops) (e':=e.rem (fJ ops P)) (fun t ht=>by
     rw[kZ,if_neg];intro hh;exact hlook t hh ht) hs
    have next:∀ g' v w' e1 s',g.le g'→R C.toCtx F' g' s' w'→EnvOk g' n e1 (a.put o.dst v).tmps→EnvOk g' n e0 (a.put o.dst v).tmps→(a.put o.dst v).defers=D →
      (∃ e2,eC C n ops K Kp W (f+P.length) (la.setIfInBounds i true) e2 s'∧∀ t x,(e2.rem (fJ ops P)).get t=some x→e1.get t=some x) →
      wpAny C.P .any ops (Post C F g0 n D Q) f (eD P (la.setIfInBounds i true)) (a.put o.dst v) w':=by
     rintro g' v w' e1 s' h1 h2 h3 h4 h5 ⟨e2,h6,h7⟩;exact ih P (la.setIfInBounds i true) F' g' e2 s' _ w' hu' hun' hnd (hP.put ho hiP) (hg.trans h1) h2 (h3.sub h7) h4 h5 h6
    have conv:∀ s' v,bJ n o.dst (eC C n ops K Kp W (f+P.length) (la.setIfInBounds i true)) e s' v →
      bJ n o.dst (fun e1 s'=>∃ e2,eC C n ops K Kp W (f+P.length) (la.setIfInBounds i true) e2 s'∧∀ t x,(e2.rem (fJ ops P)).get t=some x→e1.get t=some x) (e.rem (fJ ops P)) s' v:=by
     intro s' v hv;unfold bJ at hv ⊢;cases hd:o.dst with
     | none=>rw[hd] at hv;exact ⟨e,hv,fun t x hx=>hx⟩
     | some d =>
      rw[hd] at hv;refine ⟨hv.1,_,hv.2,fun t x hx=>?_⟩;rw[kZ] at hx;split at hx
      ·cases hx
      ·rename_i ht;rw[iU] at hx ⊢;by_cases hdt:d=t
       ·simpa only[hdt,↓reduceIte] using hx
       ·simp only[hdt,↓reduceIte] at hx ⊢;rw[kZ,if_neg ht];exact hx
    have hs2:=tE hs1 conv;have hF:=fun k o=>hP.sub k o
    unfold wpOp;rw[ho];simp only;obtain ⟨dst,op,ty,pos,after,gd⟩:=o
    have run:aJ C op (cT C (e.rem (fJ ops P))) (bJ n dst (fun e1 s'=>∃ e2,eC C n ops K Kp W (f+P.length) (la.setIfInBounds i true) e2 s'∧∀ t x,(e2.rem (fJ ops P)).get t=some x→e1.get t=some x) (e.rem (fJ ops P))) Kp s →
      (⟨dst,op,ty,pos,after,gd⟩:Oper).wp C.P a w (wpAny C.P .any ops (Post C F g0 n D Q) f (eD P (la.setIfInBounds i true))) (Post C F g0 n D Q):=by
     intro hev;have:=aGH (ev:=a.eval) (ty:=ty) (dst:=dst) (pos:=pos) (after:=after) (gd:=gd) hR (he.oper hR) hev;exact aDJ hF (fun k o p=>hP.subP k o p) (o:=⟨dst,op,ty,pos,after,gd⟩) hg he he0 hd0 hD next hKp this
    have skip:bJ n dst (fun e1 s'=>∃ e2,eC C n ops K Kp W (f+P.length) (la.setIfInBounds i true) e2 s'∧∀ t x,(e2.rem (fJ ops P)).get t=some x→e1.get t=some x) (e.rem (fJ ops P)) s (.tuple []) →
      wpAny C.P .any ops (Post C F g0 n D Q) f (eD P (la.setIfInBounds i true)) (a.put dst undef) w:=by
     intro hs;unfold bJ at hs;cases hdst:dst with
     | none=>subst hdst;exact next g undef w _ s (dX g) hR he he0 hD hs
     | some d=>subst hdst;exact next g undef w _ s (dX g) hR (he.put hs.1 (.tuple [] [] rfl (by simp))) (he0.other fun d' hd'=>by cases hd';exact hd0 d rfl) (by rw[yA];exact hD) hs.2
    unfold gT at hs2;cases gd with
    | none =>
     rw[if_pos (by simp[Region.wanted])];exact .inl (run hs2)
    | some jw =>
     obtain ⟨j,want⟩:=jw;obtain ⟨t,ht,hs2⟩:=hs2;rcases hs2 with ⟨b,hb,hs2⟩|⟨ls,hl,hs2⟩
     ·have hy:=aEn (b:=b) ht he hb
      have hw:Region.wanted (⟨dst,op,ty,pos,after,some (j,want)⟩:Oper) (yielded ops a.tmps)=(b == want):=by
       simp only[Region.wanted,hy];cases b<;>cases want<;>rfl
      rcases hs2 with ⟨hbw,hs2⟩|⟨hbw,hs2⟩
      ·rw[if_pos (by rw[hw];simpa using hbw)];exact .inl (run hs2)
      ·rw[if_neg (by rw[hw];simpa using hbw)];exact skip hs2
     ·have hy:=aDP ht he hl;rw[if_neg (by simp[Region.wanted,hy])];exact skip hs2
   by_cases hdep:∃ p,p∈P∧nO o p.1=true
   ·
    obtain ⟨p,hp,hbp⟩:=hdep;obtain ⟨dp,tp,typ,posp,afterp,p1,p2,p3⟩:=rT (hP.late p hp);have hall:=(p3 i o ho (fun e=>hiP p hp e.symm)).2.2 hbp
    obtain ⟨g',e',s',r1,r2,r3,r4⟩:=aC6 (f+1) he.size P la F' g e s hun hnd (fun m hm=>by
     by_cases hmP:∃ p,p∈P∧p.1=m
     ·obtain ⟨p,hp,rfl⟩:=hmP;exact hP.late p hp
     ·exfalso;obtain ⟨m0,om,hom,hdm⟩:=mem_ready.1 hm;by_cases hmi:m=i
      ·subst hmi;rw[ho] at hom;cases hom;obtain ⟨e,he,hb,hep⟩:=tA.1 hbp;have:=hdm e he hb;rw[hep,(qL (hun p hp)).2] at this;cases this
      ·obtain ⟨e,he,hb,hep⟩:=tA.1 (hall m (fP.1 hom).1 hmi);have:=hdeps e he hb;rw[hep,vZ false P la (fun p hp e=>hmP ⟨p,hp,e⟩),(qL m0).2] at this;cases this) hP hR he h
    refine step [] (eD P la) F g' e' s' hu' (fun p hp=>by cases hp) (fun p hp=>by cases hp) (by simp) rfl (hg.trans r1) r2 (r3.sub fun t x hx=>?_) (he0.mono r1) (fun d hd=>by simp[fJ] at hd) ?_
    ·rw[kZ] at hx;simpa [fJ] using hx
    ·exact r4.2.2 i (yO hi hlate') o ho
   ·have hri:i∈Region.ready .any ops la:=mem_ready.2 ⟨hila,o,ho,fun e he hb=>by
     have:=hdeps e he hb;rw[vZ false P la (fun p hp e'=>hdep ⟨p,hp,tA.2 ⟨e,he,hb,e'.symm⟩⟩)] at this;exact this⟩
    refine step P la F' g e s hu' hun hiP hnd hP hg hR he he0 (fun d hd hl=>?_) ?_
    ·obtain ⟨p,hp,t,ty,pos,after,h1⟩:=aKu hP hd;obtain ⟨d',t',ty',pos',after',p1,p2,p3⟩:=rT (hP.late p hp);rw[h1] at p1;cases p1;exact hdep ⟨p,hp,(p3 i o ho (fun e=>hiP p hp e.symm)).2.1 hl⟩
    ·have e1:f+1+P.length=f+P.length+1:=by omega
     rw[e1] at h;exact h.2.2 i (yO hri hlate') o ho
theorem aGJ {e0:Env} (hds:∀ o,o∈ops.toList→∀ d,o.dst=some d→e0.get d=none) {D:List Deferred} {Q:XK→Env→St→Prop} (hK:∀ e s,K e s→∃ e' s',e.ge e'∧Rle C s s'∧Q .normal e' s')
  (hKp:∀ s v,Kp s v→Q (.panic v) e0 s) (htt:∀ i t o,ops[i]?=some o→late ops i=true→o.op=.alloc t→(C.tt t).isSome=true)
  (f:Nat) (l:Array Bool) (g:Gh) (e:Env) (s:St) (a:Act) (w:World) (hu:oW l≤f) (hg:g0.le g) (hR:R C.toCtx F g s w) (he:EnvOk g n e a.tmps) (he0:EnvOk g n e0 a.tmps) (hD:a.defers=D)
  (h:eC C n ops K Kp W f l e s):wpAny C.P .any ops (Post C F g0 n D Q) f l a w :=
 aL3 hds hK hKp htt f [] l F g e s a w hu (fun p hp=>by cases hp) (by simp) rfl hg hR (he.sub fun t x hx=>by rw[kZ] at hx;simpa [fJ] using hx) he0 hD h
inductive OT where
 | nil
 | node (i:Nat) (r:OT)
 | alt (a b:OT)
 | pair (i j:Nat)
def OT.l:List Nat→OT→OT
 | [],t=>t
 | i::r,t=>.node i (OT.l r t)
def fX:List Oper→Nat→Option Oper
 | [],_=>none
 | o::_,0=>some o
 | _::r,i+1=>fX r i
def nR (C:Cx) (t:TypeId) (b o:Nat) (s:St):Option A:=match s.getO b with
 | some (.cells _ cs)=>nA C t cs o
 | _=>none
def zW (C:Cx) (t:TypeId) (b o:Nat) (v:A) (s:St):Prop:=nR C t b o s=some v
def tkL (C:Cx) (t:TypeId) (b o:Nat) (KK:A→Option (St→Prop)→Prop):Option A→Prop
 | some v=>KK v (some (zW C t b o v))
 | none=>False
def oV (KK:A→Option (St→Prop)→Prop) (v:A):Prop:=KK v none
def sQ (C:Cx) (t:TypeId) (op:Op) (ρ:Operand→Option A) (s:St) (KK:A→Option (St→Prop)→Prop):Option A→Prop
 | some (.ptr b o)=>tkL C t b o KK (nR C t b o s)
 | _=>aQ C op ρ (oV KK)
def oC (C:Cx) (op:Op) (ρ:Operand→Option A) (s:St) (KK:A→Option (St→Prop)→Prop):Prop :=
 match op with
 | .load t x=>sQ C t (.load t x) ρ s KK (ρ x)
 | op=>aQ C op ρ (oV KK)
def kO:List (Nat × List Nat)→Nat→List Nat
 | [],_=>[]
 | (j,l)::r,i=>if j=i then l else kO r i
def qC (ms:List Nat) (s:St):List (Nat × (St→Prop))→Prop
 | []=>True
 | (m,p)::W=>(if ms.elem m=true then p s else True)∧qC ms s W
def xG (n:Nat) (dst:Option Tmp) (ms:List Nat) (next:List (Nat × (St→Prop))→Env→St→Prop) (W:List (Nat × (St→Prop))) (e:Env) (s:St) (v:A):Prop :=
 qC ms s W∧bJ n dst (next W) e s v
def pY (n:Nat) (dst:Option Tmp) (i:Nat) (next:List (Nat × (St→Prop))→Env→St→Prop) (W:List (Nat × (St→Prop))) (e:Env) (s:St) (v:A):Option (St→Prop)→Prop
 | none=>bJ n dst (next W) e s v
 | some p=>bJ n dst (next ((i,p)::W)) e s v
def jQ (C:Cx) (n:Nat) (E:List (Nat × List Nat)) (i:Nat) (dst:Option Tmp) (op:Op) (next:List (Nat × (St→Prop))→Env→St→Prop) (W:List (Nat × (St→Prop)))
  (Kp:St→A→Prop) (e:Env) (s:St):Bool→Prop
 | true=>aJ C op (cT C e) (xG n dst (kO E i) next W e) Kp s
 | false=>oC C op (cT C e) s (pY n dst i next W e s)
def oD (C:Cx) (n:Nat) (E:List (Nat × List Nat)) (i:Nat) (dst:Option Tmp) (op:Op) (next:List (Nat × (St→Prop))→Env→St→Prop) (W:List (Nat × (St→Prop)))
  (Kp:St→A→Prop) (e:Env) (s:St) (t:Nat) (want:Bool):Option A→Prop
 | some (.bool true)=>match want with
  | true=>jQ C n E i dst op next W Kp (e.put t (.bool true)) s (fI op)
  | false=>bJ n dst (next W) (e.put t (.bool true)) s (.tuple [])
 | some (.bool false)=>match want with
  | false=>jQ C n E i dst op next W Kp (e.put t (.bool false)) s (fI op)
  | true=>bJ n dst (next W) (e.put t (.bool false)) s (.tuple [])
 | some (.tuple _)=>bJ n dst (next W) e s (.tuple [])
 | _=>False
def sR (C:Cx) (n:Nat) (E:List (Nat × List Nat)) (i:Nat) (dst:Option Tmp) (op:Op) (next:List (Nat × (St→Prop))→Env→St→Prop) (W:List (Nat × (St→Prop)))
  (Kp:St→A→Prop) (e:Env) (s:St) (want:Bool):Option Tmp→Prop
 | none=>False
 | some t=>oD C n E i dst op next W Kp e s t want (e.get t)
def iC (C:Cx) (n:Nat) (ds:List (Option Tmp)) (E:List (Nat × List Nat)) (i:Nat) (next:List (Nat × (St→Prop))→Env→St→Prop) (W:List (Nat × (St→Prop)))
  (Kp:St→A→Prop) (e:Env) (s:St):Option Oper→Prop
 | none=>False
 | some ⟨dst,op,_,_,_,none⟩=>jQ C n E i dst op next W Kp e s (fI op)
 | some ⟨dst,op,_,_,_,some (j,want)⟩=>sR C n E i dst op next W Kp e s want (gS ds j)
def aAi:Option A→Option A→Option A→Prop
 | some a,some b,some c=>match a with
  | .rm k m z=>match b with
   | .ptr _ _=>match c with
    | .pen k' es z'=>k=k'∧m=es.length∧z=z'
    | _=>False
   | _=>False
  | _=>False
 | _,_,_=>False
def sG (C:Cx) (e:Env):Option Oper→Option Oper→Prop
 | some ⟨none,.store _ x _,_,_,_,none⟩,some ⟨none,.store _ x' y',_,_,_,none⟩=>aAi (cT C e x) (cT C e x') (cT C e y')
 | _,_=>False
def eG (C:Cx) (n:Nat) (ds:List (Option Tmp)) (ops:List Oper) (E:List (Nat × List Nat)) (K:Env→St→Prop) (Kp:St→A→Prop):OT→List (Nat × (St→Prop))→Env→St→Prop
 | .nil,W,e,s=>K e s
 | .node i r,W,e,s=>iC C n ds E i (eG C n ds ops E K Kp r) W Kp e s (fX ops i)
 | .alt a b,W,e,s=>eG C n ds ops E K Kp a W e s∧eG C n ds ops E K Kp b W e s
 | .pair i j,W,e,s=>sG C e (fX ops i) (fX ops j)∧iC C n ds E i (fun W e s=>iC C n ds E j (fun _=>K) W Kp e s (fX ops j)) W Kp e s (fX ops i)
theorem aCz:∀ (l:List Oper) (i:Nat),fX l i=l[i]?
 | [],i=>by simp[fX]
 | o::r,0=>rfl
 | o::r,i+1=>by simp[fX,aCz r i]
def oP:Op→Bool
 | .load ..=>true
 | _=>false
def msk (acc:List Nat):List Edge→Nat→Nat
 | [],m=>m
 | e::r,m=>msk acc r (if Region.binds .any e then m ||| (1 <<< e.on) ||| (acc[e.on]?.getD 0) else m)
def prs:List Oper→List Nat→List Nat
 | [],acc=>acc
 | o::r,acc=>prs r (acc++[msk acc o.after.toList 0])
def sP (ops:Array Oper) (E:List (Nat × List Nat)):Bool :=
 let T:=prs ops.toList []
 (List.range ops.size).all fun i => match ops[i]? with
  | some o=>!fI o.op||(List.range ops.size).all fun m=>match ops[m]? with
   | some om=>!oP om.op||(kO E i).elem m||(T[i]?.getD 0).testBit m
   | none=>true
  | none=>true
def jF:OT→List (Nat × OT)
 | .nil=>[]
 | .node i r=>[(i,r)]
 | .alt a b=>jF a++jF b
 | .pair _ _=>[]
def qW (ops:Array Oper) (i:Nat):Bool:=match ops[i]? with
 | some o=>fI o.op
 | none=>false
def aCw (ops:Array Oper) (l:Array Bool):Bool :=
 let T:=prs ops.toList []
 (List.range ops.size).all fun m => match ops[m]? with
  | some o=>!oP o.op||(List.range ops.size).any fun j=>qW ops j&&l.getD j false&&(T[j]?.getD 0).testBit m
  | none=>true
def pJ (tt:TypeId→Option TI) (ops:Array Oper):Bool :=
 (List.range ops.size).all fun i => !late ops i || (match ops[i]? with
  | some o=>match o.op with
   | .alloc t=>(tt t).isSome
   | _=>true
  | none=>true)
def kV (ops:Array Oper):Nat→Array Bool→OT→Bool
 | _,l,.nil=>(Region.ready .any ops l).isEmpty
 | 0,l,_=>false
 | f+1,l,.node i r=>if qW ops i then (Region.ready .any ops l).contains i&&(lD ops l).all (· == i)&&kV ops f (l.setIfInBounds i true) r
   else (Region.ready .any ops l).contains i&&Region.free .any ops l i&&kV ops f (l.setIfInBounds i true) r
 | f+1,l,.alt a b=>!(Region.ready .any ops l).isEmpty&&(lD ops l).all (fun j=>(jF (.alt a b)).any fun x=>x.1 == j) &&
   (jF (.alt a b)).all fun x=>qW ops x.1&&kV ops f (l.setIfInBounds x.1 true) x.2
 | f+1,l,.pair i j=>(Region.ready .any ops l).contains i&&(Region.ready .any ops l).contains j&&(lD ops l).all (fun m=>m == i||m == j)&&!(i == j) &&
   (lD ops (l.setIfInBounds i true)).all (· == j)&&(lD ops (l.setIfInBounds j true)).all (· == i)&&(Region.ready .any ops ((l.setIfInBounds i true).setIfInBounds j true)).isEmpty&&aCw ops l&&Nat.ble 1 f
theorem aG3 {T:List Nat} {j:Nat} {o:Oper} (ho:ops[j]?=some o) (hT:∀ k m,(T[k]?.getD 0).testBit m=true→Bef ops m k) :
  ∀ (es:List Edge) (m:Nat),(∀ e,e∈es→e∈o.after)→(∀ k,m.testBit k=true→Bef ops k j)→∀ k,(msk T es m).testBit k=true→Bef ops k j
 | [],m,_,hm,k,hk=>hm k hk
 | e::r,m,he,hm,k,hk=>by
  refine aG3 ho hT r _ (fun e' h=>he e' (eQ _ h)) (fun k hk=>?_) k hk;split at hk
  ·rename_i hb;simp only[Nat.testBit_or,kF] at hk;rcases hk with (hk|hk)|hk
   ·exact hm k hk
   ·rw[Nat.testBit_shiftLeft] at hk;simp only[aZ,cG] at hk;obtain ⟨h1,h2⟩:=hk
    have:k-e.on=0:=by
     rcases Nat.eq_zero_or_pos (k-e.on) with h|h
     ·exact h
     ·have hne:k-e.on≠0:=by omega
      rw[Nat.testBit_one_eq_true_iff_self_eq_zero] at h2;exact h2
    have hk:k=e.on:=by omega
    subst hk;exact .edge ho (he e (by simp)) hb
   ·exact .step ho (he e (by simp)) hb (hT _ _ hk)
  ·exact hm k hk
theorem aCU:∀ (l:List Oper) (acc:List Nat),(∀ k,l[k]?=ops[acc.length+k]?)→(∀ k m,(acc[k]?.getD 0).testBit m=true→Bef ops m k) →
  ∀ k m,((prs l acc)[k]?.getD 0).testBit m=true→Bef ops m k
 | [],acc,_,h=>h
 | o::r,acc,hl,h=>by
  have ho:ops[acc.length]?=some o:=by have:=hl 0;simpa using this.symm
  refine aCU r _ (fun k=>?_) (fun k m hk=>?_)
  ·have:=hl (k+1);simp only[List.getElem?_cons_succ] at this;rw[this,aK,List.length_singleton];congr 1;omega
  ·by_cases hlt:k<acc.length
   ·rw[jR hlt] at hk;exact h k m hk
   ·by_cases he:k=acc.length
    ·subst he;simp only[nI (bG _),Nat.sub_self,iJ,Option.getD_some] at hk;exact aG3 ho h o.after.toList 0 (fun e he=>by simpa using he) (fun k hk=>by simp at hk) m hk
    ·rw[rJ (by simp;omega)] at hk;simp at hk
theorem aMJ {E:List (Nat × List Nat)} (h:sP ops E=true) {i m:Nat} {o om:Oper} (hi:ops[i]?=some o) (hm:ops[m]?=some om) (he:fI o.op=true) (hl:oP om.op=true) :
  (kO E i).elem m=true∨Bef ops m i:=by
 simp only[sP,fD,pD] at h;have h1:=h i (fP.1 hi).1;simp only[hi,he,dW,gZ,fD,pD] at h1;have h2:=h1 m (fP.1 hm).1;simp only[hm,hl,dW,gZ,kF] at h2;rcases h2 with h2|h2
 ·exact .inl h2
 ·exact .inr (aCU ops.toList [] (fun k=>by simp) (fun k m hk=>by simp at hk) i m h2)
theorem aFN {e e':Env} (he:∀ t,e.get t=e'.get t):cT C e=cT C e':=by
 funext x;cases x<;>first|(simp only[cT,he])|rfl
variable {E:List (Nat × List Nat)} {i:Nat} {next:List (Nat × (St→Prop))→Env→St→Prop}
theorem aDU {e:Env} {t:Nat} {a:A} (h:e.get t=some a):∀ u,e.get u=(e.put t a).get u:=fun u=>by
 rw[iU];by_cases hu:t=u
 ·subst hu;simp[h]
 ·simp[hu]
theorem aL8 {o:Oper} {KV:St→A→Prop} {e:Env} (he:fI o.op=true) (h:iC C n (ops.toList.map (·.dst)) E i next W Kp e s (some o))
  (h1:∀ e' s' v,(∀ t,e.get t=e'.get t)→qC (kO E i) s' W→bJ n o.dst (next W) e' s' v→KV s' v)
  (h2:∀ e',(∀ t,e.get t=e'.get t)→bJ n o.dst (next W) e' s (.tuple [])→KV s (.tuple [])):gT C (ops.toList.map (·.dst)) o KV Kp e s:=by
 obtain ⟨dst,op,ty,pos,after,gd⟩:=o
 have run:∀ e',(∀ t,e.get t=e'.get t)→jQ C n E i dst op next W Kp e' s (fI op)→aJ C op (cT C e) KV Kp s:=by
  intro e' hee hx;simp only at he;rw[he] at hx;simp only[jQ] at hx;rw[aFN hee];exact yQ hx (fun s' v hv=>h1 e' s' v hee hv.1 hv.2) fun _ _ h=>h
 unfold gT;cases gd with
 | none=>exact run e (fun _=>rfl) h
 | some jw =>
  obtain ⟨j,want⟩:=jw;simp only[iC] at h;cases ht:gS (ops.toList.map (·.dst)) j with
  | none=>rw[ht] at h;exact h.elim
  | some t =>
   rw[ht] at h;simp only[sR] at h;refine ⟨t,ht,?_⟩;cases hg:e.get t with
   | none=>rw[hg] at h;exact h.elim
   | some a =>
    rw[hg] at h;have hs:=aDU hg;cases a<;>simp only[oD] at h
    case bool b =>
     cases b<;>cases want<;>simp only at h
     ·exact .inl ⟨false,rfl,.inl ⟨rfl,run _ hs h⟩⟩
     ·exact .inl ⟨false,rfl,.inr ⟨by simp,h2 _ hs h⟩⟩
     ·exact .inl ⟨true,rfl,.inr ⟨by simp,h2 _ hs h⟩⟩
     ·exact .inl ⟨true,rfl,.inl ⟨rfl,run _ hs h⟩⟩
    case tuple l=>exact .inr ⟨l,rfl,h2 _ (fun _=>rfl) h⟩
theorem aFS {op:Op} {ρ:Operand→Option A} {KK:A→Option (St→Prop)→Prop} (h:oC C op ρ s KK) :
  ∃ v po,KK v po∧(∀ p,po=some p→oP op=true∧p s)∧∀ s' (KV:St→A→Prop),(∀ p,po=some p→p s')→KV s' v→aJ C op ρ KV Kp s':=by
 have still:aQ C op ρ (oV KK)→∃ v po,KK v po∧(∀ p,po=some p→oP op=true∧p s)∧∀ s' (KV:St→A→Prop),(∀ p,po=some p→p s')→KV s' v→aJ C op ρ KV Kp s':=by
  intro h;obtain ⟨v,h1,h2⟩:=aF4 h;exact ⟨v,none,h1,(fun p hp=>by cases hp),fun s' KV _ hk=>uA (h2 (KV s') hk)⟩
 cases op
 case load t x =>
  simp only[oC] at h;cases hx:ρ x with
  | none=>rw[hx] at h;exact still h
  | some a =>
   rw[hx] at h;cases a
   case ptr b o =>
    simp only[sQ] at h;cases hl:nR C t b o s with
    | none=>rw[hl] at h;exact h.elim
    | some v =>
     rw[hl] at h;refine ⟨v,_,h,fun p hp=>by cases hp;exact ⟨rfl,hl⟩,fun s' KV hp hk=>?_⟩;have hp':nR C t b o s'=some v:=hp _ rfl;unfold nR at hp';simp only[aJ,hx];split at hp'
     ·rename_i cs hcs;simp only[hcs,hp'];exact hk
     ·cases hp'
   all_goals exact still h
 all_goals exact still h
theorem aKX {o:Oper} {e:Env} (he:fI o.op=false) (h:iC C n (ops.toList.map (·.dst)) E i next W Kp e s (some o)) :
  ∃ v po e',(∀ t,e.get t=e'.get t)∧(∀ p,po=some p→oP o.op=true∧p s) ∧
   (∀ s' (KV:St→A→Prop),(∀ p,po=some p→p s')→KV s' v→gT C (ops.toList.map (·.dst)) o KV Kp e s')∧pY n o.dst i next W e' s v po:=by
 obtain ⟨dst,op,ty,pos,after,gd⟩:=o;simp only at he;unfold gT;cases gd with
 | none =>
  simp only[iC,he,jQ] at h;obtain ⟨v,po,h1,h2,h3⟩:=aFS (Kp:=Kp) h;exact ⟨v,po,e,fun _=>rfl,h2,h3,h1⟩
 | some jw =>
  obtain ⟨j,want⟩:=jw;simp only[iC] at h;cases ht:gS (ops.toList.map (·.dst)) j with
  | none=>rw[ht] at h;exact h.elim
  | some t =>
   rw[ht] at h;simp only[sR] at h;cases hg:e.get t with
   | none=>rw[hg] at h;exact h.elim
   | some a =>
    rw[hg] at h;have hs:=aDU hg
    have run:∀ b,a=.bool b→b=want→jQ C n E i dst op next W Kp (e.put t a) s (fI op)→∃ v po e',(∀ t,e.get t=e'.get t)∧(∀ p,po=some p→oP op=true∧p s) ∧
      (∀ s' (KV : St → A → Prop),(∀ p,po = some p → p s') → KV s' v → ∃ t',gS (ops.toList.map (·.dst)) j = some t' ∧
       ((∃ b,e.get t'=some (.bool b)∧((b=want∧aJ C op (cT C e) KV Kp s')∨(b≠want∧KV s' (.tuple []))))∨(∃ l,e.get t'=some (.tuple l)∧KV s' (.tuple [])))) ∧
      pY n dst i next W e' s v po:=by
     intro b hab hbw hx;rw[he] at hx;simp only[jQ] at hx;rw[← aFN hs] at hx;obtain ⟨v,po,h1,h2,h3⟩:=aFS (Kp:=Kp) hx;exact ⟨v,po,e.put t a,hs,h2,fun s' KV hp hk=>⟨t,ht,.inl ⟨b,by rw[hg,hab],.inl ⟨hbw,h3 s' KV hp hk⟩⟩⟩,h1⟩
    cases a<;>simp only[oD] at h
    case bool b =>
     cases b<;>cases want<;>simp only at h
     ·exact run false rfl rfl h
     ·exact ⟨.tuple [],none,_,hs,(fun p hp=>by cases hp),fun s' KV _ hk=>⟨t,ht,.inl ⟨false,hg,.inr ⟨by simp,hk⟩⟩⟩,h⟩
     ·exact ⟨.tuple [],none,_,hs,(fun p hp=>by cases hp),fun s' KV _ hk=>⟨t,ht,.inl ⟨true,hg,.inr ⟨by simp,hk⟩⟩⟩,h⟩
     ·exact run true rfl rfl h
    case tuple l=>exact ⟨.tuple [],none,e,fun _=>rfl,(fun p hp=>by cases hp),fun s' KV _ hk=>⟨t,ht,.inr ⟨l,hg,hk⟩⟩,h⟩
end
end
end Go.AV
