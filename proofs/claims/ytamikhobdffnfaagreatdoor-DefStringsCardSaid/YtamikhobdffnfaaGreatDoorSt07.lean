/-
  Of DefStrings.
-/
import Derived.Test.YtamikhobdffnfaaGreatDoorSt06
import Derived.Laws.Cover3
import Derived.LaidEqlPtr
import Derived.Laws.StructEq
import Derived.Laws.Pointers
set_option linter.all false
set_option maxRecDepth 99999
set_option maxHeartbeats 0
namespace Go.AV
open Go Go.Proofs Tryz
section
section
variable {C:Cx} {n:Nat} {ops:Array Oper} {K:Env→St→Prop} {Kp:St→A→Prop} {W:List (Nat × (St→Prop))} {s:St} {E:List (Nat × List Nat)}
theorem aFX {ms:List Nat} {w:Nat × (St→Prop)}:∀ {W:List (Nat × (St→Prop))},qC ms s W→w∈W→ms.elem w.1=true→w.2 s
 | [],_,h,_=>by cases h
 | (m,p)::W,hc,h,he=>by
  cases h with
  | head=>have:=hc.1;rwa[if_pos he] at this
  | tail _ h=>exact aFX hc.2 h he
theorem Dead.set {l:Array Bool} {m i:Nat} (h:Dead ops m l):Dead ops m (l.setIfInBounds i true):=by
 obtain ⟨j,o,h1,h2,h3,h4⟩:=h;exact ⟨j,o,h1,h2,getD_set_true h3,h4⟩
theorem aLp {i:Nat}:∀ (f:Nat) (l:Array Bool) (e:Env) (s:St),eC C n ops K Kp W f l e s→eC C n ops K Kp ((i,fun _=>True)::W) f l e s:=by
 have hc:∀ (l:Array Bool) (s:St),mJ ops W l s→mJ ops ((i,fun _=>True)::W) l s:=by
  intro l s h w hw hd;cases hw with
  | head=>trivial
  | tail _ hw=>exact h w hw hd
 intro f
 induction f with
 | zero=>intro l e s h;exact ⟨hc _ _ h.1,h.2⟩
 | succ f ih =>
  intro l e s h;refine ⟨hc _ _ h.1,h.2.1,fun j hj o ho=>tE (h.2.2 j hj o ho) fun s' v hv=>?_⟩;unfold bJ at *;cases hd:o.dst with
  | none=>rw[hd] at hv;exact ih _ _ _ hv
  | some d=>rw[hd] at hv;exact ⟨hv.1,ih _ _ _ hv.2⟩
theorem aJ1 {l:Array Bool} {i:Nat} (h:i∈Region.ready .any ops l):∃ o,ops[i]?=some o:=by
 obtain ⟨_,o,ho,_⟩:=mem_ready.1 h;exact ⟨o,ho⟩
theorem aKz {g:Gh} {k:Nat} {es:List A} {x v:A} {z:Nat} {vo:Value} (h:Rz g (.list (some k) (es++[x])) vo) (hx:x.cells.length=z) (he:g.ends k es.length v):Rz g (.pen k es z) vo:=by
 obtain ⟨a,cap,rfl,hm,hc,ht,hr⟩:=h.list_inv;rcases hr with h0|⟨b,off,sz,pre,rfl,hp,hl,hs,h1,hh⟩
 ·simp at h0
 obtain ⟨b',cap',pre',k1,k2,k3,k4,k5,k6,k7,k8⟩:=he;have e1:=ht k rfl;have hlen:(es++[x]).length=es.length+1:=by simp
 rw[hlen] at e1 hc hl ⊢;rw[k1] at e1;simp only[aP,nL,pE,lC,fM] at e1;obtain ⟨⟨rfl,rfl⟩,rfl⟩:=e1;have hsz:sz=z:=by rw[← hs x (by simp),hx]
 subst hsz
 refine .pen k es sz b' cap' (.list (some k) es b' 0 sz cap' pre hp ?_ (by omega) hm (fun y hy=>hs y (by simp[hy])) (fun y hy=>h1 y (by simp[hy])) (fun i y j c u hy hc hu=>?_) (fun t ht=>by cases ht;exact k2)) hc
  (fun y hy=>hs y (by simp[hy]))
 ·rw[eH] at hl;omega
 ·have hi:i<es.length:=(dH.1 hy).1;exact hh i y j c u (by rw[jR hi];exact hy) hc hu
theorem yV (s:St) (k:Nat) (es:List A) (z:Nat):(fC s (.pen k es z)).cells=[fC s (.pen k es z)]∧(fC s (.pen k es z)).one=true:=by
 simp only[fC];cases s.ls with
 | none=>exact ⟨rfl,rfl⟩
 | some q=>simp only[uX];split<;>exact ⟨rfl,rfl⟩
theorem aKC {k:Nat} {e:TypeId} {v:A} {b o z:Nat} {E:TypeId} {cs es:List A} (hv:v.cells.length=z) :
  Rle C (((s.setO b (.cells E (iW cs o (fC s (.pen k es z)).cells))).setT k (es.length+1,e)).setL (some (k,es.length,v)))
   (((s.setT k (es.length+1,e)).setL (some (k,es.length,v))).setO b (.cells E (iW cs o (fC ((s.setT k (es.length+1,e)).setL (some (k,es.length,v))) (.pen k es z)).cells))):=by
 intro F g w hR;refine ⟨fun q x hx=>?_,hR.tok,hR.sep,hR.pis,hR.frm,hR.glb,hR.fsh,hR.bet,hR.inj,hR.dtm,hR.lst,hR.bfr,hR.env⟩;rw[aE] at hx;by_cases hq:b=q
 ·subst hq;simp only[↓reduceIte,aP] at hx;subst hx
  have h2:(((s.setO b (.cells E (iW cs o (fC s (.pen k es z)).cells))).setT k (es.length+1,e)).setL (some (k,es.length,v))).getO b=some (.cells E (iW cs o (fC s (.pen k es z)).cells)):=by
   rw[cP,gV,aE];simp
  obtain ⟨j,h3,h4,h5⟩:=hR.obj b _ h2;refine ⟨j,h3,?_,h5⟩;obtain ⟨vs,rest,h6,h7,h8⟩:=h4;have hc2:iW cs o (fC s (.pen k es z)).cells=cs.set o (fC s (.pen k es z)):=by rw[(yV s k es z).1];rfl
  have hc1:iW cs o (fC ((s.setT k (es.length+1,e)).setL (some (k,es.length,v))) (.pen k es z)).cells=cs.set o (fC ((s.setT k (es.length+1,e)).setL (some (k,es.length,v))) (.pen k es z)):=by
   rw[(yV _ k es z).1];rfl
  rw[hc2] at h7 h8;refine ⟨vs,rest,h6,?_,?_⟩
  ·rw [hc1];refine ⟨by simpa using h7.1,fun i c u hc hu => ?_⟩;by_cases hi : o = i
   ·subst hi;by_cases hlt:o<cs.length
    ·rw[pB,if_pos rfl,if_pos hlt] at hc;cases hc;have h9:=h7.2 o _ u (by rw[pB,if_pos rfl,if_pos hlt]) hu;have hends:g.ends k es.length v:=hR.lst _ rfl
     have h10:Rz g (.pen k es z) u:=by
      simp only[fC] at h9;cases hl:s.ls with
      | none=>rw[hl] at h9;exact h9
      | some q =>
       rw[hl] at h9;simp only[uX] at h9;split at h9
       ·rename_i hc;exact aKz h9 hc.2.2 hends
       ·exact h9
     exact aGk hR h10
    ·rw[rJ (by simp;omega)] at hc;cases hc
   ·rw[List.getElem?_set_ne hi] at hc;exact h7.2 i c u (by rw[List.getElem?_set_ne hi];exact hc) hu
  ·intro c hc;rw[hc1] at hc;obtain ⟨i,hi,rfl⟩:=fQ hc;have hi':i<cs.length:=by simpa using hi
   by_cases hio:o=i
   ·subst hio;rw[List.getElem_set_self];exact (yV _ k es z).2
   ·rw[List.getElem_set_ne hio];exact h8 _ (dP (i:=i) (by rw[List.getElem?_set_ne hio,bK hi']))
 ·simp only[hq,↓reduceIte] at hx;refine hR.obj q x ?_;rw[cP,gV,aE,if_neg hq];rw[cP,gV] at hx;exact hx
theorem aJk {e:Env} {a b:Option Oper} (h:sG C e a b):∃ t x y ty pos after t' x' y' ty' pos' after' k es z c o,
  a=some ⟨none,.store t x y,ty,pos,after,none⟩∧b=some ⟨none,.store t' x' y',ty',pos',after',none⟩ ∧
  cT C e x=some (.rm k es.length z)∧cT C e x'=some (.ptr c o)∧cT C e y'=some (.pen k es z):=by
 unfold sG at h;split at h;rotate_left
 ·exact h.elim
 rename_i t x y ty pos after t' x' y' ty' pos' after';unfold aAi at h;split at h;rotate_left
 ·exact h.elim
 rename_i a b c ha hb hc;split at h;rotate_left
 ·exact h.elim
 split at h;rotate_left
 ·exact h.elim
 split at h;rotate_left
 ·exact h.elim
 obtain ⟨rfl,rfl,rfl⟩:=h;exact ⟨t,x,y,ty,pos,after,t',x',y',ty',pos',after',_,_,_,_,_,rfl,rfl,ha,hb,hc⟩
theorem aI6 {l:Array Bool} (h:aCw ops l=true) {m:Nat} {om:Oper} (hm:ops[m]?=some om) (hl:oP om.op=true):Dead ops m l:=by
 simp only[aCw,fD,pD] at h;have h1:=h m (fP.1 hm).1;simp only[hm,hl,dW,gZ,List.any_eq_true,pD,aZ] at h1;obtain ⟨j,hj,⟨h2,h3⟩,h4⟩:=h1;cases ho:ops[j]? with
 | none=>simp[qW,ho] at h2
 | some o =>
  simp only[qW,ho] at h2;exact ⟨j,o,ho,h2,h3,aCU ops.toList [] (fun k=>by simp) (fun k m hk=>by simp at hk) j m h4⟩
theorem aMh (hKR:∀ e s s',Rle C s s'→K e s'→K e s) {f:Nat} {l:Array Bool} {i j:Nat} {e:Env} (ht:kV ops (f+1) l (.pair i j)=true) (hdc:DC ops l) (hc:mJ ops W l s)
  (hW:∀ w,w∈W→∃ o,ops[w.1]?=some o∧oP o.op=true)
  (h:eG C n (ops.toList.map (·.dst)) ops.toList E K Kp (.pair i j) W e s):eC C n ops K Kp W (f+1) l e s:=by
 simp only[kV,aZ,List.contains_iff_mem,fD,kF,beq_iff_eq,oZ,vP,ne_eq,List.isEmpty_iff] at ht;obtain ⟨⟨⟨⟨⟨⟨⟨⟨hi,hj⟩,hz⟩,hij⟩,hzi⟩,hzj⟩,hnil⟩,hdead⟩,hf⟩:=ht;obtain ⟨f,rfl⟩:∃ f',f=f'+1:=⟨f-1,by have:=iB hf;omega⟩
 have chkAll:∀ (l':Array Bool) (s':St),(∀ m,Dead ops m l→Dead ops m l')→mJ ops W l' s':=fun l' s' hl w hw hnd=>by
  obtain ⟨om,h1,h2⟩:=hW w hw;exact absurd (hl _ (aI6 hdead h1 h2)) hnd
 have hnil':Region.ready .any ops ((l.setIfInBounds j true).setIfInBounds i true)=[]:=by rw[Array.setIfInBounds_comm _ _ (fun e=>hij e.symm)];exact hnil
 have last:∀ (l':Array Bool) (e:Env) (s:St),Region.ready .any ops l'=[]→(∀ m,Dead ops m l→Dead ops m l')→K e s→eC C n ops K Kp W f l' e s:=by
  intro l' e s h1 h2 h3;cases f with
  | zero=>exact ⟨chkAll _ _ h2,h1,h3⟩
  | succ f=>exact ⟨chkAll _ _ h2,fun _=>h3,fun m hm=>by have:=tD hm;rw[h1] at this;cases this⟩
 simp only[eG,aCz,xS] at h;obtain ⟨hp,hs⟩:=h;obtain ⟨t,x,y,ty,pos,after,t',x',y',ty',pos',after',k,es,z,c,o,ho,ho',hx,hx',hy'⟩:=aJk hp;rw[ho,ho'] at hs;simp only[iC,fI,jQ,aJ,hx,hx',hy'] at hs;cases hy:cT C e y with
 | none=>rw[hy] at hs;exact hs.elim
 | some v =>
 cases hti:C.tt t with
 | none=>rw[hy,hti] at hs;exact hs.elim
 | some ti =>
 rw[hy,hti] at hs;simp only[nH] at hs;cases htk:s.getT k with
 | none=>rw[htk] at hs;exact hs.elim
 | some me =>
 obtain ⟨m,te0⟩:=me;rw[htk] at hs;simp only at hs;cases hte:C.tt te0 with
 | none=>rw[hte] at hs;exact hs.elim
 | some te =>
 rw[hte] at hs;obtain ⟨⟨rfl,hz1,hz2,hz3,hz4⟩,hck,hs⟩:=hs;simp only[bJ,hx',hy'] at hs;cases hti':C.tt t' with
 | none=>rw[hti'] at hs;exact hs.elim
 | some ti' =>
 rw[hti'] at hs;simp only[cP,gV] at hs;cases hb:s.getO c with
 | none=>rw[hb] at hs;exact hs.elim
 | some ob =>
 cases ob with
 | iter _ _=>rw[hb] at hs;exact hs.elim
 | cells E0 cs =>
 rw[hb] at hs;obtain ⟨hcd,_,hK⟩:=hs;simp only[bJ] at hK;have hones:=fun s':St=>yV s' k es z
 have hsz:1=ti'.sz∧o+1≤cs.length:=by
  obtain ⟨q1,q2,_⟩:=hcd;rw[(hones _).1] at q1 q2;exact ⟨q1,q2⟩
 have hK2:=hKR e _ _ (aKC (C:=C) (s:=s) (e:=te0) (b:=c) (o:=o) (E:=E0) (cs:=cs) hz3) hK;refine ⟨hc,fun hr=>(by rw[hr] at hi;cases hi),fun q hq oq hoq=>?_⟩;rcases hz q hq with rfl|rfl
 ·rw[ho] at hoq;cases hoq;simp only[gT,aJ,hx,hy,hti,nH,htk,hte,bJ];refine ⟨⟨trivial,hz1,hz2,hz3,hz4⟩,chkAll _ _ (fun m hm=>hm.set),fun hr=>?_,fun q2 hq2 oq2 hoq2=>?_⟩
  ·have:=ready_mono hj (fun e=>hij e.symm);rw[hr] at this;cases this
  ·have:=hzi q2 hq2;subst this;rw[ho'] at hoq2;cases hoq2;simp only[gT,aJ,hx',hy',hti',cP,gV,hb,bJ];exact ⟨hcd,last _ _ _ hnil (fun m hm=>hm.set.set) hK⟩
 ·rw[ho'] at hoq;cases hoq;simp only[gT,aJ,hx',hy',hti',hb,bJ];refine ⟨?_,chkAll _ _ (fun m hm=>hm.set),fun hr=>?_,fun q2 hq2 oq2 hoq2=>?_⟩
  ·rw[(hones s).1];refine ⟨hsz.1,hsz.2,?_⟩;simp only[dU,List.all_cons,List.all_nil,(hones s).2];rfl
  ·have:=ready_mono hi hij;rw[hr] at this;cases this
  ·have:=hzj q2 hq2;subst this;rw[ho] at hoq2;cases hoq2;simp only[gT,aJ,hx,hy,hti,nH,St.getT_setO,htk,hte,bJ];exact ⟨⟨trivial,hz1,hz2,hz3,hz4⟩,last _ _ _ hnil' (fun m hm=>hm.set.set) hK2⟩
theorem aEU {t:OT} {e:Env}:eG C n (ops.toList.map (·.dst)) ops.toList E K Kp t W e s→∀ x,x∈jF t →
  iC C n (ops.toList.map (·.dst)) E x.1 (eG C n (ops.toList.map (·.dst)) ops.toList E K Kp x.2) W Kp e s (ops[x.1]?):=by
 induction t with
 | nil=>intro _ x hx;cases hx
 | node i r _ =>
  intro h x hx;simp only[jF,cY] at hx;subst hx;simp only[eG,aCz,xS] at h;exact h
 | alt a b iha ihb =>
  intro h x hx;simp only[jF,gX] at hx;rcases hx with hx|hx
  ·exact iha h.1 x hx
  ·exact ihb h.2 x hx
 | pair i j=>intro _ x hx;cases hx
theorem aGz (hE:sP ops E=true) (hK:∀ e e' s,(∀ t,e.get t=e'.get t)→K e s→K e' s) (hKR:∀ e s s',Rle C s s'→K e s'→K e s) :
  ∀ (f:Nat) (l:Array Bool) (t:OT) (W:List (Nat × (St→Prop))) (e:Env) (s:St),kV ops f l t=true→DC ops l→mJ ops W l s →
   (∀ w,w∈W→∃ o,ops[w.1]?=some o∧oP o.op=true) →
   eG C n (ops.toList.map (·.dst)) ops.toList E K Kp t W e s→eC C n ops K Kp W f l e s:=by
 intro f
 induction f with
 | zero =>
  intro l t W e s ht hdc hc hW h;cases t<;>simp only[kV] at ht<;>try cases ht
  exact ⟨hc,by simpa using ht,h⟩
 | succ f ih =>
  intro l t W e s ht hdc hc hW h
  have eff:∀ i r,i∈Region.ready .any ops l→qW ops i=true→kV ops f (l.setIfInBounds i true) r=true →
    iC C n (ops.toList.map (·.dst)) E i (eG C n (ops.toList.map (·.dst)) ops.toList E K Kp r) W Kp e s (ops[i]?) →
    ∀ o,ops[i]?=some o→gT C (ops.toList.map (·.dst)) o (bJ n o.dst (eC C n ops K Kp W f (l.setIfInBounds i true)) e) Kp e s:=by
   intro i r hr he hk hs o ho;rw[ho] at hs;simp only[qW,ho] at he
   have hil:(l.setIfInBounds i true).getD i false=true:=by
    have:=(qL (mem_ready.1 hr).1).1;simp[this]
   have done:∀ e' s' v,(∀ t,e.get t=e'.get t)→mJ ops W (l.setIfInBounds i true) s' →
     bJ n o.dst (eG C n (ops.toList.map (·.dst)) ops.toList E K Kp r W) e' s' v→bJ n o.dst (eC C n ops K Kp W f (l.setIfInBounds i true)) e s' v:=by
    intro e' s' v hee hc' hp;unfold bJ at *;cases hd:o.dst with
    | none=>rw[hd] at hp;exact rY hK _ _ _ _ _ (fun t=>(hee t).symm) (ih _ r W e' s' hk (hdc.set hr) hc' hW hp)
    | some d =>
     rw[hd] at hp;refine ⟨hp.1,rY hK _ _ _ _ _ (fun t=>?_) (ih _ r W _ s' hk (hdc.set hr) hc' hW hp.2)⟩;rw[iU,iU];split<;>simp[hee]
   refine aL8 he hs (fun e' s' v hee hck hp=>done e' s' v hee (fun w hw hl=>?_) hp) (fun e' hee hp=>done e' s _ hee (fun w hw hl=>hc w hw fun hd=>hl hd.set) hp);obtain ⟨om,h1,h2⟩:=hW w hw;rcases aMJ hE ho h1 he h2 with h3|h3
   ·exact aFX hck hw h3
   ·exact absurd ⟨i,o,ho,he,hil,h3⟩ hl
  cases t with
  | nil =>
   simp only[kV] at ht;have hnil:Region.ready .any ops l=[]:=by simpa using ht
   exact ⟨hc,fun _=>h,fun i hi=>by have hi:=tD hi;rw[hnil] at hi;cases hi⟩
  | node i r =>
   simp only[kV] at ht;have hs:=aEU h (i,r) (by simp[jF]);simp only at hs;split at ht
   ·rename_i heff;simp only[aZ,List.contains_iff_mem,fD,beq_iff_eq] at ht;refine ⟨hc,fun hr=>(by rw[hr] at ht;cases ht.1.1),fun j hj o ho=>?_⟩;have:=ht.1.2 j hj;subst this;exact eff _ r (tD hj) heff ht.2 hs o ho
   ·rename_i heff;simp only[aZ,List.contains_iff_mem] at ht;obtain ⟨o,ho⟩:=aJ1 ht.1.1;have heff':fI o.op=false:=by simpa [qW,ho] using heff
    rw[ho] at hs;obtain ⟨v,po,e',hee,h1,h2,h3⟩:=aKX heff' hs
    have next:bJ n o.dst (eC C n ops K Kp ((i,fun s=>∀ p,po=some p→p s)::W) f (l.setIfInBounds i true)) e s v:=by
     have hcl:mJ ops W (l.setIfInBounds i true) s:=fun w hw hl=>hc w hw fun hd=>hl hd.set
     have fin:∀ e1 s1,mJ ops W (l.setIfInBounds i true) s1→(∀ p,po=some p→p s1) →
       (match po with|none=>eG C n (ops.toList.map (·.dst)) ops.toList E K Kp r W e1 s1|some p=>eG C n (ops.toList.map (·.dst)) ops.toList E K Kp r ((i,p)::W) e1 s1) →
       eC C n ops K Kp ((i,fun s=>∀ p,po=some p→p s)::W) f (l.setIfInBounds i true) e1 s1:=by
      intro e1 s1 hc1 hp hx;cases hpo:po with
      | none =>
       rw[hpo] at hx;have:=aLp (i:=i) _ _ _ _ (ih _ r W e1 s1 ht.2 (hdc.set ht.1.1) hc1 hW hx);have e1:(fun s:St=>∀ p:St→Prop,(none:Option (St→Prop))=some p→p s)=fun _=>True:=by funext s;simp
       rw[e1];exact this
      | some p =>
       rw[hpo] at hx;have e1:(fun s:St=>∀ q:St→Prop,some p=some q→q s)=p:=by funext s;simp
       rw[e1];refine ih _ r _ _ s1 ht.2 (hdc.set ht.1.1) ?_ ?_ hx
       ·intro w hw hl;cases hw with
        | head=>exact hp p hpo
        | tail _ hw=>exact hc1 w hw hl
       ·intro w hw;cases hw with
        | head=>exact ⟨o,ho,(h1 p hpo).1⟩
        | tail _ hw=>exact hW w hw
     unfold pY at h3;unfold bJ at *;cases hd:o.dst with
     | none =>
      rw[hd] at h3;refine rY hK _ _ e' _ _ (fun t=>(hee t).symm) (fin e' s hcl (fun p hp=>(h1 p hp).2) ?_);cases po<;>exact h3
     | some d =>
      rw[hd] at h3;have hd1:d<n:=by cases po<;>exact h3.1
      refine ⟨hd1,rY hK _ _ (e'.put d v) _ _ (fun t=>?_) (fin _ s hcl (fun p hp=>(h1 p hp).2) ?_)⟩
      ·rw[iU,iU];split<;>simp[hee]
      ·cases po<;>exact h3.2
    exact aLb ho heff' hK v (fun s=>∀ p,po=some p→p s) f l e s hdc (Region.free_spec ho ht.1.2) ht.1.1 (fun s' KV hp hk=>h2 s' KV hp hk) (fun p hp=>(h1 p hp).2) hc next
  | alt a b =>
   simp only[kV,aZ,fD,List.any_eq_true,beq_iff_eq,oZ] at ht;obtain ⟨⟨h0,h1⟩,h2⟩:=ht;refine ⟨hc,fun hr=>(by rw[hr] at h0;cases h0),fun j hj o ho=>?_⟩;obtain ⟨x,hx,rfl⟩:=h1 j hj;exact eff x.1 x.2 (tD hj) (h2 x hx).1 (h2 x hx).2 (aEU h x hx) o ho
  | pair i j=>exact aMh hKR ht hdc hc hW h
theorem aLf {op:Op} {ρ:Operand→Option A} {KK KK':A→Option (St→Prop)→Prop} (h:oC C op ρ s KK) (hk:∀ v po,KK v po→KK' v po):oC C op ρ s KK':=by
 cases op
 case load t x =>
  simp only[oC] at h ⊢;cases hx:ρ x with
  | none=>rw[hx] at h;exact lB (C:=C) (ρ:=ρ) (op:=.load t x) (K:=oV KK) (K':=oV KK') h fun v=>hk v none
  | some a =>
   rw[hx] at h;cases a
   case ptr b o =>
    simp only[sQ] at h ⊢;cases hl:nR C t b o s with
    | none=>rw[hl] at h;exact h.elim
    | some v=>rw[hl] at h;exact hk _ _ h
   all_goals exact lB (C:=C) (ρ:=ρ) (op:=.load t x) (K:=oV KK) (K':=oV KK') h fun v=>hk v none
 all_goals (simp only[oC] at h ⊢;exact lB h fun v=>hk v none)
theorem aCf {next next':List (Nat × (St→Prop))→Env→St→Prop} {i:Nat} {e:Env} {ds:List (Option Tmp)} (hn:∀ W e s,next W e s→next' W e s) {oo:Option Oper}
  (h:iC C n ds E i next W Kp e s oo):iC C n ds E i next' W Kp e s oo:=by
 have put:∀ {dst:Option Tmp} {W:List (Nat × (St→Prop))} {e:Env} {s:St} {v:A},bJ n dst (next W) e s v→bJ n dst (next' W) e s v:=by
  intro dst W e s v h;unfold bJ at *;cases dst with
  | none=>exact hn _ _ _ h
  | some d=>exact ⟨h.1,hn _ _ _ h.2⟩
 cases oo with
 | none=>exact h
 | some o =>
  obtain ⟨dst,op,ty,pos,after,gd⟩:=o
  have ex:∀ e,jQ C n E i dst op next W Kp e s (fI op)→jQ C n E i dst op next' W Kp e s (fI op):=by
   intro e h;cases he:fI op with
   | true=>rw[he] at h;exact yQ h (fun s' v hv=>⟨hv.1,put hv.2⟩) fun _ _ h=>h
   | false =>
    rw[he] at h;refine aLf h fun v po hv=>?_
    cases po<;>exact put hv
  cases gd with
  | none=>exact ex e h
  | some jw =>
   obtain ⟨j,want⟩:=jw;simp only[iC] at h ⊢;cases ht:gS ds j with
   | none=>rw[ht] at h;exact h.elim
   | some t =>
    rw[ht] at h;simp only[sR] at h ⊢;cases hg:e.get t with
    | none=>rw[hg] at h;exact h.elim
    | some a =>
     rw[hg] at h;cases a<;>simp only[oD] at h ⊢
     case bool b =>
      cases b<;>cases want<;>simp only at h ⊢
      ·exact ex _ h
      ·exact put h
      ·exact put h
      ·exact ex _ h
     case tuple l=>exact put h
theorem vW {K':Env→St→Prop} {ds:List (Option Tmp)} {os:List Oper} (hk:∀ e s,K e s→K' e s):∀ (t:OT) (W:List (Nat × (St→Prop))) (e:Env) (s:St),
  eG C n ds os E K Kp t W e s→eG C n ds os E K' Kp t W e s
 | .nil,W,e,s,h=>hk e s h
 | .node i r,W,e,s,h=>by
  simp only[eG] at h ⊢;exact aCf (fun W e s=>vW hk r W e s) h
 | .alt a b,W,e,s,h=>⟨vW hk a W e s h.1,vW hk b W e s h.2⟩
 | .pair i j,W,e,s,h=>⟨h.1,aCf (fun W e s h=>aCf (fun W e s h=>hk e s h) h) h.2⟩
theorem aFW (n:Nat):oW (Array.replicate n false)≤n:=by simp[oW]
theorem aEZ {tt:TypeId→Option TI} (h:pJ tt ops=true):∀ i t o,ops[i]?=some o→late ops i=true→o.op=.alloc t→(tt t).isSome=true:=by
 intro i t o ho hl he;simp only[pJ,fD,pD] at h;have h1:=h i (fP.1 ho).1;simp only[hl,ho,he,dW,gZ] at h1;exact h1
theorem aLS {id:Nat} {V:List Nat} {Q0:XK→Env→St→Prop} {e:Env} (t:OT) (E:List (Nat × List Nat))
  (hm:C.P.follows .mixedOrders=true)
  (hck:(sP ops E&&kV ops ops.size (Array.replicate ops.size false) t&&pJ C.tt ops)=true)
  (h:eG C n (ops.toList.map (·.dst)) ops.toList E (jM V Q0) (pP Q0 (ops.toList.map (·.dst)) e) t [] e s):aAe C n id ops (jO (jM V Q0) Q0) e s:=by
 simp only[aZ] at hck
 have hext:∀ (e e':Env) (s:St),(∀ t,e.get t=e'.get t)→(∃ e2 s2,e.ge e2∧Rle C s s2∧jM V Q0 e2 s2)→∃ e2 s2,e'.ge e2∧Rle C s s2∧jM V Q0 e2 s2 :=
  fun e e' s he ⟨e2,s2,h1,h2⟩=>⟨e2,s2,fun t a ha=>by rw[← he t];exact h1 t a ha,h2⟩
 have hrle:∀ (e:Env) (s s':St),Rle C s s'→(∃ e2 s2,e.ge e2∧Rle C s' s2∧jM V Q0 e2 s2)→∃ e2 s2,e.ge e2∧Rle C s s2∧jM V Q0 e2 s2 :=
  fun e s s' hr ⟨e2,s2,h1,h2,h3⟩=>⟨e2,s2,h1,fun F g w hR=>h2 F g w (hr F g w hR),h3⟩
 have mono:∀ (t:OT) (W:List (Nat × (St→Prop))) (e':Env) (s:St),eG C n (ops.toList.map (·.dst)) ops.toList E (jM V Q0) (pP Q0 (ops.toList.map (·.dst)) e) t W e' s →
   eG C n (ops.toList.map (·.dst)) ops.toList E (fun e s=>∃ e2 s2,e.ge e2∧Rle C s s2∧jM V Q0 e2 s2) (pP Q0 (ops.toList.map (·.dst)) e) t W e' s:=by
  exact fun t W e s h=>vW (fun e s hk=>⟨e,s,Env.ge.refl e,Rle.refl s,hk⟩) t W e s h
 intro F g w a hR he;refine wp_region_any hm ?_
 have hdc:DC ops (Array.replicate ops.size false):=by
  intro j o ho hl;exfalso;by_cases hj:j<ops.size
  ·simp[hj] at hl
  ·simp[hj] at hl
 have hA:=aGz hck.1.1 hext hrle ops.size _ t [] e s hck.1.2 hdc (fun w hw=>by cases hw) (fun w hw=>by cases hw) (mono t [] e s h);refine aGJ (aB6 e) (Q:=jO (jM V Q0) Q0) (fun e s hk=>hk) (fun s v hk=>hk) (aEZ hck.2) _ _ g e s a _ (aFW _) (dX g) ?_ he (aCT he) rfl hA;exact hR.heap rfl
end
section
variable (C:Cx) (n:Nat) (ds:List (Option Tmp)) (ops:List Oper) (E:List (Nat × List Nat)) (K:Env→St→Prop) (Kp:St→A→Prop) (W:List (Nat × (St→Prop))) (e:Env) (s:St)
 (next:List (Nat × (St→Prop))→Env→St→Prop) (KK:A→Option (St→Prop)→Prop)
@[go_sem] theorem aRg (t:OT):OT.l [] t=t:=rfl
@[go_sem] theorem aQQ (i:Nat) (r:List Nat) (t:OT):OT.l (i::r) t=.node i (OT.l r t):=rfl
@[go_sem] theorem aRm:eG C n ds ops E K Kp .nil W e s=K e s:=rfl
@[go_sem] theorem aQK (i:Nat) (r:OT):eG C n ds ops E K Kp (.node i r) W e s=iC C n ds E i (eG C n ds ops E K Kp r) W Kp e s (fX ops i):=rfl
@[go_sem] theorem aRj (a b:OT):eG C n ds ops E K Kp (.alt a b) W e s=(eG C n ds ops E K Kp a W e s∧eG C n ds ops E K Kp b W e s):=rfl
@[go_sem] theorem aQW (i j:Nat):eG C n ds ops E K Kp (.pair i j) W e s=(sG C e (fX ops i) (fX ops j)∧iC C n ds E i (fun W e s=>iC C n ds E j (fun _=>K) W Kp e s (fX ops j)) W Kp e s (fX ops i)):=rfl
@[go_sem] theorem aQy (o:Oper) (r:List Oper):fX (o::r) 0=some o:=rfl
@[go_sem] theorem aQk (o:Oper) (r:List Oper) (i:Nat):fX (o::r) (i+1)=fX r i:=rfl
@[go_sem] theorem aQH (i : Nat) (dst : Option Tmp) (op : Op) (ty : TypeId) (pos : String) (after : Array Edge) :
  iC C n ds E i next W Kp e s (some ⟨dst,op,ty,pos,after,none⟩)=jQ C n E i dst op next W Kp e s (fI op):=rfl
@[go_sem] theorem aQl (i : Nat) (dst : Option Tmp) (op : Op) (ty : TypeId) (pos : String) (after : Array Edge) (j : Nat) (want : Bool) :
  iC C n ds E i next W Kp e s (some ⟨dst,op,ty,pos,after,some (j,want)⟩)=sR C n E i dst op next W Kp e s want (gS ds j):=rfl
@[go_sem] theorem aQ7 (i:Nat) (dst:Option Tmp) (op:Op) (want:Bool) (t:Nat):sR C n E i dst op next W Kp e s want (some t)=oD C n E i dst op next W Kp e s t want (e.get t):=rfl
@[go_sem] theorem aRu (i:Nat) (dst:Option Tmp) (op:Op) (t:Nat):oD C n E i dst op next W Kp e s t true (some (.bool true))=jQ C n E i dst op next W Kp (e.put t (.bool true)) s (fI op):=rfl
@[go_sem] theorem aRG (i:Nat) (dst:Option Tmp) (op:Op) (t:Nat):oD C n E i dst op next W Kp e s t true (some (.bool false))=bJ n dst (next W) (e.put t (.bool false)) s (.tuple []):=rfl
@[go_sem] theorem aRK (i:Nat) (dst:Option Tmp) (op:Op) (t:Nat):oD C n E i dst op next W Kp e s t false (some (.bool true))=bJ n dst (next W) (e.put t (.bool true)) s (.tuple []):=rfl
@[go_sem] theorem aRO (i:Nat) (dst:Option Tmp) (op:Op) (t:Nat):oD C n E i dst op next W Kp e s t false (some (.bool false))=jQ C n E i dst op next W Kp (e.put t (.bool false)) s (fI op):=rfl
@[go_sem] theorem aRV (i : Nat) (dst : Option Tmp) (op : Op) (t : Nat) (want : Bool) (l : List A) : oD C n E i dst op next W Kp e s t want (some (.tuple l)) = bJ n dst (next W) e s (.tuple []) := by
  cases want<;>rfl
@[go_sem] theorem aQZ (i:Nat) (dst:Option Tmp) (op:Op):jQ C n E i dst op next W Kp e s true=aJ C op (cT C e) (xG n dst (kO E i) next W e) Kp s:=rfl
@[go_sem] theorem aQh (i:Nat) (dst:Option Tmp) (op:Op):jQ C n E i dst op next W Kp e s false=oC C op (cT C e) s (pY n dst i next W e s):=rfl
@[go_sem] theorem aRn (dst:Option Tmp) (ms:List Nat) (v:A):xG n dst ms next W e s v=(qC ms s W∧bJ n dst (next W) e s v):=rfl
@[go_sem] theorem aQU (dst:Option Tmp) (i:Nat) (v:A):pY n dst i next W e s v none=bJ n dst (next W) e s v:=rfl
@[go_sem] theorem aQG (dst:Option Tmp) (i:Nat) (v:A) (p:St→Prop):pY n dst i next W e s v (some p)=bJ n dst (next ((i,p)::W)) e s v:=rfl
@[go_sem] theorem aRI (v:A):oV KK v=KK v none:=rfl
@[go_sem] theorem aQL (t:TypeId) (b o:Nat) (v:A):tkL C t b o KK (some v)=KK v (some (zW C t b o v)):=rfl
@[go_sem] theorem aRf (t:TypeId) (op:Op) (ρ:Operand→Option A) (b o:Nat):sQ C t op ρ s KK (some (.ptr b o))=tkL C t b o KK (nR C t b o s):=rfl
@[go_sem] theorem aQS (t:TypeId) (op:Op) (ρ:Operand→Option A) (cs:List A) (o:Nat):sQ C t op ρ s KK (some (.eptr cs o))=aQ C op ρ (oV KK):=rfl
@[go_sem] theorem aQg (t:TypeId) (b o:Nat) (v:A):zW C t b o v s=(nR C t b o s=some v):=rfl
@[go_sem] theorem aRa (ms:List Nat):qC ms s []=True:=rfl
@[go_sem] theorem aQE (ms:List Nat) (m:Nat) (p:St→Prop):qC ms s ((m,p)::W)=((if ms.elem m=true then p s else True)∧qC ms s W):=rfl
end
attribute [go_sem] sG aAi fI kO nR oC wY zZ aGh
end
section
def A.le (a b:A):Prop:=∀ g v,Rz g a v→Rz g b v
theorem bM (a:A):a.le a:=fun _ _ h=>h
theorem A.le.trans {a b c:A} (h:a.le b) (h':b.le c):a.le c:=fun g v x=>h' g v (h g v x)
theorem A.le.nils (tk:Option Nat) (h:tk=none):A.le .nils (.list tk []):=fun g v x=>by
 subst h;cases x;exact .list0 none none 0 (bS _) (by simp)
theorem A.le.nil:A.le .nils (.list none []):=A.le.nils none rfl
theorem A.le.forget (tk:Option Nat) (es:List A):A.le (.list tk es) (.list none es):=fun g v x=>x.forget
def rA:List A→List A→Prop
 | [],[]=>True
 | a::r,b::l=>(a.le b∧b.one=true)∧rA r l
 | _,_=>False
theorem aB4:∀ {l r:List A},rA l r→l.length=r.length
 | [],[],_=>rfl
 | _::_,_::_,h=>by simp[aB4 h.2]
 | [],_::_,h=>h.elim
 | _::_,[],h=>h.elim
theorem vX:∀ {l r:List A},rA l r→∀ (j:Nat) (b:A),r[j]?=some b→∃ a,l[j]?=some a∧a.le b∧b.one=true
 | [],[],_,j,b,hb=>by simp at hb
 | a::r,b::l,h,j,c,hc=>by
  cases j with
  | zero=>simp at hc;subst hc;exact ⟨a,by simp,h.1⟩
  | succ j=>obtain ⟨x,hx⟩:=vX h.2 j c (by simpa using hc);exact ⟨x,by simpa using hx⟩
 | [],_::_,h,_,_,_=>h.elim
 | _::_,[],h,_,_,_=>h.elim
theorem A.le.agg {l r:List A} (h:rA l r):A.le (.agg l) (.agg r):=fun g v x=>by
 obtain ⟨vs,rfl,hrs,hone⟩:=x.agg_inv;refine .agg r vs (by rw[hrs.1,aB4 h]) (fun c hc=>?_) fun j c u hc hu=>?_
 ·obtain ⟨j,hj,rfl⟩:=fQ hc;obtain ⟨a,_,_,h1⟩:=vX h j r[j] (bK hj);exact h1
 ·obtain ⟨a,ha,h1,_⟩:=vX h j c hc;exact h1 g u (hrs.2 j a u ha hu)
def aAv:List A→List A→Prop
 | [],[]=>True
 | a::r,b::l=>a.le b∧aAv r l
 | _,_=>False
theorem aFI:∀ {l r:List A},aAv l r→l.length=r.length
 | [],[],_=>rfl
 | _::_,_::_,h=>by simp[aFI h.2]
 | [],_::_,h=>h.elim
 | _::_,[],h=>h.elim
theorem aFw:∀ {l r:List A},aAv l r→∀ (j:Nat) (b:A),r[j]?=some b→∃ a,l[j]?=some a∧a.le b
 | [],[],_,j,b,hb=>by simp at hb
 | a::r,b::l,h,j,c,hc=>by
  cases j with
  | zero=>simp at hc;subst hc;exact ⟨a,by simp,h.1⟩
  | succ j=>obtain ⟨x,hx⟩:=aFw h.2 j c (by simpa using hc);exact ⟨x,by simpa using hx⟩
 | [],_::_,h,_,_,_=>h.elim
 | _::_,[],h,_,_,_=>h.elim
theorem A.le.tuple {l r:List A} (h:aAv l r):A.le (.tuple l) (.tuple r):=fun g v x=>by
 obtain ⟨vs,rfl,hrs⟩:=x.tuple_inv;refine .tuple r vs (by rw[hrs.1,aFI h]) fun j c u hc hu=>?_
 obtain ⟨a,ha,h1⟩:=aFw h j c hc;exact h1 g u (hrs.2 j a u ha hu)
def DK (KV:St→A→Prop) (s:St) (a:A):Prop:=∃ s2 a2,s.ge s2∧a.le a2∧KV s2 a2
theorem DK.mk {KV:St→A→Prop} {s s2:St} {a a2:A} (h:KV s2 a2) (hs:s.ge s2) (ha:a.le a2):DK KV s a:=⟨s2,a2,hs,ha,h⟩
theorem DK.here {KV:St→A→Prop} {s:St} {a:A} (h:KV s a):DK KV s a:=⟨s,a,bW s,bM a,h⟩
theorem aH {KV:St→A→Prop} {s s2:St} {a:A} (h:KV s2 a) (hs:s.ge s2):DK KV s a:=⟨s2,a,hs,bM a,h⟩
section
variable {C:Cx} {s:St} {f:FuncId} {args:List A} {KV Kp:St→A→Prop}
theorem Den.drop (h:Den C f args (DK KV) (DK Kp) s) (hd:C.det=false:=by rfl):Den C f args KV Kp s:=by
 have hdt:∀ {a b:Nat},C.toCtx.det=true→a≤b:=fun h=>by rw[show C.toCtx.det=false from hd] at h;cases h
 intro F g w vals hR hv;have:=h F g w vals hR hv;revert this;generalize (callFunc f vals.toArray).run C.P w=r;intro hr;cases r with
 | ok x w' =>
  cases x<;>simp only[OutV] at hr ⊢
  ·obtain ⟨g',a,s',a1,a2,a3,s2,b,h1,h2,h3⟩:=hr;exact ⟨g',b,s2,a1,a2.weaken h1 hdt,h2 _ _ a3,h3⟩
  ·obtain ⟨g',s',a1,a2,s2,b,h1,h2,h3⟩:=hr;have ht:=h2 g' _ (.tuple [] [] rfl (by simp))
   have hl:b=.tuple []:=by
    generalize hvv:(Value.tuple ([]:List Value).toArray)=v at ht;cases ht<;>first|(cases hvv;done)|skip
    rename_i cs vs hl _;have h0:vs=[]:=by simpa using hvv.symm
    subst h0;rw[eJ hl.symm]
   subst hl;exact ⟨g',s2,a1,a2.weaken h1 hdt,h3⟩
  ·refine Calls.mono hr fun en w'' hp=>?_
   cases en with
   | returned v=>obtain ⟨g',a,s',a1,a2,a3,s2,b,h1,h2,h3⟩:=hp;exact ⟨g',b,s2,a1,a2.weaken h1 hdt,h2 _ _ a3,h3⟩
   | panicked jF=>obtain ⟨g',a,v,s',a0,a1,a2,a3,s2,b,h1,h2,h3⟩:=hp;exact ⟨g',b,v,s2,a0,a1,a2.weaken h1 hdt,h2 _ _ a3,h3⟩
   | outgrown=>exact hp
 | halt x w' =>
  cases x<;>simp only[OutV] at hr ⊢
  obtain ⟨g',a,s',a1,a2,a3,s2,b,h1,h2,h3⟩:=hr;exact ⟨g',b,s2,a1,a2.weaken h1 hdt,h2 _ _ a3,h3⟩
end
@[go_sem] theorem aL (s : St) (b c : Nat) (o : Ob) : ((s.setO b o).getO c = none) = ((b ≠ c ∧ c ≠ b) ∧ s.getO c = none) := by
  rw[aE];by_cases h:b=c
  · subst h;simp
  · have h':¬ c=b:=fun e=>h e.symm
    simp[h,h']
theorem bN {s:St} {b c:Nat} {o:Ob} (h:s.getO b=some o) (h':s.getO c=none):b≠c∧c≠b:=by
 constructor
 ·rintro rfl;rw[h] at h';cases h'
 ·rintro rfl;rw[h] at h';cases h'
attribute [go_sem] aE gV St.getT_setO bT
def aY:=@DK.here
end
section
def eqK:Nat→A→A→Option Bool
 | 0,.int j a,.int k b=>if j=k then some (decide (a=b)) else none
 | 1,.bool a,.bool b=>some (a == b)
 | 2,.str a,.str b=>some (decide (a=b))
 | _,_,_=>none
def tW:List Nat→List A→List A→Option Bool
 | [],[],[]=>some true
 | k::ks,a::r,b::l=>match eqK k a b,tW ks r l with
  | some x,some y=>some (x&&y)
  | _,_=>none
 | _,_,_=>none
def pL (P:Program) (t:TypeId) (k:Nat):Bool:=match P.underlying t with
 | some (.int _)=>k == 0
 | some .bool=>k == 1
 | some .string=>k == 2
 | _=>false
def yP (P:Program):List Field→List Nat→Nat→Bool
 | [],[],_=>true
 | f :: r,k :: ks,i => (f.name != "_") && f.offset == i && pL P f.type k && yP P r ks (i + 1)
 | _,_,_=>false
def aHg (P:Program) (t:TypeId) (ks:List Nat):Bool :=
 !P.stoodInHeld t&&!P.eqGuardType P.depth t&&(match P.underlying t with
  | some (.struct fs)=>yP P fs.toList ks 0
  | _=>false)
section
variable {P:Program} {g:Gh} {w:World}
theorem aMx {a b:A} {r:Bool} {k:Nat} {t:TypeId} {va vb:Value} {d:Nat} (h:eqK k a b=some r) (ra:Rz g a va) (rb:Rz g b vb) (hk:pL P t k=true) :
  (Op.equalIn (d+1) t va vb).run P w=.ok r w:=by
 unfold eqK at h;split at h
 ·split at h
  ·rename_i hjk;subst hjk;simp only[aP] at h;subst h;have hu:∃ ik,P.underlying t=some (.int ik):=by unfold pL at hk;split at hk<;>simp_all
   obtain ⟨ik,hu⟩:=hu;rw[ra.int_inv,rb.int_inv,run_equalIn_int w d t _ _ _ _ hu];congr 1
  ·simp at h
 ·simp only[aP] at h;subst h;have hu:P.underlying t=some .bool:=by unfold pL at hk;split at hk<;>simp_all
  rw[ra.bool_inv,rb.bool_inv,run_equalIn_bool' w d t _ _ hu]
 ·simp only[aP] at h;subst h;have hu:P.underlying t=some .string:=by unfold pL at hk;split at hk<;>simp_all
  rw[ra.str_inv,rb.str_inv,run_equalIn_string w d t _ _ hu];simp only[ByteArray.toList_mk];congr 1;rw[Bool.eq_iff_iff];simp
 ·simp at h
theorem aGw {t:TypeId} {k:Nat} (hk:pL P t k=true) {xs:Array Value} {i:Nat} {v:Value} (hv:xs[i]?=some v):(part t xs i).run P w=.ok v w:=by
 unfold pL at hk
 split at hk<;>first
  | (rename_i hu;simp[part,isAgg,cI hu,hv];done)
  | (rename_i hu _;simp[part,isAgg,cI hu,hv];done)
  | (rename_i hu;simp only[part,isAgg,aV,cI hu,aW,bC,bR,if_false,hv];done)
  | cases hk
theorem aEj {d:Nat} {xs ys:Array Value}:∀ {fs:List Field} {ks:List Nat} {az bs:List A} {i:Nat} {r:Bool},yP P fs ks i=true→tW ks az bs=some r →
  Rzs g az (xs.toList.drop i)→Rzs g bs (ys.toList.drop i)→(Op.eqFields (d+1) xs ys fs).run P w=.ok r w
 | [],[],[],[],i,r,_,h,_,_=>by simp only[tW,aP] at h;subst h;rfl
 | f::fs,k::ks,a::az,b::bs,i,r,hf,h,ra,rb=>by
  simp only[yP,aZ,bne_iff_ne,beq_iff_eq] at hf;obtain ⟨⟨⟨h1,rfl⟩,h3⟩,h4⟩:=hf;simp only[tW] at h;split at h
  ·rename_i x y hx hy;simp only[aP] at h;subst h;obtain ⟨va,hva,hra⟩:=ra.get (j:=0) (c:=a) (by simp);obtain ⟨vb,hvb,hrb⟩:=rb.get (j:=0) (c:=b) (by simp);rw[mM,Nat.add_zero,xS] at hva hvb;have ih:=aEj (d:=d) (i:=f.offset+1) h4 hy (by have:=ra.drop 1;simpa [pC] using this) (by have:=rb.drop 1;simpa [pC] using this);simp only[Op.eqFields,if_pos h1,ne_eq,h1,cZ,if_true,aV,aGw h3 hva,aGw h3 hvb,aW,aMx hx hra hrb h3];cases x
   ·simp
   ·simp[ih]
  ·simp at h
end
def xM (B:List TypeId) (S:List (TypeId × List Nat)) (N M:List TypeId) (t:TypeId):A→A→Option Bool
 | .nils,.nils=>if N.elem t then some true else none
 | .list _ (_::_),.nils=>if N.elem t then some false else none
 | .ml _ _ _,.nils=>if N.elem t then some false else none
 | .emp,.nils=>if N.elem t then some false else none
 | .nilp,.nilp=>if M.elem t then some true else none
 | .ptr _ _,.nilp=>if M.elem t then some false else none
 | .ptr a o,.ptr b p=>if M.elem t&&Nat.beq a b&&Nat.beq o p then some true else none
 | .bool a,.bool b=>if B.elem t then some (a == b) else none
 | .agg az,.agg bs=>match S.lookup t with
  | some ks=>tW ks az bs
  | none=>none
 | _,_=>none
def aDt (P:Program) (t:TypeId):Bool:=match P.underlying t with
 | some (.slice _)=>true
 | _=>false
def aDi (P:Program) (t:TypeId):Bool:=match P.underlying t with
 | some (.pointer e)=>(match P.info? e with
  | some i=>i.size != 0
  | none=>false)
 | _=>false
def aAB (P:Program) (B:List TypeId) (S:List (TypeId × List Nat)) (N M:List TypeId):Bool :=
 (B.all (fun t=>pL P t 1)&&S.all fun x=>aHg P x.1 x.2)&&(N.all (aDt P)&&M.all (aDi P))
section
variable {P:Program} {w:World} {t:TypeId}
theorem wR (h:aDt P t=true) (a:Option Addr) (l c:Nat) {op:BinOp} (hop:op=.eql∨op=.neq) (x y:Operand) :
  (eqGuard op t x y (.slice a l c) (.slice none 0 0)).run P w=.ok () w∧(binOp op t (.slice a l c) (.slice none 0 0)).run P w=.ok (.bool (if op=.eql then a.isNone else !a.isNone)) w:=by
 unfold aDt at h;split at h
 ·rename_i e he;refine ⟨by rcases hop with rfl|rfl<;>rfl,?_⟩;rcases hop with rfl|rfl
  ·simp only[binOp,aV,run_equal_slice_nil w t e a l c he,aW,bC,if_true]
  ·rw[run_neq_slice_nil w t e a l c he];simp
 ·cases h
theorem aCV (h:aDi P t=true) (a:Option Addr) (b:Option Addr) (r:Bool)
  (hr:(a=none∧r=b.isNone)∨(b=none∧r=a.isNone)∨(∃ k,a=some k∧b=some k∧r=true)) {op:BinOp} (hop:op=.eql∨op=.neq) (x y:Operand) :
  (eqGuard op t x y (.pointer a) (.pointer b)).run P w=.ok () w∧(binOp op t (.pointer a) (.pointer b)).run P w=.ok (.bool (if op=.eql then r else !r)) w:=by
 unfold aDi at h;split at h
 ·rename_i e he;split at h
  ·rename_i i hi;have hn:i.size≠0:=by simpa using h
   have heq':∀ d:Nat,(Op.equalIn (d+1) t (.pointer a) (.pointer b)).run P w=.ok r w:=by
    intro d;rcases hr with ⟨rfl,rfl⟩|⟨rfl,rfl⟩|⟨k,rfl,rfl,rfl⟩
    ·simp[Op.equalIn,cI he]
    ·cases a<;>simp[Op.equalIn,cI he]
    ·simp[Op.equalIn,cI he,sizeOf,typeInfo,hi,hn,run_sameAddr_same]
   have heq:(Op.equal t (.pointer a) (.pointer b)).run P w=.ok r w:=heq' 9999;refine ⟨by rcases hop with rfl|rfl<;>rfl,?_⟩;rcases hop with rfl|rfl
   ·simp only[binOp,aV,heq,aW,bC,if_true]
   ·simp only[binOp,aV,heq,aW,bC,reduceCtorEq,if_false]
  ·cases h
 ·cases h
end
theorem aJB {S:List (TypeId × List Nat)} {t:TypeId} {ks:List Nat} (h:S.lookup t=some ks):(t,ks)∈S:=by
 induction S with
 | nil=>simp at h
 | cons x S ih =>
  obtain ⟨u,l⟩:=x;simp only[List.lookup] at h;split at h
  ·rename_i hb;have:t=u:=by simpa using hb
   cases h;subst this;simp
  ·exact eQ _ (ih h)
theorem aNb {P:Program} {B:List TypeId} {S:List (TypeId × List Nat)} {N M:List TypeId} (hok:aAB P B S N M=true) (t:TypeId) (a b:A) (r:Bool) (h:xM B S N M t a b=some r)
  (g:Gh) (va vb:Value) (w:World) (op:BinOp) (x y:Operand) (hop:op=.eql∨op=.neq) (ra:Rz g a va) (rb:Rz g b vb) :
  (eqGuard op t x y va vb).run P w=.ok () w∧(binOp op t va vb).run P w=.ok (.bool (if op=.eql then r else !r)) w:=by
 simp only[aAB,aZ,fD] at hok;obtain ⟨hok,hN,hM⟩:=hok;unfold xM at h;split at h
 ·split at h
  ·rename_i hn;cases h;rw[ra.nils_inv,rb.nils_inv];exact wR (hN t (by simpa using hn)) none 0 0 hop x y
  ·cases h
 ·split at h
  ·rename_i hn;cases h;obtain ⟨ad,cap,hv,_,_,_,hh⟩:=ra.list_inv;rcases hh with hh|⟨bk,off,sz,pre,rfl,_⟩
   ·cases hh
   rw[hv,rb.nils_inv];exact wR (hN t (by simpa using hn)) (some ⟨bk,off,none⟩) _ _ hop x y
  ·cases h
 ·split at h
  ·rename_i hn;cases h;obtain ⟨k,cap,hv,_⟩:=ra.ml_inv;rw[hv,rb.nils_inv];exact wR (hN t (by simpa using hn)) (some _) _ _ hop x y
  ·cases h
 ·split at h
  ·rename_i hn;cases h;obtain ⟨k,hv⟩:=ra.emp_inv;rw[hv,rb.nils_inv];exact wR (hN t (by simpa using hn)) (some _) _ _ hop x y
  ·cases h
 ·split at h
  ·rename_i hn;cases h;rw[ra.nilp_inv,rb.nilp_inv];exact aCV (hM t (by simpa using hn)) none none true (.inl ⟨rfl,rfl⟩) hop x y
  ·cases h
 ·split at h
  ·rename_i hn;cases h;obtain ⟨k,hv,_⟩:=ra.ptr_inv;rw[hv,rb.nilp_inv];exact aCV (hM t (by simpa using hn)) (some _) none false (.inr (.inl ⟨rfl,rfl⟩)) hop x y
  ·cases h
 ·split at h
  ·rename_i a' o' b' p' hn;simp only[aZ] at hn;cases h;have e1:=bH hn.1.2;have e2:=bH hn.2;subst e1 e2;obtain ⟨k,hv,hk⟩:=ra.ptr_inv;obtain ⟨k2,hv2,hk2⟩:=rb.ptr_inv;rw[hk] at hk2;cases hk2;rw[hv,hv2];exact aCV (hM t (by simpa using hn.1.1)) (some _) (some _) true (.inr (.inr ⟨_,rfl,rfl,rfl⟩)) hop x y
  ·cases h
 ·split at h
  ·rename_i hb;simp only[aP] at h;subst h;have hk:=hok.1 t (by simpa using hb)
   have hu:P.underlying t=some .bool:=by
    unfold pL at hk;split at hk<;>simp_all
   rw[ra.bool_inv,rb.bool_inv];refine ⟨by rcases hop with rfl|rfl<;>rfl,?_⟩;rcases hop with rfl|rfl
   ·simp only[binOp,aV,run_equal_bool w t _ _ hu,aW,bC,if_true]
   ·simp only[binOp,aV,run_equal_bool w t _ _ hu,aW,bC,reduceCtorEq,if_false]
  ·simp at h
 ·split at h
  ·rename_i ks hks;have hf:=hok.2 _ (aJB hks);simp only[aHg,aZ,oZ] at hf;obtain ⟨⟨h1,h2⟩,h3⟩:=hf;split at h3
   ·rename_i fs hu;obtain ⟨vs,rfl,rvs,_⟩:=ra.agg_inv;obtain ⟨us,rfl,rus,_⟩:=rb.agg_inv;have hfo:P.fieldsOf t=fs:=by simp[Program.fieldsOf,hu]
    have hrun:=aEj (P:=P) (g:=g) (w:=w) (d:=9998) (i:=0) (xs:=vs.toArray) (ys:=us.toArray) h3 h (by simpa using rvs) (by simpa using rus)
    have heq:(Op.equalIn 10000 t (.agg vs.toArray) (.agg us.toArray)).run P w=.ok r w:=by
     rw[show 10000=9999+1 from rfl,run_equalIn_struct w 9999 t _ _ (by rw[hfo];exact hu) h1,hfo];exact hrun
    refine ⟨run_eqGuard_agg w op t x y _ _ h2,?_⟩;rcases hop with rfl|rfl
    ·rw[run_eql_struct,heq];rfl
    ·rw[run_neq_struct,heq];rfl
   ·simp at h3
  ·simp at h
 ·simp at h
attribute [go_sem] xM tW eqK
end
end Go.AV
section
open Go.Proofs.Tryz
namespace Go.AV
open Go
section
variable {C:Cx} {n:Nat} {ds:List (Option Tmp)} {dst:Option Tmp} {op:Op} {r:List Oper} {K:Env→St→Prop} {Kp:St→A→Prop} {e:Env} {s:St} {t:Nat} {want b:Bool}
end
theorem dM {s:St} {b:Nat} {o:Ob} (h:s.getO b=none):(s.setO b o).ge s :=
 ⟨fun c x hc => by
  rw[aE];have:=bN hc h;simp[this.2,hc],fun t n h=>h,fun _ h=>h⟩
theorem mR {s:St} {b:Nat} {o:Ob} {s2:St} (h:s2.getO b=none) (hs:s.ge s2):(s.setO b o).ge s2 :=
 ⟨fun c x hc => by
  rw[aE];have:=bN hc h;simp[this.2,hs.ob c x hc],fun t n h=>hs.tk t n h,fun x h=>hs.ls x h⟩
end Go.AV
namespace Go.AV
open Go
theorem aDR:∀ (vs p q:List A),q.length=vs.length→iW (p++q) p.length vs=p++vs
 | [],p,q,h=>by have:q=[]:=eJ (by simpa using h);subst this;rfl
 | v::vs,p,[],h=>by simp at h
 | v::vs,p,x::q,h=>by
  have h1:=aDR vs (p++[v]) q (by simpa using h);simp only[cQ,bP,bO,aK,aD,aG,fF] at h1;simp only[iW];rw[List.set_append_right _ _ (bG _),Nat.sub_self];simpa using h1
@[go_sem] theorem aP7 {z vs : List A} (h : z.length = vs.length) : iW z 0 vs = vs := by
  have:=aDR vs [] z h;simpa using this
@[go_sem] theorem aQf (s : St) (b n cap : Nat) (e e' : TypeId) (sz m : Nat) (ys cs : List A) (KV : St → A → Prop) : qT false s b n cap e sz m ys KV (some (.cells e' cs)) =
  ((false=false∧e'=e∧cs.length=cap * sz∧n≤cap∧n+m≤4294967296∧0<m) ∧
  ∀ (b' cap':Nat) (J:List A),(b'=b∧cap'=cap∨s.getO b'=none)→n+m≤cap'→J.length=(cap'-(n+m)) * sz→(∀ c,c∈J→c.one=true) →
   KV (s.setO b' (.cells e (cs.take (n * sz)++(cW ys++J)))) (.mg b' (n+m) cap')):=rfl
attribute [go_sem] aAt
def gv (tk:Option Nat) (es:List A):A:=match tk with
 | none=>.nils
 | some t=>.list (some t) es
def mL (s:St) (tk:Option Nat) (n:Nat) (e:TypeId):Prop:=match tk with
 | none=>n=0
 | some t=>s.getT t=some (n,e)
theorem aGb (es:List A):gv none es=.nils:=rfl
theorem dT (t:Nat) (es:List A):gv (some t) es=.list (some t) es:=rfl
@[go_sem] theorem aQO (tk:Option Nat) (es:List A):(gv tk es).cells=[gv tk es]:=by cases tk<;>rfl
@[go_sem] theorem qO (tk:Option Nat) (es:List A):(gv tk es).one=true:=by cases tk<;>rfl
@[go_sem] theorem aRz (s:St) (tk:Option Nat) (es:List A):fC s (gv tk es)=gv tk es:=by cases tk<;>rfl
theorem lZ {s:St} {tk:Option Nat} {es:List A} {e:TypeId} (h:mL s tk es.length e):jN (gv tk es)=some (.int .i64 es.length):=by
 cases tk with
 | none =>
  have h0:es.length=0:=h;simp only[gv,jN,h0];rfl
 | some t=>rfl
theorem fB {C:Cx} {s:St} {e:TypeId} {te:TI} {ys:List A} {KV:St→A→Prop} {tk:Option Nat} {es:List A} (hm:C.det=false) (hu:Nat.beq C.mu 1=false) (hg:mL s tk es.length e)
  (he:∀ y,y∈es→y.cells.length=te.sz) (hl:es.length+ys.length≤4294967296)
  (hK:∀ t,(tk=some t∨tk=none∧s.getT t=none)→KV (s.setT t (es.length+ys.length,e)) (.list (some t) (es++ys))):nX C s e te ys KV (gv tk es):=by
 cases tk with
 | none =>
  have h0:es=[]:=eJ hg;subst h0;refine ⟨by simpa using hl,?_⟩;unfold kB;rw[hm];simp only[hu];unfold newT;rw[hm];intro t ht;have:=hK t (.inr ⟨rfl,ht⟩);simpa using this
 | some t=>exact ⟨hg,he,hl,hK t (.inl rfl)⟩
theorem aCn {α:Type} (p:Nat) (c d:α):∀ L,kU p d (kU p c L)=kU p d L
 | []=>by simp[kU]
 | (q,x)::L=>by
  unfold kU;by_cases h:q=p
  ·simp[h,kU]
  ·simp[h,kU,aCn p c d L]
@[go_sem] theorem lU (s : St) (b : Nat) (o o' : Ob) : (s.setO b o).setO b o' = s.setO b o' := by
  simp only[St.setO,aCn]
end Go.AV
namespace Go.AV
open Go
def Rlz (a:A):Prop:=∃ g v,Rz g a v
theorem Rlz.len {tk:Option Nat} {es:List A} (h:Rlz (.list tk es)):es.length≤maxLen:=by
 obtain ⟨g,v,h⟩:=h;obtain ⟨ad,cap,hv,hm,hc,_⟩:=h.list_inv;omega
theorem Rlz.wrap {tk:Option Nat} {es:List A} (h:Rlz (.list tk es)) {i:Nat} (hi:i<es.length):IntKind.i64.wrap ((i:Int)+1)=((i+1:Nat):Int):=by
 have:=h.len;unfold maxLen at this;exact cJ i (by omega)
theorem Rlz.cell {cs:List A} (h:Rlz (.agg cs)) {c:A} (hc:c∈cs):Rlz c:=by
 obtain ⟨g,v,h⟩:=h;obtain ⟨vs,rfl,hrs,_⟩:=h.agg_inv;obtain ⟨j,hj,rfl⟩:=fQ hc;obtain ⟨u,_,hu⟩:=hrs.get (bK hj);exact ⟨g,u,hu⟩
theorem Rlz.elem {tk:Option Nat} {es:List A} (h:Rlz (.list tk es)) {e:A} (he:e∈es) {c:A} (hc:c∈e.cells):Rlz c:=by
 obtain ⟨g,v,h⟩:=h;obtain ⟨ad,cap,hv,hm,hcap,_,hr⟩:=h.list_inv;rcases hr with rfl|⟨b,off,sz,pre,rfl,hp,hl,hs,hone,hr⟩
 ·cases he
 ·obtain ⟨i,hi,rfl⟩:=fQ he;obtain ⟨j,hj,rfl⟩:=fQ hc;have h1:=hs _ (iT hi)
  have hb:i * sz+j<es.length * sz:=by
   have:(i+1) * sz≤es.length * sz:=lO _ hi;rw[eH] at this;omega
  exact ⟨g,_,hr i _ j _ pre[off+i * sz+j] (bK hi) (bK hj) (bK (by omega))⟩
section
variable {C:Cx} {s:St} {f:FuncId} {args:List A} {KV Kp:St→A→Prop}
theorem tZ (h:(∀ a,a∈args→Rlz a)→Den C f args KV Kp s):Den C f args KV Kp s:=fun F g w vals hR hv =>
 h (fun a ha=>by
  obtain ⟨j,hj,rfl⟩:=fQ ha;obtain ⟨u,_,hu⟩:=hv.get (bK hj);exact ⟨g,u,hu⟩) F g w vals hR hv
end
end Go.AV
end
namespace Go.AV
open Go Go.Proofs Tryz
theorem aIq {C:Cx} {f:FuncId} {args:List A} {s:St} {KV Kp:St→A→Prop}
  (hent:∀ vals w,(callFunc f vals).run C.P w=.ok (.enter f vals) w)
  (h : ∀ F g w vals,R C.toCtx F g s w → Rzs g args vals → Calls C.P f vals.toArray w fun e w' =>
   ∃ v a,e=.returned v∧(∀ k,k<w.heap.size→w'.heap[k]?=w.heap[k]?)∧(w'.os,w'.output)=(w.os,w.output)∧Rz g a v∧KV s a):Den C f args KV Kp s:=by
 intro F g w vals hR hv;rw[hent];refine Calls.mono (h F g w vals hR hv) fun e w' hp=>?_
 obtain ⟨v,a,rfl,hk,he,hr,hK⟩:=hp;exact ⟨g,a,s,dX g,hR.keep hk he,hr,hK⟩
inductive Tr (α:Type) where
 | lf
 | nd (l:Tr α) (v:Option α) (r:Tr α)
def Tr.get {α:Type}:Tr α→Nat→Option α
 | .lf,_=>none
 | .nd l v r,n=>match n with
  | 0=>v
  | k+1=>match Nat.beq (k % 2) 0 with
   | true=>l.get (k / 2)
   | false=>r.get (k / 2)
def Tr.setF {α:Type}:Nat→Tr α→Nat→α→Tr α
 | 0,t,_,_=>t
 | f+1,t,n,a=>match t with
  | .lf=>match n with
   | 0=>.nd .lf (some a) .lf
   | k+1=>match Nat.beq (k % 2) 0 with
    | true=>.nd (setF f .lf (k / 2) a) none .lf
    | false=>.nd .lf none (setF f .lf (k / 2) a)
  | .nd l v r=>match n with
   | 0=>.nd l (some a) r
   | k+1=>match Nat.beq (k % 2) 0 with
    | true=>.nd (setF f l (k / 2) a) v r
    | false=>.nd l v (setF f r (k / 2) a)
def Tr.set {α:Type} (t:Tr α) (n:Nat) (a:α):Tr α:=t.setF (n+1) n a
theorem Tr.get_setF {α:Type}:∀ (f:Nat) (t:Tr α) (n:Nat) (a:α) (m:Nat),n<f→(t.setF f n a).get m=if n=m then some a else t.get m
  | 0,t,n,a,m,h=>by omega
  | f+1,t,n,a,m,h=>by
    have key:∀ (k j:Nat),Nat.beq (k % 2) 0=Nat.beq (j % 2) 0→(k / 2=j / 2↔k=j):=by
      intro k j h
      have h1:(k % 2=0)↔(j % 2=0):=by
        constructor
        · intro e;have:=bH (n:=j % 2) (m:=0) (by rw[← h,e];rfl);exact this
        · intro e;have:=bH (n:=k % 2) (m:=0) (by rw[h,e];rfl);exact this
      omega
    cases t with
    | lf =>
      cases n with
      | zero=>cases m with
        | zero=>simp[setF,get]
        | succ j=>simp only[setF,get];split<;>simp
      | succ k =>
        simp only[setF];cases hk:Nat.beq (k % 2) 0<;>simp only
        all_goals
          cases m with
          | zero=>simp[get]
          | succ j =>
            simp only[get];cases hj:Nat.beq (j % 2) 0<;>simp only[get]
            all_goals first
              | (rw [get_setF f _ _ _ _ (by omega)]
                 have:=key k j (by rw[hk,hj]);simp only[get,Nat.add_right_cancel_iff];by_cases e:k=j
                 · simp[e]
                 · simp[e,mt this.1 e])
              | (have : ¬ k = j := by rintro rfl; rw [hk] at hj; cases hj
                 simp[this])
    | nd l v r =>
      cases n with
      | zero=>cases m with
        | zero=>simp[setF,get]
        | succ j=>simp[setF,get]
      | succ k =>
        simp only[setF];cases hk:Nat.beq (k % 2) 0<;>simp only
        all_goals
          cases m with
          | zero=>simp[get]
          | succ j =>
            simp only[get];cases hj:Nat.beq (j % 2) 0<;>simp only[get]
            all_goals first
              | (rw [get_setF f _ _ _ _ (by omega)]
                 have:=key k j (by rw[hk,hj]);simp only[Nat.add_right_cancel_iff];by_cases e:k=j
                 · simp[e]
                 · simp[e,mt this.1 e])
              | (have : ¬ k = j := by rintro rfl; rw [hk] at hj; cases hj
                 simp[this])
theorem Tr.get_set {α:Type} (t:Tr α) (n:Nat) (a:α) (m:Nat):(t.set n a).get m=if n=m then some a else t.get m:=get_setF _ t n a m (fK n)
def Tr.del {α:Type}:Tr α→Nat→Tr α
 | .lf,_=>.lf
 | .nd l v r,n=>match n with
  | 0=>.nd l none r
  | k+1=>match Nat.beq (k % 2) 0 with
   | true=>.nd (l.del (k / 2)) v r
   | false=>.nd l v (r.del (k / 2))
theorem Tr.get_del {α:Type}:∀ (t:Tr α) (n m:Nat),(t.del n).get m=if n=m then none else t.get m
  | .lf,n,m=>by simp[del,get]
  | .nd l v r,n,m=>by
    have key:∀ (k j:Nat),Nat.beq (k % 2) 0=Nat.beq (j % 2) 0→(k / 2=j / 2↔k=j):=by
      intro k j h
      have h1:(k % 2=0)↔(j % 2=0):=by
        constructor
        · intro e;have:=bH (n:=j % 2) (m:=0) (by rw[← h,e];rfl);exact this
        · intro e;have:=bH (n:=k % 2) (m:=0) (by rw[h,e];rfl);exact this
      omega
    cases n with
    | zero=>cases m<;>simp[del,get]
    | succ k =>
      simp only[del];cases hk:Nat.beq (k % 2) 0<;>simp only
      all_goals
        cases m with
        | zero=>simp[get]
        | succ j =>
          simp only[get];cases hj:Nat.beq (j % 2) 0<;>simp only
          all_goals first
            | (rw [get_del]
               have:=key k j (by rw[hk,hj]);simp only[Nat.add_right_cancel_iff];by_cases e:k=j
               · simp[e]
               · simp[e,mt this.1 e])
            | (have : ¬ k = j := by rintro rfl; rw [hk] at hj; cases hj
               simp[this])
structure XS where
 bx:Tr Ob
 tk:Tr (Nat × TypeId)
 lim:Nat
 ls:Option (Nat × Nat × A)
inductive XR where
 | val (a:A) (σ:XS)
 | pan (a:A) (σ:XS)
 | call (f:FuncId) (az:List A)
 | bad
structure XT where
 tt:TypeId→Option TI
 eq:TypeId→A→A→Option Bool
 gl:Nat→Option (List A)
 cv:TypeId→TypeId→Option TypeId
 us:TypeId→Option TypeId
def jX (T:XT) (ε:Tr A):Operand→Option A
 | .tmp t=>ε.get t
 | .const v=>wO v
 | .global g=>match T.gl g with
  | some cs=>some (.eptr cs 0)
  | none=>none
 | .func f=>some (.fn f [] [])
def nT (T:XT) (t:TypeId) (cs:List A) (o:Nat):Option A :=
 match T.tt t with
 | some ti=>match ti.k.agg with
  | true=>match Nat.ble (o+ti.sz) cs.length with
   | true=>some (.agg ((cs.drop o).take ti.sz))
   | false=>none
  | false=>cs[o]?
 | none=>none
def zX:Nat→List A→Bool
 | _,[]=>true
 | n,x::r=>Nat.beq x.cells.length n&&dU x.cells&&zX n r
def qN (n:Nat):List A→Bool
 | []=>true
 | x::r=>Nat.beq x.cells.length n&&qN n r
def aAz (x:A) (lo hi:Option A):Option A :=
 match x with
 | .str s=>match lN lo,kE s.length hi with
  | some l,some h=>if 0≤l∧l≤h∧h≤s.length then some (.str ((s.drop l.toNat).take (h.toNat-l.toNat))) else none
  | _,_=>none
 | .list _ es=>match lN lo,kE es.length hi with
  | some l,some h=>if 0≤l∧l≤h∧h≤es.length then some (.list none ((es.drop l.toNat).take (h.toNat-l.toNat))) else none
  | _,_=>none
 | _=>none
def gR (T:XT) (c:Operand) (a:Operand) (b:Operand) (ρ:Operand→Option A):Option A :=
 match ρ c with
 | some (.bool c)=>match c with
  | true=>ρ a
  | false=>ρ b
 | _=>none
def gJ (T:XT) (op:BinOp) (t:TypeId) (x:Operand) (y:Operand) (ρ:Operand→Option A):Option A :=
 match ρ x,ρ y with
 | some a,some b=>match zU y with
  | true=>match b,T.tt t with
   | .nili,some ti=>match ti.k with
    | .iface=>aAo op a
    | _=>none
   | _,_=>none
  | false=>match uK op a b with
   | true=>match T.eq t a b with
    | some r=>some (.bool (match op with|.eql=>r|_=>!r))
    | none=>none
   | false=>match op,a,b with
    | .add,.str a,.str b=>match Nat.ble (a.length+b.length) maxLen with
     | true=>some (.str (a++b))
     | false=>none
    | op,a,b=>aAx op a b
 | _,_=>none
def gP (T:XT) (op:UnOp) (x:Operand) (ρ:Operand→Option A):Option A :=
 match ρ x with
 | some a=>unA op a
 | none=>none
def gD (T:XT) (x:Operand) (ρ:Operand→Option A):Option A :=
 match ρ x with
 | some (.ptr b o)=>some (.ptr b o)
 | some (.eptr cs o)=>some (.eptr cs o)
 | _=>none
def gB (T:XT) (t:TypeId) (x:Operand) (f:Nat) (ρ:Operand→Option A):Option A :=
 match ρ x,T.tt t with
 | some a,some ti=>match ti.k with
  | .struct fs=>match fs[f]? with
   | some (off,_,_)=>match a with
    | .ptr b o=>some (.ptr b (o+off))
    | .eptr cs o=>some (.eptr cs (o+off))
    | _=>none
   | none=>none
  | _=>none
 | _,_=>none
def gI (T:XT) (t:TypeId) (x:Operand) (f:Nat) (ρ:Operand→Option A):Option A :=
 match ρ x,T.tt t with
 | some (.agg cs),some ti=>match ti.k with
  | .struct fs=>match fs[f]? with
   | some (off,sz,ag)=>match ag with
    | true=>match Nat.ble (off+sz) cs.length with
     | true=>some (.agg ((cs.drop off).take sz))
     | false=>none
    | false=>cs[off]?
   | none=>none
  | _=>none
 | _,_=>none
def fT (T:XT) (x:Operand) (t:TypeId) (ok:Bool) (ρ:Operand→Option A):Option A :=
 match ok with
 | true=>match ρ x,T.tt t with
  | some (.iface u v),some ti=>match ti.k with
   | .struct _=>match Nat.beq u t with
    | true=>some (.tuple [v,.bool true])
    | false=>none
   | _=>none
  | _,_=>none
 | false=>none
def gF (T:XT) (x:Operand) (i:Nat) (ρ:Operand→Option A):Option A :=
 match ρ x with
 | some (.tuple vs)=>vs[i]?
 | _=>none
def fZ (T:XT) (t:TypeId) (x:Operand) (ρ:Operand→Option A):Option A :=
 match ρ x,T.tt t with
 | some a,some ti=>match ti.k with
  | .iface=>none
  | _=>some (.iface t a)
 | _,_=>none
def gE (T:XT) (f:FuncId) (first:Array Operand) (caps:Array Operand) (ρ:Operand→Option A):Option A :=
 match iI ρ first.toList,iI ρ caps.toList with
 | some l,some m=>some (.fn f l m)
 | _,_=>none
def gG (T:XT) (a:TypeId) (b:TypeId) (x:Operand) (ρ:Operand→Option A):Option A :=
 match ρ x,T.tt a,T.tt b with
 | some (.int _ n),some _,some tb=>match tb.k with
  | .int k=>some (.int k (k.wrap n))
  | _=>none
 | some (.str s),some ta,some tb=>match tb.k with
  | .string=>some (.str s)
  | .slice e=>match ta.k,T.tt e with
   | .string,some te=>match te.k with
    | .int .u8=>if te.sz=1∧s.length≤maxLen then some (.list none (s.map fun c=>.int .u8 c.toNat)) else none
    | _=>none
   | _,_=>none
  | _=>none
 | _,_,_=>none
def gK (T:XT) (t:TypeId) (parts:Array (Nat × Operand)) (ρ:Operand→Option A):Option A :=
 match jB ρ parts.toList,T.tt t with
 | some ps,some ti=>match ti.k with
  | .struct fs=>(oS (fun i=>(fs[i]?).map fun x=>(x.1,x.2.1)) ti.zero ps).map .agg
  | _=>none
 | _,_=>none
def gA (T:XT) (t:TypeId) (len:Nat) (parts:Array (Nat × Operand)) (ρ:Operand→Option A):Option A :=
 match jB ρ parts.toList,T.tt t with
 | some ps,some ti=>match ti.k with
  | .slice e=>match T.tt e with
   | some te=>match sF 0 ps with
    | some es=>if (es.length=len∧(len * te.sz≤16777216∧len≤16777216)∧zX te.sz es=true) then some (match uN parts.toList with|true=>hlA es|false=>uV es) else none
    | none=>none
   | none=>none
  | _=>none
 | _,_=>none
def gN (T:XT) (t:TypeId) (x:Operand) (ρ:Operand→Option A):Option A :=
 match ρ x with
 | some (.eptr cs o)=>nT T t cs o
 | _=>none
def gL (T:XT) (t:TypeId) (x:Operand) (lo:Option Operand) (hi:Option Operand) (ρ:Operand→Option A):Option A :=
 match ρ x,kQ ρ lo,kQ ρ hi,T.tt t with
 | some a,some l,some h,some ti=>match ti.k with
  | .string=>match a with
   | .str s=>aAz (.str s) l h
   | _=>none
  | .slice e=>match a,T.tt e with
   | .list tk es,some te=>match qN te.sz es with
    | true=>aAz (.list tk es) l h
    | false=>none
   | .nils,some _=>match lN l,kE 0 h with
    | some i,some j=>if i=0∧j=0 then some .nils else none
    | _,_=>none
   | .gr t n,some _=>match lN l,kE n h with
    | some i,some j=>if i=0∧j=0 then some (.list (some t) []) else none
    | _,_=>none
   | .ml b off n,some te=>match lN l,kE n h with
    | some i,some j=>if 0≤i∧i≤j∧j≤n then some (if j.toNat-i.toNat=0 then .list none [] else .ml b (off+i.toNat * te.sz) (j.toNat-i.toNat)) else none
    | _,_=>none
   | _,_=>none
  | _=>none
 | _,_,_,_=>none
def gC (T:XT) (t:TypeId) (x:Operand) (i:Operand) (ρ:Operand→Option A):Option A :=
 match ρ x,ρ i,T.tt t with
 | some a,some (.int _ i),some ti=>match ti.k with
  | .slice e=>match a with
   | .list _ es=>match T.tt e with
    | some te=>if 0≤i then (match es[i.toNat]? with
     | some x=>match Nat.beq x.cells.length te.sz with
      | true=>some (.eptr x.cells 0)
      | false=>none
     | none=>none) else none
    | none=>none
   | .ml b off n=>match T.tt e with
    | some te=>if 0≤i∧i.toNat<n then some (.ptr b (off+i.toNat * te.sz)) else none
    | none=>none
   | .pen t es sz=>match T.tt e with
    | some te=>if i=es.length∧sz=te.sz then some (.rm t es.length te.sz) else none
    | none=>none
   | _=>none
  | .array n e=>match a with
   | .eptr cs o=>match T.tt e with
    | some te=>if 0≤i∧i<n then some (.eptr cs (o+i.toNat * te.sz)) else none
    | none=>none
   | _=>none
  | _=>none
 | _,_,_=>none
def gM (T:XT) (t:TypeId) (x:Operand) (i:Operand) (ρ:Operand→Option A):Option A :=
 match ρ x,ρ i,T.tt t with
 | some (.str s),some (.int _ i),some ti=>match ti.k with
  | .string=>if 0≤i then (match s[i.toNat]? with
   | some c=>some (.int .u8 c.toNat)
   | none=>none) else none
  | _=>none
 | _,_,_=>none
def gQ (T:XT) (c:Call) (ρ:Operand→Option A):Option A :=
 match c.callee,c.args.toList,c.argTypes.toList with
 | .builtin .len,[x],[t]=>match ρ x,T.tt t with
  | some a,some ti=>match ti.k with
   | .string=>match a with|.str s=>some (.int .i64 s.length)|_=>none
   | .slice _=>match a with|.list _ es=>some (.int .i64 es.length)|.nils=>some (.int .i64 0)|.ml _ _ n=>some (.int .i64 n)|.emp=>some (.int .i64 0)|_=>none
   | _=>none
  | _,_=>none
 | .builtin .unsafeSliceData,[x],_=>match ρ x with
  | some (.list tk (y::ys))=>some (.sd tk (y::ys))
  | some .nils=>some .nilp
  | _=>none
 | .builtin .cap,[x],[t]=>match ρ x,T.tt t with
  | some .nils,some ti=>match ti.k with
   | .slice _=>some (.int .i64 0)
   | _=>none
  | _,_=>none
 | .builtin .max,[x,y],_=>match ρ x,ρ y with
  | some (.int j a),some (.int _ b)=>some (.int j (if a<b then b else a))
  | _,_=>none
 | .builtin .min,[x,y],_=>match ρ x,ρ y with
  | some (.int j a),some (.int _ b)=>some (.int j (if b<a then b else a))
  | _,_=>none
 | _,_,_=>none
def eF (T:XT) (op:Op) (ρ:Operand→Option A):Option A :=
 match op with
 | .move x=>ρ x
 | .assign x=>ρ x
 | .pick c a b=>gR T c a b ρ
 | .binOp op t x y _=>gJ T op t x y ρ
 | .unOp op _ x=>gP T op x ρ
 | .nilCheck x=>gD T x ρ
 | .fieldAddr t x f=>gB T t x f ρ
 | .field t x f=>gI T t x f ρ
 | .typeAssert x _ t ok=>fT T x t ok ρ
 | .extract x i=>gF T x i ρ
 | .makeInterface t x=>fZ T t x ρ
 | .makeFunc (.func f) first caps=>gE T f first caps ρ
 | .convert a b x=>gG T a b x ρ
 | .build t parts=>gK T t parts ρ
 | .buildSlice t len parts=>gA T t len parts ρ
 | .load t x=>gN T t x ρ
 | .slice t x lo hi none=>gL T t x lo hi ρ
 | .indexAddr t x i=>gC T t x i ρ
 | .index t x i=>gM T t x i ρ
 | .call c=>gQ T c ρ
 | _=>none
end Go.AV
