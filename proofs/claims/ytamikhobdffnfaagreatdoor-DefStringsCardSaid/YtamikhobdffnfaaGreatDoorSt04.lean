/-
  Of DefStrings.
-/
import Derived.Test.YtamikhobdffnfaaGreatDoorSt03
import Derived.Lib.AppendStr
import Derived.Lib.UnsafeStr
set_option linter.all false
set_option maxRecDepth 99999
set_option maxHeartbeats 0
namespace Go.AV
open Go Go.Proofs Tryz
section
def Gh.tok (g:Gh) (t n:Nat) (v:Value) (b:Nat) (xs:List Value):Gh :=
 ⟨fun k=>if k=b then some xs else g.pi k,fun t' m=>if t'=t∧m=n then some v else g.eta t' m,g.beta,g.env⟩
def oA (C:Cx) (s s':St) (t:Nat):Prop:=s'.ls=s.ls∧(C.det=true→s.lim≤s'.lim∧t<s'.lim)
section
variable {C:Cx} {F:Fr} {g:Gh} {s:St} {w:World} {ρ:Operand→Option A} {ev:Operand→Value}
theorem R.tokStep (h:R C.toCtx F g s w) {w':World} {t n b:Nat} {e:TypeId} {v:Value} {xs:List Value}
  (hk:∀ k,k<w.heap.size→k≠b→w'.heap[k]?=w.heap[k]?) (hrow:w'.ownsRow 0 e (C.toCtx.sz e) v n xs) (hb:v.ownBlock=some b)
  (hmax:∀ m x,g.eta t m=some x→m<n)
  {s':St} (hO:∀ q,s'.getO q=s.getO q) (hT:∀ q,s'.getT q=if t=q then some (n,e) else s.getT q) (hl:oA C s s' t)
  (hcase:(b=w.heap.size∧(s.getT t=none∨∃ n0,s.getT t=some n0))∨∃ n0 v0 xs0 news,s.getT t=some (n0,e)∧g.eta t n0=some v0∧v0.ownBlock=some b∧g.pi b=some xs0∧xs=xs0++news) (he:(w'.os,w'.output)=(w.os,w.output):=by rfl) :
  R C.toCtx F (g.tok t n v b xs) s' w'∧g.le (g.tok t n v b xs):=by
 have hF:F b=none:=by
  rcases hcase with ⟨rfl,_⟩|⟨n0,v0,xs0,news,h1,h2,h3,h4,_⟩
  ·exact h.frm_new
  ·obtain ⟨v,xs,e1,_,_,h5⟩:=h.tok t n0 e h1;rw[h2] at e1;cases e1;exact (h5 b h3).2
 have hOb:∀ c k,g.beta c=some k→g.pi k=none→k≠b:=by
  rintro c k hc hk' rfl;rcases hcase with ⟨rfl,_⟩|⟨n0,v0,xs0,news,h1,h2,h3,h4,_⟩
  ·exact h.bet_new c hc
  ·rw[hk'] at h4;cases h4
 have hTb:∀ t' n' v' k,t'≠t→s.getT t'=some n'→g.eta t' n'.1=some v'→v'.ownBlock=some k→k≠b:=by
  rintro t' n' v' k hne ht' hv' hk' rfl;rcases hcase with ⟨rfl,_⟩|⟨n0,v0,xs0,news,h1,h2,h3,h4,_⟩
  ·obtain ⟨v2,xs2,e1,_,_,h5⟩:=h.tok t' n'.1 n'.2 ht';rw[hv'] at e1;cases e1;exact absurd (h.lt_pi (h5 _ hk').1) (Nat.lt_irrefl _)
  ·exact h.sep t' t n' (n0,e) v' v0 k hne ht' h1 hv' h2 hk' h3
 have hle:g.le (g.tok t n v b xs):=by
  refine ⟨fun k pre hp=>?_,fun t' m x hx=>?_,fun _ _ h=>h,rfl⟩
  ·by_cases hkb:k=b
   ·subst hkb;rcases hcase with ⟨rfl,_⟩|⟨n0,v0,xs0,news,h1,h2,h3,h4,h5⟩
    ·rw[h.pi_new] at hp;cases hp
    ·rw[h4] at hp;cases hp;exact ⟨news,by simp[Gh.tok,h5]⟩
   ·exact ⟨[],by simp[Gh.tok,hkb,hp]⟩
  ·have:¬ (t'=t∧m=n):=by
    rintro ⟨rfl,rfl⟩;exact absurd (hmax _ _ hx) (Nat.lt_irrefl _)
   simp only[Gh.tok,this,↓reduceIte];exact hx
 refine ⟨⟨?_,?_,?_,?_,?_,?_,?_,?_,h.inj,?_,fun x hx=>(h.lst x (by rw[← hl.1];exact hx)).mono hle,h.bfr,he.trans h.env⟩,hle⟩
 ·intro c o ho;rw[hO] at ho;obtain ⟨k,h0,h1,h2,h3⟩:=h.obj c o ho;have hne:=hOb c k h0 h2;exact ⟨k,h0,by rw[hk k (h.bet c k h0) hne];exact h1.mono hle,by simp[Gh.tok,hne,h2],h3⟩
 ·intro t' n' e' ht';rw[hT] at ht';by_cases htt:t=t'
  ·subst htt;simp only[↓reduceIte,aP,lR] at ht';obtain ⟨rfl,rfl⟩:=ht';refine ⟨v,xs,by simp[Gh.tok],hrow,fun m x hx=>?_,fun k hk'=>?_⟩
   ·by_cases hm:m=n
    ·omega
    ·simp only[Gh.tok,hm,and_false,↓reduceIte] at hx;have:=hmax _ _ hx;omega
   ·rw[hb] at hk';cases hk';exact ⟨by simp[Gh.tok],hF⟩
  ·simp only[htt,↓reduceIte] at ht';obtain ⟨v',xs',h1,h2,h3,h4⟩:=h.tok t' n' e' ht';have hne:∀ m,¬ (t'=t∧m=n):=fun m=>by rintro ⟨rfl,_⟩;exact htt rfl
   refine ⟨v',xs',?_,⟨h2.1,?_⟩,?_,?_⟩
   ·simp only[Gh.tok];rw[if_neg (hne n')];exact h1
   ·rcases h2.2 with hv|⟨k,cap,cur,hv,hb',hh,rest⟩
    ·exact .inl hv
    ·refine .inr ⟨k,cap,cur,hv,hb',?_,rest⟩;have hkb:=hTb t' (n',e') v' k (fun e=>htt e.symm) ht' h1 (by rw[hv];rfl);rw[hk k (fP.1 hh).1 hkb];exact hh
   ·intro m x hx;simp only[Gh.tok] at hx;rw[if_neg (hne m)] at hx;exact h3 m x hx
   ·intro k hk';have hkb:=hTb t' (n',e') v' k (fun e=>htt e.symm) ht' h1 hk';simp only[Gh.tok,hkb,↓reduceIte];exact h4 k hk'
 ·intro t1 t2 n1 n2 v1 v2 k hne h1 h2 e1 e2 o1 o2;rw[hT] at h1 h2;simp only[Gh.tok] at e1 e2;by_cases ht1:t=t1
  ·subst ht1;have ht2:¬ t=t2:=hne;have ht2':¬ t2=t:=fun e=>hne e.symm
   simp only[↓reduceIte,aP] at h1;subst h1;simp only[fM,↓reduceIte,aP] at e1;subst e1;simp only[ht2,↓reduceIte] at h2;simp only[ht2',mS,↓reduceIte] at e2;rw[hb] at o1;cases o1;exact hTb t2 n2 v2 b ht2' h2 e2 o2 rfl
  ·have ht1':¬ t1=t:=fun e=>ht1 e.symm
   simp only[ht1,↓reduceIte] at h1;simp only[ht1',mS,↓reduceIte] at e1;by_cases ht2:t=t2
   ·subst ht2;simp only[↓reduceIte,aP] at h2;subst h2;simp only[fM,↓reduceIte,aP] at e2;subst e2;rw[hb] at o2;cases o2;exact hTb t1 n1 v1 b ht1' h1 e1 o1 rfl
   ·have ht2':¬ t2=t:=fun e=>ht2 e.symm
    simp only[ht2,↓reduceIte] at h2;simp only[ht2',mS,↓reduceIte] at e2;exact h.sep t1 t2 n1 n2 v1 v2 k hne h1 h2 e1 e2 o1 o2
 ·intro k pre hp;by_cases hkb:k=b
  ·subst hkb;simp only[Gh.tok,↓reduceIte,aP] at hp;subst hp;rcases hrow.2 with ⟨rfl,_⟩|⟨k',cap,cur,hv,_,hh,_,_,_,htake⟩
   ·cases hb
   ·rw[hv] at hb;simp only[Value.ownBlock,aP] at hb;subst hb;refine ⟨cur.toList.drop (n * C.toCtx.sz e),e,(0,0),?_⟩;rw[hh,← htake];simp
  ·simp only[Gh.tok,hkb,↓reduceIte] at hp;rw[hk k (h.lt_pi hp) hkb];exact h.pis k pre hp
 ·intro k o ho;have hkb:k≠b:=by rintro rfl;rw[hF] at ho;cases ho
  rw[hk k (h.lt_frm ho) hkb];refine ⟨(h.frm k o ho).1,?_⟩;simp only[Gh.tok,hkb,↓reduceIte];exact (h.frm k o ho).2
 ·intro k cs hc;obtain ⟨pre,ty,fr,hp,hl,h1,hr⟩:=h.glb k cs hc;exact ⟨pre,ty,fr,hp,hl,h1,fun j c v hc hv=>(hr j c v hc hv).mono hle⟩
 ·obtain ⟨N,hN⟩:=h.fsh;refine ⟨max N (t+1),fun t' ht'=>⟨?_,fun m=>?_,(hN t' (by omega)).2.2⟩⟩
  ·rw[hT];have:¬ t=t':=by omega
   simp only[this,↓reduceIte];exact (hN t' (by omega)).1
  ·have:¬ (t'=t∧m=n):=by omega
   simp only[Gh.tok,this,↓reduceIte];exact (hN t' (by omega)).2.1 m
 ·intro c k hc;have h1:=h.bet c k hc;by_cases hkb:k=b
  ·subst hkb;rcases hrow.2 with ⟨rfl,_⟩|⟨k',cap,cur,hv,_,hh,_⟩
   ·cases hb
   ·rw[hv] at hb;simp only[Value.ownBlock,aP] at hb;subst hb;exact (fP.1 hh).1
  ·have h2:=hk k h1 hkb;rw[vO h1] at h2;exact (fP.1 h2).1
 ·intro hd c hc;obtain ⟨l1,l2⟩:=hl.2 hd;obtain ⟨d1,d2⟩:=h.dtm hd c (by omega);refine ⟨d1,fun m=>?_⟩;have:¬ (c=t∧m=n):=by omega
  simp only[Gh.tok,this,↓reduceIte];exact d2 m
theorem R.tokNil (h:R C.toCtx F g s w) (e:TypeId) {N:Nat} (n2:∀ m,g.eta N m=none) {s':St} (hO:∀ q,s'.getO q=s.getO q)
  (hT:∀ q,s'.getT q=if N=q then some (0,e) else s.getT q) (hl:oA C s s' N) :
  ∃ g',g.le g'∧g'.eta N 0=some (.slice none 0 0)∧R C.toCtx F g' s' w:=by
 have hle:g.le { g with eta:=fun t' m=>if t'=N∧m=0 then some (.slice none 0 0) else g.eta t' m } :=
  ⟨fun k pre hp => ⟨[],by simpa using hp⟩,fun t m x hx => by
   have:¬ (t=N∧m=0):=by rintro ⟨rfl,rfl⟩;rw[n2] at hx;cases hx
   simp only[this,↓reduceIte];exact hx,fun _ _ h=>h,rfl⟩
 refine ⟨_,hle,by simp,⟨?_,?_,?_,h.pis,h.frm,?_,?_,h.bet,h.inj,?_,fun x hx=>(h.lst x (by rw[← hl.1];exact hx)).mono hle,h.bfr,h.env⟩⟩
 ·intro b o ho;rw[hO] at ho;obtain ⟨k,h0,h1,h2⟩:=h.obj b o ho;exact ⟨k,h0,h1.mono hle,h2⟩
 ·intro t' n' e' ht';rw[hT] at ht';by_cases htt:N=t'
  ·subst htt;simp only[↓reduceIte,aP,lR] at ht';obtain ⟨rfl,rfl⟩:=ht';refine ⟨.slice none 0 0,[],by simp,World.ownsRow_nil w 0 e _,fun m x hx=>?_,fun k hk=>by cases hk⟩;by_cases hm:m=0
   ·omega
   ·simp only[hm,and_false,↓reduceIte] at hx;rw[n2] at hx;cases hx
  ·simp only[htt,↓reduceIte] at ht';obtain ⟨v,xs,h1,h2,h3,h4⟩:=h.tok t' n' e' ht';have hne:∀ m,¬ (t'=N∧m=0):=fun m=>by rintro ⟨rfl,_⟩;exact htt rfl
   have hne':¬ t'=N:=fun e=>htt e.symm
   refine ⟨v,xs,?_,h2,fun m x hx=>?_,h4⟩
   ·simp only[hne',mS,↓reduceIte];exact h1
   ·simp only[hne',mS,↓reduceIte] at hx;exact h3 m x hx
 ·intro t1 t2 n1' n2' v1 v2 k hne h1 h2 e1 e2 o1 o2;rw[hT] at h1 h2;by_cases ht1:N=t1
  ·subst ht1;simp only[↓reduceIte,aP] at h1;subst h1;simp only[fM,↓reduceIte,aP] at e1;subst e1;cases o1
  ·have ht1':¬ t1=N:=fun e=>ht1 e.symm
   simp only[ht1,↓reduceIte] at h1;simp only[ht1',mS,↓reduceIte] at e1;by_cases ht2:N=t2
   ·subst ht2;simp only[↓reduceIte,aP] at h2;subst h2;simp only[fM,↓reduceIte,aP] at e2;subst e2;cases o2
   ·have ht2':¬ t2=N:=fun e=>ht2 e.symm
    simp only[ht2,↓reduceIte] at h2;simp only[ht2',mS,↓reduceIte] at e2;exact h.sep t1 t2 n1' n2' v1 v2 k hne h1 h2 e1 e2 o1 o2
 ·intro b cs hc;obtain ⟨pre,ty,fr,hp,hl,h1,hr⟩:=h.glb b cs hc;exact ⟨pre,ty,fr,hp,hl,h1,fun j c v hc hv=>(hr j c v hc hv).mono hle⟩
 ·obtain ⟨M,hM⟩:=h.fsh;refine ⟨max M (N+1),fun t' ht'=>⟨?_,fun m=>?_,(hM t' (by omega)).2.2⟩⟩
  ·rw[hT];have:¬ N=t':=by omega
   simp only[this,↓reduceIte];exact (hM t' (by omega)).1
  ·have:¬ (t'=N∧m=0):=by omega
   simp only[this,↓reduceIte];exact (hM t' (by omega)).2.1 m
 ·intro hd c hc;obtain ⟨l1,l2⟩:=hl.2 hd;obtain ⟨d1,d2⟩:=h.dtm hd c (by omega);refine ⟨d1,fun m=>?_⟩;have:¬ (c=N∧m=0):=by omega
  simp only[this,↓reduceIte];exact d2 m
theorem xT (P:Program) (w:World) (t u ty e:TypeId) (i:TypeInfo) (ht:P.underlying t=some (.slice e)) (hu:P.underlying u=some (.slice e)) (hi:P.info? e=some i) (base a:Option Addr) (n cap c:Nat) (h:n≤cap) :
  (Builtin.append_ #[t,u] ty #[.slice base n cap,.slice a 0 c]).run P w=.ok (.slice base n cap) w:=by
 have hs:∀ ad:Addr,(storeCells ad []).run P w=.ok () w:=fun ad=>rfl
 cases base<;>cases a <;>
  simp[Builtin.append_,cI ht,cI hu,sizeOf,typeInfo,hi,Builtin.lenOf,h,Builtin.firstCells,loadCells,loadCellsFrom,hs]
theorem xU (z:Array Value) (n:Nat):(Builtin.zeroCells z n).size=n * z.size:=by simp[Builtin.zeroCells]
theorem nN (w:World) (need old:Nat) (e:TypeId) (h:need≤9223372036854775807):need≤grownCap w need old e∧grownCap w need old e≤maxLen :=
 ⟨grownCap_ge w need old e,grownCap_le_maxLen w need old e (by unfold maxLen;omega)⟩
theorem tN (g:Gh) (t n:Nat) (v:Value) (b:Nat) (xs:List Value):(g.tok t n v b xs).pi b=some xs:=by simp[Gh.tok]
theorem rQ (g:Gh) (t n:Nat) (v:Value) (b:Nat) (xs:List Value):(g.tok t n v b xs).eta t n=some v:=by simp[Gh.tok]
theorem aCM (l:List Value) (z:Array Value):l.toArray++z=(l++z.toList).toArray:=by apply Array.ext';simp
theorem zE (k l:List Value) (z:Array Value):k.toArray++l.toArray++z=((k++l)++z.toList).toArray:=by apply Array.ext';simp
theorem rS {KV Kp:St→A→Prop} (hR:R C.toCtx F g s w) {t:Nat} {e:TypeId} {es:List A} {xs rest:List Value} {cap:Nat} {te:TI} (hte:C.tt e=some te)
  (hes:∀ y,y∈es→y.cells.length=te.sz) (hone:∀ y,y∈es→∀ c,c∈y.cells→c.one=true) (hxs:Rzs g (cW es) xs)
  (hcap:es.length≤cap) (hcm:cap≤maxLen) (hrest:(xs++rest).length=cap * te.sz)
  {s':St} (hO:∀ q,s'.getO q=s.getO q) (hT:∀ q,s'.getT q=if t=q then some (es.length,e) else s.getT q) (hl:oA C s s' t)
  (ht:s.getT t=none∨∃ n0,s.getT t=some n0) (hmax:∀ m x,g.eta t m=some x→m<es.length)
  (hK:KV s' (.list (some t) es)) :
  OutV C F g KV Kp (.ok (.value (.slice (some ⟨w.heap.size,0,none⟩) es.length cap)) (w.drew.alloc (.cells (xs++rest).toArray e))):=by
 have hszC:C.toCtx.sz e=te.sz:=qS hte;have hfl:=tB hes;have hxl:xs.length=es.length * te.sz:=by rw[hxs.1,hfl]
 have hrow:(w.drew.alloc (.cells (xs++rest).toArray e)).ownsRow 0 e (C.toCtx.sz e) (.slice (some ⟨w.heap.size,0,none⟩) es.length cap) es.length xs:=by
  rw[hszC];refine ⟨hxl,.inr ⟨w.heap.size,cap,_,rfl,bS _,rM w.drew _,hcap,hcm,by simpa using hrest,?_⟩⟩;rw[← hxl];simp
 obtain ⟨h1,h2⟩:=hR.tokStep (t:=t) (n:=es.length) (b:=w.heap.size) (w':=w.drew.alloc (.cells (xs++rest).toArray e)) (fun k hk _=>qF w.drew _ hk) hrow rfl hmax hO hT hl (.inl ⟨rfl,ht⟩);refine ⟨_,_,_,h2,h1,?_,hK⟩;refine rR (off:=0) (vs:=xs) (pre:=xs) (tN _ _ _ _ _ _) (by simp) ?_ hes hone hcap hcm (bS _) (fun t' ht'=>by cases ht';exact rQ _ _ _ _ _ _);rw[gW (by omega)];exact hxs.mono h2
theorem yN (hR:R C.toCtx F g s w) {KV:St→A→Prop} {n:Nat} {e:TypeId} {ys:List A} (h:newT C s n e ys KV) :
  ∃ N s',(∀ m,g.eta N m=none)∧s.getT N=none∧(∀ q,s'.getO q=s.getO q)∧(∀ q,s'.getT q=if N=q then some (n,e) else s.getT q)∧oA C s s' N ∧
   KV s' (.list (some N) ys):=by
 unfold newT at h;cases hd:C.det with
 | false =>
  rw[hd] at h;obtain ⟨N,hN⟩:=hR.fsh;obtain ⟨n1,n2,_⟩:=hN N (bG _);exact ⟨N,s.setT N (n,e),n2,n1,fun q=>rfl,fun q=>bT s N (n,e) q,⟨rfl,fun hh=>by rw[hd] at hh;cases hh⟩,h N n1⟩
 | true =>
  rw[hd] at h;have hb:=(hR.dtm hd s.lim (bG _)).2;exact ⟨s.lim,s.newT (n,e),hb,hR.freeT hb,fun q=>rfl,fun q=>xV s (n,e) q,⟨rfl,fun _=>⟨Nat.le_succ _,fK _⟩⟩,h⟩
theorem aCZ {te:TI} {z:Value} (hzr:∀ g,Rzs g te.zero z.cells.toList) (hone:∀ c,c∈te.zero→c.one=true) (k:Nat) :
  ∃ J:List A,J.length=k * te.zero.length∧(∀ c,c∈J→c.one=true)∧∀ g,Rzs g J (Builtin.zeroCells z.cells k).toList:=by
 have hl:∀ g,z.cells.size=te.zero.length:=fun g=>by simpa using (hzr g).1
 refine ⟨(List.range (k * te.zero.length)).map (fun i=>te.zero[i % te.zero.length]!),by simp,fun c hc=>?_,fun g=>⟨by simp[Builtin.zeroCells,hl g],fun j c v hc hv=>?_⟩⟩
 ·simp only[cO,pD] at hc;obtain ⟨i,hi,rfl⟩:=hc;have h0:0<te.zero.length:=Nat.pos_of_ne_zero (by rintro h;rw[h] at hi;simp at hi);have hm:i % te.zero.length<te.zero.length:=Nat.mod_lt _ h0;rw[getElem!_pos te.zero _ hm];exact hone _ (iT hm)
 ·rw[nM] at hc;simp only[Builtin.zeroCells,Array.toList_map,Array.toList_range,nM,hl g] at hv;cases hr:(List.range (k * te.zero.length))[j]? with
  | none=>rw[hr] at hc;cases hc
  | some i =>
   rw[hr] at hc hv;simp only[kG,aP] at hc hv;have hj:=dH.1 hr;obtain ⟨hj1,hj2⟩:=hj;simp only[List.length_range] at hj1;simp only[List.getElem_range] at hj2;subst hj2;have h0:0<te.zero.length:=Nat.pos_of_ne_zero (by rintro h;rw[h] at hj1;simp at hj1);have hm:j % te.zero.length<te.zero.length:=Nat.mod_lt _ h0;have hm':j % te.zero.length<z.cells.size:=by rw[hl g];exact hm
   rw[getElem!_pos te.zero _ hm] at hc;rw[getElem!_pos z.cells _ hm'] at hv;refine (hzr g).2 (j % te.zero.length) c v (by rw[bK hm,hc]) ?_;rw[← hv];simp[hm']
theorem aBv {KV Kp:St→A→Prop} (hR:R C.toCtx F g s w) (hd:C.det=false) {e:TypeId} {n cap:Nat} {cs J:List A} {xs rest:List Value} (hxs:Rzs g cs xs) (hJ:Rzs g J rest)
  (h1:∀ c,c∈cs→c.one=true) (h2:∀ c,c∈J→c.one=true) (hn:n≤cap) (hm:cap≤maxLen) (h:∀ b,s.getO b=none→KV (s.setO b (.cells e (cs++J))) (.mg b n cap)) :
  OutV C F g KV Kp (.ok (.value (.slice (some ⟨w.heap.size,0,none⟩) n cap)) (w.drew.alloc (.cells (xs++rest).toArray e))):=by
 obtain ⟨b,hb⟩:=hR.some_free;have hR':R C.toCtx F g s w.drew:=hR.heap rfl;have hK:=h b (hR.free hb)
 have hall:ObRz g (.cells e (cs++J)) (some (.cells (xs++rest).toArray e)):=⟨xs++rest,[],by simp,hxs.append hJ,fun c hc=>by
  rcases gX.1 hc with hc|hc
  ·exact h1 c hc
  ·exact h2 c hc⟩
 refine ⟨_,_,_,tR hb _,hR'.newObj hall hb (s':=s.setO b (.cells e (cs++J))) (fun q=>aE s b _ q) (fun q=>rfl) rfl (by rw[hd];simp),?_,hK⟩;exact .mg b n cap _ (by simp[Gh.bx]) hn hm
theorem rP (bs:List UInt8):(cS bs).length=bs.length:=by simp[cS]
theorem xX (bs:List UInt8):∀ y,y∈cS bs→y.cells.length=1:=by
 intro y hy;simp only[cS,cO] at hy;obtain ⟨c,_,rfl⟩:=hy;rfl
theorem aBC (bs:List UInt8):∀ y,y∈cS bs→∀ c,c∈y.cells→c.one=true:=by
 intro y hy c hc;simp only[cS,cO] at hy;obtain ⟨x,_,rfl⟩:=hy;simp only[A.cells,cY] at hc;subst hc;rfl
theorem aD8 (bs:List UInt8):cW (cS bs)=cS bs:=by
 induction bs with
 | nil=>rfl
 | cons c r ih=>simp only[cS,bU,cW,sW] at *;rw[ih];rfl
theorem aJY (g:Gh) (bs:List UInt8):Rzs g (cS bs) (Lib.strCells ⟨bs.toArray⟩):=by
 refine ⟨by simp[cS,Lib.strCells],fun j c v hc hv=>?_⟩;simp only[cS,nM] at hc;simp only[Lib.strCells,nM] at hv;cases hb:bs[j]? with
 | none=>rw[hb] at hc;cases hc
 | some x =>
  rw[hb] at hc hv;simp only[kG,aP] at hc hv;subst hc hv;exact .int _ _
theorem aLT {ti:TI} {t u e:TypeId} (hti:C.tt t=some ti) (h:rC C ti u=some e):C.P.underlying t=some (.slice e)∧C.P.underlying u=some .string∧∃ te,C.tt e=some te∧te.sz=1∧te.bytes=1:=by
 unfold rC at h;split at h
 ·rename_i e0 hk;split at h
  ·rename_i tu te htu hte;split at h
   ·rename_i hku;split at h
    ·rename_i hke;split at h
     ·rename_i hc;cases h;obtain ⟨d,hd,hok⟩:=fH hti;rw[hk] at hok;simp only[TK.ok] at hok;subst hok;obtain ⟨d2,hd2,hok2⟩:=fH htu;rw[hku] at hok2;simp only[TK.ok] at hok2;subst hok2;exact ⟨hd,hd2,te,hte,hc⟩
     ·cases h
    ·cases h
   ·cases h
  ·cases h
 ·cases h
theorem aJW (hR:R C.toCtx F g s w) {KV:St→A→Prop} {n:Nat} {e:TypeId} (h:sN C s n e KV) :
  ∃ N s',(∀ m,g.eta N m=none)∧s.getT N=none∧(∀ q,s'.getO q=s.getO q)∧(∀ q,s'.getT q=if N=q then some (0,e) else s.getT q)∧oA C s s' N ∧
   KV s' (.gr N n):=by
 unfold sN at h;cases hd:C.det with
 | false =>
  rw[hd] at h;obtain ⟨N,hN⟩:=hR.fsh;obtain ⟨n1,n2,_⟩:=hN N (bG _);exact ⟨N,s.setT N (0,e),n2,n1,fun q=>rfl,fun q=>bT s N (0,e) q,⟨rfl,fun hh=>by rw[hd] at hh;cases hh⟩,h N n1⟩
 | true =>
  rw[hd] at h;have hb:=(hR.dtm hd s.lim (bG _)).2;exact ⟨s.lim,s.newT (0,e),hb,hR.freeT hb,fun q=>rfl,fun q=>xV s (0,e) q,⟨rfl,fun _=>⟨Nat.le_succ _,fK _⟩⟩,h⟩
theorem aMK {KV Kp:St→A→Prop} {ty:TypeId} {x y:Operand} {t u e:TypeId} {bs:List UInt8} {a:A} {ti:TI} {dst:Option Tmp} {pos:String} {after:Array Edge} {gd:Option (Nat × Bool)}
  (hR:R C.toCtx F g s w) (he:∀ x a,ρ x=some a→Rz g a (ev x)) (hx:ρ x=some a) (hy:ρ y=some (.str bs)) (hti:C.tt t=some ti) (hE:rC C ti u=some e) (h:rE C s e bs KV a) :
  OutV C F g KV Kp ((execOp ev ⟨dst,.call ⟨.builtin .append,#[x,y],#[t,u]⟩,ty,pos,after,gd⟩).run C.P w):=by
 obtain ⟨hd,hdu,te,hte,hsz,hby⟩:=aLT hti hE;obtain ⟨i,z,hi,his,hib,hiz,hzr⟩:=(C.htt e te hte).info
 have hexec:(execOp ev ⟨dst,.call ⟨.builtin .append,#[x,y],#[t,u]⟩,ty,pos,after,gd⟩).run C.P w =
   ((Builtin.append_ #[t,u] ty #[ev x,ev y]).run C.P w).andThen fun v w'=>.ok (.value v) w':=by
  simp only[execOp,resolve,invoke,builtin,aV,bC,aW,iD,bU,bD]
 have hszC:C.toCtx.sz e=te.sz:=qS hte;have hyv:=(he y _ hy).str_inv;have hbl:(ByteArray.mk bs.toArray).size=bs.length:=by simp[ByteArray.size]
 have hsl:(Lib.strCells ⟨bs.toArray⟩).length=bs.length:=by simp[Lib.strCells]
 have hzs:z.cells.size=1:=by
  have h1:=(hzr g).1;rw[(C.htt e te hte).len,hsz] at h1;simpa using h1
 have hcapz:∀ (n cap:Nat),n≤cap→(Builtin.zeroCells z.cells (cap-n)).toList.length+n=cap:=by
  intro n cap h;simp only[lP,xU,hzs];omega
 have hflat:Rzs g (cW (cS bs)) (Lib.strCells ⟨bs.toArray⟩):=by rw[aD8];exact aJY g bs
 cases a<;>simp only[rE] at h
 case nils =>
  obtain ⟨hlim,h⟩:=h;have hxv:=(he x _ hx).nils_inv;obtain ⟨N,s',m1,m2,m3,m4,m5,m6⟩:=yN hR h;by_cases h0:bs=[]
  ·subst h0
   have hrun:(Builtin.append_ #[t,u] ty #[.slice none 0 0,.string ⟨([]:List UInt8).toArray⟩]).run C.P w=.ok (.slice none 0 0) w:=by
    have hs:(ByteArray.mk ([]:List UInt8).toArray).size=0:=rfl;simp[Builtin.append_,cI hd,cI hdu,sizeOf,typeInfo,hi,Builtin.lenOf,hs,Builtin.firstCells]
   rw[hexec,hxv,hyv,hrun];obtain ⟨g',h2,h3,h4⟩:=hR.tokNil e m1 m3 m4 m5;exact ⟨g',_,_,h2,h4,.list0 (some N) none 0 (bS _) (fun t' ht'=>by cases ht';exact h3),m6⟩
  ·have hpos:0<bs.length:=by cases bs with|nil=>exact absurd rfl h0|cons=>simp
   have hrun:=run_append_nil_string (P:=C.P) w t u ty e i z hd hdu hi hiz ⟨bs.toArray⟩ (by rw[hbl];exact hpos) (by rw[hbl];omega) (by rw[hbl,hib,hby];omega);rw[hbl] at hrun;have hgb:=nN w bs.length 0 e (by omega);rw[hexec,hxv,hyv,hrun]
   rw[show (Array.map (fun b:UInt8=>Value.int IntKind.u8 (b.toNat:Int)) (ByteArray.mk bs.toArray).data++Builtin.zeroCells z.cells (grownCap w bs.length 0 e-bs.length)) =
    (Lib.strCells ⟨bs.toArray⟩++(Builtin.zeroCells z.cells (grownCap w bs.length 0 e-bs.length)).toList).toArray by apply Array.ext';simp[Lib.strCells]]
   have hlb:=rP bs
   have:=rS (KV:=KV) (Kp:=Kp) hR (t:=N) hte (es:=cS bs) (xs:=Lib.strCells ⟨bs.toArray⟩) (cap:=grownCap w bs.length 0 e) (rest:=(Builtin.zeroCells z.cells (grownCap w bs.length 0 e-bs.length)).toList)
    (fun y hy=>by rw[hsz];exact xX bs y hy) (aBC bs) hflat (by rw[hlb];exact hgb.1) hgb.2 (by rw[aK,hsl,hsz,Nat.mul_one];have:=hcapz _ _ hgb.1;omega)
    m3 (by rw[hlb];exact m4) m5 (.inl m2) (fun m x hx=>by rw[m1] at hx;cases hx) m6
   rw[hlb] at this;exact this
 case list tk es =>
  cases tk with
  | none=>exact h.elim
  | some t0 =>
  obtain ⟨⟨h1,h2,h3⟩,hK⟩:=h;obtain ⟨ax,capx,hxv,hmx,hcx,htk,hxr⟩:=(he x _ hx).list_inv;obtain ⟨v,xs,e1,hown,hmax,hblk⟩:=hR.tok t0 es.length e h1;have hvx:v=ev x:=by have:=htk t0 rfl;rw[e1] at this;exact rL this
  subst hvx;rw[hszC,hsz] at hown;have hlb:=rP bs;have hlen:(es++cS bs).length=es.length+bs.length:=by simp[hlb]
  have hdt:oA C s (s.setT t0 (es.length+bs.length,e)) t0:=⟨rfl,fun hd=>⟨bG _,Nat.lt_of_not_le fun hle=>by
   have:=(hR.dtm hd t0 hle).2 es.length;rw[this] at e1;cases e1⟩⟩
  by_cases h0:bs=[]
  ·subst h0
   have hrun:(Builtin.append_ #[t,u] ty #[.slice ax es.length capx,.string ⟨([]:List UInt8).toArray⟩]).run C.P w=.ok (.slice ax es.length capx) w:=by
    have hs:(ByteArray.mk ([]:List UInt8).toArray).size=0:=rfl;have hst:∀ ad:Addr,(storeCells ad []).run C.P w=.ok () w:=fun ad=>rfl
    cases ax<;>simp[Builtin.append_,cI hd,cI hdu,sizeOf,typeInfo,hi,Builtin.lenOf,hs,Builtin.firstCells,hcx,hst]
   rw[hexec,hxv,hyv,hrun];have hx':=he x _ hx;rw[hxv] at hx';refine ⟨g,.list (some t0) es,_,dX g,hR.weaken (s':=s.setT t0 (es.length,e)) ⟨fun b o ho=>ho,fun k n hn=>?_,fun _ h=>h⟩ (fun _=>bG _),hx',by simpa [cS] using hK⟩;rw[bT] at hn;by_cases htk:t0=k
   ·subst htk;simp only[↓reduceIte] at hn;rw[h1];exact hn
   ·simpa only[htk,↓reduceIte] using hn
  ·have hpos:0<bs.length:=by cases bs with|nil=>exact absurd rfl h0|cons=>simp
   have hmax':∀ m x,g.eta t0 m=some x→m<(es++cS bs).length:=fun m x hx=>by have:=hmax m x hx;rw[hlen];omega
   have hone':∀ y,y∈es++cS bs→∀ c,c∈y.cells→c.one=true:=by
    intro q hq c hc;rcases gX.1 hq with hq|hq
    ·rcases hxr with rfl|⟨b,off,sz,pre,_,_,_,_,ho,_⟩
     ·cases hq
     ·exact ho q hq c hc
    ·exact aBC bs q hq c hc
   have hes':∀ y,y∈es++cS bs→y.cells.length=te.sz:=by
    intro q hq;rw[hsz];rcases gX.1 hq with hq|hq
    ·exact h2 q hq
    ·exact xX bs q hq
   have hxsR:Rzs g (cW es) xs:=by
    obtain ⟨a',cap',q1,_,_,q2⟩:=(he x _ hx).to_flat;rcases q2 with rfl|⟨b',off',sz',pre',q3,q4,q5,q6,q7,q8⟩
    ·have:xs=[]:=eJ (by simpa using hown.1);rw[this];exact .nil g
    ·by_cases hes0:es=[]
     ·subst hes0;have:xs=[]:=eJ (by simpa using hown.1);rw[this];exact .nil g
     ·have hp0:0<es.length:=by cases es with|nil=>exact absurd rfl hes0|cons=>simp
      have hsz':sz'=1:=by rw[← q6 _ (iT hp0),h2 _ (iT hp0)]
      subst q3;rcases hown.2 with ⟨hn,h0⟩|⟨g0,cap0,cur0,hv0,_⟩
      ·omega
      ·have hb0:=hblk g0 (by rw[hv0];rfl);rw[hv0] at q1;simp only[nL,aP,pE,lC,fM] at q1;obtain ⟨⟨rfl,rfl⟩,rfl⟩:=q1;rw[hb0.1] at q4;cases q4;rw[hsz',sX,gW (by rw[hown.1];exact bG _)] at q8;exact q8
   have hall:Rzs g (cW (es++cS bs)) (xs++Lib.strCells ⟨bs.toArray⟩):=by rw[aEi];exact hxsR.append hflat
   rcases hown.2 with ⟨hn,h0'⟩|⟨g0,cap0,cur0,hv0,_,hh0,hnc,hcm,hcs,htake⟩
   ·have hes0:es=[]:=eJ h0';have hrun:=run_append_nil_string (P:=C.P) w t u ty e i z hd hdu hi hiz ⟨bs.toArray⟩ (by rw[hbl];exact hpos) (by rw[hbl];omega) (by rw[hbl,hib,hby];omega);rw[hbl] at hrun;have hgb:=nN w bs.length 0 e (by omega);rw[hexec,hn,hyv,hrun]
    rw[show (Array.map (fun b:UInt8=>Value.int IntKind.u8 (b.toNat:Int)) (ByteArray.mk bs.toArray).data++Builtin.zeroCells z.cells (grownCap w bs.length 0 e-bs.length)) =
     (Lib.strCells ⟨bs.toArray⟩++(Builtin.zeroCells z.cells (grownCap w bs.length 0 e-bs.length)).toList).toArray by apply Array.ext';simp[Lib.strCells]]
    have:=rS (KV:=KV) (Kp:=Kp) hR (t:=t0) hte (es:=cS bs) (xs:=Lib.strCells ⟨bs.toArray⟩) (cap:=grownCap w bs.length 0 e) (rest:=(Builtin.zeroCells z.cells (grownCap w bs.length 0 e-bs.length)).toList)
     (fun y hy=>by rw[hsz];exact xX bs y hy) (aBC bs) hflat (by rw[hlb];exact hgb.1) hgb.2 (by rw[aK,hsl,hsz,Nat.mul_one];have:=hcapz _ _ hgb.1;omega)
     (s':=s.setT t0 (es.length+bs.length,e)) (fun q=>rfl) (fun q=>by rw[bT];simp[hes0,hlb]) hdt (.inr ⟨_,h1⟩) (by simpa [hes0] using hmax') (by simpa [hes0] using hK)
    rw[hlb] at this;exact this
   ·by_cases hroom:es.length+bs.length≤cap0
    ·have hcs':cur0.size=cap0:=by rw[hcs,Nat.mul_one]
     have hrun:=Lib.run_append_room_string (P:=C.P) w t u ty e i hd hdu hi (by rw[his,hsz]) g0 es.length cap0 cur0 hh0 ⟨bs.toArray⟩ (by rw[hbl];exact hroom) (by rw[hbl];omega);rw[hbl] at hrun;rw[hexec,hv0,hyv,hrun]
     have hrow:(w.setRow g0 (cur0.toList.take es.length++Lib.strCells ⟨bs.toArray⟩++cur0.toList.drop (es.length+bs.length)).toArray).ownsRow 0 e (C.toCtx.sz e) (.slice (some ⟨g0,0,none⟩) (es.length+bs.length) cap0) (es.length+bs.length) (xs++Lib.strCells ⟨bs.toArray⟩):=by
      rw[hszC,hsz];refine ⟨by rw[aK,hown.1,hsl];omega,.inr ⟨g0,cap0,_,rfl,bS _,sY hh0 _,hroom,hcm,?_,?_⟩⟩
      ·simp only[List.size_toArray,aK,eL,cH,lP,hsl];omega
      ·rw[Nat.mul_one] at htake ⊢;rw[htake];have:es.length+bs.length=(xs++Lib.strCells ⟨bs.toArray⟩).length:=by rw[aK,hown.1,hsl];omega
       rw[this];simp only[cQ];rw[← cQ];exact List.take_left
     have hb0:=hblk g0 (by rw[hv0];rfl);obtain ⟨r1,r2⟩:=hR.tokStep (t:=t0) (b:=g0) (fun k hk hne=>tG hne _) hrow rfl (by rw[← hlen];exact hmax') (s':=s.setT t0 (es.length+bs.length,e)) (fun q=>rfl) (fun q=>bT _ _ _ q) hdt (.inr ⟨es.length,ev x,xs,Lib.strCells ⟨bs.toArray⟩,h1,e1,by rw[hv0];rfl,hb0.1,rfl⟩);refine ⟨_,.list (some t0) (es++cS bs),_,r2,r1,?_,hK⟩;rw[← hlen];refine rR (off:=0) (sz:=te.sz) (vs:=xs++Lib.strCells ⟨bs.toArray⟩) (pre:=xs++Lib.strCells ⟨bs.toArray⟩) (by rw[hlen];exact tN _ _ _ _ _ _) (by simp) ?_ hes' hone' (by rw[hlen];exact hroom) hcm (bS _) (fun t' ht'=>by cases ht';rw[hlen];exact rQ _ _ _ _ _ _);rw[gW (by rw[aK,hown.1,hsl,hlen,hsz];omega)];rw[hlen] at *;exact hall.mono r2
    ·have hcell:∀ j u,xs[j]?=some u→w.cell? ((⟨g0,0,none⟩:Addr).add j)=some u:=by
      intro j u hj;rw[iL];simp only[World.cell?,hh0,Option.isSome_none,bR,↓reduceIte,fF];rw[← htake,kY] at hj;split at hj
      ·simpa using hj
      ·simp at hj
     have hrun:=Lib.run_append_grow_string (P:=C.P) w t u ty e i z hd hdu hi hiz ⟨g0,0,none⟩ es.length cap0 xs (by rw[hown.1,his,hsz]) hcell ⟨bs.toArray⟩ (by rw[hbl];omega) (by rw[hbl];omega)
      (growslice_fits (by rw[hbl];omega) (by rw[hbl,hib,hby];omega))
     rw[hbl] at hrun;have hgb:=nN w (es.length+bs.length) cap0 e (by omega);rw[hexec,hv0,hyv,hrun,zE]
     have:=rS (KV:=KV) (Kp:=Kp) hR (t:=t0) hte (es:=es++cS bs) (xs:=xs++Lib.strCells ⟨bs.toArray⟩) (cap:=grownCap w (es.length+bs.length) cap0 e) (rest:=(Builtin.zeroCells z.cells (grownCap w (es.length+bs.length) cap0 e-(es.length+bs.length))).toList) hes' hone' hall (by rw[hlen];exact hgb.1) hgb.2
      (by rw[aK,aK,hsl,hown.1,hsz];have:=hcapz _ _ hgb.1;omega) (s':=s.setT t0 (es.length+bs.length,e)) (fun q=>rfl) (fun q=>by rw[bT,hlen]) hdt (.inr ⟨_,h1⟩) hmax' hK
     rw[hlen] at this;exact this
theorem aH7 (P:Program) (w:World) (t u ty e:TypeId) (k:IntKind) (i:TypeInfo) (z:Value) (ht:P.underlying t=some (.slice e)) (hu:P.underlying u=some (.int k)) (hi:P.info? e=some i) (hz:i.zero=some z)
  (hs:i.size≠0) (n:Nat) (h0:0<n) (hn:n≤65536) (hb:n * i.bytes≤281474976710656) :
  (Builtin.append_ #[t,u] ty #[.slice none 0 0,.int .i64 n]).run P w = .ok (.slice (some ⟨w.heap.size,0,none⟩) n (grownCap w n 0 e))
   (w.drew.alloc (.cells (Builtin.zeroCells z.cells n++Builtin.zeroCells z.cells (grownCap w n 0 e-n)) e)):=by
 have hw:IntKind.i64.wrap (n:Int)=n:=IntWalk.i64_in _ ⟨by omega,by omega⟩;have h1:¬ ((n:Int)<0):=by omega
 have h2:¬ ((281474976710656:Int)<(n:Int) * (i.bytes:Int)):=by
  have:((n * i.bytes:Nat):Int)≤281474976710656:=by omega
  rw[Int.natCast_mul] at this;omega
 have h3:n≠0:=by omega
 have h63':¬ (9223372036854775807<(n:Int)):=by omega
 have h48':¬ (281474976710656<Builtin.nextslicecap n 0 * i.bytes):=by rw[nextslicecap_zero h0];omega
 have h4:¬ (n * i.size=0):=by
  intro h;rcases Nat.mul_eq_zero.1 h with h|h
  ·exact h3 h
  ·exact hs h
 simp[Builtin.append_,cI ht,cI hu,sizeOf,typeInfo,zeroValue,hi,hz,hw,h1,h2,h3,hs,h63',h48',Builtin.firstCells,Question.forced,newRow,grownCap,asInt,asIntOf];intro h;exact absurd h h4
theorem aM7 {KV Kp:St→A→Prop} {ty:TypeId} {x y:Operand} {t u:TypeId} {n:Int} {a:A} {ti:TI} {dst:Option Tmp} {pos:String} {after:Array Edge} {gd:Option (Nat × Bool)}
  (hR:R C.toCtx F g s w) (he:∀ x a,ρ x=some a→Rz g a (ev x)) (hx:ρ x=some a) (hy:ρ y=some (.int .i64 n)) (hti:C.tt t=some ti) (h:qY C s ti u n KV a) :
  OutV C F g KV Kp ((execOp ev ⟨dst,.call ⟨.builtin .append,#[x,y],#[t,u]⟩,ty,pos,after,gd⟩).run C.P w):=by
 cases a<;>simp only[qY] at h
 split at h
 ·rename_i e hk;split at h
  ·rename_i te tu hte htu;split at h
   ·rename_i k hku;obtain ⟨⟨h0,h1,h2,h3⟩,h⟩:=h;obtain ⟨d,hd,hok⟩:=fH hti;rw[hk] at hok;simp only[TK.ok] at hok;subst hok;obtain ⟨d2,hd2,hok2⟩:=fH htu;rw[hku] at hok2;simp only[TK.ok] at hok2;subst hok2;obtain ⟨i,z,hi,his,hib,hiz,hzr⟩:=(C.htt e te hte).info
    have hzs:z.cells.size=te.sz:=by
     have h1:=(hzr g).1;rw[(C.htt e te hte).len] at h1;simpa using h1
    have hn:n=(n.toNat:Int):=by omega
    have hyv:=(he y _ hy).int_inv;have hxv:=(he x _ hx).nils_inv
    have hexec:(execOp ev ⟨dst,.call ⟨.builtin .append,#[x,y],#[t,u]⟩,ty,pos,after,gd⟩).run C.P w =
      ((Builtin.append_ #[t,u] ty #[ev x,ev y]).run C.P w).andThen fun v w'=>.ok (.value v) w':=by
     simp only[execOp,resolve,invoke,builtin,aV,bC,aW,iD,bU,bD]
    have hrun:=aH7 C.P w t u ty e k i z hd hd2 hi hiz (by rw[his];exact h2) n.toNat (by omega) (by omega)
     (by rw[hib];have:n.toNat * te.bytes≤65536 * 32768:=Nat.mul_le_mul (by omega) h3;omega)
    rw[← hn] at hrun;have hgb:=nN w n.toNat 0 e (by omega);obtain ⟨N,s',m1,m2,m3,m4,m5,m6⟩:=aJW hR h;rw[hexec,hxv,hyv,hrun]
    have hrow:(w.drew.alloc (.cells (Builtin.zeroCells z.cells n.toNat++Builtin.zeroCells z.cells (grownCap w n.toNat 0 e-n.toNat)) e)).ownsRow 0 e (C.toCtx.sz e) (.slice (some ⟨w.heap.size,0,none⟩) 0 (grownCap w n.toNat 0 e)) 0 []:=by
     rw[qS hte];refine ⟨by simp,.inr ⟨w.heap.size,_,_,rfl,bS _,rM w.drew _,bS _,hgb.2,?_,by simp⟩⟩;simp only[Array.size_append,xU,hzs,← eH];congr 1;omega
    obtain ⟨r1,r2⟩:=hR.tokStep (t:=N) (n:=0) (b:=w.heap.size) (w':=w.drew.alloc (.cells (Builtin.zeroCells z.cells n.toNat++Builtin.zeroCells z.cells (grownCap w n.toNat 0 e-n.toNat)) e))
     (fun k hk _=>qF w.drew _ hk) hrow rfl (fun m x hx=>by rw[m1] at hx;cases hx) m3 m4 m5 (.inl ⟨rfl,.inl m2⟩)
    exact ⟨_,_,_,r2,r1,.gr N _ _ _ (rQ _ _ _ _ _ _) hgb.1 hgb.2,m6⟩
   ·exact h.elim
  ·exact h.elim
 ·exact h.elim
theorem R.freeze (hR:R C.toCtx F g s w) {t n b:Nat} {e:TypeId} {v:Value} (ht:s.getT t=some (n,e)) (hv:g.eta t n=some v) (hb:v.ownBlock=some b) (m:Nat) :
  R C.toCtx F g (s.delT t) (w.freeze ⟨b,0,none⟩ m):=by
 by_cases hm0:m=0
 ·subst hm0;have:w.freeze ⟨b,0,none⟩ 0=w:=by simp[World.freeze]
  rw[this];refine hR.weaken ⟨fun b o ho=>ho,fun k x hx=>?_,fun _ h=>h⟩ (fun _=>bG _);rw[mN] at hx;split at hx
  ·cases hx
  ·exact hx
 obtain ⟨v',xs,e1,hown,hmax,hblk⟩:=hR.tok t n e ht;rw[hv] at e1;cases e1;obtain ⟨hpi,hF⟩:=hblk b hb
 have hk:∀ k,k≠b→(w.freeze ⟨b,0,none⟩ m).heap[k]?=w.heap[k]?:=by
  intro k hk;have:¬ b=k:=fun e=>hk e.symm
  simp[World.freeze,hm0,Array.getElem?_modify,this]
 have hsz:(w.freeze ⟨b,0,none⟩ m).heap.size=w.heap.size:=by simp[World.freeze,hm0]
 refine ⟨fun c o ho=>?_,fun t' n' e' ht'=>?_,fun t1 t2 n1 n2 v1 v2 k hne h1 h2=>?_,fun k pre hp=>?_,fun k o ho=>?_,hR.glb,?_,?_,hR.inj,?_,hR.lst,hR.bfr,(by simp[World.freeze,hm0,← hR.env])⟩
 ·obtain ⟨k,h0,h1,h2,h3⟩:=hR.obj c o ho;have:k≠b:=by rintro rfl;rw[hpi] at h2;cases h2
  exact ⟨k,h0,by rw[hk k this];exact h1,h2,h3⟩
 ·rw[mN] at ht';split at ht'
  ·cases ht'
  ·rename_i hne;obtain ⟨v2,xs2,h1,h2,h3,h4⟩:=hR.tok t' n' e' ht';refine ⟨v2,xs2,h1,⟨h2.1,?_⟩,h3,h4⟩;rcases h2.2 with h5|⟨k,cap,cur,h5,h6,hh,rest⟩
   ·exact .inl h5
   ·refine .inr ⟨k,cap,cur,h5,h6,?_,rest⟩
    have:k≠b:=by
     rintro rfl;exact hR.sep t' t (n',e') (n,e) v2 v k hne ht' ht h1 hv (by rw[h5];rfl) hb
    rw[hk k this];exact hh
 ·rw[mN] at h1 h2;split at h1
  ·cases h1
  ·split at h2
   ·cases h2
   ·exact hR.sep t1 t2 n1 n2 v1 v2 k hne h1 h2
 ·obtain ⟨rest,e2,fr,hx⟩:=hR.pis k pre hp;by_cases hkb:k=b
  ·subst hkb;obtain ⟨lo,hi⟩:=fr;refine ⟨rest,e2,(if lo == hi then (0,0+m) else (min lo 0,max hi (0+m))),?_⟩;simp[World.freeze,hm0,Array.getElem?_modify,hx]
  ·exact ⟨rest,e2,fr,by rw[hk k hkb];exact hx⟩
 ·have:k≠b:=by rintro rfl;rw[hF] at ho;cases ho
  exact ⟨by rw[hk k this];exact (hR.frm k o ho).1,(hR.frm k o ho).2⟩
 ·obtain ⟨N,hN⟩:=hR.fsh;refine ⟨N,fun u hu=>⟨?_,(hN u hu).2⟩⟩;rw[mN];split
  ·rfl
  ·exact (hN u hu).1
 ·intro c k hc;rw[hsz];exact hR.bet c k hc
 ·exact hR.dtm
theorem aMT {KV Kp:St→A→Prop} {ty:TypeId} {x y:Operand} {t u:TypeId} {dst:Option Tmp} {pos:String} {after:Array Edge} {gd:Option (Nat × Bool)}
  (hR:R C.toCtx F g s w) (he:∀ x a,ρ x=some a→Rz g a (ev x)) (h:aJ C (.call ⟨.builtin .unsafeString,#[x,y],#[t,u]⟩) ρ KV Kp s) :
  OutV C F g KV Kp ((execOp ev ⟨dst,.call ⟨.builtin .unsafeString,#[x,y],#[t,u]⟩,ty,pos,after,gd⟩).run C.P w):=by
 have hexec:(execOp ev ⟨dst,.call ⟨.builtin .unsafeString,#[x,y],#[t,u]⟩,ty,pos,after,gd⟩).run C.P w =
   ((Builtin.unsafeString_ #[t,u] ty #[ev x,ev y]).run C.P w).andThen fun v w'=>.ok (.value v) w':=by
  simp only[execOp,resolve,invoke,builtin,aV,bC,aW,iD,bU,bD]
 simp only[aJ] at h;split at h
 ·rename_i n hx hy;obtain ⟨rfl,hK⟩:=h;rw[hexec,(he x _ hx).nilp_inv,(he y _ hy).int_inv,Lib.run_unsafeString_none];exact ⟨g,.str [],s,dX g,hR,.str [],hK⟩
 ·rename_i t0 es n hx hy;split at h
  ·rename_i e hus;obtain ⟨⟨rfl,ht⟩,bs,rfl,hK⟩:=h;obtain ⟨hp,hc⟩:=C.hus _ _ hus;obtain ⟨a,cap,hv,hc0,hr⟩:=(he x _ hx).sd_inv;obtain ⟨ad,cap',e1,hm,hcl,htk,hh⟩:=hr.list_inv;obtain ⟨v,xs,e2,hown,hmax,hblk⟩:=hR.tok t0 _ e ht;have e3:=htk t0 rfl;rw[e2] at e3;cases e3;have hbl:=rP bs;rw[hexec,hv,(he y _ hy).int_inv];by_cases h0:bs=[]
   ·subst h0;have e5:((cS ([]:List UInt8)).length:Int)=0:=rfl;rw[e5,Lib.run_unsafeString_none];have hw:w.freeze ⟨a.block,0,none⟩ 0=w:=by simp[World.freeze]
    have:=hR.freeze (b:=a.block) ht e2 rfl 0;rw[hw] at this;exact ⟨g,.str [],s.delT t0,dX g,this,.str [],hK⟩
   ·have hpos:0<bs.length:=by cases bs with|nil=>exact absurd rfl h0|cons=>simp
    rcases hown.2 with ⟨hn,_⟩|⟨g0,cap0,cur0,hv0,_,hh0,hnc,hcm,hcs,htake⟩
    ·cases hn
    simp only[nL,aP] at hv0;obtain ⟨rfl,_,rfl⟩:=hv0;have hsz1:C.toCtx.sz e=1:=hc;rw[hsz1,Nat.mul_one] at hcs htake;have hpi:=(hblk g0 rfl).1
    have hxs:Rzs g (cS bs) xs:=by
     obtain ⟨a',cap2,q1,_,_,q2⟩:=hr.to_flat;rcases q2 with q2|⟨b',off',sz',pre',q3,q4,q5,q6,q7,q8⟩
     ·exact absurd (List.map_eq_nil_iff.1 q2) h0
     ·subst q3;simp only[nL,aP,pE,lC,fM] at q1;obtain ⟨⟨rfl,rfl⟩,rfl⟩:=q1;rw[hpi] at q4;cases q4;have hp0:0<(cS bs).length:=by rw[hbl];exact hpos
      have hsz':sz'=1:=by rw[← q6 _ (iT hp0),xX bs _ (iT hp0)]
      rw[hsz',sX,gW (by rw[hown.1,hsz1];exact bG _),aD8] at q8;exact q8
    have hcell:∀ j x,bs[j]?=some x→w.cell? ((⟨g0,0,none⟩:Addr).add j)=some (.int .u8 x.toNat):=by
     intro j x hj;have hj':(cS bs)[j]?=some (.int .u8 x.toNat):=by simp[cS,hj]
     obtain ⟨u',hu1,hu2⟩:=hxs.get hj';rw[hu2.int_inv] at hu1;rw[iL];simp only[World.cell?,hh0,Option.isSome_none,bR,↓reduceIte,fF];rw[← htake,kY] at hu1;split at hu1
     ·simpa using hu1
     ·cases hu1
    have hrun:=Lib.run_unsafeString_row (P:=C.P) w t u ty e hp hc g0 cur0.size (by simp[World.shape?,hh0]) bs h0 (by rw[hcs];omega) (by unfold maxLen at hcm;omega) hcell;rw[← hbl] at hrun;rw[hrun];exact ⟨g,.str bs,s.delT t0,dX g,hR.freeze ht e2 rfl _,.str bs,hK⟩
  ·exact h.elim
 ·exact h.elim
theorem aGB {KV Kp:St→A→Prop} {ty:TypeId} {x y:Operand} {t u:TypeId} {a:A} {ti:TI} {ad:Option Addr} {dst:Option Tmp} {pos:String} {after:Array Edge} {gd:Option (Nat × Bool)}
  (hR:R C.toCtx F g s w) (he:∀ x a,ρ x=some a→Rz g a (ev x)) (hx:ρ x=some a) (hy:ev y=.slice ad 0 0) (hti:C.tt t=some ti) (h:pN C s ti t u KV a) :
  OutV C F g KV Kp ((execOp ev ⟨dst,.call ⟨.builtin .append,#[x,y],#[t,u]⟩,ty,pos,after,gd⟩).run C.P w):=by
 have hexec:(execOp ev ⟨dst,.call ⟨.builtin .append,#[x,y],#[t,u]⟩,ty,pos,after,gd⟩).run C.P w =
   ((Builtin.append_ #[t,u] ty #[ev x,ev y]).run C.P w).andThen fun v w'=>.ok (.value v) w':=by
  simp only[execOp,resolve,invoke,builtin,aV,bC,aW,iD,bU,bD]
 unfold pN at h;split at h
 ·rename_i e hk;split at h
  ·rename_i te hte;obtain ⟨rfl,h⟩:=h;obtain ⟨d,hd,hok⟩:=fH hti;rw[hk] at hok;simp only[TK.ok] at hok;subst hok;obtain ⟨i,z,hi,his,hib,hiz,hzr⟩:=(C.htt e te hte).info
   have key:∀ (base:Option Addr) (n cap:Nat) (b:A),ev x=.slice base n cap→n≤cap→Rz g b (.slice base n cap)→KV s b →
     OutV C F g KV Kp ((execOp ev ⟨dst,.call ⟨.builtin .append,#[x,y],#[u,u]⟩,ty,pos,after,gd⟩).run C.P w):=by
    intro base n cap b h1 h2 h3 h4;rw[hexec,h1,hy,xT C.P w u u ty e i hd hd hi base ad n cap 0 h2];exact ⟨g,b,s,dX g,hR,h3,h4⟩
   have hr:=he x _ hx;split at h
   ·have hv:=hr.nils_inv;rw[hv] at hr;exact key none 0 0 _ hv (bG _) hr h
   ·obtain ⟨a,hv⟩:=hr.emp_inv;rw[hv] at hr;exact key (some a) 0 0 _ hv (bG _) hr h
   ·obtain ⟨a,cap,hv,_,hc,_⟩:=hr.list_inv;rw[hv] at hr;exact key a _ cap _ hv hc hr h
   ·obtain ⟨k,cap,hv,_,hc,_⟩:=hr.ml_inv;rw[hv] at hr;exact key _ _ cap _ hv hc hr h
   ·exact h.elim
  ·exact h.elim
 ·exact h.elim
theorem aEB {s1:St} (hR:R C.toCtx F g s1 w) {KV:St→A→Prop} {n sz:Nat} {e:TypeId} {ys:List A} (h:nY C s1 n e ys sz KV) :
  ∃ N s',(∀ m,g.eta N m=none)∧s1.getT N=none∧(∀ q,s'.getO q=s1.getO q)∧(∀ q,s'.getT q=if N=q then some (n,e) else s1.getT q)∧oA C s1 s' N ∧
   KV s' (.pen N ys sz):=by
 unfold nY at h;cases hd:C.det with
 | false =>
  rw[hd] at h;obtain ⟨N,hN⟩:=hR.fsh;obtain ⟨n1,n2,_⟩:=hN N (bG _);exact ⟨N,s1.setT N (n,e),n2,n1,fun q=>rfl,fun q=>bT s1 N (n,e) q,⟨rfl,fun hh=>by rw[hd] at hh;cases hh⟩,h N n1⟩
 | true =>
  rw[hd] at h;have hb:=(hR.dtm hd s1.lim (bG _)).2;exact ⟨s1.lim,s1.newT (n,e),hb,hR.freeT hb,fun q=>rfl,fun q=>xV s1 (n,e) q,⟨rfl,fun _=>⟨Nat.le_succ _,fK _⟩⟩,h⟩
theorem R.tokMove (h:R C.toCtx F g s w) {w':World} {k N n b:Nat} {e:TypeId} {v v':Value} {xs:List Value} (n2:∀ m,g.eta N m=none)
  (hk:∀ j,j≠b→w'.heap[j]?=w.heap[j]?) (ht:s.getT k=some (n,e)) (hv:g.eta k n=some v) (hb:v.ownBlock=some b) (hpx:g.pi b=some xs)
  (hrow:w'.ownsRow 0 e (C.toCtx.sz e) v' n xs) (hb':v'.ownBlock=some b)
  {s':St} (hO:∀ q,s'.getO q=s.getO q) (hT:∀ q,s'.getT q=if N=q then some (n,e) else if q=k then none else s.getT q) (hl:oA C s s' N) (he:(w'.os,w'.output)=(w.os,w.output):=by rfl) :
  ∃ g',g.le g'∧g'.eta N n=some v'∧g'.pi=g.pi∧R C.toCtx F g' s' w':=by
 have hF:F b=none:=by
  obtain ⟨v1,xs1,e1,_,_,h5⟩:=h.tok k n e ht;rw[hv] at e1;cases e1;exact (h5 b hb).2
 have hle:g.le { g with eta:=fun t' m=>if t'=N∧m=n then some v' else g.eta t' m } :=
  ⟨fun k pre hp => ⟨[],by simpa using hp⟩,fun t m x hx => by
   have:¬ (t=N∧m=n):=by rintro ⟨rfl,rfl⟩;rw[n2] at hx;cases hx
   simp only[this,↓reduceIte];exact hx,fun _ _ h=>h,rfl⟩
 have hsz:∀ j,j<w.heap.size→j<w'.heap.size:=by
  intro j hj;by_cases hjb:j=b
  ·subst hjb;rcases hrow.2 with ⟨rfl,_⟩|⟨j',cap,cur,hv2,_,hh,_⟩
   ·cases hb'
   ·rw[hv2] at hb';simp only[Value.ownBlock,aP] at hb';subst hb';exact (fP.1 hh).1
  ·have h2:=hk j hjb;rw[vO hj] at h2;exact (fP.1 h2).1
 refine ⟨_,hle,by simp,rfl,⟨?_,?_,?_,?_,?_,?_,?_,fun c j hc=>hsz j (h.bet c j hc),h.inj,?_,fun x hx=>(h.lst x (by rw[← hl.1];exact hx)).mono hle,h.bfr,he.trans h.env⟩⟩
 ·intro c o ho;rw[hO] at ho;obtain ⟨j,h0,h1,h2,h3⟩:=h.obj c o ho;have:j≠b:=by rintro rfl;rw[hpx] at h2;cases h2
  exact ⟨j,h0,by rw[hk j this];exact h1.mono hle,h2,h3⟩
 ·intro t' n' e' ht';rw[hT] at ht';by_cases htt:N=t'
  ·subst htt;simp only[↓reduceIte,aP,lR] at ht';obtain ⟨rfl,rfl⟩:=ht';refine ⟨v',xs,by simp,hrow,fun m x hx=>?_,fun j hj=>?_⟩
   ·by_cases hm:m=n
    ·omega
    ·simp only[hm,and_false,↓reduceIte] at hx;rw[n2] at hx;cases hx
   ·rw[hb'] at hj;cases hj;exact ⟨hpx,hF⟩
  ·have hne':¬ t'=N:=fun e=>htt e.symm
   simp only[htt,↓reduceIte] at ht';split at ht'
   ·cases ht'
   ·rename_i hne;obtain ⟨v2,xs2,h1,h2,h3,h4⟩:=h.tok t' n' e' ht';refine ⟨v2,xs2,?_,⟨h2.1,?_⟩,fun m x hx=>?_,h4⟩
    ·simp only[hne',mS,↓reduceIte];exact h1
    ·rcases h2.2 with h5|⟨j,cap,cur,h5,h6,hh,rest⟩
     ·exact .inl h5
     ·refine .inr ⟨j,cap,cur,h5,h6,?_,rest⟩
      have:j≠b:=by
       rintro rfl;exact h.sep t' k (n',e') (n,e) v2 v j hne ht' ht h1 hv (by rw[h5];rfl) hb
      rw[hk j this];exact hh
    ·simp only[hne',mS,↓reduceIte] at hx;exact h3 m x hx
 ·intro t1 t2 n1' n2' v1 v2 j hne h1 h2 e1 e2 o1 o2;rw[hT] at h1 h2;by_cases ht1:N=t1
  ·subst ht1;have ht2:¬ N=t2:=hne;have ht2':¬ t2=N:=fun e=>hne e.symm
   simp only[↓reduceIte,aP] at h1;subst h1;simp only[fM,↓reduceIte,aP] at e1;subst e1;simp only[ht2,↓reduceIte] at h2;simp only[ht2',mS,↓reduceIte] at e2;split at h2
   ·cases h2
   ·rename_i hne2;rw[hb'] at o1;cases o1;exact h.sep t2 k n2' (n,e) v2 v b hne2 h2 ht e2 hv o2 hb
  ·have ht1':¬ t1=N:=fun e=>ht1 e.symm
   simp only[ht1,↓reduceIte] at h1;simp only[ht1',mS,↓reduceIte] at e1;split at h1
   ·cases h1
   ·rename_i hne1;by_cases ht2:N=t2
    ·subst ht2;simp only[↓reduceIte,aP] at h2;subst h2;simp only[fM,↓reduceIte,aP] at e2;subst e2;rw[hb'] at o2;cases o2;exact h.sep t1 k n1' (n,e) v1 v b hne1 h1 ht e1 hv o1 hb
    ·have ht2':¬ t2=N:=fun e=>ht2 e.symm
     simp only[ht2,↓reduceIte] at h2;simp only[ht2',mS,↓reduceIte] at e2;split at h2
     ·cases h2
     ·exact h.sep t1 t2 n1' n2' v1 v2 j hne h1 h2 e1 e2 o1 o2
 ·intro j pre hp;by_cases hjb:j=b
  ·subst hjb;have hp':g.pi j=some pre:=hp;rw[hpx] at hp';cases hp';rcases hrow.2 with ⟨rfl,_⟩|⟨j',cap,cur,hv2,_,hh,_,_,_,htake⟩
   ·cases hb'
   ·rw[hv2] at hb';simp only[Value.ownBlock,aP] at hb';subst hb';refine ⟨cur.toList.drop (n * C.toCtx.sz e),e,(0,0),?_⟩;rw[hh,← htake];simp
  ·rw[hk j hjb];exact h.pis j pre hp
 ·intro j o ho;have hjb:j≠b:=by rintro rfl;rw[hF] at ho;cases ho
  rw[hk j hjb];exact h.frm j o ho
 ·intro j cs hc;obtain ⟨pre,ty,fr,hp,hl',h1,hr⟩:=h.glb j cs hc;exact ⟨pre,ty,fr,hp,hl',h1,fun j c v hc hv=>(hr j c v hc hv).mono hle⟩
 ·obtain ⟨M,hM⟩:=h.fsh;refine ⟨max M (N+1),fun t' ht'=>⟨?_,fun m=>?_,(hM t' (by omega)).2.2⟩⟩
  ·rw[hT];have:¬ N=t':=by omega
   simp only[this,↓reduceIte];split
   ·rfl
   ·exact (hM t' (by omega)).1
  ·have:¬ (t'=N∧m=n):=by omega
   simp only[this,↓reduceIte];exact (hM t' (by omega)).2.1 m
 ·intro hd c hc;obtain ⟨l1,l2⟩:=hl.2 hd;obtain ⟨d1,d2⟩:=h.dtm hd c (by omega);refine ⟨d1,fun m=>?_⟩;have:¬ (c=N∧m=n):=by omega
  simp only[this,↓reduceIte];exact d2 m
theorem aEd {KV Kp:St→A→Prop} (hR:R C.toCtx F g s w) {t:Nat} {e:TypeId} {es:List A} {xs rest:List Value} {cap:Nat} {te:TI} (hte:C.tt e=some te)
  (hes:∀ y,y∈es→y.cells.length=te.sz) (hone:∀ y,y∈es→∀ c,c∈y.cells→c.one=true) (hxs:Rzs g (cW es) xs)
  (hcap:es.length+1≤cap) (hcm:cap≤maxLen) (hrest:(xs++rest).length=cap * te.sz)
  {s':St} (hO:∀ q,s'.getO q=s.getO q) (hT:∀ q,s'.getT q=if t=q then some (es.length,e) else s.getT q) (hl:oA C s s' t)
  (ht:s.getT t=none) (hmax:∀ m,g.eta t m=none)
  (hK:KV s' (.pen t es te.sz)) :
  OutV C F g KV Kp (.ok (.value (.slice (some ⟨w.heap.size,0,none⟩) (es.length+1) cap)) (w.drew.alloc (.cells (xs++rest).toArray e))):=by
 have hszC:C.toCtx.sz e=te.sz:=qS hte;have hfl:=tB hes;have hxl:xs.length=es.length * te.sz:=by rw[hxs.1,hfl]
 have hrow:(w.drew.alloc (.cells (xs++rest).toArray e)).ownsRow 0 e (C.toCtx.sz e) (.slice (some ⟨w.heap.size,0,none⟩) es.length cap) es.length xs:=by
  rw[hszC];refine ⟨hxl,.inr ⟨w.heap.size,cap,_,rfl,bS _,rM w.drew _,by omega,hcm,by simpa using hrest,?_⟩⟩;rw[← hxl];simp
 obtain ⟨h1,h2⟩:=hR.tokStep (t:=t) (n:=es.length) (b:=w.heap.size) (w':=w.drew.alloc (.cells (xs++rest).toArray e)) (fun k hk _=>qF w.drew _ hk) hrow rfl
  (fun m x hx=>by rw[hmax] at hx;cases hx) hO hT hl (.inl ⟨rfl,.inl ht⟩)
 refine ⟨_,_,_,h2,h1,.pen t es te.sz _ cap ?_ hcap hes,hK⟩;refine rR (off:=0) (vs:=xs) (pre:=xs) (tN _ _ _ _ _ _) (by simp) ?_ hes hone (by omega) hcm (bS _) (fun t' ht'=>by cases ht';exact rQ _ _ _ _ _ _);rw[gW (by omega)];exact hxs.mono h2
theorem aM0 {KV Kp:St→A→Prop} {ty:TypeId} {x y:Operand} {t u:TypeId} {z0 a:A} {ti:TI} {dst:Option Tmp} {pos:String} {after:Array Edge} {gd:Option (Nat × Bool)}
  (hR:R C.toCtx F g s w) (he:∀ x a,ρ x=some a→Rz g a (ev x)) (hx:ρ x=some a) (hy:ρ y=some (.hl z0)) (hti:C.tt t=some ti) (h:pO C s ti t u z0 KV a) :
  OutV C F g KV Kp ((execOp ev ⟨dst,.call ⟨.builtin .append,#[x,y],#[t,u]⟩,ty,pos,after,gd⟩).run C.P w):=by
 have hexec:(execOp ev ⟨dst,.call ⟨.builtin .append,#[x,y],#[t,u]⟩,ty,pos,after,gd⟩).run C.P w =
   ((Builtin.append_ #[t,u] ty #[ev x,ev y]).run C.P w).andThen fun v w'=>.ok (.value v) w':=by
  simp only[execOp,resolve,invoke,builtin,aV,bC,aW,iD,bU,bD]
 unfold pO at h;split at h;rotate_left
 ·exact h.elim
 rename_i e hk;split at h;rotate_left
 ·exact h.elim
 rename_i te hte;obtain ⟨⟨rfl,hsz,hby,hz0⟩,h⟩:=h;obtain ⟨d,hd,hok⟩:=fH hti;rw[hk] at hok;simp only[TK.ok] at hok;subst hok;obtain ⟨i,z,hi,his,hib,hiz,hzr⟩:=(C.htt e te hte).info;have hszC:C.toCtx.sz e=te.sz:=qS hte;obtain ⟨ad,cap2,hyv,hyl⟩:=(he y _ hy).hl_inv;have hyf:=hyl.to_flat;obtain ⟨ad',cap2',hyv',_,hc2,_,hyr⟩:=hyl.list_inv;rw[hyv] at hyv';simp only[aD,aG,fF,nL,fM] at hyv';obtain ⟨rfl,rfl⟩:=hyv';obtain ⟨b2,off2,sz2,pre2,hxx,hp2,hl2,hs2,ho2,hr2⟩:=hyr.resolve_left (by simp);simp only[aP] at hxx;subst hxx;have hsz2:sz2=te.sz:=by rw[← hs2 z0 (by simp),hz0]
 subst hsz2;simp only[aD,aG,fF] at hl2 hc2;obtain ⟨rest2,e2,fr2,hh2⟩:=hR.pis b2 pre2 hp2;have hnl:((pre2.drop off2).take (1 * te.sz)).length=1 * te.sz:=by rw[eL,cH];omega
 have hnews:∀ j v,((pre2.drop off2).take (1 * te.sz))[j]?=some v→w.cell? ((⟨b2,off2,none⟩:Addr).add j)=some v:=by
  intro j v hj;rw[kY] at hj;split at hj
  ·rw[mM] at hj;rw[iL];simp only[World.cell?,hh2,Option.isSome_none,bR,↓reduceIte,kX];rw[jR (dH.1 hj).1];exact hj
  ·simp at hj
 have hflat:Rzs g (cW [z0]) ((pre2.drop off2).take (1 * te.sz)):=by
  obtain ⟨a',cap',e1,_,_,e2⟩:=hyf;rw[hyv] at e1;rcases e2 with e2|⟨b',off',sz',pre',e3,e4,e5,e6,e7,e8⟩
  ·cases e2
  ·subst e3;simp only[aD,aG,fF,nL,aP,pE,lC,fM] at e1;obtain ⟨⟨rfl,rfl⟩,rfl⟩:=e1;rw[hp2] at e4;cases e4;have:sz'=te.sz:=by rw[← e6 z0 (by simp),hz0]
   rw[this] at e8;exact e8
 generalize hnw:(pre2.drop off2).take (1 * te.sz)=news at *
 have hfone:∀ c,c∈cW [z0]→c.one=true:=by
  intro c hc;simp only[cW,List.mem_flatMap] at hc;obtain ⟨q,hq,hc⟩:=hc;exact ho2 q hq c hc
 have hn1:∀ v,v∈news→v.oneCell'=true:=hflat.one hfone
 have hzs:z.cells.size=te.sz:=by
  have h1:=(hzr g).1;rw[(C.htt e te hte).len] at h1;simpa using h1
 have hcapz:∀ (n cap:Nat),n≤cap→(Builtin.zeroCells z.cells (cap-n)).toList.length+n * te.sz=cap * te.sz:=by
  intro n cap h;simp only[lP,xU,hzs,← eH];congr 1;omega
 have hnilrun:(Builtin.append_ #[u,u] ty #[.slice none 0 0,ev y]).run C.P w=.ok (.slice (some ⟨w.heap.size,0,none⟩) 1 (grownCap w 1 0 e)) (w.drew.alloc (.cells (news.toArray++Builtin.zeroCells z.cells (grownCap w 1 0 e-1)) e)):=by
  rw[hyv]
  exact run_append_nil (P:=C.P) w u ty e i z hd hi hiz ⟨b2,off2,none⟩ 1 cap2 news (by rw[hnl,his]) hnews (by omega) (by omega)
    (by have:1 * i.bytes≤1 * 32768:=Nat.mul_le_mul (bG _) (by rw[hib];exact hby);omega)
 have hgb1:=nN w 1 0 e (by omega)
 have nilcase:∀ {s1:St},R C.toCtx F g s1 w→nY C s1 0 e [] te.sz KV→OutV C F g KV Kp (.ok (.value (.slice (some ⟨w.heap.size,0,none⟩) 1 (grownCap w 1 0 e))) (w.drew.alloc (.cells (news.toArray++Builtin.zeroCells z.cells (grownCap w 1 0 e-1)) e))):=by
  intro s1 hR1 h1;obtain ⟨N,s',m1,m2,m3,m4,m5,m6⟩:=aEB hR1 h1;rw[aCM]
  exact aEd (KV:=KV) (Kp:=Kp) hR1 (t:=N) hte (es:=[]) (xs:=[]) (rest:=news++(Builtin.zeroCells z.cells (grownCap w 1 0 e-1)).toList) (fun y hy=>by cases hy) (fun y hy=>by cases hy) (.nil g) (by simpa using hgb1.1) hgb1.2
   (by rw[bO,aK,hnl];have:=hcapz _ _ hgb1.1;omega) m3 m4 m5 m2 m1 m6
 split at h
 ·have hxv:=(he x _ hx).nils_inv;rw[hexec,hxv,hnilrun];exact nilcase hR h
 ·rename_i tk es;cases tk with
  | none=>exact h.elim
  | some k =>
  simp only at h;obtain ⟨⟨h1,h2,h3⟩,h⟩:=h;obtain ⟨ax,capx,hxv,hmx,hcx,htk,hxr⟩:=(he x _ hx).list_inv;obtain ⟨v,xs,e1,hown,hmax,hblk⟩:=hR.tok k es.length e h1;have hvx:v=ev x:=by have:=htk k rfl;rw[e1] at this;exact rL this
  subst hvx;rw[hszC] at hown
  have hR1:R C.toCtx F g (s.delT k) w:=hR.weaken ⟨fun b o ho=>ho,fun q n hn=>by
   rw[mN] at hn;split at hn
   ·cases hn
   ·exact hn,fun _ h=>h⟩ (fun _=>bG _)
  have hone':∀ y,y∈es→∀ c,c∈y.cells→c.one=true:=by
   intro q hq c hc;rcases hxr with rfl|⟨b,off,sz,pre,_,_,_,_,ho,_⟩
   ·cases hq
   ·exact ho q hq c hc
  have hbytes:(es.length+1) * i.bytes≤140737488355328:=by
   have:(es.length+1) * i.bytes≤4294967296 * 32768:=Nat.mul_le_mul h3 (by rw[hib];exact hby);omega
  have hxsR:Rzs g (cW es) xs:=by
   obtain ⟨a',cap',q1,_,_,q2⟩:=(he x _ hx).to_flat;rcases q2 with rfl|⟨b',off',sz',pre',q3,q4,q5,q6,q7,q8⟩
   ·have:xs=[]:=eJ (by simpa using hown.1);rw[this];exact .nil g
   ·by_cases hes0:es=[]
    ·subst hes0;have:xs=[]:=eJ (by simpa using hown.1);rw[this];exact .nil g
    ·have hp0:0<es.length:=by cases es with|nil=>exact absurd rfl hes0|cons=>simp
     have hsz':sz'=te.sz:=by rw[← q6 _ (iT hp0),h2 _ (iT hp0)]
     subst q3;rcases hown.2 with ⟨hn,h0⟩|⟨g0,cap0,cur0,hv0,_⟩
     ·omega
     ·have hb0:=hblk g0 (by rw[hv0];rfl);rw[hv0] at q1;simp only[nL,aP,pE,lC,fM] at q1;obtain ⟨⟨rfl,rfl⟩,rfl⟩:=q1;rw[hb0.1] at q4;cases q4;rw[hsz',sX,gW (by rw[hown.1];exact bG _)] at q8;exact q8
  rcases hown.2 with ⟨hn,h0⟩|⟨g0,cap0,cur0,hv0,_,hh0,hnc,hcm,hcs,htake⟩
  ·have hes0:es=[]:=eJ h0;subst hes0;rw[hexec,hn,hnilrun];exact nilcase hR1 h
  ·obtain ⟨N,s',m1,m2,m3,m4,m5,m6⟩:=aEB hR1 h;by_cases hroom:es.length+1≤cap0
   ·have hfit:es.length * i.size+news.length≤cur0.size:=by
     rw[hnl,his,hcs,← eH];exact lO _ hroom
    have hrun:=run_append_room (P:=C.P) w u ty e i hd hi g0 es.length cap0 cur0 hh0 ⟨b2,off2,none⟩ 1 cap2 news (by rw[hnl,his]) hnews hn1 hroom hfit;rw[hexec,hv0,hyv,hrun]
    have hrow:(w.setRow g0 (cur0.toList.take (es.length * i.size)++news++cur0.toList.drop (es.length * i.size+news.length)).toArray).ownsRow 0 e (C.toCtx.sz e) (.slice (some ⟨g0,0,none⟩) es.length cap0) es.length xs:=by
     rw[hszC,his];refine ⟨hown.1,.inr ⟨g0,cap0,_,rfl,bS _,sY hh0 _,by omega,hcm,?_,?_⟩⟩
     ·rw[his] at hfit;simp only[List.size_toArray,aK,eL,cH,lP];omega
     ·rw[htake,cQ];rw[← hown.1];exact List.take_left
    have hb0:=hblk g0 (by rw[hv0];rfl);obtain ⟨g',r1,r2,r3,r4⟩:=hR.tokMove (k:=k) (N:=N) m1 (fun j hj=>tG hj _) h1 e1 (by rw[hv0];rfl) hb0.1 hrow rfl (s':=s') (fun q=>m3 q) (fun q=>by rw[m4,mN]) m5;refine ⟨g',.pen N es te.sz,s',r1,r4,.pen N es te.sz g0 cap0 ?_ hroom h2,m6⟩;refine rR (off:=0) (sz:=te.sz) (vs:=xs) (pre:=xs) (by rw[r3];exact hb0.1) (by simp) ?_ h2 hone' (by omega) hcm (bS _) (fun t' ht'=>by cases ht';exact r2);rw[gW (by rw[hown.1];exact bG _)];exact hxsR.mono r1
   ·have hcell:∀ j u,xs[j]?=some u→w.cell? ((⟨g0,0,none⟩:Addr).add j)=some u:=by
     intro j u hj;rw[iL];simp only[World.cell?,hh0,Option.isSome_none,bR,↓reduceIte,fF];rw[← htake,kY] at hj;split at hj
     ·simpa using hj
     ·simp at hj
    have hrun:=run_append_grow (P:=C.P) w u ty e i z hd hi hiz ⟨g0,0,none⟩ es.length cap0 xs (by rw[hown.1,his]) hcell ⟨b2,off2,none⟩ 1 cap2 news (by rw[hnl,his]) hnews (by omega) (by omega) (growslice_fits (by omega) hbytes);have hgb:=nN w (es.length+1) cap0 e (by omega);rw[hexec,hv0,hyv,hrun,zE,cQ]
    exact aEd (KV:=KV) (Kp:=Kp) hR1 (t:=N) hte (es:=es) (xs:=xs) (rest:=news++(Builtin.zeroCells z.cells (grownCap w (es.length+1) cap0 e-(es.length+1))).toList) h2 hone' hxsR hgb.1 hgb.2
     (by rw[aK,aK,hnl,hown.1];have:=hcapz _ _ hgb.1;rw[eH] at this;omega) m3 m4 m5 m2 m1 m6
 ·exact h.elim
theorem aGk (hR:R C.toCtx F g s w) {a:A} {v:Value} (h:Rz g a v):Rz g (fC s a) v:=by
 cases a<;>try exact h
 rename_i t es sz;simp only[fC];cases hq:s.ls with
 | none=>exact h
 | some q =>
  simp only[uX];split
  ·rename_i hc;obtain ⟨h1,h2,h3⟩:=hc;obtain ⟨b,cap,rfl,hl,hcap,hs⟩:=h.pen_inv;obtain ⟨b',cap',pre,k1,k2,k3,k4,k5,k6,k7,k8⟩:=hR.lst q hq;rw[h1,h2] at k1 k2
   have hta:g.eta t es.length=some (.slice (some ⟨b,0,none⟩) es.length cap):=by
    obtain ⟨_,_,_,_,_,h5,_⟩:=hl.list_inv;exact h5 _ rfl
   rw[hta] at k2;simp only[aP,nL,pE,lC,fM] at k2;obtain ⟨rfl,rfl⟩:=k2;rw[h2] at k6 k8;rw[h3] at k6 k8;have hlen:(es++[q.2.2]).length=es.length+1:=by simp
   rw[← hlen];refine .list (some t) (es++[q.2.2]) b 0 sz cap pre k5 (by rw[hlen];omega) (by rw[hlen];omega) k4 (fun y hy=>?_) (fun y hy c hc=>?_) (fun j y i c u hy hc hu=>?_) (fun t' ht'=>by cases ht';rw[hlen];exact k1)
   ·rcases gX.1 hy with hy|hy
    ·exact hs y hy
    ·simp only[cY] at hy;subst hy;exact h3
   ·rcases gX.1 hy with hy|hy
    ·obtain ⟨_,_,_,_,_,_,hr⟩:=hl.list_inv;rcases hr with rfl|⟨_,_,_,_,_,_,_,_,ho,_⟩
     ·cases hy
     ·exact ho y hy c hc
    ·simp only[cY] at hy;subst hy;exact k7 c hc
   ·rw[fF] at hu;by_cases hj:j<es.length
    ·rw[jR hj] at hy;obtain ⟨_,_,q1,_,_,_,hr⟩:=hl.list_inv;rcases hr with rfl|⟨b3,off3,sz3,pre3,rfl,p1,p2,p3,p4,p5⟩
     ·simp at hj
     ·simp only[nL,aP,pE,lC,fM] at q1;obtain ⟨⟨rfl,rfl⟩,rfl⟩:=q1;rw[k5] at p1;cases p1;have hmem:=dP hy;have:sz3=sz:=by rw[← p3 y hmem,hs y hmem]
      subst this;exact p5 j y i c u hy hc (by rw[fF];exact hu)
    ·rw[nI (by omega)] at hy
     have hj':j-es.length=0:=by
      rcases Nat.eq_zero_or_pos (j-es.length) with h|h
      ·exact h
      ·rw[rJ (by simp;omega)] at hy;cases hy
     rw[hj'] at hy;simp only[iJ,aP] at hy;subst hy;have:j=es.length:=by omega
     subst this;exact k8 i c u hc hu
  ·exact h
theorem aOo {KV Kp:St→A→Prop} {t ty:TypeId} {x y:Operand} {k n z:Nat} {v:A} {ti:TI} {dst:Option Tmp} {pos:String} {after:Array Edge} {gd:Option (Nat × Bool)}
  (hR:R C.toCtx F g s w) (he:∀ x a,ρ x=some a→Rz g a (ev x)) (hx:ρ x=some (.rm k n z)) (hy:ρ y=some v) (hti:C.tt t=some ti) (h:nH C s k n z ti v KV) :
  OutV C F g KV Kp ((execOp ev ⟨dst,.store t x y,ty,pos,after,gd⟩).run C.P w):=by
 unfold nH at h;split at h;rotate_left
 ·exact h.elim
 rename_i m e ht;split at h;rotate_left
 ·exact h.elim
 rename_i te hte;obtain ⟨⟨rfl,rfl,h2,h3,h4⟩,hK⟩:=h;obtain ⟨b,cap,hp,heta,hcap⟩:=(he x _ hx).rm_inv;obtain ⟨v0,xs,e1,hown,hmax,hblk⟩:=hR.tok k m e ht;rw[heta] at e1;cases e1;have hszC:C.toCtx.sz e=te.sz:=qS hte;rw[hszC] at hown;rcases hown.2 with ⟨hn,_⟩|⟨g0,cap0,cur0,hv0,_,hh0,hnc,hcm,hcs,htake⟩
 ·cases hn
 simp only[nL,aP,pE,lC,fM] at hv0;obtain ⟨rfl,rfl⟩:=hv0;have hb0:=hblk b rfl;have hv:=he y _ hy;have hvc:=hv.cells;have e1:(ev y).cells.toList.length=te.sz:=by rw[hvc.1,h3]
 have hall:∀ c,c∈v.cells→c.one=true:=by simpa [dU] using h4
 have hroom:m * te.sz+te.sz≤cap * te.sz:=by
  have:(m+1) * te.sz≤cap * te.sz:=lO _ hcap
  rwa[eH,Nat.one_mul] at this
 have hst:=run_storeCells_at C.P b (m * te.sz) e (ev y).cells.toList 0 cur0 w hh0 (by rw[e1,hcs];omega) (hvc.one hall)
 have hrun:(Instr.storeAt t (ev x) (ev y)).run C.P w=.ok () (w.setRow b (cur0.toList.take (m * te.sz)++(ev y).cells.toList++cur0.toList.drop (m * te.sz+(ev y).cells.toList.length)).toArray):=by
  simp only[Instr.storeAt,Instr.sureAddr,hp,storeVar,aV,bC,aW,iX hti];rw[if_neg (by simp only[lP] at e1;rw[e1,h2];simp)];simpa using hst
 simp only[execOp];rw[aFo,hrun]
 have hrow:(w.setRow b (cur0.toList.take (m * te.sz)++(ev y).cells.toList++cur0.toList.drop (m * te.sz+(ev y).cells.toList.length)).toArray).ownsRow 0 e (C.toCtx.sz e) (.slice (some ⟨b,0,none⟩) (m+1) cap) (m+1) (xs++(ev y).cells.toList):=by
  rw[hszC];refine ⟨by rw[aK,hown.1,e1,eH,Nat.one_mul],.inr ⟨b,cap,_,rfl,bS _,sY hh0 _,hcap,hcm,?_,?_⟩⟩
  ·simp only[List.size_toArray,aK,eL,cH,lP] at *;omega
  ·rw[htake];have:(m+1) * te.sz=(xs++(ev y).cells.toList).length:=by rw[aK,hown.1,e1,eH,Nat.one_mul]
   rw[this];simp only[cQ];rw[← cQ];exact List.take_left
 have hdt:oA C s (s.setT k (m+1,e)) k:=⟨rfl,fun hd=>⟨bG _,Nat.lt_of_not_le fun hle=>by
  have:=(hR.dtm hd k hle).2 m;rw[this] at heta;cases heta⟩⟩
 obtain ⟨r1,r2⟩:=hR.tokStep (t:=k) (b:=b) (fun k hk hne=>tG hne _) hrow rfl (fun j x hx=>by have:=hmax j x hx;omega) (s':=s.setT k (m+1,e)) (fun q=>rfl) (fun q=>bT _ _ _ q) hdt
  (.inr ⟨m,_,xs,(ev y).cells.toList,ht,heta,rfl,hb0.1,rfl⟩)
 refine ⟨_,_,r2,r1.setL (fun x hx=>?_),hK⟩;cases hx;refine ⟨b,cap,_,rQ _ _ _ _ _ _,?_,hcap,hcm,tN _ _ _ _ _ _,?_,hall,fun j c u hc hu=>?_⟩
 ·simp only[Gh.tok];rw[if_neg (by omega)];exact heta
 ·simp only[h3,aK,hown.1,e1,eH,Nat.one_mul];exact bG _
 ·dsimp only at hc hu;rw[nI (by rw[hown.1,h3];omega),hown.1,h3,Nat.add_sub_cancel_left] at hu;exact (hvc.2 j c u hc hu).mono r2
theorem aLW {KV Kp:St→A→Prop} {t ty:TypeId} {x y:Operand} {dst:Option Tmp} {pos:String} {after:Array Edge} {gd:Option (Nat × Bool)}
  (hR:R C.toCtx F g s w) (he:∀ x a,ρ x=some a→Rz g a (ev x)) (h:aJ C (.store t x y) ρ KV Kp s) :
  OutV C F g KV Kp ((execOp ev ⟨dst,.store t x y,ty,pos,after,gd⟩).run C.P w):=by
 simp only[aJ] at h;split at h
 ·rename_i b o v0 ti hx hy hti;generalize hpv:fC s v0=v at h;split at h
  ·rename_i e cs hb;obtain ⟨⟨h1,h2,h3⟩,hK⟩:=h;obtain ⟨k,vs,rest,hbk,hh,hrs,hone⟩:=hR.cellsOf hb;obtain ⟨k',hp,hbk'⟩:=(he x _ hx).ptr_inv;rw[hbk] at hbk';cases hbk';have hv:Rz g v (ev y):=by rw[← hpv];exact aGk hR (he y _ hy)
   have hvc:=hv.cells;have e1:(ev y).cells.toList.length=v.cells.length:=hvc.1;have e2:vs.length=cs.length:=hrs.1;have hall:∀ c,c∈v.cells→c.one=true:=by simpa [dU] using h3
   have hst:=run_storeCells_at C.P k o e (ev y).cells.toList 0 (vs++rest).toArray w hh (by simp;simp only[lP] at e1;omega) (hvc.one hall)
   have hrun:(Instr.storeAt t (ev x) (ev y)).run C.P w=.ok () (w.setRow k ((vs++rest).take o++(ev y).cells.toList++(vs++rest).drop (o+(ev y).cells.toList.length)).toArray):=by
    simp only[Instr.storeAt,Instr.sureAddr,hp,storeVar,aV,bC,aW,iX hti];rw[if_neg (by simp only[lP] at e1;omega)];simpa using hst
   simp only[execOp];rw[aFo,hrun];refine ⟨g,_,dX g,hR.setObj hb hbk (fun k hk=>tG hk _) ?_,hK⟩;rw[sY hh];refine ⟨vs.take o++(ev y).cells.toList++vs.drop (o+(ev y).cells.toList.length),rest,?_,?_,?_⟩
   ·rw[List.take_append_of_le_length (by omega),List.drop_append_of_le_length (by omega)];simp only[cQ]
   ·rw[vR _ _ _ h2,e1];exact ((hrs.take o).append hvc).append (hrs.drop _)
   ·intro c hc;rw[vR _ _ _ h2] at hc;simp only[gX] at hc;rcases hc with (hc|hc)|hc
    ·exact hone c (nJ hc)
    ·exact hall c hc
    ·exact hone c (oX hc)
  ·exact h.elim
 ·rename_i k n z v ti hx hy hti;exact aOo hR he hx hy hti h
 ·exact h.elim
theorem aJr {KV Kp:St→A→Prop} {t ty:TypeId} {n:Nat} {parts:Array (Nat × Operand)} {dst:Option Tmp} {pos:String} {after:Array Edge} {gd:Option (Nat × Bool)}
  (hR:R C.toCtx F g s w) (he:∀ x a,ρ x=some a→Rz g a (ev x)) (hd:C.det=false) (h:aQ C (.buildSlice t n parts) ρ (uR C s t KV)) :
  OutV C F g KV Kp ((execOp ev ⟨dst,.buildSlice t n parts,ty,pos,after,gd⟩).run C.P w):=by
 obtain ⟨ti,te,e,es,out,a,hti,hk,hte,hel,⟨hl1,hl2⟩,hrun,hro,ha,hK⟩:=aH9 (dst:=dst) (ty:=ty) (pos:=pos) (after:=after) (gd:=gd) hR he h;rw[hrun];unfold uR at hK;split at hK;rotate_left
 ·exact hK.elim
 rename_i tk es' ti' hti';obtain rfl:=ha tk es' rfl;rw[hti] at hti';cases hti';rw[hk] at hK;simp only at hK;obtain ⟨N,hN⟩:=hR.fsh;obtain ⟨n1,n2,_⟩:=hN N (bG _);have hszC:C.toCtx.sz e=te.sz:=qS hte;have hfl:=tB (fun x hx=>(hel x hx).1);have hol:out.toList.length=es'.length * te.sz:=by rw[hro.1,hfl]
 have hcm:es'.length≤maxLen:=by unfold maxLen;omega
 have hrow:(w.alloc (.cells out e)).ownsRow 0 e (C.toCtx.sz e) (.slice (some ⟨w.heap.size,0,none⟩) es'.length es'.length) es'.length out.toList:=by
  rw[hszC];refine ⟨hol,.inr ⟨w.heap.size,es'.length,out,rfl,bS _,rM w _,bG _,hcm,by simpa using hol,?_⟩⟩;rw[gW (by rw[hol];exact bG _)]
 obtain ⟨h1,h2⟩:=hR.tokStep (t:=N) (n:=es'.length) (b:=w.heap.size) (w':=w.alloc (.cells out e)) (fun k hk _=>qF w _ hk) hrow rfl (fun m x hx=>by rw[n2] at hx;cases hx)
  (s':=s.setT N (es'.length,e)) (fun q=>rfl) (fun q=>bT _ _ _ q) ⟨rfl,fun h=>by rw[hd] at h;cases h⟩ (.inl ⟨rfl,.inl n1⟩)
 refine ⟨_,_,_,h2,h1,?_,hK N n1⟩;refine rR (off:=0) (vs:=out.toList) (pre:=out.toList) (sz:=te.sz) (tN _ _ _ _ _ _) (by simp) ?_ (fun x hx=>(hel x hx).1) (fun x hx=>(hel x hx).2) (bG _) hcm (bS _) (fun t' ht'=>by cases ht';exact rQ _ _ _ _ _ _);rw[gW (by rw[hol];exact bG _)];exact hro.mono h2
theorem aBA {n:Nat} {e:TypeId} {sz:Nat} {ys:List A} {KV:St→A→Prop} (h:kB C s n e sz ys KV):newT C s n e ys KV∨(C.det=false∧Nat.beq C.mu 1=true∧0<n∧aAt s n e sz (cW ys) KV):=by
 unfold kB at h;split at h
 ·exact .inl h
 ·rename_i hd;split at h
  ·exact .inl h
  ·rename_i hm;exact .inr ⟨hd,hm,h.1,h.2⟩
theorem aLg {KV Kp:St→A→Prop} {ty:TypeId} {x y:Operand} {t u:TypeId} {dst:Option Tmp} {pos:String} {after:Array Edge} {gd:Option (Nat × Bool)}
  (hR:R C.toCtx F g s w) (he:∀ x a,ρ x=some a→Rz g a (ev x)) (h:aJ C (.call ⟨.builtin .append,#[x,y],#[t,u]⟩) ρ KV Kp s) :
  OutV C F g KV Kp ((execOp ev ⟨dst,.call ⟨.builtin .append,#[x,y],#[t,u]⟩,ty,pos,after,gd⟩).run C.P w):=by
 simp only[aJ] at h;split at h;rotate_left
 ·rename_i a bs ti hx hy hti;split at h
  ·rename_i e hE;exact aMK hR he hx hy hti hE h
  ·exact h.elim
 ·rename_i a n ti hx hy hti;exact aM7 hR he hx hy hti h
 ·rename_i a ti hx hy hti;exact aGB hR he hx (he y _ hy).nils_inv hti h
 ·rename_i a ti hx hy hti;obtain ⟨ad,hv⟩:=(he y _ hy).emp_inv;exact aGB hR he hx hv hti h
 ·rename_i a z0 ti hx hy hti;exact aM0 hR he hx hy hti h
 ·exact h.elim
 rename_i a tk2 ys ti hx hy hti;split at h;rotate_left
 ·exact h.elim
 rename_i e hk;split at h;rotate_left
 ·exact h.elim
 rename_i te hte;obtain ⟨⟨rfl,hsz,hby⟩,hys,h⟩:=h;unfold nX at h;obtain ⟨d,hd,hok⟩:=fH hti;rw[hk] at hok;simp only[TK.ok] at hok;subst hok;obtain ⟨i,z,hi,his,hib,hiz,hzr⟩:=(C.htt e te hte).info
 have hexec:(execOp ev ⟨dst,.call ⟨.builtin .append,#[x,y],#[u,u]⟩,ty,pos,after,gd⟩).run C.P w =
   ((Builtin.append_ #[u,u] ty #[ev x,ev y]).run C.P w).andThen fun v w'=>.ok (.value v) w':=by
  simp only[execOp,resolve,invoke,builtin,aV,bC,aW,iD,bU,bD]
 have hszC:C.toCtx.sz e=te.sz:=qS hte;have hz1:∀ c,c∈te.zero→c.one=true:=(C.htt e te hte).one
 obtain ⟨ad,cap2,hyv,_,hc2,_,hyr⟩:=(he y _ hy).list_inv;have hyf:=(he y _ hy).to_flat;by_cases hy0:ys=[]
 ·subst hy0;simp only[aG] at hyv;split at h
  ·obtain ⟨_,h⟩:=h
   have h:newT C s 0 e [] KV:=by
    rcases aBA h with h|⟨_,_,h,_⟩
    ·exact h
    ·exact absurd h (by simp)
   have hxv:=(he x _ hx).nils_inv;have hrun:=xT C.P w u u ty e i hd hd hi none ad 0 0 cap2 (bG _);rw[hexec,hxv,hyv,hrun];obtain ⟨N,s',m1,m2,m3,m4,m5,m6⟩:=yN hR h;obtain ⟨g',h2,h3,h4⟩:=hR.tokNil e m1 m3 m4 m5;exact ⟨g',_,_,h2,h4,.list0 (some N) none 0 (bS _) (fun t' ht'=>by cases ht';exact h3),m6⟩
  ·obtain ⟨ax,hxv⟩:=(he x _ hx).emp_inv;have hrun:=xT C.P w u u ty e i hd hd hi (some ax) ad 0 0 cap2 (bG _);rw[hexec,hxv,hyv,hrun];exact ⟨g,.emp,s,dX g,hR,.emp ax,h⟩
  ·unfold qT at h;split at h
   ·obtain ⟨⟨_,_,_,_,_,h⟩,_⟩:=h;exact absurd h (by simp)
   ·exact h.elim
  ·rename_i t es;obtain ⟨h1,h2,h3,hK⟩:=h;obtain ⟨ax,cap,hxv,_,hc,_⟩:=(he x _ hx).list_inv;have hrun:=xT C.P w u u ty e i hd hd hi ax ad es.length cap cap2 hc;rw[hexec,hxv,hyv,hrun];have hx':=he x _ hx;rw[hxv] at hx';refine ⟨g,.list (some t) es,_,dX g,hR.weaken (s':=s.setT t (es.length,e)) ⟨fun b o ho=>ho,fun k n hn=>?_,fun _ h=>h⟩ (fun _=>bG _),hx',by simpa using hK⟩;rw[bT] at hn;by_cases htk:t=k
   ·subst htk;simp only[↓reduceIte] at hn;rw[h1];exact hn
   ·simpa only[htk,↓reduceIte] using hn
  ·exact h.elim
 ·obtain ⟨b2,off2,sz2,pre2,rfl,hp2,hl2,hs2,ho2,hr2⟩:=hyr.resolve_left hy0;have hpos:0<ys.length:=by cases ys with|nil=>exact absurd rfl hy0|cons=>simp
  have hsz2:sz2=te.sz:=by
   have hm:=iT hpos;rw[← hs2 _ hm,hys _ hm]
  subst hsz2;obtain ⟨rest2,e2,fr2,hh2⟩:=hR.pis b2 pre2 hp2;have hnl:((pre2.drop off2).take (ys.length * te.sz)).length=ys.length * te.sz:=by rw[eL,cH];omega
  have hnews:∀ j v,((pre2.drop off2).take (ys.length * te.sz))[j]?=some v→w.cell? ((⟨b2,off2,none⟩:Addr).add j)=some v:=by
   intro j v hj;rw[kY] at hj;split at hj
   ·rw[mM] at hj;rw[iL];simp only[World.cell?,hh2,Option.isSome_none,bR,↓reduceIte,kX];rw[jR (dH.1 hj).1];exact hj
   ·simp at hj
  have hflat:Rzs g (cW ys) ((pre2.drop off2).take (ys.length * te.sz)):=by
   obtain ⟨a',cap',e1,_,_,e2⟩:=hyf;rw[hyv] at e1;rcases e2 with e2|⟨b',off',sz',pre',e3,e4,e5,e6,e7,e8⟩
   ·exact absurd e2 hy0
   ·subst e3;simp only[nL,aP,pE,lC,fM] at e1;obtain ⟨⟨rfl,rfl⟩,rfl⟩:=e1;rw[hp2] at e4;cases e4;have:sz'=te.sz:=by rw[← e6 _ (iT hpos),hys _ (iT hpos)]
    rw[this] at e8;exact e8
  generalize hnw:(pre2.drop off2).take (ys.length * te.sz)=news at *
  have hfone:∀ c,c∈cW ys→c.one=true:=by
   intro c hc;simp only[cW,List.mem_flatMap] at hc;obtain ⟨q,hq,hc⟩:=hc;exact ho2 q hq c hc
  have hn1:∀ v,v∈news→v.oneCell'=true:=hflat.one hfone
  have hzs:z.cells.size=te.sz:=by
   have h1:=(hzr g).1;rw[(C.htt e te hte).len] at h1;simpa using h1
  have hcapz:∀ (n cap:Nat),n≤cap→(Builtin.zeroCells z.cells (cap-n)).toList.length+n * te.sz=cap * te.sz:=by
   intro n cap h;simp only[lP,xU,hzs,← eH];congr 1;omega
  split at h
  ·
   obtain ⟨hlim,h⟩:=h;have hxv:=(he x _ hx).nils_inv
   have hrun:=run_append_nil (P:=C.P) w u ty e i z hd hi hiz ⟨b2,off2,none⟩ ys.length cap2 news (by rw[hnl,his]) hnews hpos (by omega)
    (by have:ys.length * i.bytes≤4294967296 * 32768:=Nat.mul_le_mul hlim (by rw[hib];exact hby);omega)
   have hgb:=nN w ys.length 0 e (by omega);rw[hexec,hxv,hyv,hrun,aCM];rcases aBA h with h|⟨hdt,_,_,h⟩
   rotate_left
   ·obtain ⟨J,j1,j2,j3⟩:=aCZ hzr hz1 (grownCap w ys.length 0 e-ys.length);exact aBv hR hdt hflat (j3 g) hfone j2 hgb.1 hgb.2 (fun b hb=>h b _ J hb hgb.1 (by rw[j1,(C.htt e te hte).len]) j2)
   obtain ⟨N,s',n2,n1,m3,m4,m5,m6⟩:=yN hR h
   have:=rS (KV:=KV) (Kp:=Kp) hR (t:=N) hte (rest:=(Builtin.zeroCells z.cells (grownCap w ys.length 0 e-ys.length)).toList) hys ho2 hflat hgb.1 hgb.2
    (by rw[aK,hnl];have:=hcapz _ _ hgb.1;omega) m3 m4 m5 (.inl n1) (fun m x hx=>by rw[n2] at hx;cases hx) m6
   exact this
  ·
   have h:(ys.length≤4294967296∧0<ys.length)∧kB C s ys.length e te.sz ys KV:=by
    cases ys with
    | nil=>exact absurd rfl hy0
    | cons y r=>exact h
   obtain ⟨⟨hlim,_⟩,h⟩:=h;obtain ⟨ae,hxv⟩:=(he x _ hx).emp_inv
   have hrun:=run_append_grow (P:=C.P) w u ty e i z hd hi hiz ae 0 0 [] (by simp) (fun j u hj=>by simp at hj) ⟨b2,off2,none⟩ ys.length cap2 news (by rw[hnl,his]) hnews (by omega) (by omega) (growslice_fits (by omega) (by
    have:(0+ys.length) * i.bytes≤4294967296 * 32768:=Nat.mul_le_mul (by omega) (by rw[hib];exact hby);omega))
   have hgb:=nN w ys.length 0 e (by omega);rw[hexec,hxv,hyv,hrun];simp only[fF,bO];rw[show ((#[]:Array Value)++news.toArray++Builtin.zeroCells z.cells (grownCap w ys.length 0 e-ys.length))=(news++(Builtin.zeroCells z.cells (grownCap w ys.length 0 e-ys.length)).toList).toArray by apply Array.ext';simp];rcases aBA h with h|⟨hdt,_,_,h⟩
   rotate_left
   ·obtain ⟨J,j1,j2,j3⟩:=aCZ hzr hz1 (grownCap w ys.length 0 e-ys.length);exact aBv hR hdt hflat (j3 g) hfone j2 hgb.1 hgb.2 (fun b hb=>h b _ J hb hgb.1 (by rw[j1,(C.htt e te hte).len]) j2)
   obtain ⟨N,s',n2,n1,m3,m4,m5,m6⟩:=yN hR h
   have:=rS (KV:=KV) (Kp:=Kp) hR (t:=N) hte (rest:=(Builtin.zeroCells z.cells (grownCap w ys.length 0 e-ys.length)).toList) hys ho2 hflat hgb.1 hgb.2
    (by rw[aK,hnl];have:=hcapz _ _ hgb.1;omega) m3 m4 m5 (.inl n1) (fun m x hx=>by rw[n2] at hx;cases hx) m6
   exact this
  ·
   rename_i mb mn mcap;unfold qT at h;split at h;rotate_left
   ·exact h.elim
   rename_i e' cs hbo;obtain ⟨⟨hdt,rfl,hcl,hnc,hlim,_⟩,h⟩:=h;obtain ⟨k,hxv,hbk,_,hcm⟩:=(he x _ hx).mg_inv;obtain ⟨k',vs,rest,hbk',hh,hrs,hone⟩:=hR.cellsOf hbo;rw[hbk] at hbk';cases hbk';have hvl:vs.length=mcap * te.sz:=by rw[hrs.1,hcl]
   have hnz:mn * te.sz≤mcap * te.sz:=lO _ hnc
   have hbytes:(mn+ys.length) * i.bytes≤140737488355328:=by
    have:(mn+ys.length) * i.bytes≤4294967296 * 32768:=Nat.mul_le_mul hlim (by rw[hib];exact hby);omega
   by_cases hroom:mn+ys.length≤mcap
   ·have hfz:mn * te.sz+ys.length * te.sz≤mcap * te.sz:=by rw[← eH];exact lO _ hroom
    have hfit:mn * i.size+news.length≤(vs++rest).toArray.size:=by
     rw[hnl,his];simp only[List.size_toArray,aK];omega
    have hrun:=run_append_room (P:=C.P) w u ty e' i hd hi k mn mcap (vs++rest).toArray hh ⟨b2,off2,none⟩ ys.length cap2 news (by rw[hnl,his]) hnews hn1 hroom hfit;rw[hexec,hxv,hyv,hrun];have hK:=h mb mcap (cs.drop (mn * te.sz+ys.length * te.sz)) (.inl ⟨rfl,rfl⟩) hroom (by rw[cH,hcl,← eH,← Nat.sub_mul]) (fun c hc=>hone c (oX hc));refine ⟨g,_,_,dX g,hR.setObj hbo hbk (fun j hj=>tG hj _) ?_,.mg mb _ _ k hbk hroom hcm,hK⟩;rw[sY hh];refine ⟨vs.take (mn * te.sz)++(news++vs.drop (mn * te.sz+ys.length * te.sz)),rest,?_,(hrs.take _).append (hflat.append (hrs.drop _)),fun c hc=>?_⟩
    ·rw[hnl,his,List.toList_toArray,List.take_append_of_le_length (by omega),List.drop_append_of_le_length (by omega)];simp only[cQ]
    ·rcases gX.1 hc with hc|hc
     ·exact hone c (nJ hc)
     ·rcases gX.1 hc with hc|hc
      ·exact hfone c hc
      ·exact hone c (oX hc)
   ·have hcell:∀ j u,(vs.take (mn * te.sz))[j]?=some u→w.cell? ((⟨k,0,none⟩:Addr).add j)=some u:=by
     intro j u hj;rw[iL];simp only[World.cell?,hh,Option.isSome_none,bR,↓reduceIte,fF];rw[kY] at hj;split at hj
     ·simp only[kX];rw[jR (dH.1 hj).1];exact hj
     ·simp at hj
    have hrun:=run_append_grow (P:=C.P) w u ty e' i z hd hi hiz ⟨k,0,none⟩ mn mcap (vs.take (mn * te.sz)) (by rw[eL,his];omega) hcell ⟨b2,off2,none⟩ ys.length cap2 news (by rw[hnl,his]) hnews (by omega) (by omega) (growslice_fits (by omega) hbytes);have hgb:=nN w (mn+ys.length) mcap e' (by omega);rw[hexec,hxv,hyv,hrun,zE];obtain ⟨J,j1,j2,j3⟩:=aCZ hzr hz1 (grownCap w (mn+ys.length) mcap e'-(mn+ys.length));refine aBv hR hdt ((hrs.take _).append hflat) (j3 g) (fun c hc=>?_) j2 hgb.1 hgb.2 (fun b hb=>?_)
    ·rcases gX.1 hc with hc|hc
     ·exact hone c (nJ hc)
     ·exact hfone c hc
    ·have:=h b _ J (.inr hb) hgb.1 (by rw[j1,(C.htt e' te hte).len]) j2;rw[cQ];exact this
  ·
   rename_i t es;obtain ⟨h1,h2,h3,hK⟩:=h;obtain ⟨ax,capx,hxv,hmx,hcx,htk,hxr⟩:=(he x _ hx).list_inv;obtain ⟨v,xs,e1,hown,hmax,hblk⟩:=hR.tok t es.length e h1;have hvx:v=ev x:=by have:=htk t rfl;rw[e1] at this;exact rL this
   subst hvx;rw[hszC] at hown
   have hdt:oA C s (s.setT t (es.length+ys.length,e)) t:=⟨rfl,fun hd=>⟨bG _,Nat.lt_of_not_le fun hle=>by
    have:=(hR.dtm hd t hle).2 es.length;rw[this] at e1;cases e1⟩⟩
   have hmax':∀ m x,g.eta t m=some x→m<(es++ys).length:=fun m x hx=>by have:=hmax m x hx;simp;omega
   have hone':∀ y,y∈es++ys→∀ c,c∈y.cells→c.one=true:=by
    intro q hq c hc;rcases gX.1 hq with hq|hq
    ·rcases hxr with rfl|⟨b,off,sz,pre,_,_,_,_,ho,_⟩
     ·cases hq
     ·exact ho q hq c hc
    ·exact ho2 q hq c hc
   have hes':∀ y,y∈es++ys→y.cells.length=te.sz:=by
    intro q hq;rcases gX.1 hq with hq|hq
    ·exact h2 q hq
    ·exact hys q hq
   have hlen:(es++ys).length=es.length+ys.length:=by simp
   have hbytes:(es.length+ys.length) * i.bytes≤140737488355328:=by
    have:(es.length+ys.length) * i.bytes≤4294967296 * 32768:=Nat.mul_le_mul h3 (by rw[hib];exact hby);omega
   have hxsR:Rzs g (cW es) xs:=by
    obtain ⟨a',cap',q1,_,_,q2⟩:=(he x _ hx).to_flat;rcases q2 with rfl|⟨b',off',sz',pre',q3,q4,q5,q6,q7,q8⟩
    ·have:xs=[]:=eJ (by simpa using hown.1);rw[this];exact .nil g
    ·by_cases hes0:es=[]
     ·subst hes0;have:xs=[]:=eJ (by simpa using hown.1);rw[this];exact .nil g
     ·have hp0:0<es.length:=by cases es with|nil=>exact absurd rfl hes0|cons=>simp
      have hsz':sz'=te.sz:=by rw[← q6 _ (iT hp0),h2 _ (iT hp0)]
      subst q3;rcases hown.2 with ⟨hn,h0⟩|⟨g0,cap0,cur0,hv0,_⟩
      ·omega
      ·have hb0:=hblk g0 (by rw[hv0];rfl);rw[hv0] at q1;simp only[nL,aP,pE,lC,fM] at q1;obtain ⟨⟨rfl,rfl⟩,rfl⟩:=q1;rw[hb0.1] at q4;cases q4;rw[hsz',sX,gW (by rw[hown.1];exact bG _)] at q8;exact q8
   have hall:Rzs g (cW (es++ys)) (xs++news):=by rw[aEi];exact hxsR.append hflat
   rcases hown.2 with ⟨hn,h0⟩|⟨g0,cap0,cur0,hv0,_,hh0,hnc,hcm,hcs,htake⟩
   ·
    have hes0:es=[]:=eJ h0
    have hrun:=run_append_nil (P:=C.P) w u ty e i z hd hi hiz ⟨b2,off2,none⟩ ys.length cap2 news (by rw[hnl,his]) hnews hpos (by omega)
     (by rw[hes0] at hbytes;simp only[aG,fF] at hbytes;omega)
    have hgb:=nN w ys.length 0 e (by omega);rw[hexec,hn,hyv,hrun,aCM]
    have:=rS (KV:=KV) (Kp:=Kp) hR (t:=t) hte (rest:=(Builtin.zeroCells z.cells (grownCap w ys.length 0 e-ys.length)).toList) hys ho2 hflat hgb.1 hgb.2
     (by rw[aK,hnl];have:=hcapz _ _ hgb.1;omega) (s':=s.setT t (es.length+ys.length,e)) (fun q=>rfl) (fun q=>by rw[bT];simp[hes0]) hdt (.inr ⟨_,h1⟩) (by simpa [hes0] using hmax') (by simpa [hes0] using hK)
    exact this
   ·by_cases hroom:es.length+ys.length≤cap0
    ·have hfit:es.length * i.size+news.length≤cur0.size:=by
      rw[hnl,his,hcs,← eH];exact lO _ hroom
     have hrun:=run_append_room (P:=C.P) w u ty e i hd hi g0 es.length cap0 cur0 hh0 ⟨b2,off2,none⟩ ys.length cap2 news (by rw[hnl,his]) hnews hn1 hroom hfit;rw[hexec,hv0,hyv,hrun]
     have hrow:(w.setRow g0 (cur0.toList.take (es.length * i.size)++news++cur0.toList.drop (es.length * i.size+news.length)).toArray).ownsRow 0 e (C.toCtx.sz e) (.slice (some ⟨g0,0,none⟩) (es.length+ys.length) cap0) (es.length+ys.length) (xs++news):=by
      rw[hszC,his];refine ⟨by rw[aK,hown.1,hnl,eH],.inr ⟨g0,cap0,_,rfl,bS _,sY hh0 _,hroom,hcm,?_,?_⟩⟩
      ·rw[his] at hfit;simp only[List.size_toArray,aK,eL,cH,lP];omega
      ·rw[htake];have:(es.length+ys.length) * te.sz=(xs++news).length:=by rw[aK,hown.1,hnl,eH]
       rw[this];simp only[cQ];rw[← cQ];exact List.take_left
     have hb0:=hblk g0 (by rw[hv0];rfl);obtain ⟨r1,r2⟩:=hR.tokStep (t:=t) (b:=g0) (fun k hk hne=>tG hne _) hrow rfl (by simpa using hmax') (s':=s.setT t (es.length+ys.length,e)) (fun q=>rfl) (fun q=>bT _ _ _ q) hdt (.inr ⟨es.length,ev x,xs,news,h1,e1,by rw[hv0];rfl,hb0.1,rfl⟩);refine ⟨_,.list (some t) (es++ys),_,r2,r1,?_,hK⟩;rw[← hlen];refine rR (off:=0) (sz:=te.sz) (vs:=xs++news) (pre:=xs++news) (by rw[hlen];exact tN _ _ _ _ _ _) (by simp) ?_ hes' hone' (by rw[hlen];exact hroom) hcm (bS _) (fun t' ht'=>by cases ht';rw[hlen];exact rQ _ _ _ _ _ _);rw[gW (by rw[aK,hown.1,hnl,hlen,eH];exact bG _)];rw[hlen] at *;exact hall.mono r2
    ·have hcell:∀ j u,xs[j]?=some u→w.cell? ((⟨g0,0,none⟩:Addr).add j)=some u:=by
      intro j u hj;rw[iL];simp only[World.cell?,hh0,Option.isSome_none,bR,↓reduceIte,fF];rw[← htake,kY] at hj;split at hj
      ·simpa using hj
      ·simp at hj
     have hrun:=run_append_grow (P:=C.P) w u ty e i z hd hi hiz ⟨g0,0,none⟩ es.length cap0 xs (by rw[hown.1,his]) hcell ⟨b2,off2,none⟩ ys.length cap2 news (by rw[hnl,his]) hnews (by omega) (by omega) (growslice_fits (by omega) hbytes);have hgb:=nN w (es.length+ys.length) cap0 e (by omega);rw[hexec,hv0,hyv,hrun,zE]
     have:=rS (KV:=KV) (Kp:=Kp) hR (t:=t) hte (es:=es++ys) (rest:=(Builtin.zeroCells z.cells (grownCap w (es.length+ys.length) cap0 e-(es.length+ys.length))).toList) hes' hone' hall (by rw[hlen];exact hgb.1) hgb.2
      (by rw[aK,aK,hnl,hown.1];have:=hcapz _ _ hgb.1;rw[eH] at this;omega) (s':=s.setT t (es.length+ys.length,e)) (fun q=>rfl) (fun q=>by rw[bT,hlen]) hdt (.inr ⟨_,h1⟩) hmax' hK
     rw[hlen] at this;exact this
  ·exact h.elim
end
end
end Go.AV
