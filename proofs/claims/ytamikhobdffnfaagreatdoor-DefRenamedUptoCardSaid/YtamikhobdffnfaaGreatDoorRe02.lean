/-
  Of DefRenamed.
-/
import Derived.Test.YtamikhobdffnfaaGreatDoorRe01
import Derived.Lib.AppendStr
import Derived.Lib.UnsafeStr
import Derived.Deep.LoopGhost
set_option linter.all false
set_option maxRecDepth 99999
set_option maxHeartbeats 0
namespace Go.AV
open Go Go.Proofs Tryz
section
def Gh.tok(g:Gh)(t n:Nat)(v:Value)(b:Nat)(xs:List Value):Gh :=
 ⟨λk=>if k=b then some xs else g.pi k,λt' m=>if t'=t/\m=n then some v else g.eta t' m,g.beta,g.env⟩
def rW(C:Cx)(s s':St)(t:Nat):Prop:=s'.ls=s.ls/\(C.det=true->s.lim<=s'.lim/\t<s'.lim)
section
variable {C:Cx} {F:Fr} {g:Gh} {s:St} {w:World} {ρ:Operand->Option A} {ev:Operand->Value}
theorem R.tokStep(h:R C.toCtx F g s w){w':World}{t n b:Nat}{e:TypeId}{v:Value}{xs:List Value}
  (hk:∀k,k<w.heap.size->k≠b->w'.heap[k]?=w.heap[k]?)(hrow:w'.ownsRow 0 e (C.toCtx.sz e) v n xs)(hb:v.ownBlock=some b)
  (hmax:∀m x,g.eta t m=some x->m<n)
  {s':St}(hO:∀q,s'.getO q=s.getO q)(hT:∀q,s'.getT q=if t=q then some (n,e) else s.getT q)(hl:rW C s s' t)
  (hcase:(b=w.heap.size/\(s.getT t=none\/∃n0,s.getT t=some n0))\/∃n0 v0 xs0 news,s.getT t=some (n0,e)/\g.eta t n0=some v0/\v0.ownBlock=some b/\g.pi b=some xs0/\xs=xs0++news)(he:(w'.os,w'.output)=(w.os,w.output):=by rfl) :
  R C.toCtx F (g.tok t n v b xs) s' w'/\g.le (g.tok t n v b xs):=by
 have hF:F b=none:=by
  rcases hcase with⟨rfl,_⟩|⟨n0,v0,xs0,news,h1,h2,h3,h4,_⟩
  .exact h.frm_new
  .obtain⟨v,xs,e1,_,_,h5⟩:=h.tok t n0 e h1;rw[h2]at e1;cases e1;exact(h5 b h3).2
 have hOb:∀c k,g.beta c=some k->g.pi k=none->k≠b:=by
  rintro c k hc hk' rfl;rcases hcase with⟨rfl,_⟩|⟨n0,v0,xs0,news,h1,h2,h3,h4,_⟩
  .exact h.bet_new c hc
  .rw[hk']at h4;cases h4
 have hTb:∀t' n' v' k,t'≠t->s.getT t'=some n'->g.eta t' n'.1=some v'->v'.ownBlock=some k->k≠b:=by
  rintro t' n' v' k hne ht' hv' hk' rfl;rcases hcase with⟨rfl,_⟩|⟨n0,v0,xs0,news,h1,h2,h3,h4,_⟩
  .obtain⟨v2,xs2,e1,_,_,h5⟩:=h.tok t' n'.1 n'.2 ht';rw[hv']at e1;cases e1;exact absurd (h.lt_pi (h5 _ hk').1) (Nat.lt_irrefl _)
  .exact h.sep t' t n' (n0,e) v' v0 k hne ht' h1 hv' h2 hk' h3
 have hle:g.le (g.tok t n v b xs):=by
  refine⟨λk pre hp=>?_,λt' m x hx=>?_,λ_ _ h=>h,rfl⟩
  .by_cases hkb:k=b
   .subst hkb;rcases hcase with⟨rfl,_⟩|⟨n0,v0,xs0,news,h1,h2,h3,h4,h5⟩
    .rw[h.pi_new]at hp;cases hp
    .rw[h4]at hp;cases hp;exact⟨news,by simp[Gh.tok,h5]⟩
   .exact⟨[],by simp[Gh.tok,hkb,hp]⟩
  .have:¬ (t'=t/\m=n):=by
    rintro⟨rfl,rfl⟩;exact absurd (hmax _ _ hx) (Nat.lt_irrefl _)
   simp only[Gh.tok,this,↓reduceIte];exact hx
 refine⟨⟨?_,?_,?_,?_,?_,?_,?_,?_,h.inj,?_,λx hx=>(h.lst x (by rw[<-hl.1];exact hx)).mono hle,h.bfr,he.trans h.env⟩,hle⟩
 .intro c o ho;rw[hO]at ho;obtain⟨k,h0,h1,h2,h3⟩:=h.obj c o ho;have hne:=hOb c k h0 h2;exact⟨k,h0,by rw[hk k (h.bet c k h0) hne];exact h1.mono hle,by simp[Gh.tok,hne,h2],h3⟩
 .intro t' n' e' ht';rw[hT]at ht';by_cases htt:t=t'
  .subst htt;simp only[↓reduceIte,bJ,lO]at ht';obtain⟨rfl,rfl⟩:=ht';refine⟨v,xs,by simp[Gh.tok],hrow,λm x hx=>?_,λk hk'=>?_⟩
   .by_cases hm:m=n
    .omega
    .simp only[Gh.tok,hm,and_false,↓reduceIte]at hx;have:=hmax _ _ hx;omega
   .rw[hb]at hk';cases hk';exact⟨by simp[Gh.tok],hF⟩
  .simp only[htt,↓reduceIte]at ht';obtain⟨v',xs',h1,h2,h3,h4⟩:=h.tok t' n' e' ht';have hne:∀m,¬ (t'=t/\m=n):=λm=>by rintro⟨rfl,_⟩;exact htt rfl
   refine⟨v',xs',?_,⟨h2.1,?_⟩,?_,?_⟩
   .simp only[Gh.tok];rw[if_neg (hne n')];exact h1
   .rcases h2.2 with hv|⟨k,cap,cur,hv,hb',hh,rest⟩
    .exact .inl hv
    .refine .inr ⟨k,cap,cur,hv,hb',?_,rest⟩;have hkb:=hTb t' (n',e') v' k (λe=>htt e.symm) ht' h1 (by rw[hv];rfl);rw[hk k (jA.1 hh).1 hkb];exact hh
   .intro m x hx;simp only[Gh.tok]at hx;rw[if_neg (hne m)]at hx;exact h3 m x hx
   .intro k hk';have hkb:=hTb t' (n',e') v' k (λe=>htt e.symm) ht' h1 hk';simp only[Gh.tok,hkb,↓reduceIte];exact h4 k hk'
 .intro t1 t2 n1 n2 v1 v2 k hne h1 h2 e1 e2 o1 o2;rw[hT]at h1 h2;simp only[Gh.tok]at e1 e2;by_cases ht1:t=t1
  .subst ht1;have ht2:¬ t=t2:=hne;have ht2':¬ t2=t:=λe=>hne e.symm
   simp only[↓reduceIte,bJ]at h1;subst h1;simp only[jV,↓reduceIte,bJ]at e1;subst e1;simp only[ht2,↓reduceIte]at h2;simp only[ht2',qG,↓reduceIte]at e2;rw[hb]at o1;cases o1;exact hTb t2 n2 v2 b ht2' h2 e2 o2 rfl
  .have ht1':¬ t1=t:=λe=>ht1 e.symm
   simp only[ht1,↓reduceIte]at h1;simp only[ht1',qG,↓reduceIte]at e1;by_cases ht2:t=t2
   .subst ht2;simp only[↓reduceIte,bJ]at h2;subst h2;simp only[jV,↓reduceIte,bJ]at e2;subst e2;rw[hb]at o2;cases o2;exact hTb t1 n1 v1 b ht1' h1 e1 o1 rfl
   .have ht2':¬ t2=t:=λe=>ht2 e.symm
    simp only[ht2,↓reduceIte]at h2;simp only[ht2',qG,↓reduceIte]at e2;exact h.sep t1 t2 n1 n2 v1 v2 k hne h1 h2 e1 e2 o1 o2
 .intro k pre hp;by_cases hkb:k=b
  .subst hkb;simp only[Gh.tok,↓reduceIte,bJ]at hp;subst hp;rcases hrow.2 with⟨rfl,_⟩|⟨k',cap,cur,hv,_,hh,_,_,_,htake⟩
   .cases hb
   .rw[hv]at hb;simp only[Value.ownBlock,bJ]at hb;subst hb;refine⟨cur.toList.drop (n * C.toCtx.sz e),e,(0,0),?_⟩;rw[hh,<-htake];simp
  .simp only[Gh.tok,hkb,↓reduceIte]at hp;rw[hk k (h.lt_pi hp) hkb];exact h.pis k pre hp
 .intro k o ho;have hkb:k≠b:=by rintro rfl;rw[hF]at ho;cases ho
  rw[hk k (h.lt_frm ho) hkb];refine⟨(h.frm k o ho).1,?_⟩;simp only[Gh.tok,hkb,↓reduceIte];exact(h.frm k o ho).2
 .intro k cs hc;obtain⟨pre,ty,fr,hp,hl,h1,hr⟩:=h.glb k cs hc;exact⟨pre,ty,fr,hp,hl,h1,λj c v hc hv=>(hr j c v hc hv).mono hle⟩
 .obtain⟨N,hN⟩:=h.fsh;refine⟨max N (t+1),λt' ht'=>⟨?_,λm=>?_,(hN t' aB).2.2⟩⟩
  .rw[hT];have:¬ t=t':=by omega
   simp only[this,↓reduceIte];exact(hN t' aB).1
  .have:¬ (t'=t/\m=n):=by omega
   simp only[Gh.tok,this,↓reduceIte];exact(hN t' aB).2.1 m
 .intro c k hc;have h1:=h.bet c k hc;by_cases hkb:k=b
  .subst hkb;rcases hrow.2 with⟨rfl,_⟩|⟨k',cap,cur,hv,_,hh,_⟩
   .cases hb
   .rw[hv]at hb;simp only[Value.ownBlock,bJ]at hb;subst hb;exact(jA.1 hh).1
  .have h2:=hk k h1 hkb;rw[aAI h1]at h2;exact(jA.1 h2).1
 .intro hd c hc;obtain⟨l1,l2⟩:=hl.2 hd;obtain⟨d1,d2⟩:=h.dtm hd c aB;refine⟨d1,λm=>?_⟩;have:¬ (c=t/\m=n):=by omega
  simp only[Gh.tok,this,↓reduceIte];exact d2 m
theorem R.tokNil(h:R C.toCtx F g s w)(e:TypeId){N:Nat}(n2:∀m,g.eta N m=none){s':St}(hO:∀q,s'.getO q=s.getO q)
  (hT:∀q,s'.getT q=if N=q then some (0,e) else s.getT q)(hl:rW C s s' N) :
  ∃g',g.le g'/\g'.eta N 0=some (.slice none 0 0)/\R C.toCtx F g' s' w:=by
 have hle:g.le { g with eta:=λt' m=>if t'=N/\m=0 then some (.slice none 0 0) else g.eta t' m } :=
  ⟨fun k pre hp => ⟨[],by simpa using hp⟩,fun t m x hx => by
   have:¬ (t=N/\m=0):=by rintro⟨rfl,rfl⟩;rw[n2]at hx;cases hx
   simp only[this,↓reduceIte];exact hx,λ_ _ h=>h,rfl⟩
 refine⟨_,hle,by simp,⟨?_,?_,?_,h.pis,h.frm,?_,?_,h.bet,h.inj,?_,λx hx=>(h.lst x (by rw[<-hl.1];exact hx)).mono hle,h.bfr,h.env⟩⟩
 .intro b o ho;rw[hO]at ho;obtain⟨k,h0,h1,h2⟩:=h.obj b o ho;exact⟨k,h0,h1.mono hle,h2⟩
 .intro t' n' e' ht';rw[hT]at ht';by_cases htt:N=t'
  .subst htt;simp only[↓reduceIte,bJ,lO]at ht';obtain⟨rfl,rfl⟩:=ht';refine⟨.slice none 0 0,[],by simp,World.ownsRow_nil w 0 e _,λm x hx=>?_,λk hk=>by cases hk⟩;by_cases hm:m=0
   .omega
   .simp only[hm,and_false,↓reduceIte]at hx;rw[n2]at hx;cases hx
  .simp only[htt,↓reduceIte]at ht';obtain⟨v,xs,h1,h2,h3,h4⟩:=h.tok t' n' e' ht';have hne:∀m,¬ (t'=N/\m=0):=λm=>by rintro⟨rfl,_⟩;exact htt rfl
   have hne':¬ t'=N:=λe=>htt e.symm
   refine⟨v,xs,?_,h2,λm x hx=>?_,h4⟩
   .simp only[hne',qG,↓reduceIte];exact h1
   .simp only[hne',qG,↓reduceIte]at hx;exact h3 m x hx
 .intro t1 t2 n1' n2' v1 v2 k hne h1 h2 e1 e2 o1 o2;rw[hT]at h1 h2;by_cases ht1:N=t1
  .subst ht1;simp only[↓reduceIte,bJ]at h1;subst h1;simp only[jV,↓reduceIte,bJ]at e1;subst e1;cases o1
  .have ht1':¬ t1=N:=λe=>ht1 e.symm
   simp only[ht1,↓reduceIte]at h1;simp only[ht1',qG,↓reduceIte]at e1;by_cases ht2:N=t2
   .subst ht2;simp only[↓reduceIte,bJ]at h2;subst h2;simp only[jV,↓reduceIte,bJ]at e2;subst e2;cases o2
   .have ht2':¬ t2=N:=λe=>ht2 e.symm
    simp only[ht2,↓reduceIte]at h2;simp only[ht2',qG,↓reduceIte]at e2;exact h.sep t1 t2 n1' n2' v1 v2 k hne h1 h2 e1 e2 o1 o2
 .intro b cs hc;obtain⟨pre,ty,fr,hp,hl,h1,hr⟩:=h.glb b cs hc;exact⟨pre,ty,fr,hp,hl,h1,λj c v hc hv=>(hr j c v hc hv).mono hle⟩
 .obtain⟨M,hM⟩:=h.fsh;refine⟨max M (N+1),λt' ht'=>⟨?_,λm=>?_,(hM t' aB).2.2⟩⟩
  .rw[hT];have:¬ N=t':=by omega
   simp only[this,↓reduceIte];exact(hM t' aB).1
  .have:¬ (t'=N/\m=0):=by omega
   simp only[this,↓reduceIte];exact(hM t' aB).2.1 m
 .intro hd c hc;obtain⟨l1,l2⟩:=hl.2 hd;obtain⟨d1,d2⟩:=h.dtm hd c aB;refine⟨d1,λm=>?_⟩;have:¬ (c=N/\m=0):=by omega
  simp only[this,↓reduceIte];exact d2 m
theorem aBK(P:Program)(w:World)(t u ty e:TypeId)(i:TypeInfo)(ht:P.underlying t=some (.slice e))(hu:P.underlying u=some (.slice e))(hi:P.info? e=some i)(base a:Option Addr)(n cap c:Nat)(h:n<=cap) :
  (Builtin.append_ #[t,u] ty #[.slice base n cap,.slice a 0 c]).run P w=.ok (.slice base n cap) w:=by
 have hs:∀ad:Addr,(storeCells ad []).run P w=.ok () w:=λad=>rfl
 cases base<;>cases a <;>
  simp[Builtin.append_,dX ht,dX hu,sizeOf,typeInfo,hi,Builtin.lenOf,h,Builtin.firstCells,loadCells,loadCellsFrom,hs]
theorem aBL(z:Array Value)(n:Nat):(Builtin.zeroCells z n).size=n * z.size:=by simp[Builtin.zeroCells]
theorem qZ(w:World)(need old:Nat)(e:TypeId)(h:need<=9223372036854775807):need<=grownCap w need old e/\grownCap w need old e<=maxLen :=
 ⟨grownCap_ge w need old e,grownCap_le_maxLen w need old e (by unfold maxLen;omega)⟩
theorem zD(g:Gh)(t n:Nat)(v:Value)(b:Nat)(xs:List Value):(g.tok t n v b xs).pi b=some xs:=by simp[Gh.tok]
theorem wQ(g:Gh)(t n:Nat)(v:Value)(b:Nat)(xs:List Value):(g.tok t n v b xs).eta t n=some v:=by simp[Gh.tok]
theorem aGa(l:List Value)(z:Array Value):l.toArray++z=(l++z.toList).toArray:=by apply Array.ext';simp
theorem aCR(k l:List Value)(z:Array Value):k.toArray++l.toArray++z=((k++l)++z.toList).toArray:=by apply Array.ext';simp
theorem wV{KV Kp:St->A->Prop}(hR:R C.toCtx F g s w){t:Nat}{e:TypeId}{es:List A}{xs rest:List Value}{cap:Nat}{te:TI}(hte:C.tt e=some te)
  (hes:∀y,y∈es->y.cells.length=te.sz)(hone:∀y,y∈es->∀c,c∈y.cells->c.one=true)(hxs:Rzs g (flat es) xs)
  (hcap:es.length<=cap)(hcm:cap<=maxLen)(hrest:(xs++rest).length=cap * te.sz)
  {s':St}(hO:∀q,s'.getO q=s.getO q)(hT:∀q,s'.getT q=if t=q then some (es.length,e) else s.getT q)(hl:rW C s s' t)
  (ht:s.getT t=none\/∃n0,s.getT t=some n0)(hmax:∀m x,g.eta t m=some x->m<es.length)
  (hK:KV s' (.list (some t) es)) :
  OutV C F g KV Kp (.ok (.value (.slice (some ⟨w.heap.size,0,none⟩) es.length cap)) (w.drew.alloc (.cells (xs++rest).toArray e))):=by
 have hszC:C.toCtx.sz e=te.sz:=vR hte;have hfl:=wN hes;have hxl:xs.length=es.length * te.sz:=by rw[hxs.1,hfl]
 have hrow:(w.drew.alloc (.cells (xs++rest).toArray e)).ownsRow 0 e (C.toCtx.sz e) (.slice (some ⟨w.heap.size,0,none⟩) es.length cap) es.length xs:=by
  rw[hszC];refine⟨hxl,.inr ⟨w.heap.size,cap,_,rfl,aU _,wL w.drew _,hcap,hcm,by simpa using hrest,?_⟩⟩;rw[<-hxl];simp
 obtain⟨h1,h2⟩:=hR.tokStep (t:=t) (n:=es.length) (b:=w.heap.size) (w':=w.drew.alloc (.cells (xs++rest).toArray e)) (λk hk _=>uT w.drew _ hk) hrow rfl hmax hO hT hl (.inl ⟨rfl,ht⟩);refine⟨_,_,_,h2,h1,?_,hK⟩;refine wR (off:=0) (vs:=xs) (pre:=xs) (zD _ _ _ _ _ _) bD ?_ hes hone hcap hcm (aU _) (λt' ht'=>by cases ht';exact wQ _ _ _ _ _ _);rw[dW aB];exact hxs.mono h2
theorem aCe(hR:R C.toCtx F g s w){KV:St->A->Prop}{n:Nat}{e:TypeId}{ys:List A}(h:newT C s n e ys KV) :
  ∃N s',(∀m,g.eta N m=none)/\s.getT N=none/\(∀q,s'.getO q=s.getO q)/\(∀q,s'.getT q=if N=q then some (n,e) else s.getT q)/\rW C s s' N /\
   KV s' (.list (some N) ys):=by
 unfold newT at h;cases hd:C.det with
 | false =>
  rw[hd]at h;obtain⟨N,hN⟩:=hR.fsh;obtain⟨n1,n2,_⟩:=hN N (bT _);exact⟨N,s.setT N (n,e),n2,n1,λq=>rfl,λq=>dE s N (n,e) q,⟨rfl,λhh=>by rw[hd]at hh;cases hh⟩,h N n1⟩
 | true =>
  rw[hd]at h;have hb:=(hR.dtm hd s.lim (bT _)).2;exact⟨s.lim,s.newT (n,e),hb,hR.freeT hb,λq=>rfl,λq=>aEz s (n,e) q,⟨rfl,λ_=>⟨Nat.le_succ _,jB _⟩⟩,h⟩
theorem aGA{te:TI}{z:Value}(hzr:∀g,Rzs g te.zero z.cells.toList)(hone:∀c,c∈te.zero->c.one=true)(k:Nat) :
  ∃J:List A,J.length=k * te.zero.length/\(∀c,c∈J->c.one=true)/\∀g,Rzs g J (Builtin.zeroCells z.cells k).toList:=by
 have hl:∀g,z.cells.size=te.zero.length:=λg=>by simpa using(hzr g).1
 refine⟨(List.range (k * te.zero.length)).map (λi=>te.zero[i % te.zero.length]!),by simp,λc hc=>?_,λg=>⟨by simp[Builtin.zeroCells,hl g],λj c v hc hv=>?_⟩⟩
 .simp only[cC,uS]at hc;obtain⟨i,hi,rfl⟩:=hc;have h0:0<te.zero.length:=Nat.pos_of_ne_zero (by rintro h;rw[h]at hi;simp at hi);have hm:i % te.zero.length<te.zero.length:=Nat.mod_lt _ h0;rw[getElem!_pos te.zero _ hm];exact hone _ (lN hm)
 .rw[lB]at hc;simp only[Builtin.zeroCells,Array.toList_map,Array.toList_range,lB,hl g]at hv;cases hr:(List.range (k * te.zero.length))[j]? with
  | none=>rw[hr]at hc;cases hc
  | some i =>
   rw[hr]at hc hv;simp only[mQ,bJ]at hc hv;have hj:=dV.1 hr;obtain⟨hj1,hj2⟩:=hj;simp only[List.length_range]at hj1;simp only[List.getElem_range]at hj2;subst hj2;have h0:0<te.zero.length:=Nat.pos_of_ne_zero (by rintro h;rw[h]at hj1;simp at hj1);have hm:j % te.zero.length<te.zero.length:=Nat.mod_lt _ h0;have hm':j % te.zero.length<z.cells.size:=by rw[hl g];exact hm
   rw[getElem!_pos te.zero _ hm]at hc;rw[getElem!_pos z.cells _ hm']at hv;refine(hzr g).2 (j % te.zero.length) c v (by rw[aY hm,hc]) ?_;rw[<-hv];simp[hm']
theorem aEO{KV Kp:St->A->Prop}(hR:R C.toCtx F g s w)(hd:C.det=false){e:TypeId}{n cap:Nat}{cs J:List A}{xs rest:List Value}(hxs:Rzs g cs xs)(hJ:Rzs g J rest)
  (h1:∀c,c∈cs->c.one=true)(h2:∀c,c∈J->c.one=true)(hn:n<=cap)(hm:cap<=maxLen)(h:∀b,s.getO b=none->KV (s.setO b (.cells e (cs++J))) (.mg b n cap)) :
  OutV C F g KV Kp (.ok (.value (.slice (some ⟨w.heap.size,0,none⟩) n cap)) (w.drew.alloc (.cells (xs++rest).toArray e))):=by
 obtain⟨b,hb⟩:=hR.some_free;have hR':R C.toCtx F g s w.drew:=hR.heap rfl;have hK:=h b (hR.free hb)
 have hall:ObRz g (.cells e (cs++J)) (some (.cells (xs++rest).toArray e)):=⟨xs++rest,[],by simp,hxs.append hJ,λc hc=>by
  rcases cW.1 hc with hc|hc
  .exact h1 c hc
  .exact h2 c hc⟩
 refine⟨_,_,_,zO hb _,hR'.newObj hall hb (s':=s.setO b (.cells e (cs++J))) (λq=>aJ s b _ q) (λq=>rfl) rfl (by rw[hd];simp),?_,hK⟩;exact .mg b n cap _ (by simp[Gh.bx]) hn hm
theorem wS(bs:List UInt8):(eP bs).length=bs.length:=by simp[eP]
theorem aBO(bs:List UInt8):∀y,y∈eP bs->y.cells.length=1:=by
 intro y hy;simp only[eP,cC]at hy;obtain⟨c,_,rfl⟩:=hy;rfl
theorem aEV(bs:List UInt8):∀y,y∈eP bs->∀c,c∈y.cells->c.one=true:=by
 intro y hy c hc;simp only[eP,cC]at hy;obtain⟨x,_,rfl⟩:=hy;simp only[A.cells,bW]at hc;subst hc;rfl
theorem aHA(bs:List UInt8):flat (eP bs)=eP bs:=by
 induction bs with
 | nil=>rfl
 | cons c r ih=>simp only[eP,bS,flat,nL]at *;rw[ih];rfl
theorem aO5(g:Gh)(bs:List UInt8):Rzs g (eP bs) (Lib.strCells ⟨bs.toArray⟩):=by
 refine⟨by simp[eP,Lib.strCells],λj c v hc hv=>?_⟩;simp only[eP,lB]at hc;simp only[Lib.strCells,lB]at hv;cases hb:bs[j]? with
 | none=>rw[hb]at hc;cases hc
 | some x =>
  rw[hb]at hc hv;simp only[mQ,bJ]at hc hv;subst hc hv;exact .int _ _
theorem aSn{ti:TI}{t u e:TypeId}(hti:C.tt t=some ti)(h:aAv C ti u=some e):C.P.underlying t=some (.slice e)/\C.P.underlying u=some .string/\∃te,C.tt e=some te/\te.sz=1/\te.bytes=1:=by
 unfold aAv at h;split at h
 .rename_i e0 hk;split at h
  .rename_i tu te htu hte;split at h
   .rename_i hku;split at h
    .rename_i hke;split at h
     .rename_i hc;cases h;obtain⟨d,hd,hok⟩:=iX hti;rw[hk]at hok;simp only[TK.ok]at hok;subst hok;obtain⟨d2,hd2,hok2⟩:=iX htu;rw[hku]at hok2;simp only[TK.ok]at hok2;subst hok2;exact⟨hd,hd2,te,hte,hc⟩
     .cases h
    .cases h
   .cases h
  .cases h
 .cases h
theorem aPa(hR:R C.toCtx F g s w){KV:St->A->Prop}{n:Nat}{e:TypeId}(h:aAy C s n e KV) :
  ∃N s',(∀m,g.eta N m=none)/\s.getT N=none/\(∀q,s'.getO q=s.getO q)/\(∀q,s'.getT q=if N=q then some (0,e) else s.getT q)/\rW C s s' N /\
   KV s' (.gr N n):=by
 unfold aAy at h;cases hd:C.det with
 | false =>
  rw[hd]at h;obtain⟨N,hN⟩:=hR.fsh;obtain⟨n1,n2,_⟩:=hN N (bT _);exact⟨N,s.setT N (0,e),n2,n1,λq=>rfl,λq=>dE s N (0,e) q,⟨rfl,λhh=>by rw[hd]at hh;cases hh⟩,h N n1⟩
 | true =>
  rw[hd]at h;have hb:=(hR.dtm hd s.lim (bT _)).2;exact⟨s.lim,s.newT (0,e),hb,hR.freeT hb,λq=>rfl,λq=>aEz s (0,e) q,⟨rfl,λ_=>⟨Nat.le_succ _,jB _⟩⟩,h⟩
theorem aSQ{KV Kp:St->A->Prop}{ty:TypeId}{x y:Operand}{t u e:TypeId}{bs:List UInt8}{a:A}{ti:TI}{dst:Option Tmp}{pos:String}{after:Array Edge}{gd:Option (Nat × Bool)}
  (hR:R C.toCtx F g s w)(he:∀x a,ρ x=some a->Rz g a (ev x))(hx:ρ x=some a)(hy:ρ y=some (.str bs))(hti:C.tt t=some ti)(hE:aAv C ti u=some e)(h:yK C s e bs KV a) :
  OutV C F g KV Kp ((execOp ev ⟨dst,.call ⟨.builtin .append,#[x,y],#[t,u]⟩,ty,pos,after,gd⟩).run C.P w):=by
 obtain⟨hd,hdu,te,hte,hsz,hby⟩:=aSn hti hE;obtain⟨i,z,hi,his,hib,hiz,hzr⟩:=(C.htt e te hte).info
 have hexec:(execOp ev ⟨dst,.call ⟨.builtin .append,#[x,y],#[t,u]⟩,ty,pos,after,gd⟩).run C.P w =
   ((Builtin.append_ #[t,u] ty #[ev x,ev y]).run C.P w).andThen λv w'=>.ok (.value v) w':=by
  simp only[execOp,resolve,invoke,builtin,bP,cD,bN,lC,bS,cY]
 have hszC:C.toCtx.sz e=te.sz:=vR hte;have hyv:=(he y _ hy).str_inv;have hbl:(ByteArray.mk bs.toArray).size=bs.length:=by simp[ByteArray.size]
 have hsl:(Lib.strCells ⟨bs.toArray⟩).length=bs.length:=by simp[Lib.strCells]
 have hzs:z.cells.size=1:=by
  have h1:=(hzr g).1;rw[(C.htt e te hte).len,hsz]at h1;simpa using h1
 have hcapz:∀(n cap:Nat),n<=cap->(Builtin.zeroCells z.cells (cap-n)).toList.length+n=cap:=by
  intro n cap h;simp only[oV,aBL,hzs];omega
 have hflat:Rzs g (flat (eP bs)) (Lib.strCells ⟨bs.toArray⟩):=by rw[aHA];exact aO5 g bs
 cases a<;>simp only[yK]at h
 case nils =>
  obtain⟨hlim,h⟩:=h;have hxv:=(he x _ hx).nils_inv;obtain⟨N,s',m1,m2,m3,m4,m5,m6⟩:=aCe hR h;by_cases h0:bs=[]
  .subst h0
   have hrun:(Builtin.append_ #[t,u] ty #[.slice none 0 0,.string ⟨([]:List UInt8).toArray⟩]).run C.P w=.ok (.slice none 0 0) w:=by
    have hs:(ByteArray.mk ([]:List UInt8).toArray).size=0:=rfl;simp[Builtin.append_,dX hd,dX hdu,sizeOf,typeInfo,hi,Builtin.lenOf,hs,Builtin.firstCells]
   rw[hexec,hxv,hyv,hrun];obtain⟨g',h2,h3,h4⟩:=hR.tokNil e m1 m3 m4 m5;exact⟨g',_,_,h2,h4,.list0 (some N) none 0 (aU _) (λt' ht'=>by cases ht';exact h3),m6⟩
  .have hpos:0<bs.length:=by cases bs with|nil=>exact absurd rfl h0|cons=>simp
   have hrun:=run_append_nil_string (P:=C.P) w t u ty e i z hd hdu hi hiz ⟨bs.toArray⟩ (by rw[hbl];exact hpos) (by rw[hbl];omega) (by rw[hbl,hib,hby];omega);rw[hbl]at hrun;have hgb:=qZ w bs.length 0 e aB;rw[hexec,hxv,hyv,hrun]
   rw[show(Array.map (λb:UInt8=>Value.int IntKind.u8 (b.toNat:Int)) (ByteArray.mk bs.toArray).data++Builtin.zeroCells z.cells (grownCap w bs.length 0 e-bs.length)) =
    (Lib.strCells ⟨bs.toArray⟩++(Builtin.zeroCells z.cells (grownCap w bs.length 0 e-bs.length)).toList).toArray by apply Array.ext';simp[Lib.strCells]]
   have hlb:=wS bs
   have:=wV (KV:=KV) (Kp:=Kp) hR (t:=N) hte (es:=eP bs) (xs:=Lib.strCells ⟨bs.toArray⟩) (cap:=grownCap w bs.length 0 e) (rest:=(Builtin.zeroCells z.cells (grownCap w bs.length 0 e-bs.length)).toList)
    (λy hy=>by rw[hsz];exact aBO bs y hy) (aEV bs) hflat (by rw[hlb];exact hgb.1) hgb.2 (by rw[aG,hsl,hsz,Nat.mul_one];have:=hcapz _ _ hgb.1;omega)
    m3 (by rw[hlb];exact m4) m5 (.inl m2) (λm x hx=>by rw[m1]at hx;cases hx) m6
   rw[hlb]at this;exact this
 case list tk es =>
  cases tk with
  | none=>exact h.elim
  | some t0 =>
  obtain⟨⟨h1,h2,h3⟩,hK⟩:=h;obtain⟨ax,capx,hxv,hmx,hcx,htk,hxr⟩:=(he x _ hx).list_inv;obtain⟨v,xs,e1,hown,hmax,hblk⟩:=hR.tok t0 es.length e h1;have hvx:v=ev x:=by have:=htk t0 rfl;rw[e1]at this;exact yU this
  subst hvx;rw[hszC,hsz]at hown;have hlb:=wS bs;have hlen:(es++eP bs).length=es.length+bs.length:=by simp[hlb]
  have hdt:rW C s (s.setT t0 (es.length+bs.length,e)) t0:=⟨rfl,λhd=>⟨bT _,Nat.lt_of_not_le λhle=>by
   have:=(hR.dtm hd t0 hle).2 es.length;rw[this]at e1;cases e1⟩⟩
  by_cases h0:bs=[]
  .subst h0
   have hrun:(Builtin.append_ #[t,u] ty #[.slice ax es.length capx,.string ⟨([]:List UInt8).toArray⟩]).run C.P w=.ok (.slice ax es.length capx) w:=by
    have hs:(ByteArray.mk ([]:List UInt8).toArray).size=0:=rfl;have hst:∀ad:Addr,(storeCells ad []).run C.P w=.ok () w:=λad=>rfl
    cases ax<;>simp[Builtin.append_,dX hd,dX hdu,sizeOf,typeInfo,hi,Builtin.lenOf,hs,Builtin.firstCells,hcx,hst]
   rw[hexec,hxv,hyv,hrun];have hx':=he x _ hx;rw[hxv]at hx';refine⟨g,.list (some t0) es,_,gR g,hR.weaken (s':=s.setT t0 (es.length,e)) ⟨λb o ho=>ho,λk n hn=>?_,λ_ h=>h⟩ (λ_=>bT _),hx',by simpa [eP]using hK⟩;rw[dE]at hn;by_cases htk:t0=k
   .subst htk;simp only[↓reduceIte]at hn;rw[h1];exact hn
   .simpa only[htk,↓reduceIte]using hn
  .have hpos:0<bs.length:=by cases bs with|nil=>exact absurd rfl h0|cons=>simp
   have hmax':∀m x,g.eta t0 m=some x->m<(es++eP bs).length:=λm x hx=>by have:=hmax m x hx;rw[hlen];omega
   have hone':∀y,y∈es++eP bs->∀c,c∈y.cells->c.one=true:=by
    intro q hq c hc;rcases cW.1 hq with hq|hq
    .rcases hxr with rfl|⟨b,off,sz,pre,_,_,_,_,ho,_⟩
     .cases hq
     .exact ho q hq c hc
    .exact aEV bs q hq c hc
   have hes':∀y,y∈es++eP bs->y.cells.length=te.sz:=by
    intro q hq;rw[hsz];rcases cW.1 hq with hq|hq
    .exact h2 q hq
    .exact aBO bs q hq
   have hxsR:Rzs g (flat es) xs:=by
    obtain⟨a',cap',q1,_,_,q2⟩:=(he x _ hx).to_flat;rcases q2 with rfl|⟨b',off',sz',pre',q3,q4,q5,q6,q7,q8⟩
    .have:xs=[]:=fK (by simpa using hown.1);rw[this];exact .nil g
    .by_cases hes0:es=[]
     .subst hes0;have:xs=[]:=fK (by simpa using hown.1);rw[this];exact .nil g
     .have hp0:0<es.length:=by cases es with|nil=>exact absurd rfl hes0|cons=>simp
      have hsz':sz'=1:=by rw[<-q6 _ (lN hp0),h2 _ (lN hp0)]
      subst q3;rcases hown.2 with⟨hn,h0⟩|⟨g0,cap0,cur0,hv0,_⟩
      .omega
      .have hb0:=hblk g0 (by rw[hv0];rfl);rw[hv0]at q1;simp only[qY,bJ,tJ,rE,jV]at q1;obtain⟨⟨rfl,rfl⟩,rfl⟩:=q1;rw[hb0.1]at q4;cases q4;rw[hsz',rY,dW (by rw[hown.1];exact bT _)]at q8;exact q8
   have hall:Rzs g (flat (es++eP bs)) (xs++Lib.strCells ⟨bs.toArray⟩):=by rw[aHw];exact hxsR.append hflat
   rcases hown.2 with⟨hn,h0'⟩|⟨g0,cap0,cur0,hv0,_,hh0,hnc,hcm,hcs,htake⟩
   .have hes0:es=[]:=fK h0';have hrun:=run_append_nil_string (P:=C.P) w t u ty e i z hd hdu hi hiz ⟨bs.toArray⟩ (by rw[hbl];exact hpos) (by rw[hbl];omega) (by rw[hbl,hib,hby];omega);rw[hbl]at hrun;have hgb:=qZ w bs.length 0 e aB;rw[hexec,hn,hyv,hrun]
    rw[show(Array.map (λb:UInt8=>Value.int IntKind.u8 (b.toNat:Int)) (ByteArray.mk bs.toArray).data++Builtin.zeroCells z.cells (grownCap w bs.length 0 e-bs.length)) =
     (Lib.strCells ⟨bs.toArray⟩++(Builtin.zeroCells z.cells (grownCap w bs.length 0 e-bs.length)).toList).toArray by apply Array.ext';simp[Lib.strCells]]
    have:=wV (KV:=KV) (Kp:=Kp) hR (t:=t0) hte (es:=eP bs) (xs:=Lib.strCells ⟨bs.toArray⟩) (cap:=grownCap w bs.length 0 e) (rest:=(Builtin.zeroCells z.cells (grownCap w bs.length 0 e-bs.length)).toList)
     (λy hy=>by rw[hsz];exact aBO bs y hy) (aEV bs) hflat (by rw[hlb];exact hgb.1) hgb.2 (by rw[aG,hsl,hsz,Nat.mul_one];have:=hcapz _ _ hgb.1;omega)
     (s':=s.setT t0 (es.length+bs.length,e)) (λq=>rfl) (λq=>by rw[dE];simp[hes0,hlb]) hdt (.inr ⟨_,h1⟩) (by simpa [hes0]using hmax') (by simpa [hes0]using hK)
    rw[hlb]at this;exact this
   .by_cases hroom:es.length+bs.length<=cap0
    .have hcs':cur0.size=cap0:=by rw[hcs,Nat.mul_one]
     have hrun:=Lib.run_append_room_string (P:=C.P) w t u ty e i hd hdu hi (by rw[his,hsz]) g0 es.length cap0 cur0 hh0 ⟨bs.toArray⟩ (by rw[hbl];exact hroom) (by rw[hbl];omega);rw[hbl]at hrun;rw[hexec,hv0,hyv,hrun]
     have hrow:(w.setRow g0 (cur0.toList.take es.length++Lib.strCells ⟨bs.toArray⟩++cur0.toList.drop (es.length+bs.length)).toArray).ownsRow 0 e (C.toCtx.sz e) (.slice (some ⟨g0,0,none⟩) (es.length+bs.length) cap0) (es.length+bs.length) (xs++Lib.strCells ⟨bs.toArray⟩):=by
      rw[hszC,hsz];refine⟨by rw[aG,hown.1,hsl];omega,.inr ⟨g0,cap0,_,rfl,aU _,yW hh0 _,hroom,hcm,?_,?_⟩⟩
      .simp only[List.size_toArray,aG,bK,dR,oV,hsl];omega
      .rw[Nat.mul_one]at htake⊢;rw[htake];have:es.length+bs.length=(xs++Lib.strCells ⟨bs.toArray⟩).length:=by rw[aG,hown.1,hsl];omega
       rw[this];simp only[bI];rw[<-bI];exact List.take_left
     have hb0:=hblk g0 (by rw[hv0];rfl);obtain⟨r1,r2⟩:=hR.tokStep (t:=t0) (b:=g0) (λk hk hne=>zH hne _) hrow rfl (by rw[<-hlen];exact hmax') (s':=s.setT t0 (es.length+bs.length,e)) (λq=>rfl) (λq=>dE _ _ _ q) hdt (.inr ⟨es.length,ev x,xs,Lib.strCells ⟨bs.toArray⟩,h1,e1,by rw[hv0];rfl,hb0.1,rfl⟩);refine⟨_,.list (some t0) (es++eP bs),_,r2,r1,?_,hK⟩;rw[<-hlen];refine wR (off:=0) (sz:=te.sz) (vs:=xs++Lib.strCells ⟨bs.toArray⟩) (pre:=xs++Lib.strCells ⟨bs.toArray⟩) (by rw[hlen];exact zD _ _ _ _ _ _) bD ?_ hes' hone' (by rw[hlen];exact hroom) hcm (aU _) (λt' ht'=>by cases ht';rw[hlen];exact wQ _ _ _ _ _ _);rw[dW (by rw[aG,hown.1,hsl,hlen,hsz];omega)];rw[hlen]at *;exact hall.mono r2
    .have hcell:∀j u,xs[j]?=some u->w.cell? ((⟨g0,0,none⟩:Addr).add j)=some u:=by
      intro j u hj;rw[lE];simp only[World.cell?,hh0,Option.isSome_none,cJ,↓reduceIte,gI];rw[<-htake,nK]at hj;split at hj
      .simpa using hj
      .simp at hj
     have hrun:=Lib.run_append_grow_string (P:=C.P) w t u ty e i z hd hdu hi hiz ⟨g0,0,none⟩ es.length cap0 xs (by rw[hown.1,his,hsz]) hcell ⟨bs.toArray⟩ (by rw[hbl];omega) (by rw[hbl];omega)
      (growslice_fits (by rw[hbl];omega) (by rw[hbl,hib,hby];omega))
     rw[hbl]at hrun;have hgb:=qZ w (es.length+bs.length) cap0 e aB;rw[hexec,hv0,hyv,hrun,aCR]
     have:=wV (KV:=KV) (Kp:=Kp) hR (t:=t0) hte (es:=es++eP bs) (xs:=xs++Lib.strCells ⟨bs.toArray⟩) (cap:=grownCap w (es.length+bs.length) cap0 e) (rest:=(Builtin.zeroCells z.cells (grownCap w (es.length+bs.length) cap0 e-(es.length+bs.length))).toList) hes' hone' hall (by rw[hlen];exact hgb.1) hgb.2
      (by rw[aG,aG,hsl,hown.1,hsz];have:=hcapz _ _ hgb.1;omega) (s':=s.setT t0 (es.length+bs.length,e)) (λq=>rfl) (λq=>by rw[dE,hlen]) hdt (.inr ⟨_,h1⟩) hmax' hK
     rw[hlen]at this;exact this
theorem aMw(P:Program)(w:World)(t u ty e:TypeId)(k:IntKind)(i:TypeInfo)(z:Value)(ht:P.underlying t=some (.slice e))(hu:P.underlying u=some (.int k))(hi:P.info? e=some i)(hz:i.zero=some z)
  (hs:i.size≠0)(n:Nat)(h0:0<n)(hn:n<=65536)(hb:n * i.bytes<=281474976710656) :
  (Builtin.append_ #[t,u] ty #[.slice none 0 0,.int .i64 n]).run P w = .ok (.slice (some ⟨w.heap.size,0,none⟩) n (grownCap w n 0 e))
   (w.drew.alloc (.cells (Builtin.zeroCells z.cells n++Builtin.zeroCells z.cells (grownCap w n 0 e-n)) e)):=by
 have hw:IntKind.i64.wrap (n:Int)=n:=IntWalk.i64_in _ ⟨by omega,by omega⟩;have h1:¬ ((n:Int)<0):=by omega
 have h2:¬ ((281474976710656:Int)<(n:Int) * (i.bytes:Int)):=by
  have:((n * i.bytes:Nat):Int)<=281474976710656:=by omega
  rw[Int.natCast_mul]at this;omega
 have h3:n≠0:=by omega
 have h63':¬ (9223372036854775807<(n:Int)):=by omega
 have h48':¬ (281474976710656<Builtin.nextslicecap n 0 * i.bytes):=by rw[nextslicecap_zero h0];omega
 have h4:¬ (n * i.size=0):=by
  intro h;rcases Nat.mul_eq_zero.1 h with h|h
  .exact h3 h
  .exact hs h
 simp[Builtin.append_,dX ht,dX hu,sizeOf,typeInfo,zeroValue,hi,hz,hw,h1,h2,h3,hs,h63',h48',Builtin.firstCells,Question.forced,newRow,grownCap,asInt,asIntOf];intro h;exact absurd h h4
theorem aTJ{KV Kp:St->A->Prop}{ty:TypeId}{x y:Operand}{t u:TypeId}{n:Int}{a:A}{ti:TI}{dst:Option Tmp}{pos:String}{after:Array Edge}{gd:Option (Nat × Bool)}
  (hR:R C.toCtx F g s w)(he:∀x a,ρ x=some a->Rz g a (ev x))(hx:ρ x=some a)(hy:ρ y=some (.int .i64 n))(hti:C.tt t=some ti)(h:yL C s ti u n KV a) :
  OutV C F g KV Kp ((execOp ev ⟨dst,.call ⟨.builtin .append,#[x,y],#[t,u]⟩,ty,pos,after,gd⟩).run C.P w):=by
 cases a<;>simp only[yL]at h
 split at h
 .rename_i e hk;split at h
  .rename_i te tu hte htu;split at h
   .rename_i k hku;obtain⟨⟨h0,h1,h2,h3⟩,h⟩:=h;obtain⟨d,hd,hok⟩:=iX hti;rw[hk]at hok;simp only[TK.ok]at hok;subst hok;obtain⟨d2,hd2,hok2⟩:=iX htu;rw[hku]at hok2;simp only[TK.ok]at hok2;subst hok2;obtain⟨i,z,hi,his,hib,hiz,hzr⟩:=(C.htt e te hte).info
    have hzs:z.cells.size=te.sz:=by
     have h1:=(hzr g).1;rw[(C.htt e te hte).len]at h1;simpa using h1
    have hn:n=(n.toNat:Int):=by omega
    have hyv:=(he y _ hy).int_inv;have hxv:=(he x _ hx).nils_inv
    have hexec:(execOp ev ⟨dst,.call ⟨.builtin .append,#[x,y],#[t,u]⟩,ty,pos,after,gd⟩).run C.P w =
      ((Builtin.append_ #[t,u] ty #[ev x,ev y]).run C.P w).andThen λv w'=>.ok (.value v) w':=by
     simp only[execOp,resolve,invoke,builtin,bP,cD,bN,lC,bS,cY]
    have hrun:=aMw C.P w t u ty e k i z hd hd2 hi hiz (by rw[his];exact h2) n.toNat aB aB
     (by rw[hib];have:n.toNat * te.bytes<=65536 * 32768:=Nat.mul_le_mul aB h3;omega)
    rw[<-hn]at hrun;have hgb:=qZ w n.toNat 0 e aB;obtain⟨N,s',m1,m2,m3,m4,m5,m6⟩:=aPa hR h;rw[hexec,hxv,hyv,hrun]
    have hrow:(w.drew.alloc (.cells (Builtin.zeroCells z.cells n.toNat++Builtin.zeroCells z.cells (grownCap w n.toNat 0 e-n.toNat)) e)).ownsRow 0 e (C.toCtx.sz e) (.slice (some ⟨w.heap.size,0,none⟩) 0 (grownCap w n.toNat 0 e)) 0 []:=by
     rw[vR hte];refine⟨by simp,.inr ⟨w.heap.size,_,_,rfl,aU _,wL w.drew _,aU _,hgb.2,?_,by simp⟩⟩;simp only[Array.size_append,aBL,hzs,<-gW];congr 1;omega
    obtain⟨r1,r2⟩:=hR.tokStep (t:=N) (n:=0) (b:=w.heap.size) (w':=w.drew.alloc (.cells (Builtin.zeroCells z.cells n.toNat++Builtin.zeroCells z.cells (grownCap w n.toNat 0 e-n.toNat)) e))
     (λk hk _=>uT w.drew _ hk) hrow rfl (λm x hx=>by rw[m1]at hx;cases hx) m3 m4 m5 (.inl ⟨rfl,.inl m2⟩)
    exact⟨_,_,_,r2,r1,.gr N _ _ _ (wQ _ _ _ _ _ _) hgb.1 hgb.2,m6⟩
   .exact h.elim
  .exact h.elim
 .exact h.elim
theorem R.freeze(hR:R C.toCtx F g s w){t n b:Nat}{e:TypeId}{v:Value}(ht:s.getT t=some (n,e))(hv:g.eta t n=some v)(hb:v.ownBlock=some b)(m:Nat) :
  R C.toCtx F g (s.delT t) (w.freeze ⟨b,0,none⟩ m):=by
 by_cases hm0:m=0
 .subst hm0;have:w.freeze ⟨b,0,none⟩ 0=w:=by simp[World.freeze]
  rw[this];refine hR.weaken ⟨λb o ho=>ho,λk x hx=>?_,λ_ h=>h⟩ (λ_=>bT _);rw[rB]at hx;split at hx
  .cases hx
  .exact hx
 obtain⟨v',xs,e1,hown,hmax,hblk⟩:=hR.tok t n e ht;rw[hv]at e1;cases e1;obtain⟨hpi,hF⟩:=hblk b hb
 have hk:∀k,k≠b->(w.freeze ⟨b,0,none⟩ m).heap[k]?=w.heap[k]?:=by
  intro k hk;have:¬ b=k:=λe=>hk e.symm
  simp[World.freeze,hm0,Array.getElem?_modify,this]
 have hsz:(w.freeze ⟨b,0,none⟩ m).heap.size=w.heap.size:=by simp[World.freeze,hm0]
 refine⟨λc o ho=>?_,λt' n' e' ht'=>?_,λt1 t2 n1 n2 v1 v2 k hne h1 h2=>?_,λk pre hp=>?_,λk o ho=>?_,hR.glb,?_,?_,hR.inj,?_,hR.lst,hR.bfr,(by simp[World.freeze,hm0,<-hR.env])⟩
 .obtain⟨k,h0,h1,h2,h3⟩:=hR.obj c o ho;have:k≠b:=by rintro rfl;rw[hpi]at h2;cases h2
  exact⟨k,h0,by rw[hk k this];exact h1,h2,h3⟩
 ·rw[rB] at ht';split at ht'
  .cases ht'
  .rename_i hne;obtain⟨v2,xs2,h1,h2,h3,h4⟩:=hR.tok t' n' e' ht';refine⟨v2,xs2,h1,⟨h2.1,?_⟩,h3,h4⟩;rcases h2.2 with h5|⟨k,cap,cur,h5,h6,hh,rest⟩
   .exact .inl h5
   .refine .inr ⟨k,cap,cur,h5,h6,?_,rest⟩
    have:k≠b:=by
     rintro rfl;exact hR.sep t' t (n',e') (n,e) v2 v k hne ht' ht h1 hv (by rw[h5];rfl) hb
    rw[hk k this];exact hh
 .rw[rB]at h1 h2;split at h1
  .cases h1
  .split at h2
   .cases h2
   .exact hR.sep t1 t2 n1 n2 v1 v2 k hne h1 h2
 .obtain⟨rest,e2,fr,hx⟩:=hR.pis k pre hp;by_cases hkb:k=b
  .subst hkb;obtain⟨lo,hi⟩:=fr;refine⟨rest,e2,(if lo == hi then(0,0+m) else(min lo 0,max hi (0+m))),?_⟩;simp[World.freeze,hm0,Array.getElem?_modify,hx]
  .exact⟨rest,e2,fr,by rw[hk k hkb];exact hx⟩
 .have:k≠b:=by rintro rfl;rw[hF]at ho;cases ho
  exact⟨by rw[hk k this];exact(hR.frm k o ho).1,(hR.frm k o ho).2⟩
 .obtain⟨N,hN⟩:=hR.fsh;refine⟨N,λu hu=>⟨?_,(hN u hu).2⟩⟩;rw[rB];split
  .rfl
  .exact(hN u hu).1
 .intro c k hc;rw[hsz];exact hR.bet c k hc
 .exact hR.dtm
theorem aSU{KV Kp:St->A->Prop}{ty:TypeId}{x y:Operand}{t u:TypeId}{dst:Option Tmp}{pos:String}{after:Array Edge}{gd:Option (Nat × Bool)}
  (hR:R C.toCtx F g s w)(he:∀x a,ρ x=some a->Rz g a (ev x))(h:bF C (.call ⟨.builtin .unsafeString,#[x,y],#[t,u]⟩) ρ KV Kp s) :
  OutV C F g KV Kp ((execOp ev ⟨dst,.call ⟨.builtin .unsafeString,#[x,y],#[t,u]⟩,ty,pos,after,gd⟩).run C.P w):=by
 have hexec:(execOp ev ⟨dst,.call ⟨.builtin .unsafeString,#[x,y],#[t,u]⟩,ty,pos,after,gd⟩).run C.P w =
   ((Builtin.unsafeString_ #[t,u] ty #[ev x,ev y]).run C.P w).andThen λv w'=>.ok (.value v) w':=by
  simp only[execOp,resolve,invoke,builtin,bP,cD,bN,lC,bS,cY]
 simp only[bF]at h;split at h
 .rename_i n hx hy;obtain⟨rfl,hK⟩:=h;rw[hexec,(he x _ hx).nilp_inv,(he y _ hy).int_inv,Lib.run_unsafeString_none];exact⟨g,.str [],s,gR g,hR,.str [],hK⟩
 .rename_i t0 es n hx hy;split at h
  .rename_i e hus;obtain⟨⟨rfl,ht⟩,bs,rfl,hK⟩:=h;obtain⟨hp,hc⟩:=C.hus _ _ hus;obtain⟨a,cap,hv,hc0,hr⟩:=(he x _ hx).sd_inv;obtain⟨ad,cap',e1,hm,hcl,htk,hh⟩:=hr.list_inv;obtain⟨v,xs,e2,hown,hmax,hblk⟩:=hR.tok t0 _ e ht;have e3:=htk t0 rfl;rw[e2]at e3;cases e3;have hbl:=wS bs;rw[hexec,hv,(he y _ hy).int_inv];by_cases h0:bs=[]
   .subst h0;have e5:((eP ([]:List UInt8)).length:Int)=0:=rfl;rw[e5,Lib.run_unsafeString_none];have hw:w.freeze ⟨a.block,0,none⟩ 0=w:=by simp[World.freeze]
    have:=hR.freeze (b:=a.block) ht e2 rfl 0;rw[hw]at this;exact⟨g,.str [],s.delT t0,gR g,this,.str [],hK⟩
   .have hpos:0<bs.length:=by cases bs with|nil=>exact absurd rfl h0|cons=>simp
    rcases hown.2 with⟨hn,_⟩|⟨g0,cap0,cur0,hv0,_,hh0,hnc,hcm,hcs,htake⟩
    .cases hn
    simp only[qY,bJ]at hv0;obtain⟨rfl,_,rfl⟩:=hv0;have hsz1:C.toCtx.sz e=1:=hc;rw[hsz1,Nat.mul_one]at hcs htake;have hpi:=(hblk g0 rfl).1
    have hxs:Rzs g (eP bs) xs:=by
     obtain⟨a',cap2,q1,_,_,q2⟩:=hr.to_flat;rcases q2 with q2|⟨b',off',sz',pre',q3,q4,q5,q6,q7,q8⟩
     .exact absurd (List.map_eq_nil_iff.1 q2) h0
     .subst q3;simp only[qY,bJ,tJ,rE,jV]at q1;obtain⟨⟨rfl,rfl⟩,rfl⟩:=q1;rw[hpi]at q4;cases q4;have hp0:0<(eP bs).length:=by rw[hbl];exact hpos
      have hsz':sz'=1:=by rw[<-q6 _ (lN hp0),aBO bs _ (lN hp0)]
      rw[hsz',rY,dW (by rw[hown.1,hsz1];exact bT _),aHA]at q8;exact q8
    have hcell:∀j x,bs[j]?=some x->w.cell? ((⟨g0,0,none⟩:Addr).add j)=some (.int .u8 x.toNat):=by
     intro j x hj;have hj':(eP bs)[j]?=some (.int .u8 x.toNat):=by simp[eP,hj]
     obtain⟨u',hu1,hu2⟩:=hxs.get hj';rw[hu2.int_inv]at hu1;rw[lE];simp only[World.cell?,hh0,Option.isSome_none,cJ,↓reduceIte,gI];rw[<-htake,nK]at hu1;split at hu1
     .simpa using hu1
     .cases hu1
    have hrun:=Lib.run_unsafeString_row (P:=C.P) w t u ty e hp hc g0 cur0.size (by simp[World.shape?,hh0]) bs h0 (by rw[hcs];omega) (by unfold maxLen at hcm;omega) hcell;rw[<-hbl]at hrun;rw[hrun];exact⟨g,.str bs,s.delT t0,gR g,hR.freeze ht e2 rfl _,.str bs,hK⟩
  .exact h.elim
 .exact h.elim
theorem aKT{KV Kp:St->A->Prop}{ty:TypeId}{x y:Operand}{t u:TypeId}{a:A}{ti:TI}{ad:Option Addr}{dst:Option Tmp}{pos:String}{after:Array Edge}{gd:Option (Nat × Bool)}
  (hR:R C.toCtx F g s w)(he:∀x a,ρ x=some a->Rz g a (ev x))(hx:ρ x=some a)(hy:ev y=.slice ad 0 0)(hti:C.tt t=some ti)(h:yI C s ti t u KV a) :
  OutV C F g KV Kp ((execOp ev ⟨dst,.call ⟨.builtin .append,#[x,y],#[t,u]⟩,ty,pos,after,gd⟩).run C.P w):=by
 have hexec:(execOp ev ⟨dst,.call ⟨.builtin .append,#[x,y],#[t,u]⟩,ty,pos,after,gd⟩).run C.P w =
   ((Builtin.append_ #[t,u] ty #[ev x,ev y]).run C.P w).andThen λv w'=>.ok (.value v) w':=by
  simp only[execOp,resolve,invoke,builtin,bP,cD,bN,lC,bS,cY]
 unfold yI at h;split at h
 .rename_i e hk;split at h
  .rename_i te hte;obtain⟨rfl,h⟩:=h;obtain⟨d,hd,hok⟩:=iX hti;rw[hk]at hok;simp only[TK.ok]at hok;subst hok;obtain⟨i,z,hi,his,hib,hiz,hzr⟩:=(C.htt e te hte).info
   have key:∀(base:Option Addr) (n cap:Nat) (b:A),ev x=.slice base n cap->n<=cap->Rz g b (.slice base n cap)->KV s b ->
     OutV C F g KV Kp ((execOp ev ⟨dst,.call ⟨.builtin .append,#[x,y],#[u,u]⟩,ty,pos,after,gd⟩).run C.P w):=by
    intro base n cap b h1 h2 h3 h4;rw[hexec,h1,hy,aBK C.P w u u ty e i hd hd hi base ad n cap 0 h2];exact⟨g,b,s,gR g,hR,h3,h4⟩
   have hr:=he x _ hx;split at h
   .have hv:=hr.nils_inv;rw[hv]at hr;exact key none 0 0 _ hv (bT _) hr h
   .obtain⟨a,hv⟩:=hr.emp_inv;rw[hv]at hr;exact key (some a) 0 0 _ hv (bT _) hr h
   .obtain⟨a,cap,hv,_,hc,_⟩:=hr.list_inv;rw[hv]at hr;exact key a _ cap _ hv hc hr h
   .obtain⟨k,cap,hv,_,hc,_⟩:=hr.ml_inv;rw[hv]at hr;exact key _ _ cap _ hv hc hr h
   .exact h.elim
  .exact h.elim
 .exact h.elim
theorem aIL{s1:St}(hR:R C.toCtx F g s1 w){KV:St->A->Prop}{n sz:Nat}{e:TypeId}{ys:List A}(h:uH C s1 n e ys sz KV) :
  ∃N s',(∀m,g.eta N m=none)/\s1.getT N=none/\(∀q,s'.getO q=s1.getO q)/\(∀q,s'.getT q=if N=q then some (n,e) else s1.getT q)/\rW C s1 s' N /\
   KV s' (.pen N ys sz):=by
 unfold uH at h;cases hd:C.det with
 | false =>
  rw[hd]at h;obtain⟨N,hN⟩:=hR.fsh;obtain⟨n1,n2,_⟩:=hN N (bT _);exact⟨N,s1.setT N (n,e),n2,n1,λq=>rfl,λq=>dE s1 N (n,e) q,⟨rfl,λhh=>by rw[hd]at hh;cases hh⟩,h N n1⟩
 | true =>
  rw[hd]at h;have hb:=(hR.dtm hd s1.lim (bT _)).2;exact⟨s1.lim,s1.newT (n,e),hb,hR.freeT hb,λq=>rfl,λq=>aEz s1 (n,e) q,⟨rfl,λ_=>⟨Nat.le_succ _,jB _⟩⟩,h⟩
theorem R.tokMove(h:R C.toCtx F g s w){w':World}{k N n b:Nat}{e:TypeId}{v v':Value}{xs:List Value}(n2:∀m,g.eta N m=none)
  (hk:∀j,j≠b->w'.heap[j]?=w.heap[j]?)(ht:s.getT k=some (n,e))(hv:g.eta k n=some v)(hb:v.ownBlock=some b)(hpx:g.pi b=some xs)
  (hrow:w'.ownsRow 0 e (C.toCtx.sz e) v' n xs)(hb':v'.ownBlock=some b)
  {s':St}(hO:∀q,s'.getO q=s.getO q)(hT:∀q,s'.getT q=if N=q then some (n,e) else if q=k then none else s.getT q)(hl:rW C s s' N)(he:(w'.os,w'.output)=(w.os,w.output):=by rfl) :
  ∃g',g.le g'/\g'.eta N n=some v'/\g'.pi=g.pi/\R C.toCtx F g' s' w':=by
 have hF:F b=none:=by
  obtain⟨v1,xs1,e1,_,_,h5⟩:=h.tok k n e ht;rw[hv]at e1;cases e1;exact(h5 b hb).2
 have hle:g.le { g with eta:=λt' m=>if t'=N/\m=n then some v' else g.eta t' m } :=
  ⟨fun k pre hp => ⟨[],by simpa using hp⟩,fun t m x hx => by
   have:¬ (t=N/\m=n):=by rintro⟨rfl,rfl⟩;rw[n2]at hx;cases hx
   simp only[this,↓reduceIte];exact hx,λ_ _ h=>h,rfl⟩
 have hsz:∀j,j<w.heap.size->j<w'.heap.size:=by
  intro j hj;by_cases hjb:j=b
  .subst hjb;rcases hrow.2 with⟨rfl,_⟩|⟨j',cap,cur,hv2,_,hh,_⟩
   .cases hb'
   .rw[hv2]at hb';simp only[Value.ownBlock,bJ]at hb';subst hb';exact(jA.1 hh).1
  .have h2:=hk j hjb;rw[aAI hj]at h2;exact(jA.1 h2).1
 refine⟨_,hle,by simp,rfl,⟨?_,?_,?_,?_,?_,?_,?_,λc j hc=>hsz j (h.bet c j hc),h.inj,?_,λx hx=>(h.lst x (by rw[<-hl.1];exact hx)).mono hle,h.bfr,he.trans h.env⟩⟩
 .intro c o ho;rw[hO]at ho;obtain⟨j,h0,h1,h2,h3⟩:=h.obj c o ho;have:j≠b:=by rintro rfl;rw[hpx]at h2;cases h2
  exact⟨j,h0,by rw[hk j this];exact h1.mono hle,h2,h3⟩
 .intro t' n' e' ht';rw[hT]at ht';by_cases htt:N=t'
  .subst htt;simp only[↓reduceIte,bJ,lO]at ht';obtain⟨rfl,rfl⟩:=ht';refine⟨v',xs,by simp,hrow,λm x hx=>?_,λj hj=>?_⟩
   .by_cases hm:m=n
    .omega
    .simp only[hm,and_false,↓reduceIte]at hx;rw[n2]at hx;cases hx
   .rw[hb']at hj;cases hj;exact⟨hpx,hF⟩
  .have hne':¬ t'=N:=λe=>htt e.symm
   simp only[htt,↓reduceIte]at ht';split at ht'
   .cases ht'
   .rename_i hne;obtain⟨v2,xs2,h1,h2,h3,h4⟩:=h.tok t' n' e' ht';refine⟨v2,xs2,?_,⟨h2.1,?_⟩,λm x hx=>?_,h4⟩
    .simp only[hne',qG,↓reduceIte];exact h1
    .rcases h2.2 with h5|⟨j,cap,cur,h5,h6,hh,rest⟩
     .exact .inl h5
     .refine .inr ⟨j,cap,cur,h5,h6,?_,rest⟩
      have:j≠b:=by
       rintro rfl;exact h.sep t' k (n',e') (n,e) v2 v j hne ht' ht h1 hv (by rw[h5];rfl) hb
      rw[hk j this];exact hh
    .simp only[hne',qG,↓reduceIte]at hx;exact h3 m x hx
 .intro t1 t2 n1' n2' v1 v2 j hne h1 h2 e1 e2 o1 o2;rw[hT]at h1 h2;by_cases ht1:N=t1
  .subst ht1;have ht2:¬ N=t2:=hne;have ht2':¬ t2=N:=λe=>hne e.symm
   simp only[↓reduceIte,bJ]at h1;subst h1;simp only[jV,↓reduceIte,bJ]at e1;subst e1;simp only[ht2,↓reduceIte]at h2;simp only[ht2',qG,↓reduceIte]at e2;split at h2
   .cases h2
   .rename_i hne2;rw[hb']at o1;cases o1;exact h.sep t2 k n2' (n,e) v2 v b hne2 h2 ht e2 hv o2 hb
  .have ht1':¬ t1=N:=λe=>ht1 e.symm
   simp only[ht1,↓reduceIte]at h1;simp only[ht1',qG,↓reduceIte]at e1;split at h1
   .cases h1
   .rename_i hne1;by_cases ht2:N=t2
    .subst ht2;simp only[↓reduceIte,bJ]at h2;subst h2;simp only[jV,↓reduceIte,bJ]at e2;subst e2;rw[hb']at o2;cases o2;exact h.sep t1 k n1' (n,e) v1 v b hne1 h1 ht e1 hv o1 hb
    .have ht2':¬ t2=N:=λe=>ht2 e.symm
     simp only[ht2,↓reduceIte]at h2;simp only[ht2',qG,↓reduceIte]at e2;split at h2
     .cases h2
     .exact h.sep t1 t2 n1' n2' v1 v2 j hne h1 h2 e1 e2 o1 o2
 .intro j pre hp;by_cases hjb:j=b
  .subst hjb;have hp':g.pi j=some pre:=hp;rw[hpx]at hp';cases hp';rcases hrow.2 with⟨rfl,_⟩|⟨j',cap,cur,hv2,_,hh,_,_,_,htake⟩
   .cases hb'
   .rw[hv2]at hb';simp only[Value.ownBlock,bJ]at hb';subst hb';refine⟨cur.toList.drop (n * C.toCtx.sz e),e,(0,0),?_⟩;rw[hh,<-htake];simp
  .rw[hk j hjb];exact h.pis j pre hp
 .intro j o ho;have hjb:j≠b:=by rintro rfl;rw[hF]at ho;cases ho
  rw[hk j hjb];exact h.frm j o ho
 .intro j cs hc;obtain⟨pre,ty,fr,hp,hl',h1,hr⟩:=h.glb j cs hc;exact⟨pre,ty,fr,hp,hl',h1,λj c v hc hv=>(hr j c v hc hv).mono hle⟩
 .obtain⟨M,hM⟩:=h.fsh;refine⟨max M (N+1),λt' ht'=>⟨?_,λm=>?_,(hM t' aB).2.2⟩⟩
  .rw[hT];have:¬ N=t':=by omega
   simp only[this,↓reduceIte];split
   .rfl
   .exact(hM t' aB).1
  .have:¬ (t'=N/\m=n):=by omega
   simp only[this,↓reduceIte];exact(hM t' aB).2.1 m
 .intro hd c hc;obtain⟨l1,l2⟩:=hl.2 hd;obtain⟨d1,d2⟩:=h.dtm hd c aB;refine⟨d1,λm=>?_⟩;have:¬ (c=N/\m=n):=by omega
  simp only[this,↓reduceIte];exact d2 m
theorem aHD{KV Kp:St->A->Prop}(hR:R C.toCtx F g s w){t:Nat}{e:TypeId}{es:List A}{xs rest:List Value}{cap:Nat}{te:TI}(hte:C.tt e=some te)
  (hes:∀y,y∈es->y.cells.length=te.sz)(hone:∀y,y∈es->∀c,c∈y.cells->c.one=true)(hxs:Rzs g (flat es) xs)
  (hcap:es.length+1<=cap)(hcm:cap<=maxLen)(hrest:(xs++rest).length=cap * te.sz)
  {s':St}(hO:∀q,s'.getO q=s.getO q)(hT:∀q,s'.getT q=if t=q then some (es.length,e) else s.getT q)(hl:rW C s s' t)
  (ht:s.getT t=none)(hmax:∀m,g.eta t m=none)
  (hK:KV s' (.pen t es te.sz)) :
  OutV C F g KV Kp (.ok (.value (.slice (some ⟨w.heap.size,0,none⟩) (es.length+1) cap)) (w.drew.alloc (.cells (xs++rest).toArray e))):=by
 have hszC:C.toCtx.sz e=te.sz:=vR hte;have hfl:=wN hes;have hxl:xs.length=es.length * te.sz:=by rw[hxs.1,hfl]
 have hrow:(w.drew.alloc (.cells (xs++rest).toArray e)).ownsRow 0 e (C.toCtx.sz e) (.slice (some ⟨w.heap.size,0,none⟩) es.length cap) es.length xs:=by
  rw[hszC];refine⟨hxl,.inr ⟨w.heap.size,cap,_,rfl,aU _,wL w.drew _,by omega,hcm,by simpa using hrest,?_⟩⟩;rw[<-hxl];simp
 obtain⟨h1,h2⟩:=hR.tokStep (t:=t) (n:=es.length) (b:=w.heap.size) (w':=w.drew.alloc (.cells (xs++rest).toArray e)) (λk hk _=>uT w.drew _ hk) hrow rfl
  (λm x hx=>by rw[hmax]at hx;cases hx) hO hT hl (.inl ⟨rfl,.inl ht⟩)
 refine⟨_,_,_,h2,h1,.pen t es te.sz _ cap ?_ hcap hes,hK⟩;refine wR (off:=0) (vs:=xs) (pre:=xs) (zD _ _ _ _ _ _) bD ?_ hes hone aB hcm (aU _) (λt' ht'=>by cases ht';exact wQ _ _ _ _ _ _);rw[dW aB];exact hxs.mono h2
theorem aTA{KV Kp:St->A->Prop}{ty:TypeId}{x y:Operand}{t u:TypeId}{z0 a:A}{ti:TI}{dst:Option Tmp}{pos:String}{after:Array Edge}{gd:Option (Nat × Bool)}
  (hR:R C.toCtx F g s w)(he:∀x a,ρ x=some a->Rz g a (ev x))(hx:ρ x=some a)(hy:ρ y=some (.hl z0))(hti:C.tt t=some ti)(h:yG C s ti t u z0 KV a) :
  OutV C F g KV Kp ((execOp ev ⟨dst,.call ⟨.builtin .append,#[x,y],#[t,u]⟩,ty,pos,after,gd⟩).run C.P w):=by
 have hexec:(execOp ev ⟨dst,.call ⟨.builtin .append,#[x,y],#[t,u]⟩,ty,pos,after,gd⟩).run C.P w =
   ((Builtin.append_ #[t,u] ty #[ev x,ev y]).run C.P w).andThen λv w'=>.ok (.value v) w':=by
  simp only[execOp,resolve,invoke,builtin,bP,cD,bN,lC,bS,cY]
 unfold yG at h;split at h;rotate_left
 .exact h.elim
 rename_i e hk;split at h;rotate_left
 .exact h.elim
 rename_i te hte;obtain⟨⟨rfl,hsz,hby,hz0⟩,h⟩:=h;obtain⟨d,hd,hok⟩:=iX hti;rw[hk]at hok;simp only[TK.ok]at hok;subst hok;obtain⟨i,z,hi,his,hib,hiz,hzr⟩:=(C.htt e te hte).info;have hszC:C.toCtx.sz e=te.sz:=vR hte;obtain⟨ad,cap2,hyv,hyl⟩:=(he y _ hy).hl_inv;have hyf:=hyl.to_flat;obtain⟨ad',cap2',hyv',_,hc2,_,hyr⟩:=hyl.list_inv;rw[hyv]at hyv';simp only[aE,aF,gI,qY,jV]at hyv';obtain⟨rfl,rfl⟩:=hyv';obtain⟨b2,off2,sz2,pre2,hxx,hp2,hl2,hs2,ho2,hr2⟩:=hyr.resolve_left bD;simp only[bJ]at hxx;subst hxx;have hsz2:sz2=te.sz:=by rw[<-hs2 z0 bD,hz0]
 subst hsz2;simp only[aE,aF,gI]at hl2 hc2;obtain⟨rest2,e2,fr2,hh2⟩:=hR.pis b2 pre2 hp2;have hnl:((pre2.drop off2).take (1 * te.sz)).length=1 * te.sz:=by rw[bK,dR];omega
 have hnews:∀j v,((pre2.drop off2).take (1 * te.sz))[j]?=some v->w.cell? ((⟨b2,off2,none⟩:Addr).add j)=some v:=by
  intro j v hj;rw[nK]at hj;split at hj
  .rw[oW]at hj;rw[lE];simp only[World.cell?,hh2,Option.isSome_none,cJ,↓reduceIte,oF];rw[kC (dV.1 hj).1];exact hj
  .simp at hj
 have hflat:Rzs g (flat [z0]) ((pre2.drop off2).take (1 * te.sz)):=by
  obtain⟨a',cap',e1,_,_,e2⟩:=hyf;rw[hyv]at e1;rcases e2 with e2|⟨b',off',sz',pre',e3,e4,e5,e6,e7,e8⟩
  .cases e2
  .subst e3;simp only[aE,aF,gI,qY,bJ,tJ,rE,jV]at e1;obtain⟨⟨rfl,rfl⟩,rfl⟩:=e1;rw[hp2]at e4;cases e4;have:sz'=te.sz:=by rw[<-e6 z0 bD,hz0]
   rw[this]at e8;exact e8
 generalize hnw:(pre2.drop off2).take (1 * te.sz)=news at *
 have hfone:∀c,c∈flat [z0]->c.one=true:=by
  intro c hc;simp only[flat,List.mem_flatMap]at hc;obtain⟨q,hq,hc⟩:=hc;exact ho2 q hq c hc
 have hn1:∀v,v∈news->v.oneCell'=true:=hflat.one hfone
 have hzs:z.cells.size=te.sz:=by
  have h1:=(hzr g).1;rw[(C.htt e te hte).len]at h1;simpa using h1
 have hcapz:∀(n cap:Nat),n<=cap->(Builtin.zeroCells z.cells (cap-n)).toList.length+n * te.sz=cap * te.sz:=by
  intro n cap h;simp only[oV,aBL,hzs,<-gW];congr 1;omega
 have hnilrun:(Builtin.append_ #[u,u] ty #[.slice none 0 0,ev y]).run C.P w=.ok (.slice (some ⟨w.heap.size,0,none⟩) 1 (grownCap w 1 0 e)) (w.drew.alloc (.cells (news.toArray++Builtin.zeroCells z.cells (grownCap w 1 0 e-1)) e)):=by
  rw[hyv]
  exact run_append_nil (P:=C.P) w u ty e i z hd hi hiz ⟨b2,off2,none⟩ 1 cap2 news (by rw[hnl,his]) hnews aB aB
    (by have:1 * i.bytes<=1 * 32768:=Nat.mul_le_mul (bT _) (by rw[hib];exact hby);omega)
 have hgb1:=qZ w 1 0 e aB
 have nilcase:∀{s1:St},R C.toCtx F g s1 w->uH C s1 0 e [] te.sz KV->OutV C F g KV Kp (.ok (.value (.slice (some ⟨w.heap.size,0,none⟩) 1 (grownCap w 1 0 e))) (w.drew.alloc (.cells (news.toArray++Builtin.zeroCells z.cells (grownCap w 1 0 e-1)) e))):=by
  intro s1 hR1 h1;obtain⟨N,s',m1,m2,m3,m4,m5,m6⟩:=aIL hR1 h1;rw[aGa]
  exact aHD (KV:=KV) (Kp:=Kp) hR1 (t:=N) hte (es:=[]) (xs:=[]) (rest:=news++(Builtin.zeroCells z.cells (grownCap w 1 0 e-1)).toList) (λy hy=>by cases hy) (λy hy=>by cases hy) (.nil g) (by simpa using hgb1.1) hgb1.2
   (by rw[aW,aG,hnl];have:=hcapz _ _ hgb1.1;omega) m3 m4 m5 m2 m1 m6
 split at h
 .have hxv:=(he x _ hx).nils_inv;rw[hexec,hxv,hnilrun];exact nilcase hR h
 .rename_i tk es;cases tk with
  | none=>exact h.elim
  | some k =>
  simp only at h;obtain⟨⟨h1,h2,h3⟩,h⟩:=h;obtain⟨ax,capx,hxv,hmx,hcx,htk,hxr⟩:=(he x _ hx).list_inv;obtain⟨v,xs,e1,hown,hmax,hblk⟩:=hR.tok k es.length e h1;have hvx:v=ev x:=by have:=htk k rfl;rw[e1]at this;exact yU this
  subst hvx;rw[hszC]at hown
  have hR1:R C.toCtx F g (s.delT k) w:=hR.weaken ⟨λb o ho=>ho,λq n hn=>by
   rw[rB]at hn;split at hn
   .cases hn
   .exact hn,λ_ h=>h⟩ (λ_=>bT _)
  have hone':∀y,y∈es->∀c,c∈y.cells->c.one=true:=by
   intro q hq c hc;rcases hxr with rfl|⟨b,off,sz,pre,_,_,_,_,ho,_⟩
   .cases hq
   .exact ho q hq c hc
  have hbytes:(es.length+1) * i.bytes<=140737488355328:=by
   have:(es.length+1) * i.bytes<=4294967296 * 32768:=Nat.mul_le_mul h3 (by rw[hib];exact hby);omega
  have hxsR:Rzs g (flat es) xs:=by
   obtain⟨a',cap',q1,_,_,q2⟩:=(he x _ hx).to_flat;rcases q2 with rfl|⟨b',off',sz',pre',q3,q4,q5,q6,q7,q8⟩
   .have:xs=[]:=fK (by simpa using hown.1);rw[this];exact .nil g
   .by_cases hes0:es=[]
    .subst hes0;have:xs=[]:=fK (by simpa using hown.1);rw[this];exact .nil g
    .have hp0:0<es.length:=by cases es with|nil=>exact absurd rfl hes0|cons=>simp
     have hsz':sz'=te.sz:=by rw[<-q6 _ (lN hp0),h2 _ (lN hp0)]
     subst q3;rcases hown.2 with⟨hn,h0⟩|⟨g0,cap0,cur0,hv0,_⟩
     .omega
     .have hb0:=hblk g0 (by rw[hv0];rfl);rw[hv0]at q1;simp only[qY,bJ,tJ,rE,jV]at q1;obtain⟨⟨rfl,rfl⟩,rfl⟩:=q1;rw[hb0.1]at q4;cases q4;rw[hsz',rY,dW (by rw[hown.1];exact bT _)]at q8;exact q8
  rcases hown.2 with⟨hn,h0⟩|⟨g0,cap0,cur0,hv0,_,hh0,hnc,hcm,hcs,htake⟩
  .have hes0:es=[]:=fK h0;subst hes0;rw[hexec,hn,hnilrun];exact nilcase hR1 h
  .obtain⟨N,s',m1,m2,m3,m4,m5,m6⟩:=aIL hR1 h;by_cases hroom:es.length+1<=cap0
   .have hfit:es.length * i.size+news.length<=cur0.size:=by
     rw[hnl,his,hcs,<-gW];exact oU _ hroom
    have hrun:=run_append_room (P:=C.P) w u ty e i hd hi g0 es.length cap0 cur0 hh0 ⟨b2,off2,none⟩ 1 cap2 news (by rw[hnl,his]) hnews hn1 hroom hfit;rw[hexec,hv0,hyv,hrun]
    have hrow:(w.setRow g0 (cur0.toList.take (es.length * i.size)++news++cur0.toList.drop (es.length * i.size+news.length)).toArray).ownsRow 0 e (C.toCtx.sz e) (.slice (some ⟨g0,0,none⟩) es.length cap0) es.length xs:=by
     rw[hszC,his];refine⟨hown.1,.inr ⟨g0,cap0,_,rfl,aU _,yW hh0 _,by omega,hcm,?_,?_⟩⟩
     .rw[his]at hfit;simp only[List.size_toArray,aG,bK,dR,oV];omega
     .rw[htake,bI];rw[<-hown.1];exact List.take_left
    have hb0:=hblk g0 (by rw[hv0];rfl);obtain⟨g',r1,r2,r3,r4⟩:=hR.tokMove (k:=k) (N:=N) m1 (λj hj=>zH hj _) h1 e1 (by rw[hv0];rfl) hb0.1 hrow rfl (s':=s') (λq=>m3 q) (λq=>by rw[m4,rB]) m5;refine⟨g',.pen N es te.sz,s',r1,r4,.pen N es te.sz g0 cap0 ?_ hroom h2,m6⟩;refine wR (off:=0) (sz:=te.sz) (vs:=xs) (pre:=xs) (by rw[r3];exact hb0.1) bD ?_ h2 hone' aB hcm (aU _) (λt' ht'=>by cases ht';exact r2);rw[dW (by rw[hown.1];exact bT _)];exact hxsR.mono r1
   .have hcell:∀j u,xs[j]?=some u->w.cell? ((⟨g0,0,none⟩:Addr).add j)=some u:=by
     intro j u hj;rw[lE];simp only[World.cell?,hh0,Option.isSome_none,cJ,↓reduceIte,gI];rw[<-htake,nK]at hj;split at hj
     .simpa using hj
     .simp at hj
    have hrun:=run_append_grow (P:=C.P) w u ty e i z hd hi hiz ⟨g0,0,none⟩ es.length cap0 xs (by rw[hown.1,his]) hcell ⟨b2,off2,none⟩ 1 cap2 news (by rw[hnl,his]) hnews aB aB (growslice_fits aB hbytes);have hgb:=qZ w (es.length+1) cap0 e aB;rw[hexec,hv0,hyv,hrun,aCR,bI]
    exact aHD (KV:=KV) (Kp:=Kp) hR1 (t:=N) hte (es:=es) (xs:=xs) (rest:=news++(Builtin.zeroCells z.cells (grownCap w (es.length+1) cap0 e-(es.length+1))).toList) h2 hone' hxsR hgb.1 hgb.2
     (by rw[aG,aG,hnl,hown.1];have:=hcapz _ _ hgb.1;rw[gW]at this;omega) m3 m4 m5 m2 m1 m6
 .exact h.elim
theorem aKk(hR:R C.toCtx F g s w){a:A}{v:Value}(h:Rz g a v):Rz g (jI s a) v:=by
 cases a<;>try exact h
 rename_i t es sz;simp only[jI];cases hq:s.ls with
 | none=>exact h
 | some q =>
  simp only[aBv];split
  .rename_i hc;obtain⟨h1,h2,h3⟩:=hc;obtain⟨b,cap,rfl,hl,hcap,hs⟩:=h.pen_inv;obtain⟨b',cap',pre,k1,k2,k3,k4,k5,k6,k7,k8⟩:=hR.lst q hq;rw[h1,h2]at k1 k2
   have hta:g.eta t es.length=some (.slice (some ⟨b,0,none⟩) es.length cap):=by
    obtain⟨_,_,_,_,_,h5,_⟩:=hl.list_inv;exact h5 _ rfl
   rw[hta]at k2;simp only[bJ,qY,tJ,rE,jV]at k2;obtain⟨rfl,rfl⟩:=k2;rw[h2]at k6 k8;rw[h3]at k6 k8;have hlen:(es++[q.2.2]).length=es.length+1:=by simp
   rw[<-hlen];refine .list (some t) (es++[q.2.2]) b 0 sz cap pre k5 (by rw[hlen];omega) (by rw[hlen];omega) k4 (λy hy=>?_) (λy hy c hc=>?_) (λj y i c u hy hc hu=>?_) (λt' ht'=>by cases ht';rw[hlen];exact k1)
   .rcases cW.1 hy with hy|hy
    .exact hs y hy
    .simp only[bW]at hy;subst hy;exact h3
   .rcases cW.1 hy with hy|hy
    .obtain⟨_,_,_,_,_,_,hr⟩:=hl.list_inv;rcases hr with rfl|⟨_,_,_,_,_,_,_,_,ho,_⟩
     .cases hy
     .exact ho y hy c hc
    .simp only[bW]at hy;subst hy;exact k7 c hc
   .rw[gI]at hu;by_cases hj:j<es.length
    .rw[kC hj]at hy;obtain⟨_,_,q1,_,_,_,hr⟩:=hl.list_inv;rcases hr with rfl|⟨b3,off3,sz3,pre3,rfl,p1,p2,p3,p4,p5⟩
     .simp at hj
     .simp only[qY,bJ,tJ,rE,jV]at q1;obtain⟨⟨rfl,rfl⟩,rfl⟩:=q1;rw[k5]at p1;cases p1;have hmem:=cM hy;have:sz3=sz:=by rw[<-p3 y hmem,hs y hmem]
      subst this;exact p5 j y i c u hy hc (by rw[gI];exact hu)
    .rw[oT aB]at hy
     have hj':j-es.length=0:=by
      rcases Nat.eq_zero_or_pos (j-es.length)with h|h
      .exact h
      .rw[qW (by simp;omega)]at hy;cases hy
     rw[hj']at hy;simp only[kM,bJ]at hy;subst hy;have:j=es.length:=by omega
     subst this;exact k8 i c u hc hu
  .exact h
theorem aTM{KV Kp:St->A->Prop}{t ty:TypeId}{x y:Operand}{k n z:Nat}{v:A}{ti:TI}{dst:Option Tmp}{pos:String}{after:Array Edge}{gd:Option (Nat × Bool)}
  (hR:R C.toCtx F g s w)(he:∀x a,ρ x=some a->Rz g a (ev x))(hx:ρ x=some (.rm k n z))(hy:ρ y=some v)(hti:C.tt t=some ti)(h:sZ C s k n z ti v KV) :
  OutV C F g KV Kp ((execOp ev ⟨dst,.store t x y,ty,pos,after,gd⟩).run C.P w):=by
 unfold sZ at h;split at h;rotate_left
 .exact h.elim
 rename_i m e ht;split at h;rotate_left
 .exact h.elim
 rename_i te hte;obtain⟨⟨rfl,rfl,h2,h3,h4⟩,hK⟩:=h;obtain⟨b,cap,hp,heta,hcap⟩:=(he x _ hx).rm_inv;obtain⟨v0,xs,e1,hown,hmax,hblk⟩:=hR.tok k m e ht;rw[heta]at e1;cases e1;have hszC:C.toCtx.sz e=te.sz:=vR hte;rw[hszC]at hown;rcases hown.2 with⟨hn,_⟩|⟨g0,cap0,cur0,hv0,_,hh0,hnc,hcm,hcs,htake⟩
 .cases hn
 simp only[qY,bJ,tJ,rE,jV]at hv0;obtain⟨rfl,rfl⟩:=hv0;have hb0:=hblk b rfl;have hv:=he y _ hy;have hvc:=hv.cells;have e1:(ev y).cells.toList.length=te.sz:=by rw[hvc.1,h3]
 have hall:∀c,c∈v.cells->c.one=true:=by simpa [fP]using h4
 have hroom:m * te.sz+te.sz<=cap * te.sz:=by
  have:(m+1) * te.sz<=cap * te.sz:=oU _ hcap
  rwa[gW,Nat.one_mul]at this
 have hst:=run_storeCells_at C.P b (m * te.sz) e (ev y).cells.toList 0 cur0 w hh0 (by rw[e1,hcs];omega) (hvc.one hall)
 have hrun:(Instr.storeAt t (ev x) (ev y)).run C.P w=.ok () (w.setRow b (cur0.toList.take (m * te.sz)++(ev y).cells.toList++cur0.toList.drop (m * te.sz+(ev y).cells.toList.length)).toArray):=by
  simp only[Instr.storeAt,Instr.sureAddr,hp,storeVar,bP,cD,bN,lR hti];rw[if_neg (by simp only[oV]at e1;rw[e1,h2];simp)];simpa using hst
 simp only[execOp];rw[aJU,hrun]
 have hrow:(w.setRow b (cur0.toList.take (m * te.sz)++(ev y).cells.toList++cur0.toList.drop (m * te.sz+(ev y).cells.toList.length)).toArray).ownsRow 0 e (C.toCtx.sz e) (.slice (some ⟨b,0,none⟩) (m+1) cap) (m+1) (xs++(ev y).cells.toList):=by
  rw[hszC];refine⟨by rw[aG,hown.1,e1,gW,Nat.one_mul],.inr ⟨b,cap,_,rfl,aU _,yW hh0 _,hcap,hcm,?_,?_⟩⟩
  .simp only[List.size_toArray,aG,bK,dR,oV]at *;omega
  .rw[htake];have:(m+1) * te.sz=(xs++(ev y).cells.toList).length:=by rw[aG,hown.1,e1,gW,Nat.one_mul]
   rw[this];simp only[bI];rw[<-bI];exact List.take_left
 have hdt:rW C s (s.setT k (m+1,e)) k:=⟨rfl,λhd=>⟨bT _,Nat.lt_of_not_le λhle=>by
  have:=(hR.dtm hd k hle).2 m;rw[this]at heta;cases heta⟩⟩
 obtain⟨r1,r2⟩:=hR.tokStep (t:=k) (b:=b) (λk hk hne=>zH hne _) hrow rfl (λj x hx=>by have:=hmax j x hx;omega) (s':=s.setT k (m+1,e)) (λq=>rfl) (λq=>dE _ _ _ q) hdt
  (.inr ⟨m,_,xs,(ev y).cells.toList,ht,heta,rfl,hb0.1,rfl⟩)
 refine⟨_,_,r2,r1.setL (λx hx=>?_),hK⟩;cases hx;refine⟨b,cap,_,wQ _ _ _ _ _ _,?_,hcap,hcm,zD _ _ _ _ _ _,?_,hall,λj c u hc hu=>?_⟩
 .simp only[Gh.tok];rw[if_neg aB];exact heta
 .simp only[h3,aG,hown.1,e1,gW,Nat.one_mul];exact bT _
 .dsimp only at hc hu;rw[oT (by rw[hown.1,h3];omega),hown.1,h3,Nat.add_sub_cancel_left]at hu;exact(hvc.2 j c u hc hu).mono r2
theorem aSt{KV Kp:St->A->Prop}{t ty:TypeId}{x y:Operand}{dst:Option Tmp}{pos:String}{after:Array Edge}{gd:Option (Nat × Bool)}
  (hR:R C.toCtx F g s w)(he:∀x a,ρ x=some a->Rz g a (ev x))(h:bF C (.store t x y) ρ KV Kp s) :
  OutV C F g KV Kp ((execOp ev ⟨dst,.store t x y,ty,pos,after,gd⟩).run C.P w):=by
 simp only[bF]at h;split at h
 .rename_i b o v0 ti hx hy hti;generalize hpv:jI s v0=v at h;split at h
  .rename_i e cs hb;obtain⟨⟨h1,h2,h3⟩,hK⟩:=h;obtain⟨k,vs,rest,hbk,hh,hrs,hone⟩:=hR.cellsOf hb;obtain⟨k',hp,hbk'⟩:=(he x _ hx).ptr_inv;rw[hbk]at hbk';cases hbk';have hv:Rz g v (ev y):=by rw[<-hpv];exact aKk hR (he y _ hy)
   have hvc:=hv.cells;have e1:(ev y).cells.toList.length=v.cells.length:=hvc.1;have e2:vs.length=cs.length:=hrs.1;have hall:∀c,c∈v.cells->c.one=true:=by simpa [fP]using h3
   have hst:=run_storeCells_at C.P k o e (ev y).cells.toList 0 (vs++rest).toArray w hh (by simp;simp only[oV]at e1;omega) (hvc.one hall)
   have hrun:(Instr.storeAt t (ev x) (ev y)).run C.P w=.ok () (w.setRow k ((vs++rest).take o++(ev y).cells.toList++(vs++rest).drop (o+(ev y).cells.toList.length)).toArray):=by
    simp only[Instr.storeAt,Instr.sureAddr,hp,storeVar,bP,cD,bN,lR hti];rw[if_neg (by simp only[oV]at e1;omega)];simpa using hst
   simp only[execOp];rw[aJU,hrun];refine⟨g,_,gR g,hR.setObj hb hbk (λk hk=>zH hk _) ?_,hK⟩;rw[yW hh];refine⟨vs.take o++(ev y).cells.toList++vs.drop (o+(ev y).cells.toList.length),rest,?_,?_,?_⟩
   .rw[List.take_append_of_le_length aB,List.drop_append_of_le_length aB];simp only[bI]
   .rw[aAN _ _ _ h2,e1];exact((hrs.take o).append hvc).append (hrs.drop _)
   .intro c hc;rw[aAN _ _ _ h2]at hc;simp only[cW]at hc;rcases hc with(hc|hc)|hc
    .exact hone c (qX hc)
    .exact hall c hc
    .exact hone c (tE hc)
  .exact h.elim
 .rename_i k n z v ti hx hy hti;exact aTM hR he hx hy hti h
 .exact h.elim
theorem aOC{KV Kp:St->A->Prop}{t ty:TypeId}{n:Nat}{parts:Array (Nat × Operand)}{dst:Option Tmp}{pos:String}{after:Array Edge}{gd:Option (Nat × Bool)}
  (hR:R C.toCtx F g s w)(he:∀x a,ρ x=some a->Rz g a (ev x))(hd:C.det=false)(h:cK C (.buildSlice t n parts) ρ (aAx C s t KV)) :
  OutV C F g KV Kp ((execOp ev ⟨dst,.buildSlice t n parts,ty,pos,after,gd⟩).run C.P w):=by
 obtain⟨ti,te,e,es,out,a,hti,hk,hte,hel,⟨hl1,hl2⟩,hrun,hro,ha,hK⟩:=aMA (dst:=dst) (ty:=ty) (pos:=pos) (after:=after) (gd:=gd) hR he h;rw[hrun];unfold aAx at hK;split at hK;rotate_left
 .exact hK.elim
 rename_i tk es' ti' hti';obtain rfl:=ha tk es' rfl;rw[hti]at hti';cases hti';rw[hk]at hK;simp only at hK;obtain⟨N,hN⟩:=hR.fsh;obtain⟨n1,n2,_⟩:=hN N (bT _);have hszC:C.toCtx.sz e=te.sz:=vR hte;have hfl:=wN (λx hx=>(hel x hx).1);have hol:out.toList.length=es'.length * te.sz:=by rw[hro.1,hfl]
 have hcm:es'.length<=maxLen:=by unfold maxLen;omega
 have hrow:(w.alloc (.cells out e)).ownsRow 0 e (C.toCtx.sz e) (.slice (some ⟨w.heap.size,0,none⟩) es'.length es'.length) es'.length out.toList:=by
  rw[hszC];refine⟨hol,.inr ⟨w.heap.size,es'.length,out,rfl,aU _,wL w _,bT _,hcm,by simpa using hol,?_⟩⟩;rw[dW (by rw[hol];exact bT _)]
 obtain⟨h1,h2⟩:=hR.tokStep (t:=N) (n:=es'.length) (b:=w.heap.size) (w':=w.alloc (.cells out e)) (λk hk _=>uT w _ hk) hrow rfl (λm x hx=>by rw[n2]at hx;cases hx)
  (s':=s.setT N (es'.length,e)) (λq=>rfl) (λq=>dE _ _ _ q) ⟨rfl,λh=>by rw[hd]at h;cases h⟩ (.inl ⟨rfl,.inl n1⟩)
 refine⟨_,_,_,h2,h1,?_,hK N n1⟩;refine wR (off:=0) (vs:=out.toList) (pre:=out.toList) (sz:=te.sz) (zD _ _ _ _ _ _) bD ?_ (λx hx=>(hel x hx).1) (λx hx=>(hel x hx).2) (bT _) hcm (aU _) (λt' ht'=>by cases ht';exact wQ _ _ _ _ _ _);rw[dW (by rw[hol];exact bT _)];exact hro.mono h2
theorem aEX{n:Nat}{e:TypeId}{sz:Nat}{ys:List A}{KV:St->A->Prop}(h:oQ C s n e sz ys KV):newT C s n e ys KV\/(C.det=false/\Nat.beq C.mu 1=true/\0<n/\aDG s n e sz (flat ys) KV):=by
 unfold oQ at h;split at h
 .exact .inl h
 .rename_i hd;split at h
  .exact .inl h
  .rename_i hm;exact .inr ⟨hd,hm,h.1,h.2⟩
theorem aQy{KV Kp:St->A->Prop}{ty:TypeId}{x y:Operand}{t u:TypeId}{dst:Option Tmp}{pos:String}{after:Array Edge}{gd:Option (Nat × Bool)}
  (hR:R C.toCtx F g s w)(he:∀x a,ρ x=some a->Rz g a (ev x))(h:bF C (.call ⟨.builtin .append,#[x,y],#[t,u]⟩) ρ KV Kp s) :
  OutV C F g KV Kp ((execOp ev ⟨dst,.call ⟨.builtin .append,#[x,y],#[t,u]⟩,ty,pos,after,gd⟩).run C.P w):=by
 simp only[bF]at h;split at h;rotate_left
 .rename_i a bs ti hx hy hti;split at h
  .rename_i e hE;exact aSQ hR he hx hy hti hE h
  .exact h.elim
 .rename_i a n ti hx hy hti;exact aTJ hR he hx hy hti h
 .rename_i a ti hx hy hti;exact aKT hR he hx (he y _ hy).nils_inv hti h
 .rename_i a ti hx hy hti;obtain⟨ad,hv⟩:=(he y _ hy).emp_inv;exact aKT hR he hx hv hti h
 .rename_i a z0 ti hx hy hti;exact aTA hR he hx hy hti h
 .exact h.elim
 rename_i a tk2 ys ti hx hy hti;split at h;rotate_left
 .exact h.elim
 rename_i e hk;split at h;rotate_left
 .exact h.elim
 rename_i te hte;obtain⟨⟨rfl,hsz,hby⟩,hys,h⟩:=h;unfold qP at h;obtain⟨d,hd,hok⟩:=iX hti;rw[hk]at hok;simp only[TK.ok]at hok;subst hok;obtain⟨i,z,hi,his,hib,hiz,hzr⟩:=(C.htt e te hte).info
 have hexec:(execOp ev ⟨dst,.call ⟨.builtin .append,#[x,y],#[u,u]⟩,ty,pos,after,gd⟩).run C.P w =
   ((Builtin.append_ #[u,u] ty #[ev x,ev y]).run C.P w).andThen λv w'=>.ok (.value v) w':=by
  simp only[execOp,resolve,invoke,builtin,bP,cD,bN,lC,bS,cY]
 have hszC:C.toCtx.sz e=te.sz:=vR hte;have hz1:∀c,c∈te.zero->c.one=true:=(C.htt e te hte).one
 obtain⟨ad,cap2,hyv,_,hc2,_,hyr⟩:=(he y _ hy).list_inv;have hyf:=(he y _ hy).to_flat;by_cases hy0:ys=[]
 .subst hy0;simp only[aF]at hyv;split at h
  .obtain⟨_,h⟩:=h
   have h:newT C s 0 e [] KV:=by
    rcases aEX h with h|⟨_,_,h,_⟩
    .exact h
    .exact absurd h bD
   have hxv:=(he x _ hx).nils_inv;have hrun:=aBK C.P w u u ty e i hd hd hi none ad 0 0 cap2 (bT _);rw[hexec,hxv,hyv,hrun];obtain⟨N,s',m1,m2,m3,m4,m5,m6⟩:=aCe hR h;obtain⟨g',h2,h3,h4⟩:=hR.tokNil e m1 m3 m4 m5;exact⟨g',_,_,h2,h4,.list0 (some N) none 0 (aU _) (λt' ht'=>by cases ht';exact h3),m6⟩
  .obtain⟨ax,hxv⟩:=(he x _ hx).emp_inv;have hrun:=aBK C.P w u u ty e i hd hd hi (some ax) ad 0 0 cap2 (bT _);rw[hexec,hxv,hyv,hrun];exact⟨g,.emp,s,gR g,hR,.emp ax,h⟩
  .unfold sM at h;split at h
   .obtain⟨⟨_,_,_,_,_,h⟩,_⟩:=h;exact absurd h bD
   .exact h.elim
  .rename_i t es;obtain⟨h1,h2,h3,hK⟩:=h;obtain⟨ax,cap,hxv,_,hc,_⟩:=(he x _ hx).list_inv;have hrun:=aBK C.P w u u ty e i hd hd hi ax ad es.length cap cap2 hc;rw[hexec,hxv,hyv,hrun];have hx':=he x _ hx;rw[hxv]at hx';refine⟨g,.list (some t) es,_,gR g,hR.weaken (s':=s.setT t (es.length,e)) ⟨λb o ho=>ho,λk n hn=>?_,λ_ h=>h⟩ (λ_=>bT _),hx',by simpa using hK⟩;rw[dE]at hn;by_cases htk:t=k
   .subst htk;simp only[↓reduceIte]at hn;rw[h1];exact hn
   .simpa only[htk,↓reduceIte]using hn
  .exact h.elim
 .obtain⟨b2,off2,sz2,pre2,rfl,hp2,hl2,hs2,ho2,hr2⟩:=hyr.resolve_left hy0;have hpos:0<ys.length:=by cases ys with|nil=>exact absurd rfl hy0|cons=>simp
  have hsz2:sz2=te.sz:=by
   have hm:=lN hpos;rw[<-hs2 _ hm,hys _ hm]
  subst hsz2;obtain⟨rest2,e2,fr2,hh2⟩:=hR.pis b2 pre2 hp2;have hnl:((pre2.drop off2).take (ys.length * te.sz)).length=ys.length * te.sz:=by rw[bK,dR];omega
  have hnews:∀j v,((pre2.drop off2).take (ys.length * te.sz))[j]?=some v->w.cell? ((⟨b2,off2,none⟩:Addr).add j)=some v:=by
   intro j v hj;rw[nK]at hj;split at hj
   .rw[oW]at hj;rw[lE];simp only[World.cell?,hh2,Option.isSome_none,cJ,↓reduceIte,oF];rw[kC (dV.1 hj).1];exact hj
   .simp at hj
  have hflat:Rzs g (flat ys) ((pre2.drop off2).take (ys.length * te.sz)):=by
   obtain⟨a',cap',e1,_,_,e2⟩:=hyf;rw[hyv]at e1;rcases e2 with e2|⟨b',off',sz',pre',e3,e4,e5,e6,e7,e8⟩
   .exact absurd e2 hy0
   .subst e3;simp only[qY,bJ,tJ,rE,jV]at e1;obtain⟨⟨rfl,rfl⟩,rfl⟩:=e1;rw[hp2]at e4;cases e4;have:sz'=te.sz:=by rw[<-e6 _ (lN hpos),hys _ (lN hpos)]
    rw[this]at e8;exact e8
  generalize hnw:(pre2.drop off2).take (ys.length * te.sz)=news at *
  have hfone:∀c,c∈flat ys->c.one=true:=by
   intro c hc;simp only[flat,List.mem_flatMap]at hc;obtain⟨q,hq,hc⟩:=hc;exact ho2 q hq c hc
  have hn1:∀v,v∈news->v.oneCell'=true:=hflat.one hfone
  have hzs:z.cells.size=te.sz:=by
   have h1:=(hzr g).1;rw[(C.htt e te hte).len]at h1;simpa using h1
  have hcapz:∀(n cap:Nat),n<=cap->(Builtin.zeroCells z.cells (cap-n)).toList.length+n * te.sz=cap * te.sz:=by
   intro n cap h;simp only[oV,aBL,hzs,<-gW];congr 1;omega
  split at h
  ·
   obtain⟨hlim,h⟩:=h;have hxv:=(he x _ hx).nils_inv
   have hrun:=run_append_nil (P:=C.P) w u ty e i z hd hi hiz ⟨b2,off2,none⟩ ys.length cap2 news (by rw[hnl,his]) hnews hpos aB
    (by have:ys.length * i.bytes<=4294967296 * 32768:=Nat.mul_le_mul hlim (by rw[hib];exact hby);omega)
   have hgb:=qZ w ys.length 0 e aB;rw[hexec,hxv,hyv,hrun,aGa];rcases aEX h with h|⟨hdt,_,_,h⟩
   rotate_left
   .obtain⟨J,j1,j2,j3⟩:=aGA hzr hz1 (grownCap w ys.length 0 e-ys.length);exact aEO hR hdt hflat (j3 g) hfone j2 hgb.1 hgb.2 (λb hb=>h b _ J hb hgb.1 (by rw[j1,(C.htt e te hte).len]) j2)
   obtain⟨N,s',n2,n1,m3,m4,m5,m6⟩:=aCe hR h
   have:=wV (KV:=KV) (Kp:=Kp) hR (t:=N) hte (rest:=(Builtin.zeroCells z.cells (grownCap w ys.length 0 e-ys.length)).toList) hys ho2 hflat hgb.1 hgb.2
    (by rw[aG,hnl];have:=hcapz _ _ hgb.1;omega) m3 m4 m5 (.inl n1) (λm x hx=>by rw[n2]at hx;cases hx) m6
   exact this
  ·
   have h:(ys.length<=4294967296/\0<ys.length)/\oQ C s ys.length e te.sz ys KV:=by
    cases ys with
    | nil=>exact absurd rfl hy0
    | cons y r=>exact h
   obtain⟨⟨hlim,_⟩,h⟩:=h;obtain⟨ae,hxv⟩:=(he x _ hx).emp_inv
   have hrun:=run_append_grow (P:=C.P) w u ty e i z hd hi hiz ae 0 0 [] bD (λj u hj=>by simp at hj) ⟨b2,off2,none⟩ ys.length cap2 news (by rw[hnl,his]) hnews aB aB (growslice_fits aB (by
    have:(0+ys.length) * i.bytes<=4294967296 * 32768:=Nat.mul_le_mul aB (by rw[hib];exact hby);omega))
   have hgb:=qZ w ys.length 0 e aB;rw[hexec,hxv,hyv,hrun];simp only[gI,aW];rw[show((#[]:Array Value)++news.toArray++Builtin.zeroCells z.cells (grownCap w ys.length 0 e-ys.length))=(news++(Builtin.zeroCells z.cells (grownCap w ys.length 0 e-ys.length)).toList).toArray by apply Array.ext';simp];rcases aEX h with h|⟨hdt,_,_,h⟩
   rotate_left
   .obtain⟨J,j1,j2,j3⟩:=aGA hzr hz1 (grownCap w ys.length 0 e-ys.length);exact aEO hR hdt hflat (j3 g) hfone j2 hgb.1 hgb.2 (λb hb=>h b _ J hb hgb.1 (by rw[j1,(C.htt e te hte).len]) j2)
   obtain⟨N,s',n2,n1,m3,m4,m5,m6⟩:=aCe hR h
   have:=wV (KV:=KV) (Kp:=Kp) hR (t:=N) hte (rest:=(Builtin.zeroCells z.cells (grownCap w ys.length 0 e-ys.length)).toList) hys ho2 hflat hgb.1 hgb.2
    (by rw[aG,hnl];have:=hcapz _ _ hgb.1;omega) m3 m4 m5 (.inl n1) (λm x hx=>by rw[n2]at hx;cases hx) m6
   exact this
  ·
   rename_i mb mn mcap;unfold sM at h;split at h;rotate_left
   .exact h.elim
   rename_i e' cs hbo;obtain⟨⟨hdt,rfl,hcl,hnc,hlim,_⟩,h⟩:=h;obtain⟨k,hxv,hbk,_,hcm⟩:=(he x _ hx).mg_inv;obtain⟨k',vs,rest,hbk',hh,hrs,hone⟩:=hR.cellsOf hbo;rw[hbk]at hbk';cases hbk';have hvl:vs.length=mcap * te.sz:=by rw[hrs.1,hcl]
   have hnz:mn * te.sz<=mcap * te.sz:=oU _ hnc
   have hbytes:(mn+ys.length) * i.bytes<=140737488355328:=by
    have:(mn+ys.length) * i.bytes<=4294967296 * 32768:=Nat.mul_le_mul hlim (by rw[hib];exact hby);omega
   by_cases hroom:mn+ys.length<=mcap
   .have hfz:mn * te.sz+ys.length * te.sz<=mcap * te.sz:=by rw[<-gW];exact oU _ hroom
    have hfit:mn * i.size+news.length<=(vs++rest).toArray.size:=by
     rw[hnl,his];simp only[List.size_toArray,aG];omega
    have hrun:=run_append_room (P:=C.P) w u ty e' i hd hi k mn mcap (vs++rest).toArray hh ⟨b2,off2,none⟩ ys.length cap2 news (by rw[hnl,his]) hnews hn1 hroom hfit;rw[hexec,hxv,hyv,hrun];have hK:=h mb mcap (cs.drop (mn * te.sz+ys.length * te.sz)) (.inl ⟨rfl,rfl⟩) hroom (by rw[dR,hcl,<-gW,<-Nat.sub_mul]) (λc hc=>hone c (tE hc));refine⟨g,_,_,gR g,hR.setObj hbo hbk (λj hj=>zH hj _) ?_,.mg mb _ _ k hbk hroom hcm,hK⟩;rw[yW hh];refine⟨vs.take (mn * te.sz)++(news++vs.drop (mn * te.sz+ys.length * te.sz)),rest,?_,(hrs.take _).append (hflat.append (hrs.drop _)),λc hc=>?_⟩
    .rw[hnl,his,List.toList_toArray,List.take_append_of_le_length aB,List.drop_append_of_le_length aB];simp only[bI]
    .rcases cW.1 hc with hc|hc
     .exact hone c (qX hc)
     .rcases cW.1 hc with hc|hc
      .exact hfone c hc
      .exact hone c (tE hc)
   .have hcell:∀j u,(vs.take (mn * te.sz))[j]?=some u->w.cell? ((⟨k,0,none⟩:Addr).add j)=some u:=by
     intro j u hj;rw[lE];simp only[World.cell?,hh,Option.isSome_none,cJ,↓reduceIte,gI];rw[nK]at hj;split at hj
     .simp only[oF];rw[kC (dV.1 hj).1];exact hj
     .simp at hj
    have hrun:=run_append_grow (P:=C.P) w u ty e' i z hd hi hiz ⟨k,0,none⟩ mn mcap (vs.take (mn * te.sz)) (by rw[bK,his];omega) hcell ⟨b2,off2,none⟩ ys.length cap2 news (by rw[hnl,his]) hnews aB aB (growslice_fits aB hbytes);have hgb:=qZ w (mn+ys.length) mcap e' aB;rw[hexec,hxv,hyv,hrun,aCR];obtain⟨J,j1,j2,j3⟩:=aGA hzr hz1 (grownCap w (mn+ys.length) mcap e'-(mn+ys.length));refine aEO hR hdt ((hrs.take _).append hflat) (j3 g) (λc hc=>?_) j2 hgb.1 hgb.2 (λb hb=>?_)
    .rcases cW.1 hc with hc|hc
     .exact hone c (qX hc)
     .exact hfone c hc
    .have:=h b _ J (.inr hb) hgb.1 (by rw[j1,(C.htt e' te hte).len]) j2;rw[bI];exact this
  ·
   rename_i t es;obtain⟨h1,h2,h3,hK⟩:=h;obtain⟨ax,capx,hxv,hmx,hcx,htk,hxr⟩:=(he x _ hx).list_inv;obtain⟨v,xs,e1,hown,hmax,hblk⟩:=hR.tok t es.length e h1;have hvx:v=ev x:=by have:=htk t rfl;rw[e1]at this;exact yU this
   subst hvx;rw[hszC]at hown
   have hdt:rW C s (s.setT t (es.length+ys.length,e)) t:=⟨rfl,λhd=>⟨bT _,Nat.lt_of_not_le λhle=>by
    have:=(hR.dtm hd t hle).2 es.length;rw[this]at e1;cases e1⟩⟩
   have hmax':∀m x,g.eta t m=some x->m<(es++ys).length:=λm x hx=>by have:=hmax m x hx;simp;omega
   have hone':∀y,y∈es++ys->∀c,c∈y.cells->c.one=true:=by
    intro q hq c hc;rcases cW.1 hq with hq|hq
    .rcases hxr with rfl|⟨b,off,sz,pre,_,_,_,_,ho,_⟩
     .cases hq
     .exact ho q hq c hc
    .exact ho2 q hq c hc
   have hes':∀y,y∈es++ys->y.cells.length=te.sz:=by
    intro q hq;rcases cW.1 hq with hq|hq
    .exact h2 q hq
    .exact hys q hq
   have hlen:(es++ys).length=es.length+ys.length:=by simp
   have hbytes:(es.length+ys.length) * i.bytes<=140737488355328:=by
    have:(es.length+ys.length) * i.bytes<=4294967296 * 32768:=Nat.mul_le_mul h3 (by rw[hib];exact hby);omega
   have hxsR:Rzs g (flat es) xs:=by
    obtain⟨a',cap',q1,_,_,q2⟩:=(he x _ hx).to_flat;rcases q2 with rfl|⟨b',off',sz',pre',q3,q4,q5,q6,q7,q8⟩
    .have:xs=[]:=fK (by simpa using hown.1);rw[this];exact .nil g
    .by_cases hes0:es=[]
     .subst hes0;have:xs=[]:=fK (by simpa using hown.1);rw[this];exact .nil g
     .have hp0:0<es.length:=by cases es with|nil=>exact absurd rfl hes0|cons=>simp
      have hsz':sz'=te.sz:=by rw[<-q6 _ (lN hp0),h2 _ (lN hp0)]
      subst q3;rcases hown.2 with⟨hn,h0⟩|⟨g0,cap0,cur0,hv0,_⟩
      .omega
      .have hb0:=hblk g0 (by rw[hv0];rfl);rw[hv0]at q1;simp only[qY,bJ,tJ,rE,jV]at q1;obtain⟨⟨rfl,rfl⟩,rfl⟩:=q1;rw[hb0.1]at q4;cases q4;rw[hsz',rY,dW (by rw[hown.1];exact bT _)]at q8;exact q8
   have hall:Rzs g (flat (es++ys)) (xs++news):=by rw[aHw];exact hxsR.append hflat
   rcases hown.2 with⟨hn,h0⟩|⟨g0,cap0,cur0,hv0,_,hh0,hnc,hcm,hcs,htake⟩
   ·
    have hes0:es=[]:=fK h0
    have hrun:=run_append_nil (P:=C.P) w u ty e i z hd hi hiz ⟨b2,off2,none⟩ ys.length cap2 news (by rw[hnl,his]) hnews hpos aB
     (by rw[hes0]at hbytes;simp only[aF,gI]at hbytes;omega)
    have hgb:=qZ w ys.length 0 e aB;rw[hexec,hn,hyv,hrun,aGa]
    have:=wV (KV:=KV) (Kp:=Kp) hR (t:=t) hte (rest:=(Builtin.zeroCells z.cells (grownCap w ys.length 0 e-ys.length)).toList) hys ho2 hflat hgb.1 hgb.2
     (by rw[aG,hnl];have:=hcapz _ _ hgb.1;omega) (s':=s.setT t (es.length+ys.length,e)) (λq=>rfl) (λq=>by rw[dE];simp[hes0]) hdt (.inr ⟨_,h1⟩) (by simpa [hes0]using hmax') (by simpa [hes0]using hK)
    exact this
   .by_cases hroom:es.length+ys.length<=cap0
    .have hfit:es.length * i.size+news.length<=cur0.size:=by
      rw[hnl,his,hcs,<-gW];exact oU _ hroom
     have hrun:=run_append_room (P:=C.P) w u ty e i hd hi g0 es.length cap0 cur0 hh0 ⟨b2,off2,none⟩ ys.length cap2 news (by rw[hnl,his]) hnews hn1 hroom hfit;rw[hexec,hv0,hyv,hrun]
     have hrow:(w.setRow g0 (cur0.toList.take (es.length * i.size)++news++cur0.toList.drop (es.length * i.size+news.length)).toArray).ownsRow 0 e (C.toCtx.sz e) (.slice (some ⟨g0,0,none⟩) (es.length+ys.length) cap0) (es.length+ys.length) (xs++news):=by
      rw[hszC,his];refine⟨by rw[aG,hown.1,hnl,gW],.inr ⟨g0,cap0,_,rfl,aU _,yW hh0 _,hroom,hcm,?_,?_⟩⟩
      .rw[his]at hfit;simp only[List.size_toArray,aG,bK,dR,oV];omega
      .rw[htake];have:(es.length+ys.length) * te.sz=(xs++news).length:=by rw[aG,hown.1,hnl,gW]
       rw[this];simp only[bI];rw[<-bI];exact List.take_left
     have hb0:=hblk g0 (by rw[hv0];rfl);obtain⟨r1,r2⟩:=hR.tokStep (t:=t) (b:=g0) (λk hk hne=>zH hne _) hrow rfl (by simpa using hmax') (s':=s.setT t (es.length+ys.length,e)) (λq=>rfl) (λq=>dE _ _ _ q) hdt (.inr ⟨es.length,ev x,xs,news,h1,e1,by rw[hv0];rfl,hb0.1,rfl⟩);refine⟨_,.list (some t) (es++ys),_,r2,r1,?_,hK⟩;rw[<-hlen];refine wR (off:=0) (sz:=te.sz) (vs:=xs++news) (pre:=xs++news) (by rw[hlen];exact zD _ _ _ _ _ _) bD ?_ hes' hone' (by rw[hlen];exact hroom) hcm (aU _) (λt' ht'=>by cases ht';rw[hlen];exact wQ _ _ _ _ _ _);rw[dW (by rw[aG,hown.1,hnl,hlen,gW];exact bT _)];rw[hlen]at *;exact hall.mono r2
    .have hcell:∀j u,xs[j]?=some u->w.cell? ((⟨g0,0,none⟩:Addr).add j)=some u:=by
      intro j u hj;rw[lE];simp only[World.cell?,hh0,Option.isSome_none,cJ,↓reduceIte,gI];rw[<-htake,nK]at hj;split at hj
      .simpa using hj
      .simp at hj
     have hrun:=run_append_grow (P:=C.P) w u ty e i z hd hi hiz ⟨g0,0,none⟩ es.length cap0 xs (by rw[hown.1,his]) hcell ⟨b2,off2,none⟩ ys.length cap2 news (by rw[hnl,his]) hnews aB aB (growslice_fits aB hbytes);have hgb:=qZ w (es.length+ys.length) cap0 e aB;rw[hexec,hv0,hyv,hrun,aCR]
     have:=wV (KV:=KV) (Kp:=Kp) hR (t:=t) hte (es:=es++ys) (rest:=(Builtin.zeroCells z.cells (grownCap w (es.length+ys.length) cap0 e-(es.length+ys.length))).toList) hes' hone' hall (by rw[hlen];exact hgb.1) hgb.2
      (by rw[aG,aG,hnl,hown.1];have:=hcapz _ _ hgb.1;rw[gW]at this;omega) (s':=s.setT t (es.length+ys.length,e)) (λq=>rfl) (λq=>by rw[dE,hlen]) hdt (.inr ⟨_,h1⟩) hmax' hK
     rw[hlen]at this;exact this
  .exact h.elim
end
end
section
section
variable {C:Cx} {F:Fr} {g:Gh} {s:St} {w:World} {ρ:Operand->Option A} {ev:Operand->Value}
theorem aHe{t:TypeId}{v:Value}(P:Program)(w:World):(Instr.panic (.iface t v)).run P w=.halt (.panic (.iface t v)) w:=rfl
theorem aLx{KV Kp:St->A->Prop}{op:Op}{ty:TypeId}{dst:Option Tmp}{pos:String}{after:Array Edge}{gd:Option (Nat × Bool)}
  (hR:R C.toCtx F g s w)(he:∀x a,ρ x=some a->Rz g a (ev x))(h:bF C op ρ KV Kp s) :
  OutV C F g KV Kp ((execOp ev ⟨dst,op,ty,pos,after,gd⟩).run C.P w):=by
 cases op
 case load=>exact aSW hR he h
 case store=>exact aSt hR he h
 case alloc=>exact aSm hR h
 case box=>exact aTO hR he h
 case buildSlice t len parts =>
  simp only[bF]at h;split at h
  .exact pD (sG hR he h)
  .rename_i ho;rcases h with h|h
   .exact pD (sG hR he h)
   .refine aOC hR he ?_ h;unfold aBx at ho;split at ho
    .cases ho
    ·assumption
 case range=>exact aSw hR he h
 case makeSlice=>exact aNw hR he h
 case convert=>exact aPK hR he h
 case next=>exact aTg hR he h
 case panic x =>
  simp only[bF]at h;split at h
  .rename_i t a hx;obtain⟨v,hv,hr⟩:=(he x _ hx).iface_inv;simp only[execOp,hv,bP,aHe,Result.andThen_halt];exact⟨g,_,s,gR g,hR,.iface t a v hr,h⟩
  .exact h.elim
 case call c =>
  obtain⟨cal,args,ats⟩:=c;cases cal with
  | value f =>
   simp only[bF]at h;split at h
   .rename_i fid first caps az hf has
    obtain⟨us,vs,hv,r1,r2⟩:=(he f _ hf).fn_inv;have r3:=aCx he has;have hd:=h F g w _ hR ((r1.append r3).append r2);have e1:args.map ev=(args.toList.map ev).toArray:=by rw[<-lC,Array.toArray_toList]
    simp only[execOp,resolve,hv,Deferred.ofValue,bP,cD,bN,invoke,e1];simpa using hd
   .exact h.elim
  | invoke r m=>exact pD (sG hR he h)
  | builtin b =>
   by_cases hb:b=.append
   .subst hb;obtain⟨al⟩:=args;obtain⟨tl⟩:=ats
    match al,tl,h with
    | [x,y],[t,u],h=>exact aQy hR he h
    | [],_,h=>simp only[bF]at h
    | [_],_,h=>simp only[bF]at h
    | _::_::_::_,_,h=>simp only[bF]at h
    | [_,_],[],h=>simp only[bF]at h
    | [_,_],[_],h=>simp only[bF]at h
    | [_,_],_::_::_::_,h=>simp only[bF]at h
   .by_cases hu:b=.unsafeString
    .subst hu;obtain⟨al⟩:=args;obtain⟨tl⟩:=ats
     match al,tl,h with
     | [x,y],[t,u],h=>exact aSU hR he h
     | [],_,h=>simp only[bF]at h
     | [_],_,h=>simp only[bF]at h
     | _::_::_::_,_,h=>simp only[bF]at h
     | [_,_],[],h=>simp only[bF]at h
     | [_,_],[_],h=>simp only[bF]at h
     | [_,_],_::_::_::_,h=>simp only[bF]at h
    by_cases hp:b=.panic
    .subst hp;simp only[bF]at h;split at h
     .rename_i x hx;split at h
      .rename_i t a hxa;obtain⟨v,hv,hr⟩:=(he x _ hxa).iface_inv;obtain⟨al⟩:=args;simp only at hx;subst hx;simp only[execOp,resolve,invoke,builtin,bP,cD,bN,lC,bS,cY,hv,aEs,oF,kM,Option.getD_some,aHe,Result.andThen_halt];exact⟨g,_,s,gR g,hR,.iface t a v hr,h⟩
      .exact h.elim
     .exact h.elim
    .have h':cK C (.call ⟨.builtin b,args,ats⟩) ρ (KV s):=by
      cases b<;>first|exact absurd rfl hb|exact absurd rfl hp|exact absurd rfl hu|exact h
     exact pD (sG hR he h')
 case binOp op t x y yt =>
  cases op
  case eql =>
   simp only[bF]at h;split at h
   .rename_i tk ha hb;rcases h with h|⟨hn,ht,hf⟩
    .exact pD (sG hR he h)
    .refine pD (s:=s) ?_;have ra:=he x _ ha;have rb:=he y _ hb;simp only[execOp];obtain⟨ad,cap,hv,_⟩:=ra.list_inv;rw[hv,rb.nils_inv];obtain⟨r,h1,h2⟩:=C.hnl t hn ad _ cap w .eql x y (.inl rfl);rw[if_pos rfl]at h2;have hK:KV s (.bool r):=by cases r<;>assumption
     refine eX (v:=.bool r) hR ?_ (.bool _) hK;rw[bP,h1,bN,h2]
   .exact pD (sG hR he h)
  all_goals exact pD (sG hR he h)
 all_goals exact pD (sG hR he h)
end
structure EnvOk (g:Gh) (n:Nat) (e:Env) (tmps:Array Value):Prop where
 size:tmps.size=n
 val:∀t a,e.get t=some a->∃v,tmps[t]?=some v/\Rz g a v
theorem EnvOk.mono{g g':Gh}(hg:g.le g'){n:Nat}{e:Env}{tmps:Array Value}(h:EnvOk g n e tmps):EnvOk g' n e tmps :=
 ⟨h.size,λt a ha=>let⟨v,h1,h2⟩:=h.val t a ha;⟨v,h1,h2.mono hg⟩⟩
theorem EnvOk.nil{g:Gh}{n:Nat}{tmps:Array Value}(h:tmps.size=n):EnvOk g n [] tmps:=⟨h,λt a ha=>by cases ha⟩
theorem EnvOk.sub{g:Gh}{n:Nat}{e e':Env}{tmps:Array Value}(h:EnvOk g n e tmps)(he:∀t a,e'.get t=some a->e.get t=some a):EnvOk g n e' tmps :=
 ⟨h.size,λt a ha=>h.val t a (he t a ha)⟩
theorem EnvOk.put{g:Gh}{n:Nat}{e:Env}{a:Act}{d:Nat}{x:A}{v:Value}(h:EnvOk g n e a.tmps)(hd:d<n)(hv:Rz g x v) :
  EnvOk g n (e.put d x) (a.put (some d) v).tmps:=by
 refine⟨by simp[Act.put,h.size],λt y hy=>?_⟩;rw[mS]at hy;show∃u,(a.tmps.setIfInBounds d v)[t]?=some u/\_
 by_cases ht:d=t
 .subst ht;simp only[↓reduceIte,bJ]at hy;subst hy;exact⟨v,by simp[Array.getElem?_setIfInBounds,h.size,hd],hv⟩
 .simp only[ht,↓reduceIte]at hy;obtain⟨u,h1,h2⟩:=h.val t y hy;exact⟨u,by rw[aBF ht];exact h1,h2⟩
theorem EnvOk.del{g:Gh}{n:Nat}{e:Env}{a:Act}{d:Nat}{v:Value}(h:EnvOk g n e a.tmps) :
  EnvOk g n (e.del d) (a.put (some d) v).tmps:=by
 refine⟨by simp[Act.put,h.size],λt y hy=>?_⟩;rw[aHq]at hy;show∃u,(a.tmps.setIfInBounds d v)[t]?=some u/\_
 by_cases ht:d=t
 .simp[ht]at hy
 .simp only[ht,↓reduceIte]at hy;obtain⟨u,h1,h2⟩:=h.val t y hy;exact⟨u,by rw[aBF ht];exact h1,h2⟩
theorem EnvOk.oper{C:Cx}{F:Fr}{g:Gh}{s:St}{w:World}{n:Nat}{e:Env}{a:Act}(hR:R C.toCtx F g s w)(h:EnvOk g n e a.tmps) :
  ∀x v,eT C e x=some v->Rz g v (a.eval x):=by
 intro x v hv;cases x with
 | tmp t =>
  obtain⟨u,h1,h2⟩:=h.val t v hv;simpa [Act.eval,aEs,h1]using h2
 | const c=>exact aPh hv
 | global k =>
  simp only[eT]at hv;split at hv
  .rename_i cs hcs;simp only[bJ]at hv;subst hv;obtain⟨pre,_,_,_,hp,hl,h1,hr⟩:=hR.gpi hcs;exact .eptr cs 0 k 0 pre hp aB h1 (λj c v hc hv=>hr j c v hc (by simpa using hv))
  .simp at hv
 | func f =>
  simp only[eT,bJ]at hv;subst hv;exact .fn f [] [] [] [] rfl rfl bD bD
inductive XK where
 | normal
 | exit (id:Nat)
 | goto (l:Nat)
 | ret
 | panic (a:A)
def XRz(g:Gh):XK->Exit->Prop
 | .normal,.normal=>True
 | .exit i,.exit j=>i=j
 | .goto i,.goto j=>i=j
 | .ret,.ret=>True
 | .panic a,.panic mF=>∃v,mF=[{ v:=v,recovered:=false }]/\Rz g a v
 | _,_=>False
def Post(C:Cx)(F:Fr)(g:Gh)(n:Nat)(D:List Deferred)(Q:XK->Env->St->Prop)(ex:Exit)(a:Act)(w:World):Prop :=
 ∃g' e s x,g.le g'/\R C.toCtx F g' s w/\EnvOk g' n e a.tmps/\a.defers=D/\XRz g' x ex/\Q x e s
def Ex(C:Cx)(n:Nat)(c:Code)(Q:XK->Env->St->Prop)(e:Env)(s:St):Prop :=
 ∀F g w a,R C.toCtx F g s w->EnvOk g n e a.tmps->c.wp C.P (Post C F g n a.defers Q) a w
theorem Post.mono{C:Cx}{F:Fr}{g g':Gh}(hg:g.le g'){n:Nat}{D:List Deferred}{Q Q':XK->Env->St->Prop}{ex:Exit}{a:Act}{w:World}
  (h:Post C F g' n D Q ex a w)(hQ:∀x e s,Q x e s->Q' x e s):Post C F g n D Q' ex a w:=by
 obtain⟨g2,e,s,x,h1,h2,h3,h4,h5,h6⟩:=h;exact⟨g2,e,s,x,hg.trans h1,h2,h3,h4,h5,hQ _ _ _ h6⟩
def cQ(n:Nat)(dst:Option Tmp)(K:Env->St->Prop)(e:Env)(s:St)(v:A):Prop :=
 match dst with
 | some d=>d<n/\K (e.put d v) s
 | none=>K e s
def lX:List (Option Tmp)->Nat->Option Tmp
 | [],_=>none
 | d::_,0=>d
 | _::r,n+1=>lX r n
def hU(C:Cx)(n:Nat)(ds:List (Option Tmp)):List Oper->(Env->St->Prop)->(St->A->Prop)->Env->St->Prop
 | [],K,_,e,s=>K e s
 | ⟨dst,op,_,_,_,none⟩::r,K,Kp,e,s=>bF C op (eT C e) (cQ n dst (hU C n ds r K Kp) e) Kp s
 | ⟨dst,op,_,_,_,some (j,want)⟩ :: r,K,Kp,e,s =>
  match lX ds j with
  | none=>False
  | some t=>match e.get t with
   | some (.bool b) =>
    match b with
    | true=>match want with
     | true=>bF C op (eT C (e.put t (.bool true))) (cQ n dst (hU C n ds r K Kp) (e.put t (.bool true))) Kp s
     | false=>cQ n dst (hU C n ds r K Kp) (e.put t (.bool true)) s (.tuple [])
    | false=>match want with
     | false=>bF C op (eT C (e.put t (.bool false))) (cQ n dst (hU C n ds r K Kp) (e.put t (.bool false))) Kp s
     | true=>cQ n dst (hU C n ds r K Kp) (e.put t (.bool false)) s (.tuple [])
   | some (.tuple _)=>cQ n dst (hU C n ds r K Kp) e s (.tuple [])
   | _=>False
end
section
def Env.ge(e e':Env):Prop:=∀t a,e'.get t=some a->e.get t=some a
theorem Env.ge.refl(e:Env):e.ge e:=λ_ _ h=>h
theorem aHG(V:List Nat)(e:Env):e.ge (e.keep V):=λt a h=>aM2 V e t a h
def Env.rem(ds:List (Option Tmp)):Env->Env
 | []=>[]
 | (k,u)::e=>if ds.elem (some k) then Env.rem ds e else(k,u)::Env.rem ds e
theorem pB(ds:List (Option Tmp)):∀(e:Env) (t:Nat),(e.rem ds).get t=if ds.elem (some t) then none else e.get t
 | [],t=>by simp[Env.rem,Env.get]
 | (k,u)::e,t=>by
  have ih:=pB ds e t;simp only[Env.rem];by_cases hk:ds.elem (some k)=true
  .rw[if_pos hk,ih];by_cases ht:k=t
   .subst ht;simp only[hk,↓reduceIte]
   .simp only[Env.get,ht,↓reduceIte]
  .rw[if_neg hk];by_cases ht:k=t
   .subst ht;rw[if_neg hk];simp only[Env.get,↓reduceIte]
   .simp only[Env.get,ht,↓reduceIte,ih]
theorem EnvOk.other{g:Gh}{n:Nat}{e0:Env}{a:Act}{dst:Option Tmp}{v:Value}(h:EnvOk g n e0 a.tmps)(hd:∀d,dst=some d->e0.get d=none):EnvOk g n e0 (a.put dst v).tmps:=by
 cases dst with
 | none=>exact h
 | some d =>
  have h0:=hd d rfl;have e1:(a.put (some d) v).tmps=a.tmps.setIfInBounds d v:=rfl;refine⟨by rw[e1];simpa using h.size,λt x hx=>?_⟩;obtain⟨u,h1,h2⟩:=h.val t x hx;have:d≠t:=by rintro rfl;rw[h0]at hx;cases hx
  exact⟨u,by rw[e1,aBF this];exact h1,h2⟩
section
variable {C:Cx} {F:Fr} {g g0:Gh} {s:St} {w:World} {n:Nat}
theorem aB0(a:Act)(d:Option Tmp)(v:Value):(a.put d v).defers=a.defers:=by cases d<;>rfl
theorem R.unframe(h:R C.toCtx F g s w){F0:Fr}(hF:∀k o,F0 k=some o->F k=some o)(hG:∀k o p,F k=some (o,some p)->F0 k=some (o,some p)):R C.toCtx F0 g s w where
 env:=h.env
 obj:=λb o hb=>by
  obtain⟨k,h1,h2,h3,h4⟩:=h.obj b o hb;refine⟨k,h1,h2,h3,?_⟩;cases hk:F0 k with
  | none=>rfl
  | some x=>rw[hF k x hk]at h4;cases h4
 tok:=λt n e ht=>by
  obtain⟨v,xs,h1,h2,h3,h4⟩:=h.tok t n e ht;refine⟨v,xs,h1,h2,h3,λb hb=>⟨(h4 b hb).1,?_⟩⟩;cases hk:F0 b with
  | none=>rfl
  | some x=>have:=(h4 b hb).2;rw[hF b x hk]at this;cases this
 sep:=h.sep
 pis:=h.pis
 frm:=λb o hb=>h.frm b o (hF b o hb)
 glb:=λb cs hb=>by
  obtain⟨pre,ty,fr,hp,h1⟩:=h.glb b cs hb;exact⟨pre,ty,fr,hG _ _ _ hp,h1⟩
 fsh:=h.fsh
 bet:=h.bet
 inj:=h.inj
 dtm:=h.dtm
 lst:=h.lst
 bfr:=λb k hb=>by
  cases hk:F0 k with
  | none=>rfl
  | some x=>have:=h.bfr b k hb;rw[hF k x hk]at this;cases this
theorem aHg{F0:Fr}(hF:∀k o,F0 k=some o->F k=some o)(hG:∀k o p,F k=some (o,some p)->F0 k=some (o,some p)){o:Oper}{a:Act}{e e0:Env}{D:List Deferred}{K:Env->St->Prop}{Kp:St->A->Prop}{Q:XK->Env->St->Prop}
  {next:Act->World->Prop}(hg:g0.le g)(he:EnvOk g n e a.tmps)(he0:EnvOk g n e0 a.tmps)(hds:∀d,o.dst=some d->e0.get d=none)(hD:a.defers=D)
  (hnext:∀g' v w' e' s',g.le g'->R C.toCtx F g' s' w'->EnvOk g' n e' (a.put o.dst v).tmps->EnvOk g' n e0 (a.put o.dst v).tmps->(a.put o.dst v).defers=D->K e' s'->next (a.put o.dst v) w')
  (hKp:∀s v,Kp s v->Q (.panic v) e0 s){r:Result Next}
  (h:OutV C F g (cQ n o.dst K e) Kp r):o.upon C.P a next (Post C F0 g0 n D Q) r:=by
 have hput:∀g' v av s' w',g.le g'->R C.toCtx F g' s' w'->Rz g' av v->cQ n o.dst K e s' av->next (a.put o.dst v) w':=by
  intro g' v av s' w' h1 h2 h3 h4;have he':=he.mono h1;unfold cQ at h4;cases hd:o.dst with
  | none=>rw[hd]at h4;rw[hd]at hnext;exact hnext g' v w' e s' h1 h2 he' (he0.mono h1) hD h4
  | some d =>
   rw[hd]at h4;rw[hd]at hnext;exact hnext g' v w' _ s' h1 h2 (he'.put h4.1 h3) ((he0.mono h1).other λd' hd'=>by cases hd';exact hds d hd) (by rw[aB0];exact hD) h4.2
 have hpan:∀g' v av s' w',g.le g'->R C.toCtx F g' s' w'->Rz g' av v->Kp s' av->Post C F0 g0 n D Q (.panic [{ v:=v,recovered:=false }]) a w' :=
  λg' v av s' w' h1 h2 h3 h4=>⟨g',e0,s',.panic av,hg.trans h1,h2.unframe hF hG,he0.mono h1,hD,⟨v,rfl,h3⟩,hKp _ _ h4⟩
 cases r with
 | ok x w' =>
  cases x<;>simp only[OutV]at h
  case value v =>
   obtain⟨g',av,s',h1,h2,h3,h4⟩:=h;exact hput g' v av s' w' h1 h2 h3 h4
  case skip =>
   obtain⟨g',s',h1,h2,h3⟩:=h;exact hput g' undef (.tuple []) s' w' h1 h2 (.tuple [] [] rfl bD) h3
  case enter f args =>
   refine Calls.mono h λen w'' hp=>?_
   cases en with
   | returned v=>obtain⟨g',av,s',h1,h2,h3,h4⟩:=hp;exact hput g' v av s' w'' h1 h2 h3 h4
   | panicked mF=>obtain⟨g',av,v,s',rfl,h1,h2,h3,h4⟩:=hp;exact hpan g' v av s' w'' h1 h2 h3 h4
   | outgrown=>exact hp.elim
 | halt x w' =>
  cases x<;>simp only[OutV]at h
  obtain⟨g',av,s',h1,h2,h3,h4⟩:=h;exact hpan g' _ av s' w' h1 h2 h3 h4
theorem aFy(ops:Array Oper):∀(j:Nat),lX (ops.toList.map (·.dst)) j=(ops[j]?).bind (·.dst):=by
 obtain⟨l⟩:=ops
 induction l with
 | nil=>intro j;simp[lX]
 | cons o l ih =>
  intro j;cases j with
  | zero=>simp[lX]
  | succ j=>simpa [lX]using ih j
theorem aH3{ops:Array Oper}{j t:Nat}{e:Env}{b:Bool}{tmps:Array Value}(hd:lX (ops.toList.map (·.dst)) j=some t)
  (he:EnvOk g n e tmps)(hb:e.get t=some (.bool b)):yielded ops tmps j=some b:=by
 obtain⟨v,h1,h2⟩:=he.val t _ hb;rw[aFy]at hd;simp[yielded,hd,h1,h2.bool_inv]
theorem aHf{ops:Array Oper}{j t:Nat}{e:Env}{l:List A}{tmps:Array Value}(hd:lX (ops.toList.map (·.dst)) j=some t)
  (he:EnvOk g n e tmps)(hb:e.get t=some (.tuple l)):yielded ops tmps j=none:=by
 obtain⟨v,h1,h2⟩:=he.val t _ hb;obtain⟨vs,rfl,_⟩:=h2.tuple_inv;rw[aFy]at hd;simp[yielded,hd,h1]
theorem aLq{ops:Array Oper}{e0:Env}{D:List Deferred}{K:Env->St->Prop}{Kp:St->A->Prop}{Q:XK->Env->St->Prop}
  (hK:∀e s,K e s->∃e',e.ge e'/\Q .normal e' s)(hKp:∀s v,Kp s v->Q (.panic v) e0 s) :
  ∀(l:List Oper) (g:Gh) (e:Env) (s:St) (a:Act) (w:World),(∀o,o∈l->∀d,o.dst=some d->e0.get d=none)->g0.le g->R C.toCtx F g s w->EnvOk g n e a.tmps->EnvOk g n e0 a.tmps->a.defers=D ->
   hU C n (ops.toList.map (·.dst)) l K Kp e s->wpList C.P ops (Post C F g0 n D Q) l a w
 | [],g,e,s,a,w,hds,hg,hR,he,he0,hD,h=>by
  obtain⟨e',h1,h2⟩:=hK _ _ h;exact⟨g,e',s,.normal,hg,hR,he.sub h1,hD,trivial,h2⟩
 | ⟨dst,op,ty,pos,after,gd⟩ :: r,g,e,s,a,w,hds,hg,hR,he,he0,hD,h => by
  have hd0:∀d,dst=some d->e0.get d=none:=hds ⟨dst,op,ty,pos,after,gd⟩ bD
  have hdr:∀o,o∈r->∀d,o.dst=some d->e0.get d=none:=λo ho=>hds o (by simp[ho])
  have ih:=aLq (ops:=ops) (D:=D) hK hKp r
  have run:∀e',EnvOk g n e' a.tmps->bF C op (eT C e') (cQ n dst (hU C n (ops.toList.map (·.dst)) r K Kp) e') Kp s ->
    (⟨dst,op,ty,pos,after,gd⟩:Oper).wp C.P a w (wpList C.P ops (Post C F g0 n D Q) r) (Post C F g0 n D Q):=by
   intro e' he' hev;have:=aLx (ev:=a.eval) (ty:=ty) (dst:=dst) (pos:=pos) (after:=after) (gd:=gd) hR (he'.oper hR) hev;exact aHg (λ_ _ h=>h) (λ_ _ _ h=>h) (o:=⟨dst,op,ty,pos,after,gd⟩) hg he' he0 hd0 hD (λg' a' w' e2 s' h1 h2 h3 h3' h4 h5=>ih g' e2 s' _ w' hdr (hg.trans h1) h2 h3 h3' h4 h5) hKp this
  have skip:∀e',EnvOk g n e' a.tmps->cQ n dst (hU C n (ops.toList.map (·.dst)) r K Kp) e' s (.tuple []) ->
    wpList C.P ops (Post C F g0 n D Q) r (a.put dst undef) w:=by
   intro e' he' hs;unfold cQ at hs;cases hdst:dst with
   | none=>rw[hdst]at hs;exact ih g e' s a w hdr hg hR he' he0 hD hs
   | some d=>rw[hdst]at hs;exact ih g _ s _ w hdr hg hR (he'.put hs.1 (.tuple [] [] rfl bD)) (he0.other λd' hd'=>by cases hd';exact hd0 d hdst) (by rw[aB0];exact hD) hs.2
  cases gd with
  | none =>
   simp only[hU]at h;unfold wpList;rw[if_pos (by simp[Region.wanted])];exact .inl (run e he h)
  | some jw =>
   obtain⟨j,want⟩:=jw;simp only[hU]at h;split at h
   .exact h.elim
   .rename_i t ht;split at h
    .rename_i b hb;have hy:=aH3 (b:=b) ht he hb
     have he':EnvOk g n (e.put t (.bool b)) a.tmps:=he.sub λu x hx=>by
      rw[mS]at hx;by_cases hu:t=u
      .subst hu;simp only[↓reduceIte]at hx;rw[hb];exact hx
      .simpa only[hu,↓reduceIte]using hx
     unfold wpList
     have hw:Region.wanted (⟨dst,op,ty,pos,after,some (j,want)⟩:Oper) (yielded ops a.tmps)=(b == want):=by
      simp only[Region.wanted,hy];cases b<;>cases want<;>rfl
     cases b<;>cases want<;>simp only at h
     .rw[if_pos (by rw[hw];rfl)];exact .inl (run _ he' h)
     .rw[if_neg (by rw[hw];decide)];exact skip _ he' h
     .rw[if_neg (by rw[hw];decide)];exact skip _ he' h
     .rw[if_pos (by rw[hw];rfl)];exact .inl (run _ he' h)
    .rename_i l hb;have hy:=aHf ht he hb;unfold wpList;rw[if_neg (by simp[Region.wanted,hy])];exact skip _ he h
    .exact h.elim
theorem aJW(e:Env){ops:Array Oper}:∀o,o∈ops.toList->∀d,o.dst=some d->(e.rem (ops.toList.map (·.dst))).get d=none:=by
 intro o ho d hd;rw[pB,if_pos];rw[List.elem_eq_mem];simp only[cU,cC];exact⟨o,ho,hd⟩
theorem aK3{e:Env}{ds:List (Option Tmp)}{tmps:Array Value}(he:EnvOk g n e tmps):EnvOk g n (e.rem ds) tmps:=he.sub λt a h=>by
 rw[pB]at h;split at h
 .cases h
 .exact h
theorem Ex.region{id:Nat}{ops:Array Oper}{Q:XK->Env->St->Prop}{K:Env->St->Prop}{Kp:St->A->Prop}{e:Env}
  (hK:∀e s,K e s->∃e',e.ge e'/\Q .normal e' s)(hKp:∀s v,Kp s v->Q (.panic v) (e.rem (ops.toList.map (·.dst))) s)
  (h:hU C n (ops.toList.map (·.dst)) ops.toList K Kp e s):Ex C n (.region id ops false) Q e s:=λF g w a hR he =>
 wp_region_list (aLq hK hKp ops.toList g e s a w (aJW e) (gR g) hR he (aK3 he) rfl h)
end
section
variable {C:Cx} {n:Nat} {Q:XK->Env->St->Prop} {e:Env} {s:St}
theorem Ex.mono{c:Code}{Q':XK->Env->St->Prop}(h:Ex C n c Q e s)(hQ:∀x e s,Q x e s->Q' x e s):Ex C n c Q' e s :=
 λF g w a hR he=>oY (λex a' w' hp=>Post.mono (gR g) hp hQ) (h F g w a hR he)
theorem aQB{c:Code}{Q':XK->Env->St->Prop}(h:Ex C n c Q e s)(hQ:∀x e s,Q x e s->∃e',e.ge e'/\Q' x e' s):Ex C n c Q' e s :=
 λF g w a hR he=>oY (λex a' w' hp=>by
  obtain⟨g',e',s',x,h1,h2,h3,h4,h5,h6⟩:=hp;obtain⟨e2,h7,h8⟩:=hQ _ _ _ h6;exact⟨g',e2,s',x,h1,h2,h3.sub h7,h4,h5,h8⟩) (h F g w a hR he)
theorem Ex.skip(h:Q .normal e s):Ex C n .skip Q e s:=λF g w a hR he=>wp_skip ⟨g,e,s,.normal,gR g,hR,he,rfl,trivial,h⟩
theorem Ex.label{l:Nat}(h:Q .normal e s):Ex C n (.label l) Q e s:=λF g w a hR he=>wp_label ⟨g,e,s,.normal,gR g,hR,he,rfl,trivial,h⟩
theorem Ex.exit{i:Nat}(h:Q (.exit i) e s):Ex C n (.exit i) Q e s:=λF g w a hR he=>wp_exit ⟨g,e,s,.exit i,gR g,hR,he,rfl,rfl,h⟩
theorem Ex.goto{i:Nat}(h:Q (.goto i) e s):Ex C n (.goto i) Q e s:=λF g w a hR he=>wp_goto ⟨g,e,s,.goto i,gR g,hR,he,rfl,rfl,h⟩
theorem Ex.ret(h:Q .ret e s):Ex C n .ret Q e s:=λF g w a hR he=>wp_ret ⟨g,e,s,.ret,gR g,hR,he,rfl,trivial,h⟩
def nE(R:Env->St->Prop)(Q:XK->Env->St->Prop):XK->Env->St->Prop
 | .normal,e,s=>R e s
 | x,e,s=>Q x e s
theorem Ex.seq{c d:Code}(h:Ex C n c (nE (Ex C n d Q) Q) e s):Ex C n (.seq c d) Q e s:=λF g w a hR he=>by
 refine wp_seq (oY (λex a' w' hp=>?_) (h F g w a hR he));obtain⟨g',e',s',x,h1,h2,h3,h4,h5,h6⟩:=hp;cases ex<;>cases x<;>try exact h5.elim
 .have:=h6 F g' w' a' h2 h3;rw[h4]at this;exact oY (λex a2 w2 hp=>Post.mono h1 hp λ_ _ _ h=>h) this
 all_goals exact⟨g',e',s',_,h1,h2,h3,h4,h5,h6⟩
def tW(i:Nat)(Q:XK->Env->St->Prop):XK->Env->St->Prop
 | .exit j,e,s=>if j=i then Q .normal e s else Q (.exit j) e s
 | x,e,s=>Q x e s
theorem Ex.block{i:Nat}{c:Code}(h:Ex C n c (tW i Q) e s):Ex C n (.block i c) Q e s:=λF g w a hR he=>by
 refine wp_block (oY (λex a' w' hp=>?_) (h F g w a hR he));obtain⟨g',e',s',x,h1,h2,h3,h4,h5,h6⟩:=hp;cases ex<;>cases x<;>try exact h5.elim
 case exit.exit j k =>
  simp only[XRz]at h5;subst h5;simp only[tW]at h6;simp only[Exit.inBlock];split at h6
  .rename_i hk;rw[if_pos hk];exact⟨g',e',s',.normal,h1,h2,h3,h4,trivial,h6⟩
  .rename_i hk;rw[if_neg hk];exact⟨g',e',s',.exit _,h1,h2,h3,h4,rfl,h6⟩
 all_goals exact⟨g',e',s',_,h1,h2,h3,h4,h5,h6⟩
theorem Ex.cond{c:Operand}{x y:Code}{b:Bool}(hc:eT C e c=some (.bool b))(h:Ex C n (if b then x else y) Q e s):Ex C n (.cond c x y) Q e s:=λF g w a hR he =>
 wp_cond (((he.oper hR) c _ hc).bool_inv) (h F g w a hR he)
theorem Ex.weaken{c:Code}{e':Env}{s':St}(he:e.ge e')(hs:s.ge s')(h:Ex C n c Q e' s')(hd:C.det=false:=by rfl):Ex C n c Q e s:=λF g w a hR hE =>
 h F g w a (hR.weaken hs (λh=>by rw[show C.toCtx.det=false from hd]at h;cases h)) (hE.sub he)
theorem aQj(I:Nat->Env->St->Prop)(m:Nat){c:Code}(h0:I m e s)
  (round:∀m e s,I m e s->Ex C n c (nE (λe' s'=>∃m',m'<m/\I m' e' s') Q) e s):Ex C n (.loop c) Q e s:=λF g0 w a hR hE=>by
 refine wp_loop_ghost (I:=λm a' w'=>a'.defers=a.defers/\∃g e s,g0.le g/\I m e s/\R C.toCtx F g s w'/\EnvOk g n e a'.tmps) m
  ⟨rfl,g0,e,s,gR g0,h0,hR,hE⟩ ?_
 rintro k a' w' ⟨hD,g,e',s',hg,hI,hR',hE'⟩;refine oY (λex a2 w2 hp=>?_) (round k e' s' hI F g w' a' hR' hE');obtain⟨g',e2,s2,x,h1,h2,h3,h4,h5,h6⟩:=hp;cases ex<;>cases x<;>try exact h5.elim
 .obtain⟨m',hm,hI'⟩:=h6;exact⟨m',hm,h4.trans hD,g',e2,s2,hg.trans h1,hI',h2,h3⟩
 all_goals exact⟨g',e2,s2,_,hg.trans h1,h2,h3,h4.trans hD,h5,h6⟩
def Env.has(e:Env):Env->Prop
 | []=>True
 | (k,a)::r=>e.get k=some a/\Env.has e r
theorem aEx{e:Env}:∀{e':Env},e.has e'->e.ge e'
 | [],_=>λt a h=>by cases h
 | (k,a)::r,h=>λt b hb=>by
  simp only[Env.get]at hb;split at hb
  .rename_i hk;subst hk;cases hb;exact h.1
  .exact aEx h.2 t b hb
theorem Ex.loop{ι:Type}(E:ι->Env)(S:ι->St)(I:ι->Prop)(μ:ι->Nat)(i:ι){c:Code}(hi:I i)(he:e.has (E i))(hs:s.ge (S i))
  (round:∀i,I i->Ex C n c (nE (λe' s'=>∃j,I j/\μ j<μ i/\e'.has (E j)/\s'.ge (S j)) Q) (E i) (S i))(hd:C.det=false:=by rfl):Ex C n (.loop c) Q e s:=by
 refine aQj (λm e s=>∃i,I i/\μ i=m/\e.ge (E i)/\s.ge (S i)) (μ i) ⟨i,hi,rfl,aEx he,hs⟩ ?_;rintro m e s ⟨j,hj,rfl,he,hs⟩;refine Ex.weaken he hs (Ex.mono (round j hj) λx e' s' h=>?_) hd;cases x
 case normal =>
  obtain⟨k,hk,hlt,h1,h2⟩:=h;exact⟨μ k,hlt,k,hk,rfl,aEx h1,h2⟩
 all_goals exact h
def mL(V:List Nat)(Q:XK->Env->St->Prop)(e:Env)(s:St):Prop:=Q .normal (e.keep V) s
def yF(Q:XK->Env->St->Prop)(ds:List (Option Tmp))(e:Env)(s:St)(v:A):Prop:=Q (.panic v) (e.rem ds) s
def aDq(C:Cx)(n:Nat)(id:Nat)(ops:Array Oper)(Q:XK->Env->St->Prop)(e:Env)(s:St):Prop:=Ex C n (.region id ops true) Q e s
def gQ(C:Cx)(n:Nat)(V:List Nat):Code->(XK->Env->St->Prop)->Env->St->Prop
 | .skip,Q,e,s=>Q .normal e s
 | .label _,Q,e,s=>Q .normal e s
 | .exit i,Q,e,s=>Q (.exit i) e s
 | .goto i,Q,e,s=>Q (.goto i) e s
 | .ret,Q,e,s=>Q .ret e s
 | .seq c d,Q,e,s=>gQ C n V c (nE (gQ C n V d Q) Q) e s
 | .block i c,Q,e,s=>gQ C n V c (tW i Q) e s
 | .cond c x y,Q,e,s=>match eT C e c with
  | some (.bool b)=>match b with
   | true=>gQ C n V x Q e s
   | false=>gQ C n V y Q e s
  | _=>False
 | .region id ops draw,Q,e,s=>match draw with
  | false=>hU C n (ops.toList.map (·.dst)) ops.toList (mL V Q) (yF Q (ops.toList.map (·.dst)) e) e s
  | true=>aDq C n id ops (nE (mL V Q) Q) e s
 | .loop c,Q,e,s=>Ex C n (.loop c) Q e s
 | c,Q,e,s=>Ex C n c Q e s
theorem aNR(R:Env->St->Prop)(Q:XK->Env->St->Prop)(e:Env)(s:St):nE R Q .normal e s=R e s:=rfl
theorem aPE(R:Env->St->Prop)(Q:XK->Env->St->Prop)(i:Nat)(e:Env)(s:St):nE R Q (.exit i) e s=Q (.exit i) e s:=rfl
theorem aPB(R:Env->St->Prop)(Q:XK->Env->St->Prop)(i:Nat)(e:Env)(s:St):nE R Q (.goto i) e s=Q (.goto i) e s:=rfl
theorem aQi(R:Env->St->Prop)(Q:XK->Env->St->Prop)(e:Env)(s:St):nE R Q .ret e s=Q .ret e s:=rfl
theorem aOD(R:Env->St->Prop)(Q:XK->Env->St->Prop)(a:A)(e:Env)(s:St):nE R Q (.panic a) e s=Q (.panic a) e s:=rfl
theorem aMQ(i:Nat)(Q:XK->Env->St->Prop)(e:Env)(s:St):tW i Q .normal e s=Q .normal e s:=rfl
theorem aOf(i:Nat)(Q:XK->Env->St->Prop)(e:Env)(s:St):tW i Q .ret e s=Q .ret e s:=rfl
theorem aNQ(i j:Nat)(Q:XK->Env->St->Prop)(e:Env)(s:St):tW i Q (.goto j) e s=Q (.goto j) e s:=rfl
theorem aNh(i:Nat)(a:A)(Q:XK->Env->St->Prop)(e:Env)(s:St):tW i Q (.panic a) e s=Q (.panic a) e s:=rfl
theorem aNS(i j:Nat)(Q:XK->Env->St->Prop)(e:Env)(s:St):tW i Q (.exit j) e s=if j=i then Q .normal e s else Q (.exit j) e s:=rfl
theorem bG{V:List Nat}:∀(c:Code) (Q:XK->Env->St->Prop) (e:Env) (s:St),gQ C n V c Q e s->Ex C n c Q e s
 | .skip,Q,e,s,h=>Ex.skip h
 | .label _,Q,e,s,h=>Ex.label h
 | .exit i,Q,e,s,h=>Ex.exit h
 | .goto i,Q,e,s,h=>Ex.goto h
 | .ret,Q,e,s,h=>Ex.ret h
 | .seq c d,Q,e,s,h=>by
  refine Ex.seq (Ex.mono (bG c _ e s h) λx e s hx=>?_);cases x
  case normal=>exact bG d Q e s hx
  all_goals exact hx
 | .block i c,Q,e,s,h=>Ex.block (bG c _ e s h)
 | .cond c x y,Q,e,s,h=>by
  simp only[gQ]at h;split at h
  .rename_i b hb;refine Ex.cond hb ?_;cases b
   .exact bG y Q e s h
   .exact bG x Q e s h
  .exact h.elim
 | .region id ops draw,Q,e,s,h=>by
  cases draw
  .exact Ex.region (λe s hk=>⟨_,aHG V e,hk⟩) (λ_ _ h=>h) h
  .refine aQB (Q:=nE (mL V Q) Q) h λx e s hx=>?_
   cases x
   case normal=>exact⟨_,aHG V e,hx⟩
   all_goals exact⟨e,Env.ge.refl e,hx⟩
 | .loop c,Q,e,s,h=>h
 | .rangeFunc ..,Q,e,s,h=>h
 | .scope c,Q,e,s,h=>h
 | .refuse _,Q,e,s,h=>h
end
end
section
def pS:Nat->List A->Env
 | _,[]=>[]
 | k,a::r=>(k,a)::pS (k+1) r
theorem aFp:∀(az:List A) (k t:Nat) (a:A),(pS k az).get t=some a->k<=t/\az[t-k]?=some a
 | [],k,t,a,h=>by simp[pS,Env.get]at h
 | x::r,k,t,a,h=>by
  simp only[pS,Env.get]at h;split at h
  .rename_i hk;subst hk;simp only[bJ]at h;subst h;exact⟨bT _,by simp⟩
  .rename_i hk;obtain⟨h1,h2⟩:=aFp r (k+1) t a h;refine⟨by omega,?_⟩;rw[show t-k=(t-(k+1))+1 by omega];simpa using h2
def rQ(C:Cx)(e:Env)(s:St):List ResultVar->Option (List A)
 | []=>some []
 | .tmp t::r=>match e.get t,rQ C e s r with
  | some a,some l=>some (a::l)
  | _,_=>none
 | .cell p t::r=>match e.get p,rQ C e s r with
  | some (.ptr b o),some l=>match s.getO b with
   | some (.cells _ cs)=>match sO C t cs o with
    | some a=>some (a::l)
    | none=>none
   | _=>none
  | _,_=>none
def aAu:List A->A
 | [a]=>a
 | l=>.tuple l
def mJ(C:Cx)(rs:List ResultVar)(KV Kp:St->A->Prop):XK->Env->St->Prop
 | .normal,e,s=>match rQ C e s rs with
  | some l=>KV s (aAu l)
  | none=>False
 | .ret,e,s=>match rQ C e s rs with
  | some l=>KV s (aAu l)
  | none=>False
 | .panic a,_,s=>Kp s a
 | _,_,_=>False
section
variable {C:Cx} {F:Fr} {g:Gh} {s:St} {w:World} {n:Nat} {e:Env}
theorem aNX(hR:R C.toCtx F g s w){b o:Nat}{e:TypeId}{cs:List A}{t:TypeId}{v:A}(hb:s.getO b=some (.cells e cs))(hv:sO C t cs o=some v) :
  ∃k u,g.beta b=some k/\(loadVar t ⟨k,o,none⟩).run C.P w=.ok u w/\Rz g v u:=by
 obtain⟨k,vs,rest,hbk,hh,hrs,hone⟩:=hR.cellsOf hb
 have cell:∀j u,vs[j]?=some u->w.cell? ⟨k,j,none⟩=some u:=by
  intro j u hj;simp only[World.cell?,hh,Option.isSome_none,cJ,↓reduceIte,oF];rw[kC (dV.1 hj).1];exact hj
 simp only[sO]at hv;split at hv
 .rename_i ti hti;split at hv
  .rename_i hag;split at hv
   .rename_i hsz;simp only[bJ]at hv;subst hv
    have hc:∀j v,((vs.drop o).take ti.sz)[j]?=some v->w.cell? ((⟨k,o,none⟩:Addr).add j)=some v:=by
     intro j v hj;rw[nK]at hj;split at hj
     .rw[oW]at hj;rw[lE,cell _ _ hj]
     .simp at hj
    have hlen':((vs.drop o).take ti.sz).length=ti.sz:=by
     have:=hrs.1;rw[bK,dR];omega
    have hrun:=run_loadCells_list (P:=C.P) w ⟨k,o,none⟩ _ hc;rw[hlen']at hrun;have hq:=(hrs.drop o).take ti.sz;refine⟨k,.agg ((vs.drop o).take ti.sz).toArray,hbk,?_,.agg _ _ hq.1 (λc hc=>hone c (tE (qX hc))) hq.2⟩;simp only[loadVar,bP,cD,bN,aAc hti,hag,↓reduceIte,lR hti,hrun]
   .simp at hv
  .rename_i hag;obtain⟨u,hu,hr⟩:=hrs.get hv;have hag':ti.k.agg=false:=by simpa using hag
   refine⟨k,u,hbk,?_,hr⟩;simp only[loadVar,bP,cD,bN,aAc hti,hag',cJ,↓reduceIte,run_load,cell _ _ hu]
 .simp at hv
def vZ(tmps:Array Value):ResultVar->Sem Value
 | .tmp t=>pure (tmps.getD t undef)
 | .cell a t=>do loadVar t (<-asAddr (tmps.getD a undef))
theorem aC0(hR:R C.toCtx F g s w){tmps:Array Value}(hE:EnvOk g n e tmps):∀(rs:List ResultVar) (l:List A),rQ C e s rs=some l ->
  ∃vs,(rs.mapM (vZ tmps)).run C.P w=.ok vs w/\Rzs g l vs
 | [],l,h=>by simp[rQ]at h;subst h;exact⟨[],by simp,.nil g⟩
 | .tmp t::r,l,h=>by
  simp only[rQ]at h;split at h
  .rename_i a l' ha hl;simp only[bJ]at h;subst h;obtain⟨vs,h1,h2⟩:=aC0 hR hE r l' hl;obtain⟨u,hu,hr⟩:=hE.val t a ha;refine⟨u::vs,?_,.cons hr h2⟩;have e0:(vZ tmps (.tmp t)).run C.P w=.ok u w:=by simp[vZ,aEs,hu]
   simp only[List.mapM_cons,bP,cD,bN,h1,e0]
  .simp at h
 | .cell p t::r,l,h=>by
  simp only[rQ]at h;split at h
  .rename_i b o l' ha hl;split at h
   .rename_i cs hcs;split at h
    .rename_i v hv;simp only[bJ]at h;subst h;obtain⟨vs,h1,h2⟩:=aC0 hR hE r l' hl;obtain⟨u,hu,hr⟩:=hE.val p _ ha;obtain⟨k,q,hbk,hq,hqr⟩:=aNX hR hcs hv;obtain⟨k',hp,hbk'⟩:=hr.ptr_inv;rw[hbk]at hbk';cases hbk';refine⟨q::vs,?_,.cons hqr h2⟩;have e0:(vZ tmps (.cell p t)).run C.P w=.ok q w:=by simp only[vZ,bP,aEs,hu,Option.getD_some,hp,asAddr,cD,bN,hq]
     simp only[List.mapM_cons,bP,cD,bN,h1,e0]
    .simp at h
   .simp at h
  .simp at h
theorem aKd{l:List A}{vs:List Value}(h:Rzs g l vs):Rz g (aAu l) (if h:vs.toArray.size=1 then vs.toArray[0] else .tuple vs.toArray):=by
 match l,vs,h with
 | [],[],h=>exact .tuple [] [] rfl bD
 | [a],[v],h=>exact h.2 0 a v bD bD
 | a::b::l,v::u::vs,h =>
  have:¬ (v::u::vs).toArray.size=1:=by simp
  rw[dif_neg this];exact .tuple _ _ h.1 h.2
 | [],_::_,h=>have:=h.1;simp at this
 | _::_,[],h=>have:=h.1;simp at this
 | [_],_::_::_,h=>have:=h.1;simp at this
 | _::_::_,[_],h=>have:=h.1;simp at this
theorem aES{f:FuncId}{fn:Func}{c:Code}{args:List A}{KV Kp:St->A->Prop}(hf:C.P.funcs[f]?=some fn)(hb:fn.body=some c)
  (hname : (fn.name == "runtime.NumGoroutine") = false) (hn : args.length ≤ fn.ntmps)
  (h:Ex C fn.ntmps c (mJ C fn.results.toList KV Kp) (pS 0 args) s):Den C f args KV Kp s:=by
 intro F g w vals hR hv
 have hcf:(callFunc f vals.toArray).run C.P w=.ok (.enter f vals.toArray) w:=by
  simp only[callFunc,bP,run_program,bN,hf,hname,cJ,↓reduceIte,hb,Option.isNone_some,cD]
 rw[hcf];refine calls_of_wp hf hb ?_
 have hE:EnvOk g fn.ntmps (pS 0 args) (vals.toArray++Array.replicate (fn.ntmps-vals.toArray.size) undef):=by
  have hl:vals.length=args.length:=hv.1;refine⟨by simp;omega,λt a ha=>?_⟩;obtain⟨_,h2⟩:=aFp args 0 t a ha;obtain⟨u,hu,hr⟩:=hv.get h2;rw[Nat.sub_zero]at hu;refine⟨u,?_,hr⟩;have:t<vals.length:=(dV.1 hu).1;rw[Array.getElem?_append_left (by simpa using this)];simpa using hu
 refine oY (λex a' w' hp=>?_) (h F g w ⟨_,[]⟩ hR hE);obtain⟨g',e',s',x,h1,h2,h3,h4,h5,h6⟩:=hp
 have fin:∀l,rQ C e' s' fn.results.toList=some l->KV s' (aAu l)->a'.defers=[]/\∃v,(results fn a'.tmps).run C.P w'=.ok v w'/\aAj C F g KV Kp (.returned v) w':=by
  intro l hl hk;obtain⟨vs,r1,r2⟩:=aC0 h2 h3 _ _ hl;refine⟨h4,_,?_,⟨g',_,s',h1,h2,aKd r2,hk⟩⟩;have e0:results fn a'.tmps=(do let vs <-fn.results.mapM (vZ a'.tmps);pure (if h:vs.size=1 then vs[0] else .tuple vs)):=rfl;rw[e0,bP,Array.mapM_eq_mapM_toList,Sem.run_map,r1];rfl
 cases ex<;>cases x<;>try exact h5.elim
 .simp only[mJ]at h6;split at h6
  .rename_i l hl;exact fin l hl h6
  .exact h6.elim
 .exact h6.elim
 .exact h6.elim
 .simp only[mJ]at h6;split at h6
  .rename_i l hl;exact fin l hl h6
  .exact h6.elim
 .obtain⟨v,rfl,hr⟩:=h5;exact⟨h4,⟨g',_,v,s',rfl,h1,h2,hr,h6⟩⟩
theorem Den.mono{f:FuncId}{args:List A}{KV Kp KV' Kp':St->A->Prop}(h:Den C f args KV Kp s)(h1:∀s a,KV s a->KV' s a)(h2:∀s a,Kp s a->Kp' s a) :
  Den C f args KV' Kp' s:=by
 intro F g w vals hR hv;have:=h F g w vals hR hv;revert this;generalize (callFunc f vals.toArray).run C.P w=r;intro hr;cases r with
 | ok x w' =>
  cases x<;>simp only[OutV]at hr⊢
  .obtain⟨g',a,s',a1,a2,a3,a4⟩:=hr;exact⟨g',a,s',a1,a2,a3,h1 _ _ a4⟩
  .obtain⟨g',s',a1,a2,a3⟩:=hr;exact⟨g',s',a1,a2,h1 _ _ a3⟩
  .refine Calls.mono hr λen w'' hp=>?_
   cases en with
   | returned v=>obtain⟨g',a,s',a1,a2,a3,a4⟩:=hp;exact⟨g',a,s',a1,a2,a3,h1 _ _ a4⟩
   | panicked mF=>obtain⟨g',a,v,s',a0,a1,a2,a3,a4⟩:=hp;exact⟨g',a,v,s',a0,a1,a2,a3,h2 _ _ a4⟩
   | outgrown=>exact hp
 | halt x w' =>
  cases x<;>simp only[OutV]at hr⊢
  obtain⟨g',a,s',a1,a2,a3,a4⟩:=hr;exact⟨g',a,s',a1,a2,a3,h2 _ _ a4⟩
theorem Den.weaken{f:FuncId}{args:List A}{KV Kp:St->A->Prop}{s':St}(hs:s.ge s')(h:Den C f args KV Kp s')(hd:C.det=false:=by rfl):Den C f args KV Kp s :=
 λF g w vals hR hv=>h F g w vals (hR.weaken hs (λh=>by rw[show C.toCtx.det=false from hd]at h;cases h)) hv
end
def iA:=@Den.weaken
end
section
def aFO:A->Value->Bool
 | .int k n,.int j m=>decide (k=j)&&decide (n=m)
 | .bool b,.bool c=>b == c
 | .str s,.string t=>s.isEmpty&&decide (t.data.toList=[])
 | .nilp,.pointer none=>true
 | .nils,.slice none 0 0=>true
 | .nilf,.nilFunc=>true
 | .nili,.nilIface=>true
 | _,_=>false
def aAd:List A->List Value->Bool
 | [],[]=>true
 | a::az,v::vs=>aFO a v&&aAd az vs
 | _,_=>false
theorem aOg{g:Gh}{a:A}{v:Value}(h:aFO a v=true):Rz g a v/\a.one=true:=by
 unfold aFO at h;split at h<;>simp only[cL,cU,beq_iff_eq,cJ]at h
 .obtain⟨rfl,rfl⟩:=h;exact⟨.int _ _,rfl⟩
 .subst h;exact⟨.bool _,rfl⟩
 .rename_i s t;obtain⟨h1,h2⟩:=h;have:s=t.data.toList:=by rw[h2];simpa using h1
  subst this;exact⟨.str t.data.toList,rfl⟩
 .exact⟨.nilp,rfl⟩
 .exact⟨.nils,rfl⟩
 .exact⟨.nilf,rfl⟩
 .exact⟨.nili,rfl⟩
theorem aE6{g:Gh}:∀{az:List A} {vs:List Value},aAd az vs=true->Rzs g az vs/\∀c,c∈az->c.one=true
 | [],[],_=>⟨.nil g,by simp⟩
 | a::az,v::vs,h=>by
  simp only[aAd,cL]at h;have h1:=aOg (g:=g) h.1;have h2:=aE6 (g:=g) h.2;exact⟨.cons h1.1 h2.1,λc hc=>by cases hc with|head=>exact h1.2|tail _ hc=>exact h2.2 c hc⟩
 | [],_::_,h=>by simp[aAd]at h
 | _::_,[],h=>by simp[aAd]at h
def aAh(P:Program):List Field->List (Nat × Nat × Bool)->Bool
 | [],[]=>true
 | f::fs,(o,s,a)::r=>decide (f.offset=o)&&decide ((P.info? f.type).map (·.size)=some s)&&decide (s≠0)&&(P.underlying f.type).isSome&&(yJ (P.underlying f.type) == a)&&aAh P fs r
 | _,_=>false
theorem aIN{P:Program}:∀{fs:List Field} {l:List (Nat × Nat × Bool)},aAh P fs l=true->fs.length=l.length/\∀(i o s:Nat) (a:Bool),l[i]?=some (o,s,a) ->
   ∃f,fs[i]?=some f/\f.offset=o/\(P.info? f.type).map (·.size)=some s/\s≠0/\(P.underlying f.type).isSome=true/\yJ (P.underlying f.type)=a
 | [],[],_=>⟨rfl,λi o s a h=>by simp at h⟩
 | f::fs,(o,s,a)::r,h=>by
  simp only[aAh,cL,cU,beq_iff_eq]at h;obtain⟨⟨⟨⟨⟨h1,h2⟩,h3⟩,h4⟩,h5⟩,h6⟩:=h;obtain⟨e1,e2⟩:=aIN h6;refine⟨by simp[e1],λi o' s' a' hi=>?_⟩;cases i with
  | zero=>simp only[kM,bJ,lO]at hi;obtain⟨rfl,rfl,rfl⟩:=hi;exact⟨f,by simp,h1,h2,h3,h4,h5⟩
  | succ i=>obtain⟨f',q⟩:=e2 i o' s' a' (by simpa using hi);exact⟨f',by simpa using q⟩
 | [],_::_,h=>by simp[aAh]at h
 | _::_,[],h=>by simp[aAh]at h
def aGD(P:Program)(k:TK)(d:TypeDesc):Bool :=
 match k,d with
 | .int k,.int j=>decide (k=j)
 | .bool,.bool=>true
 | .string,.string=>true
 | .slice e,.slice e'=>decide (e=e')
 | .array n e,.array m e'=>decide (n=m)&&decide (e=e')
 | .struct fs,.struct fields=>aAh P fields.toList fs
 | .iface,.interface _=>true
 | .other,.pointer _|.other,.func ..|.other,.map ..|.other,.chan ..|.other,.unsafePointer|.other,.float _|.other,.complex _=>true
 | _,_=>false
theorem aRR{P:Program}{k:TK}{d:TypeDesc}(h:aGD P k d=true):k.ok P d:=by
 unfold aGD at h;split at h<;>(try simp only[cL,cU,cJ]at h)<;>simp only[TK.ok]
 .subst h;rfl
 .subst h;rfl
 .obtain⟨rfl,rfl⟩:=h;rfl
 .rename_i fs fields;obtain⟨e1,e2⟩:=aIN h;exact⟨fields,rfl,by simpa using e1,λi o s a hi=>by obtain⟨f,q⟩:=e2 i o s a hi;exact⟨f,by simpa using q⟩⟩
 .exact⟨_,rfl⟩
 all_goals exact⟨rfl,by simp⟩
def aGJ(P:Program)(t:TypeId)(ti:TI):Bool :=
 match P.info? t,P.underlying t with
 | some i,some d=>decide (i.size=ti.sz)&&decide (i.bytes=ti.bytes)&&decide (ti.zero.length=ti.sz)&&(match i.zero with|some z=>aAd ti.zero z.cells.toList|none=>false)&&aGD P ti.k d
 | _,_=>false
theorem aRs{P:Program}{t:TypeId}{ti:TI}(h:aGJ P t ti=true):ti.ok P t:=by
 unfold aGJ at h;split at h
 .rename_i i d hi hd;simp only[cL,cU]at h;obtain⟨⟨⟨⟨h1,h2⟩,h3⟩,h4⟩,h5⟩:=h;split at h4
  .rename_i z hz;exact⟨⟨i,z,hi,h1,h2,hz,λg=>(aE6 (g:=g) h4).1⟩,(aE6 (g:=⟨λ_=>none,λ_ _=>none,λ_=>none,default,#[]⟩) h4).2,h3,d,hd,aRR h5⟩
  .cases h4
 .cases h
section
variable (C:Cx) (n:Nat) (V:List Nat) (Q:XK->Env->St->Prop) (e:Env) (s:St)
@[go_sem] theorem aVk:gQ C n V .skip Q e s=Q .normal e s:=rfl
@[go_sem] theorem aUX(l:Nat):gQ C n V (.label l) Q e s=Q .normal e s:=rfl
@[go_sem] theorem aU4(i:Nat):gQ C n V (.exit i) Q e s=Q (.exit i) e s:=rfl
@[go_sem] theorem aVe(i:Nat):gQ C n V (.goto i) Q e s=Q (.goto i) e s:=rfl
@[go_sem] theorem aVK:gQ C n V .ret Q e s=Q .ret e s:=rfl
@[go_sem] theorem aVC(c d:Code):gQ C n V (.seq c d) Q e s=gQ C n V c (nE (gQ C n V d Q) Q) e s:=rfl
@[go_sem] theorem aUK(i:Nat)(c:Code):gQ C n V (.block i c) Q e s=gQ C n V c (tW i Q) e s:=rfl
def brK(C:Cx)(n:Nat)(V:List Nat)(x y:Code)(Q:XK->Env->St->Prop)(e:Env)(s:St):Option A->Prop
 | some (.bool true)=>gQ C n V x Q e s
 | some (.bool false)=>gQ C n V y Q e s
 | _=>False
@[go_sem] theorem aVs (c : Operand) (x y : Code) : gQ C n V (.cond c x y) Q e s = brK C n V x y Q e s (eT C e c) := by
  show(match eT C e c with
    | some (.bool b)=>match b with
      | true=>gQ C n V x Q e s
      | false=>gQ C n V y Q e s
    | _=>False)=_
  cases eT C e c with
  | none=>rfl
  | some a=>cases a<;>first|rfl|(rename_i b;cases b<;>rfl)
@[go_sem] theorem aVo(x y:Code):brK C n V x y Q e s (some (.bool true))=gQ C n V x Q e s:=rfl
@[go_sem] theorem aUD(x y:Code):brK C n V x y Q e s (some (.bool false))=gQ C n V y Q e s:=rfl
@[go_sem] theorem aUy(id:Nat)(ops:Array Oper):gQ C n V (.region id ops false) Q e s=hU C n (ops.toList.map (·.dst)) ops.toList (mL V Q) (yF Q (ops.toList.map (·.dst)) e) e s:=rfl
@[go_sem] theorem aVu(id:Nat)(ops:Array Oper):gQ C n V (.region id ops true) Q e s=aDq C n id ops (nE (mL V Q) Q) e s:=rfl
@[go_sem] theorem aVi(c:Code):gQ C n V (.loop c) Q e s=Ex C n (.loop c) Q e s:=rfl
variable (ds:List (Option Tmp)) (K:Env->St->Prop) (Kp:St->A->Prop)
@[go_sem] theorem aVD:hU C n ds [] K Kp e s=K e s:=rfl
@[go_sem] theorem aVp (dst : Option Tmp) (op : Op) (ty : TypeId) (pos : String) (after : Array Edge) (r : List Oper) :
  hU C n ds (⟨dst,op,ty,pos,after,none⟩::r) K Kp e s=bF C op (eT C e) (cQ n dst (hU C n ds r K Kp) e) Kp s:=rfl
def rR(C:Cx)(n:Nat)(ds:List (Option Tmp))(dst:Option Tmp)(op:Op)(r:List Oper)(K:Env->St->Prop)(Kp:St->A->Prop)(e:Env)(s:St)(t:Nat)(want:Bool):Option A->Prop
 | some (.bool true)=>match want with
  | true=>bF C op (eT C (e.put t (.bool true))) (cQ n dst (hU C n ds r K Kp) (e.put t (.bool true))) Kp s
  | false=>cQ n dst (hU C n ds r K Kp) (e.put t (.bool true)) s (.tuple [])
 | some (.bool false)=>match want with
  | false=>bF C op (eT C (e.put t (.bool false))) (cQ n dst (hU C n ds r K Kp) (e.put t (.bool false))) Kp s
  | true=>cQ n dst (hU C n ds r K Kp) (e.put t (.bool false)) s (.tuple [])
 | some (.tuple _)=>cQ n dst (hU C n ds r K Kp) e s (.tuple [])
 | _=>False
def gdT(C:Cx)(n:Nat)(ds:List (Option Tmp))(dst:Option Tmp)(op:Op)(r:List Oper)(K:Env->St->Prop)(Kp:St->A->Prop)(e:Env)(s:St)(want:Bool):Option Tmp->Prop
 | none=>False
 | some t=>rR C n ds dst op r K Kp e s t want (e.get t)
@[go_sem] theorem aUL (dst : Option Tmp) (op : Op) (ty : TypeId) (pos : String) (after : Array Edge) (j : Nat) (want : Bool) (r : List Oper) :
    hU C n ds (⟨dst,op,ty,pos,after,some (j,want)⟩::r) K Kp e s=gdT C n ds dst op r K Kp e s want (lX ds j):=by
  simp only[hU];unfold gdT;cases lX ds j with
  | none=>rfl
  | some t =>
    simp only[rR];cases e.get t with
    | none=>rfl
    | some a=>cases a<;>first|rfl|(rename_i b;cases b<;>cases want<;>rfl)
@[go_sem] theorem aVa(dst:Option Tmp)(op:Op)(r:List Oper)(want:Bool)(t:Nat):gdT C n ds dst op r K Kp e s want (some t)=rR C n ds dst op r K Kp e s t want (e.get t):=rfl
@[go_sem] theorem aVT(dst:Option Tmp)(op:Op)(r:List Oper)(t:Nat):rR C n ds dst op r K Kp e s t true (some (.bool true))=bF C op (eT C (e.put t (.bool true))) (cQ n dst (hU C n ds r K Kp) (e.put t (.bool true))) Kp s:=rfl
@[go_sem] theorem aV0(dst:Option Tmp)(op:Op)(r:List Oper)(t:Nat):rR C n ds dst op r K Kp e s t true (some (.bool false))=cQ n dst (hU C n ds r K Kp) (e.put t (.bool false)) s (.tuple []):=rfl
@[go_sem] theorem aVS(dst:Option Tmp)(op:Op)(r:List Oper)(t:Nat):rR C n ds dst op r K Kp e s t false (some (.bool true))=cQ n dst (hU C n ds r K Kp) (e.put t (.bool true)) s (.tuple []):=rfl
@[go_sem] theorem aV3(dst:Option Tmp)(op:Op)(r:List Oper)(t:Nat):rR C n ds dst op r K Kp e s t false (some (.bool false))=bF C op (eT C (e.put t (.bool false))) (cQ n dst (hU C n ds r K Kp) (e.put t (.bool false))) Kp s:=rfl
@[go_sem] theorem aWh (dst : Option Tmp) (op : Op) (r : List Oper) (t : Nat) (want : Bool) (l : List A) : rR C n ds dst op r K Kp e s t want (some (.tuple l)) = cQ n dst (hU C n ds r K Kp) e s (.tuple []) := by
  cases want<;>rfl
@[go_sem] theorem aUJ(d:Tmp)(v:A):cQ n (some d) K e s v=(d<n/\K (e.put d v) s):=rfl
@[go_sem] theorem aVc(sz:Nat)(K:A->Prop)(x:A):elK sz K (some x)=(x.cells.length=sz/\K (.eptr x.cells 0)):=rfl
@[go_sem] theorem aU0(K:A->Prop)(c:UInt8):chK K (some c)=K (.int .u8 c.toNat):=rfl
@[go_sem] theorem aUF(v:A):cQ n none K e s v=K e s:=rfl
end
attribute [go_sem] aLo aLn aGu
attribute [go_sem] mL yF aNR aPE aQi aOD aPB aMQ aOf aNQ aNh aNS
attribute [go_sem] Env.get Env.put Env.keep lX eT aDh aBe aAf mE mZ pU bF cK aGF aAm unA aGm sO kO A.cells A.one aAu rQ mJ pS aAa aDs uB vW uM rT TK.agg jI aBv sZ yG uH aDl hlA
attribute [go_sem] aH lB mQ Int.toNat_natCast Int.ofNat_lt Int.ofNat_le Int.natCast_nonneg Int.natCast_inj rY
@[go_sem] theorem aUA:fP []=true:=rfl
@[go_sem] theorem aUw(a:A)(l:List A):fP (a::l)=(a.one&&fP l):=rfl
attribute [go_sem] Env.has bJ A.int.injEq A.str.injEq A.bool.injEq A.list.injEq A.ptr.injEq A.agg.injEq
@[go_sem] theorem aUZ(tk:Option Nat)(es:List A):mK (.list tk es)=some (.int .i64 es.length):=rfl
@[go_sem] theorem aUQ:mK .nils=some (.int .i64 0):=rfl
@[go_sem] theorem aVB(b o n:Nat):mK (.ml b o n)=some (.int .i64 n):=rfl
@[go_sem] theorem aVq:mK .emp=some (.int .i64 0):=rfl
@[go_sem] theorem aVy(b n c:Nat):mK (.mg b n c)=some (.int .i64 n):=rfl
@[go_sem] theorem aUH(C:Cx)(s:St)(e:TypeId)(te:TI)(ys:List A)(KV:St->A->Prop):qP C s e te ys KV .nils=(ys.length<=4294967296/\oQ C s ys.length e te.sz ys KV):=rfl
@[go_sem] theorem aUO(C:Cx)(s:St)(e:TypeId)(te:TI)(KV:St->A->Prop):qP C s e te [] KV .emp=KV s .emp:=rfl
@[go_sem] theorem aU2(C:Cx)(s:St)(e:TypeId)(te:TI)(y:A)(r:List A)(KV:St->A->Prop):qP C s e te (y::r) KV .emp=(((y::r).length<=4294967296/\0<(y::r).length)/\oQ C s (y::r).length e te.sz (y::r) KV):=rfl
@[go_sem] theorem aVv(C:Cx)(s:St)(e:TypeId)(te:TI)(ys:List A)(KV:St->A->Prop)(b n cap:Nat):qP C s e te ys KV (.mg b n cap)=sM C.det s b n cap e te.sz ys.length ys KV (s.getO b):=rfl
@[go_sem] theorem aUY (C : Cx) (s : St) (e : TypeId) (te : TI) (ys : List A) (KV : St → A → Prop) (t : Nat) (es : List A) : qP C s e te ys KV (.list (some t) es) =
  (s.getT t=some (es.length,e)/\(∀y,y∈es->y.cells.length=te.sz)/\es.length+ys.length<=4294967296/\KV (s.setT t (es.length+ys.length,e)) (.list (some t) (es++ys))):=rfl
theorem iU(x:Int)(h1:-9223372036854775808<=x)(h2:x<=9223372036854775807):IntKind.i64.wrap x=x:=IntWalk.i64_in x ⟨h1,h2⟩
theorem cF(i:Nat)(h:i<9223372036854775807):IntKind.i64.wrap ((i:Int)+1)=((i+1:Nat):Int):=by
 rw[iU _ aB aB];rfl
end
section
section
variable {C:Cx} {s:St} {ρ ρ':Operand->Option A} {K:A->Prop}
theorem aBW:∀{l:List Operand},(∀x,x∈l->ρ x=ρ' x)->mE ρ l=mE ρ' l
 | [],_=>rfl
 | x::r,h=>by
  have h1:mE ρ r=mE ρ' r:=aBW λy hy=>h y (cT x hy)
  simp only[mE,h x bD,h1]
theorem aEA:∀{l:List (Nat × Operand)},(∀x,x∈l.map (·.2)->ρ x=ρ' x)->mZ ρ l=mZ ρ' l
 | [],_=>rfl
 | (i,x)::r,h=>by
  have h1:mZ ρ r=mZ ρ' r:=aEA λy hy=>h y (by simp only[bS,eB];exact .inr hy)
  simp only[mZ,h x bD,h1]
theorem aHY{o:Option Operand}(h:∀x,o=some x->ρ x=ρ' x):pU ρ o=pU ρ' o:=by
 cases o with
 | none=>rfl
 | some x=>simp only[pU,h x rfl]
theorem uY{op:Op}(h:∀x,x∈op.operands->ρ x=ρ' x):cK C op ρ K=cK C op ρ' K:=by
  cases op
  case build t ps =>
    have:mZ ρ ps.toList=mZ ρ' ps.toList:=aEA λx hx=>h x (by simpa [Op.operands]using hx)
    simp only[cK,this]
  case buildSlice t n ps =>
    have:mZ ρ ps.toList=mZ ρ' ps.toList:=aEA λx hx=>h x (by simpa [Op.operands]using hx)
    simp only[cK,this]
  case makeFunc fn first caps =>
    have h1:mE ρ first.toList=mE ρ' first.toList:=aBW λx hx=>h x (by simp[Op.operands];exact .inl (by simpa using hx))
    have h2:mE ρ caps.toList=mE ρ' caps.toList:=aBW λx hx=>h x (by simp[Op.operands];exact .inr (by simpa using hx))
    cases fn<;>simp only[cK,h1,h2]
  case call c =>
    obtain⟨cal,args,ats⟩:=c;obtain⟨args⟩:=args;obtain⟨ats⟩:=ats;have h1:∀x,x∈args->ρ x=ρ' x:=λx hx=>h x (by simp[Op.operands,Call.operands,hx])
    simp only[cK];split
    · simp_all
    · simp_all
    · simp_all
    · simp_all
    · simp_all
    · rfl
  case slice t x lo hi mx =>
    have h1:=h x (by simp[Op.operands]);have h2:pU ρ lo=pU ρ' lo:=aHY λy hy=>h y (by simp[Op.operands,hy])
    have h3:pU ρ hi=pU ρ' hi:=aHY λy hy=>h y (by simp[Op.operands,hy])
    cases mx<;>simp only[cK,h1,h2,h3]
  all_goals first
    | rfl
    | (simp only [Op.operands,List.mem_toArray,Array.mem_def,eB,wJ,fH,forall_eq_or_imp,forall_eq] at h
       simp only[cK,h])
theorem aIR{op:Op}{KV Kp:St->A->Prop}(h:∀x,x∈op.operands->ρ x=ρ' x)(hh:bF C op ρ KV Kp s):bF C op ρ' KV Kp s:=by
 have key:bF C op ρ KV Kp s=bF C op ρ' KV Kp s:=by
  cases op
  case load t x =>
   have h1:=h x (by simp[Op.operands]);simp only[bF,h1,uY (C:=C) (K:=KV s) h]
  case store t x y =>
   simp only[bF,h x (by simp[Op.operands]),h y (by simp[Op.operands])]
  case box t x=>simp only[bF,h x (by simp[Op.operands])]
  case panic x=>simp only[bF,h x (by simp[Op.operands])]
  case range t x=>simp only[bF,h x (by simp[Op.operands])]
  case convert a b x =>
   have h1:=h x (by simp[Op.operands]);simp only[bF,h1,uY (C:=C) (K:=KV s) h]
  case makeSlice t a b=>simp only[bF,h a (by simp[Op.operands]),h b (by simp[Op.operands])]
  case next x b =>
   cases b
   .exact uY (C:=C) (K:=KV s) h
   .simp only[bF,h x (by simp[Op.operands])]
  case alloc=>rfl
  case buildSlice t len parts=>simp only[bF,uY (C:=C) (K:=KV s) h,uY (C:=C) (K:=aAx C s t KV) h]
  case call c =>
   have hs:=uY (C:=C) (K:=KV s) h;obtain⟨cal,args,ats⟩:=c;obtain⟨args⟩:=args;obtain⟨ats⟩:=ats;have h1:∀x,x∈args->ρ x=ρ' x:=λx hx=>h x (by simp[Op.operands,Call.operands,hx])
   cases cal with
   | value f=>simp only[bF,h f (by simp[Op.operands,Call.operands]),aBW h1]
   | invoke r m=>exact hs
   | builtin b =>
    cases b
    case append =>
     match args,ats,h1 with
     | [x,y],[t,u],h1=>simp only[bF,h1 x bD,h1 y bD]
     | [],_,h1=>rfl
     | [_],_,h1=>rfl
     | _::_::_::_,_,h1=>rfl
     | [_,_],[],h1=>rfl
     | [_,_],[_],h1=>rfl
     | [_,_],_::_::_::_,h1=>rfl
    case unsafeString =>
     match args,ats,h1 with
     | [x,y],[t,u],h1=>simp only[bF,h1 x bD,h1 y bD]
     | [],_,h1=>rfl
     | [_],_,h1=>rfl
     | _::_::_::_,_,h1=>rfl
     | [_,_],[],h1=>rfl
     | [_,_],[_],h1=>rfl
     | [_,_],_::_::_::_,h1=>rfl
    case panic =>
     match args,h1 with
     | [],h1=>rfl
     | [x],h1=>simp only[bF,h1 x bD]
     | _::_::_,h1=>rfl
    all_goals exact hs
  case binOp op t x y yt =>
   have hs:=uY (C:=C) (K:=KV s) h;cases op
   case eql=>simp only[bF,hs,h x (by simp[Op.operands]),h y (by simp[Op.operands])]
   all_goals exact hs
  all_goals exact uY (C:=C) (K:=KV s) h
 rw[<-key];exact hh
theorem aJY{op:Op}(h:cK C op ρ K):∃v,K v/\∀K':A->Prop,K' v->cK C op ρ K':=by
  have one:∀{o:Option A} {K:A->Prop},(match o with|some v=>K v|none=>False)->∃v,K v/\o=some v:=by
    intro o K h;cases o with
    | none=>exact h.elim
    | some v=>exact⟨v,h,rfl⟩
  have cut:∀{x:A} {lo hi:Option A} {K:A->Prop},vW x lo hi K->∃v,K v/\∀K':A->Prop,K' v->vW x lo hi K':=by
    intro x lo hi K h;unfold vW at h⊢;cases x<;>simp only at h⊢
    all_goals first
      | exact h.elim
      | (split at h
         · rename_i h1 h2
           exact⟨_,h.2,λK' hk=>⟨h.1,hk⟩⟩
         · exact h.elim)
  cases op<;>simp only[cK]at h⊢
  case move x=>obtain⟨v,h1,h2⟩:=one h;exact⟨v,h1,λK' hk=>by simpa only[h2]using hk⟩
  case assign x=>obtain⟨v,h1,h2⟩:=one h;exact⟨v,h1,λK' hk=>by simpa only[h2]using hk⟩
  case call c =>
    split at h<;>(try exact h.elim)
    · split at h<;>(try exact h.elim)
      split at h<;>(try exact h.elim)
      all_goals (obtain⟨v,h1,h2⟩:=one h;exact⟨v,h1,λK' hk=>by simpa only[h2]using hk⟩)
    · split at h<;>(try exact h.elim)
      all_goals exact⟨_,h,λK' hk=>hk⟩
    · split at h<;>(try exact h.elim)
      split at h<;>(try exact h.elim)
      rename_i e hk0;exact⟨_,h,λK' hk=>hk⟩
    · split at h<;>(try exact h.elim)
      all_goals exact⟨_,h,λK' hk=>hk⟩
    · split at h<;>(try exact h.elim)
      all_goals exact⟨_,h,λK' hk=>hk⟩
  case makeFunc fn first caps =>
    cases fn
    all_goals simp only at h⊢
    · split at h
      · exact⟨_,h,λK' hk=>by simp_all only[]⟩
      · exact h.elim
    all_goals exact h.elim
  all_goals
    repeat' split at h
  all_goals first
    | exact h.elim
    | (obtain⟨v,h1,h2⟩:=one h;exact⟨v,h1,λK' hk=>by simp_all only[iT,jV,reduceIte,reduceCtorEq,cJ,eV,fM]⟩)
    | exact⟨_,h,λK' hk=>by simp_all only[iT,jV,reduceIte,reduceCtorEq,cJ,eV,fM]⟩
    | exact⟨_,h.2,λK' hk=>by simp_all only[iT,jV,reduceIte,reduceCtorEq,cJ,eV,fM]⟩
    | exact⟨_,h.2.2,λK' hk=>⟨h.1,h.2.1,hk⟩⟩
    | exact cut h
    | (obtain⟨v,h1,h2⟩:=cut h.2;exact⟨v,h1,λK' hk=>⟨h.1,h2 K' hk⟩⟩)
    | (obtain ⟨hx,hy⟩ := h
       rw[aY hx.2]at hy⊢;exact⟨_,hy.2,λK' hk=>⟨hx,hy.1,hk⟩⟩)
    | (obtain ⟨hx,hy⟩ := h
       rw[aY hx.2]at hy⊢;exact⟨_,hy,λK' hk=>⟨hx,hk⟩⟩)
theorem oI{K':A->Prop}{op:Op}(h:cK C op ρ K)(hk:∀v,K v->K' v):cK C op ρ K':=by
 obtain⟨v,h1,h2⟩:=aJY h;exact h2 K' (hk v h1)
theorem aA6{op:Op}{KV Kp:St->A->Prop}(h:cK C op ρ (KV s)):bF C op ρ KV Kp s:=by
 cases op
 case load t x =>
  have h':=h;simp only[cK]at h';split at h'
  .rename_i hx;simp only[bF,hx];exact h
  .exact h'.elim
 case store=>simp only[cK]at h
 case buildSlice t len parts =>
  simp only[bF];split
  .exact h
  .exact .inl h
 case alloc=>simp only[cK]at h
 case box=>simp only[cK]at h
 case panic=>simp only[cK]at h
 case range=>simp only[cK]at h
 case makeSlice=>simp only[cK]at h
 case convert a b x =>
  have h':=h;simp only[cK]at h';split at h'
  .rename_i hx _ _;simp only[bF,hx];exact h
  .rename_i hx _ _;simp only[bF,hx];exact h
  .exact h'.elim
 case next x b=>cases b<;>simp only[cK]at h
 case call c =>
  obtain⟨cal,args,ats⟩:=c;cases cal with
  | value f=>simp only[cK]at h
  | invoke r m=>simp only[cK]at h
  | builtin b=>cases b<;>first|exact h|(simp only[cK]at h)
 case binOp op t x y yt =>
  cases op
  case eql =>
   simp only[bF];split
   .exact .inl h
   .exact h
  all_goals exact h
 all_goals exact h
theorem aCd{o:Ob}{f:Nat->A}{KV KV':St->A->Prop}(h:sQ C s o f KV)(h1:∀s a,KV s a->KV' s a):sQ C s o f KV':=by
 unfold sQ at *;cases hd:C.det<;>rw[hd]at h
 ·exactλb hb=>h1 _ _ (h b hb)
 .exact h1 _ _ h
theorem aFh{n:Nat}{e:TypeId}{ys:List A}{KV KV':St->A->Prop}(h:newT C s n e ys KV)(h1:∀s a,KV s a->KV' s a):newT C s n e ys KV':=by
 unfold newT at *;cases hd:C.det<;>rw[hd]at h
 ·exactλb hb=>h1 _ _ (h b hb)
 .exact h1 _ _ h
theorem aIj{n:Nat}{e:TypeId}{sz:Nat}{ys:List A}{KV KV':St->A->Prop}(h:oQ C s n e sz ys KV)(h1:∀s a,KV s a->KV' s a):oQ C s n e sz ys KV':=by
 unfold oQ at *;cases hd:C.det<;>rw[hd]at h
 .cases hm:Nat.beq C.mu 1<;>rw[hm]at h
  .exact aFh h h1
  .exact⟨h.1,λb cap J a1 a2 a3 a4=>h1 _ _ (h.2 b cap J a1 a2 a3 a4)⟩
 .exact aFh h h1
theorem aN7{det:Bool}{b n cap:Nat}{e:TypeId}{sz m:Nat}{ys:List A}{o:Option Ob}{KV KV':St->A->Prop}(h:sM det s b n cap e sz m ys KV o)(h1:∀s a,KV s a->KV' s a) :
  sM det s b n cap e sz m ys KV' o:=by
 unfold sM at *;split at h
 .exact⟨h.1,λb' cap' J a1 a2 a3 a4=>h1 _ _ (h.2 b' cap' J a1 a2 a3 a4)⟩
 .exact h.elim
theorem aPm{n:Nat}{e:TypeId}{KV KV':St->A->Prop}(h:aAy C s n e KV)(h1:∀s a,KV s a->KV' s a):aAy C s n e KV':=by
 unfold aAy at *;cases hd:C.det<;>rw[hd]at h
 ·exactλb hb=>h1 _ _ (h b hb)
 .exact h1 _ _ h
theorem aPT{e:TypeId}{bs:List UInt8}{a:A}{KV KV':St->A->Prop}(h:yK C s e bs KV a)(h1:∀s a,KV s a->KV' s a):yK C s e bs KV' a:=by
 cases a<;>simp only[yK]at h⊢
 case nils=>exact⟨h.1,aFh h.2 h1⟩
 case list tk es =>
  cases tk with
  | none=>exact h
  | some t=>exact⟨h.1,h1 _ _ h.2⟩
theorem aOZ{ti:TI}{u:TypeId}{n:Int}{a:A}{KV KV':St->A->Prop}(h:yL C s ti u n KV a)(h1:∀s a,KV s a->KV' s a):yL C s ti u n KV' a:=by
 cases a<;>simp only[yL]at h⊢
 split at h
 .split at h
  .split at h
   .exact⟨h.1,aPm h.2 h1⟩
   .exact h.elim
  .exact h.elim
 .exact h.elim
theorem aIl{ti:TI}{t u:TypeId}{a:A}{KV KV':St->A->Prop}(h:yI C s ti t u KV a)(h1:∀s a,KV s a->KV' s a):yI C s ti t u KV' a:=by
 unfold yI at h⊢;split at h
 .split at h
  .refine⟨h.1,?_⟩;have h2:=h.2;split at h2
   .exact h1 _ _ h2
   .exact h1 _ _ h2
   .exact h1 _ _ h2
   .exact h1 _ _ h2
   .exact h2.elim
  .exact h.elim
 .exact h.elim
theorem aIn{n sz:Nat}{e:TypeId}{ys:List A}{KV KV':St->A->Prop}(h:uH C s n e ys sz KV)(h1:∀s a,KV s a->KV' s a):uH C s n e ys sz KV':=by
 unfold uH at *;cases hd:C.det<;>rw[hd]at h
 ·exactλb hb=>h1 _ _ (h b hb)
 .exact h1 _ _ h
theorem aOQ{ti:TI}{t u:TypeId}{z a:A}{KV KV':St->A->Prop}(h:yG C s ti t u z KV a)(h1:∀s a,KV s a->KV' s a):yG C s ti t u z KV' a:=by
 unfold yG at h⊢;split at h
 .split at h
  .refine⟨h.1,?_⟩;have h2:=h.2;split at h2
   .exact aIn h2 h1
   .split at h2
    .exact⟨h2.1,aIn h2.2 h1⟩
    .exact h2.elim
   .exact h2.elim
  .exact h.elim
 .exact h.elim
theorem aQZ{k n z:Nat}{ti:TI}{v:A}{KV KV':St->A->Prop}(h:sZ C s k n z ti v KV)(h1:∀s a,KV s a->KV' s a):sZ C s k n z ti v KV':=by
 unfold sZ at h⊢;split at h
 .split at h
  .exact⟨h.1,h1 _ _ h.2⟩
  .exact h.elim
 .exact h.elim
theorem aCF{op:Op}{KV Kp KV' Kp':St->A->Prop}(h:bF C op ρ KV Kp s)(h1:∀s a,KV s a->KV' s a)(h2:∀s a,Kp s a->Kp' s a):bF C op ρ KV' Kp' s:=by
 cases op
 case load t x =>
  simp only[bF]at h⊢;split at h
  .split at h
   .split at h
    .exact h1 _ _ h
    .exact h.elim
   .exact h.elim
  .exact oI h (h1 s)
 case store t x y =>
  simp only[bF]at h⊢;split at h
  .split at h
   .exact⟨h.1,h1 _ _ h.2⟩
   .exact h.elim
  .exact aQZ h h1
  .exact h.elim
 case alloc t =>
  simp only[bF]at h⊢;split at h
  .exact aCd h h1
  .exact h.elim
 case box t x =>
  simp only[bF]at h⊢;split at h
  .exact⟨h.1,aCd h.2 h1⟩
  .exact h.elim
 case panic x =>
  simp only[bF]at h⊢;split at h
  .exact h2 _ _ h
  .exact h.elim
 case buildSlice t len parts =>
  simp only[bF]at h⊢;split at h
  .exact oI h (h1 s)
  .rcases h with h|h
   .exact .inl (oI h (h1 s))
   .refine .inr (oI h λa ha=>?_);unfold aAx at ha⊢;split at ha
    .split at ha
     ·exactλk hk=>h1 _ _ (ha k hk)
     .exact ha.elim
    .exact ha.elim
 case convert a b x =>
  simp only[bF]at h⊢;split at h
  .split at h
   .split at h
    .exact⟨h.1,h1 _ _ h.2⟩
    .exact h.elim
   .exact h.elim
  .exact oI h (h1 s)
 case makeSlice t a b =>
  simp only[bF]at h⊢;split at h
  .split at h
   .split at h
    .exact⟨h.1,aCd h.2 h1⟩
    .exact h.elim
   .exact h.elim
  .exact h.elim
 case range t x =>
  simp only[bF]at h⊢;split at h
  .split at h
   .exact aCd h h1
   .exact h.elim
  .exact h.elim
 case next x b =>
  cases b
  .simp only[bF,cK]at h
  simp only[bF]at h⊢;split at h
  .split at h
   .unfold aDm at h⊢;split at h
    .rename_i hp;rw[if_pos hp];exact h1 _ _ h
    .rename_i hp;rw[if_neg hp];exact h1 _ _ h
   .exact h.elim
  .exact h.elim
 case call c =>
  obtain⟨cal,args,ats⟩:=c;obtain⟨args⟩:=args;obtain⟨ats⟩:=ats;cases cal with
  | value f =>
   simp only[bF]at h⊢;split at h
   .exact Den.mono h h1 h2
   .exact h.elim
  | invoke r m=>refine aA6 (oI (K:=KV s) ?_ (h1 s));exact h
  | builtin b =>
   cases b
   case append =>
    match args,ats,h with
    | [x,y],[t,u],h =>
     simp only[bF]at h⊢;split at h
     .split at h
      .split at h
       .obtain⟨a1,a2,a3⟩:=h;refine⟨a1,a2,?_⟩;unfold qP at a3⊢;split at a3
        .exact⟨a3.1,aIj a3.2 h1⟩
        .split at a3
         .exact h1 _ _ a3
         .exact⟨a3.1,aIj a3.2 h1⟩
        .exact aN7 a3 h1
        .exact⟨a3.1,a3.2.1,a3.2.2.1,h1 _ _ a3.2.2.2⟩
        .exact a3.elim
       .exact h.elim
      .exact h.elim
     .split at h
      .exact aPT h h1
      .exact h.elim
     .exact aOZ h h1
     .exact aIl h h1
     .exact aIl h h1
     .exact aOQ h h1
     .exact h.elim
    | [],_,h=>simp only[bF]at h
    | [_],_,h=>simp only[bF]at h
    | _::_::_::_,_,h=>simp only[bF]at h
    | [_,_],[],h=>simp only[bF]at h
    | [_,_],[_],h=>simp only[bF]at h
    | [_,_],_::_::_::_,h=>simp only[bF]at h
   case unsafeString =>
    match args,ats,h with
    | [x,y],[t,u],h =>
     simp only[bF]at h⊢;split at h
     .exact⟨h.1,h1 _ _ h.2⟩
     .split at h
      .obtain⟨a1,bs,a2,a3⟩:=h;exact⟨a1,bs,a2,h1 _ _ a3⟩
      .exact h.elim
     .exact h.elim
    | [],_,h=>simp only[bF]at h
    | [_],_,h=>simp only[bF]at h
    | _::_::_::_,_,h=>simp only[bF]at h
    | [_,_],[],h=>simp only[bF]at h
    | [_,_],[_],h=>simp only[bF]at h
    | [_,_],_::_::_::_,h=>simp only[bF]at h
   case panic =>
    match args,h with
    | [],h=>simp only[bF]at h
    | [x],h =>
     simp only[bF]at h⊢;split at h
     .exact h2 _ _ h
     .exact h.elim
    | _::_::_,h=>simp only[bF]at h
   all_goals (refine aA6 (oI (K:=KV s) ?_ (h1 s));exact h)
 case binOp op t x y yt =>
  cases op
  case eql =>
   simp only[bF]at h⊢;split at h
   .rcases h with h|⟨hn,ht,hf⟩
    .exact .inl (oI h (h1 s))
    .exact .inr ⟨hn,h1 _ _ ht,h1 _ _ hf⟩
   .exact oI h (h1 s)
  all_goals (refine aA6 (oI (K:=KV s) ?_ (h1 s));exact h)
 all_goals (refine aA6 (oI (K:=KV s) ?_ (h1 s));exact h)
end
end
end Go.AV
