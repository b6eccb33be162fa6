/-
  Of CheckChecks.
-/
import Derived.Test.YthaljojbclndaaaGreatDoorCc01
import Derived.Lib.AppendStr
import Derived.Lib.UnsafeStr
import Derived.Deep.LoopGhost
set_option linter.all false
set_option maxRecDepth 99999
set_option maxHeartbeats 0
namespace Go.AV
open Go Go.Proofs Tryz
section
def Gh.tok(g:Gh)(t n:Nat)(v:Value)(b:Nat)(xs:List Value):Gh :=
 ⟨λk=>if k=b then some xs else g.pi k,λh m=>if h=t/\m=n then some v else g.eta h m,g.beta,g.env⟩
def tD(C:Cx)(s s':St)(t:Nat):Prop:=s'.ls=s.ls/\(C.det=true->s.lim<=s'.lim/\t<s'.lim)
section
variable {C:Cx} {F:Fr} {g:Gh} {s:St} {w:World} {ρ:Operand->Option A} {ev:Operand->Value}
theorem R.tokStep(h:R C.toCtx F g s w){w':World}{t n b:Nat}{e:TypeId}{v:Value}{xs:List Value}
  (hk:∀k,k<w.heap.size->k≠b->w'.heap[k]?=w.heap[k]?)(b1:w'.ownsRow 0 e (C.toCtx.sz e) v n xs)(hb:v.ownBlock=some b)
  (b6:∀m x,g.eta t m=some x->m<n)
  {s':St}(hO:∀q,s'.getO q=s.getO q)(hT:∀q,s'.getT q=if t=q then some (n,e) else s.getT q)(hl:tD C s s' t)
  (S:(b=w.heap.size/\(s.getT t=none\/∃n0,s.getT t=some n0))\/∃n0 v0 b0 M,s.getT t=some (n0,e)/\g.eta t n0=some v0/\v0.ownBlock=some b/\g.pi b=some b0/\xs=b0++M)(he:(w'.os,w'.output)=(w.os,w.output):=by rfl) :
  R C.toCtx F (g.tok t n v b xs) s' w'/\g.le (g.tok t n v b xs):=by
 have hF:F b=none:=by
  rcases S with⟨rfl,_⟩|⟨n0,v0,b0,M,y,G,h3,h4,_⟩
  .exact h.frm_new
  .obtain⟨v,xs,e1,_,_,h5⟩:=h.tok t n0 e y;rw[G]at e1;cases e1;exact(h5 b h3).2
 have bc:∀c k,g.beta c=some k->g.pi k=none->k≠b:=by
  rintro c k hc H rfl;rcases S with⟨rfl,_⟩|⟨n0,v0,b0,M,y,G,h3,h4,_⟩
  .exact h.bet_new c hc
  .rw[H]at h4;cases h4
 have b4:∀O n' v' k,O≠t->s.getT O=some n'->g.eta O n'.1=some v'->v'.ownBlock=some k->k≠b:=by
  rintro O n' v' k z B bb H rfl;rcases S with⟨rfl,_⟩|⟨n0,v0,b0,M,y,G,h3,h4,_⟩
  .obtain⟨v2,bg,e1,_,_,h5⟩:=h.tok O n'.1 n'.2 B;rw[bb]at e1;cases e1;exact cV (h.lt_pi (h5 _ H).1) (Nat.lt_irrefl _)
  .exact h.sep O t n' (n0,e) v' v0 k z B y bb G H h3
 have b5:g.le (g.tok t n v b xs):=by
  refine⟨λk pre Z=>?_,λO m x hx=>?_,λ_ _ h=>h,rfl⟩
  .by_cases u:k=b
   .subst u;rcases S with⟨rfl,_⟩|⟨n0,v0,b0,M,y,G,h3,h4,h5⟩
    .rw[h.pi_new]at Z;cases Z
    .rw[h4]at Z;cases Z;exact⟨M,by simp[Gh.tok,h5]⟩
   .exact⟨[],by simp[Gh.tok,u,Z]⟩
  .have:¬ (O=t/\m=n):=by
    rintro⟨rfl,rfl⟩;exact cV (b6 _ _ hx) (Nat.lt_irrefl _)
   simp only[Gh.tok,this,↓reduceIte];exact hx
 refine⟨⟨?_,?_,?_,?_,?_,?_,?_,?_,h.inj,?_,λx hx=>(h.lst x (by rw[<-hl.1];exact hx)).mono b5,h.bfr,he.trans h.env⟩,b5⟩
 .intro c o ho;rw[hO]at ho;obtain⟨k,h0,y,G,h3⟩:=h.obj c o ho;have z:=bc c k h0 G;exact⟨k,h0,by rw[hk k (h.bet c k h0) z];exact y.mono b5,by simp[Gh.tok,z,G],h3⟩
 .intro O n' e' B;rw[hT]at B;by_cases htt:t=O
  .subst htt;simp only[↓reduceIte,bV,pE]at B;obtain⟨rfl,rfl⟩:=B;refine⟨v,xs,by simp[Gh.tok],b1,λm x hx=>?_,λk H=>?_⟩
   .by_cases hm:m=n
    .omega
    .simp only[Gh.tok,hm,and_false,↓reduceIte]at hx;have:=b6 _ _ hx;omega
   .rw[hb]at H;cases H;exact⟨by simp[Gh.tok],hF⟩
  .simp only[htt,↓reduceIte]at B;obtain⟨v',bf,y,G,h3,h4⟩:=h.tok O n' e' B;have z:∀m,¬ (O=t/\m=n):=λm=>by rintro⟨rfl,_⟩;exact htt rfl
   refine⟨v',bf,?_,⟨G.1,?_⟩,?_,?_⟩
   .simp only[Gh.tok];rw[aD (z n')];exact y
   .rcases G.2 with hv|⟨k,cap,b3,hv,bd,hh,rest⟩
    .exact .inl hv
    .refine .inr ⟨k,cap,b3,hv,bd,?_,rest⟩;have u:=b4 O (n',e') v' k (λe=>htt e.symm) B y (by rw[hv];rfl);rw[hk k (iW.1 hh).1 u];exact hh
   .intro m x hx;simp only[Gh.tok]at hx;rw[aD (z m)]at hx;exact h3 m x hx
   .intro k H;have u:=b4 O (n',e') v' k (λe=>htt e.symm) B y H;simp only[Gh.tok,u,↓reduceIte];exact h4 k H
 .intro t1 t2 n1 n2 v1 v2 k z y G e1 e2 o1 o2;rw[hT]at y G;simp only[Gh.tok]at e1 e2;by_cases b8:t=t1
  .subst b8;have b2:¬ t=t2:=z;have U:¬ t2=t:=λe=>z e.symm
   simp only[↓reduceIte,bV]at y;subst y;simp only[gG,↓reduceIte,bV]at e1;subst e1;simp only[b2,↓reduceIte]at G;simp only[U,oG,↓reduceIte]at e2;rw[hb]at o1;cases o1;exact b4 t2 n2 v2 b U G e2 o2 rfl
  .have b7:¬ t1=t:=λe=>b8 e.symm
   simp only[b8,↓reduceIte]at y;simp only[b7,oG,↓reduceIte]at e1;by_cases b2:t=t2
   .subst b2;simp only[↓reduceIte,bV]at G;subst G;simp only[gG,↓reduceIte,bV]at e2;subst e2;rw[hb]at o2;cases o2;exact b4 t1 n1 v1 b b7 y e1 o1 rfl
   .have U:¬ t2=t:=λe=>b2 e.symm
    simp only[b2,↓reduceIte]at G;simp only[U,oG,↓reduceIte]at e2;exact h.sep t1 t2 n1 n2 v1 v2 k z y G e1 e2 o1 o2
 .intro k pre Z;by_cases u:k=b
  .subst u;simp only[Gh.tok,↓reduceIte,bV]at Z;subst Z;rcases b1.2 with⟨rfl,_⟩|⟨k',cap,b3,hv,_,hh,_,_,_,b9⟩
   .cases hb
   .rw[hv]at hb;simp only[Value.ownBlock,bV]at hb;subst hb;refine⟨b3.toList.drop (n * C.toCtx.sz e),e,(0,0),?_⟩;rw[hh,<-b9];simp
  .simp only[Gh.tok,u,↓reduceIte]at Z;rw[hk k (h.lt_pi Z) u];exact h.pis k pre Z
 .intro k o ho;have u:k≠b:=by rintro rfl;rw[hF]at ho;cases ho
  rw[hk k (h.lt_frm ho) u];refine⟨(h.frm k o ho).1,?_⟩;simp only[Gh.tok,u,↓reduceIte];exact(h.frm k o ho).2
 .intro k cs hc;obtain⟨pre,ty,fr,Z,hl,y,hr⟩:=h.glb k cs hc;exact⟨pre,ty,fr,Z,hl,y,λj c v hc hv=>(hr j c v hc hv).mono b5⟩
 .obtain⟨N,hN⟩:=h.fsh;refine⟨max N (t+1),λO B=>⟨?_,λm=>?_,(hN O aB).2.2⟩⟩
  .rw[hT];have:¬ t=O:=by omega
   simp only[this,↓reduceIte];exact(hN O aB).1
  .have:¬ (O=t/\m=n):=by omega
   simp only[Gh.tok,this,↓reduceIte];exact(hN O aB).2.1 m
 .intro c k hc;have y:=h.bet c k hc;by_cases u:k=b
  .subst u;rcases b1.2 with⟨rfl,_⟩|⟨k',cap,b3,hv,_,hh,_⟩
   .cases hb
   .rw[hv]at hb;simp only[Value.ownBlock,bV]at hb;subst hb;exact(iW.1 hh).1
  .have G:=hk k y u;rw[aBw y]at G;exact(iW.1 G).1
 .intro hd c hc;obtain⟨l1,l2⟩:=hl.2 hd;obtain⟨d1,d2⟩:=h.dtm hd c aB;refine⟨d1,λm=>?_⟩;have:¬ (c=t/\m=n):=by omega
  simp only[Gh.tok,this,↓reduceIte];exact d2 m
theorem R.tokNil(h:R C.toCtx F g s w)(e:TypeId){N:Nat}(n2:∀m,g.eta N m=none){s':St}(hO:∀q,s'.getO q=s.getO q)
  (hT:∀q,s'.getT q=if N=q then some (0,e) else s.getT q)(hl:tD C s s' N) :
  ∃g',g.le g'/\g'.eta N 0=some (.slice none 0 0)/\R C.toCtx F g' s' w:=by
 have H:g.le { g with eta:=λy m=>if y=N/\m=0 then some (.slice none 0 0) else g.eta y m } :=
  ⟨fun k pre hp => ⟨[],gQ hp⟩,fun t m x z => by
   have:¬ (t=N/\m=0):=by rintro⟨rfl,rfl⟩;rw[n2]at z;cases z
   simp only[this,↓reduceIte];exact z,λ_ _ h=>h,rfl⟩
 refine⟨_,H,by simp,⟨?_,?_,?_,h.pis,h.frm,?_,?_,h.bet,h.inj,?_,λx z=>(h.lst x (by rw[<-hl.1];exact z)).mono H,h.bfr,h.env⟩⟩
 .intro b o ho;rw[hO]at ho;obtain⟨k,h0,B,G⟩:=h.obj b o ho;exact⟨k,h0,B.mono H,G⟩
 .intro y n' e' u;rw[hT]at u;by_cases htt:N=y
  .subst htt;simp only[↓reduceIte,bV,pE]at u;obtain⟨rfl,rfl⟩:=u;refine⟨.slice none 0 0,[],by simp,World.ownsRow_nil w 0 e _,λm x z=>?_,λk hk=>by cases hk⟩;by_cases hm:m=0
   .omega
   .simp only[hm,and_false,↓reduceIte]at z;rw[n2]at z;cases z
  .simp only[htt,↓reduceIte]at u;obtain⟨v,xs,B,G,h3,h4⟩:=h.tok y n' e' u;have Z:∀m,¬ (y=N/\m=0):=λm=>by rintro⟨rfl,_⟩;exact htt rfl
   have O:¬ y=N:=λe=>htt e.symm
   refine⟨v,xs,?_,G,λm x z=>?_,h4⟩
   .simp only[O,oG,↓reduceIte];exact B
   .simp only[O,oG,↓reduceIte]at z;exact h3 m x z
 .intro t1 t2 b2 b3 v1 v2 k Z B G e1 e2 o1 o2;rw[hT]at B G;by_cases S:N=t1
  .subst S;simp only[↓reduceIte,bV]at B;subst B;simp only[gG,↓reduceIte,bV]at e1;subst e1;cases o1
  .have b0:¬ t1=N:=λe=>S e.symm
   simp only[S,↓reduceIte]at B;simp only[b0,oG,↓reduceIte]at e1;by_cases U:N=t2
   .subst U;simp only[↓reduceIte,bV]at G;subst G;simp only[gG,↓reduceIte,bV]at e2;subst e2;cases o2
   .have b1:¬ t2=N:=λe=>U e.symm
    simp only[U,↓reduceIte]at G;simp only[b1,oG,↓reduceIte]at e2;exact h.sep t1 t2 b2 b3 v1 v2 k Z B G e1 e2 o1 o2
 .intro b cs hc;obtain⟨pre,ty,fr,hp,hl,B,hr⟩:=h.glb b cs hc;exact⟨pre,ty,fr,hp,hl,B,λj c v hc hv=>(hr j c v hc hv).mono H⟩
 .obtain⟨M,hM⟩:=h.fsh;refine⟨max M (N+1),λy u=>⟨?_,λm=>?_,(hM y aB).2.2⟩⟩
  .rw[hT];have:¬ N=y:=by omega
   simp only[this,↓reduceIte];exact(hM y aB).1
  .have:¬ (y=N/\m=0):=by omega
   simp only[this,↓reduceIte];exact(hM y aB).2.1 m
 .intro hd c hc;obtain⟨l1,l2⟩:=hl.2 hd;obtain⟨d1,d2⟩:=h.dtm hd c aB;refine⟨d1,λm=>?_⟩;have:¬ (c=N/\m=0):=by omega
  simp only[this,↓reduceIte];exact d2 m
theorem aCY(P:Program)(w:World)(t u ty e:TypeId)(i:TypeInfo)(G:P.underlying t=some (.slice e))(H:P.underlying u=some (.slice e))(z:P.info? e=some i)(m a:Option Addr)(n cap c:Nat)(h:n<=cap) :
  (Builtin.append_ #[t,u] ty #[.slice m n cap,.slice a 0 c]).run P w=.ok (.slice m n cap) w:=by
 have B:∀y:Addr,(storeCells y []).run P w=.ok () w:=λy=>rfl
 cases m<;>cases a <;>
  simp[Builtin.append_,dN G,dN H,sizeOf,typeInfo,z,Builtin.lenOf,h,Builtin.firstCells,loadCells,loadCellsFrom,B]
theorem aC0(z:Array Value)(n:Nat):(Builtin.zeroCells z n).size=n * z.size:=by simp[Builtin.zeroCells]
theorem qM(w:World)(m u:Nat)(e:TypeId)(h:m<=9223372036854775807):m<=grownCap w m u e/\grownCap w m u e<=maxLen :=
 ⟨grownCap_ge w m u e,grownCap_le_maxLen w m u e (by unfold maxLen;omega)⟩
theorem aAu(g:Gh)(t n:Nat)(v:Value)(b:Nat)(xs:List Value):(g.tok t n v b xs).pi b=some xs:=by simp[Gh.tok]
theorem yQ(g:Gh)(t n:Nat)(v:Value)(b:Nat)(xs:List Value):(g.tok t n v b xs).eta t n=some v:=by simp[Gh.tok]
theorem aEa(l:List Value)(z:Array Value):l.toArray++z=(l++z.toList).toArray:=by apply Array.ext';simp
theorem aB6(k l:List Value)(z:Array Value):k.toArray++l.toArray++z=((k++l)++z.toList).toArray:=by apply Array.ext';simp
theorem vE{KV Kp:St->A->Prop}(hR:R C.toCtx F g s w){t:Nat}{e:TypeId}{es:List A}{xs rest:List Value}{cap:Nat}{Z:TI}(b2:C.tt e=some Z)
  (B:∀y,y∈es->y.cells.length=Z.sz)(H:∀y,y∈es->∀c,c∈y.cells->c.one=true)(U:Rzs g (eC es) xs)
  (h:es.length<=cap)(z:cap<=maxLen)(u:(xs++rest).length=cap * Z.sz)
  {s':St}(hO:∀q,s'.getO q=s.getO q)(hT:∀q,s'.getT q=if t=q then some (es.length,e) else s.getT q)(hl:tD C s s' t)
  (ht:s.getT t=none\/∃n0,s.getT t=some n0)(G:∀m x,g.eta t m=some x->m<es.length)
  (hK:KV s' (.list (some t) es)) :
  OutV C F g KV Kp (.ok (.value (.slice (some ⟨w.heap.size,0,none⟩) es.length cap)) (w.drew.alloc (.cells (xs++rest).toArray e))):=by
 have O:C.toCtx.sz e=Z.sz:=xQ b2;have b0:=aAm B;have S:xs.length=es.length * Z.sz:=by rw[U.1,b0]
 have M:(w.drew.alloc (.cells (xs++rest).toArray e)).ownsRow 0 e (C.toCtx.sz e) (.slice (some ⟨w.heap.size,0,none⟩) es.length cap) es.length xs:=by
  rw[O];refine⟨S,.inr ⟨w.heap.size,cap,_,rfl,aW _,yM w.drew _,h,z,gQ u,?_⟩⟩;rw[<-S];simp
 obtain⟨h1,h2⟩:=hR.tokStep (t:=t) (n:=es.length) (b:=w.heap.size) (w':=w.drew.alloc (.cells (xs++rest).toArray e)) (λk hk _=>wI w.drew _ hk) M rfl G hO hT hl (.inl ⟨rfl,ht⟩);refine⟨_,_,_,h2,h1,?_,hK⟩;refine yR (off:=0) (vs:=xs) (pre:=xs) (aAu _ _ _ _ _ _) bA ?_ B H h z (aW _) (λt' b1=>by cases b1;exact yQ _ _ _ _ _ _);rw[lZ aB];exact U.mono h2
theorem aBN(y:R C.toCtx F g s w){KV:St->A->Prop}{n:Nat}{e:TypeId}{ys:List A}(h:newT C s n e ys KV) :
  ∃N s',(∀m,g.eta N m=none)/\s.getT N=none/\(∀q,s'.getO q=s.getO q)/\(∀q,s'.getT q=if N=q then some (n,e) else s.getT q)/\tD C s s' N /\
   KV s' (.list (some N) ys):=by
 unfold newT at h;cases u:C.det with
 | false =>
  rw[u]at h;obtain⟨N,H⟩:=y.fsh;obtain⟨G,M,_⟩:=H N (bJ _);exact⟨N,s.setT N (n,e),M,G,λq=>rfl,λq=>dC s N (n,e) q,⟨rfl,λB=>by rw[u]at B;cases B⟩,h N G⟩
 | true =>
  rw[u]at h;have z:=(y.dtm u s.lim (bJ _)).2;exact⟨s.lim,s.newT (n,e),z,y.freeT z,λq=>rfl,λq=>aFF s (n,e) q,⟨rfl,λ_=>⟨Nat.le_succ _,fZ _⟩⟩,h⟩
theorem aHx{m:TI}{z:Value}(S:∀g,Rzs g m.zero z.cells.toList)(M:∀c,c∈m.zero->c.one=true)(k:Nat) :
  ∃J:List A,J.length=k * m.zero.length/\(∀c,c∈J->c.one=true)/\∀g,Rzs g J (Builtin.zeroCells z.cells k).toList:=by
 have hl:∀g,z.cells.size=m.zero.length:=λg=>by simpa using(S g).1
 refine⟨(List.range (k * m.zero.length)).map (λi=>m.zero[i % m.zero.length]!),by simp,λc u=>?_,λg=>⟨by simp[Builtin.zeroCells,hl g],λj c v u O=>?_⟩⟩
 .simp only[cN,vA]at u;obtain⟨i,hi,rfl⟩:=u;have U:0<m.zero.length:=Nat.pos_of_ne_zero (by rintro h;rw[h]at hi;simp at hi);have B:i % m.zero.length<m.zero.length:=Nat.mod_lt _ U;rw[getElem!_pos m.zero _ B];exact M _ (kF B)
 .rw[nH]at u;simp only[Builtin.zeroCells,Array.toList_map,Array.toList_range,nH,hl g]at O;cases Z:(List.range (k * m.zero.length))[j]? with
  | none=>rw[Z]at u;cases u
  | some i =>
   rw[Z]at u O;simp only[lL,bV]at u O;have hj:=dZ.1 Z;obtain⟨y,G⟩:=hj;simp only[List.length_range]at y;simp only[List.getElem_range]at G;subst G;have U:0<m.zero.length:=Nat.pos_of_ne_zero (by rintro h;rw[h]at y;simp at y);have B:j % m.zero.length<m.zero.length:=Nat.mod_lt _ U;have H:j % m.zero.length<z.cells.size:=by rw[hl g];exact B
   rw[getElem!_pos m.zero _ B]at u;rw[getElem!_pos z.cells _ H]at O;refine(S g).2 (j % m.zero.length) c v (by rw[dI B,u]) ?_;rw[<-O];simp[H]
theorem aFL{KV Kp:St->A->Prop}(y:R C.toCtx F g s w)(U:C.det=false){e:TypeId}{n cap:Nat}{cs J:List A}{xs rest:List Value}(G:Rzs g cs xs)(O:Rzs g J rest)
  (H:∀c,c∈cs->c.one=true)(M:∀c,c∈J->c.one=true)(hn:n<=cap)(Z:cap<=maxLen)(h:∀b,s.getO b=none->KV (s.setO b (.cells e (cs++J))) (.mg b n cap)) :
  OutV C F g KV Kp (.ok (.value (.slice (some ⟨w.heap.size,0,none⟩) n cap)) (w.drew.alloc (.cells (xs++rest).toArray e))):=by
 obtain⟨b,B⟩:=y.some_free;have z:R C.toCtx F g s w.drew:=y.heap rfl;have S:=h b (y.free B)
 have m:ObRz g (.cells e (cs++J)) (some (.cells (xs++rest).toArray e)):=⟨xs++rest,[],by simp,G.append O,λc u=>by
  rcases cK.1 u with u|u
  .exact H c u
  .exact M c u⟩
 refine⟨_,_,_,aAB B _,z.newObj m B (s':=s.setO b (.cells e (cs++J))) (λq=>aL s b _ q) (λq=>rfl) rfl (by rw[U];simp),?_,S⟩;exact .mg b n cap _ (by simp[Gh.bx]) hn Z
theorem aFY(bs:List UInt8):(gS bs).length=bs.length:=by simp[gS]
theorem aC7(bs:List UInt8):∀y,y∈gS bs->y.cells.length=1:=by
 intro y h;simp only[gS,cN]at h;obtain⟨c,_,rfl⟩:=h;rfl
theorem aFU(bs:List UInt8):∀y,y∈gS bs->∀c,c∈y.cells->c.one=true:=by
 intro y m c h;simp only[gS,cN]at m;obtain⟨x,_,rfl⟩:=m;simp only[A.cells,bO]at h;subst h;rfl
theorem aJp(bs:List UInt8):eC (gS bs)=gS bs:=by
 induction bs with
 | nil=>rfl
 | cons c r h=>simp only[gS,bX,eC,jR]at *;rw[h];rfl
theorem aQ4(g:Gh)(bs:List UInt8):Rzs g (gS bs) (Lib.strCells ⟨bs.toArray⟩):=by
 refine⟨by simp[gS,Lib.strCells],λj c v h m=>?_⟩;simp only[gS,nH]at h;simp only[Lib.strCells,nH]at m;cases u:bs[j]? with
 | none=>rw[u]at h;cases h
 | some x =>
  rw[u]at h m;simp only[lL,bV]at h m;subst h m;exact .int _ _
theorem aUj{S:TI}{t u e:TypeId}(M:C.tt t=some S)(h:aEN C S u=some e):C.P.underlying t=some (.slice e)/\C.P.underlying u=some .string/\∃z,C.tt e=some z/\z.sz=1/\z.bytes=1:=by
 unfold aEN at h;split at h
 .rename_i e0 hk;split at h
  .rename_i tu z O H;split at h
   .rename_i G;split at h
    .rename_i b0;split at h
     .rename_i U;cases h;obtain⟨d,Z,y⟩:=iL M;rw[hk]at y;simp only[TK.ok]at y;subst y;obtain⟨d2,B,m⟩:=iL O;rw[G]at m;simp only[TK.ok]at m;subst m;exact⟨Z,B,z,H,U⟩
     .cases h
    .cases h
   .cases h
  .cases h
 .cases h
theorem aRU(y:R C.toCtx F g s w){KV:St->A->Prop}{n:Nat}{e:TypeId}(h:aA7 C s n e KV) :
  ∃N s',(∀m,g.eta N m=none)/\s.getT N=none/\(∀q,s'.getO q=s.getO q)/\(∀q,s'.getT q=if N=q then some (0,e) else s.getT q)/\tD C s s' N /\
   KV s' (.gr N n):=by
 unfold aA7 at h;cases u:C.det with
 | false =>
  rw[u]at h;obtain⟨N,H⟩:=y.fsh;obtain⟨G,M,_⟩:=H N (bJ _);exact⟨N,s.setT N (0,e),M,G,λq=>rfl,λq=>dC s N (0,e) q,⟨rfl,λB=>by rw[u]at B;cases B⟩,h N G⟩
 | true =>
  rw[u]at h;have z:=(y.dtm u s.lim (bJ _)).2;exact⟨s.lim,s.newT (0,e),z,y.freeT z,λq=>rfl,λq=>aFF s (0,e) q,⟨rfl,λ_=>⟨Nat.le_succ _,fZ _⟩⟩,h⟩
theorem aUP{KV Kp:St->A->Prop}{ty:TypeId}{x y:Operand}{t u e:TypeId}{bs:List UInt8}{a:A}{ti:TI}{dst:Option Tmp}{pos:String}{after:Array Edge}{gd:Option (Nat × Bool)}
  (hR:R C.toCtx F g s w)(he:∀x a,ρ x=some a->Rz g a (ev x))(hx:ρ x=some a)(hy:ρ y=some (.str bs))(cj:C.tt t=some ti)(hE:aEN C ti u=some e)(h:aA9 C s e bs KV a) :
  OutV C F g KV Kp ((execOp ev ⟨dst,.call ⟨.builtin .append,#[x,y],#[t,u]⟩,ty,pos,after,gd⟩).run C.P w):=by
 obtain⟨hd,bb,te,bc,U,br⟩:=aUj cj hE;obtain⟨i,z,hi,c3,bz,c0,cm⟩:=(C.htt e te bc).info
 have S:(execOp ev ⟨dst,.call ⟨.builtin .append,#[x,y],#[t,u]⟩,ty,pos,after,gd⟩).run C.P w =
   ((Builtin.append_ #[t,u] ty #[ev x,ev y]).run C.P w).andThen λv w'=>.ok (.value v) w':=by
  simp only[execOp,resolve,invoke,builtin,bN,cG,bM,lA,bX,dL]
 have bp:C.toCtx.sz e=te.sz:=xQ bc;have bd:=(he y _ hy).str_inv;have M:(ByteArray.mk bs.toArray).size=bs.length:=by simp[ByteArray.size]
 have b7:(Lib.strCells ⟨bs.toArray⟩).length=bs.length:=by simp[Lib.strCells]
 have cn:z.cells.size=1:=by
  have h1:=(cm g).1;rw[(C.htt e te bc).len,U]at h1;simpa using h1
 have b3:∀(n cap:Nat),n<=cap->(Builtin.zeroCells z.cells (cap-n)).toList.length+n=cap:=by
  intro n cap h;simp only[qH,aC0,cn];omega
 have b4:Rzs g (eC (gS bs)) (Lib.strCells ⟨bs.toArray⟩):=by rw[aJp];exact aQ4 g bs
 cases a<;>simp only[aA9]at h
 case nils =>
  obtain⟨ct,h⟩:=h;have bh:=(he x _ hx).nils_inv;obtain⟨N,s',m1,m2,m3,m4,m5,m6⟩:=aBN hR h;by_cases h0:bs=[]
  .subst h0
   have B:(Builtin.append_ #[t,u] ty #[.slice none 0 0,.string ⟨([]:List UInt8).toArray⟩]).run C.P w=.ok (.slice none 0 0) w:=by
    have hs:(ByteArray.mk ([]:List UInt8).toArray).size=0:=rfl;simp[Builtin.append_,dN hd,dN bb,sizeOf,typeInfo,hi,Builtin.lenOf,hs,Builtin.firstCells]
   rw[S,bh,bd,B];obtain⟨g',h2,h3,h4⟩:=hR.tokNil e m1 m3 m4 m5;exact⟨g',_,_,h2,h4,.list0 (some N) none 0 (aW _) (λt' c1=>by cases c1;exact h3),m6⟩
  .have bg:0<bs.length:=by cases bs with|nil=>exact cV rfl h0|cons=>simp
   have B:=run_append_nil_string (P:=C.P) w t u ty e i z hd bb hi c0 ⟨bs.toArray⟩ (by rw[M];exact bg) (by rw[M];omega) (by rw[M,bz,br];omega);rw[M]at B;have Z:=qM w bs.length 0 e aB;rw[S,bh,bd,B]
   rw[show(Array.map (λb:UInt8=>Value.int IntKind.u8 (b.toNat:Int)) (ByteArray.mk bs.toArray).data++Builtin.zeroCells z.cells (grownCap w bs.length 0 e-bs.length)) =
    (Lib.strCells ⟨bs.toArray⟩++(Builtin.zeroCells z.cells (grownCap w bs.length 0 e-bs.length)).toList).toArray by apply Array.ext';simp[Lib.strCells]]
   have b2:=aFY bs
   have:=vE (KV:=KV) (Kp:=Kp) hR (t:=N) bc (es:=gS bs) (xs:=Lib.strCells ⟨bs.toArray⟩) (cap:=grownCap w bs.length 0 e) (rest:=(Builtin.zeroCells z.cells (grownCap w bs.length 0 e-bs.length)).toList)
    (λy hy=>by rw[U];exact aC7 bs y hy) (aFU bs) b4 (by rw[b2];exact Z.1) Z.2 (by rw[aH,b7,U,Nat.mul_one];have:=b3 _ _ Z.1;omega)
    m3 (by rw[b2];exact m4) m5 (.inl m2) (λm x hx=>by rw[m1]at hx;cases hx) m6
   rw[b2]at this;exact this
 case list tk es =>
  cases tk with
  | none=>exact h.elim
  | some t0 =>
  obtain⟨⟨h1,h2,h3⟩,hK⟩:=h;obtain⟨ax,bk,bh,f0,cd,bj,cl⟩:=(he x _ hx).list_inv;obtain⟨v,xs,e1,H,c4,bm⟩:=hR.tok t0 es.length e h1;have ck:v=ev x:=by have:=bj t0 rfl;rw[e1]at this;exact tH this
  subst ck;rw[bp,U]at H;have b2:=aFY bs;have G:(es++gS bs).length=es.length+bs.length:=by simp[b2]
  have bv:tD C s (s.setT t0 (es.length+bs.length,e)) t0:=⟨rfl,λhd=>⟨bJ _,Nat.lt_of_not_le λcf=>by
   have:=(hR.dtm hd t0 cf).2 es.length;rw[this]at e1;cases e1⟩⟩
  by_cases h0:bs=[]
  .subst h0
   have B:(Builtin.append_ #[t,u] ty #[.slice ax es.length bk,.string ⟨([]:List UInt8).toArray⟩]).run C.P w=.ok (.slice ax es.length bk) w:=by
    have hs:(ByteArray.mk ([]:List UInt8).toArray).size=0:=rfl;have ch:∀ad:Addr,(storeCells ad []).run C.P w=.ok () w:=λad=>rfl
    cases ax<;>simp[Builtin.append_,dN hd,dN bb,sizeOf,typeInfo,hi,Builtin.lenOf,hs,Builtin.firstCells,cd,ch]
   rw[S,bh,bd,B];have c8:=he x _ hx;rw[bh]at c8;refine⟨g,.list (some t0) es,_,fJ g,hR.weaken (s':=s.setT t0 (es.length,e)) ⟨λb o ho=>ho,λk n hn=>?_,λ_ h=>h⟩ (λ_=>bJ _),c8,by simpa [gS]using hK⟩;rw[dC]at hn;by_cases bj:t0=k
   .subst bj;simp only[↓reduceIte]at hn;rw[h1];exact hn
   .simpa only[bj,↓reduceIte]using hn
  .have bg:0<bs.length:=by cases bs with|nil=>exact cV rfl h0|cons=>simp
   have b5:∀m x,g.eta t0 m=some x->m<(es++gS bs).length:=λm x hx=>by have:=c4 m x hx;rw[G];omega
   have bf:∀y,y∈es++gS bs->∀c,c∈y.cells->c.one=true:=by
    intro q hq c hc;rcases cK.1 hq with hq|hq
    .rcases cl with rfl|⟨b,off,sz,pre,_,_,_,_,ho,_⟩
     .cases hq
     .exact ho q hq c hc
    .exact aFU bs q hq c hc
   have bn:∀y,y∈es++gS bs->y.cells.length=te.sz:=by
    intro q hq;rw[U];rcases cK.1 hq with hq|hq
    .exact h2 q hq
    .exact aC7 bs q hq
   have c9:Rzs g (eC es) xs:=by
    obtain⟨a',cq,q1,_,_,q2⟩:=(he x _ hx).to_flat;rcases q2 with rfl|⟨b',cw,cp,cz,q3,q4,q5,q6,q7,q8⟩
    .have:xs=[]:=eS (gQ H.1);rw[this];exact .nil g
    .by_cases b0:es=[]
     .subst b0;have:xs=[]:=eS (gQ H.1);rw[this];exact .nil g
     .have c5:0<es.length:=by cases es with|nil=>exact cV rfl b0|cons=>simp
      have c7:cp=1:=by rw[<-q6 _ (kF c5),h2 _ (kF c5)]
      subst q3;rcases H.2 with⟨hn,h0⟩|⟨g0,O,b1,b9,_⟩
      .omega
      .have bq:=bm g0 (by rw[b9];rfl);rw[b9]at q1;simp only[qJ,bV,tK,oI,gG]at q1;obtain⟨⟨rfl,rfl⟩,rfl⟩:=q1;rw[bq.1]at q4;cases q4;rw[c7,aAh,lZ (by rw[H.1];exact bJ _)]at q8;exact q8
   have bl:Rzs g (eC (es++gS bs)) (xs++Lib.strCells ⟨bs.toArray⟩):=by rw[aFR];exact c9.append b4
   rcases H.2 with⟨hn,cb⟩|⟨g0,O,b1,b9,_,bw,f1,c2,hcs,b8⟩
   .have b0:es=[]:=eS cb;have B:=run_append_nil_string (P:=C.P) w t u ty e i z hd bb hi c0 ⟨bs.toArray⟩ (by rw[M];exact bg) (by rw[M];omega) (by rw[M,bz,br];omega);rw[M]at B;have Z:=qM w bs.length 0 e aB;rw[S,hn,bd,B]
    rw[show(Array.map (λb:UInt8=>Value.int IntKind.u8 (b.toNat:Int)) (ByteArray.mk bs.toArray).data++Builtin.zeroCells z.cells (grownCap w bs.length 0 e-bs.length)) =
     (Lib.strCells ⟨bs.toArray⟩++(Builtin.zeroCells z.cells (grownCap w bs.length 0 e-bs.length)).toList).toArray by apply Array.ext';simp[Lib.strCells]]
    have:=vE (KV:=KV) (Kp:=Kp) hR (t:=t0) bc (es:=gS bs) (xs:=Lib.strCells ⟨bs.toArray⟩) (cap:=grownCap w bs.length 0 e) (rest:=(Builtin.zeroCells z.cells (grownCap w bs.length 0 e-bs.length)).toList)
     (λy hy=>by rw[U];exact aC7 bs y hy) (aFU bs) b4 (by rw[b2];exact Z.1) Z.2 (by rw[aH,b7,U,Nat.mul_one];have:=b3 _ _ Z.1;omega)
     (s':=s.setT t0 (es.length+bs.length,e)) (λq=>rfl) (λq=>by rw[dC];simp[b0,b2]) bv (.inr ⟨_,h1⟩) (by simpa [b0]using b5) (by simpa [b0]using hK)
    rw[b2]at this;exact this
   .by_cases b6:es.length+bs.length<=O
    .have cr:b1.size=O:=by rw[hcs,Nat.mul_one]
     have B:=Lib.run_append_room_string (P:=C.P) w t u ty e i hd bb hi (by rw[c3,U]) g0 es.length O b1 bw ⟨bs.toArray⟩ (by rw[M];exact b6) (by rw[M];omega);rw[M]at B;rw[S,b9,bd,B]
     have c6:(w.setRow g0 (b1.toList.take es.length++Lib.strCells ⟨bs.toArray⟩++b1.toList.drop (es.length+bs.length)).toArray).ownsRow 0 e (C.toCtx.sz e) (.slice (some ⟨g0,0,none⟩) (es.length+bs.length) O) (es.length+bs.length) (xs++Lib.strCells ⟨bs.toArray⟩):=by
      rw[bp,U];refine⟨by rw[aH,H.1,b7];omega,.inr ⟨g0,O,_,rfl,aW _,aAi bw _,b6,c2,?_,?_⟩⟩
      .simp only[List.size_toArray,aH,dT,dS,qH,b7];omega
      .rw[Nat.mul_one]at b8⊢;rw[b8];have:es.length+bs.length=(xs++Lib.strCells ⟨bs.toArray⟩).length:=by rw[aH,H.1,b7];omega
       rw[this];simp only[eG];rw[<-eG];exact List.take_left
     have bq:=bm g0 (by rw[b9];rfl);obtain⟨r1,r2⟩:=hR.tokStep (t:=t0) (b:=g0) (λk hk cg=>aAt cg _) c6 rfl (by rw[<-G];exact b5) (s':=s.setT t0 (es.length+bs.length,e)) (λq=>rfl) (λq=>dC _ _ _ q) bv (.inr ⟨es.length,ev x,xs,Lib.strCells ⟨bs.toArray⟩,h1,e1,by rw[b9];rfl,bq.1,rfl⟩);refine⟨_,.list (some t0) (es++gS bs),_,r2,r1,?_,hK⟩;rw[<-G];refine yR (off:=0) (sz:=te.sz) (vs:=xs++Lib.strCells ⟨bs.toArray⟩) (pre:=xs++Lib.strCells ⟨bs.toArray⟩) (by rw[G];exact aAu _ _ _ _ _ _) bA ?_ bn bf (by rw[G];exact b6) c2 (aW _) (λt' c1=>by cases c1;rw[G];exact yQ _ _ _ _ _ _);rw[lZ (by rw[aH,H.1,b7,G,U];omega)];rw[G]at *;exact bl.mono r2
    .have bt:∀j u,xs[j]?=some u->w.cell? ((⟨g0,0,none⟩:Addr).add j)=some u:=by
      intro j u hj;rw[kQ];simp only[World.cell?,bw,kZ,dA,↓reduceIte,iQ];rw[<-b8,mS]at hj;split at hj
      .simpa using hj
      .simp at hj
     have B:=Lib.run_append_grow_string (P:=C.P) w t u ty e i z hd bb hi c0 ⟨g0,0,none⟩ es.length O xs (by rw[H.1,c3,U]) bt ⟨bs.toArray⟩ (by rw[M];omega) (by rw[M];omega)
      (growslice_fits (by rw[M];omega) (by rw[M,bz,br];omega))
     rw[M]at B;have Z:=qM w (es.length+bs.length) O e aB;rw[S,b9,bd,B,aB6]
     have:=vE (KV:=KV) (Kp:=Kp) hR (t:=t0) bc (es:=es++gS bs) (xs:=xs++Lib.strCells ⟨bs.toArray⟩) (cap:=grownCap w (es.length+bs.length) O e) (rest:=(Builtin.zeroCells z.cells (grownCap w (es.length+bs.length) O e-(es.length+bs.length))).toList) bn bf bl (by rw[G];exact Z.1) Z.2
      (by rw[aH,aH,b7,H.1,U];have:=b3 _ _ Z.1;omega) (s':=s.setT t0 (es.length+bs.length,e)) (λq=>rfl) (λq=>by rw[dC,G]) bv (.inr ⟨_,h1⟩) b5 hK
     rw[G]at this;exact this
theorem aNL(P:Program)(w:World)(t u ty e:TypeId)(k:IntKind)(i:TypeInfo)(z:Value)(Z:P.underlying t=some (.slice e))(hu:P.underlying u=some (.int k))(U:P.info? e=some i)(hz:i.zero=some z)
  (G:i.size≠0)(n:Nat)(H:0<n)(hn:n<=4294967296)(hb:n * i.bytes<=281474976710656) :
  (Builtin.append_ #[t,u] ty #[.slice none 0 0,.int .i64 n]).run P w=.ok (.slice (some ⟨w.heap.size,0,none⟩) n (grownCap w n 0 e))
   (w.drew.alloc (.cells (Builtin.zeroCells z.cells n++Builtin.zeroCells z.cells (grownCap w n 0 e-n)) e)):=by
 have hw:IntKind.i64.wrap (n:Int)=n:=IntWalk.i64_in _ ⟨by omega,by omega⟩;have M:¬ ((n:Int)<0):=by omega
 have O:¬ ((281474976710656:Int)<(n:Int) * (i.bytes:Int)):=by
  have:((n * i.bytes:Nat):Int)<=281474976710656:=by omega
  rw[Int.natCast_mul]at this;omega
 have B:n≠0:=by omega
 have y:¬ (9223372036854775807<(n:Int)):=by omega
 have m:¬ (281474976710656<Builtin.nextslicecap n 0 * i.bytes):=by rw[nextslicecap_zero H];omega
 have S:¬ (n * i.size=0):=by
  intro h;rcases Nat.mul_eq_zero.1 h with h|h
  .exact B h
  .exact G h
 simp[Builtin.append_,dN Z,dN hu,sizeOf,typeInfo,zeroValue,U,hz,hw,M,O,B,G,y,m,Builtin.firstCells,Question.forced,newRow,grownCap,asInt,asIntOf];intro h;exact cV h S
theorem aUS{KV Kp:St->A->Prop}{ty:TypeId}{x y:Operand}{t u:TypeId}{n:Int}{a:A}{ti:TI}{dst:Option Tmp}{pos:String}{after:Array Edge}{gd:Option (Nat × Bool)}
  (hR:R C.toCtx F g s w)(he:∀x a,ρ x=some a->Rz g a (ev x))(Z:ρ x=some a)(hy:ρ y=some (.int .i64 n))(b5:C.tt t=some ti)(h:uM C s ti u n KV a) :
  OutV C F g KV Kp ((execOp ev ⟨dst,.call ⟨.builtin .append,#[x,y],#[t,u]⟩,ty,pos,after,gd⟩).run C.P w):=by
 cases a<;>simp only[uM]at h
 split at h
 .rename_i e hk;split at h
  .rename_i te tu S b6;split at h
   .rename_i k b4;obtain⟨⟨h0,h1,h2,h3⟩,h⟩:=h;obtain⟨d,hd,O⟩:=iL b5;rw[hk]at O;simp only[TK.ok]at O;subst O;obtain⟨d2,b0,B⟩:=iL b6;rw[b4]at B;simp only[TK.ok]at B;subst B;obtain⟨i,z,hi,b2,b1,b3,b9⟩:=(C.htt e te S).info
    have bb:z.cells.size=te.sz:=by
     have h1:=(b9 g).1;rw[(C.htt e te S).len]at h1;simpa using h1
    have hn:n=(n.toNat:Int):=by omega
    have b8:=(he y _ hy).int_inv;have b7:=(he x _ Z).nils_inv
    have H:(execOp ev ⟨dst,.call ⟨.builtin .append,#[x,y],#[t,u]⟩,ty,pos,after,gd⟩).run C.P w =
      ((Builtin.append_ #[t,u] ty #[ev x,ev y]).run C.P w).andThen λv w'=>.ok (.value v) w':=by
     simp only[execOp,resolve,invoke,builtin,bN,cG,bM,lA,bX,dL]
    have G:=aNL C.P w t u ty e k i z hd b0 hi b3 (by rw[b2];exact h2) n.toNat aB aB
     (by rw[b1];have:n.toNat * te.bytes<=4294967296 * 32768:=Nat.mul_le_mul aB h3;omega)
    rw[<-hn]at G;have M:=qM w n.toNat 0 e aB;obtain⟨N,s',m1,m2,m3,m4,m5,m6⟩:=aRU hR h;rw[H,b7,b8,G]
    have U:(w.drew.alloc (.cells (Builtin.zeroCells z.cells n.toNat++Builtin.zeroCells z.cells (grownCap w n.toNat 0 e-n.toNat)) e)).ownsRow 0 e (C.toCtx.sz e) (.slice (some ⟨w.heap.size,0,none⟩) 0 (grownCap w n.toNat 0 e)) 0 []:=by
     rw[xQ S];refine⟨by simp,.inr ⟨w.heap.size,_,_,rfl,aW _,yM w.drew _,aW _,M.2,?_,by simp⟩⟩;simp only[Array.size_append,aC0,bb,<-gO];congr 1;omega
    obtain⟨r1,r2⟩:=hR.tokStep (t:=N) (n:=0) (b:=w.heap.size) (w':=w.drew.alloc (.cells (Builtin.zeroCells z.cells n.toNat++Builtin.zeroCells z.cells (grownCap w n.toNat 0 e-n.toNat)) e))
     (λk hk _=>wI w.drew _ hk) U rfl (λm x Z=>by rw[m1]at Z;cases Z) m3 m4 m5 (.inl ⟨rfl,.inl m2⟩)
    exact⟨_,_,_,r2,r1,.gr N _ _ _ (yQ _ _ _ _ _ _) M.1 M.2,m6⟩
   .exact h.elim
  .exact h.elim
 .exact h.elim
theorem R.freeze(y:R C.toCtx F g s w){t n b:Nat}{e:TypeId}{v:Value}(ht:s.getT t=some (n,e))(hv:g.eta t n=some v)(hb:v.ownBlock=some b)(m:Nat) :
  R C.toCtx F g (s.delT t) (w.freeze ⟨b,0,none⟩ m):=by
 by_cases B:m=0
 .subst B;have:w.freeze ⟨b,0,none⟩ 0=w:=by simp[World.freeze]
  rw[this];refine y.weaken ⟨λb o ho=>ho,λk x O=>?_,λ_ h=>h⟩ (λ_=>bJ _);rw[tL]at O;split at O
  .cases O
  .exact O
 obtain⟨v',xs,e1,b5,b4,U⟩:=y.tok t n e ht;rw[hv]at e1;cases e1;obtain⟨b1,hF⟩:=U b hb
 have S:∀k,k≠b->(w.freeze ⟨b,0,none⟩ m).heap[k]?=w.heap[k]?:=by
  intro k S;have:¬ b=k:=λe=>S e.symm
  simp[World.freeze,B,Array.getElem?_modify,this]
 have b2:(w.freeze ⟨b,0,none⟩ m).heap.size=w.heap.size:=by simp[World.freeze,B]
 refine⟨λc o ho=>?_,λt' n' e' G=>?_,λt1 t2 n1 n2 v1 v2 k M H z=>?_,λk pre hp=>?_,λk o ho=>?_,y.glb,?_,?_,y.inj,?_,y.lst,y.bfr,(by simp[World.freeze,B,<-y.env])⟩
 .obtain⟨k,h0,H,z,h3⟩:=y.obj c o ho;have:k≠b:=by rintro rfl;rw[b1]at z;cases z
  exact⟨k,h0,by rw[S k this];exact H,z,h3⟩
 ·rw[tL] at G;split at G
  .cases G
  .rename_i M;obtain⟨v2,b3,H,z,h3,h4⟩:=y.tok t' n' e' G;refine⟨v2,b3,H,⟨z.1,?_⟩,h3,h4⟩;rcases z.2 with h5|⟨k,cap,b0,h5,h6,hh,rest⟩
   .exact .inl h5
   .refine .inr ⟨k,cap,b0,h5,h6,?_,rest⟩
    have:k≠b:=by
     rintro rfl;exact y.sep t' t (n',e') (n,e) v2 v k M G ht H hv (by rw[h5];rfl) hb
    rw[S k this];exact hh
 .rw[tL]at H z;split at H
  .cases H
  .split at z
   .cases z
   .exact y.sep t1 t2 n1 n2 v1 v2 k M H z
 .obtain⟨rest,e2,fr,O⟩:=y.pis k pre hp;by_cases Z:k=b
  .subst Z;obtain⟨lo,hi⟩:=fr;refine⟨rest,e2,(if lo == hi then(0,0+m) else(min lo 0,max hi (0+m))),?_⟩;simp[World.freeze,B,Array.getElem?_modify,O]
  .exact⟨rest,e2,fr,by rw[S k Z];exact O⟩
 .have:k≠b:=by rintro rfl;rw[hF]at ho;cases ho
  exact⟨by rw[S k this];exact(y.frm k o ho).1,(y.frm k o ho).2⟩
 .obtain⟨N,hN⟩:=y.fsh;refine⟨N,λu hu=>⟨?_,(hN u hu).2⟩⟩;rw[tL];split
  .rfl
  .exact(hN u hu).1
 .intro c k hc;rw[b2];exact y.bet c k hc
 .exact y.dtm
theorem aUU{KV Kp:St->A->Prop}{ty:TypeId}{x y:Operand}{t u:TypeId}{dst:Option Tmp}{pos:String}{after:Array Edge}{gd:Option (Nat × Bool)}
  (hR:R C.toCtx F g s w)(he:∀x a,ρ x=some a->Rz g a (ev x))(h:bF C (.call ⟨.builtin .unsafeString,#[x,y],#[t,u]⟩) ρ KV Kp s) :
  OutV C F g KV Kp ((execOp ev ⟨dst,.call ⟨.builtin .unsafeString,#[x,y],#[t,u]⟩,ty,pos,after,gd⟩).run C.P w):=by
 have m:(execOp ev ⟨dst,.call ⟨.builtin .unsafeString,#[x,y],#[t,u]⟩,ty,pos,after,gd⟩).run C.P w =
   ((Builtin.unsafeString_ #[t,u] ty #[ev x,ev y]).run C.P w).andThen λv w'=>.ok (.value v) w':=by
  simp only[execOp,resolve,invoke,builtin,bN,cG,bM,lA,bX,dL]
 simp only[bF]at h;split at h
 .rename_i n hx hy;obtain⟨rfl,hK⟩:=h;rw[m,(he x _ hx).nilp_inv,(he y _ hy).int_inv,Lib.run_unsafeString_none];exact⟨g,.str [],s,fJ g,hR,.str [],hK⟩
 .rename_i t0 es n hx hy;split at h
  .rename_i e hus;obtain⟨⟨rfl,ht⟩,bs,rfl,hK⟩:=h;obtain⟨hp,hc⟩:=C.hus _ _ hus;obtain⟨a,cap,hv,bl,hr⟩:=(he x _ hx).sd_inv;obtain⟨ad,bd,e1,hm,bm,b8,hh⟩:=hr.list_inv;obtain⟨v,xs,e2,G,bh,Z⟩:=hR.tok t0 _ e ht;have e3:=b8 t0 rfl;rw[e2]at e3;cases e3;have U:=aFY bs;rw[m,hv,(he y _ hy).int_inv];by_cases h0:bs=[]
   .subst h0;have e5:((gS ([]:List UInt8)).length:Int)=0:=rfl;rw[e5,Lib.run_unsafeString_none];have hw:w.freeze ⟨a.block,0,none⟩ 0=w:=by simp[World.freeze]
    have:=hR.freeze (b:=a.block) ht e2 rfl 0;rw[hw]at this;exact⟨g,.str [],s.delT t0,fJ g,this,.str [],hK⟩
   .have b2:0<bs.length:=by cases bs with|nil=>exact cV rfl h0|cons=>simp
    rcases G.2 with⟨hn,_⟩|⟨g0,bf,S,b4,_,b0,bn,b5,hcs,z⟩
    .cases hn
    simp only[qJ,bV]at b4;obtain⟨rfl,_,rfl⟩:=b4;have M:C.toCtx.sz e=1:=hc;rw[M,Nat.mul_one]at hcs z;have b7:=(Z g0 rfl).1
    have bb:Rzs g (gS bs) xs:=by
     obtain⟨a',bg,q1,_,_,q2⟩:=hr.to_flat;rcases q2 with q2|⟨b',bj,bc,bk,q3,q4,q5,q6,q7,q8⟩
     .exact cV (List.map_eq_nil_iff.1 q2) h0
     .subst q3;simp only[qJ,bV,tK,oI,gG]at q1;obtain⟨⟨rfl,rfl⟩,rfl⟩:=q1;rw[b7]at q4;cases q4;have b1:0<(gS bs).length:=by rw[U];exact b2
      have b3:bc=1:=by rw[<-q6 _ (kF b1),aC7 bs _ (kF b1)]
      rw[b3,aAh,lZ (by rw[G.1,M];exact bJ _),aJp]at q8;exact q8
    have O:∀j x,bs[j]?=some x->w.cell? ((⟨g0,0,none⟩:Addr).add j)=some (.int .u8 x.toNat):=by
     intro j x hj;have b6:(gS bs)[j]?=some (.int .u8 x.toNat):=by simp[gS,hj]
     obtain⟨u',B,b9⟩:=bb.get b6;rw[b9.int_inv]at B;rw[kQ];simp only[World.cell?,b0,kZ,dA,↓reduceIte,iQ];rw[<-z,mS]at B;split at B
     .simpa using B
     .cases B
    have H:=Lib.run_unsafeString_row (P:=C.P) w t u ty e hp hc g0 S.size (by simp[World.shape?,b0]) bs h0 (by rw[hcs];omega) (by unfold maxLen at b5;omega) O;rw[<-U]at H;rw[H];exact⟨g,.str bs,s.delT t0,fJ g,hR.freeze ht e2 rfl _,.str bs,hK⟩
  .exact h.elim
 .exact h.elim
theorem aMo{KV Kp:St->A->Prop}{ty:TypeId}{x y:Operand}{t u:TypeId}{a:A}{ti:TI}{Z:Option Addr}{dst:Option Tmp}{pos:String}{after:Array Edge}{gd:Option (Nat × Bool)}
  (hR:R C.toCtx F g s w)(he:∀x a,ρ x=some a->Rz g a (ev x))(hx:ρ x=some a)(hy:ev y=.slice Z 0 0)(U:C.tt t=some ti)(h:aAb C s ti t u KV a) :
  OutV C F g KV Kp ((execOp ev ⟨dst,.call ⟨.builtin .append,#[x,y],#[t,u]⟩,ty,pos,after,gd⟩).run C.P w):=by
 have H:(execOp ev ⟨dst,.call ⟨.builtin .append,#[x,y],#[t,u]⟩,ty,pos,after,gd⟩).run C.P w =
   ((Builtin.append_ #[t,u] ty #[ev x,ev y]).run C.P w).andThen λv w'=>.ok (.value v) w':=by
  simp only[execOp,resolve,invoke,builtin,bN,cG,bM,lA,bX,dL]
 unfold aAb at h;split at h
 .rename_i e hk;split at h
  .rename_i te S;obtain⟨rfl,h⟩:=h;obtain⟨d,hd,M⟩:=iL U;rw[hk]at M;simp only[TK.ok]at M;subst M;obtain⟨i,z,hi,b1,b0,b2,b3⟩:=(C.htt e te S).info
   have key:∀(m:Option Addr) (n cap:Nat) (b:A),ev x=.slice m n cap->n<=cap->Rz g b (.slice m n cap)->KV s b ->
     OutV C F g KV Kp ((execOp ev ⟨dst,.call ⟨.builtin .append,#[x,y],#[u,u]⟩,ty,pos,after,gd⟩).run C.P w):=by
    intro m n cap b h1 h2 h3 h4;rw[H,h1,hy,aCY C.P w u u ty e i hd hd hi m Z n cap 0 h2];exact⟨g,b,s,fJ g,hR,h3,h4⟩
   have B:=he x _ hx;split at h
   .have G:=B.nils_inv;rw[G]at B;exact key none 0 0 _ G (bJ _) B h
   .obtain⟨a,G⟩:=B.emp_inv;rw[G]at B;exact key (some a) 0 0 _ G (bJ _) B h
   .obtain⟨a,cap,G,_,O,_⟩:=B.list_inv;rw[G]at B;exact key a _ cap _ G O B h
   .obtain⟨k,cap,G,_,O,_⟩:=B.ml_inv;rw[G]at B;exact key _ _ cap _ G O B h
   .exact h.elim
  .exact h.elim
 .exact h.elim
theorem aKB{s1:St}(y:R C.toCtx F g s1 w){KV:St->A->Prop}{n sz:Nat}{e:TypeId}{ys:List A}(h:vZ C s1 n e ys sz KV) :
  ∃N s',(∀m,g.eta N m=none)/\s1.getT N=none/\(∀q,s'.getO q=s1.getO q)/\(∀q,s'.getT q=if N=q then some (n,e) else s1.getT q)/\tD C s1 s' N /\
   KV s' (.pen N ys sz):=by
 unfold vZ at h;cases u:C.det with
 | false =>
  rw[u]at h;obtain⟨N,H⟩:=y.fsh;obtain⟨G,M,_⟩:=H N (bJ _);exact⟨N,s1.setT N (n,e),M,G,λq=>rfl,λq=>dC s1 N (n,e) q,⟨rfl,λB=>by rw[u]at B;cases B⟩,h N G⟩
 | true =>
  rw[u]at h;have z:=(y.dtm u s1.lim (bJ _)).2;exact⟨s1.lim,s1.newT (n,e),z,y.freeT z,λq=>rfl,λq=>aFF s1 (n,e) q,⟨rfl,λ_=>⟨Nat.le_succ _,fZ _⟩⟩,h⟩
theorem R.tokMove(h:R C.toCtx F g s w){w':World}{k N n b:Nat}{e:TypeId}{v v':Value}{xs:List Value}(n2:∀m,g.eta N m=none)
  (hk:∀j,j≠b->w'.heap[j]?=w.heap[j]?)(ht:s.getT k=some (n,e))(hv:g.eta k n=some v)(hb:v.ownBlock=some b)(b4:g.pi b=some xs)
  (U:w'.ownsRow 0 e (C.toCtx.sz e) v' n xs)(u:v'.ownBlock=some b)
  {s':St}(hO:∀q,s'.getO q=s.getO q)(hT:∀q,s'.getT q=if N=q then some (n,e) else if q=k then none else s.getT q)(hl:tD C s s' N)(he:(w'.os,w'.output)=(w.os,w.output):=by rfl) :
  ∃g',g.le g'/\g'.eta N n=some v'/\g'.pi=g.pi/\R C.toCtx F g' s' w':=by
 have hF:F b=none:=by
  obtain⟨v1,bk,e1,_,_,h5⟩:=h.tok k n e ht;rw[hv]at e1;cases e1;exact(h5 b hb).2
 have b2:g.le { g with eta:=λH m=>if H=N/\m=n then some v' else g.eta H m } :=
  ⟨fun k pre hp => ⟨[],gQ hp⟩,fun t m x O => by
   have:¬ (t=N/\m=n):=by rintro⟨rfl,rfl⟩;rw[n2]at O;cases O
   simp only[this,↓reduceIte];exact O,λ_ _ h=>h,rfl⟩
 have bh:∀j,j<w.heap.size->j<w'.heap.size:=by
  intro j hj;by_cases G:j=b
  .subst G;rcases U.2 with⟨rfl,_⟩|⟨j',cap,b1,b7,_,hh,_⟩
   .cases u
   .rw[b7]at u;simp only[Value.ownBlock,bV]at u;subst u;exact(iW.1 hh).1
  .have y:=hk j G;rw[aBw hj]at y;exact(iW.1 y).1
 refine⟨_,b2,by simp,rfl,⟨?_,?_,?_,?_,?_,?_,?_,λc j hc=>bh j (h.bet c j hc),h.inj,?_,λx O=>(h.lst x (by rw[<-hl.1];exact O)).mono b2,h.bfr,he.trans h.env⟩⟩
 .intro c o ho;rw[hO]at ho;obtain⟨j,h0,B,y,h3⟩:=h.obj c o ho;have:j≠b:=by rintro rfl;rw[b4]at y;cases y
  exact⟨j,h0,by rw[hk j this];exact B.mono b2,y,h3⟩
 .intro H n' e' z;rw[hT]at z;by_cases htt:N=H
  .subst htt;simp only[↓reduceIte,bV,pE]at z;obtain⟨rfl,rfl⟩:=z;refine⟨v',xs,by simp,U,λm x O=>?_,λj hj=>?_⟩
   .by_cases hm:m=n
    .omega
    .simp only[hm,and_false,↓reduceIte]at O;rw[n2]at O;cases O
   .rw[u]at hj;cases hj;exact⟨b4,hF⟩
  .have b3:¬ H=N:=λe=>htt e.symm
   simp only[htt,↓reduceIte]at z;split at z
   .cases z
   .rename_i S;obtain⟨v2,bj,B,y,h3,h4⟩:=h.tok H n' e' z;refine⟨v2,bj,?_,⟨y.1,?_⟩,λm x O=>?_,h4⟩
    .simp only[b3,oG,↓reduceIte];exact B
    .rcases y.2 with h5|⟨j,cap,b1,h5,h6,hh,rest⟩
     .exact .inl h5
     .refine .inr ⟨j,cap,b1,h5,h6,?_,rest⟩
      have:j≠b:=by
       rintro rfl;exact h.sep H k (n',e') (n,e) v2 v j S z ht B hv (by rw[h5];rfl) hb
      rw[hk j this];exact hh
    .simp only[b3,oG,↓reduceIte]at O;exact h3 m x O
 .intro t1 t2 bd bf v1 v2 j S B y e1 e2 o1 o2;rw[hT]at B y;by_cases b5:N=t1
  .subst b5;have Z:¬ N=t2:=S;have b0:¬ t2=N:=λe=>S e.symm
   simp only[↓reduceIte,bV]at B;subst B;simp only[gG,↓reduceIte,bV]at e1;subst e1;simp only[Z,↓reduceIte]at y;simp only[b0,oG,↓reduceIte]at e2;split at y
   .cases y
   .rename_i b9;rw[u]at o1;cases o1;exact h.sep t2 k bf (n,e) v2 v b b9 y ht e2 hv o2 hb
  .have bc:¬ t1=N:=λe=>b5 e.symm
   simp only[b5,↓reduceIte]at B;simp only[bc,oG,↓reduceIte]at e1;split at B
   .cases B
   .rename_i b8;by_cases Z:N=t2
    .subst Z;simp only[↓reduceIte,bV]at y;subst y;simp only[gG,↓reduceIte,bV]at e2;subst e2;rw[u]at o2;cases o2;exact h.sep t1 k bd (n,e) v1 v b b8 B ht e1 hv o1 hb
    .have b0:¬ t2=N:=λe=>Z e.symm
     simp only[Z,↓reduceIte]at y;simp only[b0,oG,↓reduceIte]at e2;split at y
     .cases y
     .exact h.sep t1 t2 bd bf v1 v2 j S B y e1 e2 o1 o2
 .intro j pre hp;by_cases G:j=b
  .subst G;have bb:g.pi j=some pre:=hp;rw[b4]at bb;cases bb;rcases U.2 with⟨rfl,_⟩|⟨j',cap,b1,b7,_,hh,_,_,_,b6⟩
   .cases u
   .rw[b7]at u;simp only[Value.ownBlock,bV]at u;subst u;refine⟨b1.toList.drop (n * C.toCtx.sz e),e,(0,0),?_⟩;rw[hh,<-b6];simp
  .rw[hk j G];exact h.pis j pre hp
 .intro j o ho;have G:j≠b:=by rintro rfl;rw[hF]at ho;cases ho
  rw[hk j G];exact h.frm j o ho
 .intro j cs hc;obtain⟨pre,ty,fr,hp,bg,B,hr⟩:=h.glb j cs hc;exact⟨pre,ty,fr,hp,bg,B,λj c v hc hv=>(hr j c v hc hv).mono b2⟩
 .obtain⟨M,hM⟩:=h.fsh;refine⟨max M (N+1),λH z=>⟨?_,λm=>?_,(hM H aB).2.2⟩⟩
  .rw[hT];have:¬ N=H:=by omega
   simp only[this,↓reduceIte];split
   .rfl
   .exact(hM H aB).1
  .have:¬ (H=N/\m=n):=by omega
   simp only[this,↓reduceIte];exact(hM H aB).2.1 m
 .intro hd c hc;obtain⟨l1,l2⟩:=hl.2 hd;obtain⟨d1,d2⟩:=h.dtm hd c aB;refine⟨d1,λm=>?_⟩;have:¬ (c=N/\m=n):=by omega
  simp only[this,↓reduceIte];exact d2 m
theorem aJa{KV Kp:St->A->Prop}(hR:R C.toCtx F g s w){t:Nat}{e:TypeId}{es:List A}{xs rest:List Value}{cap:Nat}{z:TI}(b2:C.tt e=some z)
  (h:∀y,y∈es->y.cells.length=z.sz)(M:∀y,y∈es->∀c,c∈y.cells->c.one=true)(Z:Rzs g (eC es) xs)
  (B:es.length+1<=cap)(G:cap<=maxLen)(u:(xs++rest).length=cap * z.sz)
  {s':St}(hO:∀q,s'.getO q=s.getO q)(hT:∀q,s'.getT q=if t=q then some (es.length,e) else s.getT q)(hl:tD C s s' t)
  (ht:s.getT t=none)(H:∀m,g.eta t m=none)
  (hK:KV s' (.pen t es z.sz)) :
  OutV C F g KV Kp (.ok (.value (.slice (some ⟨w.heap.size,0,none⟩) (es.length+1) cap)) (w.drew.alloc (.cells (xs++rest).toArray e))):=by
 have S:C.toCtx.sz e=z.sz:=xQ b2;have b0:=aAm h;have U:xs.length=es.length * z.sz:=by rw[Z.1,b0]
 have O:(w.drew.alloc (.cells (xs++rest).toArray e)).ownsRow 0 e (C.toCtx.sz e) (.slice (some ⟨w.heap.size,0,none⟩) es.length cap) es.length xs:=by
  rw[S];refine⟨U,.inr ⟨w.heap.size,cap,_,rfl,aW _,yM w.drew _,by omega,G,gQ u,?_⟩⟩;rw[<-U];simp
 obtain⟨h1,h2⟩:=hR.tokStep (t:=t) (n:=es.length) (b:=w.heap.size) (w':=w.drew.alloc (.cells (xs++rest).toArray e)) (λk hk _=>wI w.drew _ hk) O rfl
  (λm x hx=>by rw[H]at hx;cases hx) hO hT hl (.inl ⟨rfl,.inl ht⟩)
 refine⟨_,_,_,h2,h1,.pen t es z.sz _ cap ?_ B h,hK⟩;refine yR (off:=0) (vs:=xs) (pre:=xs) (aAu _ _ _ _ _ _) bA ?_ h M aB G (aW _) (λt' b1=>by cases b1;exact yQ _ _ _ _ _ _);rw[lZ aB];exact Z.mono h2
theorem aUV{KV Kp:St->A->Prop}{ty:TypeId}{x y:Operand}{t u:TypeId}{z0 a:A}{ti:TI}{dst:Option Tmp}{pos:String}{after:Array Edge}{gd:Option (Nat × Bool)}
  (hR:R C.toCtx F g s w)(he:∀x a,ρ x=some a->Rz g a (ev x))(hx:ρ x=some a)(hy:ρ y=some (.hl z0))(cz:C.tt t=some ti)(h:aAd C s ti t u z0 KV a) :
  OutV C F g KV Kp ((execOp ev ⟨dst,.call ⟨.builtin .append,#[x,y],#[t,u]⟩,ty,pos,after,gd⟩).run C.P w):=by
 have H:(execOp ev ⟨dst,.call ⟨.builtin .append,#[x,y],#[t,u]⟩,ty,pos,after,gd⟩).run C.P w =
   ((Builtin.append_ #[t,u] ty #[ev x,ev y]).run C.P w).andThen λv w'=>.ok (.value v) w':=by
  simp only[execOp,resolve,invoke,builtin,bN,cG,bM,lA,bX,dL]
 unfold aAd at h;split at h;rotate_left
 .exact h.elim
 rename_i e hk;split at h;rotate_left
 .exact h.elim
 rename_i M bf;obtain⟨⟨rfl,fl,c2,ch⟩,h⟩:=h;obtain⟨d,hd,bz⟩:=iL cz;rw[hk]at bz;simp only[TK.ok]at bz;subst bz;obtain⟨i,z,hi,b0,c4,c5,f5⟩:=(C.htt e M bf).info;have bn:C.toCtx.sz e=M.sz:=xQ bf;obtain⟨ad,b7,bg,cg⟩:=(he y _ hy).hl_inv;have f3:=cg.to_flat;obtain⟨fc,cl,bh,_,cm,_,f4⟩:=cg.list_inv;rw[bg]at bh;simp only[aV,aZ,iQ,qJ,gG]at bh;obtain⟨rfl,rfl⟩:=bh;obtain⟨b2,G,f8,Z,cf,c7,cp,ct,cr,fk⟩:=f4.resolve_left bA;simp only[bV]at cf;subst cf;have cb:f8=M.sz:=by rw[<-ct z0 bA,ch]
 subst cb;simp only[aV,aZ,iQ]at cp cm;obtain⟨f7,e2,fd,cn⟩:=hR.pis b2 Z c7;have hnl:((Z.drop G).take (1 * M.sz)).length=1 * M.sz:=by rw[dT,dS];omega
 have b1:∀j v,((Z.drop G).take (1 * M.sz))[j]?=some v->w.cell? ((⟨b2,G,none⟩:Addr).add j)=some v:=by
  intro j v hj;rw[mS]at hj;split at hj
  .rw[mR]at hj;rw[kQ];simp only[World.cell?,cn,kZ,dA,↓reduceIte,mP];rw[kE (dZ.1 hj).1];exact hj
  .simp at hj
 have br:Rzs g (eC [z0]) ((Z.drop G).take (1 * M.sz)):=by
  obtain⟨a',c1,e1,_,_,e2⟩:=f3;rw[bg]at e1;rcases e2 with e2|⟨b',cj,c0,ck,e3,e4,e5,e6,e7,e8⟩
  .cases e2
  .subst e3;simp only[aV,aZ,iQ,qJ,bV,tK,oI,gG]at e1;obtain⟨⟨rfl,rfl⟩,rfl⟩:=e1;rw[c7]at e4;cases e4;have:c0=M.sz:=by rw[<-e6 z0 bA,ch]
   rw[this]at e8;exact e8
 generalize fj:(Z.drop G).take (1 * M.sz)=news at *
 have bt:∀c,c∈eC [z0]->c.one=true:=by
  intro c hc;simp only[eC,mC]at hc;obtain⟨q,hq,hc⟩:=hc;exact cr q hq c hc
 have cq:∀v,v∈news->v.oneCell'=true:=br.one bt
 have f6:z.cells.size=M.sz:=by
  have h1:=(f5 g).1;rw[(C.htt e M bf).len]at h1;simpa using h1
 have b8:∀(n cap:Nat),n<=cap->(Builtin.zeroCells z.cells (cap-n)).toList.length+n * M.sz=cap * M.sz:=by
  intro n cap h;simp only[qH,aC0,f6,<-gO];congr 1;omega
 have S:(Builtin.append_ #[u,u] ty #[.slice none 0 0,ev y]).run C.P w=.ok (.slice (some ⟨w.heap.size,0,none⟩) 1 (grownCap w 1 0 e)) (w.drew.alloc (.cells (news.toArray++Builtin.zeroCells z.cells (grownCap w 1 0 e-1)) e)):=by
  rw[bg]
  exact run_append_nil (P:=C.P) w u ty e i z hd hi c5 ⟨b2,G,none⟩ 1 b7 news (by rw[hnl,b0]) b1 aB aB
    (by have:1 * i.bytes<=1 * 32768:=Nat.mul_le_mul (bJ _) (by rw[c4];exact c2);omega)
 have b9:=qM w 1 0 e aB
 have U:∀{s1:St},R C.toCtx F g s1 w->vZ C s1 0 e [] M.sz KV->OutV C F g KV Kp (.ok (.value (.slice (some ⟨w.heap.size,0,none⟩) 1 (grownCap w 1 0 e))) (w.drew.alloc (.cells (news.toArray++Builtin.zeroCells z.cells (grownCap w 1 0 e-1)) e))):=by
  intro s1 b6 h1;obtain⟨N,s',m1,m2,m3,m4,m5,m6⟩:=aKB b6 h1;rw[aEa]
  exact aJa (KV:=KV) (Kp:=Kp) b6 (t:=N) bf (es:=[]) (xs:=[]) (rest:=news++(Builtin.zeroCells z.cells (grownCap w 1 0 e-1)).toList) (λy hy=>by cases hy) (λy hy=>by cases hy) (.nil g) (gQ b9.1) b9.2
   (by rw[dD,aH,hnl];have:=b8 _ _ b9.1;omega) m3 m4 m5 m2 m1 m6
 split at h
 .have cd:=(he x _ hx).nils_inv;rw[H,cd,S];exact U hR h
 .rename_i tk es;cases tk with
  | none=>exact h.elim
  | some k =>
  simp only at h;obtain⟨⟨h1,h2,h3⟩,h⟩:=h;obtain⟨ax,f9,cd,fg,ff,f0,f2⟩:=(he x _ hx).list_inv;obtain⟨v,xs,e1,m,fb,bl⟩:=hR.tok k es.length e h1;have f1:v=ev x:=by have:=f0 k rfl;rw[e1]at this;exact tH this
  subst f1;rw[bn]at m
  have b6:R C.toCtx F g (s.delT k) w:=hR.weaken ⟨λb o ho=>ho,λq n hn=>by
   rw[tL]at hn;split at hn
   .cases hn
   .exact hn,λ_ h=>h⟩ (λ_=>bJ _)
  have bb:∀y,y∈es->∀c,c∈y.cells->c.one=true:=by
   intro q hq c hc;rcases f2 with rfl|⟨b,off,sz,pre,_,_,_,_,ho,_⟩
   .cases hq
   .exact ho q hq c hc
  have bk:(es.length+1) * i.bytes<=140737488355328:=by
   have:(es.length+1) * i.bytes<=4294967296 * 32768:=Nat.mul_le_mul h3 (by rw[c4];exact c2);omega
  have bp:Rzs g (eC es) xs:=by
   obtain⟨a',c1,q1,_,_,q2⟩:=(he x _ hx).to_flat;rcases q2 with rfl|⟨b',cj,c0,ck,q3,q4,q5,q6,q7,q8⟩
   .have:xs=[]:=eS (gQ m.1);rw[this];exact .nil g
   .by_cases b5:es=[]
    .subst b5;have:xs=[]:=eS (gQ m.1);rw[this];exact .nil g
    .have c6:0<es.length:=by cases es with|nil=>exact cV rfl b5|cons=>simp
     have c9:c0=M.sz:=by rw[<-q6 _ (kF c6),h2 _ (kF c6)]
     subst q3;rcases m.2 with⟨hn,h0⟩|⟨g0,B,O,b4,_⟩
     .omega
     .have bj:=bl g0 (by rw[b4];rfl);rw[b4]at q1;simp only[qJ,bV,tK,oI,gG]at q1;obtain⟨⟨rfl,rfl⟩,rfl⟩:=q1;rw[bj.1]at q4;cases q4;rw[c9,aAh,lZ (by rw[m.1];exact bJ _)]at q8;exact q8
  rcases m.2 with⟨hn,h0⟩|⟨g0,B,O,b4,_,bw,fh,c3,hcs,bd⟩
  .have b5:es=[]:=eS h0;subst b5;rw[H,hn,S];exact U b6 h
  .obtain⟨N,s',m1,m2,m3,m4,m5,m6⟩:=aKB b6 h;by_cases b3:es.length+1<=B
   .have bm:es.length * i.size+news.length<=O.size:=by
     rw[hnl,b0,hcs,<-gO];exact rH _ b3
    have bc:=run_append_room (P:=C.P) w u ty e i hd hi g0 es.length B O bw ⟨b2,G,none⟩ 1 b7 news (by rw[hnl,b0]) b1 cq b3 bm;rw[H,b4,bg,bc]
    have c8:(w.setRow g0 (O.toList.take (es.length * i.size)++news++O.toList.drop (es.length * i.size+news.length)).toArray).ownsRow 0 e (C.toCtx.sz e) (.slice (some ⟨g0,0,none⟩) es.length B) es.length xs:=by
     rw[bn,b0];refine⟨m.1,.inr ⟨g0,B,_,rfl,aW _,aAi bw _,by omega,c3,?_,?_⟩⟩
     .rw[b0]at bm;simp only[List.size_toArray,aH,dT,dS,qH];omega
     .rw[bd,eG];rw[<-m.1];exact List.take_left
    have bj:=bl g0 (by rw[b4];rfl);obtain⟨g',r1,r2,r3,r4⟩:=hR.tokMove (k:=k) (N:=N) m1 (λj hj=>aAt hj _) h1 e1 (by rw[b4];rfl) bj.1 c8 rfl (s':=s') (λq=>m3 q) (λq=>by rw[m4,tL]) m5;refine⟨g',.pen N es M.sz,s',r1,r4,.pen N es M.sz g0 B ?_ b3 h2,m6⟩;refine yR (off:=0) (sz:=M.sz) (vs:=xs) (pre:=xs) (by rw[r3];exact bj.1) bA ?_ h2 bb aB c3 (aW _) (λt' cw=>by cases cw;exact r2);rw[lZ (by rw[m.1];exact bJ _)];exact bp.mono r1
   .have bq:∀j u,xs[j]?=some u->w.cell? ((⟨g0,0,none⟩:Addr).add j)=some u:=by
     intro j u hj;rw[kQ];simp only[World.cell?,bw,kZ,dA,↓reduceIte,iQ];rw[<-bd,mS]at hj;split at hj
     .simpa using hj
     .simp at hj
    have bc:=run_append_grow (P:=C.P) w u ty e i z hd hi c5 ⟨g0,0,none⟩ es.length B xs (by rw[m.1,b0]) bq ⟨b2,G,none⟩ 1 b7 news (by rw[hnl,b0]) b1 aB aB (growslice_fits aB bk);have bv:=qM w (es.length+1) B e aB;rw[H,b4,bg,bc,aB6,eG]
    exact aJa (KV:=KV) (Kp:=Kp) b6 (t:=N) bf (es:=es) (xs:=xs) (rest:=news++(Builtin.zeroCells z.cells (grownCap w (es.length+1) B e-(es.length+1))).toList) h2 bb bp bv.1 bv.2
     (by rw[aH,aH,hnl,m.1];have:=b8 _ _ bv.1;rw[gO]at this;omega) m3 m4 m5 m2 m1 m6
 .exact h.elim
theorem aLG(hR:R C.toCtx F g s w){a:A}{v:Value}(h:Rz g a v):Rz g (jM s a) v:=by
 cases a<;>try exact h
 rename_i t es sz;simp only[jM];cases hq:s.ls with
 | none=>exact h
 | some q =>
  simp only[aCH];split
  .rename_i G;obtain⟨h1,h2,h3⟩:=G;obtain⟨b,cap,rfl,hl,b2,hs⟩:=h.pen_inv;obtain⟨b',b1,pre,k1,H,k3,k4,k5,k6,k7,k8⟩:=hR.lst q hq;rw[h1,h2]at k1 H
   have U:g.eta t es.length=some (.slice (some ⟨b,0,none⟩) es.length cap):=by
    obtain⟨_,_,_,_,_,h5,_⟩:=hl.list_inv;exact h5 _ rfl
   rw[U]at H;simp only[bV,qJ,tK,oI,gG]at H;obtain⟨rfl,rfl⟩:=H;rw[h2]at k6 k8;rw[h3]at k6 k8;have z:(es++[q.2.2]).length=es.length+1:=by simp
   rw[<-z];refine .list (some t) (es++[q.2.2]) b 0 sz cap pre k5 (by rw[z];omega) (by rw[z];omega) k4 (λy m=>?_) (λy m c G=>?_) (λj y i c u m G Z=>?_) (λt' S=>by cases S;rw[z];exact k1)
   .rcases cK.1 m with m|m
    .exact hs y m
    .simp only[bO]at m;subst m;exact h3
   .rcases cK.1 m with m|m
    .obtain⟨_,_,_,_,_,_,O⟩:=hl.list_inv;rcases O with rfl|⟨_,_,_,_,_,_,_,_,ho,_⟩
     .cases m
     .exact ho y m c G
    .simp only[bO]at m;subst m;exact k7 c G
   .rw[iQ]at Z;by_cases hj:j<es.length
    .rw[kE hj]at m;obtain⟨_,_,q1,_,_,_,O⟩:=hl.list_inv;rcases O with rfl|⟨b3,b4,b0,b5,rfl,p1,p2,p3,p4,p5⟩
     .simp at hj
     .simp only[qJ,bV,tK,oI,gG]at q1;obtain⟨⟨rfl,rfl⟩,rfl⟩:=q1;rw[k5]at p1;cases p1;have B:=bK m;have:b0=sz:=by rw[<-p3 y B,hs y B]
      subst this;exact p5 j y i c u m G (by rw[iQ];exact Z)
    .rw[sC aB]at m
     have M:j-es.length=0:=by
      rcases Nat.eq_zero_or_pos (j-es.length)with h|h
      .exact h
      .rw[uU (by simp;omega)]at m;cases m
     rw[M]at m;simp only[mO,bV]at m;subst m;have:j=es.length:=by omega
     subst this;exact k8 i c u G Z
  .exact h
theorem aU9{KV Kp:St->A->Prop}{t ty:TypeId}{x y:Operand}{k n z:Nat}{v:A}{ti:TI}{dst:Option Tmp}{pos:String}{after:Array Edge}{gd:Option (Nat × Bool)}
  (hR:R C.toCtx F g s w)(he:∀x a,ρ x=some a->Rz g a (ev x))(hx:ρ x=some (.rm k n z))(hy:ρ y=some v)(bj:C.tt t=some ti)(h:uS C s k n z ti v KV) :
  OutV C F g KV Kp ((execOp ev ⟨dst,.store t x y,ty,pos,after,gd⟩).run C.P w):=by
 unfold uS at h;split at h;rotate_left
 .exact h.elim
 rename_i m e ht;split at h;rotate_left
 .exact h.elim
 rename_i M bh;obtain⟨⟨rfl,rfl,h2,h3,h4⟩,hK⟩:=h;obtain⟨b,cap,hp,H,O⟩:=(he x _ hx).rm_inv;obtain⟨v0,xs,S,B,b5,b2⟩:=hR.tok k m e ht;rw[H]at S;cases S;have Z:C.toCtx.sz e=M.sz:=xQ bh;rw[Z]at B;rcases B.2 with⟨hn,_⟩|⟨g0,bk,G,b8,_,b4,bl,b3,hcs,b0⟩
 .cases hn
 simp only[qJ,bV,tK,oI,gG]at b8;obtain⟨rfl,rfl⟩:=b8;have b9:=b2 b rfl;have hv:=he y _ hy;have b1:=hv.cells;have S:(ev y).cells.toList.length=M.sz:=by rw[b1.1,h3]
 have U:∀c,c∈v.cells->c.one=true:=by simpa [iF]using h4
 have bf:m * M.sz+M.sz<=cap * M.sz:=by
  have:(m+1) * M.sz<=cap * M.sz:=rH _ O
  rwa[gO,Nat.one_mul]at this
 have bg:=run_storeCells_at C.P b (m * M.sz) e (ev y).cells.toList 0 G w b4 (by rw[S,hcs];omega) (b1.one U)
 have b7:(Instr.storeAt t (ev x) (ev y)).run C.P w=.ok () (w.setRow b (G.toList.take (m * M.sz)++(ev y).cells.toList++G.toList.drop (m * M.sz+(ev y).cells.toList.length)).toArray):=by
  simp only[Instr.storeAt,Instr.sureAddr,hp,storeVar,bN,cG,bM,lF bj];rw[aD (by simp only[qH]at S;rw[S,h2];simp)];simpa using bg
 simp only[execOp];rw[aGD,b7]
 have b6:(w.setRow b (G.toList.take (m * M.sz)++(ev y).cells.toList++G.toList.drop (m * M.sz+(ev y).cells.toList.length)).toArray).ownsRow 0 e (C.toCtx.sz e) (.slice (some ⟨b,0,none⟩) (m+1) cap) (m+1) (xs++(ev y).cells.toList):=by
  rw[Z];refine⟨by rw[aH,B.1,S,gO,Nat.one_mul],.inr ⟨b,cap,_,rfl,aW _,aAi b4 _,O,b3,?_,?_⟩⟩
  .simp only[List.size_toArray,aH,dT,dS,qH]at *;omega
  .rw[b0];have:(m+1) * M.sz=(xs++(ev y).cells.toList).length:=by rw[aH,B.1,S,gO,Nat.one_mul]
   rw[this];simp only[eG];rw[<-eG];exact List.take_left
 have bb:tD C s (s.setT k (m+1,e)) k:=⟨rfl,λhd=>⟨bJ _,Nat.lt_of_not_le λbc=>by
  have:=(hR.dtm hd k bc).2 m;rw[this]at H;cases H⟩⟩
 obtain⟨r1,r2⟩:=hR.tokStep (t:=k) (b:=b) (λk hk bd=>aAt bd _) b6 rfl (λj x hx=>by have:=b5 j x hx;omega) (s':=s.setT k (m+1,e)) (λq=>rfl) (λq=>dC _ _ _ q) bb
  (.inr ⟨m,_,xs,(ev y).cells.toList,ht,H,rfl,b9.1,rfl⟩)
 refine⟨_,_,r2,r1.setL (λx hx=>?_),hK⟩;cases hx;refine⟨b,cap,_,yQ _ _ _ _ _ _,?_,O,b3,aAu _ _ _ _ _ _,?_,U,λj c u hc hu=>?_⟩
 .simp only[Gh.tok];rw[aD aB];exact H
 .simp only[h3,aH,B.1,S,gO,Nat.one_mul];exact bJ _
 .dsimp only at hc hu;rw[sC (by rw[B.1,h3];omega),B.1,h3,Nat.add_sub_cancel_left]at hu;exact(b1.2 j c u hc hu).mono r2
theorem aT2{KV Kp:St->A->Prop}{t ty:TypeId}{x y:Operand}{dst:Option Tmp}{pos:String}{after:Array Edge}{gd:Option (Nat × Bool)}
  (Z:R C.toCtx F g s w)(he:∀x a,ρ x=some a->Rz g a (ev x))(h:bF C (.store t x y) ρ KV Kp s) :
  OutV C F g KV Kp ((execOp ev ⟨dst,.store t x y,ty,pos,after,gd⟩).run C.P w):=by
 simp only[bF]at h;split at h
 .rename_i b o v0 ti hx hy M;generalize b0:jM s v0=v at h;split at h
  .rename_i e cs hb;obtain⟨⟨h1,h2,h3⟩,hK⟩:=h;obtain⟨k,vs,rest,S,hh,H,G⟩:=Z.cellsOf hb;obtain⟨k',hp,B⟩:=(he x _ hx).ptr_inv;rw[S]at B;cases B;have hv:Rz g v (ev y):=by rw[<-b0];exact aLG Z (he y _ hy)
   have O:=hv.cells;have e1:(ev y).cells.toList.length=v.cells.length:=O.1;have e2:vs.length=cs.length:=H.1;have u:∀c,c∈v.cells->c.one=true:=by simpa [iF]using h3
   have b1:=run_storeCells_at C.P k o e (ev y).cells.toList 0 (vs++rest).toArray w hh (by simp;simp only[qH]at e1;omega) (O.one u)
   have U:(Instr.storeAt t (ev x) (ev y)).run C.P w=.ok () (w.setRow k ((vs++rest).take o++(ev y).cells.toList++(vs++rest).drop (o+(ev y).cells.toList.length)).toArray):=by
    simp only[Instr.storeAt,Instr.sureAddr,hp,storeVar,bN,cG,bM,lF M];rw[aD (by simp only[qH]at e1;omega)];simpa using b1
   simp only[execOp];rw[aGD,U];refine⟨g,_,fJ g,Z.setObj hb S (λk hk=>aAt hk _) ?_,hK⟩;rw[aAi hh];refine⟨vs.take o++(ev y).cells.toList++vs.drop (o+(ev y).cells.toList.length),rest,?_,?_,?_⟩
   .rw[List.take_append_of_le_length aB,List.drop_append_of_le_length aB];simp only[eG]
   .rw[aBH _ _ _ h2,e1];exact((H.take o).append O).append (H.drop _)
   .intro c m;rw[aBH _ _ _ h2]at m;simp only[cK]at m;rcases m with(m|m)|m
    .exact G c (qG m)
    .exact u c m
    .exact G c (uW m)
  .exact h.elim
 .rename_i k n z v ti hx hy M;exact aU9 Z he hx hy M h
 .exact h.elim
theorem aQk{KV Kp:St->A->Prop}{t ty:TypeId}{n:Nat}{y:Array (Nat × Operand)}{dst:Option Tmp}{pos:String}{after:Array Edge}{gd:Option (Nat × Bool)}
  (hR:R C.toCtx F g s w)(he:∀x a,ρ x=some a->Rz g a (ev x))(hd:C.det=false)(h:cJ C (.buildSlice t n y) ρ (aBb C s t KV)) :
  OutV C F g KV Kp ((execOp ev ⟨dst,.buildSlice t n y,ty,pos,after,gd⟩).run C.P w):=by
 obtain⟨ti,te,e,es,out,a,b4,hk,b3,H,⟨b5,b6⟩,Z,S,ha,M⟩:=aNT (dst:=dst) (ty:=ty) (pos:=pos) (after:=after) (gd:=gd) hR he h;rw[Z];unfold aBb at M;split at M;rotate_left
 .exact M.elim
 rename_i tk u b7 B;obtain rfl:=ha tk u rfl;rw[b4]at B;cases B;rw[hk]at M;simp only at M;obtain⟨N,hN⟩:=hR.fsh;obtain⟨n1,n2,_⟩:=hN N (bJ _);have b0:C.toCtx.sz e=te.sz:=xQ b3;have b1:=aAm (λx G=>(H x G).1);have z:out.toList.length=u.length * te.sz:=by rw[S.1,b1]
 have O:u.length<=maxLen:=by unfold maxLen;omega
 have U:(w.alloc (.cells out e)).ownsRow 0 e (C.toCtx.sz e) (.slice (some ⟨w.heap.size,0,none⟩) u.length u.length) u.length out.toList:=by
  rw[b0];refine⟨z,.inr ⟨w.heap.size,u.length,out,rfl,aW _,yM w _,bJ _,O,gQ z,?_⟩⟩;rw[lZ (by rw[z];exact bJ _)]
 obtain⟨h1,h2⟩:=hR.tokStep (t:=N) (n:=u.length) (b:=w.heap.size) (w':=w.alloc (.cells out e)) (λk hk _=>wI w _ hk) U rfl (λm x G=>by rw[n2]at G;cases G)
  (s':=s.setT N (u.length,e)) (λq=>rfl) (λq=>dC _ _ _ q) ⟨rfl,λh=>by rw[hd]at h;cases h⟩ (.inl ⟨rfl,.inl n1⟩)
 refine⟨_,_,_,h2,h1,?_,M N n1⟩;refine yR (off:=0) (vs:=out.toList) (pre:=out.toList) (sz:=te.sz) (aAu _ _ _ _ _ _) bA ?_ (λx G=>(H x G).1) (λx G=>(H x G).2) (bJ _) O (aW _) (λt' b2=>by cases b2;exact yQ _ _ _ _ _ _);rw[lZ (by rw[z];exact bJ _)];exact S.mono h2
theorem aF3{n:Nat}{e:TypeId}{sz:Nat}{ys:List A}{KV:St->A->Prop}(h:qA C s n e sz ys KV):newT C s n e ys KV\/(C.det=false/\Nat.beq C.mu 1=true/\0<n/\aEy s n e sz (eC ys) KV):=by
 unfold qA at h;split at h
 .exact .inl h
 .rename_i m;split at h
  .exact .inl h
  .rename_i u;exact .inr ⟨m,u,h.1,h.2⟩
theorem aS5{KV Kp:St->A->Prop}{ty:TypeId}{x y:Operand}{t u:TypeId}{dst:Option Tmp}{pos:String}{after:Array Edge}{gd:Option (Nat × Bool)}
  (hR:R C.toCtx F g s w)(he:∀x a,ρ x=some a->Rz g a (ev x))(h:bF C (.call ⟨.builtin .append,#[x,y],#[t,u]⟩) ρ KV Kp s) :
  OutV C F g KV Kp ((execOp ev ⟨dst,.call ⟨.builtin .append,#[x,y],#[t,u]⟩,ty,pos,after,gd⟩).run C.P w):=by
 simp only[bF]at h;split at h;rotate_left
 .rename_i a bs ti hx hy bj;split at h
  .rename_i e hE;exact aUP hR he hx hy bj hE h
  .exact h.elim
 .rename_i a n ti hx hy bj;exact aUS hR he hx hy bj h
 .rename_i a ti hx hy bj;exact aMo hR he hx (he y _ hy).nils_inv bj h
 .rename_i a ti hx hy bj;obtain⟨ad,hv⟩:=(he y _ hy).emp_inv;exact aMo hR he hx hv bj h
 .rename_i a z0 ti hx hy bj;exact aUV hR he hx hy bj h
 .exact h.elim
 rename_i a hg ys ti hx hy bj;split at h;rotate_left
 .exact h.elim
 rename_i e hk;split at h;rotate_left
 .exact h.elim
 rename_i S bf;obtain⟨⟨rfl,h9,bz⟩,bt,h⟩:=h;unfold rD at h;obtain⟨d,hd,f1⟩:=iL bj;rw[hk]at f1;simp only[TK.ok]at f1;subst f1;obtain⟨i,z,hi,b7,c0,br,cl⟩:=(C.htt e S bf).info
 have H:(execOp ev ⟨dst,.call ⟨.builtin .append,#[x,y],#[u,u]⟩,ty,pos,after,gd⟩).run C.P w =
   ((Builtin.append_ #[u,u] ty #[ev x,ev y]).run C.P w).andThen λv w'=>.ok (.value v) w':=by
  simp only[execOp,resolve,invoke,builtin,bN,cG,bM,lA,bX,dL]
 have cq:C.toCtx.sz e=S.sz:=xQ bf;have f5:∀c,c∈S.zero->c.one=true:=(C.htt e S bf).one
 obtain⟨ad,b0,b9,_,gq,_,gb⟩:=(he y _ hy).list_inv;have g9:=(he y _ hy).to_flat;by_cases cf:ys=[]
 .subst cf;simp only[aZ]at b9;split at h
  .obtain⟨_,h⟩:=h
   have h:newT C s 0 e [] KV:=by
    rcases aF3 h with h|⟨_,_,h,_⟩
    .exact h
    .exact cV h bA
   have Z:=(he x _ hx).nils_inv;have B:=aCY C.P w u u ty e i hd hd hi none ad 0 0 b0 (bJ _);rw[H,Z,b9,B];obtain⟨N,s',m1,m2,m3,m4,m5,m6⟩:=aBN hR h;obtain⟨g',h2,h3,h4⟩:=hR.tokNil e m1 m3 m4 m5;exact⟨g',_,_,h2,h4,.list0 (some N) none 0 (aW _) (λt' f3=>by cases f3;exact h3),m6⟩
  .obtain⟨ax,Z⟩:=(he x _ hx).emp_inv;have B:=aCY C.P w u u ty e i hd hd hi (some ax) ad 0 0 b0 (bJ _);rw[H,Z,b9,B];exact⟨g,.emp,s,fJ g,hR,.emp ax,h⟩
  .unfold vU at h;split at h
   .obtain⟨⟨_,_,_,_,_,h⟩,_⟩:=h;exact cV h bA
   .exact h.elim
  rotate_left
  .exact cV h.1.1 bA
  rotate_left
  .rename_i t es;obtain⟨h1,h2,h3,hK⟩:=h;obtain⟨ax,cap,Z,_,hc,_⟩:=(he x _ hx).list_inv;have B:=aCY C.P w u u ty e i hd hd hi ax ad es.length cap b0 hc;rw[H,Z,b9,B];have fl:=he x _ hx;rw[Z]at fl;refine⟨g,.list (some t) es,_,fJ g,hR.weaken (s':=s.setT t (es.length,e)) ⟨λb o ho=>ho,λk n hn=>?_,λ_ h=>h⟩ (λ_=>bJ _),fl,gQ hK⟩;rw[dC]at hn;by_cases ck:t=k
   .subst ck;simp only[↓reduceIte]at hn;rw[h1];exact hn
   .simpa only[ck,↓reduceIte]using hn
  .exact h.elim
 .obtain⟨b2,O,gj,bw,rfl,ff,gz,g7,c2,h8⟩:=gb.resolve_left cf;have bm:0<ys.length:=by cases ys with|nil=>exact cV rfl cf|cons=>simp
  have fk:gj=S.sz:=by
   have hm:=kF bm;rw[<-g7 _ hm,bt _ hm]
  subst fk;obtain⟨gg,e2,gp,fw⟩:=hR.pis b2 bw ff;have hnl:((bw.drop O).take (ys.length * S.sz)).length=ys.length * S.sz:=by rw[dT,dS];omega
  have U:∀j v,((bw.drop O).take (ys.length * S.sz))[j]?=some v->w.cell? ((⟨b2,O,none⟩:Addr).add j)=some v:=by
   intro j v hj;rw[mS]at hj;split at hj
   .rw[mR]at hj;rw[kQ];simp only[World.cell?,fw,kZ,dA,↓reduceIte,mP];rw[kE (dZ.1 hj).1];exact hj
   .simp at hj
  have M:Rzs g (eC ys) ((bw.drop O).take (ys.length * S.sz)):=by
   obtain⟨a',cm,e1,_,_,e2⟩:=g9;rw[b9]at e1;rcases e2 with e2|⟨b',cr,cg,ct,e3,e4,e5,e6,e7,e8⟩
   .exact cV e2 cf
   .subst e3;simp only[qJ,bV,tK,oI,gG]at e1;obtain⟨⟨rfl,rfl⟩,rfl⟩:=e1;rw[ff]at e4;cases e4;have:cg=S.sz:=by rw[<-e6 _ (kF bm),bt _ (kF bm)]
    rw[this]at e8;exact e8
  generalize h5:(bw.drop O).take (ys.length * S.sz)=news at *
  have bh:∀c,c∈eC ys->c.one=true:=by
   intro c hc;simp only[eC,mC]at hc;obtain⟨q,hq,hc⟩:=hc;exact c2 q hq c hc
  have fb:∀v,v∈news->v.oneCell'=true:=M.one bh
  have gc:z.cells.size=S.sz:=by
   have h1:=(cl g).1;rw[(C.htt e S bf).len]at h1;simpa using h1
  have bc:∀(n cap:Nat),n<=cap->(Builtin.zeroCells z.cells (cap-n)).toList.length+n * S.sz=cap * S.sz:=by
   intro n cap h;simp only[qH,aC0,gc,<-gO];congr 1;omega
  split at h
  ·
   obtain⟨bl,h⟩:=h;have Z:=(he x _ hx).nils_inv
   have B:=run_append_nil (P:=C.P) w u ty e i z hd hi br ⟨b2,O,none⟩ ys.length b0 news (by rw[hnl,b7]) U bm aB
    (by have:ys.length * i.bytes<=4294967296 * 32768:=Nat.mul_le_mul bl (by rw[c0];exact bz);omega)
   have G:=qM w ys.length 0 e aB;rw[H,Z,b9,B,aEa];rcases aF3 h with h|⟨bn,_,_,h⟩
   rotate_left
   .obtain⟨J,j1,j2,j3⟩:=aHx cl f5 (grownCap w ys.length 0 e-ys.length);exact aFL hR bn M (j3 g) bh j2 G.1 G.2 (λb hb=>h b _ J hb G.1 (by rw[j1,(C.htt e S bf).len]) j2)
   obtain⟨N,s',n2,n1,m3,m4,m5,m6⟩:=aBN hR h
   have:=vE (KV:=KV) (Kp:=Kp) hR (t:=N) bf (rest:=(Builtin.zeroCells z.cells (grownCap w ys.length 0 e-ys.length)).toList) bt c2 M G.1 G.2
    (by rw[aH,hnl];have:=bc _ _ G.1;omega) m3 m4 m5 (.inl n1) (λm x hx=>by rw[n2]at hx;cases hx) m6
   exact this
  ·
   have h:(ys.length<=4294967296/\0<ys.length)/\qA C s ys.length e S.sz ys KV:=by
    cases ys with
    | nil=>exact cV rfl cf
    | cons y r=>exact h
   obtain⟨⟨bl,_⟩,h⟩:=h;obtain⟨ae,Z⟩:=(he x _ hx).emp_inv
   have B:=run_append_grow (P:=C.P) w u ty e i z hd hi br ae 0 0 [] bA (λj u hj=>by simp at hj) ⟨b2,O,none⟩ ys.length b0 news (by rw[hnl,b7]) U aB aB (growslice_fits aB (by
    have:(0+ys.length) * i.bytes<=4294967296 * 32768:=Nat.mul_le_mul aB (by rw[c0];exact bz);omega))
   have G:=qM w ys.length 0 e aB;rw[H,Z,b9,B];simp only[iQ,dD];rw[show((#[]:Array Value)++news.toArray++Builtin.zeroCells z.cells (grownCap w ys.length 0 e-ys.length))=(news++(Builtin.zeroCells z.cells (grownCap w ys.length 0 e-ys.length)).toList).toArray by apply Array.ext';simp];rcases aF3 h with h|⟨bn,_,_,h⟩
   rotate_left
   .obtain⟨J,j1,j2,j3⟩:=aHx cl f5 (grownCap w ys.length 0 e-ys.length);exact aFL hR bn M (j3 g) bh j2 G.1 G.2 (λb hb=>h b _ J hb G.1 (by rw[j1,(C.htt e S bf).len]) j2)
   obtain⟨N,s',n2,n1,m3,m4,m5,m6⟩:=aBN hR h
   have:=vE (KV:=KV) (Kp:=Kp) hR (t:=N) bf (rest:=(Builtin.zeroCells z.cells (grownCap w ys.length 0 e-ys.length)).toList) bt c2 M G.1 G.2
    (by rw[aH,hnl];have:=bc _ _ G.1;omega) m3 m4 m5 (.inl n1) (λm x hx=>by rw[n2]at hx;cases hx) m6
   exact this
  ·
   rename_i mb mn bb;unfold vU at h;split at h;rotate_left
   .exact h.elim
   rename_i e' cs f7;obtain⟨⟨bn,rfl,f8,fc,bl,_⟩,h⟩:=h;obtain⟨k,Z,cz,_,ch⟩:=(he x _ hx).mg_inv;obtain⟨k',vs,rest,cn,hh,cj,c8⟩:=hR.cellsOf f7;rw[cz]at cn;cases cn;have hf:vs.length=bb * S.sz:=by rw[cj.1,f8]
   have h6:mn * S.sz<=bb * S.sz:=rH _ fc
   have b4:(mn+ys.length) * i.bytes<=140737488355328:=by
    have:(mn+ys.length) * i.bytes<=4294967296 * 32768:=Nat.mul_le_mul bl (by rw[c0];exact bz);omega
   by_cases b5:mn+ys.length<=bb
   .have gt:mn * S.sz+ys.length * S.sz<=bb * S.sz:=by rw[<-gO];exact rH _ b5
    have c6:mn * i.size+news.length<=(vs++rest).toArray.size:=by
     rw[hnl,b7];simp only[List.size_toArray,aH];omega
    have B:=run_append_room (P:=C.P) w u ty e' i hd hi k mn bb (vs++rest).toArray hh ⟨b2,O,none⟩ ys.length b0 news (by rw[hnl,b7]) U fb b5 c6;rw[H,Z,b9,B];have hK:=h mb bb (cs.drop (mn * S.sz+ys.length * S.sz)) (.inl ⟨rfl,rfl⟩) b5 (by rw[dS,f8,<-gO,<-Nat.sub_mul]) (λc hc=>c8 c (uW hc));refine⟨g,_,_,fJ g,hR.setObj f7 cz (λj hj=>aAt hj _) ?_,.mg mb _ _ k cz b5 ch,hK⟩;rw[aAi hh];refine⟨vs.take (mn * S.sz)++(news++vs.drop (mn * S.sz+ys.length * S.sz)),rest,?_,(cj.take _).append (M.append (cj.drop _)),λc hc=>?_⟩
    .rw[hnl,b7,List.toList_toArray,List.take_append_of_le_length aB,List.drop_append_of_le_length aB];simp only[eG]
    .rcases cK.1 hc with hc|hc
     .exact c8 c (qG hc)
     .rcases cK.1 hc with hc|hc
      .exact bh c hc
      .exact c8 c (uW hc)
   .have bd:∀j u,(vs.take (mn * S.sz))[j]?=some u->w.cell? ((⟨k,0,none⟩:Addr).add j)=some u:=by
     intro j u hj;rw[kQ];simp only[World.cell?,hh,kZ,dA,↓reduceIte,iQ];rw[mS]at hj;split at hj
     .simp only[mP];rw[kE (dZ.1 hj).1];exact hj
     .simp at hj
    have B:=run_append_grow (P:=C.P) w u ty e' i z hd hi br ⟨k,0,none⟩ mn bb (vs.take (mn * S.sz)) (by rw[dT,b7];omega) bd ⟨b2,O,none⟩ ys.length b0 news (by rw[hnl,b7]) U aB aB (growslice_fits aB b4);have G:=qM w (mn+ys.length) bb e' aB;rw[H,Z,b9,B,aB6];obtain⟨J,j1,j2,j3⟩:=aHx cl f5 (grownCap w (mn+ys.length) bb e'-(mn+ys.length));refine aFL hR bn ((cj.take _).append M) (j3 g) (λc hc=>?_) j2 G.1 G.2 (λb hb=>?_)
    .rcases cK.1 hc with hc|hc
     .exact c8 c (qG hc)
     .exact bh c hc
    .have:=h b _ J (.inr hb) G.1 (by rw[j1,(C.htt e' S bf).len]) j2;rw[eG];exact this
  ·
   rename_i t es;obtain⟨h1,h2,h3,hK⟩:=h;obtain⟨ax,f6,Z,fz,ft,ck,f4⟩:=(he x _ hx).list_inv;obtain⟨v,xs,e1,b8,f9,cp⟩:=hR.tok t es.length e h1;have g8:v=ev x:=by have:=ck t rfl;rw[e1]at this;exact tH this
   subst g8;rw[cq]at b8
   have bn:tD C s (s.setT t (es.length+ys.length,e)) t:=⟨rfl,λhd=>⟨bJ _,Nat.lt_of_not_le λfx=>by
    have:=(hR.dtm hd t fx).2 es.length;rw[this]at e1;cases e1⟩⟩
   have c1:∀m x,g.eta t m=some x->m<(es++ys).length:=λm x hx=>by have:=f9 m x hx;simp;omega
   have bp:∀y,y∈es++ys->∀c,c∈y.cells->c.one=true:=by
    intro q hq c hc;rcases cK.1 hq with hq|hq
    .rcases f4 with rfl|⟨b,off,sz,pre,_,_,_,_,ho,_⟩
     .cases hq
     .exact ho q hq c hc
    .exact c2 q hq c hc
   have c5:∀y,y∈es++ys->y.cells.length=S.sz:=by
    intro q hq;rcases cK.1 hq with hq|hq
    .exact h2 q hq
    .exact bt q hq
   have b3:(es++ys).length=es.length+ys.length:=by simp
   have b4:(es.length+ys.length) * i.bytes<=140737488355328:=by
    have:(es.length+ys.length) * i.bytes<=4294967296 * 32768:=Nat.mul_le_mul h3 (by rw[c0];exact bz);omega
   have fp:Rzs g (eC es) xs:=by
    obtain⟨a',cm,q1,_,_,q2⟩:=(he x _ hx).to_flat;rcases q2 with rfl|⟨b',cr,cg,ct,q3,q4,q5,q6,q7,q8⟩
    .have:xs=[]:=eS (gQ b8.1);rw[this];exact .nil g
    .by_cases b6:es=[]
     .subst b6;have:xs=[]:=eS (gQ b8.1);rw[this];exact .nil g
     .have c9:0<es.length:=by cases es with|nil=>exact cV rfl b6|cons=>simp
      have fh:cg=S.sz:=by rw[<-q6 _ (kF c9),h2 _ (kF c9)]
      subst q3;rcases b8.2 with⟨hn,h0⟩|⟨g0,bg,bq,c3,_⟩
      .omega
      .have cw:=cp g0 (by rw[c3];rfl);rw[c3]at q1;simp only[qJ,bV,tK,oI,gG]at q1;obtain⟨⟨rfl,rfl⟩,rfl⟩:=q1;rw[cw.1]at q4;cases q4;rw[fh,aAh,lZ (by rw[b8.1];exact bJ _)]at q8;exact q8
   have c4:Rzs g (eC (es++ys)) (xs++news):=by rw[aFR];exact fp.append M
   rcases b8.2 with⟨hn,h0⟩|⟨g0,bg,bq,c3,_,f0,fc,ch,hcs,cb⟩
   ·
    have b6:es=[]:=eS h0
    have B:=run_append_nil (P:=C.P) w u ty e i z hd hi br ⟨b2,O,none⟩ ys.length b0 news (by rw[hnl,b7]) U bm aB
     (by rw[b6]at b4;simp only[aZ,iQ]at b4;omega)
    have G:=qM w ys.length 0 e aB;rw[H,hn,b9,B,aEa]
    have:=vE (KV:=KV) (Kp:=Kp) hR (t:=t) bf (rest:=(Builtin.zeroCells z.cells (grownCap w ys.length 0 e-ys.length)).toList) bt c2 M G.1 G.2
     (by rw[aH,hnl];have:=bc _ _ G.1;omega) (s':=s.setT t (es.length+ys.length,e)) (λq=>rfl) (λq=>by rw[dC];simp[b6]) bn (.inr ⟨_,h1⟩) (by simpa [b6]using c1) (by simpa [b6]using hK)
    exact this
   .by_cases b5:es.length+ys.length<=bg
    .have c6:es.length * i.size+news.length<=bq.size:=by
      rw[hnl,b7,hcs,<-gO];exact rH _ b5
     have B:=run_append_room (P:=C.P) w u ty e i hd hi g0 es.length bg bq f0 ⟨b2,O,none⟩ ys.length b0 news (by rw[hnl,b7]) U fb b5 c6;rw[H,c3,b9,B]
     have fg:(w.setRow g0 (bq.toList.take (es.length * i.size)++news++bq.toList.drop (es.length * i.size+news.length)).toArray).ownsRow 0 e (C.toCtx.sz e) (.slice (some ⟨g0,0,none⟩) (es.length+ys.length) bg) (es.length+ys.length) (xs++news):=by
      rw[cq,b7];refine⟨by rw[aH,b8.1,hnl,gO],.inr ⟨g0,bg,_,rfl,aW _,aAi f0 _,b5,ch,?_,?_⟩⟩
      .rw[b7]at c6;simp only[List.size_toArray,aH,dT,dS,qH];omega
      .rw[cb];have:(es.length+ys.length) * S.sz=(xs++news).length:=by rw[aH,b8.1,hnl,gO]
       rw[this];simp only[eG];rw[<-eG];exact List.take_left
     have cw:=cp g0 (by rw[c3];rfl);obtain⟨r1,r2⟩:=hR.tokStep (t:=t) (b:=g0) (λk hk g3=>aAt g3 _) fg rfl (gQ c1) (s':=s.setT t (es.length+ys.length,e)) (λq=>rfl) (λq=>dC _ _ _ q) bn (.inr ⟨es.length,ev x,xs,news,h1,e1,by rw[c3];rfl,cw.1,rfl⟩);refine⟨_,.list (some t) (es++ys),_,r2,r1,?_,hK⟩;rw[<-b3];refine yR (off:=0) (sz:=S.sz) (vs:=xs++news) (pre:=xs++news) (by rw[b3];exact aAu _ _ _ _ _ _) bA ?_ c5 bp (by rw[b3];exact b5) ch (aW _) (λt' f3=>by cases f3;rw[b3];exact yQ _ _ _ _ _ _);rw[lZ (by rw[aH,b8.1,hnl,b3,gO];exact bJ _)];rw[b3]at *;exact c4.mono r2
    .have bd:∀j u,xs[j]?=some u->w.cell? ((⟨g0,0,none⟩:Addr).add j)=some u:=by
      intro j u hj;rw[kQ];simp only[World.cell?,f0,kZ,dA,↓reduceIte,iQ];rw[<-cb,mS]at hj;split at hj
      .simpa using hj
      .simp at hj
     have B:=run_append_grow (P:=C.P) w u ty e i z hd hi br ⟨g0,0,none⟩ es.length bg xs (by rw[b8.1,b7]) bd ⟨b2,O,none⟩ ys.length b0 news (by rw[hnl,b7]) U aB aB (growslice_fits aB b4);have G:=qM w (es.length+ys.length) bg e aB;rw[H,c3,b9,B,aB6]
     have:=vE (KV:=KV) (Kp:=Kp) hR (t:=t) bf (es:=es++ys) (rest:=(Builtin.zeroCells z.cells (grownCap w (es.length+ys.length) bg e-(es.length+ys.length))).toList) c5 bp c4 (by rw[b3];exact G.1) G.2
      (by rw[aH,aH,hnl,b8.1];have:=bc _ _ G.1;rw[gO]at this;omega) (s':=s.setT t (es.length+ys.length,e)) (λq=>rfl) (λq=>by rw[dC,b3]) bn (.inr ⟨_,h1⟩) c1 hK
     rw[b3]at this;exact this
  ·
   rename_i es;obtain⟨⟨_,h2,h3⟩,h⟩:=h;obtain⟨ax,Z,fm⟩:=(he x _ hx).full_inv;obtain⟨gk,f6,cd,fz,ft,_,f4⟩:=fm.list_inv;obtain⟨N,s',n2,n1,m3,m4,m5,m6⟩:=aBN hR h;have b3:(es++ys).length=es.length+ys.length:=by simp
   have c5:∀y,y∈es++ys->y.cells.length=S.sz:=by
    intro q hq;rcases cK.1 hq with hq|hq
    .exact h2 q hq
    .exact bt q hq
   by_cases b6:es=[]
   .subst b6;simp only[aZ]at Z;simp only[dD,aZ,iQ]at m6 m4 m5 n1 m3;have G:=qM w ys.length 0 e aB;have bl:ys.length<=4294967296:=gQ h3
    have fin:OutV C F g KV Kp (.ok (.value (.slice (some ⟨w.heap.size,0,none⟩) ys.length (grownCap w ys.length 0 e))) (w.drew.alloc (.cells (news++(Builtin.zeroCells z.cells (grownCap w ys.length 0 e-ys.length)).toList).toArray e))) :=
     vE (KV:=KV) (Kp:=Kp) hR (t:=N) bf (rest:=(Builtin.zeroCells z.cells (grownCap w ys.length 0 e-ys.length)).toList) bt c2 M G.1 G.2
      (by rw[aH,hnl];have:=bc _ _ G.1;omega) m3 m4 m5 (.inl n1) (λm x hx=>by rw[n2]at hx;cases hx) m6
    cases ax with
    | none =>
     have B:=run_append_nil (P:=C.P) w u ty e i z hd hi br ⟨b2,O,none⟩ ys.length b0 news (by rw[hnl,b7]) U bm aB
      (by have:ys.length * i.bytes<=4294967296 * 32768:=Nat.mul_le_mul bl (by rw[c0];exact bz);omega)
     rw[H,Z,b9,B,aEa];exact fin
    | some ae =>
     have B:=run_append_grow (P:=C.P) w u ty e i z hd hi br ae 0 0 [] bA (λj u hj=>by simp at hj) ⟨b2,O,none⟩ ys.length b0 news (by rw[hnl,b7]) U aB aB (growslice_fits aB (by
      have:(0+ys.length) * i.bytes<=4294967296 * 32768:=Nat.mul_le_mul aB (by rw[c0];exact bz);omega))
     rw[H,Z,b9,B];simp only[iQ,dD];rw[show((#[]:Array Value)++news.toArray++Builtin.zeroCells z.cells (grownCap w ys.length 0 e-ys.length))=(news++(Builtin.zeroCells z.cells (grownCap w ys.length 0 e-ys.length)).toList).toArray by apply Array.ext';simp];exact fin
   .obtain⟨b1,bk,gh,bv,rfl,fd,gw,g5,g4,h7⟩:=f4.resolve_left b6;have c9:0<es.length:=by cases es with|nil=>exact cV rfl b6|cons=>simp
    have fj:gh=S.sz:=by
     have hm:=kF c9;rw[<-g5 _ hm,h2 _ hm]
    subst fj
    have fq:ax=some ⟨b1,bk,none⟩:=by
     rw[Z]at cd;simp only[qJ]at cd;exact cd.1
    subst fq;obtain⟨gf,gm,gn,fv⟩:=hR.pis b1 bv fd;have f2:((bv.drop bk).take (es.length * S.sz)).length=es.length * S.sz:=by rw[dT,dS];omega
    have bd:∀j v,((bv.drop bk).take (es.length * S.sz))[j]?=some v->w.cell? ((⟨b1,bk,none⟩:Addr).add j)=some v:=by
     intro j v hj;rw[mS]at hj;split at hj
     .rw[mR]at hj;rw[kQ];simp only[World.cell?,fv,kZ,dA,↓reduceIte,mP];rw[kE (dZ.1 hj).1];exact hj
     .simp at hj
    have c7:Rzs g (eC es) ((bv.drop bk).take (es.length * S.sz)):=by
     obtain⟨a',cm,e1,_,_,e2⟩:=fm.to_flat;rw[Z]at e1;rcases e2 with e2|⟨b',cr,cg,ct,e3,e4,e5,e6,e7,e8⟩
     .exact cV e2 b6
     .subst e3;simp only[qJ,bV,tK,oI,gG]at e1;obtain⟨⟨rfl,rfl⟩,rfl⟩:=e1;rw[fd]at e4;cases e4;have:cg=S.sz:=by rw[<-e6 _ (kF c9),h2 _ (kF c9)]
      rw[this]at e8;exact e8
    generalize (bv.drop bk).take (es.length * S.sz)=olds at f2 bd c7
    have b4:(es.length+ys.length) * i.bytes<=140737488355328:=by
     have:(es.length+ys.length) * i.bytes<=4294967296 * 32768:=Nat.mul_le_mul h3 (by rw[c0];exact bz);omega
    have B:=run_append_grow (P:=C.P) w u ty e i z hd hi br ⟨b1,bk,none⟩ es.length es.length olds (by rw[f2,b7]) bd ⟨b2,O,none⟩ ys.length b0 news (by rw[hnl,b7]) U aB aB (growslice_fits aB b4);have G:=qM w (es.length+ys.length) es.length e aB;rw[H,Z,b9,B,aB6]
    have bp:∀y,y∈es++ys->∀c,c∈y.cells->c.one=true:=by
     intro q hq c hc;rcases cK.1 hq with hq|hq
     .exact g4 q hq c hc
     .exact c2 q hq c hc
    have c4:Rzs g (eC (es++ys)) (olds++news):=by rw[aFR];exact c7.append M
    have:=vE (KV:=KV) (Kp:=Kp) hR (t:=N) bf (es:=es++ys) (rest:=(Builtin.zeroCells z.cells (grownCap w (es.length+ys.length) es.length e-(es.length+ys.length))).toList) c5 bp c4 (by rw[b3];exact G.1) G.2
     (by rw[aH,aH,f2,hnl];have:=bc _ _ G.1;rw[gO]at this;omega) m3 (by rw[b3];exact m4) m5 (.inl n1) (λm x hx=>by rw[n2]at hx;cases hx) m6
    rw[b3]at this;exact this
  .exact h.elim
end
end
end Go.AV
section
open Go.Proofs.Tryz
namespace Go.AV
open Go Go.MapKept
section
variable {C:Cx} {F:Fr} {g:Gh} {s:St} {w:World} {ρ:Operand->Option A} {ev:Operand->Value}
theorem aSO{t:TypeId}{u:TI}(h:C.tt t=some u)(w:World)(g:Gh):∃z,(zeroValue t).run C.P w=.ok z w/\Rz g (zA u) z:=by
 obtain⟨i,z,B,U,S,hz,m⟩:=(C.htt t u h).info;refine⟨z,by simp[zeroValue,typeInfo,B,hz],?_⟩;obtain⟨G,H⟩:=(C.htt t u h).shp i z B hz;have m:=m g;unfold zA;split
 .rename_i y;obtain⟨xs,rfl⟩:=G y;simp only[Value.cells]at m;have:=Rz.agg (g:=g) u.zero xs.toList m.1 (C.htt t u h).one m.2;simpa using this
 .rename_i y;have O:=H y;have M:z.cells.toList=[z]:=by cases z<;>first|rfl|exact cV rfl (O _)
  rw[M]at m
  match hz':u.zero,m with
  | [],m=>simp[Rzs]at m
  | [a],m=>exact m.2 0 a z rfl rfl
  | _::_::_,m=>simp[Rzs]at m
theorem R.mapOf(z:R C.toCtx F g s w){b kd:Nat}{es:List (MK × A)}(B:s.getO b=some (.map kd es)) :
  ∃k h c,g.beta b=some k/\w.heap[k]?=some (.map h c)/\MRz g kd es h.toList:=by
 obtain⟨k,m,⟨h,c,u,y⟩,_⟩:=z.obj b _ B;exact⟨k,h,c,m,u,y⟩
theorem aRv{KV Kp:St->A->Prop}{t ty:TypeId}{r:Option Operand}{dst:Option Tmp}{pos:String}{after:Array Edge}{gd:Option (Nat × Bool)}
  (m:R C.toCtx F g s w)(h:bF C (.makeMap t r) ρ KV Kp s) :
  OutV C F g KV Kp ((execOp ev ⟨dst,.makeMap t r,ty,pos,after,gd⟩).run C.P w):=by
 cases r with
 | some r=>simp only[bF,cJ]at h
 | none =>
  simp only[bF,aEF]at h;split at h
  .split at h
   .simp only[execOp];exact aEc (ob:=.map _ []) (o:=.map #[] 0) (v:=.map (some w.heap.size)) m ⟨#[],0,rfl,trivial⟩ (λy b u=>.mp b _ u) (by simp[Instr.makeMap]) h
   .exact h.elim
  .exact h.elim
theorem aSX{KV Kp:St->A->Prop}{t ty:TypeId}{x k:Operand}{ok:Bool}{dst:Option Tmp}{pos:String}{after:Array Edge}{gd:Option (Nat × Bool)}
  (S:R C.toCtx F g s w)(he:∀x a,ρ x=some a->Rz g a (ev x))(h:bF C (.lookup t x k ok) ρ KV Kp s) :
  OutV C F g KV Kp ((execOp ev ⟨dst,.lookup t x k ok,ty,pos,after,gd⟩).run C.P w):=by
 simp only[bF]at h;split at h
 .rename_i b a hx Z;unfold aAa at h;split at h
  .rename_i v' b3;obtain⟨ti,e,b4,es,mk,te,b2,hk,hb,b0,b1,rfl⟩:=aQC b3;obtain⟨d,hd,M⟩:=iL b2;rw[hk]at M;obtain⟨kt,rfl,hT⟩:=M;obtain⟨k0,m,U⟩:=(he x _ hx).mp_inv;obtain⟨k1,ms,c,h1,h2,h3⟩:=S.mapOf hb;rw[U]at h1;cases h1;obtain⟨H,G⟩:=aMN b0 (he k _ Z);have hf:=aL5 (P:=C.P) hT G w h3;have B:=λe=>hT.chk mk G e w
   obtain⟨z,hz,O⟩:=aSO b1 w g;simp only[execOp];rw[yS];rcases aMD (k:=mk) 0 h3 with⟨l1,l2⟩|⟨v',j,v,l1,l2,l3⟩
   .have y:(Instr.lookup t (ev x) (ev k) ok).run C.P w=.ok (if ok then .tuple #[z,.bool false] else z) w:=by
     simp only[Instr.lookup,bN,dN hd,bM,m,H,Go.MapKept.run_getObj_map h2,cG,B,hf,l2,hz]
    rw[y];refine⟨g,_,s,fJ g,S,?_,h⟩;rw[l1];cases ok
    .exact O
    .exact .tuple _ [_,_] rfl λj c v u m=>by
      match j with
      | 0=>simp at u m;subst u;subst m;exact O
      | 1=>simp at u m;subst u;subst m;exact .bool _
      | _+2=>simp at u
   .have y:(Instr.lookup t (ev x) (ev k) ok).run C.P w=.ok (if ok then .tuple #[v,.bool true] else v) w:=by
     simp only[Instr.lookup,bN,dN hd,bM,m,H,Go.MapKept.run_getObj_map h2,cG,B,hf,l2]
    rw[y];refine⟨g,_,s,fJ g,S,?_,h⟩;rw[l1];cases ok
    .exact l3
    .exact .tuple _ [_,_] rfl λj c v u m=>by
      match j with
      | 0=>simp at u m;subst u;subst m;exact l3
      | 1=>simp at u m;subst u;subst m;exact .bool _
      | _+2=>simp at u
  .exact h.elim
 .exact h.elim
theorem aPS{KV Kp:St->A->Prop}{t ty:TypeId}{x k y:Operand}{dst:Option Tmp}{pos:String}{after:Array Edge}{gd:Option (Nat × Bool)}
  (hR:R C.toCtx F g s w)(he:∀x a,ρ x=some a->Rz g a (ev x))(h:bF C (.mapUpdate t x k y) ρ KV Kp s) :
  OutV C F g KV Kp ((execOp ev ⟨dst,.mapUpdate t x k y,ty,pos,after,gd⟩).run C.P w):=by
 simp only[bF]at h;split at h
 .rename_i b a v hx b0 hy;unfold aA6 at h;split at h
  .rename_i ti b6;split at h
   .rename_i e kd U es hk hb;split at h
    .rename_i mk b4;obtain⟨rfl,h⟩:=h;obtain⟨d,hd,O⟩:=iL b6;rw[hk]at O;obtain⟨kt,rfl,hT⟩:=O;obtain⟨k0,hv,G⟩:=(he x _ hx).mp_inv;obtain⟨k1,ms,c,h1,B,h3⟩:=hR.mapOf hb;rw[G]at h1;cases h1;obtain⟨M,z⟩:=aMN b4 (he k _ b0);have hf:=aL5 (P:=C.P) hT z w h3;have H:=λe=>hT.chk mk z e w
     have b5:=he y _ hy;have b2:k0<w.heap.size:=(iW.1 B).1
     have fin:∀u c',MRz g U (lK mk v es) u.toList->(Instr.mapUpdate t (ev x) (ev k) (ev y)).run C.P w=.ok () { w with heap:=w.heap.setIfInBounds k0 (.map u c') } ->
       OutV C F g KV Kp ((execOp ev ⟨dst,.mapUpdate t x k y,ty,pos,after,gd⟩).run C.P w):=by
      intro u c' hm S;simp only[execOp];rw[aGD,S];exact⟨g,_,fJ g,hR.setObj hb G (ob:=.map U (lK mk v es)) (λj hj=>by simp[aBv (Ne.symm hj)]) ⟨u,c',by simp[b2],hm⟩,h⟩
     rcases aMT z b5 0 h3 with⟨Z,l2⟩|⟨n,v0,m,Z,l2,l3,l4⟩
     .refine fin (ms.push { key:=mk.val,val:=ev y,born:=c }) (c+1) (by simpa using l2 c) ?_;simp only[Instr.mapUpdate,bN,dN hd,bM,hv,M,Go.MapKept.run_getObj_map B,H,hf,Z,Go.MapKept.run_setObj_map _ B]
     .rw[iQ]at Z;have b3:ms[n]?=some m:=by rw[<-aBx];exact l2
      have b1:(((ms[n]?).map (·.key)).getD mk.val)=mk.val:=by simp[b3,l3]
      refine fin (ms.modify n λe=>{ e with key:=mk.val,val:=ev y }) c (by rw[Array.toList_modify];exact l4) ?_;simp only[Instr.mapUpdate,bN,dN hd,bM,hv,M,Go.MapKept.run_getObj_map B,H,hf,Z,b1,aTd,Go.MapKept.run_setObj_map _ B]
    .exact h.elim
   .exact h.elim
  .exact h.elim
 .exact h.elim
end
end Go.AV
end
namespace Go.AV
open Go Go.Proofs Tryz
section
section
variable {C:Cx} {F:Fr} {g:Gh} {s:St} {w:World} {ρ:Operand->Option A} {ev:Operand->Value}
theorem aIF{t:TypeId}{v:Value}(P:Program)(w:World):(Instr.panic (.iface t v)).run P w=.halt (.panic (.iface t v)) w:=rfl
theorem aMK{KV Kp:St->A->Prop}{op:Op}{ty:TypeId}{dst:Option Tmp}{pos:String}{after:Array Edge}{gd:Option (Nat × Bool)}
  (z:R C.toCtx F g s w)(B:∀x a,ρ x=some a->Rz g a (ev x))(h:bF C op ρ KV Kp s) :
  OutV C F g KV Kp ((execOp ev ⟨dst,op,ty,pos,after,gd⟩).run C.P w):=by
 cases op
 case load=>exact aU2 z B h
 case store=>exact aT2 z B h
 case alloc=>exact aTr z h
 case box=>exact aVn z B h
 case makeMap=>exact aRv z h
 case lookup=>exact aSX z B h
 case mapUpdate=>exact aPS z B h
 case buildSlice t len b1 =>
  simp only[bF]at h;split at h
  .exact qT (uD z B h)
  .rename_i ho;rcases h with h|h
   .exact qT (uD z B h)
   .refine aQk z B ?_ h;unfold aCK at ho;split at ho
    .cases ho
    ·assumption
 case range=>exact aT6 z B h
 case makeSlice=>exact aPw z B h
 case convert=>exact aRk z B h
 case next=>exact aUx z B h
 case panic x =>
  simp only[bF]at h;split at h
  .rename_i t a S;obtain⟨v,H,Z⟩:=(B x _ S).iface_inv;simp only[execOp,H,bN,aIF,Result.andThen_halt];exact⟨g,_,s,fJ g,z,.iface t a v Z,h⟩
  .exact h.elim
 case call c =>
  obtain⟨U,args,G⟩:=c;cases U with
  | value f =>
   simp only[bF]at h;split at h
   .rename_i b3 first b2 az hf has
    obtain⟨us,vs,H,r1,r2⟩:=(B f _ hf).fn_inv;have r3:=aDL B has;have hd:=h F g w _ z ((r1.append r3).append r2);have e1:args.map ev=(args.toList.map ev).toArray:=by rw[<-lA,Array.toArray_toList]
    simp only[execOp,resolve,H,Deferred.ofValue,bN,cG,bM,invoke,e1];simpa using hd
   .exact h.elim
  | invoke r m=>exact qT (uD z B h)
  | builtin b =>
   by_cases O:b=.append
   .subst O;obtain⟨M⟩:=args;obtain⟨tl⟩:=G
    match M,tl,h with
    | [x,y],[t,u],h=>exact aS5 z B h
    | [],_,h=>simp only[bF]at h
    | [_],_,h=>simp only[bF]at h
    | _::_::_::_,_,h=>simp only[bF]at h
    | [_,_],[],h=>simp only[bF]at h
    | [_,_],[_],h=>simp only[bF]at h
    | [_,_],_::_::_::_,h=>simp only[bF]at h
   .by_cases hu:b=.unsafeString
    .subst hu;obtain⟨M⟩:=args;obtain⟨tl⟩:=G
     match M,tl,h with
     | [x,y],[t,u],h=>exact aUU z B h
     | [],_,h=>simp only[bF]at h
     | [_],_,h=>simp only[bF]at h
     | _::_::_::_,_,h=>simp only[bF]at h
     | [_,_],[],h=>simp only[bF]at h
     | [_,_],[_],h=>simp only[bF]at h
     | [_,_],_::_::_::_,h=>simp only[bF]at h
    by_cases hp:b=.panic
    .subst hp;simp only[bF]at h;split at h
     .rename_i x S;split at h
      .rename_i t a b0;obtain⟨v,H,Z⟩:=(B x _ b0).iface_inv;obtain⟨M⟩:=args;simp only at S;subst S;simp only[execOp,resolve,invoke,builtin,bN,cG,bM,lA,bX,dL,H,aFu,mP,mO,qL,aIF,Result.andThen_halt];exact⟨g,_,s,fJ g,z,.iface t a v Z,h⟩
      .exact h.elim
     .exact h.elim
    .have h':cJ C (.call ⟨.builtin b,args,G⟩) ρ (KV s):=by
      cases b<;>first|exact cV rfl O|exact cV rfl hp|exact cV rfl hu|exact h
     exact qT (uD z B h')
 case binOp op t x y yt =>
  cases op
  case eql =>
   simp only[bF]at h;split at h
   .rename_i tk ha O;rcases h with h|⟨hn,ht,hf⟩
    .exact qT (uD z B h)
    .refine qT (s:=s) ?_;have ra:=B x _ ha;have rb:=B y _ O;simp only[execOp];obtain⟨ad,cap,H,_⟩:=ra.list_inv;rw[H,rb.nils_inv];obtain⟨r,h1,h2⟩:=C.hnl t hn ad _ cap w .eql x y (.inl rfl);rw[aF rfl]at h2;have hK:KV s (.bool r):=by cases r<;>assumption
     refine eQ (v:=.bool r) z ?_ (.bool _) hK;rw[bN,h1,bM,h2]
   .exact qT (uD z B h)
  all_goals exact qT (uD z B h)
 all_goals exact qT (uD z B h)
end
structure EnvOk (g:Gh) (n:Nat) (e:Env) (tmps:Array Value):Prop where
 size:tmps.size=n
 val:∀t a,e.get t=some a->∃v,tmps[t]?=some v/\Rz g a v
theorem EnvOk.mono{g u:Gh}(G:g.le u){n:Nat}{e:Env}{m:Array Value}(h:EnvOk g n e m):EnvOk u n e m :=
 ⟨h.size,λt a B=>let⟨v,y,z⟩:=h.val t a B;⟨v,y,z.mono G⟩⟩
theorem EnvOk.nil{g:Gh}{n:Nat}{m:Array Value}(h:m.size=n):EnvOk g n [] m:=⟨h,λt a u=>by cases u⟩
theorem EnvOk.sub{g:Gh}{n:Nat}{e e':Env}{m:Array Value}(h:EnvOk g n e m)(y:∀t a,e'.get t=some a->e.get t=some a):EnvOk g n e' m :=
 ⟨h.size,λt a u=>h.val t a (y t a u)⟩
theorem EnvOk.put{g:Gh}{n:Nat}{e:Env}{a:Act}{d:Nat}{x:A}{v:Value}(h:EnvOk g n e a.tmps)(H:d<n)(M:Rz g x v) :
  EnvOk g n (e.put d x) (a.put (some d) v).tmps:=by
 refine⟨by simp[Act.put,h.size],λt y m=>?_⟩;rw[nL]at m;show∃u,(a.tmps.setIfInBounds d v)[t]?=some u/\_
 by_cases z:d=t
 .subst z;simp only[↓reduceIte,bV]at m;subst m;exact⟨v,by simp[Array.getElem?_setIfInBounds,h.size,H],M⟩
 .simp only[z,↓reduceIte]at m;obtain⟨u,B,G⟩:=h.val t y m;exact⟨u,by rw[aBv z];exact B,G⟩
theorem EnvOk.del{g:Gh}{n:Nat}{e:Env}{a:Act}{d:Nat}{v:Value}(h:EnvOk g n e a.tmps) :
  EnvOk g n (e.del d) (a.put (some d) v).tmps:=by
 refine⟨by simp[Act.put,h.size],λt y m=>?_⟩;rw[aJb]at m;show∃u,(a.tmps.setIfInBounds d v)[t]?=some u/\_
 by_cases z:d=t
 .simp[z]at m
 .simp only[z,↓reduceIte]at m;obtain⟨u,B,G⟩:=h.val t y m;exact⟨u,by rw[aBv z];exact B,G⟩
theorem EnvOk.oper{C:Cx}{F:Fr}{g:Gh}{s:St}{w:World}{n:Nat}{e:Env}{a:Act}(B:R C.toCtx F g s w)(h:EnvOk g n e a.tmps) :
  ∀x v,eZ C e x=some v->Rz g v (a.eval x):=by
 intro x v m;cases x with
 | tmp t =>
  obtain⟨u,y,z⟩:=h.val t v m;simpa [Act.eval,aFu,y]using z
 | const c=>exact aQ0 m
 | global k =>
  simp only[eZ]at m;split at m
  .rename_i cs hcs;simp only[bV]at m;subst m;obtain⟨pre,_,_,_,H,hl,y,M⟩:=B.gpi hcs;exact .eptr cs 0 k 0 pre H aB y (λj c v G m=>M j c v G (gQ m))
  .simp at m
 | func f =>
  simp only[eZ,bV]at m;subst m;exact .fn f [] [] [] [] rfl rfl bA bA
inductive XK where
 | normal
 | exit (id:Nat)
 | goto (l:Nat)
 | ret
 | panic (a:A)
def XRz(g:Gh):XK->Exit->Prop
 | .normal,.normal=>True
 | .exit i,.exit j=>i=j
 | .goto i,.goto j=>i=j
 | .ret,.ret=>True
 | .panic a,.panic mK=>∃v,mK=[{ v:=v,recovered:=false }]/\Rz g a v
 | _,_=>False
def Post(C:Cx)(F:Fr)(g:Gh)(n:Nat)(D:List Deferred)(Q:XK->Env->St->Prop)(m:Exit)(a:Act)(w:World):Prop :=
 ∃h e s x,g.le h/\R C.toCtx F h s w/\EnvOk h n e a.tmps/\a.defers=D/\XRz h x m/\Q x e s
def Ex(C:Cx)(n:Nat)(c:Code)(Q:XK->Env->St->Prop)(e:Env)(s:St):Prop :=
 ∀F g w a,R C.toCtx F g s w->EnvOk g n e a.tmps->c.wp C.P (Post C F g n a.defers Q) a w
theorem Post.mono{C:Cx}{F:Fr}{g y:Gh}(U:g.le y){n:Nat}{D:List Deferred}{Q m:XK->Env->St->Prop}{u:Exit}{a:Act}{w:World}
  (h:Post C F y n D Q u a w)(S:∀x e s,Q x e s->m x e s):Post C F g n D m u a w:=by
 obtain⟨g2,e,s,x,z,B,G,H,M,O⟩:=h;exact⟨g2,e,s,x,U.trans z,B,G,H,M,S _ _ _ O⟩
def cX(n:Nat)(dst:Option Tmp)(K:Env->St->Prop)(e:Env)(s:St)(v:A):Prop :=
 match dst with
 | some d=>d<n/\K (e.put d v) s
 | none=>K e s
def mL:List (Option Tmp)->Nat->Option Tmp
 | [],_=>none
 | d::_,0=>d
 | _::r,n+1=>mL r n
def iG(C:Cx)(n:Nat)(ds:List (Option Tmp)):List Oper->(Env->St->Prop)->(St->A->Prop)->Env->St->Prop
 | [],K,_,e,s=>K e s
 | ⟨dst,op,_,_,_,none⟩::r,K,Kp,e,s=>bF C op (eZ C e) (cX n dst (iG C n ds r K Kp) e) Kp s
 | ⟨dst,op,_,_,_,some (j,h)⟩::r,K,Kp,e,s =>
  match mL ds j with
  | none=>False
  | some t=>match e.get t with
   | some (.bool b) =>
    match b with
    | true=>match h with
     | true=>bF C op (eZ C (e.put t (.bool true))) (cX n dst (iG C n ds r K Kp) (e.put t (.bool true))) Kp s
     | false=>cX n dst (iG C n ds r K Kp) (e.put t (.bool true)) s (.tuple [])
    | false=>match h with
     | false=>bF C op (eZ C (e.put t (.bool false))) (cX n dst (iG C n ds r K Kp) (e.put t (.bool false))) Kp s
     | true=>cX n dst (iG C n ds r K Kp) (e.put t (.bool false)) s (.tuple [])
   | some (.tuple _)=>cX n dst (iG C n ds r K Kp) e s (.tuple [])
   | _=>False
end
section
def Env.ge(e e':Env):Prop:=∀t a,e'.get t=some a->e.get t=some a
theorem Env.ge.refl(e:Env):e.ge e:=λ_ _ h=>h
theorem aJd(V:List Nat)(e:Env):e.ge (e.keep V):=λt a h=>aOC V e t a h
def Env.rem(ds:List (Option Tmp)):Env->Env
 | []=>[]
 | (k,u)::e=>if ds.elem (some k) then Env.rem ds e else(k,u)::Env.rem ds e
theorem qN(ds:List (Option Tmp)):∀(e:Env) (t:Nat),(e.rem ds).get t=if ds.elem (some t) then none else e.get t
 | [],t=>by simp[Env.rem,Env.get]
 | (k,u)::e,t=>by
  have y:=qN ds e t;simp only[Env.rem];by_cases m:ds.elem (some k)=true
  .rw[aF m,y];by_cases h:k=t
   .subst h;simp only[m,↓reduceIte]
   .simp only[Env.get,h,↓reduceIte]
  .rw[aD m];by_cases h:k=t
   .subst h;rw[aD m];simp only[Env.get,↓reduceIte]
   .simp only[Env.get,h,↓reduceIte,y]
theorem EnvOk.other{g:Gh}{n:Nat}{m:Env}{a:Act}{dst:Option Tmp}{v:Value}(h:EnvOk g n m a.tmps)(M:∀d,dst=some d->m.get d=none):EnvOk g n m (a.put dst v).tmps:=by
 cases dst with
 | none=>exact h
 | some d =>
  have B:=M d rfl;have z:(a.put (some d) v).tmps=a.tmps.setIfInBounds d v:=rfl;refine⟨by rw[z];simpa using h.size,λt x y=>?_⟩;obtain⟨u,G,H⟩:=h.val t x y;have:d≠t:=by rintro rfl;rw[B]at y;cases y
  exact⟨u,by rw[z,aBv this];exact G,H⟩
section
variable {C:Cx} {F:Fr} {g g0:Gh} {s:St} {w:World} {n:Nat}
theorem aDo(a:Act)(d:Option Tmp)(v:Value):(a.put d v).defers=a.defers:=by cases d<;>rfl
theorem R.unframe(h:R C.toCtx F g s w){F0:Fr}(B:∀k o,F0 k=some o->F k=some o)(M:∀k o p,F k=some (o,some p)->F0 k=some (o,some p)):R C.toCtx F0 g s w where
 env:=h.env
 obj:=λb o m=>by
  obtain⟨k,u,G,H,y⟩:=h.obj b o m;refine⟨k,u,G,H,?_⟩;cases z:F0 k with
  | none=>rfl
  | some x=>rw[B k x z]at y;cases y
 tok:=λt n e S=>by
  obtain⟨v,xs,u,G,H,y⟩:=h.tok t n e S;refine⟨v,xs,u,G,H,λb m=>⟨(y b m).1,?_⟩⟩;cases z:F0 b with
  | none=>rfl
  | some x=>have:=(y b m).2;rw[B b x z]at this;cases this
 sep:=h.sep
 pis:=h.pis
 frm:=λb o m=>h.frm b o (B b o m)
 glb:=λb cs m=>by
  obtain⟨pre,ty,fr,O,u⟩:=h.glb b cs m;exact⟨pre,ty,fr,M _ _ _ O,u⟩
 fsh:=h.fsh
 bet:=h.bet
 inj:=h.inj
 dtm:=h.dtm
 lst:=h.lst
 bfr:=λb k m=>by
  cases z:F0 k with
  | none=>rfl
  | some x=>have:=h.bfr b k m;rw[B k x z]at this;cases this
theorem aIy{F0:Fr}(hF:∀k o,F0 k=some o->F k=some o)(hG:∀k o p,F k=some (o,some p)->F0 k=some (o,some p)){o:Oper}{a:Act}{e U:Env}{D:List Deferred}{K:Env->St->Prop}{Kp:St->A->Prop}{Q:XK->Env->St->Prop}
  {next:Act->World->Prop}(hg:g0.le g)(he:EnvOk g n e a.tmps)(S:EnvOk g n U a.tmps)(b4:∀d,o.dst=some d->U.get d=none)(hD:a.defers=D)
  (u:∀m v w' e' s',g.le m->R C.toCtx F m s' w'->EnvOk m n e' (a.put o.dst v).tmps->EnvOk m n U (a.put o.dst v).tmps->(a.put o.dst v).defers=D->K e' s'->next (a.put o.dst v) w')
  (b2:∀s v,Kp s v->Q (.panic v) U s){r:Result Next}
  (h:OutV C F g (cX n o.dst K e) Kp r):o.upon C.P a next (Post C F0 g0 n D Q) r:=by
 have M:∀m v z s' w',g.le m->R C.toCtx F m s' w'->Rz m z v->cX n o.dst K e s' z->next (a.put o.dst v) w':=by
  intro m v z s' w' y G H B;have b0:=he.mono y;unfold cX at B;cases Z:o.dst with
  | none=>rw[Z]at B;rw[Z]at u;exact u m v w' e s' y G b0 (S.mono y) hD B
  | some d =>
   rw[Z]at B;rw[Z]at u;exact u m v w' _ s' y G (b0.put B.1 H) ((S.mono y).other λd' b3=>by cases b3;exact b4 d Z) (by rw[aDo];exact hD) B.2
 have O:∀m v z s' w',g.le m->R C.toCtx F m s' w'->Rz m z v->Kp s' z->Post C F0 g0 n D Q (.panic [{ v:=v,recovered:=false }]) a w' :=
  λm v z s' w' y G H B=>⟨m,U,s',.panic z,hg.trans y,G.unframe hF hG,S.mono y,hD,⟨v,rfl,H⟩,b2 _ _ B⟩
 cases r with
 | ok x w' =>
  cases x<;>simp only[OutV]at h
  case value v =>
   obtain⟨m,z,s',y,G,H,B⟩:=h;exact M m v z s' w' y G H B
  case skip =>
   obtain⟨m,s',y,G,H⟩:=h;exact M m undef (.tuple []) s' w' y G (.tuple [] [] rfl bA) H
  case enter f args =>
   refine Calls.mono h λen b1 hp=>?_
   cases en with
   | returned v=>obtain⟨m,z,s',y,G,H,B⟩:=hp;exact M m v z s' b1 y G H B
   | panicked mK=>obtain⟨m,z,v,s',rfl,y,G,H,B⟩:=hp;exact O m v z s' b1 y G H B
   | outgrown=>exact hp.elim
 | halt x w' =>
  cases x<;>simp only[OutV]at h
  obtain⟨m,z,s',y,G,H,B⟩:=h;exact O m _ z s' w' y G H B
theorem aGK(ops:Array Oper):∀(j:Nat),mL (ops.toList.map (·.dst)) j=(ops[j]?).bind (·.dst):=by
 obtain⟨l⟩:=ops
 induction l with
 | nil=>intro j;simp[mL]
 | cons o l h =>
  intro j;cases j with
  | zero=>simp[mL]
  | succ j=>simpa [mL]using h j
theorem aJB{ops:Array Oper}{j t:Nat}{e:Env}{b:Bool}{h:Array Value}(m:mL (ops.toList.map (·.dst)) j=some t)
  (B:EnvOk g n e h)(z:e.get t=some (.bool b)):yielded ops h j=some b:=by
 obtain⟨v,u,y⟩:=B.val t _ z;rw[aGK]at m;simp[yielded,m,u,y.bool_inv]
theorem aIL{ops:Array Oper}{j t:Nat}{e:Env}{l:List A}{h:Array Value}(m:mL (ops.toList.map (·.dst)) j=some t)
  (B:EnvOk g n e h)(z:e.get t=some (.tuple l)):yielded ops h j=none:=by
 obtain⟨v,u,y⟩:=B.val t _ z;obtain⟨vs,rfl,_⟩:=y.tuple_inv;rw[aGK]at m;simp[yielded,m,u]
theorem aME{ops:Array Oper}{e0:Env}{D:List Deferred}{K:Env->St->Prop}{Kp:St->A->Prop}{Q:XK->Env->St->Prop}
  (hK:∀e s,K e s->∃e',e.ge e'/\Q .normal e' s)(b0:∀s v,Kp s v->Q (.panic v) e0 s) :
  ∀(l:List Oper) (g:Gh) (e:Env) (s:St) (a:Act) (w:World),(∀o,o∈l->∀d,o.dst=some d->e0.get d=none)->g0.le g->R C.toCtx F g s w->EnvOk g n e a.tmps->EnvOk g n e0 a.tmps->a.defers=D ->
   iG C n (ops.toList.map (·.dst)) l K Kp e s->wpList C.P ops (Post C F g0 n D Q) l a w
 | [],g,e,s,a,w,H,U,S,M,B,hD,h=>by
  obtain⟨e',h1,h2⟩:=hK _ _ h;exact⟨g,e',s,.normal,U,S,M.sub h1,hD,trivial,h2⟩
 | ⟨dst,op,ty,pos,after,gd⟩::r,g,e,s,a,w,H,U,S,M,B,hD,h=>by
  have b1:∀d,dst=some d->e0.get d=none:=H ⟨dst,op,ty,pos,after,gd⟩ bA
  have G:∀o,o∈r->∀d,o.dst=some d->e0.get d=none:=λo ho=>H o (by simp[ho])
  have ih:=aME (ops:=ops) (D:=D) hK b0 r
  have O:∀e',EnvOk g n e' a.tmps->bF C op (eZ C e') (cX n dst (iG C n (ops.toList.map (·.dst)) r K Kp) e') Kp s ->
    (⟨dst,op,ty,pos,after,gd⟩:Oper).wp C.P a w (wpList C.P ops (Post C F g0 n D Q) r) (Post C F g0 n D Q):=by
   intro e' m b4;have:=aMK (ev:=a.eval) (ty:=ty) (dst:=dst) (pos:=pos) (after:=after) (gd:=gd) S (m.oper S) b4;exact aIy (λ_ _ h=>h) (λ_ _ _ h=>h) (o:=⟨dst,op,ty,pos,after,gd⟩) U m B b1 hD (λg' a' w' e2 s' h1 h2 h3 b2 h4 h5=>ih g' e2 s' _ w' G (U.trans h1) h2 h3 b2 h4 h5) b0 this
  have skip:∀e',EnvOk g n e' a.tmps->cX n dst (iG C n (ops.toList.map (·.dst)) r K Kp) e' s (.tuple []) ->
    wpList C.P ops (Post C F g0 n D Q) r (a.put dst undef) w:=by
   intro e' m Z;unfold cX at Z;cases z:dst with
   | none=>rw[z]at Z;exact ih g e' s a w G U S m B hD Z
   | some d=>rw[z]at Z;exact ih g _ s _ w G U S (m.put Z.1 (.tuple [] [] rfl bA)) (B.other λd' b3=>by cases b3;exact b1 d z) (by rw[aDo];exact hD) Z.2
  cases gd with
  | none =>
   simp only[iG]at h;unfold wpList;rw[aF (by simp[Region.wanted])];exact .inl (O e M h)
  | some jw =>
   obtain⟨j,y⟩:=jw;simp only[iG]at h;split at h
   .exact h.elim
   .rename_i t ht;split at h
    .rename_i b hb;have hy:=aJB (b:=b) ht M hb
     have m:EnvOk g n (e.put t (.bool b)) a.tmps:=M.sub λu x hx=>by
      rw[nL]at hx;by_cases hu:t=u
      .subst hu;simp only[↓reduceIte]at hx;rw[hb];exact hx
      .simpa only[hu,↓reduceIte]using hx
     unfold wpList
     have hw:Region.wanted (⟨dst,op,ty,pos,after,some (j,y)⟩:Oper) (yielded ops a.tmps)=(b == y):=by
      simp only[Region.wanted,hy];cases b<;>cases y<;>rfl
     cases b<;>cases y<;>simp only at h
     .rw[aF (by rw[hw];rfl)];exact .inl (O _ m h)
     .rw[aD (by rw[hw];decide)];exact skip _ m h
     .rw[aD (by rw[hw];decide)];exact skip _ m h
     .rw[aF (by rw[hw];rfl)];exact .inl (O _ m h)
    .rename_i l hb;have hy:=aIL ht M hb;unfold wpList;rw[aD (by simp[Region.wanted,hy])];exact skip _ M h
    .exact h.elim
theorem aLy(e:Env){ops:Array Oper}:∀o,o∈ops.toList->∀d,o.dst=some d->(e.rem (ops.toList.map (·.dst))).get d=none:=by
 intro o ho d h;rw[qN,aF];rw[List.elem_eq_mem];simp only[bW,cN];exact⟨o,ho,h⟩
theorem aMx{e:Env}{ds:List (Option Tmp)}{m:Array Value}(u:EnvOk g n e m):EnvOk g n (e.rem ds) m:=u.sub λt a h=>by
 rw[qN]at h;split at h
 .cases h
 .exact h
theorem Ex.region{B:Nat}{ops:Array Oper}{Q:XK->Env->St->Prop}{K:Env->St->Prop}{Kp:St->A->Prop}{e:Env}
  (y:∀e s,K e s->∃e',e.ge e'/\Q .normal e' s)(m:∀s v,Kp s v->Q (.panic v) (e.rem (ops.toList.map (·.dst))) s)
  (h:iG C n (ops.toList.map (·.dst)) ops.toList K Kp e s):Ex C n (.region B ops false) Q e s:=λF g w a z u =>
 wp_region_list (aME y m ops.toList g e s a w (aLy e) (fJ g) z u (aMx u) rfl h)
end
section
variable {C:Cx} {n:Nat} {Q:XK->Env->St->Prop} {e:Env} {s:St}
theorem Ex.mono{c:Code}{m:XK->Env->St->Prop}(h:Ex C n c Q e s)(u:∀x e s,Q x e s->m x e s):Ex C n c m e s :=
 λF g w a y z=>pI (λH G w' B=>Post.mono (fJ g) B u) (h F g w a y z)
theorem aTn{c:Code}{m:XK->Env->St->Prop}(h:Ex C n c Q e s)(Z:∀x e s,Q x e s->∃e',e.ge e'/\m x e' s):Ex C n c m e s :=
 λF g w a hR he=>pI (λex a' w' hp=>by
  obtain⟨y,e',s',x,z,B,G,H,M,O⟩:=hp;obtain⟨u,S,U⟩:=Z _ _ _ O;exact⟨y,u,s',x,z,B,G.sub S,H,M,U⟩) (h F g w a hR he)
theorem Ex.skip(h:Q .normal e s):Ex C n .skip Q e s:=λF g w a m u=>wp_skip ⟨g,e,s,.normal,fJ g,m,u,rfl,trivial,h⟩
theorem Ex.label{l:Nat}(h:Q .normal e s):Ex C n (.label l) Q e s:=λF g w a m u=>wp_label ⟨g,e,s,.normal,fJ g,m,u,rfl,trivial,h⟩
theorem Ex.exit{i:Nat}(h:Q (.exit i) e s):Ex C n (.exit i) Q e s:=λF g w a m u=>wp_exit ⟨g,e,s,.exit i,fJ g,m,u,rfl,rfl,h⟩
theorem Ex.goto{i:Nat}(h:Q (.goto i) e s):Ex C n (.goto i) Q e s:=λF g w a m u=>wp_goto ⟨g,e,s,.goto i,fJ g,m,u,rfl,rfl,h⟩
theorem Ex.ret(h:Q .ret e s):Ex C n .ret Q e s:=λF g w a m u=>wp_ret ⟨g,e,s,.ret,fJ g,m,u,rfl,trivial,h⟩
def kX(R:Env->St->Prop)(Q:XK->Env->St->Prop):XK->Env->St->Prop
 | .normal,e,s=>R e s
 | x,e,s=>Q x e s
theorem Ex.seq{c d:Code}(h:Ex C n c (kX (Ex C n d Q) Q) e s):Ex C n (.seq c d) Q e s:=λF g w a U Z=>by
 refine wp_seq (pI (λu S w' m=>?_) (h F g w a U Z));obtain⟨y,e',s',x,z,B,G,H,M,O⟩:=m;cases u<;>cases x<;>try exact M.elim
 .have:=O F y w' S B G;rw[H]at this;exact pI (λu a2 w2 m=>Post.mono z m λ_ _ _ h=>h) this
 all_goals exact⟨y,e',s',_,z,B,G,H,M,O⟩
def vN(i:Nat)(Q:XK->Env->St->Prop):XK->Env->St->Prop
 | .exit j,e,s=>if j=i then Q .normal e s else Q (.exit j) e s
 | x,e,s=>Q x e s
theorem Ex.block{i:Nat}{c:Code}(h:Ex C n c (vN i Q) e s):Ex C n (.block i c) Q e s:=λF g w a S U=>by
 refine wp_block (pI (λO a' w' Z=>?_) (h F g w a S U));obtain⟨y,e',s',x,z,B,G,H,u,m⟩:=Z;cases O<;>cases x<;>try exact u.elim
 case exit.exit j k =>
  simp only[XRz]at u;subst u;simp only[vN]at m;simp only[Exit.inBlock];split at m
  .rename_i M;rw[aF M];exact⟨y,e',s',.normal,z,B,G,H,trivial,m⟩
  .rename_i M;rw[aD M];exact⟨y,e',s',.exit _,z,B,G,H,rfl,m⟩
 all_goals exact⟨y,e',s',_,z,B,G,H,u,m⟩
theorem Ex.cond{c:Operand}{x y:Code}{b:Bool}(z:eZ C e c=some (.bool b))(h:Ex C n (if b then x else y) Q e s):Ex C n (.cond c x y) Q e s:=λF g w a m u =>
 wp_cond (((u.oper m) c _ z).bool_inv) (h F g w a m u)
theorem Ex.weaken{c:Code}{e':Env}{s':St}(z:e.ge e')(B:s.ge s')(h:Ex C n c Q e' s')(y:C.det=false:=by rfl):Ex C n c Q e s:=λF g w a u m =>
 h F g w a (u.weaken B (λh=>by rw[show C.toCtx.det=false from y]at h;cases h)) (m.sub z)
theorem aR9(I:Nat->Env->St->Prop)(m:Nat){c:Code}(h0:I m e s)
  (h:∀m e s,I m e s->Ex C n c (kX (λe' s'=>∃y,y<m/\I y e' s') Q) e s):Ex C n (.loop c) Q e s:=λF g0 w a hR hE=>by
 refine wp_loop_ghost (I:=λm u w'=>u.defers=a.defers/\∃g e s,g0.le g/\I m e s/\R C.toCtx F g s w'/\EnvOk g n e u.tmps) m
  ⟨rfl,g0,e,s,fJ g0,h0,hR,hE⟩ ?_
 rintro k u w' ⟨hD,g,e',s',hg,hI,G,z⟩;refine pI (λex a2 w2 hp=>?_) (h k e' s' hI F g w' u G z);obtain⟨M,H,s2,x,O,S,U,Z,h5,h6⟩:=hp;cases ex<;>cases x<;>try exact h5.elim
 .obtain⟨y,hm,B⟩:=h6;exact⟨y,hm,Z.trans hD,M,H,s2,hg.trans O,B,S,U⟩
 all_goals exact⟨M,H,s2,_,hg.trans O,S,U,Z.trans hD,h5,h6⟩
def Env.has(e:Env):Env->Prop
 | []=>True
 | (k,a)::r=>e.get k=some a/\Env.has e r
theorem aC1{e:Env}:∀{e':Env},e.has e'->e.ge e'
 | [],_=>λt a h=>by cases h
 | (k,a)::r,h=>λt b m=>by
  simp only[Env.get]at m;split at m
  .rename_i u;subst u;cases m;exact h.1
  .exact aC1 h.2 t b m
theorem Ex.loop{ι:Type}(E:ι->Env)(S:ι->St)(I:ι->Prop)(y:ι->Nat)(i:ι){c:Code}(U:I i)(z:e.has (E i))(G:s.ge (S i))
  (u:∀i,I i->Ex C n c (kX (λe' s'=>∃j,I j/\y j<y i/\e'.has (E j)/\s'.ge (S j)) Q) (E i) (S i))(O:C.det=false:=by rfl):Ex C n (.loop c) Q e s:=by
 refine aR9 (λm e s=>∃i,I i/\y i=m/\e.ge (E i)/\s.ge (S i)) (y i) ⟨i,U,rfl,aC1 z,G⟩ ?_;rintro m e s ⟨j,Z,rfl,z,G⟩;refine Ex.weaken z G (Ex.mono (u j Z) λx e' s' h=>?_) O;cases x
 case normal =>
  obtain⟨k,hk,B,H,M⟩:=h;exact⟨y k,B,k,hk,rfl,aC1 H,M⟩
 all_goals exact h
def nB(V:List Nat)(Q:XK->Env->St->Prop)(e:Env)(s:St):Prop:=Q .normal (e.keep V) s
def aAc(Q:XK->Env->St->Prop)(ds:List (Option Tmp))(e:Env)(s:St)(v:A):Prop:=Q (.panic v) (e.rem ds) s
def aEn(C:Cx)(n:Nat)(h:Nat)(ops:Array Oper)(Q:XK->Env->St->Prop)(e:Env)(s:St):Prop:=Ex C n (.region h ops true) Q e s
def fS(C:Cx)(n:Nat)(V:List Nat):Code->(XK->Env->St->Prop)->Env->St->Prop
 | .skip,Q,e,s=>Q .normal e s
 | .label _,Q,e,s=>Q .normal e s
 | .exit i,Q,e,s=>Q (.exit i) e s
 | .goto i,Q,e,s=>Q (.goto i) e s
 | .ret,Q,e,s=>Q .ret e s
 | .seq c d,Q,e,s=>fS C n V c (kX (fS C n V d Q) Q) e s
 | .block i c,Q,e,s=>fS C n V c (vN i Q) e s
 | .cond c x y,Q,e,s=>match eZ C e c with
  | some (.bool b)=>match b with
   | true=>fS C n V x Q e s
   | false=>fS C n V y Q e s
  | _=>False
 | .region m ops h,Q,e,s=>match h with
  | false=>iG C n (ops.toList.map (·.dst)) ops.toList (nB V Q) (aAc Q (ops.toList.map (·.dst)) e) e s
  | true=>aEn C n m ops (kX (nB V Q) Q) e s
 | .loop c,Q,e,s=>Ex C n (.loop c) Q e s
 | c,Q,e,s=>Ex C n c Q e s
theorem aPk(R:Env->St->Prop)(Q:XK->Env->St->Prop)(e:Env)(s:St):kX R Q .normal e s=R e s:=rfl
theorem aR1(R:Env->St->Prop)(Q:XK->Env->St->Prop)(i:Nat)(e:Env)(s:St):kX R Q (.exit i) e s=Q (.exit i) e s:=rfl
theorem aQW(R:Env->St->Prop)(Q:XK->Env->St->Prop)(i:Nat)(e:Env)(s:St):kX R Q (.goto i) e s=Q (.goto i) e s:=rfl
theorem aSB(R:Env->St->Prop)(Q:XK->Env->St->Prop)(e:Env)(s:St):kX R Q .ret e s=Q .ret e s:=rfl
theorem aQq(R:Env->St->Prop)(Q:XK->Env->St->Prop)(a:A)(e:Env)(s:St):kX R Q (.panic a) e s=Q (.panic a) e s:=rfl
theorem aN4(i:Nat)(Q:XK->Env->St->Prop)(e:Env)(s:St):vN i Q .normal e s=Q .normal e s:=rfl
theorem aQg(i:Nat)(Q:XK->Env->St->Prop)(e:Env)(s:St):vN i Q .ret e s=Q .ret e s:=rfl
theorem aP3(i j:Nat)(Q:XK->Env->St->Prop)(e:Env)(s:St):vN i Q (.goto j) e s=Q (.goto j) e s:=rfl
theorem aOr(i:Nat)(a:A)(Q:XK->Env->St->Prop)(e:Env)(s:St):vN i Q (.panic a) e s=Q (.panic a) e s:=rfl
theorem aO2(i j:Nat)(Q:XK->Env->St->Prop)(e:Env)(s:St):vN i Q (.exit j) e s=if j=i then Q .normal e s else Q (.exit j) e s:=rfl
theorem aX{V:List Nat}:∀(c:Code) (Q:XK->Env->St->Prop) (e:Env) (s:St),fS C n V c Q e s->Ex C n c Q e s
 | .skip,Q,e,s,h=>Ex.skip h
 | .label _,Q,e,s,h=>Ex.label h
 | .exit i,Q,e,s,h=>Ex.exit h
 | .goto i,Q,e,s,h=>Ex.goto h
 | .ret,Q,e,s,h=>Ex.ret h
 | .seq c d,Q,e,s,h=>by
  refine Ex.seq (Ex.mono (aX c _ e s h) λx e s u=>?_);cases x
  case normal=>exact aX d Q e s u
  all_goals exact u
 | .block i c,Q,e,s,h=>Ex.block (aX c _ e s h)
 | .cond c x y,Q,e,s,h=>by
  simp only[fS]at h;split at h
  .rename_i b z;refine Ex.cond z ?_;cases b
   .exact aX y Q e s h
   .exact aX x Q e s h
  .exact h.elim
 | .region G ops m,Q,e,s,h=>by
  cases m
  .exact Ex.region (λe s B=>⟨_,aJd V e,B⟩) (λ_ _ h=>h) h
  .refine aTn (Q:=kX (nB V Q) Q) h λx e s u=>?_
   cases x
   case normal=>exact⟨_,aJd V e,u⟩
   all_goals exact⟨e,Env.ge.refl e,u⟩
 | .loop c,Q,e,s,h=>h
 | .rangeFunc ..,Q,e,s,h=>h
 | .scope c,Q,e,s,h=>h
 | .refuse _,Q,e,s,h=>h
end
end
section
def oN:Nat->List A->Env
 | _,[]=>[]
 | k,a::r=>(k,a)::oN (k+1) r
theorem aGc:∀(az:List A) (k t:Nat) (a:A),(oN k az).get t=some a->k<=t/\az[t-k]?=some a
 | [],k,t,a,h=>by simp[oN,Env.get]at h
 | x::r,k,t,a,h=>by
  simp only[oN,Env.get]at h;split at h
  .rename_i m;subst m;simp only[bV]at h;subst h;exact⟨bJ _,by simp⟩
  .rename_i m;obtain⟨y,u⟩:=aGc r (k+1) t a h;refine⟨by omega,?_⟩;rw[show t-k=(t-(k+1))+1 by omega];simpa using u
def sZ(C:Cx)(e:Env)(s:St):List ResultVar->Option (List A)
 | []=>some []
 | .tmp t::r=>match e.get t,sZ C e s r with
  | some a,some l=>some (a::l)
  | _,_=>none
 | .cell p t::r=>match e.get p,sZ C e s r with
  | some (.ptr b o),some l=>match s.getO b with
   | some (.cells _ cs)=>match uK C t cs o with
    | some a=>some (a::l)
    | none=>none
   | _=>none
  | _,_=>none
def aBm:List A->A
 | [a]=>a
 | l=>.tuple l
def lW(C:Cx)(h:List ResultVar)(KV Kp:St->A->Prop):XK->Env->St->Prop
 | .normal,e,s=>match sZ C e s h with
  | some l=>KV s (aBm l)
  | none=>False
 | .ret,e,s=>match sZ C e s h with
  | some l=>KV s (aBm l)
  | none=>False
 | .panic a,_,s=>Kp s a
 | _,_,_=>False
section
variable {C:Cx} {F:Fr} {g:Gh} {s:St} {w:World} {n:Nat} {e:Env}
theorem aPc(hR:R C.toCtx F g s w){b o:Nat}{e:TypeId}{cs:List A}{t:TypeId}{v:A}(hb:s.getO b=some (.cells e cs))(h:uK C t cs o=some v) :
  ∃k u,g.beta b=some k/\(loadVar t ⟨k,o,none⟩).run C.P w=.ok u w/\Rz g v u:=by
 obtain⟨k,vs,rest,S,hh,G,U⟩:=hR.cellsOf hb
 have cell:∀j u,vs[j]?=some u->w.cell? ⟨k,j,none⟩=some u:=by
  intro j u m;simp only[World.cell?,hh,kZ,dA,↓reduceIte,mP];rw[kE (dZ.1 m).1];exact m
 simp only[uK]at h;split at h
 .rename_i M H;split at h
  .rename_i z;split at h
   .rename_i b0;simp only[bV]at h;subst h
    have Z:∀j v,((vs.drop o).take M.sz)[j]?=some v->w.cell? ((⟨k,o,none⟩:Addr).add j)=some v:=by
     intro j v m;rw[mS]at m;split at m
     .rw[mR]at m;rw[kQ,cell _ _ m]
     .simp at m
    have B:((vs.drop o).take M.sz).length=M.sz:=by
     have:=G.1;rw[dT,dS];omega
    have y:=run_loadCells_list (P:=C.P) w ⟨k,o,none⟩ _ Z;rw[B]at y;have hq:=(G.drop o).take M.sz;refine⟨k,.agg ((vs.drop o).take M.sz).toArray,S,?_,.agg _ _ hq.1 (λc Z=>U c (uW (qG Z))) hq.2⟩;simp only[loadVar,bN,cG,bM,aAM H,z,↓reduceIte,lF H,y]
   .simp at h
  .rename_i z;obtain⟨u,hu,hr⟩:=G.get h;have O:M.k.agg=false:=gQ z;refine⟨k,u,S,?_,hr⟩;simp only[loadVar,bN,cG,bM,aAM H,O,dA,↓reduceIte,run_load,cell _ _ hu]
 .simp at h
def wB(h:Array Value):ResultVar->Sem Value
 | .tmp t=>pure (h.getD t undef)
 | .cell a t=>do loadVar t (<-asAddr (h.getD a undef))
theorem aD3(M:R C.toCtx F g s w){m:Array Value}(z:EnvOk g n e m):∀(rs:List ResultVar) (l:List A),sZ C e s rs=some l ->
  ∃vs,(rs.mapM (wB m)).run C.P w=.ok vs w/\Rzs g l vs
 | [],l,h=>by simp[sZ]at h;subst h;exact⟨[],by simp,.nil g⟩
 | .tmp t::r,l,h=>by
  simp only[sZ]at h;split at h
  .rename_i a l' O hl;simp only[bV]at h;subst h;obtain⟨vs,G,H⟩:=aD3 M z r l' hl;obtain⟨u,hu,Z⟩:=z.val t a O;refine⟨u::vs,?_,.cons Z H⟩;have B:(wB m (.tmp t)).run C.P w=.ok u w:=by simp[wB,aFu,hu]
   simp only[List.mapM_cons,bN,cG,bM,G,B]
  .simp at h
 | .cell p t::r,l,h=>by
  simp only[sZ]at h;split at h
  .rename_i b o l' O hl;split at h
   .rename_i cs hcs;split at h
    .rename_i v hv;simp only[bV]at h;subst h;obtain⟨vs,G,H⟩:=aD3 M z r l' hl;obtain⟨u,hu,Z⟩:=z.val p _ O;obtain⟨k,q,S,hq,U⟩:=aPc M hcs hv;obtain⟨k',hp,y⟩:=Z.ptr_inv;rw[S]at y;cases y;refine⟨q::vs,?_,.cons U H⟩;have B:(wB m (.cell p t)).run C.P w=.ok q w:=by simp only[wB,bN,aFu,hu,qL,hp,asAddr,cG,bM,hq]
     simp only[List.mapM_cons,bN,cG,bM,G,B]
    .simp at h
   .simp at h
  .simp at h
theorem aL0{l:List A}{vs:List Value}(h:Rzs g l vs):Rz g (aBm l) (if h:vs.toArray.size=1 then vs.toArray[0] else .tuple vs.toArray):=by
 match l,vs,h with
 | [],[],h=>exact .tuple [] [] rfl bA
 | [a],[v],h=>exact h.2 0 a v bA bA
 | a::b::l,v::u::vs,h =>
  have:¬ (v::u::vs).toArray.size=1:=by simp
  rw[dif_neg this];exact .tuple _ _ h.1 h.2
 | [],_::_,h=>have:=h.1;simp at this
 | _::_,[],h=>have:=h.1;simp at this
 | [_],_::_::_,h=>have:=h.1;simp at this
 | _::_::_,[_],h=>have:=h.1;simp at this
theorem aBG{f:FuncId}{fn:Func}{c:Code}{args:List A}{KV Kp:St->A->Prop}(hf:C.P.funcs[f]?=some fn)(hb:fn.body=some c)
  (y : (fn.name == "runtime.NumGoroutine") = false) (hn : args.length ≤ fn.ntmps)
  (h:Ex C fn.ntmps c (lW C fn.results.toList KV Kp) (oN 0 args) s):Den C f args KV Kp s:=by
 intro F g w vals hR hv
 have G:(callFunc f vals.toArray).run C.P w=.ok (.enter f vals.toArray) w:=by
  simp only[callFunc,bN,run_program,bM,hf,y,dA,↓reduceIte,hb,qI,cG]
 rw[G];refine calls_of_wp hf hb ?_
 have hE:EnvOk g fn.ntmps (oN 0 args) (vals.toArray++Array.replicate (fn.ntmps-vals.toArray.size) undef):=by
  have hl:vals.length=args.length:=hv.1;refine⟨by simp;omega,λt a ha=>?_⟩;obtain⟨_,z⟩:=aGc args 0 t a ha;obtain⟨u,M,H⟩:=hv.get z;rw[Nat.sub_zero]at M;refine⟨u,?_,H⟩;have:t<vals.length:=(dZ.1 M).1;rw[Array.getElem?_append_left (gQ this)];simpa using M
 refine pI (λex B w' hp=>?_) (h F g w ⟨_,[]⟩ hR hE);obtain⟨O,e',s',x,S,z,h3,U,Z,m⟩:=hp
 have fin:∀l,sZ C e' s' fn.results.toList=some l->KV s' (aBm l)->B.defers=[]/\∃v,(results fn B.tmps).run C.P w'=.ok v w'/\aAY C F g KV Kp (.returned v) w':=by
  intro l hl hk;obtain⟨vs,r1,r2⟩:=aD3 z h3 _ _ hl;refine⟨U,_,?_,⟨O,_,s',S,z,aL0 r2,hk⟩⟩;have e0:results fn B.tmps=(do let vs <-fn.results.mapM (wB B.tmps);pure (if h:vs.size=1 then vs[0] else .tuple vs)):=rfl;rw[e0,bN,Array.mapM_eq_mapM_toList,Sem.run_map,r1];rfl
 cases ex<;>cases x<;>try exact Z.elim
 .simp only[lW]at m;split at m
  .rename_i l hl;exact fin l hl m
  .exact m.elim
 .exact m.elim
 .exact m.elim
 .simp only[lW]at m;split at m
  .rename_i l hl;exact fin l hl m
  .exact m.elim
 .obtain⟨v,rfl,H⟩:=Z;exact⟨U,⟨O,_,v,s',rfl,S,z,H,m⟩⟩
theorem Den.mono{f:FuncId}{args:List A}{KV Kp z B:St->A->Prop}(h:Den C f args KV Kp s)(G:∀s a,KV s a->z s a)(M:∀s a,Kp s a->B s a) :
  Den C f args z B s:=by
 intro F g w vals O S;have:=h F g w vals O S;revert this;generalize (callFunc f vals.toArray).run C.P w=r;intro y;cases r with
 | ok x w' =>
  cases x<;>simp only[OutV]at y⊢
  .obtain⟨u,a,s',m,a2,a3,a4⟩:=y;exact⟨u,a,s',m,a2,a3,G _ _ a4⟩
  .obtain⟨u,s',m,a2,a3⟩:=y;exact⟨u,s',m,a2,G _ _ a3⟩
  .refine Calls.mono y λen U H=>?_
   cases en with
   | returned v=>obtain⟨u,a,s',m,a2,a3,a4⟩:=H;exact⟨u,a,s',m,a2,a3,G _ _ a4⟩
   | panicked mK=>obtain⟨u,a,v,s',a0,m,a2,a3,a4⟩:=H;exact⟨u,a,v,s',a0,m,a2,a3,M _ _ a4⟩
   | outgrown=>exact H
 | halt x w' =>
  cases x<;>simp only[OutV]at y⊢
  obtain⟨u,a,s',m,a2,a3,a4⟩:=y;exact⟨u,a,s',m,a2,a3,M _ _ a4⟩
theorem Den.weaken{f:FuncId}{args:List A}{KV Kp:St->A->Prop}{s':St}(y:s.ge s')(h:Den C f args KV Kp s')(u:C.det=false:=by rfl):Den C f args KV Kp s :=
 λF g w vals m z=>h F g w vals (m.weaken y (λh=>by rw[show C.toCtx.det=false from u]at h;cases h)) z
end
def iH:=@Den.weaken
end
section
def aGR:A->Value->Bool
 | .int k n,.int j m=>decide (k=j)&&decide (n=m)
 | .bool b,.bool c=>b == c
 | .str s,.string t=>s.isEmpty&&decide (t.data.toList=[])
 | .nilp,.pointer none=>true
 | .nils,.slice none 0 0=>true
 | .nilf,.nilFunc=>true
 | .nili,.nilIface=>true
 | .nilm,.map none=>true
 | _,_=>false
def aAS:List A->List Value->Bool
 | [],[]=>true
 | a::az,v::vs=>aGR a v&&aAS az vs
 | _,_=>false
theorem aQo{g:Gh}{a:A}{v:Value}(h:aGR a v=true):Rz g a v/\a.one=true:=by
 unfold aGR at h;split at h<;>simp only[bP,bW,beq_iff_eq,dA]at h
 .obtain⟨rfl,rfl⟩:=h;exact⟨.int _ _,rfl⟩
 .subst h;exact⟨.bool _,rfl⟩
 .rename_i s t;obtain⟨m,u⟩:=h;have:s=t.data.toList:=by rw[u];simpa using m
  subst this;exact⟨.str t.data.toList,rfl⟩
 .exact⟨.nilp,rfl⟩
 .exact⟨.nils,rfl⟩
 .exact⟨.nilf,rfl⟩
 .exact⟨.nili,rfl⟩
 .exact⟨.nilm,rfl⟩
theorem aGf{g:Gh}:∀{az:List A} {vs:List Value},aAS az vs=true->Rzs g az vs/\∀c,c∈az->c.one=true
 | [],[],_=>⟨.nil g,by simp⟩
 | a::az,v::vs,h=>by
  simp only[aAS,bP]at h;have u:=aQo (g:=g) h.1;have y:=aGf (g:=g) h.2;exact⟨.cons u.1 y.1,λc m=>by cases m with|head=>exact u.2|tail _ m=>exact y.2 c m⟩
 | [],_::_,h=>by simp[aAS]at h
 | _::_,[],h=>by simp[aAS]at h
def aAQ(P:Program):List Field->List (Nat × Nat × Bool)->Bool
 | [],[]=>true
 | f::h,(o,s,a)::r=>decide (f.offset=o)&&decide ((P.info? f.type).map (·.size)=some s)&&decide (s≠0)&&(P.underlying f.type).isSome&&(zV (P.underlying f.type) == a)&&aAQ P h r
 | _,_=>false
theorem aKt{P:Program}:∀{m:List Field} {l:List (Nat × Nat × Bool)},aAQ P m l=true->m.length=l.length/\∀(i o s:Nat) (a:Bool),l[i]?=some (o,s,a) ->
   ∃f,m[i]?=some f/\f.offset=o/\(P.info? f.type).map (·.size)=some s/\s≠0/\(P.underlying f.type).isSome=true/\zV (P.underlying f.type)=a
 | [],[],_=>⟨rfl,λi o s a h=>by simp at h⟩
 | f::m,(o,s,a)::r,h=>by
  simp only[aAQ,bP,bW,beq_iff_eq]at h;obtain⟨⟨⟨⟨⟨H,M⟩,O⟩,S⟩,U⟩,Z⟩:=h;obtain⟨z,B⟩:=aKt Z;refine⟨by simp[z],λi o' s' y u=>?_⟩;cases i with
  | zero=>simp only[mO,bV,pE]at u;obtain⟨rfl,rfl,rfl⟩:=u;exact⟨f,by simp,H,M,O,S,U⟩
  | succ i=>obtain⟨G,q⟩:=B i o' s' y (gQ u);exact⟨G,gQ q⟩
 | [],_::_,h=>by simp[aAQ]at h
 | _::_,[],h=>by simp[aAQ]at h
def aHM(P:Program)(k:TK)(d:TypeDesc):Bool :=
 match k,d with
 | .int k,.int j=>decide (k=j)
 | .bool,.bool=>true
 | .string,.string=>true
 | .slice e,.slice e'=>decide (e=e')
 | .array n e,.array m e'=>decide (n=m)&&decide (e=e')
 | .struct u,.struct h=>aAQ P h.toList u
 | .iface,.interface _=>true
 | .map e kd,.map y e'=>decide (e=e')&&aHk P y kd
 | .other,.pointer _|.other,.func ..|.other,.map ..|.other,.chan ..|.other,.unsafePointer|.other,.float _|.other,.complex _=>true
 | _,_=>false
theorem aT3{P:Program}{k:TK}{d:TypeDesc}(h:aHM P k d=true):k.ok P d:=by
 unfold aHM at h;split at h<;>(try simp only[bP,bW,dA]at h)<;>simp only[TK.ok]
 .subst h;rfl
 .subst h;rfl
 .obtain⟨rfl,rfl⟩:=h;rfl
 .rename_i G m;obtain⟨u,y⟩:=aKt h;exact⟨m,rfl,gQ u,λi o s a B=>by obtain⟨f,q⟩:=y i o s a B;exact⟨f,gQ q⟩⟩
 .exact⟨_,rfl⟩
 .obtain⟨rfl,z⟩:=h;exact⟨_,rfl,aRT z⟩
 all_goals exact⟨rfl,by simp⟩
def aMF:Value->Bool
 | .agg _=>true
 | _=>false
def aHJ(P:Program)(t:TypeId)(h:TI):Bool :=
 match P.info? t,P.underlying t with
 | some i,some d=>decide (i.size=h.sz)&&decide (i.bytes=h.bytes)&&decide (h.zero.length=h.sz)&&(match i.zero with|some z=>aAS h.zero z.cells.toList&&(aMF z == h.k.agg)|none=>false)&&aHM P h.k d
 | _,_=>false
theorem aTL{P:Program}{t:TypeId}{G:TI}(h:aHJ P t G=true):G.ok P t:=by
 unfold aHJ at h;split at h
 .rename_i i d B Z;simp only[bP,bW]at h;obtain⟨⟨⟨⟨H,M⟩,O⟩,m⟩,S⟩:=h;split at m
  .rename_i z hz;simp only[bP,beq_iff_eq]at m;obtain⟨m,U⟩:=m;refine⟨⟨i,z,B,H,M,hz,λg=>(aGf (g:=g) m).1⟩,(aGf (g:=⟨λ_=>none,λ_ _=>none,λ_=>none,default,#[]⟩) m).2,O,⟨d,Z,aT3 S⟩,λi' z' u y=>?_⟩;rw[B]at u;cases u;rw[hz]at y;cases y;rw[<-U];cases z<;>simp[aMF]
  .cases m
 .cases h
section
variable (C:Cx) (n:Nat) (V:List Nat) (Q:XK->Env->St->Prop) (e:Env) (s:St)
@[go_sem] theorem aWA:fS C n V .skip Q e s=Q .normal e s:=rfl
@[go_sem] theorem aWb(l:Nat):fS C n V (.label l) Q e s=Q .normal e s:=rfl
@[go_sem] theorem aWl(i:Nat):fS C n V (.exit i) Q e s=Q (.exit i) e s:=rfl
@[go_sem] theorem aWI(i:Nat):fS C n V (.goto i) Q e s=Q (.goto i) e s:=rfl
@[go_sem] theorem aWM:fS C n V .ret Q e s=Q .ret e s:=rfl
@[go_sem] theorem aWZ(c d:Code):fS C n V (.seq c d) Q e s=fS C n V c (kX (fS C n V d Q) Q) e s:=rfl
@[go_sem] theorem aV6(i:Nat)(c:Code):fS C n V (.block i c) Q e s=fS C n V c (vN i Q) e s:=rfl
def brK(C:Cx)(n:Nat)(V:List Nat)(x y:Code)(Q:XK->Env->St->Prop)(e:Env)(s:St):Option A->Prop
 | some (.bool true)=>fS C n V x Q e s
 | some (.bool false)=>fS C n V y Q e s
 | _=>False
@[go_sem] theorem aWn (c:Operand) (x y:Code):fS C n V (.cond c x y) Q e s=brK C n V x y Q e s (eZ C e c):=by
 show(match eZ C e c with
  | some (.bool b)=>match b with
   | true=>fS C n V x Q e s
   | false=>fS C n V y Q e s
  | _=>False)=_
 cases eZ C e c with
 | none=>rfl
 | some a=>cases a<;>first|rfl|(rename_i b;cases b<;>rfl)
@[go_sem] theorem aWB(x y:Code):brK C n V x y Q e s (some (.bool true))=fS C n V x Q e s:=rfl
@[go_sem] theorem aVZ(x y:Code):brK C n V x y Q e s (some (.bool false))=fS C n V y Q e s:=rfl
@[go_sem] theorem aVP(h:Nat)(ops:Array Oper):fS C n V (.region h ops false) Q e s=iG C n (ops.toList.map (·.dst)) ops.toList (nB V Q) (aAc Q (ops.toList.map (·.dst)) e) e s:=rfl
@[go_sem] theorem aWh(h:Nat)(ops:Array Oper):fS C n V (.region h ops true) Q e s=aEn C n h ops (kX (nB V Q) Q) e s:=rfl
@[go_sem] theorem aWJ(c:Code):fS C n V (.loop c) Q e s=Ex C n (.loop c) Q e s:=rfl
variable (ds:List (Option Tmp)) (K:Env->St->Prop) (Kp:St->A->Prop)
@[go_sem] theorem aWL:iG C n ds [] K Kp e s=K e s:=rfl
@[go_sem] theorem aWi (dst:Option Tmp) (op:Op) (ty:TypeId) (pos:String) (after:Array Edge) (r:List Oper) :
  iG C n ds (⟨dst,op,ty,pos,after,none⟩::r) K Kp e s=bF C op (eZ C e) (cX n dst (iG C n ds r K Kp) e) Kp s:=rfl
def tC(C:Cx)(n:Nat)(ds:List (Option Tmp))(dst:Option Tmp)(op:Op)(r:List Oper)(K:Env->St->Prop)(Kp:St->A->Prop)(e:Env)(s:St)(t:Nat)(h:Bool):Option A->Prop
 | some (.bool true)=>match h with
  | true=>bF C op (eZ C (e.put t (.bool true))) (cX n dst (iG C n ds r K Kp) (e.put t (.bool true))) Kp s
  | false=>cX n dst (iG C n ds r K Kp) (e.put t (.bool true)) s (.tuple [])
 | some (.bool false)=>match h with
  | false=>bF C op (eZ C (e.put t (.bool false))) (cX n dst (iG C n ds r K Kp) (e.put t (.bool false))) Kp s
  | true=>cX n dst (iG C n ds r K Kp) (e.put t (.bool false)) s (.tuple [])
 | some (.tuple _)=>cX n dst (iG C n ds r K Kp) e s (.tuple [])
 | _=>False
def gdT(C:Cx)(n:Nat)(ds:List (Option Tmp))(dst:Option Tmp)(op:Op)(r:List Oper)(K:Env->St->Prop)(Kp:St->A->Prop)(e:Env)(s:St)(h:Bool):Option Tmp->Prop
 | none=>False
 | some t=>tC C n ds dst op r K Kp e s t h (e.get t)
@[go_sem] theorem aWc (dst:Option Tmp) (op:Op) (ty:TypeId) (pos:String) (after:Array Edge) (j:Nat) (h:Bool) (r:List Oper) :
  iG C n ds (⟨dst,op,ty,pos,after,some (j,h)⟩::r) K Kp e s=gdT C n ds dst op r K Kp e s h (mL ds j):=by
 simp only[iG];unfold gdT;cases mL ds j with
 | none=>rfl
 | some t =>
  simp only[tC];cases e.get t with
  | none=>rfl
  | some a=>cases a<;>first|rfl|(rename_i b;cases b<;>cases h<;>rfl)
@[go_sem] theorem aWk(dst:Option Tmp)(op:Op)(r:List Oper)(h:Bool)(t:Nat):gdT C n ds dst op r K Kp e s h (some t)=tC C n ds dst op r K Kp e s t h (e.get t):=rfl
@[go_sem] theorem aXg(dst:Option Tmp)(op:Op)(r:List Oper)(t:Nat):tC C n ds dst op r K Kp e s t true (some (.bool true))=bF C op (eZ C (e.put t (.bool true))) (cX n dst (iG C n ds r K Kp) (e.put t (.bool true))) Kp s:=rfl
@[go_sem] theorem aXb(dst:Option Tmp)(op:Op)(r:List Oper)(t:Nat):tC C n ds dst op r K Kp e s t true (some (.bool false))=cX n dst (iG C n ds r K Kp) (e.put t (.bool false)) s (.tuple []):=rfl
@[go_sem] theorem aXq(dst:Option Tmp)(op:Op)(r:List Oper)(t:Nat):tC C n ds dst op r K Kp e s t false (some (.bool true))=cX n dst (iG C n ds r K Kp) (e.put t (.bool true)) s (.tuple []):=rfl
@[go_sem] theorem aW7(dst:Option Tmp)(op:Op)(r:List Oper)(t:Nat):tC C n ds dst op r K Kp e s t false (some (.bool false))=bF C op (eZ C (e.put t (.bool false))) (cX n dst (iG C n ds r K Kp) (e.put t (.bool false))) Kp s:=rfl
@[go_sem] theorem aXM(dst:Option Tmp)(op:Op)(r:List Oper)(t:Nat)(h:Bool)(l:List A):tC C n ds dst op r K Kp e s t h (some (.tuple l))=cX n dst (iG C n ds r K Kp) e s (.tuple []):=by
 cases h<;>rfl
@[go_sem] theorem aWd(d:Tmp)(v:A):cX n (some d) K e s v=(d<n/\K (e.put d v) s):=rfl
@[go_sem] theorem aWC(sz:Nat)(K:A->Prop)(x:A):elK sz K (some x)=(x.cells.length=sz/\K (.eptr x.cells 0)):=rfl
@[go_sem] theorem aWm(K:A->Prop)(c:UInt8):chK K (some c)=K (.int .u8 c.toNat):=rfl
@[go_sem] theorem aWa(v:A):cX n none K e s v=K e s:=rfl
end
attribute [go_sem] aMC aMs aHt
attribute [go_sem] nB aAc aPk aR1 aSB aQq aQW aN4 aQg aP3 aOr aO2
attribute [go_sem] Env.get Env.put Env.keep mL eZ aEf aB7 aAR mY nS rC bF cJ aHG aAX unA aHh uK pJ A.cells A.one aBm sZ lW oN aAO aEt vR xY wF tB TK.agg jM aCH uS aAd vZ aEr hlA
attribute [go_sem] aO nH lL qK Int.ofNat_lt Int.ofNat_le Int.natCast_nonneg Int.natCast_inj aAh
@[go_sem] theorem aVQ:iF []=true:=rfl
@[go_sem] theorem aVM(a:A)(l:List A):iF (a::l)=(a.one&&iF l):=rfl
attribute [go_sem] Env.has bV A.int.injEq A.str.injEq A.bool.injEq A.list.injEq A.ptr.injEq A.agg.injEq
@[go_sem] theorem aV0(tk:Option Nat)(es:List A):nA (.list tk es)=some (.int .i64 es.length):=rfl
@[go_sem] theorem aWe:nA .nils=some (.int .i64 0):=rfl
@[go_sem] theorem aWN(b o n:Nat):nA (.ml b o n)=some (.int .i64 n):=rfl
@[go_sem] theorem aWq:nA .emp=some (.int .i64 0):=rfl
@[go_sem] theorem aWY(b n c:Nat):nA (.mg b n c)=some (.int .i64 n):=rfl
@[go_sem] theorem aWf(C:Cx)(s:St)(e:TypeId)(h:TI)(ys:List A)(KV:St->A->Prop):rD C s e h ys KV .nils=(ys.length<=4294967296/\qA C s ys.length e h.sz ys KV):=rfl
@[go_sem] theorem aV4(C:Cx)(s:St)(e:TypeId)(h:TI)(KV:St->A->Prop):rD C s e h [] KV .emp=KV s .emp:=rfl
@[go_sem] theorem aWD(C:Cx)(s:St)(e:TypeId)(h:TI)(y:A)(r:List A)(KV:St->A->Prop):rD C s e h (y::r) KV .emp=(((y::r).length<=4294967296/\0<(y::r).length)/\qA C s (y::r).length e h.sz (y::r) KV):=rfl
@[go_sem] theorem aWP(C:Cx)(s:St)(e:TypeId)(h:TI)(ys:List A)(KV:St->A->Prop)(b n cap:Nat):rD C s e h ys KV (.mg b n cap)=vU C.det s b n cap e h.sz ys.length ys KV (s.getO b):=rfl
@[go_sem] theorem aVU(C:Cx)(s:St)(e:TypeId)(h:TI)(ys:List A)(KV:St->A->Prop)(t:Nat)(es:List A):rD C s e h ys KV (.list (some t) es) =
 (s.getT t=some (es.length,e)/\(∀y,y∈es->y.cells.length=h.sz)/\es.length+ys.length<=4294967296/\KV (s.setT t (es.length+ys.length,e)) (.list (some t) (es++ys))):=rfl
theorem fV(x:Int)(h:-9223372036854775808<=x)(m:x<=9223372036854775807):IntKind.i64.wrap x=x:=IntWalk.i64_in x ⟨h,m⟩
theorem aU(i:Nat)(h:i<9223372036854775807):IntKind.i64.wrap ((i:Int)+1)=((i+1:Nat):Int):=by
 rw[fV _ aB aB];rfl
end
section
section
variable {C:Cx} {s:St} {ρ ρ':Operand->Option A} {K:A->Prop}
theorem aDa:∀{l:List Operand},(∀x,x∈l->ρ x=ρ' x)->mY ρ l=mY ρ' l
 | [],_=>rfl
 | x::r,h=>by
  have m:mY ρ r=mY ρ' r:=aDa λy u=>h y (eA x u)
  simp only[mY,h x bA,m]
theorem aFH:∀{l:List (Nat × Operand)},(∀x,x∈l.map (·.2)->ρ x=ρ' x)->nS ρ l=nS ρ' l
 | [],_=>rfl
 | (i,x)::r,h=>by
  have m:nS ρ r=nS ρ' r:=aFH λy u=>h y (by simp only[bX,dG];exact .inr u)
  simp only[nS,h x bA,m]
theorem aJS{o:Option Operand}(h:∀x,o=some x->ρ x=ρ' x):rC ρ o=rC ρ' o:=by
 cases o with
 | none=>rfl
 | some x=>simp only[rC,h x rfl]
theorem wL{op:Op}(h:∀x,x∈op.operands->ρ x=ρ' x):cJ C op ρ K=cJ C op ρ' K:=by
  cases op
  case build t ps =>
    have:nS ρ ps.toList=nS ρ' ps.toList:=aFH λx hx=>h x (by simpa [Op.operands]using hx)
    simp only[cJ,this]
  case buildSlice t n ps =>
    have:nS ρ ps.toList=nS ρ' ps.toList:=aFH λx hx=>h x (by simpa [Op.operands]using hx)
    simp only[cJ,this]
  case makeFunc fn first caps =>
    have h1:mY ρ first.toList=mY ρ' first.toList:=aDa λx hx=>h x (by simp[Op.operands];exact .inl (gQ hx))
    have h2:mY ρ caps.toList=mY ρ' caps.toList:=aDa λx hx=>h x (by simp[Op.operands];exact .inr (gQ hx))
    cases fn<;>simp only[cJ,h1,h2]
  case call c =>
    obtain⟨cal,args,ats⟩:=c;obtain⟨args⟩:=args;obtain⟨ats⟩:=ats;have h1:∀x,x∈args->ρ x=ρ' x:=λx hx=>h x (by simp[Op.operands,Call.operands,hx])
    simp only[cJ];split
    · simp_all
    · simp_all
    · simp_all
    · simp_all
    · simp_all
    · simp_all
    · rfl
  case slice t x lo hi mx =>
    have h1:=h x (by simp[Op.operands]);have h2:rC ρ lo=rC ρ' lo:=aJS λy hy=>h y (by simp[Op.operands,hy])
    have h3:rC ρ hi=rC ρ' hi:=aJS λy hy=>h y (by simp[Op.operands,hy])
    cases mx with
    | none=>simp only[cJ,h1,h2,h3]
    | some mx =>
      have h4:=h mx (by simp[Op.operands]);cases lo with
      | some lo=>simp only[cJ]
      | none=>cases hi with
        | none=>simp only[cJ]
        | some hi =>
          have h5:=h hi (by simp[Op.operands]);simp only[cJ,h1,h4,h5]
  all_goals first
    | rfl
    | (simp only [Op.operands,List.mem_toArray,Array.mem_def,dG,iI,eJ,forall_eq_or_imp,forall_eq] at h
       simp only[cJ,h])
theorem aJZ{op:Op}{KV Kp:St->A->Prop}(h:∀x,x∈op.operands->ρ x=ρ' x)(O:bF C op ρ KV Kp s):bF C op ρ' KV Kp s:=by
 have key:bF C op ρ KV Kp s=bF C op ρ' KV Kp s:=by
  cases op
  case load t x =>
   have z:=h x (by simp[Op.operands]);simp only[bF,z,wL (C:=C) (K:=KV s) h]
  case store t x y =>
   simp only[bF,h x (by simp[Op.operands]),h y (by simp[Op.operands])]
  case box t x=>simp only[bF,h x (by simp[Op.operands])]
  case makeMap t r=>cases r<;>rfl
  case lookup t x k b=>simp only[bF,h x (by simp[Op.operands]),h k (by simp[Op.operands])]
  case mapUpdate t x k y=>simp only[bF,h x (by simp[Op.operands]),h k (by simp[Op.operands]),h y (by simp[Op.operands])]
  case panic x=>simp only[bF,h x (by simp[Op.operands])]
  case range t x=>simp only[bF,h x (by simp[Op.operands])]
  case convert a b x =>
   have z:=h x (by simp[Op.operands]);simp only[bF,z,wL (C:=C) (K:=KV s) h]
  case makeSlice t a b=>simp only[bF,h a (by simp[Op.operands]),h b (by simp[Op.operands])]
  case next x b =>
   cases b
   .exact wL (C:=C) (K:=KV s) h
   .simp only[bF,h x (by simp[Op.operands])]
  case alloc=>rfl
  case buildSlice t len M=>simp only[bF,wL (C:=C) (K:=KV s) h,wL (C:=C) (K:=aBb C s t KV) h]
  case call c =>
   have G:=wL (C:=C) (K:=KV s) h;obtain⟨H,args,B⟩:=c;obtain⟨args⟩:=args;obtain⟨B⟩:=B;have z:∀x,x∈args->ρ x=ρ' x:=λx S=>h x (by simp[Op.operands,Call.operands,S])
   cases H with
   | value f=>simp only[bF,h f (by simp[Op.operands,Call.operands]),aDa z]
   | invoke r m=>exact G
   | builtin b =>
    cases b
    case append =>
     match args,B,z with
     | [x,y],[t,u],z=>simp only[bF,z x bA,z y bA]
     | [],_,z=>rfl
     | [_],_,z=>rfl
     | _::_::_::_,_,z=>rfl
     | [_,_],[],z=>rfl
     | [_,_],[_],z=>rfl
     | [_,_],_::_::_::_,z=>rfl
    case unsafeString =>
     match args,B,z with
     | [x,y],[t,u],z=>simp only[bF,z x bA,z y bA]
     | [],_,z=>rfl
     | [_],_,z=>rfl
     | _::_::_::_,_,z=>rfl
     | [_,_],[],z=>rfl
     | [_,_],[_],z=>rfl
     | [_,_],_::_::_::_,z=>rfl
    case panic =>
     match args,z with
     | [],z=>rfl
     | [x],z=>simp only[bF,z x bA]
     | _::_::_,z=>rfl
    all_goals exact G
  case binOp op t x y U =>
   have G:=wL (C:=C) (K:=KV s) h;cases op
   case eql=>simp only[bF,G,h x (by simp[Op.operands]),h y (by simp[Op.operands])]
   all_goals exact G
  all_goals exact wL (C:=C) (K:=KV s) h
 rw[<-key];exact O
theorem aLQ{op:Op}(h:cJ C op ρ K):∃v,K v/\∀K':A->Prop,K' v->cJ C op ρ K':=by
  have one:∀{o:Option A} {K:A->Prop},(match o with|some v=>K v|none=>False)->∃v,K v/\o=some v:=by
    intro o K h;cases o with
    | none=>exact h.elim
    | some v=>exact⟨v,h,rfl⟩
  have cut:∀{x:A} {lo hi:Option A} {K:A->Prop},xY x lo hi K->∃v,K v/\∀K':A->Prop,K' v->xY x lo hi K':=by
    intro x lo hi K h;unfold xY at h⊢;cases x<;>simp only at h⊢
    all_goals first
      | exact h.elim
      | (split at h
         · rename_i h1 h2
           exact⟨_,h.2,λK' hk=>⟨h.1,hk⟩⟩
         · exact h.elim)
  cases op<;>simp only[cJ]at h⊢
  case move x=>obtain⟨v,h1,h2⟩:=one h;exact⟨v,h1,λK' hk=>by simpa only[h2]using hk⟩
  case assign x=>obtain⟨v,h1,h2⟩:=one h;exact⟨v,h1,λK' hk=>by simpa only[h2]using hk⟩
  case call c =>
    split at h<;>(try exact h.elim)
    · split at h<;>(try exact h.elim)
      split at h<;>(try exact h.elim)
      all_goals (obtain⟨v,h1,h2⟩:=one h;exact⟨v,h1,λK' hk=>by simpa only[h2]using hk⟩)
    · split at h<;>(try exact h.elim)
      all_goals exact⟨_,h,λK' hk=>hk⟩
    · split at h<;>(try exact h.elim)
      split at h<;>(try exact h.elim)
      rename_i e hk0;exact⟨_,h,λK' hk=>hk⟩
    · split at h<;>(try exact h.elim)
      all_goals exact⟨_,h,λK' hk=>hk⟩
    · split at h<;>(try exact h.elim)
      all_goals exact⟨_,h,λK' hk=>hk⟩
    · split at h<;>(try exact h.elim)
      all_goals exact⟨_,h,λK' hk=>hk⟩
  case makeFunc fn first caps =>
    cases fn
    all_goals simp only at h⊢
    · split at h
      · exact⟨_,h,λK' hk=>by simp_all only[]⟩
      · exact h.elim
    all_goals exact h.elim
  all_goals
    repeat' split at h
  all_goals first
    | exact h.elim
    | (obtain⟨v,h1,h2⟩:=one h;exact⟨v,h1,λK' hk=>by simp_all only[sJ,gG,reduceIte,reduceCtorEq,dA,fP,iB]⟩)
    | exact⟨_,h,λK' hk=>by simp_all only[sJ,gG,reduceIte,reduceCtorEq,dA,fP,iB]⟩
    | exact⟨_,h.2,λK' hk=>⟨h.1,hk⟩⟩
    | exact⟨_,h.2,λK' hk=>by simp_all only[sJ,gG,reduceIte,reduceCtorEq,dA,fP,iB]⟩
    | exact⟨_,h.2.2,λK' hk=>⟨h.1,h.2.1,hk⟩⟩
    | exact cut h
    | (obtain⟨v,h1,h2⟩:=cut h.2;exact⟨v,h1,λK' hk=>⟨h.1,h2 K' hk⟩⟩)
    | (obtain ⟨hx,hy⟩ := h
       rw[dI hx.2]at hy⊢;exact⟨_,hy.2,λK' hk=>⟨hx,hy.1,hk⟩⟩)
    | (obtain ⟨hx,hy⟩ := h
       rw[dI hx.2]at hy⊢;exact⟨_,hy,λK' hk=>⟨hx,hk⟩⟩)
theorem pK{K':A->Prop}{op:Op}(h:cJ C op ρ K)(y:∀v,K v->K' v):cJ C op ρ K':=by
 obtain⟨v,m,u⟩:=aLQ h;exact u K' (y v m)
theorem aCj{op:Op}{KV Kp:St->A->Prop}(h:cJ C op ρ (KV s)):bF C op ρ KV Kp s:=by
 cases op
 case load t x =>
  have u:=h;simp only[cJ]at u;split at u
  .rename_i z;simp only[bF,z];exact h
  .exact u.elim
 case store=>simp only[cJ]at h
 case buildSlice t len G =>
  simp only[bF];split
  .exact h
  .exact .inl h
 case alloc=>simp only[cJ]at h
 case box=>simp only[cJ]at h
 case panic=>simp only[cJ]at h
 case range=>simp only[cJ]at h
 case makeSlice=>simp only[cJ]at h
 case convert a b x =>
  have u:=h;simp only[cJ]at u;split at u
  .rename_i z _ _;simp only[bF,z];exact h
  .rename_i z _ _;simp only[bF,z];exact h
  .exact u.elim
 case next x b=>cases b<;>simp only[cJ]at h
 case call c =>
  obtain⟨B,args,H⟩:=c;cases B with
  | value f=>simp only[cJ]at h
  | invoke r m=>simp only[cJ]at h
  | builtin b=>cases b<;>first|exact h|(simp only[cJ]at h)
 case binOp op t x y M =>
  cases op
  case eql =>
   simp only[bF];split
   .exact .inl h
   .exact h
  all_goals exact h
 case makeMap=>simp only[cJ]at h
 case lookup=>simp only[cJ]at h
 case mapUpdate=>simp only[cJ]at h
 all_goals exact h
theorem aBS{o:Ob}{f:Nat->A}{KV m:St->A->Prop}(h:sX C s o f KV)(u:∀s a,KV s a->m s a):sX C s o f m:=by
 unfold sX at *;cases z:C.det<;>rw[z]at h
 ·exactλb y=>u _ _ (h b y)
 .exact u _ _ h
theorem aDt{n:Nat}{e:TypeId}{ys:List A}{KV m:St->A->Prop}(h:newT C s n e ys KV)(u:∀s a,KV s a->m s a):newT C s n e ys m:=by
 unfold newT at *;cases z:C.det<;>rw[z]at h
 ·exactλb y=>u _ _ (h b y)
 .exact u _ _ h
theorem aKq{n:Nat}{e:TypeId}{sz:Nat}{ys:List A}{KV m:St->A->Prop}(h:qA C s n e sz ys KV)(u:∀s a,KV s a->m s a):qA C s n e sz ys m:=by
 unfold qA at *;cases z:C.det<;>rw[z]at h
 .cases B:Nat.beq C.mu 1<;>rw[B]at h
  .exact aDt h u
  .exact⟨h.1,λb cap J y a2 a3 a4=>u _ _ (h.2 b cap J y a2 a3 a4)⟩
 .exact aDt h u
theorem aQE{det:Bool}{b n cap:Nat}{e:TypeId}{sz m:Nat}{ys:List A}{o:Option Ob}{KV u:St->A->Prop}(h:vU det s b n cap e sz m ys KV o)(G:∀s a,KV s a->u s a) :
  vU det s b n cap e sz m ys u o:=by
 unfold vU at *;split at h
 .exact⟨h.1,λB y J z a2 a3 a4=>G _ _ (h.2 B y J z a2 a3 a4)⟩
 .exact h.elim
theorem aRC{n:Nat}{e:TypeId}{KV m:St->A->Prop}(h:aA7 C s n e KV)(u:∀s a,KV s a->m s a):aA7 C s n e m:=by
 unfold aA7 at *;cases z:C.det<;>rw[z]at h
 ·exactλb y=>u _ _ (h b y)
 .exact u _ _ h
theorem aRe{e:TypeId}{bs:List UInt8}{a:A}{KV m:St->A->Prop}(h:aA9 C s e bs KV a)(u:∀s a,KV s a->m s a):aA9 C s e bs m a:=by
 cases a<;>simp only[aA9]at h⊢
 case nils=>exact⟨h.1,aDt h.2 u⟩
 case list tk es =>
  cases tk with
  | none=>exact h
  | some t=>exact⟨h.1,u _ _ h.2⟩
theorem aRw{y:TI}{u:TypeId}{n:Int}{a:A}{KV m:St->A->Prop}(h:uM C s y u n KV a)(z:∀s a,KV s a->m s a):uM C s y u n m a:=by
 cases a<;>simp only[uM]at h⊢
 split at h
 .split at h
  .split at h
   .exact⟨h.1,aRC h.2 z⟩
   .exact h.elim
  .exact h.elim
 .exact h.elim
theorem aKx{B:TI}{t u:TypeId}{a:A}{KV y:St->A->Prop}(h:aAb C s B t u KV a)(z:∀s a,KV s a->y s a):aAb C s B t u y a:=by
 unfold aAb at h⊢;split at h
 .split at h
  .refine⟨h.1,?_⟩;have m:=h.2;split at m
   .exact z _ _ m
   .exact z _ _ m
   .exact z _ _ m
   .exact z _ _ m
   .exact m.elim
  .exact h.elim
 .exact h.elim
theorem aKH{n sz:Nat}{e:TypeId}{ys:List A}{KV m:St->A->Prop}(h:vZ C s n e ys sz KV)(u:∀s a,KV s a->m s a):vZ C s n e ys sz m:=by
 unfold vZ at *;cases z:C.det<;>rw[z]at h
 ·exactλb y=>u _ _ (h b y)
 .exact u _ _ h
theorem aRY{G:TI}{t u:TypeId}{z a:A}{KV y:St->A->Prop}(h:aAd C s G t u z KV a)(B:∀s a,KV s a->y s a):aAd C s G t u z y a:=by
 unfold aAd at h⊢;split at h
 .split at h
  .refine⟨h.1,?_⟩;have m:=h.2;split at m
   .exact aKH m B
   .split at m
    .exact⟨m.1,aKH m.2 B⟩
    .exact m.elim
   .exact m.elim
  .exact h.elim
 .exact h.elim
theorem aSv{k n z:Nat}{u:TI}{v:A}{KV m:St->A->Prop}(h:uS C s k n z u v KV)(y:∀s a,KV s a->m s a):uS C s k n z u v m:=by
 unfold uS at h⊢;split at h
 .split at h
  .exact⟨h.1,y _ _ h.2⟩
  .exact h.elim
 .exact h.elim
theorem aRV{t:TypeId}{ok:Bool}{b:Nat}{a:A}{KV m:St->A->Prop}(h:aAa C s t ok b a KV)(u:∀s a,KV s a->m s a):aAa C s t ok b a m:=by
 unfold aAa at h⊢;split at h
 .exact u _ _ h
 .exact h.elim
theorem aRO{t:TypeId}{b:Nat}{a v:A}{KV m:St->A->Prop}(h:aA6 C s t b a v KV)(u:∀s a,KV s a->m s a):aA6 C s t b a v m:=by
 unfold aA6 at h⊢;split at h
 .split at h
  .split at h
   .exact⟨h.1,u _ _ h.2⟩
   .exact h.elim
  .exact h.elim
 .exact h.elim
theorem aDJ{op:Op}{KV Kp H M:St->A->Prop}(h:bF C op ρ KV Kp s)(z:∀s a,KV s a->H s a)(U:∀s a,Kp s a->M s a):bF C op ρ H M s:=by
 cases op
 case load t x =>
  simp only[bF]at h⊢;split at h
  .split at h
   .split at h
    .exact z _ _ h
    .exact h.elim
   .exact h.elim
  .exact pK h (z s)
 case store t x y =>
  simp only[bF]at h⊢;split at h
  .split at h
   .exact⟨h.1,z _ _ h.2⟩
   .exact h.elim
  .exact aSv h z
  .exact h.elim
 case alloc t =>
  simp only[bF]at h⊢;split at h
  .exact aBS h z
  .exact h.elim
 case box t x =>
  simp only[bF]at h⊢;split at h
  .exact⟨h.1,aBS h.2 z⟩
  .exact h.elim
 case panic x =>
  simp only[bF]at h⊢;split at h
  .exact U _ _ h
  .exact h.elim
 case buildSlice t len b0 =>
  simp only[bF]at h⊢;split at h
  .exact pK h (z s)
  .rcases h with h|h
   .exact .inl (pK h (z s))
   .refine .inr (pK h λa G=>?_);unfold aBb at G⊢;split at G
    .split at G
     ·exactλk hk=>z _ _ (G k hk)
     .exact G.elim
    .exact G.elim
 case convert a b x =>
  simp only[bF]at h⊢;split at h
  .split at h
   .split at h
    .exact⟨h.1,z _ _ h.2⟩
    .exact h.elim
   .exact h.elim
  .exact pK h (z s)
 case makeMap t r =>
  cases r with
  | some r=>simp only[bF,cJ]at h
  | none =>
   simp only[bF,aEF]at h⊢;split at h
   .split at h
    .exact aBS h z
    .exact h.elim
   .exact h.elim
 case lookup t x k b =>
  simp only[bF]at h⊢;split at h
  .exact aRV h z
  .exact h.elim
 case mapUpdate t x k y =>
  simp only[bF]at h⊢;split at h
  .exact aRO h z
  .exact h.elim
 case makeSlice t a b =>
  simp only[bF]at h⊢;split at h
  .split at h
   .split at h
    .exact⟨h.1,aBS h.2 z⟩
    .exact h.elim
   .exact h.elim
  .exact h.elim
 case range t x =>
  simp only[bF]at h⊢;split at h
  .split at h
   .exact aBS h z
   .exact h.elim
  .exact h.elim
 case next x b =>
  cases b
  .simp only[bF,cJ]at h
  simp only[bF]at h⊢;split at h
  .split at h
   .unfold aEl at h⊢;split at h
    .rename_i Z;rw[aF Z];exact z _ _ h
    .rename_i Z;rw[aD Z];exact z _ _ h
   .exact h.elim
  .exact h.elim
 case call c =>
  obtain⟨S,args,B⟩:=c;obtain⟨args⟩:=args;obtain⟨B⟩:=B;cases S with
  | value f =>
   simp only[bF]at h⊢;split at h
   .exact Den.mono h z U
   .exact h.elim
  | invoke r m=>refine aCj (pK (K:=KV s) ?_ (z s));exact h
  | builtin b =>
   cases b
   case append =>
    match args,B,h with
    | [x,y],[t,u],h =>
     simp only[bF]at h⊢;split at h
     .split at h
      .split at h
       .obtain⟨O,a2,a3⟩:=h;refine⟨O,a2,?_⟩;unfold rD at a3⊢;split at a3
        .exact⟨a3.1,aKq a3.2 z⟩
        .split at a3
         .exact z _ _ a3
         .exact⟨a3.1,aKq a3.2 z⟩
        .exact aQE a3 z
        .exact⟨a3.1,a3.2.1,a3.2.2.1,z _ _ a3.2.2.2⟩
        .exact⟨a3.1,aDt a3.2 z⟩
        .exact a3.elim
       .exact h.elim
      .exact h.elim
     .split at h
      .exact aRe h z
      .exact h.elim
     .exact aRw h z
     .exact aKx h z
     .exact aKx h z
     .exact aRY h z
     .exact h.elim
    | [],_,h=>simp only[bF]at h
    | [_],_,h=>simp only[bF]at h
    | _::_::_::_,_,h=>simp only[bF]at h
    | [_,_],[],h=>simp only[bF]at h
    | [_,_],[_],h=>simp only[bF]at h
    | [_,_],_::_::_::_,h=>simp only[bF]at h
   case unsafeString =>
    match args,B,h with
    | [x,y],[t,u],h =>
     simp only[bF]at h⊢;split at h
     .exact⟨h.1,z _ _ h.2⟩
     .split at h
      .obtain⟨O,bs,a2,a3⟩:=h;exact⟨O,bs,a2,z _ _ a3⟩
      .exact h.elim
     .exact h.elim
    | [],_,h=>simp only[bF]at h
    | [_],_,h=>simp only[bF]at h
    | _::_::_::_,_,h=>simp only[bF]at h
    | [_,_],[],h=>simp only[bF]at h
    | [_,_],[_],h=>simp only[bF]at h
    | [_,_],_::_::_::_,h=>simp only[bF]at h
   case panic =>
    match args,h with
    | [],h=>simp only[bF]at h
    | [x],h =>
     simp only[bF]at h⊢;split at h
     .exact U _ _ h
     .exact h.elim
    | _::_::_,h=>simp only[bF]at h
   all_goals (refine aCj (pK (K:=KV s) ?_ (z s));exact h)
 case binOp op t x y yt =>
  cases op
  case eql =>
   simp only[bF]at h⊢;split at h
   .rcases h with h|⟨hn,ht,hf⟩
    .exact .inl (pK h (z s))
    .exact .inr ⟨hn,z _ _ ht,z _ _ hf⟩
   .exact pK h (z s)
  all_goals (refine aCj (pK (K:=KV s) ?_ (z s));exact h)
 all_goals (refine aCj (pK (K:=KV s) ?_ (z s));exact h)
end
end
section
def aMV:Operand->Bool
 | .tmp t=>t == 38
 | _=>false
def aMP:Bool->List (Nat × Operand)->Bool
 | true,_=>true
 | false,[]=>false
 | false,(_,x)::_=>aMV x
def kI:Op->Bool
 | .store ..=>true
 | .alloc _=>true
 | .box ..=>true
 | .panic _=>true
 | .range ..=>true
 | .makeSlice ..=>true
 | .next ..=>true
 | .makeMap ..=>true
 | .mapUpdate ..=>true
 | .buildSlice _ len h=>aMP (Nat.beq len 2) h.toList
 | .call c=>match c.callee with
  | .builtin .len=>false
  | .builtin .max=>false
  | .builtin .min=>false
  | _=>true
 | _=>false
def kH(C:Cx)(ds:List (Option Tmp))(o:Oper)(KV Kp:St->A->Prop)(e:Env)(s:St):Prop :=
  match o.guard with
  | none=>bF C o.op (eZ C e) KV Kp s
  | some (j,h)=>∃t,mL ds j=some t /\
      ((∃ b,e.get t = some (.bool b) ∧ ((b = h ∧ bF C o.op (eZ C e) KV Kp s) ∨ (b ≠ h ∧ KV s (.tuple [])))) ∨
       (∃l,e.get t=some (.tuple l)/\KV s (.tuple [])))
inductive Bef (ops:Array Oper):Nat->Nat->Prop
 | edge {j:Nat} {o:Oper} {e:Edge} (ho:ops[j]?=some o) (he:e∈o.after) (hb:Region.binds .any e=true):Bef ops e.on j
 | step {m j:Nat} {o:Oper} {e:Edge} (ho:ops[j]?=some o) (he:e∈o.after) (hb:Region.binds .any e=true) (h:Bef ops m e.on):Bef ops m j
def DC(ops:Array Oper)(l:Array Bool):Prop :=
 ∀j o,ops[j]?=some o->l.getD j false=true->∀e,e∈o.after->Region.binds .any e=true->l.getD e.on false=true
def Dead(ops:Array Oper)(m:Nat)(l:Array Bool):Prop :=
 ∃j o,ops[j]?=some o/\kI o.op=true/\l.getD j false=true/\Bef ops m j
def chk(ops:Array Oper)(W:List (Nat × (St->Prop)))(l:Array Bool)(s:St):Prop:=∀w,w∈W->¬ Dead ops w.1 l->w.2 s
def sK(o:Oper)(m:Nat):Bool:=o.after.toList.any λe=>Region.binds .any e&&Nat.beq e.on m
def late(ops:Array Oper)(i:Nat):Bool:=match ops[i]? with
 | some o=>match o.op,o.dst,o.guard with
  | .alloc _,some d,none=>(o.after.toList.all λe=>!Region.binds .any e) &&
    (List.range ops.size).all fun j=>match ops[j]? with
     | some h=>(Nat.beq j i||!(h.dst == some d))&&(Nat.beq j i||!(h.looksAt ops).elem d||sK h i)&&(!sK h i||(List.range ops.size).all λm=>Nat.beq m j||sK h m)
     | none=>true
  | _,_,_=>false
 | none=>false
def pQ(ops:Array Oper)(l:Array Bool):List Nat :=
 if(Region.ready .any ops l).all (late ops) then Region.ready .any ops l else(Region.ready .any ops l).filter λi=>!late ops i
theorem aAr{ops:Array Oper}{l:Array Bool}{i:Nat}(h:i∈pQ ops l):i∈Region.ready .any ops l:=by
 unfold pQ at h;split at h
 .exact h
 .exact(List.mem_filter.1 h).1
theorem aDp{ops:Array Oper}{l:Array Bool}{i:Nat}(h:i∈Region.ready .any ops l)(m:late ops i=false):i∈pQ ops l:=by
 unfold pQ;split
 .exact h
 .exact List.mem_filter.2 ⟨h,by simp[m]⟩
theorem aIU{ops:Array Oper}{l:Array Bool}{i j:Nat}(h:j∈pQ ops l)(u:i∈Region.ready .any ops l)(hl:late ops i=false):late ops j=false:=by
 unfold pQ at h;split at h
 .rename_i m;rw[dE]at m;have:=m i u;rw[hl]at this;cases this
 .have:=(List.mem_filter.1 h).2;simpa using this
theorem aP7{ops:Array Oper}{i:Nat}{o:Oper}(ho:ops[i]?=some o)(h:late ops i=true):kI o.op=true:=by
 unfold late at h;rw[ho]at h;simp only at h;split at h
 .rename_i m _ _;rw[m];rfl
 .cases h
def gN(C:Cx)(n:Nat)(ops:Array Oper)(K:Env->St->Prop)(Kp:St->A->Prop)(W:List (Nat × (St->Prop))):Nat->Array Bool->Env->St->Prop
 | 0,l,e,s=>chk ops W l s/\Region.ready .any ops l=[]/\K e s
 | f+1,l,e,s=>chk ops W l s/\(Region.ready .any ops l=[]->K e s)/\∀i,i∈pQ ops l->∀o,ops[i]?=some o ->
   kH C (ops.toList.map (·.dst)) o (cX n o.dst (gN C n ops K Kp W f (l.setIfInBounds i true)) e) Kp e s
section
variable {C:Cx} {n:Nat} {ops:Array Oper} {K:Env->St->Prop} {Kp:St->A->Prop} {W:List (Nat × (St->Prop))} {s:St}
theorem aLZ{f:Nat}{l:Array Bool}{e:Env}(h:gN C n ops K Kp W f l e s):chk ops W l s:=by
 cases f with
 | zero=>exact h.1
 | succ f=>exact h.1
theorem aAs{ds:List (Option Tmp)}{o:Oper}{KV m:St->A->Prop}{e:Env}(h:kH C ds o KV Kp e s)(u:∀s v,KV s v->m s v):kH C ds o m Kp e s:=by
 unfold kH at *;split
 .rename_i y;simp only[y]at h;exact aDJ h u λ_ _ h=>h
 .rename_i j B y;simp only[y]at h;obtain⟨t,G,h⟩:=h;refine⟨t,G,?_⟩;rcases h with⟨b,z,h|h⟩|⟨l,hl,h⟩
  .exact .inl ⟨b,z,.inl ⟨h.1,aDJ h.2 u λ_ _ h=>h⟩⟩
  .exact .inl ⟨b,z,.inr ⟨h.1,u _ _ h.2⟩⟩
  .exact .inr ⟨l,hl,u _ _ h⟩
theorem aRs{o:Oper}{e e':Env}(h:∀t,t∈o.looksAt ops->e.get t=e'.get t)(x:Operand)(m:x∈o.op.operands):eZ C e x=eZ C e' x:=by
 cases x with
 | tmp t =>
  have:=h t (iX _ (List.mem_filterMap.2 ⟨.tmp t,gQ m,rfl⟩));simpa [eZ]using this
 | _=>rfl
theorem aC9{o:Oper}{KV:St->A->Prop}{e e':Env}(G:∀t,t∈o.looksAt ops->e.get t=e'.get t)
  (h:kH C (ops.toList.map (·.dst)) o KV Kp e s):kH C (ops.toList.map (·.dst)) o KV Kp e' s:=by
 have m:=aRs (C:=C) G;unfold kH at *;split
 .rename_i u;simp only[u]at h;exact aJZ m h
 .rename_i j H u;simp only[u]at h;obtain⟨t,y,h⟩:=h
  have z:e.get t=e'.get t:=G t (by
   rw[aGK]at y;simp[Oper.looksAt,u,y])
  refine⟨t,y,?_⟩;rw[<-z];rcases h with⟨b,B,h|h⟩|⟨l,hl,h⟩
  .exact .inl ⟨b,B,.inl ⟨h.1,aJZ m h.2⟩⟩
  .exact .inl ⟨b,B,.inr h⟩
  .exact .inr ⟨l,hl,h⟩
theorem yY(y:∀e e' s,(∀t,e.get t=e'.get t)->K e s->K e' s):∀(f:Nat) (l:Array Bool) (e e':Env) (s:St),(∀t,e.get t=e'.get t) ->
  gN C n ops K Kp W f l e s->gN C n ops K Kp W f l e' s
 | 0,l,e,e',s,m,h=>⟨h.1,h.2.1,y _ _ _ m h.2.2⟩
 | f+1,l,e,e',s,m,h=>by
  refine⟨h.1,λG=>y _ _ _ m (h.2.1 G),λi B o ho=>?_⟩;refine aAs (aC9 (λt _=>m t) (h.2.2 i B o ho)) λs' v u=>?_
  unfold cX at *;cases z:o.dst with
  | none=>rw[z]at u;exact yY y f _ e e' s' m u
  | some d =>
   rw[z]at u;refine⟨u.1,yY y f _ _ _ s' (λt=>?_) u.2⟩;rw[nL,nL];split<;>simp[m]
theorem wW{l:Array Bool}{i:Nat}(h:l.getD i true=false):i<l.size/\l.getD i false=false:=by
 rcases aIQ i l.size with m|m
 .exact⟨m,by simp[m]at h⊢;exact h⟩
 .simp[Array.getElem?_eq_none m]at h
theorem Bef.listed{l:Array Bool}(u:DC ops l){m j:Nat}(h:Bef ops m j):l.getD j false=true->l.getD m false=true:=by
 induction h with
 | edge ho z y=>intro B;exact u _ _ ho B _ z y
 | step ho z y _ G=>intro B;exact G (u _ _ ho B _ z y)
theorem Bef.ready{l:Array Bool}(B:DC ops l){m j:Nat}(h:Bef ops m j)(H:j∈Region.ready .any ops l):l.getD m false=true:=by
 obtain⟨_,M,y,u⟩:=mem_ready.1 H;cases h with
 | edge ho G z=>rw[y]at ho;cases ho;exact u _ G z
 | step ho G z h=>rw[y]at ho;cases ho;exact h.listed B (u _ G z)
theorem DC.set{l:Array Bool}(u:DC ops l){j:Nat}(H:j∈Region.ready .any ops l):DC ops (l.setIfInBounds j true):=by
 intro k o ho G e B z;obtain⟨M,O,y,h⟩:=mem_ready.1 H;refine getD_set_true ?_;by_cases m:j=k
 .subst m;rw[y]at ho;cases ho;exact h e B z
 .rw[getD_set_ne false m]at G;exact u k o ho G e B z
theorem aSa{i:Nat}{G:Oper}(hi:ops[i]?=some G)(b6:kI G.op=false)(hK:∀e e' s,(∀t,e.get t=e'.get t)->K e s->K e' s)
  (v:A)(p:St->Prop):∀(f:Nat) (l:Array Bool) (e:Env) (s:St),DC ops l ->
  (∀j oj,ops[j]?=some oj->j≠i->l.getD j true=false->(∀e∈oj.after,Region.binds .any e=true->e.on≠i)->G.apart ops oj=true) ->
  i∈Region.ready .any ops l->(∀s' KV,p s'->KV s' v->kH C (ops.toList.map (·.dst)) G KV Kp e s')->p s->chk ops W l s ->
  cX n G.dst (gN C n ops K Kp ((i,p)::W) f (l.setIfInBounds i true)) e s v->gN C n ops K Kp W (f+1) l e s:=by
 have bh:late ops i=false:=by
  cases hl:late ops i with
  | false=>rfl
  | true=>have:=aP7 hi hl;rw[b6]at this;cases this
 have drop:∀(f:Nat) (l:Array Bool) (e:Env) (s:St),gN C n ops K Kp ((i,p)::W) f l e s->gN C n ops K Kp W f l e s:=by
  intro f
  induction f with
  | zero=>intro l e s h;exact⟨λw hw=>h.1 w (eA _ hw),h.2⟩
  | succ f ih =>
   intro l e s h;refine⟨λw hw=>h.1 w (eA _ hw),h.2.1,λj hj o ho=>aAs (h.2.2 j hj o ho) λs' v hv=>?_⟩;unfold cX at *;cases y:o.dst with
   | none=>rw[y]at hv;exact ih _ _ _ hv
   | some d=>rw[y]at hv;exact⟨hv.1,ih _ _ _ hv.2⟩
 have b4:∀(l:Array Bool) (m:Nat),Dead ops m (l.setIfInBounds i true)->Dead ops m l:=by
  rintro l m ⟨j,o,ho,he,hl,hb⟩;refine⟨j,o,ho,he,?_,hb⟩;by_cases bf:i=j
  .subst bf;rw[hi]at ho;cases ho;rw[b6]at he;cases he
  ·rwa[getD_set_ne false bf]at hl
 have self:∀(f:Nat) (l:Array Bool) (e:Env) (s:St),(∀s' KV,p s'->KV s' v->kH C (ops.toList.map (·.dst)) G KV Kp e s')->p s ->
   cX n G.dst (gN C n ops K Kp ((i,p)::W) f (l.setIfInBounds i true)) e s v ->
   ∀o,ops[i]?=some o->kH C (ops.toList.map (·.dst)) o (cX n o.dst (gN C n ops K Kp W f (l.setIfInBounds i true)) e) Kp e s:=by
  intro f l e s hy hp H o ho;rw[hi]at ho;cases ho;refine hy s _ hp ?_;unfold cX at *;cases y:G.dst with
  | none=>rw[y]at H;exact drop _ _ _ _ H
  | some d=>rw[y]at H;exact⟨H.1,drop _ _ _ _ H.2⟩
 intro f
 induction f with
 | zero =>
  intro l e s b2 _ hr hy hp hc H;refine⟨hc,λh=>(by rw[h]at hr;cases hr),λj b0 o ho=>?_⟩;have hj:=aAr b0;have bc:=aIU b0 hr bh;by_cases B:j=i
  .subst B;exact self 0 l e s hy hp H o ho
  .have bg:=ready_mono hj B
   have bj:Region.ready .any ops (l.setIfInBounds i true)=[]:=by
    unfold cX at H;cases y:G.dst with
    | none=>rw[y]at H;exact H.2.1
    | some d=>rw[y]at H;exact H.2.2.1
   rw[bj]at bg;cases bg
 | succ f ih =>
  intro l e s b2 U hr hy hp hc H;refine⟨hc,λh=>(by rw[h]at hr;cases hr),λj b0 oj b1=>?_⟩;have hj:=aAr b0;have bc:=aIU b0 hr bh;by_cases B:j=i
  .subst B;exact self _ l e s hy hp H oj b1
  .obtain⟨b8,bv,b9,bd⟩:=mem_ready.1 hj;rw[b1]at b9;cases b9;have bb:=wW (mem_ready.1 hr).1
   have bk:∀e∈oj.after,Region.binds .any e=true->e.on≠i:=λe he hb heq=>by
    have O:=bd e he hb;rw[heq,bb.2]at O;cases O
   have bn:=U j oj b1 B b8 bk;obtain⟨a1,a2,a3⟩:=Oper.apart_spec bn
   have b3:∀k ok,ops[k]?=some ok->k≠i->(l.setIfInBounds j true).getD k true=false ->
     (∀e∈ok.after,Region.binds .any e=true->e.on≠i)->G.apart ops ok=true:=λk ok hk bq bl bt=>by
    refine U k ok hk bq ?_ bt;by_cases Z:j=k
    .subst Z;exact b8
    .rw[getD_set_ne true Z]at bl;exact bl
   have b7:¬ i=j:=λh=>B h.symm
   have bm:¬ Dead ops i ((l.setIfInBounds j true).setIfInBounds i true):=by
    intro y;obtain⟨k,o,ho,he,hl,hb⟩:=b4 _ _ y;by_cases Z:j=k
    .subst Z;have:=hb.ready b2 hj;rw[bb.2]at this;cases this
    .rw[getD_set_ne false Z]at hl;have:=hb.listed b2 hl;rw[bb.2]at this;cases this
   have S:(l.setIfInBounds i true).setIfInBounds j true=(l.setIfInBounds j true).setIfInBounds i true:=Array.setIfInBounds_comm _ _ b7
   have after:∀(e':Env) (s':St),(∀t,t∈G.looksAt ops->e.get t=e'.get t) ->
     cX n G.dst (gN C n ops K Kp ((i,p)::W) f ((l.setIfInBounds j true).setIfInBounds i true)) e' s' v ->
     gN C n ops K Kp W (f+1) (l.setIfInBounds j true) e' s':=by
    intro e' s' bp H'
    have b5:chk ops ((i,p)::W) ((l.setIfInBounds j true).setIfInBounds i true) s':=by
     unfold cX at H';cases y:G.dst with
     | none=>rw[y]at H';exact aLZ H'
     | some d=>rw[y]at H';exact aLZ H'.2
    refine ih (l.setIfInBounds j true) e' s' (b2.set hj) b3 (ready_mono hr b7) (λs2 KV O h2=>aC9 bp (hy s2 KV O h2)) ?_ ?_ H'
    .exact b5 _ (cQ ..) bm
    ·exactλw hw hl=>b5 w (eA _ hw) λy=>hl (b4 _ _ y)
   unfold cX at H;cases y:G.dst with
   | none =>
    rw[y]at H;have O:=H.2.2 j (aDp (ready_mono hj B) bc) oj b1;refine aAs O λs' u M=>?_
    rw[S]at M;unfold cX at *;cases z:oj.dst with
    | none=>rw[z]at M;exact after e s' (λ_ _=>rfl) (by rw[y];exact M)
    | some dj =>
     rw[z]at M;refine⟨M.1,after (e.put dj u) s' (λt ht=>?_) (by rw[y];exact M.2)⟩;rw[nL,aD (λh:dj=t=>a3 dj z (by rw[h];exact ht))]
   | some d =>
    rw[y]at H;have O:=H.2.2.2 j (aDp (ready_mono hj B) bc) oj b1;have h2:=aC9 (e':=e) (λt ht=>by rw[nL,aD (λh:d=t=>a1 d y (by rw[h];exact ht))]) O;refine aAs h2 λs' u M=>?_
    rw[S]at M;unfold cX at *;cases z:oj.dst with
    | none=>rw[z]at M;exact after e s' (λ_ _=>rfl) (by rw[y];exact⟨H.1,M⟩)
    | some dj =>
     rw[z]at M
     refine⟨M.1,after (e.put dj u) s' (λt ht=>?_) (by
      rw[y];refine⟨H.1,yY hK _ _ _ _ _ (λt=>?_) M.2⟩;have br:¬ d=dj:=λh:d=dj=>a2 d y (by rw[h];exact z)
      simp only[nL];by_cases O:dj=t
      .subst O;simp[br]
      .simp[O])⟩
     rw[nL,aD (λh:dj=t=>a3 dj z (by rw[h];exact ht))]
end
end
section
section
variable {C:Cx} {F:Fr} {g g0:Gh} {s:St} {w:World} {n:Nat} {ops:Array Oper} {K:Env->St->Prop} {Kp:St->A->Prop} {W:List (Nat × (St->Prop))}
theorem aAk{o:Oper}{m:Nat}:sK o m=true↔∃e,e∈o.after/\Region.binds .any e=true/\e.on=m:=by
 simp only[sK,jS,bP,Array.mem_toList_iff];constructor
 .rintro⟨e,h,u,y⟩;exact⟨e,h,u,sB y⟩
 .rintro⟨e,h,u,rfl⟩;exact⟨e,h,u,Nat.beq_refl _⟩
theorem yT{i:Nat}(h:late ops i=true):∃d t ty pos after,ops[i]?=some ⟨some d,.alloc t,ty,pos,after,none⟩/\(∀e,e∈after->Region.binds .any e=false) /\
  ∀j y,ops[j]?=some y->j≠i->y.dst≠some d/\(d∈y.looksAt ops->sK y i=true)/\(sK y i=true->∀m,m<ops.size->m≠j->sK y m=true):=by
 unfold late at h;cases ho:ops[i]? with
 | none=>rw[ho]at h;cases h
 | some o =>
  rw[ho]at h;obtain⟨dst,op,ty,pos,after,gd⟩:=o;simp only at h;split at h
  .rename_i _ _ _ t d;simp only[bP,dE,vA,Array.mem_toList_iff,iY]at h;refine⟨d,t,ty,pos,after,rfl,h.1,λj y Z U=>?_⟩;have H:=h.2 j (iW.1 Z).1;rw[Z]at H;simp only[bP,gV,iY,aBy,dB,dE,vA]at H;obtain⟨⟨z,u⟩,B⟩:=H
   have G:Nat.beq j i=false:=by
    cases G:Nat.beq j i with
    | false=>rfl
    | true=>exact cV (sB G) U
   refine⟨?_,λhl=>?_,λO m hm S=>?_⟩
   .rcases z with z|z
    .rw[G]at z;cases z
    .exact z
   .rcases u with(u|u)|u
    .rw[G]at u;cases u
    .have:(y.looksAt ops).elem d=true:=List.elem_eq_true_of_mem hl;rw[this]at u;cases u
    .exact u
   .rcases B with B|B
    .rw[O]at B;cases B
    .rcases B m hm with M|M
     .exact cV (sB M) S
     .exact M
  .cases h
def Pend(C:Cx)(n:Nat)(ops:Array Oper)(F:Fr):List (Nat × Nat)->Fr->Array Value->Prop
 | [],m,_=>m=F
 | (i,k)::P,m,h=>∃u d t ty pos after y z,Pend C n ops F P u h/\ops[i]?=some ⟨some d,.alloc t,ty,pos,after,none⟩/\late ops i=true/\C.tt t=some y /\
   (∀g,Rzs g y.zero (Value.cells z).toList)/\(d<n->h[d]?=some (.pointer (some ⟨k,0,none⟩)))/\u k=none/\m=(λj=>if j=k then some (.cells z.cells t,none) else u j)
theorem Pend.subP:∀{P:List (Nat × Nat)} {u:Fr} {m:Array Value},Pend C n ops F P u m->∀k o p,u k=some (o,some p)->F k=some (o,some p)
 | [],u,m,h,k,o,p,y=>by rw[show u=F from h]at y;exact y
 | (i,q)::P,u,m,h,k,o,p,y=>by
  obtain⟨H,d,t,ty,pos,after,O,z,G,_,_,_,_,_,M,rfl⟩:=h;refine G.subP k o p ?_;by_cases B:k=q
  .simp[B]at y
  .simpa only[B,↓reduceIte]using y
theorem Pend.sub:∀{P:List (Nat × Nat)} {u:Fr} {m:Array Value},Pend C n ops F P u m->∀k o,F k=some o->u k=some o
 | [],u,m,h,k,o,y=>by rw[show u=F from h];exact y
 | (i,q)::P,u,m,h,k,o,y=>by
  obtain⟨M,d,t,ty,pos,after,O,z,G,_,_,_,_,_,H,rfl⟩:=h;have:=G.sub k o y;have B:k≠q:=by rintro rfl;rw[H]at this;cases this
  simp only[B,↓reduceIte];exact this
theorem Pend.put{a:Act}{j:Nat}{o:Oper}{v:Value}(ho:ops[j]?=some o):∀{P:List (Nat × Nat)} {m:Fr},(∀p,p∈P->p.1≠j)->Pend C n ops F P m a.tmps->Pend C n ops F P m (a.put o.dst v).tmps
 | [],m,_,h=>h
 | (i,q)::P,m,Z,h=>by
  obtain⟨F1,d,t,ty,pos,after,ti,z,h1,M,O,h4,h5,S,h7,h8⟩:=h;refine⟨F1,d,t,ty,pos,after,ti,z,h1.put ho (λp hp=>Z p (by simp[hp])),M,O,h4,h5,λU=>?_,h7,h8⟩;obtain⟨d',t',b1,b0,u,H,_,e3⟩:=yT O;rw[M]at H;cases H;have B:=(e3 j o ho (λe=>Z (i,q) bA e.symm)).1;cases y:o.dst with
  | none=>exact S U
  | some G =>
   have:G≠d:=by rintro rfl;exact B y
   show(a.tmps.setIfInBounds G v)[d]?=_;rw[aBv this];exact S U
theorem Pend.late:∀{P:List (Nat × Nat)} {y:Fr} {m:Array Value},Pend C n ops F P y m->∀p,p∈P->late ops p.1=true
 | [],_,_,_,p,u=>by cases u
 | (i,k)::P,y,m,h,p,u=>by
  obtain⟨H,d,t,ty,pos,after,O,z,B,M,G,_⟩:=h;cases u with
  | head=>exact G
  | tail _ u=>exact B.late p u
def jD(ops:Array Oper)(P:List (Nat × Nat)):List (Option Tmp):=P.map λp=>(ops[p.1]?).bind (·.dst)
def gU(P:List (Nat × Nat))(l:Array Bool):Array Bool:=P.foldr (λp l=>l.setIfInBounds p.1 true) l
theorem aB3{m:Nat}(d:Bool):∀(P:List (Nat × Nat)) (l:Array Bool),(∀p,p∈P->p.1≠m)->(gU P l).getD m d=l.getD m d
 | [],l,_=>rfl
 | p::P,l,h=>by
  simp only[gU,List.foldr_cons];rw[getD_set_ne d (h p bA)];exact aB3 d P l λq u=>h q (by simp[u])
theorem aJ8{m:Nat}:∀(P:List (Nat × Nat)) (l:Array Bool),l.getD m false=true->(gU P l).getD m false=true
 | [],l,h=>h
 | p::P,l,h=>by
  simp only[gU,List.foldr_cons];exact getD_set_true (aJ8 P l h)
theorem aGH{i:Nat}:∀(P:List (Nat × Nat)) (l:Array Bool),(∀p,p∈P->p.1≠i)->(gU P l).setIfInBounds i true=gU P (l.setIfInBounds i true)
 | [],l,_=>rfl
 | p::P,l,h=>by
  have m:=h p bA;simp only[gU,List.foldr_cons];rw[Array.setIfInBounds_comm _ _ m];have:=aGH (i:=i) P l λq u=>h q (by simp[u])
  simp only[gU]at this;rw[this]
def uO(l:Array Bool):Nat:=l.toList.count false
theorem aMb{l:Array Bool}{i:Nat}(h:l.getD i true=false):uO (l.setIfInBounds i true)+1=uO l:=by
 obtain⟨l⟩:=l
 have key:∀(l:List Bool) (i:Nat),l[i]?=some false->(l.set i true).count false+1=l.count false:=by
  intro l
  induction l with
  | nil=>intro i h;simp at h
  | cons x r u =>
   intro i h;cases i with
   | zero=>simp only[mO,bV]at h;subst h;simp
   | succ i =>
    have:=u i (gQ h);simp only[wG,List.count_cons];omega
 have hl:l[i]?=some false:=by
  cases m:l[i]? with
  | none=>simp[m]at h
  | some b=>simp[m]at h;rw[h]
 simpa [uO]using key l i hl
theorem aSg{l:Array Bool}(h:uO l=0):Region.ready .any ops l=[]:=by
 rw[List.eq_nil_iff_forall_not_mem];intro i m;have:=aMb (mem_ready.1 m).1;omega
theorem EnvOk.at{g:Gh}{n:Nat}{e:Env}{m:Array Value}{d:Nat}{x:A}{v:Value}(h:EnvOk g n e m)(B:m[d]?=some v)(G:Rz g x v):EnvOk g n (e.put d x) m:=by
 refine⟨h.size,λt y u=>?_⟩;rw[nL]at u;by_cases z:d=t
 .subst z;simp only[↓reduceIte,bV]at u;subst u;exact⟨v,B,G⟩
 .simp only[z,↓reduceIte]at u;exact h.val t y u
theorem R.adopt{Z:Fr}{k b:Nat}{o:Obj}{ob:Ob}(h:R C.toCtx (λj=>if j=k then some (o,none) else Z j) g s w)(hF:Z k=none)(ho:ObRz g ob (some o))(hb:g.beta b=none){s':St}
  (hO:∀q,s'.getO q=if b=q then some ob else s.getO q)(hT:∀q,s'.getT q=s.getT q)(hL:s'.ls=s.ls)(hl:C.det=true->s.lim<=s'.lim/\b<s'.lim) :
  R C.toCtx Z (g.bx b k) s' w:=by
 have u:=aAB hb k;have hk:=h.frm k (o,none) bA
 have z:∀c q,g.beta c=some q->q≠k:=by
  rintro c q m rfl;have:=h.bfr c q m;simp at this
 have y:=h.unframe (F0:=Z) λq x H=>by
  have:q≠k:=by rintro rfl;rw[hF]at H;cases H
  simp only[this,↓reduceIte];exact H
 have y:=y λq x p H=>by
  by_cases S:q=k
  .simp[S]at H
  .simpa only[S,↓reduceIte]using H
 refine⟨λc x G=>?_,?_,?_,y.pis,y.frm,λc cs m=>?_,?_,?_,?_,λB c m=>?_,λx G=>(h.lst x (by rw[<-hL];exact G)).mono u,λc q m=>?_,h.env⟩
 .rw[hO]at G;by_cases O:b=c
  .subst O;simp only[↓reduceIte,bV]at G;subst G;exact⟨k,by simp[Gh.bx],by rw[hk.1];exact ho.mono u,hk.2,hF⟩
  .simp only[O,↓reduceIte]at G;obtain⟨q,h1,h2,h3⟩:=y.obj c x G;exact⟨q,u.beta _ _ h1,h2.mono u,h3⟩
 .intro t n e M;rw[hT]at M;exact y.tok t n e M
 .intro t t' n n' v v' c z M U;rw[hT]at M U;exact y.sep t t' n n' v v' c z M U
 .obtain⟨pre,ty,fr,hp,hl,h1,hr⟩:=y.glb c cs m;exact⟨pre,ty,fr,hp,hl,h1,λj c v m hv=>(hr j c v m hv).mono u⟩
 .obtain⟨N,hN⟩:=h.fsh;refine⟨max N (b+1),λt M=>⟨by rw[hT];exact(hN t aB).1,(hN t aB).2.1,?_⟩⟩;have:t≠b:=by omega
  simp[Gh.bx,this,(hN t aB).2.2]
 .intro c q m;simp only[Gh.bx]at m;split at m
  .cases m;exact(iW.1 hk.1).1
  .exact h.bet c q m
 .intro c d q m B;simp only[Gh.bx]at m B;split at m<;>split at B
  .omega
  .cases m;exact cV rfl (z d k B)
  .cases B;exact cV rfl (z c k m)
  .exact h.inj c d q m B
 .obtain⟨l1,l2⟩:=hl B;obtain⟨d1,d2⟩:=h.dtm B c aB;have:c≠b:=by omega
  exact⟨by simp[Gh.bx,this,d1],d2⟩
 .simp only[Gh.bx]at m;split at m
  .cases m;exact hF
  .exact y.bfr c q m
theorem R.lay(h:R C.toCtx F g s w)(o:Obj):R C.toCtx (λj=>if j=w.heap.size then some (o,none) else F j) g s (w.alloc o):=by
 have O:∀k,k<w.heap.size->(w.alloc o).heap[k]?=w.heap[k]?:=λk O=>wI w o O
 have m:=h.keep O;refine⟨λc x Z=>?_,λt n e U=>?_,m.sep,m.pis,λq x u=>?_,λc cs G=>?_,m.fsh,m.bet,m.inj,m.dtm,m.lst,λc q G=>?_,m.env⟩;rotate_left 3
 .obtain⟨pre,ty,fr,S,y⟩:=h.glb c cs G;have:c≠w.heap.size:=Nat.ne_of_lt (h.lt_frm S);exact⟨pre,ty,fr,by simp only[this,↓reduceIte];exact S,y⟩
 rotate_left 1
 .obtain⟨q,y,H,M,z⟩:=m.obj c x Z;have:q≠w.heap.size:=Nat.ne_of_lt (h.bet c q y);exact⟨q,y,H,M,by simp only[this,↓reduceIte];exact z⟩
 .obtain⟨v,xs,y,H,M,z⟩:=m.tok t n e U;refine⟨v,xs,y,H,M,λq u=>?_⟩;have:q≠w.heap.size:=Nat.ne_of_lt (h.lt_pi (z q u).1);exact⟨(z q u).1,by simp only[this,↓reduceIte];exact(z q u).2⟩
 .by_cases B:q=w.heap.size
  .subst B;simp only[↓reduceIte,bV]at u;subst u;exact⟨yM w o,h.pi_new⟩
  .simp only[B,↓reduceIte]at u;exact m.frm q x u
 .have:q≠w.heap.size:=Nat.ne_of_lt (h.bet c q G);simp only[this,↓reduceIte];exact h.bfr c q G
theorem aQH{k:Nat}{z:Fr}{o:Obj}{ob:Ob}{f:Nat->A}{KV:St->A->Prop}(h:R C.toCtx (λj=>if j=k then some (o,none) else z j) g s w)(B:z k=none)(ho:ObRz g ob (some o))
  (u:sX C s ob f KV):∃b s',g.beta b=none/\R C.toCtx z (g.bx b k) s' w/\KV s' (f b):=by
 unfold sX at u;cases y:C.det with
 | false =>
  rw[y]at u;obtain⟨b,m⟩:=h.some_free;exact⟨b,s.setO b ob,m,h.adopt B ho m (λq=>aL s b ob q) (λq=>rfl) rfl (λG=>by rw[y]at G;cases G),u b (h.free m)⟩
 | true =>
  rw[y]at u;have m:=(h.dtm y s.lim (bJ _)).1;exact⟨s.lim,s.newO ob,m,h.adopt B ho m (λq=>aIA s ob q) (λq=>rfl) rfl (λ_=>⟨Nat.le_succ _,fZ _⟩),u⟩
theorem aHn{a:Act}(f:Nat)(hn:a.tmps.size=n):∀(P:List (Nat × Nat)) (y:Array Bool) (F':Fr) (g:Gh) (e:Env) (s:St),(∀p,p∈P->y.getD p.1 true=false)->(P.map (·.1)).Nodup ->
  (∀m,m∈Region.ready .any ops y->late ops m=true)->Pend C n ops F P F' a.tmps->R C.toCtx F' g s w->EnvOk g n (e.rem (jD ops P)) a.tmps ->
  gN C n ops K Kp W (f+P.length) y e s->∃g' e' s',g.le g'/\R C.toCtx F g' s' w/\EnvOk g' n e' a.tmps/\gN C n ops K Kp W f (gU P y) e' s'
 | [],y,F',g,e,s,_,_,_,hP,hR,O,h=>by
  rw[show F'=F from hP]at hR;refine⟨g,e,s,fJ g,hR,O.sub λt x S=>?_,h⟩;rw[qN];simpa [jD]using S
 | (i,k)::P,y,F',g,e,s,b7,b3,U,hP,hR,O,h=>by
  obtain⟨F1,d,t,ty,pos,after,ti,z,h1,h2,h3,h4,h5,h6,h7,rfl⟩:=hP;obtain⟨d',t',c1,bz,bj,q1,q2,q3⟩:=yT h3;rw[h2]at q1;cases q1;have bd:=b7 (i,k) bA;have hr:i∈Region.ready .any ops y:=mem_ready.2 ⟨bd,_,h2,λe O B=>by rw[q2 e O]at B;cases B⟩
  have hz:i∈pQ ops y:=by
   unfold pQ;rw[aF (by rw[dE];exact U)];exact hr
  have hs:=h.2.2 i hz _ h2;simp only[kH,bF,h4,aEM]at hs;obtain⟨b,s',B,b0,M⟩:=aQH hR h7 (ob:=.cells t ti.zero) ⟨z.cells.toList,[],by simp,h5 g,(C.htt t ti h4).one⟩ hs;obtain⟨bl,M⟩:=M;have b2:=aAB B k;simp only[bX,List.nodup_cons]at b3;have b4:∀p,p∈P->p.1≠i:=λp hp e=>b3.1 (cN.2 ⟨p,hp,e⟩)
  have Z:gU ((i,k)::P) y=gU P (y.setIfInBounds i true):=by
   rw[<-aGH P y b4];rfl
  have H:EnvOk (g.bx b k) n ((e.put d (.ptr b 0)).rem (jD ops P)) a.tmps:=by
   have h8:=(O.mono b2).at (h6 bl) (x:=.ptr b 0) (.ptr b 0 k (by simp[Gh.bx]));refine h8.sub λu x S=>?_
   rw[qN]at S;split at S
   .cases S
   .rename_i hu;rw[nL]at S⊢;by_cases b1:d=u
    .simpa only[b1,↓reduceIte]using S
    .simp only[b1,↓reduceIte]at S⊢;rw[qN,aD]
     .exact S
     .rw[List.elem_iff]at hu⊢;simp only[jD,bX,h2,sG,dG,bV,not_or]at hu⊢;exact⟨λe=>b1 e.symm,hu⟩
  by_cases b8:P=[]
  .subst b8;rw[show F1=F from h1]at b0
   have br:((e.put d (.ptr b 0)).rem (jD ops []))=e.put d (.ptr b 0):=by
    have:∀e:Env,e.rem []=e:=by
     intro e
     induction e with
     | nil=>rfl
     | cons x e ih=>simp only[Env.rem,List.elem_nil,dA,↓reduceIte,ih]
    exact this _
   rw[br]at H;exact⟨_,_,s',b2,b0,H,by rw[Z];exact M⟩
  .have bh:∀m,m∈Region.ready .any ops (y.setIfInBounds i true)->late ops m=true:=by
    intro m hm;by_cases bf:m∈Region.ready .any ops y
    .exact U m bf
    .exfalso;obtain⟨m0,om,b5,G⟩:=mem_ready.1 hm
     have bg:m≠i:=by
      rintro rfl;have bq:=(wW bd).1;simp[bq]at m0
     have bb:sK om i=true:=by
      cases b9:sK om i with
      | true=>rfl
      | false =>
       exfalso;refine bf (mem_ready.2 ⟨by rw[getD_set_ne true (λe=>bg e.symm)]at m0;exact m0,om,b5,λed bc B=>?_⟩)
       have bm:i≠ed.on:=by
        intro bp;rw[aAk.2 ⟨ed,bc,B,bp.symm⟩]at b9;cases b9
       have:=G ed bc B
       rwa[getD_set_ne false bm]at this
     obtain⟨⟨p,kp⟩,b6⟩:=List.exists_mem_of_ne_nil P b8;have bv:p≠i:=b4 (p,kp) b6;have bt:=b7 (p,kp) (by simp[b6]);obtain⟨d2,t2,ty2,c0,bk,z1,z2,_⟩:=yT (h1.late (p,kp) b6)
     have bw:p≠m:=by
      rintro rfl;rw[b5]at z1;cases z1;obtain⟨e,O,B,_⟩:=aAk.1 bb;rw[z2 e O]at B;cases B
     obtain⟨e,O,B,bn⟩:=aAk.1 ((q3 m om b5 bg).2.2 bb p (iW.1 z1).1 bw);have:=G e O B;rw[bn,getD_set_ne false (λe=>bv e.symm),(wW bt).2]at this;cases this
   obtain⟨g',e',s2,r1,r2,r3,r4⟩:=aHn f hn P (y.setIfInBounds i true) F1 (g.bx b k) (e.put d (.ptr b 0)) s'
    (λp hp=>by rw[getD_set_ne true (λe=>b4 p hp e.symm)];exact b7 p (by simp[hp])) b3.2 bh h1 b0 H M
   exact⟨g',e',s2,b2.trans r1,r2,r3,by rw[Z];exact r4⟩
def Rle(C:Cx)(s s':St):Prop:=∀(F:Fr) (g:Gh) (w:World),R C.toCtx F g s w->R C.toCtx F g s' w
theorem Rle.refl(s:St):Rle C s s:=λ_ _ _ h=>h
theorem aQ2{P:List (Nat × Nat)}{G:Fr}{m:Array Value}(h:Pend C n ops F P G m){d:Nat}(H:(jD ops P).elem (some d)=true):∃p,p∈P/\∃t ty pos after,ops[p.1]?=some ⟨some d,.alloc t,ty,pos,after,none⟩:=by
 have z:=List.mem_of_elem_eq_true H;simp only[jD,cN]at z;obtain⟨p,B,u⟩:=z;obtain⟨M,t,ty,pos,after,y,_⟩:=yT (h.late p B);rw[y]at u;simp only[sG,bV]at u;subst u;exact⟨p,B,t,ty,pos,after,y⟩
theorem aUl{e0:Env}(c6:∀o,o∈ops.toList->∀d,o.dst=some d->e0.get d=none){D:List Deferred}{Q:XK->Env->St->Prop}(hK:∀e s,K e s->∃e' s',e.ge e'/\Rle C s s'/\Q .normal e' s')
  (c3:∀s v,Kp s v->Q (.panic v) e0 s)(htt:∀i t o,ops[i]?=some o->late ops i=true->o.op=.alloc t->(C.tt t).isSome=true) :
  ∀(f:Nat) (P:List (Nat × Nat)) (y:Array Bool) (S:Fr) (g:Gh) (e:Env) (s:St) (a:Act) (w:World),uO (gU P y)<=f->(∀p,p∈P->y.getD p.1 true=false)->(P.map (·.1)).Nodup ->
   Pend C n ops F P S a.tmps->g0.le g->R C.toCtx S g s w->EnvOk g n (e.rem (jD ops P)) a.tmps->EnvOk g n e0 a.tmps->a.defers=D ->
   gN C n ops K Kp W (f+P.length) y e s->wpAny C.P .any ops (Post C F g0 n D Q) f (gU P y) a w:=by
 have fin:∀(g:Gh) (e:Env) (s:St) (a:Act) (w:World),g0.le g->R C.toCtx F g s w->EnvOk g n e a.tmps->a.defers=D->K e s->Post C F g0 n D Q .normal a w :=
  λg e s a w hg hR G hD h=>by
   obtain⟨e',s',h1,h2,h3⟩:=hK _ _ h;exact⟨g,e',s',.normal,hg,h2 _ _ _ hR,G.sub h1,hD,trivial,h3⟩
 have bf:∀(f:Nat) (P:List (Nat × Nat)) (y:Array Bool) (S:Fr) (g:Gh) (e:Env) (s:St) (a:Act) (w:World),(∀p,p∈P->y.getD p.1 true=false)->(P.map (·.1)).Nodup ->
   Pend C n ops F P S a.tmps->g0.le g->R C.toCtx S g s w->EnvOk g n (e.rem (jD ops P)) a.tmps->a.defers=D ->
   gN C n ops K Kp W (f+P.length) y e s->Region.ready .any ops (gU P y)=[]->Post C F g0 n D Q .normal a w:=by
  intro f P y S g e s a w M U hP hg hR G hD h hr
  obtain⟨g',e',s',r1,r2,r3,r4⟩:=aHn f G.size P y S g e s M U (λm hm=>by
   by_cases b6:∃p,p∈P/\p.1=m
   .obtain⟨p,B,rfl⟩:=b6;exact hP.late p B
   .exfalso;obtain⟨m0,om,b7,b0⟩:=mem_ready.1 hm;have:m∈Region.ready .any ops (gU P y):=mem_ready.2 ⟨by rw[aB3 true P y (λp B e=>b6 ⟨p,B,e⟩)];exact m0,om,b7,λe G hb=>aJ8 P y (b0 e G hb)⟩;rw[hr]at this;cases this) hP hR G h
  have hk:K e' s':=by
   cases f with
   | zero=>exact r4.2.2
   | succ f=>exact r4.2.1 hr
  exact fin g' e' s' a w (hg.trans r1) r2 r3 hD hk
 intro f
 induction f with
 | zero =>
  intro P y S g e s a w hu M U hP hg hR G b2 hD h;have hr:Region.ready .any ops (gU P y)=[]:=aSg aB;exact⟨hr,bf 0 P y S g e s a w M U hP hg hR G hD h hr⟩
 | succ f ih =>
  intro P y S g e s a w hu M U hP hg hR G b2 hD h;refine⟨λhr=>bf (f+1) P y S g e s a w M U hP hg hR G hD h hr,λi hi=>?_⟩;obtain⟨bb,o,ho,b0⟩:=mem_ready.1 hi
  have O:∀p,p∈P->p.1≠i:=by
   rintro p B rfl;have c9:=(wW (M p B)).1
   have:(gU P y).getD p.1 false=true:=by
    have:∀{P:List (Nat × Nat)},p∈P->(gU P y).getD p.1 false=true:=by
     intro P
     induction P with
     | nil=>intro h;cases h
     | cons q P ck =>
      intro h
      have ch:∀P:List (Nat × Nat),(gU P y).size=y.size:=by
       intro P
       induction P with
       | nil=>rfl
       | cons x P ih=>simp only[gU,List.foldr_cons,Array.size_setIfInBounds]at *;exact ih
      simp only[gU,List.foldr_cons];cases h with
      | head =>
       have:=ch P;simp only[gU]at this;simp[this,c9]
      | tail _ h=>exact getD_set_true (ck h)
    exact this B
   rw[(wW bb).2]at this;cases this
  have bd:y.getD i true=false:=by rw[aB3 true P y O]at bb;exact bb
  have b3:uO ((gU P y).setIfInBounds i true)<=f:=by have:=aMb bb;omega
  have bh:∀d,o.dst=some d->e0.get d=none:=c6 o (by obtain⟨h1,h2⟩:=iW.1 ho;rw[<-h2];simp)
  by_cases b1:late ops i=true
  ·
   obtain⟨d,t,ty,pos,after,q1,q2,q3⟩:=yT b1;rw[ho]at q1;cases q1;obtain⟨ti,bv⟩:=Option.isSome_iff_exists.1 (htt i t _ ho b1 rfl);obtain⟨z,hz,cj⟩:=aB5 bv w;unfold wpOp;rw[ho];simp only;rw[aF (by simp[Region.wanted])];left
   have br:(execOp a.eval ⟨some d,.alloc t,ty,pos,after,none⟩).run C.P w=.ok (.value (.pointer (some ⟨w.heap.size,0,none⟩))) (w.alloc (.cells z.cells t)):=by
    simp only[execOp,Instr.alloc,bN,hz,bM,newVar,newRow,run_newObj,cG];rfl
   unfold Oper.wp;rw[br,Oper.upon_value];have bt:(gU P y).setIfInBounds i true=gU ((i,w.heap.size)::P) y:=rfl;rw[bt]at b3⊢
   have cm:∀p,p∈P->∀d' t' bl b8 Z,ops[p.1]?=some ⟨some d',.alloc t',bl,b8,Z,none⟩->d'≠d:=by
    intro p B d' t' bl b8 Z cb e;have:=(q3 p.1 _ cb (O p B)).1;exact this (by rw[e])
   refine ih ((i,w.heap.size)::P) y (λj=>if j=w.heap.size then some (.cells z.cells t,none) else S j) g e s _ _ b3 (λp B=>?_) ?_ ?_ hg (hR.lay _) ?_ (b2.other bh) (by rw[aDo];exact hD) ?_
   .cases B with
    | head=>exact bd
    | tail _ B=>exact M p B
   .simp only[bX,List.nodup_cons];refine⟨λhm=>?_,U⟩;obtain⟨p,B,cd⟩:=cN.1 hm;exact O p B cd
   .refine⟨S,d,t,ty,pos,after,ti,z,hP.put ho (λp B=>O p B),ho,b1,bv,cj,λhd=>?_,hR.frm_new,rfl⟩;show(a.tmps.setIfInBounds d _)[d]?=_;simp[G.size,hd]
   .have:=G.del (d:=d) (v:=.pointer (some ⟨w.heap.size,0,none⟩));refine this.sub λu x hx=>?_
    rw[qN]at hx;split at hx
    .cases hx
    .rename_i bw
     have bz:¬ u=d/\¬ (jD ops P).elem (some u)=true:=by
      rw[List.elem_iff]at bw⊢;simpa only[jD,bX,ho,sG,dG,bV,not_or]using bw
     have c7:¬ d=u:=λe=>bz.1 e.symm
     rw[aJb,aD c7,qN,aD bz.2];exact hx
   .have:f+((i,w.heap.size)::P).length=f+1+P.length:=by simp only[aV];omega
    rw[this];exact h
  .have b4:late ops i=false:=gQ b1
   have step:∀(P:List (Nat × Nat)) (y:Array Bool) (S:Fr) (g:Gh) (e:Env) (s:St),uO ((gU P y).setIfInBounds i true)<=f->(∀p,p∈P->y.getD p.1 true=false)->(∀p,p∈P->p.1≠i)->(P.map (·.1)).Nodup ->
     Pend C n ops F P S a.tmps->g0.le g->R C.toCtx S g s w->EnvOk g n (e.rem (jD ops P)) a.tmps->EnvOk g n e0 a.tmps->(∀d,(jD ops P).elem (some d)=true->d ∉ o.looksAt ops) ->
     kH C (ops.toList.map (·.dst)) o (cX n o.dst (gN C n ops K Kp W (f+P.length) (y.setIfInBounds i true)) e) Kp e s ->
     wpOp C.P ops (Post C F g0 n D Q) i (wpAny C.P .any ops (Post C F g0 n D Q) f ((gU P y).setIfInBounds i true)) a w:=by
    intro P y S g e s b3 M O U hP hg hR G b2 bk hs;rw[aGH P y O]at b3⊢;have c0:∀p,p∈P->(y.setIfInBounds i true).getD p.1 true=false:=λp B=>by rw[getD_set_ne true (λe=>O p B e.symm)];exact M p B
    have cg:=aC9 (ops:=ops) (e':=e.rem (jD ops P)) (λt ht=>by
     rw[qN,aD];intro hh;exact bk t hh ht) hs
    have next:∀g' v w' e1 s',g.le g'->R C.toCtx S g' s' w'->EnvOk g' n e1 (a.put o.dst v).tmps->EnvOk g' n e0 (a.put o.dst v).tmps->(a.put o.dst v).defers=D ->
      (∃e2,gN C n ops K Kp W (f+P.length) (y.setIfInBounds i true) e2 s'/\∀t x,(e2.rem (jD ops P)).get t=some x->e1.get t=some x) ->
      wpAny C.P .any ops (Post C F g0 n D Q) f (gU P (y.setIfInBounds i true)) (a.put o.dst v) w':=by
     rintro g' v w' e1 s' h1 h2 h3 h4 h5 ⟨e2,h6,h7⟩;exact ih P (y.setIfInBounds i true) S g' e2 s' _ w' b3 c0 U (hP.put ho O) (hg.trans h1) h2 (h3.sub h7) h4 h5 h6
    have conv:∀s' v,cX n o.dst (gN C n ops K Kp W (f+P.length) (y.setIfInBounds i true)) e s' v ->
      cX n o.dst (λe1 s'=>∃e2,gN C n ops K Kp W (f+P.length) (y.setIfInBounds i true) e2 s'/\∀t x,(e2.rem (jD ops P)).get t=some x->e1.get t=some x) (e.rem (jD ops P)) s' v:=by
     intro s' v hv;unfold cX at hv⊢;cases hd:o.dst with
     | none=>rw[hd]at hv;exact⟨e,hv,λt x hx=>hx⟩
     | some d =>
      rw[hd]at hv;refine⟨hv.1,_,hv.2,λt x hx=>?_⟩;rw[qN]at hx;split at hx
      .cases hx
      .rename_i ht;rw[nL]at hx⊢;by_cases bp:d=t
       .simpa only[bp,↓reduceIte]using hx
       .simp only[bp,↓reduceIte]at hx⊢;rw[qN,aD ht];exact hx
    have H:=aAs cg conv;have hF:=λk o=>hP.sub k o
    unfold wpOp;rw[ho];simp only;obtain⟨dst,op,ty,pos,after,gd⟩:=o
    have c1:bF C op (eZ C (e.rem (jD ops P))) (cX n dst (λe1 s'=>∃e2,gN C n ops K Kp W (f+P.length) (y.setIfInBounds i true) e2 s'/\∀t x,(e2.rem (jD ops P)).get t=some x->e1.get t=some x) (e.rem (jD ops P))) Kp s ->
      (⟨dst,op,ty,pos,after,gd⟩:Oper).wp C.P a w (wpAny C.P .any ops (Post C F g0 n D Q) f (gU P (y.setIfInBounds i true))) (Post C F g0 n D Q):=by
     intro c8;have:=aMK (ev:=a.eval) (ty:=ty) (dst:=dst) (pos:=pos) (after:=after) (gd:=gd) hR (G.oper hR) c8;exact aIy hF (λk o p=>hP.subP k o p) (o:=⟨dst,op,ty,pos,after,gd⟩) hg G b2 bh hD next c3 this
    have skip:cX n dst (λe1 s'=>∃e2,gN C n ops K Kp W (f+P.length) (y.setIfInBounds i true) e2 s'/\∀t x,(e2.rem (jD ops P)).get t=some x->e1.get t=some x) (e.rem (jD ops P)) s (.tuple []) ->
      wpAny C.P .any ops (Post C F g0 n D Q) f (gU P (y.setIfInBounds i true)) (a.put dst undef) w:=by
     intro hs;unfold cX at hs;cases bc:dst with
     | none=>subst bc;exact next g undef w _ s (fJ g) hR G b2 hD hs
     | some d=>subst bc;exact next g undef w _ s (fJ g) hR (G.put hs.1 (.tuple [] [] rfl bA)) (b2.other λd' c4=>by cases c4;exact bh d rfl) (by rw[aDo];exact hD) hs.2
    unfold kH at H;cases gd with
    | none =>
     rw[aF (by simp[Region.wanted])];exact .inl (c1 H)
    | some jw =>
     obtain⟨j,b9⟩:=jw;obtain⟨t,ht,H⟩:=H;rcases H with⟨b,hb,H⟩|⟨ls,hl,H⟩
     .have hy:=aJB (b:=b) ht G hb
      have hw:Region.wanted (⟨dst,op,ty,pos,after,some (j,b9)⟩:Oper) (yielded ops a.tmps)=(b == b9):=by
       simp only[Region.wanted,hy];cases b<;>cases b9<;>rfl
      rcases H with⟨bg,H⟩|⟨bg,H⟩
      .rw[aF (by rw[hw];simpa using bg)];exact .inl (c1 H)
      .rw[aD (by rw[hw];simpa using bg)];exact skip H
     .have hy:=aIL ht G hl;rw[aD (by simp[Region.wanted,hy])];exact skip H
   by_cases b5:∃p,p∈P/\sK o p.1=true
   ·
    obtain⟨p,B,bn⟩:=b5;obtain⟨dp,tp,cn,cl,c2,p1,p2,p3⟩:=yT (hP.late p B);have bm:=(p3 i o ho (λe=>O p B e.symm)).2.2 bn
    obtain⟨g',e',s',r1,r2,r3,r4⟩:=aHn (f+1) G.size P y S g e s M U (λm hm=>by
     by_cases b6:∃p,p∈P/\p.1=m
     .obtain⟨p,B,rfl⟩:=b6;exact hP.late p B
     .exfalso;obtain⟨m0,om,b7,c5⟩:=mem_ready.1 hm;by_cases bq:m=i
      .subst bq;rw[ho]at b7;cases b7;obtain⟨e,G,hb,bj⟩:=aAk.1 bn;have:=c5 e G hb;rw[bj,(wW (M p B)).2]at this;cases this
      .obtain⟨e,G,hb,bj⟩:=aAk.1 (bm m (iW.1 b7).1 bq);have:=b0 e G hb;rw[bj,aB3 false P y (λp B e=>b6 ⟨p,B,e⟩),(wW m0).2]at this;cases this) hP hR G h
    refine step [] (gU P y) F g' e' s' b3 (λp B=>by cases B) (λp B=>by cases B) bA rfl (hg.trans r1) r2 (r3.sub λt x hx=>?_) (b2.mono r1) (λd hd=>by simp[jD]at hd) ?_
    .rw[qN]at hx;simpa [jD]using hx
    .exact r4.2.2 i (aDp hi b4) o ho
   .have cf:i∈Region.ready .any ops y:=mem_ready.2 ⟨bd,o,ho,λe G hb=>by
     have:=b0 e G hb;rw[aB3 false P y (λp B e'=>b5 ⟨p,B,aAk.2 ⟨e,G,hb,e'.symm⟩⟩)]at this;exact this⟩
    refine step P y S g e s b3 M O U hP hg hR G b2 (λd hd hl=>?_) ?_
    .obtain⟨p,B,t,ty,pos,after,h1⟩:=aQ2 hP hd;obtain⟨d',t',bl,b8,Z,p1,p2,p3⟩:=yT (hP.late p B);rw[h1]at p1;cases p1;exact b5 ⟨p,B,(p3 i o ho (λe=>O p B e.symm)).2.1 hl⟩
    .have e1:f+1+P.length=f+P.length+1:=by omega
     rw[e1]at h;exact h.2.2 i (aDp cf b4) o ho
theorem aUm{m:Env}(y:∀o,o∈ops.toList->∀d,o.dst=some d->m.get d=none){D:List Deferred}{Q:XK->Env->St->Prop}(H:∀e s,K e s->∃e' s',e.ge e'/\Rle C s s'/\Q .normal e' s')
  (u:∀s v,Kp s v->Q (.panic v) m s)(htt:∀i t o,ops[i]?=some o->late ops i=true->o.op=.alloc t->(C.tt t).isSome=true)
  (f:Nat)(l:Array Bool)(g:Gh)(e:Env)(s:St)(a:Act)(w:World)(Z:uO l<=f)(S:g0.le g)(M:R C.toCtx F g s w)(O:EnvOk g n e a.tmps)(z:EnvOk g n m a.tmps)(G:a.defers=D)
  (h:gN C n ops K Kp W f l e s):wpAny C.P .any ops (Post C F g0 n D Q) f l a w :=
 aUl y H u htt f [] l F g e s a w Z (λp U=>by cases U) bA rfl S M (O.sub λt x B=>by rw[qN]at B;simpa [jD]using B) z G h
inductive OT where
 | nil
 | node (i:Nat) (r:OT)
 | alt (a b:OT)
 | pair (i j:Nat)
def OT.l:List Nat->OT->OT
 | [],t=>t
 | i::r,t=>.node i (OT.l r t)
def nD:List Oper->Nat->Option Oper
 | [],_=>none
 | o::_,0=>some o
 | _::r,i+1=>nD r i
def vQ(C:Cx)(t:TypeId)(b o:Nat)(s:St):Option A:=match s.getO b with
 | some (.cells _ cs)=>uK C t cs o
 | _=>none
def aHe(C:Cx)(t:TypeId)(b o:Nat)(v:A)(s:St):Prop:=vQ C t b o s=some v
def tkL(C:Cx)(t:TypeId)(b o:Nat)(h:A->Option (St->Prop)->Prop):Option A->Prop
 | some v=>h v (some (aHe C t b o v))
 | none=>False
def wD(h:A->Option (St->Prop)->Prop)(v:A):Prop:=h v none
def tkX(C:Cx)(t:TypeId)(op:Op)(ρ:Operand->Option A)(s:St)(h:A->Option (St->Prop)->Prop):Option A->Prop
 | some (.ptr b o)=>tkL C t b o h (vQ C t b o s)
 | _=>cJ C op ρ (wD h)
def aMp(C:Cx)(t:TypeId)(ok:Bool)(b:Nat)(a v:A)(s:St):Prop:=zM C s t ok b a=some v
def lkL(C:Cx)(t:TypeId)(ok:Bool)(b:Nat)(a:A)(h:A->Option (St->Prop)->Prop):Option A->Prop
 | some v=>h v (some (aMp C t ok b a v))
 | none=>False
def lkX(C:Cx)(t:TypeId)(ok:Bool)(s:St)(h:A->Option (St->Prop)->Prop):Option A->Option A->Prop
 | some (.mp b),some a=>lkL C t ok b a h (zM C s t ok b a)
 | _,_=>False
def tE(C:Cx)(op:Op)(ρ:Operand->Option A)(s:St)(h:A->Option (St->Prop)->Prop):Prop :=
 match op with
 | .load t x=>tkX C t (.load t x) ρ s h (ρ x)
 | .lookup t x k ok=>lkX C t ok s h (ρ x) (ρ k)
 | op=>cJ C op ρ (wD h)
def zT:List (Nat × List Nat)->Nat->List Nat
 | [],_=>[]
 | (j,l)::r,i=>if j=i then l else zT r i
def yD(h:List Nat)(s:St):List (Nat × (St->Prop))->Prop
 | []=>True
 | (m,p)::W=>(if h.elem m=true then p s else True)/\yD h s W
def aHT(n:Nat)(dst:Option Tmp)(h:List Nat)(next:List (Nat × (St->Prop))->Env->St->Prop)(W:List (Nat × (St->Prop)))(e:Env)(s:St)(v:A):Prop :=
 yD h s W/\cX n dst (next W) e s v
def tkK(n:Nat)(dst:Option Tmp)(i:Nat)(next:List (Nat × (St->Prop))->Env->St->Prop)(W:List (Nat × (St->Prop)))(e:Env)(s:St)(v:A):Option (St->Prop)->Prop
 | none=>cX n dst (next W) e s v
 | some p=>cX n dst (next ((i,p)::W)) e s v
def nV(C:Cx)(n:Nat)(E:List (Nat × List Nat))(i:Nat)(dst:Option Tmp)(op:Op)(next:List (Nat × (St->Prop))->Env->St->Prop)(W:List (Nat × (St->Prop)))
  (Kp:St->A->Prop)(e:Env)(s:St):Bool->Prop
 | true=>bF C op (eZ C e) (aHT n dst (zT E i) next W e) Kp s
 | false=>tE C op (eZ C e) s (tkK n dst i next W e s)
def rE(C:Cx)(n:Nat)(E:List (Nat × List Nat))(i:Nat)(dst:Option Tmp)(op:Op)(next:List (Nat × (St->Prop))->Env->St->Prop)(W:List (Nat × (St->Prop)))
  (Kp:St->A->Prop)(e:Env)(s:St)(t:Nat)(h:Bool):Option A->Prop
 | some (.bool true)=>match h with
  | true=>nV C n E i dst op next W Kp (e.put t (.bool true)) s (kI op)
  | false=>cX n dst (next W) (e.put t (.bool true)) s (.tuple [])
 | some (.bool false)=>match h with
  | false=>nV C n E i dst op next W Kp (e.put t (.bool false)) s (kI op)
  | true=>cX n dst (next W) (e.put t (.bool false)) s (.tuple [])
 | some (.tuple _)=>cX n dst (next W) e s (.tuple [])
 | _=>False
def gdY(C:Cx)(n:Nat)(E:List (Nat × List Nat))(i:Nat)(dst:Option Tmp)(op:Op)(next:List (Nat × (St->Prop))->Env->St->Prop)(W:List (Nat × (St->Prop)))
  (Kp:St->A->Prop)(e:Env)(s:St)(h:Bool):Option Tmp->Prop
 | none=>False
 | some t=>rE C n E i dst op next W Kp e s t h (e.get t)
def lY(C:Cx)(n:Nat)(ds:List (Option Tmp))(E:List (Nat × List Nat))(i:Nat)(next:List (Nat × (St->Prop))->Env->St->Prop)(W:List (Nat × (St->Prop)))
  (Kp:St->A->Prop)(e:Env)(s:St):Option Oper->Prop
 | none=>False
 | some ⟨dst,op,_,_,_,none⟩=>nV C n E i dst op next W Kp e s (kI op)
 | some ⟨dst,op,_,_,_,some (j,h)⟩=>gdY C n E i dst op next W Kp e s h (mL ds j)
def aHE:Option A->Option A->Option A->Prop
 | some a,some b,some c=>match a with
  | .rm k m z=>match b with
   | .ptr _ _=>match c with
    | .pen h es u=>k=h/\m=es.length/\z=u
    | _=>False
   | _=>False
  | _=>False
 | _,_,_=>False
def aCu(C:Cx)(e:Env):Option Oper->Option Oper->Prop
 | some ⟨none,.store _ x _,_,_,_,none⟩,some ⟨none,.store _ h m,_,_,_,none⟩=>aHE (eZ C e x) (eZ C e h) (eZ C e m)
 | _,_=>False
def iP(C:Cx)(n:Nat)(ds:List (Option Tmp))(ops:List Oper)(E:List (Nat × List Nat))(K:Env->St->Prop)(Kp:St->A->Prop):OT->List (Nat × (St->Prop))->Env->St->Prop
 | .nil,W,e,s=>K e s
 | .node i r,W,e,s=>lY C n ds E i (iP C n ds ops E K Kp r) W Kp e s (nD ops i)
 | .alt a b,W,e,s=>iP C n ds ops E K Kp a W e s/\iP C n ds ops E K Kp b W e s
 | .pair i j,W,e,s=>aCu C e (nD ops i) (nD ops j)/\lY C n ds E i (λW e s=>lY C n ds E j (λ_=>K) W Kp e s (nD ops j)) W Kp e s (nD ops i)
theorem aG2:∀(l:List Oper) (i:Nat),nD l i=l[i]?
 | [],i=>by simp[nD]
 | o::r,0=>rfl
 | o::r,i+1=>by simp[nD,aG2 r i]
def uE:Op->Bool
 | .load ..=>true
 | .lookup ..=>true
 | _=>false
def msk(h:List Nat):List Edge->Nat->Nat
 | [],m=>m
 | e::r,m=>msk h r (if Region.binds .any e then m ||| (1 <<< e.on) ||| (h[e.on]?.getD 0) else m)
def prs:List Oper->List Nat->List Nat
 | [],h=>h
 | o::r,h=>prs r (h++[msk h o.after.toList 0])
def okE(ops:Array Oper)(E:List (Nat × List Nat)):Bool :=
 let T:=prs ops.toList []
 (List.range ops.size).all fun i=>match ops[i]? with
  | some o=>!kI o.op||(List.range ops.size).all λm=>match ops[m]? with
   | some h=>!uE h.op||(zT E i).elem m||(T[i]?.getD 0).testBit m
   | none=>true
  | none=>true
def mK:OT->List (Nat × OT)
 | .nil=>[]
 | .node i r=>[(i,r)]
 | .alt a b=>mK a++mK b
 | .pair _ _=>[]
def xP(ops:Array Oper)(i:Nat):Bool:=match ops[i]? with
 | some o=>kI o.op
 | none=>false
def aG0(ops:Array Oper)(l:Array Bool):Bool :=
 let T:=prs ops.toList []
 (List.range ops.size).all fun m=>match ops[m]? with
  | some o=>!uE o.op||(List.range ops.size).any λj=>xP ops j&&l.getD j false&&(T[j]?.getD 0).testBit m
  | none=>true
def aD8(tt:TypeId->Option TI)(ops:Array Oper):Bool :=
 (List.range ops.size).all fun i=>!late ops i||(match ops[i]? with
  | some o=>match o.op with
   | .alloc t=>(tt t).isSome
   | _=>true
  | none=>true)
def rG(ops:Array Oper):Nat->Array Bool->OT->Bool
 | _,l,.nil=>(Region.ready .any ops l).isEmpty
 | 0,l,_=>false
 | f+1,l,.node i r=>if xP ops i then(Region.ready .any ops l).contains i&&(pQ ops l).all (· == i)&&rG ops f (l.setIfInBounds i true) r
   else(Region.ready .any ops l).contains i&&Region.free .any ops l i&&rG ops f (l.setIfInBounds i true) r
 | f+1,l,.alt a b=>!(Region.ready .any ops l).isEmpty&&(pQ ops l).all (λj=>(mK (.alt a b)).any λx=>x.1 == j) &&
   (mK (.alt a b)).all λx=>xP ops x.1&&rG ops f (l.setIfInBounds x.1 true) x.2
 | f+1,l,.pair i j=>(Region.ready .any ops l).contains i&&(Region.ready .any ops l).contains j&&(pQ ops l).all (λm=>m == i||m == j)&&!(i == j) &&
   (pQ ops (l.setIfInBounds i true)).all (· == j)&&(pQ ops (l.setIfInBounds j true)).all (· == i)&&(Region.ready .any ops ((l.setIfInBounds i true).setIfInBounds j true)).isEmpty&&aG0 ops l&&Nat.ble 1 f
theorem aMn{T:List Nat}{j:Nat}{o:Oper}(ho:ops[j]?=some o)(G:∀k m,(T[k]?.getD 0).testBit m=true->Bef ops m k) :
  ∀(es:List Edge) (m:Nat),(∀e,e∈es->e∈o.after)->(∀k,m.testBit k=true->Bef ops k j)->∀k,(msk T es m).testBit k=true->Bef ops k j
 | [],m,_,y,k,u=>y k u
 | e::r,m,z,y,k,u=>by
  refine aMn ho G r _ (λe' h=>z e' (eA _ h)) (λk u=>?_) k u;split at u
  .rename_i H;simp only[Nat.testBit_or,gV]at u;rcases u with(u|u)|u
   .exact y k u
   .rw[Nat.testBit_shiftLeft]at u;simp only[bP,bW]at u;obtain⟨O,B⟩:=u
    have:k-e.on=0:=by
     rcases Nat.eq_zero_or_pos (k-e.on)with h|h
     .exact h
     .have M:k-e.on≠0:=by omega
      rw[Nat.testBit_one_eq_true_iff_self_eq_zero]at B;exact B
    have u:k=e.on:=by omega
    subst u;exact .edge ho (z e bA) H
   .exact .step ho (z e bA) H (G _ _ u)
  .exact y k u
theorem aHj:∀(l:List Oper) (u:List Nat),(∀k,l[k]?=ops[u.length+k]?)->(∀k m,(u[k]?.getD 0).testBit m=true->Bef ops m k) ->
  ∀k m,((prs l u)[k]?.getD 0).testBit m=true->Bef ops m k
 | [],u,_,h=>h
 | o::r,u,hl,h=>by
  have ho:ops[u.length]?=some o:=by have:=hl 0;simpa using this.symm
  refine aHj r _ (λk=>?_) (λk m y=>?_)
  .have:=hl (k+1);simp only[List.getElem?_cons_succ]at this;rw[this,aH,uV];congr 1;omega
  .by_cases B:k<u.length
   .rw[kE B]at y;exact h k m y
   .by_cases z:k=u.length
    .subst z;simp only[sC (bJ _),Nat.sub_self,mO,qL]at y;exact aMn ho h o.after.toList 0 (λe z=>gQ z) (λk y=>by simp at y) m y
    .rw[uU (by simp;omega)]at y;simp at y
theorem aU0{E:List (Nat × List Nat)}(h:okE ops E=true){i m:Nat}{o G:Oper}(z:ops[i]?=some o)(B:ops[m]?=some G)(H:kI o.op=true)(hl:uE G.op=true) :
  (zT E i).elem m=true\/Bef ops m i:=by
 simp only[okE,dE,vA]at h;have y:=h i (iW.1 z).1;simp only[z,H,fP,gW,dE,vA]at y;have u:=y m (iW.1 B).1;simp only[B,hl,fP,gW,gV]at u;rcases u with u|u
 .exact .inl u
 .exact .inr (aHj ops.toList [] (λk=>by simp) (λk m M=>by simp at M) i m u)
theorem aLU{e e':Env}(h:∀t,e.get t=e'.get t):eZ C e=eZ C e':=by
 funext x;cases x<;>first|(simp only[eZ,h])|rfl
variable {E:List (Nat × List Nat)} {i:Nat} {next:List (Nat × (St->Prop))->Env->St->Prop}
theorem aIE{e:Env}{t:Nat}{a:A}(h:e.get t=some a):∀u,e.get u=(e.put t a).get u:=λu=>by
 rw[nL];by_cases m:t=u
 .subst m;simp[h]
 .simp[m]
theorem aTO{o:Oper}{KV:St->A->Prop}{e:Env}(O:kI o.op=true)(h:lY C n (ops.toList.map (·.dst)) E i next W Kp e s (some o))
  (U:∀e' s' v,(∀t,e.get t=e'.get t)->yD (zT E i) s' W->cX n o.dst (next W) e' s' v->KV s' v)
  (B:∀e',(∀t,e.get t=e'.get t)->cX n o.dst (next W) e' s (.tuple [])->KV s (.tuple [])):kH C (ops.toList.map (·.dst)) o KV Kp e s:=by
 obtain⟨dst,op,ty,pos,after,gd⟩:=o
 have m:∀e',(∀t,e.get t=e'.get t)->nV C n E i dst op next W Kp e' s (kI op)->bF C op (eZ C e) KV Kp s:=by
  intro e' u M;simp only at O;rw[O]at M;simp only[nV]at M;rw[aLU u];exact aDJ M (λs' v S=>U e' s' v u S.1 S.2) λ_ _ h=>h
 unfold kH;cases gd with
 | none=>exact m e (λ_=>rfl) h
 | some Z =>
  obtain⟨j,y⟩:=Z;simp only[lY]at h;cases H:mL (ops.toList.map (·.dst)) j with
  | none=>rw[H]at h;exact h.elim
  | some t =>
   rw[H]at h;simp only[gdY]at h;refine⟨t,H,?_⟩;cases G:e.get t with
   | none=>rw[G]at h;exact h.elim
   | some a =>
    rw[G]at h;have z:=aIE G;cases a<;>simp only[rE]at h
    case bool b =>
     cases b<;>cases y<;>simp only at h
     .exact .inl ⟨false,rfl,.inl ⟨rfl,m _ z h⟩⟩
     .exact .inl ⟨false,rfl,.inr ⟨by simp,B _ z h⟩⟩
     .exact .inl ⟨true,rfl,.inr ⟨by simp,B _ z h⟩⟩
     .exact .inl ⟨true,rfl,.inl ⟨rfl,m _ z h⟩⟩
    case tuple l=>exact .inr ⟨l,rfl,B _ (λ_=>rfl) h⟩
theorem aLP{op:Op}{ρ:Operand->Option A}{H:A->Option (St->Prop)->Prop}(h:tE C op ρ s H) :
  ∃v z,H v z/\(∀p,z=some p->uE op=true/\p s)/\∀s' (KV:St->A->Prop),(∀p,z=some p->p s')->KV s' v->bF C op ρ KV Kp s':=by
 have m:cJ C op ρ (wD H)->∃v z,H v z/\(∀p,z=some p->uE op=true/\p s)/\∀s' (KV:St->A->Prop),(∀p,z=some p->p s')->KV s' v->bF C op ρ KV Kp s':=by
  intro h;obtain⟨v,O,S⟩:=aLQ h;exact⟨v,none,O,(λp y=>by cases y),λs' KV _ B=>aCj (S (KV s') B)⟩
 cases op
 case load t x =>
  simp only[tE]at h;cases G:ρ x with
  | none=>rw[G]at h;exact m h
  | some a =>
   rw[G]at h;cases a
   case ptr b o =>
    simp only[tkX]at h;cases hl:vQ C t b o s with
    | none=>rw[hl]at h;exact h.elim
    | some v =>
     rw[hl]at h;refine⟨v,_,h,λp y=>by cases y;exact⟨rfl,hl⟩,λs' KV y B=>?_⟩;have u:vQ C t b o s'=some v:=y _ rfl;unfold vQ at u;simp only[bF,G];split at u
     .rename_i cs hcs;simp only[hcs,u];exact B
     .cases u
   all_goals exact m h
 case lookup t x k ok =>
  simp only[tE]at h;unfold lkX at h;split at h
  .rename_i b a G B;unfold lkL at h;split at h
   .rename_i v hl;refine⟨v,_,h,λp y=>by cases y;exact⟨rfl,hl⟩,λs' KV y M=>?_⟩;have u:zM C s' t ok b a=some v:=y _ rfl;simp only[bF,G,B,aAa,u];exact M
   .exact h.elim
  .exact h.elim
 all_goals exact m h
theorem aSF{o:Oper}{e:Env}(he:kI o.op=false)(h:lY C n (ops.toList.map (·.dst)) E i next W Kp e s (some o)) :
  ∃v u e',(∀t,e.get t=e'.get t)/\(∀p,u=some p->uE o.op=true/\p s) /\
   (∀s' (KV:St->A->Prop),(∀p,u=some p->p s')->KV s' v->kH C (ops.toList.map (·.dst)) o KV Kp e s')/\tkK n o.dst i next W e' s v u:=by
 obtain⟨dst,op,ty,pos,after,gd⟩:=o;simp only at he;unfold kH;cases gd with
 | none =>
  simp only[lY,he,nV]at h;obtain⟨v,u,S,U,Z⟩:=aLP (Kp:=Kp) h;exact⟨v,u,e,λ_=>rfl,U,Z,S⟩
 | some jw =>
  obtain⟨j,m⟩:=jw;simp only[lY]at h;cases G:mL (ops.toList.map (·.dst)) j with
  | none=>rw[G]at h;exact h.elim
  | some t =>
   rw[G]at h;simp only[gdY]at h;cases y:e.get t with
   | none=>rw[y]at h;exact h.elim
   | some a =>
    rw[y]at h;have M:=aIE y
    have H:∀b,a=.bool b->b=m->nV C n E i dst op next W Kp (e.put t a) s (kI op)->∃v u e',(∀t,e.get t=e'.get t)/\(∀p,u=some p->uE op=true/\p s) /\
      (∀ s' (KV : St → A → Prop),(∀ p,u = some p → p s') → KV s' v → ∃ t',mL (ops.toList.map (·.dst)) j = some t' ∧
       ((∃b,e.get t'=some (.bool b)/\((b=m/\bF C op (eZ C e) KV Kp s')\/(b≠m/\KV s' (.tuple []))))\/(∃l,e.get t'=some (.tuple l)/\KV s' (.tuple [])))) /\
      tkK n dst i next W e' s v u:=by
     intro b b0 b1 O;rw[he]at O;simp only[nV]at O;rw[<-aLU M]at O;obtain⟨v,u,S,U,Z⟩:=aLP (Kp:=Kp) O;exact⟨v,u,e.put t a,M,U,λs' KV B z=>⟨t,G,.inl ⟨b,by rw[y,b0],.inl ⟨b1,Z s' KV B z⟩⟩⟩,S⟩
    cases a<;>simp only[rE]at h
    case bool b =>
     cases b<;>cases m<;>simp only at h
     .exact H false rfl rfl h
     .exact⟨.tuple [],none,_,M,(λp B=>by cases B),λs' KV _ z=>⟨t,G,.inl ⟨false,y,.inr ⟨by simp,z⟩⟩⟩,h⟩
     .exact⟨.tuple [],none,_,M,(λp B=>by cases B),λs' KV _ z=>⟨t,G,.inl ⟨true,y,.inr ⟨by simp,z⟩⟩⟩,h⟩
     .exact H true rfl rfl h
    case tuple l=>exact⟨.tuple [],none,e,λ_=>rfl,(λp B=>by cases B),λs' KV _ z=>⟨t,G,.inr ⟨l,y,z⟩⟩,h⟩
end
end
end Go.AV
