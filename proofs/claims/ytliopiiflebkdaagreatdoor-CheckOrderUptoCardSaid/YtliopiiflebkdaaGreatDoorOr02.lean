/-
  Of CheckOrder.
-/
import Derived.Test.YtliopiiflebkdaaGreatDoorOr01
import Derived.Lib.AppendStr
import Derived.Lib.UnsafeStr
import Derived.Deep.LoopGhost
set_option linter.all false
set_option maxRecDepth 99999
set_option maxHeartbeats 0
namespace Go.AV
open Go Go.Proofs Tryz
section
def Gh.tok(g:Gh)(t n:Nat)(v:Value)(b:Nat)(xs:List Value):Gh :=
 ⟨λk=>if k=b then some xs else g.pi k,λh m=>if h=t/\m=n then some v else g.eta h m,g.beta,g.env⟩
def oQ(C:Cx)(s s':St)(t:Nat):Prop:=s'.ls=s.ls/\(C.det=true->s.lim<=s'.lim/\t<s'.lim)
section
variable {C:Cx} {F:Fr} {g:Gh} {s:St} {w:World} {ρ:Operand->Option A} {ev:Operand->Value}
theorem R.tokStep(h:R C.toCtx F g s w){w':World}{t n b:Nat}{e:TypeId}{v:Value}{xs:List Value}
  (hk:∀k,k<w.heap.size->k≠b->w'.heap[k]?=w.heap[k]?)(b0:w'.ownsRow 0 e (C.toCtx.sz e) v n xs)(hb:v.ownBlock=some b)
  (b5:∀m x,g.eta t m=some x->m<n)
  {s':St}(hO:∀q,s'.getO q=s.getO q)(hT:∀q,s'.getT q=if t=q then some (n,e) else s.getT q)(hl:oQ C s s' t)
  (O:(b=w.heap.size/\(s.getT t=none\/∃n0,s.getT t=some n0))\/∃n0 v0 Z L,s.getT t=some (n0,e)/\g.eta t n0=some v0/\v0.ownBlock=some b/\g.pi b=some Z/\xs=Z++L)(he:(w'.os,w'.output)=(w.os,w.output):=by rfl) :
  R C.toCtx F (g.tok t n v b xs) s' w'/\g.le (g.tok t n v b xs):=by
 have hF:F b=none:=by
  rcases O with⟨rfl,_⟩|⟨n0,v0,Z,L,y,G,h3,h4,_⟩
  .exact h.frm_new
  .obtain⟨v,xs,e1,_,_,h5⟩:=h.tok t n0 e y;rw[G]at e1;cases e1;exact(h5 b h3).2
 have bb:∀c k,g.beta c=some k->g.pi k=none->k≠b:=by
  rintro c k hc H rfl;rcases O with⟨rfl,_⟩|⟨n0,v0,Z,L,y,G,h3,h4,_⟩
  .exact h.bet_new c hc
  .rw[H]at h4;cases h4
 have b3:∀M n' v' k,M≠t->s.getT M=some n'->g.eta M n'.1=some v'->v'.ownBlock=some k->k≠b:=by
  rintro M n' v' k z B b9 H rfl;rcases O with⟨rfl,_⟩|⟨n0,v0,Z,L,y,G,h3,h4,_⟩
  .obtain⟨v2,bf,e1,_,_,h5⟩:=h.tok M n'.1 n'.2 B;rw[b9]at e1;cases e1;exact cV (h.lt_pi (h5 _ H).1) (Nat.lt_irrefl _)
  .exact h.sep M t n' (n0,e) v' v0 k z B y b9 G H h3
 have b4:g.le (g.tok t n v b xs):=by
  refine⟨λk pre U=>?_,λM m x hx=>?_,λ_ _ h=>h,rfl⟩
  .by_cases u:k=b
   .subst u;rcases O with⟨rfl,_⟩|⟨n0,v0,Z,L,y,G,h3,h4,h5⟩
    .rw[h.pi_new]at U;cases U
    .rw[h4]at U;cases U;exact⟨L,by simp[Gh.tok,h5]⟩
   .exact⟨[],by simp[Gh.tok,u,U]⟩
  .have:¬ (M=t/\m=n):=by
    rintro⟨rfl,rfl⟩;exact cV (b5 _ _ hx) (Nat.lt_irrefl _)
   simp only[Gh.tok,this,↓reduceIte];exact hx
 refine⟨⟨?_,?_,?_,?_,?_,?_,?_,?_,h.inj,?_,λx hx=>(h.lst x (by rw[<-hl.1];exact hx)).mono b4,h.bfr,he.trans h.env⟩,b4⟩
 .intro c o ho;rw[hO]at ho;obtain⟨k,h0,y,G,h3⟩:=h.obj c o ho;have z:=bb c k h0 G;exact⟨k,h0,by rw[hk k (h.bet c k h0) z];exact y.mono b4,by simp[Gh.tok,z,G],h3⟩
 .intro M n' e' B;rw[hT]at B;by_cases htt:t=M
  .subst htt;simp only[↓reduceIte,bI,lO]at B;obtain⟨rfl,rfl⟩:=B;refine⟨v,xs,by simp[Gh.tok],b0,λm x hx=>?_,λk H=>?_⟩
   .by_cases hm:m=n
    .omega
    .simp only[Gh.tok,hm,and_false,↓reduceIte]at hx;have:=b5 _ _ hx;omega
   .rw[hb]at H;cases H;exact⟨by simp[Gh.tok],hF⟩
  .simp only[htt,↓reduceIte]at B;obtain⟨v',bd,y,G,h3,h4⟩:=h.tok M n' e' B;have z:∀m,¬ (M=t/\m=n):=λm=>by rintro⟨rfl,_⟩;exact htt rfl
   refine⟨v',bd,?_,⟨G.1,?_⟩,?_,?_⟩
   .simp only[Gh.tok];rw[aD (z n')];exact y
   .rcases G.2 with hv|⟨k,cap,b2,hv,bc,hh,rest⟩
    .exact .inl hv
    .refine .inr ⟨k,cap,b2,hv,bc,?_,rest⟩;have u:=b3 M (n',e') v' k (λe=>htt e.symm) B y (by rw[hv];rfl);rw[hk k (fQ.1 hh).1 u];exact hh
   .intro m x hx;simp only[Gh.tok]at hx;rw[aD (z m)]at hx;exact h3 m x hx
   .intro k H;have u:=b3 M (n',e') v' k (λe=>htt e.symm) B y H;simp only[Gh.tok,u,↓reduceIte];exact h4 k H
 .intro t1 t2 n1 n2 v1 v2 k z y G e1 e2 o1 o2;rw[hT]at y G;simp only[Gh.tok]at e1 e2;by_cases b7:t=t1
  .subst b7;have b1:¬ t=t2:=z;have S:¬ t2=t:=λe=>z e.symm
   simp only[↓reduceIte,bI]at y;subst y;simp only[gT,↓reduceIte,bI]at e1;subst e1;simp only[b1,↓reduceIte]at G;simp only[S,mW,↓reduceIte]at e2;rw[hb]at o1;cases o1;exact b3 t2 n2 v2 b S G e2 o2 rfl
  .have b6:¬ t1=t:=λe=>b7 e.symm
   simp only[b7,↓reduceIte]at y;simp only[b6,mW,↓reduceIte]at e1;by_cases b1:t=t2
   .subst b1;simp only[↓reduceIte,bI]at G;subst G;simp only[gT,↓reduceIte,bI]at e2;subst e2;rw[hb]at o2;cases o2;exact b3 t1 n1 v1 b b6 y e1 o1 rfl
   .have S:¬ t2=t:=λe=>b1 e.symm
    simp only[b1,↓reduceIte]at G;simp only[S,mW,↓reduceIte]at e2;exact h.sep t1 t2 n1 n2 v1 v2 k z y G e1 e2 o1 o2
 .intro k pre U;by_cases u:k=b
  .subst u;simp only[Gh.tok,↓reduceIte,bI]at U;subst U;rcases b0.2 with⟨rfl,_⟩|⟨k',cap,b2,hv,_,hh,_,_,_,b8⟩
   .cases hb
   .rw[hv]at hb;simp only[Value.ownBlock,bI]at hb;subst hb;refine⟨b2.toList.drop (n * C.toCtx.sz e),e,(0,0),?_⟩;rw[hh,<-b8];simp
  .simp only[Gh.tok,u,↓reduceIte]at U;rw[hk k (h.lt_pi U) u];exact h.pis k pre U
 .intro k o ho;have u:k≠b:=by rintro rfl;rw[hF]at ho;cases ho
  rw[hk k (h.lt_frm ho) u];refine⟨(h.frm k o ho).1,?_⟩;simp only[Gh.tok,u,↓reduceIte];exact(h.frm k o ho).2
 .intro k cs hc;obtain⟨pre,ty,fr,U,hl,y,hr⟩:=h.glb k cs hc;exact⟨pre,ty,fr,U,hl,y,λj c v hc hv=>(hr j c v hc hv).mono b4⟩
 .obtain⟨N,hN⟩:=h.fsh;refine⟨max N (t+1),λM B=>⟨?_,λm=>?_,(hN M aB).2.2⟩⟩
  .rw[hT];have:¬ t=M:=by omega
   simp only[this,↓reduceIte];exact(hN M aB).1
  .have:¬ (M=t/\m=n):=by omega
   simp only[Gh.tok,this,↓reduceIte];exact(hN M aB).2.1 m
 .intro c k hc;have y:=h.bet c k hc;by_cases u:k=b
  .subst u;rcases b0.2 with⟨rfl,_⟩|⟨k',cap,b2,hv,_,hh,_⟩
   .cases hb
   .rw[hv]at hb;simp only[Value.ownBlock,bI]at hb;subst hb;exact(fQ.1 hh).1
  .have G:=hk k y u;rw[wU y]at G;exact(fQ.1 G).1
 .intro hd c hc;obtain⟨l1,l2⟩:=hl.2 hd;obtain⟨d1,d2⟩:=h.dtm hd c aB;refine⟨d1,λm=>?_⟩;have:¬ (c=t/\m=n):=by omega
  simp only[Gh.tok,this,↓reduceIte];exact d2 m
theorem R.tokNil(h:R C.toCtx F g s w)(e:TypeId){N:Nat}(n2:∀m,g.eta N m=none){s':St}(hO:∀q,s'.getO q=s.getO q)
  (hT:∀q,s'.getT q=if N=q then some (0,e) else s.getT q)(hl:oQ C s s' N) :
  ∃g',g.le g'/\g'.eta N 0=some (.slice none 0 0)/\R C.toCtx F g' s' w:=by
 have H:g.le { g with eta:=λy m=>if y=N/\m=0 then some (.slice none 0 0) else g.eta y m } :=
  ⟨fun k pre hp => ⟨[],gQ hp⟩,fun t m x z => by
   have:¬ (t=N/\m=0):=by rintro⟨rfl,rfl⟩;rw[n2]at z;cases z
   simp only[this,↓reduceIte];exact z,λ_ _ h=>h,rfl⟩
 refine⟨_,H,by simp,⟨?_,?_,?_,h.pis,h.frm,?_,?_,h.bet,h.inj,?_,λx z=>(h.lst x (by rw[<-hl.1];exact z)).mono H,h.bfr,h.env⟩⟩
 .intro b o ho;rw[hO]at ho;obtain⟨k,h0,B,G⟩:=h.obj b o ho;exact⟨k,h0,B.mono H,G⟩
 .intro y n' e' u;rw[hT]at u;by_cases htt:N=y
  .subst htt;simp only[↓reduceIte,bI,lO]at u;obtain⟨rfl,rfl⟩:=u;refine⟨.slice none 0 0,[],by simp,World.ownsRow_nil w 0 e _,λm x z=>?_,λk hk=>by cases hk⟩;by_cases hm:m=0
   .omega
   .simp only[hm,and_false,↓reduceIte]at z;rw[n2]at z;cases z
  .simp only[htt,↓reduceIte]at u;obtain⟨v,xs,B,G,h3,h4⟩:=h.tok y n' e' u;have U:∀m,¬ (y=N/\m=0):=λm=>by rintro⟨rfl,_⟩;exact htt rfl
   have L:¬ y=N:=λe=>htt e.symm
   refine⟨v,xs,?_,G,λm x z=>?_,h4⟩
   .simp only[L,mW,↓reduceIte];exact B
   .simp only[L,mW,↓reduceIte]at z;exact h3 m x z
 .intro t1 t2 b1 b2 v1 v2 k U B G e1 e2 o1 o2;rw[hT]at B G;by_cases O:N=t1
  .subst O;simp only[↓reduceIte,bI]at B;subst B;simp only[gT,↓reduceIte,bI]at e1;subst e1;cases o1
  .have Z:¬ t1=N:=λe=>O e.symm
   simp only[O,↓reduceIte]at B;simp only[Z,mW,↓reduceIte]at e1;by_cases S:N=t2
   .subst S;simp only[↓reduceIte,bI]at G;subst G;simp only[gT,↓reduceIte,bI]at e2;subst e2;cases o2
   .have b0:¬ t2=N:=λe=>S e.symm
    simp only[S,↓reduceIte]at G;simp only[b0,mW,↓reduceIte]at e2;exact h.sep t1 t2 b1 b2 v1 v2 k U B G e1 e2 o1 o2
 .intro b cs hc;obtain⟨pre,ty,fr,hp,hl,B,hr⟩:=h.glb b cs hc;exact⟨pre,ty,fr,hp,hl,B,λj c v hc hv=>(hr j c v hc hv).mono H⟩
 .obtain⟨M,hM⟩:=h.fsh;refine⟨max M (N+1),λy u=>⟨?_,λm=>?_,(hM y aB).2.2⟩⟩
  .rw[hT];have:¬ N=y:=by omega
   simp only[this,↓reduceIte];exact(hM y aB).1
  .have:¬ (y=N/\m=0):=by omega
   simp only[this,↓reduceIte];exact(hM y aB).2.1 m
 .intro hd c hc;obtain⟨l1,l2⟩:=hl.2 hd;obtain⟨d1,d2⟩:=h.dtm hd c aB;refine⟨d1,λm=>?_⟩;have:¬ (c=N/\m=0):=by omega
  simp only[this,↓reduceIte];exact d2 m
theorem zM(P:Program)(w:World)(t u ty e:TypeId)(i:TypeInfo)(B:P.underlying t=some (.slice e))(G:P.underlying u=some (.slice e))(y:P.info? e=some i)(m a:Option Addr)(n cap c:Nat)(h:n<=cap) :
  (Builtin.append_ #[t,u] ty #[.slice m n cap,.slice a 0 c]).run P w=.ok (.slice m n cap) w:=by
 have z:∀q:Addr,(storeCells q []).run P w=.ok () w:=λq=>rfl
 cases m<;>cases a <;>
  simp[Builtin.append_,cL B,cL G,sizeOf,typeInfo,y,Builtin.lenOf,h,Builtin.firstCells,loadCells,loadCellsFrom,z]
theorem zN(z:Array Value)(n:Nat):(Builtin.zeroCells z n).size=n * z.size:=by simp[Builtin.zeroCells]
theorem nS(w:World)(m q:Nat)(e:TypeId)(h:m<=9223372036854775807):m<=grownCap w m q e/\grownCap w m q e<=maxLen :=
 ⟨grownCap_ge w m q e,grownCap_le_maxLen w m q e (by unfold maxLen;omega)⟩
theorem uS(g:Gh)(t n:Nat)(v:Value)(b:Nat)(xs:List Value):(g.tok t n v b xs).pi b=some xs:=by simp[Gh.tok]
theorem sQ(g:Gh)(t n:Nat)(v:Value)(b:Nat)(xs:List Value):(g.tok t n v b xs).eta t n=some v:=by simp[Gh.tok]
theorem aDk(l:List Value)(z:Array Value):l.toArray++z=(l++z.toList).toArray:=by apply Array.ext';simp
theorem aAG(k l:List Value)(z:Array Value):k.toArray++l.toArray++z=((k++l)++z.toList).toArray:=by apply Array.ext';simp
theorem sR{KV Kp:St->A->Prop}(hR:R C.toCtx F g s w){t:Nat}{e:TypeId}{es:List A}{xs rest:List Value}{cap:Nat}{U:TI}(b1:C.tt e=some U)
  (B:∀y,y∈es->y.cells.length=U.sz)(H:∀y,y∈es->∀c,c∈y.cells->c.one=true)(S:Rzs g (cY es) xs)
  (h:es.length<=cap)(z:cap<=maxLen)(u:(xs++rest).length=cap * U.sz)
  {s':St}(hO:∀q,s'.getO q=s.getO q)(hT:∀q,s'.getT q=if t=q then some (es.length,e) else s.getT q)(hl:oQ C s s' t)
  (ht:s.getT t=none\/∃n0,s.getT t=some n0)(G:∀m x,g.eta t m=some x->m<es.length)
  (hK:KV s' (.list (some t) es)) :
  OutV C F g KV Kp (.ok (.value (.slice (some ⟨w.heap.size,0,none⟩) es.length cap)) (w.drew.alloc (.cells (xs++rest).toArray e))):=by
 have M:C.toCtx.sz e=U.sz:=rW b1;have Z:=uI B;have O:xs.length=es.length * U.sz:=by rw[S.1,Z]
 have L:(w.drew.alloc (.cells (xs++rest).toArray e)).ownsRow 0 e (C.toCtx.sz e) (.slice (some ⟨w.heap.size,0,none⟩) es.length cap) es.length xs:=by
  rw[M];refine⟨O,.inr ⟨w.heap.size,cap,_,rfl,aX _,sO w.drew _,h,z,gQ u,?_⟩⟩;rw[<-O];simp
 obtain⟨h1,h2⟩:=hR.tokStep (t:=t) (n:=es.length) (b:=w.heap.size) (w':=w.drew.alloc (.cells (xs++rest).toArray e)) (λk hk _=>rD w.drew _ hk) L rfl G hO hT hl (.inl ⟨rfl,ht⟩);refine⟨_,_,_,h2,h1,?_,hK⟩;refine sS (off:=0) (vs:=xs) (pre:=xs) (uS _ _ _ _ _ _) aW ?_ B H h z (aX _) (λt' b0=>by cases b0;exact sQ _ _ _ _ _ _);rw[jA aB];exact S.mono h2
theorem aAj(y:R C.toCtx F g s w){KV:St->A->Prop}{n:Nat}{e:TypeId}{ys:List A}(h:newT C s n e ys KV) :
  ∃N s',(∀m,g.eta N m=none)/\s.getT N=none/\(∀q,s'.getO q=s.getO q)/\(∀q,s'.getT q=if N=q then some (n,e) else s.getT q)/\oQ C s s' N /\
   KV s' (.list (some N) ys):=by
 unfold newT at h;cases u:C.det with
 | false =>
  rw[u]at h;obtain⟨N,H⟩:=y.fsh;obtain⟨G,L,_⟩:=H N (bL _);exact⟨N,s.setT N (n,e),L,G,λq=>rfl,λq=>cF s N (n,e) q,⟨rfl,λB=>by rw[u]at B;cases B⟩,h N G⟩
 | true =>
  rw[u]at h;have z:=(y.dtm u s.lim (bL _)).2;exact⟨s.lim,s.newT (n,e),z,y.freeT z,λq=>rfl,λq=>aB4 s (n,e) q,⟨rfl,λ_=>⟨Nat.le_succ _,lN _⟩⟩,h⟩
theorem aDx{m:TI}{z:Value}(M:∀g,Rzs g m.zero z.cells.toList)(H:∀c,c∈m.zero->c.one=true)(k:Nat) :
  ∃J:List A,J.length=k * m.zero.length/\(∀c,c∈J->c.one=true)/\∀g,Rzs g J (Builtin.zeroCells z.cells k).toList:=by
 have hl:∀g,z.cells.size=m.zero.length:=λg=>by simpa using(M g).1
 refine⟨(List.range (k * m.zero.length)).map (λi=>m.zero[i % m.zero.length]!),by simp,λc q=>?_,λg=>⟨by simp[Builtin.zeroCells,hl g],λj c v q L=>?_⟩⟩
 .simp only[cD,qA]at q;obtain⟨i,U,rfl⟩:=q;have O:0<m.zero.length:=Nat.pos_of_ne_zero (by rintro h;rw[h]at U;simp at U);have y:i % m.zero.length<m.zero.length:=Nat.mod_lt _ O;rw[getElem!_pos m.zero _ y];exact H _ (iF y)
 .rw[kD]at q;simp only[Builtin.zeroCells,Array.toList_map,Array.toList_range,kD,hl g]at L;cases S:(List.range (k * m.zero.length))[j]? with
  | none=>rw[S]at q;cases q
  | some i =>
   rw[S]at q L;simp only[jM,bI]at q L;have Z:=dG.1 S;obtain⟨u,B⟩:=Z;simp only[List.length_range]at u;simp only[List.getElem_range]at B;subst B;have O:0<m.zero.length:=Nat.pos_of_ne_zero (by rintro h;rw[h]at u;simp at u);have y:j % m.zero.length<m.zero.length:=Nat.mod_lt _ O;have G:j % m.zero.length<z.cells.size:=by rw[hl g];exact y
   rw[getElem!_pos m.zero _ y]at q;rw[getElem!_pos z.cells _ G]at L;refine(M g).2 (j % m.zero.length) c v (by rw[aV y,q]) ?_;rw[<-L];simp[G]
theorem aB7{KV Kp:St->A->Prop}(y:R C.toCtx F g s w)(S:C.det=false){e:TypeId}{n cap:Nat}{cs J:List A}{xs rest:List Value}(G:Rzs g cs xs)(M:Rzs g J rest)
  (H:∀c,c∈cs->c.one=true)(L:∀c,c∈J->c.one=true)(Z:n<=cap)(U:cap<=maxLen)(h:∀b,s.getO b=none->KV (s.setO b (.cells e (cs++J))) (.mg b n cap)) :
  OutV C F g KV Kp (.ok (.value (.slice (some ⟨w.heap.size,0,none⟩) n cap)) (w.drew.alloc (.cells (xs++rest).toArray e))):=by
 obtain⟨b,B⟩:=y.some_free;have z:R C.toCtx F g s w.drew:=y.heap rfl;have O:=h b (y.free B)
 have m:ObRz g (.cells e (cs++J)) (some (.cells (xs++rest).toArray e)):=⟨xs++rest,[],by simp,G.append M,λc u=>by
  rcases dK.1 u with u|u
  .exact H c u
  .exact L c u⟩
 refine⟨_,_,_,uZ B _,z.newObj m B (s':=s.setO b (.cells e (cs++J))) (λq=>aH s b _ q) (λq=>rfl) rfl (by rw[S];simp),?_,O⟩;exact .mg b n cap _ (by simp[Gh.bx]) Z U
theorem aCf(bs:List UInt8):(eQ bs).length=bs.length:=by simp[eQ]
theorem zS(bs:List UInt8):∀y,y∈eQ bs->y.cells.length=1:=by
 intro y h;simp only[eQ,cD]at h;obtain⟨c,_,rfl⟩:=h;rfl
theorem aCi(bs:List UInt8):∀y,y∈eQ bs->∀c,c∈y.cells->c.one=true:=by
 intro y m c h;simp only[eQ,cD]at m;obtain⟨x,_,rfl⟩:=m;simp only[A.cells,cC]at h;subst h;rfl
theorem aEC(bs:List UInt8):cY (eQ bs)=eQ bs:=by
 induction bs with
 | nil=>rfl
 | cons c r h=>simp only[eQ,bN,cY,kP]at *;rw[h];rfl
theorem aK4(g:Gh)(bs:List UInt8):Rzs g (eQ bs) (Lib.strCells ⟨bs.toArray⟩):=by
 refine⟨by simp[eQ,Lib.strCells],λj c v h m=>?_⟩;simp only[eQ,kD]at h;simp only[Lib.strCells,kD]at m;cases q:bs[j]? with
 | none=>rw[q]at h;cases h
 | some x =>
  rw[q]at h m;simp only[jM,bI]at h m;subst h m;exact .int _ _
theorem aND{M:TI}{t u e:TypeId}(H:C.tt t=some M)(h:aBk C M u=some e):C.P.underlying t=some (.slice e)/\C.P.underlying u=some .string/\∃y,C.tt e=some y/\y.sz=1/\y.bytes=1:=by
 unfold aBk at h;split at h
 .rename_i e0 U;split at h
  .rename_i tu y L G;split at h
   .rename_i B;split at h
    .rename_i Z;split at h
     .rename_i O;cases h;obtain⟨d,S,q⟩:=fG H;rw[U]at q;simp only[TK.ok]at q;subst q;obtain⟨d2,z,m⟩:=fG L;rw[B]at m;simp only[TK.ok]at m;subst m;exact⟨S,z,y,G,O⟩
     .cases h
    .cases h
   .cases h
  .cases h
 .cases h
theorem aLw(y:R C.toCtx F g s w){KV:St->A->Prop}{n:Nat}{e:TypeId}(h:wG C s n e KV) :
  ∃N s',(∀m,g.eta N m=none)/\s.getT N=none/\(∀q,s'.getO q=s.getO q)/\(∀q,s'.getT q=if N=q then some (0,e) else s.getT q)/\oQ C s s' N /\
   KV s' (.gr N n):=by
 unfold wG at h;cases u:C.det with
 | false =>
  rw[u]at h;obtain⟨N,H⟩:=y.fsh;obtain⟨G,L,_⟩:=H N (bL _);exact⟨N,s.setT N (0,e),L,G,λq=>rfl,λq=>cF s N (0,e) q,⟨rfl,λB=>by rw[u]at B;cases B⟩,h N G⟩
 | true =>
  rw[u]at h;have z:=(y.dtm u s.lim (bL _)).2;exact⟨s.lim,s.newT (0,e),z,y.freeT z,λq=>rfl,λq=>aB4 s (0,e) q,⟨rfl,λ_=>⟨Nat.le_succ _,lN _⟩⟩,h⟩
theorem aNT{KV Kp:St->A->Prop}{ty:TypeId}{x y:Operand}{t u e:TypeId}{bs:List UInt8}{a:A}{ti:TI}{dst:Option Tmp}{pos:String}{after:Array Edge}{gd:Option (Nat × Bool)}
  (hR:R C.toCtx F g s w)(he:∀x a,ρ x=some a->Rz g a (ev x))(hx:ρ x=some a)(hy:ρ y=some (.str bs))(ch:C.tt t=some ti)(hE:aBk C ti u=some e)(h:wF C s e bs KV a) :
  OutV C F g KV Kp ((execOp ev ⟨dst,.call ⟨.builtin .append,#[x,y],#[t,u]⟩,ty,pos,after,gd⟩).run C.P w):=by
 obtain⟨hd,b9,te,bb,S,bq⟩:=aND ch hE;obtain⟨i,z,hi,c2,bw,bz,cl⟩:=(C.htt e te bb).info
 have O:(execOp ev ⟨dst,.call ⟨.builtin .append,#[x,y],#[t,u]⟩,ty,pos,after,gd⟩).run C.P w =
   ((Builtin.append_ #[t,u] ty #[ev x,ev y]).run C.P w).andThen λv w'=>.ok (.value v) w':=by
  simp only[execOp,resolve,invoke,builtin,bE,bO,bD,hZ,bN,cP]
 have bn:C.toCtx.sz e=te.sz:=rW bb;have bc:=(he y _ hy).str_inv;have L:(ByteArray.mk bs.toArray).size=bs.length:=by simp[ByteArray.size]
 have b6:(Lib.strCells ⟨bs.toArray⟩).length=bs.length:=by simp[Lib.strCells]
 have cm:z.cells.size=1:=by
  have h1:=(cl g).1;rw[(C.htt e te bb).len,S]at h1;simpa using h1
 have b2:∀(n cap:Nat),n<=cap->(Builtin.zeroCells z.cells (cap-n)).toList.length+n=cap:=by
  intro n cap h;simp only[lM,zN,cm];omega
 have b3:Rzs g (cY (eQ bs)) (Lib.strCells ⟨bs.toArray⟩):=by rw[aEC];exact aK4 g bs
 cases a<;>simp only[wF]at h
 case nils =>
  obtain⟨cr,h⟩:=h;have bg:=(he x _ hx).nils_inv;obtain⟨N,s',m1,m2,m3,m4,m5,m6⟩:=aAj hR h;by_cases h0:bs=[]
  .subst h0
   have B:(Builtin.append_ #[t,u] ty #[.slice none 0 0,.string ⟨([]:List UInt8).toArray⟩]).run C.P w=.ok (.slice none 0 0) w:=by
    have hs:(ByteArray.mk ([]:List UInt8).toArray).size=0:=rfl;simp[Builtin.append_,cL hd,cL b9,sizeOf,typeInfo,hi,Builtin.lenOf,hs,Builtin.firstCells]
   rw[O,bg,bc,B];obtain⟨g',h2,h3,h4⟩:=hR.tokNil e m1 m3 m4 m5;exact⟨g',_,_,h2,h4,.list0 (some N) none 0 (aX _) (λt' c0=>by cases c0;exact h3),m6⟩
  .have bf:0<bs.length:=by cases bs with|nil=>exact cV rfl h0|cons=>simp
   have B:=run_append_nil_string (P:=C.P) w t u ty e i z hd b9 hi bz ⟨bs.toArray⟩ (by rw[L];exact bf) (by rw[L];omega) (by rw[L,bw,bq];omega);rw[L]at B;have U:=nS w bs.length 0 e aB;rw[O,bg,bc,B]
   rw[show(Array.map (λb:UInt8=>Value.int IntKind.u8 (b.toNat:Int)) (ByteArray.mk bs.toArray).data++Builtin.zeroCells z.cells (grownCap w bs.length 0 e-bs.length)) =
    (Lib.strCells ⟨bs.toArray⟩++(Builtin.zeroCells z.cells (grownCap w bs.length 0 e-bs.length)).toList).toArray by apply Array.ext';simp[Lib.strCells]]
   have b1:=aCf bs
   have:=sR (KV:=KV) (Kp:=Kp) hR (t:=N) bb (es:=eQ bs) (xs:=Lib.strCells ⟨bs.toArray⟩) (cap:=grownCap w bs.length 0 e) (rest:=(Builtin.zeroCells z.cells (grownCap w bs.length 0 e-bs.length)).toList)
    (λy hy=>by rw[S];exact zS bs y hy) (aCi bs) b3 (by rw[b1];exact U.1) U.2 (by rw[aI,b6,S,Nat.mul_one];have:=b2 _ _ U.1;omega)
    m3 (by rw[b1];exact m4) m5 (.inl m2) (λm x hx=>by rw[m1]at hx;cases hx) m6
   rw[b1]at this;exact this
 case list tk es =>
  cases tk with
  | none=>exact h.elim
  | some t0 =>
  obtain⟨⟨h1,h2,h3⟩,hK⟩:=h;obtain⟨ax,bj,bg,cz,cb,bh,ck⟩:=(he x _ hx).list_inv;obtain⟨v,xs,e1,H,c3,bl⟩:=hR.tok t0 es.length e h1;have cj:v=ev x:=by have:=bh t0 rfl;rw[e1]at this;exact uF this
  subst cj;rw[bn,S]at H;have b1:=aCf bs;have G:(es++eQ bs).length=es.length+bs.length:=by simp[b1]
  have bt:oQ C s (s.setT t0 (es.length+bs.length,e)) t0:=⟨rfl,λhd=>⟨bL _,Nat.lt_of_not_le λcd=>by
   have:=(hR.dtm hd t0 cd).2 es.length;rw[this]at e1;cases e1⟩⟩
  by_cases h0:bs=[]
  .subst h0
   have B:(Builtin.append_ #[t,u] ty #[.slice ax es.length bj,.string ⟨([]:List UInt8).toArray⟩]).run C.P w=.ok (.slice ax es.length bj) w:=by
    have hs:(ByteArray.mk ([]:List UInt8).toArray).size=0:=rfl;have cg:∀ad:Addr,(storeCells ad []).run C.P w=.ok () w:=λad=>rfl
    cases ax<;>simp[Builtin.append_,cL hd,cL b9,sizeOf,typeInfo,hi,Builtin.lenOf,hs,Builtin.firstCells,cb,cg]
   rw[O,bg,bc,B];have c7:=he x _ hx;rw[bg]at c7;refine⟨g,.list (some t0) es,_,dW g,hR.weaken (s':=s.setT t0 (es.length,e)) ⟨λb o ho=>ho,λk n hn=>?_,λ_ h=>h⟩ (λ_=>bL _),c7,by simpa [eQ]using hK⟩;rw[cF]at hn;by_cases bh:t0=k
   .subst bh;simp only[↓reduceIte]at hn;rw[h1];exact hn
   .simpa only[bh,↓reduceIte]using hn
  .have bf:0<bs.length:=by cases bs with|nil=>exact cV rfl h0|cons=>simp
   have b4:∀m x,g.eta t0 m=some x->m<(es++eQ bs).length:=λm x hx=>by have:=c3 m x hx;rw[G];omega
   have bd:∀y,y∈es++eQ bs->∀c,c∈y.cells->c.one=true:=by
    intro q hq c hc;rcases dK.1 hq with hq|hq
    .rcases ck with rfl|⟨b,off,sz,pre,_,_,_,_,ho,_⟩
     .cases hq
     .exact ho q hq c hc
    .exact aCi bs q hq c hc
   have bm:∀y,y∈es++eQ bs->y.cells.length=te.sz:=by
    intro q hq;rw[S];rcases dK.1 hq with hq|hq
    .exact h2 q hq
    .exact zS bs q hq
   have c8:Rzs g (cY es) xs:=by
    obtain⟨a',cp,q1,_,_,q2⟩:=(he x _ hx).to_flat;rcases q2 with rfl|⟨b',ct,cn,cw,q3,q4,q5,q6,q7,q8⟩
    .have:xs=[]:=fC (gQ H.1);rw[this];exact .nil g
    .by_cases Z:es=[]
     .subst Z;have:xs=[]:=fC (gQ H.1);rw[this];exact .nil g
     .have c4:0<es.length:=by cases es with|nil=>exact cV rfl Z|cons=>simp
      have c6:cn=1:=by rw[<-q6 _ (iF c4),h2 _ (iF c4)]
      subst q3;rcases H.2 with⟨hn,h0⟩|⟨g0,M,b0,b8,_⟩
      .omega
      .have bp:=bl g0 (by rw[b8];rfl);rw[b8]at q1;simp only[nR,bI,qB,nW,gT]at q1;obtain⟨⟨rfl,rfl⟩,rfl⟩:=q1;rw[bp.1]at q4;cases q4;rw[c6,rC,jA (by rw[H.1];exact bL _)]at q8;exact q8
   have bk:Rzs g (cY (es++eQ bs)) (xs++Lib.strCells ⟨bs.toArray⟩):=by rw[aEJ];exact c8.append b3
   rcases H.2 with⟨hn,c9⟩|⟨g0,M,b0,b8,_,bv,f0,c1,hcs,b7⟩
   .have Z:es=[]:=fC c9;have B:=run_append_nil_string (P:=C.P) w t u ty e i z hd b9 hi bz ⟨bs.toArray⟩ (by rw[L];exact bf) (by rw[L];omega) (by rw[L,bw,bq];omega);rw[L]at B;have U:=nS w bs.length 0 e aB;rw[O,hn,bc,B]
    rw[show(Array.map (λb:UInt8=>Value.int IntKind.u8 (b.toNat:Int)) (ByteArray.mk bs.toArray).data++Builtin.zeroCells z.cells (grownCap w bs.length 0 e-bs.length)) =
     (Lib.strCells ⟨bs.toArray⟩++(Builtin.zeroCells z.cells (grownCap w bs.length 0 e-bs.length)).toList).toArray by apply Array.ext';simp[Lib.strCells]]
    have:=sR (KV:=KV) (Kp:=Kp) hR (t:=t0) bb (es:=eQ bs) (xs:=Lib.strCells ⟨bs.toArray⟩) (cap:=grownCap w bs.length 0 e) (rest:=(Builtin.zeroCells z.cells (grownCap w bs.length 0 e-bs.length)).toList)
     (λy hy=>by rw[S];exact zS bs y hy) (aCi bs) b3 (by rw[b1];exact U.1) U.2 (by rw[aI,b6,S,Nat.mul_one];have:=b2 _ _ U.1;omega)
     (s':=s.setT t0 (es.length+bs.length,e)) (λq=>rfl) (λq=>by rw[cF];simp[Z,b1]) bt (.inr ⟨_,h1⟩) (by simpa [Z]using b4) (by simpa [Z]using hK)
    rw[b1]at this;exact this
   .by_cases b5:es.length+bs.length<=M
    .have cq:b0.size=M:=by rw[hcs,Nat.mul_one]
     have B:=Lib.run_append_room_string (P:=C.P) w t u ty e i hd b9 hi (by rw[c2,S]) g0 es.length M b0 bv ⟨bs.toArray⟩ (by rw[L];exact b5) (by rw[L];omega);rw[L]at B;rw[O,b8,bc,B]
     have c5:(w.setRow g0 (b0.toList.take es.length++Lib.strCells ⟨bs.toArray⟩++b0.toList.drop (es.length+bs.length)).toArray).ownsRow 0 e (C.toCtx.sz e) (.slice (some ⟨g0,0,none⟩) (es.length+bs.length) M) (es.length+bs.length) (xs++Lib.strCells ⟨bs.toArray⟩):=by
      rw[bn,S];refine⟨by rw[aI,H.1,b6];omega,.inr ⟨g0,M,_,rfl,aX _,uG bv _,b5,c1,?_,?_⟩⟩
      .simp only[List.size_toArray,aI,dV,cS,lM,b6];omega
      .rw[Nat.mul_one]at b7⊢;rw[b7];have:es.length+bs.length=(xs++Lib.strCells ⟨bs.toArray⟩).length:=by rw[aI,H.1,b6];omega
       rw[this];simp only[fF];rw[<-fF];exact List.take_left
     have bp:=bl g0 (by rw[b8];rfl);obtain⟨r1,r2⟩:=hR.tokStep (t:=t0) (b:=g0) (λk hk cf=>uQ cf _) c5 rfl (by rw[<-G];exact b4) (s':=s.setT t0 (es.length+bs.length,e)) (λq=>rfl) (λq=>cF _ _ _ q) bt (.inr ⟨es.length,ev x,xs,Lib.strCells ⟨bs.toArray⟩,h1,e1,by rw[b8];rfl,bp.1,rfl⟩);refine⟨_,.list (some t0) (es++eQ bs),_,r2,r1,?_,hK⟩;rw[<-G];refine sS (off:=0) (sz:=te.sz) (vs:=xs++Lib.strCells ⟨bs.toArray⟩) (pre:=xs++Lib.strCells ⟨bs.toArray⟩) (by rw[G];exact uS _ _ _ _ _ _) aW ?_ bm bd (by rw[G];exact b5) c1 (aX _) (λt' c0=>by cases c0;rw[G];exact sQ _ _ _ _ _ _);rw[jA (by rw[aI,H.1,b6,G,S];omega)];rw[G]at *;exact bk.mono r2
    .have br:∀j u,xs[j]?=some u->w.cell? ((⟨g0,0,none⟩:Addr).add j)=some u:=by
      intro j u hj;rw[iH];simp only[World.cell?,bv,Option.isSome_none,cQ,↓reduceIte,fX];rw[<-b7,kC]at hj;split at hj
      .simpa using hj
      .simp at hj
     have B:=Lib.run_append_grow_string (P:=C.P) w t u ty e i z hd b9 hi bz ⟨g0,0,none⟩ es.length M xs (by rw[H.1,c2,S]) br ⟨bs.toArray⟩ (by rw[L];omega) (by rw[L];omega)
      (growslice_fits (by rw[L];omega) (by rw[L,bw,bq];omega))
     rw[L]at B;have U:=nS w (es.length+bs.length) M e aB;rw[O,b8,bc,B,aAG]
     have:=sR (KV:=KV) (Kp:=Kp) hR (t:=t0) bb (es:=es++eQ bs) (xs:=xs++Lib.strCells ⟨bs.toArray⟩) (cap:=grownCap w (es.length+bs.length) M e) (rest:=(Builtin.zeroCells z.cells (grownCap w (es.length+bs.length) M e-(es.length+bs.length))).toList) bm bd bk (by rw[G];exact U.1) U.2
      (by rw[aI,aI,b6,H.1,S];have:=b2 _ _ U.1;omega) (s':=s.setT t0 (es.length+bs.length,e)) (λq=>rfl) (λq=>by rw[cF,G]) bt (.inr ⟨_,h1⟩) b4 hK
     rw[G]at this;exact this
theorem aIp(P:Program)(w:World)(t u ty e:TypeId)(k:IntKind)(i:TypeInfo)(z:Value)(S:P.underlying t=some (.slice e))(U:P.underlying u=some (.int k))(O:P.info? e=some i)(hz:i.zero=some z)
  (B:i.size≠0)(n:Nat)(G:0<n)(hn:n<=4294967296)(hb:n * i.bytes<=281474976710656) :
  (Builtin.append_ #[t,u] ty #[.slice none 0 0,.int .i64 n]).run P w = .ok (.slice (some ⟨w.heap.size,0,none⟩) n (grownCap w n 0 e))
   (w.drew.alloc (.cells (Builtin.zeroCells z.cells n++Builtin.zeroCells z.cells (grownCap w n 0 e-n)) e)):=by
 have Z:IntKind.i64.wrap (n:Int)=n:=IntWalk.i64_in _ ⟨by omega,by omega⟩;have H:¬ ((n:Int)<0):=by omega
 have L:¬ ((281474976710656:Int)<(n:Int) * (i.bytes:Int)):=by
  have:((n * i.bytes:Nat):Int)<=281474976710656:=by omega
  rw[Int.natCast_mul]at this;omega
 have y:n≠0:=by omega
 have q:¬ (9223372036854775807<(n:Int)):=by omega
 have m:¬ (281474976710656<Builtin.nextslicecap n 0 * i.bytes):=by rw[nextslicecap_zero G];omega
 have M:¬ (n * i.size=0):=by
  intro h;rcases Nat.mul_eq_zero.1 h with h|h
  .exact y h
  .exact B h
 simp[Builtin.append_,cL S,cL U,sizeOf,typeInfo,zeroValue,O,hz,Z,H,L,y,B,q,m,Builtin.firstCells,Question.forced,newRow,grownCap,asInt,asIntOf];intro h;exact cV h M
theorem aOj{KV Kp:St->A->Prop}{ty:TypeId}{x y:Operand}{t u:TypeId}{n:Int}{a:A}{ti:TI}{dst:Option Tmp}{pos:String}{after:Array Edge}{gd:Option (Nat × Bool)}
  (hR:R C.toCtx F g s w)(he:∀x a,ρ x=some a->Rz g a (ev x))(S:ρ x=some a)(hy:ρ y=some (.int .i64 n))(b5:C.tt t=some ti)(h:pQ C s ti u n KV a) :
  OutV C F g KV Kp ((execOp ev ⟨dst,.call ⟨.builtin .append,#[x,y],#[t,u]⟩,ty,pos,after,gd⟩).run C.P w):=by
 cases a<;>simp only[pQ]at h
 split at h
 .rename_i e hk;split at h
  .rename_i U tu M b6;split at h
   .rename_i k b4;obtain⟨⟨h0,Z,h2,h3⟩,h⟩:=h;obtain⟨d,hd,L⟩:=fG b5;rw[hk]at L;simp only[TK.ok]at L;subst L;obtain⟨d2,b0,q⟩:=fG b6;rw[b4]at q;simp only[TK.ok]at q;subst q;obtain⟨i,z,hi,b2,b1,b3,b9⟩:=(C.htt e U M).info
    have bb:z.cells.size=U.sz:=by
     have Z:=(b9 g).1;rw[(C.htt e U M).len]at Z;simpa using Z
    have hn:n=(n.toNat:Int):=by omega
    have b8:=(he y _ hy).int_inv;have b7:=(he x _ S).nils_inv
    have G:(execOp ev ⟨dst,.call ⟨.builtin .append,#[x,y],#[t,u]⟩,ty,pos,after,gd⟩).run C.P w =
      ((Builtin.append_ #[t,u] ty #[ev x,ev y]).run C.P w).andThen λv w'=>.ok (.value v) w':=by
     simp only[execOp,resolve,invoke,builtin,bE,bO,bD,hZ,bN,cP]
    have B:=aIp C.P w t u ty e k i z hd b0 hi b3 (by rw[b2];exact h2) n.toNat aB aB
     (by rw[b1];have:n.toNat * U.bytes<=4294967296 * 32768:=Nat.mul_le_mul aB h3;omega)
    rw[<-hn]at B;have H:=nS w n.toNat 0 e aB;obtain⟨N,s',m1,m2,m3,m4,m5,m6⟩:=aLw hR h;rw[G,b7,b8,B]
    have O:(w.drew.alloc (.cells (Builtin.zeroCells z.cells n.toNat++Builtin.zeroCells z.cells (grownCap w n.toNat 0 e-n.toNat)) e)).ownsRow 0 e (C.toCtx.sz e) (.slice (some ⟨w.heap.size,0,none⟩) 0 (grownCap w n.toNat 0 e)) 0 []:=by
     rw[rW M];refine⟨by simp,.inr ⟨w.heap.size,_,_,rfl,aX _,sO w.drew _,aX _,H.2,?_,by simp⟩⟩;simp only[Array.size_append,zN,bb,<-eT];congr 1;omega
    obtain⟨r1,r2⟩:=hR.tokStep (t:=N) (n:=0) (b:=w.heap.size) (w':=w.drew.alloc (.cells (Builtin.zeroCells z.cells n.toNat++Builtin.zeroCells z.cells (grownCap w n.toNat 0 e-n.toNat)) e))
     (λk hk _=>rD w.drew _ hk) O rfl (λm x S=>by rw[m1]at S;cases S) m3 m4 m5 (.inl ⟨rfl,.inl m2⟩)
    exact⟨_,_,_,r2,r1,.gr N _ _ _ (sQ _ _ _ _ _ _) H.1 H.2,m6⟩
   .exact h.elim
  .exact h.elim
 .exact h.elim
theorem R.freeze(q:R C.toCtx F g s w){t n b:Nat}{e:TypeId}{v:Value}(ht:s.getT t=some (n,e))(hv:g.eta t n=some v)(hb:v.ownBlock=some b)(m:Nat) :
  R C.toCtx F g (s.delT t) (w.freeze ⟨b,0,none⟩ m):=by
 by_cases z:m=0
 .subst z;have:w.freeze ⟨b,0,none⟩ 0=w:=by simp[World.freeze]
  rw[this];refine q.weaken ⟨λb o ho=>ho,λk x L=>?_,λ_ h=>h⟩ (λ_=>bL _);rw[oV]at L;split at L
  .cases L
  .exact L
 obtain⟨v',xs,e1,b4,b3,O⟩:=q.tok t n e ht;rw[hv]at e1;cases e1;obtain⟨b0,hF⟩:=O b hb
 have M:∀k,k≠b->(w.freeze ⟨b,0,none⟩ m).heap[k]?=w.heap[k]?:=by
  intro k M;have:¬ b=k:=λe=>M e.symm
  simp[World.freeze,z,Array.getElem?_modify,this]
 have b1:(w.freeze ⟨b,0,none⟩ m).heap.size=w.heap.size:=by simp[World.freeze,z]
 refine⟨λc o ho=>?_,λt' n' e' B=>?_,λt1 t2 n1 n2 v1 v2 k H G y=>?_,λk pre hp=>?_,λk o ho=>?_,q.glb,?_,?_,q.inj,?_,q.lst,q.bfr,(by simp[World.freeze,z,<-q.env])⟩
 .obtain⟨k,h0,G,y,h3⟩:=q.obj c o ho;have:k≠b:=by rintro rfl;rw[b0]at y;cases y
  exact⟨k,h0,by rw[M k this];exact G,y,h3⟩
 ·rw[oV] at B;split at B
  .cases B
  .rename_i H;obtain⟨v2,b2,G,y,h3,h4⟩:=q.tok t' n' e' B;refine⟨v2,b2,G,⟨y.1,?_⟩,h3,h4⟩;rcases y.2 with U|⟨k,cap,Z,U,h6,hh,rest⟩
   .exact .inl U
   .refine .inr ⟨k,cap,Z,U,h6,?_,rest⟩
    have:k≠b:=by
     rintro rfl;exact q.sep t' t (n',e') (n,e) v2 v k H B ht G hv (by rw[U];rfl) hb
    rw[M k this];exact hh
 .rw[oV]at G y;split at G
  .cases G
  .split at y
   .cases y
   .exact q.sep t1 t2 n1 n2 v1 v2 k H G y
 .obtain⟨rest,e2,fr,L⟩:=q.pis k pre hp;by_cases S:k=b
  .subst S;obtain⟨lo,hi⟩:=fr;refine⟨rest,e2,(if lo == hi then(0,0+m) else(min lo 0,max hi (0+m))),?_⟩;simp[World.freeze,z,Array.getElem?_modify,L]
  .exact⟨rest,e2,fr,by rw[M k S];exact L⟩
 .have:k≠b:=by rintro rfl;rw[hF]at ho;cases ho
  exact⟨by rw[M k this];exact(q.frm k o ho).1,(q.frm k o ho).2⟩
 .obtain⟨N,hN⟩:=q.fsh;refine⟨N,λu hu=>⟨?_,(hN u hu).2⟩⟩;rw[oV];split
  .rfl
  .exact(hN u hu).1
 .intro c k hc;rw[b1];exact q.bet c k hc
 .exact q.dtm
theorem aNW{KV Kp:St->A->Prop}{ty:TypeId}{x y:Operand}{t u:TypeId}{dst:Option Tmp}{pos:String}{after:Array Edge}{gd:Option (Nat × Bool)}
  (hR:R C.toCtx F g s w)(he:∀x a,ρ x=some a->Rz g a (ev x))(h:aY C (.call ⟨.builtin .unsafeString,#[x,y],#[t,u]⟩) ρ KV Kp s) :
  OutV C F g KV Kp ((execOp ev ⟨dst,.call ⟨.builtin .unsafeString,#[x,y],#[t,u]⟩,ty,pos,after,gd⟩).run C.P w):=by
 have m:(execOp ev ⟨dst,.call ⟨.builtin .unsafeString,#[x,y],#[t,u]⟩,ty,pos,after,gd⟩).run C.P w =
   ((Builtin.unsafeString_ #[t,u] ty #[ev x,ev y]).run C.P w).andThen λv w'=>.ok (.value v) w':=by
  simp only[execOp,resolve,invoke,builtin,bE,bO,bD,hZ,bN,cP]
 simp only[aY]at h;split at h
 .rename_i n hx hy;obtain⟨rfl,hK⟩:=h;rw[m,(he x _ hx).nilp_inv,(he y _ hy).int_inv,Lib.run_unsafeString_none];exact⟨g,.str [],s,dW g,hR,.str [],hK⟩
 .rename_i t0 es n hx hy;split at h
  .rename_i e hus;obtain⟨⟨rfl,ht⟩,bs,rfl,hK⟩:=h;obtain⟨hp,hc⟩:=C.hus _ _ hus;obtain⟨a,cap,hv,bj,hr⟩:=(he x _ hx).sd_inv;obtain⟨ad,bb,e1,hm,bk,b6,hh⟩:=hr.list_inv;obtain⟨v,xs,e2,B,bf,S⟩:=hR.tok t0 _ e ht;have e3:=b6 t0 rfl;rw[e2]at e3;cases e3;have O:=aCf bs;rw[m,hv,(he y _ hy).int_inv];by_cases h0:bs=[]
   .subst h0;have e5:((eQ ([]:List UInt8)).length:Int)=0:=rfl;rw[e5,Lib.run_unsafeString_none];have hw:w.freeze ⟨a.block,0,none⟩ 0=w:=by simp[World.freeze]
    have:=hR.freeze (b:=a.block) ht e2 rfl 0;rw[hw]at this;exact⟨g,.str [],s.delT t0,dW g,this,.str [],hK⟩
   .have b0:0<bs.length:=by cases bs with|nil=>exact cV rfl h0|cons=>simp
    rcases B.2 with⟨hn,_⟩|⟨g0,bc,M,b2,_,U,bl,b3,hcs,q⟩
    .cases hn
    simp only[nR,bI]at b2;obtain⟨rfl,_,rfl⟩:=b2;have H:C.toCtx.sz e=1:=hc;rw[H,Nat.mul_one]at hcs q;have b5:=(S g0 rfl).1
    have b8:Rzs g (eQ bs) xs:=by
     obtain⟨a',bd,q1,_,_,q2⟩:=hr.to_flat;rcases q2 with q2|⟨b',bg,b9,bh,q3,q4,q5,q6,q7,q8⟩
     .exact cV (List.map_eq_nil_iff.1 q2) h0
     .subst q3;simp only[nR,bI,qB,nW,gT]at q1;obtain⟨⟨rfl,rfl⟩,rfl⟩:=q1;rw[b5]at q4;cases q4;have Z:0<(eQ bs).length:=by rw[O];exact b0
      have b1:b9=1:=by rw[<-q6 _ (iF Z),zS bs _ (iF Z)]
      rw[b1,rC,jA (by rw[B.1,H];exact bL _),aEC]at q8;exact q8
    have L:∀j x,bs[j]?=some x->w.cell? ((⟨g0,0,none⟩:Addr).add j)=some (.int .u8 x.toNat):=by
     intro j x hj;have b4:(eQ bs)[j]?=some (.int .u8 x.toNat):=by simp[eQ,hj]
     obtain⟨u',z,b7⟩:=b8.get b4;rw[b7.int_inv]at z;rw[iH];simp only[World.cell?,U,Option.isSome_none,cQ,↓reduceIte,fX];rw[<-q,kC]at z;split at z
     .simpa using z
     .cases z
    have G:=Lib.run_unsafeString_row (P:=C.P) w t u ty e hp hc g0 M.size (by simp[World.shape?,U]) bs h0 (by rw[hcs];omega) (by unfold maxLen at b3;omega) L;rw[<-O]at G;rw[G];exact⟨g,.str bs,s.delT t0,dW g,hR.freeze ht e2 rfl _,.str bs,hK⟩
  .exact h.elim
 .exact h.elim
theorem aHn{KV Kp:St->A->Prop}{ty:TypeId}{x y:Operand}{t u:TypeId}{a:A}{Z:TI}{S:Option Addr}{dst:Option Tmp}{pos:String}{after:Array Edge}{gd:Option (Nat × Bool)}
  (hR:R C.toCtx F g s w)(he:∀x a,ρ x=some a->Rz g a (ev x))(hx:ρ x=some a)(hy:ev y=.slice S 0 0)(O:C.tt t=some Z)(h:uA C s Z t u KV a) :
  OutV C F g KV Kp ((execOp ev ⟨dst,.call ⟨.builtin .append,#[x,y],#[t,u]⟩,ty,pos,after,gd⟩).run C.P w):=by
 have G:(execOp ev ⟨dst,.call ⟨.builtin .append,#[x,y],#[t,u]⟩,ty,pos,after,gd⟩).run C.P w =
   ((Builtin.append_ #[t,u] ty #[ev x,ev y]).run C.P w).andThen λv w'=>.ok (.value v) w':=by
  simp only[execOp,resolve,invoke,builtin,bE,bO,bD,hZ,bN,cP]
 unfold uA at h;split at h
 .rename_i e hk;split at h
  .rename_i te M;obtain⟨rfl,h⟩:=h;obtain⟨d,U,H⟩:=fG O;rw[hk]at H;simp only[TK.ok]at H;subst H;obtain⟨i,z,hi,b1,b0,b2,b3⟩:=(C.htt e te M).info
   have key:∀(m:Option Addr) (n cap:Nat) (b:A),ev x=.slice m n cap->n<=cap->Rz g b (.slice m n cap)->KV s b ->
     OutV C F g KV Kp ((execOp ev ⟨dst,.call ⟨.builtin .append,#[x,y],#[u,u]⟩,ty,pos,after,gd⟩).run C.P w):=by
    intro m n cap b h1 h2 h3 h4;rw[G,h1,hy,zM C.P w u u ty e i U U hi m S n cap 0 h2];exact⟨g,b,s,dW g,hR,h3,h4⟩
   have q:=he x _ hx;split at h
   .have B:=q.nils_inv;rw[B]at q;exact key none 0 0 _ B (bL _) q h
   .obtain⟨a,B⟩:=q.emp_inv;rw[B]at q;exact key (some a) 0 0 _ B (bL _) q h
   .obtain⟨a,cap,B,_,L,_⟩:=q.list_inv;rw[B]at q;exact key a _ cap _ B L q h
   .obtain⟨k,cap,B,_,L,_⟩:=q.ml_inv;rw[B]at q;exact key _ _ cap _ B L q h
   .exact h.elim
  .exact h.elim
 .exact h.elim
theorem aFA{s1:St}(y:R C.toCtx F g s1 w){KV:St->A->Prop}{n sz:Nat}{e:TypeId}{ys:List A}(h:qQ C s1 n e ys sz KV) :
  ∃N s',(∀m,g.eta N m=none)/\s1.getT N=none/\(∀q,s'.getO q=s1.getO q)/\(∀q,s'.getT q=if N=q then some (n,e) else s1.getT q)/\oQ C s1 s' N /\
   KV s' (.pen N ys sz):=by
 unfold qQ at h;cases u:C.det with
 | false =>
  rw[u]at h;obtain⟨N,H⟩:=y.fsh;obtain⟨G,L,_⟩:=H N (bL _);exact⟨N,s1.setT N (n,e),L,G,λq=>rfl,λq=>cF s1 N (n,e) q,⟨rfl,λB=>by rw[u]at B;cases B⟩,h N G⟩
 | true =>
  rw[u]at h;have z:=(y.dtm u s1.lim (bL _)).2;exact⟨s1.lim,s1.newT (n,e),z,y.freeT z,λq=>rfl,λq=>aB4 s1 (n,e) q,⟨rfl,λ_=>⟨Nat.le_succ _,lN _⟩⟩,h⟩
theorem R.tokMove(h:R C.toCtx F g s w){w':World}{k N n b:Nat}{e:TypeId}{v v':Value}{xs:List Value}(n2:∀m,g.eta N m=none)
  (hk:∀j,j≠b->w'.heap[j]?=w.heap[j]?)(ht:s.getT k=some (n,e))(hv:g.eta k n=some v)(hb:v.ownBlock=some b)(b3:g.pi b=some xs)
  (S:w'.ownsRow 0 e (C.toCtx.sz e) v' n xs)(u:v'.ownBlock=some b)
  {s':St}(hO:∀q,s'.getO q=s.getO q)(hT:∀q,s'.getT q=if N=q then some (n,e) else if q=k then none else s.getT q)(hl:oQ C s s' N)(he:(w'.os,w'.output)=(w.os,w.output):=by rfl) :
  ∃g',g.le g'/\g'.eta N n=some v'/\g'.pi=g.pi/\R C.toCtx F g' s' w':=by
 have hF:F b=none:=by
  obtain⟨v1,bj,e1,_,_,h5⟩:=h.tok k n e ht;rw[hv]at e1;cases e1;exact(h5 b hb).2
 have b1:g.le { g with eta:=λH m=>if H=N/\m=n then some v' else g.eta H m } :=
  ⟨fun k pre hp => ⟨[],gQ hp⟩,fun t m x L => by
   have:¬ (t=N/\m=n):=by rintro⟨rfl,rfl⟩;rw[n2]at L;cases L
   simp only[this,↓reduceIte];exact L,λ_ _ h=>h,rfl⟩
 have bg:∀j,j<w.heap.size->j<w'.heap.size:=by
  intro j hj;by_cases G:j=b
  .subst G;rcases S.2 with⟨rfl,_⟩|⟨j',cap,b0,b6,_,hh,_⟩
   .cases u
   .rw[b6]at u;simp only[Value.ownBlock,bI]at u;subst u;exact(fQ.1 hh).1
  .have y:=hk j G;rw[wU hj]at y;exact(fQ.1 y).1
 refine⟨_,b1,by simp,rfl,⟨?_,?_,?_,?_,?_,?_,?_,λc j hc=>bg j (h.bet c j hc),h.inj,?_,λx L=>(h.lst x (by rw[<-hl.1];exact L)).mono b1,h.bfr,he.trans h.env⟩⟩
 .intro c o ho;rw[hO]at ho;obtain⟨j,h0,B,y,h3⟩:=h.obj c o ho;have:j≠b:=by rintro rfl;rw[b3]at y;cases y
  exact⟨j,h0,by rw[hk j this];exact B.mono b1,y,h3⟩
 .intro H n' e' z;rw[hT]at z;by_cases htt:N=H
  .subst htt;simp only[↓reduceIte,bI,lO]at z;obtain⟨rfl,rfl⟩:=z;refine⟨v',xs,by simp,S,λm x L=>?_,λj hj=>?_⟩
   .by_cases hm:m=n
    .omega
    .simp only[hm,and_false,↓reduceIte]at L;rw[n2]at L;cases L
   .rw[u]at hj;cases hj;exact⟨b3,hF⟩
  .have b2:¬ H=N:=λe=>htt e.symm
   simp only[htt,↓reduceIte]at z;split at z
   .cases z
   .rename_i O;obtain⟨v2,bh,B,y,h3,h4⟩:=h.tok H n' e' z;refine⟨v2,bh,?_,⟨y.1,?_⟩,λm x L=>?_,h4⟩
    .simp only[b2,mW,↓reduceIte];exact B
    .rcases y.2 with h5|⟨j,cap,b0,h5,h6,hh,rest⟩
     .exact .inl h5
     .refine .inr ⟨j,cap,b0,h5,h6,?_,rest⟩
      have:j≠b:=by
       rintro rfl;exact h.sep H k (n',e') (n,e) v2 v j O z ht B hv (by rw[h5];rfl) hb
      rw[hk j this];exact hh
    .simp only[b2,mW,↓reduceIte]at L;exact h3 m x L
 .intro t1 t2 bc bd v1 v2 j O B y e1 e2 o1 o2;rw[hT]at B y;by_cases b4:N=t1
  .subst b4;have U:¬ N=t2:=O;have Z:¬ t2=N:=λe=>O e.symm
   simp only[↓reduceIte,bI]at B;subst B;simp only[gT,↓reduceIte,bI]at e1;subst e1;simp only[U,↓reduceIte]at y;simp only[Z,mW,↓reduceIte]at e2;split at y
   .cases y
   .rename_i b8;rw[u]at o1;cases o1;exact h.sep t2 k bd (n,e) v2 v b b8 y ht e2 hv o2 hb
  .have bb:¬ t1=N:=λe=>b4 e.symm
   simp only[b4,↓reduceIte]at B;simp only[bb,mW,↓reduceIte]at e1;split at B
   .cases B
   .rename_i b7;by_cases U:N=t2
    .subst U;simp only[↓reduceIte,bI]at y;subst y;simp only[gT,↓reduceIte,bI]at e2;subst e2;rw[u]at o2;cases o2;exact h.sep t1 k bc (n,e) v1 v b b7 B ht e1 hv o1 hb
    .have Z:¬ t2=N:=λe=>U e.symm
     simp only[U,↓reduceIte]at y;simp only[Z,mW,↓reduceIte]at e2;split at y
     .cases y
     .exact h.sep t1 t2 bc bd v1 v2 j O B y e1 e2 o1 o2
 .intro j pre hp;by_cases G:j=b
  .subst G;have b9:g.pi j=some pre:=hp;rw[b3]at b9;cases b9;rcases S.2 with⟨rfl,_⟩|⟨j',cap,b0,b6,_,hh,_,_,_,b5⟩
   .cases u
   .rw[b6]at u;simp only[Value.ownBlock,bI]at u;subst u;refine⟨b0.toList.drop (n * C.toCtx.sz e),e,(0,0),?_⟩;rw[hh,<-b5];simp
  .rw[hk j G];exact h.pis j pre hp
 .intro j o ho;have G:j≠b:=by rintro rfl;rw[hF]at ho;cases ho
  rw[hk j G];exact h.frm j o ho
 .intro j cs hc;obtain⟨pre,ty,fr,hp,bf,B,hr⟩:=h.glb j cs hc;exact⟨pre,ty,fr,hp,bf,B,λj c v hc hv=>(hr j c v hc hv).mono b1⟩
 .obtain⟨M,hM⟩:=h.fsh;refine⟨max M (N+1),λH z=>⟨?_,λm=>?_,(hM H aB).2.2⟩⟩
  .rw[hT];have:¬ N=H:=by omega
   simp only[this,↓reduceIte];split
   .rfl
   .exact(hM H aB).1
  .have:¬ (H=N/\m=n):=by omega
   simp only[this,↓reduceIte];exact(hM H aB).2.1 m
 .intro hd c hc;obtain⟨l1,l2⟩:=hl.2 hd;obtain⟨d1,d2⟩:=h.dtm hd c aB;refine⟨d1,λm=>?_⟩;have:¬ (c=N/\m=n):=by omega
  simp only[this,↓reduceIte];exact d2 m
theorem aER{KV Kp:St->A->Prop}(hR:R C.toCtx F g s w){t:Nat}{e:TypeId}{es:List A}{xs rest:List Value}{cap:Nat}{z:TI}(b1:C.tt e=some z)
  (h:∀y,y∈es->y.cells.length=z.sz)(L:∀y,y∈es->∀c,c∈y.cells->c.one=true)(U:Rzs g (cY es) xs)
  (B:es.length+1<=cap)(G:cap<=maxLen)(u:(xs++rest).length=cap * z.sz)
  {s':St}(hO:∀q,s'.getO q=s.getO q)(hT:∀q,s'.getT q=if t=q then some (es.length,e) else s.getT q)(hl:oQ C s s' t)
  (ht:s.getT t=none)(H:∀m,g.eta t m=none)
  (hK:KV s' (.pen t es z.sz)) :
  OutV C F g KV Kp (.ok (.value (.slice (some ⟨w.heap.size,0,none⟩) (es.length+1) cap)) (w.drew.alloc (.cells (xs++rest).toArray e))):=by
 have O:C.toCtx.sz e=z.sz:=rW b1;have Z:=uI h;have S:xs.length=es.length * z.sz:=by rw[U.1,Z]
 have M:(w.drew.alloc (.cells (xs++rest).toArray e)).ownsRow 0 e (C.toCtx.sz e) (.slice (some ⟨w.heap.size,0,none⟩) es.length cap) es.length xs:=by
  rw[O];refine⟨S,.inr ⟨w.heap.size,cap,_,rfl,aX _,sO w.drew _,by omega,G,gQ u,?_⟩⟩;rw[<-S];simp
 obtain⟨h1,h2⟩:=hR.tokStep (t:=t) (n:=es.length) (b:=w.heap.size) (w':=w.drew.alloc (.cells (xs++rest).toArray e)) (λk hk _=>rD w.drew _ hk) M rfl
  (λm x hx=>by rw[H]at hx;cases hx) hO hT hl (.inl ⟨rfl,.inl ht⟩)
 refine⟨_,_,_,h2,h1,.pen t es z.sz _ cap ?_ B h,hK⟩;refine sS (off:=0) (vs:=xs) (pre:=xs) (uS _ _ _ _ _ _) aW ?_ h L aB G (aX _) (λt' b0=>by cases b0;exact sQ _ _ _ _ _ _);rw[jA aB];exact U.mono h2
theorem aN5{KV Kp:St->A->Prop}{ty:TypeId}{x y:Operand}{t u:TypeId}{z0 a:A}{ti:TI}{dst:Option Tmp}{pos:String}{after:Array Edge}{gd:Option (Nat × Bool)}
  (hR:R C.toCtx F g s w)(he:∀x a,ρ x=some a->Rz g a (ev x))(hx:ρ x=some a)(hy:ρ y=some (.hl z0))(cw:C.tt t=some ti)(h:tS C s ti t u z0 KV a) :
  OutV C F g KV Kp ((execOp ev ⟨dst,.call ⟨.builtin .append,#[x,y],#[t,u]⟩,ty,pos,after,gd⟩).run C.P w):=by
 have H:(execOp ev ⟨dst,.call ⟨.builtin .append,#[x,y],#[t,u]⟩,ty,pos,after,gd⟩).run C.P w =
   ((Builtin.append_ #[t,u] ty #[ev x,ev y]).run C.P w).andThen λv w'=>.ok (.value v) w':=by
  simp only[execOp,resolve,invoke,builtin,bE,bO,bD,hZ,bN,cP]
 unfold tS at h;split at h;rotate_left
 .exact h.elim
 rename_i e hk;split at h;rotate_left
 .exact h.elim
 rename_i L bd;obtain⟨⟨rfl,fk,c1,cg⟩,h⟩:=h;obtain⟨d,hd,bw⟩:=fG cw;rw[hk]at bw;simp only[TK.ok]at bw;subst bw;obtain⟨i,z,hi,Z,c3,c4,f4⟩:=(C.htt e L bd).info;have bm:C.toCtx.sz e=L.sz:=rW bd;obtain⟨ad,b6,bf,cf⟩:=(he y _ hy).hl_inv;have f2:=cf.to_flat;obtain⟨fb,ck,bg,_,cl,_,f3⟩:=cf.list_inv;rw[bf]at bg;simp only[aO,aU,fX,nR,gT]at bg;obtain⟨rfl,rfl⟩:=bg;obtain⟨b2,G,f7,U,cd,c6,cn,cr,cq,fj⟩:=f3.resolve_left aW;simp only[bI]at cd;subst cd;have c9:f7=L.sz:=by rw[<-cr z0 aW,cg]
 subst c9;simp only[aO,aU,fX]at cn cl;obtain⟨f6,e2,fc,cm⟩:=hR.pis b2 U c6;have hnl:((U.drop G).take (1 * L.sz)).length=1 * L.sz:=by rw[dV,cS];omega
 have b0:∀j v,((U.drop G).take (1 * L.sz))[j]?=some v->w.cell? ((⟨b2,G,none⟩:Addr).add j)=some v:=by
  intro j v hj;rw[kC]at hj;split at hj
  .rw[jL]at hj;rw[iH];simp only[World.cell?,cm,Option.isSome_none,cQ,↓reduceIte,jK];rw[gO (dG.1 hj).1];exact hj
  .simp at hj
 have bq:Rzs g (cY [z0]) ((U.drop G).take (1 * L.sz)):=by
  obtain⟨a',c0,e1,_,_,e2⟩:=f2;rw[bf]at e1;rcases e2 with e2|⟨b',ch,bz,cj,e3,e4,e5,e6,e7,e8⟩
  .cases e2
  .subst e3;simp only[aO,aU,fX,nR,bI,qB,nW,gT]at e1;obtain⟨⟨rfl,rfl⟩,rfl⟩:=e1;rw[c6]at e4;cases e4;have:bz=L.sz:=by rw[<-e6 z0 aW,cg]
   rw[this]at e8;exact e8
 generalize fh:(U.drop G).take (1 * L.sz)=news at *
 have br:∀c,c∈cY [z0]->c.one=true:=by
  intro c hc;simp only[cY,List.mem_flatMap]at hc;obtain⟨q,hq,hc⟩:=hc;exact cq q hq c hc
 have cp:∀v,v∈news->v.oneCell'=true:=bq.one br
 have f5:z.cells.size=L.sz:=by
  have h1:=(f4 g).1;rw[(C.htt e L bd).len]at h1;simpa using h1
 have b7:∀(n cap:Nat),n<=cap->(Builtin.zeroCells z.cells (cap-n)).toList.length+n * L.sz=cap * L.sz:=by
  intro n cap h;simp only[lM,zN,f5,<-eT];congr 1;omega
 have O:(Builtin.append_ #[u,u] ty #[.slice none 0 0,ev y]).run C.P w=.ok (.slice (some ⟨w.heap.size,0,none⟩) 1 (grownCap w 1 0 e)) (w.drew.alloc (.cells (news.toArray++Builtin.zeroCells z.cells (grownCap w 1 0 e-1)) e)):=by
  rw[bf]
  exact run_append_nil (P:=C.P) w u ty e i z hd hi c4 ⟨b2,G,none⟩ 1 b6 news (by rw[hnl,Z]) b0 aB aB
    (by have:1 * i.bytes<=1 * 32768:=Nat.mul_le_mul (bL _) (by rw[c3];exact c1);omega)
 have b8:=nS w 1 0 e aB
 have S:∀{s1:St},R C.toCtx F g s1 w->qQ C s1 0 e [] L.sz KV->OutV C F g KV Kp (.ok (.value (.slice (some ⟨w.heap.size,0,none⟩) 1 (grownCap w 1 0 e))) (w.drew.alloc (.cells (news.toArray++Builtin.zeroCells z.cells (grownCap w 1 0 e-1)) e))):=by
  intro s1 b5 h1;obtain⟨N,s',m1,m2,m3,m4,m5,m6⟩:=aFA b5 h1;rw[aDk]
  exact aER (KV:=KV) (Kp:=Kp) b5 (t:=N) bd (es:=[]) (xs:=[]) (rest:=news++(Builtin.zeroCells z.cells (grownCap w 1 0 e-1)).toList) (λy hy=>by cases hy) (λy hy=>by cases hy) (.nil g) (gQ b8.1) b8.2
   (by rw[bP,aI,hnl];have:=b7 _ _ b8.1;omega) m3 m4 m5 m2 m1 m6
 split at h
 .have cb:=(he x _ hx).nils_inv;rw[H,cb,O];exact S hR h
 .rename_i tk es;cases tk with
  | none=>exact h.elim
  | some k =>
  simp only at h;obtain⟨⟨h1,h2,h3⟩,h⟩:=h;obtain⟨ax,f8,cb,ff,fd,cz,f1⟩:=(he x _ hx).list_inv;obtain⟨v,xs,e1,m,f9,bk⟩:=hR.tok k es.length e h1;have f0:v=ev x:=by have:=cz k rfl;rw[e1]at this;exact uF this
  subst f0;rw[bm]at m
  have b5:R C.toCtx F g (s.delT k) w:=hR.weaken ⟨λb o ho=>ho,λq n hn=>by
   rw[oV]at hn;split at hn
   .cases hn
   .exact hn,λ_ h=>h⟩ (λ_=>bL _)
  have b9:∀y,y∈es->∀c,c∈y.cells->c.one=true:=by
   intro q hq c hc;rcases f1 with rfl|⟨b,off,sz,pre,_,_,_,_,ho,_⟩
   .cases hq
   .exact ho q hq c hc
  have bj:(es.length+1) * i.bytes<=140737488355328:=by
   have:(es.length+1) * i.bytes<=4294967296 * 32768:=Nat.mul_le_mul h3 (by rw[c3];exact c1);omega
  have bn:Rzs g (cY es) xs:=by
   obtain⟨a',c0,q1,_,_,q2⟩:=(he x _ hx).to_flat;rcases q2 with rfl|⟨b',ch,bz,cj,q3,q4,q5,q6,q7,q8⟩
   .have:xs=[]:=fC (gQ m.1);rw[this];exact .nil g
   .by_cases b4:es=[]
    .subst b4;have:xs=[]:=fC (gQ m.1);rw[this];exact .nil g
    .have c5:0<es.length:=by cases es with|nil=>exact cV rfl b4|cons=>simp
     have c8:bz=L.sz:=by rw[<-q6 _ (iF c5),h2 _ (iF c5)]
     subst q3;rcases m.2 with⟨hn,h0⟩|⟨g0,B,M,b3,_⟩
     .omega
     .have bh:=bk g0 (by rw[b3];rfl);rw[b3]at q1;simp only[nR,bI,qB,nW,gT]at q1;obtain⟨⟨rfl,rfl⟩,rfl⟩:=q1;rw[bh.1]at q4;cases q4;rw[c8,rC,jA (by rw[m.1];exact bL _)]at q8;exact q8
  rcases m.2 with⟨hn,h0⟩|⟨g0,B,M,b3,_,bv,fg,c2,hcs,bc⟩
  .have b4:es=[]:=fC h0;subst b4;rw[H,hn,O];exact S b5 h
  .obtain⟨N,s',m1,m2,m3,m4,m5,m6⟩:=aFA b5 h;by_cases b1:es.length+1<=B
   .have bl:es.length * i.size+news.length<=M.size:=by
     rw[hnl,Z,hcs,<-eT];exact nP _ b1
    have bb:=run_append_room (P:=C.P) w u ty e i hd hi g0 es.length B M bv ⟨b2,G,none⟩ 1 b6 news (by rw[hnl,Z]) b0 cp b1 bl;rw[H,b3,bf,bb]
    have c7:(w.setRow g0 (M.toList.take (es.length * i.size)++news++M.toList.drop (es.length * i.size+news.length)).toArray).ownsRow 0 e (C.toCtx.sz e) (.slice (some ⟨g0,0,none⟩) es.length B) es.length xs:=by
     rw[bm,Z];refine⟨m.1,.inr ⟨g0,B,_,rfl,aX _,uG bv _,by omega,c2,?_,?_⟩⟩
     .rw[Z]at bl;simp only[List.size_toArray,aI,dV,cS,lM];omega
     .rw[bc,fF];rw[<-m.1];exact List.take_left
    have bh:=bk g0 (by rw[b3];rfl);obtain⟨g',r1,r2,r3,r4⟩:=hR.tokMove (k:=k) (N:=N) m1 (λj hj=>uQ hj _) h1 e1 (by rw[b3];rfl) bh.1 c7 rfl (s':=s') (λq=>m3 q) (λq=>by rw[m4,oV]) m5;refine⟨g',.pen N es L.sz,s',r1,r4,.pen N es L.sz g0 B ?_ b1 h2,m6⟩;refine sS (off:=0) (sz:=L.sz) (vs:=xs) (pre:=xs) (by rw[r3];exact bh.1) aW ?_ h2 b9 aB c2 (aX _) (λt' ct=>by cases ct;exact r2);rw[jA (by rw[m.1];exact bL _)];exact bn.mono r1
   .have bp:∀j u,xs[j]?=some u->w.cell? ((⟨g0,0,none⟩:Addr).add j)=some u:=by
     intro j u hj;rw[iH];simp only[World.cell?,bv,Option.isSome_none,cQ,↓reduceIte,fX];rw[<-bc,kC]at hj;split at hj
     .simpa using hj
     .simp at hj
    have bb:=run_append_grow (P:=C.P) w u ty e i z hd hi c4 ⟨g0,0,none⟩ es.length B xs (by rw[m.1,Z]) bp ⟨b2,G,none⟩ 1 b6 news (by rw[hnl,Z]) b0 aB aB (growslice_fits aB bj);have bt:=nS w (es.length+1) B e aB;rw[H,b3,bf,bb,aAG,fF]
    exact aER (KV:=KV) (Kp:=Kp) b5 (t:=N) bd (es:=es) (xs:=xs) (rest:=news++(Builtin.zeroCells z.cells (grownCap w (es.length+1) B e-(es.length+1))).toList) h2 b9 bn bt.1 bt.2
     (by rw[aI,aI,hnl,m.1];have:=b7 _ _ bt.1;rw[eT]at this;omega) m3 m4 m5 m2 m1 m6
 .exact h.elim
theorem aG0(hR:R C.toCtx F g s w){a:A}{v:Value}(h:Rz g a v):Rz g (gA s a) v:=by
 cases a<;>try exact h
 rename_i t es sz;simp only[gA];cases hq:s.ls with
 | none=>exact h
 | some q =>
  simp only[yV];split
  .rename_i G;obtain⟨h1,h2,h3⟩:=G;obtain⟨b,cap,rfl,hl,b2,hs⟩:=h.pen_inv;obtain⟨b',b1,pre,k1,H,k3,k4,k5,k6,k7,Z⟩:=hR.lst q hq;rw[h1,h2]at k1 H
   have S:g.eta t es.length=some (.slice (some ⟨b,0,none⟩) es.length cap):=by
    obtain⟨_,_,_,_,_,h5,_⟩:=hl.list_inv;exact h5 _ rfl
   rw[S]at H;simp only[bI,nR,qB,nW,gT]at H;obtain⟨rfl,rfl⟩:=H;rw[h2]at k6 Z;rw[h3]at k6 Z;have z:(es++[q.2.2]).length=es.length+1:=by simp
   rw[<-z];refine .list (some t) (es++[q.2.2]) b 0 sz cap pre k5 (by rw[z];omega) (by rw[z];omega) k4 (λy m=>?_) (λy m c G=>?_) (λj y i c u m G U=>?_) (λt' O=>by cases O;rw[z];exact k1)
   .rcases dK.1 m with m|m
    .exact hs y m
    .simp only[cC]at m;subst m;exact h3
   .rcases dK.1 m with m|m
    .obtain⟨_,_,_,_,_,_,M⟩:=hl.list_inv;rcases M with rfl|⟨_,_,_,_,_,_,_,_,ho,_⟩
     .cases m
     .exact ho y m c G
    .simp only[cC]at m;subst m;exact k7 c G
   .rw[fX]at U;by_cases hj:j<es.length
    .rw[gO hj]at m;obtain⟨_,_,q1,_,_,_,M⟩:=hl.list_inv;rcases M with rfl|⟨b3,b4,b0,b5,rfl,p1,p2,p3,p4,p5⟩
     .simp at hj
     .simp only[nR,bI,qB,nW,gT]at q1;obtain⟨⟨rfl,rfl⟩,rfl⟩:=q1;rw[k5]at p1;cases p1;have B:=cR m;have:b0=sz:=by rw[<-p3 y B,hs y B]
      subst this;exact p5 j y i c u m G (by rw[fX];exact U)
    .rw[nO aB]at m
     have L:j-es.length=0:=by
      rcases Nat.eq_zero_or_pos (j-es.length)with h|h
      .exact h
      .rw[qY (by simp;omega)]at m;cases m
     rw[L]at m;simp only[iZ,bI]at m;subst m;have:j=es.length:=by omega
     subst this;exact Z i c u G U
  .exact h
theorem aOI{KV Kp:St->A->Prop}{t ty:TypeId}{x y:Operand}{k n z:Nat}{v:A}{ti:TI}{dst:Option Tmp}{pos:String}{after:Array Edge}{gd:Option (Nat × Bool)}
  (hR:R C.toCtx F g s w)(he:∀x a,ρ x=some a->Rz g a (ev x))(hx:ρ x=some (.rm k n z))(hy:ρ y=some v)(bh:C.tt t=some ti)(h:pU C s k n z ti v KV) :
  OutV C F g KV Kp ((execOp ev ⟨dst,.store t x y,ty,pos,after,gd⟩).run C.P w):=by
 unfold pU at h;split at h;rotate_left
 .exact h.elim
 rename_i m e ht;split at h;rotate_left
 .exact h.elim
 rename_i L bg;obtain⟨⟨rfl,rfl,h2,h3,h4⟩,hK⟩:=h;obtain⟨b,cap,hp,H,M⟩:=(he x _ hx).rm_inv;obtain⟨v0,xs,O,B,b4,b1⟩:=hR.tok k m e ht;rw[H]at O;cases O;have U:C.toCtx.sz e=L.sz:=rW bg;rw[U]at B;rcases B.2 with⟨hn,_⟩|⟨g0,bj,G,b7,_,b3,bk,b2,hcs,Z⟩
 .cases hn
 simp only[nR,bI,qB,nW,gT]at b7;obtain⟨rfl,rfl⟩:=b7;have b8:=b1 b rfl;have hv:=he y _ hy;have b0:=hv.cells;have O:(ev y).cells.toList.length=L.sz:=by rw[b0.1,h3]
 have S:∀c,c∈v.cells->c.one=true:=by simpa [fE]using h4
 have bd:m * L.sz+L.sz<=cap * L.sz:=by
  have:(m+1) * L.sz<=cap * L.sz:=nP _ M
  rwa[eT,Nat.one_mul]at this
 have bf:=run_storeCells_at C.P b (m * L.sz) e (ev y).cells.toList 0 G w b3 (by rw[O,hcs];omega) (b0.one S)
 have b6:(Instr.storeAt t (ev x) (ev y)).run C.P w=.ok () (w.setRow b (G.toList.take (m * L.sz)++(ev y).cells.toList++G.toList.drop (m * L.sz+(ev y).cells.toList.length)).toArray):=by
  simp only[Instr.storeAt,Instr.sureAddr,hp,storeVar,bE,bO,bD,iS bh];rw[aD (by simp only[lM]at O;rw[O,h2];simp)];simpa using bf
 simp only[execOp];rw[aCL,b6]
 have b5:(w.setRow b (G.toList.take (m * L.sz)++(ev y).cells.toList++G.toList.drop (m * L.sz+(ev y).cells.toList.length)).toArray).ownsRow 0 e (C.toCtx.sz e) (.slice (some ⟨b,0,none⟩) (m+1) cap) (m+1) (xs++(ev y).cells.toList):=by
  rw[U];refine⟨by rw[aI,B.1,O,eT,Nat.one_mul],.inr ⟨b,cap,_,rfl,aX _,uG b3 _,M,b2,?_,?_⟩⟩
  .simp only[List.size_toArray,aI,dV,cS,lM]at *;omega
  .rw[Z];have:(m+1) * L.sz=(xs++(ev y).cells.toList).length:=by rw[aI,B.1,O,eT,Nat.one_mul]
   rw[this];simp only[fF];rw[<-fF];exact List.take_left
 have b9:oQ C s (s.setT k (m+1,e)) k:=⟨rfl,λhd=>⟨bL _,Nat.lt_of_not_le λbb=>by
  have:=(hR.dtm hd k bb).2 m;rw[this]at H;cases H⟩⟩
 obtain⟨r1,r2⟩:=hR.tokStep (t:=k) (b:=b) (λk hk bc=>uQ bc _) b5 rfl (λj x hx=>by have:=b4 j x hx;omega) (s':=s.setT k (m+1,e)) (λq=>rfl) (λq=>cF _ _ _ q) b9
  (.inr ⟨m,_,xs,(ev y).cells.toList,ht,H,rfl,b8.1,rfl⟩)
 refine⟨_,_,r2,r1.setL (λx hx=>?_),hK⟩;cases hx;refine⟨b,cap,_,sQ _ _ _ _ _ _,?_,M,b2,uS _ _ _ _ _ _,?_,S,λj c u hc hu=>?_⟩
 .simp only[Gh.tok];rw[aD aB];exact H
 .simp only[h3,aI,B.1,O,eT,Nat.one_mul];exact bL _
 .dsimp only at hc hu;rw[nO (by rw[B.1,h3];omega),B.1,h3,Nat.add_sub_cancel_left]at hu;exact(b0.2 j c u hc hu).mono r2
theorem aNi{KV Kp:St->A->Prop}{t ty:TypeId}{x y:Operand}{dst:Option Tmp}{pos:String}{after:Array Edge}{gd:Option (Nat × Bool)}
  (S:R C.toCtx F g s w)(Z:∀x a,ρ x=some a->Rz g a (ev x))(h:aY C (.store t x y) ρ KV Kp s) :
  OutV C F g KV Kp ((execOp ev ⟨dst,.store t x y,ty,pos,after,gd⟩).run C.P w):=by
 simp only[aY]at h;split at h
 .rename_i b o v0 ti hx hy H;generalize b0:gA s v0=v at h;split at h
  .rename_i e cs hb;obtain⟨⟨h1,h2,h3⟩,hK⟩:=h;obtain⟨k,vs,rest,M,hh,G,B⟩:=S.cellsOf hb;obtain⟨k',hp,u⟩:=(Z x _ hx).ptr_inv;rw[M]at u;cases u;have hv:Rz g v (ev y):=by rw[<-b0];exact aG0 S (Z y _ hy)
   have L:=hv.cells;have U:(ev y).cells.toList.length=v.cells.length:=L.1;have e2:vs.length=cs.length:=G.1;have q:∀c,c∈v.cells->c.one=true:=by simpa [fE]using h3
   have b1:=run_storeCells_at C.P k o e (ev y).cells.toList 0 (vs++rest).toArray w hh (by simp;simp only[lM]at U;omega) (L.one q)
   have O:(Instr.storeAt t (ev x) (ev y)).run C.P w=.ok () (w.setRow k ((vs++rest).take o++(ev y).cells.toList++(vs++rest).drop (o+(ev y).cells.toList.length)).toArray):=by
    simp only[Instr.storeAt,Instr.sureAddr,hp,storeVar,bE,bO,bD,iS H];rw[aD (by simp only[lM]at U;omega)];simpa using b1
   simp only[execOp];rw[aCL,O];refine⟨g,_,dW g,S.setObj hb M (λk hk=>uQ hk _) ?_,hK⟩;rw[uG hh];refine⟨vs.take o++(ev y).cells.toList++vs.drop (o+(ev y).cells.toList.length),rest,?_,?_,?_⟩
   .rw[List.take_append_of_le_length aB,List.drop_append_of_le_length aB];simp only[fF]
   .rw[xC _ _ _ h2,U];exact((G.take o).append L).append (G.drop _)
   .intro c m;rw[xC _ _ _ h2]at m;simp only[dK]at m;rcases m with(m|m)|m
    .exact B c (nQ m)
    .exact q c m
    .exact B c (pX m)
  .exact h.elim
 .rename_i k n z v ti hx hy H;exact aOI S Z hx hy H h
 .exact h.elim
theorem aKJ{KV Kp:St->A->Prop}{t ty:TypeId}{n:Nat}{y:Array (Nat × Operand)}{dst:Option Tmp}{pos:String}{after:Array Edge}{gd:Option (Nat × Bool)}
  (hR:R C.toCtx F g s w)(he:∀x a,ρ x=some a->Rz g a (ev x))(hd:C.det=false)(h:bV C (.buildSlice t n y) ρ (wI C s t KV)) :
  OutV C F g KV Kp ((execOp ev ⟨dst,.buildSlice t n y,ty,pos,after,gd⟩).run C.P w):=by
 obtain⟨ti,te,e,es,out,a,b3,hk,b2,H,⟨b4,b5⟩,U,O,ha,L⟩:=aIt (dst:=dst) (ty:=ty) (pos:=pos) (after:=after) (gd:=gd) hR he h;rw[U];unfold wI at L;split at L;rotate_left
 .exact L.elim
 rename_i tk u b6 B;obtain rfl:=ha tk u rfl;rw[b3]at B;cases B;rw[hk]at L;simp only at L;obtain⟨N,hN⟩:=hR.fsh;obtain⟨n1,n2,_⟩:=hN N (bL _);have Z:C.toCtx.sz e=te.sz:=rW b2;have b0:=uI (λx G=>(H x G).1);have z:out.toList.length=u.length * te.sz:=by rw[O.1,b0]
 have M:u.length<=maxLen:=by unfold maxLen;omega
 have S:(w.alloc (.cells out e)).ownsRow 0 e (C.toCtx.sz e) (.slice (some ⟨w.heap.size,0,none⟩) u.length u.length) u.length out.toList:=by
  rw[Z];refine⟨z,.inr ⟨w.heap.size,u.length,out,rfl,aX _,sO w _,bL _,M,gQ z,?_⟩⟩;rw[jA (by rw[z];exact bL _)]
 obtain⟨h1,h2⟩:=hR.tokStep (t:=N) (n:=u.length) (b:=w.heap.size) (w':=w.alloc (.cells out e)) (λk hk _=>rD w _ hk) S rfl (λm x G=>by rw[n2]at G;cases G)
  (s':=s.setT N (u.length,e)) (λq=>rfl) (λq=>cF _ _ _ q) ⟨rfl,λh=>by rw[hd]at h;cases h⟩ (.inl ⟨rfl,.inl n1⟩)
 refine⟨_,_,_,h2,h1,?_,L N n1⟩;refine sS (off:=0) (vs:=out.toList) (pre:=out.toList) (sz:=te.sz) (uS _ _ _ _ _ _) aW ?_ (λx G=>(H x G).1) (λx G=>(H x G).2) (bL _) M (aX _) (λt' b1=>by cases b1;exact sQ _ _ _ _ _ _);rw[jA (by rw[z];exact bL _)];exact O.mono h2
theorem aCk{n:Nat}{e:TypeId}{sz:Nat}{ys:List A}{KV:St->A->Prop}(h:lH C s n e sz ys KV):newT C s n e ys KV\/(C.det=false/\Nat.beq C.mu 1=true/\0<n/\aBb s n e sz (cY ys) KV):=by
 unfold lH at h;split at h
 .exact .inl h
 .rename_i m;split at h
  .exact .inl h
  .rename_i q;exact .inr ⟨m,q,h.1,h.2⟩
theorem aMo{KV Kp:St->A->Prop}{ty:TypeId}{x y:Operand}{t u:TypeId}{dst:Option Tmp}{pos:String}{after:Array Edge}{gd:Option (Nat × Bool)}
  (hR:R C.toCtx F g s w)(he:∀x a,ρ x=some a->Rz g a (ev x))(h:aY C (.call ⟨.builtin .append,#[x,y],#[t,u]⟩) ρ KV Kp s) :
  OutV C F g KV Kp ((execOp ev ⟨dst,.call ⟨.builtin .append,#[x,y],#[t,u]⟩,ty,pos,after,gd⟩).run C.P w):=by
 simp only[aY]at h;split at h;rotate_left
 .rename_i a bs ti hx hy bd;split at h
  .rename_i e hE;exact aNT hR he hx hy bd hE h
  .exact h.elim
 .rename_i a n ti hx hy bd;exact aOj hR he hx hy bd h
 .rename_i a ti hx hy bd;exact aHn hR he hx (he y _ hy).nils_inv bd h
 .rename_i a ti hx hy bd;obtain⟨ad,hv⟩:=(he y _ hy).emp_inv;exact aHn hR he hx hv bd h
 .rename_i a z0 ti hx hy bd;exact aN5 hR he hx hy bd h
 .exact h.elim
 rename_i a g7 ys ti hx hy bd;split at h;rotate_left
 .exact h.elim
 rename_i e hk;split at h;rotate_left
 .exact h.elim
 rename_i S bc;obtain⟨⟨rfl,g4,c2⟩,bt,h⟩:=h;unfold oM at h;obtain⟨d,hd,ck⟩:=fG bd;rw[hk]at ck;simp only[TK.ok]at ck;subst ck;obtain⟨i,z,hi,b3,c4,bv,c7⟩:=(C.htt e S bc).info
 have H:(execOp ev ⟨dst,.call ⟨.builtin .append,#[x,y],#[u,u]⟩,ty,pos,after,gd⟩).run C.P w =
   ((Builtin.append_ #[u,u] ty #[ev x,ev y]).run C.P w).andThen λv w'=>.ok (.value v) w':=by
  simp only[execOp,resolve,invoke,builtin,bE,bO,bD,hZ,bN,cP]
 have cf:C.toCtx.sz e=S.sz:=rW bc;have cm:∀c,c∈S.zero->c.one=true:=(C.htt e S bc).one
 obtain⟨ad,Z,b8,_,ft,_,fj⟩:=(he y _ hy).list_inv;have fh:=(he y _ hy).to_flat;by_cases c1:ys=[]
 .subst c1;simp only[aU]at b8;split at h
  .obtain⟨_,h⟩:=h
   have h:newT C s 0 e [] KV:=by
    rcases aCk h with h|⟨_,_,h,_⟩
    .exact h
    .exact cV h aW
   have b5:=(he x _ hx).nils_inv;have B:=zM C.P w u u ty e i hd hd hi none ad 0 0 Z (bL _);rw[H,b5,b8,B];obtain⟨N,s',m1,m2,m3,m4,m5,m6⟩:=aAj hR h;obtain⟨g',h2,h3,h4⟩:=hR.tokNil e m1 m3 m4 m5;exact⟨g',_,_,h2,h4,.list0 (some N) none 0 (aX _) (λt' cl=>by cases cl;exact h3),m6⟩
  .obtain⟨ax,b5⟩:=(he x _ hx).emp_inv;have B:=zM C.P w u u ty e i hd hd hi (some ax) ad 0 0 Z (bL _);rw[H,b5,b8,B];exact⟨g,.emp,s,dW g,hR,.emp ax,h⟩
  .unfold qP at h;split at h
   .obtain⟨⟨_,_,_,_,_,h⟩,_⟩:=h;exact cV h aW
   .exact h.elim
  .rename_i t es;obtain⟨h1,h2,h3,hK⟩:=h;obtain⟨ax,cap,b5,_,hc,_⟩:=(he x _ hx).list_inv;have B:=zM C.P w u u ty e i hd hd hi ax ad es.length cap Z hc;rw[H,b5,b8,B];have f5:=he x _ hx;rw[b5]at f5;refine⟨g,.list (some t) es,_,dW g,hR.weaken (s':=s.setT t (es.length,e)) ⟨λb o ho=>ho,λk n hn=>?_,λ_ h=>h⟩ (λ_=>bL _),f5,gQ hK⟩;rw[cF]at hn;by_cases c6:t=k
   .subst c6;simp only[↓reduceIte]at hn;rw[h1];exact hn
   .simpa only[c6,↓reduceIte]using hn
  .exact h.elim
 .obtain⟨b2,O,fm,bk,rfl,f1,fx,fd,bw,g3⟩:=fj.resolve_left c1;have bj:0<ys.length:=by cases ys with|nil=>exact cV rfl c1|cons=>simp
  have f4:fm=S.sz:=by
   have hm:=iF bj;rw[<-fd _ hm,bt _ hm]
  subst f4;obtain⟨fl,e2,fq,f9⟩:=hR.pis b2 bk f1;have hnl:((bk.drop O).take (ys.length * S.sz)).length=ys.length * S.sz:=by rw[dV,cS];omega
  have b0:∀j v,((bk.drop O).take (ys.length * S.sz))[j]?=some v->w.cell? ((⟨b2,O,none⟩:Addr).add j)=some v:=by
   intro j v hj;rw[kC]at hj;split at hj
   .rw[jL]at hj;rw[iH];simp only[World.cell?,f9,Option.isSome_none,cQ,↓reduceIte,jK];rw[gO (dG.1 hj).1];exact hj
   .simp at hj
  have L:Rzs g (cY ys) ((bk.drop O).take (ys.length * S.sz)):=by
   obtain⟨a',cp,e1,_,_,e2⟩:=fh;rw[b8]at e1;rcases e2 with e2|⟨b',f7,cn,f8,e3,e4,e5,e6,e7,e8⟩
   .exact cV e2 c1
   .subst e3;simp only[nR,bI,qB,nW,gT]at e1;obtain⟨⟨rfl,rfl⟩,rfl⟩:=e1;rw[f1]at e4;cases e4;have:cn=S.sz:=by rw[<-e6 _ (iF bj),bt _ (iF bj)]
    rw[this]at e8;exact e8
  generalize g1:(bk.drop O).take (ys.length * S.sz)=news at *
  have bb:∀c,c∈cY ys->c.one=true:=by
   intro c hc;simp only[cY,List.mem_flatMap]at hc;obtain⟨q,hq,hc⟩:=hc;exact bw q hq c hc
  have cw:∀v,v∈news->v.oneCell'=true:=L.one bb
  have fk:z.cells.size=S.sz:=by
   have h1:=(c7 g).1;rw[(C.htt e S bc).len]at h1;simpa using h1
  have bf:∀(n cap:Nat),n<=cap->(Builtin.zeroCells z.cells (cap-n)).toList.length+n * S.sz=cap * S.sz:=by
   intro n cap h;simp only[lM,zN,fk,<-eT];congr 1;omega
  split at h
  ·
   obtain⟨bq,h⟩:=h;have b5:=(he x _ hx).nils_inv
   have B:=run_append_nil (P:=C.P) w u ty e i z hd hi bv ⟨b2,O,none⟩ ys.length Z news (by rw[hnl,b3]) b0 bj aB
    (by have:ys.length * i.bytes<=4294967296 * 32768:=Nat.mul_le_mul bq (by rw[c4];exact c2);omega)
   have G:=nS w ys.length 0 e aB;rw[H,b5,b8,B,aDk];rcases aCk h with h|⟨bg,_,_,h⟩
   rotate_left
   .obtain⟨J,j1,j2,j3⟩:=aDx c7 cm (grownCap w ys.length 0 e-ys.length);exact aB7 hR bg L (j3 g) bb j2 G.1 G.2 (λb hb=>h b _ J hb G.1 (by rw[j1,(C.htt e S bc).len]) j2)
   obtain⟨N,s',n2,n1,m3,m4,m5,m6⟩:=aAj hR h
   have:=sR (KV:=KV) (Kp:=Kp) hR (t:=N) bc (rest:=(Builtin.zeroCells z.cells (grownCap w ys.length 0 e-ys.length)).toList) bt bw L G.1 G.2
    (by rw[aI,hnl];have:=bf _ _ G.1;omega) m3 m4 m5 (.inl n1) (λm x hx=>by rw[n2]at hx;cases hx) m6
   exact this
  ·
   have h:(ys.length<=4294967296/\0<ys.length)/\lH C s ys.length e S.sz ys KV:=by
    cases ys with
    | nil=>exact cV rfl c1
    | cons y r=>exact h
   obtain⟨⟨bq,_⟩,h⟩:=h;obtain⟨ae,b5⟩:=(he x _ hx).emp_inv
   have B:=run_append_grow (P:=C.P) w u ty e i z hd hi bv ae 0 0 [] aW (λj u hj=>by simp at hj) ⟨b2,O,none⟩ ys.length Z news (by rw[hnl,b3]) b0 aB aB (growslice_fits aB (by
    have:(0+ys.length) * i.bytes<=4294967296 * 32768:=Nat.mul_le_mul aB (by rw[c4];exact c2);omega))
   have G:=nS w ys.length 0 e aB;rw[H,b5,b8,B];simp only[fX,bP];rw[show((#[]:Array Value)++news.toArray++Builtin.zeroCells z.cells (grownCap w ys.length 0 e-ys.length))=(news++(Builtin.zeroCells z.cells (grownCap w ys.length 0 e-ys.length)).toList).toArray by apply Array.ext';simp];rcases aCk h with h|⟨bg,_,_,h⟩
   rotate_left
   .obtain⟨J,j1,j2,j3⟩:=aDx c7 cm (grownCap w ys.length 0 e-ys.length);exact aB7 hR bg L (j3 g) bb j2 G.1 G.2 (λb hb=>h b _ J hb G.1 (by rw[j1,(C.htt e S bc).len]) j2)
   obtain⟨N,s',n2,n1,m3,m4,m5,m6⟩:=aAj hR h
   have:=sR (KV:=KV) (Kp:=Kp) hR (t:=N) bc (rest:=(Builtin.zeroCells z.cells (grownCap w ys.length 0 e-ys.length)).toList) bt bw L G.1 G.2
    (by rw[aI,hnl];have:=bf _ _ G.1;omega) m3 m4 m5 (.inl n1) (λm x hx=>by rw[n2]at hx;cases hx) m6
   exact this
  ·
   rename_i mb mn b6;unfold qP at h;split at h;rotate_left
   .exact h.elim
   rename_i e' cs cq;obtain⟨⟨bg,rfl,cr,cz,bq,_⟩,h⟩:=h;obtain⟨k,b5,ch,_,c3⟩:=(he x _ hx).mg_inv;obtain⟨k',vs,rest,c9,hh,c5,br⟩:=hR.cellsOf cq;rw[ch]at c9;cases c9;have g5:vs.length=b6 * S.sz:=by rw[c5.1,cr]
   have g2:mn * S.sz<=b6 * S.sz:=nP _ cz
   have b1:(mn+ys.length) * i.bytes<=140737488355328:=by
    have:(mn+ys.length) * i.bytes<=4294967296 * 32768:=Nat.mul_le_mul bq (by rw[c4];exact c2);omega
   by_cases M:mn+ys.length<=b6
   .have fw:mn * S.sz+ys.length * S.sz<=b6 * S.sz:=by rw[<-eT];exact nP _ M
    have bp:mn * i.size+news.length<=(vs++rest).toArray.size:=by
     rw[hnl,b3];simp only[List.size_toArray,aI];omega
    have B:=run_append_room (P:=C.P) w u ty e' i hd hi k mn b6 (vs++rest).toArray hh ⟨b2,O,none⟩ ys.length Z news (by rw[hnl,b3]) b0 cw M bp;rw[H,b5,b8,B];have hK:=h mb b6 (cs.drop (mn * S.sz+ys.length * S.sz)) (.inl ⟨rfl,rfl⟩) M (by rw[cS,cr,<-eT,<-Nat.sub_mul]) (λc hc=>br c (pX hc));refine⟨g,_,_,dW g,hR.setObj cq ch (λj hj=>uQ hj _) ?_,.mg mb _ _ k ch M c3,hK⟩;rw[uG hh];refine⟨vs.take (mn * S.sz)++(news++vs.drop (mn * S.sz+ys.length * S.sz)),rest,?_,(c5.take _).append (L.append (c5.drop _)),λc hc=>?_⟩
    .rw[hnl,b3,List.toList_toArray,List.take_append_of_le_length aB,List.drop_append_of_le_length aB];simp only[fF]
    .rcases dK.1 hc with hc|hc
     .exact br c (nQ hc)
     .rcases dK.1 hc with hc|hc
      .exact bb c hc
      .exact br c (pX hc)
   .have bl:∀j u,(vs.take (mn * S.sz))[j]?=some u->w.cell? ((⟨k,0,none⟩:Addr).add j)=some u:=by
     intro j u hj;rw[iH];simp only[World.cell?,hh,Option.isSome_none,cQ,↓reduceIte,fX];rw[kC]at hj;split at hj
     .simp only[jK];rw[gO (dG.1 hj).1];exact hj
     .simp at hj
    have B:=run_append_grow (P:=C.P) w u ty e' i z hd hi bv ⟨k,0,none⟩ mn b6 (vs.take (mn * S.sz)) (by rw[dV,b3];omega) bl ⟨b2,O,none⟩ ys.length Z news (by rw[hnl,b3]) b0 aB aB (growslice_fits aB b1);have G:=nS w (mn+ys.length) b6 e' aB;rw[H,b5,b8,B,aAG];obtain⟨J,j1,j2,j3⟩:=aDx c7 cm (grownCap w (mn+ys.length) b6 e'-(mn+ys.length));refine aB7 hR bg ((c5.take _).append L) (j3 g) (λc hc=>?_) j2 G.1 G.2 (λb hb=>?_)
    .rcases dK.1 hc with hc|hc
     .exact br c (nQ hc)
     .exact bb c hc
    .have:=h b _ J (.inr hb) G.1 (by rw[j1,(C.htt e' S bc).len]) j2;rw[fF];exact this
  ·
   rename_i t es;obtain⟨h1,h2,h3,hK⟩:=h;obtain⟨ax,fp,b5,fz,fv,c6,fg⟩:=(he x _ hx).list_inv;obtain⟨v,xs,e1,U,ct,cb⟩:=hR.tok t es.length e h1;have ff:v=ev x:=by have:=c6 t rfl;rw[e1]at this;exact uF this
   subst ff;rw[cf]at U
   have bg:oQ C s (s.setT t (es.length+ys.length,e)) t:=⟨rfl,λhd=>⟨bL _,Nat.lt_of_not_le λfb=>by
    have:=(hR.dtm hd t fb).2 es.length;rw[this]at e1;cases e1⟩⟩
   have bm:∀m x,g.eta t m=some x->m<(es++ys).length:=λm x hx=>by have:=ct m x hx;simp;omega
   have bz:∀y,y∈es++ys->∀c,c∈y.cells->c.one=true:=by
    intro q hq c hc;rcases dK.1 hq with hq|hq
    .rcases fg with rfl|⟨b,off,sz,pre,_,_,_,_,ho,_⟩
     .cases hq
     .exact ho q hq c hc
    .exact bw q hq c hc
   have cd:∀y,y∈es++ys->y.cells.length=S.sz:=by
    intro q hq;rcases dK.1 hq with hq|hq
    .exact h2 q hq
    .exact bt q hq
   have b4:(es++ys).length=es.length+ys.length:=by simp
   have b1:(es.length+ys.length) * i.bytes<=140737488355328:=by
    have:(es.length+ys.length) * i.bytes<=4294967296 * 32768:=Nat.mul_le_mul h3 (by rw[c4];exact c2);omega
   have f6:Rzs g (cY es) xs:=by
    obtain⟨a',cp,q1,_,_,q2⟩:=(he x _ hx).to_flat;rcases q2 with rfl|⟨b',f7,cn,f8,q3,q4,q5,q6,q7,q8⟩
    .have:xs=[]:=fC (gQ U.1);rw[this];exact .nil g
    .by_cases b9:es=[]
     .subst b9;have:xs=[]:=fC (gQ U.1);rw[this];exact .nil g
     .have f0:0<es.length:=by cases es with|nil=>exact cV rfl b9|cons=>simp
      have f3:cn=S.sz:=by rw[<-q6 _ (iF f0),h2 _ (iF f0)]
      subst q3;rcases U.2 with⟨hn,h0⟩|⟨g0,b7,bh,bn,_⟩
      .omega
      .have cg:=cb g0 (by rw[bn];rfl);rw[bn]at q1;simp only[nR,bI,qB,nW,gT]at q1;obtain⟨⟨rfl,rfl⟩,rfl⟩:=q1;rw[cg.1]at q4;cases q4;rw[f3,rC,jA (by rw[U.1];exact bL _)]at q8;exact q8
   have c8:Rzs g (cY (es++ys)) (xs++news):=by rw[aEJ];exact f6.append L
   rcases U.2 with⟨hn,h0⟩|⟨g0,b7,bh,bn,_,cj,cz,c3,hcs,c0⟩
   ·
    have b9:es=[]:=fC h0
    have B:=run_append_nil (P:=C.P) w u ty e i z hd hi bv ⟨b2,O,none⟩ ys.length Z news (by rw[hnl,b3]) b0 bj aB
     (by rw[b9]at b1;simp only[aU,fX]at b1;omega)
    have G:=nS w ys.length 0 e aB;rw[H,hn,b8,B,aDk]
    have:=sR (KV:=KV) (Kp:=Kp) hR (t:=t) bc (rest:=(Builtin.zeroCells z.cells (grownCap w ys.length 0 e-ys.length)).toList) bt bw L G.1 G.2
     (by rw[aI,hnl];have:=bf _ _ G.1;omega) (s':=s.setT t (es.length+ys.length,e)) (λq=>rfl) (λq=>by rw[cF];simp[b9]) bg (.inr ⟨_,h1⟩) (by simpa [b9]using bm) (by simpa [b9]using hK)
    exact this
   .by_cases M:es.length+ys.length<=b7
    .have bp:es.length * i.size+news.length<=bh.size:=by
      rw[hnl,b3,hcs,<-eT];exact nP _ M
     have B:=run_append_room (P:=C.P) w u ty e i hd hi g0 es.length b7 bh cj ⟨b2,O,none⟩ ys.length Z news (by rw[hnl,b3]) b0 cw M bp;rw[H,bn,b8,B]
     have f2:(w.setRow g0 (bh.toList.take (es.length * i.size)++news++bh.toList.drop (es.length * i.size+news.length)).toArray).ownsRow 0 e (C.toCtx.sz e) (.slice (some ⟨g0,0,none⟩) (es.length+ys.length) b7) (es.length+ys.length) (xs++news):=by
      rw[cf,b3];refine⟨by rw[aI,U.1,hnl,eT],.inr ⟨g0,b7,_,rfl,aX _,uG cj _,M,c3,?_,?_⟩⟩
      .rw[b3]at bp;simp only[List.size_toArray,aI,dV,cS,lM];omega
      .rw[c0];have:(es.length+ys.length) * S.sz=(xs++news).length:=by rw[aI,U.1,hnl,eT]
       rw[this];simp only[fF];rw[<-fF];exact List.take_left
     have cg:=cb g0 (by rw[bn];rfl);obtain⟨r1,r2⟩:=hR.tokStep (t:=t) (b:=g0) (λk hk fc=>uQ fc _) f2 rfl (gQ bm) (s':=s.setT t (es.length+ys.length,e)) (λq=>rfl) (λq=>cF _ _ _ q) bg (.inr ⟨es.length,ev x,xs,news,h1,e1,by rw[bn];rfl,cg.1,rfl⟩);refine⟨_,.list (some t) (es++ys),_,r2,r1,?_,hK⟩;rw[<-b4];refine sS (off:=0) (sz:=S.sz) (vs:=xs++news) (pre:=xs++news) (by rw[b4];exact uS _ _ _ _ _ _) aW ?_ cd bz (by rw[b4];exact M) c3 (aX _) (λt' cl=>by cases cl;rw[b4];exact sQ _ _ _ _ _ _);rw[jA (by rw[aI,U.1,hnl,b4,eT];exact bL _)];rw[b4]at *;exact c8.mono r2
    .have bl:∀j u,xs[j]?=some u->w.cell? ((⟨g0,0,none⟩:Addr).add j)=some u:=by
      intro j u hj;rw[iH];simp only[World.cell?,cj,Option.isSome_none,cQ,↓reduceIte,fX];rw[<-c0,kC]at hj;split at hj
      .simpa using hj
      .simp at hj
     have B:=run_append_grow (P:=C.P) w u ty e i z hd hi bv ⟨g0,0,none⟩ es.length b7 xs (by rw[U.1,b3]) bl ⟨b2,O,none⟩ ys.length Z news (by rw[hnl,b3]) b0 aB aB (growslice_fits aB b1);have G:=nS w (es.length+ys.length) b7 e aB;rw[H,bn,b8,B,aAG]
     have:=sR (KV:=KV) (Kp:=Kp) hR (t:=t) bc (es:=es++ys) (rest:=(Builtin.zeroCells z.cells (grownCap w (es.length+ys.length) b7 e-(es.length+ys.length))).toList) cd bz c8 (by rw[b4];exact G.1) G.2
      (by rw[aI,aI,hnl,U.1];have:=bf _ _ G.1;rw[eT]at this;omega) (s':=s.setT t (es.length+ys.length,e)) (λq=>rfl) (λq=>by rw[cF,b4]) bg (.inr ⟨_,h1⟩) bm hK
     rw[b4]at this;exact this
  .exact h.elim
end
end
end Go.AV
section
open Go.Proofs.Tryz
namespace Go.AV
open Go Go.MapKept
section
variable {C:Cx} {F:Fr} {g:Gh} {s:St} {w:World} {ρ:Operand->Option A} {ev:Operand->Value}
theorem aMT{t:TypeId}{q:TI}(h:C.tt t=some q)(w:World)(g:Gh):∃z,(zeroValue t).run C.P w=.ok z w/\Rz g (zA q) z:=by
 obtain⟨i,z,y,O,M,hz,m⟩:=(C.htt t q h).info;refine⟨z,by simp[zeroValue,typeInfo,y,hz],?_⟩;obtain⟨B,G⟩:=(C.htt t q h).shp i z y hz;have m:=m g;unfold zA;split
 .rename_i u;obtain⟨xs,rfl⟩:=B u;simp only[Value.cells]at m;have:=Rz.agg (g:=g) q.zero xs.toList m.1 (C.htt t q h).one m.2;simpa using this
 .rename_i u;have L:=G u;have H:z.cells.toList=[z]:=by cases z<;>first|rfl|exact cV rfl (L _)
  rw[H]at m
  match hz':q.zero,m with
  | [],m=>simp[Rzs]at m
  | [a],m=>exact m.2 0 a z rfl rfl
  | _::_::_,m=>simp[Rzs]at m
theorem R.mapOf(y:R C.toCtx F g s w){b kd:Nat}{es:List (MK × A)}(z:s.getO b=some (.map kd es)) :
  ∃k h c,g.beta b=some k/\w.heap[k]?=some (.map h c)/\MRz g kd es h.toList:=by
 obtain⟨k,m,⟨h,c,q,u⟩,_⟩:=y.obj b _ z;exact⟨k,h,c,m,q,u⟩
theorem aLM{KV Kp:St->A->Prop}{t ty:TypeId}{r:Option Operand}{dst:Option Tmp}{pos:String}{after:Array Edge}{gd:Option (Nat × Bool)}
  (m:R C.toCtx F g s w)(h:aY C (.makeMap t r) ρ KV Kp s) :
  OutV C F g KV Kp ((execOp ev ⟨dst,.makeMap t r,ty,pos,after,gd⟩).run C.P w):=by
 cases r with
 | some r=>simp only[aY,bV]at h
 | none =>
  simp only[aY,aBe]at h;split at h
  .split at h
   .simp only[execOp];exact aAS (ob:=.map _ []) (o:=.map #[] 0) (v:=.map (some w.heap.size)) m ⟨#[],0,rfl,trivial⟩ (λu b q=>.mp b _ q) (by simp[Instr.makeMap]) h
   .exact h.elim
  .exact h.elim
theorem aMI{KV Kp:St->A->Prop}{t ty:TypeId}{x k:Operand}{ok:Bool}{dst:Option Tmp}{pos:String}{after:Array Edge}{gd:Option (Nat × Bool)}
  (M:R C.toCtx F g s w)(he:∀x a,ρ x=some a->Rz g a (ev x))(h:aY C (.lookup t x k ok) ρ KV Kp s) :
  OutV C F g KV Kp ((execOp ev ⟨dst,.lookup t x k ok,ty,pos,after,gd⟩).run C.P w):=by
 simp only[aY]at h;split at h
 .rename_i b a hx S;unfold tZ at h;split at h
  .rename_i v' b1;obtain⟨ti,e,b2,es,mk,te,b0,hk,hb,U,Z,rfl⟩:=aKr b1;obtain⟨d,hd,H⟩:=fG b0;rw[hk]at H;obtain⟨kt,rfl,hT⟩:=H;obtain⟨k0,m,O⟩:=(he x _ hx).mp_inv;obtain⟨k1,ms,c,h1,h2,h3⟩:=M.mapOf hb;rw[O]at h1;cases h1;obtain⟨G,B⟩:=aHl U (he k _ S);have hf:=aGE (P:=C.P) hT B w h3;have y:=λe=>hT.chk mk B e w
   obtain⟨z,hz,L⟩:=aMT Z w g;simp only[execOp];rw[sU];rcases aHs (k:=mk) 0 h3 with⟨l1,l2⟩|⟨v',j,v,l1,l2,l3⟩
   .have u:(Instr.lookup t (ev x) (ev k) ok).run C.P w=.ok (if ok then .tuple #[z,.bool false] else z) w:=by
     simp only[Instr.lookup,bE,cL hd,bD,m,G,Go.MapKept.run_getObj_map h2,bO,y,hf,l2,hz]
    rw[u];refine⟨g,_,s,dW g,M,?_,h⟩;rw[l1];cases ok
    .exact L
    .exact .tuple _ [_,_] rfl λj c v q m=>by
      match j with
      | 0=>simp at q m;subst q;subst m;exact L
      | 1=>simp at q m;subst q;subst m;exact .bool _
      | _+2=>simp at q
   .have u:(Instr.lookup t (ev x) (ev k) ok).run C.P w=.ok (if ok then .tuple #[v,.bool true] else v) w:=by
     simp only[Instr.lookup,bE,cL hd,bD,m,G,Go.MapKept.run_getObj_map h2,bO,y,hf,l2]
    rw[u];refine⟨g,_,s,dW g,M,?_,h⟩;rw[l1];cases ok
    .exact l3
    .exact .tuple _ [_,_] rfl λj c v q m=>by
      match j with
      | 0=>simp at q m;subst q;subst m;exact l3
      | 1=>simp at q m;subst q;subst m;exact .bool _
      | _+2=>simp at q
  .exact h.elim
 .exact h.elim
theorem aJw{KV Kp:St->A->Prop}{t ty:TypeId}{x k y:Operand}{dst:Option Tmp}{pos:String}{after:Array Edge}{gd:Option (Nat × Bool)}
  (hR:R C.toCtx F g s w)(he:∀x a,ρ x=some a->Rz g a (ev x))(h:aY C (.mapUpdate t x k y) ρ KV Kp s) :
  OutV C F g KV Kp ((execOp ev ⟨dst,.mapUpdate t x k y,ty,pos,after,gd⟩).run C.P w):=by
 simp only[aY]at h;split at h
 .rename_i b a v hx b0 hy;unfold wJ at h;split at h
  .rename_i ti b6;split at h
   .rename_i e kd O es hk hb;split at h
    .rename_i mk b4;obtain⟨rfl,h⟩:=h;obtain⟨d,hd,L⟩:=fG b6;rw[hk]at L;obtain⟨kt,rfl,hT⟩:=L;obtain⟨k0,hv,B⟩:=(he x _ hx).mp_inv;obtain⟨k1,U,c,h1,z,h3⟩:=hR.mapOf hb;rw[B]at h1;cases h1;obtain⟨H,u⟩:=aHl b4 (he k _ b0);have hf:=aGE (P:=C.P) hT u w h3;have G:=λe=>hT.chk mk u e w
     have b5:=he y _ hy;have b2:k0<w.heap.size:=(fQ.1 z).1
     have fin:∀q Z,MRz g O (iD mk v es) q.toList->(Instr.mapUpdate t (ev x) (ev k) (ev y)).run C.P w=.ok () { w with heap:=w.heap.setIfInBounds k0 (.map q Z) } ->
       OutV C F g KV Kp ((execOp ev ⟨dst,.mapUpdate t x k y,ty,pos,after,gd⟩).run C.P w):=by
      intro q Z hm M;simp only[execOp];rw[aCL,M];exact⟨g,_,dW g,hR.setObj hb B (ob:=.map O (iD mk v es)) (λj hj=>by simp[wT (Ne.symm hj)]) ⟨q,Z,by simp[b2],hm⟩,h⟩
     rcases aHD u b5 0 h3 with⟨S,l2⟩|⟨n,v0,m,S,l2,l3,l4⟩
     .refine fin (U.push { key:=mk.val,val:=ev y,born:=c }) (c+1) (by simpa using l2 c) ?_;simp only[Instr.mapUpdate,bE,cL hd,bD,hv,H,Go.MapKept.run_getObj_map z,G,hf,S,Go.MapKept.run_setObj_map _ z]
     .rw[fX]at S;have b3:U[n]?=some m:=by rw[<-wV];exact l2
      have b1:(((U[n]?).map (·.key)).getD mk.val)=mk.val:=by simp[b3,l3]
      refine fin (U.modify n λe=>{ e with key:=mk.val,val:=ev y }) c (by rw[Array.toList_modify];exact l4) ?_;simp only[Instr.mapUpdate,bE,cL hd,bD,hv,H,Go.MapKept.run_getObj_map z,G,hf,S,b1,aL9,Go.MapKept.run_setObj_map _ z]
    .exact h.elim
   .exact h.elim
  .exact h.elim
 .exact h.elim
end
end Go.AV
end
namespace Go.AV
open Go Go.Proofs Tryz
section
section
variable {C:Cx} {F:Fr} {g:Gh} {s:St} {w:World} {ρ:Operand->Option A} {ev:Operand->Value}
theorem aEk{t:TypeId}{v:Value}(P:Program)(w:World):(Instr.panic (.iface t v)).run P w=.halt (.panic (.iface t v)) w:=rfl
theorem aHc{KV Kp:St->A->Prop}{op:Op}{ty:TypeId}{dst:Option Tmp}{pos:String}{after:Array Edge}{gd:Option (Nat × Bool)}
  (q:R C.toCtx F g s w)(z:∀x a,ρ x=some a->Rz g a (ev x))(h:aY C op ρ KV Kp s) :
  OutV C F g KV Kp ((execOp ev ⟨dst,op,ty,pos,after,gd⟩).run C.P w):=by
 cases op
 case load=>exact aOm q z h
 case store=>exact aNi q z h
 case alloc=>exact aM0 q h
 case box=>exact aOs q z h
 case makeMap=>exact aLM q h
 case lookup=>exact aMI q z h
 case mapUpdate=>exact aJw q z h
 case buildSlice t len Z =>
  simp only[aY]at h;split at h
  .exact lY (pG q z h)
  .rename_i ho;rcases h with h|h
   .exact lY (pG q z h)
   .refine aKJ q z ?_ h;unfold yZ at ho;split at ho
    .cases ho
    ·assumption
 case range=>exact aNh q z h
 case makeSlice=>exact aJJ q z h
 case convert=>exact aLh q z h
 case next=>exact aN6 q z h
 case panic x =>
  simp only[aY]at h;split at h
  .rename_i t a M;obtain⟨v,G,S⟩:=(z x _ M).iface_inv;simp only[execOp,G,bE,aEk,Result.andThen_halt];exact⟨g,_,s,dW g,q,.iface t a v S,h⟩
  .exact h.elim
 case call c =>
  obtain⟨O,args,B⟩:=c;cases O with
  | value f =>
   simp only[aY]at h;split at h
   .rename_i b1 first b0 az hf has
    obtain⟨us,vs,G,r1,r2⟩:=(z f _ hf).fn_inv;have r3:=aAz z has;have hd:=h F g w _ q ((r1.append r3).append r2);have e1:args.map ev=(args.toList.map ev).toArray:=by rw[<-hZ,Array.toArray_toList]
    simp only[execOp,resolve,G,Deferred.ofValue,bE,bO,bD,invoke,e1];simpa using hd
   .exact h.elim
  | invoke r m=>exact lY (pG q z h)
  | builtin b =>
   by_cases L:b=.append
   .subst L;obtain⟨H⟩:=args;obtain⟨tl⟩:=B
    match H,tl,h with
    | [x,y],[t,u],h=>exact aMo q z h
    | [],_,h=>simp only[aY]at h
    | [_],_,h=>simp only[aY]at h
    | _::_::_::_,_,h=>simp only[aY]at h
    | [_,_],[],h=>simp only[aY]at h
    | [_,_],[_],h=>simp only[aY]at h
    | [_,_],_::_::_::_,h=>simp only[aY]at h
   .by_cases hu:b=.unsafeString
    .subst hu;obtain⟨H⟩:=args;obtain⟨tl⟩:=B
     match H,tl,h with
     | [x,y],[t,u],h=>exact aNW q z h
     | [],_,h=>simp only[aY]at h
     | [_],_,h=>simp only[aY]at h
     | _::_::_::_,_,h=>simp only[aY]at h
     | [_,_],[],h=>simp only[aY]at h
     | [_,_],[_],h=>simp only[aY]at h
     | [_,_],_::_::_::_,h=>simp only[aY]at h
    by_cases hp:b=.panic
    .subst hp;simp only[aY]at h;split at h
     .rename_i x M;split at h
      .rename_i t a U;obtain⟨v,G,S⟩:=(z x _ U).iface_inv;obtain⟨H⟩:=args;simp only at M;subst M;simp only[execOp,resolve,invoke,builtin,bE,bO,bD,hZ,bN,cP,G,aBU,jK,iZ,Option.getD_some,aEk,Result.andThen_halt];exact⟨g,_,s,dW g,q,.iface t a v S,h⟩
      .exact h.elim
     .exact h.elim
    .have h':bV C (.call ⟨.builtin b,args,B⟩) ρ (KV s):=by
      cases b<;>first|exact cV rfl L|exact cV rfl hp|exact cV rfl hu|exact h
     exact lY (pG q z h')
 case binOp op t x y yt =>
  cases op
  case eql =>
   simp only[aY]at h;split at h
   .rename_i tk ha L;rcases h with h|⟨hn,ht,hf⟩
    .exact lY (pG q z h)
    .refine lY (s:=s) ?_;have ra:=z x _ ha;have rb:=z y _ L;simp only[execOp];obtain⟨ad,cap,G,_⟩:=ra.list_inv;rw[G,rb.nils_inv];obtain⟨r,h1,h2⟩:=C.hnl t hn ad _ cap w .eql x y (.inl rfl);rw[aE rfl]at h2;have hK:KV s (.bool r):=by cases r<;>assumption
     refine dL (v:=.bool r) q ?_ (.bool _) hK;rw[bE,h1,bD,h2]
   .exact lY (pG q z h)
  all_goals exact lY (pG q z h)
 all_goals exact lY (pG q z h)
end
structure EnvOk (g:Gh) (n:Nat) (e:Env) (tmps:Array Value):Prop where
 size:tmps.size=n
 val:∀t a,e.get t=some a->∃v,tmps[t]?=some v/\Rz g a v
theorem EnvOk.mono{g q:Gh}(B:g.le q){n:Nat}{e:Env}{m:Array Value}(h:EnvOk g n e m):EnvOk q n e m :=
 ⟨h.size,λt a z=>let⟨v,u,y⟩:=h.val t a z;⟨v,u,y.mono B⟩⟩
theorem EnvOk.nil{g:Gh}{n:Nat}{m:Array Value}(h:m.size=n):EnvOk g n [] m:=⟨h,λt a q=>by cases q⟩
theorem EnvOk.sub{g:Gh}{n:Nat}{e e':Env}{m:Array Value}(h:EnvOk g n e m)(u:∀t a,e'.get t=some a->e.get t=some a):EnvOk g n e' m :=
 ⟨h.size,λt a q=>h.val t a (u t a q)⟩
theorem EnvOk.put{g:Gh}{n:Nat}{e:Env}{a:Act}{d:Nat}{x:A}{v:Value}(h:EnvOk g n e a.tmps)(G:d<n)(H:Rz g x v) :
  EnvOk g n (e.put d x) (a.put (some d) v).tmps:=by
 refine⟨by simp[Act.put,h.size],λt y m=>?_⟩;rw[jP]at m;show∃u,(a.tmps.setIfInBounds d v)[t]?=some u/\_
 by_cases q:d=t
 .subst q;simp only[↓reduceIte,bI]at m;subst m;exact⟨v,by simp[Array.getElem?_setIfInBounds,h.size,G],H⟩
 .simp only[q,↓reduceIte]at m;obtain⟨u,z,B⟩:=h.val t y m;exact⟨u,by rw[wT q];exact z,B⟩
theorem EnvOk.del{g:Gh}{n:Nat}{e:Env}{a:Act}{d:Nat}{v:Value}(h:EnvOk g n e a.tmps) :
  EnvOk g n (e.del d) (a.put (some d) v).tmps:=by
 refine⟨by simp[Act.put,h.size],λt y m=>?_⟩;rw[aEw]at m;show∃u,(a.tmps.setIfInBounds d v)[t]?=some u/\_
 by_cases q:d=t
 .simp[q]at m
 .simp only[q,↓reduceIte]at m;obtain⟨u,z,B⟩:=h.val t y m;exact⟨u,by rw[wT q];exact z,B⟩
theorem EnvOk.oper{C:Cx}{F:Fr}{g:Gh}{s:St}{w:World}{n:Nat}{e:Env}{a:Act}(z:R C.toCtx F g s w)(h:EnvOk g n e a.tmps) :
  ∀x v,dP C e x=some v->Rz g v (a.eval x):=by
 intro x v m;cases x with
 | tmp t =>
  obtain⟨u,q,y⟩:=h.val t v m;simpa [Act.eval,aBU,q]using y
 | const c=>exact aLb m
 | global k =>
  simp only[dP]at m;split at m
  .rename_i cs hcs;simp only[bI]at m;subst m;obtain⟨pre,_,_,_,G,hl,q,H⟩:=z.gpi hcs;exact .eptr cs 0 k 0 pre G aB q (λj c v B m=>H j c v B (gQ m))
  .simp at m
 | func f =>
  simp only[dP,bI]at m;subst m;exact .fn f [] [] [] [] rfl rfl aW aW
inductive XK where
 | normal
 | exit (id:Nat)
 | goto (l:Nat)
 | ret
 | panic (a:A)
def XRz(g:Gh):XK->Exit->Prop
 | .normal,.normal=>True
 | .exit i,.exit j=>i=j
 | .goto i,.goto j=>i=j
 | .ret,.ret=>True
 | .panic a,.panic iW=>∃v,iW=[{ v:=v,recovered:=false }]/\Rz g a v
 | _,_=>False
def Post(C:Cx)(F:Fr)(g:Gh)(n:Nat)(D:List Deferred)(Q:XK->Env->St->Prop)(m:Exit)(a:Act)(w:World):Prop :=
 ∃h e s x,g.le h/\R C.toCtx F h s w/\EnvOk h n e a.tmps/\a.defers=D/\XRz h x m/\Q x e s
def Ex(C:Cx)(n:Nat)(c:Code)(Q:XK->Env->St->Prop)(e:Env)(s:St):Prop :=
 ∀F g w a,R C.toCtx F g s w->EnvOk g n e a.tmps->c.wp C.P (Post C F g n a.defers Q) a w
theorem Post.mono{C:Cx}{F:Fr}{g u:Gh}(S:g.le u){n:Nat}{D:List Deferred}{Q m:XK->Env->St->Prop}{q:Exit}{a:Act}{w:World}
  (h:Post C F u n D Q q a w)(O:∀x e s,Q x e s->m x e s):Post C F g n D m q a w:=by
 obtain⟨y,e,s,x,z,B,G,H,L,M⟩:=h;exact⟨y,e,s,x,S.trans z,B,G,H,L,O _ _ _ M⟩
def bZ(n:Nat)(dst:Option Tmp)(K:Env->St->Prop)(e:Env)(s:St)(v:A):Prop :=
 match dst with
 | some d=>d<n/\K (e.put d v) s
 | none=>K e s
def iV:List (Option Tmp)->Nat->Option Tmp
 | [],_=>none
 | d::_,0=>d
 | _::r,n+1=>iV r n
def fB(C:Cx)(n:Nat)(ds:List (Option Tmp)):List Oper->(Env->St->Prop)->(St->A->Prop)->Env->St->Prop
 | [],K,_,e,s=>K e s
 | ⟨dst,op,_,_,_,none⟩::r,K,Kp,e,s=>aY C op (dP C e) (bZ n dst (fB C n ds r K Kp) e) Kp s
 | ⟨dst,op,_,_,_,some (j,h)⟩ :: r,K,Kp,e,s =>
  match iV ds j with
  | none=>False
  | some t=>match e.get t with
   | some (.bool b) =>
    match b with
    | true=>match h with
     | true=>aY C op (dP C (e.put t (.bool true))) (bZ n dst (fB C n ds r K Kp) (e.put t (.bool true))) Kp s
     | false=>bZ n dst (fB C n ds r K Kp) (e.put t (.bool true)) s (.tuple [])
    | false=>match h with
     | false=>aY C op (dP C (e.put t (.bool false))) (bZ n dst (fB C n ds r K Kp) (e.put t (.bool false))) Kp s
     | true=>bZ n dst (fB C n ds r K Kp) (e.put t (.bool false)) s (.tuple [])
   | some (.tuple _)=>bZ n dst (fB C n ds r K Kp) e s (.tuple [])
   | _=>False
end
section
def Env.ge(e e':Env):Prop:=∀t a,e'.get t=some a->e.get t=some a
theorem Env.ge.refl(e:Env):e.ge e:=λ_ _ h=>h
theorem aEz(V:List Nat)(e:Env):e.ge (e.keep V):=λt a h=>aI0 V e t a h
def Env.rem(ds:List (Option Tmp)):Env->Env
 | []=>[]
 | (k,u)::e=>if ds.elem (some k) then Env.rem ds e else(k,u)::Env.rem ds e
theorem lT(ds:List (Option Tmp)):∀(e:Env) (t:Nat),(e.rem ds).get t=if ds.elem (some t) then none else e.get t
 | [],t=>by simp[Env.rem,Env.get]
 | (k,u)::e,t=>by
  have q:=lT ds e t;simp only[Env.rem];by_cases m:ds.elem (some k)=true
  .rw[aE m,q];by_cases h:k=t
   .subst h;simp only[m,↓reduceIte]
   .simp only[Env.get,h,↓reduceIte]
  .rw[aD m];by_cases h:k=t
   .subst h;rw[aD m];simp only[Env.get,↓reduceIte]
   .simp only[Env.get,h,↓reduceIte,q]
theorem EnvOk.other{g:Gh}{n:Nat}{m:Env}{a:Act}{dst:Option Tmp}{v:Value}(h:EnvOk g n m a.tmps)(H:∀d,dst=some d->m.get d=none):EnvOk g n m (a.put dst v).tmps:=by
 cases dst with
 | none=>exact h
 | some d =>
  have z:=H d rfl;have y:(a.put (some d) v).tmps=a.tmps.setIfInBounds d v:=rfl;refine⟨by rw[y];simpa using h.size,λt x q=>?_⟩;obtain⟨u,B,G⟩:=h.val t x q;have:d≠t:=by rintro rfl;rw[z]at q;cases q
  exact⟨u,by rw[y,wT this];exact B,G⟩
section
variable {C:Cx} {F:Fr} {g g0:Gh} {s:St} {w:World} {n:Nat}
theorem aAa(a:Act)(d:Option Tmp)(v:Value):(a.put d v).defers=a.defers:=by cases d<;>rfl
theorem R.unframe(h:R C.toCtx F g s w){F0:Fr}(z:∀k o,F0 k=some o->F k=some o)(H:∀k o p,F k=some (o,some p)->F0 k=some (o,some p)):R C.toCtx F0 g s w where
 env:=h.env
 obj:=λb o m=>by
  obtain⟨k,q,B,G,u⟩:=h.obj b o m;refine⟨k,q,B,G,?_⟩;cases y:F0 k with
  | none=>rfl
  | some x=>rw[z k x y]at u;cases u
 tok:=λt n e M=>by
  obtain⟨v,xs,q,B,G,u⟩:=h.tok t n e M;refine⟨v,xs,q,B,G,λb m=>⟨(u b m).1,?_⟩⟩;cases y:F0 b with
  | none=>rfl
  | some x=>have:=(u b m).2;rw[z b x y]at this;cases this
 sep:=h.sep
 pis:=h.pis
 frm:=λb o m=>h.frm b o (z b o m)
 glb:=λb cs m=>by
  obtain⟨pre,ty,fr,L,q⟩:=h.glb b cs m;exact⟨pre,ty,fr,H _ _ _ L,q⟩
 fsh:=h.fsh
 bet:=h.bet
 inj:=h.inj
 dtm:=h.dtm
 lst:=h.lst
 bfr:=λb k m=>by
  cases y:F0 k with
  | none=>rfl
  | some x=>have:=h.bfr b k m;rw[z k x y]at this;cases this
theorem aEi{F0:Fr}(hF:∀k o,F0 k=some o->F k=some o)(hG:∀k o p,F k=some (o,some p)->F0 k=some (o,some p)){o:Oper}{a:Act}{e O:Env}{D:List Deferred}{K:Env->St->Prop}{Kp:St->A->Prop}{Q:XK->Env->St->Prop}
  {next:Act->World->Prop}(hg:g0.le g)(he:EnvOk g n e a.tmps)(M:EnvOk g n O a.tmps)(b2:∀d,o.dst=some d->O.get d=none)(hD:a.defers=D)
  (q:∀m v w' e' s',g.le m->R C.toCtx F m s' w'->EnvOk m n e' (a.put o.dst v).tmps->EnvOk m n O (a.put o.dst v).tmps->(a.put o.dst v).defers=D->K e' s'->next (a.put o.dst v) w')
  (b0:∀s v,Kp s v->Q (.panic v) O s){r:Result Next}
  (h:OutV C F g (bZ n o.dst K e) Kp r):o.upon C.P a next (Post C F0 g0 n D Q) r:=by
 have H:∀m v y s' w',g.le m->R C.toCtx F m s' w'->Rz m y v->bZ n o.dst K e s' y->next (a.put o.dst v) w':=by
  intro m v y s' w' u B G z;have U:=he.mono u;unfold bZ at z;cases S:o.dst with
  | none=>rw[S]at z;rw[S]at q;exact q m v w' e s' u B U (M.mono u) hD z
  | some d =>
   rw[S]at z;rw[S]at q;exact q m v w' _ s' u B (U.put z.1 G) ((M.mono u).other λd' b1=>by cases b1;exact b2 d S) (by rw[aAa];exact hD) z.2
 have L:∀m v y s' w',g.le m->R C.toCtx F m s' w'->Rz m y v->Kp s' y->Post C F0 g0 n D Q (.panic [{ v:=v,recovered:=false }]) a w' :=
  λm v y s' w' u B G z=>⟨m,O,s',.panic y,hg.trans u,B.unframe hF hG,M.mono u,hD,⟨v,rfl,G⟩,b0 _ _ z⟩
 cases r with
 | ok x w' =>
  cases x<;>simp only[OutV]at h
  case value v =>
   obtain⟨m,y,s',u,B,G,z⟩:=h;exact H m v y s' w' u B G z
  case skip =>
   obtain⟨m,s',u,B,G⟩:=h;exact H m undef (.tuple []) s' w' u B (.tuple [] [] rfl aW) G
  case enter f args =>
   refine Calls.mono h λen Z hp=>?_
   cases en with
   | returned v=>obtain⟨m,y,s',u,B,G,z⟩:=hp;exact H m v y s' Z u B G z
   | panicked iW=>obtain⟨m,y,v,s',rfl,u,B,G,z⟩:=hp;exact L m v y s' Z u B G z
   | outgrown=>exact hp.elim
 | halt x w' =>
  cases x<;>simp only[OutV]at h
  obtain⟨m,y,s',u,B,G,z⟩:=h;exact L m _ y s' w' u B G z
theorem aCQ(ops:Array Oper):∀(j:Nat),iV (ops.toList.map (·.dst)) j=(ops[j]?).bind (·.dst):=by
 obtain⟨l⟩:=ops
 induction l with
 | nil=>intro j;simp[iV]
 | cons o l h =>
  intro j;cases j with
  | zero=>simp[iV]
  | succ j=>simpa [iV]using h j
theorem aFl{ops:Array Oper}{j t:Nat}{e:Env}{b:Bool}{h:Array Value}(m:iV (ops.toList.map (·.dst)) j=some t)
  (z:EnvOk g n e h)(y:e.get t=some (.bool b)):yielded ops h j=some b:=by
 obtain⟨v,q,u⟩:=z.val t _ y;rw[aCQ]at m;simp[yielded,m,q,u.bool_inv]
theorem aEj{ops:Array Oper}{j t:Nat}{e:Env}{l:List A}{h:Array Value}(m:iV (ops.toList.map (·.dst)) j=some t)
  (z:EnvOk g n e h)(y:e.get t=some (.tuple l)):yielded ops h j=none:=by
 obtain⟨v,q,u⟩:=z.val t _ y;obtain⟨vs,rfl,_⟩:=u.tuple_inv;rw[aCQ]at m;simp[yielded,m,q]
theorem aHk{ops:Array Oper}{U:Env}{D:List Deferred}{K:Env->St->Prop}{Kp:St->A->Prop}{Q:XK->Env->St->Prop}
  (hK:∀e s,K e s->∃e',e.ge e'/\Q .normal e' s)(b0:∀s v,Kp s v->Q (.panic v) U s) :
  ∀(l:List Oper) (g:Gh) (e:Env) (s:St) (a:Act) (w:World),(∀o,o∈l->∀d,o.dst=some d->U.get d=none)->g0.le g->R C.toCtx F g s w->EnvOk g n e a.tmps->EnvOk g n U a.tmps->a.defers=D ->
   fB C n (ops.toList.map (·.dst)) l K Kp e s->wpList C.P ops (Post C F g0 n D Q) l a w
 | [],g,e,s,a,w,G,O,M,H,z,Z,h=>by
  obtain⟨e',h1,h2⟩:=hK _ _ h;exact⟨g,e',s,.normal,O,M,H.sub h1,Z,trivial,h2⟩
 | ⟨dst,op,ty,pos,after,gd⟩ :: r,g,e,s,a,w,G,O,M,H,z,Z,h => by
  have b1:∀d,dst=some d->U.get d=none:=G ⟨dst,op,ty,pos,after,gd⟩ aW
  have B:∀o,o∈r->∀d,o.dst=some d->U.get d=none:=λo ho=>G o (by simp[ho])
  have ih:=aHk (ops:=ops) (D:=D) hK b0 r
  have L:∀e',EnvOk g n e' a.tmps->aY C op (dP C e') (bZ n dst (fB C n (ops.toList.map (·.dst)) r K Kp) e') Kp s ->
    (⟨dst,op,ty,pos,after,gd⟩:Oper).wp C.P a w (wpList C.P ops (Post C F g0 n D Q) r) (Post C F g0 n D Q):=by
   intro e' m b4;have:=aHc (ev:=a.eval) (ty:=ty) (dst:=dst) (pos:=pos) (after:=after) (gd:=gd) M (m.oper M) b4;exact aEi (λ_ _ h=>h) (λ_ _ _ h=>h) (o:=⟨dst,op,ty,pos,after,gd⟩) O m z b1 Z (λg' a' w' e2 s' h1 h2 h3 b2 h4 h5=>ih g' e2 s' _ w' B (O.trans h1) h2 h3 b2 h4 h5) b0 this
  have skip:∀e',EnvOk g n e' a.tmps->bZ n dst (fB C n (ops.toList.map (·.dst)) r K Kp) e' s (.tuple []) ->
    wpList C.P ops (Post C F g0 n D Q) r (a.put dst undef) w:=by
   intro e' m S;unfold bZ at S;cases y:dst with
   | none=>rw[y]at S;exact ih g e' s a w B O M m z Z S
   | some d=>rw[y]at S;exact ih g _ s _ w B O M (m.put S.1 (.tuple [] [] rfl aW)) (z.other λd' b3=>by cases b3;exact b1 d y) (by rw[aAa];exact Z) S.2
  cases gd with
  | none =>
   simp only[fB]at h;unfold wpList;rw[aE (by simp[Region.wanted])];exact .inl (L e H h)
  | some jw =>
   obtain⟨j,q⟩:=jw;simp only[fB]at h;split at h
   .exact h.elim
   .rename_i t ht;split at h
    .rename_i b hb;have hy:=aFl (b:=b) ht H hb
     have m:EnvOk g n (e.put t (.bool b)) a.tmps:=H.sub λu x hx=>by
      rw[jP]at hx;by_cases hu:t=u
      .subst hu;simp only[↓reduceIte]at hx;rw[hb];exact hx
      .simpa only[hu,↓reduceIte]using hx
     unfold wpList
     have hw:Region.wanted (⟨dst,op,ty,pos,after,some (j,q)⟩:Oper) (yielded ops a.tmps)=(b == q):=by
      simp only[Region.wanted,hy];cases b<;>cases q<;>rfl
     cases b<;>cases q<;>simp only at h
     .rw[aE (by rw[hw];rfl)];exact .inl (L _ m h)
     .rw[aD (by rw[hw];decide)];exact skip _ m h
     .rw[aD (by rw[hw];decide)];exact skip _ m h
     .rw[aE (by rw[hw];rfl)];exact .inl (L _ m h)
    .rename_i l hb;have hy:=aEj ht H hb;unfold wpList;rw[aD (by simp[Region.wanted,hy])];exact skip _ H h
    .exact h.elim
theorem aGy(e:Env){ops:Array Oper}:∀o,o∈ops.toList->∀d,o.dst=some d->(e.rem (ops.toList.map (·.dst))).get d=none:=by
 intro o ho d h;rw[lT,aE];rw[List.elem_eq_mem];simp only[dA,cD];exact⟨o,ho,h⟩
theorem aHp{e:Env}{ds:List (Option Tmp)}{m:Array Value}(q:EnvOk g n e m):EnvOk g n (e.rem ds) m:=q.sub λt a h=>by
 rw[lT]at h;split at h
 .cases h
 .exact h
theorem Ex.region{z:Nat}{ops:Array Oper}{Q:XK->Env->St->Prop}{K:Env->St->Prop}{Kp:St->A->Prop}{e:Env}
  (u:∀e s,K e s->∃e',e.ge e'/\Q .normal e' s)(m:∀s v,Kp s v->Q (.panic v) (e.rem (ops.toList.map (·.dst))) s)
  (h:fB C n (ops.toList.map (·.dst)) ops.toList K Kp e s):Ex C n (.region z ops false) Q e s:=λF g w a y q =>
 wp_region_list (aHk u m ops.toList g e s a w (aGy e) (dW g) y q (aHp q) rfl h)
end
section
variable {C:Cx} {n:Nat} {Q:XK->Env->St->Prop} {e:Env} {s:St}
theorem Ex.mono{c:Code}{m:XK->Env->St->Prop}(h:Ex C n c Q e s)(q:∀x e s,Q x e s->m x e s):Ex C n c m e s :=
 λF g w a u y=>kS (λG B w' z=>Post.mono (dW g) z q) (h F g w a u y)
theorem aMm{c:Code}{m:XK->Env->St->Prop}(h:Ex C n c Q e s)(S:∀x e s,Q x e s->∃e',e.ge e'/\m x e' s):Ex C n c m e s :=
 λF g w a U Z=>kS (λex a' w' hp=>by
  obtain⟨u,e',s',x,y,z,B,G,H,L⟩:=hp;obtain⟨q,M,O⟩:=S _ _ _ L;exact⟨u,q,s',x,y,z,B.sub M,G,H,O⟩) (h F g w a U Z)
theorem Ex.skip(h:Q .normal e s):Ex C n .skip Q e s:=λF g w a m q=>wp_skip ⟨g,e,s,.normal,dW g,m,q,rfl,trivial,h⟩
theorem Ex.label{l:Nat}(h:Q .normal e s):Ex C n (.label l) Q e s:=λF g w a m q=>wp_label ⟨g,e,s,.normal,dW g,m,q,rfl,trivial,h⟩
theorem Ex.exit{i:Nat}(h:Q (.exit i) e s):Ex C n (.exit i) Q e s:=λF g w a m q=>wp_exit ⟨g,e,s,.exit i,dW g,m,q,rfl,rfl,h⟩
theorem Ex.goto{i:Nat}(h:Q (.goto i) e s):Ex C n (.goto i) Q e s:=λF g w a m q=>wp_goto ⟨g,e,s,.goto i,dW g,m,q,rfl,rfl,h⟩
theorem Ex.ret(h:Q .ret e s):Ex C n .ret Q e s:=λF g w a m q=>wp_ret ⟨g,e,s,.ret,dW g,m,q,rfl,trivial,h⟩
def jY(R:Env->St->Prop)(Q:XK->Env->St->Prop):XK->Env->St->Prop
 | .normal,e,s=>R e s
 | x,e,s=>Q x e s
theorem Ex.seq{c d:Code}(h:Ex C n c (jY (Ex C n d Q) Q) e s):Ex C n (.seq c d) Q e s:=λF g w a O S=>by
 refine wp_seq (kS (λq M w' m=>?_) (h F g w a O S));obtain⟨u,e',s',x,y,z,B,G,H,L⟩:=m;cases q<;>cases x<;>try exact H.elim
 .have:=L F u w' M z B;rw[G]at this;exact kS (λq a2 U m=>Post.mono y m λ_ _ _ h=>h) this
 all_goals exact⟨u,e',s',_,y,z,B,G,H,L⟩
def qK(i:Nat)(Q:XK->Env->St->Prop):XK->Env->St->Prop
 | .exit j,e,s=>if j=i then Q .normal e s else Q (.exit j) e s
 | x,e,s=>Q x e s
theorem Ex.block{i:Nat}{c:Code}(h:Ex C n c (qK i Q) e s):Ex C n (.block i c) Q e s:=λF g w a M O=>by
 refine wp_block (kS (λL U w' S=>?_) (h F g w a M O));obtain⟨u,e',s',x,y,z,B,G,q,m⟩:=S;cases L<;>cases x<;>try exact q.elim
 case exit.exit j k =>
  simp only[XRz]at q;subst q;simp only[qK]at m;simp only[Exit.inBlock];split at m
  .rename_i H;rw[aE H];exact⟨u,e',s',.normal,y,z,B,G,trivial,m⟩
  .rename_i H;rw[aD H];exact⟨u,e',s',.exit _,y,z,B,G,rfl,m⟩
 all_goals exact⟨u,e',s',_,y,z,B,G,q,m⟩
theorem Ex.cond{c:Operand}{x y:Code}{b:Bool}(u:dP C e c=some (.bool b))(h:Ex C n (if b then x else y) Q e s):Ex C n (.cond c x y) Q e s:=λF g w a m q =>
 wp_cond (((q.oper m) c _ u).bool_inv) (h F g w a m q)
theorem Ex.weaken{c:Code}{e':Env}{s':St}(y:e.ge e')(z:s.ge s')(h:Ex C n c Q e' s')(u:C.det=false:=by rfl):Ex C n c Q e s:=λF g w a q m =>
 h F g w a (q.weaken z (λh=>by rw[show C.toCtx.det=false from u]at h;cases h)) (m.sub y)
theorem aMp(I:Nat->Env->St->Prop)(m:Nat){c:Code}(h0:I m e s)
  (h:∀m e s,I m e s->Ex C n c (jY (λe' s'=>∃u,u<m/\I u e' s') Q) e s):Ex C n (.loop c) Q e s:=λF g0 w a hR hE=>by
 refine wp_loop_ghost (I:=λm q w'=>q.defers=a.defers/\∃g e s,g0.le g/\I m e s/\R C.toCtx F g s w'/\EnvOk g n e q.tmps) m
  ⟨rfl,g0,e,s,dW g0,h0,hR,hE⟩ ?_
 rintro k q w' ⟨hD,g,e',s',hg,hI,B,y⟩;refine kS (λex a2 w2 hp=>?_) (h k e' s' hI F g w' q B y);obtain⟨H,G,s2,x,L,M,O,S,U,Z⟩:=hp;cases ex<;>cases x<;>try exact U.elim
 .obtain⟨u,hm,z⟩:=Z;exact⟨u,hm,S.trans hD,H,G,s2,hg.trans L,z,M,O⟩
 all_goals exact⟨H,G,s2,_,hg.trans L,M,O,S.trans hD,U,Z⟩
def Env.has(e:Env):Env->Prop
 | []=>True
 | (k,a)::r=>e.get k=some a/\Env.has e r
theorem aB0{e:Env}:∀{e':Env},e.has e'->e.ge e'
 | [],_=>λt a h=>by cases h
 | (k,a)::r,h=>λt b m=>by
  simp only[Env.get]at m;split at m
  .rename_i q;subst q;cases m;exact h.1
  .exact aB0 h.2 t b m
theorem Ex.loop{ι:Type}(E:ι->Env)(S:ι->St)(I:ι->Prop)(u:ι->Nat)(i:ι){c:Code}(M:I i)(y:e.has (E i))(B:s.ge (S i))
  (q:∀i,I i->Ex C n c (jY (λe' s'=>∃j,I j/\u j<u i/\e'.has (E j)/\s'.ge (S j)) Q) (E i) (S i))(L:C.det=false:=by rfl):Ex C n (.loop c) Q e s:=by
 refine aMp (λm e s=>∃i,I i/\u i=m/\e.ge (E i)/\s.ge (S i)) (u i) ⟨i,M,rfl,aB0 y,B⟩ ?_;rintro m e s ⟨j,O,rfl,y,B⟩;refine Ex.weaken y B (Ex.mono (q j O) λx e' s' h=>?_) L;cases x
 case normal =>
  obtain⟨k,U,z,G,H⟩:=h;exact⟨u k,z,k,U,rfl,aB0 G,H⟩
 all_goals exact h
def jH(V:List Nat)(Q:XK->Env->St->Prop)(e:Env)(s:St):Prop:=Q .normal (e.keep V) s
def tT(Q:XK->Env->St->Prop)(ds:List (Option Tmp))(e:Env)(s:St)(v:A):Prop:=Q (.panic v) (e.rem ds) s
def aBa(C:Cx)(n:Nat)(h:Nat)(ops:Array Oper)(Q:XK->Env->St->Prop)(e:Env)(s:St):Prop:=Ex C n (.region h ops true) Q e s
def eM(C:Cx)(n:Nat)(V:List Nat):Code->(XK->Env->St->Prop)->Env->St->Prop
 | .skip,Q,e,s=>Q .normal e s
 | .label _,Q,e,s=>Q .normal e s
 | .exit i,Q,e,s=>Q (.exit i) e s
 | .goto i,Q,e,s=>Q (.goto i) e s
 | .ret,Q,e,s=>Q .ret e s
 | .seq c d,Q,e,s=>eM C n V c (jY (eM C n V d Q) Q) e s
 | .block i c,Q,e,s=>eM C n V c (qK i Q) e s
 | .cond c x y,Q,e,s=>match dP C e c with
  | some (.bool b)=>match b with
   | true=>eM C n V x Q e s
   | false=>eM C n V y Q e s
  | _=>False
 | .region m ops h,Q,e,s=>match h with
  | false=>fB C n (ops.toList.map (·.dst)) ops.toList (jH V Q) (tT Q (ops.toList.map (·.dst)) e) e s
  | true=>aBa C n m ops (jY (jH V Q) Q) e s
 | .loop c,Q,e,s=>Ex C n (.loop c) Q e s
 | c,Q,e,s=>Ex C n c Q e s
theorem aJV(R:Env->St->Prop)(Q:XK->Env->St->Prop)(e:Env)(s:St):jY R Q .normal e s=R e s:=rfl
theorem aLL(R:Env->St->Prop)(Q:XK->Env->St->Prop)(i:Nat)(e:Env)(s:St):jY R Q (.exit i) e s=Q (.exit i) e s:=rfl
theorem aLr(R:Env->St->Prop)(Q:XK->Env->St->Prop)(i:Nat)(e:Env)(s:St):jY R Q (.goto i) e s=Q (.goto i) e s:=rfl
theorem aMF(R:Env->St->Prop)(Q:XK->Env->St->Prop)(e:Env)(s:St):jY R Q .ret e s=Q .ret e s:=rfl
theorem aKC(R:Env->St->Prop)(Q:XK->Env->St->Prop)(a:A)(e:Env)(s:St):jY R Q (.panic a) e s=Q (.panic a) e s:=rfl
theorem aIO(i:Nat)(Q:XK->Env->St->Prop)(e:Env)(s:St):qK i Q .normal e s=Q .normal e s:=rfl
theorem aKD(i:Nat)(Q:XK->Env->St->Prop)(e:Env)(s:St):qK i Q .ret e s=Q .ret e s:=rfl
theorem aJu(i j:Nat)(Q:XK->Env->St->Prop)(e:Env)(s:St):qK i Q (.goto j) e s=Q (.goto j) e s:=rfl
theorem aJi(i:Nat)(a:A)(Q:XK->Env->St->Prop)(e:Env)(s:St):qK i Q (.panic a) e s=Q (.panic a) e s:=rfl
theorem aJ5(i j:Nat)(Q:XK->Env->St->Prop)(e:Env)(s:St):qK i Q (.exit j) e s=if j=i then Q .normal e s else Q (.exit j) e s:=rfl
theorem bC{V:List Nat}:∀(c:Code) (Q:XK->Env->St->Prop) (e:Env) (s:St),eM C n V c Q e s->Ex C n c Q e s
 | .skip,Q,e,s,h=>Ex.skip h
 | .label _,Q,e,s,h=>Ex.label h
 | .exit i,Q,e,s,h=>Ex.exit h
 | .goto i,Q,e,s,h=>Ex.goto h
 | .ret,Q,e,s,h=>Ex.ret h
 | .seq c d,Q,e,s,h=>by
  refine Ex.seq (Ex.mono (bC c _ e s h) λx e s q=>?_);cases x
  case normal=>exact bC d Q e s q
  all_goals exact q
 | .block i c,Q,e,s,h=>Ex.block (bC c _ e s h)
 | .cond c x y,Q,e,s,h=>by
  simp only[eM]at h;split at h
  .rename_i b u;refine Ex.cond u ?_;cases b
   .exact bC y Q e s h
   .exact bC x Q e s h
  .exact h.elim
 | .region B ops m,Q,e,s,h=>by
  cases m
  .exact Ex.region (λe s z=>⟨_,aEz V e,z⟩) (λ_ _ h=>h) h
  .refine aMm (Q:=jY (jH V Q) Q) h λx e s q=>?_
   cases x
   case normal=>exact⟨_,aEz V e,q⟩
   all_goals exact⟨e,Env.ge.refl e,q⟩
 | .loop c,Q,e,s,h=>h
 | .rangeFunc ..,Q,e,s,h=>h
 | .scope c,Q,e,s,h=>h
 | .refuse _,Q,e,s,h=>h
end
end
section
def mJ:Nat->List A->Env
 | _,[]=>[]
 | k,a::r=>(k,a)::mJ (k+1) r
theorem aCC:∀(az:List A) (k t:Nat) (a:A),(mJ k az).get t=some a->k<=t/\az[t-k]?=some a
 | [],k,t,a,h=>by simp[mJ,Env.get]at h
 | x::r,k,t,a,h=>by
  simp only[mJ,Env.get]at h;split at h
  .rename_i m;subst m;simp only[bI]at h;subst h;exact⟨bL _,by simp⟩
  .rename_i m;obtain⟨u,q⟩:=aCC r (k+1) t a h;refine⟨by omega,?_⟩;rw[show t-k=(t-(k+1))+1 by omega];simpa using q
def oL(C:Cx)(e:Env)(s:St):List ResultVar->Option (List A)
 | []=>some []
 | .tmp t::r=>match e.get t,oL C e s r with
  | some a,some l=>some (a::l)
  | _,_=>none
 | .cell p t::r=>match e.get p,oL C e s r with
  | some (.ptr b o),some l=>match s.getO b with
   | some (.cells _ cs)=>match pN C t cs o with
    | some a=>some (a::l)
    | none=>none
   | _=>none
  | _,_=>none
def wH:List A->A
 | [a]=>a
 | l=>.tuple l
def jF(C:Cx)(h:List ResultVar)(KV Kp:St->A->Prop):XK->Env->St->Prop
 | .normal,e,s=>match oL C e s h with
  | some l=>KV s (wH l)
  | none=>False
 | .ret,e,s=>match oL C e s h with
  | some l=>KV s (wH l)
  | none=>False
 | .panic a,_,s=>Kp s a
 | _,_,_=>False
section
variable {C:Cx} {F:Fr} {g:Gh} {s:St} {w:World} {n:Nat} {e:Env}
theorem aJQ(Z:R C.toCtx F g s w){b o:Nat}{e:TypeId}{cs:List A}{t:TypeId}{v:A}(hb:s.getO b=some (.cells e cs))(h:pN C t cs o=some v) :
  ∃k u,g.beta b=some k/\(loadVar t ⟨k,o,none⟩).run C.P w=.ok u w/\Rz g v u:=by
 obtain⟨k,vs,rest,M,hh,B,O⟩:=Z.cellsOf hb
 have cell:∀j u,vs[j]?=some u->w.cell? ⟨k,j,none⟩=some u:=by
  intro j u m;simp only[World.cell?,hh,Option.isSome_none,cQ,↓reduceIte,jK];rw[gO (dG.1 m).1];exact m
 simp only[pN]at h;split at h
 .rename_i H G;split at h
  .rename_i y;split at h
   .rename_i b0;simp only[bI]at h;subst h
    have S:∀j v,((vs.drop o).take H.sz)[j]?=some v->w.cell? ((⟨k,o,none⟩:Addr).add j)=some v:=by
     intro j v m;rw[kC]at m;split at m
     .rw[jL]at m;rw[iH,cell _ _ m]
     .simp at m
    have z:((vs.drop o).take H.sz).length=H.sz:=by
     have:=B.1;rw[dV,cS];omega
    have q:=run_loadCells_list (P:=C.P) w ⟨k,o,none⟩ _ S;rw[z]at q;have U:=(B.drop o).take H.sz;refine⟨k,.agg ((vs.drop o).take H.sz).toArray,M,?_,.agg _ _ U.1 (λc S=>O c (pX (nQ S))) U.2⟩;simp only[loadVar,bE,bO,bD,vE G,y,↓reduceIte,iS G,q]
   .simp at h
  .rename_i y;obtain⟨u,hu,hr⟩:=B.get h;have L:H.k.agg=false:=gQ y;refine⟨k,u,M,?_,hr⟩;simp only[loadVar,bE,bO,bD,vE G,L,cQ,↓reduceIte,run_load,cell _ _ hu]
 .simp at h
def qS(h:Array Value):ResultVar->Sem Value
 | .tmp t=>pure (h.getD t undef)
 | .cell a t=>do loadVar t (<-asAddr (h.getD a undef))
theorem aAH(L:R C.toCtx F g s w){m:Array Value}(z:EnvOk g n e m):∀(rs:List ResultVar) (l:List A),oL C e s rs=some l ->
  ∃vs,(rs.mapM (qS m)).run C.P w=.ok vs w/\Rzs g l vs
 | [],l,h=>by simp[oL]at h;subst h;exact⟨[],by simp,.nil g⟩
 | .tmp t::r,l,h=>by
  simp only[oL]at h;split at h
  .rename_i a l' M hl;simp only[bI]at h;subst h;obtain⟨vs,G,H⟩:=aAH L z r l' hl;obtain⟨u,Z,U⟩:=z.val t a M;refine⟨u::vs,?_,.cons U H⟩;have B:(qS m (.tmp t)).run C.P w=.ok u w:=by simp[qS,aBU,Z]
   simp only[List.mapM_cons,bE,bO,bD,G,B]
  .simp at h
 | .cell p t::r,l,h=>by
  simp only[oL]at h;split at h
  .rename_i b o l' M hl;split at h
   .rename_i cs hcs;split at h
    .rename_i v hv;simp only[bI]at h;subst h;obtain⟨vs,G,H⟩:=aAH L z r l' hl;obtain⟨u,Z,U⟩:=z.val p _ M;obtain⟨k,q,O,hq,S⟩:=aJQ L hcs hv;obtain⟨k',hp,y⟩:=U.ptr_inv;rw[O]at y;cases y;refine⟨q::vs,?_,.cons S H⟩;have B:(qS m (.cell p t)).run C.P w=.ok q w:=by simp only[qS,bE,aBU,Z,Option.getD_some,hp,asAddr,bO,bD,hq]
     simp only[List.mapM_cons,bE,bO,bD,G,B]
    .simp at h
   .simp at h
  .simp at h
theorem aG1{l:List A}{vs:List Value}(h:Rzs g l vs):Rz g (wH l) (if h:vs.toArray.size=1 then vs.toArray[0] else .tuple vs.toArray):=by
 match l,vs,h with
 | [],[],h=>exact .tuple [] [] rfl aW
 | [a],[v],h=>exact h.2 0 a v aW aW
 | a::b::l,v::u::vs,h =>
  have:¬ (v::u::vs).toArray.size=1:=by simp
  rw[dif_neg this];exact .tuple _ _ h.1 h.2
 | [],_::_,h=>have:=h.1;simp at this
 | _::_,[],h=>have:=h.1;simp at this
 | [_],_::_::_,h=>have:=h.1;simp at this
 | _::_::_,[_],h=>have:=h.1;simp at this
theorem aCe{f:FuncId}{fn:Func}{c:Code}{args:List A}{KV Kp:St->A->Prop}(Z:C.P.funcs[f]?=some fn)(U:fn.body=some c)
  (q : (fn.name == "runtime.NumGoroutine") = false) (hn : args.length ≤ fn.ntmps)
  (h:Ex C fn.ntmps c (jF C fn.results.toList KV Kp) (mJ 0 args) s):Den C f args KV Kp s:=by
 intro F g w vals hR hv
 have B:(callFunc f vals.toArray).run C.P w=.ok (.enter f vals.toArray) w:=by
  simp only[callFunc,bE,run_program,bD,Z,q,cQ,↓reduceIte,U,Option.isNone_some,bO]
 rw[B];refine calls_of_wp Z U ?_
 have hE:EnvOk g fn.ntmps (mJ 0 args) (vals.toArray++Array.replicate (fn.ntmps-vals.toArray.size) undef):=by
  have hl:vals.length=args.length:=hv.1;refine⟨by simp;omega,λt a ha=>?_⟩;obtain⟨_,y⟩:=aCC args 0 t a ha;obtain⟨u,H,G⟩:=hv.get y;rw[Nat.sub_zero]at H;refine⟨u,?_,G⟩;have:t<vals.length:=(dG.1 H).1;rw[Array.getElem?_append_left (gQ this)];simpa using H
 refine kS (λex z w' hp=>?_) (h F g w ⟨_,[]⟩ hR hE);obtain⟨L,e',s',x,M,y,h3,O,S,m⟩:=hp
 have fin:∀l,oL C e' s' fn.results.toList=some l->KV s' (wH l)->z.defers=[]/\∃v,(results fn z.tmps).run C.P w'=.ok v w'/\vT C F g KV Kp (.returned v) w':=by
  intro l hl hk;obtain⟨vs,r1,r2⟩:=aAH y h3 _ _ hl;refine⟨O,_,?_,⟨L,_,s',M,y,aG1 r2,hk⟩⟩;have e0:results fn z.tmps=(do let vs <-fn.results.mapM (qS z.tmps);pure (if h:vs.size=1 then vs[0] else .tuple vs)):=rfl;rw[e0,bE,Array.mapM_eq_mapM_toList,Sem.run_map,r1];rfl
 cases ex<;>cases x<;>try exact S.elim
 .simp only[jF]at m;split at m
  .rename_i l hl;exact fin l hl m
  .exact m.elim
 .exact m.elim
 .exact m.elim
 .simp only[jF]at m;split at m
  .rename_i l hl;exact fin l hl m
  .exact m.elim
 .obtain⟨v,rfl,G⟩:=S;exact⟨O,⟨L,_,v,s',rfl,M,y,G,m⟩⟩
theorem Den.mono{f:FuncId}{args:List A}{KV Kp y z:St->A->Prop}(h:Den C f args KV Kp s)(B:∀s a,KV s a->y s a)(H:∀s a,Kp s a->z s a) :
  Den C f args y z s:=by
 intro F g w vals M O;have:=h F g w vals M O;revert this;generalize (callFunc f vals.toArray).run C.P w=r;intro u;cases r with
 | ok x w' =>
  cases x<;>simp only[OutV]at u⊢
  .obtain⟨q,a,s',m,a2,a3,a4⟩:=u;exact⟨q,a,s',m,a2,a3,B _ _ a4⟩
  .obtain⟨q,s',m,a2,a3⟩:=u;exact⟨q,s',m,a2,B _ _ a3⟩
  .refine Calls.mono u λL S G=>?_
   cases L with
   | returned v=>obtain⟨q,a,s',m,a2,a3,a4⟩:=G;exact⟨q,a,s',m,a2,a3,B _ _ a4⟩
   | panicked iW=>obtain⟨q,a,v,s',a0,m,a2,a3,a4⟩:=G;exact⟨q,a,v,s',a0,m,a2,a3,H _ _ a4⟩
   | outgrown=>exact G
 | halt x w' =>
  cases x<;>simp only[OutV]at u⊢
  obtain⟨q,a,s',m,a2,a3,a4⟩:=u;exact⟨q,a,s',m,a2,a3,H _ _ a4⟩
theorem Den.weaken{f:FuncId}{args:List A}{KV Kp:St->A->Prop}{s':St}(u:s.ge s')(h:Den C f args KV Kp s')(q:C.det=false:=by rfl):Den C f args KV Kp s :=
 λF g w vals m y=>h F g w vals (m.weaken u (λh=>by rw[show C.toCtx.det=false from q]at h;cases h)) y
end
def fA:=@Den.weaken
end
section
def aC9:A->Value->Bool
 | .int k n,.int j m=>decide (k=j)&&decide (n=m)
 | .bool b,.bool c=>b == c
 | .str s,.string t=>s.isEmpty&&decide (t.data.toList=[])
 | .nilp,.pointer none=>true
 | .nils,.slice none 0 0=>true
 | .nilf,.nilFunc=>true
 | .nili,.nilIface=>true
 | .nilm,.map none=>true
 | _,_=>false
def vF:List A->List Value->Bool
 | [],[]=>true
 | a::az,v::vs=>aC9 a v&&vF az vs
 | _,_=>false
theorem aKm{g:Gh}{a:A}{v:Value}(h:aC9 a v=true):Rz g a v/\a.one=true:=by
 unfold aC9 at h;split at h<;>simp only[dI,dA,beq_iff_eq,cQ]at h
 .obtain⟨rfl,rfl⟩:=h;exact⟨.int _ _,rfl⟩
 .subst h;exact⟨.bool _,rfl⟩
 .rename_i s t;obtain⟨m,q⟩:=h;have:s=t.data.toList:=by rw[q];simpa using m
  subst this;exact⟨.str t.data.toList,rfl⟩
 .exact⟨.nilp,rfl⟩
 .exact⟨.nils,rfl⟩
 .exact⟨.nilf,rfl⟩
 .exact⟨.nili,rfl⟩
 .exact⟨.nilm,rfl⟩
theorem aCx{g:Gh}:∀{az:List A} {vs:List Value},vF az vs=true->Rzs g az vs/\∀c,c∈az->c.one=true
 | [],[],_=>⟨.nil g,by simp⟩
 | a::az,v::vs,h=>by
  simp only[vF,dI]at h;have q:=aKm (g:=g) h.1;have u:=aCx (g:=g) h.2;exact⟨.cons q.1 u.1,λc m=>by cases m with|head=>exact q.2|tail _ m=>exact u.2 c m⟩
 | [],_::_,h=>by simp[vF]at h
 | _::_,[],h=>by simp[vF]at h
def vG(P:Program):List Field->List (Nat × Nat × Bool)->Bool
 | [],[]=>true
 | f::h,(o,s,a)::r=>decide (f.offset=o)&&decide ((P.info? f.type).map (·.size)=some s)&&decide (s≠0)&&(P.underlying f.type).isSome&&(tU (P.underlying f.type) == a)&&vG P h r
 | _,_=>false
theorem aFF{P:Program}:∀{m:List Field} {l:List (Nat × Nat × Bool)},vG P m l=true->m.length=l.length/\∀(i o s:Nat) (a:Bool),l[i]?=some (o,s,a) ->
   ∃f,m[i]?=some f/\f.offset=o/\(P.info? f.type).map (·.size)=some s/\s≠0/\(P.underlying f.type).isSome=true/\tU (P.underlying f.type)=a
 | [],[],_=>⟨rfl,λi o s a h=>by simp at h⟩
 | f::m,(o,s,a)::r,h=>by
  simp only[vG,dI,dA,beq_iff_eq]at h;obtain⟨⟨⟨⟨⟨H,L⟩,M⟩,O⟩,S⟩,U⟩:=h;obtain⟨z,B⟩:=aFF U;refine⟨by simp[z],λi Z s' y u=>?_⟩;cases i with
  | zero=>simp only[iZ,bI,lO]at u;obtain⟨rfl,rfl,rfl⟩:=u;exact⟨f,by simp,H,L,M,O,S⟩
  | succ i=>obtain⟨G,q⟩:=B i Z s' y (gQ u);exact⟨G,gQ q⟩
 | [],_::_,h=>by simp[vG]at h
 | _::_,[],h=>by simp[vG]at h
def aDI(P:Program)(k:TK)(d:TypeDesc):Bool :=
 match k,d with
 | .int k,.int j=>decide (k=j)
 | .bool,.bool=>true
 | .string,.string=>true
 | .slice e,.slice e'=>decide (e=e')
 | .array n e,.array m e'=>decide (n=m)&&decide (e=e')
 | .struct q,.struct h=>vG P h.toList q
 | .iface,.interface _=>true
 | .map e kd,.map u e'=>decide (e=e')&&aDi P u kd
 | .other,.pointer _|.other,.func ..|.other,.map ..|.other,.chan ..|.other,.unsafePointer|.other,.float _|.other,.complex _=>true
 | _,_=>false
theorem aM6{P:Program}{k:TK}{d:TypeDesc}(h:aDI P k d=true):k.ok P d:=by
 unfold aDI at h;split at h<;>(try simp only[dI,dA,cQ]at h)<;>simp only[TK.ok]
 .subst h;rfl
 .subst h;rfl
 .obtain⟨rfl,rfl⟩:=h;rfl
 .rename_i G m;obtain⟨u,y⟩:=aFF h;exact⟨m,rfl,gQ u,λi o s a B=>by obtain⟨f,q⟩:=y i o s a B;exact⟨f,gQ q⟩⟩
 .exact⟨_,rfl⟩
 .obtain⟨rfl,z⟩:=h;exact⟨_,rfl,aLE z⟩
 all_goals exact⟨rfl,by simp⟩
def aHj:Value->Bool
 | .agg _=>true
 | _=>false
def aDK(P:Program)(t:TypeId)(h:TI):Bool :=
 match P.info? t,P.underlying t with
 | some i,some d=>decide (i.size=h.sz)&&decide (i.bytes=h.bytes)&&decide (h.zero.length=h.sz)&&(match i.zero with|some z=>vF h.zero z.cells.toList&&(aHj z == h.k.agg)|none=>false)&&aDI P h.k d
 | _,_=>false
theorem aNq{P:Program}{t:TypeId}{B:TI}(h:aDK P t B=true):B.ok P t:=by
 unfold aDK at h;split at h
 .rename_i i d y S;simp only[dI,dA]at h;obtain⟨⟨⟨⟨G,H⟩,L⟩,m⟩,M⟩:=h;split at m
  .rename_i z hz;simp only[dI,beq_iff_eq]at m;obtain⟨m,O⟩:=m;refine⟨⟨i,z,y,G,H,hz,λg=>(aCx (g:=g) m).1⟩,(aCx (g:=⟨λ_=>none,λ_ _=>none,λ_=>none,default,#[]⟩) m).2,L,⟨d,S,aM6 M⟩,λU Z q u=>?_⟩;rw[y]at q;cases q;rw[hz]at u;cases u;rw[<-O];cases z<;>simp[aHj]
  .cases m
 .cases h
section
variable (C:Cx) (n:Nat) (V:List Nat) (Q:XK->Env->St->Prop) (e:Env) (s:St)
@[go_sem] theorem aPR:eM C n V .skip Q e s=Q .normal e s:=rfl
@[go_sem] theorem aPj(l:Nat):eM C n V (.label l) Q e s=Q .normal e s:=rfl
@[go_sem] theorem aPU(i:Nat):eM C n V (.exit i) Q e s=Q (.exit i) e s:=rfl
@[go_sem] theorem aPT(i:Nat):eM C n V (.goto i) Q e s=Q (.goto i) e s:=rfl
@[go_sem] theorem aQg:eM C n V .ret Q e s=Q .ret e s:=rfl
@[go_sem] theorem aQh(c d:Code):eM C n V (.seq c d) Q e s=eM C n V c (jY (eM C n V d Q) Q) e s:=rfl
@[go_sem] theorem aPg(i:Nat)(c:Code):eM C n V (.block i c) Q e s=eM C n V c (qK i Q) e s:=rfl
def brK(C:Cx)(n:Nat)(V:List Nat)(x y:Code)(Q:XK->Env->St->Prop)(e:Env)(s:St):Option A->Prop
 | some (.bool true)=>eM C n V x Q e s
 | some (.bool false)=>eM C n V y Q e s
 | _=>False
@[go_sem] theorem aPC (c : Operand) (x y : Code) : eM C n V (.cond c x y) Q e s = brK C n V x y Q e s (dP C e c) := by
  show(match dP C e c with
    | some (.bool b)=>match b with
      | true=>eM C n V x Q e s
      | false=>eM C n V y Q e s
    | _=>False)=_
  cases dP C e c with
  | none=>rfl
  | some a=>cases a<;>first|rfl|(rename_i b;cases b<;>rfl)
@[go_sem] theorem aPW(x y:Code):brK C n V x y Q e s (some (.bool true))=eM C n V x Q e s:=rfl
@[go_sem] theorem aPc(x y:Code):brK C n V x y Q e s (some (.bool false))=eM C n V y Q e s:=rfl
@[go_sem] theorem aO6(h:Nat)(ops:Array Oper):eM C n V (.region h ops false) Q e s=fB C n (ops.toList.map (·.dst)) ops.toList (jH V Q) (tT Q (ops.toList.map (·.dst)) e) e s:=rfl
@[go_sem] theorem aPw(h:Nat)(ops:Array Oper):eM C n V (.region h ops true) Q e s=aBa C n h ops (jY (jH V Q) Q) e s:=rfl
@[go_sem] theorem aPV(c:Code):eM C n V (.loop c) Q e s=Ex C n (.loop c) Q e s:=rfl
variable (ds:List (Option Tmp)) (K:Env->St->Prop) (Kp:St->A->Prop)
@[go_sem] theorem aP8:fB C n ds [] K Kp e s=K e s:=rfl
@[go_sem] theorem aPA (dst : Option Tmp) (op : Op) (ty : TypeId) (pos : String) (after : Array Edge) (r : List Oper) :
  fB C n ds (⟨dst,op,ty,pos,after,none⟩::r) K Kp e s=aY C op (dP C e) (bZ n dst (fB C n ds r K Kp) e) Kp s:=rfl
def oN(C:Cx)(n:Nat)(ds:List (Option Tmp))(dst:Option Tmp)(op:Op)(r:List Oper)(K:Env->St->Prop)(Kp:St->A->Prop)(e:Env)(s:St)(t:Nat)(h:Bool):Option A->Prop
 | some (.bool true)=>match h with
  | true=>aY C op (dP C (e.put t (.bool true))) (bZ n dst (fB C n ds r K Kp) (e.put t (.bool true))) Kp s
  | false=>bZ n dst (fB C n ds r K Kp) (e.put t (.bool true)) s (.tuple [])
 | some (.bool false)=>match h with
  | false=>aY C op (dP C (e.put t (.bool false))) (bZ n dst (fB C n ds r K Kp) (e.put t (.bool false))) Kp s
  | true=>bZ n dst (fB C n ds r K Kp) (e.put t (.bool false)) s (.tuple [])
 | some (.tuple _)=>bZ n dst (fB C n ds r K Kp) e s (.tuple [])
 | _=>False
def gdT(C:Cx)(n:Nat)(ds:List (Option Tmp))(dst:Option Tmp)(op:Op)(r:List Oper)(K:Env->St->Prop)(Kp:St->A->Prop)(e:Env)(s:St)(h:Bool):Option Tmp->Prop
 | none=>False
 | some t=>oN C n ds dst op r K Kp e s t h (e.get t)
@[go_sem] theorem aO9 (dst : Option Tmp) (op : Op) (ty : TypeId) (pos : String) (after : Array Edge) (j : Nat) (h : Bool) (r : List Oper) :
    fB C n ds (⟨dst,op,ty,pos,after,some (j,h)⟩::r) K Kp e s=gdT C n ds dst op r K Kp e s h (iV ds j):=by
  simp only[fB];unfold gdT;cases iV ds j with
  | none=>rfl
  | some t =>
    simp only[oN];cases e.get t with
    | none=>rfl
    | some a=>cases a<;>first|rfl|(rename_i b;cases b<;>cases h<;>rfl)
@[go_sem] theorem aPy(dst:Option Tmp)(op:Op)(r:List Oper)(h:Bool)(t:Nat):gdT C n ds dst op r K Kp e s h (some t)=oN C n ds dst op r K Kp e s t h (e.get t):=rfl
@[go_sem] theorem aQC(dst:Option Tmp)(op:Op)(r:List Oper)(t:Nat):oN C n ds dst op r K Kp e s t true (some (.bool true))=aY C op (dP C (e.put t (.bool true))) (bZ n dst (fB C n ds r K Kp) (e.put t (.bool true))) Kp s:=rfl
@[go_sem] theorem aQs(dst:Option Tmp)(op:Op)(r:List Oper)(t:Nat):oN C n ds dst op r K Kp e s t true (some (.bool false))=bZ n dst (fB C n ds r K Kp) (e.put t (.bool false)) s (.tuple []):=rfl
@[go_sem] theorem aQL(dst:Option Tmp)(op:Op)(r:List Oper)(t:Nat):oN C n ds dst op r K Kp e s t false (some (.bool true))=bZ n dst (fB C n ds r K Kp) (e.put t (.bool true)) s (.tuple []):=rfl
@[go_sem] theorem aQw(dst:Option Tmp)(op:Op)(r:List Oper)(t:Nat):oN C n ds dst op r K Kp e s t false (some (.bool false))=aY C op (dP C (e.put t (.bool false))) (bZ n dst (fB C n ds r K Kp) (e.put t (.bool false))) Kp s:=rfl
@[go_sem] theorem aQW (dst : Option Tmp) (op : Op) (r : List Oper) (t : Nat) (h : Bool) (l : List A) : oN C n ds dst op r K Kp e s t h (some (.tuple l)) = bZ n dst (fB C n ds r K Kp) e s (.tuple []) := by
  cases h<;>rfl
@[go_sem] theorem aPq(d:Tmp)(v:A):bZ n (some d) K e s v=(d<n/\K (e.put d v) s):=rfl
@[go_sem] theorem aPF(sz:Nat)(K:A->Prop)(x:A):elK sz K (some x)=(x.cells.length=sz/\K (.eptr x.cells 0)):=rfl
@[go_sem] theorem aPK(K:A->Prop)(c:UInt8):chK K (some c)=K (.int .u8 c.toNat):=rfl
@[go_sem] theorem aPl(v:A):bZ n none K e s v=K e s:=rfl
end
attribute [go_sem] aHa aHo aDE
attribute [go_sem] jH tT aJV aLL aMF aKC aLr aIO aKD aJu aJi aJ5
attribute [go_sem] Env.get Env.put Env.keep iV dP aAR yD vN jE jT mO aY bV aDH vS unA aDl pN kV A.cells A.one wH oL jF mJ vH aA7 qM sF qW oS TK.agg gA yV pU tS qQ aA1 hlA
attribute [go_sem] aK kD jM Int.toNat_natCast Int.ofNat_lt Int.ofNat_le Int.natCast_nonneg Int.natCast_inj rC
@[go_sem] theorem aO8:fE []=true:=rfl
@[go_sem] theorem aO2(a:A)(l:List A):fE (a::l)=(a.one&&fE l):=rfl
attribute [go_sem] Env.has bI A.int.injEq A.str.injEq A.bool.injEq A.list.injEq A.ptr.injEq A.agg.injEq
@[go_sem] theorem aPv(tk:Option Nat)(es:List A):jI (.list tk es)=some (.int .i64 es.length):=rfl
@[go_sem] theorem aPf:jI .nils=some (.int .i64 0):=rfl
@[go_sem] theorem aQc(b o n:Nat):jI (.ml b o n)=some (.int .i64 n):=rfl
@[go_sem] theorem aPO:jI .emp=some (.int .i64 0):=rfl
@[go_sem] theorem aP7(b n c:Nat):jI (.mg b n c)=some (.int .i64 n):=rfl
@[go_sem] theorem aPk(C:Cx)(s:St)(e:TypeId)(h:TI)(ys:List A)(KV:St->A->Prop):oM C s e h ys KV .nils=(ys.length<=4294967296/\lH C s ys.length e h.sz ys KV):=rfl
@[go_sem] theorem aPm(C:Cx)(s:St)(e:TypeId)(h:TI)(KV:St->A->Prop):oM C s e h [] KV .emp=KV s .emp:=rfl
@[go_sem] theorem aPP(C:Cx)(s:St)(e:TypeId)(h:TI)(y:A)(r:List A)(KV:St->A->Prop):oM C s e h (y::r) KV .emp=(((y::r).length<=4294967296/\0<(y::r).length)/\lH C s (y::r).length e h.sz (y::r) KV):=rfl
@[go_sem] theorem aQd(C:Cx)(s:St)(e:TypeId)(h:TI)(ys:List A)(KV:St->A->Prop)(b n cap:Nat):oM C s e h ys KV (.mg b n cap)=qP C.det s b n cap e h.sz ys.length ys KV (s.getO b):=rfl
@[go_sem] theorem aPo (C : Cx) (s : St) (e : TypeId) (h : TI) (ys : List A) (KV : St → A → Prop) (t : Nat) (es : List A) : oM C s e h ys KV (.list (some t) es) =
  (s.getT t=some (es.length,e)/\(∀y,y∈es->y.cells.length=h.sz)/\es.length+ys.length<=4294967296/\KV (s.setT t (es.length+ys.length,e)) (.list (some t) (es++ys))):=rfl
theorem eW(x:Int)(h:-9223372036854775808<=x)(m:x<=9223372036854775807):IntKind.i64.wrap x=x:=IntWalk.i64_in x ⟨h,m⟩
theorem bM(i:Nat)(h:i<9223372036854775807):IntKind.i64.wrap ((i:Int)+1)=((i+1:Nat):Int):=by
 rw[eW _ aB aB];rfl
end
section
section
variable {C:Cx} {s:St} {ρ ρ':Operand->Option A} {K:A->Prop}
theorem zW:∀{l:List Operand},(∀x,x∈l->ρ x=ρ' x)->jE ρ l=jE ρ' l
 | [],_=>rfl
 | x::r,h=>by
  have m:jE ρ r=jE ρ' r:=zW λy q=>h y (lL x q)
  simp only[jE,h x aW,m]
theorem aB5:∀{l:List (Nat × Operand)},(∀x,x∈l.map (·.2)->ρ x=ρ' x)->jT ρ l=jT ρ' l
 | [],_=>rfl
 | (i,x)::r,h=>by
  have m:jT ρ r=jT ρ' r:=aB5 λy q=>h y (by simp only[bN,dD];exact .inr q)
  simp only[jT,h x aW,m]
theorem aFb{o:Option Operand}(h:∀x,o=some x->ρ x=ρ' x):mO ρ o=mO ρ' o:=by
 cases o with
 | none=>rfl
 | some x=>simp only[mO,h x rfl]
theorem rF{op:Op}(h:∀x,x∈op.operands->ρ x=ρ' x):bV C op ρ K=bV C op ρ' K:=by
  cases op
  case build t ps =>
    have:jT ρ ps.toList=jT ρ' ps.toList:=aB5 λx hx=>h x (by simpa [Op.operands]using hx)
    simp only[bV,this]
  case buildSlice t n ps =>
    have:jT ρ ps.toList=jT ρ' ps.toList:=aB5 λx hx=>h x (by simpa [Op.operands]using hx)
    simp only[bV,this]
  case makeFunc fn first caps =>
    have h1:jE ρ first.toList=jE ρ' first.toList:=zW λx hx=>h x (by simp[Op.operands];exact .inl (gQ hx))
    have h2:jE ρ caps.toList=jE ρ' caps.toList:=zW λx hx=>h x (by simp[Op.operands];exact .inr (gQ hx))
    cases fn<;>simp only[bV,h1,h2]
  case call c =>
    obtain⟨cal,args,ats⟩:=c;obtain⟨args⟩:=args;obtain⟨ats⟩:=ats;have h1:∀x,x∈args->ρ x=ρ' x:=λx hx=>h x (by simp[Op.operands,Call.operands,hx])
    simp only[bV];split
    · simp_all
    · simp_all
    · simp_all
    · simp_all
    · simp_all
    · simp_all
    · rfl
  case slice t x lo hi mx =>
    have h1:=h x (by simp[Op.operands]);have h2:mO ρ lo=mO ρ' lo:=aFb λy hy=>h y (by simp[Op.operands,hy])
    have h3:mO ρ hi=mO ρ' hi:=aFb λy hy=>h y (by simp[Op.operands,hy])
    cases mx<;>simp only[bV,h1,h2,h3]
  all_goals first
    | rfl
    | (simp only [Op.operands,List.mem_toArray,Array.mem_def,dD,kQ,eU,forall_eq_or_imp,forall_eq] at h
       simp only[bV,h])
theorem aFw{op:Op}{KV Kp:St->A->Prop}(h:∀x,x∈op.operands->ρ x=ρ' x)(L:aY C op ρ KV Kp s):aY C op ρ' KV Kp s:=by
 have key:aY C op ρ KV Kp s=aY C op ρ' KV Kp s:=by
  cases op
  case load t x =>
   have q:=h x (by simp[Op.operands]);simp only[aY,q,rF (C:=C) (K:=KV s) h]
  case store t x y =>
   simp only[aY,h x (by simp[Op.operands]),h y (by simp[Op.operands])]
  case box t x=>simp only[aY,h x (by simp[Op.operands])]
  case makeMap t r=>cases r<;>rfl
  case lookup t x k b=>simp only[aY,h x (by simp[Op.operands]),h k (by simp[Op.operands])]
  case mapUpdate t x k y=>simp only[aY,h x (by simp[Op.operands]),h k (by simp[Op.operands]),h y (by simp[Op.operands])]
  case panic x=>simp only[aY,h x (by simp[Op.operands])]
  case range t x=>simp only[aY,h x (by simp[Op.operands])]
  case convert a b x =>
   have q:=h x (by simp[Op.operands]);simp only[aY,q,rF (C:=C) (K:=KV s) h]
  case makeSlice t a b=>simp only[aY,h a (by simp[Op.operands]),h b (by simp[Op.operands])]
  case next x b =>
   cases b
   .exact rF (C:=C) (K:=KV s) h
   .simp only[aY,h x (by simp[Op.operands])]
  case alloc=>rfl
  case buildSlice t len H=>simp only[aY,rF (C:=C) (K:=KV s) h,rF (C:=C) (K:=wI C s t KV) h]
  case call c =>
   have B:=rF (C:=C) (K:=KV s) h;obtain⟨G,args,z⟩:=c;obtain⟨args⟩:=args;obtain⟨z⟩:=z;have q:∀x,x∈args->ρ x=ρ' x:=λx M=>h x (by simp[Op.operands,Call.operands,M])
   cases G with
   | value f=>simp only[aY,h f (by simp[Op.operands,Call.operands]),zW q]
   | invoke r m=>exact B
   | builtin b =>
    cases b
    case append =>
     match args,z,q with
     | [x,y],[t,u],q=>simp only[aY,q x aW,q y aW]
     | [],_,q=>rfl
     | [_],_,q=>rfl
     | _::_::_::_,_,q=>rfl
     | [_,_],[],q=>rfl
     | [_,_],[_],q=>rfl
     | [_,_],_::_::_::_,q=>rfl
    case unsafeString =>
     match args,z,q with
     | [x,y],[t,u],q=>simp only[aY,q x aW,q y aW]
     | [],_,q=>rfl
     | [_],_,q=>rfl
     | _::_::_::_,_,q=>rfl
     | [_,_],[],q=>rfl
     | [_,_],[_],q=>rfl
     | [_,_],_::_::_::_,q=>rfl
    case panic =>
     match args,q with
     | [],q=>rfl
     | [x],q=>simp only[aY,q x aW]
     | _::_::_,q=>rfl
    all_goals exact B
  case binOp op t x y O =>
   have B:=rF (C:=C) (K:=KV s) h;cases op
   case eql=>simp only[aY,B,h x (by simp[Op.operands]),h y (by simp[Op.operands])]
   all_goals exact B
  all_goals exact rF (C:=C) (K:=KV s) h
 rw[<-key];exact L
theorem aGT{op:Op}(h:bV C op ρ K):∃v,K v/\∀K':A->Prop,K' v->bV C op ρ K':=by
  have one:∀{o:Option A} {K:A->Prop},(match o with|some v=>K v|none=>False)->∃v,K v/\o=some v:=by
    intro o K h;cases o with
    | none=>exact h.elim
    | some v=>exact⟨v,h,rfl⟩
  have cut:∀{x:A} {lo hi:Option A} {K:A->Prop},sF x lo hi K->∃v,K v/\∀K':A->Prop,K' v->sF x lo hi K':=by
    intro x lo hi K h;unfold sF at h⊢;cases x<;>simp only at h⊢
    all_goals first
      | exact h.elim
      | (split at h
         · rename_i h1 h2
           exact⟨_,h.2,λK' hk=>⟨h.1,hk⟩⟩
         · exact h.elim)
  cases op<;>simp only[bV]at h⊢
  case move x=>obtain⟨v,h1,h2⟩:=one h;exact⟨v,h1,λK' hk=>by simpa only[h2]using hk⟩
  case assign x=>obtain⟨v,h1,h2⟩:=one h;exact⟨v,h1,λK' hk=>by simpa only[h2]using hk⟩
  case call c =>
    split at h<;>(try exact h.elim)
    · split at h<;>(try exact h.elim)
      split at h<;>(try exact h.elim)
      all_goals (obtain⟨v,h1,h2⟩:=one h;exact⟨v,h1,λK' hk=>by simpa only[h2]using hk⟩)
    · split at h<;>(try exact h.elim)
      all_goals exact⟨_,h,λK' hk=>hk⟩
    · split at h<;>(try exact h.elim)
      split at h<;>(try exact h.elim)
      rename_i e hk0;exact⟨_,h,λK' hk=>hk⟩
    · split at h<;>(try exact h.elim)
      all_goals exact⟨_,h,λK' hk=>hk⟩
    · split at h<;>(try exact h.elim)
      all_goals exact⟨_,h,λK' hk=>hk⟩
    · split at h<;>(try exact h.elim)
      all_goals exact⟨_,h,λK' hk=>hk⟩
  case makeFunc fn first caps =>
    cases fn
    all_goals simp only at h⊢
    · split at h
      · exact⟨_,h,λK' hk=>by simp_all only[]⟩
      · exact h.elim
    all_goals exact h.elim
  all_goals
    repeat' split at h
  all_goals first
    | exact h.elim
    | (obtain⟨v,h1,h2⟩:=one h;exact⟨v,h1,λK' hk=>by simp_all only[rK,gT,reduceIte,reduceCtorEq,cQ,fV,iG]⟩)
    | exact⟨_,h,λK' hk=>by simp_all only[rK,gT,reduceIte,reduceCtorEq,cQ,fV,iG]⟩
    | exact⟨_,h.2,λK' hk=>by simp_all only[rK,gT,reduceIte,reduceCtorEq,cQ,fV,iG]⟩
    | exact⟨_,h.2.2,λK' hk=>⟨h.1,h.2.1,hk⟩⟩
    | exact cut h
    | (obtain⟨v,h1,h2⟩:=cut h.2;exact⟨v,h1,λK' hk=>⟨h.1,h2 K' hk⟩⟩)
    | (obtain ⟨hx,hy⟩ := h
       rw[aV hx.2]at hy⊢;exact⟨_,hy.2,λK' hk=>⟨hx,hy.1,hk⟩⟩)
    | (obtain ⟨hx,hy⟩ := h
       rw[aV hx.2]at hy⊢;exact⟨_,hy,λK' hk=>⟨hx,hk⟩⟩)
theorem kU{K':A->Prop}{op:Op}(h:bV C op ρ K)(u:∀v,K v->K' v):bV C op ρ K':=by
 obtain⟨v,m,q⟩:=aGT h;exact q K' (u v m)
theorem yC{op:Op}{KV Kp:St->A->Prop}(h:bV C op ρ (KV s)):aY C op ρ KV Kp s:=by
 cases op
 case load t x =>
  have q:=h;simp only[bV]at q;split at q
  .rename_i u;simp only[aY,u];exact h
  .exact q.elim
 case store=>simp only[bV]at h
 case buildSlice t len B =>
  simp only[aY];split
  .exact h
  .exact .inl h
 case alloc=>simp only[bV]at h
 case box=>simp only[bV]at h
 case panic=>simp only[bV]at h
 case range=>simp only[bV]at h
 case makeSlice=>simp only[bV]at h
 case convert a b x =>
  have q:=h;simp only[bV]at q;split at q
  .rename_i u _ _;simp only[aY,u];exact h
  .rename_i u _ _;simp only[aY,u];exact h
  .exact q.elim
 case next x b=>cases b<;>simp only[bV]at h
 case call c =>
  obtain⟨z,args,G⟩:=c;cases z with
  | value f=>simp only[bV]at h
  | invoke r m=>simp only[bV]at h
  | builtin b=>cases b<;>first|exact h|(simp only[bV]at h)
 case binOp op t x y H =>
  cases op
  case eql =>
   simp only[aY];split
   .exact .inl h
   .exact h
  all_goals exact h
 case makeMap=>simp only[bV]at h
 case lookup=>simp only[bV]at h
 case mapUpdate=>simp only[bV]at h
 all_goals exact h
theorem xJ{o:Ob}{f:Nat->A}{KV m:St->A->Prop}(h:oK C s o f KV)(q:∀s a,KV s a->m s a):oK C s o f m:=by
 unfold oK at *;cases y:C.det<;>rw[y]at h
 ·exactλb u=>q _ _ (h b u)
 .exact q _ _ h
theorem aCq{n:Nat}{e:TypeId}{ys:List A}{KV m:St->A->Prop}(h:newT C s n e ys KV)(q:∀s a,KV s a->m s a):newT C s n e ys m:=by
 unfold newT at *;cases y:C.det<;>rw[y]at h
 ·exactλb u=>q _ _ (h b u)
 .exact q _ _ h
theorem aFC{n:Nat}{e:TypeId}{sz:Nat}{ys:List A}{KV m:St->A->Prop}(h:lH C s n e sz ys KV)(q:∀s a,KV s a->m s a):lH C s n e sz ys m:=by
 unfold lH at *;cases y:C.det<;>rw[y]at h
 .cases z:Nat.beq C.mu 1<;>rw[z]at h
  .exact aCq h q
  .exact⟨h.1,λb cap J u a2 a3 a4=>q _ _ (h.2 b cap J u a2 a3 a4)⟩
 .exact aCq h q
theorem aKG{det:Bool}{b n cap:Nat}{e:TypeId}{sz m:Nat}{ys:List A}{o:Option Ob}{KV q:St->A->Prop}(h:qP det s b n cap e sz m ys KV o)(B:∀s a,KV s a->q s a) :
  qP det s b n cap e sz m ys q o:=by
 unfold qP at *;split at h
 .exact⟨h.1,λz u J y a2 a3 a4=>B _ _ (h.2 z u J y a2 a3 a4)⟩
 .exact h.elim
theorem aLW{n:Nat}{e:TypeId}{KV m:St->A->Prop}(h:wG C s n e KV)(q:∀s a,KV s a->m s a):wG C s n e m:=by
 unfold wG at *;cases y:C.det<;>rw[y]at h
 ·exactλb u=>q _ _ (h b u)
 .exact q _ _ h
theorem aKX{e:TypeId}{bs:List UInt8}{a:A}{KV m:St->A->Prop}(h:wF C s e bs KV a)(q:∀s a,KV s a->m s a):wF C s e bs m a:=by
 cases a<;>simp only[wF]at h⊢
 case nils=>exact⟨h.1,aCq h.2 q⟩
 case list tk es =>
  cases tk with
  | none=>exact h
  | some t=>exact⟨h.1,q _ _ h.2⟩
theorem aLu{q:TI}{u:TypeId}{n:Int}{a:A}{KV m:St->A->Prop}(h:pQ C s q u n KV a)(y:∀s a,KV s a->m s a):pQ C s q u n m a:=by
 cases a<;>simp only[pQ]at h⊢
 split at h
 .split at h
  .split at h
   .exact⟨h.1,aLW h.2 y⟩
   .exact h.elim
  .exact h.elim
 .exact h.elim
theorem aFN{z:TI}{t u:TypeId}{a:A}{KV q:St->A->Prop}(h:uA C s z t u KV a)(y:∀s a,KV s a->q s a):uA C s z t u q a:=by
 unfold uA at h⊢;split at h
 .split at h
  .refine⟨h.1,?_⟩;have m:=h.2;split at m
   .exact y _ _ m
   .exact y _ _ m
   .exact y _ _ m
   .exact y _ _ m
   .exact m.elim
  .exact h.elim
 .exact h.elim
theorem aFR{n sz:Nat}{e:TypeId}{ys:List A}{KV m:St->A->Prop}(h:qQ C s n e ys sz KV)(q:∀s a,KV s a->m s a):qQ C s n e ys sz m:=by
 unfold qQ at *;cases y:C.det<;>rw[y]at h
 ·exactλb u=>q _ _ (h b u)
 .exact q _ _ h
theorem aLH{B:TI}{t u:TypeId}{z a:A}{KV q:St->A->Prop}(h:tS C s B t u z KV a)(y:∀s a,KV s a->q s a):tS C s B t u z q a:=by
 unfold tS at h⊢;split at h
 .split at h
  .refine⟨h.1,?_⟩;have m:=h.2;split at m
   .exact aFR m y
   .split at m
    .exact⟨m.1,aFR m.2 y⟩
    .exact m.elim
   .exact m.elim
  .exact h.elim
 .exact h.elim
theorem aMh{k n z:Nat}{q:TI}{v:A}{KV m:St->A->Prop}(h:pU C s k n z q v KV)(u:∀s a,KV s a->m s a):pU C s k n z q v m:=by
 unfold pU at h⊢;split at h
 .split at h
  .exact⟨h.1,u _ _ h.2⟩
  .exact h.elim
 .exact h.elim
theorem aK7{t:TypeId}{ok:Bool}{b:Nat}{a:A}{KV m:St->A->Prop}(h:tZ C s t ok b a KV)(q:∀s a,KV s a->m s a):tZ C s t ok b a m:=by
 unfold tZ at h⊢;split at h
 .exact q _ _ h
 .exact h.elim
theorem aLy{t:TypeId}{b:Nat}{a v:A}{KV m:St->A->Prop}(h:wJ C s t b a v KV)(q:∀s a,KV s a->m s a):wJ C s t b a v m:=by
 unfold wJ at h⊢;split at h
 .split at h
  .split at h
   .exact⟨h.1,q _ _ h.2⟩
   .exact h.elim
  .exact h.elim
 .exact h.elim
theorem aAx{op:Op}{KV Kp G H:St->A->Prop}(h:aY C op ρ KV Kp s)(q:∀s a,KV s a->G s a)(O:∀s a,Kp s a->H s a):aY C op ρ G H s:=by
 cases op
 case load t x =>
  simp only[aY]at h⊢;split at h
  .split at h
   .split at h
    .exact q _ _ h
    .exact h.elim
   .exact h.elim
  .exact kU h (q s)
 case store t x y =>
  simp only[aY]at h⊢;split at h
  .split at h
   .exact⟨h.1,q _ _ h.2⟩
   .exact h.elim
  .exact aMh h q
  .exact h.elim
 case alloc t =>
  simp only[aY]at h⊢;split at h
  .exact xJ h q
  .exact h.elim
 case box t x =>
  simp only[aY]at h⊢;split at h
  .exact⟨h.1,xJ h.2 q⟩
  .exact h.elim
 case panic x =>
  simp only[aY]at h⊢;split at h
  .exact O _ _ h
  .exact h.elim
 case buildSlice t len U =>
  simp only[aY]at h⊢;split at h
  .exact kU h (q s)
  .rcases h with h|h
   .exact .inl (kU h (q s))
   .refine .inr (kU h λa B=>?_);unfold wI at B⊢;split at B
    .split at B
     ·exactλk hk=>q _ _ (B k hk)
     .exact B.elim
    .exact B.elim
 case convert a b x =>
  simp only[aY]at h⊢;split at h
  .split at h
   .split at h
    .exact⟨h.1,q _ _ h.2⟩
    .exact h.elim
   .exact h.elim
  .exact kU h (q s)
 case makeMap t r =>
  cases r with
  | some r=>simp only[aY,bV]at h
  | none =>
   simp only[aY,aBe]at h⊢;split at h
   .split at h
    .exact xJ h q
    .exact h.elim
   .exact h.elim
 case lookup t x k b =>
  simp only[aY]at h⊢;split at h
  .exact aK7 h q
  .exact h.elim
 case mapUpdate t x k y =>
  simp only[aY]at h⊢;split at h
  .exact aLy h q
  .exact h.elim
 case makeSlice t a b =>
  simp only[aY]at h⊢;split at h
  .split at h
   .split at h
    .exact⟨h.1,xJ h.2 q⟩
    .exact h.elim
   .exact h.elim
  .exact h.elim
 case range t x =>
  simp only[aY]at h⊢;split at h
  .split at h
   .exact xJ h q
   .exact h.elim
  .exact h.elim
 case next x b =>
  cases b
  .simp only[aY,bV]at h
  simp only[aY]at h⊢;split at h
  .split at h
   .unfold aA6 at h⊢;split at h
    .rename_i S;rw[aE S];exact q _ _ h
    .rename_i S;rw[aD S];exact q _ _ h
   .exact h.elim
  .exact h.elim
 case call c =>
  obtain⟨M,args,z⟩:=c;obtain⟨args⟩:=args;obtain⟨z⟩:=z;cases M with
  | value f =>
   simp only[aY]at h⊢;split at h
   .exact Den.mono h q O
   .exact h.elim
  | invoke r m=>refine yC (kU (K:=KV s) ?_ (q s));exact h
  | builtin b =>
   cases b
   case append =>
    match args,z,h with
    | [x,y],[t,u],h =>
     simp only[aY]at h⊢;split at h
     .split at h
      .split at h
       .obtain⟨L,a2,a3⟩:=h;refine⟨L,a2,?_⟩;unfold oM at a3⊢;split at a3
        .exact⟨a3.1,aFC a3.2 q⟩
        .split at a3
         .exact q _ _ a3
         .exact⟨a3.1,aFC a3.2 q⟩
        .exact aKG a3 q
        .exact⟨a3.1,a3.2.1,a3.2.2.1,q _ _ a3.2.2.2⟩
        .exact a3.elim
       .exact h.elim
      .exact h.elim
     .split at h
      .exact aKX h q
      .exact h.elim
     .exact aLu h q
     .exact aFN h q
     .exact aFN h q
     .exact aLH h q
     .exact h.elim
    | [],_,h=>simp only[aY]at h
    | [_],_,h=>simp only[aY]at h
    | _::_::_::_,_,h=>simp only[aY]at h
    | [_,_],[],h=>simp only[aY]at h
    | [_,_],[_],h=>simp only[aY]at h
    | [_,_],_::_::_::_,h=>simp only[aY]at h
   case unsafeString =>
    match args,z,h with
    | [x,y],[t,u],h =>
     simp only[aY]at h⊢;split at h
     .exact⟨h.1,q _ _ h.2⟩
     .split at h
      .obtain⟨L,bs,a2,a3⟩:=h;exact⟨L,bs,a2,q _ _ a3⟩
      .exact h.elim
     .exact h.elim
    | [],_,h=>simp only[aY]at h
    | [_],_,h=>simp only[aY]at h
    | _::_::_::_,_,h=>simp only[aY]at h
    | [_,_],[],h=>simp only[aY]at h
    | [_,_],[_],h=>simp only[aY]at h
    | [_,_],_::_::_::_,h=>simp only[aY]at h
   case panic =>
    match args,h with
    | [],h=>simp only[aY]at h
    | [x],h =>
     simp only[aY]at h⊢;split at h
     .exact O _ _ h
     .exact h.elim
    | _::_::_,h=>simp only[aY]at h
   all_goals (refine yC (kU (K:=KV s) ?_ (q s));exact h)
 case binOp op t x y yt =>
  cases op
  case eql =>
   simp only[aY]at h⊢;split at h
   .rcases h with h|⟨hn,ht,Z⟩
    .exact .inl (kU h (q s))
    .exact .inr ⟨hn,q _ _ ht,q _ _ Z⟩
   .exact kU h (q s)
  all_goals (refine yC (kU (K:=KV s) ?_ (q s));exact h)
 all_goals (refine yC (kU (K:=KV s) ?_ (q s));exact h)
end
end
section
def gL:Op->Bool
 | .store ..=>true
 | .alloc _=>true
 | .box ..=>true
 | .panic _=>true
 | .range ..=>true
 | .makeSlice ..=>true
 | .next ..=>true
 | .makeMap ..=>true
 | .mapUpdate ..=>true
 | .buildSlice _ len _=>Nat.beq len 2
 | .call c=>match c.callee with
  | .builtin .len=>false
  | .builtin .max=>false
  | .builtin .min=>false
  | _=>true
 | _=>false
def gM(C:Cx)(ds:List (Option Tmp))(o:Oper)(KV Kp:St->A->Prop)(e:Env)(s:St):Prop :=
  match o.guard with
  | none=>aY C o.op (dP C e) KV Kp s
  | some (j,h)=>∃t,iV ds j=some t /\
      ((∃ b,e.get t = some (.bool b) ∧ ((b = h ∧ aY C o.op (dP C e) KV Kp s) ∨ (b ≠ h ∧ KV s (.tuple [])))) ∨
       (∃l,e.get t=some (.tuple l)/\KV s (.tuple [])))
inductive Bef (ops:Array Oper):Nat->Nat->Prop
 | edge {j:Nat} {o:Oper} {e:Edge} (ho:ops[j]?=some o) (he:e∈o.after) (hb:Region.binds .any e=true):Bef ops e.on j
 | step {m j:Nat} {o:Oper} {e:Edge} (ho:ops[j]?=some o) (he:e∈o.after) (hb:Region.binds .any e=true) (h:Bef ops m e.on):Bef ops m j
def DC(ops:Array Oper)(l:Array Bool):Prop :=
 ∀j o,ops[j]?=some o->l.getD j false=true->∀e,e∈o.after->Region.binds .any e=true->l.getD e.on false=true
def Dead(ops:Array Oper)(m:Nat)(l:Array Bool):Prop :=
 ∃j o,ops[j]?=some o/\gL o.op=true/\l.getD j false=true/\Bef ops m j
def chk(ops:Array Oper)(W:List (Nat × (St->Prop)))(l:Array Bool)(s:St):Prop:=∀w,w∈W->¬ Dead ops w.1 l->w.2 s
def nY(o:Oper)(m:Nat):Bool:=o.after.toList.any λe=>Region.binds .any e&&Nat.beq e.on m
def late(ops:Array Oper)(i:Nat):Bool:=match ops[i]? with
 | some o=>match o.op,o.dst,o.guard with
  | .alloc _,some d,none=>(o.after.toList.all λe=>!Region.binds .any e) &&
    (List.range ops.size).all fun j => match ops[j]? with
     | some h=>(Nat.beq j i||!(h.dst == some d))&&(Nat.beq j i||!(h.looksAt ops).elem d||nY h i)&&(!nY h i||(List.range ops.size).all λm=>Nat.beq m j||nY h m)
     | none=>true
  | _,_,_=>false
 | none=>false
def lC(ops:Array Oper)(l:Array Bool):List Nat :=
 if(Region.ready .any ops l).all (late ops) then Region.ready .any ops l else(Region.ready .any ops l).filter λi=>!late ops i
theorem uP{ops:Array Oper}{l:Array Bool}{i:Nat}(h:i∈lC ops l):i∈Region.ready .any ops l:=by
 unfold lC at h;split at h
 .exact h
 .exact(List.mem_filter.1 h).1
theorem aAf{ops:Array Oper}{l:Array Bool}{i:Nat}(h:i∈Region.ready .any ops l)(m:late ops i=false):i∈lC ops l:=by
 unfold lC;split
 .exact h
 .exact List.mem_filter.2 ⟨h,by simp[m]⟩
theorem aEX{ops:Array Oper}{l:Array Bool}{i j:Nat}(h:j∈lC ops l)(q:i∈Region.ready .any ops l)(hl:late ops i=false):late ops j=false:=by
 unfold lC at h;split at h
 .rename_i m;rw[fR]at m;have:=m i q;rw[hl]at this;cases this
 .have:=(List.mem_filter.1 h).2;simpa using this
theorem aKP{ops:Array Oper}{i:Nat}{o:Oper}(ho:ops[i]?=some o)(h:late ops i=true):gL o.op=true:=by
 unfold late at h;rw[ho]at h;simp only at h;split at h
 .rename_i m _ _;rw[m];rfl
 .cases h
def eN(C:Cx)(n:Nat)(ops:Array Oper)(K:Env->St->Prop)(Kp:St->A->Prop)(W:List (Nat × (St->Prop))):Nat->Array Bool->Env->St->Prop
 | 0,l,e,s=>chk ops W l s/\Region.ready .any ops l=[]/\K e s
 | f+1,l,e,s=>chk ops W l s/\(Region.ready .any ops l=[]->K e s)/\∀i,i∈lC ops l->∀o,ops[i]?=some o ->
   gM C (ops.toList.map (·.dst)) o (bZ n o.dst (eN C n ops K Kp W f (l.setIfInBounds i true)) e) Kp e s
section
variable {C:Cx} {n:Nat} {ops:Array Oper} {K:Env->St->Prop} {Kp:St->A->Prop} {W:List (Nat × (St->Prop))} {s:St}
theorem aGY{f:Nat}{l:Array Bool}{e:Env}(h:eN C n ops K Kp W f l e s):chk ops W l s:=by
 cases f with
 | zero=>exact h.1
 | succ f=>exact h.1
theorem uN{ds:List (Option Tmp)}{o:Oper}{KV m:St->A->Prop}{e:Env}(h:gM C ds o KV Kp e s)(q:∀s v,KV s v->m s v):gM C ds o m Kp e s:=by
 unfold gM at *;split
 .rename_i u;simp only[u]at h;exact aAx h q λ_ _ h=>h
 .rename_i j z u;simp only[u]at h;obtain⟨t,B,h⟩:=h;refine⟨t,B,?_⟩;rcases h with⟨b,y,h|h⟩|⟨l,hl,h⟩
  .exact .inl ⟨b,y,.inl ⟨h.1,aAx h.2 q λ_ _ h=>h⟩⟩
  .exact .inl ⟨b,y,.inr ⟨h.1,q _ _ h.2⟩⟩
  .exact .inr ⟨l,hl,q _ _ h⟩
theorem aLZ{o:Oper}{e e':Env}(h:∀t,t∈o.looksAt ops->e.get t=e'.get t)(x:Operand)(m:x∈o.op.operands):dP C e x=dP C e' x:=by
 cases x with
 | tmp t =>
  have:=h t (List.mem_append_left _ (List.mem_filterMap.2 ⟨.tmp t,gQ m,rfl⟩));simpa [dP]using this
 | _=>rfl
theorem zV{o:Oper}{KV:St->A->Prop}{e e':Env}(B:∀t,t∈o.looksAt ops->e.get t=e'.get t)
  (h:gM C (ops.toList.map (·.dst)) o KV Kp e s):gM C (ops.toList.map (·.dst)) o KV Kp e' s:=by
 have m:=aLZ (C:=C) B;unfold gM at *;split
 .rename_i q;simp only[q]at h;exact aFw m h
 .rename_i j G q;simp only[q]at h;obtain⟨t,u,h⟩:=h
  have y:e.get t=e'.get t:=B t (by
   rw[aCQ]at u;simp[Oper.looksAt,q,u])
  refine⟨t,u,?_⟩;rw[<-y];rcases h with⟨b,z,h|h⟩|⟨l,hl,h⟩
  .exact .inl ⟨b,z,.inl ⟨h.1,aFw m h.2⟩⟩
  .exact .inl ⟨b,z,.inr h⟩
  .exact .inr ⟨l,hl,h⟩
theorem tE(u:∀e e' s,(∀t,e.get t=e'.get t)->K e s->K e' s):∀(f:Nat) (l:Array Bool) (e e':Env) (s:St),(∀t,e.get t=e'.get t) ->
  eN C n ops K Kp W f l e s->eN C n ops K Kp W f l e' s
 | 0,l,e,e',s,m,h=>⟨h.1,h.2.1,u _ _ _ m h.2.2⟩
 | f+1,l,e,e',s,m,h=>by
  refine⟨h.1,λB=>u _ _ _ m (h.2.1 B),λi z o ho=>?_⟩;refine uN (zV (λt _=>m t) (h.2.2 i z o ho)) λs' v q=>?_
  unfold bZ at *;cases y:o.dst with
  | none=>rw[y]at q;exact tE u f _ e e' s' m q
  | some d =>
   rw[y]at q;refine⟨q.1,tE u f _ _ _ s' (λt=>?_) q.2⟩;rw[jP,jP];split<;>simp[m]
theorem rL{l:Array Bool}{i:Nat}(h:l.getD i true=false):i<l.size/\l.getD i false=false:=by
 rcases aEv i l.size with m|m
 .exact⟨m,by simp[m]at h⊢;exact h⟩
 .simp[Array.getElem?_eq_none m]at h
theorem Bef.listed{l:Array Bool}(q:DC ops l){m j:Nat}(h:Bef ops m j):l.getD j false=true->l.getD m false=true:=by
 induction h with
 | edge ho y u=>intro z;exact q _ _ ho z _ y u
 | step ho y u _ B=>intro z;exact B (q _ _ ho z _ y u)
theorem Bef.ready{l:Array Bool}(z:DC ops l){m j:Nat}(h:Bef ops m j)(G:j∈Region.ready .any ops l):l.getD m false=true:=by
 obtain⟨_,H,u,q⟩:=mem_ready.1 G;cases h with
 | edge ho B y=>rw[u]at ho;cases ho;exact q _ B y
 | step ho B y h=>rw[u]at ho;cases ho;exact h.listed z (q _ B y)
theorem DC.set{l:Array Bool}(q:DC ops l){j:Nat}(G:j∈Region.ready .any ops l):DC ops (l.setIfInBounds j true):=by
 intro k o ho B e z y;obtain⟨H,L,u,h⟩:=mem_ready.1 G;refine getD_set_true ?_;by_cases m:j=k
 .subst m;rw[u]at ho;cases ho;exact h e z y
 .rw[getD_set_ne false m]at B;exact q k o ho B e z y
theorem aMn{i:Nat}{B:Oper}(hi:ops[i]?=some B)(b4:gL B.op=false)(hK:∀e e' s,(∀t,e.get t=e'.get t)->K e s->K e' s)
  (v:A)(p:St->Prop):∀(f:Nat) (l:Array Bool) (e:Env) (s:St),DC ops l ->
  (∀j oj,ops[j]?=some oj->j≠i->l.getD j true=false->(∀e∈oj.after,Region.binds .any e=true->e.on≠i)->B.apart ops oj=true) ->
  i∈Region.ready .any ops l->(∀s' KV,p s'->KV s' v->gM C (ops.toList.map (·.dst)) B KV Kp e s')->p s->chk ops W l s ->
  bZ n B.dst (eN C n ops K Kp ((i,p)::W) f (l.setIfInBounds i true)) e s v->eN C n ops K Kp W (f+1) l e s:=by
 have bg:late ops i=false:=by
  cases hl:late ops i with
  | false=>rfl
  | true=>have:=aKP hi hl;rw[b4]at this;cases this
 have drop:∀(f:Nat) (l:Array Bool) (e:Env) (s:St),eN C n ops K Kp ((i,p)::W) f l e s->eN C n ops K Kp W f l e s:=by
  intro f
  induction f with
  | zero=>intro l e s h;exact⟨λw hw=>h.1 w (lL _ hw),h.2⟩
  | succ f ih =>
   intro l e s h;refine⟨λw hw=>h.1 w (lL _ hw),h.2.1,λj hj o ho=>uN (h.2.2 j hj o ho) λs' v hv=>?_⟩;unfold bZ at *;cases q:o.dst with
   | none=>rw[q]at hv;exact ih _ _ _ hv
   | some d=>rw[q]at hv;exact⟨hv.1,ih _ _ _ hv.2⟩
 have b2:∀(l:Array Bool) (m:Nat),Dead ops m (l.setIfInBounds i true)->Dead ops m l:=by
  rintro l m ⟨j,o,ho,he,hl,hb⟩;refine⟨j,o,ho,he,?_,hb⟩;by_cases bd:i=j
  .subst bd;rw[hi]at ho;cases ho;rw[b4]at he;cases he
  ·rwa[getD_set_ne false bd]at hl
 have b8:∀(f:Nat) (l:Array Bool) (e:Env) (s:St),(∀s' KV,p s'->KV s' v->gM C (ops.toList.map (·.dst)) B KV Kp e s')->p s ->
   bZ n B.dst (eN C n ops K Kp ((i,p)::W) f (l.setIfInBounds i true)) e s v ->
   ∀o,ops[i]?=some o->gM C (ops.toList.map (·.dst)) o (bZ n o.dst (eN C n ops K Kp W f (l.setIfInBounds i true)) e) Kp e s:=by
  intro f l e s hy hp H o ho;rw[hi]at ho;cases ho;refine hy s _ hp ?_;unfold bZ at *;cases q:B.dst with
  | none=>rw[q]at H;exact drop _ _ _ _ H
  | some d=>rw[q]at H;exact⟨H.1,drop _ _ _ _ H.2⟩
 intro f
 induction f with
 | zero =>
  intro l e s b0 _ hr hy hp hc H;refine⟨hc,λh=>(by rw[h]at hr;cases hr),λj U o ho=>?_⟩;have hj:=uP U;have bb:=aEX U hr bg;by_cases z:j=i
  .subst z;exact b8 0 l e s hy hp H o ho
  .have bf:=ready_mono hj z
   have bh:Region.ready .any ops (l.setIfInBounds i true)=[]:=by
    unfold bZ at H;cases q:B.dst with
    | none=>rw[q]at H;exact H.2.1
    | some d=>rw[q]at H;exact H.2.2.1
   rw[bh]at bf;cases bf
 | succ f ih =>
  intro l e s b0 O hr hy hp hc H;refine⟨hc,λh=>(by rw[h]at hr;cases hr),λj U oj Z=>?_⟩;have hj:=uP U;have bb:=aEX U hr bg;by_cases z:j=i
  .subst z;exact b8 _ l e s hy hp H oj Z
  .obtain⟨b6,bt,b7,bc⟩:=mem_ready.1 hj;rw[Z]at b7;cases b7;have b9:=rL (mem_ready.1 hr).1
   have bj:∀e∈oj.after,Region.binds .any e=true->e.on≠i:=λe he hb heq=>by
    have L:=bc e he hb;rw[heq,b9.2]at L;cases L
   have bm:=O j oj Z z b6 bj;obtain⟨a1,a2,a3⟩:=Oper.apart_spec bm
   have b1:∀k ok,ops[k]?=some ok->k≠i->(l.setIfInBounds j true).getD k true=false ->
     (∀e∈ok.after,Region.binds .any e=true->e.on≠i)->B.apart ops ok=true:=λk ok hk bp bk br=>by
    refine O k ok hk bp ?_ br;by_cases S:j=k
    .subst S;exact b6
    .rw[getD_set_ne true S]at bk;exact bk
   have b5:¬ i=j:=λh=>z h.symm
   have bl:¬ Dead ops i ((l.setIfInBounds j true).setIfInBounds i true):=by
    intro q;obtain⟨k,o,ho,he,hl,hb⟩:=b2 _ _ q;by_cases S:j=k
    .subst S;have:=hb.ready b0 hj;rw[b9.2]at this;cases this
    .rw[getD_set_ne false S]at hl;have:=hb.listed b0 hl;rw[b9.2]at this;cases this
   have M:(l.setIfInBounds i true).setIfInBounds j true=(l.setIfInBounds j true).setIfInBounds i true:=Array.setIfInBounds_comm _ _ b5
   have after:∀(e':Env) (s':St),(∀t,t∈B.looksAt ops->e.get t=e'.get t) ->
     bZ n B.dst (eN C n ops K Kp ((i,p)::W) f ((l.setIfInBounds j true).setIfInBounds i true)) e' s' v ->
     eN C n ops K Kp W (f+1) (l.setIfInBounds j true) e' s':=by
    intro e' s' bn H'
    have b3:chk ops ((i,p)::W) ((l.setIfInBounds j true).setIfInBounds i true) s':=by
     unfold bZ at H';cases q:B.dst with
     | none=>rw[q]at H';exact aGY H'
     | some d=>rw[q]at H';exact aGY H'.2
    refine ih (l.setIfInBounds j true) e' s' (b0.set hj) b1 (ready_mono hr b5) (λs2 KV L h2=>zV bn (hy s2 KV L h2)) ?_ ?_ H'
    .exact b3 _ (dZ ..) bl
    ·exactλw hw hl=>b3 w (lL _ hw) λq=>hl (b2 _ _ q)
   unfold bZ at H;cases q:B.dst with
   | none =>
    rw[q]at H;have L:=H.2.2 j (aAf (ready_mono hj z) bb) oj Z;refine uN L λs' u G=>?_
    rw[M]at G;unfold bZ at *;cases y:oj.dst with
    | none=>rw[y]at G;exact after e s' (λ_ _=>rfl) (by rw[q];exact G)
    | some dj =>
     rw[y]at G;refine⟨G.1,after (e.put dj u) s' (λt ht=>?_) (by rw[q];exact G.2)⟩;rw[jP,aD (λh:dj=t=>a3 dj y (by rw[h];exact ht))]
   | some d =>
    rw[q]at H;have L:=H.2.2.2 j (aAf (ready_mono hj z) bb) oj Z;have h2:=zV (e':=e) (λt ht=>by rw[jP,aD (λh:d=t=>a1 d q (by rw[h];exact ht))]) L;refine uN h2 λs' u G=>?_
    rw[M]at G;unfold bZ at *;cases y:oj.dst with
    | none=>rw[y]at G;exact after e s' (λ_ _=>rfl) (by rw[q];exact⟨H.1,G⟩)
    | some dj =>
     rw[y]at G
     refine⟨G.1,after (e.put dj u) s' (λt ht=>?_) (by
      rw[q];refine⟨H.1,tE hK _ _ _ _ _ (λt=>?_) G.2⟩;have bq:¬ d=dj:=λh:d=dj=>a2 d q (by rw[h];exact y)
      simp only[jP];by_cases L:dj=t
      .subst L;simp[bq]
      .simp[L])⟩
     rw[jP,aD (λh:dj=t=>a3 dj y (by rw[h];exact ht))]
end
end
section
section
variable {C:Cx} {F:Fr} {g g0:Gh} {s:St} {w:World} {n:Nat} {ops:Array Oper} {K:Env->St->Prop} {Kp:St->A->Prop} {W:List (Nat × (St->Prop))}
theorem uL{o:Oper}{m:Nat}:nY o m=true↔∃e,e∈o.after/\Region.binds .any e=true/\e.on=m:=by
 simp only[nY,List.any_eq_true,dI,Array.mem_toList_iff];constructor
 .rintro⟨e,h,q,u⟩;exact⟨e,h,q,nN u⟩
 .rintro⟨e,h,q,rfl⟩;exact⟨e,h,q,Nat.beq_refl _⟩
theorem sT{i:Nat}(h:late ops i=true):∃d t ty pos after,ops[i]?=some ⟨some d,.alloc t,ty,pos,after,none⟩/\(∀e,e∈after->Region.binds .any e=false) /\
  ∀j u,ops[j]?=some u->j≠i->u.dst≠some d/\(d∈u.looksAt ops->nY u i=true)/\(nY u i=true->∀m,m<ops.size->m≠j->nY u m=true):=by
 unfold late at h;cases ho:ops[i]? with
 | none=>rw[ho]at h;cases h
 | some o =>
  rw[ho]at h;obtain⟨dst,op,ty,pos,after,gd⟩:=o;simp only at h;split at h
  .rename_i _ _ _ t d;simp only[dI,fR,qA,Array.mem_toList_iff,kO]at h;refine⟨d,t,ty,pos,after,rfl,h.1,λj u S O=>?_⟩;have G:=h.2 j (fQ.1 S).1;rw[S]at G;simp only[dI,wZ,kO,wW,bJ,fR,qA]at G;obtain⟨⟨y,q⟩,z⟩:=G
   have B:Nat.beq j i=false:=by
    cases B:Nat.beq j i with
    | false=>rfl
    | true=>exact cV (nN B) O
   refine⟨?_,λhl=>?_,λL m U M=>?_⟩
   .rcases y with y|y
    .rw[B]at y;cases y
    .exact y
   .rcases q with(q|q)|q
    .rw[B]at q;cases q
    .have:(u.looksAt ops).elem d=true:=List.elem_eq_true_of_mem hl;rw[this]at q;cases q
    .exact q
   .rcases z with z|z
    .rw[L]at z;cases z
    .rcases z m U with H|H
     .exact cV (nN H) M
     .exact H
  .cases h
def Pend(C:Cx)(n:Nat)(ops:Array Oper)(F:Fr):List (Nat × Nat)->Fr->Array Value->Prop
 | [],m,_=>m=F
 | (i,k)::P,m,h=>∃q d t ty pos after u z,Pend C n ops F P q h/\ops[i]?=some ⟨some d,.alloc t,ty,pos,after,none⟩/\late ops i=true/\C.tt t=some u /\
   (∀g,Rzs g u.zero (Value.cells z).toList)/\(d<n->h[d]?=some (.pointer (some ⟨k,0,none⟩)))/\q k=none/\m=(λj=>if j=k then some (.cells z.cells t,none) else q j)
theorem Pend.subP:∀{P:List (Nat × Nat)} {u:Fr} {m:Array Value},Pend C n ops F P u m->∀k o p,u k=some (o,some p)->F k=some (o,some p)
 | [],u,m,h,k,o,p,y=>by rw[show u=F from h]at y;exact y
 | (i,q)::P,u,m,h,k,o,p,y=>by
  obtain⟨H,d,t,ty,pos,after,M,z,G,_,_,_,_,_,L,rfl⟩:=h;refine G.subP k o p ?_;by_cases B:k=q
  .simp[B]at y
  .simpa only[B,↓reduceIte]using y
theorem Pend.sub:∀{P:List (Nat × Nat)} {u:Fr} {m:Array Value},Pend C n ops F P u m->∀k o,F k=some o->u k=some o
 | [],u,m,h,k,o,y=>by rw[show u=F from h];exact y
 | (i,q)::P,u,m,h,k,o,y=>by
  obtain⟨L,d,t,ty,pos,after,M,z,G,_,_,_,_,_,H,rfl⟩:=h;have:=G.sub k o y;have B:k≠q:=by rintro rfl;rw[H]at this;cases this
  simp only[B,↓reduceIte];exact this
theorem Pend.put{a:Act}{j:Nat}{o:Oper}{v:Value}(ho:ops[j]?=some o):∀{P:List (Nat × Nat)} {m:Fr},(∀p,p∈P->p.1≠j)->Pend C n ops F P m a.tmps->Pend C n ops F P m (a.put o.dst v).tmps
 | [],m,_,h=>h
 | (i,q)::P,m,U,h=>by
  obtain⟨F1,d,t,ty,pos,after,ti,z,h1,L,M,h4,h5,O,h7,h8⟩:=h;refine⟨F1,d,t,ty,pos,after,ti,z,h1.put ho (λp hp=>U p (by simp[hp])),L,M,h4,h5,λS=>?_,h7,h8⟩;obtain⟨d',t',b0,Z,u,H,_,e3⟩:=sT M;rw[L]at H;cases H;have B:=(e3 j o ho (λe=>U (i,q) aW e.symm)).1;cases y:o.dst with
  | none=>exact O S
  | some G =>
   have:G≠d:=by rintro rfl;exact B y
   show(a.tmps.setIfInBounds G v)[d]?=_;rw[wT this];exact O S
theorem Pend.late:∀{P:List (Nat × Nat)} {u:Fr} {m:Array Value},Pend C n ops F P u m->∀p,p∈P->late ops p.1=true
 | [],_,_,_,p,q=>by cases q
 | (i,k)::P,u,m,h,p,q=>by
  obtain⟨G,d,t,ty,pos,after,L,z,y,H,B,_⟩:=h;cases q with
  | head=>exact B
  | tail _ q=>exact y.late p q
def fU(ops:Array Oper)(P:List (Nat × Nat)):List (Option Tmp):=P.map λp=>(ops[p.1]?).bind (·.dst)
def eR(P:List (Nat × Nat))(l:Array Bool):Array Bool:=P.foldr (λp l=>l.setIfInBounds p.1 true) l
theorem xN{m:Nat}(d:Bool):∀(P:List (Nat × Nat)) (l:Array Bool),(∀p,p∈P->p.1≠m)->(eR P l).getD m d=l.getD m d
 | [],l,_=>rfl
 | p::P,l,h=>by
  simp only[eR,List.foldr_cons];rw[getD_set_ne d (h p aW)];exact xN d P l λq u=>h q (by simp[u])
theorem aFM{m:Nat}:∀(P:List (Nat × Nat)) (l:Array Bool),l.getD m false=true->(eR P l).getD m false=true
 | [],l,h=>h
 | p::P,l,h=>by
  simp only[eR,List.foldr_cons];exact getD_set_true (aFM P l h)
theorem aCY{i:Nat}:∀(P:List (Nat × Nat)) (l:Array Bool),(∀p,p∈P->p.1≠i)->(eR P l).setIfInBounds i true=eR P (l.setIfInBounds i true)
 | [],l,_=>rfl
 | p::P,l,h=>by
  have m:=h p aW;simp only[eR,List.foldr_cons];rw[Array.setIfInBounds_comm _ _ m];have:=aCY (i:=i) P l λq u=>h q (by simp[u])
  simp only[eR]at this;rw[this]
def pV(l:Array Bool):Nat:=l.toList.count false
theorem aGS{l:Array Bool}{i:Nat}(h:l.getD i true=false):pV (l.setIfInBounds i true)+1=pV l:=by
 obtain⟨l⟩:=l
 have key:∀(l:List Bool) (i:Nat),l[i]?=some false->(l.set i true).count false+1=l.count false:=by
  intro l
  induction l with
  | nil=>intro i h;simp at h
  | cons x r q =>
   intro i h;cases i with
   | zero=>simp only[iZ,bI]at h;subst h;simp
   | succ i =>
    have:=q i (gQ h);simp only[qZ,List.count_cons];omega
 have hl:l[i]?=some false:=by
  cases m:l[i]? with
  | none=>simp[m]at h
  | some b=>simp[m]at h;rw[h]
 simpa [pV]using key l i hl
theorem aL3{l:Array Bool}(h:pV l=0):Region.ready .any ops l=[]:=by
 rw[List.eq_nil_iff_forall_not_mem];intro i m;have:=aGS (mem_ready.1 m).1;omega
theorem EnvOk.at{g:Gh}{n:Nat}{e:Env}{m:Array Value}{d:Nat}{x:A}{v:Value}(h:EnvOk g n e m)(z:m[d]?=some v)(B:Rz g x v):EnvOk g n (e.put d x) m:=by
 refine⟨h.size,λt y q=>?_⟩;rw[jP]at q;by_cases u:d=t
 .subst u;simp only[↓reduceIte,bI]at q;subst q;exact⟨v,z,B⟩
 .simp only[u,↓reduceIte]at q;exact h.val t y q
theorem R.adopt{U:Fr}{k b:Nat}{o:Obj}{ob:Ob}(h:R C.toCtx (λj=>if j=k then some (o,none) else U j) g s w)(hF:U k=none)(ho:ObRz g ob (some o))(hb:g.beta b=none){s':St}
  (hO:∀q,s'.getO q=if b=q then some ob else s.getO q)(hT:∀q,s'.getT q=s.getT q)(hL:s'.ls=s.ls)(hl:C.det=true->s.lim<=s'.lim/\b<s'.lim) :
  R C.toCtx U (g.bx b k) s' w:=by
 have u:=uZ hb k;have hk:=h.frm k (o,none) aW
 have z:∀c q,g.beta c=some q->q≠k:=by
  rintro c q m rfl;have:=h.bfr c q m;simp at this
 have y:=h.unframe (F0:=U) λq x H=>by
  have:q≠k:=by rintro rfl;rw[hF]at H;cases H
  simp only[this,↓reduceIte];exact H
 have y:=y λq x p H=>by
  by_cases O:q=k
  .simp[O]at H
  .simpa only[O,↓reduceIte]using H
 refine⟨λc x G=>?_,?_,?_,y.pis,y.frm,λc cs m=>?_,?_,?_,?_,λB c m=>?_,λx G=>(h.lst x (by rw[<-hL];exact G)).mono u,λc q m=>?_,h.env⟩
 .rw[hO]at G;by_cases M:b=c
  .subst M;simp only[↓reduceIte,bI]at G;subst G;exact⟨k,by simp[Gh.bx],by rw[hk.1];exact ho.mono u,hk.2,hF⟩
  .simp only[M,↓reduceIte]at G;obtain⟨q,Z,h2,h3⟩:=y.obj c x G;exact⟨q,u.beta _ _ Z,h2.mono u,h3⟩
 .intro t n e L;rw[hT]at L;exact y.tok t n e L
 .intro t t' n n' v v' c z L S;rw[hT]at L S;exact y.sep t t' n n' v v' c z L S
 .obtain⟨pre,ty,fr,hp,hl,Z,hr⟩:=y.glb c cs m;exact⟨pre,ty,fr,hp,hl,Z,λj c v m hv=>(hr j c v m hv).mono u⟩
 .obtain⟨N,hN⟩:=h.fsh;refine⟨max N (b+1),λt L=>⟨by rw[hT];exact(hN t aB).1,(hN t aB).2.1,?_⟩⟩;have:t≠b:=by omega
  simp[Gh.bx,this,(hN t aB).2.2]
 .intro c q m;simp only[Gh.bx]at m;split at m
  .cases m;exact(fQ.1 hk.1).1
  .exact h.bet c q m
 .intro c d q m B;simp only[Gh.bx]at m B;split at m<;>split at B
  .omega
  .cases m;exact cV rfl (z d k B)
  .cases B;exact cV rfl (z c k m)
  .exact h.inj c d q m B
 .obtain⟨l1,l2⟩:=hl B;obtain⟨d1,d2⟩:=h.dtm B c aB;have:c≠b:=by omega
  exact⟨by simp[Gh.bx,this,d1],d2⟩
 .simp only[Gh.bx]at m;split at m
  .cases m;exact hF
  .exact y.bfr c q m
theorem R.lay(h:R C.toCtx F g s w)(o:Obj):R C.toCtx (λj=>if j=w.heap.size then some (o,none) else F j) g s (w.alloc o):=by
 have M:∀k,k<w.heap.size->(w.alloc o).heap[k]?=w.heap[k]?:=λk M=>rD w o M
 have m:=h.keep M;refine⟨λc x U=>?_,λt n e S=>?_,m.sep,m.pis,λq x u=>?_,λc cs G=>?_,m.fsh,m.bet,m.inj,m.dtm,m.lst,λc q G=>?_,m.env⟩;rotate_left 3
 .obtain⟨pre,ty,fr,O,y⟩:=h.glb c cs G;have:c≠w.heap.size:=Nat.ne_of_lt (h.lt_frm O);exact⟨pre,ty,fr,by simp only[this,↓reduceIte];exact O,y⟩
 rotate_left 1
 .obtain⟨q,y,H,L,z⟩:=m.obj c x U;have:q≠w.heap.size:=Nat.ne_of_lt (h.bet c q y);exact⟨q,y,H,L,by simp only[this,↓reduceIte];exact z⟩
 .obtain⟨v,xs,y,H,L,z⟩:=m.tok t n e S;refine⟨v,xs,y,H,L,λq u=>?_⟩;have:q≠w.heap.size:=Nat.ne_of_lt (h.lt_pi (z q u).1);exact⟨(z q u).1,by simp only[this,↓reduceIte];exact(z q u).2⟩
 .by_cases B:q=w.heap.size
  .subst B;simp only[↓reduceIte,bI]at u;subst u;exact⟨sO w o,h.pi_new⟩
  .simp only[B,↓reduceIte]at u;exact m.frm q x u
 .have:q≠w.heap.size:=Nat.ne_of_lt (h.bet c q G);simp only[this,↓reduceIte];exact h.bfr c q G
theorem aKE{k:Nat}{z:Fr}{o:Obj}{ob:Ob}{f:Nat->A}{KV:St->A->Prop}(h:R C.toCtx (λj=>if j=k then some (o,none) else z j) g s w)(B:z k=none)(ho:ObRz g ob (some o))
  (u:oK C s ob f KV):∃b s',g.beta b=none/\R C.toCtx z (g.bx b k) s' w/\KV s' (f b):=by
 unfold oK at u;cases y:C.det with
 | false =>
  rw[y]at u;obtain⟨b,m⟩:=h.some_free;exact⟨b,s.setO b ob,m,h.adopt B ho m (λq=>aH s b ob q) (λq=>rfl) rfl (λG=>by rw[y]at G;cases G),u b (h.free m)⟩
 | true =>
  rw[y]at u;have m:=(h.dtm y s.lim (bL _)).1;exact⟨s.lim,s.newO ob,m,h.adopt B ho m (λq=>aEm s ob q) (λq=>rfl) rfl (λ_=>⟨Nat.le_succ _,lN _⟩),u⟩
theorem aDD{a:Act}(f:Nat)(hn:a.tmps.size=n):∀(P:List (Nat × Nat)) (q:Array Bool) (F':Fr) (g:Gh) (e:Env) (s:St),(∀p,p∈P->q.getD p.1 true=false)->(P.map (·.1)).Nodup ->
  (∀m,m∈Region.ready .any ops q->late ops m=true)->Pend C n ops F P F' a.tmps->R C.toCtx F' g s w->EnvOk g n (e.rem (fU ops P)) a.tmps ->
  eN C n ops K Kp W (f+P.length) q e s->∃g' e' s',g.le g'/\R C.toCtx F g' s' w/\EnvOk g' n e' a.tmps/\eN C n ops K Kp W f (eR P q) e' s'
 | [],q,F',g,e,s,_,_,_,hP,hR,L,h=>by
  rw[show F'=F from hP]at hR;refine⟨g,e,s,dW g,hR,L.sub λt x M=>?_,h⟩;rw[lT];simpa [fU]using M
 | (i,k) :: P,q,F',g,e,s,b5,b1,O,hP,hR,L,h => by
  obtain⟨F1,d,t,ty,pos,after,ti,z,h1,h2,h3,h4,h5,h6,h7,rfl⟩:=hP;obtain⟨d',t',bz,bv,bg,q1,q2,q3⟩:=sT h3;rw[h2]at q1;cases q1;have bb:=b5 (i,k) aW;have hr:i∈Region.ready .any ops q:=mem_ready.2 ⟨bb,_,h2,λe L y=>by rw[q2 e L]at y;cases y⟩
  have hz:i∈lC ops q:=by
   unfold lC;rw[aE (by rw[fR];exact O)];exact hr
  have hs:=h.2.2 i hz _ h2;simp only[gM,aY,h4,aBj]at hs;obtain⟨b,s',y,U,H⟩:=aKE hR h7 (ob:=.cells t ti.zero) ⟨z.cells.toList,[],by simp,h5 g,(C.htt t ti h4).one⟩ hs;obtain⟨bj,H⟩:=H;have b0:=uZ y k;simp only[bN,List.nodup_cons]at b1;have b2:∀p,p∈P->p.1≠i:=λp hp e=>b1.1 (cD.2 ⟨p,hp,e⟩)
  have S:eR ((i,k)::P) q=eR P (q.setIfInBounds i true):=by
   rw[<-aCY P q b2];rfl
  have G:EnvOk (g.bx b k) n ((e.put d (.ptr b 0)).rem (fU ops P)) a.tmps:=by
   have h8:=(L.mono b0).at (h6 bj) (x:=.ptr b 0) (.ptr b 0 k (by simp[Gh.bx]));refine h8.sub λu x M=>?_
   rw[lT]at M;split at M
   .cases M
   .rename_i hu;rw[jP]at M⊢;by_cases Z:d=u
    .simpa only[Z,↓reduceIte]using M
    .simp only[Z,↓reduceIte]at M⊢;rw[lT,aD]
     .exact M
     .rw[List.elem_iff]at hu⊢;simp only[fU,bN,h2,Option.bind_some,dD,bI,not_or]at hu⊢;exact⟨λe=>Z e.symm,hu⟩
  by_cases b6:P=[]
  .subst b6;rw[show F1=F from h1]at U
   have bp:((e.put d (.ptr b 0)).rem (fU ops []))=e.put d (.ptr b 0):=by
    have:∀e:Env,e.rem []=e:=by
     intro e
     induction e with
     | nil=>rfl
     | cons x e ih=>simp only[Env.rem,List.elem_nil,cQ,↓reduceIte,ih]
    exact this _
   rw[bp]at G;exact⟨_,_,s',b0,U,G,by rw[S];exact H⟩
  .have bf:∀m,m∈Region.ready .any ops (q.setIfInBounds i true)->late ops m=true:=by
    intro m hm;by_cases bc:m∈Region.ready .any ops q
    .exact O m bc
    .exfalso;obtain⟨m0,om,b3,B⟩:=mem_ready.1 hm
     have bd:m≠i:=by
      rintro rfl;have bn:=(rL bb).1;simp[bn]at m0
     have b8:nY om i=true:=by
      cases b7:nY om i with
      | true=>rfl
      | false =>
       exfalso;refine bc (mem_ready.2 ⟨by rw[getD_set_ne true (λe=>bd e.symm)]at m0;exact m0,om,b3,λed b9 y=>?_⟩)
       have bk:i≠ed.on:=by
        intro bm;rw[uL.2 ⟨ed,b9,y,bm.symm⟩]at b7;cases b7
       have:=B ed b9 y
       rwa[getD_set_ne false bk]at this
     obtain⟨⟨p,kp⟩,b4⟩:=List.exists_mem_of_ne_nil P b6;have br:p≠i:=b2 (p,kp) b4;have bq:=b5 (p,kp) (by simp[b4]);obtain⟨d2,t2,ty2,bw,bh,z1,z2,_⟩:=sT (h1.late (p,kp) b4)
     have bt:p≠m:=by
      rintro rfl;rw[b3]at z1;cases z1;obtain⟨e,L,y,_⟩:=uL.1 b8;rw[z2 e L]at y;cases y
     obtain⟨e,L,y,bl⟩:=uL.1 ((q3 m om b3 bd).2.2 b8 p (fQ.1 z1).1 bt);have:=B e L y;rw[bl,getD_set_ne false (λe=>br e.symm),(rL bq).2]at this;cases this
   obtain⟨g',e',s2,r1,r2,r3,r4⟩:=aDD f hn P (q.setIfInBounds i true) F1 (g.bx b k) (e.put d (.ptr b 0)) s'
    (λp hp=>by rw[getD_set_ne true (λe=>b2 p hp e.symm)];exact b5 p (by simp[hp])) b1.2 bf h1 U G H
   exact⟨g',e',s2,b0.trans r1,r2,r3,by rw[S];exact r4⟩
def Rle(C:Cx)(s s':St):Prop:=∀(F:Fr) (g:Gh) (w:World),R C.toCtx F g s w->R C.toCtx F g s' w
theorem Rle.refl(s:St):Rle C s s:=λ_ _ _ h=>h
theorem aLc{P:List (Nat × Nat)}{B:Fr}{m:Array Value}(h:Pend C n ops F P B m){d:Nat}(G:(fU ops P).elem (some d)=true):∃p,p∈P/\∃t ty pos after,ops[p.1]?=some ⟨some d,.alloc t,ty,pos,after,none⟩:=by
 have y:=List.mem_of_elem_eq_true G;simp only[fU,cD]at y;obtain⟨p,z,q⟩:=y;obtain⟨H,t,ty,pos,after,u,_⟩:=sT (h.late p z);rw[u]at q;simp only[Option.bind_some,bI]at q;subst q;exact⟨p,z,t,ty,pos,after,u⟩
theorem aNk{e0:Env}(c5:∀o,o∈ops.toList->∀d,o.dst=some d->e0.get d=none){D:List Deferred}{Q:XK->Env->St->Prop}(hK:∀e s,K e s->∃e' s',e.ge e'/\Rle C s s'/\Q .normal e' s')
  (c2:∀s v,Kp s v->Q (.panic v) e0 s)(htt:∀i t o,ops[i]?=some o->late ops i=true->o.op=.alloc t->(C.tt t).isSome=true) :
  ∀(f:Nat) (P:List (Nat × Nat)) (y:Array Bool) (O:Fr) (g:Gh) (e:Env) (s:St) (a:Act) (w:World),pV (eR P y)<=f->(∀p,p∈P->y.getD p.1 true=false)->(P.map (·.1)).Nodup ->
   Pend C n ops F P O a.tmps->g0.le g->R C.toCtx O g s w->EnvOk g n (e.rem (fU ops P)) a.tmps->EnvOk g n e0 a.tmps->a.defers=D ->
   eN C n ops K Kp W (f+P.length) y e s->wpAny C.P .any ops (Post C F g0 n D Q) f (eR P y) a w:=by
 have fin:∀(g:Gh) (e:Env) (s:St) (a:Act) (w:World),g0.le g->R C.toCtx F g s w->EnvOk g n e a.tmps->a.defers=D->K e s->Post C F g0 n D Q .normal a w :=
  λg e s a w hg hR G hD h=>by
   obtain⟨e',s',h1,h2,h3⟩:=hK _ _ h;exact⟨g,e',s',.normal,hg,h2 _ _ _ hR,G.sub h1,hD,trivial,h3⟩
 have bd:∀(f:Nat) (P:List (Nat × Nat)) (y:Array Bool) (O:Fr) (g:Gh) (e:Env) (s:St) (a:Act) (w:World),(∀p,p∈P->y.getD p.1 true=false)->(P.map (·.1)).Nodup ->
   Pend C n ops F P O a.tmps->g0.le g->R C.toCtx O g s w->EnvOk g n (e.rem (fU ops P)) a.tmps->a.defers=D ->
   eN C n ops K Kp W (f+P.length) y e s->Region.ready .any ops (eR P y)=[]->Post C F g0 n D Q .normal a w:=by
  intro f P y O g e s a w L S hP hg hR G hD h hr
  obtain⟨g',e',s',r1,r2,r3,r4⟩:=aDD f G.size P y O g e s L S (λm hm=>by
   by_cases b5:∃p,p∈P/\p.1=m
   .obtain⟨p,B,rfl⟩:=b5;exact hP.late p B
   .exfalso;obtain⟨m0,om,b6,Z⟩:=mem_ready.1 hm;have:m∈Region.ready .any ops (eR P y):=mem_ready.2 ⟨by rw[xN true P y (λp B e=>b5 ⟨p,B,e⟩)];exact m0,om,b6,λe G hb=>aFM P y (Z e G hb)⟩;rw[hr]at this;cases this) hP hR G h
  have hk:K e' s':=by
   cases f with
   | zero=>exact r4.2.2
   | succ f=>exact r4.2.1 hr
  exact fin g' e' s' a w (hg.trans r1) r2 r3 hD hk
 intro f
 induction f with
 | zero =>
  intro P y O g e s a w hu L S hP hg hR G b1 hD h;have hr:Region.ready .any ops (eR P y)=[]:=aL3 aB;exact⟨hr,bd 0 P y O g e s a w L S hP hg hR G hD h hr⟩
 | succ f ih =>
  intro P y O g e s a w hu L S hP hg hR G b1 hD h;refine⟨λhr=>bd (f+1) P y O g e s a w L S hP hg hR G hD h hr,λi hi=>?_⟩;obtain⟨b9,o,ho,Z⟩:=mem_ready.1 hi
  have M:∀p,p∈P->p.1≠i:=by
   rintro p B rfl;have c8:=(rL (L p B)).1
   have:(eR P y).getD p.1 false=true:=by
    have:∀{P:List (Nat × Nat)},p∈P->(eR P y).getD p.1 false=true:=by
     intro P
     induction P with
     | nil=>intro h;cases h
     | cons q P cj =>
      intro h
      have cg:∀P:List (Nat × Nat),(eR P y).size=y.size:=by
       intro P
       induction P with
       | nil=>rfl
       | cons x P ih=>simp only[eR,List.foldr_cons,Array.size_setIfInBounds]at *;exact ih
      simp only[eR,List.foldr_cons];cases h with
      | head =>
       have:=cg P;simp only[eR]at this;simp[this,c8]
      | tail _ h=>exact getD_set_true (cj h)
    exact this B
   rw[(rL b9).2]at this;cases this
  have bc:y.getD i true=false:=by rw[xN true P y M]at b9;exact b9
  have b2:pV ((eR P y).setIfInBounds i true)<=f:=by have:=aGS b9;omega
  have bg:∀d,o.dst=some d->e0.get d=none:=c5 o (by obtain⟨h1,h2⟩:=fQ.1 ho;rw[<-h2];simp)
  by_cases b0:late ops i=true
  ·
   obtain⟨d,t,ty,pos,after,q1,q2,q3⟩:=sT b0;rw[ho]at q1;cases q1;obtain⟨ti,bt⟩:=Option.isSome_iff_exists.1 (htt i t _ ho b0 rfl);obtain⟨z,hz,ch⟩:=xY bt w;unfold wpOp;rw[ho];simp only;rw[aE (by simp[Region.wanted])];left
   have bq:(execOp a.eval ⟨some d,.alloc t,ty,pos,after,none⟩).run C.P w=.ok (.value (.pointer (some ⟨w.heap.size,0,none⟩))) (w.alloc (.cells z.cells t)):=by
    simp only[execOp,Instr.alloc,bE,hz,bD,newVar,newRow,run_newObj,bO];rfl
   unfold Oper.wp;rw[bq,Oper.upon_value];have br:(eR P y).setIfInBounds i true=eR ((i,w.heap.size)::P) y:=rfl;rw[br]at b2⊢
   have cl:∀p,p∈P->∀d' t' bk b7 U,ops[p.1]?=some ⟨some d',.alloc t',bk,b7,U,none⟩->d'≠d:=by
    intro p B d' t' bk b7 U c9 e;have:=(q3 p.1 _ c9 (M p B)).1;exact this (by rw[e])
   refine ih ((i,w.heap.size)::P) y (λj=>if j=w.heap.size then some (.cells z.cells t,none) else O j) g e s _ _ b2 (λp B=>?_) ?_ ?_ hg (hR.lay _) ?_ (b1.other bg) (by rw[aAa];exact hD) ?_
   .cases B with
    | head=>exact bc
    | tail _ B=>exact L p B
   .simp only[bN,List.nodup_cons];refine⟨λhm=>?_,S⟩;obtain⟨p,B,cb⟩:=cD.1 hm;exact M p B cb
   .refine⟨O,d,t,ty,pos,after,ti,z,hP.put ho (λp B=>M p B),ho,b0,bt,ch,λhd=>?_,hR.frm_new,rfl⟩;show(a.tmps.setIfInBounds d _)[d]?=_;simp[G.size,hd]
   .have:=G.del (d:=d) (v:=.pointer (some ⟨w.heap.size,0,none⟩));refine this.sub λu x hx=>?_
    rw[lT]at hx;split at hx
    .cases hx
    .rename_i bv
     have bw:¬ u=d/\¬ (fU ops P).elem (some u)=true:=by
      rw[List.elem_iff]at bv⊢;simpa only[fU,bN,ho,Option.bind_some,dD,bI,not_or]using bv
     have c6:¬ d=u:=λe=>bw.1 e.symm
     rw[aEw,aD c6,lT,aD bw.2];exact hx
   .have:f+((i,w.heap.size)::P).length=f+1+P.length:=by simp only[aO];omega
    rw[this];exact h
  .have b3:late ops i=false:=gQ b0
   have step:∀(P:List (Nat × Nat)) (y:Array Bool) (O:Fr) (g:Gh) (e:Env) (s:St),pV ((eR P y).setIfInBounds i true)<=f->(∀p,p∈P->y.getD p.1 true=false)->(∀p,p∈P->p.1≠i)->(P.map (·.1)).Nodup ->
     Pend C n ops F P O a.tmps->g0.le g->R C.toCtx O g s w->EnvOk g n (e.rem (fU ops P)) a.tmps->EnvOk g n e0 a.tmps->(∀d,(fU ops P).elem (some d)=true->d ∉ o.looksAt ops) ->
     gM C (ops.toList.map (·.dst)) o (bZ n o.dst (eN C n ops K Kp W (f+P.length) (y.setIfInBounds i true)) e) Kp e s ->
     wpOp C.P ops (Post C F g0 n D Q) i (wpAny C.P .any ops (Post C F g0 n D Q) f ((eR P y).setIfInBounds i true)) a w:=by
    intro P y O g e s b2 L M S hP hg hR G b1 bj hs;rw[aCY P y M]at b2⊢;have bz:∀p,p∈P->(y.setIfInBounds i true).getD p.1 true=false:=λp B=>by rw[getD_set_ne true (λe=>M p B e.symm)];exact L p B
    have cf:=zV (ops:=ops) (e':=e.rem (fU ops P)) (λt ht=>by
     rw[lT,aD];intro hh;exact bj t hh ht) hs
    have next:∀g' v w' e1 s',g.le g'->R C.toCtx O g' s' w'->EnvOk g' n e1 (a.put o.dst v).tmps->EnvOk g' n e0 (a.put o.dst v).tmps->(a.put o.dst v).defers=D ->
      (∃e2,eN C n ops K Kp W (f+P.length) (y.setIfInBounds i true) e2 s'/\∀t x,(e2.rem (fU ops P)).get t=some x->e1.get t=some x) ->
      wpAny C.P .any ops (Post C F g0 n D Q) f (eR P (y.setIfInBounds i true)) (a.put o.dst v) w':=by
     rintro g' v w' e1 s' h1 h2 h3 h4 h5 ⟨e2,h6,h7⟩;exact ih P (y.setIfInBounds i true) O g' e2 s' _ w' b2 bz S (hP.put ho M) (hg.trans h1) h2 (h3.sub h7) h4 h5 h6
    have conv:∀s' v,bZ n o.dst (eN C n ops K Kp W (f+P.length) (y.setIfInBounds i true)) e s' v ->
      bZ n o.dst (λe1 s'=>∃e2,eN C n ops K Kp W (f+P.length) (y.setIfInBounds i true) e2 s'/\∀t x,(e2.rem (fU ops P)).get t=some x->e1.get t=some x) (e.rem (fU ops P)) s' v:=by
     intro s' v hv;unfold bZ at hv⊢;cases hd:o.dst with
     | none=>rw[hd]at hv;exact⟨e,hv,λt x hx=>hx⟩
     | some d =>
      rw[hd]at hv;refine⟨hv.1,_,hv.2,λt x hx=>?_⟩;rw[lT]at hx;split at hx
      .cases hx
      .rename_i ht;rw[jP]at hx⊢;by_cases bn:d=t
       .simpa only[bn,↓reduceIte]using hx
       .simp only[bn,↓reduceIte]at hx⊢;rw[lT,aD ht];exact hx
    have H:=uN cf conv;have hF:=λk o=>hP.sub k o
    unfold wpOp;rw[ho];simp only;obtain⟨dst,op,ty,pos,after,gd⟩:=o
    have c0:aY C op (dP C (e.rem (fU ops P))) (bZ n dst (λe1 s'=>∃e2,eN C n ops K Kp W (f+P.length) (y.setIfInBounds i true) e2 s'/\∀t x,(e2.rem (fU ops P)).get t=some x->e1.get t=some x) (e.rem (fU ops P))) Kp s ->
      (⟨dst,op,ty,pos,after,gd⟩:Oper).wp C.P a w (wpAny C.P .any ops (Post C F g0 n D Q) f (eR P (y.setIfInBounds i true))) (Post C F g0 n D Q):=by
     intro c7;have:=aHc (ev:=a.eval) (ty:=ty) (dst:=dst) (pos:=pos) (after:=after) (gd:=gd) hR (G.oper hR) c7;exact aEi hF (λk o p=>hP.subP k o p) (o:=⟨dst,op,ty,pos,after,gd⟩) hg G b1 bg hD next c2 this
    have skip:bZ n dst (λe1 s'=>∃e2,eN C n ops K Kp W (f+P.length) (y.setIfInBounds i true) e2 s'/\∀t x,(e2.rem (fU ops P)).get t=some x->e1.get t=some x) (e.rem (fU ops P)) s (.tuple []) ->
      wpAny C.P .any ops (Post C F g0 n D Q) f (eR P (y.setIfInBounds i true)) (a.put dst undef) w:=by
     intro hs;unfold bZ at hs;cases bb:dst with
     | none=>subst bb;exact next g undef w _ s (dW g) hR G b1 hD hs
     | some d=>subst bb;exact next g undef w _ s (dW g) hR (G.put hs.1 (.tuple [] [] rfl aW)) (b1.other λd' c3=>by cases c3;exact bg d rfl) (by rw[aAa];exact hD) hs.2
    unfold gM at H;cases gd with
    | none =>
     rw[aE (by simp[Region.wanted])];exact .inl (c0 H)
    | some jw =>
     obtain⟨j,b8⟩:=jw;obtain⟨t,ht,H⟩:=H;rcases H with⟨b,hb,H⟩|⟨ls,hl,H⟩
     .have hy:=aFl (b:=b) ht G hb
      have hw:Region.wanted (⟨dst,op,ty,pos,after,some (j,b8)⟩:Oper) (yielded ops a.tmps)=(b == b8):=by
       simp only[Region.wanted,hy];cases b<;>cases b8<;>rfl
      rcases H with⟨bf,H⟩|⟨bf,H⟩
      .rw[aE (by rw[hw];simpa using bf)];exact .inl (c0 H)
      .rw[aD (by rw[hw];simpa using bf)];exact skip H
     .have hy:=aEj ht G hl;rw[aD (by simp[Region.wanted,hy])];exact skip H
   by_cases b4:∃p,p∈P/\nY o p.1=true
   ·
    obtain⟨p,B,bm⟩:=b4;obtain⟨dp,tp,cm,ck,c1,p1,p2,p3⟩:=sT (hP.late p B);have bl:=(p3 i o ho (λe=>M p B e.symm)).2.2 bm
    obtain⟨g',e',s',r1,r2,r3,r4⟩:=aDD (f+1) G.size P y O g e s L S (λm hm=>by
     by_cases b5:∃p,p∈P/\p.1=m
     .obtain⟨p,B,rfl⟩:=b5;exact hP.late p B
     .exfalso;obtain⟨m0,om,b6,c4⟩:=mem_ready.1 hm;by_cases bp:m=i
      .subst bp;rw[ho]at b6;cases b6;obtain⟨e,G,hb,bh⟩:=uL.1 bm;have:=c4 e G hb;rw[bh,(rL (L p B)).2]at this;cases this
      .obtain⟨e,G,hb,bh⟩:=uL.1 (bl m (fQ.1 b6).1 bp);have:=Z e G hb;rw[bh,xN false P y (λp B e=>b5 ⟨p,B,e⟩),(rL m0).2]at this;cases this) hP hR G h
    refine step [] (eR P y) F g' e' s' b2 (λp B=>by cases B) (λp B=>by cases B) aW rfl (hg.trans r1) r2 (r3.sub λt x hx=>?_) (b1.mono r1) (λd hd=>by simp[fU]at hd) ?_
    .rw[lT]at hx;simpa [fU]using hx
    .exact r4.2.2 i (aAf hi b3) o ho
   .have cd:i∈Region.ready .any ops y:=mem_ready.2 ⟨bc,o,ho,λe G hb=>by
     have:=Z e G hb;rw[xN false P y (λp B e'=>b4 ⟨p,B,uL.2 ⟨e,G,hb,e'.symm⟩⟩)]at this;exact this⟩
    refine step P y O g e s b2 L M S hP hg hR G b1 (λd hd hl=>?_) ?_
    .obtain⟨p,B,t,ty,pos,after,h1⟩:=aLc hP hd;obtain⟨d',t',bk,b7,U,p1,p2,p3⟩:=sT (hP.late p B);rw[h1]at p1;cases p1;exact b4 ⟨p,B,(p3 i o ho (λe=>M p B e.symm)).2.1 hl⟩
    .have e1:f+1+P.length=f+P.length+1:=by omega
     rw[e1]at h;exact h.2.2 i (aAf cd b3) o ho
theorem aN7{m:Env}(u:∀o,o∈ops.toList->∀d,o.dst=some d->m.get d=none){D:List Deferred}{Q:XK->Env->St->Prop}(G:∀e s,K e s->∃e' s',e.ge e'/\Rle C s s'/\Q .normal e' s')
  (q:∀s v,Kp s v->Q (.panic v) m s)(htt:∀i t o,ops[i]?=some o->late ops i=true->o.op=.alloc t->(C.tt t).isSome=true)
  (f:Nat)(l:Array Bool)(g:Gh)(e:Env)(s:St)(a:Act)(w:World)(S:pV l<=f)(M:g0.le g)(H:R C.toCtx F g s w)(L:EnvOk g n e a.tmps)(y:EnvOk g n m a.tmps)(B:a.defers=D)
  (h:eN C n ops K Kp W f l e s):wpAny C.P .any ops (Post C F g0 n D Q) f l a w :=
 aNk u G q htt f [] l F g e s a w S (λp O=>by cases O) aW rfl M H (L.sub λt x z=>by rw[lT]at z;simpa [fU]using z) y B h
inductive OT where
 | nil
 | node (i:Nat) (r:OT)
 | alt (a b:OT)
 | pair (i j:Nat)
def OT.l:List Nat->OT->OT
 | [],t=>t
 | i::r,t=>.node i (OT.l r t)
def jG:List Oper->Nat->Option Oper
 | [],_=>none
 | o::_,0=>some o
 | _::r,i+1=>jG r i
def qL(C:Cx)(t:TypeId)(b o:Nat)(s:St):Option A:=match s.getO b with
 | some (.cells _ cs)=>pN C t cs o
 | _=>none
def aDm(C:Cx)(t:TypeId)(b o:Nat)(v:A)(s:St):Prop:=qL C t b o s=some v
def tkL(C:Cx)(t:TypeId)(b o:Nat)(h:A->Option (St->Prop)->Prop):Option A->Prop
 | some v=>h v (some (aDm C t b o v))
 | none=>False
def qV(h:A->Option (St->Prop)->Prop)(v:A):Prop:=h v none
def zK(C:Cx)(t:TypeId)(op:Op)(ρ:Operand->Option A)(s:St)(h:A->Option (St->Prop)->Prop):Option A->Prop
 | some (.ptr b o)=>tkL C t b o h (qL C t b o s)
 | _=>bV C op ρ (qV h)
def aHf(C:Cx)(t:TypeId)(ok:Bool)(b:Nat)(a v:A)(s:St):Prop:=tK C s t ok b a=some v
def lkL(C:Cx)(t:TypeId)(ok:Bool)(b:Nat)(a:A)(h:A->Option (St->Prop)->Prop):Option A->Prop
 | some v=>h v (some (aHf C t ok b a v))
 | none=>False
def lkX(C:Cx)(t:TypeId)(ok:Bool)(s:St)(h:A->Option (St->Prop)->Prop):Option A->Option A->Prop
 | some (.mp b),some a=>lkL C t ok b a h (tK C s t ok b a)
 | _,_=>False
def oO(C:Cx)(op:Op)(ρ:Operand->Option A)(s:St)(h:A->Option (St->Prop)->Prop):Prop :=
 match op with
 | .load t x=>zK C t (.load t x) ρ s h (ρ x)
 | .lookup t x k ok=>lkX C t ok s h (ρ x) (ρ k)
 | op=>bV C op ρ (qV h)
def tQ:List (Nat × List Nat)->Nat->List Nat
 | [],_=>[]
 | (j,l)::r,i=>if j=i then l else tQ r i
def sI(h:List Nat)(s:St):List (Nat × (St->Prop))->Prop
 | []=>True
 | (m,p)::W=>(if h.elem m=true then p s else True)/\sI h s W
def aDG(n:Nat)(dst:Option Tmp)(h:List Nat)(next:List (Nat × (St->Prop))->Env->St->Prop)(W:List (Nat × (St->Prop)))(e:Env)(s:St)(v:A):Prop :=
 sI h s W/\bZ n dst (next W) e s v
def uB(n:Nat)(dst:Option Tmp)(i:Nat)(next:List (Nat × (St->Prop))->Env->St->Prop)(W:List (Nat × (St->Prop)))(e:Env)(s:St)(v:A):Option (St->Prop)->Prop
 | none=>bZ n dst (next W) e s v
 | some p=>bZ n dst (next ((i,p)::W)) e s v
def kB(C:Cx)(n:Nat)(E:List (Nat × List Nat))(i:Nat)(dst:Option Tmp)(op:Op)(next:List (Nat × (St->Prop))->Env->St->Prop)(W:List (Nat × (St->Prop)))
  (Kp:St->A->Prop)(e:Env)(s:St):Bool->Prop
 | true=>aY C op (dP C e) (aDG n dst (tQ E i) next W e) Kp s
 | false=>oO C op (dP C e) s (uB n dst i next W e s)
def mR(C:Cx)(n:Nat)(E:List (Nat × List Nat))(i:Nat)(dst:Option Tmp)(op:Op)(next:List (Nat × (St->Prop))->Env->St->Prop)(W:List (Nat × (St->Prop)))
  (Kp:St->A->Prop)(e:Env)(s:St)(t:Nat)(h:Bool):Option A->Prop
 | some (.bool true)=>match h with
  | true=>kB C n E i dst op next W Kp (e.put t (.bool true)) s (gL op)
  | false=>bZ n dst (next W) (e.put t (.bool true)) s (.tuple [])
 | some (.bool false)=>match h with
  | false=>kB C n E i dst op next W Kp (e.put t (.bool false)) s (gL op)
  | true=>bZ n dst (next W) (e.put t (.bool false)) s (.tuple [])
 | some (.tuple _)=>bZ n dst (next W) e s (.tuple [])
 | _=>False
def wS(C:Cx)(n:Nat)(E:List (Nat × List Nat))(i:Nat)(dst:Option Tmp)(op:Op)(next:List (Nat × (St->Prop))->Env->St->Prop)(W:List (Nat × (St->Prop)))
  (Kp:St->A->Prop)(e:Env)(s:St)(h:Bool):Option Tmp->Prop
 | none=>False
 | some t=>mR C n E i dst op next W Kp e s t h (e.get t)
def iN(C:Cx)(n:Nat)(ds:List (Option Tmp))(E:List (Nat × List Nat))(i:Nat)(next:List (Nat × (St->Prop))->Env->St->Prop)(W:List (Nat × (St->Prop)))
  (Kp:St->A->Prop)(e:Env)(s:St):Option Oper->Prop
 | none=>False
 | some ⟨dst,op,_,_,_,none⟩=>kB C n E i dst op next W Kp e s (gL op)
 | some ⟨dst,op,_,_,_,some (j,h)⟩=>wS C n E i dst op next W Kp e s h (iV ds j)
def aDC:Option A->Option A->Option A->Prop
 | some a,some b,some c=>match a with
  | .rm k m z=>match b with
   | .ptr _ _=>match c with
    | .pen h es q=>k=h/\m=es.length/\z=q
    | _=>False
   | _=>False
  | _=>False
 | _,_,_=>False
def yL(C:Cx)(e:Env):Option Oper->Option Oper->Prop
 | some ⟨none,.store _ x _,_,_,_,none⟩,some ⟨none,.store _ h m,_,_,_,none⟩=>aDC (dP C e x) (dP C e h) (dP C e m)
 | _,_=>False
def fK(C:Cx)(n:Nat)(ds:List (Option Tmp))(ops:List Oper)(E:List (Nat × List Nat))(K:Env->St->Prop)(Kp:St->A->Prop):OT->List (Nat × (St->Prop))->Env->St->Prop
 | .nil,W,e,s=>K e s
 | .node i r,W,e,s=>iN C n ds E i (fK C n ds ops E K Kp r) W Kp e s (jG ops i)
 | .alt a b,W,e,s=>fK C n ds ops E K Kp a W e s/\fK C n ds ops E K Kp b W e s
 | .pair i j,W,e,s=>yL C e (jG ops i) (jG ops j)/\iN C n ds E i (λW e s=>iN C n ds E j (λ_=>K) W Kp e s (jG ops j)) W Kp e s (jG ops i)
theorem aC5:∀(l:List Oper) (i:Nat),jG l i=l[i]?
 | [],i=>by simp[jG]
 | o::r,0=>rfl
 | o::r,i+1=>by simp[jG,aC5 r i]
def pH:Op->Bool
 | .load ..=>true
 | .lookup ..=>true
 | _=>false
def msk(h:List Nat):List Edge->Nat->Nat
 | [],m=>m
 | e::r,m=>msk h r (if Region.binds .any e then m ||| (1 <<< e.on) ||| (h[e.on]?.getD 0) else m)
def prs:List Oper->List Nat->List Nat
 | [],h=>h
 | o::r,h=>prs r (h++[msk h o.after.toList 0])
def zD(ops:Array Oper)(E:List (Nat × List Nat)):Bool :=
 let T:=prs ops.toList []
 (List.range ops.size).all fun i => match ops[i]? with
  | some o=>!gL o.op||(List.range ops.size).all λm=>match ops[m]? with
   | some h=>!pH h.op||(tQ E i).elem m||(T[i]?.getD 0).testBit m
   | none=>true
  | none=>true
def iW:OT->List (Nat × OT)
 | .nil=>[]
 | .node i r=>[(i,r)]
 | .alt a b=>iW a++iW b
 | .pair _ _=>[]
def rY(ops:Array Oper)(i:Nat):Bool:=match ops[i]? with
 | some o=>gL o.op
 | none=>false
def aC1(ops:Array Oper)(l:Array Bool):Bool :=
 let T:=prs ops.toList []
 (List.range ops.size).all fun m => match ops[m]? with
  | some o=>!pH o.op||(List.range ops.size).any λj=>rY ops j&&l.getD j false&&(T[j]?.getD 0).testBit m
  | none=>true
def aAZ(tt:TypeId->Option TI)(ops:Array Oper):Bool :=
 (List.range ops.size).all fun i => !late ops i || (match ops[i]? with
  | some o=>match o.op with
   | .alloc t=>(tt t).isSome
   | _=>true
  | none=>true)
def mQ(ops:Array Oper):Nat->Array Bool->OT->Bool
 | _,l,.nil=>(Region.ready .any ops l).isEmpty
 | 0,l,_=>false
 | f+1,l,.node i r=>if rY ops i then(Region.ready .any ops l).contains i&&(lC ops l).all (· == i)&&mQ ops f (l.setIfInBounds i true) r
   else(Region.ready .any ops l).contains i&&Region.free .any ops l i&&mQ ops f (l.setIfInBounds i true) r
 | f+1,l,.alt a b=>!(Region.ready .any ops l).isEmpty&&(lC ops l).all (λj=>(iW (.alt a b)).any λx=>x.1 == j) &&
   (iW (.alt a b)).all λx=>rY ops x.1&&mQ ops f (l.setIfInBounds x.1 true) x.2
 | f+1,l,.pair i j=>(Region.ready .any ops l).contains i&&(Region.ready .any ops l).contains j&&(lC ops l).all (λm=>m == i||m == j)&&!(i == j) &&
   (lC ops (l.setIfInBounds i true)).all (· == j)&&(lC ops (l.setIfInBounds j true)).all (· == i)&&(Region.ready .any ops ((l.setIfInBounds i true).setIfInBounds j true)).isEmpty&&aC1 ops l&&Nat.ble 1 f
theorem aHt{T:List Nat}{j:Nat}{o:Oper}(ho:ops[j]?=some o)(B:∀k m,(T[k]?.getD 0).testBit m=true->Bef ops m k) :
  ∀(es:List Edge) (m:Nat),(∀e,e∈es->e∈o.after)->(∀k,m.testBit k=true->Bef ops k j)->∀k,(msk T es m).testBit k=true->Bef ops k j
 | [],m,_,u,k,q=>u k q
 | e::r,m,y,u,k,q=>by
  refine aHt ho B r _ (λe' h=>y e' (lL _ h)) (λk q=>?_) k q;split at q
  .rename_i G;simp only[Nat.testBit_or,wZ]at q;rcases q with(q|q)|q
   .exact u k q
   .rw[Nat.testBit_shiftLeft]at q;simp only[dI,dA]at q;obtain⟨L,z⟩:=q
    have:k-e.on=0:=by
     rcases Nat.eq_zero_or_pos (k-e.on)with h|h
     .exact h
     .have H:k-e.on≠0:=by omega
      rw[Nat.testBit_one_eq_true_iff_self_eq_zero]at z;exact z
    have q:k=e.on:=by omega
    subst q;exact .edge ho (y e aW) G
   .exact .step ho (y e aW) G (B _ _ q)
  .exact u k q
theorem aDq:∀(l:List Oper) (q:List Nat),(∀k,l[k]?=ops[q.length+k]?)->(∀k m,(q[k]?.getD 0).testBit m=true->Bef ops m k) ->
  ∀k m,((prs l q)[k]?.getD 0).testBit m=true->Bef ops m k
 | [],q,_,h=>h
 | o::r,q,hl,h=>by
  have ho:ops[q.length]?=some o:=by have:=hl 0;simpa using this.symm
  refine aDq r _ (λk=>?_) (λk m u=>?_)
  .have:=hl (k+1);simp only[List.getElem?_cons_succ]at this;rw[this,aI,List.length_singleton];congr 1;omega
  .by_cases z:k<q.length
   .rw[gO z]at u;exact h k m u
   .by_cases y:k=q.length
    .subst y;simp only[nO (bL _),Nat.sub_self,iZ,Option.getD_some]at u;exact aHt ho h o.after.toList 0 (λe y=>gQ y) (λk u=>by simp at u) m u
    .rw[qY (by simp;omega)]at u;simp at u
theorem aNL{E:List (Nat × List Nat)}(h:zD ops E=true){i m:Nat}{o B:Oper}(y:ops[i]?=some o)(z:ops[m]?=some B)(G:gL o.op=true)(hl:pH B.op=true) :
  (tQ E i).elem m=true\/Bef ops m i:=by
 simp only[zD,fR,qA]at h;have u:=h i (fQ.1 y).1;simp only[y,G,fV,iO,fR,qA]at u;have q:=u m (fQ.1 z).1;simp only[z,hl,fV,iO,wZ]at q;rcases q with q|q
 .exact .inl q
 .exact .inr (aDq ops.toList [] (λk=>by simp) (λk m H=>by simp at H) i m q)
theorem aGQ{e e':Env}(h:∀t,e.get t=e'.get t):dP C e=dP C e':=by
 funext x;cases x<;>first|(simp only[dP,h])|rfl
variable {E:List (Nat × List Nat)} {i:Nat} {next:List (Nat × (St->Prop))->Env->St->Prop}
theorem aEq{e:Env}{t:Nat}{a:A}(h:e.get t=some a):∀u,e.get u=(e.put t a).get u:=λu=>by
 rw[jP];by_cases m:t=u
 .subst m;simp[h]
 .simp[m]
theorem aM4{o:Oper}{KV:St->A->Prop}{e:Env}(L:gL o.op=true)(h:iN C n (ops.toList.map (·.dst)) E i next W Kp e s (some o))
  (O:∀e' s' v,(∀t,e.get t=e'.get t)->sI (tQ E i) s' W->bZ n o.dst (next W) e' s' v->KV s' v)
  (z:∀e',(∀t,e.get t=e'.get t)->bZ n o.dst (next W) e' s (.tuple [])->KV s (.tuple [])):gM C (ops.toList.map (·.dst)) o KV Kp e s:=by
 obtain⟨dst,op,ty,pos,after,gd⟩:=o
 have m:∀e',(∀t,e.get t=e'.get t)->kB C n E i dst op next W Kp e' s (gL op)->aY C op (dP C e) KV Kp s:=by
  intro e' q H;simp only at L;rw[L]at H;simp only[kB]at H;rw[aGQ q];exact aAx H (λs' v M=>O e' s' v q M.1 M.2) λ_ _ h=>h
 unfold gM;cases gd with
 | none=>exact m e (λ_=>rfl) h
 | some S =>
  obtain⟨j,u⟩:=S;simp only[iN]at h;cases G:iV (ops.toList.map (·.dst)) j with
  | none=>rw[G]at h;exact h.elim
  | some t =>
   rw[G]at h;simp only[wS]at h;refine⟨t,G,?_⟩;cases B:e.get t with
   | none=>rw[B]at h;exact h.elim
   | some a =>
    rw[B]at h;have y:=aEq B;cases a<;>simp only[mR]at h
    case bool b =>
     cases b<;>cases u<;>simp only at h
     .exact .inl ⟨false,rfl,.inl ⟨rfl,m _ y h⟩⟩
     .exact .inl ⟨false,rfl,.inr ⟨by simp,z _ y h⟩⟩
     .exact .inl ⟨true,rfl,.inr ⟨by simp,z _ y h⟩⟩
     .exact .inl ⟨true,rfl,.inl ⟨rfl,m _ y h⟩⟩
    case tuple l=>exact .inr ⟨l,rfl,z _ (λ_=>rfl) h⟩
theorem aG7{op:Op}{ρ:Operand->Option A}{G:A->Option (St->Prop)->Prop}(h:oO C op ρ s G) :
  ∃v y,G v y/\(∀p,y=some p->pH op=true/\p s)/\∀s' (KV:St->A->Prop),(∀p,y=some p->p s')->KV s' v->aY C op ρ KV Kp s':=by
 have m:bV C op ρ (qV G)->∃v y,G v y/\(∀p,y=some p->pH op=true/\p s)/\∀s' (KV:St->A->Prop),(∀p,y=some p->p s')->KV s' v->aY C op ρ KV Kp s':=by
  intro h;obtain⟨v,L,M⟩:=aGT h;exact⟨v,none,L,(λp u=>by cases u),λs' KV _ z=>yC (M (KV s') z)⟩
 cases op
 case load t x =>
  simp only[oO]at h;cases B:ρ x with
  | none=>rw[B]at h;exact m h
  | some a =>
   rw[B]at h;cases a
   case ptr b o =>
    simp only[zK]at h;cases hl:qL C t b o s with
    | none=>rw[hl]at h;exact h.elim
    | some v =>
     rw[hl]at h;refine⟨v,_,h,λp u=>by cases u;exact⟨rfl,hl⟩,λs' KV u z=>?_⟩;have q:qL C t b o s'=some v:=u _ rfl;unfold qL at q;simp only[aY,B];split at q
     .rename_i cs hcs;simp only[hcs,q];exact z
     .cases q
   all_goals exact m h
 case lookup t x k ok =>
  simp only[oO]at h;unfold lkX at h;split at h
  .rename_i b a B z;unfold lkL at h;split at h
   .rename_i v hl;refine⟨v,_,h,λp u=>by cases u;exact⟨rfl,hl⟩,λs' KV u H=>?_⟩;have q:tK C s' t ok b a=some v:=u _ rfl;simp only[aY,B,z,tZ,q];exact H
   .exact h.elim
  .exact h.elim
 all_goals exact m h
theorem aL6{o:Oper}{e:Env}(he:gL o.op=false)(h:iN C n (ops.toList.map (·.dst)) E i next W Kp e s (some o)) :
  ∃v q e',(∀t,e.get t=e'.get t)/\(∀p,q=some p->pH o.op=true/\p s) /\
   (∀s' (KV:St->A->Prop),(∀p,q=some p->p s')->KV s' v->gM C (ops.toList.map (·.dst)) o KV Kp e s')/\uB n o.dst i next W e' s v q:=by
 obtain⟨dst,op,ty,pos,after,gd⟩:=o;simp only at he;unfold gM;cases gd with
 | none =>
  simp only[iN,he,kB]at h;obtain⟨v,q,M,O,S⟩:=aG7 (Kp:=Kp) h;exact⟨v,q,e,λ_=>rfl,O,S,M⟩
 | some jw =>
  obtain⟨j,m⟩:=jw;simp only[iN]at h;cases B:iV (ops.toList.map (·.dst)) j with
  | none=>rw[B]at h;exact h.elim
  | some t =>
   rw[B]at h;simp only[wS]at h;cases u:e.get t with
   | none=>rw[u]at h;exact h.elim
   | some a =>
    rw[u]at h;have H:=aEq u
    have G:∀b,a=.bool b->b=m->kB C n E i dst op next W Kp (e.put t a) s (gL op)->∃v q e',(∀t,e.get t=e'.get t)/\(∀p,q=some p->pH op=true/\p s) /\
      (∀ s' (KV : St → A → Prop),(∀ p,q = some p → p s') → KV s' v → ∃ t',iV (ops.toList.map (·.dst)) j = some t' ∧
       ((∃b,e.get t'=some (.bool b)/\((b=m/\aY C op (dP C e) KV Kp s')\/(b≠m/\KV s' (.tuple []))))\/(∃l,e.get t'=some (.tuple l)/\KV s' (.tuple [])))) /\
      uB n dst i next W e' s v q:=by
     intro b U Z L;rw[he]at L;simp only[kB]at L;rw[<-aGQ H]at L;obtain⟨v,q,M,O,S⟩:=aG7 (Kp:=Kp) L;exact⟨v,q,e.put t a,H,O,λs' KV z y=>⟨t,B,.inl ⟨b,by rw[u,U],.inl ⟨Z,S s' KV z y⟩⟩⟩,M⟩
    cases a<;>simp only[mR]at h
    case bool b =>
     cases b<;>cases m<;>simp only at h
     .exact G false rfl rfl h
     .exact⟨.tuple [],none,_,H,(λp z=>by cases z),λs' KV _ y=>⟨t,B,.inl ⟨false,u,.inr ⟨by simp,y⟩⟩⟩,h⟩
     .exact⟨.tuple [],none,_,H,(λp z=>by cases z),λs' KV _ y=>⟨t,B,.inl ⟨true,u,.inr ⟨by simp,y⟩⟩⟩,h⟩
     .exact G true rfl rfl h
    case tuple l=>exact⟨.tuple [],none,e,λ_=>rfl,(λp z=>by cases z),λs' KV _ y=>⟨t,B,.inr ⟨l,u,y⟩⟩,h⟩
end
end
section
section
variable {C:Cx} {n:Nat} {ops:Array Oper} {K:Env->St->Prop} {Kp:St->A->Prop} {W:List (Nat × (St->Prop))} {s:St} {E:List (Nat × List Nat)}
theorem aGM{y:List Nat}{w:Nat × (St->Prop)}:∀{W:List (Nat × (St->Prop))},sI y s W->w∈W->y.elem w.1=true->w.2 s
 | [],_,h,_=>by cases h
 | (m,p)::W,q,h,u=>by
  cases h with
  | head=>have:=q.1;rwa[aE u]at this
  | tail _ h=>exact aGM q.2 h u
theorem Dead.set{l:Array Bool}{m i:Nat}(h:Dead ops m l):Dead ops m (l.setIfInBounds i true):=by
 obtain⟨j,o,q,u,y,z⟩:=h;exact⟨j,o,q,u,getD_set_true y,z⟩
theorem aMz{i:Nat}:∀(f:Nat) (l:Array Bool) (e:Env) (s:St),eN C n ops K Kp W f l e s->eN C n ops K Kp ((i,λ_=>True)::W) f l e s:=by
 have y:∀(l:Array Bool) (s:St),chk ops W l s->chk ops ((i,λ_=>True)::W) l s:=by
  intro l s h w u q;cases u with
  | head=>trivial
  | tail _ u=>exact h w u q
 intro f
 induction f with
 | zero=>intro l e s h;exact⟨y _ _ h.1,h.2⟩
 | succ f z =>
  intro l e s h;refine⟨y _ _ h.1,h.2.1,λj B o ho=>uN (h.2.2 j B o ho) λs' v m=>?_⟩;unfold bZ at *;cases q:o.dst with
  | none=>rw[q]at m;exact z _ _ _ m
  | some d=>rw[q]at m;exact⟨m.1,z _ _ _ m.2⟩
theorem aLf{l:Array Bool}{i:Nat}(h:i∈Region.ready .any ops l):∃o,ops[i]?=some o:=by
 obtain⟨_,o,ho,_⟩:=mem_ready.1 h;exact⟨o,ho⟩
theorem aMH{g:Gh}{k:Nat}{es:List A}{x v:A}{z:Nat}{Z:Value}(h:Rz g (.list (some k) (es++[x])) Z)(hx:x.cells.length=z)(he:g.ends k es.length v):Rz g (.pen k es z) Z:=by
 obtain⟨a,cap,rfl,hm,H,O,hr⟩:=h.list_inv;rcases hr with h0|⟨b,off,sz,pre,rfl,hp,hl,L,h1,hh⟩
 .simp at h0
 obtain⟨S,m,U,k1,k2,k3,k4,k5,k6,k7,k8⟩:=he;have G:=O k rfl;have B:(es++[x]).length=es.length+1:=by simp
 rw[B]at G H hl⊢;rw[k1]at G;simp only[bI,nR,qB,nW,gT]at G;obtain⟨⟨rfl,rfl⟩,rfl⟩:=G;have M:sz=z:=by rw[<-L x aW,hx]
 subst M
 refine .pen k es sz S m (.list (some k) es S 0 sz m pre hp ?_ aB hm (λy q=>L y (by simp[q])) (λy q=>h1 y (by simp[q])) (λi y j c u q H hu=>?_) (λt O=>by cases O;exact k2)) H
  (λy q=>L y (by simp[q]))
 .rw[eT]at hl;omega
 .have hi:i<es.length:=(dG.1 q).1;exact hh i y j c u (by rw[gO hi];exact q) H hu
theorem aAs(s:St)(k:Nat)(es:List A)(z:Nat):(gA s (.pen k es z)).cells=[gA s (.pen k es z)]/\(gA s (.pen k es z)).one=true:=by
 simp only[gA];cases s.ls with
 | none=>exact⟨rfl,rfl⟩
 | some q=>simp only[yV];split<;>exact⟨rfl,rfl⟩
theorem aMU{k:Nat}{e:TypeId}{v:A}{b o z:Nat}{E:TypeId}{cs es:List A}(hv:v.cells.length=z) :
  Rle C (((s.setO b (.cells E (kV cs o (gA s (.pen k es z)).cells))).setT k (es.length+1,e)).setL (some (k,es.length,v)))
   (((s.setT k (es.length+1,e)).setL (some (k,es.length,v))).setO b (.cells E (kV cs o (gA ((s.setT k (es.length+1,e)).setL (some (k,es.length,v))) (.pen k es z)).cells))):=by
 intro F g w h;refine⟨λq x H=>?_,h.tok,h.sep,h.pis,h.frm,h.glb,h.fsh,h.bet,h.inj,h.dtm,h.lst,h.bfr,h.env⟩;rw[aH]at H;by_cases hq:b=q
 .subst hq;simp only[↓reduceIte,bI]at H;subst H
  have h2:(((s.setO b (.cells E (kV cs o (gA s (.pen k es z)).cells))).setT k (es.length+1,e)).setL (some (k,es.length,v))).getO b=some (.cells E (kV cs o (gA s (.pen k es z)).cells)):=by
   rw[dR,cU,aH];simp
  obtain⟨j,h3,h4,h5⟩:=h.obj b _ h2;refine⟨j,h3,?_,h5⟩;obtain⟨vs,rest,h6,S,h8⟩:=h4;have Z:kV cs o (gA s (.pen k es z)).cells=cs.set o (gA s (.pen k es z)):=by rw[(aAs s k es z).1];rfl
  have L:kV cs o (gA ((s.setT k (es.length+1,e)).setL (some (k,es.length,v))) (.pen k es z)).cells=cs.set o (gA ((s.setT k (es.length+1,e)).setL (some (k,es.length,v))) (.pen k es z)):=by
   rw[(aAs _ k es z).1];rfl
  rw[Z]at S h8;refine⟨vs,rest,h6,?_,?_⟩
  ·rw [L];refine ⟨gQ S.1,fun i c u m hu => ?_⟩;by_cases M : o = i
   .subst M;by_cases O:o<cs.length
    .rw[pY,aE rfl,aE O]at m;cases m;have y:=S.2 o _ u (by rw[pY,aE rfl,aE O]) hu;have B:g.ends k es.length v:=h.lst _ rfl
     have U:Rz g (.pen k es z) u:=by
      simp only[gA]at y;cases hl:s.ls with
      | none=>rw[hl]at y;exact y
      | some q =>
       rw[hl]at y;simp only[yV]at y;split at y
       .rename_i m;exact aMH y m.2.2 B
       .exact y
     exact aG0 h U
    .rw[qY (by simp;omega)]at m;cases m
   .rw[List.getElem?_set_ne M]at m;exact S.2 i c u (by rw[List.getElem?_set_ne M];exact m) hu
  .intro c m;rw[L]at m;obtain⟨i,M,rfl⟩:=hU m;have b0:i<cs.length:=gQ M;by_cases G:o=i
   .subst G;rw[List.getElem_set_self];exact(aAs _ k es z).2
   .rw[List.getElem_set_ne G];exact h8 _ (cR (i:=i) (by rw[List.getElem?_set_ne G,aV b0]))
 .simp only[hq,↓reduceIte]at H;refine h.obj q x ?_;rw[dR,cU,aH,aD hq];rw[dR,cU]at H;exact H
theorem aKO{e:Env}{a b:Option Oper}(h:yL C e a b):∃t x y ty pos after H B G u q m k es z c o,
  a=some ⟨none,.store t x y,ty,pos,after,none⟩/\b=some ⟨none,.store H B G,u,q,m,none⟩ /\
  dP C e x=some (.rm k es.length z)/\dP C e B=some (.ptr c o)/\dP C e G=some (.pen k es z):=by
 unfold yL at h;split at h;rotate_left
 .exact h.elim
 rename_i t x y ty pos after H B G u q m;unfold aDC at h;split at h;rotate_left
 .exact h.elim
 rename_i a b c L M O;split at h;rotate_left
 .exact h.elim
 split at h;rotate_left
 .exact h.elim
 split at h;rotate_left
 .exact h.elim
 obtain⟨rfl,rfl,rfl⟩:=h;exact⟨t,x,y,ty,pos,after,H,B,G,u,q,m,_,_,_,_,_,rfl,rfl,L,M,O⟩
theorem aKx{l:Array Bool}(h:aC1 ops l=true){m:Nat}{z:Oper}(y:ops[m]?=some z)(hl:pH z.op=true):Dead ops m l:=by
 simp only[aC1,fR,qA]at h;have u:=h m (fQ.1 y).1;simp only[y,hl,fV,iO,List.any_eq_true,qA,dI]at u;obtain⟨j,L,⟨q,B⟩,G⟩:=u;cases ho:ops[j]? with
 | none=>simp[rY,ho]at q
 | some o =>
  simp only[rY,ho]at q;exact⟨j,o,ho,q,B,aDq ops.toList [] (λk=>by simp) (λk m H=>by simp at H) j m G⟩
theorem aMZ(bl:∀e s s',Rle C s s'->K e s'->K e s){f:Nat}{l:Array Bool}{i j:Nat}{e:Env}(ht:mQ ops (f+1) l (.pair i j)=true)(bw:DC ops l)(hc:chk ops W l s)
  (hW:∀w,w∈W->∃o,ops[w.1]?=some o/\pH o.op=true)
  (h:fK C n (ops.toList.map (·.dst)) ops.toList E K Kp (.pair i j) W e s):eN C n ops K Kp W (f+1) l e s:=by
 simp only[mQ,dI,List.contains_iff_mem,fR,wZ,beq_iff_eq,kO,wW,bJ,List.isEmpty_iff]at ht;obtain⟨⟨⟨⟨⟨⟨⟨⟨hi,hj⟩,hz⟩,b5⟩,bn⟩,bp⟩,b2⟩,b4⟩,hf⟩:=ht;obtain⟨f,rfl⟩:∃f',f=f'+1:=⟨f-1,by have:=gN hf;omega⟩
 have B:∀(l':Array Bool) (s':St),(∀m,Dead ops m l->Dead ops m l')->chk ops W l' s':=λl' s' hl w hw bm=>by
  obtain⟨om,h1,h2⟩:=hW w hw;exact cV (hl _ (aKx b4 h1 h2)) bm
 have b6:Region.ready .any ops ((l.setIfInBounds j true).setIfInBounds i true)=[]:=by rw[Array.setIfInBounds_comm _ _ (λe=>b5 e.symm)];exact b2
 have b3:∀(l':Array Bool) (e:Env) (s:St),Region.ready .any ops l'=[]->(∀m,Dead ops m l->Dead ops m l')->K e s->eN C n ops K Kp W f l' e s:=by
  intro l' e s h1 h2 h3;cases f with
  | zero=>exact⟨B _ _ h2,h1,h3⟩
  | succ f=>exact⟨B _ _ h2,λ_=>h3,λm M=>by have:=uP M;rw[h1]at this;cases this⟩
 simp only[fK,aC5,wV]at h;obtain⟨hp,u⟩:=h;obtain⟨t,x,y,ty,pos,after,t',x',y',bz,bt,bj,k,es,z,c,o,ho,b7,hx,b0,b1⟩:=aKO hp;rw[ho,b7]at u;simp only[iN,gL,kB,aY,hx,b0,b1]at u;cases hy:dP C e y with
 | none=>rw[hy]at u;exact u.elim
 | some v =>
 cases U:C.tt t with
 | none=>rw[hy,U]at u;exact u.elim
 | some ti =>
 rw[hy,U]at u;simp only[pU]at u;cases Z:s.getT k with
 | none=>rw[Z]at u;exact u.elim
 | some me =>
 obtain⟨m,bh⟩:=me;rw[Z]at u;simp only at u;cases S:C.tt bh with
 | none=>rw[S]at u;exact u.elim
 | some te =>
 rw[S]at u;obtain⟨⟨rfl,bd,bf,b9,bg⟩,bv,u⟩:=u;simp only[bZ,b0,b1]at u;cases L:C.tt t' with
 | none=>rw[L]at u;exact u.elim
 | some br =>
 rw[L]at u;simp only[dR,cU]at u;cases hb:s.getO c with
 | none=>rw[hb]at u;exact u.elim
 | some ob =>
 cases ob with
 | iter _ _=>rw[hb]at u;exact u.elim
 | map _ _=>rw[hb]at u;exact u.elim
 | cells E0 cs =>
 rw[hb]at u;obtain⟨bb,_,hK⟩:=u;simp only[bZ]at hK;have H:=λs':St=>aAs s' k es z
 have bc:1=br.sz/\o+1<=cs.length:=by
  obtain⟨q1,q2,_⟩:=bb;rw[(H _).1]at q1 q2;exact⟨q1,q2⟩
 have bk:=bl e _ _ (aMU (C:=C) (s:=s) (e:=bh) (b:=c) (o:=o) (E:=E0) (cs:=cs) b9) hK;refine⟨hc,λhr=>(by rw[hr]at hi;cases hi),λq hq oq O=>?_⟩;rcases hz q hq with rfl|rfl
 .rw[ho]at O;cases O;simp only[gM,aY,hx,hy,U,pU,Z,S,bZ];refine⟨⟨trivial,bd,bf,b9,bg⟩,B _ _ (λm M=>M.set),λhr=>?_,λq2 b8 bq G=>?_⟩
  .have:=ready_mono hj (λe=>b5 e.symm);rw[hr]at this;cases this
  .have:=bn q2 b8;subst this;rw[b7]at G;cases G;simp only[gM,aY,b0,b1,L,dR,cU,hb,bZ];exact⟨bb,b3 _ _ _ b2 (λm M=>M.set.set) hK⟩
 .rw[b7]at O;cases O;simp only[gM,aY,b0,b1,L,hb,bZ];refine⟨?_,B _ _ (λm M=>M.set),λhr=>?_,λq2 b8 bq G=>?_⟩
  .rw[(H s).1];refine⟨bc.1,bc.2,?_⟩;simp only[fE,List.all_cons,List.all_nil,(H s).2];rfl
  .have:=ready_mono hi b5;rw[hr]at this;cases this
  .have:=bp q2 b8;subst this;rw[ho]at G;cases G;simp only[gM,aY,hx,hy,U,pU,St.getT_setO,Z,S,bZ];exact⟨⟨trivial,bd,bf,b9,bg⟩,b3 _ _ _ b6 (λm M=>M.set.set) bk⟩
theorem aFq{t:OT}{e:Env}:fK C n (ops.toList.map (·.dst)) ops.toList E K Kp t W e s->∀x,x∈iW t ->
  iN C n (ops.toList.map (·.dst)) E x.1 (fK C n (ops.toList.map (·.dst)) ops.toList E K Kp x.2) W Kp e s (ops[x.1]?):=by
 induction t with
 | nil=>intro _ x m;cases m
 | node i r _ =>
  intro h x m;simp only[iW,cC]at m;subst m;simp only[fK,aC5,wV]at h;exact h
 | alt a b q u =>
  intro h x m;simp only[iW,dK]at m;rcases m with m|m
  .exact q h.1 x m
  .exact u h.2 x m
 | pair i j=>intro _ x m;cases m
theorem aNZ(hE:zD ops E=true)(hK:∀e e' s,(∀t,e.get t=e'.get t)->K e s->K e' s)(b5:∀e s s',Rle C s s'->K e s'->K e s) :
  ∀(f:Nat) (l:Array Bool) (t:OT) (W:List (Nat × (St->Prop))) (e:Env) (s:St),mQ ops f l t=true->DC ops l->chk ops W l s ->
   (∀w,w∈W->∃o,ops[w.1]?=some o/\pH o.op=true) ->
   fK C n (ops.toList.map (·.dst)) ops.toList E K Kp t W e s->eN C n ops K Kp W f l e s:=by
 intro f
 induction f with
 | zero =>
  intro l t W e s m z O hW h;cases t<;>simp only[mQ]at m<;>try cases m
  exact⟨O,gQ m,h⟩
 | succ f ih =>
  intro l t W e s m z O hW h
  have b0:∀i r,i∈Region.ready .any ops l->rY ops i=true->mQ ops f (l.setIfInBounds i true) r=true ->
    iN C n (ops.toList.map (·.dst)) E i (fK C n (ops.toList.map (·.dst)) ops.toList E K Kp r) W Kp e s (ops[i]?) ->
    ∀o,ops[i]?=some o->gM C (ops.toList.map (·.dst)) o (bZ n o.dst (eN C n ops K Kp W f (l.setIfInBounds i true)) e) Kp e s:=by
   intro i r hr he hk hs o ho;rw[ho]at hs;simp only[rY,ho]at he
   have b8:(l.setIfInBounds i true).getD i false=true:=by
    have:=(rL (mem_ready.1 hr).1).1;simp[this]
   have done:∀e' s' v,(∀t,e.get t=e'.get t)->chk ops W (l.setIfInBounds i true) s' ->
     bZ n o.dst (fK C n (ops.toList.map (·.dst)) ops.toList E K Kp r W) e' s' v->bZ n o.dst (eN C n ops K Kp W f (l.setIfInBounds i true)) e s' v:=by
    intro e' s' v u b1 y;unfold bZ at *;cases S:o.dst with
    | none=>rw[S]at y;exact tE hK _ _ _ _ _ (λt=>(u t).symm) (ih _ r W e' s' hk (z.set hr) b1 hW y)
    | some d =>
     rw[S]at y;refine⟨y.1,tE hK _ _ _ _ _ (λt=>?_) (ih _ r W _ s' hk (z.set hr) b1 hW y.2)⟩;rw[jP,jP];split<;>simp[u]
   refine aM4 he hs (λe' s' v u b6 y=>done e' s' v u (λw B hl=>?_) y) (λe' u y=>done e' s _ u (λw B hl=>O w B λS=>hl S.set) y);obtain⟨om,h1,h2⟩:=hW w B;rcases aNL hE ho h1 he h2 with L|L
   .exact aGM b6 B L
   .exact cV ⟨i,o,ho,he,b8,L⟩ hl
  cases t with
  | nil =>
   simp only[mQ]at m;have b4:Region.ready .any ops l=[]:=gQ m;exact⟨O,λ_=>h,λi hi=>by have hi:=uP hi;rw[b4]at hi;cases hi⟩
  | node i r =>
   simp only[mQ]at m;have hs:=aFq h (i,r) (by simp[iW]);simp only at hs;split at m
   .rename_i G;simp only[dI,List.contains_iff_mem,fR,beq_iff_eq]at m;refine⟨O,λhr=>(by rw[hr]at m;cases m.1.1),λj hj o ho=>?_⟩;have:=m.1.2 j hj;subst this;exact b0 _ r (uP hj) G m.2 hs o ho
   .rename_i G;simp only[dI,List.contains_iff_mem]at m;obtain⟨o,ho⟩:=aLf m.1.1;have H:gL o.op=false:=by simpa [rY,ho]using G
    rw[ho]at hs;obtain⟨v,Z,e',u,h1,h2,L⟩:=aL6 H hs
    have next:bZ n o.dst (eN C n ops K Kp ((i,λs=>∀p,Z=some p->p s)::W) f (l.setIfInBounds i true)) e s v:=by
     have b3:chk ops W (l.setIfInBounds i true) s:=λw B hl=>O w B λS=>hl S.set
     have fin:∀M s1,chk ops W (l.setIfInBounds i true) s1->(∀p,Z=some p->p s1) ->
       (match Z with|none=>fK C n (ops.toList.map (·.dst)) ops.toList E K Kp r W M s1|some p=>fK C n (ops.toList.map (·.dst)) ops.toList E K Kp r ((i,p)::W) M s1) ->
       eN C n ops K Kp ((i,λs=>∀p,Z=some p->p s)::W) f (l.setIfInBounds i true) M s1:=by
      intro M s1 b2 y hx;cases U:Z with
      | none =>
       rw[U]at hx;have:=aMz (i:=i) _ _ _ _ (ih _ r W M s1 m.2 (z.set m.1.1) b2 hW hx);have M:(λs:St=>∀p:St->Prop,(none:Option (St->Prop))=some p->p s)=λ_=>True:=by funext s;simp
       rw[M];exact this
      | some p =>
       rw[U]at hx;have M:(λs:St=>∀q:St->Prop,some p=some q->q s)=p:=by funext s;simp
       rw[M];refine ih _ r _ _ s1 m.2 (z.set m.1.1) ?_ ?_ hx
       .intro w B hl;cases B with
        | head=>exact y p U
        | tail _ B=>exact b2 w B hl
       .intro w B;cases B with
        | head=>exact⟨o,ho,(h1 p U).1⟩
        | tail _ B=>exact hW w B
     unfold uB at L;unfold bZ at *;cases S:o.dst with
     | none =>
      rw[S]at L;refine tE hK _ _ e' _ _ (λt=>(u t).symm) (fin e' s b3 (λp y=>(h1 p y).2) ?_);cases Z<;>exact L
     | some d =>
      rw[S]at L;have b7:d<n:=by cases Z<;>exact L.1
      refine⟨b7,tE hK _ _ (e'.put d v) _ _ (λt=>?_) (fin _ s b3 (λp y=>(h1 p y).2) ?_)⟩
      .rw[jP,jP];split<;>simp[u]
      .cases Z<;>exact L.2
    exact aMn ho H hK v (λs=>∀p,Z=some p->p s) f l e s z (Region.free_spec ho m.1.2) m.1.1 (λs' KV y hk=>h2 s' KV y hk) (λp y=>(h1 p y).2) O next
  | alt a b =>
   simp only[mQ,dI,fR,List.any_eq_true,beq_iff_eq,kO]at m;obtain⟨⟨h0,h1⟩,h2⟩:=m;refine⟨O,λhr=>(by rw[hr]at h0;cases h0),λj hj o ho=>?_⟩;obtain⟨x,hx,rfl⟩:=h1 j hj;exact b0 x.1 x.2 (uP hj) (h2 x hx).1 (h2 x hx).2 (aFq h x hx) o ho
  | pair i j=>exact aMZ b5 m z O hW h
theorem aMA{op:Op}{ρ:Operand->Option A}{u m:A->Option (St->Prop)->Prop}(h:oO C op ρ s u)(q:∀v z,u v z->m v z):oO C op ρ s m:=by
 cases op
 case load t x =>
  simp only[oO]at h⊢;cases y:ρ x with
  | none=>rw[y]at h;exact kU (C:=C) (ρ:=ρ) (op:=.load t x) (K:=qV u) (K':=qV m) h λv=>q v none
  | some a =>
   rw[y]at h;cases a
   case ptr b o =>
    simp only[zK]at h⊢;cases hl:qL C t b o s with
    | none=>rw[hl]at h;exact h.elim
    | some v=>rw[hl]at h;exact q _ _ h
   all_goals exact kU (C:=C) (ρ:=ρ) (op:=.load t x) (K:=qV u) (K':=qV m) h λv=>q v none
 case lookup t x k ok =>
  simp only[oO]at h⊢;unfold lkX at h⊢;split at h
  .unfold lkL at h⊢;split at h
   .exact q _ _ h
   .exact h.elim
  .exact h.elim
 all_goals (simp only[oO]at h⊢;exact kU h λv=>q v none)
theorem aCH{next m:List (Nat × (St->Prop))->Env->St->Prop}{i:Nat}{e:Env}{ds:List (Option Tmp)}(H:∀W e s,next W e s->m W e s){z:Option Oper}
  (h:iN C n ds E i next W Kp e s z):iN C n ds E i m W Kp e s z:=by
 have put:∀{dst:Option Tmp} {W:List (Nat × (St->Prop))} {e:Env} {s:St} {v:A},bZ n dst (next W) e s v->bZ n dst (m W) e s v:=by
  intro dst W e s v h;unfold bZ at *;cases dst with
  | none=>exact H _ _ _ h
  | some d=>exact⟨h.1,H _ _ _ h.2⟩
 cases z with
 | none=>exact h
 | some o =>
  obtain⟨dst,op,ty,pos,after,gd⟩:=o
  have y:∀e,kB C n E i dst op next W Kp e s (gL op)->kB C n E i dst op m W Kp e s (gL op):=by
   intro e h;cases B:gL op with
   | true=>rw[B]at h;exact aAx h (λs' v u=>⟨u.1,put u.2⟩) λ_ _ h=>h
   | false =>
    rw[B]at h;refine aMA h λv O u=>?_
    cases O<;>exact put u
  cases gd with
  | none=>exact y e h
  | some M =>
   obtain⟨j,q⟩:=M;simp only[iN]at h⊢;cases L:iV ds j with
   | none=>rw[L]at h;exact h.elim
   | some t =>
    rw[L]at h;simp only[wS]at h⊢;cases G:e.get t with
    | none=>rw[G]at h;exact h.elim
    | some a =>
     rw[G]at h;cases a<;>simp only[mR]at h⊢
     case bool b =>
      cases b<;>cases q<;>simp only at h⊢
      .exact y _ h
      .exact put h
      .exact put h
      .exact y _ h
     case tuple l=>exact put h
theorem aAp{K':Env->St->Prop}{ds:List (Option Tmp)}{q:List Oper}(m:∀e s,K e s->K' e s):∀(t:OT) (W:List (Nat × (St->Prop))) (e:Env) (s:St),
  fK C n ds q E K Kp t W e s->fK C n ds q E K' Kp t W e s
 | .nil,W,e,s,h=>m e s h
 | .node i r,W,e,s,h=>by
  simp only[fK]at h⊢;exact aCH (λW e s=>aAp m r W e s) h
 | .alt a b,W,e,s,h=>⟨aAp m a W e s h.1,aAp m b W e s h.2⟩
 | .pair i j,W,e,s,h=>⟨h.1,aCH (λW e s h=>aCH (λW e s h=>m e s h) h) h.2⟩
theorem aM8(n:Nat):pV (Array.replicate n false)<=n:=by simp[pV]
theorem aKV{tt:TypeId->Option TI}(h:aAZ tt ops=true):∀i t o,ops[i]?=some o->late ops i=true->o.op=.alloc t->(tt t).isSome=true:=by
 intro i t o ho hl q;simp only[aAZ,fR,qA]at h;have m:=h i (fQ.1 ho).1;simp only[hl,ho,q,fV,iO]at m;exact m
theorem aNr{id:Nat}{V:List Nat}{q:XK->Env->St->Prop}{e:Env}(t:OT)(E:List (Nat × List Nat))
  (hm:C.P.follows .mixedOrders=true)
  (u:(zD ops E&&mQ ops ops.size (Array.replicate ops.size false) t&&aAZ C.tt ops)=true)
  (h:fK C n (ops.toList.map (·.dst)) ops.toList E (jH V q) (tT q (ops.toList.map (·.dst)) e) t [] e s):aBa C n id ops (jY (jH V q) q) e s:=by
 simp only[dI]at u
 have y:∀(e e':Env) (s:St),(∀t,e.get t=e'.get t)->(∃m s2,e.ge m/\Rle C s s2/\jH V q m s2)->∃m s2,e'.ge m/\Rle C s s2/\jH V q m s2 :=
  λe e' s G ⟨m,s2,H,L⟩=>⟨m,s2,λt a ha=>by rw[<-G t];exact H t a ha,L⟩
 have B:∀(e:Env) (s s':St),Rle C s s'->(∃m s2,e.ge m/\Rle C s' s2/\jH V q m s2)->∃m s2,e.ge m/\Rle C s s2/\jH V q m s2 :=
  λe s s' hr ⟨m,s2,H,L,Z⟩=>⟨m,s2,H,λF g w M=>L F g w (hr F g w M),Z⟩
 have mono:∀(t:OT) (W:List (Nat × (St->Prop))) (e':Env) (s:St),fK C n (ops.toList.map (·.dst)) ops.toList E (jH V q) (tT q (ops.toList.map (·.dst)) e) t W e' s ->
   fK C n (ops.toList.map (·.dst)) ops.toList E (λe s=>∃m s2,e.ge m/\Rle C s s2/\jH V q m s2) (tT q (ops.toList.map (·.dst)) e) t W e' s:=by
  exactλt W e s h=>aAp (λe s z=>⟨e,s,Env.ge.refl e,Rle.refl s,z⟩) t W e s h
 intro F g w a M G;refine wp_region_any hm ?_
 have O:DC ops (Array.replicate ops.size false):=by
  intro j o ho hl;exfalso;by_cases U:j<ops.size
  .simp[U]at hl
  .simp[U]at hl
 have hA:=aNZ u.1.1 y B ops.size _ t [] e s u.1.2 O (λw S=>by cases S) (λw S=>by cases S) (mono t [] e s h);refine aN7 (aGy e) (Q:=jY (jH V q) q) (λe s z=>z) (λs v z=>z) (aKV u.2) _ _ g e s a _ (aM8 _) (dW g) ?_ G (aHp G) rfl hA;exact M.heap rfl
end
section
variable (C:Cx) (n:Nat) (ds:List (Option Tmp)) (ops:List Oper) (E:List (Nat × List Nat)) (K:Env->St->Prop) (Kp:St->A->Prop) (W:List (Nat × (St->Prop))) (e:Env) (s:St)
 (next:List (Nat × (St->Prop))->Env->St->Prop)(KK:A->Option (St->Prop)->Prop)
@[go_sem] theorem aQa(t:OT):OT.l [] t=t:=rfl
@[go_sem] theorem aPZ(i:Nat)(r:List Nat)(t:OT):OT.l (i::r) t=.node i (OT.l r t):=rfl
@[go_sem] theorem aP6:fK C n ds ops E K Kp .nil W e s=K e s:=rfl
@[go_sem] theorem aPI(i:Nat)(r:OT):fK C n ds ops E K Kp (.node i r) W e s=iN C n ds E i (fK C n ds ops E K Kp r) W Kp e s (jG ops i):=rfl
@[go_sem] theorem aP9(a b:OT):fK C n ds ops E K Kp (.alt a b) W e s=(fK C n ds ops E K Kp a W e s/\fK C n ds ops E K Kp b W e s):=rfl
@[go_sem] theorem aPM(i j:Nat):fK C n ds ops E K Kp (.pair i j) W e s=(yL C e (jG ops i) (jG ops j)/\iN C n ds E i (λW e s=>iN C n ds E j (λ_=>K) W Kp e s (jG ops j)) W Kp e s (jG ops i)):=rfl
@[go_sem] theorem aPn(o:Oper)(r:List Oper):jG (o::r) 0=some o:=rfl
@[go_sem] theorem aPh(o:Oper)(r:List Oper)(i:Nat):jG (o::r) (i+1)=jG r i:=rfl
@[go_sem] theorem aPz (i : Nat) (dst : Option Tmp) (op : Op) (ty : TypeId) (pos : String) (after : Array Edge) :
  iN C n ds E i next W Kp e s (some ⟨dst,op,ty,pos,after,none⟩)=kB C n E i dst op next W Kp e s (gL op):=rfl
@[go_sem] theorem aPd (i : Nat) (dst : Option Tmp) (op : Op) (ty : TypeId) (pos : String) (after : Array Edge) (j : Nat) (h : Bool) :
  iN C n ds E i next W Kp e s (some ⟨dst,op,ty,pos,after,some (j,h)⟩)=wS C n E i dst op next W Kp e s h (iV ds j):=rfl
@[go_sem] theorem aPD(i:Nat)(dst:Option Tmp)(op:Op)(h:Bool)(t:Nat):wS C n E i dst op next W Kp e s h (some t)=mR C n E i dst op next W Kp e s t h (e.get t):=rfl
@[go_sem] theorem aQv(i:Nat)(dst:Option Tmp)(op:Op)(t:Nat):mR C n E i dst op next W Kp e s t true (some (.bool true))=kB C n E i dst op next W Kp (e.put t (.bool true)) s (gL op):=rfl
@[go_sem] theorem aQr(i:Nat)(dst:Option Tmp)(op:Op)(t:Nat):mR C n E i dst op next W Kp e s t true (some (.bool false))=bZ n dst (next W) (e.put t (.bool false)) s (.tuple []):=rfl
@[go_sem] theorem aQK(i:Nat)(dst:Option Tmp)(op:Op)(t:Nat):mR C n E i dst op next W Kp e s t false (some (.bool true))=bZ n dst (next W) (e.put t (.bool true)) s (.tuple []):=rfl
@[go_sem] theorem aQz(i:Nat)(dst:Option Tmp)(op:Op)(t:Nat):mR C n E i dst op next W Kp e s t false (some (.bool false))=kB C n E i dst op next W Kp (e.put t (.bool false)) s (gL op):=rfl
@[go_sem] theorem aQ2 (i : Nat) (dst : Option Tmp) (op : Op) (t : Nat) (h : Bool) (l : List A) : mR C n E i dst op next W Kp e s t h (some (.tuple l)) = bZ n dst (next W) e s (.tuple []) := by
  cases h<;>rfl
@[go_sem] theorem aPN(i:Nat)(dst:Option Tmp)(op:Op):kB C n E i dst op next W Kp e s true=aY C op (dP C e) (aDG n dst (tQ E i) next W e) Kp s:=rfl
@[go_sem] theorem aPp(i:Nat)(dst:Option Tmp)(op:Op):kB C n E i dst op next W Kp e s false=oO C op (dP C e) s (uB n dst i next W e s):=rfl
@[go_sem] theorem aP2(dst:Option Tmp)(h:List Nat)(v:A):aDG n dst h next W e s v=(sI h s W/\bZ n dst (next W) e s v):=rfl
@[go_sem] theorem aPB(dst:Option Tmp)(i:Nat)(v:A):uB n dst i next W e s v none=bZ n dst (next W) e s v:=rfl
@[go_sem] theorem aPQ(dst:Option Tmp)(i:Nat)(v:A)(p:St->Prop):uB n dst i next W e s v (some p)=bZ n dst (next ((i,p)::W)) e s v:=rfl
@[go_sem] theorem aQl(v:A):qV KK v=KK v none:=rfl
@[go_sem] theorem aPY(t:TypeId)(b o:Nat)(v:A):tkL C t b o KK (some v)=KK v (some (aDm C t b o v)):=rfl
@[go_sem] theorem aP3(t:TypeId)(op:Op)(ρ:Operand->Option A)(b o:Nat):zK C t op ρ s KK (some (.ptr b o))=tkL C t b o KK (qL C t b o s):=rfl
@[go_sem] theorem aPE(t:TypeId)(op:Op)(ρ:Operand->Option A)(cs:List A)(o:Nat):zK C t op ρ s KK (some (.eptr cs o))=bV C op ρ (qV KK):=rfl
@[go_sem] theorem aPs(t:TypeId)(b o:Nat)(v:A):aDm C t b o v s=(qL C t b o s=some v):=rfl
@[go_sem] theorem aQb(h:List Nat):sI h s []=True:=rfl
@[go_sem] theorem aPX(h:List Nat)(m:Nat)(p:St->Prop):sI h s ((m,p)::W)=((if h.elem m=true then p s else True)/\sI h s W):=rfl
end
attribute [go_sem] lkX lkL aHf aBe tZ wJ tK wO zA lkV
@[go_sem] theorem aQX:Nat.beq 0 2=false:=rfl
@[go_sem] theorem aQ1:Nat.beq 1 2=false:=rfl
@[go_sem] theorem aQZ:Nat.beq 2 2=true:=rfl
@[go_sem] theorem aQV:Nat.beq 3 2=false:=rfl
@[go_sem] theorem aQQ:Nat.beq 4 2=false:=rfl
@[go_sem] theorem aQS:Nat.beq 5 2=false:=rfl
@[go_sem] theorem aQO:Nat.beq 6 2=false:=rfl
@[go_sem] theorem aQY:Nat.beq 7 2=false:=rfl
@[go_sem] theorem aQP:Nat.beq 8 2=false:=rfl
@[go_sem] theorem aQR:Nat.beq 9 2=false:=rfl
@[go_sem] theorem aQt:Nat.beq 10 2=false:=rfl
@[go_sem] theorem aQD:Nat.beq 11 2=false:=rfl
@[go_sem] theorem aQA:Nat.beq 12 2=false:=rfl
attribute [go_sem] yL aDC gL tQ qL oO aA6 aA0 aGU
end
end Go.AV
