/-
  Of CheckTells.
-/
import Derived.Test.YthaljojbclndaaaGreatDoorCt01
import Derived.Lib.AppendStr
import Derived.Lib.UnsafeStr
import Derived.Deep.LoopGhost
set_option linter.all false
set_option maxRecDepth 99999
set_option maxHeartbeats 0
namespace Go.AV
open Go Go.Proofs Tryz
section
def Gh.tok(g:Gh)(t n:Nat)(v:Value)(b:Nat)(xs:List Value):Gh :=
 ⟨λk=>if k=b then some xs else g.pi k,λh m=>if h=t/\m=n then some v else g.eta h m,g.beta,g.env⟩
def sT(C:Cx)(s s':St)(t:Nat):Prop:=s'.ls=s.ls/\(C.det=true->s.lim<=s'.lim/\t<s'.lim)
section
variable {C:Cx} {F:Fr} {g:Gh} {s:St} {w:World} {ρ:Operand->Option A} {ev:Operand->Value}
theorem R.tokStep(h:R C.toCtx F g s w){w':World}{t n b:Nat}{e:TypeId}{v:Value}{xs:List Value}
  (hk:∀k,k<w.heap.size->k≠b->w'.heap[k]?=w.heap[k]?)(b0:w'.ownsRow 0 e (C.toCtx.sz e) v n xs)(hb:v.ownBlock=some b)
  (b5:∀m x,g.eta t m=some x->m<n)
  {s':St}(hO:∀q,s'.getO q=s.getO q)(hT:∀q,s'.getT q=if t=q then some (n,e) else s.getT q)(hl:sT C s s' t)
  (S:(b=w.heap.size/\(s.getT t=none\/∃n0,s.getT t=some n0))\/∃n0 v0 Y M,s.getT t=some (n0,e)/\g.eta t n0=some v0/\v0.ownBlock=some b/\g.pi b=some Y/\xs=Y++M)(he:(w'.os,w'.output)=(w.os,w.output):=by rfl) :
  R C.toCtx F (g.tok t n v b xs) s' w'/\g.le (g.tok t n v b xs):=by
 have hF:F b=none:=by
  rcases S with⟨rfl,_⟩|⟨n0,v0,Y,M,y,G,h3,h4,_⟩
  .exact h.frm_new
  .obtain⟨v,xs,Z,_,_,h5⟩:=h.tok t n0 e y;rw[G]at Z;cases Z;exact(h5 b h3).2
 have bb:∀c k,g.beta c=some k->g.pi k=none->k≠b:=by
  rintro c k hc H rfl;rcases S with⟨rfl,_⟩|⟨n0,v0,Y,M,y,G,h3,h4,_⟩
  .exact h.bet_new c hc
  .rw[H]at h4;cases h4
 have b3:∀O n' v' k,O≠t->s.getT O=some n'->g.eta O n'.1=some v'->v'.ownBlock=some k->k≠b:=by
  rintro O n' v' k z B b9 H rfl;rcases S with⟨rfl,_⟩|⟨n0,v0,Y,M,y,G,h3,h4,_⟩
  .obtain⟨v2,bf,Z,_,_,h5⟩:=h.tok O n'.1 n'.2 B;rw[b9]at Z;cases Z;exact cG (h.lt_pi (h5 _ H).1) (Nat.lt_irrefl _)
  .exact h.sep O t n' (n0,e) v' v0 k z B y b9 G H h3
 have b4:g.le (g.tok t n v b xs):=by
  refine⟨λk pre U=>?_,λO m x hx=>?_,λ_ _ h=>h,rfl⟩
  .by_cases u:k=b
   .subst u;rcases S with⟨rfl,_⟩|⟨n0,v0,Y,M,y,G,h3,h4,h5⟩
    .rw[h.pi_new]at U;cases U
    .rw[h4]at U;cases U;exact⟨M,by simp[Gh.tok,h5]⟩
   .exact⟨[],by simp[Gh.tok,u,U]⟩
  .have:¬ (O=t/\m=n):=by
    rintro⟨rfl,rfl⟩;exact cG (b5 _ _ hx) (Nat.lt_irrefl _)
   simp only[Gh.tok,this,↓reduceIte];exact hx
 refine⟨⟨?_,?_,?_,?_,?_,?_,?_,?_,h.inj,?_,λx hx=>(h.lst x (by rw[<-hl.1];exact hx)).mono b4,h.bfr,he.trans h.env⟩,b4⟩
 .intro c o ho;rw[hO]at ho;obtain⟨k,h0,y,G,h3⟩:=h.obj c o ho;have z:=bb c k h0 G;exact⟨k,h0,by rw[hk k (h.bet c k h0) z];exact y.mono b4,by simp[Gh.tok,z,G],h3⟩
 .intro O n' e' B;rw[hT]at B;by_cases htt:t=O
  .subst htt;simp only[↓reduceIte,bM,uL]at B;obtain⟨rfl,rfl⟩:=B;refine⟨v,xs,by simp[Gh.tok],b0,λm x hx=>?_,λk H=>?_⟩
   .by_cases hm:m=n
    .omega
    .simp only[Gh.tok,hm,and_false,↓reduceIte]at hx;have:=b5 _ _ hx;omega
   .rw[hb]at H;cases H;exact⟨by simp[Gh.tok],hF⟩
  .simp only[htt,↓reduceIte]at B;obtain⟨v',bd,y,G,h3,h4⟩:=h.tok O n' e' B;have z:∀m,¬ (O=t/\m=n):=λm=>by rintro⟨rfl,_⟩;exact htt rfl
   refine⟨v',bd,?_,⟨G.1,?_⟩,?_,?_⟩
   .simp only[Gh.tok];rw[aE (z n')];exact y
   .rcases G.2 with hv|⟨k,cap,b2,hv,bc,hh,rest⟩
    .exact .inl hv
    .refine .inr ⟨k,cap,b2,hv,bc,?_,rest⟩;have u:=b3 O (n',e') v' k (λe=>htt e.symm) B y (by rw[hv];rfl);rw[hk k (fU.1 hh).1 u];exact hh
   .intro m x hx;simp only[Gh.tok]at hx;rw[aE (z m)]at hx;exact h3 m x hx
   .intro k H;have u:=b3 O (n',e') v' k (λe=>htt e.symm) B y H;simp only[Gh.tok,u,↓reduceIte];exact h4 k H
 .intro t1 t2 n1 n2 v1 v2 k z y G Z e2 o1 o2;rw[hT]at y G;simp only[Gh.tok]at Z e2;by_cases b7:t=t1
  .subst b7;have b1:¬ t=t2:=z;have T:¬ t2=t:=λe=>z e.symm
   simp only[↓reduceIte,bM]at y;subst y;simp only[eU,↓reduceIte,bM]at Z;subst Z;simp only[b1,↓reduceIte]at G;simp only[T,nT,↓reduceIte]at e2;rw[hb]at o1;cases o1;exact b3 t2 n2 v2 b T G e2 o2 rfl
  .have b6:¬ t1=t:=λe=>b7 e.symm
   simp only[b7,↓reduceIte]at y;simp only[b6,nT,↓reduceIte]at Z;by_cases b1:t=t2
   .subst b1;simp only[↓reduceIte,bM]at G;subst G;simp only[eU,↓reduceIte,bM]at e2;subst e2;rw[hb]at o2;cases o2;exact b3 t1 n1 v1 b b6 y Z o1 rfl
   .have T:¬ t2=t:=λe=>b1 e.symm
    simp only[b1,↓reduceIte]at G;simp only[T,nT,↓reduceIte]at e2;exact h.sep t1 t2 n1 n2 v1 v2 k z y G Z e2 o1 o2
 .intro k pre U;by_cases u:k=b
  .subst u;simp only[Gh.tok,↓reduceIte,bM]at U;subst U;rcases b0.2 with⟨rfl,_⟩|⟨k',cap,b2,hv,_,hh,_,_,_,b8⟩
   .cases hb
   .rw[hv]at hb;simp only[Value.ownBlock,bM]at hb;subst hb;refine⟨b2.toList.drop (n * C.toCtx.sz e),e,(0,0),?_⟩;rw[hh,<-b8];simp
  .simp only[Gh.tok,u,↓reduceIte]at U;rw[hk k (h.lt_pi U) u];exact h.pis k pre U
 .intro k o ho;have u:k≠b:=by rintro rfl;rw[hF]at ho;cases ho
  rw[hk k (h.lt_frm ho) u];refine⟨(h.frm k o ho).1,?_⟩;simp only[Gh.tok,u,↓reduceIte];exact(h.frm k o ho).2
 .intro k cs hc;obtain⟨pre,ty,fr,U,hl,y,hr⟩:=h.glb k cs hc;exact⟨pre,ty,fr,U,hl,y,λj c v hc hv=>(hr j c v hc hv).mono b4⟩
 .obtain⟨N,hN⟩:=h.fsh;refine⟨max N (t+1),λO B=>⟨?_,λm=>?_,(hN O aB).2.2⟩⟩
  .rw[hT];have:¬ t=O:=by omega
   simp only[this,↓reduceIte];exact(hN O aB).1
  .have:¬ (O=t/\m=n):=by omega
   simp only[Gh.tok,this,↓reduceIte];exact(hN O aB).2.1 m
 .intro c k hc;have y:=h.bet c k hc;by_cases u:k=b
  .subst u;rcases b0.2 with⟨rfl,_⟩|⟨k',cap,b2,hv,_,hh,_⟩
   .cases hb
   .rw[hv]at hb;simp only[Value.ownBlock,bM]at hb;subst hb;exact(fU.1 hh).1
  .have G:=hk k y u;rw[aAk y]at G;exact(fU.1 G).1
 .intro hd c hc;obtain⟨l1,l2⟩:=hl.2 hd;obtain⟨d1,d2⟩:=h.dtm hd c aB;refine⟨d1,λm=>?_⟩;have:¬ (c=t/\m=n):=by omega
  simp only[Gh.tok,this,↓reduceIte];exact d2 m
theorem R.tokNil(h:R C.toCtx F g s w)(e:TypeId){N:Nat}(n2:∀m,g.eta N m=none){s':St}(hO:∀q,s'.getO q=s.getO q)
  (hT:∀q,s'.getT q=if N=q then some (0,e) else s.getT q)(hl:sT C s s' N) :
  ∃g',g.le g'/\g'.eta N 0=some (.slice none 0 0)/\R C.toCtx F g' s' w:=by
 have H:g.le { g with eta:=λy m=>if y=N/\m=0 then some (.slice none 0 0) else g.eta y m } :=
  ⟨fun k pre hp => ⟨[],gQ hp⟩,fun t m x z => by
   have:¬ (t=N/\m=0):=by rintro⟨rfl,rfl⟩;rw[n2]at z;cases z
   simp only[this,↓reduceIte];exact z,λ_ _ h=>h,rfl⟩
 refine⟨_,H,by simp,⟨?_,?_,?_,h.pis,h.frm,?_,?_,h.bet,h.inj,?_,λx z=>(h.lst x (by rw[<-hl.1];exact z)).mono H,h.bfr,h.env⟩⟩
 .intro b o ho;rw[hO]at ho;obtain⟨k,h0,B,G⟩:=h.obj b o ho;exact⟨k,h0,B.mono H,G⟩
 .intro y n' e' u;rw[hT]at u;by_cases htt:N=y
  .subst htt;simp only[↓reduceIte,bM,uL]at u;obtain⟨rfl,rfl⟩:=u;refine⟨.slice none 0 0,[],by simp,World.ownsRow_nil w 0 e _,λm x z=>?_,λk hk=>by cases hk⟩;by_cases hm:m=0
   .omega
   .simp only[hm,and_false,↓reduceIte]at z;rw[n2]at z;cases z
  .simp only[htt,↓reduceIte]at u;obtain⟨v,xs,B,G,h3,h4⟩:=h.tok y n' e' u;have U:∀m,¬ (y=N/\m=0):=λm=>by rintro⟨rfl,_⟩;exact htt rfl
   have O:¬ y=N:=λe=>htt e.symm
   refine⟨v,xs,?_,G,λm x z=>?_,h4⟩
   .simp only[O,nT,↓reduceIte];exact B
   .simp only[O,nT,↓reduceIte]at z;exact h3 m x z
 .intro t1 t2 b0 b1 v1 v2 k U B G e1 e2 o1 o2;rw[hT]at B G;by_cases S:N=t1
  .subst S;simp only[↓reduceIte,bM]at B;subst B;simp only[eU,↓reduceIte,bM]at e1;subst e1;cases o1
  .have Y:¬ t1=N:=λe=>S e.symm
   simp only[S,↓reduceIte]at B;simp only[Y,nT,↓reduceIte]at e1;by_cases T:N=t2
   .subst T;simp only[↓reduceIte,bM]at G;subst G;simp only[eU,↓reduceIte,bM]at e2;subst e2;cases o2
   .have Z:¬ t2=N:=λe=>T e.symm
    simp only[T,↓reduceIte]at G;simp only[Z,nT,↓reduceIte]at e2;exact h.sep t1 t2 b0 b1 v1 v2 k U B G e1 e2 o1 o2
 .intro b cs hc;obtain⟨pre,ty,fr,hp,hl,B,hr⟩:=h.glb b cs hc;exact⟨pre,ty,fr,hp,hl,B,λj c v hc hv=>(hr j c v hc hv).mono H⟩
 .obtain⟨M,hM⟩:=h.fsh;refine⟨max M (N+1),λy u=>⟨?_,λm=>?_,(hM y aB).2.2⟩⟩
  .rw[hT];have:¬ N=y:=by omega
   simp only[this,↓reduceIte];exact(hM y aB).1
  .have:¬ (y=N/\m=0):=by omega
   simp only[this,↓reduceIte];exact(hM y aB).2.1 m
 .intro hd c hc;obtain⟨l1,l2⟩:=hl.2 hd;obtain⟨d1,d2⟩:=h.dtm hd c aB;refine⟨d1,λm=>?_⟩;have:¬ (c=N/\m=0):=by omega
  simp only[this,↓reduceIte];exact d2 m
theorem aDk(P:Program)(w:World)(t u ty e:TypeId)(i:TypeInfo)(H:P.underlying t=some (.slice e))(M:P.underlying u=some (.slice e))(B:P.info? e=some i)(y a:Option Addr)(n cap c:Nat)(h:n<=cap) :
  (Builtin.append_ #[t,u] ty #[.slice y n cap,.slice a 0 c]).run P w=.ok (.slice y n cap) w:=by
 have G:∀z:Addr,(storeCells z []).run P w=.ok () w:=λz=>rfl
 cases y<;>cases a <;>
  simp[Builtin.append_,cS H,cS M,sizeOf,typeInfo,B,Builtin.lenOf,h,Builtin.firstCells,loadCells,loadCellsFrom,G]
theorem aDn(z:Array Value)(n:Nat):(Builtin.zeroCells z n).size=n * z.size:=by simp[Builtin.zeroCells]
theorem qJ(w:World)(u y:Nat)(e:TypeId)(h:u<=9223372036854775807):u<=grownCap w u y e/\grownCap w u y e<=maxLen :=
 ⟨grownCap_ge w u y e,grownCap_le_maxLen w u y e (by unfold maxLen;omega)⟩
theorem aAC(g:Gh)(t n:Nat)(v:Value)(b:Nat)(xs:List Value):(g.tok t n v b xs).pi b=some xs:=by simp[Gh.tok]
theorem yN(g:Gh)(t n:Nat)(v:Value)(b:Nat)(xs:List Value):(g.tok t n v b xs).eta t n=some v:=by simp[Gh.tok]
theorem aEq(l:List Value)(z:Array Value):l.toArray++z=(l++z.toList).toArray:=by apply Array.ext';simp
theorem aCl(k l:List Value)(z:Array Value):k.toArray++l.toArray++z=((k++l)++z.toList).toArray:=by apply Array.ext';simp
theorem uP{KV Kp:St->A->Prop}(hR:R C.toCtx F g s w){t:Nat}{e:TypeId}{es:List A}{xs rest:List Value}{cap:Nat}{U:TI}(b0:C.tt e=some U)
  (B:∀y,y∈es->y.cells.length=U.sz)(H:∀y,y∈es->∀c,c∈y.cells->c.one=true)(T:Rzs g (dF es) xs)
  (h:es.length<=cap)(z:cap<=maxLen)(u:(xs++rest).length=cap * U.sz)
  {s':St}(hO:∀q,s'.getO q=s.getO q)(hT:∀q,s'.getT q=if t=q then some (es.length,e) else s.getT q)(hl:sT C s s' t)
  (ht:s.getT t=none\/∃n0,s.getT t=some n0)(G:∀m x,g.eta t m=some x->m<es.length)
  (hK:KV s' (.list (some t) es)) :
  OutV C F g KV Kp (.ok (.value (.slice (some ⟨w.heap.size,0,none⟩) es.length cap)) (w.drew.alloc (.cells (xs++rest).toArray e))):=by
 have O:C.toCtx.sz e=U.sz:=xL b0;have Y:=aAt B;have S:xs.length=es.length * U.sz:=by rw[T.1,Y]
 have M:(w.drew.alloc (.cells (xs++rest).toArray e)).ownsRow 0 e (C.toCtx.sz e) (.slice (some ⟨w.heap.size,0,none⟩) es.length cap) es.length xs:=by
  rw[O];refine⟨S,.inr ⟨w.heap.size,cap,_,rfl,aN _,yK w.drew _,h,z,gQ u,?_⟩⟩;rw[<-S];simp
 obtain⟨h1,h2⟩:=hR.tokStep (t:=t) (n:=es.length) (b:=w.heap.size) (w':=w.drew.alloc (.cells (xs++rest).toArray e)) (λk hk _=>wE w.drew _ hk) M rfl G hO hT hl (.inl ⟨rfl,ht⟩);refine⟨_,_,_,h2,h1,?_,hK⟩;refine yO (off:=0) (vs:=xs) (pre:=xs) (aAC _ _ _ _ _ _) aV ?_ B H h z (aN _) (λt' Z=>by cases Z;exact yN _ _ _ _ _ _);rw[lU aB];exact T.mono h2
theorem aAF(y:R C.toCtx F g s w){KV:St->A->Prop}{n:Nat}{e:TypeId}{ys:List A}(h:newT C s n e ys KV) :
  ∃N s',(∀m,g.eta N m=none)/\s.getT N=none/\(∀q,s'.getO q=s.getO q)/\(∀q,s'.getT q=if N=q then some (n,e) else s.getT q)/\sT C s s' N /\
   KV s' (.list (some N) ys):=by
 unfold newT at h;cases u:C.det with
 | false =>
  rw[u]at h;obtain⟨N,H⟩:=y.fsh;obtain⟨G,M,_⟩:=H N (bF _);exact⟨N,s.setT N (n,e),M,G,λq=>rfl,λq=>fE s N (n,e) q,⟨rfl,λB=>by rw[u]at B;cases B⟩,h N G⟩
 | true =>
  rw[u]at h;have z:=(y.dtm u s.lim (bF _)).2;exact⟨s.lim,s.newT (n,e),z,y.freeT z,λq=>rfl,λq=>aDr s (n,e) q,⟨rfl,λ_=>⟨Nat.le_succ _,dZ _⟩⟩,h⟩
theorem aIm{u:TI}{z:Value}(T:∀g,Rzs g u.zero z.cells.toList)(O:∀c,c∈u.zero->c.one=true)(k:Nat) :
  ∃J:List A,J.length=k * u.zero.length/\(∀c,c∈J->c.one=true)/\∀g,Rzs g J (Builtin.zeroCells z.cells k).toList:=by
 have hl:∀g,z.cells.size=u.zero.length:=λg=>by simpa using(T g).1
 refine⟨(List.range (k * u.zero.length)).map (λi=>u.zero[i % u.zero.length]!),by simp,λc y=>?_,λg=>⟨by simp[Builtin.zeroCells,hl g],λj c v y S=>?_⟩⟩
 .simp only[cW,rW]at y;obtain⟨i,Z,rfl⟩:=y;have U:0<u.zero.length:=Nat.pos_of_ne_zero (by rintro h;rw[h]at Z;simp at Z);have G:i % u.zero.length<u.zero.length:=Nat.mod_lt _ U;rw[getElem!_pos u.zero _ G];exact O _ (iX G)
 .rw[jU]at y;simp only[Builtin.zeroCells,Array.toList_map,Array.toList_range,jU,hl g]at S;cases Y:(List.range (k * u.zero.length))[j]? with
  | none=>rw[Y]at y;cases y
  | some i =>
   rw[Y]at y S;simp only[gS,bM]at y S;have hj:=cX.1 Y;obtain⟨B,H⟩:=hj;simp only[List.length_range]at B;simp only[List.getElem_range]at H;subst H;have U:0<u.zero.length:=Nat.pos_of_ne_zero (by rintro h;rw[h]at B;simp at B);have G:j % u.zero.length<u.zero.length:=Nat.mod_lt _ U;have M:j % u.zero.length<z.cells.size:=by rw[hl g];exact G
   rw[getElem!_pos u.zero _ G]at y;rw[getElem!_pos z.cells _ M]at S;refine(T g).2 (j % u.zero.length) c v (by rw[cO G,y]) ?_;rw[<-S];simp[M]
theorem aGl{KV Kp:St->A->Prop}(z:R C.toCtx F g s w)(U:C.det=false){e:TypeId}{n cap:Nat}{cs J:List A}{xs rest:List Value}(H:Rzs g cs xs)(S:Rzs g J rest)
  (M:∀c,c∈cs->c.one=true)(O:∀c,c∈J->c.one=true)(Z:n<=cap)(Y:cap<=maxLen)(h:∀b,s.getO b=none->KV (s.setO b (.cells e (cs++J))) (.mg b n cap)) :
  OutV C F g KV Kp (.ok (.value (.slice (some ⟨w.heap.size,0,none⟩) n cap)) (w.drew.alloc (.cells (xs++rest).toArray e))):=by
 obtain⟨b,G⟩:=z.some_free;have B:R C.toCtx F g s w.drew:=z.heap rfl;have T:=h b (z.free G)
 have u:ObRz g (.cells e (cs++J)) (some (.cells (xs++rest).toArray e)):=⟨xs++rest,[],by simp,H.append S,λc y=>by
  rcases bT.1 y with y|y
  .exact M c y
  .exact O c y⟩
 refine⟨_,_,_,aAJ G _,B.newObj u G (s':=s.setO b (.cells e (cs++J))) (λq=>aX s b _ q) (λq=>rfl) rfl (by rw[U];simp),?_,T⟩;exact .mg b n cap _ (by simp[Gh.bx]) Z Y
theorem aGz(bs:List UInt8):(fB bs).length=bs.length:=by simp[fB]
theorem aDs(bs:List UInt8):∀y,y∈fB bs->y.cells.length=1:=by
 intro y h;simp only[fB,cW]at h;obtain⟨c,_,rfl⟩:=h;rfl
theorem aGA(bs:List UInt8):∀y,y∈fB bs->∀c,c∈y.cells->c.one=true:=by
 intro y u c h;simp only[fB,cW]at u;obtain⟨x,_,rfl⟩:=u;simp only[A.cells,bS]at h;subst h;rfl
theorem aJP(bs:List UInt8):dF (fB bs)=fB bs:=by
 induction bs with
 | nil=>rfl
 | cons c r h=>simp only[fB,cC,dF,gR]at *;rw[h];rfl
theorem aSl(g:Gh)(bs:List UInt8):Rzs g (fB bs) (Lib.strCells ⟨bs.toArray⟩):=by
 refine⟨by simp[fB,Lib.strCells],λj c v h u=>?_⟩;simp only[fB,jU]at h;simp only[Lib.strCells,jU]at u;cases y:bs[j]? with
 | none=>rw[y]at h;cases h
 | some x =>
  rw[y]at h u;simp only[gS,bM]at h u;subst h u;exact .int _ _
theorem aVM{T:TI}{t u e:TypeId}(O:C.tt t=some T)(h:aBt C T u=some e):C.P.underlying t=some (.slice e)/\C.P.underlying u=some .string/\∃B,C.tt e=some B/\B.sz=1/\B.bytes=1:=by
 unfold aBt at h;split at h
 .rename_i e0 Z;split at h
  .rename_i tu B S M;split at h
   .rename_i H;split at h
    .rename_i b0;split at h
     .rename_i U;cases h;obtain⟨d,Y,z⟩:=gF O;rw[Z]at z;simp only[TK.ok]at z;subst z;obtain⟨d2,G,y⟩:=gF S;rw[H]at y;simp only[TK.ok]at y;subst y;exact⟨Y,G,B,M,U⟩
     .cases h
    .cases h
   .cases h
  .cases h
 .cases h
theorem aSP(y:R C.toCtx F g s w){KV:St->A->Prop}{n:Nat}{e:TypeId}(h:zZ C s n e KV) :
  ∃N s',(∀m,g.eta N m=none)/\s.getT N=none/\(∀q,s'.getO q=s.getO q)/\(∀q,s'.getT q=if N=q then some (0,e) else s.getT q)/\sT C s s' N /\
   KV s' (.gr N n):=by
 unfold zZ at h;cases u:C.det with
 | false =>
  rw[u]at h;obtain⟨N,H⟩:=y.fsh;obtain⟨G,M,_⟩:=H N (bF _);exact⟨N,s.setT N (0,e),M,G,λq=>rfl,λq=>fE s N (0,e) q,⟨rfl,λB=>by rw[u]at B;cases B⟩,h N G⟩
 | true =>
  rw[u]at h;have z:=(y.dtm u s.lim (bF _)).2;exact⟨s.lim,s.newT (0,e),z,y.freeT z,λq=>rfl,λq=>aDr s (0,e) q,⟨rfl,λ_=>⟨Nat.le_succ _,dZ _⟩⟩,h⟩
theorem aV0{KV Kp:St->A->Prop}{ty:TypeId}{x y:Operand}{t u e:TypeId}{bs:List UInt8}{a:A}{ti:TI}{dst:Option Tmp}{pos:String}{after:Array Edge}{gd:Option (Nat × Bool)}
  (hR:R C.toCtx F g s w)(he:∀x a,ρ x=some a->Rz g a (ev x))(hx:ρ x=some a)(hy:ρ y=some (.str bs))(cg:C.tt t=some ti)(hE:aBt C ti u=some e)(h:zR C s e bs KV a) :
  OutV C F g KV Kp ((execOp ev ⟨dst,.call ⟨.builtin .append,#[x,y],#[t,u]⟩,ty,pos,after,gd⟩).run C.P w):=by
 obtain⟨hd,b8,te,b9,T,bp⟩:=aVM cg hE;obtain⟨i,z,hi,c1,bv,bw,ck⟩:=(C.htt e te b9).info
 have S:(execOp ev ⟨dst,.call ⟨.builtin .append,#[x,y],#[t,u]⟩,ty,pos,after,gd⟩).run C.P w =
   ((Builtin.append_ #[t,u] ty #[ev x,ev y]).run C.P w).andThen λv w'=>.ok (.value v) w':=by
  simp only[execOp,resolve,invoke,builtin,bG,bV,bJ,kO,cC,eZ]
 have bm:C.toCtx.sz e=te.sz:=xL b9;have bb:=(he y _ hy).str_inv;have M:(ByteArray.mk bs.toArray).size=bs.length:=by simp[ByteArray.size]
 have b5:(Lib.strCells ⟨bs.toArray⟩).length=bs.length:=by simp[Lib.strCells]
 have cl:z.cells.size=1:=by
  have h1:=(ck g).1;rw[(C.htt e te b9).len,T]at h1;simpa using h1
 have b1:∀(n cap:Nat),n<=cap->(Builtin.zeroCells z.cells (cap-n)).toList.length+n=cap:=by
  intro n cap h;simp only[qE,aDn,cl];omega
 have b2:Rzs g (dF (fB bs)) (Lib.strCells ⟨bs.toArray⟩):=by rw[aJP];exact aSl g bs
 cases a<;>simp only[zR]at h
 case nils =>
  obtain⟨cq,h⟩:=h;have bf:=(he x _ hx).nils_inv;obtain⟨N,s',m1,m2,m3,m4,m5,m6⟩:=aAF hR h;by_cases h0:bs=[]
  .subst h0
   have B:(Builtin.append_ #[t,u] ty #[.slice none 0 0,.string ⟨([]:List UInt8).toArray⟩]).run C.P w=.ok (.slice none 0 0) w:=by
    have hs:(ByteArray.mk ([]:List UInt8).toArray).size=0:=rfl;simp[Builtin.append_,cS hd,cS b8,sizeOf,typeInfo,hi,Builtin.lenOf,hs,Builtin.firstCells]
   rw[S,bf,bb,B];obtain⟨g',h2,h3,h4⟩:=hR.tokNil e m1 m3 m4 m5;exact⟨g',_,_,h2,h4,.list0 (some N) none 0 (aN _) (λt' bz=>by cases bz;exact h3),m6⟩
  .have bd:0<bs.length:=by cases bs with|nil=>exact cG rfl h0|cons=>simp
   have B:=run_append_nil_string (P:=C.P) w t u ty e i z hd b8 hi bw ⟨bs.toArray⟩ (by rw[M];exact bd) (by rw[M];omega) (by rw[M,bv,bp];omega);rw[M]at B;have U:=qJ w bs.length 0 e aB;rw[S,bf,bb,B]
   rw[show(Array.map (λb:UInt8=>Value.int IntKind.u8 (b.toNat:Int)) (ByteArray.mk bs.toArray).data++Builtin.zeroCells z.cells (grownCap w bs.length 0 e-bs.length)) =
    (Lib.strCells ⟨bs.toArray⟩++(Builtin.zeroCells z.cells (grownCap w bs.length 0 e-bs.length)).toList).toArray by apply Array.ext';simp[Lib.strCells]]
   have b0:=aGz bs
   have:=uP (KV:=KV) (Kp:=Kp) hR (t:=N) b9 (es:=fB bs) (xs:=Lib.strCells ⟨bs.toArray⟩) (cap:=grownCap w bs.length 0 e) (rest:=(Builtin.zeroCells z.cells (grownCap w bs.length 0 e-bs.length)).toList)
    (λy hy=>by rw[T];exact aDs bs y hy) (aGA bs) b2 (by rw[b0];exact U.1) U.2 (by rw[aG,b5,T,Nat.mul_one];have:=b1 _ _ U.1;omega)
    m3 (by rw[b0];exact m4) m5 (.inl m2) (λm x hx=>by rw[m1]at hx;cases hx) m6
   rw[b0]at this;exact this
 case list tk es =>
  cases tk with
  | none=>exact h.elim
  | some t0 =>
  obtain⟨⟨h1,h2,h3⟩,hK⟩:=h;obtain⟨ax,bh,bf,cw,c9,bg,cj⟩:=(he x _ hx).list_inv;obtain⟨v,xs,e1,H,c2,bk⟩:=hR.tok t0 es.length e h1;have ch:v=ev x:=by have:=bg t0 rfl;rw[e1]at this;exact sW this
  subst ch;rw[bm,T]at H;have b0:=aGz bs;have G:(es++fB bs).length=es.length+bs.length:=by simp[b0]
  have br:sT C s (s.setT t0 (es.length+bs.length,e)) t0:=⟨rfl,λhd=>⟨bF _,Nat.lt_of_not_le λcb=>by
   have:=(hR.dtm hd t0 cb).2 es.length;rw[this]at e1;cases e1⟩⟩
  by_cases h0:bs=[]
  .subst h0
   have B:(Builtin.append_ #[t,u] ty #[.slice ax es.length bh,.string ⟨([]:List UInt8).toArray⟩]).run C.P w=.ok (.slice ax es.length bh) w:=by
    have hs:(ByteArray.mk ([]:List UInt8).toArray).size=0:=rfl;have cf:∀ad:Addr,(storeCells ad []).run C.P w=.ok () w:=λad=>rfl
    cases ax<;>simp[Builtin.append_,cS hd,cS b8,sizeOf,typeInfo,hi,Builtin.lenOf,hs,Builtin.firstCells,c9,cf]
   rw[S,bf,bb,B];have c6:=he x _ hx;rw[bf]at c6;refine⟨g,.list (some t0) es,_,dQ g,hR.weaken (s':=s.setT t0 (es.length,e)) ⟨λb o ho=>ho,λk n hn=>?_,λ_ h=>h⟩ (λ_=>bF _),c6,by simpa [fB]using hK⟩;rw[fE]at hn;by_cases bg:t0=k
   .subst bg;simp only[↓reduceIte]at hn;rw[h1];exact hn
   .simpa only[bg,↓reduceIte]using hn
  .have bd:0<bs.length:=by cases bs with|nil=>exact cG rfl h0|cons=>simp
   have b3:∀m x,g.eta t0 m=some x->m<(es++fB bs).length:=λm x hx=>by have:=c2 m x hx;rw[G];omega
   have bc:∀y,y∈es++fB bs->∀c,c∈y.cells->c.one=true:=by
    intro q hq c hc;rcases bT.1 hq with hq|hq
    .rcases cj with rfl|⟨b,off,sz,pre,_,_,_,_,ho,_⟩
     .cases hq
     .exact ho q hq c hc
    .exact aGA bs q hq c hc
   have bl:∀y,y∈es++fB bs->y.cells.length=te.sz:=by
    intro q hq;rw[T];rcases bT.1 hq with hq|hq
    .exact h2 q hq
    .exact aDs bs q hq
   have c7:Rzs g (dF es) xs:=by
    obtain⟨a',cn,q1,_,_,q2⟩:=(he x _ hx).to_flat;rcases q2 with rfl|⟨b',cr,cm,ct,q3,q4,q5,q6,q7,q8⟩
    .have:xs=[]:=eK (gQ H.1);rw[this];exact .nil g
    .by_cases Y:es=[]
     .subst Y;have:xs=[]:=eK (gQ H.1);rw[this];exact .nil g
     .have c3:0<es.length:=by cases es with|nil=>exact cG rfl Y|cons=>simp
      have c5:cm=1:=by rw[<-q6 _ (iX c3),h2 _ (iX c3)]
      subst q3;rcases H.2 with⟨hn,h0⟩|⟨g0,O,Z,b7,_⟩
      .omega
      .have bn:=bk g0 (by rw[b7];rfl);rw[b7]at q1;simp only[qI,bM,sX,mQ,eU]at q1;obtain⟨⟨rfl,rfl⟩,rfl⟩:=q1;rw[bn.1]at q4;cases q4;rw[c5,aAl,lU (by rw[H.1];exact bF _)]at q8;exact q8
   have bj:Rzs g (dF (es++fB bs)) (xs++Lib.strCells ⟨bs.toArray⟩):=by rw[aGs];exact c7.append b2
   rcases H.2 with⟨hn,c8⟩|⟨g0,O,Z,b7,_,bt,cz,c0,hcs,b6⟩
   .have Y:es=[]:=eK c8;have B:=run_append_nil_string (P:=C.P) w t u ty e i z hd b8 hi bw ⟨bs.toArray⟩ (by rw[M];exact bd) (by rw[M];omega) (by rw[M,bv,bp];omega);rw[M]at B;have U:=qJ w bs.length 0 e aB;rw[S,hn,bb,B]
    rw[show(Array.map (λb:UInt8=>Value.int IntKind.u8 (b.toNat:Int)) (ByteArray.mk bs.toArray).data++Builtin.zeroCells z.cells (grownCap w bs.length 0 e-bs.length)) =
     (Lib.strCells ⟨bs.toArray⟩++(Builtin.zeroCells z.cells (grownCap w bs.length 0 e-bs.length)).toList).toArray by apply Array.ext';simp[Lib.strCells]]
    have:=uP (KV:=KV) (Kp:=Kp) hR (t:=t0) b9 (es:=fB bs) (xs:=Lib.strCells ⟨bs.toArray⟩) (cap:=grownCap w bs.length 0 e) (rest:=(Builtin.zeroCells z.cells (grownCap w bs.length 0 e-bs.length)).toList)
     (λy hy=>by rw[T];exact aDs bs y hy) (aGA bs) b2 (by rw[b0];exact U.1) U.2 (by rw[aG,b5,T,Nat.mul_one];have:=b1 _ _ U.1;omega)
     (s':=s.setT t0 (es.length+bs.length,e)) (λq=>rfl) (λq=>by rw[fE];simp[Y,b0]) br (.inr ⟨_,h1⟩) (by simpa [Y]using b3) (by simpa [Y]using hK)
    rw[b0]at this;exact this
   .by_cases b4:es.length+bs.length<=O
    .have cp:Z.size=O:=by rw[hcs,Nat.mul_one]
     have B:=Lib.run_append_room_string (P:=C.P) w t u ty e i hd b8 hi (by rw[c1,T]) g0 es.length O Z bt ⟨bs.toArray⟩ (by rw[M];exact b4) (by rw[M];omega);rw[M]at B;rw[S,b7,bb,B]
     have c4:(w.setRow g0 (Z.toList.take es.length++Lib.strCells ⟨bs.toArray⟩++Z.toList.drop (es.length+bs.length)).toArray).ownsRow 0 e (C.toCtx.sz e) (.slice (some ⟨g0,0,none⟩) (es.length+bs.length) O) (es.length+bs.length) (xs++Lib.strCells ⟨bs.toArray⟩):=by
      rw[bm,T];refine⟨by rw[aG,H.1,b5];omega,.inr ⟨g0,O,_,rfl,aN _,aAo bt _,b4,c0,?_,?_⟩⟩
      .simp only[List.size_toArray,aG,dG,eR,qE,b5];omega
      .rw[Nat.mul_one]at b6⊢;rw[b6];have:es.length+bs.length=(xs++Lib.strCells ⟨bs.toArray⟩).length:=by rw[aG,H.1,b5];omega
       rw[this];simp only[dO];rw[<-dO];exact List.take_left
     have bn:=bk g0 (by rw[b7];rfl);obtain⟨r1,r2⟩:=hR.tokStep (t:=t0) (b:=g0) (λk hk cd=>aAI cd _) c4 rfl (by rw[<-G];exact b3) (s':=s.setT t0 (es.length+bs.length,e)) (λq=>rfl) (λq=>fE _ _ _ q) br (.inr ⟨es.length,ev x,xs,Lib.strCells ⟨bs.toArray⟩,h1,e1,by rw[b7];rfl,bn.1,rfl⟩);refine⟨_,.list (some t0) (es++fB bs),_,r2,r1,?_,hK⟩;rw[<-G];refine yO (off:=0) (sz:=te.sz) (vs:=xs++Lib.strCells ⟨bs.toArray⟩) (pre:=xs++Lib.strCells ⟨bs.toArray⟩) (by rw[G];exact aAC _ _ _ _ _ _) aV ?_ bl bc (by rw[G];exact b4) c0 (aN _) (λt' bz=>by cases bz;rw[G];exact yN _ _ _ _ _ _);rw[lU (by rw[aG,H.1,b5,G,T];omega)];rw[G]at *;exact bj.mono r2
    .have bq:∀j u,xs[j]?=some u->w.cell? ((⟨g0,0,none⟩:Addr).add j)=some u:=by
      intro j u hj;rw[kT];simp only[World.cell?,bt,lB,cV,↓reduceIte,gK];rw[<-b6,mO]at hj;split at hj
      .simpa using hj
      .simp at hj
     have B:=Lib.run_append_grow_string (P:=C.P) w t u ty e i z hd b8 hi bw ⟨g0,0,none⟩ es.length O xs (by rw[H.1,c1,T]) bq ⟨bs.toArray⟩ (by rw[M];omega) (by rw[M];omega)
      (growslice_fits (by rw[M];omega) (by rw[M,bv,bp];omega))
     rw[M]at B;have U:=qJ w (es.length+bs.length) O e aB;rw[S,b7,bb,B,aCl]
     have:=uP (KV:=KV) (Kp:=Kp) hR (t:=t0) b9 (es:=es++fB bs) (xs:=xs++Lib.strCells ⟨bs.toArray⟩) (cap:=grownCap w (es.length+bs.length) O e) (rest:=(Builtin.zeroCells z.cells (grownCap w (es.length+bs.length) O e-(es.length+bs.length))).toList) bl bc bj (by rw[G];exact U.1) U.2
      (by rw[aG,aG,b5,H.1,T];have:=b1 _ _ U.1;omega) (s':=s.setT t0 (es.length+bs.length,e)) (λq=>rfl) (λq=>by rw[fE,G]) br (.inr ⟨_,h1⟩) b3 hK
     rw[G]at this;exact this
theorem aPb(P:Program)(w:World)(t u ty e:TypeId)(k:IntKind)(i:TypeInfo)(z:Value)(Y:P.underlying t=some (.slice e))(Z:P.underlying u=some (.int k))(U:P.info? e=some i)(hz:i.zero=some z)
  (H:i.size≠0)(n:Nat)(M:0<n)(hn:n<=4294967296)(hb:n * i.bytes<=281474976710656) :
  (Builtin.append_ #[t,u] ty #[.slice none 0 0,.int .i64 n]).run P w=.ok (.slice (some ⟨w.heap.size,0,none⟩) n (grownCap w n 0 e))
   (w.drew.alloc (.cells (Builtin.zeroCells z.cells n++Builtin.zeroCells z.cells (grownCap w n 0 e-n)) e)):=by
 have hw:IntKind.i64.wrap (n:Int)=n:=IntWalk.i64_in _ ⟨by omega,by omega⟩;have O:¬ ((n:Int)<0):=by omega
 have S:¬ ((281474976710656:Int)<(n:Int) * (i.bytes:Int)):=by
  have:((n * i.bytes:Nat):Int)<=281474976710656:=by omega
  rw[Int.natCast_mul]at this;omega
 have G:n≠0:=by omega
 have B:¬ (9223372036854775807<(n:Int)):=by omega
 have y:¬ (281474976710656<Builtin.nextslicecap n 0 * i.bytes):=by rw[nextslicecap_zero M];omega
 have T:¬ (n * i.size=0):=by
  intro h;rcases Nat.mul_eq_zero.1 h with h|h
  .exact G h
  .exact H h
 simp[Builtin.append_,cS Y,cS Z,sizeOf,typeInfo,zeroValue,U,hz,hw,O,S,G,H,B,y,Builtin.firstCells,Question.forced,newRow,grownCap,asInt,asIntOf];intro h;exact cG h T
theorem aVY{KV Kp:St->A->Prop}{ty:TypeId}{x y:Operand}{t u:TypeId}{n:Int}{a:A}{ti:TI}{dst:Option Tmp}{pos:String}{after:Array Edge}{gd:Option (Nat × Bool)}
  (hR:R C.toCtx F g s w)(he:∀x a,ρ x=some a->Rz g a (ev x))(U:ρ x=some a)(hy:ρ y=some (.int .i64 n))(b5:C.tt t=some ti)(h:rN C s ti u n KV a) :
  OutV C F g KV Kp ((execOp ev ⟨dst,.call ⟨.builtin .append,#[x,y],#[t,u]⟩,ty,pos,after,gd⟩).run C.P w):=by
 cases a<;>simp only[rN]at h
 split at h
 .rename_i e hk;split at h
  .rename_i Y tu S b6;split at h
   .rename_i k b4;obtain⟨⟨h0,Z,h2,h3⟩,h⟩:=h;obtain⟨d,hd,O⟩:=gF b5;rw[hk]at O;simp only[TK.ok]at O;subst O;obtain⟨d2,b0,B⟩:=gF b6;rw[b4]at B;simp only[TK.ok]at B;subst B;obtain⟨i,z,hi,b2,b1,b3,b9⟩:=(C.htt e Y S).info
    have bb:z.cells.size=Y.sz:=by
     have Z:=(b9 g).1;rw[(C.htt e Y S).len]at Z;simpa using Z
    have hn:n=(n.toNat:Int):=by omega
    have b8:=(he y _ hy).int_inv;have b7:=(he x _ U).nils_inv
    have H:(execOp ev ⟨dst,.call ⟨.builtin .append,#[x,y],#[t,u]⟩,ty,pos,after,gd⟩).run C.P w =
      ((Builtin.append_ #[t,u] ty #[ev x,ev y]).run C.P w).andThen λv w'=>.ok (.value v) w':=by
     simp only[execOp,resolve,invoke,builtin,bG,bV,bJ,kO,cC,eZ]
    have G:=aPb C.P w t u ty e k i z hd b0 hi b3 (by rw[b2];exact h2) n.toNat aB aB
     (by rw[b1];have:n.toNat * Y.bytes<=4294967296 * 32768:=Nat.mul_le_mul aB h3;omega)
    rw[<-hn]at G;have M:=qJ w n.toNat 0 e aB;obtain⟨N,s',m1,m2,m3,m4,m5,m6⟩:=aSP hR h;rw[H,b7,b8,G]
    have T:(w.drew.alloc (.cells (Builtin.zeroCells z.cells n.toNat++Builtin.zeroCells z.cells (grownCap w n.toNat 0 e-n.toNat)) e)).ownsRow 0 e (C.toCtx.sz e) (.slice (some ⟨w.heap.size,0,none⟩) 0 (grownCap w n.toNat 0 e)) 0 []:=by
     rw[xL S];refine⟨by simp,.inr ⟨w.heap.size,_,_,rfl,aN _,yK w.drew _,aN _,M.2,?_,by simp⟩⟩;simp only[Array.size_append,aDn,bb,<-fO];congr 1;omega
    obtain⟨r1,r2⟩:=hR.tokStep (t:=N) (n:=0) (b:=w.heap.size) (w':=w.drew.alloc (.cells (Builtin.zeroCells z.cells n.toNat++Builtin.zeroCells z.cells (grownCap w n.toNat 0 e-n.toNat)) e))
     (λk hk _=>wE w.drew _ hk) T rfl (λm x U=>by rw[m1]at U;cases U) m3 m4 m5 (.inl ⟨rfl,.inl m2⟩)
    exact⟨_,_,_,r2,r1,.gr N _ _ _ (yN _ _ _ _ _ _) M.1 M.2,m6⟩
   .exact h.elim
  .exact h.elim
 .exact h.elim
theorem R.freeze(y:R C.toCtx F g s w){t n b:Nat}{e:TypeId}{v:Value}(ht:s.getT t=some (n,e))(hv:g.eta t n=some v)(hb:v.ownBlock=some b)(m:Nat) :
  R C.toCtx F g (s.delT t) (w.freeze ⟨b,0,none⟩ m):=by
 by_cases B:m=0
 .subst B;have:w.freeze ⟨b,0,none⟩ 0=w:=by simp[World.freeze]
  rw[this];refine y.weaken ⟨λb o M=>M,λk x S=>?_,λ_ h=>h⟩ (λ_=>bF _);rw[wF]at S;split at S
  .cases S
  .exact S
 obtain⟨v',xs,e1,b5,b4,U⟩:=y.tok t n e ht;rw[hv]at e1;cases e1;obtain⟨b1,hF⟩:=U b hb
 have T:∀k,k≠b->(w.freeze ⟨b,0,none⟩ m).heap[k]?=w.heap[k]?:=by
  intro k T;have:¬ b=k:=λe=>T e.symm
  simp[World.freeze,B,Array.getElem?_modify,this]
 have b2:(w.freeze ⟨b,0,none⟩ m).heap.size=w.heap.size:=by simp[World.freeze,B]
 refine⟨λc o M=>?_,λt' n' e' G=>?_,λt1 t2 n1 n2 v1 v2 k O H z=>?_,λk pre hp=>?_,λk o M=>?_,y.glb,?_,?_,y.inj,?_,y.lst,y.bfr,(by simp[World.freeze,B,<-y.env])⟩
 .obtain⟨k,h0,H,z,h3⟩:=y.obj c o M;have:k≠b:=by rintro rfl;rw[b1]at z;cases z
  exact⟨k,h0,by rw[T k this];exact H,z,h3⟩
 ·rw[wF] at G;split at G
  .cases G
  .rename_i O;obtain⟨v2,b3,H,z,h3,h4⟩:=y.tok t' n' e' G;refine⟨v2,b3,H,⟨z.1,?_⟩,h3,h4⟩;rcases z.2 with Z|⟨k,cap,b0,Z,h6,hh,rest⟩
   .exact .inl Z
   .refine .inr ⟨k,cap,b0,Z,h6,?_,rest⟩
    have:k≠b:=by
     rintro rfl;exact y.sep t' t (n',e') (n,e) v2 v k O G ht H hv (by rw[Z];rfl) hb
    rw[T k this];exact hh
 .rw[wF]at H z;split at H
  .cases H
  .split at z
   .cases z
   .exact y.sep t1 t2 n1 n2 v1 v2 k O H z
 .obtain⟨rest,e2,fr,S⟩:=y.pis k pre hp;by_cases Y:k=b
  .subst Y;obtain⟨lo,hi⟩:=fr;refine⟨rest,e2,(if lo == hi then(0,0+m) else(min lo 0,max hi (0+m))),?_⟩;simp[World.freeze,B,Array.getElem?_modify,S]
  .exact⟨rest,e2,fr,by rw[T k Y];exact S⟩
 .have:k≠b:=by rintro rfl;rw[hF]at M;cases M
  exact⟨by rw[T k this];exact(y.frm k o M).1,(y.frm k o M).2⟩
 .obtain⟨N,hN⟩:=y.fsh;refine⟨N,λu hu=>⟨?_,(hN u hu).2⟩⟩;rw[wF];split
  .rfl
  .exact(hN u hu).1
 .intro c k hc;rw[b2];exact y.bet c k hc
 .exact y.dtm
theorem aWC{KV Kp:St->A->Prop}{ty:TypeId}{x y:Operand}{t u:TypeId}{dst:Option Tmp}{pos:String}{after:Array Edge}{gd:Option (Nat × Bool)}
  (hR:R C.toCtx F g s w)(he:∀x a,ρ x=some a->Rz g a (ev x))(h:aT C (.call ⟨.builtin .unsafeString,#[x,y],#[t,u]⟩) ρ KV Kp s) :
  OutV C F g KV Kp ((execOp ev ⟨dst,.call ⟨.builtin .unsafeString,#[x,y],#[t,u]⟩,ty,pos,after,gd⟩).run C.P w):=by
 have z:(execOp ev ⟨dst,.call ⟨.builtin .unsafeString,#[x,y],#[t,u]⟩,ty,pos,after,gd⟩).run C.P w =
   ((Builtin.unsafeString_ #[t,u] ty #[ev x,ev y]).run C.P w).andThen λv w'=>.ok (.value v) w':=by
  simp only[execOp,resolve,invoke,builtin,bG,bV,bJ,kO,cC,eZ]
 simp only[aT]at h;split at h
 .rename_i n hx hy;obtain⟨rfl,hK⟩:=h;rw[z,(he x _ hx).nilp_inv,(he y _ hy).int_inv,Lib.run_unsafeString_none];exact⟨g,.str [],s,dQ g,hR,.str [],hK⟩
 .rename_i t0 es n hx hy;split at h
  .rename_i e hus;obtain⟨⟨rfl,ht⟩,bs,rfl,hK⟩:=h;obtain⟨hp,hc⟩:=C.hus _ _ hus;obtain⟨a,cap,hv,bk,hr⟩:=(he x _ hx).sd_inv;obtain⟨ad,bc,e1,hm,bl,b7,hh⟩:=hr.list_inv;obtain⟨v,xs,e2,H,bg,Y⟩:=hR.tok t0 _ e ht;have e3:=b7 t0 rfl;rw[e2]at e3;cases e3;have U:=aGz bs;rw[z,hv,(he y _ hy).int_inv];by_cases h0:bs=[]
   .subst h0;have e5:((fB ([]:List UInt8)).length:Int)=0:=rfl;rw[e5,Lib.run_unsafeString_none];have hw:w.freeze ⟨a.block,0,none⟩ 0=w:=by simp[World.freeze]
    have:=hR.freeze (b:=a.block) ht e2 rfl 0;rw[hw]at this;exact⟨g,.str [],s.delT t0,dQ g,this,.str [],hK⟩
   .have b1:0<bs.length:=by cases bs with|nil=>exact cG rfl h0|cons=>simp
    rcases H.2 with⟨hn,_⟩|⟨g0,bd,T,b3,_,Z,bm,b4,hcs,B⟩
    .cases hn
    simp only[qI,bM]at b3;obtain⟨rfl,_,rfl⟩:=b3;have O:C.toCtx.sz e=1:=hc;rw[O,Nat.mul_one]at hcs B;have b6:=(Y g0 rfl).1
    have b9:Rzs g (fB bs) xs:=by
     obtain⟨a',bf,q1,_,_,q2⟩:=hr.to_flat;rcases q2 with q2|⟨b',bh,bb,bj,q3,q4,q5,q6,q7,q8⟩
     .exact cG (List.map_eq_nil_iff.1 q2) h0
     .subst q3;simp only[qI,bM,sX,mQ,eU]at q1;obtain⟨⟨rfl,rfl⟩,rfl⟩:=q1;rw[b6]at q4;cases q4;have b0:0<(fB bs).length:=by rw[U];exact b1
      have b2:bb=1:=by rw[<-q6 _ (iX b0),aDs bs _ (iX b0)]
      rw[b2,aAl,lU (by rw[H.1,O];exact bF _),aJP]at q8;exact q8
    have S:∀j x,bs[j]?=some x->w.cell? ((⟨g0,0,none⟩:Addr).add j)=some (.int .u8 x.toNat):=by
     intro j x hj;have b5:(fB bs)[j]?=some (.int .u8 x.toNat):=by simp[fB,hj]
     obtain⟨u',G,b8⟩:=b9.get b5;rw[b8.int_inv]at G;rw[kT];simp only[World.cell?,Z,lB,cV,↓reduceIte,gK];rw[<-B,mO]at G;split at G
     .simpa using G
     .cases G
    have M:=Lib.run_unsafeString_row (P:=C.P) w t u ty e hp hc g0 T.size (by simp[World.shape?,Z]) bs h0 (by rw[hcs];omega) (by unfold maxLen at b4;omega) S;rw[<-U]at M;rw[M];exact⟨g,.str bs,s.delT t0,dQ g,hR.freeze ht e2 rfl _,.str bs,hK⟩
  .exact h.elim
 .exact h.elim
theorem aNe{KV Kp:St->A->Prop}{ty:TypeId}{x y:Operand}{t u:TypeId}{a:A}{ti:TI}{Y:Option Addr}{dst:Option Tmp}{pos:String}{after:Array Edge}{gd:Option (Nat × Bool)}
  (hR:R C.toCtx F g s w)(he:∀x a,ρ x=some a->Rz g a (ev x))(hx:ρ x=some a)(hy:ev y=.slice Y 0 0)(U:C.tt t=some ti)(h:vQ C s ti t u KV a) :
  OutV C F g KV Kp ((execOp ev ⟨dst,.call ⟨.builtin .append,#[x,y],#[t,u]⟩,ty,pos,after,gd⟩).run C.P w):=by
 have M:(execOp ev ⟨dst,.call ⟨.builtin .append,#[x,y],#[t,u]⟩,ty,pos,after,gd⟩).run C.P w =
   ((Builtin.append_ #[t,u] ty #[ev x,ev y]).run C.P w).andThen λv w'=>.ok (.value v) w':=by
  simp only[execOp,resolve,invoke,builtin,bG,bV,bJ,kO,cC,eZ]
 unfold vQ at h;split at h
 .rename_i e hk;split at h
  .rename_i te T;obtain⟨rfl,h⟩:=h;obtain⟨d,Z,O⟩:=gF U;rw[hk]at O;simp only[TK.ok]at O;subst O;obtain⟨i,z,hi,b1,b0,b2,b3⟩:=(C.htt e te T).info
   have key:∀(B:Option Addr) (n cap:Nat) (b:A),ev x=.slice B n cap->n<=cap->Rz g b (.slice B n cap)->KV s b ->
     OutV C F g KV Kp ((execOp ev ⟨dst,.call ⟨.builtin .append,#[x,y],#[u,u]⟩,ty,pos,after,gd⟩).run C.P w):=by
    intro B n cap b h1 h2 h3 h4;rw[M,h1,hy,aDk C.P w u u ty e i Z Z hi B Y n cap 0 h2];exact⟨g,b,s,dQ g,hR,h3,h4⟩
   have G:=he x _ hx;split at h
   .have H:=G.nils_inv;rw[H]at G;exact key none 0 0 _ H (bF _) G h
   .obtain⟨a,H⟩:=G.emp_inv;rw[H]at G;exact key (some a) 0 0 _ H (bF _) G h
   .obtain⟨a,cap,H,_,S,_⟩:=G.list_inv;rw[H]at G;exact key a _ cap _ H S G h
   .obtain⟨k,cap,H,_,S,_⟩:=G.ml_inv;rw[H]at G;exact key _ _ cap _ H S G h
   .exact h.elim
  .exact h.elim
 .exact h.elim
theorem aK9{u:St}(z:R C.toCtx F g u w){KV:St->A->Prop}{n sz:Nat}{e:TypeId}{ys:List A}(h:sP C u n e ys sz KV) :
  ∃N s',(∀m,g.eta N m=none)/\u.getT N=none/\(∀q,s'.getO q=u.getO q)/\(∀q,s'.getT q=if N=q then some (n,e) else u.getT q)/\sT C u s' N /\
   KV s' (.pen N ys sz):=by
 unfold sP at h;cases y:C.det with
 | false =>
  rw[y]at h;obtain⟨N,M⟩:=z.fsh;obtain⟨H,O,_⟩:=M N (bF _);exact⟨N,u.setT N (n,e),O,H,λq=>rfl,λq=>fE u N (n,e) q,⟨rfl,λG=>by rw[y]at G;cases G⟩,h N H⟩
 | true =>
  rw[y]at h;have B:=(z.dtm y u.lim (bF _)).2;exact⟨u.lim,u.newT (n,e),B,z.freeT B,λq=>rfl,λq=>aDr u (n,e) q,⟨rfl,λ_=>⟨Nat.le_succ _,dZ _⟩⟩,h⟩
theorem R.tokMove(h:R C.toCtx F g s w){w':World}{k N n b:Nat}{e:TypeId}{v v':Value}{xs:List Value}(n2:∀m,g.eta N m=none)
  (hk:∀j,j≠b->w'.heap[j]?=w.heap[j]?)(ht:s.getT k=some (n,e))(hv:g.eta k n=some v)(hb:v.ownBlock=some b)(b2:g.pi b=some xs)
  (T:w'.ownsRow 0 e (C.toCtx.sz e) v' n xs)(u:v'.ownBlock=some b)
  {s':St}(hO:∀q,s'.getO q=s.getO q)(hT:∀q,s'.getT q=if N=q then some (n,e) else if q=k then none else s.getT q)(hl:sT C s s' N)(he:(w'.os,w'.output)=(w.os,w.output):=by rfl) :
  ∃g',g.le g'/\g'.eta N n=some v'/\g'.pi=g.pi/\R C.toCtx F g' s' w':=by
 have hF:F b=none:=by
  obtain⟨v1,bh,e1,_,_,h5⟩:=h.tok k n e ht;rw[hv]at e1;cases e1;exact(h5 b hb).2
 have b0:g.le { g with eta:=λH m=>if H=N/\m=n then some v' else g.eta H m } :=
  ⟨fun k pre hp => ⟨[],gQ hp⟩,fun t m x O => by
   have:¬ (t=N/\m=n):=by rintro⟨rfl,rfl⟩;rw[n2]at O;cases O
   simp only[this,↓reduceIte];exact O,λ_ _ h=>h,rfl⟩
 have bf:∀j,j<w.heap.size->j<w'.heap.size:=by
  intro j hj;by_cases G:j=b
  .subst G;rcases T.2 with⟨rfl,_⟩|⟨j',cap,Z,b5,_,hh,_⟩
   .cases u
   .rw[b5]at u;simp only[Value.ownBlock,bM]at u;subst u;exact(fU.1 hh).1
  .have y:=hk j G;rw[aAk hj]at y;exact(fU.1 y).1
 refine⟨_,b0,by simp,rfl,⟨?_,?_,?_,?_,?_,?_,?_,λc j hc=>bf j (h.bet c j hc),h.inj,?_,λx O=>(h.lst x (by rw[<-hl.1];exact O)).mono b0,h.bfr,he.trans h.env⟩⟩
 .intro c o ho;rw[hO]at ho;obtain⟨j,h0,B,y,h3⟩:=h.obj c o ho;have:j≠b:=by rintro rfl;rw[b2]at y;cases y
  exact⟨j,h0,by rw[hk j this];exact B.mono b0,y,h3⟩
 .intro H n' e' z;rw[hT]at z;by_cases htt:N=H
  .subst htt;simp only[↓reduceIte,bM,uL]at z;obtain⟨rfl,rfl⟩:=z;refine⟨v',xs,by simp,T,λm x O=>?_,λj hj=>?_⟩
   .by_cases hm:m=n
    .omega
    .simp only[hm,and_false,↓reduceIte]at O;rw[n2]at O;cases O
   .rw[u]at hj;cases hj;exact⟨b2,hF⟩
  .have b1:¬ H=N:=λe=>htt e.symm
   simp only[htt,↓reduceIte]at z;split at z
   .cases z
   .rename_i S;obtain⟨v2,bg,B,y,h3,h4⟩:=h.tok H n' e' z;refine⟨v2,bg,?_,⟨y.1,?_⟩,λm x O=>?_,h4⟩
    .simp only[b1,nT,↓reduceIte];exact B
    .rcases y.2 with h5|⟨j,cap,Z,h5,h6,hh,rest⟩
     .exact .inl h5
     .refine .inr ⟨j,cap,Z,h5,h6,?_,rest⟩
      have:j≠b:=by
       rintro rfl;exact h.sep H k (n',e') (n,e) v2 v j S z ht B hv (by rw[h5];rfl) hb
      rw[hk j this];exact hh
    .simp only[b1,nT,↓reduceIte]at O;exact h3 m x O
 .intro t1 t2 bb bc v1 v2 j S B y e1 e2 o1 o2;rw[hT]at B y;by_cases b3:N=t1
  .subst b3;have U:¬ N=t2:=S;have Y:¬ t2=N:=λe=>S e.symm
   simp only[↓reduceIte,bM]at B;subst B;simp only[eU,↓reduceIte,bM]at e1;subst e1;simp only[U,↓reduceIte]at y;simp only[Y,nT,↓reduceIte]at e2;split at y
   .cases y
   .rename_i b7;rw[u]at o1;cases o1;exact h.sep t2 k bc (n,e) v2 v b b7 y ht e2 hv o2 hb
  .have b9:¬ t1=N:=λe=>b3 e.symm
   simp only[b3,↓reduceIte]at B;simp only[b9,nT,↓reduceIte]at e1;split at B
   .cases B
   .rename_i b6;by_cases U:N=t2
    .subst U;simp only[↓reduceIte,bM]at y;subst y;simp only[eU,↓reduceIte,bM]at e2;subst e2;rw[u]at o2;cases o2;exact h.sep t1 k bb (n,e) v1 v b b6 B ht e1 hv o1 hb
    .have Y:¬ t2=N:=λe=>U e.symm
     simp only[U,↓reduceIte]at y;simp only[Y,nT,↓reduceIte]at e2;split at y
     .cases y
     .exact h.sep t1 t2 bb bc v1 v2 j S B y e1 e2 o1 o2
 .intro j pre hp;by_cases G:j=b
  .subst G;have b8:g.pi j=some pre:=hp;rw[b2]at b8;cases b8;rcases T.2 with⟨rfl,_⟩|⟨j',cap,Z,b5,_,hh,_,_,_,b4⟩
   .cases u
   .rw[b5]at u;simp only[Value.ownBlock,bM]at u;subst u;refine⟨Z.toList.drop (n * C.toCtx.sz e),e,(0,0),?_⟩;rw[hh,<-b4];simp
  .rw[hk j G];exact h.pis j pre hp
 .intro j o ho;have G:j≠b:=by rintro rfl;rw[hF]at ho;cases ho
  rw[hk j G];exact h.frm j o ho
 .intro j cs hc;obtain⟨pre,ty,fr,hp,bd,B,hr⟩:=h.glb j cs hc;exact⟨pre,ty,fr,hp,bd,B,λj c v hc hv=>(hr j c v hc hv).mono b0⟩
 .obtain⟨M,hM⟩:=h.fsh;refine⟨max M (N+1),λH z=>⟨?_,λm=>?_,(hM H aB).2.2⟩⟩
  .rw[hT];have:¬ N=H:=by omega
   simp only[this,↓reduceIte];split
   .rfl
   .exact(hM H aB).1
  .have:¬ (H=N/\m=n):=by omega
   simp only[this,↓reduceIte];exact(hM H aB).2.1 m
 .intro hd c hc;obtain⟨l1,l2⟩:=hl.2 hd;obtain⟨d1,d2⟩:=h.dtm hd c aB;refine⟨d1,λm=>?_⟩;have:¬ (c=N/\m=n):=by omega
  simp only[this,↓reduceIte];exact d2 m
theorem aJE{KV Kp:St->A->Prop}(hR:R C.toCtx F g s w){t:Nat}{e:TypeId}{es:List A}{xs rest:List Value}{cap:Nat}{z:TI}(b0:C.tt e=some z)
  (h:∀y,y∈es->y.cells.length=z.sz)(M:∀y,y∈es->∀c,c∈y.cells->c.one=true)(U:Rzs g (dF es) xs)
  (B:es.length+1<=cap)(G:cap<=maxLen)(u:(xs++rest).length=cap * z.sz)
  {s':St}(hO:∀q,s'.getO q=s.getO q)(hT:∀q,s'.getT q=if t=q then some (es.length,e) else s.getT q)(hl:sT C s s' t)
  (ht:s.getT t=none)(H:∀m,g.eta t m=none)
  (hK:KV s' (.pen t es z.sz)) :
  OutV C F g KV Kp (.ok (.value (.slice (some ⟨w.heap.size,0,none⟩) (es.length+1) cap)) (w.drew.alloc (.cells (xs++rest).toArray e))):=by
 have S:C.toCtx.sz e=z.sz:=xL b0;have Y:=aAt h;have T:xs.length=es.length * z.sz:=by rw[U.1,Y]
 have O:(w.drew.alloc (.cells (xs++rest).toArray e)).ownsRow 0 e (C.toCtx.sz e) (.slice (some ⟨w.heap.size,0,none⟩) es.length cap) es.length xs:=by
  rw[S];refine⟨T,.inr ⟨w.heap.size,cap,_,rfl,aN _,yK w.drew _,by omega,G,gQ u,?_⟩⟩;rw[<-T];simp
 obtain⟨h1,h2⟩:=hR.tokStep (t:=t) (n:=es.length) (b:=w.heap.size) (w':=w.drew.alloc (.cells (xs++rest).toArray e)) (λk hk _=>wE w.drew _ hk) O rfl
  (λm x hx=>by rw[H]at hx;cases hx) hO hT hl (.inl ⟨rfl,.inl ht⟩)
 refine⟨_,_,_,h2,h1,.pen t es z.sz _ cap ?_ B h,hK⟩;refine yO (off:=0) (vs:=xs) (pre:=xs) (aAC _ _ _ _ _ _) aV ?_ h M aB G (aN _) (λt' Z=>by cases Z;exact yN _ _ _ _ _ _);rw[lU aB];exact U.mono h2
theorem aVZ{KV Kp:St->A->Prop}{ty:TypeId}{x y:Operand}{t u:TypeId}{z0 a:A}{ti:TI}{dst:Option Tmp}{pos:String}{after:Array Edge}{gd:Option (Nat × Bool)}
  (hR:R C.toCtx F g s w)(he:∀x a,ρ x=some a->Rz g a (ev x))(hx:ρ x=some a)(hy:ρ y=some (.hl z0))(cw:C.tt t=some ti)(h:vP C s ti t u z0 KV a) :
  OutV C F g KV Kp ((execOp ev ⟨dst,.call ⟨.builtin .append,#[x,y],#[t,u]⟩,ty,pos,after,gd⟩).run C.P w):=by
 have M:(execOp ev ⟨dst,.call ⟨.builtin .append,#[x,y],#[t,u]⟩,ty,pos,after,gd⟩).run C.P w =
   ((Builtin.append_ #[t,u] ty #[ev x,ev y]).run C.P w).andThen λv w'=>.ok (.value v) w':=by
  simp only[execOp,resolve,invoke,builtin,bG,bV,bJ,kO,cC,eZ]
 unfold vP at h;split at h;rotate_left
 .exact h.elim
 rename_i e hk;split at h;rotate_left
 .exact h.elim
 rename_i O bd;obtain⟨⟨rfl,fm,c1,cg⟩,h⟩:=h;obtain⟨d,hd,bw⟩:=gF cw;rw[hk]at bw;simp only[TK.ok]at bw;subst bw;obtain⟨i,z,hi,Z,c3,c4,f4⟩:=(C.htt e O bd).info;have bm:C.toCtx.sz e=O.sz:=xL bd;obtain⟨ad,b6,bf,cf⟩:=(he y _ hy).hl_inv;have f2:=cf.to_flat;obtain⟨fd,ck,bg,_,cl,_,f3⟩:=cf.list_inv;rw[bf]at bg;simp only[bB,bQ,gK,qI,eU]at bg;obtain⟨rfl,rfl⟩:=bg;obtain⟨b2,H,f9,Y,cd,c6,cn,cr,cq,fl⟩:=f3.resolve_left aV;simp only[bM]at cd;subst cd;have c9:f9=O.sz:=by rw[<-cr z0 aV,cg]
 subst c9;simp only[bB,bQ,gK]at cn cl;obtain⟨f7,e2,ff,cm⟩:=hR.pis b2 Y c6;have hnl:((Y.drop H).take (1 * O.sz)).length=1 * O.sz:=by rw[dG,eR];omega
 have b0:∀j v,((Y.drop H).take (1 * O.sz))[j]?=some v->w.cell? ((⟨b2,H,none⟩:Addr).add j)=some v:=by
  intro j v hj;rw[mO]at hj;split at hj
  .rw[nD]at hj;rw[kT];simp only[World.cell?,cm,lB,cV,↓reduceIte,lK];rw[jT (cX.1 hj).1];exact hj
  .simp at hj
 have bq:Rzs g (dF [z0]) ((Y.drop H).take (1 * O.sz)):=by
  obtain⟨a',c0,e1,_,_,e2⟩:=f2;rw[bf]at e1;rcases e2 with e2|⟨b',ch,bz,cj,e3,e4,e5,e6,e7,e8⟩
  .cases e2
  .subst e3;simp only[bB,bQ,gK,qI,bM,sX,mQ,eU]at e1;obtain⟨⟨rfl,rfl⟩,rfl⟩:=e1;rw[c6]at e4;cases e4;have:bz=O.sz:=by rw[<-e6 z0 aV,cg]
   rw[this]at e8;exact e8
 generalize fk:(Y.drop H).take (1 * O.sz)=news at *
 have br:∀c,c∈dF [z0]->c.one=true:=by
  intro c hc;simp only[dF,jV]at hc;obtain⟨q,hq,hc⟩:=hc;exact cq q hq c hc
 have cp:∀v,v∈news->v.oneCell'=true:=bq.one br
 have f5:z.cells.size=O.sz:=by
  have h1:=(f4 g).1;rw[(C.htt e O bd).len]at h1;simpa using h1
 have b7:∀(n cap:Nat),n<=cap->(Builtin.zeroCells z.cells (cap-n)).toList.length+n * O.sz=cap * O.sz:=by
  intro n cap h;simp only[qE,aDn,f5,<-fO];congr 1;omega
 have T:(Builtin.append_ #[u,u] ty #[.slice none 0 0,ev y]).run C.P w=.ok (.slice (some ⟨w.heap.size,0,none⟩) 1 (grownCap w 1 0 e)) (w.drew.alloc (.cells (news.toArray++Builtin.zeroCells z.cells (grownCap w 1 0 e-1)) e)):=by
  rw[bf]
  exact run_append_nil (P:=C.P) w u ty e i z hd hi c4 ⟨b2,H,none⟩ 1 b6 news (by rw[hnl,Z]) b0 aB aB
    (by have:1 * i.bytes<=1 * 32768:=Nat.mul_le_mul (bF _) (by rw[c3];exact c1);omega)
 have b8:=qJ w 1 0 e aB
 have U:∀{s1:St},R C.toCtx F g s1 w->sP C s1 0 e [] O.sz KV->OutV C F g KV Kp (.ok (.value (.slice (some ⟨w.heap.size,0,none⟩) 1 (grownCap w 1 0 e))) (w.drew.alloc (.cells (news.toArray++Builtin.zeroCells z.cells (grownCap w 1 0 e-1)) e))):=by
  intro s1 b5 h1;obtain⟨N,s',m1,m2,m3,m4,m5,m6⟩:=aK9 b5 h1;rw[aEq]
  exact aJE (KV:=KV) (Kp:=Kp) b5 (t:=N) bd (es:=[]) (xs:=[]) (rest:=news++(Builtin.zeroCells z.cells (grownCap w 1 0 e-1)).toList) (λy hy=>by cases hy) (λy hy=>by cases hy) (.nil g) (gQ b8.1) b8.2
   (by rw[bE,aG,hnl];have:=b7 _ _ b8.1;omega) m3 m4 m5 m2 m1 m6
 split at h
 .have cb:=(he x _ hx).nils_inv;rw[M,cb,T];exact U hR h
 .rename_i tk es;cases tk with
  | none=>exact h.elim
  | some k =>
  simp only at h;obtain⟨⟨h1,h2,h3⟩,h⟩:=h;obtain⟨ax,fb,cb,fh,fg,cz,f1⟩:=(he x _ hx).list_inv;obtain⟨v,xs,e1,B,fc,bk⟩:=hR.tok k es.length e h1;have f0:v=ev x:=by have:=cz k rfl;rw[e1]at this;exact sW this
  subst f0;rw[bm]at B
  have b5:R C.toCtx F g (s.delT k) w:=hR.weaken ⟨λb o ho=>ho,λq n hn=>by
   rw[wF]at hn;split at hn
   .cases hn
   .exact hn,λ_ h=>h⟩ (λ_=>bF _)
  have b9:∀y,y∈es->∀c,c∈y.cells->c.one=true:=by
   intro q hq c hc;rcases f1 with rfl|⟨b,off,sz,pre,_,_,_,_,ho,_⟩
   .cases hq
   .exact ho q hq c hc
  have bj:(es.length+1) * i.bytes<=140737488355328:=by
   have:(es.length+1) * i.bytes<=4294967296 * 32768:=Nat.mul_le_mul h3 (by rw[c3];exact c1);omega
  have bn:Rzs g (dF es) xs:=by
   obtain⟨a',c0,q1,_,_,q2⟩:=(he x _ hx).to_flat;rcases q2 with rfl|⟨b',ch,bz,cj,q3,q4,q5,q6,q7,q8⟩
   .have:xs=[]:=eK (gQ B.1);rw[this];exact .nil g
   .by_cases b4:es=[]
    .subst b4;have:xs=[]:=eK (gQ B.1);rw[this];exact .nil g
    .have c5:0<es.length:=by cases es with|nil=>exact cG rfl b4|cons=>simp
     have c8:bz=O.sz:=by rw[<-q6 _ (iX c5),h2 _ (iX c5)]
     subst q3;rcases B.2 with⟨hn,h0⟩|⟨g0,G,S,b3,_⟩
     .omega
     .have bh:=bk g0 (by rw[b3];rfl);rw[b3]at q1;simp only[qI,bM,sX,mQ,eU]at q1;obtain⟨⟨rfl,rfl⟩,rfl⟩:=q1;rw[bh.1]at q4;cases q4;rw[c8,aAl,lU (by rw[B.1];exact bF _)]at q8;exact q8
  rcases B.2 with⟨hn,h0⟩|⟨g0,G,S,b3,_,bv,fj,c2,hcs,bc⟩
  .have b4:es=[]:=eK h0;subst b4;rw[M,hn,T];exact U b5 h
  .obtain⟨N,s',m1,m2,m3,m4,m5,m6⟩:=aK9 b5 h;by_cases b1:es.length+1<=G
   .have bl:es.length * i.size+news.length<=S.size:=by
     rw[hnl,Z,hcs,<-fO];exact qD _ b1
    have bb:=run_append_room (P:=C.P) w u ty e i hd hi g0 es.length G S bv ⟨b2,H,none⟩ 1 b6 news (by rw[hnl,Z]) b0 cp b1 bl;rw[M,b3,bf,bb]
    have c7:(w.setRow g0 (S.toList.take (es.length * i.size)++news++S.toList.drop (es.length * i.size+news.length)).toArray).ownsRow 0 e (C.toCtx.sz e) (.slice (some ⟨g0,0,none⟩) es.length G) es.length xs:=by
     rw[bm,Z];refine⟨B.1,.inr ⟨g0,G,_,rfl,aN _,aAo bv _,by omega,c2,?_,?_⟩⟩
     .rw[Z]at bl;simp only[List.size_toArray,aG,dG,eR,qE];omega
     .rw[bc,dO];rw[<-B.1];exact List.take_left
    have bh:=bk g0 (by rw[b3];rfl);obtain⟨g',r1,r2,r3,r4⟩:=hR.tokMove (k:=k) (N:=N) m1 (λj hj=>aAI hj _) h1 e1 (by rw[b3];rfl) bh.1 c7 rfl (s':=s') (λq=>m3 q) (λq=>by rw[m4,wF]) m5;refine⟨g',.pen N es O.sz,s',r1,r4,.pen N es O.sz g0 G ?_ b1 h2,m6⟩;refine yO (off:=0) (sz:=O.sz) (vs:=xs) (pre:=xs) (by rw[r3];exact bh.1) aV ?_ h2 b9 aB c2 (aN _) (λt' ct=>by cases ct;exact r2);rw[lU (by rw[B.1];exact bF _)];exact bn.mono r1
   .have bp:∀j u,xs[j]?=some u->w.cell? ((⟨g0,0,none⟩:Addr).add j)=some u:=by
     intro j u hj;rw[kT];simp only[World.cell?,bv,lB,cV,↓reduceIte,gK];rw[<-bc,mO]at hj;split at hj
     .simpa using hj
     .simp at hj
    have bb:=run_append_grow (P:=C.P) w u ty e i z hd hi c4 ⟨g0,0,none⟩ es.length G xs (by rw[B.1,Z]) bp ⟨b2,H,none⟩ 1 b6 news (by rw[hnl,Z]) b0 aB aB (growslice_fits aB bj);have bt:=qJ w (es.length+1) G e aB;rw[M,b3,bf,bb,aCl,dO]
    exact aJE (KV:=KV) (Kp:=Kp) b5 (t:=N) bd (es:=es) (xs:=xs) (rest:=news++(Builtin.zeroCells z.cells (grownCap w (es.length+1) G e-(es.length+1))).toList) h2 b9 bn bt.1 bt.2
     (by rw[aG,aG,hnl,B.1];have:=b7 _ _ bt.1;rw[fO]at this;omega) m3 m4 m5 m2 m1 m6
 .exact h.elim
theorem aMW(hR:R C.toCtx F g s w){a:A}{v:Value}(h:Rz g a v):Rz g (iM s a) v:=by
 cases a<;>try exact h
 rename_i t es sz;simp only[iM];cases hq:s.ls with
 | none=>exact h
 | some q =>
  simp only[aBr];split
  .rename_i H;obtain⟨h1,h2,h3⟩:=H;obtain⟨b,cap,rfl,hl,b2,hs⟩:=h.pen_inv;obtain⟨b',b1,pre,k1,M,k3,k4,k5,k6,k7,Z⟩:=hR.lst q hq;rw[h1,h2]at k1 M
   have U:g.eta t es.length=some (.slice (some ⟨b,0,none⟩) es.length cap):=by
    obtain⟨_,_,_,_,_,h5,_⟩:=hl.list_inv;exact h5 _ rfl
   rw[U]at M;simp only[bM,qI,sX,mQ,eU]at M;obtain⟨rfl,rfl⟩:=M;rw[h2]at k6 Z;rw[h3]at k6 Z;have B:(es++[q.2.2]).length=es.length+1:=by simp
   rw[<-B];refine .list (some t) (es++[q.2.2]) b 0 sz cap pre k5 (by rw[B];omega) (by rw[B];omega) k4 (λy z=>?_) (λy z c H=>?_) (λj y i c u z H Y=>?_) (λt' T=>by cases T;rw[B];exact k1)
   .rcases bT.1 z with z|z
    .exact hs y z
    .simp only[bS]at z;subst z;exact h3
   .rcases bT.1 z with z|z
    .obtain⟨_,_,_,_,_,_,S⟩:=hl.list_inv;rcases S with rfl|⟨_,_,_,_,_,_,_,_,ho,_⟩
     .cases z
     .exact ho y z c H
    .simp only[bS]at z;subst z;exact k7 c H
   .rw[gK]at Y;by_cases hj:j<es.length
    .rw[jT hj]at z;obtain⟨_,_,q1,_,_,_,S⟩:=hl.list_inv;rcases S with rfl|⟨b3,b4,b0,b5,rfl,p1,p2,p3,p4,p5⟩
     .simp at hj
     .simp only[qI,bM,sX,mQ,eU]at q1;obtain⟨⟨rfl,rfl⟩,rfl⟩:=q1;rw[k5]at p1;cases p1;have G:=bA z;have:b0=sz:=by rw[<-p3 y G,hs y G]
      subst this;exact p5 j y i c u z H (by rw[gK];exact Y)
    .rw[rU aB]at z
     have O:j-es.length=0:=by
      rcases Nat.eq_zero_or_pos (j-es.length)with h|h
      .exact h
      .rw[yI (by simp;omega)]at z;cases z
     rw[O]at z;simp only[iO,bM]at z;subst z;have:j=es.length:=by omega
     subst this;exact Z i c u H Y
  .exact h
theorem aXp{KV Kp:St->A->Prop}{t ty:TypeId}{x y:Operand}{k n z:Nat}{v:A}{ti:TI}{dst:Option Tmp}{pos:String}{after:Array Edge}{gd:Option (Nat × Bool)}
  (hR:R C.toCtx F g s w)(he:∀x a,ρ x=some a->Rz g a (ev x))(hx:ρ x=some (.rm k n z))(hy:ρ y=some v)(bg:C.tt t=some ti)(h:rT C s k n z ti v KV) :
  OutV C F g KV Kp ((execOp ev ⟨dst,.store t x y,ty,pos,after,gd⟩).run C.P w):=by
 unfold rT at h;split at h;rotate_left
 .exact h.elim
 rename_i m e ht;split at h;rotate_left
 .exact h.elim
 rename_i M bf;obtain⟨⟨rfl,rfl,h2,h3,h4⟩,hK⟩:=h;obtain⟨b,cap,hp,H,O⟩:=(he x _ hx).rm_inv;obtain⟨v0,xs,S,B,b3,b0⟩:=hR.tok k m e ht;rw[H]at S;cases S;have U:C.toCtx.sz e=M.sz:=xL bf;rw[U]at B;rcases B.2 with⟨hn,_⟩|⟨g0,bh,G,b6,_,b2,bj,b1,hcs,Y⟩
 .cases hn
 simp only[qI,bM,sX,mQ,eU]at b6;obtain⟨rfl,rfl⟩:=b6;have b7:=b0 b rfl;have hv:=he y _ hy;have Z:=hv.cells;have S:(ev y).cells.toList.length=M.sz:=by rw[Z.1,h3]
 have T:∀c,c∈v.cells->c.one=true:=by simpa [iF]using h4
 have bc:m * M.sz+M.sz<=cap * M.sz:=by
  have:(m+1) * M.sz<=cap * M.sz:=qD _ O
  rwa[fO,Nat.one_mul]at this
 have bd:=run_storeCells_at C.P b (m * M.sz) e (ev y).cells.toList 0 G w b2 (by rw[S,hcs];omega) (Z.one T)
 have b5:(Instr.storeAt t (ev x) (ev y)).run C.P w=.ok () (w.setRow b (G.toList.take (m * M.sz)++(ev y).cells.toList++G.toList.drop (m * M.sz+(ev y).cells.toList.length)).toArray):=by
  simp only[Instr.storeAt,Instr.sureAddr,hp,storeVar,bG,bV,bJ,lD bg];rw[aE (by simp only[qE]at S;rw[S,h2];simp)];simpa using bd
 simp only[execOp];rw[aHk,b5]
 have b4:(w.setRow b (G.toList.take (m * M.sz)++(ev y).cells.toList++G.toList.drop (m * M.sz+(ev y).cells.toList.length)).toArray).ownsRow 0 e (C.toCtx.sz e) (.slice (some ⟨b,0,none⟩) (m+1) cap) (m+1) (xs++(ev y).cells.toList):=by
  rw[U];refine⟨by rw[aG,B.1,S,fO,Nat.one_mul],.inr ⟨b,cap,_,rfl,aN _,aAo b2 _,O,b1,?_,?_⟩⟩
  .simp only[List.size_toArray,aG,dG,eR,qE]at *;omega
  .rw[Y];have:(m+1) * M.sz=(xs++(ev y).cells.toList).length:=by rw[aG,B.1,S,fO,Nat.one_mul]
   rw[this];simp only[dO];rw[<-dO];exact List.take_left
 have b8:sT C s (s.setT k (m+1,e)) k:=⟨rfl,λhd=>⟨bF _,Nat.lt_of_not_le λb9=>by
  have:=(hR.dtm hd k b9).2 m;rw[this]at H;cases H⟩⟩
 obtain⟨r1,r2⟩:=hR.tokStep (t:=k) (b:=b) (λk hk bb=>aAI bb _) b4 rfl (λj x hx=>by have:=b3 j x hx;omega) (s':=s.setT k (m+1,e)) (λq=>rfl) (λq=>fE _ _ _ q) b8
  (.inr ⟨m,_,xs,(ev y).cells.toList,ht,H,rfl,b7.1,rfl⟩)
 refine⟨_,_,r2,r1.setL (λx hx=>?_),hK⟩;cases hx;refine⟨b,cap,_,yN _ _ _ _ _ _,?_,O,b1,aAC _ _ _ _ _ _,?_,T,λj c u hc hu=>?_⟩
 .simp only[Gh.tok];rw[aE aB];exact H
 .simp only[h3,aG,B.1,S,fO,Nat.one_mul];exact bF _
 .dsimp only at hc hu;rw[rU (by rw[B.1,h3];omega),B.1,h3,Nat.add_sub_cancel_left]at hu;exact(Z.2 j c u hc hu).mono r2
theorem aVL{KV Kp:St->A->Prop}{t ty:TypeId}{x y:Operand}{dst:Option Tmp}{pos:String}{after:Array Edge}{gd:Option (Nat × Bool)}
  (Y:R C.toCtx F g s w)(he:∀x a,ρ x=some a->Rz g a (ev x))(h:aT C (.store t x y) ρ KV Kp s) :
  OutV C F g KV Kp ((execOp ev ⟨dst,.store t x y,ty,pos,after,gd⟩).run C.P w):=by
 simp only[aT]at h;split at h
 .rename_i b o v0 ti hx hy O;generalize b0:iM s v0=v at h;split at h
  .rename_i e cs hb;obtain⟨⟨h1,h2,h3⟩,hK⟩:=h;obtain⟨k,vs,rest,T,hh,M,H⟩:=Y.cellsOf hb;obtain⟨k',hp,G⟩:=(he x _ hx).ptr_inv;rw[T]at G;cases G;have hv:Rz g v (ev y):=by rw[<-b0];exact aMW Y (he y _ hy)
   have S:=hv.cells;have Z:(ev y).cells.toList.length=v.cells.length:=S.1;have e2:vs.length=cs.length:=M.1;have B:∀c,c∈v.cells->c.one=true:=by simpa [iF]using h3
   have b1:=run_storeCells_at C.P k o e (ev y).cells.toList 0 (vs++rest).toArray w hh (by simp;simp only[qE]at Z;omega) (S.one B)
   have U:(Instr.storeAt t (ev x) (ev y)).run C.P w=.ok () (w.setRow k ((vs++rest).take o++(ev y).cells.toList++(vs++rest).drop (o+(ev y).cells.toList.length)).toArray):=by
    simp only[Instr.storeAt,Instr.sureAddr,hp,storeVar,bG,bV,bJ,lD O];rw[aE (by simp only[qE]at Z;omega)];simpa using b1
   simp only[execOp];rw[aHk,U];refine⟨g,_,dQ g,Y.setObj hb T (λk hk=>aAI hk _) ?_,hK⟩;rw[aAo hh];refine⟨vs.take o++(ev y).cells.toList++vs.drop (o+(ev y).cells.toList.length),rest,?_,?_,?_⟩
   .rw[List.take_append_of_le_length aB,List.drop_append_of_le_length aB];simp only[dO]
   .rw[aBW _ _ _ h2,Z];exact((M.take o).append S).append (M.drop _)
   .intro c u;rw[aBW _ _ _ h2]at u;simp only[bT]at u;rcases u with(u|u)|u
    .exact H c (qC u)
    .exact B c u
    .exact H c (uI u)
  .exact h.elim
 .rename_i k n z v ti hx hy O;exact aXp Y he hx hy O h
 .exact h.elim
theorem aRu{KV Kp:St->A->Prop}{t ty:TypeId}{n:Nat}{y:Array (Nat × Operand)}{dst:Option Tmp}{pos:String}{after:Array Edge}{gd:Option (Nat × Bool)}
  (Z:R C.toCtx F g s w)(he:∀x a,ρ x=some a->Rz g a (ev x))(h:bH C (.buildSlice t n y) ρ (xV C s t KV)) :
  OutV C F g KV Kp ((execOp ev ⟨dst,.buildSlice t n y,ty,pos,after,gd⟩).run C.P w):=by
 obtain⟨ti,te,e,es,out,a,b3,hk,b2,H,⟨b4,b5⟩,U,S,ha,M⟩:=aPc (dst:=dst) (ty:=ty) (pos:=pos) (after:=after) (gd:=gd) Z he h;rw[U];unfold xV at M;split at M;rotate_left
 .exact M.elim
 rename_i tk u b6 B;obtain rfl:=ha tk u rfl;rw[b3]at B;cases B;rw[hk]at M;simp only at M;obtain⟨N,s',n2,n1,m3,m4,m5,m6⟩:=aAF Z M;have Y:C.toCtx.sz e=te.sz:=xL b2;have b0:=aAt (λx G=>(H x G).1);have z:out.toList.length=u.length * te.sz:=by rw[S.1,b0]
 have O:u.length<=maxLen:=by unfold maxLen;omega
 have T:(w.alloc (.cells out e)).ownsRow 0 e (C.toCtx.sz e) (.slice (some ⟨w.heap.size,0,none⟩) u.length u.length) u.length out.toList:=by
  rw[Y];refine⟨z,.inr ⟨w.heap.size,u.length,out,rfl,aN _,yK w _,bF _,O,gQ z,?_⟩⟩;rw[lU (by rw[z];exact bF _)]
 obtain⟨h1,h2⟩:=Z.tokStep (t:=N) (n:=u.length) (b:=w.heap.size) (w':=w.alloc (.cells out e)) (λk hk _=>wE w _ hk) T rfl (λm x G=>by rw[n2]at G;cases G)
  (s':=s') m3 m4 m5 (.inl ⟨rfl,.inl n1⟩)
 refine⟨_,_,_,h2,h1,?_,m6⟩;refine yO (off:=0) (vs:=out.toList) (pre:=out.toList) (sz:=te.sz) (aAC _ _ _ _ _ _) aV ?_ (λx G=>(H x G).1) (λx G=>(H x G).2) (bF _) O (aN _) (λt' b1=>by cases b1;exact yN _ _ _ _ _ _);rw[lU (by rw[z];exact bF _)];exact S.mono h2
theorem aGB{n:Nat}{e:TypeId}{sz:Nat}{ys:List A}{KV:St->A->Prop}(h:nO C s n e sz ys KV):newT C s n e ys KV\/(C.det=false/\Nat.beq C.mu 1=true/\0<n/\aE7 s n e sz (dF ys) KV):=by
 unfold nO at h;split at h
 .exact .inl h
 .rename_i u;split at h
  .exact .inl h
  .rename_i y;exact .inr ⟨u,y,h.1,h.2⟩
theorem aTq{KV Kp:St->A->Prop}{ty:TypeId}{x y:Operand}{t u:TypeId}{dst:Option Tmp}{pos:String}{after:Array Edge}{gd:Option (Nat × Bool)}
  (hR:R C.toCtx F g s w)(he:∀x a,ρ x=some a->Rz g a (ev x))(h:aT C (.call ⟨.builtin .append,#[x,y],#[t,u]⟩) ρ KV Kp s) :
  OutV C F g KV Kp ((execOp ev ⟨dst,.call ⟨.builtin .append,#[x,y],#[t,u]⟩,ty,pos,after,gd⟩).run C.P w):=by
 simp only[aT]at h;split at h;rotate_left
 .rename_i a bs ti hx hy bg;split at h
  .rename_i e hE;exact aV0 hR he hx hy bg hE h
  .exact h.elim
 .rename_i a n ti hx hy bg;exact aVY hR he hx hy bg h
 .rename_i a ti hx hy bg;exact aNe hR he hx (he y _ hy).nils_inv bg h
 .rename_i a ti hx hy bg;obtain⟨ad,hv⟩:=(he y _ hy).emp_inv;exact aNe hR he hx hv bg h
 .rename_i a z0 ti hx hy bg;exact aVZ hR he hx hy bg h
 .exact h.elim
 rename_i a hp ys ti hx hy bg;split at h;rotate_left
 .exact h.elim
 rename_i e hk;split at h;rotate_left
 .exact h.elim
 rename_i S bc;obtain⟨⟨rfl,hf,bv⟩,bq,h⟩:=h;unfold oL at h;obtain⟨d,hd,cz⟩:=gF bg;rw[hk]at cz;simp only[TK.ok]at cz;subst cz;obtain⟨i,z,hi,b5,bw,bp,cj⟩:=(C.htt e S bc).info
 have H:(execOp ev ⟨dst,.call ⟨.builtin .append,#[x,y],#[u,u]⟩,ty,pos,after,gd⟩).run C.P w =
   ((Builtin.append_ #[u,u] ty #[ev x,ev y]).run C.P w).andThen λv w'=>.ok (.value v) w':=by
  simp only[execOp,resolve,invoke,builtin,bG,bV,bJ,kO,cC,eZ]
 have cn:C.toCtx.sz e=S.sz:=xL bc;have f3:∀c,c∈S.zero->c.one=true:=(C.htt e S bc).one
 obtain⟨ad,Y,b7,_,gq,_,gb⟩:=(he y _ hy).list_inv;have g9:=(he y _ hy).to_flat;by_cases cb:ys=[]
 .subst cb;simp only[bQ]at b7;split at h
  .obtain⟨_,h⟩:=h
   have h:newT C s 0 e [] KV:=by
    rcases aGB h with h|⟨_,_,h,_⟩
    .exact h
    .exact cG h aV
   have U:=(he x _ hx).nils_inv;have B:=aDk C.P w u u ty e i hd hd hi none ad 0 0 Y (bF _);rw[H,U,b7,B];obtain⟨N,s',m1,m2,m3,m4,m5,m6⟩:=aAF hR h;obtain⟨g',h2,h3,h4⟩:=hR.tokNil e m1 m3 m4 m5;exact⟨g',_,_,h2,h4,.list0 (some N) none 0 (aN _) (λt' f1=>by cases f1;exact h3),m6⟩
  .obtain⟨ax,U⟩:=(he x _ hx).emp_inv;have B:=aDk C.P w u u ty e i hd hd hi (some ax) ad 0 0 Y (bF _);rw[H,U,b7,B];exact⟨g,.emp,s,dQ g,hR,.emp ax,h⟩
  .unfold tX at h;split at h
   .obtain⟨⟨_,_,_,_,_,h⟩,_⟩:=h;exact cG h aV
   .exact h.elim
  rotate_left
  .exact cG h.1.1 aV
  rotate_left
  .rename_i t es;obtain⟨h1,h2,h3,hK⟩:=h;obtain⟨ax,cap,U,_,hc,_⟩:=(he x _ hx).list_inv;have B:=aDk C.P w u u ty e i hd hd hi ax ad es.length cap Y hc;rw[H,U,b7,B];have fl:=he x _ hx;rw[U]at fl;refine⟨g,.list (some t) es,_,dQ g,hR.weaken (s':=s.setT t (es.length,e)) ⟨λb o ho=>ho,λk n hn=>?_,λ_ h=>h⟩ (λ_=>bF _),fl,gQ hK⟩;rw[fE]at hn;by_cases ch:t=k
   .subst ch;simp only[↓reduceIte]at hn;rw[h1];exact hn
   .simpa only[ch,↓reduceIte]using hn
  .exact h.elim
 .obtain⟨b2,O,gj,bt,rfl,ff,h5,g7,c0,h9⟩:=gb.resolve_left cb;have bk:0<ys.length:=by cases ys with|nil=>exact cG rfl cb|cons=>simp
  have fk:gj=S.sz:=by
   have hm:=iX bk;rw[<-g7 _ hm,bq _ hm]
  subst fk;obtain⟨gg,e2,gp,fw⟩:=hR.pis b2 bt ff;have hnl:((bt.drop O).take (ys.length * S.sz)).length=ys.length * S.sz:=by rw[dG,eR];omega
  have T:∀j v,((bt.drop O).take (ys.length * S.sz))[j]?=some v->w.cell? ((⟨b2,O,none⟩:Addr).add j)=some v:=by
   intro j v hj;rw[mO]at hj;split at hj
   .rw[nD]at hj;rw[kT];simp only[World.cell?,fw,lB,cV,↓reduceIte,lK];rw[jT (cX.1 hj).1];exact hj
   .simp at hj
  have M:Rzs g (dF ys) ((bt.drop O).take (ys.length * S.sz)):=by
   obtain⟨a',ck,e1,_,_,e2⟩:=g9;rw[b7]at e1;rcases e2 with e2|⟨b',cp,cd,cq,e3,e4,e5,e6,e7,e8⟩
   .exact cG e2 cb
   .subst e3;simp only[qI,bM,sX,mQ,eU]at e1;obtain⟨⟨rfl,rfl⟩,rfl⟩:=e1;rw[ff]at e4;cases e4;have:cd=S.sz:=by rw[<-e6 _ (iX bk),bq _ (iX bk)]
    rw[this]at e8;exact e8
  generalize h6:(bt.drop O).take (ys.length * S.sz)=news at *
  have bf:∀c,c∈dF ys->c.one=true:=by
   intro c hc;simp only[dF,jV]at hc;obtain⟨q,hq,hc⟩:=hc;exact c0 q hq c hc
  have fb:∀v,v∈news->v.oneCell'=true:=M.one bf
  have gc:z.cells.size=S.sz:=by
   have h1:=(cj g).1;rw[(C.htt e S bc).len]at h1;simpa using h1
  have b9:∀(n cap:Nat),n<=cap->(Builtin.zeroCells z.cells (cap-n)).toList.length+n * S.sz=cap * S.sz:=by
   intro n cap h;simp only[qE,aDn,gc,<-fO];congr 1;omega
  split at h
  ·
   obtain⟨bj,h⟩:=h;have U:=(he x _ hx).nils_inv
   have B:=run_append_nil (P:=C.P) w u ty e i z hd hi bp ⟨b2,O,none⟩ ys.length Y news (by rw[hnl,b5]) T bk aB
    (by have:ys.length * i.bytes<=4294967296 * 32768:=Nat.mul_le_mul bj (by rw[bw];exact bv);omega)
   have G:=qJ w ys.length 0 e aB;rw[H,U,b7,B,aEq];rcases aGB h with h|⟨bl,_,_,h⟩
   rotate_left
   .obtain⟨J,j1,j2,j3⟩:=aIm cj f3 (grownCap w ys.length 0 e-ys.length);exact aGl hR bl M (j3 g) bf j2 G.1 G.2 (λb hb=>h b _ J hb G.1 (by rw[j1,(C.htt e S bc).len]) j2)
   obtain⟨N,s',n2,n1,m3,m4,m5,m6⟩:=aAF hR h
   have:=uP (KV:=KV) (Kp:=Kp) hR (t:=N) bc (rest:=(Builtin.zeroCells z.cells (grownCap w ys.length 0 e-ys.length)).toList) bq c0 M G.1 G.2
    (by rw[aG,hnl];have:=b9 _ _ G.1;omega) m3 m4 m5 (.inl n1) (λm x hx=>by rw[n2]at hx;cases hx) m6
   exact this
  ·
   have h:(ys.length<=4294967296/\0<ys.length)/\nO C s ys.length e S.sz ys KV:=by
    cases ys with
    | nil=>exact cG rfl cb
    | cons y r=>exact h
   obtain⟨⟨bj,_⟩,h⟩:=h;obtain⟨ae,U⟩:=(he x _ hx).emp_inv
   have B:=run_append_grow (P:=C.P) w u ty e i z hd hi bp ae 0 0 [] aV (λj u hj=>by simp at hj) ⟨b2,O,none⟩ ys.length Y news (by rw[hnl,b5]) T aB aB (growslice_fits aB (by
    have:(0+ys.length) * i.bytes<=4294967296 * 32768:=Nat.mul_le_mul aB (by rw[bw];exact bv);omega))
   have G:=qJ w ys.length 0 e aB;rw[H,U,b7,B];simp only[gK,bE];rw[show((#[]:Array Value)++news.toArray++Builtin.zeroCells z.cells (grownCap w ys.length 0 e-ys.length))=(news++(Builtin.zeroCells z.cells (grownCap w ys.length 0 e-ys.length)).toList).toArray by apply Array.ext';simp];rcases aGB h with h|⟨bl,_,_,h⟩
   rotate_left
   .obtain⟨J,j1,j2,j3⟩:=aIm cj f3 (grownCap w ys.length 0 e-ys.length);exact aGl hR bl M (j3 g) bf j2 G.1 G.2 (λb hb=>h b _ J hb G.1 (by rw[j1,(C.htt e S bc).len]) j2)
   obtain⟨N,s',n2,n1,m3,m4,m5,m6⟩:=aAF hR h
   have:=uP (KV:=KV) (Kp:=Kp) hR (t:=N) bc (rest:=(Builtin.zeroCells z.cells (grownCap w ys.length 0 e-ys.length)).toList) bq c0 M G.1 G.2
    (by rw[aG,hnl];have:=b9 _ _ G.1;omega) m3 m4 m5 (.inl n1) (λm x hx=>by rw[n2]at hx;cases hx) m6
   exact this
  ·
   rename_i mb mn b8;unfold tX at h;split at h;rotate_left
   .exact h.elim
   rename_i e' cs f5;obtain⟨⟨bl,rfl,f7,fc,bj,_⟩,h⟩:=h;obtain⟨k,U,ct,_,cf⟩:=(he x _ hx).mg_inv;obtain⟨k',vs,rest,cl,hh,cg,c6⟩:=hR.cellsOf f5;rw[ct]at cl;cases cl;have hg:vs.length=b8 * S.sz:=by rw[cg.1,f7]
   have h7:mn * S.sz<=b8 * S.sz:=qD _ fc
   have b0:(mn+ys.length) * i.bytes<=140737488355328:=by
    have:(mn+ys.length) * i.bytes<=4294967296 * 32768:=Nat.mul_le_mul bj (by rw[bw];exact bv);omega
   by_cases b3:mn+ys.length<=b8
   .have gw:mn * S.sz+ys.length * S.sz<=b8 * S.sz:=by rw[<-fO];exact qD _ b3
    have c4:mn * i.size+news.length<=(vs++rest).toArray.size:=by
     rw[hnl,b5];simp only[List.size_toArray,aG];omega
    have B:=run_append_room (P:=C.P) w u ty e' i hd hi k mn b8 (vs++rest).toArray hh ⟨b2,O,none⟩ ys.length Y news (by rw[hnl,b5]) T fb b3 c4;rw[H,U,b7,B];have hK:=h mb b8 (cs.drop (mn * S.sz+ys.length * S.sz)) (.inl ⟨rfl,rfl⟩) b3 (by rw[eR,f7,<-fO,<-Nat.sub_mul]) (λc hc=>c6 c (uI hc));refine⟨g,_,_,dQ g,hR.setObj f5 ct (λj hj=>aAI hj _) ?_,.mg mb _ _ k ct b3 cf,hK⟩;rw[aAo hh];refine⟨vs.take (mn * S.sz)++(news++vs.drop (mn * S.sz+ys.length * S.sz)),rest,?_,(cg.take _).append (M.append (cg.drop _)),λc hc=>?_⟩
    .rw[hnl,b5,List.toList_toArray,List.take_append_of_le_length aB,List.drop_append_of_le_length aB];simp only[dO]
    .rcases bT.1 hc with hc|hc
     .exact c6 c (qC hc)
     .rcases bT.1 hc with hc|hc
      .exact bf c hc
      .exact c6 c (uI hc)
   .have bb:∀j u,(vs.take (mn * S.sz))[j]?=some u->w.cell? ((⟨k,0,none⟩:Addr).add j)=some u:=by
     intro j u hj;rw[kT];simp only[World.cell?,hh,lB,cV,↓reduceIte,gK];rw[mO]at hj;split at hj
     .simp only[lK];rw[jT (cX.1 hj).1];exact hj
     .simp at hj
    have B:=run_append_grow (P:=C.P) w u ty e' i z hd hi bp ⟨k,0,none⟩ mn b8 (vs.take (mn * S.sz)) (by rw[dG,b5];omega) bb ⟨b2,O,none⟩ ys.length Y news (by rw[hnl,b5]) T aB aB (growslice_fits aB b0);have G:=qJ w (mn+ys.length) b8 e' aB;rw[H,U,b7,B,aCl];obtain⟨J,j1,j2,j3⟩:=aIm cj f3 (grownCap w (mn+ys.length) b8 e'-(mn+ys.length));refine aGl hR bl ((cg.take _).append M) (j3 g) (λc hc=>?_) j2 G.1 G.2 (λb hb=>?_)
    .rcases bT.1 hc with hc|hc
     .exact c6 c (qC hc)
     .exact bf c hc
    .have:=h b _ J (.inr hb) G.1 (by rw[j1,(C.htt e' S bc).len]) j2;rw[dO];exact this
  ·
   rename_i t es;obtain⟨h1,h2,h3,hK⟩:=h;obtain⟨ax,f4,U,fz,ft,ch,f2⟩:=(he x _ hx).list_inv;obtain⟨v,xs,e1,b6,f9,cm⟩:=hR.tok t es.length e h1;have g8:v=ev x:=by have:=ch t rfl;rw[e1]at this;exact sW this
   subst g8;rw[cn]at b6
   have bl:sT C s (s.setT t (es.length+ys.length,e)) t:=⟨rfl,λhd=>⟨bF _,Nat.lt_of_not_le λfx=>by
    have:=(hR.dtm hd t fx).2 es.length;rw[this]at e1;cases e1⟩⟩
   have bz:∀m x,g.eta t m=some x->m<(es++ys).length:=λm x hx=>by have:=f9 m x hx;simp;omega
   have bm:∀y,y∈es++ys->∀c,c∈y.cells->c.one=true:=by
    intro q hq c hc;rcases bT.1 hq with hq|hq
    .rcases f2 with rfl|⟨b,off,sz,pre,_,_,_,_,ho,_⟩
     .cases hq
     .exact ho q hq c hc
    .exact c0 q hq c hc
   have c3:∀y,y∈es++ys->y.cells.length=S.sz:=by
    intro q hq;rcases bT.1 hq with hq|hq
    .exact h2 q hq
    .exact bq q hq
   have Z:(es++ys).length=es.length+ys.length:=by simp
   have b0:(es.length+ys.length) * i.bytes<=140737488355328:=by
    have:(es.length+ys.length) * i.bytes<=4294967296 * 32768:=Nat.mul_le_mul h3 (by rw[bw];exact bv);omega
   have fp:Rzs g (dF es) xs:=by
    obtain⟨a',ck,q1,_,_,q2⟩:=(he x _ hx).to_flat;rcases q2 with rfl|⟨b',cp,cd,cq,q3,q4,q5,q6,q7,q8⟩
    .have:xs=[]:=eK (gQ b6.1);rw[this];exact .nil g
    .by_cases b4:es=[]
     .subst b4;have:xs=[]:=eK (gQ b6.1);rw[this];exact .nil g
     .have c7:0<es.length:=by cases es with|nil=>exact cG rfl b4|cons=>simp
      have fh:cd=S.sz:=by rw[<-q6 _ (iX c7),h2 _ (iX c7)]
      subst q3;rcases b6.2 with⟨hn,h0⟩|⟨g0,bd,bn,c1,_⟩
      .omega
      .have cr:=cm g0 (by rw[c1];rfl);rw[c1]at q1;simp only[qI,bM,sX,mQ,eU]at q1;obtain⟨⟨rfl,rfl⟩,rfl⟩:=q1;rw[cr.1]at q4;cases q4;rw[fh,aAl,lU (by rw[b6.1];exact bF _)]at q8;exact q8
   have c2:Rzs g (dF (es++ys)) (xs++news):=by rw[aGs];exact fp.append M
   rcases b6.2 with⟨hn,h0⟩|⟨g0,bd,bn,c1,_,cw,fc,cf,hcs,c8⟩
   ·
    have b4:es=[]:=eK h0
    have B:=run_append_nil (P:=C.P) w u ty e i z hd hi bp ⟨b2,O,none⟩ ys.length Y news (by rw[hnl,b5]) T bk aB
     (by rw[b4]at b0;simp only[bQ,gK]at b0;omega)
    have G:=qJ w ys.length 0 e aB;rw[H,hn,b7,B,aEq]
    have:=uP (KV:=KV) (Kp:=Kp) hR (t:=t) bc (rest:=(Builtin.zeroCells z.cells (grownCap w ys.length 0 e-ys.length)).toList) bq c0 M G.1 G.2
     (by rw[aG,hnl];have:=b9 _ _ G.1;omega) (s':=s.setT t (es.length+ys.length,e)) (λq=>rfl) (λq=>by rw[fE];simp[b4]) bl (.inr ⟨_,h1⟩) (by simpa [b4]using bz) (by simpa [b4]using hK)
    exact this
   .by_cases b3:es.length+ys.length<=bd
    .have c4:es.length * i.size+news.length<=bn.size:=by
      rw[hnl,b5,hcs,<-fO];exact qD _ b3
     have B:=run_append_room (P:=C.P) w u ty e i hd hi g0 es.length bd bn cw ⟨b2,O,none⟩ ys.length Y news (by rw[hnl,b5]) T fb b3 c4;rw[H,c1,b7,B]
     have fg:(w.setRow g0 (bn.toList.take (es.length * i.size)++news++bn.toList.drop (es.length * i.size+news.length)).toArray).ownsRow 0 e (C.toCtx.sz e) (.slice (some ⟨g0,0,none⟩) (es.length+ys.length) bd) (es.length+ys.length) (xs++news):=by
      rw[cn,b5];refine⟨by rw[aG,b6.1,hnl,fO],.inr ⟨g0,bd,_,rfl,aN _,aAo cw _,b3,cf,?_,?_⟩⟩
      .rw[b5]at c4;simp only[List.size_toArray,aG,dG,eR,qE];omega
      .rw[c8];have:(es.length+ys.length) * S.sz=(xs++news).length:=by rw[aG,b6.1,hnl,fO]
       rw[this];simp only[dO];rw[<-dO];exact List.take_left
     have cr:=cm g0 (by rw[c1];rfl);obtain⟨r1,r2⟩:=hR.tokStep (t:=t) (b:=g0) (λk hk g3=>aAI g3 _) fg rfl (gQ bz) (s':=s.setT t (es.length+ys.length,e)) (λq=>rfl) (λq=>fE _ _ _ q) bl (.inr ⟨es.length,ev x,xs,news,h1,e1,by rw[c1];rfl,cr.1,rfl⟩);refine⟨_,.list (some t) (es++ys),_,r2,r1,?_,hK⟩;rw[<-Z];refine yO (off:=0) (sz:=S.sz) (vs:=xs++news) (pre:=xs++news) (by rw[Z];exact aAC _ _ _ _ _ _) aV ?_ c3 bm (by rw[Z];exact b3) cf (aN _) (λt' f1=>by cases f1;rw[Z];exact yN _ _ _ _ _ _);rw[lU (by rw[aG,b6.1,hnl,Z,fO];exact bF _)];rw[Z]at *;exact c2.mono r2
    .have bb:∀j u,xs[j]?=some u->w.cell? ((⟨g0,0,none⟩:Addr).add j)=some u:=by
      intro j u hj;rw[kT];simp only[World.cell?,cw,lB,cV,↓reduceIte,gK];rw[<-c8,mO]at hj;split at hj
      .simpa using hj
      .simp at hj
     have B:=run_append_grow (P:=C.P) w u ty e i z hd hi bp ⟨g0,0,none⟩ es.length bd xs (by rw[b6.1,b5]) bb ⟨b2,O,none⟩ ys.length Y news (by rw[hnl,b5]) T aB aB (growslice_fits aB b0);have G:=qJ w (es.length+ys.length) bd e aB;rw[H,c1,b7,B,aCl]
     have:=uP (KV:=KV) (Kp:=Kp) hR (t:=t) bc (es:=es++ys) (rest:=(Builtin.zeroCells z.cells (grownCap w (es.length+ys.length) bd e-(es.length+ys.length))).toList) c3 bm c2 (by rw[Z];exact G.1) G.2
      (by rw[aG,aG,hnl,b6.1];have:=b9 _ _ G.1;rw[fO]at this;omega) (s':=s.setT t (es.length+ys.length,e)) (λq=>rfl) (λq=>by rw[fE,Z]) bl (.inr ⟨_,h1⟩) bz hK
     rw[Z]at this;exact this
  ·
   rename_i es;obtain⟨⟨_,h2,h3⟩,h⟩:=h;obtain⟨ax,U,fm⟩:=(he x _ hx).full_inv;obtain⟨gk,f4,c9,fz,ft,_,f2⟩:=fm.list_inv;obtain⟨N,s',n2,n1,m3,m4,m5,m6⟩:=aAF hR h;have Z:(es++ys).length=es.length+ys.length:=by simp
   have c3:∀y,y∈es++ys->y.cells.length=S.sz:=by
    intro q hq;rcases bT.1 hq with hq|hq
    .exact h2 q hq
    .exact bq q hq
   by_cases b4:es=[]
   .subst b4;simp only[bQ]at U;simp only[bE,bQ,gK]at m6 m4 m5 n1 m3;have G:=qJ w ys.length 0 e aB;have bj:ys.length<=4294967296:=gQ h3
    have fin:OutV C F g KV Kp (.ok (.value (.slice (some ⟨w.heap.size,0,none⟩) ys.length (grownCap w ys.length 0 e))) (w.drew.alloc (.cells (news++(Builtin.zeroCells z.cells (grownCap w ys.length 0 e-ys.length)).toList).toArray e))) :=
     uP (KV:=KV) (Kp:=Kp) hR (t:=N) bc (rest:=(Builtin.zeroCells z.cells (grownCap w ys.length 0 e-ys.length)).toList) bq c0 M G.1 G.2
      (by rw[aG,hnl];have:=b9 _ _ G.1;omega) m3 m4 m5 (.inl n1) (λm x hx=>by rw[n2]at hx;cases hx) m6
    cases ax with
    | none =>
     have B:=run_append_nil (P:=C.P) w u ty e i z hd hi bp ⟨b2,O,none⟩ ys.length Y news (by rw[hnl,b5]) T bk aB
      (by have:ys.length * i.bytes<=4294967296 * 32768:=Nat.mul_le_mul bj (by rw[bw];exact bv);omega)
     rw[H,U,b7,B,aEq];exact fin
    | some ae =>
     have B:=run_append_grow (P:=C.P) w u ty e i z hd hi bp ae 0 0 [] aV (λj u hj=>by simp at hj) ⟨b2,O,none⟩ ys.length Y news (by rw[hnl,b5]) T aB aB (growslice_fits aB (by
      have:(0+ys.length) * i.bytes<=4294967296 * 32768:=Nat.mul_le_mul aB (by rw[bw];exact bv);omega))
     rw[H,U,b7,B];simp only[gK,bE];rw[show((#[]:Array Value)++news.toArray++Builtin.zeroCells z.cells (grownCap w ys.length 0 e-ys.length))=(news++(Builtin.zeroCells z.cells (grownCap w ys.length 0 e-ys.length)).toList).toArray by apply Array.ext';simp];exact fin
   .obtain⟨b1,bh,gh,br,rfl,fd,gz,g5,g4,h8⟩:=f2.resolve_left b4;have c7:0<es.length:=by cases es with|nil=>exact cG rfl b4|cons=>simp
    have fj:gh=S.sz:=by
     have hm:=iX c7;rw[<-g5 _ hm,h2 _ hm]
    subst fj
    have fq:ax=some ⟨b1,bh,none⟩:=by
     rw[U]at c9;simp only[qI]at c9;exact c9.1
    subst fq;obtain⟨gf,gm,gn,fv⟩:=hR.pis b1 br fd;have f0:((br.drop bh).take (es.length * S.sz)).length=es.length * S.sz:=by rw[dG,eR];omega
    have bb:∀j v,((br.drop bh).take (es.length * S.sz))[j]?=some v->w.cell? ((⟨b1,bh,none⟩:Addr).add j)=some v:=by
     intro j v hj;rw[mO]at hj;split at hj
     .rw[nD]at hj;rw[kT];simp only[World.cell?,fv,lB,cV,↓reduceIte,lK];rw[jT (cX.1 hj).1];exact hj
     .simp at hj
    have c5:Rzs g (dF es) ((br.drop bh).take (es.length * S.sz)):=by
     obtain⟨a',ck,e1,_,_,e2⟩:=fm.to_flat;rw[U]at e1;rcases e2 with e2|⟨b',cp,cd,cq,e3,e4,e5,e6,e7,e8⟩
     .exact cG e2 b4
     .subst e3;simp only[qI,bM,sX,mQ,eU]at e1;obtain⟨⟨rfl,rfl⟩,rfl⟩:=e1;rw[fd]at e4;cases e4;have:cd=S.sz:=by rw[<-e6 _ (iX c7),h2 _ (iX c7)]
      rw[this]at e8;exact e8
    generalize (br.drop bh).take (es.length * S.sz)=olds at f0 bb c5
    have b0:(es.length+ys.length) * i.bytes<=140737488355328:=by
     have:(es.length+ys.length) * i.bytes<=4294967296 * 32768:=Nat.mul_le_mul h3 (by rw[bw];exact bv);omega
    have B:=run_append_grow (P:=C.P) w u ty e i z hd hi bp ⟨b1,bh,none⟩ es.length es.length olds (by rw[f0,b5]) bb ⟨b2,O,none⟩ ys.length Y news (by rw[hnl,b5]) T aB aB (growslice_fits aB b0);have G:=qJ w (es.length+ys.length) es.length e aB;rw[H,U,b7,B,aCl]
    have bm:∀y,y∈es++ys->∀c,c∈y.cells->c.one=true:=by
     intro q hq c hc;rcases bT.1 hq with hq|hq
     .exact g4 q hq c hc
     .exact c0 q hq c hc
    have c2:Rzs g (dF (es++ys)) (olds++news):=by rw[aGs];exact c5.append M
    have:=uP (KV:=KV) (Kp:=Kp) hR (t:=N) bc (es:=es++ys) (rest:=(Builtin.zeroCells z.cells (grownCap w (es.length+ys.length) es.length e-(es.length+ys.length))).toList) c3 bm c2 (by rw[Z];exact G.1) G.2
     (by rw[aG,aG,f0,hnl];have:=b9 _ _ G.1;rw[fO]at this;omega) m3 (by rw[Z];exact m4) m5 (.inl n1) (λm x hx=>by rw[n2]at hx;cases hx) m6
    rw[Z]at this;exact this
  .exact h.elim
end
end
end Go.AV
section
open Go.Proofs.Tryz
namespace Go.AV
open Go Go.MapKept
section
variable {C:Cx} {F:Fr} {g:Gh} {s:St} {w:World} {ρ:Operand->Option A} {ev:Operand->Value}
theorem aUA{t:TypeId}{y:TI}(h:C.tt t=some y)(w:World)(g:Gh):∃z,(zeroValue t).run C.P w=.ok z w/\Rz g (zA y) z:=by
 obtain⟨i,z,G,U,T,hz,u⟩:=(C.htt t y h).info;refine⟨z,by simp[zeroValue,typeInfo,G,hz],?_⟩;obtain⟨H,M⟩:=(C.htt t y h).shp i z G hz;have u:=u g;unfold zA;split
 .rename_i B;obtain⟨xs,rfl⟩:=H B;simp only[Value.cells]at u;have:=Rz.agg (g:=g) y.zero xs.toList u.1 (C.htt t y h).one u.2;simpa using this
 .rename_i B;have S:=M B;have O:z.cells.toList=[z]:=by cases z<;>first|rfl|exact cG rfl (S _)
  rw[O]at u
  match hz':y.zero,u with
  | [],u=>simp[Rzs]at u
  | [a],u=>exact u.2 0 a z rfl rfl
  | _::_::_,u=>simp[Rzs]at u
theorem R.mapOf(B:R C.toCtx F g s w){b kd:Nat}{es:List (MK × A)}(G:s.getO b=some (.map kd es)) :
  ∃k h c,g.beta b=some k/\w.heap[k]?=some (.map h c)/\MRz g kd es h.toList/\Stamped h c:=by
 obtain⟨k,u,⟨h,c,y,z⟩,_⟩:=B.obj b _ G;exact⟨k,h,c,u,y,z⟩
theorem aVS{k u:MK}(y:k.kd=u.kd)(h:k.val=u.val):k=u:=by
 cases k<;>cases u<;>simp[MK.kd]at y<;>simp[MK.val]at h<;>simp[h]
theorem aMw{kd:Nat}{k:MK}:∀{es:List (MK × A)} {z:List MapEntry} (i:Nat),MRz g kd es z->k.kd=kd->fM k es z i=none->∀x∈z,x.key≠k.val
 | [],[],_,_,_,_,x,u=>by cases u
 | (T,a)::es,m::z,i,h,G,y,x,u=>by
  obtain⟨⟨H,M,S⟩,O⟩:=h;simp only[fM]at y;split at y
  .cases y
  .rename_i B;rcases List.mem_cons.1 u with rfl|u
   .rw[M];exactλe=>B (aVS (G.trans H.symm) e.symm)
   .exact aMw (i+1) O G y x u
 | [],_::_,_,h,_,_,_,_=>h.elim
 | _::_,[],_,h,_,_,_,_=>h.elim
theorem aSJ{KV Kp:St->A->Prop}{t ty:TypeId}{r:Option Operand}{dst:Option Tmp}{pos:String}{after:Array Edge}{gd:Option (Nat × Bool)}
  (u:R C.toCtx F g s w)(h:aT C (.makeMap t r) ρ KV Kp s) :
  OutV C F g KV Kp ((execOp ev ⟨dst,.makeMap t r,ty,pos,after,gd⟩).run C.P w):=by
 cases r with
 | some r=>simp only[aT,bH]at h
 | none =>
  simp only[aT,aE5]at h;split at h
  .split at h
   .simp only[execOp];exact aCG (ob:=.map _ []) (o:=.map #[] 0) (v:=.map (some w.heap.size)) u ⟨#[],0,rfl,trivial,stamped_empty 0⟩ (λz b y=>.mp b _ y) (by simp[Instr.makeMap]) h
   .exact h.elim
  .exact h.elim
theorem aT0{KV Kp:St->A->Prop}{t ty:TypeId}{x k:Operand}{ok:Bool}{dst:Option Tmp}{pos:String}{after:Array Edge}{gd:Option (Nat × Bool)}
  (T:R C.toCtx F g s w)(he:∀x a,ρ x=some a->Rz g a (ev x))(h:aT C (.lookup t x k ok) ρ KV Kp s) :
  OutV C F g KV Kp ((execOp ev ⟨dst,.lookup t x k ok,ty,pos,after,gd⟩).run C.P w):=by
 simp only[aT]at h;split at h
 .rename_i b a hx Y;unfold zW at h;split at h
  .rename_i v' b2;obtain⟨ti,e,b3,es,mk,te,b1,hk,hb,Z,b0,rfl⟩:=aRP b2;obtain⟨d,hd,O⟩:=gF b1;rw[hk]at O;obtain⟨kt,rfl,hT⟩:=O;obtain⟨k0,u,U⟩:=(he x _ hx).mp_inv;obtain⟨k1,ms,c,h1,h2,h3,h4⟩:=T.mapOf hb;rw[U]at h1;cases h1;obtain⟨M,H⟩:=aHW Z (he k _ Y);have hf:=aHw (P:=C.P) hT H w h3;have G:=λe=>hT.chk mk H e w
   obtain⟨z,hz,S⟩:=aUA b0 w g;simp only[execOp];rw[uR];rcases aNk (k:=mk) 0 h3 with⟨l1,l2⟩|⟨v',j,v,l1,l2,l3⟩
   .have B:(Instr.lookup t (ev x) (ev k) ok).run C.P w=.ok (if ok then .tuple #[z,.bool false] else z) w:=by
     simp only[Instr.lookup,bG,cS hd,bJ,u,M,Go.MapKept.run_getObj_map h2,bV,G,hf,l2,hz]
    rw[B];refine⟨g,_,s,dQ g,T,?_,h⟩;rw[l1];cases ok
    .exact S
    .exact .tuple _ [_,_] rfl λj c v y u=>by
      match j with
      | 0=>simp at y u;subst y;subst u;exact S
      | 1=>simp at y u;subst y;subst u;exact .bool _
      | _+2=>simp at y
   .have B:(Instr.lookup t (ev x) (ev k) ok).run C.P w=.ok (if ok then .tuple #[v,.bool true] else v) w:=by
     simp only[Instr.lookup,bG,cS hd,bJ,u,M,Go.MapKept.run_getObj_map h2,bV,G,hf,l2]
    rw[B];refine⟨g,_,s,dQ g,T,?_,h⟩;rw[l1];cases ok
    .exact l3
    .exact .tuple _ [_,_] rfl λj c v y u=>by
      match j with
      | 0=>simp at y u;subst y;subst u;exact l3
      | 1=>simp at y u;subst y;subst u;exact .bool _
      | _+2=>simp at y
  .exact h.elim
 .exact h.elim
theorem aQL{KV Kp:St->A->Prop}{t ty:TypeId}{x k y:Operand}{dst:Option Tmp}{pos:String}{after:Array Edge}{gd:Option (Nat × Bool)}
  (hR:R C.toCtx F g s w)(B:∀x a,ρ x=some a->Rz g a (ev x))(h:aT C (.mapUpdate t x k y) ρ KV Kp s) :
  OutV C F g KV Kp ((execOp ev ⟨dst,.mapUpdate t x k y,ty,pos,after,gd⟩).run C.P w):=by
 simp only[aT]at h;split at h
 .rename_i b a v hx b0 hy;unfold aBp at h;split at h
  .rename_i ti b6;split at h
   .rename_i e kd Z es hk hb;split at h
    .rename_i mk b3;obtain⟨rfl,h⟩:=h;obtain⟨d,hd,T⟩:=gF b6;rw[hk]at T;obtain⟨kt,rfl,hT⟩:=T;obtain⟨k0,hv,H⟩:=(B x _ hx).mp_inv;obtain⟨k1,ms,c,h1,G,h3,Y⟩:=hR.mapOf hb;rw[H]at h1;cases h1;obtain⟨O,z⟩:=aHW b3 (B k _ b0);have hf:=aHw (P:=C.P) hT z w h3;have M:=λe=>hT.chk mk z e w
     have b4:=B y _ hy;have b2:k0<w.heap.size:=(fU.1 G).1
     have fin:∀u c',MRz g Z (lJ mk v es) u.toList->Stamped u c'->(Instr.mapUpdate t (ev x) (ev k) (ev y)).run C.P w=.ok () { w with heap:=w.heap.setIfInBounds k0 (.map u c') } ->
       OutV C F g KV Kp ((execOp ev ⟨dst,.mapUpdate t x k y,ty,pos,after,gd⟩).run C.P w):=by
      intro u c' hm b5 U;simp only[execOp];rw[aHk,U];exact⟨g,_,dQ g,hR.setObj hb H (ob:=.map Z (lJ mk v es)) (λj hj=>by simp[yH (Ne.symm hj)]) ⟨u,c',by simp[b2],hm,b5⟩,h⟩
     rcases aNP z b4 0 h3 with⟨l1,l2⟩|⟨n,v0,m,l1,l2,l3,l4⟩
     .refine fin (ms.push { key:=mk.val,val:=ev y,born:=c }) (c+1) (by simpa using l2 c) (stamped_push Y (aMw 0 h3 z l1)) ?_;simp only[Instr.mapUpdate,bG,cS hd,bJ,hv,O,Go.MapKept.run_getObj_map G,M,hf,l1,Go.MapKept.run_setObj_map _ G]
     .rw[gK]at l1;have S:ms[n]?=some m:=by rw[<-aBO];exact l2
      have b1:(((ms[n]?).map (·.key)).getD mk.val)=mk.val:=by simp[S,l3]
      refine fin (ms.modify n λe=>{ e with key:=mk.val,val:=ev y }) c (by rw[Array.toList_modify];exact l4) (stamped_modify Y n _ (λ_ _=>rfl) (λe _ B=>by rw[S]at B;cases B;exact l3.symm)) ?_;simp only[Instr.mapUpdate,bG,cS hd,bJ,hv,O,Go.MapKept.run_getObj_map G,M,hf,l1,b1,aTV,Go.MapKept.run_setObj_map _ G]
    .exact h.elim
   .exact h.elim
  .exact h.elim
 .exact h.elim
theorem aNj{kd:Nat}{k:MK}:∀{es:List (MK × A)} {u:List MapEntry} (i:Nat),MRz g kd es u ->
  (fM k es u i).map (·.1)=(es.findIdx? λe=>decide (k=e.1)).map (·+i)
 | [],[],_,_=>rfl
 | (y,a)::es,m::u,i,h=>by
  simp only[fM,List.findIdx?_cons];by_cases e:k=y
  .simp[e]
  .rw[aE e,aNj (i+1) h.2,bN e];simp only[cV,dY,Option.map_map];congr 1;funext x;simp;omega
 | [],_::_,_,h=>h.elim
 | _::_,[],_,h=>h.elim
theorem aK5{h u:Type}(f:h->u):∀(l:List h) (j:Nat),(l.eraseIdx j).map f=(l.map f).eraseIdx j
 | [],_=>rfl
 | _::_,0=>rfl
 | x::r,j+1=>by simp only[List.eraseIdx_cons_succ,cC,aK5 f r j]
theorem MRz.erase{kd:Nat}:∀{es:List (MK × A)} {u:List MapEntry} (j:Nat),MRz g kd es u->MRz g kd (es.eraseIdx j) (u.eraseIdx j)
 | [],[],_,_=>trivial
 | (_,_)::_,_::_,0,h=>h.2
 | (_,_)::_,_::_,j+1,h=>⟨h.1,MRz.erase j h.2⟩
 | [],_::_,_,h=>h.elim
 | _::_,[],_,h=>h.elim
theorem aTI{KV Kp:St->A->Prop}{x k:Operand}{t u ty:TypeId}{dst:Option Tmp}{pos:String}{after:Array Edge}{gd:Option (Nat × Bool)}
  (hR:R C.toCtx F g s w)(he:∀x a,ρ x=some a->Rz g a (ev x))(h:aT C (.call ⟨.builtin .delete,#[x,k],#[t,u]⟩) ρ KV Kp s) :
  OutV C F g KV Kp ((execOp ev ⟨dst,.call ⟨.builtin .delete,#[x,k],#[t,u]⟩,ty,pos,after,gd⟩).run C.P w):=by
 simp only[aT]at h;split at h
 .rename_i b a hx b2;unfold aEY at h;split at h
  .rename_i ti b5;split at h
   .rename_i e kd M es st c hk hb;split at h
    .rename_i mk b4;obtain⟨rfl,h⟩:=h;obtain⟨d,hd,b0⟩:=gF b5;rw[hk]at b0;obtain⟨kt,rfl,hT⟩:=b0;obtain⟨k0,hv,S⟩:=(he x _ hx).mp_inv;obtain⟨k1,h1,⟨H,O,h3,h4,h5⟩,_,_⟩:=hR.obj b _ hb;rw[S]at h1;cases h1;obtain⟨Z,Y⟩:=aHW b4 (he k _ b2);have hf:=aHw (P:=C.P) hT Y w h3;have T:=λe=>hT.chk mk Y e w
     have b3:k0<w.heap.size:=(fU.1 O).1;have y:=aNj (k:=mk) 0 h3
     have fin:∀B z G,ObRz g (.maps M z G c) (some (.map B c))->KV (s.setO b (.maps M z G c)) (.tuple []) ->
       (Builtin.delete_ #[t,u] ty #[ev x,ev k]).run C.P w=.ok (.tuple #[]) { w with heap:=w.heap.setIfInBounds k0 (.map B c) } ->
       OutV C F g KV Kp ((execOp ev ⟨dst,.call ⟨.builtin .delete,#[x,k],#[t,u]⟩,ty,pos,after,gd⟩).run C.P w):=by
      intro B z G ho hK b1
      have:(execOp ev ⟨dst,.call ⟨.builtin .delete,#[x,k],#[t,u]⟩,ty,pos,after,gd⟩).run C.P w=.ok (.value (.tuple #[])) { w with heap:=w.heap.setIfInBounds k0 (.map B c) }:=by
       simp only[execOp,resolve,invoke,builtin,bG,bV,bJ];have e1:Array.map ev #[x,k]=#[ev x,ev k]:=by simp
       rw[e1,b1];rfl
      rw[this];refine⟨g,_,_,dQ g,hR.setObj hb S (ob:=.maps M z G c) (λj hj=>by simp[yH (Ne.symm hj)]) (by simpa [b3]using ho),.tuple _ [] rfl λj c v hc hv=>(by simp at hc),hK⟩
     cases U:es.findIdx? λe=>decide (mk=e.1)with
     | none =>
      rw[U]at h y;have l1:fM mk es H.toList 0=none:=gQ y;refine fin H es st ⟨H,rfl,h3,h4,h5⟩ h ?_;simp only[Builtin.delete_,bG,cS hd,bJ,hv,Z,Go.MapKept.run_getObj_map O,T,hf,l1,Go.MapKept.run_setObj_map _ O,lK,iO,List.getElem?_cons_succ,bV]
     | some j =>
      rw[U]at h y
      obtain⟨v,l1⟩:∃v,fM mk es H.toList 0=some (j,v):=by
       cases e:fM mk es H.toList 0 with
       | none=>rw[e]at y;cases y
       | some p=>obtain⟨q,v⟩:=p;rw[e]at y;simp at y;exact⟨v,by rw[y]⟩
      have e2:(H.eraseIdxIfInBounds j).toList=H.toList.eraseIdx j:=by
       unfold Array.eraseIdxIfInBounds;split
       .simp
       .rename_i hj;rw[List.eraseIdx_of_length_le (gQ hj)]
      refine fin (H.eraseIdxIfInBounds j) (es.eraseIdx j) (st.eraseIdx j) ⟨_,rfl,by rw[e2];exact h3.erase j,by rw[e2,<-h4,aK5],stamped_erase h5 j⟩ h ?_;simp only[Builtin.delete_,bG,cS hd,bJ,hv,Z,Go.MapKept.run_getObj_map O,T,hf,l1,Go.MapKept.run_setObj_map _ O,lK,iO,List.getElem?_cons_succ,bV]
    .exact h.elim
   .exact h.elim
  .exact h.elim
 .exact h.elim
end
end Go.AV
end
namespace Go.AV
open Go Go.Proofs Tryz
section
section
variable {C:Cx} {F:Fr} {g:Gh} {s:St} {w:World} {ρ:Operand->Option A} {ev:Operand->Value}
theorem aJt{t:TypeId}{v:Value}(P:Program)(w:World):(Instr.panic (.iface t v)).run P w=.halt (.panic (.iface t v)) w:=rfl
theorem aNh{KV Kp:St->A->Prop}{op:Op}{ty:TypeId}{dst:Option Tmp}{pos:String}{after:Array Edge}{gd:Option (Nat × Bool)}
  (z:R C.toCtx F g s w)(B:∀x a,ρ x=some a->Rz g a (ev x))(h:aT C op ρ KV Kp s) :
  OutV C F g KV Kp ((execOp ev ⟨dst,op,ty,pos,after,gd⟩).run C.P w):=by
 cases op
 case load=>exact aWi z B h
 case store=>exact aVL z B h
 case alloc=>exact aUI z h
 case box=>exact aWL z B h
 case makeMap=>exact aSJ z h
 case lookup=>exact aT0 z B h
 case mapUpdate=>exact aQL z B h
 case buildSlice t len b0 =>
  simp only[aT]at h;split at h
  .exact qM (tQ z B h)
  .rename_i ho;rcases h with h|h
   .exact qM (tQ z B h)
   .exact aRu z B h
 case range=>exact aVC z B h
 case makeSlice=>exact aQK z B h
 case convert=>exact aSq z B h
 case next=>exact aWj z B h
 case entry=>exact aUX z B h
 case panic x =>
  simp only[aT]at h;split at h
  .rename_i t a T;obtain⟨v,H,Y⟩:=(B x _ T).iface_inv;simp only[execOp,H,bG,aJt,Result.andThen_halt];exact⟨g,_,s,dQ g,z,.iface t a v Y,h⟩
  .exact h.elim
 case call c =>
  obtain⟨U,args,G⟩:=c;cases U with
  | value f =>
   simp only[aT]at h;split at h
   .rename_i b2 first b1 az hf has
    obtain⟨us,vs,H,r1,r2⟩:=(B f _ hf).fn_inv;have r3:=aDS B has;have hd:=h F g w _ z ((r1.append r3).append r2);have e1:args.map ev=(args.toList.map ev).toArray:=by rw[<-kO,Array.toArray_toList]
    simp only[execOp,resolve,H,Deferred.ofValue,bG,bV,bJ,invoke,e1];simpa using hd
   .exact h.elim
  | invoke r m=>exact qM (tQ z B h)
  | builtin b =>
   by_cases S:b=.append
   .subst S;obtain⟨M⟩:=args;obtain⟨tl⟩:=G
    match M,tl,h with
    | [x,y],[t,u],h=>exact aTq z B h
    | [],_,h=>simp only[aT]at h
    | [_],_,h=>simp only[aT]at h
    | _::_::_::_,_,h=>simp only[aT]at h
    | [_,_],[],h=>simp only[aT]at h
    | [_,_],[_],h=>simp only[aT]at h
    | [_,_],_::_::_::_,h=>simp only[aT]at h
   .by_cases hu:b=.unsafeString
    .subst hu;obtain⟨M⟩:=args;obtain⟨tl⟩:=G
     match M,tl,h with
     | [x,y],[t,u],h=>exact aWC z B h
     | [],_,h=>simp only[aT]at h
     | [_],_,h=>simp only[aT]at h
     | _::_::_::_,_,h=>simp only[aT]at h
     | [_,_],[],h=>simp only[aT]at h
     | [_,_],[_],h=>simp only[aT]at h
     | [_,_],_::_::_::_,h=>simp only[aT]at h
    by_cases O:b=.delete
    .subst O;obtain⟨M⟩:=args;obtain⟨tl⟩:=G
     match M,tl,h with
     | [x,y],[t,u],h=>exact aTI z B h
     | [],_,h=>simp only[aT]at h
     | [_],_,h=>simp only[aT]at h
     | _::_::_::_,_,h=>simp only[aT]at h
     | [_,_],[],h=>simp only[aT]at h
     | [_,_],[_],h=>simp only[aT]at h
     | [_,_],_::_::_::_,h=>simp only[aT]at h
    by_cases hp:b=.panic
    .subst hp;simp only[aT]at h;split at h
     .rename_i x T;split at h
      .rename_i t a Z;obtain⟨v,H,Y⟩:=(B x _ Z).iface_inv;obtain⟨M⟩:=args;simp only at T;subst T;simp only[execOp,resolve,invoke,builtin,bG,bV,bJ,kO,cC,eZ,H,aF1,lK,iO,oX,aJt,Result.andThen_halt];exact⟨g,_,s,dQ g,z,.iface t a v Y,h⟩
      .exact h.elim
     .exact h.elim
    .have h':bH C (.call ⟨.builtin b,args,G⟩) ρ (KV s):=by
      cases b<;>first|exact cG rfl S|exact cG rfl hp|exact cG rfl hu|exact cG rfl O|exact h
     exact qM (tQ z B h')
 case binOp op t x y yt =>
  cases op
  case eql =>
   simp only[aT]at h;split at h
   .rename_i tk ha S;rcases h with h|⟨hn,ht,hf⟩
    .exact qM (tQ z B h)
    .refine qM (s:=s) ?_;have ra:=B x _ ha;have rb:=B y _ S;simp only[execOp];obtain⟨ad,cap,H,_⟩:=ra.list_inv;rw[H,rb.nils_inv];obtain⟨r,h1,h2⟩:=C.hnl t hn ad _ cap w .eql x y (.inl rfl);rw[aF rfl]at h2;have hK:KV s (.bool r):=by cases r<;>assumption
     refine dS (v:=.bool r) z ?_ (.bool _) hK;rw[bG,h1,bJ,h2]
   .exact qM (tQ z B h)
  all_goals exact qM (tQ z B h)
 all_goals exact qM (tQ z B h)
end
structure EnvOk (g:Gh) (n:Nat) (e:Env) (tmps:Array Value):Prop where
 size:tmps.size=n
 val:∀t a,e.get t=some a->∃v,tmps[t]?=some v/\Rz g a v
theorem EnvOk.mono{g y:Gh}(H:g.le y){n:Nat}{e:Env}{u:Array Value}(h:EnvOk g n e u):EnvOk y n e u :=
 ⟨h.size,λt a G=>let⟨v,z,B⟩:=h.val t a G;⟨v,z,B.mono H⟩⟩
theorem EnvOk.nil{g:Gh}{n:Nat}{u:Array Value}(h:u.size=n):EnvOk g n [] u:=⟨h,λt a y=>by cases y⟩
theorem EnvOk.sub{g:Gh}{n:Nat}{e e':Env}{u:Array Value}(h:EnvOk g n e u)(z:∀t a,e'.get t=some a->e.get t=some a):EnvOk g n e' u :=
 ⟨h.size,λt a y=>h.val t a (z t a y)⟩
theorem EnvOk.put{g:Gh}{n:Nat}{e:Env}{a:Act}{d:Nat}{x:A}{v:Value}(h:EnvOk g n e a.tmps)(M:d<n)(O:Rz g x v) :
  EnvOk g n (e.put d x) (a.put (some d) v).tmps:=by
 refine⟨by simp[Act.put,h.size],λt y z=>?_⟩;rw[lX]at z;show∃u,(a.tmps.setIfInBounds d v)[t]?=some u/\_
 by_cases B:d=t
 .subst B;simp only[↓reduceIte,bM]at z;subst z;exact⟨v,by simp[Array.getElem?_setIfInBounds,h.size,M],O⟩
 .simp only[B,↓reduceIte]at z;obtain⟨u,G,H⟩:=h.val t y z;exact⟨u,by rw[yH B];exact G,H⟩
theorem EnvOk.del{g:Gh}{n:Nat}{e:Env}{a:Act}{d:Nat}{v:Value}(h:EnvOk g n e a.tmps) :
  EnvOk g n (e.del d) (a.put (some d) v).tmps:=by
 refine⟨by simp[Act.put,h.size],λt y z=>?_⟩;rw[Env.get_del]at z;show∃u,(a.tmps.setIfInBounds d v)[t]?=some u/\_
 by_cases B:d=t
 .simp[B]at z
 .simp only[B,↓reduceIte]at z;obtain⟨u,G,H⟩:=h.val t y z;exact⟨u,by rw[yH B];exact G,H⟩
theorem EnvOk.oper{C:Cx}{F:Fr}{g:Gh}{s:St}{w:World}{n:Nat}{e:Env}{a:Act}(G:R C.toCtx F g s w)(h:EnvOk g n e a.tmps) :
  ∀x v,dN C e x=some v->Rz g v (a.eval x):=by
 intro x v y;cases x with
 | tmp t =>
  obtain⟨u,z,B⟩:=h.val t v y;simpa [Act.eval,aF1,z]using B
 | const c=>exact aSp y
 | global k =>
  simp only[dN]at y;split at y
  .rename_i cs hcs;simp only[bM]at y;subst y;obtain⟨pre,_,_,_,M,hl,z,O⟩:=G.gpi hcs;exact .eptr cs 0 k 0 pre M aB z (λj c v H y=>O j c v H (gQ y))
  .simp at y
 | func f =>
  simp only[dN,bM]at y;subst y;exact .fn f [] [] [] [] rfl rfl aV aV
inductive XK where
 | normal
 | exit (id:Nat)
 | goto (l:Nat)
 | ret
 | panic (a:A)
def XRz(g:Gh):XK->Exit->Prop
 | .normal,.normal=>True
 | .exit i,.exit j=>i=j
 | .goto i,.goto j=>i=j
 | .ret,.ret=>True
 | .panic a,.panic mE=>∃v,mE=[{ v:=v,recovered:=false }]/\Rz g a v
 | _,_=>False
def Post(C:Cx)(F:Fr)(g:Gh)(n:Nat)(D:List Deferred)(Q:XK->Env->St->Prop)(u:Exit)(a:Act)(w:World):Prop :=
 ∃h e s x,g.le h/\R C.toCtx F h s w/\EnvOk h n e a.tmps/\a.defers=D/\XRz h x u/\Q x e s
def Ex(C:Cx)(n:Nat)(c:Code)(Q:XK->Env->St->Prop)(e:Env)(s:St):Prop :=
 ∀F g w a,R C.toCtx F g s w->EnvOk g n e a.tmps->c.wp C.P (Post C F g n a.defers Q) a w
theorem Post.mono{C:Cx}{F:Fr}{g z:Gh}(U:g.le z){n:Nat}{D:List Deferred}{Q u:XK->Env->St->Prop}{y:Exit}{a:Act}{w:World}
  (h:Post C F z n D Q y a w)(T:∀x e s,Q x e s->u x e s):Post C F g n D u y a w:=by
 obtain⟨g2,e,s,x,B,G,H,M,O,S⟩:=h;exact⟨g2,e,s,x,U.trans B,G,H,M,O,T _ _ _ S⟩
def cH(n:Nat)(dst:Option Tmp)(K:Env->St->Prop)(e:Env)(s:St)(v:A):Prop :=
 match dst with
 | some d=>d<n/\K (e.put d v) s
 | none=>K e s
def kI:List (Option Tmp)->Nat->Option Tmp
 | [],_=>none
 | d::_,0=>d
 | _::r,n+1=>kI r n
def fI(C:Cx)(n:Nat)(ds:List (Option Tmp)):List Oper->(Env->St->Prop)->(St->A->Prop)->Env->St->Prop
 | [],K,_,e,s=>K e s
 | ⟨dst,op,_,_,_,none⟩::r,K,Kp,e,s=>aT C op (dN C e) (cH n dst (fI C n ds r K Kp) e) Kp s
 | ⟨dst,op,_,_,_,some (j,h)⟩::r,K,Kp,e,s =>
  match kI ds j with
  | none=>False
  | some t=>match e.get t with
   | some (.bool b) =>
    match b with
    | true=>match h with
     | true=>aT C op (dN C (e.put t (.bool true))) (cH n dst (fI C n ds r K Kp) (e.put t (.bool true))) Kp s
     | false=>cH n dst (fI C n ds r K Kp) (e.put t (.bool true)) s (.tuple [])
    | false=>match h with
     | false=>aT C op (dN C (e.put t (.bool false))) (cH n dst (fI C n ds r K Kp) (e.put t (.bool false))) Kp s
     | true=>cH n dst (fI C n ds r K Kp) (e.put t (.bool false)) s (.tuple [])
   | some (.tuple _)=>cH n dst (fI C n ds r K Kp) e s (.tuple [])
   | _=>False
end
section
def Env.ge(e e':Env):Prop:=∀t a,e'.get t=some a->e.get t=some a
theorem Env.ge.refl(e:Env):e.ge e:=λ_ _ h=>h
theorem aJD(V:List Nat)(e:Env):e.ge (e.keep V):=λt a h=>aPI V e t a h
def Env.rem(ds:List (Option Tmp)):Env->Env
 | []=>[]
 | (k,u)::e=>if ds.elem (some k) then Env.rem ds e else(k,u)::Env.rem ds e
theorem pA(ds:List (Option Tmp)):∀(e:Env) (t:Nat),(e.rem ds).get t=if ds.elem (some t) then none else e.get t
 | [],t=>by simp[Env.rem,Env.get]
 | (k,u)::e,t=>by
  have z:=pA ds e t;simp only[Env.rem];by_cases y:ds.elem (some k)=true
  .rw[aF y,z];by_cases h:k=t
   .subst h;simp only[y,↓reduceIte]
   .simp only[Env.get,h,↓reduceIte]
  .rw[aE y];by_cases h:k=t
   .subst h;rw[aE y];simp only[Env.get,↓reduceIte]
   .simp only[Env.get,h,↓reduceIte,z]
theorem EnvOk.other{g:Gh}{n:Nat}{y:Env}{a:Act}{dst:Option Tmp}{v:Value}(h:EnvOk g n y a.tmps)(O:∀d,dst=some d->y.get d=none):EnvOk g n y (a.put dst v).tmps:=by
 cases dst with
 | none=>exact h
 | some d =>
  have G:=O d rfl;have B:(a.put (some d) v).tmps=a.tmps.setIfInBounds d v:=rfl;refine⟨by rw[B];simpa using h.size,λt x z=>?_⟩;obtain⟨u,H,M⟩:=h.val t x z;have:d≠t:=by rintro rfl;rw[G]at z;cases z
  exact⟨u,by rw[B,yH this];exact H,M⟩
section
variable {C:Cx} {F:Fr} {g g0:Gh} {s:St} {w:World} {n:Nat}
theorem aDD(a:Act)(d:Option Tmp)(v:Value):(a.put d v).defers=a.defers:=by cases d<;>rfl
theorem R.unframe(h:R C.toCtx F g s w){F0:Fr}(hF:∀k o,F0 k=some o->F k=some o)(M:∀k o p,F k=some (o,some p)->F0 k=some (o,some p)):R C.toCtx F0 g s w where
 env:=h.env
 obj:=λb o u=>by
  obtain⟨k,y,G,H,z⟩:=h.obj b o u;refine⟨k,y,G,H,?_⟩;cases B:F0 k with
  | none=>rfl
  | some x=>rw[hF k x B]at z;cases z
 tok:=λt n e S=>by
  obtain⟨v,xs,y,G,H,z⟩:=h.tok t n e S;refine⟨v,xs,y,G,H,λb u=>⟨(z b u).1,?_⟩⟩;cases B:F0 b with
  | none=>rfl
  | some x=>have:=(z b u).2;rw[hF b x B]at this;cases this
 sep:=h.sep
 pis:=h.pis
 frm:=λb o u=>h.frm b o (hF b o u)
 glb:=λb cs u=>by
  obtain⟨pre,ty,fr,O,y⟩:=h.glb b cs u;exact⟨pre,ty,fr,M _ _ _ O,y⟩
 fsh:=h.fsh
 bet:=h.bet
 inj:=h.inj
 dtm:=h.dtm
 lst:=h.lst
 bfr:=λb k u=>by
  cases B:F0 k with
  | none=>rfl
  | some x=>have:=h.bfr b k u;rw[hF k x B]at this;cases this
theorem aJA{F0:Fr}(hF:∀k o,F0 k=some o->F k=some o)(hG:∀k o p,F k=some (o,some p)->F0 k=some (o,some p)){o:Oper}{a:Act}{e U:Env}{D:List Deferred}{K:Env->St->Prop}{Kp:St->A->Prop}{Q:XK->Env->St->Prop}
  {next:Act->World->Prop}(hg:g0.le g)(he:EnvOk g n e a.tmps)(T:EnvOk g n U a.tmps)(b3:∀d,o.dst=some d->U.get d=none)(hD:a.defers=D)
  (y:∀u v w' e' s',g.le u->R C.toCtx F u s' w'->EnvOk u n e' (a.put o.dst v).tmps->EnvOk u n U (a.put o.dst v).tmps->(a.put o.dst v).defers=D->K e' s'->next (a.put o.dst v) w')
  (b1:∀s v,Kp s v->Q (.panic v) U s){r:Result Next}
  (h:OutV C F g (cH n o.dst K e) Kp r):o.upon C.P a next (Post C F0 g0 n D Q) r:=by
 have O:∀u v B s' w',g.le u->R C.toCtx F u s' w'->Rz u B v->cH n o.dst K e s' B->next (a.put o.dst v) w':=by
  intro u v B s' w' z H M G;have Z:=he.mono z;unfold cH at G;cases Y:o.dst with
  | none=>rw[Y]at G;rw[Y]at y;exact y u v w' e s' z H Z (T.mono z) hD G
  | some d =>
   rw[Y]at G;rw[Y]at y;exact y u v w' _ s' z H (Z.put G.1 M) ((T.mono z).other λd' b2=>by cases b2;exact b3 d Y) (by rw[aDD];exact hD) G.2
 have S:∀u v B s' w',g.le u->R C.toCtx F u s' w'->Rz u B v->Kp s' B->Post C F0 g0 n D Q (.panic [{ v:=v,recovered:=false }]) a w' :=
  λu v B s' w' z H M G=>⟨u,U,s',.panic B,hg.trans z,H.unframe hF hG,T.mono z,hD,⟨v,rfl,M⟩,b1 _ _ G⟩
 cases r with
 | ok x w' =>
  cases x<;>simp only[OutV]at h
  case value v =>
   obtain⟨u,B,s',z,H,M,G⟩:=h;exact O u v B s' w' z H M G
  case skip =>
   obtain⟨u,s',z,H,M⟩:=h;exact O u undef (.tuple []) s' w' z H (.tuple [] [] rfl aV) M
  case enter f args =>
   refine Calls.mono h λen b0 hp=>?_
   cases en with
   | returned v=>obtain⟨u,B,s',z,H,M,G⟩:=hp;exact O u v B s' b0 z H M G
   | panicked mE=>obtain⟨u,B,v,s',rfl,z,H,M,G⟩:=hp;exact S u v B s' b0 z H M G
   | outgrown=>exact hp.elim
 | halt x w' =>
  cases x<;>simp only[OutV]at h
  obtain⟨u,B,s',z,H,M,G⟩:=h;exact S u _ B s' w' z H M G
theorem aG6(ops:Array Oper):∀(j:Nat),kI (ops.toList.map (·.dst)) j=(ops[j]?).bind (·.dst):=by
 obtain⟨l⟩:=ops
 induction l with
 | nil=>intro j;simp[kI]
 | cons o l h =>
  intro j;cases j with
  | zero=>simp[kI]
  | succ j=>simpa [kI]using h j
theorem aKH{ops:Array Oper}{j t:Nat}{e:Env}{b:Bool}{h:Array Value}(u:kI (ops.toList.map (·.dst)) j=some t)
  (G:EnvOk g n e h)(B:e.get t=some (.bool b)):yielded ops h j=some b:=by
 obtain⟨v,y,z⟩:=G.val t _ B;rw[aG6]at u;simp[yielded,u,y,z.bool_inv]
theorem aJB{ops:Array Oper}{j t:Nat}{e:Env}{l:List A}{h:Array Value}(u:kI (ops.toList.map (·.dst)) j=some t)
  (G:EnvOk g n e h)(B:e.get t=some (.tuple l)):yielded ops h j=none:=by
 obtain⟨v,y,z⟩:=G.val t _ B;obtain⟨vs,rfl,_⟩:=z.tuple_inv;rw[aG6]at u;simp[yielded,u,y]
theorem aNF{ops:Array Oper}{Y:Env}{D:List Deferred}{K:Env->St->Prop}{Kp:St->A->Prop}{Q:XK->Env->St->Prop}
  (hK:∀e s,K e s->∃e',e.ge e'/\Q .normal e' s)(b0:∀s v,Kp s v->Q (.panic v) Y s) :
  ∀(l:List Oper) (g:Gh) (e:Env) (s:St) (a:Act) (w:World),(∀o,o∈l->∀d,o.dst=some d->Y.get d=none)->g0.le g->R C.toCtx F g s w->EnvOk g n e a.tmps->EnvOk g n Y a.tmps->a.defers=D ->
   fI C n (ops.toList.map (·.dst)) l K Kp e s->wpList C.P ops (Post C F g0 n D Q) l a w
 | [],g,e,s,a,w,M,T,S,O,G,Z,h=>by
  obtain⟨e',h1,h2⟩:=hK _ _ h;exact⟨g,e',s,.normal,T,S,O.sub h1,Z,trivial,h2⟩
 | ⟨dst,op,ty,pos,after,gd⟩::r,g,e,s,a,w,M,T,S,O,G,Z,h=>by
  have b1:∀d,dst=some d->Y.get d=none:=M ⟨dst,op,ty,pos,after,gd⟩ aV
  have H:∀o,o∈r->∀d,o.dst=some d->Y.get d=none:=λo ho=>M o (by simp[ho])
  have ih:=aNF (ops:=ops) (D:=D) hK b0 r
  have run:∀e',EnvOk g n e' a.tmps->aT C op (dN C e') (cH n dst (fI C n (ops.toList.map (·.dst)) r K Kp) e') Kp s ->
    (⟨dst,op,ty,pos,after,gd⟩:Oper).wp C.P a w (wpList C.P ops (Post C F g0 n D Q) r) (Post C F g0 n D Q):=by
   intro e' y b4;have:=aNh (ev:=a.eval) (ty:=ty) (dst:=dst) (pos:=pos) (after:=after) (gd:=gd) S (y.oper S) b4;exact aJA (λ_ _ h=>h) (λ_ _ _ h=>h) (o:=⟨dst,op,ty,pos,after,gd⟩) T y G b1 Z (λg' a' w' e2 s' h1 h2 h3 b2 h4 h5=>ih g' e2 s' _ w' H (T.trans h1) h2 h3 b2 h4 h5) b0 this
  have skip:∀e',EnvOk g n e' a.tmps->cH n dst (fI C n (ops.toList.map (·.dst)) r K Kp) e' s (.tuple []) ->
    wpList C.P ops (Post C F g0 n D Q) r (a.put dst undef) w:=by
   intro e' y U;unfold cH at U;cases B:dst with
   | none=>rw[B]at U;exact ih g e' s a w H T S y G Z U
   | some d=>rw[B]at U;exact ih g _ s _ w H T S (y.put U.1 (.tuple [] [] rfl aV)) (G.other λd' b3=>by cases b3;exact b1 d B) (by rw[aDD];exact Z) U.2
  cases gd with
  | none =>
   simp only[fI]at h;unfold wpList;rw[aF (by simp[Region.wanted])];exact .inl (run e O h)
  | some jw =>
   obtain⟨j,z⟩:=jw;simp only[fI]at h;split at h
   .exact h.elim
   .rename_i t ht;split at h
    .rename_i b hb;have hy:=aKH (b:=b) ht O hb
     have y:EnvOk g n (e.put t (.bool b)) a.tmps:=O.sub λu x hx=>by
      rw[lX]at hx;by_cases hu:t=u
      .subst hu;simp only[↓reduceIte]at hx;rw[hb];exact hx
      .simpa only[hu,↓reduceIte]using hx
     unfold wpList
     have hw:Region.wanted (⟨dst,op,ty,pos,after,some (j,z)⟩:Oper) (yielded ops a.tmps)=(b == z):=by
      simp only[Region.wanted,hy];cases b<;>cases z<;>rfl
     cases b<;>cases z<;>simp only at h
     .rw[aF (by rw[hw];rfl)];exact .inl (run _ y h)
     .rw[aE (by rw[hw];decide)];exact skip _ y h
     .rw[aE (by rw[hw];decide)];exact skip _ y h
     .rw[aF (by rw[hw];rfl)];exact .inl (run _ y h)
    .rename_i l hb;have hy:=aJB ht O hb;unfold wpList;rw[aE (by simp[Region.wanted,hy])];exact skip _ O h
    .exact h.elim
theorem aHj(e:Env){ops:Array Oper}:∀o,o∈ops.toList->∀d,o.dst=some d->(e.rem (ops.toList.map (·.dst))).get d=none:=by
 intro o u d h;rw[pA,aF];rw[List.elem_eq_mem];simp only[bR,cW];exact⟨o,u,h⟩
theorem aH0{e:Env}{ds:List (Option Tmp)}{u:Array Value}(y:EnvOk g n e u):EnvOk g n (e.rem ds) u:=y.sub λt a h=>by
 rw[pA]at h;split at h
 .cases h
 .exact h
theorem Ex.region{G:Nat}{ops:Array Oper}{Q:XK->Env->St->Prop}{K:Env->St->Prop}{Kp:St->A->Prop}{e:Env}
  (z:∀e s,K e s->∃e',e.ge e'/\Q .normal e' s)(u:∀s v,Kp s v->Q (.panic v) (e.rem (ops.toList.map (·.dst))) s)
  (h:fI C n (ops.toList.map (·.dst)) ops.toList K Kp e s):Ex C n (.region G ops false) Q e s:=λF g w a B y =>
 wp_region_list (aNF z u ops.toList g e s a w (aHj e) (dQ g) B y (aH0 y) rfl h)
end
section
variable {C:Cx} {n:Nat} {Q:XK->Env->St->Prop} {e:Env} {s:St}
theorem Ex.mono{c:Code}{u:XK->Env->St->Prop}(h:Ex C n c Q e s)(y:∀x e s,Q x e s->u x e s):Ex C n c u e s :=
 λF g w a z B=>lN (λM H w' G=>Post.mono (dQ g) G y) (h F g w a z B)
theorem aTg{c:Code}{u:XK->Env->St->Prop}(h:Ex C n c Q e s)(Y:∀x e s,Q x e s->∃e',e.ge e'/\u x e' s):Ex C n c u e s :=
 λF g w a Z he=>lN (λex a' w' hp=>by
  obtain⟨z,e',s',x,B,G,H,M,O,S⟩:=hp;obtain⟨y,T,U⟩:=Y _ _ _ S;exact⟨z,y,s',x,B,G,H.sub T,M,O,U⟩) (h F g w a Z he)
theorem Ex.skip(h:Q .normal e s):Ex C n .skip Q e s:=λF g w a u y=>wp_skip ⟨g,e,s,.normal,dQ g,u,y,rfl,trivial,h⟩
theorem Ex.label{l:Nat}(h:Q .normal e s):Ex C n (.label l) Q e s:=λF g w a u y=>wp_label ⟨g,e,s,.normal,dQ g,u,y,rfl,trivial,h⟩
theorem Ex.exit{i:Nat}(h:Q (.exit i) e s):Ex C n (.exit i) Q e s:=λF g w a u y=>wp_exit ⟨g,e,s,.exit i,dQ g,u,y,rfl,rfl,h⟩
theorem Ex.goto{i:Nat}(h:Q (.goto i) e s):Ex C n (.goto i) Q e s:=λF g w a u y=>wp_goto ⟨g,e,s,.goto i,dQ g,u,y,rfl,rfl,h⟩
theorem Ex.ret(h:Q .ret e s):Ex C n .ret Q e s:=λF g w a u y=>wp_ret ⟨g,e,s,.ret,dQ g,u,y,rfl,trivial,h⟩
def kL(R:Env->St->Prop)(Q:XK->Env->St->Prop):XK->Env->St->Prop
 | .normal,e,s=>R e s
 | x,e,s=>Q x e s
theorem Ex.seq{c d:Code}(h:Ex C n c (kL (Ex C n d Q) Q) e s):Ex C n (.seq c d) Q e s:=λF g w a U Y=>by
 refine wp_seq (lN (λy T w' u=>?_) (h F g w a U Y));obtain⟨z,e',s',x,B,G,H,M,O,S⟩:=u;cases y<;>cases x<;>try exact O.elim
 .have:=S F z w' T G H;rw[M]at this;exact lN (λy Z w2 u=>Post.mono B u λ_ _ _ h=>h) this
 all_goals exact⟨z,e',s',_,B,G,H,M,O,S⟩
def sB(i:Nat)(Q:XK->Env->St->Prop):XK->Env->St->Prop
 | .exit j,e,s=>if j=i then Q .normal e s else Q (.exit j) e s
 | x,e,s=>Q x e s
theorem Ex.block{i:Nat}{c:Code}(h:Ex C n c (sB i Q) e s):Ex C n (.block i c) Q e s:=λF g w a T U=>by
 refine wp_block (lN (λS Z w' Y=>?_) (h F g w a T U));obtain⟨z,e',s',x,B,G,H,M,y,u⟩:=Y;cases S<;>cases x<;>try exact y.elim
 case exit.exit j k =>
  simp only[XRz]at y;subst y;simp only[sB]at u;simp only[Exit.inBlock];split at u
  .rename_i O;rw[aF O];exact⟨z,e',s',.normal,B,G,H,M,trivial,u⟩
  .rename_i O;rw[aE O];exact⟨z,e',s',.exit _,B,G,H,M,rfl,u⟩
 all_goals exact⟨z,e',s',_,B,G,H,M,y,u⟩
theorem Ex.cond{c:Operand}{x y:Code}{b:Bool}(B:dN C e c=some (.bool b))(h:Ex C n (if b then x else y) Q e s):Ex C n (.cond c x y) Q e s:=λF g w a u z =>
 wp_cond (((z.oper u) c _ B).bool_inv) (h F g w a u z)
theorem Ex.weaken{c:Code}{e':Env}{s':St}(B:e.ge e')(G:s.ge s')(h:Ex C n c Q e' s')(z:C.det=false:=by rfl):Ex C n c Q e s:=λF g w a y u =>
 h F g w a (y.weaken G (λh=>by rw[show C.toCtx.det=false from z]at h;cases h)) (u.sub B)
theorem aLr(I:Nat->Env->St->Prop)(m:Nat){c:Code}(h0:I m e s)
  (h:∀m e s,I m e s->Ex C n c (kL (λe' s'=>∃y,y<m/\I y e' s') Q) e s):Ex C n (.loop c) Q e s:=λF g0 w a hR hE=>by
 refine wp_loop_ghost (I:=λm u w'=>u.defers=a.defers/\∃g e s,g0.le g/\I m e s/\R C.toCtx F g s w'/\EnvOk g n e u.tmps) m
  ⟨rfl,g0,e,s,dQ g0,h0,hR,hE⟩ ?_
 rintro k u w' ⟨hD,g,e',s',hg,hI,G,z⟩;refine lN (λex a2 w2 hp=>?_) (h k e' s' hI F g w' u G z);obtain⟨M,H,s2,x,O,S,T,U,Y,Z⟩:=hp;cases ex<;>cases x<;>try exact Y.elim
 .obtain⟨y,hm,B⟩:=Z;exact⟨y,hm,U.trans hD,M,H,s2,hg.trans O,B,S,T⟩
 all_goals exact⟨M,H,s2,_,hg.trans O,S,T,U.trans hD,Y,Z⟩
def Env.has(e:Env):Env->Prop
 | []=>True
 | (k,a)::r=>e.get k=some a/\Env.has e r
theorem aDo{e:Env}:∀{e':Env},e.has e'->e.ge e'
 | [],_=>λt a h=>by cases h
 | (k,a)::r,h=>λt b u=>by
  simp only[Env.get]at u;split at u
  .rename_i y;subst y;cases u;exact h.1
  .exact aDo h.2 t b u
theorem Ex.loop{ι:Type}(E:ι->Env)(S:ι->St)(I:ι->Prop)(y:ι->Nat)(i:ι){c:Code}(T:I i)(z:e.has (E i))(G:s.ge (S i))
  (u:∀i,I i->Ex C n c (kL (λe' s'=>∃j,I j/\y j<y i/\e'.has (E j)/\s'.ge (S j)) Q) (E i) (S i))(O:C.det=false:=by rfl):Ex C n (.loop c) Q e s:=by
 refine aLr (λm e s=>∃i,I i/\y i=m/\e.ge (E i)/\s.ge (S i)) (y i) ⟨i,T,rfl,aDo z,G⟩ ?_;rintro m e s ⟨j,U,rfl,z,G⟩;refine Ex.weaken z G (Ex.mono (u j U) λx e' s' h=>?_) O;cases x
 case normal =>
  obtain⟨k,Y,B,H,M⟩:=h;exact⟨y k,B,k,Y,rfl,aDo H,M⟩
 all_goals exact h
def mX(V:List Nat)(Q:XK->Env->St->Prop)(e:Env)(s:St):Prop:=Q .normal (e.keep V) s
def vT(Q:XK->Env->St->Prop)(ds:List (Option Tmp))(e:Env)(s:St)(v:A):Prop:=Q (.panic v) (e.rem ds) s
def aEF(C:Cx)(n:Nat)(h:Nat)(ops:Array Oper)(Q:XK->Env->St->Prop)(e:Env)(s:St):Prop:=Ex C n (.region h ops true) Q e s
def eX(C:Cx)(n:Nat)(V:List Nat):Code->(XK->Env->St->Prop)->Env->St->Prop
 | .skip,Q,e,s=>Q .normal e s
 | .label _,Q,e,s=>Q .normal e s
 | .exit i,Q,e,s=>Q (.exit i) e s
 | .goto i,Q,e,s=>Q (.goto i) e s
 | .ret,Q,e,s=>Q .ret e s
 | .seq c d,Q,e,s=>eX C n V c (kL (eX C n V d Q) Q) e s
 | .block i c,Q,e,s=>eX C n V c (sB i Q) e s
 | .cond c x y,Q,e,s=>match dN C e c with
  | some (.bool b)=>match b with
   | true=>eX C n V x Q e s
   | false=>eX C n V y Q e s
  | _=>False
 | .region u ops h,Q,e,s=>match h with
  | false=>fI C n (ops.toList.map (·.dst)) ops.toList (mX V Q) (vT Q (ops.toList.map (·.dst)) e) e s
  | true=>aEF C n u ops (kL (mX V Q) Q) e s
 | .loop c,Q,e,s=>Ex C n (.loop c) Q e s
 | c,Q,e,s=>Ex C n c Q e s
theorem aQ7(R:Env->St->Prop)(Q:XK->Env->St->Prop)(e:Env)(s:St):kL R Q .normal e s=R e s:=rfl
theorem aS3(R:Env->St->Prop)(Q:XK->Env->St->Prop)(i:Nat)(e:Env)(s:St):kL R Q (.exit i) e s=Q (.exit i) e s:=rfl
theorem aS4(R:Env->St->Prop)(Q:XK->Env->St->Prop)(i:Nat)(e:Env)(s:St):kL R Q (.goto i) e s=Q (.goto i) e s:=rfl
theorem aUp(R:Env->St->Prop)(Q:XK->Env->St->Prop)(e:Env)(s:St):kL R Q .ret e s=Q .ret e s:=rfl
theorem aR6(R:Env->St->Prop)(Q:XK->Env->St->Prop)(a:A)(e:Env)(s:St):kL R Q (.panic a) e s=Q (.panic a) e s:=rfl
theorem aPq(i:Nat)(Q:XK->Env->St->Prop)(e:Env)(s:St):sB i Q .normal e s=Q .normal e s:=rfl
theorem aRt(i:Nat)(Q:XK->Env->St->Prop)(e:Env)(s:St):sB i Q .ret e s=Q .ret e s:=rfl
theorem aQf(i j:Nat)(Q:XK->Env->St->Prop)(e:Env)(s:St):sB i Q (.goto j) e s=Q (.goto j) e s:=rfl
theorem aPO(i:Nat)(a:A)(Q:XK->Env->St->Prop)(e:Env)(s:St):sB i Q (.panic a) e s=Q (.panic a) e s:=rfl
theorem aQe(i j:Nat)(Q:XK->Env->St->Prop)(e:Env)(s:St):sB i Q (.exit j) e s=if j=i then Q .normal e s else Q (.exit j) e s:=rfl
theorem aQ{V:List Nat}:∀(c:Code) (Q:XK->Env->St->Prop) (e:Env) (s:St),eX C n V c Q e s->Ex C n c Q e s
 | .skip,Q,e,s,h=>Ex.skip h
 | .label _,Q,e,s,h=>Ex.label h
 | .exit i,Q,e,s,h=>Ex.exit h
 | .goto i,Q,e,s,h=>Ex.goto h
 | .ret,Q,e,s,h=>Ex.ret h
 | .seq c d,Q,e,s,h=>by
  refine Ex.seq (Ex.mono (aQ c _ e s h) λx e s z=>?_);cases x
  case normal=>exact aQ d Q e s z
  all_goals exact z
 | .block i c,Q,e,s,h=>Ex.block (aQ c _ e s h)
 | .cond c x y,Q,e,s,h=>by
  simp only[eX]at h;split at h
  .rename_i b B;refine Ex.cond B ?_;cases b
   .exact aQ y Q e s h
   .exact aQ x Q e s h
  .exact h.elim
 | .region H ops u,Q,e,s,h=>by
  cases u
  .exact Ex.region (λe s G=>⟨_,aJD V e,G⟩) (λ_ _ h=>h) h
  .refine aTg (Q:=kL (mX V Q) Q) h λx e s z=>?_
   cases x
   case normal=>exact⟨_,aJD V e,z⟩
   all_goals exact⟨e,Env.ge.refl e,z⟩
 | .loop c,Q,e,s,h=>h
 | .rangeFunc ..,Q,e,s,h=>h
 | .scope c,Q,e,s,h=>h
 | .refuse _,Q,e,s,h=>h
end
end
section
def kW:Nat->List A->Env
 | _,[]=>[]
 | k,a::r=>(k,a)::kW (k+1) r
theorem aGP:∀(az:List A) (k t:Nat) (a:A),(kW k az).get t=some a->k<=t/\az[t-k]?=some a
 | [],k,t,a,h=>by simp[kW,Env.get]at h
 | x::r,k,t,a,h=>by
  simp only[kW,Env.get]at h;split at h
  .rename_i u;subst u;simp only[bM]at h;subst h;exact⟨bF _,by simp⟩
  .rename_i u;obtain⟨z,y⟩:=aGP r (k+1) t a h;refine⟨by omega,?_⟩;rw[show t-k=(t-(k+1))+1 by omega];simpa using y
def nP(C:Cx)(e:Env)(s:St):List ResultVar->Option (List A)
 | []=>some []
 | .tmp t::r=>match e.get t,nP C e s r with
  | some a,some l=>some (a::l)
  | _,_=>none
 | .cell p t::r=>match e.get p,nP C e s r with
  | some (.ptr b o),some l=>match s.getO b with
   | some (.cells _ cs)=>match rL C t cs o with
    | some a=>some (a::l)
    | none=>none
   | _=>none
  | _,_=>none
def sQ:List A->A
 | [a]=>a
 | l=>.tuple l
def kK(C:Cx)(h:List ResultVar)(KV Kp:St->A->Prop):XK->Env->St->Prop
 | .normal,e,s=>match nP C e s h with
  | some l=>KV s (sQ l)
  | none=>False
 | .ret,e,s=>match nP C e s h with
  | some l=>KV s (sQ l)
  | none=>False
 | .panic a,_,s=>Kp s a
 | _,_,_=>False
section
variable {C:Cx} {F:Fr} {g:Gh} {s:St} {w:World} {n:Nat} {e:Env}
theorem aQG(hR:R C.toCtx F g s w){b o:Nat}{e:TypeId}{cs:List A}{t:TypeId}{v:A}(hb:s.getO b=some (.cells e cs))(h:rL C t cs o=some v) :
  ∃k u,g.beta b=some k/\(loadVar t ⟨k,o,none⟩).run C.P w=.ok u w/\Rz g v u:=by
 obtain⟨k,vs,rest,T,hh,H,U⟩:=hR.cellsOf hb
 have cell:∀j u,vs[j]?=some u->w.cell? ⟨k,j,none⟩=some u:=by
  intro j u y;simp only[World.cell?,hh,lB,cV,↓reduceIte,lK];rw[jT (cX.1 y).1];exact y
 simp only[rL]at h;split at h
 .rename_i O M;split at h
  .rename_i B;split at h
   .rename_i b0;simp only[bM]at h;subst h
    have Y:∀j v,((vs.drop o).take O.sz)[j]?=some v->w.cell? ((⟨k,o,none⟩:Addr).add j)=some v:=by
     intro j v y;rw[mO]at y;split at y
     .rw[nD]at y;rw[kT,cell _ _ y]
     .simp at y
    have G:((vs.drop o).take O.sz).length=O.sz:=by
     have:=H.1;rw[dG,eR];omega
    have z:=run_loadCells_list (P:=C.P) w ⟨k,o,none⟩ _ Y;rw[G]at z;have Z:=(H.drop o).take O.sz;refine⟨k,.agg ((vs.drop o).take O.sz).toArray,T,?_,.agg _ _ Z.1 (λc Y=>U c (uI (qC Y))) Z.2⟩;simp only[loadVar,bG,bV,bJ,aBa M,B,↓reduceIte,lD M,z]
   .simp at h
  .rename_i B;obtain⟨u,hu,hr⟩:=H.get h;have S:O.k.agg=false:=gQ B;refine⟨k,u,T,?_,hr⟩;simp only[loadVar,bG,bV,bJ,aBa M,S,cV,↓reduceIte,run_load,cell _ _ hu]
 .simp at h
def uC(h:Array Value):ResultVar->Sem Value
 | .tmp t=>pure (h.getD t undef)
 | .cell a t=>do loadVar t (<-asAddr (h.getD a undef))
theorem aCy(O:R C.toCtx F g s w){y:Array Value}(B:EnvOk g n e y):∀(rs:List ResultVar) (l:List A),nP C e s rs=some l ->
  ∃vs,(rs.mapM (uC y)).run C.P w=.ok vs w/\Rzs g l vs
 | [],l,h=>by simp[nP]at h;subst h;exact⟨[],by simp,.nil g⟩
 | .tmp t::r,l,h=>by
  simp only[nP]at h;split at h
  .rename_i a l' S hl;simp only[bM]at h;subst h;obtain⟨vs,H,M⟩:=aCy O B r l' hl;obtain⟨u,Z,Y⟩:=B.val t a S;refine⟨u::vs,?_,.cons Y M⟩;have G:(uC y (.tmp t)).run C.P w=.ok u w:=by simp[uC,aF1,Z]
   simp only[List.mapM_cons,bG,bV,bJ,H,G]
  .simp at h
 | .cell p t::r,l,h=>by
  simp only[nP]at h;split at h
  .rename_i b o l' S hl;split at h
   .rename_i cs hcs;split at h
    .rename_i v hv;simp only[bM]at h;subst h;obtain⟨vs,H,M⟩:=aCy O B r l' hl;obtain⟨u,Z,Y⟩:=B.val p _ S;obtain⟨k,q,T,hq,U⟩:=aQG O hcs hv;obtain⟨k',hp,z⟩:=Y.ptr_inv;rw[T]at z;cases z;refine⟨q::vs,?_,.cons U M⟩;have G:(uC y (.cell p t)).run C.P w=.ok q w:=by simp only[uC,bG,aF1,Z,oX,hp,asAddr,bV,bJ,hq]
     simp only[List.mapM_cons,bG,bV,bJ,H,G]
    .simp at h
   .simp at h
  .simp at h
theorem aHI{l:List A}{vs:List Value}(h:Rzs g l vs):Rz g (sQ l) (if h:vs.toArray.size=1 then vs.toArray[0] else .tuple vs.toArray):=by
 match l,vs,h with
 | [],[],h=>exact .tuple [] [] rfl aV
 | [a],[v],h=>exact h.2 0 a v aV aV
 | a::b::l,v::u::vs,h =>
  have:¬ (v::u::vs).toArray.size=1:=by simp
  rw[dif_neg this];exact .tuple _ _ h.1 h.2
 | [],_::_,h=>have:=h.1;simp at this
 | _::_,[],h=>have:=h.1;simp at this
 | [_],_::_::_,h=>have:=h.1;simp at this
 | _::_::_,[_],h=>have:=h.1;simp at this
theorem aAq{f:FuncId}{fn:Func}{c:Code}{args:List A}{KV Kp:St->A->Prop}(hf:C.P.funcs[f]?=some fn)(Z:fn.body=some c)
  (z : (fn.name == "runtime.NumGoroutine") = false) (hn : args.length ≤ fn.ntmps)
  (h:Ex C fn.ntmps c (kK C fn.results.toList KV Kp) (kW 0 args) s):Den C f args KV Kp s:=by
 intro F g w vals hR hv
 have H:(callFunc f vals.toArray).run C.P w=.ok (.enter f vals.toArray) w:=by
  simp only[callFunc,bG,run_program,bJ,hf,z,cV,↓reduceIte,Z,qG,bV]
 rw[H];refine calls_of_wp hf Z ?_
 have hE:EnvOk g fn.ntmps (kW 0 args) (vals.toArray++Array.replicate (fn.ntmps-vals.toArray.size) undef):=by
  have hl:vals.length=args.length:=hv.1;refine⟨by simp;omega,λt a ha=>?_⟩;obtain⟨_,B⟩:=aGP args 0 t a ha;obtain⟨u,O,M⟩:=hv.get B;rw[Nat.sub_zero]at O;refine⟨u,?_,M⟩;have:t<vals.length:=(cX.1 O).1;rw[Array.getElem?_append_left (gQ this)];simpa using O
 refine lN (λex G w' hp=>?_) (h F g w ⟨_,[]⟩ hR hE);obtain⟨S,e',s',x,T,B,h3,U,Y,y⟩:=hp
 have fin:∀l,nP C e' s' fn.results.toList=some l->KV s' (sQ l)->G.defers=[]/\∃v,(results fn G.tmps).run C.P w'=.ok v w'/\vH C F g KV Kp (.returned v) w':=by
  intro l hl hk;obtain⟨vs,r1,r2⟩:=aCy B h3 _ _ hl;refine⟨U,_,?_,⟨S,_,s',T,B,aHI r2,hk⟩⟩;have e0:results fn G.tmps=(do let vs <-fn.results.mapM (uC G.tmps);pure (if h:vs.size=1 then vs[0] else .tuple vs)):=rfl;rw[e0,bG,Array.mapM_eq_mapM_toList,Sem.run_map,r1];rfl
 cases ex<;>cases x<;>try exact Y.elim
 .simp only[kK]at y;split at y
  .rename_i l hl;exact fin l hl y
  .exact y.elim
 .exact y.elim
 .exact y.elim
 .simp only[kK]at y;split at y
  .rename_i l hl;exact fin l hl y
  .exact y.elim
 .obtain⟨v,rfl,M⟩:=Y;exact⟨U,⟨S,_,v,s',rfl,T,B,M,y⟩⟩
theorem Den.mono{f:FuncId}{args:List A}{KV Kp G H:St->A->Prop}(h:Den C f args KV Kp s)(M:∀s a,KV s a->G s a)(S:∀s a,Kp s a->H s a) :
  Den C f args G H s:=by
 intro F g w vals T U;have:=h F g w vals T U;revert this;generalize (callFunc f vals.toArray).run C.P w=r;intro B;cases r with
 | ok x w' =>
  cases x<;>simp only[OutV]at B⊢
  .obtain⟨z,a,s',u,y,a3,a4⟩:=B;exact⟨z,a,s',u,y,a3,M _ _ a4⟩
  .obtain⟨z,s',u,y,a3⟩:=B;exact⟨z,s',u,y,M _ _ a3⟩
  .refine Calls.mono B λen Y O=>?_
   cases en with
   | returned v=>obtain⟨z,a,s',u,y,a3,a4⟩:=O;exact⟨z,a,s',u,y,a3,M _ _ a4⟩
   | panicked mE=>obtain⟨z,a,v,s',a0,u,y,a3,a4⟩:=O;exact⟨z,a,v,s',a0,u,y,a3,S _ _ a4⟩
   | outgrown=>exact O
 | halt x w' =>
  cases x<;>simp only[OutV]at B⊢
  obtain⟨z,a,s',u,y,a3,a4⟩:=B;exact⟨z,a,s',u,y,a3,S _ _ a4⟩
theorem Den.weaken{f:FuncId}{args:List A}{KV Kp:St->A->Prop}{s':St}(z:s.ge s')(h:Den C f args KV Kp s')(y:C.det=false:=by rfl):Den C f args KV Kp s :=
 λF g w vals u B=>h F g w vals (u.weaken z (λh=>by rw[show C.toCtx.det=false from y]at h;cases h)) B
end
def gF4:=@Den.weaken
end
section
def aHN:A->Value->Bool
 | .int k n,.int j m=>decide (k=j)&&decide (n=m)
 | .bool b,.bool c=>b == c
 | .str s,.string t=>s.isEmpty&&decide (t.data.toList=[])
 | .nilp,.pointer none=>true
 | .nils,.slice none 0 0=>true
 | .nilf,.nilFunc=>true
 | .nili,.nilIface=>true
 | .nilm,.map none=>true
 | _,_=>false
def aBc:List A->List Value->Bool
 | [],[]=>true
 | a::az,v::vs=>aHN a v&&aBc az vs
 | _,_=>false
theorem aSb{g:Gh}{a:A}{v:Value}(h:aHN a v=true):Rz g a v/\a.one=true:=by
 unfold aHN at h;split at h<;>simp only[aY,bR,beq_iff_eq,cV]at h
 .obtain⟨rfl,rfl⟩:=h;exact⟨.int _ _,rfl⟩
 .subst h;exact⟨.bool _,rfl⟩
 .rename_i s t;obtain⟨u,y⟩:=h;have:s=t.data.toList:=by rw[y];simpa using u
  subst this;exact⟨.str t.data.toList,rfl⟩
 .exact⟨.nilp,rfl⟩
 .exact⟨.nils,rfl⟩
 .exact⟨.nilf,rfl⟩
 .exact⟨.nili,rfl⟩
 .exact⟨.nilm,rfl⟩
theorem aGZ{g:Gh}:∀{az:List A} {vs:List Value},aBc az vs=true->Rzs g az vs/\∀c,c∈az->c.one=true
 | [],[],_=>⟨.nil g,by simp⟩
 | a::az,v::vs,h=>by
  simp only[aBc,aY]at h;have y:=aSb (g:=g) h.1;have z:=aGZ (g:=g) h.2;exact⟨.cons y.1 z.1,λc u=>by cases u with|head=>exact y.2|tail _ u=>exact z.2 c u⟩
 | [],_::_,h=>by simp[aBc]at h
 | _::_,[],h=>by simp[aBc]at h
def aA8(P:Program):List Field->List (Nat × Nat × Bool)->Bool
 | [],[]=>true
 | f::h,(o,s,a)::r=>decide (f.offset=o)&&decide ((P.info? f.type).map (·.size)=some s)&&decide (s≠0)&&(P.underlying f.type).isSome&&(zQ (P.underlying f.type) == a)&&aA8 P h r
 | _,_=>false
theorem aKU{P:Program}:∀{u:List Field} {l:List (Nat × Nat × Bool)},aA8 P u l=true->u.length=l.length/\∀(i o s:Nat) (a:Bool),l[i]?=some (o,s,a) ->
   ∃f,u[i]?=some f/\f.offset=o/\(P.info? f.type).map (·.size)=some s/\s≠0/\(P.underlying f.type).isSome=true/\zQ (P.underlying f.type)=a
 | [],[],_=>⟨rfl,λi o s a h=>by simp at h⟩
 | f::u,(o,s,a)::r,h=>by
  simp only[aA8,aY,bR,beq_iff_eq]at h;obtain⟨⟨⟨⟨⟨M,O⟩,S⟩,T⟩,U⟩,Y⟩:=h;obtain⟨B,G⟩:=aKU Y;refine⟨by simp[B],λi Z s' z y=>?_⟩;cases i with
  | zero=>simp only[iO,bM,uL]at y;obtain⟨rfl,rfl,rfl⟩:=y;exact⟨f,by simp,M,O,S,T,U⟩
  | succ i=>obtain⟨H,q⟩:=G i Z s' z (gQ y);exact⟨H,gQ q⟩
 | [],_::_,h=>by simp[aA8]at h
 | _::_,[],h=>by simp[aA8]at h
def aIB(P:Program)(k:TK)(d:TypeDesc):Bool :=
 match k,d with
 | .int k,.int j=>decide (k=j)
 | .bool,.bool=>true
 | .string,.string=>true
 | .slice e,.slice e'=>decide (e=e')
 | .array n e,.array m e'=>decide (n=m)&&decide (e=e')
 | .struct u,.struct h=>aA8 P h.toList u
 | .iface,.interface _=>true
 | .map e kd,.map y e'=>decide (e=e')&&aHV P y kd
 | .other,.pointer _|.other,.func ..|.other,.map ..|.other,.chan ..|.other,.unsafePointer|.other,.float _|.other,.complex _=>true
 | _,_=>false
theorem aVP{P:Program}{k:TK}{d:TypeDesc}(h:aIB P k d=true):k.ok P d:=by
 unfold aIB at h;split at h<;>(try simp only[aY,bR,cV]at h)<;>simp only[TK.ok]
 .subst h;rfl
 .subst h;rfl
 .obtain⟨rfl,rfl⟩:=h;rfl
 .rename_i H u;obtain⟨y,z⟩:=aKU h;exact⟨u,rfl,gQ y,λi o s a G=>by obtain⟨f,q⟩:=z i o s a G;exact⟨f,gQ q⟩⟩
 .exact⟨_,rfl⟩
 .obtain⟨rfl,B⟩:=h;exact⟨_,rfl,aSD B⟩
 all_goals exact⟨rfl,by simp⟩
def aNp:Value->Bool
 | .agg _=>true
 | _=>false
def aIA(P:Program)(t:TypeId)(h:TI):Bool :=
 match P.info? t,P.underlying t with
 | some i,some d=>decide (i.size=h.sz)&&decide (i.bytes=h.bytes)&&decide (h.zero.length=h.sz)&&(match i.zero with|some z=>aBc h.zero z.cells.toList&&(aNp z == h.k.agg)|none=>false)&&aIB P h.k d
 | _,_=>false
theorem aVO{P:Program}{t:TypeId}{H:TI}(h:aIA P t H=true):H.ok P t:=by
 unfold aIA at h;split at h
 .rename_i i d G Y;simp only[aY,bR]at h;obtain⟨⟨⟨⟨M,O⟩,S⟩,u⟩,T⟩:=h;split at u
  .rename_i z hz;simp only[aY,beq_iff_eq]at u;obtain⟨u,U⟩:=u;refine⟨⟨i,z,G,M,O,hz,λg=>(aGZ (g:=g) u).1⟩,(aGZ (g:=⟨λ_=>none,λ_ _=>none,λ_=>none,default,#[]⟩) u).2,S,⟨d,Y,aVP T⟩,λZ z' y B=>?_⟩;rw[G]at y;cases y;rw[hz]at B;cases B;rw[<-U];cases z<;>simp[aNp]
  .cases u
 .cases h
section
variable (C:Cx) (n:Nat) (V:List Nat) (Q:XK->Env->St->Prop) (e:Env) (s:St)
@[go_sem] theorem aYX:eX C n V .skip Q e s=Q .normal e s:=rfl
@[go_sem] theorem aYu(l:Nat):eX C n V (.label l) Q e s=Q .normal e s:=rfl
@[go_sem] theorem aYU(i:Nat):eX C n V (.exit i) Q e s=Q (.exit i) e s:=rfl
@[go_sem] theorem aYV(i:Nat):eX C n V (.goto i) Q e s=Q (.goto i) e s:=rfl
@[go_sem] theorem aZf:eX C n V .ret Q e s=Q .ret e s:=rfl
@[go_sem] theorem aZg(c d:Code):eX C n V (.seq c d) Q e s=eX C n V c (kL (eX C n V d Q) Q) e s:=rfl
@[go_sem] theorem aYt(i:Nat)(c:Code):eX C n V (.block i c) Q e s=eX C n V c (sB i Q) e s:=rfl
def brK(C:Cx)(n:Nat)(V:List Nat)(x y:Code)(Q:XK->Env->St->Prop)(e:Env)(s:St):Option A->Prop
 | some (.bool true)=>eX C n V x Q e s
 | some (.bool false)=>eX C n V y Q e s
 | _=>False
@[go_sem] theorem aYS (c:Operand) (x y:Code):eX C n V (.cond c x y) Q e s=brK C n V x y Q e s (dN C e c):=by
 show(match dN C e c with
  | some (.bool b)=>match b with
   | true=>eX C n V x Q e s
   | false=>eX C n V y Q e s
  | _=>False)=_
 cases dN C e c with
 | none=>rfl
 | some a=>cases a<;>first|rfl|(rename_i b;cases b<;>rfl)
@[go_sem] theorem aYy(x y:Code):brK C n V x y Q e s (some (.bool true))=eX C n V x Q e s:=rfl
@[go_sem] theorem aYb(x y:Code):brK C n V x y Q e s (some (.bool false))=eX C n V y Q e s:=rfl
@[go_sem] theorem aX7(h:Nat)(ops:Array Oper):eX C n V (.region h ops false) Q e s=fI C n (ops.toList.map (·.dst)) ops.toList (mX V Q) (vT Q (ops.toList.map (·.dst)) e) e s:=rfl
@[go_sem] theorem aYT(h:Nat)(ops:Array Oper):eX C n V (.region h ops true) Q e s=aEF C n h ops (kL (mX V Q) Q) e s:=rfl
@[go_sem] theorem aYW(c:Code):eX C n V (.loop c) Q e s=Ex C n (.loop c) Q e s:=rfl
variable (ds:List (Option Tmp)) (K:Env->St->Prop) (Kp:St->A->Prop)
@[go_sem] theorem aZh:fI C n ds [] K Kp e s=K e s:=rfl
@[go_sem] theorem aYY (dst:Option Tmp) (op:Op) (ty:TypeId) (pos:String) (after:Array Edge) (r:List Oper) :
  fI C n ds (⟨dst,op,ty,pos,after,none⟩::r) K Kp e s=aT C op (dN C e) (cH n dst (fI C n ds r K Kp) e) Kp s:=rfl
def sV(C:Cx)(n:Nat)(ds:List (Option Tmp))(dst:Option Tmp)(op:Op)(r:List Oper)(K:Env->St->Prop)(Kp:St->A->Prop)(e:Env)(s:St)(t:Nat)(h:Bool):Option A->Prop
 | some (.bool true)=>match h with
  | true=>aT C op (dN C (e.put t (.bool true))) (cH n dst (fI C n ds r K Kp) (e.put t (.bool true))) Kp s
  | false=>cH n dst (fI C n ds r K Kp) (e.put t (.bool true)) s (.tuple [])
 | some (.bool false)=>match h with
  | false=>aT C op (dN C (e.put t (.bool false))) (cH n dst (fI C n ds r K Kp) (e.put t (.bool false))) Kp s
  | true=>cH n dst (fI C n ds r K Kp) (e.put t (.bool false)) s (.tuple [])
 | some (.tuple _)=>cH n dst (fI C n ds r K Kp) e s (.tuple [])
 | _=>False
def gdT(C:Cx)(n:Nat)(ds:List (Option Tmp))(dst:Option Tmp)(op:Op)(r:List Oper)(K:Env->St->Prop)(Kp:St->A->Prop)(e:Env)(s:St)(h:Bool):Option Tmp->Prop
 | none=>False
 | some t=>sV C n ds dst op r K Kp e s t h (e.get t)
@[go_sem] theorem aYv (dst:Option Tmp) (op:Op) (ty:TypeId) (pos:String) (after:Array Edge) (j:Nat) (h:Bool) (r:List Oper) :
  fI C n ds (⟨dst,op,ty,pos,after,some (j,h)⟩::r) K Kp e s=gdT C n ds dst op r K Kp e s h (kI ds j):=by
 simp only[fI];unfold gdT;cases kI ds j with
 | none=>rfl
 | some t =>
  simp only[sV];cases e.get t with
  | none=>rfl
  | some a=>cases a<;>first|rfl|(rename_i b;cases b<;>cases h<;>rfl)
@[go_sem] theorem aYF(dst:Option Tmp)(op:Op)(r:List Oper)(h:Bool)(t:Nat):gdT C n ds dst op r K Kp e s h (some t)=sV C n ds dst op r K Kp e s t h (e.get t):=rfl
@[go_sem] theorem aZG(dst:Option Tmp)(op:Op)(r:List Oper)(t:Nat):sV C n ds dst op r K Kp e s t true (some (.bool true))=aT C op (dN C (e.put t (.bool true))) (cH n dst (fI C n ds r K Kp) (e.put t (.bool true))) Kp s:=rfl
@[go_sem] theorem aZF(dst:Option Tmp)(op:Op)(r:List Oper)(t:Nat):sV C n ds dst op r K Kp e s t true (some (.bool false))=cH n dst (fI C n ds r K Kp) (e.put t (.bool false)) s (.tuple []):=rfl
@[go_sem] theorem aZE(dst:Option Tmp)(op:Op)(r:List Oper)(t:Nat):sV C n ds dst op r K Kp e s t false (some (.bool true))=cH n dst (fI C n ds r K Kp) (e.put t (.bool true)) s (.tuple []):=rfl
@[go_sem] theorem aZD(dst:Option Tmp)(op:Op)(r:List Oper)(t:Nat):sV C n ds dst op r K Kp e s t false (some (.bool false))=aT C op (dN C (e.put t (.bool false))) (cH n dst (fI C n ds r K Kp) (e.put t (.bool false))) Kp s:=rfl
@[go_sem] theorem aZ2(dst:Option Tmp)(op:Op)(r:List Oper)(t:Nat)(h:Bool)(l:List A):sV C n ds dst op r K Kp e s t h (some (.tuple l))=cH n dst (fI C n ds r K Kp) e s (.tuple []):=by
 cases h<;>rfl
@[go_sem] theorem aYm(d:Tmp)(v:A):cH n (some d) K e s v=(d<n/\K (e.put d v) s):=rfl
@[go_sem] theorem aYC(sz:Nat)(K:A->Prop)(x:A):elK sz K (some x)=(x.cells.length=sz/\K (.eptr x.cells 0)):=rfl
@[go_sem] theorem aYz(K:A->Prop)(c:UInt8):chK K (some c)=K (.int .u8 c.toNat):=rfl
@[go_sem] theorem aYl(v:A):cH n none K e s v=K e s:=rfl
end
attribute [go_sem] aEw aNq aEK
attribute [go_sem] mX vT aQ7 aS3 aUp aR6 aS4 aPq aRt aQf aPO aQe
attribute [go_sem] Env.get Env.put Env.keep kI dN aA5 aCn aA6 lF mD oO aT bH aEW aBd unA aA7 rL nU A.cells A.one sQ nP kK kW zE aCR tW sO qA nR TK.agg iM aBr rT vP sP aBk hlA
attribute [go_sem] aW jU gS qH Int.ofNat_lt Int.ofNat_le Int.natCast_nonneg Int.natCast_inj aAl
@[go_sem] theorem aX3:iF []=true:=rfl
@[go_sem] theorem aXZ(a:A)(l:List A):iF (a::l)=(a.one&&iF l):=rfl
attribute [go_sem] Env.has bM A.int.injEq A.str.injEq A.bool.injEq A.list.injEq A.ptr.injEq A.agg.injEq
@[go_sem] theorem aYf(tk:Option Nat)(es:List A):lenS (.list tk es)=some (.int .i64 es.length):=rfl
@[go_sem] theorem aYg:lenS .nils=some (.int .i64 0):=rfl
@[go_sem] theorem aZc(b o n:Nat):lenS (.ml b o n)=some (.int .i64 n):=rfl
@[go_sem] theorem aYJ:lenS .emp=some (.int .i64 0):=rfl
@[go_sem] theorem aZb(b n c:Nat):lenS (.mg b n c)=some (.int .i64 n):=rfl
@[go_sem] theorem aYa(C:Cx)(s:St)(e:TypeId)(h:TI)(ys:List A)(KV:St->A->Prop):oL C s e h ys KV .nils=(ys.length<=4294967296/\nO C s ys.length e h.sz ys KV):=rfl
@[go_sem] theorem aX8(C:Cx)(s:St)(e:TypeId)(h:TI)(KV:St->A->Prop):oL C s e h [] KV .emp=KV s .emp:=rfl
@[go_sem] theorem aYx(C:Cx)(s:St)(e:TypeId)(h:TI)(y:A)(r:List A)(KV:St->A->Prop):oL C s e h (y::r) KV .emp=(((y::r).length<=4294967296/\0<(y::r).length)/\nO C s (y::r).length e h.sz (y::r) KV):=rfl
@[go_sem] theorem aY2(C:Cx)(s:St)(e:TypeId)(h:TI)(ys:List A)(KV:St->A->Prop)(b n cap:Nat):oL C s e h ys KV (.mg b n cap)=tX C.det s b n cap e h.sz ys.length ys KV (s.getO b):=rfl
@[go_sem] theorem aX9(C:Cx)(s:St)(e:TypeId)(h:TI)(ys:List A)(KV:St->A->Prop)(t:Nat)(es:List A):oL C s e h ys KV (.list (some t) es) =
 (s.getT t=some (es.length,e)/\(∀y,y∈es->y.cells.length=h.sz)/\es.length+ys.length<=4294967296/\KV (s.setT t (es.length+ys.length,e)) (.list (some t) (es++ys))):=rfl
theorem gT(x:Int)(h:-9223372036854775808<=x)(u:x<=9223372036854775807):IntKind.i64.wrap x=x:=IntWalk.i64_in x ⟨h,u⟩
theorem aR(i:Nat)(h:i<9223372036854775807):IntKind.i64.wrap ((i:Int)+1)=((i+1:Nat):Int):=by
 rw[gT _ aB aB];rfl
end
section
section
variable {C:Cx} {s:St} {ρ ρ':Operand->Option A} {K:A->Prop}
theorem aDw:∀{l:List Operand},(∀x,x∈l->ρ x=ρ' x)->lF ρ l=lF ρ' l
 | [],_=>rfl
 | x::r,h=>by
  have u:lF ρ r=lF ρ' r:=aDw λy z=>h y (cZ x z)
  simp only[lF,h x aV,u]
theorem aGf:∀{l:List (Nat × Operand)},(∀x,x∈l.map (·.2)->ρ x=ρ' x)->mD ρ l=mD ρ' l
 | [],_=>rfl
 | (i,x)::r,h=>by
  have u:mD ρ r=mD ρ' r:=aGf λy z=>h y (by simp only[cC,cR];exact .inr z)
  simp only[mD,h x aV,u]
theorem aKA{o:Option Operand}(h:∀x,o=some x->ρ x=ρ' x):oO ρ o=oO ρ' o:=by
 cases o with
 | none=>rfl
 | some x=>simp only[oO,h x rfl]
theorem yR{op:Op}(h:∀x,x∈op.operands->ρ x=ρ' x):bH C op ρ K=bH C op ρ' K:=by
  cases op
  case build t ps =>
    have:mD ρ ps.toList=mD ρ' ps.toList:=aGf λx hx=>h x (by simpa [Op.operands]using hx)
    simp only[bH,this]
  case buildSlice t n ps =>
    have:mD ρ ps.toList=mD ρ' ps.toList:=aGf λx hx=>h x (by simpa [Op.operands]using hx)
    simp only[bH,this]
  case makeFunc fn first caps =>
    have h1:lF ρ first.toList=lF ρ' first.toList:=aDw λx hx=>h x (by simp[Op.operands];exact .inl (gQ hx))
    have h2:lF ρ caps.toList=lF ρ' caps.toList:=aDw λx hx=>h x (by simp[Op.operands];exact .inr (gQ hx))
    cases fn<;>simp only[bH,h1,h2]
  case call c =>
    obtain⟨cal,args,ats⟩:=c;obtain⟨args⟩:=args;obtain⟨ats⟩:=ats;have h1:∀x,x∈args->ρ x=ρ' x:=λx hx=>h x (by simp[Op.operands,Call.operands,hx])
    simp only[bH];split
    · simp_all
    · simp_all
    · simp_all
    · simp_all
    · simp_all
    · simp_all
    · rfl
  case slice t x lo hi mx =>
    have h1:=h x (by simp[Op.operands]);have h2:oO ρ lo=oO ρ' lo:=aKA λy hy=>h y (by simp[Op.operands,hy])
    have h3:oO ρ hi=oO ρ' hi:=aKA λy hy=>h y (by simp[Op.operands,hy])
    cases mx with
    | none=>simp only[bH,h1,h2,h3]
    | some mx =>
      have h4:=h mx (by simp[Op.operands]);cases lo with
      | some lo=>simp only[bH]
      | none=>cases hi with
        | none=>simp only[bH]
        | some hi =>
          have h5:=h hi (by simp[Op.operands]);simp only[bH,h1,h4,h5]
  all_goals first
    | rfl
    | (simp only [Op.operands,List.mem_toArray,Array.mem_def,cR,gX,dW,forall_eq_or_imp,forall_eq] at h
       simp only[bH,h])
theorem aKP{op:Op}{KV Kp:St->A->Prop}(h:∀x,x∈op.operands->ρ x=ρ' x)(O:aT C op ρ KV Kp s):aT C op ρ' KV Kp s:=by
 have key:aT C op ρ KV Kp s=aT C op ρ' KV Kp s:=by
  cases op
  case load t x =>
   have z:=h x (by simp[Op.operands]);simp only[aT,z,yR (C:=C) (K:=KV s) h]
  case store t x y =>
   simp only[aT,h x (by simp[Op.operands]),h y (by simp[Op.operands])]
  case box t x=>simp only[aT,h x (by simp[Op.operands])]
  case makeMap t r=>cases r<;>rfl
  case lookup t x k b=>simp only[aT,h x (by simp[Op.operands]),h k (by simp[Op.operands])]
  case mapUpdate t x k y=>simp only[aT,h x (by simp[Op.operands]),h k (by simp[Op.operands]),h y (by simp[Op.operands])]
  case panic x=>simp only[aT,h x (by simp[Op.operands])]
  case range t x=>simp only[aT,h x (by simp[Op.operands])]
  case convert a b x =>
   have z:=h x (by simp[Op.operands]);simp only[aT,z,yR (C:=C) (K:=KV s) h]
  case makeSlice t a b=>simp only[aT,h a (by simp[Op.operands]),h b (by simp[Op.operands])]
  case next x b=>cases b<;>simp only[aT,h x (by simp[Op.operands])]
  case entry x=>simp only[aT,h x (by simp[Op.operands])]
  case alloc=>rfl
  case buildSlice t len M=>simp only[aT,yR (C:=C) (K:=KV s) h,yR (C:=C) (K:=xV C s t KV) h]
  case call c =>
   have G:=yR (C:=C) (K:=KV s) h;obtain⟨H,args,B⟩:=c;obtain⟨args⟩:=args;obtain⟨B⟩:=B;have z:∀x,x∈args->ρ x=ρ' x:=λx S=>h x (by simp[Op.operands,Call.operands,S])
   cases H with
   | value f=>simp only[aT,h f (by simp[Op.operands,Call.operands]),aDw z]
   | invoke r m=>exact G
   | builtin b =>
    cases b
    case append =>
     match args,B,z with
     | [x,y],[t,u],z=>simp only[aT,z x aV,z y aV]
     | [],_,z=>rfl
     | [_],_,z=>rfl
     | _::_::_::_,_,z=>rfl
     | [_,_],[],z=>rfl
     | [_,_],[_],z=>rfl
     | [_,_],_::_::_::_,z=>rfl
    case unsafeString =>
     match args,B,z with
     | [x,y],[t,u],z=>simp only[aT,z x aV,z y aV]
     | [],_,z=>rfl
     | [_],_,z=>rfl
     | _::_::_::_,_,z=>rfl
     | [_,_],[],z=>rfl
     | [_,_],[_],z=>rfl
     | [_,_],_::_::_::_,z=>rfl
    case delete =>
     match args,B,z with
     | [x,y],[t,u],z=>simp only[aT,z x aV,z y aV]
     | [],_,z=>rfl
     | [_],_,z=>rfl
     | _::_::_::_,_,z=>rfl
     | [_,_],[],z=>rfl
     | [_,_],[_],z=>rfl
     | [_,_],_::_::_::_,z=>rfl
    case panic =>
     match args,z with
     | [],z=>rfl
     | [x],z=>simp only[aT,z x aV]
     | _::_::_,z=>rfl
    all_goals exact G
  case binOp op t x y T =>
   have G:=yR (C:=C) (K:=KV s) h;cases op
   case eql=>simp only[aT,G,h x (by simp[Op.operands]),h y (by simp[Op.operands])]
   all_goals exact G
  all_goals exact yR (C:=C) (K:=KV s) h
 rw[<-key];exact O
theorem aMt{op:Op}(h:bH C op ρ K):∃v,K v/\∀K':A->Prop,K' v->bH C op ρ K':=by
  have one:∀{o:Option A} {K:A->Prop},(match o with|some v=>K v|none=>False)->∃v,K v/\o=some v:=by
    intro o K h;cases o with
    | none=>exact h.elim
    | some v=>exact⟨v,h,rfl⟩
  have cut:∀{x:A} {lo hi:Option A} {K:A->Prop},sO x lo hi K->∃v,K v/\∀K':A->Prop,K' v->sO x lo hi K':=by
    intro x lo hi K h;unfold sO at h⊢;cases x<;>simp only at h⊢
    all_goals first
      | exact h.elim
      | (split at h
         · rename_i h1 h2
           exact⟨_,h.2,λK' hk=>⟨h.1,hk⟩⟩
         · exact h.elim)
  cases op<;>simp only[bH]at h⊢
  case move x=>obtain⟨v,h1,h2⟩:=one h;exact⟨v,h1,λK' hk=>by simpa only[h2]using hk⟩
  case assign x=>obtain⟨v,h1,h2⟩:=one h;exact⟨v,h1,λK' hk=>by simpa only[h2]using hk⟩
  case call c =>
    split at h<;>(try exact h.elim)
    · split at h<;>(try exact h.elim)
      split at h<;>(try exact h.elim)
      all_goals (obtain⟨v,h1,h2⟩:=one h;exact⟨v,h1,λK' hk=>by simpa only[h2]using hk⟩)
    · split at h<;>(try exact h.elim)
      all_goals exact⟨_,h,λK' hk=>hk⟩
    · split at h<;>(try exact h.elim)
      split at h<;>(try exact h.elim)
      rename_i e hk0;exact⟨_,h,λK' hk=>hk⟩
    · split at h<;>(try exact h.elim)
      all_goals exact⟨_,h,λK' hk=>hk⟩
    · split at h<;>(try exact h.elim)
      all_goals exact⟨_,h,λK' hk=>hk⟩
    · split at h<;>(try exact h.elim)
      all_goals exact⟨_,h,λK' hk=>hk⟩
  case makeFunc fn first caps =>
    cases fn
    all_goals simp only at h⊢
    · split at h
      · exact⟨_,h,λK' hk=>by simp_all only[]⟩
      · exact h.elim
    all_goals exact h.elim
  all_goals
    repeat' split at h
  all_goals first
    | exact h.elim
    | (obtain⟨v,h1,h2⟩:=one h;exact⟨v,h1,λK' hk=>by simp_all only[rY,eU,reduceIte,reduceCtorEq,cV,eO,fN]⟩)
    | exact⟨_,h,λK' hk=>by simp_all only[rY,eU,reduceIte,reduceCtorEq,cV,eO,fN]⟩
    | exact⟨_,h.2,λK' hk=>⟨h.1,hk⟩⟩
    | exact⟨_,h.2,λK' hk=>by simp_all only[rY,eU,reduceIte,reduceCtorEq,cV,eO,fN]⟩
    | exact⟨_,h.2.2,λK' hk=>⟨h.1,h.2.1,hk⟩⟩
    | exact cut h
    | (obtain⟨v,h1,h2⟩:=cut h.2;exact⟨v,h1,λK' hk=>⟨h.1,h2 K' hk⟩⟩)
    | (obtain ⟨hx,hy⟩ := h
       rw[cO hx.2]at hy⊢;exact⟨_,hy.2,λK' hk=>⟨hx,hy.1,hk⟩⟩)
    | (obtain ⟨hx,hy⟩ := h
       rw[cO hx.2]at hy⊢;exact⟨_,hy,λK' hk=>⟨hx,hk⟩⟩)
theorem pB{K':A->Prop}{op:Op}(h:bH C op ρ K)(z:∀v,K v->K' v):bH C op ρ K':=by
 obtain⟨v,u,y⟩:=aMt h;exact y K' (z v u)
theorem aAT{op:Op}{KV Kp:St->A->Prop}(h:bH C op ρ (KV s)):aT C op ρ KV Kp s:=by
 cases op
 case load t x =>
  have u:=h;simp only[bH]at u;split at u
  .rename_i z;simp only[aT,z];exact h
  .exact u.elim
 case store=>simp only[bH]at h
 case buildSlice t len G =>
  simp only[aT];split
  .exact h
  .exact .inl h
 case alloc=>simp only[bH]at h
 case box=>simp only[bH]at h
 case panic=>simp only[bH]at h
 case range=>simp only[bH]at h
 case makeSlice=>simp only[bH]at h
 case convert a b x =>
  have u:=h;simp only[bH]at u;split at u
  .rename_i z _ _;simp only[aT,z];exact h
  .rename_i z _ _;simp only[aT,z];exact h
  .exact u.elim
 case next x b=>cases b<;>simp only[bH]at h
 case entry=>simp only[bH]at h
 case call c =>
  obtain⟨B,args,H⟩:=c;cases B with
  | value f=>simp only[bH]at h
  | invoke r m=>simp only[bH]at h
  | builtin b=>cases b<;>first|exact h|(simp only[bH]at h)
 case binOp op t x y M =>
  cases op
  case eql =>
   simp only[aT];split
   .exact .inl h
   .exact h
  all_goals exact h
 case makeMap=>simp only[bH]at h
 case lookup=>simp only[bH]at h
 case mapUpdate=>simp only[bH]at h
 all_goals exact h
theorem aAG{o:Ob}{f:Nat->A}{KV u:St->A->Prop}(h:oN C s o f KV)(y:∀s a,KV s a->u s a):oN C s o f u:=by
 unfold oN at *;cases B:C.det<;>rw[B]at h
 ·exactλb z=>y _ _ (h b z)
 .exact y _ _ h
theorem aB5{n:Nat}{e:TypeId}{ys:List A}{KV u:St->A->Prop}(h:newT C s n e ys KV)(y:∀s a,KV s a->u s a):newT C s n e ys u:=by
 unfold newT at *;cases B:C.det<;>rw[B]at h
 ·exactλb z=>y _ _ (h b z)
 .exact y _ _ h
theorem aK7{n:Nat}{e:TypeId}{sz:Nat}{ys:List A}{KV u:St->A->Prop}(h:nO C s n e sz ys KV)(y:∀s a,KV s a->u s a):nO C s n e sz ys u:=by
 unfold nO at *;cases G:C.det<;>rw[G]at h
 .cases H:Nat.beq C.mu 1<;>rw[H]at h
  .exact aB5 h y
  .exact⟨h.1,λb cap J z B a3 a4=>y _ _ (h.2 b cap J z B a3 a4)⟩
 .exact aB5 h y
theorem aRI{det:Bool}{b n cap:Nat}{e:TypeId}{sz m:Nat}{ys:List A}{o:Option Ob}{KV u:St->A->Prop}(h:tX det s b n cap e sz m ys KV o)(H:∀s a,KV s a->u s a) :
  tX det s b n cap e sz m ys u o:=by
 unfold tX at *;split at h
 .exact⟨h.1,λG y J z B a3 a4=>H _ _ (h.2 G y J z B a3 a4)⟩
 .exact h.elim
theorem aSO{n:Nat}{e:TypeId}{KV u:St->A->Prop}(h:zZ C s n e KV)(y:∀s a,KV s a->u s a):zZ C s n e u:=by
 unfold zZ at *;cases B:C.det<;>rw[B]at h
 ·exactλb z=>y _ _ (h b z)
 .exact y _ _ h
theorem aSf{e:TypeId}{bs:List UInt8}{a:A}{KV u:St->A->Prop}(h:zR C s e bs KV a)(y:∀s a,KV s a->u s a):zR C s e bs u a:=by
 cases a<;>simp only[zR]at h⊢
 case nils=>exact⟨h.1,aB5 h.2 y⟩
 case list tk es =>
  cases tk with
  | none=>exact h
  | some t=>exact⟨h.1,y _ _ h.2⟩
theorem aSd{z:TI}{u:TypeId}{n:Int}{a:A}{KV y:St->A->Prop}(h:rN C s z u n KV a)(B:∀s a,KV s a->y s a):rN C s z u n y a:=by
 cases a<;>simp only[rN]at h⊢
 split at h
 .split at h
  .split at h
   .exact⟨h.1,aSO h.2 B⟩
   .exact h.elim
  .exact h.elim
 .exact h.elim
theorem aKJ{G:TI}{t u:TypeId}{a:A}{KV z:St->A->Prop}(h:vQ C s G t u KV a)(B:∀s a,KV s a->z s a):vQ C s G t u z a:=by
 unfold vQ at h⊢;split at h
 .split at h
  .refine⟨h.1,?_⟩;have y:=h.2;split at y
   .exact B _ _ y
   .exact B _ _ y
   .exact B _ _ y
   .exact B _ _ y
   .exact y.elim
  .exact h.elim
 .exact h.elim
theorem aK8{n sz:Nat}{e:TypeId}{ys:List A}{KV u:St->A->Prop}(h:sP C s n e ys sz KV)(y:∀s a,KV s a->u s a):sP C s n e ys sz u:=by
 unfold sP at *;cases B:C.det<;>rw[B]at h
 ·exactλb z=>y _ _ (h b z)
 .exact y _ _ h
theorem aSe{H:TI}{t u:TypeId}{z a:A}{KV B:St->A->Prop}(h:vP C s H t u z KV a)(G:∀s a,KV s a->B s a):vP C s H t u z B a:=by
 unfold vP at h⊢;split at h
 .split at h
  .refine⟨h.1,?_⟩;have y:=h.2;split at y
   .exact aK8 y G
   .split at y
    .exact⟨y.1,aK8 y.2 G⟩
    .exact y.elim
   .exact y.elim
  .exact h.elim
 .exact h.elim
theorem aUn{k n z:Nat}{y:TI}{v:A}{KV u:St->A->Prop}(h:rT C s k n z y v KV)(B:∀s a,KV s a->u s a):rT C s k n z y v u:=by
 unfold rT at h⊢;split at h
 .split at h
  .exact⟨h.1,B _ _ h.2⟩
  .exact h.elim
 .exact h.elim
theorem aSK{t:TypeId}{ok:Bool}{b:Nat}{a:A}{KV u:St->A->Prop}(h:zW C s t ok b a KV)(y:∀s a,KV s a->u s a):zW C s t ok b a u:=by
 unfold zW at h⊢;split at h
 .exact y _ _ h
 .exact h.elim
theorem aSL{t:TypeId}{b:Nat}{a v:A}{KV u:St->A->Prop}(h:aBp C s t b a v KV)(y:∀s a,KV s a->u s a):aBp C s t b a v u:=by
 unfold aBp at h⊢;split at h
 .split at h
  .split at h
   .exact⟨h.1,y _ _ h.2⟩
   .exact h.elim
  .exact h.elim
 .exact h.elim
theorem aDW{op:Op}{KV Kp H M:St->A->Prop}(h:aT C op ρ KV Kp s)(z:∀s a,KV s a->H s a)(h2:∀s a,Kp s a->M s a):aT C op ρ H M s:=by
 cases op
 case load t x =>
  simp only[aT]at h⊢;split at h
  .split at h
   .split at h
    .exact z _ _ h
    .exact h.elim
   .exact h.elim
  .exact pB h (z s)
 case store t x y =>
  simp only[aT]at h⊢;split at h
  .split at h
   .exact⟨h.1,z _ _ h.2⟩
   .exact h.elim
  .exact aUn h z
  .exact h.elim
 case alloc t =>
  simp only[aT]at h⊢;split at h
  .exact aAG h z
  .exact h.elim
 case box t x =>
  simp only[aT]at h⊢;split at h
  .exact⟨h.1,aAG h.2 z⟩
  .exact h.elim
 case panic x =>
  simp only[aT]at h⊢;split at h
  .exact h2 _ _ h
  .exact h.elim
 case buildSlice t len b0 =>
  simp only[aT]at h⊢;split at h
  .exact pB h (z s)
  .rcases h with h|h
   .exact .inl (pB h (z s))
   .refine .inr (pB h λa G=>?_);unfold xV at G⊢;split at G
    .split at G
     .exact aB5 G z
     .exact G.elim
    .exact G.elim
 case convert a b x =>
  simp only[aT]at h⊢;split at h
  .split at h
   .split at h
    .exact⟨h.1,z _ _ h.2⟩
    .exact h.elim
   .exact h.elim
  .exact pB h (z s)
 case makeMap t r =>
  cases r with
  | some r=>simp only[aT,bH]at h
  | none =>
   simp only[aT,aE5]at h⊢;split at h
   .split at h
    .exact aAG h z
    .exact h.elim
   .exact h.elim
 case lookup t x k b =>
  simp only[aT]at h⊢;split at h
  .exact aSK h z
  .exact h.elim
 case mapUpdate t x k y =>
  simp only[aT]at h⊢;split at h
  .exact aSL h z
  .exact h.elim
 case makeSlice t a b =>
  simp only[aT]at h⊢;split at h
  .split at h
   .split at h
    .exact⟨h.1,aAG h.2 z⟩
    .exact h.elim
   .exact h.elim
  .exact h.elim
 case range t x =>
  simp only[aT]at h⊢;split at h
  .split at h
   .exact aAG h z
   .exact h.elim
  .split at h
   .unfold aEA at h⊢;split at h
    ·exactλst c O S Z=>aAG (h st c O S Z) z
    .exact h.elim
   .exact h.elim
  .exact h.elim
 case entry x =>
  simp only[aT]at h⊢;split at h
  .split at h
   .unfold aEZ at h⊢;split at h
    .obtain⟨O,j,k,v,S,Z⟩:=h;exact⟨O,j,k,v,S,z _ _ Z⟩
    .exact h.elim
   .exact h.elim
  .exact h.elim
 case next x b =>
  cases b
  .simp only[aT]at h⊢;split at h
   .split at h
    .unfold aEJ at h⊢;split at h
     .exact⟨h.1,λe=>z _ _ (h.2.1 e),λj k v x O S=>z _ _ (h.2.2 j k v x O S)⟩
     .exact h.elim
    .exact h.elim
   .exact h.elim
  simp only[aT]at h⊢;split at h
  .split at h
   .unfold aCQ at h⊢;split at h
    .rename_i hp;rw[aF hp];exact z _ _ h
    .rename_i hp;rw[aE hp];exact z _ _ h
   .exact h.elim
  .exact h.elim
 case call c =>
  obtain⟨Y,args,B⟩:=c;obtain⟨args⟩:=args;obtain⟨B⟩:=B;cases Y with
  | value f =>
   simp only[aT]at h⊢;split at h
   .exact Den.mono h z h2
   .exact h.elim
  | invoke r m=>refine aAT (pB (K:=KV s) ?_ (z s));exact h
  | builtin b =>
   cases b
   case append =>
    match args,B,h with
    | [x,y],[t,u],h =>
     simp only[aT]at h⊢;split at h
     .split at h
      .split at h
       .obtain⟨T,U,a3⟩:=h;refine⟨T,U,?_⟩;unfold oL at a3⊢;split at a3
        .exact⟨a3.1,aK7 a3.2 z⟩
        .split at a3
         .exact z _ _ a3
         .exact⟨a3.1,aK7 a3.2 z⟩
        .exact aRI a3 z
        .exact⟨a3.1,a3.2.1,a3.2.2.1,z _ _ a3.2.2.2⟩
        .exact⟨a3.1,aB5 a3.2 z⟩
        .exact a3.elim
       .exact h.elim
      .exact h.elim
     .split at h
      .exact aSf h z
      .exact h.elim
     .exact aSd h z
     .exact aKJ h z
     .exact aKJ h z
     .exact aSe h z
     .exact h.elim
    | [],_,h=>simp only[aT]at h
    | [_],_,h=>simp only[aT]at h
    | _::_::_::_,_,h=>simp only[aT]at h
    | [_,_],[],h=>simp only[aT]at h
    | [_,_],[_],h=>simp only[aT]at h
    | [_,_],_::_::_::_,h=>simp only[aT]at h
   case unsafeString =>
    match args,B,h with
    | [x,y],[t,u],h =>
     simp only[aT]at h⊢;split at h
     .exact⟨h.1,z _ _ h.2⟩
     .split at h
      .obtain⟨T,bs,U,a3⟩:=h;exact⟨T,bs,U,z _ _ a3⟩
      .exact h.elim
     .exact h.elim
    | [],_,h=>simp only[aT]at h
    | [_],_,h=>simp only[aT]at h
    | _::_::_::_,_,h=>simp only[aT]at h
    | [_,_],[],h=>simp only[aT]at h
    | [_,_],[_],h=>simp only[aT]at h
    | [_,_],_::_::_::_,h=>simp only[aT]at h
   case delete =>
    match args,B,h with
    | [x,y],[t,u],h =>
     simp only[aT]at h⊢;split at h
     .unfold aEY at h⊢;split at h
      .split at h
       .split at h
        .refine⟨h.1,?_⟩;have h:=h.2;split at h<;>exact z _ _ h
        .exact h.elim
       .exact h.elim
      .exact h.elim
     .exact h.elim
    | [],_,h=>simp only[aT]at h
    | [_],_,h=>simp only[aT]at h
    | _::_::_::_,_,h=>simp only[aT]at h
    | [_,_],[],h=>simp only[aT]at h
    | [_,_],[_],h=>simp only[aT]at h
    | [_,_],_::_::_::_,h=>simp only[aT]at h
   case panic =>
    match args,h with
    | [],h=>simp only[aT]at h
    | [x],h =>
     simp only[aT]at h⊢;split at h
     .exact h2 _ _ h
     .exact h.elim
    | _::_::_,h=>simp only[aT]at h
   all_goals (refine aAT (pB (K:=KV s) ?_ (z s));exact h)
 case binOp op t x y yt =>
  cases op
  case eql =>
   simp only[aT]at h⊢;split at h
   .rcases h with h|⟨hn,ht,hf⟩
    .exact .inl (pB h (z s))
    .exact .inr ⟨hn,z _ _ ht,z _ _ hf⟩
   .exact pB h (z s)
  all_goals (refine aAT (pB (K:=KV s) ?_ (z s));exact h)
 all_goals (refine aAT (pB (K:=KV s) ?_ (z s));exact h)
end
end
section
def aNT:Operand->Bool
 | .tmp t=>t == 38
 | _=>false
def aNR:Bool->List (Nat × Operand)->Bool
 | true,_=>true
 | false,[]=>false
 | false,(_,x)::_=>aNT x
def iI:Op->Bool
 | .store ..=>true
 | .alloc _=>true
 | .box ..=>true
 | .panic _=>true
 | .range ..=>true
 | .makeSlice ..=>true
 | .next ..=>true
 | .makeMap ..=>true
 | .mapUpdate ..=>true
 | .buildSlice _ len h=>aNR (Nat.beq len 2) h.toList
 | .call c=>match c.callee with
  | .builtin .len=>false
  | .builtin .max=>false
  | .builtin .min=>false
  | _=>true
 | _=>false
def kJ(C:Cx)(ds:List (Option Tmp))(o:Oper)(KV Kp:St->A->Prop)(e:Env)(s:St):Prop :=
  match o.guard with
  | none=>aT C o.op (dN C e) KV Kp s
  | some (j,h)=>∃t,kI ds j=some t /\
      ((∃ b,e.get t = some (.bool b) ∧ ((b = h ∧ aT C o.op (dN C e) KV Kp s) ∨ (b ≠ h ∧ KV s (.tuple [])))) ∨
       (∃l,e.get t=some (.tuple l)/\KV s (.tuple [])))
inductive Bef (ops:Array Oper):Nat->Nat->Prop
 | edge {j:Nat} {o:Oper} {e:Edge} (ho:ops[j]?=some o) (he:e∈o.after) (hb:Region.binds .any e=true):Bef ops e.on j
 | step {m j:Nat} {o:Oper} {e:Edge} (ho:ops[j]?=some o) (he:e∈o.after) (hb:Region.binds .any e=true) (h:Bef ops m e.on):Bef ops m j
def DC(ops:Array Oper)(l:Array Bool):Prop :=
 ∀j o,ops[j]?=some o->l.getD j false=true->∀e,e∈o.after->Region.binds .any e=true->l.getD e.on false=true
def Dead(ops:Array Oper)(m:Nat)(l:Array Bool):Prop :=
 ∃j o,ops[j]?=some o/\iI o.op=true/\l.getD j false=true/\Bef ops m j
def chk(ops:Array Oper)(W:List (Nat × (St->Prop)))(l:Array Bool)(s:St):Prop:=∀w,w∈W->¬ Dead ops w.1 l->w.2 s
def rZ(o:Oper)(m:Nat):Bool:=o.after.toList.any λe=>Region.binds .any e&&Nat.beq e.on m
def late(ops:Array Oper)(i:Nat):Bool:=match ops[i]? with
 | some o=>match o.op,o.dst,o.guard with
  | .alloc _,some d,none=>(o.after.toList.all λe=>!Region.binds .any e) &&
    (List.range ops.size).all fun j=>match ops[j]? with
     | some h=>(Nat.beq j i||!(h.dst == some d))&&(Nat.beq j i||!(h.looksAt ops).elem d||rZ h i)&&(!rZ h i||(List.range ops.size).all λm=>Nat.beq m j||rZ h m)
     | none=>true
  | _,_,_=>false
 | none=>false
def pJ(ops:Array Oper)(l:Array Bool):List Nat :=
 if(Region.ready .any ops l).all (late ops) then Region.ready .any ops l else(Region.ready .any ops l).filter λi=>!late ops i
theorem aAz{ops:Array Oper}{l:Array Bool}{i:Nat}(h:i∈pJ ops l):i∈Region.ready .any ops l:=by
 unfold pJ at h;split at h
 .exact h
 .exact(List.mem_filter.1 h).1
theorem aDN{ops:Array Oper}{l:Array Bool}{i:Nat}(h:i∈Region.ready .any ops l)(u:late ops i=false):i∈pJ ops l:=by
 unfold pJ;split
 .exact h
 .exact List.mem_filter.2 ⟨h,by simp[u]⟩
theorem aJ3{ops:Array Oper}{l:Array Bool}{i j:Nat}(h:j∈pJ ops l)(y:i∈Region.ready .any ops l)(hl:late ops i=false):late ops j=false:=by
 unfold pJ at h;split at h
 .rename_i u;rw[cL]at u;have:=u i y;rw[hl]at this;cases this
 .have:=(List.mem_filter.1 h).2;simpa using this
theorem aRN{ops:Array Oper}{i:Nat}{o:Oper}(y:ops[i]?=some o)(h:late ops i=true):iI o.op=true:=by
 unfold late at h;rw[y]at h;simp only at h;split at h
 .rename_i u _ _;rw[u];rfl
 .cases h
def fT(C:Cx)(n:Nat)(ops:Array Oper)(K:Env->St->Prop)(Kp:St->A->Prop)(W:List (Nat × (St->Prop))):Nat->Array Bool->Env->St->Prop
 | 0,l,e,s=>chk ops W l s/\Region.ready .any ops l=[]/\K e s
 | f+1,l,e,s=>chk ops W l s/\(Region.ready .any ops l=[]->K e s)/\∀i,i∈pJ ops l->∀o,ops[i]?=some o ->
   kJ C (ops.toList.map (·.dst)) o (cH n o.dst (fT C n ops K Kp W f (l.setIfInBounds i true)) e) Kp e s
section
variable {C:Cx} {n:Nat} {ops:Array Oper} {K:Env->St->Prop} {Kp:St->A->Prop} {W:List (Nat × (St->Prop))} {s:St}
theorem aM8{f:Nat}{l:Array Bool}{e:Env}(h:fT C n ops K Kp W f l e s):chk ops W l s:=by
 cases f with
 | zero=>exact h.1
 | succ f=>exact h.1
theorem aAB{ds:List (Option Tmp)}{o:Oper}{KV u:St->A->Prop}{e:Env}(h:kJ C ds o KV Kp e s)(y:∀s v,KV s v->u s v):kJ C ds o u Kp e s:=by
 unfold kJ at *;split
 .rename_i z;simp only[z]at h;exact aDW h y λ_ _ h=>h
 .rename_i j G z;simp only[z]at h;obtain⟨t,H,h⟩:=h;refine⟨t,H,?_⟩;rcases h with⟨b,B,h|h⟩|⟨l,hl,h⟩
  .exact .inl ⟨b,B,.inl ⟨h.1,aDW h.2 y λ_ _ h=>h⟩⟩
  .exact .inl ⟨b,B,.inr ⟨h.1,y _ _ h.2⟩⟩
  .exact .inr ⟨l,hl,y _ _ h⟩
theorem aSS{o:Oper}{e e':Env}(h:∀t,t∈o.looksAt ops->e.get t=e'.get t)(x:Operand)(u:x∈o.op.operands):dN C e x=dN C e' x:=by
 cases x with
 | tmp t =>
  have:=h t (gN _ (List.mem_filterMap.2 ⟨.tmp t,gQ u,rfl⟩));simpa [dN]using this
 | _=>rfl
theorem aDx{o:Oper}{KV:St->A->Prop}{e e':Env}(H:∀t,t∈o.looksAt ops->e.get t=e'.get t)
  (h:kJ C (ops.toList.map (·.dst)) o KV Kp e s):kJ C (ops.toList.map (·.dst)) o KV Kp e' s:=by
 have u:=aSS (C:=C) H;unfold kJ at *;split
 .rename_i y;simp only[y]at h;exact aKP u h
 .rename_i j M y;simp only[y]at h;obtain⟨t,z,h⟩:=h
  have B:e.get t=e'.get t:=H t (by
   rw[aG6]at z;simp[Oper.looksAt,y,z])
  refine⟨t,z,?_⟩;rw[<-B];rcases h with⟨b,G,h|h⟩|⟨l,hl,h⟩
  .exact .inl ⟨b,G,.inl ⟨h.1,aKP u h.2⟩⟩
  .exact .inl ⟨b,G,.inr h⟩
  .exact .inr ⟨l,hl,h⟩
theorem zB(z:∀e e' s,(∀t,e.get t=e'.get t)->K e s->K e' s):∀(f:Nat) (l:Array Bool) (e e':Env) (s:St),(∀t,e.get t=e'.get t) ->
  fT C n ops K Kp W f l e s->fT C n ops K Kp W f l e' s
 | 0,l,e,e',s,u,h=>⟨h.1,h.2.1,z _ _ _ u h.2.2⟩
 | f+1,l,e,e',s,u,h=>by
  refine⟨h.1,λM=>z _ _ _ u (h.2.1 M),λi G o H=>?_⟩;refine aAB (aDx (λt _=>u t) (h.2.2 i G o H)) λs' v y=>?_
  unfold cH at *;cases B:o.dst with
  | none=>rw[B]at y;exact zB z f _ e e' s' u y
  | some d =>
   rw[B]at y;refine⟨y.1,zB z f _ _ _ s' (λt=>?_) y.2⟩;rw[lX,lX];split<;>simp[u]
theorem wR{l:Array Bool}{i:Nat}(h:l.getD i true=false):i<l.size/\l.getD i false=false:=by
 rcases aGe i l.size with u|u
 .exact⟨u,by simp[u]at h⊢;exact h⟩
 .simp[Array.getElem?_eq_none u]at h
theorem Bef.listed{l:Array Bool}(u:DC ops l){m j:Nat}(h:Bef ops m j):l.getD j false=true->l.getD m false=true:=by
 induction h with
 | edge G z y=>intro B;exact u _ _ G B _ z y
 | step G z y _ H=>intro B;exact H (u _ _ G B _ z y)
theorem Bef.ready{l:Array Bool}(G:DC ops l){m j:Nat}(h:Bef ops m j)(M:j∈Region.ready .any ops l):l.getD m false=true:=by
 obtain⟨_,O,z,u⟩:=mem_ready.1 M;cases h with
 | edge y H B=>rw[z]at y;cases y;exact u _ H B
 | step y H B h=>rw[z]at y;cases y;exact h.listed G (u _ H B)
theorem DC.set{l:Array Bool}(y:DC ops l){j:Nat}(O:j∈Region.ready .any ops l):DC ops (l.setIfInBounds j true):=by
 intro k o z M e H G;obtain⟨S,T,B,h⟩:=mem_ready.1 O;refine getD_set_true ?_;by_cases u:j=k
 .subst u;rw[B]at z;cases z;exact h e H G
 .rw[getD_set_ne false u]at M;exact y k o z M e H G
theorem aUE{i:Nat}{G:Oper}(hi:ops[i]?=some G)(b5:iI G.op=false)(hK:∀e e' s,(∀t,e.get t=e'.get t)->K e s->K e' s)
  (v:A)(p:St->Prop):∀(f:Nat) (l:Array Bool) (e:Env) (s:St),DC ops l ->
  (∀j oj,ops[j]?=some oj->j≠i->l.getD j true=false->(∀e∈oj.after,Region.binds .any e=true->e.on≠i)->G.apart ops oj=true) ->
  i∈Region.ready .any ops l->(∀s' KV,p s'->KV s' v->kJ C (ops.toList.map (·.dst)) G KV Kp e s')->p s->chk ops W l s ->
  cH n G.dst (fT C n ops K Kp ((i,p)::W) f (l.setIfInBounds i true)) e s v->fT C n ops K Kp W (f+1) l e s:=by
 have bg:late ops i=false:=by
  cases hl:late ops i with
  | false=>rfl
  | true=>have:=aRN hi hl;rw[b5]at this;cases this
 have drop:∀(f:Nat) (l:Array Bool) (e:Env) (s:St),fT C n ops K Kp ((i,p)::W) f l e s->fT C n ops K Kp W f l e s:=by
  intro f
  induction f with
  | zero=>intro l e s h;exact⟨λw hw=>h.1 w (cZ _ hw),h.2⟩
  | succ f ih =>
   intro l e s h;refine⟨λw hw=>h.1 w (cZ _ hw),h.2.1,λj hj o Z=>aAB (h.2.2 j hj o Z) λs' v hv=>?_⟩;unfold cH at *;cases y:o.dst with
   | none=>rw[y]at hv;exact ih _ _ _ hv
   | some d=>rw[y]at hv;exact⟨hv.1,ih _ _ _ hv.2⟩
 have b3:∀(l:Array Bool) (m:Nat),Dead ops m (l.setIfInBounds i true)->Dead ops m l:=by
  rintro l m ⟨j,o,Z,he,hl,hb⟩;refine⟨j,o,Z,he,?_,hb⟩;by_cases bd:i=j
  .subst bd;rw[hi]at Z;cases Z;rw[b5]at he;cases he
  ·rwa[getD_set_ne false bd]at hl
 have self:∀(f:Nat) (l:Array Bool) (e:Env) (s:St),(∀s' KV,p s'->KV s' v->kJ C (ops.toList.map (·.dst)) G KV Kp e s')->p s ->
   cH n G.dst (fT C n ops K Kp ((i,p)::W) f (l.setIfInBounds i true)) e s v ->
   ∀o,ops[i]?=some o->kJ C (ops.toList.map (·.dst)) o (cH n o.dst (fT C n ops K Kp W f (l.setIfInBounds i true)) e) Kp e s:=by
  intro f l e s hy hp H o Z;rw[hi]at Z;cases Z;refine hy s _ hp ?_;unfold cH at *;cases y:G.dst with
  | none=>rw[y]at H;exact drop _ _ _ _ H
  | some d=>rw[y]at H;exact⟨H.1,drop _ _ _ _ H.2⟩
 intro f
 induction f with
 | zero =>
  intro l e s b1 _ hr hy hp hc H;refine⟨hc,λh=>(by rw[h]at hr;cases hr),λj Y o Z=>?_⟩;have hj:=aAz Y;have bb:=aJ3 Y hr bg;by_cases B:j=i
  .subst B;exact self 0 l e s hy hp H o Z
  .have bf:=ready_mono hj B
   have bh:Region.ready .any ops (l.setIfInBounds i true)=[]:=by
    unfold cH at H;cases y:G.dst with
    | none=>rw[y]at H;exact H.2.1
    | some d=>rw[y]at H;exact H.2.2.1
   rw[bh]at bf;cases bf
 | succ f ih =>
  intro l e s b1 T hr hy hp hc H;refine⟨hc,λh=>(by rw[h]at hr;cases hr),λj Y oj b0=>?_⟩;have hj:=aAz Y;have bb:=aJ3 Y hr bg;by_cases B:j=i
  .subst B;exact self _ l e s hy hp H oj b0
  .obtain⟨b7,bt,b8,bc⟩:=mem_ready.1 hj;rw[b0]at b8;cases b8;have b9:=wR (mem_ready.1 hr).1
   have bj:∀e∈oj.after,Region.binds .any e=true->e.on≠i:=λe he hb heq=>by
    have O:=bc e he hb;rw[heq,b9.2]at O;cases O
   have bm:=T j oj b0 B b7 bj;obtain⟨a1,a2,a3⟩:=Oper.apart_spec bm
   have b2:∀k ok,ops[k]?=some ok->k≠i->(l.setIfInBounds j true).getD k true=false ->
     (∀e∈ok.after,Region.binds .any e=true->e.on≠i)->G.apart ops ok=true:=λk ok hk bp bk br=>by
    refine T k ok hk bp ?_ br;by_cases U:j=k
    .subst U;exact b7
    .rw[getD_set_ne true U]at bk;exact bk
   have b6:¬ i=j:=λh=>B h.symm
   have bl:¬ Dead ops i ((l.setIfInBounds j true).setIfInBounds i true):=by
    intro y;obtain⟨k,o,Z,he,hl,hb⟩:=b3 _ _ y;by_cases U:j=k
    .subst U;have:=hb.ready b1 hj;rw[b9.2]at this;cases this
    .rw[getD_set_ne false U]at hl;have:=hb.listed b1 hl;rw[b9.2]at this;cases this
   have S:(l.setIfInBounds i true).setIfInBounds j true=(l.setIfInBounds j true).setIfInBounds i true:=Array.setIfInBounds_comm _ _ b6
   have after:∀(e':Env) (s':St),(∀t,t∈G.looksAt ops->e.get t=e'.get t) ->
     cH n G.dst (fT C n ops K Kp ((i,p)::W) f ((l.setIfInBounds j true).setIfInBounds i true)) e' s' v ->
     fT C n ops K Kp W (f+1) (l.setIfInBounds j true) e' s':=by
    intro e' s' bn H'
    have b4:chk ops ((i,p)::W) ((l.setIfInBounds j true).setIfInBounds i true) s':=by
     unfold cH at H';cases y:G.dst with
     | none=>rw[y]at H';exact aM8 H'
     | some d=>rw[y]at H';exact aM8 H'.2
    refine ih (l.setIfInBounds j true) e' s' (b1.set hj) b2 (ready_mono hr b6) (λs2 KV O h2=>aDx bn (hy s2 KV O h2)) ?_ ?_ H'
    .exact b4 _ (bY ..) bl
    ·exactλw hw hl=>b4 w (cZ _ hw) λy=>hl (b3 _ _ y)
   unfold cH at H;cases y:G.dst with
   | none =>
    rw[y]at H;have O:=H.2.2 j (aDN (ready_mono hj B) bb) oj b0;refine aAB O λs' u M=>?_
    rw[S]at M;unfold cH at *;cases z:oj.dst with
    | none=>rw[z]at M;exact after e s' (λ_ _=>rfl) (by rw[y];exact M)
    | some dj =>
     rw[z]at M;refine⟨M.1,after (e.put dj u) s' (λt ht=>?_) (by rw[y];exact M.2)⟩;rw[lX,aE (λh:dj=t=>a3 dj z (by rw[h];exact ht))]
   | some d =>
    rw[y]at H;have O:=H.2.2.2 j (aDN (ready_mono hj B) bb) oj b0;have h2:=aDx (e':=e) (λt ht=>by rw[lX,aE (λh:d=t=>a1 d y (by rw[h];exact ht))]) O;refine aAB h2 λs' u M=>?_
    rw[S]at M;unfold cH at *;cases z:oj.dst with
    | none=>rw[z]at M;exact after e s' (λ_ _=>rfl) (by rw[y];exact⟨H.1,M⟩)
    | some dj =>
     rw[z]at M
     refine⟨M.1,after (e.put dj u) s' (λt ht=>?_) (by
      rw[y];refine⟨H.1,zB hK _ _ _ _ _ (λt=>?_) M.2⟩;have bq:¬ d=dj:=λh:d=dj=>a2 d y (by rw[h];exact z)
      simp only[lX];by_cases O:dj=t
      .subst O;simp[bq]
      .simp[O])⟩
     rw[lX,aE (λh:dj=t=>a3 dj z (by rw[h];exact ht))]
end
end
section
section
variable {C:Cx} {F:Fr} {g g0:Gh} {s:St} {w:World} {n:Nat} {ops:Array Oper} {K:Env->St->Prop} {Kp:St->A->Prop} {W:List (Nat × (St->Prop))}
theorem aAr{o:Oper}{m:Nat}:rZ o m=true↔∃e,e∈o.after/\Region.binds .any e=true/\e.on=m:=by
 simp only[rZ,iW,aY,Array.mem_toList_iff];constructor
 .rintro⟨e,h,u,y⟩;exact⟨e,h,u,cQ y⟩
 .rintro⟨e,h,u,rfl⟩;exact⟨e,h,u,Nat.beq_refl _⟩
theorem yS{i:Nat}(h:late ops i=true):∃d t ty pos after,ops[i]?=some ⟨some d,.alloc t,ty,pos,after,none⟩/\(∀e,e∈after->Region.binds .any e=false) /\
  ∀j y,ops[j]?=some y->j≠i->y.dst≠some d/\(d∈y.looksAt ops->rZ y i=true)/\(rZ y i=true->∀m,m<ops.size->m≠j->rZ y m=true):=by
 unfold late at h;cases Y:ops[i]? with
 | none=>rw[Y]at h;cases h
 | some o =>
  rw[Y]at h;obtain⟨dst,op,ty,pos,after,gd⟩:=o;simp only at h;split at h
  .rename_i _ _ _ t d;simp only[aY,cL,rW,Array.mem_toList_iff,fV]at h;refine⟨d,t,ty,pos,after,rfl,h.1,λj y U T=>?_⟩;have H:=h.2 j (fU.1 U).1;rw[U]at H;simp only[aY,gB,fV,aBP,mT,cL,rW]at H;obtain⟨⟨z,u⟩,B⟩:=H
   have G:Nat.beq j i=false:=by
    cases G:Nat.beq j i with
    | false=>rfl
    | true=>exact cG (cQ G) T
   refine⟨?_,λhl=>?_,λO m Z S=>?_⟩
   .rcases z with z|z
    .rw[G]at z;cases z
    .exact z
   .rcases u with(u|u)|u
    .rw[G]at u;cases u
    .have:(y.looksAt ops).elem d=true:=List.elem_eq_true_of_mem hl;rw[this]at u;cases u
    .exact u
   .rcases B with B|B
    .rw[O]at B;cases B
    .rcases B m Z with M|M
     .exact cG (cQ M) S
     .exact M
  .cases h
def Pend(C:Cx)(n:Nat)(ops:Array Oper)(F:Fr):List (Nat × Nat)->Fr->Array Value->Prop
 | [],u,_=>u=F
 | (i,k)::P,u,h=>∃y d t ty pos after B z,Pend C n ops F P y h/\ops[i]?=some ⟨some d,.alloc t,ty,pos,after,none⟩/\late ops i=true/\C.tt t=some B /\
   (∀g,Rzs g B.zero (Value.cells z).toList)/\(d<n->h[d]?=some (.pointer (some ⟨k,0,none⟩)))/\y k=none/\u=(λj=>if j=k then some (.cells z.cells t,none) else y j)
theorem Pend.subP:∀{P:List (Nat × Nat)} {y:Fr} {u:Array Value},Pend C n ops F P y u->∀k o p,y k=some (o,some p)->F k=some (o,some p)
 | [],y,u,h,k,o,p,B=>by rw[show y=F from h]at B;exact B
 | (i,q)::P,y,u,h,k,o,p,B=>by
  obtain⟨M,d,t,ty,pos,after,S,z,H,_,_,_,_,_,O,rfl⟩:=h;refine H.subP k o p ?_;by_cases G:k=q
  .simp[G]at B
  .simpa only[G,↓reduceIte]using B
theorem Pend.sub:∀{P:List (Nat × Nat)} {y:Fr} {u:Array Value},Pend C n ops F P y u->∀k o,F k=some o->y k=some o
 | [],y,u,h,k,o,B=>by rw[show y=F from h];exact B
 | (i,q)::P,y,u,h,k,o,B=>by
  obtain⟨O,d,t,ty,pos,after,S,z,H,_,_,_,_,_,M,rfl⟩:=h;have:=H.sub k o B;have G:k≠q:=by rintro rfl;rw[M]at this;cases this
  simp only[G,↓reduceIte];exact this
theorem Pend.put{a:Act}{j:Nat}{o:Oper}{v:Value}(Z:ops[j]?=some o):∀{P:List (Nat × Nat)} {u:Fr},(∀p,p∈P->p.1≠j)->Pend C n ops F P u a.tmps->Pend C n ops F P u (a.put o.dst v).tmps
 | [],u,_,h=>h
 | (i,q)::P,u,Y,h=>by
  obtain⟨F1,d,t,ty,pos,after,ti,z,h1,O,S,h4,h5,T,h7,h8⟩:=h;refine⟨F1,d,t,ty,pos,after,ti,z,h1.put Z (λp hp=>Y p (by simp[hp])),O,S,h4,h5,λU=>?_,h7,h8⟩;obtain⟨d',t',b1,b0,y,M,_,e3⟩:=yS S;rw[O]at M;cases M;have G:=(e3 j o Z (λe=>Y (i,q) aV e.symm)).1;cases B:o.dst with
  | none=>exact T U
  | some H =>
   have:H≠d:=by rintro rfl;exact G B
   show(a.tmps.setIfInBounds H v)[d]?=_;rw[yH this];exact T U
theorem Pend.late:∀{P:List (Nat × Nat)} {B:Fr} {u:Array Value},Pend C n ops F P B u->∀p,p∈P->late ops p.1=true
 | [],_,_,_,p,y=>by cases y
 | (i,k)::P,B,u,h,p,y=>by
  obtain⟨M,d,t,ty,pos,after,S,z,G,O,H,_⟩:=h;cases y with
  | head=>exact H
  | tail _ y=>exact G.late p y
def iK(ops:Array Oper)(P:List (Nat × Nat)):List (Option Tmp):=P.map λp=>(ops[p.1]?).bind (·.dst)
def fY(P:List (Nat × Nat))(l:Array Bool):Array Bool:=P.foldr (λp l=>l.setIfInBounds p.1 true) l
theorem aCh{m:Nat}(d:Bool):∀(P:List (Nat × Nat)) (l:Array Bool),(∀p,p∈P->p.1≠m)->(fY P l).getD m d=l.getD m d
 | [],l,_=>rfl
 | p::P,l,h=>by
  simp only[fY,List.foldr_cons];rw[getD_set_ne d (h p aV)];exact aCh d P l λq u=>h q (by simp[u])
theorem aLk{m:Nat}:∀(P:List (Nat × Nat)) (l:Array Bool),l.getD m false=true->(fY P l).getD m false=true
 | [],l,h=>h
 | p::P,l,h=>by
  simp only[fY,List.foldr_cons];exact getD_set_true (aLk P l h)
theorem aHl{i:Nat}:∀(P:List (Nat × Nat)) (l:Array Bool),(∀p,p∈P->p.1≠i)->(fY P l).setIfInBounds i true=fY P (l.setIfInBounds i true)
 | [],l,_=>rfl
 | p::P,l,h=>by
  have u:=h p aV;simp only[fY,List.foldr_cons];rw[Array.setIfInBounds_comm _ _ u];have:=aHl (i:=i) P l λq y=>h q (by simp[y])
  simp only[fY]at this;rw[this]
def uH(l:Array Bool):Nat:=l.toList.count false
theorem aM7{l:Array Bool}{i:Nat}(h:l.getD i true=false):uH (l.setIfInBounds i true)+1=uH l:=by
 obtain⟨l⟩:=l
 have key:∀(l:List Bool) (i:Nat),l[i]?=some false->(l.set i true).count false+1=l.count false:=by
  intro l
  induction l with
  | nil=>intro i h;simp at h
  | cons x r y =>
   intro i h;cases i with
   | zero=>simp only[iO,bM]at h;subst h;simp
   | succ i =>
    have:=y i (gQ h);simp only[aDj,List.count_cons];omega
 have hl:l[i]?=some false:=by
  cases u:l[i]? with
  | none=>simp[u]at h
  | some b=>simp[u]at h;rw[h]
 simpa [uH]using key l i hl
theorem aUB{l:Array Bool}(h:uH l=0):Region.ready .any ops l=[]:=by
 rw[List.eq_nil_iff_forall_not_mem];intro i u;have:=aM7 (mem_ready.1 u).1;omega
theorem EnvOk.at{g:Gh}{n:Nat}{e:Env}{u:Array Value}{d:Nat}{x:A}{v:Value}(h:EnvOk g n e u)(G:u[d]?=some v)(H:Rz g x v):EnvOk g n (e.put d x) u:=by
 refine⟨h.size,λt y z=>?_⟩;rw[lX]at z;by_cases B:d=t
 .subst B;simp only[↓reduceIte,bM]at z;subst z;exact⟨v,G,H⟩
 .simp only[B,↓reduceIte]at z;exact h.val t y z
theorem R.adopt{Y:Fr}{k b:Nat}{o:Obj}{ob:Ob}(h:R C.toCtx (λj=>if j=k then some (o,none) else Y j) g s w)(hF:Y k=none)(ho:ObRz g ob (some o))(hb:g.beta b=none){s':St}
  (hO:∀q,s'.getO q=if b=q then some ob else s.getO q)(hT:∀q,s'.getT q=s.getT q)(hL:s'.ls=s.ls)(hl:C.det=true->s.lim<=s'.lim/\b<s'.lim) :
  R C.toCtx Y (g.bx b k) s' w:=by
 have y:=aAJ hb k;have hk:=h.frm k (o,none) aV
 have B:∀c q,g.beta c=some q->q≠k:=by
  rintro c q u rfl;have:=h.bfr c q u;simp at this
 have z:=h.unframe (F0:=Y) λq x M=>by
  have:q≠k:=by rintro rfl;rw[hF]at M;cases M
  simp only[this,↓reduceIte];exact M
 have z:=z λq x p M=>by
  by_cases T:q=k
  .simp[T]at M
  .simpa only[T,↓reduceIte]using M
 refine⟨λc x H=>?_,?_,?_,z.pis,z.frm,λc cs u=>?_,?_,?_,?_,λG c u=>?_,λx H=>(h.lst x (by rw[<-hL];exact H)).mono y,λc q u=>?_,h.env⟩
 .rw[hO]at H;by_cases S:b=c
  .subst S;simp only[↓reduceIte,bM]at H;subst H;exact⟨k,by simp[Gh.bx],by rw[hk.1];exact ho.mono y,hk.2,hF⟩
  .simp only[S,↓reduceIte]at H;obtain⟨q,Z,h2,h3⟩:=z.obj c x H;exact⟨q,y.beta _ _ Z,h2.mono y,h3⟩
 .intro t n e O;rw[hT]at O;exact z.tok t n e O
 .intro t t' n n' v v' c B O U;rw[hT]at O U;exact z.sep t t' n n' v v' c B O U
 .obtain⟨pre,ty,fr,hp,hl,Z,hr⟩:=z.glb c cs u;exact⟨pre,ty,fr,hp,hl,Z,λj c v u hv=>(hr j c v u hv).mono y⟩
 .obtain⟨N,hN⟩:=h.fsh;refine⟨max N (b+1),λt O=>⟨by rw[hT];exact(hN t aB).1,(hN t aB).2.1,?_⟩⟩;have:t≠b:=by omega
  simp[Gh.bx,this,(hN t aB).2.2]
 .intro c q u;simp only[Gh.bx]at u;split at u
  .cases u;exact(fU.1 hk.1).1
  .exact h.bet c q u
 .intro c d q u G;simp only[Gh.bx]at u G;split at u<;>split at G
  .omega
  .cases u;exact cG rfl (B d k G)
  .cases G;exact cG rfl (B c k u)
  .exact h.inj c d q u G
 .obtain⟨l1,l2⟩:=hl G;obtain⟨d1,d2⟩:=h.dtm G c aB;have:c≠b:=by omega
  exact⟨by simp[Gh.bx,this,d1],d2⟩
 .simp only[Gh.bx]at u;split at u
  .cases u;exact hF
  .exact z.bfr c q u
theorem R.lay(h:R C.toCtx F g s w)(o:Obj):R C.toCtx (λj=>if j=w.heap.size then some (o,none) else F j) g s (w.alloc o):=by
 have S:∀k,k<w.heap.size->(w.alloc o).heap[k]?=w.heap[k]?:=λk S=>wE w o S
 have u:=h.keep S;refine⟨λc x Y=>?_,λt n e U=>?_,u.sep,u.pis,λq x y=>?_,λc cs H=>?_,u.fsh,u.bet,u.inj,u.dtm,u.lst,λc q H=>?_,u.env⟩;rotate_left 3
 .obtain⟨pre,ty,fr,T,z⟩:=h.glb c cs H;have:c≠w.heap.size:=Nat.ne_of_lt (h.lt_frm T);exact⟨pre,ty,fr,by simp only[this,↓reduceIte];exact T,z⟩
 rotate_left 1
 .obtain⟨q,z,M,O,B⟩:=u.obj c x Y;have:q≠w.heap.size:=Nat.ne_of_lt (h.bet c q z);exact⟨q,z,M,O,by simp only[this,↓reduceIte];exact B⟩
 .obtain⟨v,xs,z,M,O,B⟩:=u.tok t n e U;refine⟨v,xs,z,M,O,λq y=>?_⟩;have:q≠w.heap.size:=Nat.ne_of_lt (h.lt_pi (B q y).1);exact⟨(B q y).1,by simp only[this,↓reduceIte];exact(B q y).2⟩
 .by_cases G:q=w.heap.size
  .subst G;simp only[↓reduceIte,bM]at y;subst y;exact⟨yK w o,h.pi_new⟩
  .simp only[G,↓reduceIte]at y;exact u.frm q x y
 .have:q≠w.heap.size:=Nat.ne_of_lt (h.bet c q H);simp only[this,↓reduceIte];exact h.bfr c q H
theorem aRU{k:Nat}{B:Fr}{o:Obj}{ob:Ob}{f:Nat->A}{KV:St->A->Prop}(h:R C.toCtx (λj=>if j=k then some (o,none) else B j) g s w)(hF:B k=none)(H:ObRz g ob (some o))
  (y:oN C s ob f KV):∃b s',g.beta b=none/\R C.toCtx B (g.bx b k) s' w/\KV s' (f b):=by
 unfold oN at y;cases z:C.det with
 | false =>
  rw[z]at y;obtain⟨b,u⟩:=h.some_free;exact⟨b,s.setO b ob,u,h.adopt hF H u (λq=>aX s b ob q) (λq=>rfl) rfl (λG=>by rw[z]at G;cases G),y b (h.free u)⟩
 | true =>
  rw[z]at y;have u:=(h.dtm z s.lim (bF _)).1;exact⟨s.lim,s.newO ob,u,h.adopt hF H u (λq=>aAm s ob q) (λq=>rfl) rfl (λ_=>⟨Nat.le_succ _,dZ _⟩),y⟩
theorem aH8{a:Act}(f:Nat)(hn:a.tmps.size=n):∀(P:List (Nat × Nat)) (y:Array Bool) (F':Fr) (g:Gh) (e:Env) (s:St),(∀p,p∈P->y.getD p.1 true=false)->(P.map (·.1)).Nodup ->
  (∀m,m∈Region.ready .any ops y->late ops m=true)->Pend C n ops F P F' a.tmps->R C.toCtx F' g s w->EnvOk g n (e.rem (iK ops P)) a.tmps ->
  fT C n ops K Kp W (f+P.length) y e s->∃g' e' s',g.le g'/\R C.toCtx F g' s' w/\EnvOk g' n e' a.tmps/\fT C n ops K Kp W f (fY P y) e' s'
 | [],y,F',g,e,s,_,_,_,hP,hR,O,h=>by
  rw[show F'=F from hP]at hR;refine⟨g,e,s,dQ g,hR,O.sub λt x S=>?_,h⟩;rw[pA];simpa [iK]using S
 | (i,k)::P,y,F',g,e,s,b5,b1,T,hP,hR,O,h=>by
  obtain⟨F1,d,t,ty,pos,after,ti,z,h1,h2,h3,h4,h5,h6,h7,rfl⟩:=hP;obtain⟨d',t',bz,bv,bg,q1,q2,q3⟩:=yS h3;rw[h2]at q1;cases q1;have bb:=b5 (i,k) aV;have hr:i∈Region.ready .any ops y:=mem_ready.2 ⟨bb,_,h2,λe O B=>by rw[q2 e O]at B;cases B⟩
  have hz:i∈pJ ops y:=by
   unfold pJ;rw[aF (by rw[cL];exact T)];exact hr
  have hs:=h.2.2 i hz _ h2;simp only[kJ,aT,h4,zY]at hs;obtain⟨b,s',B,Y,M⟩:=aRU hR h7 (ob:=.cells t ti.zero) ⟨z.cells.toList,[],by simp,h5 g,(C.htt t ti h4).one⟩ hs;obtain⟨bj,M⟩:=M;have b0:=aAJ B k;simp only[cC,List.nodup_cons]at b1;have b2:∀p,p∈P->p.1≠i:=λp hp e=>b1.1 (cW.2 ⟨p,hp,e⟩)
  have U:fY ((i,k)::P) y=fY P (y.setIfInBounds i true):=by
   rw[<-aHl P y b2];rfl
  have H:EnvOk (g.bx b k) n ((e.put d (.ptr b 0)).rem (iK ops P)) a.tmps:=by
   have h8:=(O.mono b0).at (h6 bj) (x:=.ptr b 0) (.ptr b 0 k (by simp[Gh.bx]));refine h8.sub λu x S=>?_
   rw[pA]at S;split at S
   .cases S
   .rename_i hu;rw[lX]at S⊢;by_cases Z:d=u
    .simpa only[Z,↓reduceIte]using S
    .simp only[Z,↓reduceIte]at S⊢;rw[pA,aE]
     .exact S
     .rw[List.elem_iff]at hu⊢;simp only[iK,cC,h2,rC,cR,bM,not_or]at hu⊢;exact⟨λe=>Z e.symm,hu⟩
  by_cases b6:P=[]
  .subst b6;rw[show F1=F from h1]at Y
   have bp:((e.put d (.ptr b 0)).rem (iK ops []))=e.put d (.ptr b 0):=by
    have:∀e:Env,e.rem []=e:=by
     intro e
     induction e with
     | nil=>rfl
     | cons x e ih=>simp only[Env.rem,List.elem_nil,cV,↓reduceIte,ih]
    exact this _
   rw[bp]at H;exact⟨_,_,s',b0,Y,H,by rw[U];exact M⟩
  .have bf:∀m,m∈Region.ready .any ops (y.setIfInBounds i true)->late ops m=true:=by
    intro m hm;by_cases bc:m∈Region.ready .any ops y
    .exact T m bc
    .exfalso;obtain⟨m0,om,b3,G⟩:=mem_ready.1 hm
     have bd:m≠i:=by
      rintro rfl;have bn:=(wR bb).1;simp[bn]at m0
     have b8:rZ om i=true:=by
      cases b7:rZ om i with
      | true=>rfl
      | false =>
       exfalso;refine bc (mem_ready.2 ⟨by rw[getD_set_ne true (λe=>bd e.symm)]at m0;exact m0,om,b3,λed b9 B=>?_⟩)
       have bk:i≠ed.on:=by
        intro bm;rw[aAr.2 ⟨ed,b9,B,bm.symm⟩]at b7;cases b7
       have:=G ed b9 B
       rwa[getD_set_ne false bk]at this
     obtain⟨⟨p,kp⟩,b4⟩:=List.exists_mem_of_ne_nil P b6;have br:p≠i:=b2 (p,kp) b4;have bq:=b5 (p,kp) (by simp[b4]);obtain⟨d2,t2,ty2,bw,bh,z1,z2,_⟩:=yS (h1.late (p,kp) b4)
     have bt:p≠m:=by
      rintro rfl;rw[b3]at z1;cases z1;obtain⟨e,O,B,_⟩:=aAr.1 b8;rw[z2 e O]at B;cases B
     obtain⟨e,O,B,bl⟩:=aAr.1 ((q3 m om b3 bd).2.2 b8 p (fU.1 z1).1 bt);have:=G e O B;rw[bl,getD_set_ne false (λe=>br e.symm),(wR bq).2]at this;cases this
   obtain⟨g',e',s2,r1,r2,r3,r4⟩:=aH8 f hn P (y.setIfInBounds i true) F1 (g.bx b k) (e.put d (.ptr b 0)) s'
    (λp hp=>by rw[getD_set_ne true (λe=>b2 p hp e.symm)];exact b5 p (by simp[hp])) b1.2 bf h1 Y H M
   exact⟨g',e',s2,b0.trans r1,r2,r3,by rw[U];exact r4⟩
def Rle(C:Cx)(s s':St):Prop:=∀(F:Fr) (g:Gh) (w:World),R C.toCtx F g s w->R C.toCtx F g s' w
theorem Rle.refl(s:St):Rle C s s:=λ_ _ _ h=>h
theorem aSX{P:List (Nat × Nat)}{H:Fr}{u:Array Value}(h:Pend C n ops F P H u){d:Nat}(M:(iK ops P).elem (some d)=true):∃p,p∈P/\∃t ty pos after,ops[p.1]?=some ⟨some d,.alloc t,ty,pos,after,none⟩:=by
 have B:=List.mem_of_elem_eq_true M;simp only[iK,cW]at B;obtain⟨p,G,y⟩:=B;obtain⟨O,t,ty,pos,after,z,_⟩:=yS (h.late p G);rw[z]at y;simp only[rC,bM]at y;subst y;exact⟨p,G,t,ty,pos,after,z⟩
theorem aVU{e0:Env}(c3:∀o,o∈ops.toList->∀d,o.dst=some d->e0.get d=none){D:List Deferred}{Q:XK->Env->St->Prop}(hK:∀e s,K e s->∃e' s',e.ge e'/\Rle C s s'/\Q .normal e' s')
  (c0:∀s v,Kp s v->Q (.panic v) e0 s)(htt:∀i t o,ops[i]?=some o->late ops i=true->o.op=.alloc t->(C.tt t).isSome=true) :
  ∀(f:Nat) (P:List (Nat × Nat)) (y:Array Bool) (S:Fr) (g:Gh) (e:Env) (s:St) (a:Act) (w:World),uH (fY P y)<=f->(∀p,p∈P->y.getD p.1 true=false)->(P.map (·.1)).Nodup ->
   Pend C n ops F P S a.tmps->g0.le g->R C.toCtx S g s w->EnvOk g n (e.rem (iK ops P)) a.tmps->EnvOk g n e0 a.tmps->a.defers=D ->
   fT C n ops K Kp W (f+P.length) y e s->wpAny C.P .any ops (Post C F g0 n D Q) f (fY P y) a w:=by
 have fin:∀(g:Gh) (e:Env) (s:St) (a:Act) (w:World),g0.le g->R C.toCtx F g s w->EnvOk g n e a.tmps->a.defers=D->K e s->Post C F g0 n D Q .normal a w :=
  λg e s a w hg hR G hD h=>by
   obtain⟨e',s',h1,h2,h3⟩:=hK _ _ h;exact⟨g,e',s',.normal,hg,h2 _ _ _ hR,G.sub h1,hD,trivial,h3⟩
 have bc:∀(f:Nat) (P:List (Nat × Nat)) (y:Array Bool) (S:Fr) (g:Gh) (e:Env) (s:St) (a:Act) (w:World),(∀p,p∈P->y.getD p.1 true=false)->(P.map (·.1)).Nodup ->
   Pend C n ops F P S a.tmps->g0.le g->R C.toCtx S g s w->EnvOk g n (e.rem (iK ops P)) a.tmps->a.defers=D ->
   fT C n ops K Kp W (f+P.length) y e s->Region.ready .any ops (fY P y)=[]->Post C F g0 n D Q .normal a w:=by
  intro f P y S g e s a w M T hP hg hR G hD h hr
  obtain⟨g',e',s',r1,r2,r3,r4⟩:=aH8 f G.size P y S g e s M T (λm hm=>by
   by_cases b4:∃p,p∈P/\p.1=m
   .obtain⟨p,B,rfl⟩:=b4;exact hP.late p B
   .exfalso;obtain⟨m0,om,b5,Y⟩:=mem_ready.1 hm;have:m∈Region.ready .any ops (fY P y):=mem_ready.2 ⟨by rw[aCh true P y (λp B e=>b4 ⟨p,B,e⟩)];exact m0,om,b5,λe G hb=>aLk P y (Y e G hb)⟩;rw[hr]at this;cases this) hP hR G h
  have hk:K e' s':=by
   cases f with
   | zero=>exact r4.2.2
   | succ f=>exact r4.2.1 hr
  exact fin g' e' s' a w (hg.trans r1) r2 r3 hD hk
 intro f
 induction f with
 | zero =>
  intro P y S g e s a w hu M T hP hg hR G b0 hD h;have hr:Region.ready .any ops (fY P y)=[]:=aUB aB;exact⟨hr,bc 0 P y S g e s a w M T hP hg hR G hD h hr⟩
 | succ f ih =>
  intro P y S g e s a w hu M T hP hg hR G b0 hD h;refine⟨λhr=>bc (f+1) P y S g e s a w M T hP hg hR G hD h hr,λi hi=>?_⟩;obtain⟨b8,o,ho,Y⟩:=mem_ready.1 hi
  have O:∀p,p∈P->p.1≠i:=by
   rintro p B rfl;have c6:=(wR (M p B)).1
   have:(fY P y).getD p.1 false=true:=by
    have:∀{P:List (Nat × Nat)},p∈P->(fY P y).getD p.1 false=true:=by
     intro P
     induction P with
     | nil=>intro h;cases h
     | cons q P cg =>
      intro h
      have cd:∀P:List (Nat × Nat),(fY P y).size=y.size:=by
       intro P
       induction P with
       | nil=>rfl
       | cons x P ih=>simp only[fY,List.foldr_cons,Array.size_setIfInBounds]at *;exact ih
      simp only[fY,List.foldr_cons];cases h with
      | head =>
       have:=cd P;simp only[fY]at this;simp[this,c6]
      | tail _ h=>exact getD_set_true (cg h)
    exact this B
   rw[(wR b8).2]at this;cases this
  have bb:y.getD i true=false:=by rw[aCh true P y O]at b8;exact b8
  have b1:uH ((fY P y).setIfInBounds i true)<=f:=by have:=aM7 b8;omega
  have bf:∀d,o.dst=some d->e0.get d=none:=c3 o (by obtain⟨h1,h2⟩:=fU.1 ho;rw[<-h2];simp)
  by_cases Z:late ops i=true
  ·
   obtain⟨d,t,ty,pos,after,q1,q2,q3⟩:=yS Z;rw[ho]at q1;cases q1;obtain⟨ti,br⟩:=Option.isSome_iff_exists.1 (htt i t _ ho Z rfl);obtain⟨z,hz,cf⟩:=aCz br w;unfold wpOp;rw[ho];simp only;rw[aF (by simp[Region.wanted])];left
   have bp:(execOp a.eval ⟨some d,.alloc t,ty,pos,after,none⟩).run C.P w=.ok (.value (.pointer (some ⟨w.heap.size,0,none⟩))) (w.alloc (.cells z.cells t)):=by
    simp only[execOp,Instr.alloc,bG,hz,bJ,newVar,newRow,run_newObj,bV];rfl
   unfold Oper.wp;rw[bp,Oper.upon_value];have bq:(fY P y).setIfInBounds i true=fY ((i,w.heap.size)::P) y:=rfl;rw[bq]at b1⊢
   have cj:∀p,p∈P->∀d' t' bj b6 U,ops[p.1]?=some ⟨some d',.alloc t',bj,b6,U,none⟩->d'≠d:=by
    intro p B d' t' bj b6 U c7 e;have:=(q3 p.1 _ c7 (O p B)).1;exact this (by rw[e])
   refine ih ((i,w.heap.size)::P) y (λj=>if j=w.heap.size then some (.cells z.cells t,none) else S j) g e s _ _ b1 (λp B=>?_) ?_ ?_ hg (hR.lay _) ?_ (b0.other bf) (by rw[aDD];exact hD) ?_
   .cases B with
    | head=>exact bb
    | tail _ B=>exact M p B
   .simp only[cC,List.nodup_cons];refine⟨λhm=>?_,T⟩;obtain⟨p,B,c8⟩:=cW.1 hm;exact O p B c8
   .refine⟨S,d,t,ty,pos,after,ti,z,hP.put ho (λp B=>O p B),ho,Z,br,cf,λhd=>?_,hR.frm_new,rfl⟩;show(a.tmps.setIfInBounds d _)[d]?=_;simp[G.size,hd]
   .have:=G.del (d:=d) (v:=.pointer (some ⟨w.heap.size,0,none⟩));refine this.sub λu x hx=>?_
    rw[pA]at hx;split at hx
    .cases hx
    .rename_i bt
     have bv:¬ u=d/\¬ (iK ops P).elem (some u)=true:=by
      rw[List.elem_iff]at bt⊢;simpa only[iK,cC,ho,rC,cR,bM,not_or]using bt
     have c4:¬ d=u:=λe=>bv.1 e.symm
     rw[Env.get_del,aE c4,pA,aE bv.2];exact hx
   .have:f+((i,w.heap.size)::P).length=f+1+P.length:=by simp only[bB];omega
    rw[this];exact h
  .have b2:late ops i=false:=gQ Z
   have step:∀(P:List (Nat × Nat)) (y:Array Bool) (S:Fr) (g:Gh) (e:Env) (s:St),uH ((fY P y).setIfInBounds i true)<=f->(∀p,p∈P->y.getD p.1 true=false)->(∀p,p∈P->p.1≠i)->(P.map (·.1)).Nodup ->
     Pend C n ops F P S a.tmps->g0.le g->R C.toCtx S g s w->EnvOk g n (e.rem (iK ops P)) a.tmps->EnvOk g n e0 a.tmps->(∀d,(iK ops P).elem (some d)=true->d ∉ o.looksAt ops) ->
     kJ C (ops.toList.map (·.dst)) o (cH n o.dst (fT C n ops K Kp W (f+P.length) (y.setIfInBounds i true)) e) Kp e s ->
     wpOp C.P ops (Post C F g0 n D Q) i (wpAny C.P .any ops (Post C F g0 n D Q) f ((fY P y).setIfInBounds i true)) a w:=by
    intro P y S g e s b1 M O T hP hg hR G b0 bh hs;rw[aHl P y O]at b1⊢;have bw:∀p,p∈P->(y.setIfInBounds i true).getD p.1 true=false:=λp B=>by rw[getD_set_ne true (λe=>O p B e.symm)];exact M p B
    have cb:=aDx (ops:=ops) (e':=e.rem (iK ops P)) (λt ht=>by
     rw[pA,aE];intro hh;exact bh t hh ht) hs
    have next:∀g' v w' e1 s',g.le g'->R C.toCtx S g' s' w'->EnvOk g' n e1 (a.put o.dst v).tmps->EnvOk g' n e0 (a.put o.dst v).tmps->(a.put o.dst v).defers=D ->
      (∃e2,fT C n ops K Kp W (f+P.length) (y.setIfInBounds i true) e2 s'/\∀t x,(e2.rem (iK ops P)).get t=some x->e1.get t=some x) ->
      wpAny C.P .any ops (Post C F g0 n D Q) f (fY P (y.setIfInBounds i true)) (a.put o.dst v) w':=by
     rintro g' v w' e1 s' h1 h2 h3 h4 h5 ⟨e2,h6,h7⟩;exact ih P (y.setIfInBounds i true) S g' e2 s' _ w' b1 bw T (hP.put ho O) (hg.trans h1) h2 (h3.sub h7) h4 h5 h6
    have conv:∀s' v,cH n o.dst (fT C n ops K Kp W (f+P.length) (y.setIfInBounds i true)) e s' v ->
      cH n o.dst (λe1 s'=>∃e2,fT C n ops K Kp W (f+P.length) (y.setIfInBounds i true) e2 s'/\∀t x,(e2.rem (iK ops P)).get t=some x->e1.get t=some x) (e.rem (iK ops P)) s' v:=by
     intro s' v hv;unfold cH at hv⊢;cases hd:o.dst with
     | none=>rw[hd]at hv;exact⟨e,hv,λt x hx=>hx⟩
     | some d =>
      rw[hd]at hv;refine⟨hv.1,_,hv.2,λt x hx=>?_⟩;rw[pA]at hx;split at hx
      .cases hx
      .rename_i ht;rw[lX]at hx⊢;by_cases bm:d=t
       .simpa only[bm,↓reduceIte]using hx
       .simp only[bm,↓reduceIte]at hx⊢;rw[pA,aE ht];exact hx
    have H:=aAB cb conv;have hF:=λk o=>hP.sub k o
    unfold wpOp;rw[ho];simp only;obtain⟨dst,op,ty,pos,after,gd⟩:=o
    have run:aT C op (dN C (e.rem (iK ops P))) (cH n dst (λe1 s'=>∃e2,fT C n ops K Kp W (f+P.length) (y.setIfInBounds i true) e2 s'/\∀t x,(e2.rem (iK ops P)).get t=some x->e1.get t=some x) (e.rem (iK ops P))) Kp s ->
      (⟨dst,op,ty,pos,after,gd⟩:Oper).wp C.P a w (wpAny C.P .any ops (Post C F g0 n D Q) f (fY P (y.setIfInBounds i true))) (Post C F g0 n D Q):=by
     intro c5;have:=aNh (ev:=a.eval) (ty:=ty) (dst:=dst) (pos:=pos) (after:=after) (gd:=gd) hR (G.oper hR) c5;exact aJA hF (λk o p=>hP.subP k o p) (o:=⟨dst,op,ty,pos,after,gd⟩) hg G b0 bf hD next c0 this
    have skip:cH n dst (λe1 s'=>∃e2,fT C n ops K Kp W (f+P.length) (y.setIfInBounds i true) e2 s'/\∀t x,(e2.rem (iK ops P)).get t=some x->e1.get t=some x) (e.rem (iK ops P)) s (.tuple []) ->
      wpAny C.P .any ops (Post C F g0 n D Q) f (fY P (y.setIfInBounds i true)) (a.put dst undef) w:=by
     intro hs;unfold cH at hs;cases b9:dst with
     | none=>subst b9;exact next g undef w _ s (dQ g) hR G b0 hD hs
     | some d=>subst b9;exact next g undef w _ s (dQ g) hR (G.put hs.1 (.tuple [] [] rfl aV)) (b0.other λd' c1=>by cases c1;exact bf d rfl) (by rw[aDD];exact hD) hs.2
    unfold kJ at H;cases gd with
    | none =>
     rw[aF (by simp[Region.wanted])];exact .inl (run H)
    | some jw =>
     obtain⟨j,b7⟩:=jw;obtain⟨t,ht,H⟩:=H;rcases H with⟨b,hb,H⟩|⟨ls,hl,H⟩
     .have hy:=aKH (b:=b) ht G hb
      have hw:Region.wanted (⟨dst,op,ty,pos,after,some (j,b7)⟩:Oper) (yielded ops a.tmps)=(b == b7):=by
       simp only[Region.wanted,hy];cases b<;>cases b7<;>rfl
      rcases H with⟨bd,H⟩|⟨bd,H⟩
      .rw[aF (by rw[hw];simpa using bd)];exact .inl (run H)
      .rw[aE (by rw[hw];simpa using bd)];exact skip H
     .have hy:=aJB ht G hl;rw[aE (by simp[Region.wanted,hy])];exact skip H
   by_cases b3:∃p,p∈P/\rZ o p.1=true
   ·
    obtain⟨p,B,bl⟩:=b3;obtain⟨dp,tp,ck,ch,bz,p1,p2,p3⟩:=yS (hP.late p B);have bk:=(p3 i o ho (λe=>O p B e.symm)).2.2 bl
    obtain⟨g',e',s',r1,r2,r3,r4⟩:=aH8 (f+1) G.size P y S g e s M T (λm hm=>by
     by_cases b4:∃p,p∈P/\p.1=m
     .obtain⟨p,B,rfl⟩:=b4;exact hP.late p B
     .exfalso;obtain⟨m0,om,b5,c2⟩:=mem_ready.1 hm;by_cases bn:m=i
      .subst bn;rw[ho]at b5;cases b5;obtain⟨e,G,hb,bg⟩:=aAr.1 bl;have:=c2 e G hb;rw[bg,(wR (M p B)).2]at this;cases this
      .obtain⟨e,G,hb,bg⟩:=aAr.1 (bk m (fU.1 b5).1 bn);have:=Y e G hb;rw[bg,aCh false P y (λp B e=>b4 ⟨p,B,e⟩),(wR m0).2]at this;cases this) hP hR G h
    refine step [] (fY P y) F g' e' s' b1 (λp B=>by cases B) (λp B=>by cases B) aV rfl (hg.trans r1) r2 (r3.sub λt x hx=>?_) (b0.mono r1) (λd hd=>by simp[iK]at hd) ?_
    .rw[pA]at hx;simpa [iK]using hx
    .exact r4.2.2 i (aDN hi b2) o ho
   .have c9:i∈Region.ready .any ops y:=mem_ready.2 ⟨bb,o,ho,λe G hb=>by
     have:=Y e G hb;rw[aCh false P y (λp B e'=>b3 ⟨p,B,aAr.2 ⟨e,G,hb,e'.symm⟩⟩)]at this;exact this⟩
    refine step P y S g e s b1 M O T hP hg hR G b0 (λd hd hl=>?_) ?_
    .obtain⟨p,B,t,ty,pos,after,h1⟩:=aSX hP hd;obtain⟨d',t',bj,b6,U,p1,p2,p3⟩:=yS (hP.late p B);rw[h1]at p1;cases p1;exact b3 ⟨p,B,(p3 i o ho (λe=>O p B e.symm)).2.1 hl⟩
    .have e1:f+1+P.length=f+P.length+1:=by omega
     rw[e1]at h;exact h.2.2 i (aDN c9 b2) o ho
theorem aNE{u:Env}(z:∀o,o∈ops.toList->∀d,o.dst=some d->u.get d=none){D:List Deferred}{Q:XK->Env->St->Prop}(M:∀e s,K e s->∃e' s',e.ge e'/\Rle C s s'/\Q .normal e' s')
  (y:∀s v,Kp s v->Q (.panic v) u s)(htt:∀i t o,ops[i]?=some o->late ops i=true->o.op=.alloc t->(C.tt t).isSome=true)
  (f:Nat)(l:Array Bool)(g:Gh)(e:Env)(s:St)(a:Act)(w:World)(Y:uH l<=f)(T:g0.le g)(O:R C.toCtx F g s w)(S:EnvOk g n e a.tmps)(B:EnvOk g n u a.tmps)(H:a.defers=D)
  (h:fT C n ops K Kp W f l e s):wpAny C.P .any ops (Post C F g0 n D Q) f l a w :=
 aVU z M y htt f [] l F g e s a w Y (λp U=>by cases U) aV rfl T O (S.sub λt x G=>by rw[pA]at G;simpa [iK]using G) B H h
inductive OT where
 | nil
 | node (i:Nat) (r:OT)
 | alt (a b:OT)
 | pair (i j:Nat)
def OT.l:List Nat->OT->OT
 | [],t=>t
 | i::r,t=>.node i (OT.l r t)
def jQ:List Oper->Nat->Option Oper
 | [],_=>none
 | o::_,0=>some o
 | _::r,i+1=>jQ r i
def sL(C:Cx)(t:TypeId)(b o:Nat)(s:St):Option A:=match s.getO b with
 | some (.cells _ cs)=>rL C t cs o
 | _=>none
def aEx(C:Cx)(t:TypeId)(b o:Nat)(v:A)(s:St):Prop:=sL C t b o s=some v
def tkL(C:Cx)(t:TypeId)(b o:Nat)(h:A->Option (St->Prop)->Prop):Option A->Prop
 | some v=>h v (some (aEx C t b o v))
 | none=>False
def uG(h:A->Option (St->Prop)->Prop)(v:A):Prop:=h v none
def tkX(C:Cx)(t:TypeId)(op:Op)(ρ:Operand->Option A)(s:St)(h:A->Option (St->Prop)->Prop):Option A->Prop
 | some (.ptr b o)=>tkL C t b o h (sL C t b o s)
 | _=>bH C op ρ (uG h)
def aNs(C:Cx)(t:TypeId)(ok:Bool)(b:Nat)(a v:A)(s:St):Prop:=zM C s t ok b a=some v
def lkL(C:Cx)(t:TypeId)(ok:Bool)(b:Nat)(a:A)(h:A->Option (St->Prop)->Prop):Option A->Prop
 | some v=>h v (some (aNs C t ok b a v))
 | none=>False
def lkX(C:Cx)(t:TypeId)(ok:Bool)(s:St)(h:A->Option (St->Prop)->Prop):Option A->Option A->Prop
 | some (.mp b),some a=>lkL C t ok b a h (zM C s t ok b a)
 | _,_=>False
def qZ(C:Cx)(op:Op)(ρ:Operand->Option A)(s:St)(h:A->Option (St->Prop)->Prop):Prop :=
 match op with
 | .load t x=>tkX C t (.load t x) ρ s h (ρ x)
 | .lookup t x k ok=>lkX C t ok s h (ρ x) (ρ k)
 | op=>bH C op ρ (uG h)
def oH:List (Nat × List Nat)->Nat->List Nat
 | [],_=>[]
 | (j,l)::r,i=>if j=i then l else oH r i
def vZ(h:List Nat)(s:St):List (Nat × (St->Prop))->Prop
 | []=>True
 | (m,p)::W=>(if h.elem m=true then p s else True)/\vZ h s W
def aCZ(n:Nat)(dst:Option Tmp)(h:List Nat)(next:List (Nat × (St->Prop))->Env->St->Prop)(W:List (Nat × (St->Prop)))(e:Env)(s:St)(v:A):Prop :=
 vZ h s W/\cH n dst (next W) e s v
def wB(n:Nat)(dst:Option Tmp)(i:Nat)(next:List (Nat × (St->Prop))->Env->St->Prop)(W:List (Nat × (St->Prop)))(e:Env)(s:St)(v:A):Option (St->Prop)->Prop
 | none=>cH n dst (next W) e s v
 | some p=>cH n dst (next ((i,p)::W)) e s v
def nA(C:Cx)(n:Nat)(E:List (Nat × List Nat))(i:Nat)(dst:Option Tmp)(op:Op)(next:List (Nat × (St->Prop))->Env->St->Prop)(W:List (Nat × (St->Prop)))
  (Kp:St->A->Prop)(e:Env)(s:St):Bool->Prop
 | true=>aT C op (dN C e) (aCZ n dst (oH E i) next W e) Kp s
 | false=>qZ C op (dN C e) s (wB n dst i next W e s)
def pZ(C:Cx)(n:Nat)(E:List (Nat × List Nat))(i:Nat)(dst:Option Tmp)(op:Op)(next:List (Nat × (St->Prop))->Env->St->Prop)(W:List (Nat × (St->Prop)))
  (Kp:St->A->Prop)(e:Env)(s:St)(t:Nat)(h:Bool):Option A->Prop
 | some (.bool true)=>match h with
  | true=>nA C n E i dst op next W Kp (e.put t (.bool true)) s (iI op)
  | false=>cH n dst (next W) (e.put t (.bool true)) s (.tuple [])
 | some (.bool false)=>match h with
  | false=>nA C n E i dst op next W Kp (e.put t (.bool false)) s (iI op)
  | true=>cH n dst (next W) (e.put t (.bool false)) s (.tuple [])
 | some (.tuple _)=>cH n dst (next W) e s (.tuple [])
 | _=>False
def gdY(C:Cx)(n:Nat)(E:List (Nat × List Nat))(i:Nat)(dst:Option Tmp)(op:Op)(next:List (Nat × (St->Prop))->Env->St->Prop)(W:List (Nat × (St->Prop)))
  (Kp:St->A->Prop)(e:Env)(s:St)(h:Bool):Option Tmp->Prop
 | none=>False
 | some t=>pZ C n E i dst op next W Kp e s t h (e.get t)
def kZ(C:Cx)(n:Nat)(ds:List (Option Tmp))(E:List (Nat × List Nat))(i:Nat)(next:List (Nat × (St->Prop))->Env->St->Prop)(W:List (Nat × (St->Prop)))
  (Kp:St->A->Prop)(e:Env)(s:St):Option Oper->Prop
 | none=>False
 | some ⟨dst,op,_,_,_,none⟩=>nA C n E i dst op next W Kp e s (iI op)
 | some ⟨dst,op,_,_,_,some (j,h)⟩=>gdY C n E i dst op next W Kp e s h (kI ds j)
def aEM:Option A->Option A->Option A->Prop
 | some a,some b,some c=>match a with
  | .rm k m z=>match b with
   | .ptr _ _=>match c with
    | .pen h es u=>k=h/\m=es.length/\z=u
    | _=>False
   | _=>False
  | _=>False
 | _,_,_=>False
def zH(C:Cx)(e:Env):Option Oper->Option Oper->Prop
 | some ⟨none,.store _ x _,_,_,_,none⟩,some ⟨none,.store _ h u,_,_,_,none⟩=>aEM (dN C e x) (dN C e h) (dN C e u)
 | _,_=>False
def gA(C:Cx)(n:Nat)(ds:List (Option Tmp))(ops:List Oper)(E:List (Nat × List Nat))(K:Env->St->Prop)(Kp:St->A->Prop):OT->List (Nat × (St->Prop))->Env->St->Prop
 | .nil,W,e,s=>K e s
 | .node i r,W,e,s=>kZ C n ds E i (gA C n ds ops E K Kp r) W Kp e s (jQ ops i)
 | .alt a b,W,e,s=>gA C n ds ops E K Kp a W e s/\gA C n ds ops E K Kp b W e s
 | .pair i j,W,e,s=>zH C e (jQ ops i) (jQ ops j)/\kZ C n ds E i (λW e s=>kZ C n ds E j (λ_=>K) W Kp e s (jQ ops j)) W Kp e s (jQ ops i)
theorem aHE:∀(l:List Oper) (i:Nat),jQ l i=l[i]?
 | [],i=>by simp[jQ]
 | o::r,0=>rfl
 | o::r,i+1=>by simp[jQ,aHE r i]
def tS:Op->Bool
 | .load ..=>true
 | .lookup ..=>true
 | _=>false
def msk(h:List Nat):List Edge->Nat->Nat
 | [],m=>m
 | e::r,m=>msk h r (if Region.binds .any e then m ||| (1 <<< e.on) ||| (h[e.on]?.getD 0) else m)
def prs:List Oper->List Nat->List Nat
 | [],h=>h
 | o::r,h=>prs r (h++[msk h o.after.toList 0])
def okE(ops:Array Oper)(E:List (Nat × List Nat)):Bool :=
 let T:=prs ops.toList []
 (List.range ops.size).all fun i=>match ops[i]? with
  | some o=>!iI o.op||(List.range ops.size).all λm=>match ops[m]? with
   | some h=>!tS h.op||(oH E i).elem m||(T[i]?.getD 0).testBit m
   | none=>true
  | none=>true
def mE:OT->List (Nat × OT)
 | .nil=>[]
 | .node i r=>[(i,r)]
 | .alt a b=>mE a++mE b
 | .pair _ _=>[]
def xG(ops:Array Oper)(i:Nat):Bool:=match ops[i]? with
 | some o=>iI o.op
 | none=>false
def aHu(ops:Array Oper)(l:Array Bool):Bool :=
 let T:=prs ops.toList []
 (List.range ops.size).all fun m=>match ops[m]? with
  | some o=>!tS o.op||(List.range ops.size).any λj=>xG ops j&&l.getD j false&&(T[j]?.getD 0).testBit m
  | none=>true
def vE(tt:TypeId->Option TI)(ops:Array Oper):Bool :=
 (List.range ops.size).all fun i=>!late ops i||(match ops[i]? with
  | some o=>match o.op with
   | .alloc t=>(tt t).isSome
   | _=>true
  | none=>true)
def oV(ops:Array Oper):Nat->Array Bool->OT->Bool
 | _,l,.nil=>(Region.ready .any ops l).isEmpty
 | 0,l,_=>false
 | f+1,l,.node i r=>if xG ops i then(Region.ready .any ops l).contains i&&(pJ ops l).all (· == i)&&oV ops f (l.setIfInBounds i true) r
   else(Region.ready .any ops l).contains i&&Region.free .any ops l i&&oV ops f (l.setIfInBounds i true) r
 | f+1,l,.alt a b=>!(Region.ready .any ops l).isEmpty&&(pJ ops l).all (λj=>(mE (.alt a b)).any λx=>x.1 == j) &&
   (mE (.alt a b)).all λx=>xG ops x.1&&oV ops f (l.setIfInBounds x.1 true) x.2
 | f+1,l,.pair i j=>(Region.ready .any ops l).contains i&&(Region.ready .any ops l).contains j&&(pJ ops l).all (λm=>m == i||m == j)&&!(i == j) &&
   (pJ ops (l.setIfInBounds i true)).all (· == j)&&(pJ ops (l.setIfInBounds j true)).all (· == i)&&(Region.ready .any ops ((l.setIfInBounds i true).setIfInBounds j true)).isEmpty&&aHu ops l&&Nat.ble 1 f
theorem aNu{T:List Nat}{j:Nat}{o:Oper}(B:ops[j]?=some o)(H:∀k m,(T[k]?.getD 0).testBit m=true->Bef ops m k) :
  ∀(es:List Edge) (m:Nat),(∀e,e∈es->e∈o.after)->(∀k,m.testBit k=true->Bef ops k j)->∀k,(msk T es m).testBit k=true->Bef ops k j
 | [],m,_,y,k,u=>y k u
 | e::r,m,z,y,k,u=>by
  refine aNu B H r _ (λe' h=>z e' (cZ _ h)) (λk u=>?_) k u;split at u
  .rename_i M;simp only[Nat.testBit_or,gB]at u;rcases u with(u|u)|u
   .exact y k u
   .rw[Nat.testBit_shiftLeft]at u;simp only[aY,bR]at u;obtain⟨S,G⟩:=u
    have:k-e.on=0:=by
     rcases Nat.eq_zero_or_pos (k-e.on)with h|h
     .exact h
     .have O:k-e.on≠0:=by omega
      rw[Nat.testBit_one_eq_true_iff_self_eq_zero]at G;exact G
    have u:k=e.on:=by omega
    subst u;exact .edge B (z e aV) M
   .exact .step B (z e aV) M (H _ _ u)
  .exact y k u
theorem aHZ:∀(l:List Oper) (u:List Nat),(∀k,l[k]?=ops[u.length+k]?)->(∀k m,(u[k]?.getD 0).testBit m=true->Bef ops m k) ->
  ∀k m,((prs l u)[k]?.getD 0).testBit m=true->Bef ops m k
 | [],u,_,h=>h
 | o::r,u,hl,h=>by
  have G:ops[u.length]?=some o:=by have:=hl 0;simpa using this.symm
  refine aHZ r _ (λk=>?_) (λk m y=>?_)
  .have:=hl (k+1);simp only[List.getElem?_cons_succ]at this;rw[this,aG,rB];congr 1;omega
  .by_cases B:k<u.length
   .rw[jT B]at y;exact h k m y
   .by_cases z:k=u.length
    .subst z;simp only[rU (bF _),Nat.sub_self,iO,oX]at y;exact aNu G h o.after.toList 0 (λe z=>gQ z) (λk y=>by simp at y) m y
    .rw[yI (by simp;omega)]at y;simp at y
theorem aWl{E:List (Nat × List Nat)}(h:okE ops E=true){i m:Nat}{o G:Oper}(z:ops[i]?=some o)(B:ops[m]?=some G)(H:iI o.op=true)(hl:tS G.op=true) :
  (oH E i).elem m=true\/Bef ops m i:=by
 simp only[okE,cL,rW]at h;have y:=h i (fU.1 z).1;simp only[z,H,eO,gJ,cL,rW]at y;have u:=y m (fU.1 B).1;simp only[B,hl,eO,gJ,gB]at u;rcases u with u|u
 .exact .inl u
 .exact .inr (aHZ ops.toList [] (λk=>by simp) (λk m M=>by simp at M) i m u)
theorem aMP{e e':Env}(h:∀t,e.get t=e'.get t):dN C e=dN C e':=by
 funext x;cases x<;>first|(simp only[dN,h])|rfl
variable {E:List (Nat × List Nat)} {i:Nat} {next:List (Nat × (St->Prop))->Env->St->Prop}
theorem aJm{e:Env}{t:Nat}{a:A}(h:e.get t=some a):∀u,e.get u=(e.put t a).get u:=λu=>by
 rw[lX];by_cases y:t=u
 .subst y;simp[h]
 .simp[y]
theorem aVK{o:Oper}{KV:St->A->Prop}{e:Env}(O:iI o.op=true)(h:kZ C n (ops.toList.map (·.dst)) E i next W Kp e s (some o))
  (T:∀e' s' v,(∀t,e.get t=e'.get t)->vZ (oH E i) s' W->cH n o.dst (next W) e' s' v->KV s' v)
  (B:∀e',(∀t,e.get t=e'.get t)->cH n o.dst (next W) e' s (.tuple [])->KV s (.tuple [])):kJ C (ops.toList.map (·.dst)) o KV Kp e s:=by
 obtain⟨dst,op,ty,pos,after,gd⟩:=o
 have run:∀e',(∀t,e.get t=e'.get t)->nA C n E i dst op next W Kp e' s (iI op)->aT C op (dN C e) KV Kp s:=by
  intro e' u M;simp only at O;rw[O]at M;simp only[nA]at M;rw[aMP u];exact aDW M (λs' v S=>T e' s' v u S.1 S.2) λ_ _ h=>h
 unfold kJ;cases gd with
 | none=>exact run e (λ_=>rfl) h
 | some U =>
  obtain⟨j,y⟩:=U;simp only[kZ]at h;cases H:kI (ops.toList.map (·.dst)) j with
  | none=>rw[H]at h;exact h.elim
  | some t =>
   rw[H]at h;simp only[gdY]at h;refine⟨t,H,?_⟩;cases G:e.get t with
   | none=>rw[G]at h;exact h.elim
   | some a =>
    rw[G]at h;have z:=aJm G;cases a<;>simp only[pZ]at h
    case bool b =>
     cases b<;>cases y<;>simp only at h
     .exact .inl ⟨false,rfl,.inl ⟨rfl,run _ z h⟩⟩
     .exact .inl ⟨false,rfl,.inr ⟨by simp,B _ z h⟩⟩
     .exact .inl ⟨true,rfl,.inr ⟨by simp,B _ z h⟩⟩
     .exact .inl ⟨true,rfl,.inl ⟨rfl,run _ z h⟩⟩
    case tuple l=>exact .inr ⟨l,rfl,B _ (λ_=>rfl) h⟩
theorem aM4{op:Op}{ρ:Operand->Option A}{M:A->Option (St->Prop)->Prop}(h:qZ C op ρ s M) :
  ∃v B,M v B/\(∀p,B=some p->tS op=true/\p s)/\∀s' (KV:St->A->Prop),(∀p,B=some p->p s')->KV s' v->aT C op ρ KV Kp s':=by
 have u:bH C op ρ (uG M)->∃v B,M v B/\(∀p,B=some p->tS op=true/\p s)/\∀s' (KV:St->A->Prop),(∀p,B=some p->p s')->KV s' v->aT C op ρ KV Kp s':=by
  intro h;obtain⟨v,S,T⟩:=aMt h;exact⟨v,none,S,(λp z=>by cases z),λs' KV _ G=>aAT (T (KV s') G)⟩
 cases op
 case load t x =>
  simp only[qZ]at h;cases H:ρ x with
  | none=>rw[H]at h;exact u h
  | some a =>
   rw[H]at h;cases a
   case ptr b o =>
    simp only[tkX]at h;cases hl:sL C t b o s with
    | none=>rw[hl]at h;exact h.elim
    | some v =>
     rw[hl]at h;refine⟨v,_,h,λp z=>by cases z;exact⟨rfl,hl⟩,λs' KV z G=>?_⟩;have y:sL C t b o s'=some v:=z _ rfl;unfold sL at y;simp only[aT,H];split at y
     .rename_i cs hcs;simp only[hcs,y];exact G
     .cases y
   all_goals exact u h
 case lookup t x k ok =>
  simp only[qZ]at h;unfold lkX at h;split at h
  .rename_i b a H G;unfold lkL at h;split at h
   .rename_i v hl;refine⟨v,_,h,λp z=>by cases z;exact⟨rfl,hl⟩,λs' KV z O=>?_⟩;have y:zM C s' t ok b a=some v:=z _ rfl;simp only[aT,H,G,zW,y];exact O
   .exact h.elim
  .exact h.elim
 all_goals exact u h
theorem aUu{o:Oper}{e:Env}(he:iI o.op=false)(h:kZ C n (ops.toList.map (·.dst)) E i next W Kp e s (some o)) :
  ∃v y e',(∀t,e.get t=e'.get t)/\(∀p,y=some p->tS o.op=true/\p s) /\
   (∀s' (KV:St->A->Prop),(∀p,y=some p->p s')->KV s' v->kJ C (ops.toList.map (·.dst)) o KV Kp e s')/\wB n o.dst i next W e' s v y:=by
 obtain⟨dst,op,ty,pos,after,gd⟩:=o;simp only at he;unfold kJ;cases gd with
 | none =>
  simp only[kZ,he,nA]at h;obtain⟨v,y,S,T,U⟩:=aM4 (Kp:=Kp) h;exact⟨v,y,e,λ_=>rfl,T,U,S⟩
 | some jw =>
  obtain⟨j,u⟩:=jw;simp only[kZ]at h;cases H:kI (ops.toList.map (·.dst)) j with
  | none=>rw[H]at h;exact h.elim
  | some t =>
   rw[H]at h;simp only[gdY]at h;cases z:e.get t with
   | none=>rw[z]at h;exact h.elim
   | some a =>
    rw[z]at h;have M:=aJm z
    have run:∀b,a=.bool b->b=u->nA C n E i dst op next W Kp (e.put t a) s (iI op)->∃v y e',(∀t,e.get t=e'.get t)/\(∀p,y=some p->tS op=true/\p s) /\
      (∀ s' (KV : St → A → Prop),(∀ p,y = some p → p s') → KV s' v → ∃ t',kI (ops.toList.map (·.dst)) j = some t' ∧
       ((∃b,e.get t'=some (.bool b)/\((b=u/\aT C op (dN C e) KV Kp s')\/(b≠u/\KV s' (.tuple []))))\/(∃l,e.get t'=some (.tuple l)/\KV s' (.tuple [])))) /\
      wB n dst i next W e' s v y:=by
     intro b Y Z O;rw[he]at O;simp only[nA]at O;rw[<-aMP M]at O;obtain⟨v,y,S,T,U⟩:=aM4 (Kp:=Kp) O;exact⟨v,y,e.put t a,M,T,λs' KV G B=>⟨t,H,.inl ⟨b,by rw[z,Y],.inl ⟨Z,U s' KV G B⟩⟩⟩,S⟩
    cases a<;>simp only[pZ]at h
    case bool b =>
     cases b<;>cases u<;>simp only at h
     .exact run false rfl rfl h
     .exact⟨.tuple [],none,_,M,(λp G=>by cases G),λs' KV _ B=>⟨t,H,.inl ⟨false,z,.inr ⟨by simp,B⟩⟩⟩,h⟩
     .exact⟨.tuple [],none,_,M,(λp G=>by cases G),λs' KV _ B=>⟨t,H,.inl ⟨true,z,.inr ⟨by simp,B⟩⟩⟩,h⟩
     .exact run true rfl rfl h
    case tuple l=>exact⟨.tuple [],none,e,λ_=>rfl,(λp G=>by cases G),λs' KV _ B=>⟨t,H,.inr ⟨l,z,B⟩⟩,h⟩
end
end
end Go.AV
