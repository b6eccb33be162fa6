/-
  Of DefBack.
-/
import Derived.Test.YtamikhobdffnfaaGreatDoorBa01
import Derived.Lib.AppendStr
import Derived.Lib.UnsafeStr
import Derived.Deep.LoopGhost
set_option linter.all false
set_option maxRecDepth 99999
set_option maxHeartbeats 0
namespace Go.AV
open Go Go.Proofs Tryz
section
def Gh.tok(g:Gh)(t n:Nat)(v:Value)(b:Nat)(xs:List Value):Gh :=
 ⟨λk=>if k=b then some xs else g.pi k,λh m=>if h=t/\m=n then some v else g.eta h m,g.beta,g.env⟩
def tJ(C:Cx)(s s':St)(t:Nat):Prop:=s'.ls=s.ls/\(C.det=true->s.lim<=s'.lim/\t<s'.lim)
section
variable {C:Cx} {F:Fr} {g:Gh} {s:St} {w:World} {ρ:Operand->Option A} {ev:Operand->Value}
theorem R.tokStep(h:R C.toCtx F g s w){w':World}{t n b:Nat}{e:TypeId}{v:Value}{xs:List Value}
  (hk:∀k,k<w.heap.size->k≠b->w'.heap[k]?=w.heap[k]?)(b2:w'.ownsRow 0 e (C.toCtx.sz e) v n xs)(hb:v.ownBlock=some b)
  (b7:∀m x,g.eta t m=some x->m<n)
  {s':St}(hO:∀q,s'.getO q=s.getO q)(hT:∀q,s'.getT q=if t=q then some (n,e) else s.getT q)(hl:tJ C s s' t)
  (S:(b=w.heap.size/\(s.getT t=none\/∃n0,s.getT t=some n0))\/∃n0 v0 b0 M,s.getT t=some (n0,e)/\g.eta t n0=some v0/\v0.ownBlock=some b/\g.pi b=some b0/\xs=b0++M)(he:(w'.os,w'.output)=(w.os,w.output):=by rfl) :
  R C.toCtx F (g.tok t n v b xs) s' w'/\g.le (g.tok t n v b xs):=by
 have hF:F b=none:=by
  rcases S with⟨rfl,_⟩|⟨n0,v0,b0,M,z,h2,h3,h4,_⟩
  .exact h.frm_new
  .obtain⟨v,xs,e1,_,_,h5⟩:=h.tok t n0 e z;rw[h2]at e1;cases e1;exact(h5 b h3).2
 have bf:∀c k,g.beta c=some k->g.pi k=none->k≠b:=by
  rintro c k hc H rfl;rcases S with⟨rfl,_⟩|⟨n0,v0,b0,M,z,h2,h3,h4,_⟩
  .exact h.bet_new c hc
  .rw[H]at h4;cases h4
 have b4:∀O n' v' k,O≠t->s.getT O=some n'->g.eta O n'.1=some v'->v'.ownBlock=some k->k≠b:=by
  rintro O n' v' k y B bc H rfl;rcases S with⟨rfl,_⟩|⟨n0,v0,b0,M,z,h2,h3,h4,_⟩
  .obtain⟨v2,bh,e1,_,_,h5⟩:=h.tok O n'.1 n'.2 B;rw[bc]at e1;cases e1;exact cM (h.lt_pi (h5 _ H).1) (Nat.lt_irrefl _)
  .exact h.sep O t n' (n0,e) v' v0 k y B z bc h2 H h3
 have b5:g.le (g.tok t n v b xs):=by
  refine⟨λk pre Z=>?_,λO m x hx=>?_,λ_ _ h=>h,rfl⟩
  .by_cases u:k=b
   .subst u;rcases S with⟨rfl,_⟩|⟨n0,v0,b0,M,z,h2,h3,h4,h5⟩
    .rw[h.pi_new]at Z;cases Z
    .rw[h4]at Z;cases Z;exact⟨M,by simp[Gh.tok,h5]⟩
   .exact⟨[],by simp[Gh.tok,u,Z]⟩
  .have:¬ (O=t/\m=n):=by
    rintro⟨rfl,rfl⟩;exact cM (b7 _ _ hx) (Nat.lt_irrefl _)
   simp only[Gh.tok,this,↓reduceIte];exact hx
 refine⟨⟨?_,?_,?_,?_,?_,?_,?_,?_,h.inj,?_,λx hx=>(h.lst x (by rw[<-hl.1];exact hx)).mono b5,h.bfr,he.trans h.env⟩,b5⟩
 .intro c o ho;rw[hO]at ho;obtain⟨k,h0,z,h2,h3⟩:=h.obj c o ho;have y:=bf c k h0 h2;exact⟨k,h0,by rw[hk k (h.bet c k h0) y];exact z.mono b5,by simp[Gh.tok,y,h2],h3⟩
 .intro O n' e' B;rw[hT]at B;by_cases htt:t=O
  .subst htt;simp only[↓reduceIte,bQ,mQ]at B;obtain⟨rfl,rfl⟩:=B;refine⟨v,xs,by simp[Gh.tok],b2,λm x hx=>?_,λk H=>?_⟩
   .by_cases hm:m=n
    .omega
    .simp only[Gh.tok,hm,and_false,↓reduceIte]at hx;have:=b7 _ _ hx;omega
   .rw[hb]at H;cases H;exact⟨by simp[Gh.tok],hF⟩
  .simp only[htt,↓reduceIte]at B;obtain⟨v',bd,z,h2,h3,h4⟩:=h.tok O n' e' B;have y:∀m,¬ (O=t/\m=n):=λm=>by rintro⟨rfl,_⟩;exact htt rfl
   refine⟨v',bd,?_,⟨h2.1,?_⟩,?_,?_⟩
   .simp only[Gh.tok];rw[aB (y n')];exact z
   .rcases h2.2 with hv|⟨k,cap,b6,hv,bg,hh,rest⟩
    .exact .inl hv
    .refine .inr ⟨k,cap,b6,hv,bg,?_,rest⟩;have u:=b4 O (n',e') v' k (λe=>htt e.symm) B z (by rw[hv];rfl);rw[hk k (jU.1 hh).1 u];exact hh
   .intro m x hx;simp only[Gh.tok]at hx;rw[aB (y m)]at hx;exact h3 m x hx
   .intro k H;have u:=b4 O (n',e') v' k (λe=>htt e.symm) B z H;simp only[Gh.tok,u,↓reduceIte];exact h4 k H
 .intro t1 t2 n1 n2 v1 v2 k y z h2 e1 e2 o1 o2;rw[hT]at z h2;simp only[Gh.tok]at e1 e2;by_cases bb:t=t1
  .subst bb;have b3:¬ t=t2:=y;have U:¬ t2=t:=λe=>y e.symm
   simp only[↓reduceIte,bQ]at z;subst z;simp only[kS,↓reduceIte,bQ]at e1;subst e1;simp only[b3,↓reduceIte]at h2;simp only[U,rP,↓reduceIte]at e2;rw[hb]at o1;cases o1;exact b4 t2 n2 v2 b U h2 e2 o2 rfl
  .have b8:¬ t1=t:=λe=>bb e.symm
   simp only[bb,↓reduceIte]at z;simp only[b8,rP,↓reduceIte]at e1;by_cases b3:t=t2
   .subst b3;simp only[↓reduceIte,bQ]at h2;subst h2;simp only[kS,↓reduceIte,bQ]at e2;subst e2;rw[hb]at o2;cases o2;exact b4 t1 n1 v1 b b8 z e1 o1 rfl
   .have U:¬ t2=t:=λe=>b3 e.symm
    simp only[b3,↓reduceIte]at h2;simp only[U,rP,↓reduceIte]at e2;exact h.sep t1 t2 n1 n2 v1 v2 k y z h2 e1 e2 o1 o2
 .intro k pre Z;by_cases u:k=b
  .subst u;simp only[Gh.tok,↓reduceIte,bQ]at Z;subst Z;rcases b2.2 with⟨rfl,_⟩|⟨k',cap,b6,hv,_,hh,_,_,_,b9⟩
   .cases hb
   .rw[hv]at hb;simp only[Value.ownBlock,bQ]at hb;subst hb;refine⟨b6.toList.drop (n * C.toCtx.sz e),e,(0,0),?_⟩;rw[hh,<-b9];simp
  .simp only[Gh.tok,u,↓reduceIte]at Z;rw[hk k (h.lt_pi Z) u];exact h.pis k pre Z
 .intro k o ho;have u:k≠b:=by rintro rfl;rw[hF]at ho;cases ho
  rw[hk k (h.lt_frm ho) u];refine⟨(h.frm k o ho).1,?_⟩;simp only[Gh.tok,u,↓reduceIte];exact(h.frm k o ho).2
 .intro k cs hc;obtain⟨pre,ty,fr,Z,hl,z,hr⟩:=h.glb k cs hc;exact⟨pre,ty,fr,Z,hl,z,λj c v hc hv=>(hr j c v hc hv).mono b5⟩
 .obtain⟨N,hN⟩:=h.fsh;refine⟨max N (t+1),λO B=>⟨?_,λm=>?_,(hN O aC).2.2⟩⟩
  .rw[hT];have:¬ t=O:=by omega
   simp only[this,↓reduceIte];exact(hN O aC).1
  .have:¬ (O=t/\m=n):=by omega
   simp only[Gh.tok,this,↓reduceIte];exact(hN O aC).2.1 m
 .intro c k hc;have z:=h.bet c k hc;by_cases u:k=b
  .subst u;rcases b2.2 with⟨rfl,_⟩|⟨k',cap,b6,hv,_,hh,_⟩
   .cases hb
   .rw[hv]at hb;simp only[Value.ownBlock,bQ]at hb;subst hb;exact(jU.1 hh).1
  .have h2:=hk k z u;rw[aBM z]at h2;exact(jU.1 h2).1
 .intro hd c hc;obtain⟨l1,l2⟩:=hl.2 hd;obtain⟨d1,d2⟩:=h.dtm hd c aC;refine⟨d1,λm=>?_⟩;have:¬ (c=t/\m=n):=by omega
  simp only[Gh.tok,this,↓reduceIte];exact d2 m
theorem R.tokNil(h:R C.toCtx F g s w)(e:TypeId){N:Nat}(n2:∀m,g.eta N m=none){s':St}(hO:∀q,s'.getO q=s.getO q)
  (hT:∀q,s'.getT q=if N=q then some (0,e) else s.getT q)(hl:tJ C s s' N) :
  ∃g',g.le g'/\g'.eta N 0=some (.slice none 0 0)/\R C.toCtx F g' s' w:=by
 have H:g.le { g with eta:=λy m=>if y=N/\m=0 then some (.slice none 0 0) else g.eta y m } :=
  ⟨fun k pre hp => ⟨[],gQ hp⟩,fun t m x z => by
   have:¬ (t=N/\m=0):=by rintro⟨rfl,rfl⟩;rw[n2]at z;cases z
   simp only[this,↓reduceIte];exact z,λ_ _ h=>h,rfl⟩
 refine⟨_,H,by simp,⟨?_,?_,?_,h.pis,h.frm,?_,?_,h.bet,h.inj,?_,λx z=>(h.lst x (by rw[<-hl.1];exact z)).mono H,h.bfr,h.env⟩⟩
 .intro b o ho;rw[hO]at ho;obtain⟨k,h0,B,h2⟩:=h.obj b o ho;exact⟨k,h0,B.mono H,h2⟩
 .intro y n' e' u;rw[hT]at u;by_cases htt:N=y
  .subst htt;simp only[↓reduceIte,bQ,mQ]at u;obtain⟨rfl,rfl⟩:=u;refine⟨.slice none 0 0,[],by simp,World.ownsRow_nil w 0 e _,λm x z=>?_,λk hk=>by cases hk⟩;by_cases hm:m=0
   .omega
   .simp only[hm,and_false,↓reduceIte]at z;rw[n2]at z;cases z
  .simp only[htt,↓reduceIte]at u;obtain⟨v,xs,B,h2,h3,h4⟩:=h.tok y n' e' u;have b0:∀m,¬ (y=N/\m=0):=λm=>by rintro⟨rfl,_⟩;exact htt rfl
   have O:¬ y=N:=λe=>htt e.symm
   refine⟨v,xs,?_,h2,λm x z=>?_,h4⟩
   .simp only[O,rP,↓reduceIte];exact B
   .simp only[O,rP,↓reduceIte]at z;exact h3 m x z
 .intro t1 t2 b4 b3 v1 v2 k b0 B h2 e1 e2 o1 o2;rw[hT]at B h2;by_cases U:N=t1
  .subst U;simp only[↓reduceIte,bQ]at B;subst B;simp only[kS,↓reduceIte,bQ]at e1;subst e1;cases o1
  .have b2:¬ t1=N:=λe=>U e.symm
   simp only[U,↓reduceIte]at B;simp only[b2,rP,↓reduceIte]at e1;by_cases S:N=t2
   .subst S;simp only[↓reduceIte,bQ]at h2;subst h2;simp only[kS,↓reduceIte,bQ]at e2;subst e2;cases o2
   .have Z:¬ t2=N:=λe=>S e.symm
    simp only[S,↓reduceIte]at h2;simp only[Z,rP,↓reduceIte]at e2;exact h.sep t1 t2 b4 b3 v1 v2 k b0 B h2 e1 e2 o1 o2
 .intro b cs hc;obtain⟨pre,ty,fr,hp,hl,B,hr⟩:=h.glb b cs hc;exact⟨pre,ty,fr,hp,hl,B,λj c v hc hv=>(hr j c v hc hv).mono H⟩
 .obtain⟨M,hM⟩:=h.fsh;refine⟨max M (N+1),λy u=>⟨?_,λm=>?_,(hM y aC).2.2⟩⟩
  .rw[hT];have:¬ N=y:=by omega
   simp only[this,↓reduceIte];exact(hM y aC).1
  .have:¬ (y=N/\m=0):=by omega
   simp only[this,↓reduceIte];exact(hM y aC).2.1 m
 .intro hd c hc;obtain⟨l1,l2⟩:=hl.2 hd;obtain⟨d1,d2⟩:=h.dtm hd c aC;refine⟨d1,λm=>?_⟩;have:¬ (c=N/\m=0):=by omega
  simp only[this,↓reduceIte];exact d2 m
theorem aCU(P:Program)(w:World)(t u ty e:TypeId)(i:TypeInfo)(z:P.underlying t=some (.slice e))(B:P.underlying u=some (.slice e))(H:P.info? e=some i)(m a:Option Addr)(n cap c:Nat)(h:n<=cap) :
  (Builtin.append_ #[t,u] ty #[.slice m n cap,.slice a 0 c]).run P w=.ok (.slice m n cap) w:=by
 have M:∀y:Addr,(storeCells y []).run P w=.ok () w:=λy=>rfl
 cases m<;>cases a <;>
  simp[Builtin.append_,eJ z,eJ B,sizeOf,typeInfo,H,Builtin.lenOf,h,Builtin.firstCells,loadCells,loadCellsFrom,M]
theorem aCV(z:Array Value)(n:Nat):(Builtin.zeroCells z n).size=n * z.size:=by simp[Builtin.zeroCells]
theorem sK(w:World)(m u:Nat)(e:TypeId)(h:m<=9223372036854775807):m<=grownCap w m u e/\grownCap w m u e<=maxLen :=
 ⟨grownCap_ge w m u e,grownCap_le_maxLen w m u e (by unfold maxLen;omega)⟩
theorem aAL(g:Gh)(t n:Nat)(v:Value)(b:Nat)(xs:List Value):(g.tok t n v b xs).pi b=some xs:=by simp[Gh.tok]
theorem yV(g:Gh)(t n:Nat)(v:Value)(b:Nat)(xs:List Value):(g.tok t n v b xs).eta t n=some v:=by simp[Gh.tok]
theorem aHm(l:List Value)(z:Array Value):l.toArray++z=(l++z.toList).toArray:=by apply Array.ext';simp
theorem aD9(k l:List Value)(z:Array Value):k.toArray++l.toArray++z=((k++l)++z.toList).toArray:=by apply Array.ext';simp
theorem yU{KV Kp:St->A->Prop}(hR:R C.toCtx F g s w){t:Nat}{e:TypeId}{es:List A}{xs rest:List Value}{cap:Nat}{Z:TI}(b4:C.tt e=some Z)
  (H:∀y,y∈es->y.cells.length=Z.sz)(U:∀y,y∈es->∀c,c∈y.cells->c.one=true)(b0:Rzs g (flat es) xs)
  (h:es.length<=cap)(S:cap<=maxLen)(u:(xs++rest).length=cap * Z.sz)
  {s':St}(hO:∀q,s'.getO q=s.getO q)(hT:∀q,s'.getT q=if t=q then some (es.length,e) else s.getT q)(hl:tJ C s s' t)
  (ht:s.getT t=none\/∃n0,s.getT t=some n0)(z:∀m x,g.eta t m=some x->m<es.length)
  (hK:KV s' (.list (some t) es)) :
  OutV C F g KV Kp (.ok (.value (.slice (some ⟨w.heap.size,0,none⟩) es.length cap)) (w.drew.alloc (.cells (xs++rest).toArray e))):=by
 have O:C.toCtx.sz e=Z.sz:=xR b4;have b3:=yM H;have M:xs.length=es.length * Z.sz:=by rw[b0.1,b3]
 have B:(w.drew.alloc (.cells (xs++rest).toArray e)).ownsRow 0 e (C.toCtx.sz e) (.slice (some ⟨w.heap.size,0,none⟩) es.length cap) es.length xs:=by
  rw[O];refine⟨M,.inr ⟨w.heap.size,cap,_,rfl,aU _,yJ w.drew _,h,S,gQ u,?_⟩⟩;rw[<-M];simp
 obtain⟨h1,h2⟩:=hR.tokStep (t:=t) (n:=es.length) (b:=w.heap.size) (w':=w.drew.alloc (.cells (xs++rest).toArray e)) (λk hk _=>wX w.drew _ hk) B rfl z hO hT hl (.inl ⟨rfl,ht⟩);refine⟨_,_,_,h2,h1,?_,hK⟩;refine yT (off:=0) (vs:=xs) (pre:=xs) (aAL _ _ _ _ _ _) bJ ?_ H U h S (aU _) (λt' b2=>by cases b2;exact yV _ _ _ _ _ _);rw[eG aC];exact b0.mono h2
theorem aDt(u:R C.toCtx F g s w){KV:St->A->Prop}{n:Nat}{e:TypeId}{ys:List A}(h:newT C s n e ys KV) :
  ∃N s',(∀m,g.eta N m=none)/\s.getT N=none/\(∀q,s'.getO q=s.getO q)/\(∀q,s'.getT q=if N=q then some (n,e) else s.getT q)/\tJ C s s' N /\
   KV s' (.list (some N) ys):=by
 unfold newT at h;cases hd:C.det with
 | false =>
  rw[hd]at h;obtain⟨N,M⟩:=u.fsh;obtain⟨B,H,_⟩:=M N (aV _);exact⟨N,s.setT N (n,e),H,B,λq=>rfl,λq=>dM s N (n,e) q,⟨rfl,λy=>by rw[hd]at y;cases y⟩,h N B⟩
 | true =>
  rw[hd]at h;have z:=(u.dtm hd s.lim (aV _)).2;exact⟨s.lim,s.newT (n,e),z,u.freeT z,λq=>rfl,λq=>aFL s (n,e) q,⟨rfl,λ_=>⟨Nat.le_succ _,iD _⟩⟩,h⟩
theorem aHN{m:TI}{z:Value}(H:∀g,Rzs g m.zero z.cells.toList)(M:∀c,c∈m.zero->c.one=true)(k:Nat) :
  ∃J:List A,J.length=k * m.zero.length/\(∀c,c∈J->c.one=true)/\∀g,Rzs g J (Builtin.zeroCells z.cells k).toList:=by
 have hl:∀g,z.cells.size=m.zero.length:=λg=>by simpa using(H g).1
 refine⟨(List.range (k * m.zero.length)).map (λi=>m.zero[i % m.zero.length]!),by simp,λc u=>?_,λg=>⟨by simp[Builtin.zeroCells,hl g],λj c v u S=>?_⟩⟩
 .simp only[cH,wW]at u;obtain⟨i,hi,rfl⟩:=u;have h0:0<m.zero.length:=Nat.pos_of_ne_zero (by rintro h;rw[h]at hi;simp at hi);have B:i % m.zero.length<m.zero.length:=Nat.mod_lt _ h0;rw[getElem!_pos m.zero _ B];exact M _ (mP B)
 .rw[lO]at u;simp only[Builtin.zeroCells,Array.toList_map,Array.toList_range,lO,hl g]at S;cases Z:(List.range (k * m.zero.length))[j]? with
  | none=>rw[Z]at u;cases u
  | some i =>
   rw[Z]at u S;simp only[nO,bQ]at u S;have hj:=eF.1 Z;obtain⟨y,U⟩:=hj;simp only[List.length_range]at y;simp only[List.getElem_range]at U;subst U;have h0:0<m.zero.length:=Nat.pos_of_ne_zero (by rintro h;rw[h]at y;simp at y);have B:j % m.zero.length<m.zero.length:=Nat.mod_lt _ h0;have O:j % m.zero.length<z.cells.size:=by rw[hl g];exact B
   rw[getElem!_pos m.zero _ B]at u;rw[getElem!_pos z.cells _ O]at S;refine(H g).2 (j % m.zero.length) c v (by rw[aX B,u]) ?_;rw[<-S];simp[O]
theorem aFR{KV Kp:St->A->Prop}(z:R C.toCtx F g s w)(hd:C.det=false){e:TypeId}{n cap:Nat}{cs J:List A}{xs rest:List Value}(B:Rzs g cs xs)(S:Rzs g J rest)
  (O:∀c,c∈cs->c.one=true)(h2:∀c,c∈J->c.one=true)(M:n<=cap)(U:cap<=maxLen)(h:∀b,s.getO b=none->KV (s.setO b (.cells e (cs++J))) (.mg b n cap)) :
  OutV C F g KV Kp (.ok (.value (.slice (some ⟨w.heap.size,0,none⟩) n cap)) (w.drew.alloc (.cells (xs++rest).toArray e))):=by
 obtain⟨b,H⟩:=z.some_free;have y:R C.toCtx F g s w.drew:=z.heap rfl;have Z:=h b (z.free H)
 have u:ObRz g (.cells e (cs++J)) (some (.cells (xs++rest).toArray e)):=⟨xs++rest,[],by simp,B.append S,λc m=>by
  rcases cZ.1 m with m|m
  .exact O c m
  .exact h2 c m⟩
 refine⟨_,_,_,aAW H _,y.newObj u H (s':=s.setO b (.cells e (cs++J))) (λq=>aL s b _ q) (λq=>rfl) rfl (by rw[hd];simp),?_,Z⟩;exact .mg b n cap _ (by simp[Gh.bx]) M U
theorem yS(h:List UInt8):(eW h).length=h.length:=by simp[eW]
theorem aC0(m:List UInt8):∀y,y∈eW m->y.cells.length=1:=by
 intro y h;simp only[eW,cH]at h;obtain⟨c,_,rfl⟩:=h;rfl
theorem aF7(u:List UInt8):∀y,y∈eW u->∀c,c∈y.cells->c.one=true:=by
 intro y m c h;simp only[eW,cH]at m;obtain⟨x,_,rfl⟩:=m;simp only[A.cells,cC]at h;subst h;rfl
theorem aI7(h:List UInt8):flat (eW h)=eW h:=by
 induction h with
 | nil=>rfl
 | cons c r m=>simp only[eW,bN,flat,kG]at *;rw[m];rfl
theorem aQC(g:Gh)(u:List UInt8):Rzs g (eW u) (Lib.strCells ⟨u.toArray⟩):=by
 refine⟨by simp[eW,Lib.strCells],λj c v h m=>?_⟩;simp only[eW,lO]at h;simp only[Lib.strCells,lO]at m;cases y:u[j]? with
 | none=>rw[y]at h;cases h
 | some x =>
  rw[y]at h m;simp only[nO,bQ]at h m;subst h m;exact .int _ _
theorem aT0{U:TI}{t u e:TypeId}(H:C.tt t=some U)(h:aBA C U u=some e):C.P.underlying t=some (.slice e)/\C.P.underlying u=some .string/\∃z,C.tt e=some z/\z.sz=1/\z.bytes=1:=by
 unfold aBA at h;split at h
 .rename_i e0 hk;split at h
  .rename_i tu z M S;split at h
   .rename_i O;split at h
    .rename_i b0;split at h
     .rename_i Z;cases h;obtain⟨d,hd,y⟩:=jO H;rw[hk]at y;simp only[TK.ok]at y;subst y;obtain⟨d2,B,m⟩:=jO M;rw[O]at m;simp only[TK.ok]at m;subst m;exact⟨hd,B,z,S,Z⟩
     .cases h
    .cases h
   .cases h
  .cases h
 .cases h
theorem aQB(u:R C.toCtx F g s w){KV:St->A->Prop}{n:Nat}{e:TypeId}(h:aBt C s n e KV) :
  ∃N s',(∀m,g.eta N m=none)/\s.getT N=none/\(∀q,s'.getO q=s.getO q)/\(∀q,s'.getT q=if N=q then some (0,e) else s.getT q)/\tJ C s s' N /\
   KV s' (.gr N n):=by
 unfold aBt at h;cases hd:C.det with
 | false =>
  rw[hd]at h;obtain⟨N,M⟩:=u.fsh;obtain⟨B,H,_⟩:=M N (aV _);exact⟨N,s.setT N (0,e),H,B,λq=>rfl,λq=>dM s N (0,e) q,⟨rfl,λy=>by rw[hd]at y;cases y⟩,h N B⟩
 | true =>
  rw[hd]at h;have z:=(u.dtm hd s.lim (aV _)).2;exact⟨s.lim,s.newT (0,e),z,u.freeT z,λq=>rfl,λq=>aFL s (0,e) q,⟨rfl,λ_=>⟨Nat.le_succ _,iD _⟩⟩,h⟩
theorem aUN{KV Kp:St->A->Prop}{ty:TypeId}{x y:Operand}{t u e:TypeId}{B:List UInt8}{a:A}{ti:TI}{dst:Option Tmp}{pos:String}{after:Array Edge}{gd:Option (Nat × Bool)}
  (hR:R C.toCtx F g s w)(he:∀x a,ρ x=some a->Rz g a (ev x))(hx:ρ x=some a)(hy:ρ y=some (.str B))(cr:C.tt t=some ti)(hE:aBA C ti u=some e)(h:aAm C s e B KV a) :
  OutV C F g KV Kp ((execOp ev ⟨dst,.call ⟨.builtin .append,#[x,y],#[t,u]⟩,ty,pos,after,gd⟩).run C.P w):=by
 obtain⟨hd,bf,te,bh,b0,bv⟩:=aT0 cr hE;obtain⟨i,z,hi,cb,c3,c1,ck⟩:=(C.htt e te bh).info
 have Z:(execOp ev ⟨dst,.call ⟨.builtin .append,#[x,y],#[t,u]⟩,ty,pos,after,gd⟩).run C.P w =
   ((Builtin.append_ #[t,u] ty #[ev x,ev y]).run C.P w).andThen λv w'=>.ok (.value v) w':=by
  simp only[execOp,resolve,invoke,builtin,bW,cI,bV,mE,bN,dI]
 have bn:C.toCtx.sz e=te.sz:=xR bh;have bg:=(he y _ hy).str_inv;have S:(ByteArray.mk B.toArray).size=B.length:=by simp[ByteArray.size]
 have b8:(Lib.strCells ⟨B.toArray⟩).length=B.length:=by simp[Lib.strCells]
 have ct:z.cells.size=1:=by
  have h1:=(ck g).1;rw[(C.htt e te bh).len,b0]at h1;simpa using h1
 have b7:∀(n cap:Nat),n<=cap->(Builtin.zeroCells z.cells (cap-n)).toList.length+n=cap:=by
  intro n cap h;simp only[qA,aCV,ct];omega
 have b9:Rzs g (flat (eW B)) (Lib.strCells ⟨B.toArray⟩):=by rw[aI7];exact aQC g B
 cases a<;>simp only[aAm]at h
 case nils =>
  obtain⟨f3,h⟩:=h;have bk:=(he x _ hx).nils_inv;obtain⟨N,s',m1,m2,m3,m4,m5,m6⟩:=aDt hR h;by_cases h0:B=[]
  .subst h0
   have H:(Builtin.append_ #[t,u] ty #[.slice none 0 0,.string ⟨([]:List UInt8).toArray⟩]).run C.P w=.ok (.slice none 0 0) w:=by
    have hs:(ByteArray.mk ([]:List UInt8).toArray).size=0:=rfl;simp[Builtin.append_,eJ hd,eJ bf,sizeOf,typeInfo,hi,Builtin.lenOf,hs,Builtin.firstCells]
   rw[Z,bk,bg,H];obtain⟨g',h2,h3,h4⟩:=hR.tokNil e m1 m3 m4 m5;exact⟨g',_,_,h2,h4,.list0 (some N) none 0 (aU _) (λt' bz=>by cases bz;exact h3),m6⟩
  .have bl:0<B.length:=by cases B with|nil=>exact cM rfl h0|cons=>simp
   have H:=run_append_nil_string (P:=C.P) w t u ty e i z hd bf hi c1 ⟨B.toArray⟩ (by rw[S];exact bl) (by rw[S];omega) (by rw[S,c3,bv];omega);rw[S]at H;have b2:=sK w B.length 0 e aC;rw[Z,bk,bg,H]
   rw[show(Array.map (λb:UInt8=>Value.int IntKind.u8 (b.toNat:Int)) (ByteArray.mk B.toArray).data++Builtin.zeroCells z.cells (grownCap w B.length 0 e-B.length)) =
    (Lib.strCells ⟨B.toArray⟩++(Builtin.zeroCells z.cells (grownCap w B.length 0 e-B.length)).toList).toArray by apply Array.ext';simp[Lib.strCells]]
   have b5:=yS B
   have:=yU (KV:=KV) (Kp:=Kp) hR (t:=N) bh (es:=eW B) (xs:=Lib.strCells ⟨B.toArray⟩) (cap:=grownCap w B.length 0 e) (rest:=(Builtin.zeroCells z.cells (grownCap w B.length 0 e-B.length)).toList)
    (λy hy=>by rw[b0];exact aC0 B y hy) (aF7 B) b9 (by rw[b5];exact b2.1) b2.2 (by rw[aI,b8,b0,Nat.mul_one];have:=b7 _ _ b2.1;omega)
    m3 (by rw[b5];exact m4) m5 (.inl m2) (λm x hx=>by rw[m1]at hx;cases hx) m6
   rw[b5]at this;exact this
 case list tk es =>
  cases tk with
  | none=>exact h.elim
  | some t0 =>
  obtain⟨⟨h1,h2,h3⟩,hK⟩:=h;obtain⟨ax,bp,bk,f7,cm,bm,cp⟩:=(he x _ hx).list_inv;obtain⟨v,xs,e1,M,c6,br⟩:=hR.tok t0 es.length e h1;have cg:v=ev x:=by have:=bm t0 rfl;rw[e1]at this;exact aAB this
  subst cg;rw[bn,b0]at M;have b5:=yS B;have O:(es++eW B).length=es.length+B.length:=by simp[b5]
  have bw:tJ C s (s.setT t0 (es.length+B.length,e)) t0:=⟨rfl,λhd=>⟨aV _,Nat.lt_of_not_le λcq=>by
   have:=(hR.dtm hd t0 cq).2 es.length;rw[this]at e1;cases e1⟩⟩
  by_cases h0:B=[]
  .subst h0
   have H:(Builtin.append_ #[t,u] ty #[.slice ax es.length bp,.string ⟨([]:List UInt8).toArray⟩]).run C.P w=.ok (.slice ax es.length bp) w:=by
    have hs:(ByteArray.mk ([]:List UInt8).toArray).size=0:=rfl;have cl:∀ad:Addr,(storeCells ad []).run C.P w=.ok () w:=λad=>rfl
    cases ax<;>simp[Builtin.append_,eJ hd,eJ bf,sizeOf,typeInfo,hi,Builtin.lenOf,hs,Builtin.firstCells,cm,cl]
   rw[Z,bk,bg,H];have c9:=he x _ hx;rw[bk]at c9;refine⟨g,.list (some t0) es,_,iE g,hR.weaken (s':=s.setT t0 (es.length,e)) ⟨λb o ho=>ho,λk n hn=>?_,λ_ h=>h⟩ (λ_=>aV _),c9,by simpa [eW]using hK⟩;rw[dM]at hn;by_cases bm:t0=k
   .subst bm;simp only[↓reduceIte]at hn;rw[h1];exact hn
   .simpa only[bm,↓reduceIte]using hn
  .have bl:0<B.length:=by cases B with|nil=>exact cM rfl h0|cons=>simp
   have bb:∀m x,g.eta t0 m=some x->m<(es++eW B).length:=λm x hx=>by have:=c6 m x hx;rw[O];omega
   have bj:∀y,y∈es++eW B->∀c,c∈y.cells->c.one=true:=by
    intro q hq c hc;rcases cZ.1 hq with hq|hq
    .rcases cp with rfl|⟨b,off,sz,pre,_,_,_,_,ho,_⟩
     .cases hq
     .exact ho q hq c hc
    .exact aF7 B q hq c hc
   have bq:∀y,y∈es++eW B->y.cells.length=te.sz:=by
    intro q hq;rw[b0];rcases cZ.1 hq with hq|hq
    .exact h2 q hq
    .exact aC0 B q hq
   have cd:Rzs g (flat es) xs:=by
    obtain⟨a',cz,q1,_,_,q2⟩:=(he x _ hx).to_flat;rcases q2 with rfl|⟨b',f1,ch,f5,q3,q4,q5,q6,q7,q8⟩
    .have:xs=[]:=fW (gQ M.1);rw[this];exact .nil g
    .by_cases b3:es=[]
     .subst b3;have:xs=[]:=fW (gQ M.1);rw[this];exact .nil g
     .have cf:0<es.length:=by cases es with|nil=>exact cM rfl b3|cons=>simp
      have c8:ch=1:=by rw[<-q6 _ (mP cf),h2 _ (mP cf)]
      subst q3;rcases M.2 with⟨hn,h0⟩|⟨g0,U,b4,bd,_⟩
      .omega
      .have c0:=br g0 (by rw[bd];rfl);rw[bd]at q1;simp only[sI,bQ,vJ,sQ,kS]at q1;obtain⟨⟨rfl,rfl⟩,rfl⟩:=q1;rw[c0.1]at q4;cases q4;rw[c8,sL,eG (by rw[M.1];exact aV _)]at q8;exact q8
   have bt:Rzs g (flat (es++eW B)) (xs++Lib.strCells ⟨B.toArray⟩):=by rw[aI6];exact cd.append b9
   rcases M.2 with⟨hn,cn⟩|⟨g0,U,b4,bd,_,c4,f6,c5,hcs,b6⟩
   .have b3:es=[]:=fW cn;have H:=run_append_nil_string (P:=C.P) w t u ty e i z hd bf hi c1 ⟨B.toArray⟩ (by rw[S];exact bl) (by rw[S];omega) (by rw[S,c3,bv];omega);rw[S]at H;have b2:=sK w B.length 0 e aC;rw[Z,hn,bg,H]
    rw[show(Array.map (λb:UInt8=>Value.int IntKind.u8 (b.toNat:Int)) (ByteArray.mk B.toArray).data++Builtin.zeroCells z.cells (grownCap w B.length 0 e-B.length)) =
     (Lib.strCells ⟨B.toArray⟩++(Builtin.zeroCells z.cells (grownCap w B.length 0 e-B.length)).toList).toArray by apply Array.ext';simp[Lib.strCells]]
    have:=yU (KV:=KV) (Kp:=Kp) hR (t:=t0) bh (es:=eW B) (xs:=Lib.strCells ⟨B.toArray⟩) (cap:=grownCap w B.length 0 e) (rest:=(Builtin.zeroCells z.cells (grownCap w B.length 0 e-B.length)).toList)
     (λy hy=>by rw[b0];exact aC0 B y hy) (aF7 B) b9 (by rw[b5];exact b2.1) b2.2 (by rw[aI,b8,b0,Nat.mul_one];have:=b7 _ _ b2.1;omega)
     (s':=s.setT t0 (es.length+B.length,e)) (λq=>rfl) (λq=>by rw[dM];simp[b3,b5]) bw (.inr ⟨_,h1⟩) (by simpa [b3]using bb) (by simpa [b3]using hK)
    rw[b5]at this;exact this
   .by_cases bc:es.length+B.length<=U
    .have f4:b4.size=U:=by rw[hcs,Nat.mul_one]
     have H:=Lib.run_append_room_string (P:=C.P) w t u ty e i hd bf hi (by rw[cb,b0]) g0 es.length U b4 c4 ⟨B.toArray⟩ (by rw[S];exact bc) (by rw[S];omega);rw[S]at H;rw[Z,bd,bg,H]
     have c7:(w.setRow g0 (b4.toList.take es.length++Lib.strCells ⟨B.toArray⟩++b4.toList.drop (es.length+B.length)).toArray).ownsRow 0 e (C.toCtx.sz e) (.slice (some ⟨g0,0,none⟩) (es.length+B.length) U) (es.length+B.length) (xs++Lib.strCells ⟨B.toArray⟩):=by
      rw[bn,b0];refine⟨by rw[aI,M.1,b8];omega,.inr ⟨g0,U,_,rfl,aU _,aAE c4 _,bc,c5,?_,?_⟩⟩
      .simp only[List.size_toArray,aI,cQ,eC,qA,b8];omega
      .rw[Nat.mul_one]at b6⊢;rw[b6];have:es.length+B.length=(xs++Lib.strCells ⟨B.toArray⟩).length:=by rw[aI,M.1,b8];omega
       rw[this];simp only[bG];rw[<-bG];exact List.take_left
     have c0:=br g0 (by rw[bd];rfl);obtain⟨r1,r2⟩:=hR.tokStep (t:=t0) (b:=g0) (λk hk cj=>aAR cj _) c7 rfl (by rw[<-O];exact bb) (s':=s.setT t0 (es.length+B.length,e)) (λq=>rfl) (λq=>dM _ _ _ q) bw (.inr ⟨es.length,ev x,xs,Lib.strCells ⟨B.toArray⟩,h1,e1,by rw[bd];rfl,c0.1,rfl⟩);refine⟨_,.list (some t0) (es++eW B),_,r2,r1,?_,hK⟩;rw[<-O];refine yT (off:=0) (sz:=te.sz) (vs:=xs++Lib.strCells ⟨B.toArray⟩) (pre:=xs++Lib.strCells ⟨B.toArray⟩) (by rw[O];exact aAL _ _ _ _ _ _) bJ ?_ bq bj (by rw[O];exact bc) c5 (aU _) (λt' bz=>by cases bz;rw[O];exact yV _ _ _ _ _ _);rw[eG (by rw[aI,M.1,b8,O,b0];omega)];rw[O]at *;exact bt.mono r2
    .have c2:∀j u,xs[j]?=some u->w.cell? ((⟨g0,0,none⟩:Addr).add j)=some u:=by
      intro j u hj;rw[mG];simp only[World.cell?,c4,Option.isSome_none,cE,↓reduceIte,fH];rw[<-b6,oJ]at hj;split at hj
      .simpa using hj
      .simp at hj
     have H:=Lib.run_append_grow_string (P:=C.P) w t u ty e i z hd bf hi c1 ⟨g0,0,none⟩ es.length U xs (by rw[M.1,cb,b0]) c2 ⟨B.toArray⟩ (by rw[S];omega) (by rw[S];omega)
      (growslice_fits (by rw[S];omega) (by rw[S,c3,bv];omega))
     rw[S]at H;have b2:=sK w (es.length+B.length) U e aC;rw[Z,bd,bg,H,aD9]
     have:=yU (KV:=KV) (Kp:=Kp) hR (t:=t0) bh (es:=es++eW B) (xs:=xs++Lib.strCells ⟨B.toArray⟩) (cap:=grownCap w (es.length+B.length) U e) (rest:=(Builtin.zeroCells z.cells (grownCap w (es.length+B.length) U e-(es.length+B.length))).toList) bq bj bt (by rw[O];exact b2.1) b2.2
      (by rw[aI,aI,b8,M.1,b0];have:=b7 _ _ b2.1;omega) (s':=s.setT t0 (es.length+B.length,e)) (λq=>rfl) (λq=>by rw[dM,O]) bw (.inr ⟨_,h1⟩) bb hK
     rw[O]at this;exact this
theorem aOa(P:Program)(w:World)(t u ty e:TypeId)(k:IntKind)(i:TypeInfo)(z:Value)(S:P.underlying t=some (.slice e))(M:P.underlying u=some (.int k))(Z:P.info? e=some i)(hz:i.zero=some z)
  (B:i.size≠0)(n:Nat)(U:0<n)(hn:n<=65536)(hb:n * i.bytes<=281474976710656) :
  (Builtin.append_ #[t,u] ty #[.slice none 0 0,.int .i64 n]).run P w = .ok (.slice (some ⟨w.heap.size,0,none⟩) n (grownCap w n 0 e))
   (w.drew.alloc (.cells (Builtin.zeroCells z.cells n++Builtin.zeroCells z.cells (grownCap w n 0 e-n)) e)):=by
 have hw:IntKind.i64.wrap (n:Int)=n:=IntWalk.i64_in _ ⟨by omega,by omega⟩;have h1:¬ ((n:Int)<0):=by omega
 have h2:¬ ((281474976710656:Int)<(n:Int) * (i.bytes:Int)):=by
  have:((n * i.bytes:Nat):Int)<=281474976710656:=by omega
  rw[Int.natCast_mul]at this;omega
 have H:n≠0:=by omega
 have y:¬ (9223372036854775807<(n:Int)):=by omega
 have m:¬ (281474976710656<Builtin.nextslicecap n 0 * i.bytes):=by rw[nextslicecap_zero U];omega
 have O:¬ (n * i.size=0):=by
  intro h;rcases Nat.mul_eq_zero.1 h with h|h
  .exact H h
  .exact B h
 simp[Builtin.append_,eJ S,eJ M,sizeOf,typeInfo,zeroValue,Z,hz,hw,h1,h2,H,B,y,m,Builtin.firstCells,Question.forced,newRow,grownCap,asInt,asIntOf];intro h;exact cM h O
theorem aUz{KV Kp:St->A->Prop}{ty:TypeId}{x y:Operand}{t u:TypeId}{n:Int}{a:A}{ti:TI}{dst:Option Tmp}{pos:String}{after:Array Edge}{gd:Option (Nat × Bool)}
  (hR:R C.toCtx F g s w)(he:∀x a,ρ x=some a->Rz g a (ev x))(hx:ρ x=some a)(hy:ρ y=some (.int .i64 n))(b5:C.tt t=some ti)(h:aAp C s ti u n KV a) :
  OutV C F g KV Kp ((execOp ev ⟨dst,.call ⟨.builtin .append,#[x,y],#[t,u]⟩,ty,pos,after,gd⟩).run C.P w):=by
 cases a<;>simp only[aAp]at h
 split at h
 .rename_i e hk;split at h
  .rename_i te tu U b7;split at h
   .rename_i k b8;obtain⟨⟨h0,h1,h2,h3⟩,h⟩:=h;obtain⟨d,hd,O⟩:=jO b5;rw[hk]at O;simp only[TK.ok]at O;subst O;obtain⟨d2,b2,B⟩:=jO b7;rw[b8]at B;simp only[TK.ok]at B;subst B;obtain⟨i,z,hi,b9,b3,b6,b4⟩:=(C.htt e te U).info
    have bb:z.cells.size=te.sz:=by
     have h1:=(b4 g).1;rw[(C.htt e te U).len]at h1;simpa using h1
    have hn:n=(n.toNat:Int):=by omega
    have b0:=(he y _ hy).int_inv;have bc:=(he x _ hx).nils_inv
    have S:(execOp ev ⟨dst,.call ⟨.builtin .append,#[x,y],#[t,u]⟩,ty,pos,after,gd⟩).run C.P w =
      ((Builtin.append_ #[t,u] ty #[ev x,ev y]).run C.P w).andThen λv w'=>.ok (.value v) w':=by
     simp only[execOp,resolve,invoke,builtin,bW,cI,bV,mE,bN,dI]
    have H:=aOa C.P w t u ty e k i z hd b2 hi b6 (by rw[b9];exact h2) n.toNat aC aC
     (by rw[b3];have:n.toNat * te.bytes<=65536 * 32768:=Nat.mul_le_mul aC h3;omega)
    rw[<-hn]at H;have M:=sK w n.toNat 0 e aC;obtain⟨N,s',m1,m2,m3,m4,m5,m6⟩:=aQB hR h;rw[S,bc,b0,H]
    have Z:(w.drew.alloc (.cells (Builtin.zeroCells z.cells n.toNat++Builtin.zeroCells z.cells (grownCap w n.toNat 0 e-n.toNat)) e)).ownsRow 0 e (C.toCtx.sz e) (.slice (some ⟨w.heap.size,0,none⟩) 0 (grownCap w n.toNat 0 e)) 0 []:=by
     rw[xR U];refine⟨by simp,.inr ⟨w.heap.size,_,_,rfl,aU _,yJ w.drew _,aU _,M.2,?_,by simp⟩⟩;simp only[Array.size_append,aCV,bb,<-iL];congr 1;omega
    obtain⟨r1,r2⟩:=hR.tokStep (t:=N) (n:=0) (b:=w.heap.size) (w':=w.drew.alloc (.cells (Builtin.zeroCells z.cells n.toNat++Builtin.zeroCells z.cells (grownCap w n.toNat 0 e-n.toNat)) e))
     (λk hk _=>wX w.drew _ hk) Z rfl (λm x hx=>by rw[m1]at hx;cases hx) m3 m4 m5 (.inl ⟨rfl,.inl m2⟩)
    exact⟨_,_,_,r2,r1,.gr N _ _ _ (yV _ _ _ _ _ _) M.1 M.2,m6⟩
   .exact h.elim
  .exact h.elim
 .exact h.elim
theorem R.freeze(y:R C.toCtx F g s w){t n b:Nat}{e:TypeId}{v:Value}(ht:s.getT t=some (n,e))(hv:g.eta t n=some v)(hb:v.ownBlock=some b)(m:Nat) :
  R C.toCtx F g (s.delT t) (w.freeze ⟨b,0,none⟩ m):=by
 by_cases B:m=0
 .subst B;have:w.freeze ⟨b,0,none⟩ 0=w:=by simp[World.freeze]
  rw[this];refine y.weaken ⟨λb o ho=>ho,λk x M=>?_,λ_ h=>h⟩ (λ_=>aV _);rw[sN]at M;split at M
  .cases M
  .exact M
 obtain⟨v',xs,e1,b6,b5,U⟩:=y.tok t n e ht;rw[hv]at e1;cases e1;obtain⟨b2,hF⟩:=U b hb
 have S:∀k,k≠b->(w.freeze ⟨b,0,none⟩ m).heap[k]?=w.heap[k]?:=by
  intro k S;have:¬ b=k:=λe=>S e.symm
  simp[World.freeze,B,Array.getElem?_modify,this]
 have b3:(w.freeze ⟨b,0,none⟩ m).heap.size=w.heap.size:=by simp[World.freeze,B]
 refine⟨λc o ho=>?_,λt' n' e' z=>?_,λt1 t2 n1 n2 v1 v2 k O H h2=>?_,λk pre hp=>?_,λk o ho=>?_,y.glb,?_,?_,y.inj,?_,y.lst,y.bfr,(by simp[World.freeze,B,<-y.env])⟩
 .obtain⟨k,h0,H,h2,h3⟩:=y.obj c o ho;have:k≠b:=by rintro rfl;rw[b2]at h2;cases h2
  exact⟨k,h0,by rw[S k this];exact H,h2,h3⟩
 ·rw[sN] at z;split at z
  .cases z
  .rename_i O;obtain⟨v2,b4,H,h2,h3,h4⟩:=y.tok t' n' e' z;refine⟨v2,b4,H,⟨h2.1,?_⟩,h3,h4⟩;rcases h2.2 with h5|⟨k,cap,b0,h5,h6,hh,rest⟩
   .exact .inl h5
   .refine .inr ⟨k,cap,b0,h5,h6,?_,rest⟩
    have:k≠b:=by
     rintro rfl;exact y.sep t' t (n',e') (n,e) v2 v k O z ht H hv (by rw[h5];rfl) hb
    rw[S k this];exact hh
 .rw[sN]at H h2;split at H
  .cases H
  .split at h2
   .cases h2
   .exact y.sep t1 t2 n1 n2 v1 v2 k O H h2
 .obtain⟨rest,e2,fr,M⟩:=y.pis k pre hp;by_cases Z:k=b
  .subst Z;obtain⟨lo,hi⟩:=fr;refine⟨rest,e2,(if lo == hi then(0,0+m) else(min lo 0,max hi (0+m))),?_⟩;simp[World.freeze,B,Array.getElem?_modify,M]
  .exact⟨rest,e2,fr,by rw[S k Z];exact M⟩
 .have:k≠b:=by rintro rfl;rw[hF]at ho;cases ho
  exact⟨by rw[S k this];exact(y.frm k o ho).1,(y.frm k o ho).2⟩
 .obtain⟨N,hN⟩:=y.fsh;refine⟨N,λu hu=>⟨?_,(hN u hu).2⟩⟩;rw[sN];split
  .rfl
  .exact(hN u hu).1
 .intro c k hc;rw[b3];exact y.bet c k hc
 .exact y.dtm
theorem aUO{KV Kp:St->A->Prop}{ty:TypeId}{x y:Operand}{t u:TypeId}{dst:Option Tmp}{pos:String}{after:Array Edge}{gd:Option (Nat × Bool)}
  (hR:R C.toCtx F g s w)(he:∀x a,ρ x=some a->Rz g a (ev x))(h:bM C (.call ⟨.builtin .unsafeString,#[x,y],#[t,u]⟩) ρ KV Kp s) :
  OutV C F g KV Kp ((execOp ev ⟨dst,.call ⟨.builtin .unsafeString,#[x,y],#[t,u]⟩,ty,pos,after,gd⟩).run C.P w):=by
 have H:(execOp ev ⟨dst,.call ⟨.builtin .unsafeString,#[x,y],#[t,u]⟩,ty,pos,after,gd⟩).run C.P w =
   ((Builtin.unsafeString_ #[t,u] ty #[ev x,ev y]).run C.P w).andThen λv w'=>.ok (.value v) w':=by
  simp only[execOp,resolve,invoke,builtin,bW,cI,bV,mE,bN,dI]
 simp only[bM]at h;split at h
 .rename_i n hx hy;obtain⟨rfl,hK⟩:=h;rw[H,(he x _ hx).nilp_inv,(he y _ hy).int_inv,Lib.run_unsafeString_none];exact⟨g,.str [],s,iE g,hR,.str [],hK⟩
 .rename_i t0 es n hx hy;split at h
  .rename_i e hus;obtain⟨⟨rfl,ht⟩,m,rfl,hK⟩:=h;obtain⟨hp,hc⟩:=C.hus _ _ hus;obtain⟨a,cap,hv,br,hr⟩:=(he x _ hx).sd_inv;obtain⟨ad,bh,e1,hm,bq,b9,hh⟩:=hr.list_inv;obtain⟨v,xs,e2,O,bk,b4⟩:=hR.tok t0 _ e ht;have e3:=b9 t0 rfl;rw[e2]at e3;cases e3;have Z:=yS m;rw[H,hv,(he y _ hy).int_inv];by_cases h0:m=[]
   .subst h0;have e5:((eW ([]:List UInt8)).length:Int)=0:=rfl;rw[e5,Lib.run_unsafeString_none];have hw:w.freeze ⟨a.block,0,none⟩ 0=w:=by simp[World.freeze]
    have:=hR.freeze (b:=a.block) ht e2 rfl 0;rw[hw]at this;exact⟨g,.str [],s.delT t0,iE g,this,.str [],hK⟩
   .have b7:0<m.length:=by cases m with|nil=>exact cM rfl h0|cons=>simp
    rcases O.2 with⟨hn,_⟩|⟨g0,bj,b0,b3,_,b5,bp,bb,hcs,z⟩
    .cases hn
    simp only[sI,bQ]at b3;obtain⟨rfl,_,rfl⟩:=b3;have S:C.toCtx.sz e=1:=hc;rw[S,Nat.mul_one]at hcs z;have bd:=(b4 g0 rfl).1
    have bf:Rzs g (eW m) xs:=by
     obtain⟨a',bm,q1,_,_,q2⟩:=hr.to_flat;rcases q2 with q2|⟨b',bl,b8,bn,q3,q4,q5,q6,q7,q8⟩
     .exact cM (List.map_eq_nil_iff.1 q2) h0
     .subst q3;simp only[sI,bQ,vJ,sQ,kS]at q1;obtain⟨⟨rfl,rfl⟩,rfl⟩:=q1;rw[bd]at q4;cases q4;have b6:0<(eW m).length:=by rw[Z];exact b7
      have b2:b8=1:=by rw[<-q6 _ (mP b6),aC0 m _ (mP b6)]
      rw[b2,sL,eG (by rw[O.1,S];exact aV _),aI7]at q8;exact q8
    have U:∀j x,m[j]?=some x->w.cell? ((⟨g0,0,none⟩:Addr).add j)=some (.int .u8 x.toNat):=by
     intro j x hj;have bc:(eW m)[j]?=some (.int .u8 x.toNat):=by simp[eW,hj]
     obtain⟨u',B,bg⟩:=bf.get bc;rw[bg.int_inv]at B;rw[mG];simp only[World.cell?,b5,Option.isSome_none,cE,↓reduceIte,fH];rw[<-z,oJ]at B;split at B
     .simpa using B
     .cases B
    have M:=Lib.run_unsafeString_row (P:=C.P) w t u ty e hp hc g0 b0.size (by simp[World.shape?,b5]) m h0 (by rw[hcs];omega) (by unfold maxLen at bb;omega) U;rw[<-Z]at M;rw[M];exact⟨g,.str m,s.delT t0,iE g,hR.freeze ht e2 rfl _,.str m,hK⟩
  .exact h.elim
 .exact h.elim
theorem aNb{KV Kp:St->A->Prop}{ty:TypeId}{x y:Operand}{t u:TypeId}{a:A}{ti:TI}{ad:Option Addr}{dst:Option Tmp}{pos:String}{after:Array Edge}{gd:Option (Nat × Bool)}
  (hR:R C.toCtx F g s w)(he:∀x a,ρ x=some a->Rz g a (ev x))(hx:ρ x=some a)(hy:ev y=.slice ad 0 0)(Z:C.tt t=some ti)(h:aAq C s ti t u KV a) :
  OutV C F g KV Kp ((execOp ev ⟨dst,.call ⟨.builtin .append,#[x,y],#[t,u]⟩,ty,pos,after,gd⟩).run C.P w):=by
 have S:(execOp ev ⟨dst,.call ⟨.builtin .append,#[x,y],#[t,u]⟩,ty,pos,after,gd⟩).run C.P w =
   ((Builtin.append_ #[t,u] ty #[ev x,ev y]).run C.P w).andThen λv w'=>.ok (.value v) w':=by
  simp only[execOp,resolve,invoke,builtin,bW,cI,bV,mE,bN,dI]
 unfold aAq at h;split at h
 .rename_i e hk;split at h
  .rename_i te b0;obtain⟨rfl,h⟩:=h;obtain⟨d,hd,O⟩:=jO Z;rw[hk]at O;simp only[TK.ok]at O;subst O;obtain⟨i,z,hi,b5,b2,b4,b3⟩:=(C.htt e te b0).info
   have M:∀(m:Option Addr) (n cap:Nat) (b:A),ev x=.slice m n cap->n<=cap->Rz g b (.slice m n cap)->KV s b ->
     OutV C F g KV Kp ((execOp ev ⟨dst,.call ⟨.builtin .append,#[x,y],#[u,u]⟩,ty,pos,after,gd⟩).run C.P w):=by
    intro m n cap b h1 h2 h3 h4;rw[S,h1,hy,aCU C.P w u u ty e i hd hd hi m ad n cap 0 h2];exact⟨g,b,s,iE g,hR,h3,h4⟩
   have B:=he x _ hx;split at h
   .have H:=B.nils_inv;rw[H]at B;exact M none 0 0 _ H (aV _) B h
   .obtain⟨a,H⟩:=B.emp_inv;rw[H]at B;exact M (some a) 0 0 _ H (aV _) B h
   .obtain⟨a,cap,H,_,U,_⟩:=B.list_inv;rw[H]at B;exact M a _ cap _ H U B h
   .obtain⟨k,cap,H,_,U,_⟩:=B.ml_inv;rw[H]at B;exact M _ _ cap _ H U B h
   .exact h.elim
  .exact h.elim
 .exact h.elim
theorem aJQ{s1:St}(u:R C.toCtx F g s1 w){KV:St->A->Prop}{n sz:Nat}{e:TypeId}{ys:List A}(h:wM C s1 n e ys sz KV) :
  ∃N s',(∀m,g.eta N m=none)/\s1.getT N=none/\(∀q,s'.getO q=s1.getO q)/\(∀q,s'.getT q=if N=q then some (n,e) else s1.getT q)/\tJ C s1 s' N /\
   KV s' (.pen N ys sz):=by
 unfold wM at h;cases hd:C.det with
 | false =>
  rw[hd]at h;obtain⟨N,H⟩:=u.fsh;obtain⟨y,M,_⟩:=H N (aV _);exact⟨N,s1.setT N (n,e),M,y,λq=>rfl,λq=>dM s1 N (n,e) q,⟨rfl,λz=>by rw[hd]at z;cases z⟩,h N y⟩
 | true =>
  rw[hd]at h;have B:=(u.dtm hd s1.lim (aV _)).2;exact⟨s1.lim,s1.newT (n,e),B,u.freeT B,λq=>rfl,λq=>aFL s1 (n,e) q,⟨rfl,λ_=>⟨Nat.le_succ _,iD _⟩⟩,h⟩
theorem R.tokMove(h:R C.toCtx F g s w){w':World}{k N n b:Nat}{e:TypeId}{v v':Value}{xs:List Value}(n2:∀m,g.eta N m=none)
  (hk:∀j,j≠b->w'.heap[j]?=w.heap[j]?)(ht:s.getT k=some (n,e))(hv:g.eta k n=some v)(hb:v.ownBlock=some b)(b8:g.pi b=some xs)
  (U:w'.ownsRow 0 e (C.toCtx.sz e) v' n xs)(u:v'.ownBlock=some b)
  {s':St}(hO:∀q,s'.getO q=s.getO q)(hT:∀q,s'.getT q=if N=q then some (n,e) else if q=k then none else s.getT q)(hl:tJ C s s' N)(he:(w'.os,w'.output)=(w.os,w.output):=by rfl) :
  ∃g',g.le g'/\g'.eta N n=some v'/\g'.pi=g.pi/\R C.toCtx F g' s' w':=by
 have hF:F b=none:=by
  obtain⟨v1,bl,e1,_,_,h5⟩:=h.tok k n e ht;rw[hv]at e1;cases e1;exact(h5 b hb).2
 have b2:g.le { g with eta:=λH m=>if H=N/\m=n then some v' else g.eta H m } :=
  ⟨fun k pre hp => ⟨[],gQ hp⟩,fun t m x O => by
   have:¬ (t=N/\m=n):=by rintro⟨rfl,rfl⟩;rw[n2]at O;cases O
   simp only[this,↓reduceIte];exact O,λ_ _ h=>h,rfl⟩
 have bh:∀j,j<w.heap.size->j<w'.heap.size:=by
  intro j hj;by_cases B:j=b
  .subst B;rcases U.2 with⟨rfl,_⟩|⟨j',cap,b3,b6,_,hh,_⟩
   .cases u
   .rw[b6]at u;simp only[Value.ownBlock,bQ]at u;subst u;exact(jU.1 hh).1
  .have h2:=hk j B;rw[aBM hj]at h2;exact(jU.1 h2).1
 refine⟨_,b2,by simp,rfl,⟨?_,?_,?_,?_,?_,?_,?_,λc j hc=>bh j (h.bet c j hc),h.inj,?_,λx O=>(h.lst x (by rw[<-hl.1];exact O)).mono b2,h.bfr,he.trans h.env⟩⟩
 .intro c o ho;rw[hO]at ho;obtain⟨j,h0,z,h2,h3⟩:=h.obj c o ho;have:j≠b:=by rintro rfl;rw[b8]at h2;cases h2
  exact⟨j,h0,by rw[hk j this];exact z.mono b2,h2,h3⟩
 .intro H n' e' y;rw[hT]at y;by_cases htt:N=H
  .subst htt;simp only[↓reduceIte,bQ,mQ]at y;obtain⟨rfl,rfl⟩:=y;refine⟨v',xs,by simp,U,λm x O=>?_,λj hj=>?_⟩
   .by_cases hm:m=n
    .omega
    .simp only[hm,and_false,↓reduceIte]at O;rw[n2]at O;cases O
   .rw[u]at hj;cases hj;exact⟨b8,hF⟩
  .have b4:¬ H=N:=λe=>htt e.symm
   simp only[htt,↓reduceIte]at y;split at y
   .cases y
   .rename_i S;obtain⟨v2,bj,z,h2,h3,h4⟩:=h.tok H n' e' y;refine⟨v2,bj,?_,⟨h2.1,?_⟩,λm x O=>?_,h4⟩
    .simp only[b4,rP,↓reduceIte];exact z
    .rcases h2.2 with h5|⟨j,cap,b3,h5,h6,hh,rest⟩
     .exact .inl h5
     .refine .inr ⟨j,cap,b3,h5,h6,?_,rest⟩
      have:j≠b:=by
       rintro rfl;exact h.sep H k (n',e') (n,e) v2 v j S y ht z hv (by rw[h5];rfl) hb
      rw[hk j this];exact hh
    .simp only[b4,rP,↓reduceIte]at O;exact h3 m x O
 .intro t1 t2 bf bg v1 v2 j S z h2 e1 e2 o1 o2;rw[hT]at z h2;by_cases b7:N=t1
  .subst b7;have b0:¬ N=t2:=S;have Z:¬ t2=N:=λe=>S e.symm
   simp only[↓reduceIte,bQ]at z;subst z;simp only[kS,↓reduceIte,bQ]at e1;subst e1;simp only[b0,↓reduceIte]at h2;simp only[Z,rP,↓reduceIte]at e2;split at h2
   .cases h2
   .rename_i b9;rw[u]at o1;cases o1;exact h.sep t2 k bg (n,e) v2 v b b9 h2 ht e2 hv o2 hb
  .have bd:¬ t1=N:=λe=>b7 e.symm
   simp only[b7,↓reduceIte]at z;simp only[bd,rP,↓reduceIte]at e1;split at z
   .cases z
   .rename_i bc;by_cases b0:N=t2
    .subst b0;simp only[↓reduceIte,bQ]at h2;subst h2;simp only[kS,↓reduceIte,bQ]at e2;subst e2;rw[u]at o2;cases o2;exact h.sep t1 k bf (n,e) v1 v b bc z ht e1 hv o1 hb
    .have Z:¬ t2=N:=λe=>b0 e.symm
     simp only[b0,↓reduceIte]at h2;simp only[Z,rP,↓reduceIte]at e2;split at h2
     .cases h2
     .exact h.sep t1 t2 bf bg v1 v2 j S z h2 e1 e2 o1 o2
 .intro j pre hp;by_cases B:j=b
  .subst B;have bb:g.pi j=some pre:=hp;rw[b8]at bb;cases bb;rcases U.2 with⟨rfl,_⟩|⟨j',cap,b3,b6,_,hh,_,_,_,b5⟩
   .cases u
   .rw[b6]at u;simp only[Value.ownBlock,bQ]at u;subst u;refine⟨b3.toList.drop (n * C.toCtx.sz e),e,(0,0),?_⟩;rw[hh,<-b5];simp
  .rw[hk j B];exact h.pis j pre hp
 .intro j o ho;have B:j≠b:=by rintro rfl;rw[hF]at ho;cases ho
  rw[hk j B];exact h.frm j o ho
 .intro j cs hc;obtain⟨pre,ty,fr,hp,bk,z,hr⟩:=h.glb j cs hc;exact⟨pre,ty,fr,hp,bk,z,λj c v hc hv=>(hr j c v hc hv).mono b2⟩
 .obtain⟨M,hM⟩:=h.fsh;refine⟨max M (N+1),λH y=>⟨?_,λm=>?_,(hM H aC).2.2⟩⟩
  .rw[hT];have:¬ N=H:=by omega
   simp only[this,↓reduceIte];split
   .rfl
   .exact(hM H aC).1
  .have:¬ (H=N/\m=n):=by omega
   simp only[this,↓reduceIte];exact(hM H aC).2.1 m
 .intro hd c hc;obtain⟨l1,l2⟩:=hl.2 hd;obtain⟨d1,d2⟩:=h.dtm hd c aC;refine⟨d1,λm=>?_⟩;have:¬ (c=N/\m=n):=by omega
  simp only[this,↓reduceIte];exact d2 m
theorem aI5{KV Kp:St->A->Prop}(hR:R C.toCtx F g s w){t:Nat}{e:TypeId}{es:List A}{xs rest:List Value}{cap:Nat}{z:TI}(b4:C.tt e=some z)
  (h:∀y,y∈es->y.cells.length=z.sz)(Z:∀y,y∈es->∀c,c∈y.cells->c.one=true)(b0:Rzs g (flat es) xs)
  (B:es.length+1<=cap)(U:cap<=maxLen)(u:(xs++rest).length=cap * z.sz)
  {s':St}(hO:∀q,s'.getO q=s.getO q)(hT:∀q,s'.getT q=if t=q then some (es.length,e) else s.getT q)(hl:tJ C s s' t)
  (ht:s.getT t=none)(H:∀m,g.eta t m=none)
  (hK:KV s' (.pen t es z.sz)) :
  OutV C F g KV Kp (.ok (.value (.slice (some ⟨w.heap.size,0,none⟩) (es.length+1) cap)) (w.drew.alloc (.cells (xs++rest).toArray e))):=by
 have S:C.toCtx.sz e=z.sz:=xR b4;have b3:=yM h;have O:xs.length=es.length * z.sz:=by rw[b0.1,b3]
 have M:(w.drew.alloc (.cells (xs++rest).toArray e)).ownsRow 0 e (C.toCtx.sz e) (.slice (some ⟨w.heap.size,0,none⟩) es.length cap) es.length xs:=by
  rw[S];refine⟨O,.inr ⟨w.heap.size,cap,_,rfl,aU _,yJ w.drew _,by omega,U,gQ u,?_⟩⟩;rw[<-O];simp
 obtain⟨h1,h2⟩:=hR.tokStep (t:=t) (n:=es.length) (b:=w.heap.size) (w':=w.drew.alloc (.cells (xs++rest).toArray e)) (λk hk _=>wX w.drew _ hk) M rfl
  (λm x hx=>by rw[H]at hx;cases hx) hO hT hl (.inl ⟨rfl,.inl ht⟩)
 refine⟨_,_,_,h2,h1,.pen t es z.sz _ cap ?_ B h,hK⟩;refine yT (off:=0) (vs:=xs) (pre:=xs) (aAL _ _ _ _ _ _) bJ ?_ h Z aC U (aU _) (λt' b2=>by cases b2;exact yV _ _ _ _ _ _);rw[eG aC];exact b0.mono h2
theorem aVt{KV Kp:St->A->Prop}{ty:TypeId}{x y:Operand}{t u:TypeId}{z0 a:A}{ti:TI}{dst:Option Tmp}{pos:String}{after:Array Edge}{gd:Option (Nat × Bool)}
  (hR:R C.toCtx F g s w)(he:∀x a,ρ x=some a->Rz g a (ev x))(hx:ρ x=some a)(hy:ρ y=some (.hl z0))(f9:C.tt t=some ti)(h:aAo C s ti t u z0 KV a) :
  OutV C F g KV Kp ((execOp ev ⟨dst,.call ⟨.builtin .append,#[x,y],#[t,u]⟩,ty,pos,after,gd⟩).run C.P w):=by
 have M:(execOp ev ⟨dst,.call ⟨.builtin .append,#[x,y],#[t,u]⟩,ty,pos,after,gd⟩).run C.P w =
   ((Builtin.append_ #[t,u] ty #[ev x,ev y]).run C.P w).andThen λv w'=>.ok (.value v) w':=by
  simp only[execOp,resolve,invoke,builtin,bW,cI,bV,mE,bN,dI]
 unfold aAo at h;split at h;rotate_left
 .exact h.elim
 rename_i e hk;split at h;rotate_left
 .exact h.elim
 rename_i O bj;obtain⟨⟨rfl,ft,c4,cg⟩,h⟩:=h;obtain⟨d,hd,bz⟩:=jO f9;rw[hk]at bz;simp only[TK.ok]at bz;subst bz;obtain⟨i,z,hi,b5,cf,cd,cq⟩:=(C.htt e O bj).info;have bn:C.toCtx.sz e=O.sz:=xR bj;obtain⟨ad,bk,bg,c8⟩:=(he y _ hy).hl_inv;have f5:=c8.to_flat;obtain⟨fq,f8,bh,_,fd,_,ff⟩:=c8.list_inv;rw[bg]at bh;simp only[aG,aH,fH,sI,kS]at bh;obtain⟨rfl,rfl⟩:=bh;obtain⟨b2,H,f3,b0,cj,ch,fc,cp,f7,fk⟩:=ff.resolve_left bJ;simp only[bQ]at cj;subst cj;have cm:f3=O.sz:=by rw[<-cp z0 bJ,cg]
 subst cm;simp only[aG,aH,fH]at fc fd;obtain⟨ct,e2,fm,f1⟩:=hR.pis b2 b0 ch;have hnl:((b0.drop H).take (1 * O.sz)).length=1 * O.sz:=by rw[cQ,eC];omega
 have b3:∀j v,((b0.drop H).take (1 * O.sz))[j]?=some v->w.cell? ((⟨b2,H,none⟩:Addr).add j)=some v:=by
  intro j v hj;rw[oJ]at hj;split at hj
  .rw[qC]at hj;rw[mG];simp only[World.cell?,f1,Option.isSome_none,cE,↓reduceIte,pE];rw[lC (eF.1 hj).1];exact hj
  .simp at hj
 have bw:Rzs g (flat [z0]) ((b0.drop H).take (1 * O.sz)):=by
  obtain⟨a',c3,e1,_,_,e2⟩:=f5;rw[bg]at e1;rcases e2 with e2|⟨b',c9,bv,cl,e3,e4,e5,e6,e7,e8⟩
  .cases e2
  .subst e3;simp only[aG,aH,fH,sI,bQ,vJ,sQ,kS]at e1;obtain⟨⟨rfl,rfl⟩,rfl⟩:=e1;rw[ch]at e4;cases e4;have:bv=O.sz:=by rw[<-e6 z0 bJ,cg]
   rw[this]at e8;exact e8
 generalize fp:(b0.drop H).take (1 * O.sz)=news at *
 have bt:∀c,c∈flat [z0]->c.one=true:=by
  intro c hc;simp only[flat,List.mem_flatMap]at hc;obtain⟨q,hq,hc⟩:=hc;exact f7 q hq c hc
 have cz:∀v,v∈news->v.oneCell'=true:=bw.one bt
 have fb:z.cells.size=O.sz:=by
  have h1:=(cq g).1;rw[(C.htt e O bj).len]at h1;simpa using h1
 have bf:∀(n cap:Nat),n<=cap->(Builtin.zeroCells z.cells (cap-n)).toList.length+n * O.sz=cap * O.sz:=by
  intro n cap h;simp only[qA,aCV,fb,<-iL];congr 1;omega
 have U:(Builtin.append_ #[u,u] ty #[.slice none 0 0,ev y]).run C.P w=.ok (.slice (some ⟨w.heap.size,0,none⟩) 1 (grownCap w 1 0 e)) (w.drew.alloc (.cells (news.toArray++Builtin.zeroCells z.cells (grownCap w 1 0 e-1)) e)):=by
  rw[bg]
  exact run_append_nil (P:=C.P) w u ty e i z hd hi cd ⟨b2,H,none⟩ 1 bk news (by rw[hnl,b5]) b3 aC aC
    (by have:1 * i.bytes<=1 * 32768:=Nat.mul_le_mul (aV _) (by rw[cf];exact c4);omega)
 have bd:=sK w 1 0 e aC
 have Z:∀{s1:St},R C.toCtx F g s1 w->wM C s1 0 e [] O.sz KV->OutV C F g KV Kp (.ok (.value (.slice (some ⟨w.heap.size,0,none⟩) 1 (grownCap w 1 0 e))) (w.drew.alloc (.cells (news.toArray++Builtin.zeroCells z.cells (grownCap w 1 0 e-1)) e))):=by
  intro s1 b8 h1;obtain⟨N,s',m1,m2,m3,m4,m5,m6⟩:=aJQ b8 h1;rw[aHm]
  exact aI5 (KV:=KV) (Kp:=Kp) b8 (t:=N) bj (es:=[]) (xs:=[]) (rest:=news++(Builtin.zeroCells z.cells (grownCap w 1 0 e-1)).toList) (λy hy=>by cases hy) (λy hy=>by cases hy) (.nil g) (gQ bd.1) bd.2
   (by rw[bA,aI,hnl];have:=bf _ _ bd.1;omega) m3 m4 m5 m2 m1 m6
 split at h
 .have cb:=(he x _ hx).nils_inv;rw[M,cb,U];exact Z hR h
 .rename_i tk es;cases tk with
  | none=>exact h.elim
  | some k =>
  simp only at h;obtain⟨⟨h1,h2,h3⟩,h⟩:=h;obtain⟨ax,fh,cb,fv,fj,cr,f6⟩:=(he x _ hx).list_inv;obtain⟨v,xs,e1,m,fg,br⟩:=hR.tok k es.length e h1;have cn:v=ev x:=by have:=cr k rfl;rw[e1]at this;exact aAB this
  subst cn;rw[bn]at m
  have b8:R C.toCtx F g (s.delT k) w:=hR.weaken ⟨λb o ho=>ho,λq n hn=>by
   rw[sN]at hn;split at hn
   .cases hn
   .exact hn,λ_ h=>h⟩ (λ_=>aV _)
  have b9:∀y,y∈es->∀c,c∈y.cells->c.one=true:=by
   intro q hq c hc;rcases f6 with rfl|⟨b,off,sz,pre,_,_,_,_,ho,_⟩
   .cases hq
   .exact ho q hq c hc
  have bl:(es.length+1) * i.bytes<=140737488355328:=by
   have:(es.length+1) * i.bytes<=4294967296 * 32768:=Nat.mul_le_mul h3 (by rw[cf];exact c4);omega
  have bp:Rzs g (flat es) xs:=by
   obtain⟨a',c3,q1,_,_,q2⟩:=(he x _ hx).to_flat;rcases q2 with rfl|⟨b',c9,bv,cl,q3,q4,q5,q6,q7,q8⟩
   .have:xs=[]:=fW (gQ m.1);rw[this];exact .nil g
   .by_cases b7:es=[]
    .subst b7;have:xs=[]:=fW (gQ m.1);rw[this];exact .nil g
    .have ck:0<es.length:=by cases es with|nil=>exact cM rfl b7|cons=>simp
     have c7:bv=O.sz:=by rw[<-q6 _ (mP ck),h2 _ (mP ck)]
     subst q3;rcases m.2 with⟨hn,h0⟩|⟨g0,B,S,b6,_⟩
     .omega
     .have bm:=br g0 (by rw[b6];rfl);rw[b6]at q1;simp only[sI,bQ,vJ,sQ,kS]at q1;obtain⟨⟨rfl,rfl⟩,rfl⟩:=q1;rw[bm.1]at q4;cases q4;rw[c7,sL,eG (by rw[m.1];exact aV _)]at q8;exact q8
  rcases m.2 with⟨hn,h0⟩|⟨g0,B,S,b6,_,c2,fl,c5,hcs,bc⟩
  .have b7:es=[]:=fW h0;subst b7;rw[M,hn,U];exact Z b8 h
  .obtain⟨N,s',m1,m2,m3,m4,m5,m6⟩:=aJQ b8 h;by_cases b4:es.length+1<=B
   .have bq:es.length * i.size+news.length<=S.size:=by
     rw[hnl,b5,hcs,<-iL];exact pZ _ b4
    have bb:=run_append_room (P:=C.P) w u ty e i hd hi g0 es.length B S c2 ⟨b2,H,none⟩ 1 bk news (by rw[hnl,b5]) b3 cz b4 bq;rw[M,b6,bg,bb]
    have c6:(w.setRow g0 (S.toList.take (es.length * i.size)++news++S.toList.drop (es.length * i.size+news.length)).toArray).ownsRow 0 e (C.toCtx.sz e) (.slice (some ⟨g0,0,none⟩) es.length B) es.length xs:=by
     rw[bn,b5];refine⟨m.1,.inr ⟨g0,B,_,rfl,aU _,aAE c2 _,by omega,c5,?_,?_⟩⟩
     .rw[b5]at bq;simp only[List.size_toArray,aI,cQ,eC,qA];omega
     .rw[bc,bG];rw[<-m.1];exact List.take_left
    have bm:=br g0 (by rw[b6];rfl);obtain⟨g',r1,r2,r3,r4⟩:=hR.tokMove (k:=k) (N:=N) m1 (λj hj=>aAR hj _) h1 e1 (by rw[b6];rfl) bm.1 c6 rfl (s':=s') (λq=>m3 q) (λq=>by rw[m4,sN]) m5;refine⟨g',.pen N es O.sz,s',r1,r4,.pen N es O.sz g0 B ?_ b4 h2,m6⟩;refine yT (off:=0) (sz:=O.sz) (vs:=xs) (pre:=xs) (by rw[r3];exact bm.1) bJ ?_ h2 b9 aC c5 (aU _) (λt' f4=>by cases f4;exact r2);rw[eG (by rw[m.1];exact aV _)];exact bp.mono r1
   .have c1:∀j u,xs[j]?=some u->w.cell? ((⟨g0,0,none⟩:Addr).add j)=some u:=by
     intro j u hj;rw[mG];simp only[World.cell?,c2,Option.isSome_none,cE,↓reduceIte,fH];rw[<-bc,oJ]at hj;split at hj
     .simpa using hj
     .simp at hj
    have bb:=run_append_grow (P:=C.P) w u ty e i z hd hi cd ⟨g0,0,none⟩ es.length B xs (by rw[m.1,b5]) c1 ⟨b2,H,none⟩ 1 bk news (by rw[hnl,b5]) b3 aC aC (growslice_fits aC bl);have c0:=sK w (es.length+1) B e aC;rw[M,b6,bg,bb,aD9,bG]
    exact aI5 (KV:=KV) (Kp:=Kp) b8 (t:=N) bj (es:=es) (xs:=xs) (rest:=news++(Builtin.zeroCells z.cells (grownCap w (es.length+1) B e-(es.length+1))).toList) h2 b9 bp c0.1 c0.2
     (by rw[aI,aI,hnl,m.1];have:=bf _ _ c0.1;rw[iL]at this;omega) m3 m4 m5 m2 m1 m6
 .exact h.elim
theorem aLT(hR:R C.toCtx F g s w){a:A}{v:Value}(h:Rz g a v):Rz g (kB s a) v:=by
 cases a<;>try exact h
 rename_i t es sz;simp only[kB];cases hq:s.ls with
 | none=>exact h
 | some q =>
  simp only[aCA];split
  .rename_i H;obtain⟨h1,h2,h3⟩:=H;obtain⟨b,cap,rfl,hl,b2,hs⟩:=h.pen_inv;obtain⟨b',b4,pre,k1,k2,k3,k4,k5,k6,k7,k8⟩:=hR.lst q hq;rw[h1,h2]at k1 k2
   have Z:g.eta t es.length=some (.slice (some ⟨b,0,none⟩) es.length cap):=by
    obtain⟨_,_,_,_,_,h5,_⟩:=hl.list_inv;exact h5 _ rfl
   rw[Z]at k2;simp only[bQ,sI,vJ,sQ,kS]at k2;obtain⟨rfl,rfl⟩:=k2;rw[h2]at k6 k8;rw[h3]at k6 k8;have z:(es++[q.2.2]).length=es.length+1:=by simp
   rw[<-z];refine .list (some t) (es++[q.2.2]) b 0 sz cap pre k5 (by rw[z];omega) (by rw[z];omega) k4 (λy m=>?_) (λy m c H=>?_) (λj y i c u m H M=>?_) (λt' b0=>by cases b0;rw[z];exact k1)
   .rcases cZ.1 m with m|m
    .exact hs y m
    .simp only[cC]at m;subst m;exact h3
   .rcases cZ.1 m with m|m
    .obtain⟨_,_,_,_,_,_,O⟩:=hl.list_inv;rcases O with rfl|⟨_,_,_,_,_,_,_,_,ho,_⟩
     .cases m
     .exact ho y m c H
    .simp only[cC]at m;subst m;exact k7 c H
   .rw[fH]at M;by_cases hj:j<es.length
    .rw[lC hj]at m;obtain⟨_,_,q1,_,_,_,O⟩:=hl.list_inv;rcases O with rfl|⟨b3,b6,S,b5,rfl,p1,p2,p3,p4,p5⟩
     .simp at hj
     .simp only[sI,bQ,vJ,sQ,kS]at q1;obtain⟨⟨rfl,rfl⟩,rfl⟩:=q1;rw[k5]at p1;cases p1;have B:=bZ m;have:S=sz:=by rw[<-p3 y B,hs y B]
      subst this;exact p5 j y i c u m H (by rw[fH];exact M)
    .rw[pY aC]at m
     have U:j-es.length=0:=by
      rcases Nat.eq_zero_or_pos (j-es.length)with h|h
      .exact h
      .rw[sG (by simp;omega)]at m;cases m
     rw[U]at m;simp only[lM,bQ]at m;subst m;have:j=es.length:=by omega
     subst this;exact k8 i c u H M
  .exact h
theorem aVC{KV Kp:St->A->Prop}{t ty:TypeId}{x y:Operand}{k n z:Nat}{v:A}{ti:TI}{dst:Option Tmp}{pos:String}{after:Array Edge}{gd:Option (Nat × Bool)}
  (hR:R C.toCtx F g s w)(he:∀x a,ρ x=some a->Rz g a (ev x))(hx:ρ x=some (.rm k n z))(hy:ρ y=some v)(bh:C.tt t=some ti)(h:uW C s k n z ti v KV) :
  OutV C F g KV Kp ((execOp ev ⟨dst,.store t x y,ty,pos,after,gd⟩).run C.P w):=by
 unfold uW at h;split at h;rotate_left
 .exact h.elim
 rename_i m e ht;split at h;rotate_left
 .exact h.elim
 rename_i O bk;obtain⟨⟨rfl,rfl,h2,h3,h4⟩,hK⟩:=h;obtain⟨b,cap,hp,H,S⟩:=(he x _ hx).rm_inv;obtain⟨v0,xs,U,B,b4,b9⟩:=hR.tok k m e ht;rw[H]at U;cases U;have Z:C.toCtx.sz e=O.sz:=xR bk;rw[Z]at B;rcases B.2 with⟨hn,_⟩|⟨g0,bm,M,b7,_,bb,bn,b8,hcs,b2⟩
 .cases hn
 simp only[sI,bQ,vJ,sQ,kS]at b7;obtain⟨rfl,rfl⟩:=b7;have bg:=b9 b rfl;have hv:=he y _ hy;have b3:=hv.cells;have U:(ev y).cells.toList.length=O.sz:=by rw[b3.1,h3]
 have b0:∀c,c∈v.cells->c.one=true:=by simpa [gD]using h4
 have bj:m * O.sz+O.sz<=cap * O.sz:=by
  have:(m+1) * O.sz<=cap * O.sz:=pZ _ S
  rwa[iL,Nat.one_mul]at this
 have bf:=run_storeCells_at C.P b (m * O.sz) e (ev y).cells.toList 0 M w bb (by rw[U,hcs];omega) (b3.one b0)
 have b6:(Instr.storeAt t (ev x) (ev y)).run C.P w=.ok () (w.setRow b (M.toList.take (m * O.sz)++(ev y).cells.toList++M.toList.drop (m * O.sz+(ev y).cells.toList.length)).toArray):=by
  simp only[Instr.storeAt,Instr.sureAddr,hp,storeVar,bW,cI,bV,mT bh];rw[aB (by simp only[qA]at U;rw[U,h2];simp)];simpa using bf
 simp only[execOp];rw[aKX,b6]
 have b5:(w.setRow b (M.toList.take (m * O.sz)++(ev y).cells.toList++M.toList.drop (m * O.sz+(ev y).cells.toList.length)).toArray).ownsRow 0 e (C.toCtx.sz e) (.slice (some ⟨b,0,none⟩) (m+1) cap) (m+1) (xs++(ev y).cells.toList):=by
  rw[Z];refine⟨by rw[aI,B.1,U,iL,Nat.one_mul],.inr ⟨b,cap,_,rfl,aU _,aAE bb _,S,b8,?_,?_⟩⟩
  .simp only[List.size_toArray,aI,cQ,eC,qA]at *;omega
  .rw[b2];have:(m+1) * O.sz=(xs++(ev y).cells.toList).length:=by rw[aI,B.1,U,iL,Nat.one_mul]
   rw[this];simp only[bG];rw[<-bG];exact List.take_left
 have bc:tJ C s (s.setT k (m+1,e)) k:=⟨rfl,λhd=>⟨aV _,Nat.lt_of_not_le λbl=>by
  have:=(hR.dtm hd k bl).2 m;rw[this]at H;cases H⟩⟩
 obtain⟨r1,r2⟩:=hR.tokStep (t:=k) (b:=b) (λk hk bd=>aAR bd _) b5 rfl (λj x hx=>by have:=b4 j x hx;omega) (s':=s.setT k (m+1,e)) (λq=>rfl) (λq=>dM _ _ _ q) bc
  (.inr ⟨m,_,xs,(ev y).cells.toList,ht,H,rfl,bg.1,rfl⟩)
 refine⟨_,_,r2,r1.setL (λx hx=>?_),hK⟩;cases hx;refine⟨b,cap,_,yV _ _ _ _ _ _,?_,S,b8,aAL _ _ _ _ _ _,?_,b0,λj c u hc hu=>?_⟩
 .simp only[Gh.tok];rw[aB aC];exact H
 .simp only[h3,aI,B.1,U,iL,Nat.one_mul];exact aV _
 .dsimp only at hc hu;rw[pY (by rw[B.1,h3];omega),B.1,h3,Nat.add_sub_cancel_left]at hu;exact(b3.2 j c u hc hu).mono r2
theorem aT8{KV Kp:St->A->Prop}{t ty:TypeId}{x y:Operand}{dst:Option Tmp}{pos:String}{after:Array Edge}{gd:Option (Nat × Bool)}
  (hR:R C.toCtx F g s w)(he:∀x a,ρ x=some a->Rz g a (ev x))(h:bM C (.store t x y) ρ KV Kp s) :
  OutV C F g KV Kp ((execOp ev ⟨dst,.store t x y,ty,pos,after,gd⟩).run C.P w):=by
 simp only[bM]at h;split at h
 .rename_i b o v0 ti hx hy O;generalize b2:kB s v0=v at h;split at h
  .rename_i e cs hb;obtain⟨⟨h1,h2,h3⟩,hK⟩:=h;obtain⟨k,vs,rest,Z,hh,M,B⟩:=hR.cellsOf hb;obtain⟨k',hp,u⟩:=(he x _ hx).ptr_inv;rw[Z]at u;cases u;have hv:Rz g v (ev y):=by rw[<-b2];exact aLT hR (he y _ hy)
   have S:=hv.cells;have e1:(ev y).cells.toList.length=v.cells.length:=S.1;have e2:vs.length=cs.length:=M.1;have H:∀c,c∈v.cells->c.one=true:=by simpa [gD]using h3
   have b0:=run_storeCells_at C.P k o e (ev y).cells.toList 0 (vs++rest).toArray w hh (by simp;simp only[qA]at e1;omega) (S.one H)
   have U:(Instr.storeAt t (ev x) (ev y)).run C.P w=.ok () (w.setRow k ((vs++rest).take o++(ev y).cells.toList++(vs++rest).drop (o+(ev y).cells.toList.length)).toArray):=by
    simp only[Instr.storeAt,Instr.sureAddr,hp,storeVar,bW,cI,bV,mT O];rw[aB (by simp only[qA]at e1;omega)];simpa using b0
   simp only[execOp];rw[aKX,U];refine⟨g,_,iE g,hR.setObj hb Z (λk hk=>aAR hk _) ?_,hK⟩;rw[aAE hh];refine⟨vs.take o++(ev y).cells.toList++vs.drop (o+(ev y).cells.toList.length),rest,?_,?_,?_⟩
   .rw[List.take_append_of_le_length aC,List.drop_append_of_le_length aC];simp only[bG]
   .rw[aBS _ _ _ h2,e1];exact((M.take o).append S).append (M.drop _)
   .intro c m;rw[aBS _ _ _ h2]at m;simp only[cZ]at m;rcases m with(m|m)|m
    .exact B c (sH m)
    .exact H c m
    .exact B c (vE m)
  .exact h.elim
 .rename_i k n z v ti hx hy O;exact aVC hR he hx hy O h
 .exact h.elim
theorem aQo{KV Kp:St->A->Prop}{t ty:TypeId}{n:Nat}{parts:Array (Nat × Operand)}{dst:Option Tmp}{pos:String}{after:Array Edge}{gd:Option (Nat × Bool)}
  (hR:R C.toCtx F g s w)(he:∀x a,ρ x=some a->Rz g a (ev x))(hd:C.det=false)(h:cS C (.buildSlice t n parts) ρ (aBB C s t KV)) :
  OutV C F g KV Kp ((execOp ev ⟨dst,.buildSlice t n parts,ty,pos,after,gd⟩).run C.P w):=by
 obtain⟨ti,te,e,es,out,a,b3,hk,b5,H,⟨b6,b7⟩,U,b0,ha,M⟩:=aOl (dst:=dst) (ty:=ty) (pos:=pos) (after:=after) (gd:=gd) hR he h;rw[U];unfold aBB at M;split at M;rotate_left
 .exact M.elim
 rename_i tk u b8 B;obtain rfl:=ha tk u rfl;rw[b3]at B;cases B;rw[hk]at M;simp only at M;obtain⟨N,hN⟩:=hR.fsh;obtain⟨n1,n2,_⟩:=hN N (aV _);have S:C.toCtx.sz e=te.sz:=xR b5;have b4:=yM (λx z=>(H x z).1);have y:out.toList.length=u.length * te.sz:=by rw[b0.1,b4]
 have Z:u.length<=maxLen:=by unfold maxLen;omega
 have O:(w.alloc (.cells out e)).ownsRow 0 e (C.toCtx.sz e) (.slice (some ⟨w.heap.size,0,none⟩) u.length u.length) u.length out.toList:=by
  rw[S];refine⟨y,.inr ⟨w.heap.size,u.length,out,rfl,aU _,yJ w _,aV _,Z,gQ y,?_⟩⟩;rw[eG (by rw[y];exact aV _)]
 obtain⟨h1,h2⟩:=hR.tokStep (t:=N) (n:=u.length) (b:=w.heap.size) (w':=w.alloc (.cells out e)) (λk hk _=>wX w _ hk) O rfl (λm x z=>by rw[n2]at z;cases z)
  (s':=s.setT N (u.length,e)) (λq=>rfl) (λq=>dM _ _ _ q) ⟨rfl,λh=>by rw[hd]at h;cases h⟩ (.inl ⟨rfl,.inl n1⟩)
 refine⟨_,_,_,h2,h1,?_,M N n1⟩;refine yT (off:=0) (vs:=out.toList) (pre:=out.toList) (sz:=te.sz) (aAL _ _ _ _ _ _) bJ ?_ (λx z=>(H x z).1) (λx z=>(H x z).2) (aV _) Z (aU _) (λt' b2=>by cases b2;exact yV _ _ _ _ _ _);rw[eG (by rw[y];exact aV _)];exact b0.mono h2
theorem aF5{n:Nat}{e:TypeId}{sz:Nat}{ys:List A}{KV:St->A->Prop}(h:oC C s n e sz ys KV):newT C s n e ys KV\/(C.det=false/\Nat.beq C.mu 1=true/\0<n/\aEH s n e sz (flat ys) KV):=by
 unfold oC at h;split at h
 .exact .inl h
 .rename_i hd;split at h
  .exact .inl h
  .rename_i m;exact .inr ⟨hd,m,h.1,h.2⟩
theorem aSP{KV Kp:St->A->Prop}{ty:TypeId}{x y:Operand}{t u:TypeId}{dst:Option Tmp}{pos:String}{after:Array Edge}{gd:Option (Nat × Bool)}
  (hR:R C.toCtx F g s w)(he:∀x a,ρ x=some a->Rz g a (ev x))(h:bM C (.call ⟨.builtin .append,#[x,y],#[t,u]⟩) ρ KV Kp s) :
  OutV C F g KV Kp ((execOp ev ⟨dst,.call ⟨.builtin .append,#[x,y],#[t,u]⟩,ty,pos,after,gd⟩).run C.P w):=by
 simp only[bM]at h;split at h;rotate_left
 .rename_i a bs ti hx hy bh;split at h
  .rename_i e hE;exact aUN hR he hx hy bh hE h
  .exact h.elim
 .rename_i a n ti hx hy bh;exact aUz hR he hx hy bh h
 .rename_i a ti hx hy bh;exact aNb hR he hx (he y _ hy).nils_inv bh h
 .rename_i a ti hx hy bh;obtain⟨ad,hv⟩:=(he y _ hy).emp_inv;exact aNb hR he hx hv bh h
 .rename_i a z0 ti hx hy bh;exact aVt hR he hx hy bh h
 .exact h.elim
 rename_i a gh ys ti hx hy bh;split at h;rotate_left
 .exact h.elim
 rename_i e hk;split at h;rotate_left
 .exact h.elim
 rename_i Z bf;obtain⟨⟨rfl,g9,c5⟩,bz,h⟩:=h;unfold oB at h;obtain⟨d,hd,cp⟩:=jO bh;rw[hk]at cp;simp only[TK.ok]at cp;subst cp;obtain⟨i,z,hi,b8,cb,c2,c6⟩:=(C.htt e Z bf).info
 have M:(execOp ev ⟨dst,.call ⟨.builtin .append,#[x,y],#[u,u]⟩,ty,pos,after,gd⟩).run C.P w =
   ((Builtin.append_ #[u,u] ty #[ev x,ev y]).run C.P w).andThen λv w'=>.ok (.value v) w':=by
  simp only[execOp,resolve,invoke,builtin,bW,cI,bV,mE,bN,dI]
 have cd:C.toCtx.sz e=Z.sz:=xR bf;have cl:∀c,c∈Z.zero->c.one=true:=(C.htt e Z bf).one
 obtain⟨ad,b3,bc,_,gj,_,fx⟩:=(he y _ hy).list_inv;have fq:=(he y _ hy).to_flat;by_cases c4:ys=[]
 .subst c4;simp only[aH]at bc;split at h
  .obtain⟨_,h⟩:=h
   have h:newT C s 0 e [] KV:=by
    rcases aF5 h with h|⟨_,_,h,_⟩
    .exact h
    .exact cM h bJ
   have b6:=(he x _ hx).nils_inv;have B:=aCU C.P w u u ty e i hd hd hi none ad 0 0 b3 (aV _);rw[M,b6,bc,B];obtain⟨N,s',m1,m2,m3,m4,m5,m6⟩:=aDt hR h;obtain⟨g',h2,h3,h4⟩:=hR.tokNil e m1 m3 m4 m5;exact⟨g',_,_,h2,h4,.list0 (some N) none 0 (aU _) (λt' cm=>by cases cm;exact h3),m6⟩
  .obtain⟨ax,b6⟩:=(he x _ hx).emp_inv;have B:=aCU C.P w u u ty e i hd hd hi (some ax) ad 0 0 b3 (aV _);rw[M,b6,bc,B];exact⟨g,.emp,s,iE g,hR,.emp ax,h⟩
  .unfold uI at h;split at h
   .obtain⟨⟨_,_,_,_,_,h⟩,_⟩:=h;exact cM h bJ
   .exact h.elim
  .rename_i t es;obtain⟨h1,h2,h3,hK⟩:=h;obtain⟨ax,cap,b6,_,hc,_⟩:=(he x _ hx).list_inv;have B:=aCU C.P w u u ty e i hd hd hi ax ad es.length cap b3 hc;rw[M,b6,bc,B];have f6:=he x _ hx;rw[b6]at f6;refine⟨g,.list (some t) es,_,iE g,hR.weaken (s':=s.setT t (es.length,e)) ⟨λb o ho=>ho,λk n hn=>?_,λ_ h=>h⟩ (λ_=>aV _),f6,gQ hK⟩;rw[dM]at hn;by_cases c7:t=k
   .subst c7;simp only[↓reduceIte]at hn;rw[h1];exact hn
   .simpa only[c7,↓reduceIte]using hn
  .exact h.elim
 .obtain⟨b2,U,fp,bm,rfl,fb,gg,fj,c3,g4⟩:=fx.resolve_left c4;have bn:0<ys.length:=by cases ys with|nil=>exact cM rfl c4|cons=>simp
  have fg:fp=Z.sz:=by
   have hm:=mP bn;rw[<-fj _ hm,bz _ hm]
  subst fg;obtain⟨fl,e2,g5,fm⟩:=hR.pis b2 bm fb;have hnl:((bm.drop U).take (ys.length * Z.sz)).length=ys.length * Z.sz:=by rw[cQ,eC];omega
  have b4:∀j v,((bm.drop U).take (ys.length * Z.sz))[j]?=some v->w.cell? ((⟨b2,U,none⟩:Addr).add j)=some v:=by
   intro j v hj;rw[oJ]at hj;split at hj
   .rw[qC]at hj;rw[mG];simp only[World.cell?,fm,Option.isSome_none,cE,↓reduceIte,pE];rw[lC (eF.1 hj).1];exact hj
   .simp at hj
  have O:Rzs g (flat ys) ((bm.drop U).take (ys.length * Z.sz)):=by
   obtain⟨a',ct,e1,_,_,e2⟩:=fq;rw[bc]at e1;rcases e2 with e2|⟨b',f7,ck,ff,e3,e4,e5,e6,e7,e8⟩
   .exact cM e2 c4
   .subst e3;simp only[sI,bQ,vJ,sQ,kS]at e1;obtain⟨⟨rfl,rfl⟩,rfl⟩:=e1;rw[fb]at e4;cases e4;have:ck=Z.sz:=by rw[<-e6 _ (mP bn),bz _ (mP bn)]
    rw[this]at e8;exact e8
  generalize g8:(bm.drop U).take (ys.length * Z.sz)=news at *
  have bd:∀c,c∈flat ys->c.one=true:=by
   intro c hc;simp only[flat,List.mem_flatMap]at hc;obtain⟨q,hq,hc⟩:=hc;exact c3 q hq c hc
  have f1:∀v,v∈news->v.oneCell'=true:=O.one bd
  have fw:z.cells.size=Z.sz:=by
   have h1:=(c6 g).1;rw[(C.htt e Z bf).len]at h1;simpa using h1
  have bj:∀(n cap:Nat),n<=cap->(Builtin.zeroCells z.cells (cap-n)).toList.length+n * Z.sz=cap * Z.sz:=by
   intro n cap h;simp only[qA,aCV,fw,<-iL];congr 1;omega
  split at h
  ·
   obtain⟨bv,h⟩:=h;have b6:=(he x _ hx).nils_inv
   have B:=run_append_nil (P:=C.P) w u ty e i z hd hi c2 ⟨b2,U,none⟩ ys.length b3 news (by rw[hnl,b8]) b4 bn aC
    (by have:ys.length * i.bytes<=4294967296 * 32768:=Nat.mul_le_mul bv (by rw[cb];exact c5);omega)
   have H:=sK w ys.length 0 e aC;rw[M,b6,bc,B,aHm];rcases aF5 h with h|⟨bk,_,_,h⟩
   rotate_left
   .obtain⟨J,j1,j2,j3⟩:=aHN c6 cl (grownCap w ys.length 0 e-ys.length);exact aFR hR bk O (j3 g) bd j2 H.1 H.2 (λb hb=>h b _ J hb H.1 (by rw[j1,(C.htt e Z bf).len]) j2)
   obtain⟨N,s',n2,n1,m3,m4,m5,m6⟩:=aDt hR h
   have:=yU (KV:=KV) (Kp:=Kp) hR (t:=N) bf (rest:=(Builtin.zeroCells z.cells (grownCap w ys.length 0 e-ys.length)).toList) bz c3 O H.1 H.2
    (by rw[aI,hnl];have:=bj _ _ H.1;omega) m3 m4 m5 (.inl n1) (λm x hx=>by rw[n2]at hx;cases hx) m6
   exact this
  ·
   have h:(ys.length<=4294967296/\0<ys.length)/\oC C s ys.length e Z.sz ys KV:=by
    cases ys with
    | nil=>exact cM rfl c4
    | cons y r=>exact h
   obtain⟨⟨bv,_⟩,h⟩:=h;obtain⟨ae,b6⟩:=(he x _ hx).emp_inv
   have B:=run_append_grow (P:=C.P) w u ty e i z hd hi c2 ae 0 0 [] bJ (λj u hj=>by simp at hj) ⟨b2,U,none⟩ ys.length b3 news (by rw[hnl,b8]) b4 aC aC (growslice_fits aC (by
    have:(0+ys.length) * i.bytes<=4294967296 * 32768:=Nat.mul_le_mul aC (by rw[cb];exact c5);omega))
   have H:=sK w ys.length 0 e aC;rw[M,b6,bc,B];simp only[fH,bA];rw[show((#[]:Array Value)++news.toArray++Builtin.zeroCells z.cells (grownCap w ys.length 0 e-ys.length))=(news++(Builtin.zeroCells z.cells (grownCap w ys.length 0 e-ys.length)).toList).toArray by apply Array.ext';simp];rcases aF5 h with h|⟨bk,_,_,h⟩
   rotate_left
   .obtain⟨J,j1,j2,j3⟩:=aHN c6 cl (grownCap w ys.length 0 e-ys.length);exact aFR hR bk O (j3 g) bd j2 H.1 H.2 (λb hb=>h b _ J hb H.1 (by rw[j1,(C.htt e Z bf).len]) j2)
   obtain⟨N,s',n2,n1,m3,m4,m5,m6⟩:=aDt hR h
   have:=yU (KV:=KV) (Kp:=Kp) hR (t:=N) bf (rest:=(Builtin.zeroCells z.cells (grownCap w ys.length 0 e-ys.length)).toList) bz c3 O H.1 H.2
    (by rw[aI,hnl];have:=bj _ _ H.1;omega) m3 m4 m5 (.inl n1) (λm x hx=>by rw[n2]at hx;cases hx) m6
   exact this
  ·
   rename_i mb mn b5;unfold uI at h;split at h;rotate_left
   .exact h.elim
   rename_i e' cs cz;obtain⟨⟨bk,rfl,f9,f8,bv,_⟩,h⟩:=h;obtain⟨k,b6,cn,_,c8⟩:=(he x _ hx).mg_inv;obtain⟨k',vs,rest,cf,hh,c9,bt⟩:=hR.cellsOf cz;rw[cn]at cf;cases cf;have g2:vs.length=b5 * Z.sz:=by rw[c9.1,f9]
   have gb:mn * Z.sz<=b5 * Z.sz:=pZ _ f8
   have b7:(mn+ys.length) * i.bytes<=140737488355328:=by
    have:(mn+ys.length) * i.bytes<=4294967296 * 32768:=Nat.mul_le_mul bv (by rw[cb];exact c5);omega
   by_cases S:mn+ys.length<=b5
   .have g7:mn * Z.sz+ys.length * Z.sz<=b5 * Z.sz:=by rw[<-iL];exact pZ _ S
    have bw:mn * i.size+news.length<=(vs++rest).toArray.size:=by
     rw[hnl,b8];simp only[List.size_toArray,aI];omega
    have B:=run_append_room (P:=C.P) w u ty e' i hd hi k mn b5 (vs++rest).toArray hh ⟨b2,U,none⟩ ys.length b3 news (by rw[hnl,b8]) b4 f1 S bw;rw[M,b6,bc,B];have hK:=h mb b5 (cs.drop (mn * Z.sz+ys.length * Z.sz)) (.inl ⟨rfl,rfl⟩) S (by rw[eC,f9,<-iL,<-Nat.sub_mul]) (λc hc=>bt c (vE hc));refine⟨g,_,_,iE g,hR.setObj cz cn (λj hj=>aAR hj _) ?_,.mg mb _ _ k cn S c8,hK⟩;rw[aAE hh];refine⟨vs.take (mn * Z.sz)++(news++vs.drop (mn * Z.sz+ys.length * Z.sz)),rest,?_,(c9.take _).append (O.append (c9.drop _)),λc hc=>?_⟩
    .rw[hnl,b8,List.toList_toArray,List.take_append_of_le_length aC,List.drop_append_of_le_length aC];simp only[bG]
    .rcases cZ.1 hc with hc|hc
     .exact bt c (sH hc)
     .rcases cZ.1 hc with hc|hc
      .exact bd c hc
      .exact bt c (vE hc)
   .have bq:∀j u,(vs.take (mn * Z.sz))[j]?=some u->w.cell? ((⟨k,0,none⟩:Addr).add j)=some u:=by
     intro j u hj;rw[mG];simp only[World.cell?,hh,Option.isSome_none,cE,↓reduceIte,fH];rw[oJ]at hj;split at hj
     .simp only[pE];rw[lC (eF.1 hj).1];exact hj
     .simp at hj
    have B:=run_append_grow (P:=C.P) w u ty e' i z hd hi c2 ⟨k,0,none⟩ mn b5 (vs.take (mn * Z.sz)) (by rw[cQ,b8];omega) bq ⟨b2,U,none⟩ ys.length b3 news (by rw[hnl,b8]) b4 aC aC (growslice_fits aC b7);have H:=sK w (mn+ys.length) b5 e' aC;rw[M,b6,bc,B,aD9];obtain⟨J,j1,j2,j3⟩:=aHN c6 cl (grownCap w (mn+ys.length) b5 e'-(mn+ys.length));refine aFR hR bk ((c9.take _).append O) (j3 g) (λc hc=>?_) j2 H.1 H.2 (λb hb=>?_)
    .rcases cZ.1 hc with hc|hc
     .exact bt c (sH hc)
     .exact bd c hc
    .have:=h b _ J (.inr hb) H.1 (by rw[j1,(C.htt e' Z bf).len]) j2;rw[bG];exact this
  ·
   rename_i t es;obtain⟨h1,h2,h3,hK⟩:=h;obtain⟨ax,g1,b6,gc,g3,c7,ft⟩:=(he x _ hx).list_inv;obtain⟨v,xs,e1,b0,f3,ch⟩:=hR.tok t es.length e h1;have fh:v=ev x:=by have:=c7 t rfl;rw[e1]at this;exact aAB this
   subst fh;rw[cd]at b0
   have bk:tJ C s (s.setT t (es.length+ys.length,e)) t:=⟨rfl,λhd=>⟨aV _,Nat.lt_of_not_le λfv=>by
    have:=(hR.dtm hd t fv).2 es.length;rw[this]at e1;cases e1⟩⟩
   have bp:∀m x,g.eta t m=some x->m<(es++ys).length:=λm x hx=>by have:=f3 m x hx;simp;omega
   have c0:∀y,y∈es++ys->∀c,c∈y.cells->c.one=true:=by
    intro q hq c hc;rcases cZ.1 hq with hq|hq
    .rcases ft with rfl|⟨b,off,sz,pre,_,_,_,_,ho,_⟩
     .cases hq
     .exact ho q hq c hc
    .exact c3 q hq c hc
   have cg:∀y,y∈es++ys->y.cells.length=Z.sz:=by
    intro q hq;rcases cZ.1 hq with hq|hq
    .exact h2 q hq
    .exact bz q hq
   have b9:(es++ys).length=es.length+ys.length:=by simp
   have b7:(es.length+ys.length) * i.bytes<=140737488355328:=by
    have:(es.length+ys.length) * i.bytes<=4294967296 * 32768:=Nat.mul_le_mul h3 (by rw[cb];exact c5);omega
   have fc:Rzs g (flat es) xs:=by
    obtain⟨a',ct,q1,_,_,q2⟩:=(he x _ hx).to_flat;rcases q2 with rfl|⟨b',f7,ck,ff,q3,q4,q5,q6,q7,q8⟩
    .have:xs=[]:=fW (gQ b0.1);rw[this];exact .nil g
    .by_cases bg:es=[]
     .subst bg;have:xs=[]:=fW (gQ b0.1);rw[this];exact .nil g
     .have fd:0<es.length:=by cases es with|nil=>exact cM rfl bg|cons=>simp
      have f5:ck=Z.sz:=by rw[<-q6 _ (mP fd),h2 _ (mP fd)]
      subst q3;rcases b0.2 with⟨hn,h0⟩|⟨g0,bb,bl,br,_⟩
      .omega
      .have cq:=ch g0 (by rw[br];rfl);rw[br]at q1;simp only[sI,bQ,vJ,sQ,kS]at q1;obtain⟨⟨rfl,rfl⟩,rfl⟩:=q1;rw[cq.1]at q4;cases q4;rw[f5,sL,eG (by rw[b0.1];exact aV _)]at q8;exact q8
   have cj:Rzs g (flat (es++ys)) (xs++news):=by rw[aI6];exact fc.append O
   rcases b0.2 with⟨hn,h0⟩|⟨g0,bb,bl,br,_,cr,f8,c8,hcs,c1⟩
   ·
    have bg:es=[]:=fW h0
    have B:=run_append_nil (P:=C.P) w u ty e i z hd hi c2 ⟨b2,U,none⟩ ys.length b3 news (by rw[hnl,b8]) b4 bn aC
     (by rw[bg]at b7;simp only[aH,fH]at b7;omega)
    have H:=sK w ys.length 0 e aC;rw[M,hn,bc,B,aHm]
    have:=yU (KV:=KV) (Kp:=Kp) hR (t:=t) bf (rest:=(Builtin.zeroCells z.cells (grownCap w ys.length 0 e-ys.length)).toList) bz c3 O H.1 H.2
     (by rw[aI,hnl];have:=bj _ _ H.1;omega) (s':=s.setT t (es.length+ys.length,e)) (λq=>rfl) (λq=>by rw[dM];simp[bg]) bk (.inr ⟨_,h1⟩) (by simpa [bg]using bp) (by simpa [bg]using hK)
    exact this
   .by_cases S:es.length+ys.length<=bb
    .have bw:es.length * i.size+news.length<=bl.size:=by
      rw[hnl,b8,hcs,<-iL];exact pZ _ S
     have B:=run_append_room (P:=C.P) w u ty e i hd hi g0 es.length bb bl cr ⟨b2,U,none⟩ ys.length b3 news (by rw[hnl,b8]) b4 f1 S bw;rw[M,br,bc,B]
     have f4:(w.setRow g0 (bl.toList.take (es.length * i.size)++news++bl.toList.drop (es.length * i.size+news.length)).toArray).ownsRow 0 e (C.toCtx.sz e) (.slice (some ⟨g0,0,none⟩) (es.length+ys.length) bb) (es.length+ys.length) (xs++news):=by
      rw[cd,b8];refine⟨by rw[aI,b0.1,hnl,iL],.inr ⟨g0,bb,_,rfl,aU _,aAE cr _,S,c8,?_,?_⟩⟩
      .rw[b8]at bw;simp only[List.size_toArray,aI,cQ,eC,qA];omega
      .rw[c1];have:(es.length+ys.length) * Z.sz=(xs++news).length:=by rw[aI,b0.1,hnl,iL]
       rw[this];simp only[bG];rw[<-bG];exact List.take_left
     have cq:=ch g0 (by rw[br];rfl);obtain⟨r1,r2⟩:=hR.tokStep (t:=t) (b:=g0) (λk hk fk=>aAR fk _) f4 rfl (gQ bp) (s':=s.setT t (es.length+ys.length,e)) (λq=>rfl) (λq=>dM _ _ _ q) bk (.inr ⟨es.length,ev x,xs,news,h1,e1,by rw[br];rfl,cq.1,rfl⟩);refine⟨_,.list (some t) (es++ys),_,r2,r1,?_,hK⟩;rw[<-b9];refine yT (off:=0) (sz:=Z.sz) (vs:=xs++news) (pre:=xs++news) (by rw[b9];exact aAL _ _ _ _ _ _) bJ ?_ cg c0 (by rw[b9];exact S) c8 (aU _) (λt' cm=>by cases cm;rw[b9];exact yV _ _ _ _ _ _);rw[eG (by rw[aI,b0.1,hnl,b9,iL];exact aV _)];rw[b9]at *;exact cj.mono r2
    .have bq:∀j u,xs[j]?=some u->w.cell? ((⟨g0,0,none⟩:Addr).add j)=some u:=by
      intro j u hj;rw[mG];simp only[World.cell?,cr,Option.isSome_none,cE,↓reduceIte,fH];rw[<-c1,oJ]at hj;split at hj
      .simpa using hj
      .simp at hj
     have B:=run_append_grow (P:=C.P) w u ty e i z hd hi c2 ⟨g0,0,none⟩ es.length bb xs (by rw[b0.1,b8]) bq ⟨b2,U,none⟩ ys.length b3 news (by rw[hnl,b8]) b4 aC aC (growslice_fits aC b7);have H:=sK w (es.length+ys.length) bb e aC;rw[M,br,bc,B,aD9]
     have:=yU (KV:=KV) (Kp:=Kp) hR (t:=t) bf (es:=es++ys) (rest:=(Builtin.zeroCells z.cells (grownCap w (es.length+ys.length) bb e-(es.length+ys.length))).toList) cg c0 cj (by rw[b9];exact H.1) H.2
      (by rw[aI,aI,hnl,b0.1];have:=bj _ _ H.1;rw[iL]at this;omega) (s':=s.setT t (es.length+ys.length,e)) (λq=>rfl) (λq=>by rw[dM,b9]) bk (.inr ⟨_,h1⟩) bp hK
     rw[b9]at this;exact this
  .exact h.elim
end
end
section
section
variable {C:Cx} {F:Fr} {g:Gh} {s:St} {w:World} {ρ:Operand->Option A} {ev:Operand->Value}
theorem aIt{t:TypeId}{v:Value}(P:Program)(w:World):(Instr.panic (.iface t v)).run P w=.halt (.panic (.iface t v)) w:=rfl
theorem aMI{KV Kp:St->A->Prop}{op:Op}{ty:TypeId}{dst:Option Tmp}{pos:String}{after:Array Edge}{gd:Option (Nat × Bool)}
  (B:R C.toCtx F g s w)(z:∀x a,ρ x=some a->Rz g a (ev x))(h:bM C op ρ KV Kp s) :
  OutV C F g KV Kp ((execOp ev ⟨dst,op,ty,pos,after,gd⟩).run C.P w):=by
 cases op
 case load=>exact aUW B z h
 case store=>exact aT8 B z h
 case alloc=>exact aTX B h
 case box=>exact aVH B z h
 case buildSlice t len parts =>
  simp only[bM]at h;split at h
  .exact qK (uD B z h)
  .rename_i ho;rcases h with h|h
   .exact qK (uD B z h)
   .refine aQo B z ?_ h;unfold aCy at ho;split at ho
    .cases ho
    ·assumption
 case range=>exact aTT B z h
 case makeSlice=>exact aPh B z h
 case convert=>exact aQG B z h
 case next=>exact aVs B z h
 case panic x =>
  simp only[bM]at h;split at h
  .rename_i t a O;obtain⟨v,M,hr⟩:=(z x _ O).iface_inv;simp only[execOp,M,bW,aIt,Result.andThen_halt];exact⟨g,_,s,iE g,B,.iface t a v hr,h⟩
  .exact h.elim
 case call c =>
  obtain⟨b2,args,H⟩:=c;cases b2 with
  | value f =>
   simp only[bM]at h;split at h
   .rename_i b4 first b3 az hf has
    obtain⟨us,vs,M,r1,r2⟩:=(z f _ hf).fn_inv;have r3:=aDE z has;have hd:=h F g w _ B ((r1.append r3).append r2);have e1:args.map ev=(args.toList.map ev).toArray:=by rw[<-mE,Array.toArray_toList]
    simp only[execOp,resolve,M,Deferred.ofValue,bW,cI,bV,invoke,e1];simpa using hd
   .exact h.elim
  | invoke r m=>exact qK (uD B z h)
  | builtin b =>
   by_cases U:b=.append
   .subst U;obtain⟨S⟩:=args;obtain⟨Z⟩:=H
    match S,Z,h with
    | [x,y],[t,u],h=>exact aSP B z h
    | [],_,h=>simp only[bM]at h
    | [_],_,h=>simp only[bM]at h
    | _::_::_::_,_,h=>simp only[bM]at h
    | [_,_],[],h=>simp only[bM]at h
    | [_,_],[_],h=>simp only[bM]at h
    | [_,_],_::_::_::_,h=>simp only[bM]at h
   .by_cases hu:b=.unsafeString
    .subst hu;obtain⟨S⟩:=args;obtain⟨Z⟩:=H
     match S,Z,h with
     | [x,y],[t,u],h=>exact aUO B z h
     | [],_,h=>simp only[bM]at h
     | [_],_,h=>simp only[bM]at h
     | _::_::_::_,_,h=>simp only[bM]at h
     | [_,_],[],h=>simp only[bM]at h
     | [_,_],[_],h=>simp only[bM]at h
     | [_,_],_::_::_::_,h=>simp only[bM]at h
    by_cases hp:b=.panic
    .subst hp;simp only[bM]at h;split at h
     .rename_i x O;split at h
      .rename_i t a b0;obtain⟨v,M,hr⟩:=(z x _ b0).iface_inv;obtain⟨S⟩:=args;simp only at O;subst O;simp only[execOp,resolve,invoke,builtin,bW,cI,bV,mE,bN,dI,M,aFw,pE,lM,Option.getD_some,aIt,Result.andThen_halt];exact⟨g,_,s,iE g,B,.iface t a v hr,h⟩
      .exact h.elim
     .exact h.elim
    .have h':cS C (.call ⟨.builtin b,args,H⟩) ρ (KV s):=by
      cases b<;>first|exact cM rfl U|exact cM rfl hp|exact cM rfl hu|exact h
     exact qK (uD B z h')
 case binOp op t x y yt =>
  cases op
  case eql =>
   simp only[bM]at h;split at h
   .rename_i tk ha U;rcases h with h|⟨hn,ht,hf⟩
    .exact qK (uD B z h)
    .refine qK (s:=s) ?_;have ra:=z x _ ha;have rb:=z y _ U;simp only[execOp];obtain⟨ad,cap,M,_⟩:=ra.list_inv;rw[M,rb.nils_inv];obtain⟨r,h1,h2⟩:=C.hnl t hn ad _ cap w .eql x y (.inl rfl);rw[aF rfl]at h2;have hK:KV s (.bool r):=by cases r<;>assumption
     refine fJ (v:=.bool r) B ?_ (.bool _) hK;rw[bW,h1,bV,h2]
   .exact qK (uD B z h)
  all_goals exact qK (uD B z h)
 all_goals exact qK (uD B z h)
end
structure EnvOk (g:Gh) (n:Nat) (e:Env) (tmps:Array Value):Prop where
 size:tmps.size=n
 val:∀t a,e.get t=some a->∃v,tmps[t]?=some v/\Rz g a v
theorem EnvOk.mono{g m:Gh}(u:g.le m){n:Nat}{e:Env}{tmps:Array Value}(h:EnvOk g n e tmps):EnvOk m n e tmps :=
 ⟨h.size,λt a z=>let⟨v,y,h2⟩:=h.val t a z;⟨v,y,h2.mono u⟩⟩
theorem EnvOk.nil{g:Gh}{n:Nat}{tmps:Array Value}(h:tmps.size=n):EnvOk g n [] tmps:=⟨h,λt a m=>by cases m⟩
theorem EnvOk.sub{g:Gh}{n:Nat}{e e':Env}{tmps:Array Value}(h:EnvOk g n e tmps)(m:∀t a,e'.get t=some a->e.get t=some a):EnvOk g n e' tmps :=
 ⟨h.size,λt a u=>h.val t a (m t a u)⟩
theorem EnvOk.put{g:Gh}{n:Nat}{e:Env}{a:Act}{d:Nat}{x:A}{v:Value}(h:EnvOk g n e a.tmps)(hd:d<n)(B:Rz g x v) :
  EnvOk g n (e.put d x) (a.put (some d) v).tmps:=by
 refine⟨by simp[Act.put,h.size],λt y m=>?_⟩;rw[nQ]at m;show∃u,(a.tmps.setIfInBounds d v)[t]?=some u/\_
 by_cases z:d=t
 .subst z;simp only[↓reduceIte,bQ]at m;subst m;exact⟨v,by simp[Array.getElem?_setIfInBounds,h.size,hd],B⟩
 .simp only[z,↓reduceIte]at m;obtain⟨u,H,h2⟩:=h.val t y m;exact⟨u,by rw[aCP z];exact H,h2⟩
theorem EnvOk.del{g:Gh}{n:Nat}{e:Env}{a:Act}{d:Nat}{v:Value}(h:EnvOk g n e a.tmps) :
  EnvOk g n (e.del d) (a.put (some d) v).tmps:=by
 refine⟨by simp[Act.put,h.size],λt y m=>?_⟩;rw[aI0]at m;show∃u,(a.tmps.setIfInBounds d v)[t]?=some u/\_
 by_cases z:d=t
 .simp[z]at m
 .simp only[z,↓reduceIte]at m;obtain⟨u,B,h2⟩:=h.val t y m;exact⟨u,by rw[aCP z];exact B,h2⟩
theorem EnvOk.oper{C:Cx}{F:Fr}{g:Gh}{s:St}{w:World}{n:Nat}{e:Env}{a:Act}(M:R C.toCtx F g s w)(h:EnvOk g n e a.tmps) :
  ∀x v,fC C e x=some v->Rz g v (a.eval x):=by
 intro x v m;cases x with
 | tmp t =>
  obtain⟨u,y,h2⟩:=h.val t v m;simpa [Act.eval,aFw,y]using h2
 | const c=>exact aRe m
 | global k =>
  simp only[fC]at m;split at m
  .rename_i cs hcs;simp only[bQ]at m;subst m;obtain⟨pre,_,_,_,B,hl,y,H⟩:=M.gpi hcs;exact .eptr cs 0 k 0 pre B aC y (λj c v z m=>H j c v z (gQ m))
  .simp at m
 | func f =>
  simp only[fC,bQ]at m;subst m;exact .fn f [] [] [] [] rfl rfl bJ bJ
inductive XK where
 | normal
 | exit (id:Nat)
 | goto (l:Nat)
 | ret
 | panic (a:A)
def XRz(g:Gh):XK->Exit->Prop
 | .normal,.normal=>True
 | .exit i,.exit j=>i=j
 | .goto i,.goto j=>i=j
 | .ret,.ret=>True
 | .panic a,.panic nE=>∃v,nE=[{ v:=v,recovered:=false }]/\Rz g a v
 | _,_=>False
def Post(C:Cx)(F:Fr)(g:Gh)(n:Nat)(D:List Deferred)(Q:XK->Env->St->Prop)(m:Exit)(a:Act)(w:World):Prop :=
 ∃h e s x,g.le h/\R C.toCtx F h s w/\EnvOk h n e a.tmps/\a.defers=D/\XRz h x m/\Q x e s
def Ex(C:Cx)(n:Nat)(c:Code)(Q:XK->Env->St->Prop)(e:Env)(s:St):Prop :=
 ∀F g w a,R C.toCtx F g s w->EnvOk g n e a.tmps->c.wp C.P (Post C F g n a.defers Q) a w
theorem Post.mono{C:Cx}{F:Fr}{g u:Gh}(S:g.le u){n:Nat}{D:List Deferred}{Q y:XK->Env->St->Prop}{m:Exit}{a:Act}{w:World}
  (h:Post C F u n D Q m a w)(z:∀x e s,Q x e s->y x e s):Post C F g n D y m a w:=by
 obtain⟨M,e,s,x,U,h2,O,H,B,Z⟩:=h;exact⟨M,e,s,x,S.trans U,h2,O,H,B,z _ _ _ Z⟩
def cY(n:Nat)(dst:Option Tmp)(K:Env->St->Prop)(e:Env)(s:St)(v:A):Prop :=
 match dst with
 | some d=>d<n/\K (e.put d v) s
 | none=>K e s
def mW:List (Option Tmp)->Nat->Option Tmp
 | [],_=>none
 | d::_,0=>d
 | _::r,n+1=>mW r n
def iX(C:Cx)(n:Nat)(ds:List (Option Tmp)):List Oper->(Env->St->Prop)->(St->A->Prop)->Env->St->Prop
 | [],K,_,e,s=>K e s
 | ⟨dst,op,_,_,_,none⟩::r,K,Kp,e,s=>bM C op (fC C e) (cY n dst (iX C n ds r K Kp) e) Kp s
 | ⟨dst,op,_,_,_,some (j,h)⟩ :: r,K,Kp,e,s =>
  match mW ds j with
  | none=>False
  | some t=>match e.get t with
   | some (.bool b) =>
    match b with
    | true=>match h with
     | true=>bM C op (fC C (e.put t (.bool true))) (cY n dst (iX C n ds r K Kp) (e.put t (.bool true))) Kp s
     | false=>cY n dst (iX C n ds r K Kp) (e.put t (.bool true)) s (.tuple [])
    | false=>match h with
     | false=>bM C op (fC C (e.put t (.bool false))) (cY n dst (iX C n ds r K Kp) (e.put t (.bool false))) Kp s
     | true=>cY n dst (iX C n ds r K Kp) (e.put t (.bool false)) s (.tuple [])
   | some (.tuple _)=>cY n dst (iX C n ds r K Kp) e s (.tuple [])
   | _=>False
end
section
def Env.ge(e e':Env):Prop:=∀t a,e'.get t=some a->e.get t=some a
theorem Env.ge.refl(e:Env):e.ge e:=λ_ _ h=>h
theorem aIM(V:List Nat)(e:Env):e.ge (e.keep V):=λt a h=>aOJ V e t a h
def Env.rem(ds:List (Option Tmp)):Env->Env
 | []=>[]
 | (k,u)::e=>if ds.elem (some k) then Env.rem ds e else(k,u)::Env.rem ds e
theorem qG(ds:List (Option Tmp)):∀(e:Env) (t:Nat),(e.rem ds).get t=if ds.elem (some t) then none else e.get t
 | [],t=>by simp[Env.rem,Env.get]
 | (k,u)::e,t=>by
  have y:=qG ds e t;simp only[Env.rem];by_cases m:ds.elem (some k)=true
  .rw[aF m,y];by_cases h:k=t
   .subst h;simp only[m,↓reduceIte]
   .simp only[Env.get,h,↓reduceIte]
  .rw[aB m];by_cases h:k=t
   .subst h;rw[aB m];simp only[Env.get,↓reduceIte]
   .simp only[Env.get,h,↓reduceIte,y]
theorem EnvOk.other{g:Gh}{n:Nat}{m:Env}{a:Act}{dst:Option Tmp}{v:Value}(h:EnvOk g n m a.tmps)(hd:∀d,dst=some d->m.get d=none):EnvOk g n m (a.put dst v).tmps:=by
 cases dst with
 | none=>exact h
 | some d =>
  have B:=hd d rfl;have z:(a.put (some d) v).tmps=a.tmps.setIfInBounds d v:=rfl;refine⟨by rw[z];simpa using h.size,λt x y=>?_⟩;obtain⟨u,H,h2⟩:=h.val t x y;have:d≠t:=by rintro rfl;rw[B]at y;cases y
  exact⟨u,by rw[z,aCP this];exact H,h2⟩
section
variable {C:Cx} {F:Fr} {g g0:Gh} {s:St} {w:World} {n:Nat}
theorem aDb(a:Act)(d:Option Tmp)(v:Value):(a.put d v).defers=a.defers:=by cases d<;>rfl
theorem R.unframe(h:R C.toCtx F g s w){F0:Fr}(B:∀k o,F0 k=some o->F k=some o)(M:∀k o p,F k=some (o,some p)->F0 k=some (o,some p)):R C.toCtx F0 g s w where
 env:=h.env
 obj:=λb o m=>by
  obtain⟨k,z,h2,H,y⟩:=h.obj b o m;refine⟨k,z,h2,H,?_⟩;cases u:F0 k with
  | none=>rfl
  | some x=>rw[B k x u]at y;cases y
 tok:=λt n e S=>by
  obtain⟨v,xs,z,h2,H,y⟩:=h.tok t n e S;refine⟨v,xs,z,h2,H,λb m=>⟨(y b m).1,?_⟩⟩;cases u:F0 b with
  | none=>rfl
  | some x=>have:=(y b m).2;rw[B b x u]at this;cases this
 sep:=h.sep
 pis:=h.pis
 frm:=λb o m=>h.frm b o (B b o m)
 glb:=λb cs m=>by
  obtain⟨pre,ty,fr,O,z⟩:=h.glb b cs m;exact⟨pre,ty,fr,M _ _ _ O,z⟩
 fsh:=h.fsh
 bet:=h.bet
 inj:=h.inj
 dtm:=h.dtm
 lst:=h.lst
 bfr:=λb k m=>by
  cases u:F0 k with
  | none=>rfl
  | some x=>have:=h.bfr b k m;rw[B k x u]at this;cases this
theorem aIx{F0:Fr}(hF:∀k o,F0 k=some o->F k=some o)(hG:∀k o p,F k=some (o,some p)->F0 k=some (o,some p)){o:Oper}{a:Act}{e U:Env}{D:List Deferred}{K:Env->St->Prop}{Kp:St->A->Prop}{Q:XK->Env->St->Prop}
  {next:Act->World->Prop}(hg:g0.le g)(he:EnvOk g n e a.tmps)(S:EnvOk g n U a.tmps)(b2:∀d,o.dst=some d->U.get d=none)(hD:a.defers=D)
  (u:∀m v w' e' s',g.le m->R C.toCtx F m s' w'->EnvOk m n e' (a.put o.dst v).tmps->EnvOk m n U (a.put o.dst v).tmps->(a.put o.dst v).defers=D->K e' s'->next (a.put o.dst v) w')
  (b3:∀s v,Kp s v->Q (.panic v) U s){r:Result Next}
  (h:OutV C F g (cY n o.dst K e) Kp r):o.upon C.P a next (Post C F0 g0 n D Q) r:=by
 have M:∀m v B s' w',g.le m->R C.toCtx F m s' w'->Rz m B v->cY n o.dst K e s' B->next (a.put o.dst v) w':=by
  intro m v B s' w' y h2 H z;have b0:=he.mono y;unfold cY at z;cases hd:o.dst with
  | none=>rw[hd]at z;rw[hd]at u;exact u m v w' e s' y h2 b0 (S.mono y) hD z
  | some d =>
   rw[hd]at z;rw[hd]at u;exact u m v w' _ s' y h2 (b0.put z.1 H) ((S.mono y).other λd' b4=>by cases b4;exact b2 d hd) (by rw[aDb];exact hD) z.2
 have O:∀m v B s' w',g.le m->R C.toCtx F m s' w'->Rz m B v->Kp s' B->Post C F0 g0 n D Q (.panic [{ v:=v,recovered:=false }]) a w' :=
  λm v B s' w' y h2 H z=>⟨m,U,s',.panic B,hg.trans y,h2.unframe hF hG,S.mono y,hD,⟨v,rfl,H⟩,b3 _ _ z⟩
 cases r with
 | ok x w' =>
  cases x<;>simp only[OutV]at h
  case value v =>
   obtain⟨m,B,s',y,h2,H,z⟩:=h;exact M m v B s' w' y h2 H z
  case skip =>
   obtain⟨m,s',y,h2,H⟩:=h;exact M m undef (.tuple []) s' w' y h2 (.tuple [] [] rfl bJ) H
  case enter f args =>
   refine Calls.mono h λen Z hp=>?_
   cases en with
   | returned v=>obtain⟨m,B,s',y,h2,H,z⟩:=hp;exact M m v B s' Z y h2 H z
   | panicked nE=>obtain⟨m,B,v,s',rfl,y,h2,H,z⟩:=hp;exact O m v B s' Z y h2 H z
   | outgrown=>exact hp.elim
 | halt x w' =>
  cases x<;>simp only[OutV]at h
  obtain⟨m,B,s',y,h2,H,z⟩:=h;exact O m _ B s' w' y h2 H z
theorem aGy(ops:Array Oper):∀(j:Nat),mW (ops.toList.map (·.dst)) j=(ops[j]?).bind (·.dst):=by
 obtain⟨l⟩:=ops
 induction l with
 | nil=>intro j;simp[mW]
 | cons o l h =>
  intro j;cases j with
  | zero=>simp[mW]
  | succ j=>simpa [mW]using h j
theorem aJw{ops:Array Oper}{j t:Nat}{e:Env}{b:Bool}{tmps:Array Value}(hd:mW (ops.toList.map (·.dst)) j=some t)
  (h:EnvOk g n e tmps)(u:e.get t=some (.bool b)):yielded ops tmps j=some b:=by
 obtain⟨v,m,h2⟩:=h.val t _ u;rw[aGy]at hd;simp[yielded,hd,m,h2.bool_inv]
theorem aIA{ops:Array Oper}{j t:Nat}{e:Env}{l:List A}{tmps:Array Value}(hd:mW (ops.toList.map (·.dst)) j=some t)
  (h:EnvOk g n e tmps)(u:e.get t=some (.tuple l)):yielded ops tmps j=none:=by
 obtain⟨v,m,h2⟩:=h.val t _ u;obtain⟨vs,rfl,_⟩:=h2.tuple_inv;rw[aGy]at hd;simp[yielded,hd,m]
theorem aMU{ops:Array Oper}{e0:Env}{D:List Deferred}{K:Env->St->Prop}{Kp:St->A->Prop}{Q:XK->Env->St->Prop}
  (hK:∀e s,K e s->∃e',e.ge e'/\Q .normal e' s)(b2:∀s v,Kp s v->Q (.panic v) e0 s) :
  ∀(l:List Oper) (g:Gh) (e:Env) (s:St) (a:Act) (w:World),(∀o,o∈l->∀d,o.dst=some d->e0.get d=none)->g0.le g->R C.toCtx F g s w->EnvOk g n e a.tmps->EnvOk g n e0 a.tmps->a.defers=D ->
   iX C n (ops.toList.map (·.dst)) l K Kp e s->wpList C.P ops (Post C F g0 n D Q) l a w
 | [],g,e,s,a,w,M,hg,U,H,B,hD,h=>by
  obtain⟨e',h1,h2⟩:=hK _ _ h;exact⟨g,e',s,.normal,hg,U,H.sub h1,hD,trivial,h2⟩
 | ⟨dst,op,ty,pos,after,gd⟩ :: r,g,e,s,a,w,M,hg,U,H,B,hD,h => by
  have b0:∀d,dst=some d->e0.get d=none:=M ⟨dst,op,ty,pos,after,gd⟩ bJ
  have S:∀o,o∈r->∀d,o.dst=some d->e0.get d=none:=λo ho=>M o (by simp[ho])
  have ih:=aMU (ops:=ops) (D:=D) hK b2 r
  have O:∀e',EnvOk g n e' a.tmps->bM C op (fC C e') (cY n dst (iX C n (ops.toList.map (·.dst)) r K Kp) e') Kp s ->
    (⟨dst,op,ty,pos,after,gd⟩:Oper).wp C.P a w (wpList C.P ops (Post C F g0 n D Q) r) (Post C F g0 n D Q):=by
   intro e' m b5;have:=aMI (ev:=a.eval) (ty:=ty) (dst:=dst) (pos:=pos) (after:=after) (gd:=gd) U (m.oper U) b5;exact aIx (λ_ _ h=>h) (λ_ _ _ h=>h) (o:=⟨dst,op,ty,pos,after,gd⟩) hg m B b0 hD (λg' a' w' e2 s' h1 h2 h3 b4 h4 h5=>ih g' e2 s' _ w' S (hg.trans h1) h2 h3 b4 h4 h5) b2 this
  have skip:∀e',EnvOk g n e' a.tmps->cY n dst (iX C n (ops.toList.map (·.dst)) r K Kp) e' s (.tuple []) ->
    wpList C.P ops (Post C F g0 n D Q) r (a.put dst undef) w:=by
   intro e' m Z;unfold cY at Z;cases z:dst with
   | none=>rw[z]at Z;exact ih g e' s a w S hg U m B hD Z
   | some d=>rw[z]at Z;exact ih g _ s _ w S hg U (m.put Z.1 (.tuple [] [] rfl bJ)) (B.other λd' b3=>by cases b3;exact b0 d z) (by rw[aDb];exact hD) Z.2
  cases gd with
  | none =>
   simp only[iX]at h;unfold wpList;rw[aF (by simp[Region.wanted])];exact .inl (O e H h)
  | some jw =>
   obtain⟨j,y⟩:=jw;simp only[iX]at h;split at h
   .exact h.elim
   .rename_i t ht;split at h
    .rename_i b hb;have hy:=aJw (b:=b) ht H hb
     have m:EnvOk g n (e.put t (.bool b)) a.tmps:=H.sub λu x hx=>by
      rw[nQ]at hx;by_cases hu:t=u
      .subst hu;simp only[↓reduceIte]at hx;rw[hb];exact hx
      .simpa only[hu,↓reduceIte]using hx
     unfold wpList
     have hw:Region.wanted (⟨dst,op,ty,pos,after,some (j,y)⟩:Oper) (yielded ops a.tmps)=(b == y):=by
      simp only[Region.wanted,hy];cases b<;>cases y<;>rfl
     cases b<;>cases y<;>simp only at h
     .rw[aF (by rw[hw];rfl)];exact .inl (O _ m h)
     .rw[aB (by rw[hw];decide)];exact skip _ m h
     .rw[aB (by rw[hw];decide)];exact skip _ m h
     .rw[aF (by rw[hw];rfl)];exact .inl (O _ m h)
    .rename_i l hb;have hy:=aIA ht H hb;unfold wpList;rw[aB (by simp[Region.wanted,hy])];exact skip _ H h
    .exact h.elim
theorem aLu(e:Env){ops:Array Oper}:∀o,o∈ops.toList->∀d,o.dst=some d->(e.rem (ops.toList.map (·.dst))).get d=none:=by
 intro o ho d hd;rw[qG,aF];rw[List.elem_eq_mem];simp only[dE,cH];exact⟨o,ho,hd⟩
theorem aM0{e:Env}{ds:List (Option Tmp)}{tmps:Array Value}(m:EnvOk g n e tmps):EnvOk g n (e.rem ds) tmps:=m.sub λt a h=>by
 rw[qG]at h;split at h
 .cases h
 .exact h
theorem Ex.region{id:Nat}{ops:Array Oper}{Q:XK->Env->St->Prop}{K:Env->St->Prop}{Kp:St->A->Prop}{e:Env}
  (z:∀e s,K e s->∃e',e.ge e'/\Q .normal e' s)(m:∀s v,Kp s v->Q (.panic v) (e.rem (ops.toList.map (·.dst))) s)
  (h:iX C n (ops.toList.map (·.dst)) ops.toList K Kp e s):Ex C n (.region id ops false) Q e s:=λF g w a y u =>
 wp_region_list (aMU z m ops.toList g e s a w (aLu e) (iE g) y u (aM0 u) rfl h)
end
section
variable {C:Cx} {n:Nat} {Q:XK->Env->St->Prop} {e:Env} {s:St}
theorem Ex.mono{c:Code}{m:XK->Env->St->Prop}(h:Ex C n c Q e s)(u:∀x e s,Q x e s->m x e s):Ex C n c m e s :=
 λF g w a B y=>qF (λM H w' z=>Post.mono (iE g) z u) (h F g w a B y)
theorem aSy{c:Code}{m:XK->Env->St->Prop}(h:Ex C n c Q e s)(u:∀x e s,Q x e s->∃e',e.ge e'/\m x e' s):Ex C n c m e s :=
 λF g w a O y=>qF (λex a' w' B=>by
  obtain⟨M,e',s',x,Z,h2,S,H,z,h6⟩:=B;obtain⟨e2,h7,U⟩:=u _ _ _ h6;exact⟨M,e2,s',x,Z,h2,S.sub h7,H,z,U⟩) (h F g w a O y)
theorem Ex.skip(h:Q .normal e s):Ex C n .skip Q e s:=λF g w a u m=>wp_skip ⟨g,e,s,.normal,iE g,u,m,rfl,trivial,h⟩
theorem Ex.label{l:Nat}(h:Q .normal e s):Ex C n (.label l) Q e s:=λF g w a u m=>wp_label ⟨g,e,s,.normal,iE g,u,m,rfl,trivial,h⟩
theorem Ex.exit{i:Nat}(h:Q (.exit i) e s):Ex C n (.exit i) Q e s:=λF g w a u m=>wp_exit ⟨g,e,s,.exit i,iE g,u,m,rfl,rfl,h⟩
theorem Ex.goto{i:Nat}(h:Q (.goto i) e s):Ex C n (.goto i) Q e s:=λF g w a u m=>wp_goto ⟨g,e,s,.goto i,iE g,u,m,rfl,rfl,h⟩
theorem Ex.ret(h:Q .ret e s):Ex C n .ret Q e s:=λF g w a u m=>wp_ret ⟨g,e,s,.ret,iE g,u,m,rfl,trivial,h⟩
def oD(R:Env->St->Prop)(Q:XK->Env->St->Prop):XK->Env->St->Prop
 | .normal,e,s=>R e s
 | x,e,s=>Q x e s
theorem Ex.seq{c d:Code}(h:Ex C n c (oD (Ex C n d Q) Q) e s):Ex C n (.seq c d) Q e s:=λF g w a Z S=>by
 refine wp_seq (qF (λz U w' m=>?_) (h F g w a Z S));obtain⟨B,e',s',x,M,h2,H,y,u,O⟩:=m;cases z<;>cases x<;>try exact u.elim
 .have:=O F B w' U h2 H;rw[y]at this;exact qF (λz a2 w2 m=>Post.mono M m λ_ _ _ h=>h) this
 all_goals exact⟨B,e',s',_,M,h2,H,y,u,O⟩
def vY(i:Nat)(Q:XK->Env->St->Prop):XK->Env->St->Prop
 | .exit j,e,s=>if j=i then Q .normal e s else Q (.exit j) e s
 | x,e,s=>Q x e s
theorem Ex.block{i:Nat}{c:Code}(h:Ex C n c (vY i Q) e s):Ex C n (.block i c) Q e s:=λF g w a Z O=>by
 refine wp_block (qF (λU a' w' S=>?_) (h F g w a Z O));obtain⟨B,e',s',x,M,h2,H,z,u,m⟩:=S;cases U<;>cases x<;>try exact u.elim
 case exit.exit j k =>
  simp only[XRz]at u;subst u;simp only[vY]at m;simp only[Exit.inBlock];split at m
  .rename_i y;rw[aF y];exact⟨B,e',s',.normal,M,h2,H,z,trivial,m⟩
  .rename_i y;rw[aB y];exact⟨B,e',s',.exit _,M,h2,H,z,rfl,m⟩
 all_goals exact⟨B,e',s',_,M,h2,H,z,u,m⟩
theorem Ex.cond{c:Operand}{x y:Code}{b:Bool}(z:fC C e c=some (.bool b))(h:Ex C n (if b then x else y) Q e s):Ex C n (.cond c x y) Q e s:=λF g w a u m =>
 wp_cond (((m.oper u) c _ z).bool_inv) (h F g w a u m)
theorem Ex.weaken{c:Code}{e':Env}{s':St}(m:e.ge e')(y:s.ge s')(h:Ex C n c Q e' s')(hd:C.det=false:=by rfl):Ex C n c Q e s:=λF g w a u z =>
 h F g w a (u.weaken y (λh=>by rw[show C.toCtx.det=false from hd]at h;cases h)) (z.sub m)
theorem aSm(I:Nat->Env->St->Prop)(m:Nat){c:Code}(h0:I m e s)
  (round:∀m e s,I m e s->Ex C n c (oD (λe' s'=>∃u,u<m/\I u e' s') Q) e s):Ex C n (.loop c) Q e s:=λF g0 w a hR hE=>by
 refine wp_loop_ghost (I:=λm h w'=>h.defers=a.defers/\∃g e s,g0.le g/\I m e s/\R C.toCtx F g s w'/\EnvOk g n e h.tmps) m
  ⟨rfl,g0,e,s,iE g0,h0,hR,hE⟩ ?_
 rintro k h w' ⟨U,g,e',s',Z,hI,y,z⟩;refine qF (λex a2 w2 hp=>?_) (round k e' s' hI F g w' h y z);obtain⟨O,e2,s2,x,h1,h2,S,M,H,h6⟩:=hp;cases ex<;>cases x<;>try exact H.elim
 .obtain⟨u,hm,B⟩:=h6;exact⟨u,hm,M.trans U,O,e2,s2,Z.trans h1,B,h2,S⟩
 all_goals exact⟨O,e2,s2,_,Z.trans h1,h2,S,M.trans U,H,h6⟩
def Env.has(e:Env):Env->Prop
 | []=>True
 | (k,a)::r=>e.get k=some a/\Env.has e r
theorem aFB{e:Env}:∀{e':Env},e.has e'->e.ge e'
 | [],_=>λt a h=>by cases h
 | (k,a)::r,h=>λt b m=>by
  simp only[Env.get]at m;split at m
  .rename_i u;subst u;cases m;exact h.1
  .exact aFB h.2 t b m
theorem Ex.loop{ι:Type}(E:ι->Env)(S:ι->St)(I:ι->Prop)(u:ι->Nat)(i:ι){c:Code}(M:I i)(y:e.has (E i))(B:s.ge (S i))
  (round:∀i,I i->Ex C n c (oD (λe' s'=>∃j,I j/\u j<u i/\e'.has (E j)/\s'.ge (S j)) Q) (E i) (S i))(hd:C.det=false:=by rfl):Ex C n (.loop c) Q e s:=by
 refine aSm (λm e s=>∃i,I i/\u i=m/\e.ge (E i)/\s.ge (S i)) (u i) ⟨i,M,rfl,aFB y,B⟩ ?_;rintro m e s ⟨j,O,rfl,y,B⟩;refine Ex.weaken y B (Ex.mono (round j O) λx e' s' h=>?_) hd;cases x
 case normal =>
  obtain⟨k,H,z,U,h2⟩:=h;exact⟨u k,z,k,H,rfl,aFB U,h2⟩
 all_goals exact h
def nI(V:List Nat)(Q:XK->Env->St->Prop)(e:Env)(s:St):Prop:=Q .normal (e.keep V) s
def aAl(Q:XK->Env->St->Prop)(ds:List (Option Tmp))(e:Env)(s:St)(v:A):Prop:=Q (.panic v) (e.rem ds) s
def aEt(C:Cx)(n:Nat)(id:Nat)(ops:Array Oper)(Q:XK->Env->St->Prop)(e:Env)(s:St):Prop:=Ex C n (.region id ops true) Q e s
def iC(C:Cx)(n:Nat)(V:List Nat):Code->(XK->Env->St->Prop)->Env->St->Prop
 | .skip,Q,e,s=>Q .normal e s
 | .label _,Q,e,s=>Q .normal e s
 | .exit i,Q,e,s=>Q (.exit i) e s
 | .goto i,Q,e,s=>Q (.goto i) e s
 | .ret,Q,e,s=>Q .ret e s
 | .seq c d,Q,e,s=>iC C n V c (oD (iC C n V d Q) Q) e s
 | .block i c,Q,e,s=>iC C n V c (vY i Q) e s
 | .cond c x y,Q,e,s=>match fC C e c with
  | some (.bool b)=>match b with
   | true=>iC C n V x Q e s
   | false=>iC C n V y Q e s
  | _=>False
 | .region id ops h,Q,e,s=>match h with
  | false=>iX C n (ops.toList.map (·.dst)) ops.toList (nI V Q) (aAl Q (ops.toList.map (·.dst)) e) e s
  | true=>aEt C n id ops (oD (nI V Q) Q) e s
 | .loop c,Q,e,s=>Ex C n (.loop c) Q e s
 | c,Q,e,s=>Ex C n c Q e s
theorem aPr(R:Env->St->Prop)(Q:XK->Env->St->Prop)(e:Env)(s:St):oD R Q .normal e s=R e s:=rfl
theorem aQD(R:Env->St->Prop)(Q:XK->Env->St->Prop)(i:Nat)(e:Env)(s:St):oD R Q (.exit i) e s=Q (.exit i) e s:=rfl
theorem aRH(R:Env->St->Prop)(Q:XK->Env->St->Prop)(i:Nat)(e:Env)(s:St):oD R Q (.goto i) e s=Q (.goto i) e s:=rfl
theorem aSR(R:Env->St->Prop)(Q:XK->Env->St->Prop)(e:Env)(s:St):oD R Q .ret e s=Q .ret e s:=rfl
theorem aQd(R:Env->St->Prop)(Q:XK->Env->St->Prop)(a:A)(e:Env)(s:St):oD R Q (.panic a) e s=Q (.panic a) e s:=rfl
theorem aOv(i:Nat)(Q:XK->Env->St->Prop)(e:Env)(s:St):vY i Q .normal e s=Q .normal e s:=rfl
theorem aQm(i:Nat)(Q:XK->Env->St->Prop)(e:Env)(s:St):vY i Q .ret e s=Q .ret e s:=rfl
theorem aPc(i j:Nat)(Q:XK->Env->St->Prop)(e:Env)(s:St):vY i Q (.goto j) e s=Q (.goto j) e s:=rfl
theorem aOK(i:Nat)(a:A)(Q:XK->Env->St->Prop)(e:Env)(s:St):vY i Q (.panic a) e s=Q (.panic a) e s:=rfl
theorem aPt(i j:Nat)(Q:XK->Env->St->Prop)(e:Env)(s:St):vY i Q (.exit j) e s=if j=i then Q .normal e s else Q (.exit j) e s:=rfl
theorem bE{V:List Nat}:∀(c:Code) (Q:XK->Env->St->Prop) (e:Env) (s:St),iC C n V c Q e s->Ex C n c Q e s
 | .skip,Q,e,s,h=>Ex.skip h
 | .label _,Q,e,s,h=>Ex.label h
 | .exit i,Q,e,s,h=>Ex.exit h
 | .goto i,Q,e,s,h=>Ex.goto h
 | .ret,Q,e,s,h=>Ex.ret h
 | .seq c d,Q,e,s,h=>by
  refine Ex.seq (Ex.mono (bE c _ e s h) λx e s m=>?_);cases x
  case normal=>exact bE d Q e s m
  all_goals exact m
 | .block i c,Q,e,s,h=>Ex.block (bE c _ e s h)
 | .cond c x y,Q,e,s,h=>by
  simp only[iC]at h;split at h
  .rename_i b B;refine Ex.cond B ?_;cases b
   .exact bE y Q e s h
   .exact bE x Q e s h
  .exact h.elim
 | .region id ops u,Q,e,s,h=>by
  cases u
  .exact Ex.region (λe s z=>⟨_,aIM V e,z⟩) (λ_ _ h=>h) h
  .refine aSy (Q:=oD (nI V Q) Q) h λx e s m=>?_
   cases x
   case normal=>exact⟨_,aIM V e,m⟩
   all_goals exact⟨e,Env.ge.refl e,m⟩
 | .loop c,Q,e,s,h=>h
 | .rangeFunc ..,Q,e,s,h=>h
 | .scope c,Q,e,s,h=>h
 | .refuse _,Q,e,s,h=>h
end
end
section
def rC:Nat->List A->Env
 | _,[]=>[]
 | k,a::r=>(k,a)::rC (k+1) r
theorem aGf:∀(az:List A) (k t:Nat) (a:A),(rC k az).get t=some a->k<=t/\az[t-k]?=some a
 | [],k,t,a,h=>by simp[rC,Env.get]at h
 | x::r,k,t,a,h=>by
  simp only[rC,Env.get]at h;split at h
  .rename_i m;subst m;simp only[bQ]at h;subst h;exact⟨aV _,by simp⟩
  .rename_i m;obtain⟨u,h2⟩:=aGf r (k+1) t a h;refine⟨by omega,?_⟩;rw[show t-k=(t-(k+1))+1 by omega];simpa using h2
def tH(C:Cx)(e:Env)(s:St):List ResultVar->Option (List A)
 | []=>some []
 | .tmp t::r=>match e.get t,tH C e s r with
  | some a,some l=>some (a::l)
  | _,_=>none
 | .cell p t::r=>match e.get p,tH C e s r with
  | some (.ptr b o),some l=>match s.getO b with
   | some (.cells _ cs)=>match uJ C t cs o with
    | some a=>some (a::l)
    | none=>none
   | _=>none
  | _,_=>none
def aBx:List A->A
 | [a]=>a
 | l=>.tuple l
def nK(C:Cx)(h:List ResultVar)(KV Kp:St->A->Prop):XK->Env->St->Prop
 | .normal,e,s=>match tH C e s h with
  | some l=>KV s (aBx l)
  | none=>False
 | .ret,e,s=>match tH C e s h with
  | some l=>KV s (aBx l)
  | none=>False
 | .panic a,_,s=>Kp s a
 | _,_,_=>False
section
variable {C:Cx} {F:Fr} {g:Gh} {s:St} {w:World} {n:Nat} {e:Env}
theorem aPp(hR:R C.toCtx F g s w){b o:Nat}{e:TypeId}{cs:List A}{t:TypeId}{v:A}(hb:s.getO b=some (.cells e cs))(h:uJ C t cs o=some v) :
  ∃k u,g.beta b=some k/\(loadVar t ⟨k,o,none⟩).run C.P w=.ok u w/\Rz g v u:=by
 obtain⟨k,vs,rest,Z,hh,z,U⟩:=hR.cellsOf hb
 have cell:∀j u,vs[j]?=some u->w.cell? ⟨k,j,none⟩=some u:=by
  intro j u y;simp only[World.cell?,hh,Option.isSome_none,cE,↓reduceIte,pE];rw[lC (eF.1 y).1];exact y
 simp only[uJ]at h;split at h
 .rename_i O H;split at h
  .rename_i B;split at h
   .rename_i b0;simp only[bQ]at h;subst h
    have hc:∀j v,((vs.drop o).take O.sz)[j]?=some v->w.cell? ((⟨k,o,none⟩:Addr).add j)=some v:=by
     intro j v y;rw[oJ]at y;split at y
     .rw[qC]at y;rw[mG,cell _ _ y]
     .simp at y
    have M:((vs.drop o).take O.sz).length=O.sz:=by
     have:=z.1;rw[cQ,eC];omega
    have m:=run_loadCells_list (P:=C.P) w ⟨k,o,none⟩ _ hc;rw[M]at m;have hq:=(z.drop o).take O.sz;refine⟨k,.agg ((vs.drop o).take O.sz).toArray,Z,?_,.agg _ _ hq.1 (λc hc=>U c (vE (sH hc))) hq.2⟩;simp only[loadVar,bW,cI,bV,aA9 H,B,↓reduceIte,mT H,m]
   .simp at h
  .rename_i B;obtain⟨u,hu,hr⟩:=z.get h;have S:O.k.agg=false:=gQ B;refine⟨k,u,Z,?_,hr⟩;simp only[loadVar,bW,cI,bV,aA9 H,S,cE,↓reduceIte,run_load,cell _ _ hu]
 .simp at h
def xW(tmps:Array Value):ResultVar->Sem Value
 | .tmp t=>pure (tmps.getD t undef)
 | .cell a t=>do loadVar t (<-asAddr (tmps.getD a undef))
theorem aDV(S:R C.toCtx F g s w){tmps:Array Value}(y:EnvOk g n e tmps):∀(rs:List ResultVar) (l:List A),tH C e s rs=some l ->
  ∃vs,(rs.mapM (xW tmps)).run C.P w=.ok vs w/\Rzs g l vs
 | [],l,h=>by simp[tH]at h;subst h;exact⟨[],by simp,.nil g⟩
 | .tmp t::r,l,h=>by
  simp only[tH]at h;split at h
  .rename_i a B Z hl;simp only[bQ]at h;subst h;obtain⟨vs,U,h2⟩:=aDV S y r B hl;obtain⟨u,H,M⟩:=y.val t a Z;refine⟨u::vs,?_,.cons M h2⟩;have z:(xW tmps (.tmp t)).run C.P w=.ok u w:=by simp[xW,aFw,H]
   simp only[List.mapM_cons,bW,cI,bV,U,z]
  .simp at h
 | .cell p t::r,l,h=>by
  simp only[tH]at h;split at h
  .rename_i b o B Z hl;split at h
   .rename_i cs hcs;split at h
    .rename_i v hv;simp only[bQ]at h;subst h;obtain⟨vs,U,h2⟩:=aDV S y r B hl;obtain⟨u,H,M⟩:=y.val p _ Z;obtain⟨k,q,b0,hq,O⟩:=aPp S hcs hv;obtain⟨k',hp,m⟩:=M.ptr_inv;rw[b0]at m;cases m;refine⟨q::vs,?_,.cons O h2⟩;have z:(xW tmps (.cell p t)).run C.P w=.ok q w:=by simp only[xW,bW,aFw,H,Option.getD_some,hp,asAddr,cI,bV,hq]
     simp only[List.mapM_cons,bW,cI,bV,U,z]
    .simp at h
   .simp at h
  .simp at h
theorem aMi{l:List A}{vs:List Value}(h:Rzs g l vs):Rz g (aBx l) (if h:vs.toArray.size=1 then vs.toArray[0] else .tuple vs.toArray):=by
 match l,vs,h with
 | [],[],h=>exact .tuple [] [] rfl bJ
 | [a],[v],h=>exact h.2 0 a v bJ bJ
 | a::b::l,v::u::vs,h =>
  have:¬ (v::u::vs).toArray.size=1:=by simp
  rw[dif_neg this];exact .tuple _ _ h.1 h.2
 | [],_::_,h=>have:=h.1;simp at this
 | _::_,[],h=>have:=h.1;simp at this
 | [_],_::_::_,h=>have:=h.1;simp at this
 | _::_::_,[_],h=>have:=h.1;simp at this
theorem aFY{f:FuncId}{fn:Func}{c:Code}{args:List A}{KV Kp:St->A->Prop}(hf:C.P.funcs[f]?=some fn)(hb:fn.body=some c)
  (y : (fn.name == "runtime.NumGoroutine") = false) (hn : args.length ≤ fn.ntmps)
  (h:Ex C fn.ntmps c (nK C fn.results.toList KV Kp) (rC 0 args) s):Den C f args KV Kp s:=by
 intro F g w vals hR Z
 have M:(callFunc f vals.toArray).run C.P w=.ok (.enter f vals.toArray) w:=by
  simp only[callFunc,bW,run_program,bV,hf,y,cE,↓reduceIte,hb,Option.isNone_some,cI]
 rw[M];refine calls_of_wp hf hb ?_
 have hE:EnvOk g fn.ntmps (rC 0 args) (vals.toArray++Array.replicate (fn.ntmps-vals.toArray.size) undef):=by
  have hl:vals.length=args.length:=Z.1;refine⟨by simp;omega,λt a ha=>?_⟩;obtain⟨_,h2⟩:=aGf args 0 t a ha;obtain⟨u,B,H⟩:=Z.get h2;rw[Nat.sub_zero]at B;refine⟨u,?_,H⟩;have:t<vals.length:=(eF.1 B).1;rw[Array.getElem?_append_left (gQ this)];simpa using B
 refine qF (λex z w' hp=>?_) (h F g w ⟨_,[]⟩ hR hE);obtain⟨U,e',s',x,h1,h2,h3,S,O,m⟩:=hp
 have fin:∀l,tH C e' s' fn.results.toList=some l->KV s' (aBx l)->z.defers=[]/\∃v,(results fn z.tmps).run C.P w'=.ok v w'/\aBs C F g KV Kp (.returned v) w':=by
  intro l hl hk;obtain⟨vs,r1,r2⟩:=aDV h2 h3 _ _ hl;refine⟨S,_,?_,⟨U,_,s',h1,h2,aMi r2,hk⟩⟩;have e0:results fn z.tmps=(do let vs <-fn.results.mapM (xW z.tmps);pure (if h:vs.size=1 then vs[0] else .tuple vs)):=rfl;rw[e0,bW,Array.mapM_eq_mapM_toList,Sem.run_map,r1];rfl
 cases ex<;>cases x<;>try exact O.elim
 .simp only[nK]at m;split at m
  .rename_i l hl;exact fin l hl m
  .exact m.elim
 .exact m.elim
 .exact m.elim
 .simp only[nK]at m;split at m
  .rename_i l hl;exact fin l hl m
  .exact m.elim
 .obtain⟨v,rfl,H⟩:=O;exact⟨S,⟨U,_,v,s',rfl,h1,h2,H,m⟩⟩
theorem Den.mono{f:FuncId}{args:List A}{KV Kp z y:St->A->Prop}(h:Den C f args KV Kp s)(H:∀s a,KV s a->z s a)(h2:∀s a,Kp s a->y s a) :
  Den C f args z y s:=by
 intro F g w vals M O;have:=h F g w vals M O;revert this;generalize (callFunc f vals.toArray).run C.P w=r;intro u;cases r with
 | ok x w' =>
  cases x<;>simp only[OutV]at u⊢
  .obtain⟨m,a,s',a1,a2,a3,a4⟩:=u;exact⟨m,a,s',a1,a2,a3,H _ _ a4⟩
  .obtain⟨m,s',a1,a2,a3⟩:=u;exact⟨m,s',a1,a2,H _ _ a3⟩
  .refine Calls.mono u λen S B=>?_
   cases en with
   | returned v=>obtain⟨m,a,s',a1,a2,a3,a4⟩:=B;exact⟨m,a,s',a1,a2,a3,H _ _ a4⟩
   | panicked nE=>obtain⟨m,a,v,s',a0,a1,a2,a3,a4⟩:=B;exact⟨m,a,v,s',a0,a1,a2,a3,h2 _ _ a4⟩
   | outgrown=>exact B
 | halt x w' =>
  cases x<;>simp only[OutV]at u⊢
  obtain⟨m,a,s',a1,a2,a3,a4⟩:=u;exact⟨m,a,s',a1,a2,a3,h2 _ _ a4⟩
theorem Den.weaken{f:FuncId}{args:List A}{KV Kp:St->A->Prop}{s':St}(y:s.ge s')(h:Den C f args KV Kp s')(hd:C.det=false:=by rfl):Den C f args KV Kp s :=
 λF g w vals u m=>h F g w vals (u.weaken y (λh=>by rw[show C.toCtx.det=false from hd]at h;cases h)) m
end
def iJ:=@Den.weaken
end
section
def aGS:A->Value->Bool
 | .int k n,.int j m=>decide (k=j)&&decide (n=m)
 | .bool b,.bool c=>b == c
 | .str s,.string t=>s.isEmpty&&decide (t.data.toList=[])
 | .nilp,.pointer none=>true
 | .nils,.slice none 0 0=>true
 | .nilf,.nilFunc=>true
 | .nili,.nilIface=>true
 | _,_=>false
def aBh:List A->List Value->Bool
 | [],[]=>true
 | a::az,v::vs=>aGS a v&&aBh az vs
 | _,_=>false
theorem aP4{g:Gh}{a:A}{v:Value}(h:aGS a v=true):Rz g a v/\a.one=true:=by
 unfold aGS at h;split at h<;>simp only[cT,dE,beq_iff_eq,cE]at h
 .obtain⟨rfl,rfl⟩:=h;exact⟨.int _ _,rfl⟩
 .subst h;exact⟨.bool _,rfl⟩
 .rename_i s t;obtain⟨m,h2⟩:=h;have:s=t.data.toList:=by rw[h2];simpa using m
  subst this;exact⟨.str t.data.toList,rfl⟩
 .exact⟨.nilp,rfl⟩
 .exact⟨.nils,rfl⟩
 .exact⟨.nilf,rfl⟩
 .exact⟨.nili,rfl⟩
theorem aGi{g:Gh}:∀{az:List A} {vs:List Value},aBh az vs=true->Rzs g az vs/\∀c,c∈az->c.one=true
 | [],[],_=>⟨.nil g,by simp⟩
 | a::az,v::vs,h=>by
  simp only[aBh,cT]at h;have u:=aP4 (g:=g) h.1;have h2:=aGi (g:=g) h.2;exact⟨.cons u.1 h2.1,λc m=>by cases m with|head=>exact u.2|tail _ m=>exact h2.2 c m⟩
 | [],_::_,h=>by simp[aBh]at h
 | _::_,[],h=>by simp[aBh]at h
def aBc(P:Program):List Field->List (Nat × Nat × Bool)->Bool
 | [],[]=>true
 | f::h,(o,s,a)::r=>decide (f.offset=o)&&decide ((P.info? f.type).map (·.size)=some s)&&decide (s≠0)&&(P.underlying f.type).isSome&&(aAk (P.underlying f.type) == a)&&aBc P h r
 | _,_=>false
theorem aJV{P:Program}:∀{m:List Field} {l:List (Nat × Nat × Bool)},aBc P m l=true->m.length=l.length/\∀(i o s:Nat) (a:Bool),l[i]?=some (o,s,a) ->
   ∃f,m[i]?=some f/\f.offset=o/\(P.info? f.type).map (·.size)=some s/\s≠0/\(P.underlying f.type).isSome=true/\aAk (P.underlying f.type)=a
 | [],[],_=>⟨rfl,λi o s a h=>by simp at h⟩
 | f::m,(o,s,a)::r,h=>by
  simp only[aBc,cT,dE,beq_iff_eq]at h;obtain⟨⟨⟨⟨⟨S,h2⟩,M⟩,H⟩,y⟩,h6⟩:=h;obtain⟨B,Z⟩:=aJV h6;refine⟨by simp[B],λi O s' z u=>?_⟩;cases i with
  | zero=>simp only[lM,bQ,mQ]at u;obtain⟨rfl,rfl,rfl⟩:=u;exact⟨f,by simp,S,h2,M,H,y⟩
  | succ i=>obtain⟨U,q⟩:=Z i O s' z (gQ u);exact⟨U,gQ q⟩
 | [],_::_,h=>by simp[aBc]at h
 | _::_,[],h=>by simp[aBc]at h
def aHU(P:Program)(k:TK)(d:TypeDesc):Bool :=
 match k,d with
 | .int k,.int j=>decide (k=j)
 | .bool,.bool=>true
 | .string,.string=>true
 | .slice e,.slice e'=>decide (e=e')
 | .array n e,.array m e'=>decide (n=m)&&decide (e=e')
 | .struct u,.struct h=>aBc P h.toList u
 | .iface,.interface _=>true
 | .other,.pointer _|.other,.func ..|.other,.map ..|.other,.chan ..|.other,.unsafePointer|.other,.float _|.other,.complex _=>true
 | _,_=>false
theorem aTQ{P:Program}{k:TK}{d:TypeDesc}(h:aHU P k d=true):k.ok P d:=by
 unfold aHU at h;split at h<;>(try simp only[cT,dE,cE]at h)<;>simp only[TK.ok]
 .subst h;rfl
 .subst h;rfl
 .obtain⟨rfl,rfl⟩:=h;rfl
 .rename_i B m;obtain⟨u,z⟩:=aJV h;exact⟨m,rfl,gQ u,λi o s a y=>by obtain⟨f,q⟩:=z i o s a y;exact⟨f,gQ q⟩⟩
 .exact⟨_,rfl⟩
 all_goals exact⟨rfl,by simp⟩
def aH0(P:Program)(t:TypeId)(h:TI):Bool :=
 match P.info? t,P.underlying t with
 | some i,some d=>decide (i.size=h.sz)&&decide (i.bytes=h.bytes)&&decide (h.zero.length=h.sz)&&(match i.zero with|some z=>aBh h.zero z.cells.toList|none=>false)&&aHU P h.k d
 | _,_=>false
theorem aT4{P:Program}{t:TypeId}{u:TI}(h:aH0 P t u=true):u.ok P t:=by
 unfold aH0 at h;split at h
 .rename_i i d B hd;simp only[cT,dE]at h;obtain⟨⟨⟨⟨H,h2⟩,M⟩,m⟩,y⟩:=h;split at m
  .rename_i z hz;exact⟨⟨i,z,B,H,h2,hz,λg=>(aGi (g:=g) m).1⟩,(aGi (g:=⟨λ_=>none,λ_ _=>none,λ_=>none,default,#[]⟩) m).2,M,d,hd,aTQ y⟩
  .cases m
 .cases h
section
variable (C:Cx) (n:Nat) (V:List Nat) (Q:XK->Env->St->Prop) (e:Env) (s:St)
@[go_sem] theorem aWR:iC C n V .skip Q e s=Q .normal e s:=rfl
@[go_sem] theorem aWM(l:Nat):iC C n V (.label l) Q e s=Q .normal e s:=rfl
@[go_sem] theorem aWV(i:Nat):iC C n V (.exit i) Q e s=Q (.exit i) e s:=rfl
@[go_sem] theorem aWX(i:Nat):iC C n V (.goto i) Q e s=Q (.goto i) e s:=rfl
@[go_sem] theorem aXn:iC C n V .ret Q e s=Q .ret e s:=rfl
@[go_sem] theorem aXq(c d:Code):iC C n V (.seq c d) Q e s=iC C n V c (oD (iC C n V d Q) Q) e s:=rfl
@[go_sem] theorem aWN(i:Nat)(c:Code):iC C n V (.block i c) Q e s=iC C n V c (vY i Q) e s:=rfl
def brK(C:Cx)(n:Nat)(V:List Nat)(x y:Code)(Q:XK->Env->St->Prop)(e:Env)(s:St):Option A->Prop
 | some (.bool true)=>iC C n V x Q e s
 | some (.bool false)=>iC C n V y Q e s
 | _=>False
@[go_sem] theorem aW3 (c : Operand) (x y : Code) : iC C n V (.cond c x y) Q e s = brK C n V x y Q e s (fC C e c) := by
  show(match fC C e c with
    | some (.bool b)=>match b with
      | true=>iC C n V x Q e s
      | false=>iC C n V y Q e s
    | _=>False)=_
  cases fC C e c with
  | none=>rfl
  | some a=>cases a<;>first|rfl|(rename_i b;cases b<;>rfl)
@[go_sem] theorem aW1(x y:Code):brK C n V x y Q e s (some (.bool true))=iC C n V x Q e s:=rfl
@[go_sem] theorem aWA(x y:Code):brK C n V x y Q e s (some (.bool false))=iC C n V y Q e s:=rfl
@[go_sem] theorem aWp(id:Nat)(ops:Array Oper):iC C n V (.region id ops false) Q e s=iX C n (ops.toList.map (·.dst)) ops.toList (nI V Q) (aAl Q (ops.toList.map (·.dst)) e) e s:=rfl
@[go_sem] theorem aWU(id:Nat)(ops:Array Oper):iC C n V (.region id ops true) Q e s=aEt C n id ops (oD (nI V Q) Q) e s:=rfl
@[go_sem] theorem aXd(c:Code):iC C n V (.loop c) Q e s=Ex C n (.loop c) Q e s:=rfl
variable (ds:List (Option Tmp)) (K:Env->St->Prop) (Kp:St->A->Prop)
@[go_sem] theorem aXB:iX C n ds [] K Kp e s=K e s:=rfl
@[go_sem] theorem aWO (dst : Option Tmp) (op : Op) (ty : TypeId) (pos : String) (after : Array Edge) (r : List Oper) :
  iX C n ds (⟨dst,op,ty,pos,after,none⟩::r) K Kp e s=bM C op (fC C e) (cY n dst (iX C n ds r K Kp) e) Kp s:=rfl
def tO(C:Cx)(n:Nat)(ds:List (Option Tmp))(dst:Option Tmp)(op:Op)(r:List Oper)(K:Env->St->Prop)(Kp:St->A->Prop)(e:Env)(s:St)(t:Nat)(h:Bool):Option A->Prop
 | some (.bool true)=>match h with
  | true=>bM C op (fC C (e.put t (.bool true))) (cY n dst (iX C n ds r K Kp) (e.put t (.bool true))) Kp s
  | false=>cY n dst (iX C n ds r K Kp) (e.put t (.bool true)) s (.tuple [])
 | some (.bool false)=>match h with
  | false=>bM C op (fC C (e.put t (.bool false))) (cY n dst (iX C n ds r K Kp) (e.put t (.bool false))) Kp s
  | true=>cY n dst (iX C n ds r K Kp) (e.put t (.bool false)) s (.tuple [])
 | some (.tuple _)=>cY n dst (iX C n ds r K Kp) e s (.tuple [])
 | _=>False
def gdT(C:Cx)(n:Nat)(ds:List (Option Tmp))(dst:Option Tmp)(op:Op)(r:List Oper)(K:Env->St->Prop)(Kp:St->A->Prop)(e:Env)(s:St)(h:Bool):Option Tmp->Prop
 | none=>False
 | some t=>tO C n ds dst op r K Kp e s t h (e.get t)
@[go_sem] theorem aWI (dst : Option Tmp) (op : Op) (ty : TypeId) (pos : String) (after : Array Edge) (j : Nat) (h : Bool) (r : List Oper) :
    iX C n ds (⟨dst,op,ty,pos,after,some (j,h)⟩::r) K Kp e s=gdT C n ds dst op r K Kp e s h (mW ds j):=by
  simp only[iX];unfold gdT;cases mW ds j with
  | none=>rfl
  | some t =>
    simp only[tO];cases e.get t with
    | none=>rfl
    | some a=>cases a<;>first|rfl|(rename_i b;cases b<;>cases h<;>rfl)
@[go_sem] theorem aXe(dst:Option Tmp)(op:Op)(r:List Oper)(h:Bool)(t:Nat):gdT C n ds dst op r K Kp e s h (some t)=tO C n ds dst op r K Kp e s t h (e.get t):=rfl
@[go_sem] theorem aXV(dst:Option Tmp)(op:Op)(r:List Oper)(t:Nat):tO C n ds dst op r K Kp e s t true (some (.bool true))=bM C op (fC C (e.put t (.bool true))) (cY n dst (iX C n ds r K Kp) (e.put t (.bool true))) Kp s:=rfl
@[go_sem] theorem aX2(dst:Option Tmp)(op:Op)(r:List Oper)(t:Nat):tO C n ds dst op r K Kp e s t true (some (.bool false))=cY n dst (iX C n ds r K Kp) (e.put t (.bool false)) s (.tuple []):=rfl
@[go_sem] theorem aXK(dst:Option Tmp)(op:Op)(r:List Oper)(t:Nat):tO C n ds dst op r K Kp e s t false (some (.bool true))=cY n dst (iX C n ds r K Kp) (e.put t (.bool true)) s (.tuple []):=rfl
@[go_sem] theorem aXO(dst:Option Tmp)(op:Op)(r:List Oper)(t:Nat):tO C n ds dst op r K Kp e s t false (some (.bool false))=bM C op (fC C (e.put t (.bool false))) (cY n dst (iX C n ds r K Kp) (e.put t (.bool false))) Kp s:=rfl
@[go_sem] theorem aX5 (dst : Option Tmp) (op : Op) (r : List Oper) (t : Nat) (h : Bool) (l : List A) : tO C n ds dst op r K Kp e s t h (some (.tuple l)) = cY n dst (iX C n ds r K Kp) e s (.tuple []) := by
  cases h<;>rfl
@[go_sem] theorem aWG(d:Tmp)(v:A):cY n (some d) K e s v=(d<n/\K (e.put d v) s):=rfl
@[go_sem] theorem aW7(sz:Nat)(K:A->Prop)(x:A):elK sz K (some x)=(x.cells.length=sz/\K (.eptr x.cells 0)):=rfl
@[go_sem] theorem aWQ(K:A->Prop)(c:UInt8):chK K (some c)=K (.int .u8 c.toNat):=rfl
@[go_sem] theorem aWy(v:A):cY n none K e s v=K e s:=rfl
end
attribute [go_sem] aMP aNc aHF
attribute [go_sem] nI aAl aPr aQD aSR aQd aRH aOv aQm aPc aOK aPt
attribute [go_sem] Env.get Env.put Env.keep mW fC aEi aCf aBf nG nU rF bM cS aHX aBm unA aHj uJ lP A.cells A.one aBx tH nK rC aBa aEy wB xT wT tI TK.agg kB aCA uW aAo wM aEv hlA
attribute [go_sem] aK lO nO Int.toNat_natCast Int.ofNat_lt Int.ofNat_le Int.natCast_nonneg Int.natCast_inj sL
@[go_sem] theorem aWm:gD []=true:=rfl
@[go_sem] theorem aWl(a:A)(l:List A):gD (a::l)=(a.one&&gD l):=rfl
attribute [go_sem] Env.has bQ A.int.injEq A.str.injEq A.bool.injEq A.list.injEq A.ptr.injEq A.agg.injEq
@[go_sem] theorem aWK(tk:Option Nat)(es:List A):nJ (.list tk es)=some (.int .i64 es.length):=rfl
@[go_sem] theorem aWD:nJ .nils=some (.int .i64 0):=rfl
@[go_sem] theorem aXu(b o n:Nat):nJ (.ml b o n)=some (.int .i64 n):=rfl
@[go_sem] theorem aWS:nJ .emp=some (.int .i64 0):=rfl
@[go_sem] theorem aXz(b n c:Nat):nJ (.mg b n c)=some (.int .i64 n):=rfl
@[go_sem] theorem aWC(C:Cx)(s:St)(e:TypeId)(h:TI)(ys:List A)(KV:St->A->Prop):oB C s e h ys KV .nils=(ys.length<=4294967296/\oC C s ys.length e h.sz ys KV):=rfl
@[go_sem] theorem aWw(C:Cx)(s:St)(e:TypeId)(h:TI)(KV:St->A->Prop):oB C s e h [] KV .emp=KV s .emp:=rfl
@[go_sem] theorem aXa(C:Cx)(s:St)(e:TypeId)(h:TI)(y:A)(r:List A)(KV:St->A->Prop):oB C s e h (y::r) KV .emp=(((y::r).length<=4294967296/\0<(y::r).length)/\oC C s (y::r).length e h.sz (y::r) KV):=rfl
@[go_sem] theorem aXp(C:Cx)(s:St)(e:TypeId)(h:TI)(ys:List A)(KV:St->A->Prop)(b n cap:Nat):oB C s e h ys KV (.mg b n cap)=uI C.det s b n cap e h.sz ys.length ys KV (s.getO b):=rfl
@[go_sem] theorem aWr (C : Cx) (s : St) (e : TypeId) (h : TI) (ys : List A) (KV : St → A → Prop) (t : Nat) (es : List A) : oB C s e h ys KV (.list (some t) es) =
  (s.getT t=some (es.length,e)/\(∀y,y∈es->y.cells.length=h.sz)/\es.length+ys.length<=4294967296/\KV (s.setT t (es.length+ys.length,e)) (.list (some t) (es++ys))):=rfl
theorem hU(x:Int)(h:-9223372036854775808<=x)(h2:x<=9223372036854775807):IntKind.i64.wrap x=x:=IntWalk.i64_in x ⟨h,h2⟩
theorem cF(i:Nat)(h:i<9223372036854775807):IntKind.i64.wrap ((i:Int)+1)=((i+1:Nat):Int):=by
 rw[hU _ aC aC];rfl
end
section
section
variable {C:Cx} {s:St} {ρ ρ':Operand->Option A} {K:A->Prop}
theorem aC3:∀{l:List Operand},(∀x,x∈l->ρ x=ρ' x)->nG ρ l=nG ρ' l
 | [],_=>rfl
 | x::r,h=>by
  have m:nG ρ r=nG ρ' r:=aC3 λy u=>h y (cP x u)
  simp only[nG,h x bJ,m]
theorem aFE:∀{l:List (Nat × Operand)},(∀x,x∈l.map (·.2)->ρ x=ρ' x)->nU ρ l=nU ρ' l
 | [],_=>rfl
 | (i,x)::r,h=>by
  have m:nU ρ r=nU ρ' r:=aFE λy u=>h y (by simp only[bN,eA];exact .inr u)
  simp only[nU,h x bJ,m]
theorem aJl{o:Option Operand}(h:∀x,o=some x->ρ x=ρ' x):rF ρ o=rF ρ' o:=by
 cases o with
 | none=>rfl
 | some x=>simp only[rF,h x rfl]
theorem wZ{op:Op}(h:∀x,x∈op.operands->ρ x=ρ' x):cS C op ρ K=cS C op ρ' K:=by
  cases op
  case build t ps =>
    have:nU ρ ps.toList=nU ρ' ps.toList:=aFE λx hx=>h x (by simpa [Op.operands]using hx)
    simp only[cS,this]
  case buildSlice t n ps =>
    have:nU ρ ps.toList=nU ρ' ps.toList:=aFE λx hx=>h x (by simpa [Op.operands]using hx)
    simp only[cS,this]
  case makeFunc fn first caps =>
    have h1:nG ρ first.toList=nG ρ' first.toList:=aC3 λx hx=>h x (by simp[Op.operands];exact .inl (gQ hx))
    have h2:nG ρ caps.toList=nG ρ' caps.toList:=aC3 λx hx=>h x (by simp[Op.operands];exact .inr (gQ hx))
    cases fn<;>simp only[cS,h1,h2]
  case call c =>
    obtain⟨cal,args,ats⟩:=c;obtain⟨args⟩:=args;obtain⟨ats⟩:=ats;have h1:∀x,x∈args->ρ x=ρ' x:=λx hx=>h x (by simp[Op.operands,Call.operands,hx])
    simp only[cS];split
    · simp_all
    · simp_all
    · simp_all
    · simp_all
    · simp_all
    · rfl
  case slice t x lo hi mx =>
    have h1:=h x (by simp[Op.operands]);have h2:rF ρ lo=rF ρ' lo:=aJl λy hy=>h y (by simp[Op.operands,hy])
    have h3:rF ρ hi=rF ρ' hi:=aJl λy hy=>h y (by simp[Op.operands,hy])
    cases mx<;>simp only[cS,h1,h2,h3]
  all_goals first
    | rfl
    | (simp only [Op.operands,List.mem_toArray,Array.mem_def,eA,pF,eS,forall_eq_or_imp,forall_eq] at h
       simp only[cS,h])
theorem aJE{op:Op}{KV Kp:St->A->Prop}(h:∀x,x∈op.operands->ρ x=ρ' x)(U:bM C op ρ KV Kp s):bM C op ρ' KV Kp s:=by
 have M:bM C op ρ KV Kp s=bM C op ρ' KV Kp s:=by
  cases op
  case load t x =>
   have z:=h x (by simp[Op.operands]);simp only[bM,z,wZ (C:=C) (K:=KV s) h]
  case store t x y =>
   simp only[bM,h x (by simp[Op.operands]),h y (by simp[Op.operands])]
  case box t x=>simp only[bM,h x (by simp[Op.operands])]
  case panic x=>simp only[bM,h x (by simp[Op.operands])]
  case range t x=>simp only[bM,h x (by simp[Op.operands])]
  case convert a b x =>
   have z:=h x (by simp[Op.operands]);simp only[bM,z,wZ (C:=C) (K:=KV s) h]
  case makeSlice t a b=>simp only[bM,h a (by simp[Op.operands]),h b (by simp[Op.operands])]
  case next x b =>
   cases b
   .exact wZ (C:=C) (K:=KV s) h
   .simp only[bM,h x (by simp[Op.operands])]
  case alloc=>rfl
  case buildSlice t len parts=>simp only[bM,wZ (C:=C) (K:=KV s) h,wZ (C:=C) (K:=aBB C s t KV) h]
  case call c =>
   have H:=wZ (C:=C) (K:=KV s) h;obtain⟨O,args,B⟩:=c;obtain⟨args⟩:=args;obtain⟨B⟩:=B;have z:∀x,x∈args->ρ x=ρ' x:=λx S=>h x (by simp[Op.operands,Call.operands,S])
   cases O with
   | value f=>simp only[bM,h f (by simp[Op.operands,Call.operands]),aC3 z]
   | invoke r m=>exact H
   | builtin b =>
    cases b
    case append =>
     match args,B,z with
     | [x,y],[t,u],z=>simp only[bM,z x bJ,z y bJ]
     | [],_,z=>rfl
     | [_],_,z=>rfl
     | _::_::_::_,_,z=>rfl
     | [_,_],[],z=>rfl
     | [_,_],[_],z=>rfl
     | [_,_],_::_::_::_,z=>rfl
    case unsafeString =>
     match args,B,z with
     | [x,y],[t,u],z=>simp only[bM,z x bJ,z y bJ]
     | [],_,z=>rfl
     | [_],_,z=>rfl
     | _::_::_::_,_,z=>rfl
     | [_,_],[],z=>rfl
     | [_,_],[_],z=>rfl
     | [_,_],_::_::_::_,z=>rfl
    case panic =>
     match args,z with
     | [],z=>rfl
     | [x],z=>simp only[bM,z x bJ]
     | _::_::_,z=>rfl
    all_goals exact H
  case binOp op t x y Z =>
   have H:=wZ (C:=C) (K:=KV s) h;cases op
   case eql=>simp only[bM,H,h x (by simp[Op.operands]),h y (by simp[Op.operands])]
   all_goals exact H
  all_goals exact wZ (C:=C) (K:=KV s) h
 rw[<-M];exact U
theorem aLP{op:Op}(h:cS C op ρ K):∃v,K v/\∀K':A->Prop,K' v->cS C op ρ K':=by
  have one:∀{o:Option A} {K:A->Prop},(match o with|some v=>K v|none=>False)->∃v,K v/\o=some v:=by
    intro o K h;cases o with
    | none=>exact h.elim
    | some v=>exact⟨v,h,rfl⟩
  have cut:∀{x:A} {lo hi:Option A} {K:A->Prop},xT x lo hi K->∃v,K v/\∀K':A->Prop,K' v->xT x lo hi K':=by
    intro x lo hi K h;unfold xT at h⊢;cases x<;>simp only at h⊢
    all_goals first
      | exact h.elim
      | (split at h
         · rename_i h1 h2
           exact⟨_,h.2,λK' hk=>⟨h.1,hk⟩⟩
         · exact h.elim)
  cases op<;>simp only[cS]at h⊢
  case move x=>obtain⟨v,h1,h2⟩:=one h;exact⟨v,h1,λK' hk=>by simpa only[h2]using hk⟩
  case assign x=>obtain⟨v,h1,h2⟩:=one h;exact⟨v,h1,λK' hk=>by simpa only[h2]using hk⟩
  case call c =>
    split at h<;>(try exact h.elim)
    · split at h<;>(try exact h.elim)
      split at h<;>(try exact h.elim)
      all_goals (obtain⟨v,h1,h2⟩:=one h;exact⟨v,h1,λK' hk=>by simpa only[h2]using hk⟩)
    · split at h<;>(try exact h.elim)
      all_goals exact⟨_,h,λK' hk=>hk⟩
    · split at h<;>(try exact h.elim)
      split at h<;>(try exact h.elim)
      rename_i e hk0;exact⟨_,h,λK' hk=>hk⟩
    · split at h<;>(try exact h.elim)
      all_goals exact⟨_,h,λK' hk=>hk⟩
    · split at h<;>(try exact h.elim)
      all_goals exact⟨_,h,λK' hk=>hk⟩
  case makeFunc fn first caps =>
    cases fn
    all_goals simp only at h⊢
    · split at h
      · exact⟨_,h,λK' hk=>by simp_all only[]⟩
      · exact h.elim
    all_goals exact h.elim
  all_goals
    repeat' split at h
  all_goals first
    | exact h.elim
    | (obtain⟨v,h1,h2⟩:=one h;exact⟨v,h1,λK' hk=>by simp_all only[vS,kS,reduceIte,reduceCtorEq,cE,fF,gB]⟩)
    | exact⟨_,h,λK' hk=>by simp_all only[vS,kS,reduceIte,reduceCtorEq,cE,fF,gB]⟩
    | exact⟨_,h.2,λK' hk=>by simp_all only[vS,kS,reduceIte,reduceCtorEq,cE,fF,gB]⟩
    | exact⟨_,h.2.2,λK' hk=>⟨h.1,h.2.1,hk⟩⟩
    | exact cut h
    | (obtain⟨v,h1,h2⟩:=cut h.2;exact⟨v,h1,λK' hk=>⟨h.1,h2 K' hk⟩⟩)
    | (obtain ⟨hx,hy⟩ := h
       rw[aX hx.2]at hy⊢;exact⟨_,hy.2,λK' hk=>⟨hx,hy.1,hk⟩⟩)
    | (obtain ⟨hx,hy⟩ := h
       rw[aX hx.2]at hy⊢;exact⟨_,hy,λK' hk=>⟨hx,hk⟩⟩)
theorem pG{K':A->Prop}{op:Op}(h:cS C op ρ K)(m:∀v,K v->K' v):cS C op ρ K':=by
 obtain⟨v,u,h2⟩:=aLP h;exact h2 K' (m v u)
theorem aCh{op:Op}{KV Kp:St->A->Prop}(h:cS C op ρ (KV s)):bM C op ρ KV Kp s:=by
 cases op
 case load t x =>
  have u:=h;simp only[cS]at u;split at u
  .rename_i z;simp only[bM,z];exact h
  .exact u.elim
 case store=>simp only[cS]at h
 case buildSlice t len parts =>
  simp only[bM];split
  .exact h
  .exact .inl h
 case alloc=>simp only[cS]at h
 case box=>simp only[cS]at h
 case panic=>simp only[cS]at h
 case range=>simp only[cS]at h
 case makeSlice=>simp only[cS]at h
 case convert a b x =>
  have u:=h;simp only[cS]at u;split at u
  .rename_i z _ _;simp only[bM,z];exact h
  .rename_i z _ _;simp only[bM,z];exact h
  .exact u.elim
 case next x b=>cases b<;>simp only[cS]at h
 case call c =>
  obtain⟨B,args,H⟩:=c;cases B with
  | value f=>simp only[cS]at h
  | invoke r m=>simp only[cS]at h
  | builtin b=>cases b<;>first|exact h|(simp only[cS]at h)
 case binOp op t x y M =>
  cases op
  case eql =>
   simp only[bM];split
   .exact .inl h
   .exact h
  all_goals exact h
 all_goals exact h
theorem aDn{o:Ob}{f:Nat->A}{KV m:St->A->Prop}(h:uR C s o f KV)(u:∀s a,KV s a->m s a):uR C s o f m:=by
 unfold uR at *;cases hd:C.det<;>rw[hd]at h
 ·exactλb y=>u _ _ (h b y)
 .exact u _ _ h
theorem aGn{n:Nat}{e:TypeId}{ys:List A}{KV m:St->A->Prop}(h:newT C s n e ys KV)(u:∀s a,KV s a->m s a):newT C s n e ys m:=by
 unfold newT at *;cases hd:C.det<;>rw[hd]at h
 ·exactλb y=>u _ _ (h b y)
 .exact u _ _ h
theorem aJ3{n:Nat}{e:TypeId}{sz:Nat}{ys:List A}{KV m:St->A->Prop}(h:oC C s n e sz ys KV)(u:∀s a,KV s a->m s a):oC C s n e sz ys m:=by
 unfold oC at *;cases hd:C.det<;>rw[hd]at h
 .cases y:Nat.beq C.mu 1<;>rw[y]at h
  .exact aGn h u
  .exact⟨h.1,λb cap J a1 a2 a3 a4=>u _ _ (h.2 b cap J a1 a2 a3 a4)⟩
 .exact aGn h u
theorem aQr{det:Bool}{b n cap:Nat}{e:TypeId}{sz m:Nat}{ys:List A}{o:Option Ob}{KV y:St->A->Prop}(h:uI det s b n cap e sz m ys KV o)(z:∀s a,KV s a->y s a) :
  uI det s b n cap e sz m ys y o:=by
 unfold uI at *;split at h
 .exact⟨h.1,λB u J a1 a2 a3 a4=>z _ _ (h.2 B u J a1 a2 a3 a4)⟩
 .exact h.elim
theorem aRp{n:Nat}{e:TypeId}{KV m:St->A->Prop}(h:aBt C s n e KV)(u:∀s a,KV s a->m s a):aBt C s n e m:=by
 unfold aBt at *;cases hd:C.det<;>rw[hd]at h
 ·exactλb y=>u _ _ (h b y)
 .exact u _ _ h
theorem aQV{e:TypeId}{y:List UInt8}{a:A}{KV m:St->A->Prop}(h:aAm C s e y KV a)(u:∀s a,KV s a->m s a):aAm C s e y m a:=by
 cases a<;>simp only[aAm]at h⊢
 case nils=>exact⟨h.1,aGn h.2 u⟩
 case list tk es =>
  cases tk with
  | none=>exact h
  | some t=>exact⟨h.1,u _ _ h.2⟩
theorem aRw{y:TI}{u:TypeId}{n:Int}{a:A}{KV m:St->A->Prop}(h:aAp C s y u n KV a)(z:∀s a,KV s a->m s a):aAp C s y u n m a:=by
 cases a<;>simp only[aAp]at h⊢
 split at h
 .split at h
  .split at h
   .exact⟨h.1,aRp h.2 z⟩
   .exact h.elim
  .exact h.elim
 .exact h.elim
theorem aJL{z:TI}{t u:TypeId}{a:A}{KV m:St->A->Prop}(h:aAq C s z t u KV a)(y:∀s a,KV s a->m s a):aAq C s z t u m a:=by
 unfold aAq at h⊢;split at h
 .split at h
  .refine⟨h.1,?_⟩;have h2:=h.2;split at h2
   .exact y _ _ h2
   .exact y _ _ h2
   .exact y _ _ h2
   .exact y _ _ h2
   .exact h2.elim
  .exact h.elim
 .exact h.elim
theorem aJO{n sz:Nat}{e:TypeId}{ys:List A}{KV m:St->A->Prop}(h:wM C s n e ys sz KV)(u:∀s a,KV s a->m s a):wM C s n e ys sz m:=by
 unfold wM at *;cases hd:C.det<;>rw[hd]at h
 ·exactλb y=>u _ _ (h b y)
 .exact u _ _ h
theorem aRC{y:TI}{t u:TypeId}{z a:A}{KV m:St->A->Prop}(h:aAo C s y t u z KV a)(B:∀s a,KV s a->m s a):aAo C s y t u z m a:=by
 unfold aAo at h⊢;split at h
 .split at h
  .refine⟨h.1,?_⟩;have h2:=h.2;split at h2
   .exact aJO h2 B
   .split at h2
    .exact⟨h2.1,aJO h2.2 B⟩
    .exact h2.elim
   .exact h2.elim
  .exact h.elim
 .exact h.elim
theorem aSb{k n z:Nat}{u:TI}{v:A}{KV m:St->A->Prop}(h:uW C s k n z u v KV)(y:∀s a,KV s a->m s a):uW C s k n z u v m:=by
 unfold uW at h⊢;split at h
 .split at h
  .exact⟨h.1,y _ _ h.2⟩
  .exact h.elim
 .exact h.elim
theorem aDw{op:Op}{KV Kp O M:St->A->Prop}(h:bM C op ρ KV Kp s)(z:∀s a,KV s a->O s a)(h2:∀s a,Kp s a->M s a):bM C op ρ O M s:=by
 cases op
 case load t x =>
  simp only[bM]at h⊢;split at h
  .split at h
   .split at h
    .exact z _ _ h
    .exact h.elim
   .exact h.elim
  .exact pG h (z s)
 case store t x y =>
  simp only[bM]at h⊢;split at h
  .split at h
   .exact⟨h.1,z _ _ h.2⟩
   .exact h.elim
  .exact aSb h z
  .exact h.elim
 case alloc t =>
  simp only[bM]at h⊢;split at h
  .exact aDn h z
  .exact h.elim
 case box t x =>
  simp only[bM]at h⊢;split at h
  .exact⟨h.1,aDn h.2 z⟩
  .exact h.elim
 case panic x =>
  simp only[bM]at h⊢;split at h
  .exact h2 _ _ h
  .exact h.elim
 case buildSlice t len parts =>
  simp only[bM]at h⊢;split at h
  .exact pG h (z s)
  .rcases h with h|h
   .exact .inl (pG h (z s))
   .refine .inr (pG h λa H=>?_);unfold aBB at H⊢;split at H
    .split at H
     ·exactλk Z=>z _ _ (H k Z)
     .exact H.elim
    .exact H.elim
 case convert a b x =>
  simp only[bM]at h⊢;split at h
  .split at h
   .split at h
    .exact⟨h.1,z _ _ h.2⟩
    .exact h.elim
   .exact h.elim
  .exact pG h (z s)
 case makeSlice t a b =>
  simp only[bM]at h⊢;split at h
  .split at h
   .split at h
    .exact⟨h.1,aDn h.2 z⟩
    .exact h.elim
   .exact h.elim
  .exact h.elim
 case range t x =>
  simp only[bM]at h⊢;split at h
  .split at h
   .exact aDn h z
   .exact h.elim
  .exact h.elim
 case next x b =>
  cases b
  .simp only[bM,cS]at h
  simp only[bM]at h⊢;split at h
  .split at h
   .unfold aEA at h⊢;split at h
    .rename_i S;rw[aF S];exact z _ _ h
    .rename_i S;rw[aB S];exact z _ _ h
   .exact h.elim
  .exact h.elim
 case call c =>
  obtain⟨U,args,B⟩:=c;obtain⟨args⟩:=args;obtain⟨B⟩:=B;cases U with
  | value f =>
   simp only[bM]at h⊢;split at h
   .exact Den.mono h z h2
   .exact h.elim
  | invoke r m=>refine aCh (pG (K:=KV s) ?_ (z s));exact h
  | builtin b =>
   cases b
   case append =>
    match args,B,h with
    | [x,y],[t,u],h =>
     simp only[bM]at h⊢;split at h
     .split at h
      .split at h
       .obtain⟨a1,a2,a3⟩:=h;refine⟨a1,a2,?_⟩;unfold oB at a3⊢;split at a3
        .exact⟨a3.1,aJ3 a3.2 z⟩
        .split at a3
         .exact z _ _ a3
         .exact⟨a3.1,aJ3 a3.2 z⟩
        .exact aQr a3 z
        .exact⟨a3.1,a3.2.1,a3.2.2.1,z _ _ a3.2.2.2⟩
        .exact a3.elim
       .exact h.elim
      .exact h.elim
     .split at h
      .exact aQV h z
      .exact h.elim
     .exact aRw h z
     .exact aJL h z
     .exact aJL h z
     .exact aRC h z
     .exact h.elim
    | [],_,h=>simp only[bM]at h
    | [_],_,h=>simp only[bM]at h
    | _::_::_::_,_,h=>simp only[bM]at h
    | [_,_],[],h=>simp only[bM]at h
    | [_,_],[_],h=>simp only[bM]at h
    | [_,_],_::_::_::_,h=>simp only[bM]at h
   case unsafeString =>
    match args,B,h with
    | [x,y],[t,u],h =>
     simp only[bM]at h⊢;split at h
     .exact⟨h.1,z _ _ h.2⟩
     .split at h
      .obtain⟨a1,bs,a2,a3⟩:=h;exact⟨a1,bs,a2,z _ _ a3⟩
      .exact h.elim
     .exact h.elim
    | [],_,h=>simp only[bM]at h
    | [_],_,h=>simp only[bM]at h
    | _::_::_::_,_,h=>simp only[bM]at h
    | [_,_],[],h=>simp only[bM]at h
    | [_,_],[_],h=>simp only[bM]at h
    | [_,_],_::_::_::_,h=>simp only[bM]at h
   case panic =>
    match args,h with
    | [],h=>simp only[bM]at h
    | [x],h =>
     simp only[bM]at h⊢;split at h
     .exact h2 _ _ h
     .exact h.elim
    | _::_::_,h=>simp only[bM]at h
   all_goals (refine aCh (pG (K:=KV s) ?_ (z s));exact h)
 case binOp op t x y yt =>
  cases op
  case eql =>
   simp only[bM]at h⊢;split at h
   .rcases h with h|⟨hn,ht,hf⟩
    .exact .inl (pG h (z s))
    .exact .inr ⟨hn,z _ _ ht,z _ _ hf⟩
   .exact pG h (z s)
  all_goals (refine aCh (pG (K:=KV s) ?_ (z s));exact h)
 all_goals (refine aCh (pG (K:=KV s) ?_ (z s));exact h)
end
end
end Go.AV
