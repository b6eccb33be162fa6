/-
  Of DefBack.
-/
import Derived.RegionIn
import Derived.Test.YtamikhobdffnfaaGreatDoorBa14
set_option linter.all false
set_option maxRecDepth 99999
set_option maxHeartbeats 0
section
open Go.Proofs.Tryz
namespace Go.Proofs
open Go.RowKit Go.Shelf
attribute [local go_sem] Oper.semAt_some
def prV(b off k:Nat):SlV:=(some ⟨b,off+2 * k * 6,none⟩,2,2)
def prU(b off m:Nat):List SlV:=(List.range m).map (prV b off)
theorem prU_succ(b off k:Nat):prU b off (k+1)=prU b off k++[prV b off k]:=by simp[prU,List.range_succ]
theorem prU_len(b off k:Nat):(prU b off k).length=k:=by simp[prU]
set_option maxHeartbeats 4000000 in
theorem Tryz.chunk1_in(F:Fence)(n:Nat)(O:F.fn 295)(b4:F.round=none)(hn:1<=n)(l H y h b off m cap:Nat)(b7:2 * m<=cap)(b8:2 * m<=4294967296)(bc:cap<=9223372036854775807)(h1:H<h)(h2:y<h)(J Jx:List SlV->World->Prop)
  (W:World)(hJ:AbidesFrom W.heap.size J)
  (hY : ∀ pre x W,J pre W → pre.length < m → YieldAt F (n - 1) Tryz.prog l #[slV x] W fun e z =>
   (e=.returned (.bool true)/\J (pre++[x]) z/\Below h W z)\/(e=.returned (.bool false)/\Jx (pre++[x]) z))
  (b0:W.cell? ⟨H,0,none⟩=some (.slice (some ⟨b,off,none⟩) (2 * m) cap))(Z:W.cell? ⟨y,0,none⟩=some (.int .i64 2))(h0:J [] W) :
  CallsIn F n Tryz.prog 295 #[.func (.yield l) #[] #[],.pointer (some ⟨H,0,none⟩),.pointer (some ⟨y,0,none⟩)] W λe z=>(∃v,e=.returned v) /\
   ((∃ys,ys=prU b off m/\J ys z)\/(∃pre,(∃k,k<=m/\pre=prU b off k)/\Jx pre z)):=by
 refine callsIn_of_wp Tryz.func295 rfl O ?_ b4;simp only[Tryz.ntmps295,List.size_toArray,List.length_cons,List.length_nil,Nat.reduceAdd,Nat.reduceSub,Array.replicate_succ,Array.replicate_zero,List.push_toArray,List.append_toArray,List.nil_append,List.cons_append]
 gi_wp2
 gi_loopw [4] (λi wr=>∃k:Nat,k<=m/\i=.int .i64 ((2 * k:Nat):Int)/\J (prU b off k) wr/\Below h W wr)
  (λi _=>2 * m-(intOf i).toNat)
 case atStart=>exact⟨0,Nat.zero_le _,rfl,h0,Below.refl _ _⟩
 case round =>
  obtain⟨k,hk,rfl,U,u⟩:=hrel;have b9:wr.cell? ⟨H,0,none⟩=some (.slice (some ⟨b,off,none⟩) (2 * m) cap):=(u.cell (p:=⟨H,0,none⟩) h1).trans b0;have b6:wr.cell? ⟨y,0,none⟩=some (.int .i64 2):=(u.cell (p:=⟨y,0,none⟩) h2).trans Z;by_cases b2:k<m
  .obtain⟨fn,tmps,assign,body,hy,hR⟩:=hY _ (prV b off k) wr.drew (hJ _ wr wr.drew none U ⟨rfl,rfl,rfl,Nat.le_refl _,λ_ _ _=>rfl⟩ (λr e=>by cases e)) (by rw[prU_len];exact b2);simp only[slV,prV]at hy
   gi_wp2
   gi_region
   all_goals (
    have S:min (2:Int) ((2 * m-2 * k:Nat):Int)=2:=by omega
    have b3:min (2:Int) (2 * (m:Int)-2 * (k:Int))=2:=by omega
    simp only[S];have e2:((2 * k+2:Nat)-2 * k:Nat)=2:=by omega
    gi_wp2
    refine hR.mono ?_;rintro e W3 (⟨rfl,b5,M⟩|⟨rfl,B⟩)
    .have bb:W3.cell? ⟨y,0,none⟩=some (.int .i64 2):=(M.cell (p:=⟨y,0,none⟩) h2).trans b6
     gi_wp2
     go_roundw
     case rel=>exact⟨k+1,by omega,by simp;omega,by rw[prU_succ];exact b5,u.trans ((Below.refl _ wr).drew.trans M)⟩
     case measure=>simp[intOf];omega
    ·gi_wp2
     refine bodyPost_ret (results_none rfl _ _ _) rfl ?_;exact⟨⟨_,rfl⟩,.inr ⟨_,⟨k+1,by omega,(prU_succ _ _ _).symm⟩,B⟩⟩)
  .obtain rfl:k=m:=by omega
   gi_wp2
   go_end0
   exact⟨⟨_,rfl⟩,.inl ⟨_,rfl,U⟩⟩
theorem prU_pre(b off:Nat){k m:Nat}(h:k<=m):prU b off k <+: prU b off m:=by
 refine List.prefix_iff_eq_take.2 ?_;simp only[prU,List.length_map,List.length_range,<-List.map_take,List.take_range,Nat.min_eq_left h]
set_option maxHeartbeats 4000000 in
theorem Tryz.chunk0_in(F:Fence)(n:Nat)(h:F.fn 295)(m:F.round=none)(l u B cap:Nat)(q:Option Addr)(W:World)
  (y:W.cell? ⟨u,0,none⟩=some (.slice q 0 cap))(Q:World->Prop)(H:Q W) :
  CallsIn F n Tryz.prog 295 #[.func (.yield l) #[] #[],.pointer (some ⟨u,0,none⟩),.pointer (some ⟨B,0,none⟩)] W λe z=>(∃v,e=.returned v)/\Q z:=by
 refine callsIn_of_wp Tryz.func295 rfl h ?_ m;simp only[Tryz.ntmps295,List.size_toArray,List.length_cons,List.length_nil,Nat.reduceAdd,Nat.reduceSub,Array.replicate_succ,Array.replicate_zero,List.push_toArray,List.append_toArray,List.nil_append,List.cons_append]
 gi_wp2
 gi_loopw [4] (λi wr=>i=.int .i64 0/\wr=W) (λi _=>0)
 case atStart=>exact⟨rfl,rfl⟩
 case round =>
  obtain⟨rfl,rfl⟩:=hrel
  gi_wp2
  go_end0
  exact⟨⟨_,rfl⟩,H⟩
theorem Tryz.chunk_stops(F:Fence)(n:Nat)(u:F.fn 295)(S:F.round=none)(hn:1<=n)(y z h b off m cap:Nat)(q:Option Addr)(hq:q=some ⟨b,off,none⟩\/m=0)(B:2 * m<=cap)(M:2 * m<=4294967296)(b2:cap<=9223372036854775807)(h1:y<h)(h2:z<h)
  (w:World)(b4:h<=w.heap.size)(b0:w.cell? ⟨y,0,none⟩=some (.slice q (2 * m) cap))(Z:w.cell? ⟨z,0,none⟩=some (.int .i64 2)) :
  SeqStopsK F n Tryz.prog 295 #[.pointer (some ⟨y,0,none⟩),.pointer (some ⟨z,0,none⟩)] (λx:SlV=>#[slV x]) (Below h) (λys=>ys=prU b off m) (λpre=>pre <+: prU b off m) m w:=λl J Jx W hW hJ _ hY h0=>by
 have H:W.cell? ⟨y,0,none⟩=some (.slice q (2 * m) cap):=(hW.cell (p:=⟨y,0,none⟩) (by simp only;omega)).trans b0;have b3:W.cell? ⟨z,0,none⟩=some (.int .i64 2):=(hW.cell (p:=⟨z,0,none⟩) (by simp only;omega)).trans Z;by_cases hm:m=0
 .subst hm;refine(Tryz.chunk0_in F n u S l y z cap q W H (J []) h0).mono ?_;rintro e W' ⟨U,O⟩;exact⟨U,.inl ⟨[],rfl,O⟩⟩
 .rcases hq with rfl|hq
  .refine(Tryz.chunk1_in F n u S hn l y z h b off m cap B M b2 h1 h2 J Jx W hJ hY H b3 h0).mono ?_;rintro e W' ⟨U,⟨ys,rfl,O⟩|⟨pre,⟨k,hk,rfl⟩,O⟩⟩
   .exact⟨U,.inl ⟨_,rfl,O⟩⟩
   .exact⟨U,.inr ⟨_,prU_pre b off hk,O⟩⟩
  .exact absurd hq hm
end Go.Proofs
end
section
open Go.Proofs.Tryz
namespace Go.AV
open Go Go.Proofs Go.RowKit
theorem aLg:∀(l:List Tm) (i:Nat) (p:List Tm),(nC l)[i]?=some p->∃k v,p=[k,v]/\l[2 * i]?=some k/\l[2 * i+1]?=some v
 | [],i,p,h=>by cases h
 | [_],i,p,h=>by cases h
 | x::y::r,0,p,h=>by cases h;exact⟨x,y,rfl,rfl,rfl⟩
 | x::y::r,i+1,p,h=>aLg r i p h
theorem aJp{w:World}{k:Nat}{v:Value}{rest:List Value}{e:TypeId}(h:w.heap[k]?=some (.cells ([v]++rest).toArray e)):w.cell? ⟨k,0,none⟩=some v:=by
 simp[World.cell?,h]
set_option maxHeartbeats 1000000 in
theorem aP0:aJP:=by
 intro l p1 p2 s KV Kp h1 h2 he hm hk F g w vals hR hv;change OutV cx F g KV Kp ((callFunc 257 vals.toArray).run prog w);rw[aDm (P:=prog) func257 rfl rfl vals.toArray w];have hl:=hv.1
 match vals,hl,hv with
 | [x],_,hv =>
 have hx:=hv.2 0 _ x rfl rfl;obtain⟨us,vs,rfl,hu,H⟩:=hx.fn_inv;have c3:us=[]:=fW hu.1;subst c3
 match vs,H.1,H with
 | [a,b],_,H =>
 obtain⟨k1,rfl,bq⟩:=(H.2 0 _ a rfl rfl).ptr_inv;obtain⟨k2,rfl,bz⟩:=(H.2 1 _ b rfl rfl).ptr_inv;obtain⟨j1,e1,⟨c1,r1,o1,z1,_⟩,_,_⟩:=hR.obj p1 _ h1;obtain⟨j2,e2,⟨c2,r2,o2,z2,_⟩,_,_⟩:=hR.obj p2 _ h2;rw[bq]at e1;cases e1;rw[bz]at e2;cases e2
 match c1,z1.1,c2,z2.1 with
 | [v1],_,[v2],_ =>
 have y1:=z1.2 0 _ v1 rfl rfl;have y2:=(z2.2 0 _ v2 rfl rfl).int_inv;subst y2;obtain⟨q,cap,rfl,bt,b5,_,Z⟩:=y1.list_inv;rw[aK]at b5 o1;have d1:=aJp o1;have d2:=aJp o2;obtain⟨m,bj⟩:∃m,l.length=2 * m:=⟨l.length / 2,by omega⟩
 rw[bj]at d1 b5;have l1:k1<w.heap.size:=(jU.1 o1).1;have l2:k2<w.heap.size:=(jU.1 o2).1;have c6:=aGd l.length l (aV _) he
 obtain⟨z,off,B⟩:∃z off,q=some ⟨z,off,none⟩\/m=0:=by
  rcases Z with Z|⟨z,off,_,_,Z,_⟩
  .exact⟨0,0,.inr (by have:=dV List.length Z;simp at this;subst this;simp at bj;omega)⟩
  .exact⟨z,off,.inl Z⟩
 have hC:=collect_in Fence.wide 4 trivial trivial rfl aC 295 #[.pointer (some ⟨k1,0,none⟩),.pointer (some ⟨k2,0,none⟩)] trivial (aDm (P:=prog) func295 rfl rfl)
  (prU z off m) (by rw[prU_len];simp only[maxLen];omega) (by rw[prU_len];omega) w
  (fun w' hb hs => Eq.mp (by rw [prU_len]) (chunk_stops Fence.wide (4 - 1 - 1) trivial rfl aC k1 k2 w.heap.size z off m cap q B b5 aC (by simp only [maxLen] at bt; omega) l1 l2 w' hs
   ((hb.cell (p:=⟨k1,0,none⟩) l1).trans d1) ((hb.cell (p:=⟨k2,0,none⟩) l2).trans d2)))
 refine Calls.mono (callsIn_wide.1 hC) ?_;rintro e w' ⟨v,rfl,b9,c5,hb⟩;have b3:=λc (hc:c<w.heap.size)=>hb.block c hc
 have S:(w'.os,w'.output)=(w.os,w.output):=by rw[hb.os,hb.output]
 rcases b9.2 with⟨rfl,h0⟩|⟨gg,O,bn,rfl,bv,bh,hn,bl,c7,br⟩
 .rw[prU_len]at h0;subst h0;have:l=[]:=fW aC;subst this;exact⟨g,_,s,iE g,hR.keep b3 S,.list0 none none 0 (aU _) (λt h=>by cases h),hk⟩
 ·rw [prU_len] at *;obtain ⟨rest,b4⟩ : ∃ rest,bn = ((prU z off m).map slV ++ rest).toArray := ⟨bn.toList.drop (m * 1),by rw [← br,List.take_append_drop]⟩
  rw[b4]at bh;obtain⟨bw,b6⟩:=hR.known b3 S bv bh;refine⟨_,_,s,b6,bw,?_,hk⟩;have bg:m=((nC l).map wG).length:=by rw[aK];omega
  suffices b7:Rz (g.know gg ((prU z off m).map slV)) (.list none ((nC l).map wG)) (.slice (some ⟨gg,0,none⟩) ((nC l).map wG).length O)by rw[<-bg]at b7;exact b7
  refine .list none _ gg 0 1 O ((prU z off m).map slV) (by simp[Gh.know]) (by rw[aK,aK,prU_len];omega) (by rw[<-bg];exact hn) bl ?_ ?_ ?_ (λt h=>by cases h)
  .intro e u;obtain⟨p,_,rfl⟩:=cH.1 u;rfl
  .intro e u c hc;obtain⟨p,_,rfl⟩:=cH.1 u;simp only[wG,A.cells,cC]at hc;subst hc;rfl
  .intro i e j c v hi hj hv;rw[lO]at hi;obtain⟨p,hp,rfl⟩:=sF.1 hi;simp only[wG,A.cells]at hj
   obtain rfl:j=0:=by
    have:=(eF.1 hj).1;simp at this;omega
   simp only[lM,bQ]at hj;subst hj;have c0:i<m:=by have:=(eF.1 hp).1;omega
   simp only[fH,Nat.mul_one,Nat.add_zero,prU,lO,List.getElem?_range c0,nO,bQ]at hv;subst hv;obtain⟨tk,tv,rfl,M,b8⟩:=aLg l i p hp;rcases Z with Z|⟨b2,c4,sz,pre,rfl,bf,bp,bc,b0,U⟩
   .have:=dV List.length Z;simp at this;subst this;simp at M
   rcases B with B|B
   .cases B
    have hz6:sz=6:=by
     have:=bc tk.enc (cH.2 ⟨tk,bZ M,rfl⟩);rw[dJ]at this;simp[A.cells,Tm.cs]at this;omega
    subst hz6;rw[aK]at bp
    have bm:(g.know gg ((prU z off m).map slV)).pi z=some pre:=by
     have:z≠gg:=by have:=hR.lt_pi bf;omega
     simp only[Gh.know,this,↓reduceIte];exact bf
    simp only[slV,prV];refine .list none [tk.enc,tv.enc] z (off+2 * i * 6) 6 2 pre bm (by simp only[aG,aH];omega) bJ (by simp only[maxLen];omega) ?_ ?_ ?_ (λt h=>by cases h)
    .intro e u;simp only[eA,List.mem_nil_iff,eS]at u;rcases u with rfl|rfl<;>(rw[dJ];rfl)
    .intro e u;simp only[eA,List.mem_nil_iff,eS]at u;rcases u with rfl|rfl
     .exact b0 _ (cH.2 ⟨tk,bZ M,rfl⟩)
     .exact b0 _ (cH.2 ⟨tv,bZ b8,rfl⟩)
    .intro i' e j c v y bd bk
     match i',y with
     | 0,y =>
      cases y;exact(U (2 * i) tk.enc j c v (by rw[lO,M];rfl) bd (by rw[<-bk];congr 1<;>omega)).mono b6
     | 1,y =>
      cases y;exact(U (2 * i+1) tv.enc j c v (by rw[lO,b8];rfl) bd (by rw[<-bk];congr 1<;>omega)).mono b6
     | i'+2,y=>simp at y
   .omega
end Go.AV
end
namespace Go.AV
open Go Go.Proofs Tryz
theorem aKP:∀(l:List aD) (x:aD),(lF x l).length<=sl l
 | [],x=>aV _
 | y::r,x=>by
  have:=aKP r y;rw[vM,sl];simp only[aI];split
  .simp only[aG,aH];omega
  .simp only[aH];omega
theorem aKo:∀m:List (List Wd),(∀u,u∈m->u≠[])->m.length<=(dN m).length
 | [],_=>aU _
 | x::r,h=>by
  have z:=aKo r (λy B=>h y (cP _ B));have h2:=List.length_pos_iff.2 (h x (bU ..));simp only[dN,kG,aI,aK,aG]at z⊢;omega
theorem aKB:∀(u:List (List Wd)) (m:List Wd),m∈u->m.length<=(dN u).length
 | x::r,m,h=>by
  simp only[dN,kG,aI,aK];rcases List.mem_cons.1 h with rfl|h
  .omega
  .have:=aKB r m h;simp only[dN]at this;omega
theorem aMN:∀(k:Nat) (t:Tm) (m n:Nat),Tm.val k t m=some n->ShT t
 | 0,_,_,_,h=>by cases h
 | k+1,t,m,n,h=>by
  unfold Tm.val at h;split at h
  .split at h
   .rename_i y;refine .mk t y ?_;cases hl:eM (Tm.val k) t.kids (m+1)with
    | none=>rw[hl]at h;cases h
    | some c=>exact(aDC (P:=ShT) (g:=Tm.val k) t.kids (m+1) c (λx a b z u=>⟨aMN k x a b u,u⟩) hl).1
   .cases h
  .cases h
theorem xM{t:Tm}(h:gE t=true):TwOk t:=by
 unfold gE at h;obtain⟨m,e⟩:=Option.isSome_iff_exists.1 h;exact aPK aP0 t (aMN 60 t 0 m e)
theorem aCr{α:Type}(m:α->Nat)(en:α->A)(B:Nat):∀l:List α,(∀x,x∈l->m x+1<=B * ((en x).bulk+1))->gF m l<=B * bI (l.map en)
 | [],_=>by simp[gF]
 | x::r,h=>by
  have z:=aCr m en B r (λy u=>h y (cP _ u));have h2:=h x (bU ..);rw[gF,bN,bI,Nat.mul_add];omega
theorem aKK(x:Sig):cX x.cs=bI (x.sorts.map .str)+(bI (x.below.map Below.enc)+(bI (x.ops.map Opr.enc)+(bI (x.funs.map Opr.enc)+bI (x.values.map .str)))):=by
 simp only[Sig.cs,A.bulk,cX,Nat.add_zero]
theorem aKR(o:Opr):o.enc.bulk=o.name.length+(bI (o.args.map .str)+(o.sort.length+(bI (o.pieces.map Piece.enc)+bI (o.strict.map (.int .i64))))):=by
 simp only[Opr.enc,Opr.cs,A.bulk,cX,Nat.add_zero,fH]
theorem aSJ(N:Nat){d:Dfn}(B:cX d.cs<=N):∀t,t∈jK d->t.enc.bulk<=N:=by
 rw[tW]at B;intro t h;simp only[jK,cZ,List.mem_flatMap]at h;rcases h with⟨e,m,h⟩|⟨c,m,h⟩|⟨r,m,h⟩
 .have u:=fI Eqn.enc m;rw[vR]at u;simp only[jL,cZ,eA,List.mem_nil_iff,eS]at h;rcases h with(rfl|rfl)|h
  .omega
  .omega
  .have:=fI Tm.enc h;omega
 .have u:c.enc.bulk<=bI (d.once.map Cel.enc)+bI (d.many.map Cel.enc):=by
   rcases m with m|m
   .have:=fI Cel.enc m;omega
   .have:=fI Cel.enc m;omega
  rw[xF]at u;simp only[lZ,cC]at h;rw[h];omega
 .have u:=fI Rul.enc m;rw[rQ]at u;simp only[iW,kD,cZ,List.mem_flatMap,eA,List.mem_nil_iff,eS]at h;rcases h with⟨p,z,h⟩|h|⟨f,y,h⟩
  .have h2:=fI Part.enc z;rw[xA]at h2;rcases h with rfl|h
   .omega
   .have:=fI Tm.enc h;omega
  .have:=fI Tm.enc h;omega
  .have h2:=fI Fresh.enc y;rw[yQ]at h2;have:=fI Tm.enc h;omega
theorem aA7{α:Type}(g:α->List Tm)(en:α->A):∀l:List α,(∀x,x∈l->(g x).length<=2 * ((en x).bulk+1))->(l.flatMap g).length<=2 * bI (l.map en)
 | [],_=>by simp
 | x::r,h=>by
  have u:=aA7 g en r (λy m=>h y (cP _ m));have h2:=h x (bU ..);rw[kG,aI,bN,bI];omega
theorem aUa{d:Dfn}:(jK d).length<=2 * cX d.cs:=by
 rw[tW]
 have u:=aA7 jL Eqn.enc d.eqs (λe _=>by
  have:=eE Tm.enc e.cond;rw[vR];simp only[jL,aI,aG,aH];omega)
 have h:=aA7 lZ Cel.enc (d.once++d.many) (λc _=>by simp only[lZ,aG,aH];omega)
 have m:=aA7 iW Rul.enc d.rules (λr _=>by
  have y:=aA7 kD Part.enc r.parts (λp _=>by
   have:=eE Tm.enc p.right;rw[xA];simp only[kD,aI,aG,aH];omega)
  have h2:=aA7 Fresh.cells Fresh.enc r.new (λf _=>by
   have:=eE Tm.enc f.cells;rw[yQ];omega)
  have z:=eE Tm.enc r.cond;rw[rQ];simp only[iW,aI];omega)
 rw[cN,aFS]at h;simp only[jK,aI];omega
theorem aMO{c:Cel}(h:gE c.init=true)(m:c.enc.bulk<=60000000):CelOk c:=by
 have:=zH c.init;rw[xF]at m;exact⟨xM h,by omega⟩
theorem aVq{r:Rul}(u:∀t,t∈iW r->gE t=true)(B:r.enc.bulk<=60000000):RulOk2 r:=by
 rw[rQ]at B;have y:∀p,p∈r.parts->∀t,t∈kD p->gE t=true:=λp m t h=>u t (by simp only[iW,cZ,List.mem_flatMap];exact .inl ⟨p,m,h⟩)
 refine⟨⟨λp m=>xM (y p m _ (by simp[kD])),λp m t h=>xM (y p m t (by simp[kD,h])),λf z t h=>xM (u t (by simp only[iW,cZ,List.mem_flatMap];exact .inr (.inr ⟨f,z,h⟩))),λt h=>xM (u t (by simp only[iW,cZ];exact .inr (.inl h)))⟩,?_⟩
 have M:=aCr tA Part.enc 16 r.parts (λp _=>by
  have O:=zH p.left;have h2:=aEu p.right;rw[xA];unfold tA;omega)
 have S:=aCr tC Fresh.enc 16 r.new (λp _=>by
  have h2:=aEu p.cells;rw[yQ];unfold tC;omega)
 have F:gF (λ_=>4) r.drop<=16 * bI (r.drop.map .str):=aCr (λ_=>4) A.str 16 r.drop (λp _=>by omega);have H:=aEu r.cond;omega
theorem aP5{d:Dfn}(O:jP d=true)(H:∀o,o∈d.sig.ops->OprI o)(U:cX d.cs<=60000000):DfnOk d:=by
 have F:=aLd O;have u:∀e,e∈d.eqs->∀t,t∈jL e->gE t=true:=λe u t y=>F t (by simp only[jK,cZ,List.mem_flatMap];exact .inl ⟨e,u,y⟩)
 have z:∀c,c∈d.once\/c∈d.many->gE c.init=true:=λc z=>F _ (by simp only[jK,cZ,List.mem_flatMap];exact .inr (.inl ⟨c,z,by simp[lZ]⟩))
 have B:∀r,r∈d.rules->∀t,t∈iW r->gE t=true:=λr B t y=>F t (by simp only[jK,cZ,List.mem_flatMap];exact .inr (.inr ⟨r,B,y⟩))
 rw[tW,aKK]at U;have l1:=eE A.str d.sig.sorts;have Z:=eE Below.enc d.sig.below;have l3:=eE Opr.enc d.sig.ops;have l4:=eE Opr.enc d.sig.funs;have l5:=eE A.str d.sig.values;have l6:=eE Eqn.enc d.eqs;have l7:=eE Cel.enc d.once;have l8:=eE Rul.enc d.rules;refine⟨⟨by omega,by omega,λo ho=>?_,λo ho=>?_⟩,λe h=>?_,λc h=>aMO (z c (.inl h)) ?_,λc h=>aMO (z c (.inr h)) ?_,?_,λr h=>aVq (B r h) ?_,by omega⟩
 .have m:=fI Opr.enc ho;rw[aKR]at m;have m1:=eE Piece.enc o.pieces;have S:=eE A.str o.args;have m3:=eE (A.int .i64) o.strict;refine⟨(H o ho).s,(H o ho).p,λp M=>?_,by omega⟩;have h2:=fI Piece.enc M;simp only[Piece.enc,Piece.cs,A.bulk,cX]at h2;omega
 .have m:=fI Opr.enc ho;rw[aKR]at m;have S:=eE A.str o.args;omega
 .have m:=fI Eqn.enc h;rw[vR]at m;have c1:=zH e.left;have c2:=zH e.right;have c3:=aEu e.cond;exact⟨xM (u e h _ (by simp[jL])),xM (u e h _ (by simp[jL])),λt y=>xM (u e h t (by simp[jL,y])),by omega⟩
 .have:=fI Cel.enc h;omega
 .have:=fI Cel.enc h;omega
 .have:=aCr tB Cel.enc 16 d.many (λc _=>by
   have m:=zH c.init;rw[xF];unfold tB;omega)
  omega
 .have:=fI Rul.enc h;omega
theorem aGl{d:Dfn}(B:∀o,o∈d.sig.ops->OprI o)(y:cX d.cs<=60000000):DfnB d:=by
 have z:jP d=true->sl (dN (eD d))<=4294967280:=λm=>by have:=aUC m B;omega
 have Z:=aUa (d:=d);have u:=y;rw[tW,aKK]at u;have l3:=eE Opr.enc d.sig.ops;have O:=eE Opr.enc d.sig.funs;refine⟨by omega,λt h=>aKV _ t (iD _) (by have:=aSJ _ y t h;omega),by omega,λr F=>?_,λm=>aP5 m B y,λm=>?_,λm=>?_,λm M h=>?_⟩
 .have H:=fI Rul.enc F;rw[rQ]at H;have U:=eE Part.enc r.parts;have m2:=eE Fresh.enc r.new;have S:=eE A.str r.drop;omega
 .exact mR (aKP _ _) (z m)
 .have:=aKo (eD d) (aD7 d);have:=aHu (dN (eD d));have:=z m;omega
 .have:=aKB (eD d) M h;have:=aHu (dN (eD d));have:=z m;omega
theorem awP{x:aD}{d:Dfn}{g:Fault}(h:sZ x=(d,g))(m:x.length<=4294967280)(s:St)(KV Kp:St->A->Prop)(u:KV s (.tuple [d.enc,g.enc])):Den cx 15 [.str x] KV Kp s :=
 aRs x m (by rw[h];exact u)
theorem aNv{x:aD}{d:Tm}{g:Fault}(h:aBn x=(d,g))(m:x.length<=4294967280)(s:St)(KV Kp:St->A->Prop)(u:KV s (.tuple [d.enc,g.enc])):Den cx 18 [.str x] KV Kp s :=
 aQx x m (by rw[h];exact u)
def aCz:Dfn:=⟨[101],⟨[[65]],[],[⟨[98],[],[65],[⟨[97],[]⟩],0,0,[]⟩],[],[]⟩,[],[⟨[99],[65],.mk 6 0 [36] [65,110,121] [] [],1,52⟩],[],[],[],[65],[99]⟩
theorem aTz:aHQ [97] [98] kF=aCz:=by kernel_rfl
theorem aEC:DfnB kF:=aGl (λo ho=>by
 simp only[kF,cC]at ho;subst ho;exact⟨λn h=>(by cases h),by decide⟩) (by simp only[kF,Dfn.cs,Sig.cs];decide)
theorem aNl:DfnC kF:=aQI _ aE
theorem aVT:jQ kF=true:=by kernel_rfl
theorem aV3:uL kF=(aNe,0):=by kernel_rfl
theorem aVU:aCC kF [97] [98]=true:=by kernel_rfl
theorem aVY:aCC kF [73,110,116] [98]=false:=by kernel_rfl
theorem aV2:(kF.same kF)=true:=by kernel_rfl
theorem aV1:(kF.same aCz)=false:=by kernel_rfl
theorem aVR:(iV (eD kF)).length<=4294967296:=mO (by kernel_rfl)
theorem rst{KV:St->A->Prop}{s:St}{x:A}(h:∀S,S.ge s->(NoW s->NoW S)->KV S x):KV s x:=h s (aM _) id
theorem aC5(s:St)(hN:NoW s)(KV Kp:St->A->Prop)(hk:KV s (.bool true)):Den cx 14 [] KV Kp s:=by
 have nw:∀(t:Nat) (cs:List A),t=33\/t=36\/t=43->mY (.cells t cs):=λt cs h=>by rcases h with rfl|rfl|rfl<;>(simp only[mY];decide)
 (refine aR func14 [0,1,2,3,4,5,7,9,10,11,13,15,16,17,19,20,78] ?_;simp only[go_sem,ntmps14,f14]);refine awP aV4 aE _ _ _ ?_;simp only[go_sem];(refine aQ λp2 u=>?_);simp only[go_sem,u];(refine aQ λp3 y=>?_);simp only[go_sem,u,y];refine aF3 kF aEC (λ_=>aVR) _ ?_ _ _ ?_
 ·repeat (refine NoW.set ?_ (nw _ _ aE) _)
  exact hN
 rw[aV3];simp only[go_sem,u,y];refine awP aVV aE _ _ _ ?_;simp only[go_sem,u,y];(refine aQ λp6 z=>?_);simp only[go_sem,u,y,z];(refine aQ λp7 F=>?_);simp only[go_sem,u,y,z,F];refine awP aVQ aE _ _ _ ?_;simp only[go_sem,u,y,z,F];(refine aQ λp8 M=>?_);simp only[go_sem,u,y,z,F,M];(refine aQ λp9 O=>?_);simp only[go_sem,u,y,z,F,M,O];refine aNv aVN aE _ _ _ ?_;simp only[go_sem,u,y,z,F,M,O];(refine aQ λbb B=>?_);simp only[go_sem,u,y,z,F,M,O,B];(refine aQ λbj H=>?_);simp only[go_sem,u,y,z,F,M,O,B,H];refine aNv aVZ aE _ _ _ ?_;simp only[go_sem,u,y,z,F,M,O,B,H];(refine aQ λbv U=>?_);simp only[go_sem,u,y,z,F,M,O,B,H,U];(refine aQ λbc b0=>?_);simp only[go_sem,u,y,z,F,M,O,B,H,U,b0];refine awP aVO aE _ _ _ ?_;simp only[go_sem,u,y,z,F,M,O,B,H,U,b0];(refine aQ λc4 b6=>?_);simp only[go_sem,u,y,z,F,M,O,B,H,U,b0,b6];(refine aQ λbg b9=>?_);simp only[go_sem,u,y,z,F,M,O,B,H,U,b0,b6,b9];refine aIr kF aEC aNl [97] [98] aE aE _ ?_ _ _ (rst λS hS hM=>?_)
 ·repeat (refine NoW.set ?_ (nw _ _ aE) _)
  exact hN
 have bl:NoW S:=hM (by
  repeat (refine NoW.set ?_ (nw _ _ aE) _)
  exact hN)
 have g2:S.getO p2=some (.cells 33 kF.cs):=hS.ob p2 _ gH;have g3:S.getO p3=some (.cells 36 [.int .i64 0,.str [],.int .i64 0,.int .i64 0]):=hS.ob p3 _ gH;have g7:S.getO p7=some (.cells 36 [.int .i64 12,.str [],.int .i64 1,.int .i64 17]):=hS.ob p7 _ gH;have g9:S.getO p9=some (.cells 36 [.int .i64 11,.str [66],.int .i64 2,.int .i64 8]):=hS.ob p9 _ gH;have Z:S.getO bb=some (.cells 43 awT.cs):=hS.ob bb _ gH;have b4:S.getO bj=some (.cells 36 [.int .i64 0,.str [],.int .i64 0,.int .i64 0]):=hS.ob bj _ gH;have b5:S.getO bc=some (.cells 36 [.int .i64 11,.str [53],.int .i64 1,.int .i64 3]):=hS.ob bc _ gH;have b3:S.getO bg=some (.cells 36 [.int .i64 14,.str [115,116,97,114,116],.int .i64 1,.int .i64 22]):=hS.ob bg _ gH;have z2:s.getO p2=none:=by simp only[u]
 have z3:s.getO p3=none:=by simp only[y]
 have z6:s.getO p6=none:=by simp only[z]
 have z7:s.getO p7=none:=by simp only[F]
 have z8:s.getO p8=none:=by simp only[M]
 have z9:s.getO p9=none:=by simp only[O]
 have bw:s.getO bb=none:=by simp only[B]
 have bq:s.getO bj=none:=by simp only[H]
 have c0:s.getO bv=none:=by simp only[U]
 have bz:s.getO bc=none:=by simp only[b0]
 have c5:s.getO c4=none:=by simp only[b6]
 have bt:s.getO bg=none:=by simp only[b9]
 have br:S.ge s:=hS.trans (by
  repeat (refine hH (by assumption) ?_)
  exact aM _)
 clear z2 z3 z6 z7 z8 z9 bw bq c0 bz c5 bt;clear hS hM u y z F M O B H U b0 b6 b9;rw[aVU,aTz];simp only[bT];have bn:S.getO bb=some (.cells 43 awT.cs):=Z;simp only[Dfn.cs,Sig.cs,aZ,bA]at g2;simp only[Tm.cs]at Z;have nq:∀{T:St} {q b:Nat} {o:Ob},T.getO q=some o->T.getO b=none->¬ b=q:=λh1 h2 e=>by rw[e,h1]at h2;cases h2
 simp only[go_sem,g2];(refine aQ λbm b8=>?_);have n2:=nq g2 b8;simp only[go_sem,b8,g2,n2];refine aIr kF aEC aNl [73,110,116] [98] aE aE _ ?_ _ _ (rst λS2 hS hM=>?_)
 ·repeat (refine NoW.set ?_ (nw _ _ aE) _)
  exact bl
 have c3:NoW S2:=hM (by
  repeat (refine NoW.set ?_ (nw _ _ aE) _)
  exact bl)
 have hb:S2.ge S:=hS.trans cD;have b2:S2.getO bm=some (.cells 33 aCz.cs):=hS.ob bm _ gH
 replace g2:=hb.ob p2 _ g2
 replace g3:=hb.ob p3 _ g3
 replace g7:=hb.ob p7 _ g7
 replace g9:=hb.ob p9 _ g9
 replace Z:=hb.ob bb _ Z
 replace b4:=hb.ob bj _ b4
 replace b5:=hb.ob bc _ b5
 replace b3:=hb.ob bg _ b3
 have bp:S2.ge s:=hb.trans br;clear hb hS hM b8 n2 bl bn;rw[aVY];simp only[cE,bR];simp only[go_sem,g2];(refine aQ λc6 m=>?_);have n2:=nq g2 m;have n3:=nq g3 m;have n7:=nq g7 m;have n9:=nq g9 m;have bk:=nq Z m;have bf:=nq b4 m;have bd:=nq b5 m;have bh:=nq b3 m;have b7:=nq b2 m;have l1:(List.map Opr.enc kF.sig.ops)=[Opr.enc ⟨[97],[],[65],[⟨[97],[]⟩],0,0,[]⟩]:=rfl;have l2:(List.map Opr.enc aCz.sig.ops)=[Opr.enc ⟨[98],[],[65],[⟨[97],[]⟩],0,0,[]⟩]:=rfl;have l3:(List.map Cel.enc kF.once)=[Cel.enc ⟨[99],[65],.mk 6 0 [36] [65,110,121] [] [],1,52⟩]:=rfl;have l4:(List.map Tm.enc awT.kids)=[(Tm.mk 6 0 [88] [73,110,116] [] []).enc,(Tm.mk 7 0 [] [] [.mk 1 (-1) [] [] [] []] [.mk 6 0 [76] [76,105,115,116] [] []]).enc]:=rfl;have c1:((1:Nat):Int)=1:=rfl;have c2:((2:Nat):Int)=2:=rfl;have t1:Int.toNat 1=1:=rfl;have z1:((0:Int)<=1/\(1:Nat)<2)=True:=eq_true aE;simp only[Dfn.cs,Sig.cs,aZ,bA,l1,l3]at g2;simp only[Dfn.cs,Sig.cs,aZ,bA,l2]at b2;simp only[Tm.cs,l4]at Z;simp only[go_sem,m,g2,g3,g7,g9,Z,b4,b5,b3,b2,n2,n3,n7,n9,bk,bf,bd,bh,b7];simp only[go_sem,m,g2,g3,g7,g9,Z,b4,b5,b3,b2,n2,n3,n7,n9,bk,bf,bd,bh,b7,c1,c2,Int.reduceEq];simp only[go_sem,m,g2,g3,g7,g9,Z,b4,b5,b3,b2,n2,n3,n7,n9,bk,bf,bd,bh,b7,c1,c2,t1,z1,Int.reduceEq,List.append_eq,aZ,bA,aNe,List.lookup,eq_self,tR,Bool.and_self,gY,uP,Tm.text,Tm.kids,Tm.n,bN,dI,List.getElem?_cons_succ,lM,vS,kS];refine⟨by decide,?_⟩;refine aC1 kF aEC _ ?_ _ _ ?_
 ·repeat (refine NoW.set ?_ (nw _ _ aE) _)
  exact c3
 rw[aVT];simp only[go_sem,m,g2,b2,n2,b7];refine aC6 kF kF _ _ _ ?_;rw[aV2];simp only[go_sem,m,g2,b2,n2,b7];refine aC6 kF aCz _ _ _ ?_;rw[aV1];clear g2 g3 g7 g9 Z b4 b5 b3 b2 n2 n3 n7 n9 bk bf bd bh b7 l1 l2 l3 l4 c1 c2 t1 z1 nq nw;simp only[go_sem,gB];exact aS hk (St.ge.trans cD bp)
def rqC{T:List Tok}(h m:Int)(q:RQ T)(d:Dc):List A:=.list none (T.map Tok.enc)::.int .i64 q.at_::.int .i64 h::.int .i64 m::(q.f.cs++(.int .i64 q.first::.int .i64 q.nodes::.bool q.over::d.cs))
def rqO{T:List Tok}(h m:Int)(q:RQ T)(d:Dc):Ob:=.cells 95 (rqC h m q d)
attribute [go_sem] rqC rqO
theorem RQ.get{T:List Tok}{q:RQ T}(h:q.at_<T.length):T[q.at_]?=some q.tok:=by
 unfold RQ.tok;rw[aX h];rfl
theorem RQ.mem{T:List Tok}{q:RQ T}(h:q.at_<T.length):q.tok∈T:=bZ (RQ.get h)
theorem aIo{u:Nat}(h:¬ u<10):Lib.decDigits u=Lib.decDigits (u / 10)++Lib.decDigits (u % 10):=by
 rw[Lib.decDigits,dif_neg h];congr 1;rw[Lib.decDigits,dif_pos (Nat.mod_lt _ aC)]
theorem aQj(n:Nat)(h:n<10):List.take 1 (List.drop n ([48,49,50,51,52,53,54,55,56,57]:List UInt8))=[UInt8.ofNat (48+n)]:=by
 match n,h with
 | 0,_|1,_|2,_|3,_|4,_|5,_|6,_|7,_|8,_|9,_=>rfl
theorem aAC:∀(k u:Nat),u<10 ^ (k+1)->(Lib.decDigits u).length<=k+1
 | 0,u,h=>by rw[Lib.decDigits,dif_pos (gQ h)];simp
 | k+1,u,h=>by
  by_cases m:u<10
  .rw[Lib.decDigits,dif_pos m];simp
  .rw[Lib.decDigits,dif_neg m,aI,List.length_singleton];have:=aAC k (u / 10) (by rw[Nat.pow_succ]at h;omega);omega
theorem p19:(10:Nat) ^ (18+1)=10000000000000000000:=by decide
theorem aFN(m:Nat):∀(n:Nat) (s:St) (KV Kp:St->A->Prop),n<=m->(n:Int)<=9223372036854775807->KV s (.str (Lib.decDigits n))->Den cx 77 [.int .i64 (n:Int)] KV Kp s:=by
 induction m using Nat.strongRecOn with
 | _ m M =>
  intro n s KV Kp S U H;have d1:decide ((n:Int)<=-10)=false:=by rw[fR];omega
  have y:decide ((n:Int)<0)=false:=by rw[fR];omega
  (refine aR func77 [0,2,4,14,20] ?_;simp only[go_sem,ntmps77,f77]);simp only[go_sem,d1,y];cases c:decide ((n:Int)<10)with
  | true =>
   have u:n<10:=by simp at c;omega
   simp only[go_sem,d1,y,c];rw[cF n aC];refine⟨by omega,?_⟩;rw[show(((n+1:Nat):Int).toNat-n)=1 by omega]
   have e:List.take 1 (List.drop n ([48,49,50,51,52,53,54,55,56,57]:List UInt8))=Lib.decDigits n:=by
    rw[Lib.decDigits,dif_pos u];exact aQj n u
   rw[e];exact aO H
  | false =>
   have B:¬ n<10:=by simp at c;omega
   have z:IntKind.i64.wrap ((n:Int).tdiv 10)=((n / 10:Nat):Int):=by
    rw[show(n:Int).tdiv 10=((n / 10:Nat):Int) from rfl,hU _ aC aC]
   have F:IntKind.i64.wrap ((n:Int).tmod 10)=((n % 10:Nat):Int):=by
    rw[show(n:Int).tmod 10=((n % 10:Nat):Int) from rfl,hU _ aC aC]
   have h:((10:Int)=0)=False:=by simp
   simp only[go_sem,d1,y,c,h,z,F];refine M (n / 10) aC (n / 10) _ _ _ (aV _) aC ?_;simp only[go_sem,d1,y,c,h,z,F];refine M (n % 10) aC (n % 10) _ _ _ (aV _) aC ?_;simp only[go_sem,d1,y,c,h,z,F];have Z:=aAC 18 (n / 10) (by rw[p19];omega);have O:=aAC 18 (n % 10) (by rw[p19];omega);refine⟨by unfold maxLen;omega,?_⟩;rw[<-aIo B];exact aO H
theorem aFM(n:Int)(s:St)(KV Kp:St->A->Prop)(h1:-9223372036854775808<=n)(h2:n<=9223372036854775807)(u:KV s (.str (Lib.itoa n))):Den cx 77 [.int .i64 n] KV Kp s:=by
 by_cases Z:0<=n
 .obtain⟨m,rfl⟩:=Int.eq_ofNat_of_zero_le Z;refine aFN m m _ _ _ (aV _) h2 ?_;unfold Lib.itoa at u;rw[aB aC]at u;exact u
 .have neg:∀(m:Nat) (j:Int) (s:St) (KV Kp:St->A->Prop),j.natAbs<=m->-9223372036854775808<=j->j<0->KV s (.str (45::Lib.decDigits j.natAbs))->Den cx 77 [.int .i64 j] KV Kp s:=by
   intro m
   induction m with
   | zero=>intro j s KV Kp h _ h2;omega
   | succ m O =>
    intro j s KV Kp hm U b0 u;by_cases hb:j<=-10
    .have d1:decide (j<=-10)=true:=by rw[decide_eq_true_iff];exact hb
     have y:((10:Int)=0)=False:=by simp
     have S:j.tdiv 10=-((j.natAbs / 10:Nat):Int):=by
      have:j=-((j.natAbs:Nat):Int):=by omega
      rw[this,Int.neg_tdiv];simp only[Int.natAbs_neg,Int.natAbs_natCast];rfl
     have B:j.tmod 10=-((j.natAbs % 10:Nat):Int):=by
      have:j=-((j.natAbs:Nat):Int):=by omega
      rw[this,Int.neg_tmod];simp only[Int.natAbs_neg,Int.natAbs_natCast];rfl
     have z:IntKind.i64.wrap (j.tdiv 10)=-((j.natAbs / 10:Nat):Int):=by rw[S,hU _ aC aC]
     have H:IntKind.i64.wrap (j.tmod 10)=-((j.natAbs % 10:Nat):Int):=by rw[B,hU _ aC aC]
     have M:IntKind.i64.wrap (0 - -((j.natAbs % 10:Nat):Int))=((j.natAbs % 10:Nat):Int):=by rw[hU _ aC aC];omega
     (refine aR func77 [0,2,4,14,20] ?_;simp only[go_sem,ntmps77,f77]);simp only[go_sem,d1,y,z];refine O _ _ _ _ aC aC aC ?_;simp only[go_sem,d1,y,z,H,M,B];refine aFN _ (j.natAbs % 10) _ _ _ (aV _) aC ?_;simp only[go_sem,d1,y,z,H,M,B];have l1:=aAC 18 (j.natAbs / 10) (by rw[p19];omega);have l2:=aAC 18 (j.natAbs % 10) (by rw[p19];omega);have e4:(-((j.natAbs / 10:Nat):Int)).natAbs=j.natAbs / 10:=by omega
     rw[e4];refine⟨by unfold maxLen;omega,?_⟩;rw[<-aIo aC];exact aO u
    .have d1:decide (j<=-10)=false:=by rw[fR];omega
     have F:decide (j<0)=true:=by rw[decide_eq_true_iff];omega
     have z:IntKind.i64.wrap (0-j)=((j.natAbs:Nat):Int):=by rw[hU _ aC aC];omega
     (refine aR func77 [0,2,4,14,20] ?_;simp only[go_sem,ntmps77,f77]);simp only[go_sem,d1,F,z];refine aFN _ j.natAbs _ _ _ (aV _) aC ?_;simp only[go_sem,d1,F,z];have l1:=aAC 18 j.natAbs (by rw[p19];omega);refine⟨by unfold maxLen;omega,?_⟩;exact aO u
  refine neg _ n _ _ _ (aV _) h1 aC ?_;unfold Lib.itoa at u;rw[aF aC]at u;exact u
theorem cL{p:Prop}(h:p:=by((try simp only[aI,aG,aH]);unfold maxLen;omega)):p:=h
def dS(sep:aD):Bool->List aD->aD
 | _,[]=>[]
 | b,x::r=>(if b=true then sep else [])++(x++dS sep true r)
theorem aKx(sep:aD):∀(a:List aD) (b:Bool) (x:aD),dS sep b (a++[x])=dS sep b a++((if b=true\/a≠[] then sep else [])++x)
 | [],b,x=>by cases b<;>simp[dS]
 | y::a,b,x=>by rw[aZ,dS,dS,aKx sep a true x];simp
theorem aJ8(sep:aD){l:List aD}{i:Nat}{x:aD}(h:l[i]?=some x):dS sep false (l.take (i+1))=dS sep false (l.take i)++((if 0<i then sep else [])++x):=by
 rw[fD,h,Option.toList,aKx];obtain⟨m,_⟩:=eF.1 h
 have e:(false=true\/l.take i≠[])=(0<i):=by
  cases i with
  | zero=>simp
  | succ i =>
   have:l≠[]:=λe=>by rw[e]at m;exact cM m (Nat.not_lt_zero _)
   simp[this]
 simp only[e]
theorem aGN(sep:aD):∀(l:List aD) (b:Bool) (i:Nat),(dS sep b (l.take i)).length<=(dS sep b l).length
 | [],b,i=>by simp
 | x::l,b,0=>by simp[dS]
 | x::l,b,i+1=>by
  have:=aGN sep l true i;rw[List.take_succ_cons,dS,dS];simp only[aI];omega
def oA(e:Bool):List Tm->aD
 | []=>[]
 | t::_=>(if e=true then [124,32] else [32,124,32])++t.text
mutual
def Tm.w2:Tm->aD
 | .mk k n x y ks rs =>
  if k=1 then Lib.itoa n
  else if k=2 then(if n=1 then [116,114,117,101] else [102,97,108,115,101])
  else if k=3 then [34]++x++[34]
  else if k=4 then [39]++x
  else if k=6 then(if x=[95]\/x=[36] then x else x++[58]++y)
  else if k=5 then x++[40]++dS [44,32] false (aCp ks)++[41]
  else if k=7 then [91]++dS [44,32] false (aCp ks)++oA (decide (ks.length=0)) rs++[93]
  else [123]++jA false ks++oA (decide (ks.length=0)) rs++[125]
def aCp:List Tm->List aD
 | []=>[]
 | t::r=>t.w2::aCp r
def jA:Bool->List Tm->aD
 | _,[]=>[]
 | _,[_]=>[]
 | b,k::v::r=>(if b=true then [44,32] else [])++(k.w2++[32,45,62,32]++v.w2++jA true r)
end
theorem aEc:∀l:List Tm,aCp l=l.map Tm.w2
 | []=>rfl
 | t::r=>by rw[aCp,aEc r];rfl
theorem aLt(t:Tm):t.w2 =
  if t.kind=1 then Lib.itoa t.n
  else if t.kind=2 then(if t.n=1 then [116,114,117,101] else [102,97,108,115,101])
  else if t.kind=3 then [34]++t.text++[34]
  else if t.kind=4 then [39]++t.text
  else if t.kind=6 then(if t.text=[95]\/t.text=[36] then t.text else t.text++[58]++t.sort)
  else if t.kind=5 then t.text++[40]++dS [44,32] false (t.kids.map Tm.w2)++[41]
  else if t.kind=7 then [91]++dS [44,32] false (t.kids.map Tm.w2)++oA (decide (t.kids.length=0)) t.rest++[93]
  else [123]++jA false t.kids++oA (decide (t.kids.length=0)) t.rest++[125]:=by
 cases t;rw[Tm.w2];simp only[aEc];rfl
theorem vN(l:List aD)(sep:aD)(U:(dS sep false l).length<=4294967296)(s:St)(KV Kp:St->A->Prop)(S:KV s (.str (dS sep false l))):Den cx 50 [.list none (l.map .str),.str sep] KV Kp s:=by
 refine iO λz=>?_
 have F:=z _ (bU ..);(refine aR func50 [0,1,4,5,6,7,8,9,10,11,16] ?_;simp only[go_sem,ntmps50,f50])
 refine Ex.loop (ι:=Nat) (λi=>[(1,.str sep),(5,.str (dS sep false (l.take i))),(8,.list none (l.map .str)),(9,.int .i64 l.length),(10,.int .i64 (i:Nat))]) (λ_=>s)
  (λi=>i<=l.length) (λi=>l.length-i) 0 (aU _) ?_ (aM s) ?_
 ·(simp only[go_sem];try exact⟨rfl,rfl⟩)
 .rintro i Z;refine bE (V:=[0,1,4,5,6,7,8,9,10,11,16]) _ _ _ _ ?_;simp only[go_sem]
  (apply aT<;>intro h)<;>simp only[go_sem,h]
  .have m:i<l.length:=gQ h;obtain⟨x,H⟩:∃a,l[i]?=some a:=⟨_,aX m⟩
   clear h;have u:=aJ8 sep H;have y:=aGN sep l false (i+1);rw[u,aI,aI]at y;simp only[go_sem,H,m];have O:=F.wrap (i:=i) (gQ m);by_cases M:0<i
   .rw[aF M]at u y;have B:decide ((0:Int)<(i:Int))=true:=fN aC;simp only[go_sem,B];refine⟨cL,cL,i+1,m,by omega,?_,aM _⟩;simp only[go_sem,O,u,bG]
   .rw[aB M]at u y;have B:decide ((0:Int)<(i:Int))=false:=eQ aC;simp only[go_sem,B];refine⟨by simp only[aH]at y;unfold maxLen;omega,i+1,m,by omega,?_,aM _⟩;simp only[go_sem,O,u]
  .have m:i=l.length:=by have:¬ i<l.length:=gQ h;omega
   rw[m,List.take_length];exact aO S
mutual
def A.ir:A->Prop
 | .int .i64 i=>-9223372036854775808<=i/\i<=9223372036854775807
 | .list _ es=>jS es
 | .agg cs=>jS cs
 | _=>True
def jS:List A->Prop
 | []=>True
 | a::r=>A.ir a/\jS r
end
theorem aL6{l r:List A}(h:jS l)(h2:jS r):jS (l++r):=by
 induction l with
 | nil=>exact h2
 | cons a l m=>exact⟨h.1,m h.2⟩
theorem aQR{a:A}(h:jS a.cells):a.ir:=by
 cases a<;>first|exact h.1|exact h
theorem qM{α:Type}{en:α->A}{l:List α}(h:jS (l.map en)){x:α}(m:x∈l):(en x).ir:=by
 induction l with
 | nil=>cases m
 | cons y r u =>
  rw[bN,jS]at h;rcases List.mem_cons.1 m with rfl|m
  .exact h.1
  .exact u h.2 m
theorem aNj{t:Tm}(h:t.enc.ir):(-9223372036854775808<=t.n/\t.n<=9223372036854775807)/\∀x,x∈t.kids->x.enc.ir:=by
 rw[dJ]at h;simp only[Tm.cs,A.ir,jS]at h;exact⟨h.2.1,λx m=>qM h.2.2.2.2.1 m⟩
theorem aHD{o:Opr}(h:o.enc.ir):(-9223372036854775808<=o.prec/\o.prec<=9223372036854775807)/\∀n,n∈o.strict->-9223372036854775808<=n/\n<=9223372036854775807:=by
 simp only[Opr.enc,Opr.cs,A.ir,jS]at h;exact⟨h.2.2.2.2.1,λn m=>qM (en:=A.int .i64) h.2.2.2.2.2.2.1 m⟩
theorem aHl{d:Dfn}(h:d.enc.ir):(∀o,o∈d.sig.ops->o.enc.ir)/\(∀e,e∈d.eqs->e.enc.ir)/\(∀c,c∈d.once->c.enc.ir)/\(∀c,c∈d.many->c.enc.ir)/\∀r,r∈d.rules->r.enc.ir:=by
 simp only[Dfn.enc,Dfn.cs,Sig.cs,A.ir,jS,aZ,bA]at h;exact⟨λo ho=>qM h.2.2.2.1 ho,λo ho=>qM h.2.2.2.2.2.2.1 ho,λo ho=>qM h.2.2.2.2.2.2.2.1 ho,λo ho=>qM h.2.2.2.2.2.2.2.2.2.1 ho,λo ho=>qM h.2.2.2.2.2.2.2.2.2.2.1 ho⟩
def aHS(t:Tm):Prop:=∀(s:St) (KV Kp:St->A->Prop),t.w2.length<=4294967296->KV s (.str t.w2)->Den cx 52 [.agg t.cs] KV Kp s
theorem aJ0(l:List Tm)(O:∀t,t∈l->aHS t)(hB:(dS [44,32] false (l.map Tm.w2)).length<=4294967296)(s:St)(KV Kp:St->A->Prop)(hk:KV s (.str (dS [44,32] false (l.map Tm.w2)))):Den cx 96 [.list none (l.map Tm.enc)] KV Kp s:=by
 refine iO λF=>?_
 have M:=F _ (bU ..);(refine aR func96 [0,2,3,4,5,6,7,8,9,14] ?_;simp only[go_sem,ntmps96,f96])
 refine Ex.loop (ι:=Nat) (λi=>[(3,.str (dS [44,32] false ((l.map Tm.w2).take i))),(6,.list none (l.map Tm.enc)),(7,.int .i64 l.length),(8,.int .i64 (i:Nat))]) (λ_=>s)
  (λi=>i<=l.length) (λi=>l.length-i) 0 (aU _) ?_ (aM s) ?_
 ·(simp only[go_sem];try exact⟨rfl,rfl⟩)
 .rintro i hi;refine bE (V:=[0,2,3,4,5,6,7,8,9,14]) _ _ _ _ ?_;simp only[go_sem]
  (apply aT<;>intro h)<;>simp only[go_sem,h]
  .have m:i<l.length:=gQ h;obtain⟨x,z⟩:∃a,l[i]?=some a:=⟨_,aX m⟩
   clear h;have B:(l.map Tm.w2)[i]?=some x.w2:=by rw[lO,z];rfl
   have y:=aJ8 [44,32] B;have u:=aGN [44,32] (l.map Tm.w2) false (i+1);rw[y,aI,aI]at u;simp only[go_sem,z,m];(refine aQ λp Z=>?_);simp only[go_sem,Z];have U:=M.wrap (i:=i) (gQ m);by_cases S:0<i
   .rw[aF S]at y u;simp only[aG,aH]at u;have H:decide ((0:Int)<(i:Int))=true:=fN aC;simp only[go_sem,H];refine⟨cL,?_⟩;refine O x (bZ z) _ _ _ aC ?_;simp only[go_sem];refine⟨cL,i+1,m,by omega,?_,cD⟩;simp only[go_sem,U,y,bG]
   .rw[aB S]at y u;have H:decide ((0:Int)<(i:Int))=false:=eQ aC;simp only[go_sem,H];refine O x (bZ z) _ _ _ (by simp only[aH]at u;omega) ?_;simp only[go_sem];refine⟨by simp only[aH]at u;exact cL,i+1,m,by omega,?_,cD⟩;simp only[go_sem,U,y]
  .have m:i=l.length:=by have:¬ i<l.length:=gQ h;omega
   rw[m,show(l.map Tm.w2).take l.length=l.map Tm.w2 from eG bJ];exact aO hk
theorem aJr(l:List Tm)(b:Bool)(u:(oA b l).length<=4294967296)(s:St)(KV Kp:St->A->Prop)(h:KV s (.str (oA b l))):Den cx 97 [.list none (l.map Tm.enc),.bool b] KV Kp s:=by
 (refine aR func97 [0,1,4,5,9] ?_;simp only[go_sem,ntmps97,f97]);cases l with
 | nil =>
  simp only[go_sem,show decide (((0:Nat):Int)=0)=true from rfl];exact aO h
 | cons t r =>
  have m:decide (((r.length+1:Nat):Int)=0)=false:=eQ aC;simp only[go_sem,m];cases b with
  | true =>
   simp only[oA,bT,aI,aG,aH]at u h;simp only[go_sem];exact⟨cL,aO h⟩
  | false =>
   simp only[oA,cE,bR,aI,aG,aH]at u h;simp only[go_sem];exact⟨cL,aO h⟩
theorem aLX:∀(n:Nat) (a:List Tm) (b:Bool) (k v:Tm),a.length=2 * n->jA b (a++[k,v])=jA b a++((if b=true\/0<n then [44,32] else [])++(k.w2++[32,45,62,32]++v.w2))
 | 0,a,b,k,v,h=>by
  rw[fW (by omega:a.length=0)];simp[jA]
 | n+1,a,b,k,v,h=>by
  match a,h with
  | x::y::a,h =>
   rw[aZ,aZ,jA,jA,aLX n a true k v (by simp only[aG]at h;omega)];simp
theorem aSz{l:List Tm}{n:Nat}{k v:Tm}(h:l[2 * n]?=some k)(h2:l[2 * n+1]?=some v):jA false (l.take (2 * n+2))=jA false (l.take (2 * n))++((if 0<n then [44,32] else [])++(k.w2++[32,45,62,32]++v.w2)):=by
 obtain⟨m,_⟩:=eF.1 h2;rw[show 2 * n+2=(2 * n+1)+1 from rfl,fD,h2,fD,h,Option.toList,Option.toList,bG,List.singleton_append,aLX n _ _ _ _ (by rw[cQ];omega)];simp
theorem aG3:∀(n:Nat) (l:List Tm) (b:Bool) (j:Nat),l.length<=n->(jA b (l.take j)).length<=(jA b l).length
 | n,[],b,j,_=>by simp
 | n,[x],b,0,_=>by simp[jA]
 | n,[x],b,j+1,_=>by simp[jA]
 | n,x::y::l,b,0,_=>by simp[jA]
 | n,x::y::l,b,1,_=>by simp[jA]
 | n+1,x::y::l,b,j+2,h=>by
  have:=aG3 n l true j (by simp only[aG]at h;omega);rw[List.take_succ_cons,List.take_succ_cons,jA,jA];simp only[aI];omega
theorem aMe:∀(n:Nat) (l:List Tm) (b:Bool),l.length<=2 * n+1->2 * n<=l.length->jA b (l.take (2 * n))=jA b l
 | 0,l,b,h,_=>by
  match l,h with
  | [],_=>rfl
  | [x],_=>simp[jA]
 | n+1,l,b,h,h2=>by
  match l,h,h2 with
  | x::y::l,h,h2 =>
   simp only[aG]at h h2;rw[show 2 * (n+1)=2 * n+1+1 by omega,List.take_succ_cons,List.take_succ_cons,jA,jA,aMe n l true aC aC]
theorem aBk(m:Nat):∀t:Tm,SizeOf.sizeOf t<m->t.enc.ir->aHS t:=by
 induction m with
 | zero=>intro t hm;omega
 | succ m ih =>
 intro t hm hI s KV Kp B z;obtain⟨hN,hI⟩:=aNj hI;have Z:∀x,x∈t.kids->aHS x:=λx H=>ih x (by have:=aBP H;omega) (hI x H)
 refine iO λb2=>?_
 have b4:=b2 _ (bU ..);have b5:Rlz (.list none (t.kids.map Tm.enc)):=b4.cell (by simp[Tm.cs]);have S:=b5.len;rw[aK]at S;clear b2;rw[aLt]at B z;(refine aR func52 [0,1,2,3,4,6,7,12,16,17,23,28,37,46,56,76,80] ?_;simp only[go_sem,ntmps52,f52]);(refine aQ λp u=>?_);simp only[go_sem,u];by_cases k1:t.kind=1
 .rw[aF k1]at B z;simp only[go_sem,u,k1];refine aFM _ _ _ _ hN.1 hN.2 ?_;simp only[go_sem];exact aS z cD
 rw[aB k1]at B z;have d1:=eQ k1;simp only[go_sem,u,d1];by_cases k2:t.kind=2
 .rw[aF k2]at B z;by_cases n1:t.n=1
  .rw[aF n1]at z;simp only[go_sem,u,k2,n1];exact aS z cD
  .rw[aB n1]at z;have d2:=eQ n1;simp only[go_sem,u,k2,d2];exact aS z cD
 rw[aB k2]at B z;have d2:=eQ k2;simp only[go_sem,u,d2];by_cases k3:t.kind=3
 .rw[aF k3]at B z;simp only[go_sem,u,k3];simp only[aI,aG,aH]at B;refine⟨cL,cL,?_⟩;exact aS z cD
 rw[aB k3]at B z;have d3:=eQ k3;simp only[go_sem,u,d3];by_cases k4:t.kind=4
 .rw[aF k4]at B z;simp only[go_sem,u,k4];simp only[aI,aG,aH]at B;refine⟨cL,?_⟩;exact aS z cD
 rw[aB k4]at B z;have d4:=eQ k4;simp only[go_sem,u,d4];by_cases k6:t.kind=6
 .rw[aF k6]at B z;simp only[go_sem,u,k6];by_cases h1:t.text=[95]
  .have e1:=fN h1;rw[aF (.inl h1)]at z;simp only[go_sem,u,e1];exact aS z cD
  have e1:=eQ h1;by_cases h2:t.text=[36]
  .have e2:=fN h2;rw[aF (.inr h2)]at z;simp only[go_sem,u,e1,e2];exact aS z cD
  have e2:=eQ h2;have h3:¬ (t.text=[95]\/t.text=[36]):=λh=>h.elim h1 h2
  rw[aB h3]at z B;simp only[aI,aG,aH]at B;simp only[go_sem,u,e1,e2];exact⟨cL,cL,aS z cD⟩
 rw[aB k6]at B z;have d6:=eQ k6;simp only[go_sem,u,d6];by_cases k5:t.kind=5
 .rw[aF k5]at B z;simp only[go_sem,u,k5];simp only[aI,aG,aH]at B;(refine bO (OT.r 0 9) [(5,[1])] ?_;simp only[go_sem,u]);refine⟨cL,?_⟩;refine aJ0 t.kids Z aC _ _ _ ?_;simp only[go_sem,u];exact⟨cL,cL,aS z cD⟩
 rw[aB k5]at B z;have d5:=eQ k5;simp only[go_sem,u,d5];by_cases k7:t.kind=7
 .rw[aF k7]at B z;simp only[go_sem,u,k7];simp only[aI,aG,aH]at B;(refine bO (OT.l [0,1,4,5,6,7,8,9,2,3,10,11,12,13] .nil) [(2,[5,7])] ?_;simp only[go_sem,u]);refine aJ0 t.kids Z aC _ _ _ ?_;have e0:decide ((t.kids.length:Int)=0)=decide (t.kids.length=0):=by congr 1;apply propext;omega
  simp only[go_sem,u,e0];refine⟨cL,?_⟩;refine aJr t.rest _ aC _ _ _ ?_;simp only[go_sem,u];exact⟨cL,cL,aS z cD⟩
 rw[aB k7]at B z;have d7:=eQ k7;simp only[go_sem,u,d7];simp only[aI,aG,aH]at B
 refine Ex.loop (ι:=Nat) (λi=>[(1,.ptr p 0),(3,.str ([123]++jA false (t.kids.take (2 * i)))),(4,.int .i64 ((2 * i:Nat)))]) (λ_=>s.setO p (.cells 43 t.cs))
  (λi=>2 * i<=t.kids.length) (λi=>t.kids.length-2 * i) 0 (aU _) ?_ (by exact aM _) ?_
 ·(simp only[go_sem,u];try exact⟨rfl,rfl⟩)
 .rintro i hi;refine bE (V:=[0,1,2,3,4,6,7,12,16,17,23,28,37,46,56,76,80]) _ _ _ _ ?_;have b6:=aG3 _ t.kids false (2 * i) (aV _);have O:=cF (2 * i) (by unfold maxLen at S;omega);simp only[go_sem,u,O]
  (apply aT<;>intro h)<;>simp only[go_sem,h,u]
  .have F:2 * i+1<t.kids.length:=gQ h;clear h;obtain⟨x,H⟩:∃a,t.kids[2 * i]?=some a:=⟨_,aX aC⟩
   obtain⟨y,M⟩:∃a,t.kids[2 * i+1]?=some a:=⟨_,aX F⟩
   have ht:=aSz H M;have U:=aG3 _ t.kids false (2 * i+2) (aV _);rw[ht]at U;simp only[aI,aG,aH]at U;have w2:IntKind.i64.wrap (((2 * i:Nat):Int)+2)=((2 * (i+1):Nat):Int):=by unfold maxLen at S;rw[hU _ aC aC];omega
   have b3:x∈t.kids:=bZ H;have b0:y∈t.kids:=bZ M;have lx:2 * i<t.kids.length:=by omega
   by_cases h0:0<i
   .rw[aF h0]at ht U;simp only[aG,aH]at U;have d0:decide ((0:Int)<((2 * i:Nat):Int))=true:=fN aC;simp only[go_sem,u,d0];refine⟨cL,?_⟩;(refine bO (OT.l [0,1,2,3,4,5,8,9,10,11,12,13,6,7,14,15,16,17] .nil) [(6,[9,13])] ?_;simp only[go_sem,u,H,M,O,lx,F]);refine Z x b3 _ _ _ aC ?_;simp only[go_sem,u,H,M,O,lx,F];refine⟨cL,?_⟩;refine Z y b0 _ _ _ aC ?_;simp only[go_sem,u,H,M,O,w2,lx,F];refine⟨cL,cL,i+1,by omega,by omega,?_,cD⟩;simp only[go_sem,show 2 * (i+1)=2 * i+2 from rfl,ht,bG]
   .rw[aB h0]at ht U;simp only[aH]at U;have d0:decide ((0:Int)<((2 * i:Nat):Int))=false:=eQ aC;simp only[go_sem,u,d0];(refine bO (OT.l [0,1,2,3,4,5,8,9,10,11,12,13,6,7,14,15,16,17] .nil) [(6,[9,13])] ?_;simp only[go_sem,u,H,M,O,lx,F]);refine Z x b3 _ _ _ aC ?_;simp only[go_sem,u,H,M,O,lx,F];refine⟨cL,?_⟩;refine Z y b0 _ _ _ aC ?_;simp only[go_sem,u,H,M,O,w2,lx,F];refine⟨cL,cL,i+1,by omega,by omega,?_,cD⟩;simp only[go_sem,show 2 * (i+1)=2 * i+2 from rfl,ht,bG]
  .have F:¬ 2 * i+1<t.kids.length:=gQ h;clear h;rw[aMe i t.kids false aC hi];have e0:decide ((t.kids.length:Int)=0)=decide (t.kids.length=0):=by congr 1;apply propext;omega
   simp only[go_sem,u,e0];refine aJr t.rest _ aC _ _ _ ?_;simp only[go_sem,u];exact⟨cL,cL,aS z cD⟩
theorem oZ{C:Cx}{s:St}{tk:Option Nat}{l:List aD}{x:aD}{F:TI}{KV:St->A->Prop}(M:tk=none->l=[])(O:∀t,tk=some t->s.getT t=none)(hl:l.length<=4294967295)
  (S:∀u,s.getT u=none->KV (s.setT u (l.length+1,9)) (.list (some u) ((l++[x]).map .str)))(B:F.sz=1:=by rfl)(U:C.det=false:=by rfl)(h:Nat.beq C.mu 1=false:=by rfl):oB C (gs s tk l.length 9) 9 F [.str x] KV (gv tk (l.map .str)):=by
 refine eI U h (by rw[aK];exact iU λe=>by rw[M e];rfl) (λy H=>?_) (by simp only[aK,aG,aH];omega) (λu h=>?_)
 .obtain⟨z,_,rfl⟩:=cH.1 H;rw[B];rfl
 .have m:=gI h O;rw[fY h];have:=S u m;rw[cN]at this;simpa using this
theorem mL{x:aD}:∀y,y∈[A.str x]->y.cells.length=1:=λy h=>by
 rw[cC.1 h];rfl
theorem aIP(l:List Tm)(hl:l.length<=4294967295)(Z:∀t,t∈l->t.enc.ir/\t.w2.length<=4294967296)(s:St)(KV Kp:St->A->Prop)(S:KV s (.list none ((l.map Tm.w2).map .str))):Den cx 98 [.list none (l.map Tm.enc)] KV Kp s:=by
 (refine aR func98 [0,2,3,5,6,7,8,9] ?_;simp only[go_sem,ntmps98,f98])
 refine Ex.loop (ι:=Nat × List aD × Option Nat) (λc=>[(3,gv c.2.2 (c.2.1.map .str)),(6,.list none (l.map Tm.enc)),(7,.int .i64 l.length),(8,.int .i64 (c.1:Nat))]) (λc=>gs s c.2.2 c.2.1.length 9)
  (λc=>(c.2.2=none->c.2.1=[])/\(∀t,c.2.2=some t->s.getT t=none)/\c.1<=l.length/\c.2.1=(l.take c.1).map Tm.w2) (λc=>l.length-c.1) (0,[],none) ⟨λ_=>rfl,λt e=>(by cases e),aU _,rfl⟩ ?_ (by exact aM _) ?_
 .simp only[go_sem]
  first|done|exact rfl|exact⟨rfl,rfl⟩
 .rintro⟨i,L,tk⟩ ⟨H,M,hi,z⟩;simp only at H M hi z;have b0:L.length<=l.length:=by rw[z,aK,cQ];omega
  refine bE (V:=[0,2,3,5,6,7,8,9]) _ _ _ _ ?_;simp only[go_sem]
  (apply aT<;>intro h)<;>simp only[go_sem,h]
  .have m:i<l.length:=gQ h;clear h;obtain⟨x,B⟩:∃a,l[i]?=some a:=⟨_,aX m⟩
   simp only[go_sem,B,m];(refine iK λp F=>?_);simp only[go_sem,B,m,F];have y:=Z x (bZ B);refine aBk _ x (iD _) y.1 _ _ _ y.2 ?_;simp only[go_sem,F];refine⟨by decide,mL,oZ H M aC (λu U=>?_)⟩;simp only[go_sem,F];refine⟨(i+1,L++[x.w2],some u),⟨λh=>(by cases h),λt h=>by cases h;exact U,m,by rw[z,fD,B,cN];rfl⟩,aP,?_,?_⟩
   .simp only[go_sem,cF i aC,dF]
   .rw[aI];exact gR (jD F)
  .have O:i=l.length:=by have:¬ i<l.length:=gQ h;omega
   rw[O,List.take_length]at z;rw[<-z]at S;exact DK.mk S (lI (aM _) M) (iQ _ _ (λe=>by rw[H e];rfl))
def wA(l:List Tm):aD:=if l=[] then [] else [32,105,102,32]++dS [44,32] false (l.map Tm.w2)
theorem zA(sep:aD):∀(l:List aD) (b:Bool) (x:aD),x∈l->x.length<=(dS sep b l).length
 | y::l,b,x,h=>by
  rw[dS];simp only[aI];rcases List.mem_cons.1 h with rfl|h
  .omega
  .have:=zA sep l true x h;omega
theorem aIN(l:List Tm)(hl:l.length<=4294967295)(B:∀t,t∈l->t.enc.ir)(m:(wA l).length<=4294967296)(s:St)(KV Kp:St->A->Prop)(h:KV s (.str (wA l))):Den cx 53 [.list none (l.map Tm.enc)] KV Kp s:=by
 unfold wA at m h;(refine aR func53 [0,2,5] ?_;simp only[go_sem,ntmps53,f53]);by_cases u:l=[]
 .subst u;rw[aF rfl]at h;simp only[go_sem,show decide (((0:Nat):Int)=0)=true from rfl];exact aO h
 .rw[aB u]at h m;simp only[aI,aG,aH]at m;have z:decide ((l.length:Int)=0)=false:=eQ (by have:=List.length_pos_iff.2 u;omega);simp only[go_sem,z];refine aIP l hl (λt y=>⟨B t y,by have:=zA [44,32] (l.map Tm.w2) false t.w2 (qB y);omega⟩) _ _ _ ?_;simp only[go_sem];refine vN _ _ aC _ _ _ ?_;simp only[go_sem];exact⟨cL,aO h⟩
def nZ(c:Cel):aD:=c.name++[32,58,32]++c.sort++[32,61,32]++c.init.w2
theorem aIi(c:Cel)(y:c.init.enc.ir)(m:(nZ c).length<=4294967296)(s:St)(KV Kp:St->A->Prop)(u:KV s (.str (nZ c))):Den cx 54 [.agg c.cs] KV Kp s:=by
 unfold nZ at m u;simp only[aI,aG,aH]at m;(refine aR func54 [0,1,2] ?_;simp only[go_sem,ntmps54,f54]);(refine aQ λp h=>?_);simp only[go_sem,h];(refine bO (OT.r 0 12) [(9,[1,4])] ?_;simp only[go_sem,h]);refine⟨cL,cL,cL,?_⟩;refine aBk _ c.init (iD _) y _ _ _ aC ?_;simp only[go_sem,h];exact⟨cL,aS u cD⟩
section
def sA(a:aD):aD:=32::a
def pI(p:Piece):aD:=if p.sort=[] then [32,34]++p.text++[34] else 32::p.sort
def zB(l:List Int):aD:=if l=[] then [] else [32,115,116,114,105,99,116,40]++dS [44,32] false (l.map Lib.itoa)++[41]
def tY(n:Int):aD:=if n=1 then [32,108,101,102,116] else if n=2 then [32,114,105,103,104,116] else []
def uF(n:Int):aD:=if n=0 then [] else [32,112,114,101,99,32]++Lib.itoa n
def nL(o:Opr):aD:=[111,112,32]++o.name++[32,58]++(if o.pieces=[] then o.args.flatMap sA else [])++o.pieces.flatMap pI++([32,45,62,32]++o.sort)++uF o.prec++tY o.assoc++zB o.strict
theorem dkS{KV:St->A->Prop}{s s2:St}{w Z:aD}(h:KV s2 (.str Z))(m:s.ge s2)(e:w=Z):DK KV s (.str w):=by subst e;exact aS h m
theorem aEE{P Q:Prop}(h:P)(h2:(True->P)->Q):Q:=h2 λ_=>h
section
variable {o:Opr} {s:St} {KV Kp:St->A->Prop}
theorem aOO(hI:o.enc.ir)(hn:o.strict.length<=4294967295)(z:(nL o).length<=4294967296)(F:KV s (.str (nL o))):Den cx 51 [.agg o.cs] KV Kp s:=by
 obtain⟨hP,hS⟩:=aHD hI;refine iO λb2=>?_
 have M:=b2 _ (bU ..);have b3:Rlz (.list none (o.args.map .str)):=M.cell (by simp[Opr.cs]);have b6:Rlz (.list none (o.pieces.map Piece.enc)):=M.cell (by simp[Opr.cs]);have b5:Rlz (.list none (o.strict.map (.int .i64))):=M.cell (by simp[Opr.cs]);clear b2;unfold nL at z F;simp only[aI,aG,aH]at z;(refine aR func51 [0,1,2,3,5,7,8,10,18,20,21,22,23,32,33,34,35,40,60,68,69,73,80,82,83,84,85] ?_;simp only[go_sem,ntmps51,f51]);(refine aQ λp y=>?_);simp only[go_sem,y];refine⟨cL,cL,?_⟩
 have dP:decide ((o.pieces.length:Int)=0)=decide (o.pieces=[]):=by
  congr 1;apply propext;rw[<-List.length_eq_zero_iff];omega
 have b8:(if o.pieces=[] then o.args.flatMap sA else []).length<=4294967296:=by omega
 have bb:∀i,((o.pieces.take i).flatMap pI).length<=(o.pieces.flatMap pI).length:=sY pI o.pieces
 obtain⟨Y,U⟩:∃Y:aD,Y=if o.pieces=[] then o.args.flatMap sA else []:=⟨_,rfl⟩
 rw[<-U]at z F;obtain⟨X,hX⟩:∃X:aD,X=[111,112,32]++o.name++[32,58]++Y:=⟨_,rfl⟩
 have bd:X.length=o.name.length+5+Y.length:=by rw[hX];simp only[aI,aG,aH];omega
 rw[<-hX]at F;apply aEE
 case h2 =>
  intro b4;by_cases h0:o.pieces=[];have d0:decide (o.pieces=[])=true:=fN h0;rw[aF h0]at U;simp only[go_sem,y,dP,d0]
  refine Ex.loop (ι:=Nat) (λi=>[(1,.ptr p 0),(3,.str ([111,112,32]++o.name++[32,58]++(o.args.take i).flatMap sA)),(20,.list none (o.args.map .str)),(21,.int .i64 o.args.length),(22,.int .i64 (i:Nat))]) (λ_=>s.setO p (.cells 73 o.cs))
   (λi=>i<=o.args.length) (λi=>o.args.length-i) 0 (aU _) ?_ (by exact aM _) ?_
  .simp only[go_sem,y,eH,List.flatMap_nil]
   first|done|exact rfl|exact⟨rfl,rfl⟩
  rintro i hi;refine bE (V:=[0,1,2,3,5,7,8,10,18,20,21,22,23,32,33,34,35,40,60,68,69,73,80,82,83,84,85]) _ _ _ _ ?_;simp only[go_sem];refine aT (λh=>?_) (λh=>?_)
  .have m:i<o.args.length:=gQ h;clear h;obtain⟨x,B⟩:∃a,o.args[i]?=some a:=⟨_,aX m⟩
   have H:=sT sA B;have S:=sY sA o.args (i+1);rw[H]at S;simp only[sA,aI,aG]at S;rw[U]at z;simp only[go_sem,B,m];refine⟨cL,cL,i+1,m,by omega,?_,cD⟩;simp only[go_sem,b3.wrap (i:=i) (gQ m),H,sA,bG]
  rw[show i=o.args.length by have:¬ i<o.args.length:=gQ h;omega,List.take_length,<-U];rotate_left;have d0:decide (o.pieces=[])=false:=eQ h0;rw[aB h0]at U;simp only[go_sem,y,dP,d0]
  all_goals (
   (try simp only[go_sem,y])
   refine Ex.loop (ι:=Nat) (λi=>[(1,.ptr p 0),(3,.str (X++(o.pieces.take i).flatMap pI)),(32,.list none (o.pieces.map Piece.enc)),(33,.int .i64 o.pieces.length),(34,.int .i64 (i:Nat))]) (λ_=>s.setO p (.cells 73 o.cs))
    (λi=>i<=o.pieces.length) (λi=>o.pieces.length-i) 0 (aU _) ?_ (by exact aM _) ?_
   ·(simp only[go_sem,y,eH,List.flatMap_nil,hX,U];first|exact rfl|exact⟨rfl,rfl⟩)
   rintro i hi;refine bE (V:=[0,1,2,3,5,7,8,10,18,20,21,22,23,32,33,34,35,40,60,68,69,73,80,82,83,84,85]) _ _ _ _ ?_;simp only[go_sem];refine aT (λh=>?_) (λh=>?_)
   .have m:i<o.pieces.length:=gQ h;clear h;obtain⟨x,B⟩:∃a,o.pieces[i]?=some a:=⟨_,aX m⟩
    have H:=sT pI B;have S:=sY pI o.pieces (i+1);rw[H]at S;simp only[go_sem,B,m];(refine aQ λb hb=>?_);simp only[go_sem,y,hb];have hw:=b6.wrap (i:=i) (gQ m);by_cases hs:x.sort=[]
    .have e1:decide (x.sort=[])=true:=fN hs;simp only[go_sem,y,hb,e1];simp only[pI,hs,bT,aI,aG,aH]at S H;refine⟨cL,cL,cL,i+1,m,by omega,?_,(jD (And.intro y hb))⟩;simp only[go_sem,hw,H,bG]
    .have e1:decide (x.sort=[])=false:=eQ hs;simp only[go_sem,y,hb,e1];simp only[pI,hs,bR,aI,aG,aH]at S H;refine⟨cL,cL,i+1,m,by omega,?_,(jD (And.intro y hb))⟩;simp only[go_sem,hw,H,bG]
   rw[show i=o.pieces.length by have:¬ i<o.pieces.length:=gQ h;omega,List.take_length];clear h hi;exact b4 trivial)
 simp only[go_sem,y];refine⟨cL,cL,?_⟩;have e4:∀n:Int,0<=n->True:=λ_ _=>trivial
 obtain⟨Z,hZ⟩:∃Z:aD,Z=X++o.pieces.flatMap pI++([32,45,62,32]++o.sort)++uF o.prec++tY o.assoc:=⟨_,rfl⟩
 have O:Z.length+(zB o.strict).length<=4294967296:=by rw[hZ];simp only[aI,aG,aH];omega
 rw[<-hZ]at F;have b9:(uF o.prec).length<=4294967296:=by omega
 have has:(tY o.assoc).length<=4294967296:=by omega
 by_cases h1:o.prec=0;have d1:decide (o.prec=0)=true:=fN h1;rw[uF,aF h1]at z;simp only[go_sem,y,d1];rotate_left;have d1:decide (o.prec=0)=false:=eQ h1;rw[uF,aB h1]at z;simp only[aI,aG,aH]at z;simp only[go_sem,y,d1];refine aFM _ _ _ _ hP.1 hP.2 ?_;simp only[go_sem,y];refine⟨cL,cL,?_⟩
 all_goals (
  by_cases a1:o.assoc=1;have c1:decide (o.assoc=1)=true:=fN a1;rw[tY,aF a1]at z;simp only[aI,aG,aH]at z;simp only[go_sem,y,c1];refine⟨cL,?_⟩;rotate_left;have c1:decide (o.assoc=1)=false:=eQ a1;rw[tY,aB a1]at z;simp only[go_sem,y,c1];by_cases a2:o.assoc=2;have c2:decide (o.assoc=2)=true:=fN a2;rw[aF a2]at z;simp only[aI,aG,aH]at z;simp only[go_sem,y,c2];refine⟨cL,?_⟩;rotate_left;have c2:decide (o.assoc=2)=false:=eQ a2;rw[aB a2]at z;simp only[go_sem,y,c2])
 all_goals (
  by_cases s0:o.strict=[]
  .have c3:decide ((0:Int)<(o.strict.length:Int))=false:=by rw[s0];rfl
   rw[zB,aF s0,eH]at F;simp only[go_sem,y,c3];exact dkS F cD (by simp[hZ,uF,tY, *])
  have c3:decide ((0:Int)<(o.strict.length:Int))=true:=fN (by have:=List.length_pos_iff.2 s0;omega);rw[zB,aB s0]at F O;simp only[aI,aG,aH]at O;simp only[go_sem,y,c3]
  refine Ex.loop (ι:=Nat × List aD × Option Nat) (λc=>[(1,.ptr p 0),(3,.str Z),(8,gv c.2.2 (c.2.1.map .str)),(82,.list none (o.strict.map (.int .i64))),(83,.int .i64 o.strict.length),(84,.int .i64 (c.1:Nat))]) (λc=>gs (s.setO p (.cells 73 o.cs)) c.2.2 c.2.1.length 9)
   (λc=>(c.2.2=none->c.2.1=[])/\(∀t,c.2.2=some t->s.getT t=none)/\c.1<=o.strict.length/\c.2.1=(o.strict.take c.1).map Lib.itoa) (λc=>o.strict.length-c.1) (0,[],none) ⟨λ_=>rfl,λt e=>(by cases e),aU _,rfl⟩ ?_ (by exact aM _) ?_
  .simp only[go_sem,y];exact⟨by simp[hZ,uF,tY, *],rfl,rfl⟩
  rintro⟨i,L,tk⟩ ⟨hn,hf,hi,hL⟩;simp only at hn hf hi hL;have bc:L.length<=o.strict.length:=by rw[hL,aK,cQ];omega
  refine bE (V:=[0,1,2,3,5,7,8,10,18,20,21,22,23,32,33,34,35,40,60,68,69,73,80,82,83,84,85]) _ _ _ _ ?_;simp only[go_sem,y];refine aT (λh=>?_) (λh=>?_)
  .have m:i<o.strict.length:=gQ h;clear h;obtain⟨x,B⟩:∃a,o.strict[i]?=some a:=⟨_,aX m⟩
   simp only[go_sem,B,m];have b0:=hS x (bZ B);refine aFM _ _ _ _ b0.1 b0.2 ?_;simp only[go_sem,y];refine⟨by decide,mL,oZ hn (λt e=>hf t e) aC (λu hu=>?_)⟩;simp only[go_sem,y];refine⟨(i+1,L++[Lib.itoa x],some u),⟨λh=>(by cases h),λt h=>by cases h;exact hu,m,by rw[hL,fD,B,cN];rfl⟩,aP,?_,?_⟩
   .simp only[go_sem,b5.wrap (i:=i) (gQ m),dF]
   .rw[aI];exact gR (aM _)
  have b7:i=o.strict.length:=by have:¬ i<o.strict.length:=gQ h;omega
  rw[b7,List.take_length]at hL;rw[<-hL]at F O;simp only[go_sem,y];refine aBU (show aBz _ [.list none (L.map .str),.str [44,32]] from⟨iQ _ _ (λe=>by rw[hn e];rfl),bH _,trivial⟩) (vN L _ aC _ _ _ ?_);simp only[go_sem,y];refine⟨cL,cL,cL,?_⟩;exact dkS F (lI cD hf) bJ)
end
end
section
def uA(t:Tm):aD:=[32,61,62,32]++t.w2
def rA(p:Part):aD:=(p.cell++(if p.at_=[] then [] else 64::p.at_))++([32,58,32]++p.left.w2)++p.right.flatMap uA
def rX(f:Fresh):aD:=[110,101,119,40]++dS [44,32] false (f.cells.map Tm.w2)++[41]
def sV(x:aD):aD:=[100,114,111,112,64]++x
def nD(r:Rul):List aD:=r.parts.map rA++(r.new.map rX++r.drop.map sV)
def oQ(r:Rul):aD:=[114,117,108,101,32]++r.name++[32,58,32]++dS [59,32] false (nD r)++wA r.cond
theorem aL0{p:Part}(h:p.enc.ir):p.left.enc.ir/\∀t,t∈p.right->t.enc.ir:=by
 simp only[Part.enc,Part.cs,Tm.cs,A.ir,jS,aZ,bA]at h;refine⟨?_,λt m=>qM h.2.2.2.2.2.2.2.2.1 m⟩;rw[dJ];simp only[Tm.cs,A.ir,jS];exact⟨h.2.2.1,h.2.2.2.1,trivial,trivial,h.2.2.2.2.2.2.1,h.2.2.2.2.2.2.2.1,trivial⟩
theorem aMM{r:Rul}(h:r.enc.ir):(∀p,p∈r.parts->p.enc.ir)/\(∀f,f∈r.new->∀t,t∈f.cells->t.enc.ir)/\∀t,t∈r.cond->t.enc.ir:=by
 simp only[Rul.enc,Rul.cs,A.ir,jS]at h;refine⟨λp y=>qM h.2.1 y,λf u t m=>?_,λt m=>qM h.2.2.1 m⟩;have:=qM (en:=Fresh.enc) h.2.2.2.1 u;simp only[Fresh.enc,Fresh.cs,A.ir,jS]at this;exact qM this.1 m
section
variable {r:Rul} {s:St} {KV Kp:St->A->Prop}
theorem aOd(hI:r.enc.ir)(M:(nD r).length<=4294967295)(bd:∀f,f∈r.new->f.cells.length<=4294967295)(hc:r.cond.length<=4294967295)(hB:(oQ r).length<=4294967296)(hk:KV s (.str (oQ r))):Den cx 55 [.agg r.cs] KV Kp s:=by
 obtain⟨hP,hF,hC⟩:=aMM hI;refine iO λb9=>?_
 have b3:=b9 _ (bU ..);have b6:Rlz (.list none (r.parts.map Part.enc)):=b3.cell (by simp[Rul.cs]);have bj:Rlz (.list none (r.new.map Fresh.enc)):=b3.cell (by simp[Rul.cs]);have bh:Rlz (.list none (r.drop.map .str)):=b3.cell (by simp[Rul.cs]);clear b9;unfold oQ at hB hk;simp only[aI,aG,aH]at hB;have hM:∀x,x∈nD r->x.length<=4294967296:=λx F=>by have:=zA [59,32] (nD r) false x F;omega
 simp only[nD,aI,aK]at M;(refine aR func55 [0,1,2,3,5,6,8,10,12,14,15,16,17,24,37,38,39,40,55,56,57,58,72,73,74,75] ?_;simp only[go_sem,ntmps55,f55]);(refine aQ λp B=>?_);simp only[go_sem,B]
 refine Ex.loop (ι:=Nat × List aD × Option Nat) (λc=>[(1,.ptr p 0),(3,gv c.2.2 (c.2.1.map .str)),(14,.list none (r.parts.map Part.enc)),(15,.int .i64 r.parts.length),(16,.int .i64 (c.1:Nat))]) (λc=>gs (s.setO p (.cells 84 r.cs)) c.2.2 c.2.1.length 9)
  (λc=>(c.2.2=none->c.2.1=[])/\(∀t,c.2.2=some t->s.getT t=none)/\c.1<=r.parts.length/\c.2.1=(r.parts.take c.1).map rA) (λc=>r.parts.length-c.1) (0,[],none) ⟨λ_=>rfl,λt e=>(by cases e),aU _,rfl⟩ ?_ (by exact aM _) ?_
 .simp only[go_sem,B];exact⟨rfl,rfl⟩
 rintro⟨i,L,tk⟩ ⟨M,U,hi,z⟩;simp only at M U hi z;have b0:L.length<=r.parts.length:=by rw[z,aK,cQ];omega
 refine bE (V:=[0,1,2,3,5,6,8,10,12,14,15,16,17,24,37,38,39,40,55,56,57,58,72,73,74,75]) _ _ _ _ ?_;simp only[go_sem,B];refine aT (λh=>?_) (λh=>?_)
 .have m:i<r.parts.length:=gQ h;clear h;obtain⟨x,F⟩:∃a,r.parts[i]?=some a:=⟨_,aX m⟩
  have H:=bZ F;obtain⟨bg,bc⟩:=aL0 (hP x H);have O:=hM (rA x) (List.mem_append_left _ (qB H));simp only[rA,aI,aG,aH]at O;simp only[go_sem,F,m];(refine iK λb S=>?_);simp only[go_sem,F,m,B,S];obtain⟨Y,hY⟩:∃Y:aD,Y=x.cell++(if x.at_=[] then [] else 64::x.at_):=⟨_,rfl⟩
  have b7:Y.length=x.cell.length+(if x.at_=[] then [] else 64::x.at_).length:=by rw[hY,aI]
  by_cases ha:x.at_=[];have d1:decide (x.at_=[])=true:=fN ha;simp only[go_sem,S,d1];rotate_left;have d1:decide (x.at_=[])=false:=eQ ha;rw[aB ha]at b7 O;simp only[aG]at b7 O;simp only[go_sem,S,d1];refine⟨cL,cL,?_⟩
  all_goals (
   refine aBk _ x.left (iD _) bg _ _ _ aC ?_;simp only[go_sem,S];refine⟨cL,cL,?_⟩
   refine Ex.loop (ι:=Nat) (λj=>[(1,.ptr p 0),(3,gv tk (L.map .str)),(14,.list none (r.parts.map Part.enc)),(15,.int .i64 r.parts.length),(16,.int .i64 (i:Nat)),(5,.ptr b 0),(6,.str (Y++([32,58,32]++x.left.w2)++(x.right.take j).flatMap uA)),(37,.list none (x.right.map Tm.enc)),(38,.int .i64 x.right.length),(39,.int .i64 (j:Nat))])
    (λ_=>gs ((s.setO p (.cells 84 r.cs)).setO b (.cells 86 x.cs)) tk L.length 9)
    (λj=>j<=x.right.length) (λj=>x.right.length-j) 0 (aU _) ?_ (by exact aM _) ?_
   .simp only[go_sem,S];refine⟨?_,rfl⟩;simp[hY,ha]
   rintro j hj;refine bE (V:=[0,1,2,3,5,6,8,10,12,14,15,16,17,24,37,38,39,40,55,56,57,58,72,73,74,75]) _ _ _ _ ?_;simp only[go_sem,S];refine aT (λh=>?_) (λh=>?_)
   .have Z:j<x.right.length:=gQ h;clear h;obtain⟨y,hy⟩:∃a,x.right[j]?=some a:=⟨_,aX Z⟩
    have ht:=sT uA hy;have hq:=sY uA x.right (j+1);rw[ht]at hq;simp only[uA,aI,aG,aH]at hq;simp only[go_sem,hy,Z];(refine iK λb2 b5=>?_);simp only[go_sem,hy,Z,b5];refine aBk _ y (iD _) (bc y (bZ hy)) _ _ _ aC ?_;simp only[go_sem,b5];have bb:Rlz (.list none (x.right.map Tm.enc)):=b6.elem (qB H) (by simp[Part.enc,Part.cs,A.cells]);refine⟨cL,cL,j+1,Z,by omega,?_,?_⟩
    .simp only[go_sem,bb.wrap (i:=j) (gQ Z),ht,uA,bG]
    .exact bC
   rw[show j=x.right.length by have:¬ j<x.right.length:=gQ h;omega,List.take_length];simp only[go_sem,S];refine⟨by decide,mL,oZ M (λt e=>U t e) aC (λu hu=>?_)⟩;simp only[go_sem,S];refine⟨(i+1,L++[rA x],some u),⟨λh=>(by cases h),λt h=>by cases h;exact hu,m,by rw[z,fD,F,cN];rfl⟩,aP,?_,?_⟩
   .simp only[go_sem,b6.wrap (i:=i) (gQ m),dF,rA,hY]
   .rw[aI];exact gR (jD (And.intro B S)))
 have b4:L=r.parts.map rA:=by
  rw[show i=r.parts.length by have:¬ i<r.parts.length:=gQ h;omega,List.take_length]at z;exact z
 clear h hi z b0;simp only[go_sem,B]
 refine Ex.loop (ι:=Nat × List aD × Option Nat) (λc=>[(1,.ptr p 0),(3,gv c.2.2 (c.2.1.map .str)),(55,.list none (r.new.map Fresh.enc)),(56,.int .i64 r.new.length),(57,.int .i64 (c.1:Nat))]) (λc=>gs (s.setO p (.cells 84 r.cs)) c.2.2 c.2.1.length 9)
  (λc=>(c.2.2=none->c.2.1=[])/\(∀t,c.2.2=some t->s.getT t=none)/\c.1<=r.new.length/\c.2.1=L++(r.new.take c.1).map rX) (λc=>r.new.length-c.1) (0,L,tk) ⟨M,U,aU _,by simp⟩ ?_ (by exact aM _) ?_
 .simp only[go_sem,B];exact rfl
 clear M U tk;rintro⟨i,L2,tk⟩ ⟨M,U,hi,z⟩;simp only at M U hi z;have b0:L2.length<=r.parts.length+r.new.length:=by rw[z,b4,aI,aK,aK,cQ];omega
 refine bE (V:=[0,1,2,3,5,6,8,10,12,14,15,16,17,24,37,38,39,40,55,56,57,58,72,73,74,75]) _ _ _ _ ?_;simp only[go_sem,B];refine aT (λh=>?_) (λh=>?_)
 .have m:i<r.new.length:=gQ h;clear h;obtain⟨x,F⟩:∃a,r.new[i]?=some a:=⟨_,aX m⟩
  have H:=bZ F;have O:=hM (rX x) (List.mem_append_right _ (List.mem_append_left _ (qB H)));simp only[rX,aI,aG,aH]at O;simp only[go_sem,F,m];(refine iK λb S=>?_);simp only[go_sem,F,m,B,S];refine aIP x.cells (bd x H) (λt ht=>⟨hF x H t ht,by have:=zA [44,32] (x.cells.map Tm.w2) false t.w2 (qB ht);omega⟩) _ _ _ ?_;simp only[go_sem,S];refine vN _ _ aC _ _ _ ?_;simp only[go_sem,S];refine⟨cL,cL,by decide,mL,oZ M (λt e=>U t e) aC (λu hu=>?_)⟩;simp only[go_sem,S];refine⟨(i+1,L2++[rX x],some u),⟨λh=>(by cases h),λt h=>by cases h;exact hu,m,by rw[z,fD,F,cN,bG];rfl⟩,aP,?_,?_⟩
  .simp only[go_sem,bj.wrap (i:=i) (gQ m),dF,rX]
  .rw[aI];exact gR (jD (And.intro B S))
 have b8:L2=L++r.new.map rX:=by
  rw[show i=r.new.length by have:¬ i<r.new.length:=gQ h;omega,List.take_length]at z;exact z
 clear h hi z b0;simp only[go_sem,B]
 refine Ex.loop (ι:=Nat × List aD × Option Nat) (λc=>[(1,.ptr p 0),(3,gv c.2.2 (c.2.1.map .str)),(72,.list none (r.drop.map .str)),(73,.int .i64 r.drop.length),(74,.int .i64 (c.1:Nat))]) (λc=>gs (s.setO p (.cells 84 r.cs)) c.2.2 c.2.1.length 9)
  (λc=>(c.2.2=none->c.2.1=[])/\(∀t,c.2.2=some t->s.getT t=none)/\c.1<=r.drop.length/\c.2.1=L2++(r.drop.take c.1).map sV) (λc=>r.drop.length-c.1) (0,L2,tk) ⟨M,U,aU _,by simp⟩ ?_ (by exact aM _) ?_
 .simp only[go_sem,B];exact rfl
 clear M U tk;rintro⟨i,L3,tk⟩ ⟨M,U,hi,z⟩;simp only at M U hi z;have b0:L3.length<=r.parts.length+r.new.length+r.drop.length:=by rw[z,b8,b4];simp only[aI,aK,cQ];omega
 refine bE (V:=[0,1,2,3,5,6,8,10,12,14,15,16,17,24,37,38,39,40,55,56,57,58,72,73,74,75]) _ _ _ _ ?_;simp only[go_sem,B];refine aT (λh=>?_) (λh=>?_)
 .have m:i<r.drop.length:=gQ h;clear h;obtain⟨x,F⟩:∃a,r.drop[i]?=some a:=⟨_,aX m⟩
  have O:=hM (sV x) (List.mem_append_right _ (List.mem_append_right _ (qB (bZ F))));simp only[sV,aI,aG,aH]at O;simp only[go_sem,F,m,B];refine⟨cL,by decide,mL,oZ M (λt e=>U t e) aC (λu hu=>?_)⟩;simp only[go_sem,B];refine⟨(i+1,L3++[sV x],some u),⟨λh=>(by cases h),λt h=>by cases h;exact hu,m,by rw[z,fD,F,cN,bG];rfl⟩,aP,?_,?_⟩
  .simp only[go_sem,bh.wrap (i:=i) (gQ m),dF,sV]
  .rw[aI];exact gR (aM _)
 have bf:nD r=L3:=by
  rw[show i=r.drop.length by have:¬ i<r.drop.length:=gQ h;omega,List.take_length]at z;rw[z,b8,b4,nD,bG]
 clear h hi z b0;rw[bf]at hB hk;(refine bO (OT.l [0,1,2,3,4,7,8,5,6,9,10,11] .nil) [(5,[1,8]),(9,[1])] ?_;simp only[go_sem,B]);refine⟨cL,cL,?_⟩;refine aBU (show aBz _ [.list none (L3.map .str),.str [59,32]] from⟨iQ _ _ (λe=>by rw[M e];rfl),bH _,trivial⟩) (vN L3 _ aC _ _ _ ?_);simp only[go_sem,B];refine⟨cL,?_⟩;refine aIN r.cond hc hC aC _ _ _ ?_;simp only[go_sem,B];exact⟨cL,dkS hk (lI cD U) bJ⟩
end
end
section
def pJ(b:Below):aD:=[115,117,98,115,111,114,116,32]++b.low++[32,60,32]++b.high
def pR(o:Opr):aD:=[102,117,110,32]++o.name++[32,58,32]++dS [32] false (o.args++[[45,62,32]++o.sort])
def pU(e:Eqn):aD:=[108,101,116,32]++e.left.w2++[32,61,32]++e.right.w2++wA e.cond
def qY(c:Cel):aD:=[99,101,108,108,32]++nZ c
def lE(k:aD)(l:List aD):List aD:=if l=[] then [] else [k++dS [44,32] false l]
def kT(k x:aD):List aD:=if x=[] then [] else [k++x]
def qU(k:aD)(l:List Cel):List aD:=if k=[] then [] else [[109,97,110,121,32]++k++[40]++dS [44,32] false (l.map nZ)++[41]]
def pP(s:Sig):List aD:=lE [115,111,114,116,32] s.sorts++s.below.map pJ++lE [118,97,108,117,101,32] s.values++s.ops.map nL++s.funs.map pR
def iT(d:Dfn):List aD:=[[108,97,110,103,117,97,103,101,32]++d.name]++pP d.sig++d.eqs.map pU++d.once.map qY++qU d.kind d.many++kT [115,116,97,114,116,32] d.start++kT [119,97,116,99,104,32] d.watch++d.rules.map oQ
def wU(d:Dfn):aD:=dS [46,10] false (iT d)++[46,10]
theorem aMj{sep:aD}(h:2<=sep.length):∀(l:List aD),2 * l.length<=(dS sep true l).length
 | []=>aU _
 | x::l=>by
  have:=aMj h l;rw[dS];simp only[bT,aI,aG];omega
theorem aVf{sep:aD}(h:2<=sep.length):∀(l:List aD) (b:Bool),2 * l.length<=(dS sep b l).length+2
 | [],b=>by simp
 | x::l,b=>by
  have:=aMj h l;rw[dS];simp only[aI,aG];omega
theorem aHv{c:Cel}(h:c.enc.ir):c.init.enc.ir:=by
 simp only[Cel.enc,Cel.cs,Tm.cs,A.ir,jS,aZ,bA]at h;rw[dJ];simp only[Tm.cs,A.ir,jS];exact⟨h.2.2.1,h.2.2.2.1,trivial,trivial,h.2.2.2.2.2.2.1,h.2.2.2.2.2.2.2.1,trivial⟩
theorem aMC{e:Eqn}(h:e.enc.ir):e.left.enc.ir/\e.right.enc.ir/\∀t,t∈e.cond->t.enc.ir:=by
 simp only[Eqn.enc,Eqn.cs,Tm.cs,A.ir,jS,aZ,bA]at h;refine⟨?_,?_,λt m=>qM h.2.2.2.2.2.2.2.2.2.2.2.2.1 m⟩
 .rw[dJ];simp only[Tm.cs,A.ir,jS];exact⟨h.1,h.2.1,trivial,trivial,h.2.2.2.2.1,h.2.2.2.2.2.1,trivial⟩
 .rw[dJ];simp only[Tm.cs,A.ir,jS];exact⟨h.2.2.2.2.2.2.1,h.2.2.2.2.2.2.2.1,trivial,trivial,h.2.2.2.2.2.2.2.2.2.2.1,h.2.2.2.2.2.2.2.2.2.2.2.1,trivial⟩
structure DfnT (d:Dfn):Prop where
 op:∀o,o∈d.sig.ops->o.strict.length<=4294967295
 fu:∀o,o∈d.sig.funs->o.args.length<=4294967294
 eq:∀e,e∈d.eqs->e.cond.length<=4294967295
 ma:d.many.length<=4294967295
 ru:∀r,r∈d.rules->(nD r).length<=4294967295/\(∀f,f∈r.new->f.cells.length<=4294967295)/\r.cond.length<=4294967295
theorem apN{C:Cx}{s:St}{l:List aD}{F:TI}{KV:St->A->Prop}(hl:l.length<=4294967296)(z:∀tk,(tk=none->l=[])->(∀t,tk=some t->s.getT t=none)->KV (gs s tk l.length 9) (ev tk (l.map .str)))
  (B:C.det=false:=by rfl)(m:Nat.beq C.mu 1=false:=by rfl):oB C s 9 F (l.map .str) KV .emp:=by
 cases l with
 | nil=>exact z none (λ_=>rfl) (λt h=>by cases h)
 | cons y r =>
  refine⟨⟨gQ hl,Nat.succ_pos _⟩,?_⟩;unfold oC;rw[B];simp only[m];unfold newT;rw[B];intro t H;have:=z (some t) (λh=>by cases h) (λu m=>by cases m;exact H);simpa [gs,ev]using this
theorem apE{C:Cx}{s:St}{tk:Option Nat}{l:List aD}{x:aD}{y:TI}{KV:St->A->Prop}(B:tk=none->l=[])(H:∀t,tk=some t->s.getT t=none)(hl:l.length<=4294967295)
  (F:∀u,s.getT u=none->KV (s.setT u (l.length+1,9)) (.list (some u) ((l++[x]).map .str)))(m:y.sz=1:=by rfl)(h:C.det=false:=by rfl)(z:Nat.beq C.mu 1=false:=by rfl):oB C (gs s tk l.length 9) 9 y [.str x] KV (ev tk (l.map .str)):=by
 cases tk with
 | some t=>exact oZ (tk:=some t) B H hl F m h z
 | none =>
  have O:=B rfl;subst O;refine⟨⟨by simp,Nat.succ_pos _⟩,?_⟩;unfold oC;rw[h];simp only[z];unfold newT;rw[h];intro t M;exact F t M
theorem apG{C:Cx}{s:St}{tk:Option Nat}{l:List aD}{x:aD}{z:TI}{KV:St->A->Prop}(F:tk=none->l=[])(B:∀t,tk=some t->s.getT t=none)(hl:l.length<=4294967295)
  (H:∀(L:List aD) (tk:Option Nat),L=l++[x]->(tk=none->L=[])->(∀t,tk=some t->s.getT t=none)->KV (gs s tk L.length 9) (gv tk (L.map .str)))(y:z.sz=1:=by rfl)(M:C.det=false:=by rfl)(m:Nat.beq C.mu 1=false:=by rfl):oB C (gs s tk l.length 9) 9 z [.str x] KV (gv tk (l.map .str)) :=
 oZ F B hl (λu m=>by
  have:=H (l++[x]) (some u) rfl (λh=>by cases h) (λt h=>by cases h;exact m)
  rwa[aI]at this) y M m
theorem aVM{l:List aD}:∀y,y∈l.map A.str->y.cells.length=1:=λy h=>by
 obtain⟨z,_,rfl⟩:=cH.1 h;rfl
section
variable {d:Dfn} {s:St} {KV Kp:St->A->Prop}
theorem aOx(hI:d.enc.ir)(hT:DfnT d)(hB:(wU d).length<=4294967296)(hk:KV s (.str (wU d))):Den cx 22 [.agg d.cs] KV Kp s:=by
 obtain⟨bg,bw,bq,c0,bl⟩:=aHl hI;refine iO λb9=>?_
 have b0:=b9 _ (bU ..);have bk:Rlz (.list none (d.sig.below.map Below.enc)):=b0.cell (by simp[Dfn.cs,Sig.cs]);have bz:Rlz (.list none (d.sig.ops.map Opr.enc)):=b0.cell (by simp[Dfn.cs,Sig.cs]);have bp:Rlz (.list none (d.sig.funs.map Opr.enc)):=b0.cell (by simp[Dfn.cs,Sig.cs]);have bv:Rlz (.list none (d.eqs.map Eqn.enc)):=b0.cell (by simp[Dfn.cs,Sig.cs]);have bd:Rlz (.list none (d.once.map Cel.enc)):=b0.cell (by simp[Dfn.cs,Sig.cs]);have br:Rlz (.list none (d.many.map Cel.enc)):=b0.cell (by simp[Dfn.cs,Sig.cs]);have bh:Rlz (.list none (d.rules.map Rul.enc)):=b0.cell (by simp[Dfn.cs,Sig.cs]);clear b9;unfold wU at hB hk;simp only[aI,aG,aH]at hB;have hM:∀x,x∈iT d->x.length<=4294967296:=λx O=>by have:=zA [46,10] (iT d) false x O;omega
 have hD:=aVf (sep:=[46,10]) (aV _) (iT d) false
 have c5:(iT d).length=1+((lE [115,111,114,116,32] d.sig.sorts).length+d.sig.below.length+(lE [118,97,108,117,101,32] d.sig.values).length+d.sig.ops.length+d.sig.funs.length)+d.eqs.length+d.once.length+(qU d.kind d.many).length+(kT [115,116,97,114,116,32] d.start).length+(kT [119,97,116,99,104,32] d.watch).length+d.rules.length:=by
  simp only[iT,pP,aI,aK,aG,aH]
 have b7:=hM ([108,97,110,103,117,97,103,101,32]++d.name) (by simp[iT]);simp only[aI,aG,aH]at b7;simp only[go_sem];(refine gBo func22 [0,1,2,3,5,7,9,11,13,14,16,18,27,38,39,40,41,59,70,71,72,73,84,85,86,87,110,111,112,113,134,135,136,137,149,151,152,153,154,176,185,193,194,195,196] ?_;simp only[go_sem,ntmps22,f22]);(refine aQ λp z=>?_);simp only[go_sem,z];refine⟨cL,.inr λt0 b5=>?_⟩;have c2:(s.setO p (.cells 33 d.cs)).getT t0=none:=b5;obtain⟨L0,b4⟩:∃L0,L0=[[108,97,110,103,117,97,103,101,32]++d.name]++lE [115,111,114,116,32] d.sig.sorts:=⟨_,rfl⟩
 have c4:L0.length=1+(lE [115,111,114,116,32] d.sig.sorts).length:=by rw[b4,aI];rfl
 apply aEE
 case h2 =>
  intro b2;by_cases h0:d.sig.sorts=[]
  .have d0:decide ((0:Int)<(d.sig.sorts.length:Int))=false:=by rw[h0];rfl
   simp only[go_sem,z,d0]
   refine Ex.loop (ι:=Nat × List aD × Option Nat) (λc=>[(1,.ptr p 0),(3,gv c.2.2 (c.2.1.map .str)),(38,.list none (d.sig.below.map Below.enc)),(39,.int .i64 d.sig.below.length),(40,.int .i64 (c.1:Nat))]) (λc=>gs (s.setO p (.cells 33 d.cs)) c.2.2 c.2.1.length 9) (λc=>(c.2.2=none->c.2.1=[])/\(∀t,c.2.2=some t->s.getT t=none)/\c.1<=d.sig.below.length/\c.2.1=L0++(d.sig.below.take c.1).map pJ) (λc=>d.sig.below.length-c.1) (0,[[108,97,110,103,117,97,103,101,32]++d.name],some t0)
    ⟨λh=>(by cases h),λt h=>by cases h;exact b5,aU _,by rw[b4,lE,aF h0];rfl⟩ ?_ (by exact aM _) (b2 trivial)
   simp only[go_sem,z];exact⟨rfl,rfl⟩
  .have d0:decide ((0:Int)<(d.sig.sorts.length:Int))=true:=fN (by have:=List.length_pos_iff.2 h0;omega);have hm:=hM ([115,111,114,116,32]++dS [44,32] false d.sig.sorts) (by simp[iT,pP,lE,h0]);simp only[aI,aG,aH]at hm;simp only[go_sem,z,d0];refine jW ?_;refine vN _ _ aC _ _ _ ?_;simp only[go_sem,z];refine⟨cL,.inl ⟨by decide,mL,mL,?_⟩⟩
   refine Ex.loop (ι:=Nat × List aD × Option Nat) (λc=>[(1,.ptr p 0),(3,gv c.2.2 (c.2.1.map .str)),(38,.list none (d.sig.below.map Below.enc)),(39,.int .i64 d.sig.below.length),(40,.int .i64 (c.1:Nat))]) (λc=>gs (s.setO p (.cells 33 d.cs)) c.2.2 c.2.1.length 9) (λc=>(c.2.2=none->c.2.1=[])/\(∀t,c.2.2=some t->s.getT t=none)/\c.1<=d.sig.below.length/\c.2.1=L0++(d.sig.below.take c.1).map pJ) (λc=>d.sig.below.length-c.1) (0,[[108,97,110,103,117,97,103,101,32]++d.name,[115,111,114,116,32]++dS [44,32] false d.sig.sorts],some t0)
    ⟨λh=>(by cases h),λt h=>by cases h;exact b5,aU _,by rw[b4,lE,aB h0];rfl⟩ ?_ (by rw[aBX];exact aM _) (b2 trivial)
   simp only[go_sem,z];exact⟨rfl,rfl⟩
 rintro⟨i,L,tk⟩ ⟨F,S,hi,y⟩;simp only at F S hi y;have Z:L.length<=2147483649:=by rw[y];simp only[aI,aK,cQ];omega
 refine bE (C:=kQ) (V:=[0,1,2,3,5,7,9,11,13,14,16,18,27,38,39,40,41,59,70,71,72,73,84,85,86,87,110,111,112,113,134,135,136,137,149,151,152,153,154,176,185,193,194,195,196]) _ _ _ _ ?_;simp only[go_sem,z];refine aT (λh=>?_) (λh=>?_)
 .have m:i<d.sig.below.length:=gQ h;clear h;obtain⟨x,O⟩:∃a,d.sig.below[i]?=some a:=⟨_,aX m⟩
  have B:=bZ O;have U:=hM (pJ x) (by simp only[iT,pP,cZ,qB (f:=pJ) B,true_or,or_true]);simp only[pJ,aI,aG,aH]at U;simp only[go_sem,O,m];(refine iK λb H=>?_);simp only[go_sem,O,m,z,H];refine⟨cL,cL,cL,.inl ⟨by decide,mL,oZ F (λt e=>S t e) aC (λu hu=>?_)⟩⟩;simp only[go_sem,H];refine⟨(i+1,L++[pJ x],some u),⟨λh=>(by cases h),λt h=>by cases h;exact hu,m,by rw[y,fD,O,cN,bG];rfl⟩,aP,?_,?_⟩
  .simp only[go_sem,bk.wrap (i:=i) (gQ m),dF,pJ]
  .rw[aI];exact gR (jD (And.intro z H))
 replace y:L=L0++d.sig.below.map pJ:=by
  have h9:¬ i<d.sig.below.length:=gQ h;rw[show i=d.sig.below.length by omega,List.take_length]at y;exact y
 clear h hi Z;obtain⟨L1,b3⟩:∃L1,L1=L++lE [118,97,108,117,101,32] d.sig.values:=⟨_,rfl⟩
 have c3:L1.length=1+((lE [115,111,114,116,32] d.sig.sorts).length+d.sig.below.length+(lE [118,97,108,117,101,32] d.sig.values).length):=by rw[b3,y];simp only[aI,aK];omega
 have bb:L.length<=2147483649:=by rw[y];simp only[aI,aK];omega
 simp only[go_sem,z];apply aEE
 case h2 =>
  intro b2;by_cases h0:d.sig.values=[]
  .have d0:decide ((0:Int)<(d.sig.values.length:Int))=false:=by rw[h0];rfl
   simp only[go_sem,z,d0];refine Ex.loop (ι:=Nat × List aD × Option Nat) (λc=>[(1,.ptr p 0),(3,gv c.2.2 (c.2.1.map .str)),(70,.list none (d.sig.ops.map Opr.enc)),(71,.int .i64 d.sig.ops.length),(72,.int .i64 (c.1:Nat))]) (λc=>gs (s.setO p (.cells 33 d.cs)) c.2.2 c.2.1.length 9) (λc=>(c.2.2=none->c.2.1=[])/\(∀t,c.2.2=some t->s.getT t=none)/\c.1<=d.sig.ops.length/\c.2.1=L1++(d.sig.ops.take c.1).map nL) (λc=>d.sig.ops.length-c.1) (0,L,tk) ⟨F,S,aU _,by rw[b3,lE,aF h0];simp⟩ ?_ (by exact aM _) (b2 trivial);simp only[go_sem,z];exact rfl
  .have d0:decide ((0:Int)<(d.sig.values.length:Int))=true:=fN (by have:=List.length_pos_iff.2 h0;omega);have hm:=hM ([118,97,108,117,101,32]++dS [44,32] false d.sig.values) (by simp[iT,pP,lE,h0]);simp only[aI,aG,aH]at hm;simp only[go_sem,z,d0];refine jW ?_;refine vN _ _ aC _ _ _ ?_;simp only[go_sem,z];refine⟨cL,.inl ⟨by decide,mL,oZ F (λt e=>S t e) aC (λu hu=>?_)⟩⟩;simp only[go_sem,z];refine Ex.loop (ι:=Nat × List aD × Option Nat) (λc=>[(1,.ptr p 0),(3,gv c.2.2 (c.2.1.map .str)),(70,.list none (d.sig.ops.map Opr.enc)),(71,.int .i64 d.sig.ops.length),(72,.int .i64 (c.1:Nat))]) (λc=>gs (s.setO p (.cells 33 d.cs)) c.2.2 c.2.1.length 9) (λc=>(c.2.2=none->c.2.1=[])/\(∀t,c.2.2=some t->s.getT t=none)/\c.1<=d.sig.ops.length/\c.2.1=L1++(d.sig.ops.take c.1).map nL) (λc=>d.sig.ops.length-c.1) (0,L++[[118,97,108,117,101,32]++dS [44,32] false d.sig.values],some u) ⟨λh=>(by cases h),λt h=>by cases h;exact hu,aU _,by rw[b3,lE,aB h0];simp⟩ ?_ (by rw[aI];exact aM _) (b2 trivial);simp only[go_sem,z];exact⟨rfl,rfl⟩
 rw[y]at b3;clear F S y bb tk;rintro⟨i,L,tk⟩ ⟨F,S,hi,y⟩;simp only at F S hi y;have Z:L.length<=2147483649:=by rw[y];simp only[aI,aK,cQ];omega
 refine bE (C:=kQ) (V:=[0,1,2,3,5,7,9,11,13,14,16,18,27,38,39,40,41,59,70,71,72,73,84,85,86,87,110,111,112,113,134,135,136,137,149,151,152,153,154,176,185,193,194,195,196]) _ _ _ _ ?_;simp only[go_sem,z];refine aT (λh=>?_) (λh=>?_)
 .have m:i<d.sig.ops.length:=gQ h;clear h;obtain⟨x,O⟩:∃a,d.sig.ops[i]?=some a:=⟨_,aX m⟩
  have B:=bZ O;have U:=hM (nL x) (by simp only[iT,pP,cZ,qB (f:=nL) B,true_or,or_true])
  skip
  simp only[go_sem,O,m];(refine iK λb H=>?_);simp only[go_sem,O,m,z,H];refine jW ?_;refine aOO (bg x B) (hT.op x B) U ?_;simp only[go_sem,H];refine .inl ⟨by decide,mL,oZ F (λt e=>S t e) aC (λu hu=>?_)⟩;simp only[go_sem,H];refine⟨(i+1,L++[nL x],some u),⟨λh=>(by cases h),λt h=>by cases h;exact hu,m,by rw[y,fD,O,cN,bG];rfl⟩,aP,?_,?_⟩
  .simp only[go_sem,bz.wrap (i:=i) (gQ m),dF]
  .rw[aI];exact gR (jD (And.intro z H))
 replace y:L=L1++d.sig.ops.map nL:=by
  have h9:¬ i<d.sig.ops.length:=gQ h;rw[show i=d.sig.ops.length by omega,List.take_length]at y;exact y
 clear h hi Z;obtain⟨A3,rfl⟩:∃A3,A3=L:=⟨_,rfl⟩
 have E3:=y;have l3:=dV List.length y;simp only[aI,aK]at l3;clear y;simp only[go_sem,z];refine Ex.loop (ι:=Nat × List aD × Option Nat) (λc=>[(1,.ptr p 0),(3,gv c.2.2 (c.2.1.map .str)),(84,.list none (d.sig.funs.map Opr.enc)),(85,.int .i64 d.sig.funs.length),(86,.int .i64 (c.1:Nat))]) (λc=>gs (s.setO p (.cells 33 d.cs)) c.2.2 c.2.1.length 9) (λc=>(c.2.2=none->c.2.1=[])/\(∀t,c.2.2=some t->s.getT t=none)/\c.1<=d.sig.funs.length/\c.2.1=A3++(d.sig.funs.take c.1).map pR) (λc=>d.sig.funs.length-c.1) (0,A3,tk) ⟨F,S,aU _,by simp⟩ ?_ (by exact aM _) ?_
 .simp only[go_sem,z];exact rfl
 clear F S tk;rintro⟨i,L,tk⟩ ⟨F,S,hi,y⟩;simp only at F S hi y;have Z:L.length<=2147483649:=by rw[y];simp only[aI,aK,cQ];omega
 refine bE (C:=kQ) (V:=[0,1,2,3,5,7,9,11,13,14,16,18,27,38,39,40,41,59,70,71,72,73,84,85,86,87,110,111,112,113,134,135,136,137,149,151,152,153,154,176,185,193,194,195,196]) _ _ _ _ ?_;simp only[go_sem,z];refine aT (λh=>?_) (λh=>?_)
 .have m:i<d.sig.funs.length:=gQ h;clear h;obtain⟨x,O⟩:∃a,d.sig.funs[i]?=some a:=⟨_,aX m⟩
  have B:=bZ O;have U:=hM (pR x) (by simp only[iT,pP,cZ,qB (f:=pR) B,true_or,or_true]);simp only[pR,aI,aG,aH]at U;simp only[go_sem,O,m];(refine iK λb H=>?_);simp only[go_sem,O,m,z,H];have c7:x.args.length<=4294967294:=hT.fu x B;(refine bO (OT.l [0,1,2,3,4,5,6,7,9,10,11,12,8,13,14,15,16,17,18] .nil) [(8,[2,10]),(13,[2]),(14,[2])] ?_;simp only[go_sem,H]);have bt:=zA [32] (x.args++[[45,62,32]++x.sort]) false ([45,62,32]++x.sort) bJ;simp only[aI,aG,aH]at bt U;refine⟨cL,cL,cL,by decide,aVM,apN aC (λt1 b7 c1=>?_)⟩;simp only[go_sem,H];refine⟨by decide,mL,apE b7 c1 aC (λu1 bc=>?_)⟩;simp only[go_sem,H];refine jW (iJ (yL bc) (aBU (show aBz _ [.list none ((x.args++[[45,62,32]++x.sort]).map .str),.str [32]] from⟨A.le.forget _ _,bH _,trivial⟩) (vN _ _ aC _ _ _ ?_)));simp only[go_sem,H];simp only[aZ,bA]at U;refine⟨cL,by decide,mL,oZ F (λt e=>S t e) aC (λu hu=>?_)⟩;simp only[go_sem,H];refine⟨(i+1,L++[pR x],some u),⟨λh=>(by cases h),λt h=>by cases h;exact hu,m,by rw[y,fD,O,cN,bG];rfl⟩,aP,?_,?_⟩
  .simp only[go_sem,bp.wrap (i:=i) (gQ m),dF,pR]
  .rw[aI];exact gR (jD (And.intro z H))
 replace y:L=A3++d.sig.funs.map pR:=by
  have h9:¬ i<d.sig.funs.length:=gQ h;rw[show i=d.sig.funs.length by omega,List.take_length]at y;exact y
 clear h hi Z;obtain⟨A4,rfl⟩:∃A4,A4=L:=⟨_,rfl⟩
 have E4:=y;have l4:=dV List.length y;simp only[aI,aK]at l4;clear y;simp only[go_sem,z];refine Ex.loop (ι:=Nat × List aD × Option Nat) (λc=>[(1,.ptr p 0),(3,gv c.2.2 (c.2.1.map .str)),(110,.list none (d.eqs.map Eqn.enc)),(111,.int .i64 d.eqs.length),(112,.int .i64 (c.1:Nat))]) (λc=>gs (s.setO p (.cells 33 d.cs)) c.2.2 c.2.1.length 9) (λc=>(c.2.2=none->c.2.1=[])/\(∀t,c.2.2=some t->s.getT t=none)/\c.1<=d.eqs.length/\c.2.1=A4++(d.eqs.take c.1).map pU) (λc=>d.eqs.length-c.1) (0,A4,tk) ⟨F,S,aU _,by simp⟩ ?_ (by exact aM _) ?_
 .simp only[go_sem,z];exact rfl
 clear F S tk;rintro⟨i,L,tk⟩ ⟨F,S,hi,y⟩;simp only at F S hi y;have Z:L.length<=2147483649:=by rw[y];simp only[aI,aK,cQ];omega
 refine bE (C:=kQ) (V:=[0,1,2,3,5,7,9,11,13,14,16,18,27,38,39,40,41,59,70,71,72,73,84,85,86,87,110,111,112,113,134,135,136,137,149,151,152,153,154,176,185,193,194,195,196]) _ _ _ _ ?_;simp only[go_sem,z];refine aT (λh=>?_) (λh=>?_)
 .have m:i<d.eqs.length:=gQ h;clear h;obtain⟨x,O⟩:∃a,d.eqs[i]?=some a:=⟨_,aX m⟩
  have B:=bZ O;have U:=hM (pU x) (by simp only[iT,pP,cZ,qB (f:=pU) B,true_or,or_true]);simp only[pU,aI,aG,aH]at U;simp only[go_sem,O,m];(refine iK λb H=>?_);simp only[go_sem,O,m,z,H];obtain⟨i1,i2,i3⟩:=aMC (bw x B);have bj:=hT.eq x B;(refine bO (OT.l [0,1,2,6,7,10,11,3,4,5,8,9,12,13,14,15,16] .nil) [(3,[7,11]),(8,[11])] ?_;simp only[go_sem,H]);refine jW (aBk _ x.left (iD _) i1 _ _ _ aC ?_);simp only[go_sem,H];refine⟨cL,cL,jW (aBk _ x.right (iD _) i2 _ _ _ aC ?_)⟩;simp only[go_sem,H];refine⟨cL,jW (aIN x.cond bj i3 aC _ _ _ ?_)⟩;simp only[go_sem,H];refine⟨cL,by decide,mL,oZ F (λt e=>S t e) aC (λu hu=>?_)⟩;simp only[go_sem,H];refine⟨(i+1,L++[pU x],some u),⟨λh=>(by cases h),λt h=>by cases h;exact hu,m,by rw[y,fD,O,cN,bG];rfl⟩,aP,?_,?_⟩
  .simp only[go_sem,bv.wrap (i:=i) (gQ m),dF,pU]
  .rw[aI];exact gR (jD (And.intro z H))
 replace y:L=A4++d.eqs.map pU:=by
  have h9:¬ i<d.eqs.length:=gQ h;rw[show i=d.eqs.length by omega,List.take_length]at y;exact y
 clear h hi Z;obtain⟨A5,rfl⟩:∃A5,A5=L:=⟨_,rfl⟩
 have E5:=y;have l5:=dV List.length y;simp only[aI,aK]at l5;clear y;simp only[go_sem,z];refine Ex.loop (ι:=Nat × List aD × Option Nat) (λc=>[(1,.ptr p 0),(3,gv c.2.2 (c.2.1.map .str)),(134,.list none (d.once.map Cel.enc)),(135,.int .i64 d.once.length),(136,.int .i64 (c.1:Nat))]) (λc=>gs (s.setO p (.cells 33 d.cs)) c.2.2 c.2.1.length 9) (λc=>(c.2.2=none->c.2.1=[])/\(∀t,c.2.2=some t->s.getT t=none)/\c.1<=d.once.length/\c.2.1=A5++(d.once.take c.1).map qY) (λc=>d.once.length-c.1) (0,A5,tk) ⟨F,S,aU _,by simp⟩ ?_ (by exact aM _) ?_
 .simp only[go_sem,z];exact rfl
 clear F S tk;rintro⟨i,L,tk⟩ ⟨F,S,hi,y⟩;simp only at F S hi y;have Z:L.length<=2147483649:=by rw[y];simp only[aI,aK,cQ];omega
 refine bE (C:=kQ) (V:=[0,1,2,3,5,7,9,11,13,14,16,18,27,38,39,40,41,59,70,71,72,73,84,85,86,87,110,111,112,113,134,135,136,137,149,151,152,153,154,176,185,193,194,195,196]) _ _ _ _ ?_;simp only[go_sem,z];refine aT (λh=>?_) (λh=>?_)
 .have m:i<d.once.length:=gQ h;clear h;obtain⟨x,O⟩:∃a,d.once[i]?=some a:=⟨_,aX m⟩
  have B:=bZ O;have U:=hM (qY x) (by simp only[iT,pP,cZ,qB (f:=qY) B,true_or,or_true]);simp only[qY,aI,aG,aH]at U;simp only[go_sem,O,m];(refine iK λb H=>?_);simp only[go_sem,O,m,z,H];refine jW (aIi x (aHv (bq x B)) aC _ _ _ ?_);simp only[go_sem,H];refine⟨cL,.inl ⟨by decide,mL,oZ F (λt e=>S t e) aC (λu hu=>?_)⟩⟩;simp only[go_sem,H];refine⟨(i+1,L++[qY x],some u),⟨λh=>(by cases h),λt h=>by cases h;exact hu,m,by rw[y,fD,O,cN,bG];rfl⟩,aP,?_,?_⟩
  .simp only[go_sem,bd.wrap (i:=i) (gQ m),dF,qY]
  .rw[aI];exact gR (jD (And.intro z H))
 replace y:L=A5++d.once.map qY:=by
  have h9:¬ i<d.once.length:=gQ h;rw[show i=d.once.length by omega,List.take_length]at y;exact y
 clear h hi Z;obtain⟨A6,rfl⟩:∃A6,A6=L:=⟨_,rfl⟩
 have E6:=y;have l6:=dV List.length y;simp only[aI,aK]at l6;clear y;obtain⟨A7,E7⟩:∃A7,A7=A6++qU d.kind d.many++kT [115,116,97,114,116,32] d.start++kT [119,97,116,99,104,32] d.watch:=⟨_,rfl⟩
 have l7:=dV List.length E7;simp only[aI]at l7;simp only[go_sem,z];apply aEE
 case h2 =>
  intro b2;by_cases h0:d.kind=[];have d0:decide (d.kind=[])=true:=fN h0;simp only[go_sem,z,d0];obtain⟨L9,E9⟩:∃L9,L9=A6++qU d.kind d.many:=⟨_,rfl⟩
  rw[show A6=L9 by rw[E9,qU,aF h0,eH]]at F⊢;rotate_left;have d0:decide (d.kind=[])=false:=eQ h0;have hm:=hM ([109,97,110,121,32]++d.kind++[40]++dS [44,32] false (d.many.map nZ)++[41]) (by simp[iT,qU,h0]);simp only[aI,aG,aH]at hm;simp only[go_sem,z,d0]
  refine Ex.loop (ι:=Nat × List aD × Option Nat) (λc=>[(1,.ptr p 0),(3,gv tk (A6.map .str)),(14,gv c.2.2 (c.2.1.map .str)),(151,.list none (d.many.map Cel.enc)),(152,.int .i64 d.many.length),(153,.int .i64 (c.1:Nat))]) (λc=>gs (gs (s.setO p (.cells 33 d.cs)) tk A6.length 9) c.2.2 c.2.1.length 9)
   (λc=>(c.2.2=none->c.2.1=[])/\(∀t,c.2.2=some t->(gs (s.setO p (.cells 33 d.cs)) tk A6.length 9).getT t=none)/\c.1<=d.many.length/\c.2.1=(d.many.take c.1).map nZ) (λc=>d.many.length-c.1) (0,[],none) ⟨λ_=>rfl,λt e=>(by cases e),aU _,rfl⟩ ?_ (by exact aM _) ?_
  .simp only[go_sem,z];exact⟨rfl,rfl⟩
  rintro⟨i,M,tm⟩ ⟨b8,b6,hi,y⟩;simp only at b8 b6 hi y;have c6:=hT.ma;have Z:M.length<=4294967295:=by rw[y];simp only[aK,cQ];omega
  refine bE (C:=kQ) (V:=[0,1,2,3,5,7,9,11,13,14,16,18,27,38,39,40,41,59,70,71,72,73,84,85,86,87,110,111,112,113,134,135,136,137,149,151,152,153,154,176,185,193,194,195,196]) _ _ _ _ ?_;simp only[go_sem,z];refine aT (λh=>?_) (λh=>?_)
  .have m:i<d.many.length:=gQ h;clear h;obtain⟨x,O⟩:∃a,d.many[i]?=some a:=⟨_,aX m⟩
   have B:=bZ O;have U:=zA [44,32] (d.many.map nZ) false (nZ x) (qB B);simp only[go_sem,O,m];(refine iK λb H=>?_);simp only[go_sem,O,m,z,H];refine jW (aIi x (aHv (c0 x B)) aC _ _ _ ?_);simp only[go_sem,H];refine .inl ⟨by decide,mL,oZ b8 (λt e=>by have:=b6 t e;rw[iN]at this⊢;exact this) aC (λu hu=>?_)⟩;simp only[go_sem,H];refine⟨(i+1,M++[nZ x],some u),⟨λh=>(by cases h),λt h=>by cases h;rw[iN]at hu⊢;exact hu,m,by rw[y,fD,O,cN];rfl⟩,aP,?_,?_⟩
   .simp only[go_sem,br.wrap (i:=i) (gQ m),dF]
   .rw[aI];exact gR bC
  have h9:¬ i<d.many.length:=gQ h;rw[show i=d.many.length by omega,List.take_length]at y;rw[<-y]at hm;simp only[go_sem,z];(refine bO (OT.r 0 12) [(6,[2])] ?_;simp only[go_sem,z]);refine⟨cL,cL,jW (iJ (lI (aM _) b6) (aBU (show aBz _ [.list none (M.map .str),.str [44,32]] from⟨iQ _ _ (λe=>by rw[b8 e];rfl),bH _,trivial⟩) (vN M _ aC _ _ _ ?_)))⟩;simp only[go_sem,z];refine⟨cL,cL,by decide,mL,apG F (λt e=>S t e) aC (λL9 tk E9 F S=>?_)⟩
  replace E9:L9=A6++qU d.kind d.many:=by rw[E9,qU,aB h0,<-y];simp
  simp only[go_sem,z]
  all_goals (
   have l9:=dV List.length E9;simp only[aI]at l9;by_cases s0:d.start=[];have d0:decide (d.start=[])=true:=fN s0;simp only[go_sem,z,d0];obtain⟨LA,EA⟩:∃LA,LA=L9++kT [115,116,97,114,116,32] d.start:=⟨_,rfl⟩
   rw[show L9=LA by rw[EA,kT,aF s0,eH]]at F⊢;rotate_left;have d0:decide (d.start=[])=false:=eQ s0;have hm:=hM ([115,116,97,114,116,32]++d.start) (by simp[iT,kT,s0]);simp only[aI,aG,aH]at hm;simp only[go_sem,z,d0];refine⟨cL,.inl ⟨by decide,mL,apG F (λt e=>S t e) aC (λLA tk EA F S=>?_)⟩⟩
   replace EA:LA=L9++kT [115,116,97,114,116,32] d.start:=by rw[EA,kT,aB s0];simp
   simp only[go_sem,z]
   all_goals (
    have lA:=dV List.length EA;simp only[aI]at lA;by_cases w0:d.watch=[];have d0:decide (d.watch=[])=true:=fN w0;simp only[go_sem,z,d0];obtain⟨LB,EB⟩:∃LB,LB=LA++kT [119,97,116,99,104,32] d.watch:=⟨_,rfl⟩
    rw[show LA=LB by rw[EB,kT,aF w0,eH]]at F⊢;rotate_left;have d0:decide (d.watch=[])=false:=eQ w0;have hm:=hM ([119,97,116,99,104,32]++d.watch) (by simp[iT,kT,w0]);simp only[aI,aG,aH]at hm;simp only[go_sem,z,d0];refine⟨cL,.inl ⟨by decide,mL,apG F (λt e=>S t e) aC (λLB tk EB F S=>?_)⟩⟩
    replace EB:LB=LA++kT [119,97,116,99,104,32] d.watch:=by rw[EB,kT,aB w0];simp
    simp only[go_sem,z]
    all_goals (
     refine Ex.loop (ι:=Nat × List aD × Option Nat) (λc=>[(1,.ptr p 0),(3,gv c.2.2 (c.2.1.map .str)),(193,.list none (d.rules.map Rul.enc)),(194,.int .i64 d.rules.length),(195,.int .i64 (c.1:Nat))]) (λc=>gs (s.setO p (.cells 33 d.cs)) c.2.2 c.2.1.length 9) (λc=>(c.2.2=none->c.2.1=[])/\(∀t,c.2.2=some t->s.getT t=none)/\c.1<=d.rules.length/\c.2.1=A7++(d.rules.take c.1).map oQ) (λc=>d.rules.length-c.1) (0,LB,tk) ⟨F,S,aU _,by rw[E7,<-E9,<-EA,<-EB];simp⟩ ?_ (by exact aM _) (b2 trivial);simp only[go_sem,z];exact rfl)))
 clear F S tk;rintro⟨i,L,tk⟩ ⟨F,S,hi,y⟩;simp only at F S hi y;have Z:L.length<=2147483649:=by rw[y];simp only[aI,aK,cQ];omega
 refine bE (C:=kQ) (V:=[0,1,2,3,5,7,9,11,13,14,16,18,27,38,39,40,41,59,70,71,72,73,84,85,86,87,110,111,112,113,134,135,136,137,149,151,152,153,154,176,185,193,194,195,196]) _ _ _ _ ?_;simp only[go_sem,z];refine aT (λh=>?_) (λh=>?_)
 .have m:i<d.rules.length:=gQ h;clear h;obtain⟨x,O⟩:∃a,d.rules[i]?=some a:=⟨_,aX m⟩
  have B:=bZ O;have U:=hM (oQ x) (by simp only[iT,pP,cZ,qB (f:=oQ) B,true_or,or_true])
  skip
  simp only[go_sem,O,m];(refine iK λb H=>?_);simp only[go_sem,O,m,z,H];obtain⟨bf,bm,bn⟩:=hT.ru x B;refine jW (aOd (bl x B) bf bm bn U ?_);simp only[go_sem,H];refine .inl ⟨by decide,mL,oZ F (λt e=>S t e) aC (λu hu=>?_)⟩;simp only[go_sem,H];refine⟨(i+1,L++[oQ x],some u),⟨λh=>(by cases h),λt h=>by cases h;exact hu,m,by rw[y,fD,O,cN,bG];rfl⟩,aP,?_,?_⟩
  .simp only[go_sem,bh.wrap (i:=i) (gQ m),dF]
  .rw[aI];exact gR (jD (And.intro z H))
 replace y:L=A7++d.rules.map oQ:=by
  have h9:¬ i<d.rules.length:=gQ h;rw[show i=d.rules.length by omega,List.take_length]at y;exact y
 clear h hi Z
 replace y:iT d=L:=by
  rw[y,E7,E6,E5,E4,E3,b3,b4];simp only[iT,pP,bG]
 rw[y]at hB hk;simp only[go_sem,z];refine jW (aBU (show aBz _ [.list none (L.map .str),.str [46,10]] from⟨iQ _ _ (λe=>by rw[F e];rfl),bH _,trivial⟩) (vN L _ aC _ _ _ ?_));simp only[go_sem,z];exact⟨cL,dkS hk (lI cD S) bJ⟩
end
end
def sm(n:Nat):List aD->Nat
 | []=>0
 | x::r=>x.length+n+sm n r
theorem aAa(n:Nat):∀a b:List aD,sm n (a++b)=sm n a+sm n b
 | [],b=>by simp[sm]
 | x::a,b=>by rw[aZ,sm,sm,aAa n a b];omega
theorem aCm(sep:aD):∀(l:List aD) (b:Bool),(dS sep b l).length<=sm sep.length l
 | [],b=>aU _
 | x::r,b=>by
  have:=aCm sep r true;rw[dS,sm];cases b<;>simp only[aI,aH,bT,cE,bR]<;>omega
theorem qR{α:Type}(f:α->aD)(en:α->A)(K n:Nat):∀l:List α,(∀x,x∈l->(f x).length+n<=K * ((en x).bulk+1))->sm n (l.map f)<=K * bI (l.map en)
 | [],_=>aU _
 | x::r,h=>by
  have u:=qR f en K n r (λy m=>h y (cP _ m));have h2:=h x (bU ..);rw[bN,bN,sm,bI,Nat.mul_add];omega
theorem aBd{α:Type}(f:α->aD)(en:α->A)(K:Nat)(sep:aD)(l:List α)(b:Bool)(h:∀x,x∈l->(f x).length+sep.length<=K * ((en x).bulk+1)):(dS sep b (l.map f)).length<=K * bI (l.map en) :=
 mR (aCm _ _ _) (qR f en K _ l h)
theorem aD2{α:Type}(f:α->aD)(en:α->A)(K:Nat):∀l:List α,(∀x,x∈l->(f x).length<=K * ((en x).bulk+1))->(l.flatMap f).length<=K * bI (l.map en)
 | [],_=>aU _
 | x::r,h=>by
  have u:=aD2 f en K r (λy m=>h y (cP _ m));have h2:=h x (bU ..);rw[kG,aI,bN,bI,Nat.mul_add];omega
theorem aM7:∀(k:Nat) (l:List Tm) (b:Bool),l.length<=k->(jA b l).length<=sm 4 (l.map Tm.w2)
 | k,[],b,_=>aU _
 | k,[x],b,_=>aU _
 | k+1,x::y::l,b,h=>by
  have:=aM7 k l true (by simp only[aG]at h;omega);rw[jA,bN,bN,sm,sm];cases b<;>simp only[aI,aG,aH,bT,cE,bR]<;>omega
theorem aVI(N:Nat):∀t:Tm,SizeOf.sizeOf t<N->t.enc.ir->t.w2.length+4<=28 * (t.enc.bulk+1):=by
 induction N with
 | zero=>intro t h;omega
 | succ N F =>
  intro t H z;obtain⟨y,B⟩:=aNj z;have e:=aBi t;have u:∀x,x∈t.kids->x.w2.length+4<=28 * (x.enc.bulk+1):=λx m=>F x (by have:=aBP m;omega) (B x m)
  have M:=aBd Tm.w2 Tm.enc 28 [44,32] t.kids false (λx m=>by have:=u x m;simp only[aG,aH];omega);have h2:=mR (aM7 _ t.kids false (aV _)) (qR Tm.w2 Tm.enc 28 4 t.kids u)
  have S:(oA (decide (t.kids.length=0)) t.rest).length<=3+bI (t.rest.map Tm.enc):=by
   cases t.rest with
   | nil=>exact aU _
   | cons r l =>
    have:=aBi r;rw[oA,bN,bI];split<;>simp only[aI,aG,aH]<;>omega
  have O:=aCq y;rw[aLt]
  repeat' split
  all_goals ((try simp only[aI,aG,aH]);omega)
theorem zZ{t:Tm}(h:t.enc.ir):t.w2.length+4<=28 * (t.enc.bulk+1):=aVI _ t (iD _) h
theorem aMf{l:List Tm}(h:∀t,t∈l->t.enc.ir):(wA l).length<=4+28 * bI (l.map Tm.enc):=by
 have:=aBd Tm.w2 Tm.enc 28 [44,32] l false (λx m=>by have:=zZ (h x m);simp only[aG,aH];omega);unfold wA;split
 .exact aU _
 .simp only[aI,aG,aH];omega
theorem aKq{c:Cel}(h:c.enc.ir):(nZ c).length+8<=64 * (c.enc.bulk+1):=by
 have:=zZ (aHv h);rw[xF];unfold nZ;simp only[aI,aG,aH];omega
theorem aUk{e:Eqn}(h:e.enc.ir):(pU e).length+2<=64 * (e.enc.bulk+1):=by
 obtain⟨m,i2,i3⟩:=aMC h;have:=zZ m;have:=zZ i2;have:=aMf i3;rw[vR];unfold pU;simp only[aI,aG,aH];omega
theorem aRK{p:Part}(h:p.enc.ir):(rA p).length+2<=64 * (p.enc.bulk+1):=by
 obtain⟨u,i2⟩:=aL0 h;have:=zZ u;have:=aD2 uA Tm.enc 28 p.right (λx m=>by have:=zZ (i2 x m);unfold uA;simp only[aI,aG,aH];omega);rw[xA];unfold rA;split<;>simp only[aI,aG,aH]<;>omega
theorem aRL{r:Rul}(h:r.enc.ir):(oQ r).length+2<=64 * (r.enc.bulk+1):=by
 obtain⟨y,i2,i3⟩:=aMM h;have H:=qR rA Part.enc 64 2 r.parts (λx m=>aRK (y x m))
 have M:=qR rX Fresh.enc 64 2 r.new (λx m=>by
  have:=aBd Tm.w2 Tm.enc 28 [44,32] x.cells false (λt u=>by have:=zZ (i2 x m t u);simp only[aG,aH];omega);rw[yQ];unfold rX;simp only[aI,aG,aH];omega)
 have B:=qR sV A.str 64 2 r.drop (λx m=>by
  unfold sV;simp only[aI,aG,aH,A.bulk];omega)
 have F:=aMf i3;have z:(dS [59,32] false (nD r)).length<=sm 2 (nD r):=aCm [59,32] (nD r) false;rw[nD,aAa,aAa]at z;rw[rQ];unfold oQ;rw[nD];simp only[aI,aG,aH];omega
theorem aTN{o:Opr}(h:o.enc.ir):(nL o).length+2<=64 * (o.enc.bulk+1):=by
 obtain⟨u,i2⟩:=aHD h
 have e:o.enc.bulk=o.name.length+(bI (o.args.map .str)+(o.sort.length+(bI (o.pieces.map Piece.enc)+bI (o.strict.map (.int .i64))))):=by
  simp only[Opr.enc,Opr.cs,A.bulk,cX,Nat.add_zero,fH]
 have B:=aD2 sA A.str 1 o.args (λx m=>by simp only[sA,aG,A.bulk];omega)
 have F:=aD2 pI Piece.enc 3 o.pieces (λx m=>by
  have e:(Piece.enc x).bulk=x.text.length+x.sort.length:=by simp only[Piece.enc,Piece.cs,A.bulk,cX,Nat.add_zero]
  unfold pI;split<;>simp only[aI,aG,aH]<;>omega)
 have y:=aBd Lib.itoa (A.int .i64) 22 [44,32] o.strict false (λx m=>by have:=aCq (i2 x m);simp only[aG,aH,A.bulk];omega);have z:=aCq u;unfold nL uF tY zB;rw[e]
 repeat' split
 all_goals (simp only[aI,aG,aH];omega)
theorem aSI(o:Opr):(pR o).length+2<=64 * (o.enc.bulk+1):=by
 have e:o.enc.bulk=o.name.length+(bI (o.args.map .str)+(o.sort.length+(bI (o.pieces.map Piece.enc)+bI (o.strict.map (.int .i64))))):=by
  simp only[Opr.enc,Opr.cs,A.bulk,cX,Nat.add_zero,fH]
 have h:(dS [32] false (o.args++[[45,62,32]++o.sort])).length<=sm 1 (o.args++[[45,62,32]++o.sort]):=aCm [32] _ false;have m:=qR id A.str 1 1 o.args (λx u=>by simp only[id,A.bulk];omega);rw[List.map_id]at m;rw[aAa]at h;simp only[sm,aI,aG,aH]at h;unfold pR;rw[e];simp only[aI,aG,aH];omega
theorem aJj(k:aD)(l:List aD):sm 2 (lE k l)<=k.length+2+3 * bI (l.map .str):=by
 unfold lE;split
 .exact aU _
 .have h:=aBd id A.str 3 [44,32] l false (λx m=>by simp only[id,A.bulk,aG,aH];omega);rw[List.map_id]at h;simp only[sm,aI];omega
theorem aJq(k x:aD):sm 2 (kT k x)<=k.length+2+x.length:=by
 unfold kT;split
 .exact aU _
 .simp only[sm,aI];omega
theorem aQS(k:aD){l:List Cel}(h:∀c,c∈l->c.enc.ir):sm 2 (qU k l)<=9+k.length+64 * bI (l.map Cel.enc):=by
 unfold qU;split
 .exact aU _
 .have u:=aBd nZ Cel.enc 64 [44,32] l false (λx m=>by have:=aKq (h x m);simp only[aG,aH];omega);simp only[sm,aI,aG,aH];omega
theorem aVp{d:Dfn}(h:d.enc.ir):(wU d).length<=128+64 * cX d.cs:=by
 obtain⟨B,i2,i3,i4,i5⟩:=aHl h;have g0:(dS [46,10] false (iT d)).length<=sm 2 (iT d):=aCm [46,10] (iT d) false;have F:=aJj [115,111,114,116,32] d.sig.sorts
 have M:=qR pJ Below.enc 64 2 d.sig.below (λx m=>by
  unfold pJ;simp only[aI,aG,aH,Below.enc,Below.cs,A.bulk,cX];omega)
 have y:=aJj [118,97,108,117,101,32] d.sig.values;have Z:=qR nL Opr.enc 64 2 d.sig.ops (λx m=>aTN (B x m));have O:=qR pR Opr.enc 64 2 d.sig.funs (λx m=>aSI x);have g6:=qR pU Eqn.enc 64 2 d.eqs (λx m=>aUk (i2 x m))
 have U:=qR qY Cel.enc 64 2 d.once (λx m=>by
  have:=aKq (i3 x m);unfold qY;simp only[aI,aG,aH];omega)
 have S:=qR oQ Rul.enc 64 2 d.rules (λx m=>aRL (i5 x m));have z:=aJq [115,116,97,114,116,32] d.start;have u:=aJq [119,97,116,99,104,32] d.watch;have H:=aQS d.kind i4
 have es:cX d.sig.cs=bI (d.sig.sorts.map .str)+(bI (d.sig.below.map Below.enc)+(bI (d.sig.ops.map Opr.enc)+(bI (d.sig.funs.map Opr.enc)+bI (d.sig.values.map .str)))):=by
  simp only[Sig.cs,A.bulk,cX,Nat.add_zero]
 rw[tW,es];unfold wU;simp only[iT,pP,aAa]at g0;simp only[sm,aI,aG,aH]at g0 F y z u⊢;simp only[iT,pP];omega
theorem aQE(d:Dfn)(y:cX d.cs<=100000000):DfnT d:=by
 have es:cX d.sig.cs=bI (d.sig.sorts.map .str)+(bI (d.sig.below.map Below.enc)+(bI (d.sig.ops.map Opr.enc)+(bI (d.sig.funs.map Opr.enc)+bI (d.sig.values.map .str)))):=by
  simp only[Sig.cs,A.bulk,cX,Nat.add_zero]
 rw[tW,es]at y;refine⟨λo ho=>?_,λo ho=>?_,λe m=>?_,?_,λr h=>⟨?_,λf u=>?_,?_⟩⟩
 .have:=fI Opr.enc ho;have:=eE (A.int .i64) o.strict;simp only[Opr.enc,Opr.cs,A.bulk,cX]at *;omega
 .have:=fI Opr.enc ho;have:=eE A.str o.args;simp only[Opr.enc,Opr.cs,A.bulk,cX]at *;omega
 .have:=fI Eqn.enc m;have:=eE Tm.enc e.cond;rw[vR]at *;omega
 .have:=eE Cel.enc d.many;omega
 .have:=fI Rul.enc h;have:=eE Part.enc r.parts;have:=eE Fresh.enc r.new;have:=eE A.str r.drop;rw[rQ]at *;simp only[nD,aI,aK];omega
 .have:=fI Rul.enc h;have:=fI Fresh.enc u;have:=eE Tm.enc f.cells;rw[rQ,yQ]at *;omega
 .have:=fI Rul.enc h;have:=eE Tm.enc r.cond;rw[rQ]at *;omega
abbrev Lt:=List (Tok × aD)
def eN:Lt->aD
 | []=>[]
 | x::r=>x.1.word++(x.2++eN r)
def aHx(z:aD):Prop:=∀c r,z=c::r->fK c.toNat=false
def xX:Lt->Prop
 | []=>True
 | x::r=>TokG x.1/\(x.2=[]\/x.2=[32]\/x.2=[10])/\(x.1.kind=4->x.1.text=[45]->x.2=[])/\(x.2=[]->x.1.kind=1\/x.1.kind=2->aHx (eN r))/\xX r
theorem aNn{P:Lt}(h:xX P):aHE (eN P):=by
 cases P with
 | nil=>exact .inl rfl
 | cons x P =>
  obtain⟨c,r,e,m,h2⟩:=aCk h.1;exact .inr ⟨c,_,by rw[eN,e];rfl,m,h2⟩
theorem aJ6{x:aD}(h:aHE x){b:UInt8}(m:b=32\/b=10):fL (b::x)=1:=by
 unfold fL;show oX (x.length+1) (b::x)=1;simp only[oX];rcases m with rfl|rfl
 .rw[aF aE,aEq h]
 .rw[aF aE,aEq h]
theorem aVn(f:Nat):∀(P:Lt) (p:Nat × Nat) (y:List Tok),xX P->(eN P).length<=f ->
  ∃U,lX dR true f (eN P) p y=.ok (y++U)/\Mv (P.map (·.1)) U/\∀v z,U=v::z->v.line=p.1/\v.col=p.2:=by
 induction f with
 | zero =>
  intro P p y O Z;cases P with
  | nil=>exact⟨[],by simp only[eN,lX,eH],.nil,λv z h=>by cases h⟩
  | cons x P =>
   obtain⟨c,r,e,_⟩:=aCk O.1;rw[eN,e]at Z;simp at Z
 | succ f ih =>
  intro P p y O Z;cases P with
  | nil=>exact⟨[],by simp only[eN,lX,eH],.nil,λv z h=>by cases h⟩
  | cons x P =>
  obtain⟨t,m⟩:=x;obtain⟨ht,H,hm,hj,hP⟩:=O;simp only at ht H hm hj;obtain⟨c,r,e,b4,b5⟩:=aCk ht;have M:=aNn hP
  have b0:fL (m++eN P)=m.length:=by
   rcases H with rfl|rfl|rfl
   .exact aEq M _
   .exact aJ6 M (.inl rfl)
   .exact aJ6 M (.inr rfl)
  have h7:m++eN P=[]\/∃b z',m++eN P=b::z'/\b≠62/\(t.kind=1\/t.kind=2->fK b.toNat=false):=by
   rcases H with rfl|rfl|rfl
   .cases P with
    | nil=>exact .inl rfl
    | cons u Q =>
     obtain⟨d,s,eu,_⟩:=aCk hP.1;exact .inr ⟨d,s++(u.2++eN Q),by rw[bA,eN,eu];rfl,aTG hP.1 eu,λB=>hj rfl B d (s++(u.2++eN Q)) (by rw[eN,eu];rfl)⟩
   .exact .inr ⟨32,_,rfl,by decide,λ_=>by decide⟩
   .exact .inr ⟨10,_,rfl,by decide,λ_=>by decide⟩
  have F:=aTJ ht h7;have b3:1<=t.word.length:=by rw[e];simp
  have b2:(eN P).length<=f:=by
   rw[eN,aI,aI]at Z;simp only at Z;omega
  obtain⟨U,g1,g2,g3⟩:=ih P (eP (eP p t.word) m) (y++[⟨t.kind,t.text,t.n,p.1,p.2⟩]) hP b2;refine⟨t.to p.1 p.2::U,?_,.cons (λv z' hv k1 k2 k3 kt kv=>?_) g2,λv z' hv=>by cases hv;exact⟨rfl,rfl⟩⟩
  .rw[eN];simp only;rw[e,aZ];rw[e,aZ]at F;simp only[lX];rw[F];simp only;have d1:(c::(r++(m++eN P))).drop t.word.length=m++eN P:=by rw[<-aZ,<-e,List.drop_left' rfl]
   have d2:(c::(r++(m++eN P))).take t.word.length=t.word:=by rw[<-aZ,<-e,List.take_left' rfl]
   have d3:(m++eN P).drop (fL (m++eN P))=eN P:=by rw[b0,List.drop_left' rfl]
   have d4:(m++eN P).take (fL (m++eN P))=m:=by rw[b0,List.take_left' rfl]
   rw[<-e,d1,d2,d3,d4,g1,bG];rfl
  .obtain⟨q1,q2⟩:=g3 v z' hv
   have h4:t.kind=4:=by
    rcases ht.is with⟨B,_⟩|⟨B,_⟩|⟨B,_⟩|⟨B,_⟩
    .exact cM B k1
    .exact cM B k2
    .exact cM B k3
    .exact B
   have S:t.text=[45]:=kt;have ew:t.word=[45]:=by unfold Tok.word;rw[h4,aB aE,aB aE];exact S
   rw[hm h4 S,ew]at q1 q2;exact⟨q1,by rw[q2];rfl⟩
theorem aMo{P:Lt}(h:xX P):∃m,kC dR true (eN P)=.ok m/\Mv (P.map (·.1)) m:=by
 unfold kC;rw[show fL (eN P)=0 from aEq (aNn h) _,sL,List.take_zero];obtain⟨m,u,h2,_⟩:=aVn (eN P).length P (eP (1,1) []) [] h (aV _);exact⟨m,by rw[u,bA],h2⟩
def rV(l:List Tm):List Tok:=if l=[] then [] else bL [105,102]::jN tK false l
def oO(p:Piece):Tok:=if p.sort=[] then tkt p.text else bL p.sort
def qS(o:Opr):List Tok :=
 (if 0 < o.prec then [bL [112,114,101,99],tP o.prec] else []) ++ ((if o.assoc = 1 then [bL [108,101,102,116]] else if o.assoc = 2 then [bL [114,105,103,104,116]] else []) ++
  ((if o.strict=[] then [] else bL [115,116,114,105,99,116]::aW [40]::(jN (λn=>[tP n]) false o.strict++[aW [41]]))++[aW [46]]))
def vC(o:Opr):List Tok :=
 bL [111,112]::bL o.name::aW [58]::(o.pieces.map oO++((if o.pieces=[] then o.args.map bL else [])++(aW [45,62]::bL o.sort::qS o)))
def uT(o:Opr):List Tok:=bL [102,117,110]::bL o.name::aW [58]::(o.args.map bL++[aW [45,62],bL o.sort,aW [46]])
def uG(c:Cel):List Tok:=bL c.name::aW [58]::bL c.sort::aW [61]::tK c.init
def uS(n:Nat):List Tok:=if 0<n then [aW [59]] else []
def xN:List Tm->List Tok
 | []=>[]
 | t::r=>aW [61,62]::(tK t++xN r)
def uK(p:Part):List Tok:=bL p.cell::((if p.at_=[] then [] else [aW [64],bL p.at_])++(aW [58]::(tK p.left++xN p.right)))
def wH(f:Fresh):List Tok:=bL [110,101,119]::aW [40]::(jN tK false f.cells++[aW [41]])
def vZ(s:aD):List Tok:=[bL [100,114,111,112],aW [64],bL s]
def gT{α:Type}(one:α->List Tok):Nat->List α->List Tok
 | _,[]=>[]
 | n,x::r=>uS n++(one x++gT one (n+1) r)
def uM(r:Rul):List Tok :=
 bL [114,117,108,101]::bL r.name::aW [58]::(gT uK 0 r.parts++(gT wH r.parts.length r.new++(gT vZ (r.parts.length+r.new.length) r.drop++(rV r.cond++[aW [46]]))))
def qZ(k:aD)(l:List aD):List Tok:=if l=[] then [] else bL k::(jN (λx=>[bL x]) false l++[aW [46]])
def aAb(x:Below):List Tok:=[bL [115,117,98,115,111,114,116],bL x.low,aW [60],bL x.high,aW [46]]
def uU(x:Eqn):List Tok:=bL [108,101,116]::(tK x.left++(aW [61]::(tK x.right++(rV x.cond++[aW [46]]))))
def xS(c:Cel):List Tok:=bL [99,101,108,108]::(uG c++[aW [46]])
def aAh(k:aD)(l:List Cel):List Tok:=if k=[] then [] else bL [109,97,110,121]::bL k::aW [40]::(jN uG false l++[aW [41],aW [46]])
def qX(k x:aD):List Tok:=if x=[] then [] else [bL k,bL x,aW [46]]
def aH1(s:Sig):List Tok:=qZ [115,111,114,116] s.sorts++(s.below.flatMap aAb++(qZ [118,97,108,117,101] s.values++(s.ops.flatMap vC++s.funs.flatMap uT)))
def xL(d:Dfn):List Tok :=
 aH1 d.sig++(d.eqs.flatMap uU++(d.once.flatMap xS++(aAh d.kind d.many++(qX [115,116,97,114,116] d.start++(qX [119,97,116,99,104] d.watch++d.rules.flatMap uM)))))
def uQ(d:Dfn):List Tok:=bL [108,97,110,103,117,97,103,101]::bL d.name::aW [46]::xL d
theorem aKi{l:List Tm}(h:TmsG l)(c:List Wd):bD (pM c l)=bD c++tw (rV l):=by
 unfold pM rV;by_cases hl:l=[]
 .rw[aF hl,aF hl];simp[tw]
 .rw[aB hl,aB hl,wY bS tK l false _ (λx m c=>zJ (h.t x m).g c),cW,mZ,bG];rfl
theorem aKZ{x:Cel}(h:CelG x)(c:List Wd):bD (gX c x)=bD c++tw (uG x):=by
 unfold gX uG;rw[zJ h.i.g,eV];simp only[mZ,lY,bG,aZ,bA]
theorem aME{l:List aD}:tw (l.map bL)=l:=by
 induction l with
 | nil=>rfl
 | cons x r h=>rw[bN,mZ,h]
theorem aQW(l:List Piece):tw (l.map oO)=l.map mH:=by
 induction l with
 | nil=>rfl
 | cons p r m =>
  rw[bN,bN,<-m];unfold oO mH;by_cases h:p.sort=[]
  .rw[aF h,aF h,aVS]
  .rw[aB h,aB h,mZ]
theorem aUu(o:Opr):bD (pV o)=tw (vC o):=by
 have u:∀c:List Wd,bD (if o.strict=[] then c else aJ (dL (λc n=>aJ c (Lib.itoa n)) false (bF c [[115,116,114,105,99,116],[40]]) o.strict) [41])=bD c++tw (if o.strict=[] then [] else bL [115,116,114,105,99,116]::aW [40]::(jN (λn=>[tP n]) false o.strict++[aW [41]])):=by
  intro c;by_cases h:o.strict=[]
  .rw[aF h,aF h];simp[tw]
  .rw[aB h,aB h,cW,wY (λc n=>aJ c (Lib.itoa n)) (λn=>[tP n]) o.strict false _ (λx _ c=>by rw[cW];rfl),eV];simp only[mZ,lY,lU,kV,bG,aZ,bA]
 have m:∀c:List Wd,bD (if o.assoc=1 then aJ c [108,101,102,116] else if o.assoc=2 then aJ c [114,105,103,104,116] else c)=bD c++tw (if o.assoc=1 then [bL [108,101,102,116]] else if o.assoc=2 then [bL [114,105,103,104,116]] else []):=by
  intro c;by_cases h:o.assoc=1
  .rw[aF h,aF h,cW];rfl
  .rw[aB h,aB h];by_cases h2:o.assoc=2
   .rw[aF h2,aF h2,cW];rfl
   .rw[aB h2,aB h2,kV,eH]
 have z:∀c:List Wd,bD (if 0<o.prec then bF c [[112,114,101,99],Lib.itoa o.prec] else c)=bD c++tw (if 0<o.prec then [bL [112,114,101,99],tP o.prec] else []):=by
  intro c;by_cases h:0<o.prec
  .rw[aF h,aF h,eV];rfl
  .rw[aB h,aB h,kV,eH]
 have y:∀c:List Wd,bD (if o.pieces=[] then bF c o.args else c)=bD c++tw (if o.pieces=[] then o.args.map bL else []):=by
  intro c;by_cases h:o.pieces=[]
  .rw[aF h,aF h,eV,aME]
  .rw[aB h,aB h,kV,eH]
 unfold pV vC qS;simp only[];rw[cW,u,m,z,eV,y,eV,eV];simp only[mZ,lY,lU,aQW,kV,bG,aZ,bA];rfl
theorem aTx(o:Opr):bD (uO o)=tw (uT o):=by
 unfold uO uT;rw[cW,eV,eV,eV];simp only[mZ,lY,lU,aME,kV,bG,aZ,bA];rfl
theorem aGV(n:Nat)(c:List Wd):bD (fB n c)=bD c++tw (uS n):=by
 unfold fB uS;by_cases h:0<n
 .rw[aF h,aF h,cW];rfl
 .rw[aB h,aB h,kV,eH]
theorem aDR{α:Type}(one:Nat->List Wd->α->List Wd)(m:α->List Tok):∀(l:List α) (n:Nat) (c:List Wd),(∀x,x∈l->∀n c,bD (one n c x)=bD c++(tw (uS n)++tw (m x)))->bD (eZ one n c l)=bD c++tw (gT m n l)
 | [],n,c,_=>by simp[eZ,gT,tw]
 | x::r,n,c,h=>by
  rw[eZ,aDR one m r _ _ (λy u=>h y (cP _ u)),h x (bU ..),gT];simp only[lU,bG]
theorem aR2{p:Part}(h:PartG p)(n:Nat)(c:List Wd):bD (jV n c p)=bD c++(tw (uS n)++tw (uK p)):=by
 have e:∀c:List Wd,bD (kM c p.right)=bD c++tw (xN p.right):=by
  intro c;rcases h.r with e|⟨u,e,m⟩
  .rw[e];simp[kM,xN,tw]
  .rw[e];simp only[kM,xN];rw[zJ m.g,cW];simp only[lY,lU,kV,eH,bG,aZ,bA]
 have y:∀c:List Wd,bD (if p.at_=[] then c else bF c [[64],p.at_])=bD c++tw (if p.at_=[] then [] else [aW [64],bL p.at_]):=by
  intro c;by_cases h:p.at_=[]
  .rw[aF h,aF h,kV,eH]
  .rw[aB h,aB h,eV];rfl
 unfold jV uK;simp only[];rw[e,zJ h.l.g,cW,y,cW,aGV];simp only[mZ,lY,lU,kV,bG,aZ,bA]
theorem aTZ{f:Fresh}(h:NewG f)(n:Nat)(c:List Wd):bD (kX n c f)=bD c++(tw (uS n)++tw (wH f)):=by
 unfold kX wH;rw[cW,wY bS tK f.cells false _ (λx m c=>zJ (h.t x m).g c),eV,aGV];simp only[mZ,lY,lU,kV,bG,aZ,bA]
theorem aSc(x:aD)(n:Nat)(c:List Wd):bD (kW n c x)=bD c++(tw (uS n)++tw (vZ x)):=by
 unfold kW vZ;rw[eV,aGV,bG];rfl
theorem aS6{r:Rul}(h:RulG r):bD (mX r)=tw (uM r):=by
 unfold mX uM;simp only[];rw[cW,aKi h.c,aDR kW vZ r.drop _ _ (λx _ n c=>aSc x n c),aDR kX wH r.new _ _ (λx m n c=>aTZ (h.p.f x m) n c),aDR jV uK r.parts _ _ (λx m n c=>aR2 (h.p.p x m) n c),eV];simp only[mZ,lY,lU,kV,bG,aZ,bA];rfl
theorem aVu{x:Eqn}(h:EqG x):bD (rE x)=tw (uU x):=by
 unfold rE uU;rw[cW,aKi h.c,zJ h.r.g,cW,zJ h.l.g,cW];simp only[mZ,lY,lU,kV,bG,aZ,bA];rfl
theorem aQz(a b:List (List Wd)):dN (a++b)=dN a++dN b:=by simp[dN]
theorem yW{α:Type}(f:α->List Wd)(g:α->List Tok):∀l:List α,(∀x,x∈l->bD (f x)=tw (g x))->dN (l.map f)=tw (l.flatMap g)
 | [],_=>rfl
 | x::r,h=>by
  rw[bN,kG,lU,<-h x (bU ..),<-yW f g r (λy m=>h y (cP _ m))];rfl
theorem aDi(x:List Wd):dN [x]=bD x:=by simp[dN,bD]
theorem aQJ(k:aD)(l:List aD):dN (nB k l)=tw (qZ k l):=by
 unfold nB qZ;by_cases h:l=[]
 .rw[aF h,aF h];rfl
 .rw[aB h,aB h,aDi,cW,wY aJ (λx=>[bL x]) l false _ (λx _ c=>by rw[cW];rfl),cW];simp only[mZ,lY,lU,kV,bG,aZ,bA];rfl
theorem aQP(k x:aD):dN (mU k x)=tw (qX k x):=by
 unfold mU qX;by_cases h:x=[]
 .rw[aF h,aF h];rfl
 .rw[aB h,aB h,aDi,cW,eV];rfl
theorem aRY{k:aD}{l:List Cel}(h:∀x,x∈l->CelG x):dN (if k=[] then [] else [aJ (aJ (dL gX false (bF [] [[109,97,110,121],k,[40]]) l) [41]) [46]])=tw (aAh k l):=by
 unfold aAh;by_cases m:k=[]
 .rw[aF m,aF m];rfl
 .rw[aB m,aB m,aDi,cW,cW,wY gX uG l false _ (λx u c=>aKZ (h x u) c),eV];simp only[mZ,lY,lU,kV,bG,aZ,bA];rfl
theorem aMc{d:Dfn}(h:DfnG d):dN (eD d)=tw (uQ d):=by
 unfold eD uQ xL wJ aH1;simp only[aQz,aQJ,aQP,aRY h.ma];rw[yW pV vC _ (λx _=>aUu x),yW uO uT _ (λx _=>aTx x),yW mX uM _ (λx m=>aS6 (h.ru x m)),yW rE uU _ (λx m=>aVu (h.eq x m)),yW _ xS d.once (λx m=>?_),yW _ aAb d.sig.below (λx m=>?_),aDi,cW,eV]
 .simp only[mZ,lY,lU,kV,bG,aZ,bA];rfl
 .rw[cW,eV];rfl
 .unfold xS;rw[cW,aKZ (h.ce x m),cW];simp only[mZ,lY,lU,kV,bG,aZ,bA];rfl
def sC:List Tok->Lt
 | []=>[]
 | [t]=>[(t,[])]
 | t::u::r=>(t,if kE t.word u.word=true then [32] else [])::sC (u::r)
theorem aNk:∀(l:List Tok) (x:aD),lF x (tw l)=(match l with|[]=>[]|t::_=>if kE x t.word=true then [32] else [])++eN (sC l)
 | [],x=>rfl
 | [t],x=>by
  rw[show tw [t]=[t.word] from rfl,vM];simp[lF,sC,eN]
 | t::u::r,x=>by
  rw[show tw (t::u::r)=t.word::tw (u::r) from rfl,vM,aNk (u::r) t.word];simp only[sC,eN]
theorem aNf:∀l:List Tok,(sC l).map (·.1)=l
 | []=>rfl
 | [t]=>rfl
 | t::u::r=>by simp only[sC,bN,aNf (u::r)]
def okP(a b:Wd):Prop:=(b.2=true->a.1∈tD\/a.1=[58]\/a.1=[45]\/b.1∈xV\/b.1=[40]\/b.1=[58])/\(a.1=[45]->b.2=true)
def Ch:List Wd->Prop
 | a::b::r=>okP a b/\Ch (b::r)
 | _=>True
theorem Ch.snoc{w:Wd}:∀{c:List Wd},Ch c->(∀a,c.getLast?=some a->okP a w)->Ch (c++[w])
 | [],_,_=>trivial
 | [a],_,h=>⟨h a rfl,trivial⟩
 | a::b::r,m,h=>⟨m.1,Ch.snoc (c:=b::r) m.2 (λx u=>h x (by rw[List.getLast?_cons_cons];exact u))⟩
structure Wk (c:List Wd):Prop where
 ch:Ch c
 l:∀a,c.getLast?=some a->a.1≠[45]
 f:∀a,c.head?=some a->a.2=true
theorem aBZ{c:List Wd}{w a:Wd}(h:(c++[w]).head?=some a):(c=[]/\a=w)\/c.head?=some a:=by
 cases c with
 | nil=>exact .inl ⟨rfl,by cases h;rfl⟩
 | cons x r=>exact .inr h
theorem aAO{c:List Wd}{w a:Wd}(h:(c++[w]).getLast?=some a):a=w:=by
 rw[List.getLast?_append]at h;cases h;rfl
def gp(c:List Wd):Nat:=match c.getLast? with
 | none=>0
 | some l=>if l.1∈tD then 0 else 1
theorem kN(c:List Wd):gp c<=1:=by
 unfold gp;split
 .omega
 .split<;>omega
theorem sW(c:List Wd)(s:aD):gp (aJ c s)=if s∈tD then 0 else 1:=by
 unfold gp aJ;rw[List.getLast?_append];rfl
theorem yY(c:List Wd)(w:Wd):(kO (c++[w])).length=(kO c).length+((if w.2=true then 0 else 1)+w.1.length):=by
 unfold kO;rw[List.flatMap_append,aI,kG,List.flatMap_nil,eH,aI];split<;>rfl
structure Sx (c c':List Wd) (n:Nat):Prop where
 w:Wk c->Wk c'
 n:(kO c').length<=(kO c).length+n
theorem Sx.refl(c:List Wd):Sx c c 0:=⟨id,aV _⟩
theorem Sx.trans{a b c:List Wd}{n m k:Nat}(h:Sx a b n)(g:Sx b c m)(u:n+m<=k:=by omega):Sx a c k:=⟨λw=>g.w (h.w w),by have:=h.n;have:=g.n;omega⟩
theorem Sx.le{a b:List Wd}{n k:Nat}(h:Sx a b n)(m:n<=k:=by omega):Sx a b k:=⟨h.w,by have:=h.n;omega⟩
theorem Wk.put{c:List Wd}(h:Wk c){s:aD}(u:s≠[45]):Wk (aJ c s):=by
 refine⟨h.ch.snoc λa m=>⟨λe=>?_,λe=>cM e (h.l a m)⟩,λa m=>by rw[aAO m];exact u,λa m=>?_⟩
 .simp only[oL,m,oK,cT,dE]at e;rcases e with(e|e)|⟨e,_⟩
  .exact .inr (.inr (.inr (.inl e)))
  .exact .inl e
  .exact .inr (.inr (.inr (.inr (.inl e))))
 .rcases aBZ m with⟨rfl,rfl⟩|e
  .rfl
  .exact h.f a e
theorem aM8(c:List Wd)(s:aD):(if oL c s=true then 0 else 1)<=gp c:=by
 unfold oL gp;cases c.getLast? with
 | none=>exact aV _
 | some l =>
  simp only;split
  .exact aU _
  .rename_i h;simp only[oK,dE,not_or]at h;rw[aB h.1.2];exact aV _
theorem Sx.put(c:List Wd){s:aD}(m:s≠[45]):Sx c (aJ c s) (gp c+s.length):=by
 refine⟨λh=>h.put m,?_⟩;unfold aJ;rw[yY];have:=aM8 c s;simp only;omega
theorem rT(c:List Wd){s:aD}(m:s∈xV):Sx c (aJ c s) s.length:=by
 refine⟨λh=>h.put (λe=>by rw[e]at m;revert m;decide),?_⟩;unfold aJ;rw[yY]
 have:oL c s=true:=by
  unfold oL;cases c.getLast? with
  | none=>rfl
  | some l=>simp[m]
 rw[this];simp
theorem jX{x:aD}(h:dT x=true):x≠[45]/\x ∉ tD:=⟨λe=>by rw[e]at h;revert h;decide,λe=>by
 simp only[tD,eA,pF,eS]at e;rcases e with rfl|rfl|rfl|rfl|rfl<;>(revert h;decide)⟩
theorem aEm(c:List Wd){x:aD}(m:dT x=true):Sx c (bF c [x,[40]]) (gp c+x.length+1):=by
 refine⟨λh=>(h.put (jX m).1).put aE,?_⟩;have u:=(Sx.put c (jX m).1).n;show(kO (aJ (aJ c x) [40])).length<=_
 have:oL (aJ c x) [40]=true:=by
  unfold oL aJ;rw[List.getLast?_append];simp[m]
 unfold aJ at this⊢;rw[yY,this];unfold aJ at u;simp only[bT,aG,aH];omega
theorem Sx.glue(c:List Wd){x y:aD}(B:x≠[45])(F:y≠[45]):Sx c (lV c [x,[58],y]) (gp c+(x.length+1+y.length)):=by
 have u:=Sx.put c B;show Sx c ((aJ c x++[([58],true)])++[(y,true)]) _;refine⟨λh=>?_,?_⟩
 .have h2:=u.w h
  have z:Wk (aJ c x++[([58],true)]):=⟨h2.ch.snoc λa m=>⟨λ_=>.inr (.inr (.inr (.inr (.inr rfl)))),λ_=>rfl⟩,λa m=>by rw[aAO m];decide,λa m=>by
   rcases aBZ m with⟨e,rfl⟩|e
   .rfl
   .exact h2.f a e⟩
  exact⟨z.ch.snoc λa m=>⟨λ_=>.inr (.inl (by rw[aAO m])),λ_=>rfl⟩,λa m=>by rw[aAO m];exact F,λa m=>by
   rcases aBZ m with⟨e,rfl⟩|e
   .rfl
   .exact z.f a e⟩
 .have:=u.n;rw[yY,yY];simp only[bT,aG,aH];omega
theorem Sx.neg(c:List Wd){y:aD}(u:y≠[45]):Sx c (lV c [[45],y]) (gp c+(1+y.length)):=by
 show Sx c (aJ c [45]++[(y,true)]) _;refine⟨λh=>?_,?_⟩
 .have h2:Ch (aJ c [45])/\∀a,(aJ c [45]).head?=some a->a.2=true:=by
   refine⟨h.ch.snoc λa m=>⟨λe=>?_,λe=>cM e (h.l a m)⟩,λa m=>?_⟩
   .simp only[oL,m,oK,cT,dE]at e;rcases e with(e|e)|⟨e,_⟩
    .exact .inr (.inr (.inr (.inl e)))
    .exact .inl e
    .cases e
   .rcases aBZ m with⟨rfl,rfl⟩|e
    .rfl
    .exact h.f a e
  exact⟨h2.1.snoc λa m=>⟨λ_=>.inr (.inr (.inl (by rw[aAO m]))),λ_=>rfl⟩,λa m=>by rw[aAO m];exact u,λa m=>by
   rcases aBZ m with⟨e,rfl⟩|e
   .rfl
   .exact h2.2 a e⟩
 .have z:(kO (aJ c [45])).length<=(kO c).length+(gp c+1):=by
   unfold aJ;rw[yY];have:=aM8 c [45];simp only[aG,aH];omega
  rw[yY];simp only[bT];omega
theorem aJJ{α:Type}{one:List Wd->α->List Wd}{f:α->aD}:∀(l:List α) (c:List Wd),(∀x,x∈l->∀c,Sx c (one c x) (gp c+(f x).length))->Sx c (dL one true c l) (dS [44,32] true (l.map f)).length
 | [],c,_=>(Sx.refl c).le (aU _)
 | x::r,c,h=>by
  have m:=rT c (s:=[44]) aE;have h2:=h x (bU ..) (aJ c [44]);have u:=aJJ r (one (aJ c [44]) x) (λy z=>h y (cP _ z));have B:=kN (aJ c [44]);rw[dL,bN,dS];refine(m.trans h2 (aV _)).trans u ?_;simp only[bT,aI,aG,aH];omega
theorem yO{α:Type}{one:List Wd->α->List Wd}{f:α->aD}(l:List α)(c:List Wd)(h:∀x,x∈l->∀c,Sx c (one c x) (gp c+(f x).length)):Sx c (dL one false c l) (gp c+(dS [44,32] false (l.map f)).length):=by
 cases l with
 | nil=>exact(Sx.refl c).le (aU _)
 | cons x r =>
  have h2:=h x (bU ..) c;have m:=aJJ (f:=f) r (one c x) (λy u=>h y (cP _ u));rw[dL,bN,dS];refine h2.trans m ?_;simp only[cE,bR,aI,aH];omega
theorem aNa(u:Nat):Lib.decDigits u≠[45]:=λe=>by
 obtain⟨c,r,h,m,h2⟩:=aAc _ u (iD _);rw[e]at h;cases h;revert m;decide
theorem aHb{n:Int}(h:0<=n):Lib.itoa n≠[45]:=by
 unfold Lib.itoa;rw[aB aC];exact aNa _
theorem Sx.rest{S:aD}{m:List Tm}(h:wC S m)(c:List Wd):Sx c (jY c m) (oA false m).length/\(gp c=0->Sx c (jY c m) (oA true m).length):=by
 rcases h with rfl|⟨x,rfl,y,_⟩
 .exact⟨Sx.refl c,λ_=>Sx.refl c⟩
 .have z:Sx c (aJ c [124]) (gp c+1):=Sx.put c aE;have h2:=Sx.put (aJ c [124]) (jX y).1;rw[sW,aB aE]at h2;have B:=kN c;have u:=z.trans h2 (aV _);have e:jY c [.mk 6 0 x S [] []]=aJ (aJ c [124]) x:=rfl;rw[e];exact⟨u.le (by simp only[oA,Tm.text,cE,bR,aI,aG,aH];omega),λF=>u.le (by simp only[oA,Tm.text,bT,aI,aG,aH];omega)⟩
theorem aLJ:∀(k:Nat) (l:List Tm) (b:Bool) (c:List Wd),l.length<=k->(∀t,t∈l->∀c,Sx c (bS c t) (gp c+t.w2.length))->Sx c (fA b c l) ((if b=true then 0 else gp c)+(jA b l).length)
 | k,[],b,c,_,_=>(Sx.refl c).le (aU _)
 | k,[x],b,c,_,_=>(Sx.refl c).le (aU _)
 | k+1,x::y::r,b,c,h,m=>by
  have B:Sx c (if b=true then aJ c [44] else c) (if b=true then 1 else 0):=by
   cases b
   .exact Sx.refl c
   .exact rT c aE
  have z:gp (if b=true then aJ c [44] else c)<=if b=true then 1 else gp c:=by
   cases b
   .exact aV _
   .exact kN _
  rw[fA];generalize (if b=true then aJ c [44] else c)=d at B z⊢;have h2:=m x (bU ..) d;have H:=Sx.put (bS d x) (s:=[45,62]) aE;have O:=kN (bS d x);have u:=m y (cP _ (bU ..)) (aJ (bS d x) [45,62]);rw[sW,aB aE]at u;have F:=aLJ k r true (bS (aJ (bS d x) [45,62]) y) (by simp only[aG]at h;omega) (λt M=>m t (cP _ (cP _ M)));refine((((B.trans h2 (aV _)).trans H (aV _)).trans u (aV _)).trans F (aV _)).le ?_;rw[jA];cases b<;>simp only[bT,cE,bR,aI,aG,aH,fH]at z⊢<;>omega
theorem zP{t:Tm}(h:Gd t):∀c,Sx c (bS c t) (gp c+t.w2.length):=by
 induction h with
 | int n y h2 =>
  intro c;rw[bS,aF rfl,Tm.w2,aF rfl];by_cases B:n<0
  .have e:Lib.itoa n=45::Lib.decDigits n.natAbs:=by unfold Lib.itoa;rw[aF B]
   rw[aF B,e];exact(Sx.neg c (aNa _)).le (by simp only[List.drop_succ_cons,sL,aG];omega)
  .rw[aB B];exact Sx.put c (aHb aC)
 | bool n h =>
  intro c;rw[show(Tm.mk 2 n [] [] [] []).w2=if n=1 then [116,114,117,101] else [102,97,108,115,101]by rw[Tm.w2,aB aE,aF rfl],bS,aB aE,aF rfl];exact Sx.put c (by split<;>decide)
 | text x h =>
  intro c;rw[bS,aB aE,aB aE,aF rfl,Tm.w2,aB aE,aB aE,aF rfl];exact Sx.put c (λe=>by cases e)
 | id x h u =>
  intro c
  have O:dT x=true:=by
   unfold tE at h;simp only[cT]at h;exact h.1.1.1
  rw[bS,aB aE,aB aE,aB aE,aF rfl,Tm.w2,aB aE,aB aE,aB aE,aF rfl];have y:=Sx.put c (s:=[39]) aE;have h2:=Sx.put (aJ c [39]) (jX O).1;rw[sW,aF aE]at h2;exact(y.trans h2 (aV _)).le (by simp only[aI,aG,aH];omega)
 | app x m h u hl U F =>
  intro c;rw[bS,aB aE,aB aE,aB aE,aB aE,aF rfl,Tm.w2,aB aE,aB aE,aB aE,aB aE,aB aE,aF rfl,aEc,<-aAF];have y:=aEm c h;have h2:=yO (f:=Tm.w2) m (bF c [x,[40]]) F;rw[show gp (bF c [x,[40]])=0 from(sW (aJ c x) [40]).trans rfl]at h2;have H:=rT (dL bS false (bF c [x,[40]]) m) (s:=[41]) aE;exact((y.trans h2 (aV _)).trans H (aV _)).le (by simp only[aI,aG,aH];omega)
 | opn x h =>
  intro c;rw[bS,aB aE,aB aE,aB aE,aB aE,aB aE,aF rfl,aF h,Tm.w2,aB aE,aB aE,aB aE,aB aE,aF rfl,aF h];exact Sx.put c (by rcases h with rfl|rfl<;>decide)
 | var x s O u hs Z =>
  intro c;obtain⟨_,_,_,_,_,h6,h7⟩:=zW O;have B:¬ (x=[95]\/x=[36]):=by simp[h6,h7]
  rw[bS,aB aE,aB aE,aB aE,aB aE,aB aE,aF rfl,aB B,Tm.w2,aB aE,aB aE,aB aE,aB aE,aF rfl,aB B];exact(Sx.glue c (jX O).1 (jX hs).1).le (by simp only[aI,aG,aH];omega)
 | list m z U u F =>
  intro c;rw[bS,aB aE,aB aE,aB aE,aB aE,aB aE,aB aE,aF rfl,Tm.w2,aB aE,aB aE,aB aE,aB aE,aB aE,aB aE,aF rfl,aEc,<-aAF];have y:=Sx.put c (s:=[91]) aE;have M:gp (aJ c [91])=0:=sW c [91];have h2:=yO (f:=Tm.w2) m (aJ c [91]) F;rw[M]at h2
  have H:Sx (dL bS false (aJ c [91]) m) (jY (dL bS false (aJ c [91]) m) z) (oA (decide (m.length=0)) z).length:=by
   cases m with
   | nil=>exact(Sx.rest u _).2 M
   | cons x r=>exact(Sx.rest u _).1
  have S:=rT (jY (dL bS false (aJ c [91]) m) z) (s:=[93]) aE;exact(((y.trans h2 (aV _)).trans H (aV _)).trans S (aV _)).le (by simp only[aI,aG,aH];omega)
 | map m z he U u F =>
  intro c;rw[bS,aB aE,aB aE,aB aE,aB aE,aB aE,aB aE,aB aE,aF rfl,Tm.w2,aB aE,aB aE,aB aE,aB aE,aB aE,aB aE,aB aE];have y:=Sx.put c (s:=[123]) aE;have M:gp (aJ c [123])=0:=sW c [123];have h2:=aLJ _ m false (aJ c [123]) (aV _) F;rw[M]at h2
  have H:Sx (fA false (aJ c [123]) m) (jY (fA false (aJ c [123]) m) z) (oA (decide (m.length=0)) z).length:=by
   cases m with
   | nil=>exact(Sx.rest u _).2 M
   | cons x r=>exact(Sx.rest u _).1
  have S:=rT (jY (fA false (aJ c [123]) m) z) (s:=[125]) aE;exact(((y.trans h2 (aV _)).trans H (aV _)).trans S (aV _)).le (by simp only[cE,bR,aI,aG,aH];omega)
theorem aEr(sep:aD):∀l:List aD,(dS sep true l).length=sm sep.length l
 | []=>rfl
 | x::r=>by
  rw[dS,sm];simp only[bT,aI,aEr sep r];omega
theorem vW:∀(l:List aD) (c:List Wd),(∀x,x∈l->x≠[45])->Sx c (bF c l) (sm 1 l)
 | [],c,_=>Sx.refl c
 | x::r,c,h=>by
  have m:=Sx.put c (h x (bU ..));have h2:=vW r (aJ c x) (λy u=>h y (cP _ u));have z:=kN c;exact(m.trans h2 (aV _)).le (by rw[sm];omega)
theorem aLi{l:List Tm}(h:TmsG l)(c:List Wd):Sx c (pM c l) (wA l).length:=by
 unfold pM wA;by_cases hl:l=[]
 .rw[aF hl,aF hl];exact Sx.refl c
 .rw[aB hl,aB hl];have u:=Sx.put c (s:=[105,102]) aE;have h2:=yO (f:=Tm.w2) l (aJ c [105,102]) (λx m=>zP (h.t x m).g);have y:=kN c;have z:=kN (aJ c [105,102]);exact(u.trans h2 (aV _)).le (by simp only[aI,aG,aH];omega)
theorem Sx.cell{x:Cel}(h:CelG x)(c:List Wd):Sx c (gX c x) (gp c+(nZ x).length):=by
 have u:=Sx.put c (jX h.n.n).1
 have h2:=vW [[58],x.sort,[61]] (aJ c x.name) (λy m=>by
  simp only[eA,pF,eS]at m;rcases m with rfl|rfl|rfl
  .decide
  .exact(jX h.s.n).1
  .decide)
 have z:=zP h.i.g (bF c [x.name,[58],x.sort,[61]]);have B:=kN (bF c [x.name,[58],x.sort,[61]]);exact((u.trans h2 (aV _)).trans z (aV _)).le (by unfold nZ;simp only[sm,aI,aG,aH];omega)
def Ln(l:List Wd)(n:Nat):Prop:=Wk l/\(kO l).length<=n+1
theorem Wk.nil:Wk []:=⟨trivial,λa h=>(by cases h),λa h=>(by cases h)⟩
theorem Ln.of{c:List Wd}{n k:Nat}(h:Sx [] c n)(u:n<=k):Ln (aJ c [46]) k:=by
 have m:=h.trans (rT c (s:=[46]) aE) (aV _);exact⟨m.w Wk.nil,by have:=m.n;simp only[kO,List.flatMap_nil,aH,aG]at this⊢;omega⟩
theorem Ln.eq{x:Eqn}(h:EqG x):Ln (rE x) (pU x).length:=by
 have u:=Sx.put [] (s:=[108,101,116]) aE;have h2:=zP h.l.g (aJ [] [108,101,116]);have z:=Sx.put (bS (aJ [] [108,101,116]) x.left) (s:=[61]) aE;have y:=zP h.r.g (aJ (bS (aJ [] [108,101,116]) x.left) [61]);have m:=aLi h.c (bS (aJ (bS (aJ [] [108,101,116]) x.left) [61]) x.right);have g0:gp []=0:=rfl;have F:=kN (aJ [] [108,101,116]);have H:=kN (bS (aJ [] [108,101,116]) x.left);have B:=kN (aJ (bS (aJ [] [108,101,116]) x.left) [61]);exact Ln.of ((((u.trans h2 (aV _)).trans z (aV _)).trans y (aV _)).trans m (aV _)) (by unfold pU;simp only[aI,aG,aH];omega)
theorem Ln.once{x:Cel}(h:CelG x):Ln (aJ (gX (aJ [] [99,101,108,108]) x) [46]) (qY x).length:=by
 have m:=Sx.put [] (s:=[99,101,108,108]) aE;have h2:=Sx.cell h (aJ [] [99,101,108,108]);have g0:gp []=0:=rfl;have u:=kN (aJ [] [99,101,108,108]);exact Ln.of (m.trans h2 (aV _)) (by unfold qY;simp only[aI,aG,aH];omega)
theorem aAX{x:aD}{l:List aD}(h:∀y,y∈x::l->y≠[45]):Sx [] (bF [] (x::l)) (x.length+sm 1 l):=by
 have m:=Sx.put [] (h x (bU ..));have h2:=vW l (aJ [] x) (λy u=>h y (cP _ u));have g0:gp []=0:=rfl;exact(m.trans h2 (aV _)).le aC
theorem ne4{a b c d:aD}(u:a≠[45])(z:b≠[45])(m:c≠[45])(hd:d≠[45]):∀y,y∈[a,b,c,d]->y≠[45]:=λy h=>by
 simp only[eA,pF,eS]at h;rcases h with rfl|rfl|rfl|rfl<;>assumption
theorem ne3{a b c:aD}(u:a≠[45])(z:b≠[45])(m:c≠[45]):∀y,y∈[a,b,c]->y≠[45]:=λy h=>by
 simp only[eA,pF,eS]at h;rcases h with rfl|rfl|rfl<;>assumption
theorem ne2{a b:aD}(m:a≠[45])(u:b≠[45]):∀y,y∈[a,b]->y≠[45]:=λy h=>by
 simp only[eA,pF,eS]at h;rcases h with rfl|rfl<;>assumption
theorem Ln.below{x:Below}(h:NmG x.low/\NmG x.high):Ln (aJ (bF [] [[115,117,98,115,111,114,116],x.low,[60],x.high]) [46]) (pJ x).length :=
 Ln.of (aAX (ne4 aE (jX h.1.n).1 aE (jX h.2.n).1)) (by unfold pJ;simp only[sm,aI,aG,aH];omega)
theorem Ln.fn{o:Opr}(h:FunG o):Ln (uO o) (pR o).length:=by
 have m:=aAX (ne3 (a:=[102,117,110]) aE (jX h.n.n).1 (by decide:([58]:aD)≠[45]));have h2:=vW o.args (bF [] [[102,117,110],o.name,[58]]) (λy z=>(jX (h.a y z).n).1);have u:=vW [[45,62],o.sort] (bF (bF [] [[102,117,110],o.name,[58]]) o.args) (ne2 aE (jX h.s.n).1);refine Ln.of ((m.trans h2 (aV _)).trans u (aV _)) ?_
 have e:sm 1 o.args+(3+o.sort.length)<=(dS [32] false (o.args++[[45,62,32]++o.sort])).length:=by
  cases o.args with
  | nil=>simp only[bA,dS,sm,cE,bR,aI,aG,aH];omega
  | cons x r =>
   rw[aZ,dS,aI,aI,aEr,aAa];simp only[sm,cE,bR,aI,aG,aH,fH];omega
 unfold pR;simp only[sm,aI,aG,aH]at e⊢;omega
theorem Ln.op{o:Opr}(h:OpG o):Ln (pV o) (nL o).length:=by
 have m:=aAX (ne3 (a:=[111,112]) aE (jX h.n.n).1 (by decide:([58]:aD)≠[45]))
 have h2:=vW (o.pieces.map mH) (bF [] [[111,112],o.name,[58]]) (λy u=>by
  obtain⟨p,S,rfl⟩:=cH.1 u;unfold mH;rcases(h.pg p S).c with⟨m,h2⟩|⟨m,h2⟩
  .rw[aF m];exactλe=>by cases e
  .split
   ·exactλe=>by cases e
   .exact(jX h2.n).1)
 unfold pV;simp only[];generalize bF (bF [] [[111,112],o.name,[58]]) (o.pieces.map mH)=c1 at h2⊢
 have H:Sx c1 (if o.pieces=[] then bF c1 o.args else c1) (if o.pieces=[] then o.args.flatMap sA else []).length:=by
  split
  .refine(vW o.args c1 (λy u=>(jX (h.a y u).n).1)).le ?_;clear m h2 h
   induction o.args with
   | nil=>exact aV _
   | cons x r F=>simp only[sm,kG,aI,sA,aG];omega
  .exact Sx.refl c1
 generalize (if o.pieces=[] then bF c1 o.args else c1)=c2 at H⊢;have B:=vW [[45,62],o.sort] c2 (ne2 aE (jX h.s.n).1);generalize bF c2 [[45,62],o.sort]=c3 at B⊢
 have z:Sx c3 (if 0<o.prec then bF c3 [[112,114,101,99],Lib.itoa o.prec] else c3) (uF o.prec).length:=by
  unfold uF;have:=h.c.1;by_cases M:o.prec=0
  .rw[aB aC,aF M];exact Sx.refl c3
  .rw[aF aC,aB M];exact(vW _ c3 (ne2 aE (aHb h.c.1))).le (by simp only[sm,aI,aG,aH];omega)
 generalize (if 0<o.prec then bF c3 [[112,114,101,99],Lib.itoa o.prec] else c3)=c4 at z⊢
 have O:Sx c4 (if o.assoc=1 then aJ c4 [108,101,102,116] else if o.assoc=2 then aJ c4 [114,105,103,104,116] else c4) (tY o.assoc).length:=by
  unfold tY;have g:=kN c4;split
  .exact(Sx.put c4 aE).le (by simp only[aG,aH];omega)
  .split
   .exact(Sx.put c4 aE).le (by simp only[aG,aH];omega)
   .exact Sx.refl c4
 generalize (if o.assoc=1 then aJ c4 [108,101,102,116] else if o.assoc=2 then aJ c4 [114,105,103,104,116] else c4)=c5 at O⊢
 have h7:Sx c5 (if o.strict=[] then c5 else aJ (dL (λc n=>aJ c (Lib.itoa n)) false (bF c5 [[115,116,114,105,99,116],[40]]) o.strict) [41]) (zB o.strict).length:=by
  unfold zB;split
  .exact Sx.refl c5
  .have k1:=aEm c5 (x:=[115,116,114,105,99,116]) aE;have k2:=yO (one:=λc n=>aJ c (Lib.itoa n)) (f:=Lib.itoa) o.strict (bF c5 [[115,116,114,105,99,116],[40]]) (λn Z c=>Sx.put c (aHb (by have:=(h.t n Z).1;omega)));rw[show gp (bF c5 [[115,116,114,105,99,116],[40]])=0 from(sW (aJ c5 _) [40]).trans rfl]at k2;have U:=rT (dL (λc n=>aJ c (Lib.itoa n)) false (bF c5 [[115,116,114,105,99,116],[40]]) o.strict) (s:=[41]) aE;have g:=kN c5;exact((k1.trans k2 (aV _)).trans U (aV _)).le (by simp only[aI,aG,aH];omega)
 have e:=Ln.of ((((((m.trans h2 (aV _)).trans H (aV _)).trans B (aV _)).trans z (aV _)).trans O (aV _)).trans h7 (aV _)) (k:=(nL o).length) (by
  have e2:sm 1 (o.pieces.map mH)=(o.pieces.flatMap pI).length:=by
   generalize o.pieces=l
   induction l with
   | nil=>rfl
   | cons p r F =>
    simp only[bN,sm,kG,aI,mH,pI,F];split<;>simp only[aI,aG,aH]<;>omega
  rw[e2];unfold nL;simp only[sm,aI,aG,aH];omega)
 exact e
end Go.AV
