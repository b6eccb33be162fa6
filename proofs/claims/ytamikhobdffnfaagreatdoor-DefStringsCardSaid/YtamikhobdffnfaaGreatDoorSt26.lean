/-
  Of DefStrings.
-/
import Derived.Test.YtamikhobdffnfaaGreatDoorSt25
set_option linter.all false
set_option maxRecDepth 99999
set_option maxHeartbeats 0
namespace Go.AV
open Go Go.Proofs Tryz
section
section
variable (fin:Fault) (first:Tok)
theorem zJ {m:Nat} (h:m+1≤2000) (w:List Tok):mC first w m=.ok () w (m+1):=by
 unfold mC;rw[if_neg (by omega)]
theorem yR (x:aB):(aT x).text=x:=rfl
theorem aFx (x:aB):(cE x).text=x:=rfl
theorem aJc (x:aB) (l c:Int):Tok.begins ⟨3,x,0,l,c⟩=true:=rfl
theorem aJA (n:Int) (l c:Int):Tok.begins ⟨2,[],n,l,c⟩=true:=rfl
theorem tI (k m:Nat) (x:aB) (w:List Tok) (hx:(aT x).begins=true) (h:m+1≤2000) :
  dY false fin first (k+1) (aT x::w) m=kK fin first (dY false fin first k) (decide (k=0)) (aT x) w (m+1):=by
 rw[dY,if_pos hx,zJ first h,jK,if_neg (by simp[aT]),if_neg (by simp[aT]),if_neg (by simp[aT])]
theorem zF (k m:Nat) (x:aB) (w:List Tok) (hx:(cE x).begins=true) (h:m+1≤2000) :
  dY false fin first (k+1) (cE x::w) m=pK false fin first (dY false fin first k) (cE x) w (m+1):=by
 rw[dY,if_pos hx,zJ first h,jK,if_neg (by simp[cE]),if_neg (by simp[cE]),if_pos (by simp[cE])]
theorem aGO {x:aB} (h:x ∉ dE):x≠uQ∧x≠uF:=by
 refine ⟨?_,?_⟩<;>(rintro rfl;exact h (by decide))
theorem zO (x:aB) (w:List Tok) (n:Nat):eA fin x (aT x::w) n=.ok () w n:=by
 unfold eA;rw[iY,if_pos (by simp),List.tail_cons]
theorem aCG:∀ (l:List Tm),(∀ y,y∈l→Gd y)→∀ b,l.length≤(aU (bV b l)).length
 | [],_,b=>bS _
 | t::r,h,b=>by
  obtain ⟨u,P,e,_⟩:=(h t (eK ..)).hd;have:=aCG r (fun y hy=>h y (eQ _ hy)) true;simp only[bV,mT,aK,e,aU,aD];omega
theorem aFQ:∀ (m:Nat) (l:List Tm),l.length≤m→l.length % 2=0→(∀ y,y∈l→Gd y)→∀ b,l.length≤(aU (cD b l)).length
 | _,[],_,_,_,b=>bS _
 | _,[_],_,he,_,b=>by simp at he
 | 0,k::v::r,hm,_,_,b=>by simp at hm
 | m+1,k::v::r,hm,he,h,b=>by
  simp only[aD] at hm he;obtain ⟨u,P,e,_⟩:=(h k (eK ..)).hd;obtain ⟨u2,P2,e2,_⟩:=(h v (eQ _ (eK ..))).hd;have:=aFQ m r (by omega) (by omega) (fun y hy=>h y (eQ _ (eQ _ hy))) true;simp only[cD,mT,aK,e,e2,aU,aD];omega
theorem aL5:∀ (k:Nat) (t:Tm) (m m':Nat) (w:List Tok),Gd t→eN k t m=some m'→dY false fin first k (aU t.pc++w) m=.ok t w m':=by
 intro k
 induction k with
 | zero=>intro t m m' w hg h;cases h
 | succ k ih =>
  intro t m m' w hg h
  have h2000:m+1≤2000:=by
   cases t;simp only[eN] at h;split at h
   ·assumption
   ·cases h
  cases hg with
  | int n h1 h2 =>
   have hm:m'=m+1:=by
    simp only[eN,cM,hZ,h2000,if_true,Option.bind_some,aG,aP] at h;exact h.symm
   subst hm;rw[pc1];by_cases hn:n<0
   ·rw[if_pos hn];simp only[aU,bP,bO];rw[tI fin first k m _ _ (by decide) h2000];unfold kK;rw[yR,if_pos rfl];simp only[aT];rw[if_pos (by decide),show - -n=n by omega]
   ·rw[if_neg hn];simp only[aU,bP,bO];rw[dY,if_pos (aJA ..),zJ first h2000,jK,if_pos rfl]
  | bool n hb =>
   have hm:m'=m+1:=by
    simp only[eN,cM,hZ,h2000,if_true,Option.bind_some,aG,aP] at h;exact h.symm
   subst hm;rw[vF];simp only[aU,bP,bO];rcases hb with rfl|rfl
   ·rw[if_neg (by decide),zF fin first k m _ _ (by decide) h2000];rfl
   ·rw[if_pos rfl,zF fin first k m _ _ (by decide) h2000];rfl
  | text x hx =>
   have hm:m'=m+1:=by
    simp only[eN,cM,hZ,h2000,if_true,Option.bind_some,aG,aP] at h;exact h.symm
   subst hm;rw[vL];simp only[aU,bP,bO];rw[dY,if_pos (aJc ..),zJ first h2000,jK];simp only;rw[if_neg (by decide),if_pos (by trivial)]
  | id x hx hr =>
   have hm:m'=m+1:=by
    simp only[eN,cM,hZ,h2000,if_true,Option.bind_some,aG,aP] at h;exact h.symm
   subst hm;rw[vD];simp only[aU,bP,bO];rw[tI fin first k m _ _ (by decide) h2000];unfold kK;rw[yR,if_neg (by decide),if_pos rfl];simp only;rw[if_pos ⟨aBI hr,hx⟩];rfl
  | app x ks hx hr hl hk =>
   obtain ⟨g1,g2⟩:=aGO hr
   have hm:cM (eN k) ks (m+1)=some m':=by
    simp only[eN,h2000,if_true] at h;cases hf:cM (eN k) ks (m+1) with
    | none=>rw[hf] at h;cases h
    | some m1 =>
     rw[hf] at h;simp only[Option.bind_some,hZ,aG,if_true] at h;exact h
   rw[vC];simp only[aU,mT,bP,bO,cQ];rw[zF fin first k m _ _ (wK hx (.inl hr)).b h2000];unfold pK;rw[aFx,if_neg g1,if_neg g2,iY,if_neg (by decide),zO,jK];cases ks with
   | nil =>
    simp only[cM,aP] at hm;subst hm;rw[show aU (bV false [])++aT [41]::w=aT [41]::w from rfl,iY,if_pos (by decide)];rfl
   | cons t r =>
    have e1:aU (bV false (t::r))++aT [41]::w=aU t.pc++(aU (bV true r)++aT [41]::w):=by
     simp only[bV,jH,bR,if_false,bO,mT,cQ]
    rw[e1,(aCW (hk t (eK ..)) _).2.2.2,if_neg (by decide),← e1];unfold iN;rw[aBQ fin (eN k) _ 8 (t::r) [] (m+1) m' _ _ (fun acc y m m' w ha hy hf=>?_) (by simp) ?_ (by simpa using hl) hm (by rw[iY];decide)]
    ·rw[jK,zO,jK];rfl
    ·have:=aCG (t::r) hk false;rw[aK];omega
    ·unfold mI;rw[if_neg (by omega)];exact ih y m m' w (hk y hy) hf
  | opn x hx =>
   have hm:m'=m+1:=by
    simp only[eN,cM,hZ,h2000,if_true,Option.bind_some,aG,aP] at h;exact h.symm
   subst hm;rw[nF,if_pos hx];simp only[aU,bP,bO];rcases hx with rfl|rfl
   ·rw[tI fin first k m _ _ (by decide) h2000];rfl
   ·rw[tI fin first k m _ _ (by decide) h2000];rfl
  | var x s hx hr hs hrs =>
   obtain ⟨g1,g2⟩:=aGO hr;obtain ⟨_,_,_,_,_,h6,h7⟩:=tU hx
   have hm:m'=m+1:=by
    simp only[eN,cM,hZ,h2000,if_true,Option.bind_some,aG,aP] at h;exact h.symm
   subst hm;rw[nF,if_neg (by simp[h6,h7])];simp only[aU,bP,bO];rw[zF fin first k m _ _ (wK hx (.inl hr)).b h2000];unfold pK;rw[aFx,if_neg g1,if_neg g2,iY,if_pos (by decide),List.tail_cons];unfold dO;simp only;rw[if_pos (aBI hrs)];rfl
  | list ks rs hk hr =>
   obtain ⟨m1,hm,hmr⟩:∃ m1,cM (eN k) ks (m+1)=some m1∧hZ k rs.length m1=some m':=by
    simp only[eN,h2000,if_true] at h;cases hf:cM (eN k) ks (m+1) with
    | none=>rw[hf] at h;cases h
    | some m1=>rw[hf] at h;exact ⟨m1,rfl,h⟩
   rw[vN];simp only[aU,mT,bP,bO,cQ];rw[tI fin first k m _ _ (by decide) h2000];unfold kK;rw[yR,if_neg (by decide),if_neg (by decide),if_pos rfl]
   have hel:(if isT [124] (aU (bV false ks)++(aU (cF ks.isEmpty rs)++aT [93]::w))=true∨isT [93] (aU (bV false ks)++(aU (cF ks.isEmpty rs)++aT [93]::w))=true then Rd.ok [] (aU (bV false ks)++(aU (cF ks.isEmpty rs)++aT [93]::w)) (m+1)
     else iN fin (fun _=>dY false fin first k) [] (aU (bV false ks)++(aU (cF ks.isEmpty rs)++aT [93]::w)) (m+1))=Rd.ok ks (aU (cF ks.isEmpty rs)++aT [93]::w) m1:=by
    cases ks with
    | nil =>
     simp only[cM,aP] at hm;subst hm;rw[show ∀ W,aU (bV false [])++W=W from fun W=>rfl];rw[if_pos];rcases xA true aC7 rs hr with ⟨e,_⟩|⟨y,_,e,_⟩
     ·rw[show aU (cF ([]:List Tm).isEmpty rs)=[] from e];exact .inr (by rw[bO,iY];decide)
     ·rw[show aU (cF ([]:List Tm).isEmpty rs)=[aT [124],cE y] from e];exact .inl (by rw[bP,iY];decide)
    | cons t r =>
     have e1:∀ W,aU (bV false (t::r))++W=aU t.pc++(aU (bV true r)++W):=by
      intro W;simp only[bV,jH,bR,if_false,bO,mT,cQ]
     obtain ⟨q1,q2,_⟩:=aCW (hk t (eK ..)) (aU (bV true r)++(aU (cF (t::r).isEmpty rs)++aT [93]::w));rw[if_neg (by rw[e1,q1,q2];simp)];unfold iN;rw[aBQ fin (eN k) _ (t::r).length (t::r) [] (m+1) m1 _ _ (fun acc y m m' w ha hy hf=>ih y m m' w (hk y hy) hf) (by simp) ?_ (by simp) hm ?_]
     ·rfl
     ·have:=aCG (t::r) hk false;rw[aK];omega
     ·rcases xA (t::r).isEmpty aC7 rs hr with ⟨e,_⟩|⟨y,_,e,_⟩
      ·rw[e,bO,iY];decide
      ·rw[e,bP,iY];decide
   rw[hel,jK,aEK fin first hr _ k m1 m' [93] (by decide) w hmr,jK,zO,jK]
  | map ks rs he hk hr =>
   obtain ⟨m1,hm,hmr⟩:∃ m1,cM (eN k) ks (m+1)=some m1∧hZ k rs.length m1=some m':=by
    simp only[eN,h2000,if_true] at h;cases hf:cM (eN k) ks (m+1) with
    | none=>rw[hf] at h;cases h
    | some m1=>rw[hf] at h;exact ⟨m1,rfl,h⟩
   rw[vK];simp only[aU,mT,bP,bO,cQ];rw[tI fin first k m _ _ (by decide) h2000];unfold kK;rw[yR,if_neg (by decide),if_neg (by decide),if_neg (by decide),if_pos rfl]
   have hel:(if isT [124] (aU (cD false ks)++(aU (cF ks.isEmpty rs)++aT [125]::w))=true∨isT [125] (aU (cD false ks)++(aU (cF ks.isEmpty rs)++aT [125]::w))=true then Rd.ok [] (aU (cD false ks)++(aU (cF ks.isEmpty rs)++aT [125]::w)) (m+1)
     else bZ fin [44] (lG fin (dY false fin first k)) ((aU (cD false ks)++(aU (cF ks.isEmpty rs)++aT [125]::w)).length+1) [] (aU (cD false ks)++(aU (cF ks.isEmpty rs)++aT [125]::w)) (m+1))=Rd.ok ks (aU (cF ks.isEmpty rs)++aT [125]::w) m1:=by
    cases ks with
    | nil =>
     simp only[cM,aP] at hm;subst hm;rw[show ∀ W,aU (cD false [])++W=W from fun W=>rfl];rw[if_pos];rcases xA true aDo rs hr with ⟨e,_⟩|⟨y,_,e,_⟩
     ·rw[show aU (cF ([]:List Tm).isEmpty rs)=[] from e];exact .inr (by rw[bO,iY];decide)
     ·rw[show aU (cF ([]:List Tm).isEmpty rs)=[aT [124],cE y] from e];exact .inl (by rw[bP,iY];decide)
    | cons t r =>
     cases r with
     | nil=>simp at he
     | cons v r =>
     have e1:∀ W,aU (cD false (t::v::r))++W=aU t.pc++(aT [45,62]::(aU v.pc++(aU (cD true r)++W))):=by
      intro W;simp only[cD,jH,bR,if_false,bO,mT,aU,cQ,bP]
     obtain ⟨q1,_,q3,_⟩:=aCW (hk t (eK ..)) (aT [45,62]::(aU v.pc++(aU (cD true r)++(aU (cF (t::v::r).isEmpty rs)++aT [125]::w))));rw[if_neg (by rw[e1,q1,q3];simp)];rw[aFz fin (eN k) _ _ (t::v::r) [] (m+1) m1 _ _ (bG _) he (fun y m m' w hy hf=>ih y m m' w (hk y hy) hf) (by simp) ?_ hm ?_]
     ·rfl
     ·have:=aFQ _ (t::v::r) (bG _) he hk false;rw[aK];omega
     ·rcases xA (t::v::r).isEmpty aDo rs hr with ⟨e,_⟩|⟨y,_,e,_⟩
      ·rw[e,bO,iY];decide
      ·rw[e,bP,iY];decide
   rw[hel,jK,aEK fin first hr _ k m1 m' [125] (by decide) w hmr,jK,zO,jK]
end
theorem aIR {t:Tm} {m:Nat} (hg:Gd t) (hm:eN 60 t 0=some m) (hl:t.wr.length≤20000):qV t.wr=(t,Fault.none):=by
 obtain ⟨u,P,e,hu⟩:=hg.hd;have hok:=hg.ok [] trivial (fun u Q' h=>by cases h);rw[iE] at hok;obtain ⟨T',h1,h2⟩:=aLz hok (fun Q h=>by rw[e] at h;cases h);unfold qV Tm.wr;rw[if_neg (by unfold Tm.wr at hl;omega),h1];have hr:=aLh (a1:=0) (b1:=0) (f2:=lI (aM t.pc)) (aU t.pc) T' 0 h2
 have hw:fV false (fz 0 0) (aU t.pc) 0=.ok t [] 0:=by
  have:=aL5 (fz 0 0) u 60 t 0 m [] hg hm;rw[iE] at this;rw[e,aU] at this ⊢;unfold fV;simp only;rw[this]
 rw[hw] at hr;obtain ⟨b,w',hb,rfl,hmv⟩:=hr;cases hmv;simp only[hb]
end
theorem aIi (t:Tm) (hg:Gd t) (hl:t.wr.length≤4294967296) (hne:t.wr≠[]) (s:St) (KV Kp:St→A→Prop) (hk:KV s (.str t.wr)):Den cx 81 [.agg t.cs] KV Kp s:=by
 (refine aO func81 [0,1,2,3] ?_;simp only[go_sem,ntmps81,f81]);(intro p hp;try simp only[aL,ne_eq] at hp);simp only[go_sem,hp];(intro q hq;try simp only[aL,ne_eq] at hq);simp only[go_sem,hp,hq];refine aJd hg q none [] _ _ _ ⟨by rw[aE,if_pos rfl];rfl,(fun u h=>by cases h),fun _=>rfl⟩ (by simpa using hl) (fun u hu=>?_);simp only[go_sem,hp,hq];refine aJs 187 q u _ _ _ _ (gO ..) (by simpa using hne) ?_;simp only[go_sem,hp,hq];rcases hu with hu|⟨_,hu⟩
 ·cases hu
 have hu':s.getT u=none:=hu;refine aH hk (mB (aI1 hu' ?_));unfold gU;exact fN hq.2 (aCa hu' (fN hq.2 (fN hp (fS _ _ _))))
theorem aJh (t:Tm) (hw:TmW t) (s:St) (KV Kp:St→A→Prop) (hg:(Tm.val 60 t 0).isSome=true→Gd t∧t.wr.length≤4294967296∧t.wr≠[])
  (hk:KV s (if (Tm.val 60 t 0).isSome=true then (if t.wr.length≤20000 then .tuple [.str t.wr,.int .i64 0] else .tuple [.str [],.int .i64 3]) else .tuple [.str [],.int .i64 2])):Den cx 35 [.agg t.cs] KV Kp s:=by
 (refine aO func35 [0,1,2,3,4,7,12] ?_;simp only[go_sem,ntmps35,f35]);(intro p hp;try simp only[aL,ne_eq] at hp);simp only[go_sem,hp];refine aIN t hw _ _ _ ?_;cases hv:(Tm.val 60 t 0).isSome with
 | false =>
  rw[hv] at hk;simp only[go_sem,hp];exact aH hk cN
 | true =>
  rw[hv] at hk hg;obtain ⟨g1,g2,g3⟩:=hg rfl;simp only[go_sem,hp];refine aIi t g1 g2 g3 _ _ _ ?_;simp only[go_sem,hp];by_cases hl:t.wr.length≤20000
  ·rw[if_pos rfl,if_pos hl] at hk;have d1:decide ((20000:Int)<(t.wr.length:Int))=false:=by rw[kW];omega
   simp only[go_sem,hp,d1];exact aH hk cN
  ·rw[if_pos rfl,if_neg hl] at hk;have d1:decide ((20000:Int)<(t.wr.length:Int))=true:=by rw[cG];omega
   simp only[go_sem,hp,d1];exact aH hk cN
def Tm.rsv1 (t:Tm):Bool:=(decide (t.text∈dE)&&!decide (t.kind=3))||decide (t.sort∈dE)||(decide (t.kind=5)&&(decide (1<t.text.length)&&decide (t.text[t.text.length-2]?=some 39)))
mutual
def Tm.rsv:Tm→Bool
 | .mk k n x s ks rs=>(Tm.mk k n x s ks rs).rsv1||(hS ks||hS rs)
def hS:List Tm→Bool
 | []=>false
 | t::r=>t.rsv||hS r
end
theorem aEL (t:Tm):t.rsv=(t.rsv1||(hS t.kids||hS t.rest)):=by cases t;rw[Tm.rsv];rfl
theorem zA:∀ a b:List Tm,hS (a++b)=(hS a||hS b)
 | [],b=>by simp[hS]
 | t::r,b=>by simp[hS,zA r b,Bool.or_assoc]
mutual
def Tm.cnt:Tm→Nat
 | .mk _ _ _ _ ks rs=>1+(fG ks+fG rs)
def fG:List Tm→Nat
 | []=>0
 | t::r=>t.cnt+fG r
end
theorem aBL (t:Tm):t.cnt=1+(fG t.kids+fG t.rest):=by cases t;rw[Tm.cnt];rfl
theorem aLF (t:Tm):1≤t.cnt:=by rw[aBL];omega
theorem aB2:∀ l:List Tm,l.length≤fG l
 | []=>bG _
 | t::r=>by have:=aB2 r;have:=aLF t;simp only[fG,aD];omega
theorem aCi:∀ {l:List Tm} {x:Tm},x∈l→x.cnt≤fG l
 | t::r,x,h=>by
  simp only[fG];rcases List.mem_cons.1 h with rfl|h
  ·omega
  ·have:=aCi h;omega
theorem aCh:∀ a b:List Tm,fG (a++b)=fG a+fG b
 | [],b=>by simp[fG]
 | t::r,b=>by simp[fG,aCh r b,lS]
theorem aE9:∀ {l:List Tm} {x:Tm},x∈l→x.rsv=true→hS l=true
 | t::r,x,h,hx=>by
  simp only[hS,kF];rcases List.mem_cons.1 h with rfl|h
  ·exact .inl hx
  ·exact .inr (aE9 h hx)
theorem aKv {l:List Tm} {i:Nat} {x:Tm} (h:l[i]?=some x):hS (l.take (i+1))=(hS (l.take i)||x.rsv):=by
 rw[lQ,h,zA];simp[hS]
theorem aCL {l:List Tm} {y:A} (hy:y∈l.map Tm.enc):y.cells.length=6:=by
 obtain ⟨z,_,rfl⟩:=cO.1 hy;exact by rw[bY];rfl
theorem aNk {tk2:Option Nat} {a b:List Tm} (hn2:tk2=none→List.map Tm.enc a++List.map Tm.enc b=[]) :
  ∀ (i:Nat) (o:Tm),(a++b)[i]?=some o→∃ u,ev tk2 (List.map Tm.enc a++List.map Tm.enc b)=.list (some u) ((a++b).map Tm.enc):=fun i o ho=>by
 cases tk2 with
 | none =>
  have h:=hn2 rfl;rw[← dQ] at h;rw[List.map_eq_nil_iff.1 h] at ho;cases ho
 | some u=>exact ⟨u,by rw[dQ];rfl⟩
theorem aId (N:Nat):∀ (t:Tm) (s:St) (KV Kp:St→A→Prop),t.cnt<N→t.cnt≤4294967296→TmW t→KV s (.bool t.rsv)→Den cx 34 [.agg t.cs] KV Kp s:=by
  induction N with
  | zero=>intro t s KV Kp h;omega
  | succ N ih =>
  intro t s KV Kp hN hc hw hk;have hw1:=hw.text;rw[aEL] at hk;have hcn:=aBL t;have hlk:=aB2 t.kids;have hlr:=aB2 t.rest;(refine aO func34 [0,1,2,4,17,36,43,44,45,46,50] ?_;simp only[go_sem,ntmps34,f34]);(intro p hp;try simp only[aL,ne_eq] at hp);simp only[go_sem,hp];refine yI _ _ _ _ ?_;by_cases hA:t.text∈dE∧¬ t.kind=3
  · have h1:=eR hA.1
    have h2:=fE hA.2;simp only[go_sem,hp,h1,h2];exact aH (mK hk (by simp[Tm.rsv1,hA])) cN
  have hA2:(decide (t.text∈dE)&&!decide (t.kind=3))=false:=by
    rw[Bool.and_eq_false_imp];intro h;simpa using fun hk=>hA ⟨qE h,hk⟩
  by_cases hB:t.sort∈dE
  · have h3:=eR hB
    cases h1:decide (t.text∈dE)<;>cases h2:decide (t.kind=3)<;>simp only[go_sem,hp,h1,h2]
    all_goals (try (exfalso;simp[h1,h2] at hA2;done))
    all_goals (refine yI _ _ _ _ ?_;simp only[go_sem,hp,h3];exact aH (mK hk (by simp[Tm.rsv1,hB])) cN)
  have h3:=fE hB
  have hi:∀ c:UInt8,decide ((c.toNat:Int)=39)=decide (c=39):=fun c=>by
    rw[fY,← oG];show _↔c.toNat=39;omega
  by_cases hC:t.kind=5∧1<t.text.length∧t.text[t.text.length-2]?=some 39
  · have h2:decide (t.kind=3)=false:=fE (by omega)
    have h4:=eR hC.1;have h5:decide ((1:Int)<(t.text.length:Int))=true:=eR (by omega);have w0:IntKind.i64.wrap ((t.text.length:Int)-2)=((t.text.length-2:Nat):Int):=by rw[fU _ (by omega) (by omega)];omega
    have l1:t.text.length-2<t.text.length:=by omega
    cases h1:decide (t.text∈dE)
    · simp only[go_sem,hp,h1,h2]
      refine yI _ _ _ _ ?_;simp only[go_sem,hp,h3,h4,h5,w0,l1,hC.2.2,hi,oH];exact aH (mK hk (by simp[Tm.rsv1,hC])) cN
    · exact absurd ⟨qE h1,of_decide_eq_false h2⟩ hA
  have hr1:t.rsv1=false:=by
    simp only[not_and,Classical.not_not] at hA hC;simp only[Tm.rsv1,Bool.or_eq_false_iff,Bool.and_eq_false_imp,cG,kW,aDD];exact ⟨⟨hA,hB⟩,hC⟩
  rw[hr1,gZ] at hk
  have hcase:decide (t.kind=5)=false∨(decide (t.kind=5)=true∧decide ((1:Int)<(t.text.length:Int))=false) ∨
      (decide (t.kind=5)=true∧decide ((1:Int)<(t.text.length:Int))=true∧t.text.length-2<t.text.length∧IntKind.i64.wrap ((t.text.length:Int)-2)=((t.text.length-2:Nat):Int)∧∃ c,t.text[t.text.length-2]?=some c∧decide (c=39)=false):=by
    by_cases k5:t.kind=5
    · by_cases l1:1<t.text.length
      · right;right
        refine ⟨eR k5,eR (by omega),by omega,by rw[fU _ (by omega) (by omega)];omega,t.text[t.text.length-2]'(by omega),bK (by omega),?_⟩;rw[kW];intro e;exact hC ⟨k5,l1,by rw[bK (by omega),e]⟩
      · exact .inr (.inl ⟨eR k5,fE (by omega)⟩)
    · exact .inl (fE k5)
  cases h1:decide (t.text∈dE)<;>cases h2:decide (t.kind=3)<;>simp only[go_sem,hp,h1,h2]
  all_goals (try (exfalso;simp[h1,h2] at hA2;done))
  all_goals (refine yI _ _ _ _ ?_;simp only[go_sem,hp,h3])
  all_goals (rcases hcase with h4|⟨h4,h5⟩|⟨h4,h5,l1,w0,c,hc,h6⟩)
  all_goals (first|simp only[go_sem,hp,h4,h5,w0,l1,hc,hi,h6]|simp only[go_sem,hp,h4,h5]|simp only[go_sem,hp,h4])
  all_goals ((refine bF (OT.l [0,1,2,4,5,8,3,6,7] .nil) [(3,[5])] ?_;simp only[go_sem,hp]))
  all_goals (refine ⟨by decide,fun y hy=>aCL hy,aF7 (tk:=none) (es:=[]) (fun _=>rfl) (fun t h=>by cases h) (fun y hy=>by cases hy) (by simp only[aS,aG];omega) (fun tk1 hn1 hf1=>?_)⟩)
  all_goals simp only[go_sem,hp]
  all_goals (refine ⟨by decide,fun y hy=>aCL hy,aF7 (fun h=>by simpa using hn1 h) (fun t ht=>by rw[aGn t ht];simp) (fun y hy=>aCL (by simpa using hy)) (by simp only[aS,aG,bO];omega) (fun tk2 hn2 hf2=>?_)⟩)
  all_goals simp only[go_sem,hp,aMd hn2]
  all_goals (
    have hV:=aNk hn2
    refine Ex.loop (ι:=Nat) (fun i=>[(43,ev tk2 (List.map Tm.enc t.kids++List.map Tm.enc t.rest)),(44,.int .i64 ((t.kids++t.rest).length:Nat)),(45,.int .i64 (i:Nat))]) (fun _=>s)
      (fun i=>i≤(t.kids++t.rest).length∧hS ((t.kids++t.rest).take i)=false) (fun i=>(t.kids++t.rest).length-i) 0 ⟨bS _,rfl⟩ ?_ ?_ ?_
    · first|exact rfl|(simp;done)|(simp only[go_sem,hp];try simp)
    · exact aM2 cN hf1 (fun t h=>(hf2 t h).imp id (fun h=>⟨_,h⟩))
    · rintro i ⟨hi,hf⟩
      (try simp only at hi hf)
      refine cL (V:=[0,1,2,4,17,36,43,44,45,46,50]) _ _ _ _ ?_;simp only[go_sem];(refine bA (fun h=>?_) (fun h=>?_))<;>simp only[go_sem,h]
      · have hix:i<(t.kids++t.rest).length:=by simpa using h
        clear h;obtain ⟨x,hx⟩:∃ a,(t.kids++t.rest)[i]?=some a:=⟨_,bK hix⟩
        have hxm:x∈t.kids++t.rest:=dP hx;have hxc:x.cnt≤fG t.kids+fG t.rest:=by rw[← aCh];exact aCi hxm
        have hxw:TmW x:=by
          rcases gX.1 hxm with h|h
          · exact hw.kids x h
          · exact hw.rest x h
        have w1:=cJ i (by rw[aK] at hix;omega);have htk:=aKv hx;obtain ⟨u,hu⟩:=hV i x hx;simp only[go_sem,hu,hx,hix];(intro b5 hb5;try simp only[aL,ne_eq] at hb5);simp only[go_sem,hu,hx,hix,hb5];refine ih x _ _ _ (by omega) (by omega) hxw ?_;cases hxr:x.rsv with
        | true =>
          simp only[go_sem,hb5];have h2:=aE9 hxm hxr;rw[zA] at h2;rw[h2] at hk;exact aH hk cN
        | false =>
          simp only[go_sem,hb5];rw[hf,hxr] at htk;exact ⟨i+1,⟨hix,htk⟩,by omega,by first|exact ⟨rfl,w1⟩|(simp only[go_sem,w1];try rfl),cN⟩
      · have hii : i = (t.kids ++ t.rest).length := by have : ¬ i < (t.kids ++ t.rest).length := by simpa using h
                                                       omega
        subst hii;rw[List.take_length,zA] at hf;rw[hf] at hk;exact aY hk)
theorem aKi {l:List Tm} {i:Nat} {x:Tm} (h:l[i]?=some x):fG (l.take (i+1))=fG (l.take i)+x.cnt:=by
 rw[lQ,h,aCh];simp[fG]
theorem aK9 (m:Nat):∀ (xs:List Tm) (l d:Int) (s:St) (KV Kp:St→A→Prop),fG xs<m→(∀ t,t∈xs→TmW t)→-1≤l→l≤2500 →
    (∀ n:Int,-1≤n→n≤l→(0≤n→(fG xs:Int)+n≤l)→KV s (.int .i64 n))→Den cx 78 [.list none (xs.map Tm.enc),.int .i64 l,.int .i64 d] KV Kp s:=by
  induction m with
  | zero=>intro xs l d s KV Kp hm;omega
  | succ m ih =>
  intro xs l d s KV Kp hm hw hl1 hl2 hk;refine tZ fun hz1=>?_
  have hlw:=hz1 _ (eK ..);(refine aO func78 [0,1,2,6,8,10,11,12,13,14,29,43] ?_;simp only[go_sem,ntmps78,f78]);(refine bA (fun h=>?_) (fun h=>?_))<;>simp only[go_sem,h]
  · exact aY (hk (-1) (by omega) (by omega) (fun h=>by omega))
  refine Ex.loop (ι:=Int × Nat) (fun c=>[(1,.int .i64 c.1),(2,.int .i64 d),(11,.list none (xs.map Tm.enc)),(12,.int .i64 xs.length),(13,.int .i64 (c.2:Nat))]) (fun _=>s)
    (fun c=>c.2≤xs.length∧(c.1=l∧c.2=0∨0≤c.1)∧c.1≤l∧(fG (xs.take c.2):Int)+c.1≤l) (fun c=>xs.length-c.2) (l,0) ⟨bS _,.inl ⟨rfl,rfl⟩,oI _,by simp[fG]⟩ ?_ (bW s) ?_
  · (simp only[go_sem];try exact rfl)
  · clear h
    rintro ⟨c,i⟩ ⟨hi,hc1,hc2,hc3⟩;simp only at hi hc1 hc2 hc3;refine cL (V:=[0,1,2,6,8,10,11,12,13,14,29,43]) _ _ _ _ ?_;simp only[go_sem];(refine bA (fun h=>?_) (fun h=>?_))<;>simp only[go_sem,h]
    · have hix:i<xs.length:=by simpa using h
      obtain ⟨x,hx⟩:∃ a,xs[i]?=some a:=⟨_,bK hix⟩
      have hxm:x∈xs:=dP hx;have hxw:=hw x hxm;have ht1:=hxw.text;have ht2:=hxw.sort;have hxc:=aCi hxm;have hxe:=aBL x;have htk:=aKi hx;clear h
      obtain ⟨q,hq,hq2⟩:∃ q:Nat,IntKind.i64.wrap ((IntKind.i64.wrap ((x.text.length:Int)+(x.sort.length:Int))).tdiv 50)=(q:Int)∧q≤281474976710656:=by
        refine ⟨(x.text.length+x.sort.length) / 50,?_,by omega⟩
        have e:((x.text.length:Int)+(x.sort.length:Int)).tdiv 50=(((x.text.length+x.sort.length) / 50:Nat):Int):=by
          rw[Int.tdiv_eq_ediv_of_nonneg (by omega)];omega
        rw[fU ((x.text.length:Int)+(x.sort.length:Int)) (by omega) (by omega),e,fU _ (by omega) (by omega)]
      have w2:IntKind.i64.wrap (1+(q:Int))=1+(q:Int):=fU _ (by omega) (by omega);have w3:IntKind.i64.wrap (c-(1+(q:Int)))=c-(1+(q:Int)):=fU _ (by omega) (by omega);simp only[go_sem,hx,hix];(intro b8 hb8;try simp only[aL,ne_eq] at hb8);simp only[go_sem,hx,hix,hb8,Int.reduceEq,hq,w2,w3];(refine bA (fun h=>?_) (fun h=>?_))<;>simp only[go_sem,h,hb8]
      · exact aH (hk (-1) (by omega) (by omega) (fun h=>by omega)) cN
      have hge:0≤c-(1+(q:Int)):=by simpa using h
      clear h;refine ih x.kids _ _ _ _ _ (by omega) hxw.kids (by omega) (by omega) (fun n1 a1 a2 a3=>?_);simp only[go_sem,hb8];refine ih x.rest _ _ _ _ _ (by omega) hxw.rest (by omega) (by omega) (fun n2 b1 b2 b3=>?_);simp only[go_sem,hb8];(refine bA (fun h=>?_) (fun h=>?_))<;>simp only[go_sem,h,hb8]
      · exact aH (hk (-1) (by omega) (by omega) (fun h=>by omega)) cN
      have hn2:0≤n2:=by simpa using h
      clear h;have:=b3 hn2;have:=a3 (by omega);exact ⟨(n2,i+1),⟨hix,.inr hn2,by simp only;omega,by simp only;rw[htk];omega⟩,by simp only;omega,by simp only[go_sem,hlw.wrap (i:=i) (by simpa using hix)],(by (repeat (first|(refine mR ?_ ?_;focus (simp only[aL,ne_eq,cZ,qK,hb8]<;>done))|exact bW _)))⟩
    · have hii : i = xs.length := by have : ¬ i < xs.length := by simpa using h
                                     omega
      subst hii;rw[List.take_length] at hc3;exact aY (hk c (by omega) hc2 (fun _=>hc3))
theorem aMv (xs:List Tm) (hw:∀ t,t∈xs→TmW t) (s:St) (KV Kp:St→A→Prop) (hk:∀ b:Bool,(b=true→fG xs≤2500)→KV s (.bool b)):Den cx 33 [.int .i64 2500,.list none (xs.map Tm.enc)] KV Kp s:=by
 (refine aO func33 [0,1,4] ?_;simp only[go_sem,ntmps33,f33]);refine aK9 _ xs _ _ _ _ _ (fK _) hw (by omega) (by omega) (fun n h1 h2 h3=>?_);simp only[go_sem];refine aY (hk _ (fun h=>?_));have h0:0≤n:=qE h;have:=h3 h0;omega
theorem aBy {t:Tm} (h:t.rsv=false):(t.text∈dE→t.kind=3)∧t.sort ∉ dE∧(t.kind=5→1<t.text.length→t.text[t.text.length-2]?≠some 39)∧hS t.kids=false∧hS t.rest=false:=by
 rw[aEL] at h;simp only[Tm.rsv1,Bool.or_eq_false_iff,Bool.and_eq_false_imp,cG,kW,aDD] at h;exact ⟨h.1.1.1,h.1.1.2,h.1.2,h.2.1,h.2.2⟩
theorem aBZ:∀ {l:List Tm},hS l=false→∀ x,x∈l→x.rsv=false
 | t::r,h,x,hx=>by
  simp only[hS,Bool.or_eq_false_iff] at h;rcases List.mem_cons.1 hx with rfl|hx
  ·exact h.1
  ·exact aBZ h.2 x hx
theorem aJV {x:aB} (h:xI x=true) (hq:1<x.length→x[x.length-2]?≠some 39):cK x=true:=by
 unfold xI at h;rw[if_neg] at h
 ·exact h
 ·intro hf;simp only[sA,aZ,cG] at hf;exact hq (by omega) hf.2.1
theorem tQ {t:Tm} (h:t.leaf=true):t.kids=[]∧t.rest=[]:=by
 simp only[Tm.leaf,aZ,cG] at h;exact ⟨eJ h.1,eJ h.2⟩
theorem aFm {t:Tm} {S:aB} (h:t.shR S=true) (hr:hS t.rest=false):sI S t.rest:=by
 unfold Tm.shR at h;split at h
 ·rename_i e;rw[e];exact .inl rfl
 ·rename_i r l e;simp only[aZ,cG] at h;obtain ⟨h1,h2,h3,h4,h5⟩:=h;have hl:=eJ h1;subst hl;rw[e] at hr;have hr1:=(aBZ hr r (eK ..));obtain ⟨q1,_,_,_,_⟩:=aBy hr1;simp only[Tm.shV,aZ,cG] at h3;obtain ⟨⟨h6,_⟩,h7⟩:=h3;obtain ⟨h8,h9⟩:=tQ h6;refine .inr ⟨r.text,?_,h4,fun hm=>?_⟩
  ·rw[e];cases r;simp only[Tm.kind,Tm.n,Tm.text,Tm.sort,Tm.kids,Tm.rest] at *;subst h2;subst h5;subst h7;subst h8;subst h9;rfl
  ·have:=q1 hm;omega
theorem aMA (t:Tm):t=.mk t.kind t.n t.text t.sort t.kids t.rest:=by cases t;rfl
theorem aOd {t:Tm} (hs:t.shape=true) (hr:t.rsv=false) (hk:∀ x,x∈t.kids→Gd x):Gd t:=by
 obtain ⟨q1,q2,q3,q4,q5⟩:=aBy hr;unfold Tm.shape at hs;rw[aMA t];by_cases e:t.kind=1
 ·rw[if_pos e] at hs;simp only[aZ,kF,cG,aAh] at hs;obtain ⟨⟨h1,h2⟩,h3,h4⟩:=hs;obtain ⟨ha,hb⟩:=tQ h1;rw[e,h3,h4,ha,hb];exact .int _ (by omega) (by omega)
 rw[if_neg e] at hs;by_cases e:t.kind=2
 ·rw[if_pos e] at hs;simp only[aZ,kF,cG] at hs;obtain ⟨⟨h1,h2⟩,h3,h4⟩:=hs;obtain ⟨ha,hb⟩:=tQ h1;rw[e,h3,h4,ha,hb];exact .bool _ h2
 rw[if_neg e] at hs;by_cases e:t.kind=3
 ·rw[if_pos e] at hs;simp only[aZ,kF,cG] at hs;obtain ⟨⟨h1,h2⟩,h3,h4⟩:=hs;obtain ⟨ha,hb⟩:=tQ h1;rw[e,h3,h4,ha,hb];exact .text _ h2
 have q1':t.text ∉ dE:=fun h=>e (q1 h)
 rw[if_neg e] at hs;by_cases e:t.kind=4
 ·rw[if_pos e] at hs;simp only[aZ,kF,cG] at hs;obtain ⟨⟨h1,h2⟩,h3,h4⟩:=hs;obtain ⟨ha,hb⟩:=tQ h1;rw[e,h3,h4,ha,hb];exact .id _ h2 q1'
 rw[if_neg e] at hs;by_cases e:t.kind=5
 ·rw[if_pos e] at hs;simp only[aZ,kF,cG] at hs;obtain ⟨⟨h1,h2,h5⟩,h3,h4⟩:=hs;have hb:=eJ h5;have hn:=aJV h1 (q3 e);rw[e,h3,h4,hb];exact .app _ _ hn q1' h2 hk
 rw[if_neg e] at hs;by_cases e:t.kind=6
 ·rw[if_pos e] at hs;simp only[Tm.shV,Tm.opn,aZ,kF,cG] at hs;obtain ⟨⟨h1,h2⟩,h3⟩:=hs;obtain ⟨ha,hb⟩:=tQ h1;rw[e,h3,ha,hb];rcases h2 with ⟨h4,h5⟩|⟨h4,h5⟩
  ·exact .var _ _ h4 q1' h5 q2
  ·rw[h5];exact .opn _ h4
 rw[if_neg e] at hs;by_cases e:t.kind=7
 ·rw[if_pos e] at hs;simp only[aZ,cG] at hs;obtain ⟨h1,h2,h3,h4⟩:=hs;rw[e,h2,h3,h4];exact .list _ _ hk (aFm h1 q5)
 rw[if_neg e] at hs;by_cases e:t.kind=8
 ·rw[if_pos e] at hs;simp only[aZ,cG] at hs;obtain ⟨⟨h1,h5⟩,h2,h3,h4⟩:=hs;rw[e,h2,h3,h4];exact .map _ _ h5 hk (aFm h1 q5)
 rw[if_neg e] at hs;cases hs
theorem aFv {f g:Tm→Nat→Option Nat} {P:Tm→Prop}:∀ (l:List Tm) (m n:Nat),(∀ x a b,x∈l→f x a=some b→P x∧g x a=some b)→cM f l m=some n→(∀ x,x∈l→P x)∧cM g l m=some n
 | [],m,n,_,h=>⟨fun x hx=>(by cases hx),h⟩
 | t::r,m,n,hf,h=>by
  simp only[cM] at h ⊢;cases hx:f t m with
  | none=>rw[hx] at h;cases h
  | some c =>
   rw[hx] at h;obtain ⟨h1,h2⟩:=hf t m c (eK ..) hx;obtain ⟨h3,h4⟩:=aFv r c n (fun x a b hx=>hf x a b (eQ _ hx)) h;refine ⟨fun x hx=>?_,by rw[h2];exact h4⟩;rcases List.mem_cons.1 hx with rfl|hx
   ·exact h1
   ·exact h3 x hx
theorem aCI:∀ (k:Nat) (t:Tm) (m n:Nat),Tm.val k t m=some n→t.rsv=false→Gd t∧eN k t m=some n
 | 0,_,_,_,h,_=>by cases h
 | k+1,t,m,n,h,hr=>by
  unfold Tm.val at h;split at h
  ·rename_i h2000;split at h
   ·rename_i hs;obtain ⟨_,_,_,q4,_⟩:=aBy hr;cases hl:cM (Tm.val k) t.kids (m+1) with
    | none=>rw[hl] at h;cases h
    | some c =>
     rw[hl] at h;obtain ⟨h3,h4⟩:=aFv (P:=Gd) (g:=eN k) t.kids (m+1) c (fun x a b hx hv=>aCI k x a b hv (aBZ q4 x hx)) hl;refine ⟨aOd hs hr h3,?_⟩;cases t;simp only[Tm.kids,Tm.rest] at h4 h;simp only[eN,h2000,if_true,h4];exact h
   ·cases h
  ·cases h
theorem yW {f:Tm→Nat→Option Nat}:∀ (l:List Tm) (m n:Nat),(∀ x a b,x∈l→f x a=some b→x.wr.length+4+250 * a≤250 * b)→cM f l m=some n →
  (∀ b,(aM (bV b l)).length+250 * m≤250 * n)∧(l.length % 2=0→∀ b,(aM (cD b l)).length+250 * m≤250 * n)
 | [],m,n,_,h=>by
  cases h;exact ⟨fun b=>by simp[bV,aM],fun _ b=>by simp[cD,aM]⟩
 | [t],m,n,hf,h=>by
  simp only[cM] at h;cases hx:f t m with
  | none=>rw[hx] at h;cases h
  | some c =>
   rw[hx] at h;simp only[Option.bind_some,aP] at h;subst h;have h1:=hf t m c (eK ..) hx;unfold Tm.wr at h1;refine ⟨fun b=>?_,fun he=>by simp at he⟩;cases b<;>simp[bV,jH,jV,aM,aT,Tok.word]<;>omega
 | t::v::r,m,n,hf,h=>by
  simp only[cM] at h;cases hx:f t m with
  | none=>rw[hx] at h;cases h
  | some c =>
   rw[hx] at h;simp only[Option.bind_some] at h;cases hy:f v c with
   | none=>rw[hy] at h;cases h
   | some d =>
    rw[hy] at h;simp only[Option.bind_some] at h;have h1:=hf t m c (eK ..) hx;have h2:=hf v c d (eQ _ (eK ..)) hy;obtain ⟨h3,h4⟩:=yW r d n (fun x a b hx=>hf x a b (eQ _ (eQ _ hx))) h;unfold Tm.wr at h1 h2;refine ⟨fun b=>?_,fun he b=>?_⟩
    ·have:=h3 true;cases b<;>simp[bV,jH,jV,aM,aT,Tok.word]<;>omega
    ·have:=h4 (by simp only[aD] at he;omega) true;cases b<;>simp[cD,jH,jV,aM,aT,Tok.word]<;>omega
theorem aEI {S:aB} {rs:List Tm} (h:sI S rs) (e:Bool):(aM (cF e rs)).length≤43 * rs.length:=by
 rcases h with rfl|⟨x,rfl,hx,_⟩
 ·simp[cF,aM]
 ·have:=(tM hx);obtain ⟨c,r,rfl,_,_,h3⟩:=this;simp only[aD] at h3;cases e<;>simp[cF,aM,aT,cE,Tok.word,Tm.text]<;>omega
theorem aLY {k r m n:Nat} (h:hZ k r m=some n):n=m+r:=by
 unfold hZ at h;split at h
 ·cases h;omega
 ·split at h
  ·cases h;rfl
  ·cases h
theorem yT {x:aB} (h:cK x=true):x.length≤40:=by
 obtain ⟨c,r,rfl,_,_,h3⟩:=tM h;exact h3
theorem aFP:∀ (m n:Nat),n<10 ^ m→0<m→(Lib.decDigits n).length≤m
 | 0,n,h,h0=>by omega
 | m+1,n,h,_=>by
  rw[Lib.decDigits];split
  ·simp
  ·have h10:n / 10<10 ^ m:=by rw[Nat.pow_succ] at h;omega
   have hm:0<m:=by
    cases m with
    | zero=>simp at h;omega
    | succ m=>omega
   have:=aFP m (n / 10) h10 hm;simp;omega
theorem aK2 {n:Int} (h1:-2147483647≤n) (h2:n≤2147483647):(Lib.itoa n).length≤100:=by
 have h:∀ z:Nat,z≤2147483647→(Lib.decDigits z).length≤10:=fun z hz=>aFP 10 z (by omega) (by omega)
 unfold Lib.itoa;split
 ·have:=h n.natAbs (by omega);simp;omega
 ·have:=h n.toNat (by omega);omega
theorem aME:∀ (k:Nat) (t:Tm) (m n:Nat),Gd t→eN k t m=some n→t.wr.length+4+250 * m≤250 * n:=by
 intro k
 induction k with
 | zero=>intro t m n hg h;cases h
 | succ k ih =>
  intro t m n hg h
  have key:∃ c,cM (eN k) t.kids (m+1)=some c∧n=c+t.rest.length:=by
   cases t;simp only[eN,Tm.kids,Tm.rest] at h ⊢;split at h
   ·rename_i ks rs h0;cases hl:cM (eN k) ks (m+1) with
    | none=>rw[hl] at h;cases h
    | some c=>rw[hl] at h;exact ⟨c,rfl,aLY h⟩
   ·cases h
  obtain ⟨c,hc,hn⟩:=key;clear h
  have leaf:t.kids=[]→t.rest=[]→n=m+1:=fun h1 h2=>by
   rw[h1] at hc;cases hc;rw[h2] at hn;exact hn
  cases hg with
  | int z h1 h2 =>
   have:=leaf rfl rfl;have:=aK2 h1 h2;rw[aCJ];omega
  | bool z h =>
   have:=leaf rfl rfl;unfold Tm.wr;rw[vF];simp only[aM,Tok.word,cE,iE];simp only[Int.reduceEq,if_false];split<;>simp<;>omega
  | text x h =>
   have:=leaf rfl rfl;simp only[kP,aZ,cG] at h;unfold Tm.wr;rw[vL];simp[aM,Tok.word];omega
  | id x h hr =>
   have:=leaf rfl rfl;have h2:cK x=true:=by simp only[nC,aZ] at h;exact h.1.1.1
   have:=yT h2;unfold Tm.wr;rw[vD];simp[aM,Tok.word,aT,cE];omega
  | app x ks h hr hl hk =>
   have:=yT h;obtain ⟨h3,_⟩:=yW ks (m+1) c (fun y a b hy hv=>ih y a b (hk y hy) hv) hc;have:=h3 false;simp only[Tm.rest,aG] at hn;unfold Tm.wr;rw[vC];simp[aM,jV,Tok.word,aT,cE];omega
  | opn x h =>
   have:=leaf rfl rfl;unfold Tm.wr;rw[nF,if_pos h];rcases h with rfl|rfl<;>simp[aM,Tok.word,aT]<;>omega
  | var x y h hr h2 hr2 =>
   have:=leaf rfl rfl;have:=yT h;have:=yT h2;unfold Tm.wr;rw[nF];split<;>simp[aM,Tok.word,aT,cE]<;>omega
  | list ks rs hk hr =>
   obtain ⟨h3,_⟩:=yW ks (m+1) c (fun y a b hy hv=>ih y a b (hk y hy) hv) hc;have:=h3 false;have:=aEI hr ks.isEmpty;simp only[Tm.rest] at hn;unfold Tm.wr;rw[vN];simp[aM,jV,Tok.word,aT,cE];omega
  | map ks rs he hk hr =>
   obtain ⟨_,h3⟩:=yW ks (m+1) c (fun y a b hy hv=>ih y a b (hk y hy) hv) hc;have:=h3 he false;have:=aEI hr ks.isEmpty;simp only[Tm.rest] at hn;unfold Tm.wr;rw[vK];simp[aM,jV,Tok.word,aT,cE];omega
theorem aNT {t:Tm} (hg:Gd t):t.wr≠[]:=by
 cases hg with
 | int z h1 h2 =>
  rw[aCJ];intro e;unfold Lib.itoa at e;split at e
  ·cases e
  ·obtain ⟨c,r,hcr,_⟩:=uL _ z.toNat (fK _);rw[hcr] at e;cases e
 | bool z h=>unfold Tm.wr;rw[vF];simp only[aM,Tok.word,cE,iE,Int.reduceEq,if_false];split<;>simp
 | text x h=>unfold Tm.wr;rw[vL];simp[aM,Tok.word]
 | id x h hr=>unfold Tm.wr;rw[vD];simp[aM,Tok.word,aT,cE]
 | app x ks h hr hl hk=>unfold Tm.wr;rw[vC];simp[aM,Tok.word,aT,cE]
 | opn x h=>unfold Tm.wr;rw[nF,if_pos h];rcases h with rfl|rfl<;>simp[aM,Tok.word,aT]
 | var x y h hr h2 hr2 =>
  unfold Tm.wr;rw[nF];split<;>simp[aM,Tok.word,aT,cE]
  rename_i hx;rcases hx with rfl|rfl<;>simp
 | list ks rs hk hr=>unfold Tm.wr;rw[vN];simp[aM,Tok.word,aT,cE]
 | map ks rs he hk hr=>unfold Tm.wr;rw[vK];simp[aM,Tok.word,aT,cE]
theorem aGD:({ dL with det:=false }:Cx)=cx:=rfl
theorem aGR {f:FuncId} {args:List A} {a:A} (hargs:∀ x,x∈args→x.lp x) (ha:a.lp a) (h:∀ KV Kp s,KV s a→Den cx f args KV Kp s) {KV Kp:St→A→Prop} {s:St} (hk:KV s a):Den dL f args KV Kp s:=by
 refine aBt (C:=dL) false (Q:=fun _ r=>r=a) wS hargs (fun F1 g2 s2 w2 r v hR hv hq=>?_) ?_ hk
 ·subst hq;exact ⟨g2.pi,hR.pis,fun b _=>rfl,fun g' hg=>ha g2 g' v hg hv⟩
 ·rw[aGD];exact h _ _ _ rfl
theorem aNg (x:List UInt8):(A.str x).lp (.str x):=oQ 1 _ _ rfl
theorem aMr (x:Bool):(A.bool x).lp (.bool x):=oQ 1 _ _ rfl
def aAu (W:List (List UInt8)) (l:List A) (σ:XS):CR:=match l with
 | [.str x]=>.val (.bool (decide (x∈W))) σ
 | _=>.bad
def aDk (f:FuncId):Option (List A→XS→CR):=match Nat.beq f 145 with
 | true=>some (aAu dE)
 | false=>match Nat.beq f 107 with
  | true=>some (aAu yS)
  | false=>xD f
theorem aGj {f:FuncId} {W:List (List UInt8)} (h:∀ (s:St) (x:List UInt8) (KV Kp:St→A→Prop),KV s (.bool (decide (x∈W)))→Den cx f [.str x] KV Kp s)
  (l:List A) (σ:XS) (s:St) (KV Kp:St→A→Prop) (hs:Sim s σ) (hh:(aAu W l σ).to KV Kp):Den dL f l KV Kp s:=by
 unfold aAu at hh;split at hh
 ·rename_i x;refine aGR (a:=.bool (decide (x∈W))) (fun y hy=>?_) (aMr _) (fun KV Kp s hk=>h s x KV Kp hk) (hh s hs);simp only[cY] at hy;subst hy;exact aNg x
 ·exact hh.elim
theorem aLR:uO dL aDk:=by
 intro f h hf l σ s KV Kp hs hh;unfold aDk at hf;split at hf
 ·rename_i e;have hf':=bH e;cases hf;refine aGj (W:=dE) (fun s x KV Kp hk=>?_) l σ s KV Kp hs hh;rw[hf'];exact oY s x KV Kp hk
 ·split at hf
  ·rename_i e;have hf':=bH e;cases hf;refine aGj (W:=yS) (fun s x KV Kp hk=>?_) l σ s KV Kp hs hh;rw[hf'];exact aIh s x KV Kp hk
  ·exact aGY f h hf l σ s KV Kp hs hh
section
section
variable {s:St} {KV Kp:St→A→Prop}
theorem aBO:A.le .emp (.list none []):=fun g v h=>by
 obtain ⟨a,rfl⟩:=h.emp_inv;exact .list0 none (some a) 0 (bS _) (fun t e=>by cases e)
theorem aIu (l:List A) (h1:∀ y,y∈l→y.cells.length=1) (hl:l.length≤4294967296) (hk:KV s (.list none l)):Den cx 266 [.list none l] KV Kp s:=by
 (refine aO func266 [0,2,4] ?_;simp only[go_sem,ntmps266,f266]);cases l with
 | nil =>
  simp only[go_sem,false_or];exact ⟨DK.mk hk (bW _) A.le.nil,by decide,fun y hy=>(by cases hy),DK.mk hk (bW _) aBO⟩
 | cons x r =>
  have hl2:r.length≤4294967295:=Nat.le_of_succ_le_succ hl;simp only[go_sem];refine ⟨by decide,h1,hl2,?_⟩;intro t ht;simp only[go_sem];exact DK.mk hk (rO ht) (mZ (some t) (x::r) (fun e=>by cases e))
theorem aIA (l:List A) (h1:∀ y,y∈l→y.cells.length=2) (hl:l.length≤4294967296) (hk:KV s (.list none l)):Den cx 267 [.list none l] KV Kp s:=by
 (refine aO func267 [0,2,4] ?_;simp only[go_sem,ntmps267,f267]);cases l with
 | nil =>
  simp only[go_sem,false_or];exact ⟨DK.mk hk (bW _) A.le.nil,by decide,fun y hy=>(by cases hy),DK.mk hk (bW _) aBO⟩
 | cons x r =>
  have hl2:r.length≤4294967295:=Nat.le_of_succ_le_succ hl;simp only[go_sem];refine ⟨by decide,h1,hl2,?_⟩;intro t ht;simp only[go_sem];exact DK.mk hk (rO ht) (mZ (some t) (x::r) (fun e=>by cases e))
theorem aIy (l:List A) (h1:∀ y,y∈l→y.cells.length=1) (hl:l.length≤4294967296) (hk:KV s (.list none l)):Den cx 268 [.list none l] KV Kp s:=by
 (refine aO func268 [0,2,4] ?_;simp only[go_sem,ntmps268,f268]);cases l with
 | nil =>
  simp only[go_sem,false_or];exact ⟨DK.mk hk (bW _) A.le.nil,by decide,fun y hy=>(by cases hy),DK.mk hk (bW _) aBO⟩
 | cons x r =>
  have hl2:r.length≤4294967295:=Nat.le_of_succ_le_succ hl;simp only[go_sem];refine ⟨by decide,h1,hl2,?_⟩;intro t ht;simp only[go_sem];exact DK.mk hk (rO ht) (mZ (some t) (x::r) (fun e=>by cases e))
end
end
def aAa (z:Nat):List A→Bool
 | []=>true
 | y::r=>match Nat.beq y.cells.length z with
  | true=>aAa z r
  | false=>false
theorem aFa {z:Nat}:∀ {l:List A},aAa z l=true→∀ y,y∈l→y.cells.length=z
 | [],_,y,h=>by cases h
 | a::r,h,y,hy=>by
  simp only[aAa] at h;split at h
  ·rename_i e;rcases List.mem_cons.1 hy with rfl|hy
   ·exact bH e
   ·exact aFa h y hy
  ·cases h
def wX (z:Nat) (l:List A) (σ:XS):CR:=match l with
 | [a] => match dK 60 a with
  | some b=>match dK 60 b with
   | some (.list none es)=>match b with
    | .list none fs=>match aAa z fs,Nat.ble fs.length 4294967296 with
     | true,true=>.val (.list none es) σ
     | _,_=>.bad
    | _=>.bad
   | _=>.bad
  | none=>.bad
 | _=>.bad
def xC (f:FuncId):Option (List A→XS→CR):=match Nat.beq f 266 with
 | true=>some (wX 1)
 | false=>match Nat.beq f 267 with
  | true=>some (wX 2)
  | false=>match Nat.beq f 268 with
   | true=>some (wX 1)
   | false=>aDk f
theorem aB7 {f:FuncId} {z:Nat} (h:∀ (s:St) (l:List A) (KV Kp:St→A→Prop),(∀ y,y∈l→y.cells.length=z)→l.length≤4294967296→KV s (.list none l)→Den cx f [.list none l] KV Kp s)
  (l:List A) (σ:XS) (s:St) (KV Kp:St→A→Prop) (hs:Sim s σ) (hh:(wX z l σ).to KV Kp):Den dL f l KV Kp s:=by
 unfold wX at hh;split at hh
 ·rename_i a;split at hh
  ·rename_i b hb;split at hh
   ·rename_i es hes;split at hh
    ·rename_i fs;split at hh
     ·rename_i h1 h2;refine aDN (C:=dL) (args2:=[.list none fs]) (a':=.list none es) false (Q:=fun _ r=>r=.list none fs) wS rfl (fun j x y hx hy=>?_) (fun F1 g2 s2 w2 r v hR hv hq=>?_) ?_ (hh s hs)
      ·cases j with
       | zero=>simp at hx hy;subst hx;subst hy;exact oQ 60 _ _ hb
       | succ j=>simp at hx
      ·subst hq;exact ⟨g2.pi,hR.pis,fun b _=>rfl,fun g' hg=>oQ 60 _ _ hes g2 g' v hg hv⟩
      ·rw[aGD];exact h _ _ _ _ (aFa h1) (iB h2) rfl
     ·exact hh.elim
    ·exact hh.elim
   ·exact hh.elim
  ·exact hh.elim
 ·exact hh.elim
theorem aGi:uO dL xC:=by
 intro f h hf l σ s KV Kp hs hh;unfold xC at hf;split at hf
 ·rename_i e;have hf':=bH e;cases hf;exact aB7 (z:=1) (fun s x KV Kp h1 h2 hk=>by rw[hf'];exact aIu x h1 h2 hk) l σ s KV Kp hs hh
 ·split at hf
  ·rename_i e;have hf':=bH e;cases hf;exact aB7 (z:=2) (fun s x KV Kp h1 h2 hk=>by rw[hf'];exact aIA x h1 h2 hk) l σ s KV Kp hs hh
  ·split at hf
   ·rename_i e;have hf':=bH e;cases hf;exact aB7 (z:=1) (fun s x KV Kp h1 h2 hk=>by rw[hf'];exact aIy x h1 h2 hk) l σ s KV Kp hs hh
   ·exact aLR f h hf l σ s KV Kp hs hh
theorem tK {fuel:Nat} {f:FuncId} {args:List A} {KV Kp:St→A→Prop} {s:St} {a:A}
  (hargs:fW (dK 60) args=some args) (h:aAr (aDf (iS xC) fuel f args)=some a) (hk:KV s a):Den cx f args KV Kp s:=by
 have hX:(iS xC).ok { cx with det:=true }:=aCS aGi;exact Den.run true hX wS hargs h hk
def kC:Dfn:=⟨[101],⟨[[65]],[],[⟨[97],[],[65],[⟨[97],[]⟩],0,0,[]⟩],[],[]⟩,[],[⟨[99],[65],.mk 6 0 [36] [65,110,121] [] [],1,52⟩],[],[],[],[65],[99]⟩
def awT:Tm:=.mk 5 0 [102] [] [.mk 6 0 [88] [73,110,116] [] [],.mk 7 0 [] [] [.mk 1 (-1) [] [] [] []] [.mk 6 0 [76] [76,105,115,116] [] []]] []
def aG5:aB:=[108,97,110,103,117,97,103,101,32,101,46,10,115,111,114,116,32,65,46,10,111,112,32,97,32,58,32,34,97,34,32,45,62,32,65]++[46,10,99,101,108,108,32,99,32,58,32,65,32,61,32,36,46,10,115,116,97,114,116,32,65,46,10,119,97,116,99,104,32,99,46,10]
def awR:List A:=[.str [101],.list none [.str [65]],.nils,.list none [.agg [.str [98],.nils,.str [65],.list none [.agg [.str [97],.str []]],.int .i64 0,.int .i64 0,.list none []]],.nils,.nils,.nils,
 .list none [.agg [.str [99],.str [65],.int .i64 6,.int .i64 0,.str [36],.str [65,110,121],.nils,.nils,.int .i64 1,.int .i64 52]],.str [],.nils,.nils,.str [65],.str [99]]
def awZ:List A:=[.str [],.nils,.nils,.nils,.nils,.nils,.nils,.nils,.str [],.nils,.nils,.str [],.str []]
def awS:aB:=[108,97,110,103,117,97,103,101,32,101,46,32,115,111,114,116,32,65,46,32,111,112,32,97,32,58,32,34,97,34,32,45,62,32,65]++[46,32,115,116,97,114,116,32,65,46,32,99,101,108,108,32,99,32,58,32,65,32,61,32,36,46,32,119,97,116,99,104,32,99,46]
theorem aPc:qQ awS=(kC,⟨0,[],0,0⟩):=by kernel_rfl
theorem aPu:qQ [108,97,110,103,117,97,103,101,32,101,46,32,115,111,114,116]=(eV,⟨12,[],1,17⟩):=by kernel_rfl
theorem aPI:qQ [108,97,110,103,117,97,103,101,32,101,46,10,115,111,114,116,32,65,32,66,46]=(eV,⟨11,[66],2,8⟩):=by kernel_rfl
theorem aPP:qV [102,40,88,58,73,110,116,44,32,91,45,49,32,124,32,76,93,41]=(awT,⟨0,[],0,0⟩):=by kernel_rfl
theorem aPO:qV [45,32,53]=(oT,⟨11,[53],1,3⟩):=by kernel_rfl
theorem aPy:qQ [108,97,110,103,117,97,103,101,32,101,46,32,115,116,97,114,116,32,65,46,32,115,116,97,114,116,32,66,46]=(eV,⟨14,[115,116,97,114,116],1,22⟩):=by kernel_rfl
end Go.AV
