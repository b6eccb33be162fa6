/-
  Of CheckOrder.
-/
import Derived.Test.YtliopiiflebkdaaGreatDoorOr02
import Derived.Recover
import Derived.Test.YtliopiiflebkdaaGreatDoorProg
import Derived.KernelRfl
import Derived.Lib.Builder
set_option linter.all false
set_option maxRecDepth 99999
set_option maxHeartbeats 0
namespace Go.AV
open Go Go.Proofs Tryz
section
def A.le(a b:A):Prop:=∀g v,Rz g a v->Rz g b v
theorem bF(a:A):a.le a:=λ_ _ h=>h
theorem A.le.trans{a b c:A}(h:a.le b)(m:b.le c):a.le c:=λg v x=>m g v (h g v x)
theorem A.le.nils(tk:Option Nat)(h:tk=none):A.le .nils (.list tk []):=λg v x=>by
 subst h;cases x;exact .list0 none none 0 (aX _) aW
theorem A.le.nil:A.le .nils (.list none []):=A.le.nils none rfl
theorem A.le.forget(tk:Option Nat)(es:List A):A.le (.list tk es) (.list none es):=λg v x=>x.forget
def sC:List A->List A->Prop
 | [],[]=>True
 | a::r,b::l=>(a.le b/\b.one=true)/\sC r l
 | _,_=>False
theorem aCM:∀{l r:List A},sC l r->l.length=r.length
 | [],[],_=>rfl
 | _::_,_::_,h=>by simp[aCM h.2]
 | [],_::_,h=>h.elim
 | _::_,[],h=>h.elim
theorem xO:∀{l r:List A},sC l r->∀(j:Nat) (b:A),r[j]?=some b->∃a,l[j]?=some a/\a.le b/\b.one=true
 | [],[],_,j,b,q=>by simp at q
 | a::r,b::l,h,j,c,m=>by
  cases j with
  | zero=>simp at m;subst m;exact⟨a,by simp,h.1⟩
  | succ j=>obtain⟨x,u⟩:=xO h.2 j c (gQ m);exact⟨x,gQ u⟩
 | [],_::_,h,_,_,_=>h.elim
 | _::_,[],h,_,_,_=>h.elim
theorem A.le.agg{l r:List A}(h:sC l r):A.le (.agg l) (.agg r):=λg v x=>by
 obtain⟨vs,rfl,m,z⟩:=x.agg_inv;refine .agg r vs (by rw[m.1,aCM h]) (λc y=>?_) λj c u y G=>?_
 .obtain⟨j,F,rfl⟩:=hU y;obtain⟨a,_,_,q⟩:=xO h j r[j] (aV F);exact q
 .obtain⟨a,B,q,_⟩:=xO h j c y;exact q g u (m.2 j a u B G)
def yU:List A->List A->Prop
 | [],[]=>True
 | a::r,b::l=>a.le b/\yU r l
 | _,_=>False
theorem aCT:∀{l r:List A},yU l r->l.length=r.length
 | [],[],_=>rfl
 | _::_,_::_,h=>by simp[aCT h.2]
 | [],_::_,h=>h.elim
 | _::_,[],h=>h.elim
theorem aCV:∀{l r:List A},yU l r->∀(j:Nat) (b:A),r[j]?=some b->∃a,l[j]?=some a/\a.le b
 | [],[],_,j,b,q=>by simp at q
 | a::r,b::l,h,j,c,m=>by
  cases j with
  | zero=>simp at m;subst m;exact⟨a,by simp,h.1⟩
  | succ j=>obtain⟨x,u⟩:=aCV h.2 j c (gQ m);exact⟨x,gQ u⟩
 | [],_::_,h,_,_,_=>h.elim
 | _::_,[],h,_,_,_=>h.elim
theorem A.le.tuple{l r:List A}(h:yU l r):A.le (.tuple l) (.tuple r):=λg v x=>by
 obtain⟨vs,rfl,m⟩:=x.tuple_inv;refine .tuple r vs (by rw[m.1,aCT h]) λj c u z B=>?_
 obtain⟨a,y,q⟩:=aCV h j c z;exact q g u (m.2 j a u y B)
def DK(KV:St->A->Prop)(s:St)(a:A):Prop:=∃s2 a2,s.ge s2/\a.le a2/\KV s2 a2
theorem DK.mk{KV:St->A->Prop}{s s2:St}{a a2:A}(h:KV s2 a2)(q:s.ge s2)(m:a.le a2):DK KV s a:=⟨s2,a2,q,m,h⟩
theorem DK.here{KV:St->A->Prop}{s:St}{a:A}(h:KV s a):DK KV s a:=⟨s,a,aG s,bF a,h⟩
theorem aF{KV:St->A->Prop}{s s2:St}{a:A}(h:KV s2 a)(m:s.ge s2):DK KV s a:=⟨s2,a,m,bF a,h⟩
section
variable {C:Cx} {s:St} {f:FuncId} {args:List A} {KV Kp:St->A->Prop}
theorem Den.drop(h:Den C f args (DK KV) (DK Kp) s)(Z:C.det=false:=by rfl):Den C f args KV Kp s:=by
 have m:∀{a b:Nat},C.toCtx.det=true->a<=b:=λh=>by rw[show C.toCtx.det=false from Z]at h;cases h
 intro F g w vals U hv;have:=h F g w vals U hv;revert this;generalize (callFunc f vals.toArray).run C.P w=r;intro G;cases r with
 | ok x w' =>
  cases x<;>simp only[OutV]at G⊢
  .obtain⟨q,a,s',u,a2,a3,s2,b,y,z,B⟩:=G;exact⟨q,b,s2,u,a2.weaken y m,z _ _ a3,B⟩
  .obtain⟨q,s',u,a2,s2,b,y,z,B⟩:=G;have M:=z q _ (.tuple [] [] rfl aW)
   have hl:b=.tuple []:=by
    generalize H:(Value.tuple ([]:List Value).toArray)=v at M;cases M<;>first|(cases H;done)|skip
    rename_i cs vs hl _;have S:vs=[]:=gQ H.symm;subst S;rw[fC hl.symm]
   subst hl;exact⟨q,s2,u,a2.weaken y m,B⟩
  .refine Calls.mono G λO b0 L=>?_
   cases O with
   | returned v=>obtain⟨q,a,s',u,a2,a3,s2,b,y,z,B⟩:=L;exact⟨q,b,s2,u,a2.weaken y m,z _ _ a3,B⟩
   | panicked iW=>obtain⟨q,a,v,s',a0,u,a2,a3,s2,b,y,z,B⟩:=L;exact⟨q,b,v,s2,a0,u,a2.weaken y m,z _ _ a3,B⟩
   | outgrown=>exact L
 | halt x w' =>
  cases x<;>simp only[OutV]at G⊢
  obtain⟨q,a,s',u,a2,a3,s2,b,y,z,B⟩:=G;exact⟨q,b,s2,u,a2.weaken y m,z _ _ a3,B⟩
def nK:List A->List A->Prop:=yU
theorem lU{az:List A}(hl:nK args az)(h:Den C f az KV Kp s):Den C f args KV Kp s:=λF g w vals y q =>
 h F g w vals y ⟨by rw[q.1,aCT hl],λj c v B m=>by
  obtain⟨a,z,u⟩:=aCV hl j c B;exact u g v (q.2 j a v z m)⟩
end
@[go_sem] theorem cN (s : St) (b c : Nat) (o : Ob) : ((s.setO b o).getO c = none) = ((b ≠ c ∧ c ≠ b) ∧ s.getO c = none) := by
  rw[aH];by_cases h:b=c
  · subst h;simp
  · have m:¬ c=b:=λe=>h e.symm
    simp[h,m]
theorem aS{s:St}{b c:Nat}{o:Ob}(h:s.getO b=some o)(m:s.getO c=none):b≠c/\c≠b:=by
 constructor
 .rintro rfl;rw[h]at m;cases m
 .rintro rfl;rw[h]at m;cases m
attribute [go_sem] aH cU St.getT_setO cF
def aN:=@DK.here
end
section
def zH(B:List TypeId)(S:List (TypeId × List Nat))(N M:List TypeId)(t:TypeId):A->A->Option Bool
 | .nils,.nils=>if N.elem t then some true else none
 | .list _ (_::_),.nils=>if N.elem t then some false else none
 | .ml _ _ _,.nils=>if N.elem t then some false else none
 | .emp,.nils=>if N.elem t then some false else none
 | .nilp,.nilp=>if M.elem t then some true else none
 | .ptr _ _,.nilp=>if M.elem t then some false else none
 | .ptr a o,.ptr b p=>if M.elem t&&Nat.beq a b&&Nat.beq o p then some true else none
 | .bool a,.bool b=>if B.elem t then some (a == b) else none
 | .agg az,.agg bs=>match S.lookup t with
  | some ks=>tC ks az bs
  | none=>none
 | _,_=>none
def aDJ(P:Program)(t:TypeId):Bool:=match P.underlying t with
 | some (.slice _)=>true
 | _=>false
def aDM(P:Program)(t:TypeId):Bool:=match P.underlying t with
 | some (.pointer e)=>(match P.info? e with
  | some i=>i.size != 0
  | none=>false)
 | _=>false
def aBh(P:Program)(B:List TypeId)(S:List (TypeId × List Nat))(N M:List TypeId):Bool :=
 (B.all (λt=>nZ P t 1)&&S.all λx=>yQ P x.1 x.2)&&(N.all (aDJ P)&&M.all (aDM P))
section
variable {P:Program} {w:World} {t:TypeId}
theorem yJ(h:aDJ P t=true)(a:Option Addr)(l c:Nat){op:BinOp}(m:op=.eql\/op=.neq)(x y:Operand) :
  (eqGuard op t x y (.slice a l c) (.slice none 0 0)).run P w=.ok () w/\(binOp op t (.slice a l c) (.slice none 0 0)).run P w=.ok (.bool (if op=.eql then a.isNone else !a.isNone)) w:=by
 unfold aDJ at h;split at h
 .rename_i e q;refine⟨by rcases m with rfl|rfl<;>rfl,?_⟩;rcases m with rfl|rfl
  .simp only[binOp,bE,run_equal_slice_nil w t e a l c q,bD,bO,cM]
  .rw[run_neq_slice_nil w t e a l c q];simp
 .cases h
theorem aDj(h:aDM P t=true)(a:Option Addr)(b:Option Addr)(r:Bool)
  (F:(a=none/\r=b.isNone)\/(b=none/\r=a.isNone)\/(∃k,a=some k/\b=some k/\r=true)){op:BinOp}(q:op=.eql\/op=.neq)(x y:Operand) :
  (eqGuard op t x y (.pointer a) (.pointer b)).run P w=.ok () w/\(binOp op t (.pointer a) (.pointer b)).run P w=.ok (.bool (if op=.eql then r else !r)) w:=by
 unfold aDM at h;split at h
 .rename_i e u;split at h
  .rename_i i z;have B:i.size≠0:=gQ h
   have m:∀d:Nat,(Op.equalIn (d+1) t (.pointer a) (.pointer b)).run P w=.ok r w:=by
    intro d;rcases F with⟨rfl,rfl⟩|⟨rfl,rfl⟩|⟨k,rfl,rfl,rfl⟩
    .simp[Op.equalIn,cL u]
    .cases a<;>simp[Op.equalIn,cL u]
    .simp[Op.equalIn,cL u,sizeOf,typeInfo,z,B,run_sameAddr_same]
   have heq:(Op.equal t (.pointer a) (.pointer b)).run P w=.ok r w:=m 9999;refine⟨by rcases q with rfl|rfl<;>rfl,?_⟩;rcases q with rfl|rfl
   .simp only[binOp,bE,heq,bD,bO,cM]
   .simp only[binOp,bE,heq,bD,bO,reduceCtorEq,cI]
  .cases h
 .cases h
end
theorem aKj{S:List (TypeId × List Nat)}{t:TypeId}{ks:List Nat}(h:S.lookup t=some ks):(t,ks)∈S:=by
 induction S with
 | nil=>simp at h
 | cons x S q =>
  obtain⟨u,l⟩:=x;simp only[List.lookup]at h;split at h
  .rename_i m;have:t=u:=gQ m;cases h;subst this;simp
  .exact lL _ (q h)
theorem aN4{P:Program}{B:List TypeId}{S:List (TypeId × List Nat)}{N M:List TypeId}(u:aBh P B S N M=true)(t:TypeId)(a b:A)(r:Bool)(h:zH B S N M t a b=some r)
  (g:Gh)(va vb:Value)(w:World)(op:BinOp)(x y:Operand)(m:op=.eql\/op=.neq)(F:Rz g a va)(G:Rz g b vb) :
  (eqGuard op t x y va vb).run P w=.ok () w/\(binOp op t va vb).run P w=.ok (.bool (if op=.eql then r else !r)) w:=by
 simp only[aBh,dI,fR]at u;obtain⟨u,Z,hM⟩:=u;unfold zH at h;split at h
 .split at h
  .rename_i q;cases h;rw[F.nils_inv,G.nils_inv];exact yJ (Z t (gQ q)) none 0 0 m x y
  .cases h
 .split at h
  .rename_i q;cases h;obtain⟨ad,cap,z,_,_,_,hh⟩:=F.list_inv;rcases hh with hh|⟨bk,off,sz,pre,rfl,_⟩
   .cases hh
   rw[z,G.nils_inv];exact yJ (Z t (gQ q)) (some ⟨bk,off,none⟩) _ _ m x y
  .cases h
 .split at h
  .rename_i q;cases h;obtain⟨k,cap,z,_⟩:=F.ml_inv;rw[z,G.nils_inv];exact yJ (Z t (gQ q)) (some _) _ _ m x y
  .cases h
 .split at h
  .rename_i q;cases h;obtain⟨k,z⟩:=F.emp_inv;rw[z,G.nils_inv];exact yJ (Z t (gQ q)) (some _) _ _ m x y
  .cases h
 .split at h
  .rename_i q;cases h;rw[F.nilp_inv,G.nilp_inv];exact aDj (hM t (gQ q)) none none true (.inl ⟨rfl,rfl⟩) m x y
  .cases h
 .split at h
  .rename_i q;cases h;obtain⟨k,z,_⟩:=F.ptr_inv;rw[z,G.nilp_inv];exact aDj (hM t (gQ q)) (some _) none false (.inr (.inl ⟨rfl,rfl⟩)) m x y
  .cases h
 .split at h
  .rename_i a' o' b' p' q;simp only[dI]at q;cases h;have e1:=nN q.1.2;have e2:=nN q.2;subst e1 e2;obtain⟨k,z,hk⟩:=F.ptr_inv;obtain⟨k2,b1,L⟩:=G.ptr_inv;rw[hk]at L;cases L;rw[z,b1];exact aDj (hM t (gQ q.1.1)) (some _) (some _) true (.inr (.inr ⟨_,rfl,rfl,rfl⟩)) m x y
  .cases h
 .split at h
  .rename_i hb;simp only[bI]at h;subst h;have hk:=u.1 t (gQ hb)
   have U:P.underlying t=some .bool:=by
    unfold nZ at hk;split at hk<;>simp_all
   rw[F.bool_inv,G.bool_inv];refine⟨by rcases m with rfl|rfl<;>rfl,?_⟩;rcases m with rfl|rfl
   .simp only[binOp,bE,run_equal_bool w t _ _ U,bD,bO,cM]
   .simp only[binOp,bE,run_equal_bool w t _ _ U,bD,bO,reduceCtorEq,cI]
  .simp at h
 .split at h
  .rename_i ks b0;have hf:=u.2 _ (aKj b0);simp only[yQ,dI,kO]at hf;obtain⟨⟨h1,h2⟩,h3⟩:=hf;split at h3
   .rename_i fs U;obtain⟨vs,rfl,b3,_⟩:=F.agg_inv;obtain⟨us,rfl,b2,_⟩:=G.agg_inv;have H:P.fieldsOf t=fs:=by simp[Program.fieldsOf,U]
    have O:=aCb (P:=P) (g:=g) (w:=w) (d:=9998) (i:=0) (xs:=vs.toArray) (ys:=us.toArray) h3 h (gQ b3) (gQ b2)
    have heq:(Op.equalIn 10000 t (.agg vs.toArray) (.agg us.toArray)).run P w=.ok r w:=by
     rw[show 10000=9999+1 from rfl,run_equalIn_struct w 9999 t _ _ (by rw[H];exact U) h1,H];exact O
    refine⟨run_eqGuard_agg w op t x y _ _ h2,?_⟩;rcases m with rfl|rfl
    .rw[run_eql_struct,heq];rfl
    .rw[run_neq_struct,heq];rfl
   .simp at h3
  .simp at h
 .simp at h
attribute [go_sem] zH tC zF
end
end Go.AV
section
open Go.Proofs.Tryz
namespace Go.AV
open Go
section
variable {C:Cx} {n:Nat} {ds:List (Option Tmp)} {dst:Option Tmp} {op:Op} {r:List Oper} {K:Env->St->Prop} {Kp:St->A->Prop} {e:Env} {s:St} {t:Nat} {want b:Bool}
theorem gC8(h:b=true->oN C n ds dst op r K Kp e s t want (some (.bool true)))(m:b=false->oN C n ds dst op r K Kp e s t want (some (.bool false))) :
  oN C n ds dst op r K Kp e s t want (some (.bool b)):=by
 cases b
 .exact m rfl
 .exact h rfl
theorem gD1{E:List (Nat × List Nat)}{i:Nat}{next:List (Nat × (St->Prop))->Env->St->Prop}{W:List (Nat × (St->Prop))}
  (h:b=true->mR C n E i dst op next W Kp e s t want (some (.bool true)))(m:b=false->mR C n E i dst op next W Kp e s t want (some (.bool false))) :
  mR C n E i dst op next W Kp e s t want (some (.bool b)):=by
 cases b
 .exact m rfl
 .exact h rfl
theorem gC9{V:List Nat}{x y:Code}{Q:XK->Env->St->Prop}(h:b=true->eM C n V x Q e s)(m:b=false->eM C n V y Q e s) :
  brK C n V x y Q e s (some (.bool b)):=by
 cases b
 .exact m rfl
 .exact h rfl
end
theorem eG{s:St}{b:Nat}{o:Ob}(h:s.getO b=none):(s.setO b o).ge s :=
 ⟨fun c x m => by
  rw[aH];have:=aS m h;simp[this.2,m],λt n h=>h,λ_ h=>h⟩
theorem bQ{s:St}{b:Nat}{o:Ob}{s2:St}(h:s2.getO b=none)(m:s.ge s2):(s.setO b o).ge s2 :=
 ⟨fun c x q => by
  rw[aH];have:=aS q h;simp[this.2,m.ob c x q],λt n h=>m.tk t n h,λx h=>m.ls x h⟩
end Go.AV
namespace Go.AV
open Go
@[go_sem] theorem aO4 (s : St) (b n cap : Nat) (e e' : TypeId) (sz m : Nat) (ys cs : List A) (KV : St → A → Prop) : qP false s b n cap e sz m ys KV (some (.cells e' cs)) =
  ((false=false/\e'=e/\cs.length=cap * sz/\n<=cap/\n+m<=4294967296/\0<m) /\
  ∀(q h:Nat) (J:List A),(q=b/\h=cap\/s.getO q=none)->n+m<=h->J.length=(h-(n+m)) * sz->(∀c,c∈J->c.one=true) ->
   KV (s.setO q (.cells e (cs.take (n * sz)++(cY ys++J)))) (.mg q (n+m) h)):=rfl
attribute [go_sem] aBb
def gv(tk:Option Nat)(es:List A):A:=match tk with
 | none=>.nils
 | some t=>.list (some t) es
def gZ(s:St)(tk:Option Nat)(n:Nat)(e:TypeId):Prop:=match tk with
 | none=>n=0
 | some t=>s.getT t=some (n,e)
theorem aAI(es:List A):gv none es=.nils:=rfl
theorem dB(t:Nat)(es:List A):gv (some t) es=.list (some t) es:=rfl
@[go_sem] theorem aGr(tk:Option Nat)(es:List A):(gv tk es).cells=[gv tk es]:=by cases tk<;>rfl
@[go_sem] theorem qI(tk:Option Nat)(es:List A):(gv tk es).one=true:=by cases tk<;>rfl
@[go_sem] theorem aQJ(s:St)(tk:Option Nat)(es:List A):gA s (gv tk es)=gv tk es:=by cases tk<;>rfl
theorem mD{s:St}{tk:Option Nat}{es:List A}{e:TypeId}(h:gZ s tk es.length e):jI (gv tk es)=some (.int .i64 es.length):=by
 cases tk with
 | none =>
  have m:es.length=0:=h;simp only[gv,jI,m];rfl
 | some t=>rfl
theorem cT{C:Cx}{s:St}{e:TypeId}{u:TI}{ys:List A}{KV:St->A->Prop}{tk:Option Nat}{es:List A}(q:C.det=false)(G:Nat.beq C.mu 1=false)(m:gZ s tk es.length e)
  (B:∀y,y∈es->y.cells.length=u.sz)(hl:es.length+ys.length<=4294967296)
  (h:∀t,(tk=some t\/tk=none/\s.getT t=none)->KV (s.setT t (es.length+ys.length,e)) (.list (some t) (es++ys))):oM C s e u ys KV (gv tk es):=by
 cases tk with
 | none =>
  have z:es=[]:=fC m;subst z;refine⟨gQ hl,?_⟩;unfold lH;rw[q];simp only[G];unfold newT;rw[q];intro t F;have:=h t (.inr ⟨rfl,F⟩);simpa using this
 | some t=>exact⟨m,B,hl,h t (.inl rfl)⟩
theorem xT{α:Type}(p:Nat)(c d:α):∀L,kM p d (kM p c L)=kM p d L
 | []=>by simp[kM]
 | (q,x)::L=>by
  unfold kM;by_cases h:q=p
  .simp[h,kM]
  .simp[h,kM,xT p c d L]
@[go_sem] theorem lW (s : St) (b : Nat) (o h : Ob) : (s.setO b o).setO b h = s.setO b h := by
  simp only[St.setO,xT]
end Go.AV
namespace Go.AV
open Go
def Rlz(a:A):Prop:=∃g v,Rz g a v
theorem Rlz.len{tk:Option Nat}{es:List A}(h:Rlz (.list tk es)):es.length<=maxLen:=by
 obtain⟨g,v,h⟩:=h;obtain⟨m,cap,y,u,q,_⟩:=h.list_inv;omega
theorem Rlz.wrap{tk:Option Nat}{es:List A}(h:Rlz (.list tk es)){i:Nat}(m:i<es.length):IntKind.i64.wrap ((i:Int)+1)=((i+1:Nat):Int):=by
 have:=h.len;unfold maxLen at this;exact bM i aB
theorem Rlz.cell{cs:List A}(h:Rlz (.agg cs)){c:A}(q:c∈cs):Rlz c:=by
 obtain⟨g,v,h⟩:=h;obtain⟨vs,rfl,m,_⟩:=h.agg_inv;obtain⟨j,y,rfl⟩:=hU q;obtain⟨u,_,z⟩:=m.get (aV y);exact⟨g,u,z⟩
theorem Rlz.elem{tk:Option Nat}{es:List A}(h:Rlz (.list tk es)){e:A}(y:e∈es){c:A}(B:c∈e.cells):Rlz c:=by
 obtain⟨g,v,h⟩:=h;obtain⟨H,cap,U,O,u,_,q⟩:=h.list_inv;rcases q with rfl|⟨b,off,sz,pre,rfl,S,hl,G,z,q⟩
 .cases y
 .obtain⟨i,m,rfl⟩:=hU y;obtain⟨j,F,rfl⟩:=hU B;have L:=G _ (iF m)
  have M:i * sz+j<es.length * sz:=by
   have:(i+1) * sz<=es.length * sz:=nP _ m;rw[eT]at this;omega
  exact⟨g,_,q i _ j _ pre[off+i * sz+j] (aV m) (aV F) (aV aB)⟩
theorem Rlz.agg_elem{tk:Option Nat}{es:List A}(h:Rlz (.list tk es)){cs:List A}(u:A.agg cs∈es):Rlz (.agg cs):=by
 obtain⟨g,v,h⟩:=h;obtain⟨O,cap,m,U,F,_,B⟩:=h.list_inv;rcases B with rfl|⟨b,off,sz,pre,rfl,Z,hl,M,q,B⟩
 .cases u
 .obtain⟨i,G,z⟩:=hU u;have H:=M _ u
  have S:i * sz+sz<=es.length * sz:=by
   have:(i+1) * sz<=es.length * sz:=nP _ G
   rwa[eT,Nat.one_mul]at this
  have L:cs.length=sz:=H;refine⟨g,.agg ((pre.drop (off+i * sz)).take sz).toArray,.agg cs _ (by rw[dV,cS];omega) (λc y=>q _ u c y) λj c v y m=>?_⟩;rw[kC]at m;split at m
  .rw[jL]at m;exact B i (.agg cs) j c v (by rw[aV G,z]) y m
  .cases m
section
variable {C:Cx} {s:St} {f:FuncId} {args:List A} {KV Kp:St->A->Prop}
theorem fS(h:(∀a,a∈args->Rlz a)->Den C f args KV Kp s):Den C f args KV Kp s:=λF g w vals q m =>
 h (λa y=>by
  obtain⟨j,z,rfl⟩:=hU y;obtain⟨u,_,B⟩:=m.get (aV z);exact⟨g,u,B⟩) F g w vals q m
end
theorem aM{X:St}{H Q:Nat->Prop}(k:∀p,H p->Q p)(h:∀p,X.getO p=none->H p:=by(intro p h;(try simp only[cN,bJ]at h);exact h)):∀p,X.getO p=none->Q p:=λp e=>k p (h p e)
theorem hH{s1 s:St}{F:Prop}(f:F)(h:F->s1.ge s:=by(intro f;repeat (first|(refine bQ ?_ ?_;focus (simp only[cN,bJ,eF,rK,f]<;>done))|exact aG _))):s1.ge s:=h f
end Go.AV
end
namespace Go.AV
open Go Go.Proofs Tryz
theorem aI3{C:Cx}{f:FuncId}{args:List A}{s:St}{KV Kp:St->A->Prop}
  (m:∀vals w,(callFunc f vals).run C.P w=.ok (.enter f vals) w)
  (h : ∀ F g w vals,R C.toCtx F g s w → Rzs g args vals → Calls C.P f vals.toArray w fun e w' =>
   ∃v a,e=.returned v/\(∀k,k<w.heap.size->w'.heap[k]?=w.heap[k]?)/\(w'.os,w'.output)=(w.os,w.output)/\Rz g a v/\KV s a):Den C f args KV Kp s:=by
 intro F g w vals q H;rw[m];refine Calls.mono (h F g w vals q H) λe w' B=>?_
 obtain⟨v,a,rfl,z,y,G,u⟩:=B;exact⟨g,a,s,dW g,q.keep z y,G,u⟩
inductive Tr (α:Type) where
 | lf
 | nd (l:Tr α) (v:Option α) (r:Tr α)
def Tr.get{α:Type}:Tr α->Nat->Option α
 | .lf,_=>none
 | .nd l v r,n=>match n with
  | 0=>v
  | k+1=>match Nat.beq (k % 2) 0 with
   | true=>l.get (k / 2)
   | false=>r.get (k / 2)
def aC0:Code->Option (FuncId × Operand)
 | .region _ ops m=>match m with
  | true=>none
  | false=>match ops.toList with
   | [o]=>match o.dst,o.guard,o.op with
    | none,none,.defer c=>match c.callee,c.args.toList with
     | .value (.func h),[x]=>some (h,x)
     | _,_=>none
    | _,_,_=>none
   | _=>none
 | _=>none
theorem aJj{C:Cx}{f:FuncId}{fn:Func}{c:Code}{args:List A}{KV Kp:St->A->Prop}{s:St}(B:C.P.funcs[f]?=some fn)(z:fn.body=some c)
  (m : (fn.name == "runtime.NumGoroutine") = false) (U : args.length ≤ fn.ntmps)
  (h:∀F g w (a:Act),R C.toCtx F g s w->EnvOk g fn.ntmps (mJ 0 args) a.tmps->a.defers=[]->c.wp C.P (bodyPostD C.P fn (vT C F g KV Kp)) a w):Den C f args KV Kp s:=by
 intro F g w vals M G
 have q:(callFunc f vals.toArray).run C.P w=.ok (.enter f vals.toArray) w:=by
  simp only[callFunc,bE,run_program,bD,B,m,cQ,↓reduceIte,z,Option.isNone_some,bO]
 rw[q];refine calls_of_wp_defers B z ?_
 have L:EnvOk g fn.ntmps (mJ 0 args) (vals.toArray++Array.replicate (fn.ntmps-vals.toArray.size) undef):=by
  have hl:vals.length=args.length:=G.1;refine⟨by simp;omega,λt a O=>?_⟩;obtain⟨_,H⟩:=aCC args 0 t a O;obtain⟨u,y,S⟩:=G.get H;rw[Nat.sub_zero]at y;refine⟨u,?_,S⟩;have:t<vals.length:=(dG.1 y).1;rw[Array.getElem?_append_left (gQ this)];simpa using y
 exact h F g w ⟨_,[]⟩ M L rfl
def tX(h k:Nat):Deferred:={ target:=.fn (.func h) #[],args:=#[.pointer (some ⟨k,0,none⟩)] }
theorem aKw{c:Code}{h:FuncId}{x:Operand}(m:aC0 c=some (h,x)):∃B ops y ty pos after,c=.region B ops false/\ops.toList=[⟨none,.defer ⟨.value (.func h),#[x],y⟩,ty,pos,after,none⟩]:=by
 unfold aC0 at m;split at m
 .rename_i B ops F;split at m
  .cases m
  .split at m
   .rename_i o ho;split at m
    .rename_i c G H z;split at m
     .rename_i M O u q;cases m;obtain⟨dst,op,ty,pos,after,gd⟩:=o;obtain⟨L,args,y⟩:=c;simp only at G H z u q;subst G H z u;refine⟨B,ops,y,ty,pos,after,rfl,?_⟩;rw[ho];have:args=#[x]:=by apply Array.ext';exact q
      rw[this]
     .cases m
    .cases m
   .cases m
 .cases m
def St.zero:St:=⟨λ_=>none,[],λ_=>none,[],0,none⟩
@[go_sem] def y1:TI:=⟨.other,1,8,[.nilf]⟩
@[go_sem] def y2:TI:=⟨.int .i64,1,8,[.int .i64 0]⟩
@[go_sem] def y3:TI:=⟨.bool,1,1,[.bool false]⟩
@[go_sem] def y4:TI:=⟨.int .u8,1,1,[.int .u8 0]⟩
@[go_sem] def y5:TI:=⟨.struct [(0,1,false),(1,1,false),(2,1,false),(3,1,false)],4,24,[.int .i64 0,.int .i64 0,.bool false,.int .u8 0]⟩
@[go_sem] def y6:TI:=⟨.string,1,16,[.str []]⟩
@[go_sem] def y7:TI:=⟨.int .u64,1,8,[.int .u64 0]⟩
@[go_sem] def y8:TI:=⟨.struct [(0,1,false),(1,1,false)],2,24,[.str [],.int .u64 0]⟩
@[go_sem] def y9:TI:=⟨.other,1,8,[.nilp]⟩
@[go_sem] def y10:TI:=⟨.struct [(0,1,false)],1,8,[.nilp]⟩
@[go_sem] def wL:TI:=⟨.iface,1,16,[.nili]⟩
@[go_sem] def wP:TI:=⟨.int .i32,1,4,[.int .i32 0]⟩
@[go_sem] def y13:TI:=⟨.slice 9,1,24,[.nils]⟩
@[go_sem] def y14:TI:=⟨.slice 102,1,24,[.nils]⟩
@[go_sem] def y15:TI:=⟨.slice 64,1,24,[.nils]⟩
@[go_sem] def y16:TI:=⟨.struct [(0,1,false),(1,1,false),(2,1,false),(3,1,false),(4,1,false)],5,120,[.nils,.nils,.nils,.nils,.nils]⟩
@[go_sem] def y17:TI:=⟨.slice 41,1,24,[.nils]⟩
@[go_sem] def y18:TI:=⟨.slice 67,1,24,[.nils]⟩
@[go_sem] def y19:TI:=⟨.slice 46,1,24,[.nils]⟩
@[go_sem] def y20:TI:=⟨.struct [(0,1,false),(1,5,true),(6,1,false),(7,1,false),(8,1,false),(9,1,false),(10,1,false),(11,1,false),(12,1,false)],13,280,[.str [],.nils,.nils,.nils,.nils,.nils,.nils,.nils,.str [],.nils,.nils,.str [],.str []]⟩
@[go_sem] def y21:TI:=⟨.slice 39,1,24,[.nils]⟩
@[go_sem] def y22:TI:=⟨.struct [(0,1,false),(1,1,false),(2,1,false),(3,1,false),(4,1,false),(5,1,false)],6,96,[.int .i64 0,.int .i64 0,.str [],.str [],.nils,.nils]⟩
@[go_sem] def y23:TI:=⟨.struct [(0,6,true),(6,6,true),(12,1,false),(13,1,false),(14,1,false)],15,232,[.int .i64 0,.int .i64 0,.str [],.str [],.nils,.nils,.int .i64 0,.int .i64 0,.str [],.str [],.nils,.nils,.nils,.int .i64 0,.int .i64 0]⟩
@[go_sem] def y24:TI:=⟨.slice 69,1,24,[.nils]⟩
@[go_sem] def y25:TI:=⟨.slice 71,1,24,[.nils]⟩
@[go_sem] def y26:TI:=⟨.struct [(0,1,false),(1,1,false),(2,1,false),(3,1,false),(4,1,false),(5,1,false),(6,1,false)],7,128,[.str [],.nils,.nils,.nils,.nils,.int .i64 0,.int .i64 0]⟩
@[go_sem] def y27:TI:=⟨.struct [(0,1,false),(1,1,false),(2,1,false),(3,1,false)],4,40,[.int .i64 0,.str [],.int .i64 0,.int .i64 0]⟩
@[go_sem] def y28:TI:=⟨.slice 195,1,24,[.nils]⟩
@[go_sem] def y29:TI:=⟨.slice 3,1,24,[.nils]⟩
@[go_sem] def y30:TI:=⟨.struct [(0,1,false),(1,1,false),(2,1,false),(3,1,false),(4,1,false),(5,1,false),(6,1,false)],7,120,[.str [],.nils,.str [],.nils,.int .i64 0,.int .i64 0,.nils]⟩
@[go_sem] def y31:TI:=⟨.struct [(0,1,false),(1,1,false),(2,6,true),(8,1,false),(9,1,false)],10,144,[.str [],.str [],.int .i64 0,.int .i64 0,.str [],.str [],.nils,.nils,.int .i64 0,.int .i64 0]⟩
@[go_sem] def y32:TI:=⟨.struct [(0,1,false),(1,1,false),(2,6,true),(8,1,false),(9,1,false),(10,1,false)],11,168,[.str [],.str [],.int .i64 0,.int .i64 0,.str [],.str [],.nils,.nils,.nils,.int .i64 0,.int .i64 0]⟩
@[go_sem] def y33:TI:=⟨.struct [(0,1,false)],1,24,[.nils]⟩
@[go_sem] def sL:TI:=⟨.struct [(0,1,false),(1,1,false)],2,16,[.int .i64 0,.int .i64 0]⟩
@[go_sem] def y35:TI:=⟨.struct [(0,13,true),(13,1,false)],14,288,[.str [],.nils,.nils,.nils,.nils,.nils,.nils,.nils,.str [],.nils,.nils,.str [],.str [],.nilp]⟩
@[go_sem] def y36:TI:=⟨.map 4 0,1,8,[.nilm]⟩
@[go_sem] def sJ:TI:=⟨.struct [(0,1,false),(1,1,false)],2,32,[.str [],.str []]⟩
@[go_sem] def y38:TI:=⟨.map 22 0,1,8,[.nilm]⟩
@[go_sem] def y39:TI:=⟨.map 64 0,1,8,[.nilm]⟩
@[go_sem] def y40:TI:=⟨.struct [(0,5,true),(5,1,false),(6,1,false),(7,1,false)],8,144,[.nils,.nils,.nils,.nils,.nils,.nilm,.nilm,.nilm]⟩
@[go_sem] def y41:TI:=⟨.slice 24,1,24,[.nils]⟩
@[go_sem] def y42:TI:=⟨.struct [(0,1,false),(1,1,false)],2,16,[.int .i64 0,.bool false]⟩
@[go_sem] def y43:TI:=⟨.map 4 2,1,8,[.nilm]⟩
@[go_sem] def y44:TI:=⟨.slice 22,1,24,[.nils]⟩
@[go_sem] def y45:TI:=⟨.map 9 0,1,8,[.nilm]⟩
@[go_sem] def y46:TI:=⟨.slice 28,1,24,[.nils]⟩
@[go_sem] def y47:TI:=⟨.slice 37,1,24,[.nils]⟩
@[go_sem] def y48:TI:=⟨.slice 173,1,24,[.nils]⟩
@[go_sem] def y49:TI:=⟨.struct [(0,1,false),(1,1,false),(2,1,false),(3,1,false),(4,1,false)],5,48,[.int .i64 0,.str [],.int .i64 0,.int .i64 0,.int .i64 0]⟩
@[go_sem] def y50:TI:=⟨.struct [(0,1,false),(1,1,false),(2,4,true),(6,13,true),(19,5,true),(24,1,false),(25,1,false)],26,416,[.nils,.int .i64 0,.int .i64 0,.str [],.int .i64 0,.int .i64 0,.str [],.nils,.nils,.nils,.nils,.nils,.nils,.nils,.str [],.nils,.nils,.str [],.str [],.int .i64 0,.str [],.int .i64 0,.int .i64 0,.int .i64 0,.int .i64 0,.bool false]⟩
@[go_sem] def y51:TI:=⟨.int .u32,1,4,[.int .u32 0]⟩
@[go_sem] def y52:TI:=⟨.map 4 1,1,8,[.nilm]⟩
@[go_sem] def y53:TI:=⟨.slice 4,1,24,[.nils]⟩
@[go_sem] def y54:TI:=⟨.array 256 5,256,256,List.replicate 256 (.int .u8 0)⟩
@[go_sem] def y55:TI:=⟨.struct [(0,1,false),(1,1,false),(2,1,false),(3,1,false),(4,1,false),(5,1,false)],6,72,[.str [],.int .i64 0,.int .i64 0,.int .i64 0,.nils,.bool false]⟩
@[go_sem] def y56:TI:=⟨.slice 248,1,24,[.nils]⟩
@[go_sem] def y57:TI:=⟨.slice 266,1,24,[.nils]⟩
@[go_sem] def y58:TI:=⟨.slice 269,1,24,[.nils]⟩
@[go_sem] def y59:TI:=⟨.struct [(0,1,false),(1,1,false),(2,1,false)],3,56,[.nils,.nils,.int .i64 0]⟩
@[go_sem] def y60:TI:=⟨.int .u16,1,2,[.int .u16 0]⟩
@[go_sem] def y61:TI:=⟨.struct [(0,1,false),(1,1,false),(2,1,false)],3,6,[.int .u16 0,.int .u16 0,.int .u16 0]⟩
@[go_sem] def y62:TI:=⟨.struct [(0,1,false),(1,1,false),(2,1,false)],3,12,[.int .u32 0,.int .u32 0,.int .u32 0]⟩
@[go_sem] def y63:TI:=⟨.array 24 5,24,24,[.int .u8 0,.int .u8 0,.int .u8 0,.int .u8 0,.int .u8 0,.int .u8 0,.int .u8 0,.int .u8 0,.int .u8 0,.int .u8 0,.int .u8 0,.int .u8 0,.int .u8 0,.int .u8 0,.int .u8 0,.int .u8 0,.int .u8 0,.int .u8 0,.int .u8 0,.int .u8 0,.int .u8 0,.int .u8 0,.int .u8 0,.int .u8 0]⟩
@[go_sem] def y64:TI:=⟨.slice 5,1,24,[.nils]⟩
@[go_sem] def y65:TI:=⟨.array 20 188,20,160,[.int .u64 0,.int .u64 0,.int .u64 0,.int .u64 0,.int .u64 0,.int .u64 0,.int .u64 0,.int .u64 0,.int .u64 0,.int .u64 0,.int .u64 0,.int .u64 0,.int .u64 0,.int .u64 0,.int .u64 0,.int .u64 0,.int .u64 0,.int .u64 0,.int .u64 0,.int .u64 0]⟩
@[go_sem] def y66:TI:=⟨.struct [(0,1,false),(1,1,false),(2,1,false)],3,48,[.str [],.str [],.nili]⟩
@[go_sem] def y67:TI:=⟨.struct [(0,1,false),(1,1,false)],2,2,[.int .u8 0,.int .u8 0]⟩
@[go_sem] def y68:TI:=⟨.array 16 316,32,32,[.int .u8 0,.int .u8 0,.int .u8 0,.int .u8 0,.int .u8 0,.int .u8 0,.int .u8 0,.int .u8 0,.int .u8 0,.int .u8 0,.int .u8 0,.int .u8 0,.int .u8 0,.int .u8 0,.int .u8 0,.int .u8 0,.int .u8 0,.int .u8 0,.int .u8 0,.int .u8 0,.int .u8 0,.int .u8 0,.int .u8 0,.int .u8 0,.int .u8 0,.int .u8 0,.int .u8 0,.int .u8 0,.int .u8 0,.int .u8 0,.int .u8 0,.int .u8 0]⟩
@[go_sem] def y69:TI:=⟨.struct [(0,1,false)],1,16,[.str []]⟩
@[go_sem] def y70:TI:=⟨.array 32 5,32,32,[.int .u8 0,.int .u8 0,.int .u8 0,.int .u8 0,.int .u8 0,.int .u8 0,.int .u8 0,.int .u8 0,.int .u8 0,.int .u8 0,.int .u8 0,.int .u8 0,.int .u8 0,.int .u8 0,.int .u8 0,.int .u8 0,.int .u8 0,.int .u8 0,.int .u8 0,.int .u8 0,.int .u8 0,.int .u8 0,.int .u8 0,.int .u8 0,.int .u8 0,.int .u8 0,.int .u8 0,.int .u8 0,.int .u8 0,.int .u8 0,.int .u8 0,.int .u8 0]⟩
@[go_sem] def y71:TI:=⟨.struct [(0,1,false),(1,1,false),(2,1,false),(3,1,false)],4,40,[.nilp,.nilp,.nilp,.str []]⟩
@[go_sem] def y72:TI:=⟨.array 0 16,0,0,[]⟩
@[go_sem] def y73:TI:=⟨.struct [(0,1,false),(1,1,false),(2,1,false),(3,1,false),(4,1,false),(5,1,false),(6,1,false),(7,1,false),(8,1,false),(9,1,false),(10,1,false)],11,48,[.int .u64 0,.int .u64 0,.int .u32 0,.int .u8 0,.int .u8 0,.int .u8 0,.int .u8 0,.nilf,.nilp,.int .i32 0,.int .i32 0]⟩
def ttT:Tr TI:=(.nd (.nd (.nd (.nd (.nd (.nd (.nd (.nd (.nd .lf (some y1) .lf) (some y1) .lf) (some y30) (.nd (.nd .lf (some y9) .lf) (some y1) .lf)) (some y20) (.nd (.nd .lf (some y1) .lf) (some y1) (.nd .lf (some y1) .lf))) (some y9) (.nd (.nd (.nd (.nd .lf (some y1) .lf) (some y42) .lf) (some y1) (.nd (.nd .lf (some y73) .lf) (some y9) .lf)) (some y1) (.nd (.nd (.nd .lf (some y9) .lf) (some y50) .lf) (some y38) (.nd .lf (some y1) .lf)))) (some y5) (.nd (.nd (.nd (.nd (.nd .lf (some y59) .lf) (some y1) .lf) (some y33) (.nd (.nd .lf (some y72) .lf) (some y1) .lf)) (some y22) (.nd (.nd .lf (some y1) .lf) (some y1) (.nd .lf (some y55) .lf))) (some y14) (.nd (.nd (.nd .lf (some y1) .lf) (some y1) (.nd .lf (some y1) .lf)) none (.nd (.nd (.nd .lf (some y1) .lf) none .lf) (some y1) (.nd .lf (some sL) .lf))))) (some y2) (.nd (.nd (.nd (.nd (.nd (.nd .lf (some y1) .lf) none .lf) (some y31) (.nd (.nd .lf (some y70) .lf) (some sJ) .lf)) (some y1) (.nd (.nd (.nd .lf (some y1) .lf) (some y1) .lf) (some y1) (.nd .lf (some y1) .lf))) (some y10) (.nd (.nd (.nd (.nd .lf (some y9) .lf) none .lf) (some y1) (.nd .lf (some y1) .lf)) (some y27) (.nd (.nd (.nd .lf (some y65) .lf) none .lf) (some y1) (.nd .lf (some y9) .lf)))) (some y6) (.nd (.nd (.nd (.nd (.nd .lf (some y1) .lf) (some y1) .lf) (some sL) (.nd (.nd .lf (some y4) .lf) (some y1) .lf)) (some y24) (.nd (.nd (.nd .lf (some y1) .lf) (some y2) .lf) (some y1) (.nd .lf (some y1) .lf))) (some y17) (.nd (.nd (.nd (.nd .lf (some y1) .lf) none .lf) (some y1) (.nd .lf (some y1) .lf)) (some y1) (.nd (.nd (.nd .lf (some y67) .lf) (some y1) .lf) (some y1) .lf))))) (some y1) (.nd (.nd (.nd (.nd (.nd (.nd (.nd .lf (some y1) .lf) (some y1) .lf) (some y1) (.nd (.nd .lf (some y69) .lf) (some y52) .lf)) (some y1) (.nd (.nd (.nd .lf (some y1) .lf) (some y1) .lf) (some y1) (.nd .lf (some y1) .lf))) (some y9) (.nd (.nd (.nd (.nd .lf (some y1) .lf) (some y43) .lf) (some y35) (.nd (.nd .lf (some y9) .lf) (some y1) .lf)) (some y2) (.nd (.nd (.nd .lf (some y1) .lf) (some y1) .lf) (some y40) (.nd .lf (some y1) .lf)))) (some y6) (.nd (.nd (.nd (.nd (.nd .lf (some y61) .lf) (some y1) .lf) (some y9) .lf) (some y23) (.nd (.nd .lf (some y1) .lf) (some y1) (.nd .lf (some y1) .lf))) (some y16) (.nd (.nd (.nd .lf (some y44) .lf) (some y1) (.nd .lf (some y7) .lf)) (some y1) (.nd (.nd (.nd .lf (some y66) .lf) (some y1) .lf) (some y1) (.nd .lf (some y1) .lf))))) (some y4) (.nd (.nd (.nd (.nd (.nd (.nd .lf (some y58) .lf) (some y1) .lf) (some y32) (.nd (.nd .lf (some y71) .lf) (some y1) .lf)) (some y21) (.nd (.nd (.nd .lf (some y1) .lf) (some y1) .lf) (some sJ) (.nd .lf (some y9) .lf))) (some wP) (.nd (.nd (.nd (.nd .lf (some wL) .lf) (some y1) .lf) (some y1) (.nd .lf (some y1) .lf)) none (.nd (.nd (.nd .lf (some y1) .lf) (some y1) .lf) (some y1) (.nd .lf (some y1) .lf)))) (some y8) (.nd (.nd (.nd (.nd (.nd .lf (some y62) .lf) (some y1) .lf) (some y9) (.nd (.nd .lf (some wP) .lf) (some y1) .lf)) (some y26) (.nd (.nd .lf (some y49) .lf) (some y1) (.nd .lf (some y1) .lf))) (some y19) (.nd (.nd (.nd .lf (some y45) .lf) (some y1) (.nd .lf (some y9) .lf)) (some y2) (.nd (.nd (.nd .lf (some y68) .lf) (some y9) .lf) (some y1) (.nd .lf (some y1) .lf))))))) none (.nd (.nd (.nd (.nd (.nd (.nd (.nd (.nd .lf (some y1) .lf) (some y1) .lf) (some y30) (.nd (.nd .lf (some y9) .lf) (some y1) .lf)) (some y1) (.nd (.nd (.nd .lf (some y1) .lf) (some y1) .lf) (some y1) (.nd .lf (some y54) .lf))) (some y9) (.nd (.nd (.nd (.nd .lf (some y1) .lf) (some y42) .lf) (some y35) (.nd (.nd .lf (some y73) .lf) (some y53) .lf)) (some y1) (.nd (.nd (.nd .lf (some y1) .lf) (some y1) .lf) (some y39) (.nd .lf (some y9) .lf)))) (some y5) (.nd (.nd (.nd (.nd (.nd .lf (some y60) .lf) (some y41) .lf) (some y1) (.nd .lf (some y1) .lf)) (some y23) (.nd (.nd (.nd .lf (some y1) .lf) (some y1) .lf) (some y1) (.nd .lf (some y1) .lf))) (some y15) (.nd (.nd (.nd (.nd .lf (some y1) .lf) (some y1) .lf) (some y1) (.nd .lf (some y1) .lf)) (some y1) (.nd (.nd (.nd .lf (some y66) .lf) (some y1) .lf) (some y1) (.nd .lf (some sL) .lf))))) (some y3) (.nd (.nd (.nd (.nd (.nd (.nd .lf (some y57) .lf) (some y1) .lf) (some y32) (.nd .lf (some y1) .lf)) (some y2) (.nd (.nd (.nd .lf (some y63) .lf) (some y1) .lf) (some y1) (.nd .lf (some y1) .lf))) (some wL) (.nd (.nd (.nd (.nd .lf (some y1) .lf) none .lf) none (.nd .lf (some y1) .lf)) (some y1) (.nd (.nd .lf (some y1) .lf) (some y1) .lf))) (some y7) (.nd (.nd (.nd (.nd (.nd .lf (some y62) .lf) (some y1) .lf) (some y1) (.nd (.nd .lf (some y1) .lf) (some y1) .lf)) (some y25) (.nd (.nd (.nd .lf (some y2) .lf) (some y49) .lf) (some y1) (.nd .lf (some y9) .lf))) (some y18) (.nd (.nd (.nd (.nd .lf (some y1) .lf) (some y1) .lf) (some y1) (.nd .lf (some y1) .lf)) (some y28) (.nd (.nd (.nd .lf (some y67) .lf) (some y7) .lf) none (.nd .lf (some y1) .lf)))))) (some y2) (.nd (.nd (.nd (.nd (.nd (.nd (.nd .lf (some y1) .lf) (some y9) .lf) (some y31) (.nd (.nd .lf (some y69) .lf) (some sJ) .lf)) (some y7) (.nd (.nd (.nd .lf (some y9) .lf) (some y46) .lf) (some y1) (.nd .lf (some y1) .lf))) (some y10) (.nd (.nd (.nd (.nd .lf (some y9) .lf) (some y1) .lf) (some y1) (.nd .lf (some y1) .lf)) (some y27) (.nd (.nd (.nd .lf (some y1) .lf) (some y2) .lf) (some y40) (.nd .lf (some y1) .lf)))) (some y6) (.nd (.nd (.nd (.nd (.nd .lf (some y61) .lf) (some y1) .lf) (some sL) (.nd (.nd .lf (some y4) .lf) (some y1) .lf)) (some y1) (.nd (.nd (.nd .lf (some y1) .lf) (some y48) .lf) (some y1) (.nd .lf (some y1) .lf))) (some y16) (.nd (.nd (.nd (.nd .lf (some y1) .lf) (some y1) .lf) (some y1) (.nd .lf (some y1) .lf)) none (.nd (.nd (.nd .lf (some y1) .lf) (some y51) .lf) (some y1) (.nd .lf (some y9) .lf))))) (some y4) (.nd (.nd (.nd (.nd (.nd (.nd .lf (some y59) .lf) (some y1) .lf) (some y33) (.nd (.nd .lf (some y71) .lf) none .lf)) (some y22) (.nd (.nd (.nd .lf (some y64) .lf) (some y47) .lf) (some sJ) (.nd .lf (some y55) .lf))) (some y13) (.nd (.nd (.nd (.nd .lf (some wL) .lf) (some y1) .lf) (some y36) (.nd .lf (some y1) .lf)) (some y1) (.nd (.nd .lf (some y1) .lf) (some y1) (.nd .lf (some y56) .lf)))) (some y8) (.nd (.nd (.nd (.nd (.nd .lf (some y1) .lf) (some y1) .lf) (some y9) (.nd (.nd .lf (some wP) .lf) (some y1) .lf)) (some y26) (.nd (.nd (.nd .lf (some y1) .lf) (some y50) .lf) (some y1) (.nd .lf (some y1) .lf))) (some y20) (.nd (.nd .lf (some y1) (.nd .lf (some y1) .lf)) (some y29) (.nd (.nd (.nd .lf (some y1) .lf) (some y1) .lf) (some y1) (.nd .lf (some y1) .lf))))))))
def TT(t:TypeId):Option TI:=ttT.get t
def aOu(P:Program)(n:Nat):Bool:=(List.range n).all λt=>match TT t with|some h=>aDK P t h|none=>true
theorem aN1:aOu prog 338=true:=by decide +kernel
def TTc(t:TypeId):Option TI:=match Nat.blt t 338 with
 | true=>TT t
 | false=>none
theorem aOH(t:TypeId)(q:TI)(h:TTc t=some q):q.ok prog t:=by
 unfold TTc at h;split at h
 .rename_i m;rw[Nat.blt_eq]at m;have:=fR.1 aN1 t (qA.2 m);rw[h]at this;exact aNq this
 .cases h
theorem aHA:aBh prog [4] [(51,[0,2,0,0]),(102,[2,2]),(195,[2,2])] [22,60,62,37] [189]=true:=by decide +kernel
theorem aJ2{P:Program}{e:TypeId}(u:P.cellsOf e≠0)(m:Nat)(h:1<=m):liesAt P P.depth e m 0 e 1=true:=by
 have q:P.depth=(2 * (P.types.size+Made.depth)+1)+1:=rfl;rw[q];simp only[liesAt,wZ];left;rw[q];simp[rowAt,u,h,sameLayout]
theorem aCZ:prog.underlying 189=some (.pointer 144)/\prog.underlying 337=some .unsafePointer/\(prog.info? 144).map (·.size)=some 2/\prog.cellsOf 144=2/\prog.underlying 319=some (.pointer 5)/\prog.cellsOf 5=1:=by
 refine⟨?_,?_,?_,?_,?_,?_⟩<;>kernel_rfl
def zI(a b:TypeId):Option TypeId:=match Nat.beq a 189&&Nat.beq b 337 with
 | true=>some 144
 | false=>match Nat.beq a 337&&Nat.beq b 189 with
  | true=>some 144
  | false=>none
def usS(a:TypeId):Option TypeId:=match Nat.beq a 319 with
 | true=>some 5
 | false=>none
theorem aOc(a b e:TypeId)(h:zI a b=some e)(w:World)(k:Nat)(vs:Array Value)(z:w.heap[k]?=some (.cells vs e))(F:prog.cellsOf e<=vs.size) :
  (convert a b (.pointer (some ⟨k,0,none⟩))).run prog w=.ok (.pointer (some ⟨k,0,none⟩)) w:=by
 obtain⟨u,y,G,q,_⟩:=aCZ;obtain⟨j,B,H⟩:=oT.1 G;unfold zI at h;split at h
 .rename_i m;simp only[dI]at m;obtain rfl:=nN m.1;obtain rfl:=nN m.2;cases h;rw[q]at F;exact Lib.run_to_unsafe w ⟨k,0,none⟩ u y B aB (cells:=vs.size) (e:=144) (by simp[World.shape?,z]) (by show 0<vs.size;omega)
 .split at h
  .rename_i m;simp only[dI]at m;obtain rfl:=nN m.1;obtain rfl:=nN m.2;cases h;rw[q]at F;exact Lib.run_from_unsafe w ⟨k,0,none⟩ y u B (cells:=vs.size) (e:=144) (by simp[World.shape?,z]) (aJ2 (by rw[q];decide) _ (by rw[q];omega))
  .cases h
def vV:List A:=[.int .u8 0,.int .u8 0,.int .u8 0,.int .u8 0,.int .u8 0,.int .u8 0,.int .u8 0,.int .u8 0,.int .u8 0,.int .u8 1,.int .u8 1,.int .u8 1,.int .u8 1,.int .u8 1,.int .u8 0,.int .u8 0,.int .u8 0,.int .u8 0,.int .u8 0,.int .u8 0,.int .u8 0,.int .u8 0,.int .u8 0,.int .u8 0,.int .u8 0,.int .u8 0,.int .u8 0,.int .u8 0,.int .u8 0,.int .u8 0,.int .u8 0,.int .u8 0,.int .u8 1,.int .u8 0,.int .u8 0,.int .u8 0,.int .u8 0,.int .u8 0,.int .u8 0,.int .u8 0,.int .u8 0,.int .u8 0,.int .u8 0,.int .u8 0,.int .u8 0,.int .u8 0,.int .u8 0,.int .u8 0,.int .u8 0,.int .u8 0,.int .u8 0,.int .u8 0,.int .u8 0,.int .u8 0,.int .u8 0,.int .u8 0,.int .u8 0,.int .u8 0,.int .u8 0,.int .u8 0,.int .u8 0,.int .u8 0,.int .u8 0,.int .u8 0,.int .u8 0,.int .u8 0,.int .u8 0,.int .u8 0,.int .u8 0,.int .u8 0,.int .u8 0,.int .u8 0,.int .u8 0,.int .u8 0,.int .u8 0,.int .u8 0,.int .u8 0,.int .u8 0,.int .u8 0,.int .u8 0,.int .u8 0,.int .u8 0,.int .u8 0,.int .u8 0,.int .u8 0,.int .u8 0,.int .u8 0,.int .u8 0,.int .u8 0,.int .u8 0,.int .u8 0,.int .u8 0,.int .u8 0,.int .u8 0,.int .u8 0,.int .u8 0,.int .u8 0,.int .u8 0,.int .u8 0,.int .u8 0,.int .u8 0,.int .u8 0,.int .u8 0,.int .u8 0,.int .u8 0,.int .u8 0,.int .u8 0,.int .u8 0,.int .u8 0,.int .u8 0,.int .u8 0,.int .u8 0,.int .u8 0,.int .u8 0,.int .u8 0,.int .u8 0,.int .u8 0,.int .u8 0,.int .u8 0,.int .u8 0,.int .u8 0,.int .u8 0,.int .u8 0,.int .u8 0,.int .u8 0,.int .u8 0,.int .u8 0,.int .u8 0,.int .u8 0,.int .u8 0,.int .u8 0,.int .u8 0,.int .u8 0,.int .u8 0,.int .u8 0,.int .u8 0,.int .u8 0,.int .u8 0,.int .u8 0,.int .u8 0,.int .u8 0,.int .u8 0,.int .u8 0,.int .u8 0,.int .u8 0,.int .u8 0,.int .u8 0,.int .u8 0,.int .u8 0,.int .u8 0,.int .u8 0,.int .u8 0,.int .u8 0,.int .u8 0,.int .u8 0,.int .u8 0,.int .u8 0,.int .u8 0,.int .u8 0,.int .u8 0,.int .u8 0,.int .u8 0,.int .u8 0,.int .u8 0,.int .u8 0,.int .u8 0,.int .u8 0,.int .u8 0,.int .u8 0,.int .u8 0,.int .u8 0,.int .u8 0,.int .u8 0,.int .u8 0,.int .u8 0,.int .u8 0,.int .u8 0,.int .u8 0,.int .u8 0,.int .u8 0,.int .u8 0,.int .u8 0,.int .u8 0,.int .u8 0,.int .u8 0,.int .u8 0,.int .u8 0,.int .u8 0,.int .u8 0,.int .u8 0,.int .u8 0,.int .u8 0,.int .u8 0,.int .u8 0,.int .u8 0,.int .u8 0,.int .u8 0,.int .u8 0,.int .u8 0,.int .u8 0,.int .u8 0,.int .u8 0,.int .u8 0,.int .u8 0,.int .u8 0,.int .u8 0,.int .u8 0,.int .u8 0,.int .u8 0,.int .u8 0,.int .u8 0,.int .u8 0,.int .u8 0,.int .u8 0,.int .u8 0,.int .u8 0,.int .u8 0,.int .u8 0,.int .u8 0,.int .u8 0,.int .u8 0,.int .u8 0,.int .u8 0,.int .u8 0,.int .u8 0,.int .u8 0,.int .u8 0,.int .u8 0,.int .u8 0,.int .u8 0,.int .u8 0,.int .u8 0,.int .u8 0,.int .u8 0,.int .u8 0,.int .u8 0,.int .u8 0,.int .u8 0,.int .u8 0,.int .u8 0,.int .u8 0,.int .u8 0,.int .u8 0,.int .u8 0,.int .u8 0,.int .u8 0,.int .u8 0,.int .u8 0,.int .u8 0,.int .u8 0,.int .u8 0,.int .u8 0,.int .u8 0,.int .u8 0,.int .u8 0,.int .u8 0]
def vZ:List A:=[.int .u64 1,.int .u64 10,.int .u64 100,.int .u64 1000,.int .u64 10000,.int .u64 100000,.int .u64 1000000,.int .u64 10000000,.int .u64 100000000,.int .u64 1000000000,.int .u64 10000000000,.int .u64 100000000000,.int .u64 1000000000000,.int .u64 10000000000000,.int .u64 100000000000000,.int .u64 1000000000000000,.int .u64 10000000000000000,.int .u64 100000000000000000,.int .u64 1000000000000000000,.int .u64 10000000000000000000]
def glS:Nat->Option (List A)
 | 0=>some vV
 | 3=>some vZ
 | _=>none
theorem aN8(a b e:TypeId)(h:zI a b=some e):(TTc e).map (·.sz)=some (prog.cellsOf e):=by
 have m:=aCZ.2.2.2.1;unfold zI at h;split at h
 .cases h;rw[m];rfl
 .split at h
  .cases h;rw[m];rfl
  .cases h
theorem aNX(t e:TypeId)(h:usS t=some e):prog.underlying t=some (.pointer e)/\prog.cellsOf e=1:=by
 unfold usS at h;split at h
 .rename_i m;obtain rfl:=nN m;cases h;exact aCZ.2.2.2.2
 .cases h
noncomputable def cx:Cx:={ P:=prog,det:=false,gl:=glS,tt:=TTc,htt:=aOH,cv:=zI,hcv:=aOc,hcs:=aN8,us:=usS,hus:=aNX,eq:=zH [4] [(51,[0,2,0,0]),(102,[2,2]),(195,[2,2])] [22,60,62,37] [189],heq:=aN4 aHA,nl:=λt=>[22,60,62,37].elem t,hnl:=λt q a n cap w op x y m=>⟨a.isNone,yJ (by have h:=aHA;simp only[aBh,dI,fR]at h;exact h.2.1 t (gQ q)) a n cap m x y⟩ }
@[go_sem] theorem aQU(t:TypeId):cx.nl t=[22,60,62,37].elem t:=rfl
@[go_sem] theorem aQT(t:TypeId)(a b:A):cx.eq t a b=zH [4] [(51,[0,2,0,0]),(102,[2,2]),(195,[2,2])] [22,60,62,37] [189] t a b:=rfl
@[go_sem] theorem aP0(s:St)(n:Nat)(e:TypeId)(sz:Nat)(ys:List A)(KV:St->A->Prop):lH cx s n e sz ys KV=newT cx s n e ys KV:=rfl
noncomputable def kA:Cx:={ cx with mu:=1 }
@[go_sem] theorem aMy(s:St)(n:Nat)(e:TypeId)(sz:Nat)(ys:List A)(KV:St->A->Prop):lH kA s n e sz ys KV=(0<n/\aBb s n e sz (cY ys) KV):=rfl
@[go_sem] theorem aQH:kA.tt=cx.tt:=rfl
@[go_sem] theorem aQu:kA.eq=cx.eq:=rfl
@[go_sem] theorem aQ0(t:TypeId):cx.cw t=none:=rfl
@[go_sem] theorem aQN:kA.cv=cx.cv:=rfl
@[go_sem] theorem aQI:kA.cw=cx.cw:=rfl
@[go_sem] theorem aQF:kA.us=cx.us:=rfl
@[go_sem] theorem aP4:kA.det=false:=rfl
@[go_sem] theorem aQx:kA.toCtx=cx.toCtx:=rfl
@[go_sem] theorem aQm:yZ cx=false:=rfl
@[go_sem] theorem aQf:yZ kA=false:=rfl
noncomputable def jZ:Cx:={ cx with mu:=2 }
@[go_sem] theorem aPx(s:St)(n:Nat)(e:TypeId)(sz:Nat)(ys:List A)(KV:St->A->Prop):lH jZ s n e sz ys KV=newT jZ s n e ys KV:=rfl
@[go_sem] theorem aQe:yZ jZ=true:=rfl
@[go_sem] theorem aQG:jZ.tt=cx.tt:=rfl
@[go_sem] theorem aQE:jZ.eq=cx.eq:=rfl
@[go_sem] theorem aQj:jZ.cv=cx.cv:=rfl
@[go_sem] theorem aQn:jZ.cw=cx.cw:=rfl
@[go_sem] theorem aQy:jZ.us=cx.us:=rfl
@[go_sem] theorem aQi:jZ.det=false:=rfl
@[go_sem] theorem aQp:jZ.toCtx=cx.toCtx:=rfl
attribute [go_sem] wI
theorem aM7{f:FuncId}{l:List A}{KV Kp:St->A->Prop}{s:St}(h:Den jZ f l KV Kp s):Den cx f l KV Kp s:=by assumption
theorem aNg{f:FuncId}{l:List A}{KV Kp:St->A->Prop}{s:St}(h:Den kA f l KV Kp s):Den cx f l KV Kp s:=by assumption
theorem aL2:cx.P.follows .mixedOrders=true:=by decide +kernel
section
@[go_sem] theorem ty0:cx.tt 1=some y1/\cx.tt 2=some y2/\cx.tt 3=some y2/\cx.tt 4=some y3/\cx.tt 5=some y4/\cx.tt 6=some y4/\cx.tt 7=some y5/\cx.tt 8=some y5/\cx.tt 9=some y6/\cx.tt 10=some y6/\cx.tt 11=some y6/\cx.tt 12=some y7:=⟨rfl,rfl,rfl,rfl,rfl,rfl,rfl,rfl,rfl,rfl,rfl,rfl⟩
@[go_sem] theorem ty1:cx.tt 13=some y8/\cx.tt 14=some y8/\cx.tt 15=some y9/\cx.tt 16=some y9/\cx.tt 17=some y9/\cx.tt 18=some y10/\cx.tt 19=some y10/\cx.tt 20=some wL/\cx.tt 21=some wP/\cx.tt 22=some y13/\cx.tt 23=some y14/\cx.tt 24=some y15:=⟨rfl,rfl,rfl,rfl,rfl,rfl,rfl,rfl,rfl,rfl,rfl,rfl⟩
@[go_sem] theorem ty2:cx.tt 25=some y16/\cx.tt 26=some y16/\cx.tt 27=some y17/\cx.tt 28=some y18/\cx.tt 29=some y19/\cx.tt 30=some y20/\cx.tt 31=some y20/\cx.tt 32=some y1/\cx.tt 33=some y1/\cx.tt 34=some y7/\cx.tt 35=some y1/\cx.tt 36=some y2:=⟨rfl,rfl,rfl,rfl,rfl,rfl,rfl,rfl,rfl,rfl,rfl,rfl⟩
@[go_sem] theorem ty3:cx.tt 37=some y21/\cx.tt 38=some y22/\cx.tt 39=some y22/\cx.tt 40=some y23/\cx.tt 41=some y23/\cx.tt 42=some y1/\cx.tt 43=some y24/\cx.tt 44=some y25/\cx.tt 45=some y26/\cx.tt 46=some y26/\cx.tt 47=some y1/\cx.tt 48=some y1:=⟨rfl,rfl,rfl,rfl,rfl,rfl,rfl,rfl,rfl,rfl,rfl,rfl⟩
@[go_sem] theorem ty4:cx.tt 49=some y2/\cx.tt 50=some y27/\cx.tt 51=some y27/\cx.tt 52=some y1/\cx.tt 54=some y1/\cx.tt 56=some y1/\cx.tt 57=some y1/\cx.tt 59=some y1/\cx.tt 60=some y28/\cx.tt 61=some y2/\cx.tt 62=some y29/\cx.tt 63=some y30:=⟨rfl,rfl,rfl,rfl,rfl,rfl,rfl,rfl,rfl,rfl,rfl,rfl⟩
@[go_sem] theorem ty5:cx.tt 64=some y30/\cx.tt 65=some y1/\cx.tt 66=some y31/\cx.tt 67=some y31/\cx.tt 68=some y32/\cx.tt 69=some y32/\cx.tt 70=some y33/\cx.tt 71=some y33/\cx.tt 72=some y1/\cx.tt 73=some y9/\cx.tt 74=some sL/\cx.tt 75=some sL:=⟨rfl,rfl,rfl,rfl,rfl,rfl,rfl,rfl,rfl,rfl,rfl,rfl⟩
@[go_sem] theorem ty6:cx.tt 76=some y1/\cx.tt 77=some y9/\cx.tt 78=some y9/\cx.tt 79=some y1/\cx.tt 80=some y35/\cx.tt 81=some y35/\cx.tt 82=some y1/\cx.tt 83=some y1/\cx.tt 85=some y1/\cx.tt 86=some y36/\cx.tt 87=some y1/\cx.tt 88=some y1:=⟨rfl,rfl,rfl,rfl,rfl,rfl,rfl,rfl,rfl,rfl,rfl,rfl⟩
@[go_sem] theorem ty7:cx.tt 89=some y1/\cx.tt 90=some y1/\cx.tt 91=some y1/\cx.tt 92=some y1/\cx.tt 93=some y1/\cx.tt 94=some y1/\cx.tt 95=some y1/\cx.tt 96=some y1/\cx.tt 97=some y1/\cx.tt 98=some y1/\cx.tt 99=some y1/\cx.tt 100=some y1:=⟨rfl,rfl,rfl,rfl,rfl,rfl,rfl,rfl,rfl,rfl,rfl,rfl⟩
@[go_sem] theorem ty8:cx.tt 101=some sJ/\cx.tt 102=some sJ/\cx.tt 103=some y1/\cx.tt 104=some y1/\cx.tt 105=some y1/\cx.tt 106=some y1/\cx.tt 107=some y1/\cx.tt 108=some y1/\cx.tt 109=some y1/\cx.tt 110=some y1/\cx.tt 111=some y38/\cx.tt 112=some y39:=⟨rfl,rfl,rfl,rfl,rfl,rfl,rfl,rfl,rfl,rfl,rfl,rfl⟩
@[go_sem] theorem ty9:cx.tt 113=some y40/\cx.tt 114=some y40/\cx.tt 115=some y1/\cx.tt 116=some y1/\cx.tt 117=some y1/\cx.tt 118=some y1/\cx.tt 119=some y1/\cx.tt 120=some y1/\cx.tt 121=some y1/\cx.tt 122=some y1/\cx.tt 123=some y1/\cx.tt 125=some y1:=⟨rfl,rfl,rfl,rfl,rfl,rfl,rfl,rfl,rfl,rfl,rfl,rfl⟩
@[go_sem] theorem aRa:cx.tt 126=some y1/\cx.tt 127=some y1/\cx.tt 128=some y1/\cx.tt 129=some y1/\cx.tt 130=some y9/\cx.tt 132=some y1/\cx.tt 133=some y1/\cx.tt 134=some y1/\cx.tt 135=some y1/\cx.tt 136=some y41/\cx.tt 137=some y1/\cx.tt 138=some y1:=⟨rfl,rfl,rfl,rfl,rfl,rfl,rfl,rfl,rfl,rfl,rfl,rfl⟩
@[go_sem] theorem aQ7:cx.tt 139=some y1/\cx.tt 140=some y1/\cx.tt 141=some y1/\cx.tt 142=some y1/\cx.tt 143=some y42/\cx.tt 144=some y42/\cx.tt 145=some y43/\cx.tt 146=some y1/\cx.tt 149=some y1/\cx.tt 150=some y1/\cx.tt 151=some y1/\cx.tt 152=some y1:=⟨rfl,rfl,rfl,rfl,rfl,rfl,rfl,rfl,rfl,rfl,rfl,rfl⟩
@[go_sem] theorem aRd:cx.tt 153=some y44/\cx.tt 154=some y1/\cx.tt 156=some y1/\cx.tt 157=some y45/\cx.tt 159=some y1/\cx.tt 160=some y1/\cx.tt 161=some y1/\cx.tt 162=some y46/\cx.tt 163=some y1/\cx.tt 164=some y1/\cx.tt 165=some y1/\cx.tt 166=some y47:=⟨rfl,rfl,rfl,rfl,rfl,rfl,rfl,rfl,rfl,rfl,rfl,rfl⟩
@[go_sem] theorem aQ3:cx.tt 167=some y1/\cx.tt 168=some y1/\cx.tt 169=some y1/\cx.tt 170=some y48/\cx.tt 171=some y2/\cx.tt 172=some y49/\cx.tt 173=some y49/\cx.tt 174=some y50/\cx.tt 175=some y50/\cx.tt 176=some y1/\cx.tt 177=some y1/\cx.tt 178=some y2:=⟨rfl,rfl,rfl,rfl,rfl,rfl,rfl,rfl,rfl,rfl,rfl,rfl⟩
@[go_sem] theorem aRb:cx.tt 180=some y1/\cx.tt 181=some y1/\cx.tt 182=some y1/\cx.tt 184=some y1/\cx.tt 185=some y1/\cx.tt 186=some y51/\cx.tt 187=some y1/\cx.tt 188=some y7/\cx.tt 189=some y9/\cx.tt 190=some y1/\cx.tt 191=some y1/\cx.tt 192=some y1:=⟨rfl,rfl,rfl,rfl,rfl,rfl,rfl,rfl,rfl,rfl,rfl,rfl⟩
@[go_sem] theorem aQ8:cx.tt 193=some y52/\cx.tt 194=some sJ/\cx.tt 195=some sJ/\cx.tt 196=some y1/\cx.tt 197=some y1/\cx.tt 199=some y1/\cx.tt 200=some y1/\cx.tt 202=some y1/\cx.tt 203=some y1/\cx.tt 204=some y1/\cx.tt 205=some y1/\cx.tt 206=some y1:=⟨rfl,rfl,rfl,rfl,rfl,rfl,rfl,rfl,rfl,rfl,rfl,rfl⟩
@[go_sem] theorem aRe:cx.tt 207=some y9/\cx.tt 208=some y53/\cx.tt 209=some y1/\cx.tt 210=some y1/\cx.tt 211=some y1/\cx.tt 212=some y1/\cx.tt 213=some y1/\cx.tt 214=some y1/\cx.tt 215=some y1/\cx.tt 216=some y1/\cx.tt 217=some y7/\cx.tt 218=some y1:=⟨rfl,rfl,rfl,rfl,rfl,rfl,rfl,rfl,rfl,rfl,rfl,rfl⟩
@[go_sem] theorem aQ5:cx.tt 219=some y1/\cx.tt 220=some y1/\cx.tt 221=some y9/\cx.tt 222=some y1/\cx.tt 223=some y1/\cx.tt 225=some y1/\cx.tt 226=some y1/\cx.tt 227=some y1/\cx.tt 228=some y1/\cx.tt 229=some y9/\cx.tt 230=some y55/\cx.tt 231=some y55:=⟨rfl,rfl,rfl,rfl,rfl,rfl,rfl,rfl,rfl,rfl,rfl,rfl⟩
@[go_sem] theorem aQ4:cx.tt 232=some y1/\cx.tt 233=some y1/\cx.tt 234=some y1/\cx.tt 235=some y1/\cx.tt 236=some y9/\cx.tt 237=some y1/\cx.tt 238=some y1/\cx.tt 239=some y1/\cx.tt 240=some y9/\cx.tt 241=some y1/\cx.tt 242=some y1/\cx.tt 243=some y9:=⟨rfl,rfl,rfl,rfl,rfl,rfl,rfl,rfl,rfl,rfl,rfl,rfl⟩
@[go_sem] theorem aQ6:cx.tt 245=some y1/\cx.tt 246=some y56/\cx.tt 247=some sL/\cx.tt 248=some sL/\cx.tt 249=some y1/\cx.tt 250=some y9/\cx.tt 252=some y1/\cx.tt 253=some y1/\cx.tt 254=some y1/\cx.tt 255=some y1/\cx.tt 256=some y1/\cx.tt 257=some y1:=⟨rfl,rfl,rfl,rfl,rfl,rfl,rfl,rfl,rfl,rfl,rfl,rfl⟩
@[go_sem] theorem aRg:cx.tt 258=some y1/\cx.tt 259=some y1/\cx.tt 260=some y57/\cx.tt 261=some y58/\cx.tt 262=some y59/\cx.tt 263=some y59/\cx.tt 264=some y60/\cx.tt 265=some y61/\cx.tt 266=some y61/\cx.tt 267=some y1/\cx.tt 268=some y62/\cx.tt 269=some y62:=⟨rfl,rfl,rfl,rfl,rfl,rfl,rfl,rfl,rfl,rfl,rfl,rfl⟩
@[go_sem] theorem aRf:cx.tt 270=some y1/\cx.tt 271=some y1/\cx.tt 272=some y1/\cx.tt 273=some y1/\cx.tt 274=some y9/\cx.tt 275=some y9/\cx.tt 276=some y1/\cx.tt 277=some wL/\cx.tt 278=some wL/\cx.tt 280=some y1/\cx.tt 282=some y1/\cx.tt 283=some y1:=⟨rfl,rfl,rfl,rfl,rfl,rfl,rfl,rfl,rfl,rfl,rfl,rfl⟩
@[go_sem] theorem aQ9:cx.tt 284=some y1/\cx.tt 288=some y1/\cx.tt 289=some y1/\cx.tt 290=some y9/\cx.tt 291=some y1/\cx.tt 292=some y63/\cx.tt 293=some y1/\cx.tt 294=some y64/\cx.tt 296=some y1/\cx.tt 298=some y1/\cx.tt 299=some y1/\cx.tt 300=some y2:=⟨rfl,rfl,rfl,rfl,rfl,rfl,rfl,rfl,rfl,rfl,rfl,rfl⟩
@[go_sem] theorem aRc:cx.tt 302=some y1/\cx.tt 303=some y9/\cx.tt 304=some y1/\cx.tt 305=some y1/\cx.tt 306=some y1/\cx.tt 307=some y65/\cx.tt 309=some y1/\cx.tt 311=some y1/\cx.tt 312=some y66/\cx.tt 313=some y66/\cx.tt 314=some y1/\cx.tt 315=some y67:=⟨rfl,rfl,rfl,rfl,rfl,rfl,rfl,rfl,rfl,rfl,rfl,rfl⟩
@[go_sem] theorem aRi:cx.tt 316=some y67/\cx.tt 317=some y68/\cx.tt 318=some y1/\cx.tt 319=some y9/\cx.tt 320=some y9/\cx.tt 321=some y69/\cx.tt 322=some y69/\cx.tt 323=some y70/\cx.tt 325=some y71/\cx.tt 326=some y71/\cx.tt 327=some y72/\cx.tt 330=some y4:=⟨rfl,rfl,rfl,rfl,rfl,rfl,rfl,rfl,rfl,rfl,rfl,rfl⟩
@[go_sem] theorem aRh:cx.tt 331=some y4/\cx.tt 332=some y1/\cx.tt 333=some wP/\cx.tt 334=some wP/\cx.tt 335=some y73/\cx.tt 336=some y73/\cx.tt 337=some y9:=⟨rfl,rfl,rfl,rfl,rfl,rfl,rfl⟩
end
end Go.AV
