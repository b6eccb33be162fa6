/-
  Of DefParses.
-/
import Derived.Test.YtamikhobdffnfaaGreatDoorPa04
import Derived.Deep.LoopGhost
set_option linter.all false
set_option maxRecDepth 99999
set_option maxHeartbeats 0
namespace Go.AV
open Go Go.Proofs Tryz
section
section
variable {C:Cx} {F:Fr} {g:Gh} {s:St} {w:World} {ρ:Operand→Option A} {ev:Operand→Value}
theorem aF0 {t:TypeId} {v:Value} (P:Program) (w:World):(Instr.panic (.iface t v)).run P w=.halt (.panic (.iface t v)) w:=rfl
theorem aJt {KV Kp:St→A→Prop} {op:Op} {ty:TypeId} {dst:Option Tmp} {pos:String} {after:Array Edge} {gd:Option (Nat × Bool)}
  (hR:R C.toCtx F g s w) (he:∀ x a,ρ x=some a→Rz g a (ev x)) (h:aX C op ρ KV Kp s) :
  OutV C F g KV Kp ((execOp ev ⟨dst,op,ty,pos,after,gd⟩).run C.P w):=by
 cases op
 case load=>exact aPU hR he h
 case store=>exact aOZ hR he h
 case alloc=>exact aO1 hR h
 case box=>exact aRp hR he h
 case buildSlice t len parts =>
  simp only[aX] at h;split at h
  ·exact pE (rW hR he h)
  ·rename_i ho;rcases h with h|h
   ·exact pE (rW hR he h)
   ·refine aL6 hR he ?_ h;unfold aAT at ho;split at ho
    ·cases ho
    ·assumption
 case range=>exact aOn hR he h
 case makeSlice=>exact aLn hR he h
 case convert=>exact aM2 hR he h
 case next=>exact aPz hR he h
 case panic x =>
  simp only[aX] at h;split at h
  ·rename_i t a hx;obtain ⟨v,hv,hr⟩:=(he x _ hx).iface_inv;simp only[execOp,hv,bH,aF0,Result.andThen_halt];exact ⟨g,_,s,fU g,hR,.iface t a v hr,h⟩
  ·exact h.elim
 case call c =>
  obtain ⟨cal,args,ats⟩:=c;cases cal with
  | value f =>
   simp only[aX] at h;split at h
   ·rename_i fid first caps az hf has
    obtain ⟨us,vs,hv,r1,r2⟩:=(he f _ hf).fn_inv;have r3:=aBK he has;have hd:=h F g w _ hR ((r1.append r3).append r2);have e1:args.map ev=(args.toList.map ev).toArray:=by rw[← kJ,Array.toArray_toList]
    simp only[execOp,resolve,hv,Deferred.ofValue,bH,bX,bJ,invoke,e1];simpa using hd
   ·exact h.elim
  | invoke r m=>exact pE (rW hR he h)
  | builtin b =>
   by_cases hb:b=.append
   ·subst hb;obtain ⟨al⟩:=args;obtain ⟨tl⟩:=ats
    match al,tl,h with
    | [x,y],[t,u],h=>exact aNX hR he h
    | [],_,h=>simp only[aX] at h
    | [_],_,h=>simp only[aX] at h
    | _::_::_::_,_,h=>simp only[aX] at h
    | [_,_],[],h=>simp only[aX] at h
    | [_,_],[_],h=>simp only[aX] at h
    | [_,_],_::_::_::_,h=>simp only[aX] at h
   ·by_cases hu:b=.unsafeString
    ·subst hu;obtain ⟨al⟩:=args;obtain ⟨tl⟩:=ats
     match al,tl,h with
     | [x,y],[t,u],h=>exact aPq hR he h
     | [],_,h=>simp only[aX] at h
     | [_],_,h=>simp only[aX] at h
     | _::_::_::_,_,h=>simp only[aX] at h
     | [_,_],[],h=>simp only[aX] at h
     | [_,_],[_],h=>simp only[aX] at h
     | [_,_],_::_::_::_,h=>simp only[aX] at h
    by_cases hp:b=.panic
    ·subst hp;simp only[aX] at h;split at h
     ·rename_i x hx;split at h
      ·rename_i t a hxa;obtain ⟨v,hv,hr⟩:=(he x _ hxa).iface_inv;obtain ⟨al⟩:=args;simp only at hx;subst hx;simp only[execOp,resolve,invoke,builtin,bH,bX,bJ,kJ,bK,bQ,hv,aDx,nU,kI,Option.getD_some,aF0,Result.andThen_halt];exact ⟨g,_,s,fU g,hR,.iface t a v hr,h⟩
      ·exact h.elim
     ·exact h.elim
    ·have h':bF C (.call ⟨.builtin b,args,ats⟩) ρ (KV s):=by
      cases b<;>first|exact absurd rfl hb|exact absurd rfl hp|exact absurd rfl hu|exact h
     exact pE (rW hR he h')
 case binOp op t x y yt =>
  cases op
  case eql =>
   simp only[aX] at h;split at h
   ·rename_i tk ha hb;rcases h with h|⟨hn,ht,hf⟩
    ·exact pE (rW hR he h)
    ·refine pE (s:=s) ?_;have ra:=he x _ ha;have rb:=he y _ hb;simp only[execOp];obtain ⟨ad,cap,hv,_⟩:=ra.list_inv;rw[hv,rb.nils_inv];obtain ⟨r,h1,h2⟩:=C.hnl t hn ad _ cap w .eql x y (.inl rfl);rw[if_pos rfl] at h2;have hK:KV s (.bool r):=by cases r<;>assumption
     refine eW (v:=.bool r) hR ?_ (.bool _) hK;rw[bH,h1,bJ,h2]
   ·exact pE (rW hR he h)
  all_goals exact pE (rW hR he h)
 all_goals exact pE (rW hR he h)
end
structure EnvOk (g:Gh) (n:Nat) (e:Env) (tmps:Array Value):Prop where
 size:tmps.size=n
 val:∀ t a,e.get t=some a→∃ v,tmps[t]?=some v∧Rz g a v
theorem EnvOk.mono {g g':Gh} (hg:g.le g') {n:Nat} {e:Env} {tmps:Array Value} (h:EnvOk g n e tmps):EnvOk g' n e tmps :=
 ⟨h.size,fun t a ha=>let ⟨v,h1,h2⟩:=h.val t a ha;⟨v,h1,h2.mono hg⟩⟩
theorem EnvOk.nil {g:Gh} {n:Nat} {tmps:Array Value} (h:tmps.size=n):EnvOk g n [] tmps:=⟨h,fun t a ha=>by cases ha⟩
theorem EnvOk.sub {g:Gh} {n:Nat} {e e':Env} {tmps:Array Value} (h:EnvOk g n e tmps) (he:∀ t a,e'.get t=some a→e.get t=some a):EnvOk g n e' tmps :=
 ⟨h.size,fun t a ha=>h.val t a (he t a ha)⟩
theorem EnvOk.put {g:Gh} {n:Nat} {e:Env} {a:Act} {d:Nat} {x:A} {v:Value} (h:EnvOk g n e a.tmps) (hd:d<n) (hv:Rz g x v) :
  EnvOk g n (e.put d x) (a.put (some d) v).tmps:=by
 refine ⟨by simp[Act.put,h.size],fun t y hy=>?_⟩;rw[lH] at hy;show ∃ u,(a.tmps.setIfInBounds d v)[t]?=some u∧_
 by_cases ht:d=t
 ·subst ht;simp only[↓reduceIte,bM] at hy;subst hy;exact ⟨v,by simp[Array.getElem?_setIfInBounds,h.size,hd],hv⟩
 ·simp only[ht,↓reduceIte] at hy;obtain ⟨u,h1,h2⟩:=h.val t y hy;exact ⟨u,by rw[aA2 ht];exact h1,h2⟩
theorem EnvOk.del {g:Gh} {n:Nat} {e:Env} {a:Act} {d:Nat} {v:Value} (h:EnvOk g n e a.tmps) :
  EnvOk g n (e.del d) (a.put (some d) v).tmps:=by
 refine ⟨by simp[Act.put,h.size],fun t y hy=>?_⟩;rw[Env.get_del] at hy;show ∃ u,(a.tmps.setIfInBounds d v)[t]?=some u∧_
 by_cases ht:d=t
 ·simp[ht] at hy
 ·simp only[ht,↓reduceIte] at hy;obtain ⟨u,h1,h2⟩:=h.val t y hy;exact ⟨u,by rw[aA2 ht];exact h1,h2⟩
theorem EnvOk.oper {C:Cx} {F:Fr} {g:Gh} {s:St} {w:World} {n:Nat} {e:Env} {a:Act} (hR:R C.toCtx F g s w) (h:EnvOk g n e a.tmps) :
  ∀ x v,eF C e x=some v→Rz g v (a.eval x):=by
 intro x v hv;cases x with
 | tmp t =>
  obtain ⟨u,h1,h2⟩:=h.val t v hv;simpa [Act.eval,aDx,h1] using h2
 | const c=>exact aMG hv
 | global k =>
  simp only[eF] at hv;split at hv
  ·rename_i cs hcs;simp only[bM] at hv;subst hv;obtain ⟨pre,_,_,_,hp,hl,h1,hr⟩:=hR.gpi hcs;exact .eptr cs 0 k 0 pre hp (by omega) h1 (fun j c v hc hv=>hr j c v hc (by simpa using hv))
  ·simp at hv
 | func f =>
  simp only[eF,bM] at hv;subst hv;exact .fn f [] [] [] [] rfl rfl (by simp) (by simp)
inductive XK where
 | normal
 | exit (id:Nat)
 | goto (l:Nat)
 | ret
 | panic (a:A)
def XRz (g:Gh):XK→Exit→Prop
 | .normal,.normal=>True
 | .exit i,.exit j=>i=j
 | .goto i,.goto j=>i=j
 | .ret,.ret=>True
 | .panic a,.panic lQ=>∃ v,lQ=[{ v:=v,recovered:=false }]∧Rz g a v
 | _,_=>False
def Post (C:Cx) (F:Fr) (g:Gh) (n:Nat) (D:List Deferred) (Q:XK→Env→St→Prop) (ex:Exit) (a:Act) (w:World):Prop :=
 ∃ g' e s x,g.le g'∧R C.toCtx F g' s w∧EnvOk g' n e a.tmps∧a.defers=D∧XRz g' x ex∧Q x e s
def Ex (C:Cx) (n:Nat) (c:Code) (Q:XK→Env→St→Prop) (e:Env) (s:St):Prop :=
 ∀ F g w a,R C.toCtx F g s w→EnvOk g n e a.tmps→c.wp C.P (Post C F g n a.defers Q) a w
theorem Post.mono {C:Cx} {F:Fr} {g g':Gh} (hg:g.le g') {n:Nat} {D:List Deferred} {Q Q':XK→Env→St→Prop} {ex:Exit} {a:Act} {w:World}
  (h:Post C F g' n D Q ex a w) (hQ:∀ x e s,Q x e s→Q' x e s):Post C F g n D Q' ex a w:=by
 obtain ⟨g2,e,s,x,h1,h2,h3,h4,h5,h6⟩:=h;exact ⟨g2,e,s,x,hg.trans h1,h2,h3,h4,h5,hQ _ _ _ h6⟩
def cG (n:Nat) (dst:Option Tmp) (K:Env→St→Prop) (e:Env) (s:St) (v:A):Prop :=
 match dst with
 | some d=>d<n∧K (e.put d v) s
 | none=>K e s
def jV:List (Option Tmp)→Nat→Option Tmp
 | [],_=>none
 | d::_,0=>d
 | _::r,n+1=>jV r n
def fT (C:Cx) (n:Nat) (ds:List (Option Tmp)):List Oper→(Env→St→Prop)→(St→A→Prop)→Env→St→Prop
 | [],K,_,e,s=>K e s
 | ⟨dst,op,_,_,_,none⟩::r,K,Kp,e,s=>aX C op (eF C e) (cG n dst (fT C n ds r K Kp) e) Kp s
 | ⟨dst,op,_,_,_,some (j,want)⟩ :: r,K,Kp,e,s =>
  match jV ds j with
  | none=>False
  | some t=>match e.get t with
   | some (.bool b) =>
    match b with
    | true=>match want with
     | true=>aX C op (eF C (e.put t (.bool true))) (cG n dst (fT C n ds r K Kp) (e.put t (.bool true))) Kp s
     | false=>cG n dst (fT C n ds r K Kp) (e.put t (.bool true)) s (.tuple [])
    | false=>match want with
     | false=>aX C op (eF C (e.put t (.bool false))) (cG n dst (fT C n ds r K Kp) (e.put t (.bool false))) Kp s
     | true=>cG n dst (fT C n ds r K Kp) (e.put t (.bool false)) s (.tuple [])
   | some (.tuple _)=>cG n dst (fT C n ds r K Kp) e s (.tuple [])
   | _=>False
end
section
def Env.ge (e e':Env):Prop:=∀ t a,e'.get t=some a→e.get t=some a
theorem Env.ge.refl (e:Env):e.ge e:=fun _ _ h=>h
theorem aGm (V:List Nat) (e:Env):e.ge (e.keep V):=fun t a h=>aK4 V e t a h
def Env.rem (ds:List (Option Tmp)):Env→Env
 | []=>[]
 | (k,u)::e=>if ds.elem (some k) then Env.rem ds e else (k,u)::Env.rem ds e
theorem nX (ds:List (Option Tmp)):∀ (e:Env) (t:Nat),(e.rem ds).get t=if ds.elem (some t) then none else e.get t
 | [],t=>by simp[Env.rem,Env.get]
 | (k,u)::e,t=>by
  have ih:=nX ds e t;simp only[Env.rem];by_cases hk:ds.elem (some k)=true
  ·rw[if_pos hk,ih];by_cases ht:k=t
   ·subst ht;simp only[hk,↓reduceIte]
   ·simp only[Env.get,ht,↓reduceIte]
  ·rw[if_neg hk];by_cases ht:k=t
   ·subst ht;rw[if_neg hk];simp only[Env.get,↓reduceIte]
   ·simp only[Env.get,ht,↓reduceIte,ih]
theorem EnvOk.other {g:Gh} {n:Nat} {e0:Env} {a:Act} {dst:Option Tmp} {v:Value} (h:EnvOk g n e0 a.tmps) (hd:∀ d,dst=some d→e0.get d=none):EnvOk g n e0 (a.put dst v).tmps:=by
 cases dst with
 | none=>exact h
 | some d =>
  have h0:=hd d rfl;have e1:(a.put (some d) v).tmps=a.tmps.setIfInBounds d v:=rfl;refine ⟨by rw[e1];simpa using h.size,fun t x hx=>?_⟩;obtain ⟨u,h1,h2⟩:=h.val t x hx;have:d≠t:=by rintro rfl;rw[h0] at hx;cases hx
  exact ⟨u,by rw[e1,aA2 this];exact h1,h2⟩
section
variable {C:Cx} {F:Fr} {g g0:Gh} {s:St} {w:World} {n:Nat}
theorem aBl (a:Act) (d:Option Tmp) (v:Value):(a.put d v).defers=a.defers:=by cases d<;>rfl
theorem R.unframe (h:R C.toCtx F g s w) {F0:Fr} (hF:∀ k o,F0 k=some o→F k=some o) (hG:∀ k o p,F k=some (o,some p)→F0 k=some (o,some p)):R C.toCtx F0 g s w where
 env:=h.env
 obj:=fun b o hb=>by
  obtain ⟨k,h1,h2,h3,h4⟩:=h.obj b o hb;refine ⟨k,h1,h2,h3,?_⟩;cases hk:F0 k with
  | none=>rfl
  | some x=>rw[hF k x hk] at h4;cases h4
 tok:=fun t n e ht=>by
  obtain ⟨v,xs,h1,h2,h3,h4⟩:=h.tok t n e ht;refine ⟨v,xs,h1,h2,h3,fun b hb=>⟨(h4 b hb).1,?_⟩⟩;cases hk:F0 b with
  | none=>rfl
  | some x=>have:=(h4 b hb).2;rw[hF b x hk] at this;cases this
 sep:=h.sep
 pis:=h.pis
 frm:=fun b o hb=>h.frm b o (hF b o hb)
 glb:=fun b cs hb=>by
  obtain ⟨pre,ty,fr,hp,h1⟩:=h.glb b cs hb;exact ⟨pre,ty,fr,hG _ _ _ hp,h1⟩
 fsh:=h.fsh
 bet:=h.bet
 inj:=h.inj
 dtm:=h.dtm
 lst:=h.lst
 bfr:=fun b k hb=>by
  cases hk:F0 k with
  | none=>rfl
  | some x=>have:=h.bfr b k hb;rw[hF k x hk] at this;cases this
theorem aFZ {F0:Fr} (hF:∀ k o,F0 k=some o→F k=some o) (hG:∀ k o p,F k=some (o,some p)→F0 k=some (o,some p)) {o:Oper} {a:Act} {e e0:Env} {D:List Deferred} {K:Env→St→Prop} {Kp:St→A→Prop} {Q:XK→Env→St→Prop}
  {next:Act→World→Prop} (hg:g0.le g) (he:EnvOk g n e a.tmps) (he0:EnvOk g n e0 a.tmps) (hds:∀ d,o.dst=some d→e0.get d=none) (hD:a.defers=D)
  (hnext:∀ g' v w' e' s',g.le g'→R C.toCtx F g' s' w'→EnvOk g' n e' (a.put o.dst v).tmps→EnvOk g' n e0 (a.put o.dst v).tmps→(a.put o.dst v).defers=D→K e' s'→next (a.put o.dst v) w')
  (hKp:∀ s v,Kp s v→Q (.panic v) e0 s) {r:Result Next}
  (h:OutV C F g (cG n o.dst K e) Kp r):o.upon C.P a next (Post C F0 g0 n D Q) r:=by
 have hput:∀ g' v av s' w',g.le g'→R C.toCtx F g' s' w'→Rz g' av v→cG n o.dst K e s' av→next (a.put o.dst v) w':=by
  intro g' v av s' w' h1 h2 h3 h4;have he':=he.mono h1;unfold cG at h4;cases hd:o.dst with
  | none=>rw[hd] at h4;rw[hd] at hnext;exact hnext g' v w' e s' h1 h2 he' (he0.mono h1) hD h4
  | some d =>
   rw[hd] at h4;rw[hd] at hnext;exact hnext g' v w' _ s' h1 h2 (he'.put h4.1 h3) ((he0.mono h1).other fun d' hd'=>by cases hd';exact hds d hd) (by rw[aBl];exact hD) h4.2
 have hpan:∀ g' v av s' w',g.le g'→R C.toCtx F g' s' w'→Rz g' av v→Kp s' av→Post C F0 g0 n D Q (.panic [{ v:=v,recovered:=false }]) a w' :=
  fun g' v av s' w' h1 h2 h3 h4=>⟨g',e0,s',.panic av,hg.trans h1,h2.unframe hF hG,he0.mono h1,hD,⟨v,rfl,h3⟩,hKp _ _ h4⟩
 cases r with
 | ok x w' =>
  cases x<;>simp only[OutV] at h
  case value v =>
   obtain ⟨g',av,s',h1,h2,h3,h4⟩:=h;exact hput g' v av s' w' h1 h2 h3 h4
  case skip =>
   obtain ⟨g',s',h1,h2,h3⟩:=h;exact hput g' undef (.tuple []) s' w' h1 h2 (.tuple [] [] rfl (by simp)) h3
  case enter f args =>
   refine Calls.mono h fun en w'' hp=>?_
   cases en with
   | returned v=>obtain ⟨g',av,s',h1,h2,h3,h4⟩:=hp;exact hput g' v av s' w'' h1 h2 h3 h4
   | panicked lQ=>obtain ⟨g',av,v,s',rfl,h1,h2,h3,h4⟩:=hp;exact hpan g' v av s' w'' h1 h2 h3 h4
   | outgrown=>exact hp.elim
 | halt x w' =>
  cases x<;>simp only[OutV] at h
  obtain ⟨g',av,s',h1,h2,h3,h4⟩:=h;exact hpan g' _ av s' w' h1 h2 h3 h4
theorem aEy (ops:Array Oper):∀ (j:Nat),jV (ops.toList.map (·.dst)) j=(ops[j]?).bind (·.dst):=by
 obtain ⟨l⟩:=ops
 induction l with
 | nil=>intro j;simp[jV]
 | cons o l ih =>
  intro j;cases j with
  | zero=>simp[jV]
  | succ j=>simpa [jV] using ih j
theorem aGB {ops:Array Oper} {j t:Nat} {e:Env} {b:Bool} {tmps:Array Value} (hd:jV (ops.toList.map (·.dst)) j=some t)
  (he:EnvOk g n e tmps) (hb:e.get t=some (.bool b)):yielded ops tmps j=some b:=by
 obtain ⟨v,h1,h2⟩:=he.val t _ hb;rw[aEy] at hd;simp[yielded,hd,h1,h2.bool_inv]
theorem aF1 {ops:Array Oper} {j t:Nat} {e:Env} {l:List A} {tmps:Array Value} (hd:jV (ops.toList.map (·.dst)) j=some t)
  (he:EnvOk g n e tmps) (hb:e.get t=some (.tuple l)):yielded ops tmps j=none:=by
 obtain ⟨v,h1,h2⟩:=he.val t _ hb;obtain ⟨vs,rfl,_⟩:=h2.tuple_inv;rw[aEy] at hd;simp[yielded,hd,h1]
theorem aI6 {ops:Array Oper} {e0:Env} {D:List Deferred} {K:Env→St→Prop} {Kp:St→A→Prop} {Q:XK→Env→St→Prop}
  (hK:∀ e s,K e s→∃ e',e.ge e'∧Q .normal e' s) (hKp:∀ s v,Kp s v→Q (.panic v) e0 s) :
  ∀ (l:List Oper) (g:Gh) (e:Env) (s:St) (a:Act) (w:World),(∀ o,o∈l→∀ d,o.dst=some d→e0.get d=none)→g0.le g→R C.toCtx F g s w→EnvOk g n e a.tmps→EnvOk g n e0 a.tmps→a.defers=D →
   fT C n (ops.toList.map (·.dst)) l K Kp e s→wpList C.P ops (Post C F g0 n D Q) l a w
 | [],g,e,s,a,w,hds,hg,hR,he,he0,hD,h=>by
  obtain ⟨e',h1,h2⟩:=hK _ _ h;exact ⟨g,e',s,.normal,hg,hR,he.sub h1,hD,trivial,h2⟩
 | ⟨dst,op,ty,pos,after,gd⟩ :: r,g,e,s,a,w,hds,hg,hR,he,he0,hD,h => by
  have hd0:∀ d,dst=some d→e0.get d=none:=hds ⟨dst,op,ty,pos,after,gd⟩ (by simp)
  have hdr:∀ o,o∈r→∀ d,o.dst=some d→e0.get d=none:=fun o ho=>hds o (by simp[ho])
  have ih:=aI6 (ops:=ops) (D:=D) hK hKp r
  have run:∀ e',EnvOk g n e' a.tmps→aX C op (eF C e') (cG n dst (fT C n (ops.toList.map (·.dst)) r K Kp) e') Kp s →
    (⟨dst,op,ty,pos,after,gd⟩:Oper).wp C.P a w (wpList C.P ops (Post C F g0 n D Q) r) (Post C F g0 n D Q):=by
   intro e' he' hev;have:=aJt (ev:=a.eval) (ty:=ty) (dst:=dst) (pos:=pos) (after:=after) (gd:=gd) hR (he'.oper hR) hev;exact aFZ (fun _ _ h=>h) (fun _ _ _ h=>h) (o:=⟨dst,op,ty,pos,after,gd⟩) hg he' he0 hd0 hD (fun g' a' w' e2 s' h1 h2 h3 h3' h4 h5=>ih g' e2 s' _ w' hdr (hg.trans h1) h2 h3 h3' h4 h5) hKp this
  have skip:∀ e',EnvOk g n e' a.tmps→cG n dst (fT C n (ops.toList.map (·.dst)) r K Kp) e' s (.tuple []) →
    wpList C.P ops (Post C F g0 n D Q) r (a.put dst undef) w:=by
   intro e' he' hs;unfold cG at hs;cases hdst:dst with
   | none=>rw[hdst] at hs;exact ih g e' s a w hdr hg hR he' he0 hD hs
   | some d=>rw[hdst] at hs;exact ih g _ s _ w hdr hg hR (he'.put hs.1 (.tuple [] [] rfl (by simp))) (he0.other fun d' hd'=>by cases hd';exact hd0 d hdst) (by rw[aBl];exact hD) hs.2
  cases gd with
  | none =>
   simp only[fT] at h;unfold wpList;rw[if_pos (by simp[Region.wanted])];exact .inl (run e he h)
  | some jw =>
   obtain ⟨j,want⟩:=jw;simp only[fT] at h;split at h
   ·exact h.elim
   ·rename_i t ht;split at h
    ·rename_i b hb;have hy:=aGB (b:=b) ht he hb
     have he':EnvOk g n (e.put t (.bool b)) a.tmps:=he.sub fun u x hx=>by
      rw[lH] at hx;by_cases hu:t=u
      ·subst hu;simp only[↓reduceIte] at hx;rw[hb];exact hx
      ·simpa only[hu,↓reduceIte] using hx
     unfold wpList
     have hw:Region.wanted (⟨dst,op,ty,pos,after,some (j,want)⟩:Oper) (yielded ops a.tmps)=(b == want):=by
      simp only[Region.wanted,hy];cases b<;>cases want<;>rfl
     cases b<;>cases want<;>simp only at h
     ·rw[if_pos (by rw[hw];rfl)];exact .inl (run _ he' h)
     ·rw[if_neg (by rw[hw];decide)];exact skip _ he' h
     ·rw[if_neg (by rw[hw];decide)];exact skip _ he' h
     ·rw[if_pos (by rw[hw];rfl)];exact .inl (run _ he' h)
    ·rename_i l hb;have hy:=aF1 ht he hb;unfold wpList;rw[if_neg (by simp[Region.wanted,hy])];exact skip _ he h
    ·exact h.elim
theorem aEm (e:Env) {ops:Array Oper}:∀ o,o∈ops.toList→∀ d,o.dst=some d→(e.rem (ops.toList.map (·.dst))).get d=none:=by
 intro o ho d hd;rw[nX,if_pos];rw[List.elem_eq_mem];simp only[eC,bW];exact ⟨o,ho,hd⟩
theorem aEZ {e:Env} {ds:List (Option Tmp)} {tmps:Array Value} (he:EnvOk g n e tmps):EnvOk g n (e.rem ds) tmps:=he.sub fun t a h=>by
 rw[nX] at h;split at h
 ·cases h
 ·exact h
theorem Ex.region {id:Nat} {ops:Array Oper} {Q:XK→Env→St→Prop} {K:Env→St→Prop} {Kp:St→A→Prop} {e:Env}
  (hK:∀ e s,K e s→∃ e',e.ge e'∧Q .normal e' s) (hKp:∀ s v,Kp s v→Q (.panic v) (e.rem (ops.toList.map (·.dst))) s)
  (h:fT C n (ops.toList.map (·.dst)) ops.toList K Kp e s):Ex C n (.region id ops false) Q e s:=fun F g w a hR he =>
 wp_region_list (aI6 hK hKp ops.toList g e s a w (aEm e) (fU g) hR he (aEZ he) rfl h)
end
section
variable {C:Cx} {n:Nat} {Q:XK→Env→St→Prop} {e:Env} {s:St}
theorem Ex.mono {c:Code} {Q':XK→Env→St→Prop} (h:Ex C n c Q e s) (hQ:∀ x e s,Q x e s→Q' x e s):Ex C n c Q' e s :=
 fun F g w a hR he=>kT (fun ex a' w' hp=>Post.mono (fU g) hp hQ) (h F g w a hR he)
theorem aNr {c:Code} {Q':XK→Env→St→Prop} (h:Ex C n c Q e s) (hQ:∀ x e s,Q x e s→∃ e',e.ge e'∧Q' x e' s):Ex C n c Q' e s :=
 fun F g w a hR he=>kT (fun ex a' w' hp=>by
  obtain ⟨g',e',s',x,h1,h2,h3,h4,h5,h6⟩:=hp;obtain ⟨e2,h7,h8⟩:=hQ _ _ _ h6;exact ⟨g',e2,s',x,h1,h2,h3.sub h7,h4,h5,h8⟩) (h F g w a hR he)
theorem Ex.skip (h:Q .normal e s):Ex C n .skip Q e s:=fun F g w a hR he=>wp_skip ⟨g,e,s,.normal,fU g,hR,he,rfl,trivial,h⟩
theorem Ex.label {l:Nat} (h:Q .normal e s):Ex C n (.label l) Q e s:=fun F g w a hR he=>wp_label ⟨g,e,s,.normal,fU g,hR,he,rfl,trivial,h⟩
theorem Ex.exit {i:Nat} (h:Q (.exit i) e s):Ex C n (.exit i) Q e s:=fun F g w a hR he=>wp_exit ⟨g,e,s,.exit i,fU g,hR,he,rfl,rfl,h⟩
theorem Ex.goto {i:Nat} (h:Q (.goto i) e s):Ex C n (.goto i) Q e s:=fun F g w a hR he=>wp_goto ⟨g,e,s,.goto i,fU g,hR,he,rfl,rfl,h⟩
theorem Ex.ret (h:Q .ret e s):Ex C n .ret Q e s:=fun F g w a hR he=>wp_ret ⟨g,e,s,.ret,fU g,hR,he,rfl,trivial,h⟩
def mH (R:Env→St→Prop) (Q:XK→Env→St→Prop):XK→Env→St→Prop
 | .normal,e,s=>R e s
 | x,e,s=>Q x e s
theorem Ex.seq {c d:Code} (h:Ex C n c (mH (Ex C n d Q) Q) e s):Ex C n (.seq c d) Q e s:=fun F g w a hR he=>by
 refine wp_seq (kT (fun ex a' w' hp=>?_) (h F g w a hR he));obtain ⟨g',e',s',x,h1,h2,h3,h4,h5,h6⟩:=hp;cases ex<;>cases x<;>try exact h5.elim
 ·have:=h6 F g' w' a' h2 h3;rw[h4] at this;exact kT (fun ex a2 w2 hp=>Post.mono h1 hp fun _ _ _ h=>h) this
 all_goals exact ⟨g',e',s',_,h1,h2,h3,h4,h5,h6⟩
def qS (i:Nat) (Q:XK→Env→St→Prop):XK→Env→St→Prop
 | .exit j,e,s=>if j=i then Q .normal e s else Q (.exit j) e s
 | x,e,s=>Q x e s
theorem Ex.block {i:Nat} {c:Code} (h:Ex C n c (qS i Q) e s):Ex C n (.block i c) Q e s:=fun F g w a hR he=>by
 refine wp_block (kT (fun ex a' w' hp=>?_) (h F g w a hR he));obtain ⟨g',e',s',x,h1,h2,h3,h4,h5,h6⟩:=hp;cases ex<;>cases x<;>try exact h5.elim
 case exit.exit j k =>
  simp only[XRz] at h5;subst h5;simp only[qS] at h6;simp only[Exit.inBlock];split at h6
  ·rename_i hk;rw[if_pos hk];exact ⟨g',e',s',.normal,h1,h2,h3,h4,trivial,h6⟩
  ·rename_i hk;rw[if_neg hk];exact ⟨g',e',s',.exit _,h1,h2,h3,h4,rfl,h6⟩
 all_goals exact ⟨g',e',s',_,h1,h2,h3,h4,h5,h6⟩
theorem Ex.cond {c:Operand} {x y:Code} {b:Bool} (hc:eF C e c=some (.bool b)) (h:Ex C n (if b then x else y) Q e s):Ex C n (.cond c x y) Q e s:=fun F g w a hR he =>
 wp_cond (((he.oper hR) c _ hc).bool_inv) (h F g w a hR he)
theorem Ex.weaken {c:Code} {e':Env} {s':St} (he:e.ge e') (hs:s.ge s') (h:Ex C n c Q e' s') (hd:C.det=false:=by rfl):Ex C n c Q e s:=fun F g w a hR hE =>
 h F g w a (hR.weaken hs (fun h=>by rw[show C.toCtx.det=false from hd] at h;cases h)) (hE.sub he)
theorem aIe (I:Nat→Env→St→Prop) (m:Nat) {c:Code} (h0:I m e s)
  (round:∀ m e s,I m e s→Ex C n c (mH (fun e' s'=>∃ m',m'<m∧I m' e' s') Q) e s):Ex C n (.loop c) Q e s:=fun F g0 w a hR hE=>by
 refine wp_loop_ghost (I:=fun m a' w'=>a'.defers=a.defers∧∃ g e s,g0.le g∧I m e s∧R C.toCtx F g s w'∧EnvOk g n e a'.tmps) m
  ⟨rfl,g0,e,s,fU g0,h0,hR,hE⟩ ?_
 rintro k a' w' ⟨hD,g,e',s',hg,hI,hR',hE'⟩;refine kT (fun ex a2 w2 hp=>?_) (round k e' s' hI F g w' a' hR' hE');obtain ⟨g',e2,s2,x,h1,h2,h3,h4,h5,h6⟩:=hp;cases ex<;>cases x<;>try exact h5.elim
 ·obtain ⟨m',hm,hI'⟩:=h6;exact ⟨m',hm,h4.trans hD,g',e2,s2,hg.trans h1,hI',h2,h3⟩
 all_goals exact ⟨g',e2,s2,_,hg.trans h1,h2,h3,h4.trans hD,h5,h6⟩
def Env.has (e:Env):Env→Prop
 | []=>True
 | (k,a)::r=>e.get k=some a∧Env.has e r
theorem aDC {e:Env}:∀ {e':Env},e.has e'→e.ge e'
 | [],_=>fun t a h=>by cases h
 | (k,a)::r,h=>fun t b hb=>by
  simp only[Env.get] at hb;split at hb
  ·rename_i hk;subst hk;cases hb;exact h.1
  ·exact aDC h.2 t b hb
theorem Ex.loop {ι:Type} (E:ι→Env) (S:ι→St) (I:ι→Prop) (μ:ι→Nat) (i:ι) {c:Code} (hi:I i) (he:e.has (E i)) (hs:s.ge (S i))
  (round:∀ i,I i→Ex C n c (mH (fun e' s'=>∃ j,I j∧μ j<μ i∧e'.has (E j)∧s'.ge (S j)) Q) (E i) (S i)) (hd:C.det=false:=by rfl):Ex C n (.loop c) Q e s:=by
 refine aIe (fun m e s=>∃ i,I i∧μ i=m∧e.ge (E i)∧s.ge (S i)) (μ i) ⟨i,hi,rfl,aDC he,hs⟩ ?_;rintro m e s ⟨j,hj,rfl,he,hs⟩;refine Ex.weaken he hs (Ex.mono (round j hj) fun x e' s' h=>?_) hd;cases x
 case normal =>
  obtain ⟨k,hk,hlt,h1,h2⟩:=h;exact ⟨μ k,hlt,k,hk,rfl,aDC h1,h2⟩
 all_goals exact h
def mG (V:List Nat) (Q:XK→Env→St→Prop) (e:Env) (s:St):Prop:=Q .normal (e.keep V) s
def tK (Q:XK→Env→St→Prop) (ds:List (Option Tmp)) (e:Env) (s:St) (v:A):Prop:=Q (.panic v) (e.rem ds) s
def aCt (C:Cx) (n:Nat) (id:Nat) (ops:Array Oper) (Q:XK→Env→St→Prop) (e:Env) (s:St):Prop:=Ex C n (.region id ops true) Q e s
def gO (C:Cx) (n:Nat) (V:List Nat):Code→(XK→Env→St→Prop)→Env→St→Prop
 | .skip,Q,e,s=>Q .normal e s
 | .label _,Q,e,s=>Q .normal e s
 | .exit i,Q,e,s=>Q (.exit i) e s
 | .goto i,Q,e,s=>Q (.goto i) e s
 | .ret,Q,e,s=>Q .ret e s
 | .seq c d,Q,e,s=>gO C n V c (mH (gO C n V d Q) Q) e s
 | .block i c,Q,e,s=>gO C n V c (qS i Q) e s
 | .cond c x y,Q,e,s=>match eF C e c with
  | some (.bool b)=>match b with
   | true=>gO C n V x Q e s
   | false=>gO C n V y Q e s
  | _=>False
 | .region id ops draw,Q,e,s=>match draw with
  | false=>fT C n (ops.toList.map (·.dst)) ops.toList (mG V Q) (tK Q (ops.toList.map (·.dst)) e) e s
  | true=>aCt C n id ops (mH (mG V Q) Q) e s
 | .loop c,Q,e,s=>Ex C n (.loop c) Q e s
 | c,Q,e,s=>Ex C n c Q e s
theorem aLD (R:Env→St→Prop) (Q:XK→Env→St→Prop) (e:Env) (s:St):mH R Q .normal e s=R e s:=rfl
theorem aMw (R:Env→St→Prop) (Q:XK→Env→St→Prop) (i:Nat) (e:Env) (s:St):mH R Q (.exit i) e s=Q (.exit i) e s:=rfl
theorem aM0 (R:Env→St→Prop) (Q:XK→Env→St→Prop) (i:Nat) (e:Env) (s:St):mH R Q (.goto i) e s=Q (.goto i) e s:=rfl
theorem aNx (R:Env→St→Prop) (Q:XK→Env→St→Prop) (e:Env) (s:St):mH R Q .ret e s=Q .ret e s:=rfl
theorem aLR (R:Env→St→Prop) (Q:XK→Env→St→Prop) (a:A) (e:Env) (s:St):mH R Q (.panic a) e s=Q (.panic a) e s:=rfl
theorem aKQ (i:Nat) (Q:XK→Env→St→Prop) (e:Env) (s:St):qS i Q .normal e s=Q .normal e s:=rfl
theorem aL9 (i:Nat) (Q:XK→Env→St→Prop) (e:Env) (s:St):qS i Q .ret e s=Q .ret e s:=rfl
theorem aLp (i j:Nat) (Q:XK→Env→St→Prop) (e:Env) (s:St):qS i Q (.goto j) e s=Q (.goto j) e s:=rfl
theorem aKT (i:Nat) (a:A) (Q:XK→Env→St→Prop) (e:Env) (s:St):qS i Q (.panic a) e s=Q (.panic a) e s:=rfl
theorem aLm (i j:Nat) (Q:XK→Env→St→Prop) (e:Env) (s:St):qS i Q (.exit j) e s=if j=i then Q .normal e s else Q (.exit j) e s:=rfl
theorem bV {V:List Nat}:∀ (c:Code) (Q:XK→Env→St→Prop) (e:Env) (s:St),gO C n V c Q e s→Ex C n c Q e s
 | .skip,Q,e,s,h=>Ex.skip h
 | .label _,Q,e,s,h=>Ex.label h
 | .exit i,Q,e,s,h=>Ex.exit h
 | .goto i,Q,e,s,h=>Ex.goto h
 | .ret,Q,e,s,h=>Ex.ret h
 | .seq c d,Q,e,s,h=>by
  refine Ex.seq (Ex.mono (bV c _ e s h) fun x e s hx=>?_);cases x
  case normal=>exact bV d Q e s hx
  all_goals exact hx
 | .block i c,Q,e,s,h=>Ex.block (bV c _ e s h)
 | .cond c x y,Q,e,s,h=>by
  simp only[gO] at h;split at h
  ·rename_i b hb;refine Ex.cond hb ?_;cases b
   ·exact bV y Q e s h
   ·exact bV x Q e s h
  ·exact h.elim
 | .region id ops draw,Q,e,s,h=>by
  cases draw
  ·exact Ex.region (fun e s hk=>⟨_,aGm V e,hk⟩) (fun _ _ h=>h) h
  ·refine aNr (Q:=mH (mG V Q) Q) h fun x e s hx=>?_
   cases x
   case normal=>exact ⟨_,aGm V e,hx⟩
   all_goals exact ⟨e,Env.ge.refl e,hx⟩
 | .loop c,Q,e,s,h=>h
 | .rangeFunc ..,Q,e,s,h=>h
 | .scope c,Q,e,s,h=>h
 | .refuse _,Q,e,s,h=>h
end
end
section
def lR:Nat→List A→Env
 | _,[]=>[]
 | k,a::r=>(k,a)::lR (k+1) r
theorem aEa:∀ (az:List A) (k t:Nat) (a:A),(lR k az).get t=some a→k≤t∧az[t-k]?=some a
 | [],k,t,a,h=>by simp[lR,Env.get] at h
 | x::r,k,t,a,h=>by
  simp only[lR,Env.get] at h;split at h
  ·rename_i hk;subst hk;simp only[bM] at h;subst h;exact ⟨bE _,by simp⟩
  ·rename_i hk;obtain ⟨h1,h2⟩:=aEa r (k+1) t a h;refine ⟨by omega,?_⟩;rw[show t-k=(t-(k+1))+1 by omega];simpa using h2
def mX (C:Cx) (e:Env) (s:St):List ResultVar→Option (List A)
 | []=>some []
 | .tmp t::r=>match e.get t,mX C e s r with
  | some a,some l=>some (a::l)
  | _,_=>none
 | .cell p t::r=>match e.get p,mX C e s r with
  | some (.ptr b o),some l=>match s.getO b with
   | some (.cells _ cs)=>match pY C t cs o with
    | some a=>some (a::l)
    | none=>none
   | _=>none
  | _,_=>none
def rC:List A→A
 | [a]=>a
 | l=>.tuple l
def lB (C:Cx) (rs:List ResultVar) (KV Kp:St→A→Prop):XK→Env→St→Prop
 | .normal,e,s=>match mX C e s rs with
  | some l=>KV s (rC l)
  | none=>False
 | .ret,e,s=>match mX C e s rs with
  | some l=>KV s (rC l)
  | none=>False
 | .panic a,_,s=>Kp s a
 | _,_,_=>False
section
variable {C:Cx} {F:Fr} {g:Gh} {s:St} {w:World} {n:Nat} {e:Env}
theorem aLw (hR:R C.toCtx F g s w) {b o:Nat} {e:TypeId} {cs:List A} {t:TypeId} {v:A} (hb:s.getO b=some (.cells e cs)) (hv:pY C t cs o=some v) :
  ∃ k u,g.beta b=some k∧(loadVar t ⟨k,o,none⟩).run C.P w=.ok u w∧Rz g v u:=by
 obtain ⟨k,vs,rest,hbk,hh,hrs,hone⟩:=hR.cellsOf hb
 have cell:∀ j u,vs[j]?=some u→w.cell? ⟨k,j,none⟩=some u:=by
  intro j u hj;simp only[World.cell?,hh,Option.isSome_none,bN,↓reduceIte,nU];rw[oT (eT.1 hj).1];exact hj
 simp only[pY] at hv;split at hv
 ·rename_i ti hti;split at hv
  ·rename_i hag;split at hv
   ·rename_i hsz;simp only[bM] at hv;subst hv
    have hc:∀ j v,((vs.drop o).take ti.sz)[j]?=some v→w.cell? ((⟨k,o,none⟩:Addr).add j)=some v:=by
     intro j v hj;rw[nD] at hj;split at hj
     ·rw[lE] at hj;rw[kX,cell _ _ hj]
     ·simp at hj
    have hlen':((vs.drop o).take ti.sz).length=ti.sz:=by
     have:=hrs.1;rw[eY,cP];omega
    have hrun:=run_loadCells_list (P:=C.P) w ⟨k,o,none⟩ _ hc;rw[hlen'] at hrun;have hq:=(hrs.drop o).take ti.sz;refine ⟨k,.agg ((vs.drop o).take ti.sz).toArray,hbk,?_,.agg _ _ hq.1 (fun c hc=>hone c (sH (qF hc))) hq.2⟩;simp only[loadVar,bH,bX,bJ,yQ hti,hag,↓reduceIte,lJ hti,hrun]
   ·simp at hv
  ·rename_i hag;obtain ⟨u,hu,hr⟩:=hrs.get hv;have hag':ti.k.agg=false:=by simpa using hag
   refine ⟨k,u,hbk,?_,hr⟩;simp only[loadVar,bH,bX,bJ,yQ hti,hag',bN,↓reduceIte,run_load,cell _ _ hu]
 ·simp at hv
def tI (tmps:Array Value):ResultVar→Sem Value
 | .tmp t=>pure (tmps.getD t undef)
 | .cell a t=>do loadVar t (← asAddr (tmps.getD a undef))
theorem aAr (hR:R C.toCtx F g s w) {tmps:Array Value} (hE:EnvOk g n e tmps):∀ (rs:List ResultVar) (l:List A),mX C e s rs=some l →
  ∃ vs,(rs.mapM (tI tmps)).run C.P w=.ok vs w∧Rzs g l vs
 | [],l,h=>by simp[mX] at h;subst h;exact ⟨[],by simp,.nil g⟩
 | .tmp t::r,l,h=>by
  simp only[mX] at h;split at h
  ·rename_i a l' ha hl;simp only[bM] at h;subst h;obtain ⟨vs,h1,h2⟩:=aAr hR hE r l' hl;obtain ⟨u,hu,hr⟩:=hE.val t a ha;refine ⟨u::vs,?_,.cons hr h2⟩;have e0:(tI tmps (.tmp t)).run C.P w=.ok u w:=by simp[tI,aDx,hu]
   simp only[List.mapM_cons,bH,bX,bJ,h1,e0]
  ·simp at h
 | .cell p t::r,l,h=>by
  simp only[mX] at h;split at h
  ·rename_i b o l' ha hl;split at h
   ·rename_i cs hcs;split at h
    ·rename_i v hv;simp only[bM] at h;subst h;obtain ⟨vs,h1,h2⟩:=aAr hR hE r l' hl;obtain ⟨u,hu,hr⟩:=hE.val p _ ha;obtain ⟨k,q,hbk,hq,hqr⟩:=aLw hR hcs hv;obtain ⟨k',hp,hbk'⟩:=hr.ptr_inv;rw[hbk] at hbk';cases hbk';refine ⟨q::vs,?_,.cons hqr h2⟩;have e0:(tI tmps (.cell p t)).run C.P w=.ok q w:=by simp only[tI,bH,aDx,hu,Option.getD_some,hp,asAddr,bX,bJ,hq]
     simp only[List.mapM_cons,bH,bX,bJ,h1,e0]
    ·simp at h
   ·simp at h
  ·simp at h
theorem aEL {l:List A} {vs:List Value} (h:Rzs g l vs):Rz g (rC l) (if h:vs.toArray.size=1 then vs.toArray[0] else .tuple vs.toArray):=by
 match l,vs,h with
 | [],[],h=>exact .tuple [] [] rfl (by simp)
 | [a],[v],h=>exact h.2 0 a v (by simp) (by simp)
 | a::b::l,v::u::vs,h =>
  have:¬ (v::u::vs).toArray.size=1:=by simp
  rw[dif_neg this];exact .tuple _ _ h.1 h.2
 | [],_::_,h=>have:=h.1;simp at this
 | _::_,[],h=>have:=h.1;simp at this
 | [_],_::_::_,h=>have:=h.1;simp at this
 | _::_::_,[_],h=>have:=h.1;simp at this
theorem aDV {f:FuncId} {fn:Func} {c:Code} {args:List A} {KV Kp:St→A→Prop} (hf:C.P.funcs[f]?=some fn) (hb:fn.body=some c)
  (hname : (fn.name == "runtime.NumGoroutine") = false) (hn : args.length ≤ fn.ntmps)
  (h:Ex C fn.ntmps c (lB C fn.results.toList KV Kp) (lR 0 args) s):Den C f args KV Kp s:=by
 intro F g w vals hR hv
 have hcf:(callFunc f vals.toArray).run C.P w=.ok (.enter f vals.toArray) w:=by
  simp only[callFunc,bH,run_program,bJ,hf,hname,bN,↓reduceIte,hb,Option.isNone_some,bX]
 rw[hcf];refine calls_of_wp hf hb ?_
 have hE:EnvOk g fn.ntmps (lR 0 args) (vals.toArray++Array.replicate (fn.ntmps-vals.toArray.size) undef):=by
  have hl:vals.length=args.length:=hv.1;refine ⟨by simp;omega,fun t a ha=>?_⟩;obtain ⟨_,h2⟩:=aEa args 0 t a ha;obtain ⟨u,hu,hr⟩:=hv.get h2;rw[Nat.sub_zero] at hu;refine ⟨u,?_,hr⟩;have:t<vals.length:=(eT.1 hu).1;rw[Array.getElem?_append_left (by simpa using this)];simpa using hu
 refine kT (fun ex a' w' hp=>?_) (h F g w ⟨_,[]⟩ hR hE);obtain ⟨g',e',s',x,h1,h2,h3,h4,h5,h6⟩:=hp
 have fin:∀ l,mX C e' s' fn.results.toList=some l→KV s' (rC l)→a'.defers=[]∧∃ v,(results fn a'.tmps).run C.P w'=.ok v w'∧tG C F g KV Kp (.returned v) w':=by
  intro l hl hk;obtain ⟨vs,r1,r2⟩:=aAr h2 h3 _ _ hl;refine ⟨h4,_,?_,⟨g',_,s',h1,h2,aEL r2,hk⟩⟩;have e0:results fn a'.tmps=(do let vs ← fn.results.mapM (tI a'.tmps);pure (if h:vs.size=1 then vs[0] else .tuple vs)):=rfl;rw[e0,bH,Array.mapM_eq_mapM_toList,Sem.run_map,r1];rfl
 cases ex<;>cases x<;>try exact h5.elim
 ·simp only[lB] at h6;split at h6
  ·rename_i l hl;exact fin l hl h6
  ·exact h6.elim
 ·exact h6.elim
 ·exact h6.elim
 ·simp only[lB] at h6;split at h6
  ·rename_i l hl;exact fin l hl h6
  ·exact h6.elim
 ·obtain ⟨v,rfl,hr⟩:=h5;exact ⟨h4,⟨g',_,v,s',rfl,h1,h2,hr,h6⟩⟩
theorem Den.mono {f:FuncId} {args:List A} {KV Kp KV' Kp':St→A→Prop} (h:Den C f args KV Kp s) (h1:∀ s a,KV s a→KV' s a) (h2:∀ s a,Kp s a→Kp' s a) :
  Den C f args KV' Kp' s:=by
 intro F g w vals hR hv;have:=h F g w vals hR hv;revert this;generalize (callFunc f vals.toArray).run C.P w=r;intro hr;cases r with
 | ok x w' =>
  cases x<;>simp only[OutV] at hr ⊢
  ·obtain ⟨g',a,s',a1,a2,a3,a4⟩:=hr;exact ⟨g',a,s',a1,a2,a3,h1 _ _ a4⟩
  ·obtain ⟨g',s',a1,a2,a3⟩:=hr;exact ⟨g',s',a1,a2,h1 _ _ a3⟩
  ·refine Calls.mono hr fun en w'' hp=>?_
   cases en with
   | returned v=>obtain ⟨g',a,s',a1,a2,a3,a4⟩:=hp;exact ⟨g',a,s',a1,a2,a3,h1 _ _ a4⟩
   | panicked lQ=>obtain ⟨g',a,v,s',a0,a1,a2,a3,a4⟩:=hp;exact ⟨g',a,v,s',a0,a1,a2,a3,h2 _ _ a4⟩
   | outgrown=>exact hp
 | halt x w' =>
  cases x<;>simp only[OutV] at hr ⊢
  obtain ⟨g',a,s',a1,a2,a3,a4⟩:=hr;exact ⟨g',a,s',a1,a2,a3,h2 _ _ a4⟩
theorem Den.weaken {f:FuncId} {args:List A} {KV Kp:St→A→Prop} {s':St} (hs:s.ge s') (h:Den C f args KV Kp s') (hd:C.det=false:=by rfl):Den C f args KV Kp s :=
 fun F g w vals hR hv=>h F g w vals (hR.weaken hs (fun h=>by rw[show C.toCtx.det=false from hd] at h;cases h)) hv
end
def dE:=@Den.weaken
end
section
def aEI:A→Value→Bool
 | .int k n,.int j m=>decide (k=j)&&decide (n=m)
 | .bool b,.bool c=>b == c
 | .str s,.string t=>s.isEmpty&&decide (t.data.toList=[])
 | .nilp,.pointer none=>true
 | .nils,.slice none 0 0=>true
 | .nilf,.nilFunc=>true
 | .nili,.nilIface=>true
 | _,_=>false
def yP:List A→List Value→Bool
 | [],[]=>true
 | a::az,v::vs=>aEI a v&&yP az vs
 | _,_=>false
theorem aLT {g:Gh} {a:A} {v:Value} (h:aEI a v=true):Rz g a v∧a.one=true:=by
 unfold aEI at h;split at h<;>simp only[bT,eC,beq_iff_eq,bN] at h
 ·obtain ⟨rfl,rfl⟩:=h;exact ⟨.int _ _,rfl⟩
 ·subst h;exact ⟨.bool _,rfl⟩
 ·rename_i s t;obtain ⟨h1,h2⟩:=h;have:s=t.data.toList:=by rw[h2];simpa using h1
  subst this;exact ⟨.str t.data.toList,rfl⟩
 ·exact ⟨.nilp,rfl⟩
 ·exact ⟨.nils,rfl⟩
 ·exact ⟨.nilf,rfl⟩
 ·exact ⟨.nili,rfl⟩
theorem aEf {g:Gh}:∀ {az:List A} {vs:List Value},yP az vs=true→Rzs g az vs∧∀ c,c∈az→c.one=true
 | [],[],_=>⟨.nil g,by simp⟩
 | a::az,v::vs,h=>by
  simp only[yP,bT] at h;have h1:=aLT (g:=g) h.1;have h2:=aEf (g:=g) h.2;exact ⟨.cons h1.1 h2.1,fun c hc=>by cases hc with|head=>exact h1.2|tail _ hc=>exact h2.2 c hc⟩
 | [],_::_,h=>by simp[yP] at h
 | _::_,[],h=>by simp[yP] at h
def yI (P:Program):List Field→List (Nat × Nat × Bool)→Bool
 | [],[]=>true
 | f::fs,(o,s,a)::r=>decide (f.offset=o)&&decide ((P.info? f.type).map (·.size)=some s)&&decide (s≠0)&&(P.underlying f.type).isSome&&(wJ (P.underlying f.type) == a)&&yI P fs r
 | _,_=>false
theorem aHt {P:Program}:∀ {fs:List Field} {l:List (Nat × Nat × Bool)},yI P fs l=true→fs.length=l.length∧∀ (i o s:Nat) (a:Bool),l[i]?=some (o,s,a) →
   ∃ f,fs[i]?=some f∧f.offset=o∧(P.info? f.type).map (·.size)=some s∧s≠0∧(P.underlying f.type).isSome=true∧wJ (P.underlying f.type)=a
 | [],[],_=>⟨rfl,fun i o s a h=>by simp at h⟩
 | f::fs,(o,s,a)::r,h=>by
  simp only[yI,bT,eC,beq_iff_eq] at h;obtain ⟨⟨⟨⟨⟨h1,h2⟩,h3⟩,h4⟩,h5⟩,h6⟩:=h;obtain ⟨e1,e2⟩:=aHt h6;refine ⟨by simp[e1],fun i o' s' a' hi=>?_⟩;cases i with
  | zero=>simp only[kI,bM,oX] at hi;obtain ⟨rfl,rfl,rfl⟩:=hi;exact ⟨f,by simp,h1,h2,h3,h4,h5⟩
  | succ i=>obtain ⟨f',q⟩:=e2 i o' s' a' (by simpa using hi);exact ⟨f',by simpa using q⟩
 | [],_::_,h=>by simp[yI] at h
 | _::_,[],h=>by simp[yI] at h
def aFI (P:Program) (k:TK) (d:TypeDesc):Bool :=
 match k,d with
 | .int k,.int j=>decide (k=j)
 | .bool,.bool=>true
 | .string,.string=>true
 | .slice e,.slice e'=>decide (e=e')
 | .array n e,.array m e'=>decide (n=m)&&decide (e=e')
 | .struct fs,.struct fields=>yI P fields.toList fs
 | .iface,.interface _=>true
 | .other,.pointer _|.other,.func ..|.other,.map ..|.other,.chan ..|.other,.unsafePointer|.other,.float _|.other,.complex _=>true
 | _,_=>false
theorem aOm {P:Program} {k:TK} {d:TypeDesc} (h:aFI P k d=true):k.ok P d:=by
 unfold aFI at h;split at h<;>(try simp only[bT,eC,bN] at h)<;>simp only[TK.ok]
 ·subst h;rfl
 ·subst h;rfl
 ·obtain ⟨rfl,rfl⟩:=h;rfl
 ·rename_i fs fields;obtain ⟨e1,e2⟩:=aHt h;exact ⟨fields,rfl,by simpa using e1,fun i o s a hi=>by obtain ⟨f,q⟩:=e2 i o s a hi;exact ⟨f,by simpa using q⟩⟩
 ·exact ⟨_,rfl⟩
 all_goals exact ⟨rfl,by simp⟩
def aFy (P:Program) (t:TypeId) (ti:TI):Bool :=
 match P.info? t,P.underlying t with
 | some i,some d=>decide (i.size=ti.sz)&&decide (i.bytes=ti.bytes)&&decide (ti.zero.length=ti.sz)&&(match i.zero with|some z=>yP ti.zero z.cells.toList|none=>false)&&aFI P ti.k d
 | _,_=>false
theorem aOf {P:Program} {t:TypeId} {ti:TI} (h:aFy P t ti=true):ti.ok P t:=by
 unfold aFy at h;split at h
 ·rename_i i d hi hd;simp only[bT,eC] at h;obtain ⟨⟨⟨⟨h1,h2⟩,h3⟩,h4⟩,h5⟩:=h;split at h4
  ·rename_i z hz;exact ⟨⟨i,z,hi,h1,h2,hz,fun g=>(aEf (g:=g) h4).1⟩,(aEf (g:=⟨fun _=>none,fun _ _=>none,fun _=>none,default,#[]⟩) h4).2,h3,d,hd,aOm h5⟩
  ·cases h4
 ·cases h
section
variable (C:Cx) (n:Nat) (V:List Nat) (Q:XK→Env→St→Prop) (e:Env) (s:St)
@[go_sem] theorem aTm:gO C n V .skip Q e s=Q .normal e s:=rfl
@[go_sem] theorem aS2 (l:Nat):gO C n V (.label l) Q e s=Q .normal e s:=rfl
@[go_sem] theorem aTr (i:Nat):gO C n V (.exit i) Q e s=Q (.exit i) e s:=rfl
@[go_sem] theorem aTy (i:Nat):gO C n V (.goto i) Q e s=Q (.goto i) e s:=rfl
@[go_sem] theorem aTM:gO C n V .ret Q e s=Q .ret e s:=rfl
@[go_sem] theorem aT2 (c d:Code):gO C n V (.seq c d) Q e s=gO C n V c (mH (gO C n V d Q) Q) e s:=rfl
@[go_sem] theorem aS4 (i:Nat) (c:Code):gO C n V (.block i c) Q e s=gO C n V c (qS i Q) e s:=rfl
def brK (C:Cx) (n:Nat) (V:List Nat) (x y:Code) (Q:XK→Env→St→Prop) (e:Env) (s:St):Option A→Prop
 | some (.bool true)=>gO C n V x Q e s
 | some (.bool false)=>gO C n V y Q e s
 | _=>False
@[go_sem] theorem aTL (c : Operand) (x y : Code) : gO C n V (.cond c x y) Q e s = brK C n V x y Q e s (eF C e c) := by
  show (match eF C e c with
    | some (.bool b)=>match b with
      | true=>gO C n V x Q e s
      | false=>gO C n V y Q e s
    | _=>False)=_
  cases eF C e c with
  | none=>rfl
  | some a=>cases a<;>first|rfl|(rename_i b;cases b<;>rfl)
@[go_sem] theorem aTk (x y:Code):brK C n V x y Q e s (some (.bool true))=gO C n V x Q e s:=rfl
@[go_sem] theorem aTa (x y:Code):brK C n V x y Q e s (some (.bool false))=gO C n V y Q e s:=rfl
@[go_sem] theorem aSO (id:Nat) (ops:Array Oper):gO C n V (.region id ops false) Q e s=fT C n (ops.toList.map (·.dst)) ops.toList (mG V Q) (tK Q (ops.toList.map (·.dst)) e) e s:=rfl
@[go_sem] theorem aTx (id:Nat) (ops:Array Oper):gO C n V (.region id ops true) Q e s=aCt C n id ops (mH (mG V Q) Q) e s:=rfl
@[go_sem] theorem aTl (c:Code):gO C n V (.loop c) Q e s=Ex C n (.loop c) Q e s:=rfl
variable (ds:List (Option Tmp)) (K:Env→St→Prop) (Kp:St→A→Prop)
@[go_sem] theorem aTX:fT C n ds [] K Kp e s=K e s:=rfl
@[go_sem] theorem aTF (dst : Option Tmp) (op : Op) (ty : TypeId) (pos : String) (after : Array Edge) (r : List Oper) :
  fT C n ds (⟨dst,op,ty,pos,after,none⟩::r) K Kp e s=aX C op (eF C e) (cG n dst (fT C n ds r K Kp) e) Kp s:=rfl
def rI (C:Cx) (n:Nat) (ds:List (Option Tmp)) (dst:Option Tmp) (op:Op) (r:List Oper) (K:Env→St→Prop) (Kp:St→A→Prop) (e:Env) (s:St) (t:Nat) (want:Bool):Option A→Prop
 | some (.bool true)=>match want with
  | true=>aX C op (eF C (e.put t (.bool true))) (cG n dst (fT C n ds r K Kp) (e.put t (.bool true))) Kp s
  | false=>cG n dst (fT C n ds r K Kp) (e.put t (.bool true)) s (.tuple [])
 | some (.bool false)=>match want with
  | false=>aX C op (eF C (e.put t (.bool false))) (cG n dst (fT C n ds r K Kp) (e.put t (.bool false))) Kp s
  | true=>cG n dst (fT C n ds r K Kp) (e.put t (.bool false)) s (.tuple [])
 | some (.tuple _)=>cG n dst (fT C n ds r K Kp) e s (.tuple [])
 | _=>False
def gdT (C:Cx) (n:Nat) (ds:List (Option Tmp)) (dst:Option Tmp) (op:Op) (r:List Oper) (K:Env→St→Prop) (Kp:St→A→Prop) (e:Env) (s:St) (want:Bool):Option Tmp→Prop
 | none=>False
 | some t=>rI C n ds dst op r K Kp e s t want (e.get t)
@[go_sem] theorem aS6 (dst : Option Tmp) (op : Op) (ty : TypeId) (pos : String) (after : Array Edge) (j : Nat) (want : Bool) (r : List Oper) :
    fT C n ds (⟨dst,op,ty,pos,after,some (j,want)⟩::r) K Kp e s=gdT C n ds dst op r K Kp e s want (jV ds j):=by
  simp only[fT];unfold gdT;cases jV ds j with
  | none=>rfl
  | some t =>
    simp only[rI];cases e.get t with
    | none=>rfl
    | some a=>cases a<;>first|rfl|(rename_i b;cases b<;>cases want<;>rfl)
@[go_sem] theorem aTw (dst:Option Tmp) (op:Op) (r:List Oper) (want:Bool) (t:Nat):gdT C n ds dst op r K Kp e s want (some t)=rI C n ds dst op r K Kp e s t want (e.get t):=rfl
@[go_sem] theorem aUg (dst:Option Tmp) (op:Op) (r:List Oper) (t:Nat):rI C n ds dst op r K Kp e s t true (some (.bool true))=aX C op (eF C (e.put t (.bool true))) (cG n dst (fT C n ds r K Kp) (e.put t (.bool true))) Kp s:=rfl
@[go_sem] theorem aT5 (dst:Option Tmp) (op:Op) (r:List Oper) (t:Nat):rI C n ds dst op r K Kp e s t true (some (.bool false))=cG n dst (fT C n ds r K Kp) (e.put t (.bool false)) s (.tuple []):=rfl
@[go_sem] theorem aT9 (dst:Option Tmp) (op:Op) (r:List Oper) (t:Nat):rI C n ds dst op r K Kp e s t false (some (.bool true))=cG n dst (fT C n ds r K Kp) (e.put t (.bool true)) s (.tuple []):=rfl
@[go_sem] theorem aUp (dst:Option Tmp) (op:Op) (r:List Oper) (t:Nat):rI C n ds dst op r K Kp e s t false (some (.bool false))=aX C op (eF C (e.put t (.bool false))) (cG n dst (fT C n ds r K Kp) (e.put t (.bool false))) Kp s:=rfl
@[go_sem] theorem aUv (dst : Option Tmp) (op : Op) (r : List Oper) (t : Nat) (want : Bool) (l : List A) : rI C n ds dst op r K Kp e s t want (some (.tuple l)) = cG n dst (fT C n ds r K Kp) e s (.tuple []) := by
  cases want<;>rfl
@[go_sem] theorem aSZ (d:Tmp) (v:A):cG n (some d) K e s v=(d<n∧K (e.put d v) s):=rfl
@[go_sem] theorem aTp (sz:Nat) (K:A→Prop) (x:A):elK sz K (some x)=(x.cells.length=sz∧K (.eptr x.cells 0)):=rfl
@[go_sem] theorem aTj (K:A→Prop) (c:UInt8):chK K (some c)=K (.int .u8 c.toNat):=rfl
@[go_sem] theorem aSV (v:A):cG n none K e s v=K e s:=rfl
end
attribute [go_sem] aCc aJa aCo
attribute [go_sem] mG tK aLD aMw aNx aLR aM0 aKQ aL9 aLp aKT aLm
attribute [go_sem] Env.get Env.put Env.keep jV eF aAz aAq yF kN lL nQ aX bF aCI yV unA yL pY nJ A.cells A.one rC mX lB lR wA aAN sA rB oR nB TK.agg iG zI qE tM qZ yS hlA
attribute [go_sem] aI sL nW Int.toNat_natCast Int.ofNat_lt Int.ofNat_le Int.natCast_nonneg Int.natCast_inj rL
@[go_sem] theorem aSR:fZ []=true:=rfl
@[go_sem] theorem aSK (a:A) (l:List A):fZ (a::l)=(a.one&&fZ l):=rfl
attribute [go_sem] Env.has bM A.int.injEq A.str.injEq A.bool.injEq A.list.injEq A.ptr.injEq A.agg.injEq
@[go_sem] theorem aSX (tk:Option Nat) (es:List A):iP (.list tk es)=some (.int .i64 es.length):=rfl
@[go_sem] theorem aS3:iP .nils=some (.int .i64 0):=rfl
@[go_sem] theorem aTT (b o n:Nat):iP (.ml b o n)=some (.int .i64 n):=rfl
@[go_sem] theorem aTu:iP .emp=some (.int .i64 0):=rfl
@[go_sem] theorem aTQ (b n c:Nat):iP (.mg b n c)=some (.int .i64 n):=rfl
@[go_sem] theorem aTb (C:Cx) (s:St) (e:TypeId) (te:TI) (ys:List A) (KV:St→A→Prop):sB C s e te ys KV .nils=(ys.length≤4294967296∧mY C s ys.length e te.sz ys KV):=rfl
@[go_sem] theorem aS1 (C:Cx) (s:St) (e:TypeId) (te:TI) (KV:St→A→Prop):sB C s e te [] KV .emp=KV s .emp:=rfl
@[go_sem] theorem aTH (C:Cx) (s:St) (e:TypeId) (te:TI) (y:A) (r:List A) (KV:St→A→Prop):sB C s e te (y::r) KV .emp=(((y::r).length≤4294967296∧0<(y::r).length)∧mY C s (y::r).length e te.sz (y::r) KV):=rfl
@[go_sem] theorem aTR (C:Cx) (s:St) (e:TypeId) (te:TI) (ys:List A) (KV:St→A→Prop) (b n cap:Nat):sB C s e te ys KV (.mg b n cap)=uP C.det s b n cap e te.sz ys.length ys KV (s.getO b):=rfl
@[go_sem] theorem aTg (C : Cx) (s : St) (e : TypeId) (te : TI) (ys : List A) (KV : St → A → Prop) (t : Nat) (es : List A) : sB C s e te ys KV (.list (some t) es) =
  (s.getT t=some (es.length,e)∧(∀ y,y∈es→y.cells.length=te.sz)∧es.length+ys.length≤4294967296∧KV (s.setT t (es.length+ys.length,e)) (.list (some t) (es++ys))):=rfl
theorem eX (x:Int) (h1:-9223372036854775808≤x) (h2:x≤9223372036854775807):IntKind.i64.wrap x=x:=IntWalk.i64_in x ⟨h1,h2⟩
theorem bP (i:Nat) (h:i<9223372036854775807):IntKind.i64.wrap ((i:Int)+1)=((i+1:Nat):Int):=by
 rw[eX _ (by omega) (by omega)];rfl
end
section
section
variable {C:Cx} {s:St} {ρ ρ':Operand→Option A} {K:A→Prop}
theorem aBe:∀ {l:List Operand},(∀ x,x∈l→ρ x=ρ' x)→kN ρ l=kN ρ' l
 | [],_=>rfl
 | x::r,h=>by
  have h1:kN ρ r=kN ρ' r:=aBe fun y hy=>h y (zR x hy)
  simp only[kN,h x (by simp),h1]
theorem aDJ:∀ {l:List (Nat × Operand)},(∀ x,x∈l.map (·.2)→ρ x=ρ' x)→lL ρ l=lL ρ' l
 | [],_=>rfl
 | (i,x)::r,h=>by
  have h1:lL ρ r=lL ρ' r:=aDJ fun y hy=>h y (by simp only[bK,iR];exact .inr hy)
  simp only[lL,h x (by simp),h1]
theorem aGz {o:Option Operand} (h:∀ x,o=some x→ρ x=ρ' x):nQ ρ o=nQ ρ' o:=by
 cases o with
 | none=>rfl
 | some x=>simp only[nQ,h x rfl]
theorem uH {op:Op} (h:∀ x,x∈op.operands→ρ x=ρ' x):bF C op ρ K=bF C op ρ' K:=by
  cases op
  case build t ps =>
    have:lL ρ ps.toList=lL ρ' ps.toList:=aDJ fun x hx=>h x (by simpa [Op.operands] using hx)
    simp only[bF,this]
  case buildSlice t n ps =>
    have:lL ρ ps.toList=lL ρ' ps.toList:=aDJ fun x hx=>h x (by simpa [Op.operands] using hx)
    simp only[bF,this]
  case makeFunc fn first caps =>
    have h1:kN ρ first.toList=kN ρ' first.toList:=aBe fun x hx=>h x (by simp[Op.operands];exact .inl (by simpa using hx))
    have h2:kN ρ caps.toList=kN ρ' caps.toList:=aBe fun x hx=>h x (by simp[Op.operands];exact .inr (by simpa using hx))
    cases fn<;>simp only[bF,h1,h2]
  case call c =>
    obtain ⟨cal,args,ats⟩:=c;obtain ⟨args⟩:=args;obtain ⟨ats⟩:=ats;have h1:∀ x,x∈args→ρ x=ρ' x:=fun x hx=>h x (by simp[Op.operands,Call.operands,hx])
    simp only[bF];split
    · simp_all
    · simp_all
    · simp_all
    · simp_all
    · simp_all
    · rfl
  case slice t x lo hi mx =>
    have h1:=h x (by simp[Op.operands]);have h2:nQ ρ lo=nQ ρ' lo:=aGz fun y hy=>h y (by simp[Op.operands,hy])
    have h3:nQ ρ hi=nQ ρ' hi:=aGz fun y hy=>h y (by simp[Op.operands,hy])
    cases mx<;>simp only[bF,h1,h2,h3]
  all_goals first
    | rfl
    | (simp only [Op.operands,List.mem_toArray,Array.mem_def,iR,qH,oA,forall_eq_or_imp,forall_eq] at h
       simp only[bF,h])
theorem aHz {op:Op} {KV Kp:St→A→Prop} (h:∀ x,x∈op.operands→ρ x=ρ' x) (hh:aX C op ρ KV Kp s):aX C op ρ' KV Kp s:=by
 have key:aX C op ρ KV Kp s=aX C op ρ' KV Kp s:=by
  cases op
  case load t x =>
   have h1:=h x (by simp[Op.operands]);simp only[aX,h1,uH (C:=C) (K:=KV s) h]
  case store t x y =>
   simp only[aX,h x (by simp[Op.operands]),h y (by simp[Op.operands])]
  case box t x=>simp only[aX,h x (by simp[Op.operands])]
  case panic x=>simp only[aX,h x (by simp[Op.operands])]
  case range t x=>simp only[aX,h x (by simp[Op.operands])]
  case convert a b x =>
   have h1:=h x (by simp[Op.operands]);simp only[aX,h1,uH (C:=C) (K:=KV s) h]
  case makeSlice t a b=>simp only[aX,h a (by simp[Op.operands]),h b (by simp[Op.operands])]
  case next x b =>
   cases b
   ·exact uH (C:=C) (K:=KV s) h
   ·simp only[aX,h x (by simp[Op.operands])]
  case alloc=>rfl
  case buildSlice t len parts=>simp only[aX,uH (C:=C) (K:=KV s) h,uH (C:=C) (K:=zG C s t KV) h]
  case call c =>
   have hs:=uH (C:=C) (K:=KV s) h;obtain ⟨cal,args,ats⟩:=c;obtain ⟨args⟩:=args;obtain ⟨ats⟩:=ats;have h1:∀ x,x∈args→ρ x=ρ' x:=fun x hx=>h x (by simp[Op.operands,Call.operands,hx])
   cases cal with
   | value f=>simp only[aX,h f (by simp[Op.operands,Call.operands]),aBe h1]
   | invoke r m=>exact hs
   | builtin b =>
    cases b
    case append =>
     match args,ats,h1 with
     | [x,y],[t,u],h1=>simp only[aX,h1 x (by simp),h1 y (by simp)]
     | [],_,h1=>rfl
     | [_],_,h1=>rfl
     | _::_::_::_,_,h1=>rfl
     | [_,_],[],h1=>rfl
     | [_,_],[_],h1=>rfl
     | [_,_],_::_::_::_,h1=>rfl
    case unsafeString =>
     match args,ats,h1 with
     | [x,y],[t,u],h1=>simp only[aX,h1 x (by simp),h1 y (by simp)]
     | [],_,h1=>rfl
     | [_],_,h1=>rfl
     | _::_::_::_,_,h1=>rfl
     | [_,_],[],h1=>rfl
     | [_,_],[_],h1=>rfl
     | [_,_],_::_::_::_,h1=>rfl
    case panic =>
     match args,h1 with
     | [],h1=>rfl
     | [x],h1=>simp only[aX,h1 x (by simp)]
     | _::_::_,h1=>rfl
    all_goals exact hs
  case binOp op t x y yt =>
   have hs:=uH (C:=C) (K:=KV s) h;cases op
   case eql=>simp only[aX,hs,h x (by simp[Op.operands]),h y (by simp[Op.operands])]
   all_goals exact hs
  all_goals exact uH (C:=C) (K:=KV s) h
 rw[← key];exact hh
theorem aIh {op:Op} (h:bF C op ρ K):∃ v,K v∧∀ K':A→Prop,K' v→bF C op ρ K':=by
  have one:∀ {o:Option A} {K:A→Prop},(match o with|some v=>K v|none=>False)→∃ v,K v∧o=some v:=by
    intro o K h;cases o with
    | none=>exact h.elim
    | some v=>exact ⟨v,h,rfl⟩
  have cut:∀ {x:A} {lo hi:Option A} {K:A→Prop},rB x lo hi K→∃ v,K v∧∀ K':A→Prop,K' v→rB x lo hi K':=by
    intro x lo hi K h;unfold rB at h ⊢;cases x<;>simp only at h ⊢
    all_goals first
      | exact h.elim
      | (split at h
         · rename_i h1 h2
           exact ⟨_,h.2,fun K' hk=>⟨h.1,hk⟩⟩
         · exact h.elim)
  cases op<;>simp only[bF] at h ⊢
  case move x=>obtain ⟨v,h1,h2⟩:=one h;exact ⟨v,h1,fun K' hk=>by simpa only[h2] using hk⟩
  case assign x=>obtain ⟨v,h1,h2⟩:=one h;exact ⟨v,h1,fun K' hk=>by simpa only[h2] using hk⟩
  case call c =>
    split at h<;>(try exact h.elim)
    · split at h<;>(try exact h.elim)
      split at h<;>(try exact h.elim)
      all_goals (obtain ⟨v,h1,h2⟩:=one h;exact ⟨v,h1,fun K' hk=>by simpa only[h2] using hk⟩)
    · split at h<;>(try exact h.elim)
      all_goals exact ⟨_,h,fun K' hk=>hk⟩
    · split at h<;>(try exact h.elim)
      split at h<;>(try exact h.elim)
      rename_i e hk0;exact ⟨_,h,fun K' hk=>hk⟩
    · split at h<;>(try exact h.elim)
      all_goals exact ⟨_,h,fun K' hk=>hk⟩
    · split at h<;>(try exact h.elim)
      all_goals exact ⟨_,h,fun K' hk=>hk⟩
  case makeFunc fn first caps =>
    cases fn
    all_goals simp only at h ⊢
    · split at h
      · exact ⟨_,h,fun K' hk=>by simp_all only[]⟩
      · exact h.elim
    all_goals exact h.elim
  all_goals
    repeat' split at h
  all_goals first
    | exact h.elim
    | (obtain ⟨v,h1,h2⟩:=one h;exact ⟨v,h1,fun K' hk=>by simp_all only[mQ,hH,reduceIte,reduceCtorEq,bN,dT,fD]⟩)
    | exact ⟨_,h,fun K' hk=>by simp_all only[mQ,hH,reduceIte,reduceCtorEq,bN,dT,fD]⟩
    | exact ⟨_,h.2,fun K' hk=>by simp_all only[mQ,hH,reduceIte,reduceCtorEq,bN,dT,fD]⟩
    | exact ⟨_,h.2.2,fun K' hk=>⟨h.1,h.2.1,hk⟩⟩
    | exact cut h
    | (obtain ⟨v,h1,h2⟩:=cut h.2;exact ⟨v,h1,fun K' hk=>⟨h.1,h2 K' hk⟩⟩)
    | (obtain ⟨hx,hy⟩ := h
       rw[cH hx.2] at hy ⊢;exact ⟨_,hy.2,fun K' hk=>⟨hx,hy.1,hk⟩⟩)
    | (obtain ⟨hx,hy⟩ := h
       rw[cH hx.2] at hy ⊢;exact ⟨_,hy,fun K' hk=>⟨hx,hk⟩⟩)
theorem nY {K':A→Prop} {op:Op} (h:bF C op ρ K) (hk:∀ v,K v→K' v):bF C op ρ K':=by
 obtain ⟨v,h1,h2⟩:=aIh h;exact h2 K' (hk v h1)
theorem yB {op:Op} {KV Kp:St→A→Prop} (h:bF C op ρ (KV s)):aX C op ρ KV Kp s:=by
 cases op
 case load t x =>
  have h':=h;simp only[bF] at h';split at h'
  ·rename_i hx;simp only[aX,hx];exact h
  ·exact h'.elim
 case store=>simp only[bF] at h
 case buildSlice t len parts =>
  simp only[aX];split
  ·exact h
  ·exact .inl h
 case alloc=>simp only[bF] at h
 case box=>simp only[bF] at h
 case panic=>simp only[bF] at h
 case range=>simp only[bF] at h
 case makeSlice=>simp only[bF] at h
 case convert a b x =>
  have h':=h;simp only[bF] at h';split at h'
  ·rename_i hx _ _;simp only[aX,hx];exact h
  ·rename_i hx _ _;simp only[aX,hx];exact h
  ·exact h'.elim
 case next x b=>cases b<;>simp only[bF] at h
 case call c =>
  obtain ⟨cal,args,ats⟩:=c;cases cal with
  | value f=>simp only[bF] at h
  | invoke r m=>simp only[bF] at h
  | builtin b=>cases b<;>first|exact h|(simp only[bF] at h)
 case binOp op t x y yt =>
  cases op
  case eql =>
   simp only[aX];split
   ·exact .inl h
   ·exact h
  all_goals exact h
 all_goals exact h
theorem aBv {o:Ob} {f:Nat→A} {KV KV':St→A→Prop} (h:pJ C s o f KV) (h1:∀ s a,KV s a→KV' s a):pJ C s o f KV':=by
 unfold pJ at *;cases hd:C.det<;>rw[hd] at h
 ·exact fun b hb=>h1 _ _ (h b hb)
 ·exact h1 _ _ h
theorem aEd {n:Nat} {e:TypeId} {ys:List A} {KV KV':St→A→Prop} (h:newT C s n e ys KV) (h1:∀ s a,KV s a→KV' s a):newT C s n e ys KV':=by
 unfold newT at *;cases hd:C.det<;>rw[hd] at h
 ·exact fun b hb=>h1 _ _ (h b hb)
 ·exact h1 _ _ h
theorem aHA {n:Nat} {e:TypeId} {sz:Nat} {ys:List A} {KV KV':St→A→Prop} (h:mY C s n e sz ys KV) (h1:∀ s a,KV s a→KV' s a):mY C s n e sz ys KV':=by
 unfold mY at *;cases hd:C.det<;>rw[hd] at h
 ·cases hm:Nat.beq C.mu 1<;>rw[hm] at h
  ·exact aEd h h1
  ·exact ⟨h.1,fun b cap J a1 a2 a3 a4=>h1 _ _ (h.2 b cap J a1 a2 a3 a4)⟩
 ·exact aEd h h1
theorem aMj {det:Bool} {b n cap:Nat} {e:TypeId} {sz m:Nat} {ys:List A} {o:Option Ob} {KV KV':St→A→Prop} (h:uP det s b n cap e sz m ys KV o) (h1:∀ s a,KV s a→KV' s a) :
  uP det s b n cap e sz m ys KV' o:=by
 unfold uP at *;split at h
 ·exact ⟨h.1,fun b' cap' J a1 a2 a3 a4=>h1 _ _ (h.2 b' cap' J a1 a2 a3 a4)⟩
 ·exact h.elim
theorem aM5 {n:Nat} {e:TypeId} {KV KV':St→A→Prop} (h:wI C s n e KV) (h1:∀ s a,KV s a→KV' s a):wI C s n e KV':=by
 unfold wI at *;cases hd:C.det<;>rw[hd] at h
 ·exact fun b hb=>h1 _ _ (h b hb)
 ·exact h1 _ _ h
theorem aMH {e:TypeId} {bs:List UInt8} {a:A} {KV KV':St→A→Prop} (h:wE C s e bs KV a) (h1:∀ s a,KV s a→KV' s a):wE C s e bs KV' a:=by
 cases a<;>simp only[wE] at h ⊢
 case nils=>exact ⟨h.1,aEd h.2 h1⟩
 case list tk es =>
  cases tk with
  | none=>exact h
  | some t=>exact ⟨h.1,h1 _ _ h.2⟩
theorem aMp {ti:TI} {u:TypeId} {n:Int} {a:A} {KV KV':St→A→Prop} (h:uX C s ti u n KV a) (h1:∀ s a,KV s a→KV' s a):uX C s ti u n KV' a:=by
 cases a<;>simp only[uX] at h ⊢
 split at h
 ·split at h
  ·split at h
   ·exact ⟨h.1,aM5 h.2 h1⟩
   ·exact h.elim
  ·exact h.elim
 ·exact h.elim
theorem aHh {ti:TI} {t u:TypeId} {a:A} {KV KV':St→A→Prop} (h:tJ C s ti t u KV a) (h1:∀ s a,KV s a→KV' s a):tJ C s ti t u KV' a:=by
 unfold tJ at h ⊢;split at h
 ·split at h
  ·refine ⟨h.1,?_⟩;have h2:=h.2;split at h2
   ·exact h1 _ _ h2
   ·exact h1 _ _ h2
   ·exact h1 _ _ h2
   ·exact h1 _ _ h2
   ·exact h2.elim
  ·exact h.elim
 ·exact h.elim
theorem aHg {n sz:Nat} {e:TypeId} {ys:List A} {KV KV':St→A→Prop} (h:qZ C s n e ys sz KV) (h1:∀ s a,KV s a→KV' s a):qZ C s n e ys sz KV':=by
 unfold qZ at *;cases hd:C.det<;>rw[hd] at h
 ·exact fun b hb=>h1 _ _ (h b hb)
 ·exact h1 _ _ h
theorem aMz {ti:TI} {t u:TypeId} {z a:A} {KV KV':St→A→Prop} (h:tM C s ti t u z KV a) (h1:∀ s a,KV s a→KV' s a):tM C s ti t u z KV' a:=by
 unfold tM at h ⊢;split at h
 ·split at h
  ·refine ⟨h.1,?_⟩;have h2:=h.2;split at h2
   ·exact aHg h2 h1
   ·split at h2
    ·exact ⟨h2.1,aHg h2.2 h1⟩
    ·exact h2.elim
   ·exact h2.elim
  ·exact h.elim
 ·exact h.elim
theorem aN7 {k n z:Nat} {ti:TI} {v:A} {KV KV':St→A→Prop} (h:qE C s k n z ti v KV) (h1:∀ s a,KV s a→KV' s a):qE C s k n z ti v KV':=by
 unfold qE at h ⊢;split at h
 ·split at h
  ·exact ⟨h.1,h1 _ _ h.2⟩
  ·exact h.elim
 ·exact h.elim
theorem aBR {op:Op} {KV Kp KV' Kp':St→A→Prop} (h:aX C op ρ KV Kp s) (h1:∀ s a,KV s a→KV' s a) (h2:∀ s a,Kp s a→Kp' s a):aX C op ρ KV' Kp' s:=by
 cases op
 case load t x =>
  simp only[aX] at h ⊢;split at h
  ·split at h
   ·split at h
    ·exact h1 _ _ h
    ·exact h.elim
   ·exact h.elim
  ·exact nY h (h1 s)
 case store t x y =>
  simp only[aX] at h ⊢;split at h
  ·split at h
   ·exact ⟨h.1,h1 _ _ h.2⟩
   ·exact h.elim
  ·exact aN7 h h1
  ·exact h.elim
 case alloc t =>
  simp only[aX] at h ⊢;split at h
  ·exact aBv h h1
  ·exact h.elim
 case box t x =>
  simp only[aX] at h ⊢;split at h
  ·exact ⟨h.1,aBv h.2 h1⟩
  ·exact h.elim
 case panic x =>
  simp only[aX] at h ⊢;split at h
  ·exact h2 _ _ h
  ·exact h.elim
 case buildSlice t len parts =>
  simp only[aX] at h ⊢;split at h
  ·exact nY h (h1 s)
  ·rcases h with h|h
   ·exact .inl (nY h (h1 s))
   ·refine .inr (nY h fun a ha=>?_);unfold zG at ha ⊢;split at ha
    ·split at ha
     ·exact fun k hk=>h1 _ _ (ha k hk)
     ·exact ha.elim
    ·exact ha.elim
 case convert a b x =>
  simp only[aX] at h ⊢;split at h
  ·split at h
   ·split at h
    ·exact ⟨h.1,h1 _ _ h.2⟩
    ·exact h.elim
   ·exact h.elim
  ·exact nY h (h1 s)
 case makeSlice t a b =>
  simp only[aX] at h ⊢;split at h
  ·split at h
   ·split at h
    ·exact ⟨h.1,aBv h.2 h1⟩
    ·exact h.elim
   ·exact h.elim
  ·exact h.elim
 case range t x =>
  simp only[aX] at h ⊢;split at h
  ·split at h
   ·exact aBv h h1
   ·exact h.elim
  ·exact h.elim
 case next x b =>
  cases b
  ·simp only[aX,bF] at h
  simp only[aX] at h ⊢;split at h
  ·split at h
   ·unfold aAM at h ⊢;split at h
    ·rename_i hp;rw[if_pos hp];exact h1 _ _ h
    ·rename_i hp;rw[if_neg hp];exact h1 _ _ h
   ·exact h.elim
  ·exact h.elim
 case call c =>
  obtain ⟨cal,args,ats⟩:=c;obtain ⟨args⟩:=args;obtain ⟨ats⟩:=ats;cases cal with
  | value f =>
   simp only[aX] at h ⊢;split at h
   ·exact Den.mono h h1 h2
   ·exact h.elim
  | invoke r m=>refine yB (nY (K:=KV s) ?_ (h1 s));exact h
  | builtin b =>
   cases b
   case append =>
    match args,ats,h with
    | [x,y],[t,u],h =>
     simp only[aX] at h ⊢;split at h
     ·split at h
      ·split at h
       ·obtain ⟨a1,a2,a3⟩:=h;refine ⟨a1,a2,?_⟩;unfold sB at a3 ⊢;split at a3
        ·exact ⟨a3.1,aHA a3.2 h1⟩
        ·split at a3
         ·exact h1 _ _ a3
         ·exact ⟨a3.1,aHA a3.2 h1⟩
        ·exact aMj a3 h1
        ·exact ⟨a3.1,a3.2.1,a3.2.2.1,h1 _ _ a3.2.2.2⟩
        ·exact a3.elim
       ·exact h.elim
      ·exact h.elim
     ·split at h
      ·exact aMH h h1
      ·exact h.elim
     ·exact aMp h h1
     ·exact aHh h h1
     ·exact aHh h h1
     ·exact aMz h h1
     ·exact h.elim
    | [],_,h=>simp only[aX] at h
    | [_],_,h=>simp only[aX] at h
    | _::_::_::_,_,h=>simp only[aX] at h
    | [_,_],[],h=>simp only[aX] at h
    | [_,_],[_],h=>simp only[aX] at h
    | [_,_],_::_::_::_,h=>simp only[aX] at h
   case unsafeString =>
    match args,ats,h with
    | [x,y],[t,u],h =>
     simp only[aX] at h ⊢;split at h
     ·exact ⟨h.1,h1 _ _ h.2⟩
     ·split at h
      ·obtain ⟨a1,bs,a2,a3⟩:=h;exact ⟨a1,bs,a2,h1 _ _ a3⟩
      ·exact h.elim
     ·exact h.elim
    | [],_,h=>simp only[aX] at h
    | [_],_,h=>simp only[aX] at h
    | _::_::_::_,_,h=>simp only[aX] at h
    | [_,_],[],h=>simp only[aX] at h
    | [_,_],[_],h=>simp only[aX] at h
    | [_,_],_::_::_::_,h=>simp only[aX] at h
   case panic =>
    match args,h with
    | [],h=>simp only[aX] at h
    | [x],h =>
     simp only[aX] at h ⊢;split at h
     ·exact h2 _ _ h
     ·exact h.elim
    | _::_::_,h=>simp only[aX] at h
   all_goals (refine yB (nY (K:=KV s) ?_ (h1 s));exact h)
 case binOp op t x y yt =>
  cases op
  case eql =>
   simp only[aX] at h ⊢;split at h
   ·rcases h with h|⟨hn,ht,hf⟩
    ·exact .inl (nY h (h1 s))
    ·exact .inr ⟨hn,h1 _ _ ht,h1 _ _ hf⟩
   ·exact nY h (h1 s)
  all_goals (refine yB (nY (K:=KV s) ?_ (h1 s));exact h)
 all_goals (refine yB (nY (K:=KV s) ?_ (h1 s));exact h)
end
end
end Go.AV
