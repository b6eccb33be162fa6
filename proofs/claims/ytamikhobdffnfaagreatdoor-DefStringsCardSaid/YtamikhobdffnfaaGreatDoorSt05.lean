/-
  Of DefStrings.
-/
import Derived.Test.YtamikhobdffnfaaGreatDoorSt04
import Derived.Deep.LoopGhost
set_option linter.all false
set_option maxRecDepth 99999
set_option maxHeartbeats 0
namespace Go.AV
open Go Go.Proofs Tryz
section
section
variable {C:Cx} {F:Fr} {g:Gh} {s:St} {w:World} {ρ:Operand→Option A} {ev:Operand→Value}
theorem aDQ {t:TypeId} {v:Value} (P:Program) (w:World):(Instr.panic (.iface t v)).run P w=.halt (.panic (.iface t v)) w:=rfl
theorem aGH {KV Kp:St→A→Prop} {op:Op} {ty:TypeId} {dst:Option Tmp} {pos:String} {after:Array Edge} {gd:Option (Nat × Bool)}
  (hR:R C.toCtx F g s w) (he:∀ x a,ρ x=some a→Rz g a (ev x)) (h:aJ C op ρ KV Kp s) :
  OutV C F g KV Kp ((execOp ev ⟨dst,op,ty,pos,after,gd⟩).run C.P w):=by
 cases op
 case load=>exact aNf hR he h
 case store=>exact aLW hR he h
 case alloc=>exact aL2 hR h
 case box=>exact aOJ hR he h
 case buildSlice t len parts =>
  simp only[aJ] at h;split at h
  ·exact lW (oO hR he h)
  ·rename_i ho;rcases h with h|h
   ·exact lW (oO hR he h)
   ·refine aJr hR he ?_ h;unfold xF at ho;split at ho
    ·cases ho
    ·assumption
 case range=>exact aLZ hR he h
 case makeSlice=>exact aIJ hR he h
 case convert=>exact aKp hR he h
 case next=>exact aMD hR he h
 case panic x =>
  simp only[aJ] at h;split at h
  ·rename_i t a hx;obtain ⟨v,hv,hr⟩:=(he x _ hx).iface_inv;simp only[execOp,hv,aV,aDQ,Result.andThen_halt];exact ⟨g,_,s,dX g,hR,.iface t a v hr,h⟩
  ·exact h.elim
 case call c =>
  obtain ⟨cal,args,ats⟩:=c;cases cal with
  | value f =>
   simp only[aJ] at h;split at h
   ·rename_i fid first caps az hf has
    obtain ⟨us,vs,hv,r1,r2⟩:=(he f _ hf).fn_inv;have r3:=zB he has;have hd:=h F g w _ hR ((r1.append r3).append r2);have e1:args.map ev=(args.toList.map ev).toArray:=by rw[← iD,Array.toArray_toList]
    simp only[execOp,resolve,hv,Deferred.ofValue,aV,bC,aW,invoke,e1];simpa using hd
   ·exact h.elim
  | invoke r m=>exact lW (oO hR he h)
  | builtin b =>
   by_cases hb:b=.append
   ·subst hb;obtain ⟨al⟩:=args;obtain ⟨tl⟩:=ats
    match al,tl,h with
    | [x,y],[t,u],h=>exact aLg hR he h
    | [],_,h=>simp only[aJ] at h
    | [_],_,h=>simp only[aJ] at h
    | _::_::_::_,_,h=>simp only[aJ] at h
    | [_,_],[],h=>simp only[aJ] at h
    | [_,_],[_],h=>simp only[aJ] at h
    | [_,_],_::_::_::_,h=>simp only[aJ] at h
   ·by_cases hu:b=.unsafeString
    ·subst hu;obtain ⟨al⟩:=args;obtain ⟨tl⟩:=ats
     match al,tl,h with
     | [x,y],[t,u],h=>exact aMT hR he h
     | [],_,h=>simp only[aJ] at h
     | [_],_,h=>simp only[aJ] at h
     | _::_::_::_,_,h=>simp only[aJ] at h
     | [_,_],[],h=>simp only[aJ] at h
     | [_,_],[_],h=>simp only[aJ] at h
     | [_,_],_::_::_::_,h=>simp only[aJ] at h
    by_cases hp:b=.panic
    ·subst hp;simp only[aJ] at h;split at h
     ·rename_i x hx;split at h
      ·rename_i t a hxa;obtain ⟨v,hv,hr⟩:=(he x _ hxa).iface_inv;obtain ⟨al⟩:=args;simp only at hx;subst hx;simp only[execOp,resolve,invoke,builtin,aV,bC,aW,iD,bU,bD,hv,aBh,kX,iJ,Option.getD_some,aDQ,Result.andThen_halt];exact ⟨g,_,s,dX g,hR,.iface t a v hr,h⟩
      ·exact h.elim
     ·exact h.elim
    ·have h':aQ C (.call ⟨.builtin b,args,ats⟩) ρ (KV s):=by
      cases b<;>first|exact absurd rfl hb|exact absurd rfl hp|exact absurd rfl hu|exact h
     exact lW (oO hR he h')
 case binOp op t x y yt =>
  cases op
  case eql =>
   simp only[aJ] at h;split at h
   ·rename_i tk ha hb;rcases h with h|⟨hn,ht,hf⟩
    ·exact lW (oO hR he h)
    ·refine lW (s:=s) ?_;have ra:=he x _ ha;have rb:=he y _ hb;simp only[execOp];obtain ⟨ad,cap,hv,_⟩:=ra.list_inv;rw[hv,rb.nils_inv];obtain ⟨r,h1,h2⟩:=C.hnl t hn ad _ cap w .eql x y (.inl rfl);rw[if_pos rfl] at h2;have hK:KV s (.bool r):=by cases r<;>assumption
     refine dB (v:=.bool r) hR ?_ (.bool _) hK;rw[aV,h1,aW,h2]
   ·exact lW (oO hR he h)
  all_goals exact lW (oO hR he h)
 all_goals exact lW (oO hR he h)
end
structure EnvOk (g:Gh) (n:Nat) (e:Env) (tmps:Array Value):Prop where
 size:tmps.size=n
 val:∀ t a,e.get t=some a→∃ v,tmps[t]?=some v∧Rz g a v
theorem EnvOk.mono {g g':Gh} (hg:g.le g') {n:Nat} {e:Env} {tmps:Array Value} (h:EnvOk g n e tmps):EnvOk g' n e tmps :=
 ⟨h.size,fun t a ha=>let ⟨v,h1,h2⟩:=h.val t a ha;⟨v,h1,h2.mono hg⟩⟩
theorem EnvOk.nil {g:Gh} {n:Nat} {tmps:Array Value} (h:tmps.size=n):EnvOk g n [] tmps:=⟨h,fun t a ha=>by cases ha⟩
theorem EnvOk.sub {g:Gh} {n:Nat} {e e':Env} {tmps:Array Value} (h:EnvOk g n e tmps) (he:∀ t a,e'.get t=some a→e.get t=some a):EnvOk g n e' tmps :=
 ⟨h.size,fun t a ha=>h.val t a (he t a ha)⟩
theorem EnvOk.put {g:Gh} {n:Nat} {e:Env} {a:Act} {d:Nat} {x:A} {v:Value} (h:EnvOk g n e a.tmps) (hd:d<n) (hv:Rz g x v) :
  EnvOk g n (e.put d x) (a.put (some d) v).tmps:=by
 refine ⟨by simp[Act.put,h.size],fun t y hy=>?_⟩;rw[iU] at hy;show ∃ u,(a.tmps.setIfInBounds d v)[t]?=some u∧_
 by_cases ht:d=t
 ·subst ht;simp only[↓reduceIte,aP] at hy;subst hy;exact ⟨v,by simp[Array.getElem?_setIfInBounds,h.size,hd],hv⟩
 ·simp only[ht,↓reduceIte] at hy;obtain ⟨u,h1,h2⟩:=h.val t y hy;exact ⟨u,by rw[xO ht];exact h1,h2⟩
theorem EnvOk.del {g:Gh} {n:Nat} {e:Env} {a:Act} {d:Nat} {v:Value} (h:EnvOk g n e a.tmps) :
  EnvOk g n (e.del d) (a.put (some d) v).tmps:=by
 refine ⟨by simp[Act.put,h.size],fun t y hy=>?_⟩;rw[Env.get_del] at hy;show ∃ u,(a.tmps.setIfInBounds d v)[t]?=some u∧_
 by_cases ht:d=t
 ·simp[ht] at hy
 ·simp only[ht,↓reduceIte] at hy;obtain ⟨u,h1,h2⟩:=h.val t y hy;exact ⟨u,by rw[xO ht];exact h1,h2⟩
theorem EnvOk.oper {C:Cx} {F:Fr} {g:Gh} {s:St} {w:World} {n:Nat} {e:Env} {a:Act} (hR:R C.toCtx F g s w) (h:EnvOk g n e a.tmps) :
  ∀ x v,cT C e x=some v→Rz g v (a.eval x):=by
 intro x v hv;cases x with
 | tmp t =>
  obtain ⟨u,h1,h2⟩:=h.val t v hv;simpa [Act.eval,aBh,h1] using h2
 | const c=>exact aJL hv
 | global k =>
  simp only[cT] at hv;split at hv
  ·rename_i cs hcs;simp only[aP] at hv;subst hv;obtain ⟨pre,_,_,_,hp,hl,h1,hr⟩:=hR.gpi hcs;exact .eptr cs 0 k 0 pre hp (by omega) h1 (fun j c v hc hv=>hr j c v hc (by simpa using hv))
  ·simp at hv
 | func f =>
  simp only[cT,aP] at hv;subst hv;exact .fn f [] [] [] [] rfl rfl (by simp) (by simp)
inductive XK where
 | normal
 | exit (id:Nat)
 | goto (l:Nat)
 | ret
 | panic (a:A)
def XRz (g:Gh):XK→Exit→Prop
 | .normal,.normal=>True
 | .exit i,.exit j=>i=j
 | .goto i,.goto j=>i=j
 | .ret,.ret=>True
 | .panic a,.panic jF=>∃ v,jF=[{ v:=v,recovered:=false }]∧Rz g a v
 | _,_=>False
def Post (C:Cx) (F:Fr) (g:Gh) (n:Nat) (D:List Deferred) (Q:XK→Env→St→Prop) (ex:Exit) (a:Act) (w:World):Prop :=
 ∃ g' e s x,g.le g'∧R C.toCtx F g' s w∧EnvOk g' n e a.tmps∧a.defers=D∧XRz g' x ex∧Q x e s
def Ex (C:Cx) (n:Nat) (c:Code) (Q:XK→Env→St→Prop) (e:Env) (s:St):Prop :=
 ∀ F g w a,R C.toCtx F g s w→EnvOk g n e a.tmps→c.wp C.P (Post C F g n a.defers Q) a w
theorem Post.mono {C:Cx} {F:Fr} {g g':Gh} (hg:g.le g') {n:Nat} {D:List Deferred} {Q Q':XK→Env→St→Prop} {ex:Exit} {a:Act} {w:World}
  (h:Post C F g' n D Q ex a w) (hQ:∀ x e s,Q x e s→Q' x e s):Post C F g n D Q' ex a w:=by
 obtain ⟨g2,e,s,x,h1,h2,h3,h4,h5,h6⟩:=h;exact ⟨g2,e,s,x,hg.trans h1,h2,h3,h4,h5,hQ _ _ _ h6⟩
def bJ (n:Nat) (dst:Option Tmp) (K:Env→St→Prop) (e:Env) (s:St) (v:A):Prop :=
 match dst with
 | some d=>d<n∧K (e.put d v) s
 | none=>K e s
def gS:List (Option Tmp)→Nat→Option Tmp
 | [],_=>none
 | d::_,0=>d
 | _::r,n+1=>gS r n
def dV (C:Cx) (n:Nat) (ds:List (Option Tmp)):List Oper→(Env→St→Prop)→(St→A→Prop)→Env→St→Prop
 | [],K,_,e,s=>K e s
 | ⟨dst,op,_,_,_,none⟩::r,K,Kp,e,s=>aJ C op (cT C e) (bJ n dst (dV C n ds r K Kp) e) Kp s
 | ⟨dst,op,_,_,_,some (j,want)⟩ :: r,K,Kp,e,s =>
  match gS ds j with
  | none=>False
  | some t=>match e.get t with
   | some (.bool b) =>
    match b with
    | true=>match want with
     | true=>aJ C op (cT C (e.put t (.bool true))) (bJ n dst (dV C n ds r K Kp) (e.put t (.bool true))) Kp s
     | false=>bJ n dst (dV C n ds r K Kp) (e.put t (.bool true)) s (.tuple [])
    | false=>match want with
     | false=>aJ C op (cT C (e.put t (.bool false))) (bJ n dst (dV C n ds r K Kp) (e.put t (.bool false))) Kp s
     | true=>bJ n dst (dV C n ds r K Kp) (e.put t (.bool false)) s (.tuple [])
   | some (.tuple _)=>bJ n dst (dV C n ds r K Kp) e s (.tuple [])
   | _=>False
end
section
def Env.ge (e e':Env):Prop:=∀ t a,e'.get t=some a→e.get t=some a
theorem Env.ge.refl (e:Env):e.ge e:=fun _ _ h=>h
theorem aEg (V:List Nat) (e:Env):e.ge (e.keep V):=fun t a h=>aIv V e t a h
def Env.rem (ds:List (Option Tmp)):Env→Env
 | []=>[]
 | (k,u)::e=>if ds.elem (some k) then Env.rem ds e else (k,u)::Env.rem ds e
theorem kZ (ds:List (Option Tmp)):∀ (e:Env) (t:Nat),(e.rem ds).get t=if ds.elem (some t) then none else e.get t
 | [],t=>by simp[Env.rem,Env.get]
 | (k,u)::e,t=>by
  have ih:=kZ ds e t;simp only[Env.rem];by_cases hk:ds.elem (some k)=true
  ·rw[if_pos hk,ih];by_cases ht:k=t
   ·subst ht;simp only[hk,↓reduceIte]
   ·simp only[Env.get,ht,↓reduceIte]
  ·rw[if_neg hk];by_cases ht:k=t
   ·subst ht;rw[if_neg hk];simp only[Env.get,↓reduceIte]
   ·simp only[Env.get,ht,↓reduceIte,ih]
theorem EnvOk.other {g:Gh} {n:Nat} {e0:Env} {a:Act} {dst:Option Tmp} {v:Value} (h:EnvOk g n e0 a.tmps) (hd:∀ d,dst=some d→e0.get d=none):EnvOk g n e0 (a.put dst v).tmps:=by
 cases dst with
 | none=>exact h
 | some d =>
  have h0:=hd d rfl;have e1:(a.put (some d) v).tmps=a.tmps.setIfInBounds d v:=rfl;refine ⟨by rw[e1];simpa using h.size,fun t x hx=>?_⟩;obtain ⟨u,h1,h2⟩:=h.val t x hx;have:d≠t:=by rintro rfl;rw[h0] at hx;cases hx
  exact ⟨u,by rw[e1,xO this];exact h1,h2⟩
section
variable {C:Cx} {F:Fr} {g g0:Gh} {s:St} {w:World} {n:Nat}
theorem yA (a:Act) (d:Option Tmp) (v:Value):(a.put d v).defers=a.defers:=by cases d<;>rfl
theorem R.unframe (h:R C.toCtx F g s w) {F0:Fr} (hF:∀ k o,F0 k=some o→F k=some o) (hG:∀ k o p,F k=some (o,some p)→F0 k=some (o,some p)):R C.toCtx F0 g s w where
 env:=h.env
 obj:=fun b o hb=>by
  obtain ⟨k,h1,h2,h3,h4⟩:=h.obj b o hb;refine ⟨k,h1,h2,h3,?_⟩;cases hk:F0 k with
  | none=>rfl
  | some x=>rw[hF k x hk] at h4;cases h4
 tok:=fun t n e ht=>by
  obtain ⟨v,xs,h1,h2,h3,h4⟩:=h.tok t n e ht;refine ⟨v,xs,h1,h2,h3,fun b hb=>⟨(h4 b hb).1,?_⟩⟩;cases hk:F0 b with
  | none=>rfl
  | some x=>have:=(h4 b hb).2;rw[hF b x hk] at this;cases this
 sep:=h.sep
 pis:=h.pis
 frm:=fun b o hb=>h.frm b o (hF b o hb)
 glb:=fun b cs hb=>by
  obtain ⟨pre,ty,fr,hp,h1⟩:=h.glb b cs hb;exact ⟨pre,ty,fr,hG _ _ _ hp,h1⟩
 fsh:=h.fsh
 bet:=h.bet
 inj:=h.inj
 dtm:=h.dtm
 lst:=h.lst
 bfr:=fun b k hb=>by
  cases hk:F0 k with
  | none=>rfl
  | some x=>have:=h.bfr b k hb;rw[hF k x hk] at this;cases this
theorem aDJ {F0:Fr} (hF:∀ k o,F0 k=some o→F k=some o) (hG:∀ k o p,F k=some (o,some p)→F0 k=some (o,some p)) {o:Oper} {a:Act} {e e0:Env} {D:List Deferred} {K:Env→St→Prop} {Kp:St→A→Prop} {Q:XK→Env→St→Prop}
  {next:Act→World→Prop} (hg:g0.le g) (he:EnvOk g n e a.tmps) (he0:EnvOk g n e0 a.tmps) (hds:∀ d,o.dst=some d→e0.get d=none) (hD:a.defers=D)
  (hnext:∀ g' v w' e' s',g.le g'→R C.toCtx F g' s' w'→EnvOk g' n e' (a.put o.dst v).tmps→EnvOk g' n e0 (a.put o.dst v).tmps→(a.put o.dst v).defers=D→K e' s'→next (a.put o.dst v) w')
  (hKp:∀ s v,Kp s v→Q (.panic v) e0 s) {r:Result Next}
  (h:OutV C F g (bJ n o.dst K e) Kp r):o.upon C.P a next (Post C F0 g0 n D Q) r:=by
 have hput:∀ g' v av s' w',g.le g'→R C.toCtx F g' s' w'→Rz g' av v→bJ n o.dst K e s' av→next (a.put o.dst v) w':=by
  intro g' v av s' w' h1 h2 h3 h4;have he':=he.mono h1;unfold bJ at h4;cases hd:o.dst with
  | none=>rw[hd] at h4;rw[hd] at hnext;exact hnext g' v w' e s' h1 h2 he' (he0.mono h1) hD h4
  | some d =>
   rw[hd] at h4;rw[hd] at hnext;exact hnext g' v w' _ s' h1 h2 (he'.put h4.1 h3) ((he0.mono h1).other fun d' hd'=>by cases hd';exact hds d hd) (by rw[yA];exact hD) h4.2
 have hpan:∀ g' v av s' w',g.le g'→R C.toCtx F g' s' w'→Rz g' av v→Kp s' av→Post C F0 g0 n D Q (.panic [{ v:=v,recovered:=false }]) a w' :=
  fun g' v av s' w' h1 h2 h3 h4=>⟨g',e0,s',.panic av,hg.trans h1,h2.unframe hF hG,he0.mono h1,hD,⟨v,rfl,h3⟩,hKp _ _ h4⟩
 cases r with
 | ok x w' =>
  cases x<;>simp only[OutV] at h
  case value v =>
   obtain ⟨g',av,s',h1,h2,h3,h4⟩:=h;exact hput g' v av s' w' h1 h2 h3 h4
  case skip =>
   obtain ⟨g',s',h1,h2,h3⟩:=h;exact hput g' undef (.tuple []) s' w' h1 h2 (.tuple [] [] rfl (by simp)) h3
  case enter f args =>
   refine Calls.mono h fun en w'' hp=>?_
   cases en with
   | returned v=>obtain ⟨g',av,s',h1,h2,h3,h4⟩:=hp;exact hput g' v av s' w'' h1 h2 h3 h4
   | panicked jF=>obtain ⟨g',av,v,s',rfl,h1,h2,h3,h4⟩:=hp;exact hpan g' v av s' w'' h1 h2 h3 h4
   | outgrown=>exact hp.elim
 | halt x w' =>
  cases x<;>simp only[OutV] at h
  obtain ⟨g',av,s',h1,h2,h3,h4⟩:=h;exact hpan g' _ av s' w' h1 h2 h3 h4
theorem aCl (ops:Array Oper):∀ (j:Nat),gS (ops.toList.map (·.dst)) j=(ops[j]?).bind (·.dst):=by
 obtain ⟨l⟩:=ops
 induction l with
 | nil=>intro j;simp[gS]
 | cons o l ih =>
  intro j;cases j with
  | zero=>simp[gS]
  | succ j=>simpa [gS] using ih j
theorem aEn {ops:Array Oper} {j t:Nat} {e:Env} {b:Bool} {tmps:Array Value} (hd:gS (ops.toList.map (·.dst)) j=some t)
  (he:EnvOk g n e tmps) (hb:e.get t=some (.bool b)):yielded ops tmps j=some b:=by
 obtain ⟨v,h1,h2⟩:=he.val t _ hb;rw[aCl] at hd;simp[yielded,hd,h1,h2.bool_inv]
theorem aDP {ops:Array Oper} {j t:Nat} {e:Env} {l:List A} {tmps:Array Value} (hd:gS (ops.toList.map (·.dst)) j=some t)
  (he:EnvOk g n e tmps) (hb:e.get t=some (.tuple l)):yielded ops tmps j=none:=by
 obtain ⟨v,h1,h2⟩:=he.val t _ hb;obtain ⟨vs,rfl,_⟩:=h2.tuple_inv;rw[aCl] at hd;simp[yielded,hd,h1]
theorem aGN {ops:Array Oper} {e0:Env} {D:List Deferred} {K:Env→St→Prop} {Kp:St→A→Prop} {Q:XK→Env→St→Prop}
  (hK:∀ e s,K e s→∃ e',e.ge e'∧Q .normal e' s) (hKp:∀ s v,Kp s v→Q (.panic v) e0 s) :
  ∀ (l:List Oper) (g:Gh) (e:Env) (s:St) (a:Act) (w:World),(∀ o,o∈l→∀ d,o.dst=some d→e0.get d=none)→g0.le g→R C.toCtx F g s w→EnvOk g n e a.tmps→EnvOk g n e0 a.tmps→a.defers=D →
   dV C n (ops.toList.map (·.dst)) l K Kp e s→wpList C.P ops (Post C F g0 n D Q) l a w
 | [],g,e,s,a,w,hds,hg,hR,he,he0,hD,h=>by
  obtain ⟨e',h1,h2⟩:=hK _ _ h;exact ⟨g,e',s,.normal,hg,hR,he.sub h1,hD,trivial,h2⟩
 | ⟨dst,op,ty,pos,after,gd⟩ :: r,g,e,s,a,w,hds,hg,hR,he,he0,hD,h => by
  have hd0:∀ d,dst=some d→e0.get d=none:=hds ⟨dst,op,ty,pos,after,gd⟩ (by simp)
  have hdr:∀ o,o∈r→∀ d,o.dst=some d→e0.get d=none:=fun o ho=>hds o (by simp[ho])
  have ih:=aGN (ops:=ops) (D:=D) hK hKp r
  have run:∀ e',EnvOk g n e' a.tmps→aJ C op (cT C e') (bJ n dst (dV C n (ops.toList.map (·.dst)) r K Kp) e') Kp s →
    (⟨dst,op,ty,pos,after,gd⟩:Oper).wp C.P a w (wpList C.P ops (Post C F g0 n D Q) r) (Post C F g0 n D Q):=by
   intro e' he' hev;have:=aGH (ev:=a.eval) (ty:=ty) (dst:=dst) (pos:=pos) (after:=after) (gd:=gd) hR (he'.oper hR) hev;exact aDJ (fun _ _ h=>h) (fun _ _ _ h=>h) (o:=⟨dst,op,ty,pos,after,gd⟩) hg he' he0 hd0 hD (fun g' a' w' e2 s' h1 h2 h3 h3' h4 h5=>ih g' e2 s' _ w' hdr (hg.trans h1) h2 h3 h3' h4 h5) hKp this
  have skip:∀ e',EnvOk g n e' a.tmps→bJ n dst (dV C n (ops.toList.map (·.dst)) r K Kp) e' s (.tuple []) →
    wpList C.P ops (Post C F g0 n D Q) r (a.put dst undef) w:=by
   intro e' he' hs;unfold bJ at hs;cases hdst:dst with
   | none=>rw[hdst] at hs;exact ih g e' s a w hdr hg hR he' he0 hD hs
   | some d=>rw[hdst] at hs;exact ih g _ s _ w hdr hg hR (he'.put hs.1 (.tuple [] [] rfl (by simp))) (he0.other fun d' hd'=>by cases hd';exact hd0 d hdst) (by rw[yA];exact hD) hs.2
  cases gd with
  | none =>
   simp only[dV] at h;unfold wpList;rw[if_pos (by simp[Region.wanted])];exact .inl (run e he h)
  | some jw =>
   obtain ⟨j,want⟩:=jw;simp only[dV] at h;split at h
   ·exact h.elim
   ·rename_i t ht;split at h
    ·rename_i b hb;have hy:=aEn (b:=b) ht he hb
     have he':EnvOk g n (e.put t (.bool b)) a.tmps:=he.sub fun u x hx=>by
      rw[iU] at hx;by_cases hu:t=u
      ·subst hu;simp only[↓reduceIte] at hx;rw[hb];exact hx
      ·simpa only[hu,↓reduceIte] using hx
     unfold wpList
     have hw:Region.wanted (⟨dst,op,ty,pos,after,some (j,want)⟩:Oper) (yielded ops a.tmps)=(b == want):=by
      simp only[Region.wanted,hy];cases b<;>cases want<;>rfl
     cases b<;>cases want<;>simp only at h
     ·rw[if_pos (by rw[hw];rfl)];exact .inl (run _ he' h)
     ·rw[if_neg (by rw[hw];decide)];exact skip _ he' h
     ·rw[if_neg (by rw[hw];decide)];exact skip _ he' h
     ·rw[if_pos (by rw[hw];rfl)];exact .inl (run _ he' h)
    ·rename_i l hb;have hy:=aDP ht he hb;unfold wpList;rw[if_neg (by simp[Region.wanted,hy])];exact skip _ he h
    ·exact h.elim
theorem aB6 (e:Env) {ops:Array Oper}:∀ o,o∈ops.toList→∀ d,o.dst=some d→(e.rem (ops.toList.map (·.dst))).get d=none:=by
 intro o ho d hd;rw[kZ,if_pos];rw[List.elem_eq_mem];simp only[cG,cO];exact ⟨o,ho,hd⟩
theorem aCT {e:Env} {ds:List (Option Tmp)} {tmps:Array Value} (he:EnvOk g n e tmps):EnvOk g n (e.rem ds) tmps:=he.sub fun t a h=>by
 rw[kZ] at h;split at h
 ·cases h
 ·exact h
theorem Ex.region {id:Nat} {ops:Array Oper} {Q:XK→Env→St→Prop} {K:Env→St→Prop} {Kp:St→A→Prop} {e:Env}
  (hK:∀ e s,K e s→∃ e',e.ge e'∧Q .normal e' s) (hKp:∀ s v,Kp s v→Q (.panic v) (e.rem (ops.toList.map (·.dst))) s)
  (h:dV C n (ops.toList.map (·.dst)) ops.toList K Kp e s):Ex C n (.region id ops false) Q e s:=fun F g w a hR he =>
 wp_region_list (aGN hK hKp ops.toList g e s a w (aB6 e) (dX g) hR he (aCT he) rfl h)
end
section
variable {C:Cx} {n:Nat} {Q:XK→Env→St→Prop} {e:Env} {s:St}
theorem Ex.mono {c:Code} {Q':XK→Env→St→Prop} (h:Ex C n c Q e s) (hQ:∀ x e s,Q x e s→Q' x e s):Ex C n c Q' e s :=
 fun F g w a hR he=>iK (fun ex a' w' hp=>Post.mono (dX g) hp hQ) (h F g w a hR he)
theorem aK8 {c:Code} {Q':XK→Env→St→Prop} (h:Ex C n c Q e s) (hQ:∀ x e s,Q x e s→∃ e',e.ge e'∧Q' x e' s):Ex C n c Q' e s :=
 fun F g w a hR he=>iK (fun ex a' w' hp=>by
  obtain ⟨g',e',s',x,h1,h2,h3,h4,h5,h6⟩:=hp;obtain ⟨e2,h7,h8⟩:=hQ _ _ _ h6;exact ⟨g',e2,s',x,h1,h2,h3.sub h7,h4,h5,h8⟩) (h F g w a hR he)
theorem Ex.skip (h:Q .normal e s):Ex C n .skip Q e s:=fun F g w a hR he=>wp_skip ⟨g,e,s,.normal,dX g,hR,he,rfl,trivial,h⟩
theorem Ex.label {l:Nat} (h:Q .normal e s):Ex C n (.label l) Q e s:=fun F g w a hR he=>wp_label ⟨g,e,s,.normal,dX g,hR,he,rfl,trivial,h⟩
theorem Ex.exit {i:Nat} (h:Q (.exit i) e s):Ex C n (.exit i) Q e s:=fun F g w a hR he=>wp_exit ⟨g,e,s,.exit i,dX g,hR,he,rfl,rfl,h⟩
theorem Ex.goto {i:Nat} (h:Q (.goto i) e s):Ex C n (.goto i) Q e s:=fun F g w a hR he=>wp_goto ⟨g,e,s,.goto i,dX g,hR,he,rfl,rfl,h⟩
theorem Ex.ret (h:Q .ret e s):Ex C n .ret Q e s:=fun F g w a hR he=>wp_ret ⟨g,e,s,.ret,dX g,hR,he,rfl,trivial,h⟩
def jO (R:Env→St→Prop) (Q:XK→Env→St→Prop):XK→Env→St→Prop
 | .normal,e,s=>R e s
 | x,e,s=>Q x e s
theorem Ex.seq {c d:Code} (h:Ex C n c (jO (Ex C n d Q) Q) e s):Ex C n (.seq c d) Q e s:=fun F g w a hR he=>by
 refine wp_seq (iK (fun ex a' w' hp=>?_) (h F g w a hR he));obtain ⟨g',e',s',x,h1,h2,h3,h4,h5,h6⟩:=hp;cases ex<;>cases x<;>try exact h5.elim
 ·have:=h6 F g' w' a' h2 h3;rw[h4] at this;exact iK (fun ex a2 w2 hp=>Post.mono h1 hp fun _ _ _ h=>h) this
 all_goals exact ⟨g',e',s',_,h1,h2,h3,h4,h5,h6⟩
def nP (i:Nat) (Q:XK→Env→St→Prop):XK→Env→St→Prop
 | .exit j,e,s=>if j=i then Q .normal e s else Q (.exit j) e s
 | x,e,s=>Q x e s
theorem Ex.block {i:Nat} {c:Code} (h:Ex C n c (nP i Q) e s):Ex C n (.block i c) Q e s:=fun F g w a hR he=>by
 refine wp_block (iK (fun ex a' w' hp=>?_) (h F g w a hR he));obtain ⟨g',e',s',x,h1,h2,h3,h4,h5,h6⟩:=hp;cases ex<;>cases x<;>try exact h5.elim
 case exit.exit j k =>
  simp only[XRz] at h5;subst h5;simp only[nP] at h6;simp only[Exit.inBlock];split at h6
  ·rename_i hk;rw[if_pos hk];exact ⟨g',e',s',.normal,h1,h2,h3,h4,trivial,h6⟩
  ·rename_i hk;rw[if_neg hk];exact ⟨g',e',s',.exit _,h1,h2,h3,h4,rfl,h6⟩
 all_goals exact ⟨g',e',s',_,h1,h2,h3,h4,h5,h6⟩
theorem Ex.cond {c:Operand} {x y:Code} {b:Bool} (hc:cT C e c=some (.bool b)) (h:Ex C n (if b then x else y) Q e s):Ex C n (.cond c x y) Q e s:=fun F g w a hR he =>
 wp_cond (((he.oper hR) c _ hc).bool_inv) (h F g w a hR he)
theorem Ex.weaken {c:Code} {e':Env} {s':St} (he:e.ge e') (hs:s.ge s') (h:Ex C n c Q e' s') (hd:C.det=false:=by rfl):Ex C n c Q e s:=fun F g w a hR hE =>
 h F g w a (hR.weaken hs (fun h=>by rw[show C.toCtx.det=false from hd] at h;cases h)) (hE.sub he)
theorem aFF (I:Nat→Env→St→Prop) (m:Nat) {c:Code} (h0:I m e s)
  (round:∀ m e s,I m e s→Ex C n c (jO (fun e' s'=>∃ m',m'<m∧I m' e' s') Q) e s):Ex C n (.loop c) Q e s:=fun F g0 w a hR hE=>by
 refine wp_loop_ghost (I:=fun m a' w'=>a'.defers=a.defers∧∃ g e s,g0.le g∧I m e s∧R C.toCtx F g s w'∧EnvOk g n e a'.tmps) m
  ⟨rfl,g0,e,s,dX g0,h0,hR,hE⟩ ?_
 rintro k a' w' ⟨hD,g,e',s',hg,hI,hR',hE'⟩;refine iK (fun ex a2 w2 hp=>?_) (round k e' s' hI F g w' a' hR' hE');obtain ⟨g',e2,s2,x,h1,h2,h3,h4,h5,h6⟩:=hp;cases ex<;>cases x<;>try exact h5.elim
 ·obtain ⟨m',hm,hI'⟩:=h6;exact ⟨m',hm,h4.trans hD,g',e2,s2,hg.trans h1,hI',h2,h3⟩
 all_goals exact ⟨g',e2,s2,_,hg.trans h1,h2,h3,h4.trans hD,h5,h6⟩
def Env.has (e:Env):Env→Prop
 | []=>True
 | (k,a)::r=>e.get k=some a∧Env.has e r
theorem aBl {e:Env}:∀ {e':Env},e.has e'→e.ge e'
 | [],_=>fun t a h=>by cases h
 | (k,a)::r,h=>fun t b hb=>by
  simp only[Env.get] at hb;split at hb
  ·rename_i hk;subst hk;cases hb;exact h.1
  ·exact aBl h.2 t b hb
theorem Ex.loop {ι:Type} (E:ι→Env) (S:ι→St) (I:ι→Prop) (μ:ι→Nat) (i:ι) {c:Code} (hi:I i) (he:e.has (E i)) (hs:s.ge (S i))
  (round:∀ i,I i→Ex C n c (jO (fun e' s'=>∃ j,I j∧μ j<μ i∧e'.has (E j)∧s'.ge (S j)) Q) (E i) (S i)) (hd:C.det=false:=by rfl):Ex C n (.loop c) Q e s:=by
 refine aFF (fun m e s=>∃ i,I i∧μ i=m∧e.ge (E i)∧s.ge (S i)) (μ i) ⟨i,hi,rfl,aBl he,hs⟩ ?_;rintro m e s ⟨j,hj,rfl,he,hs⟩;refine Ex.weaken he hs (Ex.mono (round j hj) fun x e' s' h=>?_) hd;cases x
 case normal =>
  obtain ⟨k,hk,hlt,h1,h2⟩:=h;exact ⟨μ k,hlt,k,hk,rfl,aBl h1,h2⟩
 all_goals exact h
def jM (V:List Nat) (Q:XK→Env→St→Prop) (e:Env) (s:St):Prop:=Q .normal (e.keep V) s
def pP (Q:XK→Env→St→Prop) (ds:List (Option Tmp)) (e:Env) (s:St) (v:A):Prop:=Q (.panic v) (e.rem ds) s
def aAe (C:Cx) (n:Nat) (id:Nat) (ops:Array Oper) (Q:XK→Env→St→Prop) (e:Env) (s:St):Prop:=Ex C n (.region id ops true) Q e s
def eO (C:Cx) (n:Nat) (V:List Nat):Code→(XK→Env→St→Prop)→Env→St→Prop
 | .skip,Q,e,s=>Q .normal e s
 | .label _,Q,e,s=>Q .normal e s
 | .exit i,Q,e,s=>Q (.exit i) e s
 | .goto i,Q,e,s=>Q (.goto i) e s
 | .ret,Q,e,s=>Q .ret e s
 | .seq c d,Q,e,s=>eO C n V c (jO (eO C n V d Q) Q) e s
 | .block i c,Q,e,s=>eO C n V c (nP i Q) e s
 | .cond c x y,Q,e,s=>match cT C e c with
  | some (.bool b)=>match b with
   | true=>eO C n V x Q e s
   | false=>eO C n V y Q e s
  | _=>False
 | .region id ops draw,Q,e,s=>match draw with
  | false=>dV C n (ops.toList.map (·.dst)) ops.toList (jM V Q) (pP Q (ops.toList.map (·.dst)) e) e s
  | true=>aAe C n id ops (jO (jM V Q) Q) e s
 | .loop c,Q,e,s=>Ex C n (.loop c) Q e s
 | c,Q,e,s=>Ex C n c Q e s
theorem aI3 (R:Env→St→Prop) (Q:XK→Env→St→Prop) (e:Env) (s:St):jO R Q .normal e s=R e s:=rfl
theorem aJO (R:Env→St→Prop) (Q:XK→Env→St→Prop) (i:Nat) (e:Env) (s:St):jO R Q (.exit i) e s=Q (.exit i) e s:=rfl
theorem aJI (R:Env→St→Prop) (Q:XK→Env→St→Prop) (i:Nat) (e:Env) (s:St):jO R Q (.goto i) e s=Q (.goto i) e s:=rfl
theorem aKQ (R:Env→St→Prop) (Q:XK→Env→St→Prop) (e:Env) (s:St):jO R Q .ret e s=Q .ret e s:=rfl
theorem aJb (R:Env→St→Prop) (Q:XK→Env→St→Prop) (a:A) (e:Env) (s:St):jO R Q (.panic a) e s=Q (.panic a) e s:=rfl
theorem aIp (i:Nat) (Q:XK→Env→St→Prop) (e:Env) (s:St):nP i Q .normal e s=Q .normal e s:=rfl
theorem aJg (i:Nat) (Q:XK→Env→St→Prop) (e:Env) (s:St):nP i Q .ret e s=Q .ret e s:=rfl
theorem aIO (i j:Nat) (Q:XK→Env→St→Prop) (e:Env) (s:St):nP i Q (.goto j) e s=Q (.goto j) e s:=rfl
theorem aIG (i:Nat) (a:A) (Q:XK→Env→St→Prop) (e:Env) (s:St):nP i Q (.panic a) e s=Q (.panic a) e s:=rfl
theorem aIX (i j:Nat) (Q:XK→Env→St→Prop) (e:Env) (s:St):nP i Q (.exit j) e s=if j=i then Q .normal e s else Q (.exit j) e s:=rfl
theorem cL {V:List Nat}:∀ (c:Code) (Q:XK→Env→St→Prop) (e:Env) (s:St),eO C n V c Q e s→Ex C n c Q e s
 | .skip,Q,e,s,h=>Ex.skip h
 | .label _,Q,e,s,h=>Ex.label h
 | .exit i,Q,e,s,h=>Ex.exit h
 | .goto i,Q,e,s,h=>Ex.goto h
 | .ret,Q,e,s,h=>Ex.ret h
 | .seq c d,Q,e,s,h=>by
  refine Ex.seq (Ex.mono (cL c _ e s h) fun x e s hx=>?_);cases x
  case normal=>exact cL d Q e s hx
  all_goals exact hx
 | .block i c,Q,e,s,h=>Ex.block (cL c _ e s h)
 | .cond c x y,Q,e,s,h=>by
  simp only[eO] at h;split at h
  ·rename_i b hb;refine Ex.cond hb ?_;cases b
   ·exact cL y Q e s h
   ·exact cL x Q e s h
  ·exact h.elim
 | .region id ops draw,Q,e,s,h=>by
  cases draw
  ·exact Ex.region (fun e s hk=>⟨_,aEg V e,hk⟩) (fun _ _ h=>h) h
  ·refine aK8 (Q:=jO (jM V Q) Q) h fun x e s hx=>?_
   cases x
   case normal=>exact ⟨_,aEg V e,hx⟩
   all_goals exact ⟨e,Env.ge.refl e,hx⟩
 | .loop c,Q,e,s,h=>h
 | .rangeFunc ..,Q,e,s,h=>h
 | .scope c,Q,e,s,h=>h
 | .refuse _,Q,e,s,h=>h
end
end
section
def jE:Nat→List A→Env
 | _,[]=>[]
 | k,a::r=>(k,a)::jE (k+1) r
theorem aBM:∀ (az:List A) (k t:Nat) (a:A),(jE k az).get t=some a→k≤t∧az[t-k]?=some a
 | [],k,t,a,h=>by simp[jE,Env.get] at h
 | x::r,k,t,a,h=>by
  simp only[jE,Env.get] at h;split at h
  ·rename_i hk;subst hk;simp only[aP] at h;subst h;exact ⟨bG _,by simp⟩
  ·rename_i hk;obtain ⟨h1,h2⟩:=aBM r (k+1) t a h;refine ⟨by omega,?_⟩;rw[show t-k=(t-(k+1))+1 by omega];simpa using h2
def jY (C:Cx) (e:Env) (s:St):List ResultVar→Option (List A)
 | []=>some []
 | .tmp t::r=>match e.get t,jY C e s r with
  | some a,some l=>some (a::l)
  | _,_=>none
 | .cell p t::r=>match e.get p,jY C e s r with
  | some (.ptr b o),some l=>match s.getO b with
   | some (.cells _ cs)=>match nA C t cs o with
    | some a=>some (a::l)
    | none=>none
   | _=>none
  | _,_=>none
def nW:List A→A
 | [a]=>a
 | l=>.tuple l
def iQ (C:Cx) (rs:List ResultVar) (KV Kp:St→A→Prop):XK→Env→St→Prop
 | .normal,e,s=>match jY C e s rs with
  | some l=>KV s (nW l)
  | none=>False
 | .ret,e,s=>match jY C e s rs with
  | some l=>KV s (nW l)
  | none=>False
 | .panic a,_,s=>Kp s a
 | _,_,_=>False
section
variable {C:Cx} {F:Fr} {g:Gh} {s:St} {w:World} {n:Nat} {e:Env}
theorem aIZ (hR:R C.toCtx F g s w) {b o:Nat} {e:TypeId} {cs:List A} {t:TypeId} {v:A} (hb:s.getO b=some (.cells e cs)) (hv:nA C t cs o=some v) :
  ∃ k u,g.beta b=some k∧(loadVar t ⟨k,o,none⟩).run C.P w=.ok u w∧Rz g v u:=by
 obtain ⟨k,vs,rest,hbk,hh,hrs,hone⟩:=hR.cellsOf hb
 have cell:∀ j u,vs[j]?=some u→w.cell? ⟨k,j,none⟩=some u:=by
  intro j u hj;simp only[World.cell?,hh,Option.isSome_none,bR,↓reduceIte,kX];rw[jR (dH.1 hj).1];exact hj
 simp only[nA] at hv;split at hv
 ·rename_i ti hti;split at hv
  ·rename_i hag;split at hv
   ·rename_i hsz;simp only[aP] at hv;subst hv
    have hc:∀ j v,((vs.drop o).take ti.sz)[j]?=some v→w.cell? ((⟨k,o,none⟩:Addr).add j)=some v:=by
     intro j v hj;rw[kY] at hj;split at hj
     ·rw[mM] at hj;rw[iL,cell _ _ hj]
     ·simp at hj
    have hlen':((vs.drop o).take ti.sz).length=ti.sz:=by
     have:=hrs.1;rw[eL,cH];omega
    have hrun:=run_loadCells_list (P:=C.P) w ⟨k,o,none⟩ _ hc;rw[hlen'] at hrun;have hq:=(hrs.drop o).take ti.sz;refine ⟨k,.agg ((vs.drop o).take ti.sz).toArray,hbk,?_,.agg _ _ hq.1 (fun c hc=>hone c (oX (nJ hc))) hq.2⟩;simp only[loadVar,aV,bC,aW,uJ hti,hag,↓reduceIte,iX hti,hrun]
   ·simp at hv
  ·rename_i hag;obtain ⟨u,hu,hr⟩:=hrs.get hv;have hag':ti.k.agg=false:=by simpa using hag
   refine ⟨k,u,hbk,?_,hr⟩;simp only[loadVar,aV,bC,aW,uJ hti,hag',bR,↓reduceIte,run_load,cell _ _ hu]
 ·simp at hv
def pQ (tmps:Array Value):ResultVar→Sem Value
 | .tmp t=>pure (tmps.getD t undef)
 | .cell a t=>do loadVar t (← asAddr (tmps.getD a undef))
theorem wE (hR:R C.toCtx F g s w) {tmps:Array Value} (hE:EnvOk g n e tmps):∀ (rs:List ResultVar) (l:List A),jY C e s rs=some l →
  ∃ vs,(rs.mapM (pQ tmps)).run C.P w=.ok vs w∧Rzs g l vs
 | [],l,h=>by simp[jY] at h;subst h;exact ⟨[],by simp,.nil g⟩
 | .tmp t::r,l,h=>by
  simp only[jY] at h;split at h
  ·rename_i a l' ha hl;simp only[aP] at h;subst h;obtain ⟨vs,h1,h2⟩:=wE hR hE r l' hl;obtain ⟨u,hu,hr⟩:=hE.val t a ha;refine ⟨u::vs,?_,.cons hr h2⟩;have e0:(pQ tmps (.tmp t)).run C.P w=.ok u w:=by simp[pQ,aBh,hu]
   simp only[List.mapM_cons,aV,bC,aW,h1,e0]
  ·simp at h
 | .cell p t::r,l,h=>by
  simp only[jY] at h;split at h
  ·rename_i b o l' ha hl;split at h
   ·rename_i cs hcs;split at h
    ·rename_i v hv;simp only[aP] at h;subst h;obtain ⟨vs,h1,h2⟩:=wE hR hE r l' hl;obtain ⟨u,hu,hr⟩:=hE.val p _ ha;obtain ⟨k,q,hbk,hq,hqr⟩:=aIZ hR hcs hv;obtain ⟨k',hp,hbk'⟩:=hr.ptr_inv;rw[hbk] at hbk';cases hbk';refine ⟨q::vs,?_,.cons hqr h2⟩;have e0:(pQ tmps (.cell p t)).run C.P w=.ok q w:=by simp only[pQ,aV,aBh,hu,Option.getD_some,hp,asAddr,bC,aW,hq]
     simp only[List.mapM_cons,aV,bC,aW,h1,e0]
    ·simp at h
   ·simp at h
  ·simp at h
theorem aCu {l:List A} {vs:List Value} (h:Rzs g l vs):Rz g (nW l) (if h:vs.toArray.size=1 then vs.toArray[0] else .tuple vs.toArray):=by
 match l,vs,h with
 | [],[],h=>exact .tuple [] [] rfl (by simp)
 | [a],[v],h=>exact h.2 0 a v (by simp) (by simp)
 | a::b::l,v::u::vs,h =>
  have:¬ (v::u::vs).toArray.size=1:=by simp
  rw[dif_neg this];exact .tuple _ _ h.1 h.2
 | [],_::_,h=>have:=h.1;simp at this
 | _::_,[],h=>have:=h.1;simp at this
 | [_],_::_::_,h=>have:=h.1;simp at this
 | _::_::_,[_],h=>have:=h.1;simp at this
theorem aBw {f:FuncId} {fn:Func} {c:Code} {args:List A} {KV Kp:St→A→Prop} (hf:C.P.funcs[f]?=some fn) (hb:fn.body=some c)
  (hname : (fn.name == "runtime.NumGoroutine") = false) (hn : args.length ≤ fn.ntmps)
  (h:Ex C fn.ntmps c (iQ C fn.results.toList KV Kp) (jE 0 args) s):Den C f args KV Kp s:=by
 intro F g w vals hR hv
 have hcf:(callFunc f vals.toArray).run C.P w=.ok (.enter f vals.toArray) w:=by
  simp only[callFunc,aV,run_program,aW,hf,hname,bR,↓reduceIte,hb,Option.isNone_some,bC]
 rw[hcf];refine calls_of_wp hf hb ?_
 have hE:EnvOk g fn.ntmps (jE 0 args) (vals.toArray++Array.replicate (fn.ntmps-vals.toArray.size) undef):=by
  have hl:vals.length=args.length:=hv.1;refine ⟨by simp;omega,fun t a ha=>?_⟩;obtain ⟨_,h2⟩:=aBM args 0 t a ha;obtain ⟨u,hu,hr⟩:=hv.get h2;rw[Nat.sub_zero] at hu;refine ⟨u,?_,hr⟩;have:t<vals.length:=(dH.1 hu).1;rw[Array.getElem?_append_left (by simpa using this)];simpa using hu
 refine iK (fun ex a' w' hp=>?_) (h F g w ⟨_,[]⟩ hR hE);obtain ⟨g',e',s',x,h1,h2,h3,h4,h5,h6⟩:=hp
 have fin:∀ l,jY C e' s' fn.results.toList=some l→KV s' (nW l)→a'.defers=[]∧∃ v,(results fn a'.tmps).run C.P w'=.ok v w'∧pM C F g KV Kp (.returned v) w':=by
  intro l hl hk;obtain ⟨vs,r1,r2⟩:=wE h2 h3 _ _ hl;refine ⟨h4,_,?_,⟨g',_,s',h1,h2,aCu r2,hk⟩⟩;have e0:results fn a'.tmps=(do let vs ← fn.results.mapM (pQ a'.tmps);pure (if h:vs.size=1 then vs[0] else .tuple vs)):=rfl;rw[e0,aV,Array.mapM_eq_mapM_toList,Sem.run_map,r1];rfl
 cases ex<;>cases x<;>try exact h5.elim
 ·simp only[iQ] at h6;split at h6
  ·rename_i l hl;exact fin l hl h6
  ·exact h6.elim
 ·exact h6.elim
 ·exact h6.elim
 ·simp only[iQ] at h6;split at h6
  ·rename_i l hl;exact fin l hl h6
  ·exact h6.elim
 ·obtain ⟨v,rfl,hr⟩:=h5;exact ⟨h4,⟨g',_,v,s',rfl,h1,h2,hr,h6⟩⟩
theorem Den.mono {f:FuncId} {args:List A} {KV Kp KV' Kp':St→A→Prop} (h:Den C f args KV Kp s) (h1:∀ s a,KV s a→KV' s a) (h2:∀ s a,Kp s a→Kp' s a) :
  Den C f args KV' Kp' s:=by
 intro F g w vals hR hv;have:=h F g w vals hR hv;revert this;generalize (callFunc f vals.toArray).run C.P w=r;intro hr;cases r with
 | ok x w' =>
  cases x<;>simp only[OutV] at hr ⊢
  ·obtain ⟨g',a,s',a1,a2,a3,a4⟩:=hr;exact ⟨g',a,s',a1,a2,a3,h1 _ _ a4⟩
  ·obtain ⟨g',s',a1,a2,a3⟩:=hr;exact ⟨g',s',a1,a2,h1 _ _ a3⟩
  ·refine Calls.mono hr fun en w'' hp=>?_
   cases en with
   | returned v=>obtain ⟨g',a,s',a1,a2,a3,a4⟩:=hp;exact ⟨g',a,s',a1,a2,a3,h1 _ _ a4⟩
   | panicked jF=>obtain ⟨g',a,v,s',a0,a1,a2,a3,a4⟩:=hp;exact ⟨g',a,v,s',a0,a1,a2,a3,h2 _ _ a4⟩
   | outgrown=>exact hp
 | halt x w' =>
  cases x<;>simp only[OutV] at hr ⊢
  obtain ⟨g',a,s',a1,a2,a3,a4⟩:=hr;exact ⟨g',a,s',a1,a2,a3,h2 _ _ a4⟩
theorem Den.weaken {f:FuncId} {args:List A} {KV Kp:St→A→Prop} {s':St} (hs:s.ge s') (h:Den C f args KV Kp s') (hd:C.det=false:=by rfl):Den C f args KV Kp s :=
 fun F g w vals hR hv=>h F g w vals (hR.weaken hs (fun h=>by rw[show C.toCtx.det=false from hd] at h;cases h)) hv
end
def eP:=@Den.weaken
end
section
def aCv:A→Value→Bool
 | .int k n,.int j m=>decide (k=j)&&decide (n=m)
 | .bool b,.bool c=>b == c
 | .str s,.string t=>s.isEmpty&&decide (t.data.toList=[])
 | .nilp,.pointer none=>true
 | .nils,.slice none 0 0=>true
 | .nilf,.nilFunc=>true
 | .nili,.nilIface=>true
 | _,_=>false
def uE:List A→List Value→Bool
 | [],[]=>true
 | a::az,v::vs=>aCv a v&&uE az vs
 | _,_=>false
theorem aJn {g:Gh} {a:A} {v:Value} (h:aCv a v=true):Rz g a v∧a.one=true:=by
 unfold aCv at h;split at h<;>simp only[aZ,cG,beq_iff_eq,bR] at h
 ·obtain ⟨rfl,rfl⟩:=h;exact ⟨.int _ _,rfl⟩
 ·subst h;exact ⟨.bool _,rfl⟩
 ·rename_i s t;obtain ⟨h1,h2⟩:=h;have:s=t.data.toList:=by rw[h2];simpa using h1
  subst this;exact ⟨.str t.data.toList,rfl⟩
 ·exact ⟨.nilp,rfl⟩
 ·exact ⟨.nils,rfl⟩
 ·exact ⟨.nilf,rfl⟩
 ·exact ⟨.nili,rfl⟩
theorem aBS {g:Gh}:∀ {az:List A} {vs:List Value},uE az vs=true→Rzs g az vs∧∀ c,c∈az→c.one=true
 | [],[],_=>⟨.nil g,by simp⟩
 | a::az,v::vs,h=>by
  simp only[uE,aZ] at h;have h1:=aJn (g:=g) h.1;have h2:=aBS (g:=g) h.2;exact ⟨.cons h1.1 h2.1,fun c hc=>by cases hc with|head=>exact h1.2|tail _ hc=>exact h2.2 c hc⟩
 | [],_::_,h=>by simp[uE] at h
 | _::_,[],h=>by simp[uE] at h
def uD (P:Program):List Field→List (Nat × Nat × Bool)→Bool
 | [],[]=>true
 | f::fs,(o,s,a)::r=>decide (f.offset=o)&&decide ((P.info? f.type).map (·.size)=some s)&&decide (s≠0)&&(P.underlying f.type).isSome&&(sO (P.underlying f.type) == a)&&uD P fs r
 | _,_=>false
theorem aEA {P:Program}:∀ {fs:List Field} {l:List (Nat × Nat × Bool)},uD P fs l=true→fs.length=l.length∧∀ (i o s:Nat) (a:Bool),l[i]?=some (o,s,a) →
   ∃ f,fs[i]?=some f∧f.offset=o∧(P.info? f.type).map (·.size)=some s∧s≠0∧(P.underlying f.type).isSome=true∧sO (P.underlying f.type)=a
 | [],[],_=>⟨rfl,fun i o s a h=>by simp at h⟩
 | f::fs,(o,s,a)::r,h=>by
  simp only[uD,aZ,cG,beq_iff_eq] at h;obtain ⟨⟨⟨⟨⟨h1,h2⟩,h3⟩,h4⟩,h5⟩,h6⟩:=h;obtain ⟨e1,e2⟩:=aEA h6;refine ⟨by simp[e1],fun i o' s' a' hi=>?_⟩;cases i with
  | zero=>simp only[iJ,aP,lR] at hi;obtain ⟨rfl,rfl,rfl⟩:=hi;exact ⟨f,by simp,h1,h2,h3,h4,h5⟩
  | succ i=>obtain ⟨f',q⟩:=e2 i o' s' a' (by simpa using hi);exact ⟨f',by simpa using q⟩
 | [],_::_,h=>by simp[uD] at h
 | _::_,[],h=>by simp[uD] at h
def aDj (P:Program) (k:TK) (d:TypeDesc):Bool :=
 match k,d with
 | .int k,.int j=>decide (k=j)
 | .bool,.bool=>true
 | .string,.string=>true
 | .slice e,.slice e'=>decide (e=e')
 | .array n e,.array m e'=>decide (n=m)&&decide (e=e')
 | .struct fs,.struct fields=>uD P fields.toList fs
 | .iface,.interface _=>true
 | .other,.pointer _|.other,.func ..|.other,.map ..|.other,.chan ..|.other,.unsafePointer|.other,.float _|.other,.complex _=>true
 | _,_=>false
theorem aLO {P:Program} {k:TK} {d:TypeDesc} (h:aDj P k d=true):k.ok P d:=by
 unfold aDj at h;split at h<;>(try simp only[aZ,cG,bR] at h)<;>simp only[TK.ok]
 ·subst h;rfl
 ·subst h;rfl
 ·obtain ⟨rfl,rfl⟩:=h;rfl
 ·rename_i fs fields;obtain ⟨e1,e2⟩:=aEA h;exact ⟨fields,rfl,by simpa using e1,fun i o s a hi=>by obtain ⟨f,q⟩:=e2 i o s a hi;exact ⟨f,by simpa using q⟩⟩
 ·exact ⟨_,rfl⟩
 all_goals exact ⟨rfl,by simp⟩
def aDn (P:Program) (t:TypeId) (ti:TI):Bool :=
 match P.info? t,P.underlying t with
 | some i,some d=>decide (i.size=ti.sz)&&decide (i.bytes=ti.bytes)&&decide (ti.zero.length=ti.sz)&&(match i.zero with|some z=>uE ti.zero z.cells.toList|none=>false)&&aDj P ti.k d
 | _,_=>false
theorem aL4 {P:Program} {t:TypeId} {ti:TI} (h:aDn P t ti=true):ti.ok P t:=by
 unfold aDn at h;split at h
 ·rename_i i d hi hd;simp only[aZ,cG] at h;obtain ⟨⟨⟨⟨h1,h2⟩,h3⟩,h4⟩,h5⟩:=h;split at h4
  ·rename_i z hz;exact ⟨⟨i,z,hi,h1,h2,hz,fun g=>(aBS (g:=g) h4).1⟩,(aBS (g:=⟨fun _=>none,fun _ _=>none,fun _=>none,default,#[]⟩) h4).2,h3,d,hd,aLO h5⟩
  ·cases h4
 ·cases h
section
variable (C:Cx) (n:Nat) (V:List Nat) (Q:XK→Env→St→Prop) (e:Env) (s:St)
@[go_sem] theorem aQI:eO C n V .skip Q e s=Q .normal e s:=rfl
@[go_sem] theorem aQt (l:Nat):eO C n V (.label l) Q e s=Q .normal e s:=rfl
@[go_sem] theorem aQ8 (i:Nat):eO C n V (.exit i) Q e s=Q (.exit i) e s:=rfl
@[go_sem] theorem aQD (i:Nat):eO C n V (.goto i) Q e s=Q (.goto i) e s:=rfl
@[go_sem] theorem aRk:eO C n V .ret Q e s=Q .ret e s:=rfl
@[go_sem] theorem aRc (c d:Code):eO C n V (.seq c d) Q e s=eO C n V c (jO (eO C n V d Q) Q) e s:=rfl
@[go_sem] theorem aQj (i:Nat) (c:Code):eO C n V (.block i c) Q e s=eO C n V c (nP i Q) e s:=rfl
def brK (C:Cx) (n:Nat) (V:List Nat) (x y:Code) (Q:XK→Env→St→Prop) (e:Env) (s:St):Option A→Prop
 | some (.bool true)=>eO C n V x Q e s
 | some (.bool false)=>eO C n V y Q e s
 | _=>False
@[go_sem] theorem aQ2 (c : Operand) (x y : Code) : eO C n V (.cond c x y) Q e s = brK C n V x y Q e s (cT C e c) := by
  show (match cT C e c with
    | some (.bool b)=>match b with
      | true=>eO C n V x Q e s
      | false=>eO C n V y Q e s
    | _=>False)=_
  cases cT C e c with
  | none=>rfl
  | some a=>cases a<;>first|rfl|(rename_i b;cases b<;>rfl)
@[go_sem] theorem aQ3 (x y:Code):brK C n V x y Q e s (some (.bool true))=eO C n V x Q e s:=rfl
@[go_sem] theorem aQu (x y:Code):brK C n V x y Q e s (some (.bool false))=eO C n V y Q e s:=rfl
@[go_sem] theorem aQb (id:Nat) (ops:Array Oper):eO C n V (.region id ops false) Q e s=dV C n (ops.toList.map (·.dst)) ops.toList (jM V Q) (pP Q (ops.toList.map (·.dst)) e) e s:=rfl
@[go_sem] theorem aQT (id:Nat) (ops:Array Oper):eO C n V (.region id ops true) Q e s=aAe C n id ops (jO (jM V Q) Q) e s:=rfl
@[go_sem] theorem aQN (c:Code):eO C n V (.loop c) Q e s=Ex C n (.loop c) Q e s:=rfl
variable (ds:List (Option Tmp)) (K:Env→St→Prop) (Kp:St→A→Prop)
@[go_sem] theorem aRo:dV C n ds [] K Kp e s=K e s:=rfl
@[go_sem] theorem aQ5 (dst : Option Tmp) (op : Op) (ty : TypeId) (pos : String) (after : Array Edge) (r : List Oper) :
  dV C n ds (⟨dst,op,ty,pos,after,none⟩::r) K Kp e s=aJ C op (cT C e) (bJ n dst (dV C n ds r K Kp) e) Kp s:=rfl
def rG (C:Cx) (n:Nat) (ds:List (Option Tmp)) (dst:Option Tmp) (op:Op) (r:List Oper) (K:Env→St→Prop) (Kp:St→A→Prop) (e:Env) (s:St) (t:Nat) (want:Bool):Option A→Prop
 | some (.bool true)=>match want with
  | true=>aJ C op (cT C (e.put t (.bool true))) (bJ n dst (dV C n ds r K Kp) (e.put t (.bool true))) Kp s
  | false=>bJ n dst (dV C n ds r K Kp) (e.put t (.bool true)) s (.tuple [])
 | some (.bool false)=>match want with
  | false=>aJ C op (cT C (e.put t (.bool false))) (bJ n dst (dV C n ds r K Kp) (e.put t (.bool false))) Kp s
  | true=>bJ n dst (dV C n ds r K Kp) (e.put t (.bool false)) s (.tuple [])
 | some (.tuple _)=>bJ n dst (dV C n ds r K Kp) e s (.tuple [])
 | _=>False
def gdT (C:Cx) (n:Nat) (ds:List (Option Tmp)) (dst:Option Tmp) (op:Op) (r:List Oper) (K:Env→St→Prop) (Kp:St→A→Prop) (e:Env) (s:St) (want:Bool):Option Tmp→Prop
 | none=>False
 | some t=>rG C n ds dst op r K Kp e s t want (e.get t)
@[go_sem] theorem aQi (dst : Option Tmp) (op : Op) (ty : TypeId) (pos : String) (after : Array Edge) (j : Nat) (want : Bool) (r : List Oper) :
    dV C n ds (⟨dst,op,ty,pos,after,some (j,want)⟩::r) K Kp e s=gdT C n ds dst op r K Kp e s want (gS ds j):=by
  simp only[dV];unfold gdT;cases gS ds j with
  | none=>rfl
  | some t =>
    simp only[rG];cases e.get t with
    | none=>rfl
    | some a=>cases a<;>first|rfl|(rename_i b;cases b<;>cases want<;>rfl)
@[go_sem] theorem aQM (dst:Option Tmp) (op:Op) (r:List Oper) (want:Bool) (t:Nat):gdT C n ds dst op r K Kp e s want (some t)=rG C n ds dst op r K Kp e s t want (e.get t):=rfl
@[go_sem] theorem aRT (dst:Option Tmp) (op:Op) (r:List Oper) (t:Nat):rG C n ds dst op r K Kp e s t true (some (.bool true))=aJ C op (cT C (e.put t (.bool true))) (bJ n dst (dV C n ds r K Kp) (e.put t (.bool true))) Kp s:=rfl
@[go_sem] theorem aRx (dst:Option Tmp) (op:Op) (r:List Oper) (t:Nat):rG C n ds dst op r K Kp e s t true (some (.bool false))=bJ n dst (dV C n ds r K Kp) (e.put t (.bool false)) s (.tuple []):=rfl
@[go_sem] theorem aRH (dst:Option Tmp) (op:Op) (r:List Oper) (t:Nat):rG C n ds dst op r K Kp e s t false (some (.bool true))=bJ n dst (dV C n ds r K Kp) (e.put t (.bool true)) s (.tuple []):=rfl
@[go_sem] theorem aRE (dst:Option Tmp) (op:Op) (r:List Oper) (t:Nat):rG C n ds dst op r K Kp e s t false (some (.bool false))=aJ C op (cT C (e.put t (.bool false))) (bJ n dst (dV C n ds r K Kp) (e.put t (.bool false))) Kp s:=rfl
@[go_sem] theorem aRY (dst : Option Tmp) (op : Op) (r : List Oper) (t : Nat) (want : Bool) (l : List A) : rG C n ds dst op r K Kp e s t want (some (.tuple l)) = bJ n dst (dV C n ds r K Kp) e s (.tuple []) := by
  cases want<;>rfl
@[go_sem] theorem aQo (d:Tmp) (v:A):bJ n (some d) K e s v=(d<n∧K (e.put d v) s):=rfl
@[go_sem] theorem aQR (sz:Nat) (K:A→Prop) (x:A):elK sz K (some x)=(x.cells.length=sz∧K (.eptr x.cells 0)):=rfl
@[go_sem] theorem aQY (K:A→Prop) (c:UInt8):chK K (some c)=K (.int .u8 c.toNat):=rfl
@[go_sem] theorem aQx (v:A):bJ n none K e s v=K e s:=rfl
end
attribute [go_sem] zU aG1 aAo
attribute [go_sem] jM pP aI3 aJO aKQ aJb aJI aIp aJg aIO aIG aIX
attribute [go_sem] Env.get Env.put Env.keep gS cT wO wD uH iI jB kQ aJ aQ aAx uM unA uK nA iW A.cells A.one nW jY iQ jE sF wZ oS nZ lN kE TK.agg fC uX nH pO nY uN hlA
attribute [go_sem] aS nM kG Int.toNat_natCast Int.ofNat_lt Int.ofNat_le Int.natCast_nonneg Int.natCast_inj sX
@[go_sem] theorem aQd:dU []=true:=rfl
@[go_sem] theorem aP8 (a:A) (l:List A):dU (a::l)=(a.one&&dU l):=rfl
attribute [go_sem] Env.has aP A.int.injEq A.str.injEq A.bool.injEq A.list.injEq A.ptr.injEq A.agg.injEq
@[go_sem] theorem aQC (tk:Option Nat) (es:List A):jN (.list tk es)=some (.int .i64 es.length):=rfl
@[go_sem] theorem aQv:jN .nils=some (.int .i64 0):=rfl
@[go_sem] theorem aRe (b o n:Nat):jN (.ml b o n)=some (.int .i64 n):=rfl
@[go_sem] theorem aQF:jN .emp=some (.int .i64 0):=rfl
@[go_sem] theorem aRd (b n c:Nat):jN (.mg b n c)=some (.int .i64 n):=rfl
@[go_sem] theorem aQm (C:Cx) (s:St) (e:TypeId) (te:TI) (ys:List A) (KV:St→A→Prop):nX C s e te ys KV .nils=(ys.length≤4294967296∧kB C s ys.length e te.sz ys KV):=rfl
@[go_sem] theorem aQw (C:Cx) (s:St) (e:TypeId) (te:TI) (KV:St→A→Prop):nX C s e te [] KV .emp=KV s .emp:=rfl
@[go_sem] theorem aQJ (C:Cx) (s:St) (e:TypeId) (te:TI) (y:A) (r:List A) (KV:St→A→Prop):nX C s e te (y::r) KV .emp=(((y::r).length≤4294967296∧0<(y::r).length)∧kB C s (y::r).length e te.sz (y::r) KV):=rfl
@[go_sem] theorem aRl (C:Cx) (s:St) (e:TypeId) (te:TI) (ys:List A) (KV:St→A→Prop) (b n cap:Nat):nX C s e te ys KV (.mg b n cap)=qT C.det s b n cap e te.sz ys.length ys KV (s.getO b):=rfl
@[go_sem] theorem aQz (C : Cx) (s : St) (e : TypeId) (te : TI) (ys : List A) (KV : St → A → Prop) (t : Nat) (es : List A) : nX C s e te ys KV (.list (some t) es) =
  (s.getT t=some (es.length,e)∧(∀ y,y∈es→y.cells.length=te.sz)∧es.length+ys.length≤4294967296∧KV (s.setT t (es.length+ys.length,e)) (.list (some t) (es++ys))):=rfl
theorem fU (x:Int) (h1:-9223372036854775808≤x) (h2:x≤9223372036854775807):IntKind.i64.wrap x=x:=IntWalk.i64_in x ⟨h1,h2⟩
theorem cJ (i:Nat) (h:i<9223372036854775807):IntKind.i64.wrap ((i:Int)+1)=((i+1:Nat):Int):=by
 rw[fU _ (by omega) (by omega)];rfl
end
section
section
variable {C:Cx} {s:St} {ρ ρ':Operand→Option A} {K:A→Prop}
theorem xZ:∀ {l:List Operand},(∀ x,x∈l→ρ x=ρ' x)→iI ρ l=iI ρ' l
 | [],_=>rfl
 | x::r,h=>by
  have h1:iI ρ r=iI ρ' r:=xZ fun y hy=>h y (eQ x hy)
  simp only[iI,h x (by simp),h1]
theorem aBq:∀ {l:List (Nat × Operand)},(∀ x,x∈l.map (·.2)→ρ x=ρ' x)→jB ρ l=jB ρ' l
 | [],_=>rfl
 | (i,x)::r,h=>by
  have h1:jB ρ r=jB ρ' r:=aBq fun y hy=>h y (by simp only[bU,eW];exact .inr hy)
  simp only[jB,h x (by simp),h1]
theorem aEq {o:Option Operand} (h:∀ x,o=some x→ρ x=ρ' x):kQ ρ o=kQ ρ' o:=by
 cases o with
 | none=>rfl
 | some x=>simp only[kQ,h x rfl]
theorem qJ {op:Op} (h:∀ x,x∈op.operands→ρ x=ρ' x):aQ C op ρ K=aQ C op ρ' K:=by
  cases op
  case build t ps =>
    have:jB ρ ps.toList=jB ρ' ps.toList:=aBq fun x hx=>h x (by simpa [Op.operands] using hx)
    simp only[aQ,this]
  case buildSlice t n ps =>
    have:jB ρ ps.toList=jB ρ' ps.toList:=aBq fun x hx=>h x (by simpa [Op.operands] using hx)
    simp only[aQ,this]
  case makeFunc fn first caps =>
    have h1:iI ρ first.toList=iI ρ' first.toList:=xZ fun x hx=>h x (by simp[Op.operands];exact .inl (by simpa using hx))
    have h2:iI ρ caps.toList=iI ρ' caps.toList:=xZ fun x hx=>h x (by simp[Op.operands];exact .inr (by simpa using hx))
    cases fn<;>simp only[aQ,h1,h2]
  case call c =>
    obtain ⟨cal,args,ats⟩:=c;obtain ⟨args⟩:=args;obtain ⟨ats⟩:=ats;have h1:∀ x,x∈args→ρ x=ρ' x:=fun x hx=>h x (by simp[Op.operands,Call.operands,hx])
    simp only[aQ];split
    · simp_all
    · simp_all
    · simp_all
    · simp_all
    · simp_all
    · rfl
  case slice t x lo hi mx =>
    have h1:=h x (by simp[Op.operands]);have h2:kQ ρ lo=kQ ρ' lo:=aEq fun y hy=>h y (by simp[Op.operands,hy])
    have h3:kQ ρ hi=kQ ρ' hi:=aEq fun y hy=>h y (by simp[Op.operands,hy])
    cases mx<;>simp only[aQ,h1,h2,h3]
  all_goals first
    | rfl
    | (simp only [Op.operands,List.mem_toArray,Array.mem_def,eW,rK,jU,forall_eq_or_imp,forall_eq] at h
       simp only[aQ,h])
theorem aE3 {op:Op} {KV Kp:St→A→Prop} (h:∀ x,x∈op.operands→ρ x=ρ' x) (hh:aJ C op ρ KV Kp s):aJ C op ρ' KV Kp s:=by
 have key:aJ C op ρ KV Kp s=aJ C op ρ' KV Kp s:=by
  cases op
  case load t x =>
   have h1:=h x (by simp[Op.operands]);simp only[aJ,h1,qJ (C:=C) (K:=KV s) h]
  case store t x y =>
   simp only[aJ,h x (by simp[Op.operands]),h y (by simp[Op.operands])]
  case box t x=>simp only[aJ,h x (by simp[Op.operands])]
  case panic x=>simp only[aJ,h x (by simp[Op.operands])]
  case range t x=>simp only[aJ,h x (by simp[Op.operands])]
  case convert a b x =>
   have h1:=h x (by simp[Op.operands]);simp only[aJ,h1,qJ (C:=C) (K:=KV s) h]
  case makeSlice t a b=>simp only[aJ,h a (by simp[Op.operands]),h b (by simp[Op.operands])]
  case next x b =>
   cases b
   ·exact qJ (C:=C) (K:=KV s) h
   ·simp only[aJ,h x (by simp[Op.operands])]
  case alloc=>rfl
  case buildSlice t len parts=>simp only[aJ,qJ (C:=C) (K:=KV s) h,qJ (C:=C) (K:=uR C s t KV) h]
  case call c =>
   have hs:=qJ (C:=C) (K:=KV s) h;obtain ⟨cal,args,ats⟩:=c;obtain ⟨args⟩:=args;obtain ⟨ats⟩:=ats;have h1:∀ x,x∈args→ρ x=ρ' x:=fun x hx=>h x (by simp[Op.operands,Call.operands,hx])
   cases cal with
   | value f=>simp only[aJ,h f (by simp[Op.operands,Call.operands]),xZ h1]
   | invoke r m=>exact hs
   | builtin b =>
    cases b
    case append =>
     match args,ats,h1 with
     | [x,y],[t,u],h1=>simp only[aJ,h1 x (by simp),h1 y (by simp)]
     | [],_,h1=>rfl
     | [_],_,h1=>rfl
     | _::_::_::_,_,h1=>rfl
     | [_,_],[],h1=>rfl
     | [_,_],[_],h1=>rfl
     | [_,_],_::_::_::_,h1=>rfl
    case unsafeString =>
     match args,ats,h1 with
     | [x,y],[t,u],h1=>simp only[aJ,h1 x (by simp),h1 y (by simp)]
     | [],_,h1=>rfl
     | [_],_,h1=>rfl
     | _::_::_::_,_,h1=>rfl
     | [_,_],[],h1=>rfl
     | [_,_],[_],h1=>rfl
     | [_,_],_::_::_::_,h1=>rfl
    case panic =>
     match args,h1 with
     | [],h1=>rfl
     | [x],h1=>simp only[aJ,h1 x (by simp)]
     | _::_::_,h1=>rfl
    all_goals exact hs
  case binOp op t x y yt =>
   have hs:=qJ (C:=C) (K:=KV s) h;cases op
   case eql=>simp only[aJ,hs,h x (by simp[Op.operands]),h y (by simp[Op.operands])]
   all_goals exact hs
  all_goals exact qJ (C:=C) (K:=KV s) h
 rw[← key];exact hh
theorem aF4 {op:Op} (h:aQ C op ρ K):∃ v,K v∧∀ K':A→Prop,K' v→aQ C op ρ K':=by
  have one:∀ {o:Option A} {K:A→Prop},(match o with|some v=>K v|none=>False)→∃ v,K v∧o=some v:=by
    intro o K h;cases o with
    | none=>exact h.elim
    | some v=>exact ⟨v,h,rfl⟩
  have cut:∀ {x:A} {lo hi:Option A} {K:A→Prop},nZ x lo hi K→∃ v,K v∧∀ K':A→Prop,K' v→nZ x lo hi K':=by
    intro x lo hi K h;unfold nZ at h ⊢;cases x<;>simp only at h ⊢
    all_goals first
      | exact h.elim
      | (split at h
         · rename_i h1 h2
           exact ⟨_,h.2,fun K' hk=>⟨h.1,hk⟩⟩
         · exact h.elim)
  cases op<;>simp only[aQ] at h ⊢
  case move x=>obtain ⟨v,h1,h2⟩:=one h;exact ⟨v,h1,fun K' hk=>by simpa only[h2] using hk⟩
  case assign x=>obtain ⟨v,h1,h2⟩:=one h;exact ⟨v,h1,fun K' hk=>by simpa only[h2] using hk⟩
  case call c =>
    split at h<;>(try exact h.elim)
    · split at h<;>(try exact h.elim)
      split at h<;>(try exact h.elim)
      all_goals (obtain ⟨v,h1,h2⟩:=one h;exact ⟨v,h1,fun K' hk=>by simpa only[h2] using hk⟩)
    · split at h<;>(try exact h.elim)
      all_goals exact ⟨_,h,fun K' hk=>hk⟩
    · split at h<;>(try exact h.elim)
      split at h<;>(try exact h.elim)
      rename_i e hk0;exact ⟨_,h,fun K' hk=>hk⟩
    · split at h<;>(try exact h.elim)
      all_goals exact ⟨_,h,fun K' hk=>hk⟩
    · split at h<;>(try exact h.elim)
      all_goals exact ⟨_,h,fun K' hk=>hk⟩
  case makeFunc fn first caps =>
    cases fn
    all_goals simp only at h ⊢
    · split at h
      · exact ⟨_,h,fun K' hk=>by simp_all only[]⟩
      · exact h.elim
    all_goals exact h.elim
  all_goals
    repeat' split at h
  all_goals first
    | exact h.elim
    | (obtain ⟨v,h1,h2⟩:=one h;exact ⟨v,h1,fun K' hk=>by simp_all only[qK,fM,reduceIte,reduceCtorEq,bR,dW,eX]⟩)
    | exact ⟨_,h,fun K' hk=>by simp_all only[qK,fM,reduceIte,reduceCtorEq,bR,dW,eX]⟩
    | exact ⟨_,h.2,fun K' hk=>by simp_all only[qK,fM,reduceIte,reduceCtorEq,bR,dW,eX]⟩
    | exact ⟨_,h.2.2,fun K' hk=>⟨h.1,h.2.1,hk⟩⟩
    | exact cut h
    | (obtain ⟨v,h1,h2⟩:=cut h.2;exact ⟨v,h1,fun K' hk=>⟨h.1,h2 K' hk⟩⟩)
    | (obtain ⟨hx,hy⟩ := h
       rw[bK hx.2] at hy ⊢;exact ⟨_,hy.2,fun K' hk=>⟨hx,hy.1,hk⟩⟩)
    | (obtain ⟨hx,hy⟩ := h
       rw[bK hx.2] at hy ⊢;exact ⟨_,hy,fun K' hk=>⟨hx,hk⟩⟩)
theorem lB {K':A→Prop} {op:Op} (h:aQ C op ρ K) (hk:∀ v,K v→K' v):aQ C op ρ K':=by
 obtain ⟨v,h1,h2⟩:=aF4 h;exact h2 K' (hk v h1)
theorem uA {op:Op} {KV Kp:St→A→Prop} (h:aQ C op ρ (KV s)):aJ C op ρ KV Kp s:=by
 cases op
 case load t x =>
  have h':=h;simp only[aQ] at h';split at h'
  ·rename_i hx;simp only[aJ,hx];exact h
  ·exact h'.elim
 case store=>simp only[aQ] at h
 case buildSlice t len parts =>
  simp only[aJ];split
  ·exact h
  ·exact .inl h
 case alloc=>simp only[aQ] at h
 case box=>simp only[aQ] at h
 case panic=>simp only[aQ] at h
 case range=>simp only[aQ] at h
 case makeSlice=>simp only[aQ] at h
 case convert a b x =>
  have h':=h;simp only[aQ] at h';split at h'
  ·rename_i hx _ _;simp only[aJ,hx];exact h
  ·rename_i hx _ _;simp only[aJ,hx];exact h
  ·exact h'.elim
 case next x b=>cases b<;>simp only[aQ] at h
 case call c =>
  obtain ⟨cal,args,ats⟩:=c;cases cal with
  | value f=>simp only[aQ] at h
  | invoke r m=>simp only[aQ] at h
  | builtin b=>cases b<;>first|exact h|(simp only[aQ] at h)
 case binOp op t x y yt =>
  cases op
  case eql =>
   simp only[aJ];split
   ·exact .inl h
   ·exact h
  all_goals exact h
 all_goals exact h
theorem yM {o:Ob} {f:Nat→A} {KV KV':St→A→Prop} (h:mG C s o f KV) (h1:∀ s a,KV s a→KV' s a):mG C s o f KV':=by
 unfold mG at *;cases hd:C.det<;>rw[hd] at h
 ·exact fun b hb=>h1 _ _ (h b hb)
 ·exact h1 _ _ h
theorem aBF {n:Nat} {e:TypeId} {ys:List A} {KV KV':St→A→Prop} (h:newT C s n e ys KV) (h1:∀ s a,KV s a→KV' s a):newT C s n e ys KV':=by
 unfold newT at *;cases hd:C.det<;>rw[hd] at h
 ·exact fun b hb=>h1 _ _ (h b hb)
 ·exact h1 _ _ h
theorem aEV {n:Nat} {e:TypeId} {sz:Nat} {ys:List A} {KV KV':St→A→Prop} (h:kB C s n e sz ys KV) (h1:∀ s a,KV s a→KV' s a):kB C s n e sz ys KV':=by
 unfold kB at *;cases hd:C.det<;>rw[hd] at h
 ·cases hm:Nat.beq C.mu 1<;>rw[hm] at h
  ·exact aBF h h1
  ·exact ⟨h.1,fun b cap J a1 a2 a3 a4=>h1 _ _ (h.2 b cap J a1 a2 a3 a4)⟩
 ·exact aBF h h1
theorem aJq {det:Bool} {b n cap:Nat} {e:TypeId} {sz m:Nat} {ys:List A} {o:Option Ob} {KV KV':St→A→Prop} (h:qT det s b n cap e sz m ys KV o) (h1:∀ s a,KV s a→KV' s a) :
  qT det s b n cap e sz m ys KV' o:=by
 unfold qT at *;split at h
 ·exact ⟨h.1,fun b' cap' J a1 a2 a3 a4=>h1 _ _ (h.2 b' cap' J a1 a2 a3 a4)⟩
 ·exact h.elim
theorem aKf {n:Nat} {e:TypeId} {KV KV':St→A→Prop} (h:sN C s n e KV) (h1:∀ s a,KV s a→KV' s a):sN C s n e KV':=by
 unfold sN at *;cases hd:C.det<;>rw[hd] at h
 ·exact fun b hb=>h1 _ _ (h b hb)
 ·exact h1 _ _ h
theorem aKe {e:TypeId} {bs:List UInt8} {a:A} {KV KV':St→A→Prop} (h:rE C s e bs KV a) (h1:∀ s a,KV s a→KV' s a):rE C s e bs KV' a:=by
 cases a<;>simp only[rE] at h ⊢
 case nils=>exact ⟨h.1,aBF h.2 h1⟩
 case list tk es =>
  cases tk with
  | none=>exact h
  | some t=>exact ⟨h.1,h1 _ _ h.2⟩
theorem aJK {ti:TI} {u:TypeId} {n:Int} {a:A} {KV KV':St→A→Prop} (h:qY C s ti u n KV a) (h1:∀ s a,KV s a→KV' s a):qY C s ti u n KV' a:=by
 cases a<;>simp only[qY] at h ⊢
 split at h
 ·split at h
  ·split at h
   ·exact ⟨h.1,aKf h.2 h1⟩
   ·exact h.elim
  ·exact h.elim
 ·exact h.elim
theorem aED {ti:TI} {t u:TypeId} {a:A} {KV KV':St→A→Prop} (h:pN C s ti t u KV a) (h1:∀ s a,KV s a→KV' s a):pN C s ti t u KV' a:=by
 unfold pN at h ⊢;split at h
 ·split at h
  ·refine ⟨h.1,?_⟩;have h2:=h.2;split at h2
   ·exact h1 _ _ h2
   ·exact h1 _ _ h2
   ·exact h1 _ _ h2
   ·exact h1 _ _ h2
   ·exact h2.elim
  ·exact h.elim
 ·exact h.elim
theorem aE0 {n sz:Nat} {e:TypeId} {ys:List A} {KV KV':St→A→Prop} (h:nY C s n e ys sz KV) (h1:∀ s a,KV s a→KV' s a):nY C s n e ys sz KV':=by
 unfold nY at *;cases hd:C.det<;>rw[hd] at h
 ·exact fun b hb=>h1 _ _ (h b hb)
 ·exact h1 _ _ h
theorem aJG {ti:TI} {t u:TypeId} {z a:A} {KV KV':St→A→Prop} (h:pO C s ti t u z KV a) (h1:∀ s a,KV s a→KV' s a):pO C s ti t u z KV' a:=by
 unfold pO at h ⊢;split at h
 ·split at h
  ·refine ⟨h.1,?_⟩;have h2:=h.2;split at h2
   ·exact aE0 h2 h1
   ·split at h2
    ·exact ⟨h2.1,aE0 h2.2 h1⟩
    ·exact h2.elim
   ·exact h2.elim
  ·exact h.elim
 ·exact h.elim
theorem aKK {k n z:Nat} {ti:TI} {v:A} {KV KV':St→A→Prop} (h:nH C s k n z ti v KV) (h1:∀ s a,KV s a→KV' s a):nH C s k n z ti v KV':=by
 unfold nH at h ⊢;split at h
 ·split at h
  ·exact ⟨h.1,h1 _ _ h.2⟩
  ·exact h.elim
 ·exact h.elim
theorem yQ {op:Op} {KV Kp KV' Kp':St→A→Prop} (h:aJ C op ρ KV Kp s) (h1:∀ s a,KV s a→KV' s a) (h2:∀ s a,Kp s a→Kp' s a):aJ C op ρ KV' Kp' s:=by
 cases op
 case load t x =>
  simp only[aJ] at h ⊢;split at h
  ·split at h
   ·split at h
    ·exact h1 _ _ h
    ·exact h.elim
   ·exact h.elim
  ·exact lB h (h1 s)
 case store t x y =>
  simp only[aJ] at h ⊢;split at h
  ·split at h
   ·exact ⟨h.1,h1 _ _ h.2⟩
   ·exact h.elim
  ·exact aKK h h1
  ·exact h.elim
 case alloc t =>
  simp only[aJ] at h ⊢;split at h
  ·exact yM h h1
  ·exact h.elim
 case box t x =>
  simp only[aJ] at h ⊢;split at h
  ·exact ⟨h.1,yM h.2 h1⟩
  ·exact h.elim
 case panic x =>
  simp only[aJ] at h ⊢;split at h
  ·exact h2 _ _ h
  ·exact h.elim
 case buildSlice t len parts =>
  simp only[aJ] at h ⊢;split at h
  ·exact lB h (h1 s)
  ·rcases h with h|h
   ·exact .inl (lB h (h1 s))
   ·refine .inr (lB h fun a ha=>?_);unfold uR at ha ⊢;split at ha
    ·split at ha
     ·exact fun k hk=>h1 _ _ (ha k hk)
     ·exact ha.elim
    ·exact ha.elim
 case convert a b x =>
  simp only[aJ] at h ⊢;split at h
  ·split at h
   ·split at h
    ·exact ⟨h.1,h1 _ _ h.2⟩
    ·exact h.elim
   ·exact h.elim
  ·exact lB h (h1 s)
 case makeSlice t a b =>
  simp only[aJ] at h ⊢;split at h
  ·split at h
   ·split at h
    ·exact ⟨h.1,yM h.2 h1⟩
    ·exact h.elim
   ·exact h.elim
  ·exact h.elim
 case range t x =>
  simp only[aJ] at h ⊢;split at h
  ·split at h
   ·exact yM h h1
   ·exact h.elim
  ·exact h.elim
 case next x b =>
  cases b
  ·simp only[aJ,aQ] at h
  simp only[aJ] at h ⊢;split at h
  ·split at h
   ·unfold wY at h ⊢;split at h
    ·rename_i hp;rw[if_pos hp];exact h1 _ _ h
    ·rename_i hp;rw[if_neg hp];exact h1 _ _ h
   ·exact h.elim
  ·exact h.elim
 case call c =>
  obtain ⟨cal,args,ats⟩:=c;obtain ⟨args⟩:=args;obtain ⟨ats⟩:=ats;cases cal with
  | value f =>
   simp only[aJ] at h ⊢;split at h
   ·exact Den.mono h h1 h2
   ·exact h.elim
  | invoke r m=>refine uA (lB (K:=KV s) ?_ (h1 s));exact h
  | builtin b =>
   cases b
   case append =>
    match args,ats,h with
    | [x,y],[t,u],h =>
     simp only[aJ] at h ⊢;split at h
     ·split at h
      ·split at h
       ·obtain ⟨a1,a2,a3⟩:=h;refine ⟨a1,a2,?_⟩;unfold nX at a3 ⊢;split at a3
        ·exact ⟨a3.1,aEV a3.2 h1⟩
        ·split at a3
         ·exact h1 _ _ a3
         ·exact ⟨a3.1,aEV a3.2 h1⟩
        ·exact aJq a3 h1
        ·exact ⟨a3.1,a3.2.1,a3.2.2.1,h1 _ _ a3.2.2.2⟩
        ·exact a3.elim
       ·exact h.elim
      ·exact h.elim
     ·split at h
      ·exact aKe h h1
      ·exact h.elim
     ·exact aJK h h1
     ·exact aED h h1
     ·exact aED h h1
     ·exact aJG h h1
     ·exact h.elim
    | [],_,h=>simp only[aJ] at h
    | [_],_,h=>simp only[aJ] at h
    | _::_::_::_,_,h=>simp only[aJ] at h
    | [_,_],[],h=>simp only[aJ] at h
    | [_,_],[_],h=>simp only[aJ] at h
    | [_,_],_::_::_::_,h=>simp only[aJ] at h
   case unsafeString =>
    match args,ats,h with
    | [x,y],[t,u],h =>
     simp only[aJ] at h ⊢;split at h
     ·exact ⟨h.1,h1 _ _ h.2⟩
     ·split at h
      ·obtain ⟨a1,bs,a2,a3⟩:=h;exact ⟨a1,bs,a2,h1 _ _ a3⟩
      ·exact h.elim
     ·exact h.elim
    | [],_,h=>simp only[aJ] at h
    | [_],_,h=>simp only[aJ] at h
    | _::_::_::_,_,h=>simp only[aJ] at h
    | [_,_],[],h=>simp only[aJ] at h
    | [_,_],[_],h=>simp only[aJ] at h
    | [_,_],_::_::_::_,h=>simp only[aJ] at h
   case panic =>
    match args,h with
    | [],h=>simp only[aJ] at h
    | [x],h =>
     simp only[aJ] at h ⊢;split at h
     ·exact h2 _ _ h
     ·exact h.elim
    | _::_::_,h=>simp only[aJ] at h
   all_goals (refine uA (lB (K:=KV s) ?_ (h1 s));exact h)
 case binOp op t x y yt =>
  cases op
  case eql =>
   simp only[aJ] at h ⊢;split at h
   ·rcases h with h|⟨hn,ht,hf⟩
    ·exact .inl (lB h (h1 s))
    ·exact .inr ⟨hn,h1 _ _ ht,h1 _ _ hf⟩
   ·exact lB h (h1 s)
  all_goals (refine uA (lB (K:=KV s) ?_ (h1 s));exact h)
 all_goals (refine uA (lB (K:=KV s) ?_ (h1 s));exact h)
end
end
end Go.AV
