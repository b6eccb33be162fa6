/-
  Part of the proof of DefBlanks.
-/
import Derived.Test.YtamikhobdffnfaaGreatDoorBl08
import Derived.Recover
set_option linter.all false
set_option maxRecDepth 1000000
set_option maxHeartbeats 40000000
section
namespace Go.AV
open Go
section
variable {T:XT} {C:Cx} {s:St} {σ:XS} {KV Kp:St→A→Prop} {F:FuncId→List A→XS→CR} {n:Nat} {e:Env} {ε:Tr A} {K:Env→St→Prop} {E:List (Nat × List Nat)}
def wW (C:Cx) (W:WX):List (Nat × (St→Prop)):=W.map fun x=>(x.1,loadIs C x.2.1 x.2.2.1 x.2.2.2.1 x.2.2.2.2)
theorem loadPX_ok (hT:T.ok C) (hs:Sim s σ) {t:TypeId} {b o:Nat} {v:A} (h:loadPX T t b o σ=some v):loadP C t b o s=some v:=by
 unfold loadPX at h;split at h
 ·rename_i cs hb;simp only[loadP,hs.ob b,hb];exact loadX_ok hT h
 ·cases h
theorem ckX_ok (hT:T.ok C) (hs:Sim s σ) {ms:List Nat}:∀ {W:WX},ckX T ms σ W=true→ckE ms s (wW C W)
 | [],_=>trivial
 | (m,t,b,o,v)::W,h=>by
  simp only[ckX,gD5] at h;refine ⟨?_,ckX_ok hT hs h.2⟩;split
  ·rename_i hm;have h1:=h.1;rw[hm] at h1;simp only at h1;split at h1
   ·rename_i u hu;have:=eqAF_ok 60 _ _ h1;subst this;exact loadPX_ok hT hs hu
   ·cases h1
  ·trivial
def SR.to (C:Cx) (next:List (Nat × (St→Prop))→Env→St→Prop) (Kp:St→A→Prop):SR→Prop
 | .ok W ε σ=>∀ e s,SimE e ε→Sim s σ→next (wW C W) e s
 | .pan a σ=>∀ s,Sim s σ→Kp s a
 | .bad=>False
theorem fitX_ok {next:List (Nat × (St→Prop))→Env→St→Prop} {W:WX} {dst:Option Tmp} {a:A} (he:SimE e ε) (hs:Sim s σ) (h:(fitX n dst W ε σ a).to C next Kp) :
  putK n dst (next (wW C W)) e s a:=by
 unfold fitX at h;cases hp:putX n dst ε a with
 | none=>rw[hp] at h;exact h.elim
 | some ε'=>rw[hp] at h;exact putX_ok he hp fun e' he'=>h e' s he' hs
theorem takeX_ok (hT:T.ok C) {next:List (Nat × (St→Prop))→Env→St→Prop} {W:WX} {i:Nat} {dst:Option Tmp} {op:Op} (he:SimE e ε) (hs:Sim s σ)
  (h:(takeX T n i dst op W ε σ).to C next Kp):tkO C op (opd C e) s (tkK n dst i next (wW C W) e s):=by
 rw[opdX_eq hT he]
 have plain:∀ {op:Op},(takeP n dst W ε σ (evXS T op (opdX T ε))).to C next Kp→evS C op (opdX T ε) (noW (tkK n dst i next (wW C W) e s)):=by
  intro op h;cases hv:evXS T op (opdX T ε) with
  | none=>rw[hv] at h;exact h.elim
  | some v=>rw[hv] at h;exact evXS_ok hT hv (fitX_ok he hs h)
 cases op
 case load t x =>
  simp only[takeX] at h;simp only[tkO];split at h
  ·rename_i b o hx;rw[hx];simp only[tkX];cases hv:loadPX T t b o σ with
   | none=>rw[hv] at h;exact h.elim
   | some v =>
    rw[hv] at h;rw[loadPX_ok hT hs hv];exact fitX_ok (W:=(i,t,b,o,v)::W) he hs h
  ·rename_i cs o hx;rw[hx];cases hv:loadX T t cs o with
   | none=>rw[hv] at h;exact h.elim
   | some v =>
    rw[hv] at h;simp only[tkX,evS,hx,loadX_ok hT hv];exact fitX_ok he hs h
  ·exact h.elim
 all_goals (simp only[takeX] at h;exact plain h)
theorem effX_ok (hT:T.ok C) (hd:C.det=true) (hF:FOk C F) {next:List (Nat × (St→Prop))→Env→St→Prop} {W:WX} {ms:List Nat} {dst:Option Tmp} {op:Op} (he:SimE e ε) (hs:Sim s σ)
  (h:(effX T F n ms dst op W ε σ).to C next Kp):evO C op (opd C e) (effK n dst ms next (wW C W) e) Kp s:=by
 rw[opdX_eq hT he];refine evX_ok hT hd hs ?_
 have val:∀ {a:A} {σ':XS},(match ckX T ms σ' W with|true=>fitX n dst W ε σ' a|false=>.bad).to C next Kp→∀ s',Sim s' σ'→effK n dst ms next (wW C W) e s' a:=by
  intro a σ' h s' hs';cases hc:ckX T ms σ' W with
  | false=>rw[hc] at h;exact h.elim
  | true=>rw[hc] at h;exact ⟨ckX_ok hT hs' hc,fitX_ok he hs' h⟩
 unfold effX at h;cases hv:evX T op (opdX T ε) σ with
 | val a σ'=>rw[hv] at h;exact val h
 | pan a σ'=>rw[hv] at h;exact h
 | call f az =>
  rw[hv] at h;simp only at h;refine hF f az σ s _ _ hs ?_;cases hc:F f az σ with
  | val a σ'=>rw[hc] at h;exact val h
  | pan a σ'=>rw[hc] at h;exact h
  | bad=>rw[hc] at h;exact h.elim
 | bad=>rw[hv] at h;exact h.elim
theorem stepX_ok (hT:T.ok C) (hd:C.det=true) (hF:FOk C F) {next:List (Nat × (St→Prop))→Env→St→Prop} {W:WX} {i:Nat} {dst:Option Tmp} {op:Op} (he:SimE e ε) (hs:Sim s σ)
  (h:(stepX T F n (lookE E i) i dst op W ε σ).to C next Kp):exO C n E i dst op next (wW C W) Kp e s (isEff op):=by
 unfold stepX at h;cases hi:isEff op<;>rw[hi] at h
 ·exact takeX_ok hT he hs h
 ·exact effX_ok hT hd hF he hs h
theorem gstX_ok (hT:T.ok C) (hd:C.det=true) (hF:FOk C F) {ds:List (Option Tmp)} {next:List (Nat × (St→Prop))→Env→St→Prop} {W:WX} {i:Nat} {o:Oper} (he:SimE e ε) (hs:Sim s σ)
  (h:(gstX T F n ds (lookE E i) i o W ε σ).to C next Kp):stO C n ds E i next (wW C W) Kp e s (some o):=by
 obtain ⟨dst,op,ty,pos,after,gd⟩:=o;cases gd with
 | none=>exact stepX_ok hT hd hF he hs h
 | some jw =>
  obtain ⟨j,want⟩:=jw;simp only[gstX] at h;simp only[stO];cases ht:dstAt ds j with
  | none=>rw[ht] at h;exact h.elim
  | some t =>
   rw[ht] at h;simp only at h;simp only[gdY];rw[he t];cases hg:ε.get t with
   | none=>rw[hg] at h;exact h.elim
   | some a =>
    rw[hg] at h;cases a<;>simp only at h<;>simp only[gdX]
    case bool b =>
     have he':=he.same hg;cases b<;>cases want<;>simp only[beq_self_eq_true,beq_iff_eq,Bool.false_beq,Bool.true_beq,Bool.not_true,Bool.not_false] at h ⊢
     ·exact stepX_ok hT hd hF he' hs h
     ·exact fitX_ok he' hs h
     ·exact fitX_ok he' hs h
     ·exact stepX_ok hT hd hF he' hs h
    case tuple l=>exact fitX_ok he hs h
    all_goals exact h.elim
theorem sameX_ok {r r':OR} (h:(sameX r r').to K Kp):r.to K Kp∧r'.to K Kp:=by
 have st:∀ {σ σ':XS},eqTr eqOb σ.bx σ'.bx=true→eqTr (fun (a b:Nat × TypeId)=>decide (a=b)) σ.tk σ'.tk=true→Nat.beq σ.lim σ'.lim=true→eqOp (fun (a b:Nat × Nat × A)=>Nat.beq a.1 b.1&&Nat.beq a.2.1 b.2.1&&eqA a.2.2 b.2.2) σ.ls σ'.ls=true→σ=σ':=by
  intro σ σ' h1 h2 h3 h4;obtain ⟨a,b,c,d⟩:=σ;obtain ⟨a',b',c',d'⟩:=σ';have e1:=eqTr_ok eqOb_ok _ _ h1;have e2:=eqTr_ok (fun a b h=>of_decide_eq_true h) _ _ h2;have e3:=gC7 h3
  have e4:=eqOp_ok (fun (a b:Nat × Nat × A) h=>by
   simp only[gD5] at h;obtain ⟨a1,a2,a3⟩:=a;obtain ⟨b1,b2,b3⟩:=b;have h1:=gC7 h.1.1;have h2:=gC7 h.1.2;have h3:=eqAF_ok 60 _ _ h.2;simp only at h1 h2 h3;rw[h1,h2,h3]) _ _ h4
  simp only at e1 e2 e3 e4;rw[e1,e2,e3,e4]
 unfold sameX at h;split at h
 ·split at h
  ·rename_i hc;simp only[gD5] at hc;have e1:=eqTr_ok (eqAF_ok 60) _ _ hc.1.1.1.1;have e2:=st hc.1.1.1.2 hc.1.1.2 hc.1.2 hc.2;subst e1 e2;exact ⟨h,h⟩
  ·exact h.elim
 ·split at h
  ·rename_i hc;simp only[gD5] at hc;have e1:=eqAF_ok 60 _ _ hc.1.1.1.1;have e2:=st hc.1.1.1.2 hc.1.1.2 hc.1.2 hc.2;subst e1 e2;exact ⟨h,h⟩
  ·exact h.elim
 ·exact h.elim
theorem pairX_ok (hT:T.ok C) (he:SimE e ε) {a b:Oper} (h:pairX T ε a b=true):pairOk C e (some a) (some b):=by
 obtain ⟨d,op,ty,pos,after,gd⟩:=a;obtain ⟨d',op',ty',pos',after',gd'⟩:=b;unfold pairX at h;simp only at h;split at h;rotate_left
 ·cases h
 split at h;rotate_left
 ·cases h
 rename_i e1 e2 e3;simp only[gD5] at h;simp only[pairOk,opdX_eq hT he,e1,e2,e3,pairV];exact ⟨gC7 h.1.1,gC7 h.1.2,gC7 h.2⟩
theorem ordX_ok (hT:T.ok C) (hd:C.det=true) (hF:FOk C F) {ds:List (Option Tmp)} {ops:List Oper}:∀ (t:OT) (W:WX) (e:Env) (s:St) (ε:Tr A) (σ:XS),SimE e ε→Sim s σ →
  (ordX T F n ds ops E t W ε σ).to K Kp→wpO C n ds ops E K Kp t (wW C W) e s
 | .nil,W,e,s,ε,σ,he,hs,h=>h e s he hs
 | .node i r,W,e,s,ε,σ,he,hs,h=>by
  simp only[ordX] at h;simp only[wpO];cases ho:nthO ops i with
  | none=>rw[ho] at h;exact h.elim
  | some o =>
   rw[ho] at h;simp only at h;refine gstX_ok hT hd hF he hs ?_;cases hg:gstX T F n ds (lookE E i) i o W ε σ with
   | ok W' ε' σ'=>rw[hg] at h;exact fun e' s' he' hs'=>ordX_ok hT hd hF r W' e' s' ε' σ' he' hs' h
   | pan a σ'=>rw[hg] at h;exact h
   | bad=>rw[hg] at h;exact h.elim
 | .alt a b,W,e,s,ε,σ,he,hs,h=>by
  have h':=sameX_ok h;exact ⟨ordX_ok hT hd hF a W e s ε σ he hs h'.1,ordX_ok hT hd hF b W e s ε σ he hs h'.2⟩
 | .pair i j,W,e,s,ε,σ,he,hs,h=>by
  simp only[ordX] at h;simp only[wpO];cases ho:nthO ops i with
  | none=>rw[ho] at h;exact h.elim
  | some a =>
  cases ho':nthO ops j with
  | none=>rw[ho,ho'] at h;exact h.elim
  | some b =>
  rw[ho,ho'] at h;simp only at h;cases hp:pairX T ε a b with
  | false=>rw[hp] at h;exact h.elim
  | true =>
  rw[hp] at h;simp only at h;refine ⟨pairX_ok hT he hp,gstX_ok hT hd hF he hs ?_⟩;cases hg:gstX T F n ds (lookE E i) i a W ε σ with
  | pan a σ'=>rw[hg] at h;exact h
  | bad=>rw[hg] at h;exact h.elim
  | ok W' ε' σ' =>
   rw[hg] at h;simp only at h;intro e' s' he' hs';refine gstX_ok hT hd hF he' hs' ?_;cases hg2:gstX T F n ds (lookE E j) j b W' ε' σ' with
   | pan a σ'=>rw[hg2] at h;exact h
   | bad=>rw[hg2] at h;exact h.elim
   | ok W2 ε2 σ2=>rw[hg2] at h;exact fun e2 s2 he2 hs2=>h e2 s2 he2 hs2
end
theorem draw_ok' {C:Cx} {n id:Nat} {ops:Array Oper} {Q:XK→Env→St→Prop} {e:Env} {s:St} (t:OT) (E:List (Nat × List Nat))
  (hm:C.P.follows .mixedOrders=true)
  (hck:(okE ops E&&okT ops ops.size (Array.replicate ops.size false) t&&lateOk C.tt ops)=true)
  (h:wpO C n (ops.toList.map (·.dst)) ops.toList E (fun e s=>Q .normal e s) (panK Q (ops.toList.map (·.dst)) e) t [] e s):Ex C n (.region id ops true) Q e s:=by
 simp only[gD5] at hck
 have hext:∀ (e e':Env) (s:St),(∀ t,e.get t=e'.get t)→(∃ e2 s2,e.ge e2∧Rle C s s2∧Q .normal e2 s2)→∃ e2 s2,e'.ge e2∧Rle C s s2∧Q .normal e2 s2 :=
  fun e e' s he ⟨e2,s2,h1,h2⟩=>⟨e2,s2,fun t a ha=>by rw[← he t];exact h1 t a ha,h2⟩
 have hrle:∀ (e:Env) (s s':St),Rle C s s'→(∃ e2 s2,e.ge e2∧Rle C s' s2∧Q .normal e2 s2)→∃ e2 s2,e.ge e2∧Rle C s s2∧Q .normal e2 s2 :=
  fun e s s' hr ⟨e2,s2,h1,h2,h3⟩=>⟨e2,s2,h1,fun F g w hR=>h2 F g w (hr F g w hR),h3⟩
 intro F g w a hR he;refine wp_region_any hm ?_
 have hdc:DC ops (Array.replicate ops.size false):=by
  intro j o ho hl;exfalso;by_cases hj:j<ops.size
  ·simp[hj] at hl
  ·simp[hj] at hl
 have hA:=wpO_ok hck.1.1 hext hrle ops.size _ t [] e s hck.1.2 hdc (fun w hw=>by cases hw) (fun w hw=>by cases hw)
  (wpO_mono (fun e s hk=>⟨e,s,Env.ge.refl e,Rle.refl s,hk⟩) t [] e s h)
 refine wpA_ok (rem_none e) (Q:=Q) (fun e s hk=>hk) (fun s v hk=>hk) (lateOk_ok hck.2) _ _ g e s a _ (unl_all _) (Gh.le.refl g) ?_ he (rem_ok he) rfl hA;exact hR.heap rfl
theorem lateOk_mono {tt tt':TypeId→Option TI} (ht:∀ t ti,tt t=some ti→tt' t=some ti) {ops:Array Oper} (h:lateOk tt ops=true):lateOk tt' ops=true:=by
 simp only[lateOk,List.all_eq_true,List.mem_range] at h ⊢;intro i hi;have h1:=h i hi;cases ho:ops[i]? with
 | none=>rw[ho] at h1;exact h1
 | some o =>
  rw[ho] at h1;cases hl:late ops i with
  | false=>simp
  | true =>
   rw[hl] at h1;simp only[Bool.not_true,Bool.false_or] at h1 ⊢;split at h1
   ·rename_i t e;obtain ⟨ti,hti⟩:=Option.isSome_iff_exists.1 h1;simp only[e,ht _ _ hti];rfl
   ·rfl
def ordOk (tt:TypeId→Option TI) (ord:Nat→Nat→Option (OT × List (Nat × List Nat))) (fi:FuncId):Code→Bool
 | .seq c d=>ordOk tt ord fi c&&ordOk tt ord fi d
 | .block _ c=>ordOk tt ord fi c
 | .cond _ c d=>ordOk tt ord fi c&&ordOk tt ord fi d
 | .loop c=>ordOk tt ord fi c
 | .region id ops draw=>match draw with
  | false=>true
  | true=>match ord fi id with
   | some (t,E)=>okE ops E&&okT ops ops.size (Array.replicate ops.size false) t&&lateOk tt ops
   | none=>true
 | _=>true
theorem Den.of_bodyD {C:Cx} {f:FuncId} {fn:Func} {c:Code} {args:List A} {KV Kp:St→A→Prop} {s:St} (hf:C.P.funcs[f]?=some fn) (hb:fn.body=some c)
  (hname : (fn.name == "runtime.NumGoroutine") = false) (hn : args.length ≤ fn.ntmps)
  (h:∀ F g w (a:Act),R C.toCtx F g s w→EnvOk g fn.ntmps (envOf 0 args) a.tmps→a.defers=[]→c.wp C.P (bodyPostD C.P fn (DPost C F g KV Kp)) a w):Den C f args KV Kp s:=by
 intro F g w vals hR hv
 have hcf:(callFunc f vals.toArray).run C.P w=.ok (.enter f vals.toArray) w:=by
  simp only[callFunc,Sem.run_bind,run_program,Result.andThen_ok,hf,hname,gD7,↓reduceIte,hb,Option.isNone_some,Sem.run_pure]
 rw[hcf];refine calls_of_wp_defers hf hb ?_
 have hE:EnvOk g fn.ntmps (envOf 0 args) (vals.toArray++Array.replicate (fn.ntmps-vals.toArray.size) undef):=by
  have hl:vals.length=args.length:=hv.1;refine ⟨by simp;omega,fun t a ha=>?_⟩;obtain ⟨_,h2⟩:=envOf_get args 0 t a ha;obtain ⟨u,hu,hr⟩:=hv.get h2;rw[Nat.sub_zero] at hu;refine ⟨u,?_,hr⟩;have:t<vals.length:=(List.getElem?_eq_some_iff.1 hu).1;rw[Array.getElem?_append_left (by simpa using this)];simpa using hu
 exact h F g w ⟨_,[]⟩ hR hE rfl
structure Catch (C:Cx) (h:FuncId) (ft:TypeId):Prop where
 quiet:∀ F g s w (p:Value),R C.toCtx F g s w→CallsD C.P h #[p] .returning w fun e u' w'=>(∃ v,e=.returned v)∧u'=.returning∧∃ g',g.le g'∧R C.toCtx F g' s w'
 loud:∀ F g s w (b k:Nat) (cs fs:List A) (v:Value),R C.toCtx F g s w→g.beta b=some k→s.getO b=some (.cells ft cs)→Rz g (.agg fs) v→fs.length=cs.length→(∃ ti,C.tt ft=some ti∧ti.sz=fs.length) →
  CallsD C.P h #[.pointer (some ⟨k,0,none⟩)] (.panicking [{ v:=.iface ft v,recovered:=false }]) w fun e u' w'=>(∃ v,e=.returned v)∧settle u'=.returning ∧
   ∃ g',g.le g'∧R C.toCtx F g' ((s.newO (.cells ft fs)).setO b (.cells ft fs)) w'
structure XP.ok (X:XP) (C:Cx):Prop where
 T:X.T.ok C
 det:C.det=true
 mix:C.P.follows .mixedOrders=true
 fns:∀ f fx,X.fns f=some fx→∃ fn,C.P.funcs[f]?=some fn∧fn.body=some fx.code∧fn.ntmps=fx.n∧fn.results.toList=fx.rs ∧
  (fn.name == "runtime.NumGoroutine") = false ∧ ordOk X.T.tt X.ord f fx.code = true
 ctc:Catch C X.hd X.ft
 ent:∀ (k:Nat) (w:World),(invoke (.fn (.func X.hd) #[]) #[.pointer (some ⟨k,0,none⟩)]).run C.P w=.ok (.enter X.hd #[.pointer (some ⟨k,0,none⟩)]) w
 ext:∀ f h,X.ext f=some h→∀ az σ s KV Kp,Sim s σ→(h az σ).to KV Kp→Den C f az KV Kp s
section
variable {X:XP} {C:Cx}
theorem resX_ok (hT:X.T.ok C) {e:Env} {s:St} {ε:Tr A} {σ:XS} (he:SimE e ε) (hs:Sim s σ):∀ (rs:List ResultVar) (l:List A),resX X.T ε σ rs=some l→resA C e s rs=some l
 | [],l,h=>h
 | .tmp t::r,l,h=>by
  simp only[resX] at h;split at h
  ·rename_i a l' ha hl;simp only[resA,he t,ha,resX_ok hT he hs r l' hl];exact h
  ·cases h
 | .cell p t::r,l,h=>by
  simp only[resX] at h;split at h
  ·rename_i b o l' ha hl;split at h
   ·rename_i cs hb;split at h
    ·rename_i a hv;simp only[resA,he p,ha,resX_ok hT he hs r l' hl,hs.ob b,hb,loadX_ok hT hv];exact h
    ·cases h
   ·cases h
  ·cases h
theorem envX_ok:∀ (az:List A) (k:Nat) (ε:Tr A) (e:Env),SimE e ε→SimE (envOf k az++e) (envX k az ε)
 | [],k,ε,e,he=>he
 | a::r,k,ε,e,he=>by
  have h1:SimE ((k,a)::e) (ε.set k a):=fun t=>by
   rw[Tr.get_set];simp only[Env.get];split
   ·rfl
   ·exact he t
  have:=envX_ok r (k+1) _ _ h1;intro t;refine Eq.trans ?_ (this t)
  have key:∀ (l:List A) (k':Nat) (x y:Env),k<k'→(∀ t,x.get t=y.get t)→∀ t,Env.get ((k,a)::(envOf k' l++x)) t=(envOf k' l++(k,a)::y).get t:=by
   intro l
   induction l with
   | nil =>
    intro k' x y hk hxy t;simp only[envOf,gD3,Env.get];split
    ·rfl
    ·exact hxy t
   | cons b l ih =>
    intro k' x y hk hxy t;have:=ih (k'+1) x y (by omega) hxy t;simp only[envOf,gD2,Env.get] at this ⊢;by_cases h1:k=t
    ·subst h1;simp only[↓reduceIte] at this ⊢;rw[if_neg (by omega)];exact this
    ·simp only[h1,↓reduceIte] at this ⊢;by_cases h2:k'=t
     ·simp[h2]
     ·simp only[h2,↓reduceIte];exact this
  exact key r (k+1) e e (by omega) (fun _=>rfl) t
theorem thenX_ok {r:CO} {k:Tr A→XS→CO} {Q:XK→Env→St→Prop} (h:(thenX r k).to Q) {R:Env→St→Prop} (hk:∀ e s ε σ,SimE e ε→Sim s σ→(k ε σ).to Q→R e s) :
  r.to (seqK R Q):=by
 unfold thenX at h;cases r with
 | ok x ε σ =>
  cases x<;>simp only at h
  case normal=>exact fun e s he hs=>hk e s ε σ he hs h
  all_goals exact h
 | bad=>exact h
theorem blkX_ok {i:Nat} {r:CO} {Q:XK→Env→St→Prop} (h:(blkX i r).to Q):r.to (blockK i Q):=by
 unfold blkX at h;cases r with
 | ok x ε σ =>
  cases x<;>simp only at h
  case exit j =>
   intro e s he hs;simp only[blockK];split at h
   ·rename_i hj;rw[if_pos (gC7 hj)];exact h e s he hs
   ·rename_i hj;rw[if_neg (by rintro rfl;rw[Nat.beq_refl] at hj;cases hj)];exact h e s he hs
  all_goals exact h
 | bad=>exact h
theorem remX_ok {e:Env} {ε:Tr A} (he:SimE e ε) (ds:List (Option Tmp)):SimE (e.rem ds) (remX ds ε):=by
 intro t;rw[Env.get_rem,remX_get,he t]
theorem endX_ok {e:Env} {ε:Tr A} (he:SimE e ε) {ds:List (Option Tmp)} {r:OR} {Q:XK→Env→St→Prop} (h:(endX ds ε r).to Q):r.to (fun e s=>Q .normal e s) (panK Q ds e):=by
 cases r with
 | ok ε σ=>exact h
 | pan a σ=>exact fun s hs=>h (e.rem ds) s (remX_ok he ds) hs
 | bad=>exact h
theorem finX_ok (hT:X.T.ok C) {fn:Func} {rs:List ResultVar} (hrs:fn.results.toList=rs) {KV Kp:St→A→Prop} {x:XK} {ε:Tr A} {σ:XS} (h:(finX X rs x ε σ).to KV Kp) {e:Env} {s:St} (he:SimE e ε) (hs:Sim s σ) :
  retK C fn.results.toList KV Kp x e s:=by
 have fin:(match resX X.T ε σ rs with|some l=>CR.val (outA l) σ|none=>.bad).to KV Kp→(match resA C e s fn.results.toList with|some l=>KV s (outA l)|none=>False):=by
  intro h;cases hl:resX X.T ε σ rs with
  | none=>rw[hl] at h;exact h.elim
  | some l=>rw[hl] at h;rw[hrs,resX_ok hT he hs _ _ hl];exact h s hs
 cases x<;>simp only[finX] at h
 ·exact fin h
 ·exact h.elim
 ·exact h.elim
 ·exact fin h
 ·exact h s hs
def dfrd (h k:Nat):Deferred:={ target:=.fn (.func h) #[],args:=#[.pointer (some ⟨k,0,none⟩)] }
def PostD (C:Cx) (F:Fr) (g0:Gh) (n:Nat) (h:FuncId) (r:DO) (ex:Exit) (a:Act) (w:World):Prop :=
 ∃ g' e s x ε σ d,r=.ok x ε σ d∧g0.le g'∧R C.toCtx F g' s w∧EnvOk g' n e a.tmps∧XRz g' x ex∧SimE e ε∧Sim s σ ∧
  (match d with
   | none=>a.defers=[]
   | some b=>∃ k,g'.beta b=some k∧a.defers=[dfrd h k])
theorem isDefer_ok {c:Code} {h:FuncId} {x:Operand} (hc:isDefer c=some (h,x)):∃ id ops ats ty pos after,c=.region id ops false∧ops.toList=[⟨none,.defer ⟨.value (.func h),#[x],ats⟩,ty,pos,after,none⟩]:=by
 unfold isDefer at hc;split at hc
 ·rename_i id ops draw;split at hc
  ·cases hc
  ·split at hc
   ·rename_i o ho;split at hc
    ·rename_i c hd hg hop;split at hc
     ·rename_i h' x' hcal hargs;cases hc;obtain ⟨dst,op,ty,pos,after,gd⟩:=o;obtain ⟨cal,args,ats⟩:=c;simp only at hd hg hop hcal hargs;subst hd hg hop hcal;refine ⟨id,ops,ats,ty,pos,after,rfl,?_⟩;rw[ho];have:args=#[x]:=by apply Array.ext';exact hargs
      rw[this]
     ·cases hc
    ·cases hc
   ·cases hc
 ·cases hc
theorem codeD_ok {n:Nat} {rec:Code→Tr A→XS→CO} (hT:X.T.ok C) (P:Code→Prop) (hP:∀ c d,P (.seq c d)→P c∧P d)
  (hrec:∀ c ε σ,P c→∀ (e:Env) (s:St) (Q:XK→Env→St→Prop),SimE e ε→Sim s σ→(rec c ε σ).to Q→Ex C n c Q e s) :
  ∀ (c:Code) (ε:Tr A) (σ:XS) (x:XK) (ε':Tr A) (σ':XS) (d:Option Nat),P c→codeD X rec c ε σ=.ok x ε' σ' d→∀ (e:Env) (s:St),SimE e ε→Sim s σ→∀ F g w a,R C.toCtx F g s w→EnvOk g n e a.tmps→a.defers=[] →
   c.wp C.P (PostD C F g n X.hd (codeD X rec c ε σ)) a w:=by
 intro c
 have plain:∀ (c:Code) (ε:Tr A) (σ:XS) (r:DO),P c→r=(match rec c ε σ with|.ok x ε σ=>DO.ok x ε σ none|.bad=>.bad)→(∃ x ε' σ' d,r=.ok x ε' σ' d)→∀ (e:Env) (s:St),SimE e ε→Sim s σ→∀ F g w a,R C.toCtx F g s w→EnvOk g n e a.tmps→a.defers=[] →
   c.wp C.P (PostD C F g n X.hd r) a w:=by
  intro c ε σ r hp hr hok e s he hs F g w a hR hE hD;cases hrc:rec c ε σ with
  | bad=>rw[hrc] at hr;obtain ⟨x,ε',σ',d,h⟩:=hok;rw[hr] at h;cases h
  | ok x1 ε1 σ1 =>
   rw[hrc] at hr;subst hr;have:=hrec c ε σ hp e s (fun x e s=>x=x1∧SimE e ε1∧Sim s σ1) he hs (by rw[hrc];exact fun e s he hs=>⟨rfl,he,hs⟩) F g w a hR hE;refine Code.wp_mono (fun ex a' w' hq=>?_) this;obtain ⟨g',e',s',x,h1,h2,h3,h4,h5,rfl,h7,h8⟩:=hq;exact ⟨g',e',s',x,_,_,none,rfl,h1,h2,h3,h5,h7,h8,by rw[h4];exact hD⟩
 induction c with
 | seq c d ihc ihd =>
  intro ε σ x ε' σ' dd hp hok e s he hs F g w a hR hE hD;obtain ⟨hpc,hpd⟩:=hP c d hp;simp only[codeD] at hok ⊢;cases hdf:isDefer c with
  | some hx =>
   obtain ⟨h,y⟩:=hx;rw[hdf] at hok;simp only at hok ⊢;split at hok
   ·rename_i b hh hy;cases hrc:rec d ε σ with
    | bad=>rw[hrc] at hok;cases hok
    | ok x1 ε1 σ1 =>
     simp only;obtain ⟨id,ops,ats,ty,pos,after,rfl,hops⟩:=isDefer_ok hdf;obtain rfl:h=X.hd:=gC7 hh;rw[← opdX_eq hT he] at hy;obtain ⟨k,hv,hbk⟩:=((hE.oper hR) y _ hy).ptr_inv;refine wp_seq ?_
     have hq:∀ (a':Act),a'.tmps=a.tmps→a'.defers=[dfrd X.hd k]→d.wp C.P (PostD C F g n X.hd (.ok x1 ε1 σ1 (some b))) a' w:=by
      intro a' ht hd';have:=hrec d ε σ hpd e s (fun x e s=>x=x1∧SimE e ε1∧Sim s σ1) he hs (by rw[hrc];exact fun e s he hs=>⟨rfl,he,hs⟩) F g w a' hR (by rw[ht];exact hE);refine Code.wp_mono (fun ex a2 w2 hq=>?_) this;obtain ⟨g',e',s',x,h1,h2,h3,h4,h5,rfl,h7,h8⟩:=hq;exact ⟨g',e',s',x,_,_,some b,rfl,h1,h2,h3,h5,h7,h8,k,h1.beta _ _ hbk,by rw[h4];exact hd'⟩
     refine wp_region_list ?_;rw[hops];unfold wpList;rw[if_pos (by simp[Region.wanted])];left
     have hex:(execOp a.eval ⟨none,.defer ⟨.value (.func X.hd),#[y],ats⟩,ty,pos,after,none⟩).run C.P w=.ok (.defer (dfrd X.hd k)) w:=by
      have e1:a.eval (.func X.hd)=.func (.func X.hd) #[] #[]:=rfl;simp only[execOp,resolve,e1,Deferred.ofValue,Sem.run_bind,Sem.run_pure,Result.andThen_ok,List.map_toArray,List.map_cons,List.map_nil,hv,dfrd];simp
     unfold Oper.wp;rw[hex,Oper.upon_defer];unfold wpList;exact hq _ rfl (by simp[Act.put,hD])
   ·cases hok
  | none =>
   rw[hdf] at hok;simp only at hok ⊢;cases hrc:rec c ε σ with
   | bad=>rw[hrc] at hok;cases hok
   | ok x1 ε1 σ1 =>
    rw[hrc] at hok;simp only at hok ⊢;refine wp_seq ?_;have:=hrec c ε σ hpc e s (fun x e s=>x=x1∧SimE e ε1∧Sim s σ1) he hs (by rw[hrc];exact fun e s he hs=>⟨rfl,he,hs⟩) F g w a hR hE;refine Code.wp_mono (fun ex a' w' hq=>?_) this;obtain ⟨g',e',s',y,h1,h2,h3,h4,h5,rfl,h7,h8⟩:=hq;cases ex<;>cases y<;>try exact h5.elim
    ·simp only at hok ⊢;refine Code.wp_mono (fun ex a2 w2 hq=>?_) (ihd ε1 σ1 x ε' σ' dd hpd hok e' s' h7 h8 F g' w' a' h2 h3 (by rw[h4];exact hD));obtain ⟨g2,e2,s2,x2,ε2,σ2,d2,q0,q1,q2⟩:=hq;exact ⟨g2,e2,s2,x2,ε2,σ2,d2,q0,h1.trans q1,q2⟩
    all_goals exact ⟨g',e',s',_,_,_,none,rfl,h1,h2,h3,h5,h7,h8,by rw[h4];exact hD⟩
 | _=>exact fun ε σ x ε' σ' d hp hok e s he hs F g w a hR hE hD=>plain _ ε σ _ hp rfl ⟨x,ε',σ',d,hok⟩ e s he hs F g w a hR hE hD
theorem callX_of (hX:X.ok C) {rec:FuncId→Nat→Code→Tr A→XS→CO}
  (hrec:∀ (fi:FuncId) (n:Nat) (c:Code) (ε:Tr A) (σ:XS),ordOk X.T.tt X.ord fi c=true→∀ (e:Env) (s:St) (Q:XK→Env→St→Prop),SimE e ε→Sim s σ→(rec fi n c ε σ).to Q→Ex C n c Q e s) :
  FOk C (callX X rec):=by
 intro fn az σ s KV Kp hs h;unfold callX at h;split at h
 ·rename_i hh hext;exact hX.ext _ _ hext _ _ _ _ _ hs h
 ·split at h
  ·exact h.elim
  ·rename_i fx hfx;obtain ⟨fd,h1,h2,h3,h4,h5,h6⟩:=hX.fns _ _ hfx;split at h
   ·rename_i hl;have hl':=gC6 hl
    have he0:SimE (envOf 0 az) (envX 0 az .lf):=by
     have:=envX_ok az 0 .lf [] (fun t=>rfl);simpa using this
    split at h
    ·refine Den.of_body h1 h2 h5 (by rw[h3];exact hl') ?_;refine hrec fn fd.ntmps fx.code _ σ h6 _ s _ he0 hs ?_;rw[h3];cases hr:rec fn fx.n fx.code (envX 0 az .lf) σ with
     | bad=>rw[hr] at h;exact h.elim
     | ok x ε' σ' =>
      rw[hr] at h;simp only at h;exact fun e s he hs=>finX_ok hX.T h4 h he hs
    ·
     cases hr:codeD X (rec fn fx.n) fx.code (envX 0 az .lf) σ with
     | bad=>rw[hr] at h;exact h.elim
     | ok x ε' σ' d =>
     rw[hr] at h;refine Den.of_bodyD h1 h2 h5 (by rw[h3];exact hl') fun F g w a hR hE hD=>?_
     have:=codeD_ok (X:=X) (n:=fx.n) (rec:=rec fn fx.n) hX.T (fun c=>ordOk X.T.tt X.ord fn c=true) (fun c d hcd=>by simpa only[ordOk,gD5] using hcd)
      (fun c ε σ hc e s Q he hs hq=>hrec fn fx.n c ε σ hc e s Q he hs hq) fx.code _ σ x ε' σ' d h6 hr _ s he0 hs F g w a hR (by rw[← h3];exact hE) hD
     refine Code.wp_mono (fun ex a' w' hq=>?_) this;rw[hr] at hq;obtain ⟨g',e',s',x2,ε2,σ2,d2,q0,q1,q2,q3,q4,q5,q6,q7⟩:=hq;cases q0
     have ret:∀ (KV:St→A→Prop) (g2:Gh) (s2:St) (w2:World) (x:XK),(x=.normal∨x=.ret)→retK C fd.results.toList KV Kp x e' s2→R C.toCtx F g2 s2 w2→g'.le g2 →
       ∃ v,(results fd a'.tmps).run C.P w2=.ok v w2∧∃ g3 a s,g.le g3∧R C.toCtx F g3 s w2∧Rz g3 a v∧KV s a:=by
      intro KV g2 s2 w2 x hx hk hR2 hle
      have hk':∃ l,resA C e' s2 fd.results.toList=some l∧KV s2 (outA l):=by
       rcases hx with rfl|rfl<;>simp only[retK] at hk<;>split at hk
       ·exact ⟨_,by assumption,hk⟩
       ·exact hk.elim
       ·exact ⟨_,by assumption,hk⟩
       ·exact hk.elim
      obtain ⟨l,hl,hk'⟩:=hk';obtain ⟨vs,r1,r2⟩:=resA_ok hR2 (q3.mono hle) _ _ hl;refine ⟨_,?_,g2,_,s2,q1.trans hle,hR2,outA_ok r2,hk'⟩;have e0:results fd a'.tmps=(do let vs ← fd.results.mapM (resF a'.tmps);pure (if h:vs.size=1 then vs[0] else .tuple vs)):=rfl;rw[e0,Sem.run_bind,Array.mapM_eq_mapM_toList,Sem.run_map,r1];rfl
     simp only[finD] at h;cases d with
     | none =>
      simp only at q7 h;have hfin:=finX_ok hX.T h4 h q5 q6;cases ex<;>cases x<;>try exact q4.elim
      ·obtain ⟨v,r1,g3,aa,ss,r2⟩:=ret KV g' s' w' .normal (.inl rfl) hfin q2 (Gh.le.refl g');simp only[bodyPostD,q7,Leaves];exact ⟨v,r1,g3,aa,ss,r2⟩
      ·exact hfin.elim
      ·exact hfin.elim
      ·obtain ⟨v,r1,g3,aa,ss,r2⟩:=ret KV g' s' w' .ret (.inr rfl) hfin q2 (Gh.le.refl g');simp only[bodyPostD,q7,Leaves];exact ⟨v,r1,g3,aa,ss,r2⟩
      ·obtain ⟨v,rfl,hrv⟩:=q4;simp only[bodyPostD,q7,Leaves];exact ⟨g',_,v,s',rfl,q1,q2,hrv,hfin⟩
     | some b =>
      obtain ⟨k,hbk,hdf⟩:=q7;have hinv:(invoke (dfrd X.hd k).target (dfrd X.hd k).args).run C.P w'=.ok (.enter X.hd #[.pointer (some ⟨k,0,none⟩)]) w':=hX.ent k w'
      have quiet:∀ (x:XK),(x=.normal∨x=.ret)→(finX X fx.rs x ε' σ').to KV Kp→Leaves C.P fd a'.tmps (DPost C F g KV Kp) [dfrd X.hd k] .returning w':=by
       intro x hx hq;refine ⟨by simp,_,_,_,_,rfl,hinv,?_⟩;refine fun c cs hc=>?_
       obtain ⟨e,u',w2,fr,⟨⟨v0,rfl⟩,rfl,g2,hle,hR2⟩,hcm⟩:=hX.ctc.quiet F g' s' w' (.pointer (some ⟨k,0,none⟩)) q2 c cs hc;obtain ⟨v,r1,r2⟩:=ret KV g2 s' w2 x hx (finX_ok hX.T h4 hq q5 q6) hR2 hle;exact ⟨.returned v0,.returning,w2,fr,(show Leaves C.P fd a'.tmps (DPost C F g KV Kp) [] .returning w2 from ⟨v,r1,r2⟩),hcm⟩
      cases ex<;>cases x<;>try exact q4.elim
      ·simp only at h;simp only[bodyPostD,hdf];exact quiet .normal (.inl rfl) h
      ·simp only[finX] at h;exact h.elim
      ·simp only[finX] at h;exact h.elim
      ·simp only at h;simp only[bodyPostD,hdf];exact quiet .ret (.inr rfl) h
      ·simp only at h;obtain ⟨v,rfl,hrv⟩:=q4;split at h
       ·rename_i t av;split at h
        ·rename_i fs;split at h
         ·rename_i e0 cs hb;split at h
          ·rename_i hc;simp only[gD5] at hc
           have hti:∃ ti,C.tt X.ft=some ti∧ti.sz=fs.length:=by
            have hc2:=hc.2;split at hc2
            ·rename_i ti hti;exact ⟨ti,hX.T.tt _ _ hti,gC7 hc2⟩
            ·cases hc2
           obtain rfl:=gC7 hc.1.1.1;obtain rfl:=gC7 hc.1.1.2;obtain ⟨u,rfl,hru⟩:=hrv.iface_inv;simp only[bodyPostD,hdf];refine ⟨by simp,_,_,_,_,rfl,hinv,?_⟩;refine fun c cs0 hc0=>?_
           obtain ⟨e,u',w2,fr,⟨⟨v0,rfl⟩,hset,g2,hle,hR2⟩,hcm⟩:=hX.ctc.loud F g' s' w' b k cs fs u q2 hbk (by rw[q6.ob];exact hb) hru (gC7 hc.1.2) hti c cs0 hc0;obtain ⟨v,r1,r2⟩:=ret KV g2 _ w2 .ret (.inr rfl) (finX_ok hX.T h4 h q5 ((q6.newO _).setO b _)) hR2 hle;exact ⟨.returned v0,u',w2,fr,(show Leaves C.P fd a'.tmps (DPost C F g KV Kp) [] (settle u') w2 from by rw[hset];exact ⟨v,r1,r2⟩),hcm⟩
          ·exact h.elim
         ·exact h.elim
        ·exact h.elim
       ·exact h.elim
   ·exact h.elim
theorem codeX_all (hX:X.ok C):∀ (N f:Nat),f≤N→∀ (fi:FuncId) (n:Nat) (c:Code) (ε:Tr A) (σ:XS),ordOk X.T.tt X.ord fi c=true→∀ (e:Env) (s:St) (Q:XK→Env→St→Prop),SimE e ε→Sim s σ →
    (codeX X f fi n c ε σ).to Q→Ex C n c Q e s:=by
  intro N
  induction N with
  | zero => intro f hf fi n c ε σ _ e s Q _ _ h; obtain rfl : f = 0 := by omega
            exact h.elim
  | succ N ihN =>
    intro f hf;cases f with
    | zero=>intro fi n c ε σ _ e s Q _ _ h;exact h.elim
    | succ f =>
    have ih:=ihN f (by omega);have hF:FOk C (callX X (codeX X f)):=callX_of hX ih;intro fi n c ε σ ho e s Q he hs h;cases c<;>simp only[codeX] at h
    case skip=>exact Ex.skip (h e s he hs)
    case label l=>exact Ex.label (h e s he hs)
    case exit i=>exact Ex.exit (h e s he hs)
    case goto i=>exact Ex.goto (h e s he hs)
    case ret=>exact Ex.ret (h e s he hs)
    case seq c d =>
      simp only[ordOk,gD5] at ho;exact Ex.seq (ih fi n c ε σ ho.1 e s _ he hs (thenX_ok h fun e s ε σ he hs hk=>ih fi n d ε σ ho.2 e s Q he hs hk))
    case block i c=>exact Ex.block (ih fi n c ε σ ho e s _ he hs (blkX_ok h))
    case cond c x y =>
      simp only[ordOk,gD5] at ho;unfold condX at h;split at h
      · rename_i b hb
        rw[← opdX_eq hX.T he] at hb;refine Ex.cond hb ?_;cases b<;>simp only at h
        · exact ih fi n y ε σ ho.2 e s Q he hs h
        · exact ih fi n x ε σ ho.1 e s Q he hs h
      · exact h.elim
    case loop c =>
      refine Ex.loopN (fun m e s=>m≤f+1∧∃ ε σ,SimE e ε∧Sim s σ∧(codeX X m fi n (.loop c) ε σ).to Q) (f+1) ⟨Nat.le_refl _,ε,σ,he,hs,by simp only[codeX];exact h⟩ ?_;rintro m e s ⟨hm,ε,σ,he,hs,hk⟩;cases m with
      | zero=>exact hk.elim
      | succ m =>
        simp only[codeX] at hk;refine ihN m (by omega) fi n c ε σ ho e s _ he hs ?_;refine thenX_ok hk fun e s ε σ he hs hk'=>⟨m,Nat.lt_succ_self m,by omega,ε,σ,he,hs,hk'⟩
    case region id ops draw =>
      cases draw<;>simp only at h
      · exact Ex.region (fun e s hk=>⟨e,Env.ge.refl e,hk⟩) (fun _ _ h=>h) (opsX_ok hX.T hX.det hF ops.toList e s ε σ he hs (endX_ok he h))
      · unfold drawX at h
        simp only[ordOk] at ho;split at h
        · rename_i t E hE
          rw[hE] at ho;simp only[gD5] at ho;refine draw_ok' t E hX.mix ?_ (ordX_ok hX.T hX.det hF t [] e s ε σ he hs (endX_ok he h));simp only[gD5];exact ⟨ho.1,lateOk_mono hX.T.tt ho.2⟩
        · exact h.elim
    all_goals exact h.elim
theorem codeX_ok (hX:X.ok C) (f:Nat):∀ (fi:FuncId) (n:Nat) (c:Code) (ε:Tr A) (σ:XS),ordOk X.T.tt X.ord fi c=true→∀ (e:Env) (s:St) (Q:XK→Env→St→Prop),SimE e ε→Sim s σ →
  (codeX X f fi n c ε σ).to Q→Ex C n c Q e s:=codeX_all hX f f (Nat.le_refl f)
end
end Go.AV
end
