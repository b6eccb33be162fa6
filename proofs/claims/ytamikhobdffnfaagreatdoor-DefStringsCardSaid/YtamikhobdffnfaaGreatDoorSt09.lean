/-
  Of DefStrings.
-/
import Derived.Test.YtamikhobdffnfaaGreatDoorSt08
import Derived.Recover
import Derived.Test.YtamikhobdffnfaaGreatDoorProg
import Derived.KernelRfl
import Derived.Lib.Builder
set_option linter.all false
set_option maxRecDepth 99999
set_option maxHeartbeats 0
namespace Go.AV
open Go Go.Proofs Tryz
section
section
variable {T:XT} {C:Cx} {s:St} {σ:XS} {KV Kp:St→A→Prop} {F:FuncId→List A→XS→CR} {n:Nat} {e:Env} {ε:Tr A} {K:Env→St→Prop} {E:List (Nat × List Nat)}
def wW (C:Cx) (W:WX):List (Nat × (St→Prop)):=W.map fun x=>(x.1,zW C x.2.1 x.2.2.1 x.2.2.2.1 x.2.2.2.2)
theorem aEF (hT:T.ok C) (hs:Sim s σ) {t:TypeId} {b o:Nat} {v:A} (h:wP T t b o σ=some v):nR C t b o s=some v:=by
 unfold wP at h;split at h
 ·rename_i cs hb;simp only[nR,hs.ob b,hb];exact tP hT h
 ·cases h
theorem aGZ (hT:T.ok C) (hs:Sim s σ) {ms:List Nat}:∀ {W:WX},sS T ms σ W=true→qC ms s (wW C W)
 | [],_=>trivial
 | (m,t,b,o,v)::W,h=>by
  simp only[sS,aZ] at h;refine ⟨?_,aGZ hT hs h.2⟩;split
  ·rename_i hm;have h1:=h.1;rw[hm] at h1;simp only at h1;split at h1
   ·rename_i u hu;have:=qM 60 _ _ h1;subst this;exact aEF hT hs hu
   ·cases h1
  ·trivial
def SR.to (C:Cx) (next:List (Nat × (St→Prop))→Env→St→Prop) (Kp:St→A→Prop):SR→Prop
 | .ok W ε σ=>∀ e s,SimE e ε→Sim s σ→next (wW C W) e s
 | .pan a σ=>∀ s,Sim s σ→Kp s a
 | .bad=>False
theorem rZ {next:List (Nat × (St→Prop))→Env→St→Prop} {W:WX} {dst:Option Tmp} {a:A} (he:SimE e ε) (hs:Sim s σ) (h:(oU n dst W ε σ a).to C next Kp) :
  bJ n dst (next (wW C W)) e s a:=by
 unfold oU at h;cases hp:nD n dst ε a with
 | none=>rw[hp] at h;exact h.elim
 | some ε'=>rw[hp] at h;exact zG he hp fun e' he'=>h e' s he' hs
theorem aK6 (hT:T.ok C) {next:List (Nat × (St→Prop))→Env→St→Prop} {W:WX} {i:Nat} {dst:Option Tmp} {op:Op} (he:SimE e ε) (hs:Sim s σ)
  (h:(aAl T n i dst op W ε σ).to C next Kp):oC C op (cT C e) s (pY n dst i next (wW C W) e s):=by
 rw[tY hT he]
 have plain:∀ {op:Op},(aG9 n dst W ε σ (eF T op (jX T ε))).to C next Kp→aQ C op (jX T ε) (oV (pY n dst i next (wW C W) e s)):=by
  intro op h;cases hv:eF T op (jX T ε) with
  | none=>rw[hv] at h;exact h.elim
  | some v=>rw[hv] at h;exact aCr hT hv (rZ he hs h)
 cases op
 case load t x =>
  simp only[aAl] at h;simp only[oC];split at h
  ·rename_i b o hx;rw[hx];simp only[sQ];cases hv:wP T t b o σ with
   | none=>rw[hv] at h;exact h.elim
   | some v =>
    rw[hv] at h;rw[aEF hT hs hv];exact rZ (W:=(i,t,b,o,v)::W) he hs h
  ·rename_i cs o hx;rw[hx];cases hv:nT T t cs o with
   | none=>rw[hv] at h;exact h.elim
   | some v =>
    rw[hv] at h;simp only[sQ,aQ,hx,tP hT hv];exact rZ he hs h
  ·exact h.elim
 all_goals (simp only[aAl] at h;exact plain h)
theorem aMq (hT:T.ok C) (hd:C.det=true) (hF:pV C F) {next:List (Nat × (St→Prop))→Env→St→Prop} {W:WX} {ms:List Nat} {dst:Option Tmp} {op:Op} (he:SimE e ε) (hs:Sim s σ)
  (h:(aDu T F n ms dst op W ε σ).to C next Kp):aJ C op (cT C e) (xG n dst ms next (wW C W) e) Kp s:=by
 rw[tY hT he];refine aGI hT hd hs ?_
 have val:∀ {a:A} {σ':XS},(match sS T ms σ' W with|true=>oU n dst W ε σ' a|false=>.bad).to C next Kp→∀ s',Sim s' σ'→xG n dst ms next (wW C W) e s' a:=by
  intro a σ' h s' hs';cases hc:sS T ms σ' W with
  | false=>rw[hc] at h;exact h.elim
  | true=>rw[hc] at h;exact ⟨aGZ hT hs' hc,rZ he hs' h⟩
 unfold aDu at h;cases hv:kR T op (jX T ε) σ with
 | val a σ'=>rw[hv] at h;exact val h
 | pan a σ'=>rw[hv] at h;exact h
 | call f az =>
  rw[hv] at h;simp only at h;refine hF f az σ s _ _ hs ?_;cases hc:F f az σ with
  | val a σ'=>rw[hc] at h;exact val h
  | pan a σ'=>rw[hc] at h;exact h
  | bad=>rw[hc] at h;exact h.elim
 | bad=>rw[hv] at h;exact h.elim
theorem aB5 (hT:T.ok C) (hd:C.det=true) (hF:pV C F) {next:List (Nat × (St→Prop))→Env→St→Prop} {W:WX} {i:Nat} {dst:Option Tmp} {op:Op} (he:SimE e ε) (hs:Sim s σ)
  (h:(aAk T F n (kO E i) i dst op W ε σ).to C next Kp):jQ C n E i dst op next (wW C W) Kp e s (fI op):=by
 unfold aAk at h;cases hi:fI op<;>rw[hi] at h
 ·exact aK6 hT he hs h
 ·exact aMq hT hd hF he hs h
theorem aCD (hT:T.ok C) (hd:C.det=true) (hF:pV C F) {ds:List (Option Tmp)} {next:List (Nat × (St→Prop))→Env→St→Prop} {W:WX} {i:Nat} {o:Oper} (he:SimE e ε) (hs:Sim s σ)
  (h:(rB T F n ds (kO E i) i o W ε σ).to C next Kp):iC C n ds E i next (wW C W) Kp e s (some o):=by
 obtain ⟨dst,op,ty,pos,after,gd⟩:=o;cases gd with
 | none=>exact aB5 hT hd hF he hs h
 | some jw =>
  obtain ⟨j,want⟩:=jw;simp only[rB] at h;simp only[iC];cases ht:gS ds j with
  | none=>rw[ht] at h;exact h.elim
  | some t =>
   rw[ht] at h;simp only at h;simp only[sR];rw[he t];cases hg:ε.get t with
   | none=>rw[hg] at h;exact h.elim
   | some a =>
    rw[hg] at h;cases a<;>simp only at h<;>simp only[oD]
    case bool b =>
     have he':=he.same hg;cases b<;>cases want<;>simp only[beq_self_eq_true,beq_iff_eq,Bool.false_beq,Bool.true_beq,dW,eX] at h ⊢
     ·exact aB5 hT hd hF he' hs h
     ·exact rZ he' hs h
     ·exact rZ he' hs h
     ·exact aB5 hT hd hF he' hs h
    case tuple l=>exact rZ he hs h
    all_goals exact h.elim
theorem aKR {r r':OR} (h:(aC3 r r').to K Kp):r.to K Kp∧r'.to K Kp:=by
 have st:∀ {σ σ':XS},mH xE σ.bx σ'.bx=true→mH (fun (a b:Nat × TypeId)=>decide (a=b)) σ.tk σ'.tk=true→Nat.beq σ.lim σ'.lim=true→uW (fun (a b:Nat × Nat × A)=>Nat.beq a.1 b.1&&Nat.beq a.2.1 b.2.1&&sT a.2.2 b.2.2) σ.ls σ'.ls=true→σ=σ':=by
  intro σ σ' h1 h2 h3 h4;obtain ⟨a,b,c,d⟩:=σ;obtain ⟨a',b',c',d'⟩:=σ';have e1:=wJ aLQ _ _ h1;have e2:=wJ (fun a b h=>qE h) _ _ h2;have e3:=bH h3
  have e4:=aFU (fun (a b:Nat × Nat × A) h=>by
   simp only[aZ] at h;obtain ⟨a1,a2,a3⟩:=a;obtain ⟨b1,b2,b3⟩:=b;have h1:=bH h.1.1;have h2:=bH h.1.2;have h3:=qM 60 _ _ h.2;simp only at h1 h2 h3;rw[h1,h2,h3]) _ _ h4
  simp only at e1 e2 e3 e4;rw[e1,e2,e3,e4]
 unfold aC3 at h;split at h
 ·split at h
  ·rename_i hc;simp only[aZ] at hc;have e1:=wJ (qM 60) _ _ hc.1.1.1.1;have e2:=st hc.1.1.1.2 hc.1.1.2 hc.1.2 hc.2;subst e1 e2;exact ⟨h,h⟩
  ·exact h.elim
 ·split at h
  ·rename_i hc;simp only[aZ] at hc;have e1:=qM 60 _ _ hc.1.1.1.1;have e2:=st hc.1.1.1.2 hc.1.1.2 hc.1.2 hc.2;subst e1 e2;exact ⟨h,h⟩
  ·exact h.elim
 ·exact h.elim
theorem aLu (hT:T.ok C) (he:SimE e ε) {a b:Oper} (h:aAb T ε a b=true):sG C e (some a) (some b):=by
 obtain ⟨d,op,ty,pos,after,gd⟩:=a;obtain ⟨d',op',ty',pos',after',gd'⟩:=b;unfold aAb at h;simp only at h;split at h;rotate_left
 ·cases h
 split at h;rotate_left
 ·cases h
 rename_i e1 e2 e3;simp only[aZ] at h;simp only[sG,tY hT he,e1,e2,e3,aAi];exact ⟨bH h.1.1,bH h.1.2,bH h.2⟩
theorem zI (hT:T.ok C) (hd:C.det=true) (hF:pV C F) {ds:List (Option Tmp)} {ops:List Oper}:∀ (t:OT) (W:WX) (e:Env) (s:St) (ε:Tr A) (σ:XS),SimE e ε→Sim s σ →
  (sK T F n ds ops E t W ε σ).to K Kp→eG C n ds ops E K Kp t (wW C W) e s
 | .nil,W,e,s,ε,σ,he,hs,h=>h e s he hs
 | .node i r,W,e,s,ε,σ,he,hs,h=>by
  simp only[sK] at h;simp only[eG];cases ho:fX ops i with
  | none=>rw[ho] at h;exact h.elim
  | some o =>
   rw[ho] at h;simp only at h;refine aCD hT hd hF he hs ?_;cases hg:rB T F n ds (kO E i) i o W ε σ with
   | ok W' ε' σ'=>rw[hg] at h;exact fun e' s' he' hs'=>zI hT hd hF r W' e' s' ε' σ' he' hs' h
   | pan a σ'=>rw[hg] at h;exact h
   | bad=>rw[hg] at h;exact h.elim
 | .alt a b,W,e,s,ε,σ,he,hs,h=>by
  have h':=aKR h;exact ⟨zI hT hd hF a W e s ε σ he hs h'.1,zI hT hd hF b W e s ε σ he hs h'.2⟩
 | .pair i j,W,e,s,ε,σ,he,hs,h=>by
  simp only[sK] at h;simp only[eG];cases ho:fX ops i with
  | none=>rw[ho] at h;exact h.elim
  | some a =>
  cases ho':fX ops j with
  | none=>rw[ho,ho'] at h;exact h.elim
  | some b =>
  rw[ho,ho'] at h;simp only at h;cases hp:aAb T ε a b with
  | false=>rw[hp] at h;exact h.elim
  | true =>
  rw[hp] at h;simp only at h;refine ⟨aLu hT he hp,aCD hT hd hF he hs ?_⟩;cases hg:rB T F n ds (kO E i) i a W ε σ with
  | pan a σ'=>rw[hg] at h;exact h
  | bad=>rw[hg] at h;exact h.elim
  | ok W' ε' σ' =>
   rw[hg] at h;simp only at h;intro e' s' he' hs';refine aCD hT hd hF he' hs' ?_;cases hg2:rB T F n ds (kO E j) j b W' ε' σ' with
   | pan a σ'=>rw[hg2] at h;exact h
   | bad=>rw[hg2] at h;exact h.elim
   | ok W2 ε2 σ2=>rw[hg2] at h;exact fun e2 s2 he2 hs2=>h e2 s2 he2 hs2
end
theorem aKO {C:Cx} {n id:Nat} {ops:Array Oper} {Q:XK→Env→St→Prop} {e:Env} {s:St} (t:OT) (E:List (Nat × List Nat))
  (hm:C.P.follows .mixedOrders=true)
  (hck:(sP ops E&&kV ops ops.size (Array.replicate ops.size false) t&&pJ C.tt ops)=true)
  (h:eG C n (ops.toList.map (·.dst)) ops.toList E (fun e s=>Q .normal e s) (pP Q (ops.toList.map (·.dst)) e) t [] e s):Ex C n (.region id ops true) Q e s:=by
 simp only[aZ] at hck
 have hext:∀ (e e':Env) (s:St),(∀ t,e.get t=e'.get t)→(∃ e2 s2,e.ge e2∧Rle C s s2∧Q .normal e2 s2)→∃ e2 s2,e'.ge e2∧Rle C s s2∧Q .normal e2 s2 :=
  fun e e' s he ⟨e2,s2,h1,h2⟩=>⟨e2,s2,fun t a ha=>by rw[← he t];exact h1 t a ha,h2⟩
 have hrle:∀ (e:Env) (s s':St),Rle C s s'→(∃ e2 s2,e.ge e2∧Rle C s' s2∧Q .normal e2 s2)→∃ e2 s2,e.ge e2∧Rle C s s2∧Q .normal e2 s2 :=
  fun e s s' hr ⟨e2,s2,h1,h2,h3⟩=>⟨e2,s2,h1,fun F g w hR=>h2 F g w (hr F g w hR),h3⟩
 intro F g w a hR he;refine wp_region_any hm ?_
 have hdc:DC ops (Array.replicate ops.size false):=by
  intro j o ho hl;exfalso;by_cases hj:j<ops.size
  ·simp[hj] at hl
  ·simp[hj] at hl
 have hA:=aGz hck.1.1 hext hrle ops.size _ t [] e s hck.1.2 hdc (fun w hw=>by cases hw) (fun w hw=>by cases hw)
  (vW (fun e s hk=>⟨e,s,Env.ge.refl e,Rle.refl s,hk⟩) t [] e s h)
 refine aGJ (aB6 e) (Q:=Q) (fun e s hk=>hk) (fun s v hk=>hk) (aEZ hck.2) _ _ g e s a _ (aFW _) (dX g) ?_ he (aCT he) rfl hA;exact hR.heap rfl
theorem aI2 {tt tt':TypeId→Option TI} (ht:∀ t ti,tt t=some ti→tt' t=some ti) {ops:Array Oper} (h:pJ tt ops=true):pJ tt' ops=true:=by
 simp only[pJ,fD,pD] at h ⊢;intro i hi;have h1:=h i hi;cases ho:ops[i]? with
 | none=>rw[ho] at h1;exact h1
 | some o =>
  rw[ho] at h1;cases hl:late ops i with
  | false=>simp
  | true =>
   rw[hl] at h1;simp only[dW,gZ] at h1 ⊢;split at h1
   ·rename_i t e;obtain ⟨ti,hti⟩:=Option.isSome_iff_exists.1 h1;simp only[e,ht _ _ hti];rfl
   ·rfl
def iO (tt:TypeId→Option TI) (ord:Nat→Nat→Option (OT × List (Nat × List Nat))) (fi:FuncId):Code→Bool
 | .seq c d=>iO tt ord fi c&&iO tt ord fi d
 | .block _ c=>iO tt ord fi c
 | .cond _ c d=>iO tt ord fi c&&iO tt ord fi d
 | .loop c=>iO tt ord fi c
 | .region id ops draw=>match draw with
  | false=>true
  | true=>match ord fi id with
   | some (t,E)=>sP ops E&&kV ops ops.size (Array.replicate ops.size false) t&&pJ tt ops
   | none=>true
 | _=>true
theorem aDS {C:Cx} {f:FuncId} {fn:Func} {c:Code} {args:List A} {KV Kp:St→A→Prop} {s:St} (hf:C.P.funcs[f]?=some fn) (hb:fn.body=some c)
  (hname : (fn.name == "runtime.NumGoroutine") = false) (hn : args.length ≤ fn.ntmps)
  (h:∀ F g w (a:Act),R C.toCtx F g s w→EnvOk g fn.ntmps (jE 0 args) a.tmps→a.defers=[]→c.wp C.P (bodyPostD C.P fn (pM C F g KV Kp)) a w):Den C f args KV Kp s:=by
 intro F g w vals hR hv
 have hcf:(callFunc f vals.toArray).run C.P w=.ok (.enter f vals.toArray) w:=by
  simp only[callFunc,aV,run_program,aW,hf,hname,bR,↓reduceIte,hb,Option.isNone_some,bC]
 rw[hcf];refine calls_of_wp_defers hf hb ?_
 have hE:EnvOk g fn.ntmps (jE 0 args) (vals.toArray++Array.replicate (fn.ntmps-vals.toArray.size) undef):=by
  have hl:vals.length=args.length:=hv.1;refine ⟨by simp;omega,fun t a ha=>?_⟩;obtain ⟨_,h2⟩:=aBM args 0 t a ha;obtain ⟨u,hu,hr⟩:=hv.get h2;rw[Nat.sub_zero] at hu;refine ⟨u,?_,hr⟩;have:t<vals.length:=(dH.1 hu).1;rw[Array.getElem?_append_left (by simpa using this)];simpa using hu
 exact h F g w ⟨_,[]⟩ hR hE rfl
structure Catch (C:Cx) (h:FuncId) (ft:TypeId):Prop where
 quiet:∀ F g s w (p:Value),R C.toCtx F g s w→CallsD C.P h #[p] .returning w fun e u' w'=>(∃ v,e=.returned v)∧u'=.returning∧∃ g',g.le g'∧R C.toCtx F g' s w'
 loud:∀ F g s w (b k:Nat) (cs fs:List A) (v:Value),R C.toCtx F g s w→g.beta b=some k→s.getO b=some (.cells ft cs)→Rz g (.agg fs) v→fs.length=cs.length→(∃ ti,C.tt ft=some ti∧ti.sz=fs.length) →
  CallsD C.P h #[.pointer (some ⟨k,0,none⟩)] (.panicking [{ v:=.iface ft v,recovered:=false }]) w fun e u' w'=>(∃ v,e=.returned v)∧settle u'=.returning ∧
   ∃ g',g.le g'∧R C.toCtx F g' ((s.newO (.cells ft fs)).setO b (.cells ft fs)) w'
structure XP.ok (X:XP) (C:Cx):Prop where
 T:X.T.ok C
 det:C.det=true
 mix:C.P.follows .mixedOrders=true
 fns:∀ f fx,X.fns f=some fx→∃ fn,C.P.funcs[f]?=some fn∧fn.body=some fx.code∧fn.ntmps=fx.n∧fn.results.toList=fx.rs ∧
  (fn.name == "runtime.NumGoroutine") = false ∧ iO X.T.tt X.ord f fx.code = true
 ctc:Catch C X.hd X.ft
 ent:∀ (k:Nat) (w:World),(invoke (.fn (.func X.hd) #[]) #[.pointer (some ⟨k,0,none⟩)]).run C.P w=.ok (.enter X.hd #[.pointer (some ⟨k,0,none⟩)]) w
 ext:∀ f h,X.ext f=some h→∀ az σ s KV Kp,Sim s σ→(h az σ).to KV Kp→Den C f az KV Kp s
section
variable {X:XP} {C:Cx}
theorem aCx (hT:X.T.ok C) {e:Env} {s:St} {ε:Tr A} {σ:XS} (he:SimE e ε) (hs:Sim s σ):∀ (rs:List ResultVar) (l:List A),pS X.T ε σ rs=some l→jY C e s rs=some l
 | [],l,h=>h
 | .tmp t::r,l,h=>by
  simp only[pS] at h;split at h
  ·rename_i a l' ha hl;simp only[jY,he t,ha,aCx hT he hs r l' hl];exact h
  ·cases h
 | .cell p t::r,l,h=>by
  simp only[pS] at h;split at h
  ·rename_i b o l' ha hl;split at h
   ·rename_i cs hb;split at h
    ·rename_i a hv;simp only[jY,he p,ha,aCx hT he hs r l' hl,hs.ob b,hb,tP hT hv];exact h
    ·cases h
   ·cases h
  ·cases h
theorem aF9:∀ (az:List A) (k:Nat) (ε:Tr A) (e:Env),SimE e ε→SimE (jE k az++e) (sL k az ε)
 | [],k,ε,e,he=>he
 | a::r,k,ε,e,he=>by
  have h1:SimE ((k,a)::e) (ε.set k a):=fun t=>by
   rw[Tr.get_set];simp only[Env.get];split
   ·rfl
   ·exact he t
  have:=aF9 r (k+1) _ _ h1;intro t;refine Eq.trans ?_ (this t)
  have key:∀ (l:List A) (k':Nat) (x y:Env),k<k'→(∀ t,x.get t=y.get t)→∀ t,Env.get ((k,a)::(jE k' l++x)) t=(jE k' l++(k,a)::y).get t:=by
   intro l
   induction l with
   | nil =>
    intro k' x y hk hxy t;simp only[jE,bO,Env.get];split
    ·rfl
    ·exact hxy t
   | cons b l ih =>
    intro k' x y hk hxy t;have:=ih (k'+1) x y (by omega) hxy t;simp only[jE,bP,Env.get] at this ⊢;by_cases h1:k=t
    ·subst h1;simp only[↓reduceIte] at this ⊢;rw[if_neg (by omega)];exact this
    ·simp only[h1,↓reduceIte] at this ⊢;by_cases h2:k'=t
     ·simp[h2]
     ·simp only[h2,↓reduceIte];exact this
  exact key r (k+1) e e (by omega) (fun _=>rfl) t
theorem aFB {r:CO} {k:Tr A→XS→CO} {Q:XK→Env→St→Prop} (h:(aAf r k).to Q) {R:Env→St→Prop} (hk:∀ e s ε σ,SimE e ε→Sim s σ→(k ε σ).to Q→R e s) :
  r.to (jO R Q):=by
 unfold aAf at h;cases r with
 | ok x ε σ =>
  cases x<;>simp only at h
  case normal=>exact fun e s he hs=>hk e s ε σ he hs h
  all_goals exact h
 | bad=>exact h
theorem aLL {i:Nat} {r:CO} {Q:XK→Env→St→Prop} (h:(aDq i r).to Q):r.to (nP i Q):=by
 unfold aDq at h;cases r with
 | ok x ε σ =>
  cases x<;>simp only at h
  case exit j =>
   intro e s he hs;simp only[nP];split at h
   ·rename_i hj;rw[if_pos (bH hj)];exact h e s he hs
   ·rename_i hj;rw[if_neg (by rintro rfl;rw[Nat.beq_refl] at hj;cases hj)];exact h e s he hs
  all_goals exact h
 | bad=>exact h
theorem aL0 {e:Env} {ε:Tr A} (he:SimE e ε) (ds:List (Option Tmp)):SimE (e.rem ds) (qX ds ε):=by
 intro t;rw[kZ,aBX,he t]
theorem aGa {e:Env} {ε:Tr A} (he:SimE e ε) {ds:List (Option Tmp)} {r:OR} {Q:XK→Env→St→Prop} (h:(aDm ds ε r).to Q):r.to (fun e s=>Q .normal e s) (pP Q ds e):=by
 cases r with
 | ok ε σ=>exact h
 | pan a σ=>exact fun s hs=>h (e.rem ds) s (aL0 he ds) hs
 | bad=>exact h
theorem zM (hT:X.T.ok C) {fn:Func} {rs:List ResultVar} (hrs:fn.results.toList=rs) {KV Kp:St→A→Prop} {x:XK} {ε:Tr A} {σ:XS} (h:(pR X rs x ε σ).to KV Kp) {e:Env} {s:St} (he:SimE e ε) (hs:Sim s σ) :
  iQ C fn.results.toList KV Kp x e s:=by
 have fin:(match pS X.T ε σ rs with|some l=>CR.val (nW l) σ|none=>.bad).to KV Kp→(match jY C e s fn.results.toList with|some l=>KV s (nW l)|none=>False):=by
  intro h;cases hl:pS X.T ε σ rs with
  | none=>rw[hl] at h;exact h.elim
  | some l=>rw[hl] at h;rw[hrs,aCx hT he hs _ _ hl];exact h s hs
 cases x<;>simp only[pR] at h
 ·exact fin h
 ·exact h.elim
 ·exact h.elim
 ·exact fin h
 ·exact h s hs
def lL (h k:Nat):Deferred:={ target:=.fn (.func h) #[],args:=#[.pointer (some ⟨k,0,none⟩)] }
def aDb (C:Cx) (F:Fr) (g0:Gh) (n:Nat) (h:FuncId) (r:DO) (ex:Exit) (a:Act) (w:World):Prop :=
 ∃ g' e s x ε σ d,r=.ok x ε σ d∧g0.le g'∧R C.toCtx F g' s w∧EnvOk g' n e a.tmps∧XRz g' x ex∧SimE e ε∧Sim s σ ∧
  (match d with
   | none=>a.defers=[]
   | some b=>∃ k,g'.beta b=some k∧a.defers=[lL h k])
theorem aEr {c:Code} {h:FuncId} {x:Operand} (hc:wM c=some (h,x)):∃ id ops ats ty pos after,c=.region id ops false∧ops.toList=[⟨none,.defer ⟨.value (.func h),#[x],ats⟩,ty,pos,after,none⟩]:=by
 unfold wM at hc;split at hc
 ·rename_i id ops draw;split at hc
  ·cases hc
  ·split at hc
   ·rename_i o ho;split at hc
    ·rename_i c hd hg hop;split at hc
     ·rename_i h' x' hcal hargs;cases hc;obtain ⟨dst,op,ty,pos,after,gd⟩:=o;obtain ⟨cal,args,ats⟩:=c;simp only at hd hg hop hcal hargs;subst hd hg hop hcal;refine ⟨id,ops,ats,ty,pos,after,rfl,?_⟩;rw[ho];have:args=#[x]:=by apply Array.ext';exact hargs
      rw[this]
     ·cases hc
    ·cases hc
   ·cases hc
 ·cases hc
theorem aLt {n:Nat} {rec:Code→Tr A→XS→CO} (hT:X.T.ok C) (P:Code→Prop) (hP:∀ c d,P (.seq c d)→P c∧P d)
  (hrec:∀ c ε σ,P c→∀ (e:Env) (s:St) (Q:XK→Env→St→Prop),SimE e ε→Sim s σ→(rec c ε σ).to Q→Ex C n c Q e s) :
  ∀ (c:Code) (ε:Tr A) (σ:XS) (x:XK) (ε':Tr A) (σ':XS) (d:Option Nat),P c→uP X rec c ε σ=.ok x ε' σ' d→∀ (e:Env) (s:St),SimE e ε→Sim s σ→∀ F g w a,R C.toCtx F g s w→EnvOk g n e a.tmps→a.defers=[] →
   c.wp C.P (aDb C F g n X.hd (uP X rec c ε σ)) a w:=by
 intro c
 have plain:∀ (c:Code) (ε:Tr A) (σ:XS) (r:DO),P c→r=(match rec c ε σ with|.ok x ε σ=>DO.ok x ε σ none|.bad=>.bad)→(∃ x ε' σ' d,r=.ok x ε' σ' d)→∀ (e:Env) (s:St),SimE e ε→Sim s σ→∀ F g w a,R C.toCtx F g s w→EnvOk g n e a.tmps→a.defers=[] →
   c.wp C.P (aDb C F g n X.hd r) a w:=by
  intro c ε σ r hp hr hok e s he hs F g w a hR hE hD;cases hrc:rec c ε σ with
  | bad=>rw[hrc] at hr;obtain ⟨x,ε',σ',d,h⟩:=hok;rw[hr] at h;cases h
  | ok x1 ε1 σ1 =>
   rw[hrc] at hr;subst hr;have:=hrec c ε σ hp e s (fun x e s=>x=x1∧SimE e ε1∧Sim s σ1) he hs (by rw[hrc];exact fun e s he hs=>⟨rfl,he,hs⟩) F g w a hR hE;refine iK (fun ex a' w' hq=>?_) this;obtain ⟨g',e',s',x,h1,h2,h3,h4,h5,rfl,h7,h8⟩:=hq;exact ⟨g',e',s',x,_,_,none,rfl,h1,h2,h3,h5,h7,h8,by rw[h4];exact hD⟩
 induction c with
 | seq c d ihc ihd =>
  intro ε σ x ε' σ' dd hp hok e s he hs F g w a hR hE hD;obtain ⟨hpc,hpd⟩:=hP c d hp;simp only[uP] at hok ⊢;cases hdf:wM c with
  | some hx =>
   obtain ⟨h,y⟩:=hx;rw[hdf] at hok;simp only at hok ⊢;split at hok
   ·rename_i b hh hy;cases hrc:rec d ε σ with
    | bad=>rw[hrc] at hok;cases hok
    | ok x1 ε1 σ1 =>
     simp only;obtain ⟨id,ops,ats,ty,pos,after,rfl,hops⟩:=aEr hdf;obtain rfl:h=X.hd:=bH hh;rw[← tY hT he] at hy;obtain ⟨k,hv,hbk⟩:=((hE.oper hR) y _ hy).ptr_inv;refine wp_seq ?_
     have hq:∀ (a':Act),a'.tmps=a.tmps→a'.defers=[lL X.hd k]→d.wp C.P (aDb C F g n X.hd (.ok x1 ε1 σ1 (some b))) a' w:=by
      intro a' ht hd';have:=hrec d ε σ hpd e s (fun x e s=>x=x1∧SimE e ε1∧Sim s σ1) he hs (by rw[hrc];exact fun e s he hs=>⟨rfl,he,hs⟩) F g w a' hR (by rw[ht];exact hE);refine iK (fun ex a2 w2 hq=>?_) this;obtain ⟨g',e',s',x,h1,h2,h3,h4,h5,rfl,h7,h8⟩:=hq;exact ⟨g',e',s',x,_,_,some b,rfl,h1,h2,h3,h5,h7,h8,k,h1.beta _ _ hbk,by rw[h4];exact hd'⟩
     refine wp_region_list ?_;rw[hops];unfold wpList;rw[if_pos (by simp[Region.wanted])];left
     have hex:(execOp a.eval ⟨none,.defer ⟨.value (.func X.hd),#[y],ats⟩,ty,pos,after,none⟩).run C.P w=.ok (.defer (lL X.hd k)) w:=by
      have e1:a.eval (.func X.hd)=.func (.func X.hd) #[] #[]:=rfl;simp only[execOp,resolve,e1,Deferred.ofValue,aV,bC,aW,iD,bU,bD,hv,lL];simp
     unfold Oper.wp;rw[hex,Oper.upon_defer];unfold wpList;exact hq _ rfl (by simp[Act.put,hD])
   ·cases hok
  | none =>
   rw[hdf] at hok;simp only at hok ⊢;cases hrc:rec c ε σ with
   | bad=>rw[hrc] at hok;cases hok
   | ok x1 ε1 σ1 =>
    rw[hrc] at hok;simp only at hok ⊢;refine wp_seq ?_;have:=hrec c ε σ hpc e s (fun x e s=>x=x1∧SimE e ε1∧Sim s σ1) he hs (by rw[hrc];exact fun e s he hs=>⟨rfl,he,hs⟩) F g w a hR hE;refine iK (fun ex a' w' hq=>?_) this;obtain ⟨g',e',s',y,h1,h2,h3,h4,h5,rfl,h7,h8⟩:=hq;cases ex<;>cases y<;>try exact h5.elim
    ·simp only at hok ⊢;refine iK (fun ex a2 w2 hq=>?_) (ihd ε1 σ1 x ε' σ' dd hpd hok e' s' h7 h8 F g' w' a' h2 h3 (by rw[h4];exact hD));obtain ⟨g2,e2,s2,x2,ε2,σ2,d2,q0,q1,q2⟩:=hq;exact ⟨g2,e2,s2,x2,ε2,σ2,d2,q0,h1.trans q1,q2⟩
    all_goals exact ⟨g',e',s',_,_,_,none,rfl,h1,h2,h3,h5,h7,h8,by rw[h4];exact hD⟩
 | _=>exact fun ε σ x ε' σ' d hp hok e s he hs F g w a hR hE hD=>plain _ ε σ _ hp rfl ⟨x,ε',σ',d,hok⟩ e s he hs F g w a hR hE hD
theorem aFk (hX:X.ok C) {rec:FuncId→Nat→Code→Tr A→XS→CO}
  (hrec:∀ (fi:FuncId) (n:Nat) (c:Code) (ε:Tr A) (σ:XS),iO X.T.tt X.ord fi c=true→∀ (e:Env) (s:St) (Q:XK→Env→St→Prop),SimE e ε→Sim s σ→(rec fi n c ε σ).to Q→Ex C n c Q e s) :
  pV C (qU X rec):=by
 intro fn az σ s KV Kp hs h;unfold qU at h;split at h
 ·rename_i hh hext;exact hX.ext _ _ hext _ _ _ _ _ hs h
 ·split at h
  ·exact h.elim
  ·rename_i fx hfx;obtain ⟨fd,h1,h2,h3,h4,h5,h6⟩:=hX.fns _ _ hfx;split at h
   ·rename_i hl;have hl':=iB hl
    have he0:SimE (jE 0 az) (sL 0 az .lf):=by
     have:=aF9 az 0 .lf [] (fun t=>rfl);simpa using this
    split at h
    ·refine aBw h1 h2 h5 (by rw[h3];exact hl') ?_;refine hrec fn fd.ntmps fx.code _ σ h6 _ s _ he0 hs ?_;rw[h3];cases hr:rec fn fx.n fx.code (sL 0 az .lf) σ with
     | bad=>rw[hr] at h;exact h.elim
     | ok x ε' σ' =>
      rw[hr] at h;simp only at h;exact fun e s he hs=>zM hX.T h4 h he hs
    ·
     cases hr:uP X (rec fn fx.n) fx.code (sL 0 az .lf) σ with
     | bad=>rw[hr] at h;exact h.elim
     | ok x ε' σ' d =>
     rw[hr] at h;refine aDS h1 h2 h5 (by rw[h3];exact hl') fun F g w a hR hE hD=>?_
     have:=aLt (X:=X) (n:=fx.n) (rec:=rec fn fx.n) hX.T (fun c=>iO X.T.tt X.ord fn c=true) (fun c d hcd=>by simpa only[iO,aZ] using hcd)
      (fun c ε σ hc e s Q he hs hq=>hrec fn fx.n c ε σ hc e s Q he hs hq) fx.code _ σ x ε' σ' d h6 hr _ s he0 hs F g w a hR (by rw[← h3];exact hE) hD
     refine iK (fun ex a' w' hq=>?_) this;rw[hr] at hq;obtain ⟨g',e',s',x2,ε2,σ2,d2,q0,q1,q2,q3,q4,q5,q6,q7⟩:=hq;cases q0
     have ret:∀ (KV:St→A→Prop) (g2:Gh) (s2:St) (w2:World) (x:XK),(x=.normal∨x=.ret)→iQ C fd.results.toList KV Kp x e' s2→R C.toCtx F g2 s2 w2→g'.le g2 →
       ∃ v,(results fd a'.tmps).run C.P w2=.ok v w2∧∃ g3 a s,g.le g3∧R C.toCtx F g3 s w2∧Rz g3 a v∧KV s a:=by
      intro KV g2 s2 w2 x hx hk hR2 hle
      have hk':∃ l,jY C e' s2 fd.results.toList=some l∧KV s2 (nW l):=by
       rcases hx with rfl|rfl<;>simp only[iQ] at hk<;>split at hk
       ·exact ⟨_,by assumption,hk⟩
       ·exact hk.elim
       ·exact ⟨_,by assumption,hk⟩
       ·exact hk.elim
      obtain ⟨l,hl,hk'⟩:=hk';obtain ⟨vs,r1,r2⟩:=wE hR2 (q3.mono hle) _ _ hl;refine ⟨_,?_,g2,_,s2,q1.trans hle,hR2,aCu r2,hk'⟩;have e0:results fd a'.tmps=(do let vs ← fd.results.mapM (pQ a'.tmps);pure (if h:vs.size=1 then vs[0] else .tuple vs)):=rfl;rw[e0,aV,Array.mapM_eq_mapM_toList,Sem.run_map,r1];rfl
     simp only[aHo] at h;cases d with
     | none =>
      simp only at q7 h;have hfin:=zM hX.T h4 h q5 q6;cases ex<;>cases x<;>try exact q4.elim
      ·obtain ⟨v,r1,g3,aa,ss,r2⟩:=ret KV g' s' w' .normal (.inl rfl) hfin q2 (dX g');simp only[bodyPostD,q7,Leaves];exact ⟨v,r1,g3,aa,ss,r2⟩
      ·exact hfin.elim
      ·exact hfin.elim
      ·obtain ⟨v,r1,g3,aa,ss,r2⟩:=ret KV g' s' w' .ret (.inr rfl) hfin q2 (dX g');simp only[bodyPostD,q7,Leaves];exact ⟨v,r1,g3,aa,ss,r2⟩
      ·obtain ⟨v,rfl,hrv⟩:=q4;simp only[bodyPostD,q7,Leaves];exact ⟨g',_,v,s',rfl,q1,q2,hrv,hfin⟩
     | some b =>
      obtain ⟨k,hbk,hdf⟩:=q7;have hinv:(invoke (lL X.hd k).target (lL X.hd k).args).run C.P w'=.ok (.enter X.hd #[.pointer (some ⟨k,0,none⟩)]) w':=hX.ent k w'
      have quiet:∀ (x:XK),(x=.normal∨x=.ret)→(pR X fx.rs x ε' σ').to KV Kp→Leaves C.P fd a'.tmps (pM C F g KV Kp) [lL X.hd k] .returning w':=by
       intro x hx hq;refine ⟨by simp,_,_,_,_,rfl,hinv,?_⟩;refine fun c cs hc=>?_
       obtain ⟨e,u',w2,fr,⟨⟨v0,rfl⟩,rfl,g2,hle,hR2⟩,hcm⟩:=hX.ctc.quiet F g' s' w' (.pointer (some ⟨k,0,none⟩)) q2 c cs hc;obtain ⟨v,r1,r2⟩:=ret KV g2 s' w2 x hx (zM hX.T h4 hq q5 q6) hR2 hle;exact ⟨.returned v0,.returning,w2,fr,(show Leaves C.P fd a'.tmps (pM C F g KV Kp) [] .returning w2 from ⟨v,r1,r2⟩),hcm⟩
      cases ex<;>cases x<;>try exact q4.elim
      ·simp only at h;simp only[bodyPostD,hdf];exact quiet .normal (.inl rfl) h
      ·simp only[pR] at h;exact h.elim
      ·simp only[pR] at h;exact h.elim
      ·simp only at h;simp only[bodyPostD,hdf];exact quiet .ret (.inr rfl) h
      ·simp only at h;obtain ⟨v,rfl,hrv⟩:=q4;split at h
       ·rename_i t av;split at h
        ·rename_i fs;split at h
         ·rename_i e0 cs hb;split at h
          ·rename_i hc;simp only[aZ] at hc
           have hti:∃ ti,C.tt X.ft=some ti∧ti.sz=fs.length:=by
            have hc2:=hc.2;split at hc2
            ·rename_i ti hti;exact ⟨ti,hX.T.tt _ _ hti,bH hc2⟩
            ·cases hc2
           obtain rfl:=bH hc.1.1.1;obtain rfl:=bH hc.1.1.2;obtain ⟨u,rfl,hru⟩:=hrv.iface_inv;simp only[bodyPostD,hdf];refine ⟨by simp,_,_,_,_,rfl,hinv,?_⟩;refine fun c cs0 hc0=>?_
           obtain ⟨e,u',w2,fr,⟨⟨v0,rfl⟩,hset,g2,hle,hR2⟩,hcm⟩:=hX.ctc.loud F g' s' w' b k cs fs u q2 hbk (by rw[q6.ob];exact hb) hru (bH hc.1.2) hti c cs0 hc0;obtain ⟨v,r1,r2⟩:=ret KV g2 _ w2 .ret (.inr rfl) (zM hX.T h4 h q5 ((q6.newO _).setO b _)) hR2 hle;exact ⟨.returned v0,u',w2,fr,(show Leaves C.P fd a'.tmps (pM C F g KV Kp) [] (settle u') w2 from by rw[hset];exact ⟨v,r1,r2⟩),hcm⟩
          ·exact h.elim
         ·exact h.elim
        ·exact h.elim
       ·exact h.elim
   ·exact h.elim
theorem aKl (hX:X.ok C):∀ (N f:Nat),f≤N→∀ (fi:FuncId) (n:Nat) (c:Code) (ε:Tr A) (σ:XS),iO X.T.tt X.ord fi c=true→∀ (e:Env) (s:St) (Q:XK→Env→St→Prop),SimE e ε→Sim s σ →
    (iP X f fi n c ε σ).to Q→Ex C n c Q e s:=by
  intro N
  induction N with
  | zero => intro f hf fi n c ε σ _ e s Q _ _ h; obtain rfl : f = 0 := by omega
            exact h.elim
  | succ N ihN =>
    intro f hf;cases f with
    | zero=>intro fi n c ε σ _ e s Q _ _ h;exact h.elim
    | succ f =>
    have ih:=ihN f (by omega);have hF:pV C (qU X (iP X f)):=aFk hX ih;intro fi n c ε σ ho e s Q he hs h;cases c<;>simp only[iP] at h
    case skip=>exact Ex.skip (h e s he hs)
    case label l=>exact Ex.label (h e s he hs)
    case exit i=>exact Ex.exit (h e s he hs)
    case goto i=>exact Ex.goto (h e s he hs)
    case ret=>exact Ex.ret (h e s he hs)
    case seq c d =>
      simp only[iO,aZ] at ho;exact Ex.seq (ih fi n c ε σ ho.1 e s _ he hs (aFB h fun e s ε σ he hs hk=>ih fi n d ε σ ho.2 e s Q he hs hk))
    case block i c=>exact Ex.block (ih fi n c ε σ ho e s _ he hs (aLL h))
    case cond c x y =>
      simp only[iO,aZ] at ho;unfold aHd at h;split at h
      · rename_i b hb
        rw[← tY hX.T he] at hb;refine Ex.cond hb ?_;cases b<;>simp only at h
        · exact ih fi n y ε σ ho.2 e s Q he hs h
        · exact ih fi n x ε σ ho.1 e s Q he hs h
      · exact h.elim
    case loop c =>
      refine aFF (fun m e s=>m≤f+1∧∃ ε σ,SimE e ε∧Sim s σ∧(iP X m fi n (.loop c) ε σ).to Q) (f+1) ⟨bG _,ε,σ,he,hs,by simp only[iP];exact h⟩ ?_;rintro m e s ⟨hm,ε,σ,he,hs,hk⟩;cases m with
      | zero=>exact hk.elim
      | succ m =>
        simp only[iP] at hk;refine ihN m (by omega) fi n c ε σ ho e s _ he hs ?_;refine aFB hk fun e s ε σ he hs hk'=>⟨m,fK m,by omega,ε,σ,he,hs,hk'⟩
    case region id ops draw =>
      cases draw<;>simp only at h
      · exact Ex.region (fun e s hk=>⟨e,Env.ge.refl e,hk⟩) (fun _ _ h=>h) (aGd hX.T hX.det hF ops.toList e s ε σ he hs (aGa he h))
      · unfold aHc at h
        simp only[iO] at ho;split at h
        · rename_i t E hE
          rw[hE] at ho;simp only[aZ] at ho;refine aKO t E hX.mix ?_ (zI hX.T hX.det hF t [] e s ε σ he hs (aGa he h));simp only[aZ];exact ⟨ho.1,aI2 hX.T.tt ho.2⟩
        · exact h.elim
    all_goals exact h.elim
theorem aK3 (hX:X.ok C) (f:Nat):∀ (fi:FuncId) (n:Nat) (c:Code) (ε:Tr A) (σ:XS),iO X.T.tt X.ord fi c=true→∀ (e:Env) (s:St) (Q:XK→Env→St→Prop),SimE e ε→Sim s σ →
  (iP X f fi n c ε σ).to Q→Ex C n c Q e s:=aKl hX f f (bG f)
end
end
@[go_sem] def y1:TI:=⟨.other,1,8,[.nilf]⟩
@[go_sem] def y2:TI:=⟨.int .i64,1,8,[.int .i64 0]⟩
@[go_sem] def y3:TI:=⟨.bool,1,1,[.bool false]⟩
@[go_sem] def y4:TI:=⟨.int .u8,1,1,[.int .u8 0]⟩
@[go_sem] def y5:TI:=⟨.struct [(0,1,false),(1,1,false),(2,1,false),(3,1,false)],4,24,[.int .i64 0,.int .i64 0,.bool false,.int .u8 0]⟩
@[go_sem] def y6:TI:=⟨.string,1,16,[.str []]⟩
@[go_sem] def y7:TI:=⟨.int .u64,1,8,[.int .u64 0]⟩
@[go_sem] def y8:TI:=⟨.struct [(0,1,false),(1,1,false)],2,24,[.str [],.int .u64 0]⟩
@[go_sem] def y9:TI:=⟨.other,1,8,[.nilp]⟩
@[go_sem] def y10:TI:=⟨.struct [(0,1,false)],1,8,[.nilp]⟩
@[go_sem] def vH:TI:=⟨.iface,1,16,[.nili]⟩
@[go_sem] def vB:TI:=⟨.int .i32,1,4,[.int .i32 0]⟩
@[go_sem] def y13:TI:=⟨.slice 9,1,24,[.nils]⟩
@[go_sem] def y14:TI:=⟨.slice 104,1,24,[.nils]⟩
@[go_sem] def y15:TI:=⟨.slice 73,1,24,[.nils]⟩
@[go_sem] def y16:TI:=⟨.struct [(0,1,false),(1,1,false),(2,1,false),(3,1,false),(4,1,false)],5,120,[.nils,.nils,.nils,.nils,.nils]⟩
@[go_sem] def y17:TI:=⟨.slice 80,1,24,[.nils]⟩
@[go_sem] def y18:TI:=⟨.slice 68,1,24,[.nils]⟩
@[go_sem] def y19:TI:=⟨.slice 84,1,24,[.nils]⟩
@[go_sem] def y20:TI:=⟨.struct [(0,1,false),(1,5,true),(6,1,false),(7,1,false),(8,1,false),(9,1,false),(10,1,false),(11,1,false),(12,1,false)],13,280,[.str [],.nils,.nils,.nils,.nils,.nils,.nils,.nils,.str [],.nils,.nils,.str [],.str []]⟩
@[go_sem] def y21:TI:=⟨.struct [(0,1,false),(1,1,false),(2,1,false),(3,1,false)],4,40,[.int .i64 0,.str [],.int .i64 0,.int .i64 0]⟩
@[go_sem] def y22:TI:=⟨.slice 43,1,24,[.nils]⟩
@[go_sem] def y23:TI:=⟨.struct [(0,1,false),(1,1,false),(2,1,false),(3,1,false),(4,1,false),(5,1,false)],6,96,[.int .i64 0,.int .i64 0,.str [],.str [],.nils,.nils]⟩
@[go_sem] def y24:TI:=⟨.slice 60,1,24,[.nils]⟩
@[go_sem] def y25:TI:=⟨.struct [(0,1,false),(1,1,false),(2,1,false),(3,1,false),(4,1,false)],5,48,[.int .i64 0,.str [],.int .i64 0,.int .i64 0,.int .i64 0]⟩
@[go_sem] def y26:TI:=⟨.struct [(0,1,false),(1,1,false),(2,6,true),(8,1,false),(9,1,false)],10,144,[.str [],.str [],.int .i64 0,.int .i64 0,.str [],.str [],.nils,.nils,.int .i64 0,.int .i64 0]⟩
@[go_sem] def y27:TI:=⟨.slice 143,1,24,[.nils]⟩
@[go_sem] def y28:TI:=⟨.slice 3,1,24,[.nils]⟩
@[go_sem] def y29:TI:=⟨.struct [(0,1,false),(1,1,false),(2,1,false),(3,1,false),(4,1,false),(5,1,false),(6,1,false)],7,120,[.str [],.nils,.str [],.nils,.int .i64 0,.int .i64 0,.nils]⟩
@[go_sem] def y30:TI:=⟨.struct [(0,6,true),(6,6,true),(12,1,false),(13,1,false),(14,1,false)],15,232,[.int .i64 0,.int .i64 0,.str [],.str [],.nils,.nils,.int .i64 0,.int .i64 0,.str [],.str [],.nils,.nils,.nils,.int .i64 0,.int .i64 0]⟩
@[go_sem] def y31:TI:=⟨.slice 86,1,24,[.nils]⟩
@[go_sem] def y32:TI:=⟨.slice 141,1,24,[.nils]⟩
@[go_sem] def y33:TI:=⟨.struct [(0,1,false),(1,1,false),(2,1,false),(3,1,false),(4,1,false),(5,1,false),(6,1,false)],7,128,[.str [],.nils,.nils,.nils,.nils,.int .i64 0,.int .i64 0]⟩
@[go_sem] def y34:TI:=⟨.struct [(0,1,false),(1,1,false),(2,6,true),(8,1,false),(9,1,false),(10,1,false)],11,168,[.str [],.str [],.int .i64 0,.int .i64 0,.str [],.str [],.nils,.nils,.nils,.int .i64 0,.int .i64 0]⟩
@[go_sem] def y35:TI:=⟨.struct [(0,1,false),(1,1,false),(2,4,true),(6,13,true),(19,5,true),(24,1,false),(25,1,false)],26,416,[.nils,.int .i64 0,.int .i64 0,.str [],.int .i64 0,.int .i64 0,.str [],.nils,.nils,.nils,.nils,.nils,.nils,.nils,.str [],.nils,.nils,.str [],.str [],.int .i64 0,.str [],.int .i64 0,.int .i64 0,.int .i64 0,.int .i64 0,.bool false]⟩
@[go_sem] def y36:TI:=⟨.struct [(0,1,false),(1,1,false),(2,1,false),(3,1,false),(4,4,true),(8,1,false),(9,1,false),(10,1,false),(11,13,true)],24,392,[.nils,.int .i64 0,.int .i64 0,.int .i64 0,.int .i64 0,.str [],.int .i64 0,.int .i64 0,.int .i64 0,.int .i64 0,.bool false,.str [],.nils,.nils,.nils,.nils,.nils,.nils,.nils,.str [],.nils,.nils,.str [],.str []]⟩
@[go_sem] def nG:TI:=⟨.struct [(0,1,false),(1,1,false)],2,32,[.str [],.str []]⟩
@[go_sem] def y38:TI:=⟨.struct [(0,1,false),(1,1,false),(2,1,false),(3,1,false),(4,1,false),(5,1,false),(6,4,true)],10,128,[.str [],.int .i64 0,.int .i64 0,.int .i64 0,.nils,.nils,.int .i64 0,.str [],.int .i64 0,.int .i64 0]⟩
@[go_sem] def y39:TI:=⟨.struct [(0,1,false)],1,24,[.nils]⟩
@[go_sem] def y40:TI:=⟨.slice 147,1,24,[.nils]⟩
@[go_sem] def y41:TI:=⟨.slice 156,1,24,[.nils]⟩
@[go_sem] def y42:TI:=⟨.struct [(0,1,false),(1,1,false)],2,48,[.nils,.nils]⟩
@[go_sem] def y43:TI:=⟨.slice 5,1,24,[.nils]⟩
@[go_sem] def y44:TI:=⟨.struct [(0,1,false),(1,1,false)],2,32,[.nilp,.nils]⟩
@[go_sem] def y45:TI:=⟨.struct [(0,1,false),(1,1,false)],2,24,[.str [],.bool false]⟩
@[go_sem] def y46:TI:=⟨.struct [(0,1,false),(1,1,false)],2,16,[.int .i64 0,.bool false]⟩
@[go_sem] def y47:TI:=⟨.struct [(0,2,true)],2,32,[.nilp,.nils]⟩
@[go_sem] def y48:TI:=⟨.slice 4,1,24,[.nils]⟩
@[go_sem] def y49:TI:=⟨.struct [(0,1,false),(1,1,false),(2,1,false),(3,1,false),(4,1,false),(5,1,false)],6,72,[.str [],.int .i64 0,.int .i64 0,.int .i64 0,.nils,.bool false]⟩
@[go_sem] def y50:TI:=⟨.slice 41,1,24,[.nils]⟩
@[go_sem] def y51:TI:=⟨.array 256 5,256,256,List.replicate 256 (.int .u8 0)⟩
@[go_sem] def y52:TI:=⟨.slice 30,1,24,[.nils]⟩
@[go_sem] def y53:TI:=⟨.slice 276,1,24,[.nils]⟩
@[go_sem] def y54:TI:=⟨.struct [(0,1,false),(1,1,false)],2,16,[.int .i64 0,.int .i64 0]⟩
@[go_sem] def y55:TI:=⟨.int .u32,1,4,[.int .u32 0]⟩
@[go_sem] def y56:TI:=⟨.array 24 5,24,24,[.int .u8 0,.int .u8 0,.int .u8 0,.int .u8 0,.int .u8 0,.int .u8 0,.int .u8 0,.int .u8 0,.int .u8 0,.int .u8 0,.int .u8 0,.int .u8 0,.int .u8 0,.int .u8 0,.int .u8 0,.int .u8 0,.int .u8 0,.int .u8 0,.int .u8 0,.int .u8 0,.int .u8 0,.int .u8 0,.int .u8 0,.int .u8 0]⟩
@[go_sem] def y57:TI:=⟨.slice 295,1,24,[.nils]⟩
@[go_sem] def y58:TI:=⟨.slice 298,1,24,[.nils]⟩
@[go_sem] def y59:TI:=⟨.struct [(0,1,false),(1,1,false),(2,1,false)],3,56,[.nils,.nils,.int .i64 0]⟩
@[go_sem] def y60:TI:=⟨.int .u16,1,2,[.int .u16 0]⟩
@[go_sem] def y61:TI:=⟨.struct [(0,1,false),(1,1,false),(2,1,false)],3,6,[.int .u16 0,.int .u16 0,.int .u16 0]⟩
@[go_sem] def y62:TI:=⟨.struct [(0,1,false),(1,1,false),(2,1,false)],3,12,[.int .u32 0,.int .u32 0,.int .u32 0]⟩
@[go_sem] def y63:TI:=⟨.array 20 284,20,160,[.int .u64 0,.int .u64 0,.int .u64 0,.int .u64 0,.int .u64 0,.int .u64 0,.int .u64 0,.int .u64 0,.int .u64 0,.int .u64 0,.int .u64 0,.int .u64 0,.int .u64 0,.int .u64 0,.int .u64 0,.int .u64 0,.int .u64 0,.int .u64 0,.int .u64 0,.int .u64 0]⟩
@[go_sem] def y64:TI:=⟨.array 32 5,32,32,[.int .u8 0,.int .u8 0,.int .u8 0,.int .u8 0,.int .u8 0,.int .u8 0,.int .u8 0,.int .u8 0,.int .u8 0,.int .u8 0,.int .u8 0,.int .u8 0,.int .u8 0,.int .u8 0,.int .u8 0,.int .u8 0,.int .u8 0,.int .u8 0,.int .u8 0,.int .u8 0,.int .u8 0,.int .u8 0,.int .u8 0,.int .u8 0,.int .u8 0,.int .u8 0,.int .u8 0,.int .u8 0,.int .u8 0,.int .u8 0,.int .u8 0,.int .u8 0]⟩
@[go_sem] def y65:TI:=⟨.struct [(0,1,false),(1,1,false),(2,1,false)],3,48,[.str [],.str [],.nili]⟩
@[go_sem] def y66:TI:=⟨.struct [(0,1,false),(1,1,false)],2,2,[.int .u8 0,.int .u8 0]⟩
@[go_sem] def y67:TI:=⟨.array 16 335,32,32,[.int .u8 0,.int .u8 0,.int .u8 0,.int .u8 0,.int .u8 0,.int .u8 0,.int .u8 0,.int .u8 0,.int .u8 0,.int .u8 0,.int .u8 0,.int .u8 0,.int .u8 0,.int .u8 0,.int .u8 0,.int .u8 0,.int .u8 0,.int .u8 0,.int .u8 0,.int .u8 0,.int .u8 0,.int .u8 0,.int .u8 0,.int .u8 0,.int .u8 0,.int .u8 0,.int .u8 0,.int .u8 0,.int .u8 0,.int .u8 0,.int .u8 0,.int .u8 0]⟩
@[go_sem] def y68:TI:=⟨.struct [(0,1,false)],1,16,[.str []]⟩
@[go_sem] def y69:TI:=⟨.struct [(0,1,false),(1,1,false),(2,1,false),(3,1,false)],4,40,[.nilp,.nilp,.nilp,.str []]⟩
@[go_sem] def y70:TI:=⟨.array 0 16,0,0,[]⟩
@[go_sem] def y71:TI:=⟨.struct [(0,1,false),(1,1,false),(2,1,false),(3,1,false),(4,1,false),(5,1,false),(6,1,false),(7,1,false),(8,1,false),(9,1,false),(10,1,false)],11,48,[.int .u64 0,.int .u64 0,.int .u32 0,.int .u8 0,.int .u8 0,.int .u8 0,.int .u8 0,.nilf,.nilp,.int .i32 0,.int .i32 0]⟩
def ttT:Tr TI:=(.nd (.nd (.nd (.nd (.nd (.nd (.nd (.nd (.nd .lf (some y51) .lf) (some y1) .lf) (some y1) (.nd (.nd .lf (some y1) .lf) (some y9) .lf)) (some y19) (.nd .lf (some y36) (.nd (.nd .lf (some y71) .lf) (some y1) .lf))) (some y9) (.nd (.nd (.nd (.nd .lf (some y1) .lf) (some nG) .lf) (some y30) (.nd (.nd .lf (some y66) .lf) (some y1) .lf)) (some y1) (.nd (.nd (.nd .lf (some y63) .lf) (some y1) .lf) none (.nd .lf (some y1) .lf)))) (some y5) (.nd (.nd (.nd (.nd .lf (some y1) .lf) (some y28) (.nd .lf (some y1) .lf)) (some y1) (.nd (.nd (.nd .lf (some y61) .lf) (some y1) .lf) (some nG) (.nd .lf (some y1) .lf))) (some y1) (.nd (.nd (.nd (.nd .lf (some y9) .lf) (some y9) .lf) (some y1) (.nd (.nd .lf (some y70) .lf) (some y1) .lf)) (some y24) (.nd (.nd .lf (some y46) .lf) (some y1) (.nd .lf (some y1) .lf))))) (some y2) (.nd (.nd (.nd (.nd (.nd (.nd .lf (some y1) .lf) (some y1) .lf) (some y26) (.nd (.nd .lf (some y9) .lf) (some y1) .lf)) (some y21) (.nd (.nd (.nd .lf (some y59) .lf) none .lf) (some y1) (.nd .lf (some y1) .lf))) (some y10) (.nd (.nd (.nd (.nd .lf (some y54) .lf) (some y41) .lf) (some y33) (.nd (.nd .lf (some y68) .lf) (some y1) .lf)) none (.nd (.nd (.nd .lf (some y9) .lf) (some y1) .lf) (some y1) (.nd .lf (some y1) .lf)))) (some y6) (.nd (.nd (.nd (.nd (.nd .lf (some y1) .lf) (some y1) .lf) none (.nd (.nd .lf (some y65) .lf) (some y1) .lf)) (some y23) (.nd (.nd (.nd .lf (some y1) .lf) (some nG) .lf) (some y1) (.nd .lf (some y1) .lf))) (some y16) (.nd (.nd (.nd (.nd .lf (some y56) .lf) (some y45) .lf) (some y35) (.nd (.nd .lf (some y4) .lf) (some y1) .lf)) (some y25) (.nd (.nd (.nd .lf (some y1) .lf) (some y47) .lf) (some y1) (.nd .lf (some y1) .lf)))))) (some y1) (.nd (.nd (.nd (.nd (.nd (.nd (.nd .lf (some y1) .lf) (some y1) .lf) (some y1) (.nd .lf (some y1) .lf)) (some y20) (.nd (.nd (.nd .lf (some y57) .lf) (some y1) .lf) (some y1) (.nd .lf (some y49) .lf))) (some y9) (.nd (.nd (.nd (.nd .lf (some y1) .lf) (some y1) .lf) (some y31) (.nd (.nd .lf (some y1) .lf) (some y1) .lf)) none (.nd (.nd (.nd .lf (some y1) .lf) (some y1) .lf) (some y1) (.nd .lf (some y1) .lf)))) (some y6) (.nd (.nd (.nd (.nd (.nd .lf (some y1) .lf) (some y38) .lf) (some y29) (.nd .lf (some y1) .lf)) (some y22) (.nd (.nd (.nd .lf (some y62) .lf) (some y1) .lf) (some y1) (.nd .lf (some y9) .lf))) (some y14) (.nd (.nd (.nd (.nd .lf (some y1) .lf) (some y44) .lf) (some y1) (.nd .lf (some y1) .lf)) (some y1) (.nd (.nd (.nd .lf (some y1) .lf) (some y1) .lf) (some y1) (.nd .lf (some y1) .lf))))) (some y4) (.nd (.nd (.nd (.nd (.nd (.nd .lf (some y1) .lf) (some y1) .lf) (some y27) (.nd (.nd .lf (some y1) .lf) (some y1) .lf)) none (.nd (.nd (.nd .lf (some y60) .lf) (some y1) .lf) (some y1) (.nd .lf (some y1) .lf))) (some vB) (.nd (.nd (.nd (.nd .lf (some y55) .lf) (some y42) .lf) (some y34) (.nd (.nd .lf (some y69) .lf) (some y1) .lf)) (some y1) (.nd (.nd .lf (some y1) .lf) (some y1) (.nd .lf (some y1) .lf)))) (some y8) (.nd (.nd (.nd (.nd (.nd .lf (some y1) .lf) (some y39) .lf) (some y1) (.nd (.nd .lf (some y1) .lf) (some y1) .lf)) (some y1) (.nd (.nd (.nd .lf (some y1) .lf) (some y1) .lf) (some y1) (.nd .lf (some y1) .lf))) (some y17) (.nd (.nd (.nd (.nd .lf (some y1) .lf) (some vH) .lf) (some y9) (.nd (.nd .lf (some vB) .lf) (some y9) .lf)) (some y1) (.nd (.nd .lf (some y1) .lf) (some y1) (.nd .lf (some y9) .lf))))))) none (.nd (.nd (.nd (.nd (.nd (.nd (.nd (.nd .lf (some y1) .lf) (some y1) .lf) (some y1) (.nd (.nd .lf (some y2) .lf) (some y48) .lf)) (some y20) (.nd (.nd (.nd .lf (some y1) .lf) (some y1) .lf) none (.nd (.nd .lf (some y71) .lf) (some y9) .lf))) (some y9) (.nd (.nd (.nd (.nd .lf (some y1) .lf) (some y1) .lf) (some y30) (.nd (.nd .lf (some y67) .lf) (some y1) .lf)) (some y1) (.nd (.nd .lf (some y1) .lf) (some y1) (.nd .lf (some y1) .lf)))) (some y5) (.nd (.nd (.nd (.nd (.nd .lf (some y1) .lf) (some y9) .lf) (some y29) (.nd (.nd .lf (some y1) .lf) (some y1) .lf)) (some y2) (.nd (.nd (.nd .lf (some y1) .lf) (some y1) .lf) (some nG) (.nd .lf (some y1) .lf))) (some y13) (.nd (.nd (.nd (.nd .lf (some y1) .lf) (some y43) .lf) (some y9) (.nd .lf (some y1) .lf)) none (.nd (.nd (.nd .lf (some y1) .lf) (some y46) .lf) (some y1) (.nd .lf (some y50) .lf))))) (some y3) (.nd (.nd (.nd (.nd (.nd (.nd .lf (some y1) .lf) (some y1) .lf) (some y26) (.nd (.nd .lf (some y1) .lf) (some y1) .lf)) (some y21) (.nd (.nd (.nd .lf (some y59) .lf) (some y1) .lf) (some y1) (.nd .lf (some y1) .lf))) (some vH) (.nd (.nd (.nd (.nd .lf (some y54) .lf) (some y42) .lf) (some y33) (.nd (.nd .lf (some y68) .lf) (some y1) .lf)) (some y1) (.nd (.nd (.nd .lf (some y1) .lf) (some y1) .lf) (some y1) (.nd .lf (some y1) .lf)))) (some y7) (.nd (.nd (.nd (.nd (.nd .lf (some y52) .lf) (some y39) .lf) (some y1) (.nd (.nd .lf (some y65) .lf) (some y1) .lf)) none (.nd (.nd .lf (some y1) .lf) (some y1) (.nd .lf (some y1) .lf))) (some y16) (.nd (.nd (.nd (.nd .lf (some y7) .lf) (some y45) .lf) (some y1) (.nd (.nd .lf (some y1) .lf) (some y1) .lf)) (some y25) (.nd (.nd (.nd .lf (some y1) .lf) (some y1) .lf) (some y1) (.nd .lf (some y1) .lf)))))) (some y2) (.nd (.nd (.nd (.nd (.nd (.nd (.nd .lf (some y1) .lf) (some y1) .lf) (some y1) (.nd (.nd .lf (some y1) .lf) (some y1) .lf)) (some y2) (.nd (.nd (.nd .lf (some y58) .lf) (some y1) .lf) (some y1) (.nd .lf (some y49) .lf))) (some y10) (.nd (.nd (.nd (.nd .lf (some y53) .lf) (some y40) .lf) (some y32) (.nd (.nd .lf (some y9) .lf) (some y9) .lf)) (some y1) (.nd (.nd (.nd .lf (some y9) .lf) (some y1) .lf) (some y1) (.nd .lf (some y1) .lf)))) (some y6) (.nd (.nd (.nd (.nd (.nd .lf (some y1) .lf) (some y38) .lf) (some y9) (.nd (.nd .lf (some y1) .lf) (some y1) .lf)) (some y23) (.nd (.nd (.nd .lf (some y62) .lf) (some nG) .lf) (some y1) (.nd .lf (some y1) .lf))) (some y15) (.nd (.nd (.nd (.nd .lf (some y7) .lf) (some y44) .lf) (some y35) (.nd (.nd .lf (some y4) .lf) (some y1) .lf)) (some y2) (.nd (.nd (.nd .lf (some y9) .lf) (some y47) .lf) (some y1) (.nd .lf (some y1) .lf))))) (some y4) (.nd (.nd (.nd (.nd (.nd (.nd .lf (some y1) .lf) (some y1) .lf) (some y2) (.nd (.nd .lf (some y64) .lf) (some y1) .lf)) (some y1) (.nd (.nd (.nd .lf (some y61) .lf) (some y1) .lf) (some y1) (.nd .lf (some y9) .lf))) (some y1) (.nd (.nd (.nd (.nd .lf (some y1) .lf) (some y1) .lf) (some y34) (.nd (.nd .lf (some y69) .lf) (some y1) .lf)) (some y1) (.nd (.nd .lf (some y1) .lf) (some y1) (.nd .lf (some y1) .lf)))) (some y8) (.nd (.nd (.nd (.nd (.nd .lf (some y1) .lf) (some nG) .lf) (some y1) (.nd (.nd .lf (some y66) .lf) (some y1) .lf)) (some y1) (.nd (.nd (.nd .lf (some y1) .lf) (some y1) .lf) (some y9) (.nd .lf (some y1) .lf))) (some y18) (.nd (.nd (.nd (.nd .lf (some y1) .lf) (some vH) .lf) (some y36) (.nd (.nd .lf (some vB) .lf) (some y9) .lf)) (some y1) (.nd (.nd (.nd .lf (some y1) .lf) (some y1) .lf) (some y1) (.nd .lf (some y1) .lf))))))))
def TT (t:TypeId):Option TI:=ttT.get t
def aOr (P:Program) (n:Nat):Bool:=(List.range n).all fun t=>match TT t with|some ti=>aDn P t ti|none=>true
theorem aNn:aOr prog 353=true:=by decide +kernel
def pX (t:TypeId):Option TI:=match Nat.blt t 353 with
 | true=>TT t
 | false=>none
theorem aOB (t:TypeId) (ti:TI) (h:pX t=some ti):ti.ok prog t:=by
 unfold pX at h;split at h
 ·rename_i ht;rw[Nat.blt_eq] at ht;have:=fD.1 aNn t (pD.2 ht);rw[h] at this;exact aL4 this
 ·cases h
theorem aG4:aAB prog [4] [(36,[0,2,0,0]),(104,[2,2]),(143,[2,2])] [24,69,71] [151]=true:=by decide +kernel
theorem aII {P:Program} {e:TypeId} (hc:P.cellsOf e≠0) (count:Nat) (h:1≤count):liesAt P P.depth e count 0 e 1=true:=by
 have hd:P.depth=(2 * (P.types.size+Made.depth)+1)+1:=rfl;rw[hd];simp only[liesAt,kF];left;rw[hd];simp[rowAt,hc,h,sameLayout]
theorem zD:prog.underlying 151=some (.pointer 154)∧prog.underlying 253=some .unsafePointer∧(prog.info? 154).map (·.size)=some 2∧prog.cellsOf 154=2∧prog.underlying 210=some (.pointer 5)∧prog.cellsOf 5=1:=by
 refine ⟨?_,?_,?_,?_,?_,?_⟩<;>kernel_rfl
def rH (a b:TypeId):Option TypeId:=match Nat.beq a 151&&Nat.beq b 253 with
 | true=>some 154
 | false=>match Nat.beq a 253&&Nat.beq b 151 with
  | true=>some 154
  | false=>none
def usS (a:TypeId):Option TypeId:=match Nat.beq a 210 with
 | true=>some 5
 | false=>none
theorem aMY (a b e:TypeId) (h:rH a b=some e) (w:World) (k:Nat) (vs:Array Value) (hh:w.heap[k]?=some (.cells vs e)) (hs:prog.cellsOf e≤vs.size) :
  (convert a b (.pointer (some ⟨k,0,none⟩))).run prog w=.ok (.pointer (some ⟨k,0,none⟩)) w:=by
 obtain ⟨h1,h2,h3,h4,_⟩:=zD;obtain ⟨j,hj,hj2⟩:=jJ.1 h3;unfold rH at h;split at h
 ·rename_i hc;simp only[aZ] at hc;obtain rfl:=bH hc.1;obtain rfl:=bH hc.2;cases h;rw[h4] at hs;exact Lib.run_to_unsafe w ⟨k,0,none⟩ h1 h2 hj (by omega) (cells:=vs.size) (e:=154) (by simp[World.shape?,hh]) (by show 0<vs.size;omega)
 ·split at h
  ·rename_i hc;simp only[aZ] at hc;obtain rfl:=bH hc.1;obtain rfl:=bH hc.2;cases h;rw[h4] at hs;exact Lib.run_from_unsafe w ⟨k,0,none⟩ h2 h1 hj (cells:=vs.size) (e:=154) (by simp[World.shape?,hh]) (aII (by rw[h4];decide) _ (by rw[h4];omega))
  ·cases h
theorem aJw {P:Program} {e u:TypeId} {fs:Array Field} (hc:P.cellsOf e≠0) (hu:P.cellsOf u≠0) (hs:P.underlying e=some (.struct fs)) (hh:P.stoodInHeld e=false) (hf:∃ f∈fs,f.offset=0∧f.type=u)
  (count:Nat) (h:1≤count):liesAt P P.depth e count 0 u 1=true:=by
 have hd:P.depth=(2 * (P.types.size+Made.depth)+1)+1:=rfl;obtain ⟨f,hm,h0,ht⟩:=hf;rw[hd];simp only[liesAt,kF];left;rw[hd];generalize 2 * (P.types.size+Made.depth)=m;subst ht;have h1:0<count:=h;rw[rowAt];simp only[hc,hs,hh,h1,Nat.zero_div,Nat.zero_mod,if_false,oH,eZ,eX,kF,aZ];right;rw[Array.any_eq_true'];refine ⟨f,hm,?_⟩;simp[hu,rowAt,sameLayout,h0];exact Nat.pos_of_ne_zero hu
def aDg (d:Option TypeDesc) (u:TypeId):Bool:=match d with
 | some (.struct fs)=>fs.any fun f=>f.offset == 0&&f.type == u
 | _=>false
theorem aKL:aDg (prog.underlying 187) 154=true∧prog.stoodInHeld 187=false∧prog.cellsOf 187=2:=by
 refine ⟨?_,?_,?_⟩<;>kernel_rfl
theorem aMb {d:Option TypeDesc} {u:TypeId} (h:aDg d u=true):∃ fs,d=some (.struct fs)∧∃ f∈fs,f.offset=0∧f.type=u:=by
 unfold aDg at h;split at h
 ·rename_i fs;rw[Array.any_eq_true'] at h;obtain ⟨f,hm,h⟩:=h;simp only[aZ,beq_iff_eq] at h;exact ⟨fs,rfl,f,hm,h⟩
 ·cases h
def cwS (a:TypeId):Option TypeId:=match Nat.beq a 187 with
 | true=>some 154
 | false=>none
theorem aNs (a b e' e:TypeId) (h:rH a b=some e') (h':cwS e=some e') (w:World) (k:Nat) (vs:Array Value) (hh:w.heap[k]?=some (.cells vs e)) (hs:prog.cellsOf e'≤vs.size) :
  (convert a b (.pointer (some ⟨k,0,none⟩))).run prog w=.ok (.pointer (some ⟨k,0,none⟩)) w:=by
 obtain ⟨h1,h2,h3,h4,_⟩:=zD;obtain ⟨g0,g4,g5⟩:=aKL;obtain ⟨fs,g1,g2⟩:=aMb g0;obtain ⟨j,hj,hj2⟩:=jJ.1 h3;unfold cwS at h';split at h'
 ·rename_i hc;obtain rfl:=bH hc;cases h';rw[h4] at hs;unfold rH at h;split at h
  ·rename_i hc;simp only[aZ] at hc;obtain rfl:=bH hc.1;obtain rfl:=bH hc.2;exact Lib.run_to_unsafe w ⟨k,0,none⟩ h1 h2 hj (by omega) (cells:=vs.size) (e:=187) (by simp[World.shape?,hh]) (by show 0<vs.size;omega)
  ·split at h
   ·rename_i hc;simp only[aZ] at hc;obtain rfl:=bH hc.1;obtain rfl:=bH hc.2;exact Lib.run_from_unsafe w ⟨k,0,none⟩ h2 h1 hj (cells:=vs.size) (e:=187) (by simp[World.shape?,hh]) (aJw (by rw[g5];decide) (by rw[h4];decide) g1 g4 g2 _ (by rw[g5];omega))
   ·cases h
 ·cases h'
def aAy:List A:=[.int .u8 0,.int .u8 0,.int .u8 0,.int .u8 0,.int .u8 0,.int .u8 0,.int .u8 0,.int .u8 0,.int .u8 0,.int .u8 1,.int .u8 1,.int .u8 1,.int .u8 1,.int .u8 1,.int .u8 0,.int .u8 0,.int .u8 0,.int .u8 0,.int .u8 0,.int .u8 0,.int .u8 0,.int .u8 0,.int .u8 0,.int .u8 0,.int .u8 0,.int .u8 0,.int .u8 0,.int .u8 0,.int .u8 0,.int .u8 0,.int .u8 0,.int .u8 0,.int .u8 1,.int .u8 0,.int .u8 0,.int .u8 0,.int .u8 0,.int .u8 0,.int .u8 0,.int .u8 0,.int .u8 0,.int .u8 0,.int .u8 0,.int .u8 0,.int .u8 0,.int .u8 0,.int .u8 0,.int .u8 0,.int .u8 0,.int .u8 0,.int .u8 0,.int .u8 0,.int .u8 0,.int .u8 0,.int .u8 0,.int .u8 0,.int .u8 0,.int .u8 0,.int .u8 0,.int .u8 0,.int .u8 0,.int .u8 0,.int .u8 0,.int .u8 0,.int .u8 0,.int .u8 0,.int .u8 0,.int .u8 0,.int .u8 0,.int .u8 0,.int .u8 0,.int .u8 0,.int .u8 0,.int .u8 0,.int .u8 0,.int .u8 0,.int .u8 0,.int .u8 0,.int .u8 0,.int .u8 0,.int .u8 0,.int .u8 0,.int .u8 0,.int .u8 0,.int .u8 0,.int .u8 0,.int .u8 0,.int .u8 0,.int .u8 0,.int .u8 0,.int .u8 0,.int .u8 0,.int .u8 0,.int .u8 0,.int .u8 0,.int .u8 0,.int .u8 0,.int .u8 0,.int .u8 0,.int .u8 0,.int .u8 0,.int .u8 0,.int .u8 0,.int .u8 0,.int .u8 0,.int .u8 0,.int .u8 0,.int .u8 0,.int .u8 0,.int .u8 0,.int .u8 0,.int .u8 0,.int .u8 0,.int .u8 0,.int .u8 0,.int .u8 0,.int .u8 0,.int .u8 0,.int .u8 0,.int .u8 0,.int .u8 0,.int .u8 0,.int .u8 0,.int .u8 0,.int .u8 0,.int .u8 0,.int .u8 0,.int .u8 0,.int .u8 0,.int .u8 0,.int .u8 0,.int .u8 0,.int .u8 0,.int .u8 0,.int .u8 0,.int .u8 0,.int .u8 0,.int .u8 0,.int .u8 0,.int .u8 0,.int .u8 0,.int .u8 0,.int .u8 0,.int .u8 0,.int .u8 0,.int .u8 0,.int .u8 0,.int .u8 0,.int .u8 0,.int .u8 0,.int .u8 0,.int .u8 0,.int .u8 0,.int .u8 0,.int .u8 0,.int .u8 0,.int .u8 0,.int .u8 0,.int .u8 0,.int .u8 0,.int .u8 0,.int .u8 0,.int .u8 0,.int .u8 0,.int .u8 0,.int .u8 0,.int .u8 0,.int .u8 0,.int .u8 0,.int .u8 0,.int .u8 0,.int .u8 0,.int .u8 0,.int .u8 0,.int .u8 0,.int .u8 0,.int .u8 0,.int .u8 0,.int .u8 0,.int .u8 0,.int .u8 0,.int .u8 0,.int .u8 0,.int .u8 0,.int .u8 0,.int .u8 0,.int .u8 0,.int .u8 0,.int .u8 0,.int .u8 0,.int .u8 0,.int .u8 0,.int .u8 0,.int .u8 0,.int .u8 0,.int .u8 0,.int .u8 0,.int .u8 0,.int .u8 0,.int .u8 0,.int .u8 0,.int .u8 0,.int .u8 0,.int .u8 0,.int .u8 0,.int .u8 0,.int .u8 0,.int .u8 0,.int .u8 0,.int .u8 0,.int .u8 0,.int .u8 0,.int .u8 0,.int .u8 0,.int .u8 0,.int .u8 0,.int .u8 0,.int .u8 0,.int .u8 0,.int .u8 0,.int .u8 0,.int .u8 0,.int .u8 0,.int .u8 0,.int .u8 0,.int .u8 0,.int .u8 0,.int .u8 0,.int .u8 0,.int .u8 0,.int .u8 0,.int .u8 0,.int .u8 0,.int .u8 0,.int .u8 0,.int .u8 0,.int .u8 0,.int .u8 0,.int .u8 0,.int .u8 0,.int .u8 0,.int .u8 0,.int .u8 0,.int .u8 0,.int .u8 0,.int .u8 0,.int .u8 0,.int .u8 0,.int .u8 0,.int .u8 0,.int .u8 0,.int .u8 0,.int .u8 0,.int .u8 0,.int .u8 0,.int .u8 0]
def qZ:List A:=[.int .u64 1,.int .u64 10,.int .u64 100,.int .u64 1000,.int .u64 10000,.int .u64 100000,.int .u64 1000000,.int .u64 10000000,.int .u64 100000000,.int .u64 1000000000,.int .u64 10000000000,.int .u64 100000000000,.int .u64 1000000000000,.int .u64 10000000000000,.int .u64 100000000000000,.int .u64 1000000000000000,.int .u64 10000000000000000,.int .u64 100000000000000000,.int .u64 1000000000000000000,.int .u64 10000000000000000000]
def vG:Nat→Option (List A)
 | 0=>some aAy
 | 3=>some qZ
 | _=>none
theorem aMQ (a b e:TypeId) (h:rH a b=some e):(pX e).map (·.sz)=some (prog.cellsOf e):=by
 have h4:=zD.2.2.2.1;unfold rH at h;split at h
 ·cases h;rw[h4];rfl
 ·split at h
  ·cases h;rw[h4];rfl
  ·cases h
theorem aM9 (t e:TypeId) (h:usS t=some e):prog.underlying t=some (.pointer e)∧prog.cellsOf e=1:=by
 unfold usS at h;split at h
 ·rename_i hc;obtain rfl:=bH hc;cases h;exact zD.2.2.2.2
 ·cases h
noncomputable def cx:Cx:={ P:=prog,det:=false,gl:=vG,tt:=pX,htt:=aOB,cv:=rH,hcv:=aMY,hcs:=aMQ,cw:=cwS,hcw:=aNs,us:=usS,hus:=aM9,eq:=xM [4] [(36,[0,2,0,0]),(104,[2,2]),(143,[2,2])] [24,69,71] [151],heq:=aNb aG4,nl:=fun t=>[24,69,71].elem t,hnl:=fun t ht a n cap w op x y hop=>⟨a.isNone,wR (by have h:=aG4;simp only[aAB,aZ,fD] at h;exact h.2.1 t (by simpa using ht)) a n cap hop x y⟩ }
@[go_sem] theorem aRX (t:TypeId):cx.nl t=[24,69,71].elem t:=rfl
@[go_sem] theorem aRW (t:TypeId) (a b:A):cx.eq t a b=xM [4] [(36,[0,2,0,0]),(104,[2,2]),(143,[2,2])] [24,69,71] [151] t a b:=rfl
@[go_sem] theorem aRb (s:St) (n:Nat) (e:TypeId) (sz:Nat) (ys:List A) (KV:St→A→Prop):kB cx s n e sz ys KV=newT cx s n e ys KV:=rfl
noncomputable def qB:Cx:={ cx with mu:=1 }
@[go_sem] theorem aQX (s:St) (n:Nat) (e:TypeId) (sz:Nat) (ys:List A) (KV:St→A→Prop):kB qB s n e sz ys KV=(0<n∧aAt s n e sz (cW ys) KV):=rfl
@[go_sem] theorem aRD:qB.tt=cx.tt:=rfl
@[go_sem] theorem aRS:qB.eq=cx.eq:=rfl
@[go_sem] theorem aRU:cx.cw 187=some 154:=rfl
@[go_sem] theorem aRF:qB.cv=cx.cv:=rfl
@[go_sem] theorem aRP:qB.cw=cx.cw:=rfl
@[go_sem] theorem aRL:qB.us=cx.us:=rfl
@[go_sem] theorem aRi:qB.det=false:=rfl
@[go_sem] theorem aRw:qB.toCtx=cx.toCtx:=rfl
@[go_sem] theorem aRC:xF cx=false:=rfl
@[go_sem] theorem aRq:xF qB=false:=rfl
noncomputable def kD:Cx:={ cx with mu:=2 }
@[go_sem] theorem aQ4 (s:St) (n:Nat) (e:TypeId) (sz:Nat) (ys:List A) (KV:St→A→Prop):kB kD s n e sz ys KV=newT kD s n e ys KV:=rfl
@[go_sem] theorem aRh:xF kD=true:=rfl
@[go_sem] theorem aRJ:kD.tt=cx.tt:=rfl
@[go_sem] theorem aRN:kD.eq=cx.eq:=rfl
@[go_sem] theorem aRQ:kD.cv=cx.cv:=rfl
@[go_sem] theorem aRB:kD.cw=cx.cw:=rfl
@[go_sem] theorem aRt:kD.us=cx.us:=rfl
@[go_sem] theorem aRr:kD.det=false:=rfl
@[go_sem] theorem aRA:kD.toCtx=cx.toCtx:=rfl
attribute [go_sem] uR
theorem aMc {f:FuncId} {l:List A} {KV Kp:St→A→Prop} {s:St} (h:Den kD f l KV Kp s):Den cx f l KV Kp s:=by assumption
theorem aFp:cx.P.follows .mixedOrders=true:=by decide +kernel
section
@[go_sem] theorem ty0:cx.tt 1=some y1∧cx.tt 2=some y2∧cx.tt 3=some y2∧cx.tt 4=some y3∧cx.tt 5=some y4∧cx.tt 6=some y4∧cx.tt 7=some y5∧cx.tt 8=some y5∧cx.tt 9=some y6∧cx.tt 10=some y6∧cx.tt 11=some y6∧cx.tt 12=some y7:=⟨rfl,rfl,rfl,rfl,rfl,rfl,rfl,rfl,rfl,rfl,rfl,rfl⟩
@[go_sem] theorem ty1:cx.tt 13=some y8∧cx.tt 14=some y8∧cx.tt 15=some y9∧cx.tt 16=some y9∧cx.tt 17=some y9∧cx.tt 18=some y10∧cx.tt 19=some y10∧cx.tt 20=some vH∧cx.tt 21=some vB∧cx.tt 22=some y1∧cx.tt 23=some y1∧cx.tt 24=some y13:=⟨rfl,rfl,rfl,rfl,rfl,rfl,rfl,rfl,rfl,rfl,rfl,rfl⟩
@[go_sem] theorem ty2:cx.tt 25=some y14∧cx.tt 26=some y15∧cx.tt 27=some y16∧cx.tt 28=some y16∧cx.tt 29=some y17∧cx.tt 30=some y18∧cx.tt 31=some y19∧cx.tt 32=some y20∧cx.tt 33=some y20∧cx.tt 34=some y2∧cx.tt 35=some y21∧cx.tt 36=some y21:=⟨rfl,rfl,rfl,rfl,rfl,rfl,rfl,rfl,rfl,rfl,rfl,rfl⟩
@[go_sem] theorem ty3:cx.tt 38=some y1∧cx.tt 39=some y1∧cx.tt 40=some y2∧cx.tt 41=some y22∧cx.tt 42=some y23∧cx.tt 43=some y23∧cx.tt 45=some y1∧cx.tt 46=some y1∧cx.tt 47=some y1∧cx.tt 48=some y1∧cx.tt 50=some y1∧cx.tt 52=some y1:=⟨rfl,rfl,rfl,rfl,rfl,rfl,rfl,rfl,rfl,rfl,rfl,rfl⟩
@[go_sem] theorem ty4:cx.tt 53=some y1∧cx.tt 54=some y1∧cx.tt 55=some y24∧cx.tt 57=some y1∧cx.tt 58=some y2∧cx.tt 59=some y25∧cx.tt 60=some y25∧cx.tt 61=some y1∧cx.tt 62=some y1∧cx.tt 63=some y1∧cx.tt 64=some y1∧cx.tt 65=some y1:=⟨rfl,rfl,rfl,rfl,rfl,rfl,rfl,rfl,rfl,rfl,rfl,rfl⟩
@[go_sem] theorem ty5:cx.tt 66=some y1∧cx.tt 67=some y26∧cx.tt 68=some y26∧cx.tt 69=some y27∧cx.tt 70=some y2∧cx.tt 71=some y28∧cx.tt 72=some y29∧cx.tt 73=some y29∧cx.tt 74=some y9∧cx.tt 76=some y1∧cx.tt 77=some y1∧cx.tt 78=some y1:=⟨rfl,rfl,rfl,rfl,rfl,rfl,rfl,rfl,rfl,rfl,rfl,rfl⟩
@[go_sem] theorem ty6:cx.tt 79=some y30∧cx.tt 80=some y30∧cx.tt 81=some y31∧cx.tt 82=some y32∧cx.tt 83=some y33∧cx.tt 84=some y33∧cx.tt 85=some y34∧cx.tt 86=some y34∧cx.tt 87=some y1∧cx.tt 88=some y9∧cx.tt 89=some y1∧cx.tt 90=some y35:=⟨rfl,rfl,rfl,rfl,rfl,rfl,rfl,rfl,rfl,rfl,rfl,rfl⟩
@[go_sem] theorem ty7:cx.tt 91=some y35∧cx.tt 92=some y1∧cx.tt 93=some y9∧cx.tt 94=some y36∧cx.tt 95=some y36∧cx.tt 97=some y1∧cx.tt 98=some y1∧cx.tt 99=some y1∧cx.tt 100=some y1∧cx.tt 101=some y1∧cx.tt 102=some y1∧cx.tt 103=some nG:=⟨rfl,rfl,rfl,rfl,rfl,rfl,rfl,rfl,rfl,rfl,rfl,rfl⟩
@[go_sem] theorem ty8:cx.tt 104=some nG∧cx.tt 105=some y1∧cx.tt 106=some y1∧cx.tt 107=some y1∧cx.tt 108=some y1∧cx.tt 109=some y1∧cx.tt 110=some y9∧cx.tt 112=some y1∧cx.tt 113=some y1∧cx.tt 114=some y1∧cx.tt 115=some y1∧cx.tt 116=some y1:=⟨rfl,rfl,rfl,rfl,rfl,rfl,rfl,rfl,rfl,rfl,rfl,rfl⟩
@[go_sem] theorem ty9:cx.tt 117=some y1∧cx.tt 118=some y1∧cx.tt 119=some y1∧cx.tt 120=some y1∧cx.tt 121=some y1∧cx.tt 122=some y1∧cx.tt 123=some y1∧cx.tt 124=some y1∧cx.tt 125=some y1∧cx.tt 126=some y1∧cx.tt 127=some y1∧cx.tt 128=some y1:=⟨rfl,rfl,rfl,rfl,rfl,rfl,rfl,rfl,rfl,rfl,rfl,rfl⟩
@[go_sem] theorem aR1:cx.tt 129=some y1∧cx.tt 130=some y1∧cx.tt 131=some y1∧cx.tt 132=some y1∧cx.tt 133=some y1∧cx.tt 134=some y1∧cx.tt 135=some y1∧cx.tt 136=some y9∧cx.tt 137=some y38∧cx.tt 138=some y38∧cx.tt 139=some y1∧cx.tt 140=some y39:=⟨rfl,rfl,rfl,rfl,rfl,rfl,rfl,rfl,rfl,rfl,rfl,rfl⟩
@[go_sem] theorem aSe:cx.tt 141=some y39∧cx.tt 142=some nG∧cx.tt 143=some nG∧cx.tt 144=some y1∧cx.tt 145=some y1∧cx.tt 146=some y40∧cx.tt 147=some y41∧cx.tt 148=some y42∧cx.tt 149=some y42∧cx.tt 150=some y1∧cx.tt 151=some y9∧cx.tt 152=some y43:=⟨rfl,rfl,rfl,rfl,rfl,rfl,rfl,rfl,rfl,rfl,rfl,rfl⟩
@[go_sem] theorem aR5:cx.tt 153=some y44∧cx.tt 154=some y44∧cx.tt 155=some y45∧cx.tt 156=some y45∧cx.tt 157=some vH∧cx.tt 158=some vH∧cx.tt 160=some y1∧cx.tt 161=some y1∧cx.tt 162=some y1∧cx.tt 164=some y1∧cx.tt 165=some y1∧cx.tt 166=some y1:=⟨rfl,rfl,rfl,rfl,rfl,rfl,rfl,rfl,rfl,rfl,rfl,rfl⟩
@[go_sem] theorem aR4:cx.tt 167=some y1∧cx.tt 168=some y1∧cx.tt 169=some y1∧cx.tt 170=some nG∧cx.tt 171=some nG∧cx.tt 172=some y1∧cx.tt 173=some y1∧cx.tt 174=some y1∧cx.tt 175=some y1∧cx.tt 176=some y1∧cx.tt 177=some y1∧cx.tt 178=some y1:=⟨rfl,rfl,rfl,rfl,rfl,rfl,rfl,rfl,rfl,rfl,rfl,rfl⟩
@[go_sem] theorem aSf:cx.tt 179=some y1∧cx.tt 180=some y1∧cx.tt 181=some y1∧cx.tt 182=some y1∧cx.tt 183=some y46∧cx.tt 184=some y46∧cx.tt 185=some y1∧cx.tt 186=some y47∧cx.tt 187=some y47∧cx.tt 188=some y1∧cx.tt 189=some y1∧cx.tt 190=some y1:=⟨rfl,rfl,rfl,rfl,rfl,rfl,rfl,rfl,rfl,rfl,rfl,rfl⟩
@[go_sem] theorem aSc:cx.tt 191=some y9∧cx.tt 192=some y48∧cx.tt 193=some y1∧cx.tt 194=some y1∧cx.tt 195=some y1∧cx.tt 196=some y1∧cx.tt 197=some y1∧cx.tt 198=some y1∧cx.tt 199=some y1∧cx.tt 200=some y1∧cx.tt 201=some y1∧cx.tt 202=some y1:=⟨rfl,rfl,rfl,rfl,rfl,rfl,rfl,rfl,rfl,rfl,rfl,rfl⟩
@[go_sem] theorem aR3:cx.tt 203=some y1∧cx.tt 204=some y1∧cx.tt 205=some y1∧cx.tt 206=some y1∧cx.tt 207=some y1∧cx.tt 208=some y1∧cx.tt 209=some y1∧cx.tt 210=some y9∧cx.tt 211=some y1∧cx.tt 212=some y1∧cx.tt 213=some y1∧cx.tt 214=some y1:=⟨rfl,rfl,rfl,rfl,rfl,rfl,rfl,rfl,rfl,rfl,rfl,rfl⟩
@[go_sem] theorem aRZ:cx.tt 215=some y1∧cx.tt 216=some y1∧cx.tt 217=some y1∧cx.tt 218=some y1∧cx.tt 219=some y1∧cx.tt 220=some y1∧cx.tt 221=some y9∧cx.tt 222=some y9∧cx.tt 223=some y1∧cx.tt 224=some y9∧cx.tt 225=some y49∧cx.tt 226=some y49:=⟨rfl,rfl,rfl,rfl,rfl,rfl,rfl,rfl,rfl,rfl,rfl,rfl⟩
@[go_sem] theorem aR7:cx.tt 227=some y1∧cx.tt 228=some y1∧cx.tt 229=some y1∧cx.tt 230=some y9∧cx.tt 231=some y1∧cx.tt 232=some y1∧cx.tt 233=some y9∧cx.tt 234=some y1∧cx.tt 235=some y1∧cx.tt 236=some y1∧cx.tt 237=some y1∧cx.tt 238=some y1:=⟨rfl,rfl,rfl,rfl,rfl,rfl,rfl,rfl,rfl,rfl,rfl,rfl⟩
@[go_sem] theorem aR9:cx.tt 239=some y1∧cx.tt 240=some y1∧cx.tt 241=some y1∧cx.tt 242=some y1∧cx.tt 243=some y1∧cx.tt 244=some y1∧cx.tt 245=some y1∧cx.tt 246=some y1∧cx.tt 247=some y1∧cx.tt 248=some y50∧cx.tt 249=some y1∧cx.tt 250=some y1:=⟨rfl,rfl,rfl,rfl,rfl,rfl,rfl,rfl,rfl,rfl,rfl,rfl⟩
@[go_sem] theorem aR6:cx.tt 251=some y1∧cx.tt 252=some y1∧cx.tt 253=some y9∧cx.tt 254=some y1∧cx.tt 256=some y1∧cx.tt 257=some y1∧cx.tt 258=some y1∧cx.tt 259=some y1∧cx.tt 260=some y1∧cx.tt 261=some y1∧cx.tt 262=some y1∧cx.tt 264=some y1:=⟨rfl,rfl,rfl,rfl,rfl,rfl,rfl,rfl,rfl,rfl,rfl,rfl⟩
@[go_sem] theorem aSg:cx.tt 265=some y1∧cx.tt 266=some y1∧cx.tt 267=some y1∧cx.tt 268=some y52∧cx.tt 269=some y1∧cx.tt 270=some y1∧cx.tt 271=some y1∧cx.tt 272=some y1∧cx.tt 273=some y1∧cx.tt 274=some y53∧cx.tt 275=some y54∧cx.tt 276=some y54:=⟨rfl,rfl,rfl,rfl,rfl,rfl,rfl,rfl,rfl,rfl,rfl,rfl⟩
@[go_sem] theorem aR2:cx.tt 277=some y55∧cx.tt 278=some y1∧cx.tt 279=some y9∧cx.tt 280=some y1∧cx.tt 281=some y1∧cx.tt 282=some y7∧cx.tt 283=some y56∧cx.tt 284=some y7∧cx.tt 285=some y1∧cx.tt 286=some y1∧cx.tt 288=some y1∧cx.tt 289=some y57:=⟨rfl,rfl,rfl,rfl,rfl,rfl,rfl,rfl,rfl,rfl,rfl,rfl⟩
@[go_sem] theorem aR8:cx.tt 290=some y58∧cx.tt 291=some y59∧cx.tt 292=some y59∧cx.tt 293=some y60∧cx.tt 294=some y61∧cx.tt 295=some y61∧cx.tt 296=some y1∧cx.tt 297=some y62∧cx.tt 298=some y62∧cx.tt 299=some y1∧cx.tt 301=some y1∧cx.tt 302=some y1:=⟨rfl,rfl,rfl,rfl,rfl,rfl,rfl,rfl,rfl,rfl,rfl,rfl⟩
@[go_sem] theorem aSa:cx.tt 303=some y63∧cx.tt 305=some y1∧cx.tt 306=some y9∧cx.tt 307=some y9∧cx.tt 308=some y1∧cx.tt 312=some y1∧cx.tt 313=some y1∧cx.tt 314=some y9∧cx.tt 315=some y1∧cx.tt 316=some y1∧cx.tt 318=some y1∧cx.tt 319=some y1:=⟨rfl,rfl,rfl,rfl,rfl,rfl,rfl,rfl,rfl,rfl,rfl,rfl⟩
@[go_sem] theorem aSb:cx.tt 320=some y2∧cx.tt 322=some y1∧cx.tt 323=some y9∧cx.tt 324=some y1∧cx.tt 325=some y1∧cx.tt 326=some y64∧cx.tt 328=some y1∧cx.tt 330=some y1∧cx.tt 331=some y65∧cx.tt 332=some y65∧cx.tt 333=some y1∧cx.tt 334=some y66:=⟨rfl,rfl,rfl,rfl,rfl,rfl,rfl,rfl,rfl,rfl,rfl,rfl⟩
@[go_sem] theorem aSd:cx.tt 335=some y66∧cx.tt 336=some y67∧cx.tt 337=some y1∧cx.tt 338=some y9∧cx.tt 339=some y68∧cx.tt 340=some y68∧cx.tt 341=some y69∧cx.tt 342=some y69∧cx.tt 343=some y70∧cx.tt 346=some y4∧cx.tt 347=some y4∧cx.tt 348=some y1:=⟨rfl,rfl,rfl,rfl,rfl,rfl,rfl,rfl,rfl,rfl,rfl,rfl⟩
@[go_sem] theorem aR0:cx.tt 349=some vB∧cx.tt 350=some vB∧cx.tt 351=some y71∧cx.tt 352=some y71:=⟨rfl,rfl,rfl,rfl⟩
end
end Go.AV
