/-
  Of DefStrings.
-/
import Derived.Test.YtamikhobdffnfaaGreatDoorSt09
set_option linter.all false
set_option maxRecDepth 99999
set_option maxHeartbeats 0
namespace Go.AV
open Go Go.Proofs Tryz
section
def Gh.lep (g g':Gh):Prop:=∀ b pre,g.pi b=some pre→∃ ext,g'.pi b=some (pre++ext)
def A.lp (a b:A):Prop:=∀ (g g':Gh) (v:Value),g.lep g'→Rz g a v→Rz g' b v
def fW (f:A→Option A):List A→Option (List A)
 | []=>some []
 | a::r=>match f a,fW f r with
  | some b,some l=>some (b::l)
  | _,_=>none
def dK:Nat→A→Option A
 | 0,_=>none
 | n+1,a=>match a with
  | .int k m=>some (.int k m)
  | .bool b=>some (.bool b)
  | .str s=>some (.str s)
  | .nilp=>some .nilp
  | .nils=>some .nils
  | .nilf=>some .nilf
  | .nili=>some .nili
  | .emp=>some .emp
  | .list _ es=>(fW (dK n) es).map (.list none)
  | .agg cs=>(fW (dK n) cs).map .agg
  | .tuple cs=>(fW (dK n) cs).map .tuple
  | .eptr cs o=>(fW (dK n) cs).map (.eptr · o)
  | .iface t v=>(dK n v).map (.iface t)
  | .fn f a b=>match fW (dK n) a,fW (dK n) b with
   | some a,some b=>some (.fn f a b)
   | _,_=>none
  | _=>none
theorem oL {f:A→Option A}:∀ {l m:List A},fW f l=some m→l.length=m.length∧∀ (j:Nat) (b:A),m[j]?=some b→∃ a,l[j]?=some a∧f a=some b
 | [],m,h=>by cases h;exact ⟨rfl,fun j b h=>by simp at h⟩
 | a::r,m,h=>by
  simp only[fW] at h;split at h
  ·rename_i b l hb hl;cases h;obtain ⟨h1,h2⟩:=oL hl;refine ⟨by simp[h1],fun j c hc=>?_⟩;cases j with
   | zero=>simp at hc;subst hc;exact ⟨a,by simp,hb⟩
   | succ j=>obtain ⟨a',ha,h3⟩:=h2 j c (by simpa using hc);exact ⟨a',by simpa using ha,h3⟩
  ·cases h
theorem zC {f:A→Option A} {l m:List A} (h:fW f l=some m) {b:A} (hb:b∈m):∃ a,a∈l∧f a=some b:=by
 obtain ⟨j,hj,rfl⟩:=fQ hb;obtain ⟨a,h1,h2⟩:=(oL h).2 j m[j] (bK hj);exact ⟨a,dP h1,h2⟩
theorem aCo:∀ (n:Nat) (a b:A),dK n a=some b→b.one=a.one
  | 0,a,b,h=>by cases h
  | n+1,a,b,h=>by
    cases a<;>simp only[dK,jJ,aP,reduceCtorEq] at h
    all_goals first
      | (subst h;rfl)
      | (obtain ⟨c,_,rfl⟩:=h;rfl)
      | (split at h
         · cases h;rfl
         · cases h)
theorem aBT:∀ (n:Nat) (a b:A),dK n a=some b→a.cells.length=b.cells.length∧∀ (j:Nat) (c:A),b.cells[j]?=some c→∃ m c',m≤n∧a.cells[j]?=some c'∧dK m c'=some c
  | 0,a,b,h=>by cases h
  | n+1,a,b,h=>by
    have self:a.cells=[a]→b.cells=[b]→a.cells.length=b.cells.length∧∀ (j:Nat) (c:A),b.cells[j]?=some c→∃ m c',m≤n+1∧a.cells[j]?=some c'∧dK m c'=some c:=by
      intro h1 h2;rw[h1,h2];refine ⟨rfl,fun j c hc=>?_⟩;cases j with
      | zero=>simp at hc;subst hc;exact ⟨n+1,a,bG _,by simp,h⟩
      | succ j=>simp at hc
    have h0:=h;cases a<;>simp only[dK,jJ,aP,reduceCtorEq] at h
    case agg cs =>
      obtain ⟨ds,hd,rfl⟩:=h;obtain ⟨h1,h2⟩:=oL hd;exact ⟨h1,fun j c hc=>by obtain ⟨a,h3,h4⟩:=h2 j c hc;exact ⟨n,a,by omega,h3,h4⟩⟩
    all_goals first
      | (subst h;exact self rfl rfl)
      | (obtain ⟨c,_,rfl⟩:=h;exact self rfl rfl)
      | (split at h
         · cases h;exact self rfl rfl
         · cases h)
theorem oQ:∀ (n:Nat) (a b:A),dK n a=some b→a.lp b:=by
 intro n
 induction n using Nat.strongRecOn with
 | _ n ih =>
 intro a b h g g' v hg hv;cases n with
 | zero=>cases h
 | succ n =>
  have row:∀ {l m:List A} {vs:List Value},fW (dK n) l=some m→Rzs g l vs→Rzs g' m vs:=by
   intro l m vs hl hr;obtain ⟨h1,h2⟩:=oL hl;refine ⟨by rw[hr.1,h1],fun j c u hc hu=>?_⟩;obtain ⟨a',h3,h4⟩:=h2 j c hc;exact ih n (fK n) a' c h4 g g' u hg (hr.2 j a' u h3 hu)
  have ones:∀ {l m:List A},fW (dK n) l=some m→(∀ c,c∈l→c.one=true)→∀ c,c∈m→c.one=true:=by
   intro l m hl h1 c hc;obtain ⟨a',h2,h3⟩:=zC hl hc;rw[aCo n a' c h3];exact h1 a' h2
  cases hv with
  | int k m=>cases h;exact .int k m
  | bool b=>cases h;exact .bool b
  | str s=>cases h;exact .str s
  | nilp=>cases h;exact .nilp
  | nils=>cases h;exact .nils
  | nilf=>cases h;exact .nilf
  | nili=>cases h;exact .nili
  | emp a=>cases h;exact .emp a
  | ptr b o k hb=>cases h
  | ml b off n cap k hb hc hm=>cases h
  | mg b n cap k hb hc hm=>cases h
  | sd tk es a cap hc hh=>cases h
  | gr t n k cap hh hn hm=>cases h
  | hl z a cap hh=>cases h
  | pen t es sz b cap hh hc hs=>cases h
  | rm t n sz b cap hh hc=>cases h
  | agg cs vs hl h1 hh =>
   simp only[dK,jJ] at h;obtain ⟨ds,hd,rfl⟩:=h;have hr:=row hd ⟨hl,hh⟩;exact .agg ds vs hr.1 (ones hd h1) hr.2
  | tuple cs vs hl hh =>
   simp only[dK,jJ] at h;obtain ⟨ds,hd,rfl⟩:=h;have hr:=row hd ⟨hl,hh⟩;exact .tuple ds vs hr.1 hr.2
  | iface t a v hh =>
   simp only[dK,jJ] at h;obtain ⟨d,hd,rfl⟩:=h;exact .iface t d v (ih n (fK n) a d hd g g' v hg hh)
  | fn f fs cs us vs hlf hlc hf hc =>
   simp only[dK] at h;split at h
   ·rename_i a' b' ha hb;cases h;have h1:=row ha ⟨hlf,hf⟩;have h2:=row hb ⟨hlc,hc⟩;exact .fn f a' b' us vs h1.1 h2.1 h1.2 h2.2
   ·cases h
  | eptr cs o b off pre hp hl h1 hh =>
   simp only[dK,jJ] at h;obtain ⟨ds,hd,rfl⟩:=h;obtain ⟨ext,hx⟩:=hg b pre hp;obtain ⟨e1,e2⟩:=oL hd;refine .eptr ds o b off (pre++ext) hx (by rw[← e1];simp;omega) (ones hd h1) fun j c u hc hu=>?_
   obtain ⟨a',h3,h4⟩:=e2 j c hc;have hj:j<cs.length:=(dH.1 h3).1;exact ih n (fK n) a' c h4 g g' u hg (hh j a' u h3 (tV (by omega) hu))
  | list0 tk a cap hm ht =>
   simp only[dK,fW,kG,aP] at h;subst h;exact .list0 none a cap hm (by simp)
  | list tk es b off sz cap pre hp hl hc hm hs h1 hh ht =>
   simp only[dK,jJ] at h;obtain ⟨ds,hd,rfl⟩:=h;obtain ⟨ext,hx⟩:=hg b pre hp;obtain ⟨e1,e2⟩:=oL hd;rw[e1] at hl hc ⊢;refine .list none ds b off sz cap (pre++ext) hx (by simp;omega) hc hm (fun e he=>?_) (fun e he c hcm=>?_) (fun i e j c u hi hj hu=>?_) (by simp)
   ·obtain ⟨a',h2,h3⟩:=zC hd he;rw[← (aBT n a' e h3).1];exact hs a' h2
   ·obtain ⟨a',h2,h3⟩:=zC hd he;obtain ⟨j,hj,rfl⟩:=fQ hcm;obtain ⟨m,c',hm',h4,h5⟩:=(aBT n a' e h3).2 j _ (bK hj);rw[aCo m c' _ h5];exact h1 a' h2 c' (dP h4)
   ·obtain ⟨a',h2,h3⟩:=e2 i e hi;obtain ⟨m,c',hm',h4,h5⟩:=(aBT n a' e h3).2 j c hj;have hi':i<ds.length:=(dH.1 hi).1;have hj':j<a'.cells.length:=(dH.1 h4).1
    have hb:i * sz+j<ds.length * sz:=by
     have h6:(i+1) * sz≤ds.length * sz:=lO _ hi';have h7:=hs a' (dP h2);rw[eH] at h6;omega
    exact ih m (by omega) c' c h5 g g' u hg (hh i a' j c' u h2 h4 (tV (by omega) hu))
def St.zero:St:=⟨fun _=>none,[],fun _=>none,[],0,none⟩
section
variable {C:Cx}
theorem aDN (d:Bool) (hgl:∀ b cs,C.gl b=some cs→∀ c,c∈cs→c.lp c) {f:FuncId} {args args2:List A} {KV Kp:St→A→Prop} {s:St} {a':A} {Q:St→A→Prop}
  (hl2:args2.length=args.length) (hargs:∀ (j:Nat) (x y:A),args[j]?=some x→args2[j]?=some y→x.lp y)
  (conv : ∀ (F1 : Fr) (g2 : Gh) (s2 : St) (w2 : World) (r : A) (v : Value),R ({ C with det := d } : Cx).toCtx F1 g2 s2 w2 → Rz g2 r v → Q s2 r → ∃ pi2 : Nat → Option (List Value),
   (∀ b pre,pi2 b=some pre→∃ rest e fr,w2.heap[b]?=some (.cells (pre++rest).toArray e fr))∧(∀ b,F1 b≠none→pi2 b=g2.pi b) ∧
   ∀ g':Gh,(∀ b pre,pi2 b=some pre→∃ ext,g'.pi b=some (pre++ext))→Rz g' a' v)
  (h:Den { C with det:=d } f args2 Q (fun _ _=>False) St.zero) (hk:KV s a'):Den C f args KV Kp s:=by
 intro F g w vals hR hv
 let F1:Fr:=fun b=>(w.heap[b]?).map fun o=>(o,g.pi b)
 let g1:Gh:=⟨g.pi,fun _ _=>none,fun _=>none,g.env⟩
 have hl1:g.lep g1:=fun b pre hp=>⟨[],by simpa using hp⟩
 have hR1:R ({ C with det:=d }:Cx).toCtx F1 g1 St.zero w:=by
  have z1:∀ b,St.zero.getO b=none:=fun b=>rfl
  have z2:∀ b,St.zero.getT b=none:=fun b=>rfl
  have z3:∀ b,g1.beta b=none:=fun b=>rfl
  refine ⟨fun b o ho=>?_,fun t n e ht=>?_,fun t t' n n' v v' b hne ht=>?_,hR.pis,fun b o ho=>?_,fun b cs hb=>?_,⟨0,fun t _=>⟨rfl,fun m=>rfl,rfl⟩⟩,fun b k hb=>?_,fun b b' k hb=>?_,fun _ b _=>⟨rfl,fun m=>rfl⟩,fun x hx=>(by cases hx),fun b k hb=>(by rw[z3] at hb;cases hb),hR.env⟩
  ·rw[z1] at ho;cases ho
  ·rw[z2] at ht;cases ht
  ·rw[z2] at ht;cases ht
  rotate_left 2
  ·rw[z3] at hb;cases hb
  ·rw[z3] at hb;cases hb
  ·simp only[F1,jJ] at ho;obtain ⟨x,hx,rfl⟩:=ho;exact ⟨hx,rfl⟩
  ·obtain ⟨pre,ty,fr,hp,hpi,hl,h1,hr⟩:=hR.gpi hb;exact ⟨pre,ty,fr,by simp only[F1,hp,hpi,kG],hl,h1,fun j c v hc hv=>hgl b cs hb c (dP hc) g g1 v hl1 (hr j c v hc hv)⟩
 have hv1:Rzs g1 args2 vals:=⟨hv.1.trans hl2.symm,fun j c v hc hvj=>by
  have hj:j<args.length:=by rw[← hl2];exact (dH.1 hc).1
  exact hargs j args[j] c (bK hj) hc g g1 v hl1 (hv.2 j args[j] v (bK hj) hvj)⟩
 have hout:=h F1 g1 w vals hR1 hv1
 have fin:∀ (g2:Gh) (s2:St) (w2:World) (r:A) (v:Value),g1.le g2→R ({ C with det:=d }:Cx).toCtx F1 g2 s2 w2→Rz g2 r v→Q s2 r →
   ∃ g3,g.le g3∧R C.toCtx F g3 s w2∧Rz g3 a' v:=by
  intro g2 s2 w2 r v hle hR2 hrv hq;obtain ⟨pi2,c1,c2,c3⟩:=conv F1 g2 s2 w2 r v hR2 hrv hq
  have hfr:∀ b,b<w.heap.size→w2.heap[b]?=w.heap[b]?∧pi2 b=g.pi b:=by
   intro b hb;have hx:w.heap[b]?=some w.heap[b]:=vO hb;have hF1:F1 b=some (w.heap[b],g.pi b):=by simp only[F1,hx,kG]
   have:=hR2.frm b (w.heap[b],g.pi b) hF1;exact ⟨by rw[this.1,hx],by rw[c2 b (by rw[hF1];simp),this.2]⟩
  have henv:(w2.os,w2.output)=(w.os,w.output):=(hR2.env.trans hle.env).trans hR.env.symm;refine ⟨⟨fun b=>if b<w.heap.size then g.pi b else pi2 b,g.eta,g.beta,g.env⟩,⟨fun b pre hp=>⟨[],?_⟩,fun _ _ _ h=>h,fun _ _ h=>h,rfl⟩,?_,c3 _ fun b pre hp=>⟨[],?_⟩⟩
  ·have hb:=hR.lt_pi hp;simp[hb,hp]
  ·refine (hR.keep (w':=w2) (fun b hb=>(hfr b hb).1) henv).ghost ⟨fun b pre hp=>⟨[],?_⟩,fun _ _ _ h=>h,fun _ _ h=>h,rfl⟩ (fun b k hb hp=>?_) (fun b pre hp=>?_) (fun t n e v b xs _ _ _ hx=>?_) rfl rfl (fun b o ho=>?_)
   ·have hb:=hR.lt_pi hp;simp[hb,hp]
   ·have:=hR.bet b k hb;simp[this,hp]
   ·by_cases hb:b<w.heap.size
    ·simp only[hb,if_true] at hp;rw[(hfr b hb).1];exact hR.pis b pre hp
    ·simp only[hb,if_false] at hp;exact c1 b pre hp
   ·have hb:=hR.lt_pi hx;simp[hb,hx]
   ·have hb:=hR.lt_frm ho;simp[hb]
  ·by_cases hb:b<w.heap.size
   ·simp only[hb,if_true,iE];rw[← (hfr b hb).2];exact hp
   ·simp only[hb,if_false,iE];exact hp
 revert hout;show OutV ({ C with det:=d }:Cx) F1 g1 _ _ ((callFunc f vals.toArray).run C.P w)→_;generalize (callFunc f vals.toArray).run C.P w=r;intro hr;cases r with
 | ok x w' =>
  cases x<;>simp only[OutV] at hr ⊢
  ·obtain ⟨g2,a2,s2,h1,h2,h3,h4⟩:=hr;obtain ⟨g3,e1,e2,e3⟩:=fin g2 s2 w' a2 _ h1 h2 h3 h4;exact ⟨g3,a',s,e1,e2,e3,hk⟩
  ·obtain ⟨g2,s2,h1,h2,h3⟩:=hr;obtain ⟨g3,e1,e2,ht⟩:=fin g2 s2 w' _ _ h1 h2 (.tuple [] [] rfl (by simp)) h3
   have hl:a'=.tuple []:=by
    generalize hvv:(Value.tuple ([]:List Value).toArray)=v at ht;cases ht<;>first|(cases hvv;done)|skip
    rename_i cs vs hl _;have h0:vs=[]:=by simpa using hvv.symm
    subst h0;rw[eJ hl.symm]
   subst hl;exact ⟨g3,s,e1,e2,hk⟩
  ·refine Calls.mono hr fun en w'' hp=>?_
   cases en with
   | returned v =>
    obtain ⟨g2,a2,s2,h1,h2,h3,h4⟩:=hp;obtain ⟨g3,e1,e2,e3⟩:=fin g2 s2 w'' a2 _ h1 h2 h3 h4;exact ⟨g3,a',s,e1,e2,e3,hk⟩
   | panicked jF=>obtain ⟨g2,a2,v,s2,_,_,_,_,h⟩:=hp;exact h.elim
   | outgrown=>exact hp
 | halt x w' =>
  cases x<;>simp only[OutV] at hr ⊢
  obtain ⟨g2,a2,s2,_,_,_,h⟩:=hr;exact h.elim
theorem aBt (d:Bool) (hgl:∀ b cs,C.gl b=some cs→∀ c,c∈cs→c.lp c) {f:FuncId} {args:List A} {KV Kp:St→A→Prop} {s:St} {a':A} {Q:St→A→Prop}
  (hargs:∀ x,x∈args→x.lp x)
  (conv : ∀ (F1 : Fr) (g2 : Gh) (s2 : St) (w2 : World) (r : A) (v : Value),R ({ C with det := d } : Cx).toCtx F1 g2 s2 w2 → Rz g2 r v → Q s2 r → ∃ pi2 : Nat → Option (List Value),
   (∀ b pre,pi2 b=some pre→∃ rest e fr,w2.heap[b]?=some (.cells (pre++rest).toArray e fr))∧(∀ b,F1 b≠none→pi2 b=g2.pi b) ∧
   ∀ g':Gh,(∀ b pre,pi2 b=some pre→∃ ext,g'.pi b=some (pre++ext))→Rz g' a' v)
  (h:Den { C with det:=d } f args Q (fun _ _=>False) St.zero) (hk:KV s a'):Den C f args KV Kp s :=
 aDN d hgl rfl (fun j x y hx hy=>by rw[hx] at hy;cases hy;exact hargs x (dP hx)) conv h hk
theorem aLw {X:XP} (hX:X.ok C) (fuel:Nat):pV C (qU X (iP X fuel)):=aFk hX (aK3 hX fuel)
def aAr (r:CR):Option A:=match r with
 | .val a σ=>match a with
  | .ml b off n=>match σ.bx.get b with
   | some (.cells _ cs)=>match Nat.beq off 0&&Nat.beq n cs.length with
    | true=>match fW (dK 60) cs with
     | some ds=>some (.list none ds)
     | none=>none
    | false=>none
   | _=>none
  | a=>dK 60 a
 | _=>none
theorem aMm {F1:Fr} {g2:Gh} {s2:St} {w2:World} {b n:Nat} {e:TypeId} {cs ds:List A} {v:Value} (hR:R C.toCtx F1 g2 s2 w2) (hv:Rz g2 (.ml b 0 n) v) (hb:s2.getO b=some (.cells e cs)) (hn:n=cs.length)
  (hd : fW (dK 60) cs = some ds) : ∃ pi2 : Nat → Option (List Value),
   (∀ b pre,pi2 b=some pre→∃ rest e fr,w2.heap[b]?=some (.cells (pre++rest).toArray e fr))∧(∀ b,F1 b≠none→pi2 b=g2.pi b) ∧
   ∀ g':Gh,(∀ b pre,pi2 b=some pre→∃ ext,g'.pi b=some (pre++ext))→Rz g' (.list none ds) v:=by
 obtain ⟨k,hbk,⟨vs,rest,hh,hrs,hone⟩,hpi,hF⟩:=hR.obj b _ hb;obtain ⟨k',cap,rfl,hbk',hc,hm⟩:=hv.ml_inv;rw[hbk] at hbk';cases hbk';obtain ⟨e1,e2⟩:=oL hd;refine ⟨fun c=>if c=k then some vs else g2.pi c,fun c pre hp=>?_,fun c hc=>?_,fun g' hg=>?_⟩
 ·by_cases hck:c=k
  ·subst hck;simp only[if_true,aP] at hp;subst hp;exact ⟨rest,e,_,hh⟩
  ·simp only[hck,if_false] at hp;exact hR.pis c pre hp
 ·have:c≠k:=by rintro rfl;exact hc hF
  simp[this]
 ·obtain ⟨ext,hx⟩:=hg k vs (by simp)
  have hlep:g2.lep g':=fun c pre hp=>by
   have:c≠k:=by rintro rfl;rw[hpi] at hp;cases hp
   exact hg c pre (by simp[this,hp])
  have hone':∀ d,d∈ds→d.one=true∧d.cells=[d]:=by
   intro d hd';obtain ⟨a,h1,h2⟩:=zC hd hd';have h3:d.one=true:=by rw[aCo 60 a d h2];exact hone a h1
   exact ⟨h3,by cases d<;>first|rfl|cases h3⟩
  have hlen:n=ds.length:=by rw[hn,e1]
  rw[hlen] at hc ⊢;refine .list none ds k 0 1 cap (vs++ext) hx (by have:=hrs.1;simp;omega) hc hm (fun d hd'=>by rw[(hone' d hd').2];rfl) (fun d hd' c hc'=>?_) (fun i d j c u hi hj hu=>?_) (by simp)
  ·rw[(hone' d hd').2] at hc';simp only[cY] at hc';subst hc';exact (hone' c hd').1
  ·have hdm:=dP hi;rw[(hone' d hdm).2] at hj;cases j with
   | succ j=>simp at hj
   | zero =>
    simp only[iJ,aP] at hj;subst hj;obtain ⟨a,h1,h2⟩:=e2 i d hi;have hi':i<cs.length:=(dH.1 h1).1
    have hu':vs[i]?=some u:=by
     rw[show 0+i * 1+0=i by omega] at hu;exact tV (by rw[hrs.1];exact hi') hu
    exact oQ 60 a d h2 g2 g' u hlep (hrs.2 i a u h1 hu')
theorem Den.run (d:Bool) {X:XP} (hX:X.ok { C with det:=d }) (hgl:∀ b cs,C.gl b=some cs→∀ c,c∈cs→c.lp c) {fuel:Nat} {f:FuncId} {args:List A} {KV Kp:St→A→Prop} {s:St} {a':A}
  (hargs:fW (dK 60) args=some args) (h:aAr (aDf X fuel f args)=some a') (hk:KV s a'):Den C f args KV Kp s:=by
 have hpl:∀ x,x∈args→x.lp x:=fun x hx=>by
  obtain ⟨j,hj,rfl⟩:=fQ hx;obtain ⟨y,h1,h2⟩:=(oL hargs).2 j args[j] (bK hj);rw[bK hj] at h1;cases h1;exact oQ 60 _ _ h2
 unfold aAr at h;split at h
 ·rename_i a σ' hr
  have hden:Den { C with det:=d } f args (fun s2 r=>r=a∧Sim s2 σ') (fun _ _=>False) St.zero:=by
   refine aLw hX fuel f args ⟨.lf,.lf,0,none⟩ St.zero _ _ ⟨fun b=>rfl,fun t=>rfl,rfl,rfl⟩ ?_;have e0:qU X (iP X fuel) f args ⟨.lf,.lf,0,none⟩=.val a σ':=hr;rw[e0];exact fun s' hs=>⟨rfl,hs⟩
  split at h
  ·rename_i b off n;split at h
   ·rename_i e cs hb;split at h
    ·rename_i hc;simp only[aZ] at hc;obtain rfl:=bH hc.1;split at h
     ·rename_i ds hd;cases h;refine aBt d hgl hpl (fun F1 g2 s2 w2 r v hR hv hq=>?_) hden hk;obtain ⟨rfl,hs⟩:=hq;exact aMm hR hv (by rw[hs.ob];exact hb) (bH hc.2) hd
     ·cases h
    ·cases h
   ·cases h
  ·refine aBt d hgl hpl (fun F1 g2 s2 w2 r v hR hv hq=>?_) hden hk;obtain ⟨rfl,hs⟩:=hq;exact ⟨g2.pi,hR.pis,fun b _=>rfl,fun g' hg=>oQ 60 _ a' h g2 g' v hg hv⟩
 ·cases h
end
end
end Go.AV
