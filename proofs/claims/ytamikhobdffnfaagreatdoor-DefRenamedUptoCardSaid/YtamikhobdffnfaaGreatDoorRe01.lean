/-
  Of DefRenamed.
-/
import Derived.WalkKit
import Derived.Orders
import Derived.Lib.Strings
import Derived.Laws.RangeString
import Derived.Laws.IdiomStrings
import Derived.Laws.MakeOwn
set_option linter.all false
set_option maxRecDepth 99999
set_option maxHeartbeats 0
namespace Go.AV
open Go
def aY:=@List.getElem?_eq_getElem
def nM:=@Nat.le_trans
def bJ:=@Option.some.injEq
def bW:=@List.mem_singleton
def bS:=@List.map_cons
def bT:=@Nat.le_refl
def bP:=@Sem.run_bind
def dV:=@List.getElem?_eq_some_iff
def cV:=@List.map_append
def cY:=@List.map_nil
def fK:=@List.eq_nil_of_length_eq_zero
def cC:=@List.mem_map
def eU:=@Bool.false_and
def aU:=@Nat.zero_le
def fG:=@Bool.and_false
def cU:=@decide_eq_true_eq
def cM:=@List.mem_of_getElem?
def dX:=@run_underlying
def eV:=@Bool.not_true
def jA:=@Array.getElem?_eq_some_iff
def lD:=@decide_eq_false
def bK:=@List.length_take
def eW:=@Bool.true_and
def iJ:=@Bool.false_or
def kD:=@decide_eq_true
def fM:=@Bool.not_false
def kN:=@List.getElem_of_mem
def yS:=@List.drop_eq_getElem_cons
def fB:=@Bool.and_true
def jB:=@Nat.lt_succ_self
def iH:=@List.all_eq_true
def jT:=@Bool.true_or
def kC:=@List.getElem?_append_left
def qV:=@Option.map_eq_some_iff
def oW:=@List.getElem?_drop
def gI:=@Nat.zero_add
def lC:=@List.map_toArray
def oF:=@List.getElem?_toArray
def jM:=@Bool.or_false
def gW:=@Nat.add_mul
def dW:=@List.take_of_length_le
def oU:=@Nat.mul_le_mul_right
def lN:=@List.getElem_mem
def cW:=@List.mem_append
def nK:=@List.getElem?_take
def oG:=@Bool.not_eq_true'
def gG:=@decide_eq_decide
def tI:=@List.drop_drop
def jN:=@Bool.or_true
def aEt:=@List.takeWhile_cons_of_pos
def aBG:=@List.takeWhile_cons_of_neg
def qX:=@List.mem_of_mem_take
def bI:=@List.append_assoc
def tH:=@UInt8.toNat_inj
def mR:=@List.tail_drop
def oY:=@Code.wp_mono
def qB:=@Bool.or_eq_true
def uU:=@decide_true
def fL:=@decide_eq_false_iff_not
def qY:=@Value.slice.injEq
def tE:=@List.mem_of_mem_drop
def bY:=@List.mem_cons_self
def qW:=@List.getElem?_eq_none
def wJ:=@List.not_mem_nil
def oT:=@List.getElem?_append_right
def jV:=@true_and
def wH:=@List.drop_eq_nil_of_le
def wG:=@List.mem_or_eq_of_mem_set
def lO:=@Prod.mk.injEq
def iS:=@List.take_add_one
def tG:=@List.getElem?_set
def lB:=@List.getElem?_map
def oX:=@Nat.add_assoc
def aBF:=@Array.getElem?_setIfInBounds_ne
def rY:=@List.drop_zero
def aAI:=@Array.getElem?_eq_getElem
def aAL:=@decide_false
def yU:=@Option.some.inj
def uS:=@List.mem_range
def pZ:=@Bool.eq_false_iff
def tJ:=@Addr.mk.injEq
def yT:=@List.find?_eq_none
def aBJ:=@Bool.not_eq_false'
def aBH:=@List.mem_of_find?_eq_some
def cT:=@List.mem_cons_of_mem
def nL:=@List.flatMap_cons
def aHk:=@Nat.lt_or_ge
def iT:=@and_self
def wO:=@Int.le_refl
def aAJ:=@beq_eq_false_iff_ne
def qG:=@false_and
def aGY:=@List.drop_length
def uR:=@Nat.min_eq_left
def eM:=@List.append_nil
def aBI:=@Array.getElem?_toList
def aEs:=@Array.getD_eq_getD_getElem?
def fH:=@or_false
def rE:=@and_true
def qA:=@of_decide_eq_true
def bN:=@Result.andThen_ok
def cD:=@Sem.run_pure
def kM:=@List.getElem?_cons_zero
def uQ:=@List.set_cons_succ
def wI:=@List.set_cons_zero
def oV:=@Array.length_toList
def mQ:=@Option.map_some
end Go.AV
namespace Go.Proofs.Tryz
end Go.Proofs.Tryz
namespace Go.AV
theorem aB{p : Prop}(h : p := by omega) : p := h
theorem aD{p : Prop}(h : p := by decide) : p := h
theorem bD{p : Prop}(h : p := by simp) : p := h
theorem dK : (¬False) = True := not_false_eq_true
theorem aE{α : Type _}{a : α}{l : List α} : (a :: l).length = l.length + 1 := rfl
theorem aG{α : Type _}{l r : List α} : (l ++ r).length = l.length + r.length := List.length_append
theorem aF{α : Type _} : ([] : List α).length = 0 := rfl
theorem aH{α : Type _}{β : Type _}{l : List α}(f : α -> β) : (List.map f l).length = l.length := List.length_map f
theorem eB{α : Type _}{b : α}{l : List α}{a : α} : a ∈ b :: l ↔ a = b \/ a ∈ l := List.mem_cons
theorem lM{n m : Nat}(h : n.ble m = true) : n <= m := Nat.le_of_ble_eq_true h
theorem nI{n m : Nat}(h : n.beq m = true) : n = m := Nat.eq_of_beq_eq_true h
theorem aV{α : Type _}{a : α}{l r : List α} : a :: l ++ r = a :: (l ++ r) := rfl
theorem aW{α : Type _}(l : List α) : [] ++ l = l := rfl
theorem dR{α : Type _}{i : Nat}{l : List α} : (List.drop i l).length = l.length - i := List.length_drop
theorem cL(a b : Bool) : ((a && b) = true) = (a = true /\ b = true) := Bool.and_eq_true a b
theorem cJ : (false = true) = False := Bool.false_eq_true
end Go.AV
namespace Go.AV
open Go Go.Proofs Tryz
section
inductive A where
 | int (k:IntKind) (n:Int)
 | bool (b:Bool)
 | str (s:List UInt8)
 | ptr (b off:Nat)
 | eptr (cs:List A) (off:Nat)
 | nilp
 | nils
 | list (tok:Option Nat) (es:List A)
 | agg (cs:List A)
 | fn (f:FuncId) (first caps:List A)
 | nilf
 | iface (t:TypeId) (v:A)
 | nili
 | tuple (vs:List A)
 | ml (b off n:Nat)
 | emp
 | sd (tk:Option Nat) (es:List A)
 | gr (t n:Nat)
 | hl (z:A)
 | pen (t:Nat) (es:List A) (sz:Nat)
 | rm (t n sz:Nat)
 | mg (b n cap:Nat)
instance : Inhabited A := ⟨.nilp⟩
def A.cells:A->List A
 | .agg cs=>cs
 | a=>[a]
def A.one:A->Bool
 | .agg _|.tuple _=>false
 | _=>true
structure Gh where
 pi:Nat->Option (List Value)
 eta:Nat->Nat->Option Value
 beta:Nat->Option Nat
 env:Os × Array (Nat × ByteArray)
structure Gh.le (g g':Gh):Prop where
 pi:∀b pre,g.pi b=some pre->∃ext,g'.pi b=some (pre++ext)
 eta:∀t n v,g.eta t n=some v->g'.eta t n=some v
 beta:∀b k,g.beta b=some k->g'.beta b=some k
 env:g'.env=g.env
structure Gh.les (g g':Gh):Prop where
 le:g.le g'
 eta:g'.eta=g.eta
 beta:g'.beta=g.beta
theorem gR(g:Gh):g.le g:=⟨λ_ pre h=>⟨[],by simpa using h⟩,λ_ _ _ h=>h,λ_ _ h=>h,rfl⟩
theorem Gh.les.refl(g:Gh):g.les g:=⟨gR g,rfl,rfl⟩
theorem Gh.le.trans{a b c:Gh}(h:a.le b)(h':b.le c):a.le c :=
 ⟨fun k pre hk => by
  obtain⟨x,hx⟩:=h.pi k pre hk;obtain⟨y,hy⟩:=h'.pi k _ hx;exact⟨x++y,by simpa using hy⟩,λt n v hk=>h'.eta _ _ _ (h.eta _ _ _ hk),λb k hk=>h'.beta _ _ (h.beta _ _ hk),h'.env.trans h.env⟩
theorem Gh.les.trans{a b c:Gh}(h:a.les b)(h':b.les c):a.les c:=⟨h.le.trans h'.le,h'.eta.trans h.eta,h'.beta.trans h.beta⟩
inductive Rz (g:Gh):A->Value->Prop
 | int (k:IntKind) (n:Int):Rz g (.int k n) (.int k n)
 | bool (b:Bool):Rz g (.bool b) (.bool b)
 | str (s:List UInt8):Rz g (.str s) (.string ⟨s.toArray⟩)
 | ptr (b o k:Nat) (hb:g.beta b=some k):Rz g (.ptr b o) (.pointer (some ⟨k,o,none⟩))
 | emp (a:Addr):Rz g .emp (.slice (some a) 0 0)
 | sd (tk:Option Nat) (es:List A) (a:Addr) (cap:Nat) (hc:cap≠0) (h:Rz g (.list tk es) (.slice (some a) es.length cap)):Rz g (.sd tk es) (.pointer (some a))
 | gr (t n k cap:Nat) (h:g.eta t 0=some (.slice (some ⟨k,0,none⟩) 0 cap)) (hn:n<=cap) (hm:cap<=maxLen):Rz g (.gr t n) (.slice (some ⟨k,0,none⟩) n cap)
 | hl (z:A) (a:Addr) (cap:Nat) (h:Rz g (.list none [z]) (.slice (some a) 1 cap)):Rz g (.hl z) (.slice (some a) 1 cap)
 | pen (t:Nat) (es:List A) (sz b cap:Nat) (h:Rz g (.list (some t) es) (.slice (some ⟨b,0,none⟩) es.length cap)) (hc:es.length+1<=cap) (hs:∀y,y∈es->y.cells.length=sz) :
   Rz g (.pen t es sz) (.slice (some ⟨b,0,none⟩) (es.length+1) cap)
 | rm (t n sz b cap:Nat) (h:g.eta t n=some (.slice (some ⟨b,0,none⟩) n cap)) (hc:n+1<=cap):Rz g (.rm t n sz) (.pointer (some ⟨b,n * sz,none⟩))
 | ml (b off n cap k:Nat) (hb:g.beta b=some k) (hc:n<=cap) (hm:cap<=maxLen):Rz g (.ml b off n) (.slice (some ⟨k,off,none⟩) n cap)
 | mg (b n cap k:Nat) (hb:g.beta b=some k) (hc:n<=cap) (hm:cap<=maxLen):Rz g (.mg b n cap) (.slice (some ⟨k,0,none⟩) n cap)
 | eptr (cs:List A) (o b off:Nat) (pre:List Value) (hp:g.pi b=some pre) (hl:off+cs.length<=pre.length)
   (h1:∀c,c∈cs->c.one=true)
   (h:∀(j:Nat) (c:A) (v:Value),cs[j]?=some c->pre[off+j]?=some v->Rz g c v) :
   Rz g (.eptr cs o) (.pointer (some ⟨b,off+o,none⟩))
 | nilp:Rz g .nilp (.pointer none)
 | nils:Rz g .nils (.slice none 0 0)
 | list (tk:Option Nat) (es:List A) (b off sz cap:Nat) (pre:List Value) (hp:g.pi b=some pre)
   (hl:off+es.length * sz<=pre.length)(hc:es.length<=cap)(hm:cap<=maxLen)
   (hs:∀e,e∈es->e.cells.length=sz)(h1:∀e,e∈es->∀c,c∈e.cells->c.one=true)
   (h:∀(i:Nat) (e:A) (j:Nat) (c:A) (v:Value),es[i]?=some e->e.cells[j]?=some c->pre[off+i * sz+j]?=some v->Rz g c v)
   (ht:∀t,tk=some t->g.eta t es.length=some (.slice (some ⟨b,off,none⟩) es.length cap)) :
   Rz g (.list tk es) (.slice (some ⟨b,off,none⟩) es.length cap)
 | list0 (tk:Option Nat) (a:Option Addr) (cap:Nat) (hm:cap<=maxLen) (ht:∀t,tk=some t->g.eta t 0=some (.slice a 0 cap)) :
   Rz g (.list tk []) (.slice a 0 cap)
 | agg (cs:List A) (vs:List Value) (hl:vs.length=cs.length) (h1:∀c,c∈cs->c.one=true)
   (h:∀(j:Nat) (c:A) (v:Value),cs[j]?=some c->vs[j]?=some v->Rz g c v):Rz g (.agg cs) (.agg vs.toArray)
 | fn (f:FuncId) (fs cs:List A) (us vs:List Value) (hlf:us.length=fs.length) (hlc:vs.length=cs.length)
   (hf:∀(j:Nat) (c:A) (v:Value),fs[j]?=some c->us[j]?=some v->Rz g c v)
   (hc:∀(j:Nat) (c:A) (v:Value),cs[j]?=some c->vs[j]?=some v->Rz g c v) :
   Rz g (.fn f fs cs) (.func (.func f) us.toArray vs.toArray)
 | nilf:Rz g .nilf .nilFunc
 | iface (t:TypeId) (a:A) (v:Value) (h:Rz g a v):Rz g (.iface t a) (.iface t v)
 | nili:Rz g .nili .nilIface
 | tuple (cs:List A) (vs:List Value) (hl:vs.length=cs.length)
   (h:∀(j:Nat) (c:A) (v:Value),cs[j]?=some c->vs[j]?=some v->Rz g c v):Rz g (.tuple cs) (.tuple vs.toArray)
theorem aFN{α:Type}{l ext:List α}{i:Nat}{v:α}(hi:i<l.length)(h:(l++ext)[i]?=some v):l[i]?=some v:=by
 rwa[kC hi]at h
theorem Rz.mono{g g':Gh}(hg:g.le g'){a:A}{v:Value}(h:Rz g a v):Rz g' a v:=by
 induction h with
 | int k n=>exact .int k n
 | bool b=>exact .bool b
 | str s=>exact .str s
 | ptr b o k hb=>exact .ptr b o k (hg.beta _ _ hb)
 | ml b off n cap k hb hc hm=>exact .ml b off n cap k (hg.beta _ _ hb) hc hm
 | mg b n cap k hb hc hm=>exact .mg b n cap k (hg.beta _ _ hb) hc hm
 | emp a=>exact .emp a
 | sd tk es a cap hc _ ih=>exact .sd tk es a cap hc ih
 | gr t n k cap h hn hm=>exact .gr t n k cap (hg.eta _ _ _ h) hn hm
 | hl z a cap _ ih=>exact .hl z a cap ih
 | pen t es sz b cap _ hc hs ih=>exact .pen t es sz b cap ih hc hs
 | rm t n sz b cap h hc=>exact .rm t n sz b cap (hg.eta _ _ _ h) hc
 | eptr cs o b off pre hp hl h1 _ ih =>
  obtain⟨ext,hx⟩:=hg.pi b pre hp;refine .eptr cs o b off _ hx (by simp;omega) h1 λj c v hc hv=>?_
  have hj:j<cs.length:=(dV.1 hc).1;exact ih j c v hc (aFN aB hv)
 | nilp=>exact .nilp
 | nils=>exact .nils
 | list tk es b off sz cap pre hp hl hc hm hs h1 _ ht ih =>
  obtain⟨ext,hx⟩:=hg.pi b pre hp;refine .list tk es b off sz cap _ hx (by simp;omega) hc hm hs h1 (λi e j c v he hcc hv=>?_) (λt h=>hg.eta _ _ _ (ht t h));have hi:i<es.length:=(dV.1 he).1;have hj:j<e.cells.length:=(dV.1 hcc).1;have:=hs e (cM he)
  have hb:i * sz+j<es.length * sz:=by
   have:(i+1) * sz<=es.length * sz:=oU _ hi;rw[gW]at this;omega
  exact ih i e j c v he hcc (aFN aB hv)
 | list0 tk a cap hm ht=>exact .list0 tk a cap hm (λt h=>hg.eta _ _ _ (ht t h))
 | agg cs vs hl h1 _ ih=>exact .agg cs vs hl h1 λj c v hc hv=>ih j c v hc hv
 | fn f fs cs us vs hlf hlc _ _ ihf ihc=>exact .fn f fs cs us vs hlf hlc (λj c v hc hv=>ihf j c v hc hv) (λj c v hc hv=>ihc j c v hc hv)
 | nilf=>exact .nilf
 | iface t a v _ ih=>exact .iface t a v ih
 | nili=>exact .nili
 | tuple cs vs hl _ ih=>exact .tuple cs vs hl λj c v hc hv=>ih j c v hc hv
def Rzs(g:Gh)(cs:List A)(vs:List Value):Prop :=
 vs.length=cs.length/\∀(j:Nat) (c:A) (v:Value),cs[j]?=some c->vs[j]?=some v->Rz g c v
theorem Rzs.mono{g g':Gh}(hg:g.le g'){cs:List A}{vs:List Value}(h:Rzs g cs vs):Rzs g' cs vs :=
 ⟨h.1,λj c v hc hv=>(h.2 j c v hc hv).mono hg⟩
theorem Rzs.nil(g:Gh):Rzs g [] []:=⟨rfl,λj c v h=>by simp at h⟩
theorem Rzs.cons{g:Gh}{c:A}{v:Value}{cs:List A}{vs:List Value}(h:Rz g c v)(hs:Rzs g cs vs):Rzs g (c::cs) (v::vs) :=
 ⟨by simp [hs.1],fun j => by
  cases j with
  | zero=>intro x y hx hy;simp at hx hy;subst hx;subst hy;exact h
  | succ j=>intro x y hx hy;exact hs.2 j x y (by simpa using hx) (by simpa using hy)⟩
theorem Rzs.get{g:Gh}{cs:List A}{vs:List Value}(h:Rzs g cs vs){j:Nat}{c:A}(hc:cs[j]?=some c):∃v,vs[j]?=some v/\Rz g c v:=by
 have hj:j<cs.length:=(dV.1 hc).1;have hv:j<vs.length:=by rw[h.1];exact hj
 exact⟨vs[j],aY hv,h.2 j c _ hc (aY hv)⟩
theorem Rzs.append{g:Gh}{cs ds:List A}{vs us:List Value}(h:Rzs g cs vs)(h':Rzs g ds us):Rzs g (cs++ds) (vs++us):=by
 refine⟨by simp[h.1,h'.1],λj c v hc hv=>?_⟩;by_cases hj:j<cs.length
 .rw[kC hj]at hc;rw[kC (by rw[h.1];exact hj)]at hv;exact h.2 j c v hc hv
 .rw[oT aB]at hc;rw[oT (by rw[h.1];omega),h.1]at hv;exact h'.2 _ c v hc hv
theorem Rzs.set{g:Gh}{cs:List A}{vs:List Value}(h:Rzs g cs vs){o:Nat}{c:A}{v:Value}(hv:Rz g c v):Rzs g (cs.set o c) (vs.set o v):=by
 refine⟨by simp[h.1],λj x y hx hy=>?_⟩;by_cases hj:o=j
 .subst hj;rw[tG]at hx hy;simp only[↓reduceIte]at hx hy;split at hx<;>split at hy<;>simp_all
 .rw[List.getElem?_set_ne hj]at hx hy;exact h.2 j x y hx hy
theorem Rzs.take{g:Gh}{cs:List A}{vs:List Value}(h:Rzs g cs vs)(n:Nat):Rzs g (cs.take n) (vs.take n):=by
 refine⟨by simp[h.1],λj c v hc hv=>?_⟩;rw[nK]at hc hv;split at hc
 .rename_i hj;rw[if_pos hj]at hv;exact h.2 j c v hc hv
 .simp at hc
theorem Rzs.drop{g:Gh}{cs:List A}{vs:List Value}(h:Rzs g cs vs)(n:Nat):Rzs g (cs.drop n) (vs.drop n):=by
 refine⟨by simp[h.1],λj c v hc hv=>?_⟩;rw[oW]at hc hv;exact h.2 _ c v hc hv
theorem Rz.cells{g:Gh}{a:A}{v:Value}(h:Rz g a v):Rzs g a.cells v.cells.toList:=by
 cases h with
 | agg cs vs hl h1 h=>exact⟨by simpa [A.cells,Value.cells]using hl,by simpa [A.cells,Value.cells]using h⟩
 | int k n=>exact .cons (.int k n) (.nil g)
 | bool b=>exact .cons (.bool b) (.nil g)
 | str s=>exact .cons (.str s) (.nil g)
 | ptr b o k hb=>exact .cons (.ptr b o k hb) (.nil g)
 | ml b off n cap k hb hc hm=>exact .cons (.ml b off n cap k hb hc hm) (.nil g)
 | mg b n cap k hb hc hm=>exact .cons (.mg b n cap k hb hc hm) (.nil g)
 | emp a=>exact .cons (.emp a) (.nil g)
 | sd tk es a cap hc h=>exact .cons (.sd tk es a cap hc h) (.nil g)
 | gr t n k cap h hn hm=>exact .cons (.gr t n k cap h hn hm) (.nil g)
 | hl z a cap h=>exact .cons (.hl z a cap h) (.nil g)
 | pen t es sz b cap h hc hs=>exact .cons (.pen t es sz b cap h hc hs) (.nil g)
 | rm t n sz b cap h hc=>exact .cons (.rm t n sz b cap h hc) (.nil g)
 | eptr cs o b off pre hp hl h1 h=>exact .cons (.eptr cs o b off pre hp hl h1 h) (.nil g)
 | nilp=>exact .cons .nilp (.nil g)
 | nils=>exact .cons .nils (.nil g)
 | list tk es b off sz cap pre hp hl hc hm hs h1 h ht=>exact .cons (.list tk es b off sz cap pre hp hl hc hm hs h1 h ht) (.nil g)
 | list0 tk a cap hm ht=>exact .cons (.list0 tk a cap hm ht) (.nil g)
 | fn f fs cs us vs hlf hlc hf hc=>exact .cons (.fn f fs cs us vs hlf hlc hf hc) (.nil g)
 | nilf=>exact .cons .nilf (.nil g)
 | iface t a v h=>exact .cons (.iface t a v h) (.nil g)
 | nili=>exact .cons .nili (.nil g)
 | tuple cs vs hl h=>exact .cons (.tuple cs vs hl h) (.nil g)
theorem Rz.one{g:Gh}{a:A}{v:Value}(h:Rz g a v)(h1:a.one=true):v.oneCell'=true:=by
 cases h<;>simp_all [A.one,Value.oneCell']
theorem Rzs.one{g:Gh}{cs:List A}{vs:List Value}(h:Rzs g cs vs)(h1:∀c,c∈cs->c.one=true):∀v,v∈vs->v.oneCell'=true:=by
 intro v hv;obtain⟨j,hj,rfl⟩:=kN hv;have hc:j<cs.length:=by rw[<-h.1];exact hj
 exact(h.2 j cs[j] vs[j] (aY hc) (aY hj)).one (h1 _ (lN hc))
theorem Rz.forget{g:Gh}{tk:Option Nat}{es:List A}{v:Value}(h:Rz g (.list tk es) v):Rz g (.list none es) v:=by
 cases h with
 | list tk es b off sz cap pre hp hl hc hm hs h1 h ht=>exact .list none es b off sz cap pre hp hl hc hm hs h1 h bD
 | list0 tk a cap hm ht=>exact .list0 none a cap hm bD
inductive Ob where
 | cells (e:TypeId) (cs:List A)
 | iter (s:List UInt8) (pos:Nat)
structure St where
 ob:Nat->Option Ob
 ov:List (Nat × Ob)
 tk:Nat->Option (Nat × TypeId)
 tv:List (Nat × (Nat × TypeId))
 lim:Nat
 ls:Option (Nat × Nat × A)
def pT{α:Type}:List (Nat × α)->(Nat->Option α)->Nat->Option α
 | [],σ,p=>σ p
 | (q,c)::L,σ,p=>if q=p then some c else pT L σ p
def oC{α:Type}:Nat->α->List (Nat × α)->List (Nat × α)
 | p,c,[]=>[(p,c)]
 | p,c,(q,d)::L=>if q=p then(q,c)::L else(q,d)::oC p c L
theorem aA1{α:Type}(p:Nat)(c:α)(σ:Nat->Option α)(q:Nat):∀L,pT (oC p c L) σ q=if p=q then some c else pT L σ q
 | []=>by simp[oC,pT]
 | (k,d) :: L => by
  unfold oC;by_cases h:k=p
  .subst h;simp only[↓reduceIte,pT];split<;>simp_all
  .simp only[h,↓reduceIte,pT,aA1 p c σ q L];by_cases hk:k=q
   .subst hk;have:¬ p=k:=λe=>h e.symm
    simp[this]
   .simp[hk]
def St.getO(s:St)(b:Nat):Option Ob:=pT s.ov s.ob b
def St.setO(s:St)(b:Nat)(o:Ob):St:={ s with ov:=oC b o s.ov }
def St.newO(s:St)(o:Ob):St:={ s with ov:=oC s.lim o s.ov,lim:=s.lim+1 }
def St.newT(s:St)(n:Nat × TypeId):St:={ s with tv:=oC s.lim n s.tv,lim:=s.lim+1 }
def St.getT(s:St)(t:Nat):Option (Nat × TypeId):=pT s.tv s.tk t
def St.setT(s:St)(t:Nat)(n:Nat × TypeId):St:={ s with tv:=oC t n s.tv }
def St.setL(s:St)(x:Option (Nat × Nat × A)):St:={ s with ls:=x }
def yN{α:Type}:Nat->List (Nat × α)->List (Nat × α)
 | _,[]=>[]
 | p,(q,d)::L=>if q=p then yN p L else(q,d)::yN p L
theorem aFD{α:Type}(p:Nat)(σ:Nat->Option α)(q:Nat):∀L,pT (yN p L) (λu=>if u=p then none else σ u) q=if q=p then none else pT L σ q
 | []=>by simp[yN,pT]
 | (k,d) :: L => by
  have ih:=aFD p σ q L;unfold yN;by_cases h:k=p
  .subst h;simp only[↓reduceIte,ih,pT];by_cases hq:q=k
   .subst hq;simp
   .have:¬ k=q:=λe=>hq e.symm
    simp[hq,this]
  .simp only[h,↓reduceIte,pT,ih];by_cases hk:k=q
   .subst hk;simp[h]
   .simp[hk]
def St.delT(s:St)(t:Nat):St:={ s with tk:=λu=>if u=t then none else s.tk u,tv:=yN t s.tv }
theorem rB(s:St)(t u:Nat):(s.delT t).getT u=if u=t then none else s.getT u:=aFD t s.tk u s.tv
theorem aJ(s:St)(b:Nat)(o:Ob)(q:Nat):(s.setO b o).getO q=if b=q then some o else s.getO q:=aA1 b o s.ob q s.ov
theorem St.getT_setO(s:St)(b:Nat)(o:Ob)(q:Nat):(s.setO b o).getT q=s.getT q:=rfl
theorem dE(s:St)(b:Nat)(o:Nat × TypeId)(q:Nat):(s.setT b o).getT q=if b=q then some o else s.getT q:=aA1 b o s.tk q s.tv
theorem aHh(s:St)(o:Ob)(q:Nat):(s.newO o).getO q=if s.lim=q then some o else s.getO q:=aA1 s.lim o s.ob q s.ov
theorem aEz(s:St)(o:Nat × TypeId)(q:Nat):(s.newT o).getT q=if s.lim=q then some o else s.getT q:=aA1 s.lim o s.tk q s.tv
theorem eD(s:St)(x:Option (Nat × Nat × A))(q:Nat):(s.setL x).getO q=s.getO q:=rfl
theorem wM(s:St)(x:Option (Nat × Nat × A))(q:Nat):(s.setL x).getT q=s.getT q:=rfl
theorem kB(s:St)(b:Nat)(o:Nat × TypeId)(q:Nat):(s.setT b o).getO q=s.getO q:=rfl
structure St.ge (s s':St):Prop where
 ob:∀b o,s'.getO b=some o->s.getO b=some o
 tk:∀t n,s'.getT t=some n->s.getT t=some n
 ls:∀x,s'.ls=some x->s.ls=some x
theorem aM(s:St):s.ge s:=⟨λ_ _ h=>h,λ_ _ h=>h,λ_ h=>h⟩
theorem St.ge.trans{a b c:St}(h:a.ge b)(h':b.ge c):a.ge c:=⟨λ_ _ x=>h.ob _ _ (h'.ob _ _ x),λ_ _ x=>h.tk _ _ (h'.tk _ _ x),λ_ x=>h.ls _ (h'.ls _ x)⟩
structure Ctx where
 P:Program
 det:Bool
 gl:Nat->Option (List A)
def Ctx.sz(C:Ctx)(t:TypeId):Nat:=((C.P.info? t).map (·.size)).getD 0
def ObRz(g:Gh):Ob->Option Obj->Prop
 | .cells e cs,x=>∃vs rest,x=some (.cells (vs++rest).toArray e)/\Rzs g cs vs/\∀c,c∈cs->c.one=true
 | .iter s pos,x=>x=some (.stringIter ⟨s.toArray⟩ pos)
theorem ObRz.mono{g g':Gh}(hg:g.le g'){o:Ob}{x:Option Obj}(h:ObRz g o x):ObRz g' o x:=by
 cases o with
 | cells e cs=>obtain⟨vs,rest,h1,h2,h3⟩:=h;exact⟨vs,rest,h1,h2.mono hg,h3⟩
 | iter s pos=>exact h
abbrev Fr:=Nat->Option (Obj × Option (List Value))
def Gh.ends(g:Gh)(t n:Nat)(x:A):Prop:=∃b cap pre,g.eta t (n+1)=some (.slice (some ⟨b,0,none⟩) (n+1) cap)/\g.eta t n=some (.slice (some ⟨b,0,none⟩) n cap) /\
 n+1<=cap/\cap<=maxLen/\g.pi b=some pre/\(n+1) * x.cells.length<=pre.length/\(∀c,c∈x.cells->c.one=true) /\
 ∀(j:Nat) (c:A) (v:Value),x.cells[j]?=some c->pre[n * x.cells.length+j]?=some v->Rz g c v
theorem Gh.ends.mono{g g':Gh}(hg:g.le g'){t n:Nat}{x:A}(h:g.ends t n x):g'.ends t n x:=by
 obtain⟨b,cap,pre,h1,h2,h3,h4,h5,h6,h7,h8⟩:=h;obtain⟨ext,hx⟩:=hg.pi b pre h5;refine⟨b,cap,_,hg.eta _ _ _ h1,hg.eta _ _ _ h2,h3,h4,hx,by simp;omega,h7,λj c v hc hv=>(h8 j c v hc (aFN ?_ hv)).mono hg⟩;have:=(dV.1 hc).1;rw[gW]at h6;omega
structure R (C:Ctx) (F:Fr) (g:Gh) (s:St) (w:World):Prop where
 obj:∀b o,s.getO b=some o->∃k,g.beta b=some k/\ObRz g o w.heap[k]?/\g.pi k=none/\F k=none
 tok:∀t n e,s.getT t=some (n,e)->∃v xs,g.eta t n=some v/\w.ownsRow 0 e (C.sz e) v n xs/\(∀m x,g.eta t m=some x->m<=n) /\
  ∀b,v.ownBlock=some b->g.pi b=some xs/\F b=none
 sep:∀t t' n n' v v' b,t≠t'->s.getT t=some n->s.getT t'=some n'->g.eta t n.1=some v->g.eta t' n'.1=some v' ->
  v.ownBlock=some b->v'.ownBlock=some b->False
 pis:∀b pre,g.pi b=some pre->∃rest e fr,w.heap[b]?=some (.cells (pre++rest).toArray e fr)
 frm:∀b o,F b=some o->w.heap[b]?=some o.1/\g.pi b=o.2
 glb:∀b cs,C.gl b=some cs->∃pre ty fr,F b=some (.cells pre.toArray ty fr,some pre)/\pre.length=cs.length/\(∀c,c∈cs->c.one=true) /\
  ∀(j:Nat) (c:A) (v:Value),cs[j]?=some c->pre[j]?=some v->Rz g c v
 fsh:∃N,∀t,N<=t->s.getT t=none/\(∀m,g.eta t m=none)/\g.beta t=none
 bet:∀b k,g.beta b=some k->k<w.heap.size
 inj:∀b b' k,g.beta b=some k->g.beta b'=some k->b=b'
 dtm:C.det=true->∀b,s.lim<=b->g.beta b=none/\∀m,g.eta b m=none
 lst:∀x,s.ls=some x->g.ends x.1 x.2.1 x.2.2
 bfr:∀b k,g.beta b=some k->F k=none
 env:(w.os,w.output)=g.env
section
variable {C:Ctx} {F:Fr} {g:Gh} {s:St} {w:World}
theorem R.weaken(h:R C F g s w){s':St}(hs:s.ge s')(hl:C.det=true->s.lim<=s'.lim):R C F g s' w where
 env:=h.env
 obj:=λb o ho=>h.obj b o (hs.ob b o ho)
 tok:=λt n e ht=>h.tok t n e (hs.tk t _ ht)
 sep:=λt t' n n' v v' b hne ht ht'=>h.sep t t' n n' v v' b hne (hs.tk t n ht) (hs.tk t' n' ht')
 pis:=h.pis
 frm:=h.frm
 glb:=h.glb
 fsh:=by
  obtain⟨N,hN⟩:=h.fsh;refine⟨N,λt ht=>⟨?_,(hN t ht).2⟩⟩;cases he:s'.getT t with
  | none=>rfl
  | some n=>have:=hs.tk t n he;rw[(hN t ht).1]at this;cases this
 bet:=h.bet
 inj:=h.inj
 dtm:=λhd b hb=>h.dtm hd b (nM (hl hd) hb)
 lst:=λx hx=>h.lst x (hs.ls x hx)
 bfr:=h.bfr
theorem R.setL(h:R C F g s w){x:Option (Nat × Nat × A)}(hx:∀y,x=some y->g.ends y.1 y.2.1 y.2.2):R C F g (s.setL x) w where
 env:=h.env
 obj:=h.obj
 tok:=h.tok
 sep:=h.sep
 pis:=h.pis
 frm:=h.frm
 glb:=h.glb
 fsh:=h.fsh
 bet:=h.bet
 inj:=h.inj
 dtm:=h.dtm
 lst:=hx
 bfr:=h.bfr
theorem R.heap(h:R C F g s w){w':World}(hw:w'.heap=w.heap)(he:(w'.os,w'.output)=(w.os,w.output):=by rfl):R C F g s w' where
 env:=he.trans h.env
 obj:=by rw[hw];exact h.obj
 tok:=by
  intro t n e ht;obtain⟨v,xs,h1,h2,h3,h4⟩:=h.tok t n e ht;refine⟨v,xs,h1,?_,h3,h4⟩;simpa [World.ownsRow,hw]using h2
 sep:=h.sep
 pis:=by rw[hw];exact h.pis
 frm:=by rw[hw];exact h.frm
 glb:=h.glb
 fsh:=h.fsh
 bet:=by rw[hw];exact h.bet
 inj:=h.inj
 dtm:=h.dtm
 lst:=h.lst
 bfr:=h.bfr
theorem R.lt_pi(h:R C F g s w){b:Nat}{pre:List Value}(ho:g.pi b=some pre):b<w.heap.size:=by
 obtain⟨rest,e,fr,hx⟩:=h.pis b pre ho;exact(jA.1 hx).1
theorem R.lt_frm(h:R C F g s w){b:Nat}{o:Obj × Option (List Value)}(ho:F b=some o):b<w.heap.size :=
 (jA.1 (h.frm b o ho).1).1
theorem R.gpi(h:R C F g s w){b:Nat}{cs:List A}(hb:C.gl b=some cs):∃pre ty fr,w.heap[b]?=some (.cells pre.toArray ty fr)/\g.pi b=some pre/\pre.length=cs.length/\(∀c,c∈cs->c.one=true) /\
  ∀(j:Nat) (c:A) (v:Value),cs[j]?=some c->pre[j]?=some v->Rz g c v:=by
 obtain⟨pre,ty,fr,h1,h2,h3,h4⟩:=h.glb b cs hb;obtain⟨h5,h6⟩:=h.frm b _ h1;exact⟨pre,ty,fr,h5,h6,h2,h3,h4⟩
theorem aN9{w w':World}(hk:∀b,b<w.heap.size->w'.heap[b]?=w.heap[b]?){k:Nat}(h:k<w.heap.size):k<w'.heap.size:=by
 have h1:=hk k h;rw[aAI h]at h1;exact(jA.1 h1).1
theorem R.keep(h:R C F g s w){w':World}(hk:∀b,b<w.heap.size->w'.heap[b]?=w.heap[b]?)(he:(w'.os,w'.output)=(w.os,w.output):=by rfl):R C F g s w' where
 env:=he.trans h.env
 obj:=λb o ho=>by
  obtain⟨k,h1,h2⟩:=h.obj b o ho;exact⟨k,h1,by rw[hk k (h.bet b k h1)];exact h2⟩
 tok:=by
  intro t n e ht;obtain⟨v,xs,h1,h2,h3,h4⟩:=h.tok t n e ht;refine⟨v,xs,h1,⟨h2.1,?_⟩,h3,h4⟩;rcases h2.2 with h|⟨b,cap,cur,hv,hb,hh,rest⟩
  .exact .inl h
  .exact .inr ⟨b,cap,cur,hv,hb,by rw[hk b (jA.1 hh).1];exact hh,rest⟩
 sep:=h.sep
 pis:=λb pre hp=>by rw[hk b (h.lt_pi hp)];exact h.pis b pre hp
 frm:=λb o ho=>by rw[hk b (h.lt_frm ho)];exact h.frm b o ho
 glb:=h.glb
 fsh:=h.fsh
 bet:=λb k hb=>aN9 hk (h.bet b k hb)
 inj:=h.inj
 dtm:=h.dtm
 lst:=h.lst
 bfr:=h.bfr
end
end
section
section
variable {C:Ctx} {F:Fr} {g:Gh} {s:St} {w:World}
theorem wL(w:World)(o:Obj):(w.alloc o).heap[w.heap.size]?=some o:=by
 show(w.heap.push o)[w.heap.size]?=some o;simp
theorem uT(w:World)(o:Obj){b:Nat}(h:b<w.heap.size):(w.alloc o).heap[b]?=w.heap[b]?:=by
 show(w.heap.push o)[b]?=w.heap[b]?;rw[Array.getElem?_push];have:b≠w.heap.size:=Nat.ne_of_lt h;simp[this]
theorem R.pi_new(h:R C F g s w):g.pi w.heap.size=none:=by
 cases hp:g.pi w.heap.size with
 | none=>rfl
 | some pre=>exact absurd (h.lt_pi hp) (Nat.lt_irrefl _)
theorem R.frm_new(h:R C F g s w):F w.heap.size=none:=by
 cases hp:F w.heap.size with
 | none=>rfl
 | some pre=>exact absurd (h.lt_frm hp) (Nat.lt_irrefl _)
theorem R.bet_new(h:R C F g s w)(b:Nat):g.beta b≠some w.heap.size:=λhb=>absurd (h.bet b _ hb) (Nat.lt_irrefl _)
def Gh.bx(g:Gh)(b k:Nat):Gh:={ g with beta:=λc=>if c=b then some k else g.beta c }
theorem zO{g:Gh}{b:Nat}(h:g.beta b=none)(k:Nat):g.le (g.bx b k) :=
 ⟨fun c pre hp => ⟨[],by simpa [Gh.bx] using hp⟩,fun _ _ _ h => h,fun c j hc => by
  have:c≠b:=by rintro rfl;rw[h]at hc;cases hc
  simp[Gh.bx,this,hc],rfl⟩
theorem R.free(h:R C F g s w){b:Nat}(hb:g.beta b=none):s.getO b=none:=by
 cases ho:s.getO b with
 | none=>rfl
 | some o=>obtain⟨k,h1,_⟩:=h.obj b o ho;rw[hb]at h1;cases h1
theorem R.freeT(h:R C F g s w){t:Nat}(hb:∀n,g.eta t n=none):s.getT t=none:=by
 cases ho:s.getT t with
 | none=>rfl
 | some o=>obtain⟨n,e⟩:=o;obtain⟨v,xs,h1,_⟩:=h.tok t n e ho;rw[hb]at h1;cases h1
theorem R.newObj(h:R C F g s w){o:Obj}{ob:Ob}(ho:ObRz g ob (some o)){b:Nat}(hb:g.beta b=none){s':St}
  (hO:∀q,s'.getO q=if b=q then some ob else s.getO q)(hT:∀q,s'.getT q=s.getT q)(hL:s'.ls=s.ls)(hl:C.det=true->s.lim<=s'.lim/\b<s'.lim) :
  R C F (g.bx b w.heap.size) s' (w.alloc o):=by
 have hle:=zO hb w.heap.size;have hk:∀k,k<w.heap.size->(w.alloc o).heap[k]?=w.heap[k]?:=λk hk=>uT w o hk
 have h':=h.keep hk;refine⟨λc x hx=>?_,?_,?_,h'.pis,h'.frm,λc cs hc=>?_,?_,?_,?_,λhd c hc=>?_,λx hx=>(h.lst x (by rw[<-hL];exact hx)).mono hle,λc k hc=>?_,h.env⟩
 .rw[hO]at hx;by_cases hbc:b=c
  .subst hbc;simp only[↓reduceIte,bJ]at hx;subst hx;exact⟨w.heap.size,by simp[Gh.bx],by rw[wL];exact ho.mono hle,h.pi_new,h.frm_new⟩
  .simp only[hbc,↓reduceIte]at hx;obtain⟨k,h1,h2,h3⟩:=h'.obj c x hx;exact⟨k,hle.beta _ _ h1,h2.mono hle,h3⟩
 .intro t n e ht;rw[hT]at ht;obtain⟨v,xs,h1,h2,h3,h4⟩:=h'.tok t n e ht;exact⟨v,xs,h1,h2,h3,h4⟩
 .intro t t' n n' v v' c hne ht ht';rw[hT]at ht ht';exact h'.sep t t' n n' v v' c hne ht ht'
 .obtain⟨pre,ty,fr,hp,hl,h1,hr⟩:=h.glb c cs hc;exact⟨pre,ty,fr,hp,hl,h1,λj c v hc hv=>(hr j c v hc hv).mono hle⟩
 .obtain⟨N,hN⟩:=h.fsh;refine⟨max N (b+1),λt ht=>⟨by rw[hT];exact(hN t aB).1,(hN t aB).2.1,?_⟩⟩;have:t≠b:=by omega
  simp[Gh.bx,this,(hN t aB).2.2]
 .intro c k hc;simp only[Gh.bx]at hc;have e:(w.alloc o).heap.size=w.heap.size+1:=by show(w.heap.push o).size=_;simp
  split at hc
  .cases hc;omega
  .have:=h.bet c k hc;omega
 .intro c d k hc hd;simp only[Gh.bx]at hc hd;split at hc<;>split at hd
  .omega
  .cases hc;exact absurd hd (h.bet_new d)
  .cases hd;exact absurd hc (h.bet_new c)
  .exact h.inj c d k hc hd
 .obtain⟨l1,l2⟩:=hl hd;obtain⟨d1,d2⟩:=h.dtm hd c aB;have:c≠b:=by omega
  exact⟨by simp[Gh.bx,this,d1],d2⟩
 .simp only[Gh.bx]at hc;split at hc
  .cases hc;exact h.frm_new
  .exact h.bfr c k hc
theorem R.some_free(h:R C F g s w):∃b,g.beta b=none:=by
 obtain⟨N,hN⟩:=h.fsh;exact⟨N,(hN N (bT _)).2.2⟩
theorem R.setObj(h:R C F g s w){b k:Nat}{o:Ob}(hs:s.getO b=some o)(hbk:g.beta b=some k){ob:Ob}{w':World}
  (hk:∀j,j≠k->w'.heap[j]?=w.heap[j]?)(ho:ObRz g ob w'.heap[k]?)(he:(w'.os,w'.output)=(w.os,w.output):=by rfl):R C F g (s.setO b ob) w':=by
 obtain⟨k',e1,_,hpi,hF⟩:=h.obj b o hs;rw[hbk]at e1;cases e1;refine⟨λc x hx=>?_,?_,h.sep,λc pre hp=>?_,λc x hx=>?_,h.glb,h.fsh,λc j hc=>?_,h.inj,h.dtm,h.lst,h.bfr,he.trans h.env⟩
 .rw[aJ]at hx;by_cases hb:b=c
  .subst hb;simp only[↓reduceIte,bJ]at hx;subst hx;exact⟨k,hbk,ho,hpi,hF⟩
  .simp only[hb,↓reduceIte]at hx;obtain⟨j,h1,h2⟩:=h.obj c x hx;have:j≠k:=by rintro rfl;exact hb (h.inj b c j hbk h1)
   exact⟨j,h1,by rw[hk j this];exact h2⟩
 .intro t n e ht;obtain⟨v,xs,h1,h2,h3,h4⟩:=h.tok t n e ht;refine⟨v,xs,h1,⟨h2.1,?_⟩,h3,h4⟩;rcases h2.2 with hv|⟨j,cap,cur,hv,hb,hh,rest⟩
  .exact .inl hv
  .refine .inr ⟨j,cap,cur,hv,hb,?_,rest⟩
   have:j≠k:=by
    rintro rfl;have:=(h4 j (by rw[hv];rfl)).1;rw[hpi]at this;cases this
   rw[hk j this];exact hh
 .have:c≠k:=by rintro rfl;rw[hpi]at hp;cases hp
  rw[hk c this];exact h.pis c pre hp
 .have:c≠k:=by rintro rfl;rw[hF]at hx;cases hx
  rw[hk c this];exact h.frm c x hx
 .have h1:=h.bet c j hc;by_cases hj:j=k
  .subst hj;cases ob with
   | cells e0 cs=>obtain⟨vs,rest,hx,_⟩:=ho;exact(jA.1 hx).1
   | iter x p=>exact(jA.1 ho).1
  .have h2:=hk j hj;rw[aAI h1]at h2;exact(jA.1 h2).1
def Gh.know(g:Gh)(b:Nat)(vs:List Value):Gh:={ g with pi:=λk=>if k=b then some vs else g.pi k }
theorem aB7{g:Gh}{b:Nat}(h:g.pi b=none)(vs:List Value):g.le (g.know b vs) :=
 ⟨fun k pre hp => ⟨[],by
  have:k≠b:=by rintro rfl;rw[h]at hp;cases hp
  simp[Gh.know,this,hp]⟩,λ_ _ _ h=>h,λ_ _ h=>h,rfl⟩
theorem aNr{g:Gh}{b:Nat}(h:g.pi b=none)(vs:List Value):g.les (g.know b vs):=⟨aB7 h vs,rfl,rfl⟩
theorem R.ghost(h:R C F g s w){g':Gh}(hg:g.le g')
  (hpi:∀b k,g.beta b=some k->g.pi k=none->g'.pi k=none)
  (hpis:∀b pre,g'.pi b=some pre->∃rest e fr,w.heap[b]?=some (.cells (pre++rest).toArray e fr))
  (htok:∀t n e v b xs,s.getT t=some (n,e)->g.eta t n=some v->v.ownBlock=some b->g.pi b=some xs->g'.pi b=some xs)
  (heta:g'.eta=g.eta)(hbeta:g'.beta=g.beta)(hfr:∀b o,F b=some o->g'.pi b=g.pi b):R C F g' s w where
 env:=h.env.trans hg.env.symm
 obj:=λb o ho=>by
  obtain⟨k,h1,h2,h3,h4⟩:=h.obj b o ho;exact⟨k,hg.beta _ _ h1,h2.mono hg,hpi b k h1 h3,h4⟩
 tok:=by
  intro t n e ht;obtain⟨v,xs,h1,h2,h3,h4⟩:=h.tok t n e ht;exact⟨v,xs,by rw[heta];exact h1,h2,by rw[heta];exact h3,λb hb=>⟨htok t n e v b xs ht h1 hb (h4 b hb).1,(h4 b hb).2⟩⟩
 sep:=by rw[heta];exact h.sep
 pis:=hpis
 frm:=λb o ho=>by rw[hfr b o ho];exact h.frm b o ho
 glb:=λb cs hb=>by
  obtain⟨pre,ty,fr,hp,hl,h1,hr⟩:=h.glb b cs hb;exact⟨pre,ty,fr,hp,hl,h1,λj c v hc hv=>(hr j c v hc hv).mono hg⟩
 fsh:=by rw[heta,hbeta];exact h.fsh
 bet:=by rw[hbeta];exact h.bet
 inj:=by rw[hbeta];exact h.inj
 dtm:=by rw[heta,hbeta];exact h.dtm
 lst:=λx hx=>(h.lst x hx).mono hg
 bfr:=by rw[hbeta];exact h.bfr
theorem R.newRow(h:R C F g s w)(vs:List Value)(e:TypeId)(rest:List Value)(fr:Nat × Nat:=(0,0)) :
  R C F (g.know w.heap.size vs) s (w.alloc (.cells (vs++rest).toArray e fr))/\g.les (g.know w.heap.size vs):=by
 have hle:=aB7 h.pi_new vs
 refine⟨(h.keep (w':=w.alloc (.cells (vs++rest).toArray e fr)) (λb hb=>uT w _ hb)).ghost hle ?_ ?_ ?_ rfl rfl (λb o ho=>by
  have:b≠w.heap.size:=Nat.ne_of_lt (h.lt_frm ho);simp only[Gh.know,this,↓reduceIte]),aNr h.pi_new vs⟩
 .intro b k hb hp;have:k≠w.heap.size:=Nat.ne_of_lt (h.bet b k hb);simp only[Gh.know,this,↓reduceIte];exact hp
 .intro b pre hp;by_cases hb:b=w.heap.size
  .subst hb;simp only[Gh.know,↓reduceIte,bJ]at hp;subst hp;exact⟨rest,e,fr,wL w _⟩
  .simp only[Gh.know,hb,↓reduceIte]at hp;rw[uT w _ (h.lt_pi hp)];exact h.pis b pre hp
 .intro t n e v b xs _ _ hb hx;have:b≠w.heap.size:=Nat.ne_of_lt (h.lt_pi hx);simp only[Gh.know,this,↓reduceIte];exact hx
def flat(es:List A):List A:=es.flatMap A.cells
theorem aHw(a b:List A):flat (a++b)=flat a++flat b:=by simp[flat]
theorem wN{es:List A}{sz:Nat}(h:∀e,e∈es->e.cells.length=sz):(flat es).length=es.length * sz:=by
 induction es with
 | nil=>simp[flat]
 | cons e es ih =>
  have:=ih (λx hx=>h x (by simp[hx]));simp only[flat,nL,aG,aE]at *;rw[this,h e bD,gW];omega
theorem aJQ{es:List A}{sz:Nat}(h:∀e,e∈es->e.cells.length=sz){i:Nat}{e:A}(hi:es[i]?=some e){j:Nat}{c:A}
  (hj:e.cells[j]?=some c):(flat es)[i * sz+j]?=some c:=by
 induction es generalizing i with
 | nil=>simp at hi
 | cons x es ih =>
  simp only[flat,nL];cases i with
  | zero =>
   simp only[kM,bJ]at hi;subst hi;have hl:j<x.cells.length:=(dV.1 hj).1;rw[Nat.zero_mul,gI,kC hl,hj]
  | succ i =>
   have hx:=h x bD;have:=ih (λy hy=>h y (by simp[hy])) (i:=i) (by simpa using hi);rw[oT (by rw[hx,gW];omega),hx];have e:(i+1) * sz+j-sz=i * sz+j:=by rw[gW];omega
   rw[e];exact this
theorem wR{g:Gh}{tk:Option Nat}{es:List A}{b sz cap off:Nat}{pre vs:List Value}(hp:g.pi b=some pre)(hoff:pre.drop off=vs)(hv:Rzs g (flat es) (vs.take (es.length * sz)))
  (hs:∀e,e∈es->e.cells.length=sz)(h1:∀e,e∈es->∀c,c∈e.cells->c.one=true)(hc:es.length<=cap)(hm:cap<=maxLen)
  (ho:off<=pre.length)
  (ht:∀t,tk=some t->g.eta t es.length=some (.slice (some ⟨b,off,none⟩) es.length cap)) :
  Rz g (.list tk es) (.slice (some ⟨b,off,none⟩) es.length cap):=by
 have hl:(vs.take (es.length * sz)).length=es.length * sz:=by rw[hv.1,wN hs]
 have hl':es.length * sz<=vs.length:=by rw[bK]at hl;omega
 subst hoff;rw[dR]at hl';refine .list tk es b off sz cap pre hp aB hc hm hs h1 (λi e j c v hi hj hx=>?_) ht
 have hb:i * sz+j<es.length * sz:=by
  have hi':i<es.length:=(dV.1 hi).1;have hj':j<e.cells.length:=(dV.1 hj).1;have:=hs e (cM hi);have:(i+1) * sz<=es.length * sz:=oU _ hi';rw[gW]at this;omega
 refine hv.2 (i * sz+j) c v (aJQ hs hi hj) ?_;rw[nK,if_pos hb,oW,<-oX];exact hx
theorem Rz.list_inv{g:Gh}{tk:Option Nat}{es:List A}{v:Value}(h:Rz g (.list tk es) v) :
  ∃a cap,v=.slice a es.length cap/\cap<=maxLen/\es.length<=cap/\(∀t,tk=some t->g.eta t es.length=some v)/\(es=[]\/∃b off sz pre,a=some ⟨b,off,none⟩/\g.pi b=some pre/\off+es.length * sz<=pre.length /\
   (∀e,e∈es->e.cells.length=sz)/\(∀e,e∈es->∀c,c∈e.cells->c.one=true) /\
   (∀(i:Nat) (e:A) (j:Nat) (c:A) (v:Value),es[i]?=some e->e.cells[j]?=some c->pre[off+i * sz+j]?=some v->Rz g c v)):=by
 cases h with
 | list tk es b off sz cap pre hp hl hc hm hs h1 h ht =>
  exact⟨_,cap,rfl,hm,hc,ht,.inr ⟨b,off,sz,pre,rfl,hp,hl,hs,h1,h⟩⟩
 | list0 tk a cap hm ht=>exact⟨a,cap,rfl,hm,aU _,ht,.inl rfl⟩
theorem Rz.to_flat{g:Gh}{tk:Option Nat}{es:List A}{v:Value}(h:Rz g (.list tk es) v) :
  ∃a cap,v=.slice a es.length cap/\cap<=maxLen/\es.length<=cap/\(es=[]\/∃b off sz pre,a=some ⟨b,off,none⟩/\g.pi b=some pre/\off+es.length * sz<=pre.length /\
   (∀e,e∈es->e.cells.length=sz)/\(∀e,e∈es->∀c,c∈e.cells->c.one=true)/\Rzs g (flat es) ((pre.drop off).take (es.length * sz))):=by
 cases h with
 | list tk es b off sz cap pre hp hl hc hm hs h1 h ht =>
  refine⟨_,cap,rfl,hm,hc,.inr ⟨b,off,sz,pre,rfl,hp,hl,hs,h1,?_,?_⟩⟩
  .rw[wN hs,bK,dR];omega
  .intro k c v hk hv;rw[nK]at hv;split at hv
   .rename_i hlt;rw[oW]at hv
    have key:∀(l:List A) (k:Nat) (c:A),(∀e,e∈l->e.cells.length=sz)->(flat l)[k]?=some c ->
      ∃i e j,l[i]?=some e/\e.cells[j]?=some c/\k=i * sz+j:=by
     intro l
     induction l with
     | nil=>intro k c _ hk;simp[flat]at hk
     | cons x l ih =>
      intro k c hs hk;simp only[flat,nL]at hk;by_cases hx:k<x.cells.length
      .rw[kC hx]at hk;exact⟨0,x,k,by simp,hk,by simp⟩
      .rw[oT aB,hs x bD]at hk;obtain⟨i,e,j,hi,hj,he⟩:=ih _ c (λy hy=>hs y (by simp[hy])) hk;have:=hs x bD;exact⟨i+1,e,j,by simpa using hi,hj,by rw[gW];omega⟩
    obtain⟨i,e,j,hi,hj,he⟩:=key es k c hs hk;refine h i e j c v hi hj ?_;rw[he]at hv;rw[oX];exact hv
   .simp at hv
 | list0 tk a cap hm ht=>exact⟨a,cap,rfl,hm,aU _,.inl rfl⟩
end
end
abbrev Env:=List (Nat × A)
def Env.get:Env->Nat->Option A
 | [],_=>none
 | (k,v)::e,t=>if k=t then some v else Env.get e t
def Env.put:Env->Nat->A->Env
 | [],t,v=>[(t,v)]
 | (k,u)::e,t,v=>if k=t then(t,v)::e else(k,u)::Env.put e t v
def Env.del:Env->Nat->Env
 | [],_=>[]
 | (k,u)::e,t=>if k=t then Env.del e t else(k,u)::Env.del e t
def Env.keep(V:List Nat):Env->Env
 | []=>[]
 | (k,u)::e=>if V.elem k then(k,u)::Env.keep V e else Env.keep V e
theorem mS(e:Env)(t:Nat)(v:A)(u:Nat):(e.put t v).get u=if t=u then some v else e.get u:=by
 induction e with
 | nil=>simp[Env.put,Env.get]
 | cons x e ih =>
  obtain⟨k,w⟩:=x;simp only[Env.put];by_cases h:k=t
  .subst h;simp only[↓reduceIte,Env.get];split<;>simp_all
  .simp only[h,↓reduceIte,Env.get,ih];by_cases hk:k=u
   .subst hk;have:¬ t=k:=λe=>h e.symm
    simp[this]
   .simp[hk]
theorem aHq(e:Env)(t u:Nat):(e.del t).get u=if t=u then none else e.get u:=by
 induction e with
 | nil=>simp[Env.del,Env.get]
 | cons x e ih =>
  obtain⟨k,w⟩:=x;simp only[Env.del];by_cases h:k=t
  .subst h;simp only[↓reduceIte,ih,Env.get];split<;>simp_all
  .simp only[h,↓reduceIte,Env.get,ih];by_cases hk:k=u
   .subst hk;have:¬ t=k:=λe=>h e.symm
    simp[this]
   .simp[hk]
theorem aM2(V:List Nat)(e:Env)(u:Nat)(a:A)(h:(e.keep V).get u=some a):e.get u=some a:=by
 induction e with
 | nil=>simp[Env.keep,Env.get]at h
 | cons x e ih =>
  obtain⟨k,w⟩:=x;simp only[Env.keep]at h;simp only[Env.get];by_cases hk:k=u
  .subst hk;simp only[↓reduceIte];split at h
   .simpa [Env.get]using h
   .rename_i hv
    have:∀e:Env,(Env.keep V e).get k=none:=by
     intro e
     induction e with
     | nil=>rfl
     | cons y e ih' =>
      obtain⟨j,z⟩:=y;simp only[Env.keep];split
      .rename_i hj;have:¬ j=k:=by rintro rfl;exact hv hj
       simp[Env.get,this,ih']
      .exact ih'
    rw[this]at h;cases h
  .simp only[hk,↓reduceIte];split at h
   .simp only[Env.get,hk,↓reduceIte]at h;exact ih h
   .exact ih h
inductive TK where
 | int (k:IntKind)|bool|string
 | slice (e:TypeId)|array (n:Nat) (e:TypeId)|struct (fs:List (Nat × Nat × Bool))
 | iface|other
structure TI where
 k:TK
 sz:Nat
 bytes:Nat
 zero:List A
def TK.agg:TK->Bool
 | .array ..|.struct _=>true
 | _=>false
def yJ:Option TypeDesc->Bool
 | some (.struct _)|some (.array _ _)=>true
 | _=>false
def TK.ok(P:Program)(k:TK)(d:TypeDesc):Prop :=
 match k with
 | .int k=>d=.int k
 | .bool=>d=.bool
 | .string=>d=.string
 | .slice e=>d=.slice e
 | .array n e=>d=.array n e
 | .struct fs=>∃fields,d=.struct fields/\fields.size=fs.length/\∀(i o s:Nat) (a:Bool),fs[i]?=some (o,s,a) ->
   ∃f,fields[i]?=some f/\f.offset=o/\(P.info? f.type).map (·.size)=some s/\s≠0/\(P.underlying f.type).isSome=true/\yJ (P.underlying f.type)=a
 | .iface=>∃ms,d=.interface ms
 | .other=>yJ (some d)=false/\(∀ms,d≠.interface ms)
structure TI.ok (P:Program) (t:TypeId) (ti:TI):Prop where
 info:∃i z,P.info? t=some i/\i.size=ti.sz/\i.bytes=ti.bytes/\i.zero=some z/\(∀g,Rzs g ti.zero z.cells.toList)
 one:∀c,c∈ti.zero->c.one=true
 len:ti.zero.length=ti.sz
 und:∃d,P.underlying t=some d/\ti.k.ok P d
structure Cx extends Ctx where
 tt:TypeId->Option TI
 htt:∀t ti,tt t=some ti->ti.ok P t
 cv:TypeId->TypeId->Option TypeId
 hcv:∀a b e,cv a b=some e->∀(w:World) (k:Nat) (vs:Array Value),w.heap[k]?=some (.cells vs e)->P.cellsOf e<=vs.size ->
  (convert a b (.pointer (some ⟨k,0,none⟩))).run P w=.ok (.pointer (some ⟨k,0,none⟩)) w
 hcs:∀a b e,cv a b=some e->(tt e).map (·.sz)=some (P.cellsOf e)
 cw:TypeId->Option TypeId:=λ_=>none
 hcw:∀a b e' e,cv a b=some e'->cw e=some e'->∀(w:World) (k:Nat) (vs:Array Value),w.heap[k]?=some (.cells vs e)->P.cellsOf e'<=vs.size ->
  (convert a b (.pointer (some ⟨k,0,none⟩))).run P w=.ok (.pointer (some ⟨k,0,none⟩)) w:=by(intro a b e' e _ h;cases h)
 us:TypeId->Option TypeId
 hus:∀t e,us t=some e->P.underlying t=some (.pointer e)/\P.cellsOf e=1
 mu:Nat:=0
 eq:TypeId->A->A->Option Bool
 heq:∀t a b r,eq t a b=some r->∀(g:Gh) (va vb:Value) (w:World) (op:BinOp) (x y:Operand),(op=.eql\/op=.neq)->Rz g a va->Rz g b vb ->
  (eqGuard op t x y va vb).run P w=.ok () w/\(binOp op t va vb).run P w=.ok (.bool (if op=.eql then r else !r)) w
 nl:TypeId->Bool:=λ_=>false
 hnl:∀t,nl t=true->∀(a:Option Addr) (n cap:Nat) (w:World) (op:BinOp) (x y:Operand),(op=.eql\/op=.neq)->∃r:Bool,
  (eqGuard op t x y (.slice a n cap) (.slice none 0 0)).run P w=.ok () w/\(binOp op t (.slice a n cap) (.slice none 0 0)).run P w=.ok (.bool (if op=.eql then r else !r)) w:=by(intro t h;cases h)
def aBe:Value->Option A
 | .int k n=>some (.int k n)
 | .bool b=>some (.bool b)
 | .string s=>some (.str s.data.toList)
 | .pointer none=>some .nilp
 | .slice none 0 0=>some .nils
 | .nilFunc=>some .nilf
 | .nilIface=>some .nili
 | _=>none
def aAf:List Value->Option (List A)
 | []=>some []
 | v::vs=>match aBe v,aAf vs with
  | some a,some az=>some (a::az)
  | _,_=>none
def aDh:Value->Option A
 | .agg cs=>(aAf cs.toList).map .agg
 | .tuple cs=>if cs.size=0 then some (.tuple []) else none
 | v=>aBe v
theorem aHS{g:Gh}{v:Value}{a:A}(h:aBe v=some a):Rz g a v/\a.one=true:=by
 unfold aBe at h;split at h<;>simp at h<;>subst h
 .exact⟨.int _ _,rfl⟩
 .exact⟨.bool _,rfl⟩
 .rename_i s;exact⟨.str s.data.toList,rfl⟩
 .exact⟨.nilp,rfl⟩
 .exact⟨.nils,rfl⟩
 .exact⟨.nilf,rfl⟩
 .exact⟨.nili,rfl⟩
theorem aIk{g:Gh}:∀{vs:List Value} {az:List A},aAf vs=some az->Rzs g az vs/\∀c,c∈az->c.one=true
 | [],az,h=>by simp[aAf]at h;subst h;exact⟨.nil g,by simp⟩
 | v::vs,az,h=>by
  simp only[aAf]at h;split at h
  .rename_i a az' ha has;simp at h;subst h;have h1:=aHS (g:=g) ha;have h2:=aIk (g:=g) has;exact⟨.cons h1.1 h2.1,by intro c hc;cases hc with|head=>exact h1.2|tail _ hc=>exact h2.2 c hc⟩
  .simp at h
theorem aPh{g:Gh}{v:Value}{a:A}(h:aDh v=some a):Rz g a v:=by
 unfold aDh at h;split at h
 .rename_i cs;simp only[qV]at h;obtain⟨az,has,rfl⟩:=h;have:=aIk (g:=g) has;exact .agg az cs.toList this.1.1 this.2 this.1.2
 .rename_i cs;split at h
  .rename_i hc;simp at h;subst h;have:cs=#[]:=Array.eq_empty_of_size_eq_zero hc;subst this;exact .tuple [] [] rfl bD
  .simp at h
 .exact(aHS h).1
def eT(C:Cx)(e:Env):Operand->Option A
 | .tmp t=>e.get t
 | .const v=>aDh v
 | .global g=>match C.gl g with
  | some cs=>some (.eptr cs 0)
  | none=>none
 | .func f=>some (.fn f [] [])
def sO(C:Cx)(t:TypeId)(cs:List A)(o:Nat):Option A :=
 match C.tt t with
 | some ti=>if ti.k.agg=true then(if o+ti.sz<=cs.length then some (.agg ((cs.drop o).take ti.sz)) else none) else cs[o]?
 | none=>none
def kO:List A->Nat->List A->List A
 | cs,_,[]=>cs
 | cs,o,v::vs=>kO (cs.set o v) (o+1) vs
def fP(l:List A):Bool:=l.all A.one
def eqC:A->A->Option Bool
 | .int j a,.int k b=>if j=k then some (decide (a=b)) else none
 | .str a,.str b=>some (decide (a=b))
 | .bool a,.bool b=>some (a == b)
 | _,_=>none
def aAm(op:BinOp)(k:IntKind)(a b:Int):Option A :=
 match op with
 | .add=>some (.int k (k.wrap (a+b)))
 | .sub=>some (.int k (k.wrap (a-b)))
 | .mul=>some (.int k (k.wrap (a * b)))
 | .eql=>some (.bool (decide (a=b)))
 | .neq=>some (.bool (!decide (a=b)))
 | .lss=>some (.bool (decide (a<b)))
 | .leq=>some (.bool (decide (a<=b)))
 | .gtr=>some (.bool (decide (b<a)))
 | .geq=>some (.bool (decide (b<=a)))
 | .and=>some (.int k (k.wrap ((BitVec.ofInt k.bits a &&& BitVec.ofInt k.bits b).toNat)))
 | .or=>some (.int k (k.wrap ((BitVec.ofInt k.bits a ||| BitVec.ofInt k.bits b).toNat)))
 | .xor=>some (.int k (k.wrap ((BitVec.ofInt k.bits a ^^^ BitVec.ofInt k.bits b).toNat)))
 | .andNot=>some (.int k (k.wrap ((BitVec.ofInt k.bits a &&& ~~~BitVec.ofInt k.bits b).toNat)))
 | .quo=>if b=0 then none else some (.int k (k.wrap (a.tdiv b)))
 | .rem=>if b=0 then none else some (.int k (a.tmod b))
 | _=>none
def aDg(op:BinOp)(k:IntKind)(a b:Int):Option A :=
 if b<0 then none else match op with
 | .shl=>some (.int k (k.wrap (a * 2 ^ (min b.toNat k.bits))))
 | .shr=>some (.int k (a.fdiv (2 ^ (min b.toNat k.bits))))
 | _=>none
def aJ5:BinOp->Bool
 | .shl=>true
 | .shr=>true
 | _=>false
def unA:UnOp->A->Option A
 | .not,.bool b=>some (.bool (!b))
 | .neg,.int k n=>some (.int k (k.wrap (0-n)))
 | .xor,.int k n=>some (.int k (k.wrap ((BitVec.ofInt k.bits (if k.signed then -1 else k.max) ^^^ BitVec.ofInt k.bits n).toNat)))
 | _,_=>none
def uB(place:Nat->Option (Nat × Nat)):List A->List (Nat × A)->Option (List A)
 | cells,[]=>some cells
 | cells,(i,v)::rest =>
  match place i with
  | none=>none
  | some (off,size)=>if v.cells.length=size/\off+size<=cells.length/\fP v.cells=true then uB place (kO cells off v.cells) rest else none
def mZ(ρ:Operand->Option A):List (Nat × Operand)->Option (List (Nat × A))
 | []=>some []
 | (i,x)::r=>match ρ x,mZ ρ r with
  | some a,some l=>some ((i,a)::l)
  | _,_=>none
def mE(ρ:Operand->Option A):List Operand->Option (List A)
 | []=>some []
 | x::r=>match ρ x,mE ρ r with
  | some a,some l=>some (a::l)
  | _,_=>none
def aAa:Nat->List (Nat × A)->Option (List A)
 | _,[]=>some []
 | k,(i,a)::r=>if i=k then(aAa (k+1) r).map (a::·) else none
section
def aAj(C:Cx)(F:Fr)(g:Gh)(KV Kp:St->A->Prop):Ending->World->Prop
 | .returned v,w=>∃g' a s,g.le g'/\R C.toCtx F g' s w/\Rz g' a v/\KV s a
 | .panicked mF,w=>∃g' a v s,mF=[{ v:=v,recovered:=false }]/\g.le g'/\R C.toCtx F g' s w/\Rz g' a v/\Kp s a
 | .outgrown,_=>False
def OutV(C:Cx)(F:Fr)(g:Gh)(KV Kp:St->A->Prop):Result Next->Prop
 | .ok (.value v) w=>∃g' a s,g.le g'/\R C.toCtx F g' s w/\Rz g' a v/\KV s a
 | .ok .skip w=>∃g' s,g.le g'/\R C.toCtx F g' s w/\KV s (.tuple [])
 | .ok (.enter f args) w=>Calls C.P f args w (aAj C F g KV Kp)
 | .halt (.panic v) w=>∃g' a s,g.le g'/\R C.toCtx F g' s w/\Rz g' a v/\Kp s a
 | _=>False
def Den(C:Cx)(f:FuncId)(args:List A)(KV Kp:St->A->Prop)(s:St):Prop :=
 ∀F g w vals,R C.toCtx F g s w->Rzs g args vals->OutV C F g KV Kp ((callFunc f vals.toArray).run C.P w)
def OutS(C:Cx)(F:Fr)(g:Gh)(s:St)(K:A->Prop):Result Next->Prop
 | .ok (.value v) w=>∃g' a,g.les g'/\R C.toCtx F g' s w/\Rz g' a v/\K a
 | _=>False
def aGF(op:BinOp)(x y:A):Option A :=
 match x,y with
 | .int j a,.int k b=>match aJ5 op with
  | true=>aDg op j a b
  | false=>if j=k then aAm op j a b else none
 | .str a,.str b=>match op with
  | .eql=>some (.bool (decide (a=b)))
  | .neq=>some (.bool (!decide (a=b)))
  | _=>none
 | _,_=>none
def aGm:BinOp->A->A->Bool
 | .eql,.agg _,.agg _|.neq,.agg _,.agg _=>true
 | .eql,.bool _,.bool _|.neq,.bool _,.bool _=>true
 | .eql,.iface _ _,.nili|.neq,.iface _ _,.nili=>true
 | .eql,.nili,.nili|.neq,.nili,.nili=>true
 | .eql,.iface _ _,.iface _ _|.neq,.iface _ _,.iface _ _=>true
 | .eql,.nilp,.nilp|.neq,.nilp,.nilp=>true
 | .eql,.ptr _ _,.nilp|.neq,.ptr _ _,.nilp=>true
 | .eql,.ptr _ _,.ptr _ _|.neq,.ptr _ _,.ptr _ _=>true
 | .eql,.nils,.nils|.neq,.nils,.nils=>true
 | .eql,.list _ _,.nils|.neq,.list _ _,.nils=>true
 | .eql,.ml _ _ _,.nils|.neq,.ml _ _ _,.nils=>true
 | .eql,.emp,.nils|.neq,.emp,.nils=>true
 | .eql,.mg _ _ _,.nils|.neq,.mg _ _ _,.nils=>true
 | _,_,_=>false
def mK:A->Option A
 | .list _ es=>some (.int .i64 es.length)
 | .nils=>some (.int .i64 0)
 | .ml _ _ n=>some (.int .i64 n)
 | .emp=>some (.int .i64 0)
 | .mg _ n _=>some (.int .i64 n)
 | _=>none
def aDs:Nat->List A->Prop
 | _,[]=>True
 | n,x::r=>(x.cells.length=n/\fP x.cells=true)/\aDs n r
theorem aFe{n:Nat}:∀{l:List A},aDs n l->∀x,x∈l->x.cells.length=n/\∀c,c∈x.cells->c.one=true
 | [],_,x,hx=>by cases hx
 | y::r,h,x,hx=>by
  cases hx with
  | head=>exact⟨h.1.1,by have:=h.1.2;simpa [fP]using this⟩
  | tail _ hx=>exact aFe h.2 x hx
def uM:Option A->Option Int
 | none=>some 0
 | some (.int _ i)=>some i
 | _=>none
def rT(n:Nat):Option A->Option Int
 | none=>some n
 | some (.int _ i)=>some i
 | _=>none
def pU(ρ:Operand->Option A):Option Operand->Option (Option A)
 | none=>some none
 | some x=>match ρ x with
  | some a=>some (some a)
  | none=>none
def vW(x:A)(lo hi:Option A)(K:A->Prop):Prop :=
 match x with
 | .str s=>match uM lo,rT s.length hi with
  | some l,some h=>(0<=l/\l<=h/\h<=s.length)/\K (.str ((s.drop l.toNat).take (h.toNat-l.toNat)))
  | _,_=>False
 | .list _ es=>match uM lo,rT es.length hi with
  | some l,some h=>(0<=l/\l<=h/\h<=es.length)/\K (.list none ((es.drop l.toNat).take (h.toNat-l.toNat)))
  | _,_=>False
 | _=>False
def elK(sz:Nat)(K:A->Prop):Option A->Prop
 | some x=>x.cells.length=sz/\K (.eptr x.cells 0)
 | none=>False
def chK(K:A->Prop):Option UInt8->Prop
 | some c=>K (.int .u8 c.toNat)
 | none=>False
def aLn:Value->Bool
 | .nilIface=>true
 | .int _ _=>false
 | .bool _=>false
 | .string _=>false
 | .pointer _=>false
 | .slice _ _ _=>false
 | .agg _=>false
 | .nilFunc=>false
 | _=>false
def aLo:Operand->Bool
 | .const v=>aLn v
 | .tmp _=>false
 | .global _=>false
 | .func _=>false
def aGu:BinOp->A->Option A
 | .eql,.nili=>some (.bool true)
 | .eql,.iface _ _=>some (.bool false)
 | .neq,.nili=>some (.bool false)
 | .neq,.iface _ _=>some (.bool true)
 | _,_=>none
def aBs:List A->A
 | []=>.emp
 | x::r=>.list none (x::r)
def aDl:List (Nat × Operand)->Bool
 | [x]=>match x.2 with
  | .const v=>match v with
   | .agg _=>true
   | _=>false
  | _=>false
 | _=>false
def hlA:List A->A
 | []=>.emp
 | x::r=>match r with
  | []=>.hl x
  | y::r=>.list none (x::y::r)
def cK(C:Cx)(op:Op)(ρ:Operand->Option A)(K:A->Prop):Prop :=
 let one (v:Option A):Prop:=match v with
  | some v=>K v
  | none=>False
 match op with
 | .move x=>one (ρ x)
 | .assign x=>one (ρ x)
 | .pick c a b=>match ρ c with
  | some (.bool true)=>one (ρ a)
  | some (.bool false)=>one (ρ b)
  | _=>False
 | .binOp op t x y _=>match ρ x,ρ y with
  | some a,some b=>match aLo y,aGm op a b with
   | true,_=>match b,C.tt t with
    | .nili,some ti=>match ti.k with
     | .iface=>one (aGu op a)
     | _=>False
    | _,_=>False
   | false,d=>match d with
    | true=>match C.eq t a b with
     | some r=>K (.bool (if op=.eql then r else !r))
     | none=>False
    | false=>match op,a,b with
     | .add,.str a,.str b=>a.length+b.length<=maxLen/\K (.str (a++b))
     | op,a,b=>one (aGF op a b)
  | _,_=>False
 | .unOp op _ x=>match ρ x with
  | some a=>one (unA op a)
  | none=>False
 | .nilCheck x=>match ρ x with
  | some (.ptr b o)=>K (.ptr b o)
  | some (.eptr cs o)=>K (.eptr cs o)
  | _=>False
 | .fieldAddr t x f=>match ρ x,C.tt t with
  | some a,some ti=>match ti.k with
   | .struct fs=>match fs[f]? with
    | some (off,_,_)=>match a with
     | .ptr b o=>K (.ptr b (o+off))
     | .eptr cs o=>K (.eptr cs (o+off))
     | _=>False
    | none=>False
   | _=>False
  | _,_=>False
 | .field t x f=>match ρ x,C.tt t with
  | some (.agg cs),some ti=>match ti.k with
   | .struct fs=>match fs[f]? with
    | some (off,sz,ag)=>if ag=true then(off+sz<=cs.length/\K (.agg ((cs.drop off).take sz))) else one cs[off]?
    | none=>False
   | _=>False
  | _,_=>False
 | .typeAssert x _ t ok=>match ok with
  | true=>match ρ x,C.tt t with
   | some (.iface u v),some ti=>match ti.k with
    | .struct _=>u=t/\K (.tuple [v,.bool true])
    | _=>False
   | _,_=>False
  | false=>False
 | .extract x i=>match ρ x with
  | some (.tuple vs)=>one vs[i]?
  | _=>False
 | .makeInterface t x=>match ρ x,C.tt t with
  | some a,some ti=>match ti.k with
   | .iface=>False
   | _=>K (.iface t a)
  | _,_=>False
 | .makeFunc (.func f) first caps=>match mE ρ first.toList,mE ρ caps.toList with
  | some l,some m=>K (.fn f l m)
  | _,_=>False
 | .convert a b x=>match ρ x,C.tt a,C.tt b with
  | some (.int _ n),some _,some tb=>match tb.k with
   | .int k=>K (.int k (k.wrap n))
   | _=>False
  | some (.str s),some ta,some tb=>match tb.k with
   | .string=>K (.str s)
   | .slice e=>match ta.k,C.tt e with
    | .string,some te=>match te.k with
     | .int .u8=>te.sz=1/\s.length<=maxLen/\K (.list none (s.map λc=>.int .u8 c.toNat))
     | _=>False
    | _,_=>False
   | _=>False
  | _,_,_=>False
 | .build t parts=>match mZ ρ parts.toList,C.tt t with
  | some ps,some ti=>match ti.k with
   | .struct fs=>one ((uB (λi=>(fs[i]?).map λx=>(x.1,x.2.1)) ti.zero ps).map .agg)
   | _=>False
  | _,_=>False
 | .buildSlice t len parts=>match mZ ρ parts.toList,C.tt t with
  | some ps,some ti=>match ti.k with
   | .slice e=>match C.tt e with
    | some te=>match aAa 0 ps with
     | some es=>(es.length=len/\(len * te.sz<=16777216/\len<=16777216)/\aDs te.sz es)/\(match aDl parts.toList with
      | true=>K (hlA es)
      | false=>K (aBs es))
     | none=>False
    | none=>False
   | _=>False
  | _,_=>False
 | .load t x=>match ρ x with
  | some (.eptr cs o)=>one (sO C t cs o)
  | _=>False
 | .slice t x lo hi none=>match ρ x,pU ρ lo,pU ρ hi,C.tt t with
  | some a,some l,some h,some ti=>match ti.k with
   | .string=>match a with
    | .str s=>vW (.str s) l h K
    | _=>False
   | .slice e=>match a,C.tt e with
    | .list tk es,some te=>(∀x,x∈es->x.cells.length=te.sz)/\vW (.list tk es) l h K
    | .nils,some _=>match uM l,rT 0 h with
     | some i,some j=>(i=0/\j=0)/\K .nils
     | _,_=>False
    | .gr t n,some _=>match uM l,rT n h with
     | some i,some j=>(i=0/\j=0)/\K (.list (some t) [])
     | _,_=>False
    | .ml b off n,some te=>match uM l,rT n h with
     | some i,some j=>(0<=i/\i<=j/\j<=n)/\K (if j.toNat-i.toNat=0 then .list none [] else .ml b (off+i.toNat * te.sz) (j.toNat-i.toNat))
     | _,_=>False
    | _,_=>False
   | _=>False
  | _,_,_,_=>False
 | .indexAddr t x i=>match ρ x,ρ i,C.tt t with
  | some a,some (.int _ i),some ti=>match ti.k with
   | .slice e=>match a with
    | .list _ es=>match C.tt e with
     | some te=>(0<=i/\i.toNat<es.length)/\elK te.sz K es[i.toNat]?
     | none=>False
    | .ml b off n=>match C.tt e with
     | some te=>(0<=i/\i.toNat<n)/\K (.ptr b (off+i.toNat * te.sz))
     | none=>False
    | .mg b n _=>match C.tt e with
     | some te=>(0<=i/\i.toNat<n)/\K (.ptr b (i.toNat * te.sz))
     | none=>False
    | .pen t es sz=>match C.tt e with
     | some te=>(i=es.length/\sz=te.sz)/\K (.rm t es.length te.sz)
     | none=>False
    | _=>False
   | .array n e=>match a with
    | .eptr cs o=>match C.tt e with
     | some te=>(0<=i/\i<n)/\K (.eptr cs (o+i.toNat * te.sz))
     | none=>False
    | _=>False
   | _=>False
  | _,_,_=>False
 | .index t x i=>match ρ x,ρ i,C.tt t with
  | some (.str s),some (.int _ i),some ti=>match ti.k with
   | .string=>(0<=i/\i.toNat<s.length)/\chK K s[i.toNat]?
   | _=>False
  | _,_,_=>False
 | .call c=>match c.callee,c.args.toList,c.argTypes.toList with
  | .builtin .len,[x],[t]=>match ρ x,C.tt t with
   | some a,some ti=>match ti.k with
    | .string=>one (match a with|.str s=>some (.int .i64 s.length)|_=>none)
    | .slice _=>one (mK a)
    | _=>False
   | _,_=>False
  | .builtin .unsafeSliceData,[x],_=>match ρ x with
   | some (.list tk (y::ys))=>K (.sd tk (y::ys))
   | some .nils=>K .nilp
   | _=>False
  | .builtin .cap,[x],[t]=>match ρ x,C.tt t with
   | some .nils,some ti=>match ti.k with
    | .slice _=>K (.int .i64 0)
    | _=>False
   | _,_=>False
  | .builtin .max,[x,y],_=>match ρ x,ρ y with
   | some (.int j a),some (.int _ b)=>K (.int j (if a<b then b else a))
   | _,_=>False
  | .builtin .min,[x,y],_=>match ρ x,ρ y with
   | some (.int j a),some (.int _ b)=>K (.int j (if b<a then b else a))
   | _,_=>False
  | _,_,_=>False
 | _=>False
section
variable {C:Cx} {F:Fr} {g:Gh} {s:St} {w:World} {K:A->Prop} {ρ:Operand->Option A} {ev:Operand->Value}
theorem Rz.int_inv{k:IntKind}{n:Int}{v:Value}(h:Rz g (.int k n) v):v=.int k n:=by cases h;rfl
theorem Rz.bool_inv{b:Bool}{v:Value}(h:Rz g (.bool b) v):v=.bool b:=by cases h;rfl
theorem Rz.str_inv{s:List UInt8}{v:Value}(h:Rz g (.str s) v):v=.string ⟨s.toArray⟩:=by cases h;rfl
theorem Rz.ptr_inv{b o:Nat}{v:Value}(h:Rz g (.ptr b o) v):∃k,v=.pointer (some ⟨k,o,none⟩)/\g.beta b=some k:=by cases h;exact⟨_,rfl,by assumption⟩
theorem Rz.emp_inv{v:Value}(h:Rz g .emp v):∃a,v=.slice (some a) 0 0:=by cases h;exact⟨_,rfl⟩
theorem Rz.sd_inv{tk:Option Nat}{es:List A}{v:Value}(h:Rz g (.sd tk es) v):∃a cap,v=.pointer (some a)/\cap≠0/\Rz g (.list tk es) (.slice (some a) es.length cap):=by
 cases h;exact⟨_,_,rfl,by assumption,by assumption⟩
theorem Rz.gr_inv{t n:Nat}{v:Value}(h:Rz g (.gr t n) v):∃k cap,v=.slice (some ⟨k,0,none⟩) n cap/\g.eta t 0=some (.slice (some ⟨k,0,none⟩) 0 cap)/\n<=cap/\cap<=maxLen:=by
 cases h;exact⟨_,_,rfl,by assumption,by assumption,by assumption⟩
theorem Rz.hl_inv{z:A}{v:Value}(h:Rz g (.hl z) v):∃a cap,v=.slice (some a) 1 cap/\Rz g (.list none [z]) v:=by cases h;exact⟨_,_,rfl,by assumption⟩
theorem Rz.pen_inv{t:Nat}{es:List A}{sz:Nat}{v:Value}(h:Rz g (.pen t es sz) v):∃b cap,v=.slice (some ⟨b,0,none⟩) (es.length+1) cap /\
  Rz g (.list (some t) es) (.slice (some ⟨b,0,none⟩) es.length cap)/\es.length+1<=cap/\∀y,y∈es->y.cells.length=sz:=by cases h;exact⟨_,_,rfl,by assumption,by assumption,by assumption⟩
theorem Rz.rm_inv{t n sz:Nat}{v:Value}(h:Rz g (.rm t n sz) v):∃b cap,v=.pointer (some ⟨b,n * sz,none⟩)/\g.eta t n=some (.slice (some ⟨b,0,none⟩) n cap)/\n+1<=cap:=by
 cases h;exact⟨_,_,rfl,by assumption,by assumption⟩
theorem Rz.ml_inv{b o n:Nat}{v:Value}(h:Rz g (.ml b o n) v):∃k cap,v=.slice (some ⟨k,o,none⟩) n cap/\g.beta b=some k/\n<=cap/\cap<=maxLen:=by
 cases h;exact⟨_,_,rfl,by assumption,by assumption,by assumption⟩
theorem Rz.mg_inv{b n cap:Nat}{v:Value}(h:Rz g (.mg b n cap) v):∃k,v=.slice (some ⟨k,0,none⟩) n cap/\g.beta b=some k/\n<=cap/\cap<=maxLen:=by
 cases h;exact⟨_,rfl,by assumption,by assumption,by assumption⟩
theorem Rz.nilp_inv{v:Value}(h:Rz g .nilp v):v=.pointer none:=by cases h;rfl
theorem Rz.nils_inv{v:Value}(h:Rz g .nils v):v=.slice none 0 0:=by cases h;rfl
theorem Rz.nili_inv{v:Value}(h:Rz g .nili v):v=.nilIface:=by cases h;rfl
theorem Rz.iface_inv{t:TypeId}{a:A}{v:Value}(h:Rz g (.iface t a) v):∃u,v=.iface t u/\Rz g a u:=by cases h;exact⟨_,rfl,by assumption⟩
theorem Rz.agg_inv{cs:List A}{v:Value}(h:Rz g (.agg cs) v):∃vs:List Value,v=.agg vs.toArray/\Rzs g cs vs/\∀c,c∈cs->c.one=true:=by
 cases h with|agg cs vs hl h1 h=>exact⟨vs,rfl,⟨hl,h⟩,h1⟩
theorem Rz.tuple_inv{cs:List A}{v:Value}(h:Rz g (.tuple cs) v):∃vs:List Value,v=.tuple vs.toArray/\Rzs g cs vs:=by
 cases h with|tuple cs vs hl h=>exact⟨vs,rfl,⟨hl,h⟩⟩
theorem Rz.fn_inv{f:FuncId}{fs cs:List A}{v:Value}(h:Rz g (.fn f fs cs) v):∃us vs:List Value,v=.func (.func f) us.toArray vs.toArray/\Rzs g fs us/\Rzs g cs vs:=by
 cases h with|fn f fs cs us vs hlf hlc hf hc=>exact⟨us,vs,rfl,⟨hlf,hf⟩,⟨hlc,hc⟩⟩
theorem Rz.eptr_inv{cs:List A}{o:Nat}{v:Value}(h:Rz g (.eptr cs o) v):∃b off pre,v=.pointer (some ⟨b,off+o,none⟩)/\g.pi b=some pre/\off+cs.length<=pre.length /\
  (∀c,c∈cs->c.one=true)/\∀(j:Nat) (c:A) (v:Value),cs[j]?=some c->pre[off+j]?=some v->Rz g c v:=by
 cases h with|eptr cs o b off pre hp hl h1 h=>exact⟨b,off,pre,rfl,hp,hl,h1,h⟩
theorem OutS.val{v:Value}{a:A}(hR:R C.toCtx F g s w)(hv:Rz g a v)(hK:K a):OutS C F g s K (.ok (.value v) w) :=
 ⟨g,a,Gh.les.refl g,hR,hv,hK⟩
theorem aCx(he:∀x a,ρ x=some a->Rz g a (ev x)):∀{l:List Operand} {az:List A},mE ρ l=some az->Rzs g az (l.map ev)
 | [],az,h=>by simp[mE]at h;subst h;exact .nil g
 | x::r,az,h=>by
  simp only[mE]at h;split at h
  .rename_i a l ha hl;simp at h;subst h;exact .cons (he x a ha) (aCx he hl)
  .simp at h
theorem aB8(he:∀x a,ρ x=some a->Rz g a (ev x)):∀{l:List (Nat × Operand)} {az:List (Nat × A)},mZ ρ l=some az ->
  (l.map λx=>x.1)=az.map (λx=>x.1)/\Rzs g (az.map λx=>x.2) (l.map λx=>ev x.2)
 | [],az,h=>by simp[mZ]at h;subst h;exact⟨rfl,.nil g⟩
 | (i,x)::r,az,h=>by
  simp only[mZ]at h;split at h
  .rename_i a l ha hl;simp at h;subst h;have:=aB8 he hl;exact⟨by simp[this.1],.cons (he x a ha) this.2⟩
  .simp at h
theorem iX{t:TypeId}{ti:TI}(h:C.tt t=some ti):∃d,C.P.underlying t=some d/\ti.k.ok C.P d:=(C.htt t ti h).und
theorem aAc{t:TypeId}{ti:TI}(h:C.tt t=some ti)(w:World):(isAgg t).run C.P w=.ok ti.k.agg w:=by
 obtain⟨d,hd,hk⟩:=iX h;simp only[isAgg,bP,dX hd,bN];cases hk':ti.k<;>rw[hk']at hk<;>simp only[TK.ok]at hk<;>(try subst hk)<;>(try rfl)
 .obtain⟨fields,rfl,_⟩:=hk;rfl
 .obtain⟨ms,rfl⟩:=hk;rfl
 .cases d<;>simp_all [yJ,TK.agg]
theorem lR{t:TypeId}{ti:TI}(h:C.tt t=some ti)(w:World):(sizeOf t).run C.P w=.ok ti.sz w:=by
 obtain⟨i,z,hi,hs,_⟩:=(C.htt t ti h).info;simp[sizeOf,typeInfo,hi,hs]
theorem vR{t:TypeId}{ti:TI}(h:C.tt t=some ti):C.toCtx.sz t=ti.sz:=by
 obtain⟨i,z,hi,hs,_⟩:=(C.htt t ti h).info;simp[Ctx.sz,hi,hs]
theorem aA9{t:TypeId}{ti:TI}(h:C.tt t=some ti)(w:World):∃z,(zeroValue t).run C.P w=.ok z w/\∀g,Rzs g ti.zero z.cells.toList:=by
 obtain⟨i,z,hi,hs,hb,hz,hr⟩:=(C.htt t ti h).info;exact⟨z,by simp[zeroValue,typeInfo,hi,hz],hr⟩
end
end
section
section
variable {C:Cx} {F:Fr} {g:Gh} {s:St} {w:World} {K:A->Prop} {ρ:Operand->Option A} {ev:Operand->Value}
theorem zI(x:Sem Value)(P:Program)(w:World):((do let v <-x;pure (Next.value v)):Sem Next).run P w=(x.run P w).andThen λv w'=>.ok (.value v) w':=by
 simp
theorem eX{x:Sem Value}{v:Value}{a:A}(hR:R C.toCtx F g s w)(hx:x.run C.P w=.ok v w)(hv:Rz g a v)(hK:K a) :
  OutS C F g s K (((do let v <-x;pure (Next.value v)):Sem Next).run C.P w):=by
 rw[zI,hx];exact OutS.val hR hv hK
theorem aQH{op:BinOp}{k:IntKind}{x y:Int}{a:A}(h:aAm op k x y=some a)(t:TypeId) :
  ∃v,(binOp op t (.int k x) (.int k y))=pure v/\∀g,Rz g a v:=by
 cases op
 case quo =>
  simp only[aAm]at h;split at h
  .cases h
  .rename_i h0;simp only[bJ]at h;subst h;simp only[binOp,Op.intDiv,ne_eq,not_true_eq_false,↓reduceIte,h0];exact⟨_,rfl,λg=>.int _ _⟩
 case rem =>
  simp only[aAm]at h;split at h
  .cases h
  .rename_i h0;simp only[bJ]at h;subst h;simp only[binOp,Op.intDiv,ne_eq,not_true_eq_false,↓reduceIte,h0];exact⟨_,rfl,λg=>.int _ _⟩
 all_goals
  simp only[aAm,bJ,reduceCtorEq]at h
 all_goals
  subst h;simp only[binOp,Op.intArith,Op.intCmp,Op.intBits,ne_eq,not_true_eq_false,↓reduceIte]
  first
   | exact⟨_,rfl,λg=>.int _ _⟩
   | exact⟨_,rfl,λg=>.bool _⟩
   | (refine⟨_,rfl,λg=>?_⟩;simp only[bne,beq_eq_decide];exact .bool _)
theorem aOV{op:BinOp}{k j:IntKind}{x y:Int}{a:A}(h:aDg op k x y=some a)(t:TypeId) :
  ∃v,(binOp op t (.int k x) (.int j y))=pure v/\∀g,Rz g a v:=by
 unfold aDg at h;split at h
 .cases h
 .rename_i h0;cases op<;>simp only[bJ,reduceCtorEq]at h
  all_goals
   subst h;simp only[binOp,Op.shift,h0,if_false];exact⟨_,rfl,λg=>.int _ _⟩
theorem aHE(op:BinOp)(t:TypeId)(x y:Operand)(k j:IntKind)(a b:Int):eqGuard op t x y (.int k a) (.int j b)=pure ():=by
 unfold eqGuard;cases op<;>rfl
theorem aEL(op:BinOp)(t:TypeId)(x y:Operand)(a b:ByteArray):eqGuard op t x y (.string a) (.string b)=pure ():=by
 unfold eqGuard;cases op<;>rfl
section
variable {P:Program} {t:TypeId} {ms:_} (hd:P.underlying t=some (.interface ms)) (x:Operand) (w:World)
include hd
theorem aNB(d:Nat):(Op.equalIn (d+1) t .nilIface .nilIface).run P w=.ok true w:=by
 simp only[Op.equalIn,bP,dX hd,bN,cD]
theorem aNT(d:Nat)(u:TypeId)(v:Value):(Op.equalIn (d+1) t (.iface u v) .nilIface).run P w=.ok false w:=by
 simp only[Op.equalIn,bP,dX hd,bN,cD]
theorem aLf(op:BinOp)(hop:op=.eql\/op=.neq) :
  ((do eqGuard op t x (.const .nilIface) .nilIface .nilIface;binOp op t .nilIface .nilIface:Sem Value)).run P w=.ok (.bool (op == .eql)) w:=by
 have h:=aNB hd w 9999;rcases hop with rfl|rfl
 .have hg:(eqGuard .eql t x (.const .nilIface) .nilIface .nilIface).run P w=.ok () w:=by cases x<;>rfl
  have hb:(binOp .eql t .nilIface .nilIface).run P w=.ok (.bool true) w:=by
   simp only[binOp,Op.equal,Op.maxDepth,bP,h,bN,cD]
  rw[bP,hg,bN,hb];rfl
 .have hg:(eqGuard .neq t x (.const .nilIface) .nilIface .nilIface).run P w=.ok () w:=by cases x<;>rfl
  have hb:(binOp .neq t .nilIface .nilIface).run P w=.ok (.bool false) w:=by
   simp only[binOp,Op.equal,Op.maxDepth,bP,h,bN,cD,eV]
  rw[bP,hg,bN,hb];rfl
theorem gE1(op:BinOp)(hop:op=.eql\/op=.neq)(u:TypeId)(v:Value) :
  ((do eqGuard op t x (.const .nilIface) (.iface u v) .nilIface;binOp op t (.iface u v) .nilIface:Sem Value)).run P w=.ok (.bool (op == .neq)) w:=by
 have h:=aNT hd w 9999 u v;rcases hop with rfl|rfl
 .have hg:(eqGuard .eql t x (.const .nilIface) (.iface u v) .nilIface).run P w=.ok () w:=rfl
  have hb:(binOp .eql t (.iface u v) .nilIface).run P w=.ok (.bool false) w:=by
   simp only[binOp,Op.equal,Op.maxDepth,bP,h,bN,cD]
  rw[bP,hg,bN,hb];rfl
 .have hg:(eqGuard .neq t x (.const .nilIface) (.iface u v) .nilIface).run P w=.ok () w:=rfl
  have hb:(binOp .neq t (.iface u v) .nilIface).run P w=.ok (.bool true) w:=by
   simp only[binOp,Op.equal,Op.maxDepth,bP,h,bN,cD,fM]
  rw[bP,hg,bN,hb];rfl
end
theorem aRu{op:BinOp}{t yt ty:TypeId}{x y:Operand}{dst:Option Tmp}{pos:String}{after:Array Edge}{gd:Option (Nat × Bool)}
  (hR:R C.toCtx F g s w)(he:∀x a,ρ x=some a->Rz g a (ev x))(h:cK C (.binOp op t x y yt) ρ K) :
  OutS C F g s K ((execOp ev ⟨dst,.binOp op t x y yt,ty,pos,after,gd⟩).run C.P w):=by
 simp only[cK]at h;split at h
 .rename_i a b ha hb;have ra:=he x a ha;have rb:=he y b hb;simp only[execOp];split at h
  .rename_i hn;split at h
   .rename_i ti hti;split at h
    .rename_i hk;obtain⟨d,hd,hok⟩:=iX hti;rw[hk]at hok;obtain⟨ms,rfl⟩:=hok
     have hy:y=.const .nilIface:=by
      cases y with
      | const v=>cases v<;>first|rfl|cases hn
      | _=>cases hn
     subst hy;cases a<;>cases op<;>simp only[aGu]at h
     .obtain⟨u,hv,_⟩:=ra.iface_inv;rw[hv,rb.nili_inv];refine eX (v:=.bool false) hR ?_ (.bool _) h;exact gE1 hd _ w .eql (.inl rfl) _ _
     .obtain⟨u,hv,_⟩:=ra.iface_inv;rw[hv,rb.nili_inv];refine eX (v:=.bool true) hR ?_ (.bool _) h;exact gE1 hd _ w .neq (.inr rfl) _ _
     .rw[ra.nili_inv,rb.nili_inv];refine eX (v:=.bool true) hR ?_ (.bool _) h;exact aLf hd _ w .eql (.inl rfl)
     .rw[ra.nili_inv,rb.nili_inv];refine eX (v:=.bool false) hR ?_ (.bool _) h;exact aLf hd _ w .neq (.inr rfl)
    .exact h.elim
   .exact h.elim
  split at h
  .rename_i hd;split at h
   .rename_i r hr
    have hop:op=.eql\/op=.neq:=by
     cases op<;>simp_all [aGm]
    obtain⟨h1,h2⟩:=C.heq t a b r hr g _ _ w op x y hop ra rb;refine eX (v:=.bool (if op=.eql then r else !r)) hR ?_ (.bool _) h;simp only[bP,h1,bN,h2]
   .exact h.elim
  .split at h
   .obtain⟨hl,hk⟩:=h;rw[ra.str_inv,rb.str_inv];refine eX hR ?_ (.str _) hk;simp only[aEL,pure_bind];have e1:∀l:List UInt8,(ByteArray.mk l.toArray).size=l.length:=λl=>by simp[ByteArray.size]
    simp only[binOp,Op.stringOp,e1];rw[if_neg (by unfold maxLen at hl;simp[IntKind.max,IntKind.signed,IntKind.bits];omega)];simp only[cD];congr 2
   .split at h
    .rename_i v hv;simp only[aGF]at hv;split at hv
     .split at hv
      .rename_i j1 a1 k1 b1 _ _ _ _;rw[ra.int_inv,rb.int_inv];obtain⟨u,hu,hr⟩:=aOV (j:=k1) hv t;refine eX hR ?_ (hr g) h;simp only[aHE,pure_bind,hu,cD]
      .split at hv
       .rename_i hjk;subst hjk;rw[ra.int_inv,rb.int_inv];obtain⟨u,hu,hr⟩:=aQH hv t;refine eX hR ?_ (hr g) h;simp only[aHE,pure_bind,hu,cD]
       .simp at hv
     .rw[ra.str_inv,rb.str_inv];split at hv
      .simp only[bJ]at hv;subst hv;refine eX hR ?_ (.bool _) h;simp only[aEL,pure_bind,binOp,Op.stringOp,ByteArray.toList_mk,cD];congr 2;rw[Bool.eq_iff_iff];simp
      .simp only[bJ]at hv;subst hv;refine eX hR ?_ (.bool _) h;simp only[aEL,pure_bind,binOp,Op.stringOp,ByteArray.toList_mk,cD];congr 2;rw[Bool.eq_iff_iff];simp
      .simp at hv
     .simp at hv
    .exact h.elim
 .exact h.elim
theorem aOx{t:TypeId}{cs:List A}{o:Nat}{a:A}{v:Value}(hR:R C.toCtx F g s w)(hl:sO C t cs o=some a)(hv:Rz g (.eptr cs o) v) :
  ∃u,(Instr.loadAt t v).run C.P w=.ok u w/\Rz g a u:=by
 obtain⟨b,off,pre,rfl,hp,hlen,h1,hr⟩:=hv.eptr_inv;obtain⟨rest,e,fr,hh⟩:=hR.pis b pre hp
 have cell:∀k,k<pre.length->w.cell? ⟨b,k,none⟩=pre[k]?:=by
  intro k hk;simp only[World.cell?,hh,Option.isSome_none,cJ,↓reduceIte,oF];rw[kC hk]
 simp only[sO]at hl;split at hl
 .rename_i ti hti;split at hl
  .rename_i hag;split at hl
   .rename_i hsz;simp only[bJ]at hl;subst hl
    have hc:∀j v,((pre.drop (off+o)).take ti.sz)[j]?=some v->w.cell? ((⟨b,off+o,none⟩:Addr).add j)=some v:=by
     intro j v hj;rw[nK]at hj;split at hj
     .rename_i hlt;rw[oW]at hj;have:(⟨b,off+o,none⟩:Addr).add j=⟨b,off+o+j,none⟩:=by unfold Addr.add;split<;>simp_all
      rw[this,cell _ (dV.1 hj).1];exact hj
     .simp at hj
    have hlen':((pre.drop (off+o)).take ti.sz).length=ti.sz:=by rw[bK,dR];omega
    have hrun:=run_loadCells_list (P:=C.P) w ⟨b,off+o,none⟩ _ hc;rw[hlen']at hrun;refine⟨_,by simp only[Instr.loadAt,Instr.sureAddr,loadVar,bP,cD,bN,aAc hti,hag,↓reduceIte,lR hti,hrun];rfl,?_⟩;refine .agg _ _ ?_ ?_ ?_
    .rw[hlen',bK,dR];omega
    .intro c hc;exact h1 c (tE (qX hc))
    .intro j c v hc hv;rw[nK]at hc hv;split at hc
     .rename_i hlt;rw[if_pos hlt]at hv;rw[oW]at hc hv;exact hr (o+j) c v hc (by rw[<-oX];exact hv)
     .simp at hc
   .simp at hl
  .rename_i hag;have ho:o<cs.length:=(dV.1 hl).1;have hk:off+o<pre.length:=by omega
   refine⟨pre[off+o],?_,hr o a _ hl (aY hk)⟩;have hag':ti.k.agg=false:=by simpa using hag
   simp only[Instr.loadAt,Instr.sureAddr,loadVar,bP,cD,bN,aAc hti,hag',cJ,↓reduceIte,run_load,cell _ hk,aY hk]
 .simp at hl
theorem aAK{lo hi:Option A}{l h:Int}{n cap:Nat}{b:Bool}{vlo vhi:Option Value}
  (hl:uM lo=some l)(hh:rT n hi=some h)(h0:0<=l)(h1:l<=h)(h2:h<=n)(hn:n<=cap)
  (r1:∀a,lo=some a->∃v,vlo=some v/\Rz g a v)(r1':lo=none->vlo=none)
  (r2:∀a,hi=some a->∃v,vhi=some v/\Rz g a v)(r2':hi=none->vhi=none) :
  (Instr.sliceBounds b n cap vlo vhi none).run C.P w=.ok (l.toNat,h.toNat,cap) w:=by
 have hb:∀(k:IntKind) (i:Int) (y:Nat) (code:BoundsCode),0<=i->i<=y->(Instr.sliceBound (.int k i) y code).run C.P w=.ok i.toNat w :=
  λk i y code h0 h1=>by simp[Instr.sliceBound,asIntOf,h0,h1]
 have key:∀(y:Nat),y=h.toNat->(y:Int)=h:=by intro y hy;have:=Int.le_trans h0 h1;omega
 cases lo with
 | none =>
  simp only[uM,bJ]at hl;subst hl;rw[r1' rfl];cases hi with
  | none =>
   simp only[rT,bJ]at hh;subst hh;rw[r2' rfl];simp[Instr.sliceBounds]
  | some a =>
   obtain⟨v,hv,hr⟩:=r2 a rfl;cases a<;>simp only[rT,bJ,reduceCtorEq]at hh
   subst hh;rw[hv,hr.int_inv];have g2:(_:Int)<=(cap:Int):=Int.le_trans h2 aB;cases b<;>simp[Instr.sliceBounds,hb,h1,g2]
 | some a =>
  obtain⟨v,hv,hr⟩:=r1 a rfl;cases a<;>simp only[uM,bJ,reduceCtorEq]at hl
  subst hl;rw[hv,hr.int_inv];cases hi with
  | none =>
   simp only[rT,bJ]at hh;subst hh;rw[r2' rfl];simp[Instr.sliceBounds,hb,h0,h1]
  | some a =>
   obtain⟨v,hv,hr⟩:=r2 a rfl;cases a<;>simp only[rT,bJ,reduceCtorEq]at hh
   subst hh;rw[hv,hr.int_inv];have g2:(_:Int)<=(cap:Int):=Int.le_trans h2 aB;have g1:=Int.le_trans h0 h1;have e:=key _ rfl;have g3:=h1;rw[<-e]at g3;cases b<;>simp only[Instr.sliceBounds,hb _ _ _ _ g1 g2,hb _ _ _ _ h0 g3,bP,cD,bN,cJ,↓reduceIte]
theorem aKB(he:∀x a,ρ x=some a->Rz g a (ev x)){o:Option Operand}{r:Option A}(h:pU ρ o=some r) :
  (∀a,r=some a->∃v,o.map ev=some v/\Rz g a v)/\(r=none->o.map ev=none):=by
 cases o with
 | none=>simp only[pU,bJ]at h;subst h;simp
 | some x =>
  simp only[pU]at h;split at h
  .rename_i a ha;simp only[bJ]at h;subst h;exact⟨λa' e=>by cases e;exact⟨_,rfl,he x a ha⟩,by simp⟩
  .simp at h
end
end
section
section
variable {C:Cx} {F:Fr} {g:Gh} {s:St} {w:World} {K:A->Prop} {ρ:Operand->Option A} {ev:Operand->Value}
theorem aCo{t:TypeId}{ti:TI}{fs:List (Nat × Nat × Bool)}(h:C.tt t=some ti)(hk:ti.k=.struct fs) :
  ∃fields,C.P.underlying t=some (.struct fields)/\fields.size=fs.length/\∀(i o s:Nat) (a:Bool),fs[i]?=some (o,s,a) ->
   ∃f,fields[i]?=some f/\f.offset=o/\(C.P.info? f.type).map (·.size)=some s/\s≠0/\(C.P.underlying f.type).isSome=true/\yJ (C.P.underlying f.type)=a:=by
 obtain⟨d,hd,hok⟩:=iX h;rw[hk]at hok;obtain⟨fields,rfl,hn,hf⟩:=hok;exact⟨fields,hd,hn,hf⟩
theorem aE0{t:TypeId}{n:Nat}(h:(C.P.info? t).map (·.size)=some n)(w:World):(sizeOf t).run C.P w=.ok n w:=by
 simp only[qV]at h;obtain⟨i,hi,hs⟩:=h;simp[sizeOf,typeInfo,hi,hs]
theorem aIq{t:TypeId}(h:(C.P.underlying t).isSome=true)(w:World):(isAgg t).run C.P w=.ok (yJ (C.P.underlying t)) w:=by
 obtain⟨d,hd⟩:=Option.isSome_iff_exists.1 h;simp only[isAgg,bP,dX hd,bN,hd];cases d<;>rfl
theorem lE(b o n:Nat):(⟨b,o,none⟩:Addr).add n=⟨b,o+n,none⟩:=by unfold Addr.add;split<;>simp_all
theorem aGZ{a:Addr}{f:Field}{n:Nat}(h:(C.P.info? f.type).map (·.size)=some n)(hn:n≠0)(w:World) :
  (fieldPlace a f).run C.P w=.ok (a.add f.offset) w:=by
 simp[fieldPlace,aE0 h,hn]
theorem aN2{t ty:TypeId}{x:Operand}{f:Nat}{dst:Option Tmp}{pos:String}{after:Array Edge}{gd:Option (Nat × Bool)}
  (hR:R C.toCtx F g s w)(he:∀x a,ρ x=some a->Rz g a (ev x))(h:cK C (.fieldAddr t x f) ρ K) :
  OutS C F g s K ((execOp ev ⟨dst,.fieldAddr t x f,ty,pos,after,gd⟩).run C.P w):=by
 simp only[cK]at h;split at h
 .rename_i a ti ha hti;split at h
  .rename_i fs hk;split at h
   .rename_i off sz ag hf;obtain⟨fields,hu,_,hfs⟩:=aCo hti hk;obtain⟨fl,h1,h2,h3,h4,_,_⟩:=hfs f off sz ag hf;simp only[execOp];split at h
    .rename_i b o;obtain⟨k,this,hb⟩:=(he x _ ha).ptr_inv;refine eX (v:=.pointer (some ⟨k,o+off,none⟩)) hR ?_ (.ptr b (o+off) k hb) h;simp[Instr.fieldAt,dX hu,h1,Instr.sureAddr,this,aGZ h3 h4,h2,lE]
    .rename_i cs o;obtain⟨b,of2,pre,hv,hp,hl,hone,hr⟩:=(he x _ ha).eptr_inv;refine eX (v:=.pointer (some ⟨b,of2+(o+off),none⟩)) hR ?_ (.eptr cs (o+off) b of2 pre hp hl hone hr) h;simp[Instr.fieldAt,dX hu,h1,Instr.sureAddr,hv,aGZ h3 h4,h2,lE,oX]
    .exact h.elim
   .exact h.elim
  .exact h.elim
 .exact h.elim
theorem aRq{t ty:TypeId}{x:Operand}{f:Nat}{dst:Option Tmp}{pos:String}{after:Array Edge}{gd:Option (Nat × Bool)}
  (hR:R C.toCtx F g s w)(he:∀x a,ρ x=some a->Rz g a (ev x))(h:cK C (.field t x f) ρ K) :
  OutS C F g s K ((execOp ev ⟨dst,.field t x f,ty,pos,after,gd⟩).run C.P w):=by
 simp only[cK]at h;split at h
 .rename_i cs ti ha hti;split at h
  .rename_i fs hk;split at h
   .rename_i off sz ag hf;obtain⟨fields,hu,_,hfs⟩:=aCo hti hk;obtain⟨fl,h1,h2,h3,h4,h5,h6⟩:=hfs f off sz ag hf;obtain⟨vs,hv,hrs,hone⟩:=(he x _ ha).agg_inv;simp only[execOp];split at h
    .rename_i hag;obtain⟨hl,hK⟩:=h;refine eX (v:=.agg ((vs.drop off).take sz).toArray) hR ?_ ?_ hK
     .simp only[Instr.field,bP,dX hu,bN,h1,hv,asAgg,cD,part,aIq h5,h6,hag,↓reduceIte,aE0 h3,h2];congr 2;simp[List.extract_toArray,List.take_drop,Nat.add_comm]
     .have:=(hrs.drop off).take sz;exact .agg _ _ this.1 (λc hc=>hone c (tE (qX hc))) this.2
    .rename_i hag;split at h
     .rename_i a hc;obtain⟨v,hv',hr⟩:=hrs.get hc;refine eX (v:=v) hR ?_ hr h;have hag':ag=false:=by simpa using hag
      simp only[Instr.field,bP,dX hu,bN,h1,hv,asAgg,cD,part,aIq h5,h6,hag',cJ,↓reduceIte,h2];rw[oF,hv'];rfl
     .exact h.elim
   .exact h.elim
  .exact h.elim
 .exact h.elim
theorem aRH{t ty:TypeId}{x:Operand}{lo hi mx:Option Operand}{dst:Option Tmp}{pos:String}{after:Array Edge}{gd:Option (Nat × Bool)}
  (hR:R C.toCtx F g s w)(he:∀x a,ρ x=some a->Rz g a (ev x))(h:cK C (.slice t x lo hi mx) ρ K) :
  OutS C F g s K ((execOp ev ⟨dst,.slice t x lo hi mx,ty,pos,after,gd⟩).run C.P w):=by
 cases mx with
 | some _=>simp only[cK]at h
 | none =>
 simp only[cK]at h;split at h
 .rename_i a l h' ti ha hlo hhi hti;obtain⟨d,hd,hok⟩:=iX hti;obtain⟨l1,l2⟩:=aKB he hlo;obtain⟨h1,h2⟩:=aKB he hhi;split at h
  .rename_i hk;rw[hk]at hok;simp only[TK.ok]at hok;subst hok;split at h
   .rename_i str;simp only[vW]at h;split at h
    .rename_i lo' hi' hl' hh';obtain⟨⟨c0,c1,c2⟩,hK⟩:=h;have hv:=(he x _ ha).str_inv;have e1:(ByteArray.mk str.toArray).size=str.length:=by simp[ByteArray.size]
     refine eX (v:=.string ((ByteArray.mk str.toArray).extract lo'.toNat hi'.toNat)) hR ?_ ?_ hK
     .simp only[execOp,Instr.sliceAt,bP,dX hd,bN,Instr.slice,hv,Option.map_none,Option.isSome_none,cJ,↓reduceIte,e1];rw[aAK (C:=C) (w:=w) (g:=g) hl' hh' c0 c1 c2 (bT _) l1 l2 h1 h2];rfl
     .have:(ByteArray.mk str.toArray).extract lo'.toNat hi'.toNat=⟨((str.drop lo'.toNat).take (hi'.toNat-lo'.toNat)).toArray⟩:=by
       apply ByteArray.ext;apply Array.ext';rw[Lib.extract_data]
      rw[this];exact .str _
    .exact h.elim
   .exact h.elim
  .rename_i el hk;rw[hk]at hok;simp only[TK.ok]at hok;subst hok;split at h
   .rename_i tk es te hte;obtain⟨hsz,h⟩:=h;simp only[vW]at h;split at h
    .rename_i lo' hi' hl' hh';obtain⟨⟨c0,c1,c2⟩,hK⟩:=h;obtain⟨ad,cap,hv,hm,hcap,_,hflat⟩:=(he x _ ha).list_inv;refine eX (v:=.slice (if cap=lo'.toNat then ad else ad.map (·.add (lo'.toNat * te.sz))) (hi'.toNat-lo'.toNat) (cap-lo'.toNat)) hR ?_ ?_ hK
     .simp only[execOp,Instr.sliceAt,bP,dX hd,bN,Instr.slice,hv,Option.map_none];rw[aAK (C:=C) (w:=w) (g:=g) hl' hh' c0 c1 c2 hcap l1 l2 h1 h2];simp only[bN,lR hte,cD]
     .have hlen:((es.drop lo'.toNat).take (hi'.toNat-lo'.toNat)).length=hi'.toNat-lo'.toNat:=by
       rw[bK,dR];omega
      by_cases hz:hi'.toNat-lo'.toNat=0
      .rw[hz,List.take_zero];exact .list0 none _ _ aB bD
      .rcases hflat with rfl|⟨b,off,sz,pre,rfl,hp,hle,hs,h1',hr⟩
       .simp at c2;omega
       .have hne:¬ cap=lo'.toNat:=by omega
        have hpos:0<es.length:=by omega
        have hszz:te.sz=sz:=by
         have hx:=lN hpos;rw[<-hsz _ hx,hs _ hx]
        rw[if_neg hne,hszz];simp only[mQ,lE]
        have hmul:lo'.toNat * sz+(hi'.toNat-lo'.toNat) * sz<=es.length * sz:=by
         rw[<-gW];exact oU _ aB
        have:=Rz.list (g:=g) none ((es.drop lo'.toNat).take (hi'.toNat-lo'.toNat)) b (off+lo'.toNat * sz) sz (cap-lo'.toNat) pre hp (by rw[hlen];omega) (by rw[hlen];omega) aB
         (λe hx=>hs e (tE (qX hx))) (λe hx=>h1' e (tE (qX hx)))
         (fun i e j c v hi hj hv => by
          rw[nK]at hi;split at hi
          .rw[oW]at hi;refine hr _ e j c v hi hj ?_;rw[gW,<-oX];exact hv
          .simp at hi) bD
        rw[hlen]at this;exact this
    .exact h.elim
   .rename_i te hte;split at h
    .rename_i lo' hi' hl' hh';obtain⟨⟨rfl,rfl⟩,hK⟩:=h;have hv:=(he x _ ha).nils_inv;refine eX (v:=.slice none 0 0) hR ?_ .nils hK;simp only[execOp,Instr.sliceAt,bP,dX hd,bN,Instr.slice,hv,Option.map_none];rw[aAK (C:=C) (w:=w) (g:=g) (n:=0) hl' hh' (wO _) (wO _) (wO _) (bT _) l1 l2 h1 h2];simp only[bN,lR hte,cD];rfl
    .exact h.elim
   .rename_i t0 n0 te hte;split at h
    .rename_i lo' hi' hl' hh';obtain⟨⟨rfl,rfl⟩,hK⟩:=h;obtain⟨k,cap,hv,hg,hn,hm⟩:=(he x _ ha).gr_inv;refine eX (v:=.slice (if cap=(0:Int).toNat then some ⟨k,0,none⟩ else(some (⟨k,0,none⟩:Addr)).map (·.add ((0:Int).toNat * te.sz))) 0 cap) hR ?_ ?_ hK
     .simp only[execOp,Instr.sliceAt,bP,dX hd,bN,Instr.slice,hv,Option.map_none];rw[aAK (C:=C) (w:=w) (g:=g) (n:=n0) hl' hh' (wO _) (wO _) aB hn l1 l2 h1 h2];simp only[bN,lR hte,cD];rfl
     .have e1:(if cap=(0:Int).toNat then some (⟨k,0,none⟩:Addr) else(some (⟨k,0,none⟩:Addr)).map (·.add ((0:Int).toNat * te.sz)))=some ⟨k,0,none⟩:=by
       split
       .rfl
       .simp[lE]
      rw[e1];exact .list0 (some t0) _ cap hm (λt ht=>by cases ht;exact hg)
    .exact h.elim
   .rename_i b off n te hte;split at h
    .rename_i lo' hi' hl' hh';obtain⟨⟨c0,c1,c2⟩,hK⟩:=h;obtain⟨k,cap,hv,hb,hc,hm⟩:=(he x _ ha).ml_inv;refine eX (v:=.slice (if cap=lo'.toNat then some ⟨k,off,none⟩ else(some (⟨k,off,none⟩:Addr)).map (·.add (lo'.toNat * te.sz))) (hi'.toNat-lo'.toNat) (cap-lo'.toNat)) hR ?_ ?_ hK
     .simp only[execOp,Instr.sliceAt,bP,dX hd,bN,Instr.slice,hv,Option.map_none];rw[aAK (C:=C) (w:=w) (g:=g) hl' hh' c0 c1 c2 hc l1 l2 h1 h2];simp only[bN,lR hte,cD]
     .by_cases hz:hi'.toNat-lo'.toNat=0
      .rw[if_pos hz,hz];exact .list0 none _ _ aB bD
      .rw[if_neg hz,if_neg aB];simp only[mQ,lE];exact .ml b _ _ _ k hb aB aB
    .exact h.elim
   .exact h.elim
  .exact h.elim
 .exact h.elim
end
end
section
theorem aJJ{α:Type}(l:List α)(k:Nat)(v:α)(rest:List α)(h:k<l.length) :
  (l.set k v).take (k+1)++rest++(l.set k v).drop (k+1+rest.length)=l.take k++(v::rest)++l.drop (k+(rest.length+1)):=by
 have h1:(l.set k v).take (k+1)=l.take k++[v]:=by
  rw[List.take_succ_eq_append_getElem (by simpa using h)];simp only[List.take_set,List.getElem_set_self];rw[List.set_eq_of_length_le (by simp;omega)]
 have h2:(l.set k v).drop (k+1+rest.length)=l.drop (k+(rest.length+1)):=by
  rw[List.drop_set_of_lt aB];congr 1;omega
 rw[h1,h2];simp
theorem aAN:∀(vs cs:List A) (o:Nat),o+vs.length<=cs.length->kO cs o vs=cs.take o++vs++cs.drop (o+vs.length)
 | [],cs,o,_=>by simp[kO]
 | v::vs,cs,o,h=>by
  simp only[aE]at h;rw[kO,aAN vs _ _ (by simp;omega)];exact aJJ cs o v vs aB
def aAw(cells:Array Value)(off:Nat)(vs:Array Value):Array Value:=vs.zipIdx.foldl (λcs (c,j)=>cs.setIfInBounds (off+j) c) cells
theorem aLQ(off:Nat):∀(l:List Value) (k:Nat) (cells:Array Value),off+k+l.length<=cells.size ->
  ((l.zipIdx k).foldl (λcs (x:Value × Nat)=>cs.setIfInBounds (off+x.2) x.1) cells).toList=cells.toList.take (off+k)++l++cells.toList.drop (off+k+l.length)
 | [],k,cells,_=>by simp
 | v::l,k,cells,h=>by
  simp only[aE]at h;simp only[List.zipIdx_cons,List.foldl_cons];rw[aLQ off l (k+1) _ (by simp;omega)];simp only[Array.toList_setIfInBounds,aE];have:=aJJ cells.toList (off+k) v l (by simp;omega);rw[show off+(k+1)=off+k+1 by omega];exact this
theorem aHt(cells:Array Value)(off:Nat)(vs:Array Value)(h:off+vs.size<=cells.size) :
  (aAw cells off vs).toList=cells.toList.take off++vs.toList++cells.toList.drop (off+vs.size):=by
 obtain⟨l⟩:=vs;have:=aLQ off l 0 cells (by simpa using h);simpa [aAw]using this
theorem aIO{place:Nat->Option (Nat × Nat)}{cells:Array Value}{i:Nat}{v:Value}{rest:List (Nat × Value)}{off size:Nat}
  (hp:place i=some (off,size))(hs:v.cells.size=size)(hl:off+size<=cells.size) :
  Instr.fill place cells ((i,v)::rest)=Instr.fill place (aAw cells off v.cells) rest:=by
 simp only[Instr.fill,hp];rw[if_neg (by simp[hs];omega)];rfl
section
variable {C:Cx} {F:Fr} {g:Gh} {s:St} {w:World} {K:A->Prop} {ρ:Operand->Option A} {ev:Operand->Value}
theorem Rzs.put{cs:List A}{cells:Array Value}{off:Nat}{a:A}{v:Value}(h:Rzs g cs cells.toList)(hv:Rz g a v)(hl:off+a.cells.length<=cs.length) :
  Rzs g (kO cs off a.cells) (aAw cells off v.cells).toList:=by
 have hc:=hv.cells;have e:v.cells.size=a.cells.length:=by simpa using hc.1
 have hlen:cells.size=cs.length:=by simpa using h.1
 rw[aAN _ _ _ hl,aHt _ _ _ aB,e];exact((h.take off).append hc).append (h.drop _)
theorem aKN{place:Nat->Option (Nat × Nat)}{place':Nat->Option (Nat × Nat)}(hpl:∀i x,place' i=some x->place i=some x) :
  ∀{az:List (Nat × A)} {vs:List (Nat × Value)} {cs r:List A} {cells:Array Value},
   (vs.map λx=>x.1)=(az.map λx=>x.1)->Rzs g (az.map λx=>x.2) (vs.map λx=>x.2)->Rzs g cs cells.toList ->
   uB place' cs az=some r->∃out,Instr.fill place cells vs=some out/\Rzs g r out.toList
 | [],vs,cs,r,cells,h1,h2,h3,hf=>by
  simp only[uB,bJ]at hf;subst hf;have:vs=[]:=by simpa using h1
  subst this;exact⟨cells,rfl,h3⟩
 | (i,a)::az,[],cs,r,cells,h1,h2,h3,hf=>by simp at h1
 | (i,a) :: az,(j,v) :: vs,cs,r,cells,h1,h2,h3,hf => by
  simp only[bS,List.cons.injEq]at h1;obtain⟨rfl,h1⟩:=h1;simp only[uB]at hf;split at hf
  .simp at hf
  .rename_i off size hp;split at hf
   .rename_i hc;obtain⟨e1,e2,e3⟩:=hc;have hv:Rz g a v:=h2.2 0 a v bD bD;have hs:v.cells.size=size:=by have:=hv.cells.1;simp only[oV]at this;omega
    have hsz:cells.size=cs.length:=by simpa using h3.1
    rw[aIO (hpl _ _ hp) hs aB];refine aKN hpl h1 ⟨by simpa using h2.1,λk c u hc hu=>h2.2 (k+1) c u (by simpa using hc) (by simpa using hu)⟩ (h3.put hv aB) hf
   .simp at hf
theorem aJj{α β:Type}(P:Program)(w:World)(f:α->Sem β)(k:α->β):∀(l:List α),(∀x,x∈l->(f x).run P w=.ok (k x) w) ->
  (l.mapM f).run P w=.ok (l.map k) w
 | [],_=>by simp
 | x::l,h=>by
  simp only[List.mapM_cons,bP,h x bD,bN,aJj P w f k l (λy hy=>h y (by simp[hy])),cD,bS]
theorem aSx{t ty:TypeId}{parts:Array (Nat × Operand)}{dst:Option Tmp}{pos:String}{after:Array Edge}{gd:Option (Nat × Bool)}
  (hR:R C.toCtx F g s w)(he:∀x a,ρ x=some a->Rz g a (ev x))(h:cK C (.build t parts) ρ K) :
  OutS C F g s K ((execOp ev ⟨dst,.build t parts,ty,pos,after,gd⟩).run C.P w):=by
 simp only[cK]at h;split at h
 .rename_i ps ti hps hti;split at h
  .rename_i fs hk;split at h
   .rename_i r hr;simp only[qV]at hr;obtain⟨r',hr',rfl⟩:=hr;obtain⟨fields,hu,hn,hfs⟩:=aCo hti hk;obtain⟨z,hz,hzr⟩:=aA9 hti w;obtain⟨p1,p2⟩:=aB8 he hps
    have hmap:∀f,f∈fields.toList->((do let x <-sizeOf f.type;pure (f.offset,x)):Sem (Nat × Nat)).run C.P w=.ok (f.offset,C.toCtx.sz f.type) w:=by
     intro f hf;obtain⟨i,hi,rfl⟩:=kN hf;have hi':i<fs.length:=by rw[<-hn];simpa using hi
     obtain⟨f',h1,h2,h3,h4,_⟩:=hfs i fs[i].1 fs[i].2.1 fs[i].2.2 (by simp[hi']);have hfi:fields[i]?=some fields.toList[i]:=by rw[<-aBI];exact aY hi
     rw[hfi]at h1;cases h1;simp only[bP,aE0 h3,bN,cD,Ctx.sz,h3,Option.getD_some]
    have hplaces:=aJj C.P w _ (λf:Field=>(f.offset,C.toCtx.sz f.type)) fields.toList hmap
    have hpl:∀(i:Nat) (x:Nat × Nat),((fs[i]?).map λ(x:Nat × Nat × Bool)=>(x.1,x.2.1))=some x->((fields.toList.map λf:Field=>(f.offset,C.toCtx.sz f.type)).toArray)[i]?=some x:=by
     intro i x hx;simp only[qV]at hx;obtain⟨y,hy,rfl⟩:=hx;obtain⟨f',h1,h2,h3,h4,_⟩:=hfs i y.1 y.2.1 y.2.2 hy;rw[oF,lB,aBI,h1];simp[h2,Ctx.sz,h3]
    obtain⟨out,ho,hro⟩:=aKN (g:=g) hpl (az:=ps) (vs:=parts.toList.map λx=>(x.1,ev x.2)) (cs:=ti.zero) (cells:=z.cells) (r:=r')
     (by rw[<-p1];simp[Function.comp_def]) (by simpa [Function.comp_def]using p2) (hzr g) hr'
    have hone:∀c,c∈r'->c.one=true:=by
     have key:∀(az:List (Nat × A)) (cs r:List A),(∀c,c∈cs->c.one=true)->uB (λi=>(fs[i]?).map λx=>(x.1,x.2.1)) cs az=some r->∀c,c∈r->c.one=true:=by
      intro az
      induction az with
      | nil=>intro cs r h1 h2;simp only[uB,bJ]at h2;subst h2;exact h1
      | cons x az ih =>
       intro cs r h1 h2;obtain⟨i,a⟩:=x;simp only[uB]at h2;split at h2
       .simp at h2
       .split at h2
        .rename_i hc;refine ih _ _ ?_ h2;intro c hcm;rw[aAN _ _ _ aB]at hcm;simp only[cW]at hcm;rcases hcm with(hcm|hcm)|hcm
         .exact h1 c (qX hcm)
         .have:=hc.2.2;simp only[fP,iH]at this;exact this c hcm
         .exact h1 c (tE hcm)
        .simp at h2
     exact key ps ti.zero r' (C.htt t ti hti).one hr'
    refine eX (v:=.agg out) hR ?_ ?_ h
    .simp only[Instr.build,bP,hz,bN,dX hu];rw[Array.mapM_eq_mapM_toList];rw[Sem.run_map,hplaces];simp only[bN];have:(parts.map λx=>(x.1,ev x.2)).toList=parts.toList.map λx=>(x.1,ev x.2):=by simp
     rw[this,ho];rfl
    .have:=hro;exact .agg r' out.toList this.1 hone this.2
   .exact h.elim
  .exact h.elim
 .exact h.elim
end
end
section
section
variable {C:Cx} {F:Fr} {g:Gh} {s:St} {w:World} {K:A->Prop} {ρ:Operand->Option A} {ev:Operand->Value}
theorem aE9:∀{az:List (Nat × A)} {k:Nat} {es:List A},aAa k az=some es->az.map (λx=>x.2)=es/\az.map (λx=>x.1)=List.range' k es.length
 | [],k,es,h=>by simp[aAa]at h;subst h;simp
 | (i,a)::r,k,es,h=>by
  simp only[aAa]at h;split at h
  .rename_i hi;subst hi;simp only[qV]at h;obtain⟨es',he,rfl⟩:=h;have:=aE9 he;simp[this.1,this.2,List.range'_succ]
  .simp at h
theorem aFr(size:Nat):∀(vs:List (Nat × Value)) (k:Nat) (cells:Array Value),vs.map (λx=>x.1)=List.range' k vs.length ->
  (∀x,x∈vs->x.2.cells.size=size)->(k+vs.length) * size<=cells.size ->
  ∃out,Instr.fill (λi=>some (i * size,size)) cells vs=some out /\
   out.toList=cells.toList.take (k * size)++(vs.flatMap λx=>x.2.cells.toList)++cells.toList.drop ((k+vs.length) * size)
 | [],k,cells,_,_,_=>⟨cells,rfl,by simp⟩
 | (i,v) :: vs,k,cells,h1,h2,h3 => by
  simp only[bS,aE,List.range'_succ,List.cons.injEq]at h1;obtain⟨rfl,h1⟩:=h1;have hv:=h2 (i,v) bD;simp only[aE]at h3
  have hm:i * size+size<=(i+(vs.length+1)) * size:=by
   rw[show i * size+size=(i+1) * size by rw[gW];omega];exact oU _ aB
  have hput:=aHt cells (i * size) v.cells (by simp only at hv;omega)
  have hsz:(aAw cells (i * size) v.cells).size=cells.size:=by
   have:=congrArg List.length hput;simp only[oV,aG,bK,dR]at this;simp only at hv;omega
  rw[aIO rfl hv aB];have e0:(i+1+vs.length) * size=(i+(vs.length+1)) * size:=by rw[show i+1+vs.length=i+(vs.length+1)by omega]
  obtain⟨out,ho,hout⟩:=aFr size vs (i+1) (aAw cells (i * size) v.cells) h1 (λx hx=>h2 x (by simp[hx])) (by rw[hsz,e0];exact h3);refine⟨out,ho,?_⟩;rw[hout,hput];simp only at hv;have e1:(i+1) * size=i * size+size:=by rw[gW];omega
  have e2:=e0;rw[e1,e2,aE,nL]
  have t1:(cells.toList.take (i * size)++v.cells.toList++cells.toList.drop (i * size+v.cells.size)).take (i * size+size)=cells.toList.take (i * size)++v.cells.toList:=by
   apply List.take_left';simp only[aG,bK,oV];omega
  have t2:(cells.toList.take (i * size)++v.cells.toList++cells.toList.drop (i * size+v.cells.size)).drop ((i+(vs.length+1)) * size)=cells.toList.drop ((i+(vs.length+1)) * size):=by
   have hl:(cells.toList.take (i * size)++v.cells.toList).length=i * size+size:=by
    simp only[aG,bK,oV];omega
   rw[List.drop_append,wH aB,aW,hl,tI];congr 1;omega
  rw[t1,t2];simp
theorem aMA{t ty:TypeId}{n:Nat}{parts:Array (Nat × Operand)}{dst:Option Tmp}{pos:String}{after:Array Edge}{gd:Option (Nat × Bool)}
  (hR:R C.toCtx F g s w)(he:∀x a,ρ x=some a->Rz g a (ev x))(h:cK C (.buildSlice t n parts) ρ K) :
  ∃ti te e es out a,C.tt t=some ti/\ti.k=.slice e/\C.tt e=some te/\(∀x,x∈es->x.cells.length=te.sz/\∀c,c∈x.cells->c.one=true)/\(es.length * te.sz<=16777216/\es.length<=16777216) /\
   (execOp ev ⟨dst,.buildSlice t n parts,ty,pos,after,gd⟩).run C.P w=.ok (.value (.slice (some ⟨w.heap.size,0,none⟩) es.length es.length)) (w.alloc (.cells out e)) /\
   Rzs g (flat es) out.toList/\(∀tk es',a=.list tk es'->es'=es)/\K a:=by
 simp only[cK]at h;split at h
 .rename_i ps ti hps hti;split at h
  .rename_i e hk;split at h
   .rename_i te hte;split at h
    .rename_i es hes;obtain⟨⟨rfl,⟨hlim,hlim2⟩,hok⟩,hK⟩:=h;obtain⟨d,hd,hok'⟩:=iX hti;rw[hk]at hok';simp only[TK.ok]at hok';subst hok';obtain⟨p1,p2⟩:=aB8 he hps;obtain⟨q1,q2⟩:=aE9 hes;have hel:=aFe hok
     have hlen:parts.toList.length=es.length:=by
      have:=congrArg List.length p1;have:=congrArg List.length q1;simp at *;omega
     have hvs:∀x,x∈(parts.toList.map λx=>(x.1,ev x.2))->x.2.cells.size=te.sz:=by
      intro x hx;obtain⟨k,hk,rfl⟩:=kN hx;simp only[aH]at hk;have hk':k<es.length:=by omega
      have hc:(ps.map λx=>x.2)[k]?=some es[k]:=by rw[q1];exact aY hk'
      obtain⟨v,hv,hr⟩:=p2.get hc;have hcl:=hr.cells.1;rw[(hel _ (lN hk')).1]at hcl;simp only[List.getElem_map];rw[lB,aY hk]at hv;simp only[mQ,bJ]at hv;rw[hv];simpa using hcl
     have hidx:(parts.toList.map λx=>(x.1,ev x.2)).map (λx=>x.1)=List.range' 0 (parts.toList.map λx=>(x.1,ev x.2)).length:=by
      simp only[List.map_map,Function.comp_def,aH];rw[p1,q2,hlen]
     obtain⟨z,hz,hzr⟩:=aA9 hte w;have hzl:∀(zero:Array Value),((Array.range (es.length * te.sz)).map (λk=>zero[k % zero.size]!)).size=es.length * te.sz:=by intro zero;simp
     have hfill:∀zero:Array Value,∃out,Instr.fill (λi=>some (i * te.sz,te.sz)) ((Array.range (es.length * te.sz)).map (λk=>zero[k % zero.size]!)) (parts.toList.map λx=>(x.1,ev x.2))=some out /\
       out.toList=(parts.toList.map λx=>(x.1,ev x.2)).flatMap λx=>x.2.cells.toList:=by
      intro zero;obtain⟨out,ho,hout⟩:=aFr te.sz (parts.toList.map λx=>(x.1,ev x.2)) 0 ((Array.range (es.length * te.sz)).map (λk=>zero[k % zero.size]!)) hidx hvs (by simp[hlen]);refine⟨out,ho,?_⟩;rw[hout]
      have:(((Array.range (es.length * te.sz)).map (λk=>zero[k % zero.size]!)).toList).drop ((0+(parts.toList.map λx=>(x.1,ev x.2)).length) * te.sz)=[] :=
       wH (by simp[hlen])
      rw[this];simp
     have hflat:Rzs g (flat es) ((parts.toList.map λx=>(x.1,ev x.2)).flatMap λx=>x.2.cells.toList):=by
      have key:∀(az:List A) (vs:List Value),Rzs g az vs->Rzs g (flat az) (vs.flatMap λv=>v.cells.toList):=by
       intro az
       induction az with
       | nil=>intro vs h;have:vs=[]:=fK h.1;subst this;exact .nil g
       | cons a az ih =>
        intro vs h;cases vs with
        | nil=>have:=h.1;simp at this
        | cons v vs =>
         simp only[flat,nL];exact(h.2 0 a v bD bD).cells.append (ih vs ⟨by simpa using h.1,λj c u hc hu=>h.2 (j+1) c u (by simpa using hc) (by simpa using hu)⟩)
      have:=key _ _ p2;rw[q1]at this;simpa [List.flatMap_map]using this
     simp only[execOp]
     have hrun:∃out:Array Value,(Instr.buildSlice t es.length (parts.map λx=>(x.1,ev x.2))).run C.P w =
       .ok (.slice (some ⟨w.heap.size,0,none⟩) es.length es.length) (w.alloc (.cells out e))/\Rzs g (flat es) out.toList:=by
      have hpl:(parts.map λx=>(x.1,ev x.2)).toList=parts.toList.map λx=>(x.1,ev x.2):=by simp
      by_cases h0:es.length * te.sz=0
      .obtain⟨out,ho,hout⟩:=hfill #[];refine⟨out,?_,by rw[hout];exact hflat⟩;simp only[Instr.buildSlice,bP,dX hd,bN,lR hte];rw[if_neg aB,if_pos h0];simp only[cD,pure_bind,bP,bN,hpl,ho,newRow,run_newObj];rfl
      .obtain⟨out,ho,hout⟩:=hfill z.cells;refine⟨out,?_,by rw[hout];exact hflat⟩;simp only[Instr.buildSlice,bP,dX hd,bN,lR hte];rw[if_neg aB,if_neg h0];simp only[cD,pure_bind,bP,bN,hz,hpl,ho,newRow,run_newObj];rfl
     obtain⟨out,hrun,hro⟩:=hrun;rw[zI,hrun]
     have key:∃a,(∀tk es',a=.list tk es'->es'=es)/\K a:=by
      cases hzp:aDl parts.toList with
      | true =>
       rw[hzp]at hK;refine⟨_,λtk es' he'=>?_,hK⟩
       match es,he' with
       | [],he'=>cases he'
       | [x],he'=>cases he'
       | x::y::r,he'=>cases he';rfl
      | false =>
       rw[hzp]at hK;refine⟨_,λtk es' he'=>?_,hK⟩;cases es with
       | nil=>cases he'
       | cons x r=>cases he';rfl
     obtain⟨a,ha1,ha2⟩:=key;exact⟨ti,te,e,es,out,a,hti,hk,hte,hel,⟨hlim,hlim2⟩,rfl,hro,ha1,ha2⟩
    .exact h.elim
   .exact h.elim
  .exact h.elim
 .exact h.elim
theorem aMZ{t ty:TypeId}{n:Nat}{parts:Array (Nat × Operand)}{dst:Option Tmp}{pos:String}{after:Array Edge}{gd:Option (Nat × Bool)}
  (hR:R C.toCtx F g s w)(he:∀x a,ρ x=some a->Rz g a (ev x))(h:cK C (.buildSlice t n parts) ρ K) :
  OutS C F g s K ((execOp ev ⟨dst,.buildSlice t n parts,ty,pos,after,gd⟩).run C.P w):=by
 simp only[cK]at h;split at h
 .rename_i ps ti hps hti;split at h
  .rename_i e hk;split at h
   .rename_i te hte;split at h
    .rename_i es hes;obtain⟨⟨rfl,⟨hlim,hlim2⟩,hok⟩,hK⟩:=h;obtain⟨d,hd,hok'⟩:=iX hti;rw[hk]at hok';simp only[TK.ok]at hok';subst hok';obtain⟨p1,p2⟩:=aB8 he hps;obtain⟨q1,q2⟩:=aE9 hes;have hel:=aFe hok
     have hlen:parts.toList.length=es.length:=by
      have:=congrArg List.length p1;have:=congrArg List.length q1;simp at *;omega
     have hvs:∀x,x∈(parts.toList.map λx=>(x.1,ev x.2))->x.2.cells.size=te.sz:=by
      intro x hx;obtain⟨k,hk,rfl⟩:=kN hx;simp only[aH]at hk;have hk':k<es.length:=by omega
      have hc:(ps.map λx=>x.2)[k]?=some es[k]:=by rw[q1];exact aY hk'
      obtain⟨v,hv,hr⟩:=p2.get hc;have hcl:=hr.cells.1;rw[(hel _ (lN hk')).1]at hcl;simp only[List.getElem_map];rw[lB,aY hk]at hv;simp only[mQ,bJ]at hv;rw[hv];simpa using hcl
     have hidx:(parts.toList.map λx=>(x.1,ev x.2)).map (λx=>x.1)=List.range' 0 (parts.toList.map λx=>(x.1,ev x.2)).length:=by
      simp only[List.map_map,Function.comp_def,aH];rw[p1,q2,hlen]
     obtain⟨z,hz,hzr⟩:=aA9 hte w;have hzl:∀(zero:Array Value),((Array.range (es.length * te.sz)).map (λk=>zero[k % zero.size]!)).size=es.length * te.sz:=by intro zero;simp
     have hfill:∀zero:Array Value,∃out,Instr.fill (λi=>some (i * te.sz,te.sz)) ((Array.range (es.length * te.sz)).map (λk=>zero[k % zero.size]!)) (parts.toList.map λx=>(x.1,ev x.2))=some out /\
       out.toList=(parts.toList.map λx=>(x.1,ev x.2)).flatMap λx=>x.2.cells.toList:=by
      intro zero;obtain⟨out,ho,hout⟩:=aFr te.sz (parts.toList.map λx=>(x.1,ev x.2)) 0 ((Array.range (es.length * te.sz)).map (λk=>zero[k % zero.size]!)) hidx hvs (by simp[hlen]);refine⟨out,ho,?_⟩;rw[hout]
      have:(((Array.range (es.length * te.sz)).map (λk=>zero[k % zero.size]!)).toList).drop ((0+(parts.toList.map λx=>(x.1,ev x.2)).length) * te.sz)=[] :=
       wH (by simp[hlen])
      rw[this];simp
     have hflat:Rzs g (flat es) ((parts.toList.map λx=>(x.1,ev x.2)).flatMap λx=>x.2.cells.toList):=by
      have key:∀(az:List A) (vs:List Value),Rzs g az vs->Rzs g (flat az) (vs.flatMap λv=>v.cells.toList):=by
       intro az
       induction az with
       | nil=>intro vs h;have:vs=[]:=fK h.1;subst this;exact .nil g
       | cons a az ih =>
        intro vs h;cases vs with
        | nil=>have:=h.1;simp at this
        | cons v vs =>
         simp only[flat,nL];exact(h.2 0 a v bD bD).cells.append (ih vs ⟨by simpa using h.1,λj c u hc hu=>h.2 (j+1) c u (by simpa using hc) (by simpa using hu)⟩)
      have:=key _ _ p2;rw[q1]at this;simpa [List.flatMap_map]using this
     simp only[execOp]
     have hrun:∃out:Array Value,(Instr.buildSlice t es.length (parts.map λx=>(x.1,ev x.2))).run C.P w =
       .ok (.slice (some ⟨w.heap.size,0,none⟩) es.length es.length) (w.alloc (.cells out e))/\Rzs g (flat es) out.toList:=by
      have hpl:(parts.map λx=>(x.1,ev x.2)).toList=parts.toList.map λx=>(x.1,ev x.2):=by simp
      by_cases h0:es.length * te.sz=0
      .obtain⟨out,ho,hout⟩:=hfill #[];refine⟨out,?_,by rw[hout];exact hflat⟩;simp only[Instr.buildSlice,bP,dX hd,bN,lR hte];rw[if_neg aB,if_pos h0];simp only[cD,pure_bind,bP,bN,hpl,ho,newRow,run_newObj];rfl
      .obtain⟨out,ho,hout⟩:=hfill z.cells;refine⟨out,?_,by rw[hout];exact hflat⟩;simp only[Instr.buildSlice,bP,dX hd,bN,lR hte];rw[if_neg aB,if_neg h0];simp only[cD,pure_bind,bP,bN,hz,hpl,ho,newRow,run_newObj];rfl
     obtain⟨out,hrun,hro⟩:=hrun;rw[zI,hrun];obtain⟨hR',hle⟩:=hR.newRow out.toList e []
     have main:es≠[]->Rz (g.know w.heap.size out.toList) (.list none es) (.slice (some ⟨w.heap.size,0,none⟩) es.length es.length):=by
      intro hes0;have hro':=hro.mono hle.le;have hl:=wN (λx hx=>(hel x hx).1);refine wR (pre:=out.toList) (vs:=out.toList) (off:=0) (sz:=te.sz) (by simp[Gh.know]) bD ?_ (λx hx=>(hel x hx).1) (λx hx=>(hel x hx).2) (bT _) ?_ (aU _) bD
      .rw[dW (by rw[hro.1,hl];exact bT _)];exact hro'
      .unfold maxLen;omega
     have hz:Rz (g.know w.heap.size out.toList) (hlA es) (.slice (some ⟨w.heap.size,0,none⟩) es.length es.length):=by
      match es,main with
      | [],_=>exact .emp _
      | [x],main=>exact .hl x _ _ (main bD)
      | x::y::r,main=>exact main bD
     cases hzp:aDl parts.toList with
     | true=>rw[hzp]at hK;exact⟨_,_,hle,by simpa using hR',hz,hK⟩
     | false =>
     rw[hzp]at hK;refine⟨_,_,hle,by simpa using hR',?_,hK⟩;cases hes0:es with
     | nil=>exact .emp _
     | cons e0 r0 =>
     rw[<-hes0];show Rz _ (aBs es) _;rw[show aBs es=.list none es by rw[hes0];rfl];exact main (by rw[hes0];simp)
    .exact h.elim
   .exact h.elim
  .exact h.elim
 .exact h.elim
theorem aNZ{t ty:TypeId}{x i:Operand}{dst:Option Tmp}{pos:String}{after:Array Edge}{gd:Option (Nat × Bool)}
  (hR:R C.toCtx F g s w)(he:∀x a,ρ x=some a->Rz g a (ev x))(h:cK C (.indexAddr t x i) ρ K) :
  OutS C F g s K ((execOp ev ⟨dst,.indexAddr t x i,ty,pos,after,gd⟩).run C.P w):=by
 simp only[cK]at h;split at h
 .rename_i a k n ti ha hi hti;have hiv:=(he i _ hi).int_inv;obtain⟨d,hd,hok⟩:=iX hti;simp only[execOp];split at h
  .rename_i e hk;rw[hk]at hok;simp only[TK.ok]at hok;subst hok;split at h
   .rename_i tk es;split at h
    .rename_i te hte;obtain⟨⟨h0,h1⟩,h⟩:=h;have hel:es[n.toNat]?=some es[n.toNat]:=aY h1;rw[hel]at h;obtain⟨hsz,hK⟩:=h;obtain⟨ad,cap,hv,hm,hc,_,hr⟩:=(he x _ ha).list_inv;rcases hr with rfl|⟨b,off,sz,pre,rfl,hp,hl,hs,hone,hr⟩
     .simp at h1
     .have hsz':te.sz=sz:=by rw[<-hsz,hs _ (lN h1)]
      refine eX (v:=.pointer (some ⟨b,off+n.toNat * sz,none⟩)) hR ?_ ?_ hK
      .have hn:n<(es.length:Int):=by omega
       simp only[Instr.indexAt,hiv,asIntOf,bP,cD,bN,dX hd,hv,h0,hn,iT,↓reduceIte,lR hte,lE,hsz']
      .have hb:n.toNat * sz+sz<=es.length * sz:=by
        have:(n.toNat+1) * sz<=es.length * sz:=oU _ h1
        rwa[gW,Nat.one_mul]at this
       have:=Rz.eptr (g:=g) es[n.toNat].cells 0 b (off+n.toNat * sz) pre hp (by rw[hsz,hsz'];omega) (λc hc=>hone _ (lN h1) c hc)
        (λj c v hc hv=>hr n.toNat _ j c v hel hc hv)
       simpa using this
    .exact h.elim
   .rename_i b off m;split at h
    .rename_i te hte;obtain⟨⟨h0,h1⟩,hK⟩:=h;obtain⟨k,cap,hv,hb,hc,hm⟩:=(he x _ ha).ml_inv;refine eX (v:=.pointer (some ⟨k,off+n.toNat * te.sz,none⟩)) hR ?_ (.ptr b _ k hb) hK;have hn:n<(m:Int):=by omega
     simp only[Instr.indexAt,hiv,asIntOf,bP,cD,bN,dX hd,hv,h0,hn,iT,↓reduceIte,lR hte,lE]
    .exact h.elim
   .rename_i b m _;split at h
    .rename_i te hte;obtain⟨⟨h0,h1⟩,hK⟩:=h;obtain⟨k,hv,hb,hc,hm⟩:=(he x _ ha).mg_inv;refine eX (v:=.pointer (some ⟨k,0+n.toNat * te.sz,none⟩)) hR ?_ (by rw[gI];exact .ptr b _ k hb) hK;have hn:n<(m:Int):=by omega
     simp only[Instr.indexAt,hiv,asIntOf,bP,cD,bN,dX hd,hv,h0,hn,iT,↓reduceIte,lR hte,lE]
    .exact h.elim
   .rename_i t' es sz;split at h
    .rename_i te hte;obtain⟨⟨h0,_⟩,hK⟩:=h;obtain⟨b,cap,hv,hl,hc,_⟩:=(he x _ ha).pen_inv
     have hta:g.eta t' es.length=some (.slice (some ⟨b,0,none⟩) es.length cap):=by
      obtain⟨_,_,_,_,_,h5,_⟩:=hl.list_inv;exact h5 _ rfl
     refine eX (v:=.pointer (some ⟨b,es.length * te.sz,none⟩)) hR ?_ (.rm t' es.length te.sz b cap hta hc) hK;have hn:n<((es.length+1:Nat):Int):=by omega
     have hn0:0<=n:=by omega
     have hnn:n.toNat=es.length:=by omega
     simp only[Instr.indexAt,hiv,asIntOf,bP,cD,bN,dX hd,hv,hn0,hn,iT,↓reduceIte,lR hte,lE,hnn,gI]
    .exact h.elim
   .exact h.elim
  .rename_i m e hk;rw[hk]at hok;simp only[TK.ok]at hok;subst hok;split at h
   .rename_i cs o;split at h
    .rename_i te hte;obtain⟨⟨h0,h1⟩,hK⟩:=h;obtain⟨b,off,pre,hv,hp,hl,hone,hr⟩:=(he x _ ha).eptr_inv;refine eX (v:=.pointer (some ⟨b,off+(o+n.toNat * te.sz),none⟩)) hR ?_ (.eptr cs _ b off pre hp hl hone hr) hK;simp only[Instr.indexAt,hiv,asIntOf,bP,cD,bN,dX hd,hv,h0,h1,iT,↓reduceIte,lR hte,lE,Instr.sureAddr,pure_bind,oX]
    .exact h.elim
   .exact h.elim
  .exact h.elim
 .exact h.elim
theorem aSb{t ty:TypeId}{x i:Operand}{dst:Option Tmp}{pos:String}{after:Array Edge}{gd:Option (Nat × Bool)}
  (hR:R C.toCtx F g s w)(he:∀x a,ρ x=some a->Rz g a (ev x))(h:cK C (.index t x i) ρ K) :
  OutS C F g s K ((execOp ev ⟨dst,.index t x i,ty,pos,after,gd⟩).run C.P w):=by
 simp only[cK]at h;split at h
 .rename_i str k n ti ha hi hti;have hiv:=(he i _ hi).int_inv;have hv:=(he x _ ha).str_inv;obtain⟨d,hd,hok⟩:=iX hti;simp only[execOp];split at h
  .rename_i hk;obtain⟨⟨h0,h1⟩,h⟩:=h;rw[hk]at hok;simp only[TK.ok]at hok;subst hok;have hel:str[n.toNat]?=some str[n.toNat]:=aY h1;rw[hel]at h;refine eX (v:=.int .u8 str[n.toNat].toNat) hR ?_ (.int _ _) h
   have e1:(ByteArray.mk str.toArray)[n.toNat]?=some str[n.toNat]:=by
    have hs:n.toNat<(ByteArray.mk str.toArray).size:=by simpa [ByteArray.size]using h1
    rw[getElem?_pos (ByteArray.mk str.toArray) n.toNat hs];rfl
   simp only[Instr.index,hiv,asIntOf,bP,cD,bN,dX hd,hv,h0,↓reduceIte,e1]
  .exact h.elim
 .exact h.elim
theorem aSC{c:Call}{ty:TypeId}{dst:Option Tmp}{pos:String}{after:Array Edge}{gd:Option (Nat × Bool)}
  (hR:R C.toCtx F g s w)(he:∀x a,ρ x=some a->Rz g a (ev x))(h:cK C (.call c) ρ K) :
  OutS C F g s K ((execOp ev ⟨dst,.call c,ty,pos,after,gd⟩).run C.P w):=by
 obtain⟨cal,args,ats⟩:=c;obtain⟨args⟩:=args;obtain⟨ats⟩:=ats;simp only[cK]at h;split at h
 .rename_i x t;split at h
  .rename_i a ti hx hti;obtain⟨d,hd,hok⟩:=iX hti;split at h
   .rename_i hk;rw[hk]at hok;simp only[TK.ok]at hok;subst hok;cases a<;>simp only at h
    rename_i str;have hv:=(he x _ hx).str_inv;have e1:(ByteArray.mk str.toArray).size=str.length:=by simp[ByteArray.size]
    simp only[execOp,resolve,invoke,builtin,bP,cD,bN,lC,bS,cY,hv];simp only[Builtin.len_,oF,kM,bP,dX hd,bN,cD,goInt,e1];exact OutS.val hR (.int _ _) h
   .rename_i e hk;rw[hk]at hok;simp only[TK.ok]at hok;subst hok;cases a<;>simp only[mK]at h
    .have hv:=(he x _ hx).nils_inv;simp only[execOp,resolve,invoke,builtin,bP,cD,bN,lC,bS,cY,hv];simp only[Builtin.len_,oF,kM,bP,dX hd,bN,cD,goInt];exact OutS.val hR (.int _ _) h
    .obtain⟨ad,cap,hv,_⟩:=(he x _ hx).list_inv;simp only[execOp,resolve,invoke,builtin,bP,cD,bN,lC,bS,cY,hv];simp only[Builtin.len_,oF,kM,bP,dX hd,bN,cD,goInt];exact OutS.val hR (.int _ _) h
    rotate_left
    .obtain⟨a,hv⟩:=(he x _ hx).emp_inv;simp only[execOp,resolve,invoke,builtin,bP,cD,bN,lC,bS,cY,hv];simp only[Builtin.len_,oF,kM,bP,dX hd,bN,cD,goInt];exact OutS.val hR (.int _ _) h
    .obtain⟨k,hv,_⟩:=(he x _ hx).mg_inv;simp only[execOp,resolve,invoke,builtin,bP,cD,bN,lC,bS,cY,hv];simp only[Builtin.len_,oF,kM,bP,dX hd,bN,cD,goInt];exact OutS.val hR (.int _ _) h
    .obtain⟨k,cap,hv,_⟩:=(he x _ hx).ml_inv;simp only[execOp,resolve,invoke,builtin,bP,cD,bN,lC,bS,cY,hv];simp only[Builtin.len_,oF,kM,bP,dX hd,bN,cD,goInt];exact OutS.val hR (.int _ _) h
   .exact h.elim
  .exact h.elim
 .rename_i x;split at h
  .rename_i tk y ys hx;obtain⟨ad,cap,hv,hm,hc,_,hh⟩:=(he x _ hx).list_inv;have hr:=he x _ hx;rw[hv]at hr;rcases hh with hh|⟨bk,off,sz,pre,rfl,_⟩
   .cases hh
   have hc0:cap≠0:=by simp at hc;omega
   simp only[execOp,resolve,invoke,builtin,bP,cD,bN,lC,bS,cY,hv]
   have e0:(Builtin.unsafeSliceData_ ⟨ats⟩ ty #[.slice (some ⟨bk,off,none⟩) (y::ys).length cap]).run C.P w=.ok (.pointer (some ⟨bk,off,none⟩)) w:=by
    have e1:Builtin.unsafeSliceData_ ⟨ats⟩ ty #[.slice (some ⟨bk,off,none⟩) (y::ys).length cap]=(if cap≠0 then pure (.pointer (some ⟨bk,off,none⟩))
     else do if(<-viewAt bk).isSome then pure (.pointer (some ⟨bk,off,none⟩)) else pure (.pointer (some ⟨<-newObj (.view ⟨bk,off,none⟩ (<-elemOf ty)),0,none⟩))):=rfl
    rw[e1,if_pos hc0];rfl
   rw[e0];exact OutS.val hR (.sd tk _ _ cap hc0 hr) h
  .rename_i hx;have hv:=(he x _ hx).nils_inv;simp only[execOp,resolve,invoke,builtin,bP,cD,bN,lC,bS,cY,hv];have e0:(Builtin.unsafeSliceData_ ⟨ats⟩ ty #[.slice none 0 0]).run C.P w=.ok (.pointer none) w:=rfl;rw[e0];exact OutS.val hR .nilp h
  .exact h.elim
 .rename_i x t;split at h
  .rename_i ti hx hti;split at h
   .rename_i e hk;obtain⟨d,hd,hok⟩:=iX hti;rw[hk]at hok;simp only[TK.ok]at hok;subst hok;have hv:=(he x _ hx).nils_inv;simp only[execOp,resolve,invoke,builtin,bP,cD,bN,lC,bS,cY,hv];have e0:(Builtin.cap_ ⟨[t]⟩ ty #[.slice none 0 0]).run C.P w=.ok (.int .i64 0) w:=by simp[Builtin.cap_,goInt,dX hd]
    rw[e0];exact OutS.val hR (.int _ _) h
   .exact h.elim
  .exact h.elim
 .rename_i x y;split at h
  .rename_i j a k b hx hy;have hv:=(he x _ hx).int_inv;have hu:=(he y _ hy).int_inv;simp only[execOp,resolve,invoke,builtin,bP,cD,bN,lC,bS,cY,hv,hu];simp only[Builtin.max_,List.foldlM_cons,List.foldlM_nil,Builtin.max2,bP,cD,bN,pure_bind];exact OutS.val hR (.int _ _) h
  .exact h.elim
 .rename_i x y;split at h
  .rename_i j a k b hx hy;have hv:=(he x _ hx).int_inv;have hu:=(he y _ hy).int_inv;simp only[execOp,resolve,invoke,builtin,bP,cD,bN,lC,bS,cY,hv,hu];simp only[Builtin.min_,List.foldlM_cons,List.foldlM_nil,Builtin.min2,bP,cD,bN,pure_bind];exact OutS.val hR (.int _ _) h
  .exact h.elim
 .exact h.elim
end
end
section
section
variable {C:Cx} {F:Fr} {g:Gh} {s:St} {w:World} {K:A->Prop} {ρ:Operand->Option A} {ev:Operand->Value}
theorem sG{op:Op}{ty:TypeId}{dst:Option Tmp}{pos:String}{after:Array Edge}{gd:Option (Nat × Bool)}
  (hR:R C.toCtx F g s w)(he:∀x a,ρ x=some a->Rz g a (ev x))(h:cK C op ρ K) :
  OutS C F g s K ((execOp ev ⟨dst,op,ty,pos,after,gd⟩).run C.P w):=by
 cases op
 case move x =>
  simp only[cK]at h;split at h
  .rename_i v hv;exact OutS.val hR (he x v hv) h
  .exact h.elim
 case assign x =>
  simp only[cK]at h;split at h
  .rename_i v hv;exact OutS.val hR (he x v hv) h
  .exact h.elim
 case pick c a b =>
  simp only[cK]at h;split at h
  .rename_i hc;split at h
   .rename_i v hv;simp only[execOp,bP,cD,(he c _ hc).bool_inv,asBool,bN,↓reduceIte];exact OutS.val hR (he a v hv) h
   .exact h.elim
  .rename_i hc;split at h
   .rename_i v hv;simp only[execOp,bP,cD,(he c _ hc).bool_inv,asBool,bN,cJ,↓reduceIte];exact OutS.val hR (he b v hv) h
   .exact h.elim
  .exact h.elim
 case binOp=>exact aRu hR he h
 case unOp op t x =>
  simp only[cK]at h;split at h
  .rename_i a ha;split at h
   .rename_i v hv;simp only[execOp];unfold unA at hv;split at hv<;>simp only[bJ,reduceCtorEq]at hv<;>subst hv
    .exact eX hR (by simp[Op.unary,(he x _ ha).bool_inv]) (.bool _) h
    .exact eX hR (by simp[Op.unary,Op.intArith,(he x _ ha).int_inv]) (.int _ _) h
    .refine eX hR ?_ (.int _ _) h;rw[(he x _ ha).int_inv];simp only[Op.unary,Op.intBits,cD]
   .exact h.elim
  .exact h.elim
 case nilCheck x =>
  simp only[cK]at h;split at h
  .rename_i b o hx;obtain⟨k,hv,hb⟩:=(he x _ hx).ptr_inv;simp only[execOp,hv];exact OutS.val hR (.ptr b o k hb) h
  .rename_i cs o hx;have hv:=he x _ hx;obtain⟨b,off,pre,e,_⟩:=hv.eptr_inv;simp only[execOp,e];rw[e]at hv;exact OutS.val hR hv h
  .exact h.elim
 case fieldAddr=>exact aN2 hR he h
 case field=>exact aRq hR he h
 case typeAssert x xt t ok =>
  cases ok
  .simp only[cK]at h
  .simp only[cK]at h;split at h
   .rename_i u v ti hx hti;split at h
    .rename_i fs hk;obtain⟨rfl,h⟩:=h;obtain⟨fields,hu,_⟩:=aCo hti hk;obtain⟨y,hv,hr⟩:=(he x _ hx).iface_inv;simp only[execOp];refine eX (v:=.tuple #[y,.bool true]) hR ?_ (.tuple [v,.bool true] [y,.bool true] rfl λj c z hc hz=>?_) h
     .simp[Instr.typeAssert,dX hu,hv]
     ·match j with
      | 0=>simp at hc hz;subst hc;subst hz;exact hr
      | 1=>simp at hc hz;subst hc;subst hz;exact .bool _
      | _+2=>simp at hc
    .exact h.elim
   .exact h.elim
 case extract x i =>
  simp only[cK]at h;split at h
  .rename_i vs hx;split at h
   .rename_i v hv;obtain⟨us,e,hr⟩:=(he x _ hx).tuple_inv;obtain⟨u,hu,hru⟩:=hr.get hv;simp only[execOp];exact eX hR (by simp[Instr.extract,e,hu]) hru h
   .exact h.elim
  .exact h.elim
 case makeInterface t x =>
  simp only[cK]at h;split at h
  .rename_i a ti ha hti;obtain⟨d,hd,hok⟩:=iX hti
   have hn:(∀ms,d≠.interface ms)/\K (.iface t a):=by
    cases hk:ti.k<;>rw[hk]at h hok<;>simp only[TK.ok]at hok<;>simp only at h
    all_goals first
     | (subst hok;exact⟨by simp,h⟩)
     | (obtain⟨fields,rfl,_⟩:=hok;exact⟨by simp,h⟩)
     | exact⟨hok.2,h⟩
   simp only[execOp];refine eX hR (v:=.iface t (ev x)) ?_ (.iface t a _ (he x a ha)) hn.2;simp only[Instr.makeInterface,bP,dX hd,bN];cases d<;>first|rfl|exact absurd rfl (hn.1 _)
  .exact h.elim
 case makeFunc fn first caps =>
  simp only[cK]at h;cases fn<;>simp only at h
  rename_i f;split at h
  .rename_i l m hl hm;simp only[execOp];have r1:=aCx he hl;have r2:=aCx he hm;obtain⟨fl⟩:=first
   obtain⟨cl⟩:=caps;exact eX hR (v:=.func (.func f) (fl.map ev).toArray (cl.map ev).toArray) (by simp[Instr.makeFunc]) (.fn f l m _ _ r1.1 r2.1 r1.2 r2.2) h
  .exact h.elim
 case convert a b x =>
  simp only[cK]at h;split at h
  .rename_i k n ta tb hx hta htb;obtain⟨d,hd,hok⟩:=iX hta;obtain⟨d',hd',hok'⟩:=iX htb;split at h
   .rename_i k' hk;rw[hk]at hok';simp only[TK.ok]at hok';subst hok';simp only[execOp];refine eX hR ?_ (.int _ _) h;simp only[convert,bP,dX hd,dX hd',bN,(he x _ hx).int_inv,Conv.intToInt];cases d<;>rfl
   .exact h.elim
  .rename_i str ta tb hx hta htb;obtain⟨d,hd,hok⟩:=iX hta;obtain⟨d',hd',hok'⟩:=iX htb;split at h
   .rename_i hk;rw[hk]at hok';simp only[TK.ok]at hok';subst hok';simp only[execOp];refine eX hR (v:=.string ⟨str.toArray⟩) ?_ (.str _) h;simp only[convert,bP,dX hd,dX hd',bN,(he x _ hx).str_inv];cases d<;>rfl
   .rename_i e hk;rw[hk]at hok';simp only[TK.ok]at hok';subst hok';split at h
    .rename_i te hka hte;rw[hka]at hok;simp only[TK.ok]at hok;subst hok;split at h
     .rename_i hkt;obtain⟨h1,h2,h⟩:=h;obtain⟨d2,hd2,hok2⟩:=iX hte;rw[hkt]at hok2;simp only[TK.ok]at hok2;subst hok2;simp only[execOp,(he x _ hx).str_inv];rw[zI,run_bytes_of_string w a b e _ hd hd' hd2];have hcap:=grownCap_ge w (ByteArray.mk str.toArray).size 0 e;have hsz:(ByteArray.mk str.toArray).size=str.length:=by simp[ByteArray.size]
      rw[hsz]at hcap⊢;have hcm:=grownCap_le_maxLen w str.length 0 e h2
      have hrow:∃rest,(bytesRow ⟨str.toArray⟩ (grownCap w str.length 0 e))=((str.map λc=>Value.int .u8 c.toNat)++rest).toArray :=
       ⟨List.replicate (grownCap w str.length 0 e-str.length) (.int .u8 0),by simp[bytesRow,hsz]⟩
      obtain⟨rest,hrow⟩:=hrow;rw[hrow]
      obtain⟨hR',hle⟩:=R.newRow (w:=w.drew) (hR.heap rfl) (str.map λc=>Value.int .u8 c.toNat) e rest
       ((((str.map λc=>Value.int .u8 c.toNat)++rest).toArray).size,(((str.map λc=>Value.int .u8 c.toNat)++rest).toArray).size+1)
      refine⟨_,_,hle,hR',?_,h⟩
      have:=Rz.list (g:=g.know w.drew.heap.size (str.map λc=>Value.int .u8 c.toNat)) none (str.map λc=>A.int .u8 c.toNat) w.drew.heap.size 0 1 (grownCap w str.length 0 e)
       (str.map λc=>Value.int .u8 c.toNat) (by simp[Gh.know]) bD (by simpa using hcap) hcm
       (λy hy=>by simp only[cC]at hy;obtain⟨c,_,rfl⟩:=hy;rfl)
       (λy hy z hz=>by simp only[cC]at hy;obtain⟨c,_,rfl⟩:=hy;simp[A.cells]at hz;subst hz;rfl)
       (fun i y j z v hy hz hv => by
        rw[lB]at hy;cases hc:str[i]? with
        | none=>rw[hc]at hy;cases hy
        | some c =>
         rw[hc]at hy;simp only[mQ,bJ]at hy;subst hy;cases j with
         | zero =>
          simp[A.cells]at hz;subst hz;simp[hc]at hv;subst hv;exact .int _ _
         | succ j=>simp[A.cells]at hz)
       bD
      simpa using this
     .exact h.elim
    .exact h.elim
   .exact h.elim
  .exact h.elim
 case build=>exact aSx hR he h
 case buildSlice=>exact aMZ hR he h
 case load t x =>
  simp only[cK]at h;split at h
  .rename_i cs o hx;split at h
   .rename_i v hv;obtain⟨u,hu,hr⟩:=aOx hR hv (he x _ hx);exact eX hR hu hr h
   .exact h.elim
  .exact h.elim
 case slice=>exact aRH hR he h
 case indexAddr=>exact aNZ hR he h
 case index=>exact aSb hR he h
 case call=>exact aSC hR he h
 all_goals (simp only[cK]at h)
def sQ(C:Cx)(s:St)(o:Ob)(f:Nat->A)(KV:St->A->Prop):Prop:=match C.det with
 | false=>∀b,s.getO b=none->KV (s.setO b o) (f b)
 | true=>KV (s.newO o) (f s.lim)
def aDx(C:Cx)(s:St)(t:TypeId)(cs:List A)(KV:St->A->Prop):Prop:=sQ C s (.cells t cs) (λb=>.ptr b 0) KV
def newT(C:Cx)(s:St)(n:Nat)(e:TypeId)(ys:List A)(KV:St->A->Prop):Prop:=match C.det with
 | false=>∀t,s.getT t=none->KV (s.setT t (n,e)) (.list (some t) ys)
 | true=>KV (s.newT (n,e)) (.list (some s.lim) ys)
def aDG(s:St)(n:Nat)(e:TypeId)(sz:Nat)(cs:List A)(KV:St->A->Prop):Prop :=
 ∀(b cap:Nat) (J:List A),s.getO b=none->n<=cap->J.length=(cap-n) * sz->(∀c,c∈J->c.one=true)->KV (s.setO b (.cells e (cs++J))) (.mg b n cap)
def oQ(C:Cx)(s:St)(n:Nat)(e:TypeId)(sz:Nat)(ys:List A)(KV:St->A->Prop):Prop:=match C.det with
 | true=>newT C s n e ys KV
 | false=>match Nat.beq C.mu 1 with
  | false=>newT C s n e ys KV
  | true=>0<n/\aDG s n e sz (flat ys) KV
def aBx(C:Cx):Bool:=match C.det with
 | true=>false
 | false=>Nat.beq C.mu 2
def aAx(C:Cx)(s:St)(t:TypeId)(KV:St->A->Prop)(a:A):Prop:=match a,C.tt t with
 | .list _ es,some ti=>(match ti.k with
  | .slice e=>∀k,s.getT k=none->KV (s.setT k (es.length,e)) (.list (some k) es)
  | _=>False)
 | _,_=>False
def sM(det:Bool)(s:St)(b n cap:Nat)(e:TypeId)(sz m:Nat)(ys:List A)(KV:St->A->Prop):Option Ob->Prop
 | some (.cells e' cs)=>(det=false/\e'=e/\cs.length=cap * sz/\n<=cap/\n+m<=4294967296/\0<m) /\
  ∀(b' cap':Nat) (J:List A),(b'=b/\cap'=cap\/s.getO b'=none)->n+m<=cap'->J.length=(cap'-(n+m)) * sz->(∀c,c∈J->c.one=true) ->
   KV (s.setO b' (.cells e (cs.take (n * sz)++(flat ys++J)))) (.mg b' (n+m) cap')
 | _=>False
def aAy(C:Cx)(s:St)(n:Nat)(e:TypeId)(KV:St->A->Prop):Prop:=match C.det with
 | false=>∀t,s.getT t=none->KV (s.setT t (0,e)) (.gr t n)
 | true=>KV (s.newT (0,e)) (.gr s.lim n)
def uH(C:Cx)(s:St)(n:Nat)(e:TypeId)(ys:List A)(sz:Nat)(KV:St->A->Prop):Prop:=match C.det with
 | false=>∀t,s.getT t=none->KV (s.setT t (n,e)) (.pen t ys sz)
 | true=>KV (s.newT (n,e)) (.pen s.lim ys sz)
def yG(C:Cx)(s:St)(ti:TI)(t u:TypeId)(z:A)(KV:St->A->Prop)(a:A):Prop:=match ti.k with
 | .slice e=>match C.tt e with
  | some te=>(u=t/\te.sz≠0/\te.bytes<=32768/\z.cells.length=te.sz)/\(match a with
   | .nils=>uH C s 0 e [] te.sz KV
   | .list tk es=>match tk with
    | some k=>(s.getT k=some (es.length,e)/\(∀y,y∈es->y.cells.length=te.sz)/\es.length+1<=4294967296)/\uH C (s.delT k) es.length e es te.sz KV
    | none=>False
   | _=>False)
  | none=>False
 | _=>False
def sZ(C:Cx)(s:St)(k n z:Nat)(ti:TI)(v:A)(KV:St->A->Prop):Prop:=match s.getT k with
 | some (m,e)=>match C.tt e with
  | some te=>(m=n/\te.sz=z/\ti.sz=z/\v.cells.length=z/\fP v.cells=true)/\KV ((s.setT k (n+1,e)).setL (some (k,n,v))) (.tuple [])
  | none=>False
 | none=>False
def aBv(t:Nat)(es:List A)(sz:Nat)(q:Nat × Nat × A):A:=if q.1=t/\q.2.1=es.length/\q.2.2.cells.length=sz then .list (some t) (es++[q.2.2]) else .pen t es sz
def jI(s:St):A->A
 | .pen t es sz=>match s.ls with
  | some q=>aBv t es sz q
  | none=>.pen t es sz
 | a=>a
def eP(bs:List UInt8):List A:=bs.map λc=>.int .u8 c.toNat
def aAv(C:Cx)(ti:TI)(u:TypeId):Option TypeId:=match ti.k with
 | .slice e=>match C.tt u,C.tt e with
  | some tu,some te=>match tu.k with
   | .string=>match te.k with
    | .int .u8=>if te.sz=1/\te.bytes=1 then some e else none
    | _=>none
   | _=>none
  | _,_=>none
 | _=>none
def yK(C:Cx)(s:St)(e:TypeId)(bs:List UInt8)(KV:St->A->Prop):A->Prop
 | .nils=>bs.length<=4294967296/\newT C s bs.length e (eP bs) KV
 | .list (some t) es=>(s.getT t=some (es.length,e)/\(∀y,y∈es->y.cells.length=1)/\es.length+bs.length<=4294967296) /\
   KV (s.setT t (es.length+bs.length,e)) (.list (some t) (es++eP bs))
 | _=>False
def qP(C:Cx)(s:St)(e:TypeId)(te:TI)(ys:List A)(KV:St->A->Prop):A->Prop
 | .nils=>ys.length<=4294967296/\oQ C s ys.length e te.sz ys KV
 | .emp=>match ys with
  | []=>KV s .emp
  | y::r=>((y::r).length<=4294967296/\0<(y::r).length)/\oQ C s (y::r).length e te.sz (y::r) KV
 | .mg b n cap=>sM C.det s b n cap e te.sz ys.length ys KV (s.getO b)
 | .list (some t) es=>s.getT t=some (es.length,e)/\(∀y,y∈es->y.cells.length=te.sz)/\es.length+ys.length<=4294967296 /\
   KV (s.setT t (es.length+ys.length,e)) (.list (some t) (es++ys))
 | _=>False
def yI(C:Cx)(s:St)(ti:TI)(t u:TypeId)(KV:St->A->Prop)(a:A):Prop:=match ti.k with
 | .slice e=>match C.tt e with
  | some _=>u=t/\(match a with
   | .nils=>KV s .nils
   | .emp=>KV s .emp
   | .list tk es=>KV s (.list tk es)
   | .ml b o n=>KV s (.ml b o n)
   | _=>False)
  | none=>False
 | _=>False
def yL(C:Cx)(s:St)(ti:TI)(u:TypeId)(n:Int)(KV:St->A->Prop):A->Prop
 | .nils=>match ti.k with
  | .slice e=>match C.tt e,C.tt u with
   | some te,some tu=>match tu.k with
    | .int _=>(0<n/\n<=65536/\te.sz≠0/\te.bytes<=32768)/\aAy C s n.toNat e KV
    | _=>False
   | _,_=>False
  | _=>False
 | _=>False
def aUg(C:Cx)(s:St)(x:List UInt8)(KV:St->A->Prop):Prop:=sQ C s (.iter x 0) (λb=>.ptr b 0) KV
def aDm(s:St)(b:Nat)(x:List UInt8)(pos:Nat)(KV:St->A->Prop):Prop :=
 if pos<x.length then KV (s.setO b (.iter x (pos+(Utf8.decode ⟨x.toArray⟩ pos).2))) (.tuple [.bool true,.int .i64 pos,.int .i32 (Utf8.decode ⟨x.toArray⟩ pos).1])
 else KV s (.tuple [.bool false])
def bF(C:Cx)(op:Op)(ρ:Operand->Option A)(KV Kp:St->A->Prop)(s:St):Prop :=
 match op with
 | .load t x=>match ρ x with
  | some (.ptr b o)=>match s.getO b with
   | some (.cells _ cs)=>match sO C t cs o with
    | some v=>KV s v
    | none=>False
   | _=>False
  | _=>cK C (.load t x) ρ (KV s)
 | .store t x y=>match ρ x,ρ y,C.tt t with
  | some (.ptr b o),some v,some ti=>match s.getO b with
   | some (.cells e cs)=>((jI s v).cells.length=ti.sz/\o+(jI s v).cells.length<=cs.length/\fP (jI s v).cells=true)/\KV (s.setO b (.cells e (kO cs o (jI s v).cells))) (.tuple [])
   | _=>False
  | some (.rm k n z),some v,some ti=>sZ C s k n z ti v KV
  | _,_,_=>False
 | .alloc t=>match C.tt t with
  | some ti=>aDx C s t ti.zero KV
  | none=>False
 | .buildSlice t len parts=>match aBx C with
  | false=>cK C (.buildSlice t len parts) ρ (KV s)
  | true=>cK C (.buildSlice t len parts) ρ (KV s)\/cK C (.buildSlice t len parts) ρ (aAx C s t KV)
 | .box t x=>match ρ x with
  | some v=>fP v.cells=true/\aDx C s t v.cells KV
  | none=>False
 | .convert a b x=>match ρ x with
  | some (.ptr k 0)=>match s.getO k,C.cv a b with
   | some (.cells e cs),some e'=>match C.tt e' with
    | some te=>((e=e'\/C.cw e=some e')/\te.sz<=cs.length)/\KV s (.ptr k 0)
    | none=>False
   | _,_=>False
  | _=>cK C (.convert a b x) ρ (KV s)
 | .makeSlice t l c=>match ρ l,ρ c,C.tt t with
  | some (.int _ n),some (.int _ m),some ti=>match ti.k with
   | .slice e=>match C.tt e with
    | some te=>(n=m/\0<n/\te.sz=1/\te.bytes * n.toNat<=281474976710656/\n<=4294967296)/\sQ C s (.cells e (List.replicate n.toNat te.zero).flatten) (λb=>.ml b 0 n.toNat) KV
    | none=>False
   | _=>False
  | _,_,_=>False
 | .panic x=>match ρ x with
  | some (.iface t a)=>Kp s (.iface t a)
  | _=>False
 | .range t x=>match ρ x,C.tt t with
  | some (.str x),some ti=>match ti.k with
   | .string=>aUg C s x KV
   | _=>False
  | _,_=>False
 | .next x true=>match ρ x with
  | some (.ptr b 0)=>match s.getO b with
   | some (.iter x pos)=>aDm s b x pos KV
   | _=>False
  | _=>False
 | .call c=>match c.callee with
  | .value f=>match ρ f,mE ρ c.args.toList with
   | some (.fn f first caps),some az=>Den C f (first++az++caps) KV Kp s
   | _,_=>False
  | .builtin .append=>match c.args.toList,c.argTypes.toList with
   | [x,y],[t,u] => match ρ x,ρ y,C.tt t with
    | some a,some (.list _ ys),some ti=>match ti.k with
     | .slice e=>match C.tt e with
      | some te=>(u=t/\te.sz≠0/\te.bytes<=32768)/\(∀y,y∈ys->y.cells.length=te.sz)/\qP C s e te ys KV a
      | none=>False
     | _=>False
    | some a,some (.str bs),some ti=>match aAv C ti u with
     | some e=>yK C s e bs KV a
     | none=>False
    | some a,some (.int .i64 n),some ti=>yL C s ti u n KV a
    | some a,some .nils,some ti=>yI C s ti t u KV a
    | some a,some .emp,some ti=>yI C s ti t u KV a
    | some a,some (.hl z),some ti=>yG C s ti t u z KV a
    | _,_,_=>False
   | _,_=>False
  | .builtin .unsafeString=>match c.args.toList,c.argTypes.toList with
   | [p,n],[pt,_]=>match ρ p,ρ n with
    | some .nilp,some (.int .i64 n)=>n=0/\KV s (.str [])
    | some (.sd (some t) es),some (.int .i64 n)=>match C.us pt with
     | some e=>(n=es.length/\s.getT t=some (es.length,e))/\∃bs,es=eP bs/\KV (s.delT t) (.str bs)
     | none=>False
    | _,_=>False
   | _,_=>False
  | .builtin .panic=>match c.args.toList with
   | [x]=>match ρ x with
    | some (.iface t a)=>Kp s (.iface t a)
    | _=>False
   | _=>False
  | _=>cK C (.call c) ρ (KV s)
 | .binOp .eql t x y ty=>match ρ x,ρ y with
  | some (.list _ []),some .nils=>cK C (.binOp .eql t x y ty) ρ (KV s)\/(C.nl t=true/\KV s (.bool true)/\KV s (.bool false))
  | _,_=>cK C (.binOp .eql t x y ty) ρ (KV s)
 | op=>cK C op ρ (KV s)
theorem pD{KV Kp:St->A->Prop}{r:Result Next}(h:OutS C F g s (KV s) r):OutV C F g KV Kp r:=by
 cases r with
 | ok n w=>cases n<;>simp only[OutS]at h;obtain⟨g',a,h1,h2,h3,h4⟩:=h;exact⟨g',a,s,h1.le,h2,h3,h4⟩
 | halt h' w=>simp only[OutS]at h
theorem aJU(x:Sem Unit)(P:Program)(w:World):((do x;pure Next.skip):Sem Next).run P w=(x.run P w).andThen λ_ w'=>.ok .skip w':=by
 simp
theorem R.cellsOf(hR:R C.toCtx F g s w){b:Nat}{e:TypeId}{cs:List A}(hb:s.getO b=some (.cells e cs)) :
  ∃k vs rest,g.beta b=some k/\w.heap[k]?=some (.cells (vs++rest).toArray e)/\Rzs g cs vs/\∀c,c∈cs->c.one=true:=by
 obtain⟨k,h1,⟨vs,rest,h2,h3,h4⟩,_⟩:=hR.obj b _ hb;exact⟨k,vs,rest,h1,h2,h3,h4⟩
theorem aSW{KV Kp:St->A->Prop}{t ty:TypeId}{x:Operand}{dst:Option Tmp}{pos:String}{after:Array Edge}{gd:Option (Nat × Bool)}
  (hR:R C.toCtx F g s w)(he:∀x a,ρ x=some a->Rz g a (ev x))(h:bF C (.load t x) ρ KV Kp s) :
  OutV C F g KV Kp ((execOp ev ⟨dst,.load t x,ty,pos,after,gd⟩).run C.P w):=by
 simp only[bF]at h;split at h
 .rename_i b o hx;split at h
  .rename_i e cs hb;split at h
   .rename_i v hv;obtain⟨k,vs,rest,hbk,hh,hrs,hone⟩:=hR.cellsOf hb;obtain⟨k',hp,hbk'⟩:=(he x _ hx).ptr_inv;rw[hbk]at hbk';cases hbk'
    have cell:∀j u,vs[j]?=some u->w.cell? ⟨k,j,none⟩=some u:=by
     intro j u hj;simp only[World.cell?,hh,Option.isSome_none,cJ,↓reduceIte,oF];rw[kC (dV.1 hj).1];exact hj
    refine pD (s:=s) (KV:=KV) ?_;simp only[execOp,hp];simp only[sO]at hv;split at hv
    .rename_i ti hti;split at hv
     .rename_i hag;split at hv
      .rename_i hsz;simp only[bJ]at hv;subst hv
       have hc:∀j v,((vs.drop o).take ti.sz)[j]?=some v->w.cell? ((⟨k,o,none⟩:Addr).add j)=some v:=by
        intro j v hj;rw[nK]at hj;split at hj
        .rw[oW]at hj;rw[lE,cell _ _ hj]
        .simp at hj
       have hlen':((vs.drop o).take ti.sz).length=ti.sz:=by
        have:=hrs.1;rw[bK,dR];omega
       have hrun:=run_loadCells_list (P:=C.P) w ⟨k,o,none⟩ _ hc;rw[hlen']at hrun;have hq:=(hrs.drop o).take ti.sz;refine eX (v:=.agg ((vs.drop o).take ti.sz).toArray) hR ?_ (.agg _ _ hq.1 (λc hc=>hone c (tE (qX hc))) hq.2) h;simp only[Instr.loadAt,Instr.sureAddr,loadVar,bP,cD,bN,aAc hti,hag,↓reduceIte,lR hti,hrun]
      .simp at hv
     .rename_i hag;obtain⟨u,hu,hr⟩:=hrs.get hv;have hag':ti.k.agg=false:=by simpa using hag
      refine eX (v:=u) hR ?_ hr h;simp only[Instr.loadAt,Instr.sureAddr,loadVar,bP,cD,bN,aAc hti,hag',cJ,↓reduceIte,run_load,cell _ _ hu]
    .simp at hv
   .exact h.elim
  .exact h.elim
 .exact pD (sG hR he h)
theorem yW{w:World}{b:Nat}{vs:Array Value}{e:TypeId}{fr:Nat × Nat}(hh:w.heap[b]?=some (.cells vs e fr))(us:Array Value):(w.setRow b us).heap[b]?=some (.cells us e fr):=setRow_heap w b vs us e fr hh
theorem zH{w:World}{b k:Nat}(hk:k≠b)(us:Array Value):(w.setRow b us).heap[k]?=w.heap[k]?:=by
 have:¬ b=k:=λe=>hk e.symm
 simp[World.setRow,Array.getElem?_modify,this]
theorem aPK{KV Kp:St->A->Prop}{a b ty:TypeId}{x:Operand}{dst:Option Tmp}{pos:String}{after:Array Edge}{gd:Option (Nat × Bool)}
  (hR:R C.toCtx F g s w)(he:∀x a,ρ x=some a->Rz g a (ev x))(h:bF C (.convert a b x) ρ KV Kp s) :
  OutV C F g KV Kp ((execOp ev ⟨dst,.convert a b x,ty,pos,after,gd⟩).run C.P w):=by
 simp only[bF]at h;split at h
 .rename_i k0 hx;split at h
  .rename_i e cs e' hb hcv;split at h
   .rename_i te hte;obtain⟨⟨hee,hsz⟩,hK⟩:=h;obtain⟨k,vs,rest,hbk,hh,hrs,hone⟩:=hR.cellsOf hb;have hr:=he x _ hx;obtain⟨k',hp,hbk'⟩:=hr.ptr_inv;rw[hbk]at hbk';cases hbk';have hcs:=C.hcs a b e' hcv;rw[hte]at hcs;simp only[mQ,bJ]at hcs;have hsz2:C.P.cellsOf e'<=(vs++rest).toArray.size:=by rw[<-hcs];have:=hrs.1;simp;omega
    have hrun:(convert a b (.pointer (some ⟨k,0,none⟩))).run C.P w=.ok (.pointer (some ⟨k,0,none⟩)) w:=by
     rcases hee with rfl|hw
     .exact C.hcv a b e hcv w k (vs++rest).toArray hh hsz2
     .exact C.hcw a b e' e hcv hw w k (vs++rest).toArray hh hsz2
    refine pD (s:=s) (KV:=KV) ?_;simp only[execOp,hp];exact eX hR hrun (.ptr k0 0 k hbk) hK
   .exact h.elim
  .exact h.elim
 .exact pD (sG hR he h)
theorem aGe{KV Kp:St->A->Prop}{o:Obj}{ob:Ob}{v:Value}{f:Nat->A}{x:Sem Value}(hR:R C.toCtx F g s w)(ho:ObRz g ob (some o))
  (hf:∀g' b,g'.beta b=some w.heap.size->Rz g' (f b) v)
  (hx:x.run C.P w=.ok v (w.alloc o))(hK:sQ C s ob f KV) :
  OutV C F g KV Kp (((do let v <-x;pure (Next.value v)):Sem Next).run C.P w):=by
 rw[zI,hx];unfold sQ at hK;cases hd:C.det with
 | false =>
  rw[hd]at hK;obtain⟨b,hb⟩:=hR.some_free;exact⟨_,_,_,zO hb _,hR.newObj ho hb (s':=s.setO b ob) (λq=>aJ s b ob q) (λq=>rfl) rfl (by show C.det=true->_;rw[hd];simp),hf _ b (by simp[Gh.bx]),hK b (hR.free hb)⟩
 | true =>
  rw[hd]at hK;have hb:=(hR.dtm hd s.lim (bT _)).1;exact⟨_,_,_,zO hb _,hR.newObj ho hb (s':=s.newO ob) (λq=>aHh s ob q) (λq=>rfl) rfl (λ_=>⟨Nat.le_succ _,jB _⟩),hf _ s.lim (by simp[Gh.bx]),hK⟩
theorem aJo{KV Kp:St->A->Prop}{t:TypeId}{v:Value}{cs:List A}{x:Sem Value}(hR:R C.toCtx F g s w)(hv:Rzs g cs v.cells.toList)(hone:∀c,c∈cs->c.one=true)
  (hx:x.run C.P w=.ok (.pointer (some ⟨w.heap.size,0,none⟩)) (w.alloc (.cells v.cells t)))
  (hK:aDx C s t cs KV) :
  OutV C F g KV Kp (((do let v <-x;pure (Next.value v)):Sem Next).run C.P w) :=
 aGe (ob:=.cells t cs) hR ⟨v.cells.toList,[],by simp,hv,hone⟩ (λg' b hb=>.ptr b 0 _ hb) hx hK
theorem aSm{KV Kp:St->A->Prop}{t ty:TypeId}{dst:Option Tmp}{pos:String}{after:Array Edge}{gd:Option (Nat × Bool)}
  (hR:R C.toCtx F g s w)(h:bF C (.alloc t) ρ KV Kp s) :
  OutV C F g KV Kp ((execOp ev ⟨dst,.alloc t,ty,pos,after,gd⟩).run C.P w):=by
 simp only[bF]at h;split at h
 .rename_i ti hti;obtain⟨z,hz,hzr⟩:=aA9 hti w;simp only[execOp];refine aJo (v:=z) (t:=t) hR (hzr g) (C.htt t ti hti).one ?_ h;simp only[Instr.alloc,bP,hz,bN,newVar,newRow,run_newObj,cD];rfl
 .exact h.elim
theorem aTO{KV Kp:St->A->Prop}{t ty:TypeId}{x:Operand}{dst:Option Tmp}{pos:String}{after:Array Edge}{gd:Option (Nat × Bool)}
  (hR:R C.toCtx F g s w)(he:∀x a,ρ x=some a->Rz g a (ev x))(h:bF C (.box t x) ρ KV Kp s) :
  OutV C F g KV Kp ((execOp ev ⟨dst,.box t x,ty,pos,after,gd⟩).run C.P w):=by
 simp only[bF]at h;split at h
 .rename_i v hv;obtain⟨h1,h2⟩:=h;simp only[execOp];refine aJo (v:=ev x) (t:=t) hR (he x v hv).cells (by simpa [fP]using h1) ?_ h2;simp only[Instr.box,bP,newVar,newRow,run_newObj,bN,cD];rfl
 .exact h.elim
theorem aHu{x:A}:∀n:Nat,(List.replicate n [x]).flatten=List.replicate n x
 | 0=>rfl
 | n+1=>by simp[List.replicate_succ]
theorem aNw{KV Kp:St->A->Prop}{t ty:TypeId}{l c:Operand}{dst:Option Tmp}{pos:String}{after:Array Edge}{gd:Option (Nat × Bool)}
    (hR:R C.toCtx F g s w)(he:∀x a,ρ x=some a->Rz g a (ev x))(h:bF C (.makeSlice t l c) ρ KV Kp s) :
    OutV C F g KV Kp ((execOp ev ⟨dst,.makeSlice t l c,ty,pos,after,gd⟩).run C.P w):=by
  simp only[bF]at h;split at h
  · rename_i kl n kc m ti hl hc hti
    obtain⟨d,hd,hok⟩:=iX hti;split at h
    · rename_i e hk
      rw[hk]at hok;simp only[TK.ok]at hok;subst hok;split at h
      · rename_i te hte
        obtain⟨⟨rfl,h0,h1,h2,h3⟩,hK⟩:=h;obtain⟨i,z,hi,his,hib,hiz,hzr⟩:=(C.htt e te hte).info;have hzl:=(C.htt e te hte).len;have hz1:=(C.htt e te hte).one
        obtain⟨x,hx⟩:∃x,te.zero=[x]:=by
          match hq:te.zero with
          | [x]=>exact⟨x,rfl⟩
          | []=>rw[hq,h1]at hzl;cases hzl
          | _::_::_=>rw[hq,h1]at hzl;simp at hzl
        obtain⟨v,hv⟩:∃v,z.cells=#[v]:=by
          have h4:=(hzr g).1;rw[hx]at h4
          match hq:z.cells.toList with
          | [v]=>exact⟨v,by apply Array.ext';rw[hq]⟩
          | []=>rw[hq]at h4;simp at h4
          | _::_::_=>rw[hq]at h4;simp at h4
        have hxv:Rz g x v:=by
          have:=hzr g;rw[hx,hv]at this;exact this.2 0 x v bD bD
        have hrun:=run_make (P:=C.P) w t e i z hd hi hiz kl kc n n aB (wO _)
          (by rw [hib]; have : ((te.bytes * n.toNat : Nat) : Int) ≤ 281474976710656 := by omega
              rw[Int.natCast_mul,Int.toNat_of_nonneg aB]at this;exact this) aB
        rw[his,h1,Nat.mul_one,hv]at hrun
        have hmc:madeCells #[v] n.toNat=(List.replicate n.toNat v).toArray:=by
          apply Array.ext
          · simp[madeCells]
          · intro j h5 h6
            simp[madeCells,Nat.mod_one]
        simp only[execOp,(he l _ hl).int_inv,(he c _ hc).int_inv];refine aGe (ob:=.cells e (List.replicate n.toNat te.zero).flatten) hR ⟨List.replicate n.toNat v,[],rfl,?_,?_⟩ (λg' b hb=>?_) (by rw[hmc]at hrun;simpa using hrun) hK
        · rw[hx,aHu]
          refine⟨by simp,λj a u ha hu=>?_⟩;rw[List.getElem?_replicate]at ha hu;split at ha
          · rename_i hj;rw[if_pos hj]at hu;cases ha;cases hu;exact hxv
          · cases ha
        · rw[hx,aHu]
          intro a ha;rw[List.eq_of_mem_replicate ha];exact hz1 x (by rw[hx];simp)
        · exact .ml b 0 _ _ _ hb (bT _) (by unfold maxLen;omega)
      · exact h.elim
    · exact h.elim
  · exact h.elim
theorem aSw{KV Kp:St->A->Prop}{t ty:TypeId}{x:Operand}{dst:Option Tmp}{pos:String}{after:Array Edge}{gd:Option (Nat × Bool)}
  (hR:R C.toCtx F g s w)(he:∀x a,ρ x=some a->Rz g a (ev x))(h:bF C (.range t x) ρ KV Kp s) :
  OutV C F g KV Kp ((execOp ev ⟨dst,.range t x,ty,pos,after,gd⟩).run C.P w):=by
 simp only[bF]at h;split at h
 .rename_i x' ti hx hti;split at h
  .rename_i hk;obtain⟨d,hd,hok⟩:=iX hti;rw[hk]at hok;simp only[TK.ok]at hok;subst hok;have hv:=(he x _ hx).str_inv;simp only[execOp];exact aGe (ob:=.iter x' 0) (o:=.stringIter ⟨x'.toArray⟩ 0) hR rfl (λg' b hb=>.ptr b 0 _ hb) (by rw[hv];exact run_range_string w t _ hd) h
  .exact h.elim
 .exact h.elim
theorem aTg{KV Kp:St->A->Prop}{ty:TypeId}{x:Operand}{str:Bool}{dst:Option Tmp}{pos:String}{after:Array Edge}{gd:Option (Nat × Bool)}
  (hR:R C.toCtx F g s w)(he:∀x a,ρ x=some a->Rz g a (ev x))(h:bF C (.next x str) ρ KV Kp s) :
  OutV C F g KV Kp ((execOp ev ⟨dst,.next x str,ty,pos,after,gd⟩).run C.P w):=by
 cases str
 .simp only[bF,cK]at h
 simp only[bF]at h;split at h
 .rename_i b hx;split at h
  .rename_i x' p hb;obtain⟨k,hv,hbk⟩:=(he x _ hx).ptr_inv;obtain⟨k',hbk',ho,_,_⟩:=hR.obj b _ hb;rw[hbk]at hbk';cases hbk';have hh:w.heap[k]?=some (.stringIter ⟨x'.toArray⟩ p):=ho;have hlt:k<w.heap.size:=(jA.1 hh).1;have hsz:(ByteArray.mk x'.toArray).size=x'.length:=by simp[ByteArray.size]
   simp only[execOp];rw[zI,hv];unfold aDm at h;split at h
   .rename_i hp
    have hrun:(Instr.next (.pointer (some ⟨k,0,none⟩)) true ty).run C.P w=.ok (.tuple #[.bool true,goInt p,.int .i32 (Utf8.decode ⟨x'.toArray⟩ p).1])
      { w with heap:=w.heap.setIfInBounds k (.stringIter ⟨x'.toArray⟩ (p+(Utf8.decode ⟨x'.toArray⟩ p).2)) }:=by
     simp only[Instr.next,getObj,setObj,bP,Sem.run,hh,Result.andThen,hsz,hp,if_true,hlt];rfl
    rw[hrun];refine⟨g,_,_,gR g,hR.setObj hb hbk (ob:=.iter x' _) (λk hk=>?_) ?_,?_,h⟩
    .simp[aBF (Ne.symm hk)]
    .simp[ObRz,hlt]
    .refine .tuple _ [_,_,_] rfl λj c v hc hv=>?_
     match j with
     | 0=>simp at hc hv;subst hc;subst hv;exact .bool _
     | 1=>simp at hc hv;subst hc;subst hv;exact .int _ _
     | 2=>simp at hc hv;subst hc;subst hv;exact .int _ _
     | _+3=>simp at hc
   .rename_i hp
    have hrun:(Instr.next (.pointer (some ⟨k,0,none⟩)) true ty).run C.P w=.ok (.tuple #[.bool false]) w:=by
     simp only[Instr.next,getObj,bP,Sem.run,hh,Result.andThen,hsz,hp,if_false];rfl
    rw[hrun];refine⟨g,_,_,gR g,hR,?_,h⟩;refine .tuple _ [_] rfl λj c v hc hv=>?_
    match j with
    | 0=>simp at hc hv;subst hc;subst hv;exact .bool _
    | _+1=>simp at hc
  .exact h.elim
 .exact h.elim
end
end
end Go.AV
