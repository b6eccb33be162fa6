/-
  Of DefStrings.
-/
import Derived.WalkKit
import Derived.Orders
set_option linter.all false
set_option maxRecDepth 99999
set_option maxHeartbeats 0
namespace Go.AV
open Go
def bK:=@List.getElem?_eq_getElem
def qG:=@Nat.le_trans
def aP:=@Option.some.injEq
def cY:=@List.mem_singleton
def bU:=@List.map_cons
def bG:=@Nat.le_refl
def aV:=@Sem.run_bind
def dH:=@List.getElem?_eq_some_iff
def dQ:=@List.map_append
def bD:=@List.map_nil
def eJ:=@List.eq_nil_of_length_eq_zero
def cO:=@List.mem_map
def fL:=@Bool.false_and
def bS:=@Nat.zero_le
def gY:=@Bool.and_false
def cG:=@decide_eq_true_eq
def dP:=@List.mem_of_getElem?
def cI:=@run_underlying
def dW:=@Bool.not_true
def fP:=@Array.getElem?_eq_some_iff
def fE:=@decide_eq_false
def eL:=@List.length_take
def eZ:=@Bool.true_and
def gZ:=@Bool.false_or
def eR:=@decide_eq_true
def eX:=@Bool.not_false
def fQ:=@List.getElem_of_mem
def xQ:=@List.drop_eq_getElem_cons
def iF:=@Bool.and_true
def fK:=@Nat.lt_succ_self
def fD:=@List.all_eq_true
def kI:=@Bool.true_or
def jR:=@List.getElem?_append_left
def jJ:=@Option.map_eq_some_iff
def mM:=@List.getElem?_drop
def fF:=@Nat.zero_add
def iD:=@List.map_toArray
def kX:=@List.getElem?_toArray
def kH:=@Bool.or_false
def eH:=@Nat.add_mul
def gW:=@List.take_of_length_le
def lO:=@Nat.mul_le_mul_right
def iT:=@List.getElem_mem
def gX:=@List.mem_append
def kY:=@List.getElem?_take
def oZ:=@Bool.not_eq_true'
def fY:=@decide_eq_decide
def pC:=@List.drop_drop
def kJ:=@Bool.or_true
def aBi:=@List.takeWhile_cons_of_pos
def xP:=@List.takeWhile_cons_of_neg
def nJ:=@List.mem_of_mem_take
def cQ:=@List.append_assoc
def oG:=@UInt8.toNat_inj
def jS:=@List.tail_drop
def iK:=@Code.wp_mono
def kF:=@Bool.or_eq_true
def oH:=@decide_true
def kW:=@decide_eq_false_iff_not
def nL:=@Value.slice.injEq
def oX:=@List.mem_of_mem_drop
def eK:=@List.mem_cons_self
def rJ:=@List.getElem?_eq_none
def rK:=@List.not_mem_nil
def nI:=@List.getElem?_append_right
def fM:=@true_and
def rI:=@List.drop_eq_nil_of_le
def sU:=@List.mem_or_eq_of_mem_set
def lR:=@Prod.mk.injEq
def lQ:=@List.take_add_one
def pB:=@List.getElem?_set
def nM:=@List.getElem?_map
def lS:=@Nat.add_assoc
def xO:=@Array.getElem?_setIfInBounds_ne
def sX:=@List.drop_zero
def vO:=@Array.getElem?_eq_getElem
def qH:=@decide_false
def rL:=@Option.some.inj
def pD:=@List.mem_range
def aDE:=@Bool.eq_false_iff
def pE:=@Addr.mk.injEq
def sV:=@List.find?_eq_none
def aDD:=@Bool.not_eq_false'
def xR:=@List.mem_of_find?_eq_some
def eQ:=@List.mem_cons_of_mem
def sW:=@List.flatMap_cons
def pF:=@Nat.lt_or_ge
def qK:=@and_self
def oI:=@Int.le_refl
def vP:=@beq_eq_false_iff_ne
def mS:=@false_and
def aBj:=@Nat.min_eq_left
def iE:=@List.append_nil
def xS:=@Array.getElem?_toList
def aBh:=@Array.getD_eq_getD_getElem?
def jU:=@or_false
def lC:=@and_true
def qE:=@of_decide_eq_true
def aW:=@Result.andThen_ok
def bC:=@Sem.run_pure
def iJ:=@List.getElem?_cons_zero
def nK:=@List.set_cons_succ
def oF:=@List.set_cons_zero
def lP:=@Array.length_toList
def kG:=@Option.map_some
end Go.AV
namespace Go.Proofs.Tryz
end Go.Proofs.Tryz
namespace Go.AV
theorem cZ : (¬False) = True := not_false_eq_true
theorem aD {α : Type _} {a : α} {l : List α} : (a :: l).length = l.length + 1 := rfl
theorem aK {α : Type _} {l r : List α} : (l ++ r).length = l.length + r.length := List.length_append
theorem aG {α : Type _} : ([] : List α).length = 0 := rfl
theorem aS {α : Type _} {β : Type _} {l : List α} (f : α → β) : (List.map f l).length = l.length := List.length_map f
theorem eW {α : Type _} {b : α} {l : List α} {a : α} : a ∈ b :: l ↔ a = b ∨ a ∈ l := List.mem_cons
theorem iB {n m : Nat} (h : n.ble m = true) : n ≤ m := Nat.le_of_ble_eq_true h
theorem bH {n m : Nat} (h : n.beq m = true) : n = m := Nat.eq_of_beq_eq_true h
theorem bP {α : Type _} {a : α} {l r : List α} : a :: l ++ r = a :: (l ++ r) := rfl
theorem bO {α : Type _} (l : List α) : [] ++ l = l := rfl
theorem cH {α : Type _} {i : Nat} {l : List α} : (List.drop i l).length = l.length - i := List.length_drop
theorem aZ (a b : Bool) : ((a && b) = true) = (a = true ∧ b = true) := Bool.and_eq_true a b
theorem bR : (false = true) = False := Bool.false_eq_true
end Go.AV
namespace Go.AV
open Go Go.Proofs Tryz
section
inductive A where
 | int (k:IntKind) (n:Int)
 | bool (b:Bool)
 | str (s:List UInt8)
 | ptr (b off:Nat)
 | eptr (cs:List A) (off:Nat)
 | nilp
 | nils
 | list (tok:Option Nat) (es:List A)
 | agg (cs:List A)
 | fn (f:FuncId) (first caps:List A)
 | nilf
 | iface (t:TypeId) (v:A)
 | nili
 | tuple (vs:List A)
 | ml (b off n:Nat)
 | emp
 | sd (tk:Option Nat) (es:List A)
 | gr (t n:Nat)
 | hl (z:A)
 | pen (t:Nat) (es:List A) (sz:Nat)
 | rm (t n sz:Nat)
 | mg (b n cap:Nat)
instance : Inhabited A := ⟨.nilp⟩
def A.cells:A→List A
 | .agg cs=>cs
 | a=>[a]
def A.one:A→Bool
 | .agg _|.tuple _=>false
 | _=>true
structure Gh where
 pi:Nat→Option (List Value)
 eta:Nat→Nat→Option Value
 beta:Nat→Option Nat
 env:Os × Array (Nat × ByteArray)
structure Gh.le (g g':Gh):Prop where
 pi:∀ b pre,g.pi b=some pre→∃ ext,g'.pi b=some (pre++ext)
 eta:∀ t n v,g.eta t n=some v→g'.eta t n=some v
 beta:∀ b k,g.beta b=some k→g'.beta b=some k
 env:g'.env=g.env
structure Gh.les (g g':Gh):Prop where
 le:g.le g'
 eta:g'.eta=g.eta
 beta:g'.beta=g.beta
theorem dX (g:Gh):g.le g:=⟨fun _ pre h=>⟨[],by simpa using h⟩,fun _ _ _ h=>h,fun _ _ h=>h,rfl⟩
theorem Gh.les.refl (g:Gh):g.les g:=⟨dX g,rfl,rfl⟩
theorem Gh.le.trans {a b c:Gh} (h:a.le b) (h':b.le c):a.le c :=
 ⟨fun k pre hk => by
  obtain ⟨x,hx⟩:=h.pi k pre hk;obtain ⟨y,hy⟩:=h'.pi k _ hx;exact ⟨x++y,by simpa using hy⟩,fun t n v hk=>h'.eta _ _ _ (h.eta _ _ _ hk),fun b k hk=>h'.beta _ _ (h.beta _ _ hk),h'.env.trans h.env⟩
theorem Gh.les.trans {a b c:Gh} (h:a.les b) (h':b.les c):a.les c:=⟨h.le.trans h'.le,h'.eta.trans h.eta,h'.beta.trans h.beta⟩
inductive Rz (g:Gh):A→Value→Prop
 | int (k:IntKind) (n:Int):Rz g (.int k n) (.int k n)
 | bool (b:Bool):Rz g (.bool b) (.bool b)
 | str (s:List UInt8):Rz g (.str s) (.string ⟨s.toArray⟩)
 | ptr (b o k:Nat) (hb:g.beta b=some k):Rz g (.ptr b o) (.pointer (some ⟨k,o,none⟩))
 | emp (a:Addr):Rz g .emp (.slice (some a) 0 0)
 | sd (tk:Option Nat) (es:List A) (a:Addr) (cap:Nat) (hc:cap≠0) (h:Rz g (.list tk es) (.slice (some a) es.length cap)):Rz g (.sd tk es) (.pointer (some a))
 | gr (t n k cap:Nat) (h:g.eta t 0=some (.slice (some ⟨k,0,none⟩) 0 cap)) (hn:n≤cap) (hm:cap≤maxLen):Rz g (.gr t n) (.slice (some ⟨k,0,none⟩) n cap)
 | hl (z:A) (a:Addr) (cap:Nat) (h:Rz g (.list none [z]) (.slice (some a) 1 cap)):Rz g (.hl z) (.slice (some a) 1 cap)
 | pen (t:Nat) (es:List A) (sz b cap:Nat) (h:Rz g (.list (some t) es) (.slice (some ⟨b,0,none⟩) es.length cap)) (hc:es.length+1≤cap) (hs:∀ y,y∈es→y.cells.length=sz) :
   Rz g (.pen t es sz) (.slice (some ⟨b,0,none⟩) (es.length+1) cap)
 | rm (t n sz b cap:Nat) (h:g.eta t n=some (.slice (some ⟨b,0,none⟩) n cap)) (hc:n+1≤cap):Rz g (.rm t n sz) (.pointer (some ⟨b,n * sz,none⟩))
 | ml (b off n cap k:Nat) (hb:g.beta b=some k) (hc:n≤cap) (hm:cap≤maxLen):Rz g (.ml b off n) (.slice (some ⟨k,off,none⟩) n cap)
 | mg (b n cap k:Nat) (hb:g.beta b=some k) (hc:n≤cap) (hm:cap≤maxLen):Rz g (.mg b n cap) (.slice (some ⟨k,0,none⟩) n cap)
 | eptr (cs:List A) (o b off:Nat) (pre:List Value) (hp:g.pi b=some pre) (hl:off+cs.length≤pre.length)
   (h1:∀ c,c∈cs→c.one=true)
   (h:∀ (j:Nat) (c:A) (v:Value),cs[j]?=some c→pre[off+j]?=some v→Rz g c v) :
   Rz g (.eptr cs o) (.pointer (some ⟨b,off+o,none⟩))
 | nilp:Rz g .nilp (.pointer none)
 | nils:Rz g .nils (.slice none 0 0)
 | list (tk:Option Nat) (es:List A) (b off sz cap:Nat) (pre:List Value) (hp:g.pi b=some pre)
   (hl:off+es.length * sz≤pre.length) (hc:es.length≤cap) (hm:cap≤maxLen)
   (hs:∀ e,e∈es→e.cells.length=sz) (h1:∀ e,e∈es→∀ c,c∈e.cells→c.one=true)
   (h:∀ (i:Nat) (e:A) (j:Nat) (c:A) (v:Value),es[i]?=some e→e.cells[j]?=some c→pre[off+i * sz+j]?=some v→Rz g c v)
   (ht:∀ t,tk=some t→g.eta t es.length=some (.slice (some ⟨b,off,none⟩) es.length cap)) :
   Rz g (.list tk es) (.slice (some ⟨b,off,none⟩) es.length cap)
 | list0 (tk:Option Nat) (a:Option Addr) (cap:Nat) (hm:cap≤maxLen) (ht:∀ t,tk=some t→g.eta t 0=some (.slice a 0 cap)) :
   Rz g (.list tk []) (.slice a 0 cap)
 | agg (cs:List A) (vs:List Value) (hl:vs.length=cs.length) (h1:∀ c,c∈cs→c.one=true)
   (h:∀ (j:Nat) (c:A) (v:Value),cs[j]?=some c→vs[j]?=some v→Rz g c v):Rz g (.agg cs) (.agg vs.toArray)
 | fn (f:FuncId) (fs cs:List A) (us vs:List Value) (hlf:us.length=fs.length) (hlc:vs.length=cs.length)
   (hf:∀ (j:Nat) (c:A) (v:Value),fs[j]?=some c→us[j]?=some v→Rz g c v)
   (hc:∀ (j:Nat) (c:A) (v:Value),cs[j]?=some c→vs[j]?=some v→Rz g c v) :
   Rz g (.fn f fs cs) (.func (.func f) us.toArray vs.toArray)
 | nilf:Rz g .nilf .nilFunc
 | iface (t:TypeId) (a:A) (v:Value) (h:Rz g a v):Rz g (.iface t a) (.iface t v)
 | nili:Rz g .nili .nilIface
 | tuple (cs:List A) (vs:List Value) (hl:vs.length=cs.length)
   (h:∀ (j:Nat) (c:A) (v:Value),cs[j]?=some c→vs[j]?=some v→Rz g c v):Rz g (.tuple cs) (.tuple vs.toArray)
theorem tV {α:Type} {l ext:List α} {i:Nat} {v:α} (hi:i<l.length) (h:(l++ext)[i]?=some v):l[i]?=some v:=by
 rwa[jR hi] at h
theorem Rz.mono {g g':Gh} (hg:g.le g') {a:A} {v:Value} (h:Rz g a v):Rz g' a v:=by
 induction h with
 | int k n=>exact .int k n
 | bool b=>exact .bool b
 | str s=>exact .str s
 | ptr b o k hb=>exact .ptr b o k (hg.beta _ _ hb)
 | ml b off n cap k hb hc hm=>exact .ml b off n cap k (hg.beta _ _ hb) hc hm
 | mg b n cap k hb hc hm=>exact .mg b n cap k (hg.beta _ _ hb) hc hm
 | emp a=>exact .emp a
 | sd tk es a cap hc _ ih=>exact .sd tk es a cap hc ih
 | gr t n k cap h hn hm=>exact .gr t n k cap (hg.eta _ _ _ h) hn hm
 | hl z a cap _ ih=>exact .hl z a cap ih
 | pen t es sz b cap _ hc hs ih=>exact .pen t es sz b cap ih hc hs
 | rm t n sz b cap h hc=>exact .rm t n sz b cap (hg.eta _ _ _ h) hc
 | eptr cs o b off pre hp hl h1 _ ih =>
  obtain ⟨ext,hx⟩:=hg.pi b pre hp;refine .eptr cs o b off _ hx (by simp;omega) h1 fun j c v hc hv=>?_
  have hj:j<cs.length:=(dH.1 hc).1;exact ih j c v hc (tV (by omega) hv)
 | nilp=>exact .nilp
 | nils=>exact .nils
 | list tk es b off sz cap pre hp hl hc hm hs h1 _ ht ih =>
  obtain ⟨ext,hx⟩:=hg.pi b pre hp;refine .list tk es b off sz cap _ hx (by simp;omega) hc hm hs h1 (fun i e j c v he hcc hv=>?_) (fun t h=>hg.eta _ _ _ (ht t h));have hi:i<es.length:=(dH.1 he).1;have hj:j<e.cells.length:=(dH.1 hcc).1;have:=hs e (dP he)
  have hb:i * sz+j<es.length * sz:=by
   have:(i+1) * sz≤es.length * sz:=lO _ hi;rw[eH] at this;omega
  exact ih i e j c v he hcc (tV (by omega) hv)
 | list0 tk a cap hm ht=>exact .list0 tk a cap hm (fun t h=>hg.eta _ _ _ (ht t h))
 | agg cs vs hl h1 _ ih=>exact .agg cs vs hl h1 fun j c v hc hv=>ih j c v hc hv
 | fn f fs cs us vs hlf hlc _ _ ihf ihc=>exact .fn f fs cs us vs hlf hlc (fun j c v hc hv=>ihf j c v hc hv) (fun j c v hc hv=>ihc j c v hc hv)
 | nilf=>exact .nilf
 | iface t a v _ ih=>exact .iface t a v ih
 | nili=>exact .nili
 | tuple cs vs hl _ ih=>exact .tuple cs vs hl fun j c v hc hv=>ih j c v hc hv
def Rzs (g:Gh) (cs:List A) (vs:List Value):Prop :=
 vs.length=cs.length∧∀ (j:Nat) (c:A) (v:Value),cs[j]?=some c→vs[j]?=some v→Rz g c v
theorem Rzs.mono {g g':Gh} (hg:g.le g') {cs:List A} {vs:List Value} (h:Rzs g cs vs):Rzs g' cs vs :=
 ⟨h.1,fun j c v hc hv=>(h.2 j c v hc hv).mono hg⟩
theorem Rzs.nil (g:Gh):Rzs g [] []:=⟨rfl,fun j c v h=>by simp at h⟩
theorem Rzs.cons {g:Gh} {c:A} {v:Value} {cs:List A} {vs:List Value} (h:Rz g c v) (hs:Rzs g cs vs):Rzs g (c::cs) (v::vs) :=
 ⟨by simp [hs.1],fun j => by
  cases j with
  | zero=>intro x y hx hy;simp at hx hy;subst hx;subst hy;exact h
  | succ j=>intro x y hx hy;exact hs.2 j x y (by simpa using hx) (by simpa using hy)⟩
theorem Rzs.get {g:Gh} {cs:List A} {vs:List Value} (h:Rzs g cs vs) {j:Nat} {c:A} (hc:cs[j]?=some c):∃ v,vs[j]?=some v∧Rz g c v:=by
 have hj:j<cs.length:=(dH.1 hc).1;have hv:j<vs.length:=by rw[h.1];exact hj
 exact ⟨vs[j],bK hv,h.2 j c _ hc (bK hv)⟩
theorem Rzs.append {g:Gh} {cs ds:List A} {vs us:List Value} (h:Rzs g cs vs) (h':Rzs g ds us):Rzs g (cs++ds) (vs++us):=by
 refine ⟨by simp[h.1,h'.1],fun j c v hc hv=>?_⟩;by_cases hj:j<cs.length
 ·rw[jR hj] at hc;rw[jR (by rw[h.1];exact hj)] at hv;exact h.2 j c v hc hv
 ·rw[nI (by omega)] at hc;rw[nI (by rw[h.1];omega),h.1] at hv;exact h'.2 _ c v hc hv
theorem Rzs.set {g:Gh} {cs:List A} {vs:List Value} (h:Rzs g cs vs) {o:Nat} {c:A} {v:Value} (hv:Rz g c v):Rzs g (cs.set o c) (vs.set o v):=by
 refine ⟨by simp[h.1],fun j x y hx hy=>?_⟩;by_cases hj:o=j
 ·subst hj;rw[pB] at hx hy;simp only[↓reduceIte] at hx hy;split at hx<;>split at hy<;>simp_all
 ·rw[List.getElem?_set_ne hj] at hx hy;exact h.2 j x y hx hy
theorem Rzs.take {g:Gh} {cs:List A} {vs:List Value} (h:Rzs g cs vs) (n:Nat):Rzs g (cs.take n) (vs.take n):=by
 refine ⟨by simp[h.1],fun j c v hc hv=>?_⟩;rw[kY] at hc hv;split at hc
 ·rename_i hj;rw[if_pos hj] at hv;exact h.2 j c v hc hv
 ·simp at hc
theorem Rzs.drop {g:Gh} {cs:List A} {vs:List Value} (h:Rzs g cs vs) (n:Nat):Rzs g (cs.drop n) (vs.drop n):=by
 refine ⟨by simp[h.1],fun j c v hc hv=>?_⟩;rw[mM] at hc hv;exact h.2 _ c v hc hv
theorem Rz.cells {g:Gh} {a:A} {v:Value} (h:Rz g a v):Rzs g a.cells v.cells.toList:=by
 cases h with
 | agg cs vs hl h1 h=>exact ⟨by simpa [A.cells,Value.cells] using hl,by simpa [A.cells,Value.cells] using h⟩
 | int k n=>exact .cons (.int k n) (.nil g)
 | bool b=>exact .cons (.bool b) (.nil g)
 | str s=>exact .cons (.str s) (.nil g)
 | ptr b o k hb=>exact .cons (.ptr b o k hb) (.nil g)
 | ml b off n cap k hb hc hm=>exact .cons (.ml b off n cap k hb hc hm) (.nil g)
 | mg b n cap k hb hc hm=>exact .cons (.mg b n cap k hb hc hm) (.nil g)
 | emp a=>exact .cons (.emp a) (.nil g)
 | sd tk es a cap hc h=>exact .cons (.sd tk es a cap hc h) (.nil g)
 | gr t n k cap h hn hm=>exact .cons (.gr t n k cap h hn hm) (.nil g)
 | hl z a cap h=>exact .cons (.hl z a cap h) (.nil g)
 | pen t es sz b cap h hc hs=>exact .cons (.pen t es sz b cap h hc hs) (.nil g)
 | rm t n sz b cap h hc=>exact .cons (.rm t n sz b cap h hc) (.nil g)
 | eptr cs o b off pre hp hl h1 h=>exact .cons (.eptr cs o b off pre hp hl h1 h) (.nil g)
 | nilp=>exact .cons .nilp (.nil g)
 | nils=>exact .cons .nils (.nil g)
 | list tk es b off sz cap pre hp hl hc hm hs h1 h ht=>exact .cons (.list tk es b off sz cap pre hp hl hc hm hs h1 h ht) (.nil g)
 | list0 tk a cap hm ht=>exact .cons (.list0 tk a cap hm ht) (.nil g)
 | fn f fs cs us vs hlf hlc hf hc=>exact .cons (.fn f fs cs us vs hlf hlc hf hc) (.nil g)
 | nilf=>exact .cons .nilf (.nil g)
 | iface t a v h=>exact .cons (.iface t a v h) (.nil g)
 | nili=>exact .cons .nili (.nil g)
 | tuple cs vs hl h=>exact .cons (.tuple cs vs hl h) (.nil g)
theorem Rz.one {g:Gh} {a:A} {v:Value} (h:Rz g a v) (h1:a.one=true):v.oneCell'=true:=by
 cases h<;>simp_all [A.one,Value.oneCell']
theorem Rzs.one {g:Gh} {cs:List A} {vs:List Value} (h:Rzs g cs vs) (h1:∀ c,c∈cs→c.one=true):∀ v,v∈vs→v.oneCell'=true:=by
 intro v hv;obtain ⟨j,hj,rfl⟩:=fQ hv;have hc:j<cs.length:=by rw[← h.1];exact hj
 exact (h.2 j cs[j] vs[j] (bK hc) (bK hj)).one (h1 _ (iT hc))
theorem Rz.forget {g:Gh} {tk:Option Nat} {es:List A} {v:Value} (h:Rz g (.list tk es) v):Rz g (.list none es) v:=by
 cases h with
 | list tk es b off sz cap pre hp hl hc hm hs h1 h ht=>exact .list none es b off sz cap pre hp hl hc hm hs h1 h (by simp)
 | list0 tk a cap hm ht=>exact .list0 none a cap hm (by simp)
inductive Ob where
 | cells (e:TypeId) (cs:List A)
 | iter (s:List UInt8) (pos:Nat)
structure St where
 ob:Nat→Option Ob
 ov:List (Nat × Ob)
 tk:Nat→Option (Nat × TypeId)
 tv:List (Nat × (Nat × TypeId))
 lim:Nat
 ls:Option (Nat × Nat × A)
def mF {α:Type}:List (Nat × α)→(Nat→Option α)→Nat→Option α
 | [],σ,p=>σ p
 | (q,c)::L,σ,p=>if q=p then some c else mF L σ p
def kU {α:Type}:Nat→α→List (Nat × α)→List (Nat × α)
 | p,c,[]=>[(p,c)]
 | p,c,(q,d)::L=>if q=p then (q,c)::L else (q,d)::kU p c L
theorem wA {α:Type} (p:Nat) (c:α) (σ:Nat→Option α) (q:Nat):∀ L,mF (kU p c L) σ q=if p=q then some c else mF L σ q
 | []=>by simp[kU,mF]
 | (k,d) :: L => by
  unfold kU;by_cases h:k=p
  ·subst h;simp only[↓reduceIte,mF];split<;>simp_all
  ·simp only[h,↓reduceIte,mF,wA p c σ q L];by_cases hk:k=q
   ·subst hk;have:¬ p=k:=fun e=>h e.symm
    simp[this]
   ·simp[hk]
def St.getO (s:St) (b:Nat):Option Ob:=mF s.ov s.ob b
def St.setO (s:St) (b:Nat) (o:Ob):St:={ s with ov:=kU b o s.ov }
def St.newO (s:St) (o:Ob):St:={ s with ov:=kU s.lim o s.ov,lim:=s.lim+1 }
def St.newT (s:St) (n:Nat × TypeId):St:={ s with tv:=kU s.lim n s.tv,lim:=s.lim+1 }
def St.getT (s:St) (t:Nat):Option (Nat × TypeId):=mF s.tv s.tk t
def St.setT (s:St) (t:Nat) (n:Nat × TypeId):St:={ s with tv:=kU t n s.tv }
def St.setL (s:St) (x:Option (Nat × Nat × A)):St:={ s with ls:=x }
def vA {α:Type}:Nat→List (Nat × α)→List (Nat × α)
 | _,[]=>[]
 | p,(q,d)::L=>if q=p then vA p L else (q,d)::vA p L
theorem aFD {α:Type} (p:Nat) (σ:Nat→Option α) (q:Nat):∀ L,mF (vA p L) (fun u=>if u=p then none else σ u) q=if q=p then none else mF L σ q
 | []=>by simp[vA,mF]
 | (k,d) :: L => by
  have ih:=aFD p σ q L;unfold vA;by_cases h:k=p
  ·subst h;simp only[↓reduceIte,ih,mF];by_cases hq:q=k
   ·subst hq;simp
   ·have:¬ k=q:=fun e=>hq e.symm
    simp[hq,this]
  ·simp only[h,↓reduceIte,mF,ih];by_cases hk:k=q
   ·subst hk;simp[h]
   ·simp[hk]
def St.delT (s:St) (t:Nat):St:={ s with tk:=fun u=>if u=t then none else s.tk u,tv:=vA t s.tv }
theorem mN (s:St) (t u:Nat):(s.delT t).getT u=if u=t then none else s.getT u:=aFD t s.tk u s.tv
theorem aE (s:St) (b:Nat) (o:Ob) (q:Nat):(s.setO b o).getO q=if b=q then some o else s.getO q:=wA b o s.ob q s.ov
theorem St.getT_setO (s:St) (b:Nat) (o:Ob) (q:Nat):(s.setO b o).getT q=s.getT q:=rfl
theorem bT (s:St) (b:Nat) (o:Nat × TypeId) (q:Nat):(s.setT b o).getT q=if b=q then some o else s.getT q:=wA b o s.tk q s.tv
theorem sZ (s:St) (o:Ob) (q:Nat):(s.newO o).getO q=if s.lim=q then some o else s.getO q:=wA s.lim o s.ob q s.ov
theorem xV (s:St) (o:Nat × TypeId) (q:Nat):(s.newT o).getT q=if s.lim=q then some o else s.getT q:=wA s.lim o s.tk q s.tv
theorem cP (s:St) (x:Option (Nat × Nat × A)) (q:Nat):(s.setL x).getO q=s.getO q:=rfl
theorem rN (s:St) (x:Option (Nat × Nat × A)) (q:Nat):(s.setL x).getT q=s.getT q:=rfl
theorem gV (s:St) (b:Nat) (o:Nat × TypeId) (q:Nat):(s.setT b o).getO q=s.getO q:=rfl
structure St.ge (s s':St):Prop where
 ob:∀ b o,s'.getO b=some o→s.getO b=some o
 tk:∀ t n,s'.getT t=some n→s.getT t=some n
 ls:∀ x,s'.ls=some x→s.ls=some x
theorem bW (s:St):s.ge s:=⟨fun _ _ h=>h,fun _ _ h=>h,fun _ h=>h⟩
theorem St.ge.trans {a b c:St} (h:a.ge b) (h':b.ge c):a.ge c:=⟨fun _ _ x=>h.ob _ _ (h'.ob _ _ x),fun _ _ x=>h.tk _ _ (h'.tk _ _ x),fun _ x=>h.ls _ (h'.ls _ x)⟩
structure Ctx where
 P:Program
 det:Bool
 gl:Nat→Option (List A)
def Ctx.sz (C:Ctx) (t:TypeId):Nat:=((C.P.info? t).map (·.size)).getD 0
def ObRz (g:Gh):Ob→Option Obj→Prop
 | .cells e cs,x=>∃ vs rest,x=some (.cells (vs++rest).toArray e)∧Rzs g cs vs∧∀ c,c∈cs→c.one=true
 | .iter s pos,x=>x=some (.stringIter ⟨s.toArray⟩ pos)
theorem ObRz.mono {g g':Gh} (hg:g.le g') {o:Ob} {x:Option Obj} (h:ObRz g o x):ObRz g' o x:=by
 cases o with
 | cells e cs=>obtain ⟨vs,rest,h1,h2,h3⟩:=h;exact ⟨vs,rest,h1,h2.mono hg,h3⟩
 | iter s pos=>exact h
abbrev Fr:=Nat→Option (Obj × Option (List Value))
def Gh.ends (g:Gh) (t n:Nat) (x:A):Prop:=∃ b cap pre,g.eta t (n+1)=some (.slice (some ⟨b,0,none⟩) (n+1) cap)∧g.eta t n=some (.slice (some ⟨b,0,none⟩) n cap) ∧
 n+1≤cap∧cap≤maxLen∧g.pi b=some pre∧(n+1) * x.cells.length≤pre.length∧(∀ c,c∈x.cells→c.one=true) ∧
 ∀ (j:Nat) (c:A) (v:Value),x.cells[j]?=some c→pre[n * x.cells.length+j]?=some v→Rz g c v
theorem Gh.ends.mono {g g':Gh} (hg:g.le g') {t n:Nat} {x:A} (h:g.ends t n x):g'.ends t n x:=by
 obtain ⟨b,cap,pre,h1,h2,h3,h4,h5,h6,h7,h8⟩:=h;obtain ⟨ext,hx⟩:=hg.pi b pre h5;refine ⟨b,cap,_,hg.eta _ _ _ h1,hg.eta _ _ _ h2,h3,h4,hx,by simp;omega,h7,fun j c v hc hv=>(h8 j c v hc (tV ?_ hv)).mono hg⟩;have:=(dH.1 hc).1;rw[eH] at h6;omega
structure R (C:Ctx) (F:Fr) (g:Gh) (s:St) (w:World):Prop where
 obj:∀ b o,s.getO b=some o→∃ k,g.beta b=some k∧ObRz g o w.heap[k]?∧g.pi k=none∧F k=none
 tok:∀ t n e,s.getT t=some (n,e)→∃ v xs,g.eta t n=some v∧w.ownsRow 0 e (C.sz e) v n xs∧(∀ m x,g.eta t m=some x→m≤n) ∧
  ∀ b,v.ownBlock=some b→g.pi b=some xs∧F b=none
 sep:∀ t t' n n' v v' b,t≠t'→s.getT t=some n→s.getT t'=some n'→g.eta t n.1=some v→g.eta t' n'.1=some v' →
  v.ownBlock=some b→v'.ownBlock=some b→False
 pis:∀ b pre,g.pi b=some pre→∃ rest e fr,w.heap[b]?=some (.cells (pre++rest).toArray e fr)
 frm:∀ b o,F b=some o→w.heap[b]?=some o.1∧g.pi b=o.2
 glb:∀ b cs,C.gl b=some cs→∃ pre ty fr,F b=some (.cells pre.toArray ty fr,some pre)∧pre.length=cs.length∧(∀ c,c∈cs→c.one=true) ∧
  ∀ (j:Nat) (c:A) (v:Value),cs[j]?=some c→pre[j]?=some v→Rz g c v
 fsh:∃ N,∀ t,N≤t→s.getT t=none∧(∀ m,g.eta t m=none)∧g.beta t=none
 bet:∀ b k,g.beta b=some k→k<w.heap.size
 inj:∀ b b' k,g.beta b=some k→g.beta b'=some k→b=b'
 dtm:C.det=true→∀ b,s.lim≤b→g.beta b=none∧∀ m,g.eta b m=none
 lst:∀ x,s.ls=some x→g.ends x.1 x.2.1 x.2.2
 bfr:∀ b k,g.beta b=some k→F k=none
 env:(w.os,w.output)=g.env
section
variable {C:Ctx} {F:Fr} {g:Gh} {s:St} {w:World}
theorem R.weaken (h:R C F g s w) {s':St} (hs:s.ge s') (hl:C.det=true→s.lim≤s'.lim):R C F g s' w where
 env:=h.env
 obj:=fun b o ho=>h.obj b o (hs.ob b o ho)
 tok:=fun t n e ht=>h.tok t n e (hs.tk t _ ht)
 sep:=fun t t' n n' v v' b hne ht ht'=>h.sep t t' n n' v v' b hne (hs.tk t n ht) (hs.tk t' n' ht')
 pis:=h.pis
 frm:=h.frm
 glb:=h.glb
 fsh:=by
  obtain ⟨N,hN⟩:=h.fsh;refine ⟨N,fun t ht=>⟨?_,(hN t ht).2⟩⟩;cases he:s'.getT t with
  | none=>rfl
  | some n=>have:=hs.tk t n he;rw[(hN t ht).1] at this;cases this
 bet:=h.bet
 inj:=h.inj
 dtm:=fun hd b hb=>h.dtm hd b (qG (hl hd) hb)
 lst:=fun x hx=>h.lst x (hs.ls x hx)
 bfr:=h.bfr
theorem R.setL (h:R C F g s w) {x:Option (Nat × Nat × A)} (hx:∀ y,x=some y→g.ends y.1 y.2.1 y.2.2):R C F g (s.setL x) w where
 env:=h.env
 obj:=h.obj
 tok:=h.tok
 sep:=h.sep
 pis:=h.pis
 frm:=h.frm
 glb:=h.glb
 fsh:=h.fsh
 bet:=h.bet
 inj:=h.inj
 dtm:=h.dtm
 lst:=hx
 bfr:=h.bfr
theorem R.heap (h:R C F g s w) {w':World} (hw:w'.heap=w.heap) (he:(w'.os,w'.output)=(w.os,w.output):=by rfl):R C F g s w' where
 env:=he.trans h.env
 obj:=by rw[hw];exact h.obj
 tok:=by
  intro t n e ht;obtain ⟨v,xs,h1,h2,h3,h4⟩:=h.tok t n e ht;refine ⟨v,xs,h1,?_,h3,h4⟩;simpa [World.ownsRow,hw] using h2
 sep:=h.sep
 pis:=by rw[hw];exact h.pis
 frm:=by rw[hw];exact h.frm
 glb:=h.glb
 fsh:=h.fsh
 bet:=by rw[hw];exact h.bet
 inj:=h.inj
 dtm:=h.dtm
 lst:=h.lst
 bfr:=h.bfr
theorem R.lt_pi (h:R C F g s w) {b:Nat} {pre:List Value} (ho:g.pi b=some pre):b<w.heap.size:=by
 obtain ⟨rest,e,fr,hx⟩:=h.pis b pre ho;exact (fP.1 hx).1
theorem R.lt_frm (h:R C F g s w) {b:Nat} {o:Obj × Option (List Value)} (ho:F b=some o):b<w.heap.size :=
 (fP.1 (h.frm b o ho).1).1
theorem R.gpi (h:R C F g s w) {b:Nat} {cs:List A} (hb:C.gl b=some cs):∃ pre ty fr,w.heap[b]?=some (.cells pre.toArray ty fr)∧g.pi b=some pre∧pre.length=cs.length∧(∀ c,c∈cs→c.one=true) ∧
  ∀ (j:Nat) (c:A) (v:Value),cs[j]?=some c→pre[j]?=some v→Rz g c v:=by
 obtain ⟨pre,ty,fr,h1,h2,h3,h4⟩:=h.glb b cs hb;obtain ⟨h5,h6⟩:=h.frm b _ h1;exact ⟨pre,ty,fr,h5,h6,h2,h3,h4⟩
theorem aJo {w w':World} (hk:∀ b,b<w.heap.size→w'.heap[b]?=w.heap[b]?) {k:Nat} (h:k<w.heap.size):k<w'.heap.size:=by
 have h1:=hk k h;rw[vO h] at h1;exact (fP.1 h1).1
theorem R.keep (h:R C F g s w) {w':World} (hk:∀ b,b<w.heap.size→w'.heap[b]?=w.heap[b]?) (he:(w'.os,w'.output)=(w.os,w.output):=by rfl):R C F g s w' where
 env:=he.trans h.env
 obj:=fun b o ho=>by
  obtain ⟨k,h1,h2⟩:=h.obj b o ho;exact ⟨k,h1,by rw[hk k (h.bet b k h1)];exact h2⟩
 tok:=by
  intro t n e ht;obtain ⟨v,xs,h1,h2,h3,h4⟩:=h.tok t n e ht;refine ⟨v,xs,h1,⟨h2.1,?_⟩,h3,h4⟩;rcases h2.2 with h|⟨b,cap,cur,hv,hb,hh,rest⟩
  ·exact .inl h
  ·exact .inr ⟨b,cap,cur,hv,hb,by rw[hk b (fP.1 hh).1];exact hh,rest⟩
 sep:=h.sep
 pis:=fun b pre hp=>by rw[hk b (h.lt_pi hp)];exact h.pis b pre hp
 frm:=fun b o ho=>by rw[hk b (h.lt_frm ho)];exact h.frm b o ho
 glb:=h.glb
 fsh:=h.fsh
 bet:=fun b k hb=>aJo hk (h.bet b k hb)
 inj:=h.inj
 dtm:=h.dtm
 lst:=h.lst
 bfr:=h.bfr
end
end
section
section
variable {C:Ctx} {F:Fr} {g:Gh} {s:St} {w:World}
theorem rM (w:World) (o:Obj):(w.alloc o).heap[w.heap.size]?=some o:=by
 show (w.heap.push o)[w.heap.size]?=some o;simp
theorem qF (w:World) (o:Obj) {b:Nat} (h:b<w.heap.size):(w.alloc o).heap[b]?=w.heap[b]?:=by
 show (w.heap.push o)[b]?=w.heap[b]?;rw[Array.getElem?_push];have:b≠w.heap.size:=Nat.ne_of_lt h;simp[this]
theorem R.pi_new (h:R C F g s w):g.pi w.heap.size=none:=by
 cases hp:g.pi w.heap.size with
 | none=>rfl
 | some pre=>exact absurd (h.lt_pi hp) (Nat.lt_irrefl _)
theorem R.frm_new (h:R C F g s w):F w.heap.size=none:=by
 cases hp:F w.heap.size with
 | none=>rfl
 | some pre=>exact absurd (h.lt_frm hp) (Nat.lt_irrefl _)
theorem R.bet_new (h:R C F g s w) (b:Nat):g.beta b≠some w.heap.size:=fun hb=>absurd (h.bet b _ hb) (Nat.lt_irrefl _)
def Gh.bx (g:Gh) (b k:Nat):Gh:={ g with beta:=fun c=>if c=b then some k else g.beta c }
theorem tR {g:Gh} {b:Nat} (h:g.beta b=none) (k:Nat):g.le (g.bx b k) :=
 ⟨fun c pre hp => ⟨[],by simpa [Gh.bx] using hp⟩,fun _ _ _ h => h,fun c j hc => by
  have:c≠b:=by rintro rfl;rw[h] at hc;cases hc
  simp[Gh.bx,this,hc],rfl⟩
theorem R.free (h:R C F g s w) {b:Nat} (hb:g.beta b=none):s.getO b=none:=by
 cases ho:s.getO b with
 | none=>rfl
 | some o=>obtain ⟨k,h1,_⟩:=h.obj b o ho;rw[hb] at h1;cases h1
theorem R.freeT (h:R C F g s w) {t:Nat} (hb:∀ n,g.eta t n=none):s.getT t=none:=by
 cases ho:s.getT t with
 | none=>rfl
 | some o=>obtain ⟨n,e⟩:=o;obtain ⟨v,xs,h1,_⟩:=h.tok t n e ho;rw[hb] at h1;cases h1
theorem R.newObj (h:R C F g s w) {o:Obj} {ob:Ob} (ho:ObRz g ob (some o)) {b:Nat} (hb:g.beta b=none) {s':St}
  (hO:∀ q,s'.getO q=if b=q then some ob else s.getO q) (hT:∀ q,s'.getT q=s.getT q) (hL:s'.ls=s.ls) (hl:C.det=true→s.lim≤s'.lim∧b<s'.lim) :
  R C F (g.bx b w.heap.size) s' (w.alloc o):=by
 have hle:=tR hb w.heap.size;have hk:∀ k,k<w.heap.size→(w.alloc o).heap[k]?=w.heap[k]?:=fun k hk=>qF w o hk
 have h':=h.keep hk;refine ⟨fun c x hx=>?_,?_,?_,h'.pis,h'.frm,fun c cs hc=>?_,?_,?_,?_,fun hd c hc=>?_,fun x hx=>(h.lst x (by rw[← hL];exact hx)).mono hle,fun c k hc=>?_,h.env⟩
 ·rw[hO] at hx;by_cases hbc:b=c
  ·subst hbc;simp only[↓reduceIte,aP] at hx;subst hx;exact ⟨w.heap.size,by simp[Gh.bx],by rw[rM];exact ho.mono hle,h.pi_new,h.frm_new⟩
  ·simp only[hbc,↓reduceIte] at hx;obtain ⟨k,h1,h2,h3⟩:=h'.obj c x hx;exact ⟨k,hle.beta _ _ h1,h2.mono hle,h3⟩
 ·intro t n e ht;rw[hT] at ht;obtain ⟨v,xs,h1,h2,h3,h4⟩:=h'.tok t n e ht;exact ⟨v,xs,h1,h2,h3,h4⟩
 ·intro t t' n n' v v' c hne ht ht';rw[hT] at ht ht';exact h'.sep t t' n n' v v' c hne ht ht'
 ·obtain ⟨pre,ty,fr,hp,hl,h1,hr⟩:=h.glb c cs hc;exact ⟨pre,ty,fr,hp,hl,h1,fun j c v hc hv=>(hr j c v hc hv).mono hle⟩
 ·obtain ⟨N,hN⟩:=h.fsh;refine ⟨max N (b+1),fun t ht=>⟨by rw[hT];exact (hN t (by omega)).1,(hN t (by omega)).2.1,?_⟩⟩;have:t≠b:=by omega
  simp[Gh.bx,this,(hN t (by omega)).2.2]
 ·intro c k hc;simp only[Gh.bx] at hc;have e:(w.alloc o).heap.size=w.heap.size+1:=by show (w.heap.push o).size=_;simp
  split at hc
  ·cases hc;omega
  ·have:=h.bet c k hc;omega
 ·intro c d k hc hd;simp only[Gh.bx] at hc hd;split at hc<;>split at hd
  ·omega
  ·cases hc;exact absurd hd (h.bet_new d)
  ·cases hd;exact absurd hc (h.bet_new c)
  ·exact h.inj c d k hc hd
 ·obtain ⟨l1,l2⟩:=hl hd;obtain ⟨d1,d2⟩:=h.dtm hd c (by omega);have:c≠b:=by omega
  exact ⟨by simp[Gh.bx,this,d1],d2⟩
 ·simp only[Gh.bx] at hc;split at hc
  ·cases hc;exact h.frm_new
  ·exact h.bfr c k hc
theorem R.some_free (h:R C F g s w):∃ b,g.beta b=none:=by
 obtain ⟨N,hN⟩:=h.fsh;exact ⟨N,(hN N (bG _)).2.2⟩
theorem R.setObj (h:R C F g s w) {b k:Nat} {o:Ob} (hs:s.getO b=some o) (hbk:g.beta b=some k) {ob:Ob} {w':World}
  (hk:∀ j,j≠k→w'.heap[j]?=w.heap[j]?) (ho:ObRz g ob w'.heap[k]?) (he:(w'.os,w'.output)=(w.os,w.output):=by rfl):R C F g (s.setO b ob) w':=by
 obtain ⟨k',e1,_,hpi,hF⟩:=h.obj b o hs;rw[hbk] at e1;cases e1;refine ⟨fun c x hx=>?_,?_,h.sep,fun c pre hp=>?_,fun c x hx=>?_,h.glb,h.fsh,fun c j hc=>?_,h.inj,h.dtm,h.lst,h.bfr,he.trans h.env⟩
 ·rw[aE] at hx;by_cases hb:b=c
  ·subst hb;simp only[↓reduceIte,aP] at hx;subst hx;exact ⟨k,hbk,ho,hpi,hF⟩
  ·simp only[hb,↓reduceIte] at hx;obtain ⟨j,h1,h2⟩:=h.obj c x hx;have:j≠k:=by rintro rfl;exact hb (h.inj b c j hbk h1)
   exact ⟨j,h1,by rw[hk j this];exact h2⟩
 ·intro t n e ht;obtain ⟨v,xs,h1,h2,h3,h4⟩:=h.tok t n e ht;refine ⟨v,xs,h1,⟨h2.1,?_⟩,h3,h4⟩;rcases h2.2 with hv|⟨j,cap,cur,hv,hb,hh,rest⟩
  ·exact .inl hv
  ·refine .inr ⟨j,cap,cur,hv,hb,?_,rest⟩
   have:j≠k:=by
    rintro rfl;have:=(h4 j (by rw[hv];rfl)).1;rw[hpi] at this;cases this
   rw[hk j this];exact hh
 ·have:c≠k:=by rintro rfl;rw[hpi] at hp;cases hp
  rw[hk c this];exact h.pis c pre hp
 ·have:c≠k:=by rintro rfl;rw[hF] at hx;cases hx
  rw[hk c this];exact h.frm c x hx
 ·have h1:=h.bet c j hc;by_cases hj:j=k
  ·subst hj;cases ob with
   | cells e0 cs=>obtain ⟨vs,rest,hx,_⟩:=ho;exact (fP.1 hx).1
   | iter x p=>exact (fP.1 ho).1
  ·have h2:=hk j hj;rw[vO h1] at h2;exact (fP.1 h2).1
def Gh.know (g:Gh) (b:Nat) (vs:List Value):Gh:={ g with pi:=fun k=>if k=b then some vs else g.pi k }
theorem aEt {g:Gh} {b:Nat} (h:g.pi b=none) (vs:List Value):g.le (g.know b vs) :=
 ⟨fun k pre hp => ⟨[],by
  have:k≠b:=by rintro rfl;rw[h] at hp;cases hp
  simp[Gh.know,this,hp]⟩,fun _ _ _ h=>h,fun _ _ h=>h,rfl⟩
theorem aIV {g:Gh} {b:Nat} (h:g.pi b=none) (vs:List Value):g.les (g.know b vs):=⟨aEt h vs,rfl,rfl⟩
theorem R.ghost (h:R C F g s w) {g':Gh} (hg:g.le g')
  (hpi:∀ b k,g.beta b=some k→g.pi k=none→g'.pi k=none)
  (hpis:∀ b pre,g'.pi b=some pre→∃ rest e fr,w.heap[b]?=some (.cells (pre++rest).toArray e fr))
  (htok:∀ t n e v b xs,s.getT t=some (n,e)→g.eta t n=some v→v.ownBlock=some b→g.pi b=some xs→g'.pi b=some xs)
  (heta:g'.eta=g.eta) (hbeta:g'.beta=g.beta) (hfr:∀ b o,F b=some o→g'.pi b=g.pi b):R C F g' s w where
 env:=h.env.trans hg.env.symm
 obj:=fun b o ho=>by
  obtain ⟨k,h1,h2,h3,h4⟩:=h.obj b o ho;exact ⟨k,hg.beta _ _ h1,h2.mono hg,hpi b k h1 h3,h4⟩
 tok:=by
  intro t n e ht;obtain ⟨v,xs,h1,h2,h3,h4⟩:=h.tok t n e ht;exact ⟨v,xs,by rw[heta];exact h1,h2,by rw[heta];exact h3,fun b hb=>⟨htok t n e v b xs ht h1 hb (h4 b hb).1,(h4 b hb).2⟩⟩
 sep:=by rw[heta];exact h.sep
 pis:=hpis
 frm:=fun b o ho=>by rw[hfr b o ho];exact h.frm b o ho
 glb:=fun b cs hb=>by
  obtain ⟨pre,ty,fr,hp,hl,h1,hr⟩:=h.glb b cs hb;exact ⟨pre,ty,fr,hp,hl,h1,fun j c v hc hv=>(hr j c v hc hv).mono hg⟩
 fsh:=by rw[heta,hbeta];exact h.fsh
 bet:=by rw[hbeta];exact h.bet
 inj:=by rw[hbeta];exact h.inj
 dtm:=by rw[heta,hbeta];exact h.dtm
 lst:=fun x hx=>(h.lst x hx).mono hg
 bfr:=by rw[hbeta];exact h.bfr
theorem R.newRow (h:R C F g s w) (vs:List Value) (e:TypeId) (rest:List Value) (fr:Nat × Nat:=(0,0)) :
  R C F (g.know w.heap.size vs) s (w.alloc (.cells (vs++rest).toArray e fr))∧g.les (g.know w.heap.size vs):=by
 have hle:=aEt h.pi_new vs
 refine ⟨(h.keep (w':=w.alloc (.cells (vs++rest).toArray e fr)) (fun b hb=>qF w _ hb)).ghost hle ?_ ?_ ?_ rfl rfl (fun b o ho=>by
  have:b≠w.heap.size:=Nat.ne_of_lt (h.lt_frm ho);simp only[Gh.know,this,↓reduceIte]),aIV h.pi_new vs⟩
 ·intro b k hb hp;have:k≠w.heap.size:=Nat.ne_of_lt (h.bet b k hb);simp only[Gh.know,this,↓reduceIte];exact hp
 ·intro b pre hp;by_cases hb:b=w.heap.size
  ·subst hb;simp only[Gh.know,↓reduceIte,aP] at hp;subst hp;exact ⟨rest,e,fr,rM w _⟩
  ·simp only[Gh.know,hb,↓reduceIte] at hp;rw[qF w _ (h.lt_pi hp)];exact h.pis b pre hp
 ·intro t n e v b xs _ _ hb hx;have:b≠w.heap.size:=Nat.ne_of_lt (h.lt_pi hx);simp only[Gh.know,this,↓reduceIte];exact hx
def cW (es:List A):List A:=es.flatMap A.cells
theorem aEi (a b:List A):cW (a++b)=cW a++cW b:=by simp[cW]
theorem tB {es:List A} {sz:Nat} (h:∀ e,e∈es→e.cells.length=sz):(cW es).length=es.length * sz:=by
 induction es with
 | nil=>simp[cW]
 | cons e es ih =>
  have:=ih (fun x hx=>h x (by simp[hx]));simp only[cW,sW,aK,aD] at *;rw[this,h e (by simp),eH];omega
theorem aLs {es:List A} {sz:Nat} (h:∀ e,e∈es→e.cells.length=sz) {i:Nat} {e:A} (hi:es[i]?=some e) {j:Nat} {c:A}
  (hj:e.cells[j]?=some c):(cW es)[i * sz+j]?=some c:=by
 induction es generalizing i with
 | nil=>simp at hi
 | cons x es ih =>
  simp only[cW,sW];cases i with
  | zero =>
   simp only[iJ,aP] at hi;subst hi;have hl:j<x.cells.length:=(dH.1 hj).1;rw[Nat.zero_mul,fF,jR hl,hj]
  | succ i =>
   have hx:=h x (by simp);have:=ih (fun y hy=>h y (by simp[hy])) (i:=i) (by simpa using hi);rw[nI (by rw[hx,eH];omega),hx];have e:(i+1) * sz+j-sz=i * sz+j:=by rw[eH];omega
   rw[e];exact this
theorem rR {g:Gh} {tk:Option Nat} {es:List A} {b sz cap off:Nat} {pre vs:List Value} (hp:g.pi b=some pre) (hoff:pre.drop off=vs) (hv:Rzs g (cW es) (vs.take (es.length * sz)))
  (hs:∀ e,e∈es→e.cells.length=sz) (h1:∀ e,e∈es→∀ c,c∈e.cells→c.one=true) (hc:es.length≤cap) (hm:cap≤maxLen)
  (ho:off≤pre.length)
  (ht:∀ t,tk=some t→g.eta t es.length=some (.slice (some ⟨b,off,none⟩) es.length cap)) :
  Rz g (.list tk es) (.slice (some ⟨b,off,none⟩) es.length cap):=by
 have hl:(vs.take (es.length * sz)).length=es.length * sz:=by rw[hv.1,tB hs]
 have hl':es.length * sz≤vs.length:=by rw[eL] at hl;omega
 subst hoff;rw[cH] at hl';refine .list tk es b off sz cap pre hp (by omega) hc hm hs h1 (fun i e j c v hi hj hx=>?_) ht
 have hb:i * sz+j<es.length * sz:=by
  have hi':i<es.length:=(dH.1 hi).1;have hj':j<e.cells.length:=(dH.1 hj).1;have:=hs e (dP hi);have:(i+1) * sz≤es.length * sz:=lO _ hi';rw[eH] at this;omega
 refine hv.2 (i * sz+j) c v (aLs hs hi hj) ?_;rw[kY,if_pos hb,mM,← lS];exact hx
theorem Rz.list_inv {g:Gh} {tk:Option Nat} {es:List A} {v:Value} (h:Rz g (.list tk es) v) :
  ∃ a cap,v=.slice a es.length cap∧cap≤maxLen∧es.length≤cap∧(∀ t,tk=some t→g.eta t es.length=some v)∧(es=[]∨∃ b off sz pre,a=some ⟨b,off,none⟩∧g.pi b=some pre∧off+es.length * sz≤pre.length ∧
   (∀ e,e∈es→e.cells.length=sz)∧(∀ e,e∈es→∀ c,c∈e.cells→c.one=true) ∧
   (∀ (i:Nat) (e:A) (j:Nat) (c:A) (v:Value),es[i]?=some e→e.cells[j]?=some c→pre[off+i * sz+j]?=some v→Rz g c v)):=by
 cases h with
 | list tk es b off sz cap pre hp hl hc hm hs h1 h ht =>
  exact ⟨_,cap,rfl,hm,hc,ht,.inr ⟨b,off,sz,pre,rfl,hp,hl,hs,h1,h⟩⟩
 | list0 tk a cap hm ht=>exact ⟨a,cap,rfl,hm,bS _,ht,.inl rfl⟩
theorem Rz.to_flat {g:Gh} {tk:Option Nat} {es:List A} {v:Value} (h:Rz g (.list tk es) v) :
  ∃ a cap,v=.slice a es.length cap∧cap≤maxLen∧es.length≤cap∧(es=[]∨∃ b off sz pre,a=some ⟨b,off,none⟩∧g.pi b=some pre∧off+es.length * sz≤pre.length ∧
   (∀ e,e∈es→e.cells.length=sz)∧(∀ e,e∈es→∀ c,c∈e.cells→c.one=true)∧Rzs g (cW es) ((pre.drop off).take (es.length * sz))):=by
 cases h with
 | list tk es b off sz cap pre hp hl hc hm hs h1 h ht =>
  refine ⟨_,cap,rfl,hm,hc,.inr ⟨b,off,sz,pre,rfl,hp,hl,hs,h1,?_,?_⟩⟩
  ·rw[tB hs,eL,cH];omega
  ·intro k c v hk hv;rw[kY] at hv;split at hv
   ·rename_i hlt;rw[mM] at hv
    have key:∀ (l:List A) (k:Nat) (c:A),(∀ e,e∈l→e.cells.length=sz)→(cW l)[k]?=some c →
      ∃ i e j,l[i]?=some e∧e.cells[j]?=some c∧k=i * sz+j:=by
     intro l
     induction l with
     | nil=>intro k c _ hk;simp[cW] at hk
     | cons x l ih =>
      intro k c hs hk;simp only[cW,sW] at hk;by_cases hx:k<x.cells.length
      ·rw[jR hx] at hk;exact ⟨0,x,k,by simp,hk,by simp⟩
      ·rw[nI (by omega),hs x (by simp)] at hk;obtain ⟨i,e,j,hi,hj,he⟩:=ih _ c (fun y hy=>hs y (by simp[hy])) hk;have:=hs x (by simp);exact ⟨i+1,e,j,by simpa using hi,hj,by rw[eH];omega⟩
    obtain ⟨i,e,j,hi,hj,he⟩:=key es k c hs hk;refine h i e j c v hi hj ?_;rw[he] at hv;rw[lS];exact hv
   ·simp at hv
 | list0 tk a cap hm ht=>exact ⟨a,cap,rfl,hm,bS _,.inl rfl⟩
end
end
abbrev Env:=List (Nat × A)
def Env.get:Env→Nat→Option A
 | [],_=>none
 | (k,v)::e,t=>if k=t then some v else Env.get e t
def Env.put:Env→Nat→A→Env
 | [],t,v=>[(t,v)]
 | (k,u)::e,t,v=>if k=t then (t,v)::e else (k,u)::Env.put e t v
def Env.del:Env→Nat→Env
 | [],_=>[]
 | (k,u)::e,t=>if k=t then Env.del e t else (k,u)::Env.del e t
def Env.keep (V:List Nat):Env→Env
 | []=>[]
 | (k,u)::e=>if V.elem k then (k,u)::Env.keep V e else Env.keep V e
theorem iU (e:Env) (t:Nat) (v:A) (u:Nat):(e.put t v).get u=if t=u then some v else e.get u:=by
 induction e with
 | nil=>simp[Env.put,Env.get]
 | cons x e ih =>
  obtain ⟨k,w⟩:=x;simp only[Env.put];by_cases h:k=t
  ·subst h;simp only[↓reduceIte,Env.get];split<;>simp_all
  ·simp only[h,↓reduceIte,Env.get,ih];by_cases hk:k=u
   ·subst hk;have:¬ t=k:=fun e=>h e.symm
    simp[this]
   ·simp[hk]
theorem Env.get_del (e:Env) (t u:Nat):(e.del t).get u=if t=u then none else e.get u:=by
 induction e with
 | nil=>simp[Env.del,Env.get]
 | cons x e ih =>
  obtain ⟨k,w⟩:=x;simp only[Env.del];by_cases h:k=t
  ·subst h;simp only[↓reduceIte,ih,Env.get];split<;>simp_all
  ·simp only[h,↓reduceIte,Env.get,ih];by_cases hk:k=u
   ·subst hk;have:¬ t=k:=fun e=>h e.symm
    simp[this]
   ·simp[hk]
theorem aIv (V:List Nat) (e:Env) (u:Nat) (a:A) (h:(e.keep V).get u=some a):e.get u=some a:=by
 induction e with
 | nil=>simp[Env.keep,Env.get] at h
 | cons x e ih =>
  obtain ⟨k,w⟩:=x;simp only[Env.keep] at h;simp only[Env.get];by_cases hk:k=u
  ·subst hk;simp only[↓reduceIte];split at h
   ·simpa [Env.get] using h
   ·rename_i hv
    have:∀ e:Env,(Env.keep V e).get k=none:=by
     intro e
     induction e with
     | nil=>rfl
     | cons y e ih' =>
      obtain ⟨j,z⟩:=y;simp only[Env.keep];split
      ·rename_i hj;have:¬ j=k:=by rintro rfl;exact hv hj
       simp[Env.get,this,ih']
      ·exact ih'
    rw[this] at h;cases h
  ·simp only[hk,↓reduceIte];split at h
   ·simp only[Env.get,hk,↓reduceIte] at h;exact ih h
   ·exact ih h
inductive TK where
 | int (k:IntKind)|bool|string
 | slice (e:TypeId)|array (n:Nat) (e:TypeId)|struct (fs:List (Nat × Nat × Bool))
 | iface|other
structure TI where
 k:TK
 sz:Nat
 bytes:Nat
 zero:List A
def TK.agg:TK→Bool
 | .array ..|.struct _=>true
 | _=>false
def sO:Option TypeDesc→Bool
 | some (.struct _)|some (.array _ _)=>true
 | _=>false
def TK.ok (P:Program) (k:TK) (d:TypeDesc):Prop :=
 match k with
 | .int k=>d=.int k
 | .bool=>d=.bool
 | .string=>d=.string
 | .slice e=>d=.slice e
 | .array n e=>d=.array n e
 | .struct fs=>∃ fields,d=.struct fields∧fields.size=fs.length∧∀ (i o s:Nat) (a:Bool),fs[i]?=some (o,s,a) →
   ∃ f,fields[i]?=some f∧f.offset=o∧(P.info? f.type).map (·.size)=some s∧s≠0∧(P.underlying f.type).isSome=true∧sO (P.underlying f.type)=a
 | .iface=>∃ ms,d=.interface ms
 | .other=>sO (some d)=false∧(∀ ms,d≠.interface ms)
structure TI.ok (P:Program) (t:TypeId) (ti:TI):Prop where
 info:∃ i z,P.info? t=some i∧i.size=ti.sz∧i.bytes=ti.bytes∧i.zero=some z∧(∀ g,Rzs g ti.zero z.cells.toList)
 one:∀ c,c∈ti.zero→c.one=true
 len:ti.zero.length=ti.sz
 und:∃ d,P.underlying t=some d∧ti.k.ok P d
structure Cx extends Ctx where
 tt:TypeId→Option TI
 htt:∀ t ti,tt t=some ti→ti.ok P t
 cv:TypeId→TypeId→Option TypeId
 hcv:∀ a b e,cv a b=some e→∀ (w:World) (k:Nat) (vs:Array Value),w.heap[k]?=some (.cells vs e)→P.cellsOf e≤vs.size →
  (convert a b (.pointer (some ⟨k,0,none⟩))).run P w=.ok (.pointer (some ⟨k,0,none⟩)) w
 hcs:∀ a b e,cv a b=some e→(tt e).map (·.sz)=some (P.cellsOf e)
 cw:TypeId→Option TypeId:=fun _=>none
 hcw:∀ a b e' e,cv a b=some e'→cw e=some e'→∀ (w:World) (k:Nat) (vs:Array Value),w.heap[k]?=some (.cells vs e)→P.cellsOf e'≤vs.size →
  (convert a b (.pointer (some ⟨k,0,none⟩))).run P w=.ok (.pointer (some ⟨k,0,none⟩)) w:=by (intro a b e' e _ h;cases h)
 us:TypeId→Option TypeId
 hus:∀ t e,us t=some e→P.underlying t=some (.pointer e)∧P.cellsOf e=1
 mu:Nat:=0
 eq:TypeId→A→A→Option Bool
 heq:∀ t a b r,eq t a b=some r→∀ (g:Gh) (va vb:Value) (w:World) (op:BinOp) (x y:Operand),(op=.eql∨op=.neq)→Rz g a va→Rz g b vb →
  (eqGuard op t x y va vb).run P w=.ok () w∧(binOp op t va vb).run P w=.ok (.bool (if op=.eql then r else !r)) w
 nl:TypeId→Bool:=fun _=>false
 hnl:∀ t,nl t=true→∀ (a:Option Addr) (n cap:Nat) (w:World) (op:BinOp) (x y:Operand),(op=.eql∨op=.neq)→∃ r:Bool,
  (eqGuard op t x y (.slice a n cap) (.slice none 0 0)).run P w=.ok () w∧(binOp op t (.slice a n cap) (.slice none 0 0)).run P w=.ok (.bool (if op=.eql then r else !r)) w:=by (intro t h;cases h)
def wD:Value→Option A
 | .int k n=>some (.int k n)
 | .bool b=>some (.bool b)
 | .string s=>some (.str s.data.toList)
 | .pointer none=>some .nilp
 | .slice none 0 0=>some .nils
 | .nilFunc=>some .nilf
 | .nilIface=>some .nili
 | _=>none
def uH:List Value→Option (List A)
 | []=>some []
 | v::vs=>match wD v,uH vs with
  | some a,some az=>some (a::az)
  | _,_=>none
def wO:Value→Option A
 | .agg cs=>(uH cs.toList).map .agg
 | .tuple cs=>if cs.size=0 then some (.tuple []) else none
 | v=>wD v
theorem aEp {g:Gh} {v:Value} {a:A} (h:wD v=some a):Rz g a v∧a.one=true:=by
 unfold wD at h;split at h<;>simp at h<;>subst h
 ·exact ⟨.int _ _,rfl⟩
 ·exact ⟨.bool _,rfl⟩
 ·rename_i s;exact ⟨.str s.data.toList,rfl⟩
 ·exact ⟨.nilp,rfl⟩
 ·exact ⟨.nils,rfl⟩
 ·exact ⟨.nilf,rfl⟩
 ·exact ⟨.nili,rfl⟩
theorem aE2 {g:Gh}:∀ {vs:List Value} {az:List A},uH vs=some az→Rzs g az vs∧∀ c,c∈az→c.one=true
 | [],az,h=>by simp[uH] at h;subst h;exact ⟨.nil g,by simp⟩
 | v::vs,az,h=>by
  simp only[uH] at h;split at h
  ·rename_i a az' ha has;simp at h;subst h;have h1:=aEp (g:=g) ha;have h2:=aE2 (g:=g) has;exact ⟨.cons h1.1 h2.1,by intro c hc;cases hc with|head=>exact h1.2|tail _ hc=>exact h2.2 c hc⟩
  ·simp at h
theorem aJL {g:Gh} {v:Value} {a:A} (h:wO v=some a):Rz g a v:=by
 unfold wO at h;split at h
 ·rename_i cs;simp only[jJ] at h;obtain ⟨az,has,rfl⟩:=h;have:=aE2 (g:=g) has;exact .agg az cs.toList this.1.1 this.2 this.1.2
 ·rename_i cs;split at h
  ·rename_i hc;simp at h;subst h;have:cs=#[]:=Array.eq_empty_of_size_eq_zero hc;subst this;exact .tuple [] [] rfl (by simp)
  ·simp at h
 ·exact (aEp h).1
def cT (C:Cx) (e:Env):Operand→Option A
 | .tmp t=>e.get t
 | .const v=>wO v
 | .global g=>match C.gl g with
  | some cs=>some (.eptr cs 0)
  | none=>none
 | .func f=>some (.fn f [] [])
def nA (C:Cx) (t:TypeId) (cs:List A) (o:Nat):Option A :=
 match C.tt t with
 | some ti=>if ti.k.agg=true then (if o+ti.sz≤cs.length then some (.agg ((cs.drop o).take ti.sz)) else none) else cs[o]?
 | none=>none
def iW:List A→Nat→List A→List A
 | cs,_,[]=>cs
 | cs,o,v::vs=>iW (cs.set o v) (o+1) vs
def dU (l:List A):Bool:=l.all A.one
def eqC:A→A→Option Bool
 | .int j a,.int k b=>if j=k then some (decide (a=b)) else none
 | .str a,.str b=>some (decide (a=b))
 | .bool a,.bool b=>some (a == b)
 | _,_=>none
def uM (op:BinOp) (k:IntKind) (a b:Int):Option A :=
 match op with
 | .add=>some (.int k (k.wrap (a+b)))
 | .sub=>some (.int k (k.wrap (a-b)))
 | .mul=>some (.int k (k.wrap (a * b)))
 | .eql=>some (.bool (decide (a=b)))
 | .neq=>some (.bool (!decide (a=b)))
 | .lss=>some (.bool (decide (a<b)))
 | .leq=>some (.bool (decide (a≤b)))
 | .gtr=>some (.bool (decide (b<a)))
 | .geq=>some (.bool (decide (b≤a)))
 | .and=>some (.int k (k.wrap ((BitVec.ofInt k.bits a &&& BitVec.ofInt k.bits b).toNat)))
 | .or=>some (.int k (k.wrap ((BitVec.ofInt k.bits a ||| BitVec.ofInt k.bits b).toNat)))
 | .xor=>some (.int k (k.wrap ((BitVec.ofInt k.bits a ^^^ BitVec.ofInt k.bits b).toNat)))
 | .andNot=>some (.int k (k.wrap ((BitVec.ofInt k.bits a &&& ~~~BitVec.ofInt k.bits b).toNat)))
 | .quo=>if b=0 then none else some (.int k (k.wrap (a.tdiv b)))
 | .rem=>if b=0 then none else some (.int k (a.tmod b))
 | _=>none
def zZ (op:BinOp) (k:IntKind) (a b:Int):Option A :=
 if b<0 then none else match op with
 | .shl=>some (.int k (k.wrap (a * 2 ^ (min b.toNat k.bits))))
 | .shr=>some (.int k (a.fdiv (2 ^ (min b.toNat k.bits))))
 | _=>none
def aGh:BinOp→Bool
 | .shl=>true
 | .shr=>true
 | _=>false
def unA:UnOp→A→Option A
 | .not,.bool b=>some (.bool (!b))
 | .neg,.int k n=>some (.int k (k.wrap (0-n)))
 | .xor,.int k n=>some (.int k (k.wrap ((BitVec.ofInt k.bits (if k.signed then -1 else k.max) ^^^ BitVec.ofInt k.bits n).toNat)))
 | _,_=>none
def oS (place:Nat→Option (Nat × Nat)):List A→List (Nat × A)→Option (List A)
 | cells,[]=>some cells
 | cells,(i,v)::rest =>
  match place i with
  | none=>none
  | some (off,size)=>if v.cells.length=size∧off+size≤cells.length∧dU v.cells=true then oS place (iW cells off v.cells) rest else none
def jB (ρ:Operand→Option A):List (Nat × Operand)→Option (List (Nat × A))
 | []=>some []
 | (i,x)::r=>match ρ x,jB ρ r with
  | some a,some l=>some ((i,a)::l)
  | _,_=>none
def iI (ρ:Operand→Option A):List Operand→Option (List A)
 | []=>some []
 | x::r=>match ρ x,iI ρ r with
  | some a,some l=>some (a::l)
  | _,_=>none
def sF:Nat→List (Nat × A)→Option (List A)
 | _,[]=>some []
 | k,(i,a)::r=>if i=k then (sF (k+1) r).map (a::·) else none
section
def pM (C:Cx) (F:Fr) (g:Gh) (KV Kp:St→A→Prop):Ending→World→Prop
 | .returned v,w=>∃ g' a s,g.le g'∧R C.toCtx F g' s w∧Rz g' a v∧KV s a
 | .panicked jF,w=>∃ g' a v s,jF=[{ v:=v,recovered:=false }]∧g.le g'∧R C.toCtx F g' s w∧Rz g' a v∧Kp s a
 | .outgrown,_=>False
def OutV (C:Cx) (F:Fr) (g:Gh) (KV Kp:St→A→Prop):Result Next→Prop
 | .ok (.value v) w=>∃ g' a s,g.le g'∧R C.toCtx F g' s w∧Rz g' a v∧KV s a
 | .ok .skip w=>∃ g' s,g.le g'∧R C.toCtx F g' s w∧KV s (.tuple [])
 | .ok (.enter f args) w=>Calls C.P f args w (pM C F g KV Kp)
 | .halt (.panic v) w=>∃ g' a s,g.le g'∧R C.toCtx F g' s w∧Rz g' a v∧Kp s a
 | _=>False
def Den (C:Cx) (f:FuncId) (args:List A) (KV Kp:St→A→Prop) (s:St):Prop :=
 ∀ F g w vals,R C.toCtx F g s w→Rzs g args vals→OutV C F g KV Kp ((callFunc f vals.toArray).run C.P w)
def OutS (C:Cx) (F:Fr) (g:Gh) (s:St) (K:A→Prop):Result Next→Prop
 | .ok (.value v) w=>∃ g' a,g.les g'∧R C.toCtx F g' s w∧Rz g' a v∧K a
 | _=>False
def aAx (op:BinOp) (x y:A):Option A :=
 match x,y with
 | .int j a,.int k b=>match aGh op with
  | true=>zZ op j a b
  | false=>if j=k then uM op j a b else none
 | .str a,.str b=>match op with
  | .eql=>some (.bool (decide (a=b)))
  | .neq=>some (.bool (!decide (a=b)))
  | _=>none
 | _,_=>none
def uK:BinOp→A→A→Bool
 | .eql,.agg _,.agg _|.neq,.agg _,.agg _=>true
 | .eql,.bool _,.bool _|.neq,.bool _,.bool _=>true
 | .eql,.iface _ _,.nili|.neq,.iface _ _,.nili=>true
 | .eql,.nili,.nili|.neq,.nili,.nili=>true
 | .eql,.iface _ _,.iface _ _|.neq,.iface _ _,.iface _ _=>true
 | .eql,.nilp,.nilp|.neq,.nilp,.nilp=>true
 | .eql,.ptr _ _,.nilp|.neq,.ptr _ _,.nilp=>true
 | .eql,.ptr _ _,.ptr _ _|.neq,.ptr _ _,.ptr _ _=>true
 | .eql,.nils,.nils|.neq,.nils,.nils=>true
 | .eql,.list _ _,.nils|.neq,.list _ _,.nils=>true
 | .eql,.ml _ _ _,.nils|.neq,.ml _ _ _,.nils=>true
 | .eql,.emp,.nils|.neq,.emp,.nils=>true
 | .eql,.mg _ _ _,.nils|.neq,.mg _ _ _,.nils=>true
 | _,_,_=>false
def jN:A→Option A
 | .list _ es=>some (.int .i64 es.length)
 | .nils=>some (.int .i64 0)
 | .ml _ _ n=>some (.int .i64 n)
 | .emp=>some (.int .i64 0)
 | .mg _ n _=>some (.int .i64 n)
 | _=>none
def wZ:Nat→List A→Prop
 | _,[]=>True
 | n,x::r=>(x.cells.length=n∧dU x.cells=true)∧wZ n r
theorem aBR {n:Nat}:∀ {l:List A},wZ n l→∀ x,x∈l→x.cells.length=n∧∀ c,c∈x.cells→c.one=true
 | [],_,x,hx=>by cases hx
 | y::r,h,x,hx=>by
  cases hx with
  | head=>exact ⟨h.1.1,by have:=h.1.2;simpa [dU] using this⟩
  | tail _ hx=>exact aBR h.2 x hx
def lN:Option A→Option Int
 | none=>some 0
 | some (.int _ i)=>some i
 | _=>none
def kE (n:Nat):Option A→Option Int
 | none=>some n
 | some (.int _ i)=>some i
 | _=>none
def kQ (ρ:Operand→Option A):Option Operand→Option (Option A)
 | none=>some none
 | some x=>match ρ x with
  | some a=>some (some a)
  | none=>none
def nZ (x:A) (lo hi:Option A) (K:A→Prop):Prop :=
 match x with
 | .str s=>match lN lo,kE s.length hi with
  | some l,some h=>(0≤l∧l≤h∧h≤s.length)∧K (.str ((s.drop l.toNat).take (h.toNat-l.toNat)))
  | _,_=>False
 | .list _ es=>match lN lo,kE es.length hi with
  | some l,some h=>(0≤l∧l≤h∧h≤es.length)∧K (.list none ((es.drop l.toNat).take (h.toNat-l.toNat)))
  | _,_=>False
 | _=>False
def elK (sz:Nat) (K:A→Prop):Option A→Prop
 | some x=>x.cells.length=sz∧K (.eptr x.cells 0)
 | none=>False
def chK (K:A→Prop):Option UInt8→Prop
 | some c=>K (.int .u8 c.toNat)
 | none=>False
def aG1:Value→Bool
 | .nilIface=>true
 | .int _ _=>false
 | .bool _=>false
 | .string _=>false
 | .pointer _=>false
 | .slice _ _ _=>false
 | .agg _=>false
 | .nilFunc=>false
 | _=>false
def zU:Operand→Bool
 | .const v=>aG1 v
 | .tmp _=>false
 | .global _=>false
 | .func _=>false
def aAo:BinOp→A→Option A
 | .eql,.nili=>some (.bool true)
 | .eql,.iface _ _=>some (.bool false)
 | .neq,.nili=>some (.bool false)
 | .neq,.iface _ _=>some (.bool true)
 | _,_=>none
def uV:List A→A
 | []=>.emp
 | x::r=>.list none (x::r)
def uN:List (Nat × Operand)→Bool
 | [x]=>match x.2 with
  | .const v=>match v with
   | .agg _=>true
   | _=>false
  | _=>false
 | _=>false
def hlA:List A→A
 | []=>.emp
 | x::r=>match r with
  | []=>.hl x
  | y::r=>.list none (x::y::r)
def aQ (C:Cx) (op:Op) (ρ:Operand→Option A) (K:A→Prop):Prop :=
 let one (v:Option A):Prop:=match v with
  | some v=>K v
  | none=>False
 match op with
 | .move x=>one (ρ x)
 | .assign x=>one (ρ x)
 | .pick c a b=>match ρ c with
  | some (.bool true)=>one (ρ a)
  | some (.bool false)=>one (ρ b)
  | _=>False
 | .binOp op t x y _=>match ρ x,ρ y with
  | some a,some b=>match zU y,uK op a b with
   | true,_=>match b,C.tt t with
    | .nili,some ti=>match ti.k with
     | .iface=>one (aAo op a)
     | _=>False
    | _,_=>False
   | false,d=>match d with
    | true=>match C.eq t a b with
     | some r=>K (.bool (if op=.eql then r else !r))
     | none=>False
    | false=>match op,a,b with
     | .add,.str a,.str b=>a.length+b.length≤maxLen∧K (.str (a++b))
     | op,a,b=>one (aAx op a b)
  | _,_=>False
 | .unOp op _ x=>match ρ x with
  | some a=>one (unA op a)
  | none=>False
 | .nilCheck x=>match ρ x with
  | some (.ptr b o)=>K (.ptr b o)
  | some (.eptr cs o)=>K (.eptr cs o)
  | _=>False
 | .fieldAddr t x f=>match ρ x,C.tt t with
  | some a,some ti=>match ti.k with
   | .struct fs=>match fs[f]? with
    | some (off,_,_)=>match a with
     | .ptr b o=>K (.ptr b (o+off))
     | .eptr cs o=>K (.eptr cs (o+off))
     | _=>False
    | none=>False
   | _=>False
  | _,_=>False
 | .field t x f=>match ρ x,C.tt t with
  | some (.agg cs),some ti=>match ti.k with
   | .struct fs=>match fs[f]? with
    | some (off,sz,ag)=>if ag=true then (off+sz≤cs.length∧K (.agg ((cs.drop off).take sz))) else one cs[off]?
    | none=>False
   | _=>False
  | _,_=>False
 | .typeAssert x _ t ok=>match ok with
  | true=>match ρ x,C.tt t with
   | some (.iface u v),some ti=>match ti.k with
    | .struct _=>u=t∧K (.tuple [v,.bool true])
    | _=>False
   | _,_=>False
  | false=>False
 | .extract x i=>match ρ x with
  | some (.tuple vs)=>one vs[i]?
  | _=>False
 | .makeInterface t x=>match ρ x,C.tt t with
  | some a,some ti=>match ti.k with
   | .iface=>False
   | _=>K (.iface t a)
  | _,_=>False
 | .makeFunc (.func f) first caps=>match iI ρ first.toList,iI ρ caps.toList with
  | some l,some m=>K (.fn f l m)
  | _,_=>False
 | .convert a b x=>match ρ x,C.tt a,C.tt b with
  | some (.int _ n),some _,some tb=>match tb.k with
   | .int k=>K (.int k (k.wrap n))
   | _=>False
  | some (.str s),some ta,some tb=>match tb.k with
   | .string=>K (.str s)
   | .slice e=>match ta.k,C.tt e with
    | .string,some te=>match te.k with
     | .int .u8=>te.sz=1∧s.length≤maxLen∧K (.list none (s.map fun c=>.int .u8 c.toNat))
     | _=>False
    | _,_=>False
   | _=>False
  | _,_,_=>False
 | .build t parts=>match jB ρ parts.toList,C.tt t with
  | some ps,some ti=>match ti.k with
   | .struct fs=>one ((oS (fun i=>(fs[i]?).map fun x=>(x.1,x.2.1)) ti.zero ps).map .agg)
   | _=>False
  | _,_=>False
 | .buildSlice t len parts=>match jB ρ parts.toList,C.tt t with
  | some ps,some ti=>match ti.k with
   | .slice e=>match C.tt e with
    | some te=>match sF 0 ps with
     | some es=>(es.length=len∧(len * te.sz≤16777216∧len≤16777216)∧wZ te.sz es)∧(match uN parts.toList with
      | true=>K (hlA es)
      | false=>K (uV es))
     | none=>False
    | none=>False
   | _=>False
  | _,_=>False
 | .load t x=>match ρ x with
  | some (.eptr cs o)=>one (nA C t cs o)
  | _=>False
 | .slice t x lo hi none=>match ρ x,kQ ρ lo,kQ ρ hi,C.tt t with
  | some a,some l,some h,some ti=>match ti.k with
   | .string=>match a with
    | .str s=>nZ (.str s) l h K
    | _=>False
   | .slice e=>match a,C.tt e with
    | .list tk es,some te=>(∀ x,x∈es→x.cells.length=te.sz)∧nZ (.list tk es) l h K
    | .nils,some _=>match lN l,kE 0 h with
     | some i,some j=>(i=0∧j=0)∧K .nils
     | _,_=>False
    | .gr t n,some _=>match lN l,kE n h with
     | some i,some j=>(i=0∧j=0)∧K (.list (some t) [])
     | _,_=>False
    | .ml b off n,some te=>match lN l,kE n h with
     | some i,some j=>(0≤i∧i≤j∧j≤n)∧K (if j.toNat-i.toNat=0 then .list none [] else .ml b (off+i.toNat * te.sz) (j.toNat-i.toNat))
     | _,_=>False
    | _,_=>False
   | _=>False
  | _,_,_,_=>False
 | .indexAddr t x i=>match ρ x,ρ i,C.tt t with
  | some a,some (.int _ i),some ti=>match ti.k with
   | .slice e=>match a with
    | .list _ es=>match C.tt e with
     | some te=>(0≤i∧i.toNat<es.length)∧elK te.sz K es[i.toNat]?
     | none=>False
    | .ml b off n=>match C.tt e with
     | some te=>(0≤i∧i.toNat<n)∧K (.ptr b (off+i.toNat * te.sz))
     | none=>False
    | .mg b n _=>match C.tt e with
     | some te=>(0≤i∧i.toNat<n)∧K (.ptr b (i.toNat * te.sz))
     | none=>False
    | .pen t es sz=>match C.tt e with
     | some te=>(i=es.length∧sz=te.sz)∧K (.rm t es.length te.sz)
     | none=>False
    | _=>False
   | .array n e=>match a with
    | .eptr cs o=>match C.tt e with
     | some te=>(0≤i∧i<n)∧K (.eptr cs (o+i.toNat * te.sz))
     | none=>False
    | _=>False
   | _=>False
  | _,_,_=>False
 | .index t x i=>match ρ x,ρ i,C.tt t with
  | some (.str s),some (.int _ i),some ti=>match ti.k with
   | .string=>(0≤i∧i.toNat<s.length)∧chK K s[i.toNat]?
   | _=>False
  | _,_,_=>False
 | .call c=>match c.callee,c.args.toList,c.argTypes.toList with
  | .builtin .len,[x],[t]=>match ρ x,C.tt t with
   | some a,some ti=>match ti.k with
    | .string=>one (match a with|.str s=>some (.int .i64 s.length)|_=>none)
    | .slice _=>one (jN a)
    | _=>False
   | _,_=>False
  | .builtin .unsafeSliceData,[x],_=>match ρ x with
   | some (.list tk (y::ys))=>K (.sd tk (y::ys))
   | some .nils=>K .nilp
   | _=>False
  | .builtin .cap,[x],[t]=>match ρ x,C.tt t with
   | some .nils,some ti=>match ti.k with
    | .slice _=>K (.int .i64 0)
    | _=>False
   | _,_=>False
  | .builtin .max,[x,y],_=>match ρ x,ρ y with
   | some (.int j a),some (.int _ b)=>K (.int j (if a<b then b else a))
   | _,_=>False
  | .builtin .min,[x,y],_=>match ρ x,ρ y with
   | some (.int j a),some (.int _ b)=>K (.int j (if b<a then b else a))
   | _,_=>False
  | _,_,_=>False
 | _=>False
section
variable {C:Cx} {F:Fr} {g:Gh} {s:St} {w:World} {K:A→Prop} {ρ:Operand→Option A} {ev:Operand→Value}
theorem Rz.int_inv {k:IntKind} {n:Int} {v:Value} (h:Rz g (.int k n) v):v=.int k n:=by cases h;rfl
theorem Rz.bool_inv {b:Bool} {v:Value} (h:Rz g (.bool b) v):v=.bool b:=by cases h;rfl
theorem Rz.str_inv {s:List UInt8} {v:Value} (h:Rz g (.str s) v):v=.string ⟨s.toArray⟩:=by cases h;rfl
theorem Rz.ptr_inv {b o:Nat} {v:Value} (h:Rz g (.ptr b o) v):∃ k,v=.pointer (some ⟨k,o,none⟩)∧g.beta b=some k:=by cases h;exact ⟨_,rfl,by assumption⟩
theorem Rz.emp_inv {v:Value} (h:Rz g .emp v):∃ a,v=.slice (some a) 0 0:=by cases h;exact ⟨_,rfl⟩
theorem Rz.sd_inv {tk:Option Nat} {es:List A} {v:Value} (h:Rz g (.sd tk es) v):∃ a cap,v=.pointer (some a)∧cap≠0∧Rz g (.list tk es) (.slice (some a) es.length cap):=by
 cases h;exact ⟨_,_,rfl,by assumption,by assumption⟩
theorem Rz.gr_inv {t n:Nat} {v:Value} (h:Rz g (.gr t n) v):∃ k cap,v=.slice (some ⟨k,0,none⟩) n cap∧g.eta t 0=some (.slice (some ⟨k,0,none⟩) 0 cap)∧n≤cap∧cap≤maxLen:=by
 cases h;exact ⟨_,_,rfl,by assumption,by assumption,by assumption⟩
theorem Rz.hl_inv {z:A} {v:Value} (h:Rz g (.hl z) v):∃ a cap,v=.slice (some a) 1 cap∧Rz g (.list none [z]) v:=by cases h;exact ⟨_,_,rfl,by assumption⟩
theorem Rz.pen_inv {t:Nat} {es:List A} {sz:Nat} {v:Value} (h:Rz g (.pen t es sz) v):∃ b cap,v=.slice (some ⟨b,0,none⟩) (es.length+1) cap ∧
  Rz g (.list (some t) es) (.slice (some ⟨b,0,none⟩) es.length cap)∧es.length+1≤cap∧∀ y,y∈es→y.cells.length=sz:=by cases h;exact ⟨_,_,rfl,by assumption,by assumption,by assumption⟩
theorem Rz.rm_inv {t n sz:Nat} {v:Value} (h:Rz g (.rm t n sz) v):∃ b cap,v=.pointer (some ⟨b,n * sz,none⟩)∧g.eta t n=some (.slice (some ⟨b,0,none⟩) n cap)∧n+1≤cap:=by
 cases h;exact ⟨_,_,rfl,by assumption,by assumption⟩
theorem Rz.ml_inv {b o n:Nat} {v:Value} (h:Rz g (.ml b o n) v):∃ k cap,v=.slice (some ⟨k,o,none⟩) n cap∧g.beta b=some k∧n≤cap∧cap≤maxLen:=by
 cases h;exact ⟨_,_,rfl,by assumption,by assumption,by assumption⟩
theorem Rz.mg_inv {b n cap:Nat} {v:Value} (h:Rz g (.mg b n cap) v):∃ k,v=.slice (some ⟨k,0,none⟩) n cap∧g.beta b=some k∧n≤cap∧cap≤maxLen:=by
 cases h;exact ⟨_,rfl,by assumption,by assumption,by assumption⟩
theorem Rz.nilp_inv {v:Value} (h:Rz g .nilp v):v=.pointer none:=by cases h;rfl
theorem Rz.nils_inv {v:Value} (h:Rz g .nils v):v=.slice none 0 0:=by cases h;rfl
theorem Rz.nili_inv {v:Value} (h:Rz g .nili v):v=.nilIface:=by cases h;rfl
theorem Rz.iface_inv {t:TypeId} {a:A} {v:Value} (h:Rz g (.iface t a) v):∃ u,v=.iface t u∧Rz g a u:=by cases h;exact ⟨_,rfl,by assumption⟩
theorem Rz.agg_inv {cs:List A} {v:Value} (h:Rz g (.agg cs) v):∃ vs:List Value,v=.agg vs.toArray∧Rzs g cs vs∧∀ c,c∈cs→c.one=true:=by
 cases h with|agg cs vs hl h1 h=>exact ⟨vs,rfl,⟨hl,h⟩,h1⟩
theorem Rz.tuple_inv {cs:List A} {v:Value} (h:Rz g (.tuple cs) v):∃ vs:List Value,v=.tuple vs.toArray∧Rzs g cs vs:=by
 cases h with|tuple cs vs hl h=>exact ⟨vs,rfl,⟨hl,h⟩⟩
theorem Rz.fn_inv {f:FuncId} {fs cs:List A} {v:Value} (h:Rz g (.fn f fs cs) v):∃ us vs:List Value,v=.func (.func f) us.toArray vs.toArray∧Rzs g fs us∧Rzs g cs vs:=by
 cases h with|fn f fs cs us vs hlf hlc hf hc=>exact ⟨us,vs,rfl,⟨hlf,hf⟩,⟨hlc,hc⟩⟩
theorem Rz.eptr_inv {cs:List A} {o:Nat} {v:Value} (h:Rz g (.eptr cs o) v):∃ b off pre,v=.pointer (some ⟨b,off+o,none⟩)∧g.pi b=some pre∧off+cs.length≤pre.length ∧
  (∀ c,c∈cs→c.one=true)∧∀ (j:Nat) (c:A) (v:Value),cs[j]?=some c→pre[off+j]?=some v→Rz g c v:=by
 cases h with|eptr cs o b off pre hp hl h1 h=>exact ⟨b,off,pre,rfl,hp,hl,h1,h⟩
theorem OutS.val {v:Value} {a:A} (hR:R C.toCtx F g s w) (hv:Rz g a v) (hK:K a):OutS C F g s K (.ok (.value v) w) :=
 ⟨g,a,Gh.les.refl g,hR,hv,hK⟩
theorem zB (he:∀ x a,ρ x=some a→Rz g a (ev x)):∀ {l:List Operand} {az:List A},iI ρ l=some az→Rzs g az (l.map ev)
 | [],az,h=>by simp[iI] at h;subst h;exact .nil g
 | x::r,az,h=>by
  simp only[iI] at h;split at h
  ·rename_i a l ha hl;simp at h;subst h;exact .cons (he x a ha) (zB he hl)
  ·simp at h
theorem yJ (he:∀ x a,ρ x=some a→Rz g a (ev x)):∀ {l:List (Nat × Operand)} {az:List (Nat × A)},jB ρ l=some az →
  (l.map fun x=>x.1)=az.map (fun x=>x.1)∧Rzs g (az.map fun x=>x.2) (l.map fun x=>ev x.2)
 | [],az,h=>by simp[jB] at h;subst h;exact ⟨rfl,.nil g⟩
 | (i,x)::r,az,h=>by
  simp only[jB] at h;split at h
  ·rename_i a l ha hl;simp at h;subst h;have:=yJ he hl;exact ⟨by simp[this.1],.cons (he x a ha) this.2⟩
  ·simp at h
theorem fH {t:TypeId} {ti:TI} (h:C.tt t=some ti):∃ d,C.P.underlying t=some d∧ti.k.ok C.P d:=(C.htt t ti h).und
theorem uJ {t:TypeId} {ti:TI} (h:C.tt t=some ti) (w:World):(isAgg t).run C.P w=.ok ti.k.agg w:=by
 obtain ⟨d,hd,hk⟩:=fH h;simp only[isAgg,aV,cI hd,aW];cases hk':ti.k<;>rw[hk'] at hk<;>simp only[TK.ok] at hk<;>(try subst hk)<;>(try rfl)
 ·obtain ⟨fields,rfl,_⟩:=hk;rfl
 ·obtain ⟨ms,rfl⟩:=hk;rfl
 ·cases d<;>simp_all [sO,TK.agg]
theorem iX {t:TypeId} {ti:TI} (h:C.tt t=some ti) (w:World):(sizeOf t).run C.P w=.ok ti.sz w:=by
 obtain ⟨i,z,hi,hs,_⟩:=(C.htt t ti h).info;simp[sizeOf,typeInfo,hi,hs]
theorem qS {t:TypeId} {ti:TI} (h:C.tt t=some ti):C.toCtx.sz t=ti.sz:=by
 obtain ⟨i,z,hi,hs,_⟩:=(C.htt t ti h).info;simp[Ctx.sz,hi,hs]
theorem wN {t:TypeId} {ti:TI} (h:C.tt t=some ti) (w:World):∃ z,(zeroValue t).run C.P w=.ok z w∧∀ g,Rzs g ti.zero z.cells.toList:=by
 obtain ⟨i,z,hi,hs,hb,hz,hr⟩:=(C.htt t ti h).info;exact ⟨z,by simp[zeroValue,typeInfo,hi,hz],hr⟩
end
end
end Go.AV
