/-
  Of CheckChecks.
-/
import Derived.WalkKit
import Derived.Orders
import Derived.MapKept
import Derived.Laws.Cover3
import Derived.LaidEqlPtr
import Derived.Laws.StructEq
import Derived.Laws.Pointers
import Derived.Lib.Strings
import Derived.Laws.RangeString
import Derived.Laws.IdiomStrings
import Derived.Laws.MakeOwn
set_option linter.all false
set_option maxRecDepth 99999
set_option maxHeartbeats 0
namespace Go.AV
open Go
def dI:=@List.getElem?_eq_getElem
def pH:=@Nat.le_trans
def bV:=@Option.some.injEq
def bO:=@List.mem_singleton
def bX:=@List.map_cons
def bJ:=@Nat.le_refl
def bN:=@Sem.run_bind
def dZ:=@List.getElem?_eq_some_iff
def bU:=@List.map_append
def dL:=@List.map_nil
def eS:=@List.eq_nil_of_length_eq_zero
def cN:=@List.mem_map
def gB:=@Bool.false_and
def aW:=@Nat.zero_le
def iZ:=@Bool.and_false
def bW:=@decide_eq_true_eq
def bK:=@List.mem_of_getElem?
def dN:=@run_underlying
def fP:=@Bool.not_true
def iW:=@Array.getElem?_eq_some_iff
def bR:=@decide_eq_false
def dT:=@List.length_take
def dW:=@Bool.true_and
def gW:=@Bool.false_or
def cT:=@decide_eq_true
def iB:=@Bool.not_false
def kM:=@List.getElem_of_mem
def oZ:=@List.drop_eq_getElem_cons
def eU:=@Bool.and_true
def fZ:=@Nat.lt_succ_self
def dE:=@List.all_eq_true
def jT:=@Bool.true_or
def kE:=@List.getElem?_append_left
def tG:=@Option.map_eq_some_iff
def mR:=@List.getElem?_drop
def iQ:=@Nat.zero_add
def lA:=@List.map_toArray
def mP:=@List.getElem?_toArray
def jA:=@Bool.or_false
def gO:=@Nat.add_mul
def lZ:=@List.take_of_length_le
def rH:=@Nat.mul_le_mul_right
def kF:=@List.getElem_mem
def cK:=@List.mem_append
def mS:=@List.getElem?_take
def iY:=@Bool.not_eq_true'
def cC:=@decide_eq_decide
def uZ:=@List.drop_drop
def lM:=@Bool.or_true
def qG:=@List.mem_of_mem_take
def eG:=@List.append_assoc
def rJ:=@UInt8.toNat_inj
def nJ:=@List.tail_drop
def pI:=@Code.wp_mono
def gV:=@Bool.or_eq_true
def aBJ:=@decide_true
def fO:=@decide_eq_false_iff_not
def qJ:=@Value.slice.injEq
def uW:=@List.mem_of_mem_drop
def cQ:=@List.mem_cons_self
def uU:=@List.getElem?_eq_none
def iI:=@List.not_mem_nil
def sC:=@List.getElem?_append_right
def gG:=@true_and
def dP:=@List.drop_eq_nil_of_le
def aAg:=@List.mem_or_eq_of_mem_set
def pE:=@Prod.mk.injEq
def gJ:=@List.take_add_one
def uX:=@List.getElem?_set
def nH:=@List.getElem?_map
def nY:=@Nat.add_assoc
def aBv:=@Array.getElem?_setIfInBounds_ne
def aAh:=@List.drop_zero
def aBw:=@Array.getElem?_eq_getElem
def aBC:=@decide_false
def tH:=@Option.some.inj
def vA:=@List.mem_range
def jQ:=@Bool.eq_false_iff
def tK:=@Addr.mk.injEq
def sE:=@List.find?_eq_none
def aFv:=@Bool.not_eq_false'
def uT:=@List.mem_of_find?_eq_some
def eA:=@List.mem_cons_of_mem
def jR:=@List.flatMap_cons
def aIQ:=@Nat.lt_or_ge
def sJ:=@and_self
def aAp:=@Int.le_refl
def aBy:=@beq_eq_false_iff_ne
def oG:=@false_and
def aIf:=@Nat.min_eq_left
def dK:=@List.append_nil
def aBx:=@Array.getElem?_toList
def aFu:=@Array.getD_eq_getD_getElem?
def eJ:=@or_false
def oI:=@and_true
def fT:=@of_decide_eq_true
def bM:=@Result.andThen_ok
def cG:=@Sem.run_pure
def mO:=@List.getElem?_cons_zero
def wG:=@List.set_cons_succ
def yK:=@List.set_cons_zero
def qH:=@Array.length_toList
def lL:=@Option.map_some
def aD:=@if_neg
def aF:=@if_pos
def cZ:=@if_false
def dF:=@if_true
def dB:=@ne_eq
def cV:=@absurd
def lE:=@congrArg
def bT:=@List.take_length
def iX:=@List.mem_append_left
def mA:=@List.mem_append_right
def fG:=@List.all_cons
def mQ:=@List.take_append_drop
def kZ:=@Option.isSome_none
def kN:=@List.all_append
def mB:=@List.flatten_cons
def lB:=@List.headD_cons
def kO:=@List.take_zero
def lC:=@List.map_take
def nI:=@List.mem_nil_iff
def lD:=@Nat.add_zero
def pB:=@List.flatten_nil
def qK:=@Int.toNat_natCast
def sD:=@List.flatMap_append
def pC:=@List.any_append
def pD:=@List.foldl_cons
def rI:=@List.foldl_append
def gA:=@Bool.eq_iff_iff
def qI:=@Option.isNone_some
def yL:=@Option.isNone_none
def qL:=@Option.getD_some
def uY:=@Option.getD_none
def mC:=@List.mem_flatMap
def nK:=@List.all_nil
def sF:=@List.flatMap_nil
def pF:=@List.any_cons
def aIR:=@List.any_nil
def sG:=@Option.bind_some
def uV:=@List.length_singleton
def jS:=@List.any_eq_true
end Go.AV
namespace Go.Proofs.Tryz
end Go.Proofs.Tryz
namespace Go.AV
theorem bQ{i n : Nat}{P : Prop}(a : i <= n)(h : P)(f : P -> ¬ i < n := by(intro h; simpa using h)) : i = n := Nat.le_antisymm a (Nat.le_of_not_lt (f h))
theorem bB{α : Type _}{l : List α}{i : Nat}(h : i < l.length) : ∃a, l[i]? = some a := ⟨_, dI h⟩
theorem gQ{P Q : Prop}(h : P)(f : P -> Q := by(intro h; simpa using h)) : Q := f h
theorem aQ{p : Prop}(h : p := by(simp only; omega)) : p := h
theorem aS{P Q : Prop}(h : P)(f : P -> Q := by(intro h; first | exact h | exact h.2 | exact h.2.2 | exact h.2.2.2 | exact h.2.2.2.2 | exact h.2.2.2.2.2 | exact h.2.2.2.2.2.2)) : Q := f h
theorem aB{p : Prop}(h : p := by omega) : p := h
theorem dM{p : Prop}(h : p := by decide) : p := h
theorem bA{p : Prop}(h : p := by simp) : p := h
theorem fY : (¬False) = True := not_false_eq_true
theorem aV{α : Type _}{a : α}{l : List α} : (a :: l).length = l.length + 1 := rfl
theorem aH{α : Type _}{l r : List α} : (l ++ r).length = l.length + r.length := List.length_append
theorem aZ{α : Type _} : ([] : List α).length = 0 := rfl
theorem aO{α : Type _}{h : Type _}{l : List α}(f : α -> h) : (List.map f l).length = l.length := List.length_map f
theorem dG{α : Type _}{b : α}{l : List α}{a : α} : a ∈ b :: l ↔ a = b \/ a ∈ l := List.mem_cons
theorem jO{n m : Nat}(h : n.ble m = true) : n <= m := Nat.le_of_ble_eq_true h
theorem sB{n m : Nat}(h : n.beq m = true) : n = m := Nat.eq_of_beq_eq_true h
theorem dY{α : Type _}{a : α}{l r : List α} : a :: l ++ r = a :: (l ++ r) := rfl
theorem dD{α : Type _}(l : List α) : [] ++ l = l := rfl
theorem dS{α : Type _}{i : Nat}{l : List α} : (List.drop i l).length = l.length - i := List.length_drop
theorem bP(a b : Bool) : ((a && b) = true) = (a = true /\ b = true) := Bool.and_eq_true a b
theorem dA : (false = true) = False := Bool.false_eq_true
end Go.AV
namespace Go.AV
open Go Go.Proofs Tryz
section
inductive A where
 | int (k:IntKind) (n:Int)
 | bool (b:Bool)
 | str (s:List UInt8)
 | ptr (b off:Nat)
 | eptr (cs:List A) (off:Nat)
 | nilp
 | nils
 | list (tok:Option Nat) (es:List A)
 | agg (cs:List A)
 | fn (f:FuncId) (first caps:List A)
 | nilf
 | iface (t:TypeId) (v:A)
 | nili
 | tuple (vs:List A)
 | ml (b off n:Nat)
 | emp
 | sd (tk:Option Nat) (es:List A)
 | gr (t n:Nat)
 | hl (z:A)
 | pen (t:Nat) (es:List A) (sz:Nat)
 | rm (t n sz:Nat)
 | mg (b n cap:Nat)
 | mp (b:Nat)
 | nilm
 | full (es:List A)
instance : Inhabited A := ⟨.nilp⟩
def A.cells:A->List A
 | .agg cs=>cs
 | a=>[a]
def A.one:A->Bool
 | .agg _|.tuple _=>false
 | _=>true
structure Gh where
 pi:Nat->Option (List Value)
 eta:Nat->Nat->Option Value
 beta:Nat->Option Nat
 env:Os × Array (Nat × ByteArray)
structure Gh.le (g g':Gh):Prop where
 pi:∀b pre,g.pi b=some pre->∃ext,g'.pi b=some (pre++ext)
 eta:∀t n v,g.eta t n=some v->g'.eta t n=some v
 beta:∀b k,g.beta b=some k->g'.beta b=some k
 env:g'.env=g.env
structure Gh.les (g g':Gh):Prop where
 le:g.le g'
 eta:g'.eta=g.eta
 beta:g'.beta=g.beta
theorem fJ(g:Gh):g.le g:=⟨λ_ pre h=>⟨[],gQ h⟩,λ_ _ _ h=>h,λ_ _ h=>h,rfl⟩
theorem Gh.les.refl(g:Gh):g.les g:=⟨fJ g,rfl,rfl⟩
theorem Gh.le.trans{a b c:Gh}(h:a.le b)(u:b.le c):a.le c :=
 ⟨fun k pre m => by
  obtain⟨x,z⟩:=h.pi k pre m;obtain⟨y,B⟩:=u.pi k _ z;exact⟨x++y,gQ B⟩,λt n v m=>u.eta _ _ _ (h.eta _ _ _ m),λb k m=>u.beta _ _ (h.beta _ _ m),u.env.trans h.env⟩
theorem Gh.les.trans{a b c:Gh}(h:a.les b)(m:b.les c):a.les c:=⟨h.le.trans m.le,m.eta.trans h.eta,m.beta.trans h.beta⟩
inductive Rz (g:Gh):A->Value->Prop
 | int (k:IntKind) (n:Int):Rz g (.int k n) (.int k n)
 | bool (b:Bool):Rz g (.bool b) (.bool b)
 | str (s:List UInt8):Rz g (.str s) (.string ⟨s.toArray⟩)
 | ptr (b o k:Nat) (hb:g.beta b=some k):Rz g (.ptr b o) (.pointer (some ⟨k,o,none⟩))
 | emp (a:Addr):Rz g .emp (.slice (some a) 0 0)
 | sd (tk:Option Nat) (es:List A) (a:Addr) (cap:Nat) (hc:cap≠0) (h:Rz g (.list tk es) (.slice (some a) es.length cap)):Rz g (.sd tk es) (.pointer (some a))
 | gr (t n k cap:Nat) (h:g.eta t 0=some (.slice (some ⟨k,0,none⟩) 0 cap)) (hn:n<=cap) (hm:cap<=maxLen):Rz g (.gr t n) (.slice (some ⟨k,0,none⟩) n cap)
 | hl (z:A) (a:Addr) (cap:Nat) (h:Rz g (.list none [z]) (.slice (some a) 1 cap)):Rz g (.hl z) (.slice (some a) 1 cap)
 | pen (t:Nat) (es:List A) (sz b cap:Nat) (h:Rz g (.list (some t) es) (.slice (some ⟨b,0,none⟩) es.length cap)) (hc:es.length+1<=cap) (hs:∀y,y∈es->y.cells.length=sz) :
   Rz g (.pen t es sz) (.slice (some ⟨b,0,none⟩) (es.length+1) cap)
 | rm (t n sz b cap:Nat) (h:g.eta t n=some (.slice (some ⟨b,0,none⟩) n cap)) (hc:n+1<=cap):Rz g (.rm t n sz) (.pointer (some ⟨b,n * sz,none⟩))
 | ml (b off n cap k:Nat) (hb:g.beta b=some k) (hc:n<=cap) (hm:cap<=maxLen):Rz g (.ml b off n) (.slice (some ⟨k,off,none⟩) n cap)
 | mg (b n cap k:Nat) (hb:g.beta b=some k) (hc:n<=cap) (hm:cap<=maxLen):Rz g (.mg b n cap) (.slice (some ⟨k,0,none⟩) n cap)
 | eptr (cs:List A) (o b off:Nat) (pre:List Value) (hp:g.pi b=some pre) (hl:off+cs.length<=pre.length)
   (h1:∀c,c∈cs->c.one=true)
   (h:∀(j:Nat) (c:A) (v:Value),cs[j]?=some c->pre[off+j]?=some v->Rz g c v) :
   Rz g (.eptr cs o) (.pointer (some ⟨b,off+o,none⟩))
 | mp (b k:Nat) (hb:g.beta b=some k):Rz g (.mp b) (.map (some k))
 | nilm:Rz g .nilm (.map none)
 | full (es:List A) (a:Option Addr) (h:Rz g (.list none es) (.slice a es.length es.length)):Rz g (.full es) (.slice a es.length es.length)
 | nilp:Rz g .nilp (.pointer none)
 | nils:Rz g .nils (.slice none 0 0)
 | list (tk:Option Nat) (es:List A) (b off sz cap:Nat) (pre:List Value) (hp:g.pi b=some pre)
   (hl:off+es.length * sz<=pre.length)(hc:es.length<=cap)(hm:cap<=maxLen)
   (hs:∀e,e∈es->e.cells.length=sz)(h1:∀e,e∈es->∀c,c∈e.cells->c.one=true)
   (h:∀(i:Nat) (e:A) (j:Nat) (c:A) (v:Value),es[i]?=some e->e.cells[j]?=some c->pre[off+i * sz+j]?=some v->Rz g c v)
   (ht:∀t,tk=some t->g.eta t es.length=some (.slice (some ⟨b,off,none⟩) es.length cap)) :
   Rz g (.list tk es) (.slice (some ⟨b,off,none⟩) es.length cap)
 | list0 (tk:Option Nat) (a:Option Addr) (cap:Nat) (hm:cap<=maxLen) (ht:∀t,tk=some t->g.eta t 0=some (.slice a 0 cap)) :
   Rz g (.list tk []) (.slice a 0 cap)
 | agg (cs:List A) (vs:List Value) (hl:vs.length=cs.length) (h1:∀c,c∈cs->c.one=true)
   (h:∀(j:Nat) (c:A) (v:Value),cs[j]?=some c->vs[j]?=some v->Rz g c v):Rz g (.agg cs) (.agg vs.toArray)
 | fn (f:FuncId) (fs cs:List A) (us vs:List Value) (hlf:us.length=fs.length) (hlc:vs.length=cs.length)
   (hf:∀(j:Nat) (c:A) (v:Value),fs[j]?=some c->us[j]?=some v->Rz g c v)
   (hc:∀(j:Nat) (c:A) (v:Value),cs[j]?=some c->vs[j]?=some v->Rz g c v) :
   Rz g (.fn f fs cs) (.func (.func f) us.toArray vs.toArray)
 | nilf:Rz g .nilf .nilFunc
 | iface (t:TypeId) (a:A) (v:Value) (h:Rz g a v):Rz g (.iface t a) (.iface t v)
 | nili:Rz g .nili .nilIface
 | tuple (cs:List A) (vs:List Value) (hl:vs.length=cs.length)
   (h:∀(j:Nat) (c:A) (v:Value),cs[j]?=some c->vs[j]?=some v->Rz g c v):Rz g (.tuple cs) (.tuple vs.toArray)
theorem aGU{α:Type}{l ext:List α}{i:Nat}{v:α}(m:i<l.length)(h:(l++ext)[i]?=some v):l[i]?=some v:=by
 rwa[kE m]at h
theorem Rz.mono{g g':Gh}(B:g.le g'){a:A}{v:Value}(h:Rz g a v):Rz g' a v:=by
 induction h with
 | int k n=>exact .int k n
 | bool b=>exact .bool b
 | str s=>exact .str s
 | ptr b o k H=>exact .ptr b o k (B.beta _ _ H)
 | ml b off n cap k H m G=>exact .ml b off n cap k (B.beta _ _ H) m G
 | mg b n cap k H m G=>exact .mg b n cap k (B.beta _ _ H) m G
 | mp b k H=>exact .mp b k (B.beta _ _ H)
 | emp a=>exact .emp a
 | sd tk es a cap m _ u=>exact .sd tk es a cap m u
 | gr t n k cap h hn G=>exact .gr t n k cap (B.eta _ _ _ h) hn G
 | hl z a cap _ u=>exact .hl z a cap u
 | pen t es sz b cap _ m S u=>exact .pen t es sz b cap u m S
 | rm t n sz b cap h m=>exact .rm t n sz b cap (B.eta _ _ _ h) m
 | eptr cs o b off pre hp hl M _ u =>
  obtain⟨ext,hx⟩:=B.pi b pre hp;refine .eptr cs o b off _ hx (by simp;omega) M λj c v m y=>?_
  have hj:j<cs.length:=(dZ.1 m).1;exact u j c v m (aGU aB y)
 | nilm=>exact .nilm
 | full es a _ u=>exact .full es a u
 | nilp=>exact .nilp
 | nils=>exact .nils
 | list tk es b off sz cap pre hp hl m G S M _ ht u =>
  obtain⟨ext,hx⟩:=B.pi b pre hp;refine .list tk es b off sz cap _ hx (by simp;omega) m G S M (λi e j c v U O y=>?_) (λt h=>B.eta _ _ _ (ht t h));have hi:i<es.length:=(dZ.1 U).1;have hj:j<e.cells.length:=(dZ.1 O).1;have:=S e (bK U)
  have H:i * sz+j<es.length * sz:=by
   have:(i+1) * sz<=es.length * sz:=rH _ hi;rw[gO]at this;omega
  exact u i e j c v U O (aGU aB y)
 | list0 tk a cap G ht=>exact .list0 tk a cap G (λt h=>B.eta _ _ _ (ht t h))
 | agg cs vs hl M _ u=>exact .agg cs vs hl M λj c v m y=>u j c v m y
 | fn f fs cs us vs b0 Z _ _ b2 b1=>exact .fn f fs cs us vs b0 Z (λj c v m y=>b2 j c v m y) (λj c v m y=>b1 j c v m y)
 | nilf=>exact .nilf
 | iface t a v _ u=>exact .iface t a v u
 | nili=>exact .nili
 | tuple cs vs hl _ u=>exact .tuple cs vs hl λj c v m y=>u j c v m y
def Rzs(g:Gh)(cs:List A)(vs:List Value):Prop :=
 vs.length=cs.length/\∀(j:Nat) (c:A) (v:Value),cs[j]?=some c->vs[j]?=some v->Rz g c v
theorem Rzs.mono{g m:Gh}(y:g.le m){cs:List A}{vs:List Value}(h:Rzs g cs vs):Rzs m cs vs :=
 ⟨h.1,λj c v u z=>(h.2 j c v u z).mono y⟩
theorem Rzs.nil(g:Gh):Rzs g [] []:=⟨rfl,λj c v h=>by simp at h⟩
theorem Rzs.cons{g:Gh}{c:A}{v:Value}{cs:List A}{vs:List Value}(h:Rz g c v)(z:Rzs g cs vs):Rzs g (c::cs) (v::vs) :=
 ⟨by simp [z.1],fun j => by
  cases j with
  | zero=>intro x y m u;simp at m u;subst m;subst u;exact h
  | succ j=>intro x y m u;exact z.2 j x y (gQ m) (gQ u)⟩
theorem Rzs.get{g:Gh}{cs:List A}{vs:List Value}(h:Rzs g cs vs){j:Nat}{c:A}(m:cs[j]?=some c):∃v,vs[j]?=some v/\Rz g c v:=by
 have y:j<cs.length:=(dZ.1 m).1;have u:j<vs.length:=by rw[h.1];exact y
 exact⟨vs[j],dI u,h.2 j c _ m (dI u)⟩
theorem Rzs.append{g:Gh}{cs y:List A}{vs us:List Value}(h:Rzs g cs vs)(z:Rzs g y us):Rzs g (cs++y) (vs++us):=by
 refine⟨by simp[h.1,z.1],λj c v m u=>?_⟩;by_cases B:j<cs.length
 .rw[kE B]at m;rw[kE (by rw[h.1];exact B)]at u;exact h.2 j c v m u
 .rw[sC aB]at m;rw[sC (by rw[h.1];omega),h.1]at u;exact z.2 _ c v m u
theorem Rzs.set{g:Gh}{cs:List A}{vs:List Value}(h:Rzs g cs vs){o:Nat}{c:A}{v:Value}(B:Rz g c v):Rzs g (cs.set o c) (vs.set o v):=by
 refine⟨by simp[h.1],λj x y m u=>?_⟩;by_cases z:o=j
 .subst z;rw[uX]at m u;simp only[↓reduceIte]at m u;split at m<;>split at u<;>simp_all
 .rw[List.getElem?_set_ne z]at m u;exact h.2 j x y m u
theorem Rzs.take{g:Gh}{cs:List A}{vs:List Value}(h:Rzs g cs vs)(n:Nat):Rzs g (cs.take n) (vs.take n):=by
 refine⟨by simp[h.1],λj c v m u=>?_⟩;rw[mS]at m u;split at m
 .rename_i y;rw[aF y]at u;exact h.2 j c v m u
 .simp at m
theorem Rzs.drop{g:Gh}{cs:List A}{vs:List Value}(h:Rzs g cs vs)(n:Nat):Rzs g (cs.drop n) (vs.drop n):=by
 refine⟨by simp[h.1],λj c v m u=>?_⟩;rw[mR]at m u;exact h.2 _ c v m u
theorem Rz.cells{g:Gh}{a:A}{v:Value}(h:Rz g a v):Rzs g a.cells v.cells.toList:=by
 cases h with
 | agg cs vs hl B h=>exact⟨by simpa [A.cells,Value.cells]using hl,by simpa [A.cells,Value.cells]using h⟩
 | int k n=>exact .cons (.int k n) (.nil g)
 | bool b=>exact .cons (.bool b) (.nil g)
 | str s=>exact .cons (.str s) (.nil g)
 | ptr b o k y=>exact .cons (.ptr b o k y) (.nil g)
 | ml b off n cap k y m u=>exact .cons (.ml b off n cap k y m u) (.nil g)
 | mg b n cap k y m u=>exact .cons (.mg b n cap k y m u) (.nil g)
 | mp b k y=>exact .cons (.mp b k y) (.nil g)
 | emp a=>exact .cons (.emp a) (.nil g)
 | sd tk es a cap m h=>exact .cons (.sd tk es a cap m h) (.nil g)
 | gr t n k cap h hn u=>exact .cons (.gr t n k cap h hn u) (.nil g)
 | hl z a cap h=>exact .cons (.hl z a cap h) (.nil g)
 | pen t es sz b cap h m O=>exact .cons (.pen t es sz b cap h m O) (.nil g)
 | rm t n sz b cap h m=>exact .cons (.rm t n sz b cap h m) (.nil g)
 | eptr cs o b off pre M hl B h=>exact .cons (.eptr cs o b off pre M hl B h) (.nil g)
 | nilm=>exact .cons .nilm (.nil g)
 | full es a h=>exact .cons (.full es a h) (.nil g)
 | nilp=>exact .cons .nilp (.nil g)
 | nils=>exact .cons .nils (.nil g)
 | list tk es b off sz cap pre M hl m u O B h S=>exact .cons (.list tk es b off sz cap pre M hl m u O B h S) (.nil g)
 | list0 tk a cap u S=>exact .cons (.list0 tk a cap u S) (.nil g)
 | fn f U cs us vs H G Z m=>exact .cons (.fn f U cs us vs H G Z m) (.nil g)
 | nilf=>exact .cons .nilf (.nil g)
 | iface t a v h=>exact .cons (.iface t a v h) (.nil g)
 | nili=>exact .cons .nili (.nil g)
 | tuple cs vs hl h=>exact .cons (.tuple cs vs hl h) (.nil g)
theorem Rz.one{g:Gh}{a:A}{v:Value}(h:Rz g a v)(m:a.one=true):v.oneCell'=true:=by
 cases h<;>simp_all [A.one,Value.oneCell']
theorem Rzs.one{g:Gh}{cs:List A}{vs:List Value}(h:Rzs g cs vs)(y:∀c,c∈cs->c.one=true):∀v,v∈vs->v.oneCell'=true:=by
 intro v z;obtain⟨j,u,rfl⟩:=kM z;have m:j<cs.length:=by rw[<-h.1];exact u
 exact(h.2 j cs[j] vs[j] (dI m) (dI u)).one (y _ (kF m))
theorem Rz.forget{g:Gh}{tk:Option Nat}{es:List A}{v:Value}(h:Rz g (.list tk es) v):Rz g (.list none es) v:=by
 cases h with
 | list tk es b off sz cap pre z hl y m B u h G=>exact .list none es b off sz cap pre z hl y m B u h bA
 | list0 tk a cap m G=>exact .list0 none a cap m bA
inductive MK where
 | str (s:List UInt8)
 | int (n:Int)
 | two (a b:List UInt8)
 deriving DecidableEq
def MK.kd:MK->Nat
 | .str _=>0
 | .int _=>1
 | .two _ _=>2
def MK.val:MK->Value
 | .str s=>.string ⟨s.toArray⟩
 | .int n=>.int .i64 n
 | .two a b=>.agg #[.string ⟨a.toArray⟩,.string ⟨b.toArray⟩]
inductive Ob where
 | cells (e:TypeId) (cs:List A)
 | iter (s:List UInt8) (pos:Nat)
 | map (kd:Nat) (es:List (MK × A))
structure St where
 ob:Nat->Option Ob
 ov:List (Nat × Ob)
 tk:Nat->Option (Nat × TypeId)
 tv:List (Nat × (Nat × TypeId))
 lim:Nat
 ls:Option (Nat × Nat × A)
def rA{α:Type}:List (Nat × α)->(Nat->Option α)->Nat->Option α
 | [],σ,p=>σ p
 | (q,c)::L,σ,p=>if q=p then some c else rA L σ p
def oX{α:Type}:Nat->α->List (Nat × α)->List (Nat × α)
 | p,c,[]=>[(p,c)]
 | p,c,(q,d)::L=>if q=p then(q,c)::L else(q,d)::oX p c L
theorem aB0{α:Type}(p:Nat)(c:α)(σ:Nat->Option α)(q:Nat):∀L,rA (oX p c L) σ q=if p=q then some c else rA L σ q
 | []=>by simp[oX,rA]
 | (k,d)::L=>by
  unfold oX;by_cases h:k=p
  .subst h;simp only[↓reduceIte,rA];split<;>simp_all
  .simp only[h,↓reduceIte,rA,aB0 p c σ q L];by_cases m:k=q
   .subst m;have:¬ p=k:=λe=>h e.symm
    simp[this]
   .simp[m]
def St.getO(s:St)(b:Nat):Option Ob:=rA s.ov s.ob b
def St.setO(s:St)(b:Nat)(o:Ob):St:={ s with ov:=oX b o s.ov }
def St.newO(s:St)(o:Ob):St:={ s with ov:=oX s.lim o s.ov,lim:=s.lim+1 }
def St.newT(s:St)(n:Nat × TypeId):St:={ s with tv:=oX s.lim n s.tv,lim:=s.lim+1 }
def St.getT(s:St)(t:Nat):Option (Nat × TypeId):=rA s.tv s.tk t
def St.setT(s:St)(t:Nat)(n:Nat × TypeId):St:={ s with tv:=oX t n s.tv }
def St.setL(s:St)(x:Option (Nat × Nat × A)):St:={ s with ls:=x }
def zZ{α:Type}:Nat->List (Nat × α)->List (Nat × α)
 | _,[]=>[]
 | p,(q,d)::L=>if q=p then zZ p L else(q,d)::zZ p L
theorem aGr{α:Type}(p:Nat)(σ:Nat->Option α)(q:Nat):∀L,rA (zZ p L) (λu=>if u=p then none else σ u) q=if q=p then none else rA L σ q
 | []=>by simp[zZ,rA]
 | (k,d)::L=>by
  have z:=aGr p σ q L;unfold zZ;by_cases h:k=p
  .subst h;simp only[↓reduceIte,z,rA];by_cases m:q=k
   .subst m;simp
   .have:¬ k=q:=λe=>m e.symm
    simp[m,this]
  .simp only[h,↓reduceIte,rA,z];by_cases y:k=q
   .subst y;simp[h]
   .simp[y]
def St.delT(s:St)(t:Nat):St:={ s with tk:=λu=>if u=t then none else s.tk u,tv:=zZ t s.tv }
theorem tL(s:St)(t u:Nat):(s.delT t).getT u=if u=t then none else s.getT u:=aGr t s.tk u s.tv
theorem aL(s:St)(b:Nat)(o:Ob)(q:Nat):(s.setO b o).getO q=if b=q then some o else s.getO q:=aB0 b o s.ob q s.ov
theorem St.getT_setO(s:St)(b:Nat)(o:Ob)(q:Nat):(s.setO b o).getT q=s.getT q:=rfl
theorem dC(s:St)(b:Nat)(o:Nat × TypeId)(q:Nat):(s.setT b o).getT q=if b=q then some o else s.getT q:=aB0 b o s.tk q s.tv
theorem aIA(s:St)(o:Ob)(q:Nat):(s.newO o).getO q=if s.lim=q then some o else s.getO q:=aB0 s.lim o s.ob q s.ov
theorem aFF(s:St)(o:Nat × TypeId)(q:Nat):(s.newT o).getT q=if s.lim=q then some o else s.getT q:=aB0 s.lim o s.tk q s.tv
theorem fF(s:St)(x:Option (Nat × Nat × A))(q:Nat):(s.setL x).getO q=s.getO q:=rfl
theorem yN(s:St)(x:Option (Nat × Nat × A))(q:Nat):(s.setL x).getT q=s.getT q:=rfl
theorem nW(s:St)(b:Nat)(o:Nat × TypeId)(q:Nat):(s.setT b o).getO q=s.getO q:=rfl
structure St.ge (s s':St):Prop where
 ob:∀b o,s'.getO b=some o->s.getO b=some o
 tk:∀t n,s'.getT t=some n->s.getT t=some n
 ls:∀x,s'.ls=some x->s.ls=some x
theorem aE(s:St):s.ge s:=⟨λ_ _ h=>h,λ_ _ h=>h,λ_ h=>h⟩
theorem St.ge.trans{a b c:St}(h:a.ge b)(m:b.ge c):a.ge c:=⟨λ_ _ x=>h.ob _ _ (m.ob _ _ x),λ_ _ x=>h.tk _ _ (m.tk _ _ x),λ_ x=>h.ls _ (m.ls _ x)⟩
structure Ctx where
 P:Program
 det:Bool
 gl:Nat->Option (List A)
def Ctx.sz(C:Ctx)(t:TypeId):Nat:=((C.P.info? t).map (·.size)).getD 0
def MRz(g:Gh)(kd:Nat):List (MK × A)->List MapEntry->Prop
 | [],[]=>True
 | (k,a)::es,m::ms=>(k.kd=kd/\m.key=k.val/\Rz g a m.val)/\MRz g kd es ms
 | _,_=>False
theorem MRz.mono{g m:Gh}(u:g.le m){kd:Nat}:∀{es:List (MK × A)} {ms:List MapEntry},MRz g kd es ms->MRz m kd es ms
 | [],[],_=>trivial
 | (_,_)::_,_::_,h=>⟨⟨h.1.1,h.1.2.1,h.1.2.2.mono u⟩,h.2.mono u⟩
 | [],_::_,h=>h.elim
 | _::_,[],h=>h.elim
def ObRz(g:Gh):Ob->Option Obj->Prop
 | .cells e cs,x=>∃vs rest,x=some (.cells (vs++rest).toArray e)/\Rzs g cs vs/\∀c,c∈cs->c.one=true
 | .iter s pos,x=>x=some (.stringIter ⟨s.toArray⟩ pos)
 | .map kd es,x=>∃ms h,x=some (.map ms h)/\MRz g kd es ms.toList
theorem ObRz.mono{g y:Gh}(z:g.le y){o:Ob}{x:Option Obj}(h:ObRz g o x):ObRz y o x:=by
 cases o with
 | cells e cs=>obtain⟨vs,rest,m,u,B⟩:=h;exact⟨vs,rest,m,u.mono z,B⟩
 | iter s pos=>exact h
 | map kd es=>obtain⟨ms,c,m,u⟩:=h;exact⟨ms,c,m,u.mono z⟩
abbrev Fr:=Nat->Option (Obj × Option (List Value))
def Gh.ends(g:Gh)(t n:Nat)(x:A):Prop:=∃b cap pre,g.eta t (n+1)=some (.slice (some ⟨b,0,none⟩) (n+1) cap)/\g.eta t n=some (.slice (some ⟨b,0,none⟩) n cap) /\
 n+1<=cap/\cap<=maxLen/\g.pi b=some pre/\(n+1) * x.cells.length<=pre.length/\(∀c,c∈x.cells->c.one=true) /\
 ∀(j:Nat) (c:A) (v:Value),x.cells[j]?=some c->pre[n * x.cells.length+j]?=some v->Rz g c v
theorem Gh.ends.mono{g u:Gh}(m:g.le u){t n:Nat}{x:A}(h:g.ends t n x):u.ends t n x:=by
 obtain⟨b,cap,pre,z,B,G,H,M,O,S,U⟩:=h;obtain⟨ext,hx⟩:=m.pi b pre M;refine⟨b,cap,_,m.eta _ _ _ z,m.eta _ _ _ B,G,H,hx,by simp;omega,S,λj c v y Z=>(U j c v y (aGU ?_ Z)).mono m⟩;have:=(dZ.1 y).1;rw[gO]at O;omega
structure R (C:Ctx) (F:Fr) (g:Gh) (s:St) (w:World):Prop where
 obj:∀b o,s.getO b=some o->∃k,g.beta b=some k/\ObRz g o w.heap[k]?/\g.pi k=none/\F k=none
 tok:∀t n e,s.getT t=some (n,e)->∃v xs,g.eta t n=some v/\w.ownsRow 0 e (C.sz e) v n xs/\(∀m x,g.eta t m=some x->m<=n) /\
  ∀b,v.ownBlock=some b->g.pi b=some xs/\F b=none
 sep:∀t t' n n' v v' b,t≠t'->s.getT t=some n->s.getT t'=some n'->g.eta t n.1=some v->g.eta t' n'.1=some v' ->
  v.ownBlock=some b->v'.ownBlock=some b->False
 pis:∀b pre,g.pi b=some pre->∃rest e fr,w.heap[b]?=some (.cells (pre++rest).toArray e fr)
 frm:∀b o,F b=some o->w.heap[b]?=some o.1/\g.pi b=o.2
 glb:∀b cs,C.gl b=some cs->∃pre ty fr,F b=some (.cells pre.toArray ty fr,some pre)/\pre.length=cs.length/\(∀c,c∈cs->c.one=true) /\
  ∀(j:Nat) (c:A) (v:Value),cs[j]?=some c->pre[j]?=some v->Rz g c v
 fsh:∃N,∀t,N<=t->s.getT t=none/\(∀m,g.eta t m=none)/\g.beta t=none
 bet:∀b k,g.beta b=some k->k<w.heap.size
 inj:∀b b' k,g.beta b=some k->g.beta b'=some k->b=b'
 dtm:C.det=true->∀b,s.lim<=b->g.beta b=none/\∀m,g.eta b m=none
 lst:∀x,s.ls=some x->g.ends x.1 x.2.1 x.2.2
 bfr:∀b k,g.beta b=some k->F k=none
 env:(w.os,w.output)=g.env
section
variable {C:Ctx} {F:Fr} {g:Gh} {s:St} {w:World}
theorem R.weaken(h:R C F g s w){s':St}(m:s.ge s')(hl:C.det=true->s.lim<=s'.lim):R C F g s' w where
 env:=h.env
 obj:=λb o ho=>h.obj b o (m.ob b o ho)
 tok:=λt n e u=>h.tok t n e (m.tk t _ u)
 sep:=λt H n G v U b y u z=>h.sep t H n G v U b y (m.tk t n u) (m.tk H G z)
 pis:=h.pis
 frm:=h.frm
 glb:=h.glb
 fsh:=by
  obtain⟨N,B⟩:=h.fsh;refine⟨N,λt u=>⟨?_,(B t u).2⟩⟩;cases O:s'.getT t with
  | none=>rfl
  | some n=>have:=m.tk t n O;rw[(B t u).1]at this;cases this
 bet:=h.bet
 inj:=h.inj
 dtm:=λhd b M=>h.dtm hd b (pH (hl hd) M)
 lst:=λx S=>h.lst x (m.ls x S)
 bfr:=h.bfr
theorem R.setL(h:R C F g s w){x:Option (Nat × Nat × A)}(m:∀y,x=some y->g.ends y.1 y.2.1 y.2.2):R C F g (s.setL x) w where
 env:=h.env
 obj:=h.obj
 tok:=h.tok
 sep:=h.sep
 pis:=h.pis
 frm:=h.frm
 glb:=h.glb
 fsh:=h.fsh
 bet:=h.bet
 inj:=h.inj
 dtm:=h.dtm
 lst:=m
 bfr:=h.bfr
theorem R.heap(h:R C F g s w){w':World}(m:w'.heap=w.heap)(G:(w'.os,w'.output)=(w.os,w.output):=by rfl):R C F g s w' where
 env:=G.trans h.env
 obj:=by rw[m];exact h.obj
 tok:=by
  intro t n e H;obtain⟨v,xs,u,y,z,B⟩:=h.tok t n e H;refine⟨v,xs,u,?_,z,B⟩;simpa [World.ownsRow,m]using y
 sep:=h.sep
 pis:=by rw[m];exact h.pis
 frm:=by rw[m];exact h.frm
 glb:=h.glb
 fsh:=h.fsh
 bet:=by rw[m];exact h.bet
 inj:=h.inj
 dtm:=h.dtm
 lst:=h.lst
 bfr:=h.bfr
theorem R.lt_pi(h:R C F g s w){b:Nat}{pre:List Value}(ho:g.pi b=some pre):b<w.heap.size:=by
 obtain⟨rest,e,fr,m⟩:=h.pis b pre ho;exact(iW.1 m).1
theorem R.lt_frm(h:R C F g s w){b:Nat}{o:Obj × Option (List Value)}(ho:F b=some o):b<w.heap.size :=
 (iW.1 (h.frm b o ho).1).1
theorem R.gpi(h:R C F g s w){b:Nat}{cs:List A}(H:C.gl b=some cs):∃pre ty fr,w.heap[b]?=some (.cells pre.toArray ty fr)/\g.pi b=some pre/\pre.length=cs.length/\(∀c,c∈cs->c.one=true) /\
  ∀(j:Nat) (c:A) (v:Value),cs[j]?=some c->pre[j]?=some v->Rz g c v:=by
 obtain⟨pre,ty,fr,m,u,y,z⟩:=h.glb b cs H;obtain⟨B,G⟩:=h.frm b _ m;exact⟨pre,ty,fr,B,G,u,y,z⟩
theorem aP9{w w':World}(u:∀b,b<w.heap.size->w'.heap[b]?=w.heap[b]?){k:Nat}(h:k<w.heap.size):k<w'.heap.size:=by
 have m:=u k h;rw[aBw h]at m;exact(iW.1 m).1
theorem R.keep(h:R C F g s w){w':World}(m:∀b,b<w.heap.size->w'.heap[b]?=w.heap[b]?)(S:(w'.os,w'.output)=(w.os,w.output):=by rfl):R C F g s w' where
 env:=S.trans h.env
 obj:=λb o ho=>by
  obtain⟨k,u,y⟩:=h.obj b o ho;exact⟨k,u,by rw[m k (h.bet b k u)];exact y⟩
 tok:=by
  intro t n e U;obtain⟨v,xs,u,y,M,O⟩:=h.tok t n e U;refine⟨v,xs,u,⟨y.1,?_⟩,M,O⟩;rcases y.2 with h|⟨b,cap,z,Z,B,G,rest⟩
  .exact .inl h
  .exact .inr ⟨b,cap,z,Z,B,by rw[m b (iW.1 G).1];exact G,rest⟩
 sep:=h.sep
 pis:=λb pre H=>by rw[m b (h.lt_pi H)];exact h.pis b pre H
 frm:=λb o ho=>by rw[m b (h.lt_frm ho)];exact h.frm b o ho
 glb:=h.glb
 fsh:=h.fsh
 bet:=λb k B=>aP9 m (h.bet b k B)
 inj:=h.inj
 dtm:=h.dtm
 lst:=h.lst
 bfr:=h.bfr
end
end
section
section
variable {C:Ctx} {F:Fr} {g:Gh} {s:St} {w:World}
theorem yM(w:World)(o:Obj):(w.alloc o).heap[w.heap.size]?=some o:=by
 show(w.heap.push o)[w.heap.size]?=some o;simp
theorem wI(w:World)(o:Obj){b:Nat}(h:b<w.heap.size):(w.alloc o).heap[b]?=w.heap[b]?:=by
 show(w.heap.push o)[b]?=w.heap[b]?;rw[Array.getElem?_push];have:b≠w.heap.size:=Nat.ne_of_lt h;simp[this]
theorem R.pi_new(h:R C F g s w):g.pi w.heap.size=none:=by
 cases m:g.pi w.heap.size with
 | none=>rfl
 | some pre=>exact cV (h.lt_pi m) (Nat.lt_irrefl _)
theorem R.frm_new(h:R C F g s w):F w.heap.size=none:=by
 cases m:F w.heap.size with
 | none=>rfl
 | some pre=>exact cV (h.lt_frm m) (Nat.lt_irrefl _)
theorem R.bet_new(h:R C F g s w)(b:Nat):g.beta b≠some w.heap.size:=λm=>cV (h.bet b _ m) (Nat.lt_irrefl _)
def Gh.bx(g:Gh)(b k:Nat):Gh:={ g with beta:=λc=>if c=b then some k else g.beta c }
theorem aAB{g:Gh}{b:Nat}(h:g.beta b=none)(k:Nat):g.le (g.bx b k) :=
 ⟨fun c pre u => ⟨[],by simpa [Gh.bx] using u⟩,fun _ _ _ h => h,fun c j m => by
  have:c≠b:=by rintro rfl;rw[h]at m;cases m
  simp[Gh.bx,this,m],rfl⟩
theorem R.free(h:R C F g s w){b:Nat}(u:g.beta b=none):s.getO b=none:=by
 cases ho:s.getO b with
 | none=>rfl
 | some o=>obtain⟨k,m,_⟩:=h.obj b o ho;rw[u]at m;cases m
theorem R.freeT(h:R C F g s w){t:Nat}(u:∀n,g.eta t n=none):s.getT t=none:=by
 cases ho:s.getT t with
 | none=>rfl
 | some o=>obtain⟨n,e⟩:=o;obtain⟨v,xs,m,_⟩:=h.tok t n e ho;rw[u]at m;cases m
theorem R.newObj(h:R C F g s w){o:Obj}{ob:Ob}(ho:ObRz g ob (some o)){b:Nat}(hb:g.beta b=none){s':St}
  (hO:∀q,s'.getO q=if b=q then some ob else s.getO q)(Z:∀q,s'.getT q=s.getT q)(hL:s'.ls=s.ls)(hl:C.det=true->s.lim<=s'.lim/\b<s'.lim) :
  R C F (g.bx b w.heap.size) s' (w.alloc o):=by
 have u:=aAB hb w.heap.size;have hk:∀k,k<w.heap.size->(w.alloc o).heap[k]?=w.heap[k]?:=λk hk=>wI w o hk
 have B:=h.keep hk;refine⟨λc x y=>?_,?_,?_,B.pis,B.frm,λc cs m=>?_,?_,?_,?_,λhd c m=>?_,λx y=>(h.lst x (by rw[<-hL];exact y)).mono u,λc k m=>?_,h.env⟩
 .rw[hO]at y;by_cases H:b=c
  .subst H;simp only[↓reduceIte,bV]at y;subst y;exact⟨w.heap.size,by simp[Gh.bx],by rw[yM];exact ho.mono u,h.pi_new,h.frm_new⟩
  .simp only[H,↓reduceIte]at y;obtain⟨k,G,O,S⟩:=B.obj c x y;exact⟨k,u.beta _ _ G,O.mono u,S⟩
 .intro t n e z;rw[Z]at z;obtain⟨v,xs,G,O,S,h4⟩:=B.tok t n e z;exact⟨v,xs,G,O,S,h4⟩
 .intro t t' n n' v v' c b0 z M;rw[Z]at z M;exact B.sep t t' n n' v v' c b0 z M
 .obtain⟨pre,ty,fr,hp,hl,G,hr⟩:=h.glb c cs m;exact⟨pre,ty,fr,hp,hl,G,λj c v m hv=>(hr j c v m hv).mono u⟩
 .obtain⟨N,U⟩:=h.fsh;refine⟨max N (b+1),λt z=>⟨by rw[Z];exact(U t aB).1,(U t aB).2.1,?_⟩⟩;have:t≠b:=by omega
  simp[Gh.bx,this,(U t aB).2.2]
 .intro c k m;simp only[Gh.bx]at m;have e:(w.alloc o).heap.size=w.heap.size+1:=by show(w.heap.push o).size=_;simp
  split at m
  .cases m;omega
  .have:=h.bet c k m;omega
 .intro c d k m hd;simp only[Gh.bx]at m hd;split at m<;>split at hd
  .omega
  .cases m;exact cV hd (h.bet_new d)
  .cases hd;exact cV m (h.bet_new c)
  .exact h.inj c d k m hd
 .obtain⟨l1,l2⟩:=hl hd;obtain⟨d1,d2⟩:=h.dtm hd c aB;have:c≠b:=by omega
  exact⟨by simp[Gh.bx,this,d1],d2⟩
 .simp only[Gh.bx]at m;split at m
  .cases m;exact h.frm_new
  .exact h.bfr c k m
theorem R.some_free(h:R C F g s w):∃b,g.beta b=none:=by
 obtain⟨N,m⟩:=h.fsh;exact⟨N,(m N (bJ _)).2.2⟩
theorem R.setObj(h:R C F g s w){b k:Nat}{o:Ob}(hs:s.getO b=some o)(y:g.beta b=some k){ob:Ob}{w':World}
  (H:∀j,j≠k->w'.heap[j]?=w.heap[j]?)(ho:ObRz g ob w'.heap[k]?)(he:(w'.os,w'.output)=(w.os,w.output):=by rfl):R C F g (s.setO b ob) w':=by
 obtain⟨k',U,_,z,hF⟩:=h.obj b o hs;rw[y]at U;cases U;refine⟨λc x m=>?_,?_,h.sep,λc pre S=>?_,λc x m=>?_,h.glb,h.fsh,λc j hc=>?_,h.inj,h.dtm,h.lst,h.bfr,he.trans h.env⟩
 .rw[aL]at m;by_cases G:b=c
  .subst G;simp only[↓reduceIte,bV]at m;subst m;exact⟨k,y,ho,z,hF⟩
  .simp only[G,↓reduceIte]at m;obtain⟨j,B,u⟩:=h.obj c x m;have:j≠k:=by rintro rfl;exact G (h.inj b c j y B)
   exact⟨j,B,by rw[H j this];exact u⟩
 .intro t n e ht;obtain⟨v,xs,B,u,h3,Z⟩:=h.tok t n e ht;refine⟨v,xs,B,⟨u.1,?_⟩,h3,Z⟩;rcases u.2 with M|⟨j,cap,O,M,G,hh,rest⟩
  .exact .inl M
  .refine .inr ⟨j,cap,O,M,G,?_,rest⟩
   have:j≠k:=by
    rintro rfl;have:=(Z j (by rw[M];rfl)).1;rw[z]at this;cases this
   rw[H j this];exact hh
 .have:c≠k:=by rintro rfl;rw[z]at S;cases S
  rw[H c this];exact h.pis c pre S
 .have:c≠k:=by rintro rfl;rw[hF]at m;cases m
  rw[H c this];exact h.frm c x m
 .have B:=h.bet c j hc;by_cases hj:j=k
  .subst hj;cases ob with
   | cells e0 cs=>obtain⟨vs,rest,m,_⟩:=ho;exact(iW.1 m).1
   | iter x p=>exact(iW.1 ho).1
   | map kd es=>obtain⟨ms,c,m,_⟩:=ho;exact(iW.1 m).1
  .have u:=H j hj;rw[aBw B]at u;exact(iW.1 u).1
def Gh.know(g:Gh)(b:Nat)(vs:List Value):Gh:={ g with pi:=λk=>if k=b then some vs else g.pi k }
theorem aDf{g:Gh}{b:Nat}(h:g.pi b=none)(vs:List Value):g.le (g.know b vs) :=
 ⟨fun k pre m => ⟨[],by
  have:k≠b:=by rintro rfl;rw[h]at m;cases m
  simp[Gh.know,this,m]⟩,λ_ _ _ h=>h,λ_ _ h=>h,rfl⟩
theorem aP2{g:Gh}{b:Nat}(h:g.pi b=none)(vs:List Value):g.les (g.know b vs):=⟨aDf h vs,rfl,rfl⟩
theorem R.ghost(h:R C F g s w){y:Gh}(G:g.le y)
  (b0:∀b k,g.beta b=some k->g.pi k=none->y.pi k=none)
  (H:∀b pre,y.pi b=some pre->∃rest e fr,w.heap[b]?=some (.cells (pre++rest).toArray e fr))
  (M:∀t n e v b xs,s.getT t=some (n,e)->g.eta t n=some v->v.ownBlock=some b->g.pi b=some xs->y.pi b=some xs)
  (u:y.eta=g.eta)(m:y.beta=g.beta)(Z:∀b o,F b=some o->y.pi b=g.pi b):R C F y s w where
 env:=h.env.trans G.env.symm
 obj:=λb o ho=>by
  obtain⟨k,z,S,U,O⟩:=h.obj b o ho;exact⟨k,G.beta _ _ z,S.mono G,b0 b k z U,O⟩
 tok:=by
  intro t n e ht;obtain⟨v,xs,z,S,U,O⟩:=h.tok t n e ht;exact⟨v,xs,by rw[u];exact z,S,by rw[u];exact U,λb B=>⟨M t n e v b xs ht z B (O b B).1,(O b B).2⟩⟩
 sep:=by rw[u];exact h.sep
 pis:=H
 frm:=λb o ho=>by rw[Z b o ho];exact h.frm b o ho
 glb:=λb cs B=>by
  obtain⟨pre,ty,fr,hp,hl,z,hr⟩:=h.glb b cs B;exact⟨pre,ty,fr,hp,hl,z,λj c v hc hv=>(hr j c v hc hv).mono G⟩
 fsh:=by rw[u,m];exact h.fsh
 bet:=by rw[m];exact h.bet
 inj:=by rw[m];exact h.inj
 dtm:=by rw[u,m];exact h.dtm
 lst:=λx hx=>(h.lst x hx).mono G
 bfr:=by rw[m];exact h.bfr
theorem R.newRow(h:R C F g s w)(vs:List Value)(e:TypeId)(rest:List Value)(fr:Nat × Nat:=(0,0)) :
  R C F (g.know w.heap.size vs) s (w.alloc (.cells (vs++rest).toArray e fr))/\g.les (g.know w.heap.size vs):=by
 have y:=aDf h.pi_new vs
 refine⟨(h.keep (w':=w.alloc (.cells (vs++rest).toArray e fr)) (λb m=>wI w _ m)).ghost y ?_ ?_ ?_ rfl rfl (λb o ho=>by
  have:b≠w.heap.size:=Nat.ne_of_lt (h.lt_frm ho);simp only[Gh.know,this,↓reduceIte]),aP2 h.pi_new vs⟩
 .intro b k m u;have:k≠w.heap.size:=Nat.ne_of_lt (h.bet b k m);simp only[Gh.know,this,↓reduceIte];exact u
 .intro b pre u;by_cases m:b=w.heap.size
  .subst m;simp only[Gh.know,↓reduceIte,bV]at u;subst u;exact⟨rest,e,fr,yM w _⟩
  .simp only[Gh.know,m,↓reduceIte]at u;rw[wI w _ (h.lt_pi u)];exact h.pis b pre u
 .intro t n e v b xs _ _ m z;have:b≠w.heap.size:=Nat.ne_of_lt (h.lt_pi z);simp only[Gh.know,this,↓reduceIte];exact z
def eC(es:List A):List A:=es.flatMap A.cells
theorem aFR(a b:List A):eC (a++b)=eC a++eC b:=by simp[eC]
theorem aAm{es:List A}{sz:Nat}(h:∀e,e∈es->e.cells.length=sz):(eC es).length=es.length * sz:=by
 induction es with
 | nil=>simp[eC]
 | cons e es u =>
  have:=u (λx m=>h x (by simp[m]));simp only[eC,jR,aH,aV]at *;rw[this,h e bA,gO];omega
theorem aST{es:List A}{sz:Nat}(h:∀e,e∈es->e.cells.length=sz){i:Nat}{e:A}(m:es[i]?=some e){j:Nat}{c:A}
  (u:e.cells[j]?=some c):(eC es)[i * sz+j]?=some c:=by
 induction es generalizing i with
 | nil=>simp at m
 | cons x es G =>
  simp only[eC,jR];cases i with
  | zero =>
   simp only[mO,bV]at m;subst m;have hl:j<x.cells.length:=(dZ.1 u).1;rw[Nat.zero_mul,iQ,kE hl,u]
  | succ i =>
   have z:=h x bA;have:=G (λy B=>h y (by simp[B])) (i:=i) (gQ m);rw[sC (by rw[z,gO];omega),z];have e:(i+1) * sz+j-sz=i * sz+j:=by rw[gO];omega
   rw[e];exact this
theorem yR{g:Gh}{tk:Option Nat}{es:List A}{b sz cap off:Nat}{pre vs:List Value}(Z:g.pi b=some pre)(h:pre.drop off=vs)(G:Rzs g (eC es) (vs.take (es.length * sz)))
  (m:∀e,e∈es->e.cells.length=sz)(H:∀e,e∈es->∀c,c∈e.cells->c.one=true)(O:es.length<=cap)(U:cap<=maxLen)
  (ho:off<=pre.length)
  (ht:∀t,tk=some t->g.eta t es.length=some (.slice (some ⟨b,off,none⟩) es.length cap)) :
  Rz g (.list tk es) (.slice (some ⟨b,off,none⟩) es.length cap):=by
 have hl:(vs.take (es.length * sz)).length=es.length * sz:=by rw[G.1,aAm m]
 have z:es.length * sz<=vs.length:=by rw[dT]at hl;omega
 subst h;rw[dS]at z;refine .list tk es b off sz cap pre Z aB O U m H (λi e j c v u B hx=>?_) ht
 have M:i * sz+j<es.length * sz:=by
  have y:i<es.length:=(dZ.1 u).1;have S:j<e.cells.length:=(dZ.1 B).1;have:=m e (bK u);have:(i+1) * sz<=es.length * sz:=rH _ y;rw[gO]at this;omega
 refine G.2 (i * sz+j) c v (aST m u B) ?_;rw[mS,aF M,mR,<-nY];exact hx
theorem Rz.list_inv{g:Gh}{tk:Option Nat}{es:List A}{v:Value}(h:Rz g (.list tk es) v) :
  ∃a cap,v=.slice a es.length cap/\cap<=maxLen/\es.length<=cap/\(∀t,tk=some t->g.eta t es.length=some v)/\(es=[]\/∃b off sz pre,a=some ⟨b,off,none⟩/\g.pi b=some pre/\off+es.length * sz<=pre.length /\
   (∀e,e∈es->e.cells.length=sz)/\(∀e,e∈es->∀c,c∈e.cells->c.one=true) /\
   (∀(i:Nat) (e:A) (j:Nat) (c:A) (v:Value),es[i]?=some e->e.cells[j]?=some c->pre[off+i * sz+j]?=some v->Rz g c v)):=by
 cases h with
 | list tk es b off sz cap pre B hl z m G y h u =>
  exact⟨_,cap,rfl,m,z,u,.inr ⟨b,off,sz,pre,rfl,B,hl,G,y,h⟩⟩
 | list0 tk a cap m u=>exact⟨a,cap,rfl,m,aW _,u,.inl rfl⟩
theorem Rz.to_flat{g:Gh}{tk:Option Nat}{es:List A}{v:Value}(h:Rz g (.list tk es) v) :
  ∃a cap,v=.slice a es.length cap/\cap<=maxLen/\es.length<=cap/\(es=[]\/∃b off sz pre,a=some ⟨b,off,none⟩/\g.pi b=some pre/\off+es.length * sz<=pre.length /\
   (∀e,e∈es->e.cells.length=sz)/\(∀e,e∈es->∀c,c∈e.cells->c.one=true)/\Rzs g (eC es) ((pre.drop off).take (es.length * sz))):=by
 cases h with
 | list tk es b off sz cap pre Z hl S H u O h ht =>
  refine⟨_,cap,rfl,H,S,.inr ⟨b,off,sz,pre,rfl,Z,hl,u,O,?_,?_⟩⟩
  .rw[aAm u,dT,dS];omega
  .intro k c v m z;rw[mS]at z;split at z
   .rename_i U;rw[mR]at z
    have key:∀(l:List A) (k:Nat) (c:A),(∀e,e∈l->e.cells.length=sz)->(eC l)[k]?=some c ->
      ∃i e j,l[i]?=some e/\e.cells[j]?=some c/\k=i * sz+j:=by
     intro l
     induction l with
     | nil=>intro k c _ m;simp[eC]at m
     | cons x l ih =>
      intro k c u m;simp only[eC,jR]at m;by_cases hx:k<x.cells.length
      .rw[kE hx]at m;exact⟨0,x,k,by simp,m,by simp⟩
      .rw[sC aB,u x bA]at m;obtain⟨i,e,j,B,G,M⟩:=ih _ c (λy hy=>u y (by simp[hy])) m;have:=u x bA;exact⟨i+1,e,j,gQ B,G,by rw[gO];omega⟩
    obtain⟨i,e,j,B,G,M⟩:=key es k c u m;refine h i e j c v B G ?_;rw[M]at z;rw[nY];exact z
   .simp at z
 | list0 tk a cap H ht=>exact⟨a,cap,rfl,H,aW _,.inl rfl⟩
end
end
section
section
variable {g:Gh}
theorem Rz.int_inv{k:IntKind}{n:Int}{v:Value}(h:Rz g (.int k n) v):v=.int k n:=by cases h;rfl
theorem Rz.bool_inv{b:Bool}{v:Value}(h:Rz g (.bool b) v):v=.bool b:=by cases h;rfl
theorem Rz.str_inv{s:List UInt8}{v:Value}(h:Rz g (.str s) v):v=.string ⟨s.toArray⟩:=by cases h;rfl
end
def eqK:Nat->A->A->Option Bool
 | 0,.int j a,.int k b=>if j=k then some (decide (a=b)) else none
 | 1,.bool a,.bool b=>some (a == b)
 | 2,.str a,.str b=>some (decide (a=b))
 | _,_,_=>none
def zB:List Nat->List A->List A->Option Bool
 | [],[],[]=>some true
 | k::ks,a::r,b::l=>match eqK k a b,zB ks r l with
  | some x,some y=>some (x&&y)
  | _,_=>none
 | _,_,_=>none
def sO(P:Program)(t:TypeId)(k:Nat):Bool:=match P.underlying t with
 | some (.int _)=>k == 0
 | some .bool=>k == 1
 | some .string=>k == 2
 | _=>false
def wO(P:Program):List Field->List Nat->Nat->Bool
 | [],[],_=>true
 | f :: r,k :: ks,i => (f.name != "_") && f.offset == i && sO P f.type k && wO P r ks (i + 1)
 | _,_,_=>false
def aCA(P:Program)(t:TypeId)(ks:List Nat):Bool :=
 !P.stoodInHeld t&&!P.eqGuardType P.depth t&&(match P.underlying t with
  | some (.struct h)=>wO P h.toList ks 0
  | _=>false)
section
variable {P:Program} {g:Gh} {w:World}
theorem aUJ{a b:A}{r:Bool}{k:Nat}{t:TypeId}{H M:Value}{d:Nat}(h:eqK k a b=some r)(z:Rz g a H)(B:Rz g b M)(u:sO P t k=true) :
  (Op.equalIn (d+1) t H M).run P w=.ok r w:=by
 unfold eqK at h;split at h
 .split at h
  .rename_i y;subst y;simp only[bV]at h;subst h;have m:∃G,P.underlying t=some (.int G):=by unfold sO at u;split at u<;>simp_all
   obtain⟨G,m⟩:=m;rw[z.int_inv,B.int_inv,run_equalIn_int w d t _ _ _ _ m];congr 1
  .simp at h
 .simp only[bV]at h;subst h;have m:P.underlying t=some .bool:=by unfold sO at u;split at u<;>simp_all
  rw[z.bool_inv,B.bool_inv,run_equalIn_bool' w d t _ _ m]
 .simp only[bV]at h;subst h;have m:P.underlying t=some .string:=by unfold sO at u;split at u<;>simp_all
  rw[z.str_inv,B.str_inv,run_equalIn_string w d t _ _ m];simp only[ByteArray.toList_mk];congr 1;rw[gA];simp
 .simp at h
theorem aD4{t:TypeId}{k:Nat}(m:sO P t k=true){xs:Array Value}{i:Nat}{v:Value}(u:xs[i]?=some v):(part t xs i).run P w=.ok v w:=by
 unfold sO at m
 split at m<;>first
  | (rename_i h;simp[part,isAgg,dN h,u];done)
  | (rename_i h _;simp[part,isAgg,dN h,u];done)
  | (rename_i h;simp only[part,isAgg,bN,dN h,bM,cG,dA,cZ,u];done)
  | cases m
theorem aFT{d:Nat}{xs ys:Array Value}:∀{z:List Field} {ks:List Nat} {az bs:List A} {i:Nat} {r:Bool},wO P z ks i=true->zB ks az bs=some r ->
  Rzs g az (xs.toList.drop i)->Rzs g bs (ys.toList.drop i)->(Op.eqFields (d+1) xs ys z).run P w=.ok r w
 | [],[],[],[],i,r,_,h,_,_=>by simp only[zB,bV]at h;subst h;rfl
 | f::z,k::ks,a::az,b::bs,i,r,O,h,S,U=>by
  simp only[wO,bP,bne_iff_ne,beq_iff_eq]at O;obtain⟨⟨⟨M,rfl⟩,B⟩,Z⟩:=O;simp only[zB]at h;split at h
  .rename_i x y hx hy;simp only[bV]at h;subst h;obtain⟨va,m,G⟩:=S.get (j:=0) (c:=a) bA;obtain⟨vb,u,H⟩:=U.get (j:=0) (c:=b) bA;rw[mR,lD,aBx]at m u;have ih:=aFT (d:=d) (i:=f.offset+1) Z hy (by have:=S.drop 1;simpa [uZ]using this) (by have:=U.drop 1;simpa [uZ]using this);simp only[Op.eqFields,aF M,dB,M,fY,dF,bN,aD4 B m,aD4 B u,bM,aUJ hx G H B];cases x
   .simp
   .simp[ih]
  .simp at h
end
structure KeyTy (P:Program) (kt:TypeId) (kd:Nat):Prop where
 chk:∀k:MK,k.kd=kd->∀e w,(Instr.checkKey e 10000 kt k.val).run P w=.ok () w
 eq:∀k k':MK,k.kd=kd->k'.kd=kd->∀w,(Op.equal kt k.val k'.val).run P w=.ok (decide (k=k')) w
 und:∃d,P.underlying kt=some d/\∀k k':MK,k.kd=kd->k'.kd=kd->Instr.sameNow d k.val k'.val=some (decide (k=k'))\/Instr.sameNow d k.val k'.val=none
def fM(k:MK):List (MK × A)->List MapEntry->Nat->Option (Nat × Value)
 | (h,_)::es,m::ms,i=>if k=h then some (i,m.val) else fM k es ms (i+1)
 | _,_,_=>none
section
variable {P:Program} {g:Gh} {kt:TypeId} {kd:Nat}
theorem aJO{d:TypeDesc}{k:MK}(hd:∀k u:MK,k.kd=kd->u.kd=kd->Instr.sameNow d k.val u.val=some (decide (k=u))\/Instr.sameNow d k.val u.val=none)(z:k.kd=kd) :
  ∀{es:List (MK × A)} {ms:List MapEntry} (i:Nat),MRz g kd es ms->Instr.findNow d k.val ms i=some (fM k es ms i)\/Instr.findNow d k.val ms i=none
 | [],[],i,_=>.inl rfl
 | (u,a)::es,m::ms,i,h=>by
  obtain⟨⟨B,G,O⟩,H⟩:=h;have M:=aJO hd z (i+1) H;simp only[Instr.findNow,G,fM];rcases hd k u z B with e|e<;>rw[e]
  .by_cases y:k=u
   .simp[y]
   .simpa [y]using M
  .exact .inr rfl
 | [],_::_,i,h=>h.elim
 | _::_,[],i,h=>h.elim
theorem aKE{k:MK}(y:KeyTy P kt kd)(z:k.kd=kd)(w:World) :
  ∀{es:List (MK × A)} {ms:List MapEntry} (i:Nat),MRz g kd es ms->(Instr.findAsking kt k.val ms i).run P w=.ok (fM k es ms i) w
 | [],[],i,_=>rfl
 | (B,a)::es,m::ms,i,h=>by
  obtain⟨⟨G,H,S⟩,M⟩:=h;have O:=aKE y z w (i+1) M;simp only[Instr.findAsking,bN,H,y.eq k B z G,bM,fM];by_cases u:k=B
  .simp[u]
  .simp[u,O]
 | [],_::_,i,h=>h.elim
 | _::_,[],i,h=>h.elim
theorem aL5{k:MK}(m:KeyTy P kt kd)(u:k.kd=kd)(w:World){es:List (MK × A)}{ms:List MapEntry}(h:MRz g kd es ms) :
  (Instr.findKey kt k.val ms).run P w=.ok (fM k es ms 0) w:=by
 obtain⟨d,hd,y⟩:=m.und;simp only[Instr.findKey,bN,dN hd,bM];rcases aJO y u 0 h with e|e<;>rw[e]
 .rfl
 .exact aKE m u w 0 h
end
theorem aSI(a b:List UInt8):((⟨a.toArray⟩:ByteArray) == ⟨b.toArray⟩)=decide (a=b):=by
 rw[gA,Go.MapKept.bytes_beq];simp
theorem aRS{P:Program}{kt:TypeId}(h:P.underlying kt=some .string):KeyTy P kt 0 where
 chk:=λk u e w=>by
  cases k<;>simp[MK.kd]at u
  have z:∀n v,(Instr.checkKey e (n+1) kt v).run P w=_:=λn v=>by simp only[Instr.checkKey,bN,dN h,bM];rfl
  rw[show(10000:Nat)=9999+1 from rfl,z];rfl
 eq:=λk y u m w=>by
  cases k<;>simp[MK.kd]at u
  cases y<;>simp[MK.kd]at m
  rename_i a b;have:=run_equalIn_string (P:=P) w 9999 kt ⟨a.toArray⟩ ⟨b.toArray⟩ h;simp only[MK.val,Op.equal,Op.maxDepth];rw[this];congr 1;rw[gA];simp
 und:=⟨_,h,λk y u m=>by
  cases k<;>simp[MK.kd]at u
  cases y<;>simp[MK.kd]at m
  left;simp[MK.val,Instr.sameNow,aSI]⟩
theorem aQX{P:Program}{kt:TypeId}(h:P.underlying kt=some (.int .i64)):KeyTy P kt 1 where
 chk:=λk u e w=>by
  cases k<;>simp[MK.kd]at u
  have z:∀n v,(Instr.checkKey e (n+1) kt v).run P w=_:=λn v=>by simp only[Instr.checkKey,bN,dN h,bM];rfl
  rw[show(10000:Nat)=9999+1 from rfl,z];rfl
 eq:=λk y u m w=>by
  cases k<;>simp[MK.kd]at u
  cases y<;>simp[MK.kd]at m
  rename_i a b;have:=run_equalIn_int (P:=P) w 9999 kt .i64 .i64 a b h;simp only[MK.val,Op.equal,Op.maxDepth];rw[this];congr 1;rw[gA];simp
 und:=⟨_,h,λk y u m=>by
  cases k<;>simp[MK.kd]at u
  cases y<;>simp[MK.kd]at m
  left;simp[MK.val,Instr.sameNow];rw[gA];simp⟩
def mkA:Nat->A->Option MK
 | 0,.str s=>some (.str s)
 | 1,.int .i64 n=>some (.int n)
 | 2,.agg [.str a,.str b]=>some (.two a b)
 | _,_=>none
def jP(k:MK):List (MK × A)->Option A
 | []=>none
 | (h,a)::es=>if k=h then some a else jP k es
def lK(k:MK)(v:A):List (MK × A)->List (MK × A)
 | []=>[(k,v)]
 | (h,a)::es=>if k=h then(h,v)::es else(h,a)::lK k v es
section
variable {P:Program} {g:Gh} {kt:TypeId} {kd:Nat}
theorem aMN{a:A}{mk:MK}{v:Value}(h:mkA kd a=some mk)(m:Rz g a v):v=mk.val/\mk.kd=kd:=by
 unfold mkA at h;split at h<;>simp only[bV,reduceCtorEq]at h<;>subst h
 .exact⟨m.str_inv,rfl⟩
 .exact⟨m.int_inv,rfl⟩
 .refine⟨?_,rfl⟩;cases m with
  | agg cs vs hl B h =>
   match vs,hl with
   | [x,y],_ =>
    have u:=(h 0 _ x rfl rfl).str_inv;have z:=(h 1 _ y rfl rfl).str_inv;subst u;subst z;rfl
theorem aMD{k:MK}:∀{es:List (MK × A)} {ms:List MapEntry} (i:Nat),MRz g kd es ms ->
  (jP k es=none/\fM k es ms i=none)\/∃a j v,jP k es=some a/\fM k es ms i=some (j,v)/\Rz g a v
 | [],[],i,_=>.inl ⟨rfl,rfl⟩
 | (B,a)::es,m::ms,i,h=>by
  obtain⟨⟨G,H,y⟩,z⟩:=h;simp only[jP,fM];by_cases u:k=B
  .exact .inr ⟨a,i,m.val,by simp[u],by simp[u],y⟩
  .simpa [u]using aMD (i+1) z
 | [],_::_,i,h=>h.elim
 | _::_,[],i,h=>h.elim
theorem aMT{k:MK}(S:k.kd=kd){a:A}{val:Value}(H:Rz g a val):∀{es:List (MK × A)} {ms:List MapEntry} (i:Nat),MRz g kd es ms ->
  (fM k es ms i=none/\∀born,MRz g kd (lK k a es) (ms++[{ key:=k.val,val:=val,born:=born }])) \/
  ∃n v m,fM k es ms i=some (i+n,v)/\ms[n]?=some m/\m.key=k.val/\MRz g kd (lK k a es) (ms.modify n λe=>{ e with key:=k.val,val:=val })
 | [],[],i,_=>.inl ⟨rfl,λborn=>⟨⟨S,rfl,H⟩,trivial⟩⟩
 | (k',x)::es,m::ms,i,h=>by
  obtain⟨⟨B,G,M⟩,O⟩:=h;simp only[fM,lK];by_cases u:k=k'
  .subst u;exact .inr ⟨0,m.val,m,by simp,by simp,G,by simp only[↓reduceIte,List.modify_zero_cons];exact⟨⟨B,rfl,H⟩,O⟩⟩
  .simp only[u,↓reduceIte];rcases aMT S H (i+1) O with⟨y,z⟩|⟨n,v,m',y,z,U,Z⟩
   .exact .inl ⟨y,λborn=>⟨⟨B,G,M⟩,z born⟩⟩
   .exact .inr ⟨n+1,v,m',by rw[y];simp;omega,gQ z,U,by simp only[List.modify_succ_cons];exact⟨⟨B,G,M⟩,Z⟩⟩
 | [],_::_,i,h=>h.elim
 | _::_,[],i,h=>h.elim
theorem MK.same(k:MK):Instr.sameBits 10000 k.val k.val=true:=by
 cases k<;>simp[MK.val,Instr.sameBits,Go.MapKept.bytes_beq]
theorem aTd(k:MK)(w:World):(Instr.keyThatStays k.val k.val).run P w=.ok k.val w:=by
 simp[Instr.keyThatStays,k.same]
end
theorem aRr{P:Program}{kt:TypeId}(h:aCA P kt [2,2]=true):KeyTy P kt 2:=by
 simp only[aCA,bP,iY]at h;obtain⟨⟨h1,_⟩,m⟩:=h;split at m
 case h_2=>cases m
 rename_i fs B;obtain⟨fl⟩:=fs;have U:=m
 match fl,m,B with
 | [f,e],m,B =>
  simp only[wO,bP,bne_iff_ne,beq_iff_eq]at m;obtain⟨⟨⟨n1,o1⟩,k1⟩,⟨⟨n2,o2⟩,k2⟩,_⟩:=m;have u1:P.underlying f.type=some .string:=by unfold sO at k1;split at k1<;>simp_all
  have u2:P.underlying e.type=some .string:=by unfold sO at k2;split at k2<;>simp_all
  have str:∀(t:TypeId),P.underlying t=some .string->∀e n (s:ByteArray) w,(Instr.checkKey e (n+1) t (.string s)).run P w=.ok () w:=by
   intro t ht e n s w;simp only[Instr.checkKey,bN,dN ht,bM];rfl
  refine⟨λk H O w=>?_,λk Z H u w=>?_,⟨_,B,λk Z H u=>?_⟩⟩
  .cases k<;>simp[MK.kd]at H
   rename_i a b;have p1:(part f.type #[.string ⟨a.toArray⟩,.string ⟨b.toArray⟩] f.offset).run P w=.ok (.string ⟨a.toArray⟩) w:=aD4 k1 (by rw[o1];rfl);have p2:(part e.type #[.string ⟨a.toArray⟩,.string ⟨b.toArray⟩] e.offset).run P w=.ok (.string ⟨b.toArray⟩) w:=aD4 k2 (by rw[o2];rfl)
   have S:∀n,(Instr.checkKey O (n+1+1) kt (.agg #[.string ⟨a.toArray⟩,.string ⟨b.toArray⟩])).run P w=.ok () w:=by
    intro n;rw[Instr.checkKey];simp[dN B,n1,n2,p1,p2,str f.type u1 O n ⟨a.toArray⟩ w,str e.type u2 O n ⟨b.toArray⟩ w]
   exact S 9998
  .cases k<;>simp[MK.kd]at H
   cases Z<;>simp[MK.kd]at u
   rename_i a b y z;have G:P.fieldsOf kt=#[f,e]:=by simp[Program.fieldsOf,B]
   have r1:Rzs ⟨λ_=>none,λ_ _=>none,λ_=>none,default,#[]⟩ [.str a,.str b] [.string ⟨a.toArray⟩,.string ⟨b.toArray⟩]:=.cons (.str a) (.cons (.str b) (.nil _));have r2:Rzs ⟨λ_=>none,λ_ _=>none,λ_=>none,default,#[]⟩ [.str y,.str z] [.string ⟨y.toArray⟩,.string ⟨z.toArray⟩]:=.cons (.str y) (.cons (.str z) (.nil _))
   have M:=aFT (P:=P) (w:=w) (d:=9998) (i:=0) (xs:=#[.string ⟨a.toArray⟩,.string ⟨b.toArray⟩]) (ys:=#[.string ⟨y.toArray⟩,.string ⟨z.toArray⟩]) (r:=decide (MK.two a b=MK.two y z)) U (az:=[.str a,.str b]) (bs:=[.str y,.str z])
    (by simp[zB,eqK]) r1 r2
   show(Op.equalIn 10000 kt _ _).run P w=_;rw[show 10000=9999+1 from rfl];simp only[MK.val];rw[run_equalIn_struct w 9999 kt _ _ (by rw[G];exact B) h1,G];exact M
  .right;cases k<;>simp[MK.kd]at H
   cases Z<;>simp[MK.kd]at u
   rfl
 | [],m,_=>simp[wO]at m
 | [_],m,_=>simp[wO]at m
 | _::_::_::_,m,_=>simp[wO]at m
def aHk(P:Program)(kt:TypeId):Nat->Bool
 | 0=>match P.underlying kt with
  | some .string=>true
  | _=>false
 | 1=>match P.underlying kt with
  | some (.int k)=>decide (k=.i64)
  | _=>false
 | 2=>aCA P kt [2,2]
 | _=>false
theorem aRT{P:Program}{kt:TypeId}{kd:Nat}(h:aHk P kt kd=true):KeyTy P kt kd:=by
 unfold aHk at h;split at h
 .split at h
  .rename_i m;exact aRS m
  .cases h
 .split at h
  .rename_i m;simp only[bW]at h;subst h;exact aQX m
  .cases h
 .exact aRr h
 .cases h
end
abbrev Env:=List (Nat × A)
def Env.get:Env->Nat->Option A
 | [],_=>none
 | (k,v)::e,t=>if k=t then some v else Env.get e t
def Env.put:Env->Nat->A->Env
 | [],t,v=>[(t,v)]
 | (k,u)::e,t,v=>if k=t then(t,v)::e else(k,u)::Env.put e t v
def Env.del:Env->Nat->Env
 | [],_=>[]
 | (k,u)::e,t=>if k=t then Env.del e t else(k,u)::Env.del e t
def Env.keep(V:List Nat):Env->Env
 | []=>[]
 | (k,u)::e=>if V.elem k then(k,u)::Env.keep V e else Env.keep V e
theorem nL(e:Env)(t:Nat)(v:A)(u:Nat):(e.put t v).get u=if t=u then some v else e.get u:=by
 induction e with
 | nil=>simp[Env.put,Env.get]
 | cons x e y =>
  obtain⟨k,w⟩:=x;simp only[Env.put];by_cases h:k=t
  .subst h;simp only[↓reduceIte,Env.get];split<;>simp_all
  .simp only[h,↓reduceIte,Env.get,y];by_cases m:k=u
   .subst m;have:¬ t=k:=λe=>h e.symm
    simp[this]
   .simp[m]
theorem aJb(e:Env)(t u:Nat):(e.del t).get u=if t=u then none else e.get u:=by
 induction e with
 | nil=>simp[Env.del,Env.get]
 | cons x e y =>
  obtain⟨k,w⟩:=x;simp only[Env.del];by_cases h:k=t
  .subst h;simp only[↓reduceIte,y,Env.get];split<;>simp_all
  .simp only[h,↓reduceIte,Env.get,y];by_cases m:k=u
   .subst m;have:¬ t=k:=λe=>h e.symm
    simp[this]
   .simp[m]
theorem aOC(V:List Nat)(e:Env)(u:Nat)(a:A)(h:(e.keep V).get u=some a):e.get u=some a:=by
 induction e with
 | nil=>simp[Env.keep,Env.get]at h
 | cons x e G =>
  obtain⟨k,w⟩:=x;simp only[Env.keep]at h;simp only[Env.get];by_cases B:k=u
  .subst B;simp only[↓reduceIte];split at h
   .simpa [Env.get]using h
   .rename_i M
    have:∀e:Env,(Env.keep V e).get k=none:=by
     intro e
     induction e with
     | nil=>rfl
     | cons y e m =>
      obtain⟨j,z⟩:=y;simp only[Env.keep];split
      .rename_i H;have:¬ j=k:=by rintro rfl;exact M H
       simp[Env.get,this,m]
      .exact m
    rw[this]at h;cases h
  .simp only[B,↓reduceIte];split at h
   .simp only[Env.get,B,↓reduceIte]at h;exact G h
   .exact G h
inductive TK where
 | int (k:IntKind)|bool|string
 | slice (e:TypeId)|array (n:Nat) (e:TypeId)|struct (fs:List (Nat × Nat × Bool))
 | iface|other
 | map (e:TypeId) (kd:Nat)
structure TI where
 k:TK
 sz:Nat
 bytes:Nat
 zero:List A
def TK.agg:TK->Bool
 | .array ..|.struct _=>true
 | _=>false
def zV:Option TypeDesc->Bool
 | some (.struct _)|some (.array _ _)=>true
 | _=>false
def TK.ok(P:Program)(k:TK)(d:TypeDesc):Prop :=
 match k with
 | .int k=>d=.int k
 | .bool=>d=.bool
 | .string=>d=.string
 | .slice e=>d=.slice e
 | .array n e=>d=.array n e
 | .struct m=>∃h,d=.struct h/\h.size=m.length/\∀(i o s:Nat) (a:Bool),m[i]?=some (o,s,a) ->
   ∃f,h[i]?=some f/\f.offset=o/\(P.info? f.type).map (·.size)=some s/\s≠0/\(P.underlying f.type).isSome=true/\zV (P.underlying f.type)=a
 | .iface=>∃ms,d=.interface ms
 | .map e kd=>∃kt,d=.map kt e/\KeyTy P kt kd
 | .other=>zV (some d)=false/\(∀ms,d≠.interface ms)
structure TI.ok (P:Program) (t:TypeId) (ti:TI):Prop where
 info:∃i z,P.info? t=some i/\i.size=ti.sz/\i.bytes=ti.bytes/\i.zero=some z/\(∀g,Rzs g ti.zero z.cells.toList)
 one:∀c,c∈ti.zero->c.one=true
 len:ti.zero.length=ti.sz
 und:∃d,P.underlying t=some d/\ti.k.ok P d
 shp:∀i z,P.info? t=some i->i.zero=some z->(ti.k.agg=true->∃xs,z=.agg xs)/\(ti.k.agg=false->∀xs,z≠.agg xs)
structure Cx extends Ctx where
 tt:TypeId->Option TI
 htt:∀t ti,tt t=some ti->ti.ok P t
 cv:TypeId->TypeId->Option TypeId
 hcv:∀a b e,cv a b=some e->∀(w:World) (k:Nat) (vs:Array Value),w.heap[k]?=some (.cells vs e)->P.cellsOf e<=vs.size ->
  (convert a b (.pointer (some ⟨k,0,none⟩))).run P w=.ok (.pointer (some ⟨k,0,none⟩)) w
 hcs:∀a b e,cv a b=some e->(tt e).map (·.sz)=some (P.cellsOf e)
 cw:TypeId->Option TypeId:=λ_=>none
 hcw:∀a b e' e,cv a b=some e'->cw e=some e'->∀(w:World) (k:Nat) (vs:Array Value),w.heap[k]?=some (.cells vs e)->P.cellsOf e'<=vs.size ->
  (convert a b (.pointer (some ⟨k,0,none⟩))).run P w=.ok (.pointer (some ⟨k,0,none⟩)) w:=by(intro a b e' e _ h;cases h)
 us:TypeId->Option TypeId
 hus:∀t e,us t=some e->P.underlying t=some (.pointer e)/\P.cellsOf e=1
 mu:Nat:=0
 eq:TypeId->A->A->Option Bool
 heq:∀t a b r,eq t a b=some r->∀(g:Gh) (va vb:Value) (w:World) (op:BinOp) (x y:Operand),(op=.eql\/op=.neq)->Rz g a va->Rz g b vb ->
  (eqGuard op t x y va vb).run P w=.ok () w/\(binOp op t va vb).run P w=.ok (.bool (if op=.eql then r else !r)) w
 nl:TypeId->Bool:=λ_=>false
 hnl:∀t,nl t=true->∀(a:Option Addr) (n cap:Nat) (w:World) (op:BinOp) (x y:Operand),(op=.eql\/op=.neq)->∃r:Bool,
  (eqGuard op t x y (.slice a n cap) (.slice none 0 0)).run P w=.ok () w/\(binOp op t (.slice a n cap) (.slice none 0 0)).run P w=.ok (.bool (if op=.eql then r else !r)) w:=by(intro t h;cases h)
def aB7:Value->Option A
 | .int k n=>some (.int k n)
 | .bool b=>some (.bool b)
 | .string s=>some (.str s.data.toList)
 | .pointer none=>some .nilp
 | .slice none 0 0=>some .nils
 | .nilFunc=>some .nilf
 | .map none=>some .nilm
 | .nilIface=>some .nili
 | _=>none
def aAR:List Value->Option (List A)
 | []=>some []
 | v::vs=>match aB7 v,aAR vs with
  | some a,some az=>some (a::az)
  | _,_=>none
def aEf:Value->Option A
 | .agg cs=>(aAR cs.toList).map .agg
 | .tuple cs=>if cs.size=0 then some (.tuple []) else none
 | v=>aB7 v
theorem aJV{g:Gh}{v:Value}{a:A}(h:aB7 v=some a):Rz g a v/\a.one=true:=by
 unfold aB7 at h;split at h<;>simp at h<;>subst h
 .exact⟨.int _ _,rfl⟩
 .exact⟨.bool _,rfl⟩
 .rename_i s;exact⟨.str s.data.toList,rfl⟩
 .exact⟨.nilp,rfl⟩
 .exact⟨.nils,rfl⟩
 .exact⟨.nilf,rfl⟩
 .exact⟨.nilm,rfl⟩
 .exact⟨.nili,rfl⟩
theorem aKc{g:Gh}:∀{vs:List Value} {az:List A},aAR vs=some az->Rzs g az vs/\∀c,c∈az->c.one=true
 | [],az,h=>by simp[aAR]at h;subst h;exact⟨.nil g,by simp⟩
 | v::vs,az,h=>by
  simp only[aAR]at h;split at h
  .rename_i a z B has;simp at h;subst h;have u:=aJV (g:=g) B;have y:=aKc (g:=g) has;exact⟨.cons u.1 y.1,by intro c m;cases m with|head=>exact u.2|tail _ m=>exact y.2 c m⟩
  .simp at h
theorem aQ0{g:Gh}{v:Value}{a:A}(h:aEf v=some a):Rz g a v:=by
 unfold aEf at h;split at h
 .rename_i cs;simp only[tG]at h;obtain⟨az,has,rfl⟩:=h;have:=aKc (g:=g) has;exact .agg az cs.toList this.1.1 this.2 this.1.2
 .rename_i cs;split at h
  .rename_i m;simp at h;subst h;have:cs=#[]:=Array.eq_empty_of_size_eq_zero m;subst this;exact .tuple [] [] rfl bA
  .simp at h
 .exact(aJV h).1
def eZ(C:Cx)(e:Env):Operand->Option A
 | .tmp t=>e.get t
 | .const v=>aEf v
 | .global g=>match C.gl g with
  | some cs=>some (.eptr cs 0)
  | none=>none
 | .func f=>some (.fn f [] [])
def uK(C:Cx)(t:TypeId)(cs:List A)(o:Nat):Option A :=
 match C.tt t with
 | some h=>if h.k.agg=true then(if o+h.sz<=cs.length then some (.agg ((cs.drop o).take h.sz)) else none) else cs[o]?
 | none=>none
def pJ:List A->Nat->List A->List A
 | cs,_,[]=>cs
 | cs,o,v::vs=>pJ (cs.set o v) (o+1) vs
def iF(l:List A):Bool:=l.all A.one
def eqC:A->A->Option Bool
 | .int j a,.int k b=>if j=k then some (decide (a=b)) else none
 | .str a,.str b=>some (decide (a=b))
 | .bool a,.bool b=>some (a == b)
 | _,_=>none
def aAX(op:BinOp)(k:IntKind)(a b:Int):Option A :=
 match op with
 | .add=>some (.int k (k.wrap (a+b)))
 | .sub=>some (.int k (k.wrap (a-b)))
 | .mul=>some (.int k (k.wrap (a * b)))
 | .eql=>some (.bool (decide (a=b)))
 | .neq=>some (.bool (!decide (a=b)))
 | .lss=>some (.bool (decide (a<b)))
 | .leq=>some (.bool (decide (a<=b)))
 | .gtr=>some (.bool (decide (b<a)))
 | .geq=>some (.bool (decide (b<=a)))
 | .and=>some (.int k (k.wrap ((BitVec.ofInt k.bits a &&& BitVec.ofInt k.bits b).toNat)))
 | .or=>some (.int k (k.wrap ((BitVec.ofInt k.bits a ||| BitVec.ofInt k.bits b).toNat)))
 | .xor=>some (.int k (k.wrap ((BitVec.ofInt k.bits a ^^^ BitVec.ofInt k.bits b).toNat)))
 | .andNot=>some (.int k (k.wrap ((BitVec.ofInt k.bits a &&& ~~~BitVec.ofInt k.bits b).toNat)))
 | .quo=>if b=0 then none else some (.int k (k.wrap (a.tdiv b)))
 | .rem=>if b=0 then none else some (.int k (a.tmod b))
 | _=>none
def aEh(op:BinOp)(k:IntKind)(a b:Int):Option A :=
 if b<0 then none else match op with
 | .shl=>some (.int k (k.wrap (a * 2 ^ (min b.toNat k.bits))))
 | .shr=>some (.int k (a.fdiv (2 ^ (min b.toNat k.bits))))
 | _=>none
def aLT:BinOp->Bool
 | .shl=>true
 | .shr=>true
 | _=>false
def unA:UnOp->A->Option A
 | .not,.bool b=>some (.bool (!b))
 | .neg,.int k n=>some (.int k (k.wrap (0-n)))
 | .xor,.int k n=>some (.int k (k.wrap ((BitVec.ofInt k.bits (if k.signed then -1 else k.max) ^^^ BitVec.ofInt k.bits n).toNat)))
 | _,_=>none
def vR(h:Nat->Option (Nat × Nat)):List A->List (Nat × A)->Option (List A)
 | cells,[]=>some cells
 | cells,(i,v)::rest =>
  match h i with
  | none=>none
  | some (off,m)=>if v.cells.length=m/\off+m<=cells.length/\iF v.cells=true then vR h (pJ cells off v.cells) rest else none
def nS(ρ:Operand->Option A):List (Nat × Operand)->Option (List (Nat × A))
 | []=>some []
 | (i,x)::r=>match ρ x,nS ρ r with
  | some a,some l=>some ((i,a)::l)
  | _,_=>none
def mY(ρ:Operand->Option A):List Operand->Option (List A)
 | []=>some []
 | x::r=>match ρ x,mY ρ r with
  | some a,some l=>some (a::l)
  | _,_=>none
def aAO:Nat->List (Nat × A)->Option (List A)
 | _,[]=>some []
 | k,(i,a)::r=>if i=k then(aAO (k+1) r).map (a::·) else none
section
def aAY(C:Cx)(F:Fr)(g:Gh)(KV Kp:St->A->Prop):Ending->World->Prop
 | .returned v,w=>∃h a s,g.le h/\R C.toCtx F h s w/\Rz h a v/\KV s a
 | .panicked mK,w=>∃h a v s,mK=[{ v:=v,recovered:=false }]/\g.le h/\R C.toCtx F h s w/\Rz h a v/\Kp s a
 | .outgrown,_=>False
def OutV(C:Cx)(F:Fr)(g:Gh)(KV Kp:St->A->Prop):Result Next->Prop
 | .ok (.value v) w=>∃h a s,g.le h/\R C.toCtx F h s w/\Rz h a v/\KV s a
 | .ok .skip w=>∃h s,g.le h/\R C.toCtx F h s w/\KV s (.tuple [])
 | .ok (.enter f args) w=>Calls C.P f args w (aAY C F g KV Kp)
 | .halt (.panic v) w=>∃h a s,g.le h/\R C.toCtx F h s w/\Rz h a v/\Kp s a
 | _=>False
def Den(C:Cx)(f:FuncId)(args:List A)(KV Kp:St->A->Prop)(s:St):Prop :=
 ∀F g w vals,R C.toCtx F g s w->Rzs g args vals->OutV C F g KV Kp ((callFunc f vals.toArray).run C.P w)
def OutS(C:Cx)(F:Fr)(g:Gh)(s:St)(K:A->Prop):Result Next->Prop
 | .ok (.value v) w=>∃h a,g.les h/\R C.toCtx F h s w/\Rz h a v/\K a
 | _=>False
def aHG(op:BinOp)(x y:A):Option A :=
 match x,y with
 | .int j a,.int k b=>match aLT op with
  | true=>aEh op j a b
  | false=>if j=k then aAX op j a b else none
 | .str a,.str b=>match op with
  | .eql=>some (.bool (decide (a=b)))
  | .neq=>some (.bool (!decide (a=b)))
  | .lss=>some (.bool (Go.Op.bytesLess a b))
  | .geq=>some (.bool (!Go.Op.bytesLess a b))
  | _=>none
 | _,_=>none
def aHh:BinOp->A->A->Bool
 | .eql,.agg _,.agg _|.neq,.agg _,.agg _=>true
 | .eql,.bool _,.bool _|.neq,.bool _,.bool _=>true
 | .eql,.iface _ _,.nili|.neq,.iface _ _,.nili=>true
 | .eql,.nili,.nili|.neq,.nili,.nili=>true
 | .eql,.iface _ _,.iface _ _|.neq,.iface _ _,.iface _ _=>true
 | .eql,.nilp,.nilp|.neq,.nilp,.nilp=>true
 | .eql,.ptr _ _,.nilp|.neq,.ptr _ _,.nilp=>true
 | .eql,.ptr _ _,.ptr _ _|.neq,.ptr _ _,.ptr _ _=>true
 | .eql,.nils,.nils|.neq,.nils,.nils=>true
 | .eql,.list _ _,.nils|.neq,.list _ _,.nils=>true
 | .eql,.ml _ _ _,.nils|.neq,.ml _ _ _,.nils=>true
 | .eql,.emp,.nils|.neq,.emp,.nils=>true
 | .eql,.mg _ _ _,.nils|.neq,.mg _ _ _,.nils=>true
 | _,_,_=>false
def nA:A->Option A
 | .list _ es=>some (.int .i64 es.length)
 | .nils=>some (.int .i64 0)
 | .ml _ _ n=>some (.int .i64 n)
 | .emp=>some (.int .i64 0)
 | .mg _ n _=>some (.int .i64 n)
 | _=>none
def aEt:Nat->List A->Prop
 | _,[]=>True
 | n,x::r=>(x.cells.length=n/\iF x.cells=true)/\aEt n r
theorem aGa{n:Nat}:∀{l:List A},aEt n l->∀x,x∈l->x.cells.length=n/\∀c,c∈x.cells->c.one=true
 | [],_,x,m=>by cases m
 | y::r,h,x,m=>by
  cases m with
  | head=>exact⟨h.1.1,by have:=h.1.2;simpa [iF]using this⟩
  | tail _ m=>exact aGa h.2 x m
def wF:Option A->Option Int
 | none=>some 0
 | some (.int _ i)=>some i
 | _=>none
def tB(n:Nat):Option A->Option Int
 | none=>some n
 | some (.int _ i)=>some i
 | _=>none
def rC(ρ:Operand->Option A):Option Operand->Option (Option A)
 | none=>some none
 | some x=>match ρ x with
  | some a=>some (some a)
  | none=>none
def xY(x:A)(u m:Option A)(K:A->Prop):Prop :=
 match x with
 | .str s=>match wF u,tB s.length m with
  | some l,some h=>(0<=l/\l<=h/\h<=s.length)/\K (.str ((s.drop l.toNat).take (h.toNat-l.toNat)))
  | _,_=>False
 | .list _ es=>match wF u,tB es.length m with
  | some l,some h=>(0<=l/\l<=h/\h<=es.length)/\K (.list none ((es.drop l.toNat).take (h.toNat-l.toNat)))
  | _,_=>False
 | _=>False
def elK(sz:Nat)(K:A->Prop):Option A->Prop
 | some x=>x.cells.length=sz/\K (.eptr x.cells 0)
 | none=>False
def chK(K:A->Prop):Option UInt8->Prop
 | some c=>K (.int .u8 c.toNat)
 | none=>False
def aMs:Value->Bool
 | .nilIface=>true
 | .int _ _=>false
 | .bool _=>false
 | .string _=>false
 | .pointer _=>false
 | .slice _ _ _=>false
 | .agg _=>false
 | .nilFunc=>false
 | _=>false
def aMC:Operand->Bool
 | .const v=>aMs v
 | .tmp _=>false
 | .global _=>false
 | .func _=>false
def aHt:BinOp->A->Option A
 | .eql,.nili=>some (.bool true)
 | .eql,.iface _ _=>some (.bool false)
 | .neq,.nili=>some (.bool false)
 | .neq,.iface _ _=>some (.bool true)
 | _,_=>none
def aCG:List A->A
 | []=>.emp
 | x::r=>.list none (x::r)
def aEr:List (Nat × Operand)->Bool
 | [x]=>match x.2 with
  | .const v=>match v with
   | .agg _=>true
   | _=>false
  | _=>false
 | _=>false
def hlA:List A->A
 | []=>.emp
 | x::r=>match r with
  | []=>.hl x
  | y::r=>.list none (x::y::r)
def aED(a b c d:Int):Int :=
 let x:=if a<b then b else a
 let y:=if x<c then c else x
 if y<d then d else y
def cJ(C:Cx)(op:Op)(ρ:Operand->Option A)(K:A->Prop):Prop :=
 let one (v:Option A):Prop:=match v with
  | some v=>K v
  | none=>False
 match op with
 | .move x=>one (ρ x)
 | .assign x=>one (ρ x)
 | .pick c a b=>match ρ c with
  | some (.bool true)=>one (ρ a)
  | some (.bool false)=>one (ρ b)
  | _=>False
 | .binOp op t x y _=>match ρ x,ρ y with
  | some a,some b=>match aMC y,aHh op a b with
   | true,_=>match b,C.tt t with
    | .nili,some B=>match B.k with
     | .iface=>one (aHt op a)
     | _=>False
    | _,_=>False
   | false,d=>match d with
    | true=>match C.eq t a b with
     | some r=>K (.bool (if op=.eql then r else !r))
     | none=>False
    | false=>match op,a,b with
     | .add,.str a,.str b=>a.length+b.length<=maxLen/\K (.str (a++b))
     | op,a,b=>one (aHG op a b)
  | _,_=>False
 | .unOp op _ x=>match ρ x with
  | some a=>one (unA op a)
  | none=>False
 | .nilCheck x=>match ρ x with
  | some (.ptr b o)=>K (.ptr b o)
  | some (.eptr cs o)=>K (.eptr cs o)
  | _=>False
 | .fieldAddr t x f=>match ρ x,C.tt t with
  | some a,some B=>match B.k with
   | .struct O=>match O[f]? with
    | some (off,_,_)=>match a with
     | .ptr b o=>K (.ptr b (o+off))
     | .eptr cs o=>K (.eptr cs (o+off))
     | _=>False
    | none=>False
   | _=>False
  | _,_=>False
 | .field t x f=>match ρ x,C.tt t with
  | some (.agg cs),some B=>match B.k with
   | .struct O=>match O[f]? with
    | some (off,sz,ag)=>if ag=true then(off+sz<=cs.length/\K (.agg ((cs.drop off).take sz))) else one cs[off]?
    | none=>False
   | _=>False
  | _,_=>False
 | .typeAssert x _ t ok=>match ok with
  | true=>match ρ x,C.tt t with
   | some (.iface u v),some B=>match B.k with
    | .struct _=>u=t/\K (.tuple [v,.bool true])
    | _=>False
   | _,_=>False
  | false=>False
 | .extract x i=>match ρ x with
  | some (.tuple vs)=>one vs[i]?
  | _=>False
 | .makeInterface t x=>match ρ x,C.tt t with
  | some a,some B=>match B.k with
   | .iface=>False
   | _=>K (.iface t a)
  | _,_=>False
 | .makeFunc (.func f) first M=>match mY ρ first.toList,mY ρ M.toList with
  | some l,some m=>K (.fn f l m)
  | _,_=>False
 | .convert a b x=>match ρ x,C.tt a,C.tt b with
  | some (.int _ n),some _,some Z=>match Z.k with
   | .int k=>K (.int k (k.wrap n))
   | _=>False
  | some (.str s),some ta,some Z=>match Z.k with
   | .string=>K (.str s)
   | .slice e=>match ta.k,C.tt e with
    | .string,some G=>match G.k with
     | .int .u8=>G.sz=1/\s.length<=maxLen/\K (.list none (s.map λc=>.int .u8 c.toNat))
     | _=>False
    | _,_=>False
   | _=>False
  | _,_,_=>False
 | .build t H=>match nS ρ H.toList,C.tt t with
  | some U,some B=>match B.k with
   | .struct O=>one ((vR (λi=>(O[i]?).map λx=>(x.1,x.2.1)) B.zero U).map .agg)
   | _=>False
  | _,_=>False
 | .buildSlice t len H=>match nS ρ H.toList,C.tt t with
  | some U,some B=>match B.k with
   | .slice e=>match C.tt e with
    | some G=>match aAO 0 U with
     | some es=>(es.length=len/\(len * G.sz<=16777216/\len<=16777216)/\aEt G.sz es)/\(match aEr H.toList with
      | true=>K (hlA es)
      | false=>K (aCG es))
     | none=>False
    | none=>False
   | _=>False
  | _,_=>False
 | .load t x=>match ρ x with
  | some (.eptr cs o)=>one (uK C t cs o)
  | _=>False
 | .slice t x lo S none=>match ρ x,rC ρ lo,rC ρ S,C.tt t with
  | some a,some l,some h,some B=>match B.k with
   | .string=>match a with
    | .str s=>xY (.str s) l h K
    | _=>False
   | .slice e=>match a,C.tt e with
    | .list tk es,some G=>(∀x,x∈es->x.cells.length=G.sz)/\xY (.list tk es) l h K
    | .nils,some _=>match wF l,tB 0 h with
     | some i,some j=>(i=0/\j=0)/\K .nils
     | _,_=>False
    | .gr t n,some _=>match wF l,tB n h with
     | some i,some j=>(i=0/\j=0)/\K (.list (some t) [])
     | _,_=>False
    | .ml b off n,some G=>match wF l,tB n h with
     | some i,some j=>(0<=i/\i<=j/\j<=n)/\K (if j.toNat-i.toNat=0 then .list none [] else .ml b (off+i.toNat * G.sz) (j.toNat-i.toNat))
     | _,_=>False
    | _,_=>False
   | _=>False
  | _,_,_,_=>False
 | .slice t x none (some S) (some mx)=>match ρ x,ρ S,ρ mx,C.tt t with
  | some a,some (.int _ h),some (.int _ m),some B=>match B.k with
   | .slice e=>match a,C.tt e with
    | .list _ es,some G=>((∀x,x∈es->x.cells.length=G.sz)/\0<=h/\h=m/\h.toNat<=es.length)/\K (.full (es.take h.toNat))
    | .nils,some _=>(h=0/\m=0)/\K .nils
    | _,_=>False
   | _=>False
  | _,_,_,_=>False
 | .indexAddr t x i=>match ρ x,ρ i,C.tt t with
  | some a,some (.int _ i),some B=>match B.k with
   | .slice e=>match a with
    | .list _ es=>match C.tt e with
     | some G=>(0<=i/\i.toNat<es.length)/\elK G.sz K es[i.toNat]?
     | none=>False
    | .ml b off n=>match C.tt e with
     | some G=>(0<=i/\i.toNat<n)/\K (.ptr b (off+i.toNat * G.sz))
     | none=>False
    | .mg b n _=>match C.tt e with
     | some G=>(0<=i/\i.toNat<n)/\K (.ptr b (i.toNat * G.sz))
     | none=>False
    | .pen t es sz=>match C.tt e with
     | some G=>(i=es.length/\sz=G.sz)/\K (.rm t es.length G.sz)
     | none=>False
    | _=>False
   | .array n e=>match a with
    | .eptr cs o=>match C.tt e with
     | some G=>(0<=i/\i<n)/\K (.eptr cs (o+i.toNat * G.sz))
     | none=>False
    | _=>False
   | _=>False
  | _,_,_=>False
 | .index t x i=>match ρ x,ρ i,C.tt t with
  | some (.str s),some (.int _ i),some B=>match B.k with
   | .string=>(0<=i/\i.toNat<s.length)/\chK K s[i.toNat]?
   | _=>False
  | _,_,_=>False
 | .call c=>match c.callee,c.args.toList,c.argTypes.toList with
  | .builtin .len,[x],[t]=>match ρ x,C.tt t with
   | some a,some B=>match B.k with
    | .string=>one (match a with|.str s=>some (.int .i64 s.length)|_=>none)
    | .slice _=>one (nA a)
    | _=>False
   | _,_=>False
  | .builtin .unsafeSliceData,[x],_=>match ρ x with
   | some (.list tk (y::ys))=>K (.sd tk (y::ys))
   | some .nils=>K .nilp
   | _=>False
  | .builtin .cap,[x],[t]=>match ρ x,C.tt t with
   | some .nils,some B=>match B.k with
    | .slice _=>K (.int .i64 0)
    | _=>False
   | _,_=>False
  | .builtin .max,[x,y],_=>match ρ x,ρ y with
   | some (.int j a),some (.int _ b)=>K (.int j (if a<b then b else a))
   | _,_=>False
  | .builtin .min,[x,y],_=>match ρ x,ρ y with
   | some (.int j a),some (.int _ b)=>K (.int j (if b<a then b else a))
   | _,_=>False
  | .builtin .max,[x,y,z,u],_=>match ρ x,ρ y,ρ z,ρ u with
   | some (.int j a),some (.int _ b),some (.int _ c),some (.int _ d)=>K (.int j (aED a b c d))
   | _,_,_,_=>False
  | _,_,_=>False
 | _=>False
section
variable {C:Cx} {F:Fr} {g:Gh} {s:St} {w:World} {K:A->Prop} {ρ:Operand->Option A} {ev:Operand->Value}
theorem Rz.ptr_inv{b o:Nat}{v:Value}(h:Rz g (.ptr b o) v):∃k,v=.pointer (some ⟨k,o,none⟩)/\g.beta b=some k:=by cases h;exact⟨_,rfl,by assumption⟩
theorem Rz.emp_inv{v:Value}(h:Rz g .emp v):∃a,v=.slice (some a) 0 0:=by cases h;exact⟨_,rfl⟩
theorem Rz.sd_inv{tk:Option Nat}{es:List A}{v:Value}(h:Rz g (.sd tk es) v):∃a cap,v=.pointer (some a)/\cap≠0/\Rz g (.list tk es) (.slice (some a) es.length cap):=by
 cases h;exact⟨_,_,rfl,by assumption,by assumption⟩
theorem Rz.gr_inv{t n:Nat}{v:Value}(h:Rz g (.gr t n) v):∃k cap,v=.slice (some ⟨k,0,none⟩) n cap/\g.eta t 0=some (.slice (some ⟨k,0,none⟩) 0 cap)/\n<=cap/\cap<=maxLen:=by
 cases h;exact⟨_,_,rfl,by assumption,by assumption,by assumption⟩
theorem Rz.hl_inv{z:A}{v:Value}(h:Rz g (.hl z) v):∃a cap,v=.slice (some a) 1 cap/\Rz g (.list none [z]) v:=by cases h;exact⟨_,_,rfl,by assumption⟩
theorem Rz.pen_inv{t:Nat}{es:List A}{sz:Nat}{v:Value}(h:Rz g (.pen t es sz) v):∃b cap,v=.slice (some ⟨b,0,none⟩) (es.length+1) cap /\
  Rz g (.list (some t) es) (.slice (some ⟨b,0,none⟩) es.length cap)/\es.length+1<=cap/\∀y,y∈es->y.cells.length=sz:=by cases h;exact⟨_,_,rfl,by assumption,by assumption,by assumption⟩
theorem Rz.rm_inv{t n sz:Nat}{v:Value}(h:Rz g (.rm t n sz) v):∃b cap,v=.pointer (some ⟨b,n * sz,none⟩)/\g.eta t n=some (.slice (some ⟨b,0,none⟩) n cap)/\n+1<=cap:=by
 cases h;exact⟨_,_,rfl,by assumption,by assumption⟩
theorem Rz.ml_inv{b o n:Nat}{v:Value}(h:Rz g (.ml b o n) v):∃k cap,v=.slice (some ⟨k,o,none⟩) n cap/\g.beta b=some k/\n<=cap/\cap<=maxLen:=by
 cases h;exact⟨_,_,rfl,by assumption,by assumption,by assumption⟩
theorem Rz.mg_inv{b n cap:Nat}{v:Value}(h:Rz g (.mg b n cap) v):∃k,v=.slice (some ⟨k,0,none⟩) n cap/\g.beta b=some k/\n<=cap/\cap<=maxLen:=by
 cases h;exact⟨_,rfl,by assumption,by assumption,by assumption⟩
theorem Rz.mp_inv{b:Nat}{v:Value}(h:Rz g (.mp b) v):∃k,v=.map (some k)/\g.beta b=some k:=by cases h;exact⟨_,rfl,by assumption⟩
theorem Rz.nilp_inv{v:Value}(h:Rz g .nilp v):v=.pointer none:=by cases h;rfl
theorem Rz.full_inv{es:List A}{v:Value}(h:Rz g (.full es) v):∃a,v=.slice a es.length es.length/\Rz g (.list none es) v:=by cases h;exact⟨_,rfl,by assumption⟩
theorem Rz.nils_inv{v:Value}(h:Rz g .nils v):v=.slice none 0 0:=by cases h;rfl
theorem Rz.nili_inv{v:Value}(h:Rz g .nili v):v=.nilIface:=by cases h;rfl
theorem Rz.iface_inv{t:TypeId}{a:A}{v:Value}(h:Rz g (.iface t a) v):∃u,v=.iface t u/\Rz g a u:=by cases h;exact⟨_,rfl,by assumption⟩
theorem Rz.agg_inv{cs:List A}{v:Value}(h:Rz g (.agg cs) v):∃vs:List Value,v=.agg vs.toArray/\Rzs g cs vs/\∀c,c∈cs->c.one=true:=by
 cases h with|agg cs vs hl m h=>exact⟨vs,rfl,⟨hl,h⟩,m⟩
theorem Rz.tuple_inv{cs:List A}{v:Value}(h:Rz g (.tuple cs) v):∃vs:List Value,v=.tuple vs.toArray/\Rzs g cs vs:=by
 cases h with|tuple cs vs hl h=>exact⟨vs,rfl,⟨hl,h⟩⟩
theorem Rz.fn_inv{f:FuncId}{m cs:List A}{v:Value}(h:Rz g (.fn f m cs) v):∃us vs:List Value,v=.func (.func f) us.toArray vs.toArray/\Rzs g m us/\Rzs g cs vs:=by
 cases h with|fn f m cs us vs y u B z=>exact⟨us,vs,rfl,⟨y,B⟩,⟨u,z⟩⟩
theorem Rz.eptr_inv{cs:List A}{o:Nat}{v:Value}(h:Rz g (.eptr cs o) v):∃b off pre,v=.pointer (some ⟨b,off+o,none⟩)/\g.pi b=some pre/\off+cs.length<=pre.length /\
  (∀c,c∈cs->c.one=true)/\∀(j:Nat) (c:A) (v:Value),cs[j]?=some c->pre[off+j]?=some v->Rz g c v:=by
 cases h with|eptr cs o b off pre u hl m h=>exact⟨b,off,pre,rfl,u,hl,m,h⟩
theorem OutS.val{v:Value}{a:A}(m:R C.toCtx F g s w)(u:Rz g a v)(h:K a):OutS C F g s K (.ok (.value v) w) :=
 ⟨g,a,Gh.les.refl g,m,u,h⟩
theorem aDL(m:∀x a,ρ x=some a->Rz g a (ev x)):∀{l:List Operand} {az:List A},mY ρ l=some az->Rzs g az (l.map ev)
 | [],az,h=>by simp[mY]at h;subst h;exact .nil g
 | x::r,az,h=>by
  simp only[mY]at h;split at h
  .rename_i a l u hl;simp at h;subst h;exact .cons (m x a u) (aDL m hl)
  .simp at h
theorem aDx(m:∀x a,ρ x=some a->Rz g a (ev x)):∀{l:List (Nat × Operand)} {az:List (Nat × A)},nS ρ l=some az ->
  (l.map λx=>x.1)=az.map (λx=>x.1)/\Rzs g (az.map λx=>x.2) (l.map λx=>ev x.2)
 | [],az,h=>by simp[nS]at h;subst h;exact⟨rfl,.nil g⟩
 | (i,x)::r,az,h=>by
  simp only[nS]at h;split at h
  .rename_i a l u hl;simp at h;subst h;have:=aDx m hl;exact⟨by simp[this.1],.cons (m x a u) this.2⟩
  .simp at h
theorem iL{t:TypeId}{m:TI}(h:C.tt t=some m):∃d,C.P.underlying t=some d/\m.k.ok C.P d:=(C.htt t m h).und
theorem aAM{t:TypeId}{z:TI}(h:C.tt t=some z)(w:World):(isAgg t).run C.P w=.ok z.k.agg w:=by
 obtain⟨d,hd,m⟩:=iL h;simp only[isAgg,bN,dN hd,bM];cases y:z.k<;>rw[y]at m<;>simp only[TK.ok]at m<;>(try subst m)<;>(try rfl)
 .obtain⟨u,rfl,_⟩:=m;rfl
 .obtain⟨ms,rfl⟩:=m;rfl
 .cases d<;>simp_all [zV,TK.agg]
 .obtain⟨kt,rfl,_⟩:=m;rfl
theorem lF{t:TypeId}{m:TI}(h:C.tt t=some m)(w:World):(sizeOf t).run C.P w=.ok m.sz w:=by
 obtain⟨i,z,u,y,_⟩:=(C.htt t m h).info;simp[sizeOf,typeInfo,u,y]
theorem xQ{t:TypeId}{m:TI}(h:C.tt t=some m):C.toCtx.sz t=m.sz:=by
 obtain⟨i,z,u,y,_⟩:=(C.htt t m h).info;simp[Ctx.sz,u,y]
theorem aB5{t:TypeId}{m:TI}(h:C.tt t=some m)(w:World):∃z,(zeroValue t).run C.P w=.ok z w/\∀g,Rzs g m.zero z.cells.toList:=by
 obtain⟨i,z,u,G,B,hz,y⟩:=(C.htt t m h).info;exact⟨z,by simp[zeroValue,typeInfo,u,hz],y⟩
end
end
section
section
variable {C:Cx} {F:Fr} {g:Gh} {s:St} {w:World} {K:A->Prop} {ρ:Operand->Option A} {ev:Operand->Value}
theorem yS(x:Sem Value)(P:Program)(w:World):((do let v <-x;pure (Next.value v)):Sem Next).run P w=(x.run P w).andThen λv w'=>.ok (.value v) w':=by
 simp
theorem eQ{x:Sem Value}{v:Value}{a:A}(m:R C.toCtx F g s w)(y:x.run C.P w=.ok v w)(u:Rz g a v)(h:K a) :
  OutS C F g s K (((do let v <-x;pure (Next.value v)):Sem Next).run C.P w):=by
 rw[yS,y];exact OutS.val m u h
theorem aSH{op:BinOp}{k:IntKind}{x y:Int}{a:A}(h:aAX op k x y=some a)(t:TypeId) :
  ∃v,(binOp op t (.int k x) (.int k y))=pure v/\∀g,Rz g a v:=by
 cases op
 case quo =>
  simp only[aAX]at h;split at h
  .cases h
  .rename_i m;simp only[bV]at h;subst h;simp only[binOp,Op.intDiv,dB,not_true_eq_false,↓reduceIte,m];exact⟨_,rfl,λg=>.int _ _⟩
 case rem =>
  simp only[aAX]at h;split at h
  .cases h
  .rename_i m;simp only[bV]at h;subst h;simp only[binOp,Op.intDiv,dB,not_true_eq_false,↓reduceIte,m];exact⟨_,rfl,λg=>.int _ _⟩
 all_goals
  simp only[aAX,bV,reduceCtorEq]at h
 all_goals
  subst h;simp only[binOp,Op.intArith,Op.intCmp,Op.intBits,dB,not_true_eq_false,↓reduceIte]
  first
   | exact⟨_,rfl,λg=>.int _ _⟩
   | exact⟨_,rfl,λg=>.bool _⟩
   | (refine⟨_,rfl,λg=>?_⟩;simp only[bne,beq_eq_decide];exact .bool _)
theorem aRo{op:BinOp}{k j:IntKind}{x y:Int}{a:A}(h:aEh op k x y=some a)(t:TypeId) :
  ∃v,(binOp op t (.int k x) (.int j y))=pure v/\∀g,Rz g a v:=by
 unfold aEh at h;split at h
 .cases h
 .rename_i m;cases op<;>simp only[bV,reduceCtorEq]at h
  all_goals
   subst h;simp only[binOp,Op.shift,m,cZ];exact⟨_,rfl,λg=>.int _ _⟩
theorem aJi(op:BinOp)(t:TypeId)(x y:Operand)(k j:IntKind)(a b:Int):eqGuard op t x y (.int k a) (.int j b)=pure ():=by
 unfold eqGuard;cases op<;>rfl
theorem aBE(op:BinOp)(t:TypeId)(x y:Operand)(a b:ByteArray):eqGuard op t x y (.string a) (.string b)=pure ():=by
 unfold eqGuard;cases op<;>rfl
section
variable {P:Program} {t:TypeId} {ms:_} (hd:P.underlying t=some (.interface ms)) (x:Operand) (w:World)
include hd
theorem aO3(d:Nat):(Op.equalIn (d+1) t .nilIface .nilIface).run P w=.ok true w:=by
 simp only[Op.equalIn,bN,dN hd,bM,cG]
theorem aPr(d:Nat)(u:TypeId)(v:Value):(Op.equalIn (d+1) t (.iface u v) .nilIface).run P w=.ok false w:=by
 simp only[Op.equalIn,bN,dN hd,bM,cG]
theorem aMI(op:BinOp)(y:op=.eql\/op=.neq) :
  ((do eqGuard op t x (.const .nilIface) .nilIface .nilIface;binOp op t .nilIface .nilIface:Sem Value)).run P w=.ok (.bool (op == .eql)) w:=by
 have h:=aO3 hd w 9999;rcases y with rfl|rfl
 .have u:(eqGuard .eql t x (.const .nilIface) .nilIface .nilIface).run P w=.ok () w:=by cases x<;>rfl
  have m:(binOp .eql t .nilIface .nilIface).run P w=.ok (.bool true) w:=by
   simp only[binOp,Op.equal,Op.maxDepth,bN,h,bM,cG]
  rw[bN,u,bM,m];rfl
 .have u:(eqGuard .neq t x (.const .nilIface) .nilIface .nilIface).run P w=.ok () w:=by cases x<;>rfl
  have m:(binOp .neq t .nilIface .nilIface).run P w=.ok (.bool false) w:=by
   simp only[binOp,Op.equal,Op.maxDepth,bN,h,bM,cG,fP]
  rw[bN,u,bM,m];rfl
theorem gE1(op:BinOp)(z:op=.eql\/op=.neq)(u:TypeId)(v:Value) :
  ((do eqGuard op t x (.const .nilIface) (.iface u v) .nilIface;binOp op t (.iface u v) .nilIface:Sem Value)).run P w=.ok (.bool (op == .neq)) w:=by
 have h:=aPr hd w 9999 u v;rcases z with rfl|rfl
 .have y:(eqGuard .eql t x (.const .nilIface) (.iface u v) .nilIface).run P w=.ok () w:=rfl
  have m:(binOp .eql t (.iface u v) .nilIface).run P w=.ok (.bool false) w:=by
   simp only[binOp,Op.equal,Op.maxDepth,bN,h,bM,cG]
  rw[bN,y,bM,m];rfl
 .have y:(eqGuard .neq t x (.const .nilIface) (.iface u v) .nilIface).run P w=.ok () w:=rfl
  have m:(binOp .neq t (.iface u v) .nilIface).run P w=.ok (.bool true) w:=by
   simp only[binOp,Op.equal,Op.maxDepth,bN,h,bM,cG,iB]
  rw[bN,y,bM,m];rfl
end
theorem aTz{op:BinOp}{t yt ty:TypeId}{x y:Operand}{dst:Option Tmp}{pos:String}{after:Array Edge}{gd:Option (Nat × Bool)}
  (z:R C.toCtx F g s w)(he:∀x a,ρ x=some a->Rz g a (ev x))(h:cJ C (.binOp op t x y yt) ρ K) :
  OutS C F g s K ((execOp ev ⟨dst,.binOp op t x y yt,ty,pos,after,gd⟩).run C.P w):=by
 simp only[cJ]at h;split at h
 .rename_i a b ha hb;have B:=he x a ha;have G:=he y b hb;simp only[execOp];split at h
  .rename_i hn;split at h
   .rename_i ti Z;split at h
    .rename_i S;obtain⟨d,hd,H⟩:=iL Z;rw[S]at H;obtain⟨ms,rfl⟩:=H
     have hy:y=.const .nilIface:=by
      cases y with
      | const v=>cases v<;>first|rfl|cases hn
      | _=>cases hn
     subst hy;cases a<;>cases op<;>simp only[aHt]at h
     .obtain⟨u,m,_⟩:=B.iface_inv;rw[m,G.nili_inv];refine eQ (v:=.bool false) z ?_ (.bool _) h;exact gE1 hd _ w .eql (.inl rfl) _ _
     .obtain⟨u,m,_⟩:=B.iface_inv;rw[m,G.nili_inv];refine eQ (v:=.bool true) z ?_ (.bool _) h;exact gE1 hd _ w .neq (.inr rfl) _ _
     .rw[B.nili_inv,G.nili_inv];refine eQ (v:=.bool true) z ?_ (.bool _) h;exact aMI hd _ w .eql (.inl rfl)
     .rw[B.nili_inv,G.nili_inv];refine eQ (v:=.bool false) z ?_ (.bool _) h;exact aMI hd _ w .neq (.inr rfl)
    .exact h.elim
   .exact h.elim
  split at h
  .rename_i hd;split at h
   .rename_i r M
    have U:op=.eql\/op=.neq:=by
     cases op<;>simp_all [aHh]
    obtain⟨h1,h2⟩:=C.heq t a b r M g _ _ w op x y U B G;refine eQ (v:=.bool (if op=.eql then r else !r)) z ?_ (.bool _) h;simp only[bN,h1,bM,h2]
   .exact h.elim
  .split at h
   .obtain⟨hl,S⟩:=h;rw[B.str_inv,G.str_inv];refine eQ z ?_ (.str _) S;simp only[aBE,pure_bind];have e1:∀l:List UInt8,(ByteArray.mk l.toArray).size=l.length:=λl=>by simp[ByteArray.size]
    simp only[binOp,Op.stringOp,e1];rw[aD (by unfold maxLen at hl;simp[IntKind.max,IntKind.signed,IntKind.bits];omega)];simp only[cG];congr 2
   .split at h
    .rename_i v m;simp only[aHG]at m;split at m
     .split at m
      .rename_i j1 a1 k1 b1 _ _ _ _;rw[B.int_inv,G.int_inv];obtain⟨u,hu,M⟩:=aRo (j:=k1) m t;refine eQ z ?_ (M g) h;simp only[aJi,pure_bind,hu,cG]
      .split at m
       .rename_i O;subst O;rw[B.int_inv,G.int_inv];obtain⟨u,hu,M⟩:=aSH m t;refine eQ z ?_ (M g) h;simp only[aJi,pure_bind,hu,cG]
       .simp at m
     .rw[B.str_inv,G.str_inv];split at m
      .simp only[bV]at m;subst m;refine eQ z ?_ (.bool _) h;simp only[aBE,pure_bind,binOp,Op.stringOp,ByteArray.toList_mk,cG];congr 2;rw[gA];simp
      .simp only[bV]at m;subst m;refine eQ z ?_ (.bool _) h;simp only[aBE,pure_bind,binOp,Op.stringOp,ByteArray.toList_mk,cG];congr 2;rw[gA];simp
      .simp only[bV]at m;subst m;refine eQ z ?_ (.bool _) h;simp only[aBE,pure_bind,binOp,Op.stringOp,ByteArray.toList_mk,cG]
      .simp only[bV]at m;subst m;refine eQ z ?_ (.bool _) h;simp only[aBE,pure_bind,binOp,Op.stringOp,ByteArray.toList_mk,cG]
      .simp at m
     .simp at m
    .exact h.elim
 .exact h.elim
theorem aQF{t:TypeId}{cs:List A}{o:Nat}{a:A}{v:Value}(hR:R C.toCtx F g s w)(hl:uK C t cs o=some a)(H:Rz g (.eptr cs o) v) :
  ∃u,(Instr.loadAt t v).run C.P w=.ok u w/\Rz g a u:=by
 obtain⟨b,off,pre,rfl,hp,Z,h1,hr⟩:=H.eptr_inv;obtain⟨rest,e,fr,hh⟩:=hR.pis b pre hp
 have cell:∀k,k<pre.length->w.cell? ⟨b,k,none⟩=pre[k]?:=by
  intro k O;simp only[World.cell?,hh,kZ,dA,↓reduceIte,mP];rw[kE O]
 simp only[uK]at hl;split at hl
 .rename_i U B;split at hl
  .rename_i z;split at hl
   .rename_i b0;simp only[bV]at hl;subst hl
    have m:∀j v,((pre.drop (off+o)).take U.sz)[j]?=some v->w.cell? ((⟨b,off+o,none⟩:Addr).add j)=some v:=by
     intro j v G;rw[mS]at G;split at G
     .rename_i S;rw[mR]at G;have:(⟨b,off+o,none⟩:Addr).add j=⟨b,off+o+j,none⟩:=by unfold Addr.add;split<;>simp_all
      rw[this,cell _ (dZ.1 G).1];exact G
     .simp at G
    have h:((pre.drop (off+o)).take U.sz).length=U.sz:=by rw[dT,dS];omega
    have y:=run_loadCells_list (P:=C.P) w ⟨b,off+o,none⟩ _ m;rw[h]at y;refine⟨_,by simp only[Instr.loadAt,Instr.sureAddr,loadVar,bN,cG,bM,aAM B,z,↓reduceIte,lF B,y];rfl,?_⟩;refine .agg _ _ ?_ ?_ ?_
    .rw[h,dT,dS];omega
    .intro c m;exact h1 c (uW (qG m))
    .intro j c v m H;rw[mS]at m H;split at m
     .rename_i S;rw[aF S]at H;rw[mR]at m H;exact hr (o+j) c v m (by rw[<-nY];exact H)
     .simp at m
   .simp at hl
  .rename_i z;have ho:o<cs.length:=(dZ.1 hl).1;have O:off+o<pre.length:=by omega
   refine⟨pre[off+o],?_,hr o a _ hl (dI O)⟩;have M:U.k.agg=false:=gQ z;simp only[Instr.loadAt,Instr.sureAddr,loadVar,bN,cG,bM,aAM B,M,dA,↓reduceIte,run_load,cell _ O,dI O]
 .simp at hl
theorem aBz{lo M:Option A}{l h:Int}{n cap:Nat}{b:Bool}{G B:Option Value}
  (hl:wF lo=some l)(u:tB n M=some h)(H:0<=l)(z:l<=h)(h2:h<=n)(hn:n<=cap)
  (r1:∀a,lo=some a->∃v,G=some v/\Rz g a v)(b0:lo=none->G=none)
  (r2:∀a,M=some a->∃v,B=some v/\Rz g a v)(U:M=none->B=none) :
  (Instr.sliceBounds b n cap G B none).run C.P w=.ok (l.toNat,h.toNat,cap) w:=by
 have Z:∀(k:IntKind) (i:Int) (y:Nat) (m:BoundsCode),0<=i->i<=y->(Instr.sliceBound (.int k i) y m).run C.P w=.ok i.toNat w :=
  λk i y m H z=>by simp[Instr.sliceBound,asIntOf,H,z]
 have key:∀(y:Nat),y=h.toNat->(y:Int)=h:=by intro y hy;have:=Int.le_trans H z;omega
 cases lo with
 | none =>
  simp only[wF,bV]at hl;subst hl;rw[b0 rfl];cases M with
  | none =>
   simp only[tB,bV]at u;subst u;rw[U rfl];simp[Instr.sliceBounds]
  | some a =>
   obtain⟨v,S,O⟩:=r2 a rfl;cases a<;>simp only[tB,bV,reduceCtorEq]at u
   subst u;rw[S,O.int_inv];have g2:(_:Int)<=(cap:Int):=Int.le_trans h2 aB;cases b<;>simp[Instr.sliceBounds,Z,z,g2]
 | some a =>
  obtain⟨v,S,O⟩:=r1 a rfl;cases a<;>simp only[wF,bV,reduceCtorEq]at hl
  subst hl;rw[S,O.int_inv];cases M with
  | none =>
   simp only[tB,bV]at u;subst u;rw[U rfl];simp[Instr.sliceBounds,Z,H,z]
  | some a =>
   obtain⟨v,S,O⟩:=r2 a rfl;cases a<;>simp only[tB,bV,reduceCtorEq]at u
   subst u;rw[S,O.int_inv];have g2:(_:Int)<=(cap:Int):=Int.le_trans h2 aB;have g1:=Int.le_trans H z;have e:=key _ rfl;have g3:=z;rw[<-e]at g3;cases b<;>simp only[Instr.sliceBounds,Z _ _ _ _ g1 g2,Z _ _ _ _ H g3,bN,cG,bM,dA,↓reduceIte]
theorem aLY(u:∀x a,ρ x=some a->Rz g a (ev x)){o:Option Operand}{r:Option A}(h:rC ρ o=some r) :
  (∀a,r=some a->∃v,o.map ev=some v/\Rz g a v)/\(r=none->o.map ev=none):=by
 cases o with
 | none=>simp only[rC,bV]at h;subst h;simp
 | some x =>
  simp only[rC]at h;split at h
  .rename_i a m;simp only[bV]at h;subst h;exact⟨λy e=>by cases e;exact⟨_,rfl,u x a m⟩,by simp⟩
  .simp at h
end
end
section
section
variable {C:Cx} {F:Fr} {g:Gh} {s:St} {w:World} {K:A->Prop} {ρ:Operand->Option A} {ev:Operand->Value}
theorem aDv{t:TypeId}{z:TI}{y:List (Nat × Nat × Bool)}(h:C.tt t=some z)(G:z.k=.struct y) :
  ∃m,C.P.underlying t=some (.struct m)/\m.size=y.length/\∀(i o s:Nat) (a:Bool),y[i]?=some (o,s,a) ->
   ∃f,m[i]?=some f/\f.offset=o/\(C.P.info? f.type).map (·.size)=some s/\s≠0/\(C.P.underlying f.type).isSome=true/\zV (C.P.underlying f.type)=a:=by
 obtain⟨d,hd,u⟩:=iL h;rw[G]at u;obtain⟨m,rfl,H,B⟩:=u;exact⟨m,hd,H,B⟩
theorem aF4{t:TypeId}{n:Nat}(h:(C.P.info? t).map (·.size)=some n)(w:World):(sizeOf t).run C.P w=.ok n w:=by
 simp only[tG]at h;obtain⟨i,m,u⟩:=h;simp[sizeOf,typeInfo,m,u]
theorem aJ2{t:TypeId}(h:(C.P.underlying t).isSome=true)(w:World):(isAgg t).run C.P w=.ok (zV (C.P.underlying t)) w:=by
 obtain⟨d,hd⟩:=Option.isSome_iff_exists.1 h;simp only[isAgg,bN,dN hd,bM,hd];cases d<;>rfl
theorem kQ(b o n:Nat):(⟨b,o,none⟩:Addr).add n=⟨b,o+n,none⟩:=by unfold Addr.add;split<;>simp_all
theorem aIj{a:Addr}{f:Field}{n:Nat}(h:(C.P.info? f.type).map (·.size)=some n)(m:n≠0)(w:World) :
  (fieldPlace a f).run C.P w=.ok (a.add f.offset) w:=by
 simp[fieldPlace,aF4 h,m]
theorem aPi{t ty:TypeId}{x:Operand}{f:Nat}{dst:Option Tmp}{pos:String}{after:Array Edge}{gd:Option (Nat × Bool)}
  (S:R C.toCtx F g s w)(Z:∀x a,ρ x=some a->Rz g a (ev x))(h:cJ C (.fieldAddr t x f) ρ K) :
  OutS C F g s K ((execOp ev ⟨dst,.fieldAddr t x f,ty,pos,after,gd⟩).run C.P w):=by
 simp only[cJ]at h;split at h
 .rename_i a ti U B;split at h
  .rename_i fs hk;split at h
   .rename_i off sz ag hf;obtain⟨y,hu,_,z⟩:=aDv B hk;obtain⟨fl,G,H,M,O,_,_⟩:=z f off sz ag hf;simp only[execOp];split at h
    .rename_i b o;obtain⟨k,this,hb⟩:=(Z x _ U).ptr_inv;refine eQ (v:=.pointer (some ⟨k,o+off,none⟩)) S ?_ (.ptr b (o+off) k hb) h;simp[Instr.fieldAt,dN hu,G,Instr.sureAddr,this,aIj M O,H,kQ]
    .rename_i cs o;obtain⟨b,u,pre,hv,hp,hl,m,hr⟩:=(Z x _ U).eptr_inv;refine eQ (v:=.pointer (some ⟨b,u+(o+off),none⟩)) S ?_ (.eptr cs (o+off) b u pre hp hl m hr) h;simp[Instr.fieldAt,dN hu,G,Instr.sureAddr,hv,aIj M O,H,kQ,nY]
    .exact h.elim
   .exact h.elim
  .exact h.elim
 .exact h.elim
theorem aUa{t ty:TypeId}{x:Operand}{f:Nat}{dst:Option Tmp}{pos:String}{after:Array Edge}{gd:Option (Nat × Bool)}
  (hR:R C.toCtx F g s w)(he:∀x a,ρ x=some a->Rz g a (ev x))(h:cJ C (.field t x f) ρ K) :
  OutS C F g s K ((execOp ev ⟨dst,.field t x f,ty,pos,after,gd⟩).run C.P w):=by
 simp only[cJ]at h;split at h
 .rename_i cs ti ha M;split at h
  .rename_i fs hk;split at h
   .rename_i off sz S hf;obtain⟨B,hu,_,H⟩:=aDv M hk;obtain⟨fl,U,Z,h3,h4,h5,h6⟩:=H f off sz S hf;obtain⟨vs,hv,z,y⟩:=(he x _ ha).agg_inv;simp only[execOp];split at h
    .rename_i m;obtain⟨hl,hK⟩:=h;refine eQ (v:=.agg ((vs.drop off).take sz).toArray) hR ?_ ?_ hK
     .simp only[Instr.field,bN,dN hu,bM,U,hv,asAgg,cG,part,aJ2 h5,h6,m,↓reduceIte,aF4 h3,Z];congr 2;simp[List.extract_toArray,List.take_drop,Nat.add_comm]
     .have:=(z.drop off).take sz;exact .agg _ _ this.1 (λc G=>y c (uW (qG G))) this.2
    .rename_i m;split at h
     .rename_i a G;obtain⟨v,O,hr⟩:=z.get G;refine eQ (v:=v) hR ?_ hr h;have u:S=false:=gQ m;simp only[Instr.field,bN,dN hu,bM,U,hv,asAgg,cG,part,aJ2 h5,h6,u,dA,↓reduceIte,Z];rw[mP,O];rfl
     .exact h.elim
   .exact h.elim
  .exact h.elim
 .exact h.elim
theorem aSm{t ty:TypeId}{x G mx:Operand}{dst:Option Tmp}{pos:String}{after:Array Edge}{gd:Option (Nat × Bool)}
  (hR:R C.toCtx F g s w)(Z:∀x a,ρ x=some a->Rz g a (ev x))(h:cJ C (.slice t x none (some G) (some mx)) ρ K) :
  OutS C F g s K ((execOp ev ⟨dst,.slice t x none (some G) (some mx),ty,pos,after,gd⟩).run C.P w):=by
 simp only[cJ]at h;split at h;rotate_left
 .exact h.elim
 rename_i a k1 u k2 m ti ha hh hm b1;obtain⟨d,hd,M⟩:=iL b1;have eh:=(Z G _ hh).int_inv;have em:=(Z mx _ hm).int_inv;split at h;rotate_left
 .exact h.elim
 rename_i el hk;rw[hk]at M;simp only[TK.ok]at M;subst M;split at h
 .rename_i tk es te O;obtain⟨⟨b6,c0,rfl,c2⟩,hK⟩:=h;obtain⟨S,cap,U,b5,b2,_,H⟩:=(Z x _ ha).list_inv
  have hb:∀(k:IntKind) (y:Nat) (B:BoundsCode),u<=(y:Int)->(Instr.sliceBound (.int k u) y B).run C.P w=.ok u.toNat w :=
   λk y B h1=>by simp[Instr.sliceBound,asIntOf,c0,h1]
  refine eQ (v:=.slice (if u.toNat=0 then S else S.map (·.add (0 * te.sz))) (u.toNat-0) (u.toNat-0)) hR ?_ ?_ hK
  .simp only[execOp,Instr.sliceAt,bN,dN hd,bM,Instr.slice,U,lL,Option.map_none,eh,em,Instr.sliceBounds,cG,hb k2 cap _ aB,hb k1 u.toNat _ aB,lF O]
  .have z:(es.take u.toNat).length=u.toNat:=by rw[dT];omega
   have key:Rz g (.list none (es.take u.toNat)) (.slice (if u.toNat=0 then S else S.map (·.add (0 * te.sz))) (u.toNat-0) (u.toNat-0)):=by
    by_cases hz:u.toNat=0
    .rw[hz,kO];exact .list0 none _ _ (aW _) bA
    .rcases H with rfl|⟨b,off,sz,pre,rfl,hp,b4,hs,b0,hr⟩
     .simp at c2;omega
     .rw[aD hz];simp only[lL,kQ,Nat.zero_mul,lD,Nat.sub_zero];have b3:u.toNat * sz<=es.length * sz:=rH _ c2
      have:=Rz.list (g:=g) none (es.take u.toNat) b off sz u.toNat pre hp (by rw[z];omega) (by rw[z];exact bJ _) aB
       (λe hx=>hs e (qG hx)) (λe hx=>b0 e (qG hx))
       (fun i e j c v G hj U => by
        rw[mS]at G;split at G
        .exact hr _ e j c v G hj U
        .simp at G) bA
      rw[z]at this;exact this
   rw[Nat.sub_zero]at key⊢;have:=Rz.full (g:=g) (es.take u.toNat) (if u.toNat=0 then S else S.map (·.add (0 * te.sz))) (by rw[z];exact key);rw[z]at this;exact this
 .rename_i te O;obtain⟨⟨rfl,rfl⟩,hK⟩:=h;have U:=(Z x _ ha).nils_inv;refine eQ (v:=.slice none 0 0) hR ?_ .nils hK;simp only[execOp,Instr.sliceAt,bN,dN hd,bM,Instr.slice,U,lL,Option.map_none,eh,em,Instr.sliceBounds,cG,lF O];simp[Instr.sliceBound,asIntOf]
 .exact h.elim
theorem aTB{t ty:TypeId}{x:Operand}{lo O mx:Option Operand}{dst:Option Tmp}{pos:String}{after:Array Edge}{gd:Option (Nat × Bool)}
  (hR:R C.toCtx F g s w)(U:∀x a,ρ x=some a->Rz g a (ev x))(h:cJ C (.slice t x lo O mx) ρ K) :
  OutS C F g s K ((execOp ev ⟨dst,.slice t x lo O mx,ty,pos,after,gd⟩).run C.P w):=by
 cases mx with
 | some mx =>
  cases lo with
  | some lo=>simp only[cJ]at h
  | none=>cases O with
   | none=>simp only[cJ]at h
   | some O=>exact aSm hR U h
 | none =>
 simp only[cJ]at h;split at h
 .rename_i a l h' ti ha b6 b5 b9;obtain⟨d,hd,G⟩:=iL b9;obtain⟨l1,l2⟩:=aLY U b6;obtain⟨h1,h2⟩:=aLY U b5;split at h
  .rename_i hk;rw[hk]at G;simp only[TK.ok]at G;subst G;split at h
   .rename_i str;simp only[xY]at h;split at h
    .rename_i m u z y;obtain⟨⟨c0,c1,c2⟩,S⟩:=h;have M:=(U x _ ha).str_inv;have e1:(ByteArray.mk str.toArray).size=str.length:=by simp[ByteArray.size]
     refine eQ (v:=.string ((ByteArray.mk str.toArray).extract m.toNat u.toNat)) hR ?_ ?_ S
     .simp only[execOp,Instr.sliceAt,bN,dN hd,bM,Instr.slice,M,Option.map_none,kZ,dA,↓reduceIte,e1];rw[aBz (C:=C) (w:=w) (g:=g) z y c0 c1 c2 (bJ _) l1 l2 h1 h2];rfl
     .have:(ByteArray.mk str.toArray).extract m.toNat u.toNat=⟨((str.drop m.toNat).take (u.toNat-m.toNat)).toArray⟩:=by
       apply ByteArray.ext;apply Array.ext';rw[Lib.extract_data]
      rw[this];exact .str _
    .exact h.elim
   .exact h.elim
  .rename_i el hk;rw[hk]at G;simp only[TK.ok]at G;subst G;split at h
   .rename_i tk es Z B;obtain⟨b8,h⟩:=h;simp only[xY]at h;split at h
    .rename_i m u z y;obtain⟨⟨c0,c1,c2⟩,S⟩:=h;obtain⟨ad,cap,M,hm,b1,_,b0⟩:=(U x _ ha).list_inv;refine eQ (v:=.slice (if cap=m.toNat then ad else ad.map (·.add (m.toNat * Z.sz))) (u.toNat-m.toNat) (cap-m.toNat)) hR ?_ ?_ S
     .simp only[execOp,Instr.sliceAt,bN,dN hd,bM,Instr.slice,M,Option.map_none];rw[aBz (C:=C) (w:=w) (g:=g) z y c0 c1 c2 b1 l1 l2 h1 h2];simp only[bM,lF B,cG]
     .have H:((es.drop m.toNat).take (u.toNat-m.toNat)).length=u.toNat-m.toNat:=by
       rw[dT,dS];omega
      by_cases hz:u.toNat-m.toNat=0
      .rw[hz,kO];exact .list0 none _ _ aB bA
      .rcases b0 with rfl|⟨b,off,sz,pre,rfl,hp,bc,hs,b4,hr⟩
       .simp at c2;omega
       .have b7:¬ cap=m.toNat:=by omega
        have b2:0<es.length:=by omega
        have b3:Z.sz=sz:=by
         have hx:=kF b2;rw[<-b8 _ hx,hs _ hx]
        rw[aD b7,b3];simp only[lL,kQ]
        have bb:m.toNat * sz+(u.toNat-m.toNat) * sz<=es.length * sz:=by
         rw[<-gO];exact rH _ aB
        have:=Rz.list (g:=g) none ((es.drop m.toNat).take (u.toNat-m.toNat)) b (off+m.toNat * sz) sz (cap-m.toNat) pre hp (by rw[H];omega) (by rw[H];omega) aB
         (λe hx=>hs e (uW (qG hx))) (λe hx=>b4 e (uW (qG hx)))
         (fun i e j c v O hj M => by
          rw[mS]at O;split at O
          .rw[mR]at O;refine hr _ e j c v O hj ?_;rw[gO,<-nY];exact M
          .simp at O) bA
        rw[H]at this;exact this
    .exact h.elim
   .rename_i Z B;split at h
    .rename_i m u z y;obtain⟨⟨rfl,rfl⟩,S⟩:=h;have M:=(U x _ ha).nils_inv;refine eQ (v:=.slice none 0 0) hR ?_ .nils S;simp only[execOp,Instr.sliceAt,bN,dN hd,bM,Instr.slice,M,Option.map_none];rw[aBz (C:=C) (w:=w) (g:=g) (n:=0) z y (aAp _) (aAp _) (aAp _) (bJ _) l1 l2 h1 h2];simp only[bM,lF B,cG];rfl
    .exact h.elim
   .rename_i t0 n0 Z B;split at h
    .rename_i m u z y;obtain⟨⟨rfl,rfl⟩,S⟩:=h;obtain⟨k,cap,M,hg,hn,hm⟩:=(U x _ ha).gr_inv;refine eQ (v:=.slice (if cap=(0:Int).toNat then some ⟨k,0,none⟩ else(some (⟨k,0,none⟩:Addr)).map (·.add ((0:Int).toNat * Z.sz))) 0 cap) hR ?_ ?_ S
     .simp only[execOp,Instr.sliceAt,bN,dN hd,bM,Instr.slice,M,Option.map_none];rw[aBz (C:=C) (w:=w) (g:=g) (n:=n0) z y (aAp _) (aAp _) aB hn l1 l2 h1 h2];simp only[bM,lF B,cG];rfl
     .have e1:(if cap=(0:Int).toNat then some (⟨k,0,none⟩:Addr) else(some (⟨k,0,none⟩:Addr)).map (·.add ((0:Int).toNat * Z.sz)))=some ⟨k,0,none⟩:=by
       split
       .rfl
       .simp[kQ]
      rw[e1];exact .list0 (some t0) _ cap hm (λt ht=>by cases ht;exact hg)
    .exact h.elim
   .rename_i b off n Z B;split at h
    .rename_i m u z y;obtain⟨⟨c0,c1,c2⟩,S⟩:=h;obtain⟨k,cap,M,hb,hc,hm⟩:=(U x _ ha).ml_inv;refine eQ (v:=.slice (if cap=m.toNat then some ⟨k,off,none⟩ else(some (⟨k,off,none⟩:Addr)).map (·.add (m.toNat * Z.sz))) (u.toNat-m.toNat) (cap-m.toNat)) hR ?_ ?_ S
     .simp only[execOp,Instr.sliceAt,bN,dN hd,bM,Instr.slice,M,Option.map_none];rw[aBz (C:=C) (w:=w) (g:=g) z y c0 c1 c2 hc l1 l2 h1 h2];simp only[bM,lF B,cG]
     .by_cases hz:u.toNat-m.toNat=0
      .rw[aF hz,hz];exact .list0 none _ _ aB bA
      .rw[aD hz,aD aB];simp only[lL,kQ];exact .ml b _ _ _ k hb aB aB
    .exact h.elim
   .exact h.elim
  .exact h.elim
 .exact h.elim
end
end
section
theorem aLs{α:Type}(l:List α)(k:Nat)(v:α)(rest:List α)(h:k<l.length) :
  (l.set k v).take (k+1)++rest++(l.set k v).drop (k+1+rest.length)=l.take k++(v::rest)++l.drop (k+(rest.length+1)):=by
 have m:(l.set k v).take (k+1)=l.take k++[v]:=by
  rw[List.take_succ_eq_append_getElem (gQ h)];simp only[List.take_set,List.getElem_set_self];rw[List.set_eq_of_length_le (by simp;omega)]
 have u:(l.set k v).drop (k+1+rest.length)=l.drop (k+(rest.length+1)):=by
  rw[List.drop_set_of_lt aB];congr 1;omega
 rw[m,u];simp
theorem aBH:∀(vs cs:List A) (o:Nat),o+vs.length<=cs.length->pJ cs o vs=cs.take o++vs++cs.drop (o+vs.length)
 | [],cs,o,_=>by simp[pJ]
 | v::vs,cs,o,h=>by
  simp only[aV]at h;rw[pJ,aBH vs _ _ (by simp;omega)];exact aLs cs o v vs aB
def aA5(cells:Array Value)(off:Nat)(vs:Array Value):Array Value:=vs.zipIdx.foldl (λcs (c,j)=>cs.setIfInBounds (off+j) c) cells
theorem aM7(off:Nat):∀(l:List Value) (k:Nat) (cells:Array Value),off+k+l.length<=cells.size ->
  ((l.zipIdx k).foldl (λcs (x:Value × Nat)=>cs.setIfInBounds (off+x.2) x.1) cells).toList=cells.toList.take (off+k)++l++cells.toList.drop (off+k+l.length)
 | [],k,cells,_=>by simp
 | v::l,k,cells,h=>by
  simp only[aV]at h;simp only[List.zipIdx_cons,pD];rw[aM7 off l (k+1) _ (by simp;omega)];simp only[Array.toList_setIfInBounds,aV];have:=aLs cells.toList (off+k) v l (by simp;omega);rw[show off+(k+1)=off+k+1 by omega];exact this
theorem aI4(cells:Array Value)(off:Nat)(vs:Array Value)(h:off+vs.size<=cells.size) :
  (aA5 cells off vs).toList=cells.toList.take off++vs.toList++cells.toList.drop (off+vs.size):=by
 obtain⟨l⟩:=vs;have:=aM7 off l 0 cells (gQ h);simpa [aA5]using this
theorem aKL{h:Nat->Option (Nat × Nat)}{cells:Array Value}{i:Nat}{v:Value}{rest:List (Nat × Value)}{off m:Nat}
  (u:h i=some (off,m))(y:v.cells.size=m)(hl:off+m<=cells.size) :
  Instr.fill h cells ((i,v)::rest)=Instr.fill h (aA5 cells off v.cells) rest:=by
 simp only[Instr.fill,u];rw[aD (by simp[y];omega)];rfl
section
variable {C:Cx} {F:Fr} {g:Gh} {s:St} {w:World} {K:A->Prop} {ρ:Operand->Option A} {ev:Operand->Value}
theorem Rzs.put{cs:List A}{cells:Array Value}{off:Nat}{a:A}{v:Value}(h:Rzs g cs cells.toList)(y:Rz g a v)(hl:off+a.cells.length<=cs.length) :
  Rzs g (pJ cs off a.cells) (aA5 cells off v.cells).toList:=by
 have m:=y.cells;have e:v.cells.size=a.cells.length:=gQ m.1;have u:cells.size=cs.length:=gQ h.1;rw[aBH _ _ _ hl,aI4 _ _ _ aB,e];exact((h.take off).append m).append (h.drop _)
theorem aLV{m:Nat->Option (Nat × Nat)}{h:Nat->Option (Nat × Nat)}(H:∀i x,h i=some x->m i=some x) :
  ∀{az:List (Nat × A)} {vs:List (Nat × Value)} {cs r:List A} {cells:Array Value},
   (vs.map λx=>x.1)=(az.map λx=>x.1)->Rzs g (az.map λx=>x.2) (vs.map λx=>x.2)->Rzs g cs cells.toList ->
   vR h cs az=some r->∃out,Instr.fill m cells vs=some out/\Rzs g r out.toList
 | [],vs,cs,r,cells,z,B,G,y=>by
  simp only[vR,bV]at y;subst y;have:vs=[]:=gQ z;subst this;exact⟨cells,rfl,G⟩
 | (i,a)::az,[],cs,r,cells,z,B,G,y=>by simp at z
 | (i,a)::az,(j,v)::vs,cs,r,cells,z,B,G,y=>by
  simp only[bX,List.cons.injEq]at z;obtain⟨rfl,z⟩:=z;simp only[vR]at y;split at y
  .simp at y
  .rename_i off M U;split at y
   .rename_i O;obtain⟨e1,e2,e3⟩:=O;have S:Rz g a v:=B.2 0 a v bA bA;have Z:v.cells.size=M:=by have:=S.cells.1;simp only[qH]at this;omega
    have b0:cells.size=cs.length:=gQ G.1;rw[aKL (H _ _ U) Z aB];refine aLV H z ⟨gQ B.1,λk c u O hu=>B.2 (k+1) c u (gQ O) (gQ hu)⟩ (G.put S aB) y
   .simp at y
theorem aLd{α m:Type}(P:Program)(w:World)(f:α->Sem m)(k:α->m):∀(l:List α),(∀x,x∈l->(f x).run P w=.ok (k x) w) ->
  (l.mapM f).run P w=.ok (l.map k) w
 | [],_=>by simp
 | x::l,h=>by
  simp only[List.mapM_cons,bN,h x bA,bM,aLd P w f k l (λy u=>h y (by simp[u])),cG,bX]
theorem aTC{t ty:TypeId}{u:Array (Nat × Operand)}{dst:Option Tmp}{pos:String}{after:Array Edge}{gd:Option (Nat × Bool)}
  (hR:R C.toCtx F g s w)(he:∀x a,ρ x=some a->Rz g a (ev x))(h:cJ C (.build t u) ρ K) :
  OutS C F g s K ((execOp ev ⟨dst,.build t u,ty,pos,after,gd⟩).run C.P w):=by
 simp only[cJ]at h;split at h
 .rename_i ps ti b5 O;split at h
  .rename_i S hk;split at h
   .rename_i r hr;simp only[tG]at hr;obtain⟨r',b1,rfl⟩:=hr;obtain⟨m,hu,hn,U⟩:=aDv O hk;obtain⟨z,hz,b7⟩:=aB5 O w;obtain⟨p1,p2⟩:=aDx he b5
    have Z:∀f,f∈m.toList->((do let x <-sizeOf f.type;pure (f.offset,x)):Sem (Nat × Nat)).run C.P w=.ok (f.offset,C.toCtx.sz f.type) w:=by
     intro f hf;obtain⟨i,hi,rfl⟩:=kM hf;have b3:i<S.length:=by rw[<-hn];simpa using hi
     obtain⟨f',M,G,h3,h4,_⟩:=U i S[i].1 S[i].2.1 S[i].2.2 (by simp[b3]);have b2:m[i]?=some m.toList[i]:=by rw[<-aBx];exact dI hi
     rw[b2]at M;cases M;simp only[bN,aF4 h3,bM,cG,Ctx.sz,h3,qL]
    have H:=aLd C.P w _ (λf:Field=>(f.offset,C.toCtx.sz f.type)) m.toList Z
    have b4:∀(i:Nat) (x:Nat × Nat),((S[i]?).map λ(x:Nat × Nat × Bool)=>(x.1,x.2.1))=some x->((m.toList.map λf:Field=>(f.offset,C.toCtx.sz f.type)).toArray)[i]?=some x:=by
     intro i x hx;simp only[tG]at hx;obtain⟨y,hy,rfl⟩:=hx;obtain⟨f',M,G,h3,h4,_⟩:=U i y.1 y.2.1 y.2.2 hy;rw[mP,nH,aBx,M];simp[G,Ctx.sz,h3]
    obtain⟨out,ho,b6⟩:=aLV (g:=g) b4 (az:=ps) (vs:=u.toList.map λx=>(x.1,ev x.2)) (cs:=ti.zero) (cells:=z.cells) (r:=r')
     (by rw[<-p1];simp[Function.comp_def]) (by simpa [Function.comp_def]using p2) (b7 g) b1
    have b0:∀c,c∈r'->c.one=true:=by
     have key:∀(az:List (Nat × A)) (cs r:List A),(∀c,c∈cs->c.one=true)->vR (λi=>(S[i]?).map λx=>(x.1,x.2.1)) cs az=some r->∀c,c∈r->c.one=true:=by
      intro az
      induction az with
      | nil=>intro cs r M G;simp only[vR,bV]at G;subst G;exact M
      | cons x az ih =>
       intro cs r M G;obtain⟨i,a⟩:=x;simp only[vR]at G;split at G
       .simp at G
       .split at G
        .rename_i hc;refine ih _ _ ?_ G;intro c B;rw[aBH _ _ _ aB]at B;simp only[cK]at B;rcases B with(B|B)|B
         .exact M c (qG B)
         .have:=hc.2.2;simp only[iF,dE]at this;exact this c B
         .exact M c (uW B)
        .simp at G
     exact key ps ti.zero r' (C.htt t ti O).one b1
    refine eQ (v:=.agg out) hR ?_ ?_ h
    .simp only[Instr.build,bN,hz,bM,dN hu];rw[Array.mapM_eq_mapM_toList];rw[Sem.run_map,H];simp only[bM];have:(u.map λx=>(x.1,ev x.2)).toList=u.toList.map λx=>(x.1,ev x.2):=by simp
     rw[this,ho];rfl
    .have:=b6;exact .agg r' out.toList this.1 b0 this.2
   .exact h.elim
  .exact h.elim
 .exact h.elim
end
end
section
section
variable {C:Cx} {F:Fr} {g:Gh} {s:St} {w:World} {K:A->Prop} {ρ:Operand->Option A} {ev:Operand->Value}
theorem aGl:∀{az:List (Nat × A)} {k:Nat} {es:List A},aAO k az=some es->az.map (λx=>x.2)=es/\az.map (λx=>x.1)=List.range' k es.length
 | [],k,es,h=>by simp[aAO]at h;subst h;simp
 | (i,a)::r,k,es,h=>by
  simp only[aAO]at h;split at h
  .rename_i y;subst y;simp only[tG]at h;obtain⟨m,u,rfl⟩:=h;have:=aGl u;simp[this.1,this.2,List.range'_succ]
  .simp at h
theorem aGy(h:Nat):∀(vs:List (Nat × Value)) (k:Nat) (cells:Array Value),vs.map (λx=>x.1)=List.range' k vs.length ->
  (∀x,x∈vs->x.2.cells.size=h)->(k+vs.length) * h<=cells.size ->
  ∃out,Instr.fill (λi=>some (i * h,h)) cells vs=some out /\
   out.toList=cells.toList.take (k * h)++(vs.flatMap λx=>x.2.cells.toList)++cells.toList.drop ((k+vs.length) * h)
 | [],k,cells,_,_,_=>⟨cells,rfl,by simp⟩
 | (i,v)::vs,k,cells,y,H,M=>by
  simp only[bX,aV,List.range'_succ,List.cons.injEq]at y;obtain⟨rfl,y⟩:=y;have z:=H (i,v) bA;simp only[aV]at M
  have hm:i * h+h<=(i+(vs.length+1)) * h:=by
   rw[show i * h+h=(i+1) * h by rw[gO];omega];exact rH _ aB
  have m:=aI4 cells (i * h) v.cells (by simp only at z;omega)
  have B:(aA5 cells (i * h) v.cells).size=cells.size:=by
   have:=lE List.length m;simp only[qH,aH,dT,dS]at this;simp only at z;omega
  rw[aKL rfl z aB];have G:(i+1+vs.length) * h=(i+(vs.length+1)) * h:=by rw[show i+1+vs.length=i+(vs.length+1)by omega]
  obtain⟨out,ho,u⟩:=aGy h vs (i+1) (aA5 cells (i * h) v.cells) y (λx U=>H x (by simp[U])) (by rw[B,G];exact M);refine⟨out,ho,?_⟩;rw[u,m];simp only at z;have O:(i+1) * h=i * h+h:=by rw[gO];omega
  have S:=G;rw[O,S,aV,jR]
  have Z:(cells.toList.take (i * h)++v.cells.toList++cells.toList.drop (i * h+v.cells.size)).take (i * h+h)=cells.toList.take (i * h)++v.cells.toList:=by
   apply List.take_left';simp only[aH,dT,qH];omega
  have t2:(cells.toList.take (i * h)++v.cells.toList++cells.toList.drop (i * h+v.cells.size)).drop ((i+(vs.length+1)) * h)=cells.toList.drop ((i+(vs.length+1)) * h):=by
   have hl:(cells.toList.take (i * h)++v.cells.toList).length=i * h+h:=by
    simp only[aH,dT,qH];omega
   rw[List.drop_append,dP aB,dD,hl,uZ];congr 1;omega
  rw[Z,t2];simp
theorem aNT{t ty:TypeId}{n:Nat}{m:Array (Nat × Operand)}{dst:Option Tmp}{pos:String}{after:Array Edge}{gd:Option (Nat × Bool)}
  (hR:R C.toCtx F g s w)(he:∀x a,ρ x=some a->Rz g a (ev x))(h:cJ C (.buildSlice t n m) ρ K) :
  ∃ti H e es out a,C.tt t=some ti/\ti.k=.slice e/\C.tt e=some H/\(∀x,x∈es->x.cells.length=H.sz/\∀c,c∈x.cells->c.one=true)/\(es.length * H.sz<=16777216/\es.length<=16777216) /\
   (execOp ev ⟨dst,.buildSlice t n m,ty,pos,after,gd⟩).run C.P w=.ok (.value (.slice (some ⟨w.heap.size,0,none⟩) es.length es.length)) (w.alloc (.cells out e)) /\
   Rzs g (eC es) out.toList/\(∀tk M,a=.list tk M->M=es)/\K a:=by
 simp only[cJ]at h;split at h
 .rename_i ps ti bh b9;split at h
  .rename_i e hk;split at h
   .rename_i H b1;split at h
    .rename_i es bf;obtain⟨⟨rfl,⟨b7,b2⟩,bg⟩,hK⟩:=h;obtain⟨d,hd,Z⟩:=iL b9;rw[hk]at Z;simp only[TK.ok]at Z;subst Z;obtain⟨p1,p2⟩:=aDx he bh;obtain⟨q1,q2⟩:=aGl bf;have b4:=aGa bg
     have U:m.toList.length=es.length:=by
      have:=lE List.length p1;have:=lE List.length q1;simp at *;omega
     have bk:∀x,x∈(m.toList.map λx=>(x.1,ev x.2))->x.2.cells.size=H.sz:=by
      intro x hx;obtain⟨k,hk,rfl⟩:=kM hx;simp only[aO]at hk;have b6:k<es.length:=by omega
      have hc:(ps.map λx=>x.2)[k]?=some es[k]:=by rw[q1];exact dI b6
      obtain⟨v,hv,hr⟩:=p2.get hc;have b3:=hr.cells.1;rw[(b4 _ (kF b6)).1]at b3;simp only[List.getElem_map];rw[nH,dI hk]at hv;simp only[lL,bV]at hv;rw[hv];simpa using b3
     have b5:(m.toList.map λx=>(x.1,ev x.2)).map (λx=>x.1)=List.range' 0 (m.toList.map λx=>(x.1,ev x.2)).length:=by
      simp only[List.map_map,Function.comp_def,aO];rw[p1,q2,U]
     obtain⟨z,hz,bm⟩:=aB5 b1 w;have bl:∀(zero:Array Value),((Array.range (es.length * H.sz)).map (λk=>zero[k % zero.size]!)).size=es.length * H.sz:=by intro zero;simp
     have O:∀zero:Array Value,∃out,Instr.fill (λi=>some (i * H.sz,H.sz)) ((Array.range (es.length * H.sz)).map (λk=>zero[k % zero.size]!)) (m.toList.map λx=>(x.1,ev x.2))=some out /\
       out.toList=(m.toList.map λx=>(x.1,ev x.2)).flatMap λx=>x.2.cells.toList:=by
      intro zero;obtain⟨out,ho,G⟩:=aGy H.sz (m.toList.map λx=>(x.1,ev x.2)) 0 ((Array.range (es.length * H.sz)).map (λk=>zero[k % zero.size]!)) b5 bk (by simp[U]);refine⟨out,ho,?_⟩;rw[G]
      have:(((Array.range (es.length * H.sz)).map (λk=>zero[k % zero.size]!)).toList).drop ((0+(m.toList.map λx=>(x.1,ev x.2)).length) * H.sz)=[] :=
       dP (by simp[U])
      rw[this];simp
     have S:Rzs g (eC es) ((m.toList.map λx=>(x.1,ev x.2)).flatMap λx=>x.2.cells.toList):=by
      have key:∀(az:List A) (vs:List Value),Rzs g az vs->Rzs g (eC az) (vs.flatMap λv=>v.cells.toList):=by
       intro az
       induction az with
       | nil=>intro vs h;have:vs=[]:=eS h.1;subst this;exact .nil g
       | cons a az ih =>
        intro vs h;cases vs with
        | nil=>have:=h.1;simp at this
        | cons v vs =>
         simp only[eC,jR];exact(h.2 0 a v bA bA).cells.append (ih vs ⟨gQ h.1,λj c u hc hu=>h.2 (j+1) c u (gQ hc) (gQ hu)⟩)
      have:=key _ _ p2;rw[q1]at this;simpa [List.flatMap_map]using this
     simp only[execOp]
     have b0:∃out:Array Value,(Instr.buildSlice t es.length (m.map λx=>(x.1,ev x.2))).run C.P w =
       .ok (.slice (some ⟨w.heap.size,0,none⟩) es.length es.length) (w.alloc (.cells out e))/\Rzs g (eC es) out.toList:=by
      have b8:(m.map λx=>(x.1,ev x.2)).toList=m.toList.map λx=>(x.1,ev x.2):=by simp
      by_cases h0:es.length * H.sz=0
      .obtain⟨out,ho,G⟩:=O #[];refine⟨out,?_,by rw[G];exact S⟩;simp only[Instr.buildSlice,bN,dN hd,bM,lF b1];rw[aD aB,aF h0];simp only[cG,pure_bind,bN,bM,b8,ho,newRow,run_newObj];rfl
      .obtain⟨out,ho,G⟩:=O z.cells;refine⟨out,?_,by rw[G];exact S⟩;simp only[Instr.buildSlice,bN,dN hd,bM,lF b1];rw[aD aB,aD h0];simp only[cG,pure_bind,bN,bM,hz,b8,ho,newRow,run_newObj];rfl
     obtain⟨out,b0,bj⟩:=b0;rw[yS,b0]
     have key:∃a,(∀tk M,a=.list tk M->M=es)/\K a:=by
      cases bb:aEr m.toList with
      | true =>
       rw[bb]at hK;refine⟨_,λtk M B=>?_,hK⟩
       match es,B with
       | [],B=>cases B
       | [x],B=>cases B
       | x::y::r,B=>cases B;rfl
      | false =>
       rw[bb]at hK;refine⟨_,λtk M B=>?_,hK⟩;cases es with
       | nil=>cases B
       | cons x r=>cases B;rfl
     obtain⟨a,bc,bd⟩:=key;exact⟨ti,H,e,es,out,a,b9,hk,b1,b4,⟨b7,b2⟩,rfl,bj,bc,bd⟩
    .exact h.elim
   .exact h.elim
  .exact h.elim
 .exact h.elim
theorem aOt{t ty:TypeId}{n:Nat}{m:Array (Nat × Operand)}{dst:Option Tmp}{pos:String}{after:Array Edge}{gd:Option (Nat × Bool)}
  (hR:R C.toCtx F g s w)(he:∀x a,ρ x=some a->Rz g a (ev x))(h:cJ C (.buildSlice t n m) ρ K) :
  OutS C F g s K ((execOp ev ⟨dst,.buildSlice t n m,ty,pos,after,gd⟩).run C.P w):=by
 simp only[cJ]at h;split at h
 .rename_i ps ti bh bj;split at h
  .rename_i e hk;split at h
   .rename_i M b3;split at h
    .rename_i es bd;obtain⟨⟨rfl,⟨bl,bf⟩,bg⟩,hK⟩:=h;obtain⟨d,hd,Z⟩:=iL bj;rw[hk]at Z;simp only[TK.ok]at Z;subst Z;obtain⟨p1,p2⟩:=aDx he bh;obtain⟨q1,q2⟩:=aGl bd;have b1:=aGa bg
     have U:m.toList.length=es.length:=by
      have:=lE List.length p1;have:=lE List.length q1;simp at *;omega
     have bk:∀x,x∈(m.toList.map λx=>(x.1,ev x.2))->x.2.cells.size=M.sz:=by
      intro x hx;obtain⟨k,hk,rfl⟩:=kM hx;simp only[aO]at hk;have b7:k<es.length:=by omega
      have hc:(ps.map λx=>x.2)[k]?=some es[k]:=by rw[q1];exact dI b7
      obtain⟨v,hv,hr⟩:=p2.get hc;have b5:=hr.cells.1;rw[(b1 _ (kF b7)).1]at b5;simp only[List.getElem_map];rw[nH,dI hk]at hv;simp only[lL,bV]at hv;rw[hv];simpa using b5
     have b6:(m.toList.map λx=>(x.1,ev x.2)).map (λx=>x.1)=List.range' 0 (m.toList.map λx=>(x.1,ev x.2)).length:=by
      simp only[List.map_map,Function.comp_def,aO];rw[p1,q2,U]
     obtain⟨z,hz,bn⟩:=aB5 b3 w;have bm:∀(zero:Array Value),((Array.range (es.length * M.sz)).map (λk=>zero[k % zero.size]!)).size=es.length * M.sz:=by intro zero;simp
     have O:∀zero:Array Value,∃out,Instr.fill (λi=>some (i * M.sz,M.sz)) ((Array.range (es.length * M.sz)).map (λk=>zero[k % zero.size]!)) (m.toList.map λx=>(x.1,ev x.2))=some out /\
       out.toList=(m.toList.map λx=>(x.1,ev x.2)).flatMap λx=>x.2.cells.toList:=by
      intro zero;obtain⟨out,ho,G⟩:=aGy M.sz (m.toList.map λx=>(x.1,ev x.2)) 0 ((Array.range (es.length * M.sz)).map (λk=>zero[k % zero.size]!)) b6 bk (by simp[U]);refine⟨out,ho,?_⟩;rw[G]
      have:(((Array.range (es.length * M.sz)).map (λk=>zero[k % zero.size]!)).toList).drop ((0+(m.toList.map λx=>(x.1,ev x.2)).length) * M.sz)=[] :=
       dP (by simp[U])
      rw[this];simp
     have S:Rzs g (eC es) ((m.toList.map λx=>(x.1,ev x.2)).flatMap λx=>x.2.cells.toList):=by
      have key:∀(az:List A) (vs:List Value),Rzs g az vs->Rzs g (eC az) (vs.flatMap λv=>v.cells.toList):=by
       intro az
       induction az with
       | nil=>intro vs h;have:vs=[]:=eS h.1;subst this;exact .nil g
       | cons a az ih =>
        intro vs h;cases vs with
        | nil=>have:=h.1;simp at this
        | cons v vs =>
         simp only[eC,jR];exact(h.2 0 a v bA bA).cells.append (ih vs ⟨gQ h.1,λj c u hc hu=>h.2 (j+1) c u (gQ hc) (gQ hu)⟩)
      have:=key _ _ p2;rw[q1]at this;simpa [List.flatMap_map]using this
     simp only[execOp]
     have b0:∃out:Array Value,(Instr.buildSlice t es.length (m.map λx=>(x.1,ev x.2))).run C.P w =
       .ok (.slice (some ⟨w.heap.size,0,none⟩) es.length es.length) (w.alloc (.cells out e))/\Rzs g (eC es) out.toList:=by
      have b8:(m.map λx=>(x.1,ev x.2)).toList=m.toList.map λx=>(x.1,ev x.2):=by simp
      by_cases h0:es.length * M.sz=0
      .obtain⟨out,ho,G⟩:=O #[];refine⟨out,?_,by rw[G];exact S⟩;simp only[Instr.buildSlice,bN,dN hd,bM,lF b3];rw[aD aB,aF h0];simp only[cG,pure_bind,bN,bM,b8,ho,newRow,run_newObj];rfl
      .obtain⟨out,ho,G⟩:=O z.cells;refine⟨out,?_,by rw[G];exact S⟩;simp only[Instr.buildSlice,bN,dN hd,bM,lF b3];rw[aD aB,aD h0];simp only[cG,pure_bind,bN,bM,hz,b8,ho,newRow,run_newObj];rfl
     obtain⟨out,b0,b9⟩:=b0;rw[yS,b0];obtain⟨b4,b2⟩:=hR.newRow out.toList e []
     have B:es≠[]->Rz (g.know w.heap.size out.toList) (.list none es) (.slice (some ⟨w.heap.size,0,none⟩) es.length es.length):=by
      intro H;have bb:=b9.mono b2.le;have hl:=aAm (λx hx=>(b1 x hx).1);refine yR (pre:=out.toList) (vs:=out.toList) (off:=0) (sz:=M.sz) (by simp[Gh.know]) bA ?_ (λx hx=>(b1 x hx).1) (λx hx=>(b1 x hx).2) (bJ _) ?_ (aW _) bA
      .rw[lZ (by rw[b9.1,hl];exact bJ _)];exact bb
      .unfold maxLen;omega
     have hz:Rz (g.know w.heap.size out.toList) (hlA es) (.slice (some ⟨w.heap.size,0,none⟩) es.length es.length):=by
      match es,B with
      | [],_=>exact .emp _
      | [x],B=>exact .hl x _ _ (B bA)
      | x::y::r,B=>exact B bA
     cases bc:aEr m.toList with
     | true=>rw[bc]at hK;exact⟨_,_,b2,gQ b4,hz,hK⟩
     | false =>
     rw[bc]at hK;refine⟨_,_,b2,gQ b4,?_,hK⟩;cases H:es with
     | nil=>exact .emp _
     | cons e0 r0 =>
     rw[<-H];show Rz _ (aCG es) _;rw[show aCG es=.list none es by rw[H];rfl];exact B (by rw[H];simp)
    .exact h.elim
   .exact h.elim
  .exact h.elim
 .exact h.elim
theorem aPf{t ty:TypeId}{x i:Operand}{dst:Option Tmp}{pos:String}{after:Array Edge}{gd:Option (Nat × Bool)}
  (hR:R C.toCtx F g s w)(he:∀x a,ρ x=some a->Rz g a (ev x))(h:cJ C (.indexAddr t x i) ρ K) :
  OutS C F g s K ((execOp ev ⟨dst,.indexAddr t x i,ty,pos,after,gd⟩).run C.P w):=by
 simp only[cJ]at h;split at h
 .rename_i a k n ti ha hi b5;have z:=(he i _ hi).int_inv;obtain⟨d,hd,y⟩:=iL b5;simp only[execOp];split at h
  .rename_i e hk;rw[hk]at y;simp only[TK.ok]at y;subst y;split at h
   .rename_i tk es;split at h
    .rename_i H u;obtain⟨⟨S,M⟩,h⟩:=h;have b0:es[n.toNat]?=some es[n.toNat]:=dI M;rw[b0]at h;obtain⟨b1,O⟩:=h;obtain⟨ad,cap,G,hm,U,_,hr⟩:=(he x _ ha).list_inv;rcases hr with rfl|⟨b,off,sz,pre,rfl,hp,hl,hs,B,hr⟩
     .simp at M
     .have Z:H.sz=sz:=by rw[<-b1,hs _ (kF M)]
      refine eQ (v:=.pointer (some ⟨b,off+n.toNat * sz,none⟩)) hR ?_ ?_ O
      .have hn:n<(es.length:Int):=by omega
       simp only[Instr.indexAt,z,asIntOf,bN,cG,bM,dN hd,G,S,hn,sJ,↓reduceIte,lF u,kQ,Z]
      .have hb:n.toNat * sz+sz<=es.length * sz:=by
        have:(n.toNat+1) * sz<=es.length * sz:=rH _ M
        rwa[gO,Nat.one_mul]at this
       have:=Rz.eptr (g:=g) es[n.toNat].cells 0 b (off+n.toNat * sz) pre hp (by rw[b1,Z];omega) (λc U=>B _ (kF M) c U)
        (λj c v U G=>hr n.toNat _ j c v b0 U G)
       simpa using this
    .exact h.elim
   .rename_i b off m;split at h
    .rename_i H u;obtain⟨⟨S,M⟩,O⟩:=h;obtain⟨k,cap,G,hb,U,hm⟩:=(he x _ ha).ml_inv;refine eQ (v:=.pointer (some ⟨k,off+n.toNat * H.sz,none⟩)) hR ?_ (.ptr b _ k hb) O;have hn:n<(m:Int):=by omega
     simp only[Instr.indexAt,z,asIntOf,bN,cG,bM,dN hd,G,S,hn,sJ,↓reduceIte,lF u,kQ]
    .exact h.elim
   .rename_i b m _;split at h
    .rename_i H u;obtain⟨⟨S,M⟩,O⟩:=h;obtain⟨k,G,hb,U,hm⟩:=(he x _ ha).mg_inv;refine eQ (v:=.pointer (some ⟨k,0+n.toNat * H.sz,none⟩)) hR ?_ (by rw[iQ];exact .ptr b _ k hb) O;have hn:n<(m:Int):=by omega
     simp only[Instr.indexAt,z,asIntOf,bN,cG,bM,dN hd,G,S,hn,sJ,↓reduceIte,lF u,kQ]
    .exact h.elim
   .rename_i t' es sz;split at h
    .rename_i H u;obtain⟨⟨S,_⟩,O⟩:=h;obtain⟨b,cap,G,hl,U,_⟩:=(he x _ ha).pen_inv
     have b4:g.eta t' es.length=some (.slice (some ⟨b,0,none⟩) es.length cap):=by
      obtain⟨_,_,_,_,_,h5,_⟩:=hl.list_inv;exact h5 _ rfl
     refine eQ (v:=.pointer (some ⟨b,es.length * H.sz,none⟩)) hR ?_ (.rm t' es.length H.sz b cap b4 U) O;have hn:n<((es.length+1:Nat):Int):=by omega
     have b2:0<=n:=by omega
     have b3:n.toNat=es.length:=by omega
     simp only[Instr.indexAt,z,asIntOf,bN,cG,bM,dN hd,G,b2,hn,sJ,↓reduceIte,lF u,kQ,b3,iQ]
    .exact h.elim
   .exact h.elim
  .rename_i m e hk;rw[hk]at y;simp only[TK.ok]at y;subst y;split at h
   .rename_i cs o;split at h
    .rename_i H u;obtain⟨⟨S,M⟩,O⟩:=h;obtain⟨b,off,pre,G,hp,hl,B,hr⟩:=(he x _ ha).eptr_inv;refine eQ (v:=.pointer (some ⟨b,off+(o+n.toNat * H.sz),none⟩)) hR ?_ (.eptr cs _ b off pre hp hl B hr) O;simp only[Instr.indexAt,z,asIntOf,bN,cG,bM,dN hd,G,S,M,sJ,↓reduceIte,lF u,kQ,Instr.sureAddr,pure_bind,nY]
    .exact h.elim
   .exact h.elim
  .exact h.elim
 .exact h.elim
theorem aTs{t ty:TypeId}{x i:Operand}{dst:Option Tmp}{pos:String}{after:Array Edge}{gd:Option (Nat × Bool)}
  (O:R C.toCtx F g s w)(G:∀x a,ρ x=some a->Rz g a (ev x))(h:cJ C (.index t x i) ρ K) :
  OutS C F g s K ((execOp ev ⟨dst,.index t x i,ty,pos,after,gd⟩).run C.P w):=by
 simp only[cJ]at h;split at h
 .rename_i str k n ti S U z;have y:=(G i _ U).int_inv;have hv:=(G x _ S).str_inv;obtain⟨d,hd,m⟩:=iL z;simp only[execOp];split at h
  .rename_i Z;obtain⟨⟨M,B⟩,h⟩:=h;rw[Z]at m;simp only[TK.ok]at m;subst m;have u:str[n.toNat]?=some str[n.toNat]:=dI B;rw[u]at h;refine eQ (v:=.int .u8 str[n.toNat].toNat) O ?_ (.int _ _) h
   have H:(ByteArray.mk str.toArray)[n.toNat]?=some str[n.toNat]:=by
    have hs:n.toNat<(ByteArray.mk str.toArray).size:=by simpa [ByteArray.size]using B
    rw[getElem?_pos (ByteArray.mk str.toArray) n.toNat hs];rfl
   simp only[Instr.index,y,asIntOf,bN,cG,bM,dN hd,hv,M,↓reduceIte,H]
  .exact h.elim
 .exact h.elim
theorem aU5{c:Call}{ty:TypeId}{dst:Option Tmp}{pos:String}{after:Array Edge}{gd:Option (Nat × Bool)}
  (M:R C.toCtx F g s w)(H:∀x a,ρ x=some a->Rz g a (ev x))(h:cJ C (.call c) ρ K) :
  OutS C F g s K ((execOp ev ⟨dst,.call c,ty,pos,after,gd⟩).run C.P w):=by
 obtain⟨b1,args,O⟩:=c;obtain⟨args⟩:=args;obtain⟨O⟩:=O;simp only[cJ]at h;split at h
 .rename_i x t;split at h
  .rename_i a ti G U;obtain⟨d,hd,B⟩:=iL U;split at h
   .rename_i hk;rw[hk]at B;simp only[TK.ok]at B;subst B;cases a<;>simp only at h
    rename_i str;have m:=(H x _ G).str_inv;have e1:(ByteArray.mk str.toArray).size=str.length:=by simp[ByteArray.size]
    simp only[execOp,resolve,invoke,builtin,bN,cG,bM,lA,bX,dL,m];simp only[Builtin.len_,mP,mO,bN,dN hd,bM,cG,goInt,e1];exact OutS.val M (.int _ _) h
   .rename_i e hk;rw[hk]at B;simp only[TK.ok]at B;subst B;cases a<;>simp only[nA]at h
    .have m:=(H x _ G).nils_inv;simp only[execOp,resolve,invoke,builtin,bN,cG,bM,lA,bX,dL,m];simp only[Builtin.len_,mP,mO,bN,dN hd,bM,cG,goInt];exact OutS.val M (.int _ _) h
    .obtain⟨ad,cap,m,_⟩:=(H x _ G).list_inv;simp only[execOp,resolve,invoke,builtin,bN,cG,bM,lA,bX,dL,m];simp only[Builtin.len_,mP,mO,bN,dN hd,bM,cG,goInt];exact OutS.val M (.int _ _) h
    rotate_left
    .obtain⟨a,m⟩:=(H x _ G).emp_inv;simp only[execOp,resolve,invoke,builtin,bN,cG,bM,lA,bX,dL,m];simp only[Builtin.len_,mP,mO,bN,dN hd,bM,cG,goInt];exact OutS.val M (.int _ _) h
    .obtain⟨k,m,_⟩:=(H x _ G).mg_inv;simp only[execOp,resolve,invoke,builtin,bN,cG,bM,lA,bX,dL,m];simp only[Builtin.len_,mP,mO,bN,dN hd,bM,cG,goInt];exact OutS.val M (.int _ _) h
    .obtain⟨k,cap,m,_⟩:=(H x _ G).ml_inv;simp only[execOp,resolve,invoke,builtin,bN,cG,bM,lA,bX,dL,m];simp only[Builtin.len_,mP,mO,bN,dN hd,bM,cG,goInt];exact OutS.val M (.int _ _) h
   .exact h.elim
  .exact h.elim
 .rename_i x;split at h
  .rename_i tk y ys G;obtain⟨ad,cap,m,hm,hc,_,hh⟩:=(H x _ G).list_inv;have hr:=H x _ G;rw[m]at hr;rcases hh with hh|⟨S,off,sz,pre,rfl,_⟩
   .cases hh
   have b0:cap≠0:=by simp at hc;omega
   simp only[execOp,resolve,invoke,builtin,bN,cG,bM,lA,bX,dL,m]
   have Z:(Builtin.unsafeSliceData_ ⟨O⟩ ty #[.slice (some ⟨S,off,none⟩) (y::ys).length cap]).run C.P w=.ok (.pointer (some ⟨S,off,none⟩)) w:=by
    have e1:Builtin.unsafeSliceData_ ⟨O⟩ ty #[.slice (some ⟨S,off,none⟩) (y::ys).length cap]=(if cap≠0 then pure (.pointer (some ⟨S,off,none⟩))
     else do if(<-viewAt S).isSome then pure (.pointer (some ⟨S,off,none⟩)) else pure (.pointer (some ⟨<-newObj (.view ⟨S,off,none⟩ (<-elemOf ty)),0,none⟩))):=rfl
    rw[e1,aF b0];rfl
   rw[Z];exact OutS.val M (.sd tk _ _ cap b0 hr) h
  .rename_i G;have m:=(H x _ G).nils_inv;simp only[execOp,resolve,invoke,builtin,bN,cG,bM,lA,bX,dL,m];have Z:(Builtin.unsafeSliceData_ ⟨O⟩ ty #[.slice none 0 0]).run C.P w=.ok (.pointer none) w:=rfl;rw[Z];exact OutS.val M .nilp h
  .exact h.elim
 .rename_i x t;split at h
  .rename_i ti G U;split at h
   .rename_i e hk;obtain⟨d,hd,B⟩:=iL U;rw[hk]at B;simp only[TK.ok]at B;subst B;have m:=(H x _ G).nils_inv;simp only[execOp,resolve,invoke,builtin,bN,cG,bM,lA,bX,dL,m];have Z:(Builtin.cap_ ⟨[t]⟩ ty #[.slice none 0 0]).run C.P w=.ok (.int .i64 0) w:=by simp[Builtin.cap_,goInt,dN hd]
    rw[Z];exact OutS.val M (.int _ _) h
   .exact h.elim
  .exact h.elim
 .rename_i x y;split at h
  .rename_i j a k b G hy;have m:=(H x _ G).int_inv;have hu:=(H y _ hy).int_inv;simp only[execOp,resolve,invoke,builtin,bN,cG,bM,lA,bX,dL,m,hu];simp only[Builtin.max_,List.foldlM_cons,List.foldlM_nil,Builtin.max2,bN,cG,bM,pure_bind];exact OutS.val M (.int _ _) h
  .exact h.elim
 .rename_i x y;split at h
  .rename_i j a k b G hy;have m:=(H x _ G).int_inv;have hu:=(H y _ hy).int_inv;simp only[execOp,resolve,invoke,builtin,bN,cG,bM,lA,bX,dL,m,hu];simp only[Builtin.min_,List.foldlM_cons,List.foldlM_nil,Builtin.min2,bN,cG,bM,pure_bind];exact OutS.val M (.int _ _) h
  .exact h.elim
 .rename_i x y z u;split at h
  .rename_i j a k b k2 c k3 d G hy hz hu;have v1:=(H x _ G).int_inv;have v2:=(H y _ hy).int_inv;have v3:=(H z _ hz).int_inv;have v4:=(H u _ hu).int_inv;simp only[execOp,resolve,invoke,builtin,bN,cG,bM,lA,bX,dL,v1,v2,v3,v4];simp only[Builtin.max_,List.foldlM_cons,List.foldlM_nil,Builtin.max2,bN,cG,bM,pure_bind];exact OutS.val M (.int _ _) h
  .exact h.elim
 .exact h.elim
end
end
section
section
variable {C:Cx} {F:Fr} {g:Gh} {s:St} {w:World} {K:A->Prop} {ρ:Operand->Option A} {ev:Operand->Value}
theorem uD{op:Op}{ty:TypeId}{dst:Option Tmp}{pos:String}{after:Array Edge}{gd:Option (Nat × Bool)}
  (H:R C.toCtx F g s w)(G:∀x a,ρ x=some a->Rz g a (ev x))(h:cJ C op ρ K) :
  OutS C F g s K ((execOp ev ⟨dst,op,ty,pos,after,gd⟩).run C.P w):=by
 cases op
 case move x =>
  simp only[cJ]at h;split at h
  .rename_i v M;exact OutS.val H (G x v M) h
  .exact h.elim
 case assign x =>
  simp only[cJ]at h;split at h
  .rename_i v M;exact OutS.val H (G x v M) h
  .exact h.elim
 case pick c a b =>
  simp only[cJ]at h;split at h
  .rename_i U;split at h
   .rename_i v M;simp only[execOp,bN,cG,(G c _ U).bool_inv,asBool,bM,↓reduceIte];exact OutS.val H (G a v M) h
   .exact h.elim
  .rename_i U;split at h
   .rename_i v M;simp only[execOp,bN,cG,(G c _ U).bool_inv,asBool,bM,dA,↓reduceIte];exact OutS.val H (G b v M) h
   .exact h.elim
  .exact h.elim
 case binOp=>exact aTz H G h
 case unOp op t x =>
  simp only[cJ]at h;split at h
  .rename_i a ha;split at h
   .rename_i v M;simp only[execOp];unfold unA at M;split at M<;>simp only[bV,reduceCtorEq]at M<;>subst M
    .exact eQ H (by simp[Op.unary,(G x _ ha).bool_inv]) (.bool _) h
    .exact eQ H (by simp[Op.unary,Op.intArith,(G x _ ha).int_inv]) (.int _ _) h
    .refine eQ H ?_ (.int _ _) h;rw[(G x _ ha).int_inv];simp only[Op.unary,Op.intBits,cG]
   .exact h.elim
  .exact h.elim
 case nilCheck x =>
  simp only[cJ]at h;split at h
  .rename_i b o S;obtain⟨k,M,hb⟩:=(G x _ S).ptr_inv;simp only[execOp,M];exact OutS.val H (.ptr b o k hb) h
  .rename_i cs o S;have M:=G x _ S;obtain⟨b,off,pre,e,_⟩:=M.eptr_inv;simp only[execOp,e];rw[e]at M;exact OutS.val H M h
  .exact h.elim
 case fieldAddr=>exact aPi H G h
 case field=>exact aUa H G h
 case typeAssert x xt t ok =>
  cases ok
  .simp only[cJ]at h
  .simp only[cJ]at h;split at h
   .rename_i u v ti S b7;split at h
    .rename_i fs hk;obtain⟨rfl,h⟩:=h;obtain⟨b2,hu,_⟩:=aDv b7 hk;obtain⟨y,M,hr⟩:=(G x _ S).iface_inv;simp only[execOp];refine eQ (v:=.tuple #[y,.bool true]) H ?_ (.tuple [v,.bool true] [y,.bool true] rfl λj c z U hz=>?_) h
     .simp[Instr.typeAssert,dN hu,M]
     ·match j with
      | 0=>simp at U hz;subst U;subst hz;exact hr
      | 1=>simp at U hz;subst U;subst hz;exact .bool _
      | _+2=>simp at U
    .exact h.elim
   .exact h.elim
 case extract x i =>
  simp only[cJ]at h;split at h
  .rename_i vs S;split at h
   .rename_i v M;obtain⟨us,e,hr⟩:=(G x _ S).tuple_inv;obtain⟨u,hu,bj⟩:=hr.get M;simp only[execOp];exact eQ H (by simp[Instr.extract,e,hu]) bj h
   .exact h.elim
  .exact h.elim
 case makeInterface t x =>
  simp only[cJ]at h;split at h
  .rename_i a ti ha b7;obtain⟨d,hd,O⟩:=iL b7
   have hn:(∀ms,d≠.interface ms)/\K (.iface t a):=by
    cases hk:ti.k<;>rw[hk]at h O<;>simp only[TK.ok]at O<;>simp only at h
    all_goals first
     | (subst O;exact⟨by simp,h⟩)
     | (obtain⟨b2,rfl,_⟩:=O;exact⟨by simp,h⟩)
     | exact⟨O.2,h⟩
   simp only[execOp];refine eQ H (v:=.iface t (ev x)) ?_ (.iface t a _ (G x a ha)) hn.2;simp only[Instr.makeInterface,bN,dN hd,bM];cases d<;>first|rfl|exact cV rfl (hn.1 _)
  .exact h.elim
 case makeFunc fn first b8 =>
  simp only[cJ]at h;cases fn<;>simp only at h
  rename_i f;split at h
  .rename_i l m hl hm;simp only[execOp];have r1:=aDL G hl;have r2:=aDL G hm;obtain⟨fl⟩:=first
   obtain⟨cl⟩:=b8;exact eQ H (v:=.func (.func f) (fl.map ev).toArray (cl.map ev).toArray) (by simp[Instr.makeFunc]) (.fn f l m _ _ r1.1 r2.1 r1.2 r2.2) h
  .exact h.elim
 case convert a b x =>
  simp only[cJ]at h;split at h
  .rename_i k n ta tb S b5 b6;obtain⟨d,hd,O⟩:=iL b5;obtain⟨d',b3,B⟩:=iL b6;split at h
   .rename_i k' hk;rw[hk]at B;simp only[TK.ok]at B;subst B;simp only[execOp];refine eQ H ?_ (.int _ _) h;simp only[convert,bN,dN hd,dN b3,bM,(G x _ S).int_inv,Conv.intToInt];cases d<;>rfl
   .exact h.elim
  .rename_i str ta tb S b5 b6;obtain⟨d,hd,O⟩:=iL b5;obtain⟨d',b3,B⟩:=iL b6;split at h
   .rename_i hk;rw[hk]at B;simp only[TK.ok]at B;subst B;simp only[execOp];refine eQ H (v:=.string ⟨str.toArray⟩) ?_ (.str _) h;simp only[convert,bN,dN hd,dN b3,bM,(G x _ S).str_inv];cases d<;>rfl
   .rename_i e hk;rw[hk]at B;simp only[TK.ok]at B;subst B;split at h
    .rename_i te bf bk;rw[bf]at O;simp only[TK.ok]at O;subst O;split at h
     .rename_i bg;obtain⟨h1,h2,h⟩:=h;obtain⟨d2,bd,b0⟩:=iL bk;rw[bg]at b0;simp only[TK.ok]at b0;subst b0;simp only[execOp,(G x _ S).str_inv];rw[yS,run_bytes_of_string w a b e _ hd b3 bd];have b4:=grownCap_ge w (ByteArray.mk str.toArray).size 0 e;have b9:(ByteArray.mk str.toArray).size=str.length:=by simp[ByteArray.size]
      rw[b9]at b4⊢;have bc:=grownCap_le_maxLen w str.length 0 e h2
      have b1:∃rest,(bytesRow ⟨str.toArray⟩ (grownCap w str.length 0 e))=((str.map λc=>Value.int .u8 c.toNat)++rest).toArray :=
       ⟨List.replicate (grownCap w str.length 0 e-str.length) (.int .u8 0),by simp[bytesRow,b9]⟩
      obtain⟨rest,b1⟩:=b1;rw[b1]
      obtain⟨bb,bh⟩:=R.newRow (w:=w.drew) (H.heap rfl) (str.map λc=>Value.int .u8 c.toNat) e rest
       ((((str.map λc=>Value.int .u8 c.toNat)++rest).toArray).size,(((str.map λc=>Value.int .u8 c.toNat)++rest).toArray).size+1)
      refine⟨_,_,bh,bb,?_,h⟩
      have:=Rz.list (g:=g.know w.drew.heap.size (str.map λc=>Value.int .u8 c.toNat)) none (str.map λc=>A.int .u8 c.toNat) w.drew.heap.size 0 1 (grownCap w str.length 0 e)
       (str.map λc=>Value.int .u8 c.toNat) (by simp[Gh.know]) bA (gQ b4) bc
       (λy Z=>by simp only[cN]at Z;obtain⟨c,_,rfl⟩:=Z;rfl)
       (λy Z z hz=>by simp only[cN]at Z;obtain⟨c,_,rfl⟩:=Z;simp[A.cells]at hz;subst hz;rfl)
       (fun i y j z v Z hz M => by
        rw[nH]at Z;cases U:str[i]? with
        | none=>rw[U]at Z;cases Z
        | some c =>
         rw[U]at Z;simp only[lL,bV]at Z;subst Z;cases j with
         | zero =>
          simp[A.cells]at hz;subst hz;simp[U]at M;subst M;exact .int _ _
         | succ j=>simp[A.cells]at hz)
       bA
      simpa using this
     .exact h.elim
    .exact h.elim
   .exact h.elim
  .exact h.elim
 case build=>exact aTC H G h
 case buildSlice=>exact aOt H G h
 case load t x =>
  simp only[cJ]at h;split at h
  .rename_i cs o S;split at h
   .rename_i v M;obtain⟨u,hu,hr⟩:=aQF H M (G x _ S);exact eQ H hu hr h
   .exact h.elim
  .exact h.elim
 case slice=>exact aTB H G h
 case indexAddr=>exact aPf H G h
 case index=>exact aTs H G h
 case call=>exact aU5 H G h
 all_goals (simp only[cJ]at h)
def sX(C:Cx)(s:St)(o:Ob)(f:Nat->A)(KV:St->A->Prop):Prop:=match C.det with
 | false=>∀b,s.getO b=none->KV (s.setO b o) (f b)
 | true=>KV (s.newO o) (f s.lim)
def aEM(C:Cx)(s:St)(t:TypeId)(cs:List A)(KV:St->A->Prop):Prop:=sX C s (.cells t cs) (λb=>.ptr b 0) KV
def newT(C:Cx)(s:St)(n:Nat)(e:TypeId)(ys:List A)(KV:St->A->Prop):Prop:=match C.det with
 | false=>∀t,s.getT t=none->KV (s.setT t (n,e)) (.list (some t) ys)
 | true=>KV (s.newT (n,e)) (.list (some s.lim) ys)
def aEy(s:St)(n:Nat)(e:TypeId)(sz:Nat)(cs:List A)(KV:St->A->Prop):Prop :=
 ∀(b cap:Nat) (J:List A),s.getO b=none->n<=cap->J.length=(cap-n) * sz->(∀c,c∈J->c.one=true)->KV (s.setO b (.cells e (cs++J))) (.mg b n cap)
def qA(C:Cx)(s:St)(n:Nat)(e:TypeId)(sz:Nat)(ys:List A)(KV:St->A->Prop):Prop:=match C.det with
 | true=>newT C s n e ys KV
 | false=>match Nat.beq C.mu 1 with
  | false=>newT C s n e ys KV
  | true=>0<n/\aEy s n e sz (eC ys) KV
def aCK(C:Cx):Bool:=match C.det with
 | true=>false
 | false=>Nat.beq C.mu 2
def aBb(C:Cx)(s:St)(t:TypeId)(KV:St->A->Prop)(a:A):Prop:=match a,C.tt t with
 | .list _ es,some h=>(match h.k with
  | .slice e=>∀k,s.getT k=none->KV (s.setT k (es.length,e)) (.list (some k) es)
  | _=>False)
 | _,_=>False
def vU(det:Bool)(s:St)(b n cap:Nat)(e:TypeId)(sz m:Nat)(ys:List A)(KV:St->A->Prop):Option Ob->Prop
 | some (.cells e' cs)=>(det=false/\e'=e/\cs.length=cap * sz/\n<=cap/\n+m<=4294967296/\0<m) /\
  ∀(u h:Nat) (J:List A),(u=b/\h=cap\/s.getO u=none)->n+m<=h->J.length=(h-(n+m)) * sz->(∀c,c∈J->c.one=true) ->
   KV (s.setO u (.cells e (cs.take (n * sz)++(eC ys++J)))) (.mg u (n+m) h)
 | _=>False
def aA7(C:Cx)(s:St)(n:Nat)(e:TypeId)(KV:St->A->Prop):Prop:=match C.det with
 | false=>∀t,s.getT t=none->KV (s.setT t (0,e)) (.gr t n)
 | true=>KV (s.newT (0,e)) (.gr s.lim n)
def vZ(C:Cx)(s:St)(n:Nat)(e:TypeId)(ys:List A)(sz:Nat)(KV:St->A->Prop):Prop:=match C.det with
 | false=>∀t,s.getT t=none->KV (s.setT t (n,e)) (.pen t ys sz)
 | true=>KV (s.newT (n,e)) (.pen s.lim ys sz)
def aAd(C:Cx)(s:St)(m:TI)(t u:TypeId)(z:A)(KV:St->A->Prop)(a:A):Prop:=match m.k with
 | .slice e=>match C.tt e with
  | some h=>(u=t/\h.sz≠0/\h.bytes<=32768/\z.cells.length=h.sz)/\(match a with
   | .nils=>vZ C s 0 e [] h.sz KV
   | .list tk es=>match tk with
    | some k=>(s.getT k=some (es.length,e)/\(∀y,y∈es->y.cells.length=h.sz)/\es.length+1<=4294967296)/\vZ C (s.delT k) es.length e es h.sz KV
    | none=>False
   | _=>False)
  | none=>False
 | _=>False
def uS(C:Cx)(s:St)(k n z:Nat)(u:TI)(v:A)(KV:St->A->Prop):Prop:=match s.getT k with
 | some (m,e)=>match C.tt e with
  | some h=>(m=n/\h.sz=z/\u.sz=z/\v.cells.length=z/\iF v.cells=true)/\KV ((s.setT k (n+1,e)).setL (some (k,n,v))) (.tuple [])
  | none=>False
 | none=>False
def aCH(t:Nat)(es:List A)(sz:Nat)(q:Nat × Nat × A):A:=if q.1=t/\q.2.1=es.length/\q.2.2.cells.length=sz then .list (some t) (es++[q.2.2]) else .pen t es sz
def jM(s:St):A->A
 | .pen t es sz=>match s.ls with
  | some q=>aCH t es sz q
  | none=>.pen t es sz
 | a=>a
def gS(bs:List UInt8):List A:=bs.map λc=>.int .u8 c.toNat
def aEN(C:Cx)(m:TI)(u:TypeId):Option TypeId:=match m.k with
 | .slice e=>match C.tt u,C.tt e with
  | some y,some h=>match y.k with
   | .string=>match h.k with
    | .int .u8=>if h.sz=1/\h.bytes=1 then some e else none
    | _=>none
   | _=>none
  | _,_=>none
 | _=>none
def aA9(C:Cx)(s:St)(e:TypeId)(bs:List UInt8)(KV:St->A->Prop):A->Prop
 | .nils=>bs.length<=4294967296/\newT C s bs.length e (gS bs) KV
 | .list (some t) es=>(s.getT t=some (es.length,e)/\(∀y,y∈es->y.cells.length=1)/\es.length+bs.length<=4294967296) /\
   KV (s.setT t (es.length+bs.length,e)) (.list (some t) (es++gS bs))
 | _=>False
def rD(C:Cx)(s:St)(e:TypeId)(h:TI)(ys:List A)(KV:St->A->Prop):A->Prop
 | .nils=>ys.length<=4294967296/\qA C s ys.length e h.sz ys KV
 | .emp=>match ys with
  | []=>KV s .emp
  | y::r=>((y::r).length<=4294967296/\0<(y::r).length)/\qA C s (y::r).length e h.sz (y::r) KV
 | .mg b n cap=>vU C.det s b n cap e h.sz ys.length ys KV (s.getO b)
 | .list (some t) es=>s.getT t=some (es.length,e)/\(∀y,y∈es->y.cells.length=h.sz)/\es.length+ys.length<=4294967296 /\
   KV (s.setT t (es.length+ys.length,e)) (.list (some t) (es++ys))
 | .full es=>(0<ys.length/\(∀y,y∈es->y.cells.length=h.sz)/\es.length+ys.length<=4294967296)/\newT C s (es.length+ys.length) e (es++ys) KV
 | _=>False
def aAb(C:Cx)(s:St)(h:TI)(t u:TypeId)(KV:St->A->Prop)(a:A):Prop:=match h.k with
 | .slice e=>match C.tt e with
  | some _=>u=t/\(match a with
   | .nils=>KV s .nils
   | .emp=>KV s .emp
   | .list tk es=>KV s (.list tk es)
   | .ml b o n=>KV s (.ml b o n)
   | _=>False)
  | none=>False
 | _=>False
def uM(C:Cx)(s:St)(m:TI)(u:TypeId)(n:Int)(KV:St->A->Prop):A->Prop
 | .nils=>match m.k with
  | .slice e=>match C.tt e,C.tt u with
   | some h,some y=>match y.k with
    | .int _=>(0<n/\n<=4294967296/\h.sz≠0/\h.bytes<=32768)/\aA7 C s n.toNat e KV
    | _=>False
   | _,_=>False
  | _=>False
 | _=>False
def aVD(C:Cx)(s:St)(x:List UInt8)(KV:St->A->Prop):Prop:=sX C s (.iter x 0) (λb=>.ptr b 0) KV
def aEl(s:St)(b:Nat)(x:List UInt8)(pos:Nat)(KV:St->A->Prop):Prop :=
 if pos<x.length then KV (s.setO b (.iter x (pos+(Utf8.decode ⟨x.toArray⟩ pos).2))) (.tuple [.bool true,.int .i64 pos,.int .i32 (Utf8.decode ⟨x.toArray⟩ pos).1])
 else KV s (.tuple [.bool false])
def zA(h:TI):A:=match h.k.agg with
 | true=>.agg h.zero
 | false=>h.zero.headD .nilp
def lkV(ok:Bool)(h:TI)(r:Option A):A:=match ok with
 | true=>match r with
  | some v=>.tuple [v,.bool true]
  | none=>.tuple [zA h,.bool false]
 | false=>match r with
  | some v=>v
  | none=>zA h
def aEF(C:Cx)(s:St)(t:TypeId)(KV:St->A->Prop):Prop:=match C.tt t with
 | some h=>match h.k with
  | .map _ kd=>sX C s (.map kd []) (λb=>.mp b) KV
  | _=>False
 | none=>False
def zM(C:Cx)(s:St)(t:TypeId)(ok:Bool)(b:Nat)(a:A):Option A:=match C.tt t with
 | some u=>match u.k with
  | .map e kd=>match s.getO b with
   | some (.map h es)=>match mkA kd a,C.tt e,Nat.beq h kd with
    | some mk,some m,true=>some (lkV ok m (jP mk es))
    | _,_,_=>none
   | _=>none
  | _=>none
 | none=>none
theorem aQC{C:Cx}{s:St}{t:TypeId}{ok:Bool}{b:Nat}{a v:A}(h:zM C s t ok b a=some v) :
  ∃u e kd es mk m,C.tt t=some u/\u.k=.map e kd/\s.getO b=some (.map kd es)/\mkA kd a=some mk/\C.tt e=some m/\v=lkV ok m (jP mk es):=by
 unfold zM at h;split at h<;>try cases h
 rename_i u G;split at h<;>try cases h
 rename_i e kd O;split at h<;>try cases h
 rename_i H es M;split at h<;>try cases h
 rename_i mk m z B y;obtain rfl:=sB y;exact⟨u,e,H,es,mk,m,G,O,M,z,B,rfl⟩
def aAa(C:Cx)(s:St)(t:TypeId)(ok:Bool)(b:Nat)(a:A)(KV:St->A->Prop):Prop:=match zM C s t ok b a with
 | some v=>KV s v
 | none=>False
def aA6(C:Cx)(s:St)(t:TypeId)(b:Nat)(a v:A)(KV:St->A->Prop):Prop:=match C.tt t with
 | some m=>match m.k,s.getO b with
  | .map _ kd,some (.map h es)=>match mkA kd a with
   | some mk=>h=kd/\KV (s.setO b (.map kd (lK mk v es))) (.tuple [])
   | none=>False
  | _,_=>False
 | none=>False
def bF(C:Cx)(op:Op)(ρ:Operand->Option A)(KV Kp:St->A->Prop)(s:St):Prop :=
 match op with
 | .load t x=>match ρ x with
  | some (.ptr b o)=>match s.getO b with
   | some (.cells _ cs)=>match uK C t cs o with
    | some v=>KV s v
    | none=>False
   | _=>False
  | _=>cJ C (.load t x) ρ (KV s)
 | .store t x y=>match ρ x,ρ y,C.tt t with
  | some (.ptr b o),some v,some h=>match s.getO b with
   | some (.cells e cs)=>((jM s v).cells.length=h.sz/\o+(jM s v).cells.length<=cs.length/\iF (jM s v).cells=true)/\KV (s.setO b (.cells e (pJ cs o (jM s v).cells))) (.tuple [])
   | _=>False
  | some (.rm k n z),some v,some h=>uS C s k n z h v KV
  | _,_,_=>False
 | .alloc t=>match C.tt t with
  | some h=>aEM C s t h.zero KV
  | none=>False
 | .buildSlice t len B=>match aCK C with
  | false=>cJ C (.buildSlice t len B) ρ (KV s)
  | true=>cJ C (.buildSlice t len B) ρ (KV s)\/cJ C (.buildSlice t len B) ρ (aBb C s t KV)
 | .box t x=>match ρ x with
  | some v=>iF v.cells=true/\aEM C s t v.cells KV
  | none=>False
 | .convert a b x=>match ρ x with
  | some (.ptr k 0)=>match s.getO k,C.cv a b with
   | some (.cells e cs),some e'=>match C.tt e' with
    | some G=>((e=e'\/C.cw e=some e')/\G.sz<=cs.length)/\KV s (.ptr k 0)
    | none=>False
   | _,_=>False
  | _=>cJ C (.convert a b x) ρ (KV s)
 | .makeSlice t l c=>match ρ l,ρ c,C.tt t with
  | some (.int _ n),some (.int _ m),some h=>match h.k with
   | .slice e=>match C.tt e with
    | some G=>(n=m/\0<n/\G.sz=1/\G.bytes * n.toNat<=281474976710656/\n<=4294967296)/\sX C s (.cells e (List.replicate n.toNat G.zero).flatten) (λb=>.ml b 0 n.toNat) KV
    | none=>False
   | _=>False
  | _,_,_=>False
 | .panic x=>match ρ x with
  | some (.iface t a)=>Kp s (.iface t a)
  | _=>False
 | .range t x=>match ρ x,C.tt t with
  | some (.str x),some h=>match h.k with
   | .string=>aVD C s x KV
   | _=>False
  | _,_=>False
 | .next x true=>match ρ x with
  | some (.ptr b 0)=>match s.getO b with
   | some (.iter x pos)=>aEl s b x pos KV
   | _=>False
  | _=>False
 | .call c=>match c.callee with
  | .value f=>match ρ f,mY ρ c.args.toList with
   | some (.fn f first H),some az=>Den C f (first++az++H) KV Kp s
   | _,_=>False
  | .builtin .append=>match c.args.toList,c.argTypes.toList with
   | [x,y],[t,u]=>match ρ x,ρ y,C.tt t with
    | some a,some (.list _ ys),some h=>match h.k with
     | .slice e=>match C.tt e with
      | some G=>(u=t/\G.sz≠0/\G.bytes<=32768)/\(∀y,y∈ys->y.cells.length=G.sz)/\rD C s e G ys KV a
      | none=>False
     | _=>False
    | some a,some (.str bs),some h=>match aEN C h u with
     | some e=>aA9 C s e bs KV a
     | none=>False
    | some a,some (.int .i64 n),some h=>uM C s h u n KV a
    | some a,some .nils,some h=>aAb C s h t u KV a
    | some a,some .emp,some h=>aAb C s h t u KV a
    | some a,some (.hl z),some h=>aAd C s h t u z KV a
    | _,_,_=>False
   | _,_=>False
  | .builtin .unsafeString=>match c.args.toList,c.argTypes.toList with
   | [p,n],[M,_]=>match ρ p,ρ n with
    | some .nilp,some (.int .i64 n)=>n=0/\KV s (.str [])
    | some (.sd (some t) es),some (.int .i64 n)=>match C.us M with
     | some e=>(n=es.length/\s.getT t=some (es.length,e))/\∃bs,es=gS bs/\KV (s.delT t) (.str bs)
     | none=>False
    | _,_=>False
   | _,_=>False
  | .builtin .panic=>match c.args.toList with
   | [x]=>match ρ x with
    | some (.iface t a)=>Kp s (.iface t a)
    | _=>False
   | _=>False
  | _=>cJ C (.call c) ρ (KV s)
 | .binOp .eql t x y ty=>match ρ x,ρ y with
  | some (.list _ []),some .nils=>cJ C (.binOp .eql t x y ty) ρ (KV s)\/(C.nl t=true/\KV s (.bool true)/\KV s (.bool false))
  | _,_=>cJ C (.binOp .eql t x y ty) ρ (KV s)
 | .makeMap t none=>aEF C s t KV
 | .lookup t x k ok=>match ρ x,ρ k with
  | some (.mp b),some a=>aAa C s t ok b a KV
  | _,_=>False
 | .mapUpdate t x k y=>match ρ x,ρ k,ρ y with
  | some (.mp b),some a,some v=>aA6 C s t b a v KV
  | _,_,_=>False
 | op=>cJ C op ρ (KV s)
theorem qT{KV Kp:St->A->Prop}{r:Result Next}(h:OutS C F g s (KV s) r):OutV C F g KV Kp r:=by
 cases r with
 | ok n w=>cases n<;>simp only[OutS]at h;obtain⟨m,a,u,y,z,B⟩:=h;exact⟨m,a,s,u.le,y,z,B⟩
 | halt G w=>simp only[OutS]at h
theorem aGD(x:Sem Unit)(P:Program)(w:World):((do x;pure Next.skip):Sem Next).run P w=(x.run P w).andThen λ_ w'=>.ok .skip w':=by
 simp
theorem R.cellsOf(z:R C.toCtx F g s w){b:Nat}{e:TypeId}{cs:List A}(B:s.getO b=some (.cells e cs)) :
  ∃k vs rest,g.beta b=some k/\w.heap[k]?=some (.cells (vs++rest).toArray e)/\Rzs g cs vs/\∀c,c∈cs->c.one=true:=by
 obtain⟨k,h,⟨vs,rest,m,u,y⟩,_⟩:=z.obj b _ B;exact⟨k,vs,rest,h,m,u,y⟩
theorem aU2{KV Kp:St->A->Prop}{t ty:TypeId}{x:Operand}{dst:Option Tmp}{pos:String}{after:Array Edge}{gd:Option (Nat × Bool)}
  (hR:R C.toCtx F g s w)(he:∀x a,ρ x=some a->Rz g a (ev x))(h:bF C (.load t x) ρ KV Kp s) :
  OutV C F g KV Kp ((execOp ev ⟨dst,.load t x,ty,pos,after,gd⟩).run C.P w):=by
 simp only[bF]at h;split at h
 .rename_i b o hx;split at h
  .rename_i e cs hb;split at h
   .rename_i v m;obtain⟨k,vs,rest,b0,hh,M,Z⟩:=hR.cellsOf hb;obtain⟨k',hp,y⟩:=(he x _ hx).ptr_inv;rw[b0]at y;cases y
    have cell:∀j u,vs[j]?=some u->w.cell? ⟨k,j,none⟩=some u:=by
     intro j u z;simp only[World.cell?,hh,kZ,dA,↓reduceIte,mP];rw[kE (dZ.1 z).1];exact z
    refine qT (s:=s) (KV:=KV) ?_;simp only[execOp,hp];simp only[uK]at m;split at m
    .rename_i S O;split at m
     .rename_i G;split at m
      .rename_i b1;simp only[bV]at m;subst m
       have hc:∀j v,((vs.drop o).take S.sz)[j]?=some v->w.cell? ((⟨k,o,none⟩:Addr).add j)=some v:=by
        intro j v z;rw[mS]at z;split at z
        .rw[mR]at z;rw[kQ,cell _ _ z]
        .simp at z
       have H:((vs.drop o).take S.sz).length=S.sz:=by
        have:=M.1;rw[dT,dS];omega
       have B:=run_loadCells_list (P:=C.P) w ⟨k,o,none⟩ _ hc;rw[H]at B;have hq:=(M.drop o).take S.sz;refine eQ (v:=.agg ((vs.drop o).take S.sz).toArray) hR ?_ (.agg _ _ hq.1 (λc hc=>Z c (uW (qG hc))) hq.2) h;simp only[Instr.loadAt,Instr.sureAddr,loadVar,bN,cG,bM,aAM O,G,↓reduceIte,lF O,B]
      .simp at m
     .rename_i G;obtain⟨u,hu,hr⟩:=M.get m;have U:S.k.agg=false:=gQ G;refine eQ (v:=u) hR ?_ hr h;simp only[Instr.loadAt,Instr.sureAddr,loadVar,bN,cG,bM,aAM O,U,dA,↓reduceIte,run_load,cell _ _ hu]
    .simp at m
   .exact h.elim
  .exact h.elim
 .exact qT (uD hR he h)
theorem aAi{w:World}{b:Nat}{vs:Array Value}{e:TypeId}{fr:Nat × Nat}(h:w.heap[b]?=some (.cells vs e fr))(us:Array Value):(w.setRow b us).heap[b]?=some (.cells us e fr):=setRow_heap w b vs us e fr h
theorem aAt{w:World}{b k:Nat}(h:k≠b)(us:Array Value):(w.setRow b us).heap[k]?=w.heap[k]?:=by
 have:¬ b=k:=λe=>h e.symm
 simp[World.setRow,Array.getElem?_modify,this]
theorem aRk{KV Kp:St->A->Prop}{a b ty:TypeId}{x:Operand}{dst:Option Tmp}{pos:String}{after:Array Edge}{gd:Option (Nat × Bool)}
  (B:R C.toCtx F g s w)(O:∀x a,ρ x=some a->Rz g a (ev x))(h:bF C (.convert a b x) ρ KV Kp s) :
  OutV C F g KV Kp ((execOp ev ⟨dst,.convert a b x,ty,pos,after,gd⟩).run C.P w):=by
 simp only[bF]at h;split at h
 .rename_i k0 hx;split at h
  .rename_i e cs e' hb hcv;split at h
   .rename_i te M;obtain⟨⟨G,b0⟩,Z⟩:=h;obtain⟨k,vs,rest,y,S,H,U⟩:=B.cellsOf hb;have hr:=O x _ hx;obtain⟨k',hp,m⟩:=hr.ptr_inv;rw[y]at m;cases m;have hcs:=C.hcs a b e' hcv;rw[M]at hcs;simp only[lL,bV]at hcs;have u:C.P.cellsOf e'<=(vs++rest).toArray.size:=by rw[<-hcs];have:=H.1;simp;omega
    have z:(convert a b (.pointer (some ⟨k,0,none⟩))).run C.P w=.ok (.pointer (some ⟨k,0,none⟩)) w:=by
     rcases G with rfl|hw
     .exact C.hcv a b e hcv w k (vs++rest).toArray S u
     .exact C.hcw a b e' e hcv hw w k (vs++rest).toArray S u
    refine qT (s:=s) (KV:=KV) ?_;simp only[execOp,hp];exact eQ B z (.ptr k0 0 k y) Z
   .exact h.elim
  .exact h.elim
 .exact qT (uD B O h)
theorem aEc{KV Kp:St->A->Prop}{o:Obj}{ob:Ob}{v:Value}{f:Nat->A}{x:Sem Value}(u:R C.toCtx F g s w)(ho:ObRz g ob (some o))
  (z:∀y b,y.beta b=some w.heap.size->Rz y (f b) v)
  (B:x.run C.P w=.ok v (w.alloc o))(m:sX C s ob f KV) :
  OutV C F g KV Kp (((do let v <-x;pure (Next.value v)):Sem Next).run C.P w):=by
 rw[yS,B];unfold sX at m;cases hd:C.det with
 | false =>
  rw[hd]at m;obtain⟨b,h⟩:=u.some_free;exact⟨_,_,_,aAB h _,u.newObj ho h (s':=s.setO b ob) (λq=>aL s b ob q) (λq=>rfl) rfl (by show C.det=true->_;rw[hd];simp),z _ b (by simp[Gh.bx]),m b (u.free h)⟩
 | true =>
  rw[hd]at m;have h:=(u.dtm hd s.lim (bJ _)).1;exact⟨_,_,_,aAB h _,u.newObj ho h (s':=s.newO ob) (λq=>aIA s ob q) (λq=>rfl) rfl (λ_=>⟨Nat.le_succ _,fZ _⟩),z _ s.lim (by simp[Gh.bx]),m⟩
theorem aKX{KV Kp:St->A->Prop}{t:TypeId}{v:Value}{cs:List A}{x:Sem Value}(u:R C.toCtx F g s w)(z:Rzs g cs v.cells.toList)(h:∀c,c∈cs->c.one=true)
  (B:x.run C.P w=.ok (.pointer (some ⟨w.heap.size,0,none⟩)) (w.alloc (.cells v.cells t)))
  (m:aEM C s t cs KV) :
  OutV C F g KV Kp (((do let v <-x;pure (Next.value v)):Sem Next).run C.P w) :=
 aEc (ob:=.cells t cs) u ⟨v.cells.toList,[],by simp,z,h⟩ (λG b y=>.ptr b 0 _ y) B m
theorem aTr{KV Kp:St->A->Prop}{t ty:TypeId}{dst:Option Tmp}{pos:String}{after:Array Edge}{gd:Option (Nat × Bool)}
  (y:R C.toCtx F g s w)(h:bF C (.alloc t) ρ KV Kp s) :
  OutV C F g KV Kp ((execOp ev ⟨dst,.alloc t,ty,pos,after,gd⟩).run C.P w):=by
 simp only[bF]at h;split at h
 .rename_i B m;obtain⟨z,hz,u⟩:=aB5 m w;simp only[execOp];refine aKX (v:=z) (t:=t) y (u g) (C.htt t B m).one ?_ h;simp only[Instr.alloc,bN,hz,bM,newVar,newRow,run_newObj,cG];rfl
 .exact h.elim
theorem aVn{KV Kp:St->A->Prop}{t ty:TypeId}{x:Operand}{dst:Option Tmp}{pos:String}{after:Array Edge}{gd:Option (Nat × Bool)}
  (y:R C.toCtx F g s w)(z:∀x a,ρ x=some a->Rz g a (ev x))(h:bF C (.box t x) ρ KV Kp s) :
  OutV C F g KV Kp ((execOp ev ⟨dst,.box t x,ty,pos,after,gd⟩).run C.P w):=by
 simp only[bF]at h;split at h
 .rename_i v B;obtain⟨m,u⟩:=h;simp only[execOp];refine aKX (v:=ev x) (t:=t) y (z x v B).cells (by simpa [iF]using m) ?_ u;simp only[Instr.box,bN,newVar,newRow,run_newObj,bM,cG];rfl
 .exact h.elim
theorem aIV{x:A}:∀n:Nat,(List.replicate n [x]).flatten=List.replicate n x
 | 0=>rfl
 | n+1=>by simp[List.replicate_succ]
theorem aPw{KV Kp:St->A->Prop}{t ty:TypeId}{l c:Operand}{dst:Option Tmp}{pos:String}{after:Array Edge}{gd:Option (Nat × Bool)}
    (hR:R C.toCtx F g s w)(he:∀x a,ρ x=some a->Rz g a (ev x))(h:bF C (.makeSlice t l c) ρ KV Kp s) :
    OutV C F g KV Kp ((execOp ev ⟨dst,.makeSlice t l c,ty,pos,after,gd⟩).run C.P w):=by
  simp only[bF]at h;split at h
  · rename_i kl n kc m ti hl hc hti
    obtain⟨d,hd,hok⟩:=iL hti;split at h
    · rename_i e hk
      rw[hk]at hok;simp only[TK.ok]at hok;subst hok;split at h
      · rename_i te hte
        obtain⟨⟨rfl,h0,h1,h2,h3⟩,hK⟩:=h;obtain⟨i,z,hi,his,hib,hiz,hzr⟩:=(C.htt e te hte).info;have hzl:=(C.htt e te hte).len;have hz1:=(C.htt e te hte).one
        obtain⟨x,hx⟩:∃x,te.zero=[x]:=by
          match hq:te.zero with
          | [x]=>exact⟨x,rfl⟩
          | []=>rw[hq,h1]at hzl;cases hzl
          | _::_::_=>rw[hq,h1]at hzl;simp at hzl
        obtain⟨v,hv⟩:∃v,z.cells=#[v]:=by
          have h4:=(hzr g).1;rw[hx]at h4
          match hq:z.cells.toList with
          | [v]=>exact⟨v,by apply Array.ext';rw[hq]⟩
          | []=>rw[hq]at h4;simp at h4
          | _::_::_=>rw[hq]at h4;simp at h4
        have hxv:Rz g x v:=by
          have:=hzr g;rw[hx,hv]at this;exact this.2 0 x v bA bA
        have hrun:=run_make (P:=C.P) w t e i z hd hi hiz kl kc n n aB (aAp _)
          (by rw [hib]; have : ((te.bytes * n.toNat : Nat) : Int) ≤ 281474976710656 := by omega
              rw[Int.natCast_mul,Int.toNat_of_nonneg aB]at this;exact this) aB
        rw[his,h1,Nat.mul_one,hv]at hrun
        have hmc:madeCells #[v] n.toNat=(List.replicate n.toNat v).toArray:=by
          apply Array.ext
          · simp[madeCells]
          · intro j h5 h6
            simp[madeCells,Nat.mod_one]
        simp only[execOp,(he l _ hl).int_inv,(he c _ hc).int_inv];refine aEc (ob:=.cells e (List.replicate n.toNat te.zero).flatten) hR ⟨List.replicate n.toNat v,[],rfl,?_,?_⟩ (λg' b hb=>?_) (by rw[hmc]at hrun;simpa using hrun) hK
        · rw[hx,aIV]
          refine⟨by simp,λj a u ha hu=>?_⟩;rw[List.getElem?_replicate]at ha hu;split at ha
          · rename_i hj;rw[aF hj]at hu;cases ha;cases hu;exact hxv
          · cases ha
        · rw[hx,aIV]
          intro a ha;rw[List.eq_of_mem_replicate ha];exact hz1 x (by rw[hx];simp)
        · exact .ml b 0 _ _ _ hb (bJ _) (by unfold maxLen;omega)
      · exact h.elim
    · exact h.elim
  · exact h.elim
theorem aT6{KV Kp:St->A->Prop}{t ty:TypeId}{x:Operand}{dst:Option Tmp}{pos:String}{after:Array Edge}{gd:Option (Nat × Bool)}
  (z:R C.toCtx F g s w)(G:∀x a,ρ x=some a->Rz g a (ev x))(h:bF C (.range t x) ρ KV Kp s) :
  OutV C F g KV Kp ((execOp ev ⟨dst,.range t x,ty,pos,after,gd⟩).run C.P w):=by
 simp only[bF]at h;split at h
 .rename_i y U O u;split at h
  .rename_i H;obtain⟨d,hd,m⟩:=iL u;rw[H]at m;simp only[TK.ok]at m;subst m;have M:=(G x _ O).str_inv;simp only[execOp];exact aEc (ob:=.iter y 0) (o:=.stringIter ⟨y.toArray⟩ 0) z rfl (λS b B=>.ptr b 0 _ B) (by rw[M];exact run_range_string w t _ hd) h
  .exact h.elim
 .exact h.elim
theorem aUx{KV Kp:St->A->Prop}{ty:TypeId}{x:Operand}{str:Bool}{dst:Option Tmp}{pos:String}{after:Array Edge}{gd:Option (Nat × Bool)}
  (O:R C.toCtx F g s w)(he:∀x a,ρ x=some a->Rz g a (ev x))(h:bF C (.next x str) ρ KV Kp s) :
  OutV C F g KV Kp ((execOp ev ⟨dst,.next x str,ty,pos,after,gd⟩).run C.P w):=by
 cases str
 .simp only[bF,cJ]at h
 simp only[bF]at h;split at h
 .rename_i b hx;split at h
  .rename_i B p Z;obtain⟨k,y,G⟩:=(he x _ hx).ptr_inv;obtain⟨k',z,ho,_,_⟩:=O.obj b _ Z;rw[G]at z;cases z;have S:w.heap[k]?=some (.stringIter ⟨B.toArray⟩ p):=ho;have H:k<w.heap.size:=(iW.1 S).1;have M:(ByteArray.mk B.toArray).size=B.length:=by simp[ByteArray.size]
   simp only[execOp];rw[yS,y];unfold aEl at h;split at h
   .rename_i U
    have u:(Instr.next (.pointer (some ⟨k,0,none⟩)) true ty).run C.P w=.ok (.tuple #[.bool true,goInt p,.int .i32 (Utf8.decode ⟨B.toArray⟩ p).1])
      { w with heap:=w.heap.setIfInBounds k (.stringIter ⟨B.toArray⟩ (p+(Utf8.decode ⟨B.toArray⟩ p).2)) }:=by
     simp only[Instr.next,getObj,setObj,bN,Sem.run,S,Result.andThen,M,U,dF,H];rfl
    rw[u];refine⟨g,_,_,fJ g,O.setObj Z G (ob:=.iter B _) (λk hk=>?_) ?_,?_,h⟩
    .simp[aBv (Ne.symm hk)]
    .simp[ObRz,H]
    .refine .tuple _ [_,_,_] rfl λj c v m y=>?_
     match j with
     | 0=>simp at m y;subst m;subst y;exact .bool _
     | 1=>simp at m y;subst m;subst y;exact .int _ _
     | 2=>simp at m y;subst m;subst y;exact .int _ _
     | _+3=>simp at m
   .rename_i U
    have u:(Instr.next (.pointer (some ⟨k,0,none⟩)) true ty).run C.P w=.ok (.tuple #[.bool false]) w:=by
     simp only[Instr.next,getObj,bN,Sem.run,S,Result.andThen,M,U,cZ];rfl
    rw[u];refine⟨g,_,_,fJ g,O,?_,h⟩;refine .tuple _ [_] rfl λj c v m y=>?_
    match j with
    | 0=>simp at m y;subst m;subst y;exact .bool _
    | _+1=>simp at m
  .exact h.elim
 .exact h.elim
end
end
end Go.AV
