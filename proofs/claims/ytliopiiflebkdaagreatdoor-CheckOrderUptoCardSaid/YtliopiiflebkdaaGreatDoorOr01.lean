/-
  Of CheckOrder.
-/
import Derived.WalkKit
import Derived.Orders
import Derived.MapKept
import Derived.Laws.Cover3
import Derived.LaidEqlPtr
import Derived.Laws.StructEq
import Derived.Laws.Pointers
import Derived.Lib.Strings
import Derived.Laws.RangeString
import Derived.Laws.IdiomStrings
import Derived.Laws.MakeOwn
set_option linter.all false
set_option maxRecDepth 99999
set_option maxHeartbeats 0
namespace Go.AV
open Go
def aV:=@List.getElem?_eq_getElem
def lQ:=@Nat.le_trans
def bI:=@Option.some.injEq
def cC:=@List.mem_singleton
def bN:=@List.map_cons
def bL:=@Nat.le_refl
def bE:=@Sem.run_bind
def dG:=@List.getElem?_eq_some_iff
def bY:=@List.map_append
def cP:=@List.map_nil
def fC:=@List.eq_nil_of_length_eq_zero
def cD:=@List.mem_map
def gG:=@Bool.false_and
def aX:=@Nat.zero_le
def jN:=@Bool.and_false
def dA:=@decide_eq_true_eq
def cR:=@List.mem_of_getElem?
def cL:=@run_underlying
def fV:=@Bool.not_true
def fQ:=@Array.getElem?_eq_some_iff
def cH:=@decide_eq_false
def dV:=@List.length_take
def fW:=@Bool.true_and
def iO:=@Bool.false_or
def cZ:=@decide_eq_true
def iG:=@Bool.not_false
def hU:=@List.getElem_of_mem
def kN:=@List.drop_eq_getElem_cons
def jB:=@Bool.and_true
def lN:=@Nat.lt_succ_self
def fR:=@List.all_eq_true
def lS:=@Bool.true_or
def gO:=@List.getElem?_append_left
def oT:=@Option.map_eq_some_iff
def jL:=@List.getElem?_drop
def fX:=@Nat.zero_add
def hZ:=@List.map_toArray
def jK:=@List.getElem?_toArray
def mS:=@Bool.or_false
def eT:=@Nat.add_mul
def jA:=@List.take_of_length_le
def nP:=@Nat.mul_le_mul_right
def iF:=@List.getElem_mem
def dK:=@List.mem_append
def kC:=@List.getElem?_take
def kO:=@Bool.not_eq_true'
def cW:=@decide_eq_decide
def pZ:=@List.drop_drop
def nT:=@Bool.or_true
def nQ:=@List.mem_of_mem_take
def fF:=@List.append_assoc
def rB:=@UInt8.toNat_inj
def jO:=@List.tail_drop
def kS:=@Code.wp_mono
def wZ:=@Bool.or_eq_true
def xE:=@decide_true
def gP:=@decide_eq_false_iff_not
def nR:=@Value.slice.injEq
def pX:=@List.mem_of_mem_drop
def dZ:=@List.mem_cons_self
def qY:=@List.getElem?_eq_none
def kQ:=@List.not_mem_nil
def nO:=@List.getElem?_append_right
def gT:=@true_and
def eB:=@List.drop_eq_nil_of_le
def uD:=@List.mem_or_eq_of_mem_set
def lO:=@Prod.mk.injEq
def eO:=@List.take_add_one
def pY:=@List.getElem?_set
def kD:=@List.getElem?_map
def lP:=@Nat.add_assoc
def wT:=@Array.getElem?_setIfInBounds_ne
def rC:=@List.drop_zero
def wU:=@Array.getElem?_eq_getElem
def xB:=@decide_false
def uF:=@Option.some.inj
def qA:=@List.mem_range
def wY:=@Bool.eq_false_iff
def qB:=@Addr.mk.injEq
def uE:=@List.find?_eq_none
def aD4:=@Bool.not_eq_false'
def zL:=@List.mem_of_find?_eq_some
def lL:=@List.mem_cons_of_mem
def kP:=@List.flatMap_cons
def aEv:=@Nat.lt_or_ge
def rK:=@and_self
def uM:=@Int.le_refl
def wW:=@beq_eq_false_iff_ne
def mW:=@false_and
def aD5:=@Nat.min_eq_left
def dQ:=@List.append_nil
def wV:=@Array.getElem?_toList
def aBU:=@Array.getD_eq_getD_getElem?
def eU:=@or_false
def nW:=@and_true
def gR:=@of_decide_eq_true
def bD:=@Result.andThen_ok
def bO:=@Sem.run_pure
def iZ:=@List.getElem?_cons_zero
def qZ:=@List.set_cons_succ
def sN:=@List.set_cons_zero
def lM:=@Array.length_toList
def jM:=@Option.map_some
def aD:=@if_neg
def aE:=@if_pos
def cI:=@if_false
def cM:=@if_true
def bJ:=@ne_eq
def cV:=@absurd
def mY:=@congrArg
end Go.AV
namespace Go.Proofs.Tryz
end Go.Proofs.Tryz
namespace Go.AV
theorem gQ{P Q : Prop}(h : P)(f : P -> Q := by(intro h; simpa using h)) : Q := f h
theorem aP{p : Prop}(h : p := by(simp only; omega)) : p := h
theorem iE{P Q : Prop}(h : P)(f : P -> Q := by(intro h; first | exact h | exact h.2 | exact h.2.2 | exact h.2.2.2 | exact h.2.2.2.2 | exact h.2.2.2.2.2 | exact h.2.2.2.2.2.2)) : Q := f h
theorem aB{p : Prop}(h : p := by omega) : p := h
theorem fJ{p : Prop}(h : p := by decide) : p := h
theorem aW{p : Prop}(h : p := by simp) : p := h
theorem eF : (¬False) = True := not_false_eq_true
theorem aO{α : Type _}{a : α}{l : List α} : (a :: l).length = l.length + 1 := rfl
theorem aI{α : Type _}{l r : List α} : (l ++ r).length = l.length + r.length := List.length_append
theorem aU{α : Type _} : ([] : List α).length = 0 := rfl
theorem aK{α : Type _}{h : Type _}{l : List α}(f : α -> h) : (List.map f l).length = l.length := List.length_map f
theorem dD{α : Type _}{b : α}{l : List α}{a : α} : a ∈ b :: l ↔ a = b \/ a ∈ l := List.mem_cons
theorem gN{n m : Nat}(h : n.ble m = true) : n <= m := Nat.le_of_ble_eq_true h
theorem nN{n m : Nat}(h : n.beq m = true) : n = m := Nat.eq_of_beq_eq_true h
theorem bS{α : Type _}{a : α}{l r : List α} : a :: l ++ r = a :: (l ++ r) := rfl
theorem bP{α : Type _}(l : List α) : [] ++ l = l := rfl
theorem cS{α : Type _}{i : Nat}{l : List α} : (List.drop i l).length = l.length - i := List.length_drop
theorem dI(a b : Bool) : ((a && b) = true) = (a = true /\ b = true) := Bool.and_eq_true a b
theorem cQ : (false = true) = False := Bool.false_eq_true
end Go.AV
namespace Go.AV
open Go Go.Proofs Tryz
section
inductive A where
 | int (k:IntKind) (n:Int)
 | bool (b:Bool)
 | str (s:List UInt8)
 | ptr (b off:Nat)
 | eptr (cs:List A) (off:Nat)
 | nilp
 | nils
 | list (tok:Option Nat) (es:List A)
 | agg (cs:List A)
 | fn (f:FuncId) (first caps:List A)
 | nilf
 | iface (t:TypeId) (v:A)
 | nili
 | tuple (vs:List A)
 | ml (b off n:Nat)
 | emp
 | sd (tk:Option Nat) (es:List A)
 | gr (t n:Nat)
 | hl (z:A)
 | pen (t:Nat) (es:List A) (sz:Nat)
 | rm (t n sz:Nat)
 | mg (b n cap:Nat)
 | mp (b:Nat)
 | nilm
instance : Inhabited A := ⟨.nilp⟩
def A.cells:A->List A
 | .agg cs=>cs
 | a=>[a]
def A.one:A->Bool
 | .agg _|.tuple _=>false
 | _=>true
structure Gh where
 pi:Nat->Option (List Value)
 eta:Nat->Nat->Option Value
 beta:Nat->Option Nat
 env:Os × Array (Nat × ByteArray)
structure Gh.le (g g':Gh):Prop where
 pi:∀b pre,g.pi b=some pre->∃ext,g'.pi b=some (pre++ext)
 eta:∀t n v,g.eta t n=some v->g'.eta t n=some v
 beta:∀b k,g.beta b=some k->g'.beta b=some k
 env:g'.env=g.env
structure Gh.les (g g':Gh):Prop where
 le:g.le g'
 eta:g'.eta=g.eta
 beta:g'.beta=g.beta
theorem dW(g:Gh):g.le g:=⟨λ_ pre h=>⟨[],gQ h⟩,λ_ _ _ h=>h,λ_ _ h=>h,rfl⟩
theorem Gh.les.refl(g:Gh):g.les g:=⟨dW g,rfl,rfl⟩
theorem Gh.le.trans{a b c:Gh}(h:a.le b)(q:b.le c):a.le c :=
 ⟨fun k pre m => by
  obtain⟨x,u⟩:=h.pi k pre m;obtain⟨y,z⟩:=q.pi k _ u;exact⟨x++y,gQ z⟩,λt n v m=>q.eta _ _ _ (h.eta _ _ _ m),λb k m=>q.beta _ _ (h.beta _ _ m),q.env.trans h.env⟩
theorem Gh.les.trans{a b c:Gh}(h:a.les b)(m:b.les c):a.les c:=⟨h.le.trans m.le,m.eta.trans h.eta,m.beta.trans h.beta⟩
inductive Rz (g:Gh):A->Value->Prop
 | int (k:IntKind) (n:Int):Rz g (.int k n) (.int k n)
 | bool (b:Bool):Rz g (.bool b) (.bool b)
 | str (s:List UInt8):Rz g (.str s) (.string ⟨s.toArray⟩)
 | ptr (b o k:Nat) (hb:g.beta b=some k):Rz g (.ptr b o) (.pointer (some ⟨k,o,none⟩))
 | emp (a:Addr):Rz g .emp (.slice (some a) 0 0)
 | sd (tk:Option Nat) (es:List A) (a:Addr) (cap:Nat) (hc:cap≠0) (h:Rz g (.list tk es) (.slice (some a) es.length cap)):Rz g (.sd tk es) (.pointer (some a))
 | gr (t n k cap:Nat) (h:g.eta t 0=some (.slice (some ⟨k,0,none⟩) 0 cap)) (hn:n<=cap) (hm:cap<=maxLen):Rz g (.gr t n) (.slice (some ⟨k,0,none⟩) n cap)
 | hl (z:A) (a:Addr) (cap:Nat) (h:Rz g (.list none [z]) (.slice (some a) 1 cap)):Rz g (.hl z) (.slice (some a) 1 cap)
 | pen (t:Nat) (es:List A) (sz b cap:Nat) (h:Rz g (.list (some t) es) (.slice (some ⟨b,0,none⟩) es.length cap)) (hc:es.length+1<=cap) (hs:∀y,y∈es->y.cells.length=sz) :
   Rz g (.pen t es sz) (.slice (some ⟨b,0,none⟩) (es.length+1) cap)
 | rm (t n sz b cap:Nat) (h:g.eta t n=some (.slice (some ⟨b,0,none⟩) n cap)) (hc:n+1<=cap):Rz g (.rm t n sz) (.pointer (some ⟨b,n * sz,none⟩))
 | ml (b off n cap k:Nat) (hb:g.beta b=some k) (hc:n<=cap) (hm:cap<=maxLen):Rz g (.ml b off n) (.slice (some ⟨k,off,none⟩) n cap)
 | mg (b n cap k:Nat) (hb:g.beta b=some k) (hc:n<=cap) (hm:cap<=maxLen):Rz g (.mg b n cap) (.slice (some ⟨k,0,none⟩) n cap)
 | eptr (cs:List A) (o b off:Nat) (pre:List Value) (hp:g.pi b=some pre) (hl:off+cs.length<=pre.length)
   (h1:∀c,c∈cs->c.one=true)
   (h:∀(j:Nat) (c:A) (v:Value),cs[j]?=some c->pre[off+j]?=some v->Rz g c v) :
   Rz g (.eptr cs o) (.pointer (some ⟨b,off+o,none⟩))
 | mp (b k:Nat) (hb:g.beta b=some k):Rz g (.mp b) (.map (some k))
 | nilm:Rz g .nilm (.map none)
 | nilp:Rz g .nilp (.pointer none)
 | nils:Rz g .nils (.slice none 0 0)
 | list (tk:Option Nat) (es:List A) (b off sz cap:Nat) (pre:List Value) (hp:g.pi b=some pre)
   (hl:off+es.length * sz<=pre.length)(hc:es.length<=cap)(hm:cap<=maxLen)
   (hs:∀e,e∈es->e.cells.length=sz)(h1:∀e,e∈es->∀c,c∈e.cells->c.one=true)
   (h:∀(i:Nat) (e:A) (j:Nat) (c:A) (v:Value),es[i]?=some e->e.cells[j]?=some c->pre[off+i * sz+j]?=some v->Rz g c v)
   (ht:∀t,tk=some t->g.eta t es.length=some (.slice (some ⟨b,off,none⟩) es.length cap)) :
   Rz g (.list tk es) (.slice (some ⟨b,off,none⟩) es.length cap)
 | list0 (tk:Option Nat) (a:Option Addr) (cap:Nat) (hm:cap<=maxLen) (ht:∀t,tk=some t->g.eta t 0=some (.slice a 0 cap)) :
   Rz g (.list tk []) (.slice a 0 cap)
 | agg (cs:List A) (vs:List Value) (hl:vs.length=cs.length) (h1:∀c,c∈cs->c.one=true)
   (h:∀(j:Nat) (c:A) (v:Value),cs[j]?=some c->vs[j]?=some v->Rz g c v):Rz g (.agg cs) (.agg vs.toArray)
 | fn (f:FuncId) (fs cs:List A) (us vs:List Value) (hlf:us.length=fs.length) (hlc:vs.length=cs.length)
   (hf:∀(j:Nat) (c:A) (v:Value),fs[j]?=some c->us[j]?=some v->Rz g c v)
   (hc:∀(j:Nat) (c:A) (v:Value),cs[j]?=some c->vs[j]?=some v->Rz g c v) :
   Rz g (.fn f fs cs) (.func (.func f) us.toArray vs.toArray)
 | nilf:Rz g .nilf .nilFunc
 | iface (t:TypeId) (a:A) (v:Value) (h:Rz g a v):Rz g (.iface t a) (.iface t v)
 | nili:Rz g .nili .nilIface
 | tuple (cs:List A) (vs:List Value) (hl:vs.length=cs.length)
   (h:∀(j:Nat) (c:A) (v:Value),cs[j]?=some c->vs[j]?=some v->Rz g c v):Rz g (.tuple cs) (.tuple vs.toArray)
theorem aC8{α:Type}{l ext:List α}{i:Nat}{v:α}(m:i<l.length)(h:(l++ext)[i]?=some v):l[i]?=some v:=by
 rwa[gO m]at h
theorem Rz.mono{g g':Gh}(y:g.le g'){a:A}{v:Value}(h:Rz g a v):Rz g' a v:=by
 induction h with
 | int k n=>exact .int k n
 | bool b=>exact .bool b
 | str s=>exact .str s
 | ptr b o k G=>exact .ptr b o k (y.beta _ _ G)
 | ml b off n cap k G m B=>exact .ml b off n cap k (y.beta _ _ G) m B
 | mg b n cap k G m B=>exact .mg b n cap k (y.beta _ _ G) m B
 | mp b k G=>exact .mp b k (y.beta _ _ G)
 | emp a=>exact .emp a
 | sd tk es a cap m _ q=>exact .sd tk es a cap m q
 | gr t n k cap h hn B=>exact .gr t n k cap (y.eta _ _ _ h) hn B
 | hl z a cap _ q=>exact .hl z a cap q
 | pen t es sz b cap _ m M q=>exact .pen t es sz b cap q m M
 | rm t n sz b cap h m=>exact .rm t n sz b cap (y.eta _ _ _ h) m
 | eptr cs o b off pre Z hl H _ q =>
  obtain⟨ext,hx⟩:=y.pi b pre Z;refine .eptr cs o b off _ hx (by simp;omega) H λj c v m u=>?_
  have hj:j<cs.length:=(dG.1 m).1;exact q j c v m (aC8 aB u)
 | nilm=>exact .nilm
 | nilp=>exact .nilp
 | nils=>exact .nils
 | list tk es b off sz cap pre Z hl m B M H _ ht q =>
  obtain⟨ext,hx⟩:=y.pi b pre Z;refine .list tk es b off sz cap _ hx (by simp;omega) m B M H (λi e j c v O L u=>?_) (λt h=>y.eta _ _ _ (ht t h));have hi:i<es.length:=(dG.1 O).1;have hj:j<e.cells.length:=(dG.1 L).1;have:=M e (cR O)
  have G:i * sz+j<es.length * sz:=by
   have:(i+1) * sz<=es.length * sz:=nP _ hi;rw[eT]at this;omega
  exact q i e j c v O L (aC8 aB u)
 | list0 tk a cap B ht=>exact .list0 tk a cap B (λt h=>y.eta _ _ _ (ht t h))
 | agg cs vs hl H _ q=>exact .agg cs vs hl H λj c v m u=>q j c v m u
 | fn f fs cs us vs U S _ _ b1 b0=>exact .fn f fs cs us vs U S (λj c v m u=>b1 j c v m u) (λj c v m u=>b0 j c v m u)
 | nilf=>exact .nilf
 | iface t a v _ q=>exact .iface t a v q
 | nili=>exact .nili
 | tuple cs vs hl _ q=>exact .tuple cs vs hl λj c v m u=>q j c v m u
def Rzs(g:Gh)(cs:List A)(vs:List Value):Prop :=
 vs.length=cs.length/\∀(j:Nat) (c:A) (v:Value),cs[j]?=some c->vs[j]?=some v->Rz g c v
theorem Rzs.mono{g m:Gh}(u:g.le m){cs:List A}{vs:List Value}(h:Rzs g cs vs):Rzs m cs vs :=
 ⟨h.1,λj c v q y=>(h.2 j c v q y).mono u⟩
theorem Rzs.nil(g:Gh):Rzs g [] []:=⟨rfl,λj c v h=>by simp at h⟩
theorem Rzs.cons{g:Gh}{c:A}{v:Value}{cs:List A}{vs:List Value}(h:Rz g c v)(u:Rzs g cs vs):Rzs g (c::cs) (v::vs) :=
 ⟨by simp [u.1],fun j => by
  cases j with
  | zero=>intro x y m q;simp at m q;subst m;subst q;exact h
  | succ j=>intro x y m q;exact u.2 j x y (gQ m) (gQ q)⟩
theorem Rzs.get{g:Gh}{cs:List A}{vs:List Value}(h:Rzs g cs vs){j:Nat}{c:A}(m:cs[j]?=some c):∃v,vs[j]?=some v/\Rz g c v:=by
 have u:j<cs.length:=(dG.1 m).1;have q:j<vs.length:=by rw[h.1];exact u
 exact⟨vs[j],aV q,h.2 j c _ m (aV q)⟩
theorem Rzs.append{g:Gh}{cs u:List A}{vs us:List Value}(h:Rzs g cs vs)(y:Rzs g u us):Rzs g (cs++u) (vs++us):=by
 refine⟨by simp[h.1,y.1],λj c v m q=>?_⟩;by_cases z:j<cs.length
 .rw[gO z]at m;rw[gO (by rw[h.1];exact z)]at q;exact h.2 j c v m q
 .rw[nO aB]at m;rw[nO (by rw[h.1];omega),h.1]at q;exact y.2 _ c v m q
theorem Rzs.set{g:Gh}{cs:List A}{vs:List Value}(h:Rzs g cs vs){o:Nat}{c:A}{v:Value}(z:Rz g c v):Rzs g (cs.set o c) (vs.set o v):=by
 refine⟨by simp[h.1],λj x y m q=>?_⟩;by_cases u:o=j
 .subst u;rw[pY]at m q;simp only[↓reduceIte]at m q;split at m<;>split at q<;>simp_all
 .rw[List.getElem?_set_ne u]at m q;exact h.2 j x y m q
theorem Rzs.take{g:Gh}{cs:List A}{vs:List Value}(h:Rzs g cs vs)(n:Nat):Rzs g (cs.take n) (vs.take n):=by
 refine⟨by simp[h.1],λj c v m q=>?_⟩;rw[kC]at m q;split at m
 .rename_i u;rw[aE u]at q;exact h.2 j c v m q
 .simp at m
theorem Rzs.drop{g:Gh}{cs:List A}{vs:List Value}(h:Rzs g cs vs)(n:Nat):Rzs g (cs.drop n) (vs.drop n):=by
 refine⟨by simp[h.1],λj c v m q=>?_⟩;rw[jL]at m q;exact h.2 _ c v m q
theorem Rz.cells{g:Gh}{a:A}{v:Value}(h:Rz g a v):Rzs g a.cells v.cells.toList:=by
 cases h with
 | agg cs vs hl y h=>exact⟨by simpa [A.cells,Value.cells]using hl,by simpa [A.cells,Value.cells]using h⟩
 | int k n=>exact .cons (.int k n) (.nil g)
 | bool b=>exact .cons (.bool b) (.nil g)
 | str s=>exact .cons (.str s) (.nil g)
 | ptr b o k u=>exact .cons (.ptr b o k u) (.nil g)
 | ml b off n cap k u m q=>exact .cons (.ml b off n cap k u m q) (.nil g)
 | mg b n cap k u m q=>exact .cons (.mg b n cap k u m q) (.nil g)
 | mp b k u=>exact .cons (.mp b k u) (.nil g)
 | emp a=>exact .cons (.emp a) (.nil g)
 | sd tk es a cap m h=>exact .cons (.sd tk es a cap m h) (.nil g)
 | gr t n k cap h U q=>exact .cons (.gr t n k cap h U q) (.nil g)
 | hl z a cap h=>exact .cons (.hl z a cap h) (.nil g)
 | pen t es sz b cap h m L=>exact .cons (.pen t es sz b cap h m L) (.nil g)
 | rm t n sz b cap h m=>exact .cons (.rm t n sz b cap h m) (.nil g)
 | eptr cs o b off pre H hl y h=>exact .cons (.eptr cs o b off pre H hl y h) (.nil g)
 | nilm=>exact .cons .nilm (.nil g)
 | nilp=>exact .cons .nilp (.nil g)
 | nils=>exact .cons .nils (.nil g)
 | list tk es b off sz cap pre H hl m q L y h M=>exact .cons (.list tk es b off sz cap pre H hl m q L y h M) (.nil g)
 | list0 tk a cap q M=>exact .cons (.list0 tk a cap q M) (.nil g)
 | fn f O cs us vs G B S m=>exact .cons (.fn f O cs us vs G B S m) (.nil g)
 | nilf=>exact .cons .nilf (.nil g)
 | iface t a v h=>exact .cons (.iface t a v h) (.nil g)
 | nili=>exact .cons .nili (.nil g)
 | tuple cs vs hl h=>exact .cons (.tuple cs vs hl h) (.nil g)
theorem Rz.one{g:Gh}{a:A}{v:Value}(h:Rz g a v)(m:a.one=true):v.oneCell'=true:=by
 cases h<;>simp_all [A.one,Value.oneCell']
theorem Rzs.one{g:Gh}{cs:List A}{vs:List Value}(h:Rzs g cs vs)(u:∀c,c∈cs->c.one=true):∀v,v∈vs->v.oneCell'=true:=by
 intro v y;obtain⟨j,q,rfl⟩:=hU y;have m:j<cs.length:=by rw[<-h.1];exact q
 exact(h.2 j cs[j] vs[j] (aV m) (aV q)).one (u _ (iF m))
theorem Rz.forget{g:Gh}{tk:Option Nat}{es:List A}{v:Value}(h:Rz g (.list tk es) v):Rz g (.list none es) v:=by
 cases h with
 | list tk es b off sz cap pre y hl u m z q h B=>exact .list none es b off sz cap pre y hl u m z q h aW
 | list0 tk a cap m B=>exact .list0 none a cap m aW
inductive MK where
 | str (s:List UInt8)
 | int (n:Int)
 | two (a b:List UInt8)
 deriving DecidableEq
def MK.kd:MK->Nat
 | .str _=>0
 | .int _=>1
 | .two _ _=>2
def MK.val:MK->Value
 | .str s=>.string ⟨s.toArray⟩
 | .int n=>.int .i64 n
 | .two a b=>.agg #[.string ⟨a.toArray⟩,.string ⟨b.toArray⟩]
inductive Ob where
 | cells (e:TypeId) (cs:List A)
 | iter (s:List UInt8) (pos:Nat)
 | map (kd:Nat) (es:List (MK × A))
structure St where
 ob:Nat->Option Ob
 ov:List (Nat × Ob)
 tk:Nat->Option (Nat × TypeId)
 tv:List (Nat × (Nat × TypeId))
 lim:Nat
 ls:Option (Nat × Nat × A)
def mN{α:Type}:List (Nat × α)->(Nat->Option α)->Nat->Option α
 | [],σ,p=>σ p
 | (q,c)::L,σ,p=>if q=p then some c else mN L σ p
def kM{α:Type}:Nat->α->List (Nat × α)->List (Nat × α)
 | p,c,[]=>[(p,c)]
 | p,c,(q,d)::L=>if q=p then(q,c)::L else(q,d)::kM p c L
theorem xL{α:Type}(p:Nat)(c:α)(σ:Nat->Option α)(q:Nat):∀L,mN (kM p c L) σ q=if p=q then some c else mN L σ q
 | []=>by simp[kM,mN]
 | (k,d) :: L => by
  unfold kM;by_cases h:k=p
  .subst h;simp only[↓reduceIte,mN];split<;>simp_all
  .simp only[h,↓reduceIte,mN,xL p c σ q L];by_cases m:k=q
   .subst m;have:¬ p=k:=λe=>h e.symm
    simp[this]
   .simp[m]
def St.getO(s:St)(b:Nat):Option Ob:=mN s.ov s.ob b
def St.setO(s:St)(b:Nat)(o:Ob):St:={ s with ov:=kM b o s.ov }
def St.newO(s:St)(o:Ob):St:={ s with ov:=kM s.lim o s.ov,lim:=s.lim+1 }
def St.newT(s:St)(n:Nat × TypeId):St:={ s with tv:=kM s.lim n s.tv,lim:=s.lim+1 }
def St.getT(s:St)(t:Nat):Option (Nat × TypeId):=mN s.tv s.tk t
def St.setT(s:St)(t:Nat)(n:Nat × TypeId):St:={ s with tv:=kM t n s.tv }
def St.setL(s:St)(x:Option (Nat × Nat × A)):St:={ s with ls:=x }
def tV{α:Type}:Nat->List (Nat × α)->List (Nat × α)
 | _,[]=>[]
 | p,(q,d)::L=>if q=p then tV p L else(q,d)::tV p L
theorem aCO{α:Type}(p:Nat)(σ:Nat->Option α)(q:Nat):∀L,mN (tV p L) (λu=>if u=p then none else σ u) q=if q=p then none else mN L σ q
 | []=>by simp[tV,mN]
 | (k,d) :: L => by
  have z:=aCO p σ q L;unfold tV;by_cases h:k=p
  .subst h;simp only[↓reduceIte,z,mN];by_cases m:q=k
   .subst m;simp
   .have:¬ k=q:=λe=>m e.symm
    simp[m,this]
  .simp only[h,↓reduceIte,mN,z];by_cases y:k=q
   .subst y;simp[h]
   .simp[y]
def St.delT(s:St)(t:Nat):St:={ s with tk:=λu=>if u=t then none else s.tk u,tv:=tV t s.tv }
theorem oV(s:St)(t u:Nat):(s.delT t).getT u=if u=t then none else s.getT u:=aCO t s.tk u s.tv
theorem aH(s:St)(b:Nat)(o:Ob)(q:Nat):(s.setO b o).getO q=if b=q then some o else s.getO q:=xL b o s.ob q s.ov
theorem St.getT_setO(s:St)(b:Nat)(o:Ob)(q:Nat):(s.setO b o).getT q=s.getT q:=rfl
theorem cF(s:St)(b:Nat)(o:Nat × TypeId)(q:Nat):(s.setT b o).getT q=if b=q then some o else s.getT q:=xL b o s.tk q s.tv
theorem aEm(s:St)(o:Ob)(q:Nat):(s.newO o).getO q=if s.lim=q then some o else s.getO q:=xL s.lim o s.ob q s.ov
theorem aB4(s:St)(o:Nat × TypeId)(q:Nat):(s.newT o).getT q=if s.lim=q then some o else s.getT q:=xL s.lim o s.tk q s.tv
theorem dR(s:St)(x:Option (Nat × Nat × A))(q:Nat):(s.setL x).getO q=s.getO q:=rfl
theorem sP(s:St)(x:Option (Nat × Nat × A))(q:Nat):(s.setL x).getT q=s.getT q:=rfl
theorem cU(s:St)(b:Nat)(o:Nat × TypeId)(q:Nat):(s.setT b o).getO q=s.getO q:=rfl
structure St.ge (s s':St):Prop where
 ob:∀b o,s'.getO b=some o->s.getO b=some o
 tk:∀t n,s'.getT t=some n->s.getT t=some n
 ls:∀x,s'.ls=some x->s.ls=some x
theorem aG(s:St):s.ge s:=⟨λ_ _ h=>h,λ_ _ h=>h,λ_ h=>h⟩
theorem St.ge.trans{a b c:St}(h:a.ge b)(m:b.ge c):a.ge c:=⟨λ_ _ x=>h.ob _ _ (m.ob _ _ x),λ_ _ x=>h.tk _ _ (m.tk _ _ x),λ_ x=>h.ls _ (m.ls _ x)⟩
structure Ctx where
 P:Program
 det:Bool
 gl:Nat->Option (List A)
def Ctx.sz(C:Ctx)(t:TypeId):Nat:=((C.P.info? t).map (·.size)).getD 0
def MRz(g:Gh)(kd:Nat):List (MK × A)->List MapEntry->Prop
 | [],[]=>True
 | (k,a)::es,m::ms=>(k.kd=kd/\m.key=k.val/\Rz g a m.val)/\MRz g kd es ms
 | _,_=>False
theorem MRz.mono{g m:Gh}(q:g.le m){kd:Nat}:∀{es:List (MK × A)} {ms:List MapEntry},MRz g kd es ms->MRz m kd es ms
 | [],[],_=>trivial
 | (_,_)::_,_::_,h=>⟨⟨h.1.1,h.1.2.1,h.1.2.2.mono q⟩,h.2.mono q⟩
 | [],_::_,h=>h.elim
 | _::_,[],h=>h.elim
def ObRz(g:Gh):Ob->Option Obj->Prop
 | .cells e cs,x=>∃vs rest,x=some (.cells (vs++rest).toArray e)/\Rzs g cs vs/\∀c,c∈cs->c.one=true
 | .iter s pos,x=>x=some (.stringIter ⟨s.toArray⟩ pos)
 | .map kd es,x=>∃ms h,x=some (.map ms h)/\MRz g kd es ms.toList
theorem ObRz.mono{g u:Gh}(y:g.le u){o:Ob}{x:Option Obj}(h:ObRz g o x):ObRz u o x:=by
 cases o with
 | cells e cs=>obtain⟨vs,rest,m,q,z⟩:=h;exact⟨vs,rest,m,q.mono y,z⟩
 | iter s pos=>exact h
 | map kd es=>obtain⟨ms,c,m,q⟩:=h;exact⟨ms,c,m,q.mono y⟩
abbrev Fr:=Nat->Option (Obj × Option (List Value))
def Gh.ends(g:Gh)(t n:Nat)(x:A):Prop:=∃b cap pre,g.eta t (n+1)=some (.slice (some ⟨b,0,none⟩) (n+1) cap)/\g.eta t n=some (.slice (some ⟨b,0,none⟩) n cap) /\
 n+1<=cap/\cap<=maxLen/\g.pi b=some pre/\(n+1) * x.cells.length<=pre.length/\(∀c,c∈x.cells->c.one=true) /\
 ∀(j:Nat) (c:A) (v:Value),x.cells[j]?=some c->pre[n * x.cells.length+j]?=some v->Rz g c v
theorem Gh.ends.mono{g q:Gh}(m:g.le q){t n:Nat}{x:A}(h:g.ends t n x):q.ends t n x:=by
 obtain⟨b,cap,pre,y,z,B,G,H,L,M,O⟩:=h;obtain⟨ext,U⟩:=m.pi b pre H;refine⟨b,cap,_,m.eta _ _ _ y,m.eta _ _ _ z,B,G,U,by simp;omega,M,λj c v u S=>(O j c v u (aC8 ?_ S)).mono m⟩;have:=(dG.1 u).1;rw[eT]at L;omega
structure R (C:Ctx) (F:Fr) (g:Gh) (s:St) (w:World):Prop where
 obj:∀b o,s.getO b=some o->∃k,g.beta b=some k/\ObRz g o w.heap[k]?/\g.pi k=none/\F k=none
 tok:∀t n e,s.getT t=some (n,e)->∃v xs,g.eta t n=some v/\w.ownsRow 0 e (C.sz e) v n xs/\(∀m x,g.eta t m=some x->m<=n) /\
  ∀b,v.ownBlock=some b->g.pi b=some xs/\F b=none
 sep:∀t t' n n' v v' b,t≠t'->s.getT t=some n->s.getT t'=some n'->g.eta t n.1=some v->g.eta t' n'.1=some v' ->
  v.ownBlock=some b->v'.ownBlock=some b->False
 pis:∀b pre,g.pi b=some pre->∃rest e fr,w.heap[b]?=some (.cells (pre++rest).toArray e fr)
 frm:∀b o,F b=some o->w.heap[b]?=some o.1/\g.pi b=o.2
 glb:∀b cs,C.gl b=some cs->∃pre ty fr,F b=some (.cells pre.toArray ty fr,some pre)/\pre.length=cs.length/\(∀c,c∈cs->c.one=true) /\
  ∀(j:Nat) (c:A) (v:Value),cs[j]?=some c->pre[j]?=some v->Rz g c v
 fsh:∃N,∀t,N<=t->s.getT t=none/\(∀m,g.eta t m=none)/\g.beta t=none
 bet:∀b k,g.beta b=some k->k<w.heap.size
 inj:∀b b' k,g.beta b=some k->g.beta b'=some k->b=b'
 dtm:C.det=true->∀b,s.lim<=b->g.beta b=none/\∀m,g.eta b m=none
 lst:∀x,s.ls=some x->g.ends x.1 x.2.1 x.2.2
 bfr:∀b k,g.beta b=some k->F k=none
 env:(w.os,w.output)=g.env
section
variable {C:Ctx} {F:Fr} {g:Gh} {s:St} {w:World}
theorem R.weaken(h:R C F g s w){s':St}(m:s.ge s')(hl:C.det=true->s.lim<=s'.lim):R C F g s' w where
 env:=h.env
 obj:=λb o ho=>h.obj b o (m.ob b o ho)
 tok:=λt n e q=>h.tok t n e (m.tk t _ q)
 sep:=λt G n B v O b u q y=>h.sep t G n B v O b u (m.tk t n q) (m.tk G B y)
 pis:=h.pis
 frm:=h.frm
 glb:=h.glb
 fsh:=by
  obtain⟨N,z⟩:=h.fsh;refine⟨N,λt q=>⟨?_,(z t q).2⟩⟩;cases L:s'.getT t with
  | none=>rfl
  | some n=>have:=m.tk t n L;rw[(z t q).1]at this;cases this
 bet:=h.bet
 inj:=h.inj
 dtm:=λhd b H=>h.dtm hd b (lQ (hl hd) H)
 lst:=λx M=>h.lst x (m.ls x M)
 bfr:=h.bfr
theorem R.setL(h:R C F g s w){x:Option (Nat × Nat × A)}(m:∀y,x=some y->g.ends y.1 y.2.1 y.2.2):R C F g (s.setL x) w where
 env:=h.env
 obj:=h.obj
 tok:=h.tok
 sep:=h.sep
 pis:=h.pis
 frm:=h.frm
 glb:=h.glb
 fsh:=h.fsh
 bet:=h.bet
 inj:=h.inj
 dtm:=h.dtm
 lst:=m
 bfr:=h.bfr
theorem R.heap(h:R C F g s w){w':World}(m:w'.heap=w.heap)(B:(w'.os,w'.output)=(w.os,w.output):=by rfl):R C F g s w' where
 env:=B.trans h.env
 obj:=by rw[m];exact h.obj
 tok:=by
  intro t n e G;obtain⟨v,xs,q,u,y,z⟩:=h.tok t n e G;refine⟨v,xs,q,?_,y,z⟩;simpa [World.ownsRow,m]using u
 sep:=h.sep
 pis:=by rw[m];exact h.pis
 frm:=by rw[m];exact h.frm
 glb:=h.glb
 fsh:=h.fsh
 bet:=by rw[m];exact h.bet
 inj:=h.inj
 dtm:=h.dtm
 lst:=h.lst
 bfr:=h.bfr
theorem R.lt_pi(h:R C F g s w){b:Nat}{pre:List Value}(ho:g.pi b=some pre):b<w.heap.size:=by
 obtain⟨rest,e,fr,m⟩:=h.pis b pre ho;exact(fQ.1 m).1
theorem R.lt_frm(h:R C F g s w){b:Nat}{o:Obj × Option (List Value)}(ho:F b=some o):b<w.heap.size :=
 (fQ.1 (h.frm b o ho).1).1
theorem R.gpi(h:R C F g s w){b:Nat}{cs:List A}(G:C.gl b=some cs):∃pre ty fr,w.heap[b]?=some (.cells pre.toArray ty fr)/\g.pi b=some pre/\pre.length=cs.length/\(∀c,c∈cs->c.one=true) /\
  ∀(j:Nat) (c:A) (v:Value),cs[j]?=some c->pre[j]?=some v->Rz g c v:=by
 obtain⟨pre,ty,fr,m,q,u,y⟩:=h.glb b cs G;obtain⟨z,B⟩:=h.frm b _ m;exact⟨pre,ty,fr,z,B,q,u,y⟩
theorem aKA{w w':World}(q:∀b,b<w.heap.size->w'.heap[b]?=w.heap[b]?){k:Nat}(h:k<w.heap.size):k<w'.heap.size:=by
 have m:=q k h;rw[wU h]at m;exact(fQ.1 m).1
theorem R.keep(h:R C F g s w){w':World}(m:∀b,b<w.heap.size->w'.heap[b]?=w.heap[b]?)(M:(w'.os,w'.output)=(w.os,w.output):=by rfl):R C F g s w' where
 env:=M.trans h.env
 obj:=λb o ho=>by
  obtain⟨k,q,u⟩:=h.obj b o ho;exact⟨k,q,by rw[m k (h.bet b k q)];exact u⟩
 tok:=by
  intro t n e O;obtain⟨v,xs,q,u,H,L⟩:=h.tok t n e O;refine⟨v,xs,q,⟨u.1,?_⟩,H,L⟩;rcases u.2 with h|⟨b,cap,y,S,z,B,rest⟩
  .exact .inl h
  .exact .inr ⟨b,cap,y,S,z,by rw[m b (fQ.1 B).1];exact B,rest⟩
 sep:=h.sep
 pis:=λb pre G=>by rw[m b (h.lt_pi G)];exact h.pis b pre G
 frm:=λb o ho=>by rw[m b (h.lt_frm ho)];exact h.frm b o ho
 glb:=h.glb
 fsh:=h.fsh
 bet:=λb k z=>aKA m (h.bet b k z)
 inj:=h.inj
 dtm:=h.dtm
 lst:=h.lst
 bfr:=h.bfr
end
end
section
section
variable {C:Ctx} {F:Fr} {g:Gh} {s:St} {w:World}
theorem sO(w:World)(o:Obj):(w.alloc o).heap[w.heap.size]?=some o:=by
 show(w.heap.push o)[w.heap.size]?=some o;simp
theorem rD(w:World)(o:Obj){b:Nat}(h:b<w.heap.size):(w.alloc o).heap[b]?=w.heap[b]?:=by
 show(w.heap.push o)[b]?=w.heap[b]?;rw[Array.getElem?_push];have:b≠w.heap.size:=Nat.ne_of_lt h;simp[this]
theorem R.pi_new(h:R C F g s w):g.pi w.heap.size=none:=by
 cases m:g.pi w.heap.size with
 | none=>rfl
 | some pre=>exact cV (h.lt_pi m) (Nat.lt_irrefl _)
theorem R.frm_new(h:R C F g s w):F w.heap.size=none:=by
 cases m:F w.heap.size with
 | none=>rfl
 | some pre=>exact cV (h.lt_frm m) (Nat.lt_irrefl _)
theorem R.bet_new(h:R C F g s w)(b:Nat):g.beta b≠some w.heap.size:=λm=>cV (h.bet b _ m) (Nat.lt_irrefl _)
def Gh.bx(g:Gh)(b k:Nat):Gh:={ g with beta:=λc=>if c=b then some k else g.beta c }
theorem uZ{g:Gh}{b:Nat}(h:g.beta b=none)(k:Nat):g.le (g.bx b k) :=
 ⟨fun c pre q => ⟨[],by simpa [Gh.bx] using q⟩,fun _ _ _ h => h,fun c j m => by
  have:c≠b:=by rintro rfl;rw[h]at m;cases m
  simp[Gh.bx,this,m],rfl⟩
theorem R.free(h:R C F g s w){b:Nat}(q:g.beta b=none):s.getO b=none:=by
 cases ho:s.getO b with
 | none=>rfl
 | some o=>obtain⟨k,m,_⟩:=h.obj b o ho;rw[q]at m;cases m
theorem R.freeT(h:R C F g s w){t:Nat}(q:∀n,g.eta t n=none):s.getT t=none:=by
 cases ho:s.getT t with
 | none=>rfl
 | some o=>obtain⟨n,e⟩:=o;obtain⟨v,xs,m,_⟩:=h.tok t n e ho;rw[q]at m;cases m
theorem R.newObj(h:R C F g s w){o:Obj}{ob:Ob}(ho:ObRz g ob (some o)){b:Nat}(hb:g.beta b=none){s':St}
  (hO:∀q,s'.getO q=if b=q then some ob else s.getO q)(U:∀q,s'.getT q=s.getT q)(hL:s'.ls=s.ls)(hl:C.det=true->s.lim<=s'.lim/\b<s'.lim) :
  R C F (g.bx b w.heap.size) s' (w.alloc o):=by
 have u:=uZ hb w.heap.size;have Z:∀k,k<w.heap.size->(w.alloc o).heap[k]?=w.heap[k]?:=λk Z=>rD w o Z
 have B:=h.keep Z;refine⟨λc x y=>?_,?_,?_,B.pis,B.frm,λc cs m=>?_,?_,?_,?_,λhd c m=>?_,λx y=>(h.lst x (by rw[<-hL];exact y)).mono u,λc k m=>?_,h.env⟩
 .rw[hO]at y;by_cases H:b=c
  .subst H;simp only[↓reduceIte,bI]at y;subst y;exact⟨w.heap.size,by simp[Gh.bx],by rw[sO];exact ho.mono u,h.pi_new,h.frm_new⟩
  .simp only[H,↓reduceIte]at y;obtain⟨k,G,M,O⟩:=B.obj c x y;exact⟨k,u.beta _ _ G,M.mono u,O⟩
 .intro t n e z;rw[U]at z;obtain⟨v,xs,G,M,O,h4⟩:=B.tok t n e z;exact⟨v,xs,G,M,O,h4⟩
 .intro t t' n n' v v' c b0 z L;rw[U]at z L;exact B.sep t t' n n' v v' c b0 z L
 .obtain⟨pre,ty,fr,hp,hl,G,hr⟩:=h.glb c cs m;exact⟨pre,ty,fr,hp,hl,G,λj c v m hv=>(hr j c v m hv).mono u⟩
 .obtain⟨N,S⟩:=h.fsh;refine⟨max N (b+1),λt z=>⟨by rw[U];exact(S t aB).1,(S t aB).2.1,?_⟩⟩;have:t≠b:=by omega
  simp[Gh.bx,this,(S t aB).2.2]
 .intro c k m;simp only[Gh.bx]at m;have e:(w.alloc o).heap.size=w.heap.size+1:=by show(w.heap.push o).size=_;simp
  split at m
  .cases m;omega
  .have:=h.bet c k m;omega
 .intro c d k m hd;simp only[Gh.bx]at m hd;split at m<;>split at hd
  .omega
  .cases m;exact cV hd (h.bet_new d)
  .cases hd;exact cV m (h.bet_new c)
  .exact h.inj c d k m hd
 .obtain⟨l1,l2⟩:=hl hd;obtain⟨d1,d2⟩:=h.dtm hd c aB;have:c≠b:=by omega
  exact⟨by simp[Gh.bx,this,d1],d2⟩
 .simp only[Gh.bx]at m;split at m
  .cases m;exact h.frm_new
  .exact h.bfr c k m
theorem R.some_free(h:R C F g s w):∃b,g.beta b=none:=by
 obtain⟨N,m⟩:=h.fsh;exact⟨N,(m N (bL _)).2.2⟩
theorem R.setObj(h:R C F g s w){b k:Nat}{o:Ob}(hs:s.getO b=some o)(u:g.beta b=some k){ob:Ob}{w':World}
  (G:∀j,j≠k->w'.heap[j]?=w.heap[j]?)(ho:ObRz g ob w'.heap[k]?)(he:(w'.os,w'.output)=(w.os,w.output):=by rfl):R C F g (s.setO b ob) w':=by
 obtain⟨k',O,_,y,U⟩:=h.obj b o hs;rw[u]at O;cases O;refine⟨λc x m=>?_,?_,h.sep,λc pre M=>?_,λc x m=>?_,h.glb,h.fsh,λc j hc=>?_,h.inj,h.dtm,h.lst,h.bfr,he.trans h.env⟩
 .rw[aH]at m;by_cases B:b=c
  .subst B;simp only[↓reduceIte,bI]at m;subst m;exact⟨k,u,ho,y,U⟩
  .simp only[B,↓reduceIte]at m;obtain⟨j,z,q⟩:=h.obj c x m;have:j≠k:=by rintro rfl;exact B (h.inj b c j u z)
   exact⟨j,z,by rw[G j this];exact q⟩
 .intro t n e ht;obtain⟨v,xs,z,q,h3,S⟩:=h.tok t n e ht;refine⟨v,xs,z,⟨q.1,?_⟩,h3,S⟩;rcases q.2 with H|⟨j,cap,L,H,B,hh,rest⟩
  .exact .inl H
  .refine .inr ⟨j,cap,L,H,B,?_,rest⟩
   have:j≠k:=by
    rintro rfl;have:=(S j (by rw[H];rfl)).1;rw[y]at this;cases this
   rw[G j this];exact hh
 .have:c≠k:=by rintro rfl;rw[y]at M;cases M
  rw[G c this];exact h.pis c pre M
 .have:c≠k:=by rintro rfl;rw[U]at m;cases m
  rw[G c this];exact h.frm c x m
 .have z:=h.bet c j hc;by_cases Z:j=k
  .subst Z;cases ob with
   | cells e0 cs=>obtain⟨vs,rest,m,_⟩:=ho;exact(fQ.1 m).1
   | iter x p=>exact(fQ.1 ho).1
   | map kd es=>obtain⟨ms,c,m,_⟩:=ho;exact(fQ.1 m).1
  .have q:=G j Z;rw[wU z]at q;exact(fQ.1 q).1
def Gh.know(g:Gh)(b:Nat)(vs:List Value):Gh:={ g with pi:=λk=>if k=b then some vs else g.pi k }
theorem aAc{g:Gh}{b:Nat}(h:g.pi b=none)(vs:List Value):g.le (g.know b vs) :=
 ⟨fun k pre m => ⟨[],by
  have:k≠b:=by rintro rfl;rw[h]at m;cases m
  simp[Gh.know,this,m]⟩,λ_ _ _ h=>h,λ_ _ h=>h,rfl⟩
theorem aJA{g:Gh}{b:Nat}(h:g.pi b=none)(vs:List Value):g.les (g.know b vs):=⟨aAc h vs,rfl,rfl⟩
theorem R.ghost(h:R C F g s w){u:Gh}(B:g.le u)
  (U:∀b k,g.beta b=some k->g.pi k=none->u.pi k=none)
  (G:∀b pre,u.pi b=some pre->∃rest e fr,w.heap[b]?=some (.cells (pre++rest).toArray e fr))
  (H:∀t n e v b xs,s.getT t=some (n,e)->g.eta t n=some v->v.ownBlock=some b->g.pi b=some xs->u.pi b=some xs)
  (q:u.eta=g.eta)(m:u.beta=g.beta)(S:∀b o,F b=some o->u.pi b=g.pi b):R C F u s w where
 env:=h.env.trans B.env.symm
 obj:=λb o ho=>by
  obtain⟨k,y,M,O,L⟩:=h.obj b o ho;exact⟨k,B.beta _ _ y,M.mono B,U b k y O,L⟩
 tok:=by
  intro t n e Z;obtain⟨v,xs,y,M,O,L⟩:=h.tok t n e Z;exact⟨v,xs,by rw[q];exact y,M,by rw[q];exact O,λb z=>⟨H t n e v b xs Z y z (L b z).1,(L b z).2⟩⟩
 sep:=by rw[q];exact h.sep
 pis:=G
 frm:=λb o ho=>by rw[S b o ho];exact h.frm b o ho
 glb:=λb cs z=>by
  obtain⟨pre,ty,fr,hp,hl,y,hr⟩:=h.glb b cs z;exact⟨pre,ty,fr,hp,hl,y,λj c v hc hv=>(hr j c v hc hv).mono B⟩
 fsh:=by rw[q,m];exact h.fsh
 bet:=by rw[m];exact h.bet
 inj:=by rw[m];exact h.inj
 dtm:=by rw[q,m];exact h.dtm
 lst:=λx hx=>(h.lst x hx).mono B
 bfr:=by rw[m];exact h.bfr
theorem R.newRow(h:R C F g s w)(vs:List Value)(e:TypeId)(rest:List Value)(fr:Nat × Nat:=(0,0)) :
  R C F (g.know w.heap.size vs) s (w.alloc (.cells (vs++rest).toArray e fr))/\g.les (g.know w.heap.size vs):=by
 have u:=aAc h.pi_new vs
 refine⟨(h.keep (w':=w.alloc (.cells (vs++rest).toArray e fr)) (λb m=>rD w _ m)).ghost u ?_ ?_ ?_ rfl rfl (λb o ho=>by
  have:b≠w.heap.size:=Nat.ne_of_lt (h.lt_frm ho);simp only[Gh.know,this,↓reduceIte]),aJA h.pi_new vs⟩
 .intro b k m q;have:k≠w.heap.size:=Nat.ne_of_lt (h.bet b k m);simp only[Gh.know,this,↓reduceIte];exact q
 .intro b pre q;by_cases m:b=w.heap.size
  .subst m;simp only[Gh.know,↓reduceIte,bI]at q;subst q;exact⟨rest,e,fr,sO w _⟩
  .simp only[Gh.know,m,↓reduceIte]at q;rw[rD w _ (h.lt_pi q)];exact h.pis b pre q
 .intro t n e v b xs _ _ m y;have:b≠w.heap.size:=Nat.ne_of_lt (h.lt_pi y);simp only[Gh.know,this,↓reduceIte];exact y
def cY(es:List A):List A:=es.flatMap A.cells
theorem aEJ(a b:List A):cY (a++b)=cY a++cY b:=by simp[cY]
theorem uI{es:List A}{sz:Nat}(h:∀e,e∈es->e.cells.length=sz):(cY es).length=es.length * sz:=by
 induction es with
 | nil=>simp[cY]
 | cons e es q =>
  have:=q (λx m=>h x (by simp[m]));simp only[cY,kP,aI,aO]at *;rw[this,h e aW,eT];omega
theorem aMj{es:List A}{sz:Nat}(h:∀e,e∈es->e.cells.length=sz){i:Nat}{e:A}(m:es[i]?=some e){j:Nat}{c:A}
  (q:e.cells[j]?=some c):(cY es)[i * sz+j]?=some c:=by
 induction es generalizing i with
 | nil=>simp at m
 | cons x es B =>
  simp only[cY,kP];cases i with
  | zero =>
   simp only[iZ,bI]at m;subst m;have hl:j<x.cells.length:=(dG.1 q).1;rw[Nat.zero_mul,fX,gO hl,q]
  | succ i =>
   have u:=h x aW;have:=B (λy z=>h y (by simp[z])) (i:=i) (gQ m);rw[nO (by rw[u,eT];omega),u];have e:(i+1) * sz+j-sz=i * sz+j:=by rw[eT];omega
   rw[e];exact this
theorem sS{g:Gh}{tk:Option Nat}{es:List A}{b sz cap off:Nat}{pre vs:List Value}(S:g.pi b=some pre)(h:pre.drop off=vs)(B:Rzs g (cY es) (vs.take (es.length * sz)))
  (m:∀e,e∈es->e.cells.length=sz)(G:∀e,e∈es->∀c,c∈e.cells->c.one=true)(L:es.length<=cap)(O:cap<=maxLen)
  (ho:off<=pre.length)
  (U:∀t,tk=some t->g.eta t es.length=some (.slice (some ⟨b,off,none⟩) es.length cap)) :
  Rz g (.list tk es) (.slice (some ⟨b,off,none⟩) es.length cap):=by
 have hl:(vs.take (es.length * sz)).length=es.length * sz:=by rw[B.1,uI m]
 have y:es.length * sz<=vs.length:=by rw[dV]at hl;omega
 subst h;rw[cS]at y;refine .list tk es b off sz cap pre S aB L O m G (λi e j c v q z Z=>?_) U
 have H:i * sz+j<es.length * sz:=by
  have u:i<es.length:=(dG.1 q).1;have M:j<e.cells.length:=(dG.1 z).1;have:=m e (cR q);have:(i+1) * sz<=es.length * sz:=nP _ u;rw[eT]at this;omega
 refine B.2 (i * sz+j) c v (aMj m q z) ?_;rw[kC,aE H,jL,<-lP];exact Z
theorem Rz.list_inv{g:Gh}{tk:Option Nat}{es:List A}{v:Value}(h:Rz g (.list tk es) v) :
  ∃a cap,v=.slice a es.length cap/\cap<=maxLen/\es.length<=cap/\(∀t,tk=some t->g.eta t es.length=some v)/\(es=[]\/∃b off sz pre,a=some ⟨b,off,none⟩/\g.pi b=some pre/\off+es.length * sz<=pre.length /\
   (∀e,e∈es->e.cells.length=sz)/\(∀e,e∈es->∀c,c∈e.cells->c.one=true) /\
   (∀(i:Nat) (e:A) (j:Nat) (c:A) (v:Value),es[i]?=some e->e.cells[j]?=some c->pre[off+i * sz+j]?=some v->Rz g c v)):=by
 cases h with
 | list tk es b off sz cap pre z hl y m B u h q =>
  exact⟨_,cap,rfl,m,y,q,.inr ⟨b,off,sz,pre,rfl,z,hl,B,u,h⟩⟩
 | list0 tk a cap m q=>exact⟨a,cap,rfl,m,aX _,q,.inl rfl⟩
theorem Rz.to_flat{g:Gh}{tk:Option Nat}{es:List A}{v:Value}(h:Rz g (.list tk es) v) :
  ∃a cap,v=.slice a es.length cap/\cap<=maxLen/\es.length<=cap/\(es=[]\/∃b off sz pre,a=some ⟨b,off,none⟩/\g.pi b=some pre/\off+es.length * sz<=pre.length /\
   (∀e,e∈es->e.cells.length=sz)/\(∀e,e∈es->∀c,c∈e.cells->c.one=true)/\Rzs g (cY es) ((pre.drop off).take (es.length * sz))):=by
 cases h with
 | list tk es b off sz cap pre S hl M G q L h U =>
  refine⟨_,cap,rfl,G,M,.inr ⟨b,off,sz,pre,rfl,S,hl,q,L,?_,?_⟩⟩
  .rw[uI q,dV,cS];omega
  .intro k c v m u;rw[kC]at u;split at u
   .rename_i O;rw[jL]at u
    have key:∀(l:List A) (k:Nat) (c:A),(∀e,e∈l->e.cells.length=sz)->(cY l)[k]?=some c ->
      ∃i e j,l[i]?=some e/\e.cells[j]?=some c/\k=i * sz+j:=by
     intro l
     induction l with
     | nil=>intro k c _ m;simp[cY]at m
     | cons x l ih =>
      intro k c q m;simp only[cY,kP]at m;by_cases Z:k<x.cells.length
      .rw[gO Z]at m;exact⟨0,x,k,by simp,m,by simp⟩
      .rw[nO aB,q x aW]at m;obtain⟨i,e,j,z,B,H⟩:=ih _ c (λy hy=>q y (by simp[hy])) m;have:=q x aW;exact⟨i+1,e,j,gQ z,B,by rw[eT];omega⟩
    obtain⟨i,e,j,z,B,H⟩:=key es k c q m;refine h i e j c v z B ?_;rw[H]at u;rw[lP];exact u
   .simp at u
 | list0 tk a cap G U=>exact⟨a,cap,rfl,G,aX _,.inl rfl⟩
end
end
section
section
variable {g:Gh}
theorem Rz.int_inv{k:IntKind}{n:Int}{v:Value}(h:Rz g (.int k n) v):v=.int k n:=by cases h;rfl
theorem Rz.bool_inv{b:Bool}{v:Value}(h:Rz g (.bool b) v):v=.bool b:=by cases h;rfl
theorem Rz.str_inv{s:List UInt8}{v:Value}(h:Rz g (.str s) v):v=.string ⟨s.toArray⟩:=by cases h;rfl
end
def zF:Nat->A->A->Option Bool
 | 0,.int j a,.int k b=>if j=k then some (decide (a=b)) else none
 | 1,.bool a,.bool b=>some (a == b)
 | 2,.str a,.str b=>some (decide (a=b))
 | _,_,_=>none
def tC:List Nat->List A->List A->Option Bool
 | [],[],[]=>some true
 | k::ks,a::r,b::l=>match zF k a b,tC ks r l with
  | some x,some y=>some (x&&y)
  | _,_=>none
 | _,_,_=>none
def nZ(P:Program)(t:TypeId)(k:Nat):Bool:=match P.underlying t with
 | some (.int _)=>k == 0
 | some .bool=>k == 1
 | some .string=>k == 2
 | _=>false
def rJ(P:Program):List Field->List Nat->Nat->Bool
 | [],[],_=>true
 | f :: r,k :: ks,i => (f.name != "_") && f.offset == i && nZ P f.type k && rJ P r ks (i + 1)
 | _,_,_=>false
def yQ(P:Program)(t:TypeId)(ks:List Nat):Bool :=
 !P.stoodInHeld t&&!P.eqGuardType P.depth t&&(match P.underlying t with
  | some (.struct h)=>rJ P h.toList ks 0
  | _=>false)
section
variable {P:Program} {g:Gh} {w:World}
theorem aOo{a b:A}{r:Bool}{k:Nat}{t:TypeId}{G H:Value}{d:Nat}(h:zF k a b=some r)(y:Rz g a G)(z:Rz g b H)(q:nZ P t k=true) :
  (Op.equalIn (d+1) t G H).run P w=.ok r w:=by
 unfold zF at h;split at h
 .split at h
  .rename_i u;subst u;simp only[bI]at h;subst h;have m:∃B,P.underlying t=some (.int B):=by unfold nZ at q;split at q<;>simp_all
   obtain⟨B,m⟩:=m;rw[y.int_inv,z.int_inv,run_equalIn_int w d t _ _ _ _ m];congr 1
  .simp at h
 .simp only[bI]at h;subst h;have m:P.underlying t=some .bool:=by unfold nZ at q;split at q<;>simp_all
  rw[y.bool_inv,z.bool_inv,run_equalIn_bool' w d t _ _ m]
 .simp only[bI]at h;subst h;have m:P.underlying t=some .string:=by unfold nZ at q;split at q<;>simp_all
  rw[y.str_inv,z.str_inv,run_equalIn_string w d t _ _ m];simp only[ByteArray.toList_mk];congr 1;rw[Bool.eq_iff_iff];simp
 .simp at h
theorem aAN{t:TypeId}{k:Nat}(m:nZ P t k=true){xs:Array Value}{i:Nat}{v:Value}(q:xs[i]?=some v):(part t xs i).run P w=.ok v w:=by
 unfold nZ at m
 split at m<;>first
  | (rename_i h;simp[part,isAgg,cL h,q];done)
  | (rename_i h _;simp[part,isAgg,cL h,q];done)
  | (rename_i h;simp only[part,isAgg,bE,cL h,bD,bO,cQ,cI,q];done)
  | cases m
theorem aCb{d:Nat}{xs ys:Array Value}:∀{u:List Field} {ks:List Nat} {az bs:List A} {i:Nat} {r:Bool},rJ P u ks i=true->tC ks az bs=some r ->
  Rzs g az (xs.toList.drop i)->Rzs g bs (ys.toList.drop i)->(Op.eqFields (d+1) xs ys u).run P w=.ok r w
 | [],[],[],[],i,r,_,h,_,_=>by simp only[tC,bI]at h;subst h;rfl
 | f::u,k::ks,a::az,b::bs,i,r,L,h,M,O=>by
  simp only[rJ,dI,bne_iff_ne,beq_iff_eq]at L;obtain⟨⟨⟨H,rfl⟩,z⟩,S⟩:=L;simp only[tC]at h;split at h
  .rename_i x y U Z;simp only[bI]at h;subst h;obtain⟨va,m,B⟩:=M.get (j:=0) (c:=a) aW;obtain⟨vb,q,G⟩:=O.get (j:=0) (c:=b) aW;rw[jL,Nat.add_zero,wV]at m q;have ih:=aCb (d:=d) (i:=f.offset+1) S Z (by have:=M.drop 1;simpa [pZ]using this) (by have:=O.drop 1;simpa [pZ]using this);simp only[Op.eqFields,aE H,bJ,H,eF,cM,bE,aAN z m,aAN z q,bD,aOo U B G z];cases x
   .simp
   .simp[ih]
  .simp at h
end
structure KeyTy (P:Program) (kt:TypeId) (kd:Nat):Prop where
 chk:∀k:MK,k.kd=kd->∀e w,(Instr.checkKey e 10000 kt k.val).run P w=.ok () w
 eq:∀k k':MK,k.kd=kd->k'.kd=kd->∀w,(Op.equal kt k.val k'.val).run P w=.ok (decide (k=k')) w
 und:∃d,P.underlying kt=some d/\∀k k':MK,k.kd=kd->k'.kd=kd->Instr.sameNow d k.val k'.val=some (decide (k=k'))\/Instr.sameNow d k.val k'.val=none
def fM(k:MK):List (MK × A)->List MapEntry->Nat->Option (Nat × Value)
 | (h,_)::es,m::ms,i=>if k=h then some (i,m.val) else fM k es ms (i+1)
 | _,_,_=>none
section
variable {P:Program} {g:Gh} {kt:TypeId} {kd:Nat}
theorem aE3{d:TypeDesc}{k:MK}(hd:∀k q:MK,k.kd=kd->q.kd=kd->Instr.sameNow d k.val q.val=some (decide (k=q))\/Instr.sameNow d k.val q.val=none)(y:k.kd=kd) :
  ∀{es:List (MK × A)} {ms:List MapEntry} (i:Nat),MRz g kd es ms->Instr.findNow d k.val ms i=some (fM k es ms i)\/Instr.findNow d k.val ms i=none
 | [],[],i,_=>.inl rfl
 | (q,a)::es,m::ms,i,h=>by
  obtain⟨⟨z,B,L⟩,G⟩:=h;have H:=aE3 hd y (i+1) G;simp only[Instr.findNow,B,fM];rcases hd k q y z with e|e<;>rw[e]
  .by_cases u:k=q
   .simp[u]
   .simpa [u]using H
  .exact .inr rfl
 | [],_::_,i,h=>h.elim
 | _::_,[],i,h=>h.elim
theorem aFr{k:MK}(u:KeyTy P kt kd)(y:k.kd=kd)(w:World) :
  ∀{es:List (MK × A)} {ms:List MapEntry} (i:Nat),MRz g kd es ms->(Instr.findAsking kt k.val ms i).run P w=.ok (fM k es ms i) w
 | [],[],i,_=>rfl
 | (z,a)::es,m::ms,i,h=>by
  obtain⟨⟨B,G,M⟩,H⟩:=h;have L:=aFr u y w (i+1) H;simp only[Instr.findAsking,bE,G,u.eq k z y B,bD,fM];by_cases q:k=z
  .simp[q]
  .simp[q,L]
 | [],_::_,i,h=>h.elim
 | _::_,[],i,h=>h.elim
theorem aGE{k:MK}(m:KeyTy P kt kd)(q:k.kd=kd)(w:World){es:List (MK × A)}{ms:List MapEntry}(h:MRz g kd es ms) :
  (Instr.findKey kt k.val ms).run P w=.ok (fM k es ms 0) w:=by
 obtain⟨d,hd,u⟩:=m.und;simp only[Instr.findKey,bE,cL hd,bD];rcases aE3 u q 0 h with e|e<;>rw[e]
 .rfl
 .exact aFr m q w 0 h
end
theorem aMw(a b:List UInt8):((⟨a.toArray⟩:ByteArray) == ⟨b.toArray⟩)=decide (a=b):=by
 rw[Bool.eq_iff_iff,Go.MapKept.bytes_beq];simp
theorem aLe{P:Program}{kt:TypeId}(h:P.underlying kt=some .string):KeyTy P kt 0 where
 chk:=λk q e w=>by
  cases k<;>simp[MK.kd]at q
  have y:∀n v,(Instr.checkKey e (n+1) kt v).run P w=_:=λn v=>by simp only[Instr.checkKey,bE,cL h,bD];rfl
  rw[show(10000:Nat)=9999+1 from rfl,y];rfl
 eq:=λk u q m w=>by
  cases k<;>simp[MK.kd]at q
  cases u<;>simp[MK.kd]at m
  rename_i a b;have:=run_equalIn_string (P:=P) w 9999 kt ⟨a.toArray⟩ ⟨b.toArray⟩ h;simp only[MK.val,Op.equal,Op.maxDepth];rw[this];congr 1;rw[Bool.eq_iff_iff];simp
 und:=⟨_,h,λk u q m=>by
  cases k<;>simp[MK.kd]at q
  cases u<;>simp[MK.kd]at m
  left;simp[MK.val,Instr.sameNow,aMw]⟩
theorem aLg{P:Program}{kt:TypeId}(h:P.underlying kt=some (.int .i64)):KeyTy P kt 1 where
 chk:=λk q e w=>by
  cases k<;>simp[MK.kd]at q
  have y:∀n v,(Instr.checkKey e (n+1) kt v).run P w=_:=λn v=>by simp only[Instr.checkKey,bE,cL h,bD];rfl
  rw[show(10000:Nat)=9999+1 from rfl,y];rfl
 eq:=λk u q m w=>by
  cases k<;>simp[MK.kd]at q
  cases u<;>simp[MK.kd]at m
  rename_i a b;have:=run_equalIn_int (P:=P) w 9999 kt .i64 .i64 a b h;simp only[MK.val,Op.equal,Op.maxDepth];rw[this];congr 1;rw[Bool.eq_iff_iff];simp
 und:=⟨_,h,λk u q m=>by
  cases k<;>simp[MK.kd]at q
  cases u<;>simp[MK.kd]at m
  left;simp[MK.val,Instr.sameNow];rw[Bool.eq_iff_iff];simp⟩
def wO:Nat->A->Option MK
 | 0,.str s=>some (.str s)
 | 1,.int .i64 n=>some (.int n)
 | 2,.agg [.str a,.str b]=>some (.two a b)
 | _,_=>none
def gB(k:MK):List (MK × A)->Option A
 | []=>none
 | (h,a)::es=>if k=h then some a else gB k es
def iD(k:MK)(v:A):List (MK × A)->List (MK × A)
 | []=>[(k,v)]
 | (h,a)::es=>if k=h then(h,v)::es else(h,a)::iD k v es
section
variable {P:Program} {g:Gh} {kt:TypeId} {kd:Nat}
theorem aHl{a:A}{mk:MK}{v:Value}(h:wO kd a=some mk)(m:Rz g a v):v=mk.val/\mk.kd=kd:=by
 unfold wO at h;split at h<;>simp only[bI,reduceCtorEq]at h<;>subst h
 .exact⟨m.str_inv,rfl⟩
 .exact⟨m.int_inv,rfl⟩
 .refine⟨?_,rfl⟩;cases m with
  | agg cs vs hl z h =>
   match vs,hl with
   | [x,y],_ =>
    have q:=(h 0 _ x rfl rfl).str_inv;have u:=(h 1 _ y rfl rfl).str_inv;subst q;subst u;rfl
theorem aHs{k:MK}:∀{es:List (MK × A)} {ms:List MapEntry} (i:Nat),MRz g kd es ms ->
  (gB k es=none/\fM k es ms i=none)\/∃a j v,gB k es=some a/\fM k es ms i=some (j,v)/\Rz g a v
 | [],[],i,_=>.inl ⟨rfl,rfl⟩
 | (z,a)::es,m::ms,i,h=>by
  obtain⟨⟨B,G,u⟩,y⟩:=h;simp only[gB,fM];by_cases q:k=z
  .exact .inr ⟨a,i,m.val,by simp[q],by simp[q],u⟩
  .simpa [q]using aHs (i+1) y
 | [],_::_,i,h=>h.elim
 | _::_,[],i,h=>h.elim
theorem aHD{k:MK}(M:k.kd=kd){a:A}{val:Value}(G:Rz g a val):∀{es:List (MK × A)} {ms:List MapEntry} (i:Nat),MRz g kd es ms ->
  (fM k es ms i=none/\∀born,MRz g kd (iD k a es) (ms++[{ key:=k.val,val:=val,born:=born }])) \/
  ∃n v m,fM k es ms i=some (i+n,v)/\ms[n]?=some m/\m.key=k.val/\MRz g kd (iD k a es) (ms.modify n λe=>{ e with key:=k.val,val:=val })
 | [],[],i,_=>.inl ⟨rfl,λborn=>⟨⟨M,rfl,G⟩,trivial⟩⟩
 | (U,x)::es,m::ms,i,h=>by
  obtain⟨⟨z,B,H⟩,L⟩:=h;simp only[fM,iD];by_cases q:k=U
  .subst q;exact .inr ⟨0,m.val,m,by simp,by simp,B,by simp only[↓reduceIte,List.modify_zero_cons];exact⟨⟨z,rfl,G⟩,L⟩⟩
  .simp only[q,↓reduceIte];rcases aHD M G (i+1) L with⟨u,y⟩|⟨n,v,Z,u,y,O,S⟩
   .exact .inl ⟨u,λborn=>⟨⟨z,B,H⟩,y born⟩⟩
   .exact .inr ⟨n+1,v,Z,by rw[u];simp;omega,gQ y,O,by simp only[List.modify_succ_cons];exact⟨⟨z,B,H⟩,S⟩⟩
 | [],_::_,i,h=>h.elim
 | _::_,[],i,h=>h.elim
theorem MK.same(k:MK):Instr.sameBits 10000 k.val k.val=true:=by
 cases k<;>simp[MK.val,Instr.sameBits,Go.MapKept.bytes_beq]
theorem aL9(k:MK)(w:World):(Instr.keyThatStays k.val k.val).run P w=.ok k.val w:=by
 simp[Instr.keyThatStays,k.same]
end
theorem aLl{P:Program}{kt:TypeId}(h:yQ P kt [2,2]=true):KeyTy P kt 2:=by
 simp only[yQ,dI,kO]at h;obtain⟨⟨h1,_⟩,m⟩:=h;split at m
 case h_2=>cases m
 rename_i fs z;obtain⟨fl⟩:=fs;have O:=m
 match fl,m,z with
 | [f,e],m,z =>
  simp only[rJ,dI,bne_iff_ne,beq_iff_eq]at m;obtain⟨⟨⟨n1,o1⟩,U⟩,⟨⟨n2,o2⟩,Z⟩,_⟩:=m;have u1:P.underlying f.type=some .string:=by unfold nZ at U;split at U<;>simp_all
  have u2:P.underlying e.type=some .string:=by unfold nZ at Z;split at Z<;>simp_all
  have str:∀(t:TypeId),P.underlying t=some .string->∀e n (s:ByteArray) w,(Instr.checkKey e (n+1) t (.string s)).run P w=.ok () w:=by
   intro t ht e n s w;simp only[Instr.checkKey,bE,cL ht,bD];rfl
  refine⟨λk G L w=>?_,λk S G q w=>?_,⟨_,z,λk S G q=>?_⟩⟩
  .cases k<;>simp[MK.kd]at G
   rename_i a b;have p1:(part f.type #[.string ⟨a.toArray⟩,.string ⟨b.toArray⟩] f.offset).run P w=.ok (.string ⟨a.toArray⟩) w:=aAN U (by rw[o1];rfl);have p2:(part e.type #[.string ⟨a.toArray⟩,.string ⟨b.toArray⟩] e.offset).run P w=.ok (.string ⟨b.toArray⟩) w:=aAN Z (by rw[o2];rfl)
   have M:∀n,(Instr.checkKey L (n+1+1) kt (.agg #[.string ⟨a.toArray⟩,.string ⟨b.toArray⟩])).run P w=.ok () w:=by
    intro n;rw[Instr.checkKey];simp[cL z,n1,n2,p1,p2,str f.type u1 L n ⟨a.toArray⟩ w,str e.type u2 L n ⟨b.toArray⟩ w]
   exact M 9998
  .cases k<;>simp[MK.kd]at G
   cases S<;>simp[MK.kd]at q
   rename_i a b u y;have B:P.fieldsOf kt=#[f,e]:=by simp[Program.fieldsOf,z]
   have r1:Rzs ⟨λ_=>none,λ_ _=>none,λ_=>none,default,#[]⟩ [.str a,.str b] [.string ⟨a.toArray⟩,.string ⟨b.toArray⟩]:=.cons (.str a) (.cons (.str b) (.nil _));have r2:Rzs ⟨λ_=>none,λ_ _=>none,λ_=>none,default,#[]⟩ [.str u,.str y] [.string ⟨u.toArray⟩,.string ⟨y.toArray⟩]:=.cons (.str u) (.cons (.str y) (.nil _))
   have H:=aCb (P:=P) (w:=w) (d:=9998) (i:=0) (xs:=#[.string ⟨a.toArray⟩,.string ⟨b.toArray⟩]) (ys:=#[.string ⟨u.toArray⟩,.string ⟨y.toArray⟩]) (r:=decide (MK.two a b=MK.two u y)) O (az:=[.str a,.str b]) (bs:=[.str u,.str y])
    (by simp[tC,zF]) r1 r2
   show(Op.equalIn 10000 kt _ _).run P w=_;rw[show 10000=9999+1 from rfl];simp only[MK.val];rw[run_equalIn_struct w 9999 kt _ _ (by rw[B];exact z) h1,B];exact H
  .right;cases k<;>simp[MK.kd]at G
   cases S<;>simp[MK.kd]at q
   rfl
 | [],m,_=>simp[rJ]at m
 | [_],m,_=>simp[rJ]at m
 | _::_::_::_,m,_=>simp[rJ]at m
def aDi(P:Program)(kt:TypeId):Nat->Bool
 | 0=>match P.underlying kt with
  | some .string=>true
  | _=>false
 | 1=>match P.underlying kt with
  | some (.int k)=>decide (k=.i64)
  | _=>false
 | 2=>yQ P kt [2,2]
 | _=>false
theorem aLE{P:Program}{kt:TypeId}{kd:Nat}(h:aDi P kt kd=true):KeyTy P kt kd:=by
 unfold aDi at h;split at h
 .split at h
  .rename_i m;exact aLe m
  .cases h
 .split at h
  .rename_i m;simp only[dA]at h;subst h;exact aLg m
  .cases h
 .exact aLl h
 .cases h
end
abbrev Env:=List (Nat × A)
def Env.get:Env->Nat->Option A
 | [],_=>none
 | (k,v)::e,t=>if k=t then some v else Env.get e t
def Env.put:Env->Nat->A->Env
 | [],t,v=>[(t,v)]
 | (k,u)::e,t,v=>if k=t then(t,v)::e else(k,u)::Env.put e t v
def Env.del:Env->Nat->Env
 | [],_=>[]
 | (k,u)::e,t=>if k=t then Env.del e t else(k,u)::Env.del e t
def Env.keep(V:List Nat):Env->Env
 | []=>[]
 | (k,u)::e=>if V.elem k then(k,u)::Env.keep V e else Env.keep V e
theorem jP(e:Env)(t:Nat)(v:A)(u:Nat):(e.put t v).get u=if t=u then some v else e.get u:=by
 induction e with
 | nil=>simp[Env.put,Env.get]
 | cons x e q =>
  obtain⟨k,w⟩:=x;simp only[Env.put];by_cases h:k=t
  .subst h;simp only[↓reduceIte,Env.get];split<;>simp_all
  .simp only[h,↓reduceIte,Env.get,q];by_cases m:k=u
   .subst m;have:¬ t=k:=λe=>h e.symm
    simp[this]
   .simp[m]
theorem aEw(e:Env)(t u:Nat):(e.del t).get u=if t=u then none else e.get u:=by
 induction e with
 | nil=>simp[Env.del,Env.get]
 | cons x e q =>
  obtain⟨k,w⟩:=x;simp only[Env.del];by_cases h:k=t
  .subst h;simp only[↓reduceIte,q,Env.get];split<;>simp_all
  .simp only[h,↓reduceIte,Env.get,q];by_cases m:k=u
   .subst m;have:¬ t=k:=λe=>h e.symm
    simp[this]
   .simp[m]
theorem aI0(V:List Nat)(e:Env)(u:Nat)(a:A)(h:(e.keep V).get u=some a):e.get u=some a:=by
 induction e with
 | nil=>simp[Env.keep,Env.get]at h
 | cons x e B =>
  obtain⟨k,w⟩:=x;simp only[Env.keep]at h;simp only[Env.get];by_cases q:k=u
  .subst q;simp only[↓reduceIte];split at h
   .simpa [Env.get]using h
   .rename_i H
    have:∀e:Env,(Env.keep V e).get k=none:=by
     intro e
     induction e with
     | nil=>rfl
     | cons y e m =>
      obtain⟨j,z⟩:=y;simp only[Env.keep];split
      .rename_i G;have:¬ j=k:=by rintro rfl;exact H G
       simp[Env.get,this,m]
      .exact m
    rw[this]at h;cases h
  .simp only[q,↓reduceIte];split at h
   .simp only[Env.get,q,↓reduceIte]at h;exact B h
   .exact B h
inductive TK where
 | int (k:IntKind)|bool|string
 | slice (e:TypeId)|array (n:Nat) (e:TypeId)|struct (fs:List (Nat × Nat × Bool))
 | iface|other
 | map (e:TypeId) (kd:Nat)
structure TI where
 k:TK
 sz:Nat
 bytes:Nat
 zero:List A
def TK.agg:TK->Bool
 | .array ..|.struct _=>true
 | _=>false
def tU:Option TypeDesc->Bool
 | some (.struct _)|some (.array _ _)=>true
 | _=>false
def TK.ok(P:Program)(k:TK)(d:TypeDesc):Prop :=
 match k with
 | .int k=>d=.int k
 | .bool=>d=.bool
 | .string=>d=.string
 | .slice e=>d=.slice e
 | .array n e=>d=.array n e
 | .struct m=>∃h,d=.struct h/\h.size=m.length/\∀(i o s:Nat) (a:Bool),m[i]?=some (o,s,a) ->
   ∃f,h[i]?=some f/\f.offset=o/\(P.info? f.type).map (·.size)=some s/\s≠0/\(P.underlying f.type).isSome=true/\tU (P.underlying f.type)=a
 | .iface=>∃ms,d=.interface ms
 | .map e kd=>∃kt,d=.map kt e/\KeyTy P kt kd
 | .other=>tU (some d)=false/\(∀ms,d≠.interface ms)
structure TI.ok (P:Program) (t:TypeId) (ti:TI):Prop where
 info:∃i z,P.info? t=some i/\i.size=ti.sz/\i.bytes=ti.bytes/\i.zero=some z/\(∀g,Rzs g ti.zero z.cells.toList)
 one:∀c,c∈ti.zero->c.one=true
 len:ti.zero.length=ti.sz
 und:∃d,P.underlying t=some d/\ti.k.ok P d
 shp:∀i z,P.info? t=some i->i.zero=some z->(ti.k.agg=true->∃xs,z=.agg xs)/\(ti.k.agg=false->∀xs,z≠.agg xs)
structure Cx extends Ctx where
 tt:TypeId->Option TI
 htt:∀t ti,tt t=some ti->ti.ok P t
 cv:TypeId->TypeId->Option TypeId
 hcv:∀a b e,cv a b=some e->∀(w:World) (k:Nat) (vs:Array Value),w.heap[k]?=some (.cells vs e)->P.cellsOf e<=vs.size ->
  (convert a b (.pointer (some ⟨k,0,none⟩))).run P w=.ok (.pointer (some ⟨k,0,none⟩)) w
 hcs:∀a b e,cv a b=some e->(tt e).map (·.sz)=some (P.cellsOf e)
 cw:TypeId->Option TypeId:=λ_=>none
 hcw:∀a b e' e,cv a b=some e'->cw e=some e'->∀(w:World) (k:Nat) (vs:Array Value),w.heap[k]?=some (.cells vs e)->P.cellsOf e'<=vs.size ->
  (convert a b (.pointer (some ⟨k,0,none⟩))).run P w=.ok (.pointer (some ⟨k,0,none⟩)) w:=by(intro a b e' e _ h;cases h)
 us:TypeId->Option TypeId
 hus:∀t e,us t=some e->P.underlying t=some (.pointer e)/\P.cellsOf e=1
 mu:Nat:=0
 eq:TypeId->A->A->Option Bool
 heq:∀t a b r,eq t a b=some r->∀(g:Gh) (va vb:Value) (w:World) (op:BinOp) (x y:Operand),(op=.eql\/op=.neq)->Rz g a va->Rz g b vb ->
  (eqGuard op t x y va vb).run P w=.ok () w/\(binOp op t va vb).run P w=.ok (.bool (if op=.eql then r else !r)) w
 nl:TypeId->Bool:=λ_=>false
 hnl:∀t,nl t=true->∀(a:Option Addr) (n cap:Nat) (w:World) (op:BinOp) (x y:Operand),(op=.eql\/op=.neq)->∃r:Bool,
  (eqGuard op t x y (.slice a n cap) (.slice none 0 0)).run P w=.ok () w/\(binOp op t (.slice a n cap) (.slice none 0 0)).run P w=.ok (.bool (if op=.eql then r else !r)) w:=by(intro t h;cases h)
def yD:Value->Option A
 | .int k n=>some (.int k n)
 | .bool b=>some (.bool b)
 | .string s=>some (.str s.data.toList)
 | .pointer none=>some .nilp
 | .slice none 0 0=>some .nils
 | .nilFunc=>some .nilf
 | .map none=>some .nilm
 | .nilIface=>some .nili
 | _=>none
def vN:List Value->Option (List A)
 | []=>some []
 | v::vs=>match yD v,vN vs with
  | some a,some az=>some (a::az)
  | _,_=>none
def aAR:Value->Option A
 | .agg cs=>(vN cs.toList).map .agg
 | .tuple cs=>if cs.size=0 then some (.tuple []) else none
 | v=>yD v
theorem aE7{g:Gh}{v:Value}{a:A}(h:yD v=some a):Rz g a v/\a.one=true:=by
 unfold yD at h;split at h<;>simp at h<;>subst h
 .exact⟨.int _ _,rfl⟩
 .exact⟨.bool _,rfl⟩
 .rename_i s;exact⟨.str s.data.toList,rfl⟩
 .exact⟨.nilp,rfl⟩
 .exact⟨.nils,rfl⟩
 .exact⟨.nilf,rfl⟩
 .exact⟨.nilm,rfl⟩
 .exact⟨.nili,rfl⟩
theorem aF4{g:Gh}:∀{vs:List Value} {az:List A},vN vs=some az->Rzs g az vs/\∀c,c∈az->c.one=true
 | [],az,h=>by simp[vN]at h;subst h;exact⟨.nil g,by simp⟩
 | v::vs,az,h=>by
  simp only[vN]at h;split at h
  .rename_i a y z has;simp at h;subst h;have q:=aE7 (g:=g) z;have u:=aF4 (g:=g) has;exact⟨.cons q.1 u.1,by intro c m;cases m with|head=>exact q.2|tail _ m=>exact u.2 c m⟩
  .simp at h
theorem aLb{g:Gh}{v:Value}{a:A}(h:aAR v=some a):Rz g a v:=by
 unfold aAR at h;split at h
 .rename_i cs;simp only[oT]at h;obtain⟨az,has,rfl⟩:=h;have:=aF4 (g:=g) has;exact .agg az cs.toList this.1.1 this.2 this.1.2
 .rename_i cs;split at h
  .rename_i m;simp at h;subst h;have:cs=#[]:=Array.eq_empty_of_size_eq_zero m;subst this;exact .tuple [] [] rfl aW
  .simp at h
 .exact(aE7 h).1
def dP(C:Cx)(e:Env):Operand->Option A
 | .tmp t=>e.get t
 | .const v=>aAR v
 | .global g=>match C.gl g with
  | some cs=>some (.eptr cs 0)
  | none=>none
 | .func f=>some (.fn f [] [])
def pN(C:Cx)(t:TypeId)(cs:List A)(o:Nat):Option A :=
 match C.tt t with
 | some h=>if h.k.agg=true then(if o+h.sz<=cs.length then some (.agg ((cs.drop o).take h.sz)) else none) else cs[o]?
 | none=>none
def kV:List A->Nat->List A->List A
 | cs,_,[]=>cs
 | cs,o,v::vs=>kV (cs.set o v) (o+1) vs
def fE(l:List A):Bool:=l.all A.one
def eqC:A->A->Option Bool
 | .int j a,.int k b=>if j=k then some (decide (a=b)) else none
 | .str a,.str b=>some (decide (a=b))
 | .bool a,.bool b=>some (a == b)
 | _,_=>none
def vS(op:BinOp)(k:IntKind)(a b:Int):Option A :=
 match op with
 | .add=>some (.int k (k.wrap (a+b)))
 | .sub=>some (.int k (k.wrap (a-b)))
 | .mul=>some (.int k (k.wrap (a * b)))
 | .eql=>some (.bool (decide (a=b)))
 | .neq=>some (.bool (!decide (a=b)))
 | .lss=>some (.bool (decide (a<b)))
 | .leq=>some (.bool (decide (a<=b)))
 | .gtr=>some (.bool (decide (b<a)))
 | .geq=>some (.bool (decide (b<=a)))
 | .and=>some (.int k (k.wrap ((BitVec.ofInt k.bits a &&& BitVec.ofInt k.bits b).toNat)))
 | .or=>some (.int k (k.wrap ((BitVec.ofInt k.bits a ||| BitVec.ofInt k.bits b).toNat)))
 | .xor=>some (.int k (k.wrap ((BitVec.ofInt k.bits a ^^^ BitVec.ofInt k.bits b).toNat)))
 | .andNot=>some (.int k (k.wrap ((BitVec.ofInt k.bits a &&& ~~~BitVec.ofInt k.bits b).toNat)))
 | .quo=>if b=0 then none else some (.int k (k.wrap (a.tdiv b)))
 | .rem=>if b=0 then none else some (.int k (a.tmod b))
 | _=>none
def aA0(op:BinOp)(k:IntKind)(a b:Int):Option A :=
 if b<0 then none else match op with
 | .shl=>some (.int k (k.wrap (a * 2 ^ (min b.toNat k.bits))))
 | .shr=>some (.int k (a.fdiv (2 ^ (min b.toNat k.bits))))
 | _=>none
def aGU:BinOp->Bool
 | .shl=>true
 | .shr=>true
 | _=>false
def unA:UnOp->A->Option A
 | .not,.bool b=>some (.bool (!b))
 | .neg,.int k n=>some (.int k (k.wrap (0-n)))
 | .xor,.int k n=>some (.int k (k.wrap ((BitVec.ofInt k.bits (if k.signed then -1 else k.max) ^^^ BitVec.ofInt k.bits n).toNat)))
 | _,_=>none
def qM(h:Nat->Option (Nat × Nat)):List A->List (Nat × A)->Option (List A)
 | cells,[]=>some cells
 | cells,(i,v)::rest =>
  match h i with
  | none=>none
  | some (off,m)=>if v.cells.length=m/\off+m<=cells.length/\fE v.cells=true then qM h (kV cells off v.cells) rest else none
def jT(ρ:Operand->Option A):List (Nat × Operand)->Option (List (Nat × A))
 | []=>some []
 | (i,x)::r=>match ρ x,jT ρ r with
  | some a,some l=>some ((i,a)::l)
  | _,_=>none
def jE(ρ:Operand->Option A):List Operand->Option (List A)
 | []=>some []
 | x::r=>match ρ x,jE ρ r with
  | some a,some l=>some (a::l)
  | _,_=>none
def vH:Nat->List (Nat × A)->Option (List A)
 | _,[]=>some []
 | k,(i,a)::r=>if i=k then(vH (k+1) r).map (a::·) else none
section
def vT(C:Cx)(F:Fr)(g:Gh)(KV Kp:St->A->Prop):Ending->World->Prop
 | .returned v,w=>∃h a s,g.le h/\R C.toCtx F h s w/\Rz h a v/\KV s a
 | .panicked iW,w=>∃h a v s,iW=[{ v:=v,recovered:=false }]/\g.le h/\R C.toCtx F h s w/\Rz h a v/\Kp s a
 | .outgrown,_=>False
def OutV(C:Cx)(F:Fr)(g:Gh)(KV Kp:St->A->Prop):Result Next->Prop
 | .ok (.value v) w=>∃h a s,g.le h/\R C.toCtx F h s w/\Rz h a v/\KV s a
 | .ok .skip w=>∃h s,g.le h/\R C.toCtx F h s w/\KV s (.tuple [])
 | .ok (.enter f args) w=>Calls C.P f args w (vT C F g KV Kp)
 | .halt (.panic v) w=>∃h a s,g.le h/\R C.toCtx F h s w/\Rz h a v/\Kp s a
 | _=>False
def Den(C:Cx)(f:FuncId)(args:List A)(KV Kp:St->A->Prop)(s:St):Prop :=
 ∀F g w vals,R C.toCtx F g s w->Rzs g args vals->OutV C F g KV Kp ((callFunc f vals.toArray).run C.P w)
def OutS(C:Cx)(F:Fr)(g:Gh)(s:St)(K:A->Prop):Result Next->Prop
 | .ok (.value v) w=>∃h a,g.les h/\R C.toCtx F h s w/\Rz h a v/\K a
 | _=>False
def aDH(op:BinOp)(x y:A):Option A :=
 match x,y with
 | .int j a,.int k b=>match aGU op with
  | true=>aA0 op j a b
  | false=>if j=k then vS op j a b else none
 | .str a,.str b=>match op with
  | .eql=>some (.bool (decide (a=b)))
  | .neq=>some (.bool (!decide (a=b)))
  | .lss=>some (.bool (Go.Op.bytesLess a b))
  | _=>none
 | _,_=>none
def aDl:BinOp->A->A->Bool
 | .eql,.agg _,.agg _|.neq,.agg _,.agg _=>true
 | .eql,.bool _,.bool _|.neq,.bool _,.bool _=>true
 | .eql,.iface _ _,.nili|.neq,.iface _ _,.nili=>true
 | .eql,.nili,.nili|.neq,.nili,.nili=>true
 | .eql,.iface _ _,.iface _ _|.neq,.iface _ _,.iface _ _=>true
 | .eql,.nilp,.nilp|.neq,.nilp,.nilp=>true
 | .eql,.ptr _ _,.nilp|.neq,.ptr _ _,.nilp=>true
 | .eql,.ptr _ _,.ptr _ _|.neq,.ptr _ _,.ptr _ _=>true
 | .eql,.nils,.nils|.neq,.nils,.nils=>true
 | .eql,.list _ _,.nils|.neq,.list _ _,.nils=>true
 | .eql,.ml _ _ _,.nils|.neq,.ml _ _ _,.nils=>true
 | .eql,.emp,.nils|.neq,.emp,.nils=>true
 | .eql,.mg _ _ _,.nils|.neq,.mg _ _ _,.nils=>true
 | _,_,_=>false
def jI:A->Option A
 | .list _ es=>some (.int .i64 es.length)
 | .nils=>some (.int .i64 0)
 | .ml _ _ n=>some (.int .i64 n)
 | .emp=>some (.int .i64 0)
 | .mg _ n _=>some (.int .i64 n)
 | _=>none
def aA7:Nat->List A->Prop
 | _,[]=>True
 | n,x::r=>(x.cells.length=n/\fE x.cells=true)/\aA7 n r
theorem aCw{n:Nat}:∀{l:List A},aA7 n l->∀x,x∈l->x.cells.length=n/\∀c,c∈x.cells->c.one=true
 | [],_,x,m=>by cases m
 | y::r,h,x,m=>by
  cases m with
  | head=>exact⟨h.1.1,by have:=h.1.2;simpa [fE]using this⟩
  | tail _ m=>exact aCw h.2 x m
def qW:Option A->Option Int
 | none=>some 0
 | some (.int _ i)=>some i
 | _=>none
def oS(n:Nat):Option A->Option Int
 | none=>some n
 | some (.int _ i)=>some i
 | _=>none
def mO(ρ:Operand->Option A):Option Operand->Option (Option A)
 | none=>some none
 | some x=>match ρ x with
  | some a=>some (some a)
  | none=>none
def sF(x:A)(q m:Option A)(K:A->Prop):Prop :=
 match x with
 | .str s=>match qW q,oS s.length m with
  | some l,some h=>(0<=l/\l<=h/\h<=s.length)/\K (.str ((s.drop l.toNat).take (h.toNat-l.toNat)))
  | _,_=>False
 | .list _ es=>match qW q,oS es.length m with
  | some l,some h=>(0<=l/\l<=h/\h<=es.length)/\K (.list none ((es.drop l.toNat).take (h.toNat-l.toNat)))
  | _,_=>False
 | _=>False
def elK(sz:Nat)(K:A->Prop):Option A->Prop
 | some x=>x.cells.length=sz/\K (.eptr x.cells 0)
 | none=>False
def chK(K:A->Prop):Option UInt8->Prop
 | some c=>K (.int .u8 c.toNat)
 | none=>False
def aHo:Value->Bool
 | .nilIface=>true
 | .int _ _=>false
 | .bool _=>false
 | .string _=>false
 | .pointer _=>false
 | .slice _ _ _=>false
 | .agg _=>false
 | .nilFunc=>false
 | _=>false
def aHa:Operand->Bool
 | .const v=>aHo v
 | .tmp _=>false
 | .global _=>false
 | .func _=>false
def aDE:BinOp->A->Option A
 | .eql,.nili=>some (.bool true)
 | .eql,.iface _ _=>some (.bool false)
 | .neq,.nili=>some (.bool false)
 | .neq,.iface _ _=>some (.bool true)
 | _,_=>none
def yW:List A->A
 | []=>.emp
 | x::r=>.list none (x::r)
def aA1:List (Nat × Operand)->Bool
 | [x]=>match x.2 with
  | .const v=>match v with
   | .agg _=>true
   | _=>false
  | _=>false
 | _=>false
def hlA:List A->A
 | []=>.emp
 | x::r=>match r with
  | []=>.hl x
  | y::r=>.list none (x::y::r)
def aBn(a b c d:Int):Int :=
 let x:=if a<b then b else a
 let y:=if x<c then c else x
 if y<d then d else y
def bV(C:Cx)(op:Op)(ρ:Operand->Option A)(K:A->Prop):Prop :=
 let one (v:Option A):Prop:=match v with
  | some v=>K v
  | none=>False
 match op with
 | .move x=>one (ρ x)
 | .assign x=>one (ρ x)
 | .pick c a b=>match ρ c with
  | some (.bool true)=>one (ρ a)
  | some (.bool false)=>one (ρ b)
  | _=>False
 | .binOp op t x y _=>match ρ x,ρ y with
  | some a,some b=>match aHa y,aDl op a b with
   | true,_=>match b,C.tt t with
    | .nili,some q=>match q.k with
     | .iface=>one (aDE op a)
     | _=>False
    | _,_=>False
   | false,d=>match d with
    | true=>match C.eq t a b with
     | some r=>K (.bool (if op=.eql then r else !r))
     | none=>False
    | false=>match op,a,b with
     | .add,.str a,.str b=>a.length+b.length<=maxLen/\K (.str (a++b))
     | op,a,b=>one (aDH op a b)
  | _,_=>False
 | .unOp op _ x=>match ρ x with
  | some a=>one (unA op a)
  | none=>False
 | .nilCheck x=>match ρ x with
  | some (.ptr b o)=>K (.ptr b o)
  | some (.eptr cs o)=>K (.eptr cs o)
  | _=>False
 | .fieldAddr t x f=>match ρ x,C.tt t with
  | some a,some q=>match q.k with
   | .struct L=>match L[f]? with
    | some (off,_,_)=>match a with
     | .ptr b o=>K (.ptr b (o+off))
     | .eptr cs o=>K (.eptr cs (o+off))
     | _=>False
    | none=>False
   | _=>False
  | _,_=>False
 | .field t x f=>match ρ x,C.tt t with
  | some (.agg cs),some q=>match q.k with
   | .struct L=>match L[f]? with
    | some (off,sz,S)=>if S=true then(off+sz<=cs.length/\K (.agg ((cs.drop off).take sz))) else one cs[off]?
    | none=>False
   | _=>False
  | _,_=>False
 | .typeAssert x _ t ok=>match ok with
  | true=>match ρ x,C.tt t with
   | some (.iface u v),some q=>match q.k with
    | .struct _=>u=t/\K (.tuple [v,.bool true])
    | _=>False
   | _,_=>False
  | false=>False
 | .extract x i=>match ρ x with
  | some (.tuple vs)=>one vs[i]?
  | _=>False
 | .makeInterface t x=>match ρ x,C.tt t with
  | some a,some q=>match q.k with
   | .iface=>False
   | _=>K (.iface t a)
  | _,_=>False
 | .makeFunc (.func f) first H=>match jE ρ first.toList,jE ρ H.toList with
  | some l,some m=>K (.fn f l m)
  | _,_=>False
 | .convert a b x=>match ρ x,C.tt a,C.tt b with
  | some (.int _ n),some _,some O=>match O.k with
   | .int k=>K (.int k (k.wrap n))
   | _=>False
  | some (.str s),some ta,some O=>match O.k with
   | .string=>K (.str s)
   | .slice e=>match ta.k,C.tt e with
    | .string,some B=>match B.k with
     | .int .u8=>B.sz=1/\s.length<=maxLen/\K (.list none (s.map λc=>.int .u8 c.toNat))
     | _=>False
    | _,_=>False
   | _=>False
  | _,_,_=>False
 | .build t G=>match jT ρ G.toList,C.tt t with
  | some M,some q=>match q.k with
   | .struct L=>one ((qM (λi=>(L[i]?).map λx=>(x.1,x.2.1)) q.zero M).map .agg)
   | _=>False
  | _,_=>False
 | .buildSlice t len G=>match jT ρ G.toList,C.tt t with
  | some M,some q=>match q.k with
   | .slice e=>match C.tt e with
    | some B=>match vH 0 M with
     | some es=>(es.length=len/\(len * B.sz<=16777216/\len<=16777216)/\aA7 B.sz es)/\(match aA1 G.toList with
      | true=>K (hlA es)
      | false=>K (yW es))
     | none=>False
    | none=>False
   | _=>False
  | _,_=>False
 | .load t x=>match ρ x with
  | some (.eptr cs o)=>one (pN C t cs o)
  | _=>False
 | .slice t x Z U none=>match ρ x,mO ρ Z,mO ρ U,C.tt t with
  | some a,some l,some h,some q=>match q.k with
   | .string=>match a with
    | .str s=>sF (.str s) l h K
    | _=>False
   | .slice e=>match a,C.tt e with
    | .list tk es,some B=>(∀x,x∈es->x.cells.length=B.sz)/\sF (.list tk es) l h K
    | .nils,some _=>match qW l,oS 0 h with
     | some i,some j=>(i=0/\j=0)/\K .nils
     | _,_=>False
    | .gr t n,some _=>match qW l,oS n h with
     | some i,some j=>(i=0/\j=0)/\K (.list (some t) [])
     | _,_=>False
    | .ml b off n,some B=>match qW l,oS n h with
     | some i,some j=>(0<=i/\i<=j/\j<=n)/\K (if j.toNat-i.toNat=0 then .list none [] else .ml b (off+i.toNat * B.sz) (j.toNat-i.toNat))
     | _,_=>False
    | _,_=>False
   | _=>False
  | _,_,_,_=>False
 | .indexAddr t x i=>match ρ x,ρ i,C.tt t with
  | some a,some (.int _ i),some q=>match q.k with
   | .slice e=>match a with
    | .list _ es=>match C.tt e with
     | some B=>(0<=i/\i.toNat<es.length)/\elK B.sz K es[i.toNat]?
     | none=>False
    | .ml b off n=>match C.tt e with
     | some B=>(0<=i/\i.toNat<n)/\K (.ptr b (off+i.toNat * B.sz))
     | none=>False
    | .mg b n _=>match C.tt e with
     | some B=>(0<=i/\i.toNat<n)/\K (.ptr b (i.toNat * B.sz))
     | none=>False
    | .pen t es sz=>match C.tt e with
     | some B=>(i=es.length/\sz=B.sz)/\K (.rm t es.length B.sz)
     | none=>False
    | _=>False
   | .array n e=>match a with
    | .eptr cs o=>match C.tt e with
     | some B=>(0<=i/\i<n)/\K (.eptr cs (o+i.toNat * B.sz))
     | none=>False
    | _=>False
   | _=>False
  | _,_,_=>False
 | .index t x i=>match ρ x,ρ i,C.tt t with
  | some (.str s),some (.int _ i),some q=>match q.k with
   | .string=>(0<=i/\i.toNat<s.length)/\chK K s[i.toNat]?
   | _=>False
  | _,_,_=>False
 | .call c=>match c.callee,c.args.toList,c.argTypes.toList with
  | .builtin .len,[x],[t]=>match ρ x,C.tt t with
   | some a,some q=>match q.k with
    | .string=>one (match a with|.str s=>some (.int .i64 s.length)|_=>none)
    | .slice _=>one (jI a)
    | _=>False
   | _,_=>False
  | .builtin .unsafeSliceData,[x],_=>match ρ x with
   | some (.list tk (y::ys))=>K (.sd tk (y::ys))
   | some .nils=>K .nilp
   | _=>False
  | .builtin .cap,[x],[t]=>match ρ x,C.tt t with
   | some .nils,some q=>match q.k with
    | .slice _=>K (.int .i64 0)
    | _=>False
   | _,_=>False
  | .builtin .max,[x,y],_=>match ρ x,ρ y with
   | some (.int j a),some (.int _ b)=>K (.int j (if a<b then b else a))
   | _,_=>False
  | .builtin .min,[x,y],_=>match ρ x,ρ y with
   | some (.int j a),some (.int _ b)=>K (.int j (if b<a then b else a))
   | _,_=>False
  | .builtin .max,[x,y,z,u],_=>match ρ x,ρ y,ρ z,ρ u with
   | some (.int j a),some (.int _ b),some (.int _ c),some (.int _ d)=>K (.int j (aBn a b c d))
   | _,_,_,_=>False
  | _,_,_=>False
 | _=>False
section
variable {C:Cx} {F:Fr} {g:Gh} {s:St} {w:World} {K:A->Prop} {ρ:Operand->Option A} {ev:Operand->Value}
theorem Rz.ptr_inv{b o:Nat}{v:Value}(h:Rz g (.ptr b o) v):∃k,v=.pointer (some ⟨k,o,none⟩)/\g.beta b=some k:=by cases h;exact⟨_,rfl,by assumption⟩
theorem Rz.emp_inv{v:Value}(h:Rz g .emp v):∃a,v=.slice (some a) 0 0:=by cases h;exact⟨_,rfl⟩
theorem Rz.sd_inv{tk:Option Nat}{es:List A}{v:Value}(h:Rz g (.sd tk es) v):∃a cap,v=.pointer (some a)/\cap≠0/\Rz g (.list tk es) (.slice (some a) es.length cap):=by
 cases h;exact⟨_,_,rfl,by assumption,by assumption⟩
theorem Rz.gr_inv{t n:Nat}{v:Value}(h:Rz g (.gr t n) v):∃k cap,v=.slice (some ⟨k,0,none⟩) n cap/\g.eta t 0=some (.slice (some ⟨k,0,none⟩) 0 cap)/\n<=cap/\cap<=maxLen:=by
 cases h;exact⟨_,_,rfl,by assumption,by assumption,by assumption⟩
theorem Rz.hl_inv{z:A}{v:Value}(h:Rz g (.hl z) v):∃a cap,v=.slice (some a) 1 cap/\Rz g (.list none [z]) v:=by cases h;exact⟨_,_,rfl,by assumption⟩
theorem Rz.pen_inv{t:Nat}{es:List A}{sz:Nat}{v:Value}(h:Rz g (.pen t es sz) v):∃b cap,v=.slice (some ⟨b,0,none⟩) (es.length+1) cap /\
  Rz g (.list (some t) es) (.slice (some ⟨b,0,none⟩) es.length cap)/\es.length+1<=cap/\∀y,y∈es->y.cells.length=sz:=by cases h;exact⟨_,_,rfl,by assumption,by assumption,by assumption⟩
theorem Rz.rm_inv{t n sz:Nat}{v:Value}(h:Rz g (.rm t n sz) v):∃b cap,v=.pointer (some ⟨b,n * sz,none⟩)/\g.eta t n=some (.slice (some ⟨b,0,none⟩) n cap)/\n+1<=cap:=by
 cases h;exact⟨_,_,rfl,by assumption,by assumption⟩
theorem Rz.ml_inv{b o n:Nat}{v:Value}(h:Rz g (.ml b o n) v):∃k cap,v=.slice (some ⟨k,o,none⟩) n cap/\g.beta b=some k/\n<=cap/\cap<=maxLen:=by
 cases h;exact⟨_,_,rfl,by assumption,by assumption,by assumption⟩
theorem Rz.mg_inv{b n cap:Nat}{v:Value}(h:Rz g (.mg b n cap) v):∃k,v=.slice (some ⟨k,0,none⟩) n cap/\g.beta b=some k/\n<=cap/\cap<=maxLen:=by
 cases h;exact⟨_,rfl,by assumption,by assumption,by assumption⟩
theorem Rz.mp_inv{b:Nat}{v:Value}(h:Rz g (.mp b) v):∃k,v=.map (some k)/\g.beta b=some k:=by cases h;exact⟨_,rfl,by assumption⟩
theorem Rz.nilp_inv{v:Value}(h:Rz g .nilp v):v=.pointer none:=by cases h;rfl
theorem Rz.nils_inv{v:Value}(h:Rz g .nils v):v=.slice none 0 0:=by cases h;rfl
theorem Rz.nili_inv{v:Value}(h:Rz g .nili v):v=.nilIface:=by cases h;rfl
theorem Rz.iface_inv{t:TypeId}{a:A}{v:Value}(h:Rz g (.iface t a) v):∃u,v=.iface t u/\Rz g a u:=by cases h;exact⟨_,rfl,by assumption⟩
theorem Rz.agg_inv{cs:List A}{v:Value}(h:Rz g (.agg cs) v):∃vs:List Value,v=.agg vs.toArray/\Rzs g cs vs/\∀c,c∈cs->c.one=true:=by
 cases h with|agg cs vs hl m h=>exact⟨vs,rfl,⟨hl,h⟩,m⟩
theorem Rz.tuple_inv{cs:List A}{v:Value}(h:Rz g (.tuple cs) v):∃vs:List Value,v=.tuple vs.toArray/\Rzs g cs vs:=by
 cases h with|tuple cs vs hl h=>exact⟨vs,rfl,⟨hl,h⟩⟩
theorem Rz.fn_inv{f:FuncId}{m cs:List A}{v:Value}(h:Rz g (.fn f m cs) v):∃us vs:List Value,v=.func (.func f) us.toArray vs.toArray/\Rzs g m us/\Rzs g cs vs:=by
 cases h with|fn f m cs us vs u q z y=>exact⟨us,vs,rfl,⟨u,z⟩,⟨q,y⟩⟩
theorem Rz.eptr_inv{cs:List A}{o:Nat}{v:Value}(h:Rz g (.eptr cs o) v):∃b off pre,v=.pointer (some ⟨b,off+o,none⟩)/\g.pi b=some pre/\off+cs.length<=pre.length /\
  (∀c,c∈cs->c.one=true)/\∀(j:Nat) (c:A) (v:Value),cs[j]?=some c->pre[off+j]?=some v->Rz g c v:=by
 cases h with|eptr cs o b off pre q hl m h=>exact⟨b,off,pre,rfl,q,hl,m,h⟩
theorem OutS.val{v:Value}{a:A}(m:R C.toCtx F g s w)(q:Rz g a v)(h:K a):OutS C F g s K (.ok (.value v) w) :=
 ⟨g,a,Gh.les.refl g,m,q,h⟩
theorem aAz(m:∀x a,ρ x=some a->Rz g a (ev x)):∀{l:List Operand} {az:List A},jE ρ l=some az->Rzs g az (l.map ev)
 | [],az,h=>by simp[jE]at h;subst h;exact .nil g
 | x::r,az,h=>by
  simp only[jE]at h;split at h
  .rename_i a l q hl;simp at h;subst h;exact .cons (m x a q) (aAz m hl)
  .simp at h
theorem aAh(m:∀x a,ρ x=some a->Rz g a (ev x)):∀{l:List (Nat × Operand)} {az:List (Nat × A)},jT ρ l=some az ->
  (l.map λx=>x.1)=az.map (λx=>x.1)/\Rzs g (az.map λx=>x.2) (l.map λx=>ev x.2)
 | [],az,h=>by simp[jT]at h;subst h;exact⟨rfl,.nil g⟩
 | (i,x)::r,az,h=>by
  simp only[jT]at h;split at h
  .rename_i a l q hl;simp at h;subst h;have:=aAh m hl;exact⟨by simp[this.1],.cons (m x a q) this.2⟩
  .simp at h
theorem fG{t:TypeId}{m:TI}(h:C.tt t=some m):∃d,C.P.underlying t=some d/\m.k.ok C.P d:=(C.htt t m h).und
theorem vE{t:TypeId}{y:TI}(h:C.tt t=some y)(w:World):(isAgg t).run C.P w=.ok y.k.agg w:=by
 obtain⟨d,hd,m⟩:=fG h;simp only[isAgg,bE,cL hd,bD];cases u:y.k<;>rw[u]at m<;>simp only[TK.ok]at m<;>(try subst m)<;>(try rfl)
 .obtain⟨q,rfl,_⟩:=m;rfl
 .obtain⟨ms,rfl⟩:=m;rfl
 .cases d<;>simp_all [tU,TK.agg]
 .obtain⟨kt,rfl,_⟩:=m;rfl
theorem iS{t:TypeId}{m:TI}(h:C.tt t=some m)(w:World):(sizeOf t).run C.P w=.ok m.sz w:=by
 obtain⟨i,z,q,u,_⟩:=(C.htt t m h).info;simp[sizeOf,typeInfo,q,u]
theorem rW{t:TypeId}{m:TI}(h:C.tt t=some m):C.toCtx.sz t=m.sz:=by
 obtain⟨i,z,q,u,_⟩:=(C.htt t m h).info;simp[Ctx.sz,q,u]
theorem xY{t:TypeId}{m:TI}(h:C.tt t=some m)(w:World):∃z,(zeroValue t).run C.P w=.ok z w/\∀g,Rzs g m.zero z.cells.toList:=by
 obtain⟨i,z,q,B,y,hz,u⟩:=(C.htt t m h).info;exact⟨z,by simp[zeroValue,typeInfo,q,hz],u⟩
end
end
section
section
variable {C:Cx} {F:Fr} {g:Gh} {s:St} {w:World} {K:A->Prop} {ρ:Operand->Option A} {ev:Operand->Value}
theorem sU(x:Sem Value)(P:Program)(w:World):((do let v <-x;pure (Next.value v)):Sem Next).run P w=(x.run P w).andThen λv w'=>.ok (.value v) w':=by
 simp
theorem dL{x:Sem Value}{v:Value}{a:A}(m:R C.toCtx F g s w)(u:x.run C.P w=.ok v w)(q:Rz g a v)(h:K a) :
  OutS C F g s K (((do let v <-x;pure (Next.value v)):Sem Next).run C.P w):=by
 rw[sU,u];exact OutS.val m q h
theorem aL0{op:BinOp}{k:IntKind}{x y:Int}{a:A}(h:vS op k x y=some a)(t:TypeId) :
  ∃v,(binOp op t (.int k x) (.int k y))=pure v/\∀g,Rz g a v:=by
 cases op
 case quo =>
  simp only[vS]at h;split at h
  .cases h
  .rename_i m;simp only[bI]at h;subst h;simp only[binOp,Op.intDiv,bJ,not_true_eq_false,↓reduceIte,m];exact⟨_,rfl,λg=>.int _ _⟩
 case rem =>
  simp only[vS]at h;split at h
  .cases h
  .rename_i m;simp only[bI]at h;subst h;simp only[binOp,Op.intDiv,bJ,not_true_eq_false,↓reduceIte,m];exact⟨_,rfl,λg=>.int _ _⟩
 all_goals
  simp only[vS,bI,reduceCtorEq]at h
 all_goals
  subst h;simp only[binOp,Op.intArith,Op.intCmp,Op.intBits,bJ,not_true_eq_false,↓reduceIte]
  first
   | exact⟨_,rfl,λg=>.int _ _⟩
   | exact⟨_,rfl,λg=>.bool _⟩
   | (refine⟨_,rfl,λg=>?_⟩;simp only[bne,beq_eq_decide];exact .bool _)
theorem aK3{op:BinOp}{k j:IntKind}{x y:Int}{a:A}(h:aA0 op k x y=some a)(t:TypeId) :
  ∃v,(binOp op t (.int k x) (.int j y))=pure v/\∀g,Rz g a v:=by
 unfold aA0 at h;split at h
 .cases h
 .rename_i m;cases op<;>simp only[bI,reduceCtorEq]at h
  all_goals
   subst h;simp only[binOp,Op.shift,m,cI];exact⟨_,rfl,λg=>.int _ _⟩
theorem aEG(op:BinOp)(t:TypeId)(x y:Operand)(k j:IntKind)(a b:Int):eqGuard op t x y (.int k a) (.int j b)=pure ():=by
 unfold eqGuard;cases op<;>rfl
theorem zT(op:BinOp)(t:TypeId)(x y:Operand)(a b:ByteArray):eqGuard op t x y (.string a) (.string b)=pure ():=by
 unfold eqGuard;cases op<;>rfl
section
variable {P:Program} {t:TypeId} {ms:_} (hd:P.underlying t=some (.interface ms)) (x:Operand) (w:World)
include hd
theorem aJ0(d:Nat):(Op.equalIn (d+1) t .nilIface .nilIface).run P w=.ok true w:=by
 simp only[Op.equalIn,bE,cL hd,bD,bO]
theorem aKe(d:Nat)(u:TypeId)(v:Value):(Op.equalIn (d+1) t (.iface u v) .nilIface).run P w=.ok false w:=by
 simp only[Op.equalIn,bE,cL hd,bD,bO]
theorem aHv(op:BinOp)(u:op=.eql\/op=.neq) :
  ((do eqGuard op t x (.const .nilIface) .nilIface .nilIface;binOp op t .nilIface .nilIface:Sem Value)).run P w=.ok (.bool (op == .eql)) w:=by
 have h:=aJ0 hd w 9999;rcases u with rfl|rfl
 .have q:(eqGuard .eql t x (.const .nilIface) .nilIface .nilIface).run P w=.ok () w:=by cases x<;>rfl
  have m:(binOp .eql t .nilIface .nilIface).run P w=.ok (.bool true) w:=by
   simp only[binOp,Op.equal,Op.maxDepth,bE,h,bD,bO]
  rw[bE,q,bD,m];rfl
 .have q:(eqGuard .neq t x (.const .nilIface) .nilIface .nilIface).run P w=.ok () w:=by cases x<;>rfl
  have m:(binOp .neq t .nilIface .nilIface).run P w=.ok (.bool false) w:=by
   simp only[binOp,Op.equal,Op.maxDepth,bE,h,bD,bO,fV]
  rw[bE,q,bD,m];rfl
theorem gE1(op:BinOp)(y:op=.eql\/op=.neq)(u:TypeId)(v:Value) :
  ((do eqGuard op t x (.const .nilIface) (.iface u v) .nilIface;binOp op t (.iface u v) .nilIface:Sem Value)).run P w=.ok (.bool (op == .neq)) w:=by
 have h:=aKe hd w 9999 u v;rcases y with rfl|rfl
 .have q:(eqGuard .eql t x (.const .nilIface) (.iface u v) .nilIface).run P w=.ok () w:=rfl
  have m:(binOp .eql t (.iface u v) .nilIface).run P w=.ok (.bool false) w:=by
   simp only[binOp,Op.equal,Op.maxDepth,bE,h,bD,bO]
  rw[bE,q,bD,m];rfl
 .have q:(eqGuard .neq t x (.const .nilIface) (.iface u v) .nilIface).run P w=.ok () w:=rfl
  have m:(binOp .neq t (.iface u v) .nilIface).run P w=.ok (.bool true) w:=by
   simp only[binOp,Op.equal,Op.maxDepth,bE,h,bD,bO,iG]
  rw[bE,q,bD,m];rfl
end
theorem aNc{op:BinOp}{t yt ty:TypeId}{x y:Operand}{dst:Option Tmp}{pos:String}{after:Array Edge}{gd:Option (Nat × Bool)}
  (q:R C.toCtx F g s w)(Z:∀x a,ρ x=some a->Rz g a (ev x))(h:bV C (.binOp op t x y yt) ρ K) :
  OutS C F g s K ((execOp ev ⟨dst,.binOp op t x y yt,ty,pos,after,gd⟩).run C.P w):=by
 simp only[bV]at h;split at h
 .rename_i a b ha hb;have z:=Z x a ha;have B:=Z y b hb;simp only[execOp];split at h
  .rename_i hn;split at h
   .rename_i ti S;split at h
    .rename_i M;obtain⟨d,hd,G⟩:=fG S;rw[M]at G;obtain⟨ms,rfl⟩:=G
     have hy:y=.const .nilIface:=by
      cases y with
      | const v=>cases v<;>first|rfl|cases hn
      | _=>cases hn
     subst hy;cases a<;>cases op<;>simp only[aDE]at h
     .obtain⟨u,m,_⟩:=z.iface_inv;rw[m,B.nili_inv];refine dL (v:=.bool false) q ?_ (.bool _) h;exact gE1 hd _ w .eql (.inl rfl) _ _
     .obtain⟨u,m,_⟩:=z.iface_inv;rw[m,B.nili_inv];refine dL (v:=.bool true) q ?_ (.bool _) h;exact gE1 hd _ w .neq (.inr rfl) _ _
     .rw[z.nili_inv,B.nili_inv];refine dL (v:=.bool true) q ?_ (.bool _) h;exact aHv hd _ w .eql (.inl rfl)
     .rw[z.nili_inv,B.nili_inv];refine dL (v:=.bool false) q ?_ (.bool _) h;exact aHv hd _ w .neq (.inr rfl)
    .exact h.elim
   .exact h.elim
  split at h
  .rename_i hd;split at h
   .rename_i r H
    have O:op=.eql\/op=.neq:=by
     cases op<;>simp_all [aDl]
    obtain⟨h1,h2⟩:=C.heq t a b r H g _ _ w op x y O z B;refine dL (v:=.bool (if op=.eql then r else !r)) q ?_ (.bool _) h;simp only[bE,h1,bD,h2]
   .exact h.elim
  .split at h
   .obtain⟨hl,M⟩:=h;rw[z.str_inv,B.str_inv];refine dL q ?_ (.str _) M;simp only[zT,pure_bind];have e1:∀l:List UInt8,(ByteArray.mk l.toArray).size=l.length:=λl=>by simp[ByteArray.size]
    simp only[binOp,Op.stringOp,e1];rw[aD (by unfold maxLen at hl;simp[IntKind.max,IntKind.signed,IntKind.bits];omega)];simp only[bO];congr 2
   .split at h
    .rename_i v m;simp only[aDH]at m;split at m
     .split at m
      .rename_i j1 a1 k1 b1 _ _ _ _;rw[z.int_inv,B.int_inv];obtain⟨u,U,H⟩:=aK3 (j:=k1) m t;refine dL q ?_ (H g) h;simp only[aEG,pure_bind,U,bO]
      .split at m
       .rename_i L;subst L;rw[z.int_inv,B.int_inv];obtain⟨u,U,H⟩:=aL0 m t;refine dL q ?_ (H g) h;simp only[aEG,pure_bind,U,bO]
       .simp at m
     .rw[z.str_inv,B.str_inv];split at m
      .simp only[bI]at m;subst m;refine dL q ?_ (.bool _) h;simp only[zT,pure_bind,binOp,Op.stringOp,ByteArray.toList_mk,bO];congr 2;rw[Bool.eq_iff_iff];simp
      .simp only[bI]at m;subst m;refine dL q ?_ (.bool _) h;simp only[zT,pure_bind,binOp,Op.stringOp,ByteArray.toList_mk,bO];congr 2;rw[Bool.eq_iff_iff];simp
      .simp only[bI]at m;subst m;refine dL q ?_ (.bool _) h;simp only[zT,pure_bind,binOp,Op.stringOp,ByteArray.toList_mk,bO]
      .simp at m
     .simp at m
    .exact h.elim
 .exact h.elim
theorem aKF{t:TypeId}{cs:List A}{o:Nat}{a:A}{v:Value}(hR:R C.toCtx F g s w)(hl:pN C t cs o=some a)(G:Rz g (.eptr cs o) v) :
  ∃u,(Instr.loadAt t v).run C.P w=.ok u w/\Rz g a u:=by
 obtain⟨b,off,pre,rfl,hp,S,Z,U⟩:=G.eptr_inv;obtain⟨rest,e,fr,hh⟩:=hR.pis b pre hp
 have cell:∀k,k<pre.length->w.cell? ⟨b,k,none⟩=pre[k]?:=by
  intro k L;simp only[World.cell?,hh,Option.isSome_none,cQ,↓reduceIte,jK];rw[gO L]
 simp only[pN]at hl;split at hl
 .rename_i O z;split at hl
  .rename_i y;split at hl
   .rename_i b0;simp only[bI]at hl;subst hl
    have m:∀j v,((pre.drop (off+o)).take O.sz)[j]?=some v->w.cell? ((⟨b,off+o,none⟩:Addr).add j)=some v:=by
     intro j v B;rw[kC]at B;split at B
     .rename_i M;rw[jL]at B;have:(⟨b,off+o,none⟩:Addr).add j=⟨b,off+o+j,none⟩:=by unfold Addr.add;split<;>simp_all
      rw[this,cell _ (dG.1 B).1];exact B
     .simp at B
    have h:((pre.drop (off+o)).take O.sz).length=O.sz:=by rw[dV,cS];omega
    have q:=run_loadCells_list (P:=C.P) w ⟨b,off+o,none⟩ _ m;rw[h]at q;refine⟨_,by simp only[Instr.loadAt,Instr.sureAddr,loadVar,bE,bO,bD,vE z,y,↓reduceIte,iS z,q];rfl,?_⟩;refine .agg _ _ ?_ ?_ ?_
    .rw[h,dV,cS];omega
    .intro c m;exact Z c (pX (nQ m))
    .intro j c v m G;rw[kC]at m G;split at m
     .rename_i M;rw[aE M]at G;rw[jL]at m G;exact U (o+j) c v m (by rw[<-lP];exact G)
     .simp at m
   .simp at hl
  .rename_i y;have ho:o<cs.length:=(dG.1 hl).1;have L:off+o<pre.length:=by omega
   refine⟨pre[off+o],?_,U o a _ hl (aV L)⟩;have H:O.k.agg=false:=gQ y;simp only[Instr.loadAt,Instr.sureAddr,loadVar,bE,bO,bD,vE z,H,cQ,↓reduceIte,run_load,cell _ L,aV L]
 .simp at hl
theorem wX{U H:Option A}{l h:Int}{n cap:Nat}{b:Bool}{B z:Option Value}
  (hl:qW U=some l)(q:oS n H=some h)(G:0<=l)(u:l<=h)(h2:h<=n)(hn:n<=cap)
  (r1:∀a,U=some a->∃v,B=some v/\Rz g a v)(b0:U=none->B=none)
  (r2:∀a,H=some a->∃v,z=some v/\Rz g a v)(O:H=none->z=none) :
  (Instr.sliceBounds b n cap B z none).run C.P w=.ok (l.toNat,h.toNat,cap) w:=by
 have S:∀(k:IntKind) (i:Int) (y:Nat) (m:BoundsCode),0<=i->i<=y->(Instr.sliceBound (.int k i) y m).run C.P w=.ok i.toNat w :=
  λk i y m G u=>by simp[Instr.sliceBound,asIntOf,G,u]
 have key:∀(y:Nat),y=h.toNat->(y:Int)=h:=by intro y hy;have:=Int.le_trans G u;omega
 cases U with
 | none =>
  simp only[qW,bI]at hl;subst hl;rw[b0 rfl];cases H with
  | none =>
   simp only[oS,bI]at q;subst q;rw[O rfl];simp[Instr.sliceBounds]
  | some a =>
   obtain⟨v,M,L⟩:=r2 a rfl;cases a<;>simp only[oS,bI,reduceCtorEq]at q
   subst q;rw[M,L.int_inv];have Z:(_:Int)<=(cap:Int):=Int.le_trans h2 aB;cases b<;>simp[Instr.sliceBounds,S,u,Z]
 | some a =>
  obtain⟨v,M,L⟩:=r1 a rfl;cases a<;>simp only[qW,bI,reduceCtorEq]at hl
  subst hl;rw[M,L.int_inv];cases H with
  | none =>
   simp only[oS,bI]at q;subst q;rw[O rfl];simp[Instr.sliceBounds,S,G,u]
  | some a =>
   obtain⟨v,M,L⟩:=r2 a rfl;cases a<;>simp only[oS,bI,reduceCtorEq]at q
   subst q;rw[M,L.int_inv];have Z:(_:Int)<=(cap:Int):=Int.le_trans h2 aB;have g1:=Int.le_trans G u;have e:=key _ rfl;have g3:=u;rw[<-e]at g3;cases b<;>simp only[Instr.sliceBounds,S _ _ _ _ g1 Z,S _ _ _ _ G g3,bE,bO,bD,cQ,↓reduceIte]
theorem aG6(q:∀x a,ρ x=some a->Rz g a (ev x)){o:Option Operand}{r:Option A}(h:mO ρ o=some r) :
  (∀a,r=some a->∃v,o.map ev=some v/\Rz g a v)/\(r=none->o.map ev=none):=by
 cases o with
 | none=>simp only[mO,bI]at h;subst h;simp
 | some x =>
  simp only[mO]at h;split at h
  .rename_i a m;simp only[bI]at h;subst h;exact⟨λu e=>by cases e;exact⟨_,rfl,q x a m⟩,by simp⟩
  .simp at h
end
end
section
section
variable {C:Cx} {F:Fr} {g:Gh} {s:St} {w:World} {K:A->Prop} {ρ:Operand->Option A} {ev:Operand->Value}
theorem aAo{t:TypeId}{y:TI}{u:List (Nat × Nat × Bool)}(h:C.tt t=some y)(B:y.k=.struct u) :
  ∃m,C.P.underlying t=some (.struct m)/\m.size=u.length/\∀(i o s:Nat) (a:Bool),u[i]?=some (o,s,a) ->
   ∃f,m[i]?=some f/\f.offset=o/\(C.P.info? f.type).map (·.size)=some s/\s≠0/\(C.P.underlying f.type).isSome=true/\tU (C.P.underlying f.type)=a:=by
 obtain⟨d,hd,q⟩:=fG h;rw[B]at q;obtain⟨m,rfl,G,z⟩:=q;exact⟨m,hd,G,z⟩
theorem aCm{t:TypeId}{n:Nat}(h:(C.P.info? t).map (·.size)=some n)(w:World):(sizeOf t).run C.P w=.ok n w:=by
 simp only[oT]at h;obtain⟨i,m,q⟩:=h;simp[sizeOf,typeInfo,m,q]
theorem aFO{t:TypeId}(h:(C.P.underlying t).isSome=true)(w:World):(isAgg t).run C.P w=.ok (tU (C.P.underlying t)) w:=by
 obtain⟨d,hd⟩:=Option.isSome_iff_exists.1 h;simp only[isAgg,bE,cL hd,bD,hd];cases d<;>rfl
theorem iH(b o n:Nat):(⟨b,o,none⟩:Addr).add n=⟨b,o+n,none⟩:=by unfold Addr.add;split<;>simp_all
theorem aD6{a:Addr}{f:Field}{n:Nat}(h:(C.P.info? f.type).map (·.size)=some n)(m:n≠0)(w:World) :
  (fieldPlace a f).run C.P w=.ok (a.add f.offset) w:=by
 simp[fieldPlace,aCm h,m]
theorem aJv{t ty:TypeId}{x:Operand}{f:Nat}{dst:Option Tmp}{pos:String}{after:Array Edge}{gd:Option (Nat × Bool)}
  (M:R C.toCtx F g s w)(S:∀x a,ρ x=some a->Rz g a (ev x))(h:bV C (.fieldAddr t x f) ρ K) :
  OutS C F g s K ((execOp ev ⟨dst,.fieldAddr t x f,ty,pos,after,gd⟩).run C.P w):=by
 simp only[bV]at h;split at h
 .rename_i a ti O z;split at h
  .rename_i fs hk;split at h
   .rename_i off sz Z hf;obtain⟨u,U,_,y⟩:=aAo z hk;obtain⟨fl,B,G,H,L,_,_⟩:=y f off sz Z hf;simp only[execOp];split at h
    .rename_i b o;obtain⟨k,this,hb⟩:=(S x _ O).ptr_inv;refine dL (v:=.pointer (some ⟨k,o+off,none⟩)) M ?_ (.ptr b (o+off) k hb) h;simp[Instr.fieldAt,cL U,B,Instr.sureAddr,this,aD6 H L,G,iH]
    .rename_i cs o;obtain⟨b,q,pre,hv,hp,hl,m,hr⟩:=(S x _ O).eptr_inv;refine dL (v:=.pointer (some ⟨b,q+(o+off),none⟩)) M ?_ (.eptr cs (o+off) b q pre hp hl m hr) h;simp[Instr.fieldAt,cL U,B,Instr.sureAddr,hv,aD6 H L,G,iH,lP]
    .exact h.elim
   .exact h.elim
  .exact h.elim
 .exact h.elim
theorem aNa{t ty:TypeId}{x:Operand}{f:Nat}{dst:Option Tmp}{pos:String}{after:Array Edge}{gd:Option (Nat × Bool)}
  (hR:R C.toCtx F g s w)(he:∀x a,ρ x=some a->Rz g a (ev x))(h:bV C (.field t x f) ρ K) :
  OutS C F g s K ((execOp ev ⟨dst,.field t x f,ty,pos,after,gd⟩).run C.P w):=by
 simp only[bV]at h;split at h
 .rename_i cs ti ha H;split at h
  .rename_i fs hk;split at h
   .rename_i off sz M hf;obtain⟨z,hu,_,G⟩:=aAo H hk;obtain⟨fl,O,S,h3,h4,U,Z⟩:=G f off sz M hf;obtain⟨vs,hv,y,u⟩:=(he x _ ha).agg_inv;simp only[execOp];split at h
    .rename_i m;obtain⟨hl,hK⟩:=h;refine dL (v:=.agg ((vs.drop off).take sz).toArray) hR ?_ ?_ hK
     .simp only[Instr.field,bE,cL hu,bD,O,hv,asAgg,bO,part,aFO U,Z,m,↓reduceIte,aCm h3,S];congr 2;simp[List.extract_toArray,List.take_drop,Nat.add_comm]
     .have:=(y.drop off).take sz;exact .agg _ _ this.1 (λc B=>u c (pX (nQ B))) this.2
    .rename_i m;split at h
     .rename_i a B;obtain⟨v,L,hr⟩:=y.get B;refine dL (v:=v) hR ?_ hr h;have q:M=false:=gQ m;simp only[Instr.field,bE,cL hu,bD,O,hv,asAgg,bO,part,aFO U,Z,q,cQ,↓reduceIte,S];rw[jK,L];rfl
     .exact h.elim
   .exact h.elim
  .exact h.elim
 .exact h.elim
theorem aNp{t ty:TypeId}{x:Operand}{lo M mx:Option Operand}{dst:Option Tmp}{pos:String}{after:Array Edge}{gd:Option (Nat × Bool)}
  (hR:R C.toCtx F g s w)(S:∀x a,ρ x=some a->Rz g a (ev x))(h:bV C (.slice t x lo M mx) ρ K) :
  OutS C F g s K ((execOp ev ⟨dst,.slice t x lo M mx,ty,pos,after,gd⟩).run C.P w):=by
 cases mx with
 | some _=>simp only[bV]at h
 | none =>
 simp only[bV]at h;split at h
 .rename_i a l h' ti ha b5 b4 b8;obtain⟨d,hd,B⟩:=fG b8;obtain⟨l1,l2⟩:=aG6 S b5;obtain⟨h1,h2⟩:=aG6 S b4;split at h
  .rename_i hk;rw[hk]at B;simp only[TK.ok]at B;subst B;split at h
   .rename_i str;simp only[sF]at h;split at h
    .rename_i m q y u;obtain⟨⟨c0,c1,Z⟩,L⟩:=h;have H:=(S x _ ha).str_inv;have e1:(ByteArray.mk str.toArray).size=str.length:=by simp[ByteArray.size]
     refine dL (v:=.string ((ByteArray.mk str.toArray).extract m.toNat q.toNat)) hR ?_ ?_ L
     .simp only[execOp,Instr.sliceAt,bE,cL hd,bD,Instr.slice,H,Option.map_none,Option.isSome_none,cQ,↓reduceIte,e1];rw[wX (C:=C) (w:=w) (g:=g) y u c0 c1 Z (bL _) l1 l2 h1 h2];rfl
     .have:(ByteArray.mk str.toArray).extract m.toNat q.toNat=⟨((str.drop m.toNat).take (q.toNat-m.toNat)).toArray⟩:=by
       apply ByteArray.ext;apply Array.ext';rw[Lib.extract_data]
      rw[this];exact .str _
    .exact h.elim
   .exact h.elim
  .rename_i el hk;rw[hk]at B;simp only[TK.ok]at B;subst B;split at h
   .rename_i tk es O z;obtain⟨b7,h⟩:=h;simp only[sF]at h;split at h
    .rename_i m q y u;obtain⟨⟨c0,c1,Z⟩,L⟩:=h;obtain⟨ad,cap,H,hm,b0,_,U⟩:=(S x _ ha).list_inv;refine dL (v:=.slice (if cap=m.toNat then ad else ad.map (·.add (m.toNat * O.sz))) (q.toNat-m.toNat) (cap-m.toNat)) hR ?_ ?_ L
     .simp only[execOp,Instr.sliceAt,bE,cL hd,bD,Instr.slice,H,Option.map_none];rw[wX (C:=C) (w:=w) (g:=g) y u c0 c1 Z b0 l1 l2 h1 h2];simp only[bD,iS z,bO]
     .have G:((es.drop m.toNat).take (q.toNat-m.toNat)).length=q.toNat-m.toNat:=by
       rw[dV,cS];omega
      by_cases hz:q.toNat-m.toNat=0
      .rw[hz,List.take_zero];exact .list0 none _ _ aB aW
      .rcases U with rfl|⟨b,off,sz,pre,rfl,hp,bb,hs,b3,hr⟩
       .simp at Z;omega
       .have b6:¬ cap=m.toNat:=by omega
        have b1:0<es.length:=by omega
        have b2:O.sz=sz:=by
         have hx:=iF b1;rw[<-b7 _ hx,hs _ hx]
        rw[aD b6,b2];simp only[jM,iH]
        have b9:m.toNat * sz+(q.toNat-m.toNat) * sz<=es.length * sz:=by
         rw[<-eT];exact nP _ aB
        have:=Rz.list (g:=g) none ((es.drop m.toNat).take (q.toNat-m.toNat)) b (off+m.toNat * sz) sz (cap-m.toNat) pre hp (by rw[G];omega) (by rw[G];omega) aB
         (λe hx=>hs e (pX (nQ hx))) (λe hx=>b3 e (pX (nQ hx)))
         (fun i e j c v M hj H => by
          rw[kC]at M;split at M
          .rw[jL]at M;refine hr _ e j c v M hj ?_;rw[eT,<-lP];exact H
          .simp at M) aW
        rw[G]at this;exact this
    .exact h.elim
   .rename_i O z;split at h
    .rename_i m q y u;obtain⟨⟨rfl,rfl⟩,L⟩:=h;have H:=(S x _ ha).nils_inv;refine dL (v:=.slice none 0 0) hR ?_ .nils L;simp only[execOp,Instr.sliceAt,bE,cL hd,bD,Instr.slice,H,Option.map_none];rw[wX (C:=C) (w:=w) (g:=g) (n:=0) y u (uM _) (uM _) (uM _) (bL _) l1 l2 h1 h2];simp only[bD,iS z,bO];rfl
    .exact h.elim
   .rename_i t0 n0 O z;split at h
    .rename_i m q y u;obtain⟨⟨rfl,rfl⟩,L⟩:=h;obtain⟨k,cap,H,hg,hn,hm⟩:=(S x _ ha).gr_inv;refine dL (v:=.slice (if cap=(0:Int).toNat then some ⟨k,0,none⟩ else(some (⟨k,0,none⟩:Addr)).map (·.add ((0:Int).toNat * O.sz))) 0 cap) hR ?_ ?_ L
     .simp only[execOp,Instr.sliceAt,bE,cL hd,bD,Instr.slice,H,Option.map_none];rw[wX (C:=C) (w:=w) (g:=g) (n:=n0) y u (uM _) (uM _) aB hn l1 l2 h1 h2];simp only[bD,iS z,bO];rfl
     .have e1:(if cap=(0:Int).toNat then some (⟨k,0,none⟩:Addr) else(some (⟨k,0,none⟩:Addr)).map (·.add ((0:Int).toNat * O.sz)))=some ⟨k,0,none⟩:=by
       split
       .rfl
       .simp[iH]
      rw[e1];exact .list0 (some t0) _ cap hm (λt ht=>by cases ht;exact hg)
    .exact h.elim
   .rename_i b off n O z;split at h
    .rename_i m q y u;obtain⟨⟨c0,c1,Z⟩,L⟩:=h;obtain⟨k,cap,H,hb,hc,hm⟩:=(S x _ ha).ml_inv;refine dL (v:=.slice (if cap=m.toNat then some ⟨k,off,none⟩ else(some (⟨k,off,none⟩:Addr)).map (·.add (m.toNat * O.sz))) (q.toNat-m.toNat) (cap-m.toNat)) hR ?_ ?_ L
     .simp only[execOp,Instr.sliceAt,bE,cL hd,bD,Instr.slice,H,Option.map_none];rw[wX (C:=C) (w:=w) (g:=g) y u c0 c1 Z hc l1 l2 h1 h2];simp only[bD,iS z,bO]
     .by_cases hz:q.toNat-m.toNat=0
      .rw[aE hz,hz];exact .list0 none _ _ aB aW
      .rw[aD hz,aD aB];simp only[jM,iH];exact .ml b _ _ _ k hb aB aB
    .exact h.elim
   .exact h.elim
  .exact h.elim
 .exact h.elim
end
end
section
theorem aGB{α:Type}(l:List α)(k:Nat)(v:α)(rest:List α)(h:k<l.length) :
  (l.set k v).take (k+1)++rest++(l.set k v).drop (k+1+rest.length)=l.take k++(v::rest)++l.drop (k+(rest.length+1)):=by
 have m:(l.set k v).take (k+1)=l.take k++[v]:=by
  rw[List.take_succ_eq_append_getElem (gQ h)];simp only[List.take_set,List.getElem_set_self];rw[List.set_eq_of_length_le (by simp;omega)]
 have q:(l.set k v).drop (k+1+rest.length)=l.drop (k+(rest.length+1)):=by
  rw[List.drop_set_of_lt aB];congr 1;omega
 rw[m,q];simp
theorem xC:∀(vs cs:List A) (o:Nat),o+vs.length<=cs.length->kV cs o vs=cs.take o++vs++cs.drop (o+vs.length)
 | [],cs,o,_=>by simp[kV]
 | v::vs,cs,o,h=>by
  simp only[aO]at h;rw[kV,xC vs _ _ (by simp;omega)];exact aGB cs o v vs aB
def wA(cells:Array Value)(off:Nat)(vs:Array Value):Array Value:=vs.zipIdx.foldl (λcs (c,j)=>cs.setIfInBounds (off+j) c) cells
theorem aHK(off:Nat):∀(l:List Value) (k:Nat) (cells:Array Value),off+k+l.length<=cells.size ->
  ((l.zipIdx k).foldl (λcs (x:Value × Nat)=>cs.setIfInBounds (off+x.2) x.1) cells).toList=cells.toList.take (off+k)++l++cells.toList.drop (off+k+l.length)
 | [],k,cells,_=>by simp
 | v::l,k,cells,h=>by
  simp only[aO]at h;simp only[List.zipIdx_cons,List.foldl_cons];rw[aHK off l (k+1) _ (by simp;omega)];simp only[Array.toList_setIfInBounds,aO];have:=aGB cells.toList (off+k) v l (by simp;omega);rw[show off+(k+1)=off+k+1 by omega];exact this
theorem aEY(cells:Array Value)(off:Nat)(vs:Array Value)(h:off+vs.size<=cells.size) :
  (wA cells off vs).toList=cells.toList.take off++vs.toList++cells.toList.drop (off+vs.size):=by
 obtain⟨l⟩:=vs;have:=aHK off l 0 cells (gQ h);simpa [wA]using this
theorem aFE{h:Nat->Option (Nat × Nat)}{cells:Array Value}{i:Nat}{v:Value}{rest:List (Nat × Value)}{off m:Nat}
  (q:h i=some (off,m))(u:v.cells.size=m)(hl:off+m<=cells.size) :
  Instr.fill h cells ((i,v)::rest)=Instr.fill h (wA cells off v.cells) rest:=by
 simp only[Instr.fill,q];rw[aD (by simp[u];omega)];rfl
section
variable {C:Cx} {F:Fr} {g:Gh} {s:St} {w:World} {K:A->Prop} {ρ:Operand->Option A} {ev:Operand->Value}
theorem Rzs.put{cs:List A}{cells:Array Value}{off:Nat}{a:A}{v:Value}(h:Rzs g cs cells.toList)(u:Rz g a v)(hl:off+a.cells.length<=cs.length) :
  Rzs g (kV cs off a.cells) (wA cells off v.cells).toList:=by
 have m:=u.cells;have e:v.cells.size=a.cells.length:=gQ m.1;have q:cells.size=cs.length:=gQ h.1;rw[xC _ _ _ hl,aEY _ _ _ aB,e];exact((h.take off).append m).append (h.drop _)
theorem aGV{m:Nat->Option (Nat × Nat)}{h:Nat->Option (Nat × Nat)}(G:∀i x,h i=some x->m i=some x) :
  ∀{az:List (Nat × A)} {vs:List (Nat × Value)} {cs r:List A} {cells:Array Value},
   (vs.map λx=>x.1)=(az.map λx=>x.1)->Rzs g (az.map λx=>x.2) (vs.map λx=>x.2)->Rzs g cs cells.toList ->
   qM h cs az=some r->∃out,Instr.fill m cells vs=some out/\Rzs g r out.toList
 | [],vs,cs,r,cells,y,z,B,q=>by
  simp only[qM,bI]at q;subst q;have:vs=[]:=gQ y;subst this;exact⟨cells,rfl,B⟩
 | (i,a)::az,[],cs,r,cells,y,z,B,q=>by simp at y
 | (i,a) :: az,(j,v) :: vs,cs,r,cells,y,z,B,q => by
  simp only[bN,List.cons.injEq]at y;obtain⟨rfl,y⟩:=y;simp only[qM]at q;split at q
  .simp at q
  .rename_i off H O;split at q
   .rename_i L;obtain⟨e1,e2,e3⟩:=L;have M:Rz g a v:=z.2 0 a v aW aW;have S:v.cells.size=H:=by have:=M.cells.1;simp only[lM]at this;omega
    have U:cells.size=cs.length:=gQ B.1;rw[aFE (G _ _ O) S aB];refine aGV G y ⟨gQ z.1,λk c u L Z=>z.2 (k+1) c u (gQ L) (gQ Z)⟩ (B.put M aB) q
   .simp at q
theorem aGf{α m:Type}(P:Program)(w:World)(f:α->Sem m)(k:α->m):∀(l:List α),(∀x,x∈l->(f x).run P w=.ok (k x) w) ->
  (l.mapM f).run P w=.ok (l.map k) w
 | [],_=>by simp
 | x::l,h=>by
  simp only[List.mapM_cons,bE,h x aW,bD,aGf P w f k l (λy q=>h y (by simp[q])),bO,bN]
theorem aNJ{t ty:TypeId}{q:Array (Nat × Operand)}{dst:Option Tmp}{pos:String}{after:Array Edge}{gd:Option (Nat × Bool)}
  (hR:R C.toCtx F g s w)(he:∀x a,ρ x=some a->Rz g a (ev x))(h:bV C (.build t q) ρ K) :
  OutS C F g s K ((execOp ev ⟨dst,.build t q,ty,pos,after,gd⟩).run C.P w):=by
 simp only[bV]at h;split at h
 .rename_i ps ti b3 L;split at h
  .rename_i M hk;split at h
   .rename_i r hr;simp only[oT]at hr;obtain⟨r',Z,rfl⟩:=hr;obtain⟨m,hu,hn,O⟩:=aAo L hk;obtain⟨z,hz,b5⟩:=xY L w;obtain⟨p1,p2⟩:=aAh he b3
    have S:∀f,f∈m.toList->((do let x <-sizeOf f.type;pure (f.offset,x)):Sem (Nat × Nat)).run C.P w=.ok (f.offset,C.toCtx.sz f.type) w:=by
     intro f hf;obtain⟨i,hi,rfl⟩:=hU hf;have b1:i<M.length:=by rw[<-hn];simpa using hi
     obtain⟨f',H,B,h3,h4,_⟩:=O i M[i].1 M[i].2.1 M[i].2.2 (by simp[b1]);have b0:m[i]?=some m.toList[i]:=by rw[<-wV];exact aV hi
     rw[b0]at H;cases H;simp only[bE,aCm h3,bD,bO,Ctx.sz,h3,Option.getD_some]
    have G:=aGf C.P w _ (λf:Field=>(f.offset,C.toCtx.sz f.type)) m.toList S
    have b2:∀(i:Nat) (x:Nat × Nat),((M[i]?).map λ(x:Nat × Nat × Bool)=>(x.1,x.2.1))=some x->((m.toList.map λf:Field=>(f.offset,C.toCtx.sz f.type)).toArray)[i]?=some x:=by
     intro i x hx;simp only[oT]at hx;obtain⟨y,hy,rfl⟩:=hx;obtain⟨f',H,B,h3,h4,_⟩:=O i y.1 y.2.1 y.2.2 hy;rw[jK,kD,wV,H];simp[B,Ctx.sz,h3]
    obtain⟨out,ho,b4⟩:=aGV (g:=g) b2 (az:=ps) (vs:=q.toList.map λx=>(x.1,ev x.2)) (cs:=ti.zero) (cells:=z.cells) (r:=r')
     (by rw[<-p1];simp[Function.comp_def]) (by simpa [Function.comp_def]using p2) (b5 g) Z
    have U:∀c,c∈r'->c.one=true:=by
     have key:∀(az:List (Nat × A)) (cs r:List A),(∀c,c∈cs->c.one=true)->qM (λi=>(M[i]?).map λx=>(x.1,x.2.1)) cs az=some r->∀c,c∈r->c.one=true:=by
      intro az
      induction az with
      | nil=>intro cs r H B;simp only[qM,bI]at B;subst B;exact H
      | cons x az ih =>
       intro cs r H B;obtain⟨i,a⟩:=x;simp only[qM]at B;split at B
       .simp at B
       .split at B
        .rename_i hc;refine ih _ _ ?_ B;intro c u;rw[xC _ _ _ aB]at u;simp only[dK]at u;rcases u with(u|u)|u
         .exact H c (nQ u)
         .have:=hc.2.2;simp only[fE,fR]at this;exact this c u
         .exact H c (pX u)
        .simp at B
     exact key ps ti.zero r' (C.htt t ti L).one Z
    refine dL (v:=.agg out) hR ?_ ?_ h
    .simp only[Instr.build,bE,hz,bD,cL hu];rw[Array.mapM_eq_mapM_toList];rw[Sem.run_map,G];simp only[bD];have:(q.map λx=>(x.1,ev x.2)).toList=q.toList.map λx=>(x.1,ev x.2):=by simp
     rw[this,ho];rfl
    .have:=b4;exact .agg r' out.toList this.1 U this.2
   .exact h.elim
  .exact h.elim
 .exact h.elim
end
end
section
section
variable {C:Cx} {F:Fr} {g:Gh} {s:St} {w:World} {K:A->Prop} {ρ:Operand->Option A} {ev:Operand->Value}
theorem aCp:∀{az:List (Nat × A)} {k:Nat} {es:List A},vH k az=some es->az.map (λx=>x.2)=es/\az.map (λx=>x.1)=List.range' k es.length
 | [],k,es,h=>by simp[vH]at h;subst h;simp
 | (i,a)::r,k,es,h=>by
  simp only[vH]at h;split at h
  .rename_i u;subst u;simp only[oT]at h;obtain⟨m,q,rfl⟩:=h;have:=aCp q;simp[this.1,this.2,List.range'_succ]
  .simp at h
theorem aCI(h:Nat):∀(vs:List (Nat × Value)) (k:Nat) (cells:Array Value),vs.map (λx=>x.1)=List.range' k vs.length ->
  (∀x,x∈vs->x.2.cells.size=h)->(k+vs.length) * h<=cells.size ->
  ∃out,Instr.fill (λi=>some (i * h,h)) cells vs=some out /\
   out.toList=cells.toList.take (k * h)++(vs.flatMap λx=>x.2.cells.toList)++cells.toList.drop ((k+vs.length) * h)
 | [],k,cells,_,_,_=>⟨cells,rfl,by simp⟩
 | (i,v) :: vs,k,cells,u,G,H => by
  simp only[bN,aO,List.range'_succ,List.cons.injEq]at u;obtain⟨rfl,u⟩:=u;have y:=G (i,v) aW;simp only[aO]at H
  have U:i * h+h<=(i+(vs.length+1)) * h:=by
   rw[show i * h+h=(i+1) * h by rw[eT];omega];exact nP _ aB
  have m:=aEY cells (i * h) v.cells (by simp only at y;omega)
  have z:(wA cells (i * h) v.cells).size=cells.size:=by
   have:=mY List.length m;simp only[lM,aI,dV,cS]at this;simp only at y;omega
  rw[aFE rfl y aB];have B:(i+1+vs.length) * h=(i+(vs.length+1)) * h:=by rw[show i+1+vs.length=i+(vs.length+1)by omega]
  obtain⟨out,ho,q⟩:=aCI h vs (i+1) (wA cells (i * h) v.cells) u (λx O=>G x (by simp[O])) (by rw[z,B];exact H);refine⟨out,ho,?_⟩;rw[q,m];simp only at y;have L:(i+1) * h=i * h+h:=by rw[eT];omega
  have M:=B;rw[L,M,aO,kP]
  have S:(cells.toList.take (i * h)++v.cells.toList++cells.toList.drop (i * h+v.cells.size)).take (i * h+h)=cells.toList.take (i * h)++v.cells.toList:=by
   apply List.take_left';simp only[aI,dV,lM];omega
  have t2:(cells.toList.take (i * h)++v.cells.toList++cells.toList.drop (i * h+v.cells.size)).drop ((i+(vs.length+1)) * h)=cells.toList.drop ((i+(vs.length+1)) * h):=by
   have hl:(cells.toList.take (i * h)++v.cells.toList).length=i * h+h:=by
    simp only[aI,dV,lM];omega
   rw[List.drop_append,eB aB,bP,hl,pZ];congr 1;omega
  rw[S,t2];simp
theorem aIt{t ty:TypeId}{n:Nat}{m:Array (Nat × Operand)}{dst:Option Tmp}{pos:String}{after:Array Edge}{gd:Option (Nat × Bool)}
  (hR:R C.toCtx F g s w)(he:∀x a,ρ x=some a->Rz g a (ev x))(h:bV C (.buildSlice t n m) ρ K) :
  ∃ti G e es out a,C.tt t=some ti/\ti.k=.slice e/\C.tt e=some G/\(∀x,x∈es->x.cells.length=G.sz/\∀c,c∈x.cells->c.one=true)/\(es.length * G.sz<=16777216/\es.length<=16777216) /\
   (execOp ev ⟨dst,.buildSlice t n m,ty,pos,after,gd⟩).run C.P w=.ok (.value (.slice (some ⟨w.heap.size,0,none⟩) es.length es.length)) (w.alloc (.cells out e)) /\
   Rzs g (cY es) out.toList/\(∀tk H,a=.list tk H->H=es)/\K a:=by
 simp only[bV]at h;split at h
 .rename_i ps ti bf b7;split at h
  .rename_i e hk;split at h
   .rename_i G Z;split at h
    .rename_i es bc;obtain⟨⟨rfl,⟨b5,b0⟩,bd⟩,hK⟩:=h;obtain⟨d,hd,S⟩:=fG b7;rw[hk]at S;simp only[TK.ok]at S;subst S;obtain⟨p1,p2⟩:=aAh he bf;obtain⟨q1,q2⟩:=aCp bc;have b2:=aCw bd
     have O:m.toList.length=es.length:=by
      have:=mY List.length p1;have:=mY List.length q1;simp at *;omega
     have bh:∀x,x∈(m.toList.map λx=>(x.1,ev x.2))->x.2.cells.size=G.sz:=by
      intro x hx;obtain⟨k,hk,rfl⟩:=hU hx;simp only[aK]at hk;have b4:k<es.length:=by omega
      have hc:(ps.map λx=>x.2)[k]?=some es[k]:=by rw[q1];exact aV b4
      obtain⟨v,hv,hr⟩:=p2.get hc;have b1:=hr.cells.1;rw[(b2 _ (iF b4)).1]at b1;simp only[List.getElem_map];rw[kD,aV hk]at hv;simp only[jM,bI]at hv;rw[hv];simpa using b1
     have b3:(m.toList.map λx=>(x.1,ev x.2)).map (λx=>x.1)=List.range' 0 (m.toList.map λx=>(x.1,ev x.2)).length:=by
      simp only[List.map_map,Function.comp_def,aK];rw[p1,q2,O]
     obtain⟨z,hz,bk⟩:=xY Z w;have bj:∀(zero:Array Value),((Array.range (es.length * G.sz)).map (λk=>zero[k % zero.size]!)).size=es.length * G.sz:=by intro zero;simp
     have L:∀zero:Array Value,∃out,Instr.fill (λi=>some (i * G.sz,G.sz)) ((Array.range (es.length * G.sz)).map (λk=>zero[k % zero.size]!)) (m.toList.map λx=>(x.1,ev x.2))=some out /\
       out.toList=(m.toList.map λx=>(x.1,ev x.2)).flatMap λx=>x.2.cells.toList:=by
      intro zero;obtain⟨out,ho,B⟩:=aCI G.sz (m.toList.map λx=>(x.1,ev x.2)) 0 ((Array.range (es.length * G.sz)).map (λk=>zero[k % zero.size]!)) b3 bh (by simp[O]);refine⟨out,ho,?_⟩;rw[B]
      have:(((Array.range (es.length * G.sz)).map (λk=>zero[k % zero.size]!)).toList).drop ((0+(m.toList.map λx=>(x.1,ev x.2)).length) * G.sz)=[] :=
       eB (by simp[O])
      rw[this];simp
     have M:Rzs g (cY es) ((m.toList.map λx=>(x.1,ev x.2)).flatMap λx=>x.2.cells.toList):=by
      have key:∀(az:List A) (vs:List Value),Rzs g az vs->Rzs g (cY az) (vs.flatMap λv=>v.cells.toList):=by
       intro az
       induction az with
       | nil=>intro vs h;have:vs=[]:=fC h.1;subst this;exact .nil g
       | cons a az ih =>
        intro vs h;cases vs with
        | nil=>have:=h.1;simp at this
        | cons v vs =>
         simp only[cY,kP];exact(h.2 0 a v aW aW).cells.append (ih vs ⟨gQ h.1,λj c u hc hu=>h.2 (j+1) c u (gQ hc) (gQ hu)⟩)
      have:=key _ _ p2;rw[q1]at this;simpa [List.flatMap_map]using this
     simp only[execOp]
     have U:∃out:Array Value,(Instr.buildSlice t es.length (m.map λx=>(x.1,ev x.2))).run C.P w =
       .ok (.slice (some ⟨w.heap.size,0,none⟩) es.length es.length) (w.alloc (.cells out e))/\Rzs g (cY es) out.toList:=by
      have b6:(m.map λx=>(x.1,ev x.2)).toList=m.toList.map λx=>(x.1,ev x.2):=by simp
      by_cases h0:es.length * G.sz=0
      .obtain⟨out,ho,B⟩:=L #[];refine⟨out,?_,by rw[B];exact M⟩;simp only[Instr.buildSlice,bE,cL hd,bD,iS Z];rw[aD aB,aE h0];simp only[bO,pure_bind,bE,bD,b6,ho,newRow,run_newObj];rfl
      .obtain⟨out,ho,B⟩:=L z.cells;refine⟨out,?_,by rw[B];exact M⟩;simp only[Instr.buildSlice,bE,cL hd,bD,iS Z];rw[aD aB,aD h0];simp only[bO,pure_bind,bE,bD,hz,b6,ho,newRow,run_newObj];rfl
     obtain⟨out,U,bg⟩:=U;rw[sU,U]
     have key:∃a,(∀tk H,a=.list tk H->H=es)/\K a:=by
      cases b8:aA1 m.toList with
      | true =>
       rw[b8]at hK;refine⟨_,λtk H q=>?_,hK⟩
       match es,q with
       | [],q=>cases q
       | [x],q=>cases q
       | x::y::r,q=>cases q;rfl
      | false =>
       rw[b8]at hK;refine⟨_,λtk H q=>?_,hK⟩;cases es with
       | nil=>cases q
       | cons x r=>cases q;rfl
     obtain⟨a,b9,bb⟩:=key;exact⟨ti,G,e,es,out,a,b7,hk,Z,b2,⟨b5,b0⟩,rfl,bg,b9,bb⟩
    .exact h.elim
   .exact h.elim
  .exact h.elim
 .exact h.elim
theorem aJc{t ty:TypeId}{n:Nat}{m:Array (Nat × Operand)}{dst:Option Tmp}{pos:String}{after:Array Edge}{gd:Option (Nat × Bool)}
  (hR:R C.toCtx F g s w)(he:∀x a,ρ x=some a->Rz g a (ev x))(h:bV C (.buildSlice t n m) ρ K) :
  OutS C F g s K ((execOp ev ⟨dst,.buildSlice t n m,ty,pos,after,gd⟩).run C.P w):=by
 simp only[bV]at h;split at h
 .rename_i ps ti bf bg;split at h
  .rename_i e hk;split at h
   .rename_i H b1;split at h
    .rename_i es bb;obtain⟨⟨rfl,⟨bj,bc⟩,bd⟩,hK⟩:=h;obtain⟨d,hd,S⟩:=fG bg;rw[hk]at S;simp only[TK.ok]at S;subst S;obtain⟨p1,p2⟩:=aAh he bf;obtain⟨q1,q2⟩:=aCp bb;have Z:=aCw bd
     have O:m.toList.length=es.length:=by
      have:=mY List.length p1;have:=mY List.length q1;simp at *;omega
     have bh:∀x,x∈(m.toList.map λx=>(x.1,ev x.2))->x.2.cells.size=H.sz:=by
      intro x hx;obtain⟨k,hk,rfl⟩:=hU hx;simp only[aK]at hk;have b5:k<es.length:=by omega
      have hc:(ps.map λx=>x.2)[k]?=some es[k]:=by rw[q1];exact aV b5
      obtain⟨v,hv,hr⟩:=p2.get hc;have b3:=hr.cells.1;rw[(Z _ (iF b5)).1]at b3;simp only[List.getElem_map];rw[kD,aV hk]at hv;simp only[jM,bI]at hv;rw[hv];simpa using b3
     have b4:(m.toList.map λx=>(x.1,ev x.2)).map (λx=>x.1)=List.range' 0 (m.toList.map λx=>(x.1,ev x.2)).length:=by
      simp only[List.map_map,Function.comp_def,aK];rw[p1,q2,O]
     obtain⟨z,hz,bl⟩:=xY b1 w;have bk:∀(zero:Array Value),((Array.range (es.length * H.sz)).map (λk=>zero[k % zero.size]!)).size=es.length * H.sz:=by intro zero;simp
     have L:∀zero:Array Value,∃out,Instr.fill (λi=>some (i * H.sz,H.sz)) ((Array.range (es.length * H.sz)).map (λk=>zero[k % zero.size]!)) (m.toList.map λx=>(x.1,ev x.2))=some out /\
       out.toList=(m.toList.map λx=>(x.1,ev x.2)).flatMap λx=>x.2.cells.toList:=by
      intro zero;obtain⟨out,ho,B⟩:=aCI H.sz (m.toList.map λx=>(x.1,ev x.2)) 0 ((Array.range (es.length * H.sz)).map (λk=>zero[k % zero.size]!)) b4 bh (by simp[O]);refine⟨out,ho,?_⟩;rw[B]
      have:(((Array.range (es.length * H.sz)).map (λk=>zero[k % zero.size]!)).toList).drop ((0+(m.toList.map λx=>(x.1,ev x.2)).length) * H.sz)=[] :=
       eB (by simp[O])
      rw[this];simp
     have M:Rzs g (cY es) ((m.toList.map λx=>(x.1,ev x.2)).flatMap λx=>x.2.cells.toList):=by
      have key:∀(az:List A) (vs:List Value),Rzs g az vs->Rzs g (cY az) (vs.flatMap λv=>v.cells.toList):=by
       intro az
       induction az with
       | nil=>intro vs h;have:vs=[]:=fC h.1;subst this;exact .nil g
       | cons a az ih =>
        intro vs h;cases vs with
        | nil=>have:=h.1;simp at this
        | cons v vs =>
         simp only[cY,kP];exact(h.2 0 a v aW aW).cells.append (ih vs ⟨gQ h.1,λj c u hc hu=>h.2 (j+1) c u (gQ hc) (gQ hu)⟩)
      have:=key _ _ p2;rw[q1]at this;simpa [List.flatMap_map]using this
     simp only[execOp]
     have U:∃out:Array Value,(Instr.buildSlice t es.length (m.map λx=>(x.1,ev x.2))).run C.P w =
       .ok (.slice (some ⟨w.heap.size,0,none⟩) es.length es.length) (w.alloc (.cells out e))/\Rzs g (cY es) out.toList:=by
      have b6:(m.map λx=>(x.1,ev x.2)).toList=m.toList.map λx=>(x.1,ev x.2):=by simp
      by_cases h0:es.length * H.sz=0
      .obtain⟨out,ho,B⟩:=L #[];refine⟨out,?_,by rw[B];exact M⟩;simp only[Instr.buildSlice,bE,cL hd,bD,iS b1];rw[aD aB,aE h0];simp only[bO,pure_bind,bE,bD,b6,ho,newRow,run_newObj];rfl
      .obtain⟨out,ho,B⟩:=L z.cells;refine⟨out,?_,by rw[B];exact M⟩;simp only[Instr.buildSlice,bE,cL hd,bD,iS b1];rw[aD aB,aD h0];simp only[bO,pure_bind,bE,bD,hz,b6,ho,newRow,run_newObj];rfl
     obtain⟨out,U,b7⟩:=U;rw[sU,U];obtain⟨b2,b0⟩:=hR.newRow out.toList e []
     have q:es≠[]->Rz (g.know w.heap.size out.toList) (.list none es) (.slice (some ⟨w.heap.size,0,none⟩) es.length es.length):=by
      intro G;have b8:=b7.mono b0.le;have hl:=uI (λx hx=>(Z x hx).1);refine sS (pre:=out.toList) (vs:=out.toList) (off:=0) (sz:=H.sz) (by simp[Gh.know]) aW ?_ (λx hx=>(Z x hx).1) (λx hx=>(Z x hx).2) (bL _) ?_ (aX _) aW
      .rw[jA (by rw[b7.1,hl];exact bL _)];exact b8
      .unfold maxLen;omega
     have hz:Rz (g.know w.heap.size out.toList) (hlA es) (.slice (some ⟨w.heap.size,0,none⟩) es.length es.length):=by
      match es,q with
      | [],_=>exact .emp _
      | [x],q=>exact .hl x _ _ (q aW)
      | x::y::r,q=>exact q aW
     cases b9:aA1 m.toList with
     | true=>rw[b9]at hK;exact⟨_,_,b0,gQ b2,hz,hK⟩
     | false =>
     rw[b9]at hK;refine⟨_,_,b0,gQ b2,?_,hK⟩;cases G:es with
     | nil=>exact .emp _
     | cons e0 r0 =>
     rw[<-G];show Rz _ (yW es) _;rw[show yW es=.list none es by rw[G];rfl];exact q (by rw[G];simp)
    .exact h.elim
   .exact h.elim
  .exact h.elim
 .exact h.elim
theorem aJM{t ty:TypeId}{x i:Operand}{dst:Option Tmp}{pos:String}{after:Array Edge}{gd:Option (Nat × Bool)}
  (hR:R C.toCtx F g s w)(Z:∀x a,ρ x=some a->Rz g a (ev x))(h:bV C (.indexAddr t x i) ρ K) :
  OutS C F g s K ((execOp ev ⟨dst,.indexAddr t x i,ty,pos,after,gd⟩).run C.P w):=by
 simp only[bV]at h;split at h
 .rename_i a k n ti ha hi b5;have y:=(Z i _ hi).int_inv;obtain⟨d,hd,u⟩:=fG b5;simp only[execOp];split at h
  .rename_i e hk;rw[hk]at u;simp only[TK.ok]at u;subst u;split at h
   .rename_i tk es;split at h
    .rename_i G q;obtain⟨⟨M,H⟩,h⟩:=h;have b0:es[n.toNat]?=some es[n.toNat]:=aV H;rw[b0]at h;obtain⟨b1,L⟩:=h;obtain⟨ad,cap,B,hm,O,_,hr⟩:=(Z x _ ha).list_inv;rcases hr with rfl|⟨b,off,sz,pre,rfl,hp,hl,hs,z,hr⟩
     .simp at H
     .have S:G.sz=sz:=by rw[<-b1,hs _ (iF H)]
      refine dL (v:=.pointer (some ⟨b,off+n.toNat * sz,none⟩)) hR ?_ ?_ L
      .have U:n<(es.length:Int):=by omega
       simp only[Instr.indexAt,y,asIntOf,bE,bO,bD,cL hd,B,M,U,rK,↓reduceIte,iS q,iH,S]
      .have hb:n.toNat * sz+sz<=es.length * sz:=by
        have:(n.toNat+1) * sz<=es.length * sz:=nP _ H
        rwa[eT,Nat.one_mul]at this
       have:=Rz.eptr (g:=g) es[n.toNat].cells 0 b (off+n.toNat * sz) pre hp (by rw[b1,S];omega) (λc O=>z _ (iF H) c O)
        (λj c v O B=>hr n.toNat _ j c v b0 O B)
       simpa using this
    .exact h.elim
   .rename_i b off m;split at h
    .rename_i G q;obtain⟨⟨M,H⟩,L⟩:=h;obtain⟨k,cap,B,hb,O,hm⟩:=(Z x _ ha).ml_inv;refine dL (v:=.pointer (some ⟨k,off+n.toNat * G.sz,none⟩)) hR ?_ (.ptr b _ k hb) L;have U:n<(m:Int):=by omega
     simp only[Instr.indexAt,y,asIntOf,bE,bO,bD,cL hd,B,M,U,rK,↓reduceIte,iS q,iH]
    .exact h.elim
   .rename_i b m _;split at h
    .rename_i G q;obtain⟨⟨M,H⟩,L⟩:=h;obtain⟨k,B,hb,O,hm⟩:=(Z x _ ha).mg_inv;refine dL (v:=.pointer (some ⟨k,0+n.toNat * G.sz,none⟩)) hR ?_ (by rw[fX];exact .ptr b _ k hb) L;have U:n<(m:Int):=by omega
     simp only[Instr.indexAt,y,asIntOf,bE,bO,bD,cL hd,B,M,U,rK,↓reduceIte,iS q,iH]
    .exact h.elim
   .rename_i t' es sz;split at h
    .rename_i G q;obtain⟨⟨M,_⟩,L⟩:=h;obtain⟨b,cap,B,hl,O,_⟩:=(Z x _ ha).pen_inv
     have b4:g.eta t' es.length=some (.slice (some ⟨b,0,none⟩) es.length cap):=by
      obtain⟨_,_,_,_,_,h5,_⟩:=hl.list_inv;exact h5 _ rfl
     refine dL (v:=.pointer (some ⟨b,es.length * G.sz,none⟩)) hR ?_ (.rm t' es.length G.sz b cap b4 O) L;have U:n<((es.length+1:Nat):Int):=by omega
     have b2:0<=n:=by omega
     have b3:n.toNat=es.length:=by omega
     simp only[Instr.indexAt,y,asIntOf,bE,bO,bD,cL hd,B,b2,U,rK,↓reduceIte,iS q,iH,b3,fX]
    .exact h.elim
   .exact h.elim
  .rename_i m e hk;rw[hk]at u;simp only[TK.ok]at u;subst u;split at h
   .rename_i cs o;split at h
    .rename_i G q;obtain⟨⟨M,H⟩,L⟩:=h;obtain⟨b,off,pre,B,hp,hl,z,hr⟩:=(Z x _ ha).eptr_inv;refine dL (v:=.pointer (some ⟨b,off+(o+n.toNat * G.sz),none⟩)) hR ?_ (.eptr cs _ b off pre hp hl z hr) L;simp only[Instr.indexAt,y,asIntOf,bE,bO,bD,cL hd,B,M,H,rK,↓reduceIte,iS q,iH,Instr.sureAddr,pure_bind,lP]
    .exact h.elim
   .exact h.elim
  .exact h.elim
 .exact h.elim
theorem aM5{t ty:TypeId}{x i:Operand}{dst:Option Tmp}{pos:String}{after:Array Edge}{gd:Option (Nat × Bool)}
  (L:R C.toCtx F g s w)(B:∀x a,ρ x=some a->Rz g a (ev x))(h:bV C (.index t x i) ρ K) :
  OutS C F g s K ((execOp ev ⟨dst,.index t x i,ty,pos,after,gd⟩).run C.P w):=by
 simp only[bV]at h;split at h
 .rename_i str k n ti M O y;have u:=(B i _ O).int_inv;have Z:=(B x _ M).str_inv;obtain⟨d,hd,m⟩:=fG y;simp only[execOp];split at h
  .rename_i S;obtain⟨⟨H,z⟩,h⟩:=h;rw[S]at m;simp only[TK.ok]at m;subst m;have q:str[n.toNat]?=some str[n.toNat]:=aV z;rw[q]at h;refine dL (v:=.int .u8 str[n.toNat].toNat) L ?_ (.int _ _) h
   have G:(ByteArray.mk str.toArray)[n.toNat]?=some str[n.toNat]:=by
    have U:n.toNat<(ByteArray.mk str.toArray).size:=by simpa [ByteArray.size]using z
    rw[getElem?_pos (ByteArray.mk str.toArray) n.toNat U];rfl
   simp only[Instr.index,u,asIntOf,bE,bO,bD,cL hd,Z,H,↓reduceIte,G]
  .exact h.elim
 .exact h.elim
theorem aOn{c:Call}{ty:TypeId}{dst:Option Tmp}{pos:String}{after:Array Edge}{gd:Option (Nat × Bool)}
  (H:R C.toCtx F g s w)(G:∀x a,ρ x=some a->Rz g a (ev x))(h:bV C (.call c) ρ K) :
  OutS C F g s K ((execOp ev ⟨dst,.call c,ty,pos,after,gd⟩).run C.P w):=by
 obtain⟨b0,args,L⟩:=c;obtain⟨args⟩:=args;obtain⟨L⟩:=L;simp only[bV]at h;split at h
 .rename_i x t;split at h
  .rename_i a ti B O;obtain⟨d,hd,q⟩:=fG O;split at h
   .rename_i Z;rw[Z]at q;simp only[TK.ok]at q;subst q;cases a<;>simp only at h
    rename_i str;have m:=(G x _ B).str_inv;have e1:(ByteArray.mk str.toArray).size=str.length:=by simp[ByteArray.size]
    simp only[execOp,resolve,invoke,builtin,bE,bO,bD,hZ,bN,cP,m];simp only[Builtin.len_,jK,iZ,bE,cL hd,bD,bO,goInt,e1];exact OutS.val H (.int _ _) h
   .rename_i e Z;rw[Z]at q;simp only[TK.ok]at q;subst q;cases a<;>simp only[jI]at h
    .have m:=(G x _ B).nils_inv;simp only[execOp,resolve,invoke,builtin,bE,bO,bD,hZ,bN,cP,m];simp only[Builtin.len_,jK,iZ,bE,cL hd,bD,bO,goInt];exact OutS.val H (.int _ _) h
    .obtain⟨ad,cap,m,_⟩:=(G x _ B).list_inv;simp only[execOp,resolve,invoke,builtin,bE,bO,bD,hZ,bN,cP,m];simp only[Builtin.len_,jK,iZ,bE,cL hd,bD,bO,goInt];exact OutS.val H (.int _ _) h
    rotate_left
    .obtain⟨a,m⟩:=(G x _ B).emp_inv;simp only[execOp,resolve,invoke,builtin,bE,bO,bD,hZ,bN,cP,m];simp only[Builtin.len_,jK,iZ,bE,cL hd,bD,bO,goInt];exact OutS.val H (.int _ _) h
    .obtain⟨k,m,_⟩:=(G x _ B).mg_inv;simp only[execOp,resolve,invoke,builtin,bE,bO,bD,hZ,bN,cP,m];simp only[Builtin.len_,jK,iZ,bE,cL hd,bD,bO,goInt];exact OutS.val H (.int _ _) h
    .obtain⟨k,cap,m,_⟩:=(G x _ B).ml_inv;simp only[execOp,resolve,invoke,builtin,bE,bO,bD,hZ,bN,cP,m];simp only[Builtin.len_,jK,iZ,bE,cL hd,bD,bO,goInt];exact OutS.val H (.int _ _) h
   .exact h.elim
  .exact h.elim
 .rename_i x;split at h
  .rename_i tk y ys B;obtain⟨ad,cap,m,hm,hc,_,hh⟩:=(G x _ B).list_inv;have hr:=G x _ B;rw[m]at hr;rcases hh with hh|⟨M,off,sz,pre,rfl,_⟩
   .cases hh
   have U:cap≠0:=by simp at hc;omega
   simp only[execOp,resolve,invoke,builtin,bE,bO,bD,hZ,bN,cP,m]
   have S:(Builtin.unsafeSliceData_ ⟨L⟩ ty #[.slice (some ⟨M,off,none⟩) (y::ys).length cap]).run C.P w=.ok (.pointer (some ⟨M,off,none⟩)) w:=by
    have e1:Builtin.unsafeSliceData_ ⟨L⟩ ty #[.slice (some ⟨M,off,none⟩) (y::ys).length cap]=(if cap≠0 then pure (.pointer (some ⟨M,off,none⟩))
     else do if(<-viewAt M).isSome then pure (.pointer (some ⟨M,off,none⟩)) else pure (.pointer (some ⟨<-newObj (.view ⟨M,off,none⟩ (<-elemOf ty)),0,none⟩))):=rfl
    rw[e1,aE U];rfl
   rw[S];exact OutS.val H (.sd tk _ _ cap U hr) h
  .rename_i B;have m:=(G x _ B).nils_inv;simp only[execOp,resolve,invoke,builtin,bE,bO,bD,hZ,bN,cP,m];have S:(Builtin.unsafeSliceData_ ⟨L⟩ ty #[.slice none 0 0]).run C.P w=.ok (.pointer none) w:=rfl;rw[S];exact OutS.val H .nilp h
  .exact h.elim
 .rename_i x t;split at h
  .rename_i ti B O;split at h
   .rename_i e Z;obtain⟨d,hd,q⟩:=fG O;rw[Z]at q;simp only[TK.ok]at q;subst q;have m:=(G x _ B).nils_inv;simp only[execOp,resolve,invoke,builtin,bE,bO,bD,hZ,bN,cP,m];have S:(Builtin.cap_ ⟨[t]⟩ ty #[.slice none 0 0]).run C.P w=.ok (.int .i64 0) w:=by simp[Builtin.cap_,goInt,cL hd]
    rw[S];exact OutS.val H (.int _ _) h
   .exact h.elim
  .exact h.elim
 .rename_i x y;split at h
  .rename_i j a k b B hy;have m:=(G x _ B).int_inv;have hu:=(G y _ hy).int_inv;simp only[execOp,resolve,invoke,builtin,bE,bO,bD,hZ,bN,cP,m,hu];simp only[Builtin.max_,List.foldlM_cons,List.foldlM_nil,Builtin.max2,bE,bO,bD,pure_bind];exact OutS.val H (.int _ _) h
  .exact h.elim
 .rename_i x y;split at h
  .rename_i j a k b B hy;have m:=(G x _ B).int_inv;have hu:=(G y _ hy).int_inv;simp only[execOp,resolve,invoke,builtin,bE,bO,bD,hZ,bN,cP,m,hu];simp only[Builtin.min_,List.foldlM_cons,List.foldlM_nil,Builtin.min2,bE,bO,bD,pure_bind];exact OutS.val H (.int _ _) h
  .exact h.elim
 .rename_i x y z u;split at h
  .rename_i j a k b k2 c k3 d B hy hz hu;have v1:=(G x _ B).int_inv;have v2:=(G y _ hy).int_inv;have v3:=(G z _ hz).int_inv;have v4:=(G u _ hu).int_inv;simp only[execOp,resolve,invoke,builtin,bE,bO,bD,hZ,bN,cP,v1,v2,v3,v4];simp only[Builtin.max_,List.foldlM_cons,List.foldlM_nil,Builtin.max2,bE,bO,bD,pure_bind];exact OutS.val H (.int _ _) h
  .exact h.elim
 .exact h.elim
end
end
section
section
variable {C:Cx} {F:Fr} {g:Gh} {s:St} {w:World} {K:A->Prop} {ρ:Operand->Option A} {ev:Operand->Value}
theorem pG{op:Op}{ty:TypeId}{dst:Option Tmp}{pos:String}{after:Array Edge}{gd:Option (Nat × Bool)}
  (G:R C.toCtx F g s w)(B:∀x a,ρ x=some a->Rz g a (ev x))(h:bV C op ρ K) :
  OutS C F g s K ((execOp ev ⟨dst,op,ty,pos,after,gd⟩).run C.P w):=by
 cases op
 case move x =>
  simp only[bV]at h;split at h
  .rename_i v H;exact OutS.val G (B x v H) h
  .exact h.elim
 case assign x =>
  simp only[bV]at h;split at h
  .rename_i v H;exact OutS.val G (B x v H) h
  .exact h.elim
 case pick c a b =>
  simp only[bV]at h;split at h
  .rename_i O;split at h
   .rename_i v H;simp only[execOp,bE,bO,(B c _ O).bool_inv,asBool,bD,↓reduceIte];exact OutS.val G (B a v H) h
   .exact h.elim
  .rename_i O;split at h
   .rename_i v H;simp only[execOp,bE,bO,(B c _ O).bool_inv,asBool,bD,cQ,↓reduceIte];exact OutS.val G (B b v H) h
   .exact h.elim
  .exact h.elim
 case binOp=>exact aNc G B h
 case unOp op t x =>
  simp only[bV]at h;split at h
  .rename_i a ha;split at h
   .rename_i v H;simp only[execOp];unfold unA at H;split at H<;>simp only[bI,reduceCtorEq]at H<;>subst H
    .exact dL G (by simp[Op.unary,(B x _ ha).bool_inv]) (.bool _) h
    .exact dL G (by simp[Op.unary,Op.intArith,(B x _ ha).int_inv]) (.int _ _) h
    .refine dL G ?_ (.int _ _) h;rw[(B x _ ha).int_inv];simp only[Op.unary,Op.intBits,bO]
   .exact h.elim
  .exact h.elim
 case nilCheck x =>
  simp only[bV]at h;split at h
  .rename_i b o M;obtain⟨k,H,hb⟩:=(B x _ M).ptr_inv;simp only[execOp,H];exact OutS.val G (.ptr b o k hb) h
  .rename_i cs o M;have H:=B x _ M;obtain⟨b,off,pre,e,_⟩:=H.eptr_inv;simp only[execOp,e];rw[e]at H;exact OutS.val G H h
  .exact h.elim
 case fieldAddr=>exact aJv G B h
 case field=>exact aNa G B h
 case typeAssert x xt t ok =>
  cases ok
  .simp only[bV]at h
  .simp only[bV]at h;split at h
   .rename_i u v ti M b5;split at h
    .rename_i fs hk;obtain⟨rfl,h⟩:=h;obtain⟨b0,hu,_⟩:=aAo b5 hk;obtain⟨y,H,hr⟩:=(B x _ M).iface_inv;simp only[execOp];refine dL (v:=.tuple #[y,.bool true]) G ?_ (.tuple [v,.bool true] [y,.bool true] rfl λj c z O hz=>?_) h
     .simp[Instr.typeAssert,cL hu,H]
     ·match j with
      | 0=>simp at O hz;subst O;subst hz;exact hr
      | 1=>simp at O hz;subst O;subst hz;exact .bool _
      | _+2=>simp at O
    .exact h.elim
   .exact h.elim
 case extract x i =>
  simp only[bV]at h;split at h
  .rename_i vs M;split at h
   .rename_i v H;obtain⟨us,e,hr⟩:=(B x _ M).tuple_inv;obtain⟨u,hu,bg⟩:=hr.get H;simp only[execOp];exact dL G (by simp[Instr.extract,e,hu]) bg h
   .exact h.elim
  .exact h.elim
 case makeInterface t x =>
  simp only[bV]at h;split at h
  .rename_i a ti ha b5;obtain⟨d,hd,L⟩:=fG b5
   have hn:(∀ms,d≠.interface ms)/\K (.iface t a):=by
    cases hk:ti.k<;>rw[hk]at h L<;>simp only[TK.ok]at L<;>simp only at h
    all_goals first
     | (subst L;exact⟨by simp,h⟩)
     | (obtain⟨b0,rfl,_⟩:=L;exact⟨by simp,h⟩)
     | exact⟨L.2,h⟩
   simp only[execOp];refine dL G (v:=.iface t (ev x)) ?_ (.iface t a _ (B x a ha)) hn.2;simp only[Instr.makeInterface,bE,cL hd,bD];cases d<;>first|rfl|exact cV rfl (hn.1 _)
  .exact h.elim
 case makeFunc fn first b6 =>
  simp only[bV]at h;cases fn<;>simp only at h
  rename_i f;split at h
  .rename_i l m hl hm;simp only[execOp];have r1:=aAz B hl;have r2:=aAz B hm;obtain⟨fl⟩:=first
   obtain⟨cl⟩:=b6;exact dL G (v:=.func (.func f) (fl.map ev).toArray (cl.map ev).toArray) (by simp[Instr.makeFunc]) (.fn f l m _ _ r1.1 r2.1 r1.2 r2.2) h
  .exact h.elim
 case convert a b x =>
  simp only[bV]at h;split at h
  .rename_i k n ta tb M b3 b4;obtain⟨d,hd,L⟩:=fG b3;obtain⟨d',b1,q⟩:=fG b4;split at h
   .rename_i k' hk;rw[hk]at q;simp only[TK.ok]at q;subst q;simp only[execOp];refine dL G ?_ (.int _ _) h;simp only[convert,bE,cL hd,cL b1,bD,(B x _ M).int_inv,Conv.intToInt];cases d<;>rfl
   .exact h.elim
  .rename_i str ta tb M b3 b4;obtain⟨d,hd,L⟩:=fG b3;obtain⟨d',b1,q⟩:=fG b4;split at h
   .rename_i hk;rw[hk]at q;simp only[TK.ok]at q;subst q;simp only[execOp];refine dL G (v:=.string ⟨str.toArray⟩) ?_ (.str _) h;simp only[convert,bE,cL hd,cL b1,bD,(B x _ M).str_inv];cases d<;>rfl
   .rename_i e hk;rw[hk]at q;simp only[TK.ok]at q;subst q;split at h
    .rename_i te bc bh;rw[bc]at L;simp only[TK.ok]at L;subst L;split at h
     .rename_i bd;obtain⟨h1,h2,h⟩:=h;obtain⟨d2,bb,U⟩:=fG bh;rw[bd]at U;simp only[TK.ok]at U;subst U;simp only[execOp,(B x _ M).str_inv];rw[sU,run_bytes_of_string w a b e _ hd b1 bb];have b2:=grownCap_ge w (ByteArray.mk str.toArray).size 0 e;have b7:(ByteArray.mk str.toArray).size=str.length:=by simp[ByteArray.size]
      rw[b7]at b2⊢;have b9:=grownCap_le_maxLen w str.length 0 e h2
      have Z:∃rest,(bytesRow ⟨str.toArray⟩ (grownCap w str.length 0 e))=((str.map λc=>Value.int .u8 c.toNat)++rest).toArray :=
       ⟨List.replicate (grownCap w str.length 0 e-str.length) (.int .u8 0),by simp[bytesRow,b7]⟩
      obtain⟨rest,Z⟩:=Z;rw[Z]
      obtain⟨b8,bf⟩:=R.newRow (w:=w.drew) (G.heap rfl) (str.map λc=>Value.int .u8 c.toNat) e rest
       ((((str.map λc=>Value.int .u8 c.toNat)++rest).toArray).size,(((str.map λc=>Value.int .u8 c.toNat)++rest).toArray).size+1)
      refine⟨_,_,bf,b8,?_,h⟩
      have:=Rz.list (g:=g.know w.drew.heap.size (str.map λc=>Value.int .u8 c.toNat)) none (str.map λc=>A.int .u8 c.toNat) w.drew.heap.size 0 1 (grownCap w str.length 0 e)
       (str.map λc=>Value.int .u8 c.toNat) (by simp[Gh.know]) aW (gQ b2) b9
       (λy S=>by simp only[cD]at S;obtain⟨c,_,rfl⟩:=S;rfl)
       (λy S z hz=>by simp only[cD]at S;obtain⟨c,_,rfl⟩:=S;simp[A.cells]at hz;subst hz;rfl)
       (fun i y j z v S hz H => by
        rw[kD]at S;cases O:str[i]? with
        | none=>rw[O]at S;cases S
        | some c =>
         rw[O]at S;simp only[jM,bI]at S;subst S;cases j with
         | zero =>
          simp[A.cells]at hz;subst hz;simp[O]at H;subst H;exact .int _ _
         | succ j=>simp[A.cells]at hz)
       aW
      simpa using this
     .exact h.elim
    .exact h.elim
   .exact h.elim
  .exact h.elim
 case build=>exact aNJ G B h
 case buildSlice=>exact aJc G B h
 case load t x =>
  simp only[bV]at h;split at h
  .rename_i cs o M;split at h
   .rename_i v H;obtain⟨u,hu,hr⟩:=aKF G H (B x _ M);exact dL G hu hr h
   .exact h.elim
  .exact h.elim
 case slice=>exact aNp G B h
 case indexAddr=>exact aJM G B h
 case index=>exact aM5 G B h
 case call=>exact aOn G B h
 all_goals (simp only[bV]at h)
def oK(C:Cx)(s:St)(o:Ob)(f:Nat->A)(KV:St->A->Prop):Prop:=match C.det with
 | false=>∀b,s.getO b=none->KV (s.setO b o) (f b)
 | true=>KV (s.newO o) (f s.lim)
def aBj(C:Cx)(s:St)(t:TypeId)(cs:List A)(KV:St->A->Prop):Prop:=oK C s (.cells t cs) (λb=>.ptr b 0) KV
def newT(C:Cx)(s:St)(n:Nat)(e:TypeId)(ys:List A)(KV:St->A->Prop):Prop:=match C.det with
 | false=>∀t,s.getT t=none->KV (s.setT t (n,e)) (.list (some t) ys)
 | true=>KV (s.newT (n,e)) (.list (some s.lim) ys)
def aBb(s:St)(n:Nat)(e:TypeId)(sz:Nat)(cs:List A)(KV:St->A->Prop):Prop :=
 ∀(b cap:Nat) (J:List A),s.getO b=none->n<=cap->J.length=(cap-n) * sz->(∀c,c∈J->c.one=true)->KV (s.setO b (.cells e (cs++J))) (.mg b n cap)
def lH(C:Cx)(s:St)(n:Nat)(e:TypeId)(sz:Nat)(ys:List A)(KV:St->A->Prop):Prop:=match C.det with
 | true=>newT C s n e ys KV
 | false=>match Nat.beq C.mu 1 with
  | false=>newT C s n e ys KV
  | true=>0<n/\aBb s n e sz (cY ys) KV
def yZ(C:Cx):Bool:=match C.det with
 | true=>false
 | false=>Nat.beq C.mu 2
def wI(C:Cx)(s:St)(t:TypeId)(KV:St->A->Prop)(a:A):Prop:=match a,C.tt t with
 | .list _ es,some h=>(match h.k with
  | .slice e=>∀k,s.getT k=none->KV (s.setT k (es.length,e)) (.list (some k) es)
  | _=>False)
 | _,_=>False
def qP(det:Bool)(s:St)(b n cap:Nat)(e:TypeId)(sz m:Nat)(ys:List A)(KV:St->A->Prop):Option Ob->Prop
 | some (.cells e' cs)=>(det=false/\e'=e/\cs.length=cap * sz/\n<=cap/\n+m<=4294967296/\0<m) /\
  ∀(q h:Nat) (J:List A),(q=b/\h=cap\/s.getO q=none)->n+m<=h->J.length=(h-(n+m)) * sz->(∀c,c∈J->c.one=true) ->
   KV (s.setO q (.cells e (cs.take (n * sz)++(cY ys++J)))) (.mg q (n+m) h)
 | _=>False
def wG(C:Cx)(s:St)(n:Nat)(e:TypeId)(KV:St->A->Prop):Prop:=match C.det with
 | false=>∀t,s.getT t=none->KV (s.setT t (0,e)) (.gr t n)
 | true=>KV (s.newT (0,e)) (.gr s.lim n)
def qQ(C:Cx)(s:St)(n:Nat)(e:TypeId)(ys:List A)(sz:Nat)(KV:St->A->Prop):Prop:=match C.det with
 | false=>∀t,s.getT t=none->KV (s.setT t (n,e)) (.pen t ys sz)
 | true=>KV (s.newT (n,e)) (.pen s.lim ys sz)
def tS(C:Cx)(s:St)(m:TI)(t u:TypeId)(z:A)(KV:St->A->Prop)(a:A):Prop:=match m.k with
 | .slice e=>match C.tt e with
  | some h=>(u=t/\h.sz≠0/\h.bytes<=32768/\z.cells.length=h.sz)/\(match a with
   | .nils=>qQ C s 0 e [] h.sz KV
   | .list tk es=>match tk with
    | some k=>(s.getT k=some (es.length,e)/\(∀y,y∈es->y.cells.length=h.sz)/\es.length+1<=4294967296)/\qQ C (s.delT k) es.length e es h.sz KV
    | none=>False
   | _=>False)
  | none=>False
 | _=>False
def pU(C:Cx)(s:St)(k n z:Nat)(q:TI)(v:A)(KV:St->A->Prop):Prop:=match s.getT k with
 | some (m,e)=>match C.tt e with
  | some h=>(m=n/\h.sz=z/\q.sz=z/\v.cells.length=z/\fE v.cells=true)/\KV ((s.setT k (n+1,e)).setL (some (k,n,v))) (.tuple [])
  | none=>False
 | none=>False
def yV(t:Nat)(es:List A)(sz:Nat)(q:Nat × Nat × A):A:=if q.1=t/\q.2.1=es.length/\q.2.2.cells.length=sz then .list (some t) (es++[q.2.2]) else .pen t es sz
def gA(s:St):A->A
 | .pen t es sz=>match s.ls with
  | some q=>yV t es sz q
  | none=>.pen t es sz
 | a=>a
def eQ(bs:List UInt8):List A:=bs.map λc=>.int .u8 c.toNat
def aBk(C:Cx)(m:TI)(u:TypeId):Option TypeId:=match m.k with
 | .slice e=>match C.tt u,C.tt e with
  | some q,some h=>match q.k with
   | .string=>match h.k with
    | .int .u8=>if h.sz=1/\h.bytes=1 then some e else none
    | _=>none
   | _=>none
  | _,_=>none
 | _=>none
def wF(C:Cx)(s:St)(e:TypeId)(bs:List UInt8)(KV:St->A->Prop):A->Prop
 | .nils=>bs.length<=4294967296/\newT C s bs.length e (eQ bs) KV
 | .list (some t) es=>(s.getT t=some (es.length,e)/\(∀y,y∈es->y.cells.length=1)/\es.length+bs.length<=4294967296) /\
   KV (s.setT t (es.length+bs.length,e)) (.list (some t) (es++eQ bs))
 | _=>False
def oM(C:Cx)(s:St)(e:TypeId)(h:TI)(ys:List A)(KV:St->A->Prop):A->Prop
 | .nils=>ys.length<=4294967296/\lH C s ys.length e h.sz ys KV
 | .emp=>match ys with
  | []=>KV s .emp
  | y::r=>((y::r).length<=4294967296/\0<(y::r).length)/\lH C s (y::r).length e h.sz (y::r) KV
 | .mg b n cap=>qP C.det s b n cap e h.sz ys.length ys KV (s.getO b)
 | .list (some t) es=>s.getT t=some (es.length,e)/\(∀y,y∈es->y.cells.length=h.sz)/\es.length+ys.length<=4294967296 /\
   KV (s.setT t (es.length+ys.length,e)) (.list (some t) (es++ys))
 | _=>False
def uA(C:Cx)(s:St)(h:TI)(t u:TypeId)(KV:St->A->Prop)(a:A):Prop:=match h.k with
 | .slice e=>match C.tt e with
  | some _=>u=t/\(match a with
   | .nils=>KV s .nils
   | .emp=>KV s .emp
   | .list tk es=>KV s (.list tk es)
   | .ml b o n=>KV s (.ml b o n)
   | _=>False)
  | none=>False
 | _=>False
def pQ(C:Cx)(s:St)(m:TI)(u:TypeId)(n:Int)(KV:St->A->Prop):A->Prop
 | .nils=>match m.k with
  | .slice e=>match C.tt e,C.tt u with
   | some h,some q=>match q.k with
    | .int _=>(0<n/\n<=4294967296/\h.sz≠0/\h.bytes<=32768)/\wG C s n.toNat e KV
    | _=>False
   | _,_=>False
  | _=>False
 | _=>False
def aOJ(C:Cx)(s:St)(x:List UInt8)(KV:St->A->Prop):Prop:=oK C s (.iter x 0) (λb=>.ptr b 0) KV
def aA6(s:St)(b:Nat)(x:List UInt8)(pos:Nat)(KV:St->A->Prop):Prop :=
 if pos<x.length then KV (s.setO b (.iter x (pos+(Utf8.decode ⟨x.toArray⟩ pos).2))) (.tuple [.bool true,.int .i64 pos,.int .i32 (Utf8.decode ⟨x.toArray⟩ pos).1])
 else KV s (.tuple [.bool false])
def zA(h:TI):A:=match h.k.agg with
 | true=>.agg h.zero
 | false=>h.zero.headD .nilp
def lkV(ok:Bool)(h:TI)(r:Option A):A:=match ok with
 | true=>match r with
  | some v=>.tuple [v,.bool true]
  | none=>.tuple [zA h,.bool false]
 | false=>match r with
  | some v=>v
  | none=>zA h
def aBe(C:Cx)(s:St)(t:TypeId)(KV:St->A->Prop):Prop:=match C.tt t with
 | some h=>match h.k with
  | .map _ kd=>oK C s (.map kd []) (λb=>.mp b) KV
  | _=>False
 | none=>False
def tK(C:Cx)(s:St)(t:TypeId)(ok:Bool)(b:Nat)(a:A):Option A:=match C.tt t with
 | some q=>match q.k with
  | .map e kd=>match s.getO b with
   | some (.map h es)=>match wO kd a,C.tt e,Nat.beq h kd with
    | some mk,some m,true=>some (lkV ok m (gB mk es))
    | _,_,_=>none
   | _=>none
  | _=>none
 | none=>none
theorem aKr{C:Cx}{s:St}{t:TypeId}{ok:Bool}{b:Nat}{a v:A}(h:tK C s t ok b a=some v) :
  ∃q e kd es mk m,C.tt t=some q/\q.k=.map e kd/\s.getO b=some (.map kd es)/\wO kd a=some mk/\C.tt e=some m/\v=lkV ok m (gB mk es):=by
 unfold tK at h;split at h<;>try cases h
 rename_i q B;split at h<;>try cases h
 rename_i e kd L;split at h<;>try cases h
 rename_i G es H;split at h<;>try cases h
 rename_i mk m y z u;obtain rfl:=nN u;exact⟨q,e,G,es,mk,m,B,L,H,y,z,rfl⟩
def tZ(C:Cx)(s:St)(t:TypeId)(ok:Bool)(b:Nat)(a:A)(KV:St->A->Prop):Prop:=match tK C s t ok b a with
 | some v=>KV s v
 | none=>False
def wJ(C:Cx)(s:St)(t:TypeId)(b:Nat)(a v:A)(KV:St->A->Prop):Prop:=match C.tt t with
 | some m=>match m.k,s.getO b with
  | .map _ kd,some (.map h es)=>match wO kd a with
   | some mk=>h=kd/\KV (s.setO b (.map kd (iD mk v es))) (.tuple [])
   | none=>False
  | _,_=>False
 | none=>False
def aY(C:Cx)(op:Op)(ρ:Operand->Option A)(KV Kp:St->A->Prop)(s:St):Prop :=
 match op with
 | .load t x=>match ρ x with
  | some (.ptr b o)=>match s.getO b with
   | some (.cells _ cs)=>match pN C t cs o with
    | some v=>KV s v
    | none=>False
   | _=>False
  | _=>bV C (.load t x) ρ (KV s)
 | .store t x y=>match ρ x,ρ y,C.tt t with
  | some (.ptr b o),some v,some h=>match s.getO b with
   | some (.cells e cs)=>((gA s v).cells.length=h.sz/\o+(gA s v).cells.length<=cs.length/\fE (gA s v).cells=true)/\KV (s.setO b (.cells e (kV cs o (gA s v).cells))) (.tuple [])
   | _=>False
  | some (.rm k n z),some v,some h=>pU C s k n z h v KV
  | _,_,_=>False
 | .alloc t=>match C.tt t with
  | some h=>aBj C s t h.zero KV
  | none=>False
 | .buildSlice t len q=>match yZ C with
  | false=>bV C (.buildSlice t len q) ρ (KV s)
  | true=>bV C (.buildSlice t len q) ρ (KV s)\/bV C (.buildSlice t len q) ρ (wI C s t KV)
 | .box t x=>match ρ x with
  | some v=>fE v.cells=true/\aBj C s t v.cells KV
  | none=>False
 | .convert a b x=>match ρ x with
  | some (.ptr k 0)=>match s.getO k,C.cv a b with
   | some (.cells e cs),some e'=>match C.tt e' with
    | some B=>((e=e'\/C.cw e=some e')/\B.sz<=cs.length)/\KV s (.ptr k 0)
    | none=>False
   | _,_=>False
  | _=>bV C (.convert a b x) ρ (KV s)
 | .makeSlice t l c=>match ρ l,ρ c,C.tt t with
  | some (.int _ n),some (.int _ m),some h=>match h.k with
   | .slice e=>match C.tt e with
    | some B=>(n=m/\0<n/\B.sz=1/\B.bytes * n.toNat<=281474976710656/\n<=4294967296)/\oK C s (.cells e (List.replicate n.toNat B.zero).flatten) (λb=>.ml b 0 n.toNat) KV
    | none=>False
   | _=>False
  | _,_,_=>False
 | .panic x=>match ρ x with
  | some (.iface t a)=>Kp s (.iface t a)
  | _=>False
 | .range t x=>match ρ x,C.tt t with
  | some (.str x),some h=>match h.k with
   | .string=>aOJ C s x KV
   | _=>False
  | _,_=>False
 | .next x true=>match ρ x with
  | some (.ptr b 0)=>match s.getO b with
   | some (.iter x pos)=>aA6 s b x pos KV
   | _=>False
  | _=>False
 | .call c=>match c.callee with
  | .value f=>match ρ f,jE ρ c.args.toList with
   | some (.fn f first G),some az=>Den C f (first++az++G) KV Kp s
   | _,_=>False
  | .builtin .append=>match c.args.toList,c.argTypes.toList with
   | [x,y],[t,u] => match ρ x,ρ y,C.tt t with
    | some a,some (.list _ ys),some h=>match h.k with
     | .slice e=>match C.tt e with
      | some B=>(u=t/\B.sz≠0/\B.bytes<=32768)/\(∀y,y∈ys->y.cells.length=B.sz)/\oM C s e B ys KV a
      | none=>False
     | _=>False
    | some a,some (.str bs),some h=>match aBk C h u with
     | some e=>wF C s e bs KV a
     | none=>False
    | some a,some (.int .i64 n),some h=>pQ C s h u n KV a
    | some a,some .nils,some h=>uA C s h t u KV a
    | some a,some .emp,some h=>uA C s h t u KV a
    | some a,some (.hl z),some h=>tS C s h t u z KV a
    | _,_,_=>False
   | _,_=>False
  | .builtin .unsafeString=>match c.args.toList,c.argTypes.toList with
   | [p,n],[H,_]=>match ρ p,ρ n with
    | some .nilp,some (.int .i64 n)=>n=0/\KV s (.str [])
    | some (.sd (some t) es),some (.int .i64 n)=>match C.us H with
     | some e=>(n=es.length/\s.getT t=some (es.length,e))/\∃bs,es=eQ bs/\KV (s.delT t) (.str bs)
     | none=>False
    | _,_=>False
   | _,_=>False
  | .builtin .panic=>match c.args.toList with
   | [x]=>match ρ x with
    | some (.iface t a)=>Kp s (.iface t a)
    | _=>False
   | _=>False
  | _=>bV C (.call c) ρ (KV s)
 | .binOp .eql t x y ty=>match ρ x,ρ y with
  | some (.list _ []),some .nils=>bV C (.binOp .eql t x y ty) ρ (KV s)\/(C.nl t=true/\KV s (.bool true)/\KV s (.bool false))
  | _,_=>bV C (.binOp .eql t x y ty) ρ (KV s)
 | .makeMap t none=>aBe C s t KV
 | .lookup t x k ok=>match ρ x,ρ k with
  | some (.mp b),some a=>tZ C s t ok b a KV
  | _,_=>False
 | .mapUpdate t x k y=>match ρ x,ρ k,ρ y with
  | some (.mp b),some a,some v=>wJ C s t b a v KV
  | _,_,_=>False
 | op=>bV C op ρ (KV s)
theorem lY{KV Kp:St->A->Prop}{r:Result Next}(h:OutS C F g s (KV s) r):OutV C F g KV Kp r:=by
 cases r with
 | ok n w=>cases n<;>simp only[OutS]at h;obtain⟨m,a,q,u,y,z⟩:=h;exact⟨m,a,s,q.le,u,y,z⟩
 | halt B w=>simp only[OutS]at h
theorem aCL(x:Sem Unit)(P:Program)(w:World):((do x;pure Next.skip):Sem Next).run P w=(x.run P w).andThen λ_ w'=>.ok .skip w':=by
 simp
theorem R.cellsOf(y:R C.toCtx F g s w){b:Nat}{e:TypeId}{cs:List A}(z:s.getO b=some (.cells e cs)) :
  ∃k vs rest,g.beta b=some k/\w.heap[k]?=some (.cells (vs++rest).toArray e)/\Rzs g cs vs/\∀c,c∈cs->c.one=true:=by
 obtain⟨k,h,⟨vs,rest,m,q,u⟩,_⟩:=y.obj b _ z;exact⟨k,vs,rest,h,m,q,u⟩
theorem aOm{KV Kp:St->A->Prop}{t ty:TypeId}{x:Operand}{dst:Option Tmp}{pos:String}{after:Array Edge}{gd:Option (Nat × Bool)}
  (U:R C.toCtx F g s w)(he:∀x a,ρ x=some a->Rz g a (ev x))(h:aY C (.load t x) ρ KV Kp s) :
  OutV C F g KV Kp ((execOp ev ⟨dst,.load t x,ty,pos,after,gd⟩).run C.P w):=by
 simp only[aY]at h;split at h
 .rename_i b o hx;split at h
  .rename_i e cs hb;split at h
   .rename_i v m;obtain⟨k,vs,rest,Z,hh,H,S⟩:=U.cellsOf hb;obtain⟨k',hp,q⟩:=(he x _ hx).ptr_inv;rw[Z]at q;cases q
    have cell:∀j u,vs[j]?=some u->w.cell? ⟨k,j,none⟩=some u:=by
     intro j u y;simp only[World.cell?,hh,Option.isSome_none,cQ,↓reduceIte,jK];rw[gO (dG.1 y).1];exact y
    refine lY (s:=s) (KV:=KV) ?_;simp only[execOp,hp];simp only[pN]at m;split at m
    .rename_i M L;split at m
     .rename_i B;split at m
      .rename_i b0;simp only[bI]at m;subst m
       have hc:∀j v,((vs.drop o).take M.sz)[j]?=some v->w.cell? ((⟨k,o,none⟩:Addr).add j)=some v:=by
        intro j v y;rw[kC]at y;split at y
        .rw[jL]at y;rw[iH,cell _ _ y]
        .simp at y
       have G:((vs.drop o).take M.sz).length=M.sz:=by
        have:=H.1;rw[dV,cS];omega
       have z:=run_loadCells_list (P:=C.P) w ⟨k,o,none⟩ _ hc;rw[G]at z;have hq:=(H.drop o).take M.sz;refine dL (v:=.agg ((vs.drop o).take M.sz).toArray) U ?_ (.agg _ _ hq.1 (λc hc=>S c (pX (nQ hc))) hq.2) h;simp only[Instr.loadAt,Instr.sureAddr,loadVar,bE,bO,bD,vE L,B,↓reduceIte,iS L,z]
      .simp at m
     .rename_i B;obtain⟨u,hu,hr⟩:=H.get m;have O:M.k.agg=false:=gQ B;refine dL (v:=u) U ?_ hr h;simp only[Instr.loadAt,Instr.sureAddr,loadVar,bE,bO,bD,vE L,O,cQ,↓reduceIte,run_load,cell _ _ hu]
    .simp at m
   .exact h.elim
  .exact h.elim
 .exact lY (pG U he h)
theorem uG{w:World}{b:Nat}{vs:Array Value}{e:TypeId}{fr:Nat × Nat}(h:w.heap[b]?=some (.cells vs e fr))(us:Array Value):(w.setRow b us).heap[b]?=some (.cells us e fr):=setRow_heap w b vs us e fr h
theorem uQ{w:World}{b k:Nat}(h:k≠b)(us:Array Value):(w.setRow b us).heap[k]?=w.heap[k]?:=by
 have:¬ b=k:=λe=>h e.symm
 simp[World.setRow,Array.getElem?_modify,this]
theorem aLh{KV Kp:St->A->Prop}{a b ty:TypeId}{x:Operand}{dst:Option Tmp}{pos:String}{after:Array Edge}{gd:Option (Nat × Bool)}
  (z:R C.toCtx F g s w)(L:∀x a,ρ x=some a->Rz g a (ev x))(h:aY C (.convert a b x) ρ KV Kp s) :
  OutV C F g KV Kp ((execOp ev ⟨dst,.convert a b x,ty,pos,after,gd⟩).run C.P w):=by
 simp only[aY]at h;split at h
 .rename_i k0 hx;split at h
  .rename_i e cs e' U hcv;split at h
   .rename_i te H;obtain⟨⟨B,b0⟩,S⟩:=h;obtain⟨k,vs,rest,u,M,G,O⟩:=z.cellsOf U;have hr:=L x _ hx;obtain⟨k',Z,m⟩:=hr.ptr_inv;rw[u]at m;cases m;have hcs:=C.hcs a b e' hcv;rw[H]at hcs;simp only[jM,bI]at hcs;have q:C.P.cellsOf e'<=(vs++rest).toArray.size:=by rw[<-hcs];have:=G.1;simp;omega
    have y:(convert a b (.pointer (some ⟨k,0,none⟩))).run C.P w=.ok (.pointer (some ⟨k,0,none⟩)) w:=by
     rcases B with rfl|hw
     .exact C.hcv a b e hcv w k (vs++rest).toArray M q
     .exact C.hcw a b e' e hcv hw w k (vs++rest).toArray M q
    refine lY (s:=s) (KV:=KV) ?_;simp only[execOp,Z];exact dL z y (.ptr k0 0 k u) S
   .exact h.elim
  .exact h.elim
 .exact lY (pG z L h)
theorem aAS{KV Kp:St->A->Prop}{o:Obj}{ob:Ob}{v:Value}{f:Nat->A}{x:Sem Value}(u:R C.toCtx F g s w)(ho:ObRz g ob (some o))
  (z:∀y b,y.beta b=some w.heap.size->Rz y (f b) v)
  (B:x.run C.P w=.ok v (w.alloc o))(m:oK C s ob f KV) :
  OutV C F g KV Kp (((do let v <-x;pure (Next.value v)):Sem Next).run C.P w):=by
 rw[sU,B];unfold oK at m;cases hd:C.det with
 | false =>
  rw[hd]at m;obtain⟨b,h⟩:=u.some_free;exact⟨_,_,_,uZ h _,u.newObj ho h (s':=s.setO b ob) (λq=>aH s b ob q) (λq=>rfl) rfl (by show C.det=true->_;rw[hd];simp),z _ b (by simp[Gh.bx]),m b (u.free h)⟩
 | true =>
  rw[hd]at m;have h:=(u.dtm hd s.lim (bL _)).1;exact⟨_,_,_,uZ h _,u.newObj ho h (s':=s.newO ob) (λq=>aEm s ob q) (λq=>rfl) rfl (λ_=>⟨Nat.le_succ _,lN _⟩),z _ s.lim (by simp[Gh.bx]),m⟩
theorem aGa{KV Kp:St->A->Prop}{t:TypeId}{v:Value}{cs:List A}{x:Sem Value}(q:R C.toCtx F g s w)(y:Rzs g cs v.cells.toList)(h:∀c,c∈cs->c.one=true)
  (z:x.run C.P w=.ok (.pointer (some ⟨w.heap.size,0,none⟩)) (w.alloc (.cells v.cells t)))
  (m:aBj C s t cs KV) :
  OutV C F g KV Kp (((do let v <-x;pure (Next.value v)):Sem Next).run C.P w) :=
 aAS (ob:=.cells t cs) q ⟨v.cells.toList,[],by simp,y,h⟩ (λB b u=>.ptr b 0 _ u) z m
theorem aM0{KV Kp:St->A->Prop}{t ty:TypeId}{dst:Option Tmp}{pos:String}{after:Array Edge}{gd:Option (Nat × Bool)}
  (u:R C.toCtx F g s w)(h:aY C (.alloc t) ρ KV Kp s) :
  OutV C F g KV Kp ((execOp ev ⟨dst,.alloc t,ty,pos,after,gd⟩).run C.P w):=by
 simp only[aY]at h;split at h
 .rename_i y m;obtain⟨z,hz,q⟩:=xY m w;simp only[execOp];refine aGa (v:=z) (t:=t) u (q g) (C.htt t y m).one ?_ h;simp only[Instr.alloc,bE,hz,bD,newVar,newRow,run_newObj,bO];rfl
 .exact h.elim
theorem aOs{KV Kp:St->A->Prop}{t ty:TypeId}{x:Operand}{dst:Option Tmp}{pos:String}{after:Array Edge}{gd:Option (Nat × Bool)}
  (u:R C.toCtx F g s w)(y:∀x a,ρ x=some a->Rz g a (ev x))(h:aY C (.box t x) ρ KV Kp s) :
  OutV C F g KV Kp ((execOp ev ⟨dst,.box t x,ty,pos,after,gd⟩).run C.P w):=by
 simp only[aY]at h;split at h
 .rename_i v z;obtain⟨m,q⟩:=h;simp only[execOp];refine aGa (v:=ev x) (t:=t) u (y x v z).cells (by simpa [fE]using m) ?_ q;simp only[Instr.box,bE,newVar,newRow,run_newObj,bD,bO];rfl
 .exact h.elim
theorem aED{x:A}:∀n:Nat,(List.replicate n [x]).flatten=List.replicate n x
 | 0=>rfl
 | n+1=>by simp[List.replicate_succ]
theorem aJJ{KV Kp:St->A->Prop}{t ty:TypeId}{l c:Operand}{dst:Option Tmp}{pos:String}{after:Array Edge}{gd:Option (Nat × Bool)}
    (hR:R C.toCtx F g s w)(he:∀x a,ρ x=some a->Rz g a (ev x))(h:aY C (.makeSlice t l c) ρ KV Kp s) :
    OutV C F g KV Kp ((execOp ev ⟨dst,.makeSlice t l c,ty,pos,after,gd⟩).run C.P w):=by
  simp only[aY]at h;split at h
  · rename_i kl n kc m ti hl hc hti
    obtain⟨d,hd,hok⟩:=fG hti;split at h
    · rename_i e hk
      rw[hk]at hok;simp only[TK.ok]at hok;subst hok;split at h
      · rename_i te hte
        obtain⟨⟨rfl,h0,h1,h2,h3⟩,hK⟩:=h;obtain⟨i,z,hi,his,hib,hiz,hzr⟩:=(C.htt e te hte).info;have hzl:=(C.htt e te hte).len;have hz1:=(C.htt e te hte).one
        obtain⟨x,hx⟩:∃x,te.zero=[x]:=by
          match hq:te.zero with
          | [x]=>exact⟨x,rfl⟩
          | []=>rw[hq,h1]at hzl;cases hzl
          | _::_::_=>rw[hq,h1]at hzl;simp at hzl
        obtain⟨v,hv⟩:∃v,z.cells=#[v]:=by
          have h4:=(hzr g).1;rw[hx]at h4
          match hq:z.cells.toList with
          | [v]=>exact⟨v,by apply Array.ext';rw[hq]⟩
          | []=>rw[hq]at h4;simp at h4
          | _::_::_=>rw[hq]at h4;simp at h4
        have hxv:Rz g x v:=by
          have:=hzr g;rw[hx,hv]at this;exact this.2 0 x v aW aW
        have hrun:=run_make (P:=C.P) w t e i z hd hi hiz kl kc n n aB (uM _)
          (by rw [hib]; have : ((te.bytes * n.toNat : Nat) : Int) ≤ 281474976710656 := by omega
              rw[Int.natCast_mul,Int.toNat_of_nonneg aB]at this;exact this) aB
        rw[his,h1,Nat.mul_one,hv]at hrun
        have hmc:madeCells #[v] n.toNat=(List.replicate n.toNat v).toArray:=by
          apply Array.ext
          · simp[madeCells]
          · intro j h5 h6
            simp[madeCells,Nat.mod_one]
        simp only[execOp,(he l _ hl).int_inv,(he c _ hc).int_inv];refine aAS (ob:=.cells e (List.replicate n.toNat te.zero).flatten) hR ⟨List.replicate n.toNat v,[],rfl,?_,?_⟩ (λg' b hb=>?_) (by rw[hmc]at hrun;simpa using hrun) hK
        · rw[hx,aED]
          refine⟨by simp,λj a u ha hu=>?_⟩;rw[List.getElem?_replicate]at ha hu;split at ha
          · rename_i hj;rw[aE hj]at hu;cases ha;cases hu;exact hxv
          · cases ha
        · rw[hx,aED]
          intro a ha;rw[List.eq_of_mem_replicate ha];exact hz1 x (by rw[hx];simp)
        · exact .ml b 0 _ _ _ hb (bL _) (by unfold maxLen;omega)
      · exact h.elim
    · exact h.elim
  · exact h.elim
theorem aNh{KV Kp:St->A->Prop}{t ty:TypeId}{x:Operand}{dst:Option Tmp}{pos:String}{after:Array Edge}{gd:Option (Nat × Bool)}
  (y:R C.toCtx F g s w)(B:∀x a,ρ x=some a->Rz g a (ev x))(h:aY C (.range t x) ρ KV Kp s) :
  OutV C F g KV Kp ((execOp ev ⟨dst,.range t x,ty,pos,after,gd⟩).run C.P w):=by
 simp only[aY]at h;split at h
 .rename_i u O L q;split at h
  .rename_i G;obtain⟨d,hd,m⟩:=fG q;rw[G]at m;simp only[TK.ok]at m;subst m;have H:=(B x _ L).str_inv;simp only[execOp];exact aAS (ob:=.iter u 0) (o:=.stringIter ⟨u.toArray⟩ 0) y rfl (λM b z=>.ptr b 0 _ z) (by rw[H];exact run_range_string w t _ hd) h
  .exact h.elim
 .exact h.elim
theorem aN6{KV Kp:St->A->Prop}{ty:TypeId}{x:Operand}{str:Bool}{dst:Option Tmp}{pos:String}{after:Array Edge}{gd:Option (Nat × Bool)}
  (L:R C.toCtx F g s w)(U:∀x a,ρ x=some a->Rz g a (ev x))(h:aY C (.next x str) ρ KV Kp s) :
  OutV C F g KV Kp ((execOp ev ⟨dst,.next x str,ty,pos,after,gd⟩).run C.P w):=by
 cases str
 .simp only[aY,bV]at h
 simp only[aY]at h;split at h
 .rename_i b hx;split at h
  .rename_i z p S;obtain⟨k,u,B⟩:=(U x _ hx).ptr_inv;obtain⟨k',y,ho,_,_⟩:=L.obj b _ S;rw[B]at y;cases y;have M:w.heap[k]?=some (.stringIter ⟨z.toArray⟩ p):=ho;have G:k<w.heap.size:=(fQ.1 M).1;have H:(ByteArray.mk z.toArray).size=z.length:=by simp[ByteArray.size]
   simp only[execOp];rw[sU,u];unfold aA6 at h;split at h
   .rename_i O
    have q:(Instr.next (.pointer (some ⟨k,0,none⟩)) true ty).run C.P w=.ok (.tuple #[.bool true,goInt p,.int .i32 (Utf8.decode ⟨z.toArray⟩ p).1])
      { w with heap:=w.heap.setIfInBounds k (.stringIter ⟨z.toArray⟩ (p+(Utf8.decode ⟨z.toArray⟩ p).2)) }:=by
     simp only[Instr.next,getObj,setObj,bE,Sem.run,M,Result.andThen,H,O,cM,G];rfl
    rw[q];refine⟨g,_,_,dW g,L.setObj S B (ob:=.iter z _) (λk Z=>?_) ?_,?_,h⟩
    .simp[wT (Ne.symm Z)]
    .simp[ObRz,G]
    .refine .tuple _ [_,_,_] rfl λj c v m u=>?_
     match j with
     | 0=>simp at m u;subst m;subst u;exact .bool _
     | 1=>simp at m u;subst m;subst u;exact .int _ _
     | 2=>simp at m u;subst m;subst u;exact .int _ _
     | _+3=>simp at m
   .rename_i O
    have q:(Instr.next (.pointer (some ⟨k,0,none⟩)) true ty).run C.P w=.ok (.tuple #[.bool false]) w:=by
     simp only[Instr.next,getObj,bE,Sem.run,M,Result.andThen,H,O,cI];rfl
    rw[q];refine⟨g,_,_,dW g,L,?_,h⟩;refine .tuple _ [_] rfl λj c v m u=>?_
    match j with
    | 0=>simp at m u;subst m;subst u;exact .bool _
    | _+1=>simp at m
  .exact h.elim
 .exact h.elim
end
end
end Go.AV
