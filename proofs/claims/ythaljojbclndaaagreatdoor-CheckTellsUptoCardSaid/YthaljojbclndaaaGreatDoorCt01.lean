/-
  Of CheckTells.
-/
import Derived.WalkKit
import Derived.MapKept
import Derived.Orders
import Derived.Laws.Cover3
import Derived.LaidEqlPtr
import Derived.Laws.StructEq
import Derived.Laws.Pointers
import Derived.Lib.Strings
import Derived.Maps.RangeRun
import Derived.Laws.RangeString
import Derived.Laws.IdiomStrings
import Derived.Laws.MakeOwn
set_option linter.all false
set_option maxRecDepth 99999
set_option maxHeartbeats 0
namespace Go.AV
open Go
def cO:=@List.getElem?_eq_getElem
def rE:=@Nat.le_trans
def bM:=@Option.some.injEq
def bS:=@List.mem_singleton
def cC:=@List.map_cons
def bF:=@Nat.le_refl
def bG:=@Sem.run_bind
def cX:=@List.getElem?_eq_some_iff
def cB:=@List.map_append
def eZ:=@List.map_nil
def eK:=@List.eq_nil_of_length_eq_zero
def cW:=@List.mem_map
def eY:=@Bool.false_and
def aN:=@Nat.zero_le
def gY:=@Bool.and_false
def bR:=@decide_eq_true_eq
def bA:=@List.mem_of_getElem?
def cS:=@run_underlying
def eO:=@Bool.not_true
def fU:=@Array.getElem?_eq_some_iff
def bN:=@decide_eq_false
def dG:=@List.length_take
def dD:=@Bool.true_and
def gJ:=@Bool.false_or
def cF:=@decide_eq_true
def fN:=@Bool.not_false
def iC:=@List.getElem_of_mem
def rA:=@List.drop_eq_getElem_cons
def dT:=@Bool.and_true
def dZ:=@Nat.lt_succ_self
def cL:=@List.all_eq_true
def kQ:=@Bool.true_or
def jT:=@List.getElem?_append_left
def kN:=@Option.map_eq_some_iff
def nD:=@List.getElem?_drop
def gK:=@Nat.zero_add
def kO:=@List.map_toArray
def lK:=@List.getElem?_toArray
def iZ:=@Bool.or_false
def fO:=@Nat.add_mul
def lU:=@List.take_of_length_le
def qD:=@Nat.mul_le_mul_right
def iX:=@List.getElem_mem
def bT:=@List.mem_append
def mO:=@List.getElem?_take
def fV:=@Bool.not_eq_true'
def bW:=@decide_eq_decide
def wD:=@List.drop_drop
def mP:=@Bool.or_true
def qC:=@List.mem_of_mem_take
def dO:=@List.append_assoc
def rD:=@UInt8.toNat_inj
def lN:=@Code.wp_mono
def gB:=@Bool.or_eq_true
def wG:=@decide_true
def eF:=@decide_eq_false_iff_not
def qI:=@Value.slice.injEq
def uI:=@List.mem_of_mem_drop
def bY:=@List.mem_cons_self
def yI:=@List.getElem?_eq_none
def gX:=@List.not_mem_nil
def rU:=@List.getElem?_append_right
def eU:=@true_and
def dB:=@List.drop_eq_nil_of_le
def aO6:=@List.mem_or_eq_of_mem_set
def uL:=@Prod.mk.injEq
def fL:=@List.take_add_one
def aBR:=@List.getElem?_set
def jU:=@List.getElem?_map
def nS:=@Nat.add_assoc
def yH:=@Array.getElem?_setIfInBounds_ne
def aAl:=@List.drop_zero
def aAk:=@Array.getElem?_eq_getElem
def tA:=@decide_false
def sW:=@Option.some.inj
def rW:=@List.mem_range
def iV:=@Bool.eq_false_iff
def sX:=@Addr.mk.injEq
def uJ:=@List.find?_eq_none
def aF2:=@Bool.not_eq_false'
def wC:=@List.mem_of_find?_eq_some
def cZ:=@List.mem_cons_of_mem
def gR:=@List.flatMap_cons
def aGe:=@Nat.lt_or_ge
def rY:=@and_self
def uO:=@Int.le_refl
def aBP:=@beq_eq_false_iff_ne
def nT:=@false_and
def aIV:=@Nat.min_eq_left
def cK:=@List.append_nil
def aBO:=@Array.getElem?_toList
def aF1:=@Array.getD_eq_getD_getElem?
def dW:=@or_false
def mQ:=@and_true
def eN:=@of_decide_eq_true
def bJ:=@Result.andThen_ok
def bV:=@Sem.run_pure
def iO:=@List.getElem?_cons_zero
def aDj:=@List.set_cons_succ
def aF3:=@List.set_cons_zero
def qE:=@Array.length_toList
def gS:=@Option.map_some
def aE:=@if_neg
def aF:=@if_pos
def dY:=@if_false
def dJ:=@if_true
def mT:=@ne_eq
def cG:=@absurd
def jF:=@congrArg
def bK:=@List.take_length
def gN:=@List.mem_append_left
def lL:=@List.mem_append_right
def eG:=@List.all_cons
def lA:=@List.take_append_drop
def lB:=@Option.isSome_none
def kP:=@List.all_append
def lV:=@List.flatten_cons
def iY:=@List.headD_cons
def iD:=@List.take_zero
def lC:=@List.map_take
def nE:=@List.mem_nil_iff
def jA:=@Nat.add_zero
def oW:=@List.flatten_nil
def qH:=@Int.toNat_natCast
def qF:=@List.flatMap_append
def oY:=@List.any_append
def lM:=@List.foldl_cons
def lW:=@List.foldl_append
def fG:=@Bool.eq_iff_iff
def qG:=@Option.isNone_some
def yJ:=@Option.isNone_none
def oX:=@Option.getD_some
def uK:=@Option.getD_none
def jV:=@List.mem_flatMap
def nF:=@List.all_nil
def rV:=@List.flatMap_nil
def oZ:=@List.any_cons
def aJe:=@List.any_nil
def rC:=@Option.bind_some
def rB:=@List.length_singleton
def iW:=@List.any_eq_true
end Go.AV
namespace Go.Proofs.Tryz
end Go.Proofs.Tryz
namespace Go.AV
theorem bI{i n : Nat}{P : Prop}(a : i <= n)(h : P)(f : P -> ¬ i < n := by(intro h; simpa using h)) : i = n := Nat.le_antisymm a (Nat.le_of_not_lt (f h))
theorem aU{u : Type _}{l : List u}{i : Nat}(h : i < l.length) : ∃a, l[i]? = some a := ⟨_, cO h⟩
theorem gQ{P Q : Prop}(h : P)(f : P -> Q := by(intro h; simpa using h)) : Q := f h
theorem bD{p : Prop}(h : p := by(simp only; omega)) : p := h
theorem aJ{P Q : Prop}(h : P)(f : P -> Q := by(intro h; first | exact h | exact h.2 | exact h.2.2 | exact h.2.2.2 | exact h.2.2.2.2 | exact h.2.2.2.2.2 | exact h.2.2.2.2.2.2)) : Q := f h
theorem aB{p : Prop}(h : p := by omega) : p := h
theorem cT{p : Prop}(h : p := by decide) : p := h
theorem aV{p : Prop}(h : p := by simp) : p := h
theorem gA9 : (¬False) = True := not_false_eq_true
theorem bB{h : Type _}{a : h}{l : List h} : (a :: l).length = l.length + 1 := rfl
theorem aG{h : Type _}{l r : List h} : (l ++ r).length = l.length + r.length := List.length_append
theorem bQ{h : Type _} : ([] : List h).length = 0 := rfl
theorem aW{h : Type _}{u : Type _}{l : List h}(f : h -> u) : (List.map f l).length = l.length := List.length_map f
theorem cR{h : Type _}{b : h}{l : List h}{a : h} : a ∈ b :: l ↔ a = b \/ a ∈ l := List.mem_cons
theorem eQ{n m : Nat}(h : n.ble m = true) : n <= m := Nat.le_of_ble_eq_true h
theorem cQ{n m : Nat}(h : n.beq m = true) : n = m := Nat.eq_of_beq_eq_true h
theorem bL{h : Type _}{a : h}{l r : List h} : a :: l ++ r = a :: (l ++ r) := rfl
theorem bE{h : Type _}(l : List h) : [] ++ l = l := rfl
theorem eR{h : Type _}{i : Nat}{l : List h} : (List.drop i l).length = l.length - i := List.length_drop
theorem aY(a b : Bool) : ((a && b) = true) = (a = true /\ b = true) := Bool.and_eq_true a b
theorem cV : (false = true) = False := Bool.false_eq_true
end Go.AV
namespace Go.AV
open Go Go.Proofs Tryz
section
inductive A where
 | int (k:IntKind) (n:Int)
 | bool (b:Bool)
 | str (s:List UInt8)
 | ptr (b off:Nat)
 | eptr (cs:List A) (off:Nat)
 | nilp
 | nils
 | list (tok:Option Nat) (es:List A)
 | agg (cs:List A)
 | fn (f:FuncId) (first caps:List A)
 | nilf
 | iface (t:TypeId) (v:A)
 | nili
 | tuple (vs:List A)
 | ml (b off n:Nat)
 | emp
 | sd (tk:Option Nat) (es:List A)
 | gr (t n:Nat)
 | hl (z:A)
 | pen (t:Nat) (es:List A) (sz:Nat)
 | rm (t n sz:Nat)
 | mg (b n cap:Nat)
 | mp (b:Nat)
 | nilm
 | full (es:List A)
instance : Inhabited A := ⟨.nilp⟩
def A.cells:A->List A
 | .agg cs=>cs
 | a=>[a]
def A.one:A->Bool
 | .agg _|.tuple _=>false
 | _=>true
structure Gh where
 pi:Nat->Option (List Value)
 eta:Nat->Nat->Option Value
 beta:Nat->Option Nat
 env:Os × Array (Nat × ByteArray)
structure Gh.le (g g':Gh):Prop where
 pi:∀b pre,g.pi b=some pre->∃ext,g'.pi b=some (pre++ext)
 eta:∀t n v,g.eta t n=some v->g'.eta t n=some v
 beta:∀b k,g.beta b=some k->g'.beta b=some k
 env:g'.env=g.env
structure Gh.les (g g':Gh):Prop where
 le:g.le g'
 eta:g'.eta=g.eta
 beta:g'.beta=g.beta
theorem dQ(g:Gh):g.le g:=⟨λ_ pre h=>⟨[],gQ h⟩,λ_ _ _ h=>h,λ_ _ h=>h,rfl⟩
theorem Gh.les.refl(g:Gh):g.les g:=⟨dQ g,rfl,rfl⟩
theorem Gh.le.trans{a b c:Gh}(h:a.le b)(z:b.le c):a.le c :=
 ⟨fun k pre u => by
  obtain⟨x,B⟩:=h.pi k pre u;obtain⟨y,G⟩:=z.pi k _ B;exact⟨x++y,gQ G⟩,λt n v u=>z.eta _ _ _ (h.eta _ _ _ u),λb k u=>z.beta _ _ (h.beta _ _ u),z.env.trans h.env⟩
theorem Gh.les.trans{a b c:Gh}(h:a.les b)(u:b.les c):a.les c:=⟨h.le.trans u.le,u.eta.trans h.eta,u.beta.trans h.beta⟩
inductive Rz (g:Gh):A->Value->Prop
 | int (k:IntKind) (n:Int):Rz g (.int k n) (.int k n)
 | bool (b:Bool):Rz g (.bool b) (.bool b)
 | str (s:List UInt8):Rz g (.str s) (.string ⟨s.toArray⟩)
 | ptr (b o k:Nat) (hb:g.beta b=some k):Rz g (.ptr b o) (.pointer (some ⟨k,o,none⟩))
 | emp (a:Addr):Rz g .emp (.slice (some a) 0 0)
 | sd (tk:Option Nat) (es:List A) (a:Addr) (cap:Nat) (hc:cap≠0) (h:Rz g (.list tk es) (.slice (some a) es.length cap)):Rz g (.sd tk es) (.pointer (some a))
 | gr (t n k cap:Nat) (h:g.eta t 0=some (.slice (some ⟨k,0,none⟩) 0 cap)) (hn:n<=cap) (hm:cap<=maxLen):Rz g (.gr t n) (.slice (some ⟨k,0,none⟩) n cap)
 | hl (z:A) (a:Addr) (cap:Nat) (h:Rz g (.list none [z]) (.slice (some a) 1 cap)):Rz g (.hl z) (.slice (some a) 1 cap)
 | pen (t:Nat) (es:List A) (sz b cap:Nat) (h:Rz g (.list (some t) es) (.slice (some ⟨b,0,none⟩) es.length cap)) (hc:es.length+1<=cap) (hs:∀y,y∈es->y.cells.length=sz) :
   Rz g (.pen t es sz) (.slice (some ⟨b,0,none⟩) (es.length+1) cap)
 | rm (t n sz b cap:Nat) (h:g.eta t n=some (.slice (some ⟨b,0,none⟩) n cap)) (hc:n+1<=cap):Rz g (.rm t n sz) (.pointer (some ⟨b,n * sz,none⟩))
 | ml (b off n cap k:Nat) (hb:g.beta b=some k) (hc:n<=cap) (hm:cap<=maxLen):Rz g (.ml b off n) (.slice (some ⟨k,off,none⟩) n cap)
 | mg (b n cap k:Nat) (hb:g.beta b=some k) (hc:n<=cap) (hm:cap<=maxLen):Rz g (.mg b n cap) (.slice (some ⟨k,0,none⟩) n cap)
 | eptr (cs:List A) (o b off:Nat) (pre:List Value) (hp:g.pi b=some pre) (hl:off+cs.length<=pre.length)
   (h1:∀c,c∈cs->c.one=true)
   (h:∀(j:Nat) (c:A) (v:Value),cs[j]?=some c->pre[off+j]?=some v->Rz g c v) :
   Rz g (.eptr cs o) (.pointer (some ⟨b,off+o,none⟩))
 | mp (b k:Nat) (hb:g.beta b=some k):Rz g (.mp b) (.map (some k))
 | nilm:Rz g .nilm (.map none)
 | full (es:List A) (a:Option Addr) (h:Rz g (.list none es) (.slice a es.length es.length)):Rz g (.full es) (.slice a es.length es.length)
 | nilp:Rz g .nilp (.pointer none)
 | nils:Rz g .nils (.slice none 0 0)
 | list (tk:Option Nat) (es:List A) (b off sz cap:Nat) (pre:List Value) (hp:g.pi b=some pre)
   (hl:off+es.length * sz<=pre.length)(hc:es.length<=cap)(hm:cap<=maxLen)
   (hs:∀e,e∈es->e.cells.length=sz)(h1:∀e,e∈es->∀c,c∈e.cells->c.one=true)
   (h:∀(i:Nat) (e:A) (j:Nat) (c:A) (v:Value),es[i]?=some e->e.cells[j]?=some c->pre[off+i * sz+j]?=some v->Rz g c v)
   (ht:∀t,tk=some t->g.eta t es.length=some (.slice (some ⟨b,off,none⟩) es.length cap)) :
   Rz g (.list tk es) (.slice (some ⟨b,off,none⟩) es.length cap)
 | list0 (tk:Option Nat) (a:Option Addr) (cap:Nat) (hm:cap<=maxLen) (ht:∀t,tk=some t->g.eta t 0=some (.slice a 0 cap)) :
   Rz g (.list tk []) (.slice a 0 cap)
 | agg (cs:List A) (vs:List Value) (hl:vs.length=cs.length) (h1:∀c,c∈cs->c.one=true)
   (h:∀(j:Nat) (c:A) (v:Value),cs[j]?=some c->vs[j]?=some v->Rz g c v):Rz g (.agg cs) (.agg vs.toArray)
 | fn (f:FuncId) (fs cs:List A) (us vs:List Value) (hlf:us.length=fs.length) (hlc:vs.length=cs.length)
   (hf:∀(j:Nat) (c:A) (v:Value),fs[j]?=some c->us[j]?=some v->Rz g c v)
   (hc:∀(j:Nat) (c:A) (v:Value),cs[j]?=some c->vs[j]?=some v->Rz g c v) :
   Rz g (.fn f fs cs) (.func (.func f) us.toArray vs.toArray)
 | nilf:Rz g .nilf .nilFunc
 | iface (t:TypeId) (a:A) (v:Value) (h:Rz g a v):Rz g (.iface t a) (.iface t v)
 | nili:Rz g .nili .nilIface
 | tuple (cs:List A) (vs:List Value) (hl:vs.length=cs.length)
   (h:∀(j:Nat) (c:A) (v:Value),cs[j]?=some c->vs[j]?=some v->Rz g c v):Rz g (.tuple cs) (.tuple vs.toArray)
theorem aAV{u:Type}{l ext:List u}{i:Nat}{v:u}(y:i<l.length)(h:(l++ext)[i]?=some v):l[i]?=some v:=by
 rwa[jT y]at h
theorem Rz.mono{g g':Gh}(G:g.le g'){a:A}{v:Value}(h:Rz g a v):Rz g' a v:=by
 induction h with
 | int k n=>exact .int k n
 | bool b=>exact .bool b
 | str s=>exact .str s
 | ptr b o k M=>exact .ptr b o k (G.beta _ _ M)
 | ml b off n cap k M u H=>exact .ml b off n cap k (G.beta _ _ M) u H
 | mg b n cap k M u H=>exact .mg b n cap k (G.beta _ _ M) u H
 | mp b k M=>exact .mp b k (G.beta _ _ M)
 | emp a=>exact .emp a
 | sd tk es a cap u _ y=>exact .sd tk es a cap u y
 | gr t n k cap h hn H=>exact .gr t n k cap (G.eta _ _ _ h) hn H
 | hl z a cap _ y=>exact .hl z a cap y
 | pen t es sz b cap _ u T y=>exact .pen t es sz b cap y u T
 | rm t n sz b cap h u=>exact .rm t n sz b cap (G.eta _ _ _ h) u
 | eptr cs o b off pre hp hl O _ y =>
  obtain⟨ext,hx⟩:=G.pi b pre hp;refine .eptr cs o b off _ hx (by simp;omega) O λj c v u B=>?_
  have hj:j<cs.length:=(cX.1 u).1;exact y j c v u (aAV aB B)
 | nilm=>exact .nilm
 | full es a _ y=>exact .full es a y
 | nilp=>exact .nilp
 | nils=>exact .nils
 | list tk es b off sz cap pre hp hl u H T O _ ht y =>
  obtain⟨ext,hx⟩:=G.pi b pre hp;refine .list tk es b off sz cap _ hx (by simp;omega) u H T O (λi e j c v U S B=>?_) (λt h=>G.eta _ _ _ (ht t h));have hi:i<es.length:=(cX.1 U).1;have hj:j<e.cells.length:=(cX.1 S).1;have:=T e (bA U)
  have M:i * sz+j<es.length * sz:=by
   have:(i+1) * sz<=es.length * sz:=qD _ hi;rw[fO]at this;omega
  exact y i e j c v U S (aAV aB B)
 | list0 tk a cap H ht=>exact .list0 tk a cap H (λt h=>G.eta _ _ _ (ht t h))
 | agg cs vs hl O _ y=>exact .agg cs vs hl O λj c v u B=>y j c v u B
 | fn f fs cs us vs Z Y _ _ b1 b0=>exact .fn f fs cs us vs Z Y (λj c v u B=>b1 j c v u B) (λj c v u B=>b0 j c v u B)
 | nilf=>exact .nilf
 | iface t a v _ y=>exact .iface t a v y
 | nili=>exact .nili
 | tuple cs vs hl _ y=>exact .tuple cs vs hl λj c v u B=>y j c v u B
def Rzs(g:Gh)(cs:List A)(vs:List Value):Prop :=
 vs.length=cs.length/\∀(j:Nat) (c:A) (v:Value),cs[j]?=some c->vs[j]?=some v->Rz g c v
theorem Rzs.mono{g u:Gh}(z:g.le u){cs:List A}{vs:List Value}(h:Rzs g cs vs):Rzs u cs vs :=
 ⟨h.1,λj c v y B=>(h.2 j c v y B).mono z⟩
theorem Rzs.nil(g:Gh):Rzs g [] []:=⟨rfl,λj c v h=>by simp at h⟩
theorem Rzs.cons{g:Gh}{c:A}{v:Value}{cs:List A}{vs:List Value}(h:Rz g c v)(B:Rzs g cs vs):Rzs g (c::cs) (v::vs) :=
 ⟨by simp [B.1],fun j => by
  cases j with
  | zero=>intro x y u z;simp at u z;subst u;subst z;exact h
  | succ j=>intro x y u z;exact B.2 j x y (gQ u) (gQ z)⟩
theorem Rzs.get{g:Gh}{cs:List A}{vs:List Value}(h:Rzs g cs vs){j:Nat}{c:A}(u:cs[j]?=some c):∃v,vs[j]?=some v/\Rz g c v:=by
 have z:j<cs.length:=(cX.1 u).1;have y:j<vs.length:=by rw[h.1];exact z
 exact⟨vs[j],cO y,h.2 j c _ u (cO y)⟩
theorem Rzs.append{g:Gh}{cs ds:List A}{vs us:List Value}(h:Rzs g cs vs)(z:Rzs g ds us):Rzs g (cs++ds) (vs++us):=by
 refine⟨by simp[h.1,z.1],λj c v u y=>?_⟩;by_cases B:j<cs.length
 .rw[jT B]at u;rw[jT (by rw[h.1];exact B)]at y;exact h.2 j c v u y
 .rw[rU aB]at u;rw[rU (by rw[h.1];omega),h.1]at y;exact z.2 _ c v u y
theorem Rzs.set{g:Gh}{cs:List A}{vs:List Value}(h:Rzs g cs vs){o:Nat}{c:A}{v:Value}(G:Rz g c v):Rzs g (cs.set o c) (vs.set o v):=by
 refine⟨by simp[h.1],λj x y u z=>?_⟩;by_cases B:o=j
 .subst B;rw[aBR]at u z;simp only[↓reduceIte]at u z;split at u<;>split at z<;>simp_all
 .rw[List.getElem?_set_ne B]at u z;exact h.2 j x y u z
theorem Rzs.take{g:Gh}{cs:List A}{vs:List Value}(h:Rzs g cs vs)(n:Nat):Rzs g (cs.take n) (vs.take n):=by
 refine⟨by simp[h.1],λj c v u y=>?_⟩;rw[mO]at u y;split at u
 .rename_i z;rw[aF z]at y;exact h.2 j c v u y
 .simp at u
theorem Rzs.drop{g:Gh}{cs:List A}{vs:List Value}(h:Rzs g cs vs)(n:Nat):Rzs g (cs.drop n) (vs.drop n):=by
 refine⟨by simp[h.1],λj c v u y=>?_⟩;rw[nD]at u y;exact h.2 _ c v u y
theorem Rz.cells{g:Gh}{a:A}{v:Value}(h:Rz g a v):Rzs g a.cells v.cells.toList:=by
 cases h with
 | agg cs vs hl G h=>exact⟨by simpa [A.cells,Value.cells]using hl,by simpa [A.cells,Value.cells]using h⟩
 | int k n=>exact .cons (.int k n) (.nil g)
 | bool b=>exact .cons (.bool b) (.nil g)
 | str s=>exact .cons (.str s) (.nil g)
 | ptr b o k B=>exact .cons (.ptr b o k B) (.nil g)
 | ml b off n cap k B u y=>exact .cons (.ml b off n cap k B u y) (.nil g)
 | mg b n cap k B u y=>exact .cons (.mg b n cap k B u y) (.nil g)
 | mp b k B=>exact .cons (.mp b k B) (.nil g)
 | emp a=>exact .cons (.emp a) (.nil g)
 | sd tk es a cap u h=>exact .cons (.sd tk es a cap u h) (.nil g)
 | gr t n k cap h Z y=>exact .cons (.gr t n k cap h Z y) (.nil g)
 | hl z a cap h=>exact .cons (.hl z a cap h) (.nil g)
 | pen t es sz b cap h u S=>exact .cons (.pen t es sz b cap h u S) (.nil g)
 | rm t n sz b cap h u=>exact .cons (.rm t n sz b cap h u) (.nil g)
 | eptr cs o b off pre O hl G h=>exact .cons (.eptr cs o b off pre O hl G h) (.nil g)
 | nilm=>exact .cons .nilm (.nil g)
 | full es a h=>exact .cons (.full es a h) (.nil g)
 | nilp=>exact .cons .nilp (.nil g)
 | nils=>exact .cons .nils (.nil g)
 | list tk es b off sz cap pre O hl u y S G h T=>exact .cons (.list tk es b off sz cap pre O hl u y S G h T) (.nil g)
 | list0 tk a cap y T=>exact .cons (.list0 tk a cap y T) (.nil g)
 | fn f U cs us vs M H Y u=>exact .cons (.fn f U cs us vs M H Y u) (.nil g)
 | nilf=>exact .cons .nilf (.nil g)
 | iface t a v h=>exact .cons (.iface t a v h) (.nil g)
 | nili=>exact .cons .nili (.nil g)
 | tuple cs vs hl h=>exact .cons (.tuple cs vs hl h) (.nil g)
theorem Rz.one{g:Gh}{a:A}{v:Value}(h:Rz g a v)(u:a.one=true):v.oneCell'=true:=by
 cases h<;>simp_all [A.one,Value.oneCell']
theorem Rzs.one{g:Gh}{cs:List A}{vs:List Value}(h:Rzs g cs vs)(z:∀c,c∈cs->c.one=true):∀v,v∈vs->v.oneCell'=true:=by
 intro v B;obtain⟨j,y,rfl⟩:=iC B;have u:j<cs.length:=by rw[<-h.1];exact y
 exact(h.2 j cs[j] vs[j] (cO u) (cO y)).one (z _ (iX u))
theorem Rz.forget{g:Gh}{tk:Option Nat}{es:List A}{v:Value}(h:Rz g (.list tk es) v):Rz g (.list none es) v:=by
 cases h with
 | list tk es b off sz cap pre B hl z u G y h H=>exact .list none es b off sz cap pre B hl z u G y h aV
 | list0 tk a cap u H=>exact .list0 none a cap u aV
inductive MK where
 | str (s:List UInt8)
 | int (n:Int)
 | two (a b:List UInt8)
 deriving DecidableEq
def MK.kd:MK->Nat
 | .str _=>0
 | .int _=>1
 | .two _ _=>2
def MK.val:MK->Value
 | .str s=>.string ⟨s.toArray⟩
 | .int n=>.int .i64 n
 | .two a b=>.agg #[.string ⟨a.toArray⟩,.string ⟨b.toArray⟩]
inductive Ob where
 | cells (e:TypeId) (cs:List A)
 | iter (s:List UInt8) (pos:Nat)
 | map (kd:Nat) (es:List (MK × A))
 | maps (kd:Nat) (es:List (MK × A)) (st:List Nat) (clock:Nat)
 | mit (b since last:Nat) (seen:List Nat)
structure St where
 ob:Nat->Option Ob
 ov:List (Nat × Ob)
 tk:Nat->Option (Nat × TypeId)
 tv:List (Nat × (Nat × TypeId))
 lim:Nat
 ls:Option (Nat × Nat × A)
def qV{h:Type}:List (Nat × h)->(Nat->Option h)->Nat->Option h
 | [],u,p=>u p
 | (q,c)::L,u,p=>if q=p then some c else qV L u p
def oT{h:Type}:Nat->h->List (Nat × h)->List (Nat × h)
 | p,c,[]=>[(p,c)]
 | p,c,(q,d)::L=>if q=p then(q,c)::L else(q,d)::oT p c L
theorem aCe{z:Type}(p:Nat)(c:z)(u:Nat->Option z)(q:Nat):∀L,qV (oT p c L) u q=if p=q then some c else qV L u q
 | []=>by simp[oT,qV]
 | (k,d)::L=>by
  unfold oT;by_cases h:k=p
  .subst h;simp only[↓reduceIte,qV];split<;>simp_all
  .simp only[h,↓reduceIte,qV,aCe p c u q L];by_cases y:k=q
   .subst y;have:¬ p=k:=λe=>h e.symm
    simp[this]
   .simp[y]
def St.getO(s:St)(b:Nat):Option Ob:=qV s.ov s.ob b
def St.setO(s:St)(b:Nat)(o:Ob):St:={ s with ov:=oT b o s.ov }
def St.newO(s:St)(o:Ob):St:={ s with ov:=oT s.lim o s.ov,lim:=s.lim+1 }
def St.newT(s:St)(n:Nat × TypeId):St:={ s with tv:=oT s.lim n s.tv,lim:=s.lim+1 }
def St.getT(s:St)(t:Nat):Option (Nat × TypeId):=qV s.tv s.tk t
def St.setT(s:St)(t:Nat)(n:Nat × TypeId):St:={ s with tv:=oT t n s.tv }
def St.setL(s:St)(x:Option (Nat × Nat × A)):St:={ s with ls:=x }
def zS{h:Type}:Nat->List (Nat × h)->List (Nat × h)
 | _,[]=>[]
 | p,(q,d)::L=>if q=p then zS p L else(q,d)::zS p L
theorem aHf{H:Type}(p:Nat)(z:Nat->Option H)(q:Nat):∀L,qV (zS p L) (λu=>if u=p then none else z u) q=if q=p then none else qV L z q
 | []=>by simp[zS,qV]
 | (k,d)::L=>by
  have G:=aHf p z q L;unfold zS;by_cases h:k=p
  .subst h;simp only[↓reduceIte,G,qV];by_cases y:q=k
   .subst y;simp
   .have:¬ k=q:=λe=>y e.symm
    simp[y,this]
  .simp only[h,↓reduceIte,qV,G];by_cases B:k=q
   .subst B;simp[h]
   .simp[B]
def St.delT(s:St)(t:Nat):St:={ s with tk:=λu=>if u=t then none else s.tk u,tv:=zS t s.tv }
theorem wF(s:St)(t u:Nat):(s.delT t).getT u=if u=t then none else s.getT u:=aHf t s.tk u s.tv
theorem aX(s:St)(b:Nat)(o:Ob)(q:Nat):(s.setO b o).getO q=if b=q then some o else s.getO q:=aCe b o s.ob q s.ov
theorem St.getT_setO(s:St)(b:Nat)(o:Ob)(q:Nat):(s.setO b o).getT q=s.getT q:=rfl
theorem fE(s:St)(b:Nat)(o:Nat × TypeId)(q:Nat):(s.setT b o).getT q=if b=q then some o else s.getT q:=aCe b o s.tk q s.tv
theorem aAm(s:St)(o:Ob)(q:Nat):(s.newO o).getO q=if s.lim=q then some o else s.getO q:=aCe s.lim o s.ob q s.ov
theorem aDr(s:St)(o:Nat × TypeId)(q:Nat):(s.newT o).getT q=if s.lim=q then some o else s.getT q:=aCe s.lim o s.tk q s.tv
theorem yB(s:St)(x:Option (Nat × Nat × A))(q:Nat):(s.setL x).getO q=s.getO q:=rfl
theorem aPJ(s:St)(x:Option (Nat × Nat × A))(q:Nat):(s.setL x).getT q=s.getT q:=rfl
theorem qY(s:St)(b:Nat)(o:Nat × TypeId)(q:Nat):(s.setT b o).getO q=s.getO q:=rfl
structure St.ge (s s':St):Prop where
 ob:∀b o,s'.getO b=some o->s.getO b=some o
 tk:∀t n,s'.getT t=some n->s.getT t=some n
 ls:∀x,s'.ls=some x->s.ls=some x
theorem aC(s:St):s.ge s:=⟨λ_ _ h=>h,λ_ _ h=>h,λ_ h=>h⟩
theorem St.ge.trans{a b c:St}(h:a.ge b)(u:b.ge c):a.ge c:=⟨λ_ _ x=>h.ob _ _ (u.ob _ _ x),λ_ _ x=>h.tk _ _ (u.tk _ _ x),λ_ x=>h.ls _ (u.ls _ x)⟩
structure Ctx where
 P:Program
 det:Bool
 gl:Nat->Option (List A)
def Ctx.sz(C:Ctx)(t:TypeId):Nat:=((C.P.info? t).map (·.size)).getD 0
def MRz(g:Gh)(kd:Nat):List (MK × A)->List MapEntry->Prop
 | [],[]=>True
 | (k,a)::es,m::ms=>(k.kd=kd/\m.key=k.val/\Rz g a m.val)/\MRz g kd es ms
 | _,_=>False
theorem MRz.mono{g u:Gh}(y:g.le u){kd:Nat}:∀{es:List (MK × A)} {ms:List MapEntry},MRz g kd es ms->MRz u kd es ms
 | [],[],_=>trivial
 | (_,_)::_,_::_,h=>⟨⟨h.1.1,h.1.2.1,h.1.2.2.mono y⟩,h.2.mono y⟩
 | [],_::_,h=>h.elim
 | _::_,[],h=>h.elim
theorem MRz.len{g:Gh}{kd:Nat}:∀{es:List (MK × A)} {ms:List MapEntry},MRz g kd es ms->es.length=ms.length
 | [],[],_=>rfl
 | (_,_)::_,_::_,h=>jF (·+1) (MRz.len h.2)
 | [],_::_,h=>h.elim
 | _::_,[],h=>h.elim
theorem MRz.at{g:Gh}{kd:Nat}:∀{es:List (MK × A)} {ms:List MapEntry},MRz g kd es ms->∀(j:Nat) (m:MapEntry),ms[j]?=some m->∃k v,es[j]?=some (k,v)/\m.key=k.val/\Rz g v m.val
 | [],[],_,j,m,h=>by cases h
 | (k,a)::_,_::_,h,0,m,e=>by cases e;exact⟨k,a,rfl,h.1.2.1,h.1.2.2⟩
 | (_,_)::_,_::_,h,j+1,m,e=>MRz.at h.2 j m e
 | [],_::_,h,_,_,_=>h.elim
 | _::_,[],h,_,_,_=>h.elim
def ObRz(g:Gh):Ob->Option Obj->Prop
 | .cells e cs,x=>∃vs rest,x=some (.cells (vs++rest).toArray e)/\Rzs g cs vs/\∀c,c∈cs->c.one=true
 | .iter s pos,x=>x=some (.stringIter ⟨s.toArray⟩ pos)
 | .map kd es,x=>∃ms h,x=some (.map ms h)/\MRz g kd es ms.toList/\MapKept.Stamped ms h
 | .maps kd es st h,x=>∃ms,x=some (.map ms h)/\MRz g kd es ms.toList/\ms.toList.map (·.born)=st/\MapKept.Stamped ms h
 | .mit b u y z,x=>∃k,g.beta b=some k/\x=some (.mapIter (some k) u z.toArray y)
theorem ObRz.mono{g H:Gh}(B:g.le H){o:Ob}{x:Option Obj}(h:ObRz g o x):ObRz H o x:=by
 cases o with
 | cells e cs=>obtain⟨vs,rest,u,y,z⟩:=h;exact⟨vs,rest,u,y.mono B,z⟩
 | iter s pos=>exact h
 | map kd es=>obtain⟨ms,c,u,y,z⟩:=h;exact⟨ms,c,u,y.mono B,z⟩
 | maps kd es st c=>obtain⟨ms,u,y,z⟩:=h;exact⟨ms,u,y.mono B,z⟩
 | mit b G M O=>obtain⟨k,u,y⟩:=h;exact⟨k,B.beta _ _ u,y⟩
abbrev Fr:=Nat->Option (Obj × Option (List Value))
def Gh.ends(g:Gh)(t n:Nat)(x:A):Prop:=∃b cap pre,g.eta t (n+1)=some (.slice (some ⟨b,0,none⟩) (n+1) cap)/\g.eta t n=some (.slice (some ⟨b,0,none⟩) n cap) /\
 n+1<=cap/\cap<=maxLen/\g.pi b=some pre/\(n+1) * x.cells.length<=pre.length/\(∀c,c∈x.cells->c.one=true) /\
 ∀(j:Nat) (c:A) (v:Value),x.cells[j]?=some c->pre[n * x.cells.length+j]?=some v->Rz g c v
theorem Gh.ends.mono{g y:Gh}(u:g.le y){t n:Nat}{x:A}(h:g.ends t n x):y.ends t n x:=by
 obtain⟨b,cap,pre,B,G,H,M,O,S,T,U⟩:=h;obtain⟨ext,Z⟩:=u.pi b pre O;refine⟨b,cap,_,u.eta _ _ _ B,u.eta _ _ _ G,H,M,Z,by simp;omega,T,λj c v z Y=>(U j c v z (aAV ?_ Y)).mono u⟩;have:=(cX.1 z).1;rw[fO]at S;omega
structure R (C:Ctx) (F:Fr) (g:Gh) (s:St) (w:World):Prop where
 obj:∀b o,s.getO b=some o->∃k,g.beta b=some k/\ObRz g o w.heap[k]?/\g.pi k=none/\F k=none
 tok:∀t n e,s.getT t=some (n,e)->∃v xs,g.eta t n=some v/\w.ownsRow 0 e (C.sz e) v n xs/\(∀m x,g.eta t m=some x->m<=n) /\
  ∀b,v.ownBlock=some b->g.pi b=some xs/\F b=none
 sep:∀t t' n n' v v' b,t≠t'->s.getT t=some n->s.getT t'=some n'->g.eta t n.1=some v->g.eta t' n'.1=some v' ->
  v.ownBlock=some b->v'.ownBlock=some b->False
 pis:∀b pre,g.pi b=some pre->∃rest e fr,w.heap[b]?=some (.cells (pre++rest).toArray e fr)
 frm:∀b o,F b=some o->w.heap[b]?=some o.1/\g.pi b=o.2
 glb:∀b cs,C.gl b=some cs->∃pre ty fr,F b=some (.cells pre.toArray ty fr,some pre)/\pre.length=cs.length/\(∀c,c∈cs->c.one=true) /\
  ∀(j:Nat) (c:A) (v:Value),cs[j]?=some c->pre[j]?=some v->Rz g c v
 fsh:∃N,∀t,N<=t->s.getT t=none/\(∀m,g.eta t m=none)/\g.beta t=none
 bet:∀b k,g.beta b=some k->k<w.heap.size
 inj:∀b b' k,g.beta b=some k->g.beta b'=some k->b=b'
 dtm:C.det=true->∀b,s.lim<=b->g.beta b=none/\∀m,g.eta b m=none
 lst:∀x,s.ls=some x->g.ends x.1 x.2.1 x.2.2
 bfr:∀b k,g.beta b=some k->F k=none
 env:(w.os,w.output)=g.env
section
variable {C:Ctx} {F:Fr} {g:Gh} {s:St} {w:World}
theorem R.weaken(h:R C F g s w){s':St}(u:s.ge s')(hl:C.det=true->s.lim<=s'.lim):R C F g s' w where
 env:=h.env
 obj:=λb o T=>h.obj b o (u.ob b o T)
 tok:=λt n e y=>h.tok t n e (u.tk t _ y)
 sep:=λt M n H v Y b z y B=>h.sep t M n H v Y b z (u.tk t n y) (u.tk M H B)
 pis:=h.pis
 frm:=h.frm
 glb:=h.glb
 fsh:=by
  obtain⟨N,G⟩:=h.fsh;refine⟨N,λt y=>⟨?_,(G t y).2⟩⟩;cases S:s'.getT t with
  | none=>rfl
  | some n=>have:=u.tk t n S;rw[(G t y).1]at this;cases this
 bet:=h.bet
 inj:=h.inj
 dtm:=λhd b O=>h.dtm hd b (rE (hl hd) O)
 lst:=λx U=>h.lst x (u.ls x U)
 bfr:=h.bfr
theorem R.setL(h:R C F g s w){x:Option (Nat × Nat × A)}(u:∀y,x=some y->g.ends y.1 y.2.1 y.2.2):R C F g (s.setL x) w where
 env:=h.env
 obj:=h.obj
 tok:=h.tok
 sep:=h.sep
 pis:=h.pis
 frm:=h.frm
 glb:=h.glb
 fsh:=h.fsh
 bet:=h.bet
 inj:=h.inj
 dtm:=h.dtm
 lst:=u
 bfr:=h.bfr
theorem R.heap(h:R C F g s w){w':World}(u:w'.heap=w.heap)(H:(w'.os,w'.output)=(w.os,w.output):=by rfl):R C F g s w' where
 env:=H.trans h.env
 obj:=by rw[u];exact h.obj
 tok:=by
  intro t n e M;obtain⟨v,xs,y,z,B,G⟩:=h.tok t n e M;refine⟨v,xs,y,?_,B,G⟩;simpa [World.ownsRow,u]using z
 sep:=h.sep
 pis:=by rw[u];exact h.pis
 frm:=by rw[u];exact h.frm
 glb:=h.glb
 fsh:=h.fsh
 bet:=by rw[u];exact h.bet
 inj:=h.inj
 dtm:=h.dtm
 lst:=h.lst
 bfr:=h.bfr
theorem R.lt_pi(h:R C F g s w){b:Nat}{pre:List Value}(u:g.pi b=some pre):b<w.heap.size:=by
 obtain⟨rest,e,fr,y⟩:=h.pis b pre u;exact(fU.1 y).1
theorem R.lt_frm(h:R C F g s w){b:Nat}{o:Obj × Option (List Value)}(u:F b=some o):b<w.heap.size :=
 (fU.1 (h.frm b o u).1).1
theorem R.gpi(h:R C F g s w){b:Nat}{cs:List A}(M:C.gl b=some cs):∃pre ty fr,w.heap[b]?=some (.cells pre.toArray ty fr)/\g.pi b=some pre/\pre.length=cs.length/\(∀c,c∈cs->c.one=true) /\
  ∀(j:Nat) (c:A) (v:Value),cs[j]?=some c->pre[j]?=some v->Rz g c v:=by
 obtain⟨pre,ty,fr,u,y,z,B⟩:=h.glb b cs M;obtain⟨G,H⟩:=h.frm b _ u;exact⟨pre,ty,fr,G,H,y,z,B⟩
theorem aRR{w w':World}(y:∀b,b<w.heap.size->w'.heap[b]?=w.heap[b]?){k:Nat}(h:k<w.heap.size):k<w'.heap.size:=by
 have u:=y k h;rw[aAk h]at u;exact(fU.1 u).1
theorem R.keep(h:R C F g s w){w':World}(u:∀b,b<w.heap.size->w'.heap[b]?=w.heap[b]?)(U:(w'.os,w'.output)=(w.os,w.output):=by rfl):R C F g s w' where
 env:=U.trans h.env
 obj:=λb o B=>by
  obtain⟨k,y,z⟩:=h.obj b o B;exact⟨k,y,by rw[u k (h.bet b k y)];exact z⟩
 tok:=by
  intro t n e Y;obtain⟨v,xs,y,z,S,T⟩:=h.tok t n e Y;refine⟨v,xs,y,⟨z.1,?_⟩,S,T⟩;rcases z.2 with h|⟨b,cap,G,Z,H,M,rest⟩
  .exact .inl h
  .exact .inr ⟨b,cap,G,Z,H,by rw[u b (fU.1 M).1];exact M,rest⟩
 sep:=h.sep
 pis:=λb pre O=>by rw[u b (h.lt_pi O)];exact h.pis b pre O
 frm:=λb o B=>by rw[u b (h.lt_frm B)];exact h.frm b o B
 glb:=h.glb
 fsh:=h.fsh
 bet:=λb k H=>aRR u (h.bet b k H)
 inj:=h.inj
 dtm:=h.dtm
 lst:=h.lst
 bfr:=h.bfr
end
end
section
section
variable {C:Ctx} {F:Fr} {g:Gh} {s:St} {w:World}
theorem yK(w:World)(o:Obj):(w.alloc o).heap[w.heap.size]?=some o:=by
 show(w.heap.push o)[w.heap.size]?=some o;simp
theorem wE(w:World)(o:Obj){b:Nat}(h:b<w.heap.size):(w.alloc o).heap[b]?=w.heap[b]?:=by
 show(w.heap.push o)[b]?=w.heap[b]?;rw[Array.getElem?_push];have:b≠w.heap.size:=Nat.ne_of_lt h;simp[this]
theorem R.pi_new(h:R C F g s w):g.pi w.heap.size=none:=by
 cases u:g.pi w.heap.size with
 | none=>rfl
 | some pre=>exact cG (h.lt_pi u) (Nat.lt_irrefl _)
theorem R.frm_new(h:R C F g s w):F w.heap.size=none:=by
 cases u:F w.heap.size with
 | none=>rfl
 | some pre=>exact cG (h.lt_frm u) (Nat.lt_irrefl _)
theorem R.bet_new(h:R C F g s w)(b:Nat):g.beta b≠some w.heap.size:=λu=>cG (h.bet b _ u) (Nat.lt_irrefl _)
def Gh.bx(g:Gh)(b k:Nat):Gh:={ g with beta:=λc=>if c=b then some k else g.beta c }
theorem aAJ{g:Gh}{b:Nat}(h:g.beta b=none)(k:Nat):g.le (g.bx b k) :=
 ⟨fun c pre y => ⟨[],by simpa [Gh.bx] using y⟩,fun _ _ _ h => h,fun c j u => by
  have:c≠b:=by rintro rfl;rw[h]at u;cases u
  simp[Gh.bx,this,u],rfl⟩
theorem R.free(h:R C F g s w){b:Nat}(y:g.beta b=none):s.getO b=none:=by
 cases z:s.getO b with
 | none=>rfl
 | some o=>obtain⟨k,u,_⟩:=h.obj b o z;rw[y]at u;cases u
theorem R.freeT(h:R C F g s w){t:Nat}(y:∀n,g.eta t n=none):s.getT t=none:=by
 cases z:s.getT t with
 | none=>rfl
 | some o=>obtain⟨n,e⟩:=o;obtain⟨v,xs,u,_⟩:=h.tok t n e z;rw[y]at u;cases u
theorem R.newObj(h:R C F g s w){o:Obj}{ob:Ob}(ho:ObRz g ob (some o)){b:Nat}(hb:g.beta b=none){s':St}
  (hO:∀q,s'.getO q=if b=q then some ob else s.getO q)(Y:∀q,s'.getT q=s.getT q)(hL:s'.ls=s.ls)(hl:C.det=true->s.lim<=s'.lim/\b<s'.lim) :
  R C F (g.bx b w.heap.size) s' (w.alloc o):=by
 have y:=aAJ hb w.heap.size;have Z:∀k,k<w.heap.size->(w.alloc o).heap[k]?=w.heap[k]?:=λk Z=>wE w o Z
 have G:=h.keep Z;refine⟨λc x z=>?_,?_,?_,G.pis,G.frm,λc cs u=>?_,?_,?_,?_,λhd c u=>?_,λx z=>(h.lst x (by rw[<-hL];exact z)).mono y,λc k u=>?_,h.env⟩
 .rw[hO]at z;by_cases M:b=c
  .subst M;simp only[↓reduceIte,bM]at z;subst z;exact⟨w.heap.size,by simp[Gh.bx],by rw[yK];exact ho.mono y,h.pi_new,h.frm_new⟩
  .simp only[M,↓reduceIte]at z;obtain⟨k,H,S,T⟩:=G.obj c x z;exact⟨k,y.beta _ _ H,S.mono y,T⟩
 .intro t n e B;rw[Y]at B;obtain⟨v,xs,H,S,T,h4⟩:=G.tok t n e B;exact⟨v,xs,H,S,T,h4⟩
 .intro t t' n n' v v' c b0 B O;rw[Y]at B O;exact G.sep t t' n n' v v' c b0 B O
 .obtain⟨pre,ty,fr,hp,hl,H,hr⟩:=h.glb c cs u;exact⟨pre,ty,fr,hp,hl,H,λj c v u hv=>(hr j c v u hv).mono y⟩
 .obtain⟨N,U⟩:=h.fsh;refine⟨max N (b+1),λt B=>⟨by rw[Y];exact(U t aB).1,(U t aB).2.1,?_⟩⟩;have:t≠b:=by omega
  simp[Gh.bx,this,(U t aB).2.2]
 .intro c k u;simp only[Gh.bx]at u;have e:(w.alloc o).heap.size=w.heap.size+1:=by show(w.heap.push o).size=_;simp
  split at u
  .cases u;omega
  .have:=h.bet c k u;omega
 .intro c d k u hd;simp only[Gh.bx]at u hd;split at u<;>split at hd
  .omega
  .cases u;exact cG hd (h.bet_new d)
  .cases hd;exact cG u (h.bet_new c)
  .exact h.inj c d k u hd
 .obtain⟨l1,l2⟩:=hl hd;obtain⟨d1,d2⟩:=h.dtm hd c aB;have:c≠b:=by omega
  exact⟨by simp[Gh.bx,this,d1],d2⟩
 .simp only[Gh.bx]at u;split at u
  .cases u;exact h.frm_new
  .exact h.bfr c k u
theorem R.some_free(h:R C F g s w):∃b,g.beta b=none:=by
 obtain⟨N,u⟩:=h.fsh;exact⟨N,(u N (bF _)).2.2⟩
theorem R.setObj(h:R C F g s w){b k:Nat}{o:Ob}(hs:s.getO b=some o)(z:g.beta b=some k){ob:Ob}{w':World}
  (O:∀j,j≠k->w'.heap[j]?=w.heap[j]?)(H:ObRz g ob w'.heap[k]?)(he:(w'.os,w'.output)=(w.os,w.output):=by rfl):R C F g (s.setO b ob) w':=by
 obtain⟨k',Z,_,B,hF⟩:=h.obj b o hs;rw[z]at Z;cases Z;refine⟨λc x u=>?_,?_,h.sep,λc pre U=>?_,λc x u=>?_,h.glb,h.fsh,λc j hc=>?_,h.inj,h.dtm,h.lst,h.bfr,he.trans h.env⟩
 .rw[aX]at u;by_cases M:b=c
  .subst M;simp only[↓reduceIte,bM]at u;subst u;exact⟨k,z,H,B,hF⟩
  .simp only[M,↓reduceIte]at u;obtain⟨j,G,y⟩:=h.obj c x u;have:j≠k:=by rintro rfl;exact M (h.inj b c j z G)
   exact⟨j,G,by rw[O j this];exact y⟩
 .intro t n e ht;obtain⟨v,xs,G,y,h3,h4⟩:=h.tok t n e ht;refine⟨v,xs,G,⟨y.1,?_⟩,h3,h4⟩;rcases y.2 with S|⟨j,cap,T,S,M,hh,rest⟩
  .exact .inl S
  .refine .inr ⟨j,cap,T,S,M,?_,rest⟩
   have:j≠k:=by
    rintro rfl;have:=(h4 j (by rw[S];rfl)).1;rw[B]at this;cases this
   rw[O j this];exact hh
 .have:c≠k:=by rintro rfl;rw[B]at U;cases U
  rw[O c this];exact h.pis c pre U
 .have:c≠k:=by rintro rfl;rw[hF]at u;cases u
  rw[O c this];exact h.frm c x u
 .have G:=h.bet c j hc;by_cases hj:j=k
  .subst hj;cases ob with
   | cells e0 cs=>obtain⟨vs,rest,u,_⟩:=H;exact(fU.1 u).1
   | iter x p=>exact(fU.1 H).1
   | map kd es=>obtain⟨ms,c,u,_⟩:=H;exact(fU.1 u).1
   | maps kd es st c=>obtain⟨ms,u,_⟩:=H;exact(fU.1 u).1
   | mit b Y b0 b1=>obtain⟨k,_,u⟩:=H;exact(fU.1 u).1
  .have y:=O j hj;rw[aAk G]at y;exact(fU.1 y).1
def Gh.know(g:Gh)(b:Nat)(vs:List Value):Gh:={ g with pi:=λk=>if k=b then some vs else g.pi k }
theorem aDy{g:Gh}{b:Nat}(h:g.pi b=none)(vs:List Value):g.le (g.know b vs) :=
 ⟨fun k pre u => ⟨[],by
  have:k≠b:=by rintro rfl;rw[h]at u;cases u
  simp[Gh.know,this,u]⟩,λ_ _ _ h=>h,λ_ _ h=>h,rfl⟩
theorem aQd{g:Gh}{b:Nat}(h:g.pi b=none)(vs:List Value):g.les (g.know b vs):=⟨aDy h vs,rfl,rfl⟩
theorem R.ghost(h:R C F g s w){z:Gh}(H:g.le z)
  (b0:∀b k,g.beta b=some k->g.pi k=none->z.pi k=none)
  (M:∀b pre,z.pi b=some pre->∃rest e fr,w.heap[b]?=some (.cells (pre++rest).toArray e fr))
  (O:∀t n e v b xs,s.getT t=some (n,e)->g.eta t n=some v->v.ownBlock=some b->g.pi b=some xs->z.pi b=some xs)
  (y:z.eta=g.eta)(u:z.beta=g.beta)(Z:∀b o,F b=some o->z.pi b=g.pi b):R C F z s w where
 env:=h.env.trans H.env.symm
 obj:=λb o T=>by
  obtain⟨k,B,U,Y,S⟩:=h.obj b o T;exact⟨k,H.beta _ _ B,U.mono H,b0 b k B Y,S⟩
 tok:=by
  intro t n e ht;obtain⟨v,xs,B,U,Y,S⟩:=h.tok t n e ht;exact⟨v,xs,by rw[y];exact B,U,by rw[y];exact Y,λb G=>⟨O t n e v b xs ht B G (S b G).1,(S b G).2⟩⟩
 sep:=by rw[y];exact h.sep
 pis:=M
 frm:=λb o T=>by rw[Z b o T];exact h.frm b o T
 glb:=λb cs G=>by
  obtain⟨pre,ty,fr,hp,hl,B,hr⟩:=h.glb b cs G;exact⟨pre,ty,fr,hp,hl,B,λj c v hc hv=>(hr j c v hc hv).mono H⟩
 fsh:=by rw[y,u];exact h.fsh
 bet:=by rw[u];exact h.bet
 inj:=by rw[u];exact h.inj
 dtm:=by rw[y,u];exact h.dtm
 lst:=λx hx=>(h.lst x hx).mono H
 bfr:=by rw[u];exact h.bfr
theorem R.newRow(h:R C F g s w)(vs:List Value)(e:TypeId)(rest:List Value)(fr:Nat × Nat:=(0,0)) :
  R C F (g.know w.heap.size vs) s (w.alloc (.cells (vs++rest).toArray e fr))/\g.les (g.know w.heap.size vs):=by
 have z:=aDy h.pi_new vs
 refine⟨(h.keep (w':=w.alloc (.cells (vs++rest).toArray e fr)) (λb u=>wE w _ u)).ghost z ?_ ?_ ?_ rfl rfl (λb o G=>by
  have:b≠w.heap.size:=Nat.ne_of_lt (h.lt_frm G);simp only[Gh.know,this,↓reduceIte]),aQd h.pi_new vs⟩
 .intro b k u y;have:k≠w.heap.size:=Nat.ne_of_lt (h.bet b k u);simp only[Gh.know,this,↓reduceIte];exact y
 .intro b pre y;by_cases u:b=w.heap.size
  .subst u;simp only[Gh.know,↓reduceIte,bM]at y;subst y;exact⟨rest,e,fr,yK w _⟩
  .simp only[Gh.know,u,↓reduceIte]at y;rw[wE w _ (h.lt_pi y)];exact h.pis b pre y
 .intro t n e v b xs _ _ u B;have:b≠w.heap.size:=Nat.ne_of_lt (h.lt_pi B);simp only[Gh.know,this,↓reduceIte];exact B
def dF(es:List A):List A:=es.flatMap A.cells
theorem aGs(a b:List A):dF (a++b)=dF a++dF b:=by simp[dF]
theorem aAt{es:List A}{sz:Nat}(h:∀e,e∈es->e.cells.length=sz):(dF es).length=es.length * sz:=by
 induction es with
 | nil=>simp[dF]
 | cons e es y =>
  have:=y (λx u=>h x (by simp[u]));simp only[dF,gR,aG,bB]at *;rw[this,h e aV,fO];omega
theorem aTL{es:List A}{sz:Nat}(h:∀e,e∈es->e.cells.length=sz){i:Nat}{e:A}(u:es[i]?=some e){j:Nat}{c:A}
  (z:e.cells[j]?=some c):(dF es)[i * sz+j]?=some c:=by
 induction es generalizing i with
 | nil=>simp at u
 | cons x es H =>
  simp only[dF,gR];cases i with
  | zero =>
   simp only[iO,bM]at u;subst u;have hl:j<x.cells.length:=(cX.1 z).1;rw[Nat.zero_mul,gK,jT hl,z]
  | succ i =>
   have B:=h x aV;have:=H (λy G=>h y (by simp[G])) (i:=i) (gQ u);rw[rU (by rw[B,fO];omega),B];have e:(i+1) * sz+j-sz=i * sz+j:=by rw[fO];omega
   rw[e];exact this
theorem yO{g:Gh}{tk:Option Nat}{es:List A}{b sz cap off:Nat}{pre vs:List Value}(Y:g.pi b=some pre)(h:pre.drop off=vs)(H:Rzs g (dF es) (vs.take (es.length * sz)))
  (u:∀e,e∈es->e.cells.length=sz)(M:∀e,e∈es->∀c,c∈e.cells->c.one=true)(S:es.length<=cap)(U:cap<=maxLen)
  (ho:off<=pre.length)
  (Z:∀t,tk=some t->g.eta t es.length=some (.slice (some ⟨b,off,none⟩) es.length cap)) :
  Rz g (.list tk es) (.slice (some ⟨b,off,none⟩) es.length cap):=by
 have hl:(vs.take (es.length * sz)).length=es.length * sz:=by rw[H.1,aAt u]
 have B:es.length * sz<=vs.length:=by rw[dG]at hl;omega
 subst h;rw[eR]at B;refine .list tk es b off sz cap pre Y aB S U u M (λi e j c v y G hx=>?_) Z
 have O:i * sz+j<es.length * sz:=by
  have z:i<es.length:=(cX.1 y).1;have T:j<e.cells.length:=(cX.1 G).1;have:=u e (bA y);have:(i+1) * sz<=es.length * sz:=qD _ z;rw[fO]at this;omega
 refine H.2 (i * sz+j) c v (aTL u y G) ?_;rw[mO,aF O,nD,<-nS];exact hx
theorem Rz.list_inv{g:Gh}{tk:Option Nat}{es:List A}{v:Value}(h:Rz g (.list tk es) v) :
  ∃a cap,v=.slice a es.length cap/\cap<=maxLen/\es.length<=cap/\(∀t,tk=some t->g.eta t es.length=some v)/\(es=[]\/∃b off sz pre,a=some ⟨b,off,none⟩/\g.pi b=some pre/\off+es.length * sz<=pre.length /\
   (∀e,e∈es->e.cells.length=sz)/\(∀e,e∈es->∀c,c∈e.cells->c.one=true) /\
   (∀(i:Nat) (e:A) (j:Nat) (c:A) (v:Value),es[i]?=some e->e.cells[j]?=some c->pre[off+i * sz+j]?=some v->Rz g c v)):=by
 cases h with
 | list tk es b off sz cap pre G hl B u H z h y =>
  exact⟨_,cap,rfl,u,B,y,.inr ⟨b,off,sz,pre,rfl,G,hl,H,z,h⟩⟩
 | list0 tk a cap u y=>exact⟨a,cap,rfl,u,aN _,y,.inl rfl⟩
theorem Rz.to_flat{g:Gh}{tk:Option Nat}{es:List A}{v:Value}(h:Rz g (.list tk es) v) :
  ∃a cap,v=.slice a es.length cap/\cap<=maxLen/\es.length<=cap/\(es=[]\/∃b off sz pre,a=some ⟨b,off,none⟩/\g.pi b=some pre/\off+es.length * sz<=pre.length /\
   (∀e,e∈es->e.cells.length=sz)/\(∀e,e∈es->∀c,c∈e.cells->c.one=true)/\Rzs g (dF es) ((pre.drop off).take (es.length * sz))):=by
 cases h with
 | list tk es b off sz cap pre Y hl T M z S h Z =>
  refine⟨_,cap,rfl,M,T,.inr ⟨b,off,sz,pre,rfl,Y,hl,z,S,?_,?_⟩⟩
  .rw[aAt z,dG,eR];omega
  .intro k c v u B;rw[mO]at B;split at B
   .rename_i U;rw[nD]at B
    have key:∀(l:List A) (k:Nat) (c:A),(∀e,e∈l->e.cells.length=sz)->(dF l)[k]?=some c ->
      ∃i e j,l[i]?=some e/\e.cells[j]?=some c/\k=i * sz+j:=by
     intro l
     induction l with
     | nil=>intro k c _ u;simp[dF]at u
     | cons x l ih =>
      intro k c z u;simp only[dF,gR]at u;by_cases hx:k<x.cells.length
      .rw[jT hx]at u;exact⟨0,x,k,by simp,u,by simp⟩
      .rw[rU aB,z x aV]at u;obtain⟨i,e,j,G,H,O⟩:=ih _ c (λy hy=>z y (by simp[hy])) u;have:=z x aV;exact⟨i+1,e,j,gQ G,H,by rw[fO];omega⟩
    obtain⟨i,e,j,G,H,O⟩:=key es k c z u;refine h i e j c v G H ?_;rw[O]at B;rw[nS];exact B
   .simp at B
 | list0 tk a cap M Z=>exact⟨a,cap,rfl,M,aN _,.inl rfl⟩
end
end
section
section
variable {g:Gh}
theorem Rz.int_inv{k:IntKind}{n:Int}{v:Value}(h:Rz g (.int k n) v):v=.int k n:=by cases h;rfl
theorem Rz.bool_inv{b:Bool}{v:Value}(h:Rz g (.bool b) v):v=.bool b:=by cases h;rfl
theorem Rz.str_inv{s:List UInt8}{v:Value}(h:Rz g (.str s) v):v=.string ⟨s.toArray⟩:=by cases h;rfl
end
def eqK:Nat->A->A->Option Bool
 | 0,.int j a,.int k b=>if j=k then some (decide (a=b)) else none
 | 1,.bool a,.bool b=>some (a == b)
 | 2,.str a,.str b=>some (decide (a=b))
 | _,_,_=>none
def yW:List Nat->List A->List A->Option Bool
 | [],[],[]=>some true
 | k::ks,a::r,b::l=>match eqK k a b,yW ks r l with
  | some x,some y=>some (x&&y)
  | _,_=>none
 | _,_,_=>none
def sC(P:Program)(t:TypeId)(k:Nat):Bool:=match P.underlying t with
 | some (.int _)=>k == 0
 | some .bool=>k == 1
 | some .string=>k == 2
 | _=>false
def wJ(P:Program):List Field->List Nat->Nat->Bool
 | [],[],_=>true
 | f :: r,k :: ks,i => (f.name != "_") && f.offset == i && sC P f.type k && wJ P r ks (i + 1)
 | _,_,_=>false
def aCO(P:Program)(t:TypeId)(ks:List Nat):Bool :=
 !P.stoodInHeld t&&!P.eqGuardType P.depth t&&(match P.underlying t with
  | some (.struct h)=>wJ P h.toList ks 0
  | _=>false)
section
variable {P:Program} {g:Gh} {w:World}
theorem aV9{a b:A}{r:Bool}{k:Nat}{t:TypeId}{M O:Value}{d:Nat}(h:eqK k a b=some r)(B:Rz g a M)(G:Rz g b O)(y:sC P t k=true) :
  (Op.equalIn (d+1) t M O).run P w=.ok r w:=by
 unfold eqK at h;split at h
 .split at h
  .rename_i z;subst z;simp only[bM]at h;subst h;have u:∃H,P.underlying t=some (.int H):=by unfold sC at y;split at y<;>simp_all
   obtain⟨H,u⟩:=u;rw[B.int_inv,G.int_inv,run_equalIn_int w d t _ _ _ _ u];congr 1
  .simp at h
 .simp only[bM]at h;subst h;have u:P.underlying t=some .bool:=by unfold sC at y;split at y<;>simp_all
  rw[B.bool_inv,G.bool_inv,run_equalIn_bool' w d t _ _ u]
 .simp only[bM]at h;subst h;have u:P.underlying t=some .string:=by unfold sC at y;split at y<;>simp_all
  rw[B.str_inv,G.str_inv,run_equalIn_string w d t _ _ u];simp only[ByteArray.toList_mk];congr 1;rw[fG];simp
 .simp at h
theorem aEi{t:TypeId}{k:Nat}(u:sC P t k=true){xs:Array Value}{i:Nat}{v:Value}(y:xs[i]?=some v):(part t xs i).run P w=.ok v w:=by
 unfold sC at u
 split at u<;>first
  | (rename_i h;simp[part,isAgg,cS h,y];done)
  | (rename_i h _;simp[part,isAgg,cS h,y];done)
  | (rename_i h;simp only[part,isAgg,bG,cS h,bJ,bV,cV,dY,y];done)
  | cases u
theorem aGr{d:Nat}{xs ys:Array Value}:∀{B:List Field} {ks:List Nat} {az bs:List A} {i:Nat} {r:Bool},wJ P B ks i=true->yW ks az bs=some r ->
  Rzs g az (xs.toList.drop i)->Rzs g bs (ys.toList.drop i)->(Op.eqFields (d+1) xs ys B).run P w=.ok r w
 | [],[],[],[],i,r,_,h,_,_=>by simp only[yW,bM]at h;subst h;rfl
 | f::B,k::ks,a::az,b::bs,i,r,S,h,T,U=>by
  simp only[wJ,aY,bne_iff_ne,beq_iff_eq]at S;obtain⟨⟨⟨O,rfl⟩,G⟩,Y⟩:=S;simp only[yW]at h;split at h
  .rename_i x y Z hy;simp only[bM]at h;subst h;obtain⟨va,u,H⟩:=T.get (j:=0) (c:=a) aV;obtain⟨vb,z,M⟩:=U.get (j:=0) (c:=b) aV;rw[nD,jA,aBO]at u z;have ih:=aGr (d:=d) (i:=f.offset+1) Y hy (by have:=T.drop 1;simpa [wD]using this) (by have:=U.drop 1;simpa [wD]using this);simp only[Op.eqFields,aF O,mT,O,gA9,dJ,bG,aEi G u,aEi G z,bJ,aV9 Z H M G];cases x
   .simp
   .simp[ih]
  .simp at h
end
structure KeyTy (P:Program) (kt:TypeId) (kd:Nat):Prop where
 chk:∀k:MK,k.kd=kd->∀e w,(Instr.checkKey e 10000 kt k.val).run P w=.ok () w
 eq:∀k k':MK,k.kd=kd->k'.kd=kd->∀w,(Op.equal kt k.val k'.val).run P w=.ok (decide (k=k')) w
 und:∃d,P.underlying kt=some d/\∀k k':MK,k.kd=kd->k'.kd=kd->Instr.sameNow d k.val k'.val=some (decide (k=k'))\/Instr.sameNow d k.val k'.val=none
def fM(k:MK):List (MK × A)->List MapEntry->Nat->Option (Nat × Value)
 | (h,_)::es,m::ms,i=>if k=h then some (i,m.val) else fM k es ms (i+1)
 | _,_,_=>none
section
variable {P:Program} {g:Gh} {kt:TypeId} {kd:Nat}
theorem aKs{d:TypeDesc}{k:MK}(hd:∀k u:MK,k.kd=kd->u.kd=kd->Instr.sameNow d k.val u.val=some (decide (k=u))\/Instr.sameNow d k.val u.val=none)(z:k.kd=kd) :
  ∀{es:List (MK × A)} {ms:List MapEntry} (i:Nat),MRz g kd es ms->Instr.findNow d k.val ms i=some (fM k es ms i)\/Instr.findNow d k.val ms i=none
 | [],[],i,_=>.inl rfl
 | (u,a)::es,m::ms,i,h=>by
  obtain⟨⟨B,G,O⟩,H⟩:=h;have M:=aKs hd z (i+1) H;simp only[Instr.findNow,G,fM];rcases hd k u z B with e|e<;>rw[e]
  .by_cases y:k=u
   .simp[y]
   .simpa [y]using M
  .exact .inr rfl
 | [],_::_,i,h=>h.elim
 | _::_,[],i,h=>h.elim
theorem aKL{k:MK}(y:KeyTy P kt kd)(z:k.kd=kd)(w:World) :
  ∀{es:List (MK × A)} {ms:List MapEntry} (i:Nat),MRz g kd es ms->(Instr.findAsking kt k.val ms i).run P w=.ok (fM k es ms i) w
 | [],[],i,_=>rfl
 | (B,a)::es,m::ms,i,h=>by
  obtain⟨⟨G,H,S⟩,M⟩:=h;have O:=aKL y z w (i+1) M;simp only[Instr.findAsking,bG,H,y.eq k B z G,bJ,fM];by_cases u:k=B
  .simp[u]
  .simp[u,O]
 | [],_::_,i,h=>h.elim
 | _::_,[],i,h=>h.elim
theorem aHw{k:MK}(u:KeyTy P kt kd)(y:k.kd=kd)(w:World){es:List (MK × A)}{ms:List MapEntry}(h:MRz g kd es ms) :
  (Instr.findKey kt k.val ms).run P w=.ok (fM k es ms 0) w:=by
 obtain⟨d,hd,z⟩:=u.und;simp only[Instr.findKey,bG,cS hd,bJ];rcases aKs z y 0 h with e|e<;>rw[e]
 .rfl
 .exact aKL u y w 0 h
end
theorem aTz(a b:List UInt8):((⟨a.toArray⟩:ByteArray) == ⟨b.toArray⟩)=decide (a=b):=by
 rw[fG,Go.MapKept.bytes_beq];simp
theorem aSF{P:Program}{kt:TypeId}(h:P.underlying kt=some .string):KeyTy P kt 0 where
 chk:=λk y e w=>by
  cases k<;>simp[MK.kd]at y
  have B:∀n v,(Instr.checkKey e (n+1) kt v).run P w=_:=λn v=>by simp only[Instr.checkKey,bG,cS h,bJ];rfl
  rw[show(10000:Nat)=9999+1 from rfl,B];rfl
 eq:=λk z y u w=>by
  cases k<;>simp[MK.kd]at y
  cases z<;>simp[MK.kd]at u
  rename_i a b;have:=run_equalIn_string (P:=P) w 9999 kt ⟨a.toArray⟩ ⟨b.toArray⟩ h;simp only[MK.val,Op.equal,Op.maxDepth];rw[this];congr 1;rw[fG];simp
 und:=⟨_,h,λk z y u=>by
  cases k<;>simp[MK.kd]at y
  cases z<;>simp[MK.kd]at u
  left;simp[MK.val,Instr.sameNow,aTz]⟩
theorem aSE{P:Program}{kt:TypeId}(h:P.underlying kt=some (.int .i64)):KeyTy P kt 1 where
 chk:=λk y e w=>by
  cases k<;>simp[MK.kd]at y
  have B:∀n v,(Instr.checkKey e (n+1) kt v).run P w=_:=λn v=>by simp only[Instr.checkKey,bG,cS h,bJ];rfl
  rw[show(10000:Nat)=9999+1 from rfl,B];rfl
 eq:=λk z y u w=>by
  cases k<;>simp[MK.kd]at y
  cases z<;>simp[MK.kd]at u
  rename_i a b;have:=run_equalIn_int (P:=P) w 9999 kt .i64 .i64 a b h;simp only[MK.val,Op.equal,Op.maxDepth];rw[this];congr 1;rw[fG];simp
 und:=⟨_,h,λk z y u=>by
  cases k<;>simp[MK.kd]at y
  cases z<;>simp[MK.kd]at u
  left;simp[MK.val,Instr.sameNow];rw[fG];simp⟩
def mkA:Nat->A->Option MK
 | 0,.str s=>some (.str s)
 | 1,.int .i64 n=>some (.int n)
 | 2,.agg [.str a,.str b]=>some (.two a b)
 | _,_=>none
def iU(k:MK):List (MK × A)->Option A
 | []=>none
 | (h,a)::es=>if k=h then some a else iU k es
def lJ(k:MK)(v:A):List (MK × A)->List (MK × A)
 | []=>[(k,v)]
 | (h,a)::es=>if k=h then(h,v)::es else(h,a)::lJ k v es
section
variable {P:Program} {g:Gh} {kt:TypeId} {kd:Nat}
theorem aHW{a:A}{mk:MK}{v:Value}(h:mkA kd a=some mk)(u:Rz g a v):v=mk.val/\mk.kd=kd:=by
 unfold mkA at h;split at h<;>simp only[bM,reduceCtorEq]at h<;>subst h
 .exact⟨u.str_inv,rfl⟩
 .exact⟨u.int_inv,rfl⟩
 .refine⟨?_,rfl⟩;cases u with
  | agg cs vs hl G h =>
   match vs,hl with
   | [x,y],_ =>
    have z:=(h 0 _ x rfl rfl).str_inv;have B:=(h 1 _ y rfl rfl).str_inv;subst z;subst B;rfl
theorem aNk{k:MK}:∀{es:List (MK × A)} {ms:List MapEntry} (i:Nat),MRz g kd es ms ->
  (iU k es=none/\fM k es ms i=none)\/∃a j v,iU k es=some a/\fM k es ms i=some (j,v)/\Rz g a v
 | [],[],i,_=>.inl ⟨rfl,rfl⟩
 | (B,a)::es,m::ms,i,h=>by
  obtain⟨⟨G,H,y⟩,z⟩:=h;simp only[iU,fM];by_cases u:k=B
  .exact .inr ⟨a,i,m.val,by simp[u],by simp[u],y⟩
  .simpa [u]using aNk (i+1) z
 | [],_::_,i,h=>h.elim
 | _::_,[],i,h=>h.elim
theorem aNP{k:MK}(S:k.kd=kd){a:A}{val:Value}(H:Rz g a val):∀{es:List (MK × A)} {ms:List MapEntry} (i:Nat),MRz g kd es ms ->
  (fM k es ms i=none/\∀born,MRz g kd (lJ k a es) (ms++[{ key:=k.val,val:=val,born:=born }])) \/
  ∃n v m,fM k es ms i=some (i+n,v)/\ms[n]?=some m/\m.key=k.val/\MRz g kd (lJ k a es) (ms.modify n λe=>{ e with key:=k.val,val:=val })
 | [],[],i,_=>.inl ⟨rfl,λborn=>⟨⟨S,rfl,H⟩,trivial⟩⟩
 | (Y,x)::es,m::ms,i,h=>by
  obtain⟨⟨B,G,M⟩,O⟩:=h;simp only[fM,lJ];by_cases u:k=Y
  .subst u;exact .inr ⟨0,m.val,m,by simp,by simp,G,by simp only[↓reduceIte,List.modify_zero_cons];exact⟨⟨B,rfl,H⟩,O⟩⟩
  .simp only[u,↓reduceIte];rcases aNP S H (i+1) O with⟨y,z⟩|⟨n,v,Z,y,z,T,U⟩
   .exact .inl ⟨y,λborn=>⟨⟨B,G,M⟩,z born⟩⟩
   .exact .inr ⟨n+1,v,Z,by rw[y];simp;omega,gQ z,T,by simp only[List.modify_succ_cons];exact⟨⟨B,G,M⟩,U⟩⟩
 | [],_::_,i,h=>h.elim
 | _::_,[],i,h=>h.elim
theorem MK.same(k:MK):Instr.sameBits 10000 k.val k.val=true:=by
 cases k<;>simp[MK.val,Instr.sameBits,Go.MapKept.bytes_beq]
theorem aTV(k:MK)(w:World):(Instr.keyThatStays k.val k.val).run P w=.ok k.val w:=by
 simp[Instr.keyThatStays,k.same]
end
theorem aSG{P:Program}{kt:TypeId}(h:aCO P kt [2,2]=true):KeyTy P kt 2:=by
 simp only[aCO,aY,fV]at h;obtain⟨⟨h1,_⟩,u⟩:=h;split at u
 case h_2=>cases u
 rename_i fs G;obtain⟨fl⟩:=fs;have U:=u
 match fl,u,G with
 | [f,e],u,G =>
  simp only[wJ,aY,bne_iff_ne,beq_iff_eq]at u;obtain⟨⟨⟨n1,o1⟩,Z⟩,⟨⟨n2,o2⟩,k2⟩,_⟩:=u;have u1:P.underlying f.type=some .string:=by unfold sC at Z;split at Z<;>simp_all
  have u2:P.underlying e.type=some .string:=by unfold sC at k2;split at k2<;>simp_all
  have str:∀(t:TypeId),P.underlying t=some .string->∀e n (s:ByteArray) w,(Instr.checkKey e (n+1) t (.string s)).run P w=.ok () w:=by
   intro t ht e n s w;simp only[Instr.checkKey,bG,cS ht,bJ];rfl
  refine⟨λk M S w=>?_,λk Y M y w=>?_,⟨_,G,λk Y M y=>?_⟩⟩
  .cases k<;>simp[MK.kd]at M
   rename_i a b;have p1:(part f.type #[.string ⟨a.toArray⟩,.string ⟨b.toArray⟩] f.offset).run P w=.ok (.string ⟨a.toArray⟩) w:=aEi Z (by rw[o1];rfl);have p2:(part e.type #[.string ⟨a.toArray⟩,.string ⟨b.toArray⟩] e.offset).run P w=.ok (.string ⟨b.toArray⟩) w:=aEi k2 (by rw[o2];rfl)
   have T:∀n,(Instr.checkKey S (n+1+1) kt (.agg #[.string ⟨a.toArray⟩,.string ⟨b.toArray⟩])).run P w=.ok () w:=by
    intro n;rw[Instr.checkKey];simp[cS G,n1,n2,p1,p2,str f.type u1 S n ⟨a.toArray⟩ w,str e.type u2 S n ⟨b.toArray⟩ w]
   exact T 9998
  .cases k<;>simp[MK.kd]at M
   cases Y<;>simp[MK.kd]at y
   rename_i a b z B;have H:P.fieldsOf kt=#[f,e]:=by simp[Program.fieldsOf,G]
   have r1:Rzs ⟨λ_=>none,λ_ _=>none,λ_=>none,default,#[]⟩ [.str a,.str b] [.string ⟨a.toArray⟩,.string ⟨b.toArray⟩]:=.cons (.str a) (.cons (.str b) (.nil _));have r2:Rzs ⟨λ_=>none,λ_ _=>none,λ_=>none,default,#[]⟩ [.str z,.str B] [.string ⟨z.toArray⟩,.string ⟨B.toArray⟩]:=.cons (.str z) (.cons (.str B) (.nil _))
   have O:=aGr (P:=P) (w:=w) (d:=9998) (i:=0) (xs:=#[.string ⟨a.toArray⟩,.string ⟨b.toArray⟩]) (ys:=#[.string ⟨z.toArray⟩,.string ⟨B.toArray⟩]) (r:=decide (MK.two a b=MK.two z B)) U (az:=[.str a,.str b]) (bs:=[.str z,.str B])
    (by simp[yW,eqK]) r1 r2
   show(Op.equalIn 10000 kt _ _).run P w=_;rw[show 10000=9999+1 from rfl];simp only[MK.val];rw[run_equalIn_struct w 9999 kt _ _ (by rw[H];exact G) h1,H];exact O
  .right;cases k<;>simp[MK.kd]at M
   cases Y<;>simp[MK.kd]at y
   rfl
 | [],u,_=>simp[wJ]at u
 | [_],u,_=>simp[wJ]at u
 | _::_::_::_,u,_=>simp[wJ]at u
def aHV(P:Program)(kt:TypeId):Nat->Bool
 | 0=>match P.underlying kt with
  | some .string=>true
  | _=>false
 | 1=>match P.underlying kt with
  | some (.int k)=>decide (k=.i64)
  | _=>false
 | 2=>aCO P kt [2,2]
 | _=>false
theorem aSD{P:Program}{kt:TypeId}{kd:Nat}(h:aHV P kt kd=true):KeyTy P kt kd:=by
 unfold aHV at h;split at h
 .split at h
  .rename_i u;exact aSF u
  .cases h
 .split at h
  .rename_i u;simp only[bR]at h;subst h;exact aSE u
  .cases h
 .exact aSG h
 .cases h
end
abbrev Env:=List (Nat × A)
def Env.get:Env->Nat->Option A
 | [],_=>none
 | (k,v)::e,t=>if k=t then some v else Env.get e t
def Env.put:Env->Nat->A->Env
 | [],t,v=>[(t,v)]
 | (k,u)::e,t,v=>if k=t then(t,v)::e else(k,u)::Env.put e t v
def Env.del:Env->Nat->Env
 | [],_=>[]
 | (k,u)::e,t=>if k=t then Env.del e t else(k,u)::Env.del e t
def Env.keep(V:List Nat):Env->Env
 | []=>[]
 | (k,u)::e=>if V.elem k then(k,u)::Env.keep V e else Env.keep V e
theorem lX(e:Env)(t:Nat)(v:A)(u:Nat):(e.put t v).get u=if t=u then some v else e.get u:=by
 induction e with
 | nil=>simp[Env.put,Env.get]
 | cons x e z =>
  obtain⟨k,w⟩:=x;simp only[Env.put];by_cases h:k=t
  .subst h;simp only[↓reduceIte,Env.get];split<;>simp_all
  .simp only[h,↓reduceIte,Env.get,z];by_cases y:k=u
   .subst y;have:¬ t=k:=λe=>h e.symm
    simp[this]
   .simp[y]
theorem Env.get_del(e:Env)(t u:Nat):(e.del t).get u=if t=u then none else e.get u:=by
 induction e with
 | nil=>simp[Env.del,Env.get]
 | cons x e z =>
  obtain⟨k,w⟩:=x;simp only[Env.del];by_cases h:k=t
  .subst h;simp only[↓reduceIte,z,Env.get];split<;>simp_all
  .simp only[h,↓reduceIte,Env.get,z];by_cases y:k=u
   .subst y;have:¬ t=k:=λe=>h e.symm
    simp[this]
   .simp[y]
theorem aPI(V:List Nat)(e:Env)(u:Nat)(a:A)(h:(e.keep V).get u=some a):e.get u=some a:=by
 induction e with
 | nil=>simp[Env.keep,Env.get]at h
 | cons x e H =>
  obtain⟨k,w⟩:=x;simp only[Env.keep]at h;simp only[Env.get];by_cases G:k=u
  .subst G;simp only[↓reduceIte];split at h
   .simpa [Env.get]using h
   .rename_i O
    have:∀e:Env,(Env.keep V e).get k=none:=by
     intro e
     induction e with
     | nil=>rfl
     | cons y e B =>
      obtain⟨j,z⟩:=y;simp only[Env.keep];split
      .rename_i M;have:¬ j=k:=by rintro rfl;exact O M
       simp[Env.get,this,B]
      .exact B
    rw[this]at h;cases h
  .simp only[G,↓reduceIte];split at h
   .simp only[Env.get,G,↓reduceIte]at h;exact H h
   .exact H h
inductive TK where
 | int (k:IntKind)|bool|string
 | slice (e:TypeId)|array (n:Nat) (e:TypeId)|struct (fs:List (Nat × Nat × Bool))
 | iface|other
 | map (e:TypeId) (kd:Nat)
structure TI where
 k:TK
 sz:Nat
 bytes:Nat
 zero:List A
def TK.agg:TK->Bool
 | .array ..|.struct _=>true
 | _=>false
def zQ:Option TypeDesc->Bool
 | some (.struct _)|some (.array _ _)=>true
 | _=>false
def TK.ok(P:Program)(k:TK)(d:TypeDesc):Prop :=
 match k with
 | .int k=>d=.int k
 | .bool=>d=.bool
 | .string=>d=.string
 | .slice e=>d=.slice e
 | .array n e=>d=.array n e
 | .struct u=>∃h,d=.struct h/\h.size=u.length/\∀(i o s:Nat) (a:Bool),u[i]?=some (o,s,a) ->
   ∃f,h[i]?=some f/\f.offset=o/\(P.info? f.type).map (·.size)=some s/\s≠0/\(P.underlying f.type).isSome=true/\zQ (P.underlying f.type)=a
 | .iface=>∃ms,d=.interface ms
 | .map e kd=>∃kt,d=.map kt e/\KeyTy P kt kd
 | .other=>zQ (some d)=false/\(∀ms,d≠.interface ms)
structure TI.ok (P:Program) (t:TypeId) (ti:TI):Prop where
 info:∃i z,P.info? t=some i/\i.size=ti.sz/\i.bytes=ti.bytes/\i.zero=some z/\(∀g,Rzs g ti.zero z.cells.toList)
 one:∀c,c∈ti.zero->c.one=true
 len:ti.zero.length=ti.sz
 und:∃d,P.underlying t=some d/\ti.k.ok P d
 shp:∀i z,P.info? t=some i->i.zero=some z->(ti.k.agg=true->∃xs,z=.agg xs)/\(ti.k.agg=false->∀xs,z≠.agg xs)
structure Cx extends Ctx where
 tt:TypeId->Option TI
 htt:∀t ti,tt t=some ti->ti.ok P t
 cv:TypeId->TypeId->Option TypeId
 hcv:∀a b e,cv a b=some e->∀(w:World) (k:Nat) (vs:Array Value),w.heap[k]?=some (.cells vs e)->P.cellsOf e<=vs.size ->
  (convert a b (.pointer (some ⟨k,0,none⟩))).run P w=.ok (.pointer (some ⟨k,0,none⟩)) w
 hcs:∀a b e,cv a b=some e->(tt e).map (·.sz)=some (P.cellsOf e)
 cw:TypeId->Option TypeId:=λ_=>none
 hcw:∀a b e' e,cv a b=some e'->cw e=some e'->∀(w:World) (k:Nat) (vs:Array Value),w.heap[k]?=some (.cells vs e)->P.cellsOf e'<=vs.size ->
  (convert a b (.pointer (some ⟨k,0,none⟩))).run P w=.ok (.pointer (some ⟨k,0,none⟩)) w:=by(intro a b e' e _ h;cases h)
 us:TypeId->Option TypeId
 hus:∀t e,us t=some e->P.underlying t=some (.pointer e)/\P.cellsOf e=1
 mu:Nat:=0
 eq:TypeId->A->A->Option Bool
 heq:∀t a b r,eq t a b=some r->∀(g:Gh) (va vb:Value) (w:World) (op:BinOp) (x y:Operand),(op=.eql\/op=.neq)->Rz g a va->Rz g b vb ->
  (eqGuard op t x y va vb).run P w=.ok () w/\(binOp op t va vb).run P w=.ok (.bool (if op=.eql then r else !r)) w
 nl:TypeId->Bool:=λ_=>false
 hnl:∀t,nl t=true->∀(a:Option Addr) (n cap:Nat) (w:World) (op:BinOp) (x y:Operand),(op=.eql\/op=.neq)->∃r:Bool,
  (eqGuard op t x y (.slice a n cap) (.slice none 0 0)).run P w=.ok () w/\(binOp op t (.slice a n cap) (.slice none 0 0)).run P w=.ok (.bool (if op=.eql then r else !r)) w:=by(intro t h;cases h)
def aCn:Value->Option A
 | .int k n=>some (.int k n)
 | .bool b=>some (.bool b)
 | .string s=>some (.str s.data.toList)
 | .pointer none=>some .nilp
 | .slice none 0 0=>some .nils
 | .nilFunc=>some .nilf
 | .map none=>some .nilm
 | .nilIface=>some .nili
 | _=>none
def aA6:List Value->Option (List A)
 | []=>some []
 | v::vs=>match aCn v,aA6 vs with
  | some a,some az=>some (a::az)
  | _,_=>none
def aA5:Value->Option A
 | .agg cs=>(aA6 cs.toList).map .agg
 | .tuple cs=>if cs.size=0 then some (.tuple []) else none
 | v=>aCn v
theorem aKo{g:Gh}{v:Value}{a:A}(h:aCn v=some a):Rz g a v/\a.one=true:=by
 unfold aCn at h;split at h<;>simp at h<;>subst h
 .exact⟨.int _ _,rfl⟩
 .exact⟨.bool _,rfl⟩
 .rename_i s;exact⟨.str s.data.toList,rfl⟩
 .exact⟨.nilp,rfl⟩
 .exact⟨.nils,rfl⟩
 .exact⟨.nilf,rfl⟩
 .exact⟨.nilm,rfl⟩
 .exact⟨.nili,rfl⟩
theorem aKO{g:Gh}:∀{vs:List Value} {az:List A},aA6 vs=some az->Rzs g az vs/\∀c,c∈az->c.one=true
 | [],az,h=>by simp[aA6]at h;subst h;exact⟨.nil g,by simp⟩
 | v::vs,az,h=>by
  simp only[aA6]at h;split at h
  .rename_i a B G has;simp at h;subst h;have y:=aKo (g:=g) G;have z:=aKO (g:=g) has;exact⟨.cons y.1 z.1,by intro c u;cases u with|head=>exact y.2|tail _ u=>exact z.2 c u⟩
  .simp at h
theorem aSp{g:Gh}{v:Value}{a:A}(h:aA5 v=some a):Rz g a v:=by
 unfold aA5 at h;split at h
 .rename_i cs;simp only[kN]at h;obtain⟨az,has,rfl⟩:=h;have:=aKO (g:=g) has;exact .agg az cs.toList this.1.1 this.2 this.1.2
 .rename_i cs;split at h
  .rename_i u;simp at h;subst h;have:cs=#[]:=Array.eq_empty_of_size_eq_zero u;subst this;exact .tuple [] [] rfl aV
  .simp at h
 .exact(aKo h).1
def dN(C:Cx)(e:Env):Operand->Option A
 | .tmp t=>e.get t
 | .const v=>aA5 v
 | .global g=>match C.gl g with
  | some cs=>some (.eptr cs 0)
  | none=>none
 | .func f=>some (.fn f [] [])
def rL(C:Cx)(t:TypeId)(cs:List A)(o:Nat):Option A :=
 match C.tt t with
 | some h=>if h.k.agg=true then(if o+h.sz<=cs.length then some (.agg ((cs.drop o).take h.sz)) else none) else cs[o]?
 | none=>none
def nU:List A->Nat->List A->List A
 | cs,_,[]=>cs
 | cs,o,v::vs=>nU (cs.set o v) (o+1) vs
def iF(l:List A):Bool:=l.all A.one
def eqC:A->A->Option Bool
 | .int j a,.int k b=>if j=k then some (decide (a=b)) else none
 | .str a,.str b=>some (decide (a=b))
 | .bool a,.bool b=>some (a == b)
 | _,_=>none
def aBd(op:BinOp)(k:IntKind)(a b:Int):Option A :=
 match op with
 | .add=>some (.int k (k.wrap (a+b)))
 | .sub=>some (.int k (k.wrap (a-b)))
 | .mul=>some (.int k (k.wrap (a * b)))
 | .eql=>some (.bool (decide (a=b)))
 | .neq=>some (.bool (!decide (a=b)))
 | .lss=>some (.bool (decide (a<b)))
 | .leq=>some (.bool (decide (a<=b)))
 | .gtr=>some (.bool (decide (b<a)))
 | .geq=>some (.bool (decide (b<=a)))
 | .and=>some (.int k (k.wrap ((BitVec.ofInt k.bits a &&& BitVec.ofInt k.bits b).toNat)))
 | .or=>some (.int k (k.wrap ((BitVec.ofInt k.bits a ||| BitVec.ofInt k.bits b).toNat)))
 | .xor=>some (.int k (k.wrap ((BitVec.ofInt k.bits a ^^^ BitVec.ofInt k.bits b).toNat)))
 | .andNot=>some (.int k (k.wrap ((BitVec.ofInt k.bits a &&& ~~~BitVec.ofInt k.bits b).toNat)))
 | .quo=>if b=0 then none else some (.int k (k.wrap (a.tdiv b)))
 | .rem=>if b=0 then none else some (.int k (a.tmod b))
 | _=>none
def aEB(op:BinOp)(k:IntKind)(a b:Int):Option A :=
 if b<0 then none else match op with
 | .shl=>some (.int k (k.wrap (a * 2 ^ (min b.toNat k.bits))))
 | .shr=>some (.int k (a.fdiv (2 ^ (min b.toNat k.bits))))
 | _=>none
def aMH:BinOp->Bool
 | .shl=>true
 | .shr=>true
 | _=>false
def unA:UnOp->A->Option A
 | .not,.bool b=>some (.bool (!b))
 | .neg,.int k n=>some (.int k (k.wrap (0-n)))
 | .xor,.int k n=>some (.int k (k.wrap ((BitVec.ofInt k.bits (if k.signed then -1 else k.max) ^^^ BitVec.ofInt k.bits n).toNat)))
 | _,_=>none
def tW(h:Nat->Option (Nat × Nat)):List A->List (Nat × A)->Option (List A)
 | cells,[]=>some cells
 | cells,(i,v)::rest =>
  match h i with
  | none=>none
  | some (off,u)=>if v.cells.length=u/\off+u<=cells.length/\iF v.cells=true then tW h (nU cells off v.cells) rest else none
def mD(ρ:Operand->Option A):List (Nat × Operand)->Option (List (Nat × A))
 | []=>some []
 | (i,x)::r=>match ρ x,mD ρ r with
  | some a,some l=>some ((i,a)::l)
  | _,_=>none
def lF(ρ:Operand->Option A):List Operand->Option (List A)
 | []=>some []
 | x::r=>match ρ x,lF ρ r with
  | some a,some l=>some (a::l)
  | _,_=>none
def zE:Nat->List (Nat × A)->Option (List A)
 | _,[]=>some []
 | k,(i,a)::r=>if i=k then(zE (k+1) r).map (a::·) else none
section
def vH(C:Cx)(F:Fr)(g:Gh)(KV Kp:St->A->Prop):Ending->World->Prop
 | .returned v,w=>∃h a s,g.le h/\R C.toCtx F h s w/\Rz h a v/\KV s a
 | .panicked mE,w=>∃h a v s,mE=[{ v:=v,recovered:=false }]/\g.le h/\R C.toCtx F h s w/\Rz h a v/\Kp s a
 | .outgrown,_=>False
def OutV(C:Cx)(F:Fr)(g:Gh)(KV Kp:St->A->Prop):Result Next->Prop
 | .ok (.value v) w=>∃h a s,g.le h/\R C.toCtx F h s w/\Rz h a v/\KV s a
 | .ok .skip w=>∃h s,g.le h/\R C.toCtx F h s w/\KV s (.tuple [])
 | .ok (.enter f args) w=>Calls C.P f args w (vH C F g KV Kp)
 | .halt (.panic v) w=>∃h a s,g.le h/\R C.toCtx F h s w/\Rz h a v/\Kp s a
 | _=>False
def Den(C:Cx)(f:FuncId)(args:List A)(KV Kp:St->A->Prop)(s:St):Prop :=
 ∀F g w vals,R C.toCtx F g s w->Rzs g args vals->OutV C F g KV Kp ((callFunc f vals.toArray).run C.P w)
def OutS(C:Cx)(F:Fr)(g:Gh)(s:St)(K:A->Prop):Result Next->Prop
 | .ok (.value v) w=>∃h a,g.les h/\R C.toCtx F h s w/\Rz h a v/\K a
 | _=>False
def aEW(op:BinOp)(x y:A):Option A :=
 match x,y with
 | .int j a,.int k b=>match aMH op with
  | true=>aEB op j a b
  | false=>if j=k then aBd op j a b else none
 | .str a,.str b=>match op with
  | .eql=>some (.bool (decide (a=b)))
  | .neq=>some (.bool (!decide (a=b)))
  | .lss=>some (.bool (Go.Op.bytesLess a b))
  | .geq=>some (.bool (!Go.Op.bytesLess a b))
  | _=>none
 | _,_=>none
def aA7:BinOp->A->A->Bool
 | .eql,.agg _,.agg _|.neq,.agg _,.agg _=>true
 | .eql,.bool _,.bool _|.neq,.bool _,.bool _=>true
 | .eql,.iface _ _,.nili|.neq,.iface _ _,.nili=>true
 | .eql,.nili,.nili|.neq,.nili,.nili=>true
 | .eql,.iface _ _,.iface _ _|.neq,.iface _ _,.iface _ _=>true
 | .eql,.nilp,.nilp|.neq,.nilp,.nilp=>true
 | .eql,.ptr _ _,.nilp|.neq,.ptr _ _,.nilp=>true
 | .eql,.ptr _ _,.ptr _ _|.neq,.ptr _ _,.ptr _ _=>true
 | .eql,.nils,.nils|.neq,.nils,.nils=>true
 | .eql,.list _ _,.nils|.neq,.list _ _,.nils=>true
 | .eql,.ml _ _ _,.nils|.neq,.ml _ _ _,.nils=>true
 | .eql,.emp,.nils|.neq,.emp,.nils=>true
 | .eql,.mg _ _ _,.nils|.neq,.mg _ _ _,.nils=>true
 | _,_,_=>false
def lenS:A->Option A
 | .list _ es=>some (.int .i64 es.length)
 | .nils=>some (.int .i64 0)
 | .ml _ _ n=>some (.int .i64 n)
 | .emp=>some (.int .i64 0)
 | .mg _ n _=>some (.int .i64 n)
 | _=>none
def aCR:Nat->List A->Prop
 | _,[]=>True
 | n,x::r=>(x.cells.length=n/\iF x.cells=true)/\aCR n r
theorem aGU{n:Nat}:∀{l:List A},aCR n l->∀x,x∈l->x.cells.length=n/\∀c,c∈x.cells->c.one=true
 | [],_,x,u=>by cases u
 | y::r,h,x,u=>by
  cases u with
  | head=>exact⟨h.1.1,by have:=h.1.2;simpa [iF]using this⟩
  | tail _ u=>exact aGU h.2 x u
def qA:Option A->Option Int
 | none=>some 0
 | some (.int _ i)=>some i
 | _=>none
def nR(n:Nat):Option A->Option Int
 | none=>some n
 | some (.int _ i)=>some i
 | _=>none
def oO(ρ:Operand->Option A):Option Operand->Option (Option A)
 | none=>some none
 | some x=>match ρ x with
  | some a=>some (some a)
  | none=>none
def sO(x:A)(y u:Option A)(K:A->Prop):Prop :=
 match x with
 | .str s=>match qA y,nR s.length u with
  | some l,some h=>(0<=l/\l<=h/\h<=s.length)/\K (.str ((s.drop l.toNat).take (h.toNat-l.toNat)))
  | _,_=>False
 | .list _ es=>match qA y,nR es.length u with
  | some l,some h=>(0<=l/\l<=h/\h<=es.length)/\K (.list none ((es.drop l.toNat).take (h.toNat-l.toNat)))
  | _,_=>False
 | _=>False
def elK(sz:Nat)(K:A->Prop):Option A->Prop
 | some x=>x.cells.length=sz/\K (.eptr x.cells 0)
 | none=>False
def chK(K:A->Prop):Option UInt8->Prop
 | some c=>K (.int .u8 c.toNat)
 | none=>False
def aNq:Value->Bool
 | .nilIface=>true
 | .int _ _=>false
 | .bool _=>false
 | .string _=>false
 | .pointer _=>false
 | .slice _ _ _=>false
 | .agg _=>false
 | .nilFunc=>false
 | _=>false
def aEw:Operand->Bool
 | .const v=>aNq v
 | .tmp _=>false
 | .global _=>false
 | .func _=>false
def aEK:BinOp->A->Option A
 | .eql,.nili=>some (.bool true)
 | .eql,.iface _ _=>some (.bool false)
 | .neq,.nili=>some (.bool false)
 | .neq,.iface _ _=>some (.bool true)
 | _,_=>none
def aBo:List A->A
 | []=>.emp
 | x::r=>.list none (x::r)
def aBk:List (Nat × Operand)->Bool
 | [x]=>match x.2 with
  | .const v=>match v with
   | .agg _=>true
   | _=>false
  | _=>false
 | _=>false
def hlA:List A->A
 | []=>.emp
 | x::r=>match r with
  | []=>.hl x
  | y::r=>.list none (x::y::r)
def aE6(a b c d:Int):Int :=
 let x:=if a<b then b else a
 let y:=if x<c then c else x
 if y<d then d else y
def bH(C:Cx)(op:Op)(ρ:Operand->Option A)(K:A->Prop):Prop :=
 let one (v:Option A):Prop:=match v with
  | some v=>K v
  | none=>False
 match op with
 | .move x=>one (ρ x)
 | .assign x=>one (ρ x)
 | .pick c a b=>match ρ c with
  | some (.bool true)=>one (ρ a)
  | some (.bool false)=>one (ρ b)
  | _=>False
 | .binOp op t x y _=>match ρ x,ρ y with
  | some a,some b=>match aEw y,aA7 op a b with
   | true,_=>match b,C.tt t with
    | .nili,some B=>match B.k with
     | .iface=>one (aEK op a)
     | _=>False
    | _,_=>False
   | false,d=>match d with
    | true=>match C.eq t a b with
     | some r=>K (.bool (if op=.eql then r else !r))
     | none=>False
    | false=>match op,a,b with
     | .add,.str a,.str b=>a.length+b.length<=maxLen/\K (.str (a++b))
     | op,a,b=>one (aEW op a b)
  | _,_=>False
 | .unOp op _ x=>match ρ x with
  | some a=>one (unA op a)
  | none=>False
 | .nilCheck x=>match ρ x with
  | some (.ptr b o)=>K (.ptr b o)
  | some (.eptr cs o)=>K (.eptr cs o)
  | _=>False
 | .fieldAddr t x f=>match ρ x,C.tt t with
  | some a,some B=>match B.k with
   | .struct O=>match O[f]? with
    | some (off,_,_)=>match a with
     | .ptr b o=>K (.ptr b (o+off))
     | .eptr cs o=>K (.eptr cs (o+off))
     | _=>False
    | none=>False
   | _=>False
  | _,_=>False
 | .field t x f=>match ρ x,C.tt t with
  | some (.agg cs),some B=>match B.k with
   | .struct O=>match O[f]? with
    | some (off,sz,Y)=>if Y=true then(off+sz<=cs.length/\K (.agg ((cs.drop off).take sz))) else one cs[off]?
    | none=>False
   | _=>False
  | _,_=>False
 | .typeAssert x _ t ok=>match ok with
  | true=>match ρ x,C.tt t with
   | some (.iface u v),some B=>match B.k with
    | .struct _=>u=t/\K (.tuple [v,.bool true])
    | _=>False
   | _,_=>False
  | false=>False
 | .extract x i=>match ρ x with
  | some (.tuple vs)=>one vs[i]?
  | _=>False
 | .makeInterface t x=>match ρ x,C.tt t with
  | some a,some B=>match B.k with
   | .iface=>False
   | _=>K (.iface t a)
  | _,_=>False
 | .makeFunc (.func f) first M=>match lF ρ first.toList,lF ρ M.toList with
  | some l,some m=>K (.fn f l m)
  | _,_=>False
 | .convert a b x=>match ρ x,C.tt a,C.tt b with
  | some (.int _ n),some _,some U=>match U.k with
   | .int k=>K (.int k (k.wrap n))
   | _=>False
  | some (.str s),some ta,some U=>match U.k with
   | .string=>K (.str s)
   | .slice e=>match ta.k,C.tt e with
    | .string,some G=>match G.k with
     | .int .u8=>G.sz=1/\s.length<=maxLen/\K (.list none (s.map λc=>.int .u8 c.toNat))
     | _=>False
    | _,_=>False
   | _=>False
  | _,_,_=>False
 | .build t H=>match mD ρ H.toList,C.tt t with
  | some T,some B=>match B.k with
   | .struct O=>one ((tW (λi=>(O[i]?).map λx=>(x.1,x.2.1)) B.zero T).map .agg)
   | _=>False
  | _,_=>False
 | .buildSlice t len H=>match mD ρ H.toList,C.tt t with
  | some T,some B=>match B.k with
   | .slice e=>match C.tt e with
    | some G=>match zE 0 T with
     | some es=>(es.length=len/\(len * G.sz<=16777216/\len<=16777216)/\aCR G.sz es)/\(match aBk H.toList with
      | true=>K (hlA es)
      | false=>K (aBo es))
     | none=>False
    | none=>False
   | _=>False
  | _,_=>False
 | .load t x=>match ρ x with
  | some (.eptr cs o)=>one (rL C t cs o)
  | _=>False
 | .slice t x Z S none=>match ρ x,oO ρ Z,oO ρ S,C.tt t with
  | some a,some l,some h,some B=>match B.k with
   | .string=>match a with
    | .str s=>sO (.str s) l h K
    | _=>False
   | .slice e=>match a,C.tt e with
    | .list tk es,some G=>(∀x,x∈es->x.cells.length=G.sz)/\sO (.list tk es) l h K
    | .nils,some _=>match qA l,nR 0 h with
     | some i,some j=>(i=0/\j=0)/\K .nils
     | _,_=>False
    | .gr t n,some _=>match qA l,nR n h with
     | some i,some j=>(i=0/\j=0)/\K (.list (some t) [])
     | _,_=>False
    | .ml b off n,some G=>match qA l,nR n h with
     | some i,some j=>(0<=i/\i<=j/\j<=n)/\K (if j.toNat-i.toNat=0 then .list none [] else .ml b (off+i.toNat * G.sz) (j.toNat-i.toNat))
     | _,_=>False
    | _,_=>False
   | _=>False
  | _,_,_,_=>False
 | .slice t x none (some S) (some mx)=>match ρ x,ρ S,ρ mx,C.tt t with
  | some a,some (.int _ h),some (.int _ m),some B=>match B.k with
   | .slice e=>match a,C.tt e with
    | .list _ es,some G=>((∀x,x∈es->x.cells.length=G.sz)/\0<=h/\h=m/\h.toNat<=es.length)/\K (.full (es.take h.toNat))
    | .nils,some _=>(h=0/\m=0)/\K .nils
    | _,_=>False
   | _=>False
  | _,_,_,_=>False
 | .indexAddr t x i=>match ρ x,ρ i,C.tt t with
  | some a,some (.int _ i),some B=>match B.k with
   | .slice e=>match a with
    | .list _ es=>match C.tt e with
     | some G=>(0<=i/\i.toNat<es.length)/\elK G.sz K es[i.toNat]?
     | none=>False
    | .ml b off n=>match C.tt e with
     | some G=>(0<=i/\i.toNat<n)/\K (.ptr b (off+i.toNat * G.sz))
     | none=>False
    | .mg b n _=>match C.tt e with
     | some G=>(0<=i/\i.toNat<n)/\K (.ptr b (i.toNat * G.sz))
     | none=>False
    | .pen t es sz=>match C.tt e with
     | some G=>(i=es.length/\sz=G.sz)/\K (.rm t es.length G.sz)
     | none=>False
    | _=>False
   | .array n e=>match a with
    | .eptr cs o=>match C.tt e with
     | some G=>(0<=i/\i<n)/\K (.eptr cs (o+i.toNat * G.sz))
     | none=>False
    | _=>False
   | _=>False
  | _,_,_=>False
 | .index t x i=>match ρ x,ρ i,C.tt t with
  | some (.str s),some (.int _ i),some B=>match B.k with
   | .string=>(0<=i/\i.toNat<s.length)/\chK K s[i.toNat]?
   | _=>False
  | _,_,_=>False
 | .call c=>match c.callee,c.args.toList,c.argTypes.toList with
  | .builtin .len,[x],[t]=>match ρ x,C.tt t with
   | some a,some B=>match B.k with
    | .string=>one (match a with|.str s=>some (.int .i64 s.length)|_=>none)
    | .slice _=>one (lenS a)
    | _=>False
   | _,_=>False
  | .builtin .unsafeSliceData,[x],_=>match ρ x with
   | some (.list tk (y::ys))=>K (.sd tk (y::ys))
   | some .nils=>K .nilp
   | _=>False
  | .builtin .cap,[x],[t]=>match ρ x,C.tt t with
   | some .nils,some B=>match B.k with
    | .slice _=>K (.int .i64 0)
    | _=>False
   | _,_=>False
  | .builtin .max,[x,y],_=>match ρ x,ρ y with
   | some (.int j a),some (.int _ b)=>K (.int j (if a<b then b else a))
   | _,_=>False
  | .builtin .min,[x,y],_=>match ρ x,ρ y with
   | some (.int j a),some (.int _ b)=>K (.int j (if b<a then b else a))
   | _,_=>False
  | .builtin .max,[x,y,z,u],_=>match ρ x,ρ y,ρ z,ρ u with
   | some (.int j a),some (.int _ b),some (.int _ c),some (.int _ d)=>K (.int j (aE6 a b c d))
   | _,_,_,_=>False
  | _,_,_=>False
 | _=>False
section
variable {C:Cx} {F:Fr} {g:Gh} {s:St} {w:World} {K:A->Prop} {ρ:Operand->Option A} {ev:Operand->Value}
theorem Rz.ptr_inv{b o:Nat}{v:Value}(h:Rz g (.ptr b o) v):∃k,v=.pointer (some ⟨k,o,none⟩)/\g.beta b=some k:=by cases h;exact⟨_,rfl,by assumption⟩
theorem Rz.emp_inv{v:Value}(h:Rz g .emp v):∃a,v=.slice (some a) 0 0:=by cases h;exact⟨_,rfl⟩
theorem Rz.sd_inv{tk:Option Nat}{es:List A}{v:Value}(h:Rz g (.sd tk es) v):∃a cap,v=.pointer (some a)/\cap≠0/\Rz g (.list tk es) (.slice (some a) es.length cap):=by
 cases h;exact⟨_,_,rfl,by assumption,by assumption⟩
theorem Rz.gr_inv{t n:Nat}{v:Value}(h:Rz g (.gr t n) v):∃k cap,v=.slice (some ⟨k,0,none⟩) n cap/\g.eta t 0=some (.slice (some ⟨k,0,none⟩) 0 cap)/\n<=cap/\cap<=maxLen:=by
 cases h;exact⟨_,_,rfl,by assumption,by assumption,by assumption⟩
theorem Rz.hl_inv{z:A}{v:Value}(h:Rz g (.hl z) v):∃a cap,v=.slice (some a) 1 cap/\Rz g (.list none [z]) v:=by cases h;exact⟨_,_,rfl,by assumption⟩
theorem Rz.pen_inv{t:Nat}{es:List A}{sz:Nat}{v:Value}(h:Rz g (.pen t es sz) v):∃b cap,v=.slice (some ⟨b,0,none⟩) (es.length+1) cap /\
  Rz g (.list (some t) es) (.slice (some ⟨b,0,none⟩) es.length cap)/\es.length+1<=cap/\∀y,y∈es->y.cells.length=sz:=by cases h;exact⟨_,_,rfl,by assumption,by assumption,by assumption⟩
theorem Rz.rm_inv{t n sz:Nat}{v:Value}(h:Rz g (.rm t n sz) v):∃b cap,v=.pointer (some ⟨b,n * sz,none⟩)/\g.eta t n=some (.slice (some ⟨b,0,none⟩) n cap)/\n+1<=cap:=by
 cases h;exact⟨_,_,rfl,by assumption,by assumption⟩
theorem Rz.ml_inv{b o n:Nat}{v:Value}(h:Rz g (.ml b o n) v):∃k cap,v=.slice (some ⟨k,o,none⟩) n cap/\g.beta b=some k/\n<=cap/\cap<=maxLen:=by
 cases h;exact⟨_,_,rfl,by assumption,by assumption,by assumption⟩
theorem Rz.mg_inv{b n cap:Nat}{v:Value}(h:Rz g (.mg b n cap) v):∃k,v=.slice (some ⟨k,0,none⟩) n cap/\g.beta b=some k/\n<=cap/\cap<=maxLen:=by
 cases h;exact⟨_,rfl,by assumption,by assumption,by assumption⟩
theorem Rz.mp_inv{b:Nat}{v:Value}(h:Rz g (.mp b) v):∃k,v=.map (some k)/\g.beta b=some k:=by cases h;exact⟨_,rfl,by assumption⟩
theorem Rz.nilp_inv{v:Value}(h:Rz g .nilp v):v=.pointer none:=by cases h;rfl
theorem Rz.full_inv{es:List A}{v:Value}(h:Rz g (.full es) v):∃a,v=.slice a es.length es.length/\Rz g (.list none es) v:=by cases h;exact⟨_,rfl,by assumption⟩
theorem Rz.nils_inv{v:Value}(h:Rz g .nils v):v=.slice none 0 0:=by cases h;rfl
theorem Rz.nili_inv{v:Value}(h:Rz g .nili v):v=.nilIface:=by cases h;rfl
theorem Rz.iface_inv{t:TypeId}{a:A}{v:Value}(h:Rz g (.iface t a) v):∃u,v=.iface t u/\Rz g a u:=by cases h;exact⟨_,rfl,by assumption⟩
theorem Rz.agg_inv{cs:List A}{v:Value}(h:Rz g (.agg cs) v):∃vs:List Value,v=.agg vs.toArray/\Rzs g cs vs/\∀c,c∈cs->c.one=true:=by
 cases h with|agg cs vs hl u h=>exact⟨vs,rfl,⟨hl,h⟩,u⟩
theorem Rz.tuple_inv{cs:List A}{v:Value}(h:Rz g (.tuple cs) v):∃vs:List Value,v=.tuple vs.toArray/\Rzs g cs vs:=by
 cases h with|tuple cs vs hl h=>exact⟨vs,rfl,⟨hl,h⟩⟩
theorem Rz.fn_inv{f:FuncId}{u cs:List A}{v:Value}(h:Rz g (.fn f u cs) v):∃us vs:List Value,v=.func (.func f) us.toArray vs.toArray/\Rzs g u us/\Rzs g cs vs:=by
 cases h with|fn f u cs us vs z y G B=>exact⟨us,vs,rfl,⟨z,G⟩,⟨y,B⟩⟩
theorem Rz.eptr_inv{cs:List A}{o:Nat}{v:Value}(h:Rz g (.eptr cs o) v):∃b off pre,v=.pointer (some ⟨b,off+o,none⟩)/\g.pi b=some pre/\off+cs.length<=pre.length /\
  (∀c,c∈cs->c.one=true)/\∀(j:Nat) (c:A) (v:Value),cs[j]?=some c->pre[off+j]?=some v->Rz g c v:=by
 cases h with|eptr cs o b off pre y hl u h=>exact⟨b,off,pre,rfl,y,hl,u,h⟩
theorem OutS.val{v:Value}{a:A}(u:R C.toCtx F g s w)(y:Rz g a v)(h:K a):OutS C F g s K (.ok (.value v) w) :=
 ⟨g,a,Gh.les.refl g,u,y,h⟩
theorem aDS(u:∀x a,ρ x=some a->Rz g a (ev x)):∀{l:List Operand} {az:List A},lF ρ l=some az->Rzs g az (l.map ev)
 | [],az,h=>by simp[lF]at h;subst h;exact .nil g
 | x::r,az,h=>by
  simp only[lF]at h;split at h
  .rename_i a l y hl;simp at h;subst h;exact .cons (u x a y) (aDS u hl)
  .simp at h
theorem aDM(u:∀x a,ρ x=some a->Rz g a (ev x)):∀{l:List (Nat × Operand)} {az:List (Nat × A)},mD ρ l=some az ->
  (l.map λx=>x.1)=az.map (λx=>x.1)/\Rzs g (az.map λx=>x.2) (l.map λx=>ev x.2)
 | [],az,h=>by simp[mD]at h;subst h;exact⟨rfl,.nil g⟩
 | (i,x)::r,az,h=>by
  simp only[mD]at h;split at h
  .rename_i a l y hl;simp at h;subst h;have:=aDM u hl;exact⟨by simp[this.1],.cons (u x a y) this.2⟩
  .simp at h
theorem gF{t:TypeId}{u:TI}(h:C.tt t=some u):∃d,C.P.underlying t=some d/\u.k.ok C.P d:=(C.htt t u h).und
theorem aBa{t:TypeId}{B:TI}(h:C.tt t=some B)(w:World):(isAgg t).run C.P w=.ok B.k.agg w:=by
 obtain⟨d,hd,u⟩:=gF h;simp only[isAgg,bG,cS hd,bJ];cases z:B.k<;>rw[z]at u<;>simp only[TK.ok]at u<;>(try subst u)<;>(try rfl)
 .obtain⟨y,rfl,_⟩:=u;rfl
 .obtain⟨ms,rfl⟩:=u;rfl
 .cases d<;>simp_all [zQ,TK.agg]
 .obtain⟨kt,rfl,_⟩:=u;rfl
theorem lD{t:TypeId}{u:TI}(h:C.tt t=some u)(w:World):(sizeOf t).run C.P w=.ok u.sz w:=by
 obtain⟨i,z,y,B,_⟩:=(C.htt t u h).info;simp[sizeOf,typeInfo,y,B]
theorem xL{t:TypeId}{u:TI}(h:C.tt t=some u):C.toCtx.sz t=u.sz:=by
 obtain⟨i,z,y,B,_⟩:=(C.htt t u h).info;simp[Ctx.sz,y,B]
theorem aCz{t:TypeId}{u:TI}(h:C.tt t=some u)(w:World):∃z,(zeroValue t).run C.P w=.ok z w/\∀g,Rzs g u.zero z.cells.toList:=by
 obtain⟨i,z,y,H,G,hz,B⟩:=(C.htt t u h).info;exact⟨z,by simp[zeroValue,typeInfo,y,hz],B⟩
end
end
section
section
variable {C:Cx} {F:Fr} {g:Gh} {s:St} {w:World} {K:A->Prop} {ρ:Operand->Option A} {ev:Operand->Value}
theorem uR(x:Sem Value)(P:Program)(w:World):((do let v <-x;pure (Next.value v)):Sem Next).run P w=(x.run P w).andThen λv w'=>.ok (.value v) w':=by
 simp
theorem dS{x:Sem Value}{v:Value}{a:A}(u:R C.toCtx F g s w)(z:x.run C.P w=.ok v w)(y:Rz g a v)(h:K a) :
  OutS C F g s K (((do let v <-x;pure (Next.value v)):Sem Next).run C.P w):=by
 rw[uR,z];exact OutS.val u y h
theorem aTt{op:BinOp}{k:IntKind}{x y:Int}{a:A}(h:aBd op k x y=some a)(t:TypeId) :
  ∃v,(binOp op t (.int k x) (.int k y))=pure v/\∀g,Rz g a v:=by
 cases op
 case quo =>
  simp only[aBd]at h;split at h
  .cases h
  .rename_i u;simp only[bM]at h;subst h;simp only[binOp,Op.intDiv,mT,not_true_eq_false,↓reduceIte,u];exact⟨_,rfl,λg=>.int _ _⟩
 case rem =>
  simp only[aBd]at h;split at h
  .cases h
  .rename_i u;simp only[bM]at h;subst h;simp only[binOp,Op.intDiv,mT,not_true_eq_false,↓reduceIte,u];exact⟨_,rfl,λg=>.int _ _⟩
 all_goals
  simp only[aBd,bM,reduceCtorEq]at h
 all_goals
  subst h;simp only[binOp,Op.intArith,Op.intCmp,Op.intBits,mT,not_true_eq_false,↓reduceIte]
  first
   | exact⟨_,rfl,λg=>.int _ _⟩
   | exact⟨_,rfl,λg=>.bool _⟩
   | (refine⟨_,rfl,λg=>?_⟩;simp only[bne,beq_eq_decide];exact .bool _)
theorem aS6{op:BinOp}{k j:IntKind}{x y:Int}{a:A}(h:aEB op k x y=some a)(t:TypeId) :
  ∃v,(binOp op t (.int k x) (.int j y))=pure v/\∀g,Rz g a v:=by
 unfold aEB at h;split at h
 .cases h
 .rename_i u;cases op<;>simp only[bM,reduceCtorEq]at h
  all_goals
   subst h;simp only[binOp,Op.shift,u,dY];exact⟨_,rfl,λg=>.int _ _⟩
theorem aJQ(op:BinOp)(t:TypeId)(x y:Operand)(k j:IntKind)(a b:Int):eqGuard op t x y (.int k a) (.int j b)=pure ():=by
 unfold eqGuard;cases op<;>rfl
theorem aBU(op:BinOp)(t:TypeId)(x y:Operand)(a b:ByteArray):eqGuard op t x y (.string a) (.string b)=pure ():=by
 unfold eqGuard;cases op<;>rfl
section
variable {P:Program} {t:TypeId} {ms:_} (hd:P.underlying t=some (.interface ms)) (x:Operand) (w:World)
include hd
theorem aQ6(d:Nat):(Op.equalIn (d+1) t .nilIface .nilIface).run P w=.ok true w:=by
 simp only[Op.equalIn,bG,cS hd,bJ,bV]
theorem aQ5(d:Nat)(u:TypeId)(v:Value):(Op.equalIn (d+1) t (.iface u v) .nilIface).run P w=.ok false w:=by
 simp only[Op.equalIn,bG,cS hd,bJ,bV]
theorem aNw(op:BinOp)(z:op=.eql\/op=.neq) :
  ((do eqGuard op t x (.const .nilIface) .nilIface .nilIface;binOp op t .nilIface .nilIface:Sem Value)).run P w=.ok (.bool (op == .eql)) w:=by
 have h:=aQ6 hd w 9999;rcases z with rfl|rfl
 .have y:(eqGuard .eql t x (.const .nilIface) .nilIface .nilIface).run P w=.ok () w:=by cases x<;>rfl
  have u:(binOp .eql t .nilIface .nilIface).run P w=.ok (.bool true) w:=by
   simp only[binOp,Op.equal,Op.maxDepth,bG,h,bJ,bV]
  rw[bG,y,bJ,u];rfl
 .have y:(eqGuard .neq t x (.const .nilIface) .nilIface .nilIface).run P w=.ok () w:=by cases x<;>rfl
  have u:(binOp .neq t .nilIface .nilIface).run P w=.ok (.bool false) w:=by
   simp only[binOp,Op.equal,Op.maxDepth,bG,h,bJ,bV,eO]
  rw[bG,y,bJ,u];rfl
theorem gE1(op:BinOp)(B:op=.eql\/op=.neq)(u:TypeId)(v:Value) :
  ((do eqGuard op t x (.const .nilIface) (.iface u v) .nilIface;binOp op t (.iface u v) .nilIface:Sem Value)).run P w=.ok (.bool (op == .neq)) w:=by
 have h:=aQ5 hd w 9999 u v;rcases B with rfl|rfl
 .have z:(eqGuard .eql t x (.const .nilIface) (.iface u v) .nilIface).run P w=.ok () w:=rfl
  have y:(binOp .eql t (.iface u v) .nilIface).run P w=.ok (.bool false) w:=by
   simp only[binOp,Op.equal,Op.maxDepth,bG,h,bJ,bV]
  rw[bG,z,bJ,y];rfl
 .have z:(eqGuard .neq t x (.const .nilIface) (.iface u v) .nilIface).run P w=.ok () w:=rfl
  have y:(binOp .neq t (.iface u v) .nilIface).run P w=.ok (.bool true) w:=by
   simp only[binOp,Op.equal,Op.maxDepth,bG,h,bJ,bV,fN]
  rw[bG,z,bJ,y];rfl
end
theorem aUL{op:BinOp}{t yt ty:TypeId}{x y:Operand}{dst:Option Tmp}{pos:String}{after:Array Edge}{gd:Option (Nat × Bool)}
  (B:R C.toCtx F g s w)(he:∀x a,ρ x=some a->Rz g a (ev x))(h:bH C (.binOp op t x y yt) ρ K) :
  OutS C F g s K ((execOp ev ⟨dst,.binOp op t x y yt,ty,pos,after,gd⟩).run C.P w):=by
 simp only[bH]at h;split at h
 .rename_i a b ha hb;have G:=he x a ha;have H:=he y b hb;simp only[execOp];split at h
  .rename_i hn;split at h
   .rename_i ti Y;split at h
    .rename_i T;obtain⟨d,hd,M⟩:=gF Y;rw[T]at M;obtain⟨ms,rfl⟩:=M
     have hy:y=.const .nilIface:=by
      cases y with
      | const v=>cases v<;>first|rfl|cases hn
      | _=>cases hn
     subst hy;cases a<;>cases op<;>simp only[aEK]at h
     .obtain⟨u,z,_⟩:=G.iface_inv;rw[z,H.nili_inv];refine dS (v:=.bool false) B ?_ (.bool _) h;exact gE1 hd _ w .eql (.inl rfl) _ _
     .obtain⟨u,z,_⟩:=G.iface_inv;rw[z,H.nili_inv];refine dS (v:=.bool true) B ?_ (.bool _) h;exact gE1 hd _ w .neq (.inr rfl) _ _
     .rw[G.nili_inv,H.nili_inv];refine dS (v:=.bool true) B ?_ (.bool _) h;exact aNw hd _ w .eql (.inl rfl)
     .rw[G.nili_inv,H.nili_inv];refine dS (v:=.bool false) B ?_ (.bool _) h;exact aNw hd _ w .neq (.inr rfl)
    .exact h.elim
   .exact h.elim
  split at h
  .rename_i hd;split at h
   .rename_i r O
    have U:op=.eql\/op=.neq:=by
     cases op<;>simp_all [aA7]
    obtain⟨h1,h2⟩:=C.heq t a b r O g _ _ w op x y U G H;refine dS (v:=.bool (if op=.eql then r else !r)) B ?_ (.bool _) h;simp only[bG,h1,bJ,h2]
   .exact h.elim
  .split at h
   .obtain⟨hl,T⟩:=h;rw[G.str_inv,H.str_inv];refine dS B ?_ (.str _) T;simp only[aBU,pure_bind];have e1:∀l:List UInt8,(ByteArray.mk l.toArray).size=l.length:=λl=>by simp[ByteArray.size]
    simp only[binOp,Op.stringOp,e1];rw[aE (by unfold maxLen at hl;simp[IntKind.max,IntKind.signed,IntKind.bits];omega)];simp only[bV];congr 2
   .split at h
    .rename_i v z;simp only[aEW]at z;split at z
     .split at z
      .rename_i j1 a1 k1 b1 _ _ _ _;rw[G.int_inv,H.int_inv];obtain⟨u,Z,O⟩:=aS6 (j:=k1) z t;refine dS B ?_ (O g) h;simp only[aJQ,pure_bind,Z,bV]
      .split at z
       .rename_i S;subst S;rw[G.int_inv,H.int_inv];obtain⟨u,Z,O⟩:=aTt z t;refine dS B ?_ (O g) h;simp only[aJQ,pure_bind,Z,bV]
       .simp at z
     .rw[G.str_inv,H.str_inv];split at z
      .simp only[bM]at z;subst z;refine dS B ?_ (.bool _) h;simp only[aBU,pure_bind,binOp,Op.stringOp,ByteArray.toList_mk,bV];congr 2;rw[fG];simp
      .simp only[bM]at z;subst z;refine dS B ?_ (.bool _) h;simp only[aBU,pure_bind,binOp,Op.stringOp,ByteArray.toList_mk,bV];congr 2;rw[fG];simp
      .simp only[bM]at z;subst z;refine dS B ?_ (.bool _) h;simp only[aBU,pure_bind,binOp,Op.stringOp,ByteArray.toList_mk,bV]
      .simp only[bM]at z;subst z;refine dS B ?_ (.bool _) h;simp only[aBU,pure_bind,binOp,Op.stringOp,ByteArray.toList_mk,bV]
      .simp at z
     .simp at z
    .exact h.elim
 .exact h.elim
theorem aRO{t:TypeId}{cs:List A}{o:Nat}{a:A}{v:Value}(hR:R C.toCtx F g s w)(hl:rL C t cs o=some a)(M:Rz g (.eptr cs o) v) :
  ∃u,(Instr.loadAt t v).run C.P w=.ok u w/\Rz g a u:=by
 obtain⟨b,off,pre,rfl,hp,Y,h1,Z⟩:=M.eptr_inv;obtain⟨rest,e,fr,hh⟩:=hR.pis b pre hp
 have cell:∀k,k<pre.length->w.cell? ⟨b,k,none⟩=pre[k]?:=by
  intro k S;simp only[World.cell?,hh,lB,cV,↓reduceIte,lK];rw[jT S]
 simp only[rL]at hl;split at hl
 .rename_i U G;split at hl
  .rename_i B;split at hl
   .rename_i b0;simp only[bM]at hl;subst hl
    have y:∀j v,((pre.drop (off+o)).take U.sz)[j]?=some v->w.cell? ((⟨b,off+o,none⟩:Addr).add j)=some v:=by
     intro j v H;rw[mO]at H;split at H
     .rename_i T;rw[nD]at H;have:(⟨b,off+o,none⟩:Addr).add j=⟨b,off+o+j,none⟩:=by unfold Addr.add;split<;>simp_all
      rw[this,cell _ (cX.1 H).1];exact H
     .simp at H
    have h:((pre.drop (off+o)).take U.sz).length=U.sz:=by rw[dG,eR];omega
    have z:=run_loadCells_list (P:=C.P) w ⟨b,off+o,none⟩ _ y;rw[h]at z;refine⟨_,by simp only[Instr.loadAt,Instr.sureAddr,loadVar,bG,bV,bJ,aBa G,B,↓reduceIte,lD G,z];rfl,?_⟩;refine .agg _ _ ?_ ?_ ?_
    .rw[h,dG,eR];omega
    .intro c y;exact h1 c (uI (qC y))
    .intro j c v y M;rw[mO]at y M;split at y
     .rename_i T;rw[aF T]at M;rw[nD]at y M;exact Z (o+j) c v y (by rw[<-nS];exact M)
     .simp at y
   .simp at hl
  .rename_i B;have ho:o<cs.length:=(cX.1 hl).1;have S:off+o<pre.length:=by omega
   refine⟨pre[off+o],?_,Z o a _ hl (cO S)⟩;have O:U.k.agg=false:=gQ B;simp only[Instr.loadAt,Instr.sureAddr,loadVar,bG,bV,bJ,aBa G,O,cV,↓reduceIte,run_load,cell _ S,cO S]
 .simp at hl
theorem aBQ{Z O:Option A}{l h:Int}{n cap:Nat}{b:Bool}{H G:Option Value}
  (hl:qA Z=some l)(z:nR n O=some h)(M:0<=l)(B:l<=h)(h2:h<=n)(hn:n<=cap)
  (r1:∀a,Z=some a->∃v,H=some v/\Rz g a v)(b0:Z=none->H=none)
  (r2:∀a,O=some a->∃v,G=some v/\Rz g a v)(U:O=none->G=none) :
  (Instr.sliceBounds b n cap H G none).run C.P w=.ok (l.toNat,h.toNat,cap) w:=by
 have Y:∀(k:IntKind) (i:Int) (y:Nat) (u:BoundsCode),0<=i->i<=y->(Instr.sliceBound (.int k i) y u).run C.P w=.ok i.toNat w :=
  λk i y u M B=>by simp[Instr.sliceBound,asIntOf,M,B]
 have key:∀(y:Nat),y=h.toNat->(y:Int)=h:=by intro y hy;have:=Int.le_trans M B;omega
 cases Z with
 | none =>
  simp only[qA,bM]at hl;subst hl;rw[b0 rfl];cases O with
  | none =>
   simp only[nR,bM]at z;subst z;rw[U rfl];simp[Instr.sliceBounds]
  | some a =>
   obtain⟨v,T,S⟩:=r2 a rfl;cases a<;>simp only[nR,bM,reduceCtorEq]at z
   subst z;rw[T,S.int_inv];have g2:(_:Int)<=(cap:Int):=Int.le_trans h2 aB;cases b<;>simp[Instr.sliceBounds,Y,B,g2]
 | some a =>
  obtain⟨v,T,S⟩:=r1 a rfl;cases a<;>simp only[qA,bM,reduceCtorEq]at hl
  subst hl;rw[T,S.int_inv];cases O with
  | none =>
   simp only[nR,bM]at z;subst z;rw[U rfl];simp[Instr.sliceBounds,Y,M,B]
  | some a =>
   obtain⟨v,T,S⟩:=r2 a rfl;cases a<;>simp only[nR,bM,reduceCtorEq]at z
   subst z;rw[T,S.int_inv];have g2:(_:Int)<=(cap:Int):=Int.le_trans h2 aB;have g1:=Int.le_trans M B;have e:=key _ rfl;have g3:=B;rw[<-e]at g3;cases b<;>simp only[Instr.sliceBounds,Y _ _ _ _ g1 g2,Y _ _ _ _ M g3,bG,bV,bJ,cV,↓reduceIte]
theorem aMS(y:∀x a,ρ x=some a->Rz g a (ev x)){o:Option Operand}{r:Option A}(h:oO ρ o=some r) :
  (∀a,r=some a->∃v,o.map ev=some v/\Rz g a v)/\(r=none->o.map ev=none):=by
 cases o with
 | none=>simp only[oO,bM]at h;subst h;simp
 | some x =>
  simp only[oO]at h;split at h
  .rename_i a u;simp only[bM]at h;subst h;exact⟨λz e=>by cases e;exact⟨_,rfl,y x a u⟩,by simp⟩
  .simp at h
end
end
section
section
variable {C:Cx} {F:Fr} {g:Gh} {s:St} {w:World} {K:A->Prop} {ρ:Operand->Option A} {ev:Operand->Value}
theorem aDP{t:TypeId}{B:TI}{z:List (Nat × Nat × Bool)}(h:C.tt t=some B)(H:B.k=.struct z) :
  ∃u,C.P.underlying t=some (.struct u)/\u.size=z.length/\∀(i o s:Nat) (a:Bool),z[i]?=some (o,s,a) ->
   ∃f,u[i]?=some f/\f.offset=o/\(C.P.info? f.type).map (·.size)=some s/\s≠0/\(C.P.underlying f.type).isSome=true/\zQ (C.P.underlying f.type)=a:=by
 obtain⟨d,hd,y⟩:=gF h;rw[H]at y;obtain⟨u,rfl,M,G⟩:=y;exact⟨u,hd,M,G⟩
theorem aGF{t:TypeId}{n:Nat}(h:(C.P.info? t).map (·.size)=some n)(w:World):(sizeOf t).run C.P w=.ok n w:=by
 simp only[kN]at h;obtain⟨i,u,y⟩:=h;simp[sizeOf,typeInfo,u,y]
theorem aLj{t:TypeId}(h:(C.P.underlying t).isSome=true)(w:World):(isAgg t).run C.P w=.ok (zQ (C.P.underlying t)) w:=by
 obtain⟨d,hd⟩:=Option.isSome_iff_exists.1 h;simp only[isAgg,bG,cS hd,bJ,hd];cases d<;>rfl
theorem kT(b o n:Nat):(⟨b,o,none⟩:Addr).add n=⟨b,o+n,none⟩:=by unfold Addr.add;split<;>simp_all
theorem aI0{a:Addr}{f:Field}{n:Nat}(h:(C.P.info? f.type).map (·.size)=some n)(u:n≠0)(w:World) :
  (fieldPlace a f).run C.P w=.ok (a.add f.offset) w:=by
 simp[fieldPlace,aGF h,u]
theorem aQq{t ty:TypeId}{x:Operand}{f:Nat}{dst:Option Tmp}{pos:String}{after:Array Edge}{gd:Option (Nat × Bool)}
  (T:R C.toCtx F g s w)(Y:∀x a,ρ x=some a->Rz g a (ev x))(h:bH C (.fieldAddr t x f) ρ K) :
  OutS C F g s K ((execOp ev ⟨dst,.fieldAddr t x f,ty,pos,after,gd⟩).run C.P w):=by
 simp only[bH]at h;split at h
 .rename_i a ti U G;split at h
  .rename_i fs hk;split at h
   .rename_i off sz ag hf;obtain⟨z,Z,_,B⟩:=aDP G hk;obtain⟨fl,H,M,O,S,_,_⟩:=B f off sz ag hf;simp only[execOp];split at h
    .rename_i b o;obtain⟨k,this,hb⟩:=(Y x _ U).ptr_inv;refine dS (v:=.pointer (some ⟨k,o+off,none⟩)) T ?_ (.ptr b (o+off) k hb) h;simp[Instr.fieldAt,cS Z,H,Instr.sureAddr,this,aI0 O S,M,kT]
    .rename_i cs o;obtain⟨b,y,pre,hv,hp,hl,u,hr⟩:=(Y x _ U).eptr_inv;refine dS (v:=.pointer (some ⟨b,y+(o+off),none⟩)) T ?_ (.eptr cs (o+off) b y pre hp hl u hr) h;simp[Instr.fieldAt,cS Z,H,Instr.sureAddr,hv,aI0 O S,M,kT,nS]
    .exact h.elim
   .exact h.elim
  .exact h.elim
 .exact h.elim
theorem aU0{t ty:TypeId}{x:Operand}{f:Nat}{dst:Option Tmp}{pos:String}{after:Array Edge}{gd:Option (Nat × Bool)}
  (hR:R C.toCtx F g s w)(he:∀x a,ρ x=some a->Rz g a (ev x))(h:bH C (.field t x f) ρ K) :
  OutS C F g s K ((execOp ev ⟨dst,.field t x f,ty,pos,after,gd⟩).run C.P w):=by
 simp only[bH]at h;split at h
 .rename_i cs ti ha O;split at h
  .rename_i fs hk;split at h
   .rename_i off sz T hf;obtain⟨G,hu,_,M⟩:=aDP O hk;obtain⟨fl,U,Y,h3,h4,Z,h6⟩:=M f off sz T hf;obtain⟨vs,hv,B,z⟩:=(he x _ ha).agg_inv;simp only[execOp];split at h
    .rename_i u;obtain⟨hl,hK⟩:=h;refine dS (v:=.agg ((vs.drop off).take sz).toArray) hR ?_ ?_ hK
     .simp only[Instr.field,bG,cS hu,bJ,U,hv,asAgg,bV,part,aLj Z,h6,u,↓reduceIte,aGF h3,Y];congr 2;simp[List.extract_toArray,List.take_drop,Nat.add_comm]
     .have:=(B.drop off).take sz;exact .agg _ _ this.1 (λc H=>z c (uI (qC H))) this.2
    .rename_i u;split at h
     .rename_i a H;obtain⟨v,S,hr⟩:=B.get H;refine dS (v:=v) hR ?_ hr h;have y:T=false:=gQ u;simp only[Instr.field,bG,cS hu,bJ,U,hv,asAgg,bV,part,aLj Z,h6,y,cV,↓reduceIte,Y];rw[lK,S];rfl
     .exact h.elim
   .exact h.elim
  .exact h.elim
 .exact h.elim
theorem aUs{t ty:TypeId}{x G mx:Operand}{dst:Option Tmp}{pos:String}{after:Array Edge}{gd:Option (Nat × Bool)}
  (hR:R C.toCtx F g s w)(U:∀x a,ρ x=some a->Rz g a (ev x))(h:bH C (.slice t x none (some G) (some mx)) ρ K) :
  OutS C F g s K ((execOp ev ⟨dst,.slice t x none (some G) (some mx),ty,pos,after,gd⟩).run C.P w):=by
 simp only[bH]at h;split at h;rotate_left
 .exact h.elim
 rename_i a k1 u k2 m ti ha hh hm b0;obtain⟨d,hd,M⟩:=gF b0;have eh:=(U G _ hh).int_inv;have em:=(U mx _ hm).int_inv;split at h;rotate_left
 .exact h.elim
 rename_i el hk;rw[hk]at M;simp only[TK.ok]at M;subst M;split at h
 .rename_i tk es Y O;obtain⟨⟨b5,c0,rfl,c2⟩,hK⟩:=h;obtain⟨S,cap,T,b4,b1,_,H⟩:=(U x _ ha).list_inv
  have hb:∀(k:IntKind) (y:Nat) (B:BoundsCode),u<=(y:Int)->(Instr.sliceBound (.int k u) y B).run C.P w=.ok u.toNat w :=
   λk y B h1=>by simp[Instr.sliceBound,asIntOf,c0,h1]
  refine dS (v:=.slice (if u.toNat=0 then S else S.map (·.add (0 * Y.sz))) (u.toNat-0) (u.toNat-0)) hR ?_ ?_ hK
  .simp only[execOp,Instr.sliceAt,bG,cS hd,bJ,Instr.slice,T,gS,Option.map_none,eh,em,Instr.sliceBounds,bV,hb k2 cap _ aB,hb k1 u.toNat _ aB,lD O]
  .have z:(es.take u.toNat).length=u.toNat:=by rw[dG];omega
   have key:Rz g (.list none (es.take u.toNat)) (.slice (if u.toNat=0 then S else S.map (·.add (0 * Y.sz))) (u.toNat-0) (u.toNat-0)):=by
    by_cases hz:u.toNat=0
    .rw[hz,iD];exact .list0 none _ _ (aN _) aV
    .rcases H with rfl|⟨b,off,sz,pre,rfl,hp,b3,hs,Z,hr⟩
     .simp at c2;omega
     .rw[aE hz];simp only[gS,kT,Nat.zero_mul,jA,Nat.sub_zero];have b2:u.toNat * sz<=es.length * sz:=qD _ c2
      have:=Rz.list (g:=g) none (es.take u.toNat) b off sz u.toNat pre hp (by rw[z];omega) (by rw[z];exact bF _) aB
       (λe hx=>hs e (qC hx)) (λe hx=>Z e (qC hx))
       (fun i e j c v G hj T => by
        rw[mO]at G;split at G
        .exact hr _ e j c v G hj T
        .simp at G) aV
      rw[z]at this;exact this
   rw[Nat.sub_zero]at key⊢;have:=Rz.full (g:=g) (es.take u.toNat) (if u.toNat=0 then S else S.map (·.add (0 * Y.sz))) (by rw[z];exact key);rw[z]at this;exact this
 .rename_i Y O;obtain⟨⟨rfl,rfl⟩,hK⟩:=h;have T:=(U x _ ha).nils_inv;refine dS (v:=.slice none 0 0) hR ?_ .nils hK;simp only[execOp,Instr.sliceAt,bG,cS hd,bJ,Instr.slice,T,gS,Option.map_none,eh,em,Instr.sliceBounds,bV,lD O];simp[Instr.sliceBound,asIntOf]
 .exact h.elim
theorem aVI{t ty:TypeId}{x:Operand}{lo S mx:Option Operand}{dst:Option Tmp}{pos:String}{after:Array Edge}{gd:Option (Nat × Bool)}
  (hR:R C.toCtx F g s w)(U:∀x a,ρ x=some a->Rz g a (ev x))(h:bH C (.slice t x lo S mx) ρ K) :
  OutS C F g s K ((execOp ev ⟨dst,.slice t x lo S mx,ty,pos,after,gd⟩).run C.P w):=by
 cases mx with
 | some mx =>
  cases lo with
  | some lo=>simp only[bH]at h
  | none=>cases S with
   | none=>simp only[bH]at h
   | some S=>exact aUs hR U h
 | none =>
 simp only[bH]at h;split at h
 .rename_i a l h' ti ha b5 b4 b8;obtain⟨d,hd,H⟩:=gF b8;obtain⟨l1,l2⟩:=aMS U b5;obtain⟨h1,h2⟩:=aMS U b4;split at h
  .rename_i hk;rw[hk]at H;simp only[TK.ok]at H;subst H;split at h
   .rename_i str;simp only[sO]at h;split at h
    .rename_i u y B z;obtain⟨⟨c0,c1,c2⟩,T⟩:=h;have O:=(U x _ ha).str_inv;have e1:(ByteArray.mk str.toArray).size=str.length:=by simp[ByteArray.size]
     refine dS (v:=.string ((ByteArray.mk str.toArray).extract u.toNat y.toNat)) hR ?_ ?_ T
     .simp only[execOp,Instr.sliceAt,bG,cS hd,bJ,Instr.slice,O,Option.map_none,lB,cV,↓reduceIte,e1];rw[aBQ (C:=C) (w:=w) (g:=g) B z c0 c1 c2 (bF _) l1 l2 h1 h2];rfl
     .have:(ByteArray.mk str.toArray).extract u.toNat y.toNat=⟨((str.drop u.toNat).take (y.toNat-u.toNat)).toArray⟩:=by
       apply ByteArray.ext;apply Array.ext';rw[Lib.extract_data]
      rw[this];exact .str _
    .exact h.elim
   .exact h.elim
  .rename_i el hk;rw[hk]at H;simp only[TK.ok]at H;subst H;split at h
   .rename_i tk es Y G;obtain⟨b7,h⟩:=h;simp only[sO]at h;split at h
    .rename_i u y B z;obtain⟨⟨c0,c1,c2⟩,T⟩:=h;obtain⟨ad,cap,O,hm,b0,_,Z⟩:=(U x _ ha).list_inv;refine dS (v:=.slice (if cap=u.toNat then ad else ad.map (·.add (u.toNat * Y.sz))) (y.toNat-u.toNat) (cap-u.toNat)) hR ?_ ?_ T
     .simp only[execOp,Instr.sliceAt,bG,cS hd,bJ,Instr.slice,O,Option.map_none];rw[aBQ (C:=C) (w:=w) (g:=g) B z c0 c1 c2 b0 l1 l2 h1 h2];simp only[bJ,lD G,bV]
     .have M:((es.drop u.toNat).take (y.toNat-u.toNat)).length=y.toNat-u.toNat:=by
       rw[dG,eR];omega
      by_cases hz:y.toNat-u.toNat=0
      .rw[hz,iD];exact .list0 none _ _ aB aV
      .rcases Z with rfl|⟨b,off,sz,pre,rfl,hp,bb,hs,b3,hr⟩
       .simp at c2;omega
       .have b6:¬ cap=u.toNat:=by omega
        have b1:0<es.length:=by omega
        have b2:Y.sz=sz:=by
         have hx:=iX b1;rw[<-b7 _ hx,hs _ hx]
        rw[aE b6,b2];simp only[gS,kT]
        have b9:u.toNat * sz+(y.toNat-u.toNat) * sz<=es.length * sz:=by
         rw[<-fO];exact qD _ aB
        have:=Rz.list (g:=g) none ((es.drop u.toNat).take (y.toNat-u.toNat)) b (off+u.toNat * sz) sz (cap-u.toNat) pre hp (by rw[M];omega) (by rw[M];omega) aB
         (λe hx=>hs e (uI (qC hx))) (λe hx=>b3 e (uI (qC hx)))
         (fun i e j c v S hj O => by
          rw[mO]at S;split at S
          .rw[nD]at S;refine hr _ e j c v S hj ?_;rw[fO,<-nS];exact O
          .simp at S) aV
        rw[M]at this;exact this
    .exact h.elim
   .rename_i Y G;split at h
    .rename_i u y B z;obtain⟨⟨rfl,rfl⟩,T⟩:=h;have O:=(U x _ ha).nils_inv;refine dS (v:=.slice none 0 0) hR ?_ .nils T;simp only[execOp,Instr.sliceAt,bG,cS hd,bJ,Instr.slice,O,Option.map_none];rw[aBQ (C:=C) (w:=w) (g:=g) (n:=0) B z (uO _) (uO _) (uO _) (bF _) l1 l2 h1 h2];simp only[bJ,lD G,bV];rfl
    .exact h.elim
   .rename_i t0 n0 Y G;split at h
    .rename_i u y B z;obtain⟨⟨rfl,rfl⟩,T⟩:=h;obtain⟨k,cap,O,hg,hn,hm⟩:=(U x _ ha).gr_inv;refine dS (v:=.slice (if cap=(0:Int).toNat then some ⟨k,0,none⟩ else(some (⟨k,0,none⟩:Addr)).map (·.add ((0:Int).toNat * Y.sz))) 0 cap) hR ?_ ?_ T
     .simp only[execOp,Instr.sliceAt,bG,cS hd,bJ,Instr.slice,O,Option.map_none];rw[aBQ (C:=C) (w:=w) (g:=g) (n:=n0) B z (uO _) (uO _) aB hn l1 l2 h1 h2];simp only[bJ,lD G,bV];rfl
     .have e1:(if cap=(0:Int).toNat then some (⟨k,0,none⟩:Addr) else(some (⟨k,0,none⟩:Addr)).map (·.add ((0:Int).toNat * Y.sz)))=some ⟨k,0,none⟩:=by
       split
       .rfl
       .simp[kT]
      rw[e1];exact .list0 (some t0) _ cap hm (λt ht=>by cases ht;exact hg)
    .exact h.elim
   .rename_i b off n Y G;split at h
    .rename_i u y B z;obtain⟨⟨c0,c1,c2⟩,T⟩:=h;obtain⟨k,cap,O,hb,hc,hm⟩:=(U x _ ha).ml_inv;refine dS (v:=.slice (if cap=u.toNat then some ⟨k,off,none⟩ else(some (⟨k,off,none⟩:Addr)).map (·.add (u.toNat * Y.sz))) (y.toNat-u.toNat) (cap-u.toNat)) hR ?_ ?_ T
     .simp only[execOp,Instr.sliceAt,bG,cS hd,bJ,Instr.slice,O,Option.map_none];rw[aBQ (C:=C) (w:=w) (g:=g) B z c0 c1 c2 hc l1 l2 h1 h2];simp only[bJ,lD G,bV]
     .by_cases hz:y.toNat-u.toNat=0
      .rw[aF hz,hz];exact .list0 none _ _ aB aV
      .rw[aE hz,aE aB];simp only[gS,kT];exact .ml b _ _ _ k hb aB aB
    .exact h.elim
   .exact h.elim
  .exact h.elim
 .exact h.elim
end
end
section
theorem aL7{u:Type}(l:List u)(k:Nat)(v:u)(rest:List u)(h:k<l.length) :
  (l.set k v).take (k+1)++rest++(l.set k v).drop (k+1+rest.length)=l.take k++(v::rest)++l.drop (k+(rest.length+1)):=by
 have y:(l.set k v).take (k+1)=l.take k++[v]:=by
  rw[List.take_succ_eq_append_getElem (gQ h)];simp only[List.take_set,List.getElem_set_self];rw[List.set_eq_of_length_le (by simp;omega)]
 have z:(l.set k v).drop (k+1+rest.length)=l.drop (k+(rest.length+1)):=by
  rw[List.drop_set_of_lt aB];congr 1;omega
 rw[y,z];simp
theorem aBW:∀(vs cs:List A) (o:Nat),o+vs.length<=cs.length->nU cs o vs=cs.take o++vs++cs.drop (o+vs.length)
 | [],cs,o,_=>by simp[nU]
 | v::vs,cs,o,h=>by
  simp only[bB]at h;rw[nU,aBW vs _ _ (by simp;omega)];exact aL7 cs o v vs aB
def aBs(cells:Array Value)(off:Nat)(vs:Array Value):Array Value:=vs.zipIdx.foldl (λcs (c,j)=>cs.setIfInBounds (off+j) c) cells
theorem aOi(off:Nat):∀(l:List Value) (k:Nat) (cells:Array Value),off+k+l.length<=cells.size ->
  ((l.zipIdx k).foldl (λcs (x:Value × Nat)=>cs.setIfInBounds (off+x.2) x.1) cells).toList=cells.toList.take (off+k)++l++cells.toList.drop (off+k+l.length)
 | [],k,cells,_=>by simp
 | v::l,k,cells,h=>by
  simp only[bB]at h;simp only[List.zipIdx_cons,lM];rw[aOi off l (k+1) _ (by simp;omega)];simp only[Array.toList_setIfInBounds,bB];have:=aL7 cells.toList (off+k) v l (by simp;omega);rw[show off+(k+1)=off+k+1 by omega];exact this
theorem aJ2(cells:Array Value)(off:Nat)(vs:Array Value)(h:off+vs.size<=cells.size) :
  (aBs cells off vs).toList=cells.toList.take off++vs.toList++cells.toList.drop (off+vs.size):=by
 obtain⟨l⟩:=vs;have:=aOi off l 0 cells (gQ h);simpa [aBs]using this
theorem aKR{h:Nat->Option (Nat × Nat)}{cells:Array Value}{i:Nat}{v:Value}{rest:List (Nat × Value)}{off u:Nat}
  (y:h i=some (off,u))(z:v.cells.size=u)(hl:off+u<=cells.size) :
  Instr.fill h cells ((i,v)::rest)=Instr.fill h (aBs cells off v.cells) rest:=by
 simp only[Instr.fill,y];rw[aE (by simp[z];omega)];rfl
section
variable {C:Cx} {F:Fr} {g:Gh} {s:St} {w:World} {K:A->Prop} {ρ:Operand->Option A} {ev:Operand->Value}
theorem Rzs.put{cs:List A}{cells:Array Value}{off:Nat}{a:A}{v:Value}(h:Rzs g cs cells.toList)(z:Rz g a v)(hl:off+a.cells.length<=cs.length) :
  Rzs g (nU cs off a.cells) (aBs cells off v.cells).toList:=by
 have u:=z.cells;have e:v.cells.size=a.cells.length:=gQ u.1;have y:cells.size=cs.length:=gQ h.1;rw[aBW _ _ _ hl,aJ2 _ _ _ aB,e];exact((h.take off).append u).append (h.drop _)
theorem aMx{y:Nat->Option (Nat × Nat)}{h:Nat->Option (Nat × Nat)}(M:∀i x,h i=some x->y i=some x) :
  ∀{az:List (Nat × A)} {vs:List (Nat × Value)} {cs r:List A} {cells:Array Value},
   (vs.map λx=>x.1)=(az.map λx=>x.1)->Rzs g (az.map λx=>x.2) (vs.map λx=>x.2)->Rzs g cs cells.toList ->
   tW h cs az=some r->∃out,Instr.fill y cells vs=some out/\Rzs g r out.toList
 | [],vs,cs,r,cells,B,G,H,z=>by
  simp only[tW,bM]at z;subst z;have:vs=[]:=gQ B;subst this;exact⟨cells,rfl,H⟩
 | (i,a)::az,[],cs,r,cells,B,G,H,z=>by simp at B
 | (i,a)::az,(j,v)::vs,cs,r,cells,B,G,H,z=>by
  simp only[cC,List.cons.injEq]at B;obtain⟨rfl,B⟩:=B;simp only[tW]at z;split at z
  .simp at z
  .rename_i off O U;split at z
   .rename_i S;obtain⟨e1,e2,e3⟩:=S;have T:Rz g a v:=G.2 0 a v aV aV;have Y:v.cells.size=O:=by have:=T.cells.1;simp only[qE]at this;omega
    have Z:cells.size=cs.length:=gQ H.1;rw[aKR (M _ _ U) Y aB];refine aMx M B ⟨gQ G.1,λk c u S hu=>G.2 (k+1) c u (gQ S) (gQ hu)⟩ (H.put T aB) z
   .simp at z
theorem aL5{u z:Type}(P:Program)(w:World)(f:u->Sem z)(k:u->z):∀(l:List u),(∀x,x∈l->(f x).run P w=.ok (k x) w) ->
  (l.mapM f).run P w=.ok (l.map k) w
 | [],_=>by simp
 | x::l,h=>by
  simp only[List.mapM_cons,bG,h x aV,bJ,aL5 P w f k l (λy B=>h y (by simp[B])),bV,cC]
theorem aUN{t ty:TypeId}{B:Array (Nat × Operand)}{dst:Option Tmp}{pos:String}{after:Array Edge}{gd:Option (Nat × Bool)}
  (hR:R C.toCtx F g s w)(he:∀x a,ρ x=some a->Rz g a (ev x))(h:bH C (.build t B) ρ K) :
  OutS C F g s K ((execOp ev ⟨dst,.build t B,ty,pos,after,gd⟩).run C.P w):=by
 simp only[bH]at h;split at h
 .rename_i ps ti b4 S;split at h
  .rename_i T hk;split at h
   .rename_i r hr;simp only[kN]at hr;obtain⟨r',b0,rfl⟩:=hr;obtain⟨u,hu,hn,U⟩:=aDP S hk;obtain⟨z,hz,b6⟩:=aCz S w;obtain⟨p1,p2⟩:=aDM he b4
    have Y:∀f,f∈u.toList->((do let x <-sizeOf f.type;pure (f.offset,x)):Sem (Nat × Nat)).run C.P w=.ok (f.offset,C.toCtx.sz f.type) w:=by
     intro f hf;obtain⟨i,hi,rfl⟩:=iC hf;have b2:i<T.length:=by rw[<-hn];simpa using hi
     obtain⟨f',O,H,h3,h4,_⟩:=U i T[i].1 T[i].2.1 T[i].2.2 (by simp[b2]);have b1:u[i]?=some u.toList[i]:=by rw[<-aBO];exact cO hi
     rw[b1]at O;cases O;simp only[bG,aGF h3,bJ,bV,Ctx.sz,h3,oX]
    have M:=aL5 C.P w _ (λf:Field=>(f.offset,C.toCtx.sz f.type)) u.toList Y
    have b3:∀(i:Nat) (x:Nat × Nat),((T[i]?).map λ(x:Nat × Nat × Bool)=>(x.1,x.2.1))=some x->((u.toList.map λf:Field=>(f.offset,C.toCtx.sz f.type)).toArray)[i]?=some x:=by
     intro i x hx;simp only[kN]at hx;obtain⟨y,hy,rfl⟩:=hx;obtain⟨f',O,H,h3,h4,_⟩:=U i y.1 y.2.1 y.2.2 hy;rw[lK,jU,aBO,O];simp[H,Ctx.sz,h3]
    obtain⟨out,ho,b5⟩:=aMx (g:=g) b3 (az:=ps) (vs:=B.toList.map λx=>(x.1,ev x.2)) (cs:=ti.zero) (cells:=z.cells) (r:=r')
     (by rw[<-p1];simp[Function.comp_def]) (by simpa [Function.comp_def]using p2) (b6 g) b0
    have Z:∀c,c∈r'->c.one=true:=by
     have key:∀(az:List (Nat × A)) (cs r:List A),(∀c,c∈cs->c.one=true)->tW (λi=>(T[i]?).map λx=>(x.1,x.2.1)) cs az=some r->∀c,c∈r->c.one=true:=by
      intro az
      induction az with
      | nil=>intro cs r O H;simp only[tW,bM]at H;subst H;exact O
      | cons x az ih =>
       intro cs r O H;obtain⟨i,a⟩:=x;simp only[tW]at H;split at H
       .simp at H
       .split at H
        .rename_i hc;refine ih _ _ ?_ H;intro c G;rw[aBW _ _ _ aB]at G;simp only[bT]at G;rcases G with(G|G)|G
         .exact O c (qC G)
         .have:=hc.2.2;simp only[iF,cL]at this;exact this c G
         .exact O c (uI G)
        .simp at H
     exact key ps ti.zero r' (C.htt t ti S).one b0
    refine dS (v:=.agg out) hR ?_ ?_ h
    .simp only[Instr.build,bG,hz,bJ,cS hu];rw[Array.mapM_eq_mapM_toList];rw[Sem.run_map,M];simp only[bJ];have:(B.map λx=>(x.1,ev x.2)).toList=B.toList.map λx=>(x.1,ev x.2):=by simp
     rw[this,ho];rfl
    .have:=b5;exact .agg r' out.toList this.1 Z this.2
   .exact h.elim
  .exact h.elim
 .exact h.elim
end
end
section
section
variable {C:Cx} {F:Fr} {g:Gh} {s:St} {w:World} {K:A->Prop} {ρ:Operand->Option A} {ev:Operand->Value}
theorem aGO:∀{az:List (Nat × A)} {k:Nat} {es:List A},zE k az=some es->az.map (λx=>x.2)=es/\az.map (λx=>x.1)=List.range' k es.length
 | [],k,es,h=>by simp[zE]at h;subst h;simp
 | (i,a)::r,k,es,h=>by
  simp only[zE]at h;split at h
  .rename_i z;subst z;simp only[kN]at h;obtain⟨u,y,rfl⟩:=h;have:=aGO y;simp[this.1,this.2,List.range'_succ]
  .simp at h
theorem aG7(h:Nat):∀(vs:List (Nat × Value)) (k:Nat) (cells:Array Value),vs.map (λx=>x.1)=List.range' k vs.length ->
  (∀x,x∈vs->x.2.cells.size=h)->(k+vs.length) * h<=cells.size ->
  ∃out,Instr.fill (λi=>some (i * h,h)) cells vs=some out /\
   out.toList=cells.toList.take (k * h)++(vs.flatMap λx=>x.2.cells.toList)++cells.toList.drop ((k+vs.length) * h)
 | [],k,cells,_,_,_=>⟨cells,rfl,by simp⟩
 | (i,v)::vs,k,cells,z,M,O=>by
  simp only[cC,bB,List.range'_succ,List.cons.injEq]at z;obtain⟨rfl,z⟩:=z;have B:=M (i,v) aV;simp only[bB]at O
  have hm:i * h+h<=(i+(vs.length+1)) * h:=by
   rw[show i * h+h=(i+1) * h by rw[fO];omega];exact qD _ aB
  have u:=aJ2 cells (i * h) v.cells (by simp only at B;omega)
  have G:(aBs cells (i * h) v.cells).size=cells.size:=by
   have:=jF List.length u;simp only[qE,aG,dG,eR]at this;simp only at B;omega
  rw[aKR rfl B aB];have H:(i+1+vs.length) * h=(i+(vs.length+1)) * h:=by rw[show i+1+vs.length=i+(vs.length+1)by omega]
  obtain⟨out,U,y⟩:=aG7 h vs (i+1) (aBs cells (i * h) v.cells) z (λx Y=>M x (by simp[Y])) (by rw[G,H];exact O);refine⟨out,U,?_⟩;rw[y,u];simp only at B;have S:(i+1) * h=i * h+h:=by rw[fO];omega
  have T:=H;rw[S,T,bB,gR]
  have Z:(cells.toList.take (i * h)++v.cells.toList++cells.toList.drop (i * h+v.cells.size)).take (i * h+h)=cells.toList.take (i * h)++v.cells.toList:=by
   apply List.take_left';simp only[aG,dG,qE];omega
  have t2:(cells.toList.take (i * h)++v.cells.toList++cells.toList.drop (i * h+v.cells.size)).drop ((i+(vs.length+1)) * h)=cells.toList.drop ((i+(vs.length+1)) * h):=by
   have hl:(cells.toList.take (i * h)++v.cells.toList).length=i * h+h:=by
    simp only[aG,dG,qE];omega
   rw[List.drop_append,dB aB,bE,hl,wD];congr 1;omega
  rw[Z,t2];simp
theorem aPc{t ty:TypeId}{n:Nat}{B:Array (Nat × Operand)}{dst:Option Tmp}{pos:String}{after:Array Edge}{gd:Option (Nat × Bool)}
  (hR:R C.toCtx F g s w)(he:∀x a,ρ x=some a->Rz g a (ev x))(h:bH C (.buildSlice t n B) ρ K) :
  ∃ti M e es out a,C.tt t=some ti/\ti.k=.slice e/\C.tt e=some M/\(∀x,x∈es->x.cells.length=M.sz/\∀c,c∈x.cells->c.one=true)/\(es.length * M.sz<=16777216/\es.length<=16777216) /\
   (execOp ev ⟨dst,.buildSlice t n B,ty,pos,after,gd⟩).run C.P w=.ok (.value (.slice (some ⟨w.heap.size,0,none⟩) es.length es.length)) (w.alloc (.cells out e)) /\
   Rzs g (dF es) out.toList/\(∀tk O,a=.list tk O->O=es)/\K a:=by
 simp only[bH]at h;split at h
 .rename_i ps ti bg b8;split at h
  .rename_i e hk;split at h
   .rename_i M b0;split at h
    .rename_i es bd;obtain⟨⟨rfl,⟨b6,b1⟩,bf⟩,hK⟩:=h;obtain⟨d,hd,Y⟩:=gF b8;rw[hk]at Y;simp only[TK.ok]at Y;subst Y;obtain⟨p1,p2⟩:=aDM he bg;obtain⟨q1,q2⟩:=aGO bd;have b3:=aGU bf
     have U:B.toList.length=es.length:=by
      have:=jF List.length p1;have:=jF List.length q1;simp at *;omega
     have bj:∀x,x∈(B.toList.map λx=>(x.1,ev x.2))->x.2.cells.size=M.sz:=by
      intro x hx;obtain⟨k,hk,rfl⟩:=iC hx;simp only[aW]at hk;have b5:k<es.length:=by omega
      have hc:(ps.map λx=>x.2)[k]?=some es[k]:=by rw[q1];exact cO b5
      obtain⟨v,hv,hr⟩:=p2.get hc;have b2:=hr.cells.1;rw[(b3 _ (iX b5)).1]at b2;simp only[List.getElem_map];rw[jU,cO hk]at hv;simp only[gS,bM]at hv;rw[hv];simpa using b2
     have b4:(B.toList.map λx=>(x.1,ev x.2)).map (λx=>x.1)=List.range' 0 (B.toList.map λx=>(x.1,ev x.2)).length:=by
      simp only[List.map_map,Function.comp_def,aW];rw[p1,q2,U]
     obtain⟨z,hz,bl⟩:=aCz b0 w;have bk:∀(zero:Array Value),((Array.range (es.length * M.sz)).map (λk=>zero[k % zero.size]!)).size=es.length * M.sz:=by intro zero;simp
     have S:∀zero:Array Value,∃out,Instr.fill (λi=>some (i * M.sz,M.sz)) ((Array.range (es.length * M.sz)).map (λk=>zero[k % zero.size]!)) (B.toList.map λx=>(x.1,ev x.2))=some out /\
       out.toList=(B.toList.map λx=>(x.1,ev x.2)).flatMap λx=>x.2.cells.toList:=by
      intro zero;obtain⟨out,ho,H⟩:=aG7 M.sz (B.toList.map λx=>(x.1,ev x.2)) 0 ((Array.range (es.length * M.sz)).map (λk=>zero[k % zero.size]!)) b4 bj (by simp[U]);refine⟨out,ho,?_⟩;rw[H]
      have:(((Array.range (es.length * M.sz)).map (λk=>zero[k % zero.size]!)).toList).drop ((0+(B.toList.map λx=>(x.1,ev x.2)).length) * M.sz)=[] :=
       dB (by simp[U])
      rw[this];simp
     have T:Rzs g (dF es) ((B.toList.map λx=>(x.1,ev x.2)).flatMap λx=>x.2.cells.toList):=by
      have key:∀(az:List A) (vs:List Value),Rzs g az vs->Rzs g (dF az) (vs.flatMap λv=>v.cells.toList):=by
       intro az
       induction az with
       | nil=>intro vs h;have:vs=[]:=eK h.1;subst this;exact .nil g
       | cons a az ih =>
        intro vs h;cases vs with
        | nil=>have:=h.1;simp at this
        | cons v vs =>
         simp only[dF,gR];exact(h.2 0 a v aV aV).cells.append (ih vs ⟨gQ h.1,λj c u hc hu=>h.2 (j+1) c u (gQ hc) (gQ hu)⟩)
      have:=key _ _ p2;rw[q1]at this;simpa [List.flatMap_map]using this
     simp only[execOp]
     have Z:∃out:Array Value,(Instr.buildSlice t es.length (B.map λx=>(x.1,ev x.2))).run C.P w =
       .ok (.slice (some ⟨w.heap.size,0,none⟩) es.length es.length) (w.alloc (.cells out e))/\Rzs g (dF es) out.toList:=by
      have b7:(B.map λx=>(x.1,ev x.2)).toList=B.toList.map λx=>(x.1,ev x.2):=by simp
      by_cases h0:es.length * M.sz=0
      .obtain⟨out,ho,H⟩:=S #[];refine⟨out,?_,by rw[H];exact T⟩;simp only[Instr.buildSlice,bG,cS hd,bJ,lD b0];rw[aE aB,aF h0];simp only[bV,pure_bind,bG,bJ,b7,ho,newRow,run_newObj];rfl
      .obtain⟨out,ho,H⟩:=S z.cells;refine⟨out,?_,by rw[H];exact T⟩;simp only[Instr.buildSlice,bG,cS hd,bJ,lD b0];rw[aE aB,aE h0];simp only[bV,pure_bind,bG,bJ,hz,b7,ho,newRow,run_newObj];rfl
     obtain⟨out,Z,bh⟩:=Z;rw[uR,Z]
     have key:∃a,(∀tk O,a=.list tk O->O=es)/\K a:=by
      cases b9:aBk B.toList with
      | true =>
       rw[b9]at hK;refine⟨_,λtk O G=>?_,hK⟩
       match es,G with
       | [],G=>cases G
       | [x],G=>cases G
       | x::y::r,G=>cases G;rfl
      | false =>
       rw[b9]at hK;refine⟨_,λtk O G=>?_,hK⟩;cases es with
       | nil=>cases G
       | cons x r=>cases G;rfl
     obtain⟨a,bb,bc⟩:=key;exact⟨ti,M,e,es,out,a,b8,hk,b0,b3,⟨b6,b1⟩,rfl,bh,bb,bc⟩
    .exact h.elim
   .exact h.elim
  .exact h.elim
 .exact h.elim
theorem aPQ{t ty:TypeId}{n:Nat}{B:Array (Nat × Operand)}{dst:Option Tmp}{pos:String}{after:Array Edge}{gd:Option (Nat × Bool)}
  (hR:R C.toCtx F g s w)(he:∀x a,ρ x=some a->Rz g a (ev x))(h:bH C (.buildSlice t n B) ρ K) :
  OutS C F g s K ((execOp ev ⟨dst,.buildSlice t n B,ty,pos,after,gd⟩).run C.P w):=by
 simp only[bH]at h;split at h
 .rename_i ps ti bg bh;split at h
  .rename_i e hk;split at h
   .rename_i O b2;split at h
    .rename_i es bc;obtain⟨⟨rfl,⟨bk,bd⟩,bf⟩,hK⟩:=h;obtain⟨d,hd,Y⟩:=gF bh;rw[hk]at Y;simp only[TK.ok]at Y;subst Y;obtain⟨p1,p2⟩:=aDM he bg;obtain⟨q1,q2⟩:=aGO bc;have b0:=aGU bf
     have U:B.toList.length=es.length:=by
      have:=jF List.length p1;have:=jF List.length q1;simp at *;omega
     have bj:∀x,x∈(B.toList.map λx=>(x.1,ev x.2))->x.2.cells.size=O.sz:=by
      intro x hx;obtain⟨k,hk,rfl⟩:=iC hx;simp only[aW]at hk;have b6:k<es.length:=by omega
      have hc:(ps.map λx=>x.2)[k]?=some es[k]:=by rw[q1];exact cO b6
      obtain⟨v,hv,hr⟩:=p2.get hc;have b4:=hr.cells.1;rw[(b0 _ (iX b6)).1]at b4;simp only[List.getElem_map];rw[jU,cO hk]at hv;simp only[gS,bM]at hv;rw[hv];simpa using b4
     have b5:(B.toList.map λx=>(x.1,ev x.2)).map (λx=>x.1)=List.range' 0 (B.toList.map λx=>(x.1,ev x.2)).length:=by
      simp only[List.map_map,Function.comp_def,aW];rw[p1,q2,U]
     obtain⟨z,hz,bm⟩:=aCz b2 w;have bl:∀(zero:Array Value),((Array.range (es.length * O.sz)).map (λk=>zero[k % zero.size]!)).size=es.length * O.sz:=by intro zero;simp
     have S:∀zero:Array Value,∃out,Instr.fill (λi=>some (i * O.sz,O.sz)) ((Array.range (es.length * O.sz)).map (λk=>zero[k % zero.size]!)) (B.toList.map λx=>(x.1,ev x.2))=some out /\
       out.toList=(B.toList.map λx=>(x.1,ev x.2)).flatMap λx=>x.2.cells.toList:=by
      intro zero;obtain⟨out,ho,H⟩:=aG7 O.sz (B.toList.map λx=>(x.1,ev x.2)) 0 ((Array.range (es.length * O.sz)).map (λk=>zero[k % zero.size]!)) b5 bj (by simp[U]);refine⟨out,ho,?_⟩;rw[H]
      have:(((Array.range (es.length * O.sz)).map (λk=>zero[k % zero.size]!)).toList).drop ((0+(B.toList.map λx=>(x.1,ev x.2)).length) * O.sz)=[] :=
       dB (by simp[U])
      rw[this];simp
     have T:Rzs g (dF es) ((B.toList.map λx=>(x.1,ev x.2)).flatMap λx=>x.2.cells.toList):=by
      have key:∀(az:List A) (vs:List Value),Rzs g az vs->Rzs g (dF az) (vs.flatMap λv=>v.cells.toList):=by
       intro az
       induction az with
       | nil=>intro vs h;have:vs=[]:=eK h.1;subst this;exact .nil g
       | cons a az ih =>
        intro vs h;cases vs with
        | nil=>have:=h.1;simp at this
        | cons v vs =>
         simp only[dF,gR];exact(h.2 0 a v aV aV).cells.append (ih vs ⟨gQ h.1,λj c u hc hu=>h.2 (j+1) c u (gQ hc) (gQ hu)⟩)
      have:=key _ _ p2;rw[q1]at this;simpa [List.flatMap_map]using this
     simp only[execOp]
     have Z:∃out:Array Value,(Instr.buildSlice t es.length (B.map λx=>(x.1,ev x.2))).run C.P w =
       .ok (.slice (some ⟨w.heap.size,0,none⟩) es.length es.length) (w.alloc (.cells out e))/\Rzs g (dF es) out.toList:=by
      have b7:(B.map λx=>(x.1,ev x.2)).toList=B.toList.map λx=>(x.1,ev x.2):=by simp
      by_cases h0:es.length * O.sz=0
      .obtain⟨out,ho,H⟩:=S #[];refine⟨out,?_,by rw[H];exact T⟩;simp only[Instr.buildSlice,bG,cS hd,bJ,lD b2];rw[aE aB,aF h0];simp only[bV,pure_bind,bG,bJ,b7,ho,newRow,run_newObj];rfl
      .obtain⟨out,ho,H⟩:=S z.cells;refine⟨out,?_,by rw[H];exact T⟩;simp only[Instr.buildSlice,bG,cS hd,bJ,lD b2];rw[aE aB,aE h0];simp only[bV,pure_bind,bG,bJ,hz,b7,ho,newRow,run_newObj];rfl
     obtain⟨out,Z,b8⟩:=Z;rw[uR,Z];obtain⟨b3,b1⟩:=hR.newRow out.toList e []
     have G:es≠[]->Rz (g.know w.heap.size out.toList) (.list none es) (.slice (some ⟨w.heap.size,0,none⟩) es.length es.length):=by
      intro M;have b9:=b8.mono b1.le;have hl:=aAt (λx hx=>(b0 x hx).1);refine yO (pre:=out.toList) (vs:=out.toList) (off:=0) (sz:=O.sz) (by simp[Gh.know]) aV ?_ (λx hx=>(b0 x hx).1) (λx hx=>(b0 x hx).2) (bF _) ?_ (aN _) aV
      .rw[lU (by rw[b8.1,hl];exact bF _)];exact b9
      .unfold maxLen;omega
     have hz:Rz (g.know w.heap.size out.toList) (hlA es) (.slice (some ⟨w.heap.size,0,none⟩) es.length es.length):=by
      match es,G with
      | [],_=>exact .emp _
      | [x],G=>exact .hl x _ _ (G aV)
      | x::y::r,G=>exact G aV
     cases bb:aBk B.toList with
     | true=>rw[bb]at hK;exact⟨_,_,b1,gQ b3,hz,hK⟩
     | false =>
     rw[bb]at hK;refine⟨_,_,b1,gQ b3,?_,hK⟩;cases M:es with
     | nil=>exact .emp _
     | cons e0 r0 =>
     rw[<-M];show Rz _ (aBo es) _;rw[show aBo es=.list none es by rw[M];rfl];exact G (by rw[M];simp)
    .exact h.elim
   .exact h.elim
  .exact h.elim
 .exact h.elim
theorem aQz{t ty:TypeId}{x i:Operand}{dst:Option Tmp}{pos:String}{after:Array Edge}{gd:Option (Nat × Bool)}
  (hR:R C.toCtx F g s w)(Z:∀x a,ρ x=some a->Rz g a (ev x))(h:bH C (.indexAddr t x i) ρ K) :
  OutS C F g s K ((execOp ev ⟨dst,.indexAddr t x i,ty,pos,after,gd⟩).run C.P w):=by
 simp only[bH]at h;split at h
 .rename_i a k n ti ha hi b5;have z:=(Z i _ hi).int_inv;obtain⟨d,hd,y⟩:=gF b5;simp only[execOp];split at h
  .rename_i e hk;rw[hk]at y;simp only[TK.ok]at y;subst y;split at h
   .rename_i tk es;split at h
    .rename_i H u;obtain⟨⟨S,M⟩,h⟩:=h;have b0:es[n.toNat]?=some es[n.toNat]:=cO M;rw[b0]at h;obtain⟨b1,O⟩:=h;obtain⟨ad,cap,G,hm,T,_,hr⟩:=(Z x _ ha).list_inv;rcases hr with rfl|⟨b,off,sz,pre,rfl,hp,hl,hs,B,hr⟩
     .simp at M
     .have U:H.sz=sz:=by rw[<-b1,hs _ (iX M)]
      refine dS (v:=.pointer (some ⟨b,off+n.toNat * sz,none⟩)) hR ?_ ?_ O
      .have Y:n<(es.length:Int):=by omega
       simp only[Instr.indexAt,z,asIntOf,bG,bV,bJ,cS hd,G,S,Y,rY,↓reduceIte,lD u,kT,U]
      .have hb:n.toNat * sz+sz<=es.length * sz:=by
        have:(n.toNat+1) * sz<=es.length * sz:=qD _ M
        rwa[fO,Nat.one_mul]at this
       have:=Rz.eptr (g:=g) es[n.toNat].cells 0 b (off+n.toNat * sz) pre hp (by rw[b1,U];omega) (λc T=>B _ (iX M) c T)
        (λj c v T G=>hr n.toNat _ j c v b0 T G)
       simpa using this
    .exact h.elim
   .rename_i b off m;split at h
    .rename_i H u;obtain⟨⟨S,M⟩,O⟩:=h;obtain⟨k,cap,G,hb,T,hm⟩:=(Z x _ ha).ml_inv;refine dS (v:=.pointer (some ⟨k,off+n.toNat * H.sz,none⟩)) hR ?_ (.ptr b _ k hb) O;have Y:n<(m:Int):=by omega
     simp only[Instr.indexAt,z,asIntOf,bG,bV,bJ,cS hd,G,S,Y,rY,↓reduceIte,lD u,kT]
    .exact h.elim
   .rename_i b m _;split at h
    .rename_i H u;obtain⟨⟨S,M⟩,O⟩:=h;obtain⟨k,G,hb,T,hm⟩:=(Z x _ ha).mg_inv;refine dS (v:=.pointer (some ⟨k,0+n.toNat * H.sz,none⟩)) hR ?_ (by rw[gK];exact .ptr b _ k hb) O;have Y:n<(m:Int):=by omega
     simp only[Instr.indexAt,z,asIntOf,bG,bV,bJ,cS hd,G,S,Y,rY,↓reduceIte,lD u,kT]
    .exact h.elim
   .rename_i t' es sz;split at h
    .rename_i H u;obtain⟨⟨S,_⟩,O⟩:=h;obtain⟨b,cap,G,hl,T,_⟩:=(Z x _ ha).pen_inv
     have b4:g.eta t' es.length=some (.slice (some ⟨b,0,none⟩) es.length cap):=by
      obtain⟨_,_,_,_,_,h5,_⟩:=hl.list_inv;exact h5 _ rfl
     refine dS (v:=.pointer (some ⟨b,es.length * H.sz,none⟩)) hR ?_ (.rm t' es.length H.sz b cap b4 T) O;have Y:n<((es.length+1:Nat):Int):=by omega
     have b2:0<=n:=by omega
     have b3:n.toNat=es.length:=by omega
     simp only[Instr.indexAt,z,asIntOf,bG,bV,bJ,cS hd,G,b2,Y,rY,↓reduceIte,lD u,kT,b3,gK]
    .exact h.elim
   .exact h.elim
  .rename_i m e hk;rw[hk]at y;simp only[TK.ok]at y;subst y;split at h
   .rename_i cs o;split at h
    .rename_i H u;obtain⟨⟨S,M⟩,O⟩:=h;obtain⟨b,off,pre,G,hp,hl,B,hr⟩:=(Z x _ ha).eptr_inv;refine dS (v:=.pointer (some ⟨b,off+(o+n.toNat * H.sz),none⟩)) hR ?_ (.eptr cs _ b off pre hp hl B hr) O;simp only[Instr.indexAt,z,asIntOf,bG,bV,bJ,cS hd,G,S,M,rY,↓reduceIte,lD u,kT,Instr.sureAddr,pure_bind,nS]
    .exact h.elim
   .exact h.elim
  .exact h.elim
 .exact h.elim
theorem aVc{t ty:TypeId}{x i:Operand}{dst:Option Tmp}{pos:String}{after:Array Edge}{gd:Option (Nat × Bool)}
  (S:R C.toCtx F g s w)(H:∀x a,ρ x=some a->Rz g a (ev x))(h:bH C (.index t x i) ρ K) :
  OutS C F g s K ((execOp ev ⟨dst,.index t x i,ty,pos,after,gd⟩).run C.P w):=by
 simp only[bH]at h;split at h
 .rename_i str k n ti T U B;have z:=(H i _ U).int_inv;have hv:=(H x _ T).str_inv;obtain⟨d,hd,u⟩:=gF B;simp only[execOp];split at h
  .rename_i Y;obtain⟨⟨O,G⟩,h⟩:=h;rw[Y]at u;simp only[TK.ok]at u;subst u;have y:str[n.toNat]?=some str[n.toNat]:=cO G;rw[y]at h;refine dS (v:=.int .u8 str[n.toNat].toNat) S ?_ (.int _ _) h
   have M:(ByteArray.mk str.toArray)[n.toNat]?=some str[n.toNat]:=by
    have Z:n.toNat<(ByteArray.mk str.toArray).size:=by simpa [ByteArray.size]using G
    rw[getElem?_pos (ByteArray.mk str.toArray) n.toNat Z];rfl
   simp only[Instr.index,z,asIntOf,bG,bV,bJ,cS hd,hv,O,↓reduceIte,M]
  .exact h.elim
 .exact h.elim
theorem aV2{c:Call}{ty:TypeId}{dst:Option Tmp}{pos:String}{after:Array Edge}{gd:Option (Nat × Bool)}
  (O:R C.toCtx F g s w)(M:∀x a,ρ x=some a->Rz g a (ev x))(h:bH C (.call c) ρ K) :
  OutS C F g s K ((execOp ev ⟨dst,.call c,ty,pos,after,gd⟩).run C.P w):=by
 obtain⟨b0,args,S⟩:=c;obtain⟨args⟩:=args;obtain⟨S⟩:=S;simp only[bH]at h;split at h
 .rename_i x t;split at h
  .rename_i a ti H U;obtain⟨d,hd,G⟩:=gF U;split at h
   .rename_i hk;rw[hk]at G;simp only[TK.ok]at G;subst G;cases a<;>simp only at h
    rename_i str;have B:=(M x _ H).str_inv;have e1:(ByteArray.mk str.toArray).size=str.length:=by simp[ByteArray.size]
    simp only[execOp,resolve,invoke,builtin,bG,bV,bJ,kO,cC,eZ,B];simp only[Builtin.len_,lK,iO,bG,cS hd,bJ,bV,goInt,e1];exact OutS.val O (.int _ _) h
   .rename_i e hk;rw[hk]at G;simp only[TK.ok]at G;subst G;cases a<;>simp only[lenS]at h
    .have B:=(M x _ H).nils_inv;simp only[execOp,resolve,invoke,builtin,bG,bV,bJ,kO,cC,eZ,B];simp only[Builtin.len_,lK,iO,bG,cS hd,bJ,bV,goInt];exact OutS.val O (.int _ _) h
    .obtain⟨ad,cap,B,_⟩:=(M x _ H).list_inv;simp only[execOp,resolve,invoke,builtin,bG,bV,bJ,kO,cC,eZ,B];simp only[Builtin.len_,lK,iO,bG,cS hd,bJ,bV,goInt];exact OutS.val O (.int _ _) h
    rotate_left
    .obtain⟨a,B⟩:=(M x _ H).emp_inv;simp only[execOp,resolve,invoke,builtin,bG,bV,bJ,kO,cC,eZ,B];simp only[Builtin.len_,lK,iO,bG,cS hd,bJ,bV,goInt];exact OutS.val O (.int _ _) h
    .obtain⟨k,B,_⟩:=(M x _ H).mg_inv;simp only[execOp,resolve,invoke,builtin,bG,bV,bJ,kO,cC,eZ,B];simp only[Builtin.len_,lK,iO,bG,cS hd,bJ,bV,goInt];exact OutS.val O (.int _ _) h
    .obtain⟨k,cap,B,_⟩:=(M x _ H).ml_inv;simp only[execOp,resolve,invoke,builtin,bG,bV,bJ,kO,cC,eZ,B];simp only[Builtin.len_,lK,iO,bG,cS hd,bJ,bV,goInt];exact OutS.val O (.int _ _) h
   .exact h.elim
  .exact h.elim
 .rename_i x;split at h
  .rename_i tk y ys H;obtain⟨ad,cap,B,hm,hc,_,hh⟩:=(M x _ H).list_inv;have hr:=M x _ H;rw[B]at hr;rcases hh with hh|⟨T,off,sz,pre,rfl,_⟩
   .cases hh
   have Z:cap≠0:=by simp at hc;omega
   simp only[execOp,resolve,invoke,builtin,bG,bV,bJ,kO,cC,eZ,B]
   have Y:(Builtin.unsafeSliceData_ ⟨S⟩ ty #[.slice (some ⟨T,off,none⟩) (y::ys).length cap]).run C.P w=.ok (.pointer (some ⟨T,off,none⟩)) w:=by
    have e1:Builtin.unsafeSliceData_ ⟨S⟩ ty #[.slice (some ⟨T,off,none⟩) (y::ys).length cap]=(if cap≠0 then pure (.pointer (some ⟨T,off,none⟩))
     else do if(<-viewAt T).isSome then pure (.pointer (some ⟨T,off,none⟩)) else pure (.pointer (some ⟨<-newObj (.view ⟨T,off,none⟩ (<-elemOf ty)),0,none⟩))):=rfl
    rw[e1,aF Z];rfl
   rw[Y];exact OutS.val O (.sd tk _ _ cap Z hr) h
  .rename_i H;have B:=(M x _ H).nils_inv;simp only[execOp,resolve,invoke,builtin,bG,bV,bJ,kO,cC,eZ,B];have Y:(Builtin.unsafeSliceData_ ⟨S⟩ ty #[.slice none 0 0]).run C.P w=.ok (.pointer none) w:=rfl;rw[Y];exact OutS.val O .nilp h
  .exact h.elim
 .rename_i x t;split at h
  .rename_i ti H U;split at h
   .rename_i e hk;obtain⟨d,hd,G⟩:=gF U;rw[hk]at G;simp only[TK.ok]at G;subst G;have B:=(M x _ H).nils_inv;simp only[execOp,resolve,invoke,builtin,bG,bV,bJ,kO,cC,eZ,B];have Y:(Builtin.cap_ ⟨[t]⟩ ty #[.slice none 0 0]).run C.P w=.ok (.int .i64 0) w:=by simp[Builtin.cap_,goInt,cS hd]
    rw[Y];exact OutS.val O (.int _ _) h
   .exact h.elim
  .exact h.elim
 .rename_i x y;split at h
  .rename_i j a k b H hy;have B:=(M x _ H).int_inv;have hu:=(M y _ hy).int_inv;simp only[execOp,resolve,invoke,builtin,bG,bV,bJ,kO,cC,eZ,B,hu];simp only[Builtin.max_,List.foldlM_cons,List.foldlM_nil,Builtin.max2,bG,bV,bJ,pure_bind];exact OutS.val O (.int _ _) h
  .exact h.elim
 .rename_i x y;split at h
  .rename_i j a k b H hy;have B:=(M x _ H).int_inv;have hu:=(M y _ hy).int_inv;simp only[execOp,resolve,invoke,builtin,bG,bV,bJ,kO,cC,eZ,B,hu];simp only[Builtin.min_,List.foldlM_cons,List.foldlM_nil,Builtin.min2,bG,bV,bJ,pure_bind];exact OutS.val O (.int _ _) h
  .exact h.elim
 .rename_i x y z u;split at h
  .rename_i j a k b k2 c k3 d H hy hz hu;have v1:=(M x _ H).int_inv;have v2:=(M y _ hy).int_inv;have v3:=(M z _ hz).int_inv;have v4:=(M u _ hu).int_inv;simp only[execOp,resolve,invoke,builtin,bG,bV,bJ,kO,cC,eZ,v1,v2,v3,v4];simp only[Builtin.max_,List.foldlM_cons,List.foldlM_nil,Builtin.max2,bG,bV,bJ,pure_bind];exact OutS.val O (.int _ _) h
  .exact h.elim
 .exact h.elim
end
end
section
section
variable {C:Cx} {F:Fr} {g:Gh} {s:St} {w:World} {K:A->Prop} {ρ:Operand->Option A} {ev:Operand->Value}
theorem tQ{op:Op}{ty:TypeId}{dst:Option Tmp}{pos:String}{after:Array Edge}{gd:Option (Nat × Bool)}
  (H:R C.toCtx F g s w)(G:∀x a,ρ x=some a->Rz g a (ev x))(h:bH C op ρ K) :
  OutS C F g s K ((execOp ev ⟨dst,op,ty,pos,after,gd⟩).run C.P w):=by
 cases op
 case move x =>
  simp only[bH]at h;split at h
  .rename_i v M;exact OutS.val H (G x v M) h
  .exact h.elim
 case assign x =>
  simp only[bH]at h;split at h
  .rename_i v M;exact OutS.val H (G x v M) h
  .exact h.elim
 case pick c a b =>
  simp only[bH]at h;split at h
  .rename_i T;split at h
   .rename_i v M;simp only[execOp,bG,bV,(G c _ T).bool_inv,asBool,bJ,↓reduceIte];exact OutS.val H (G a v M) h
   .exact h.elim
  .rename_i T;split at h
   .rename_i v M;simp only[execOp,bG,bV,(G c _ T).bool_inv,asBool,bJ,cV,↓reduceIte];exact OutS.val H (G b v M) h
   .exact h.elim
  .exact h.elim
 case binOp=>exact aUL H G h
 case unOp op t x =>
  simp only[bH]at h;split at h
  .rename_i a ha;split at h
   .rename_i v M;simp only[execOp];unfold unA at M;split at M<;>simp only[bM,reduceCtorEq]at M<;>subst M
    .exact dS H (by simp[Op.unary,(G x _ ha).bool_inv]) (.bool _) h
    .exact dS H (by simp[Op.unary,Op.intArith,(G x _ ha).int_inv]) (.int _ _) h
    .refine dS H ?_ (.int _ _) h;rw[(G x _ ha).int_inv];simp only[Op.unary,Op.intBits,bV]
   .exact h.elim
  .exact h.elim
 case nilCheck x =>
  simp only[bH]at h;split at h
  .rename_i b o S;obtain⟨k,M,hb⟩:=(G x _ S).ptr_inv;simp only[execOp,M];exact OutS.val H (.ptr b o k hb) h
  .rename_i cs o S;have M:=G x _ S;obtain⟨b,off,pre,e,_⟩:=M.eptr_inv;simp only[execOp,e];rw[e]at M;exact OutS.val H M h
  .exact h.elim
 case fieldAddr=>exact aQq H G h
 case field=>exact aU0 H G h
 case typeAssert x xt t ok =>
  cases ok
  .simp only[bH]at h
  .simp only[bH]at h;split at h
   .rename_i u v ti S b5;split at h
    .rename_i fs hk;obtain⟨rfl,h⟩:=h;obtain⟨b0,hu,_⟩:=aDP b5 hk;obtain⟨y,M,hr⟩:=(G x _ S).iface_inv;simp only[execOp];refine dS (v:=.tuple #[y,.bool true]) H ?_ (.tuple [v,.bool true] [y,.bool true] rfl λj c z T hz=>?_) h
     .simp[Instr.typeAssert,cS hu,M]
     ·match j with
      | 0=>simp at T hz;subst T;subst hz;exact hr
      | 1=>simp at T hz;subst T;subst hz;exact .bool _
      | _+2=>simp at T
    .exact h.elim
   .exact h.elim
 case extract x i =>
  simp only[bH]at h;split at h
  .rename_i vs S;split at h
   .rename_i v M;obtain⟨us,e,hr⟩:=(G x _ S).tuple_inv;obtain⟨u,hu,bg⟩:=hr.get M;simp only[execOp];exact dS H (by simp[Instr.extract,e,hu]) bg h
   .exact h.elim
  .exact h.elim
 case makeInterface t x =>
  simp only[bH]at h;split at h
  .rename_i a ti ha b5;obtain⟨d,hd,O⟩:=gF b5
   have hn:(∀ms,d≠.interface ms)/\K (.iface t a):=by
    cases hk:ti.k<;>rw[hk]at h O<;>simp only[TK.ok]at O<;>simp only at h
    all_goals first
     | (subst O;exact⟨by simp,h⟩)
     | (obtain⟨b0,rfl,_⟩:=O;exact⟨by simp,h⟩)
     | exact⟨O.2,h⟩
   simp only[execOp];refine dS H (v:=.iface t (ev x)) ?_ (.iface t a _ (G x a ha)) hn.2;simp only[Instr.makeInterface,bG,cS hd,bJ];cases d<;>first|rfl|exact cG rfl (hn.1 _)
  .exact h.elim
 case makeFunc fn first b6 =>
  simp only[bH]at h;cases fn<;>simp only at h
  rename_i f;split at h
  .rename_i l m hl hm;simp only[execOp];have r1:=aDS G hl;have r2:=aDS G hm;obtain⟨fl⟩:=first
   obtain⟨cl⟩:=b6;exact dS H (v:=.func (.func f) (fl.map ev).toArray (cl.map ev).toArray) (by simp[Instr.makeFunc]) (.fn f l m _ _ r1.1 r2.1 r1.2 r2.2) h
  .exact h.elim
 case convert a b x =>
  simp only[bH]at h;split at h
  .rename_i k n ta tb S b3 b4;obtain⟨d,hd,O⟩:=gF b3;obtain⟨d',b1,B⟩:=gF b4;split at h
   .rename_i k' hk;rw[hk]at B;simp only[TK.ok]at B;subst B;simp only[execOp];refine dS H ?_ (.int _ _) h;simp only[convert,bG,cS hd,cS b1,bJ,(G x _ S).int_inv,Conv.intToInt];cases d<;>rfl
   .exact h.elim
  .rename_i str ta tb S b3 b4;obtain⟨d,hd,O⟩:=gF b3;obtain⟨d',b1,B⟩:=gF b4;split at h
   .rename_i hk;rw[hk]at B;simp only[TK.ok]at B;subst B;simp only[execOp];refine dS H (v:=.string ⟨str.toArray⟩) ?_ (.str _) h;simp only[convert,bG,cS hd,cS b1,bJ,(G x _ S).str_inv];cases d<;>rfl
   .rename_i e hk;rw[hk]at B;simp only[TK.ok]at B;subst B;split at h
    .rename_i te bc bh;rw[bc]at O;simp only[TK.ok]at O;subst O;split at h
     .rename_i bd;obtain⟨h1,h2,h⟩:=h;obtain⟨d2,bb,Y⟩:=gF bh;rw[bd]at Y;simp only[TK.ok]at Y;subst Y;simp only[execOp,(G x _ S).str_inv];rw[uR,run_bytes_of_string w a b e _ hd b1 bb];have b2:=grownCap_ge w (ByteArray.mk str.toArray).size 0 e;have b7:(ByteArray.mk str.toArray).size=str.length:=by simp[ByteArray.size]
      rw[b7]at b2⊢;have b9:=grownCap_le_maxLen w str.length 0 e h2
      have Z:∃rest,(bytesRow ⟨str.toArray⟩ (grownCap w str.length 0 e))=((str.map λc=>Value.int .u8 c.toNat)++rest).toArray :=
       ⟨List.replicate (grownCap w str.length 0 e-str.length) (.int .u8 0),by simp[bytesRow,b7]⟩
      obtain⟨rest,Z⟩:=Z;rw[Z]
      obtain⟨b8,bf⟩:=R.newRow (w:=w.drew) (H.heap rfl) (str.map λc=>Value.int .u8 c.toNat) e rest
       ((((str.map λc=>Value.int .u8 c.toNat)++rest).toArray).size,(((str.map λc=>Value.int .u8 c.toNat)++rest).toArray).size+1)
      refine⟨_,_,bf,b8,?_,h⟩
      have:=Rz.list (g:=g.know w.drew.heap.size (str.map λc=>Value.int .u8 c.toNat)) none (str.map λc=>A.int .u8 c.toNat) w.drew.heap.size 0 1 (grownCap w str.length 0 e)
       (str.map λc=>Value.int .u8 c.toNat) (by simp[Gh.know]) aV (gQ b2) b9
       (λy U=>by simp only[cW]at U;obtain⟨c,_,rfl⟩:=U;rfl)
       (λy U z hz=>by simp only[cW]at U;obtain⟨c,_,rfl⟩:=U;simp[A.cells]at hz;subst hz;rfl)
       (fun i y j z v U hz M => by
        rw[jU]at U;cases T:str[i]? with
        | none=>rw[T]at U;cases U
        | some c =>
         rw[T]at U;simp only[gS,bM]at U;subst U;cases j with
         | zero =>
          simp[A.cells]at hz;subst hz;simp[T]at M;subst M;exact .int _ _
         | succ j=>simp[A.cells]at hz)
       aV
      simpa using this
     .exact h.elim
    .exact h.elim
   .exact h.elim
  .exact h.elim
 case build=>exact aUN H G h
 case buildSlice=>exact aPQ H G h
 case load t x =>
  simp only[bH]at h;split at h
  .rename_i cs o S;split at h
   .rename_i v M;obtain⟨u,hu,hr⟩:=aRO H M (G x _ S);exact dS H hu hr h
   .exact h.elim
  .exact h.elim
 case slice=>exact aVI H G h
 case indexAddr=>exact aQz H G h
 case index=>exact aVc H G h
 case call=>exact aV2 H G h
 all_goals (simp only[bH]at h)
def oN(C:Cx)(s:St)(o:Ob)(f:Nat->A)(KV:St->A->Prop):Prop:=match C.det with
 | false=>∀b,s.getO b=none->KV (s.setO b o) (f b)
 | true=>KV (s.newO o) (f s.lim)
def zY(C:Cx)(s:St)(t:TypeId)(cs:List A)(KV:St->A->Prop):Prop:=oN C s (.cells t cs) (λb=>.ptr b 0) KV
def newT(C:Cx)(s:St)(n:Nat)(e:TypeId)(ys:List A)(KV:St->A->Prop):Prop:=match C.det with
 | false=>∀t,s.getT t=none->KV (s.setT t (n,e)) (.list (some t) ys)
 | true=>KV (s.newT (n,e)) (.list (some s.lim) ys)
def aE7(s:St)(n:Nat)(e:TypeId)(sz:Nat)(cs:List A)(KV:St->A->Prop):Prop :=
 ∀(b cap:Nat) (J:List A),s.getO b=none->n<=cap->J.length=(cap-n) * sz->(∀c,c∈J->c.one=true)->KV (s.setO b (.cells e (cs++J))) (.mg b n cap)
def nO(C:Cx)(s:St)(n:Nat)(e:TypeId)(sz:Nat)(ys:List A)(KV:St->A->Prop):Prop:=match C.det with
 | true=>newT C s n e ys KV
 | false=>match Nat.beq C.mu 1 with
  | false=>newT C s n e ys KV
  | true=>0<n/\aE7 s n e sz (dF ys) KV
def aBq(C:Cx):Bool:=match C.det with
 | true=>true
 | false=>Nat.beq C.mu 2
def xV(C:Cx)(s:St)(t:TypeId)(KV:St->A->Prop)(a:A):Prop:=match a,C.tt t with
 | .list _ es,some h=>(match h.k with
  | .slice e=>newT C s es.length e es KV
  | _=>False)
 | _,_=>False
def tX(det:Bool)(s:St)(b n cap:Nat)(e:TypeId)(sz m:Nat)(ys:List A)(KV:St->A->Prop):Option Ob->Prop
 | some (.cells e' cs)=>(det=false/\e'=e/\cs.length=cap * sz/\n<=cap/\n+m<=4294967296/\0<m) /\
  ∀(u h:Nat) (J:List A),(u=b/\h=cap\/s.getO u=none)->n+m<=h->J.length=(h-(n+m)) * sz->(∀c,c∈J->c.one=true) ->
   KV (s.setO u (.cells e (cs.take (n * sz)++(dF ys++J)))) (.mg u (n+m) h)
 | _=>False
def zZ(C:Cx)(s:St)(n:Nat)(e:TypeId)(KV:St->A->Prop):Prop:=match C.det with
 | false=>∀t,s.getT t=none->KV (s.setT t (0,e)) (.gr t n)
 | true=>KV (s.newT (0,e)) (.gr s.lim n)
def sP(C:Cx)(s:St)(n:Nat)(e:TypeId)(ys:List A)(sz:Nat)(KV:St->A->Prop):Prop:=match C.det with
 | false=>∀t,s.getT t=none->KV (s.setT t (n,e)) (.pen t ys sz)
 | true=>KV (s.newT (n,e)) (.pen s.lim ys sz)
def vP(C:Cx)(s:St)(B:TI)(t u:TypeId)(z:A)(KV:St->A->Prop)(a:A):Prop:=match B.k with
 | .slice e=>match C.tt e with
  | some h=>(u=t/\h.sz≠0/\h.bytes<=32768/\z.cells.length=h.sz)/\(match a with
   | .nils=>sP C s 0 e [] h.sz KV
   | .list tk es=>match tk with
    | some k=>(s.getT k=some (es.length,e)/\(∀y,y∈es->y.cells.length=h.sz)/\es.length+1<=4294967296)/\sP C (s.delT k) es.length e es h.sz KV
    | none=>False
   | _=>False)
  | none=>False
 | _=>False
def rT(C:Cx)(s:St)(k n z:Nat)(u:TI)(v:A)(KV:St->A->Prop):Prop:=match s.getT k with
 | some (m,e)=>match C.tt e with
  | some h=>(m=n/\h.sz=z/\u.sz=z/\v.cells.length=z/\iF v.cells=true)/\KV ((s.setT k (n+1,e)).setL (some (k,n,v))) (.tuple [])
  | none=>False
 | none=>False
def aBr(t:Nat)(es:List A)(sz:Nat)(q:Nat × Nat × A):A:=if q.1=t/\q.2.1=es.length/\q.2.2.cells.length=sz then .list (some t) (es++[q.2.2]) else .pen t es sz
def iM(s:St):A->A
 | .pen t es sz=>match s.ls with
  | some q=>aBr t es sz q
  | none=>.pen t es sz
 | a=>a
def fB(bs:List UInt8):List A:=bs.map λc=>.int .u8 c.toNat
def aBt(C:Cx)(y:TI)(u:TypeId):Option TypeId:=match y.k with
 | .slice e=>match C.tt u,C.tt e with
  | some z,some h=>match z.k with
   | .string=>match h.k with
    | .int .u8=>if h.sz=1/\h.bytes=1 then some e else none
    | _=>none
   | _=>none
  | _,_=>none
 | _=>none
def zR(C:Cx)(s:St)(e:TypeId)(bs:List UInt8)(KV:St->A->Prop):A->Prop
 | .nils=>bs.length<=4294967296/\newT C s bs.length e (fB bs) KV
 | .list (some t) es=>(s.getT t=some (es.length,e)/\(∀y,y∈es->y.cells.length=1)/\es.length+bs.length<=4294967296) /\
   KV (s.setT t (es.length+bs.length,e)) (.list (some t) (es++fB bs))
 | _=>False
def oL(C:Cx)(s:St)(e:TypeId)(h:TI)(ys:List A)(KV:St->A->Prop):A->Prop
 | .nils=>ys.length<=4294967296/\nO C s ys.length e h.sz ys KV
 | .emp=>match ys with
  | []=>KV s .emp
  | y::r=>((y::r).length<=4294967296/\0<(y::r).length)/\nO C s (y::r).length e h.sz (y::r) KV
 | .mg b n cap=>tX C.det s b n cap e h.sz ys.length ys KV (s.getO b)
 | .list (some t) es=>s.getT t=some (es.length,e)/\(∀y,y∈es->y.cells.length=h.sz)/\es.length+ys.length<=4294967296 /\
   KV (s.setT t (es.length+ys.length,e)) (.list (some t) (es++ys))
 | .full es=>(0<ys.length/\(∀y,y∈es->y.cells.length=h.sz)/\es.length+ys.length<=4294967296)/\newT C s (es.length+ys.length) e (es++ys) KV
 | _=>False
def vQ(C:Cx)(s:St)(h:TI)(t u:TypeId)(KV:St->A->Prop)(a:A):Prop:=match h.k with
 | .slice e=>match C.tt e with
  | some _=>u=t/\(match a with
   | .nils=>KV s .nils
   | .emp=>KV s .emp
   | .list tk es=>KV s (.list tk es)
   | .ml b o n=>KV s (.ml b o n)
   | _=>False)
  | none=>False
 | _=>False
def rN(C:Cx)(s:St)(y:TI)(u:TypeId)(n:Int)(KV:St->A->Prop):A->Prop
 | .nils=>match y.k with
  | .slice e=>match C.tt e,C.tt u with
   | some h,some z=>match z.k with
    | .int _=>(0<n/\n<=4294967296/\h.sz≠0/\h.bytes<=32768)/\zZ C s n.toNat e KV
    | _=>False
   | _,_=>False
  | _=>False
 | _=>False
def aOf(C:Cx)(s:St)(x:List UInt8)(KV:St->A->Prop):Prop:=oN C s (.iter x 0) (λb=>.ptr b 0) KV
def aCQ(s:St)(b:Nat)(x:List UInt8)(pos:Nat)(KV:St->A->Prop):Prop :=
 if pos<x.length then KV (s.setO b (.iter x (pos+(Utf8.decode ⟨x.toArray⟩ pos).2))) (.tuple [.bool true,.int .i64 pos,.int .i32 (Utf8.decode ⟨x.toArray⟩ pos).1])
 else KV s (.tuple [.bool false])
def zA(h:TI):A:=match h.k.agg with
 | true=>.agg h.zero
 | false=>h.zero.headD .nilp
def lkV(ok:Bool)(h:TI)(r:Option A):A:=match ok with
 | true=>match r with
  | some v=>.tuple [v,.bool true]
  | none=>.tuple [zA h,.bool false]
 | false=>match r with
  | some v=>v
  | none=>zA h
def aE5(C:Cx)(s:St)(t:TypeId)(KV:St->A->Prop):Prop:=match C.tt t with
 | some h=>match h.k with
  | .map _ kd=>oN C s (.map kd []) (λb=>.mp b) KV
  | _=>False
 | none=>False
def zM(C:Cx)(s:St)(t:TypeId)(ok:Bool)(b:Nat)(a:A):Option A:=match C.tt t with
 | some y=>match y.k with
  | .map e kd=>match s.getO b with
   | some (.map h es)=>match mkA kd a,C.tt e,Nat.beq h kd with
    | some mk,some u,true=>some (lkV ok u (iU mk es))
    | _,_,_=>none
   | _=>none
  | _=>none
 | none=>none
theorem aRP{C:Cx}{s:St}{t:TypeId}{ok:Bool}{b:Nat}{a v:A}(h:zM C s t ok b a=some v) :
  ∃y e kd es mk u,C.tt t=some y/\y.k=.map e kd/\s.getO b=some (.map kd es)/\mkA kd a=some mk/\C.tt e=some u/\v=lkV ok u (iU mk es):=by
 unfold zM at h;split at h<;>try cases h
 rename_i y H;split at h<;>try cases h
 rename_i e kd S;split at h<;>try cases h
 rename_i M es O;split at h<;>try cases h
 rename_i mk u B G z;obtain rfl:=cQ z;exact⟨y,e,M,es,mk,u,H,S,O,B,G,rfl⟩
def zW(C:Cx)(s:St)(t:TypeId)(ok:Bool)(b:Nat)(a:A)(KV:St->A->Prop):Prop:=match zM C s t ok b a with
 | some v=>KV s v
 | none=>False
def aBp(C:Cx)(s:St)(t:TypeId)(b:Nat)(a v:A)(KV:St->A->Prop):Prop:=match C.tt t with
 | some u=>match u.k,s.getO b with
  | .map _ kd,some (.map h es)=>match mkA kd a with
   | some mk=>h=kd/\KV (s.setO b (.map kd (lJ mk v es))) (.tuple [])
   | none=>False
  | _,_=>False
 | none=>False
def aE2:MK->A
 | .str x=>.str x
 | .int n=>.int .i64 n
 | .two a b=>.agg [.str a,.str b]
def aNO(es:List (MK × A))(st:List Nat)(j:Nat)(k:MK)(v:A)(x:Nat):Prop:=es[j]?=some (k,v)/\st[j]?=some x
def aEA(C:Cx)(s:St)(kd b:Nat)(KV:St->A->Prop):Prop:=match s.getO b with
 | some (.map h es)=>∀(st:List Nat) (c:Nat),st.length=es.length->st.Nodup->(∀x,x∈st->x<c)->oN C (s.setO b (.maps h es st c)) (.mit b c c []) (λi=>.ptr i 0) KV
 | _=>False
def aEJ(s:St)(i b h y:Nat)(u:List Nat)(KV:St->A->Prop):Prop:=match s.getO b with
 | some (.maps _ es st c)=>((∀x,x∈st->x<h)/\h<=y)/\((∀x,x∈st->x∈u)->KV s (.tuple [.bool false])) /\
   ∀(j:Nat) (k:MK) (v:A) (x:Nat),aNO es st j k v x->x ∉ u->KV (s.setO i (.mit b h c (u++[x]))) (.tuple [.bool true,aE2 k,v])
 | _=>False
def aEZ(s:St)(b h:Nat)(u:List Nat)(KV:St->A->Prop):Prop:=match s.getO b,u.getLast? with
 | some (.maps _ es st c),some x=>c=h/\∃j k v,aNO es st j k v x/\KV s (.tuple [aE2 k,v])
 | _,_=>False
def aEY(C:Cx)(s:St)(t:TypeId)(b:Nat)(a:A)(KV:St->A->Prop):Prop:=match C.tt t with
 | some u=>match u.k,s.getO b with
  | .map _ kd,some (.maps h es st c)=>match mkA kd a with
   | some mk=>h=kd/\match es.findIdx? λe=>decide (mk=e.1)with
    | some j=>KV (s.setO b (.maps kd (es.eraseIdx j) (st.eraseIdx j) c)) (.tuple [])
    | none=>KV (s.setO b (.maps kd es st c)) (.tuple [])
   | none=>False
  | _,_=>False
 | none=>False
def aT(C:Cx)(op:Op)(ρ:Operand->Option A)(KV Kp:St->A->Prop)(s:St):Prop :=
 match op with
 | .load t x=>match ρ x with
  | some (.ptr b o)=>match s.getO b with
   | some (.cells _ cs)=>match rL C t cs o with
    | some v=>KV s v
    | none=>False
   | _=>False
  | _=>bH C (.load t x) ρ (KV s)
 | .store t x y=>match ρ x,ρ y,C.tt t with
  | some (.ptr b o),some v,some h=>match s.getO b with
   | some (.cells e cs)=>((iM s v).cells.length=h.sz/\o+(iM s v).cells.length<=cs.length/\iF (iM s v).cells=true)/\KV (s.setO b (.cells e (nU cs o (iM s v).cells))) (.tuple [])
   | _=>False
  | some (.rm k n z),some v,some h=>rT C s k n z h v KV
  | _,_,_=>False
 | .alloc t=>match C.tt t with
  | some h=>zY C s t h.zero KV
  | none=>False
 | .buildSlice t len B=>match aBq C with
  | false=>bH C (.buildSlice t len B) ρ (KV s)
  | true=>bH C (.buildSlice t len B) ρ (KV s)\/bH C (.buildSlice t len B) ρ (xV C s t KV)
 | .box t x=>match ρ x with
  | some v=>iF v.cells=true/\zY C s t v.cells KV
  | none=>False
 | .convert a b x=>match ρ x with
  | some (.ptr k 0)=>match s.getO k,C.cv a b with
   | some (.cells e cs),some e'=>match C.tt e' with
    | some M=>((e=e'\/C.cw e=some e')/\M.sz<=cs.length)/\KV s (.ptr k 0)
    | none=>False
   | _,_=>False
  | _=>bH C (.convert a b x) ρ (KV s)
 | .makeSlice t l c=>match ρ l,ρ c,C.tt t with
  | some (.int _ n),some (.int _ m),some h=>match h.k with
   | .slice e=>match C.tt e with
    | some M=>(n=m/\0<n/\M.sz=1/\M.bytes * n.toNat<=281474976710656/\n<=4294967296)/\oN C s (.cells e (List.replicate n.toNat M.zero).flatten) (λb=>.ml b 0 n.toNat) KV
    | none=>False
   | _=>False
  | _,_,_=>False
 | .panic x=>match ρ x with
  | some (.iface t a)=>Kp s (.iface t a)
  | _=>False
 | .range t x=>match ρ x,C.tt t with
  | some (.str x),some h=>match h.k with
   | .string=>aOf C s x KV
   | _=>False
  | some (.mp b),some h=>match h.k with
   | .map _ kd=>aEA C s kd b KV
   | _=>False
  | _,_=>False
 | .next x false=>match ρ x with
  | some (.ptr i 0)=>match s.getO i with
   | some (.mit b O G H)=>aEJ s i b O G H KV
   | _=>False
  | _=>False
 | .entry x=>match ρ x with
  | some (.ptr i 0)=>match s.getO i with
   | some (.mit b _ G H)=>aEZ s b G H KV
   | _=>False
  | _=>False
 | .next x true=>match ρ x with
  | some (.ptr b 0)=>match s.getO b with
   | some (.iter x pos)=>aCQ s b x pos KV
   | _=>False
  | _=>False
 | .call c=>match c.callee with
  | .value f=>match ρ f,lF ρ c.args.toList with
   | some (.fn f first S),some az=>Den C f (first++az++S) KV Kp s
   | _,_=>False
  | .builtin .append=>match c.args.toList,c.argTypes.toList with
   | [x,y],[t,u]=>match ρ x,ρ y,C.tt t with
    | some a,some (.list _ ys),some h=>match h.k with
     | .slice e=>match C.tt e with
      | some M=>(u=t/\M.sz≠0/\M.bytes<=32768)/\(∀y,y∈ys->y.cells.length=M.sz)/\oL C s e M ys KV a
      | none=>False
     | _=>False
    | some a,some (.str bs),some h=>match aBt C h u with
     | some e=>zR C s e bs KV a
     | none=>False
    | some a,some (.int .i64 n),some h=>rN C s h u n KV a
    | some a,some .nils,some h=>vQ C s h t u KV a
    | some a,some .emp,some h=>vQ C s h t u KV a
    | some a,some (.hl z),some h=>vP C s h t u z KV a
    | _,_,_=>False
   | _,_=>False
  | .builtin .unsafeString=>match c.args.toList,c.argTypes.toList with
   | [p,n],[T,_]=>match ρ p,ρ n with
    | some .nilp,some (.int .i64 n)=>n=0/\KV s (.str [])
    | some (.sd (some t) es),some (.int .i64 n)=>match C.us T with
     | some e=>(n=es.length/\s.getT t=some (es.length,e))/\∃bs,es=fB bs/\KV (s.delT t) (.str bs)
     | none=>False
    | _,_=>False
   | _,_=>False
  | .builtin .panic=>match c.args.toList with
   | [x]=>match ρ x with
    | some (.iface t a)=>Kp s (.iface t a)
    | _=>False
   | _=>False
  | .builtin .delete=>match c.args.toList,c.argTypes.toList with
   | [x,k],[t,_]=>match ρ x,ρ k with
    | some (.mp b),some a=>aEY C s t b a KV
    | _,_=>False
   | _,_=>False
  | _=>bH C (.call c) ρ (KV s)
 | .binOp .eql t x y ty=>match ρ x,ρ y with
  | some (.list _ []),some .nils=>bH C (.binOp .eql t x y ty) ρ (KV s)\/(C.nl t=true/\KV s (.bool true)/\KV s (.bool false))
  | _,_=>bH C (.binOp .eql t x y ty) ρ (KV s)
 | .makeMap t none=>aE5 C s t KV
 | .lookup t x k ok=>match ρ x,ρ k with
  | some (.mp b),some a=>zW C s t ok b a KV
  | _,_=>False
 | .mapUpdate t x k y=>match ρ x,ρ k,ρ y with
  | some (.mp b),some a,some v=>aBp C s t b a v KV
  | _,_,_=>False
 | op=>bH C op ρ (KV s)
theorem qM{KV Kp:St->A->Prop}{r:Result Next}(h:OutS C F g s (KV s) r):OutV C F g KV Kp r:=by
 cases r with
 | ok n w=>cases n<;>simp only[OutS]at h;obtain⟨u,a,y,z,B,G⟩:=h;exact⟨u,a,s,y.le,z,B,G⟩
 | halt H w=>simp only[OutS]at h
theorem aHk(x:Sem Unit)(P:Program)(w:World):((do x;pure Next.skip):Sem Next).run P w=(x.run P w).andThen λ_ w'=>.ok .skip w':=by
 simp
theorem R.cellsOf(B:R C.toCtx F g s w){b:Nat}{e:TypeId}{cs:List A}(G:s.getO b=some (.cells e cs)) :
  ∃k vs rest,g.beta b=some k/\w.heap[k]?=some (.cells (vs++rest).toArray e)/\Rzs g cs vs/\∀c,c∈cs->c.one=true:=by
 obtain⟨k,h,⟨vs,rest,u,y,z⟩,_⟩:=B.obj b _ G;exact⟨k,vs,rest,h,u,y,z⟩
theorem aWi{KV Kp:St->A->Prop}{t ty:TypeId}{x:Operand}{dst:Option Tmp}{pos:String}{after:Array Edge}{gd:Option (Nat × Bool)}
  (Z:R C.toCtx F g s w)(he:∀x a,ρ x=some a->Rz g a (ev x))(h:aT C (.load t x) ρ KV Kp s) :
  OutV C F g KV Kp ((execOp ev ⟨dst,.load t x,ty,pos,after,gd⟩).run C.P w):=by
 simp only[aT]at h;split at h
 .rename_i b o hx;split at h
  .rename_i e cs hb;split at h
   .rename_i v y;obtain⟨k,vs,rest,b0,hh,O,Y⟩:=Z.cellsOf hb;obtain⟨k',hp,z⟩:=(he x _ hx).ptr_inv;rw[b0]at z;cases z
    have cell:∀j u,vs[j]?=some u->w.cell? ⟨k,j,none⟩=some u:=by
     intro j u B;simp only[World.cell?,hh,lB,cV,↓reduceIte,lK];rw[jT (cX.1 B).1];exact B
    refine qM (s:=s) (KV:=KV) ?_;simp only[execOp,hp];simp only[rL]at y;split at y
    .rename_i T S;split at y
     .rename_i H;split at y
      .rename_i b1;simp only[bM]at y;subst y
       have hc:∀j v,((vs.drop o).take T.sz)[j]?=some v->w.cell? ((⟨k,o,none⟩:Addr).add j)=some v:=by
        intro j v B;rw[mO]at B;split at B
        .rw[nD]at B;rw[kT,cell _ _ B]
        .simp at B
       have M:((vs.drop o).take T.sz).length=T.sz:=by
        have:=O.1;rw[dG,eR];omega
       have G:=run_loadCells_list (P:=C.P) w ⟨k,o,none⟩ _ hc;rw[M]at G;have hq:=(O.drop o).take T.sz;refine dS (v:=.agg ((vs.drop o).take T.sz).toArray) Z ?_ (.agg _ _ hq.1 (λc hc=>Y c (uI (qC hc))) hq.2) h;simp only[Instr.loadAt,Instr.sureAddr,loadVar,bG,bV,bJ,aBa S,H,↓reduceIte,lD S,G]
      .simp at y
     .rename_i H;obtain⟨u,hu,hr⟩:=O.get y;have U:T.k.agg=false:=gQ H;refine dS (v:=u) Z ?_ hr h;simp only[Instr.loadAt,Instr.sureAddr,loadVar,bG,bV,bJ,aBa S,U,cV,↓reduceIte,run_load,cell _ _ hu]
    .simp at y
   .exact h.elim
  .exact h.elim
 .exact qM (tQ Z he h)
theorem aAo{w:World}{b:Nat}{vs:Array Value}{e:TypeId}{fr:Nat × Nat}(h:w.heap[b]?=some (.cells vs e fr))(us:Array Value):(w.setRow b us).heap[b]?=some (.cells us e fr):=setRow_heap w b vs us e fr h
theorem aAI{w:World}{b k:Nat}(h:k≠b)(us:Array Value):(w.setRow b us).heap[k]?=w.heap[k]?:=by
 have:¬ b=k:=λe=>h e.symm
 simp[World.setRow,Array.getElem?_modify,this]
theorem aSq{KV Kp:St->A->Prop}{a b ty:TypeId}{x:Operand}{dst:Option Tmp}{pos:String}{after:Array Edge}{gd:Option (Nat × Bool)}
  (G:R C.toCtx F g s w)(S:∀x a,ρ x=some a->Rz g a (ev x))(h:aT C (.convert a b x) ρ KV Kp s) :
  OutV C F g KV Kp ((execOp ev ⟨dst,.convert a b x,ty,pos,after,gd⟩).run C.P w):=by
 simp only[aT]at h;split at h
 .rename_i k0 hx;split at h
  .rename_i e cs e' Z hcv;split at h
   .rename_i te O;obtain⟨⟨H,b0⟩,Y⟩:=h;obtain⟨k,vs,rest,z,T,M,U⟩:=G.cellsOf Z;have hr:=S x _ hx;obtain⟨k',hp,u⟩:=hr.ptr_inv;rw[z]at u;cases u;have hcs:=C.hcs a b e' hcv;rw[O]at hcs;simp only[gS,bM]at hcs;have y:C.P.cellsOf e'<=(vs++rest).toArray.size:=by rw[<-hcs];have:=M.1;simp;omega
    have B:(convert a b (.pointer (some ⟨k,0,none⟩))).run C.P w=.ok (.pointer (some ⟨k,0,none⟩)) w:=by
     rcases H with rfl|hw
     .exact C.hcv a b e hcv w k (vs++rest).toArray T y
     .exact C.hcw a b e' e hcv hw w k (vs++rest).toArray T y
    refine qM (s:=s) (KV:=KV) ?_;simp only[execOp,hp];exact dS G B (.ptr k0 0 k z) Y
   .exact h.elim
  .exact h.elim
 .exact qM (tQ G S h)
theorem aCG{KV Kp:St->A->Prop}{o:Obj}{ob:Ob}{v:Value}{f:Nat->A}{x:Sem Value}(y:R C.toCtx F g s w)(G:ObRz g ob (some o))
  (B:∀z b,z.beta b=some w.heap.size->Rz z (f b) v)
  (H:x.run C.P w=.ok v (w.alloc o))(u:oN C s ob f KV) :
  OutV C F g KV Kp (((do let v <-x;pure (Next.value v)):Sem Next).run C.P w):=by
 rw[uR,H];unfold oN at u;cases hd:C.det with
 | false =>
  rw[hd]at u;obtain⟨b,h⟩:=y.some_free;exact⟨_,_,_,aAJ h _,y.newObj G h (s':=s.setO b ob) (λq=>aX s b ob q) (λq=>rfl) rfl (by show C.det=true->_;rw[hd];simp),B _ b (by simp[Gh.bx]),u b (y.free h)⟩
 | true =>
  rw[hd]at u;have h:=(y.dtm hd s.lim (bF _)).1;exact⟨_,_,_,aAJ h _,y.newObj G h (s':=s.newO ob) (λq=>aAm s ob q) (λq=>rfl) rfl (λ_=>⟨Nat.le_succ _,dZ _⟩),B _ s.lim (by simp[Gh.bx]),u⟩
theorem aLR{KV Kp:St->A->Prop}{t:TypeId}{v:Value}{cs:List A}{x:Sem Value}(y:R C.toCtx F g s w)(B:Rzs g cs v.cells.toList)(h:∀c,c∈cs->c.one=true)
  (G:x.run C.P w=.ok (.pointer (some ⟨w.heap.size,0,none⟩)) (w.alloc (.cells v.cells t)))
  (u:zY C s t cs KV) :
  OutV C F g KV Kp (((do let v <-x;pure (Next.value v)):Sem Next).run C.P w) :=
 aCG (ob:=.cells t cs) y ⟨v.cells.toList,[],by simp,B,h⟩ (λH b z=>.ptr b 0 _ z) G u
theorem aUI{KV Kp:St->A->Prop}{t ty:TypeId}{dst:Option Tmp}{pos:String}{after:Array Edge}{gd:Option (Nat × Bool)}
  (B:R C.toCtx F g s w)(h:aT C (.alloc t) ρ KV Kp s) :
  OutV C F g KV Kp ((execOp ev ⟨dst,.alloc t,ty,pos,after,gd⟩).run C.P w):=by
 simp only[aT]at h;split at h
 .rename_i G u;obtain⟨z,hz,y⟩:=aCz u w;simp only[execOp];refine aLR (v:=z) (t:=t) B (y g) (C.htt t G u).one ?_ h;simp only[Instr.alloc,bG,hz,bJ,newVar,newRow,run_newObj,bV];rfl
 .exact h.elim
theorem aWL{KV Kp:St->A->Prop}{t ty:TypeId}{x:Operand}{dst:Option Tmp}{pos:String}{after:Array Edge}{gd:Option (Nat × Bool)}
  (z:R C.toCtx F g s w)(B:∀x a,ρ x=some a->Rz g a (ev x))(h:aT C (.box t x) ρ KV Kp s) :
  OutV C F g KV Kp ((execOp ev ⟨dst,.box t x,ty,pos,after,gd⟩).run C.P w):=by
 simp only[aT]at h;split at h
 .rename_i v G;obtain⟨u,y⟩:=h;simp only[execOp];refine aLR (v:=ev x) (t:=t) z (B x v G).cells (by simpa [iF]using u) ?_ y;simp only[Instr.box,bG,newVar,newRow,run_newObj,bJ,bV];rfl
 .exact h.elim
theorem aJT{x:A}:∀n:Nat,(List.replicate n [x]).flatten=List.replicate n x
 | 0=>rfl
 | n+1=>by simp[List.replicate_succ]
theorem aQK{KV Kp:St->A->Prop}{t ty:TypeId}{l c:Operand}{dst:Option Tmp}{pos:String}{after:Array Edge}{gd:Option (Nat × Bool)}
    (hR:R C.toCtx F g s w)(he:∀x a,ρ x=some a->Rz g a (ev x))(h:aT C (.makeSlice t l c) ρ KV Kp s) :
    OutV C F g KV Kp ((execOp ev ⟨dst,.makeSlice t l c,ty,pos,after,gd⟩).run C.P w):=by
  simp only[aT]at h;split at h
  · rename_i kl n kc m ti hl hc hti
    obtain⟨d,hd,hok⟩:=gF hti;split at h
    · rename_i e hk
      rw[hk]at hok;simp only[TK.ok]at hok;subst hok;split at h
      · rename_i te hte
        obtain⟨⟨rfl,h0,h1,h2,h3⟩,hK⟩:=h;obtain⟨i,z,hi,his,hib,hiz,hzr⟩:=(C.htt e te hte).info;have hzl:=(C.htt e te hte).len;have hz1:=(C.htt e te hte).one
        obtain⟨x,hx⟩:∃x,te.zero=[x]:=by
          match hq:te.zero with
          | [x]=>exact⟨x,rfl⟩
          | []=>rw[hq,h1]at hzl;cases hzl
          | _::_::_=>rw[hq,h1]at hzl;simp at hzl
        obtain⟨v,hv⟩:∃v,z.cells=#[v]:=by
          have h4:=(hzr g).1;rw[hx]at h4
          match hq:z.cells.toList with
          | [v]=>exact⟨v,by apply Array.ext';rw[hq]⟩
          | []=>rw[hq]at h4;simp at h4
          | _::_::_=>rw[hq]at h4;simp at h4
        have hxv:Rz g x v:=by
          have:=hzr g;rw[hx,hv]at this;exact this.2 0 x v aV aV
        have hrun:=run_make (P:=C.P) w t e i z hd hi hiz kl kc n n aB (uO _)
          (by rw [hib]; have : ((te.bytes * n.toNat : Nat) : Int) ≤ 281474976710656 := by omega
              rw[Int.natCast_mul,Int.toNat_of_nonneg aB]at this;exact this) aB
        rw[his,h1,Nat.mul_one,hv]at hrun
        have hmc:madeCells #[v] n.toNat=(List.replicate n.toNat v).toArray:=by
          apply Array.ext
          · simp[madeCells]
          · intro j h5 h6
            simp[madeCells,Nat.mod_one]
        simp only[execOp,(he l _ hl).int_inv,(he c _ hc).int_inv];refine aCG (ob:=.cells e (List.replicate n.toNat te.zero).flatten) hR ⟨List.replicate n.toNat v,[],rfl,?_,?_⟩ (λg' b hb=>?_) (by rw[hmc]at hrun;simpa using hrun) hK
        · rw[hx,aJT]
          refine⟨by simp,λj a u ha hu=>?_⟩;rw[List.getElem?_replicate]at ha hu;split at ha
          · rename_i hj;rw[aF hj]at hu;cases ha;cases hu;exact hxv
          · cases ha
        · rw[hx,aJT]
          intro a ha;rw[List.eq_of_mem_replicate ha];exact hz1 x (by rw[hx];simp)
        · exact .ml b 0 _ _ _ hb (bF _) (by unfold maxLen;omega)
      · exact h.elim
    · exact h.elim
  · exact h.elim
theorem R.same(u:R C.toCtx F g s w){b k:Nat}{o ob:Ob}(z:s.getO b=some o)(h:g.beta b=some k)(y:ObRz g ob w.heap[k]?):R C.toCtx F g (s.setO b ob) w:=u.setObj z h (λ_ _=>rfl) y
theorem aVC{KV Kp:St->A->Prop}{t ty:TypeId}{x:Operand}{dst:Option Tmp}{pos:String}{after:Array Edge}{gd:Option (Nat × Bool)}
  (O:R C.toCtx F g s w)(he:∀x a,ρ x=some a->Rz g a (ev x))(h:aT C (.range t x) ρ KV Kp s) :
  OutV C F g KV Kp ((execOp ev ⟨dst,.range t x,ty,pos,after,gd⟩).run C.P w):=by
 simp only[aT]at h;split at h
 .rename_i x' ti H z;split at h
  .rename_i T;obtain⟨d,hd,u⟩:=gF z;rw[T]at u;simp only[TK.ok]at u;subst u;have U:=(he x _ H).str_inv;simp only[execOp];exact aCG (ob:=.iter x' 0) (o:=.stringIter ⟨x'.toArray⟩ 0) O rfl (λg' b B=>.ptr b 0 _ B) (by rw[U];exact run_range_string w t _ hd) h
  .exact h.elim
 .rename_i b ti H z;split at h
  .rename_i e kd T;obtain⟨d,hd,u⟩:=gF z;rw[T]at u;obtain⟨kt,rfl,hT⟩:=u;obtain⟨k0,U,y⟩:=(he x _ H).mp_inv;unfold aEA at h;split at h
   .rename_i Y es B;obtain⟨k1,Z,⟨ms,c,h2,h3,M⟩,b0,hF⟩:=O.obj b _ B;rw[y]at Z;cases Z;have G:ms.toList.length=es.length:=h3.len.symm;have h:=h (ms.toList.map (·.born)) c (by rw[aW,G]) M.2.1 (λx H=>by obtain⟨m,hm,rfl⟩:=cW.1 H;exact M.1 m hm);have S:R C.toCtx F g (s.setO b (.maps Y es (ms.toList.map (·.born)) c)) w:=O.same B y ⟨ms,h2,h3,rfl,M⟩;simp only[execOp]
    exact aCG (ob:=.mit b c c []) (o:=.mapIter (some k0) c #[] c) S ⟨k0,y,rfl⟩ (λg' b B=>.ptr b 0 _ B) (by
     rw[U];simp[Instr.range,cS hd,Go.MapKept.run_getObj_map h2]) h
   .exact h.elim
  .exact h.elim
 .exact h.elim
theorem aMI{g:Gh}(k:MK):Rz g (aE2 k) k.val:=by
 cases k with
 | str s=>exact .str s
 | int n=>exact .int _ n
 | two a b =>
  refine .agg [.str a,.str b] [_,_] rfl (λc h=>by simp at h;rcases h with rfl|rfl<;>rfl) λj c v h u=>?_
  match j with
  | 0=>simp at h u;subst h;subst u;exact .str _
  | 1=>simp at h u;subst h;subst u;exact .str _
  | _+2=>simp at h
theorem aVi{KV Kp:St->A->Prop}{ty:TypeId}{x:Operand}{dst:Option Tmp}{pos:String}{after:Array Edge}{gd:Option (Nat × Bool)}
  (hR:R C.toCtx F g s w)(he:∀x a,ρ x=some a->Rz g a (ev x))(h:aT C (.next x false) ρ KV Kp s) :
  OutV C F g KV Kp ((execOp ev ⟨dst,.next x false,ty,pos,after,gd⟩).run C.P w):=by
 simp only[aT]at h;split at h
 .rename_i i T;split at h
  .rename_i b u b2 H hb;obtain⟨r,G,Y⟩:=(he x _ T).ptr_inv;obtain⟨r',M,⟨bm,U,hr⟩,_,_⟩:=hR.obj i _ hb;rw[Y]at M;cases M;unfold aEJ at h;split at h
   .rename_i kd es st c hm;obtain⟨⟨ho,hl⟩,Z,O⟩:=h;obtain⟨k1,h1,⟨ms,h2,h3,h4,h5⟩,_,_⟩:=hR.obj b _ hm;rw[U]at h1;cases h1;simp only[execOp];rw[uR,G];have b1:∀x∈ms.toList,x.born<u:=λx T=>ho _ (by rw[<-h4];exact cW.2 ⟨x,T,rfl⟩)
    rcases run_next_at (P:=C.P) w ty r bm u b2 H.toArray ms c hr h2 b1 hl with⟨hz,B⟩|⟨e,z,w1,hw,B⟩
    .rw[B];refine⟨g,_,_,dQ g,hR,.tuple _ [_] rfl λj c v y G=>?_,Z λx T=>?_⟩
     ·match j with
      | 0=>simp at y G;subst y;subst G;exact .bool _
      | _+1=>simp at y
     .rw[<-h4]at T;obtain⟨m,hm,rfl⟩:=cW.1 T;have h0:leftOf ms H.toArray=#[]:=Array.eq_empty_of_size_eq_zero hz;unfold leftOf at h0;rw[Array.filter_eq_empty_iff]at h0;have:=h0 m (gQ hm);simpa using this
    .rw[B];unfold leftOf at z;simp only[Array.toList_filter,List.mem_filter]at z;obtain⟨z,b5⟩:=z;obtain⟨j,hj,b3⟩:=iC z;have b0:ms.toList[j]?=some e:=by rw[cO hj,b3]
     obtain⟨k,v,e1,e2,e3⟩:=h3.at j e b0;have e4:st[j]?=some e.born:=by rw[<-h4,jU,b0];rfl
     have b4:r<w.heap.size:=(fU.1 hr).1;have S:w1.heap=w.heap/\(w1.os,w1.output)=(w.os,w.output):=by rcases hw with rfl|rfl<;>exact⟨rfl,rfl⟩
     refine⟨g,_,_,dQ g,hR.setObj hb Y (ob:=.mit b u c (H++[e.born])) (λk hk=>?_) ⟨bm,U,?_⟩ S.2,.tuple _ [_,_,_] rfl λj c v y G=>?_,O j k v e.born ⟨e1,e4⟩ (gQ b5)⟩
     .simp only[Go.ChangeMaps.setBlock,S.1];simp[yH (Ne.symm hk)]
     .simp only[Go.ChangeMaps.setBlock,S.1];simp[b4]
     ·match j with
      | 0=>simp at y G;subst y;subst G;exact .bool _
      | 1=>simp at y G;subst y;subst G;rw[e2];exact aMI _
      | 2=>simp at y G;subst y;subst G;exact e3
      | _+3=>simp at y
   .exact h.elim
  .exact h.elim
 .exact h.elim
theorem aUX{KV Kp:St->A->Prop}{ty:TypeId}{x:Operand}{dst:Option Tmp}{pos:String}{after:Array Edge}{gd:Option (Nat × Bool)}
  (M:R C.toCtx F g s w)(he:∀x a,ρ x=some a->Rz g a (ev x))(h:aT C (.entry x) ρ KV Kp s) :
  OutV C F g KV Kp ((execOp ev ⟨dst,.entry x,ty,pos,after,gd⟩).run C.P w):=by
 simp only[aT]at h;split at h
 .rename_i i hx;split at h
  .rename_i b y Y Z hb;obtain⟨r,z,S⟩:=(he x _ hx).ptr_inv;obtain⟨r',u,⟨bm,O,hr⟩,_,_⟩:=M.obj i _ hb;rw[S]at u;cases u;unfold aEZ at h;split at h
   .rename_i kd es st c x hm hs;obtain⟨rfl,j,k,v,⟨e1,T⟩,hK⟩:=h;obtain⟨k1,U,⟨ms,h2,h3,h4,h5⟩,_,_⟩:=M.obj b _ hm;rw[O]at U;cases U
    have hj:∃e,ms.toList[j]?=some e/\e.born=x:=by
     rw[<-h4,jU,kN]at T;exact T
    obtain⟨e,H,rfl⟩:=hj;obtain⟨k',v',B,e3,e4⟩:=h3.at j e H;rw[e1]at B;cases B;obtain⟨l,hl⟩:=List.getLast?_eq_some_iff.1 hs;simp only[execOp];rw[uR,z,run_entry_at (P:=C.P) w r bm y l.toArray ms c e (by rw[hr,hl];simp) h2 (bA H) h5.2.1];refine⟨g,_,_,dQ g,M,.tuple _ [_,_] rfl λj c v G z=>?_,hK⟩
    match j with
    | 0=>simp at G z;subst G;subst z;rw[e3];exact aMI _
    | 1=>simp at G z;subst G;subst z;exact e4
    | _+2=>simp at G
   .exact h.elim
  .exact h.elim
 .exact h.elim
theorem aWj{KV Kp:St->A->Prop}{ty:TypeId}{x:Operand}{str:Bool}{dst:Option Tmp}{pos:String}{after:Array Edge}{gd:Option (Nat × Bool)}
  (S:R C.toCtx F g s w)(Z:∀x a,ρ x=some a->Rz g a (ev x))(h:aT C (.next x str) ρ KV Kp s) :
  OutV C F g KV Kp ((execOp ev ⟨dst,.next x str,ty,pos,after,gd⟩).run C.P w):=by
 cases str
 .exact aVi S Z h
 simp only[aT]at h;split at h
 .rename_i b hx;split at h
  .rename_i G p Y;obtain⟨k,z,H⟩:=(Z x _ hx).ptr_inv;obtain⟨k',B,ho,_,_⟩:=S.obj b _ Y;rw[H]at B;cases B;have T:w.heap[k]?=some (.stringIter ⟨G.toArray⟩ p):=ho;have M:k<w.heap.size:=(fU.1 T).1;have O:(ByteArray.mk G.toArray).size=G.length:=by simp[ByteArray.size]
   simp only[execOp];rw[uR,z];unfold aCQ at h;split at h
   .rename_i U
    have y:(Instr.next (.pointer (some ⟨k,0,none⟩)) true ty).run C.P w=.ok (.tuple #[.bool true,goInt p,.int .i32 (Utf8.decode ⟨G.toArray⟩ p).1])
      { w with heap:=w.heap.setIfInBounds k (.stringIter ⟨G.toArray⟩ (p+(Utf8.decode ⟨G.toArray⟩ p).2)) }:=by
     simp only[Instr.next,getObj,setObj,bG,Sem.run,T,Result.andThen,O,U,dJ,M];rfl
    rw[y];refine⟨g,_,_,dQ g,S.setObj Y H (ob:=.iter G _) (λk hk=>?_) ?_,?_,h⟩
    .simp[yH (Ne.symm hk)]
    .simp[ObRz,M]
    .refine .tuple _ [_,_,_] rfl λj c v u z=>?_
     match j with
     | 0=>simp at u z;subst u;subst z;exact .bool _
     | 1=>simp at u z;subst u;subst z;exact .int _ _
     | 2=>simp at u z;subst u;subst z;exact .int _ _
     | _+3=>simp at u
   .rename_i U
    have y:(Instr.next (.pointer (some ⟨k,0,none⟩)) true ty).run C.P w=.ok (.tuple #[.bool false]) w:=by
     simp only[Instr.next,getObj,bG,Sem.run,T,Result.andThen,O,U,dY];rfl
    rw[y];refine⟨g,_,_,dQ g,S,?_,h⟩;refine .tuple _ [_] rfl λj c v u z=>?_
    match j with
    | 0=>simp at u z;subst u;subst z;exact .bool _
    | _+1=>simp at u
  .exact h.elim
 .exact h.elim
end
end
end Go.AV
