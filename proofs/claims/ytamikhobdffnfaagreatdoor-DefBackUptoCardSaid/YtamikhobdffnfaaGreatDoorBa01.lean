/-
  Of DefBack.
-/
import Derived.WalkKit
import Derived.Orders
import Derived.Lib.Strings
import Derived.Laws.RangeString
import Derived.Laws.IdiomStrings
import Derived.Laws.MakeOwn
set_option linter.all false
set_option maxRecDepth 99999
set_option maxHeartbeats 0
namespace Go.AV
open Go
def aX:=@List.getElem?_eq_getElem
def mR:=@Nat.le_trans
def bQ:=@Option.some.injEq
def cC:=@List.mem_singleton
def bN:=@List.map_cons
def aV:=@Nat.le_refl
def bW:=@Sem.run_bind
def eF:=@List.getElem?_eq_some_iff
def cN:=@List.map_append
def dI:=@List.map_nil
def fW:=@List.eq_nil_of_length_eq_zero
def cH:=@List.mem_map
def fE:=@Bool.false_and
def aU:=@Nat.zero_le
def fX:=@Bool.and_false
def dE:=@decide_eq_true_eq
def bZ:=@List.mem_of_getElem?
def eJ:=@run_underlying
def fF:=@Bool.not_true
def jU:=@Array.getElem?_eq_some_iff
def eQ:=@decide_eq_false
def cQ:=@List.length_take
def fG:=@Bool.true_and
def jH:=@Bool.false_or
def fN:=@decide_eq_true
def gB:=@Bool.not_false
def lN:=@List.getElem_of_mem
def aAz:=@List.drop_eq_getElem_cons
def fS:=@Bool.and_true
def iD:=@Nat.lt_succ_self
def jF:=@List.all_eq_true
def kR:=@Bool.true_or
def lC:=@List.getElem?_append_left
def sF:=@Option.map_eq_some_iff
def qC:=@List.getElem?_drop
def fH:=@Nat.zero_add
def mE:=@List.map_toArray
def pE:=@List.getElem?_toArray
def kH:=@Bool.or_false
def iL:=@Nat.add_mul
def eG:=@List.take_of_length_le
def pZ:=@Nat.mul_le_mul_right
def mP:=@List.getElem_mem
def cZ:=@List.mem_append
def oJ:=@List.getElem?_take
def qD:=@Bool.not_eq_true'
def gV:=@decide_eq_decide
def vI:=@List.drop_drop
def kI:=@Bool.or_true
def aFx:=@List.takeWhile_cons_of_pos
def aCQ:=@List.takeWhile_cons_of_neg
def sH:=@List.mem_of_mem_take
def bG:=@List.append_assoc
def vH:=@UInt8.toNat_inj
def nP:=@List.tail_drop
def qF:=@Code.wp_mono
def oK:=@Bool.or_eq_true
def tR:=@decide_true
def fR:=@decide_eq_false_iff_not
def sI:=@Value.slice.injEq
def vE:=@List.mem_of_mem_drop
def bU:=@List.mem_cons_self
def sG:=@List.getElem?_eq_none
def pF:=@List.not_mem_nil
def pY:=@List.getElem?_append_right
def kS:=@true_and
def yF:=@List.drop_eq_nil_of_le
def yE:=@List.mem_or_eq_of_mem_set
def mQ:=@Prod.mk.injEq
def fD:=@List.take_add_one
def vG:=@List.getElem?_set
def lO:=@List.getElem?_map
def qE:=@Nat.add_assoc
def aCP:=@Array.getElem?_setIfInBounds_ne
def sL:=@List.drop_zero
def aBM:=@Array.getElem?_eq_getElem
def aBQ:=@decide_false
def aAB:=@Option.some.inj
def wW:=@List.mem_range
def rK:=@Bool.eq_false_iff
def vJ:=@Addr.mk.injEq
def aAA:=@List.find?_eq_none
def aCT:=@Bool.not_eq_false'
def aCR:=@List.mem_of_find?_eq_some
def cP:=@List.mem_cons_of_mem
def kG:=@List.flatMap_cons
def aIG:=@Nat.lt_or_ge
def vS:=@and_self
def yN:=@Int.le_refl
def aBN:=@beq_eq_false_iff_ne
def rP:=@false_and
def aIh:=@List.drop_length
def yH:=@Nat.min_eq_left
def eH:=@List.append_nil
def aCS:=@Array.getElem?_toList
def aFw:=@Array.getD_eq_getD_getElem?
def eS:=@or_false
def sQ:=@and_true
def sJ:=@of_decide_eq_true
def bV:=@Result.andThen_ok
def cI:=@Sem.run_pure
def lM:=@List.getElem?_cons_zero
def wV:=@List.set_cons_succ
def yG:=@List.set_cons_zero
def qA:=@Array.length_toList
def nO:=@Option.map_some
def aB:=@if_neg
def aF:=@if_pos
def bR:=@if_false
def bT:=@if_true
def dG:=@ne_eq
def cM:=@absurd
def dV:=@congrArg
def qB:=@List.mem_map_of_mem
end Go.AV
namespace Go.Proofs.Tryz
end Go.Proofs.Tryz
namespace Go.AV
theorem gQ{P Q : Prop}(h : P)(f : P -> Q := by(intro h; simpa using h)) : Q := f h
theorem aP{p : Prop}(h : p := by(simp only; omega)) : p := h
theorem mD{P Q : Prop}(h : P)(f : P -> Q := by(intro h; first | exact h | exact h.2 | exact h.2.2 | exact h.2.2.2 | exact h.2.2.2.2 | exact h.2.2.2.2.2 | exact h.2.2.2.2.2.2)) : Q := f h
theorem aC{p : Prop}(h : p := by omega) : p := h
theorem aE{p : Prop}(h : p := by decide) : p := h
theorem bJ{p : Prop}(h : p := by simp) : p := h
theorem gU : (¬False) = True := not_false_eq_true
theorem aG{α : Type _}{a : α}{l : List α} : (a :: l).length = l.length + 1 := rfl
theorem aI{α : Type _}{l r : List α} : (l ++ r).length = l.length + r.length := List.length_append
theorem aH{α : Type _} : ([] : List α).length = 0 := rfl
theorem aK{α : Type _}{h : Type _}{l : List α}(f : α -> h) : (List.map f l).length = l.length := List.length_map f
theorem eA{α : Type _}{b : α}{l : List α}{a : α} : a ∈ b :: l ↔ a = b \/ a ∈ l := List.mem_cons
theorem mO{n m : Nat}(h : n.ble m = true) : n <= m := Nat.le_of_ble_eq_true h
theorem oH{n m : Nat}(h : n.beq m = true) : n = m := Nat.eq_of_beq_eq_true h
theorem aZ{α : Type _}{a : α}{l r : List α} : a :: l ++ r = a :: (l ++ r) := rfl
theorem bA{α : Type _}(l : List α) : [] ++ l = l := rfl
theorem eC{α : Type _}{i : Nat}{l : List α} : (List.drop i l).length = l.length - i := List.length_drop
theorem cT(a b : Bool) : ((a && b) = true) = (a = true /\ b = true) := Bool.and_eq_true a b
theorem cE : (false = true) = False := Bool.false_eq_true
end Go.AV
namespace Go.AV
open Go Go.Proofs Tryz
section
inductive A where
 | int (k:IntKind) (n:Int)
 | bool (b:Bool)
 | str (s:List UInt8)
 | ptr (b off:Nat)
 | eptr (cs:List A) (off:Nat)
 | nilp
 | nils
 | list (tok:Option Nat) (es:List A)
 | agg (cs:List A)
 | fn (f:FuncId) (first caps:List A)
 | nilf
 | iface (t:TypeId) (v:A)
 | nili
 | tuple (vs:List A)
 | ml (b off n:Nat)
 | emp
 | sd (tk:Option Nat) (es:List A)
 | gr (t n:Nat)
 | hl (z:A)
 | pen (t:Nat) (es:List A) (sz:Nat)
 | rm (t n sz:Nat)
 | mg (b n cap:Nat)
instance : Inhabited A := ⟨.nilp⟩
def A.cells:A->List A
 | .agg cs=>cs
 | a=>[a]
def A.one:A->Bool
 | .agg _|.tuple _=>false
 | _=>true
structure Gh where
 pi:Nat->Option (List Value)
 eta:Nat->Nat->Option Value
 beta:Nat->Option Nat
 env:Os × Array (Nat × ByteArray)
structure Gh.le (g g':Gh):Prop where
 pi:∀b pre,g.pi b=some pre->∃ext,g'.pi b=some (pre++ext)
 eta:∀t n v,g.eta t n=some v->g'.eta t n=some v
 beta:∀b k,g.beta b=some k->g'.beta b=some k
 env:g'.env=g.env
structure Gh.les (g g':Gh):Prop where
 le:g.le g'
 eta:g'.eta=g.eta
 beta:g'.beta=g.beta
theorem iE(g:Gh):g.le g:=⟨λ_ pre h=>⟨[],gQ h⟩,λ_ _ _ h=>h,λ_ _ h=>h,rfl⟩
theorem Gh.les.refl(g:Gh):g.les g:=⟨iE g,rfl,rfl⟩
theorem Gh.le.trans{a b c:Gh}(h:a.le b)(u:b.le c):a.le c :=
 ⟨fun k pre m => by
  obtain⟨x,z⟩:=h.pi k pre m;obtain⟨y,B⟩:=u.pi k _ z;exact⟨x++y,gQ B⟩,λt n v m=>u.eta _ _ _ (h.eta _ _ _ m),λb k m=>u.beta _ _ (h.beta _ _ m),u.env.trans h.env⟩
theorem Gh.les.trans{a b c:Gh}(h:a.les b)(m:b.les c):a.les c:=⟨h.le.trans m.le,m.eta.trans h.eta,m.beta.trans h.beta⟩
inductive Rz (g:Gh):A->Value->Prop
 | int (k:IntKind) (n:Int):Rz g (.int k n) (.int k n)
 | bool (b:Bool):Rz g (.bool b) (.bool b)
 | str (s:List UInt8):Rz g (.str s) (.string ⟨s.toArray⟩)
 | ptr (b o k:Nat) (hb:g.beta b=some k):Rz g (.ptr b o) (.pointer (some ⟨k,o,none⟩))
 | emp (a:Addr):Rz g .emp (.slice (some a) 0 0)
 | sd (tk:Option Nat) (es:List A) (a:Addr) (cap:Nat) (hc:cap≠0) (h:Rz g (.list tk es) (.slice (some a) es.length cap)):Rz g (.sd tk es) (.pointer (some a))
 | gr (t n k cap:Nat) (h:g.eta t 0=some (.slice (some ⟨k,0,none⟩) 0 cap)) (hn:n<=cap) (hm:cap<=maxLen):Rz g (.gr t n) (.slice (some ⟨k,0,none⟩) n cap)
 | hl (z:A) (a:Addr) (cap:Nat) (h:Rz g (.list none [z]) (.slice (some a) 1 cap)):Rz g (.hl z) (.slice (some a) 1 cap)
 | pen (t:Nat) (es:List A) (sz b cap:Nat) (h:Rz g (.list (some t) es) (.slice (some ⟨b,0,none⟩) es.length cap)) (hc:es.length+1<=cap) (hs:∀y,y∈es->y.cells.length=sz) :
   Rz g (.pen t es sz) (.slice (some ⟨b,0,none⟩) (es.length+1) cap)
 | rm (t n sz b cap:Nat) (h:g.eta t n=some (.slice (some ⟨b,0,none⟩) n cap)) (hc:n+1<=cap):Rz g (.rm t n sz) (.pointer (some ⟨b,n * sz,none⟩))
 | ml (b off n cap k:Nat) (hb:g.beta b=some k) (hc:n<=cap) (hm:cap<=maxLen):Rz g (.ml b off n) (.slice (some ⟨k,off,none⟩) n cap)
 | mg (b n cap k:Nat) (hb:g.beta b=some k) (hc:n<=cap) (hm:cap<=maxLen):Rz g (.mg b n cap) (.slice (some ⟨k,0,none⟩) n cap)
 | eptr (cs:List A) (o b off:Nat) (pre:List Value) (hp:g.pi b=some pre) (hl:off+cs.length<=pre.length)
   (h1:∀c,c∈cs->c.one=true)
   (h:∀(j:Nat) (c:A) (v:Value),cs[j]?=some c->pre[off+j]?=some v->Rz g c v) :
   Rz g (.eptr cs o) (.pointer (some ⟨b,off+o,none⟩))
 | nilp:Rz g .nilp (.pointer none)
 | nils:Rz g .nils (.slice none 0 0)
 | list (tk:Option Nat) (es:List A) (b off sz cap:Nat) (pre:List Value) (hp:g.pi b=some pre)
   (hl:off+es.length * sz<=pre.length)(hc:es.length<=cap)(hm:cap<=maxLen)
   (hs:∀e,e∈es->e.cells.length=sz)(h1:∀e,e∈es->∀c,c∈e.cells->c.one=true)
   (h:∀(i:Nat) (e:A) (j:Nat) (c:A) (v:Value),es[i]?=some e->e.cells[j]?=some c->pre[off+i * sz+j]?=some v->Rz g c v)
   (ht:∀t,tk=some t->g.eta t es.length=some (.slice (some ⟨b,off,none⟩) es.length cap)) :
   Rz g (.list tk es) (.slice (some ⟨b,off,none⟩) es.length cap)
 | list0 (tk:Option Nat) (a:Option Addr) (cap:Nat) (hm:cap<=maxLen) (ht:∀t,tk=some t->g.eta t 0=some (.slice a 0 cap)) :
   Rz g (.list tk []) (.slice a 0 cap)
 | agg (cs:List A) (vs:List Value) (hl:vs.length=cs.length) (h1:∀c,c∈cs->c.one=true)
   (h:∀(j:Nat) (c:A) (v:Value),cs[j]?=some c->vs[j]?=some v->Rz g c v):Rz g (.agg cs) (.agg vs.toArray)
 | fn (f:FuncId) (fs cs:List A) (us vs:List Value) (hlf:us.length=fs.length) (hlc:vs.length=cs.length)
   (hf:∀(j:Nat) (c:A) (v:Value),fs[j]?=some c->us[j]?=some v->Rz g c v)
   (hc:∀(j:Nat) (c:A) (v:Value),cs[j]?=some c->vs[j]?=some v->Rz g c v) :
   Rz g (.fn f fs cs) (.func (.func f) us.toArray vs.toArray)
 | nilf:Rz g .nilf .nilFunc
 | iface (t:TypeId) (a:A) (v:Value) (h:Rz g a v):Rz g (.iface t a) (.iface t v)
 | nili:Rz g .nili .nilIface
 | tuple (cs:List A) (vs:List Value) (hl:vs.length=cs.length)
   (h:∀(j:Nat) (c:A) (v:Value),cs[j]?=some c->vs[j]?=some v->Rz g c v):Rz g (.tuple cs) (.tuple vs.toArray)
theorem aHg{α:Type}{l ext:List α}{i:Nat}{v:α}(m:i<l.length)(h:(l++ext)[i]?=some v):l[i]?=some v:=by
 rwa[lC m]at h
theorem Rz.mono{g g':Gh}(H:g.le g'){a:A}{v:Value}(h:Rz g a v):Rz g' a v:=by
 induction h with
 | int k n=>exact .int k n
 | bool b=>exact .bool b
 | str s=>exact .str s
 | ptr b o k M=>exact .ptr b o k (H.beta _ _ M)
 | ml b off n cap k M m B=>exact .ml b off n cap k (H.beta _ _ M) m B
 | mg b n cap k M m B=>exact .mg b n cap k (H.beta _ _ M) m B
 | emp a=>exact .emp a
 | sd tk es a cap m _ u=>exact .sd tk es a cap m u
 | gr t n k cap h hn B=>exact .gr t n k cap (H.eta _ _ _ h) hn B
 | hl z a cap _ u=>exact .hl z a cap u
 | pen t es sz b cap _ m U u=>exact .pen t es sz b cap u m U
 | rm t n sz b cap h m=>exact .rm t n sz b cap (H.eta _ _ _ h) m
 | eptr cs o b off pre hp hl S _ u =>
  obtain⟨ext,hx⟩:=H.pi b pre hp;refine .eptr cs o b off _ hx (by simp;omega) S λj c v m y=>?_
  have hj:j<cs.length:=(eF.1 m).1;exact u j c v m (aHg aC y)
 | nilp=>exact .nilp
 | nils=>exact .nils
 | list tk es b off sz cap pre hp hl m B U S _ ht u =>
  obtain⟨ext,hx⟩:=H.pi b pre hp;refine .list tk es b off sz cap _ hx (by simp;omega) m B U S (λi e j c v Z O y=>?_) (λt h=>H.eta _ _ _ (ht t h));have hi:i<es.length:=(eF.1 Z).1;have hj:j<e.cells.length:=(eF.1 O).1;have:=U e (bZ Z)
  have M:i * sz+j<es.length * sz:=by
   have:(i+1) * sz<=es.length * sz:=pZ _ hi;rw[iL]at this;omega
  exact u i e j c v Z O (aHg aC y)
 | list0 tk a cap B ht=>exact .list0 tk a cap B (λt h=>H.eta _ _ _ (ht t h))
 | agg cs vs hl S _ u=>exact .agg cs vs hl S λj c v m y=>u j c v m y
 | fn f fs cs us vs b3 b0 _ _ b2 b4=>exact .fn f fs cs us vs b3 b0 (λj c v m y=>b2 j c v m y) (λj c v m y=>b4 j c v m y)
 | nilf=>exact .nilf
 | iface t a v _ u=>exact .iface t a v u
 | nili=>exact .nili
 | tuple cs vs hl _ u=>exact .tuple cs vs hl λj c v m y=>u j c v m y
def Rzs(g:Gh)(cs:List A)(vs:List Value):Prop :=
 vs.length=cs.length/\∀(j:Nat) (c:A) (v:Value),cs[j]?=some c->vs[j]?=some v->Rz g c v
theorem Rzs.mono{g m:Gh}(u:g.le m){cs:List A}{vs:List Value}(h:Rzs g cs vs):Rzs m cs vs :=
 ⟨h.1,λj c v z y=>(h.2 j c v z y).mono u⟩
theorem Rzs.nil(g:Gh):Rzs g [] []:=⟨rfl,λj c v h=>by simp at h⟩
theorem Rzs.cons{g:Gh}{c:A}{v:Value}{cs:List A}{vs:List Value}(h:Rz g c v)(z:Rzs g cs vs):Rzs g (c::cs) (v::vs) :=
 ⟨by simp [z.1],fun j => by
  cases j with
  | zero=>intro x y m u;simp at m u;subst m;subst u;exact h
  | succ j=>intro x y m u;exact z.2 j x y (gQ m) (gQ u)⟩
theorem Rzs.get{g:Gh}{cs:List A}{vs:List Value}(h:Rzs g cs vs){j:Nat}{c:A}(u:cs[j]?=some c):∃v,vs[j]?=some v/\Rz g c v:=by
 have y:j<cs.length:=(eF.1 u).1;have m:j<vs.length:=by rw[h.1];exact y
 exact⟨vs[j],aX m,h.2 j c _ u (aX m)⟩
theorem Rzs.append{g:Gh}{cs z:List A}{vs us:List Value}(h:Rzs g cs vs)(y:Rzs g z us):Rzs g (cs++z) (vs++us):=by
 refine⟨by simp[h.1,y.1],λj c v u m=>?_⟩;by_cases B:j<cs.length
 .rw[lC B]at u;rw[lC (by rw[h.1];exact B)]at m;exact h.2 j c v u m
 .rw[pY aC]at u;rw[pY (by rw[h.1];omega),h.1]at m;exact y.2 _ c v u m
theorem Rzs.set{g:Gh}{cs:List A}{vs:List Value}(h:Rzs g cs vs){o:Nat}{c:A}{v:Value}(B:Rz g c v):Rzs g (cs.set o c) (vs.set o v):=by
 refine⟨by simp[h.1],λj x y m u=>?_⟩;by_cases z:o=j
 .subst z;rw[vG]at m u;simp only[↓reduceIte]at m u;split at m<;>split at u<;>simp_all
 .rw[List.getElem?_set_ne z]at m u;exact h.2 j x y m u
theorem Rzs.take{g:Gh}{cs:List A}{vs:List Value}(h:Rzs g cs vs)(n:Nat):Rzs g (cs.take n) (vs.take n):=by
 refine⟨by simp[h.1],λj c v m u=>?_⟩;rw[oJ]at m u;split at m
 .rename_i y;rw[aF y]at u;exact h.2 j c v m u
 .simp at m
theorem Rzs.drop{g:Gh}{cs:List A}{vs:List Value}(h:Rzs g cs vs)(n:Nat):Rzs g (cs.drop n) (vs.drop n):=by
 refine⟨by simp[h.1],λj c v u m=>?_⟩;rw[qC]at u m;exact h.2 _ c v u m
theorem Rz.cells{g:Gh}{a:A}{v:Value}(h:Rz g a v):Rzs g a.cells v.cells.toList:=by
 cases h with
 | agg cs vs hl B h=>exact⟨by simpa [A.cells,Value.cells]using hl,by simpa [A.cells,Value.cells]using h⟩
 | int k n=>exact .cons (.int k n) (.nil g)
 | bool b=>exact .cons (.bool b) (.nil g)
 | str s=>exact .cons (.str s) (.nil g)
 | ptr b o k y=>exact .cons (.ptr b o k y) (.nil g)
 | ml b off n cap k y m u=>exact .cons (.ml b off n cap k y m u) (.nil g)
 | mg b n cap k y m u=>exact .cons (.mg b n cap k y m u) (.nil g)
 | emp a=>exact .cons (.emp a) (.nil g)
 | sd tk es a cap m h=>exact .cons (.sd tk es a cap m h) (.nil g)
 | gr t n k cap h hn u=>exact .cons (.gr t n k cap h hn u) (.nil g)
 | hl z a cap h=>exact .cons (.hl z a cap h) (.nil g)
 | pen t es sz b cap h m S=>exact .cons (.pen t es sz b cap h m S) (.nil g)
 | rm t n sz b cap h m=>exact .cons (.rm t n sz b cap h m) (.nil g)
 | eptr cs o b off pre M hl B h=>exact .cons (.eptr cs o b off pre M hl B h) (.nil g)
 | nilp=>exact .cons .nilp (.nil g)
 | nils=>exact .cons .nils (.nil g)
 | list tk es b off sz cap pre M hl m u S B h U=>exact .cons (.list tk es b off sz cap pre M hl m u S B h U) (.nil g)
 | list0 tk a cap u U=>exact .cons (.list0 tk a cap u U) (.nil g)
 | fn f Z cs us vs O H hf m=>exact .cons (.fn f Z cs us vs O H hf m) (.nil g)
 | nilf=>exact .cons .nilf (.nil g)
 | iface t a v h=>exact .cons (.iface t a v h) (.nil g)
 | nili=>exact .cons .nili (.nil g)
 | tuple cs vs hl h=>exact .cons (.tuple cs vs hl h) (.nil g)
theorem Rz.one{g:Gh}{a:A}{v:Value}(h:Rz g a v)(m:a.one=true):v.oneCell'=true:=by
 cases h<;>simp_all [A.one,Value.oneCell']
theorem Rzs.one{g:Gh}{cs:List A}{vs:List Value}(h:Rzs g cs vs)(z:∀c,c∈cs->c.one=true):∀v,v∈vs->v.oneCell'=true:=by
 intro v y;obtain⟨j,u,rfl⟩:=lN y;have m:j<cs.length:=by rw[<-h.1];exact u
 exact(h.2 j cs[j] vs[j] (aX m) (aX u)).one (z _ (mP m))
theorem Rz.forget{g:Gh}{tk:Option Nat}{es:List A}{v:Value}(h:Rz g (.list tk es) v):Rz g (.list none es) v:=by
 cases h with
 | list tk es b off sz cap pre y hl u m z H h B=>exact .list none es b off sz cap pre y hl u m z H h bJ
 | list0 tk a cap m B=>exact .list0 none a cap m bJ
inductive Ob where
 | cells (e:TypeId) (cs:List A)
 | iter (s:List UInt8) (pos:Nat)
structure St where
 ob:Nat->Option Ob
 ov:List (Nat × Ob)
 tk:Nat->Option (Nat × TypeId)
 tv:List (Nat × (Nat × TypeId))
 lim:Nat
 ls:Option (Nat × Nat × A)
def rD{α:Type}:List (Nat × α)->(Nat->Option α)->Nat->Option α
 | [],σ,p=>σ p
 | (q,c)::L,σ,p=>if q=p then some c else rD L σ p
def pB{α:Type}:Nat->α->List (Nat × α)->List (Nat × α)
 | p,c,[]=>[(p,c)]
 | p,c,(q,d)::L=>if q=p then(q,c)::L else(q,d)::pB p c L
theorem aB3{α:Type}(p:Nat)(c:α)(σ:Nat->Option α)(q:Nat):∀L,rD (pB p c L) σ q=if p=q then some c else rD L σ q
 | []=>by simp[pB,rD]
 | (k,d) :: L => by
  unfold pB;by_cases h:k=p
  .subst h;simp only[↓reduceIte,rD];split<;>simp_all
  .simp only[h,↓reduceIte,rD,aB3 p c σ q L];by_cases m:k=q
   .subst m;have:¬ p=k:=λe=>h e.symm
    simp[this]
   .simp[m]
def St.getO(s:St)(b:Nat):Option Ob:=rD s.ov s.ob b
def St.setO(s:St)(b:Nat)(o:Ob):St:={ s with ov:=pB b o s.ov }
def St.newO(s:St)(o:Ob):St:={ s with ov:=pB s.lim o s.ov,lim:=s.lim+1 }
def St.newT(s:St)(n:Nat × TypeId):St:={ s with tv:=pB s.lim n s.tv,lim:=s.lim+1 }
def St.getT(s:St)(t:Nat):Option (Nat × TypeId):=rD s.tv s.tk t
def St.setT(s:St)(t:Nat)(n:Nat × TypeId):St:={ s with tv:=pB t n s.tv }
def St.setL(s:St)(x:Option (Nat × Nat × A)):St:={ s with ls:=x }
def aAr{α:Type}:Nat->List (Nat × α)->List (Nat × α)
 | _,[]=>[]
 | p,(q,d)::L=>if q=p then aAr p L else(q,d)::aAr p L
theorem aGD{α:Type}(p:Nat)(σ:Nat->Option α)(q:Nat):∀L,rD (aAr p L) (λu=>if u=p then none else σ u) q=if q=p then none else rD L σ q
 | []=>by simp[aAr,rD]
 | (k,d) :: L => by
  have z:=aGD p σ q L;unfold aAr;by_cases h:k=p
  .subst h;simp only[↓reduceIte,z,rD];by_cases m:q=k
   .subst m;simp
   .have:¬ k=q:=λe=>m e.symm
    simp[m,this]
  .simp only[h,↓reduceIte,rD,z];by_cases y:k=q
   .subst y;simp[h]
   .simp[y]
def St.delT(s:St)(t:Nat):St:={ s with tk:=λu=>if u=t then none else s.tk u,tv:=aAr t s.tv }
theorem sN(s:St)(t u:Nat):(s.delT t).getT u=if u=t then none else s.getT u:=aGD t s.tk u s.tv
theorem aL(s:St)(b:Nat)(o:Ob)(q:Nat):(s.setO b o).getO q=if b=q then some o else s.getO q:=aB3 b o s.ob q s.ov
theorem St.getT_setO(s:St)(b:Nat)(o:Ob)(q:Nat):(s.setO b o).getT q=s.getT q:=rfl
theorem dM(s:St)(b:Nat)(o:Nat × TypeId)(q:Nat):(s.setT b o).getT q=if b=q then some o else s.getT q:=aB3 b o s.tk q s.tv
theorem aIE(s:St)(o:Ob)(q:Nat):(s.newO o).getO q=if s.lim=q then some o else s.getO q:=aB3 s.lim o s.ob q s.ov
theorem aFL(s:St)(o:Nat × TypeId)(q:Nat):(s.newT o).getT q=if s.lim=q then some o else s.getT q:=aB3 s.lim o s.tk q s.tv
theorem fQ(s:St)(x:Option (Nat × Nat × A))(q:Nat):(s.setL x).getO q=s.getO q:=rfl
theorem yK(s:St)(x:Option (Nat × Nat × A))(q:Nat):(s.setL x).getT q=s.getT q:=rfl
theorem pW(s:St)(b:Nat)(o:Nat × TypeId)(q:Nat):(s.setT b o).getO q=s.getO q:=rfl
structure St.ge (s s':St):Prop where
 ob:∀b o,s'.getO b=some o->s.getO b=some o
 tk:∀t n,s'.getT t=some n->s.getT t=some n
 ls:∀x,s'.ls=some x->s.ls=some x
theorem aM(s:St):s.ge s:=⟨λ_ _ h=>h,λ_ _ h=>h,λ_ h=>h⟩
theorem St.ge.trans{a b c:St}(h:a.ge b)(m:b.ge c):a.ge c:=⟨λ_ _ x=>h.ob _ _ (m.ob _ _ x),λ_ _ x=>h.tk _ _ (m.tk _ _ x),λ_ x=>h.ls _ (m.ls _ x)⟩
structure Ctx where
 P:Program
 det:Bool
 gl:Nat->Option (List A)
def Ctx.sz(C:Ctx)(t:TypeId):Nat:=((C.P.info? t).map (·.size)).getD 0
def ObRz(g:Gh):Ob->Option Obj->Prop
 | .cells e cs,x=>∃vs rest,x=some (.cells (vs++rest).toArray e)/\Rzs g cs vs/\∀c,c∈cs->c.one=true
 | .iter s pos,x=>x=some (.stringIter ⟨s.toArray⟩ pos)
theorem ObRz.mono{g m:Gh}(u:g.le m){o:Ob}{x:Option Obj}(h:ObRz g o x):ObRz m o x:=by
 cases o with
 | cells e cs=>obtain⟨vs,rest,y,h2,z⟩:=h;exact⟨vs,rest,y,h2.mono u,z⟩
 | iter s pos=>exact h
abbrev Fr:=Nat->Option (Obj × Option (List Value))
def Gh.ends(g:Gh)(t n:Nat)(x:A):Prop:=∃b cap pre,g.eta t (n+1)=some (.slice (some ⟨b,0,none⟩) (n+1) cap)/\g.eta t n=some (.slice (some ⟨b,0,none⟩) n cap) /\
 n+1<=cap/\cap<=maxLen/\g.pi b=some pre/\(n+1) * x.cells.length<=pre.length/\(∀c,c∈x.cells->c.one=true) /\
 ∀(j:Nat) (c:A) (v:Value),x.cells[j]?=some c->pre[n * x.cells.length+j]?=some v->Rz g c v
theorem Gh.ends.mono{g y:Gh}(m:g.le y){t n:Nat}{x:A}(h:g.ends t n x):y.ends t n x:=by
 obtain⟨b,cap,pre,U,h2,M,H,B,Z,h7,O⟩:=h;obtain⟨ext,z⟩:=m.pi b pre B;refine⟨b,cap,_,m.eta _ _ _ U,m.eta _ _ _ h2,M,H,z,by simp;omega,h7,λj c v u S=>(O j c v u (aHg ?_ S)).mono m⟩;have:=(eF.1 u).1;rw[iL]at Z;omega
structure R (C:Ctx) (F:Fr) (g:Gh) (s:St) (w:World):Prop where
 obj:∀b o,s.getO b=some o->∃k,g.beta b=some k/\ObRz g o w.heap[k]?/\g.pi k=none/\F k=none
 tok:∀t n e,s.getT t=some (n,e)->∃v xs,g.eta t n=some v/\w.ownsRow 0 e (C.sz e) v n xs/\(∀m x,g.eta t m=some x->m<=n) /\
  ∀b,v.ownBlock=some b->g.pi b=some xs/\F b=none
 sep:∀t t' n n' v v' b,t≠t'->s.getT t=some n->s.getT t'=some n'->g.eta t n.1=some v->g.eta t' n'.1=some v' ->
  v.ownBlock=some b->v'.ownBlock=some b->False
 pis:∀b pre,g.pi b=some pre->∃rest e fr,w.heap[b]?=some (.cells (pre++rest).toArray e fr)
 frm:∀b o,F b=some o->w.heap[b]?=some o.1/\g.pi b=o.2
 glb:∀b cs,C.gl b=some cs->∃pre ty fr,F b=some (.cells pre.toArray ty fr,some pre)/\pre.length=cs.length/\(∀c,c∈cs->c.one=true) /\
  ∀(j:Nat) (c:A) (v:Value),cs[j]?=some c->pre[j]?=some v->Rz g c v
 fsh:∃N,∀t,N<=t->s.getT t=none/\(∀m,g.eta t m=none)/\g.beta t=none
 bet:∀b k,g.beta b=some k->k<w.heap.size
 inj:∀b b' k,g.beta b=some k->g.beta b'=some k->b=b'
 dtm:C.det=true->∀b,s.lim<=b->g.beta b=none/\∀m,g.eta b m=none
 lst:∀x,s.ls=some x->g.ends x.1 x.2.1 x.2.2
 bfr:∀b k,g.beta b=some k->F k=none
 env:(w.os,w.output)=g.env
section
variable {C:Ctx} {F:Fr} {g:Gh} {s:St} {w:World}
theorem R.weaken(h:R C F g s w){s':St}(m:s.ge s')(hl:C.det=true->s.lim<=s'.lim):R C F g s' w where
 env:=h.env
 obj:=λb o ho=>h.obj b o (m.ob b o ho)
 tok:=λt n e u=>h.tok t n e (m.tk t _ u)
 sep:=λt M n H v U b y u z=>h.sep t M n H v U b y (m.tk t n u) (m.tk M H z)
 pis:=h.pis
 frm:=h.frm
 glb:=h.glb
 fsh:=by
  obtain⟨N,B⟩:=h.fsh;refine⟨N,λt u=>⟨?_,(B t u).2⟩⟩;cases O:s'.getT t with
  | none=>rfl
  | some n=>have:=m.tk t n O;rw[(B t u).1]at this;cases this
 bet:=h.bet
 inj:=h.inj
 dtm:=λhd b Z=>h.dtm hd b (mR (hl hd) Z)
 lst:=λx S=>h.lst x (m.ls x S)
 bfr:=h.bfr
theorem R.setL(h:R C F g s w){x:Option (Nat × Nat × A)}(m:∀y,x=some y->g.ends y.1 y.2.1 y.2.2):R C F g (s.setL x) w where
 env:=h.env
 obj:=h.obj
 tok:=h.tok
 sep:=h.sep
 pis:=h.pis
 frm:=h.frm
 glb:=h.glb
 fsh:=h.fsh
 bet:=h.bet
 inj:=h.inj
 dtm:=h.dtm
 lst:=m
 bfr:=h.bfr
theorem R.heap(h:R C F g s w){w':World}(m:w'.heap=w.heap)(u:(w'.os,w'.output)=(w.os,w.output):=by rfl):R C F g s w' where
 env:=u.trans h.env
 obj:=by rw[m];exact h.obj
 tok:=by
  intro t n e y;obtain⟨v,xs,z,h2,H,B⟩:=h.tok t n e y;refine⟨v,xs,z,?_,H,B⟩;simpa [World.ownsRow,m]using h2
 sep:=h.sep
 pis:=by rw[m];exact h.pis
 frm:=by rw[m];exact h.frm
 glb:=h.glb
 fsh:=h.fsh
 bet:=by rw[m];exact h.bet
 inj:=h.inj
 dtm:=h.dtm
 lst:=h.lst
 bfr:=h.bfr
theorem R.lt_pi(h:R C F g s w){b:Nat}{pre:List Value}(ho:g.pi b=some pre):b<w.heap.size:=by
 obtain⟨rest,e,fr,m⟩:=h.pis b pre ho;exact(jU.1 m).1
theorem R.lt_frm(h:R C F g s w){b:Nat}{o:Obj × Option (List Value)}(ho:F b=some o):b<w.heap.size :=
 (jU.1 (h.frm b o ho).1).1
theorem R.gpi(h:R C F g s w){b:Nat}{cs:List A}(H:C.gl b=some cs):∃pre ty fr,w.heap[b]?=some (.cells pre.toArray ty fr)/\g.pi b=some pre/\pre.length=cs.length/\(∀c,c∈cs->c.one=true) /\
  ∀(j:Nat) (c:A) (v:Value),cs[j]?=some c->pre[j]?=some v->Rz g c v:=by
 obtain⟨pre,ty,fr,u,h2,z,y⟩:=h.glb b cs H;obtain⟨m,B⟩:=h.frm b _ u;exact⟨pre,ty,fr,m,B,h2,z,y⟩
theorem aPQ{w w':World}(u:∀b,b<w.heap.size->w'.heap[b]?=w.heap[b]?){k:Nat}(h:k<w.heap.size):k<w'.heap.size:=by
 have m:=u k h;rw[aBM h]at m;exact(jU.1 m).1
theorem R.keep(h:R C F g s w){w':World}(m:∀b,b<w.heap.size->w'.heap[b]?=w.heap[b]?)(M:(w'.os,w'.output)=(w.os,w.output):=by rfl):R C F g s w' where
 env:=M.trans h.env
 obj:=λb o ho=>by
  obtain⟨k,u,h2⟩:=h.obj b o ho;exact⟨k,u,by rw[m k (h.bet b k u)];exact h2⟩
 tok:=by
  intro t n e Z;obtain⟨v,xs,u,h2,S,O⟩:=h.tok t n e Z;refine⟨v,xs,u,⟨h2.1,?_⟩,S,O⟩;rcases h2.2 with h|⟨b,cap,y,U,z,H,rest⟩
  .exact .inl h
  .exact .inr ⟨b,cap,y,U,z,by rw[m b (jU.1 H).1];exact H,rest⟩
 sep:=h.sep
 pis:=λb pre B=>by rw[m b (h.lt_pi B)];exact h.pis b pre B
 frm:=λb o ho=>by rw[m b (h.lt_frm ho)];exact h.frm b o ho
 glb:=h.glb
 fsh:=h.fsh
 bet:=λb k z=>aPQ m (h.bet b k z)
 inj:=h.inj
 dtm:=h.dtm
 lst:=h.lst
 bfr:=h.bfr
end
end
section
section
variable {C:Ctx} {F:Fr} {g:Gh} {s:St} {w:World}
theorem yJ(w:World)(o:Obj):(w.alloc o).heap[w.heap.size]?=some o:=by
 show(w.heap.push o)[w.heap.size]?=some o;simp
theorem wX(w:World)(o:Obj){b:Nat}(h:b<w.heap.size):(w.alloc o).heap[b]?=w.heap[b]?:=by
 show(w.heap.push o)[b]?=w.heap[b]?;rw[Array.getElem?_push];have:b≠w.heap.size:=Nat.ne_of_lt h;simp[this]
theorem R.pi_new(h:R C F g s w):g.pi w.heap.size=none:=by
 cases m:g.pi w.heap.size with
 | none=>rfl
 | some pre=>exact cM (h.lt_pi m) (Nat.lt_irrefl _)
theorem R.frm_new(h:R C F g s w):F w.heap.size=none:=by
 cases m:F w.heap.size with
 | none=>rfl
 | some pre=>exact cM (h.lt_frm m) (Nat.lt_irrefl _)
theorem R.bet_new(h:R C F g s w)(b:Nat):g.beta b≠some w.heap.size:=λm=>cM (h.bet b _ m) (Nat.lt_irrefl _)
def Gh.bx(g:Gh)(b k:Nat):Gh:={ g with beta:=λc=>if c=b then some k else g.beta c }
theorem aAW{g:Gh}{b:Nat}(h:g.beta b=none)(k:Nat):g.le (g.bx b k) :=
 ⟨fun c pre u => ⟨[],by simpa [Gh.bx] using u⟩,fun _ _ _ h => h,fun c j m => by
  have:c≠b:=by rintro rfl;rw[h]at m;cases m
  simp[Gh.bx,this,m],rfl⟩
theorem R.free(h:R C F g s w){b:Nat}(u:g.beta b=none):s.getO b=none:=by
 cases ho:s.getO b with
 | none=>rfl
 | some o=>obtain⟨k,m,_⟩:=h.obj b o ho;rw[u]at m;cases m
theorem R.freeT(h:R C F g s w){t:Nat}(u:∀n,g.eta t n=none):s.getT t=none:=by
 cases ho:s.getT t with
 | none=>rfl
 | some o=>obtain⟨n,e⟩:=o;obtain⟨v,xs,m,_⟩:=h.tok t n e ho;rw[u]at m;cases m
theorem R.newObj(h:R C F g s w){o:Obj}{ob:Ob}(ho:ObRz g ob (some o)){b:Nat}(hb:g.beta b=none){s':St}
  (hO:∀q,s'.getO q=if b=q then some ob else s.getO q)(hT:∀q,s'.getT q=s.getT q)(hL:s'.ls=s.ls)(hl:C.det=true->s.lim<=s'.lim/\b<s'.lim) :
  R C F (g.bx b w.heap.size) s' (w.alloc o):=by
 have u:=aAW hb w.heap.size;have U:∀k,k<w.heap.size->(w.alloc o).heap[k]?=w.heap[k]?:=λk U=>wX w o U
 have B:=h.keep U;refine⟨λc x y=>?_,?_,?_,B.pis,B.frm,λc cs m=>?_,?_,?_,?_,λhd c m=>?_,λx y=>(h.lst x (by rw[<-hL];exact y)).mono u,λc k m=>?_,h.env⟩
 .rw[hO]at y;by_cases O:b=c
  .subst O;simp only[↓reduceIte,bQ]at y;subst y;exact⟨w.heap.size,by simp[Gh.bx],by rw[yJ];exact ho.mono u,h.pi_new,h.frm_new⟩
  .simp only[O,↓reduceIte]at y;obtain⟨k,M,h2,h3⟩:=B.obj c x y;exact⟨k,u.beta _ _ M,h2.mono u,h3⟩
 .intro t n e z;rw[hT]at z;obtain⟨v,xs,M,h2,h3,h4⟩:=B.tok t n e z;exact⟨v,xs,M,h2,h3,h4⟩
 .intro t t' n n' v v' c Z z H;rw[hT]at z H;exact B.sep t t' n n' v v' c Z z H
 .obtain⟨pre,ty,fr,hp,hl,M,hr⟩:=h.glb c cs m;exact⟨pre,ty,fr,hp,hl,M,λj c v m hv=>(hr j c v m hv).mono u⟩
 .obtain⟨N,S⟩:=h.fsh;refine⟨max N (b+1),λt z=>⟨by rw[hT];exact(S t aC).1,(S t aC).2.1,?_⟩⟩;have:t≠b:=by omega
  simp[Gh.bx,this,(S t aC).2.2]
 .intro c k m;simp only[Gh.bx]at m;have e:(w.alloc o).heap.size=w.heap.size+1:=by show(w.heap.push o).size=_;simp
  split at m
  .cases m;omega
  .have:=h.bet c k m;omega
 .intro c d k m hd;simp only[Gh.bx]at m hd;split at m<;>split at hd
  .omega
  .cases m;exact cM hd (h.bet_new d)
  .cases hd;exact cM m (h.bet_new c)
  .exact h.inj c d k m hd
 .obtain⟨l1,l2⟩:=hl hd;obtain⟨d1,d2⟩:=h.dtm hd c aC;have:c≠b:=by omega
  exact⟨by simp[Gh.bx,this,d1],d2⟩
 .simp only[Gh.bx]at m;split at m
  .cases m;exact h.frm_new
  .exact h.bfr c k m
theorem R.some_free(h:R C F g s w):∃b,g.beta b=none:=by
 obtain⟨N,m⟩:=h.fsh;exact⟨N,(m N (aV _)).2.2⟩
theorem R.setObj(h:R C F g s w){b k:Nat}{o:Ob}(hs:s.getO b=some o)(y:g.beta b=some k){ob:Ob}{w':World}
  (B:∀j,j≠k->w'.heap[j]?=w.heap[j]?)(ho:ObRz g ob w'.heap[k]?)(he:(w'.os,w'.output)=(w.os,w.output):=by rfl):R C F g (s.setO b ob) w':=by
 obtain⟨k',U,_,u,hF⟩:=h.obj b o hs;rw[y]at U;cases U;refine⟨λc x m=>?_,?_,h.sep,λc pre S=>?_,λc x m=>?_,h.glb,h.fsh,λc j hc=>?_,h.inj,h.dtm,h.lst,h.bfr,he.trans h.env⟩
 .rw[aL]at m;by_cases H:b=c
  .subst H;simp only[↓reduceIte,bQ]at m;subst m;exact⟨k,y,ho,u,hF⟩
  .simp only[H,↓reduceIte]at m;obtain⟨j,z,h2⟩:=h.obj c x m;have:j≠k:=by rintro rfl;exact H (h.inj b c j y z)
   exact⟨j,z,by rw[B j this];exact h2⟩
 .intro t n e ht;obtain⟨v,xs,z,h2,h3,Z⟩:=h.tok t n e ht;refine⟨v,xs,z,⟨h2.1,?_⟩,h3,Z⟩;rcases h2.2 with M|⟨j,cap,O,M,H,hh,rest⟩
  .exact .inl M
  .refine .inr ⟨j,cap,O,M,H,?_,rest⟩
   have:j≠k:=by
    rintro rfl;have:=(Z j (by rw[M];rfl)).1;rw[u]at this;cases this
   rw[B j this];exact hh
 .have:c≠k:=by rintro rfl;rw[u]at S;cases S
  rw[B c this];exact h.pis c pre S
 .have:c≠k:=by rintro rfl;rw[hF]at m;cases m
  rw[B c this];exact h.frm c x m
 .have z:=h.bet c j hc;by_cases hj:j=k
  .subst hj;cases ob with
   | cells e0 cs=>obtain⟨vs,rest,m,_⟩:=ho;exact(jU.1 m).1
   | iter x p=>exact(jU.1 ho).1
  .have h2:=B j hj;rw[aBM z]at h2;exact(jU.1 h2).1
def Gh.know(g:Gh)(b:Nat)(vs:List Value):Gh:={ g with pi:=λk=>if k=b then some vs else g.pi k }
theorem aC8{g:Gh}{b:Nat}(h:g.pi b=none)(vs:List Value):g.le (g.know b vs) :=
 ⟨fun k pre m => ⟨[],by
  have:k≠b:=by rintro rfl;rw[h]at m;cases m
  simp[Gh.know,this,m]⟩,λ_ _ _ h=>h,λ_ _ h=>h,rfl⟩
theorem aO9{g:Gh}{b:Nat}(h:g.pi b=none)(vs:List Value):g.les (g.know b vs):=⟨aC8 h vs,rfl,rfl⟩
theorem R.ghost(h:R C F g s w){y:Gh}(M:g.le y)
  (Z:∀b k,g.beta b=some k->g.pi k=none->y.pi k=none)
  (H:∀b pre,y.pi b=some pre->∃rest e fr,w.heap[b]?=some (.cells (pre++rest).toArray e fr))
  (B:∀t n e v b xs,s.getT t=some (n,e)->g.eta t n=some v->v.ownBlock=some b->g.pi b=some xs->y.pi b=some xs)
  (u:y.eta=g.eta)(m:y.beta=g.beta)(b0:∀b o,F b=some o->y.pi b=g.pi b):R C F y s w where
 env:=h.env.trans M.env.symm
 obj:=λb o ho=>by
  obtain⟨k,z,h2,U,S⟩:=h.obj b o ho;exact⟨k,M.beta _ _ z,h2.mono M,Z b k z U,S⟩
 tok:=by
  intro t n e ht;obtain⟨v,xs,z,h2,U,S⟩:=h.tok t n e ht;exact⟨v,xs,by rw[u];exact z,h2,by rw[u];exact U,λb O=>⟨B t n e v b xs ht z O (S b O).1,(S b O).2⟩⟩
 sep:=by rw[u];exact h.sep
 pis:=H
 frm:=λb o ho=>by rw[b0 b o ho];exact h.frm b o ho
 glb:=λb cs O=>by
  obtain⟨pre,ty,fr,hp,hl,z,hr⟩:=h.glb b cs O;exact⟨pre,ty,fr,hp,hl,z,λj c v hc hv=>(hr j c v hc hv).mono M⟩
 fsh:=by rw[u,m];exact h.fsh
 bet:=by rw[m];exact h.bet
 inj:=by rw[m];exact h.inj
 dtm:=by rw[u,m];exact h.dtm
 lst:=λx hx=>(h.lst x hx).mono M
 bfr:=by rw[m];exact h.bfr
theorem R.newRow(h:R C F g s w)(vs:List Value)(e:TypeId)(rest:List Value)(fr:Nat × Nat:=(0,0)) :
  R C F (g.know w.heap.size vs) s (w.alloc (.cells (vs++rest).toArray e fr))/\g.les (g.know w.heap.size vs):=by
 have y:=aC8 h.pi_new vs
 refine⟨(h.keep (w':=w.alloc (.cells (vs++rest).toArray e fr)) (λb u=>wX w _ u)).ghost y ?_ ?_ ?_ rfl rfl (λb o ho=>by
  have:b≠w.heap.size:=Nat.ne_of_lt (h.lt_frm ho);simp only[Gh.know,this,↓reduceIte]),aO9 h.pi_new vs⟩
 .intro b k u m;have:k≠w.heap.size:=Nat.ne_of_lt (h.bet b k u);simp only[Gh.know,this,↓reduceIte];exact m
 .intro b pre m;by_cases u:b=w.heap.size
  .subst u;simp only[Gh.know,↓reduceIte,bQ]at m;subst m;exact⟨rest,e,fr,yJ w _⟩
  .simp only[Gh.know,u,↓reduceIte]at m;rw[wX w _ (h.lt_pi m)];exact h.pis b pre m
 .intro t n e v b xs _ _ u z;have:b≠w.heap.size:=Nat.ne_of_lt (h.lt_pi z);simp only[Gh.know,this,↓reduceIte];exact z
def flat(es:List A):List A:=es.flatMap A.cells
theorem aI6(a b:List A):flat (a++b)=flat a++flat b:=by simp[flat]
theorem yM{es:List A}{sz:Nat}(h:∀e,e∈es->e.cells.length=sz):(flat es).length=es.length * sz:=by
 induction es with
 | nil=>simp[flat]
 | cons e es u =>
  have:=u (λx m=>h x (by simp[m]));simp only[flat,kG,aI,aG]at *;rw[this,h e bJ,iL];omega
theorem aLb{es:List A}{sz:Nat}(h:∀e,e∈es->e.cells.length=sz){i:Nat}{e:A}(m:es[i]?=some e){j:Nat}{c:A}
  (z:e.cells[j]?=some c):(flat es)[i * sz+j]?=some c:=by
 induction es generalizing i with
 | nil=>simp at m
 | cons x es B =>
  simp only[flat,kG];cases i with
  | zero =>
   simp only[lM,bQ]at m;subst m;have hl:j<x.cells.length:=(eF.1 z).1;rw[Nat.zero_mul,fH,lC hl,z]
  | succ i =>
   have u:=h x bJ;have:=B (λy H=>h y (by simp[H])) (i:=i) (gQ m);rw[pY (by rw[u,iL];omega),u];have e:(i+1) * sz+j-sz=i * sz+j:=by rw[iL];omega
   rw[e];exact this
theorem yT{g:Gh}{tk:Option Nat}{es:List A}{b sz cap off:Nat}{pre vs:List Value}(S:g.pi b=some pre)(h:pre.drop off=vs)(B:Rzs g (flat es) (vs.take (es.length * sz)))
  (m:∀e,e∈es->e.cells.length=sz)(h1:∀e,e∈es->∀c,c∈e.cells->c.one=true)(O:es.length<=cap)(hm:cap<=maxLen)
  (ho:off<=pre.length)
  (Z:∀t,tk=some t->g.eta t es.length=some (.slice (some ⟨b,off,none⟩) es.length cap)) :
  Rz g (.list tk es) (.slice (some ⟨b,off,none⟩) es.length cap):=by
 have hl:(vs.take (es.length * sz)).length=es.length * sz:=by rw[B.1,yM m]
 have u:es.length * sz<=vs.length:=by rw[cQ]at hl;omega
 subst h;rw[eC]at u;refine .list tk es b off sz cap pre S aC O hm m h1 (λi e j c v z H M=>?_) Z
 have hb:i * sz+j<es.length * sz:=by
  have y:i<es.length:=(eF.1 z).1;have U:j<e.cells.length:=(eF.1 H).1;have:=m e (bZ z);have:(i+1) * sz<=es.length * sz:=pZ _ y;rw[iL]at this;omega
 refine B.2 (i * sz+j) c v (aLb m z H) ?_;rw[oJ,aF hb,qC,<-qE];exact M
theorem Rz.list_inv{g:Gh}{tk:Option Nat}{es:List A}{v:Value}(h:Rz g (.list tk es) v) :
  ∃a cap,v=.slice a es.length cap/\cap<=maxLen/\es.length<=cap/\(∀t,tk=some t->g.eta t es.length=some v)/\(es=[]\/∃b off sz pre,a=some ⟨b,off,none⟩/\g.pi b=some pre/\off+es.length * sz<=pre.length /\
   (∀e,e∈es->e.cells.length=sz)/\(∀e,e∈es->∀c,c∈e.cells->c.one=true) /\
   (∀(i:Nat) (e:A) (j:Nat) (c:A) (v:Value),es[i]?=some e->e.cells[j]?=some c->pre[off+i * sz+j]?=some v->Rz g c v)):=by
 cases h with
 | list tk es b off sz cap pre z hl y m B H h u =>
  exact⟨_,cap,rfl,m,y,u,.inr ⟨b,off,sz,pre,rfl,z,hl,B,H,h⟩⟩
 | list0 tk a cap m u=>exact⟨a,cap,rfl,m,aU _,u,.inl rfl⟩
theorem Rz.to_flat{g:Gh}{tk:Option Nat}{es:List A}{v:Value}(h:Rz g (.list tk es) v) :
  ∃a cap,v=.slice a es.length cap/\cap<=maxLen/\es.length<=cap/\(es=[]\/∃b off sz pre,a=some ⟨b,off,none⟩/\g.pi b=some pre/\off+es.length * sz<=pre.length /\
   (∀e,e∈es->e.cells.length=sz)/\(∀e,e∈es->∀c,c∈e.cells->c.one=true)/\Rzs g (flat es) ((pre.drop off).take (es.length * sz))):=by
 cases h with
 | list tk es b off sz cap pre hp hl Z B u h1 h ht =>
  refine⟨_,cap,rfl,B,Z,.inr ⟨b,off,sz,pre,rfl,hp,hl,u,h1,?_,?_⟩⟩
  .rw[yM u,cQ,eC];omega
  .intro k c v m z;rw[oJ]at z;split at z
   .rename_i b0;rw[qC]at z
    have H:∀(l:List A) (k:Nat) (c:A),(∀e,e∈l->e.cells.length=sz)->(flat l)[k]?=some c ->
      ∃i e j,l[i]?=some e/\e.cells[j]?=some c/\k=i * sz+j:=by
     intro l
     induction l with
     | nil=>intro k c _ m;simp[flat]at m
     | cons x l ih =>
      intro k c u m;simp only[flat,kG]at m;by_cases U:k<x.cells.length
      .rw[lC U]at m;exact⟨0,x,k,by simp,m,by simp⟩
      .rw[pY aC,u x bJ]at m;obtain⟨i,e,j,M,O,S⟩:=ih _ c (λy hy=>u y (by simp[hy])) m;have:=u x bJ;exact⟨i+1,e,j,gQ M,O,by rw[iL];omega⟩
    obtain⟨i,e,j,M,O,S⟩:=H es k c u m;refine h i e j c v M O ?_;rw[S]at z;rw[qE];exact z
   .simp at z
 | list0 tk a cap B ht=>exact⟨a,cap,rfl,B,aU _,.inl rfl⟩
end
end
abbrev Env:=List (Nat × A)
def Env.get:Env->Nat->Option A
 | [],_=>none
 | (k,v)::e,t=>if k=t then some v else Env.get e t
def Env.put:Env->Nat->A->Env
 | [],t,v=>[(t,v)]
 | (k,u)::e,t,v=>if k=t then(t,v)::e else(k,u)::Env.put e t v
def Env.del:Env->Nat->Env
 | [],_=>[]
 | (k,u)::e,t=>if k=t then Env.del e t else(k,u)::Env.del e t
def Env.keep(V:List Nat):Env->Env
 | []=>[]
 | (k,u)::e=>if V.elem k then(k,u)::Env.keep V e else Env.keep V e
theorem nQ(e:Env)(t:Nat)(v:A)(u:Nat):(e.put t v).get u=if t=u then some v else e.get u:=by
 induction e with
 | nil=>simp[Env.put,Env.get]
 | cons x e y =>
  obtain⟨k,w⟩:=x;simp only[Env.put];by_cases h:k=t
  .subst h;simp only[↓reduceIte,Env.get];split<;>simp_all
  .simp only[h,↓reduceIte,Env.get,y];by_cases m:k=u
   .subst m;have:¬ t=k:=λe=>h e.symm
    simp[this]
   .simp[m]
theorem aI0(e:Env)(t u:Nat):(e.del t).get u=if t=u then none else e.get u:=by
 induction e with
 | nil=>simp[Env.del,Env.get]
 | cons x e y =>
  obtain⟨k,w⟩:=x;simp only[Env.del];by_cases h:k=t
  .subst h;simp only[↓reduceIte,y,Env.get];split<;>simp_all
  .simp only[h,↓reduceIte,Env.get,y];by_cases m:k=u
   .subst m;have:¬ t=k:=λe=>h e.symm
    simp[this]
   .simp[m]
theorem aOJ(V:List Nat)(e:Env)(u:Nat)(a:A)(h:(e.keep V).get u=some a):e.get u=some a:=by
 induction e with
 | nil=>simp[Env.keep,Env.get]at h
 | cons x e H =>
  obtain⟨k,w⟩:=x;simp only[Env.keep]at h;simp only[Env.get];by_cases B:k=u
  .subst B;simp only[↓reduceIte];split at h
   .simpa [Env.get]using h
   .rename_i M
    have:∀e:Env,(Env.keep V e).get k=none:=by
     intro e
     induction e with
     | nil=>rfl
     | cons y e m =>
      obtain⟨j,z⟩:=y;simp only[Env.keep];split
      .rename_i O;have:¬ j=k:=by rintro rfl;exact M O
       simp[Env.get,this,m]
      .exact m
    rw[this]at h;cases h
  .simp only[B,↓reduceIte];split at h
   .simp only[Env.get,B,↓reduceIte]at h;exact H h
   .exact H h
inductive TK where
 | int (k:IntKind)|bool|string
 | slice (e:TypeId)|array (n:Nat) (e:TypeId)|struct (fs:List (Nat × Nat × Bool))
 | iface|other
structure TI where
 k:TK
 sz:Nat
 bytes:Nat
 zero:List A
def TK.agg:TK->Bool
 | .array ..|.struct _=>true
 | _=>false
def aAk:Option TypeDesc->Bool
 | some (.struct _)|some (.array _ _)=>true
 | _=>false
def TK.ok(P:Program)(k:TK)(d:TypeDesc):Prop :=
 match k with
 | .int k=>d=.int k
 | .bool=>d=.bool
 | .string=>d=.string
 | .slice e=>d=.slice e
 | .array n e=>d=.array n e
 | .struct m=>∃h,d=.struct h/\h.size=m.length/\∀(i o s:Nat) (a:Bool),m[i]?=some (o,s,a) ->
   ∃f,h[i]?=some f/\f.offset=o/\(P.info? f.type).map (·.size)=some s/\s≠0/\(P.underlying f.type).isSome=true/\aAk (P.underlying f.type)=a
 | .iface=>∃ms,d=.interface ms
 | .other=>aAk (some d)=false/\(∀ms,d≠.interface ms)
structure TI.ok (P:Program) (t:TypeId) (ti:TI):Prop where
 info:∃i z,P.info? t=some i/\i.size=ti.sz/\i.bytes=ti.bytes/\i.zero=some z/\(∀g,Rzs g ti.zero z.cells.toList)
 one:∀c,c∈ti.zero->c.one=true
 len:ti.zero.length=ti.sz
 und:∃d,P.underlying t=some d/\ti.k.ok P d
structure Cx extends Ctx where
 tt:TypeId->Option TI
 htt:∀t ti,tt t=some ti->ti.ok P t
 cv:TypeId->TypeId->Option TypeId
 hcv:∀a b e,cv a b=some e->∀(w:World) (k:Nat) (vs:Array Value),w.heap[k]?=some (.cells vs e)->P.cellsOf e<=vs.size ->
  (convert a b (.pointer (some ⟨k,0,none⟩))).run P w=.ok (.pointer (some ⟨k,0,none⟩)) w
 hcs:∀a b e,cv a b=some e->(tt e).map (·.sz)=some (P.cellsOf e)
 cw:TypeId->Option TypeId:=λ_=>none
 hcw:∀a b e' e,cv a b=some e'->cw e=some e'->∀(w:World) (k:Nat) (vs:Array Value),w.heap[k]?=some (.cells vs e)->P.cellsOf e'<=vs.size ->
  (convert a b (.pointer (some ⟨k,0,none⟩))).run P w=.ok (.pointer (some ⟨k,0,none⟩)) w:=by(intro a b e' e _ h;cases h)
 us:TypeId->Option TypeId
 hus:∀t e,us t=some e->P.underlying t=some (.pointer e)/\P.cellsOf e=1
 mu:Nat:=0
 eq:TypeId->A->A->Option Bool
 heq:∀t a b r,eq t a b=some r->∀(g:Gh) (va vb:Value) (w:World) (op:BinOp) (x y:Operand),(op=.eql\/op=.neq)->Rz g a va->Rz g b vb ->
  (eqGuard op t x y va vb).run P w=.ok () w/\(binOp op t va vb).run P w=.ok (.bool (if op=.eql then r else !r)) w
 nl:TypeId->Bool:=λ_=>false
 hnl:∀t,nl t=true->∀(a:Option Addr) (n cap:Nat) (w:World) (op:BinOp) (x y:Operand),(op=.eql\/op=.neq)->∃r:Bool,
  (eqGuard op t x y (.slice a n cap) (.slice none 0 0)).run P w=.ok () w/\(binOp op t (.slice a n cap) (.slice none 0 0)).run P w=.ok (.bool (if op=.eql then r else !r)) w:=by(intro t h;cases h)
def aCf:Value->Option A
 | .int k n=>some (.int k n)
 | .bool b=>some (.bool b)
 | .string s=>some (.str s.data.toList)
 | .pointer none=>some .nilp
 | .slice none 0 0=>some .nils
 | .nilFunc=>some .nilf
 | .nilIface=>some .nili
 | _=>none
def aBf:List Value->Option (List A)
 | []=>some []
 | v::vs=>match aCf v,aBf vs with
  | some a,some az=>some (a::az)
  | _,_=>none
def aEi:Value->Option A
 | .agg cs=>(aBf cs.toList).map .agg
 | .tuple cs=>if cs.size=0 then some (.tuple []) else none
 | v=>aCf v
theorem aJe{g:Gh}{v:Value}{a:A}(h:aCf v=some a):Rz g a v/\a.one=true:=by
 unfold aCf at h;split at h<;>simp at h<;>subst h
 .exact⟨.int _ _,rfl⟩
 .exact⟨.bool _,rfl⟩
 .rename_i s;exact⟨.str s.data.toList,rfl⟩
 .exact⟨.nilp,rfl⟩
 .exact⟨.nils,rfl⟩
 .exact⟨.nilf,rfl⟩
 .exact⟨.nili,rfl⟩
theorem aJK{g:Gh}:∀{vs:List Value} {az:List A},aBf vs=some az->Rzs g az vs/\∀c,c∈az->c.one=true
 | [],az,h=>by simp[aBf]at h;subst h;exact⟨.nil g,by simp⟩
 | v::vs,az,h=>by
  simp only[aBf]at h;split at h
  .rename_i a y z has;simp at h;subst h;have u:=aJe (g:=g) z;have h2:=aJK (g:=g) has;exact⟨.cons u.1 h2.1,by intro c m;cases m with|head=>exact u.2|tail _ m=>exact h2.2 c m⟩
  .simp at h
theorem aRe{g:Gh}{v:Value}{a:A}(h:aEi v=some a):Rz g a v:=by
 unfold aEi at h;split at h
 .rename_i cs;simp only[sF]at h;obtain⟨az,has,rfl⟩:=h;have:=aJK (g:=g) has;exact .agg az cs.toList this.1.1 this.2 this.1.2
 .rename_i cs;split at h
  .rename_i m;simp at h;subst h;have:cs=#[]:=Array.eq_empty_of_size_eq_zero m;subst this;exact .tuple [] [] rfl bJ
  .simp at h
 .exact(aJe h).1
def fC(C:Cx)(e:Env):Operand->Option A
 | .tmp t=>e.get t
 | .const v=>aEi v
 | .global g=>match C.gl g with
  | some cs=>some (.eptr cs 0)
  | none=>none
 | .func f=>some (.fn f [] [])
def uJ(C:Cx)(t:TypeId)(cs:List A)(o:Nat):Option A :=
 match C.tt t with
 | some h=>if h.k.agg=true then(if o+h.sz<=cs.length then some (.agg ((cs.drop o).take h.sz)) else none) else cs[o]?
 | none=>none
def lP:List A->Nat->List A->List A
 | cs,_,[]=>cs
 | cs,o,v::vs=>lP (cs.set o v) (o+1) vs
def gD(l:List A):Bool:=l.all A.one
def eqC:A->A->Option Bool
 | .int j a,.int k b=>if j=k then some (decide (a=b)) else none
 | .str a,.str b=>some (decide (a=b))
 | .bool a,.bool b=>some (a == b)
 | _,_=>none
def aBm(op:BinOp)(k:IntKind)(a b:Int):Option A :=
 match op with
 | .add=>some (.int k (k.wrap (a+b)))
 | .sub=>some (.int k (k.wrap (a-b)))
 | .mul=>some (.int k (k.wrap (a * b)))
 | .eql=>some (.bool (decide (a=b)))
 | .neq=>some (.bool (!decide (a=b)))
 | .lss=>some (.bool (decide (a<b)))
 | .leq=>some (.bool (decide (a<=b)))
 | .gtr=>some (.bool (decide (b<a)))
 | .geq=>some (.bool (decide (b<=a)))
 | .and=>some (.int k (k.wrap ((BitVec.ofInt k.bits a &&& BitVec.ofInt k.bits b).toNat)))
 | .or=>some (.int k (k.wrap ((BitVec.ofInt k.bits a ||| BitVec.ofInt k.bits b).toNat)))
 | .xor=>some (.int k (k.wrap ((BitVec.ofInt k.bits a ^^^ BitVec.ofInt k.bits b).toNat)))
 | .andNot=>some (.int k (k.wrap ((BitVec.ofInt k.bits a &&& ~~~BitVec.ofInt k.bits b).toNat)))
 | .quo=>if b=0 then none else some (.int k (k.wrap (a.tdiv b)))
 | .rem=>if b=0 then none else some (.int k (a.tmod b))
 | _=>none
def aEj(op:BinOp)(k:IntKind)(a b:Int):Option A :=
 if b<0 then none else match op with
 | .shl=>some (.int k (k.wrap (a * 2 ^ (min b.toNat k.bits))))
 | .shr=>some (.int k (a.fdiv (2 ^ (min b.toNat k.bits))))
 | _=>none
def aLF:BinOp->Bool
 | .shl=>true
 | .shr=>true
 | _=>false
def unA:UnOp->A->Option A
 | .not,.bool b=>some (.bool (!b))
 | .neg,.int k n=>some (.int k (k.wrap (0-n)))
 | .xor,.int k n=>some (.int k (k.wrap ((BitVec.ofInt k.bits (if k.signed then -1 else k.max) ^^^ BitVec.ofInt k.bits n).toNat)))
 | _,_=>none
def wB(place:Nat->Option (Nat × Nat)):List A->List (Nat × A)->Option (List A)
 | cells,[]=>some cells
 | cells,(i,v)::rest =>
  match place i with
  | none=>none
  | some (off,h)=>if v.cells.length=h/\off+h<=cells.length/\gD v.cells=true then wB place (lP cells off v.cells) rest else none
def nU(ρ:Operand->Option A):List (Nat × Operand)->Option (List (Nat × A))
 | []=>some []
 | (i,x)::r=>match ρ x,nU ρ r with
  | some a,some l=>some ((i,a)::l)
  | _,_=>none
def nG(ρ:Operand->Option A):List Operand->Option (List A)
 | []=>some []
 | x::r=>match ρ x,nG ρ r with
  | some a,some l=>some (a::l)
  | _,_=>none
def aBa:Nat->List (Nat × A)->Option (List A)
 | _,[]=>some []
 | k,(i,a)::r=>if i=k then(aBa (k+1) r).map (a::·) else none
section
def aBs(C:Cx)(F:Fr)(g:Gh)(KV Kp:St->A->Prop):Ending->World->Prop
 | .returned v,w=>∃h a s,g.le h/\R C.toCtx F h s w/\Rz h a v/\KV s a
 | .panicked nE,w=>∃h a v s,nE=[{ v:=v,recovered:=false }]/\g.le h/\R C.toCtx F h s w/\Rz h a v/\Kp s a
 | .outgrown,_=>False
def OutV(C:Cx)(F:Fr)(g:Gh)(KV Kp:St->A->Prop):Result Next->Prop
 | .ok (.value v) w=>∃h a s,g.le h/\R C.toCtx F h s w/\Rz h a v/\KV s a
 | .ok .skip w=>∃h s,g.le h/\R C.toCtx F h s w/\KV s (.tuple [])
 | .ok (.enter f args) w=>Calls C.P f args w (aBs C F g KV Kp)
 | .halt (.panic v) w=>∃h a s,g.le h/\R C.toCtx F h s w/\Rz h a v/\Kp s a
 | _=>False
def Den(C:Cx)(f:FuncId)(args:List A)(KV Kp:St->A->Prop)(s:St):Prop :=
 ∀F g w vals,R C.toCtx F g s w->Rzs g args vals->OutV C F g KV Kp ((callFunc f vals.toArray).run C.P w)
def OutS(C:Cx)(F:Fr)(g:Gh)(s:St)(K:A->Prop):Result Next->Prop
 | .ok (.value v) w=>∃h a,g.les h/\R C.toCtx F h s w/\Rz h a v/\K a
 | _=>False
def aHX(op:BinOp)(x y:A):Option A :=
 match x,y with
 | .int j a,.int k b=>match aLF op with
  | true=>aEj op j a b
  | false=>if j=k then aBm op j a b else none
 | .str a,.str b=>match op with
  | .eql=>some (.bool (decide (a=b)))
  | .neq=>some (.bool (!decide (a=b)))
  | _=>none
 | _,_=>none
def aHj:BinOp->A->A->Bool
 | .eql,.agg _,.agg _|.neq,.agg _,.agg _=>true
 | .eql,.bool _,.bool _|.neq,.bool _,.bool _=>true
 | .eql,.iface _ _,.nili|.neq,.iface _ _,.nili=>true
 | .eql,.nili,.nili|.neq,.nili,.nili=>true
 | .eql,.iface _ _,.iface _ _|.neq,.iface _ _,.iface _ _=>true
 | .eql,.nilp,.nilp|.neq,.nilp,.nilp=>true
 | .eql,.ptr _ _,.nilp|.neq,.ptr _ _,.nilp=>true
 | .eql,.ptr _ _,.ptr _ _|.neq,.ptr _ _,.ptr _ _=>true
 | .eql,.nils,.nils|.neq,.nils,.nils=>true
 | .eql,.list _ _,.nils|.neq,.list _ _,.nils=>true
 | .eql,.ml _ _ _,.nils|.neq,.ml _ _ _,.nils=>true
 | .eql,.emp,.nils|.neq,.emp,.nils=>true
 | .eql,.mg _ _ _,.nils|.neq,.mg _ _ _,.nils=>true
 | _,_,_=>false
def nJ:A->Option A
 | .list _ es=>some (.int .i64 es.length)
 | .nils=>some (.int .i64 0)
 | .ml _ _ n=>some (.int .i64 n)
 | .emp=>some (.int .i64 0)
 | .mg _ n _=>some (.int .i64 n)
 | _=>none
def aEy:Nat->List A->Prop
 | _,[]=>True
 | n,x::r=>(x.cells.length=n/\gD x.cells=true)/\aEy n r
theorem aGe{n:Nat}:∀{l:List A},aEy n l->∀x,x∈l->x.cells.length=n/\∀c,c∈x.cells->c.one=true
 | [],_,x,m=>by cases m
 | y::r,h,x,m=>by
  cases m with
  | head=>exact⟨h.1.1,by have:=h.1.2;simpa [gD]using this⟩
  | tail _ m=>exact aGe h.2 x m
def wT:Option A->Option Int
 | none=>some 0
 | some (.int _ i)=>some i
 | _=>none
def tI(n:Nat):Option A->Option Int
 | none=>some n
 | some (.int _ i)=>some i
 | _=>none
def rF(ρ:Operand->Option A):Option Operand->Option (Option A)
 | none=>some none
 | some x=>match ρ x with
  | some a=>some (some a)
  | none=>none
def xT(x:A)(u m:Option A)(K:A->Prop):Prop :=
 match x with
 | .str s=>match wT u,tI s.length m with
  | some l,some h=>(0<=l/\l<=h/\h<=s.length)/\K (.str ((s.drop l.toNat).take (h.toNat-l.toNat)))
  | _,_=>False
 | .list _ es=>match wT u,tI es.length m with
  | some l,some h=>(0<=l/\l<=h/\h<=es.length)/\K (.list none ((es.drop l.toNat).take (h.toNat-l.toNat)))
  | _,_=>False
 | _=>False
def elK(sz:Nat)(K:A->Prop):Option A->Prop
 | some x=>x.cells.length=sz/\K (.eptr x.cells 0)
 | none=>False
def chK(K:A->Prop):Option UInt8->Prop
 | some c=>K (.int .u8 c.toNat)
 | none=>False
def aNc:Value->Bool
 | .nilIface=>true
 | .int _ _=>false
 | .bool _=>false
 | .string _=>false
 | .pointer _=>false
 | .slice _ _ _=>false
 | .agg _=>false
 | .nilFunc=>false
 | _=>false
def aMP:Operand->Bool
 | .const v=>aNc v
 | .tmp _=>false
 | .global _=>false
 | .func _=>false
def aHF:BinOp->A->Option A
 | .eql,.nili=>some (.bool true)
 | .eql,.iface _ _=>some (.bool false)
 | .neq,.nili=>some (.bool false)
 | .neq,.iface _ _=>some (.bool true)
 | _,_=>none
def aCx:List A->A
 | []=>.emp
 | x::r=>.list none (x::r)
def aEv:List (Nat × Operand)->Bool
 | [x]=>match x.2 with
  | .const v=>match v with
   | .agg _=>true
   | _=>false
  | _=>false
 | _=>false
def hlA:List A->A
 | []=>.emp
 | x::r=>match r with
  | []=>.hl x
  | y::r=>.list none (x::y::r)
def cS(C:Cx)(op:Op)(ρ:Operand->Option A)(K:A->Prop):Prop :=
 let one (v:Option A):Prop:=match v with
  | some v=>K v
  | none=>False
 match op with
 | .move x=>one (ρ x)
 | .assign x=>one (ρ x)
 | .pick c a b=>match ρ c with
  | some (.bool true)=>one (ρ a)
  | some (.bool false)=>one (ρ b)
  | _=>False
 | .binOp op t x y _=>match ρ x,ρ y with
  | some a,some b=>match aMP y,aHj op a b with
   | true,_=>match b,C.tt t with
    | .nili,some z=>match z.k with
     | .iface=>one (aHF op a)
     | _=>False
    | _,_=>False
   | false,d=>match d with
    | true=>match C.eq t a b with
     | some r=>K (.bool (if op=.eql then r else !r))
     | none=>False
    | false=>match op,a,b with
     | .add,.str a,.str b=>a.length+b.length<=maxLen/\K (.str (a++b))
     | op,a,b=>one (aHX op a b)
  | _,_=>False
 | .unOp op _ x=>match ρ x with
  | some a=>one (unA op a)
  | none=>False
 | .nilCheck x=>match ρ x with
  | some (.ptr b o)=>K (.ptr b o)
  | some (.eptr cs o)=>K (.eptr cs o)
  | _=>False
 | .fieldAddr t x f=>match ρ x,C.tt t with
  | some a,some z=>match z.k with
   | .struct H=>match H[f]? with
    | some (off,_,_)=>match a with
     | .ptr b o=>K (.ptr b (o+off))
     | .eptr cs o=>K (.eptr cs (o+off))
     | _=>False
    | none=>False
   | _=>False
  | _,_=>False
 | .field t x f=>match ρ x,C.tt t with
  | some (.agg cs),some z=>match z.k with
   | .struct H=>match H[f]? with
    | some (off,sz,U)=>if U=true then(off+sz<=cs.length/\K (.agg ((cs.drop off).take sz))) else one cs[off]?
    | none=>False
   | _=>False
  | _,_=>False
 | .typeAssert x _ t ok=>match ok with
  | true=>match ρ x,C.tt t with
   | some (.iface u v),some z=>match z.k with
    | .struct _=>u=t/\K (.tuple [v,.bool true])
    | _=>False
   | _,_=>False
  | false=>False
 | .extract x i=>match ρ x with
  | some (.tuple vs)=>one vs[i]?
  | _=>False
 | .makeInterface t x=>match ρ x,C.tt t with
  | some a,some z=>match z.k with
   | .iface=>False
   | _=>K (.iface t a)
  | _,_=>False
 | .makeFunc (.func f) first M=>match nG ρ first.toList,nG ρ M.toList with
  | some l,some m=>K (.fn f l m)
  | _,_=>False
 | .convert a b x=>match ρ x,C.tt a,C.tt b with
  | some (.int _ n),some _,some S=>match S.k with
   | .int k=>K (.int k (k.wrap n))
   | _=>False
  | some (.str s),some ta,some S=>match S.k with
   | .string=>K (.str s)
   | .slice e=>match ta.k,C.tt e with
    | .string,some B=>match B.k with
     | .int .u8=>B.sz=1/\s.length<=maxLen/\K (.list none (s.map λc=>.int .u8 c.toNat))
     | _=>False
    | _,_=>False
   | _=>False
  | _,_,_=>False
 | .build t parts=>match nU ρ parts.toList,C.tt t with
  | some O,some z=>match z.k with
   | .struct H=>one ((wB (λi=>(H[i]?).map λx=>(x.1,x.2.1)) z.zero O).map .agg)
   | _=>False
  | _,_=>False
 | .buildSlice t len parts=>match nU ρ parts.toList,C.tt t with
  | some O,some z=>match z.k with
   | .slice e=>match C.tt e with
    | some B=>match aBa 0 O with
     | some es=>(es.length=len/\(len * B.sz<=16777216/\len<=16777216)/\aEy B.sz es)/\(match aEv parts.toList with
      | true=>K (hlA es)
      | false=>K (aCx es))
     | none=>False
    | none=>False
   | _=>False
  | _,_=>False
 | .load t x=>match ρ x with
  | some (.eptr cs o)=>one (uJ C t cs o)
  | _=>False
 | .slice t x Z hi none=>match ρ x,rF ρ Z,rF ρ hi,C.tt t with
  | some a,some l,some h,some z=>match z.k with
   | .string=>match a with
    | .str s=>xT (.str s) l h K
    | _=>False
   | .slice e=>match a,C.tt e with
    | .list tk es,some B=>(∀x,x∈es->x.cells.length=B.sz)/\xT (.list tk es) l h K
    | .nils,some _=>match wT l,tI 0 h with
     | some i,some j=>(i=0/\j=0)/\K .nils
     | _,_=>False
    | .gr t n,some _=>match wT l,tI n h with
     | some i,some j=>(i=0/\j=0)/\K (.list (some t) [])
     | _,_=>False
    | .ml b off n,some B=>match wT l,tI n h with
     | some i,some j=>(0<=i/\i<=j/\j<=n)/\K (if j.toNat-i.toNat=0 then .list none [] else .ml b (off+i.toNat * B.sz) (j.toNat-i.toNat))
     | _,_=>False
    | _,_=>False
   | _=>False
  | _,_,_,_=>False
 | .indexAddr t x i=>match ρ x,ρ i,C.tt t with
  | some a,some (.int _ i),some z=>match z.k with
   | .slice e=>match a with
    | .list _ es=>match C.tt e with
     | some B=>(0<=i/\i.toNat<es.length)/\elK B.sz K es[i.toNat]?
     | none=>False
    | .ml b off n=>match C.tt e with
     | some B=>(0<=i/\i.toNat<n)/\K (.ptr b (off+i.toNat * B.sz))
     | none=>False
    | .mg b n _=>match C.tt e with
     | some B=>(0<=i/\i.toNat<n)/\K (.ptr b (i.toNat * B.sz))
     | none=>False
    | .pen t es sz=>match C.tt e with
     | some B=>(i=es.length/\sz=B.sz)/\K (.rm t es.length B.sz)
     | none=>False
    | _=>False
   | .array n e=>match a with
    | .eptr cs o=>match C.tt e with
     | some B=>(0<=i/\i<n)/\K (.eptr cs (o+i.toNat * B.sz))
     | none=>False
    | _=>False
   | _=>False
  | _,_,_=>False
 | .index t x i=>match ρ x,ρ i,C.tt t with
  | some (.str s),some (.int _ i),some z=>match z.k with
   | .string=>(0<=i/\i.toNat<s.length)/\chK K s[i.toNat]?
   | _=>False
  | _,_,_=>False
 | .call c=>match c.callee,c.args.toList,c.argTypes.toList with
  | .builtin .len,[x],[t]=>match ρ x,C.tt t with
   | some a,some z=>match z.k with
    | .string=>one (match a with|.str s=>some (.int .i64 s.length)|_=>none)
    | .slice _=>one (nJ a)
    | _=>False
   | _,_=>False
  | .builtin .unsafeSliceData,[x],_=>match ρ x with
   | some (.list tk (y::ys))=>K (.sd tk (y::ys))
   | some .nils=>K .nilp
   | _=>False
  | .builtin .cap,[x],[t]=>match ρ x,C.tt t with
   | some .nils,some z=>match z.k with
    | .slice _=>K (.int .i64 0)
    | _=>False
   | _,_=>False
  | .builtin .max,[x,y],_=>match ρ x,ρ y with
   | some (.int j a),some (.int _ b)=>K (.int j (if a<b then b else a))
   | _,_=>False
  | .builtin .min,[x,y],_=>match ρ x,ρ y with
   | some (.int j a),some (.int _ b)=>K (.int j (if b<a then b else a))
   | _,_=>False
  | _,_,_=>False
 | _=>False
section
variable {C:Cx} {F:Fr} {g:Gh} {s:St} {w:World} {K:A->Prop} {ρ:Operand->Option A} {ev:Operand->Value}
theorem Rz.int_inv{k:IntKind}{n:Int}{v:Value}(h:Rz g (.int k n) v):v=.int k n:=by cases h;rfl
theorem Rz.bool_inv{b:Bool}{v:Value}(h:Rz g (.bool b) v):v=.bool b:=by cases h;rfl
theorem Rz.str_inv{s:List UInt8}{v:Value}(h:Rz g (.str s) v):v=.string ⟨s.toArray⟩:=by cases h;rfl
theorem Rz.ptr_inv{b o:Nat}{v:Value}(h:Rz g (.ptr b o) v):∃k,v=.pointer (some ⟨k,o,none⟩)/\g.beta b=some k:=by cases h;exact⟨_,rfl,by assumption⟩
theorem Rz.emp_inv{v:Value}(h:Rz g .emp v):∃a,v=.slice (some a) 0 0:=by cases h;exact⟨_,rfl⟩
theorem Rz.sd_inv{tk:Option Nat}{es:List A}{v:Value}(h:Rz g (.sd tk es) v):∃a cap,v=.pointer (some a)/\cap≠0/\Rz g (.list tk es) (.slice (some a) es.length cap):=by
 cases h;exact⟨_,_,rfl,by assumption,by assumption⟩
theorem Rz.gr_inv{t n:Nat}{v:Value}(h:Rz g (.gr t n) v):∃k cap,v=.slice (some ⟨k,0,none⟩) n cap/\g.eta t 0=some (.slice (some ⟨k,0,none⟩) 0 cap)/\n<=cap/\cap<=maxLen:=by
 cases h;exact⟨_,_,rfl,by assumption,by assumption,by assumption⟩
theorem Rz.hl_inv{z:A}{v:Value}(h:Rz g (.hl z) v):∃a cap,v=.slice (some a) 1 cap/\Rz g (.list none [z]) v:=by cases h;exact⟨_,_,rfl,by assumption⟩
theorem Rz.pen_inv{t:Nat}{es:List A}{sz:Nat}{v:Value}(h:Rz g (.pen t es sz) v):∃b cap,v=.slice (some ⟨b,0,none⟩) (es.length+1) cap /\
  Rz g (.list (some t) es) (.slice (some ⟨b,0,none⟩) es.length cap)/\es.length+1<=cap/\∀y,y∈es->y.cells.length=sz:=by cases h;exact⟨_,_,rfl,by assumption,by assumption,by assumption⟩
theorem Rz.rm_inv{t n sz:Nat}{v:Value}(h:Rz g (.rm t n sz) v):∃b cap,v=.pointer (some ⟨b,n * sz,none⟩)/\g.eta t n=some (.slice (some ⟨b,0,none⟩) n cap)/\n+1<=cap:=by
 cases h;exact⟨_,_,rfl,by assumption,by assumption⟩
theorem Rz.ml_inv{b o n:Nat}{v:Value}(h:Rz g (.ml b o n) v):∃k cap,v=.slice (some ⟨k,o,none⟩) n cap/\g.beta b=some k/\n<=cap/\cap<=maxLen:=by
 cases h;exact⟨_,_,rfl,by assumption,by assumption,by assumption⟩
theorem Rz.mg_inv{b n cap:Nat}{v:Value}(h:Rz g (.mg b n cap) v):∃k,v=.slice (some ⟨k,0,none⟩) n cap/\g.beta b=some k/\n<=cap/\cap<=maxLen:=by
 cases h;exact⟨_,rfl,by assumption,by assumption,by assumption⟩
theorem Rz.nilp_inv{v:Value}(h:Rz g .nilp v):v=.pointer none:=by cases h;rfl
theorem Rz.nils_inv{v:Value}(h:Rz g .nils v):v=.slice none 0 0:=by cases h;rfl
theorem Rz.nili_inv{v:Value}(h:Rz g .nili v):v=.nilIface:=by cases h;rfl
theorem Rz.iface_inv{t:TypeId}{a:A}{v:Value}(h:Rz g (.iface t a) v):∃u,v=.iface t u/\Rz g a u:=by cases h;exact⟨_,rfl,by assumption⟩
theorem Rz.agg_inv{cs:List A}{v:Value}(h:Rz g (.agg cs) v):∃vs:List Value,v=.agg vs.toArray/\Rzs g cs vs/\∀c,c∈cs->c.one=true:=by
 cases h with|agg cs vs hl m h=>exact⟨vs,rfl,⟨hl,h⟩,m⟩
theorem Rz.tuple_inv{cs:List A}{v:Value}(h:Rz g (.tuple cs) v):∃vs:List Value,v=.tuple vs.toArray/\Rzs g cs vs:=by
 cases h with|tuple cs vs hl h=>exact⟨vs,rfl,⟨hl,h⟩⟩
theorem Rz.fn_inv{f:FuncId}{m cs:List A}{v:Value}(h:Rz g (.fn f m cs) v):∃us vs:List Value,v=.func (.func f) us.toArray vs.toArray/\Rzs g m us/\Rzs g cs vs:=by
 cases h with|fn f m cs us vs y u z B=>exact⟨us,vs,rfl,⟨y,z⟩,⟨u,B⟩⟩
theorem Rz.eptr_inv{cs:List A}{o:Nat}{v:Value}(h:Rz g (.eptr cs o) v):∃b off pre,v=.pointer (some ⟨b,off+o,none⟩)/\g.pi b=some pre/\off+cs.length<=pre.length /\
  (∀c,c∈cs->c.one=true)/\∀(j:Nat) (c:A) (v:Value),cs[j]?=some c->pre[off+j]?=some v->Rz g c v:=by
 cases h with|eptr cs o b off pre m hl u h=>exact⟨b,off,pre,rfl,m,hl,u,h⟩
theorem OutS.val{v:Value}{a:A}(m:R C.toCtx F g s w)(h:Rz g a v)(u:K a):OutS C F g s K (.ok (.value v) w) :=
 ⟨g,a,Gh.les.refl g,m,h,u⟩
theorem aDE(m:∀x a,ρ x=some a->Rz g a (ev x)):∀{l:List Operand} {az:List A},nG ρ l=some az->Rzs g az (l.map ev)
 | [],az,h=>by simp[nG]at h;subst h;exact .nil g
 | x::r,az,h=>by
  simp only[nG]at h;split at h
  .rename_i a l u hl;simp at h;subst h;exact .cons (m x a u) (aDE m hl)
  .simp at h
theorem aDo(m:∀x a,ρ x=some a->Rz g a (ev x)):∀{l:List (Nat × Operand)} {az:List (Nat × A)},nU ρ l=some az ->
  (l.map λx=>x.1)=az.map (λx=>x.1)/\Rzs g (az.map λx=>x.2) (l.map λx=>ev x.2)
 | [],az,h=>by simp[nU]at h;subst h;exact⟨rfl,.nil g⟩
 | (i,x)::r,az,h=>by
  simp only[nU]at h;split at h
  .rename_i a l u hl;simp at h;subst h;have:=aDo m hl;exact⟨by simp[this.1],.cons (m x a u) this.2⟩
  .simp at h
theorem jO{t:TypeId}{m:TI}(h:C.tt t=some m):∃d,C.P.underlying t=some d/\m.k.ok C.P d:=(C.htt t m h).und
theorem aA9{t:TypeId}{y:TI}(h:C.tt t=some y)(w:World):(isAgg t).run C.P w=.ok y.k.agg w:=by
 obtain⟨d,hd,m⟩:=jO h;simp only[isAgg,bW,eJ hd,bV];cases z:y.k<;>rw[z]at m<;>simp only[TK.ok]at m<;>(try subst m)<;>(try rfl)
 .obtain⟨u,rfl,_⟩:=m;rfl
 .obtain⟨ms,rfl⟩:=m;rfl
 .cases d<;>simp_all [aAk,TK.agg]
theorem mT{t:TypeId}{m:TI}(h:C.tt t=some m)(w:World):(sizeOf t).run C.P w=.ok m.sz w:=by
 obtain⟨i,z,u,y,_⟩:=(C.htt t m h).info;simp[sizeOf,typeInfo,u,y]
theorem xR{t:TypeId}{m:TI}(h:C.tt t=some m):C.toCtx.sz t=m.sz:=by
 obtain⟨i,z,u,y,_⟩:=(C.htt t m h).info;simp[Ctx.sz,u,y]
theorem aCg{t:TypeId}{m:TI}(h:C.tt t=some m)(w:World):∃z,(zeroValue t).run C.P w=.ok z w/\∀g,Rzs g m.zero z.cells.toList:=by
 obtain⟨i,z,y,B,H,hz,u⟩:=(C.htt t m h).info;exact⟨z,by simp[zeroValue,typeInfo,y,hz],u⟩
end
end
section
section
variable {C:Cx} {F:Fr} {g:Gh} {s:St} {w:World} {K:A->Prop} {ρ:Operand->Option A} {ev:Operand->Value}
theorem aAK(x:Sem Value)(P:Program)(w:World):((do let v <-x;pure (Next.value v)):Sem Next).run P w=(x.run P w).andThen λv w'=>.ok (.value v) w':=by
 simp
theorem fJ{x:Sem Value}{v:Value}{a:A}(u:R C.toCtx F g s w)(h:x.run C.P w=.ok v w)(m:Rz g a v)(y:K a) :
  OutS C F g s K (((do let v <-x;pure (Next.value v)):Sem Next).run C.P w):=by
 rw[aAK,h];exact OutS.val u m y
theorem aRS{op:BinOp}{k:IntKind}{x y:Int}{a:A}(h:aBm op k x y=some a)(t:TypeId) :
  ∃v,(binOp op t (.int k x) (.int k y))=pure v/\∀g,Rz g a v:=by
 cases op
 case quo =>
  simp only[aBm]at h;split at h
  .cases h
  .rename_i m;simp only[bQ]at h;subst h;simp only[binOp,Op.intDiv,dG,not_true_eq_false,↓reduceIte,m];exact⟨_,rfl,λg=>.int _ _⟩
 case rem =>
  simp only[aBm]at h;split at h
  .cases h
  .rename_i m;simp only[bQ]at h;subst h;simp only[binOp,Op.intDiv,dG,not_true_eq_false,↓reduceIte,m];exact⟨_,rfl,λg=>.int _ _⟩
 all_goals
  simp only[aBm,bQ,reduceCtorEq]at h
 all_goals
  subst h;simp only[binOp,Op.intArith,Op.intCmp,Op.intBits,dG,not_true_eq_false,↓reduceIte]
  first
   | exact⟨_,rfl,λg=>.int _ _⟩
   | exact⟨_,rfl,λg=>.bool _⟩
   | (refine⟨_,rfl,λg=>?_⟩;simp only[bne,beq_eq_decide];exact .bool _)
theorem aRB{op:BinOp}{k j:IntKind}{x y:Int}{a:A}(h:aEj op k x y=some a)(t:TypeId) :
  ∃v,(binOp op t (.int k x) (.int j y))=pure v/\∀g,Rz g a v:=by
 unfold aEj at h;split at h
 .cases h
 .rename_i m;cases op<;>simp only[bQ,reduceCtorEq]at h
  all_goals
   subst h;simp only[binOp,Op.shift,m,bR];exact⟨_,rfl,λg=>.int _ _⟩
theorem aIW(op:BinOp)(t:TypeId)(x y:Operand)(k j:IntKind)(a b:Int):eqGuard op t x y (.int k a) (.int j b)=pure ():=by
 unfold eqGuard;cases op<;>rfl
theorem aFX(op:BinOp)(t:TypeId)(x y:Operand)(a b:ByteArray):eqGuard op t x y (.string a) (.string b)=pure ():=by
 unfold eqGuard;cases op<;>rfl
section
variable {P:Program} {t:TypeId} {ms:_} (hd:P.underlying t=some (.interface ms)) (x:Operand) (w:World)
include hd
theorem aPC(d:Nat):(Op.equalIn (d+1) t .nilIface .nilIface).run P w=.ok true w:=by
 simp only[Op.equalIn,bW,eJ hd,bV,cI]
theorem aPm(d:Nat)(u:TypeId)(v:Value):(Op.equalIn (d+1) t (.iface u v) .nilIface).run P w=.ok false w:=by
 simp only[Op.equalIn,bW,eJ hd,bV,cI]
theorem aMV(op:BinOp)(m:op=.eql\/op=.neq) :
  ((do eqGuard op t x (.const .nilIface) .nilIface .nilIface;binOp op t .nilIface .nilIface:Sem Value)).run P w=.ok (.bool (op == .eql)) w:=by
 have h:=aPC hd w 9999;rcases m with rfl|rfl
 .have u:(eqGuard .eql t x (.const .nilIface) .nilIface .nilIface).run P w=.ok () w:=by cases x<;>rfl
  have y:(binOp .eql t .nilIface .nilIface).run P w=.ok (.bool true) w:=by
   simp only[binOp,Op.equal,Op.maxDepth,bW,h,bV,cI]
  rw[bW,u,bV,y];rfl
 .have u:(eqGuard .neq t x (.const .nilIface) .nilIface .nilIface).run P w=.ok () w:=by cases x<;>rfl
  have y:(binOp .neq t .nilIface .nilIface).run P w=.ok (.bool false) w:=by
   simp only[binOp,Op.equal,Op.maxDepth,bW,h,bV,cI,fF]
  rw[bW,u,bV,y];rfl
theorem gE1(op:BinOp)(m:op=.eql\/op=.neq)(u:TypeId)(v:Value) :
  ((do eqGuard op t x (.const .nilIface) (.iface u v) .nilIface;binOp op t (.iface u v) .nilIface:Sem Value)).run P w=.ok (.bool (op == .neq)) w:=by
 have h:=aPm hd w 9999 u v;rcases m with rfl|rfl
 .have y:(eqGuard .eql t x (.const .nilIface) (.iface u v) .nilIface).run P w=.ok () w:=rfl
  have z:(binOp .eql t (.iface u v) .nilIface).run P w=.ok (.bool false) w:=by
   simp only[binOp,Op.equal,Op.maxDepth,bW,h,bV,cI]
  rw[bW,y,bV,z];rfl
 .have y:(eqGuard .neq t x (.const .nilIface) (.iface u v) .nilIface).run P w=.ok () w:=rfl
  have z:(binOp .neq t (.iface u v) .nilIface).run P w=.ok (.bool true) w:=by
   simp only[binOp,Op.equal,Op.maxDepth,bW,h,bV,cI,gB]
  rw[bW,y,bV,z];rfl
end
theorem aTh{op:BinOp}{t yt ty:TypeId}{x y:Operand}{dst:Option Tmp}{pos:String}{after:Array Edge}{gd:Option (Nat × Bool)}
  (z:R C.toCtx F g s w)(he:∀x a,ρ x=some a->Rz g a (ev x))(h:cS C (.binOp op t x y yt) ρ K) :
  OutS C F g s K ((execOp ev ⟨dst,.binOp op t x y yt,ty,pos,after,gd⟩).run C.P w):=by
 simp only[cS]at h;split at h
 .rename_i a b ha hb;have H:=he x a ha;have B:=he y b hb;simp only[execOp];split at h
  .rename_i hn;split at h
   .rename_i ti b2;split at h
    .rename_i Z;obtain⟨d,hd,O⟩:=jO b2;rw[Z]at O;obtain⟨ms,rfl⟩:=O
     have hy:y=.const .nilIface:=by
      cases y with
      | const v=>cases v<;>first|rfl|cases hn
      | _=>cases hn
     subst hy;cases a<;>cases op<;>simp only[aHF]at h
     .obtain⟨u,m,_⟩:=H.iface_inv;rw[m,B.nili_inv];refine fJ (v:=.bool false) z ?_ (.bool _) h;exact gE1 hd _ w .eql (.inl rfl) _ _
     .obtain⟨u,m,_⟩:=H.iface_inv;rw[m,B.nili_inv];refine fJ (v:=.bool true) z ?_ (.bool _) h;exact gE1 hd _ w .neq (.inr rfl) _ _
     .rw[H.nili_inv,B.nili_inv];refine fJ (v:=.bool true) z ?_ (.bool _) h;exact aMV hd _ w .eql (.inl rfl)
     .rw[H.nili_inv,B.nili_inv];refine fJ (v:=.bool false) z ?_ (.bool _) h;exact aMV hd _ w .neq (.inr rfl)
    .exact h.elim
   .exact h.elim
  split at h
  .rename_i hd;split at h
   .rename_i r M
    have b0:op=.eql\/op=.neq:=by
     cases op<;>simp_all [aHj]
    obtain⟨h1,h2⟩:=C.heq t a b r M g _ _ w op x y b0 H B;refine fJ (v:=.bool (if op=.eql then r else !r)) z ?_ (.bool _) h;simp only[bW,h1,bV,h2]
   .exact h.elim
  .split at h
   .obtain⟨hl,Z⟩:=h;rw[H.str_inv,B.str_inv];refine fJ z ?_ (.str _) Z;simp only[aFX,pure_bind];have e1:∀l:List UInt8,(ByteArray.mk l.toArray).size=l.length:=λl=>by simp[ByteArray.size]
    simp only[binOp,Op.stringOp,e1];rw[aB (by unfold maxLen at hl;simp[IntKind.max,IntKind.signed,IntKind.bits];omega)];simp only[cI];congr 2
   .split at h
    .rename_i v m;simp only[aHX]at m;split at m
     .split at m
      .rename_i j1 a1 k1 b1 _ _ _ _;rw[H.int_inv,B.int_inv];obtain⟨u,S,M⟩:=aRB (j:=k1) m t;refine fJ z ?_ (M g) h;simp only[aIW,pure_bind,S,cI]
      .split at m
       .rename_i U;subst U;rw[H.int_inv,B.int_inv];obtain⟨u,S,M⟩:=aRS m t;refine fJ z ?_ (M g) h;simp only[aIW,pure_bind,S,cI]
       .simp at m
     .rw[H.str_inv,B.str_inv];split at m
      .simp only[bQ]at m;subst m;refine fJ z ?_ (.bool _) h;simp only[aFX,pure_bind,binOp,Op.stringOp,ByteArray.toList_mk,cI];congr 2;rw[Bool.eq_iff_iff];simp
      .simp only[bQ]at m;subst m;refine fJ z ?_ (.bool _) h;simp only[aFX,pure_bind,binOp,Op.stringOp,ByteArray.toList_mk,cI];congr 2;rw[Bool.eq_iff_iff];simp
      .simp at m
     .simp at m
    .exact h.elim
 .exact h.elim
theorem aPT{t:TypeId}{cs:List A}{o:Nat}{a:A}{v:Value}(hR:R C.toCtx F g s w)(hl:uJ C t cs o=some a)(H:Rz g (.eptr cs o) v) :
  ∃u,(Instr.loadAt t v).run C.P w=.ok u w/\Rz g a u:=by
 obtain⟨b,off,pre,rfl,hp,b0,h1,hr⟩:=H.eptr_inv;obtain⟨rest,e,fr,hh⟩:=hR.pis b pre hp
 have cell:∀k,k<pre.length->w.cell? ⟨b,k,none⟩=pre[k]?:=by
  intro k O;simp only[World.cell?,hh,Option.isSome_none,cE,↓reduceIte,pE];rw[lC O]
 simp only[uJ]at hl;split at hl
 .rename_i Z B;split at hl
  .rename_i z;split at hl
   .rename_i b2;simp only[bQ]at hl;subst hl
    have m:∀j v,((pre.drop (off+o)).take Z.sz)[j]?=some v->w.cell? ((⟨b,off+o,none⟩:Addr).add j)=some v:=by
     intro j v M;rw[oJ]at M;split at M
     .rename_i S;rw[qC]at M;have:(⟨b,off+o,none⟩:Addr).add j=⟨b,off+o+j,none⟩:=by unfold Addr.add;split<;>simp_all
      rw[this,cell _ (eF.1 M).1];exact M
     .simp at M
    have h:((pre.drop (off+o)).take Z.sz).length=Z.sz:=by rw[cQ,eC];omega
    have y:=run_loadCells_list (P:=C.P) w ⟨b,off+o,none⟩ _ m;rw[h]at y;refine⟨_,by simp only[Instr.loadAt,Instr.sureAddr,loadVar,bW,cI,bV,aA9 B,z,↓reduceIte,mT B,y];rfl,?_⟩;refine .agg _ _ ?_ ?_ ?_
    .rw[h,cQ,eC];omega
    .intro c m;exact h1 c (vE (sH m))
    .intro j c v m H;rw[oJ]at m H;split at m
     .rename_i S;rw[aF S]at H;rw[qC]at m H;exact hr (o+j) c v m (by rw[<-qE];exact H)
     .simp at m
   .simp at hl
  .rename_i z;have ho:o<cs.length:=(eF.1 hl).1;have O:off+o<pre.length:=by omega
   refine⟨pre[off+o],?_,hr o a _ hl (aX O)⟩;have U:Z.k.agg=false:=gQ z;simp only[Instr.loadAt,Instr.sureAddr,loadVar,bW,cI,bV,aA9 B,U,cE,↓reduceIte,run_load,cell _ O,aX O]
 .simp at hl
theorem aBO{lo Z:Option A}{l h:Int}{n cap:Nat}{b:Bool}{z B:Option Value}
  (hl:wT lo=some l)(u:tI n Z=some h)(M:0<=l)(H:l<=h)(h2:h<=n)(hn:n<=cap)
  (r1:∀a,lo=some a->∃v,z=some v/\Rz g a v)(b0:lo=none->z=none)
  (r2:∀a,Z=some a->∃v,B=some v/\Rz g a v)(S:Z=none->B=none) :
  (Instr.sliceBounds b n cap z B none).run C.P w=.ok (l.toNat,h.toNat,cap) w:=by
 have hb:∀(k:IntKind) (i:Int) (y:Nat) (m:BoundsCode),0<=i->i<=y->(Instr.sliceBound (.int k i) y m).run C.P w=.ok i.toNat w :=
  λk i y m M H=>by simp[Instr.sliceBound,asIntOf,M,H]
 have b2:∀(y:Nat),y=h.toNat->(y:Int)=h:=by intro y hy;have:=Int.le_trans M H;omega
 cases lo with
 | none =>
  simp only[wT,bQ]at hl;subst hl;rw[b0 rfl];cases Z with
  | none =>
   simp only[tI,bQ]at u;subst u;rw[S rfl];simp[Instr.sliceBounds]
  | some a =>
   obtain⟨v,U,O⟩:=r2 a rfl;cases a<;>simp only[tI,bQ,reduceCtorEq]at u
   subst u;rw[U,O.int_inv];have g2:(_:Int)<=(cap:Int):=Int.le_trans h2 aC;cases b<;>simp[Instr.sliceBounds,hb,H,g2]
 | some a =>
  obtain⟨v,U,O⟩:=r1 a rfl;cases a<;>simp only[wT,bQ,reduceCtorEq]at hl
  subst hl;rw[U,O.int_inv];cases Z with
  | none =>
   simp only[tI,bQ]at u;subst u;rw[S rfl];simp[Instr.sliceBounds,hb,M,H]
  | some a =>
   obtain⟨v,U,O⟩:=r2 a rfl;cases a<;>simp only[tI,bQ,reduceCtorEq]at u
   subst u;rw[U,O.int_inv];have g2:(_:Int)<=(cap:Int):=Int.le_trans h2 aC;have g1:=Int.le_trans M H;have e:=b2 _ rfl;have g3:=H;rw[<-e]at g3;cases b<;>simp only[Instr.sliceBounds,hb _ _ _ _ g1 g2,hb _ _ _ _ M g3,bW,cI,bV,cE,↓reduceIte]
theorem aMu(m:∀x a,ρ x=some a->Rz g a (ev x)){o:Option Operand}{r:Option A}(h:rF ρ o=some r) :
  (∀a,r=some a->∃v,o.map ev=some v/\Rz g a v)/\(r=none->o.map ev=none):=by
 cases o with
 | none=>simp only[rF,bQ]at h;subst h;simp
 | some x =>
  simp only[rF]at h;split at h
  .rename_i a u;simp only[bQ]at h;subst h;exact⟨λy e=>by cases e;exact⟨_,rfl,m x a u⟩,by simp⟩
  .simp at h
end
end
section
section
variable {C:Cx} {F:Fr} {g:Gh} {s:St} {w:World} {K:A->Prop} {ρ:Operand->Option A} {ev:Operand->Value}
theorem aDl{t:TypeId}{z:TI}{y:List (Nat × Nat × Bool)}(h:C.tt t=some z)(H:z.k=.struct y) :
  ∃m,C.P.underlying t=some (.struct m)/\m.size=y.length/\∀(i o s:Nat) (a:Bool),y[i]?=some (o,s,a) ->
   ∃f,m[i]?=some f/\f.offset=o/\(C.P.info? f.type).map (·.size)=some s/\s≠0/\(C.P.underlying f.type).isSome=true/\aAk (C.P.underlying f.type)=a:=by
 obtain⟨d,hd,u⟩:=jO h;rw[H]at u;obtain⟨m,rfl,M,B⟩:=u;exact⟨m,hd,M,B⟩
theorem aF1{t:TypeId}{n:Nat}(h:(C.P.info? t).map (·.size)=some n)(w:World):(sizeOf t).run C.P w=.ok n w:=by
 simp only[sF]at h;obtain⟨i,m,u⟩:=h;simp[sizeOf,typeInfo,m,u]
theorem aKk{t:TypeId}(h:(C.P.underlying t).isSome=true)(w:World):(isAgg t).run C.P w=.ok (aAk (C.P.underlying t)) w:=by
 obtain⟨d,hd⟩:=Option.isSome_iff_exists.1 h;simp only[isAgg,bW,eJ hd,bV,hd];cases d<;>rfl
theorem mG(b o n:Nat):(⟨b,o,none⟩:Addr).add n=⟨b,o+n,none⟩:=by unfold Addr.add;split<;>simp_all
theorem aIj{a:Addr}{f:Field}{n:Nat}(h:(C.P.info? f.type).map (·.size)=some n)(m:n≠0)(w:World) :
  (fieldPlace a f).run C.P w=.ok (a.add f.offset) w:=by
 simp[fieldPlace,aF1 h,m]
theorem aPv{t ty:TypeId}{x:Operand}{f:Nat}{dst:Option Tmp}{pos:String}{after:Array Edge}{gd:Option (Nat × Bool)}
  (S:R C.toCtx F g s w)(H:∀x a,ρ x=some a->Rz g a (ev x))(h:cS C (.fieldAddr t x f) ρ K) :
  OutS C F g s K ((execOp ev ⟨dst,.fieldAddr t x f,ty,pos,after,gd⟩).run C.P w):=by
 simp only[cS]at h;split at h
 .rename_i a ti ha B;split at h
  .rename_i fs hk;split at h
   .rename_i off sz ag hf;obtain⟨y,M,_,z⟩:=aDl B hk;obtain⟨fl,Z,h2,U,O,_,_⟩:=z f off sz ag hf;simp only[execOp];split at h
    .rename_i b o;obtain⟨k,this,hb⟩:=(H x _ ha).ptr_inv;refine fJ (v:=.pointer (some ⟨k,o+off,none⟩)) S ?_ (.ptr b (o+off) k hb) h;simp[Instr.fieldAt,eJ M,Z,Instr.sureAddr,this,aIj U O,h2,mG]
    .rename_i cs o;obtain⟨b,m,pre,hv,hp,hl,u,hr⟩:=(H x _ ha).eptr_inv;refine fJ (v:=.pointer (some ⟨b,m+(o+off),none⟩)) S ?_ (.eptr cs (o+off) b m pre hp hl u hr) h;simp[Instr.fieldAt,eJ M,Z,Instr.sureAddr,hv,aIj U O,h2,mG,qE]
    .exact h.elim
   .exact h.elim
  .exact h.elim
 .exact h.elim
theorem aT6{t ty:TypeId}{x:Operand}{f:Nat}{dst:Option Tmp}{pos:String}{after:Array Edge}{gd:Option (Nat × Bool)}
  (hR:R C.toCtx F g s w)(he:∀x a,ρ x=some a->Rz g a (ev x))(h:cS C (.field t x f) ρ K) :
  OutS C F g s K ((execOp ev ⟨dst,.field t x f,ty,pos,after,gd⟩).run C.P w):=by
 simp only[cS]at h;split at h
 .rename_i cs ti ha O;split at h
  .rename_i fs hk;split at h
   .rename_i off sz ag hf;obtain⟨B,Z,_,M⟩:=aDl O hk;obtain⟨fl,h1,h2,h3,h4,U,h6⟩:=M f off sz ag hf;obtain⟨vs,hv,u,z⟩:=(he x _ ha).agg_inv;simp only[execOp];split at h
    .rename_i m;obtain⟨hl,hK⟩:=h;refine fJ (v:=.agg ((vs.drop off).take sz).toArray) hR ?_ ?_ hK
     .simp only[Instr.field,bW,eJ Z,bV,h1,hv,asAgg,cI,part,aKk U,h6,m,↓reduceIte,aF1 h3,h2];congr 2;simp[List.extract_toArray,List.take_drop,Nat.add_comm]
     .have:=(u.drop off).take sz;exact .agg _ _ this.1 (λc H=>z c (vE (sH H))) this.2
    .rename_i m;split at h
     .rename_i a H;obtain⟨v,S,hr⟩:=u.get H;refine fJ (v:=v) hR ?_ hr h;have y:ag=false:=gQ m;simp only[Instr.field,bW,eJ Z,bV,h1,hv,asAgg,cI,part,aKk U,h6,y,cE,↓reduceIte,h2];rw[pE,S];rfl
     .exact h.elim
   .exact h.elim
  .exact h.elim
 .exact h.elim
theorem aTF{t ty:TypeId}{x:Operand}{lo U mx:Option Operand}{dst:Option Tmp}{pos:String}{after:Array Edge}{gd:Option (Nat × Bool)}
  (hR:R C.toCtx F g s w)(he:∀x a,ρ x=some a->Rz g a (ev x))(h:cS C (.slice t x lo U mx) ρ K) :
  OutS C F g s K ((execOp ev ⟨dst,.slice t x lo U mx,ty,pos,after,gd⟩).run C.P w):=by
 cases mx with
 | some _=>simp only[cS]at h
 | none =>
 simp only[cS]at h;split at h
 .rename_i a l h' ti ha bb b7 b9;obtain⟨d,hd,H⟩:=jO b9;obtain⟨l1,l2⟩:=aMu he bb;obtain⟨h1,h2⟩:=aMu he b7;split at h
  .rename_i hk;rw[hk]at H;simp only[TK.ok]at H;subst H;split at h
   .rename_i str;simp only[xT]at h;split at h
    .rename_i m u z y;obtain⟨⟨c0,c1,c2⟩,S⟩:=h;have M:=(he x _ ha).str_inv;have e1:(ByteArray.mk str.toArray).size=str.length:=by simp[ByteArray.size]
     refine fJ (v:=.string ((ByteArray.mk str.toArray).extract m.toNat u.toNat)) hR ?_ ?_ S
     .simp only[execOp,Instr.sliceAt,bW,eJ hd,bV,Instr.slice,M,Option.map_none,Option.isSome_none,cE,↓reduceIte,e1];rw[aBO (C:=C) (w:=w) (g:=g) z y c0 c1 c2 (aV _) l1 l2 h1 h2];rfl
     .have:(ByteArray.mk str.toArray).extract m.toNat u.toNat=⟨((str.drop m.toNat).take (u.toNat-m.toNat)).toArray⟩:=by
       apply ByteArray.ext;apply Array.ext';rw[Lib.extract_data]
      rw[this];exact .str _
    .exact h.elim
   .exact h.elim
  .rename_i el hk;rw[hk]at H;simp only[TK.ok]at H;subst H;split at h
   .rename_i tk es Z B;obtain⟨b8,h⟩:=h;simp only[xT]at h;split at h
    .rename_i m u z y;obtain⟨⟨c0,c1,c2⟩,S⟩:=h;obtain⟨ad,cap,M,hm,b2,_,b0⟩:=(he x _ ha).list_inv;refine fJ (v:=.slice (if cap=m.toNat then ad else ad.map (·.add (m.toNat * Z.sz))) (u.toNat-m.toNat) (cap-m.toNat)) hR ?_ ?_ S
     .simp only[execOp,Instr.sliceAt,bW,eJ hd,bV,Instr.slice,M,Option.map_none];rw[aBO (C:=C) (w:=w) (g:=g) z y c0 c1 c2 b2 l1 l2 h1 h2];simp only[bV,mT B,cI]
     .have O:((es.drop m.toNat).take (u.toNat-m.toNat)).length=u.toNat-m.toNat:=by
       rw[cQ,eC];omega
      by_cases hz:u.toNat-m.toNat=0
      .rw[hz,List.take_zero];exact .list0 none _ _ aC bJ
      .rcases b0 with rfl|⟨b,off,sz,pre,rfl,hp,bd,hs,b6,hr⟩
       .simp at c2;omega
       .have b5:¬ cap=m.toNat:=by omega
        have b4:0<es.length:=by omega
        have b3:Z.sz=sz:=by
         have hx:=mP b4;rw[<-b8 _ hx,hs _ hx]
        rw[aB b5,b3];simp only[nO,mG]
        have bc:m.toNat * sz+(u.toNat-m.toNat) * sz<=es.length * sz:=by
         rw[<-iL];exact pZ _ aC
        have:=Rz.list (g:=g) none ((es.drop m.toNat).take (u.toNat-m.toNat)) b (off+m.toNat * sz) sz (cap-m.toNat) pre hp (by rw[O];omega) (by rw[O];omega) aC
         (λe hx=>hs e (vE (sH hx))) (λe hx=>b6 e (vE (sH hx)))
         (fun i e j c v U hj M => by
          rw[oJ]at U;split at U
          .rw[qC]at U;refine hr _ e j c v U hj ?_;rw[iL,<-qE];exact M
          .simp at U) bJ
        rw[O]at this;exact this
    .exact h.elim
   .rename_i Z B;split at h
    .rename_i m u z y;obtain⟨⟨rfl,rfl⟩,S⟩:=h;have M:=(he x _ ha).nils_inv;refine fJ (v:=.slice none 0 0) hR ?_ .nils S;simp only[execOp,Instr.sliceAt,bW,eJ hd,bV,Instr.slice,M,Option.map_none];rw[aBO (C:=C) (w:=w) (g:=g) (n:=0) z y (yN _) (yN _) (yN _) (aV _) l1 l2 h1 h2];simp only[bV,mT B,cI];rfl
    .exact h.elim
   .rename_i t0 n0 Z B;split at h
    .rename_i m u z y;obtain⟨⟨rfl,rfl⟩,S⟩:=h;obtain⟨k,cap,M,hg,hn,hm⟩:=(he x _ ha).gr_inv;refine fJ (v:=.slice (if cap=(0:Int).toNat then some ⟨k,0,none⟩ else(some (⟨k,0,none⟩:Addr)).map (·.add ((0:Int).toNat * Z.sz))) 0 cap) hR ?_ ?_ S
     .simp only[execOp,Instr.sliceAt,bW,eJ hd,bV,Instr.slice,M,Option.map_none];rw[aBO (C:=C) (w:=w) (g:=g) (n:=n0) z y (yN _) (yN _) aC hn l1 l2 h1 h2];simp only[bV,mT B,cI];rfl
     .have e1:(if cap=(0:Int).toNat then some (⟨k,0,none⟩:Addr) else(some (⟨k,0,none⟩:Addr)).map (·.add ((0:Int).toNat * Z.sz)))=some ⟨k,0,none⟩:=by
       split
       .rfl
       .simp[mG]
      rw[e1];exact .list0 (some t0) _ cap hm (λt ht=>by cases ht;exact hg)
    .exact h.elim
   .rename_i b off n Z B;split at h
    .rename_i m u z y;obtain⟨⟨c0,c1,c2⟩,S⟩:=h;obtain⟨k,cap,M,hb,hc,hm⟩:=(he x _ ha).ml_inv;refine fJ (v:=.slice (if cap=m.toNat then some ⟨k,off,none⟩ else(some (⟨k,off,none⟩:Addr)).map (·.add (m.toNat * Z.sz))) (u.toNat-m.toNat) (cap-m.toNat)) hR ?_ ?_ S
     .simp only[execOp,Instr.sliceAt,bW,eJ hd,bV,Instr.slice,M,Option.map_none];rw[aBO (C:=C) (w:=w) (g:=g) z y c0 c1 c2 hc l1 l2 h1 h2];simp only[bV,mT B,cI]
     .by_cases hz:u.toNat-m.toNat=0
      .rw[aF hz,hz];exact .list0 none _ _ aC bJ
      .rw[aB hz,aB aC];simp only[nO,mG];exact .ml b _ _ _ k hb aC aC
    .exact h.elim
   .exact h.elim
  .exact h.elim
 .exact h.elim
end
end
section
theorem aKN{α:Type}(l:List α)(k:Nat)(v:α)(rest:List α)(h:k<l.length) :
  (l.set k v).take (k+1)++rest++(l.set k v).drop (k+1+rest.length)=l.take k++(v::rest)++l.drop (k+(rest.length+1)):=by
 have m:(l.set k v).take (k+1)=l.take k++[v]:=by
  rw[List.take_succ_eq_append_getElem (gQ h)];simp only[List.take_set,List.getElem_set_self];rw[List.set_eq_of_length_le (by simp;omega)]
 have h2:(l.set k v).drop (k+1+rest.length)=l.drop (k+(rest.length+1)):=by
  rw[List.drop_set_of_lt aC];congr 1;omega
 rw[m,h2];simp
theorem aBS:∀(vs cs:List A) (o:Nat),o+vs.length<=cs.length->lP cs o vs=cs.take o++vs++cs.drop (o+vs.length)
 | [],cs,o,_=>by simp[lP]
 | v::vs,cs,o,h=>by
  simp only[aG]at h;rw[lP,aBS vs _ _ (by simp;omega)];exact aKN cs o v vs aC
def aBD(cells:Array Value)(off:Nat)(vs:Array Value):Array Value:=vs.zipIdx.foldl (λcs (c,j)=>cs.setIfInBounds (off+j) c) cells
theorem aNu(off:Nat):∀(l:List Value) (k:Nat) (cells:Array Value),off+k+l.length<=cells.size ->
  ((l.zipIdx k).foldl (λcs (x:Value × Nat)=>cs.setIfInBounds (off+x.2) x.1) cells).toList=cells.toList.take (off+k)++l++cells.toList.drop (off+k+l.length)
 | [],k,cells,_=>by simp
 | v::l,k,cells,h=>by
  simp only[aG]at h;simp only[List.zipIdx_cons,List.foldl_cons];rw[aNu off l (k+1) _ (by simp;omega)];simp only[Array.toList_setIfInBounds,aG];have:=aKN cells.toList (off+k) v l (by simp;omega);rw[show off+(k+1)=off+k+1 by omega];exact this
theorem aI3(cells:Array Value)(off:Nat)(vs:Array Value)(h:off+vs.size<=cells.size) :
  (aBD cells off vs).toList=cells.toList.take off++vs.toList++cells.toList.drop (off+vs.size):=by
 obtain⟨l⟩:=vs;have:=aNu off l 0 cells (gQ h);simpa [aBD]using this
theorem aJW{place:Nat->Option (Nat × Nat)}{cells:Array Value}{i:Nat}{v:Value}{rest:List (Nat × Value)}{off h:Nat}
  (m:place i=some (off,h))(u:v.cells.size=h)(hl:off+h<=cells.size) :
  Instr.fill place cells ((i,v)::rest)=Instr.fill place (aBD cells off v.cells) rest:=by
 simp only[Instr.fill,m];rw[aB (by simp[u];omega)];rfl
section
variable {C:Cx} {F:Fr} {g:Gh} {s:St} {w:World} {K:A->Prop} {ρ:Operand->Option A} {ev:Operand->Value}
theorem Rzs.put{cs:List A}{cells:Array Value}{off:Nat}{a:A}{v:Value}(h:Rzs g cs cells.toList)(y:Rz g a v)(hl:off+a.cells.length<=cs.length) :
  Rzs g (lP cs off a.cells) (aBD cells off v.cells).toList:=by
 have u:=y.cells;have e:v.cells.size=a.cells.length:=gQ u.1;have m:cells.size=cs.length:=gQ h.1;rw[aBS _ _ _ hl,aI3 _ _ _ aC,e];exact((h.take off).append u).append (h.drop _)
theorem aLD{place:Nat->Option (Nat × Nat)}{h:Nat->Option (Nat × Nat)}(H:∀i x,h i=some x->place i=some x) :
  ∀{az:List (Nat × A)} {vs:List (Nat × Value)} {cs r:List A} {cells:Array Value},
   (vs.map λx=>x.1)=(az.map λx=>x.1)->Rzs g (az.map λx=>x.2) (vs.map λx=>x.2)->Rzs g cs cells.toList ->
   wB h cs az=some r->∃out,Instr.fill place cells vs=some out/\Rzs g r out.toList
 | [],vs,cs,r,cells,y,h2,B,m=>by
  simp only[wB,bQ]at m;subst m;have:vs=[]:=gQ y;subst this;exact⟨cells,rfl,B⟩
 | (i,a)::az,[],cs,r,cells,y,h2,B,m=>by simp at y
 | (i,a) :: az,(j,v) :: vs,cs,r,cells,y,h2,B,m => by
  simp only[bN,List.cons.injEq]at y;obtain⟨rfl,y⟩:=y;simp only[wB]at m;split at m
  .simp at m
  .rename_i off z U;split at m
   .rename_i M;obtain⟨e1,e2,e3⟩:=M;have O:Rz g a v:=h2.2 0 a v bJ bJ;have Z:v.cells.size=z:=by have:=O.cells.1;simp only[qA]at this;omega
    have b0:cells.size=cs.length:=gQ B.1;rw[aJW (H _ _ U) Z aC];refine aLD H y ⟨gQ h2.1,λk c u M S=>h2.2 (k+1) c u (gQ M) (gQ S)⟩ (B.put O aC) m
   .simp at m
theorem aLe{α m:Type}(P:Program)(w:World)(f:α->Sem m)(k:α->m):∀(l:List α),(∀x,x∈l->(f x).run P w=.ok (k x) w) ->
  (l.mapM f).run P w=.ok (l.map k) w
 | [],_=>by simp
 | x::l,h=>by
  simp only[List.mapM_cons,bW,h x bJ,bV,aLe P w f k l (λy u=>h y (by simp[u])),cI,bN]
theorem aS8{t ty:TypeId}{parts:Array (Nat × Operand)}{dst:Option Tmp}{pos:String}{after:Array Edge}{gd:Option (Nat × Bool)}
  (hR:R C.toCtx F g s w)(he:∀x a,ρ x=some a->Rz g a (ev x))(h:cS C (.build t parts) ρ K) :
  OutS C F g s K ((execOp ev ⟨dst,.build t parts,ty,pos,after,gd⟩).run C.P w):=by
 simp only[cS]at h;split at h
 .rename_i ps ti b8 M;split at h
  .rename_i O hk;split at h
   .rename_i r hr;simp only[sF]at hr;obtain⟨r',S,rfl⟩:=hr;obtain⟨m,hu,hn,U⟩:=aDl M hk;obtain⟨z,hz,b2⟩:=aCg M w;obtain⟨p1,p2⟩:=aDo he b8
    have b0:∀f,f∈m.toList->((do let x <-sizeOf f.type;pure (f.offset,x)):Sem (Nat × Nat)).run C.P w=.ok (f.offset,C.toCtx.sz f.type) w:=by
     intro f hf;obtain⟨i,hi,rfl⟩:=lN hf;have b4:i<O.length:=by rw[<-hn];simpa using hi
     obtain⟨f',H,h2,h3,h4,_⟩:=U i O[i].1 O[i].2.1 O[i].2.2 (by simp[b4]);have b3:m[i]?=some m.toList[i]:=by rw[<-aCS];exact aX hi
     rw[b3]at H;cases H;simp only[bW,aF1 h3,bV,cI,Ctx.sz,h3,Option.getD_some]
    have B:=aLe C.P w _ (λf:Field=>(f.offset,C.toCtx.sz f.type)) m.toList b0
    have b6:∀(i:Nat) (x:Nat × Nat),((O[i]?).map λ(x:Nat × Nat × Bool)=>(x.1,x.2.1))=some x->((m.toList.map λf:Field=>(f.offset,C.toCtx.sz f.type)).toArray)[i]?=some x:=by
     intro i x hx;simp only[sF]at hx;obtain⟨y,hy,rfl⟩:=hx;obtain⟨f',H,h2,h3,h4,_⟩:=U i y.1 y.2.1 y.2.2 hy;rw[pE,lO,aCS,H];simp[h2,Ctx.sz,h3]
    obtain⟨out,ho,b7⟩:=aLD (g:=g) b6 (az:=ps) (vs:=parts.toList.map λx=>(x.1,ev x.2)) (cs:=ti.zero) (cells:=z.cells) (r:=r')
     (by rw[<-p1];simp[Function.comp_def]) (by simpa [Function.comp_def]using p2) (b2 g) S
    have Z:∀c,c∈r'->c.one=true:=by
     have b5:∀(az:List (Nat × A)) (cs r:List A),(∀c,c∈cs->c.one=true)->wB (λi=>(O[i]?).map λx=>(x.1,x.2.1)) cs az=some r->∀c,c∈r->c.one=true:=by
      intro az
      induction az with
      | nil=>intro cs r H h2;simp only[wB,bQ]at h2;subst h2;exact H
      | cons x az ih =>
       intro cs r H h2;obtain⟨i,a⟩:=x;simp only[wB]at h2;split at h2
       .simp at h2
       .split at h2
        .rename_i hc;refine ih _ _ ?_ h2;intro c u;rw[aBS _ _ _ aC]at u;simp only[cZ]at u;rcases u with(u|u)|u
         .exact H c (sH u)
         .have:=hc.2.2;simp only[gD,jF]at this;exact this c u
         .exact H c (vE u)
        .simp at h2
     exact b5 ps ti.zero r' (C.htt t ti M).one S
    refine fJ (v:=.agg out) hR ?_ ?_ h
    .simp only[Instr.build,bW,hz,bV,eJ hu];rw[Array.mapM_eq_mapM_toList];rw[Sem.run_map,B];simp only[bV];have:(parts.map λx=>(x.1,ev x.2)).toList=parts.toList.map λx=>(x.1,ev x.2):=by simp
     rw[this,ho];rfl
    .have:=b7;exact .agg r' out.toList this.1 Z this.2
   .exact h.elim
  .exact h.elim
 .exact h.elim
end
end
section
section
variable {C:Cx} {F:Fr} {g:Gh} {s:St} {w:World} {K:A->Prop} {ρ:Operand->Option A} {ev:Operand->Value}
theorem aGq:∀{az:List (Nat × A)} {k:Nat} {es:List A},aBa k az=some es->az.map (λx=>x.2)=es/\az.map (λx=>x.1)=List.range' k es.length
 | [],k,es,h=>by simp[aBa]at h;subst h;simp
 | (i,a)::r,k,es,h=>by
  simp only[aBa]at h;split at h
  .rename_i y;subst y;simp only[sF]at h;obtain⟨u,m,rfl⟩:=h;have:=aGq m;simp[this.1,this.2,List.range'_succ]
  .simp at h
theorem aGz(h:Nat):∀(vs:List (Nat × Value)) (k:Nat) (cells:Array Value),vs.map (λx=>x.1)=List.range' k vs.length ->
  (∀x,x∈vs->x.2.cells.size=h)->(k+vs.length) * h<=cells.size ->
  ∃out,Instr.fill (λi=>some (i * h,h)) cells vs=some out /\
   out.toList=cells.toList.take (k * h)++(vs.flatMap λx=>x.2.cells.toList)++cells.toList.drop ((k+vs.length) * h)
 | [],k,cells,_,_,_=>⟨cells,rfl,by simp⟩
 | (i,v) :: vs,k,cells,z,h2,M => by
  simp only[bN,aG,List.range'_succ,List.cons.injEq]at z;obtain⟨rfl,z⟩:=z;have y:=h2 (i,v) bJ;simp only[aG]at M
  have hm:i * h+h<=(i+(vs.length+1)) * h:=by
   rw[show i * h+h=(i+1) * h by rw[iL];omega];exact pZ _ aC
  have m:=aI3 cells (i * h) v.cells (by simp only at y;omega)
  have B:(aBD cells (i * h) v.cells).size=cells.size:=by
   have:=dV List.length m;simp only[qA,aI,cQ,eC]at this;simp only at y;omega
  rw[aJW rfl y aC];have H:(i+1+vs.length) * h=(i+(vs.length+1)) * h:=by rw[show i+1+vs.length=i+(vs.length+1)by omega]
  obtain⟨out,ho,u⟩:=aGz h vs (i+1) (aBD cells (i * h) v.cells) z (λx O=>h2 x (by simp[O])) (by rw[B,H];exact M);refine⟨out,ho,?_⟩;rw[u,m];simp only at y;have S:(i+1) * h=i * h+h:=by rw[iL];omega
  have Z:=H;rw[S,Z,aG,kG]
  have U:(cells.toList.take (i * h)++v.cells.toList++cells.toList.drop (i * h+v.cells.size)).take (i * h+h)=cells.toList.take (i * h)++v.cells.toList:=by
   apply List.take_left';simp only[aI,cQ,qA];omega
  have t2:(cells.toList.take (i * h)++v.cells.toList++cells.toList.drop (i * h+v.cells.size)).drop ((i+(vs.length+1)) * h)=cells.toList.drop ((i+(vs.length+1)) * h):=by
   have hl:(cells.toList.take (i * h)++v.cells.toList).length=i * h+h:=by
    simp only[aI,cQ,qA];omega
   rw[List.drop_append,yF aC,bA,hl,vI];congr 1;omega
  rw[U,t2];simp
theorem aOl{t ty:TypeId}{n:Nat}{parts:Array (Nat × Operand)}{dst:Option Tmp}{pos:String}{after:Array Edge}{gd:Option (Nat × Bool)}
  (hR:R C.toCtx F g s w)(he:∀x a,ρ x=some a->Rz g a (ev x))(h:cS C (.buildSlice t n parts) ρ K) :
  ∃ti H e es out a,C.tt t=some ti/\ti.k=.slice e/\C.tt e=some H/\(∀x,x∈es->x.cells.length=H.sz/\∀c,c∈x.cells->c.one=true)/\(es.length * H.sz<=16777216/\es.length<=16777216) /\
   (execOp ev ⟨dst,.buildSlice t n parts,ty,pos,after,gd⟩).run C.P w=.ok (.value (.slice (some ⟨w.heap.size,0,none⟩) es.length es.length)) (w.alloc (.cells out e)) /\
   Rzs g (flat es) out.toList/\(∀tk M,a=.list tk M->M=es)/\K a:=by
 simp only[cS]at h;split at h
 .rename_i ps ti bm bc;split at h
  .rename_i e hk;split at h
   .rename_i H b2;split at h
    .rename_i es bf;obtain⟨⟨rfl,⟨b5,b3⟩,bl⟩,hK⟩:=h;obtain⟨d,hd,U⟩:=jO bc;rw[hk]at U;simp only[TK.ok]at U;subst U;obtain⟨p1,p2⟩:=aDo he bm;obtain⟨q1,q2⟩:=aGq bf;have b6:=aGe bl
     have b0:parts.toList.length=es.length:=by
      have:=dV List.length p1;have:=dV List.length q1;simp at *;omega
     have bh:∀x,x∈(parts.toList.map λx=>(x.1,ev x.2))->x.2.cells.size=H.sz:=by
      intro x hx;obtain⟨k,hk,rfl⟩:=lN hx;simp only[aK]at hk;have b7:k<es.length:=by omega
      have hc:(ps.map λx=>x.2)[k]?=some es[k]:=by rw[q1];exact aX b7
      obtain⟨v,hv,hr⟩:=p2.get hc;have b9:=hr.cells.1;rw[(b6 _ (mP b7)).1]at b9;simp only[List.getElem_map];rw[lO,aX hk]at hv;simp only[nO,bQ]at hv;rw[hv];simpa using b9
     have bb:(parts.toList.map λx=>(x.1,ev x.2)).map (λx=>x.1)=List.range' 0 (parts.toList.map λx=>(x.1,ev x.2)).length:=by
      simp only[List.map_map,Function.comp_def,aK];rw[p1,q2,b0]
     obtain⟨z,hz,bp⟩:=aCg b2 w;have bn:∀(zero:Array Value),((Array.range (es.length * H.sz)).map (λk=>zero[k % zero.size]!)).size=es.length * H.sz:=by intro zero;simp
     have S:∀zero:Array Value,∃out,Instr.fill (λi=>some (i * H.sz,H.sz)) ((Array.range (es.length * H.sz)).map (λk=>zero[k % zero.size]!)) (parts.toList.map λx=>(x.1,ev x.2))=some out /\
       out.toList=(parts.toList.map λx=>(x.1,ev x.2)).flatMap λx=>x.2.cells.toList:=by
      intro zero;obtain⟨out,ho,B⟩:=aGz H.sz (parts.toList.map λx=>(x.1,ev x.2)) 0 ((Array.range (es.length * H.sz)).map (λk=>zero[k % zero.size]!)) bb bh (by simp[b0]);refine⟨out,ho,?_⟩;rw[B]
      have:(((Array.range (es.length * H.sz)).map (λk=>zero[k % zero.size]!)).toList).drop ((0+(parts.toList.map λx=>(x.1,ev x.2)).length) * H.sz)=[] :=
       yF (by simp[b0])
      rw[this];simp
     have Z:Rzs g (flat es) ((parts.toList.map λx=>(x.1,ev x.2)).flatMap λx=>x.2.cells.toList):=by
      have b4:∀(az:List A) (vs:List Value),Rzs g az vs->Rzs g (flat az) (vs.flatMap λv=>v.cells.toList):=by
       intro az
       induction az with
       | nil=>intro vs h;have:vs=[]:=fW h.1;subst this;exact .nil g
       | cons a az ih =>
        intro vs h;cases vs with
        | nil=>have:=h.1;simp at this
        | cons v vs =>
         simp only[flat,kG];exact(h.2 0 a v bJ bJ).cells.append (ih vs ⟨gQ h.1,λj c u hc hu=>h.2 (j+1) c u (gQ hc) (gQ hu)⟩)
      have:=b4 _ _ p2;rw[q1]at this;simpa [List.flatMap_map]using this
     simp only[execOp]
     have O:∃out:Array Value,(Instr.buildSlice t es.length (parts.map λx=>(x.1,ev x.2))).run C.P w =
       .ok (.slice (some ⟨w.heap.size,0,none⟩) es.length es.length) (w.alloc (.cells out e))/\Rzs g (flat es) out.toList:=by
      have bd:(parts.map λx=>(x.1,ev x.2)).toList=parts.toList.map λx=>(x.1,ev x.2):=by simp
      by_cases h0:es.length * H.sz=0
      .obtain⟨out,ho,B⟩:=S #[];refine⟨out,?_,by rw[B];exact Z⟩;simp only[Instr.buildSlice,bW,eJ hd,bV,mT b2];rw[aB aC,aF h0];simp only[cI,pure_bind,bW,bV,bd,ho,newRow,run_newObj];rfl
      .obtain⟨out,ho,B⟩:=S z.cells;refine⟨out,?_,by rw[B];exact Z⟩;simp only[Instr.buildSlice,bW,eJ hd,bV,mT b2];rw[aB aC,aB h0];simp only[cI,pure_bind,bW,bV,hz,bd,ho,newRow,run_newObj];rfl
     obtain⟨out,O,bk⟩:=O;rw[aAK,O]
     have b4:∃a,(∀tk M,a=.list tk M->M=es)/\K a:=by
      cases b8:aEv parts.toList with
      | true =>
       rw[b8]at hK;refine⟨_,λtk M m=>?_,hK⟩
       match es,m with
       | [],m=>cases m
       | [x],m=>cases m
       | x::y::r,m=>cases m;rfl
      | false =>
       rw[b8]at hK;refine⟨_,λtk M m=>?_,hK⟩;cases es with
       | nil=>cases m
       | cons x r=>cases m;rfl
     obtain⟨a,bg,bj⟩:=b4;exact⟨ti,H,e,es,out,a,bc,hk,b2,b6,⟨b5,b3⟩,rfl,bk,bg,bj⟩
    .exact h.elim
   .exact h.elim
  .exact h.elim
 .exact h.elim
theorem aOI{t ty:TypeId}{n:Nat}{parts:Array (Nat × Operand)}{dst:Option Tmp}{pos:String}{after:Array Edge}{gd:Option (Nat × Bool)}
  (hR:R C.toCtx F g s w)(he:∀x a,ρ x=some a->Rz g a (ev x))(h:cS C (.buildSlice t n parts) ρ K) :
  OutS C F g s K ((execOp ev ⟨dst,.buildSlice t n parts,ty,pos,after,gd⟩).run C.P w):=by
 simp only[cS]at h;split at h
 .rename_i ps ti bj bm;split at h
  .rename_i e hk;split at h
   .rename_i M b3;split at h
    .rename_i es bk;obtain⟨⟨rfl,⟨bn,bg⟩,bh⟩,hK⟩:=h;obtain⟨d,hd,S⟩:=jO bm;rw[hk]at S;simp only[TK.ok]at S;subst S;obtain⟨p1,p2⟩:=aDo he bj;obtain⟨q1,q2⟩:=aGq bk;have b2:=aGe bh
     have b0:parts.toList.length=es.length:=by
      have:=dV List.length p1;have:=dV List.length q1;simp at *;omega
     have bl:∀x,x∈(parts.toList.map λx=>(x.1,ev x.2))->x.2.cells.size=M.sz:=by
      intro x hx;obtain⟨k,hk,rfl⟩:=lN hx;simp only[aK]at hk;have b7:k<es.length:=by omega
      have hc:(ps.map λx=>x.2)[k]?=some es[k]:=by rw[q1];exact aX b7
      obtain⟨v,hv,hr⟩:=p2.get hc;have bc:=hr.cells.1;rw[(b2 _ (mP b7)).1]at bc;simp only[List.getElem_map];rw[lO,aX hk]at hv;simp only[nO,bQ]at hv;rw[hv];simpa using bc
     have b6:(parts.toList.map λx=>(x.1,ev x.2)).map (λx=>x.1)=List.range' 0 (parts.toList.map λx=>(x.1,ev x.2)).length:=by
      simp only[List.map_map,Function.comp_def,aK];rw[p1,q2,b0]
     obtain⟨z,hz,bp⟩:=aCg b3 w;have bq:∀(zero:Array Value),((Array.range (es.length * M.sz)).map (λk=>zero[k % zero.size]!)).size=es.length * M.sz:=by intro zero;simp
     have Z:∀zero:Array Value,∃out,Instr.fill (λi=>some (i * M.sz,M.sz)) ((Array.range (es.length * M.sz)).map (λk=>zero[k % zero.size]!)) (parts.toList.map λx=>(x.1,ev x.2))=some out /\
       out.toList=(parts.toList.map λx=>(x.1,ev x.2)).flatMap λx=>x.2.cells.toList:=by
      intro zero;obtain⟨out,ho,B⟩:=aGz M.sz (parts.toList.map λx=>(x.1,ev x.2)) 0 ((Array.range (es.length * M.sz)).map (λk=>zero[k % zero.size]!)) b6 bl (by simp[b0]);refine⟨out,ho,?_⟩;rw[B]
      have:(((Array.range (es.length * M.sz)).map (λk=>zero[k % zero.size]!)).toList).drop ((0+(parts.toList.map λx=>(x.1,ev x.2)).length) * M.sz)=[] :=
       yF (by simp[b0])
      rw[this];simp
     have U:Rzs g (flat es) ((parts.toList.map λx=>(x.1,ev x.2)).flatMap λx=>x.2.cells.toList):=by
      have bf:∀(az:List A) (vs:List Value),Rzs g az vs->Rzs g (flat az) (vs.flatMap λv=>v.cells.toList):=by
       intro az
       induction az with
       | nil=>intro vs h;have:vs=[]:=fW h.1;subst this;exact .nil g
       | cons a az ih =>
        intro vs h;cases vs with
        | nil=>have:=h.1;simp at this
        | cons v vs =>
         simp only[flat,kG];exact(h.2 0 a v bJ bJ).cells.append (ih vs ⟨gQ h.1,λj c u hc hu=>h.2 (j+1) c u (gQ hc) (gQ hu)⟩)
      have:=bf _ _ p2;rw[q1]at this;simpa [List.flatMap_map]using this
     simp only[execOp]
     have O:∃out:Array Value,(Instr.buildSlice t es.length (parts.map λx=>(x.1,ev x.2))).run C.P w =
       .ok (.slice (some ⟨w.heap.size,0,none⟩) es.length es.length) (w.alloc (.cells out e))/\Rzs g (flat es) out.toList:=by
      have b8:(parts.map λx=>(x.1,ev x.2)).toList=parts.toList.map λx=>(x.1,ev x.2):=by simp
      by_cases h0:es.length * M.sz=0
      .obtain⟨out,ho,B⟩:=Z #[];refine⟨out,?_,by rw[B];exact U⟩;simp only[Instr.buildSlice,bW,eJ hd,bV,mT b3];rw[aB aC,aF h0];simp only[cI,pure_bind,bW,bV,b8,ho,newRow,run_newObj];rfl
      .obtain⟨out,ho,B⟩:=Z z.cells;refine⟨out,?_,by rw[B];exact U⟩;simp only[Instr.buildSlice,bW,eJ hd,bV,mT b3];rw[aB aC,aB h0];simp only[cI,pure_bind,bW,bV,hz,b8,ho,newRow,run_newObj];rfl
     obtain⟨out,O,b9⟩:=O;rw[aAK,O];obtain⟨bb,b4⟩:=hR.newRow out.toList e []
     have m:es≠[]->Rz (g.know w.heap.size out.toList) (.list none es) (.slice (some ⟨w.heap.size,0,none⟩) es.length es.length):=by
      intro H;have b5:=b9.mono b4.le;have hl:=yM (λx hx=>(b2 x hx).1);refine yT (pre:=out.toList) (vs:=out.toList) (off:=0) (sz:=M.sz) (by simp[Gh.know]) bJ ?_ (λx hx=>(b2 x hx).1) (λx hx=>(b2 x hx).2) (aV _) ?_ (aU _) bJ
      .rw[eG (by rw[b9.1,hl];exact aV _)];exact b5
      .unfold maxLen;omega
     have hz:Rz (g.know w.heap.size out.toList) (hlA es) (.slice (some ⟨w.heap.size,0,none⟩) es.length es.length):=by
      match es,m with
      | [],_=>exact .emp _
      | [x],m=>exact .hl x _ _ (m bJ)
      | x::y::r,m=>exact m bJ
     cases bd:aEv parts.toList with
     | true=>rw[bd]at hK;exact⟨_,_,b4,gQ bb,hz,hK⟩
     | false =>
     rw[bd]at hK;refine⟨_,_,b4,gQ bb,?_,hK⟩;cases H:es with
     | nil=>exact .emp _
     | cons e0 r0 =>
     rw[<-H];show Rz _ (aCx es) _;rw[show aCx es=.list none es by rw[H];rfl];exact m (by rw[H];simp)
    .exact h.elim
   .exact h.elim
  .exact h.elim
 .exact h.elim
theorem aPd{t ty:TypeId}{x i:Operand}{dst:Option Tmp}{pos:String}{after:Array Edge}{gd:Option (Nat × Bool)}
  (hR:R C.toCtx F g s w)(he:∀x a,ρ x=some a->Rz g a (ev x))(h:cS C (.indexAddr t x i) ρ K) :
  OutS C F g s K ((execOp ev ⟨dst,.indexAddr t x i,ty,pos,after,gd⟩).run C.P w):=by
 simp only[cS]at h;split at h
 .rename_i a k n ti ha hi b5;have z:=(he i _ hi).int_inv;obtain⟨d,hd,y⟩:=jO b5;simp only[execOp];split at h
  .rename_i e hk;rw[hk]at y;simp only[TK.ok]at y;subst y;split at h
   .rename_i tk es;split at h
    .rename_i M u;obtain⟨⟨h0,O⟩,h⟩:=h;have b0:es[n.toNat]?=some es[n.toNat]:=aX O;rw[b0]at h;obtain⟨b2,S⟩:=h;obtain⟨ad,cap,H,hm,Z,_,hr⟩:=(he x _ ha).list_inv;rcases hr with rfl|⟨b,off,sz,pre,rfl,hp,hl,hs,B,hr⟩
     .simp at O
     .have U:M.sz=sz:=by rw[<-b2,hs _ (mP O)]
      refine fJ (v:=.pointer (some ⟨b,off+n.toNat * sz,none⟩)) hR ?_ ?_ S
      .have hn:n<(es.length:Int):=by omega
       simp only[Instr.indexAt,z,asIntOf,bW,cI,bV,eJ hd,H,h0,hn,vS,↓reduceIte,mT u,mG,U]
      .have hb:n.toNat * sz+sz<=es.length * sz:=by
        have:(n.toNat+1) * sz<=es.length * sz:=pZ _ O
        rwa[iL,Nat.one_mul]at this
       have:=Rz.eptr (g:=g) es[n.toNat].cells 0 b (off+n.toNat * sz) pre hp (by rw[b2,U];omega) (λc Z=>B _ (mP O) c Z)
        (λj c v Z H=>hr n.toNat _ j c v b0 Z H)
       simpa using this
    .exact h.elim
   .rename_i b off m;split at h
    .rename_i M u;obtain⟨⟨h0,O⟩,S⟩:=h;obtain⟨k,cap,H,hb,Z,hm⟩:=(he x _ ha).ml_inv;refine fJ (v:=.pointer (some ⟨k,off+n.toNat * M.sz,none⟩)) hR ?_ (.ptr b _ k hb) S;have hn:n<(m:Int):=by omega
     simp only[Instr.indexAt,z,asIntOf,bW,cI,bV,eJ hd,H,h0,hn,vS,↓reduceIte,mT u,mG]
    .exact h.elim
   .rename_i b m _;split at h
    .rename_i M u;obtain⟨⟨h0,O⟩,S⟩:=h;obtain⟨k,H,hb,Z,hm⟩:=(he x _ ha).mg_inv;refine fJ (v:=.pointer (some ⟨k,0+n.toNat * M.sz,none⟩)) hR ?_ (by rw[fH];exact .ptr b _ k hb) S;have hn:n<(m:Int):=by omega
     simp only[Instr.indexAt,z,asIntOf,bW,cI,bV,eJ hd,H,h0,hn,vS,↓reduceIte,mT u,mG]
    .exact h.elim
   .rename_i t' es sz;split at h
    .rename_i M u;obtain⟨⟨h0,_⟩,S⟩:=h;obtain⟨b,cap,H,hl,Z,_⟩:=(he x _ ha).pen_inv
     have b4:g.eta t' es.length=some (.slice (some ⟨b,0,none⟩) es.length cap):=by
      obtain⟨_,_,_,_,_,h5,_⟩:=hl.list_inv;exact h5 _ rfl
     refine fJ (v:=.pointer (some ⟨b,es.length * M.sz,none⟩)) hR ?_ (.rm t' es.length M.sz b cap b4 Z) S;have hn:n<((es.length+1:Nat):Int):=by omega
     have b3:0<=n:=by omega
     have b6:n.toNat=es.length:=by omega
     simp only[Instr.indexAt,z,asIntOf,bW,cI,bV,eJ hd,H,b3,hn,vS,↓reduceIte,mT u,mG,b6,fH]
    .exact h.elim
   .exact h.elim
  .rename_i m e hk;rw[hk]at y;simp only[TK.ok]at y;subst y;split at h
   .rename_i cs o;split at h
    .rename_i M u;obtain⟨⟨h0,O⟩,S⟩:=h;obtain⟨b,off,pre,H,hp,hl,B,hr⟩:=(he x _ ha).eptr_inv;refine fJ (v:=.pointer (some ⟨b,off+(o+n.toNat * M.sz),none⟩)) hR ?_ (.eptr cs _ b off pre hp hl B hr) S;simp only[Instr.indexAt,z,asIntOf,bW,cI,bV,eJ hd,H,h0,O,vS,↓reduceIte,mT u,mG,Instr.sureAddr,pure_bind,qE]
    .exact h.elim
   .exact h.elim
  .exact h.elim
 .exact h.elim
theorem aTo{t ty:TypeId}{x i:Operand}{dst:Option Tmp}{pos:String}{after:Array Edge}{gd:Option (Nat × Bool)}
  (S:R C.toCtx F g s w)(B:∀x a,ρ x=some a->Rz g a (ev x))(h:cS C (.index t x i) ρ K) :
  OutS C F g s K ((execOp ev ⟨dst,.index t x i,ty,pos,after,gd⟩).run C.P w):=by
 simp only[cS]at h;split at h
 .rename_i str k n ti ha hi z;have y:=(B i _ hi).int_inv;have Z:=(B x _ ha).str_inv;obtain⟨d,hd,m⟩:=jO z;simp only[execOp];split at h
  .rename_i O;obtain⟨⟨h0,H⟩,h⟩:=h;rw[O]at m;simp only[TK.ok]at m;subst m;have u:str[n.toNat]?=some str[n.toNat]:=aX H;rw[u]at h;refine fJ (v:=.int .u8 str[n.toNat].toNat) S ?_ (.int _ _) h
   have M:(ByteArray.mk str.toArray)[n.toNat]?=some str[n.toNat]:=by
    have U:n.toNat<(ByteArray.mk str.toArray).size:=by simpa [ByteArray.size]using H
    rw[getElem?_pos (ByteArray.mk str.toArray) n.toNat U];rfl
   simp only[Instr.index,y,asIntOf,bW,cI,bV,eJ hd,Z,h0,↓reduceIte,M]
  .exact h.elim
 .exact h.elim
theorem aUD{c:Call}{ty:TypeId}{dst:Option Tmp}{pos:String}{after:Array Edge}{gd:Option (Nat × Bool)}
  (M:R C.toCtx F g s w)(B:∀x a,ρ x=some a->Rz g a (ev x))(h:cS C (.call c) ρ K) :
  OutS C F g s K ((execOp ev ⟨dst,.call c,ty,pos,after,gd⟩).run C.P w):=by
 obtain⟨b2,args,H⟩:=c;obtain⟨args⟩:=args;obtain⟨H⟩:=H;simp only[cS]at h;split at h
 .rename_i x t;split at h
  .rename_i a ti z O;obtain⟨d,hd,u⟩:=jO O;split at h
   .rename_i Z;rw[Z]at u;simp only[TK.ok]at u;subst u;cases a<;>simp only at h
    rename_i str;have m:=(B x _ z).str_inv;have e1:(ByteArray.mk str.toArray).size=str.length:=by simp[ByteArray.size]
    simp only[execOp,resolve,invoke,builtin,bW,cI,bV,mE,bN,dI,m];simp only[Builtin.len_,pE,lM,bW,eJ hd,bV,cI,goInt,e1];exact OutS.val M (.int _ _) h
   .rename_i e Z;rw[Z]at u;simp only[TK.ok]at u;subst u;cases a<;>simp only[nJ]at h
    .have m:=(B x _ z).nils_inv;simp only[execOp,resolve,invoke,builtin,bW,cI,bV,mE,bN,dI,m];simp only[Builtin.len_,pE,lM,bW,eJ hd,bV,cI,goInt];exact OutS.val M (.int _ _) h
    .obtain⟨ad,cap,m,_⟩:=(B x _ z).list_inv;simp only[execOp,resolve,invoke,builtin,bW,cI,bV,mE,bN,dI,m];simp only[Builtin.len_,pE,lM,bW,eJ hd,bV,cI,goInt];exact OutS.val M (.int _ _) h
    rotate_left
    .obtain⟨a,m⟩:=(B x _ z).emp_inv;simp only[execOp,resolve,invoke,builtin,bW,cI,bV,mE,bN,dI,m];simp only[Builtin.len_,pE,lM,bW,eJ hd,bV,cI,goInt];exact OutS.val M (.int _ _) h
    .obtain⟨k,m,_⟩:=(B x _ z).mg_inv;simp only[execOp,resolve,invoke,builtin,bW,cI,bV,mE,bN,dI,m];simp only[Builtin.len_,pE,lM,bW,eJ hd,bV,cI,goInt];exact OutS.val M (.int _ _) h
    .obtain⟨k,cap,m,_⟩:=(B x _ z).ml_inv;simp only[execOp,resolve,invoke,builtin,bW,cI,bV,mE,bN,dI,m];simp only[Builtin.len_,pE,lM,bW,eJ hd,bV,cI,goInt];exact OutS.val M (.int _ _) h
   .exact h.elim
  .exact h.elim
 .rename_i x;split at h
  .rename_i tk y ys z;obtain⟨ad,cap,m,hm,hc,_,hh⟩:=(B x _ z).list_inv;have hr:=B x _ z;rw[m]at hr;rcases hh with hh|⟨S,off,sz,pre,rfl,_⟩
   .cases hh
   have b0:cap≠0:=by simp at hc;omega
   simp only[execOp,resolve,invoke,builtin,bW,cI,bV,mE,bN,dI,m]
   have U:(Builtin.unsafeSliceData_ ⟨H⟩ ty #[.slice (some ⟨S,off,none⟩) (y::ys).length cap]).run C.P w=.ok (.pointer (some ⟨S,off,none⟩)) w:=by
    have e1:Builtin.unsafeSliceData_ ⟨H⟩ ty #[.slice (some ⟨S,off,none⟩) (y::ys).length cap]=(if cap≠0 then pure (.pointer (some ⟨S,off,none⟩))
     else do if(<-viewAt S).isSome then pure (.pointer (some ⟨S,off,none⟩)) else pure (.pointer (some ⟨<-newObj (.view ⟨S,off,none⟩ (<-elemOf ty)),0,none⟩))):=rfl
    rw[e1,aF b0];rfl
   rw[U];exact OutS.val M (.sd tk _ _ cap b0 hr) h
  .rename_i z;have m:=(B x _ z).nils_inv;simp only[execOp,resolve,invoke,builtin,bW,cI,bV,mE,bN,dI,m];have U:(Builtin.unsafeSliceData_ ⟨H⟩ ty #[.slice none 0 0]).run C.P w=.ok (.pointer none) w:=rfl;rw[U];exact OutS.val M .nilp h
  .exact h.elim
 .rename_i x t;split at h
  .rename_i ti z O;split at h
   .rename_i e Z;obtain⟨d,hd,u⟩:=jO O;rw[Z]at u;simp only[TK.ok]at u;subst u;have m:=(B x _ z).nils_inv;simp only[execOp,resolve,invoke,builtin,bW,cI,bV,mE,bN,dI,m];have U:(Builtin.cap_ ⟨[t]⟩ ty #[.slice none 0 0]).run C.P w=.ok (.int .i64 0) w:=by simp[Builtin.cap_,goInt,eJ hd]
    rw[U];exact OutS.val M (.int _ _) h
   .exact h.elim
  .exact h.elim
 .rename_i x y;split at h
  .rename_i j a k b z hy;have m:=(B x _ z).int_inv;have hu:=(B y _ hy).int_inv;simp only[execOp,resolve,invoke,builtin,bW,cI,bV,mE,bN,dI,m,hu];simp only[Builtin.max_,List.foldlM_cons,List.foldlM_nil,Builtin.max2,bW,cI,bV,pure_bind];exact OutS.val M (.int _ _) h
  .exact h.elim
 .rename_i x y;split at h
  .rename_i j a k b z hy;have m:=(B x _ z).int_inv;have hu:=(B y _ hy).int_inv;simp only[execOp,resolve,invoke,builtin,bW,cI,bV,mE,bN,dI,m,hu];simp only[Builtin.min_,List.foldlM_cons,List.foldlM_nil,Builtin.min2,bW,cI,bV,pure_bind];exact OutS.val M (.int _ _) h
  .exact h.elim
 .exact h.elim
end
end
section
section
variable {C:Cx} {F:Fr} {g:Gh} {s:St} {w:World} {K:A->Prop} {ρ:Operand->Option A} {ev:Operand->Value}
theorem uD{op:Op}{ty:TypeId}{dst:Option Tmp}{pos:String}{after:Array Edge}{gd:Option (Nat × Bool)}
  (O:R C.toCtx F g s w)(H:∀x a,ρ x=some a->Rz g a (ev x))(h:cS C op ρ K) :
  OutS C F g s K ((execOp ev ⟨dst,op,ty,pos,after,gd⟩).run C.P w):=by
 cases op
 case move x =>
  simp only[cS]at h;split at h
  .rename_i v M;exact OutS.val O (H x v M) h
  .exact h.elim
 case assign x =>
  simp only[cS]at h;split at h
  .rename_i v M;exact OutS.val O (H x v M) h
  .exact h.elim
 case pick c a b =>
  simp only[cS]at h;split at h
  .rename_i Z;split at h
   .rename_i v M;simp only[execOp,bW,cI,(H c _ Z).bool_inv,asBool,bV,↓reduceIte];exact OutS.val O (H a v M) h
   .exact h.elim
  .rename_i Z;split at h
   .rename_i v M;simp only[execOp,bW,cI,(H c _ Z).bool_inv,asBool,bV,cE,↓reduceIte];exact OutS.val O (H b v M) h
   .exact h.elim
  .exact h.elim
 case binOp=>exact aTh O H h
 case unOp op t x =>
  simp only[cS]at h;split at h
  .rename_i a ha;split at h
   .rename_i v M;simp only[execOp];unfold unA at M;split at M<;>simp only[bQ,reduceCtorEq]at M<;>subst M
    .exact fJ O (by simp[Op.unary,(H x _ ha).bool_inv]) (.bool _) h
    .exact fJ O (by simp[Op.unary,Op.intArith,(H x _ ha).int_inv]) (.int _ _) h
    .refine fJ O ?_ (.int _ _) h;rw[(H x _ ha).int_inv];simp only[Op.unary,Op.intBits,cI]
   .exact h.elim
  .exact h.elim
 case nilCheck x =>
  simp only[cS]at h;split at h
  .rename_i b o U;obtain⟨k,M,hb⟩:=(H x _ U).ptr_inv;simp only[execOp,M];exact OutS.val O (.ptr b o k hb) h
  .rename_i cs o U;have M:=H x _ U;obtain⟨b,off,pre,e,_⟩:=M.eptr_inv;simp only[execOp,e];rw[e]at M;exact OutS.val O M h
  .exact h.elim
 case fieldAddr=>exact aPv O H h
 case field=>exact aT6 O H h
 case typeAssert x xt t ok =>
  cases ok
  .simp only[cS]at h
  .simp only[cS]at h;split at h
   .rename_i u v ti U b8;split at h
    .rename_i fs hk;obtain⟨rfl,h⟩:=h;obtain⟨b4,hu,_⟩:=aDl b8 hk;obtain⟨y,M,hr⟩:=(H x _ U).iface_inv;simp only[execOp];refine fJ (v:=.tuple #[y,.bool true]) O ?_ (.tuple [v,.bool true] [y,.bool true] rfl λj c z Z hz=>?_) h
     .simp[Instr.typeAssert,eJ hu,M]
     ·match j with
      | 0=>simp at Z hz;subst Z;subst hz;exact hr
      | 1=>simp at Z hz;subst Z;subst hz;exact .bool _
      | _+2=>simp at Z
    .exact h.elim
   .exact h.elim
 case extract x i =>
  simp only[cS]at h;split at h
  .rename_i vs U;split at h
   .rename_i v M;obtain⟨us,e,hr⟩:=(H x _ U).tuple_inv;obtain⟨u,hu,bf⟩:=hr.get M;simp only[execOp];exact fJ O (by simp[Instr.extract,e,hu]) bf h
   .exact h.elim
  .exact h.elim
 case makeInterface t x =>
  simp only[cS]at h;split at h
  .rename_i a ti ha b8;obtain⟨d,hd,S⟩:=jO b8
   have hn:(∀ms,d≠.interface ms)/\K (.iface t a):=by
    cases hk:ti.k<;>rw[hk]at h S<;>simp only[TK.ok]at S<;>simp only at h
    all_goals first
     | (subst S;exact⟨by simp,h⟩)
     | (obtain⟨b4,rfl,_⟩:=S;exact⟨by simp,h⟩)
     | exact⟨S.2,h⟩
   simp only[execOp];refine fJ O (v:=.iface t (ev x)) ?_ (.iface t a _ (H x a ha)) hn.2;simp only[Instr.makeInterface,bW,eJ hd,bV];cases d<;>first|rfl|exact cM rfl (hn.1 _)
  .exact h.elim
 case makeFunc fn first b9 =>
  simp only[cS]at h;cases fn<;>simp only at h
  rename_i f;split at h
  .rename_i l m hl hm;simp only[execOp];have r1:=aDE H hl;have r2:=aDE H hm;obtain⟨fl⟩:=first
   obtain⟨cl⟩:=b9;exact fJ O (v:=.func (.func f) (fl.map ev).toArray (cl.map ev).toArray) (by simp[Instr.makeFunc]) (.fn f l m _ _ r1.1 r2.1 r1.2 r2.2) h
  .exact h.elim
 case convert a b x =>
  simp only[cS]at h;split at h
  .rename_i k n ta tb U b7 b6;obtain⟨d,hd,S⟩:=jO b7;obtain⟨d',b3,B⟩:=jO b6;split at h
   .rename_i k' hk;rw[hk]at B;simp only[TK.ok]at B;subst B;simp only[execOp];refine fJ O ?_ (.int _ _) h;simp only[convert,bW,eJ hd,eJ b3,bV,(H x _ U).int_inv,Conv.intToInt];cases d<;>rfl
   .exact h.elim
  .rename_i str ta tb U b7 b6;obtain⟨d,hd,S⟩:=jO b7;obtain⟨d',b3,B⟩:=jO b6;split at h
   .rename_i hk;rw[hk]at B;simp only[TK.ok]at B;subst B;simp only[execOp];refine fJ O (v:=.string ⟨str.toArray⟩) ?_ (.str _) h;simp only[convert,bW,eJ hd,eJ b3,bV,(H x _ U).str_inv];cases d<;>rfl
   .rename_i e hk;rw[hk]at B;simp only[TK.ok]at B;subst B;split at h
    .rename_i te bl bj;rw[bl]at S;simp only[TK.ok]at S;subst S;split at h
     .rename_i bd;obtain⟨h1,h2,h⟩:=h;obtain⟨d2,bh,b2⟩:=jO bj;rw[bd]at b2;simp only[TK.ok]at b2;subst b2;simp only[execOp,(H x _ U).str_inv];rw[aAK,run_bytes_of_string w a b e _ hd b3 bh];have b5:=grownCap_ge w (ByteArray.mk str.toArray).size 0 e;have bb:(ByteArray.mk str.toArray).size=str.length:=by simp[ByteArray.size]
      rw[bb]at b5⊢;have bc:=grownCap_le_maxLen w str.length 0 e h2
      have b0:∃rest,(bytesRow ⟨str.toArray⟩ (grownCap w str.length 0 e))=((str.map λc=>Value.int .u8 c.toNat)++rest).toArray :=
       ⟨List.replicate (grownCap w str.length 0 e-str.length) (.int .u8 0),by simp[bytesRow,bb]⟩
      obtain⟨rest,b0⟩:=b0;rw[b0]
      obtain⟨bg,bk⟩:=R.newRow (w:=w.drew) (O.heap rfl) (str.map λc=>Value.int .u8 c.toNat) e rest
       ((((str.map λc=>Value.int .u8 c.toNat)++rest).toArray).size,(((str.map λc=>Value.int .u8 c.toNat)++rest).toArray).size+1)
      refine⟨_,_,bk,bg,?_,h⟩
      have:=Rz.list (g:=g.know w.drew.heap.size (str.map λc=>Value.int .u8 c.toNat)) none (str.map λc=>A.int .u8 c.toNat) w.drew.heap.size 0 1 (grownCap w str.length 0 e)
       (str.map λc=>Value.int .u8 c.toNat) (by simp[Gh.know]) bJ (gQ b5) bc
       (λy hy=>by simp only[cH]at hy;obtain⟨c,_,rfl⟩:=hy;rfl)
       (λy hy z hz=>by simp only[cH]at hy;obtain⟨c,_,rfl⟩:=hy;simp[A.cells]at hz;subst hz;rfl)
       (fun i y j z v hy hz M => by
        rw[lO]at hy;cases Z:str[i]? with
        | none=>rw[Z]at hy;cases hy
        | some c =>
         rw[Z]at hy;simp only[nO,bQ]at hy;subst hy;cases j with
         | zero =>
          simp[A.cells]at hz;subst hz;simp[Z]at M;subst M;exact .int _ _
         | succ j=>simp[A.cells]at hz)
       bJ
      simpa using this
     .exact h.elim
    .exact h.elim
   .exact h.elim
  .exact h.elim
 case build=>exact aS8 O H h
 case buildSlice=>exact aOI O H h
 case load t x =>
  simp only[cS]at h;split at h
  .rename_i cs o U;split at h
   .rename_i v M;obtain⟨u,hu,hr⟩:=aPT O M (H x _ U);exact fJ O hu hr h
   .exact h.elim
  .exact h.elim
 case slice=>exact aTF O H h
 case indexAddr=>exact aPd O H h
 case index=>exact aTo O H h
 case call=>exact aUD O H h
 all_goals (simp only[cS]at h)
def uR(C:Cx)(s:St)(o:Ob)(f:Nat->A)(KV:St->A->Prop):Prop:=match C.det with
 | false=>∀b,s.getO b=none->KV (s.setO b o) (f b)
 | true=>KV (s.newO o) (f s.lim)
def aEK(C:Cx)(s:St)(t:TypeId)(cs:List A)(KV:St->A->Prop):Prop:=uR C s (.cells t cs) (λb=>.ptr b 0) KV
def newT(C:Cx)(s:St)(n:Nat)(e:TypeId)(ys:List A)(KV:St->A->Prop):Prop:=match C.det with
 | false=>∀t,s.getT t=none->KV (s.setT t (n,e)) (.list (some t) ys)
 | true=>KV (s.newT (n,e)) (.list (some s.lim) ys)
def aEH(s:St)(n:Nat)(e:TypeId)(sz:Nat)(cs:List A)(KV:St->A->Prop):Prop :=
 ∀(b cap:Nat) (J:List A),s.getO b=none->n<=cap->J.length=(cap-n) * sz->(∀c,c∈J->c.one=true)->KV (s.setO b (.cells e (cs++J))) (.mg b n cap)
def oC(C:Cx)(s:St)(n:Nat)(e:TypeId)(sz:Nat)(ys:List A)(KV:St->A->Prop):Prop:=match C.det with
 | true=>newT C s n e ys KV
 | false=>match Nat.beq C.mu 1 with
  | false=>newT C s n e ys KV
  | true=>0<n/\aEH s n e sz (flat ys) KV
def aCy(C:Cx):Bool:=match C.det with
 | true=>false
 | false=>Nat.beq C.mu 2
def aBB(C:Cx)(s:St)(t:TypeId)(KV:St->A->Prop)(a:A):Prop:=match a,C.tt t with
 | .list _ es,some h=>(match h.k with
  | .slice e=>∀k,s.getT k=none->KV (s.setT k (es.length,e)) (.list (some k) es)
  | _=>False)
 | _,_=>False
def uI(det:Bool)(s:St)(b n cap:Nat)(e:TypeId)(sz m:Nat)(ys:List A)(KV:St->A->Prop):Option Ob->Prop
 | some (.cells e' cs)=>(det=false/\e'=e/\cs.length=cap * sz/\n<=cap/\n+m<=4294967296/\0<m) /\
  ∀(u h:Nat) (J:List A),(u=b/\h=cap\/s.getO u=none)->n+m<=h->J.length=(h-(n+m)) * sz->(∀c,c∈J->c.one=true) ->
   KV (s.setO u (.cells e (cs.take (n * sz)++(flat ys++J)))) (.mg u (n+m) h)
 | _=>False
def aBt(C:Cx)(s:St)(n:Nat)(e:TypeId)(KV:St->A->Prop):Prop:=match C.det with
 | false=>∀t,s.getT t=none->KV (s.setT t (0,e)) (.gr t n)
 | true=>KV (s.newT (0,e)) (.gr s.lim n)
def wM(C:Cx)(s:St)(n:Nat)(e:TypeId)(ys:List A)(sz:Nat)(KV:St->A->Prop):Prop:=match C.det with
 | false=>∀t,s.getT t=none->KV (s.setT t (n,e)) (.pen t ys sz)
 | true=>KV (s.newT (n,e)) (.pen s.lim ys sz)
def aAo(C:Cx)(s:St)(m:TI)(t u:TypeId)(z:A)(KV:St->A->Prop)(a:A):Prop:=match m.k with
 | .slice e=>match C.tt e with
  | some h=>(u=t/\h.sz≠0/\h.bytes<=32768/\z.cells.length=h.sz)/\(match a with
   | .nils=>wM C s 0 e [] h.sz KV
   | .list tk es=>match tk with
    | some k=>(s.getT k=some (es.length,e)/\(∀y,y∈es->y.cells.length=h.sz)/\es.length+1<=4294967296)/\wM C (s.delT k) es.length e es h.sz KV
    | none=>False
   | _=>False)
  | none=>False
 | _=>False
def uW(C:Cx)(s:St)(k n z:Nat)(u:TI)(v:A)(KV:St->A->Prop):Prop:=match s.getT k with
 | some (m,e)=>match C.tt e with
  | some h=>(m=n/\h.sz=z/\u.sz=z/\v.cells.length=z/\gD v.cells=true)/\KV ((s.setT k (n+1,e)).setL (some (k,n,v))) (.tuple [])
  | none=>False
 | none=>False
def aCA(t:Nat)(es:List A)(sz:Nat)(q:Nat × Nat × A):A:=if q.1=t/\q.2.1=es.length/\q.2.2.cells.length=sz then .list (some t) (es++[q.2.2]) else .pen t es sz
def kB(s:St):A->A
 | .pen t es sz=>match s.ls with
  | some q=>aCA t es sz q
  | none=>.pen t es sz
 | a=>a
def eW(h:List UInt8):List A:=h.map λc=>.int .u8 c.toNat
def aBA(C:Cx)(y:TI)(u:TypeId):Option TypeId:=match y.k with
 | .slice e=>match C.tt u,C.tt e with
  | some m,some h=>match m.k with
   | .string=>match h.k with
    | .int .u8=>if h.sz=1/\h.bytes=1 then some e else none
    | _=>none
   | _=>none
  | _,_=>none
 | _=>none
def aAm(C:Cx)(s:St)(e:TypeId)(h:List UInt8)(KV:St->A->Prop):A->Prop
 | .nils=>h.length<=4294967296/\newT C s h.length e (eW h) KV
 | .list (some t) es=>(s.getT t=some (es.length,e)/\(∀y,y∈es->y.cells.length=1)/\es.length+h.length<=4294967296) /\
   KV (s.setT t (es.length+h.length,e)) (.list (some t) (es++eW h))
 | _=>False
def oB(C:Cx)(s:St)(e:TypeId)(h:TI)(ys:List A)(KV:St->A->Prop):A->Prop
 | .nils=>ys.length<=4294967296/\oC C s ys.length e h.sz ys KV
 | .emp=>match ys with
  | []=>KV s .emp
  | y::r=>((y::r).length<=4294967296/\0<(y::r).length)/\oC C s (y::r).length e h.sz (y::r) KV
 | .mg b n cap=>uI C.det s b n cap e h.sz ys.length ys KV (s.getO b)
 | .list (some t) es=>s.getT t=some (es.length,e)/\(∀y,y∈es->y.cells.length=h.sz)/\es.length+ys.length<=4294967296 /\
   KV (s.setT t (es.length+ys.length,e)) (.list (some t) (es++ys))
 | _=>False
def aAq(C:Cx)(s:St)(h:TI)(t u:TypeId)(KV:St->A->Prop)(a:A):Prop:=match h.k with
 | .slice e=>match C.tt e with
  | some _=>u=t/\(match a with
   | .nils=>KV s .nils
   | .emp=>KV s .emp
   | .list tk es=>KV s (.list tk es)
   | .ml b o n=>KV s (.ml b o n)
   | _=>False)
  | none=>False
 | _=>False
def aAp(C:Cx)(s:St)(y:TI)(u:TypeId)(n:Int)(KV:St->A->Prop):A->Prop
 | .nils=>match y.k with
  | .slice e=>match C.tt e,C.tt u with
   | some h,some m=>match m.k with
    | .int _=>(0<n/\n<=65536/\h.sz≠0/\h.bytes<=32768)/\aBt C s n.toNat e KV
    | _=>False
   | _,_=>False
  | _=>False
 | _=>False
def aVX(C:Cx)(s:St)(x:List UInt8)(KV:St->A->Prop):Prop:=uR C s (.iter x 0) (λb=>.ptr b 0) KV
def aEA(s:St)(b:Nat)(x:List UInt8)(pos:Nat)(KV:St->A->Prop):Prop :=
 if pos<x.length then KV (s.setO b (.iter x (pos+(Utf8.decode ⟨x.toArray⟩ pos).2))) (.tuple [.bool true,.int .i64 pos,.int .i32 (Utf8.decode ⟨x.toArray⟩ pos).1])
 else KV s (.tuple [.bool false])
def bM(C:Cx)(op:Op)(ρ:Operand->Option A)(KV Kp:St->A->Prop)(s:St):Prop :=
 match op with
 | .load t x=>match ρ x with
  | some (.ptr b o)=>match s.getO b with
   | some (.cells _ cs)=>match uJ C t cs o with
    | some v=>KV s v
    | none=>False
   | _=>False
  | _=>cS C (.load t x) ρ (KV s)
 | .store t x y=>match ρ x,ρ y,C.tt t with
  | some (.ptr b o),some v,some h=>match s.getO b with
   | some (.cells e cs)=>((kB s v).cells.length=h.sz/\o+(kB s v).cells.length<=cs.length/\gD (kB s v).cells=true)/\KV (s.setO b (.cells e (lP cs o (kB s v).cells))) (.tuple [])
   | _=>False
  | some (.rm k n z),some v,some h=>uW C s k n z h v KV
  | _,_,_=>False
 | .alloc t=>match C.tt t with
  | some h=>aEK C s t h.zero KV
  | none=>False
 | .buildSlice t len parts=>match aCy C with
  | false=>cS C (.buildSlice t len parts) ρ (KV s)
  | true=>cS C (.buildSlice t len parts) ρ (KV s)\/cS C (.buildSlice t len parts) ρ (aBB C s t KV)
 | .box t x=>match ρ x with
  | some v=>gD v.cells=true/\aEK C s t v.cells KV
  | none=>False
 | .convert a b x=>match ρ x with
  | some (.ptr k 0)=>match s.getO k,C.cv a b with
   | some (.cells e cs),some e'=>match C.tt e' with
    | some B=>((e=e'\/C.cw e=some e')/\B.sz<=cs.length)/\KV s (.ptr k 0)
    | none=>False
   | _,_=>False
  | _=>cS C (.convert a b x) ρ (KV s)
 | .makeSlice t l c=>match ρ l,ρ c,C.tt t with
  | some (.int _ n),some (.int _ m),some h=>match h.k with
   | .slice e=>match C.tt e with
    | some B=>(n=m/\0<n/\B.sz=1/\B.bytes * n.toNat<=281474976710656/\n<=4294967296)/\uR C s (.cells e (List.replicate n.toNat B.zero).flatten) (λb=>.ml b 0 n.toNat) KV
    | none=>False
   | _=>False
  | _,_,_=>False
 | .panic x=>match ρ x with
  | some (.iface t a)=>Kp s (.iface t a)
  | _=>False
 | .range t x=>match ρ x,C.tt t with
  | some (.str x),some h=>match h.k with
   | .string=>aVX C s x KV
   | _=>False
  | _,_=>False
 | .next x true=>match ρ x with
  | some (.ptr b 0)=>match s.getO b with
   | some (.iter x pos)=>aEA s b x pos KV
   | _=>False
  | _=>False
 | .call c=>match c.callee with
  | .value f=>match ρ f,nG ρ c.args.toList with
   | some (.fn f first H),some az=>Den C f (first++az++H) KV Kp s
   | _,_=>False
  | .builtin .append=>match c.args.toList,c.argTypes.toList with
   | [x,y],[t,u] => match ρ x,ρ y,C.tt t with
    | some a,some (.list _ ys),some h=>match h.k with
     | .slice e=>match C.tt e with
      | some B=>(u=t/\B.sz≠0/\B.bytes<=32768)/\(∀y,y∈ys->y.cells.length=B.sz)/\oB C s e B ys KV a
      | none=>False
     | _=>False
    | some a,some (.str M),some h=>match aBA C h u with
     | some e=>aAm C s e M KV a
     | none=>False
    | some a,some (.int .i64 n),some h=>aAp C s h u n KV a
    | some a,some .nils,some h=>aAq C s h t u KV a
    | some a,some .emp,some h=>aAq C s h t u KV a
    | some a,some (.hl z),some h=>aAo C s h t u z KV a
    | _,_,_=>False
   | _,_=>False
  | .builtin .unsafeString=>match c.args.toList,c.argTypes.toList with
   | [p,n],[O,_]=>match ρ p,ρ n with
    | some .nilp,some (.int .i64 n)=>n=0/\KV s (.str [])
    | some (.sd (some t) es),some (.int .i64 n)=>match C.us O with
     | some e=>(n=es.length/\s.getT t=some (es.length,e))/\∃M,es=eW M/\KV (s.delT t) (.str M)
     | none=>False
    | _,_=>False
   | _,_=>False
  | .builtin .panic=>match c.args.toList with
   | [x]=>match ρ x with
    | some (.iface t a)=>Kp s (.iface t a)
    | _=>False
   | _=>False
  | _=>cS C (.call c) ρ (KV s)
 | .binOp .eql t x y ty=>match ρ x,ρ y with
  | some (.list _ []),some .nils=>cS C (.binOp .eql t x y ty) ρ (KV s)\/(C.nl t=true/\KV s (.bool true)/\KV s (.bool false))
  | _,_=>cS C (.binOp .eql t x y ty) ρ (KV s)
 | op=>cS C op ρ (KV s)
theorem qK{KV Kp:St->A->Prop}{r:Result Next}(h:OutS C F g s (KV s) r):OutV C F g KV Kp r:=by
 cases r with
 | ok n w=>cases n<;>simp only[OutS]at h;obtain⟨m,a,u,h2,z,y⟩:=h;exact⟨m,a,s,u.le,h2,z,y⟩
 | halt B w=>simp only[OutS]at h
theorem aKX(x:Sem Unit)(P:Program)(w:World):((do x;pure Next.skip):Sem Next).run P w=(x.run P w).andThen λ_ w'=>.ok .skip w':=by
 simp
theorem R.cellsOf(m:R C.toCtx F g s w){b:Nat}{e:TypeId}{cs:List A}(z:s.getO b=some (.cells e cs)) :
  ∃k vs rest,g.beta b=some k/\w.heap[k]?=some (.cells (vs++rest).toArray e)/\Rzs g cs vs/\∀c,c∈cs->c.one=true:=by
 obtain⟨k,h,⟨vs,rest,h2,y,u⟩,_⟩:=m.obj b _ z;exact⟨k,vs,rest,h,h2,y,u⟩
theorem aUW{KV Kp:St->A->Prop}{t ty:TypeId}{x:Operand}{dst:Option Tmp}{pos:String}{after:Array Edge}{gd:Option (Nat × Bool)}
  (hR:R C.toCtx F g s w)(he:∀x a,ρ x=some a->Rz g a (ev x))(h:bM C (.load t x) ρ KV Kp s) :
  OutV C F g KV Kp ((execOp ev ⟨dst,.load t x,ty,pos,after,gd⟩).run C.P w):=by
 simp only[bM]at h;split at h
 .rename_i b o hx;split at h
  .rename_i e cs hb;split at h
   .rename_i v m;obtain⟨k,vs,rest,b2,hh,H,b0⟩:=hR.cellsOf hb;obtain⟨k',hp,y⟩:=(he x _ hx).ptr_inv;rw[b2]at y;cases y
    have cell:∀j u,vs[j]?=some u->w.cell? ⟨k,j,none⟩=some u:=by
     intro j u B;simp only[World.cell?,hh,Option.isSome_none,cE,↓reduceIte,pE];rw[lC (eF.1 B).1];exact B
    refine qK (s:=s) (KV:=KV) ?_;simp only[execOp,hp];simp only[uJ]at m;split at m
    .rename_i U O;split at m
     .rename_i M;split at m
      .rename_i b3;simp only[bQ]at m;subst m
       have hc:∀j v,((vs.drop o).take U.sz)[j]?=some v->w.cell? ((⟨k,o,none⟩:Addr).add j)=some v:=by
        intro j v B;rw[oJ]at B;split at B
        .rw[qC]at B;rw[mG,cell _ _ B]
        .simp at B
       have S:((vs.drop o).take U.sz).length=U.sz:=by
        have:=H.1;rw[cQ,eC];omega
       have z:=run_loadCells_list (P:=C.P) w ⟨k,o,none⟩ _ hc;rw[S]at z;have hq:=(H.drop o).take U.sz;refine fJ (v:=.agg ((vs.drop o).take U.sz).toArray) hR ?_ (.agg _ _ hq.1 (λc hc=>b0 c (vE (sH hc))) hq.2) h;simp only[Instr.loadAt,Instr.sureAddr,loadVar,bW,cI,bV,aA9 O,M,↓reduceIte,mT O,z]
      .simp at m
     .rename_i M;obtain⟨u,hu,hr⟩:=H.get m;have Z:U.k.agg=false:=gQ M;refine fJ (v:=u) hR ?_ hr h;simp only[Instr.loadAt,Instr.sureAddr,loadVar,bW,cI,bV,aA9 O,Z,cE,↓reduceIte,run_load,cell _ _ hu]
    .simp at m
   .exact h.elim
  .exact h.elim
 .exact qK (uD hR he h)
theorem aAE{w:World}{b:Nat}{vs:Array Value}{e:TypeId}{fr:Nat × Nat}(h:w.heap[b]?=some (.cells vs e fr))(us:Array Value):(w.setRow b us).heap[b]?=some (.cells us e fr):=setRow_heap w b vs us e fr h
theorem aAR{w:World}{b k:Nat}(h:k≠b)(us:Array Value):(w.setRow b us).heap[k]?=w.heap[k]?:=by
 have:¬ b=k:=λe=>h e.symm
 simp[World.setRow,Array.getElem?_modify,this]
theorem aQG{KV Kp:St->A->Prop}{a b ty:TypeId}{x:Operand}{dst:Option Tmp}{pos:String}{after:Array Edge}{gd:Option (Nat × Bool)}
  (M:R C.toCtx F g s w)(S:∀x a,ρ x=some a->Rz g a (ev x))(h:bM C (.convert a b x) ρ KV Kp s) :
  OutV C F g KV Kp ((execOp ev ⟨dst,.convert a b x,ty,pos,after,gd⟩).run C.P w):=by
 simp only[bM]at h;split at h
 .rename_i k0 hx;split at h
  .rename_i e cs e' hb hcv;split at h
   .rename_i te O;obtain⟨⟨H,b0⟩,hK⟩:=h;obtain⟨k,vs,rest,z,U,B,Z⟩:=M.cellsOf hb;have hr:=S x _ hx;obtain⟨k',hp,m⟩:=hr.ptr_inv;rw[z]at m;cases m;have hcs:=C.hcs a b e' hcv;rw[O]at hcs;simp only[nO,bQ]at hcs;have u:C.P.cellsOf e'<=(vs++rest).toArray.size:=by rw[<-hcs];have:=B.1;simp;omega
    have y:(convert a b (.pointer (some ⟨k,0,none⟩))).run C.P w=.ok (.pointer (some ⟨k,0,none⟩)) w:=by
     rcases H with rfl|hw
     .exact C.hcv a b e hcv w k (vs++rest).toArray U u
     .exact C.hcw a b e' e hcv hw w k (vs++rest).toArray U u
    refine qK (s:=s) (KV:=KV) ?_;simp only[execOp,hp];exact fJ M y (.ptr k0 0 k z) hK
   .exact h.elim
  .exact h.elim
 .exact qK (uD M S h)
theorem aHp{KV Kp:St->A->Prop}{o:Obj}{ob:Ob}{v:Value}{f:Nat->A}{x:Sem Value}(m:R C.toCtx F g s w)(ho:ObRz g ob (some o))
  (z:∀y b,y.beta b=some w.heap.size->Rz y (f b) v)
  (B:x.run C.P w=.ok v (w.alloc o))(u:uR C s ob f KV) :
  OutV C F g KV Kp (((do let v <-x;pure (Next.value v)):Sem Next).run C.P w):=by
 rw[aAK,B];unfold uR at u;cases hd:C.det with
 | false =>
  rw[hd]at u;obtain⟨b,h⟩:=m.some_free;exact⟨_,_,_,aAW h _,m.newObj ho h (s':=s.setO b ob) (λq=>aL s b ob q) (λq=>rfl) rfl (by show C.det=true->_;rw[hd];simp),z _ b (by simp[Gh.bx]),u b (m.free h)⟩
 | true =>
  rw[hd]at u;have h:=(m.dtm hd s.lim (aV _)).1;exact⟨_,_,_,aAW h _,m.newObj ho h (s':=s.newO ob) (λq=>aIE s ob q) (λq=>rfl) rfl (λ_=>⟨Nat.le_succ _,iD _⟩),z _ s.lim (by simp[Gh.bx]),u⟩
theorem aLf{KV Kp:St->A->Prop}{t:TypeId}{v:Value}{cs:List A}{x:Sem Value}(y:R C.toCtx F g s w)(u:Rzs g cs v.cells.toList)(h:∀c,c∈cs->c.one=true)
  (m:x.run C.P w=.ok (.pointer (some ⟨w.heap.size,0,none⟩)) (w.alloc (.cells v.cells t)))
  (B:aEK C s t cs KV) :
  OutV C F g KV Kp (((do let v <-x;pure (Next.value v)):Sem Next).run C.P w) :=
 aHp (ob:=.cells t cs) y ⟨v.cells.toList,[],by simp,u,h⟩ (λH b z=>.ptr b 0 _ z) m B
theorem aTX{KV Kp:St->A->Prop}{t ty:TypeId}{dst:Option Tmp}{pos:String}{after:Array Edge}{gd:Option (Nat × Bool)}
  (B:R C.toCtx F g s w)(h:bM C (.alloc t) ρ KV Kp s) :
  OutV C F g KV Kp ((execOp ev ⟨dst,.alloc t,ty,pos,after,gd⟩).run C.P w):=by
 simp only[bM]at h;split at h
 .rename_i y m;obtain⟨z,hz,u⟩:=aCg m w;simp only[execOp];refine aLf (v:=z) (t:=t) B (u g) (C.htt t y m).one ?_ h;simp only[Instr.alloc,bW,hz,bV,newVar,newRow,run_newObj,cI];rfl
 .exact h.elim
theorem aVH{KV Kp:St->A->Prop}{t ty:TypeId}{x:Operand}{dst:Option Tmp}{pos:String}{after:Array Edge}{gd:Option (Nat × Bool)}
  (z:R C.toCtx F g s w)(m:∀x a,ρ x=some a->Rz g a (ev x))(h:bM C (.box t x) ρ KV Kp s) :
  OutV C F g KV Kp ((execOp ev ⟨dst,.box t x,ty,pos,after,gd⟩).run C.P w):=by
 simp only[bM]at h;split at h
 .rename_i v u;obtain⟨y,h2⟩:=h;simp only[execOp];refine aLf (v:=ev x) (t:=t) z (m x v u).cells (by simpa [gD]using y) ?_ h2;simp only[Instr.box,bW,newVar,newRow,run_newObj,bV,cI];rfl
 .exact h.elim
theorem aIX{x:A}:∀n:Nat,(List.replicate n [x]).flatten=List.replicate n x
 | 0=>rfl
 | n+1=>by simp[List.replicate_succ]
theorem aPh{KV Kp:St->A->Prop}{t ty:TypeId}{l c:Operand}{dst:Option Tmp}{pos:String}{after:Array Edge}{gd:Option (Nat × Bool)}
    (hR:R C.toCtx F g s w)(he:∀x a,ρ x=some a->Rz g a (ev x))(h:bM C (.makeSlice t l c) ρ KV Kp s) :
    OutV C F g KV Kp ((execOp ev ⟨dst,.makeSlice t l c,ty,pos,after,gd⟩).run C.P w):=by
  simp only[bM]at h;split at h
  · rename_i kl n kc m ti hl hc hti
    obtain⟨d,hd,hok⟩:=jO hti;split at h
    · rename_i e hk
      rw[hk]at hok;simp only[TK.ok]at hok;subst hok;split at h
      · rename_i te hte
        obtain⟨⟨rfl,h0,h1,h2,h3⟩,hK⟩:=h;obtain⟨i,z,hi,his,hib,hiz,hzr⟩:=(C.htt e te hte).info;have hzl:=(C.htt e te hte).len;have hz1:=(C.htt e te hte).one
        obtain⟨x,hx⟩:∃x,te.zero=[x]:=by
          match hq:te.zero with
          | [x]=>exact⟨x,rfl⟩
          | []=>rw[hq,h1]at hzl;cases hzl
          | _::_::_=>rw[hq,h1]at hzl;simp at hzl
        obtain⟨v,hv⟩:∃v,z.cells=#[v]:=by
          have h4:=(hzr g).1;rw[hx]at h4
          match hq:z.cells.toList with
          | [v]=>exact⟨v,by apply Array.ext';rw[hq]⟩
          | []=>rw[hq]at h4;simp at h4
          | _::_::_=>rw[hq]at h4;simp at h4
        have hxv:Rz g x v:=by
          have:=hzr g;rw[hx,hv]at this;exact this.2 0 x v bJ bJ
        have hrun:=run_make (P:=C.P) w t e i z hd hi hiz kl kc n n aC (yN _)
          (by rw [hib]; have : ((te.bytes * n.toNat : Nat) : Int) ≤ 281474976710656 := by omega
              rw[Int.natCast_mul,Int.toNat_of_nonneg aC]at this;exact this) aC
        rw[his,h1,Nat.mul_one,hv]at hrun
        have hmc:madeCells #[v] n.toNat=(List.replicate n.toNat v).toArray:=by
          apply Array.ext
          · simp[madeCells]
          · intro j h5 h6
            simp[madeCells,Nat.mod_one]
        simp only[execOp,(he l _ hl).int_inv,(he c _ hc).int_inv];refine aHp (ob:=.cells e (List.replicate n.toNat te.zero).flatten) hR ⟨List.replicate n.toNat v,[],rfl,?_,?_⟩ (λg' b hb=>?_) (by rw[hmc]at hrun;simpa using hrun) hK
        · rw[hx,aIX]
          refine⟨by simp,λj a u ha hu=>?_⟩;rw[List.getElem?_replicate]at ha hu;split at ha
          · rename_i hj;rw[aF hj]at hu;cases ha;cases hu;exact hxv
          · cases ha
        · rw[hx,aIX]
          intro a ha;rw[List.eq_of_mem_replicate ha];exact hz1 x (by rw[hx];simp)
        · exact .ml b 0 _ _ _ hb (aV _) (by unfold maxLen;omega)
      · exact h.elim
    · exact h.elim
  · exact h.elim
theorem aTT{KV Kp:St->A->Prop}{t ty:TypeId}{x:Operand}{dst:Option Tmp}{pos:String}{after:Array Edge}{gd:Option (Nat × Bool)}
  (M:R C.toCtx F g s w)(z:∀x a,ρ x=some a->Rz g a (ev x))(h:bM C (.range t x) ρ KV Kp s) :
  OutV C F g KV Kp ((execOp ev ⟨dst,.range t x,ty,pos,after,gd⟩).run C.P w):=by
 simp only[bM]at h;split at h
 .rename_i y U B u;split at h
  .rename_i H;obtain⟨d,hd,m⟩:=jO u;rw[H]at m;simp only[TK.ok]at m;subst m;have O:=(z x _ B).str_inv;simp only[execOp];exact aHp (ob:=.iter y 0) (o:=.stringIter ⟨y.toArray⟩ 0) M rfl (λZ b S=>.ptr b 0 _ S) (by rw[O];exact run_range_string w t _ hd) h
  .exact h.elim
 .exact h.elim
theorem aVs{KV Kp:St->A->Prop}{ty:TypeId}{x:Operand}{str:Bool}{dst:Option Tmp}{pos:String}{after:Array Edge}{gd:Option (Nat × Bool)}
  (Z:R C.toCtx F g s w)(he:∀x a,ρ x=some a->Rz g a (ev x))(h:bM C (.next x str) ρ KV Kp s) :
  OutV C F g KV Kp ((execOp ev ⟨dst,.next x str,ty,pos,after,gd⟩).run C.P w):=by
 cases str
 .simp only[bM,cS]at h
 simp only[bM]at h;split at h
 .rename_i b hx;split at h
  .rename_i B p hb;obtain⟨k,y,M⟩:=(he x _ hx).ptr_inv;obtain⟨k',z,ho,_,_⟩:=Z.obj b _ hb;rw[M]at z;cases z;have U:w.heap[k]?=some (.stringIter ⟨B.toArray⟩ p):=ho;have H:k<w.heap.size:=(jU.1 U).1;have O:(ByteArray.mk B.toArray).size=B.length:=by simp[ByteArray.size]
   simp only[execOp];rw[aAK,y];unfold aEA at h;split at h
   .rename_i S
    have u:(Instr.next (.pointer (some ⟨k,0,none⟩)) true ty).run C.P w=.ok (.tuple #[.bool true,goInt p,.int .i32 (Utf8.decode ⟨B.toArray⟩ p).1])
      { w with heap:=w.heap.setIfInBounds k (.stringIter ⟨B.toArray⟩ (p+(Utf8.decode ⟨B.toArray⟩ p).2)) }:=by
     simp only[Instr.next,getObj,setObj,bW,Sem.run,U,Result.andThen,O,S,bT,H];rfl
    rw[u];refine⟨g,_,_,iE g,Z.setObj hb M (ob:=.iter B _) (λk hk=>?_) ?_,?_,h⟩
    .simp[aCP (Ne.symm hk)]
    .simp[ObRz,H]
    .refine .tuple _ [_,_,_] rfl λj c v m y=>?_
     match j with
     | 0=>simp at m y;subst m;subst y;exact .bool _
     | 1=>simp at m y;subst m;subst y;exact .int _ _
     | 2=>simp at m y;subst m;subst y;exact .int _ _
     | _+3=>simp at m
   .rename_i S
    have u:(Instr.next (.pointer (some ⟨k,0,none⟩)) true ty).run C.P w=.ok (.tuple #[.bool false]) w:=by
     simp only[Instr.next,getObj,bW,Sem.run,U,Result.andThen,O,S,bR];rfl
    rw[u];refine⟨g,_,_,iE g,Z,?_,h⟩;refine .tuple _ [_] rfl λj c v m y=>?_
    match j with
    | 0=>simp at m y;subst m;subst y;exact .bool _
    | _+1=>simp at m
  .exact h.elim
 .exact h.elim
end
end
end Go.AV
