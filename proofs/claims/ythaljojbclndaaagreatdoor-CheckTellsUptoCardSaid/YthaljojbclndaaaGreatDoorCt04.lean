/-
  Of CheckTells.
-/
import Derived.Test.YthaljojbclndaaaGreatDoorCt03
import Derived.Lib.Bytealg
import Derived.Laws.Externs
import Derived.Laws.RangeAny
import Derived.Shelf.LaysM
import Derived.Shelf.Strconv.Itoa3
import Derived.Shelf.Strings.Fields
set_option linter.all false
set_option maxRecDepth 99999
set_option maxHeartbeats 0
namespace Go.AV
open Go Go.Proofs Tryz
noncomputable section
def Tr.setF{h:Type}:Nat->Tr h->Nat->h->Tr h
 | 0,t,_,_=>t
 | f+1,t,n,a=>match t with
  | .lf=>match n with
   | 0=>.nd .lf (some a) .lf
   | k+1=>match Nat.beq (k % 2) 0 with
    | true=>.nd (setF f .lf (k / 2) a) none .lf
    | false=>.nd .lf none (setF f .lf (k / 2) a)
  | .nd l v r=>match n with
   | 0=>.nd l (some a) r
   | k+1=>match Nat.beq (k % 2) 0 with
    | true=>.nd (setF f l (k / 2) a) v r
    | false=>.nd l v (setF f r (k / 2) a)
def Tr.set{h:Type}(t:Tr h)(n:Nat)(a:h):Tr h:=t.setF (n+1) n a
theorem Tr.get_setF{α:Type}:∀(f:Nat) (t:Tr α) (n:Nat) (a:α) (m:Nat),n<f->(t.setF f n a).get m=if n=m then some a else t.get m
  | 0,t,n,a,m,h=>by omega
  | f+1,t,n,a,m,h=>by
    have key:∀(k j:Nat),Nat.beq (k % 2) 0=Nat.beq (j % 2) 0->(k / 2=j / 2↔k=j):=by
      intro k j h
      have h1:(k % 2=0)↔(j % 2=0):=by
        constructor
        · intro e;have:=cQ (n:=j % 2) (m:=0) (by rw[<-h,e];rfl);exact this
        · intro e;have:=cQ (n:=k % 2) (m:=0) (by rw[h,e];rfl);exact this
      omega
    cases t with
    | lf =>
      cases n with
      | zero=>cases m with
        | zero=>simp[setF,get]
        | succ j=>simp only[setF,get];split<;>simp
      | succ k =>
        simp only[setF];cases hk:Nat.beq (k % 2) 0<;>simp only
        all_goals
          cases m with
          | zero=>simp[get]
          | succ j =>
            simp only[get];cases hj:Nat.beq (j % 2) 0<;>simp only[get]
            all_goals first
              | (rw [get_setF f _ _ _ _ aB]
                 have:=key k j (by rw[hk,hj]);simp only[get,Nat.add_right_cancel_iff];by_cases e:k=j
                 · simp[e]
                 · simp[e,mt this.1 e])
              | (have : ¬ k = j := by rintro rfl; rw [hk] at hj; cases hj
                 simp[this])
    | nd l v r =>
      cases n with
      | zero=>cases m with
        | zero=>simp[setF,get]
        | succ j=>simp[setF,get]
      | succ k =>
        simp only[setF];cases hk:Nat.beq (k % 2) 0<;>simp only
        all_goals
          cases m with
          | zero=>simp[get]
          | succ j =>
            simp only[get];cases hj:Nat.beq (j % 2) 0<;>simp only[get]
            all_goals first
              | (rw [get_setF f _ _ _ _ aB]
                 have:=key k j (by rw[hk,hj]);simp only[Nat.add_right_cancel_iff];by_cases e:k=j
                 · simp[e]
                 · simp[e,mt this.1 e])
              | (have : ¬ k = j := by rintro rfl; rw [hk] at hj; cases hj
                 simp[this])
theorem Tr.get_set{h:Type}(t:Tr h)(n:Nat)(a:h)(m:Nat):(t.set n a).get m=if n=m then some a else t.get m:=get_setF _ t n a m (dZ n)
def Tr.del{h:Type}:Tr h->Nat->Tr h
 | .lf,_=>.lf
 | .nd l v r,n=>match n with
  | 0=>.nd l none r
  | k+1=>match Nat.beq (k % 2) 0 with
   | true=>.nd (l.del (k / 2)) v r
   | false=>.nd l v (r.del (k / 2))
theorem Tr.get_del{α:Type}:∀(t:Tr α) (n m:Nat),(t.del n).get m=if n=m then none else t.get m
  | .lf,n,m=>by simp[del,get]
  | .nd l v r,n,m=>by
    have key:∀(k j:Nat),Nat.beq (k % 2) 0=Nat.beq (j % 2) 0->(k / 2=j / 2↔k=j):=by
      intro k j h
      have h1:(k % 2=0)↔(j % 2=0):=by
        constructor
        · intro e;have:=cQ (n:=j % 2) (m:=0) (by rw[<-h,e];rfl);exact this
        · intro e;have:=cQ (n:=k % 2) (m:=0) (by rw[h,e];rfl);exact this
      omega
    cases n with
    | zero=>cases m<;>simp[del,get]
    | succ k =>
      simp only[del];cases hk:Nat.beq (k % 2) 0<;>simp only
      all_goals
        cases m with
        | zero=>simp[get]
        | succ j =>
          simp only[get];cases hj:Nat.beq (j % 2) 0<;>simp only
          all_goals first
            | (rw [get_del]
               have:=key k j (by rw[hk,hj]);simp only[Nat.add_right_cancel_iff];by_cases e:k=j
               · simp[e]
               · simp[e,mt this.1 e])
            | (have : ¬ k = j := by rintro rfl; rw [hk] at hj; cases hj
               simp[this])
noncomputable def Tr.gt{h:Type}(t:Tr h):Nat->Option h :=
 Tr.rec (motive:=λ_=>Nat->Option h) (λ_=>none) (λ_ v _ gl gr n=>Nat.rec (motive:=λ_=>Option h) v (λk _=>Nat.rec (motive:=λ_=>Option h) (gl (Nat.div k 2)) (λ_ _=>gr (Nat.div k 2)) (Nat.mod k 2)) n) t
theorem aAM{h:Type}:∀(t:Tr h) (n:Nat),t.gt n=t.get n
 | .lf,_=>rfl
 | .nd l v r,0=>rfl
 | .nd l v r,k+1=>by
  have e:(Tr.nd l v r).gt (k+1)=Nat.rec (motive:=λ_=>Option h) (l.gt (k / 2)) (λ_ _=>r.gt (k / 2)) (k % 2):=rfl;rw[e,aAM l,aAM r,Tr.get];cases k % 2<;>rfl
noncomputable def wU{h:Type}(a:h)(f:Nat):Tr h->Nat->Tr h :=
 Nat.rec (motive:=λ_=>Tr h->Nat->Tr h) (λt _=>t) (λ_ u t n=>Tr.rec (motive:=λ_=>Tr h)
  (Nat.rec (motive:=λ_=>Tr h) (.nd .lf (some a) .lf) (λk _=>Nat.rec (motive:=λ_=>Tr h) (.nd (u .lf (Nat.div k 2)) none .lf) (λ_ _=>.nd .lf none (u .lf (Nat.div k 2))) (Nat.mod k 2)) n)
  (λl v r _ _=>Nat.rec (motive:=λ_=>Tr h) (.nd l (some a) r) (λk _=>Nat.rec (motive:=λ_=>Tr h) (.nd (u l (Nat.div k 2)) v r) (λ_ _=>.nd l v (u r (Nat.div k 2))) (Nat.mod k 2)) n) t) f
noncomputable def Tr.st{h:Type}(t:Tr h)(n:Nat)(a:h):Tr h:=wU a (Nat.succ n) t n
theorem aDH{h:Type}(a:h):∀(f:Nat) (t:Tr h) (n:Nat),wU a f t n=t.setF f n a
 | 0,t,n=>rfl
 | f+1,.lf,0=>rfl
 | f+1,.nd l v r,0=>rfl
 | f+1,.lf,k+1=>by
  have e:wU a (f+1) .lf (k+1)=Nat.rec (motive:=λ_=>Tr h) (.nd (wU a f .lf (k / 2)) none .lf) (λ_ _=>.nd .lf none (wU a f .lf (k / 2))) (k % 2):=rfl;rw[e,aDH a f,Tr.setF];cases k % 2<;>rfl
 | f+1,.nd l v r,k+1=>by
  have e:wU a (f+1) (.nd l v r) (k+1)=Nat.rec (motive:=λ_=>Tr h) (.nd (wU a f l (k / 2)) v r) (λ_ _=>.nd l v (wU a f r (k / 2))) (k % 2):=rfl;rw[e,aDH a f,aDH a f,Tr.setF];cases k % 2<;>rfl
theorem aAN{h:Type}(t:Tr h)(n:Nat)(a:h)(m:Nat):(t.st n a).gt m=if n=m then some a else t.gt m:=by
 rw[aAM,aAM,<-Tr.get_set];exact jF (λu=>Tr.get u m) (aDH a _ t n)
theorem aKI{h:Type}(t:Tr h)(n m:Nat):(t.del n).gt m=if n=m then none else t.gt m:=by
 rw[aAM,aAM,Tr.get_del]
structure XS where
 bx:Tr Ob
 tk:Tr (Nat × TypeId)
 lim:Nat
 ls:Option (Nat × Nat × A)
inductive XR where
 | val (a:A) (σ:XS)
 | pan (a:A) (σ:XS)
 | call (f:FuncId) (az:List A)
 | bad
structure XT where
 tt:TypeId->Option TI
 eq:TypeId->A->A->Option Bool
 gl:Nat->Option (List A)
 cv:TypeId->TypeId->Option TypeId
 us:TypeId->Option TypeId
def mJ(T:XT)(ε:Tr A):Operand->Option A
 | .tmp t=>ε.gt t
 | .const v=>aA5 v
 | .global g=>match T.gl g with
  | some cs=>some (.eptr cs 0)
  | none=>none
 | .func f=>some (.fn f [] [])
def sM(T:XT)(t:TypeId)(cs:List A)(o:Nat):Option A :=
 match T.tt t with
 | some h=>match h.k.agg with
  | true=>match Nat.ble (o+h.sz) cs.length with
   | true=>some (.agg ((cs.drop o).take h.sz))
   | false=>none
  | false=>cs[o]?
 | none=>none
def aEy:Nat->List A->Bool
 | _,[]=>true
 | n,x::r=>Nat.beq x.cells.length n&&iF x.cells&&aEy n r
def wT(n:Nat):List A->Bool
 | []=>true
 | x::r=>Nat.beq x.cells.length n&&wT n r
def aEX(x:A)(y u:Option A):Option A :=
 match x with
 | .str s=>match qA y,nR s.length u with
  | some l,some h=>if 0<=l/\l<=h/\h<=s.length then some (.str ((s.drop l.toNat).take (h.toNat-l.toNat))) else none
  | _,_=>none
 | .list _ es=>match qA y,nR es.length u with
  | some l,some h=>if 0<=l/\l<=h/\h<=es.length then some (.list none ((es.drop l.toNat).take (h.toNat-l.toNat))) else none
  | _,_=>none
 | _=>none
def jM(T:XT)(c:Operand)(a:Operand)(b:Operand)(ρ:Operand->Option A):Option A :=
 match ρ c with
 | some (.bool c)=>match c with
  | true=>ρ a
  | false=>ρ b
 | _=>none
def jI(T:XT)(op:BinOp)(t:TypeId)(x:Operand)(y:Operand)(ρ:Operand->Option A):Option A :=
 match ρ x,ρ y with
 | some a,some b=>match aEw y with
  | true=>match b,T.tt t with
   | .nili,some h=>match h.k with
    | .iface=>aEK op a
    | _=>none
   | _,_=>none
  | false=>match aA7 op a b with
   | true=>match T.eq t a b with
    | some r=>some (.bool (match op with|.eql=>r|_=>!r))
    | none=>none
   | false=>match op,a,b with
    | .add,.str a,.str b=>match Nat.ble (a.length+b.length) maxLen with
     | true=>some (.str (a++b))
     | false=>none
    | op,a,b=>aEW op a b
 | _,_=>none
def jN(T:XT)(op:UnOp)(x:Operand)(ρ:Operand->Option A):Option A :=
 match ρ x with
 | some a=>unA op a
 | none=>none
def jY(T:XT)(x:Operand)(ρ:Operand->Option A):Option A :=
 match ρ x with
 | some (.ptr b o)=>some (.ptr b o)
 | some (.eptr cs o)=>some (.eptr cs o)
 | _=>none
def jC(T:XT)(t:TypeId)(x:Operand)(f:Nat)(ρ:Operand->Option A):Option A :=
 match ρ x,T.tt t with
 | some a,some u=>match u.k with
  | .struct h=>match h[f]? with
   | some (off,_,_)=>match a with
    | .ptr b o=>some (.ptr b (o+off))
    | .eptr cs o=>some (.eptr cs (o+off))
    | _=>none
   | none=>none
  | _=>none
 | _,_=>none
def kD(T:XT)(t:TypeId)(x:Operand)(f:Nat)(ρ:Operand->Option A):Option A :=
 match ρ x,T.tt t with
 | some (.agg cs),some y=>match y.k with
  | .struct u=>match u[f]? with
   | some (off,sz,h)=>match h with
    | true=>match Nat.ble (off+sz) cs.length with
     | true=>some (.agg ((cs.drop off).take sz))
     | false=>none
    | false=>cs[off]?
   | none=>none
  | _=>none
 | _,_=>none
def jH(T:XT)(x:Operand)(t:TypeId)(ok:Bool)(ρ:Operand->Option A):Option A :=
 match ok with
 | true=>match ρ x,T.tt t with
  | some (.iface u v),some h=>match h.k with
   | .struct _=>match Nat.beq u t with
    | true=>some (.tuple [v,.bool true])
    | false=>none
   | _=>none
  | _,_=>none
 | false=>none
def jE(T:XT)(x:Operand)(i:Nat)(ρ:Operand->Option A):Option A :=
 match ρ x with
 | some (.tuple vs)=>vs[i]?
 | _=>none
def jW(T:XT)(t:TypeId)(x:Operand)(ρ:Operand->Option A):Option A :=
 match ρ x,T.tt t with
 | some a,some h=>match h.k with
  | .iface=>none
  | _=>some (.iface t a)
 | _,_=>none
def jX(T:XT)(f:FuncId)(first:Array Operand)(h:Array Operand)(ρ:Operand->Option A):Option A :=
 match lF ρ first.toList,lF ρ h.toList with
 | some l,some m=>some (.fn f l m)
 | _,_=>none
def kA(T:XT)(a:TypeId)(b:TypeId)(x:Operand)(ρ:Operand->Option A):Option A :=
 match ρ x,T.tt a,T.tt b with
 | some (.int _ n),some _,some h=>match h.k with
  | .int k=>some (.int k (k.wrap n))
  | _=>none
 | some (.str s),some y,some h=>match h.k with
  | .string=>some (.str s)
  | .slice e=>match y.k,T.tt e with
   | .string,some u=>match u.k with
    | .int .u8=>if u.sz=1/\s.length<=maxLen then some (.list none (s.map λc=>.int .u8 c.toNat)) else none
    | _=>none
   | _,_=>none
  | _=>none
 | _,_,_=>none
def kC(T:XT)(t:TypeId)(h:Array (Nat × Operand))(ρ:Operand->Option A):Option A :=
 match mD ρ h.toList,T.tt t with
 | some z,some u=>match u.k with
  | .struct y=>(tW (λi=>(y[i]?).map λx=>(x.1,x.2.1)) u.zero z).map .agg
  | _=>none
 | _,_=>none
def jB(T:XT)(t:TypeId)(len:Nat)(h:Array (Nat × Operand))(ρ:Operand->Option A):Option A :=
 match mD ρ h.toList,T.tt t with
 | some y,some z=>match z.k with
  | .slice e=>match T.tt e with
   | some u=>match zE 0 y with
    | some es=>if(es.length=len/\(len * u.sz<=16777216/\len<=16777216)/\aEy u.sz es=true) then some (match aBk h.toList with|true=>hlA es|false=>aBo es) else none
    | none=>none
   | none=>none
  | _=>none
 | _,_=>none
def kH(T:XT)(t:TypeId)(x:Operand)(ρ:Operand->Option A):Option A :=
 match ρ x with
 | some (.eptr cs o)=>sM T t cs o
 | _=>none
def kE(T:XT)(t:TypeId)(x:Operand)(z:Option Operand)(y:Option Operand)(ρ:Operand->Option A):Option A :=
 match ρ x,oO ρ z,oO ρ y,T.tt t with
 | some a,some l,some h,some B=>match B.k with
  | .string=>match a with
   | .str s=>aEX (.str s) l h
   | _=>none
  | .slice e=>match a,T.tt e with
   | .list tk es,some u=>match wT u.sz es with
    | true=>aEX (.list tk es) l h
    | false=>none
   | .nils,some _=>match qA l,nR 0 h with
    | some i,some j=>if i=0/\j=0 then some .nils else none
    | _,_=>none
   | .gr t n,some _=>match qA l,nR n h with
    | some i,some j=>if i=0/\j=0 then some (.list (some t) []) else none
    | _,_=>none
   | .ml b off n,some u=>match qA l,nR n h with
    | some i,some j=>if 0<=i/\i<=j/\j<=n then some (if j.toNat-i.toNat=0 then .list none [] else .ml b (off+i.toNat * u.sz) (j.toNat-i.toNat)) else none
    | _,_=>none
   | _,_=>none
  | _=>none
 | _,_,_,_=>none
def jD(T:XT)(t:TypeId)(x:Operand)(i:Operand)(ρ:Operand->Option A):Option A :=
 match ρ x,ρ i,T.tt t with
 | some a,some (.int _ i),some u=>match u.k with
  | .slice e=>match a with
   | .list _ es=>match T.tt e with
    | some h=>if 0<=i then(match es[i.toNat]? with
     | some x=>match Nat.beq x.cells.length h.sz with
      | true=>some (.eptr x.cells 0)
      | false=>none
     | none=>none) else none
    | none=>none
   | .ml b off n=>match T.tt e with
    | some h=>if 0<=i/\i.toNat<n then some (.ptr b (off+i.toNat * h.sz)) else none
    | none=>none
   | .pen t es sz=>match T.tt e with
    | some h=>if i=es.length/\sz=h.sz then some (.rm t es.length h.sz) else none
    | none=>none
   | _=>none
  | .array n e=>match a with
   | .eptr cs o=>match T.tt e with
    | some h=>if 0<=i/\i<n then some (.eptr cs (o+i.toNat * h.sz)) else none
    | none=>none
   | _=>none
  | _=>none
 | _,_,_=>none
def jJ(T:XT)(t:TypeId)(x:Operand)(i:Operand)(ρ:Operand->Option A):Option A :=
 match ρ x,ρ i,T.tt t with
 | some (.str s),some (.int _ i),some h=>match h.k with
  | .string=>if 0<=i then(match s[i.toNat]? with
   | some c=>some (.int .u8 c.toNat)
   | none=>none) else none
  | _=>none
 | _,_,_=>none
def kG(T:XT)(c:Call)(ρ:Operand->Option A):Option A :=
 match c.callee,c.args.toList,c.argTypes.toList with
 | .builtin .len,[x],[t]=>match ρ x,T.tt t with
  | some a,some h=>match h.k with
   | .string=>match a with|.str s=>some (.int .i64 s.length)|_=>none
   | .slice _=>match a with|.list _ es=>some (.int .i64 es.length)|.nils=>some (.int .i64 0)|.ml _ _ n=>some (.int .i64 n)|.emp=>some (.int .i64 0)|_=>none
   | _=>none
  | _,_=>none
 | .builtin .unsafeSliceData,[x],_=>match ρ x with
  | some (.list tk (y::ys))=>some (.sd tk (y::ys))
  | some .nils=>some .nilp
  | _=>none
 | .builtin .cap,[x],[t]=>match ρ x,T.tt t with
  | some .nils,some h=>match h.k with
   | .slice _=>some (.int .i64 0)
   | _=>none
  | _,_=>none
 | .builtin .max,[x,y],_=>match ρ x,ρ y with
  | some (.int j a),some (.int _ b)=>some (.int j (if a<b then b else a))
  | _,_=>none
 | .builtin .min,[x,y],_=>match ρ x,ρ y with
  | some (.int j a),some (.int _ b)=>some (.int j (if b<a then b else a))
  | _,_=>none
 | _,_,_=>none
def fK(T:XT)(op:Op)(ρ:Operand->Option A):Option A :=
 match op with
 | .move x=>ρ x
 | .assign x=>ρ x
 | .pick c a b=>jM T c a b ρ
 | .binOp op t x y _=>jI T op t x y ρ
 | .unOp op _ x=>jN T op x ρ
 | .nilCheck x=>jY T x ρ
 | .fieldAddr t x f=>jC T t x f ρ
 | .field t x f=>kD T t x f ρ
 | .typeAssert x _ t ok=>jH T x t ok ρ
 | .extract x i=>jE T x i ρ
 | .makeInterface t x=>jW T t x ρ
 | .makeFunc (.func f) first u=>jX T f first u ρ
 | .convert a b x=>kA T a b x ρ
 | .build t h=>kC T t h ρ
 | .buildSlice t len h=>jB T t len h ρ
 | .load t x=>kH T t x ρ
 | .slice t x B z none=>kE T t x B z ρ
 | .indexAddr t x i=>jD T t x i ρ
 | .index t x i=>jJ T t x i ρ
 | .call c=>kG T c ρ
 | _=>none
end
section
structure XT.ok (T:XT) (C:Cx):Prop where
 tt:∀t ti,T.tt t=some ti->C.tt t=some ti
 eq:∀t a b r,T.eq t a b=some r->C.eq t a b=some r
 gl:∀g,T.gl g=C.gl g
 cv:∀a b,T.cv a b=C.cv a b
 us:∀a,T.us a=C.us a
theorem aLe{n:Nat}:∀{l:List A},aEy n l=true->aCR n l
 | [],_=>trivial
 | x::r,h=>by
  simp only[aEy,aY]at h;exact⟨⟨cQ h.1.1,h.1.2⟩,aLe h.2⟩
theorem aAy{n:Nat}:∀{l:List A},wT n l=true->∀x,x∈l->x.cells.length=n
 | [],_=>by simp
 | x::r,h=>by
  simp only[wT,aY]at h;intro y u;cases u with
  | head=>exact cQ h.1
  | tail _ u=>exact aAy h.2 y u
section
variable {T:XT} {C:Cx} {ρ:Operand->Option A} {K:A->Prop}
theorem aAP(z:T.ok C){t:TypeId}{cs:List A}{o:Nat}{v:A}(h:sM T t cs o=some v):rL C t cs o=some v:=by
 unfold sM at h;split at h
 .rename_i B y;simp only[rL,z.tt _ _ y];split at h
  .rename_i u;rw[aF u];split at h
   .rename_i hl;rw[aF (eQ hl)];exact h
   .cases h
  .rename_i u;rw[aE (by simp[u])];exact h
 .cases h
theorem aMo{x:A}{H G:Option A}{v:A}(h:aEX x H G=some v)(B:K v):sO x H G K:=by
 unfold aEX at h;split at h
 .split at h
  .rename_i l M u y;split at h
   .rename_i z;cases h;simp only[sO,u,y];exact⟨z,B⟩
   .cases h
  .cases h
 .split at h
  .rename_i l M u y;split at h
   .rename_i z;cases h;simp only[sO,u,y];exact⟨z,B⟩
   .cases h
  .cases h
 .cases h
theorem aCq(M:T.ok C){op:Op}{v:A}(h:fK T op ρ=some v)(B:K v):bH C op ρ K:=by
 cases op
 case move x=>simp only[fK,jM,jI,jN,jY,jC,kD,jE,jH,jW,jX,kA,kC,jB,kH,kE,jD,jJ,kG]at h;simp only[bH,h];exact B
 case assign x=>simp only[fK,jM,jI,jN,jY,jC,kD,jE,jH,jW,jX,kA,kC,jB,kH,kE,jD,jJ,kG]at h;simp only[bH,h];exact B
 case pick c a b =>
  simp only[fK,jM,jI,jN,jY,jC,kD,jE,jH,jW,jX,kA,kC,jB,kH,kE,jD,jJ,kG]at h;split at h
  .rename_i c' S;cases c'<;>simp only at h<;>simp only[bH,S,h]<;>exact B
  .cases h
 case binOp op t x y ty =>
  simp only[fK,jM,jI,jN,jY,jC,kD,jE,jH,jW,jX,kA,kC,jB,kH,kE,jD,jJ,kG]at h;split at h
  .rename_i a b U hb;simp only[bH,U,hb];cases hn:aEw y
   .rw[hn]at h;simp only at h⊢;cases hd:aA7 op a b
    .rw[hd]at h;simp only at h⊢;split at h
     .rename_i a' b';split at h
      .rename_i hl;cases h;exact⟨eQ hl,B⟩
      .cases h
     .rename_i b9;split
      .rename_i a' b';exact(b9 a' b' rfl rfl rfl).elim
      .rw[h];exact B
    .rw[hd]at h;simp only at h⊢;split at h
     .rename_i r hr;rw[M.eq _ _ _ _ hr];cases h;cases op<;>first|exact B|(simp only[aA7]at hd;cases hd)
     .cases h
   .rw[hn]at h;simp only at h⊢;split at h
    .rename_i Y z;rw[M.tt _ _ z];simp only;split at h
     .rename_i H;simp only[H,h];exact B
     .cases h
    .cases h
  .cases h
 case unOp op t x =>
  simp only[fK,jM,jI,jN,jY,jC,kD,jE,jH,jW,jX,kA,kC,jB,kH,kE,jD,jJ,kG]at h;split at h
  .rename_i a U;simp only[bH,U,h];exact B
  .cases h
 case nilCheck x =>
  simp only[fK,jM,jI,jN,jY,jC,kD,jE,jH,jW,jX,kA,kC,jB,kH,kE,jD,jJ,kG]at h;split at h
  .rename_i O;cases h;simp only[bH,O];exact B
  .rename_i O;cases h;simp only[bH,O];exact B
  .cases h
 case fieldAddr t x f =>
  simp only[fK,jM,jI,jN,jY,jC,kD,jE,jH,jW,jX,kA,kC,jB,kH,kE,jD,jJ,kG]at h;split at h
  .rename_i a Y U z;simp only[bH,U,M.tt _ _ z];split at h
   .rename_i fs H;simp only[H];split at h
    .rename_i off sz ag hf;simp only[hf];split at h
     .cases h;exact B
     .cases h;exact B
     .cases h
    .cases h
   .cases h
  .cases h
 case field t x f =>
  simp only[fK,jM,jI,jN,jY,jC,kD,jE,jH,jW,jX,kA,kC,jB,kH,kE,jD,jJ,kG]at h;split at h
  .rename_i cs Y U z;simp only[bH,U,M.tt _ _ z];split at h
   .rename_i fs H;simp only[H];split at h
    .rename_i off sz ag hf;simp only[hf];cases ag
     .simp only at h;rw[aE aV];rw[h];exact B
     .simp only at h;rw[aF rfl];split at h
      .rename_i hl;cases h;exact⟨eQ hl,B⟩
      .cases h
    .cases h
   .cases h
  .cases h
 case typeAssert x xt t ok =>
  cases ok<;>simp only[fK,jH]at h
  .cases h
  .split at h
   .rename_i u v Y O z;split at h
    .rename_i fs H;split at h
     .rename_i hb;cases h;simp only[bH,O,M.tt _ _ z,H];exact⟨cQ hb,B⟩
     .cases h
    .cases h
   .cases h
 case extract x i =>
  simp only[fK,jM,jI,jN,jY,jC,kD,jE,jH,jW,jX,kA,kC,jB,kH,kE,jD,jJ,kG]at h;split at h
  .rename_i vs O;simp only[bH,O,h];exact B
  .cases h
 case makeInterface t x =>
  simp only[fK,jM,jI,jN,jY,jC,kD,jE,jH,jW,jX,kA,kC,jB,kH,kE,jD,jJ,kG]at h;split at h
  .rename_i a Y U z;simp only[bH,U,M.tt _ _ z];cases H:Y.k<;>rw[H]at h<;>simp only at h⊢<;>cases h<;>exact B
  .cases h
 case makeFunc fn first bb =>
  cases fn<;>simp only[fK,jM,jI,jN,jY,jC,kD,jE,jH,jW,jX,kA,kC,jB,kH,kE,jD,jJ,kG]at h
  .split at h
   .rename_i l m hl hm;simp only[bH,hl,hm];cases h;exact B
   .cases h
  all_goals cases h
 case convert a b x =>
  simp only[fK,jM,jI,jN,jY,jC,kD,jE,jH,jW,jX,kA,kC,jB,kH,kE,jD,jJ,kG]at h;split at h
  .rename_i k n ta tb O b1 b2;simp only[bH,O,M.tt _ _ b1,M.tt _ _ b2];split at h
   .rename_i k' H;simp only[H];cases h;exact B
   .cases h
  .rename_i s ta tb O b1 b2;simp only[bH,O,M.tt _ _ b1,M.tt _ _ b2];split at h
   .rename_i H;simp only[H];cases h;exact B
   .rename_i e H;simp only[H];split at h
    .rename_i te b6 G;simp only[b6,M.tt _ _ G];split at h
     .rename_i b7;simp only[b7];split at h
      .rename_i S;cases h;exact⟨S.1,S.2,B⟩
      .cases h
     .cases h
    .cases h
   .cases h
  .cases h
 case build t Z =>
  simp only[fK,jM,jI,jN,jY,jC,kD,jE,jH,jW,jX,kA,kC,jB,kH,kE,jD,jJ,kG]at h;split at h
  .rename_i ps Y b0 z;simp only[bH,b0,M.tt _ _ z];split at h
   .rename_i fs H;simp only[H,h];exact B
   .cases h
  .cases h
 case buildSlice t len Z =>
  simp only[fK,jM,jI,jN,jY,jC,kD,jE,jH,jW,jX,kA,kC,jB,kH,kE,jD,jJ,kG]at h;split at h
  .rename_i ps Y b0 z;simp only[bH,b0,M.tt _ _ z];split at h
   .rename_i e H;simp only[H];split at h
    .rename_i te G;simp only[M.tt _ _ G];split at h
     .rename_i es b4;simp only[b4];split at h
      .rename_i S;cases h;refine⟨⟨S.1,S.2.1,aLe S.2.2⟩,?_⟩;cases hz:aBk Z.toList<;>rw[hz]at B<;>exact B
      .cases h
     .cases h
    .cases h
   .cases h
  .cases h
 case load t x =>
  simp only[fK,jM,jI,jN,jY,jC,kD,jE,jH,jW,jX,kA,kC,jB,kH,kE,jD,jJ,kG]at h;split at h
  .rename_i cs o O;simp only[bH,O,aAP M h];exact B
  .cases h
 case slice t x lo hi mx =>
  cases mx with
  | some m=>simp only[fK,jM,jI,jN,jY,jC,kD,jE,jH,jW,jX,kA,kC,jB,kH,kE,jD,jJ,kG]at h;cases h
  | none =>
   simp only[fK,jM,jI,jN,jY,jC,kD,jE,jH,jW,jX,kA,kC,jB,kH,kE,jD,jJ,kG]at h;split at h
   .rename_i a l h' Y U b8 b5 z;simp only[bH,U,b8,b5,M.tt _ _ z];split at h
    .rename_i H;simp only[H];split at h
     .exact aMo h B
     .cases h
    .rename_i e H;simp only[H];split at h
     .rename_i tk es te G;simp only[M.tt _ _ G];split at h
      .rename_i hl;exact⟨aAy hl,aMo h B⟩
      .cases h
     .rename_i te G;simp only[M.tt _ _ G];split at h
      .rename_i i j e1 e2;simp only[e1,e2];split at h
       .rename_i S;cases h;exact⟨S,B⟩
       .cases h
      .cases h
     .rename_i t0 n0 te G;simp only[M.tt _ _ G];split at h
      .rename_i i j e1 e2;simp only[e1,e2];split at h
       .rename_i S;cases h;exact⟨S,B⟩
       .cases h
      .cases h
     .rename_i b off n te G;simp only[M.tt _ _ G];split at h
      .rename_i i j e1 e2;simp only[e1,e2];split at h
       .rename_i S;cases h;exact⟨S,B⟩
       .cases h
      .cases h
     .cases h
    .cases h
   .cases h
 case indexAddr t x i =>
  simp only[fK,jM,jI,jN,jY,jC,kD,jE,jH,jW,jX,kA,kC,jB,kH,kE,jD,jJ,kG]at h;split at h
  .rename_i a k n Y U hi z;simp only[bH,U,hi,M.tt _ _ z];split at h
   .rename_i e H;simp only[H];split at h
    .rename_i tk es;split at h
     .rename_i te G;simp only[M.tt _ _ G];split at h
      .rename_i h0;split at h
       .rename_i x O;split at h
        .rename_i hl;cases h;refine⟨⟨h0,(cX.1 O).1⟩,?_⟩;rw[O];exact⟨cQ hl,B⟩
        .cases h
       .cases h
      .cases h
     .cases h
    .rename_i b off m;split at h
     .rename_i te G;simp only[M.tt _ _ G];split at h
      .rename_i S;cases h;exact⟨S,B⟩
      .cases h
     .cases h
    .rename_i t' es sz;split at h
     .rename_i te G;simp only[M.tt _ _ G];split at h
      .rename_i S;cases h;exact⟨S,B⟩
      .cases h
     .cases h
    .cases h
   .rename_i m e H;simp only[H];split at h
    .rename_i cs o;split at h
     .rename_i te G;simp only[M.tt _ _ G];split at h
      .rename_i S;cases h;exact⟨S,B⟩
      .cases h
     .cases h
    .cases h
   .cases h
  .cases h
 case index t x i =>
  simp only[fK,jM,jI,jN,jY,jC,kD,jE,jH,jW,jX,kA,kC,jB,kH,kE,jD,jJ,kG]at h;split at h
  .rename_i s k n Y U hi z;simp only[bH,U,hi,M.tt _ _ z];split at h
   .rename_i H;simp only[H];split at h
    .rename_i h0;split at h
     .rename_i c S;cases h;refine⟨⟨h0,(cX.1 S).1⟩,?_⟩;rw[S];exact B
     .cases h
    .cases h
   .cases h
  .cases h
 case call c =>
  obtain⟨bc,args,b3⟩:=c;obtain⟨args⟩:=args;obtain⟨b3⟩:=b3;simp only[fK,jM,jI,jN,jY,jC,kD,jE,jH,jW,jX,kA,kC,jB,kH,kE,jD,jJ,kG]at h;split at h
  .rename_i x t;split at h
   .rename_i a Y U z;simp only[bH,U,M.tt _ _ z];split at h
    .rename_i H;simp only[H];split at h
     .cases h;exact B
     .cases h
    .rename_i e H;simp only[H];split at h<;>first|(cases h;exact B)|cases h
    .cases h
   .cases h
  .rename_i x;split at h
   .rename_i tk y ys O;simp only[bH,O];cases h;exact B
   .rename_i O;simp only[bH,O];cases h;exact B
   .cases h
  .rename_i x t;split at h
   .rename_i Y O z;simp only[bH,O,M.tt _ _ z];split at h
    .rename_i e H;simp only[H];cases h;exact B
    .cases h
   .cases h
  .rename_i x y;split at h
   .rename_i j a k b O hy;simp only[bH,O,hy];cases h;exact B
   .cases h
  .rename_i x y;split at h
   .rename_i j a k b O hy;simp only[bH,O,hy];cases h;exact B
   .cases h
  .cases h
 all_goals (simp only[fK,jM,jI,jN,jY,jC,kD,jE,jH,jW,jX,kA,kC,jB,kH,kE,jD,jJ,kG]at h;cases h)
end
end
noncomputable section
def XS.newO(σ:XS)(o:Ob):XS:=⟨σ.bx.st σ.lim o,σ.tk,σ.lim+1,σ.ls⟩
def XS.newT(σ:XS)(n:Nat × TypeId):XS:=⟨σ.bx,σ.tk.st σ.lim n,σ.lim+1,σ.ls⟩
def XS.setO(σ:XS)(b:Nat)(o:Ob):XS:=⟨σ.bx.st b o,σ.tk,σ.lim,σ.ls⟩
def XS.setT(σ:XS)(b:Nat)(n:Nat × TypeId):XS:=⟨σ.bx,σ.tk.st b n,σ.lim,σ.ls⟩
def XS.setL(σ:XS)(x:Option (Nat × Nat × A)):XS:=⟨σ.bx,σ.tk,σ.lim,x⟩
def XS.delT(σ:XS)(t:Nat):XS:=⟨σ.bx,σ.tk.del t,σ.lim,σ.ls⟩
def bytesOf:List A->Option (List UInt8)
 | []=>some []
 | a::r=>match a with
  | .int k n=>match k with
   | .u8=>match n with
    | .ofNat m=>match Nat.blt m 256,bytesOf r with
     | true,some l=>some (UInt8.ofNat m::l)
     | _,_=>none
    | _=>none
   | _=>none
  | _=>none
theorem aKj:∀(es:List A) (bs:List UInt8),bytesOf es=some bs->es=fB bs
 | [],bs,h=>by cases h;rfl
 | a::r,bs,h=>by
  simp only[bytesOf]at h;split at h
  .split at h
   .split at h
    .rename_i m;split at h
     .rename_i l y hl;cases h;have:=aKj r l hl;rw[this];have u:m<256:=by rwa[Nat.blt_eq]at y
      simp[fB,Nat.mod_eq_of_lt u]
     .cases h
    .cases h
   .cases h
  .cases h
def aIy(T:XT)(y:TI)(u:TypeId):Option TypeId:=match y.k with
 | .slice e=>match T.tt u,T.tt e with
  | some z,some h=>match z.k with
   | .string=>match h.k with
    | .int .u8=>if h.sz=1/\h.bytes=1 then some e else none
    | _=>none
   | _=>none
  | _,_=>none
 | _=>none
def aH5(σ:XS)(e:TypeId)(bs:List UInt8):A->XR
 | .nils=>match Nat.ble bs.length 4294967296 with
  | true=>.val (.list (some σ.lim) (fB bs)) (σ.newT (bs.length,e))
  | false=>.bad
 | .list (some t) es=>match σ.tk.gt t with
  | some (n,e')=>match Nat.beq n es.length&&Nat.beq e' e&&wT 1 es&&Nat.ble (es.length+bs.length) 4294967296 with
   | true=>.val (.list (some t) (es++fB bs)) (σ.setT t (es.length+bs.length,e))
   | false=>.bad
  | none=>.bad
 | _=>.bad
def aH3(T:XT)(σ:XS)(y:TI)(u:TypeId)(n:Int):A->XR
 | .nils=>match y.k with
  | .slice e=>match T.tt e,T.tt u with
   | some h,some z=>match z.k with
    | .int _=>if 0<n/\n<=4294967296/\h.sz≠0/\h.bytes<=32768 then .val (.gr σ.lim n.toNat) (σ.newT (0,e)) else .bad
    | _=>.bad
   | _,_=>.bad
  | _=>.bad
 | _=>.bad
def aEE(T:XT)(σ:XS)(h:TI)(t u:TypeId)(a:A):XR:=match h.k with
 | .slice e=>match T.tt e with
  | some _=>match Nat.beq u t with
   | true=>match a with
    | .nils=>.val .nils σ
    | .emp=>.val .emp σ
    | .list tk es=>.val (.list tk es) σ
    | .ml b o n=>.val (.ml b o n) σ
    | _=>.bad
   | false=>.bad
  | none=>.bad
 | _=>.bad
def aH4(T:XT)(σ:XS)(y:TI)(t u:TypeId)(z a:A):XR:=match y.k with
 | .slice e=>match T.tt e with
  | some h=>match Nat.beq u t&&!(Nat.beq h.sz 0)&&Nat.ble h.bytes 32768&&Nat.beq z.cells.length h.sz with
   | true=>match a with
    | .nils=>.val (.pen σ.lim [] h.sz) (σ.newT (0,e))
    | .list tk es=>match tk with
     | some k=>match σ.tk.gt k with
      | some (n,e')=>match Nat.beq n es.length&&Nat.beq e' e&&wT h.sz es&&Nat.ble (es.length+1) 4294967296 with
       | true=>.val (.pen σ.lim es h.sz) ((σ.delT k).newT (es.length,e))
       | false=>.bad
      | none=>.bad
     | none=>.bad
    | _=>.bad
   | false=>.bad
  | none=>.bad
 | _=>.bad
def aIt(σ:XS):A->A
 | .pen t es sz=>match σ.ls with
  | some q=>aBr t es sz q
  | none=>.pen t es sz
 | a=>a
def rmX(T:XT)(σ:XS)(k n z:Nat)(u:TI)(v:A):XR:=match σ.tk.gt k with
 | some (m,e)=>match T.tt e with
  | some h=>match Nat.beq m n&&Nat.beq h.sz z&&Nat.beq u.sz z&&Nat.beq v.cells.length z&&iF v.cells with
   | true=>.val (.tuple []) ((σ.setT k (n+1,e)).setL (some (k,n,v)))
   | false=>.bad
  | none=>.bad
 | none=>.bad
def aOm(T:XT)(σ:XS)(h:TypeId):A->A->XR
 | .nilp,.int .i64 n=>if n=0 then .val (.str []) σ else .bad
 | .sd (some t) es,.int .i64 n=>match T.us h with
  | some e=>match σ.tk.gt t with
   | some (m,e')=>if n=es.length/\m=es.length/\e'=e then(match bytesOf es with
    | some bs=>.val (.str bs) (σ.delT t)
    | none=>.bad) else .bad
   | none=>.bad
  | none=>.bad
 | _,_=>.bad
def cvX(T:XT)(σ:XS)(a b:TypeId)(x:Operand)(ρ:Operand->Option A):XR :=
 match ρ x with
 | some (.ptr k 0)=>match σ.bx.gt k,T.cv a b with
  | some (.cells e cs),some e'=>match T.tt e with
   | some h=>if e=e'/\h.sz<=cs.length then .val (.ptr k 0) σ else .bad
   | none=>.bad
  | _,_=>.bad
 | _=>match fK T (.convert a b x) ρ with
  | some v=>.val v σ
  | none=>.bad
def pT(σ:XS):Option A->XR
 | some v=>.val v σ
 | none=>.bad
def aXD(x:List UInt8)(pos:Nat):Nat × Nat:=Utf8.decode ⟨x.toArray⟩ pos
def aNI(T:XT)(t:TypeId)(x:Operand)(ρ:Operand->Option A)(σ:XS):XR :=
 match ρ x with
 | some (.ptr b o)=>match σ.bx.gt b with
  | some (.cells _ cs)=>pT σ (sM T t cs o)
  | _=>.bad
 | some (.eptr cs o)=>pT σ (sM T t cs o)
 | _=>.bad
def stX(σ:XS)(b o:Nat)(h:TI)(e:TypeId)(cs:List A)(v:A):XR:=match Nat.beq v.cells.length h.sz&&Nat.ble (o+v.cells.length) cs.length&&iF v.cells with
 | true=>.val (.tuple []) (σ.setO b (.cells e (nU cs o v.cells)))
 | false=>.bad
def aNc(T:XT)(t:TypeId)(x:Operand)(y:Operand)(ρ:Operand->Option A)(σ:XS):XR :=
 match ρ x,ρ y,T.tt t with
 | some (.ptr b o),some v,some h=>match σ.bx.gt b with
  | some (.cells e cs)=>stX σ b o h e cs (aIt σ v)
  | _=>.bad
 | some (.rm k n z),some v,some h=>rmX T σ k n z h v
 | _,_,_=>.bad
def aM9(T:XT)(t:TypeId)(ρ:Operand->Option A)(σ:XS):XR :=
 match T.tt t with
 | some h=>.val (.ptr σ.lim 0) (σ.newO (.cells t h.zero))
 | none=>.bad
def aN6(T:XT)(t:TypeId)(x:Operand)(ρ:Operand->Option A)(σ:XS):XR :=
 match ρ x with
 | some v=>match iF v.cells with
  | true=>.val (.ptr σ.lim 0) (σ.newO (.cells t v.cells))
  | false=>.bad
 | none=>.bad
def aNJ(T:XT)(t:TypeId)(l c:Operand)(ρ:Operand->Option A)(σ:XS):XR :=
 match ρ l,ρ c,T.tt t with
 | some (.int _ n),some (.int _ m),some u=>match u.k with
  | .slice e=>match T.tt e with
   | some h=>if n=m/\0<n/\h.sz=1/\h.bytes * n.toNat<=281474976710656/\n<=4294967296 then
     .val (.ml σ.lim 0 n.toNat) (σ.newO (.cells e (List.replicate n.toNat h.zero).flatten)) else .bad
   | none=>.bad
  | _=>.bad
 | _,_,_=>.bad
def aNa(T:XT)(x:Operand)(ρ:Operand->Option A)(σ:XS):XR :=
 match ρ x with
 | some (.iface t a)=>.pan (.iface t a) σ
 | _=>.bad
def aNb(T:XT)(t:TypeId)(x:Operand)(ρ:Operand->Option A)(σ:XS):XR :=
 match ρ x,T.tt t with
 | some (.str x),some h=>match h.k with
  | .string=>.val (.ptr σ.lim 0) (σ.newO (.iter x 0))
  | _=>.bad
 | _,_=>.bad
def aNK(T:XT)(x:Operand)(str:Bool)(ρ:Operand->Option A)(σ:XS):XR :=
 match str with
 | true=>match ρ x with
  | some (.ptr b 0)=>match σ.bx.gt b with
   | some (.iter x pos)=>match Nat.blt pos x.length with
    | true=>match aXD x pos with
     | (c,k)=>.val (.tuple [.bool true,.int .i64 pos,.int .i32 c]) (σ.setO b (.iter x (pos+k)))
    | false=>.val (.tuple [.bool false]) σ
   | _=>.bad
  | _=>.bad
 | false=>.bad
def aN5(f:Operand)(c:Call)(ρ:Operand->Option A):XR:=match ρ f,lF ρ c.args.toList with
  | some (.fn f first h),some az=>.call f (first++az++h)
  | _,_=>.bad
def aN2 (T:XT) (c:Call) (ρ:Operand→Option A) (σ:XS):XR:=match c.args.toList,c.argTypes.toList with
  | [x,y],[t,u]=>match ρ x,ρ y,T.tt t with
   | some a,some (.list _ ys),some h=>match h.k with
    | .slice e=>match T.tt e with
     | some B=>match Nat.beq u t&&!(Nat.beq B.sz 0)&&Nat.ble B.bytes 32768&&wT B.sz ys with
      | true=>match a with
       | .nils=>match Nat.ble ys.length 4294967296 with
        | true=>.val (.list (some σ.lim) ys) (σ.newT (ys.length,e))
        | false=>.bad
       | .emp=>match Nat.ble ys.length 4294967296&&Nat.blt 0 ys.length with
        | true=>.val (.list (some σ.lim) ys) (σ.newT (ys.length,e))
        | false=>.bad
       | .list (some t) es=>match σ.tk.gt t with
        | some (n,e')=>match Nat.beq n es.length&&Nat.beq e' e&&wT B.sz es&&Nat.ble (es.length+ys.length) 4294967296 with
         | true=>.val (.list (some t) (es++ys)) (σ.setT t (es.length+ys.length,e))
         | false=>.bad
        | none=>.bad
       | _=>.bad
      | false=>.bad
     | none=>.bad
    | _=>.bad
   | some a,some (.str bs),some h=>match aIy T h u with
    | some e=>aH5 σ e bs a
    | none=>.bad
   | some a,some (.int .i64 n),some h=>aH3 T σ h u n a
   | some a,some .nils,some h=>aEE T σ h t u a
   | some a,some .emp,some h=>aEE T σ h t u a
   | some a,some (.hl z),some h=>aH4 T σ h t u z a
   | _,_,_=>.bad
  | _,_=>.bad
def aN4(T:XT)(c:Call)(ρ:Operand->Option A)(σ:XS):XR:=match c.args.toList,c.argTypes.toList with
  | [p,n],[h,_]=>match ρ p,ρ n with
   | some a,some b=>aOm T σ h a b
   | _,_=>.bad
  | _,_=>.bad
def aN3(c:Call)(ρ:Operand->Option A)(σ:XS):XR:=match c.args.toList with
  | [x]=>match ρ x with
   | some (.iface t a)=>.pan (.iface t a) σ
   | _=>.bad
  | _=>.bad
def xcF(f:Callee):XT->Call->(Operand->Option A)->XS->XR:=match f with
 | .value f=>λ_ c ρ _=>aN5 f c ρ
 | .builtin .append=>λT c ρ σ=>aN2 T c ρ σ
 | .builtin .unsafeString=>λT c ρ σ=>aN4 T c ρ σ
 | .builtin .panic=>λ_ c ρ σ=>aN3 c ρ σ
 | _=>λT c ρ σ=>pT σ (fK T (.call c) ρ)
def aNH(T:XT)(c:Call)(ρ:Operand->Option A)(σ:XS):XR:=xcF c.callee T c ρ σ
def aN7(T:XT)(t:TypeId)(len:Nat)(h:Array (Nat × Operand))(ρ:Operand->Option A)(σ:XS):XR :=
 match jB T t len h ρ with
 | some a=>match a with
  | .list _ es=>match T.tt t with
   | some u=>match u.k with
    | .slice e=>.val (.list (some σ.lim) es) (σ.newT (es.length,e))
    | _=>.bad
   | none=>.bad
  | a=>.val a σ
 | none=>.bad
def rS(op:Op):XT->(Operand->Option A)->XS->XR :=
 match op with
 | .load t x=>λT ρ σ=>aNI T t x ρ σ
 | .store t x y=>λT ρ σ=>aNc T t x y ρ σ
 | .alloc t=>λT ρ σ=>aM9 T t ρ σ
 | .buildSlice t len h=>λT ρ σ=>aN7 T t len h ρ σ
 | .box t x=>λT ρ σ=>aN6 T t x ρ σ
 | .makeSlice t l c=>λT ρ σ=>aNJ T t l c ρ σ
 | .convert a b x=>λT ρ σ=>cvX T σ a b x ρ
 | .panic x=>λT ρ σ=>aNa T x ρ σ
 | .range t x=>λT ρ σ=>aNb T t x ρ σ
 | .next x str=>λT ρ σ=>aNK T x str ρ σ
 | .call c=>λT ρ σ=>aNH T c ρ σ
 | .move x=>λT ρ σ=>pT σ (ρ x)
 | .assign x=>λT ρ σ=>pT σ (ρ x)
 | .pick c a b=>λT ρ σ=>pT σ (jM T c a b ρ)
 | .binOp op t x y _=>λT ρ σ=>pT σ (jI T op t x y ρ)
 | .unOp op _ x=>λT ρ σ=>pT σ (jN T op x ρ)
 | .fieldAddr t x f=>λT ρ σ=>pT σ (jC T t x f ρ)
 | .extract x i=>λT ρ σ=>pT σ (jE T x i ρ)
 | .indexAddr t x i=>λT ρ σ=>pT σ (jD T t x i ρ)
 | .index t x i=>λT ρ σ=>pT σ (jJ T t x i ρ)
 | op=>λT ρ σ=>pT σ (fK T op ρ)
def mL(T:XT)(op:Op)(ρ:Operand->Option A)(σ:XS):XR:=rS op T ρ σ
inductive CR where
 | val (a:A) (σ:XS)
 | pan (a:A) (σ:XS)
 | bad
inductive OR where
 | ok (ε:Tr A) (σ:XS)
 | pan (a:A) (σ:XS)
 | bad
inductive CO where
 | ok (x:XK) (ε:Tr A) (σ:XS)
 | bad
def qW(n:Nat)(dst:Option Tmp)(ε:Tr A)(v:A):Option (Tr A):=match dst with
 | none=>some ε
 | some d=>match Nat.blt d n with
  | true=>some (ε.st d v)
  | false=>none
def doX(T:XT)(F:FuncId->List A->XS->CR)(n:Nat)(dst:Option Tmp)(op:Op)(ε:Tr A)(σ:XS):OR :=
 match mL T op (mJ T ε) σ with
 | .val a h=>match qW n dst ε a with
  | some u=>.ok u h
  | none=>.bad
 | .pan a h=>.pan a h
 | .call f az=>match F f az σ with
  | .val a h=>match qW n dst ε a with
   | some u=>.ok u h
   | none=>.bad
  | .pan a h=>.pan a h
  | .bad=>.bad
 | .bad=>.bad
def vS(T:XT)(F:FuncId->List A->XS->CR)(n:Nat)(ds:List (Option Tmp))(o:Oper)(ε:Tr A)(σ:XS):OR :=
 match o.guard with
 | none=>doX T F n o.dst o.op ε σ
 | some (j,u)=>match kI ds j with
  | none=>.bad
  | some t=>match ε.gt t with
   | some (.bool b)=>match b == u with
    | true=>doX T F n o.dst o.op ε σ
    | false=>match qW n o.dst ε (.tuple [])with
     | some h=>.ok h σ
     | none=>.bad
   | some (.tuple _)=>match qW n o.dst ε (.tuple [])with
    | some h=>.ok h σ
    | none=>.bad
   | _=>.bad
def aC3(T:XT)(F:FuncId->List A->XS->CR)(n:Nat)(ds:List (Option Tmp)):List Oper->Tr A->XS->OR
 | [],ε,σ=>.ok ε σ
 | o::r,ε,σ=>match vS T F n ds o ε σ with
  | .ok h u=>aC3 T F n ds r h u
  | x=>x
def aOg(T:XT)(ε:Tr A)(x:Operand):Option A :=
 Operand.rec (motive:=λ_=>Option A) (λt=>ε.gt t) aA5 (λg=>Option.rec (motive:=λ_=>Option A) none (λcs=>some (.eptr cs 0)) (T.gl g)) (λf=>some (.fn f [] [])) x
theorem aVp(T:XT)(ε:Tr A):aOg T ε=mJ T ε:=by
 funext x;cases x with
 | global g =>
  have h:∀o:Option (List A),Option.rec (motive:=λ_=>Option A) none (λcs=>some (.eptr cs 0)) o=match o with|some cs=>some (.eptr cs 0)|none=>none:=λo=>by cases o<;>rfl
  exact h _
 | _=>rfl
def aFd(n:Nat)(dst:Option Tmp)(ε:Tr A)(v:A)(σ:XS):OR :=
 Option.rec (motive:=λ_=>OR) (.ok ε σ) (λd=>Bool.rec (motive:=λ_=>OR) .bad (.ok (ε.st d v) σ) (Nat.ble (Nat.succ d) n)) dst
theorem aM2(n:Nat)(dst:Option Tmp)(ε:Tr A)(v:A)(σ:XS):aFd n dst ε v σ=match qW n dst ε v with
  | some h=>.ok h σ
  | none=>.bad:=by
 cases dst with
 | none=>rfl
 | some d =>
  show Bool.rec (motive:=λ_=>OR) .bad (.ok (ε.st d v) σ) (Nat.ble (d+1) n)=match(match Nat.ble (d+1) n with|true=>some (ε.st d v)|false=>none)with|some h=>OR.ok h σ|none=>.bad
  cases Nat.ble (d+1) n<;>rfl
def doR(T:XT)(F:FuncId->List A->XS->CR)(n:Nat)(dst:Option Tmp)(op:Op)(ε:Tr A)(σ:XS):OR :=
 XR.rec (motive:=λ_=>OR) (λa h=>aFd n dst ε a h) (λa h=>.pan a h)
  (λf l=>CR.rec (motive:=λ_=>OR) (λa h=>aFd n dst ε a h) (λa h=>.pan a h) .bad (F f l σ)) .bad (mL T op (aOg T ε) σ)
theorem aV8(T:XT)(F:FuncId->List A->XS->CR)(n:Nat)(dst:Option Tmp)(op:Op)(ε:Tr A)(σ:XS):doR T F n dst op ε σ=doX T F n dst op ε σ:=by
 unfold doR doX;rw[aVp];cases mL T op (mJ T ε) σ with
 | val a h=>exact aM2 ..
 | pan a h=>rfl
 | call f l =>
  show CR.rec (motive:=λ_=>OR) (λa h=>aFd n dst ε a h) (λa h=>.pan a h) .bad (F f l σ)=_;simp only;cases F f l σ with
  | val a h=>exact aM2 ..
  | pan a h=>rfl
  | bad=>rfl
 | bad=>rfl
def aE8(T:XT)(F:FuncId->List A->XS->CR)(n:Nat)(ds:List (Option Tmp))(l:List Oper):Tr A->XS->OR :=
 List.rec (motive:=λ_=>Tr A->XS->OR) (λε σ=>.ok ε σ) (λo _ u ε σ=>OR.rec (motive:=λ_=>OR) u (λa h=>.pan a h) .bad
  (Option.rec (motive:=λ_=>OR) (doR T F n o.dst o.op ε σ) (λ_=>vS T F n ds o ε σ) o.guard)) l
theorem aMQ(T:XT)(F:FuncId->List A->XS->CR)(n:Nat)(ds:List (Option Tmp)):∀(l:List Oper) (ε:Tr A) (σ:XS),aE8 T F n ds l ε σ=aC3 T F n ds l ε σ
 | [],_,_=>rfl
 | o::r,ε,σ=>by
  have y:Option.rec (motive:=λ_=>OR) (doR T F n o.dst o.op ε σ) (λ_=>vS T F n ds o ε σ) o.guard=vS T F n ds o ε σ:=by
   cases B:o.guard with
   | none=>unfold vS;rw[B];exact aV8 ..
   | some x=>rfl
  have z:aE8 T F n ds (o::r) ε σ=OR.rec (motive:=λ_=>OR) (aE8 T F n ds r) (λa h=>.pan a h) .bad (Option.rec (motive:=λ_=>OR) (doR T F n o.dst o.op ε σ) (λ_=>vS T F n ds o ε σ) o.guard):=rfl;rw[z,y,aC3];cases vS T F n ds o ε σ with
  | ok u h=>exact aMQ T F n ds r u h
  | pan a h=>rfl
  | bad=>rfl
def pS(f:A->A->Bool):List A->List A->Bool
 | [],[]=>true
 | a::l,b::m=>f a b&&pS f l m
 | _,_=>false
def pR:Nat->A->A->Bool
 | 0,_,_=>false
 | _+1,.int k a,.int j b=>decide (k=j)&&decide (a=b)
 | _+1,.bool a,.bool b=>a == b
 | _+1,.str a,.str b=>decide (a=b)
 | _+1,.ptr a o,.ptr b p=>Nat.beq a b&&Nat.beq o p
 | f+1,.eptr a o,.eptr b p=>pS (pR f) a b&&Nat.beq o p
 | _+1,.nilp,.nilp=>true
 | _+1,.nils,.nils=>true
 | f+1,.list t a,.list u b=>decide (t=u)&&pS (pR f) a b
 | f+1,.agg a,.agg b=>pS (pR f) a b
 | f+1,.fn i a c,.fn j b d=>decide (i=j)&&pS (pR f) a b&&pS (pR f) c d
 | _+1,.nilf,.nilf=>true
 | f+1,.iface t a,.iface u b=>decide (t=u)&&pR f a b
 | _+1,.nili,.nili=>true
 | f+1,.tuple a,.tuple b=>pS (pR f) a b
 | _+1,.ml a o m,.ml b p n=>Nat.beq a b&&Nat.beq o p&&Nat.beq m n
 | _+1,.emp,.emp=>true
 | f+1,.sd t a,.sd u b=>decide (t=u)&&pS (pR f) a b
 | _+1,.gr t m,.gr u n=>Nat.beq t u&&Nat.beq m n
 | f+1,.hl a,.hl b=>pR f a b
 | f+1,.pen t a m,.pen u b n=>Nat.beq t u&&pS (pR f) a b&&Nat.beq m n
 | _+1,.rm t m k,.rm u n l=>Nat.beq t u&&Nat.beq m n&&Nat.beq k l
 | _,_,_=>false
def xZ(a b:A):Bool:=pR 60 a b
theorem aHv{f:A->A->Bool}(u:∀a b,f a b=true->a=b):∀l m,pS f l m=true->l=m
 | [],[],_=>rfl
 | a::l,b::m,h=>by
  simp only[pS,aY]at h;rw[u _ _ h.1,aHv u l m h.2]
 | [],_::_,h=>by simp[pS]at h
 | _::_,[],h=>by simp[pS]at h
theorem uW:∀(f:Nat) (a b:A),pR f a b=true->a=b
 | 0,a,b,h=>by simp[pR]at h
 | f+1,a,b,h=>by
  have u:=aHv (uW f);cases a<;>cases b<;>simp only[pR,aY,bR,beq_iff_eq,cV]at h
  case int=>rw[h.1,h.2]
  case bool=>rw[h]
  case str=>rw[h]
  case ptr=>rw[cQ h.1,cQ h.2]
  case eptr=>rw[u _ _ h.1,cQ h.2]
  case nilp=>rfl
  case nils=>rfl
  case list=>rw[h.1,u _ _ h.2]
  case agg=>rw[u _ _ h]
  case fn=>rw[h.1.1,u _ _ h.1.2,u _ _ h.2]
  case nilf=>rfl
  case iface=>rw[h.1,uW f _ _ h.2]
  case nili=>rfl
  case tuple=>rw[u _ _ h]
  case ml=>rw[cQ h.1.1,cQ h.1.2,cQ h.2]
  case emp=>rfl
  case sd=>rw[h.1,u _ _ h.2]
  case gr=>rw[cQ h.1,cQ h.2]
  case hl=>rw[uW f _ _ h]
  case pen=>rw[cQ h.1.1,u _ _ h.1.2,cQ h.2]
  case rm=>rw[cQ h.1.1,cQ h.1.2,cQ h.2]
def aC0:Ob->Ob->Bool
 | .cells e a,.cells f b=>Nat.beq e f&&pS xZ a b
 | .iter x p,.iter y q=>decide (x=y)&&Nat.beq p q
 | _,_=>false
theorem aUY(a b:Ob)(h:aC0 a b=true):a=b:=by
 cases a<;>cases b<;>simp only[aC0,aY,bR,cV]at h
 .rw[cQ h.1,aHv (uW 60) _ _ h.2]
 .rw[h.1,cQ h.2]
def aBl{h:Type}(f:h->h->Bool):Option h->Option h->Bool
 | none,none=>true
 | some a,some b=>f a b
 | _,_=>false
def qT{h:Type}(f:h->h->Bool):Tr h->Tr h->Bool
 | .lf,.lf=>true
 | .nd l v r,.nd u z y=>qT f l u&&aBl f v z&&qT f r y
 | _,_=>false
theorem aMs{u:Type}{f:u->u->Bool}(y:∀a b,f a b=true->a=b)(a b:Option u)(h:aBl f a b=true):a=b:=by
 cases a<;>cases b<;>simp only[aBl,cV]at h
 .rfl
 .rw[y _ _ h]
theorem aCp{z:Type}{f:z->z->Bool}(y:∀a b,f a b=true->a=b):∀(t u:Tr z),qT f t u=true->t=u
 | .lf,.lf,_=>rfl
 | .nd l v r,.nd B H G,h=>by
  simp only[qT,aY]at h;rw[aCp y l B h.1.1,aMs y v H h.1.2,aCp y r G h.2]
 | .lf,.nd ..,h=>by simp[qT]at h
 | .nd ..,.lf,h=>by simp[qT]at h
def aIc:OR->OR->OR
 | .ok ε σ,.ok u h=>match qT xZ ε u&&qT aC0 σ.bx h.bx&&qT (λa b=>decide (a=b)) σ.tk h.tk&&Nat.beq σ.lim h.lim&&aBl (λa b=>Nat.beq a.1 b.1&&Nat.beq a.2.1 b.2.1&&xZ a.2.2 b.2.2) σ.ls h.ls with
  | true=>.ok ε σ
  | false=>.bad
 | .pan a σ,.pan b h=>match xZ a b&&qT aC0 σ.bx h.bx&&qT (λa b=>decide (a=b)) σ.tk h.tk&&Nat.beq σ.lim h.lim&&aBl (λa b=>Nat.beq a.1 b.1&&Nat.beq a.2.1 b.2.1&&xZ a.2.2 b.2.2) σ.ls h.ls with
  | true=>.pan a σ
  | false=>.bad
 | _,_=>.bad
abbrev WX:=List (Nat × (TypeId × Nat × Nat × A))
def aCF(T:XT)(t:TypeId)(b o:Nat)(σ:XS):Option A:=match σ.bx.gt b with
 | some (.cells _ cs)=>sM T t cs o
 | _=>none
def ckX(T:XT)(h:List Nat)(σ:XS):WX->Bool
 | []=>true
 | (m,t,b,o,v)::W=>(match h.elem m with
  | true=>(match aCF T t b o σ with
   | some u=>xZ u v
   | none=>false)
  | false=>true)&&ckX T h σ W
inductive SR where
 | ok (W:WX) (ε:Tr A) (σ:XS)
 | pan (a:A) (σ:XS)
 | bad
def uA(n:Nat)(dst:Option Tmp)(W:WX)(ε:Tr A)(σ:XS)(a:A):SR:=match qW n dst ε a with
 | some h=>.ok W h σ
 | none=>.bad
def aId(n:Nat)(dst:Option Tmp)(W:WX)(ε:Tr A)(σ:XS):Option A->SR
 | some v=>uA n dst W ε σ v
 | none=>.bad
def aCU(T:XT)(n:Nat)(i:Nat)(dst:Option Tmp)(op:Op)(W:WX)(ε:Tr A)(σ:XS):SR :=
 match op with
 | .load t x=>match mJ T ε x with
  | some (.ptr b o)=>match aCF T t b o σ with
   | some v=>uA n dst ((i,t,b,o,v)::W) ε σ v
   | none=>.bad
  | some (.eptr cs o)=>match sM T t cs o with
   | some v=>uA n dst W ε σ v
   | none=>.bad
  | _=>.bad
 | op=>aId n dst W ε σ (fK T op (mJ T ε))
def aIq(T:XT)(F:FuncId->List A->XS->CR)(n:Nat)(u:List Nat)(dst:Option Tmp)(op:Op)(W:WX)(ε:Tr A)(σ:XS):SR :=
 match mL T op (mJ T ε) σ with
 | .val a h=>match ckX T u h W with
  | true=>uA n dst W ε h a
  | false=>.bad
 | .pan a h=>.pan a h
 | .call f az=>match F f az σ with
  | .val a h=>match ckX T u h W with
   | true=>uA n dst W ε h a
   | false=>.bad
  | .pan a h=>.pan a h
  | .bad=>.bad
 | .bad=>.bad
def aER(T:XT)(F:FuncId->List A->XS->CR)(n:Nat)(h:List Nat)(i:Nat)(dst:Option Tmp)(op:Op)(W:WX)(ε:Tr A)(σ:XS):SR :=
 match iI op with
 | true=>aIq T F n h dst op W ε σ
 | false=>aCU T n i dst op W ε σ
def xT(T:XT)(F:FuncId->List A->XS->CR)(n:Nat)(ds:List (Option Tmp))(u:List Nat)(i:Nat)(o:Oper)(W:WX)(ε:Tr A)(σ:XS):SR :=
 match o.guard with
 | none=>aER T F n u i o.dst o.op W ε σ
 | some (j,h)=>match kI ds j with
  | none=>.bad
  | some t=>match ε.gt t with
   | some (.bool b)=>match b == h with
    | true=>aER T F n u i o.dst o.op W ε σ
    | false=>uA n o.dst W ε σ (.tuple [])
   | some (.tuple _)=>uA n o.dst W ε σ (.tuple [])
   | _=>.bad
def aEN(T:XT)(ε:Tr A)(a b:Oper):Bool :=
 match a.dst,a.guard,a.op,b.dst,b.guard,b.op with
 | none,none,.store _ x _,none,none,.store _ u y=>match mJ T ε x,mJ T ε u,mJ T ε y with
  | some (.rm k m z),some (.ptr _ _),some (.pen h es B)=>Nat.beq k h&&Nat.beq m es.length&&Nat.beq z B
  | _,_,_=>false
 | _,_,_,_,_,_=>false
def aAa(T:XT)(F:FuncId->List A->XS->CR)(n:Nat)(ds:List (Option Tmp))(ops:List Oper)(E:List (Nat × List Nat)):OT->WX->Tr A->XS->OR
 | .nil,_,ε,σ=>.ok ε σ
 | .node i r,W,ε,σ=>match jQ ops i with
  | none=>.bad
  | some o=>match xT T F n ds (oH E i) i o W ε σ with
   | .ok y u h=>aAa T F n ds ops E r y u h
   | .pan a h=>.pan a h
   | .bad=>.bad
 | .alt a b,W,ε,σ=>aIc (aAa T F n ds ops E a W ε σ) (aAa T F n ds ops E b W ε σ)
 | .pair i j,W,ε,σ=>match jQ ops i,jQ ops j with
  | some a,some b=>match aEN T ε a b with
   | true=>match xT T F n ds (oH E i) i a W ε σ with
    | .ok y u h=>match xT T F n ds (oH E j) j b y u h with
     | .ok _ u h=>.ok u h
     | .pan a h=>.pan a h
     | .bad=>.bad
    | .pan a h=>.pan a h
    | .bad=>.bad
   | false=>.bad
  | _,_=>.bad
structure FX where
 code:Code
 n:Nat
 rs:List ResultVar
 df:Bool
structure XP where
 T:XT
 fns:FuncId->Option FX
 ext:FuncId->Option (List A->XS->CR)
 ord:Nat->Nat->Option (OT × List (Nat × List Nat))
 hd:FuncId
 ft:TypeId
def zU:Nat->List A->Tr A->Tr A
 | _,[],ε=>ε
 | k,a::r,ε=>zU (k+1) r (ε.st k a)
def vU(T:XT)(ε:Tr A)(σ:XS):List ResultVar->Option (List A)
 | []=>some []
 | .tmp t::r=>match ε.gt t,vU T ε σ r with
  | some a,some l=>some (a::l)
  | _,_=>none
 | .cell p t::r=>match ε.gt p,vU T ε σ r with
  | some (.ptr b o),some l=>match σ.bx.gt b with
   | some (.cells _ cs)=>match sM T t cs o with
    | some a=>some (a::l)
    | none=>none
   | _=>none
  | _,_=>none
def vR(X:XP)(h:List ResultVar)(x:XK)(ε:Tr A)(σ:XS):CR:=match x with
 | .normal=>match vU X.T ε σ h with
  | some l=>.val (sQ l) σ
  | none=>.bad
 | .ret=>match vU X.T ε σ h with
  | some l=>.val (sQ l) σ
  | none=>.bad
 | .panic a=>.pan a σ
 | _=>.bad
inductive DO where
 | ok (x:XK) (ε:Tr A) (σ:XS) (d:Option Nat)
 | bad
def aBh(X:XP)(rec:Code->Tr A->XS->CO):Code->Tr A->XS->DO
 | .seq c d,ε,σ=>match aCu c with
  | some (h,x)=>match Nat.beq h X.hd,mJ X.T ε x with
   | true,some (.ptr b 0)=>match rec d ε σ with
    | .ok x ε σ=>.ok x ε σ (some b)
    | .bad=>.bad
   | _,_=>.bad
  | none=>match rec c ε σ with
   | .ok x ε σ=>match x with
    | .normal=>aBh X rec d ε σ
    | x=>.ok x ε σ none
   | .bad=>.bad
 | c,ε,σ=>match rec c ε σ with
  | .ok x ε σ=>.ok x ε σ none
  | .bad=>.bad
def aOd(X:XP)(u:List ResultVar):DO->CR
 | .ok x ε σ d=>match d with
  | none=>vR X u x ε σ
  | some b=>match x with
   | .panic a=>match a with
    | .iface t v=>match v with
     | .agg h=>match σ.bx.gt b with
      | some (.cells e cs)=>match Nat.beq t X.ft&&Nat.beq e X.ft&&Nat.beq h.length cs.length&&(match X.T.tt X.ft with|some y=>Nat.beq y.sz h.length|none=>false)with
       | true=>vR X u .ret ε ((σ.newO (.cells e h)).setO b (.cells e h))
       | false=>.bad
      | _=>.bad
     | _=>.bad
    | _=>.bad
   | x=>vR X u x ε σ
 | .bad=>.bad
def xF(X:XP)(rec:FuncId->Nat->Code->Tr A->XS->CO)(f:FuncId)(az:List A)(σ:XS):CR :=
 match X.ext f with
 | some h=>h az σ
 | none=>match X.fns f with
  | none=>.bad
  | some u=>match Nat.ble az.length u.n with
   | true=>match u.df with
    | false=>match rec f u.n u.code (zU 0 az .lf) σ with
     | .ok x y z=>vR X u.rs x y z
     | .bad=>.bad
    | true=>aOd X u.rs (aBh X (rec f u.n) u.code (zU 0 az .lf) σ)
   | false=>.bad
def xW:List (Option Tmp)->Tr A->Tr A
 | [],ε=>ε
 | none::r,ε=>xW r ε
 | some d::r,ε=>xW r (ε.del d)
theorem aHi:∀(ds:List (Option Tmp)) (ε:Tr A) (t:Nat),(xW ds ε).gt t=if ds.elem (some t) then none else ε.gt t
 | [],ε,t=>by simp[xW]
 | none::r,ε,t=>by
  simp only[xW,aHi r,List.elem_cons];rfl
 | some d::r,ε,t=>by
  simp only[xW,aHi r,aKI,List.elem_cons];by_cases h:d=t
  .subst h;simp
  .have u:(some t == some d)=false:=by simp;exactλe=>h e.symm
   simp[h,u]
def aIr(ds:List (Option Tmp))(h:Tr A):OR->CO
 | .ok ε σ=>.ok .normal ε σ
 | .pan a σ=>.ok (.panic a) (xW ds h) σ
 | .bad=>.bad
def aES(r:CO)(k:Tr A->XS->CO):CO:=match r with
 | .ok x ε σ=>match x with
  | .normal=>k ε σ
  | x=>.ok x ε σ
 | .bad=>.bad
def aIo(i:Nat)(r:CO):CO:=match r with
 | .ok x ε σ=>match x with
  | .exit j=>match Nat.beq j i with
   | true=>.ok .normal ε σ
   | false=>.ok (.exit j) ε σ
  | x=>.ok x ε σ
 | .bad=>.bad
def aNM(a:Option A)(k:Bool->CO):CO:=match a with
 | some (.bool b)=>k b
 | _=>.bad
def aNN(X:XP)(F:FuncId->List A->XS->CR)(h n id:Nat)(ops:Array Oper)(ε:Tr A)(σ:XS):CO:=match X.ord h id with
 | some (t,E)=>aIr (ops.toList.map (·.dst)) ε (aAa X.T F n (ops.toList.map (·.dst)) ops.toList E t [] ε σ)
 | none=>.bad
abbrev aN9:=FuncId->Nat->Code->Tr A->XS->CO
def aOj(X:XP)(rec:aN9)(u n id:Nat)(ops:Array Oper)(h:Bool)(ε:Tr A)(σ:XS):CO:=match h with
 | false=>aIr (ops.toList.map (·.dst)) ε (aE8 X.T (xF X rec) n (ops.toList.map (·.dst)) ops.toList ε σ)
 | true=>aNN X (xF X rec) u n id ops ε σ
def aH6(c:Code):XP->aN9->FuncId->Nat->Tr A->XS->CO:=match c with
 | .skip=>λ_ _ _ _ ε σ=>.ok .normal ε σ
 | .label _=>λ_ _ _ _ ε σ=>.ok .normal ε σ
 | .exit i=>λ_ _ _ _ ε σ=>.ok (.exit i) ε σ
 | .goto i=>λ_ _ _ _ ε σ=>.ok (.goto i) ε σ
 | .ret=>λ_ _ _ _ ε σ=>.ok .ret ε σ
 | .seq c d=>λ_ rec h n ε σ=>aES (rec h n c ε σ) (rec h n d)
 | .block i c=>λ_ rec h n ε σ=>aIo i (rec h n c ε σ)
 | .cond c x y=>λX rec h n ε σ=>aNM (mJ X.T ε c) (λb=>match b with
  | true=>rec h n x ε σ
  | false=>rec h n y ε σ)
 | .region id ops u=>λX rec h n ε σ=>aOj X rec h n id ops u ε σ
 | .loop c=>λ_ rec h n ε σ=>aES (rec h n c ε σ) (rec h n (.loop c))
 | _=>λ_ _ _ _ _ _=>.bad
def sH(X:XP):Nat->FuncId->Nat->Code->Tr A->XS->CO
 | 0,_,_,_,_,_=>.bad
 | f+1,h,n,c,ε,σ=>aH6 c X (sH X f) h n ε σ
def aIw(X:XP)(fuel:Nat)(f:FuncId)(az:List A):CR:=xF X (sH X fuel) f az ⟨.lf,.lf,0,none⟩
end
section
noncomputable section
structure Sim (s:St) (σ:XS):Prop where
 ob:∀b,s.getO b=σ.bx.gt b
 tk:∀t,s.getT t=σ.tk.gt t
 lim:s.lim=σ.lim
 ls:s.ls=σ.ls
def SimE(e:Env)(ε:Tr A):Prop:=∀t,e.get t=ε.gt t
theorem Sim.newO{s:St}{σ:XS}(h:Sim s σ)(o:Ob):Sim (s.newO o) (σ.newO o) :=
 ⟨λb=>by rw[aAm];simp only[XS.newO,aAN];rw[h.lim,h.ob],λt=>by exact h.tk t,by simp only[St.newO,XS.newO,h.lim],h.ls⟩
theorem Sim.newT{s:St}{σ:XS}(h:Sim s σ)(o:Nat × TypeId):Sim (s.newT o) (σ.newT o) :=
 ⟨λb=>by exact h.ob b,λt=>by rw[aDr];simp only[XS.newT,aAN];rw[h.lim,h.tk],by simp only[St.newT,XS.newT,h.lim],h.ls⟩
theorem Sim.setO{s:St}{σ:XS}(h:Sim s σ)(b:Nat)(o:Ob):Sim (s.setO b o) (σ.setO b o) :=
 ⟨λc=>by rw[aX];simp only[XS.setO,aAN];rw[h.ob],λt=>by exact h.tk t,h.lim,h.ls⟩
theorem Sim.setT{s:St}{σ:XS}(h:Sim s σ)(b:Nat)(o:Nat × TypeId):Sim (s.setT b o) (σ.setT b o) :=
 ⟨λc=>by exact h.ob c,λt=>by rw[fE];simp only[XS.setT,aAN];rw[h.tk],h.lim,h.ls⟩
theorem Sim.setL{s:St}{σ:XS}(h:Sim s σ)(x:Option (Nat × Nat × A)):Sim (s.setL x) (σ.setL x):=⟨h.ob,h.tk,h.lim,rfl⟩
theorem Sim.delT{s:St}{σ:XS}(h:Sim s σ)(t:Nat):Sim (s.delT t) (σ.delT t) :=
 ⟨fun c => by exact h.ob c,fun u => by
  rw[wF];simp only[XS.delT,aKI,h.tk];by_cases y:u=t
  .subst y;simp
  .have:¬ t=u:=λe=>y e.symm
   simp[y,this],h.lim,h.ls⟩
theorem SimE.put{e:Env}{ε:Tr A}(h:SimE e ε)(d:Nat)(v:A):SimE (e.put d v) (ε.st d v):=λt=>by
 rw[lX,aAN,h t]
def XR.to(C:Cx)(s:St)(KV Kp:St->A->Prop):XR->Prop
 | .val a h=>∀s',Sim s' h->KV s' a
 | .pan a h=>∀s',Sim s' h->Kp s' a
 | .call f az=>Den C f az KV Kp s
 | .bad=>False
def CR.to(KV Kp:St->A->Prop):CR->Prop
 | .val a h=>∀s',Sim s' h->KV s' a
 | .pan a h=>∀s',Sim s' h->Kp s' a
 | .bad=>False
def OR.to(K:Env->St->Prop)(Kp:St->A->Prop):OR->Prop
 | .ok ε σ=>∀e s,SimE e ε->Sim s σ->K e s
 | .pan a σ=>∀s,Sim s σ->Kp s a
 | .bad=>False
def CO.to(Q:XK->Env->St->Prop):CO->Prop
 | .ok x ε σ=>∀e s,SimE e ε->Sim s σ->Q x e s
 | .bad=>False
section
variable {T:XT} {C:Cx} {ρ:Operand->Option A} {s:St} {σ:XS} {KV Kp:St->A->Prop}
theorem aAZ(u:T.ok C){e:Env}{ε:Tr A}(h:SimE e ε):dN C e=mJ T ε:=by
 funext x;cases x with
 | tmp t=>exact h t
 | const v=>rfl
 | global g =>
  simp only[dN,mJ,u.gl];cases C.gl g<;>rfl
 | func f=>rfl
theorem aMO(y:T.ok C)(z:Sim s σ){op:Op}(h:(pT σ (fK T op ρ)).to C s KV Kp):aT C op ρ KV Kp s:=by
 cases u:fK T op ρ with
 | none=>rw[u]at h;exact h.elim
 | some v =>
  rw[u]at h;exact aAT (aCq y u (h s z))
theorem aVN(B:T.ok C){G:TI}{u e:TypeId}(h:aIy T G u=some e):aBt C G u=some e:=by
 unfold aIy at h;split at h
 .rename_i M H;split at h
  .rename_i S O z y;simp only[aBt,H,B.tt _ _ z,B.tt _ _ y];exact h
  .cases h
 .cases h
theorem aTp(B:C.det=true)(u:Sim s σ){e:TypeId}{bs:List UInt8}{a:A}(h:(aH5 σ e bs a).to C s KV Kp):zR C s e bs KV a:=by
 cases a<;>simp only[aH5]at h<;>try exact h.elim
 case nils =>
  split at h
  .rename_i hl;refine⟨eQ hl,?_⟩;have:=h _ (u.newT (bs.length,e));simp only[newT,B,u.lim];exact this
  .exact h.elim
 case list tk es =>
  cases tk with
  | none=>exact h.elim
  | some H =>
   simp only at h;split at h
   .rename_i n e' G;split at h
    .rename_i hl;simp only[aY]at hl;have y:=cQ hl.1.1.1;have z:=cQ hl.1.1.2;subst y z;exact⟨⟨by rw[u.tk];exact G,aAy hl.1.2,eQ hl.2⟩,h _ (u.setT _ _)⟩
    .exact h.elim
   .exact h.elim
theorem aTn(G:T.ok C)(S:C.det=true)(H:Sim s σ){M:TI}{u:TypeId}{n:Int}{a:A}(h:(aH3 T σ M u n a).to C s KV Kp):rN C s M u n KV a:=by
 cases a<;>simp only[aH3]at h<;>try exact h.elim
 split at h
 .rename_i e U;split at h
  .rename_i Y Z z B;split at h
   .rename_i k y;split at h
    .rename_i O;simp only[rN,U,G.tt _ _ z,G.tt _ _ B,y];refine⟨O,?_⟩;have:=h _ (H.newT (0,e));simp only[zZ,S,H.lim];exact this
    .exact h.elim
   .exact h.elim
  .exact h.elim
 .exact h.elim
theorem aLu(G:T.ok C)(M:Sim s σ){B:TI}{t u:TypeId}{a:A}(h:(aEE T σ B t u a).to C s KV Kp):vQ C s B t u KV a:=by
 unfold aEE at h;split at h
 .rename_i e H;split at h
  .rename_i S y;split at h
   .rename_i O;have z:=cQ O;split at h
    all_goals first
     | exact h.elim
     | (simp only[vQ,H,G.tt _ _ y];exact⟨z,h s M⟩)
   .exact h.elim
  .exact h.elim
 .exact h.elim
theorem aTo(Z:T.ok C)(M:C.det=true)(G:Sim s σ){O:TI}{t u:TypeId}{z a:A}(h:(aH4 T σ O t u z a).to C s KV Kp):vP C s O t u z KV a:=by
 unfold aH4 at h;split at h
 .rename_i e hk;split at h
  .rename_i te H;split at h
   .rename_i y;simp only[aY,fV]at y;simp only[vP,hk,Z.tt _ _ H];refine⟨⟨cQ y.1.1.1,(λY=>by have:=y.1.1.2;rw[Y]at this;cases this),eQ y.1.2,cQ y.2⟩,?_⟩;split at h
    .have:=h _ (G.newT (0,e));simp only[sP,M,G.lim];exact this
    .split at h
     .split at h
      .rename_i n e' hn;split at h
       .rename_i hl;simp only[aY]at hl;have S:=cQ hl.1.1.1;have U:=cQ hl.1.1.2;subst S U;refine⟨⟨by rw[G.tk];exact hn,aAy hl.1.2,eQ hl.2⟩,?_⟩;have:=h _ ((G.delT _).newT _);have B:∀q,(s.delT q).lim=σ.lim:=λ_=>G.lim
        simp only[sP,M,B];exact this
       .exact h.elim
      .exact h.elim
     .exact h.elim
    .exact h.elim
   .exact h.elim
  .exact h.elim
 .exact h.elim
theorem aVy(h:Sim s σ)(a:A):iM s a=aIt σ a:=by
 cases a<;>try rfl
 simp only[iM,aIt,h.ls];cases σ.ls<;>rfl
theorem aWu(H:T.ok C)(B:Sim s σ){k n z:Nat}{G:TI}{v:A}(h:(rmX T σ k n z G v).to C s KV Kp):rT C s k n z G v KV:=by
 unfold rmX at h;split at h
 .rename_i m e M;split at h
  .rename_i O y;split at h
   .rename_i u;simp only[aY]at u;simp only[rT,B.tk k,M,H.tt _ _ y];exact⟨⟨cQ u.1.1.1.1,cQ u.1.1.1.2,cQ u.1.1.2,cQ u.1.2,u.2⟩,h _ ((B.setT _ _).setL _)⟩
   .exact h.elim
  .exact h.elim
 .exact h.elim
theorem aNi(H:T.ok C)(hd:C.det=true)(G:Sim s σ){op:Op}(h:(mL T op ρ σ).to C s KV Kp):aT C op ρ KV Kp s:=by
  have nb:∀o:Ob,KV (s.newO o) (.ptr σ.lim 0)->oN C s o (λb=>.ptr b 0) KV:=λo h=>by
    simp only[oN,hd,G.lim];exact h
  cases op
  case load t x =>
    simp only[mL,rS,aNI]at h;split at h
    · rename_i b o M
      split at h
      · rename_i e0 cs hb
        cases Y:sM T t cs o with
        | none=>rw[Y]at h;exact h.elim
        | some v =>
          rw[Y]at h;simp only[aT,M,G.ob b,hb,aAP H Y];exact h s G
      · exact h.elim
    · rename_i cs o M
      cases Y:sM T t cs o with
      | none=>rw[Y]at h;exact h.elim
      | some v =>
        rw[Y]at h;simp only[aT,M,bH,aAP H Y];exact h s G
    · exact h.elim
  case store t x y =>
    simp only[mL,rS,aNc]at h;split at h
    · rename_i b o v Z M S B
      split at h
      · rename_i e0 cs hb
        unfold stX at h;split at h
        · rename_i O
          simp only[aY]at O;simp only[aT,M,S,H.tt _ _ B,G.ob b,hb,aVy G];exact⟨⟨cQ O.1.1,eQ O.1.2,O.2⟩,h _ (G.setO _ _)⟩
        · exact h.elim
      · exact h.elim
    · rename_i k n z v Z M S B
      simp only[aT,M,S,H.tt _ _ B];exact aWu H G h
    · exact h.elim
  case alloc t =>
    simp only[mL,rS,aM9]at h;split at h
    · rename_i Z B
      simp only[aT,H.tt _ _ B,zY];exact nb _ (h _ (G.newO _))
    · exact h.elim
  case box t x =>
    simp only[mL,rS,aN6]at h;split at h
    · rename_i v Y
      split at h
      · rename_i h1
        simp only[aT,Y,zY];exact⟨h1,nb _ (h _ (G.newO _))⟩
      · exact h.elim
    · exact h.elim
  case buildSlice t len b2 =>
    simp only[mL,rS,aN7]at h;have ho:aBq C=true:=by unfold aBq;rw[hd]
    split at h
    · rename_i a ha
      have b4:fK T (.buildSlice t len b2) ρ=some a:=ha;simp only[aT,ho];split at h
      · split at h
        · rename_i Z B
          split at h
          · rename_i e hk
            refine .inr (aCq H b4 ?_);simp only[xV,H.tt _ _ B,hk,newT,hd,G.lim];exact h _ (G.newT _)
          · exact h.elim
        · exact h.elim
      · exact .inl (aCq H b4 (h s G))
    · exact h.elim
  case convert a b x =>
    simp only[mL,rS,cvX]at h;split at h
    · rename_i k M
      split at h
      · rename_i e cs e' hb hcv
        rw[H.cv]at hcv;split at h
        · rename_i te U
          split at h
          · rename_i O
            obtain⟨rfl,O⟩:=O;simp only[aT,M,G.ob k,hb,hcv,H.tt _ _ U];exact⟨⟨.inl trivial,O⟩,h s G⟩
          · exact h.elim
        · exact h.elim
      · exact h.elim
    · rename_i b8
      have key:bH C (.convert a b x) ρ (KV s):=by
        split at h
        · rename_i v Y;exact aCq H Y (h s G)
        · exact h.elim
      simp only[aT];exact key
  case makeSlice t l c =>
    simp only[mL,rS,aNJ]at h;split at h
    · rename_i kl n kc m Z hl O B
      split at h
      · rename_i e hk
        split at h
        · rename_i te U
          split at h
          · rename_i b1
            simp only[aT,hl,O,H.tt _ _ B,hk,H.tt _ _ U];refine⟨b1,?_⟩;simp only[oN,hd,G.lim];exact h _ (G.newO _)
          · exact h.elim
        · exact h.elim
      · exact h.elim
    · exact h.elim
  case panic x =>
    simp only[mL,rS,aNa]at h;split at h
    · rename_i t a M
      simp only[aT,M];exact h s G
    · exact h.elim
  case range t x =>
    simp only[mL,rS,aNb]at h;split at h
    · rename_i x' Z M B
      split at h
      · rename_i hk
        simp only[aT,M,H.tt _ _ B,hk,aOf];exact nb _ (h _ (G.newO _))
      · exact h.elim
    · exact h.elim
  case next x str =>
    simp only[mL,rS,aNK]at h;split at h
    · split at h
      · rename_i b M
        split at h
        · rename_i x' pos hb
          simp only[aT,M,G.ob b,hb,aCQ];split at h
          · rename_i hp
            rw[aF (by simpa [Nat.blt_eq]using hp)];exact h _ (G.setO _ _)
          · rename_i hp
            rw [aE (λb6=>Bool.false_ne_true (hp.symm.trans (show Nat.blt pos x'.length = true by rw [Nat.blt_eq]; exact b6)))]
            exact h s G
        · exact h.elim
      · exact h.elim
    · exact h.elim
  case call c =>
    obtain⟨b3,args,b0⟩:=c;obtain⟨args⟩:=args;obtain⟨b0⟩:=b0;have keep:=λh'=>aMO (KV:=KV) (Kp:=Kp) (op:=.call ⟨b3,⟨args⟩,⟨b0⟩⟩) (ρ:=ρ) H G h'
    simp only[mL,rS,aNH,xcF,aN5,aN2,aN4,aN3]at h;cases b3 with
    | value f =>
      simp only at h;split at h
      · rename_i f' first b7 az hf has
        simp only[aT,hf,has];exact h
      · exact h.elim
    | invoke r m=>exact keep h
    | builtin b =>
      cases b
      case append =>
        simp only at h;split at h
        · rename_i x y t u
          split at h
          · rename_i a tk ys Z M S B
            split at h
            · rename_i e hk
              split at h
              · rename_i te U
                split at h
                · rename_i O
                  simp only[aY,fV]at O;simp only[aT,M,S,H.tt _ _ B,hk,H.tt _ _ U];have h0:te.sz≠0:=λe0=>by rw[e0]at O;exact cG O.1.1.2 cT
                  refine⟨⟨cQ O.1.1.1,h0,eQ O.1.2⟩,aAy O.2,?_⟩;unfold oL;split at h
                  · split at h
                    · rename_i hl
                      refine⟨eQ hl,?_⟩;have:=h _ (G.newT (ys.length,e));simp only[nO,newT,hd,G.lim];exact this
                    · exact h.elim
                  · split at h
                    · rename_i hl
                      simp only[aY]at hl;have b5:0<ys.length:=by have:=hl.2;rwa[Nat.blt_eq]at this
                      obtain⟨y0,r0,rfl⟩:∃y0 r0,ys=y0::r0:=by
                        cases ys with
                        | nil=>exact cG b5 (Nat.lt_irrefl _)
                        | cons y r=>exact⟨y,r,rfl⟩
                      refine⟨⟨eQ hl.1,b5⟩,?_⟩;have:=h _ (G.newT ((y0::r0).length,e));simp only[nO,newT,hd,G.lim];exact this
                    · exact h.elim
                  · rename_i t' es
                    split at h
                    · rename_i n e' hn
                      split at h
                      · rename_i hl
                        simp only[aY]at hl;have e1:=cQ hl.1.1.1;have e2:=cQ hl.1.1.2;subst e1 e2;exact⟨by rw[G.tk];exact hn,aAy hl.1.2,eQ hl.2,h _ (G.setT _ _)⟩
                      · exact h.elim
                    · exact h.elim
                  · exact h.elim
                · exact h.elim
              · exact h.elim
            · exact h.elim
          · rename_i a bs Z M S B
            split at h
            · rename_i e hE
              simp only[aT,M,S,H.tt _ _ B,aVN H hE];exact aTp hd G h
            · exact h.elim
          · rename_i a n Z M S B
            simp only[aT,M,S,H.tt _ _ B];exact aTn H hd G h
          · rename_i a Z M S B
            simp only[aT,M,S,H.tt _ _ B];exact aLu H G h
          · rename_i a Z M S B
            simp only[aT,M,S,H.tt _ _ B];exact aLu H G h
          · rename_i a z Z M S B
            simp only[aT,M,S,H.tt _ _ B];exact aTo H hd G h
          · exact h.elim
        · exact h.elim
      case unsafeString =>
        simp only at h;split at h
        · rename_i p n pt u
          split at h
          · rename_i a b hp hn
            unfold aOm at h;split at h
            · rename_i m
              split at h
              · rename_i h0
                simp only[aT,hp,hn];exact⟨h0,h s G⟩
              · exact h.elim
            · rename_i t es m
              split at h
              · rename_i e he
                split at h
                · rename_i q e' hq
                  split at h
                  · rename_i O
                    obtain⟨rfl,rfl,rfl⟩:=O;split at h
                    · rename_i bs hb
                      simp only[aT,hp,hn];rw[H.us]at he;simp only[he];exact⟨⟨trivial,by rw[G.tk];exact hq⟩,bs,aKj _ _ hb,h _ (G.delT _)⟩
                    · exact h.elim
                  · exact h.elim
                · exact h.elim
              · exact h.elim
            · exact h.elim
          · exact h.elim
        · exact h.elim
      case panic =>
        simp only at h;split at h
        · rename_i x
          split at h
          · rename_i t a M
            simp only[aT,M];exact h s G
          · exact h.elim
        · exact h.elim
      all_goals exact keep h
  all_goals exact aMO H G h
theorem aEj{n:Nat}{dst:Option Tmp}{e:Env}{ε u:Tr A}{a:A}{K:Env->St->Prop}(z:SimE e ε)(h:qW n dst ε a=some u)(y:∀e',SimE e' u->K e' s):cH n dst K e s a:=by
 unfold qW at h;cases dst with
 | none=>simp only[bM]at h;subst h;exact y e z
 | some d =>
  simp only at h;split at h
  .rename_i B;simp only[bM]at h;subst h;exact⟨by simpa [Nat.blt_eq]using B,y _ (z.put d a)⟩
  .cases h
def vW(C:Cx)(F:FuncId->List A->XS->CR):Prop:=∀f az σ s KV Kp,Sim s σ->(F f az σ).to KV Kp->Den C f az KV Kp s
variable {F:FuncId->List A->XS->CR} {n:Nat} {e:Env} {ε:Tr A} {K:Env->St->Prop}
theorem aHQ(S:T.ok C)(Y:C.det=true)(hF:vW C F)(M:SimE e ε)(U:Sim s σ){dst:Option Tmp}{op:Op}(h:(doX T F n dst op ε σ).to K Kp) :
  aT C op (dN C e) (cH n dst K e) Kp s:=by
 rw[aAZ S M];refine aNi S Y U ?_;unfold doX at h;cases G:mL T op (mJ T ε) σ with
 | val a B =>
  rw[G]at h;simp only at h;cases y:qW n dst ε a with
  | none=>rw[y]at h;exact h.elim
  | some O=>rw[y]at h;exactλs' z=>aEj M y λe' u=>h e' s' u z
 | pan a B=>rw[G]at h;exact h
 | call f az =>
  rw[G]at h;simp only at h;refine hF f az σ s _ _ U ?_;cases H:F f az σ with
  | val a B =>
   rw[H]at h;simp only at h;cases y:qW n dst ε a with
   | none=>rw[y]at h;exact h.elim
   | some O=>rw[y]at h;exactλs' z=>aEj M y λe' u=>h e' s' u z
  | pan a B=>rw[H]at h;exact h
  | bad=>rw[H]at h;exact h.elim
 | bad=>rw[G]at h;exact h.elim
theorem SimE.same{t:Nat}{a:A}(z:SimE e ε)(h:ε.gt t=some a):SimE (e.put t a) ε:=λu=>by
 rw[lX];by_cases y:t=u
 .subst y;simp[h]
 .simp[y,z u]
theorem aMR(S:T.ok C)(U:C.det=true)(hF:vW C F){ds:List (Option Tmp)}:∀(l:List Oper) (e:Env) (s:St) (ε:Tr A) (σ:XS),SimE e ε->Sim s σ ->
  (aC3 T F n ds l ε σ).to K Kp->fI C n ds l K Kp e s
 | [],e,s,ε,σ,H,M,h=>h e s H M
 | ⟨dst,op,ty,pos,after,gd⟩::r,e,s,ε,σ,H,M,h=>by
  have ih:=aMR S U hF (ds:=ds) r
  have next:∀{o:OR},(match o with|.ok z G=>aC3 T F n ds r z G|x=>x).to K Kp->o.to (fI C n ds r K Kp) Kp:=by
   intro o Z;cases o with
   | ok z G=>exactλe' s' y b0=>ih e' s' z G y b0 Z
   | pan a G=>exact Z
   | bad=>exact Z.elim
  have u:=next (o:=vS T F n ds ⟨dst,op,ty,pos,after,gd⟩ ε σ) h
  have B:∀{e:Env},SimE e ε->(match qW n dst ε (.tuple [])with|some z=>OR.ok z σ|none=>.bad).to (fI C n ds r K Kp) Kp->cH n dst (fI C n ds r K Kp) e s (.tuple []):=by
   intro e H h;cases hp:qW n dst ε (.tuple [])with
   | none=>rw[hp]at h;exact h.elim
   | some z=>rw[hp]at h;exact aEj H hp λe' y=>h e' s y M
  cases gd with
  | none=>exact aHQ S U hF H M u
  | some jw =>
   obtain⟨j,O⟩:=jw;simp only[vS]at u;simp only[fI];cases ht:kI ds j with
   | none=>rw[ht]at u;exact u.elim
   | some t =>
    rw[ht]at u;simp only at u⊢;rw[H t];cases Y:ε.gt t with
    | none=>rw[Y]at u;exact u.elim
    | some a =>
     rw[Y]at u;cases a<;>simp only at u⊢
     case bool b =>
      have y:=H.same Y;cases b<;>cases O<;>simp only[beq_self_eq_true,beq_iff_eq,Bool.false_beq,Bool.true_beq,eO,fN]at u⊢
      .exact aHQ S U hF y M u
      .exact B y u
      .exact B y u
      .exact aHQ S U hF y M u
     case tuple l=>exact B H u
     all_goals exact u.elim
end
end
end
section
noncomputable section
section
variable {T:XT} {C:Cx} {s:St} {σ:XS} {KV Kp:St->A->Prop} {F:FuncId->List A->XS->CR} {n:Nat} {e:Env} {ε:Tr A} {K:Env->St->Prop} {E:List (Nat × List Nat)}
def wW(C:Cx)(W:WX):List (Nat × (St->Prop)):=W.map λx=>(x.1,aEx C x.2.1 x.2.2.1 x.2.2.2.1 x.2.2.2.2)
theorem aK4(u:T.ok C)(z:Sim s σ){t:TypeId}{b o:Nat}{v:A}(h:aCF T t b o σ=some v):sL C t b o s=some v:=by
 unfold aCF at h;split at h
 .rename_i cs y;simp only[sL,z.ob b,y];exact aAP u h
 .cases h
theorem aNf(z:T.ok C)(B:Sim s σ){G:List Nat}:∀{W:WX},ckX T G σ W=true->vZ G s (wW C W)
 | [],_=>trivial
 | (m,t,b,o,v)::W,h=>by
  simp only[ckX,aY]at h;refine⟨?_,aNf z B h.2⟩;split
  .rename_i H;have y:=h.1;rw[H]at y;simp only at y;split at y
   .rename_i u M;have:=uW 60 _ _ y;subst this;exact aK4 z B M
   .cases y
  ·trivial
def SR.to(C:Cx)(next:List (Nat × (St->Prop))->Env->St->Prop)(Kp:St->A->Prop):SR->Prop
 | .ok W ε σ=>∀e s,SimE e ε->Sim s σ->next (wW C W) e s
 | .pan a σ=>∀s,Sim s σ->Kp s a
 | .bad=>False
theorem yX{next:List (Nat × (St->Prop))->Env->St->Prop}{W:WX}{dst:Option Tmp}{a:A}(z:SimE e ε)(B:Sim s σ)(h:(uA n dst W ε σ a).to C next Kp) :
  cH n dst (next (wW C W)) e s a:=by
 unfold uA at h;cases y:qW n dst ε a with
 | none=>rw[y]at h;exact h.elim
 | some G=>rw[y]at h;exact aEj z y λe' u=>h e' s u B
theorem aUv(z:T.ok C){next:List (Nat × (St->Prop))->Env->St->Prop}{W:WX}{i:Nat}{dst:Option Tmp}{op:Op}(B:SimE e ε)(G:Sim s σ)
  (h:(aCU T n i dst op W ε σ).to C next Kp):qZ C op (dN C e) s (wB n dst i next (wW C W) e s):=by
 rw[aAZ z B]
 have y:∀{op:Op},(aId n dst W ε σ (fK T op (mJ T ε))).to C next Kp->bH C op (mJ T ε) (uG (wB n dst i next (wW C W) e s)):=by
  intro op h;cases u:fK T op (mJ T ε)with
  | none=>rw[u]at h;exact h.elim
  | some v=>rw[u]at h;exact aCq z u (yX B G h)
 cases op
 case load t x =>
  simp only[aCU]at h;simp only[qZ];split at h
  .rename_i b o H;rw[H];simp only[tkX];cases u:aCF T t b o σ with
   | none=>rw[u]at h;exact h.elim
   | some v =>
    rw[u]at h;rw[aK4 z G u];exact yX (W:=(i,t,b,o,v)::W) B G h
  .rename_i cs o H;rw[H];cases u:sM T t cs o with
   | none=>rw[u]at h;exact h.elim
   | some v =>
    rw[u]at h;simp only[tkX,bH,H,aAP z u];exact yX B G h
  .exact h.elim
 case lookup=>simp only[aCU,fK,aId]at h;exact h.elim
 all_goals (simp only[aCU]at h;exact y h)
theorem aUW(H:T.ok C)(S:C.det=true)(hF:vW C F){next:List (Nat × (St->Prop))->Env->St->Prop}{W:WX}{B:List Nat}{dst:Option Tmp}{op:Op}(M:SimE e ε)(O:Sim s σ)
  (h:(aIq T F n B dst op W ε σ).to C next Kp):aT C op (dN C e) (aCZ n dst B next (wW C W) e) Kp s:=by
 rw[aAZ H M];refine aNi H S O ?_
 have val:∀{a:A} {u:XS},(match ckX T B u W with|true=>uA n dst W ε u a|false=>.bad).to C next Kp->∀s',Sim s' u->aCZ n dst B next (wW C W) e s' a:=by
  intro a u h s' z;cases y:ckX T B u W with
  | false=>rw[y]at h;exact h.elim
  | true=>rw[y]at h;exact⟨aNf H z y,yX M z h⟩
 unfold aIq at h;cases G:mL T op (mJ T ε) σ with
 | val a u=>rw[G]at h;exact val h
 | pan a u=>rw[G]at h;exact h
 | call f az =>
  rw[G]at h;simp only at h;refine hF f az σ s _ _ O ?_;cases y:F f az σ with
  | val a u=>rw[y]at h;exact val h
  | pan a u=>rw[y]at h;exact h
  | bad=>rw[y]at h;exact h.elim
 | bad=>rw[G]at h;exact h.elim
theorem aHo(u:T.ok C)(B:C.det=true)(hF:vW C F){next:List (Nat × (St->Prop))->Env->St->Prop}{W:WX}{i:Nat}{dst:Option Tmp}{op:Op}(y:SimE e ε)(z:Sim s σ)
  (h:(aER T F n (oH E i) i dst op W ε σ).to C next Kp):nA C n E i dst op next (wW C W) Kp e s (iI op):=by
 unfold aER at h;cases G:iI op<;>rw[G]at h
 .exact aUv u y z h
 .exact aUW u B hF y z h
theorem aHA(G:T.ok C)(H:C.det=true)(hF:vW C F){ds:List (Option Tmp)}{next:List (Nat × (St->Prop))->Env->St->Prop}{W:WX}{i:Nat}{o:Oper}(B:SimE e ε)(y:Sim s σ)
  (h:(xT T F n ds (oH E i) i o W ε σ).to C next Kp):kZ C n ds E i next (wW C W) Kp e s (some o):=by
 obtain⟨dst,op,ty,pos,after,gd⟩:=o;cases gd with
 | none=>exact aHo G H hF B y h
 | some S =>
  obtain⟨j,z⟩:=S;simp only[xT]at h;simp only[kZ];cases O:kI ds j with
  | none=>rw[O]at h;exact h.elim
  | some t =>
   rw[O]at h;simp only at h;simp only[gdY];rw[B t];cases M:ε.gt t with
   | none=>rw[M]at h;exact h.elim
   | some a =>
    rw[M]at h;cases a<;>simp only at h<;>simp only[pZ]
    case bool b =>
     have u:=B.same M;cases b<;>cases z<;>simp only[beq_self_eq_true,beq_iff_eq,Bool.false_beq,Bool.true_beq,eO,fN]at h⊢
     .exact aHo G H hF u y h
     .exact yX u y h
     .exact yX u y h
     .exact aHo G H hF u y h
    case tuple l=>exact yX B y h
    all_goals exact h.elim
theorem aUo{r U:OR}(h:(aIc r U).to K Kp):r.to K Kp/\U.to K Kp:=by
 have st:∀{σ u:XS},qT aC0 σ.bx u.bx=true->qT (λ(a b:Nat × TypeId)=>decide (a=b)) σ.tk u.tk=true->Nat.beq σ.lim u.lim=true->aBl (λ(a b:Nat × Nat × A)=>Nat.beq a.1 b.1&&Nat.beq a.2.1 b.2.1&&xZ a.2.2 b.2.2) σ.ls u.ls=true->σ=u:=by
  intro σ u G H M Y;obtain⟨a,b,c,d⟩:=σ;obtain⟨Z,b',c',d'⟩:=u;have z:=aCp aUY _ _ G;have B:=aCp (λa b h=>eN h) _ _ H;have O:=cQ M
  have S:=aMs (λ(a b:Nat × Nat × A) h=>by
   simp only[aY]at h;obtain⟨a1,a2,a3⟩:=a;obtain⟨b1,b2,b3⟩:=b;have G:=cQ h.1.1;have H:=cQ h.1.2;have M:=uW 60 _ _ h.2;simp only at G H M;rw[G,H,M]) _ _ Y
  simp only at z B O S;rw[z,B,O,S]
 unfold aIc at h;split at h
 .split at h
  .rename_i y;simp only[aY]at y;have z:=aCp (uW 60) _ _ y.1.1.1.1;have B:=st y.1.1.1.2 y.1.1.2 y.1.2 y.2;subst z B;exact⟨h,h⟩
  .exact h.elim
 .split at h
  .rename_i y;simp only[aY]at y;have z:=uW 60 _ _ y.1.1.1.1;have B:=st y.1.1.1.2 y.1.1.2 y.1.2 y.2;subst z B;exact⟨h,h⟩
  .exact h.elim
 .exact h.elim
theorem aUe(M:T.ok C)(O:SimE e ε){a b:Oper}(h:aEN T ε a b=true):zH C e (some a) (some b):=by
 obtain⟨d,op,ty,pos,after,gd⟩:=a;obtain⟨Y,S,U,y,u,H⟩:=b;unfold aEN at h;simp only at h;split at h;rotate_left
 .cases h
 split at h;rotate_left
 .cases h
 rename_i z B G;simp only[aY]at h;simp only[zH,aAZ M O,z,B,G,aEM];exact⟨cQ h.1.1,cQ h.1.2,cQ h.2⟩
theorem aEh(B:T.ok C)(U:C.det=true)(hF:vW C F){ds:List (Option Tmp)}{ops:List Oper}:∀(t:OT) (W:WX) (e:Env) (s:St) (ε:Tr A) (σ:XS),SimE e ε->Sim s σ ->
  (aAa T F n ds ops E t W ε σ).to K Kp->gA C n ds ops E K Kp t (wW C W) e s
 | .nil,W,e,s,ε,σ,y,z,h=>h e s y z
 | .node i r,W,e,s,ε,σ,y,z,h=>by
  simp only[aAa]at h;simp only[gA];cases Y:jQ ops i with
  | none=>rw[Y]at h;exact h.elim
  | some o =>
   rw[Y]at h;simp only at h;refine aHA B U hF y z ?_;cases H:xT T F n ds (oH E i) i o W ε σ with
   | ok W' S u=>rw[H]at h;exactλe' s' G O=>aEh B U hF r W' e' s' S u G O h
   | pan a u=>rw[H]at h;exact h
   | bad=>rw[H]at h;exact h.elim
 | .alt a b,W,e,s,ε,σ,y,z,h=>by
  have h':=aUo h;exact⟨aEh B U hF a W e s ε σ y z h'.1,aEh B U hF b W e s ε σ y z h'.2⟩
 | .pair i j,W,e,s,ε,σ,y,z,h=>by
  simp only[aAa]at h;simp only[gA];cases Y:jQ ops i with
  | none=>rw[Y]at h;exact h.elim
  | some a =>
  cases Z:jQ ops j with
  | none=>rw[Y,Z]at h;exact h.elim
  | some b =>
  rw[Y,Z]at h;simp only at h;cases hp:aEN T ε a b with
  | false=>rw[hp]at h;exact h.elim
  | true =>
  rw[hp]at h;simp only at h;refine⟨aUe B y hp,aHA B U hF y z ?_⟩;cases H:xT T F n ds (oH E i) i a W ε σ with
  | pan a u=>rw[H]at h;exact h
  | bad=>rw[H]at h;exact h.elim
  | ok W' S u =>
   rw[H]at h;simp only at h;intro e' s' G O;refine aHA B U hF G O ?_;cases M:xT T F n ds (oH E j) j b W' S u with
   | pan a u=>rw[M]at h;exact h
   | bad=>rw[M]at h;exact h.elim
   | ok W2 b2 b3=>rw[M]at h;exactλe2 s2 b0 b1=>h e2 s2 b0 b1
end
theorem aTJ{C:Cx}{n id:Nat}{ops:Array Oper}{Q:XK->Env->St->Prop}{e:Env}{s:St}(t:OT)(E:List (Nat × List Nat))
  (hm:C.P.follows .mixedOrders=true)
  (y:(okE ops E&&oV ops ops.size (Array.replicate ops.size false) t&&vE C.tt ops)=true)
  (h:gA C n (ops.toList.map (·.dst)) ops.toList E (λe s=>Q .normal e s) (vT Q (ops.toList.map (·.dst)) e) t [] e s):Ex C n (.region id ops true) Q e s:=by
 simp only[aY]at y
 have z:∀(e e':Env) (s:St),(∀t,e.get t=e'.get t)->(∃u s2,e.ge u/\Rle C s s2/\Q .normal u s2)->∃u s2,e'.ge u/\Rle C s s2/\Q .normal u s2 :=
  λe e' s H ⟨u,s2,M,O⟩=>⟨u,s2,λt a ha=>by rw[<-H t];exact M t a ha,O⟩
 have G:∀(e:Env) (s s':St),Rle C s s'->(∃u s2,e.ge u/\Rle C s' s2/\Q .normal u s2)->∃u s2,e.ge u/\Rle C s s2/\Q .normal u s2 :=
  λe s s' hr ⟨u,s2,M,O,h3⟩=>⟨u,s2,M,λF g w S=>O F g w (hr F g w S),h3⟩
 intro F g w a S H;refine wp_region_any hm ?_
 have U:DC ops (Array.replicate ops.size false):=by
  intro j o ho hl;exfalso;by_cases Z:j<ops.size
  .simp[Z]at hl
  .simp[Z]at hl
 have hA:=aNG y.1.1 z G ops.size _ t [] e s y.1.2 U (λw Y=>by cases Y) (λw Y=>by cases Y)
  (aCi (λe s B=>⟨e,s,Env.ge.refl e,Rle.refl s,B⟩) t [] e s h)
 refine aNE (aHj e) (Q:=Q) (λe s B=>B) (λs v B=>B) (aK2 y.2) _ _ g e s a _ (aM6 _) (dQ g) ?_ H (aH0 H) rfl hA;exact S.heap rfl
theorem aQE{tt y:TypeId->Option TI}(M:∀t B,tt t=some B->y t=some B){ops:Array Oper}(h:vE tt ops=true):vE y ops=true:=by
 simp only[vE,cL,rW]at h⊢;intro i H;have u:=h i H;cases G:ops[i]? with
 | none=>rw[G]at u;exact u
 | some o =>
  rw[G]at u;cases hl:late ops i with
  | false=>simp
  | true =>
   rw[hl]at u;simp only[eO,gJ]at u⊢;split at u
   .rename_i t e;obtain⟨B,z⟩:=Option.isSome_iff_exists.1 u;simp only[e,M _ _ z];rfl
   .rfl
def mH(tt:TypeId->Option TI)(h:Nat->Nat->Option (OT × List (Nat × List Nat)))(u:FuncId):Code->Bool
 | .seq c d=>mH tt h u c&&mH tt h u d
 | .block _ c=>mH tt h u c
 | .cond _ c d=>mH tt h u c&&mH tt h u d
 | .loop c=>mH tt h u c
 | .region id ops y=>match y with
  | false=>true
  | true=>match h u id with
   | some (t,E)=>okE ops E&&oV ops ops.size (Array.replicate ops.size false) t&&vE tt ops
   | none=>true
 | _=>true
structure Catch (C:Cx) (h:FuncId) (ft:TypeId):Prop where
 quiet:∀F g s w (p:Value),R C.toCtx F g s w->CallsD C.P h #[p] .returning w λe u' w'=>(∃v,e=.returned v)/\u'=.returning/\∃g',g.le g'/\R C.toCtx F g' s w'
 loud:∀F g s w (b k:Nat) (cs fs:List A) (v:Value),R C.toCtx F g s w->g.beta b=some k->s.getO b=some (.cells ft cs)->Rz g (.agg fs) v->fs.length=cs.length->(∃ti,C.tt ft=some ti/\ti.sz=fs.length) ->
  CallsD C.P h #[.pointer (some ⟨k,0,none⟩)] (.panicking [{ v:=.iface ft v,recovered:=false }]) w λe u' w'=>(∃v,e=.returned v)/\settle u'=.returning /\
   ∃g',g.le g'/\R C.toCtx F g' ((s.newO (.cells ft fs)).setO b (.cells ft fs)) w'
structure XP.ok (X:XP) (C:Cx):Prop where
 T:X.T.ok C
 det:C.det=true
 mix:C.P.follows .mixedOrders=true
 fns:∀f fx,X.fns f=some fx->∃fn,C.P.funcs[f]?=some fn/\fn.body=some fx.code/\fn.ntmps=fx.n/\fn.results.toList=fx.rs /\
  (fn.name == "runtime.NumGoroutine") = false ∧ mH X.T.tt X.ord f fx.code = true
 ctc:Catch C X.hd X.ft
 ent:∀(k:Nat) (w:World),(invoke (.fn (.func X.hd) #[]) #[.pointer (some ⟨k,0,none⟩)]).run C.P w=.ok (.enter X.hd #[.pointer (some ⟨k,0,none⟩)]) w
 ext:∀f h,X.ext f=some h->∀az σ s KV Kp,Sim s σ->(h az σ).to KV Kp->Den C f az KV Kp s
section
variable {X:XP} {C:Cx}
theorem aHK(y:X.T.ok C){e:Env}{s:St}{ε:Tr A}{σ:XS}(u:SimE e ε)(B:Sim s σ):∀(H:List ResultVar) (l:List A),vU X.T ε σ H=some l->nP C e s H=some l
 | [],l,h=>h
 | .tmp t::r,l,h=>by
  simp only[vU]at h;split at h
  .rename_i a G z hl;simp only[nP,u t,z,aHK y u B r G hl];exact h
  .cases h
 | .cell p t::r,l,h=>by
  simp only[vU]at h;split at h
  .rename_i b o G z hl;split at h
   .rename_i cs M;split at h
    .rename_i a O;simp only[nP,u p,z,aHK y u B r G hl,B.ob b,M,aAP y O];exact h
    .cases h
   .cases h
  .cases h
theorem aMr:∀(az:List A) (k:Nat) (ε:Tr A) (e:Env),SimE e ε->SimE (kW k az++e) (zU k az ε)
 | [],k,ε,e,B=>B
 | a::r,k,ε,e,B=>by
  have z:SimE ((k,a)::e) (ε.st k a):=λt=>by
   rw[aAN];simp only[Env.get];split
   .rfl
   .exact B t
  have:=aMr r (k+1) _ _ z;intro t;refine Eq.trans ?_ (this t)
  have key:∀(l:List A) (u:Nat) (x y:Env),k<u->(∀t,x.get t=y.get t)->∀t,Env.get ((k,a)::(kW u l++x)) t=(kW u l++(k,a)::y).get t:=by
   intro l
   induction l with
   | nil =>
    intro u x y H h t;simp only[kW,bE,Env.get];split
    .rfl
    .exact h t
   | cons b l M =>
    intro u x y H h t;have:=M (u+1) x y aB h t;simp only[kW,bL,Env.get]at this⊢;by_cases z:k=t
    .subst z;simp only[↓reduceIte]at this⊢;rw[aE aB];exact this
    .simp only[z,↓reduceIte]at this⊢;by_cases G:u=t
     .simp[G]
     .simp only[G,↓reduceIte];exact this
  exact key r (k+1) e e aB (λ_=>rfl) t
theorem aMb{r:CO}{k:Tr A->XS->CO}{Q:XK->Env->St->Prop}(h:(aES r k).to Q){R:Env->St->Prop}(y:∀e s ε σ,SimE e ε->Sim s σ->(k ε σ).to Q->R e s) :
  r.to (kL R Q):=by
 unfold aES at h;cases r with
 | ok x ε σ =>
  cases x<;>simp only at h
  case normal=>exactλe s u z=>y e s ε σ u z h
  all_goals exact h
 | bad=>exact h
theorem aUM{i:Nat}{r:CO}{Q:XK->Env->St->Prop}(h:(aIo i r).to Q):r.to (sB i Q):=by
 unfold aIo at h;cases r with
 | ok x ε σ =>
  cases x<;>simp only at h
  case exit j =>
   intro e s y z;simp only[sB];split at h
   .rename_i u;rw[aF (cQ u)];exact h e s y z
   .rename_i u;rw[aE (by rintro rfl;rw[Nat.beq_refl]at u;cases u)];exact h e s y z
  all_goals exact h
 | bad=>exact h
theorem aVD{e:Env}{ε:Tr A}(h:SimE e ε)(ds:List (Option Tmp)):SimE (e.rem ds) (xW ds ε):=by
 intro t;rw[pA,aHi,h t]
theorem aMq{e:Env}{ε:Tr A}(u:SimE e ε){ds:List (Option Tmp)}{r:OR}{Q:XK->Env->St->Prop}(h:(aIr ds ε r).to Q):r.to (λe s=>Q .normal e s) (vT Q ds e):=by
 cases r with
 | ok ε σ=>exact h
 | pan a σ=>exactλs y=>h (e.rem ds) s (aVD u ds) y
 | bad=>exact h
theorem aEa(B:X.T.ok C){fn:Func}{u:List ResultVar}(y:fn.results.toList=u){KV Kp:St->A->Prop}{x:XK}{ε:Tr A}{σ:XS}(h:(vR X u x ε σ).to KV Kp){e:Env}{s:St}(G:SimE e ε)(z:Sim s σ) :
  kK C fn.results.toList KV Kp x e s:=by
 have fin:(match vU X.T ε σ u with|some l=>CR.val (sQ l) σ|none=>.bad).to KV Kp->(match nP C e s fn.results.toList with|some l=>KV s (sQ l)|none=>False):=by
  intro h;cases hl:vU X.T ε σ u with
  | none=>rw[hl]at h;exact h.elim
  | some l=>rw[hl]at h;rw[y,aHK B G z _ _ hl];exact h s z
 cases x<;>simp only[vR]at h
 .exact fin h
 .exact h.elim
 .exact h.elim
 .exact fin h
 .exact h s z
def aH2(C:Cx)(F:Fr)(g0:Gh)(n:Nat)(h:FuncId)(r:DO)(ex:Exit)(a:Act)(w:World):Prop :=
 ∃g' e s x ε σ d,r=.ok x ε σ d/\g0.le g'/\R C.toCtx F g' s w/\EnvOk g' n e a.tmps/\XRz g' x ex/\SimE e ε/\Sim s σ /\
  (match d with
   | none=>a.defers=[]
   | some b=>∃k,g'.beta b=some k/\a.defers=[pQ h k])
theorem aTF{n:Nat}{rec:Code->Tr A->XS->CO}(hT:X.T.ok C)(P:Code->Prop)(hP:∀c d,P (.seq c d)->P c/\P d)
  (U:∀c ε σ,P c->∀(e:Env) (s:St) (Q:XK->Env->St->Prop),SimE e ε->Sim s σ->(rec c ε σ).to Q->Ex C n c Q e s) :
  ∀(c:Code) (ε:Tr A) (σ:XS) (x:XK) (B:Tr A) (G:XS) (d:Option Nat),P c->aBh X rec c ε σ=.ok x B G d->∀(e:Env) (s:St),SimE e ε->Sim s σ->∀F g w a,R C.toCtx F g s w->EnvOk g n e a.tmps->a.defers=[] ->
   c.wp C.P (aH2 C F g n X.hd (aBh X rec c ε σ)) a w:=by
 intro c
 have b1:∀(c:Code) (ε:Tr A) (σ:XS) (r:DO),P c->r=(match rec c ε σ with|.ok x ε σ=>DO.ok x ε σ none|.bad=>.bad)->(∃x B G d,r=.ok x B G d)->∀(e:Env) (s:St),SimE e ε->Sim s σ->∀F g w a,R C.toCtx F g s w->EnvOk g n e a.tmps->a.defers=[] ->
   c.wp C.P (aH2 C F g n X.hd r) a w:=by
  intro c ε σ r hp hr u e s O S F g w a hR hE hD;cases z:rec c ε σ with
  | bad=>rw[z]at hr;obtain⟨x,B,G,d,h⟩:=u;rw[hr]at h;cases h
  | ok x1 H M =>
   rw[z]at hr;subst hr;have:=U c ε σ hp e s (λx e s=>x=x1/\SimE e H/\Sim s M) O S (by rw[z];exactλe s O S=>⟨rfl,O,S⟩) F g w a hR hE;refine lN (λex Z w' Y=>?_) this;obtain⟨g',e',s',x,h1,h2,h3,h4,h5,rfl,h7,h8⟩:=Y;exact⟨g',e',s',x,_,_,none,rfl,h1,h2,h3,h5,h7,h8,by rw[h4];exact hD⟩
 induction c with
 | seq c d bd b9 =>
  intro ε σ x B G dd hp u e s O S F g w a hR hE hD;obtain⟨b8,b3⟩:=hP c d hp;simp only[aBh]at u⊢;cases b0:aCu c with
  | some hx =>
   obtain⟨h,y⟩:=hx;rw[b0]at u;simp only at u⊢;split at u
   .rename_i b hh hy;cases z:rec d ε σ with
    | bad=>rw[z]at u;cases u
    | ok x1 H M =>
     simp only;obtain⟨id,ops,b4,ty,pos,after,rfl,b2⟩:=aKw b0;obtain rfl:h=X.hd:=cQ hh;rw[<-aAZ hT O]at hy;obtain⟨k,hv,b5⟩:=((hE.oper hR) y _ hy).ptr_inv;refine wp_seq ?_
     have Y:∀(Z:Act),Z.tmps=a.tmps->Z.defers=[pQ X.hd k]->d.wp C.P (aH2 C F g n X.hd (.ok x1 H M (some b))) Z w:=by
      intro Z ht b6;have:=U d ε σ b3 e s (λx e s=>x=x1/\SimE e H/\Sim s M) O S (by rw[z];exactλe s O S=>⟨rfl,O,S⟩) F g w Z hR (by rw[ht];exact hE);refine lN (λex a2 w2 Y=>?_) this;obtain⟨g',e',s',x,h1,h2,h3,h4,h5,rfl,h7,h8⟩:=Y;exact⟨g',e',s',x,_,_,some b,rfl,h1,h2,h3,h5,h7,h8,k,h1.beta _ _ b5,by rw[h4];exact b6⟩
     refine wp_region_list ?_;rw[b2];unfold wpList;rw[aF (by simp[Region.wanted])];left
     have b7:(execOp a.eval ⟨none,.defer ⟨.value (.func X.hd),#[y],b4⟩,ty,pos,after,none⟩).run C.P w=.ok (.defer (pQ X.hd k)) w:=by
      have e1:a.eval (.func X.hd)=.func (.func X.hd) #[] #[]:=rfl;simp only[execOp,resolve,e1,Deferred.ofValue,bG,bV,bJ,kO,cC,eZ,hv,pQ];simp
     unfold Oper.wp;rw[b7,Oper.upon_defer];unfold wpList;exact Y _ rfl (by simp[Act.put,hD])
   .cases u
  | none =>
   rw[b0]at u;simp only at u⊢;cases z:rec c ε σ with
   | bad=>rw[z]at u;cases u
   | ok x1 H M =>
    rw[z]at u;simp only at u⊢;refine wp_seq ?_;have:=U c ε σ b8 e s (λx e s=>x=x1/\SimE e H/\Sim s M) O S (by rw[z];exactλe s O S=>⟨rfl,O,S⟩) F g w a hR hE;refine lN (λex Z w' Y=>?_) this;obtain⟨g',e',s',y,h1,h2,h3,h4,h5,rfl,h7,h8⟩:=Y;cases ex<;>cases y<;>try exact h5.elim
    .simp only at u⊢;refine lN (λex a2 w2 Y=>?_) (b9 H M x B G dd b3 u e' s' h7 h8 F g' w' Z h2 h3 (by rw[h4];exact hD));obtain⟨g2,e2,s2,x2,bb,bc,d2,q0,q1,q2⟩:=Y;exact⟨g2,e2,s2,x2,bb,bc,d2,q0,h1.trans q1,q2⟩
    all_goals exact⟨g',e',s',_,_,_,none,rfl,h1,h2,h3,h5,h7,h8,by rw[h4];exact hD⟩
 | _=>exactλε σ x B G d hp u e s O S F g w a hR hE hD=>b1 _ ε σ _ hp rfl ⟨x,B,G,d,u⟩ e s O S F g w a hR hE hD
theorem aLx(H:X.ok C){rec:FuncId->Nat->Code->Tr A->XS->CO}
  (b1:∀(fi:FuncId) (n:Nat) (c:Code) (ε:Tr A) (σ:XS),mH X.T.tt X.ord fi c=true->∀(e:Env) (s:St) (Q:XK->Env->St->Prop),SimE e ε->Sim s σ->(rec fi n c ε σ).to Q->Ex C n c Q e s) :
  vW C (xF X rec):=by
 intro fn az σ s KV Kp hs h;unfold xF at h;split at h
 .rename_i hh bc;exact H.ext _ _ bc _ _ _ _ _ hs h
 .split at h
  .exact h.elim
  .rename_i M bl;obtain⟨O,h1,h2,h3,h4,h5,h6⟩:=H.fns _ _ bl;split at h
   .rename_i hl;have bd:=eQ hl
    have bb:SimE (kW 0 az) (zU 0 az .lf):=by
     have:=aMr az 0 .lf [] (λt=>rfl);simpa using this
    split at h
    .refine aAq h1 h2 h5 (by rw[h3];exact bd) ?_;refine b1 fn O.ntmps M.code _ σ h6 _ s _ bb hs ?_;rw[h3];cases hr:rec fn M.n M.code (zU 0 az .lf) σ with
     | bad=>rw[hr]at h;exact h.elim
     | ok x b8 b9 =>
      rw[hr]at h;simp only at h;exactλe s he hs=>aEa H.T h4 h he hs
    ·
     cases hr:aBh X (rec fn M.n) M.code (zU 0 az .lf) σ with
     | bad=>rw[hr]at h;exact h.elim
     | ok x b8 b9 d =>
     rw[hr]at h;refine aJd h1 h2 h5 (by rw[h3];exact bd) λF g w a hR hE hD=>?_
     have:=aTF (X:=X) (n:=M.n) (rec:=rec fn M.n) H.T (λc=>mH X.T.tt X.ord fn c=true) (λc d bk=>by simpa only[mH,aY]using bk)
      (λc ε σ S e s Q he hs hq=>b1 fn M.n c ε σ S e s Q he hs hq) M.code _ σ x b8 b9 d h6 hr _ s bb hs F g w a hR (by rw[<-h3];exact hE) hD
     refine lN (λex a' w' hq=>?_) this;rw[hr]at hq;obtain⟨Z,e',s',x2,bn,bp,d2,q0,q1,q2,q3,q4,q5,q6,q7⟩:=hq;cases q0
     have ret:∀(KV:St->A->Prop) (g2:Gh) (s2:St) (G:World) (x:XK),(x=.normal\/x=.ret)->kK C O.results.toList KV Kp x e' s2->R C.toCtx F g2 s2 G->Z.le g2 ->
       ∃v,(results O a'.tmps).run C.P G=.ok v G/\∃g3 a s,g.le g3/\R C.toCtx F g3 s G/\Rz g3 a v/\KV s a:=by
      intro KV g2 s2 G x hx hk z B
      have b5:∃l,nP C e' s2 O.results.toList=some l/\KV s2 (sQ l):=by
       rcases hx with rfl|rfl<;>simp only[kK]at hk<;>split at hk
       .exact⟨_,by assumption,hk⟩
       .exact hk.elim
       .exact⟨_,by assumption,hk⟩
       .exact hk.elim
      obtain⟨l,hl,b5⟩:=b5;obtain⟨vs,U,Y⟩:=aCy z (q3.mono B) _ _ hl;refine⟨_,?_,g2,_,s2,q1.trans B,z,aHI Y,b5⟩;have e0:results O a'.tmps=(do let vs <-O.results.mapM (uC a'.tmps);pure (if h:vs.size=1 then vs[0] else .tuple vs)):=rfl;rw[e0,bG,Array.mapM_eq_mapM_toList,Sem.run_map,U];rfl
     simp only[aOd]at h;cases d with
     | none =>
      simp only at q7 h;have y:=aEa H.T h4 h q5 q6;cases ex<;>cases x<;>try exact q4.elim
      .obtain⟨v,U,g3,aa,ss,Y⟩:=ret KV Z s' w' .normal (.inl rfl) y q2 (dQ Z);simp only[bodyPostD,q7,Leaves];exact⟨v,U,g3,aa,ss,Y⟩
      .exact y.elim
      .exact y.elim
      .obtain⟨v,U,g3,aa,ss,Y⟩:=ret KV Z s' w' .ret (.inr rfl) y q2 (dQ Z);simp only[bodyPostD,q7,Leaves];exact⟨v,U,g3,aa,ss,Y⟩
      .obtain⟨v,rfl,b6⟩:=q4;simp only[bodyPostD,q7,Leaves];exact⟨Z,_,v,s',rfl,q1,q2,b6,y⟩
     | some b =>
      obtain⟨k,bh,b4⟩:=q7;have b0:(invoke (pQ X.hd k).target (pQ X.hd k).args).run C.P w'=.ok (.enter X.hd #[.pointer (some ⟨k,0,none⟩)]) w':=H.ent k w'
      have quiet:∀(x:XK),(x=.normal\/x=.ret)->(vR X M.rs x b8 b9).to KV Kp->Leaves C.P O a'.tmps (vH C F g KV Kp) [pQ X.hd k] .returning w':=by
       intro x hx hq;refine⟨by simp,_,_,_,_,rfl,b0,?_⟩;refineλc cs S=>?_
       obtain⟨e,u',G,fr,⟨⟨v0,rfl⟩,rfl,g2,B,z⟩,b3⟩:=H.ctc.quiet F Z s' w' (.pointer (some ⟨k,0,none⟩)) q2 c cs S;obtain⟨v,U,Y⟩:=ret KV g2 s' G x hx (aEa H.T h4 hq q5 q6) z B;exact⟨.returned v0,.returning,G,fr,(show Leaves C.P O a'.tmps (vH C F g KV Kp) [] .returning G from⟨v,U,Y⟩),b3⟩
      cases ex<;>cases x<;>try exact q4.elim
      .simp only at h;simp only[bodyPostD,b4];exact quiet .normal (.inl rfl) h
      .simp only[vR]at h;exact h.elim
      .simp only[vR]at h;exact h.elim
      .simp only at h;simp only[bodyPostD,b4];exact quiet .ret (.inr rfl) h
      .simp only at h;obtain⟨v,rfl,b6⟩:=q4;split at h
       .rename_i t av;split at h
        .rename_i fs;split at h
         .rename_i e0 cs hb;split at h
          .rename_i S;simp only[aY]at S
           have b7:∃ti,C.tt X.ft=some ti/\ti.sz=fs.length:=by
            have b2:=S.2;split at b2
            .rename_i ti b7;exact⟨ti,H.T.tt _ _ b7,cQ b2⟩
            .cases b2
           obtain rfl:=cQ S.1.1.1;obtain rfl:=cQ S.1.1.2;obtain⟨u,rfl,bm⟩:=b6.iface_inv;simp only[bodyPostD,b4];refine⟨by simp,_,_,_,_,rfl,b0,?_⟩;refineλc bg bj=>?_
           obtain⟨e,u',G,fr,⟨⟨v0,rfl⟩,bf,g2,B,z⟩,b3⟩:=H.ctc.loud F Z s' w' b k cs fs u q2 bh (by rw[q6.ob];exact hb) bm (cQ S.1.2) b7 c bg bj;obtain⟨v,U,Y⟩:=ret KV g2 _ G .ret (.inr rfl) (aEa H.T h4 h q5 ((q6.newO _).setO b _)) z B;exact⟨.returned v0,u',G,fr,(show Leaves C.P O a'.tmps (vH C F g KV Kp) [] (settle u') G from by rw[bf];exact⟨v,U,Y⟩),b3⟩
          .exact h.elim
         .exact h.elim
        .exact h.elim
       .exact h.elim
   .exact h.elim
theorem aSo(hX:X.ok C):∀(N f:Nat),f<=N->∀(fi:FuncId) (n:Nat) (c:Code) (ε:Tr A) (σ:XS),mH X.T.tt X.ord fi c=true->∀(e:Env) (s:St) (Q:XK->Env->St->Prop),SimE e ε->Sim s σ ->
    (sH X f fi n c ε σ).to Q->Ex C n c Q e s:=by
  intro N
  induction N with
  | zero => intro f hf fi n c ε σ _ e s Q _ _ h; obtain rfl : f = 0 := by omega
            exact h.elim
  | succ N ihN =>
    intro f hf;cases f with
    | zero=>intro fi n c ε σ _ e s Q _ _ h;exact h.elim
    | succ f =>
    have ih:=ihN f aB;have hF:vW C (xF X (sH X f)):=aLx hX ih;intro fi n c ε σ ho e s Q he hs h;cases c<;>simp only[sH,aH6,aOj]at h
    case skip=>exact Ex.skip (h e s he hs)
    case label l=>exact Ex.label (h e s he hs)
    case exit i=>exact Ex.exit (h e s he hs)
    case goto i=>exact Ex.goto (h e s he hs)
    case ret=>exact Ex.ret (h e s he hs)
    case seq c d =>
      simp only[mH,aY]at ho;exact Ex.seq (ih fi n c ε σ ho.1 e s _ he hs (aMb h λe s ε σ he hs hk=>ih fi n d ε σ ho.2 e s Q he hs hk))
    case block i c=>exact Ex.block (ih fi n c ε σ ho e s _ he hs (aUM h))
    case cond c x y =>
      simp only[mH,aY]at ho;unfold aNM at h;split at h
      · rename_i b hb
        rw[<-aAZ hX.T he]at hb;refine Ex.cond hb ?_;cases b<;>simp only at h
        · exact ih fi n y ε σ ho.2 e s Q he hs h
        · exact ih fi n x ε σ ho.1 e s Q he hs h
      · exact h.elim
    case loop c =>
      refine aLr (λm e s=>m<=f+1/\∃ε σ,SimE e ε/\Sim s σ/\(sH X m fi n (.loop c) ε σ).to Q) (f+1) ⟨bF _,ε,σ,he,hs,by simp only[sH];exact h⟩ ?_;rintro m e s ⟨hm,ε,σ,he,hs,hk⟩;cases m with
      | zero=>exact hk.elim
      | succ m =>
        simp only[sH,aH6]at hk;refine ihN m aB fi n c ε σ ho e s _ he hs ?_;refine aMb hk λe s ε σ he hs hk'=>⟨m,dZ m,by omega,ε,σ,he,hs,hk'⟩
    case region id ops draw =>
      cases draw<;>simp only at h
      · rw[aMQ]at h
        exact Ex.region (λe s hk=>⟨e,Env.ge.refl e,hk⟩) (λ_ _ h=>h) (aMR hX.T hX.det hF ops.toList e s ε σ he hs (aMq he h))
      · unfold aNN at h
        simp only[mH]at ho;split at h
        · rename_i t E hE
          rw[hE]at ho;simp only[aY]at ho;refine aTJ t E hX.mix ?_ (aEh hX.T hX.det hF t [] e s ε σ he hs (aMq he h));simp only[aY];exact⟨ho.1,aQE hX.T.tt ho.2⟩
        · exact h.elim
    all_goals exact h.elim
theorem aTG(u:X.ok C)(f:Nat):∀(h:FuncId) (n:Nat) (c:Code) (ε:Tr A) (σ:XS),mH X.T.tt X.ord h c=true->∀(e:Env) (s:St) (Q:XK->Env->St->Prop),SimE e ε->Sim s σ ->
  (sH X f h n c ε σ).to Q->Ex C n c Q e s:=aSo u f f (bF f)
end
end
end
section
noncomputable section
def Gh.lep(g h:Gh):Prop:=∀b pre,g.pi b=some pre->∃ext,h.pi b=some (pre++ext)
def A.lp(a b:A):Prop:=∀(g h:Gh) (v:Value),g.lep h->Rz g a v->Rz h b v
def iA(f:A->Option A):List A->Option (List A)
 | []=>some []
 | a::r=>match f a,iA f r with
  | some b,some l=>some (b::l)
  | _,_=>none
def frz:Nat->A->Option A
 | 0,_=>none
 | n+1,a=>match a with
  | .int k m=>some (.int k m)
  | .bool b=>some (.bool b)
  | .str s=>some (.str s)
  | .nilp=>some .nilp
  | .nils=>some (.list none [])
  | .nilf=>some .nilf
  | .nili=>some .nili
  | .emp=>some (.list none [])
  | .list _ es=>(iA (frz n) es).map (.list none)
  | .agg cs=>(iA (frz n) cs).map .agg
  | .tuple cs=>(iA (frz n) cs).map .tuple
  | .eptr cs o=>(iA (frz n) cs).map (.eptr · o)
  | .iface t v=>(frz n v).map (.iface t)
  | .fn f a b=>match iA (frz n) a,iA (frz n) b with
   | some a,some b=>some (.fn f a b)
   | _,_=>none
  | _=>none
theorem uS{f:A->Option A}:∀{l m:List A},iA f l=some m->l.length=m.length/\∀(j:Nat) (b:A),m[j]?=some b->∃a,l[j]?=some a/\f a=some b
 | [],m,h=>by cases h;exact⟨rfl,λj b h=>by simp at h⟩
 | a::r,m,h=>by
  simp only[iA]at h;split at h
  .rename_i b l M hl;cases h;obtain⟨z,B⟩:=uS hl;refine⟨by simp[z],λj c u=>?_⟩;cases j with
   | zero=>simp at u;subst u;exact⟨a,by simp,M⟩
   | succ j=>obtain⟨y,H,G⟩:=B j c (gQ u);exact⟨y,gQ H,G⟩
  .cases h
theorem aDX{f:A->Option A}{l m:List A}(h:iA f l=some m){b:A}(z:b∈m):∃a,a∈l/\f a=some b:=by
 obtain⟨j,B,rfl⟩:=iC z;obtain⟨a,u,y⟩:=(uS h).2 j m[j] (cO B);exact⟨a,bA u,y⟩
theorem aHz:∀(n:Nat) (a b:A),frz n a=some b->b.one=a.one
  | 0,a,b,h=>by cases h
  | n+1,a,b,h=>by
    cases a<;>simp only[frz,kN,bM,reduceCtorEq]at h
    all_goals first
      | (subst h;rfl)
      | (obtain⟨c,_,rfl⟩:=h;rfl)
      | (split at h
         · cases h;rfl
         · cases h)
theorem aGR:∀(n:Nat) (a b:A),frz n a=some b->a.cells.length=b.cells.length/\∀(j:Nat) (c:A),b.cells[j]?=some c->∃m c',m<=n/\a.cells[j]?=some c'/\frz m c'=some c
  | 0,a,b,h=>by cases h
  | n+1,a,b,h=>by
    have self:a.cells=[a]->b.cells=[b]->a.cells.length=b.cells.length/\∀(j:Nat) (c:A),b.cells[j]?=some c->∃m c',m<=n+1/\a.cells[j]?=some c'/\frz m c'=some c:=by
      intro h1 h2;rw[h1,h2];refine⟨rfl,λj c hc=>?_⟩;cases j with
      | zero=>simp at hc;subst hc;exact⟨n+1,a,bF _,by simp,h⟩
      | succ j=>simp at hc
    have h0:=h;cases a<;>simp only[frz,kN,bM,reduceCtorEq]at h
    case agg cs =>
      obtain⟨ds,hd,rfl⟩:=h;obtain⟨h1,h2⟩:=uS hd;exact⟨h1,λj c hc=>by obtain⟨a,h3,h4⟩:=h2 j c hc;exact⟨n,a,by omega,h3,h4⟩⟩
    all_goals first
      | (subst h;exact self rfl rfl)
      | (obtain⟨c,_,rfl⟩:=h;exact self rfl rfl)
      | (split at h
         · cases h;exact self rfl rfl
         · cases h)
theorem tR:∀(n:Nat) (a b:A),frz n a=some b->a.lp b:=by
 intro n
 induction n using Nat.strongRecOn with
 | _ n ih =>
 intro a b h g g' v hg hv;cases n with
 | zero=>cases h
 | succ n =>
  have U:∀{l m:List A} {vs:List Value},iA (frz n) l=some m->Rzs g l vs->Rzs g' m vs:=by
   intro l m vs hl Z;obtain⟨O,H⟩:=uS hl;refine⟨by rw[Z.1,O],λj c u B hu=>?_⟩;obtain⟨y,S,Y⟩:=H j c B;exact ih n (dZ n) y c Y g g' u hg (Z.2 j y u S hu)
  have b0:∀{l m:List A},iA (frz n) l=some m->(∀c,c∈l->c.one=true)->∀c,c∈m->c.one=true:=by
   intro l m hl O c B;obtain⟨y,H,S⟩:=aDX hl B;rw[aHz n y c S];exact O y H
  cases hv with
  | int k m=>cases h;exact .int k m
  | bool b=>cases h;exact .bool b
  | str s=>cases h;exact .str s
  | nilp=>cases h;exact .nilp
  | nils=>cases h;exact .list0 none none 0 (aN _) aV
  | nilf=>cases h;exact .nilf
  | nili=>cases h;exact .nili
  | emp a=>cases h;exact .list0 none (some a) 0 (aN _) aV
  | ptr b o k hb=>cases h
  | ml b off n cap k hb B hm=>cases h
  | mg b n cap k hb B hm=>cases h
  | sd tk es a cap B G=>cases h
  | gr t n k cap G hn hm=>cases h
  | hl z a cap G=>cases h
  | pen t es sz b cap G B hs=>cases h
  | rm t n sz b cap G B=>cases h
  | mp b k hb=>cases h
  | nilm=>cases h
  | full es a G=>cases h
  | agg cs vs hl O G =>
   simp only[frz,kN]at h;obtain⟨ds,M,rfl⟩:=h;have Z:=U M ⟨hl,G⟩;exact .agg ds vs Z.1 (b0 M O) Z.2
  | tuple cs vs hl G =>
   simp only[frz,kN]at h;obtain⟨ds,M,rfl⟩:=h;have Z:=U M ⟨hl,G⟩;exact .tuple ds vs Z.1 Z.2
  | iface t a v G =>
   simp only[frz,kN]at h;obtain⟨d,M,rfl⟩:=h;exact .iface t d v (ih n (dZ n) a d M g g' v hg G)
  | fn f fs cs us vs b4 b3 hf B =>
   simp only[frz]at h;split at h
   .rename_i y b' ha hb;cases h;have O:=U ha ⟨b4,hf⟩;have H:=U hb ⟨b3,B⟩;exact .fn f y b' us vs O.1 H.1 O.2 H.2
   .cases h
  | eptr cs o b off pre hp hl O G =>
   simp only[frz,kN]at h;obtain⟨ds,M,rfl⟩:=h;obtain⟨ext,hx⟩:=hg b pre hp;obtain⟨e1,e2⟩:=uS M;refine .eptr ds o b off (pre++ext) hx (by rw[<-e1];simp;omega) (b0 M O) λj c u B hu=>?_
   obtain⟨y,S,Y⟩:=e2 j c B;have hj:j<cs.length:=(cX.1 S).1;exact ih n (dZ n) y c Y g g' u hg (G j y u S (aAV aB hu))
  | list0 tk a cap hm ht =>
   simp only[frz,iA,gS,bM]at h;subst h;exact .list0 none a cap hm aV
  | list tk es b off sz cap pre hp hl B hm hs O G ht =>
   simp only[frz,kN]at h;obtain⟨ds,M,rfl⟩:=h;obtain⟨ext,hx⟩:=hg b pre hp;obtain⟨e1,e2⟩:=uS M;rw[e1]at hl B⊢;refine .list none ds b off sz cap (pre++ext) hx (by simp;omega) B hm (λe he=>?_) (λe he c b1=>?_) (λi e j c u hi hj hu=>?_) aV
   .obtain⟨y,H,S⟩:=aDX M he;rw[<-(aGR n y e S).1];exact hs y H
   .obtain⟨y,H,S⟩:=aDX M he;obtain⟨j,hj,rfl⟩:=iC b1;obtain⟨m,c',b5,Y,h5⟩:=(aGR n y e S).2 j _ (cO hj);rw[aHz m c' _ h5];exact O y H c' (bA Y)
   .obtain⟨y,H,S⟩:=e2 i e hi;obtain⟨m,c',b5,Y,h5⟩:=(aGR n y e S).2 j c hj;have b2:i<ds.length:=(cX.1 hi).1;have b6:j<y.cells.length:=(cX.1 Y).1
    have hb:i * sz+j<ds.length * sz:=by
     have h6:(i+1) * sz<=ds.length * sz:=qD _ b2;have h7:=hs y (bA H);rw[fO]at h6;omega
    exact ih m aB c' c h5 g g' u hg (G i y j c' u H Y (aAV aB hu))
section
variable {C:Cx}
theorem aPH(d:Bool)(bb:∀b cs,C.gl b=some cs->∀c,c∈cs->c.lp c){f:FuncId}{args B:List A}{KV Kp:St->A->Prop}{s:St}{a':A}{Q:St->A->Prop}
  (b6:B.length=args.length)(b1:∀(j:Nat) (x y:A),args[j]?=some x->B[j]?=some y->x.lp y)
  (conv : ∀ (H : Fr) (g2 : Gh) (s2 : St) (O : World) (r : A) (v : Value),R ({ C with det := d } : Cx).toCtx H g2 s2 O → Rz g2 r v → Q s2 r → ∃ G : Nat → Option (List Value),
   (∀b pre,G b=some pre->∃rest e fr,O.heap[b]?=some (.cells (pre++rest).toArray e fr))/\(∀b,H b≠none->G b=g2.pi b) /\
   ∀g':Gh,(∀b pre,G b=some pre->∃ext,g'.pi b=some (pre++ext))->Rz g' a' v)
  (h:Den { C with det:=d } f B Q (λ_ _=>False) St.zero)(hk:KV s a'):Den C f args KV Kp s:=by
 intro F g w vals M hv
 let H:Fr:=λb=>(w.heap[b]?).map λo=>(o,g.pi b)
 let g1:Gh:=⟨g.pi,λ_ _=>none,λ_=>none,g.env⟩
 have b5:g.lep g1:=λb pre z=>⟨[],gQ z⟩
 have b9:R ({ C with det:=d }:Cx).toCtx H g1 St.zero w:=by
  have z1:∀b,St.zero.getO b=none:=λb=>rfl
  have z2:∀b,St.zero.getT b=none:=λb=>rfl
  have z3:∀b,g1.beta b=none:=λb=>rfl
  refine⟨λb o ho=>?_,λt n e Z=>?_,λt t' n n' v v' b bk Z=>?_,M.pis,λb o ho=>?_,λb cs u=>?_,⟨0,λt _=>⟨rfl,λm=>rfl,rfl⟩⟩,λb k u=>?_,λb b' k u=>?_,λ_ b _=>⟨rfl,λm=>rfl⟩,λx U=>(by cases U),λb k u=>(by rw[z3]at u;cases u),M.env⟩
  .rw[z1]at ho;cases ho
  .rw[z2]at Z;cases Z
  .rw[z2]at Z;cases Z
  rotate_left 2
  .rw[z3]at u;cases u
  .rw[z3]at u;cases u
  .simp only[H,kN]at ho;obtain⟨x,U,rfl⟩:=ho;exact⟨U,rfl⟩
  .obtain⟨pre,ty,fr,z,bd,hl,h1,Y⟩:=M.gpi u;exact⟨pre,ty,fr,by simp only[H,z,bd,gS],hl,h1,λj c v hc hv=>bb b cs u c (bA hc) g g1 v b5 (Y j c v hc hv)⟩
 have bg:Rzs g1 B vals:=⟨hv.1.trans b6.symm,λj c v hc bh=>by
  have hj:j<args.length:=by rw[<-b6];exact(cX.1 hc).1
  exact b1 j args[j] c (cO hj) hc g g1 v b5 (hv.2 j args[j] v (cO hj) bh)⟩
 have b7:=h H g1 w vals b9 bg
 have fin:∀(g2:Gh) (s2:St) (O:World) (r:A) (v:Value),g1.le g2->R ({ C with det:=d }:Cx).toCtx H g2 s2 O->Rz g2 r v->Q s2 r ->
   ∃S,g.le S/\R C.toCtx F S s O/\Rz S a' v:=by
  intro g2 s2 O r v bc b0 bf hq;obtain⟨G,c1,c2,c3⟩:=conv H g2 s2 O r v b0 bf hq
  have b2:∀b,b<w.heap.size->O.heap[b]?=w.heap[b]?/\G b=g.pi b:=by
   intro b u;have U:w.heap[b]?=some w.heap[b]:=aAk u;have b3:H b=some (w.heap[b],g.pi b):=by simp only[H,U,gS]
   have:=b0.frm b (w.heap[b],g.pi b) b3;exact⟨by rw[this.1,U],by rw[c2 b (by rw[b3];simp),this.2]⟩
  have b4:(O.os,O.output)=(w.os,w.output):=(b0.env.trans bc.env).trans M.env.symm;refine⟨⟨λb=>if b<w.heap.size then g.pi b else G b,g.eta,g.beta,g.env⟩,⟨λb pre z=>⟨[],?_⟩,λ_ _ _ h=>h,λ_ _ h=>h,rfl⟩,?_,c3 _ λb pre z=>⟨[],?_⟩⟩
  .have u:=M.lt_pi z;simp[u,z]
  .refine(M.keep (w':=O) (λb u=>(b2 b u).1) b4).ghost ⟨λb pre z=>⟨[],?_⟩,λ_ _ _ h=>h,λ_ _ h=>h,rfl⟩ (λb k u z=>?_) (λb pre z=>?_) (λt n e v b xs _ _ _ U=>?_) rfl rfl (λb o ho=>?_)
   .have u:=M.lt_pi z;simp[u,z]
   .have:=M.bet b k u;simp[this,z]
   .by_cases u:b<w.heap.size
    .simp only[u,dJ]at z;rw[(b2 b u).1];exact M.pis b pre z
    .simp only[u,dY]at z;exact c1 b pre z
   .have u:=M.lt_pi U;simp[u,U]
   .have u:=M.lt_frm ho;simp[u]
  .by_cases u:b<w.heap.size
   .simp only[u,dJ,cK];rw[<-(b2 b u).2];exact z
   .simp only[u,dY,cK];exact z
 revert b7;show OutV ({ C with det:=d }:Cx) H g1 _ _ ((callFunc f vals.toArray).run C.P w)->_;generalize (callFunc f vals.toArray).run C.P w=r;intro Y;cases r with
 | ok x w' =>
  cases x<;>simp only[OutV]at Y⊢
  .obtain⟨g2,a2,s2,h1,h2,h3,h4⟩:=Y;obtain⟨S,e1,e2,e3⟩:=fin g2 s2 w' a2 _ h1 h2 h3 h4;exact⟨S,a',s,e1,e2,e3,hk⟩
  .obtain⟨g2,s2,h1,h2,h3⟩:=Y;obtain⟨S,e1,e2,Z⟩:=fin g2 s2 w' _ _ h1 h2 (.tuple [] [] rfl aV) h3
   have hl:a'=.tuple []:=by
    generalize b8:(Value.tuple ([]:List Value).toArray)=v at Z;cases Z<;>first|(cases b8;done)|skip
    rename_i cs vs hl _;have h0:vs=[]:=gQ b8.symm;subst h0;rw[eK hl.symm]
   subst hl;exact⟨S,s,e1,e2,hk⟩
  .refine Calls.mono Y λen bj z=>?_
   cases en with
   | returned v =>
    obtain⟨g2,a2,s2,h1,h2,h3,h4⟩:=z;obtain⟨S,e1,e2,e3⟩:=fin g2 s2 bj a2 _ h1 h2 h3 h4;exact⟨S,a',s,e1,e2,e3,hk⟩
   | panicked mE=>obtain⟨g2,a2,v,s2,_,_,_,_,h⟩:=z;exact h.elim
   | outgrown=>exact z
 | halt x w' =>
  cases x<;>simp only[OutV]at Y⊢
  obtain⟨g2,a2,s2,_,_,_,h⟩:=Y;exact h.elim
theorem aGk(d:Bool)(B:∀b cs,C.gl b=some cs->∀c,c∈cs->c.lp c){f:FuncId}{args:List A}{KV Kp:St->A->Prop}{s:St}{H:A}{Q:St->A->Prop}
  (u:∀x,x∈args->x.lp x)
  (conv : ∀ (G : Fr) (g2 : Gh) (s2 : St) (U : World) (r : A) (v : Value),R ({ C with det := d } : Cx).toCtx G g2 s2 U → Rz g2 r v → Q s2 r → ∃ z : Nat → Option (List Value),
   (∀b pre,z b=some pre->∃rest e fr,U.heap[b]?=some (.cells (pre++rest).toArray e fr))/\(∀b,G b≠none->z b=g2.pi b) /\
   ∀M:Gh,(∀b pre,z b=some pre->∃ext,M.pi b=some (pre++ext))->Rz M H v)
  (h:Den { C with det:=d } f args Q (λ_ _=>False) St.zero)(Y:KV s H):Den C f args KV Kp s :=
 aPH d B rfl (λj x y O S=>by rw[O]at S;cases S;exact u x (bA O)) conv h Y
theorem aTA{X:XP}(h:X.ok C)(fuel:Nat):vW C (xF X (sH X fuel)):=aLx h (aTG h fuel)
def aFa(r:CR):Option A:=match r with
 | .val a σ=>match a with
  | .ml b off n=>match σ.bx.gt b with
   | some (.cells _ cs)=>match Nat.beq off 0&&Nat.beq n cs.length with
    | true=>match iA (frz 60) cs with
     | some ds=>some (.list none ds)
     | none=>none
    | false=>none
   | _=>none
  | a=>frz 60 a
 | _=>none
theorem aVh{F1:Fr}{g2:Gh}{s2:St}{w2:World}{b n:Nat}{e:TypeId}{cs ds:List A}{v:Value}(hR:R C.toCtx F1 g2 s2 w2)(hv:Rz g2 (.ml b 0 n) v)(hb:s2.getO b=some (.cells e cs))(hn:n=cs.length)
  (hd:iA (frz 60) cs=some ds):∃ M:Nat→Option (List Value),
   (∀b pre,M b=some pre->∃rest e fr,w2.heap[b]?=some (.cells (pre++rest).toArray e fr))/\(∀b,F1 b≠none->M b=g2.pi b) /\
   ∀O:Gh,(∀b pre,M b=some pre->∃ext,O.pi b=some (pre++ext))->Rz O (.list none ds) v:=by
 obtain⟨k,b0,⟨vs,rest,hh,H,Z⟩,b3,hF⟩:=hR.obj b _ hb;obtain⟨k',cap,rfl,z,hc,hm⟩:=hv.ml_inv;rw[b0]at z;cases z;obtain⟨e1,e2⟩:=uS hd;refine⟨λc=>if c=k then some vs else g2.pi c,λc pre B=>?_,λc hc=>?_,λO hg=>?_⟩
 .by_cases S:c=k
  .subst S;simp only[dJ,bM]at B;subst B;exact⟨rest,e,_,hh⟩
  .simp only[S,dY]at B;exact hR.pis c pre B
 .have:c≠k:=by rintro rfl;exact hc hF
  simp[this]
 .obtain⟨ext,hx⟩:=hg k vs aV
  have Y:g2.lep O:=λc pre B=>by
   have:c≠k:=by rintro rfl;rw[b3]at B;cases B
   exact hg c pre (by simp[this,B])
  have h:∀d,d∈ds->d.one=true/\d.cells=[d]:=by
   intro d y;obtain⟨a,h1,h2⟩:=aDX hd y;have h3:d.one=true:=by rw[aHz 60 a d h2];exact Z a h1
   exact⟨h3,by cases d<;>first|rfl|cases h3⟩
  have U:n=ds.length:=by rw[hn,e1]
  rw[U]at hc⊢;refine .list none ds k 0 1 cap (vs++ext) hx (by have:=H.1;simp;omega) hc hm (λd y=>by rw[(h d y).2];rfl) (λd y c G=>?_) (λi d j c u hi hj hu=>?_) aV
  .rw[(h d y).2]at G;simp only[bS]at G;subst G;exact(h c y).1
  .have b1:=bA hi;rw[(h d b1).2]at hj;cases j with
   | succ j=>simp at hj
   | zero =>
    simp only[iO,bM]at hj;subst hj;obtain⟨a,h1,h2⟩:=e2 i d hi;have b2:i<cs.length:=(cX.1 h1).1
    have b4:vs[i]?=some u:=by
     rw[show 0+i * 1+0=i by omega]at hu;exact aAV (by rw[H.1];exact b2) hu
    exact tR 60 a d h2 g2 O u Y (H.2 i a u h1 b4)
theorem Den.run(d:Bool){X:XP}(hX:X.ok { C with det:=d })(B:∀b cs,C.gl b=some cs->∀c,c∈cs->c.lp c){fuel:Nat}{f:FuncId}{args:List A}{KV Kp:St->A->Prop}{s:St}{O:A}
  (z:iA (frz 60) args=some args)(h:aFa (aIw X fuel f args)=some O)(hk:KV s O):Den C f args KV Kp s:=by
 have G:∀x,x∈args->x.lp x:=λx hx=>by
  obtain⟨j,hj,rfl⟩:=iC hx;obtain⟨y,h1,h2⟩:=(uS z).2 j args[j] (cO hj);rw[cO hj]at h1;cases h1;exact tR 60 _ _ h2
 unfold aFa at h;split at h
 .rename_i a H hr
  have u:Den { C with det:=d } f args (λs2 r=>r=a/\Sim s2 H) (λ_ _=>False) St.zero:=by
   refine aTA hX fuel f args ⟨.lf,.lf,0,none⟩ St.zero _ _ ⟨λb=>rfl,λt=>rfl,rfl,rfl⟩ ?_;have e0:xF X (sH X fuel) f args ⟨.lf,.lf,0,none⟩=.val a H:=hr;rw[e0];exactλs' M=>⟨rfl,M⟩
  split at h
  .rename_i b off n;split at h
   .rename_i e cs hb;split at h
    .rename_i U;simp only[aY]at U;obtain rfl:=cQ U.1;split at h
     .rename_i ds hd;cases h;refine aGk d B G (λF1 g2 s2 w2 r v S Z Y=>?_) u hk;obtain⟨rfl,M⟩:=Y;exact aVh S Z (by rw[M.ob];exact hb) (cQ U.2) hd
     .cases h
    .cases h
   .cases h
  .refine aGk d B G (λF1 g2 s2 w2 r v S Z Y=>?_) u hk;obtain⟨rfl,M⟩:=Y;exact⟨g2.pi,S.pis,λb _=>rfl,λg' hg=>tR 60 _ O h g2 g' v hg Z⟩
 .cases h
end
end
end
attribute [go_sem] Nat.reduceLT Nat.reduceEqDiff Nat.reduceBEq Nat.reduceAdd Nat.reduceLeDiff Nat.reduceMul reduceIte reduceCtorEq List.map eU mQ List.elem wG tA eO fN bF bB bQ iO List.getElem?_cons_succ gK jA bL bE aF3 aDj List.take_succ_cons iD List.drop_succ_cons List.take_nil Nat.succ_eq_add_one uO Int.toNat_zero Nat.sub_zero Nat.zero_lt_succ dT dD gY eY
abbrev aA:=List UInt8
structure Fault where
 code:Int
 name:aA
 line:Int
 col:Int
 deriving DecidableEq
def Fault.none:Fault:=⟨0,[],0,0⟩
def Fault.cs(f:Fault):List A:=[.int .i64 f.code,.str f.name,.int .i64 f.line,.int .i64 f.col]
def Fault.enc(f:Fault):A:=.agg f.cs
structure Tok where
 kind:Int
 text:aA
 n:Int
 line:Int
 col:Int
 deriving DecidableEq
def Tok.cs(t:Tok):List A:=[.int .i64 t.kind,.str t.text,.int .i64 t.n,.int .i64 t.line,.int .i64 t.col]
def Tok.enc(t:Tok):A:=.agg t.cs
inductive Tm where
 | mk (kind n:Int) (text sort:aA) (kids rest:List Tm)
def Tm.kind:Tm->Int|.mk k _ _ _ _ _=>k
def Tm.n:Tm->Int|.mk _ n _ _ _ _=>n
def Tm.text:Tm->aA|.mk _ _ t _ _ _=>t
def Tm.sort:Tm->aA|.mk _ _ _ s _ _=>s
def Tm.kids:Tm->List Tm|.mk _ _ _ _ ks _=>ks
def Tm.rest:Tm->List Tm|.mk _ _ _ _ _ h=>h
mutual
def Tm.enc:Tm->A
 | .mk k n t s ks rs=>.agg [.int .i64 k,.int .i64 n,.str t,.str s,.list none (aCj ks),.list none (aCj rs)]
def aCj:List Tm->List A
 | []=>[]
 | t::r=>t.enc::aCj r
end
theorem aJG:∀l:List Tm,aCj l=l.map Tm.enc
 | []=>rfl
 | t::r=>by rw[aCj,aJG r];rfl
def Tm.cs(t:Tm):List A:=[.int .i64 t.kind,.int .i64 t.n,.str t.text,.str t.sort,.list none (t.kids.map Tm.enc),.list none (t.rest.map Tm.enc)]
theorem Tm.enc_eq(t:Tm):t.enc=.agg t.cs:=by
 cases t;simp only[Tm.enc,Tm.cs,Tm.kind,Tm.n,Tm.text,Tm.sort,Tm.kids,Tm.rest,aJG]
def strs(l:List aA):A:=.list none (l.map .str)
structure Below where
 low:aA
 high:aA
 deriving DecidableEq
def Below.cs(b:Below):List A:=[.str b.low,.str b.high]
def Below.enc(b:Below):A:=.agg b.cs
structure Piece where
 text:aA
 sort:aA
 deriving DecidableEq
def Piece.cs(b:Piece):List A:=[.str b.text,.str b.sort]
def Piece.enc(b:Piece):A:=.agg b.cs
structure Opr where
 name:aA
 args:List aA
 sort:aA
 pieces:List Piece
 prec:Int
 assoc:Int
 strict:List Int
 deriving DecidableEq
def Opr.cs(o:Opr):List A:=[.str o.name,.list none (o.args.map .str),.str o.sort,.list none (o.pieces.map Piece.enc),.int .i64 o.prec,.int .i64 o.assoc,.list none (o.strict.map (.int .i64))]
def Opr.enc(o:Opr):A:=.agg o.cs
structure Sig where
 sorts:List aA
 below:List Below
 ops:List Opr
 funs:List Opr
 values:List aA
def Sig.cs(s:Sig):List A:=[.list none (s.sorts.map .str),.list none (s.below.map Below.enc),.list none (s.ops.map Opr.enc),.list none (s.funs.map Opr.enc),.list none (s.values.map .str)]
def Sig.enc(s:Sig):A:=.agg s.cs
structure Eqn where
 left:Tm
 right:Tm
 cond:List Tm
 line:Int
 col:Int
def Eqn.cs(e:Eqn):List A:=e.left.cs++(e.right.cs++[.list none (e.cond.map Tm.enc),.int .i64 e.line,.int .i64 e.col])
def Eqn.enc(e:Eqn):A:=.agg e.cs
structure Cel where
 name:aA
 sort:aA
 init:Tm
 line:Int
 col:Int
def Cel.cs(c:Cel):List A:=.str c.name::.str c.sort::(c.init.cs++[.int .i64 c.line,.int .i64 c.col])
def Cel.enc(c:Cel):A:=.agg c.cs
structure Part where
 cell:aA
 at_:aA
 left:Tm
 right:List Tm
 line:Int
 col:Int
def Part.cs(p:Part):List A:=.str p.cell::.str p.at_::(p.left.cs++[.list none (p.right.map Tm.enc),.int .i64 p.line,.int .i64 p.col])
def Part.enc(p:Part):A:=.agg p.cs
structure Fresh where
 cells:List Tm
def Fresh.cs(f:Fresh):List A:=[.list none (f.cells.map Tm.enc)]
def Fresh.enc(f:Fresh):A:=.agg f.cs
structure Rul where
 name:aA
 parts:List Part
 cond:List Tm
 new:List Fresh
 drop:List aA
 line:Int
 col:Int
def Rul.cs(r:Rul):List A:=[.str r.name,.list none (r.parts.map Part.enc),.list none (r.cond.map Tm.enc),.list none (r.new.map Fresh.enc),.list none (r.drop.map .str),.int .i64 r.line,.int .i64 r.col]
def Rul.enc(r:Rul):A:=.agg r.cs
structure Dfn where
 name:aA
 sig:Sig
 eqs:List Eqn
 once:List Cel
 kind:aA
 many:List Cel
 rules:List Rul
 start:aA
 watch:aA
def Dfn.cs(d:Dfn):List A:=.str d.name::(d.sig.cs++[.list none (d.eqs.map Eqn.enc),.list none (d.once.map Cel.enc),.str d.kind,.list none (d.many.map Cel.enc),.list none (d.rules.map Rul.enc),.str d.start,.str d.watch])
def Dfn.enc(d:Dfn):A:=.agg d.cs
attribute [go_sem] Fault.enc Fault.cs Tok.enc Tok.cs Tm.enc_eq Tm.cs Below.enc Below.cs Piece.enc Piece.cs Opr.enc Opr.cs Sig.enc Sig.cs Eqn.enc Eqn.cs Cel.enc Cel.cs Part.enc Part.cs Fresh.enc Fresh.cs Rul.enc Rul.cs Dfn.enc Dfn.cs
mutual
def Tm.same:Tm->Tm->Bool
 | .mk k n t s ks rs,.mk k' n' t' s' ks' rs'=>decide (k=k')&&(decide (n=n')&&(decide (t=t')&&(decide (s=s')&&(aAL ks ks'&&aAL rs rs'))))
def aAL:List Tm->List Tm->Bool
 | [],[]=>true
 | a::l,b::r=>Tm.same a b&&aAL l r
 | _,_=>false
end
theorem kR{t x:Tm}(h:x∈t.kids):SizeOf.sizeOf x<SizeOf.sizeOf t:=by
 cases t;have:=List.sizeOf_lt_of_mem h;simp only[Tm.kids]at this;simp only[Tm.mk.sizeOf_spec];omega
theorem uM{t x:Tm}(h:x∈t.rest):SizeOf.sizeOf x<SizeOf.sizeOf t:=by
 cases t;have:=List.sizeOf_lt_of_mem h;simp only[Tm.rest]at this;simp only[Tm.mk.sizeOf_spec];omega
def fZ:=@Tm.enc_eq
def nN(c:Int):Bool:=(decide (97<=c)&&decide (c<=122))||(decide (65<=c)&&decide (c<=90))
def jK(c:Int):Bool:=nN c||((decide (48<=c)&&decide (c<=57))||decide (c=95))
def cA(s:List UInt8):Bool:=match s with
 | []=>false
 | c::_=>decide (s.length<=40)&&(nN c.toNat&&s.all λc=>jK c.toNat)
def rI(x p:aA):Bool:=decide (p.length<=x.length)&&decide (x.take p.length=p)
def lS(c:Int):Bool:=decide (48<=c)&&decide (c<=57)
def eP:Nat × Nat->aA->Nat × Nat
 | p,[]=>p
 | (l,c),b::r=>if b=10 then eP (l+1,1) r else eP (l,c+1) r
def wS(b:UInt8):Bool:=decide (b=32)||(decide (b=9)||(decide (b=10)||decide (b=13)))
def sU:Nat->aA->Nat
 | 0,_=>0
 | _+1,[]=>0
 | f+1,b::r=>if wS b=true then 1+sU f r
  else if rI (b::r) [47,47]=true then((b::r).takeWhile (λc=>!decide (c=10))).length+sU f ((b::r).drop ((b::r).takeWhile (λc=>!decide (c=10))).length)
  else 0
def gI(w:aA):Nat:=sU w.length w
def qB(b:UInt8):Bool:=decide (32<=b.toNat)&&(decide (b.toNat<=126)&&(!decide (b=34)&&!decide (b=92)))
def sK(x:aA):Bool:=x.all qB&&decide (x.length<=200)
def yA(c:UInt8)(b:UInt8):Bool:=decide (b=c)
def hY(x:aA):Nat:=x.foldl (λn d=>n * 10+(d.toNat-48)) 0
def aEt(x:aA):Prop:=∀d,d∈x->48<=d.toNat/\d.toNat<=57
def vF(x:aA):Tok × Nat × Bool :=
 let n:=(x.takeWhile λc=>lS c.toNat).length
 let g:=(x.take n).dropWhile (yA 48)
 if 10<g.length\/(∃c,x[n]?=some c/\jK c.toNat=true) then(⟨0,[],0,0,0⟩,0,false)
 else(⟨2,[],hY g,0,0⟩,n,decide (hY g<=2147483647))
def qS(w:aA):List aA->Nat->Nat
 | [],n=>n
 | x::r,n=>qS w r (if n<x.length/\rI w x=true then x.length else n)
def sN(w:aA)(sg:List aA)(op:Bool):Tok × Nat × Bool :=
 match w with
 | []=>(⟨0,[],0,0,0⟩,0,false)
 | c::r =>
  if cA [c] then
   let n:=(w.takeWhile λc=>jK c.toNat).length
   (⟨1,w.take n,0,0,0⟩,n,decide (n<=40))
  else if lS c.toNat then vF w
  else if c=34 then
   let n:=(Lib.indexByte r 34+2).toNat
   (⟨3,r.take (n-2),0,0,0⟩,n,decide (1<n)&&sK (r.take (n-2)))
  else
   let n:=qS w sg 0
   let n:=if n=0/\op=true/\(c=39\/c=95) then 1 else n
   (⟨4,w.take n,0,0,0⟩,n,decide (0<n))
def aLw:List UInt8:=[97,100,100,32,115,117,98,32,109,117,108,32,100,105,118,32,109,111,100,32,110,101,103,32,108,116,32,108,101,32,103,116,32,103,101,32,101,113,32,110,101,32,97,110,100,32,111,114,32,110,111,116,32,112,105,99,107,32,99,97,116,32,108,101,110,103,116,104,32,116,101,120,116,32,106,111,105,110,32,103,101,116,32,112,117,116,32,104,97,115,32,100,101,108,32,107,101,121,115,32,115,105,122,101,32,105,115,32,105,115,118,97,108,117,101]
def fX:List (List UInt8):=[[97,100,100],[115,117,98],[109,117,108],[100,105,118],[109,111,100],[110,101,103],[108,116],[108,101],[103,116],[103,101],[101,113],[110,101],[97,110,100],[111,114],[110,111,116],[112,105,99,107],[99,97,116],[108,101,110,103,116,104],[116,101,120,116],[106,111,105,110],[103,101,116],[112,117,116],[104,97,115],[100,101,108],[107,101,121,115],[115,105,122,101],[105,115],[105,115,118,97,108,117,101]]
def aEC:List UInt8:=[61,62,32,45,62,32,58,32,59,32,44,32,46,32,64,32,124,32,40,32,41,32,91,32,93,32,123,32,125,32,60,32,61,32,45,32,36]
def vG:List (List UInt8):=[[61,62],[45,62],[58],[59],[44],[46],[64],[124],[40],[41],[91],[93],[123],[125],[60],[61],[45],[36]]
def aLh:List UInt8:=[108,97,110,103,117,97,103,101,32,115,111,114,116,32,115,117,98,115,111,114,116,32,118,97,108,117,101,32,111,112,32,102,117,110,32,108,101,116,32,105,102,32,115,116,97,114,116,32,99,101,108,108,32,109,97,110,121,32,119,97,116,99,104,32,114,117,108,101,32,112,114,101,99,32,108,101,102,116,32,114,105,103,104,116,32,115,116,114,105,99,116,32,110,101,119,32,100,114,111,112,32,116,114,117,101,32,102,97,108,115,101]
def aAH:List (List UInt8):=[[108,97,110,103,117,97,103,101],[115,111,114,116],[115,117,98,115,111,114,116],[118,97,108,117,101],[111,112],[102,117,110],[108,101,116],[105,102],[115,116,97,114,116],[99,101,108,108],[109,97,110,121],[119,97,116,99,104],[114,117,108,101],[112,114,101,99],[108,101,102,116],[114,105,103,104,116],[115,116,114,105,99,116],[110,101,119],[100,114,111,112],[116,114,117,101],[102,97,108,115,101]]
inductive Lx where
 | ok (l:List Tok)
 | bad (f:Fault)
def aE4(sg:List aA)(op:Bool):Nat->aA->Nat × Nat->List Tok->Lx
 | _,[],_,h=>.ok h
 | 0,_::_,_,h=>.ok h
 | f+1,c::r,p,h=>match sN (c::r) sg op with
  | (t,n,true)=>aE4 sg op f (((c::r).drop n).drop (gI ((c::r).drop n))) (eP (eP p ((c::r).take n)) (((c::r).drop n).take (gI ((c::r).drop n))))
    (h++[⟨t.kind,t.text,t.n,p.1,p.2⟩])
  | (_,_,false)=>.bad ⟨10,[c],p.1,p.2⟩
def xU(sg:List aA)(op:Bool)(w:aA):Lx:=aE4 sg op w.length (w.drop (gI w)) (eP (1,1) (w.take (gI w))) []
@[go_sem] theorem aZn:cx.det=false:=rfl
@[go_sem] theorem aYh(x:A)(l:List A):aBo (x::l)=.list none (x::l):=rfl
@[go_sem] theorem aYK:aBo []=.emp:=rfl
def gs(s:St)(tk:Option Nat)(n:Nat)(e:TypeId):St:=match tk with
 | none=>s
 | some t=>s.setT t (n,e)
@[go_sem] theorem mM(s:St)(tk:Option Nat)(n:Nat)(e:TypeId)(b:Nat):(gs s tk n e).getO b=s.getO b:=by cases tk<;>rfl
@[go_sem] theorem aEd(s:St)(tk:Option Nat)(n:Nat)(e:TypeId)(b:Nat)(o:Ob):(gs s tk n e).setO b o=gs (s.setO b o) tk n e:=by cases tk<;>rfl
@[go_sem] theorem aYr(s:St)(t:Nat)(v:Nat × TypeId)(b:Nat)(o:Ob):(s.setT t v).setO b o=(s.setO b o).setT t v:=rfl
attribute [go_sem] qY yB
@[go_sem] theorem aYe(s:St)(t b:Nat):(s.delT t).getO b=s.getO b:=rfl
@[go_sem] theorem aYp(s:St)(x:Option (Nat × Nat × A))(b:Nat)(o:Ob):(s.setL x).setO b o=(s.setO b o).setL x:=rfl
@[go_sem] theorem aYc(s:St)(t:Nat)(b:Nat)(o:Ob):(s.delT t).setO b o=(s.setO b o).delT t:=rfl
@[go_sem] theorem aZd(s:St)(x:Option (Nat × Nat × A)):(s.setL x).ls=x:=rfl
theorem iS{s:St}{tk:Option Nat}{n:Nat}{e:TypeId}(h:tk=none->n=0):mN (gs s tk n e) tk n e:=by
 cases tk with
 | none=>exact h rfl
 | some t=>simp only[mN,gs,fE,aF]
theorem kF{s:St}{tk:Option Nat}{n:Nat}{e:TypeId}{t:Nat}(h:tk=some t\/tk=none/\(gs s tk n e).getT t=none)(v:Nat × TypeId):(gs s tk n e).setT t v=s.setT t v:=by
 rcases h with rfl|⟨rfl,_⟩
 .simp only[gs,St.setT,aAW]
 .rfl
theorem kB{s:St}{tk:Option Nat}{n:Nat}{e:TypeId}{t:Nat}(h:tk=some t\/tk=none/\(gs s tk n e).getT t=none)(u:∀t,tk=some t->s.getT t=none):s.getT t=none:=by
 rcases h with rfl|⟨rfl,h⟩
 .exact u t rfl
 .exact h
theorem eJ{s s':St}(z:s.ge s'){tk:Option Nat}{n:Nat}{e:TypeId}(h:∀t,tk=some t->s.getT t=none):(gs s tk n e).ge s':=by
 cases tk with
 | none=>exact z
 | some t =>
  refine⟨λb o M=>z.ob b o M,λu m H=>?_,λx O=>z.ls x O⟩;have B:=z.tk u m H;have G:=h t rfl;simp only[gs,fE];by_cases y:t=u
  .subst y;rw[G]at B;cases B
  .simp only[y,dY];exact B
theorem sA(s:St)(tk:Option Nat)(n:Nat)(e:TypeId)(t:Nat):(gs s tk n e).getT t=if tk=some t then some (n,e) else s.getT t:=by
 cases tk with
 | none=>rfl
 | some u=>simp only[gs,fE,bM]
theorem aTR{s s':St}{tk:Option Nat}{n:Nat}{e:TypeId}(u:∀b o,s'.getO b=some o->s.getO b=some o)(hl:∀x,s'.ls=some x->s.ls=some x)
  (y:∀t m,tk≠some t->s'.getT t=some m->s.getT t=some m):(gs s tk n e).ge (gs s' tk n e):=by
 refine⟨λb o h=>by rw[mM]at h⊢;exact u b o h,λt m h=>?_,λx h=>by cases tk<;>exact hl x h⟩;rw[sA]at h⊢;by_cases e:tk=some t
 .rw[aF e]at h⊢;exact h
 .rw[aE e]at h⊢;exact y t m e h
theorem nM(tk:Option Nat)(es:List A)(h:tk=none->es=[]):A.le (gv tk es) (.list none es):=by
 cases tk with
 | none=>rw[h rfl];exact A.le.nil
 | some t=>exact A.le.forget _ _
theorem dV{s s2:St}{t:Nat}{v:Nat × TypeId}(h:s.ge s2):(s.setT t v).ge (s2.setT t v):=by
 refine⟨λb o z=>h.ob b o z,λu m y=>?_,λx B=>h.ls x B⟩;rw[fE]at y⊢;split
 .rename_i e;rw[aF e]at y;exact y
 .rename_i e;rw[aE e]at y;exact h.tk u m y
theorem aKd{s s2:St}{b:Nat}{o:Ob}(h:s.ge s2):(s.setO b o).ge (s2.setO b o):=by
 refine⟨λc x y=>?_,λu m z=>h.tk u m z,λx B=>h.ls x B⟩;rw[aX]at y⊢;split
 .rename_i e;rw[aF e]at y;exact y
 .rename_i e;rw[aE e]at y;exact h.ob c x y
theorem aPK(s:St)(t:Nat)(v u:Nat × TypeId):((s.setT t v).setT t u).ge (s.setT t u):=by
 refine⟨λb o h=>h,λx m y=>?_,λx h=>h⟩;rw[fE]at y⊢;split
 .rename_i e;rw[aF e]at y;exact y
 .rename_i e;rw[aE e]at y;rw[fE,aE e];exact y
theorem aJF{s:St}{t:Nat}{v:Nat × TypeId}(h:s.getT t=none):(s.setT t v).ge s:=by
 refine⟨λb o h=>h,λx m u=>?_,λx h=>h⟩;rw[fE];by_cases e:t=x
 .subst e;rw[h]at u;cases u
 .rw[aE e];exact u
theorem aSc{X:St}{r q:Nat}{G H z:Ob}(O:X.getO q=none)(_:q≠r):(((X.setO r G).setO q H).setO r z).ge (X.setO r z):=by
 refine⟨λd x h=>?_,λu m M=>M,λx h=>h⟩;rw[aX]at h⊢;by_cases y:r=d
 .rw[aF y]at h⊢;exact h
 .rw[aE y]at h⊢;rw[aX];by_cases B:q=d
  .subst B;rw[O]at h;cases h
  .rw[aE B,aX,aE y];exact h
structure St.gx (s1 s:St) (r:Nat):Prop where
 ob:∀c,c≠r->∀x,s.getO c=some x->s1.getO c=some x
 tk:∀t m,s.getT t=some m->s1.getT t=some m
 ls:∀x,s.ls=some x->s1.ls=some x
theorem gA8(s:St)(r:Nat):s.gx s r:=⟨λ_ _ _ h=>h,λ_ _ h=>h,λ_ h=>h⟩
theorem aUG{y s:St}{r:Nat}{o:Ob}(h:y.gx s r):(y.setO r o).gx s r :=
 ⟨λc u x z=>by rw[aX,aE (Ne.symm u)];exact h.ob c u x z,h.tk,h.ls⟩
theorem St.gx.trans{s2 B s:St}{r:Nat}(h:s2.gx B r)(u:B.gx s r):s2.gx s r :=
 ⟨λc z x y=>h.ob c z x (u.ob c z x y),λt m G=>h.tk t m (u.tk t m G),λx y=>h.ls x (u.ls x y)⟩
theorem St.gx.ge{z s:St}{r:Nat}{o:Ob}(h:z.gx s r)(B:z.getO r=some o):z.ge (s.setO r o):=by
 refine⟨λc x u=>?_,h.tk,h.ls⟩;rw[aX]at u;by_cases y:r=c
 .subst y;rw[aF rfl]at u;rw[B];exact u
 .rw[aE y]at u;exact h.ob c (Ne.symm y) x u
def aE3:List A->List A->Prop
 | [],[]=>True
 | a::l,b::r=>zV a.cells b.cells/\aE3 l r
 | _,_=>False
theorem aLM:∀{l r:List A},aE3 l r->l.length=r.length
 | [],[],_=>rfl
 | _::_,_::_,h=>by simp only[bB,aLM h.2]
theorem aHc:∀{l r:List A},aE3 l r->∀(i:Nat) (b:A),r[i]?=some b->∃a:A,l[i]?=some a/\zV a.cells b.cells
 | a::l,b::r,h,0,x,u=>by
  simp only[iO,bM]at u⊢;subst u;exact⟨a,rfl,h.1⟩
 | a::l,b::r,h,i+1,x,u=>by
  simp only[List.getElem?_cons_succ]at u⊢;exact aHc h.2 i x u
 | [],[],_,_,_,u=>by simp at u
theorem A.le.list{l r:List A}(h:aE3 l r):A.le (.list none l) (.list none r):=λg v x=>by
 have u:=aLM h;cases x with
 | list tk es b off sz cap pre hp hl H O hs h1 Z ht =>
  rw[u]
  have key:∀e,e∈r->∃(i:Nat) (a:A),l[i]?=some a/\r[i]?=some e/\zV a.cells e.cells:=λe B=>by
   obtain⟨i,G,rfl⟩:=iC B;obtain⟨a,z,y⟩:=aHc h i _ (cO G);exact⟨i,a,z,cO G,y⟩
  refine .list none r b off sz cap pre hp (by rw[<-u];exact hl) (by rw[<-u];exact H) O (λe B=>?_) (λe B c H=>?_) (λi e j c v G M hv=>?_) aV
  .obtain⟨i,a,z,_,y⟩:=key e B;rw[<-aHb y];exact hs a (bA z)
  .obtain⟨i,a,z,_,y⟩:=key e B;obtain⟨j,M,rfl⟩:=iC H;exact(aCd y j _ (cO M)).choose_spec.2.2
  .obtain⟨a,z,y⟩:=aHc h i e G;obtain⟨S,U,Y,_⟩:=aCd y j c M;exact Y g v (Z i a j S v z U hv)
 | list0 tk a cap O ht =>
  have:r=[]:=eK (by rw[<-u];rfl);subst this;exact .list0 none a cap O aV
@[go_sem] theorem aYo(s:St)(x y:Option (Nat × Nat × A)):(s.setL x).setL y=s.setL y:=rfl
theorem cU{f:FuncId}{l:List A}{KV Kp:St->A->Prop}{s:St}(h:Den cx f l KV Kp s):Den jS f l KV Kp s:=by assumption
theorem pK{f:FuncId}{l:List A}{KV Kp:St->A->Prop}{s:St}(h:Den cx f l KV Kp s):Den mZ f l KV Kp s:=by assumption
theorem oS{X:St}{H Q:Nat->Prop}(k:∀p,H p->Q p)(h:∀p,X.getO p=none->H p:=by(intro p h;(try simp only[mM,gD6,mT]at h);exact h)):∀p,X.getO p=none->Q p:=λp e=>k p (h p e)
theorem gHe{p F:Prop}(f:F)(h:F->p:=by(intro f;simp only[aX,yB,qY,mM,mT,gA9,reduceIte,f]<;>(first|done|rfl|assumption))):p:=h f
structure St.gel (s1 s:St) (L M:List Nat):Prop where
 ob:∀c,c ∉ L->∀x,s.getO c=some x->s1.getO c=some x
 tk:∀t,t ∉ M->∀m,s.getT t=some m->s1.getT t=some m
 ls:∀x,s.ls=some x->s1.ls=some x
theorem aDY(s:St)(L M:List Nat):s.gel s L M:=⟨λ_ _ _ h=>h,λ_ _ _ h=>h,λ_ h=>h⟩
theorem aCD{u s:St}(h:u.gel s [] []):u.ge s:=⟨λc x z=>h.ob c aV x z,λt m y=>h.tk t aV m y,h.ls⟩
theorem aKX{u s:St}(h:u.ge s)(L M:List Nat):u.gel s L M:=⟨λc _ x z=>h.ob c x z,λt _ m y=>h.tk t m y,h.ls⟩
theorem St.gel.trans{s2 G s:St}{L M:List Nat}(h:s2.gel G L M)(u:G.gel s L M):s2.gel s L M :=
 ⟨λc z x y=>h.ob c z x (u.ob c z x y),λt B m H=>h.tk t B m (u.tk t B m H),λx y=>h.ls x (u.ls x y)⟩
theorem aMB{y s:St}{L M:List Nat}{b:Nat}{o:Ob}(z:y.getO b=some o)(h:y.gel s (b::L) M):y.gel (s.setO b o) L M :=
 ⟨fun c B x u => by
  rw[aX]at u;by_cases e:b=c
  .subst e;rw[aF rfl]at u;rw[z];exact u
  .rw[aE e]at u;exact h.ob c (by simp only[cR,not_or];exact⟨λh=>e h.symm,B⟩) x u,h.tk,h.ls⟩
theorem aTQ{z s:St}{L M:List Nat}{t:Nat}{v:Nat × TypeId}(B:z.getT t=some v)(h:z.gel s L (t::M)):z.gel (s.setT t v) L M :=
 ⟨h.ob,fun u G m y => by
  rw[fE]at y;by_cases e:t=u
  .subst e;rw[aF rfl]at y;rw[B];exact y
  .rw[aE e]at y;exact h.tk u (by simp only[cR,not_or];exact⟨λh=>e h.symm,G⟩) m y,h.ls⟩
theorem aNm{y s:St}{L M:List Nat}{b:Nat}{o:Ob}(z:b∈L)(h:y.gel s L M):(y.setO b o).gel s L M :=
 ⟨fun c u x B => by
  rw[aX,aE (λe:b=c=>u (e▸z))];exact h.ob c u x B,h.tk,h.ls⟩
theorem aCt{y s:St}{L M:List Nat}{b:Nat}{o:Ob}(z:s.getO b=none)(h:y.gel s L M):(y.setO b o).gel s L M :=
 ⟨fun c B x u => by
  rw[aX];by_cases e:b=c
  .subst e;rw[z]at u;cases u
  .rw[aE e];exact h.ob c B x u,h.tk,h.ls⟩
theorem aU4{y s:St}{L M:List Nat}{t:Nat}{v:Nat × TypeId}(z:t∈M)(h:y.gel s L M):(y.setT t v).gel s L M :=
 ⟨h.ob,fun c u x B => by
  rw[fE,aE (λe:t=c=>u (e▸z))];exact h.tk c u x B,h.ls⟩
theorem aLG{y s:St}{L M:List Nat}{t:Nat}{v:Nat × TypeId}(z:s.getT t=none)(h:y.gel s L M):(y.setT t v).gel s L M :=
 ⟨h.ob,fun c B x u => by
  rw[fE];by_cases e:t=c
  .subst e;rw[z]at u;cases u
  .rw[aE e];exact h.tk c B x u,h.ls⟩
theorem aNl{u s:St}{L M:List Nat}{tk:Option Nat}{n:Nat}{e:TypeId}(h:u.gel s L M)(y:∀t,tk=some t->s.getT t=none):(gs u tk n e).gel s L M:=by
 cases tk with
 | none=>exact h
 | some t=>exact aLG (y t rfl) h
theorem aKY{u s:St}{L M:List Nat}{tk:Option Nat}{n:Nat}{e:TypeId}(y:∀t,tk=some t->u.getT t=some (n,e))(h:u.gel s L (tk.toList++M)):u.gel (gs s tk n e) L M:=by
 cases tk with
 | none=>exact h
 | some t=>exact aTQ (y t rfl) h
theorem aGS{z s:St}{L M:List Nat}{tk:Option Nat}{n:Nat}{e:TypeId}(h:z.gel s L M):(gs z tk n e).gel (gs s tk n e) L M:=by
 cases tk with
 | none=>exact h
 | some t =>
  refine⟨h.ob,λu B m y=>?_,h.ls⟩;simp only[gs,fE]at y⊢;split
  .rename_i e;rw[aF e]at y;exact y
  .rename_i e;rw[aE e]at y;exact h.tk u B m y
theorem tK{h:St}{tk:Option Nat}{n:Nat}{e:TypeId}:∀t,tk=some t->(gs h tk n e).getT t=some (n,e):=by
 rintro t rfl;rw[sA,aF rfl]
@[go_sem] theorem getT_setO(s:St)(b:Nat)(o:Ob)(t:Nat):(s.setO b o).getT t=s.getT t:=rfl
theorem gB1{u s:St}{L M:List Nat}{tk:Option Nat}{n:Nat}{e:TypeId}(h:u.gel s L (tk.toList++M))(y:∀t,tk=some t->u.getT t=some (n,e):=by(rintro _ ⟨⟩;simp only[getT_setO,aPJ,fE,wF,sA,reduceIte,aG,bB,bQ,aW,gK,jA]<;>fail)):u.gel (gs s tk n e) L M:=aKY y h
theorem gB2{u s:St}{L M:List Nat}{t:Nat}{v:Nat × TypeId}(h:u.gel s L M)(y:t∈M:=by(simp only[Option.toList,bL,bE,cR,true_or,or_true]<;>fail)):(u.setT t v).gel s L M:=aU4 y h
theorem gB3{u s:St}{L M:List Nat}{b:Nat}{o:Ob}(h:u.gel s L M)(y:b∈L:=by(simp only[cR,true_or,or_true]<;>fail)):(u.setO b o).gel s L M:=aNm y h
abbrev iB:=Option Nat × Nat × TypeId
def fF(s:St):List iB->St
 | []=>s
 | o::l=>gs (fF s l) o.1 o.2.1 o.2.2
structure OwnOk (s:St) (l:List iB):Prop where
 free:∀o,o∈l->∀t,o.1=some t->s.getT t=none
 nil:∀o,o∈l->o.1=none->o.2.1=0
 dst:∀(i j:Nat) (a b:iB) (t:Nat),l[i]?=some a->l[j]?=some b->a.1=some t->b.1=some t->i=j
@[go_sem] theorem pY(s:St)(l:List iB)(b:Nat):(fF s l).getO b=s.getO b:=by
 induction l with
 | nil=>rfl
 | cons o l h=>simp only[fF,mM,h]
@[go_sem] theorem aYH(s:St)(l:List iB)(b:Nat)(o:Ob):(fF s l).setO b o=fF (s.setO b o) l:=by
 induction l with
 | nil=>rfl
 | cons a l h=>simp only[fF,aEd,h]
theorem aNQ(s:St)(tk:Option Nat)(n:Nat)(e:TypeId):(gs s tk n e).ls=s.ls:=by cases tk<;>rfl
@[go_sem] theorem aHT(s:St)(l:List iB):(fF s l).ls=s.ls:=by
 induction l with
 | nil=>rfl
 | cons o l h=>simp only[fF,aNQ,h]
theorem aAO(s:St)(l:List iB)(u:Nat):(fF s l).getT u=match l.find? (λo=>decide (o.1=some u))with|some o=>some o.2|none=>s.getT u:=by
 induction l with
 | nil=>rfl
 | cons o l y =>
  simp only[fF,sA,List.find?];by_cases h:o.1=some u
  .simp only[h,dJ,wG]
  .simp only[h,dY,tA,y]
theorem aI5{s:St}{l:List iB}(h:OwnOk s l){k:Nat}{o:iB}(y:l[k]?=some o){t:Nat}(B:o.1=some t):(fF s l).getT t=some o.2:=by
 rw[aAO];cases z:l.find? (λo=>decide (o.1=some t))with
 | none =>
  have:=uJ.1 z o (bA y);simp[B]at this
 | some a =>
  have G:=List.find?_some z;have H:=wC z;obtain⟨j,M,rfl⟩:=iC H;have u:l[j]?=some l[j]:=cO M;have:=h.dst j k _ _ t u y (gQ G) B;subst this;rw[u]at y;cases y;rfl
theorem aQy{s:St}{l:List iB}{t:Nat}(h:∀o,o∈l->o.1≠some t):(fF s l).getT t=s.getT t:=by
 rw[aAO,uJ.2 (λo u=>by simpa using h o u)]
theorem aU8{s:St}{l:List iB}(h:OwnOk s l){k:Nat}{o:iB}(u:l[k]?=some o):mN (fF s l) o.1 o.2.1 o.2.2:=by
 obtain⟨tk,n,e⟩:=o;cases tk with
 | none=>exact h.nil _ (bA u) rfl
 | some t=>exact aI5 h u rfl
theorem OwnOk.to{s X:St}{l:List iB}(h:OwnOk s l)(u:∀t,X.getT t=s.getT t):OwnOk X l:=⟨λo y t z=>by rw[u];exact h.free o y t z,h.nil,h.dst⟩
theorem aVa{s X:St}{l:List iB}(h:OwnOk s l){k:Nat}{o:iB}(U:l[k]?=some o){t:Nat}
  (ht:o.1=some t\/o.1=none/\(fF X l).getT t=none)(hX:∀t,X.getT t=s.getT t)(n:Nat):OwnOk s (l.set k (some t,n,o.2.2)):=by
 have z:s.getT t=none/\∀(j:Nat) (a:iB),l[j]?=some a->a.1=some t->j=k:=by
  rcases ht with e|⟨e,B⟩
  .exact⟨h.free o (bA U) t e,λj a y G=>h.dst j k a o t y U G e⟩
  .rw[aAO]at B;cases Z:l.find? (λo=>decide (o.1=some t))with
   | some a=>rw[Z]at B;cases B
   | none =>
    rw[Z]at B;refine⟨by rw[<-hX];exact B,λj a y G=>?_⟩;have:=uJ.1 Z a (bA y);simp[G]at this
 have O:k<l.length:=by
  rcases aGe k l.length with h|h
  .exact h
  .rw[yI h]at U;cases U
 refine⟨λa y u hu=>?_,λa y hn=>?_,λi j a b u H M y Y=>?_⟩
 .rcases aO6 y with y|rfl
  .exact h.free a y u hu
  .cases hu;exact z.1
 .rcases aO6 y with y|rfl
  .exact h.nil a y hn
  .cases hn
 .rw[aBR]at H M;split at H<;>split at M
  .rename_i S B;rw[<-S,<-B]
  .rename_i S B
   try rw[aF O]at H
   cases H;cases y;exact(B (z.2 j b M Y).symm).elim
  .rename_i S B
   try rw[aF O]at M
   cases M;cases Y;exact(S (z.2 i a H y).symm).elim
  .exact h.dst i j a b u H M y Y
theorem aU6{s X:St}{l:List iB}(h:OwnOk s l){k:Nat}{o:iB}(hk:l[k]?=some o){t n:Nat}(h':OwnOk s (l.set k (some t,n,o.2.2)))
  (hX:∀t,X.getT t=s.getT t):((fF X l).setT t (n,o.2.2)).ge (fF X (l.set k (some t,n,o.2.2))):=by
 have Z:k<l.length:=by
  rcases aGe k l.length with h|h
  .exact h
  .rw[yI h]at hk;cases hk
 have B:(l.set k (some t,n,o.2.2))[k]?=some (some t,n,o.2.2):=by rw[aBR,aF rfl,aF Z]
 refine⟨λb o h=>by rw[pY]at h;rw[qY,pY];exact h,λu m H=>?_,λx hx=>by rw[aHT]at hx;show(fF X l).ls=_;rw[aHT];exact hx⟩;rw[fE];rw[aAO]at H;cases S:(l.set k (some t,n,o.2.2)).find? (λo=>decide (o.1=some u))with
 | some a =>
  rw[S]at H;have M:=List.find?_some S;have h2:=wC S;simp only[bR]at M;obtain⟨j,hj,e⟩:=iC h2;have y:(l.set k (some t,n,o.2.2))[j]?=some a:=by rw[cO hj,e]
  by_cases G:t=u
  .subst G;have:=h'.dst j k a _ t y B M rfl;subst this;rw[y]at B;cases B;rw[aF rfl];exact H
  .rw[aE G]
   have Y:k≠j:=λe=>by
    subst e;rw[y]at B;cases B;exact G (gQ M)
   rw[aBR,aE Y]at y
   have h3:(fF X l).getT u=some a.2:=by
    rw[aAO];cases z:l.find? (λo=>decide (o.1=some u))with
    | none =>
     have:=uJ.1 z a (bA y);simp[M]at this
    | some c =>
     have O:=List.find?_some z;simp only[bR]at O;obtain⟨i,hi,e⟩:=iC (wC z);have U:l[i]?=some c:=by rw[cO hi,e]
     have:=h.dst i j c a u U y O M;subst this;rw[U]at y;cases y;rfl
   rw[h3];exact H
 | none =>
  rw[S]at H;have b0:=uJ.1 S
  have G:¬ t=u:=λe=>by
   have:=b0 _ (bA B);simp[e]at this
  rw[aE G,aAO];cases z:l.find? (λo=>decide (o.1=some u))with
  | none=>exact H
  | some c =>
   have O:=List.find?_some z;simp only[bR]at O;have:=h.free c (wC z) u O;rw[<-hX]at this;have H:X.getT u=some m:=H;rw[this]at H;cases H
theorem aU7{X s:St}{l:List iB}{L M:List Nat}(u:∀o,o∈l->∀t,o.1=some t->s.getT t=none)(h:X.gel s L M):(fF X l).gel s L M:=by
 induction l with
 | nil=>exact h
 | cons o l z=>exact aNl (z λa y=>u a (by simp[y])) (u o aV)
theorem gNg{X:St}{H Q:Nat->Prop}(k:∀p,H p->Q p)(h:∀p,X.getO p=none->H p:=by(intro p h;(try simp only[pY,mM,gD6,mT]at h);exact h)):∀p,X.getO p=none->Q p:=λp e=>k p (h p e)
end Go.AV
section
open Go.Proofs.Tryz
namespace Go.AV
open Go Go.Proofs
end Go.AV
end
section
open Go.Proofs.Tryz
namespace Go.AV
open Go Go.Proofs
end Go.AV
end
namespace Go.AV
open Go Go.Proofs Tryz
section
theorem gH{p:Prop}(h:p:=by(simp only[aX,yB,qY,mM,pY,mT,gA9,reduceIte, *]<;>(first|done|rfl|assumption))):p:=h
theorem aK{u s:St}(h:u.ge s:=by(repeat (first|exact aC _|refine aZ (by first|(simp only[*];done)|assumption) ?_))):u.ge s:=h
theorem gGL{u s:St}{L M:List Nat}(h:u.gel s L M:=by(repeat (first|exact aDY _ _ _|exact aKX (by assumption) _ _|refine aU7 (by assumption) ?_|refine aGS ?_|refine aKY tK ?_|refine gB1 ?_|refine gB2 ?_|refine aNl ?_ (by assumption)|refine aLG (by assumption) ?_|refine aMB gH ?_|refine gB3 ?_|refine aCt (by first|(simp only[*];done)|assumption) ?_))):u.gel s L M:=h
theorem eE{u s:St}(h:u.gel s [] []:=by exact gGL):u.ge s:=aCD h
theorem aO{f:FuncId}{c:Code}{args:List A}{KV Kp:St->A->Prop}{s:St}{fn:Func}(z:cx.P.funcs[f]?=some fn)(V:List Nat)
  (h:eX cx fn.ntmps V c (kK cx fn.results.toList (DK KV) (DK Kp)) (kW 0 args) s)
  (y:fn.body=some c:=by exact rfl)
  (u : (fn.name == "runtime.NumGoroutine") = false := by exact rfl) (B : args.length ≤ fn.ntmps := by exact eQ rfl) : Den cx f args KV Kp s :=
 Den.drop (aAq z y u B (aQ _ _ _ _ h))
theorem gBo{f:FuncId}{c:Code}{args:List A}{KV Kp:St->A->Prop}{s:St}{fn:Func}(z:jS.P.funcs[f]?=some fn)(V:List Nat)
  (h:eX jS fn.ntmps V c (kK jS fn.results.toList (DK KV) (DK Kp)) (kW 0 args) s)
  (y:fn.body=some c:=by exact rfl)
  (u : (fn.name == "runtime.NumGoroutine") = false := by exact rfl) (B : args.length ≤ fn.ntmps := by exact eQ rfl) : Den cx f args KV Kp s :=
 Den.drop (aMp (aAq (C:=jS) z y u B (aQ _ _ _ _ h)))
theorem aI{P:Option A->Prop}{b:Bool}(h:b=true->P (some (.bool true)))(u:b=false->P (some (.bool false))):P (some (.bool b)):=by
 cases b
 .exact u rfl
 .exact h rfl
def OT.r:Nat->Nat->OT
 | _,0=>.nil
 | i,k+1=>.node i (OT.r (i+1) k)
attribute [go_sem] OT.r
section
variable {C:Cx} {n:Nat} {ops:Array Oper} {s:St} {Kp:St->A->Prop} {id:Nat} {V:List Nat} {Q0:XK->Env->St->Prop} {e:Env}
theorem bX(t:OT)(E:List (Nat × List Nat))
  (h:gA C n (ops.toList.map (·.dst)) ops.toList E (mX V Q0) (vT Q0 (ops.toList.map (·.dst)) e) t [] e s)
  (y:C.P.follows .mixedOrders=true:=by exact aLQ)
  (u:(okE ops E&&oV ops ops.size (Array.replicate ops.size false) t&&vE C.tt ops)=true:=by decide +kernel) :
  aEF C n id ops (kL (mX V Q0) Q0) e s:=aUV t E y u h
end
end
def aXF:Tr (OT × List (Nat × List Nat)):=(.nd (.nd (.nd .lf (some ((OT.r 0 4),[(2,[1])])) .lf) none .lf) none .lf)
def aWZ:Tr (OT × List (Nat × List Nat)):=(.nd (.nd (.nd (.nd .lf (some ((OT.r 0 7),[(5,[4])])) .lf) none .lf) none (.nd .lf (some ((OT.r 0 10),[])) .lf)) none .lf)
def aW0:Tr (OT × List (Nat × List Nat)):=(.nd (.nd (.nd .lf (some ((OT.r 0 3),[])) .lf) none (.nd .lf (some ((OT.l [0,1,2,4,3,5,6] .nil),[(3,[4])])) .lf)) none .lf)
def aW1:Tr (OT × List (Nat × List Nat)):=(.nd (.nd (.nd (.nd .lf (some ((OT.r 0 8),[])) .lf) none (.nd (.nd .lf (some ((OT.r 0 14),[(7,[0,1,5]),(9,[0])])) .lf) none .lf)) none .lf) none (.nd (.nd (.nd (.nd (.nd .lf (some ((OT.r 0 13),[(7,[0,1,4]),(9,[0])])) .lf) (some ((OT.r 0 15),[])) .lf) none (.nd .lf (some ((OT.l [0,2,3,4,5,1,6,7,8] .nil),[(1,[3,5]),(7,[0,3,5])])) .lf)) none (.nd (.nd .lf (some ((OT.r 0 14),[(7,[0,1,5]),(9,[0])])) .lf) (some ((OT.r 0 13),[(8,[0])])) (.nd .lf (some ((OT.r 0 11),[(7,[0])])) .lf))) none (.nd .lf none (.nd (.nd .lf (some ((OT.r 0 7),[])) .lf) (some ((OT.r 0 15),[(9,[0,1,5]),(10,[0])])) (.nd .lf (some ((OT.r 0 7),[])) .lf)))))
def aW2:Tr (OT × List (Nat × List Nat)):=(.nd (.nd .lf (some ((OT.l [0,1,3,4,5,6,2,7,8,9] .nil),[(2,[4,6])])) .lf) none .lf)
def aW3:Tr (OT × List (Nat × List Nat)):=(.nd (.nd (.nd .lf (some ((OT.r 0 11),[])) .lf) (some ((OT.r 0 10),[])) .lf) none .lf)
def aW4:Tr (OT × List (Nat × List Nat)):=(.nd (.nd (.nd .lf (some ((OT.r 0 8),[])) .lf) none .lf) none (.nd (.nd .lf (some ((OT.r 0 14),[(7,[0,1,5]),(9,[0])])) .lf) none .lf))
def aW5:Tr (OT × List (Nat × List Nat)):=(.nd (.nd (.nd .lf (some ((OT.r 0 12),[(10,[3,7,9])])) .lf) (some ((OT.r 0 10),[])) .lf) none .lf)
def aW6:Tr (OT × List (Nat × List Nat)):=(.nd (.nd (.nd (.nd .lf (some ((OT.r 0 8),[(3,[1])])) .lf) none .lf) none .lf) none .lf)
def aW7:Tr (OT × List (Nat × List Nat)):=(.nd (.nd .lf (some ((OT.r 0 11),[(8,[3,7]),(9,[7])])) .lf) none .lf)
def aW8:Tr (OT × List (Nat × List Nat)):=(.nd (.nd .lf (some ((OT.l [0,2,3,4,5,1,6,7,8] .nil),[(1,[3,5]),(7,[3,5])])) .lf) none .lf)
def aW9:Tr (OT × List (Nat × List Nat)):=(.nd (.nd (.nd .lf none (.nd .lf (some ((OT.r 0 7),[])) .lf)) none (.nd (.nd .lf (some ((OT.r 0 6),[(2,[0])])) .lf) none (.nd .lf (some ((OT.r 0 12),[(6,[0,1,4]),(8,[0])])) .lf))) none (.nd (.nd (.nd (.nd .lf (some ((OT.r 0 6),[(2,[0])])) .lf) none .lf) none .lf) none (.nd .lf (some ((OT.r 0 6),[(2,[0])])) .lf)))
def aXa:Tr (OT × List (Nat × List Nat)):=(.nd (.nd (.nd (.nd .lf (some ((OT.r 0 25),[])) .lf) none .lf) none (.nd .lf (some ((OT.r 0 12),[(9,[7])])) .lf)) none (.nd .lf (some ((OT.r 0 10),[])) (.nd (.nd .lf (some ((OT.r 0 4),[])) .lf) none .lf)))
def aXb:Tr (OT × List (Nat × List Nat)):=(.nd (.nd (.nd (.nd (.nd .lf (some ((OT.r 0 12),[(6,[4])])) .lf) none .lf) none (.nd .lf (some ((OT.r 0 15),[(8,[4])])) .lf)) (some ((OT.l [0,2,3,4,5,1,6,7,8] .nil),[(1,[3,5]),(7,[3,5])])) .lf) none (.nd (.nd (.nd .lf (some ((OT.r 0 11),[])) .lf) none .lf) none .lf))
def aXc:Tr (OT × List (Nat × List Nat)):=(.nd .lf none (.nd .lf (some ((OT.l [0,2,3,4,5,1,6,7,8] .nil),[(1,[3,5]),(7,[3,5])])) .lf))
def aXd:Tr (OT × List (Nat × List Nat)):=(.nd (.nd (.nd .lf (some ((OT.r 0 7),[])) .lf) none .lf) none (.nd (.nd .lf (some ((OT.r 0 12),[(6,[0,1,4]),(8,[0])])) .lf) none .lf))
def aXe:Tr (OT × List (Nat × List Nat)):=(.nd (.nd .lf (some ((OT.r 0 10),[])) .lf) (some ((OT.r 0 10),[])) .lf)
def aXf:Tr (OT × List (Nat × List Nat)):=(.nd (.nd .lf (some ((OT.r 0 10),[])) .lf) none (.nd .lf none (.nd (.nd .lf (some ((OT.r 0 19),[])) .lf) none .lf)))
def aXg:Tr (OT × List (Nat × List Nat)):=(.nd (.nd (.nd .lf (some ((OT.r 0 10),[])) .lf) none .lf) none .lf)
def aXh:Tr (OT × List (Nat × List Nat)):=(.nd (.nd (.nd (.nd .lf (some ((OT.r 0 8),[(3,[1]),(6,[1,2])])) .lf) none .lf) none .lf) none (.nd .lf none (.nd .lf (some ((OT.r 0 6),[(3,[1])])) .lf)))
def aXi:Tr (OT × List (Nat × List Nat)):=(.nd .lf none (.nd (.nd .lf (some ((OT.l [0,1,2,3,4,5,6,8] (.pair 7 9)),[])) .lf) none .lf))
def aXj:Tr (OT × List (Nat × List Nat)):=(.nd (.nd (.nd .lf (some ((OT.l [0,1,2,3,4,6,7,5,8,9,11] (.pair 10 12)),[(5,[1])])) .lf) (some ((OT.l [0,1,2,3,4,6,7,5,8,9,11] (.pair 10 12)),[(5,[1])])) .lf) none .lf)
def aXk:Tr (OT × List (Nat × List Nat)):=(.nd (.nd (.nd (.nd .lf (some ((OT.r 0 15),[])) (.nd .lf (some ((OT.r 0 15),[])) .lf)) none .lf) none (.nd (.nd (.nd .lf (some ((OT.r 0 15),[])) .lf) (some ((OT.r 0 15),[])) .lf) none .lf)) none (.nd (.nd (.nd .lf (some ((OT.r 0 15),[])) .lf) none .lf) none (.nd (.nd (.nd .lf (some ((OT.r 0 15),[])) .lf) (some ((OT.r 0 15),[])) .lf) none .lf)))
def aXl:Tr (OT × List (Nat × List Nat)):=(.nd (.nd .lf (some ((OT.l [0,1,3,2,4,5,6] .nil),[(2,[3])])) .lf) none .lf)
def aXm:Tr (OT × List (Nat × List Nat)):=(.nd (.nd .lf (some ((OT.l [0,1,3,2,4,5,6] .nil),[(2,[3])])) .lf) none .lf)
def aXn:Tr (OT × List (Nat × List Nat)):=(.nd (.nd (.nd (.nd (.nd (.nd .lf (some ((OT.r 0 11),[])) .lf) none .lf) (some ((OT.r 0 9),[])) .lf) none .lf) none .lf) none (.nd .lf none (.nd .lf (some ((OT.r 0 7),[])) (.nd .lf (some ((OT.r 0 11),[])) .lf))))
def orT:Tr (Tr (OT × List (Nat × List Nat))):=(.nd (.nd (.nd (.nd (.nd (.nd (.nd .lf none (.nd (.nd .lf (some aXl) .lf) none .lf)) none .lf) none (.nd (.nd (.nd (.nd .lf (some aXf) .lf) none .lf) none .lf) none (.nd .lf (some aWZ) .lf))) none (.nd (.nd .lf none (.nd (.nd (.nd .lf (some aXi) .lf) none .lf) none .lf)) none (.nd (.nd (.nd (.nd .lf (some aXh) .lf) none .lf) none .lf) none .lf))) none (.nd .lf none (.nd (.nd (.nd (.nd (.nd .lf (some aXd) .lf) none .lf) none .lf) none .lf) none .lf))) none (.nd (.nd (.nd (.nd .lf none (.nd .lf none (.nd .lf (some aW6) .lf))) none .lf) none (.nd .lf none (.nd (.nd .lf none (.nd .lf (some aW3) .lf)) none (.nd (.nd (.nd .lf (some aXk) .lf) none .lf) none .lf)))) none (.nd (.nd (.nd .lf none (.nd .lf none (.nd .lf (some aW9) .lf))) none .lf) none .lf))) none (.nd (.nd (.nd (.nd (.nd (.nd .lf none (.nd (.nd .lf (some aXm) .lf) none .lf)) none .lf) none (.nd (.nd (.nd (.nd .lf (some aXg) .lf) none .lf) none .lf) none (.nd (.nd (.nd .lf (some aXj) .lf) (some aW0) .lf) none .lf))) none (.nd (.nd (.nd (.nd (.nd .lf (some aXb) .lf) none .lf) none (.nd (.nd .lf (some aXn) .lf) none .lf)) none .lf) none (.nd (.nd .lf none (.nd .lf (some aW2) .lf)) none .lf))) none (.nd (.nd (.nd .lf none (.nd .lf none (.nd .lf (some aW8) .lf))) none (.nd .lf none (.nd (.nd .lf (some aW1) .lf) none .lf))) none (.nd .lf none (.nd (.nd .lf none (.nd .lf (some aW4) .lf)) none (.nd .lf none (.nd .lf (some aXa) .lf)))))) none (.nd (.nd (.nd (.nd .lf none (.nd .lf none (.nd .lf (some aW7) .lf))) none (.nd .lf (some aXF) .lf)) none (.nd (.nd (.nd (.nd (.nd .lf (some aXc) .lf) none .lf) none .lf) none .lf) none .lf)) none (.nd .lf none (.nd (.nd (.nd (.nd (.nd .lf (some aXe) .lf) none .lf) none .lf) none .lf) none (.nd (.nd .lf none (.nd .lf (some aW5) .lf)) none .lf))))))
def aE9(f r:Nat):Option (OT × List (Nat × List Nat)):=match orT.get f with
 | some t=>t.get r
 | none=>none
def aXH:Nat:=279968092772225471924476982168551405038225740818029516614973502539854595801174815639752576184105304064
def aIv(f:Nat):Bool:=Nat.beq (Nat.mod (Nat.shiftRight aXH f) 2) 1
noncomputable def fnS(f:FuncId):Option FX:=match aIv f with
 | true=>(match prog.funcs[f]? with
  | some fn=>match fn.body with
   | some c=>some ⟨c,fn.ntmps,fn.results.toList,Nat.beq f 111⟩
   | none=>none
  | none=>none)
 | false=>none
noncomputable def ckF(f:FuncId):Bool:=match aIv f with
 | true=>(match prog.funcs[f]? with
  | some fn=>match fn.body with
   | some c => !(fn.name == "runtime.NumGoroutine") && mH xY aE9 f c
   | none=>true
  | none=>true)
 | false=>true
theorem aV4:(List.range 371).all ckF=true:=by decide +kernel
theorem aUP:prog.funcs.size<=371:=by decide +kernel
noncomputable def c40:Code:=match f177.body with
 | some (.seq _ c)=>c
 | _=>.skip
theorem aHP : f177.body = some (.seq (.region 0 #[⟨some 5,.call ⟨.builtin .recover,#[],#[]⟩,20,"parse.go:505",#[],none⟩] false) c40) := rfl
theorem aNV(a:Act)(w:World):(results f177 a.tmps).run cx.P w=.ok (.tuple #[]) w:=by
 have u:results f177 a.tmps=(do let vs <-(#[]:Array ResultVar).mapM (uC a.tmps);pure (if h:vs.size=1 then vs[0] else .tuple vs)):=rfl;rw[u];simp
theorem aNy{P:Program}{Q:Exit->Act->List Frame->World->Prop}{a:Act}{cs:List Frame}{w:World}
  (h : match recoverD cs with
   | some (v,y)=>Q .normal (a.put (some 5) v) y w
   | none=>Q .normal (a.put (some 5) .nilIface) cs w) :
  (Code.region 0 #[⟨some 5,.call ⟨.builtin .recover,#[],#[]⟩,20,"parse.go:505",#[],none⟩] false).wpS P Q a cs w := by
 refine wpS_region ?_;have B : List.range (#[(⟨some 5,.call ⟨.builtin .recover,#[],#[]⟩,20,"parse.go:505",#[],none⟩ : Oper)]).size = [0] := rfl;rw [B];unfold wpOpsS;have z : (#[(⟨some 5,.call ⟨.builtin .recover,#[],#[]⟩,20,"parse.go:505",#[],none⟩ : Oper)])[0]? = some ⟨some 5,.call ⟨.builtin .recover,#[],#[]⟩,20,"parse.go:505",#[],none⟩ := rfl;rw [z];simp only;rw [aF (by simp [Region.wanted])];have G : (execOp a.eval ⟨some 5,.call ⟨.builtin .recover,#[],#[]⟩,20,"parse.go:505",#[],none⟩).run P w = .ok .recover w := rfl;rw [G];simp only;cases u : recoverD cs with
 | none=>rw[u]at h;simp only;unfold wpOpsS;exact h
 | some x=>obtain⟨v,y⟩:=x;rw[u]at h;simp only;unfold wpOpsS;exact h
theorem aWQ{g:Gh}(vals:Array Value)(h:vals.size=1):EnvOk g 14 [] (vals++Array.replicate (f177.ntmps-vals.size) undef) :=
 .nil (by rw[h];simp[h,f177])
theorem aWO(k:Nat)(w:World):(invoke (.fn (.func 177) #[]) #[.pointer (some ⟨k,0,none⟩)]).run cx.P w=.ok (.enter 177 #[.pointer (some ⟨k,0,none⟩)]) w:=by
 have u:(callFunc 177 #[.pointer (some ⟨k,0,none⟩)]).run prog w=.ok (.enter 177 #[.pointer (some ⟨k,0,none⟩)]) w:=by
  have y : prog.funcs[177]? = some f177 := func177;have h : (f177.name == "runtime.NumGoroutine") = false := rfl;simp only [callFunc,bG,run_program,bJ,y,h,cV,↓reduceIte,aHP,qG,bV]
 show(callFunc 177 (#[Value.pointer (some ⟨k,0,none⟩)]++#[])).run prog w=_;rw[Array.append_empty];exact u
theorem aXO:cx.tt 36=some ⟨.struct [(0,1,false),(1,1,false),(2,1,false),(3,1,false)],4,40,[.int .i64 0,.str [],.int .i64 0,.int .i64 0]⟩:=rfl
noncomputable def oR:Cx:={ cx with det:=true }
theorem aEs(t:TypeId):oR.tt t=cx.tt t:=rfl
theorem aWM:oR.P=prog:=rfl
theorem aWU(s:St):Ex oR 14 c40 (λx _ s'=>x=.normal/\s'=s) [(5,.nili)] s:=by
 refine aQ (V:=[0,2,3,4,5,6,7,8,9,10,11,12,13]) _ _ _ _ ?_;simp only[c40,f177];simp only[go_sem,List.map,Nat.reduceLT,Nat.reduceEqDiff,Nat.reduceBEq,Nat.reduceAdd,Nat.reduceLeDiff,Nat.reduceMul,reduceIte,eU,mQ,List.elem,wG,tA,eO,fN,reduceCtorEq,bF,bB,bQ,iO,List.getElem?_cons_succ,gK,jA,bL,bE,aF3,aDj,List.take_succ_cons,iD,List.drop_succ_cons,List.take_nil,Nat.succ_eq_add_one,uO,Int.toNat_zero,Nat.sub_zero,Nat.zero_lt_succ,dT,dD,gY,eY,aEs]
theorem aT1(s:St)(t:TypeId)(cs:List A)(KV:St->A->Prop):zY oR s t cs KV=KV (s.newO (.cells t cs)) (.ptr s.lim 0):=rfl
theorem aWT(s:St)(b:Nat)(y z B G y0 y1 y2 y3:A)(hb:s.getO b=some (.cells 36 [y0,y1,y2,y3]))(hl:s.getO s.lim=none)(H:y.one=true)(M:z.one=true)(O:B.one=true)(S:G.one=true) :
  Ex oR 14 c40 (λx _ s'=>x=.normal/\s'.ge ((s.newO (.cells 36 [y,z,B,G])).setO b (.cells 36 [y,z,B,G]))/\s'.lim=s.lim+1) [(0,.ptr b 0),(5,.iface 36 (.agg [y,z,B,G]))] s:=by
 have U:¬ s.lim=b:=by rintro rfl;rw[hb]at hl;cases hl
 refine aQ (V:=[0,2,3,4,5,6,7,8,9,10,11,12,13]) _ _ _ _ ?_;simp only[c40,f177];simp only[go_sem,List.map,Nat.reduceLT,Nat.reduceEqDiff,Nat.reduceBEq,Nat.reduceAdd,Nat.reduceLeDiff,Nat.reduceMul,reduceIte,eU,mQ,List.elem,wG,tA,eO,fN,reduceCtorEq,bF,bB,bQ,iO,List.getElem?_cons_succ,gK,jA,bL,bE,aF3,aDj,List.take_succ_cons,iD,List.drop_succ_cons,List.take_nil,Nat.succ_eq_add_one,uO,Int.toNat_zero,Nat.sub_zero,Nat.zero_lt_succ,dT,dD,gY,eY,aEs,H,M,O,S];rw[aT1];simp only[go_sem,List.map,Nat.reduceLT,Nat.reduceEqDiff,Nat.reduceBEq,Nat.reduceAdd,Nat.reduceLeDiff,Nat.reduceMul,reduceIte,eU,mQ,List.elem,wG,tA,eO,fN,reduceCtorEq,bF,bB,bQ,iO,List.getElem?_cons_succ,gK,jA,bL,bE,aF3,aDj,List.take_succ_cons,iD,List.drop_succ_cons,List.take_nil,Nat.succ_eq_add_one,uO,Int.toNat_zero,Nat.sub_zero,Nat.zero_lt_succ,dT,dD,gY,eY,aEs,H,M,O,S,aAm,U,hb,↓reduceIte];have ho:(y.one&&(z.one&&(B.one&&G.one)))=true:=by rw[H,M,O,S];rfl
 refine⟨ho,ho,?_⟩;refine⟨⟨λc o h=>?_,λu n hu=>hu,λ_ hx=>hx⟩,rfl⟩;rw[aX,aAm]at h;rw[aX,aX,aAm];by_cases Y:b=c
 .simpa only[Y,↓reduceIte]using h
 .simp only[Y,↓reduceIte]at h⊢;by_cases Z:s.lim=c
  .simpa only[Z,↓reduceIte]using h
  .simpa only[Z,↓reduceIte]using h
theorem aTC:Catch oR 177 36 where
 quiet:=by
  intro F g s w p S;refine callsD_of_wpS (fn:=f177) func177 aHP λh cs Z=>?_
  refine wpS_seq (aNy ?_);have y:recoverD (h::cs)=none:=by simp[recoverD,Z]
  rw[y];refine wpS_of_wp ?_;have hE:=(aWQ (g:=g) #[p] rfl).put (a:=⟨_,[]⟩) (d:=5) (x:=.nili) (v:=.nilIface) cT .nili;refine lN (λex a' w' hp=>?_) (aWU s F g w _ S hE);obtain⟨g',e',s',x,h1,h2,h3,O,h5,rfl,rfl⟩:=hp;cases ex<;>try exact h5.elim
  refine⟨O,.returning,by rw[<-Z],_,aNV a' w',⟨_,rfl⟩,rfl,g',h1,h2⟩
 loud:=by
  intro F g s w b k cs fs v S b1 hb hv hl M;obtain⟨ti,M,b2⟩:=M
  have O:fs.length=4:=by
   rw[aEs,aXO]at M;cases M;exact b2.symm
  obtain⟨z,B,G,H,rfl⟩:∃z B G H,fs=[z,B,G,H]:=by
   match fs,O with
   | [z,B,G,H],_=>exact⟨z,B,G,H,rfl⟩
  obtain⟨y0,y1,y2,y3,rfl⟩:∃z B G H,cs=[z,B,G,H]:=by
   match cs,hl with
   | [z,B,G,H],_=>exact⟨z,B,G,H,rfl⟩
  obtain⟨vs,b3,b4,u⟩:=hv.agg_inv;refine callsD_of_wpS (fn:=f177) func177 aHP λh cs Z=>?_
  refine wpS_seq (aNy ?_);have y:recoverD (h::cs)=some (.iface 36 v,{ h with mode:=.panicking [{ v:=.iface 36 v,recovered:=true }] }::cs):=by simp[recoverD,Z]
  rw[y];refine wpS_of_wp ?_
  have b0:EnvOk g 14 [(0,.ptr b 0)] (#[Value.pointer (some ⟨k,0,none⟩)]++Array.replicate (f177.ntmps-(#[Value.pointer (some ⟨k,0,none⟩)]).size) undef):=by
   refine⟨by simp[f177],λt a Y=>?_⟩;simp only[Env.get]at Y;split at Y
   .rename_i ht;subst ht;cases Y;exact⟨_,rfl,.ptr b 0 k b1⟩
   .cases Y
  have hE:=b0.put (a:=⟨_,[]⟩) (d:=5) (x:=.iface 36 (.agg [z,B,G,H])) (v:=.iface 36 v) cT (.iface 36 _ v hv);have U:s.getO s.lim=none:=S.free (S.dtm rfl s.lim (bF _)).1;refine lN (λex a' w' hp=>?_) (aWT s b z B G H y0 y1 y2 y3 hb U (u z aV) (u B aV) (u G aV) (u H aV) F g w _ S hE);obtain⟨g',e',s',x,h1,h2,h3,O,h5,rfl,h6,h7⟩:=hp;cases ex<;>try exact h5.elim
  refine⟨O,.panicking [{ v:=.iface 36 v,recovered:=true }],rfl,_,aNV a' w',⟨_,rfl⟩,rfl,g',h1,h2.weaken h6 (λ_=>by rw[h7];exact bF _)⟩
theorem aJn(s:St)(c:Int)(KV Kp)(u:KV s (.bool (nN c))):Den cx 112 [.int .u8 c] KV Kp s:=by
 unfold nN at u;(refine aO func112 [0,2] ?_;simp only[go_sem,ntmps112,f112])
 (repeat' (first|exact aD u aK|((apply aI<;>intro h)<;>simp only[go_sem,h]<;>(try simp only[h,dD,eY,dT,gY,mP,kQ,iZ,gJ,eO,fN]at u))))
theorem aDB(s:St)(c:Int)(KV Kp)(u:KV s (.bool (jK c))):Den cx 113 [.int .u8 c] KV Kp s:=by
 unfold jK at u;(refine aO func113 [0,2] ?_;simp only[go_sem,ntmps113,f113])
 (repeat' (first|exact aD u aK|(refine aJn _ _ _ _ ?_;simp only[go_sem])|((apply aI<;>intro h)<;>simp only[go_sem,h]<;>(try simp only[h,dD,eY,dT,gY,mP,kQ,iZ,gJ,eO,fN]at u))))
theorem tC(s:St)(x:List UInt8)(KV Kp)(G:KV s (.bool (cA x))):Den cx 52 [.str x] KV Kp s:=by
 (refine aO func52 [0,2,3,16,18,19,20,26] ?_;simp only[go_sem,ntmps52,f52])
 (apply aI<;>intro h)<;>simp only[go_sem,h]
 .have:x=[]:=gQ h;subst this;exact aS G
 have S:x≠[]:=gQ h;obtain⟨c,r,B⟩:=List.exists_cons_of_ne_nil S
 (apply aI<;>intro h)<;>simp only[go_sem,h]
 .have y:¬ x.length<=40:=by simp at h;omega
  have:cA x=false:=by rw[B]at y⊢;simp only[cA,y,tA,eY]
  exact aS (by rwa[this]at G)
 have y:x.length<=40:=by simp at h;omega
 have Y:x[0]?=some c:=by rw[B];rfl
 have O:0<x.length:=by rw[B];exact Nat.zero_lt_succ _
 simp only[go_sem,Y,O];refine aJn _ _ _ _ ?_;simp only[go_sem]
 (apply aI<;>intro h)<;>simp only[go_sem,h]
 .have:cA x=false:=by
   have:nN c.toNat=false:=gQ h;rw[B];simp[cA,this]
  exact aS (by rwa[this]at G)
 have hl:nN c.toNat=true:=gQ h
 refine Ex.loop (λi=>[(0,.str x),(18,.int .i64 x.length),(19,.int .i64 (i:Nat))]) (λ_=>s)
  (λi=>i<=x.length/\∀d∈x.take i,jK d.toNat=true) (λi=>x.length-i) 0 ⟨aN _,by simp⟩ ?_ (aC s) ?_
 .simp only[go_sem];rfl
 .rintro i ⟨Z,u⟩;refine aQ (V:=[0,2,3,16,18,19,20,26]) _ _ _ _ ?_;simp only[go_sem]
  (apply aI<;>intro h)<;>simp only[go_sem,h]
  .have z:i<x.length:=gQ h;obtain⟨d,M⟩:=aU z;simp only[go_sem,M,z];refine aDB _ _ _ _ ?_;simp only[go_sem]
   (apply aI<;>intro h)<;>simp only[go_sem,h]
   .have U:jK d.toNat=false:=gQ h
    have:cA x=false:=by
     rw[B]at M⊢;simp only[cA,Bool.and_eq_false_iff];refine .inr (.inr (iV.2 λu=>?_));rw[cL]at u;have:=u d (bA M);rw[U]at this;cases this
    exact aS (by rwa[this]at G)
   .have U:jK d.toNat=true:=gQ h;refine⟨i+1,⟨by omega,?_⟩,by omega,?_,aC s⟩
    .intro q H;rw[fL,M]at H;simp only[bT,Option.toList_some,bS]at H;rcases H with H|rfl
     .exact u q H
     .exact U
    .simp only[go_sem,aR i aB]
  .have z:i=x.length:=by simp at h;omega
   have:cA x=true:=by
    rw[z,bK]at u;rw[B]at u y⊢;simp only[cA,hl,cL,aY,bR];exact⟨y,trivial,u⟩
   exact aS (by rwa[this]at G)
theorem aKb {C : Cx} {f : FuncId} {fn : Func} {e : Array Value → Sem Value} (O : C.P.funcs[f]? = some fn) (u : (fn.name == "runtime.NumGoroutine") = false)
  (H:fn.body.isNone=true)(S:Extern.findNext fn=none)(M:Extern.find fn=some e){args:List A}{s:St}{KV Kp:St->A->Prop}
  (h:∀g vals,Rzs g args vals->∃v a,(∀w,(e vals.toArray).run C.P w=.ok v w)/\Rz g a v/\KV s a):Den C f args KV Kp s:=by
 intro F g w vals G U;obtain⟨v,a,y,z,B⟩:=h g vals U;rw[run_callFunc_extern O u H S M,y];exact⟨g,a,s,dQ g,G,z,B⟩
theorem Rzs.two{g:Gh}{a b:A}{vals:List Value}(h:Rzs g [a,b] vals):∃u v,vals=[u,v]/\Rz g a u/\Rz g b v:=by
 have hl:=h.1
 match vals,hl with
 | [u,v],_=>exact⟨u,v,rfl,h.2 0 a u rfl rfl,h.2 1 b v rfl rfl⟩
theorem aIZ(s:St)(x:aA)(c:UInt8)(KV Kp)(h:KV s (.int .i64 (Lib.indexByte x c))):Den cx 284 [.str x,.int .u8 c.toNat] KV Kp s:=by
 refine aKb (C:=cx) func284 rfl rfl rfl (e:=Extern.BytealgIndexByte.indexByte) (by kernel_rfl) λg vals y=>?_
 obtain⟨u,v,rfl,z,B⟩:=y.two;rw[z.str_inv,B.int_inv];refine⟨_,_,λw=>Lib.run_indexByteString _ _ w,.int _ _,?_⟩;simpa using h
theorem aPW(s:St)(x:aA)(c:UInt8)(KV Kp)(h:KV s (.int .i64 (x.count c:Nat))):Den cx 254 [.str x,.int .u8 c.toNat] KV Kp s:=by
 refine aKb (C:=cx) func254 rfl rfl rfl (e:=Extern.BytealgCount.count) (by kernel_rfl) λg vals y=>?_
 obtain⟨u,v,rfl,z,B⟩:=y.two;rw[z.str_inv,B.int_inv];refine⟨_,_,λw=>Lib.run_countString _ _ w,.int _ _,?_⟩;simpa [Lib.countByte]using h
theorem aPj(s:St)(x:aA)(c:UInt8)(KV Kp)(u:KV s (.int .i64 (Lib.indexByte x c))):Den cx 269 [.str x,.int .u8 c.toNat] KV Kp s:=by
 (refine aO func269 [0,1,4] ?_;simp only[go_sem,ntmps269,f269])
 (repeat' (first|exact aD u aK|(refine aIZ _ _ _ _ _ ?_;simp only[go_sem])|((apply aI<;>intro h)<;>simp only[go_sem,h]<;>(try simp only[h,dD,eY,dT,gY,mP,kQ,iZ,gJ,eO,fN]at u))))
theorem aDm(s:St)(x:aA)(c:UInt8)(KV Kp)(u:KV s (.int .i64 (Lib.indexByte x c))):Den cx 238 [.str x,.int .u8 c.toNat] KV Kp s:=by
 (refine aO func238 [0,1,4] ?_;simp only[go_sem,ntmps238,f238])
 (repeat' (first|exact aD u aK|(refine aPj _ _ _ _ _ ?_;simp only[go_sem])|((apply aI<;>intro h)<;>simp only[go_sem,h]<;>(try simp only[h,dD,eY,dT,gY,mP,kQ,iZ,gJ,eO,fN]at u))))
theorem aPt(s:St)(x p:aA)(KV Kp)(u:KV s (.bool (rI x p))):Den cx 299 [.str x,.str p] KV Kp s:=by
 unfold rI at u;(refine aO func299 [0,1,4] ?_;simp only[go_sem,ntmps299,f299])
 (apply aI<;>intro h)<;>simp only[go_sem,h]<;>(try simp only[h,dD,eY,dT,gY,mP,kQ,iZ,gJ,eO,fN]at u)
 .have hl:p.length<=x.length:=gQ h;simp only[go_sem,hl];exact aS u
 .exact aS u
theorem aI7(s:St)(x p:aA)(KV Kp)(u:KV s (.bool (rI x p))):Den cx 285 [.str x,.str p] KV Kp s:=by
 (refine aO func285 [0,1,4] ?_;simp only[go_sem,ntmps285,f285])
 (repeat' (first|exact aD u aK|(refine aPt _ _ _ _ _ ?_;simp only[go_sem])|((apply aI<;>intro h)<;>simp only[go_sem,h]<;>(try simp only[h,dD,eY,dT,gY,mP,kQ,iZ,gJ,eO,fN]at u))))
theorem aJU(s:St)(c:Int)(KV Kp)(u:KV s (.bool (lS c))):Den cx 287 [.int .u8 c] KV Kp s:=by
 unfold lS at u;(refine aO func287 [0,2] ?_;simp only[go_sem,ntmps287,f287])
 (repeat' (first|exact aD u aK|((apply aI<;>intro h)<;>simp only[go_sem,h]<;>(try simp only[h,dD,eY,dT,gY,mP,kQ,iZ,gJ,eO,fN]at u))))
theorem aM1(s:St)(x:aA)(f:FuncId)(p:UInt8->Bool)(KV Kp)(S:x.length<=4294967296)
  (M:∀(c:UInt8) KV Kp,KV s (.bool (p c))->Den cx f [.int .u8 c.toNat] KV Kp s)
  (z:KV s (.int .i64 (x.takeWhile p).length)):Den cx 286 [.str x,.fn f [] []] KV Kp s:=by
 (refine aO func286 [0,1,4,5,16] ?_;simp only[go_sem,ntmps286,f286])
 refine Ex.loop (λn=>[(0,.str x),(1,.fn f [] []),(5,.int .i64 (n:Nat))]) (λ_=>s)
  (λn=>n<=x.length/\(x.takeWhile p).length=n+((x.drop n).takeWhile p).length) (λn=>x.length-n) 0 ⟨aN _,by simp⟩ ?_ (aC s) ?_
 .simp only[go_sem];rfl
 .rintro n ⟨O,G⟩;refine aQ (V:=[0,1,4,5,16]) _ _ _ _ ?_;simp only[go_sem]
  (apply aI<;>intro h)<;>simp only[go_sem,h]
  .have u:n<x.length:=gQ h;obtain⟨d,B⟩:∃d,x[n]?=some d:=⟨_,cO u⟩
   have y:x.drop n=d::x.drop (n+1):=by
    rw[rA u];congr 1;rw[cO u]at B;simpa using B
   simp only[go_sem,B,u];refine M _ _ _ ?_;simp only[go_sem]
   (apply aI<;>intro h)<;>simp only[go_sem,h]
   .have H:p d=true:=gQ h;refine⟨n+1,⟨by omega,?_⟩,by omega,?_,aC s⟩
    .rw[G,y,List.takeWhile_cons_of_pos H,bB];omega
    .simp only[go_sem,aR n aB]
   .have H:¬ p d=true:=by simp[h]
    rw[G,y,List.takeWhile_cons_of_neg H]at z;exact aS (gQ z)
  .have u:n=x.length:=by simp at h;omega
   subst u;rw[G,List.drop_length]at z;exact aS (gQ z)
theorem St.ge_same{s:St}{b:Nat}{o:Ob}(h:s.getO b=some o):s.ge (s.setO b o) :=
 ⟨fun c x u => by
  rw[aX]at u;split at u
  .rename_i e;subst e;rw[h];exact u
  .exact u,λ_ _ h=>h,λ_ h=>h⟩
def fS(x:aA)(u h y:Nat)(sg:List aA)(op:Bool):List A:=[.str x,.int .i64 u,.int .i64 h,.int .i64 y,.list none (sg.map .str),.bool op]
theorem aHs:∀(w v:aA) (p:Nat × Nat),eP p (w++v)=eP (eP p w) v
 | [],v,p=>rfl
 | b::w,v,(l,c)=>by
  simp only[bL,eP];split<;>exact aHs w v _
theorem wV:∀(w:aA) (p:Nat × Nat) (k:Nat),p.1<=k+1->p.2<=k+1->(eP p w).1<=k+w.length+1/\(eP p w).2<=k+w.length+1
 | [],p,k,h,u=>⟨h,u⟩
 | b::w,(l,c),k,h,u=>by
  simp only[eP,bB];split
  .have:=wV w (l+1,1) (k+1) (gQ h) aV;omega
  .have:=wV w (l,c+1) (k+1) (by have:l<=k+1:=h;simp;omega) (gQ u);omega
theorem aD6(s:St)(r:Nat)(x:aA)(u l c n:Nat)(sg:List aA)(op:Bool)(KV Kp)
  (hr:s.getO r=some (.cells 261 (fS x u l c sg op)))(hx:x.length<=4294967296)(hn:u+n<=x.length)(hl:l<=u+1)(Z:c<=u+1)
  (hk:KV (s.setO r (.cells 261 (fS x (u+n) (eP (l,c) ((x.drop u).take n)).1 (eP (l,c) ((x.drop u).take n)).2 sg op))) (.tuple [])) :
  Den cx 272 [.ptr r 0,.int .i64 n] KV Kp s:=by
 (refine aO func272 [0,1,4,5,6,23] ?_;simp only[go_sem,ntmps272,f272])
 refine Ex.loop (λi=>[(0,.ptr r 0),(4,.int .i64 n),(5,.int .i64 (i:Nat))])
  (λi=>s.setO r (.cells 261 (fS x (u+i) (eP (l,c) ((x.drop u).take i)).1 (eP (l,c) ((x.drop u).take i)).2 sg op)))
  (λi=>i<=n) (λi=>n-i) 0 (aN _) ?_ ?_ ?_
 .simp only[go_sem];rfl
 .simp only[jA,iD,eP];exact St.ge_same hr
 .intro i hi;refine aQ (V:=[0,1,4,5,6,23]) _ _ _ _ ?_;have Y:=wV ((x.drop u).take i) (l,c) u hl Z;have G:((x.drop u).take i).length=i:=by rw[dG,eR];omega
  rw[G]at Y;simp only[go_sem]
  (apply aI<;>intro h)<;>simp only[go_sem,h]
  .have z:i<n:=gQ h;have B:u+i<x.length:=by omega
   obtain⟨d,M⟩:=aU B;simp only[go_sem,fS];rw[aR _ aB];(refine bX (OT.r 0 10) [] ?_;simp only[go_sem,M,B])
   have H:eP (l,c) ((x.drop u).take (i+1))=eP (eP (l,c) ((x.drop u).take i)) [d]:=by
    rw[fL,nD,M,aHs];rfl
   have U:IntKind.i64.wrap ((i:Int)+1)=((i+1:Nat):Int):=aR i aB;have O:IntKind.i64.wrap (((u+i:Nat):Int)+1)=((u+(i+1):Nat):Int):=by rw[aR _ aB];rfl
   have S:IntKind.i64.wrap (((eP (l,c) ((x.drop u).take i)).1:Int)+1)=(((eP (l,c) ((x.drop u).take i)).1+1:Nat):Int):=aR _ aB
   (apply aI<;>intro h)<;>simp only[go_sem,h,O,S,U]
   .have y:d=10:=by
     have:d.toNat=10:=by simp at h;omega
     exact rD.1 this
    refine⟨i+1,by omega,by omega,rfl,?_⟩;rw[H];simp only[eP,y,dJ];exact aC _
   .have y:¬ d=10:=by rintro rfl;simp at h
    refine⟨i+1,by omega,by omega,rfl,?_⟩;rw[H];simp only[eP,y,dY];exact aC _
  .have z:i=n:=by simp at h;omega
   subst z;exact aS hk
@[go_sem] theorem aPD(x:aA)(n:Nat):(x.drop n).take (x.length-n)=x.drop n:=lU (by rw[eR];exact bF _)
theorem aGd{b:UInt8}{r:aA}(h:rI (b::r) [47,47]=true):1<=((b::r).takeWhile (λc=>!decide (c=10))).length:=by
 have u:b=47:=by
  simp only[rI,aY,bR]at h;have:=h.2;simp at this;exact this.1
 subst u;simp[List.takeWhile]
theorem aG2:∀(f g:Nat) (w:aA),w.length<=f->w.length<=g->sU f w=sU g w
 | f,g,[],_,_=>by cases f<;>cases g<;>rfl
 | 0,g,b::r,h,_=>by simp at h
 | f,0,b::r,_,h=>by simp at h
 | f+1,g+1,b::r,u,y=>by
  simp only[bB]at u y;simp only[sU];split
  .rw[aG2 f g r aB aB]
  .split
   .rename_i z;have:=aGd z;rw[aG2 f g _ (by rw[eR,bB];omega) (by rw[eR,bB];omega)]
   .rfl
theorem aTy:gI []=0:=rfl
theorem aRs{b:UInt8}{r:aA}(h:wS b=true):gI (b::r)=1+gI r:=by
 simp only[gI,bB,sU,h,dJ]
theorem aSk{b:UInt8}{r:aA}(u:wS b=false)(h:rI (b::r) [47,47]=true) :
  gI (b::r)=((b::r).takeWhile (λc=>!decide (c=10))).length+gI ((b::r).drop ((b::r).takeWhile (λc=>!decide (c=10))).length):=by
 have:=aGd h;simp only[gI,bB,sU,u,cV,dY,h,dJ];rw[aG2 r.length _ _ (by rw[eR,bB];omega) (bF _)]
theorem aSj{b:UInt8}{r:aA}(u:wS b=false)(h:rI (b::r) [47,47]=false):gI (b::r)=0:=by
 simp only[gI,bB,sU,u,cV,dY,h]
theorem aSB(b:UInt8):decide (0<=Lib.indexByte [32,9,10,13] b)=wS b:=by
 by_cases h:b=32
 .subst h;decide
 by_cases u:b=9
 .subst u;decide
 by_cases y:b=10
 .subst y;decide
 by_cases z:b=13
 .subst z;decide
 have B:((32:UInt8) == b)=false:=aBP.2 λe=>h e.symm
 have G:((9:UInt8) == b)=false:=aBP.2 λe=>u e.symm
 have H:((10:UInt8) == b)=false:=aBP.2 λe=>y e.symm
 have M:((13:UInt8) == b)=false:=aBP.2 λe=>z e.symm
 simp[Lib.indexByte,wS,B,G,H,M,h,u,y,z]
theorem aTS(w:aA):(if Lib.indexByte w 10<0 then((w.length:Nat):Int) else Lib.indexByte w 10)=((w.takeWhile (λc=>!decide (c=10))).length:Nat)/\(Lib.indexByte w 10=-1\/0<=Lib.indexByte w 10):=by
 induction w with
 | nil=>simp[Lib.indexByte]
 | cons b r u =>
  obtain⟨u,G⟩:=u;unfold Lib.indexByte;by_cases y:b=10
  .subst y;simp
  .have z:(b == 10)=false:=gQ y;rw[z];simp only[cV,dY];have B:(b::r).takeWhile (λc=>!decide (c=10))=b::r.takeWhile (λc=>!decide (c=10)):=by simp[List.takeWhile,y]
   rw[B];rcases G with h|h
   .rw[h]at u⊢;simp only[show((-1:Int)<0) from by decide,dJ]at u;simp only[beq_self_eq_true,dJ,show((-1:Int)<0) from by decide,bB];exact⟨by omega,.inl trivial⟩
   .have H:¬ Lib.indexByte r 10<0:=by omega
    have M:(Lib.indexByte r 10 == -1)=false:=by simpa using(by omega:¬ Lib.indexByte r 10=-1)
    rw[aE H]at u;rw[M];simp only[cV,dY,bB];rw[aE aB];exact⟨by omega,.inr aB⟩
theorem aKi(s:St)(r:Nat)(x:aA)(u l c:Nat)(sg:List aA)(op:Bool)(KV Kp)
  (hr:s.getO r=some (.cells 261 (fS x u l c sg op)))(hx:x.length<=4294967296)(ha:u<=x.length)(hl:l<=u+1)(hc:c<=u+1)
  (U:KV (s.setO r (.cells 261 (fS x (u+gI (x.drop u)) (eP (l,c) ((x.drop u).take (gI (x.drop u)))).1 (eP (l,c) ((x.drop u).take (gI (x.drop u)))).2 sg op))) (.tuple [])) :
  Den cx 270 [.ptr r 0] KV Kp s:=by
 (refine aO func270 [0,2,3,13,23,30,36] ?_;simp only[go_sem,ntmps270,f270])
 refine Ex.loop (λk=>[(0,.ptr r 0)])
  (λk=>s.setO r (.cells 261 (fS x (u+k) (eP (l,c) ((x.drop u).take k)).1 (eP (l,c) ((x.drop u).take k)).2 sg op)))
  (λk=>u+k<=x.length/\gI (x.drop u)=k+gI (x.drop (u+k))) (λk=>x.length-(u+k)) 0 ⟨by omega,by simp⟩ ?_ ?_ ?_
 .simp only[go_sem]
 .simp only[jA,iD,eP];exact St.ge_same hr
 .rintro k ⟨b3,S⟩;have M:((x.drop u).take k).length=k:=by rw[dG,eR];omega
  have Z:=wV ((x.drop u).take k) (l,c) u hl hc;rw[M]at Z
  have y:∀m,eP (l,c) ((x.drop u).take (k+m))=eP (eP (l,c) ((x.drop u).take k)) ((x.drop (u+k)).take m):=by
   intro m;rw[List.take_add,aHs,wD]
  refine aQ (V:=[0,2,3,13,23,30,36]) _ _ _ _ ?_;simp only[go_sem];(refine bX (OT.r 0 10) [] ?_;simp only[go_sem,fS])
  (apply aI<;>intro h)<;>simp only[go_sem,h]
  .have z:u+k<x.length:=gQ h
   have H:∃d w,x.drop (u+k)=d::w:=by
    rw[rA z];exact⟨_,_,rfl⟩
   obtain⟨d,w,B⟩:=H;have Y:u+k<=x.length:=by omega
   have b2:(d::w).take (x.length-(u+k))=d::w:=by rw[<-B];exact aPD x _
   (refine bX (OT.r 0 10) [] ?_;simp only[go_sem,fS,B,b2,Y,bF]);refine aDm _ _ _ _ _ ?_;simp only[go_sem,aSB]
   (apply aI<;>intro h)<;>simp only[go_sem,h]
   ·
    refine aD6 _ r x (u+k) _ _ 1 sg op _ _ (by rw[aX,aF rfl];rfl) hx aB aB aB ?_;simp only[go_sem];refine⟨k+1,⟨by omega,?_⟩,by omega,?_⟩
    .rw[S,B,aRs h,show u+(k+1)=u+k+1 from rfl,<-wD,B];simp;omega
    .rw[y 1];exact aC _
   .refine aI7 _ _ _ _ _ ?_;simp only[go_sem]
    (apply aI<;>intro h)<;>simp only[go_sem,h]
    .have G:wS d=false:=by assumption
     have hp:=h;refine aDm _ _ 10 _ _ ?_;simp only[go_sem];have hi:=aTS (d::w);have O:=aGd hp;have b1:((d::w).takeWhile (λc=>!decide (c=10))).length<=(d::w).length:=(List.takeWhile_sublist _).length_le;have b4:(d::w).length=x.length-(u+k):=by rw[<-B,eR]
     have fin:∀m:Nat,m=((d::w).takeWhile (λc=>!decide (c=10))).length->u+k+m<=x.length/\gI (x.drop u)=k+m+gI (x.drop (u+(k+m))):=by
      rintro m rfl;refine⟨by omega,?_⟩;have:=aSk G hp;rw[S,B,this,<-nS u,<-wD,B];omega
     generalize hm:((d::w).takeWhile (λc=>!decide (c=10))).length=m at hi O b1;obtain⟨f1,f2⟩:=fin m hm.symm
     (apply aI<;>intro h)<;>simp only[go_sem,h]
     .have z:Lib.indexByte (d::w) 10<0:=gQ h;have e:=hi.1;rw[aF z]at e;have e:w.length+1=m:=by simp at e;omega
      rw[e];refine aD6 _ r x (u+k) _ _ m sg op _ _ (by rw[aX,aF rfl];rfl) hx f1 aB aB ?_;simp only[go_sem];refine⟨k+m,⟨by omega,f2⟩,by omega,?_⟩;rw[y m,nS u k m];exact aC _
     .have z:¬ Lib.indexByte (d::w) 10<0:=gQ h;have e:=hi.1;rw[aE z]at e;rw[e];refine aD6 _ r x (u+k) _ _ m sg op _ _ (by rw[aX,aF rfl];rfl) hx f1 aB aB ?_;simp only[go_sem];refine⟨k+m,⟨by omega,f2⟩,by omega,?_⟩;rw[y m,nS u k m];exact aC _
    .have G:wS d=false:=by assumption
     rw[S,B,aSj G h,jA]at U;exact aS U
  .have b0:u+k=x.length:=by simp at h;omega
   have e:gI (x.drop u)=k:=by rw[S,b0,List.drop_length,aTy];rfl
   rw[e]at U;exact aS U
theorem aCo{x:aA}{i:Nat}{d:UInt8}(u:x[i]?=some d)(h:d.toNat<128):Utf8.decode ⟨x.toArray⟩ i=(d.toNat,1):=by
 have z:i<x.length:=(cX.1 u).1;have y:i<(ByteArray.mk x.toArray).size:=by simpa [ByteArray.size]using z
 have e:(ByteArray.mk x.toArray)[i]'y=d:=by
  exact(cX.1 u).2
 have:=decode_ascii ⟨x.toArray⟩ i y (by rw[e];exact h);rw[this,e]
theorem aTH{x:aA}{i:Nat}{d:UInt8}(u:x[i]?=some d)(h:128<=d.toNat):128<=(Utf8.decode ⟨x.toArray⟩ i).1:=by
 have z:i<x.length:=(cX.1 u).1;have y:i<(ByteArray.mk x.toArray).size:=by simpa [ByteArray.size]using z
 have e:(ByteArray.mk x.toArray)[i]'y=d:=by
  exact(cX.1 u).2
 exact(decode_high ⟨x.toArray⟩ i y (by rw[e];exact h)).1
theorem aJp(s:St)(x:aA)(KV Kp)(Z:KV s (.bool (sK x))):Den cx 231 [.str x] KV Kp s:=by
 (refine aO func231 [0,2,4,6,7,8,23] ?_;simp only[go_sem,ntmps231,f231]);intro b hb;simp only[go_sem]
 refine Ex.loop (λi=>[(0,.str x),(6,.ptr b 0)]) (λi=>s.setO b (.iter x i))
  (λi=>i<=x.length/\∀d∈x.take i,qB d=true) (λi=>x.length-i) 0 ⟨aN _,by simp⟩ ?_ (aC _) ?_
 .simp only[go_sem]
 .rintro i ⟨hi,h⟩;refine aQ (V:=[0,2,4,6,7,8,23]) _ _ _ _ ?_;by_cases y:i<x.length
  .obtain⟨d,B⟩:=aU y
   have bad:qB d=false->∀o,DK KV (s.setO b o) (.bool false):=λM o=>by
    have:sK x=false:=by
     rw[sK,Bool.and_eq_false_iff];refine .inl (iV.2 λh=>?_);rw[cL]at h;rw[h d (bA B)]at M;cases M
    rw[this]at Z;exact aD Z (nG hb)
   by_cases u:d.toNat<128
   .by_cases M:qB d=true
    .have z:=M;simp only[qB,aY,bR,fV,eF]at z;obtain⟨o1,o2,o3,o4⟩:=z;have n3:¬ d.toNat=34:=λe=>o3 (rD.1 e)
     have n4:¬ d.toNat=92:=λe=>o4 (rD.1 e)
     have G:decide ((d.toNat:Int)<32)=false:=bN aB;have H:decide (126<(d.toNat:Int))=false:=bN aB;have O:decide ((d.toNat:Int)=34)=false:=bN aB;have U:decide ((d.toNat:Int)=92)=false:=bN aB;simp only[go_sem,y,aCo B u,G,H,O,U];refine⟨i+1,⟨by omega,λq S=>?_⟩,by omega,aC _⟩;rw[fL,B]at S;simp only[bT,Option.toList_some,bS]at S;rcases S with S|rfl
     .exact h q S
     .exact M
    .have z:qB d=false:=gQ M;have bad:=bad z;by_cases o1:32<=d.toNat
     .have G:decide ((d.toNat:Int)<32)=false:=bN aB;by_cases o2:d.toNat<=126
      .have H:decide (126<(d.toNat:Int))=false:=bN aB;by_cases o3:d.toNat=34
       .have O:decide ((d.toNat:Int)=34)=true:=cF aB;simp only[go_sem,y,aCo B u,G,H,O];exact bad _
       .have O:decide ((d.toNat:Int)=34)=false:=bN aB
        have o4:d.toNat=92:=by
         have n3:¬ d=34:=λe=>o3 (by rw[e];rfl)
         simp only[qB,o1,o2,n3,wG,tA,dD,fN,aF2,bR]at z;rw[z];rfl
        have U:decide ((d.toNat:Int)=92)=true:=cF aB;simp only[go_sem,y,aCo B u,G,H,O,U];exact bad _
      .have H:decide (126<(d.toNat:Int))=true:=cF aB;simp only[go_sem,y,aCo B u,G,H];exact bad _
     .have G:decide ((d.toNat:Int)<32)=true:=cF aB;simp only[go_sem,y,aCo B u,G];exact bad _
   .have hh:=aTH B aB;have G:decide (((Utf8.decode ⟨x.toArray⟩ i).1:Int)<32)=false:=bN aB;have H:decide (126<((Utf8.decode ⟨x.toArray⟩ i).1:Int))=true:=cF aB;simp only[go_sem,y,G,H];exact bad (by simp only[qB,show¬ d.toNat<=126 from by omega,tA,eY,gY]) _
  .have Y:i=x.length:=by omega
   simp only[go_sem,y];refine aD (s2:=s) ?_ (nG hb)
   have:sK x=decide ((x.length:Int)<=200):=by
    rw[sK]
    have:x.all qB=true:=by
     rw[cL];intro d B;rw[Y,bK]at h;exact h d B
    rw[this,dD];congr 1;simp;omega
   rwa[this]at Z
theorem aP7(s:St)(x:aA)(c:UInt8)(KV Kp)(u:KV s (.str (x.dropWhile (yA c)))):Den cx 305 [.str x,.int .u8 c.toNat] KV Kp s:=by
 (refine aO func305 [0,1,4,13] ?_;simp only[go_sem,ntmps305,f305])
 refine Ex.loop (λw=>[(0,.str w),(1,.int .u8 c.toNat)]) (λ_=>s)
  (λw=>w.dropWhile (yA c)=x.dropWhile (yA c)) (λw=>w.length) x rfl ?_ (aC s) ?_
 .simp only[go_sem]
 .intro w y;refine aQ (V:=[0,1,4,13]) _ _ _ _ ?_;cases w with
  | nil =>
   simp only[go_sem,show decide ((0:Int)<((0:Nat):Int))=false from rfl];rw[<-y]at u;exact aS u
  | cons b r =>
   simp only[go_sem,show decide ((0:Int)<((r.length+1:Nat):Int))=true from cF aB]
   have e:decide (b.toNat=c.toNat)=yA c b:=by
    unfold yA;congr 1;exact propext rD
   simp only[go_sem,e]
   (apply aI<;>intro h)<;>simp only[go_sem,h]
   .simp only[go_sem,show(1:Int)<=((r.length+1:Nat):Int) from by omega,show Int.toNat 1=1 from rfl];refine⟨by decide,r,?_,by omega,?_,aC s⟩
    .rw[<-y,List.dropWhile_cons,aF h]
    .exact lU aB
   .rw[<-y,List.dropWhile_cons,aE (by simp[h])]at u;exact aS u
theorem aP8(s:St)(x:aA)(c:UInt8)(KV Kp)(u:c.toNat<128)(h:KV s (.str (x.dropWhile (yA c)))):Den cx 300 [.str x,.str [c]] KV Kp s:=by
 (refine aO func300 [0,1,4,5,6,12,21,31] ?_;simp only[go_sem,ntmps300,f300]);cases x with
 | nil =>
  simp only[go_sem];exact aS h
 | cons b r =>
  simp only[go_sem,show decide (((1:Nat):Int)=1)=true from rfl,show decide ((c.toNat:Int)<128)=true from cF aB];refine aP7 _ _ _ _ _ ?_;simp only[go_sem];exact aS h
theorem aLa(x:aA)(d:UInt8):hY (x++[d])=hY x * 10+(d.toNat-48):=by
 simp[hY,lW]
theorem aLT:∀(n:Nat) (x:aA),x.length=n->aEt x->hY x<10 ^ n
 | 0,x,h,_=>by have:x=[]:=eK h;subst this;simp[hY]
 | n+1,x,h,z=>by
  have u:x≠[]:=by rintro rfl;simp at h
  obtain⟨y,d,rfl⟩:∃y d,x=y++[d]:=⟨x.dropLast,x.getLast u,(List.dropLast_concat_getLast u).symm⟩
  have G:=aLT n y (gQ h) (λe B=>z e (by simp[B]));have:=z d aV;rw[aLa,Nat.pow_succ];omega
theorem aTu(s:St)(x:aA)(KV Kp)(hl:1<=x.length)(z:x.length<=11)(G:aEt x)(hk:KV s (.tuple [.int .i64 (hY x),.nili])):Den cx 309 [.str x] KV Kp s:=by
 obtain⟨b,r,rfl⟩:∃b r,x=b::r:=by
  cases x with
  | nil=>simp at hl
  | cons b r=>exact⟨b,r,rfl⟩
 have hb:=G b aV;(refine aO func309 aN1 ?_;simp only[go_sem,ntmps309,f309]);have U:decide ((0:Int)<((r.length+1:Nat):Int))=true:=cF aB;have Y:decide (((r.length+1:Nat):Int)<19)=true:=cF (by simp at z;omega);have M:decide ((b.toNat:Int)=45)=false:=bN aB;have Z:decide ((b.toNat:Int)=43)=false:=bN aB;simp only[go_sem,U,Y,M,Z];refine⟨by unfold maxLen;simp at z;omega,?_⟩;have hx:(b::r).length=r.length+1:=rfl;generalize B:b::r=x at *
 refine Ex.loop (λi=>[(5,.str x),(6,.int .i64 (hY (x.take i):Nat)),(47,.list none (x.map λc=>.int .u8 c.toNat)),(48,.int .i64 ((r.length+1:Nat))),(49,.int .i64 (i:Nat)),(3,.nili)]) (λ_=>s)
  (λi=>i<=x.length) (λi=>x.length-i) 0 (aN _) ?_ (aC s) ?_
 .simp only[go_sem];subst B;exact⟨rfl,rfl,rfl⟩
 .intro i hi;refine aQ (V:=aN1) _ _ _ _ ?_;simp only[go_sem]
  (apply aI<;>intro h)<;>simp only[go_sem,h]
  .have u:i<x.length:=by simp at h;omega
   obtain⟨d,y⟩:=aU u;have O:=G d (bA y)
   have f1:IntKind.u8.wrap ((d.toNat:Int)-48)=((d.toNat-48:Nat):Int):=by
    have S:((d.toNat:Int)-48) % 2 ^ 8=(d.toNat:Int)-48:=by omega
    simp only[IntKind.wrap,IntKind.signed,IntKind.bits,eY,cV,dY,S];omega
   have hn:hY (x.take i)<10 ^ 11:=by
    have h1:=aLT (x.take i).length (x.take i) rfl (λe he=>G e (qC he));have h2:(x.take i).length<=11:=by rw[dG];omega
    exact Nat.lt_of_lt_of_le h1 (Nat.pow_le_pow_right cT h2)
   have f2:decide ((9:Int)<((d.toNat-48:Nat):Int))=false:=bN aB
   have f3:IntKind.i64.wrap (((hY (x.take i):Nat):Int) * 10)=((hY (x.take i) * 10:Nat):Int):=by
    rw[gT _ aB aB];omega
   have f4:IntKind.i64.wrap ((d.toNat-48:Nat):Int)=((d.toNat-48:Nat):Int):=gT _ aB aB
   have f5:IntKind.i64.wrap (((hY (x.take i) * 10:Nat):Int)+((d.toNat-48:Nat):Int))=((hY (x.take (i+1)):Nat):Int):=by
    rw[fL,y];show _=((hY (x.take i++[d]):Nat):Int);rw[aLa,gT _ aB aB];omega
   simp only[go_sem,y,u,f1,f2,f3,f4,f5,aR i aB];exact⟨i+1,by omega,by omega,⟨rfl,rfl⟩,aC s⟩
  .have u:i=x.length:=by simp at h;omega
   have h0:x[0]?=some b:=by rw[<-B];rfl
   have H:0<x.length:=by omega
   simp only[go_sem,h0,H,M];rw[u,bK];exact aS hk
theorem aJL(s:St)(x:aA)(KV Kp)(hl:1<=x.length)(h:x.length<=11)(u:aEt x)(y:KV s (.tuple [.int .i64 (hY x),.nili])):Den cx 301 [.str x] KV Kp s:=by
 (refine aO func301 [0,2,3,4,5,12] ?_;simp only[go_sem,ntmps301,f301]);refine aTu _ _ _ _ hl h u ?_;simp only[go_sem];exact aS y
theorem aRV(s:St)(x:aA)(KV Kp)(hx:x.length<=4294967296)(B:KV s (.tuple [(vF x).1.enc,.int .i64 (vF x).2.1,.bool (vF x).2.2])):Den cx 288 [.str x] KV Kp s:=by
 (refine aO func288 [0,2,3,4,5,6,28] ?_;simp only[go_sem,ntmps288,f288]);intro b y;simp only[go_sem,y];refine aM1 _ _ _ (λc=>lS c.toNat) _ _ hx (λc KV Kp h=>aJU _ _ _ _ h) ?_;generalize Z:(x.takeWhile λc=>lS c.toNat).length=n at B;have hnl:n<=x.length:=by rw[<-Z];exact(List.takeWhile_sublist _).length_le
 simp only[go_sem,hnl];refine aP8 _ _ 48 _ _ cT ?_;simp only[go_sem];generalize hg:(x.take n).dropWhile (yA 48)=g at B
 have bad:(10<g.length\/(∃c,x[n]?=some c/\jK c.toNat=true))->vF x=(⟨0,[],0,0,0⟩,0,false):=by
  intro hh;simp only[vF,Z,hg,aF hh]
 have G:¬ (10<g.length\/(∃c,x[n]?=some c/\jK c.toNat=true))->vF x=(⟨2,[],hY g,0,0⟩,n,decide (hY g<=2147483647)):=by
  intro hh;simp only[vF,Z,hg,aE hh]
 have U:aEt g:=by
  intro d z;rw[<-hg]at z;have u:=(List.dropWhile_sublist _).mem z;rw[<-Z]at u
  have S:d∈x.takeWhile λc=>lS c.toNat:=by
   have:=qC (l:=x) u
   have e:x.take (x.takeWhile λc=>lS c.toNat).length=x.takeWhile λc=>lS c.toNat:=by
    conv=>lhs;arg 2;rw[<-List.takeWhile_append_dropWhile (p:=λc=>lS c.toNat) (l:=x)]
    rw[List.take_left'];rfl
   rw[e]at u;exact u
  have h3:=cL.1 (List.all_takeWhile (p:=λc:UInt8=>lS c.toNat) (l:=x)) d S;simp only[lS,aY,bR]at h3;omega
 (apply aI<;>intro h)<;>simp only[go_sem,h,y]
 .rw[bad (.inl (by simp at h;omega))]at B;exact aD B (nG y)
 .have H:¬ 10<g.length:=by simp at h;omega
  (apply aI<;>intro h)<;>simp only[go_sem,h,y]
  .have Y:n<x.length:=gQ h;obtain⟨c,hc⟩:=aU Y;simp only[go_sem,hc,Y,y];refine aDB _ _ _ _ ?_;simp only[go_sem,y]
   (apply aI<;>intro h)<;>simp only[go_sem,h,y]
   .rw[bad (.inr ⟨c,hc,h⟩)]at B;exact aD B (nG y)
   .have O:¬ (10<g.length\/(∃c,x[n]?=some c/\jK c.toNat=true)):=by
     rintro(u|⟨c',u,S⟩)
     .exact H u
     .rw[hc]at u;cases u;rw[h]at S;cases S
    have M:=G O;rw[M]at B;have m1:(48::g).length<=11:=by simp;omega
    refine⟨by unfold maxLen;omega,?_⟩
    refine aJL _ _ _ _ aV m1 (λd z=>by
     simp only[cR]at z;rcases z with rfl|z
     .decide
     .exact U d z) ?_
    have m2:hY (48::g)=hY g:=rfl;simp only[go_sem,y,m2];have m3:decide (((hY g:Nat):Int)<=2147483647)=decide (hY g<=2147483647):=by congr 1;simp only[eq_iff_iff];omega
    rw[m3];exact aD B (nG y)
  .have O:¬ (10<g.length\/(∃c,x[n]?=some c/\jK c.toNat=true)):=by
    rintro(u|⟨c',u,S⟩)
    .exact H u
    .have:=(cX.1 u).1;simp at h;omega
   have M:=G O;rw[M]at B;have m1:(48::g).length<=11:=by simp;omega
   refine⟨by unfold maxLen;omega,?_⟩
   refine aJL _ _ _ _ aV m1 (λd z=>by
    simp only[cR]at z;rcases z with rfl|z
    .decide
    .exact U d z) ?_
   have m2:hY (48::g)=hY g:=rfl;simp only[go_sem,y,m2];have m3:decide (((hY g:Nat):Int)<=2147483647)=decide (hY g<=2147483647):=by congr 1;simp only[eq_iff_iff];omega
   rw[m3];exact aD B (nG y)
theorem aRb(s:St)(l:List aA)(x:aA)(KV Kp)(U:∀r:Int,(0<=r↔x∈l)->KV s (.int .i64 r)):Den cx 117 [.list none (l.map .str),.str x] KV Kp s:=by
 refine gC λS=>?_
 have O:=S _ (bY ..);(refine aO func117 pP ?_;simp only[go_sem,ntmps117,f117])
 refine Ex.loop (λi=>[(0,.list none (l.map .str)),(1,.str x),(7,.int .i64 l.length),(8,.int .i64 (i:Nat))]) (λ_=>s)
  (λi=>i<=l.length/\∀j,j<i->l[j]?≠some x) (λi=>l.length-i) 0 ⟨aN _,λj H=>by omega⟩ ?_ (aC s) ?_
 .simp only[go_sem];rfl
 .rintro i ⟨Y,y⟩;refine aQ (V:=pP) _ _ _ _ ?_;simp only[go_sem]
  (apply aI<;>intro h)<;>simp only[go_sem,h]
  .have u:i<l.length:=gQ h;obtain⟨a,G⟩:=aU u;simp only[go_sem,G,u]
   (apply aI<;>intro h)<;>simp only[go_sem,h]
   .have z:x=a:=gQ h;subst z;have B:x∈l:=bA G;exact aS (U _ ⟨λ_=>B,λ_=>by omega⟩)
   .have z:¬ x=a:=gQ h;refine⟨i+1,⟨by omega,λj H=>?_⟩,by omega,?_,aC s⟩
    .by_cases M:j=i
     .subst M;rw[G];simpa [eq_comm]using z
     .exact y j aB
    .simp only[go_sem,O.wrap (i:=i) (gQ u)]
  .have u:i=l.length:=by simp at h;omega
   have B:¬ x∈l:=by
    intro B;obtain⟨j,H,e⟩:=iC B;exact y j aB (by rw[cO H,e])
   exact aS (U _ ⟨λh=>cG h cT,λh=>cG h B⟩)
theorem qK(s:St)(l:List aA)(x:aA)(KV Kp)(h:KV s (.bool (decide (x∈l)))):Den cx 62 [.list none (l.map .str),.str x] KV Kp s:=by
 (refine aO func62 [0,1,4] ?_;simp only[go_sem,ntmps62,f62]);refine aRb _ _ _ _ _ λr u=>?_
 simp only[go_sem];have:decide (0<=r)=decide (x∈l):=by simp only[u]
 rw[this];exact aS h
end Go.AV
section
open Go.Proofs.Tryz
namespace Go.Proofs
open Go.Shelf
end Go.Proofs
namespace Go.AV
open Go Go.Proofs
theorem aAD {P : Program} {f : FuncId} {fn : Func} {c : Code} (y : P.funcs[f]? = some fn) (u : fn.body = some c) (h : (fn.name == "runtime.NumGoroutine") = false) (vals : Array Value) (w : World) :
  (callFunc f vals).run P w=.ok (.enter f vals) w:=by
 simp only[callFunc,bG,run_program,bJ,y,h,cV,↓reduceIte,u,qG,bV]
end Go.AV
end
section
open Go.Proofs.Tryz
namespace Go.Proofs
open Go.Shelf
def Tryz.lays157_ren:Go.Shelf.Ren:=⟨λ|157=>184|229=>235|199=>236|261=>268|311=>282|312=>283|n=>n,λ|9=>9|31=>22|3=>3|5=>5|4=>4|119=>247|0=>0|40=>249|152=>273|21=>21|154=>275|51=>201|141=>277|196=>289|193=>286|198=>292|49=>290|194=>287|201=>295|226=>300|46=>152|227=>301|n=>n,λ|0=>0|6=>1|n=>n⟩
theorem Tryz.lays157:Go.Proofs.Lays.n157 Tryz.prog Tryz.lays157_ren:={
 mixed:=by kernel_rfl
 f157:=Tryz.func184.trans (congrArg some (by kernel_rfl))
 f199:=Tryz.func236.trans (congrArg some (by kernel_rfl))
 f229:=Tryz.func235.trans (congrArg some (by kernel_rfl))
 f261:=Tryz.func268.trans (congrArg some (by kernel_rfl))
 f311:=Tryz.func282.trans (congrArg some (by kernel_rfl))
 f312:=Tryz.func283.trans (congrArg some (by kernel_rfl))
 t0:=Tryz.underlying0
 a0:=Tryz.isAgg0
 z0:=Tryz.sizeOf0
 v0:=Tryz.zeroValue0
 t3:=Tryz.underlying3
 a3:=Tryz.isAgg3
 z3:=Tryz.sizeOf3
 v3:=Tryz.zeroValue3
 t4:=Tryz.underlying4
 a4:=Tryz.isAgg4
 z4:=Tryz.sizeOf4
 v4:=Tryz.zeroValue4
 t5:=Tryz.underlying5
 a5:=Tryz.isAgg5
 z5:=Tryz.sizeOf5
 v5:=Tryz.zeroValue5
 t9:=Tryz.underlying9
 a9:=Tryz.isAgg9
 z9:=Tryz.sizeOf9
 v9:=Tryz.zeroValue9
 t21:=Tryz.underlying21
 a21:=Tryz.isAgg21
 z21:=Tryz.sizeOf21
 v21:=Tryz.zeroValue21
 t31:=Tryz.underlying22
 a31:=Tryz.isAgg22
 z31:=Tryz.sizeOf22
 v31:=Tryz.zeroValue22
 t40:=Tryz.underlying249
 a40:=Tryz.isAgg249
 z40:=Tryz.sizeOf249
 v40:=Tryz.zeroValue249
 t46:=Tryz.underlying152
 a46:=Tryz.isAgg152
 z46:=Tryz.sizeOf152
 v46:=Tryz.zeroValue152
 t49:=Tryz.underlying290
 a49:=Tryz.isAgg290
 z49:=Tryz.sizeOf290
 v49:=Tryz.zeroValue290
 t51:=Tryz.underlying201
 a51:=Tryz.isAgg201
 z51:=Tryz.sizeOf201
 v51:=Tryz.zeroValue201
 t119:=Tryz.underlying247
 a119:=Tryz.isAgg247
 z119:=Tryz.sizeOf247
 t141:=Tryz.underlying277
 a141:=Tryz.isAgg277
 z141:=Tryz.sizeOf277
 v141:=Tryz.zeroValue277
 t152:=Tryz.underlying273
 a152:=Tryz.isAgg273
 z152:=Tryz.sizeOf273
 v152:=Tryz.zeroValue273
 t154:=Tryz.underlying275
 a154:=Tryz.isAgg275
 z154:=Tryz.sizeOf275
 v154:=Tryz.zeroValue275
 t193:=Tryz.underlying286
 a193:=Tryz.isAgg286
 z193:=Tryz.sizeOf286
 v193:=Tryz.zeroValue286
 t194:=Tryz.underlying287
 a194:=Tryz.isAgg287
 z194:=Tryz.sizeOf287
 v194:=Tryz.zeroValue287
 t196:=Tryz.underlying289
 a196:=Tryz.isAgg289
 z196:=Tryz.sizeOf289
 v196:=Tryz.zeroValue289
 t198:=Tryz.underlying292
 a198:=Tryz.isAgg292
 z198:=Tryz.sizeOf292
 v198:=Tryz.zeroValue292
 t201:=Tryz.underlying295
 a201:=Tryz.isAgg295
 z201:=Tryz.sizeOf295
 v201:=Tryz.zeroValue295
 t226:=Tryz.underlying300
 a226:=Tryz.isAgg300
 z226:=Tryz.sizeOf300
 v226:=Tryz.zeroValue300
 t227:=Tryz.underlying301
 a227:=Tryz.isAgg301
 z227:=Tryz.sizeOf301
 v227:=Tryz.zeroValue301
 g0:=by kernel_rfl
 g6:=by kernel_rfl }
open Go.RowKit Go.Lib in
theorem Tryz.strings_Fields (s : ByteArray) (w : World) (y : s.size < 4294967281) (h : ∀ (j : Nat) b,s.data.toList[j]? = some b → b.toNat < 128) (u : Lib.TabIs Tryz.prog w "strings.asciiSpace" .u8 Lib.asciiSpaceTab) :
  Calls Tryz.prog 184 #[.string s] w λe w' =>
   e=.returned (.slice (some ⟨w.heap.size,0,none⟩) (Lib.fields s.data.toList).length (Lib.fields s.data.toList).length)/\w'=w.alloc (.cells ((Lib.fields s.data.toList).map λl=>Value.string ⟨l.toArray⟩).toArray 9):=Any.strings_Fields Tryz.lays157 (by kernel_rfl) (by kernel_rfl) s w y h u
end Go.Proofs
namespace Go.AV
open Go Go.Proofs
theorem R.known{C:Ctx}{F:Fr}{g:Gh}{s:St}{w w':World}(h:R C F g s w)(B:∀b,b<w.heap.size->w'.heap[b]?=w.heap[b]?)(H:(w'.os,w'.output)=(w.os,w.output))
  {b:Nat}(U:w.heap.size<=b){vs rest:List Value}{e:TypeId}{fr:Nat × Nat}(S:w'.heap[b]?=some (.cells (vs++rest).toArray e fr)) :
  R C F (g.know b vs) s w'/\g.le (g.know b vs):=by
 have M:g.pi b=none:=by
  cases u:g.pi b with
  | none=>rfl
  | some pre=>have:=h.lt_pi u;omega
 have z:=aDy M vs
 refine⟨(h.keep B H).ghost z ?_ ?_ ?_ rfl rfl (λc o O=>by
  have:c≠b:=by have:=h.lt_frm O;omega
  simp only[Gh.know,this,↓reduceIte]),z⟩
 .intro c k y u;have:k≠b:=by have:=h.bet c k y;omega
  simp only[Gh.know,this,↓reduceIte];exact u
 .intro c pre u;by_cases y:c=b
  .subst y;simp only[Gh.know,↓reduceIte,bM]at u;subst u;exact⟨rest,e,fr,S⟩
  .simp only[Gh.know,y,↓reduceIte]at u;rw[B _ (h.lt_pi u)];exact h.pis c pre u
 .intro t n e v c xs _ _ y G;have:c≠b:=by have:=h.lt_pi G;omega
  simp only[Gh.know,this,↓reduceIte];exact G
theorem aV1 : prog.globalNamed "strings.asciiSpace" = some 0 := by kernel_rfl
theorem aDT:xP=Lib.asciiSpaceTab.map (λz=>A.int .u8 z):=by kernel_rfl
def gW(x:aA):Value:=.string ⟨x.toArray⟩
theorem aGc(x:aA)(l:List aA)(hl:Lib.fields x=l)(hn:l.length<=1000)(hx:x.length<4294967281)(ha:∀c,c∈x->c.toNat<128)(s:St)(KV Kp:St->A->Prop)(hk:KV s (.list none (l.map .str))):Den cx 184 [.str x] KV Kp s:=by
 intro F g w vals hR M;change OutV cx F g KV Kp ((callFunc 184 vals.toArray).run prog w);rw[aAD (P:=prog) func184 rfl rfl vals.toArray w];obtain⟨v,Z,hr⟩:=M.get (j:=0) rfl;have Y:=M.1
 have b0:vals=[.string ⟨x.toArray⟩]:=by
  match vals,Y,Z with
  | [y],_,h=>simp only[iO,bM]at h;subst h;rw[hr.str_inv]
 subst b0
 have H : Lib.TabIs prog w "strings.asciiSpace" .u8 Lib.asciiSpaceTab := by
  obtain⟨pre,ty,fr,h1,h2,h3,h4,h5⟩:=hR.gpi (b:=0) (cs:=xP) rfl;unfold Lib.TabIs World.var?;rw[aV1];simp only[rC,h1,bM];congr 1;apply List.ext_getElem?;intro i;by_cases u:i<xP.length
  .have B:i<pre.length:=by rw[h3];exact u
   have O:xP[i]?=some (.int .u8 (Lib.asciiSpaceTab[i]'(by rw[aDT]at u;simpa using u))):=by
    rw[cO u];simp[aDT]
   have:=h5 i _ _ O (cO B);rw[cO B,this.int_inv];rw[aDT]at u;simp only[aW]at u;simp[u]
  .rw[yI aB,yI (by rw[aDT]at u;simpa using u)]
 refine Calls.mono (strings_Fields ⟨x.toArray⟩ w (show x.toArray.size<4294967281 by simpa using hx) (λj b z=>ha b (bA (gQ z))) H) λe w' B=>?_
 obtain⟨rfl,rfl⟩:=B;have e1:Lib.fields (⟨x.toArray⟩:ByteArray).data.toList=l:=by rw[<-hl]
 rw[e1]
 have G:∀b,b<w.heap.size->(w.alloc (.cells (l.map λl=>Value.string ⟨l.toArray⟩).toArray 9)).heap[b]?=w.heap[b]?:=λb hb=>by
  simp only[World.alloc];rw[Array.getElem?_push_lt hb];exact(aAk hb).symm
 obtain⟨S,U⟩:=hR.known (vs:=l.map gW) (rest:=[]) (e:=9) (fr:=(0,0)) G rfl (bF _) (by
  simp only[World.alloc,cK];rw[Array.getElem?_push_size];rfl)
 refine⟨_,_,s,U,S,?_,hk⟩
 have key:Rz (g.know w.heap.size (l.map gW)) (.list none (l.map .str)) (.slice (some ⟨w.heap.size,0,none⟩) (l.map A.str).length l.length):=by
  refine .list none _ w.heap.size 0 1 l.length (l.map gW) (by simp[Gh.know]) aV aV (by simp only[maxLen];omega) ?_ ?_ ?_ (λt h=>by cases h)
  .intro y hy;obtain⟨p,_,rfl⟩:=cW.1 hy;rfl
  .intro y hy c O;obtain⟨p,_,rfl⟩:=cW.1 hy;simp only[A.cells,bS]at O;subst O;rfl
  .intro i y j c v u z M;rw[jU]at u;obtain⟨p,B,rfl⟩:=kN.1 u;simp only[A.cells]at z
   obtain rfl:j=0:=by
    have:=(cX.1 z).1;simp at this;omega
   simp only[iO,bM]at z;subst z;simp only[gK,Nat.mul_one,jA,jU,B,gS,bM]at M;subst M;exact .str p
 rw[aW]at key;exact key
end Go.AV
end
