/-
  Part of the proof of DefStops.
-/
import Derived.Test.YtamikhobdffnfaaGreatDoorSt07
import Derived.Lib.Bytealg
import Derived.Test.YtamikhobdffnfaaGreatDoorSt10
import Derived.Lib.ItoaNum
import Derived.Laws.Externs
set_option linter.all false
set_option maxRecDepth 1000000
set_option maxHeartbeats 40000000
section
namespace Go.AV
open Go
attribute [go_sem] Nat.reduceLT Nat.reduceEqDiff Nat.reduceBEq Nat.reduceAdd Nat.reduceLeDiff Nat.reduceMul reduceIte reduceCtorEq List.map true_and and_true List.elem decide_true decide_false Bool.not_true Bool.not_false Nat.le_refl List.length_cons List.length_nil List.getElem?_cons_zero List.getElem?_cons_succ Nat.zero_add Nat.add_zero List.cons_append List.nil_append List.set_cons_zero List.set_cons_succ List.take_succ_cons List.take_zero List.drop_succ_cons List.take_nil Nat.succ_eq_add_one Int.le_refl Int.toNat_zero Nat.sub_zero Nat.zero_lt_succ Bool.and_true Bool.true_and Bool.and_false Bool.false_and
abbrev Str := List UInt8
structure Fault where
 code : Int
 name : Str
 line : Int
 col : Int
 deriving DecidableEq
def Fault.none : Fault := ⟨0,[],0,0⟩
def Fault.cs (f : Fault) : List A := [.int .i64 f.code,.str f.name,.int .i64 f.line,.int .i64 f.col]
def Fault.enc (f : Fault) : A := .agg f.cs
structure Tok where
 kind : Int
 text : Str
 n : Int
 line : Int
 col : Int
 deriving DecidableEq
def Tok.cs (t : Tok) : List A := [.int .i64 t.kind,.str t.text,.int .i64 t.n,.int .i64 t.line,.int .i64 t.col]
def Tok.enc (t : Tok) : A := .agg t.cs
inductive Tm where
 | mk (kind n : Int) (text sort : Str) (kids rest : List Tm)
def Tm.kind : Tm → Int | .mk k _ _ _ _ _ => k
def Tm.n : Tm → Int | .mk _ n _ _ _ _ => n
def Tm.text : Tm → Str | .mk _ _ t _ _ _ => t
def Tm.sort : Tm → Str | .mk _ _ _ s _ _ => s
def Tm.kids : Tm → List Tm | .mk _ _ _ _ ks _ => ks
def Tm.rest : Tm → List Tm | .mk _ _ _ _ _ rs => rs
mutual
def Tm.enc : Tm → A
 | .mk k n t s ks rs => .agg [.int .i64 k,.int .i64 n,.str t,.str s,.list none (Tm.encs ks),.list none (Tm.encs rs)]
def Tm.encs : List Tm → List A
 | [] => []
 | t :: r => t.enc :: Tm.encs r
end
theorem Tm.encs_map : ∀ l : List Tm,Tm.encs l = l.map Tm.enc
 | [] => rfl
 | t :: r => by rw [Tm.encs,Tm.encs_map r]; rfl
def Tm.cs (t : Tm) : List A := [.int .i64 t.kind,.int .i64 t.n,.str t.text,.str t.sort,.list none (t.kids.map Tm.enc),.list none (t.rest.map Tm.enc)]
theorem Tm.enc_eq (t : Tm) : t.enc = .agg t.cs := by
 cases t;simp only [Tm.enc,Tm.cs,Tm.kind,Tm.n,Tm.text,Tm.sort,Tm.kids,Tm.rest,Tm.encs_map]
structure Below where
 low : Str
 high : Str
 deriving DecidableEq
def Below.cs (b : Below) : List A := [.str b.low,.str b.high]
def Below.enc (b : Below) : A := .agg b.cs
structure Piece where
 text : Str
 sort : Str
 deriving DecidableEq
def Piece.cs (b : Piece) : List A := [.str b.text,.str b.sort]
def Piece.enc (b : Piece) : A := .agg b.cs
structure Opr where
 name : Str
 args : List Str
 sort : Str
 pieces : List Piece
 prec : Int
 assoc : Int
 strict : List Int
 deriving DecidableEq
def Opr.cs (o : Opr) : List A := [.str o.name,.list none (o.args.map .str),.str o.sort,.list none (o.pieces.map Piece.enc),.int .i64 o.prec,.int .i64 o.assoc,.list none (o.strict.map (.int .i64))]
def Opr.enc (o : Opr) : A := .agg o.cs
structure Sig where
 sorts : List Str
 below : List Below
 ops : List Opr
 funs : List Opr
 values : List Str
def Sig.cs (s : Sig) : List A := [.list none (s.sorts.map .str),.list none (s.below.map Below.enc),.list none (s.ops.map Opr.enc),.list none (s.funs.map Opr.enc),.list none (s.values.map .str)]
def Sig.enc (s : Sig) : A := .agg s.cs
structure Eqn where
 left : Tm
 right : Tm
 cond : List Tm
 line : Int
 col : Int
def Eqn.cs (e : Eqn) : List A := e.left.cs ++ (e.right.cs ++ [.list none (e.cond.map Tm.enc),.int .i64 e.line,.int .i64 e.col])
def Eqn.enc (e : Eqn) : A := .agg e.cs
structure Cel where
 name : Str
 sort : Str
 init : Tm
 line : Int
 col : Int
def Cel.cs (c : Cel) : List A := .str c.name :: .str c.sort :: (c.init.cs ++ [.int .i64 c.line,.int .i64 c.col])
def Cel.enc (c : Cel) : A := .agg c.cs
structure Part where
 cell : Str
 at_ : Str
 left : Tm
 right : List Tm
 line : Int
 col : Int
def Part.cs (p : Part) : List A := .str p.cell :: .str p.at_ :: (p.left.cs ++ [.list none (p.right.map Tm.enc),.int .i64 p.line,.int .i64 p.col])
def Part.enc (p : Part) : A := .agg p.cs
structure Fresh where
 cells : List Tm
def Fresh.cs (f : Fresh) : List A := [.list none (f.cells.map Tm.enc)]
def Fresh.enc (f : Fresh) : A := .agg f.cs
structure Rul where
 name : Str
 parts : List Part
 cond : List Tm
 new : List Fresh
 drop : List Str
 line : Int
 col : Int
def Rul.cs (r : Rul) : List A := [.str r.name,.list none (r.parts.map Part.enc),.list none (r.cond.map Tm.enc),.list none (r.new.map Fresh.enc),.list none (r.drop.map .str),.int .i64 r.line,.int .i64 r.col]
def Rul.enc (r : Rul) : A := .agg r.cs
structure Dfn where
 name : Str
 sig : Sig
 eqs : List Eqn
 once : List Cel
 kind : Str
 many : List Cel
 rules : List Rul
 start : Str
 watch : Str
def Dfn.cs (d : Dfn) : List A := .str d.name :: (d.sig.cs ++ [.list none (d.eqs.map Eqn.enc),.list none (d.once.map Cel.enc),.str d.kind,.list none (d.many.map Cel.enc),.list none (d.rules.map Rul.enc),.str d.start,.str d.watch])
def Dfn.enc (d : Dfn) : A := .agg d.cs
attribute [go_sem] Fault.enc Fault.cs Tok.enc Tok.cs Tm.enc_eq Tm.cs Below.enc Below.cs Piece.enc Piece.cs Opr.enc Opr.cs Sig.enc Sig.cs Eqn.enc Eqn.cs Cel.enc Cel.cs Part.enc Part.cs Fresh.enc Fresh.cs Rul.enc Rul.cs Dfn.enc Dfn.cs
mutual
def Tm.same : Tm → Tm → Bool
 | .mk k n t s ks rs,.mk k' n' t' s' ks' rs' => decide (k = k') && (decide (n = n') && (decide (t = t') && (decide (s = s') && (Tm.sames ks ks' && Tm.sames rs rs'))))
def Tm.sames : List Tm → List Tm → Bool
 | [],[] => true
 | a :: l,b :: r => Tm.same a b && Tm.sames l r
 | _,_ => false
end
end Go.AV
end
section
namespace Go.AV
open Go
def isLet (c : Int) : Bool := (decide (97 ≤ c) && decide (c ≤ 122)) || (decide (65 ≤ c) && decide (c ≤ 90))
def isPart (c : Int) : Bool := isLet c || ((decide (48 ≤ c) && decide (c ≤ 57)) || decide (c = 95))
def isName (s : List UInt8) : Bool := match s with
 | [] => false
 | c :: _ => decide (s.length ≤ 40) && (isLet c.toNat && s.all fun c => isPart c.toNat)
def hasPre (x p : Str) : Bool := decide (p.length ≤ x.length) && decide (x.take p.length = p)
def lastTo (x : Str) (c : UInt8) : Nat → Int
 | 0 => -1
 | n + 1 => if x[n]? = some c then n else lastTo x c n
def isDig (c : Int) : Bool := decide (48 ≤ c) && decide (c ≤ 57)
def adv : Nat × Nat → Str → Nat × Nat
 | p,[] => p
 | (l,c),b :: r => if b = 10 then adv (l + 1,1) r else adv (l,c + 1) r
def isBlank (b : UInt8) : Bool := decide (b = 32) || (decide (b = 9) || (decide (b = 10) || decide (b = 13)))
def blk : Nat → Str → Nat
 | 0,_ => 0
 | _ + 1,[] => 0
 | f + 1,b :: r => if isBlank b = true then 1 + blk f r
  else if hasPre (b :: r) [47,47] = true then ((b :: r).takeWhile (fun c => !decide (c = 10))).length + blk f ((b :: r).drop ((b :: r).takeWhile (fun c => !decide (c = 10))).length)
  else 0
def blks (w : Str) : Nat := blk w.length w
def okB (b : UInt8) : Bool := decide (32 ≤ b.toNat) && (decide (b.toNat ≤ 126) && (!decide (b = 34) && !decide (b = 92)))
def isStr (x : Str) : Bool := x.all okB && decide (x.length ≤ 200)
def eqB (c : UInt8) (b : UInt8) : Bool := decide (b = c)
def numOf (x : Str) : Nat := x.foldl (fun n d => n * 10 + (d.toNat - 48)) 0
def digits (x : Str) : Prop := ∀ d,d ∈ x → 48 ≤ d.toNat ∧ d.toNat ≤ 57
def numTok (x : Str) : Tok × Nat × Bool :=
 let n := (x.takeWhile fun c => isDig c.toNat).length
 let g := (x.take n).dropWhile (eqB 48)
 if 10 < g.length ∨ (∃ c,x[n]? = some c ∧ isPart c.toNat = true) then (⟨0,[],0,0,0⟩,0,false)
 else (⟨2,[],numOf g,0,0⟩,n,decide (numOf g ≤ 2147483647))
def signTo (w : Str) : List Str → Nat → Nat
 | [],n => n
 | x :: r,n => signTo w r (if n < x.length ∧ hasPre w x = true then x.length else n)
def tokOf (w : Str) (sg : List Str) (op : Bool) : Tok × Nat × Bool :=
 match w with
 | [] => (⟨0,[],0,0,0⟩,0,false)
 | c :: r =>
  if isName [c] then
   let n := (w.takeWhile fun c => isPart c.toNat).length
   (⟨1,w.take n,0,0,0⟩,n,decide (n ≤ 40))
  else if isDig c.toNat then numTok w
  else if c = 34 then
   let n := (Lib.indexByte r 34 + 2).toNat
   (⟨3,r.take (n - 2),0,0,0⟩,n,decide (1 < n) && isStr (r.take (n - 2)))
  else
   let n := signTo w sg 0
   let n := if n = 0 ∧ op = true ∧ (c = 39 ∨ c = 95) then 1 else n
   (⟨4,w.take n,0,0,0⟩,n,decide (0 < n))
def builtInS : List UInt8 := [97,100,100,32,115,117,98,32,109,117,108,32,100,105,118,32,109,111,100,32,110,101,103,32,108,116,32,108,101,32,103,116,32,103,101,32,101,113,32,110,101,32,97,110,100,32,111,114,32,110,111,116,32,112,105,99,107,32,99,97,116,32,108,101,110,103,116,104,32,116,101,120,116,32,106,111,105,110,32,103,101,116,32,112,117,116,32,104,97,115,32,100,101,108,32,107,101,121,115,32,115,105,122,101,32,105,115,32,105,115,118,97,108,117,101]
def builtInW : List (List UInt8) := [[97,100,100],[115,117,98],[109,117,108],[100,105,118],[109,111,100],[110,101,103],[108,116],[108,101],[103,116],[103,101],[101,113],[110,101],[97,110,100],[111,114],[110,111,116],[112,105,99,107],[99,97,116],[108,101,110,103,116,104],[116,101,120,116],[106,111,105,110],[103,101,116],[112,117,116],[104,97,115],[100,101,108],[107,101,121,115],[115,105,122,101],[105,115],[105,115,118,97,108,117,101]]
def signsS : List UInt8 := [61,62,32,45,62,32,58,32,59,32,44,32,46,32,64,32,124,32,40,32,41,32,91,32,93,32,123,32,125,32,60,32,61,32,45,32,36]
def signsW : List (List UInt8) := [[61,62],[45,62],[58],[59],[44],[46],[64],[124],[40],[41],[91],[93],[123],[125],[60],[61],[45],[36]]
def reservedS : List UInt8 := [108,97,110,103,117,97,103,101,32,115,111,114,116,32,115,117,98,115,111,114,116,32,118,97,108,117,101,32,111,112,32,102,117,110,32,108,101,116,32,105,102,32,115,116,97,114,116,32,99,101,108,108,32,109,97,110,121,32,119,97,116,99,104,32,114,117,108,101,32,112,114,101,99,32,108,101,102,116,32,114,105,103,104,116,32,115,116,114,105,99,116,32,110,101,119,32,100,114,111,112,32,116,114,117,101,32,102,97,108,115,101]
def reservedW : List (List UInt8) := [[108,97,110,103,117,97,103,101],[115,111,114,116],[115,117,98,115,111,114,116],[118,97,108,117,101],[111,112],[102,117,110],[108,101,116],[105,102],[115,116,97,114,116],[99,101,108,108],[109,97,110,121],[119,97,116,99,104],[114,117,108,101],[112,114,101,99],[108,101,102,116],[114,105,103,104,116],[115,116,114,105,99,116],[110,101,119],[100,114,111,112],[116,114,117,101],[102,97,108,115,101]]
inductive Lx where
 | ok (l : List Tok)
 | bad (f : Fault)
def lexA (sg : List Str) (op : Bool) : Nat → Str → Nat × Nat → List Tok → Lx
 | _,[],_,acc => .ok acc
 | 0,_ :: _,_,acc => .ok acc
 | f + 1,c :: r,p,acc => match tokOf (c :: r) sg op with
  | (t,n,true) => lexA sg op f (((c :: r).drop n).drop (blks ((c :: r).drop n))) (adv (adv p ((c :: r).take n)) (((c :: r).drop n).take (blks ((c :: r).drop n))))
    (acc ++ [⟨t.kind,t.text,t.n,p.1,p.2⟩])
  | (_,_,false) => .bad ⟨10,[c],p.1,p.2⟩
def lexS (sg : List Str) (op : Bool) (w : Str) : Lx := lexA sg op w.length (w.drop (blks w)) (adv (1,1) (w.take (blks w))) []
end Go.AV
end
section
namespace Go.AV
open Go Go.Proofs
theorem isLetter_den (s : St) (c : Int) (KV Kp) (hk : KV s (.bool (isLet c))) : Den cx 261 [.int .u8 c] KV Kp s := by
 unfold isLet at hk;refine Den.drop ?_; (refine Den.of_body (C := cx) Tryz.func261 rfl rfl (Nat.le_of_ble_eq_true rfl) ?_; refine wpC_ok (V := [0,2]) _ _ _ _ ?_; simp only [go_sem,Tryz.ntmps261,Tryz.f261])
 (repeat' (first | exact DK.st hk (by (repeat (first | exact St.ge.refl _ | refine St.ge_set (by simp only []) ?_))) | ((first | refine gdK_split (fun h => ?_) (fun h => ?_) | refine brK_split (fun h => ?_) (fun h => ?_) | refine gdX_split (fun h => ?_) (fun h => ?_)) <;> simp only [go_sem,h] <;> (try simp only [h,Bool.true_and,Bool.false_and,Bool.and_true,Bool.and_false,Bool.or_true,Bool.true_or,Bool.or_false,Bool.false_or,Bool.not_true,Bool.not_false] at hk))))
theorem isPart_den (s : St) (c : Int) (KV Kp) (hk : KV s (.bool (isPart c))) : Den cx 185 [.int .u8 c] KV Kp s := by
 unfold isPart at hk;refine Den.drop ?_; (refine Den.of_body (C := cx) Tryz.func185 rfl rfl (Nat.le_of_ble_eq_true rfl) ?_; refine wpC_ok (V := [0,2]) _ _ _ _ ?_; simp only [go_sem,Tryz.ntmps185,Tryz.f185])
 (repeat' (first | exact DK.st hk (by (repeat (first | exact St.ge.refl _ | refine St.ge_set (by simp only []) ?_))) | (refine isLetter_den _ _ _ _ ?_; simp only [go_sem]) | ((first | refine gdK_split (fun h => ?_) (fun h => ?_) | refine brK_split (fun h => ?_) (fun h => ?_) | refine gdX_split (fun h => ?_) (fun h => ?_)) <;> simp only [go_sem,h] <;> (try simp only [h,Bool.true_and,Bool.false_and,Bool.and_true,Bool.and_false,Bool.or_true,Bool.true_or,Bool.or_false,Bool.false_or,Bool.not_true,Bool.not_false] at hk))))
theorem isName_den (s : St) (x : List UInt8) (KV Kp) (hk : KV s (.bool (isName x))) : Den cx 196 [.str x] KV Kp s := by
 refine Den.drop ?_; (refine Den.of_body (C := cx) Tryz.func196 rfl rfl (Nat.le_of_ble_eq_true rfl) ?_; refine wpC_ok (V := [0,2,3,16,18,19,20,26]) _ _ _ _ ?_; simp only [go_sem,Tryz.ntmps196,Tryz.f196])
 (first | refine gdK_split (fun h => ?_) (fun h => ?_) | refine brK_split (fun h => ?_) (fun h => ?_) | refine gdX_split (fun h => ?_) (fun h => ?_)) <;> simp only [go_sem,h]
 ·have : x = [] := by simpa using h
  subst this;exact DK.here hk
 have hne : x ≠ [] := by simpa using h
 obtain ⟨c,r,hx⟩ := List.exists_cons_of_ne_nil hne
 (first | refine gdK_split (fun h => ?_) (fun h => ?_) | refine brK_split (fun h => ?_) (fun h => ?_) | refine gdX_split (fun h => ?_) (fun h => ?_)) <;> simp only [go_sem,h]
 ·have h40 : ¬ x.length ≤ 40 := by simp at h; omega
  have : isName x = false := by rw [hx] at h40 ⊢; simp only [isName,h40,decide_false,Bool.false_and]
  exact DK.here (by rwa [this] at hk)
 have h40 : x.length ≤ 40 := by simp at h; omega
 have h0 : x[0]? = some c := by rw [hx]; rfl
 have hl0 : 0 < x.length := by rw [hx]; exact Nat.zero_lt_succ _
 simp only [go_sem,h0,hl0];refine isLetter_den _ _ _ _ ?_;simp only [go_sem]
 (first | refine gdK_split (fun h => ?_) (fun h => ?_) | refine brK_split (fun h => ?_) (fun h => ?_) | refine gdX_split (fun h => ?_) (fun h => ?_)) <;> simp only [go_sem,h]
 ·have : isName x = false := by
   have : isLet c.toNat = false := by simpa using h
   rw [hx]; simp [isName,this]
  exact DK.here (by rwa [this] at hk)
 have hl : isLet c.toNat = true := by simpa using h
 refine Ex.loop (fun i => [(0,.str x),(18,.int .i64 x.length),(19,.int .i64 (i : Nat))]) (fun _ => s)
  (fun i => i ≤ x.length ∧ ∀ d ∈ x.take i,isPart d.toNat = true) (fun i => x.length - i) 0 ⟨Nat.zero_le _,by simp⟩ ?_ (St.ge.refl s) ?_
 ·simp only [go_sem];rfl
 ·rintro i ⟨hi,hall⟩;refine wpC_ok (V := [0,2,3,16,18,19,20,26]) _ _ _ _ ?_;simp only [go_sem]
  (first | refine gdK_split (fun h => ?_) (fun h => ?_) | refine brK_split (fun h => ?_) (fun h => ?_) | refine gdX_split (fun h => ?_) (fun h => ?_)) <;> simp only [go_sem,h]
  ·have hix : i < x.length := by simpa using h
   obtain ⟨d,hd⟩ : ∃ d,x[i]? = some d := ⟨_,List.getElem?_eq_getElem hix⟩
   simp only [go_sem,hd,hix];refine isPart_den _ _ _ _ ?_;simp only [go_sem]
   (first | refine gdK_split (fun h => ?_) (fun h => ?_) | refine brK_split (fun h => ?_) (fun h => ?_) | refine gdX_split (fun h => ?_) (fun h => ?_)) <;> simp only [go_sem,h]
   ·have hp : isPart d.toNat = false := by simpa using h
    have : isName x = false := by
     rw [hx] at hd ⊢;simp only [isName,Bool.and_eq_false_iff];refine .inr (.inr (Bool.eq_false_iff.2 fun hall => ?_));rw [List.all_eq_true] at hall;have := hall d (List.mem_of_getElem? hd);rw [hp] at this; cases this
    exact DK.here (by rwa [this] at hk)
   ·have hp : isPart d.toNat = true := by simpa using h
    refine ⟨i + 1,⟨by omega,?_⟩,by omega,?_,St.ge.refl s⟩
    ·intro q hq;rw [List.take_add_one,hd] at hq;simp only [List.mem_append,Option.toList_some,List.mem_singleton] at hq;rcases hq with hq | rfl
     ·exact hall q hq
     ·exact hp
    ·simp only [go_sem,wrap1 i (by omega)]
  ·have hix : i = x.length := by simp at h; omega
   have : isName x = true := by
    rw [hix,List.take_length] at hall;rw [hx] at hall h40 ⊢;simp only [isName,hl,List.all_eq_true,Bool.and_eq_true,decide_eq_true_eq];exact ⟨h40,trivial,hall⟩
   exact DK.here (by rwa [this] at hk)
end Go.AV
end
section
namespace Go.AV
open Go
def Tok.name (t : Tok) : Str := if t.kind = 2 then Lib.itoa t.n else t.text
def isTok (t : Tok) (x : Str) : Bool := (decide (t.kind = 4) || decide (t.kind = 1)) && decide (t.text = x)
def isT (x : Str) : List Tok → Bool
 | [] => false
 | t :: _ => isTok t x
def Tok.free (t : Tok) : Bool := decide (t.kind = 1) && !decide (t.text ∈ reservedW)
def failAt (fin : Fault) (code : Int) : List Tok → Fault
 | [] => fin
 | t :: _ => ⟨code,t.name,t.line,t.col⟩
def limAt (fin : Fault) : List Tok → Fault
 | [] => fin
 | t :: _ => ⟨3,[],t.line,t.col⟩
inductive Rd (α : Type) where
 | ok (a : α) (w : List Tok) (n : Nat)
 | bad (f : Fault)
def Rd.bind {α β : Type} (r : Rd α) (k : α → List Tok → Nat → Rd β) : Rd β := match r with
 | .ok a w n => k a w n
 | .bad f => .bad f
def Rd.to {α : Type} (r : Rd α) (k : α → List Tok → Nat → Prop) (b : Fault → Prop) : Prop := match r with
 | .ok a w n => k a w n
 | .bad f => b f
theorem Rd.bind_to {α β : Type} (r : Rd α) (k : α → List Tok → Nat → Rd β) (p : β → List Tok → Nat → Prop) (b : Fault → Prop) :
  (r.bind k).to p b = r.to (fun a w n => (k a w n).to p b) b := by cases r <;> rfl
theorem Rd.to_mono {α : Type} {r : Rd α} {p p' : α → List Tok → Nat → Prop} {b b' : Fault → Prop} (h : r.to p b) (hp : ∀ a w n,p a w n → p' a w n) (hb : ∀ f,b f → b' f) : r.to p' b' := by
 cases r with
 | ok a w n => exact hp a w n h
 | bad f => exact hb f h
theorem Rd.ok_to {α : Type} (a : α) (w : List Tok) (n : Nat) (p : α → List Tok → Nat → Prop) (b : Fault → Prop) : (Rd.ok a w n).to p b = p a w n := rfl
theorem Rd.bad_to {α : Type} (f : Fault) (p : α → List Tok → Nat → Prop) (b : Fault → Prop) : (Rd.bad f : Rd α).to p b = b f := rfl
theorem Rd.ite_to {α : Type} (c : Prop) [Decidable c] (x y : Rd α) (p : α → List Tok → Nat → Prop) (b : Fault → Prop) : (if c then x else y).to p b = if c then x.to p b else y.to p b := by
 split <;> rfl
section
variable (lk : Bool) (fin : Fault)
def wantR (x : Str) (w : List Tok) (n : Nat) : Rd Unit := if isT x w = true then .ok () w.tail n else .bad (failAt fin 11 w)
def nameR : List Tok → Nat → Rd Str
 | [],_ => .bad fin
 | t :: w,n => if t.free = true then .ok t.text w n else .bad (failAt fin 11 (t :: w))
def numberR (most : Int) : List Tok → Nat → Rd Int
 | [],_ => .bad fin
 | t :: w,n => if t.kind = 2 then (if t.n < 1 ∨ most < t.n then .bad (failAt fin 20 (t :: w)) else .ok t.n w n) else .bad (failAt fin 11 (t :: w))
def roomR (have_ most : Nat) (w : List Tok) (n : Nat) : Rd Unit := if most ≤ have_ then .bad (limAt fin w) else .ok () w n
def loopR {σ : Type} (sep : Str) (one : σ → List Tok → Nat → Rd σ) : Nat → σ → List Tok → Nat → Rd σ
 | 0,_,_,_ => .bad fin
 | f + 1,a,w,n => (one a w n).bind fun a w n => if isT sep w = true then loopR sep one f a w.tail n else .ok a w n
def listR {α : Type} (one : List α → List Tok → Nat → Rd α) (acc : List α) (w : List Tok) (n : Nat) : Rd (List α) :=
 loopR fin [44] (fun acc w n => (one acc w n).bind fun a w n => .ok (acc ++ [a]) w n) (w.length + 1) acc w n
def Tok.begins (t : Tok) : Bool :=
 if t.kind = 2 ∨ t.kind = 3 then true
 else if t.kind = 1 then !decide (t.text ∈ reservedW) || (decide (t.text = [116,114,117,101]) || decide (t.text = [102,97,108,115,101]))
 else decide (t.text ∈ [[45],[39],[95],[91],[123],[36]])
def isId (x : Str) : Bool := isName x && (match x with | c :: _ => decide (97 ≤ c.toNat) && decide (c.toNat ≤ 122) | [] => false) && !decide (x = [116,114,117,101]) && !decide (x = [102,97,108,115,101])
def nodeR (first : Tok) (w : List Tok) (n : Nat) : Rd Unit := if 2000 < n + 1 then .bad ⟨3,[],first.line,first.col⟩ else .ok () w (n + 1)
def restR (first : Tok) (last : Bool) (sort : Str) (w : List Tok) (n : Nat) : Rd (List Tm) :=
 if isT [124] w = true then
  match w.tail with
  | [] => .bad fin
  | t :: w => if t.free = true then (if last = true then .bad ⟨19,t.text,t.line,t.col⟩ else (nodeR first w n).bind fun _ w n => .ok [.mk 6 0 t.text sort [] []] w n) else .bad (failAt fin 11 (t :: w))
 else .ok [] w n
def kidR (first : Tok) (tm : List Tok → Nat → Rd Tm) (acc : List Tm) (w : List Tok) (n : Nat) : Rd Tm :=
 if acc.length = 8 then
  match w with
  | [] => .bad fin
  | t :: w => if t.begins = true then .bad (if lk = true ∧ 2000 ≤ n then ⟨3,[],first.line,first.col⟩ else ⟨3,[],t.line,t.col⟩) else tm (t :: w) n
 else tm w n
def namedR (first : Tok) (tm : List Tok → Nat → Rd Tm) (t : Tok) (w : List Tok) (n : Nat) : Rd Tm :=
 if t.text = [116,114,117,101] then .ok (.mk 2 1 [] [] [] []) w n
 else if t.text = [102,97,108,115,101] then .ok (.mk 2 0 [] [] [] []) w n
 else if isT [58] w = true then (nameR fin w.tail n).bind fun x w n => .ok (.mk 6 0 t.text x [] []) w n
 else (wantR fin [40] w n).bind fun _ w n =>
  if isT [41] w = true then .ok (.mk 5 0 t.text [] [] []) w.tail n
  else (listR fin (kidR lk fin first tm) [] w n).bind fun l w n => (wantR fin [41] w n).bind fun _ w n => .ok (.mk 5 0 t.text [] l []) w n
def entR (tm : List Tok → Nat → Rd Tm) (acc : List Tm) (w : List Tok) (n : Nat) : Rd (List Tm) :=
 (tm w n).bind fun k w n => (wantR fin [45,62] w n).bind fun _ w n => (tm w n).bind fun v w n => .ok (acc ++ [k,v]) w n
def signedR (first : Tok) (tm : List Tok → Nat → Rd Tm) (last : Bool) (t : Tok) (w : List Tok) (n : Nat) : Rd Tm :=
 if t.text = [45] then
  match w with
  | [] => .bad fin
  | u :: w => if u.kind = 2 ∧ u.line = t.line ∧ u.col = t.col + 1 then .ok (.mk 1 (-u.n) [] [] [] []) w n else .bad (failAt fin 11 (u :: w))
 else if t.text = [39] then
  match w with
  | [] => .bad fin
  | u :: w => if u.free = true ∧ isId u.text = true then .ok (.mk 4 0 u.text [] [] []) w n else .bad (failAt fin 11 (u :: w))
 else if t.text = [91] then
  (if isT [124] w = true ∨ isT [93] w = true then Rd.ok [] w n else listR fin (fun _ => tm) [] w n).bind fun l w n =>
   (restR fin first last [76,105,115,116] w n).bind fun r w n => (wantR fin [93] w n).bind fun _ w n => .ok (.mk 7 0 [] [] l r) w n
 else if t.text = [123] then
  (if isT [124] w = true ∨ isT [125] w = true then Rd.ok [] w n else loopR fin [44] (entR fin tm) (w.length + 1) [] w n).bind fun l w n =>
   (restR fin first last [77,97,112] w n).bind fun r w n => (wantR fin [125] w n).bind fun _ w n => .ok (.mk 8 0 [] [] l r) w n
 else .ok (.mk 6 0 t.text [65,110,121] [] []) w n
def termR (first : Tok) : Nat → List Tok → Nat → Rd Tm
 | _,[],_ => .bad fin
 | 0,t :: w,_ => if t.begins = true then .bad (failAt fin 19 (t :: w)) else .bad (failAt fin 11 (t :: w))
 | k + 1,t :: w,n =>
  if t.begins = true then
   (nodeR first w n).bind fun _ w n =>
    if t.kind = 2 then .ok (.mk 1 t.n [] [] [] []) w n
    else if t.kind = 3 then .ok (.mk 3 0 t.text [] [] []) w n
    else if t.kind = 1 then namedR lk fin first (termR first k) t w n
    else signedR fin first (termR first k) (decide (k = 0)) t w n
  else .bad (failAt fin 11 (t :: w))
def wholeR (w : List Tok) (n : Nat) : Rd Tm := match w with
 | [] => .bad fin
 | t :: _ => match termR lk fin t 60 w 0 with
  | .ok a w _ => .ok a w n
  | .bad f => .bad f
def condsR (w : List Tok) (n : Nat) : Rd (List Tm) :=
 if isT [105,102] w = true then
  listR fin (fun acc w n => match w with
   | [] => .bad fin
   | t :: r => if t.begins = true then (roomR fin acc.length 20 (t :: r) n).bind fun _ w n => wholeR lk fin w n else wholeR lk fin (t :: r) n) [] w.tail n
 else .ok [] w n
def someR {α : Type} (most have_ : Nat) (w : List Tok) (n : Nat) (k : List Tok → Nat → Rd α) : Rd α := match w with
 | [] => .bad fin
 | t :: r => if t.free = true ∧ most ≤ have_ then .bad (limAt fin (t :: r)) else k (t :: r) n
def cellR (w : List Tok) (n : Nat) : Rd Cel := match w with
 | [] => .bad fin
 | t :: r => (nameR fin (t :: r) n).bind fun x w n => (wantR fin [58] w n).bind fun _ w n => (nameR fin w n).bind fun y w n => (wantR fin [61] w n).bind fun _ w n =>
   (wholeR lk fin w n).bind fun i w n => .ok ⟨x,y,i,t.line,t.col⟩ w n
def piecesR : Nat → List Piece → List Str → Bool → List Tok → Nat → Rd (List Piece × List Str × Bool)
 | 0,_,_,_,_,_ => .bad fin
 | f + 1,ps,az,tx,w,n =>
  if isT [45,62] w = true then .ok (ps,az,tx) w.tail n
  else match w with
   | [] => .bad fin
   | t :: w => if t.kind = 3 ∨ t.free = true then
     (if 20 ≤ ps.length then .bad (limAt fin (t :: w))
     else if t.kind = 3 then piecesR f (ps ++ [⟨t.text,[]⟩]) az true w n
     else if 8 ≤ az.length then .bad (limAt fin (t :: w))
     else piecesR f (ps ++ [⟨[],t.text⟩]) (az ++ [t.text]) tx w n)
    else .bad (failAt fin 11 (t :: w))
def attrsR : Nat → Opr → List Tok → Nat → Rd Opr
 | 0,_,_,_ => .bad fin
 | f + 1,o,w,n =>
  if isT [46] w = true then .ok o w n
  else match w with
   | [] => .bad fin
   | t :: w =>
    if ¬ t.kind = 1 then .bad (failAt fin 11 (t :: w))
    else if t.text = [112,114,101,99] then
     (if 0 < o.prec then .bad (failAt fin 14 (t :: w)) else (numberR fin 20 w n).bind fun m w n => attrsR f { o with prec := m } w n)
    else if t.text = [108,101,102,116] then
     (if o.assoc = 0 then attrsR f { o with assoc := 1 } w n else .bad (failAt fin 14 (t :: w)))
    else if t.text = [114,105,103,104,116] then
     (if o.assoc = 0 then attrsR f { o with assoc := 2 } w n else .bad (failAt fin 14 (t :: w)))
    else if t.text = [115,116,114,105,99,116] then
     (if 0 < o.strict.length then .bad (failAt fin 14 (t :: w)) else
      (wantR fin [40] w n).bind fun _ w n => (listR fin (fun _ => numberR fin 8) [] w n).bind fun l w n => (wantR fin [41] w n).bind fun _ w n => attrsR f { o with strict := l } w n)
    else .bad (failAt fin 11 (t :: w))
def opR (w : List Tok) (n : Nat) : Rd Opr :=
 (nameR fin w n).bind fun x w n => (wantR fin [58] w n).bind fun _ w n => (piecesR fin (w.length + 1) [] [] false w n).bind fun p w n =>
  (nameR fin w n).bind fun y w n => attrsR fin (w.length + 1) ⟨x,p.2.1,y,if p.2.2 = true then p.1 else [],0,0,[]⟩ w n
def argsR : Nat → List Str → List Tok → Nat → Rd (List Str)
 | 0,_,_,_ => .bad fin
 | f + 1,az,w,n =>
  if isT [45,62] w = true then .ok az w.tail n
  else (someR fin 8 az.length w n fun w n => nameR fin w n).bind fun x w n => argsR f (az ++ [x]) w n
def funR (w : List Tok) (n : Nat) : Rd Opr :=
 (nameR fin w n).bind fun x w n => (wantR fin [58] w n).bind fun _ w n => (argsR fin (w.length + 1) [] w n).bind fun az w n =>
  (nameR fin w n).bind fun y w n => .ok ⟨x,az,y,[],0,0,[]⟩ w n
def partR (r : Rul) (w : List Tok) (n : Nat) : Rd Rul := match w with
 | [] => .bad fin
 | t :: w =>
  if isTok t [110,101,119] = true then
   (wantR fin [40] w n).bind fun _ w n => (listR fin (fun _ => wholeR lk fin) [] w n).bind fun l w n => (wantR fin [41] w n).bind fun _ w n => .ok { r with new := r.new ++ [⟨l⟩] } w n
  else if isTok t [100,114,111,112] = true then
   (wantR fin [64] w n).bind fun _ w n => (nameR fin w n).bind fun x w n => .ok { r with drop := r.drop ++ [x] } w n
  else
   (nameR fin (t :: w) n).bind fun x w n =>
    (if isT [64] w = true then nameR fin w.tail n else Rd.ok [] w n).bind fun y w n => (wantR fin [58] w n).bind fun _ w n => (wholeR lk fin w n).bind fun l w n =>
     (if isT [61,62] w = true then (wholeR lk fin w.tail n).bind fun u w n => Rd.ok [u] w n else Rd.ok [] w n).bind fun rs w n =>
      .ok { r with parts := r.parts ++ [⟨x,y,l,rs,t.line,t.col⟩] } w n
def partsR (c : Rul × Nat) (w : List Tok) (n : Nat) : Rd (Rul × Nat) := match w with
 | [] => .bad fin
 | t :: r => if (t.kind = 1 ∧ (¬ t.text ∈ reservedW ∨ t.text = [110,101,119] ∨ t.text = [100,114,111,112])) ∧ 20 ≤ c.2 then .bad (limAt fin (t :: r))
  else (partR lk fin c.1 (t :: r) n).bind fun x w n => .ok (x,c.2 + 1) w n
def ruleR (line col : Int) (w : List Tok) (n : Nat) : Rd Rul :=
 (nameR fin w n).bind fun x w n => (wantR fin [58] w n).bind fun _ w n =>
  (loopR fin [59] (partsR lk fin) (w.length + 1) (⟨x,[],[],[],[],line,col⟩,0) w n).bind fun c w n => (condsR lk fin w n).bind fun l w n => .ok { c.1 with cond := l } w n
def placeR (d : Dfn) (t : Tok) (w : List Tok) (n : Nat) : Rd Dfn :=
 if isTok t [115,116,97,114,116] = true then
  (if d.start = [] then (nameR fin w n).bind fun x w n => .ok { d with start := x } w n else .bad (failAt fin 14 (t :: w)))
 else if isTok t [119,97,116,99,104] = true then
  (if d.watch = [] then (nameR fin w n).bind fun x w n => .ok { d with watch := x } w n else .bad (failAt fin 14 (t :: w)))
 else if isTok t [99,101,108,108] = true then
  (if 12 ≤ d.once.length then .bad (limAt fin (t :: w)) else (cellR lk fin w n).bind fun c w n => .ok { d with once := d.once ++ [c] } w n)
 else if isTok t [109,97,110,121] = true then
  (if d.kind = [] then
   (nameR fin w n).bind fun x w n => (wantR fin [40] w n).bind fun _ w n =>
    (listR fin (fun acc w n => someR fin 12 acc.length w n fun w n => cellR lk fin w n) d.many w n).bind fun l w n => (wantR fin [41] w n).bind fun _ w n => .ok { d with kind := x,many := l } w n
  else .bad (failAt fin 14 (t :: w)))
 else .bad (failAt fin 11 (t :: w))
def itemR (d : Dfn) (w : List Tok) (n : Nat) : Rd Dfn := match w with
 | [] => .bad fin
 | t :: w =>
  (if isTok t [115,111,114,116] = true then
   (listR fin (fun acc w n => someR fin 40 acc.length w n fun w n => nameR fin w n) d.sig.sorts w n).bind fun l w n => Rd.ok { d with sig := { d.sig with sorts := l } } w n
  else if isTok t [115,117,98,115,111,114,116] = true then
   (if 200 ≤ d.sig.below.length then Rd.bad (limAt fin (t :: w)) else
    (nameR fin w n).bind fun x w n => (wantR fin [60] w n).bind fun _ w n => (nameR fin w n).bind fun y w n => Rd.ok { d with sig := { d.sig with below := d.sig.below ++ [⟨x,y⟩] } } w n)
  else if isTok t [118,97,108,117,101] = true then
   (listR fin (fun _ => nameR fin) [] w n).bind fun l w n => Rd.ok { d with sig := { d.sig with values := d.sig.values ++ l } } w n
  else if isTok t [111,112] = true ∨ isTok t [102,117,110] = true then
   (if 200 ≤ d.sig.ops.length + d.sig.funs.length then Rd.bad (limAt fin (t :: w))
   else if t.text = [111,112] then (opR fin w n).bind fun o w n => Rd.ok { d with sig := { d.sig with ops := d.sig.ops ++ [o] } } w n
   else (funR fin w n).bind fun o w n => Rd.ok { d with sig := { d.sig with funs := d.sig.funs ++ [o] } } w n)
  else if isTok t [108,101,116] = true then
   (if 300 ≤ d.eqs.length then Rd.bad (limAt fin (t :: w)) else
    (wholeR lk fin w n).bind fun l w n => (wantR fin [61] w n).bind fun _ w n => (wholeR lk fin w n).bind fun r w n => (condsR lk fin w n).bind fun c w n =>
     Rd.ok { d with eqs := d.eqs ++ [⟨l,r,c,t.line,t.col⟩] } w n)
  else if isTok t [114,117,108,101] = true then
   (if 300 ≤ d.rules.length then Rd.bad (limAt fin (t :: w)) else (ruleR lk fin t.line t.col w n).bind fun r w n => Rd.ok { d with rules := d.rules ++ [r] } w n)
  else placeR lk fin d t w n).bind fun d w n => (wantR fin [46] w n).bind fun _ w n => .ok d w n
def itemsR : Nat → Dfn → List Tok → Nat → Rd Dfn
 | 0,_,_,_ => .bad fin
 | f + 1,d,w,n => match w with
  | [] => .ok d [] n
  | _ :: _ => (itemR lk fin d w n).bind fun d w n => itemsR f d w n
def noDfn : Dfn := ⟨[],⟨[],[],[],[],[]⟩,[],[],[],[],[],[],[]⟩
def defR (w : List Tok) : Rd Dfn :=
 (wantR fin [108,97,110,103,117,97,103,101] w 0).bind fun _ w n => (nameR fin w n).bind fun x w n => (wantR fin [46] w n).bind fun _ w n => itemsR lk fin (w.length + 1) { noDfn with name := x } w n
end
end Go.AV
end
section
namespace Go.AV
open Go Go.Proofs
theorem letter189_den (s : St) (c : Int) (KV Kp) (hk : KV s (.bool (isLet c))) : Den cx 189 [.int .u8 c] KV Kp s := by
 unfold isLet at hk;refine Den.drop ?_; (refine Den.of_body (C := cx) Tryz.func189 rfl rfl (Nat.le_of_ble_eq_true rfl) ?_; refine wpC_ok (V := [0,2]) _ _ _ _ ?_; simp only [go_sem,Tryz.ntmps189,Tryz.f189])
 (repeat' (first | exact DK.st hk (by (repeat (first | exact St.ge.refl _ | refine St.ge_set (by simp only []) ?_))) | ((first | refine gdK_split (fun h => ?_) (fun h => ?_) | refine brK_split (fun h => ?_) (fun h => ?_) | refine gdX_split (fun h => ?_) (fun h => ?_)) <;> simp only [go_sem,h] <;> (try simp only [h,Bool.true_and,Bool.false_and,Bool.and_true,Bool.and_false,Bool.or_true,Bool.true_or,Bool.or_false,Bool.false_or,Bool.not_true,Bool.not_false] at hk))))
theorem digit193_den (s : St) (c : Int) (KV Kp) (hk : KV s (.bool (isDig c))) : Den cx 193 [.int .u8 c] KV Kp s := by
 unfold isDig at hk;refine Den.drop ?_; (refine Den.of_body (C := cx) Tryz.func193 rfl rfl (Nat.le_of_ble_eq_true rfl) ?_; refine wpC_ok (V := [0,2]) _ _ _ _ ?_; simp only [go_sem,Tryz.ntmps193,Tryz.f193])
 (repeat' (first | exact DK.st hk (by (repeat (first | exact St.ge.refl _ | refine St.ge_set (by simp only []) ?_))) | ((first | refine gdK_split (fun h => ?_) (fun h => ?_) | refine brK_split (fun h => ?_) (fun h => ?_) | refine gdX_split (fun h => ?_) (fun h => ?_)) <;> simp only [go_sem,h] <;> (try simp only [h,Bool.true_and,Bool.false_and,Bool.and_true,Bool.and_false,Bool.or_true,Bool.true_or,Bool.or_false,Bool.false_or,Bool.not_true,Bool.not_false] at hk))))
theorem isPart_eq (c : Int) : isPart c = (isLet c || (isDig c || decide (c = 95))) := rfl
end Go.AV
end
section
namespace Go.AV
open Go Go.Proofs
theorem Den.extern {C : Cx} {f : FuncId} {fn : Func} {e : Array Value → Sem Value} (hf : C.P.funcs[f]? = some fn) (hname : (fn.name == "runtime.NumGoroutine") = false)
  (hb : fn.body.isNone = true) (hn : Extern.findNext fn = none) (he : Extern.find fn = some e) {args : List A} {s : St} {KV Kp : St → A → Prop}
  (h : ∀ g vals,Rzs g args vals → ∃ v a,(∀ w,(e vals.toArray).run C.P w = .ok v w) ∧ Rz g a v ∧ KV s a) : Den C f args KV Kp s := by
 intro F g w vals hR hv;obtain ⟨v,a,h1,h2,h3⟩ := h g vals hv;rw [run_callFunc_extern hf hname hb hn he,h1];exact ⟨g,a,s,Gh.le.refl g,hR,h2,h3⟩
theorem Rzs.two {g : Gh} {a b : A} {vals : List Value} (h : Rzs g [a,b] vals) : ∃ u v,vals = [u,v] ∧ Rz g a u ∧ Rz g b v := by
 have hl := h.1
 match vals,hl with
 | [u,v],_ => exact ⟨u,v,rfl,h.2 0 a u rfl rfl,h.2 1 b v rfl rfl⟩
theorem idxByte316_den (s : St) (x : Str) (c : UInt8) (KV Kp) (hk : KV s (.int .i64 (Lib.indexByte x c))) : Den cx 316 [.str x,.int .u8 c.toNat] KV Kp s := by
 refine Den.extern (C := cx) Tryz.func316 rfl rfl rfl (e := Extern.BytealgIndexByte.indexByte) (by kernel_rfl) fun g vals hv => ?_
 obtain ⟨u,v,rfl,r1,r2⟩ := hv.two;rw [r1.str_inv,r2.int_inv];refine ⟨_,_,fun w => Lib.run_indexByteString _ _ w,.int _ _,?_⟩;simpa using hk
theorem count217_den (s : St) (x : Str) (c : UInt8) (KV Kp) (hk : KV s (.int .i64 (x.count c : Nat))) : Den cx 217 [.str x,.int .u8 c.toNat] KV Kp s := by
 refine Den.extern (C := cx) Tryz.func217 rfl rfl rfl (e := Extern.BytealgCount.count) (by kernel_rfl) fun g vals hv => ?_
 obtain ⟨u,v,rfl,r1,r2⟩ := hv.two;rw [r1.str_inv,r2.int_inv];refine ⟨_,_,fun w => Lib.run_countString _ _ w,.int _ _,?_⟩;simpa [Lib.countByte] using hk
theorem idxByte303_den (s : St) (x : Str) (c : UInt8) (KV Kp) (hk : KV s (.int .i64 (Lib.indexByte x c))) : Den cx 303 [.str x,.int .u8 c.toNat] KV Kp s := by
 refine Den.drop ?_; (refine Den.of_body (C := cx) Tryz.func303 rfl rfl (Nat.le_of_ble_eq_true rfl) ?_; refine wpC_ok (V := [0,1,4]) _ _ _ _ ?_; simp only [go_sem,Tryz.ntmps303,Tryz.f303])
 (repeat' (first | exact DK.st hk (by (repeat (first | exact St.ge.refl _ | refine St.ge_set (by simp only []) ?_))) | (refine idxByte316_den _ _ _ _ _ ?_; simp only [go_sem]) | ((first | refine gdK_split (fun h => ?_) (fun h => ?_) | refine brK_split (fun h => ?_) (fun h => ?_) | refine gdX_split (fun h => ?_) (fun h => ?_)) <;> simp only [go_sem,h] <;> (try simp only [h,Bool.true_and,Bool.false_and,Bool.and_true,Bool.and_false,Bool.or_true,Bool.true_or,Bool.or_false,Bool.false_or,Bool.not_true,Bool.not_false] at hk))))
theorem idxByte298_den (s : St) (x : Str) (c : UInt8) (KV Kp) (hk : KV s (.int .i64 (Lib.indexByte x c))) : Den cx 298 [.str x,.int .u8 c.toNat] KV Kp s := by
 refine Den.drop ?_; (refine Den.of_body (C := cx) Tryz.func298 rfl rfl (Nat.le_of_ble_eq_true rfl) ?_; refine wpC_ok (V := [0,1,4]) _ _ _ _ ?_; simp only [go_sem,Tryz.ntmps298,Tryz.f298])
 (repeat' (first | exact DK.st hk (by (repeat (first | exact St.ge.refl _ | refine St.ge_set (by simp only []) ?_))) | (refine idxByte303_den _ _ _ _ _ ?_; simp only [go_sem]) | ((first | refine gdK_split (fun h => ?_) (fun h => ?_) | refine brK_split (fun h => ?_) (fun h => ?_) | refine gdX_split (fun h => ?_) (fun h => ?_)) <;> simp only [go_sem,h] <;> (try simp only [h,Bool.true_and,Bool.false_and,Bool.and_true,Bool.and_false,Bool.or_true,Bool.true_or,Bool.or_false,Bool.false_or,Bool.not_true,Bool.not_false] at hk))))
theorem hasPre311_den (s : St) (x p : Str) (KV Kp) (hk : KV s (.bool (hasPre x p))) : Den cx 311 [.str x,.str p] KV Kp s := by
 unfold hasPre at hk;refine Den.drop ?_; (refine Den.of_body (C := cx) Tryz.func311 rfl rfl (Nat.le_of_ble_eq_true rfl) ?_; refine wpC_ok (V := [0,1,4]) _ _ _ _ ?_; simp only [go_sem,Tryz.ntmps311,Tryz.f311])
 (first | refine gdK_split (fun h => ?_) (fun h => ?_) | refine brK_split (fun h => ?_) (fun h => ?_) | refine gdX_split (fun h => ?_) (fun h => ?_)) <;> simp only [go_sem,h] <;> (try simp only [h,Bool.true_and,Bool.false_and,Bool.and_true,Bool.and_false,Bool.or_true,Bool.true_or,Bool.or_false,Bool.false_or,Bool.not_true,Bool.not_false] at hk)
 ·have hl : p.length ≤ x.length := by simpa using h
  simp only [go_sem,hl];exact DK.here hk
 ·exact DK.here hk
theorem hasPre299_den (s : St) (x p : Str) (KV Kp) (hk : KV s (.bool (hasPre x p))) : Den cx 299 [.str x,.str p] KV Kp s := by
 refine Den.drop ?_; (refine Den.of_body (C := cx) Tryz.func299 rfl rfl (Nat.le_of_ble_eq_true rfl) ?_; refine wpC_ok (V := [0,1,4]) _ _ _ _ ?_; simp only [go_sem,Tryz.ntmps299,Tryz.f299])
 (repeat' (first | exact DK.st hk (by (repeat (first | exact St.ge.refl _ | refine St.ge_set (by simp only []) ?_))) | (refine hasPre311_den _ _ _ _ _ ?_; simp only [go_sem]) | ((first | refine gdK_split (fun h => ?_) (fun h => ?_) | refine brK_split (fun h => ?_) (fun h => ?_) | refine gdX_split (fun h => ?_) (fun h => ?_)) <;> simp only [go_sem,h] <;> (try simp only [h,Bool.true_and,Bool.false_and,Bool.and_true,Bool.and_false,Bool.or_true,Bool.true_or,Bool.or_false,Bool.false_or,Bool.not_true,Bool.not_false] at hk))))
theorem lastIdx219_den (s : St) (x : Str) (c : UInt8) (KV Kp) (hx : x.length ≤ 4294967296) (hk : KV s (.int .i64 (lastTo x c x.length))) : Den cx 219 [.str x,.int .u8 c.toNat] KV Kp s := by
 refine Den.drop ?_; (refine Den.of_body (C := cx) Tryz.func219 rfl rfl (Nat.le_of_ble_eq_true rfl) ?_; refine wpC_ok (V := [0,1,4,5,10,17]) _ _ _ _ ?_; simp only [go_sem,Tryz.ntmps219,Tryz.f219]);rw [wrap_in _ (by omega) (by omega)]
 refine Ex.loop (fun n => [(0,.str x),(1,.int .u8 c.toNat),(5,.int .i64 ((n : Nat) - 1 : Int))]) (fun _ => s)
  (fun n => n ≤ x.length ∧ lastTo x c x.length = lastTo x c n) (fun n => n) x.length ⟨Nat.le_refl _,rfl⟩ ?_ (St.ge.refl s) ?_
 ·simp only [go_sem]
 ·rintro n ⟨hn,he⟩;refine wpC_ok (V := [0,1,4,5,10,17]) _ _ _ _ ?_;simp only [go_sem]
  (first | refine gdK_split (fun h => ?_) (fun h => ?_) | refine brK_split (fun h => ?_) (fun h => ?_) | refine gdX_split (fun h => ?_) (fun h => ?_)) <;> simp only [go_sem,h]
  ·obtain ⟨m,rfl⟩ : ∃ m,n = m + 1 := ⟨n - 1,by simp at h; omega⟩
   have e1 : (((m + 1 : Nat) : Int) - 1) = (m : Int) := by omega
   have hm : m < x.length := by omega
   obtain ⟨d,hd⟩ : ∃ d,x[m]? = some d := ⟨_,List.getElem?_eq_getElem hm⟩
   simp only [go_sem,e1,hm,hd]
   (first | refine gdK_split (fun h => ?_) (fun h => ?_) | refine brK_split (fun h => ?_) (fun h => ?_) | refine gdX_split (fun h => ?_) (fun h => ?_)) <;> simp only [go_sem,h]
   ·have hdc : d = c := by
     have : d.toNat = c.toNat := by simpa using h
     exact UInt8.toNat_inj.1 this
    subst hdc;rw [he,lastTo,if_pos hd] at hk;exact DK.here hk
   ·have hdc : ¬ d = c := by
     rintro rfl;simp at h
    rw [wrap_in _ (by omega) (by omega)];refine ⟨m,⟨by omega,?_⟩,by omega,?_,St.ge.refl s⟩
    ·rw [he,lastTo,if_neg (by rw [hd]; simpa using hdc)]
    ·simp only [go_sem]
  ·have h0 : n = 0 := by simp at h; omega
   subst h0;rw [he,lastTo] at hk;exact DK.here hk
theorem lastIdx143_den (s : St) (x : Str) (c : UInt8) (KV Kp) (hx : x.length ≤ 4294967296) (hk : KV s (.int .i64 (lastTo x c x.length))) : Den cx 143 [.str x,.int .u8 c.toNat] KV Kp s := by
 refine Den.drop ?_; (refine Den.of_body (C := cx) Tryz.func143 rfl rfl (Nat.le_of_ble_eq_true rfl) ?_; refine wpC_ok (V := [0,1,4]) _ _ _ _ ?_; simp only [go_sem,Tryz.ntmps143,Tryz.f143])
 (repeat' (first | exact DK.st hk (by (repeat (first | exact St.ge.refl _ | refine St.ge_set (by simp only []) ?_))) | (refine lastIdx219_den _ _ _ _ _ hx ?_; simp only [go_sem]) | ((first | refine gdK_split (fun h => ?_) (fun h => ?_) | refine brK_split (fun h => ?_) (fun h => ?_) | refine gdX_split (fun h => ?_) (fun h => ?_)) <;> simp only [go_sem,h] <;> (try simp only [h,Bool.true_and,Bool.false_and,Bool.and_true,Bool.and_false,Bool.or_true,Bool.true_or,Bool.or_false,Bool.false_or,Bool.not_true,Bool.not_false] at hk))))
theorem isDigit_den (s : St) (c : Int) (KV Kp) (hk : KV s (.bool (isDig c))) : Den cx 301 [.int .u8 c] KV Kp s := by
 unfold isDig at hk;refine Den.drop ?_; (refine Den.of_body (C := cx) Tryz.func301 rfl rfl (Nat.le_of_ble_eq_true rfl) ?_; refine wpC_ok (V := [0,2]) _ _ _ _ ?_; simp only [go_sem,Tryz.ntmps301,Tryz.f301])
 (repeat' (first | exact DK.st hk (by (repeat (first | exact St.ge.refl _ | refine St.ge_set (by simp only []) ?_))) | ((first | refine gdK_split (fun h => ?_) (fun h => ?_) | refine brK_split (fun h => ?_) (fun h => ?_) | refine gdX_split (fun h => ?_) (fun h => ?_)) <;> simp only [go_sem,h] <;> (try simp only [h,Bool.true_and,Bool.false_and,Bool.and_true,Bool.and_false,Bool.or_true,Bool.true_or,Bool.or_false,Bool.false_or,Bool.not_true,Bool.not_false] at hk))))
theorem run_den (s : St) (x : Str) (f : FuncId) (p : UInt8 → Bool) (KV Kp) (hx : x.length ≤ 4294967296)
  (hf : ∀ (c : UInt8) KV Kp,KV s (.bool (p c)) → Den cx f [.int .u8 c.toNat] KV Kp s)
  (hk : KV s (.int .i64 (x.takeWhile p).length)) : Den cx 300 [.str x,.fn f [] []] KV Kp s := by
 refine Den.drop ?_; (refine Den.of_body (C := cx) Tryz.func300 rfl rfl (Nat.le_of_ble_eq_true rfl) ?_; refine wpC_ok (V := [0,1,4,5,16]) _ _ _ _ ?_; simp only [go_sem,Tryz.ntmps300,Tryz.f300])
 refine Ex.loop (fun n => [(0,.str x),(1,.fn f [] []),(5,.int .i64 (n : Nat))]) (fun _ => s)
  (fun n => n ≤ x.length ∧ (x.takeWhile p).length = n + ((x.drop n).takeWhile p).length) (fun n => x.length - n) 0 ⟨Nat.zero_le _,by simp⟩ ?_ (St.ge.refl s) ?_
 ·simp only [go_sem];rfl
 ·rintro n ⟨hn,he⟩;refine wpC_ok (V := [0,1,4,5,16]) _ _ _ _ ?_;simp only [go_sem]
  (first | refine gdK_split (fun h => ?_) (fun h => ?_) | refine brK_split (fun h => ?_) (fun h => ?_) | refine gdX_split (fun h => ?_) (fun h => ?_)) <;> simp only [go_sem,h]
  ·have hn' : n < x.length := by simpa using h
   obtain ⟨d,hd⟩ : ∃ d,x[n]? = some d := ⟨_,List.getElem?_eq_getElem hn'⟩
   have hdr : x.drop n = d :: x.drop (n + 1) := by
    rw [List.drop_eq_getElem_cons hn'];congr 1;rw [List.getElem?_eq_getElem hn'] at hd; simpa using hd
   simp only [go_sem,hd,hn'];refine hf _ _ _ ?_;simp only [go_sem]
   (first | refine gdK_split (fun h => ?_) (fun h => ?_) | refine brK_split (fun h => ?_) (fun h => ?_) | refine gdX_split (fun h => ?_) (fun h => ?_)) <;> simp only [go_sem,h]
   ·have hp : p d = true := by simpa using h
    refine ⟨n + 1,⟨by omega,?_⟩,by omega,?_,St.ge.refl s⟩
    ·rw [he,hdr,List.takeWhile_cons_of_pos hp,List.length_cons]; omega
    ·simp only [go_sem,wrap1 n (by omega)]
   ·have hp : ¬ p d = true := by simp [h]
    rw [he,hdr,List.takeWhile_cons_of_neg hp] at hk;exact DK.here (by simpa using hk)
  ·have hn' : n = x.length := by simp at h; omega
   subst hn';rw [he,List.drop_length] at hk;exact DK.here (by simpa using hk)
end Go.AV
end
section
namespace Go.AV
open Go Go.Proofs
theorem St.ge_same {s : St} {b : Nat} {o : Ob} (h : s.getO b = some o) : s.ge (s.setO b o) :=
 ⟨fun c x hc => by
  rw [gA1] at hc;split at hc
  ·rename_i e; subst e; rw [h]; exact hc
  ·exact hc,fun _ _ h => h,fun _ h => h⟩
def rdCs (x : Str) (at_ line col : Nat) (sg : List Str) (op : Bool) : List A := [.str x,.int .i64 at_,.int .i64 line,.int .i64 col,.list none (sg.map .str),.bool op]
theorem adv_app : ∀ (w v : Str) (p : Nat × Nat),adv p (w ++ v) = adv (adv p w) v
 | [],v,p => rfl
 | b :: w,v,(l,c) => by
  simp only [List.cons_append,adv];split <;> exact adv_app w v _
theorem adv_le : ∀ (w : Str) (p : Nat × Nat) (k : Nat),p.1 ≤ k + 1 → p.2 ≤ k + 1 → (adv p w).1 ≤ k + w.length + 1 ∧ (adv p w).2 ≤ k + w.length + 1
 | [],p,k,h1,h2 => ⟨h1,h2⟩
 | b :: w,(l,c),k,h1,h2 => by
  simp only [adv,List.length_cons];split
  ·have := adv_le w (l + 1,1) (k + 1) (by simpa using h1) (by simp);omega
  ·have := adv_le w (l,c + 1) (k + 1) (by have : l ≤ k + 1 := h1; simp; omega) (by simpa using h2);omega
theorem skip_den (s : St) (r : Nat) (x : Str) (at_ l c n : Nat) (sg : List Str) (op : Bool) (KV Kp)
  (hr : s.getO r = some (.cells 226 (rdCs x at_ l c sg op))) (hx : x.length ≤ 4294967296) (hn : at_ + n ≤ x.length) (hl : l ≤ at_ + 1) (hc : c ≤ at_ + 1)
  (hk : KV (s.setO r (.cells 226 (rdCs x (at_ + n) (adv (l,c) ((x.drop at_).take n)).1 (adv (l,c) ((x.drop at_).take n)).2 sg op))) (.tuple [])) :
  Den cx 279 [.ptr r 0,.int .i64 n] KV Kp s := by
 refine Den.drop ?_; (refine Den.of_body (C := cx) Tryz.func279 rfl rfl (Nat.le_of_ble_eq_true rfl) ?_; refine wpC_ok (V := [0,1,4,5,6,23]) _ _ _ _ ?_; simp only [go_sem,Tryz.ntmps279,Tryz.f279])
 refine Ex.loop (fun i => [(0,.ptr r 0),(4,.int .i64 n),(5,.int .i64 (i : Nat))])
  (fun i => s.setO r (.cells 226 (rdCs x (at_ + i) (adv (l,c) ((x.drop at_).take i)).1 (adv (l,c) ((x.drop at_).take i)).2 sg op)))
  (fun i => i ≤ n) (fun i => n - i) 0 (Nat.zero_le _) ?_ ?_ ?_
 ·simp only [go_sem];rfl
 ·simp only [Nat.add_zero,List.take_zero,adv];exact St.ge_same hr
 ·intro i hi;refine wpC_ok (V := [0,1,4,5,6,23]) _ _ _ _ ?_;have hb := adv_le ((x.drop at_).take i) (l,c) at_ hl hc;have hlen : ((x.drop at_).take i).length = i := by rw [List.length_take,List.length_drop]; omega
  rw [hlen] at hb;simp only [go_sem]
  (first | refine gdK_split (fun h => ?_) (fun h => ?_) | refine brK_split (fun h => ?_) (fun h => ?_) | refine gdX_split (fun h => ?_) (fun h => ?_)) <;> simp only [go_sem,h]
  ·have hin : i < n := by simpa using h
   have hix : at_ + i < x.length := by omega
   obtain ⟨d,hd⟩ : ∃ d,x[at_ + i]? = some d := ⟨_,List.getElem?_eq_getElem hix⟩
   simp only [go_sem,rdCs];rw [wrap1 _ (by omega)];(refine draw_ok (V := [0,1,4,5,6,23]) (OT.l [0,1,2,3,4,5,6,7,8,9] .nil) [] mixed_cx (by decide +kernel) ?_; simp only [go_sem,hd,hix])
   have hst : adv (l,c) ((x.drop at_).take (i + 1)) = adv (adv (l,c) ((x.drop at_).take i)) [d] := by
    rw [List.take_add_one,List.getElem?_drop,hd,adv_app]; rfl
   have e5 : IntKind.i64.wrap ((i : Int) + 1) = ((i + 1 : Nat) : Int) := wrap1 i (by omega);have e1 : IntKind.i64.wrap (((at_ + i : Nat) : Int) + 1) = ((at_ + (i + 1) : Nat) : Int) := by rw [wrap1 _ (by omega)]; rfl
   have e2 : IntKind.i64.wrap (((adv (l,c) ((x.drop at_).take i)).1 : Int) + 1) = (((adv (l,c) ((x.drop at_).take i)).1 + 1 : Nat) : Int) := wrap1 _ (by omega)
   (first | refine gdK_split (fun h => ?_) (fun h => ?_) | refine brK_split (fun h => ?_) (fun h => ?_) | refine gdX_split (fun h => ?_) (fun h => ?_)) <;> simp only [go_sem,h,e1,e2,e5]
   ·have hd10 : d = 10 := by
     have : d.toNat = 10 := by simp at h; omega
     exact UInt8.toNat_inj.1 this
    refine ⟨i + 1,by omega,by omega,rfl,?_⟩;rw [hst];simp only [adv,hd10,if_true];exact St.ge.refl _
   ·have hd10 : ¬ d = 10 := by rintro rfl; simp at h
    refine ⟨i + 1,by omega,by omega,rfl,?_⟩;rw [hst];simp only [adv,hd10,if_false];exact St.ge.refl _
  ·have hin : i = n := by simp at h; omega
   subst hin;exact DK.here hk
end Go.AV
end
section
namespace Go.AV
open Go Go.Proofs
@[go_sem] theorem take_drop_all (x : Str) (n : Nat) : (x.drop n).take (x.length - n) = x.drop n := List.take_of_length_le (by rw [List.length_drop]; exact Nat.le_refl _)
theorem takeWhile_pre {b : UInt8} {r : Str} (h : hasPre (b :: r) [47,47] = true) : 1 ≤ ((b :: r).takeWhile (fun c => !decide (c = 10))).length := by
 have hb : b = 47 := by
  simp only [hasPre,Bool.and_eq_true,decide_eq_true_eq] at h;have := h.2;simp at this;exact this.1
 subst hb;simp [List.takeWhile]
theorem blk_fuel : ∀ (f g : Nat) (w : Str),w.length ≤ f → w.length ≤ g → blk f w = blk g w
 | f,g,[],_,_ => by cases f <;> cases g <;> rfl
 | 0,g,b :: r,h,_ => by simp at h
 | f,0,b :: r,_,h => by simp at h
 | f + 1,g + 1,b :: r,hf,hg => by
  simp only [List.length_cons] at hf hg;simp only [blk];split
  ·rw [blk_fuel f g r (by omega) (by omega)]
  ·split
   ·rename_i hp;have := takeWhile_pre hp;rw [blk_fuel f g _ (by rw [List.length_drop,List.length_cons]; omega) (by rw [List.length_drop,List.length_cons]; omega)]
   ·rfl
theorem blks_nil : blks [] = 0 := rfl
theorem blks_blank {b : UInt8} {r : Str} (h : isBlank b = true) : blks (b :: r) = 1 + blks r := by
 simp only [blks,List.length_cons,blk,h,if_true]
theorem blks_note {b : UInt8} {r : Str} (hb : isBlank b = false) (h : hasPre (b :: r) [47,47] = true) :
  blks (b :: r) = ((b :: r).takeWhile (fun c => !decide (c = 10))).length + blks ((b :: r).drop ((b :: r).takeWhile (fun c => !decide (c = 10))).length) := by
 have := takeWhile_pre h;simp only [blks,List.length_cons,blk,hb,Bool.false_eq_true,if_false,h,if_true];rw [blk_fuel r.length _ _ (by rw [List.length_drop,List.length_cons]; omega) (Nat.le_refl _)]
theorem blks_none {b : UInt8} {r : Str} (hb : isBlank b = false) (h : hasPre (b :: r) [47,47] = false) : blks (b :: r) = 0 := by
 simp only [blks,List.length_cons,blk,hb,Bool.false_eq_true,if_false,h]
theorem idx_blank (b : UInt8) : decide (0 ≤ Lib.indexByte [32,9,10,13] b) = isBlank b := by
 by_cases h1 : b = 32
 ·subst h1; decide
 by_cases h2 : b = 9
 ·subst h2; decide
 by_cases h3 : b = 10
 ·subst h3; decide
 by_cases h4 : b = 13
 ·subst h4; decide
 have e1 : ((32 : UInt8) == b) = false := beq_eq_false_iff_ne.2 fun e => h1 e.symm
 have e2 : ((9 : UInt8) == b) = false := beq_eq_false_iff_ne.2 fun e => h2 e.symm
 have e3 : ((10 : UInt8) == b) = false := beq_eq_false_iff_ne.2 fun e => h3 e.symm
 have e4 : ((13 : UInt8) == b) = false := beq_eq_false_iff_ne.2 fun e => h4 e.symm
 simp [Lib.indexByte,isBlank,e1,e2,e3,e4,h1,h2,h3,h4]
theorem idx_line (w : Str) : (if Lib.indexByte w 10 < 0 then ((w.length : Nat) : Int) else Lib.indexByte w 10) = ((w.takeWhile (fun c => !decide (c = 10))).length : Nat) ∧ (Lib.indexByte w 10 = -1 ∨ 0 ≤ Lib.indexByte w 10) := by
 induction w with
 | nil => simp [Lib.indexByte]
 | cons b r ih =>
  obtain ⟨ih,ih2⟩ := ih;unfold Lib.indexByte;by_cases hb : b = 10
  ·subst hb; simp
  ·have hb' : (b == 10) = false := by simpa using hb
   rw [hb'];simp only [Bool.false_eq_true,if_false];have htw : (b :: r).takeWhile (fun c => !decide (c = 10)) = b :: r.takeWhile (fun c => !decide (c = 10)) := by simp [List.takeWhile,hb]
   rw [htw];rcases ih2 with h | h
   ·rw [h] at ih ⊢;simp only [show ((-1 : Int) < 0) from by decide,if_true] at ih;simp only [beq_self_eq_true,if_true,show ((-1 : Int) < 0) from by decide,List.length_cons];exact ⟨by omega,.inl trivial⟩
   ·have h1 : ¬ Lib.indexByte r 10 < 0 := by omega
    have h2 : (Lib.indexByte r 10 == -1) = false := by simpa using (by omega : ¬ Lib.indexByte r 10 = -1)
    rw [if_neg h1] at ih;rw [h2];simp only [Bool.false_eq_true,if_false,List.length_cons];rw [if_neg (by omega)];exact ⟨by omega,.inr (by omega)⟩
theorem blanks_den (s : St) (r : Nat) (x : Str) (at_ l c : Nat) (sg : List Str) (op : Bool) (KV Kp)
  (hr : s.getO r = some (.cells 226 (rdCs x at_ l c sg op))) (hx : x.length ≤ 4294967296) (ha : at_ ≤ x.length) (hl : l ≤ at_ + 1) (hc : c ≤ at_ + 1)
  (hk : KV (s.setO r (.cells 226 (rdCs x (at_ + blks (x.drop at_)) (adv (l,c) ((x.drop at_).take (blks (x.drop at_)))).1 (adv (l,c) ((x.drop at_).take (blks (x.drop at_)))).2 sg op))) (.tuple [])) :
  Den cx 277 [.ptr r 0] KV Kp s := by
 refine Den.drop ?_; (refine Den.of_body (C := cx) Tryz.func277 rfl rfl (Nat.le_of_ble_eq_true rfl) ?_; refine wpC_ok (V := [0,2,3,13,23,30,36]) _ _ _ _ ?_; simp only [go_sem,Tryz.ntmps277,Tryz.f277])
 refine Ex.loop (fun k => [(0,.ptr r 0)])
  (fun k => s.setO r (.cells 226 (rdCs x (at_ + k) (adv (l,c) ((x.drop at_).take k)).1 (adv (l,c) ((x.drop at_).take k)).2 sg op)))
  (fun k => at_ + k ≤ x.length ∧ blks (x.drop at_) = k + blks (x.drop (at_ + k))) (fun k => x.length - (at_ + k)) 0 ⟨by omega,by simp⟩ ?_ ?_ ?_
 ·simp only [go_sem]
 ·simp only [Nat.add_zero,List.take_zero,adv];exact St.ge_same hr
 ·rintro k ⟨hkx,hb⟩;have hlen : ((x.drop at_).take k).length = k := by rw [List.length_take,List.length_drop]; omega
  have hal := adv_le ((x.drop at_).take k) (l,c) at_ hl hc;rw [hlen] at hal
  have hstep : ∀ m,adv (l,c) ((x.drop at_).take (k + m)) = adv (adv (l,c) ((x.drop at_).take k)) ((x.drop (at_ + k)).take m) := by
   intro m;rw [List.take_add,adv_app,List.drop_drop]
  refine wpC_ok (V := [0,2,3,13,23,30,36]) _ _ _ _ ?_;simp only [go_sem];(refine draw_ok (V := [0,2,3,13,23,30,36]) (OT.l [0,1,2,3,4,5,6,7,8,9] .nil) [] mixed_cx (by decide +kernel) ?_; simp only [go_sem,rdCs])
  (first | refine gdK_split (fun h => ?_) (fun h => ?_) | refine brK_split (fun h => ?_) (fun h => ?_) | refine gdX_split (fun h => ?_) (fun h => ?_)) <;> simp only [go_sem,h]
  ·have hlt : at_ + k < x.length := by simpa using h
   have hcons : ∃ d w,x.drop (at_ + k) = d :: w := by
    rw [List.drop_eq_getElem_cons hlt]; exact ⟨_,_,rfl⟩
   obtain ⟨d,w,hw⟩ := hcons;have ha' : at_ + k ≤ x.length := by omega
   have htk : (d :: w).take (x.length - (at_ + k)) = d :: w := by rw [← hw]; exact take_drop_all x _
   (refine draw_ok (V := [0,2,3,13,23,30,36]) (OT.l [0,1,2,3,4,5,6,7,8,9] .nil) [] mixed_cx (by decide +kernel) ?_; simp only [go_sem,rdCs,hw,htk,ha',Nat.le_refl]);refine idxByte298_den _ _ _ _ _ ?_;simp only [go_sem,idx_blank]
   (first | refine gdK_split (fun h => ?_) (fun h => ?_) | refine brK_split (fun h => ?_) (fun h => ?_) | refine gdX_split (fun h => ?_) (fun h => ?_)) <;> simp only [go_sem,h]
   ·
    refine skip_den _ r x (at_ + k) _ _ 1 sg op _ _ (by rw [gA1,if_pos rfl]; rfl) hx (by omega) (by omega) (by omega) ?_;simp only [go_sem];refine ⟨k + 1,⟨by omega,?_⟩,by omega,?_⟩
    ·rw [hb,hw,blks_blank h,show at_ + (k + 1) = at_ + k + 1 from rfl,← List.drop_drop,hw];simp; omega
    ·rw [hstep 1]; exact St.ge.refl _
   ·refine hasPre299_den _ _ _ _ _ ?_;simp only [go_sem]
    (first | refine gdK_split (fun h => ?_) (fun h => ?_) | refine brK_split (fun h => ?_) (fun h => ?_) | refine gdX_split (fun h => ?_) (fun h => ?_)) <;> simp only [go_sem,h]
    ·have hbl : isBlank d = false := by assumption
     have hp := h;refine idxByte298_den _ _ 10 _ _ ?_;simp only [go_sem];have hi := idx_line (d :: w);have hpos := takeWhile_pre hp;have hle : ((d :: w).takeWhile (fun c => !decide (c = 10))).length ≤ (d :: w).length := (List.takeWhile_sublist _).length_le;have hwl : (d :: w).length = x.length - (at_ + k) := by rw [← hw,List.length_drop]
     have fin : ∀ m : Nat,m = ((d :: w).takeWhile (fun c => !decide (c = 10))).length → at_ + k + m ≤ x.length ∧ blks (x.drop at_) = k + m + blks (x.drop (at_ + (k + m))) := by
      rintro m rfl;refine ⟨by omega,?_⟩;have := blks_note hbl hp;rw [hb,hw,this,← Nat.add_assoc at_,← List.drop_drop,hw];omega
     generalize hm : ((d :: w).takeWhile (fun c => !decide (c = 10))).length = m at hi hpos hle;obtain ⟨f1,f2⟩ := fin m hm.symm
     (first | refine gdK_split (fun h => ?_) (fun h => ?_) | refine brK_split (fun h => ?_) (fun h => ?_) | refine gdX_split (fun h => ?_) (fun h => ?_)) <;> simp only [go_sem,h]
     ·have hlt : Lib.indexByte (d :: w) 10 < 0 := by simpa using h
      have e := hi.1;rw [if_pos hlt] at e;have e : w.length + 1 = m := by simp at e; omega
      rw [e];refine skip_den _ r x (at_ + k) _ _ m sg op _ _ (by rw [gA1,if_pos rfl]; rfl) hx f1 (by omega) (by omega) ?_;simp only [go_sem];refine ⟨k + m,⟨by omega,f2⟩,by omega,?_⟩;rw [hstep m,Nat.add_assoc at_ k m]; exact St.ge.refl _
     ·have hlt : ¬ Lib.indexByte (d :: w) 10 < 0 := by simpa using h
      have e := hi.1;rw [if_neg hlt] at e;rw [e];refine skip_den _ r x (at_ + k) _ _ m sg op _ _ (by rw [gA1,if_pos rfl]; rfl) hx f1 (by omega) (by omega) ?_;simp only [go_sem];refine ⟨k + m,⟨by omega,f2⟩,by omega,?_⟩;rw [hstep m,Nat.add_assoc at_ k m]; exact St.ge.refl _
    ·have hbl : isBlank d = false := by assumption
     rw [hb,hw,blks_none hbl h,Nat.add_zero] at hk;exact DK.here hk
  ·have hkl : at_ + k = x.length := by simp at h; omega
   have e : blks (x.drop at_) = k := by rw [hb,hkl,List.drop_length,blks_nil]; rfl
   rw [e] at hk;exact DK.here hk
end Go.AV
end
section
namespace Go.AV
open Go Go.Proofs
def ctC (w : Str) (i l c : Nat) (sg out : A) (f : Fault) : List A := [.str w,.int .i64 i,.int .i64 l,.int .i64 c,sg,out,.int .i64 f.code,.str f.name,.int .i64 f.line,.int .i64 f.col]
def ctO (w : Str) (i l c : Nat) (sg out : A) (f : Fault) : Ob := .cells 138 (ctC w i l c sg out f)
attribute [go_sem] ctO ctC
section
variable {s : St} {KV Kp : St → A → Prop} {r : Nat} {w : Str} {i l c : Nat} {sg out : A} {f : Fault}
theorem take94_den (n : Nat) (hr : s.getO r = some (ctO w i l c sg out f)) (hx : w.length ≤ 4294967280) (hn : i + n ≤ w.length) (hl : l ≤ i + 1) (hc : c ≤ i + 1)
  (hk : KV (s.setO r (ctO w (i + n) (adv (l,c) ((w.drop i).take n)).1 (adv (l,c) ((w.drop i).take n)).2 sg out f)) (.tuple [])) :
  Den cx 94 [.ptr r 0,.int .i64 n] KV Kp s := by
 refine Den.drop ?_; (refine Den.of_body (C := cx) Tryz.func94 rfl rfl (Nat.le_of_ble_eq_true rfl) ?_; refine wpC_ok (V := [0,1,4,5,6,16]) _ _ _ _ ?_; simp only [go_sem,Tryz.ntmps94,Tryz.f94])
 refine Ex.loop (ι := Nat) (fun j => [(0,.ptr r 0),(4,.int .i64 n),(5,.int .i64 (j : Nat))])
  (fun j => s.setO r (ctO w (i + j) (adv (l,c) ((w.drop i).take j)).1 (adv (l,c) ((w.drop i).take j)).2 sg out f))
  (fun j => j ≤ n) (fun j => n - j) 0 (Nat.zero_le _) ?_ ?_ ?_
 ·simp only [go_sem];rfl
 ·simp only [Nat.add_zero,List.take_zero,adv];exact St.ge_same hr
 ·intro j hj;refine wpC_ok (V := [0,1,4,5,6,16]) _ _ _ _ ?_;have hb := adv_le ((w.drop i).take j) (l,c) i hl hc;have hlen : ((w.drop i).take j).length = j := by rw [List.length_take,List.length_drop]; omega
  rw [hlen] at hb;simp only [go_sem]
  (first | refine gdK_split (fun h => ?_) (fun h => ?_) | refine brK_split (fun h => ?_) (fun h => ?_) | refine gdX_split (fun h => ?_) (fun h => ?_)) <;> simp only [go_sem,h]
  ·have hin : j < n := by simpa using h
   have hix : i + j < w.length := by omega
   obtain ⟨d,hd⟩ : ∃ d,w[i + j]? = some d := ⟨_,List.getElem?_eq_getElem hix⟩
   (refine draw_ok (V := [0,1,4,5,6,16]) (OT.l [0,1,2,3,4,5,6,7,8,9] .nil) [] mixed_cx (by decide +kernel) ?_; simp only [go_sem,hd,hix])
   have hst : adv (l,c) ((w.drop i).take (j + 1)) = adv (adv (l,c) ((w.drop i).take j)) [d] := by
    rw [List.take_add_one,List.getElem?_drop,hd,adv_app]; rfl
   have e5 : IntKind.i64.wrap ((j : Int) + 1) = ((j + 1 : Nat) : Int) := wrap1 j (by omega);have e1 : IntKind.i64.wrap (((i + j : Nat) : Int) + 1) = ((i + (j + 1) : Nat) : Int) := by rw [wrap1 _ (by omega)]; rfl
   have e2 : IntKind.i64.wrap (((adv (l,c) ((w.drop i).take j)).1 : Int) + 1) = (((adv (l,c) ((w.drop i).take j)).1 + 1 : Nat) : Int) := wrap1 _ (by omega);have e3 : IntKind.i64.wrap (((adv (l,c) ((w.drop i).take j)).2 : Int) + 1) = (((adv (l,c) ((w.drop i).take j)).2 + 1 : Nat) : Int) := wrap1 _ (by omega);have e4 : IntKind.i64.wrap ((0 : Int) + 1) = 1 := by decide
   (first | refine gdK_split (fun h => ?_) (fun h => ?_) | refine brK_split (fun h => ?_) (fun h => ?_) | refine gdX_split (fun h => ?_) (fun h => ?_)) <;> simp only [go_sem,h,e1,e2,e3,e4,e5]
   ·have hd10 : d = 10 := by
     have : d.toNat = 10 := by simp at h; omega
     exact UInt8.toNat_inj.1 this
    refine ⟨j + 1,by omega,by omega,rfl,?_⟩;rw [hst];simp only [adv,hd10,if_true];exact St.ge.refl _
   ·have hd10 : ¬ d = 10 := by rintro rfl; simp at h
    refine ⟨j + 1,by omega,by omega,rfl,?_⟩;rw [hst];simp only [adv,hd10,if_false];exact St.ge.refl _
  ·have hin : j = n := by simp at h; omega
   subst hin;exact DK.here hk
theorem blank187_den (b : UInt8) (hk : KV s (.bool (isBlank b))) : Den cx 187 [.int .u8 b.toNat] KV Kp s := by
 have e : ∀ k : UInt8,decide (b = k) = decide ((b.toNat : Int) = (k.toNat : Int)) := fun k => by
  rw [decide_eq_decide];constructor
  ·rintro rfl; rfl
  ·intro h; exact UInt8.toNat_inj.1 (by omega)
 unfold isBlank at hk;rw [show decide (b = 32) = decide ((b.toNat : Int) = 32) from e 32,show decide (b = 9) = decide ((b.toNat : Int) = 9) from e 9,show decide (b = 10) = decide ((b.toNat : Int) = 10) from e 10,show decide (b = 13) = decide ((b.toNat : Int) = 13) from e 13] at hk;refine Den.drop ?_; (refine Den.of_body (C := cx) Tryz.func187 rfl rfl (Nat.le_of_ble_eq_true rfl) ?_; refine wpC_ok (V := [0,2]) _ _ _ _ ?_; simp only [go_sem,Tryz.ntmps187,Tryz.f187])
 (repeat' (first | exact DK.st hk (by (repeat (first | exact St.ge.refl _ | refine St.ge_set (by simp only []) ?_))) | ((first | refine gdK_split (fun h => ?_) (fun h => ?_) | refine brK_split (fun h => ?_) (fun h => ?_) | refine gdX_split (fun h => ?_) (fun h => ?_)) <;> simp only [go_sem,h] <;> (try simp only [h,Bool.true_and,Bool.false_and,Bool.and_true,Bool.and_false,Bool.or_true,Bool.true_or,Bool.or_false,Bool.false_or,Bool.not_true,Bool.not_false] at hk))))
theorem begins188_den (x : Str) (hr : s.getO r = some (ctO w i l c sg out f)) (hx : w.length ≤ 4294967280) (hi : i ≤ w.length) (hp : x.length ≤ 4294967280) (hk : KV s (.bool (hasPre (w.drop i) x))) : Den cx 188 [.ptr r 0,.str x] KV Kp s := by
 have e1 : IntKind.i64.wrap ((w.length : Int) - (i : Int)) = ((w.length - i : Nat) : Int) := by rw [wrap_in _ (by omega) (by omega)]; omega
 have e2 : IntKind.i64.wrap ((i : Int) + (x.length : Int)) = ((i + x.length : Nat) : Int) := by rw [wrap_in _ (by omega) (by omega)]; omega
 unfold hasPre at hk;rw [List.length_drop] at hk;refine Den.drop ?_; (refine Den.of_body (C := cx) Tryz.func188 rfl rfl (Nat.le_of_ble_eq_true rfl) ?_; refine wpC_ok (V := [0,1,4]) _ _ _ _ ?_; simp only [go_sem,Tryz.ntmps188,Tryz.f188]);by_cases h : x.length ≤ w.length - i
 ·have d1 : decide (x.length ≤ w.length - i) = true := decide_eq_true h;have b1 : i ≤ i + x.length := by omega
  have b2 : i + x.length ≤ w.length := by omega
  rw [d1] at hk;(refine draw_ok (V := [0,1,4]) (OT.l [0,1,2,3,4,5,6,7,8,9,10,11,12,13,14,15,16,17,18,19,20,21,22,23,24,25,26,27,28,29,30,31,32,33] .nil) [] mixed_cx (by decide +kernel) ?_; simp only [go_sem,hr,e1,e2,d1,b1,b2]);rw [show i + x.length - i = x.length by omega];rw [Bool.true_and] at hk;exact DK.here hk
 ·have d1 : decide (x.length ≤ w.length - i) = false := decide_eq_false h;rw [d1] at hk;(refine draw_ok (V := [0,1,4]) (OT.l [0,1,2,3,4,5,6,7,8,9,10,11,12,13,14,15,16,17,18,19,20,21,22,23,24,25,26,27,28,29,30,31,32,33] .nil) [] mixed_cx (by decide +kernel) ?_; simp only [go_sem,hr,e1,e2,d1]);exact DK.here hk
theorem name190_den (j : Nat) (hr : s.getO r = some (ctO w i l c sg out f)) (hx : w.length ≤ 4294967280) (hj : j ≤ w.length) (hk : KV s (.int .i64 ((w.drop j).takeWhile fun c => isPart c.toNat).length)) : Den cx 190 [.ptr r 0,.int .i64 j] KV Kp s := by
 refine Den.drop ?_; (refine Den.of_body (C := cx) Tryz.func190 rfl rfl (Nat.le_of_ble_eq_true rfl) ?_; refine wpC_ok (V := [0,1,4,5,47]) _ _ _ _ ?_; simp only [go_sem,Tryz.ntmps190,Tryz.f190])
 refine Ex.loop (ι := Nat) (fun n => [(0,.ptr r 0),(1,.int .i64 j),(5,.int .i64 (n : Nat))]) (fun _ => s)
  (fun n => j + n ≤ w.length ∧ ((w.drop j).takeWhile fun c => isPart c.toNat).length = n + ((w.drop (j + n)).takeWhile fun c => isPart c.toNat).length) (fun n => w.length - (j + n)) 0 ⟨hj,by simp⟩ ?_ (St.ge.refl s) ?_
 ·simp only [go_sem,hr]
  try rfl
 rintro n ⟨hn,he⟩;refine wpC_ok (V := [0,1,4,5,47]) _ _ _ _ ?_;have e2 : IntKind.i64.wrap ((j : Int) + (n : Int)) = ((j + n : Nat) : Int) := by rw [wrap_in _ (by omega) (by omega)]; omega
 have e3 : IntKind.i64.wrap ((n : Int) + 1) = ((n + 1 : Nat) : Int) := wrap1 n (by omega);by_cases hlt : j + n < w.length
 ·have d1 : decide (j + n < w.length) = true := decide_eq_true hlt;obtain ⟨d,v,hdr⟩ : ∃ d v,w.drop (j + n) = d :: v := ⟨_,_,List.drop_eq_getElem_cons hlt⟩
  have hd : w[j + n]? = some d := by
   have := congrArg (·[0]?) hdr;simpa using this
  have hdr2 : w.drop (j + (n + 1)) = v := by
   rw [show j + (n + 1) = j + n + 1 from rfl,← List.drop_drop,hdr]; rfl
  have fin : isPart d.toNat = true → j + (n + 1) ≤ w.length ∧ ((w.drop j).takeWhile fun c => isPart c.toNat).length = n + 1 + ((w.drop (j + (n + 1))).takeWhile fun c => isPart c.toNat).length := fun hp => by
   refine ⟨by omega,?_⟩;rw [he,hdr,List.takeWhile_cons_of_pos (p := fun c : UInt8 => isPart c.toNat) hp,List.length_cons,hdr2]; omega
  have stop : isPart d.toNat = false → ((w.drop j).takeWhile fun c => isPart c.toNat).length = n := fun hp => by
   rw [he,hdr,List.takeWhile_cons_of_neg (p := fun c : UInt8 => isPart c.toNat) (by simp only [hp]; decide)]; rfl
  have ep := isPart_eq (d.toNat : Int);simp only [go_sem,hr,e2,d1,hd,hlt];refine letter189_den _ _ _ _ ?_;simp only [go_sem,hr];cases hL : isLet (d.toNat : Int) with
  | true =>
   rw [hL,Bool.true_or] at ep;simp only [go_sem,hr,e3];exact ⟨n + 1,fin ep,by omega,rfl,St.ge.refl _⟩
  | false =>
   rw [hL,Bool.false_or] at ep;simp only [go_sem,hr,e2,hd,hlt];refine digit193_den _ _ _ _ ?_;simp only [go_sem,hr];cases hD : isDig (d.toNat : Int) with
   | true =>
    rw [hD,Bool.true_or] at ep;simp only [go_sem,hr,e3];exact ⟨n + 1,fin ep,by omega,rfl,St.ge.refl _⟩
   | false =>
    rw [hD,Bool.false_or] at ep;simp only [go_sem,hr,e2,hd,hlt];cases hU : decide ((d.toNat : Int) = 95) with
    | true =>
     rw [hU] at ep;simp only [go_sem,hr,hU,e3];exact ⟨n + 1,fin ep,by omega,rfl,St.ge.refl _⟩
    | false =>
     rw [hU] at ep;rw [stop ep] at hk;simp only [go_sem,hr,hU];exact DK.here hk
 ·have d1 : decide (j + n < w.length) = false := decide_eq_false hlt;simp only [go_sem,hr,e2,d1];have : j + n = w.length := by omega
  rw [he,this,List.drop_length] at hk;exact DK.here hk
end
end Go.AV
end
