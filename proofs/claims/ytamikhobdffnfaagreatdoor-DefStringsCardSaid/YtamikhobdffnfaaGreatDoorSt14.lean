/-
  Of DefStrings.
-/
import Derived.Lib.Bytealg
import Derived.Test.YtamikhobdffnfaaGreatDoorSt09
import Derived.Laws.Externs
set_option linter.all false
set_option maxRecDepth 99999
set_option maxHeartbeats 0
namespace Go.AV
open Go Go.Proofs Tryz
attribute [go_sem] Nat.reduceLT Nat.reduceEqDiff Nat.reduceBEq Nat.reduceAdd Nat.reduceLeDiff Nat.reduceMul reduceIte reduceCtorEq List.map fM lC List.elem oH qH dW eX bG aD aG iJ List.getElem?_cons_succ fF Nat.add_zero bP bO oF nK List.take_succ_cons List.take_zero List.drop_succ_cons List.take_nil Nat.succ_eq_add_one oI Int.toNat_zero Nat.sub_zero Nat.zero_lt_succ iF eZ gY fL
abbrev aB:=List UInt8
structure Fault where
 code:Int
 name:aB
 line:Int
 col:Int
 deriving DecidableEq
def Fault.none:Fault:=⟨0,[],0,0⟩
def Fault.cs (f:Fault):List A:=[.int .i64 f.code,.str f.name,.int .i64 f.line,.int .i64 f.col]
def Fault.enc (f:Fault):A:=.agg f.cs
structure Tok where
 kind:Int
 text:aB
 n:Int
 line:Int
 col:Int
 deriving DecidableEq
def Tok.cs (t:Tok):List A:=[.int .i64 t.kind,.str t.text,.int .i64 t.n,.int .i64 t.line,.int .i64 t.col]
def Tok.enc (t:Tok):A:=.agg t.cs
inductive Tm where
 | mk (kind n:Int) (text sort:aB) (kids rest:List Tm)
def Tm.kind:Tm→Int|.mk k _ _ _ _ _=>k
def Tm.n:Tm→Int|.mk _ n _ _ _ _=>n
def Tm.text:Tm→aB|.mk _ _ t _ _ _=>t
def Tm.sort:Tm→aB|.mk _ _ _ s _ _=>s
def Tm.kids:Tm→List Tm|.mk _ _ _ _ ks _=>ks
def Tm.rest:Tm→List Tm|.mk _ _ _ _ _ rs=>rs
mutual
def Tm.enc:Tm→A
 | .mk k n t s ks rs=>.agg [.int .i64 k,.int .i64 n,.str t,.str s,.list none (wI ks),.list none (wI rs)]
def wI:List Tm→List A
 | []=>[]
 | t::r=>t.enc::wI r
end
theorem aDX:∀ l:List Tm,wI l=l.map Tm.enc
 | []=>rfl
 | t::r=>by rw[wI,aDX r];rfl
def Tm.cs (t:Tm):List A:=[.int .i64 t.kind,.int .i64 t.n,.str t.text,.str t.sort,.list none (t.kids.map Tm.enc),.list none (t.rest.map Tm.enc)]
theorem Tm.enc_eq (t:Tm):t.enc=.agg t.cs:=by
 cases t;simp only[Tm.enc,Tm.cs,Tm.kind,Tm.n,Tm.text,Tm.sort,Tm.kids,Tm.rest,aDX]
structure Below where
 low:aB
 high:aB
 deriving DecidableEq
def Below.cs (b:Below):List A:=[.str b.low,.str b.high]
def Below.enc (b:Below):A:=.agg b.cs
structure Piece where
 text:aB
 sort:aB
 deriving DecidableEq
def Piece.cs (b:Piece):List A:=[.str b.text,.str b.sort]
def Piece.enc (b:Piece):A:=.agg b.cs
structure Opr where
 name:aB
 args:List aB
 sort:aB
 pieces:List Piece
 prec:Int
 assoc:Int
 strict:List Int
 deriving DecidableEq
def Opr.cs (o:Opr):List A:=[.str o.name,.list none (o.args.map .str),.str o.sort,.list none (o.pieces.map Piece.enc),.int .i64 o.prec,.int .i64 o.assoc,.list none (o.strict.map (.int .i64))]
def Opr.enc (o:Opr):A:=.agg o.cs
structure Sig where
 sorts:List aB
 below:List Below
 ops:List Opr
 funs:List Opr
 values:List aB
def Sig.cs (s:Sig):List A:=[.list none (s.sorts.map .str),.list none (s.below.map Below.enc),.list none (s.ops.map Opr.enc),.list none (s.funs.map Opr.enc),.list none (s.values.map .str)]
def Sig.enc (s:Sig):A:=.agg s.cs
structure Eqn where
 left:Tm
 right:Tm
 cond:List Tm
 line:Int
 col:Int
def Eqn.cs (e:Eqn):List A:=e.left.cs++(e.right.cs++[.list none (e.cond.map Tm.enc),.int .i64 e.line,.int .i64 e.col])
def Eqn.enc (e:Eqn):A:=.agg e.cs
structure Cel where
 name:aB
 sort:aB
 init:Tm
 line:Int
 col:Int
def Cel.cs (c:Cel):List A:=.str c.name::.str c.sort::(c.init.cs++[.int .i64 c.line,.int .i64 c.col])
def Cel.enc (c:Cel):A:=.agg c.cs
structure Part where
 cell:aB
 at_:aB
 left:Tm
 right:List Tm
 line:Int
 col:Int
def Part.cs (p:Part):List A:=.str p.cell::.str p.at_::(p.left.cs++[.list none (p.right.map Tm.enc),.int .i64 p.line,.int .i64 p.col])
def Part.enc (p:Part):A:=.agg p.cs
structure Fresh where
 cells:List Tm
def Fresh.cs (f:Fresh):List A:=[.list none (f.cells.map Tm.enc)]
def Fresh.enc (f:Fresh):A:=.agg f.cs
structure Rul where
 name:aB
 parts:List Part
 cond:List Tm
 new:List Fresh
 drop:List aB
 line:Int
 col:Int
def Rul.cs (r:Rul):List A:=[.str r.name,.list none (r.parts.map Part.enc),.list none (r.cond.map Tm.enc),.list none (r.new.map Fresh.enc),.list none (r.drop.map .str),.int .i64 r.line,.int .i64 r.col]
def Rul.enc (r:Rul):A:=.agg r.cs
structure Dfn where
 name:aB
 sig:Sig
 eqs:List Eqn
 once:List Cel
 kind:aB
 many:List Cel
 rules:List Rul
 start:aB
 watch:aB
def Dfn.cs (d:Dfn):List A:=.str d.name::(d.sig.cs++[.list none (d.eqs.map Eqn.enc),.list none (d.once.map Cel.enc),.str d.kind,.list none (d.many.map Cel.enc),.list none (d.rules.map Rul.enc),.str d.start,.str d.watch])
def Dfn.enc (d:Dfn):A:=.agg d.cs
attribute [go_sem] Fault.enc Fault.cs Tok.enc Tok.cs Tm.enc_eq Tm.cs Below.enc Below.cs Piece.enc Piece.cs Opr.enc Opr.cs Sig.enc Sig.cs Eqn.enc Eqn.cs Cel.enc Cel.cs Part.enc Part.cs Fresh.enc Fresh.cs Rul.enc Rul.cs Dfn.enc Dfn.cs
mutual
def Tm.same:Tm→Tm→Bool
 | .mk k n t s ks rs,.mk k' n' t' s' ks' rs'=>decide (k=k')&&(decide (n=n')&&(decide (t=t')&&(decide (s=s')&&(rV ks ks'&&rV rs rs'))))
def rV:List Tm→List Tm→Bool
 | [],[]=>true
 | a::l,b::r=>Tm.same a b&&rV l r
 | _,_=>false
end
theorem aIs {t x:Tm} (h:x∈t.kids):SizeOf.sizeOf x<SizeOf.sizeOf t:=by
 cases t;have:=List.sizeOf_lt_of_mem h;simp only[Tm.kids] at this;simp only[Tm.mk.sizeOf_spec];omega
theorem aIB {t x:Tm} (h:x∈t.rest):SizeOf.sizeOf x<SizeOf.sizeOf t:=by
 cases t;have:=List.sizeOf_lt_of_mem h;simp only[Tm.rest] at this;simp only[Tm.mk.sizeOf_spec];omega
def bY:=@Tm.enc_eq
def oR (c:Int):Bool:=(decide (97≤c)&&decide (c≤122))||(decide (65≤c)&&decide (c≤90))
def eM (c:Int):Bool:=oR c||((decide (48≤c)&&decide (c≤57))||decide (c=95))
def cK (s:List UInt8):Bool:=match s with
 | []=>false
 | c::_=>decide (s.length≤40)&&(oR c.toNat&&s.all fun c=>eM c.toNat)
def jW (x p:aB):Bool:=decide (p.length≤x.length)&&decide (x.take p.length=p)
def lE (x:aB) (c:UInt8):Nat→Int
 | 0=>-1
 | n+1=>if x[n]?=some c then n else lE x c n
def eU (c:Int):Bool:=decide (48≤c)&&decide (c≤57)
def cU:Nat × Nat→aB→Nat × Nat
 | p,[]=>p
 | (l,c),b::r=>if b=10 then cU (l+1,1) r else cU (l,c+1) r
def kL (b:UInt8):Bool:=decide (b=32)||(decide (b=9)||(decide (b=10)||decide (b=13)))
def kS:Nat→aB→Nat
 | 0,_=>0
 | _+1,[]=>0
 | f+1,b::r=>if kL b=true then 1+kS f r
  else if jW (b::r) [47,47]=true then ((b::r).takeWhile (fun c=>!decide (c=10))).length+kS f ((b::r).drop ((b::r).takeWhile (fun c=>!decide (c=10))).length)
  else 0
def dC (w:aB):Nat:=kS w.length w
def iA (b:UInt8):Bool:=decide (32≤b.toNat)&&(decide (b.toNat≤126)&&(!decide (b=34)&&!decide (b=92)))
def kP (x:aB):Bool:=x.all iA&&decide (x.length≤200)
def jP (c:UInt8) (b:UInt8):Bool:=decide (b=c)
def dS (x:aB):Nat:=x.foldl (fun n d=>n * 10+(d.toNat-48)) 0
def sC (x:aB):Prop:=∀ d,d∈x→48≤d.toNat∧d.toNat≤57
def mW (x:aB):Tok × Nat × Bool :=
 let n:=(x.takeWhile fun c=>eU c.toNat).length
 let g:=(x.take n).dropWhile (jP 48)
 if 10<g.length∨(∃ c,x[n]?=some c∧eM c.toNat=true) then (⟨0,[],0,0,0⟩,0,false)
 else (⟨2,[],dS g,0,0⟩,n,decide (dS g≤2147483647))
def jA (w:aB):List aB→Nat→Nat
 | [],n=>n
 | x::r,n=>jA w r (if n<x.length∧jW w x=true then x.length else n)
def dZ (w:aB) (sg:List aB) (op:Bool):Tok × Nat × Bool :=
 match w with
 | []=>(⟨0,[],0,0,0⟩,0,false)
 | c::r =>
  if cK [c] then
   let n:=(w.takeWhile fun c=>eM c.toNat).length
   (⟨1,w.take n,0,0,0⟩,n,decide (n≤40))
  else if eU c.toNat then mW w
  else if c=34 then
   let n:=(Lib.indexByte r 34+2).toNat
   (⟨3,r.take (n-2),0,0,0⟩,n,decide (1<n)&&kP (r.take (n-2)))
  else
   let n:=jA w sg 0
   let n:=if n=0∧op=true∧(c=39∨c=95) then 1 else n
   (⟨4,w.take n,0,0,0⟩,n,decide (0<n))
def aLc:List UInt8:=[97,100,100,32,115,117,98,32,109,117,108,32,100,105,118,32,109,111,100,32,110,101,103,32,108,116,32,108,101,32,103,116,32,103,101,32,101,113,32,110,101,32,97,110,100,32,111,114,32,110,111,116,32,112,105,99,107,32,99,97,116,32,108,101,110,103,116,104,32,116,101,120,116,32,106,111,105,110,32,103,101,116,32,112,117,116,32,104,97,115,32,100,101,108,32,107,101,121,115,32,115,105,122,101,32,105,115,32,105,115,118,97,108,117,101]
def yS:List (List UInt8):=[[97,100,100],[115,117,98],[109,117,108],[100,105,118],[109,111,100],[110,101,103],[108,116],[108,101],[103,116],[103,101],[101,113],[110,101],[97,110,100],[111,114],[110,111,116],[112,105,99,107],[99,97,116],[108,101,110,103,116,104],[116,101,120,116],[106,111,105,110],[103,101,116],[112,117,116],[104,97,115],[100,101,108],[107,101,121,115],[115,105,122,101],[105,115],[105,115,118,97,108,117,101]]
def aMC:List UInt8:=[61,62,32,45,62,32,58,32,59,32,44,32,46,32,64,32,124,32,40,32,41,32,91,32,93,32,123,32,125,32,60,32,61,32,45,32,36]
def cR:List (List UInt8):=[[61,62],[45,62],[58],[59],[44],[46],[64],[124],[40],[41],[91],[93],[123],[125],[60],[61],[45],[36]]
def aJM:List UInt8:=[108,97,110,103,117,97,103,101,32,115,111,114,116,32,115,117,98,115,111,114,116,32,118,97,108,117,101,32,111,112,32,102,117,110,32,108,101,116,32,105,102,32,115,116,97,114,116,32,99,101,108,108,32,109,97,110,121,32,119,97,116,99,104,32,114,117,108,101,32,112,114,101,99,32,108,101,102,116,32,114,105,103,104,116,32,115,116,114,105,99,116,32,110,101,119,32,100,114,111,112,32,116,114,117,101,32,102,97,108,115,101]
def dE:List (List UInt8):=[[108,97,110,103,117,97,103,101],[115,111,114,116],[115,117,98,115,111,114,116],[118,97,108,117,101],[111,112],[102,117,110],[108,101,116],[105,102],[115,116,97,114,116],[99,101,108,108],[109,97,110,121],[119,97,116,99,104],[114,117,108,101],[112,114,101,99],[108,101,102,116],[114,105,103,104,116],[115,116,114,105,99,116],[110,101,119],[100,114,111,112],[116,114,117,101],[102,97,108,115,101]]
inductive Lx where
 | ok (l:List Tok)
 | bad (f:Fault)
def jZ (sg:List aB) (op:Bool):Nat→aB→Nat × Nat→List Tok→Lx
 | _,[],_,acc=>.ok acc
 | 0,_::_,_,acc=>.ok acc
 | f+1,c::r,p,acc=>match dZ (c::r) sg op with
  | (t,n,true)=>jZ sg op f (((c::r).drop n).drop (dC ((c::r).drop n))) (cU (cU p ((c::r).take n)) (((c::r).drop n).take (dC ((c::r).drop n))))
    (acc++[⟨t.kind,t.text,t.n,p.1,p.2⟩])
  | (_,_,false)=>.bad ⟨10,[c],p.1,p.2⟩
def jG (sg:List aB) (op:Bool) (w:aB):Lx:=jZ sg op w.length (w.drop (dC w)) (cU (1,1) (w.take (dC w))) []
@[go_sem] theorem aRy:cx.det=false:=rfl
@[go_sem] theorem aQr (x:A) (l:List A):uV (x::l)=.list none (x::l):=rfl
@[go_sem] theorem aQ1:uV []=.emp:=rfl
def gs (s:St) (tk:Option Nat) (n:Nat) (e:TypeId):St:=match tk with
 | none=>s
 | some t=>s.setT t (n,e)
@[go_sem] theorem aR (s:St) (tk:Option Nat) (n:Nat) (e:TypeId) (b:Nat):(gs s tk n e).getO b=s.getO b:=by cases tk<;>rfl
@[go_sem] theorem zN (s:St) (tk:Option Nat) (n:Nat) (e:TypeId) (b:Nat) (o:Ob):(gs s tk n e).setO b o=gs (s.setO b o) tk n e:=by cases tk<;>rfl
@[go_sem] theorem aQB (s:St) (t:Nat) (v:Nat × TypeId) (b:Nat) (o:Ob):(s.setT t v).setO b o=(s.setO b o).setT t v:=rfl
attribute [go_sem] gV cP
@[go_sem] theorem aQp (s:St) (t b:Nat):(s.delT t).getO b=s.getO b:=rfl
@[go_sem] theorem aQs (s:St) (x:Option (Nat × Nat × A)) (b:Nat) (o:Ob):(s.setL x).setO b o=(s.setO b o).setL x:=rfl
@[go_sem] theorem aQn (s:St) (t:Nat) (b:Nat) (o:Ob):(s.delT t).setO b o=(s.setO b o).delT t:=rfl
@[go_sem] theorem aQ9 (s:St) (x:Option (Nat × Nat × A)):(s.setL x).ls=x:=rfl
theorem jD {s:St} {tk:Option Nat} {n:Nat} {e:TypeId} (h:tk=none→n=0):mL (gs s tk n e) tk n e:=by
 cases tk with
 | none=>exact h rfl
 | some t=>simp only[mL,gs,bT,if_pos]
theorem mY {s:St} {tk:Option Nat} {n:Nat} {e:TypeId} {t:Nat} (h:tk=some t∨tk=none∧(gs s tk n e).getT t=none) (v:Nat × TypeId):(gs s tk n e).setT t v=s.setT t v:=by
 rcases h with rfl|⟨rfl,_⟩
 ·simp only[gs,St.setT,aCn]
 ·rfl
theorem oN {s:St} {tk:Option Nat} {n:Nat} {e:TypeId} {t:Nat} (h:tk=some t∨tk=none∧(gs s tk n e).getT t=none) (hf:∀ t,tk=some t→s.getT t=none):s.getT t=none:=by
 rcases h with rfl|⟨rfl,h⟩
 ·exact hf t rfl
 ·exact h
theorem aHa {s s':St} (hs:s.ge s') {tk:Option Nat} {n:Nat} {e:TypeId} (h:∀ t,tk=some t→s.getT t=none):(gs s tk n e).ge s':=by
 cases tk with
 | none=>exact hs
 | some t =>
  refine ⟨fun b o ho=>hs.ob b o ho,fun u m hm=>?_,fun x hx=>hs.ls x hx⟩;have h1:=hs.tk u m hm;have h2:=h t rfl;simp only[gs,bT];by_cases htu:t=u
  ·subst htu;rw[h2] at h1;cases h1
  ·simp only[htu,if_false];exact h1
theorem eT (s:St) (tk:Option Nat) (n:Nat) (e:TypeId) (t:Nat):(gs s tk n e).getT t=if tk=some t then some (n,e) else s.getT t:=by
 cases tk with
 | none=>rfl
 | some u=>simp only[gs,bT,aP]
theorem aFE {s s':St} {tk:Option Nat} {n:Nat} {e:TypeId} (ho:∀ b o,s'.getO b=some o→s.getO b=some o) (hl:∀ x,s'.ls=some x→s.ls=some x)
  (ht:∀ t m,tk≠some t→s'.getT t=some m→s.getT t=some m):(gs s tk n e).ge (gs s' tk n e):=by
 refine ⟨fun b o h=>by rw[aR] at h ⊢;exact ho b o h,fun t m h=>?_,fun x h=>by cases tk<;>exact hl x h⟩;rw[eT] at h ⊢;by_cases e:tk=some t
 ·rw[if_pos e] at h ⊢;exact h
 ·rw[if_neg e] at h ⊢;exact ht t m e h
theorem aCB {s:St} {tk:Option Nat} {n:Nat} {e:TypeId} {t:Nat} {v:Nat × TypeId} (h:tk≠some t):((gs s tk n e).setT t v).ge (gs (s.setT t v) tk n e):=by
 refine ⟨fun b o h=>by rw[aR] at h;rw[gV,aR];exact h,fun u m hm=>?_,fun x hx=>by cases tk<;>exact hx⟩;rw[eT,bT] at hm;rw[bT,eT];by_cases htu:t=u
 ·subst htu;rw[if_neg h,if_pos rfl] at hm;rw[if_pos rfl];exact hm
 ·rw[if_neg htu] at hm ⊢;exact hm
theorem aEb {Y:St} {t n0 n:Nat} {e0 e:TypeId} {v:Nat × TypeId} {x:Option (Nat × Nat × A)}:((((gs Y none n0 e0).setT t v).setT t (n,e)).setL x).ge ((gs Y (some t) n e).setL none):=by
 refine ⟨fun b o h=>h,fun a m h=>?_,fun y h=>by cases h⟩;simp only[gs,rN,bT] at h ⊢;split at h
 ·rename_i e;rw[if_pos e];exact h
 ·rename_i e;rw[if_neg e,if_neg e];exact h
theorem aBs {Y:St} {u t n0 n:Nat} {e0 e:TypeId} {v:Nat × TypeId} {x:Option (Nat × Nat × A)} (hu:Y.getT u=none):(((((gs Y (some u) n0 e0).delT u).setT t v).setT t (n,e)).setL x).ge ((gs Y (some t) n e).setL none):=by
 refine ⟨fun b o h=>h,fun a m h=>?_,fun y h=>by cases h⟩;simp only[gs,rN,bT,mN] at h ⊢;split at h
 ·rename_i e;rw[if_pos e];exact h
 ·rename_i e;rw[if_neg e];by_cases hau:a=u
  ·subst hau;rw[hu] at h;cases h
  ·simp only[e,hau,Ne.symm hau,if_false];exact h
theorem yZ {Y s:St} {u t n:Nat} {e:TypeId} (ht:((gs Y (some u) n e).delT u).getT t=none) (hu:s.getT u=none) (hY:∀ t,Y.getT t=s.getT t):s.getT t=none:=by
 by_cases htu:t=u
 ·subst htu;exact hu
 ·simp only[gs,mN,bT,if_neg htu,if_neg (Ne.symm htu)] at ht;rw[← hY];exact ht
theorem aE7 {Y s:St} {u t n:Nat} {e:TypeId} {l:Option (Nat × Nat × A)} (ht:(((gs Y (some u) n e).setL l).delT u).getT t=none) (hu:s.getT u=none) (hY:∀ t,Y.getT t=s.getT t):s.getT t=none:=yZ (Y:=Y) ht hu hY
theorem aEv {Y Z:St} {u t n0 n n':Nat} {e0 e:TypeId} {v:Nat × TypeId} {x l:Option (Nat × Nat × A)} (hu:Y.getT u=none) (hO:∀ b o,Z.getO b=some o→Y.getO b=some o) (hT:∀ t,Z.getT t=Y.getT t) (hn:n'=n) :
  ((((((gs Y (some u) n0 e0).setL l).delT u).setT t v).setT t (n',e)).setL x).ge ((gs Z (some t) n e).setL none):=by
 subst hn;refine ⟨fun b o h=>hO b o h,fun a m h=>?_,fun w h=>by cases h⟩;simp only[gs,rN,bT,mN] at h ⊢;split at h
 ·rename_i e;rw[if_pos e];exact h
 ·rename_i e;rw[hT] at h;by_cases hau:a=u
  ·subst hau;rw[hu] at h;cases h
  ·simp only[e,hau,Ne.symm hau,if_false];exact h
theorem aCq {Y Z:St} {t n:Nat} {e:TypeId} (hO:∀ b o,Z.getO b=some o→Y.getO b=some o) (hT:∀ t,Z.getT t=Y.getT t):((gs Y (some t) n e).setL none).ge ((gs Z (some t) n e).setL none) :=
 ⟨fun b o h => hO b o h,fun a m h => by
  simp only[gs,rN,bT] at h ⊢;rw[hT] at h;exact h,fun y h=>by cases h⟩
theorem mQ {s:St} {b c:Nat} {o:Ob} (h:(s.setO c o).getO b=none):b≠c∧s.getO b=none:=by
 rw[aE] at h;by_cases e:c=b
 ·rw[if_pos e] at h;cases h
 ·rw[if_neg e] at h;exact ⟨fun x=>e x.symm,h⟩
theorem mZ (tk:Option Nat) (es:List A) (h:tk=none→es=[]):A.le (gv tk es) (.list none es):=by
 cases tk with
 | none=>rw[h rfl];exact A.le.nil
 | some t=>exact A.le.forget _ _
theorem aJv {s s2:St} {t:Nat} {v:Nat × TypeId} (h:s.ge s2):(s.setT t v).ge (s2.setT t v):=by
 refine ⟨fun b o ho=>h.ob b o ho,fun u m hm=>?_,fun x hx=>h.ls x hx⟩;rw[bT] at hm ⊢;split
 ·rename_i e;rw[if_pos e] at hm;exact hm
 ·rename_i e;rw[if_neg e] at hm;exact h.tk u m hm
theorem mP {s s2:St} {b:Nat} {o:Ob} (h:s.ge s2):(s.setO b o).ge (s2.setO b o):=by
 refine ⟨fun c x ho=>?_,fun u m hm=>h.tk u m hm,fun x hx=>h.ls x hx⟩;rw[aE] at ho ⊢;split
 ·rename_i e;rw[if_pos e] at ho;exact ho
 ·rename_i e;rw[if_neg e] at ho;exact h.ob c x ho
theorem xW (s:St) (t:Nat) (v u:Nat × TypeId):((s.setT t v).setT t u).ge (s.setT t u):=by
 refine ⟨fun b o h=>h,fun x m hm=>?_,fun x h=>h⟩;rw[bT] at hm ⊢;split
 ·rename_i e;rw[if_pos e] at hm;exact hm
 ·rename_i e;rw[if_neg e] at hm;rw[bT,if_neg e];exact hm
theorem rO {s:St} {t:Nat} {v:Nat × TypeId} (h:s.getT t=none):(s.setT t v).ge s:=by
 refine ⟨fun b o h=>h,fun x m hm=>?_,fun x h=>h⟩;rw[bT];by_cases e:t=x
 ·subst e;rw[h] at hm;cases hm
 ·rw[if_neg e];exact hm
theorem aJT {X:St} {r q:Nat} {A' B' C':Ob} (hq:X.getO q=none) (_:q≠r):(((X.setO r A').setO q B').setO r C').ge (X.setO r C'):=by
 refine ⟨fun d x hx=>?_,fun u m hm=>hm,fun x hx=>hx⟩;rw[aE] at hx ⊢;by_cases h1:r=d
 ·rw[if_pos h1] at hx ⊢;exact hx
 ·rw[if_neg h1] at hx ⊢;rw[aE];by_cases h2:q=d
  ·subst h2;rw[hq] at hx;cases hx
  ·rw[if_neg h2,aE,if_neg h1];exact hx
structure St.gx (s1 s:St) (r:Nat):Prop where
 ob:∀ c,c≠r→∀ x,s.getO c=some x→s1.getO c=some x
 tk:∀ t m,s.getT t=some m→s1.getT t=some m
 ls:∀ x,s.ls=some x→s1.ls=some x
theorem dJ (s:St) (r:Nat):s.gx s r:=⟨fun _ _ _ h=>h,fun _ _ h=>h,fun _ h=>h⟩
theorem dA {s1 s:St} {r:Nat} {o:Ob} (h:s1.gx s r):(s1.setO r o).gx s r :=
 ⟨fun c hc x hx=>by rw[aE,if_neg (Ne.symm hc)];exact h.ob c hc x hx,h.tk,h.ls⟩
theorem bQ {s1 s:St} {r b:Nat} {o:Ob} (hb:s.getO b=none) (h:s1.gx s r):(s1.setO b o).gx s r :=
 ⟨fun c hc x hx => by
  rw[aE];by_cases hbc:b=c
  ·subst hbc;rw[hb] at hx;cases hx
  ·rw[if_neg hbc];exact h.ob c hc x hx,h.tk,h.ls⟩
theorem aCp {s1 s:St} {r t:Nat} {v:Nat × TypeId} (ht:s.getT t=none) (h:s1.gx s r):(s1.setT t v).gx s r :=
 ⟨h.ob,fun u m hm => by
  rw[bT];by_cases htu:t=u
  ·subst htu;rw[ht] at hm;cases hm
  ·rw[if_neg htu];exact h.tk u m hm,h.ls⟩
theorem St.gx.dropT {s1 s:St} {r t:Nat} {v:Nat × TypeId} (h:s1.gx (s.setT t v) r) (ht:s.getT t=none):s1.gx s r :=
 ⟨h.ob,fun u m hm => h.tk u m (by
  rw[bT];by_cases htu:t=u
  ·subst htu;rw[ht] at hm;cases hm
  ·rw[if_neg htu];exact hm),h.ls⟩
theorem eS {s1 s:St} {r:Nat} {tk:Option Nat} {n:Nat} {e:TypeId} (h:s1.gx s r) (hf:∀ t,tk=some t→s.getT t=none):(gs s1 tk n e).gx s r:=by
 cases tk with
 | none=>exact h
 | some t=>exact aCp (hf t rfl) h
theorem mO {s1 s:St} {r:Nat} {l:Option (Nat × Nat × A)} (h:s1.gx s r) (hl:l=s.ls):(s1.setL l).gx s r :=
 ⟨h.ob,h.tk,fun x hx=>by rw[hl];exact hx⟩
theorem pG {s1 s:St} {r:Nat} {l m:Option (Nat × Nat × A)} (h:s1.gx s r) (hl:l=s.ls):((s1.setL m).setL l).gx s r:=mO (s1:=s1) h hl
theorem St.gx.trans {s2 s1 s:St} {r:Nat} (h:s2.gx s1 r) (h':s1.gx s r):s2.gx s r :=
 ⟨fun c hc x hx=>h.ob c hc x (h'.ob c hc x hx),fun t m hm=>h.tk t m (h'.tk t m hm),fun x hx=>h.ls x (h'.ls x hx)⟩
theorem St.gx.ge {s1 s:St} {r:Nat} {o:Ob} (h:s1.gx s r) (hr:s1.getO r=some o):s1.ge (s.setO r o):=by
 refine ⟨fun c x hx=>?_,h.tk,h.ls⟩;rw[aE] at hx;by_cases hc:r=c
 ·subst hc;rw[if_pos rfl] at hx;rw[hr];exact hx
 ·rw[if_neg hc] at hx;exact h.ob c (Ne.symm hc) x hx
def uY:List A→List A→Prop
 | [],[]=>True
 | a::l,b::r=>rA a.cells b.cells∧uY l r
 | _,_=>False
theorem aCe:∀ {l r:List A},uY l r→l.length=r.length
 | [],[],_=>rfl
 | _::_,_::_,h=>by simp only[aD,aCe h.2]
theorem aCc:∀ {l r:List A},uY l r→∀ (i:Nat) (b:A),r[i]?=some b→∃ a:A,l[i]?=some a∧rA a.cells b.cells
 | a::l,b::r,h,0,x,hx=>by
  simp only[iJ,aP] at hx ⊢;subst hx;exact ⟨a,rfl,h.1⟩
 | a::l,b::r,h,i+1,x,hx=>by
  simp only[List.getElem?_cons_succ] at hx ⊢;exact aCc h.2 i x hx
 | [],[],_,_,_,hx=>by simp at hx
theorem A.le.list {l r:List A} (h:uY l r):A.le (.list none l) (.list none r):=fun g v x=>by
 have hlen:=aCe h;cases x with
 | list tk es b off sz cap pre hp hl hc hm hs h1 hh ht =>
  rw[hlen]
  have key:∀ e,e∈r→∃ (i:Nat) (a:A),l[i]?=some a∧r[i]?=some e∧rA a.cells e.cells:=fun e he=>by
   obtain ⟨i,hi,rfl⟩:=fQ he;obtain ⟨a,h2,h3⟩:=aCc h i _ (bK hi);exact ⟨i,a,h2,bK hi,h3⟩
  refine .list none r b off sz cap pre hp (by rw[← hlen];exact hl) (by rw[← hlen];exact hc) hm (fun e he=>?_) (fun e he c hc=>?_) (fun i e j c v hi hj hv=>?_) (by simp)
  ·obtain ⟨i,a,h2,_,h3⟩:=key e he;rw[← aB4 h3];exact hs a (dP h2)
  ·obtain ⟨i,a,h2,_,h3⟩:=key e he;obtain ⟨j,hj,rfl⟩:=fQ hc;exact (vX h3 j _ (bK hj)).choose_spec.2.2
  ·obtain ⟨a,h2,h3⟩:=aCc h i e hi;obtain ⟨c0,h4,h5,_⟩:=vX h3 j c hj;exact h5 g v (hh i a j c0 v h2 h4 hv)
 | list0 tk a cap hm ht =>
  have:r=[]:=eJ (by rw[← hlen];rfl);subst this;exact .list0 none a cap hm (by simp)
theorem aE8 {C:Cx} {s:St} {f:FuncId} {args:List A} {KV Kp:St→A→Prop} (h:Den C f args (fun s' a=>KV (s'.setL s.ls) a) (fun s' a=>Kp (s'.setL s.ls) a) s):Den C f args KV Kp s:=by
 intro F g w vals hR hv;have key:∀ (g':Gh) (s':St) (w':World),g.le g'→R C.toCtx F g' s' w'→R C.toCtx F g' (s'.setL s.ls) w':=fun g' s' w' h1 h2=>h2.setL fun y hy=>(hR.lst y hy).mono h1
 have:=h F g w vals hR hv;revert this;generalize (callFunc f vals.toArray).run C.P w=r;intro hr;cases r with
 | ok x w' =>
  cases x<;>simp only[OutV] at hr ⊢
  ·obtain ⟨g',a,s',a1,a2,a3,a4⟩:=hr;exact ⟨g',a,_,a1,key _ _ _ a1 a2,a3,a4⟩
  ·obtain ⟨g',s',a1,a2,a3⟩:=hr;exact ⟨g',_,a1,key _ _ _ a1 a2,a3⟩
  ·refine Calls.mono hr fun en w'' hp=>?_
   cases en with
   | returned v=>obtain ⟨g',a,s',a1,a2,a3,a4⟩:=hp;exact ⟨g',a,_,a1,key _ _ _ a1 a2,a3,a4⟩
   | panicked jF=>obtain ⟨g',a,v,s',a0,a1,a2,a3,a4⟩:=hp;exact ⟨g',a,v,_,a0,a1,key _ _ _ a1 a2,a3,a4⟩
   | outgrown=>exact hp
 | halt x w' =>
  cases x<;>simp only[OutV] at hr ⊢
  obtain ⟨g',a,s',a1,a2,a3,a4⟩:=hr;exact ⟨g',a,_,a1,key _ _ _ a1 a2,a3,a4⟩
@[go_sem] theorem aQq (s:St) (x y:Option (Nat × Nat × A)):(s.setL x).setL y=s.setL y:=rfl
theorem mX {f:FuncId} {l:List A} {KV Kp:St→A→Prop} {s:St} (h:Den cx f l KV Kp s):Den kD f l KV Kp s:=by assumption
structure St.gel (s1 s:St) (L M:List Nat):Prop where
 ob:∀ c,c ∉ L→∀ x,s.getO c=some x→s1.getO c=some x
 tk:∀ t,t ∉ M→∀ m,s.getT t=some m→s1.getT t=some m
 ls:∀ x,s.ls=some x→s1.ls=some x
theorem fS (s:St) (L M:List Nat):s.gel s L M:=⟨fun _ _ _ h=>h,fun _ _ _ h=>h,fun _ h=>h⟩
theorem mB {s1 s:St} (h:s1.gel s [] []):s1.ge s:=⟨fun c x hx=>h.ob c (by simp) x hx,fun t m hm=>h.tk t (by simp) m hm,h.ls⟩
theorem aEC {s1 s:St} {r:Nat} (h:s1.gx s r) {L M:List Nat} (hr:r∈L):s1.gel s L M :=
 ⟨fun c hc x hx=>h.ob c (fun e=>hc (e▸hr)) x hx,fun t _ m hm=>h.tk t m hm,h.ls⟩
theorem yF {s1 s:St} (h:s1.ge s) (L M:List Nat):s1.gel s L M:=⟨fun c _ x hx=>h.ob c x hx,fun t _ m hm=>h.tk t m hm,h.ls⟩
theorem St.gel.trans {s2 s1 s:St} {L M:List Nat} (h:s2.gel s1 L M) (h':s1.gel s L M):s2.gel s L M :=
 ⟨fun c hc x hx=>h.ob c hc x (h'.ob c hc x hx),fun t ht m hm=>h.tk t ht m (h'.tk t ht m hm),fun x hx=>h.ls x (h'.ls x hx)⟩
theorem pI {s1 s:St} {L M:List Nat} {b:Nat} {o:Ob} (hb:s1.getO b=some o) (h:s1.gel s (b::L) M):s1.gel (s.setO b o) L M :=
 ⟨fun c hc x hx => by
  rw[aE] at hx;by_cases e:b=c
  ·subst e;rw[if_pos rfl] at hx;rw[hb];exact hx
  ·rw[if_neg e] at hx;exact h.ob c (by simp only[eW,not_or];exact ⟨fun h=>e h.symm,hc⟩) x hx,h.tk,h.ls⟩
theorem aCj {s1 s:St} {L M:List Nat} {t:Nat} {v:Nat × TypeId} (ht:s1.getT t=some v) (h:s1.gel s L (t::M)):s1.gel (s.setT t v) L M :=
 ⟨h.ob,fun u hu m hm => by
  rw[bT] at hm;by_cases e:t=u
  ·subst e;rw[if_pos rfl] at hm;rw[ht];exact hm
  ·rw[if_neg e] at hm;exact h.tk u (by simp only[eW,not_or];exact ⟨fun h=>e h.symm,hu⟩) m hm,h.ls⟩
theorem wU {s1 s:St} {L M:List Nat} {b:Nat} {o:Ob} (hb:b∈L) (h:s1.gel s L M):(s1.setO b o).gel s L M :=
 ⟨fun c hc x hx => by
  rw[aE,if_neg (fun e:b=c=>hc (e▸hb))];exact h.ob c hc x hx,h.tk,h.ls⟩
theorem fN {s1 s:St} {L M:List Nat} {b:Nat} {o:Ob} (hb:s.getO b=none) (h:s1.gel s L M):(s1.setO b o).gel s L M :=
 ⟨fun c hc x hx => by
  rw[aE];by_cases e:b=c
  ·subst e;rw[hb] at hx;cases hx
  ·rw[if_neg e];exact h.ob c hc x hx,h.tk,h.ls⟩
theorem aGv {s1 s:St} {L M:List Nat} {t:Nat} {v:Nat × TypeId} (hb:t∈M) (h:s1.gel s L M):(s1.setT t v).gel s L M :=
 ⟨h.ob,fun c hc x hx => by
  rw[bT,if_neg (fun e:t=c=>hc (e▸hb))];exact h.tk c hc x hx,h.ls⟩
theorem aCa {s1 s:St} {L M:List Nat} {t:Nat} {v:Nat × TypeId} (hb:s.getT t=none) (h:s1.gel s L M):(s1.setT t v).gel s L M :=
 ⟨h.ob,fun c hc x hx => by
  rw[bT];by_cases e:t=c
  ·subst e;rw[hb] at hx;cases hx
  ·rw[if_neg e];exact h.tk c hc x hx,h.ls⟩
theorem aI1 {s1 s:St} {L M:List Nat} {t:Nat} (hb:s.getT t=none) (h:s1.gel s L M):(s1.delT t).gel s L M :=
 ⟨h.ob,fun c hc x hx => by
  rw[mN];by_cases e:c=t
  ·subst e;rw[hb] at hx;cases hx
  ·rw[if_neg e];exact h.tk c hc x hx,h.ls⟩
theorem aFd {s1 s:St} {L M:List Nat} {b:Nat} (hb:s.getO b=none) (h:s1.gel s (b::L) M):s1.gel s L M :=
 ⟨fun c hc x hx => h.ob c (by
  simp only[eW,not_or];exact ⟨fun e=>(by subst e;rw[hb] at hx;cases hx),hc⟩) x hx,h.tk,h.ls⟩
theorem aGG {s1 s:St} {L M:List Nat} {tk:Option Nat} {n:Nat} {e:TypeId} (h:s1.gel s L M) (hf:∀ t,tk=some t→s.getT t=none):(gs s1 tk n e).gel s L M:=by
 cases tk with
 | none=>exact h
 | some t=>exact aCa (hf t rfl) h
theorem yK {s1 s:St} {L M:List Nat} {tk:Option Nat} {n:Nat} {e:TypeId} (hf:∀ t,tk=some t→s1.getT t=some (n,e)) (h:s1.gel s L (tk.toList++M)):s1.gel (gs s tk n e) L M:=by
 cases tk with
 | none=>exact h
 | some t=>exact aCj (hf t rfl) h
theorem aES {s1 s:St} {L M:List Nat} {tk:Option Nat} {n:Nat} {e:TypeId} (h:s1.gel s L M):(gs s1 tk n e).gel (gs s tk n e) L M:=by
 cases tk with
 | none=>exact h
 | some t =>
  refine ⟨h.ob,fun u hu m hm=>?_,h.ls⟩;simp only[gs,bT] at hm ⊢;split
  ·rename_i e;rw[if_pos e] at hm;exact hm
  ·rename_i e;rw[if_neg e] at hm;exact h.tk u hu m hm
theorem aGn {s1:St} {tk:Option Nat} {n:Nat} {e:TypeId}:∀ t,tk=some t→(gs s1 tk n e).getT t=some (n,e):=by
 rintro t rfl;rw[eT,if_pos rfl]
@[go_sem] theorem getT_setO (s:St) (b:Nat) (o:Ob) (t:Nat):(s.setO b o).getT t=s.getT t:=rfl
theorem gB1 {s1 s:St} {L M:List Nat} {tk:Option Nat} {n:Nat} {e:TypeId} (h:s1.gel s L (tk.toList++M)) (hf:∀ t,tk=some t→s1.getT t=some (n,e):=by (rintro _ ⟨⟩;simp only[getT_setO,rN,bT,mN,eT,reduceIte,aK,aD,aG,aS,fF,Nat.add_zero]<;>fail)):s1.gel (gs s tk n e) L M:=yK hf h
theorem gB2 {s1 s:St} {L M:List Nat} {t:Nat} {v:Nat × TypeId} (h:s1.gel s L M) (hb:t∈M:=by (simp only[Option.toList,bP,bO,eW,true_or,or_true]<;>fail)):(s1.setT t v).gel s L M:=aGv hb h
theorem gB3 {s1 s:St} {L M:List Nat} {b:Nat} {o:Ob} (h:s1.gel s L M) (hb:b∈L:=by (simp only[eW,true_or,or_true]<;>fail)):(s1.setO b o).gel s L M:=wU hb h
abbrev dI:=Option Nat × Nat × TypeId
def cX (s:St):List dI→St
 | []=>s
 | o::l=>gs (cX s l) o.1 o.2.1 o.2.2
structure OwnOk (s:St) (l:List dI):Prop where
 free:∀ o,o∈l→∀ t,o.1=some t→s.getT t=none
 nil:∀ o,o∈l→o.1=none→o.2.1=0
 dst:∀ (i j:Nat) (a b:dI) (t:Nat),l[i]?=some a→l[j]?=some b→a.1=some t→b.1=some t→i=j
@[go_sem] theorem aC (s : St) (l : List dI) (b : Nat) : (cX s l).getO b = s.getO b := by
  induction l with
  | nil=>rfl
  | cons o l ih=>simp only[cX,aR,ih]
@[go_sem] theorem rU (s : St) (l : List dI) (b : Nat) (o : Ob) : (cX s l).setO b o = cX (s.setO b o) l := by
  induction l with
  | nil=>rfl
  | cons a l ih=>simp only[cX,zN,ih]
theorem aDa (s:St) (tk:Option Nat) (n:Nat) (e:TypeId):(gs s tk n e).ls=s.ls:=by cases tk<;>rfl
@[go_sem] theorem uI (s : St) (l : List dI) : (cX s l).ls = s.ls := by
  induction l with
  | nil=>rfl
  | cons o l ih=>simp only[cX,aDa,ih]
theorem oM (s:St) (l:List dI) (u:Nat):(cX s l).getT u=match l.find? (fun o=>decide (o.1=some u)) with|some o=>some o.2|none=>s.getT u:=by
 induction l with
 | nil=>rfl
 | cons o l ih =>
  simp only[cX,eT,List.find?];by_cases h:o.1=some u
  ·simp only[h,if_true,oH]
  ·simp only[h,if_false,qH,ih]
theorem aIk {s:St} {l:List dI} (h:OwnOk s l) {k:Nat} {o:dI} (hk:l[k]?=some o) {t:Nat} (ht:o.1=some t):(cX s l).getT t=some o.2:=by
 rw[oM];cases hf:l.find? (fun o=>decide (o.1=some t)) with
 | none =>
  have:=sV.1 hf o (dP hk);simp[ht] at this
 | some a =>
  have h1:=List.find?_some hf;have h2:=xR hf;obtain ⟨j,hj,rfl⟩:=fQ h2;have hj':l[j]?=some l[j]:=bK hj;have:=h.dst j k _ _ t hj' hk (by simpa using h1) ht;subst this;rw[hj'] at hk;cases hk;rfl
theorem aIQ {s:St} {l:List dI} {t:Nat} (h:∀ o,o∈l→o.1≠some t):(cX s l).getT t=s.getT t:=by
 rw[oM,sV.2 (fun o ho=>by simpa using h o ho)]
theorem rX {s:St} {l:List dI} (h:OwnOk s l) {k:Nat} {o:dI} (hk:l[k]?=some o):mL (cX s l) o.1 o.2.1 o.2.2:=by
 obtain ⟨tk,n,e⟩:=o;cases tk with
 | none=>exact h.nil _ (dP hk) rfl
 | some t=>exact aIk h hk rfl
theorem OwnOk.to {s X:St} {l:List dI} (h:OwnOk s l) (hX:∀ t,X.getT t=s.getT t):OwnOk X l:=⟨fun o ho t ht=>by rw[hX];exact h.free o ho t ht,h.nil,h.dst⟩
theorem lV {s X:St} {l:List dI} (h:OwnOk s l) {k:Nat} {o:dI} (hk:l[k]?=some o) (hX:∀ t,X.getT t=s.getT t):mL (cX X l) o.1 o.2.1 o.2.2:=rX (h.to hX) hk
theorem mA {s X:St} {l:List dI} (h:OwnOk s l) {k:Nat} {o:dI} (hk:l[k]?=some o) {t:Nat}
  (ht:o.1=some t∨o.1=none∧(cX X l).getT t=none) (hX:∀ t,X.getT t=s.getT t) (n:Nat):OwnOk s (l.set k (some t,n,o.2.2)):=by
 have hfree:s.getT t=none∧∀ (j:Nat) (a:dI),l[j]?=some a→a.1=some t→j=k:=by
  rcases ht with e|⟨e,e2⟩
  ·exact ⟨h.free o (dP hk) t e,fun j a ha hat=>h.dst j k a o t ha hk hat e⟩
  ·rw[oM] at e2;cases hf:l.find? (fun o=>decide (o.1=some t)) with
   | some a=>rw[hf] at e2;cases e2
   | none =>
    rw[hf] at e2;refine ⟨by rw[← hX];exact e2,fun j a ha hat=>?_⟩;have:=sV.1 hf a (dP ha);simp[hat] at this
 have hlt:k<l.length:=by
  rcases pF k l.length with h|h
  ·exact h
  ·rw[rJ h] at hk;cases hk
 refine ⟨fun a ha u hu=>?_,fun a ha hn=>?_,fun i j a b u hi hj ha hb=>?_⟩
 ·rcases sU ha with ha|rfl
  ·exact h.free a ha u hu
  ·cases hu;exact hfree.1
 ·rcases sU ha with ha|rfl
  ·exact h.nil a ha hn
  ·cases hn
 ·rw[pB] at hi hj;split at hi<;>split at hj
  ·rename_i e1 e2;rw[← e1,← e2]
  ·rename_i e1 e2
   try rw[if_pos hlt] at hi
   cases hi;cases ha;exact (e2 (hfree.2 j b hj hb).symm).elim
  ·rename_i e1 e2
   try rw[if_pos hlt] at hj
   cases hj;cases hb;exact (e1 (hfree.2 i a hi ha).symm).elim
  ·exact h.dst i j a b u hi hj ha hb
theorem lY {s X:St} {l:List dI} (h:OwnOk s l) {k:Nat} {o:dI} (hk:l[k]?=some o) {t n:Nat} (h':OwnOk s (l.set k (some t,n,o.2.2)))
  (hX:∀ t,X.getT t=s.getT t):((cX X l).setT t (n,o.2.2)).ge (cX X (l.set k (some t,n,o.2.2))):=by
 have hlt:k<l.length:=by
  rcases pF k l.length with h|h
  ·exact h
  ·rw[rJ h] at hk;cases hk
 have hk':(l.set k (some t,n,o.2.2))[k]?=some (some t,n,o.2.2):=by rw[pB,if_pos rfl,if_pos hlt]
 refine ⟨fun b o h=>by rw[aC] at h;rw[gV,aC];exact h,fun u m hm=>?_,fun x hx=>by rw[uI] at hx;show (cX X l).ls=_;rw[uI];exact hx⟩;rw[bT];rw[oM] at hm;cases hf:(l.set k (some t,n,o.2.2)).find? (fun o=>decide (o.1=some u)) with
 | some a =>
  rw[hf] at hm;have h1:=List.find?_some hf;have h2:=xR hf;simp only[cG] at h1;obtain ⟨j,hj,e⟩:=fQ h2;have hj':(l.set k (some t,n,o.2.2))[j]?=some a:=by rw[bK hj,e]
  by_cases htu:t=u
  ·subst htu;have:=h'.dst j k a _ t hj' hk' h1 rfl;subst this;rw[hj'] at hk';cases hk';rw[if_pos rfl];exact hm
  ·rw[if_neg htu]
   have hjk:k≠j:=fun e=>by
    subst e;rw[hj'] at hk';cases hk';exact htu (by simpa using h1)
   rw[pB,if_neg hjk] at hj'
   have h3:(cX X l).getT u=some a.2:=by
    rw[oM];cases hf2:l.find? (fun o=>decide (o.1=some u)) with
    | none =>
     have:=sV.1 hf2 a (dP hj');simp[h1] at this
    | some c =>
     have h4:=List.find?_some hf2;simp only[cG] at h4;obtain ⟨i,hi,e⟩:=fQ (xR hf2);have hi':l[i]?=some c:=by rw[bK hi,e]
     have:=h.dst i j c a u hi' hj' h4 h1;subst this;rw[hi'] at hj';cases hj';rfl
   rw[h3];exact hm
 | none =>
  rw[hf] at hm;have hno:=sV.1 hf
  have htu:¬ t=u:=fun e=>by
   have:=hno _ (dP hk');simp[e] at this
  rw[if_neg htu,oM];cases hf2:l.find? (fun o=>decide (o.1=some u)) with
  | none=>exact hm
  | some c =>
   have h4:=List.find?_some hf2;simp only[cG] at h4;have:=h.free c (xR hf2) u h4;rw[← hX] at this;have hm:X.getT u=some m:=hm;rw[this] at hm;cases hm
theorem hU {X Y:St} {l:List dI} (h:X.ge Y):(cX X l).ge (cX Y l):=by
 induction l with
 | nil=>exact h
 | cons o l ih=>exact mB (aES (yF ih _ _))
theorem aGf {X s:St} {l:List dI} {L M:List Nat} (hf:∀ o,o∈l→∀ t,o.1=some t→s.getT t=none) (h:X.gel s L M):(cX X l).gel s L M:=by
 induction l with
 | nil=>exact h
 | cons o l ih=>exact aGG (ih fun a ha=>hf a (by simp[ha])) (hf o (by simp))
theorem aCH {X s:St} {l:List dI} {r:Nat} (hf:∀ o,o∈l→∀ t,o.1=some t→s.getT t=none) (h:X.gx s r):(cX X l).gx s r:=by
 induction l with
 | nil=>exact h
 | cons o l ih=>exact eS (ih fun a ha=>hf a (by simp[ha])) (hf o (by simp))
theorem aFe {s:St} {l:List dI} {s2:St} (hs:s.ge s2) (h:∀ o,o∈l→∀ t,o.1=some t→s2.getT t=none):(cX s l).ge s2:=mB (aGf h (yF hs _ _))
theorem aFl {α:Type} (p:α→Bool) (a:α) (ha:p a=false):∀ (l:List α) (k:Nat),(∀ x,l[k]?=some x→p x=false)→(l.set k a).find? p=l.find? p
 | [],k,h=>by simp
 | x::l,0,h=>by
  have:=h x (by simp);simp only[oF,List.find?,ha,this]
 | x::l,k+1,h=>by
  have ih:=aFl p a ha l k (fun y hy=>h y (by simpa using hy));simp only[nK,List.find?,ih]
theorem aEJ {s X:St} {l:List dI} (h:OwnOk s l) {k:Nat} {o:dI} (hk:l[k]?=some o) (n:Nat) (e:TypeId) (u:Nat) :
  (gs (cX X (l.set k (none,n,e))) o.1 o.2.1 o.2.2).getT u=(cX X l).getT u:=by
 rw[eT];by_cases ho:o.1=some u
 ·rw[if_pos ho,oM];cases hf:l.find? (fun o=>decide (o.1=some u)) with
  | none =>
   have:=sV.1 hf o (dP hk);simp[ho] at this
  | some a =>
   have h1:=List.find?_some hf;obtain ⟨j,hj,e1⟩:=fQ (xR hf);have hj':l[j]?=some a:=by rw[bK hj,e1]
   have:=h.dst j k a o u hj' hk (by simpa using h1) ho;subst this;rw[hj'] at hk;cases hk;rfl
 ·rw[if_neg ho,oM,oM,aFl _ _ (by simp) l k (fun x hx=>by rw[hk] at hx;cases hx;simpa using ho)]
theorem aEH {s X:St} {l:List dI} (h:OwnOk s l) {k:Nat} {o:dI} (hk:l[k]?=some o) (n:Nat) (e:TypeId) :
  (cX X l).ge (gs (cX X (l.set k (none,n,e))) o.1 o.2.1 o.2.2) :=
 ⟨fun b x hb=>by rw[aR,aC] at hb;rw[aC];exact hb,fun u m hm=>by rw[aEJ h hk] at hm;exact hm,fun x hx=>by rw[aDa,uI] at hx;rw[uI];exact hx⟩
theorem aFj {s X:St} {l:List dI} {k:Nat} {tk:Option Nat} {m:Nat} {e:TypeId} (hk:k<l.length) (h:OwnOk s (l.set k (tk,m,e))) (n:Nat) (e':TypeId) :
  (gs (cX X (l.set k (none,n,e'))) tk m e).ge (cX X (l.set k (tk,m,e))):=by
 have hk':(l.set k (tk,m,e))[k]?=some (tk,m,e):=by rw[pB,if_pos rfl,if_pos hk]
 have key:=aEJ (X:=X) h hk' n e';rw[List.set_set] at key;exact ⟨fun b x hb=>by rw[aC] at hb;rw[aR,aC];exact hb,fun u q hq=>by rw[key];exact hq,fun x hx=>by rw[uI] at hx;rw[aDa,uI];exact hx⟩
theorem aF5 {s X:St} {l:List dI} (h:OwnOk s l) {k:Nat} {o:dI} (hk:l[k]?=some o) (n:Nat) (e:TypeId) (hX:∀ t,X.getT t=s.getT t) {t:Nat} (ht:o.1=some t):(cX X (l.set k (none,n,e))).getT t=none:=by
 rw[aIQ,hX]
 ·exact h.free o (dP hk) t ht
 ·intro a ha hat;obtain ⟨j,hj,e1⟩:=fQ ha;have hj':(l.set k (none,n,e))[j]?=some a:=by rw[bK hj,e1]
  rw[pB] at hj';split at hj'
  ·split at hj'
   ·cases hj';cases hat
   ·cases hj'
  ·rename_i e2;exact e2 (h.dst j k a o t hj' hk hat ht).symm
theorem aFH {s X:St} {l:List dI} (h:OwnOk s l) {k:Nat} (hk:k<l.length) (n:Nat) (e e':TypeId) (hX:∀ t,X.getT t=s.getT t) {tk:Option Nat} {m:Nat}
  (hf:∀ t,tk=some t→(cX X (l.set k (none,n,e'))).getT t=none) (hn:tk=none→m=0):OwnOk s (l.set k (tk,m,e)):=by
 have key:∀ t,tk=some t→s.getT t=none∧∀ (j:Nat) (a:dI),j≠k→l[j]?=some a→a.1≠some t:=by
  intro t ht;have h1:=hf t ht;rw[oM] at h1;cases hq:(l.set k (none,n,e')).find? (fun o=>decide (o.1=some t)) with
  | some a=>rw[hq] at h1;cases h1
  | none =>
   rw[hq] at h1;refine ⟨by rw[← hX];exact h1,fun j a hj ha hat=>?_⟩;have h2:(l.set k (none,n,e'))[j]?=some a:=by rw[pB,if_neg (fun e=>hj e.symm)];exact ha
   have:=sV.1 hq a (dP h2);simp[hat] at this
 refine ⟨fun a ha u hu=>?_,fun a ha hn'=>?_,fun i j a b u hi hj ha hb=>?_⟩
 ·rcases sU ha with ha|rfl
  ·exact h.free a ha u hu
  ·exact (key u hu).1
 ·rcases sU ha with ha|rfl
  ·exact h.nil a ha hn'
  ·exact hn hn'
 ·rw[pB] at hi hj;by_cases e1:k=i<;>by_cases e2:k=j
  ·rw[← e1,← e2]
  ·rw[if_pos e1,if_pos hk] at hi;rw[if_neg e2] at hj;cases hi;exact ((key u ha).2 j b (fun e=>e2 e.symm) hj hb).elim
  ·rw[if_neg e1] at hi;rw[if_pos e2,if_pos hk] at hj;cases hj;exact ((key u hb).2 i a (fun e=>e1 e.symm) hi ha).elim
  ·rw[if_neg e1] at hi;rw[if_neg e2] at hj;exact h.dst i j a b u hi hj ha hb
end Go.AV
section
open Go.Proofs.Tryz
namespace Go.AV
open Go Go.Proofs
end Go.AV
end
namespace Go.AV
open Go Go.Proofs Tryz
section
theorem gH {p:Prop} (h:p:=by (simp only[aE,cP,gV,aR,aC,ne_eq,cZ,reduceIte, *]<;>(first|done|rfl|assumption))):p:=h
theorem cN {s1 s:St} (h:s1.ge s:=by (repeat (first|exact bW _|refine mR (by first|(simp only[*];done)|assumption) ?_))):s1.ge s:=h
theorem aF {s1 s:St} {r:Nat} (h:s1.gx s r:=by (repeat (first|refine aCH (by assumption) ?_|exact dJ _ _|refine dA ?_|refine eS ?_ (by assumption)|refine aCp (by assumption) ?_|refine bQ (by first|(simp only[*];done)|assumption) ?_|refine aCp (by first|(simp only[*];done)|assumption) ?_))):s1.gx s r:=h
theorem jI {s1 s:St} {L M:List Nat} (h:s1.gel s L M:=by (repeat (first|exact fS _ _ _|exact yF (by assumption) _ _|refine aGf (by assumption) ?_|refine aES ?_|refine yK aGn ?_|refine gB1 ?_|refine gB2 ?_|refine aGG ?_ (by assumption)|refine aCa (by assumption) ?_|refine pI gH ?_|refine gB3 ?_|refine fN (by first|(simp only[*];done)|assumption) ?_))):s1.gel s L M:=h
theorem bL {s1 s:St} (h:s1.gel s [] []:=by exact jI):s1.ge s:=mB h
theorem aO {f:FuncId} {c:Code} {args:List A} {KV Kp:St→A→Prop} {s:St} {fn:Func} (hf:cx.P.funcs[f]?=some fn) (V:List Nat)
  (h:eO cx fn.ntmps V c (iQ cx fn.results.toList (DK KV) (DK Kp)) (jE 0 args) s)
  (hb:fn.body=some c:=by exact rfl)
  (hname : (fn.name == "runtime.NumGoroutine") = false := by exact rfl) (hn : args.length ≤ fn.ntmps := by exact iB rfl) : Den cx f args KV Kp s :=
 Den.drop (aBw hf hb hname hn (cL _ _ _ _ h))
theorem gBo {f:FuncId} {c:Code} {args:List A} {KV Kp:St→A→Prop} {s:St} {fn:Func} (hf:kD.P.funcs[f]?=some fn) (V:List Nat)
  (h:eO kD fn.ntmps V c (iQ kD fn.results.toList (DK KV) (DK Kp)) (jE 0 args) s)
  (hb:fn.body=some c:=by exact rfl)
  (hname : (fn.name == "runtime.NumGoroutine") = false := by exact rfl) (hn : args.length ≤ fn.ntmps := by exact iB rfl) : Den cx f args KV Kp s :=
 Den.drop (aMc (aBw (C:=kD) hf hb hname hn (cL _ _ _ _ h)))
theorem bA {P:Option A→Prop} {b:Bool} (h1:b=true→P (some (.bool true))) (h2:b=false→P (some (.bool false))):P (some (.bool b)):=by
 cases b
 ·exact h2 rfl
 ·exact h1 rfl
def OT.r:Nat→Nat→OT
 | _,0=>.nil
 | i,k+1=>.node i (OT.r (i+1) k)
attribute [go_sem] OT.r
section
variable {C:Cx} {n:Nat} {ops:Array Oper} {s:St} {Kp:St→A→Prop} {id:Nat} {V:List Nat} {Q0:XK→Env→St→Prop} {e:Env}
theorem bF (t:OT) (E:List (Nat × List Nat))
  (h:eG C n (ops.toList.map (·.dst)) ops.toList E (jM V Q0) (pP Q0 (ops.toList.map (·.dst)) e) t [] e s)
  (hm:C.P.follows .mixedOrders=true:=by exact aFp)
  (hck:(sP ops E&&kV ops ops.size (Array.replicate ops.size false) t&&pJ C.tt ops)=true:=by decide +kernel) :
  aAe C n id ops (jO (jM V Q0) Q0) e s:=aLS t E hm hck h
end
end
theorem aDK (s:St) (c:Int) (KV Kp) (hk:KV s (.bool (oR c))):Den cx 261 [.int .u8 c] KV Kp s:=by
 unfold oR at hk;(refine aO func261 [0,2] ?_;simp only[go_sem,ntmps261,f261])
 (repeat' (first|exact aH hk cN|((refine bA (fun h=>?_) (fun h=>?_))<;>simp only[go_sem,h]<;>(try simp only[h,eZ,fL,iF,gY,kJ,kI,kH,gZ,dW,eX] at hk))))
theorem aBz (s:St) (c:Int) (KV Kp) (hk:KV s (.bool (eM c))):Den cx 185 [.int .u8 c] KV Kp s:=by
 unfold eM at hk;(refine aO func185 [0,2] ?_;simp only[go_sem,ntmps185,f185])
 (repeat' (first|exact aH hk cN|(refine aDK _ _ _ _ ?_;simp only[go_sem])|((refine bA (fun h=>?_) (fun h=>?_))<;>simp only[go_sem,h]<;>(try simp only[h,eZ,fL,iF,gY,kJ,kI,kH,gZ,dW,eX] at hk))))
theorem vT (s:St) (x:List UInt8) (KV Kp) (hk:KV s (.bool (cK x))):Den cx 196 [.str x] KV Kp s:=by
 (refine aO func196 [0,2,3,16,18,19,20,26] ?_;simp only[go_sem,ntmps196,f196]);(refine bA (fun h=>?_) (fun h=>?_))<;>simp only[go_sem,h]
 ·have:x=[]:=by simpa using h
  subst this;exact aY hk
 have hne:x≠[]:=by simpa using h
 obtain ⟨c,r,hx⟩:=List.exists_cons_of_ne_nil hne;(refine bA (fun h=>?_) (fun h=>?_))<;>simp only[go_sem,h]
 ·have h40:¬ x.length≤40:=by simp at h;omega
  have:cK x=false:=by rw[hx] at h40 ⊢;simp only[cK,h40,qH,fL]
  exact aY (by rwa[this] at hk)
 have h40:x.length≤40:=by simp at h;omega
 have h0:x[0]?=some c:=by rw[hx];rfl
 have hl0:0<x.length:=by rw[hx];exact Nat.zero_lt_succ _
 simp only[go_sem,h0,hl0];refine aDK _ _ _ _ ?_;simp only[go_sem];(refine bA (fun h=>?_) (fun h=>?_))<;>simp only[go_sem,h]
 ·have:cK x=false:=by
   have:oR c.toNat=false:=by simpa using h
   rw[hx];simp[cK,this]
  exact aY (by rwa[this] at hk)
 have hl:oR c.toNat=true:=by simpa using h
 refine Ex.loop (fun i=>[(0,.str x),(18,.int .i64 x.length),(19,.int .i64 (i:Nat))]) (fun _=>s)
  (fun i=>i≤x.length∧∀ d∈x.take i,eM d.toNat=true) (fun i=>x.length-i) 0 ⟨bS _,by simp⟩ ?_ (bW s) ?_
 ·simp only[go_sem];rfl
 ·rintro i ⟨hi,hall⟩;refine cL (V:=[0,2,3,16,18,19,20,26]) _ _ _ _ ?_;simp only[go_sem];(refine bA (fun h=>?_) (fun h=>?_))<;>simp only[go_sem,h]
  ·have hix:i<x.length:=by simpa using h
   obtain ⟨d,hd⟩:∃ d,x[i]?=some d:=⟨_,bK hix⟩
   simp only[go_sem,hd,hix];refine aBz _ _ _ _ ?_;simp only[go_sem];(refine bA (fun h=>?_) (fun h=>?_))<;>simp only[go_sem,h]
   ·have hp:eM d.toNat=false:=by simpa using h
    have:cK x=false:=by
     rw[hx] at hd ⊢;simp only[cK,Bool.and_eq_false_iff];refine .inr (.inr (aDE.2 fun hall=>?_));rw[fD] at hall;have:=hall d (dP hd);rw[hp] at this;cases this
    exact aY (by rwa[this] at hk)
   ·have hp:eM d.toNat=true:=by simpa using h
    refine ⟨i+1,⟨by omega,?_⟩,by omega,?_,bW s⟩
    ·intro q hq;rw[lQ,hd] at hq;simp only[gX,Option.toList_some,cY] at hq;rcases hq with hq|rfl
     ·exact hall q hq
     ·exact hp
    ·simp only[go_sem,cJ i (by omega)]
  ·have hix:i=x.length:=by simp at h;omega
   have:cK x=true:=by
    rw[hix,List.take_length] at hall;rw[hx] at hall h40 ⊢;simp only[cK,hl,fD,aZ,cG];exact ⟨h40,trivial,hall⟩
   exact aY (by rwa[this] at hk)
theorem tC {C : Cx} {f : FuncId} {fn : Func} {e : Array Value → Sem Value} (hf : C.P.funcs[f]? = some fn) (hname : (fn.name == "runtime.NumGoroutine") = false)
  (hb:fn.body.isNone=true) (hn:Extern.findNext fn=none) (he:Extern.find fn=some e) {args:List A} {s:St} {KV Kp:St→A→Prop}
  (h:∀ g vals,Rzs g args vals→∃ v a,(∀ w,(e vals.toArray).run C.P w=.ok v w)∧Rz g a v∧KV s a):Den C f args KV Kp s:=by
 intro F g w vals hR hv;obtain ⟨v,a,h1,h2,h3⟩:=h g vals hv;rw[run_callFunc_extern hf hname hb hn he,h1];exact ⟨g,a,s,dX g,hR,h2,h3⟩
theorem Rzs.two {g:Gh} {a b:A} {vals:List Value} (h:Rzs g [a,b] vals):∃ u v,vals=[u,v]∧Rz g a u∧Rz g b v:=by
 have hl:=h.1
 match vals,hl with
 | [u,v],_=>exact ⟨u,v,rfl,h.2 0 a u rfl rfl,h.2 1 b v rfl rfl⟩
theorem aIe (s:St) (x:aB) (c:UInt8) (KV Kp) (hk:KV s (.int .i64 (Lib.indexByte x c))):Den cx 316 [.str x,.int .u8 c.toNat] KV Kp s:=by
 refine tC (C:=cx) func316 rfl rfl rfl (e:=Extern.BytealgIndexByte.indexByte) (by kernel_rfl) fun g vals hv=>?_
 obtain ⟨u,v,rfl,r1,r2⟩:=hv.two;rw[r1.str_inv,r2.int_inv];refine ⟨_,_,fun w=>Lib.run_indexByteString _ _ w,.int _ _,?_⟩;simpa using hk
theorem aIx (s:St) (x:aB) (c:UInt8) (KV Kp) (hk:KV s (.int .i64 (x.count c:Nat))):Den cx 217 [.str x,.int .u8 c.toNat] KV Kp s:=by
 refine tC (C:=cx) func217 rfl rfl rfl (e:=Extern.BytealgCount.count) (by kernel_rfl) fun g vals hv=>?_
 obtain ⟨u,v,rfl,r1,r2⟩:=hv.two;rw[r1.str_inv,r2.int_inv];refine ⟨_,_,fun w=>Lib.run_countString _ _ w,.int _ _,?_⟩;simpa [Lib.countByte] using hk
theorem aIc (s:St) (x:aB) (c:UInt8) (KV Kp) (hk:KV s (.int .i64 (Lib.indexByte x c))):Den cx 303 [.str x,.int .u8 c.toNat] KV Kp s:=by
 (refine aO func303 [0,1,4] ?_;simp only[go_sem,ntmps303,f303])
 (repeat' (first|exact aH hk cN|(refine aIe _ _ _ _ _ ?_;simp only[go_sem])|((refine bA (fun h=>?_) (fun h=>?_))<;>simp only[go_sem,h]<;>(try simp only[h,eZ,fL,iF,gY,kJ,kI,kH,gZ,dW,eX] at hk))))
theorem aBk (s:St) (x:aB) (c:UInt8) (KV Kp) (hk:KV s (.int .i64 (Lib.indexByte x c))):Den cx 298 [.str x,.int .u8 c.toNat] KV Kp s:=by
 (refine aO func298 [0,1,4] ?_;simp only[go_sem,ntmps298,f298])
 (repeat' (first|exact aH hk cN|(refine aIc _ _ _ _ _ ?_;simp only[go_sem])|((refine bA (fun h=>?_) (fun h=>?_))<;>simp only[go_sem,h]<;>(try simp only[h,eZ,fL,iF,gY,kJ,kI,kH,gZ,dW,eX] at hk))))
theorem aIm (s:St) (x p:aB) (KV Kp) (hk:KV s (.bool (jW x p))):Den cx 311 [.str x,.str p] KV Kp s:=by
 unfold jW at hk;(refine aO func311 [0,1,4] ?_;simp only[go_sem,ntmps311,f311]);(refine bA (fun h=>?_) (fun h=>?_))<;>simp only[go_sem,h]<;>(try simp only[h,eZ,fL,iF,gY,kJ,kI,kH,gZ,dW,eX] at hk)
 ·have hl:p.length≤x.length:=by simpa using h
  simp only[go_sem,hl];exact aY hk
 ·exact aY hk
theorem aDG (s:St) (x p:aB) (KV Kp) (hk:KV s (.bool (jW x p))):Den cx 299 [.str x,.str p] KV Kp s:=by
 (refine aO func299 [0,1,4] ?_;simp only[go_sem,ntmps299,f299])
 (repeat' (first|exact aH hk cN|(refine aIm _ _ _ _ _ ?_;simp only[go_sem])|((refine bA (fun h=>?_) (fun h=>?_))<;>simp only[go_sem,h]<;>(try simp only[h,eZ,fL,iF,gY,kJ,kI,kH,gZ,dW,eX] at hk))))
theorem aIg (s:St) (x:aB) (c:UInt8) (KV Kp) (hx:x.length≤4294967296) (hk:KV s (.int .i64 (lE x c x.length))):Den cx 219 [.str x,.int .u8 c.toNat] KV Kp s:=by
 (refine aO func219 [0,1,4,5,10,17] ?_;simp only[go_sem,ntmps219,f219]);rw[fU _ (by omega) (by omega)]
 refine Ex.loop (fun n=>[(0,.str x),(1,.int .u8 c.toNat),(5,.int .i64 ((n:Nat)-1:Int))]) (fun _=>s)
  (fun n=>n≤x.length∧lE x c x.length=lE x c n) (fun n=>n) x.length ⟨bG _,rfl⟩ ?_ (bW s) ?_
 ·simp only[go_sem]
 ·rintro n ⟨hn,he⟩;refine cL (V:=[0,1,4,5,10,17]) _ _ _ _ ?_;simp only[go_sem];(refine bA (fun h=>?_) (fun h=>?_))<;>simp only[go_sem,h]
  ·obtain ⟨m,rfl⟩:∃ m,n=m+1:=⟨n-1,by simp at h;omega⟩
   have e1:(((m+1:Nat):Int)-1)=(m:Int):=by omega
   have hm:m<x.length:=by omega
   obtain ⟨d,hd⟩:∃ d,x[m]?=some d:=⟨_,bK hm⟩
   simp only[go_sem,e1,hm,hd];(refine bA (fun h=>?_) (fun h=>?_))<;>simp only[go_sem,h]
   ·have hdc:d=c:=by
     have:d.toNat=c.toNat:=by simpa using h
     exact oG.1 this
    subst hdc;rw[he,lE,if_pos hd] at hk;exact aY hk
   ·have hdc:¬ d=c:=by
     rintro rfl;simp at h
    rw[fU _ (by omega) (by omega)];refine ⟨m,⟨by omega,?_⟩,by omega,?_,bW s⟩
    ·rw[he,lE,if_neg (by rw[hd];simpa using hdc)]
    ·simp only[go_sem]
  ·have h0:n=0:=by simp at h;omega
   subst h0;rw[he,lE] at hk;exact aY hk
theorem aIb (s:St) (x:aB) (c:UInt8) (KV Kp) (hx:x.length≤4294967296) (hk:KV s (.int .i64 (lE x c x.length))):Den cx 143 [.str x,.int .u8 c.toNat] KV Kp s:=by
 (refine aO func143 [0,1,4] ?_;simp only[go_sem,ntmps143,f143])
 (repeat' (first|exact aH hk cN|(refine aIg _ _ _ _ _ hx ?_;simp only[go_sem])|((refine bA (fun h=>?_) (fun h=>?_))<;>simp only[go_sem,h]<;>(try simp only[h,eZ,fL,iF,gY,kJ,kI,kH,gZ,dW,eX] at hk))))
theorem aDW (s:St) (c:Int) (KV Kp) (hk:KV s (.bool (eU c))):Den cx 301 [.int .u8 c] KV Kp s:=by
 unfold eU at hk;(refine aO func301 [0,2] ?_;simp only[go_sem,ntmps301,f301])
 (repeat' (first|exact aH hk cN|((refine bA (fun h=>?_) (fun h=>?_))<;>simp only[go_sem,h]<;>(try simp only[h,eZ,fL,iF,gY,kJ,kI,kH,gZ,dW,eX] at hk))))
theorem aGg (s:St) (x:aB) (f:FuncId) (p:UInt8→Bool) (KV Kp) (hx:x.length≤4294967296)
  (hf:∀ (c:UInt8) KV Kp,KV s (.bool (p c))→Den cx f [.int .u8 c.toNat] KV Kp s)
  (hk:KV s (.int .i64 (x.takeWhile p).length)):Den cx 300 [.str x,.fn f [] []] KV Kp s:=by
 (refine aO func300 [0,1,4,5,16] ?_;simp only[go_sem,ntmps300,f300])
 refine Ex.loop (fun n=>[(0,.str x),(1,.fn f [] []),(5,.int .i64 (n:Nat))]) (fun _=>s)
  (fun n=>n≤x.length∧(x.takeWhile p).length=n+((x.drop n).takeWhile p).length) (fun n=>x.length-n) 0 ⟨bS _,by simp⟩ ?_ (bW s) ?_
 ·simp only[go_sem];rfl
 ·rintro n ⟨hn,he⟩;refine cL (V:=[0,1,4,5,16]) _ _ _ _ ?_;simp only[go_sem];(refine bA (fun h=>?_) (fun h=>?_))<;>simp only[go_sem,h]
  ·have hn':n<x.length:=by simpa using h
   obtain ⟨d,hd⟩:∃ d,x[n]?=some d:=⟨_,bK hn'⟩
   have hdr:x.drop n=d::x.drop (n+1):=by
    rw[xQ hn'];congr 1;rw[bK hn'] at hd;simpa using hd
   simp only[go_sem,hd,hn'];refine hf _ _ _ ?_;simp only[go_sem];(refine bA (fun h=>?_) (fun h=>?_))<;>simp only[go_sem,h]
   ·have hp:p d=true:=by simpa using h
    refine ⟨n+1,⟨by omega,?_⟩,by omega,?_,bW s⟩
    ·rw[he,hdr,aBi hp,aD];omega
    ·simp only[go_sem,cJ n (by omega)]
   ·have hp:¬ p d=true:=by simp[h]
    rw[he,hdr,xP hp] at hk;exact aY (by simpa using hk)
  ·have hn':n=x.length:=by simp at h;omega
   subst hn';rw[he,List.drop_length] at hk;exact aY (by simpa using hk)
theorem oJ {s:St} {b:Nat} {o:Ob} (h:s.getO b=some o):s.ge (s.setO b o) :=
 ⟨fun c x hc => by
  rw[aE] at hc;split at hc
  ·rename_i e;subst e;rw[h];exact hc
  ·exact hc,fun _ _ h=>h,fun _ h=>h⟩
def eB (x:aB) (at_ line col:Nat) (sg:List aB) (op:Bool):List A:=[.str x,.int .i64 at_,.int .i64 line,.int .i64 col,.list none (sg.map .str),.bool op]
theorem aCy:∀ (w v:aB) (p:Nat × Nat),cU p (w++v)=cU (cU p w) v
 | [],v,p=>rfl
 | b::w,v,(l,c)=>by
  simp only[bP,cU];split<;>exact aCy w v _
theorem qR:∀ (w:aB) (p:Nat × Nat) (k:Nat),p.1≤k+1→p.2≤k+1→(cU p w).1≤k+w.length+1∧(cU p w).2≤k+w.length+1
 | [],p,k,h1,h2=>⟨h1,h2⟩
 | b::w,(l,c),k,h1,h2=>by
  simp only[cU,aD];split
  ·have:=qR w (l+1,1) (k+1) (by simpa using h1) (by simp);omega
  ·have:=qR w (l,c+1) (k+1) (by have:l≤k+1:=h1;simp;omega) (by simpa using h2);omega
theorem yX (s:St) (r:Nat) (x:aB) (at_ l c n:Nat) (sg:List aB) (op:Bool) (KV Kp)
  (hr:s.getO r=some (.cells 226 (eB x at_ l c sg op))) (hx:x.length≤4294967296) (hn:at_+n≤x.length) (hl:l≤at_+1) (hc:c≤at_+1)
  (hk:KV (s.setO r (.cells 226 (eB x (at_+n) (cU (l,c) ((x.drop at_).take n)).1 (cU (l,c) ((x.drop at_).take n)).2 sg op))) (.tuple [])) :
  Den cx 279 [.ptr r 0,.int .i64 n] KV Kp s:=by
 (refine aO func279 [0,1,4,5,6,23] ?_;simp only[go_sem,ntmps279,f279])
 refine Ex.loop (fun i=>[(0,.ptr r 0),(4,.int .i64 n),(5,.int .i64 (i:Nat))])
  (fun i=>s.setO r (.cells 226 (eB x (at_+i) (cU (l,c) ((x.drop at_).take i)).1 (cU (l,c) ((x.drop at_).take i)).2 sg op)))
  (fun i=>i≤n) (fun i=>n-i) 0 (bS _) ?_ ?_ ?_
 ·simp only[go_sem];rfl
 ·simp only[Nat.add_zero,List.take_zero,cU];exact oJ hr
 ·intro i hi;refine cL (V:=[0,1,4,5,6,23]) _ _ _ _ ?_;have hb:=qR ((x.drop at_).take i) (l,c) at_ hl hc;have hlen:((x.drop at_).take i).length=i:=by rw[eL,cH];omega
  rw[hlen] at hb;simp only[go_sem];(refine bA (fun h=>?_) (fun h=>?_))<;>simp only[go_sem,h]
  ·have hin:i<n:=by simpa using h
   have hix:at_+i<x.length:=by omega
   obtain ⟨d,hd⟩:∃ d,x[at_+i]?=some d:=⟨_,bK hix⟩
   simp only[go_sem,eB];rw[cJ _ (by omega)];(refine bF (OT.r 0 10) [] ?_;simp only[go_sem,hd,hix])
   have hst:cU (l,c) ((x.drop at_).take (i+1))=cU (cU (l,c) ((x.drop at_).take i)) [d]:=by
    rw[lQ,mM,hd,aCy];rfl
   have e5:IntKind.i64.wrap ((i:Int)+1)=((i+1:Nat):Int):=cJ i (by omega);have e1:IntKind.i64.wrap (((at_+i:Nat):Int)+1)=((at_+(i+1):Nat):Int):=by rw[cJ _ (by omega)];rfl
   have e2:IntKind.i64.wrap (((cU (l,c) ((x.drop at_).take i)).1:Int)+1)=(((cU (l,c) ((x.drop at_).take i)).1+1:Nat):Int):=cJ _ (by omega);(refine bA (fun h=>?_) (fun h=>?_))<;>simp only[go_sem,h,e1,e2,e5]
   ·have hd10:d=10:=by
     have:d.toNat=10:=by simp at h;omega
     exact oG.1 this
    refine ⟨i+1,by omega,by omega,rfl,?_⟩;rw[hst];simp only[cU,hd10,if_true];exact bW _
   ·have hd10:¬ d=10:=by rintro rfl;simp at h
    refine ⟨i+1,by omega,by omega,rfl,?_⟩;rw[hst];simp only[cU,hd10,if_false];exact bW _
  ·have hin:i=n:=by simp at h;omega
   subst hin;exact aY hk
def bwA (r:Nat):Option Nat→A
 | none=>.nilp
 | some _=>.ptr r 0
def xK (e:TypeId) (r:Nat) (tk:Option Nat) (acc:aB):Ob:=.cells e [bwA r tk,gv tk (cS acc)]
structure Bw (s:St) (e:TypeId) (r:Nat) (tk:Option Nat) (acc:aB):Prop where
 ob:s.getO r=some (xK e r tk acc)
 own:∀ t,tk=some t→s.getT t=some (acc.length,5)
 nil:tk=none→acc=[]
def gU (s:St) (e:TypeId) (r t:Nat) (acc:aB):St:=(s.setT t (acc.length,5)).setO r (xK e r (some t) acc)
theorem gO (s:St) (e:TypeId) (r t:Nat) (acc:aB):Bw (gU s e r t acc) e r (some t) acc :=
 ⟨by rw[gU,aE,if_pos rfl],fun u h=>by cases h;rw[gU,getT_setO,bT,if_pos rfl],fun h=>by cases h⟩
theorem aJi (x y:aB):cS (x++y)=cS x++cS y:=by simp[cS]
theorem aJ5 (x:aB):∀ y,y∈cS x→y.cells.length=1:=by
 intro y hy;simp only[cS,cO] at hy;obtain ⟨c,_,rfl⟩:=hy;rfl
theorem aJl (b o:Nat) (s:St) (KV Kp:St→A→Prop) (hk:KV s (.ptr b o)):Den cx 262 [.ptr b o] KV Kp s:=by
 refine tC (C:=cx) (fn:=f262) func262 rfl rfl rfl (e:=Extern.AbiNoEscape.same) (by kernel_rfl) fun g vals hv=>?_
 have hl:=hv.1
 match vals,hl with
 | [v],_=>exact ⟨v,_,fun w=>rfl,hv.2 0 _ v rfl rfl,hk⟩
theorem cv1:cx.cv 151 253=some 154:=rfl
theorem cv2:cx.cv 253 151=some 154:=rfl
theorem aIY (e:TypeId) (r:Nat) (tk:Option Nat) (v:A) (s:St) (KV Kp:St→A→Prop) (hv:v.one=true) (he:e=154∨e=187) (hr:s.getO r=some (.cells e [bwA r tk,v]))
  (hk:KV (s.setO r (.cells e [.ptr r 0,v])) (.tuple [])):Den cx 186 [.ptr r 0] KV Kp s:=by
 (refine aO func186 [0,6,19] ?_;simp only[go_sem,ntmps186,f186]);cases tk with
 | none =>
  simp only[bwA] at hr;rcases he with rfl|rfl
  all_goals simp only[go_sem,hr,cv1,cv2,true_or,or_true]
  all_goals (refine aJl _ _ _ _ _ ?_;simp only[go_sem,hr,cv1,cv2,hv,true_or,or_true])
  all_goals exact aH hk cN
 | some t =>
  simp only[bwA] at hr;simp only[go_sem,hr,Nat.beq_refl,hv];exact aH hk (oJ hr)
theorem aLJ {s:St} {tk:Option Nat} {acc x:aB} {KV:St→A→Prop} (hn:tk=none→acc=[]) (ht:∀ t,tk=some t→s.getT t=some (acc.length,5)) (hl:acc.length+x.length≤4294967296)
  (hK:∀ t,(tk=some t∨tk=none∧s.getT t=none)→KV (s.setT t ((acc++x).length,5)) (.list (some t) (cS (acc++x)))):rE cx s 5 x KV (gv tk (cS acc)):=by
 cases tk with
 | none =>
  have h0:=hn rfl;subst h0;refine ⟨by simpa using hl,fun t h=>?_⟩;exact hK t (.inr ⟨rfl,h⟩)
 | some t =>
  refine ⟨⟨by rw[rP];exact ht t rfl,aJ5 acc,by rw[rP];exact hl⟩,?_⟩;have:=hK t (.inl rfl);rw[aJi,aK] at this;rw[rP];exact this
theorem sE1:rC cx { k:=TK.slice 5,sz:=1,bytes:=24,zero:=[A.nils] } 9=some 5:=by
 simp only[rC,go_sem]
theorem iG (e:TypeId) (r:Nat) (tk:Option Nat) (acc x:aB) (s:St) (KV Kp:St→A→Prop) (he:e=154∨e=187) (hb:Bw s e r tk acc) (hl:acc.length+x.length≤4294967296)
  (hk:∀ t,(tk=some t∨tk=none∧s.getT t=none)→KV (gU s e r t (acc++x)) (.tuple [.int .i64 x.length,.nili])):Den cx 102 [.ptr r 0,.str x] KV Kp s:=by
 have hr:=hb.ob;unfold xK at hr;(refine aO func102 [0,1,4,5] ?_;simp only[go_sem,ntmps102,f102]);refine aIY e r tk _ _ _ _ (qO ..) he hr ?_;simp only[go_sem];simp only[go_sem,sE1];refine aLJ hb.nil (fun t h=>by rw[getT_setO];exact hb.own t h) hl (fun t ht=>?_);simp only[go_sem];refine aH (hk t ht) ?_;unfold gU;exact cN
theorem aJs (e:TypeId) (r t:Nat) (acc:aB) (s:St) (KV Kp:St→A→Prop) (hb:Bw s e r (some t) acc) (hne:acc≠[])
  (hk:KV (s.delT t) (.str acc)):Den cx 103 [.ptr r 0] KV Kp s:=by
 have hr:=hb.ob;have ht:=hb.own t rfl;unfold xK at hr;rw[dT] at hr;cases acc with
 | nil=>exact absurd rfl hne
 | cons c x =>
 have eb:cS (c::x)=.int .u8 c.toNat::cS x:=rfl;rw[eb] at hr;(refine aO func103 [0,2] ?_;simp only[go_sem,ntmps103,f103]);(refine bF (OT.l [0,1,2,3,5,6,7,8,9,4,10,11] .nil) [(4,[8])] ?_;simp only[go_sem,hr]);exact ⟨by rw[ht,aD,rP],c::x,rfl,aY hk⟩
@[go_sem] theorem aIn (x:aB) (n:Nat):(x.drop n).take (x.length-n)=x.drop n:=gW (by rw[cH];exact bG _)
theorem aBm {b:UInt8} {r:aB} (h:jW (b::r) [47,47]=true):1≤((b::r).takeWhile (fun c=>!decide (c=10))).length:=by
 have hb:b=47:=by
  simp only[jW,aZ,cG] at h;have:=h.2;simp at this;exact this.1
 subst hb;simp[List.takeWhile]
theorem aCd:∀ (f g:Nat) (w:aB),w.length≤f→w.length≤g→kS f w=kS g w
 | f,g,[],_,_=>by cases f<;>cases g<;>rfl
 | 0,g,b::r,h,_=>by simp at h
 | f,0,b::r,_,h=>by simp at h
 | f+1,g+1,b::r,hf,hg=>by
  simp only[aD] at hf hg;simp only[kS];split
  ·rw[aCd f g r (by omega) (by omega)]
  ·split
   ·rename_i hp;have:=aBm hp;rw[aCd f g _ (by rw[cH,aD];omega) (by rw[cH,aD];omega)]
   ·rfl
theorem aKV:dC []=0:=rfl
theorem aI7 {b:UInt8} {r:aB} (h:kL b=true):dC (b::r)=1+dC r:=by
 simp only[dC,aD,kS,h,if_true]
theorem aJF {b:UInt8} {r:aB} (hb:kL b=false) (h:jW (b::r) [47,47]=true) :
  dC (b::r)=((b::r).takeWhile (fun c=>!decide (c=10))).length+dC ((b::r).drop ((b::r).takeWhile (fun c=>!decide (c=10))).length):=by
 have:=aBm h;simp only[dC,aD,kS,hb,bR,if_false,h,if_true];rw[aCd r.length _ _ (by rw[cH,aD];omega) (bG _)]
theorem aKh {b:UInt8} {r:aB} (hb:kL b=false) (h:jW (b::r) [47,47]=false):dC (b::r)=0:=by
 simp only[dC,aD,kS,hb,bR,if_false,h]
theorem aKc (b:UInt8):decide (0≤Lib.indexByte [32,9,10,13] b)=kL b:=by
 by_cases h1:b=32
 ·subst h1;decide
 by_cases h2:b=9
 ·subst h2;decide
 by_cases h3:b=10
 ·subst h3;decide
 by_cases h4:b=13
 ·subst h4;decide
 have e1:((32:UInt8) == b)=false:=vP.2 fun e=>h1 e.symm
 have e2:((9:UInt8) == b)=false:=vP.2 fun e=>h2 e.symm
 have e3:((10:UInt8) == b)=false:=vP.2 fun e=>h3 e.symm
 have e4:((13:UInt8) == b)=false:=vP.2 fun e=>h4 e.symm
 simp[Lib.indexByte,kL,e1,e2,e3,e4,h1,h2,h3,h4]
theorem aKx (w:aB):(if Lib.indexByte w 10<0 then ((w.length:Nat):Int) else Lib.indexByte w 10)=((w.takeWhile (fun c=>!decide (c=10))).length:Nat)∧(Lib.indexByte w 10=-1∨0≤Lib.indexByte w 10):=by
 induction w with
 | nil=>simp[Lib.indexByte]
 | cons b r ih =>
  obtain ⟨ih,ih2⟩:=ih;unfold Lib.indexByte;by_cases hb:b=10
  ·subst hb;simp
  ·have hb':(b == 10)=false:=by simpa using hb
   rw[hb'];simp only[bR,if_false];have htw:(b::r).takeWhile (fun c=>!decide (c=10))=b::r.takeWhile (fun c=>!decide (c=10)):=by simp[List.takeWhile,hb]
   rw[htw];rcases ih2 with h|h
   ·rw[h] at ih ⊢;simp only[show ((-1:Int)<0) from by decide,if_true] at ih;simp only[beq_self_eq_true,if_true,show ((-1:Int)<0) from by decide,aD];exact ⟨by omega,.inl trivial⟩
   ·have h1:¬ Lib.indexByte r 10<0:=by omega
    have h2:(Lib.indexByte r 10 == -1)=false:=by simpa using (by omega:¬ Lib.indexByte r 10=-1)
    rw[if_neg h1] at ih;rw[h2];simp only[bR,if_false,aD];rw[if_neg (by omega)];exact ⟨by omega,.inr (by omega)⟩
theorem aEo (s:St) (r:Nat) (x:aB) (at_ l c:Nat) (sg:List aB) (op:Bool) (KV Kp)
  (hr:s.getO r=some (.cells 226 (eB x at_ l c sg op))) (hx:x.length≤4294967296) (ha:at_≤x.length) (hl:l≤at_+1) (hc:c≤at_+1)
  (hk:KV (s.setO r (.cells 226 (eB x (at_+dC (x.drop at_)) (cU (l,c) ((x.drop at_).take (dC (x.drop at_)))).1 (cU (l,c) ((x.drop at_).take (dC (x.drop at_)))).2 sg op))) (.tuple [])) :
  Den cx 277 [.ptr r 0] KV Kp s:=by
 (refine aO func277 [0,2,3,13,23,30,36] ?_;simp only[go_sem,ntmps277,f277])
 refine Ex.loop (fun k=>[(0,.ptr r 0)])
  (fun k=>s.setO r (.cells 226 (eB x (at_+k) (cU (l,c) ((x.drop at_).take k)).1 (cU (l,c) ((x.drop at_).take k)).2 sg op)))
  (fun k=>at_+k≤x.length∧dC (x.drop at_)=k+dC (x.drop (at_+k))) (fun k=>x.length-(at_+k)) 0 ⟨by omega,by simp⟩ ?_ ?_ ?_
 ·simp only[go_sem]
 ·simp only[Nat.add_zero,List.take_zero,cU];exact oJ hr
 ·rintro k ⟨hkx,hb⟩;have hlen:((x.drop at_).take k).length=k:=by rw[eL,cH];omega
  have hal:=qR ((x.drop at_).take k) (l,c) at_ hl hc;rw[hlen] at hal
  have hstep:∀ m,cU (l,c) ((x.drop at_).take (k+m))=cU (cU (l,c) ((x.drop at_).take k)) ((x.drop (at_+k)).take m):=by
   intro m;rw[List.take_add,aCy,pC]
  refine cL (V:=[0,2,3,13,23,30,36]) _ _ _ _ ?_;simp only[go_sem];(refine bF (OT.r 0 10) [] ?_;simp only[go_sem,eB]);(refine bA (fun h=>?_) (fun h=>?_))<;>simp only[go_sem,h]
  ·have hlt:at_+k<x.length:=by simpa using h
   have hcons:∃ d w,x.drop (at_+k)=d::w:=by
    rw[xQ hlt];exact ⟨_,_,rfl⟩
   obtain ⟨d,w,hw⟩:=hcons;have ha':at_+k≤x.length:=by omega
   have htk:(d::w).take (x.length-(at_+k))=d::w:=by rw[← hw];exact aIn x _
   (refine bF (OT.r 0 10) [] ?_;simp only[go_sem,eB,hw,htk,ha',bG]);refine aBk _ _ _ _ _ ?_;simp only[go_sem,aKc];(refine bA (fun h=>?_) (fun h=>?_))<;>simp only[go_sem,h]
   ·
    refine yX _ r x (at_+k) _ _ 1 sg op _ _ (by rw[aE,if_pos rfl];rfl) hx (by omega) (by omega) (by omega) ?_;simp only[go_sem];refine ⟨k+1,⟨by omega,?_⟩,by omega,?_⟩
    ·rw[hb,hw,aI7 h,show at_+(k+1)=at_+k+1 from rfl,← pC,hw];simp;omega
    ·rw[hstep 1];exact bW _
   ·refine aDG _ _ _ _ _ ?_;simp only[go_sem];(refine bA (fun h=>?_) (fun h=>?_))<;>simp only[go_sem,h]
    ·have hbl:kL d=false:=by assumption
     have hp:=h;refine aBk _ _ 10 _ _ ?_;simp only[go_sem];have hi:=aKx (d::w);have hpos:=aBm hp;have hle:((d::w).takeWhile (fun c=>!decide (c=10))).length≤(d::w).length:=(List.takeWhile_sublist _).length_le;have hwl:(d::w).length=x.length-(at_+k):=by rw[← hw,cH]
     have fin:∀ m:Nat,m=((d::w).takeWhile (fun c=>!decide (c=10))).length→at_+k+m≤x.length∧dC (x.drop at_)=k+m+dC (x.drop (at_+(k+m))):=by
      rintro m rfl;refine ⟨by omega,?_⟩;have:=aJF hbl hp;rw[hb,hw,this,← lS at_,← pC,hw];omega
     generalize hm:((d::w).takeWhile (fun c=>!decide (c=10))).length=m at hi hpos hle;obtain ⟨f1,f2⟩:=fin m hm.symm;(refine bA (fun h=>?_) (fun h=>?_))<;>simp only[go_sem,h]
     ·have hlt:Lib.indexByte (d::w) 10<0:=by simpa using h
      have e:=hi.1;rw[if_pos hlt] at e;have e:w.length+1=m:=by simp at e;omega
      rw[e];refine yX _ r x (at_+k) _ _ m sg op _ _ (by rw[aE,if_pos rfl];rfl) hx f1 (by omega) (by omega) ?_;simp only[go_sem];refine ⟨k+m,⟨by omega,f2⟩,by omega,?_⟩;rw[hstep m,lS at_ k m];exact bW _
     ·have hlt:¬ Lib.indexByte (d::w) 10<0:=by simpa using h
      have e:=hi.1;rw[if_neg hlt] at e;rw[e];refine yX _ r x (at_+k) _ _ m sg op _ _ (by rw[aE,if_pos rfl];rfl) hx f1 (by omega) (by omega) ?_;simp only[go_sem];refine ⟨k+m,⟨by omega,f2⟩,by omega,?_⟩;rw[hstep m,lS at_ k m];exact bW _
    ·have hbl:kL d=false:=by assumption
     rw[hb,hw,aKh hbl h,Nat.add_zero] at hk;exact aY hk
  ·have hkl:at_+k=x.length:=by simp at h;omega
   have e:dC (x.drop at_)=k:=by rw[hb,hkl,List.drop_length,aKV];rfl
   rw[e] at hk;exact aY hk
end Go.AV
