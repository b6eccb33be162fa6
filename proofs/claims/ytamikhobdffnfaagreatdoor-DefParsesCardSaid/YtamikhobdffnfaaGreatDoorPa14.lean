/-
  Of DefParses.
-/
import Derived.Lib.Bytealg
import Derived.Test.YtamikhobdffnfaaGreatDoorPa09
import Derived.Lib.ItoaNum
set_option linter.all false
set_option maxRecDepth 99999
set_option maxHeartbeats 0
namespace Go.AV
open Go Go.Proofs Tryz
attribute [go_sem] Nat.reduceLT Nat.reduceEqDiff Nat.reduceBEq Nat.reduceAdd Nat.reduceLeDiff Nat.reduceMul reduceIte reduceCtorEq List.map hH oB List.elem kA pN dT fD bE aF aH kI List.getElem?_cons_succ gU Nat.add_zero jZ gQ lV lF List.take_succ_cons List.take_zero List.drop_succ_cons List.take_nil Nat.succ_eq_add_one rO Int.toNat_zero Nat.sub_zero Nat.zero_lt_succ fK dY cZ cQ
abbrev aD:=List UInt8
structure Fault where
 code:Int
 name:aD
 line:Int
 col:Int
 deriving DecidableEq
def Fault.none:Fault:=⟨0,[],0,0⟩
def Fault.cs (f:Fault):List A:=[.int .i64 f.code,.str f.name,.int .i64 f.line,.int .i64 f.col]
def Fault.enc (f:Fault):A:=.agg f.cs
structure Tok where
 kind:Int
 text:aD
 n:Int
 line:Int
 col:Int
 deriving DecidableEq
def Tok.cs (t:Tok):List A:=[.int .i64 t.kind,.str t.text,.int .i64 t.n,.int .i64 t.line,.int .i64 t.col]
def Tok.enc (t:Tok):A:=.agg t.cs
inductive Tm where
 | mk (kind n:Int) (text sort:aD) (kids rest:List Tm)
def Tm.kind:Tm→Int|.mk k _ _ _ _ _=>k
def Tm.n:Tm→Int|.mk _ n _ _ _ _=>n
def Tm.text:Tm→aD|.mk _ _ t _ _ _=>t
def Tm.sort:Tm→aD|.mk _ _ _ s _ _=>s
def Tm.kids:Tm→List Tm|.mk _ _ _ _ ks _=>ks
def Tm.rest:Tm→List Tm|.mk _ _ _ _ _ rs=>rs
mutual
def Tm.enc:Tm→A
 | .mk k n t s ks rs=>.agg [.int .i64 k,.int .i64 n,.str t,.str s,.list none (aAm ks),.list none (aAm rs)]
def aAm:List Tm→List A
 | []=>[]
 | t::r=>t.enc::aAm r
end
theorem aGk:∀ l:List Tm,aAm l=l.map Tm.enc
 | []=>rfl
 | t::r=>by rw[aAm,aGk r];rfl
def Tm.cs (t:Tm):List A:=[.int .i64 t.kind,.int .i64 t.n,.str t.text,.str t.sort,.list none (t.kids.map Tm.enc),.list none (t.rest.map Tm.enc)]
theorem Tm.enc_eq (t:Tm):t.enc=.agg t.cs:=by
 cases t;simp only[Tm.enc,Tm.cs,Tm.kind,Tm.n,Tm.text,Tm.sort,Tm.kids,Tm.rest,aGk]
structure Below where
 low:aD
 high:aD
 deriving DecidableEq
def Below.cs (b:Below):List A:=[.str b.low,.str b.high]
def Below.enc (b:Below):A:=.agg b.cs
structure Piece where
 text:aD
 sort:aD
 deriving DecidableEq
def Piece.cs (b:Piece):List A:=[.str b.text,.str b.sort]
def Piece.enc (b:Piece):A:=.agg b.cs
structure Opr where
 name:aD
 args:List aD
 sort:aD
 pieces:List Piece
 prec:Int
 assoc:Int
 strict:List Int
 deriving DecidableEq
def Opr.cs (o:Opr):List A:=[.str o.name,.list none (o.args.map .str),.str o.sort,.list none (o.pieces.map Piece.enc),.int .i64 o.prec,.int .i64 o.assoc,.list none (o.strict.map (.int .i64))]
def Opr.enc (o:Opr):A:=.agg o.cs
structure Sig where
 sorts:List aD
 below:List Below
 ops:List Opr
 funs:List Opr
 values:List aD
def Sig.cs (s:Sig):List A:=[.list none (s.sorts.map .str),.list none (s.below.map Below.enc),.list none (s.ops.map Opr.enc),.list none (s.funs.map Opr.enc),.list none (s.values.map .str)]
def Sig.enc (s:Sig):A:=.agg s.cs
structure Eqn where
 left:Tm
 right:Tm
 cond:List Tm
 line:Int
 col:Int
def Eqn.cs (e:Eqn):List A:=e.left.cs++(e.right.cs++[.list none (e.cond.map Tm.enc),.int .i64 e.line,.int .i64 e.col])
def Eqn.enc (e:Eqn):A:=.agg e.cs
structure Cel where
 name:aD
 sort:aD
 init:Tm
 line:Int
 col:Int
def Cel.cs (c:Cel):List A:=.str c.name::.str c.sort::(c.init.cs++[.int .i64 c.line,.int .i64 c.col])
def Cel.enc (c:Cel):A:=.agg c.cs
structure Part where
 cell:aD
 at_:aD
 left:Tm
 right:List Tm
 line:Int
 col:Int
def Part.cs (p:Part):List A:=.str p.cell::.str p.at_::(p.left.cs++[.list none (p.right.map Tm.enc),.int .i64 p.line,.int .i64 p.col])
def Part.enc (p:Part):A:=.agg p.cs
structure Fresh where
 cells:List Tm
def Fresh.cs (f:Fresh):List A:=[.list none (f.cells.map Tm.enc)]
def Fresh.enc (f:Fresh):A:=.agg f.cs
structure Rul where
 name:aD
 parts:List Part
 cond:List Tm
 new:List Fresh
 drop:List aD
 line:Int
 col:Int
def Rul.cs (r:Rul):List A:=[.str r.name,.list none (r.parts.map Part.enc),.list none (r.cond.map Tm.enc),.list none (r.new.map Fresh.enc),.list none (r.drop.map .str),.int .i64 r.line,.int .i64 r.col]
def Rul.enc (r:Rul):A:=.agg r.cs
structure Dfn where
 name:aD
 sig:Sig
 eqs:List Eqn
 once:List Cel
 kind:aD
 many:List Cel
 rules:List Rul
 start:aD
 watch:aD
def Dfn.cs (d:Dfn):List A:=.str d.name::(d.sig.cs++[.list none (d.eqs.map Eqn.enc),.list none (d.once.map Cel.enc),.str d.kind,.list none (d.many.map Cel.enc),.list none (d.rules.map Rul.enc),.str d.start,.str d.watch])
def Dfn.enc (d:Dfn):A:=.agg d.cs
attribute [go_sem] Fault.enc Fault.cs Tok.enc Tok.cs Tm.enc_eq Tm.cs Below.enc Below.cs Piece.enc Piece.cs Opr.enc Opr.cs Sig.enc Sig.cs Eqn.enc Eqn.cs Cel.enc Cel.cs Part.enc Part.cs Fresh.enc Fresh.cs Rul.enc Rul.cs Dfn.enc Dfn.cs
mutual
def Tm.same:Tm→Tm→Bool
 | .mk k n t s ks rs,.mk k' n' t' s' ks' rs'=>decide (k=k')&&(decide (n=n')&&(decide (t=t')&&(decide (s=s')&&(vO ks ks'&&vO rs rs'))))
def vO:List Tm→List Tm→Bool
 | [],[]=>true
 | a::l,b::r=>Tm.same a b&&vO l r
 | _,_=>false
end
theorem aK7 {t x:Tm} (h:x∈t.kids):SizeOf.sizeOf x<SizeOf.sizeOf t:=by
 cases t;have:=List.sizeOf_lt_of_mem h;simp only[Tm.kids] at this;simp only[Tm.mk.sizeOf_spec];omega
theorem aKV {t x:Tm} (h:x∈t.rest):SizeOf.sizeOf x<SizeOf.sizeOf t:=by
 cases t;have:=List.sizeOf_lt_of_mem h;simp only[Tm.rest] at this;simp only[Tm.mk.sizeOf_spec];omega
def bO:=@Tm.enc_eq
def gJ (c:Int):Bool:=(decide (97≤c)&&decide (c≤122))||(decide (65≤c)&&decide (c≤90))
def dU (c:Int):Bool:=gJ c||((decide (48≤c)&&decide (c≤57))||decide (c=95))
def gZ (s:List UInt8):Bool:=match s with
 | []=>false
 | c::_=>decide (s.length≤40)&&(gJ c.toNat&&s.all fun c=>dU c.toNat)
def kE (x p:aD):Bool:=decide (p.length≤x.length)&&decide (x.take p.length=p)
def mA (x:aD) (c:UInt8):Nat→Int
 | 0=>-1
 | n+1=>if x[n]?=some c then n else mA x c n
def fB (c:Int):Bool:=decide (48≤c)&&decide (c≤57)
def bY:Nat × Nat→aD→Nat × Nat
 | p,[]=>p
 | (l,c),b::r=>if b=10 then bY (l+1,1) r else bY (l,c+1) r
def pU (b:UInt8):Bool:=decide (b=32)||(decide (b=9)||(decide (b=10)||decide (b=13)))
def rE:Nat→aD→Nat
 | 0,_=>0
 | _+1,[]=>0
 | f+1,b::r=>if pU b=true then 1+rE f r
  else if kE (b::r) [47,47]=true then ((b::r).takeWhile (fun c=>!decide (c=10))).length+rE f ((b::r).drop ((b::r).takeWhile (fun c=>!decide (c=10))).length)
  else 0
def dD (w:aD):Nat:=rE w.length w
def eS (b:UInt8):Bool:=decide (32≤b.toNat)&&(decide (b.toNat≤126)&&(!decide (b=34)&&!decide (b=92)))
def pX (x:aD):Bool:=x.all eS&&decide (x.length≤200)
def mK (c:UInt8) (b:UInt8):Bool:=decide (b=c)
def eK (x:aD):Nat:=x.foldl (fun n d=>n * 10+(d.toNat-48)) 0
def vZ (x:aD):Prop:=∀ d,d∈x→48≤d.toNat∧d.toNat≤57
def mU (x:aD):Tok × Nat × Bool :=
 let n:=(x.takeWhile fun c=>fB c.toNat).length
 let g:=(x.take n).dropWhile (mK 48)
 if 10<g.length∨(∃ c,x[n]?=some c∧dU c.toNat=true) then (⟨0,[],0,0,0⟩,0,false)
 else (⟨2,[],eK g,0,0⟩,n,decide (eK g≤2147483647))
def fY (w:aD):List aD→Nat→Nat
 | [],n=>n
 | x::r,n=>fY w r (if n<x.length∧kE w x=true then x.length else n)
def hC (w:aD) (sg:List aD) (op:Bool):Tok × Nat × Bool :=
 match w with
 | []=>(⟨0,[],0,0,0⟩,0,false)
 | c::r =>
  if gZ [c] then
   let n:=(w.takeWhile fun c=>dU c.toNat).length
   (⟨1,w.take n,0,0,0⟩,n,decide (n≤40))
  else if fB c.toNat then mU w
  else if c=34 then
   let n:=(Lib.indexByte r 34+2).toNat
   (⟨3,r.take (n-2),0,0,0⟩,n,decide (1<n)&&pX (r.take (n-2)))
  else
   let n:=fY w sg 0
   let n:=if n=0∧op=true∧(c=39∨c=95) then 1 else n
   (⟨4,w.take n,0,0,0⟩,n,decide (0<n))
def aNv:List UInt8:=[97,100,100,32,115,117,98,32,109,117,108,32,100,105,118,32,109,111,100,32,110,101,103,32,108,116,32,108,101,32,103,116,32,103,101,32,101,113,32,110,101,32,97,110,100,32,111,114,32,110,111,116,32,112,105,99,107,32,99,97,116,32,108,101,110,103,116,104,32,116,101,120,116,32,106,111,105,110,32,103,101,116,32,112,117,116,32,104,97,115,32,100,101,108,32,107,101,121,115,32,115,105,122,101,32,105,115,32,105,115,118,97,108,117,101]
def aBY:List (List UInt8):=[[97,100,100],[115,117,98],[109,117,108],[100,105,118],[109,111,100],[110,101,103],[108,116],[108,101],[103,116],[103,101],[101,113],[110,101],[97,110,100],[111,114],[110,111,116],[112,105,99,107],[99,97,116],[108,101,110,103,116,104],[116,101,120,116],[106,111,105,110],[103,101,116],[112,117,116],[104,97,115],[100,101,108],[107,101,121,115],[115,105,122,101],[105,115],[105,115,118,97,108,117,101]]
def aPL:List UInt8:=[61,62,32,45,62,32,58,32,59,32,44,32,46,32,64,32,124,32,40,32,41,32,91,32,93,32,123,32,125,32,60,32,61,32,45,32,36]
def dX:List (List UInt8):=[[61,62],[45,62],[58],[59],[44],[46],[64],[124],[40],[41],[91],[93],[123],[125],[60],[61],[45],[36]]
def aMn:List UInt8:=[108,97,110,103,117,97,103,101,32,115,111,114,116,32,115,117,98,115,111,114,116,32,118,97,108,117,101,32,111,112,32,102,117,110,32,108,101,116,32,105,102,32,115,116,97,114,116,32,99,101,108,108,32,109,97,110,121,32,119,97,116,99,104,32,114,117,108,101,32,112,114,101,99,32,108,101,102,116,32,114,105,103,104,116,32,115,116,114,105,99,116,32,110,101,119,32,100,114,111,112,32,116,114,117,101,32,102,97,108,115,101]
def jL:List (List UInt8):=[[108,97,110,103,117,97,103,101],[115,111,114,116],[115,117,98,115,111,114,116],[118,97,108,117,101],[111,112],[102,117,110],[108,101,116],[105,102],[115,116,97,114,116],[99,101,108,108],[109,97,110,121],[119,97,116,99,104],[114,117,108,101],[112,114,101,99],[108,101,102,116],[114,105,103,104,116],[115,116,114,105,99,116],[110,101,119],[100,114,111,112],[116,114,117,101],[102,97,108,115,101]]
inductive Lx where
 | ok (l:List Tok)
 | bad (f:Fault)
def oM (sg:List aD) (op:Bool):Nat→aD→Nat × Nat→List Tok→Lx
 | _,[],_,acc=>.ok acc
 | 0,_::_,_,acc=>.ok acc
 | f+1,c::r,p,acc=>match hC (c::r) sg op with
  | (t,n,true)=>oM sg op f (((c::r).drop n).drop (dD ((c::r).drop n))) (bY (bY p ((c::r).take n)) (((c::r).drop n).take (dD ((c::r).drop n))))
    (acc++[⟨t.kind,t.text,t.n,p.1,p.2⟩])
  | (_,_,false)=>.bad ⟨10,[c],p.1,p.2⟩
def iH (sg:List aD) (op:Bool) (w:aD):Lx:=oM sg op w.length (w.drop (dD w)) (bY (1,1) (w.take (dD w))) []
@[go_sem] theorem aUd:cx.det=false:=rfl
@[go_sem] theorem aS0 (x:A) (l:List A):zH (x::l)=.list none (x::l):=rfl
@[go_sem] theorem aTh:zH []=.emp:=rfl
def gs (s:St) (tk:Option Nat) (n:Nat) (e:TypeId):St:=match tk with
 | none=>s
 | some t=>s.setT t (n,e)
@[go_sem] theorem aT (s:St) (tk:Option Nat) (n:Nat) (e:TypeId) (b:Nat):(gs s tk n e).getO b=s.getO b:=by cases tk<;>rfl
@[go_sem] theorem aB5 (s:St) (tk:Option Nat) (n:Nat) (e:TypeId) (b:Nat) (o:Ob):(gs s tk n e).setO b o=gs (s.setO b o) tk n e:=by cases tk<;>rfl
@[go_sem] theorem aSW (s:St) (t:Nat) (v:Nat × TypeId) (b:Nat) (o:Ob):(s.setT t v).setO b o=(s.setO b o).setT t v:=rfl
attribute [go_sem] gE dN
@[go_sem] theorem aS8 (s:St) (t b:Nat):(s.delT t).getO b=s.getO b:=rfl
@[go_sem] theorem aTf (s:St) (x:Option (Nat × Nat × A)) (b:Nat) (o:Ob):(s.setL x).setO b o=(s.setO b o).setL x:=rfl
@[go_sem] theorem aTd (s:St) (t:Nat) (b:Nat) (o:Ob):(s.delT t).setO b o=(s.setO b o).delT t:=rfl
@[go_sem] theorem aTU (s:St) (x:Option (Nat × Nat × A)):(s.setL x).ls=x:=rfl
theorem fA {s:St} {tk:Option Nat} {n:Nat} {e:TypeId} (h:tk=none→n=0):lS (gs s tk n e) tk n e:=by
 cases tk with
 | none=>exact h rfl
 | some t=>simp only[lS,gs,cO,if_pos]
theorem gY {s:St} {tk:Option Nat} {n:Nat} {e:TypeId} {t:Nat} (h:tk=some t∨tk=none∧(gs s tk n e).getT t=none) (v:Nat × TypeId):(gs s tk n e).setT t v=s.setT t v:=by
 rcases h with rfl|⟨rfl,_⟩
 ·simp only[gs,St.setT,aEN]
 ·rfl
theorem kC {s:St} {tk:Option Nat} {n:Nat} {e:TypeId} {t:Nat} (h:tk=some t∨tk=none∧(gs s tk n e).getT t=none) (hf:∀ t,tk=some t→s.getT t=none):s.getT t=none:=by
 rcases h with rfl|⟨rfl,h⟩
 ·exact hf t rfl
 ·exact h
theorem qU {s s':St} (hs:s.ge s') {tk:Option Nat} {n:Nat} {e:TypeId} (h:∀ t,tk=some t→s.getT t=none):(gs s tk n e).ge s':=by
 cases tk with
 | none=>exact hs
 | some t =>
  refine ⟨fun b o ho=>hs.ob b o ho,fun u m hm=>?_,fun x hx=>hs.ls x hx⟩;have h1:=hs.tk u m hm;have h2:=h t rfl;simp only[gs,cO];by_cases htu:t=u
  ·subst htu;rw[h2] at h1;cases h1
  ·simp only[htu,if_false];exact h1
theorem eZ (s:St) (tk:Option Nat) (n:Nat) (e:TypeId) (t:Nat):(gs s tk n e).getT t=if tk=some t then some (n,e) else s.getT t:=by
 cases tk with
 | none=>rfl
 | some u=>simp only[gs,cO,bM]
theorem aHW {s s':St} {tk:Option Nat} {n:Nat} {e:TypeId} (ho:∀ b o,s'.getO b=some o→s.getO b=some o) (hl:∀ x,s'.ls=some x→s.ls=some x)
  (ht:∀ t m,tk≠some t→s'.getT t=some m→s.getT t=some m):(gs s tk n e).ge (gs s' tk n e):=by
 refine ⟨fun b o h=>by rw[aT] at h ⊢;exact ho b o h,fun t m h=>?_,fun x h=>by cases tk<;>exact hl x h⟩;rw[eZ] at h ⊢;by_cases e:tk=some t
 ·rw[if_pos e] at h ⊢;exact h
 ·rw[if_neg e] at h ⊢;exact ht t m e h
theorem aEU {s:St} {tk:Option Nat} {n:Nat} {e:TypeId} {t:Nat} {v:Nat × TypeId} (h:tk≠some t):((gs s tk n e).setT t v).ge (gs (s.setT t v) tk n e):=by
 refine ⟨fun b o h=>by rw[aT] at h;rw[gE,aT];exact h,fun u m hm=>?_,fun x hx=>by cases tk<;>exact hx⟩;rw[eZ,cO] at hm;rw[cO,eZ];by_cases htu:t=u
 ·subst htu;rw[if_neg h,if_pos rfl] at hm;rw[if_pos rfl];exact hm
 ·rw[if_neg htu] at hm ⊢;exact hm
theorem aGj {Y:St} {t n0 n:Nat} {e0 e:TypeId} {v:Nat × TypeId} {x:Option (Nat × Nat × A)}:((((gs Y none n0 e0).setT t v).setT t (n,e)).setL x).ge ((gs Y (some t) n e).setL none):=by
 refine ⟨fun b o h=>h,fun a m h=>?_,fun y h=>by cases h⟩;simp only[gs,vH,cO] at h ⊢;split at h
 ·rename_i e;rw[if_pos e];exact h
 ·rename_i e;rw[if_neg e,if_neg e];exact h
theorem aDM {Y:St} {u t n0 n:Nat} {e0 e:TypeId} {v:Nat × TypeId} {x:Option (Nat × Nat × A)} (hu:Y.getT u=none):(((((gs Y (some u) n0 e0).delT u).setT t v).setT t (n,e)).setL x).ge ((gs Y (some t) n e).setL none):=by
 refine ⟨fun b o h=>h,fun a m h=>?_,fun y h=>by cases h⟩;simp only[gs,vH,cO,qJ] at h ⊢;split at h
 ·rename_i e;rw[if_pos e];exact h
 ·rename_i e;rw[if_neg e];by_cases hau:a=u
  ·subst hau;rw[hu] at h;cases h
  ·simp only[e,hau,Ne.symm hau,if_false];exact h
theorem aBW {Y s:St} {u t n:Nat} {e:TypeId} (ht:((gs Y (some u) n e).delT u).getT t=none) (hu:s.getT u=none) (hY:∀ t,Y.getT t=s.getT t):s.getT t=none:=by
 by_cases htu:t=u
 ·subst htu;exact hu
 ·simp only[gs,qJ,cO,if_neg htu,if_neg (Ne.symm htu)] at ht;rw[← hY];exact ht
theorem aHB {Y s:St} {u t n:Nat} {e:TypeId} {l:Option (Nat × Nat × A)} (ht:(((gs Y (some u) n e).setL l).delT u).getT t=none) (hu:s.getT u=none) (hY:∀ t,Y.getT t=s.getT t):s.getT t=none:=aBW (Y:=Y) ht hu hY
theorem aGA {Y Z:St} {u t n0 n n':Nat} {e0 e:TypeId} {v:Nat × TypeId} {x l:Option (Nat × Nat × A)} (hu:Y.getT u=none) (hO:∀ b o,Z.getO b=some o→Y.getO b=some o) (hT:∀ t,Z.getT t=Y.getT t) (hn:n'=n) :
  ((((((gs Y (some u) n0 e0).setL l).delT u).setT t v).setT t (n',e)).setL x).ge ((gs Z (some t) n e).setL none):=by
 subst hn;refine ⟨fun b o h=>hO b o h,fun a m h=>?_,fun w h=>by cases h⟩;simp only[gs,vH,cO,qJ] at h ⊢;split at h
 ·rename_i e;rw[if_pos e];exact h
 ·rename_i e;rw[hT] at h;by_cases hau:a=u
  ·subst hau;rw[hu] at h;cases h
  ·simp only[e,hau,Ne.symm hau,if_false];exact h
theorem aEW {Y Z:St} {t n:Nat} {e:TypeId} (hO:∀ b o,Z.getO b=some o→Y.getO b=some o) (hT:∀ t,Z.getT t=Y.getT t):((gs Y (some t) n e).setL none).ge ((gs Z (some t) n e).setL none) :=
 ⟨fun b o h => hO b o h,fun a m h => by
  simp only[gs,vH,cO] at h ⊢;rw[hT] at h;exact h,fun y h=>by cases h⟩
theorem pS {s:St} {b c:Nat} {o:Ob} (h:(s.setO c o).getO b=none):b≠c∧s.getO b=none:=by
 rw[aJ] at h;by_cases e:c=b
 ·rw[if_pos e] at h;cases h
 ·rw[if_neg e] at h;exact ⟨fun x=>e x.symm,h⟩
theorem fN (tk:Option Nat) (es:List A) (h:tk=none→es=[]):A.le (gv tk es) (.list none es):=by
 cases tk with
 | none=>rw[h rfl];exact A.le.nil
 | some t=>exact A.le.forget _ _
theorem aGL {s s2:St} {t:Nat} {v:Nat × TypeId} (h:s.ge s2):(s.setT t v).ge (s2.setT t v):=by
 refine ⟨fun b o ho=>h.ob b o ho,fun u m hm=>?_,fun x hx=>h.ls x hx⟩;rw[cO] at hm ⊢;split
 ·rename_i e;rw[if_pos e] at hm;exact hm
 ·rename_i e;rw[if_neg e] at hm;exact h.tk u m hm
theorem pQ {s s2:St} {b:Nat} {o:Ob} (h:s.ge s2):(s.setO b o).ge (s2.setO b o):=by
 refine ⟨fun c x ho=>?_,fun u m hm=>h.tk u m hm,fun x hx=>h.ls x hx⟩;rw[aJ] at ho ⊢;split
 ·rename_i e;rw[if_pos e] at ho;exact ho
 ·rename_i e;rw[if_neg e] at ho;exact h.ob c x ho
theorem aA9 (s:St) (t:Nat) (v u:Nat × TypeId):((s.setT t v).setT t u).ge (s.setT t u):=by
 refine ⟨fun b o h=>h,fun x m hm=>?_,fun x h=>h⟩;rw[cO] at hm ⊢;split
 ·rename_i e;rw[if_pos e] at hm;exact hm
 ·rename_i e;rw[if_neg e] at hm;rw[cO,if_neg e];exact hm
theorem vI {s:St} {t:Nat} {v:Nat × TypeId} (h:s.getT t=none):(s.setT t v).ge s:=by
 refine ⟨fun b o h=>h,fun x m hm=>?_,fun x h=>h⟩;rw[cO];by_cases e:t=x
 ·subst e;rw[h] at hm;cases hm
 ·rw[if_neg e];exact hm
theorem aGT {X:St} {r q:Nat} {A' B' C':Ob} (hq:X.getO q=none) (_:q≠r):(((X.setO r A').setO q B').setO r C').ge (X.setO r C'):=by
 refine ⟨fun d x hx=>?_,fun u m hm=>hm,fun x hx=>hx⟩;rw[aJ] at hx ⊢;by_cases h1:r=d
 ·rw[if_pos h1] at hx ⊢;exact hx
 ·rw[if_neg h1] at hx ⊢;rw[aJ];by_cases h2:q=d
  ·subst h2;rw[hq] at hx;cases hx
  ·rw[if_neg h2,aJ,if_neg h1];exact hx
structure St.gx (s1 s:St) (r:Nat):Prop where
 ob:∀ c,c≠r→∀ x,s.getO c=some x→s1.getO c=some x
 tk:∀ t m,s.getT t=some m→s1.getT t=some m
 ls:∀ x,s.ls=some x→s1.ls=some x
theorem fF (s:St) (r:Nat):s.gx s r:=⟨fun _ _ _ h=>h,fun _ _ h=>h,fun _ h=>h⟩
theorem eQ {s1 s:St} {r:Nat} {o:Ob} (h:s1.gx s r):(s1.setO r o).gx s r :=
 ⟨fun c hc x hx=>by rw[aJ,if_neg (Ne.symm hc)];exact h.ob c hc x hx,h.tk,h.ls⟩
theorem cT {s1 s:St} {r b:Nat} {o:Ob} (hb:s.getO b=none) (h:s1.gx s r):(s1.setO b o).gx s r :=
 ⟨fun c hc x hx => by
  rw[aJ];by_cases hbc:b=c
  ·subst hbc;rw[hb] at hx;cases hx
  ·rw[if_neg hbc];exact h.ob c hc x hx,h.tk,h.ls⟩
theorem aEQ {s1 s:St} {r t:Nat} {v:Nat × TypeId} (ht:s.getT t=none) (h:s1.gx s r):(s1.setT t v).gx s r :=
 ⟨h.ob,fun u m hm => by
  rw[cO];by_cases htu:t=u
  ·subst htu;rw[ht] at hm;cases hm
  ·rw[if_neg htu];exact h.tk u m hm,h.ls⟩
theorem St.gx.dropT {s1 s:St} {r t:Nat} {v:Nat × TypeId} (h:s1.gx (s.setT t v) r) (ht:s.getT t=none):s1.gx s r :=
 ⟨h.ob,fun u m hm => h.tk u m (by
  rw[cO];by_cases htu:t=u
  ·subst htu;rw[ht] at hm;cases hm
  ·rw[if_neg htu];exact hm),h.ls⟩
theorem gX {s1 s:St} {r:Nat} {tk:Option Nat} {n:Nat} {e:TypeId} (h:s1.gx s r) (hf:∀ t,tk=some t→s.getT t=none):(gs s1 tk n e).gx s r:=by
 cases tk with
 | none=>exact h
 | some t=>exact aEQ (hf t rfl) h
theorem pR {s1 s:St} {r:Nat} {l:Option (Nat × Nat × A)} (h:s1.gx s r) (hl:l=s.ls):(s1.setL l).gx s r :=
 ⟨h.ob,h.tk,fun x hx=>by rw[hl];exact hx⟩
theorem sS {s1 s:St} {r:Nat} {l m:Option (Nat × Nat × A)} (h:s1.gx s r) (hl:l=s.ls):((s1.setL m).setL l).gx s r:=pR (s1:=s1) h hl
theorem St.gx.trans {s2 s1 s:St} {r:Nat} (h:s2.gx s1 r) (h':s1.gx s r):s2.gx s r :=
 ⟨fun c hc x hx=>h.ob c hc x (h'.ob c hc x hx),fun t m hm=>h.tk t m (h'.tk t m hm),fun x hx=>h.ls x (h'.ls x hx)⟩
theorem St.gx.ge {s1 s:St} {r:Nat} {o:Ob} (h:s1.gx s r) (hr:s1.getO r=some o):s1.ge (s.setO r o):=by
 refine ⟨fun c x hx=>?_,h.tk,h.ls⟩;rw[aJ] at hx;by_cases hc:r=c
 ·subst hc;rw[if_pos rfl] at hx;rw[hr];exact hx
 ·rw[if_neg hc] at hx;exact h.ob c (Ne.symm hc) x hx
def zF:List A→List A→Prop
 | [],[]=>True
 | a::l,b::r=>qY a.cells b.cells∧zF l r
 | _,_=>False
theorem aEn:∀ {l r:List A},zF l r→l.length=r.length
 | [],[],_=>rfl
 | _::_,_::_,h=>by simp only[aF,aEn h.2]
theorem aEv:∀ {l r:List A},zF l r→∀ (i:Nat) (b:A),r[i]?=some b→∃ a:A,l[i]?=some a∧qY a.cells b.cells
 | a::l,b::r,h,0,x,hx=>by
  simp only[kI,bM] at hx ⊢;subst hx;exact ⟨a,rfl,h.1⟩
 | a::l,b::r,h,i+1,x,hx=>by
  simp only[List.getElem?_cons_succ] at hx ⊢;exact aEv h.2 i x hx
 | [],[],_,_,_,hx=>by simp at hx
theorem A.le.list {l r:List A} (h:zF l r):A.le (.list none l) (.list none r):=fun g v x=>by
 have hlen:=aEn h;cases x with
 | list tk es b off sz cap pre hp hl hc hm hs h1 hh ht =>
  rw[hlen]
  have key:∀ e,e∈r→∃ (i:Nat) (a:A),l[i]?=some a∧r[i]?=some e∧qY a.cells e.cells:=fun e he=>by
   obtain ⟨i,hi,rfl⟩:=iT he;obtain ⟨a,h2,h3⟩:=aEv h i _ (cH hi);exact ⟨i,a,h2,cH hi,h3⟩
  refine .list none r b off sz cap pre hp (by rw[← hlen];exact hl) (by rw[← hlen];exact hc) hm (fun e he=>?_) (fun e he c hc=>?_) (fun i e j c v hi hj hv=>?_) (by simp)
  ·obtain ⟨i,a,h2,_,h3⟩:=key e he;rw[← aBZ h3];exact hs a (fJ h2)
  ·obtain ⟨i,a,h2,_,h3⟩:=key e he;obtain ⟨j,hj,rfl⟩:=iT hc;exact (vQ h3 j _ (cH hj)).choose_spec.2.2
  ·obtain ⟨a,h2,h3⟩:=aEv h i e hi;obtain ⟨c0,h4,h5,_⟩:=vQ h3 j c hj;exact h5 g v (hh i a j c0 v h2 h4 hv)
 | list0 tk a cap hm ht =>
  have:r=[]:=gR (by rw[← hlen];rfl);subst this;exact .list0 none a cap hm (by simp)
theorem aG1 {C:Cx} {s:St} {f:FuncId} {args:List A} {KV Kp:St→A→Prop} (h:Den C f args (fun s' a=>KV (s'.setL s.ls) a) (fun s' a=>Kp (s'.setL s.ls) a) s):Den C f args KV Kp s:=by
 intro F g w vals hR hv;have key:∀ (g':Gh) (s':St) (w':World),g.le g'→R C.toCtx F g' s' w'→R C.toCtx F g' (s'.setL s.ls) w':=fun g' s' w' h1 h2=>h2.setL fun y hy=>(hR.lst y hy).mono h1
 have:=h F g w vals hR hv;revert this;generalize (callFunc f vals.toArray).run C.P w=r;intro hr;cases r with
 | ok x w' =>
  cases x<;>simp only[OutV] at hr ⊢
  ·obtain ⟨g',a,s',a1,a2,a3,a4⟩:=hr;exact ⟨g',a,_,a1,key _ _ _ a1 a2,a3,a4⟩
  ·obtain ⟨g',s',a1,a2,a3⟩:=hr;exact ⟨g',_,a1,key _ _ _ a1 a2,a3⟩
  ·refine Calls.mono hr fun en w'' hp=>?_
   cases en with
   | returned v=>obtain ⟨g',a,s',a1,a2,a3,a4⟩:=hp;exact ⟨g',a,_,a1,key _ _ _ a1 a2,a3,a4⟩
   | panicked lQ=>obtain ⟨g',a,v,s',a0,a1,a2,a3,a4⟩:=hp;exact ⟨g',a,v,_,a0,a1,key _ _ _ a1 a2,a3,a4⟩
   | outgrown=>exact hp
 | halt x w' =>
  cases x<;>simp only[OutV] at hr ⊢
  obtain ⟨g',a,s',a1,a2,a3,a4⟩:=hr;exact ⟨g',a,_,a1,key _ _ _ a1 a2,a3,a4⟩
@[go_sem] theorem aS9 (s:St) (x y:Option (Nat × Nat × A)):(s.setL x).setL y=s.setL y:=rfl
theorem oE {f:FuncId} {l:List A} {KV Kp:St→A→Prop} {s:St} (h:Den cx f l KV Kp s):Den nA f l KV Kp s:=by assumption
structure St.gel (s1 s:St) (L M:List Nat):Prop where
 ob:∀ c,c ∉ L→∀ x,s.getO c=some x→s1.getO c=some x
 tk:∀ t,t ∉ M→∀ m,s.getT t=some m→s1.getT t=some m
 ls:∀ x,s.ls=some x→s1.ls=some x
theorem vN (s:St) (L M:List Nat):s.gel s L M:=⟨fun _ _ _ h=>h,fun _ _ _ h=>h,fun _ h=>h⟩
theorem mT {s1 s:St} (h:s1.gel s [] []):s1.ge s:=⟨fun c x hx=>h.ob c (by simp) x hx,fun t m hm=>h.tk t (by simp) m hm,h.ls⟩
theorem aHx {s1 s:St} {r:Nat} (h:s1.gx s r) {L M:List Nat} (hr:r∈L):s1.gel s L M :=
 ⟨fun c hc x hx=>h.ob c (fun e=>hc (e▸hr)) x hx,fun t _ m hm=>h.tk t m hm,h.ls⟩
theorem aBx {s1 s:St} (h:s1.ge s) (L M:List Nat):s1.gel s L M:=⟨fun c _ x hx=>h.ob c x hx,fun t _ m hm=>h.tk t m hm,h.ls⟩
theorem St.gel.trans {s2 s1 s:St} {L M:List Nat} (h:s2.gel s1 L M) (h':s1.gel s L M):s2.gel s L M :=
 ⟨fun c hc x hx=>h.ob c hc x (h'.ob c hc x hx),fun t ht m hm=>h.tk t ht m (h'.tk t ht m hm),fun x hx=>h.ls x (h'.ls x hx)⟩
theorem rT {s1 s:St} {L M:List Nat} {b:Nat} {o:Ob} (hb:s1.getO b=some o) (h:s1.gel s (b::L) M):s1.gel (s.setO b o) L M :=
 ⟨fun c hc x hx => by
  rw[aJ] at hx;by_cases e:b=c
  ·subst e;rw[if_pos rfl] at hx;rw[hb];exact hx
  ·rw[if_neg e] at hx;exact h.ob c (by simp only[iR,not_or];exact ⟨fun h=>e h.symm,hc⟩) x hx,h.tk,h.ls⟩
theorem aNf {s1 s:St} {L M:List Nat} {t:Nat} {v:Nat × TypeId} (ht:s1.getT t=some v) (h:s1.gel s L (t::M)):s1.gel (s.setT t v) L M :=
 ⟨h.ob,fun u hu m hm => by
  rw[cO] at hm;by_cases e:t=u
  ·subst e;rw[if_pos rfl] at hm;rw[ht];exact hm
  ·rw[if_neg e] at hm;exact h.tk u (by simp only[iR,not_or];exact ⟨fun h=>e h.symm,hu⟩) m hm,h.ls⟩
theorem vW {s1 s:St} {L M:List Nat} {b:Nat} {o:Ob} (hb:b∈L) (h:s1.gel s L M):(s1.setO b o).gel s L M :=
 ⟨fun c hc x hx => by
  rw[aJ,if_neg (fun e:b=c=>hc (e▸hb))];exact h.ob c hc x hx,h.tk,h.ls⟩
theorem sX {s1 s:St} {L M:List Nat} {b:Nat} {o:Ob} (hb:s.getO b=none) (h:s1.gel s L M):(s1.setO b o).gel s L M :=
 ⟨fun c hc x hx => by
  rw[aJ];by_cases e:b=c
  ·subst e;rw[hb] at hx;cases hx
  ·rw[if_neg e];exact h.ob c hc x hx,h.tk,h.ls⟩
theorem aOj {s1 s:St} {L M:List Nat} {t:Nat} {v:Nat × TypeId} (hb:t∈M) (h:s1.gel s L M):(s1.setT t v).gel s L M :=
 ⟨h.ob,fun c hc x hx => by
  rw[cO,if_neg (fun e:t=c=>hc (e▸hb))];exact h.tk c hc x hx,h.ls⟩
theorem aBI {s1 s:St} {L M:List Nat} {t:Nat} {v:Nat × TypeId} (hb:s.getT t=none) (h:s1.gel s L M):(s1.setT t v).gel s L M :=
 ⟨h.ob,fun c hc x hx => by
  rw[cO];by_cases e:t=c
  ·subst e;rw[hb] at hx;cases hx
  ·rw[if_neg e];exact h.tk c hc x hx,h.ls⟩
theorem aH2 {s1 s:St} {L M:List Nat} {b:Nat} (hb:s.getO b=none) (h:s1.gel s (b::L) M):s1.gel s L M :=
 ⟨fun c hc x hx => h.ob c (by
  simp only[iR,not_or];exact ⟨fun e=>(by subst e;rw[hb] at hx;cases hx),hc⟩) x hx,h.tk,h.ls⟩
theorem aI5 {s1 s:St} {L M:List Nat} {tk:Option Nat} {n:Nat} {e:TypeId} (h:s1.gel s L M) (hf:∀ t,tk=some t→s.getT t=none):(gs s1 tk n e).gel s L M:=by
 cases tk with
 | none=>exact h
 | some t=>exact aBI (hf t rfl) h
theorem uE {s1 s:St} {L M:List Nat} {tk:Option Nat} {n:Nat} {e:TypeId} (hf:∀ t,tk=some t→s1.getT t=some (n,e)) (h:s1.gel s L (tk.toList++M)):s1.gel (gs s tk n e) L M:=by
 cases tk with
 | none=>exact h
 | some t=>exact aNf (hf t rfl) h
theorem aHe {s1 s:St} {L M:List Nat} {tk:Option Nat} {n:Nat} {e:TypeId} (h:s1.gel s L M):(gs s1 tk n e).gel (gs s tk n e) L M:=by
 cases tk with
 | none=>exact h
 | some t =>
  refine ⟨h.ob,fun u hu m hm=>?_,h.ls⟩;simp only[gs,cO] at hm ⊢;split
  ·rename_i e;rw[if_pos e] at hm;exact hm
  ·rename_i e;rw[if_neg e] at hm;exact h.tk u hu m hm
theorem aOp {s1:St} {tk:Option Nat} {n:Nat} {e:TypeId}:∀ t,tk=some t→(gs s1 tk n e).getT t=some (n,e):=by
 rintro t rfl;rw[eZ,if_pos rfl]
@[go_sem] theorem getT_setO (s:St) (b:Nat) (o:Ob) (t:Nat):(s.setO b o).getT t=s.getT t:=rfl
theorem gB1 {s1 s:St} {L M:List Nat} {tk:Option Nat} {n:Nat} {e:TypeId} (h:s1.gel s L (tk.toList++M)) (hf:∀ t,tk=some t→s1.getT t=some (n,e):=by (rintro _ ⟨⟩;simp only[getT_setO,vH,cO,qJ,eZ,reduceIte,aR,aF,aH,aI,gU,Nat.add_zero]<;>fail)):s1.gel (gs s tk n e) L M:=uE hf h
theorem gB2 {s1 s:St} {L M:List Nat} {t:Nat} {v:Nat × TypeId} (h:s1.gel s L M) (hb:t∈M:=by (simp only[Option.toList,jZ,gQ,iR,true_or,or_true]<;>fail)):(s1.setT t v).gel s L M:=aOj hb h
theorem gB3 {s1 s:St} {L M:List Nat} {b:Nat} {o:Ob} (h:s1.gel s L M) (hb:b∈L:=by (simp only[iR,true_or,or_true]<;>fail)):(s1.setO b o).gel s L M:=vW hb h
abbrev eR:=Option Nat × Nat × TypeId
def cY (s:St):List eR→St
 | []=>s
 | o::l=>gs (cY s l) o.1 o.2.1 o.2.2
structure OwnOk (s:St) (l:List eR):Prop where
 free:∀ o,o∈l→∀ t,o.1=some t→s.getT t=none
 nil:∀ o,o∈l→o.1=none→o.2.1=0
 dst:∀ (i j:Nat) (a b:eR) (t:Nat),l[i]?=some a→l[j]?=some b→a.1=some t→b.1=some t→i=j
@[go_sem] theorem aB (s : St) (l : List eR) (b : Nat) : (cY s l).getO b = s.getO b := by
  induction l with
  | nil=>rfl
  | cons o l ih=>simp only[cY,aT,ih]
@[go_sem] theorem kL (s : St) (l : List eR) (b : Nat) (o : Ob) : (cY s l).setO b o = cY (s.setO b o) l := by
  induction l with
  | nil=>rfl
  | cons a l ih=>simp only[cY,aB5,ih]
theorem aFr (s:St) (tk:Option Nat) (n:Nat) (e:TypeId):(gs s tk n e).ls=s.ls:=by cases tk<;>rfl
@[go_sem] theorem yJ (s : St) (l : List eR) : (cY s l).ls = s.ls := by
  induction l with
  | nil=>rfl
  | cons o l ih=>simp only[cY,aFr,ih]
theorem pT (s:St) (l:List eR) (u:Nat):(cY s l).getT u=match l.find? (fun o=>decide (o.1=some u)) with|some o=>some o.2|none=>s.getT u:=by
 induction l with
 | nil=>rfl
 | cons o l ih =>
  simp only[cY,eZ,List.find?];by_cases h:o.1=some u
  ·simp only[h,if_true,kA]
  ·simp only[h,if_false,pN,ih]
theorem aKP {s:St} {l:List eR} (h:OwnOk s l) {k:Nat} {o:eR} (hk:l[k]?=some o) {t:Nat} (ht:o.1=some t):(cY s l).getT t=some o.2:=by
 rw[pT];cases hf:l.find? (fun o=>decide (o.1=some t)) with
 | none =>
  have:=wT.1 hf o (fJ hk);simp[ht] at this
 | some a =>
  have h1:=List.find?_some hf;have h2:=aA3 hf;obtain ⟨j,hj,rfl⟩:=iT h2;have hj':l[j]?=some l[j]:=cH hj;have:=h.dst j k _ _ t hj' hk (by simpa using h1) ht;subst this;rw[hj'] at hk;cases hk;rfl
theorem aLt {s:St} {l:List eR} {t:Nat} (h:∀ o,o∈l→o.1≠some t):(cY s l).getT t=s.getT t:=by
 rw[pT,wT.2 (fun o ho=>by simpa using h o ho)]
theorem mR {s:St} {l:List eR} (h:OwnOk s l) {k:Nat} {o:eR} (hk:l[k]?=some o):lS (cY s l) o.1 o.2.1 o.2.2:=by
 obtain ⟨tk,n,e⟩:=o;cases tk with
 | none=>exact h.nil _ (fJ hk) rfl
 | some t=>exact aKP h hk rfl
theorem OwnOk.to {s X:St} {l:List eR} (h:OwnOk s l) (hX:∀ t,X.getT t=s.getT t):OwnOk X l:=⟨fun o ho t ht=>by rw[hX];exact h.free o ho t ht,h.nil,h.dst⟩
theorem fV {s X:St} {l:List eR} (h:OwnOk s l) {k:Nat} {o:eR} (hk:l[k]?=some o) (hX:∀ t,X.getT t=s.getT t):lS (cY X l) o.1 o.2.1 o.2.2:=mR (h.to hX) hk
theorem fX {s X:St} {l:List eR} (h:OwnOk s l) {k:Nat} {o:eR} (hk:l[k]?=some o) {t:Nat}
  (ht:o.1=some t∨o.1=none∧(cY X l).getT t=none) (hX:∀ t,X.getT t=s.getT t) (n:Nat):OwnOk s (l.set k (some t,n,o.2.2)):=by
 have hfree:s.getT t=none∧∀ (j:Nat) (a:eR),l[j]?=some a→a.1=some t→j=k:=by
  rcases ht with e|⟨e,e2⟩
  ·exact ⟨h.free o (fJ hk) t e,fun j a ha hat=>h.dst j k a o t ha hk hat e⟩
  ·rw[pT] at e2;cases hf:l.find? (fun o=>decide (o.1=some t)) with
   | some a=>rw[hf] at e2;cases e2
   | none =>
    rw[hf] at e2;refine ⟨by rw[← hX];exact e2,fun j a ha hat=>?_⟩;have:=wT.1 hf a (fJ ha);simp[hat] at this
 have hlt:k<l.length:=by
  rcases sP k l.length with h|h
  ·exact h
  ·rw[tZ h] at hk;cases hk
 refine ⟨fun a ha u hu=>?_,fun a ha hn=>?_,fun i j a b u hi hj ha hb=>?_⟩
 ·rcases wS ha with ha|rfl
  ·exact h.free a ha u hu
  ·cases hu;exact hfree.1
 ·rcases wS ha with ha|rfl
  ·exact h.nil a ha hn
  ·cases hn
 ·rw[sK] at hi hj;split at hi<;>split at hj
  ·rename_i e1 e2;rw[← e1,← e2]
  ·rename_i e1 e2
   try rw[if_pos hlt] at hi
   cases hi;cases ha;exact (e2 (hfree.2 j b hj hb).symm).elim
  ·rename_i e1 e2
   try rw[if_pos hlt] at hj
   cases hj;cases hb;exact (e1 (hfree.2 i a hi ha).symm).elim
  ·exact h.dst i j a b u hi hj ha hb
theorem fW {s X:St} {l:List eR} (h:OwnOk s l) {k:Nat} {o:eR} (hk:l[k]?=some o) {t n:Nat} (h':OwnOk s (l.set k (some t,n,o.2.2)))
  (hX:∀ t,X.getT t=s.getT t):((cY X l).setT t (n,o.2.2)).ge (cY X (l.set k (some t,n,o.2.2))):=by
 have hlt:k<l.length:=by
  rcases sP k l.length with h|h
  ·exact h
  ·rw[tZ h] at hk;cases hk
 have hk':(l.set k (some t,n,o.2.2))[k]?=some (some t,n,o.2.2):=by rw[sK,if_pos rfl,if_pos hlt]
 refine ⟨fun b o h=>by rw[aB] at h;rw[gE,aB];exact h,fun u m hm=>?_,fun x hx=>by rw[yJ] at hx;show (cY X l).ls=_;rw[yJ];exact hx⟩;rw[cO];rw[pT] at hm;cases hf:(l.set k (some t,n,o.2.2)).find? (fun o=>decide (o.1=some u)) with
 | some a =>
  rw[hf] at hm;have h1:=List.find?_some hf;have h2:=aA3 hf;simp only[eC] at h1;obtain ⟨j,hj,e⟩:=iT h2;have hj':(l.set k (some t,n,o.2.2))[j]?=some a:=by rw[cH hj,e]
  by_cases htu:t=u
  ·subst htu;have:=h'.dst j k a _ t hj' hk' h1 rfl;subst this;rw[hj'] at hk';cases hk';rw[if_pos rfl];exact hm
  ·rw[if_neg htu]
   have hjk:k≠j:=fun e=>by
    subst e;rw[hj'] at hk';cases hk';exact htu (by simpa using h1)
   rw[sK,if_neg hjk] at hj'
   have h3:(cY X l).getT u=some a.2:=by
    rw[pT];cases hf2:l.find? (fun o=>decide (o.1=some u)) with
    | none =>
     have:=wT.1 hf2 a (fJ hj');simp[h1] at this
    | some c =>
     have h4:=List.find?_some hf2;simp only[eC] at h4;obtain ⟨i,hi,e⟩:=iT (aA3 hf2);have hi':l[i]?=some c:=by rw[cH hi,e]
     have:=h.dst i j c a u hi' hj' h4 h1;subst this;rw[hi'] at hj';cases hj';rfl
   rw[h3];exact hm
 | none =>
  rw[hf] at hm;have hno:=wT.1 hf
  have htu:¬ t=u:=fun e=>by
   have:=hno _ (fJ hk');simp[e] at this
  rw[if_neg htu,pT];cases hf2:l.find? (fun o=>decide (o.1=some u)) with
  | none=>exact hm
  | some c =>
   have h4:=List.find?_some hf2;simp only[eC] at h4;have:=h.free c (aA3 hf2) u h4;rw[← hX] at this;have hm:X.getT u=some m:=hm;rw[this] at hm;cases hm
theorem cR {X Y:St} {l:List eR} (h:X.ge Y):(cY X l).ge (cY Y l):=by
 induction l with
 | nil=>exact h
 | cons o l ih=>exact mT (aHe (aBx ih _ _))
theorem aIs {X s:St} {l:List eR} {L M:List Nat} (hf:∀ o,o∈l→∀ t,o.1=some t→s.getT t=none) (h:X.gel s L M):(cY X l).gel s L M:=by
 induction l with
 | nil=>exact h
 | cons o l ih=>exact aI5 (ih fun a ha=>hf a (by simp[ha])) (hf o (by simp))
theorem aE8 {X s:St} {l:List eR} {r:Nat} (hf:∀ o,o∈l→∀ t,o.1=some t→s.getT t=none) (h:X.gx s r):(cY X l).gx s r:=by
 induction l with
 | nil=>exact h
 | cons o l ih=>exact gX (ih fun a ha=>hf a (by simp[ha])) (hf o (by simp))
theorem aBQ {s:St} {l:List eR} {s2:St} (hs:s.ge s2) (h:∀ o,o∈l→∀ t,o.1=some t→s2.getT t=none):(cY s l).ge s2:=mT (aIs h (aBx hs _ _))
theorem aHN {α:Type} (p:α→Bool) (a:α) (ha:p a=false):∀ (l:List α) (k:Nat),(∀ x,l[k]?=some x→p x=false)→(l.set k a).find? p=l.find? p
 | [],k,h=>by simp
 | x::l,0,h=>by
  have:=h x (by simp);simp only[lV,List.find?,ha,this]
 | x::l,k+1,h=>by
  have ih:=aHN p a ha l k (fun y hy=>h y (by simpa using hy));simp only[lF,List.find?,ih]
theorem aHf {s X:St} {l:List eR} (h:OwnOk s l) {k:Nat} {o:eR} (hk:l[k]?=some o) (n:Nat) (e:TypeId) (u:Nat) :
  (gs (cY X (l.set k (none,n,e))) o.1 o.2.1 o.2.2).getT u=(cY X l).getT u:=by
 rw[eZ];by_cases ho:o.1=some u
 ·rw[if_pos ho,pT];cases hf:l.find? (fun o=>decide (o.1=some u)) with
  | none =>
   have:=wT.1 hf o (fJ hk);simp[ho] at this
  | some a =>
   have h1:=List.find?_some hf;obtain ⟨j,hj,e1⟩:=iT (aA3 hf);have hj':l[j]?=some a:=by rw[cH hj,e1]
   have:=h.dst j k a o u hj' hk (by simpa using h1) ho;subst this;rw[hj'] at hk;cases hk;rfl
 ·rw[if_neg ho,pT,pT,aHN _ _ (by simp) l k (fun x hx=>by rw[hk] at hx;cases hx;simpa using ho)]
theorem aHk {s X:St} {l:List eR} (h:OwnOk s l) {k:Nat} {o:eR} (hk:l[k]?=some o) (n:Nat) (e:TypeId) :
  (cY X l).ge (gs (cY X (l.set k (none,n,e))) o.1 o.2.1 o.2.2) :=
 ⟨fun b x hb=>by rw[aT,aB] at hb;rw[aB];exact hb,fun u m hm=>by rw[aHf h hk] at hm;exact hm,fun x hx=>by rw[aFr,yJ] at hx;rw[yJ];exact hx⟩
theorem aHS {s X:St} {l:List eR} {k:Nat} {tk:Option Nat} {m:Nat} {e:TypeId} (hk:k<l.length) (h:OwnOk s (l.set k (tk,m,e))) (n:Nat) (e':TypeId) :
  (gs (cY X (l.set k (none,n,e'))) tk m e).ge (cY X (l.set k (tk,m,e))):=by
 have hk':(l.set k (tk,m,e))[k]?=some (tk,m,e):=by rw[sK,if_pos rfl,if_pos hk]
 have key:=aHf (X:=X) h hk' n e';rw[List.set_set] at key;exact ⟨fun b x hb=>by rw[aB] at hb;rw[aT,aB];exact hb,fun u q hq=>by rw[key];exact hq,fun x hx=>by rw[yJ] at hx;rw[aFr,yJ];exact hx⟩
theorem aIM {s X:St} {l:List eR} (h:OwnOk s l) {k:Nat} {o:eR} (hk:l[k]?=some o) (n:Nat) (e:TypeId) (hX:∀ t,X.getT t=s.getT t) {t:Nat} (ht:o.1=some t):(cY X (l.set k (none,n,e))).getT t=none:=by
 rw[aLt,hX]
 ·exact h.free o (fJ hk) t ht
 ·intro a ha hat;obtain ⟨j,hj,e1⟩:=iT ha;have hj':(l.set k (none,n,e))[j]?=some a:=by rw[cH hj,e1]
  rw[sK] at hj';split at hj'
  ·split at hj'
   ·cases hj';cases hat
   ·cases hj'
  ·rename_i e2;exact e2 (h.dst j k a o t hj' hk hat ht).symm
theorem aHG {s X:St} {l:List eR} (h:OwnOk s l) {k:Nat} (hk:k<l.length) (n:Nat) (e e':TypeId) (hX:∀ t,X.getT t=s.getT t) {tk:Option Nat} {m:Nat}
  (hf:∀ t,tk=some t→(cY X (l.set k (none,n,e'))).getT t=none) (hn:tk=none→m=0):OwnOk s (l.set k (tk,m,e)):=by
 have key:∀ t,tk=some t→s.getT t=none∧∀ (j:Nat) (a:eR),j≠k→l[j]?=some a→a.1≠some t:=by
  intro t ht;have h1:=hf t ht;rw[pT] at h1;cases hq:(l.set k (none,n,e')).find? (fun o=>decide (o.1=some t)) with
  | some a=>rw[hq] at h1;cases h1
  | none =>
   rw[hq] at h1;refine ⟨by rw[← hX];exact h1,fun j a hj ha hat=>?_⟩;have h2:(l.set k (none,n,e'))[j]?=some a:=by rw[sK,if_neg (fun e=>hj e.symm)];exact ha
   have:=wT.1 hq a (fJ h2);simp[hat] at this
 refine ⟨fun a ha u hu=>?_,fun a ha hn'=>?_,fun i j a b u hi hj ha hb=>?_⟩
 ·rcases wS ha with ha|rfl
  ·exact h.free a ha u hu
  ·exact (key u hu).1
 ·rcases wS ha with ha|rfl
  ·exact h.nil a ha hn'
  ·exact hn hn'
 ·rw[sK] at hi hj;by_cases e1:k=i<;>by_cases e2:k=j
  ·rw[← e1,← e2]
  ·rw[if_pos e1,if_pos hk] at hi;rw[if_neg e2] at hj;cases hi;exact ((key u ha).2 j b (fun e=>e2 e.symm) hj hb).elim
  ·rw[if_neg e1] at hi;rw[if_pos e2,if_pos hk] at hj;cases hj;exact ((key u hb).2 i a (fun e=>e1 e.symm) hi ha).elim
  ·rw[if_neg e1] at hi;rw[if_neg e2] at hj;exact h.dst i j a b u hi hj ha hb
theorem R.soft {C:Ctx} {F:Fr} {g:Gh} {s:St} {w:World} (h:R C F g s w) {b:Nat} {e:TypeId} {cs cs':List A} (hb:s.getO b=some (.cells e cs)) (hl:qY cs cs') :
  R C F g (s.setO b (.cells e cs')) w where
 env:=h.env
 obj:=fun c o ho=>by
  rw[aJ] at ho;split at ho
  ·rename_i e1;subst e1;cases ho;obtain ⟨k,h1,h2,h3⟩:=h.obj b _ hb;refine ⟨k,h1,?_,h3⟩;obtain ⟨vs,rest,e1,e2,e3⟩:=h2;refine ⟨vs,rest,e1,⟨by rw[e2.1,aBZ hl],fun j a v ha hv=>?_⟩,fun c hc=>?_⟩
   ·obtain ⟨a0,ha0,h4,_⟩:=vQ hl j a ha;exact h4 g v (e2.2 j a0 v ha0 hv)
   ·obtain ⟨j,hj,rfl⟩:=iT hc;obtain ⟨_,_,_,h5⟩:=vQ hl j cs'[j] (cH hj);exact h5
  ·exact h.obj c o ho
 tok:=h.tok
 sep:=h.sep
 pis:=h.pis
 frm:=h.frm
 glb:=h.glb
 fsh:=h.fsh
 bet:=h.bet
 inj:=h.inj
 dtm:=h.dtm
 lst:=h.lst
 bfr:=h.bfr
theorem Den.soft {C:Cx} {s:St} {f:FuncId} {args:List A} {KV Kp:St→A→Prop} {b:Nat} {e:TypeId} {cs cs':List A} (hb:s.getO b=some (.cells e cs)) (hl:qY cs cs')
  (h:Den C f args KV Kp (s.setO b (.cells e cs'))):Den C f args KV Kp s:=fun F g w vals hR hv=>h F g w vals (hR.soft hb hl) hv
section
theorem gH {p:Prop} (h:p:=by (simp only[aJ,dN,gE,aT,aB,ne_eq,dK,reduceIte, *]<;>(first|done|rfl|assumption))):p:=h
theorem dA {s1 s:St} (h:s1.ge s:=by (repeat (first|exact bA _|refine nI (by first|(simp only[*];done)|assumption) ?_))):s1.ge s:=h
theorem aQ {s1 s:St} {r:Nat} (h:s1.gx s r:=by (repeat (first|refine aE8 (by assumption) ?_|exact fF _ _|refine eQ ?_|refine gX ?_ (by assumption)|refine aEQ (by assumption) ?_|refine cT (by first|(simp only[*];done)|assumption) ?_|refine aEQ (by first|(simp only[*];done)|assumption) ?_))):s1.gx s r:=h
theorem kQ {s1 s:St} {L M:List Nat} (h:s1.gel s L M:=by (repeat (first|exact vN _ _ _|exact aBx (by assumption) _ _|refine aIs (by assumption) ?_|refine aHe ?_|refine uE aOp ?_|refine gB1 ?_|refine gB2 ?_|refine aI5 ?_ (by assumption)|refine aBI (by assumption) ?_|refine rT gH ?_|refine gB3 ?_|refine sX (by first|(simp only[*];done)|assumption) ?_))):s1.gel s L M:=h
theorem aL {s1 s:St} (h:s1.gel s [] []:=by exact kQ):s1.ge s:=mT h
theorem aZ {f:FuncId} {c:Code} {args:List A} {KV Kp:St→A→Prop} {s:St} {fn:Func} (hf:cx.P.funcs[f]?=some fn) (V:List Nat)
  (h:gO cx fn.ntmps V c (lB cx fn.results.toList (DK KV) (DK Kp)) (lR 0 args) s)
  (hb:fn.body=some c:=by exact rfl)
  (hname : (fn.name == "runtime.NumGoroutine") = false := by exact rfl) (hn : args.length ≤ fn.ntmps := by exact kP rfl) : Den cx f args KV Kp s :=
 Den.drop (aDV hf hb hname hn (bV _ _ _ _ h))
theorem zJ {f:FuncId} {c:Code} {args:List A} {KV Kp:St→A→Prop} {s:St} {fn:Func} (hf:nA.P.funcs[f]?=some fn) (V:List Nat)
  (h:gO nA fn.ntmps V c (lB nA fn.results.toList (DK KV) (DK Kp)) (lR 0 args) s)
  (hb:fn.body=some c:=by exact rfl)
  (hname : (fn.name == "runtime.NumGoroutine") = false := by exact rfl) (hn : args.length ≤ fn.ntmps := by exact kP rfl) : Den cx f args KV Kp s :=
 Den.drop (aOT (aDV (C:=nA) hf hb hname hn (bV _ _ _ _ h)))
theorem cD {P:Option A→Prop} {b:Bool} (h1:b=true→P (some (.bool true))) (h2:b=false→P (some (.bool false))):P (some (.bool b)):=by
 cases b
 ·exact h2 rfl
 ·exact h1 rfl
def OT.r:Nat→Nat→OT
 | _,0=>.nil
 | i,k+1=>.node i (OT.r (i+1) k)
attribute [go_sem] OT.r
section
variable {C:Cx} {n:Nat} {ops:Array Oper} {s:St} {Kp:St→A→Prop} {id:Nat} {V:List Nat} {Q0:XK→Env→St→Prop} {e:Env}
theorem aP (t:OT) (E:List (Nat × List Nat))
  (h:gP C n (ops.toList.map (·.dst)) ops.toList E (mG V Q0) (tK Q0 (ops.toList.map (·.dst)) e) t [] e s)
  (hm:C.P.follows .mixedOrders=true:=by exact aH5)
  (hck:(wP ops E&&nS ops ops.size (Array.replicate ops.size false) t&&tE C.tt ops)=true:=by decide +kernel) :
  aCt C n id ops (mH (mG V Q0) Q0) e s:=aOL t E hm hck h
end
end
section
def Tok.name (t:Tok):aD:=if t.kind=2 then Lib.itoa t.n else t.text
def dC (t:Tok) (x:aD):Bool:=(decide (t.kind=4)||decide (t.kind=1))&&decide (t.text=x)
def bI (x:aD):List Tok→Bool
 | []=>false
 | t::_=>dC t x
def Tok.free (t:Tok):Bool:=decide (t.kind=1)&&!decide (t.text∈jL)
def eG (fin:Fault) (code:Int):List Tok→Fault
 | []=>fin
 | t::_=>⟨code,t.name,t.line,t.col⟩
def kG (fin:Fault):List Tok→Fault
 | []=>fin
 | t::_=>⟨3,[],t.line,t.col⟩
inductive Rd (α:Type) where
 | ok (a:α) (w:List Tok) (n:Nat)
 | bad (f:Fault)
def Rd.bind {α β:Type} (r:Rd α) (k:α→List Tok→Nat→Rd β):Rd β:=match r with
 | .ok a w n=>k a w n
 | .bad f=>.bad f
def Rd.to {α:Type} (r:Rd α) (k:α→List Tok→Nat→Prop) (b:Fault→Prop):Prop:=match r with
 | .ok a w n=>k a w n
 | .bad f=>b f
theorem bL {α β:Type} (r:Rd α) (k:α→List Tok→Nat→Rd β) (p:β→List Tok→Nat→Prop) (b:Fault→Prop) :
  (r.bind k).to p b=r.to (fun a w n=>(k a w n).to p b) b:=by cases r<;>rfl
theorem aW {α:Type} {r:Rd α} {p p':α→List Tok→Nat→Prop} {b b':Fault→Prop} (h:r.to p b) (hp:∀ a w n,p a w n→p' a w n) (hb:∀ f,b f→b' f):r.to p' b':=by
 cases r with
 | ok a w n=>exact hp a w n h
 | bad f=>exact hb f h
theorem bU {α:Type} (a:α) (w:List Tok) (n:Nat) (p:α→List Tok→Nat→Prop) (b:Fault→Prop):(Rd.ok a w n).to p b=p a w n:=rfl
theorem eH {α:Type} (f:Fault) (p:α→List Tok→Nat→Prop) (b:Fault→Prop):(Rd.bad f:Rd α).to p b=b f:=rfl
theorem xR {α:Type} (c:Prop) [Decidable c] (x y:Rd α) (p:α→List Tok→Nat→Prop) (b:Fault→Prop):(if c then x else y).to p b=if c then x.to p b else y.to p b:=by
 split<;>rfl
section
variable (lk:Bool) (fin:Fault)
def cV (x:aD) (w:List Tok) (n:Nat):Rd Unit:=if bI x w=true then .ok () w.tail n else .bad (eG fin 11 w)
def dS:List Tok→Nat→Rd aD
 | [],_=>.bad fin
 | t::w,n=>if t.free=true then .ok t.text w n else .bad (eG fin 11 (t::w))
def nL (most:Int):List Tok→Nat→Rd Int
 | [],_=>.bad fin
 | t::w,n=>if t.kind=2 then (if t.n<1∨most<t.n then .bad (eG fin 20 (t::w)) else .ok t.n w n) else .bad (eG fin 11 (t::w))
def aCs (have_ most:Nat) (w:List Tok) (n:Nat):Rd Unit:=if most≤have_ then .bad (kG fin w) else .ok () w n
def dH {σ:Type} (sep:aD) (one:σ→List Tok→Nat→Rd σ):Nat→σ→List Tok→Nat→Rd σ
 | 0,_,_,_=>.bad fin
 | f+1,a,w,n=>(one a w n).bind fun a w n=>if bI sep w=true then dH sep one f a w.tail n else .ok a w n
def jX {α:Type} (one:List α→List Tok→Nat→Rd α) (acc:List α) (w:List Tok) (n:Nat):Rd (List α) :=
 dH fin [44] (fun acc w n=>(one acc w n).bind fun a w n=>.ok (acc++[a]) w n) (w.length+1) acc w n
def Tok.begins (t:Tok):Bool :=
 if t.kind=2∨t.kind=3 then true
 else if t.kind=1 then !decide (t.text∈jL)||(decide (t.text=[116,114,117,101])||decide (t.text=[102,97,108,115,101]))
 else decide (t.text∈[[45],[39],[95],[91],[123],[36]])
def mW (x:aD):Bool:=gZ x&&(match x with|c::_=>decide (97≤c.toNat)&&decide (c.toNat≤122)|[]=>false)&&!decide (x=[116,114,117,101])&&!decide (x=[102,97,108,115,101])
def oG (first:Tok) (w:List Tok) (n:Nat):Rd Unit:=if 2000<n+1 then .bad ⟨3,[],first.line,first.col⟩ else .ok () w (n+1)
def nP (first:Tok) (last:Bool) (sort:aD) (w:List Tok) (n:Nat):Rd (List Tm) :=
 if bI [124] w=true then
  match w.tail with
  | []=>.bad fin
  | t::w=>if t.free=true then (if last=true then .bad ⟨19,t.text,t.line,t.col⟩ else (oG first w n).bind fun _ w n=>.ok [.mk 6 0 t.text sort [] []] w n) else .bad (eG fin 11 (t::w))
 else .ok [] w n
def kO (first:Tok) (tm:List Tok→Nat→Rd Tm) (acc:List Tm) (w:List Tok) (n:Nat):Rd Tm :=
 if acc.length=8 then
  match w with
  | []=>.bad fin
  | t::w=>if t.begins=true then .bad (if lk=true∧2000≤n then ⟨3,[],first.line,first.col⟩ else ⟨3,[],t.line,t.col⟩) else tm (t::w) n
 else tm w n
def qQ (first:Tok) (tm:List Tok→Nat→Rd Tm) (t:Tok) (w:List Tok) (n:Nat):Rd Tm :=
 if t.text=[116,114,117,101] then .ok (.mk 2 1 [] [] [] []) w n
 else if t.text=[102,97,108,115,101] then .ok (.mk 2 0 [] [] [] []) w n
 else if bI [58] w=true then (dS fin w.tail n).bind fun x w n=>.ok (.mk 6 0 t.text x [] []) w n
 else (cV fin [40] w n).bind fun _ w n =>
  if bI [41] w=true then .ok (.mk 5 0 t.text [] [] []) w.tail n
  else (jX fin (kO lk fin first tm) [] w n).bind fun l w n=>(cV fin [41] w n).bind fun _ w n=>.ok (.mk 5 0 t.text [] l []) w n
def rD (tm:List Tok→Nat→Rd Tm) (acc:List Tm) (w:List Tok) (n:Nat):Rd (List Tm) :=
 (tm w n).bind fun k w n=>(cV fin [45,62] w n).bind fun _ w n=>(tm w n).bind fun v w n=>.ok (acc++[k,v]) w n
def pG (first:Tok) (tm:List Tok→Nat→Rd Tm) (last:Bool) (t:Tok) (w:List Tok) (n:Nat):Rd Tm :=
 if t.text=[45] then
  match w with
  | []=>.bad fin
  | u::w=>if u.kind=2∧u.line=t.line∧u.col=t.col+1 then .ok (.mk 1 (-u.n) [] [] [] []) w n else .bad (eG fin 11 (u::w))
 else if t.text=[39] then
  match w with
  | []=>.bad fin
  | u::w=>if u.free=true∧mW u.text=true then .ok (.mk 4 0 u.text [] [] []) w n else .bad (eG fin 11 (u::w))
 else if t.text=[91] then
  (if bI [124] w = true ∨ bI [93] w = true then Rd.ok [] w n else jX fin (fun _ => tm) [] w n).bind fun l w n =>
   (nP fin first last [76,105,115,116] w n).bind fun r w n=>(cV fin [93] w n).bind fun _ w n=>.ok (.mk 7 0 [] [] l r) w n
 else if t.text=[123] then
  (if bI [124] w = true ∨ bI [125] w = true then Rd.ok [] w n else dH fin [44] (rD fin tm) (w.length + 1) [] w n).bind fun l w n =>
   (nP fin first last [77,97,112] w n).bind fun r w n=>(cV fin [125] w n).bind fun _ w n=>.ok (.mk 8 0 [] [] l r) w n
 else .ok (.mk 6 0 t.text [65,110,121] [] []) w n
def eE (first:Tok):Nat→List Tok→Nat→Rd Tm
 | _,[],_=>.bad fin
 | 0,t::w,_=>if t.begins=true then .bad (eG fin 19 (t::w)) else .bad (eG fin 11 (t::w))
 | k+1,t::w,n =>
  if t.begins=true then
   (oG first w n).bind fun _ w n =>
    if t.kind=2 then .ok (.mk 1 t.n [] [] [] []) w n
    else if t.kind=3 then .ok (.mk 3 0 t.text [] [] []) w n
    else if t.kind=1 then qQ lk fin first (eE first k) t w n
    else pG fin first (eE first k) (decide (k=0)) t w n
  else .bad (eG fin 11 (t::w))
def gI (w:List Tok) (n:Nat):Rd Tm:=match w with
 | []=>.bad fin
 | t::_=>match eE lk fin t 60 w 0 with
  | .ok a w _=>.ok a w n
  | .bad f=>.bad f
def qR (w:List Tok) (n:Nat):Rd (List Tm) :=
 if bI [105,102] w=true then
  jX fin (fun acc w n=>match w with
   | []=>.bad fin
   | t::r=>if t.begins=true then (aCs fin acc.length 20 (t::r) n).bind fun _ w n=>gI lk fin w n else gI lk fin (t::r) n) [] w.tail n
 else .ok [] w n
def mB {α:Type} (most have_:Nat) (w:List Tok) (n:Nat) (k:List Tok→Nat→Rd α):Rd α:=match w with
 | []=>.bad fin
 | t::r=>if t.free=true∧most≤have_ then .bad (kG fin (t::r)) else k (t::r) n
def uQ (w:List Tok) (n:Nat):Rd Cel:=match w with
 | []=>.bad fin
 | t::r=>(dS fin (t::r) n).bind fun x w n=>(cV fin [58] w n).bind fun _ w n=>(dS fin w n).bind fun y w n=>(cV fin [61] w n).bind fun _ w n =>
   (gI lk fin w n).bind fun i w n=>.ok ⟨x,y,i,t.line,t.col⟩ w n
def uL:Nat→List Piece→List aD→Bool→List Tok→Nat→Rd (List Piece × List aD × Bool)
 | 0,_,_,_,_,_=>.bad fin
 | f+1,ps,az,tx,w,n =>
  if bI [45,62] w=true then .ok (ps,az,tx) w.tail n
  else match w with
   | []=>.bad fin
   | t::w=>if t.kind=3∨t.free=true then
     (if 20≤ps.length then .bad (kG fin (t::w))
     else if t.kind=3 then uL f (ps++[⟨t.text,[]⟩]) az true w n
     else if 8≤az.length then .bad (kG fin (t::w))
     else uL f (ps++[⟨[],t.text⟩]) (az++[t.text]) tx w n)
    else .bad (eG fin 11 (t::w))
def pH:Nat→Opr→List Tok→Nat→Rd Opr
 | 0,_,_,_=>.bad fin
 | f+1,o,w,n =>
  if bI [46] w=true then .ok o w n
  else match w with
   | []=>.bad fin
   | t::w =>
    if ¬ t.kind=1 then .bad (eG fin 11 (t::w))
    else if t.text=[112,114,101,99] then
     (if 0<o.prec then .bad (eG fin 14 (t::w)) else (nL fin 20 w n).bind fun m w n=>pH f { o with prec:=m } w n)
    else if t.text=[108,101,102,116] then
     (if o.assoc=0 then pH f { o with assoc:=1 } w n else .bad (eG fin 14 (t::w)))
    else if t.text=[114,105,103,104,116] then
     (if o.assoc=0 then pH f { o with assoc:=2 } w n else .bad (eG fin 14 (t::w)))
    else if t.text=[115,116,114,105,99,116] then
     (if 0 < o.strict.length then .bad (eG fin 14 (t :: w)) else
      (cV fin [40] w n).bind fun _ w n=>(jX fin (fun _=>nL fin 8) [] w n).bind fun l w n=>(cV fin [41] w n).bind fun _ w n=>pH f { o with strict:=l } w n)
    else .bad (eG fin 11 (t::w))
def zP (w:List Tok) (n:Nat):Rd Opr :=
 (dS fin w n).bind fun x w n => (cV fin [58] w n).bind fun _ w n => (uL fin (w.length + 1) [] [] false w n).bind fun p w n =>
  (dS fin w n).bind fun y w n=>pH fin (w.length+1) ⟨x,p.2.1,y,if p.2.2=true then p.1 else [],0,0,[]⟩ w n
def tF:Nat→List aD→List Tok→Nat→Rd (List aD)
 | 0,_,_,_=>.bad fin
 | f+1,az,w,n =>
  if bI [45,62] w=true then .ok az w.tail n
  else (mB fin 8 az.length w n fun w n=>dS fin w n).bind fun x w n=>tF f (az++[x]) w n
def aAP (w:List Tok) (n:Nat):Rd Opr :=
 (dS fin w n).bind fun x w n => (cV fin [58] w n).bind fun _ w n => (tF fin (w.length + 1) [] w n).bind fun az w n =>
  (dS fin w n).bind fun y w n=>.ok ⟨x,az,y,[],0,0,[]⟩ w n
def tH (r:Rul) (w:List Tok) (n:Nat):Rd Rul:=match w with
 | []=>.bad fin
 | t::w =>
  if dC t [110,101,119]=true then
   (cV fin [40] w n).bind fun _ w n=>(jX fin (fun _=>gI lk fin) [] w n).bind fun l w n=>(cV fin [41] w n).bind fun _ w n=>.ok { r with new:=r.new++[⟨l⟩] } w n
  else if dC t [100,114,111,112]=true then
   (cV fin [64] w n).bind fun _ w n=>(dS fin w n).bind fun x w n=>.ok { r with drop:=r.drop++[x] } w n
  else
   (dS fin (t :: w) n).bind fun x w n =>
    (if bI [64] w = true then dS fin w.tail n else Rd.ok [] w n).bind fun y w n => (cV fin [58] w n).bind fun _ w n => (gI lk fin w n).bind fun l w n =>
     (if bI [61,62] w = true then (gI lk fin w.tail n).bind fun u w n => Rd.ok [u] w n else Rd.ok [] w n).bind fun rs w n =>
      .ok { r with parts:=r.parts++[⟨x,y,l,rs,t.line,t.col⟩] } w n
def yM (c:Rul × Nat) (w:List Tok) (n:Nat):Rd (Rul × Nat):=match w with
 | []=>.bad fin
 | t::r=>if (t.kind=1∧(¬ t.text∈jL∨t.text=[110,101,119]∨t.text=[100,114,111,112]))∧20≤c.2 then .bad (kG fin (t::r))
  else (tH lk fin c.1 (t::r) n).bind fun x w n=>.ok (x,c.2+1) w n
def aCm (line col:Int) (w:List Tok) (n:Nat):Rd Rul :=
 (dS fin w n).bind fun x w n => (cV fin [58] w n).bind fun _ w n =>
  (dH fin [59] (yM lk fin) (w.length+1) (⟨x,[],[],[],[],line,col⟩,0) w n).bind fun c w n=>(qR lk fin w n).bind fun l w n=>.ok { c.1 with cond:=l } w n
def tC (d:Dfn) (t:Tok) (w:List Tok) (n:Nat):Rd Dfn :=
 if dC t [115,116,97,114,116]=true then
  (if d.start=[] then (dS fin w n).bind fun x w n=>.ok { d with start:=x } w n else .bad (eG fin 14 (t::w)))
 else if dC t [119,97,116,99,104]=true then
  (if d.watch=[] then (dS fin w n).bind fun x w n=>.ok { d with watch:=x } w n else .bad (eG fin 14 (t::w)))
 else if dC t [99,101,108,108]=true then
  (if 12≤d.once.length then .bad (kG fin (t::w)) else (uQ lk fin w n).bind fun c w n=>.ok { d with once:=d.once++[c] } w n)
 else if dC t [109,97,110,121]=true then
  (if d.kind = [] then
   (dS fin w n).bind fun x w n => (cV fin [40] w n).bind fun _ w n =>
    (jX fin (fun acc w n=>mB fin 12 acc.length w n fun w n=>uQ lk fin w n) d.many w n).bind fun l w n=>(cV fin [41] w n).bind fun _ w n=>.ok { d with kind:=x,many:=l } w n
  else .bad (eG fin 14 (t::w)))
 else .bad (eG fin 11 (t::w))
def wC (d:Dfn) (w:List Tok) (n:Nat):Rd Dfn:=match w with
 | []=>.bad fin
 | t::w =>
  (if dC t [115,111,114,116] = true then
   (jX fin (fun acc w n=>mB fin 40 acc.length w n fun w n=>dS fin w n) d.sig.sorts w n).bind fun l w n=>Rd.ok { d with sig:={ d.sig with sorts:=l } } w n
  else if dC t [115,117,98,115,111,114,116]=true then
   (if 200 ≤ d.sig.below.length then Rd.bad (kG fin (t :: w)) else
    (dS fin w n).bind fun x w n=>(cV fin [60] w n).bind fun _ w n=>(dS fin w n).bind fun y w n=>Rd.ok { d with sig:={ d.sig with below:=d.sig.below++[⟨x,y⟩] } } w n)
  else if dC t [118,97,108,117,101]=true then
   (jX fin (fun _=>dS fin) [] w n).bind fun l w n=>Rd.ok { d with sig:={ d.sig with values:=d.sig.values++l } } w n
  else if dC t [111,112]=true∨dC t [102,117,110]=true then
   (if 200≤d.sig.ops.length+d.sig.funs.length then Rd.bad (kG fin (t::w))
   else if t.text=[111,112] then (zP fin w n).bind fun o w n=>Rd.ok { d with sig:={ d.sig with ops:=d.sig.ops++[o] } } w n
   else (aAP fin w n).bind fun o w n=>Rd.ok { d with sig:={ d.sig with funs:=d.sig.funs++[o] } } w n)
  else if dC t [108,101,116]=true then
   (if 300 ≤ d.eqs.length then Rd.bad (kG fin (t :: w)) else
    (gI lk fin w n).bind fun l w n => (cV fin [61] w n).bind fun _ w n => (gI lk fin w n).bind fun r w n => (qR lk fin w n).bind fun c w n =>
     Rd.ok { d with eqs:=d.eqs++[⟨l,r,c,t.line,t.col⟩] } w n)
  else if dC t [114,117,108,101]=true then
   (if 300≤d.rules.length then Rd.bad (kG fin (t::w)) else (aCm lk fin t.line t.col w n).bind fun r w n=>Rd.ok { d with rules:=d.rules++[r] } w n)
  else tC lk fin d t w n).bind fun d w n=>(cV fin [46] w n).bind fun _ w n=>.ok d w n
def uO:Nat→Dfn→List Tok→Nat→Rd Dfn
 | 0,_,_,_=>.bad fin
 | f+1,d,w,n=>match w with
  | []=>.ok d [] n
  | _::_=>(wC lk fin d w n).bind fun d w n=>uO f d w n
def eB:Dfn:=⟨[],⟨[],[],[],[],[]⟩,[],[],[],[],[],[],[]⟩
def tN (w:List Tok):Rd Dfn :=
 (cV fin [108,97,110,103,117,97,103,101] w 0).bind fun _ w n=>(dS fin w n).bind fun x w n=>(cV fin [46] w n).bind fun _ w n=>uO lk fin (w.length+1) { eB with name:=x } w n
end
end
section
structure RQ (T:List Tok) where
 at_:Nat
 le:at_≤T.length
 f:Fault
 first:Nat
 nodes:Int
 over:Bool
section
variable {T:List Tok} (fin:Fault)
def RQ.ok (q:RQ T):Bool:=decide (q.f.code=0)
def RQ.inc (q:RQ T):RQ T:=if h:q.at_<T.length then { q with at_:=q.at_+1,le:=h } else q
def RQ.tok (q:RQ T):Tok:=(T[q.at_]?).getD ⟨0,[],0,0,0⟩
def cJ (code:Int) (p:Nat) (named:Bool) (q:RQ T):RQ T :=
 if q.ok=true then { q with f:=match T[p]? with|none=>fin|some t=>⟨code,if named=true then t.name else [],t.line,t.col⟩ } else q
def aS (kind:Int) (x:aD) (q:RQ T):Bool:=q.ok&&(decide (q.at_<T.length)&&(decide (q.tok.kind=kind)&&decide (q.tok.text=x)))
def fS (kind:Int) (q:RQ T):Bool:=q.ok&&(decide (q.at_<T.length)&&decide (q.tok.kind=kind))
def cN (q:RQ T):Bool:=q.ok&&(decide (q.at_<T.length)&&(decide (q.tok.kind=1)&&!decide (q.tok.text∈jL)))
def aY (kind:Int) (x:aD) (q:RQ T):RQ T:=if aS kind x q=true then q.inc else cJ fin 11 q.at_ true q
def bB (q:RQ T):aD × RQ T:=if cN q=true then (q.tok.text,q.inc) else ([],cJ fin 11 q.at_ true q)
def iL (q:RQ T):Bool:=fS 2 q||(fS 3 q||(cN q||(aS 1 [116,114,117,101] q||(aS 1 [102,97,108,115,101] q ||
 (aS 4 [45] q||(aS 4 [39] q||(aS 4 [95] q||(aS 4 [36] q||(aS 4 [91] q||aS 4 [123] q)))))))))
def iE (deep:Nat) (p:Nat) (q:RQ T):RQ T :=
 let q:={ q with nodes:=IntKind.i64.wrap (q.nodes+1) }
 if q.ok=true then (if 60<deep then cJ fin 19 p true q else if 2000<q.nodes then cJ fin 3 q.first false q else q) else q
def dQ (x:aD) (q:RQ T):Bool × RQ T:=if aS 4 x q=true then (true,q.inc) else (false,q)
def cK {σ:Type} (x:aD) (body:σ→RQ T→σ × RQ T):Nat→Bool→σ→RQ T→σ × RQ T
 | 0,_,a,q=>(a,q)
 | f+1,more,a,q=>if (more&&q.ok)=true then cK x body f (dQ x (body a q).2).1 (body a q).1 (dQ x (body a q).2).2 else (a,q)
def bR {σ:Type} (c:RQ T→Bool) (body:σ→RQ T→σ × RQ T):Nat→σ→RQ T→σ × RQ T
 | 0,a,q=>(a,q)
 | f+1,a,q=>if c q=true then bR c body f (body a q).1 (body a q).2 else (a,q)
def mF:Tm:=.mk 0 0 [] [] [] []
def fR (sort:aD) (deep:Nat) (q:RQ T):List Tm × RQ T :=
 if aS 4 [124] q=true then
  let p:=bB fin q.inc
  ([.mk 6 0 p.1 sort [] []],iE fin (deep+1) q.inc.at_ p.2)
 else ([],q)
def tL (tm:RQ T→Tm × RQ T) (name:aD) (q:RQ T):Tm × RQ T :=
 if aS 4 [58] q=true then
  let p:=bB fin q.inc
  (.mk 6 0 name p.1 [] [],p.2)
 else
  let q:=aY fin 4 [40] q
  let p:=cK [44] (fun (l:List Tm) q=>let p:=tm { q with over:=decide (8≤l.length) };(l++[p.1],p.2)) (T.length+2) (!aS 4 [41] q) [] q
  (.mk 5 0 name [] p.1 [],aY fin 4 [41] p.2)
def tB (tm:RQ T→Tm × RQ T) (t:Tok) (deep:Nat) (q:RQ T):Tm × RQ T :=
 if t.text=[45] then
  (if (fS 2 q&&(decide (q.tok.line=t.line)&&decide (q.tok.col=IntKind.i64.wrap (t.col+1))))=true then (.mk 1 (IntKind.i64.wrap (0-q.tok.n)) [] [] [] [],q.inc) else (mF,cJ fin 11 q.at_ true q))
 else if t.text=[39] then
  (if (cN q&&mW q.tok.text)=true then let p:=bB fin q;(.mk 4 0 p.1 [] [] [],p.2) else (mF,cJ fin 11 q.at_ true q))
 else if t.text=[95]∨t.text=[36] then (.mk 6 0 t.text [65,110,121] [] [],q)
 else if t.text=[91] then
  let p:=cK [44] (fun (l:List Tm) q=>let p:=tm q;(l++[p.1],p.2)) (T.length+2) (!aS 4 [93] q&&!aS 4 [124] q) [] q
  let u:=fR fin [76,105,115,116] deep p.2
  (.mk 7 0 [] [] p.1 u.1,aY fin 4 [93] u.2)
 else
  let p:=cK [44] (fun (l:List Tm) q=>let p:=tm q;let u:=tm (aY fin 4 [45,62] p.2);(l++[p.1]++[u.1],u.2)) (T.length+2) (!aS 4 [125] q&&!aS 4 [124] q) [] q
  let u:=fR fin [77,97,112] deep p.2
  (.mk 8 0 [] [] p.1 u.1,aY fin 4 [125] u.2)
def cU:Nat→RQ T→Tm × RQ T
  | 0,q=>if iL q=true then
      (let q := iE fin 61 q.at_ q
       (mF,if q.over=true then cJ fin 3 q.at_ false q else q))
    else (mF,cJ fin 11 q.at_ true q)
  | k+1,q=>if iL q=true then
      (let q := iE fin (60 - k) q.at_ q
       let q:=if q.over=true then cJ fin 3 q.at_ false q else q
       if q.ok=true then
         (if q.tok.kind = 2 then (.mk 1 q.tok.n [] [] [] [],q.inc)
          else if q.tok.kind=3 then (.mk 3 0 q.tok.text [] [] [],q.inc)
          else if q.tok.kind=1 then
            (if q.tok.text = [116,114,117,101] then (.mk 2 1 [] [] [] [],q.inc)
             else if q.tok.text=[102,97,108,115,101] then (.mk 2 0 [] [] [] [],q.inc)
             else tL fin (cU k) q.tok.text q.inc)
          else tB fin (cU k) q.tok (60-k) q.inc)
       else (mF,q))
    else (mF,cJ fin 11 q.at_ true q)
def eA (q:RQ T):Tm × RQ T:=cU fin 60 { q with first:=q.at_,nodes:=0 }
def bG (have_ most:Nat) (q:RQ T):RQ T:=if most≤have_ then cJ fin 3 q.at_ false q else q
def dI (was:Bool) (q:RQ T):RQ T:=(if was=true then cJ fin 14 q.at_ true q else q).inc
def dR (q:RQ T):Int × Int:=if T.length≤q.at_ then (fin.line,fin.col) else (q.tok.line,q.tok.col)
def gS (most:Int) (q:RQ T):Int × RQ T :=
 if fS 2 q=true then (q.tok.n,(if q.tok.n<1∨most<q.tok.n then cJ fin 20 q.at_ true q else q).inc) else (0,cJ fin 11 q.at_ true q)
def iA (q:RQ T):List Tm × RQ T :=
 if aS 1 [105,102] q=true then
  cK [44] (fun (l:List Tm) q=>let p:=eA fin (if iL q=true then bG fin l.length 20 q else q);(l++[p.1],p.2)) (T.length+2) true [] q.inc
 else ([],q)
def kF (q:RQ T):Cel × RQ T :=
 let h:=dR fin q
 let x:=bB fin q
 let y:=bB fin (aY fin 4 [58] x.2)
 let i:=eA fin (aY fin 4 [61] y.2)
 (⟨x.1,y.1,i.1,h.1,h.2⟩,i.2)
def xZ:RQ T→(List Piece × List aD × Bool) × RQ T:=bR (fun q=>cN q||fS 3 q) (fun (c:List Piece × List aD × Bool) q =>
 let q:=bG fin c.1.length 20 q
 if fS 3 q=true then ((c.1++[⟨q.tok.text,[]⟩],c.2.1,true),q.inc)
 else let q:=bG fin c.2.1.length 8 q
  ((c.1++[⟨[],q.tok.text⟩],c.2.1++[q.tok.text],c.2.2),q.inc)) (T.length+1) ([],[],false)
def yH (c:Opr × Bool):RQ T→(Opr × Bool) × RQ T:=bR (fun q=>aS 1 [112,114,101,99] q||(aS 1 [108,101,102,116] q||(aS 1 [114,105,103,104,116] q||aS 1 [115,116,114,105,99,116] q))) (fun (c:Opr × Bool) q =>
 if q.tok.text=[112,114,101,99] then let p:=gS fin 20 (dI fin (!decide (c.1.prec=0)) q);(({ c.1 with prec:=p.1 },c.2),p.2)
 else if q.tok.text=[108,101,102,116] then (({ c.1 with assoc:=1 },c.2),dI fin (!decide (c.1.assoc=0)) q)
 else if q.tok.text=[114,105,103,104,116] then (({ c.1 with assoc:=2 },c.2),dI fin (!decide (c.1.assoc=0)) q)
 else
  let p:=cK [44] (fun (l:List Int) q=>let p:=gS fin 8 q;(l++[p.1],p.2)) (T.length+2) true c.1.strict (aY fin 4 [40] (dI fin c.2 q))
  (({ c.1 with strict:=p.1 },true),aY fin 4 [41] p.2)) (T.length+1) c
def oP (q:RQ T):Opr × RQ T :=
 let x:=bB fin q
 let p:=xZ fin (aY fin 4 [58] x.2)
 let y:=bB fin (aY fin 4 [45,62] p.2)
 let a:=yH fin (⟨x.1,p.1.2.1,y.1,if p.1.2.2=true then p.1.1 else [],0,0,[]⟩,false) y.2
 (a.1.1,a.2)
def mE (q:RQ T):Opr × RQ T :=
 let x:=bB fin q
 let p:=bR cN (fun (l:List aD) q=>let p:=bB fin (bG fin l.length 8 q);(l++[p.1],p.2)) (T.length+1) [] (aY fin 4 [58] x.2)
 let y:=bB fin (aY fin 4 [45,62] p.2)
 (⟨x.1,p.1,y.1,[],0,0,[]⟩,y.2)
def mJ (q:RQ T):Eqn × RQ T :=
 let h:=dR fin q
 let l:=eA fin q.inc
 let r:=eA fin (aY fin 4 [61] l.2)
 let c:=iA fin r.2
 (⟨l.1,r.1,c.1,h.1,h.2⟩,c.2)
def iD (x:Rul) (q:RQ T):Rul × RQ T :=
 if aS 1 [110,101,119] q=true then
  let p:=cK [44] (fun (l:List Tm) q=>let p:=eA fin q;(l++[p.1],p.2)) (T.length+2) true [] (aY fin 4 [40] q.inc)
  ({ x with new:=x.new++[⟨p.1⟩] },aY fin 4 [41] p.2)
 else if aS 1 [100,114,111,112] q=true then
  let p:=bB fin (aY fin 4 [64] q.inc)
  ({ x with drop:=x.drop++[p.1] },p.2)
 else
  let h:=dR fin q
  let c:=bB fin q
  let a:=if aS 4 [64] c.2=true then bB fin c.2.inc else ([],c.2)
  let l:=eA fin (aY fin 4 [58] a.2)
  let r:=if aS 4 [61,62] l.2=true then (let u:=eA fin l.2.inc;([u.1],u.2)) else ([],l.2)
  ({ x with parts:=x.parts++[⟨c.1,a.1,l.1,r.1,h.1,h.2⟩] },r.2)
def mV (q:RQ T):Rul × RQ T :=
 let h:=dR fin q
 let x:=bB fin q.inc
 let p:=cK [59] (fun (c:Rul × Nat) q =>
  let p:=iD fin c.1 (if (cN q||(aS 1 [110,101,119] q||aS 1 [100,114,111,112] q))=true then bG fin c.2 20 q else q)
  ((p.1,c.2+1),p.2)) (T.length+2) true (⟨x.1,[],[],[],[],h.1,h.2⟩,0) (aY fin 4 [58] x.2)
 let c:=iA fin p.2
 ({ p.1.1 with cond:=c.1 },c.2)
def oF (d:Dfn) (q:RQ T):Dfn × RQ T :=
 if aS 1 [115,116,97,114,116] q=true then let p:=bB fin (dI fin (!decide (d.start=[])) q);({ d with start:=p.1 },p.2)
 else if aS 1 [119,97,116,99,104] q=true then let p:=bB fin (dI fin (!decide (d.watch=[])) q);({ d with watch:=p.1 },p.2)
 else if aS 1 [99,101,108,108] q=true then let p:=kF fin (bG fin d.once.length 12 q).inc;({ d with once:=d.once++[p.1] },p.2)
 else if aS 1 [109,97,110,121] q=true then
  let x:=bB fin (dI fin (!decide (d.kind=[])) q)
  let p:=cK [44] (fun (l:List Cel) q=>let p:=kF fin (if cN q=true then bG fin l.length 12 q else q);(l++[p.1],p.2)) (T.length+2) true d.many (aY fin 4 [40] x.2)
  ({ d with kind:=x.1,many:=p.1 },aY fin 4 [41] p.2)
 else if aS 1 [114,117,108,101] q=true then let p:=mV fin (bG fin d.rules.length 300 q);({ d with rules:=d.rules++[p.1] },p.2)
 else (d,cJ fin 11 q.at_ true q)
def jW (d:Dfn) (q:RQ T):Dfn × RQ T :=
 let p:=if aS 1 [115,111,114,116] q=true then
   let p:=cK [44] (fun (l:List aD) q=>let p:=bB fin (if cN q=true then bG fin l.length 40 q else q);(l++[p.1],p.2)) (T.length+2) true d.sig.sorts q.inc
   ({ d with sig:={ d.sig with sorts:=p.1 } },p.2)
  else if aS 1 [115,117,98,115,111,114,116] q=true then
   let x:=bB fin (bG fin d.sig.below.length 200 q).inc
   let y:=bB fin (aY fin 4 [60] x.2)
   ({ d with sig:={ d.sig with below:=d.sig.below++[⟨x.1,y.1⟩] } },y.2)
  else if aS 1 [118,97,108,117,101] q=true then
   let p:=cK [44] (fun (l:List aD) q=>let p:=bB fin q;(l++[p.1],p.2)) (T.length+2) true d.sig.values q.inc
   ({ d with sig:={ d.sig with values:=p.1 } },p.2)
  else if aS 1 [111,112] q=true then
   let p:=oP fin (bG fin (d.sig.ops.length+d.sig.funs.length) 200 q).inc
   ({ d with sig:={ d.sig with ops:=d.sig.ops++[p.1] } },p.2)
  else if aS 1 [102,117,110] q=true then
   let p:=mE fin (bG fin (d.sig.ops.length+d.sig.funs.length) 200 q).inc
   ({ d with sig:={ d.sig with funs:=d.sig.funs++[p.1] } },p.2)
  else if aS 1 [108,101,116] q=true then
   let p:=mJ fin (bG fin d.eqs.length 300 q)
   ({ d with eqs:=d.eqs++[p.1] },p.2)
  else oF fin d q
 (p.1,aY fin 4 [46] p.2)
def yT (q:RQ T):Dfn × RQ T :=
 let x:=bB fin (aY fin 1 [108,97,110,103,117,97,103,101] q)
 bR (fun q=>q.ok&&decide (q.at_<T.length)) (fun d q=>jW fin d q) (T.length+1) { eB with name:=x.1 } (aY fin 4 [46] x.2)
end
end
end Go.AV
