/-
  Of CheckLess.
-/
import Derived.Test.YtliopiiflebkdaaGreatDoorLe03
import Derived.Lib.Bytealg
import Derived.Laws.Externs
import Derived.Laws.RangeAny
import Derived.Shelf.LaysM
import Derived.Shelf.Strconv.Itoa3
import Derived.Shelf.Strings.Fields
set_option linter.all false
set_option maxRecDepth 99999
set_option maxHeartbeats 0
namespace Go.AV
open Go Go.Proofs Tryz
attribute [go_sem] Nat.reduceLT Nat.reduceEqDiff Nat.reduceBEq Nat.reduceAdd Nat.reduceLeDiff Nat.reduceMul reduceIte reduceCtorEq List.map gS nW List.elem xF xC fW iE bH aO aT iY List.getElem?_cons_succ fL Nat.add_zero bT bO sM qZ List.take_succ_cons List.take_zero List.drop_succ_cons List.take_nil Nat.succ_eq_add_one uN Int.toNat_zero Nat.sub_zero Nat.zero_lt_succ jA fX jN gJ
abbrev aC:=List UInt8
structure Fault where
 code:Int
 name:aC
 line:Int
 col:Int
 deriving DecidableEq
def Fault.none:Fault:=⟨0,[],0,0⟩
def Fault.cs(f:Fault):List A:=[.int .i64 f.code,.str f.name,.int .i64 f.line,.int .i64 f.col]
def Fault.enc(f:Fault):A:=.agg f.cs
structure Tok where
 kind:Int
 text:aC
 n:Int
 line:Int
 col:Int
 deriving DecidableEq
def Tok.cs(t:Tok):List A:=[.int .i64 t.kind,.str t.text,.int .i64 t.n,.int .i64 t.line,.int .i64 t.col]
def Tok.enc(t:Tok):A:=.agg t.cs
inductive Tm where
 | mk (kind n:Int) (text sort:aC) (kids rest:List Tm)
def Tm.kind:Tm->Int|.mk k _ _ _ _ _=>k
def Tm.n:Tm->Int|.mk _ n _ _ _ _=>n
def Tm.text:Tm->aC|.mk _ _ t _ _ _=>t
def Tm.sort:Tm->aC|.mk _ _ _ s _ _=>s
def Tm.kids:Tm->List Tm|.mk _ _ _ _ ks _=>ks
def Tm.rest:Tm->List Tm|.mk _ _ _ _ _ h=>h
mutual
def Tm.enc:Tm->A
 | .mk k n t s ks rs=>.agg [.int .i64 k,.int .i64 n,.str t,.str s,.list none (xZ ks),.list none (xZ rs)]
def xZ:List Tm->List A
 | []=>[]
 | t::r=>t.enc::xZ r
end
theorem aE0:∀l:List Tm,xZ l=l.map Tm.enc
 | []=>rfl
 | t::r=>by rw[xZ,aE0 r];rfl
def Tm.cs(t:Tm):List A:=[.int .i64 t.kind,.int .i64 t.n,.str t.text,.str t.sort,.list none (t.kids.map Tm.enc),.list none (t.rest.map Tm.enc)]
theorem aFW(t:Tm):t.enc=.agg t.cs:=by
 cases t;simp only[Tm.enc,Tm.cs,Tm.kind,Tm.n,Tm.text,Tm.sort,Tm.kids,Tm.rest,aE0]
def strs(l:List aC):A:=.list none (l.map .str)
structure Below where
 low:aC
 high:aC
 deriving DecidableEq
def Below.cs(b:Below):List A:=[.str b.low,.str b.high]
def Below.enc(b:Below):A:=.agg b.cs
structure Piece where
 text:aC
 sort:aC
 deriving DecidableEq
def Piece.cs(b:Piece):List A:=[.str b.text,.str b.sort]
def Piece.enc(b:Piece):A:=.agg b.cs
structure Opr where
 name:aC
 args:List aC
 sort:aC
 pieces:List Piece
 prec:Int
 assoc:Int
 strict:List Int
 deriving DecidableEq
def Opr.cs(o:Opr):List A:=[.str o.name,.list none (o.args.map .str),.str o.sort,.list none (o.pieces.map Piece.enc),.int .i64 o.prec,.int .i64 o.assoc,.list none (o.strict.map (.int .i64))]
def Opr.enc(o:Opr):A:=.agg o.cs
structure Sig where
 sorts:List aC
 below:List Below
 ops:List Opr
 funs:List Opr
 values:List aC
def Sig.cs(s:Sig):List A:=[.list none (s.sorts.map .str),.list none (s.below.map Below.enc),.list none (s.ops.map Opr.enc),.list none (s.funs.map Opr.enc),.list none (s.values.map .str)]
def Sig.enc(s:Sig):A:=.agg s.cs
structure Eqn where
 left:Tm
 right:Tm
 cond:List Tm
 line:Int
 col:Int
def Eqn.cs(e:Eqn):List A:=e.left.cs++(e.right.cs++[.list none (e.cond.map Tm.enc),.int .i64 e.line,.int .i64 e.col])
def Eqn.enc(e:Eqn):A:=.agg e.cs
structure Cel where
 name:aC
 sort:aC
 init:Tm
 line:Int
 col:Int
def Cel.cs(c:Cel):List A:=.str c.name::.str c.sort::(c.init.cs++[.int .i64 c.line,.int .i64 c.col])
def Cel.enc(c:Cel):A:=.agg c.cs
structure Part where
 cell:aC
 at_:aC
 left:Tm
 right:List Tm
 line:Int
 col:Int
def Part.cs(p:Part):List A:=.str p.cell::.str p.at_::(p.left.cs++[.list none (p.right.map Tm.enc),.int .i64 p.line,.int .i64 p.col])
def Part.enc(p:Part):A:=.agg p.cs
structure Fresh where
 cells:List Tm
def Fresh.cs(f:Fresh):List A:=[.list none (f.cells.map Tm.enc)]
def Fresh.enc(f:Fresh):A:=.agg f.cs
structure Rul where
 name:aC
 parts:List Part
 cond:List Tm
 new:List Fresh
 drop:List aC
 line:Int
 col:Int
def Rul.cs(r:Rul):List A:=[.str r.name,.list none (r.parts.map Part.enc),.list none (r.cond.map Tm.enc),.list none (r.new.map Fresh.enc),.list none (r.drop.map .str),.int .i64 r.line,.int .i64 r.col]
def Rul.enc(r:Rul):A:=.agg r.cs
structure Dfn where
 name:aC
 sig:Sig
 eqs:List Eqn
 once:List Cel
 kind:aC
 many:List Cel
 rules:List Rul
 start:aC
 watch:aC
def Dfn.cs(d:Dfn):List A:=.str d.name::(d.sig.cs++[.list none (d.eqs.map Eqn.enc),.list none (d.once.map Cel.enc),.str d.kind,.list none (d.many.map Cel.enc),.list none (d.rules.map Rul.enc),.str d.start,.str d.watch])
def Dfn.enc(d:Dfn):A:=.agg d.cs
attribute [go_sem] Fault.enc Fault.cs Tok.enc Tok.cs aFW Tm.cs Below.enc Below.cs Piece.enc Piece.cs Opr.enc Opr.cs Sig.enc Sig.cs Eqn.enc Eqn.cs Cel.enc Cel.cs Part.enc Part.cs Fresh.enc Fresh.cs Rul.enc Rul.cs Dfn.enc Dfn.cs
mutual
def Tm.same:Tm->Tm->Bool
 | .mk k n t s ks rs,.mk k' n' t' s' ks' rs'=>decide (k=k')&&(decide (n=n')&&(decide (t=t')&&(decide (s=s')&&(aCI ks ks'&&aCI rs rs'))))
def aCI:List Tm->List Tm->Bool
 | [],[]=>true
 | a::l,b::r=>Tm.same a b&&aCI l r
 | _,_=>false
end
theorem zU{t x:Tm}(h:x∈t.kids):SizeOf.sizeOf x<SizeOf.sizeOf t:=by
 cases t;have:=List.sizeOf_lt_of_mem h;simp only[Tm.kids]at this;simp only[Tm.mk.sizeOf_spec];omega
theorem aB6{t x:Tm}(h:x∈t.rest):SizeOf.sizeOf x<SizeOf.sizeOf t:=by
 cases t;have:=List.sizeOf_lt_of_mem h;simp only[Tm.rest]at this;simp only[Tm.mk.sizeOf_spec];omega
def cG:=@aFW
def rX(c:Int):Bool:=(decide (97<=c)&&decide (c<=122))||(decide (65<=c)&&decide (c<=90))
def iT(c:Int):Bool:=rX c||((decide (48<=c)&&decide (c<=57))||decide (c=95))
def dU(s:List UInt8):Bool:=match s with
 | []=>false
 | c::_=>decide (s.length<=40)&&(rX c.toNat&&s.all λc=>iT c.toNat)
def mG(x p:aC):Bool:=decide (p.length<=x.length)&&decide (x.take p.length=p)
def lB(x:aC)(c:UInt8):Nat->Int
 | 0=>-1
 | n+1=>if x[n]?=some c then n else lB x c n
def mI(c:Int):Bool:=decide (48<=c)&&decide (c<=57)
def dJ:Nat × Nat->aC->Nat × Nat
 | p,[]=>p
 | (l,c),b::r=>if b=10 then dJ (l+1,1) r else dJ (l,c+1) r
def rJ(b:UInt8):Bool:=decide (b=32)||(decide (b=9)||(decide (b=10)||decide (b=13)))
def oQ:Nat->aC->Nat
 | 0,_=>0
 | _+1,[]=>0
 | f+1,b::r=>if rJ b=true then 1+oQ f r
  else if mG (b::r) [47,47]=true then((b::r).takeWhile (λc=>!decide (c=10))).length+oQ f ((b::r).drop ((b::r).takeWhile (λc=>!decide (c=10))).length)
  else 0
def eF(w:aC):Nat:=oQ w.length w
def qV(b:UInt8):Bool:=decide (32<=b.toNat)&&(decide (b.toNat<=126)&&(!decide (b=34)&&!decide (b=92)))
def tQ(x:aC):Bool:=x.all qV&&decide (x.length<=200)
def sJ(c:UInt8)(b:UInt8):Bool:=decide (b=c)
def fP(x:aC):Nat:=x.foldl (λn d=>n * 10+(d.toNat-48)) 0
def aA2(x:aC):Prop:=∀d,d∈x->48<=d.toNat/\d.toNat<=57
def pN(x:aC):Tok × Nat × Bool :=
 let n:=(x.takeWhile λc=>mI c.toNat).length
 let g:=(x.take n).dropWhile (sJ 48)
 if 10<g.length\/(∃c,x[n]?=some c/\iT c.toNat=true) then(⟨0,[],0,0,0⟩,0,false)
 else(⟨2,[],fP g,0,0⟩,n,decide (fP g<=2147483647))
def jB(w:aC):List aC->Nat->Nat
 | [],n=>n
 | x::r,n=>jB w r (if n<x.length/\mG w x=true then x.length else n)
def kK(w:aC)(sg:List aC)(op:Bool):Tok × Nat × Bool :=
 match w with
 | []=>(⟨0,[],0,0,0⟩,0,false)
 | c::r =>
  if dU [c] then
   let n:=(w.takeWhile λc=>iT c.toNat).length
   (⟨1,w.take n,0,0,0⟩,n,decide (n<=40))
  else if mI c.toNat then pN w
  else if c=34 then
   let n:=(Lib.indexByte r 34+2).toNat
   (⟨3,r.take (n-2),0,0,0⟩,n,decide (1<n)&&tQ (r.take (n-2)))
  else
   let n:=jB w sg 0
   let n:=if n=0/\op=true/\(c=39\/c=95) then 1 else n
   (⟨4,w.take n,0,0,0⟩,n,decide (0<n))
def aGq:List UInt8:=[97,100,100,32,115,117,98,32,109,117,108,32,100,105,118,32,109,111,100,32,110,101,103,32,108,116,32,108,101,32,103,116,32,103,101,32,101,113,32,110,101,32,97,110,100,32,111,114,32,110,111,116,32,112,105,99,107,32,99,97,116,32,108,101,110,103,116,104,32,116,101,120,116,32,106,111,105,110,32,103,101,116,32,112,117,116,32,104,97,115,32,100,101,108,32,107,101,121,115,32,115,105,122,101,32,105,115,32,105,115,118,97,108,117,101]
def jQ:List (List UInt8):=[[97,100,100],[115,117,98],[109,117,108],[100,105,118],[109,111,100],[110,101,103],[108,116],[108,101],[103,116],[103,101],[101,113],[110,101],[97,110,100],[111,114],[110,111,116],[112,105,99,107],[99,97,116],[108,101,110,103,116,104],[116,101,120,116],[106,111,105,110],[103,101,116],[112,117,116],[104,97,115],[100,101,108],[107,101,121,115],[115,105,122,101],[105,115],[105,115,118,97,108,117,101]]
def aHs:List UInt8:=[61,62,32,45,62,32,58,32,59,32,44,32,46,32,64,32,124,32,40,32,41,32,91,32,93,32,123,32,125,32,60,32,61,32,45,32,36]
def gV:List (List UInt8):=[[61,62],[45,62],[58],[59],[44],[46],[64],[124],[40],[41],[91],[93],[123],[125],[60],[61],[45],[36]]
def aFA:List UInt8:=[108,97,110,103,117,97,103,101,32,115,111,114,116,32,115,117,98,115,111,114,116,32,118,97,108,117,101,32,111,112,32,102,117,110,32,108,101,116,32,105,102,32,115,116,97,114,116,32,99,101,108,108,32,109,97,110,121,32,119,97,116,99,104,32,114,117,108,101,32,112,114,101,99,32,108,101,102,116,32,114,105,103,104,116,32,115,116,114,105,99,116,32,110,101,119,32,100,114,111,112,32,116,114,117,101,32,102,97,108,115,101]
def kG:List (List UInt8):=[[108,97,110,103,117,97,103,101],[115,111,114,116],[115,117,98,115,111,114,116],[118,97,108,117,101],[111,112],[102,117,110],[108,101,116],[105,102],[115,116,97,114,116],[99,101,108,108],[109,97,110,121],[119,97,116,99,104],[114,117,108,101],[112,114,101,99],[108,101,102,116],[114,105,103,104,116],[115,116,114,105,99,116],[110,101,119],[100,114,111,112],[116,114,117,101],[102,97,108,115,101]]
inductive Lx where
 | ok (l:List Tok)
 | bad (f:Fault)
def nM(sg:List aC)(op:Bool):Nat->aC->Nat × Nat->List Tok->Lx
 | _,[],_,h=>.ok h
 | 0,_::_,_,h=>.ok h
 | f+1,c::r,p,h=>match kK (c::r) sg op with
  | (t,n,true)=>nM sg op f (((c::r).drop n).drop (eF ((c::r).drop n))) (dJ (dJ p ((c::r).take n)) (((c::r).drop n).take (eF ((c::r).drop n))))
    (h++[⟨t.kind,t.text,t.n,p.1,p.2⟩])
  | (_,_,false)=>.bad ⟨10,[c],p.1,p.2⟩
def lN(sg:List aC)(op:Bool)(w:aC):Lx:=nM sg op w.length (w.drop (eF w)) (dJ (1,1) (w.take (eF w))) []
@[go_sem] theorem aQp:cx.det=false:=rfl
@[go_sem] theorem aPc(x:A)(l:List A):zB (x::l)=.list none (x::l):=rfl
@[go_sem] theorem aPC:zB []=.emp:=rfl
def gs(s:St)(tk:Option Nat)(n:Nat)(e:TypeId):St:=match tk with
 | none=>s
 | some t=>s.setT t (n,e)
@[go_sem] theorem bW(s:St)(tk:Option Nat)(n:Nat)(e:TypeId)(b:Nat):(gs s tk n e).getO b=s.getO b:=by cases tk<;>rfl
@[go_sem] theorem aAQ(s:St)(tk:Option Nat)(n:Nat)(e:TypeId)(b:Nat)(o:Ob):(gs s tk n e).setO b o=gs (s.setO b o) tk n e:=by cases tk<;>rfl
@[go_sem] theorem aPu(s:St)(t:Nat)(v:Nat × TypeId)(b:Nat)(o:Ob):(s.setT t v).setO b o=(s.setO b o).setT t v:=rfl
attribute [go_sem] cZ dT
@[go_sem] theorem aPq(s:St)(t b:Nat):(s.delT t).getO b=s.getO b:=rfl
@[go_sem] theorem aPi(s:St)(x:Option (Nat × Nat × A))(b:Nat)(o:Ob):(s.setL x).setO b o=(s.setO b o).setL x:=rfl
@[go_sem] theorem aPk(s:St)(t:Nat)(b:Nat)(o:Ob):(s.delT t).setO b o=(s.setO b o).delT t:=rfl
@[go_sem] theorem aQf(s:St)(x:Option (Nat × Nat × A)):(s.setL x).ls=x:=rfl
theorem eE{s:St}{tk:Option Nat}{n:Nat}{e:TypeId}(h:tk=none->n=0):gY (gs s tk n e) tk n e:=by
 cases tk with
 | none=>exact h rfl
 | some t=>simp only[gY,gs,cF,aE]
theorem eU{s:St}{tk:Option Nat}{n:Nat}{e:TypeId}{t:Nat}(h:tk=some t\/tk=none/\(gs s tk n e).getT t=none)(v:Nat × TypeId):(gs s tk n e).setT t v=s.setT t v:=by
 rcases h with rfl|⟨rfl,_⟩
 .simp only[gs,St.setT,xW]
 .rfl
theorem fB{s:St}{tk:Option Nat}{n:Nat}{e:TypeId}{t:Nat}(h:tk=some t\/tk=none/\(gs s tk n e).getT t=none)(m:∀t,tk=some t->s.getT t=none):s.getT t=none:=by
 rcases h with rfl|⟨rfl,h⟩
 .exact m t rfl
 .exact h
theorem gE{s s':St}(y:s.ge s'){tk:Option Nat}{n:Nat}{e:TypeId}(h:∀t,tk=some t->s.getT t=none):(gs s tk n e).ge s':=by
 cases tk with
 | none=>exact y
 | some t =>
  refine⟨λb o ho=>y.ob b o ho,λu m F=>?_,λx G=>y.ls x G⟩;have z:=y.tk u m F;have B:=h t rfl;simp only[gs,cF];by_cases q:t=u
  .subst q;rw[B]at z;cases z
  .simp only[q,cI];exact z
theorem eB(s:St)(tk:Option Nat)(n:Nat)(e:TypeId)(t:Nat):(gs s tk n e).getT t=if tk=some t then some (n,e) else s.getT t:=by
 cases tk with
 | none=>rfl
 | some u=>simp only[gs,cF,bK]
theorem aCV{s s':St}{tk:Option Nat}{n:Nat}{e:TypeId}(ho:∀b o,s'.getO b=some o->s.getO b=some o)(hl:∀x,s'.ls=some x->s.ls=some x)
  (q:∀t m,tk≠some t->s'.getT t=some m->s.getT t=some m):(gs s tk n e).ge (gs s' tk n e):=by
 refine⟨λb o h=>by rw[bW]at h⊢;exact ho b o h,λt m h=>?_,λx h=>by cases tk<;>exact hl x h⟩;rw[eB]at h⊢;by_cases e:tk=some t
 .rw[aE e]at h⊢;exact h
 .rw[aD e]at h⊢;exact q t m e h
theorem aC5{s:St}{tk:Option Nat}{n:Nat}{e:TypeId}{t:Nat}{v:Nat × TypeId}(h:tk≠some t):((gs s tk n e).setT t v).ge (gs (s.setT t v) tk n e):=by
 refine⟨λb o h=>by rw[bW]at h;rw[cZ,bW];exact h,λu m q=>?_,λx z=>by cases tk<;>exact z⟩;rw[eB,cF]at q;rw[cF,eB];by_cases y:t=u
 .subst y;rw[aD h,aE rfl]at q;rw[aE rfl];exact q
 .rw[aD y]at q⊢;exact q
theorem aE1{Y:St}{t u n:Nat}{q e:TypeId}{v:Nat × TypeId}{x:Option (Nat × Nat × A)}:((((gs Y none u q).setT t v).setT t (n,e)).setL x).ge ((gs Y (some t) n e).setL none):=by
 refine⟨λb o h=>h,λa m h=>?_,λy h=>by cases h⟩;simp only[gs,sO,cF]at h⊢;split at h
 .rename_i e;rw[aE e];exact h
 .rename_i e;rw[aD e,aD e];exact h
theorem aCd{Y:St}{u t F n:Nat}{z e:TypeId}{v:Nat × TypeId}{x:Option (Nat × Nat × A)}(B:Y.getT u=none):(((((gs Y (some u) F z).delT u).setT t v).setT t (n,e)).setL x).ge ((gs Y (some t) n e).setL none):=by
 refine⟨λb o h=>h,λa m h=>?_,λy h=>by cases h⟩;simp only[gs,sO,cF,oW]at h⊢;split at h
 .rename_i e;rw[aE e];exact h
 .rename_i e;rw[aD e];by_cases q:a=u
  .subst q;rw[B]at h;cases h
  .simp only[e,q,Ne.symm q,cI];exact h
theorem aAC{Y s:St}{u t n:Nat}{e:TypeId}(m:((gs Y (some u) n e).delT u).getT t=none)(y:s.getT u=none)(q:∀t,Y.getT t=s.getT t):s.getT t=none:=by
 by_cases h:t=u
 .subst h;exact y
 .simp only[gs,oW,cF,aD h,aD (Ne.symm h)]at m;rw[<-q];exact m
theorem aFw{Y s:St}{u t n:Nat}{e:TypeId}{l:Option (Nat × Nat × A)}(m:(((gs Y (some u) n e).setL l).delT u).getT t=none)(q:s.getT u=none)(h:∀t,Y.getT t=s.getT t):s.getT t=none:=aAC (Y:=Y) m q h
theorem aFp{Y Z:St}{u t L n y:Nat}{z e:TypeId}{v:Nat × TypeId}{x l:Option (Nat × Nat × A)}(H:Y.getT u=none)(B:∀b o,Z.getO b=some o->Y.getO b=some o)(F:∀t,Z.getT t=Y.getT t)(G:y=n) :
  ((((((gs Y (some u) L z).setL l).delT u).setT t v).setT t (y,e)).setL x).ge ((gs Z (some t) n e).setL none):=by
 subst G;refine⟨λb o h=>B b o h,λa m h=>?_,λw h=>by cases h⟩;simp only[gs,sO,cF,oW]at h⊢;split at h
 .rename_i e;rw[aE e];exact h
 .rename_i e;rw[F]at h;by_cases q:a=u
  .subst q;rw[H]at h;cases h
  .simp only[e,q,Ne.symm q,cI];exact h
theorem aDc{Y Z:St}{t n:Nat}{e:TypeId}(q:∀b o,Z.getO b=some o->Y.getO b=some o)(u:∀t,Z.getT t=Y.getT t):((gs Y (some t) n e).setL none).ge ((gs Z (some t) n e).setL none) :=
 ⟨fun b o h => q b o h,fun a m h => by
  simp only[gs,sO,cF]at h⊢;rw[u]at h;exact h,λy h=>by cases h⟩
theorem mX{s:St}{b c:Nat}{o:Ob}(h:(s.setO c o).getO b=none):b≠c/\s.getO b=none:=by
 rw[aH]at h;by_cases e:c=b
 .rw[aE e]at h;cases h
 .rw[aD e]at h;exact⟨λx=>e x.symm,h⟩
theorem hZ(tk:Option Nat)(es:List A)(h:tk=none->es=[]):A.le (gv tk es) (.list none es):=by
 cases tk with
 | none=>rw[h rfl];exact A.le.nil
 | some t=>exact A.le.forget _ _
theorem fY{s s2:St}{t:Nat}{v:Nat × TypeId}(h:s.ge s2):(s.setT t v).ge (s2.setT t v):=by
 refine⟨λb o ho=>h.ob b o ho,λu m q=>?_,λx y=>h.ls x y⟩;rw[cF]at q⊢;split
 .rename_i e;rw[aE e]at q;exact q
 .rename_i e;rw[aD e]at q;exact h.tk u m q
theorem mW{s s2:St}{b:Nat}{o:Ob}(h:s.ge s2):(s.setO b o).ge (s2.setO b o):=by
 refine⟨λc x ho=>?_,λu m q=>h.tk u m q,λx y=>h.ls x y⟩;rw[aH]at ho⊢;split
 .rename_i e;rw[aE e]at ho;exact ho
 .rename_i e;rw[aD e]at ho;exact h.ob c x ho
theorem zT(s:St)(t:Nat)(v u:Nat × TypeId):((s.setT t v).setT t u).ge (s.setT t u):=by
 refine⟨λb o h=>h,λx m q=>?_,λx h=>h⟩;rw[cF]at q⊢;split
 .rename_i e;rw[aE e]at q;exact q
 .rename_i e;rw[aD e]at q;rw[cF,aD e];exact q
theorem zZ{s:St}{t:Nat}{v:Nat × TypeId}(h:s.getT t=none):(s.setT t v).ge s:=by
 refine⟨λb o h=>h,λx m q=>?_,λx h=>h⟩;rw[cF];by_cases e:t=x
 .subst e;rw[h]at q;cases q
 .rw[aD e];exact q
theorem aLO{X:St}{r q:Nat}{F G z:Ob}(L:X.getO q=none)(_:q≠r):(((X.setO r F).setO q G).setO r z).ge (X.setO r z):=by
 refine⟨λd x h=>?_,λu m H=>H,λx h=>h⟩;rw[aH]at h⊢;by_cases y:r=d
 .rw[aE y]at h⊢;exact h
 .rw[aD y]at h⊢;rw[aH];by_cases B:q=d
  .subst B;rw[L]at h;cases h
  .rw[aD B,aH,aD y];exact h
structure St.gx (s1 s:St) (r:Nat):Prop where
 ob:∀c,c≠r->∀x,s.getO c=some x->s1.getO c=some x
 tk:∀t m,s.getT t=some m->s1.getT t=some m
 ls:∀x,s.ls=some x->s1.ls=some x
theorem dY(s:St)(r:Nat):s.gx s r:=⟨λ_ _ _ h=>h,λ_ _ h=>h,λ_ h=>h⟩
theorem dM{s1 s:St}{r:Nat}{o:Ob}(h:s1.gx s r):(s1.setO r o).gx s r :=
 ⟨λc m x q=>by rw[aH,aD (Ne.symm m)];exact h.ob c m x q,h.tk,h.ls⟩
theorem cE{s1 s:St}{r b:Nat}{o:Ob}(u:s.getO b=none)(h:s1.gx s r):(s1.setO b o).gx s r :=
 ⟨fun c y x q => by
  rw[aH];by_cases m:b=c
  .subst m;rw[u]at q;cases q
  .rw[aD m];exact h.ob c y x q,h.tk,h.ls⟩
theorem aC8{s1 s:St}{r t:Nat}{v:Nat × TypeId}(z:s.getT t=none)(h:s1.gx s r):(s1.setT t v).gx s r :=
 ⟨h.ob,fun u m y => by
  rw[cF];by_cases q:t=u
  .subst q;rw[z]at y;cases y
  .rw[aD q];exact h.tk u m y,h.ls⟩
theorem St.gx.dropT{s1 s:St}{r t:Nat}{v:Nat × TypeId}(h:s1.gx (s.setT t v) r)(z:s.getT t=none):s1.gx s r :=
 ⟨h.ob,fun u m y => h.tk u m (by
  rw[cF];by_cases q:t=u
  .subst q;rw[z]at y;cases y
  .rw[aD q];exact y),h.ls⟩
theorem fA{s1 s:St}{r:Nat}{tk:Option Nat}{n:Nat}{e:TypeId}(h:s1.gx s r)(m:∀t,tk=some t->s.getT t=none):(gs s1 tk n e).gx s r:=by
 cases tk with
 | none=>exact h
 | some t=>exact aC8 (m t rfl) h
theorem mV{s1 s:St}{r:Nat}{l:Option (Nat × Nat × A)}(h:s1.gx s r)(hl:l=s.ls):(s1.setL l).gx s r :=
 ⟨h.ob,h.tk,λx m=>by rw[hl];exact m⟩
theorem qE{s1 s:St}{r:Nat}{l m:Option (Nat × Nat × A)}(h:s1.gx s r)(hl:l=s.ls):((s1.setL m).setL l).gx s r:=mV (s1:=s1) h hl
theorem St.gx.trans{s2 s1 s:St}{r:Nat}(h:s2.gx s1 r)(q:s1.gx s r):s2.gx s r :=
 ⟨λc y x u=>h.ob c y x (q.ob c y x u),λt m z=>h.tk t m (q.tk t m z),λx u=>h.ls x (q.ls x u)⟩
theorem St.gx.ge{s1 s:St}{r:Nat}{o:Ob}(h:s1.gx s r)(u:s1.getO r=some o):s1.ge (s.setO r o):=by
 refine⟨λc x m=>?_,h.tk,h.ls⟩;rw[aH]at m;by_cases q:r=c
 .subst q;rw[aE rfl]at m;rw[u];exact m
 .rw[aD q]at m;exact h.ob c (Ne.symm q) x m
def vZ:List A->List A->Prop
 | [],[]=>True
 | a::l,b::r=>sF a.cells b.cells/\vZ l r
 | _,_=>False
theorem aC3:∀{l r:List A},vZ l r->l.length=r.length
 | [],[],_=>rfl
 | _::_,_::_,h=>by simp only[aO,aC3 h.2]
theorem aCS:∀{l r:List A},vZ l r->∀(i:Nat) (b:A),r[i]?=some b->∃a:A,l[i]?=some a/\sF a.cells b.cells
 | a::l,b::r,h,0,x,m=>by
  simp only[iY,bK]at m⊢;subst m;exact⟨a,rfl,h.1⟩
 | a::l,b::r,h,i+1,x,m=>by
  simp only[List.getElem?_cons_succ]at m⊢;exact aCS h.2 i x m
 | [],[],_,_,_,m=>by simp at m
theorem A.le.list{l r:List A}(h:vZ l r):A.le (.list none l) (.list none r):=λg v x=>by
 have m:=aC3 h;cases x with
 | list tk es b off sz cap pre S hl B G U h1 O Z =>
  rw[m]
  have key:∀e,e∈r->∃(i:Nat) (a:A),l[i]?=some a/\r[i]?=some e/\sF a.cells e.cells:=λe y=>by
   obtain⟨i,z,rfl⟩:=gZ y;obtain⟨a,u,q⟩:=aCS h i _ (aV z);exact⟨i,a,u,aV z,q⟩
  refine .list none r b off sz cap pre S (by rw[<-m];exact hl) (by rw[<-m];exact B) G (λe y=>?_) (λe y c B=>?_) (λi e j c v z F hv=>?_) aW
  .obtain⟨i,a,u,_,q⟩:=key e y;rw[<-aCK q];exact U a (cR u)
  .obtain⟨i,a,u,_,q⟩:=key e y;obtain⟨j,F,rfl⟩:=gZ B;exact(xR q j _ (aV F)).choose_spec.2.2
  .obtain⟨a,u,q⟩:=aCS h i e z;obtain⟨H,L,M,_⟩:=xR q j c F;exact M g v (O i a j H v u L hv)
 | list0 tk a cap G Z =>
  have:r=[]:=fD (by rw[<-m];rfl);subst this;exact .list0 none a cap G aW
theorem aFN{C:Cx}{s:St}{f:FuncId}{args:List A}{KV Kp:St->A->Prop}(h:Den C f args (λs' a=>KV (s'.setL s.ls) a) (λs' a=>Kp (s'.setL s.ls) a) s):Den C f args KV Kp s:=by
 intro F g w vals B M;have key:∀(q:Gh) (s':St) (w':World),g.le q->R C.toCtx F q s' w'->R C.toCtx F q (s'.setL s.ls) w':=λq s' w' H L=>L.setL λy O=>(B.lst y O).mono H
 have:=h F g w vals B M;revert this;generalize (callFunc f vals.toArray).run C.P w=r;intro u;cases r with
 | ok x w' =>
  cases x<;>simp only[OutV]at u⊢
  .obtain⟨q,a,s',m,a2,a3,a4⟩:=u;exact⟨q,a,_,m,key _ _ _ m a2,a3,a4⟩
  .obtain⟨q,s',m,a2,a3⟩:=u;exact⟨q,_,m,key _ _ _ m a2,a3⟩
  .refine Calls.mono u λG S z=>?_
   cases G with
   | returned v=>obtain⟨q,a,s',m,a2,a3,a4⟩:=z;exact⟨q,a,_,m,key _ _ _ m a2,a3,a4⟩
   | panicked iU=>obtain⟨q,a,v,s',a0,m,a2,a3,a4⟩:=z;exact⟨q,a,v,_,a0,m,key _ _ _ m a2,a3,a4⟩
   | outgrown=>exact z
 | halt x w' =>
  cases x<;>simp only[OutV]at u⊢
  obtain⟨q,a,s',m,a2,a3,a4⟩:=u;exact⟨q,a,_,m,key _ _ _ m a2,a3,a4⟩
@[go_sem] theorem aPw(s:St)(x y:Option (Nat × Nat × A)):(s.setL x).setL y=s.setL y:=rfl
theorem dC{f:FuncId}{l:List A}{KV Kp:St->A->Prop}{s:St}(h:Den cx f l KV Kp s):Den jZ f l KV Kp s:=by assumption
theorem rT{f:FuncId}{l:List A}{KV Kp:St->A->Prop}{s:St}(h:Den cx f l KV Kp s):Den kA f l KV Kp s:=by assumption
theorem mQ{X:St}{H Q:Nat->Prop}(k:∀p,H p->Q p)(h:∀p,X.getO p=none->H p:=by(intro p h;(try simp only[bW,cN,bJ]at h);exact h)):∀p,X.getO p=none->Q p:=λp e=>k p (h p e)
theorem gHe{p F:Prop}(f:F)(h:F->p:=by(intro f;simp only[aH,dT,cZ,bW,bJ,eG,reduceIte,f]<;>(first|done|rfl|assumption))):p:=h f
structure St.gel (s1 s:St) (L M:List Nat):Prop where
 ob:∀c,c ∉ L->∀x,s.getO c=some x->s1.getO c=some x
 tk:∀t,t ∉ M->∀m,s.getT t=some m->s1.getT t=some m
 ls:∀x,s.ls=some x->s1.ls=some x
theorem vA(s:St)(L M:List Nat):s.gel s L M:=⟨λ_ _ _ h=>h,λ_ _ _ h=>h,λ_ h=>h⟩
theorem nD{s1 s:St}(h:s1.gel s [] []):s1.ge s:=⟨λc x u=>h.ob c aW x u,λt m q=>h.tk t aW m q,h.ls⟩
theorem aFy{s1 s:St}{r:Nat}(h:s1.gx s r){L M:List Nat}(y:r∈L):s1.gel s L M :=
 ⟨λc q x z=>h.ob c (λe=>q (e▸y)) x z,λt _ m u=>h.tk t m u,h.ls⟩
theorem aCD{s1 s:St}(h:s1.ge s)(L M:List Nat):s1.gel s L M:=⟨λc _ x u=>h.ob c x u,λt _ m q=>h.tk t m q,h.ls⟩
theorem St.gel.trans{s2 s1 s:St}{L M:List Nat}(h:s2.gel s1 L M)(q:s1.gel s L M):s2.gel s L M :=
 ⟨λc y x u=>h.ob c y x (q.ob c y x u),λt z m B=>h.tk t z m (q.tk t z m B),λx u=>h.ls x (q.ls x u)⟩
theorem rM{s1 s:St}{L M:List Nat}{b:Nat}{o:Ob}(q:s1.getO b=some o)(h:s1.gel s (b::L) M):s1.gel (s.setO b o) L M :=
 ⟨fun c u x m => by
  rw[aH]at m;by_cases e:b=c
  .subst e;rw[aE rfl]at m;rw[q];exact m
  .rw[aD e]at m;exact h.ob c (by simp only[dD,not_or];exact⟨λh=>e h.symm,u⟩) x m,h.tk,h.ls⟩
theorem aMR{s1 s:St}{L M:List Nat}{t:Nat}{v:Nat × TypeId}(y:s1.getT t=some v)(h:s1.gel s L (t::M)):s1.gel (s.setT t v) L M :=
 ⟨h.ob,fun u z m q => by
  rw[cF]at q;by_cases e:t=u
  .subst e;rw[aE rfl]at q;rw[y];exact q
  .rw[aD e]at q;exact h.tk u (by simp only[dD,not_or];exact⟨λh=>e h.symm,z⟩) m q,h.ls⟩
theorem yO{s1 s:St}{L M:List Nat}{b:Nat}{o:Ob}(q:b∈L)(h:s1.gel s L M):(s1.setO b o).gel s L M :=
 ⟨fun c m x u => by
  rw[aH,aD (λe:b=c=>m (e▸q))];exact h.ob c m x u,h.tk,h.ls⟩
theorem tD{s1 s:St}{L M:List Nat}{b:Nat}{o:Ob}(q:s.getO b=none)(h:s1.gel s L M):(s1.setO b o).gel s L M :=
 ⟨fun c u x m => by
  rw[aH];by_cases e:b=c
  .subst e;rw[q]at m;cases m
  .rw[aD e];exact h.ob c u x m,h.tk,h.ls⟩
theorem aNk{s1 s:St}{L M:List Nat}{t:Nat}{v:Nat × TypeId}(q:t∈M)(h:s1.gel s L M):(s1.setT t v).gel s L M :=
 ⟨h.ob,fun c m x u => by
  rw[cF,aD (λe:t=c=>m (e▸q))];exact h.tk c m x u,h.ls⟩
theorem aGf{s1 s:St}{L M:List Nat}{t:Nat}{v:Nat × TypeId}(q:s.getT t=none)(h:s1.gel s L M):(s1.setT t v).gel s L M :=
 ⟨h.ob,fun c u x m => by
  rw[cF];by_cases e:t=c
  .subst e;rw[q]at m;cases m
  .rw[aD e];exact h.tk c u x m,h.ls⟩
theorem aGa{s1 s:St}{L M:List Nat}{b:Nat}(q:s.getO b=none)(h:s1.gel s (b::L) M):s1.gel s L M :=
 ⟨fun c u x m => h.ob c (by
  simp only[dD,not_or];exact⟨λe=>(by subst e;rw[q]at m;cases m),u⟩) x m,h.tk,h.ls⟩
theorem aHj{s1 s:St}{L M:List Nat}{tk:Option Nat}{n:Nat}{e:TypeId}(h:s1.gel s L M)(m:∀t,tk=some t->s.getT t=none):(gs s1 tk n e).gel s L M:=by
 cases tk with
 | none=>exact h
 | some t=>exact aGf (m t rfl) h
theorem aAm{s1 s:St}{L M:List Nat}{tk:Option Nat}{n:Nat}{e:TypeId}(m:∀t,tk=some t->s1.getT t=some (n,e))(h:s1.gel s L (tk.toList++M)):s1.gel (gs s tk n e) L M:=by
 cases tk with
 | none=>exact h
 | some t=>exact aMR (m t rfl) h
theorem aAj{s1 s:St}{L M:List Nat}{tk:Option Nat}{n:Nat}{e:TypeId}(h:s1.gel s L M):(gs s1 tk n e).gel (gs s tk n e) L M:=by
 cases tk with
 | none=>exact h
 | some t =>
  refine⟨h.ob,λu y m q=>?_,h.ls⟩;simp only[gs,cF]at q⊢;split
  .rename_i e;rw[aE e]at q;exact q
  .rename_i e;rw[aD e]at q;exact h.tk u y m q
theorem aDb{s1:St}{tk:Option Nat}{n:Nat}{e:TypeId}:∀t,tk=some t->(gs s1 tk n e).getT t=some (n,e):=by
 rintro t rfl;rw[eB,aE rfl]
@[go_sem] theorem getT_setO(s:St)(b:Nat)(o:Ob)(t:Nat):(s.setO b o).getT t=s.getT t:=rfl
theorem gB1{s1 s:St}{L M:List Nat}{tk:Option Nat}{n:Nat}{e:TypeId}(h:s1.gel s L (tk.toList++M))(m:∀t,tk=some t->s1.getT t=some (n,e):=by(rintro _ ⟨⟩;simp only[getT_setO,sO,cF,oW,eB,reduceIte,aI,aO,aT,aK,fL,Nat.add_zero]<;>fail)):s1.gel (gs s tk n e) L M:=aAm m h
theorem gB2{s1 s:St}{L M:List Nat}{t:Nat}{v:Nat × TypeId}(h:s1.gel s L M)(m:t∈M:=by(simp only[Option.toList,bT,bO,dD,true_or,or_true]<;>fail)):(s1.setT t v).gel s L M:=aNk m h
theorem gB3{s1 s:St}{L M:List Nat}{b:Nat}{o:Ob}(h:s1.gel s L M)(m:b∈L:=by(simp only[dD,true_or,or_true]<;>fail)):(s1.setO b o).gel s L M:=yO m h
abbrev dX:=Option Nat × Nat × TypeId
def dG(s:St):List dX->St
 | []=>s
 | o::l=>gs (dG s l) o.1 o.2.1 o.2.2
structure OwnOk (s:St) (l:List dX):Prop where
 free:∀o,o∈l->∀t,o.1=some t->s.getT t=none
 nil:∀o,o∈l->o.1=none->o.2.1=0
 dst:∀(i j:Nat) (a b:dX) (t:Nat),l[i]?=some a->l[j]?=some b->a.1=some t->b.1=some t->i=j
@[go_sem] theorem aJ (s : St) (l : List dX) (b : Nat) : (dG s l).getO b = s.getO b := by
  induction l with
  | nil=>rfl
  | cons o l h=>simp only[dG,bW,h]
@[go_sem] theorem sW (s : St) (l : List dX) (b : Nat) (o : Ob) : (dG s l).setO b o = dG (s.setO b o) l := by
  induction l with
  | nil=>rfl
  | cons a l h=>simp only[dG,aAQ,h]
theorem aBb(s:St)(tk:Option Nat)(n:Nat)(e:TypeId):(gs s tk n e).ls=s.ls:=by cases tk<;>rfl
@[go_sem] theorem vK (s : St) (l : List dX) : (dG s l).ls = s.ls := by
  induction l with
  | nil=>rfl
  | cons o l h=>simp only[dG,aBb,h]
theorem pC(s:St)(l:List dX)(u:Nat):(dG s l).getT u=match l.find? (λo=>decide (o.1=some u))with|some o=>some o.2|none=>s.getT u:=by
 induction l with
 | nil=>rfl
 | cons o l m =>
  simp only[dG,eB,List.find?];by_cases h:o.1=some u
  .simp only[h,cM,xF]
  .simp only[h,cI,xC,m]
theorem aI1{s:St}{l:List dX}(h:OwnOk s l){k:Nat}{o:dX}(q:l[k]?=some o){t:Nat}(y:o.1=some t):(dG s l).getT t=some o.2:=by
 rw[pC];cases u:l.find? (λo=>decide (o.1=some t))with
 | none =>
  have:=uG.1 u o (cR q);simp[y]at this
 | some a =>
  have z:=List.find?_some u;have B:=zN u;obtain⟨j,F,rfl⟩:=gZ B;have m:l[j]?=some l[j]:=aV F;have:=h.dst j k _ _ t m q (gQ z) y;subst this;rw[m]at q;cases q;rfl
theorem aJK{s:St}{l:List dX}{t:Nat}(h:∀o,o∈l->o.1≠some t):(dG s l).getT t=s.getT t:=by
 rw[pC,uG.2 (λo ho=>by simpa using h o ho)]
theorem tC{s:St}{l:List dX}(h:OwnOk s l){k:Nat}{o:dX}(m:l[k]?=some o):gY (dG s l) o.1 o.2.1 o.2.2:=by
 obtain⟨tk,n,e⟩:=o;cases tk with
 | none=>exact h.nil _ (cR m) rfl
 | some t=>exact aI1 h m rfl
theorem OwnOk.to{s X:St}{l:List dX}(h:OwnOk s l)(m:∀t,X.getT t=s.getT t):OwnOk X l:=⟨λo ho t q=>by rw[m];exact h.free o ho t q,h.nil,h.dst⟩
theorem mA{s X:St}{l:List dX}(h:OwnOk s l){k:Nat}{o:dX}(q:l[k]?=some o)(m:∀t,X.getT t=s.getT t):gY (dG X l) o.1 o.2.1 o.2.2:=tC (h.to m) q
theorem mF{s X:St}{l:List dX}(h:OwnOk s l){k:Nat}{o:dX}(L:l[k]?=some o){t:Nat}
  (ht:o.1=some t\/o.1=none/\(dG X l).getT t=none)(Z:∀t,X.getT t=s.getT t)(n:Nat):OwnOk s (l.set k (some t,n,o.2.2)):=by
 have q:s.getT t=none/\∀(j:Nat) (a:dX),l[j]?=some a->a.1=some t->j=k:=by
  rcases ht with e|⟨e,y⟩
  .exact⟨h.free o (cR L) t e,λj a m z=>h.dst j k a o t m L z e⟩
  .rw[pC]at y;cases O:l.find? (λo=>decide (o.1=some t))with
   | some a=>rw[O]at y;cases y
   | none =>
    rw[O]at y;refine⟨by rw[<-Z];exact y,λj a m z=>?_⟩;have:=uG.1 O a (cR m);simp[z]at this
 have G:k<l.length:=by
  rcases aEz k l.length with h|h
  .exact h
  .rw[qY h]at L;cases L
 refine⟨λa m u U=>?_,λa m S=>?_,λi j a b u B F m M=>?_⟩
 .rcases uF m with m|rfl
  .exact h.free a m u U
  .cases U;exact q.1
 .rcases uF m with m|rfl
  .exact h.nil a m S
  .cases S
 .rw[pZ]at B F;split at B<;>split at F
  .rename_i H y;rw[<-H,<-y]
  .rename_i H y
   try rw[aE G]at B
   cases B;cases m;exact(y (q.2 j b F M).symm).elim
  .rename_i H y
   try rw[aE G]at F
   cases F;cases M;exact(H (q.2 i a B m).symm).elim
  .exact h.dst i j a b u B F m M
theorem mC{s X:St}{l:List dX}(h:OwnOk s l){k:Nat}{o:dX}(Z:l[k]?=some o){t n:Nat}(h':OwnOk s (l.set k (some t,n,o.2.2)))
  (hX:∀t,X.getT t=s.getT t):((dG X l).setT t (n,o.2.2)).ge (dG X (l.set k (some t,n,o.2.2))):=by
 have S:k<l.length:=by
  rcases aEz k l.length with h|h
  .exact h
  .rw[qY h]at Z;cases Z
 have z:(l.set k (some t,n,o.2.2))[k]?=some (some t,n,o.2.2):=by rw[pZ,aE rfl,aE S]
 refine⟨λb o h=>by rw[aJ]at h;rw[cZ,aJ];exact h,λu m F=>?_,λx hx=>by rw[vK]at hx;show(dG X l).ls=_;rw[vK];exact hx⟩;rw[cF];rw[pC]at F;cases L:(l.set k (some t,n,o.2.2)).find? (λo=>decide (o.1=some u))with
 | some a =>
  rw[L]at F;have G:=List.find?_some L;have h2:=zN L;simp only[dA]at G;obtain⟨j,hj,e⟩:=gZ h2;have q:(l.set k (some t,n,o.2.2))[j]?=some a:=by rw[aV hj,e]
  by_cases B:t=u
  .subst B;have:=h'.dst j k a _ t q z G rfl;subst this;rw[q]at z;cases z;rw[aE rfl];exact F
  .rw[aD B]
   have O:k≠j:=λe=>by
    subst e;rw[q]at z;cases z;exact B (gQ G)
   rw[pZ,aD O]at q
   have h3:(dG X l).getT u=some a.2:=by
    rw[pC];cases y:l.find? (λo=>decide (o.1=some u))with
    | none =>
     have:=uG.1 y a (cR q);simp[G]at this
    | some c =>
     have H:=List.find?_some y;simp only[dA]at H;obtain⟨i,hi,e⟩:=gZ (zN y);have M:l[i]?=some c:=by rw[aV hi,e]
     have:=h.dst i j c a u M q H G;subst this;rw[M]at q;cases q;rfl
   rw[h3];exact F
 | none =>
  rw[L]at F;have U:=uG.1 L
  have B:¬ t=u:=λe=>by
   have:=U _ (cR z);simp[e]at this
  rw[aD B,pC];cases y:l.find? (λo=>decide (o.1=some u))with
  | none=>exact F
  | some c =>
   have H:=List.find?_some y;simp only[dA]at H;have:=h.free c (zN y) u H;rw[<-hX]at this;have F:X.getT u=some m:=F;rw[this]at F;cases F
theorem gU{X Y:St}{l:List dX}(h:X.ge Y):(dG X l).ge (dG Y l):=by
 induction l with
 | nil=>exact h
 | cons o l m=>exact nD (aAj (aCD m _ _))
theorem aG1{X s:St}{l:List dX}{L M:List Nat}(m:∀o,o∈l->∀t,o.1=some t->s.getT t=none)(h:X.gel s L M):(dG X l).gel s L M:=by
 induction l with
 | nil=>exact h
 | cons o l u=>exact aHj (u λa q=>m a (by simp[q])) (m o aW)
theorem aDm{X s:St}{l:List dX}{r:Nat}(m:∀o,o∈l->∀t,o.1=some t->s.getT t=none)(h:X.gx s r):(dG X l).gx s r:=by
 induction l with
 | nil=>exact h
 | cons o l u=>exact fA (u λa q=>m a (by simp[q])) (m o aW)
theorem aGg{s:St}{l:List dX}{s2:St}(m:s.ge s2)(h:∀o,o∈l->∀t,o.1=some t->s2.getT t=none):(dG s l).ge s2:=nD (aG1 h (aCD m _ _))
theorem gF{X:St}{H Q:Nat->Prop}(k:∀p,H p->Q p)(h:∀p,X.getO p=none->H p:=by(intro p h;(try simp only[aJ,bW,cN,bJ]at h);exact h)):∀p,X.getO p=none->Q p:=λp e=>k p (h p e)
theorem aGG{α:Type}(p:α->Bool)(a:α)(m:p a=false):∀(l:List α) (k:Nat),(∀x,l[k]?=some x->p x=false)->(l.set k a).find? p=l.find? p
 | [],k,h=>by simp
 | x::l,0,h=>by
  have:=h x aW;simp only[sM,List.find?,m,this]
 | x::l,k+1,h=>by
  have u:=aGG p a m l k (λy q=>h y (gQ q));simp only[qZ,List.find?,u]
theorem aFF{s X:St}{l:List dX}(h:OwnOk s l){k:Nat}{o:dX}(q:l[k]?=some o)(n:Nat)(e:TypeId)(u:Nat) :
  (gs (dG X (l.set k (none,n,e))) o.1 o.2.1 o.2.2).getT u=(dG X l).getT u:=by
 rw[eB];by_cases ho:o.1=some u
 .rw[aE ho,pC];cases y:l.find? (λo=>decide (o.1=some u))with
  | none =>
   have:=uG.1 y o (cR q);simp[ho]at this
  | some a =>
   have F:=List.find?_some y;obtain⟨j,G,B⟩:=gZ (zN y);have m:l[j]?=some a:=by rw[aV G,B]
   have:=h.dst j k a o u m q (gQ F) ho;subst this;rw[m]at q;cases q;rfl
 .rw[aD ho,pC,pC,aGG _ _ aW l k (λx z=>by rw[q]at z;cases z;simpa using ho)]
theorem aFE{s X:St}{l:List dX}(h:OwnOk s l){k:Nat}{o:dX}(B:l[k]?=some o)(n:Nat)(e:TypeId) :
  (dG X l).ge (gs (dG X (l.set k (none,n,e))) o.1 o.2.1 o.2.2) :=
 ⟨λb x q=>by rw[bW,aJ]at q;rw[aJ];exact q,λu m y=>by rw[aFF h B]at y;exact y,λx z=>by rw[aBb,vK]at z;rw[vK];exact z⟩
theorem aGi{s X:St}{l:List dX}{k:Nat}{tk:Option Nat}{m:Nat}{e:TypeId}(F:k<l.length)(h:OwnOk s (l.set k (tk,m,e)))(n:Nat)(e':TypeId) :
  (gs (dG X (l.set k (none,n,e'))) tk m e).ge (dG X (l.set k (tk,m,e))):=by
 have y:(l.set k (tk,m,e))[k]?=some (tk,m,e):=by rw[pZ,aE rfl,aE F]
 have key:=aFF (X:=X) h y n e';rw[List.set_set]at key;exact⟨λb x z=>by rw[aJ]at z;rw[bW,aJ];exact z,λu q G=>by rw[key];exact G,λx B=>by rw[vK]at B;rw[aBb,vK];exact B⟩
theorem aG6{s X:St}{l:List dX}(h:OwnOk s l){k:Nat}{o:dX}(u:l[k]?=some o)(n:Nat)(e:TypeId)(F:∀t,X.getT t=s.getT t){t:Nat}(y:o.1=some t):(dG X (l.set k (none,n,e))).getT t=none:=by
 rw[aJK,F]
 .exact h.free o (cR u) t y
 .intro a G q;obtain⟨j,H,z⟩:=gZ G;have m:(l.set k (none,n,e))[j]?=some a:=by rw[aV H,z]
  rw[pZ]at m;split at m
  .split at m
   .cases m;cases q
   .cases m
  .rename_i B;exact B (h.dst j k a o t m u q y).symm
theorem aGs{s X:St}{l:List dX}(h:OwnOk s l){k:Nat}(S:k<l.length)(n:Nat)(e e':TypeId)(hX:∀t,X.getT t=s.getT t){tk:Option Nat}{m:Nat}
  (hf:∀t,tk=some t->(dG X (l.set k (none,n,e'))).getT t=none)(hn:tk=none->m=0):OwnOk s (l.set k (tk,m,e)):=by
 have key:∀t,tk=some t->s.getT t=none/\∀(j:Nat) (a:dX),j≠k->l[j]?=some a->a.1≠some t:=by
  intro t ht;have G:=hf t ht;rw[pC]at G;cases O:(l.set k (none,n,e')).find? (λo=>decide (o.1=some t))with
  | some a=>rw[O]at G;cases G
  | none =>
   rw[O]at G;refine⟨by rw[<-hX];exact G,λj a y q L=>?_⟩;have Z:(l.set k (none,n,e'))[j]?=some a:=by rw[pZ,aD (λe=>y e.symm)];exact q
   have:=uG.1 O a (cR Z);simp[L]at this
 refine⟨λa q u U=>?_,λa q H=>?_,λi j a b u z y q M=>?_⟩
 .rcases uF q with q|rfl
  .exact h.free a q u U
  .exact(key u U).1
 .rcases uF q with q|rfl
  .exact h.nil a q H
  .exact hn H
 .rw[pZ]at z y;by_cases B:k=i<;>by_cases F:k=j
  .rw[<-B,<-F]
  .rw[aE B,aE S]at z;rw[aD F]at y;cases z;exact((key u q).2 j b (λe=>F e.symm) y M).elim
  .rw[aD B]at z;rw[aE F,aE S]at y;cases y;exact((key u M).2 i a (λe=>B e.symm) z q).elim
  .rw[aD B]at z;rw[aD F]at y;exact h.dst i j a b u z y q M
end Go.AV
section
open Go.Proofs.Tryz
namespace Go.AV
open Go Go.Proofs
end Go.AV
end
namespace Go.AV
open Go Go.Proofs Tryz
section
theorem gH{p:Prop}(h:p:=by(simp only[aH,dT,cZ,bW,aJ,bJ,eG,reduceIte, *]<;>(first|done|rfl|assumption))):p:=h
theorem bA{s1 s:St}(h:s1.ge s:=by(repeat (first|exact aG _|refine bQ (by first|(simp only[*];done)|assumption) ?_))):s1.ge s:=h
theorem aR{s1 s:St}{r:Nat}(h:s1.gx s r:=by(repeat (first|refine aDm (by assumption) ?_|exact dY _ _|refine dM ?_|refine fA ?_ (by assumption)|refine aC8 (by assumption) ?_|refine cE (by first|(simp only[*];done)|assumption) ?_|refine aC8 (by first|(simp only[*];done)|assumption) ?_))):s1.gx s r:=h
theorem iX{s1 s:St}{L M:List Nat}(h:s1.gel s L M:=by(repeat (first|exact vA _ _ _|exact aCD (by assumption) _ _|refine aG1 (by assumption) ?_|refine aAj ?_|refine aAm aDb ?_|refine gB1 ?_|refine gB2 ?_|refine aHj ?_ (by assumption)|refine aGf (by assumption) ?_|refine rM gH ?_|refine gB3 ?_|refine tD (by first|(simp only[*];done)|assumption) ?_))):s1.gel s L M:=h
theorem bL{s1 s:St}(h:s1.gel s [] []:=by exact iX):s1.ge s:=nD h
theorem aM{f:FuncId}{c:Code}{args:List A}{KV Kp:St->A->Prop}{s:St}{fn:Func}(u:cx.P.funcs[f]?=some fn)(V:List Nat)
  (h:eN cx fn.ntmps V c (jG cx fn.results.toList (DK KV) (DK Kp)) (mK 0 args) s)
  (q:fn.body=some c:=by exact rfl)
  (m : (fn.name == "runtime.NumGoroutine") = false := by exact rfl) (y : args.length ≤ fn.ntmps := by exact gO rfl) : Den cx f args KV Kp s :=
 Den.drop (aCg u q m y (bC _ _ _ _ h))
theorem sH{f:FuncId}{c:Code}{args:List A}{KV Kp:St->A->Prop}{s:St}{fn:Func}(u:jZ.P.funcs[f]?=some fn)(V:List Nat)
  (h:eN jZ fn.ntmps V c (jG jZ fn.results.toList (DK KV) (DK Kp)) (mK 0 args) s)
  (q:fn.body=some c:=by exact rfl)
  (m : (fn.name == "runtime.NumGoroutine") = false := by exact rfl) (y : args.length ≤ fn.ntmps := by exact gO rfl) : Den cx f args KV Kp s :=
 Den.drop (aNE (aCg (C:=jZ) u q m y (bC _ _ _ _ h)))
theorem aQ{P:Option A->Prop}{b:Bool}(h:b=true->P (some (.bool true)))(m:b=false->P (some (.bool false))):P (some (.bool b)):=by
 cases b
 .exact m rfl
 .exact h rfl
def OT.r:Nat->Nat->OT
 | _,0=>.nil
 | i,k+1=>.node i (OT.r (i+1) k)
attribute [go_sem] OT.r
section
variable {C:Cx} {n:Nat} {ops:Array Oper} {s:St} {Kp:St->A->Prop} {id:Nat} {V:List Nat} {Q0:XK->Env->St->Prop} {e:Env}
theorem bB(t:OT)(E:List (Nat × List Nat))
  (h:fJ C n (ops.toList.map (·.dst)) ops.toList E (jF V Q0) (tZ Q0 (ops.toList.map (·.dst)) e) t [] e s)
  (q:C.P.follows .mixedOrders=true:=by exact aMT)
  (m:(zI ops E&&mS ops ops.size (Array.replicate ops.size false) t&&aAU C.tt ops)=true:=by decide +kernel) :
  aBc C n id ops (jY (jF V Q0) Q0) e s:=aNx t E q m h
end
end
mutual
def A.bulk:A->Nat
 | .str x=>x.length
 | .list _ es=>cH es
 | .agg cs=>cW cs
 | _=>0
def cH:List A->Nat
 | []=>0
 | a::r=>A.bulk a+1+cH r
def cW:List A->Nat
 | []=>0
 | a::r=>A.bulk a+cW r
end
theorem aIK(a:A):cW a.cells=a.bulk:=by
 cases a<;>simp[A.cells,cW,A.bulk]
theorem qD:∀l r:List A,cW (l++r)=cW l+cW r
 | [],r=>by simp[cW]
 | a::l,r=>by simp[cW,qD l r,lT]
theorem zX:∀l r:List A,cH (l++r)=cH l+cH r
 | [],r=>by simp[cH]
 | a::l,r=>by simp[cH,zX l r,lT]
theorem aFK:∀l:List A,l.length<=cH l
 | []=>bH _
 | a::l=>by have:=aFK l;simp only[aO,cH];omega
theorem iN{α:Type}(h:α->A)(l:List α):l.length<=cH (l.map h):=by have:=aFK (l.map h);rwa[aK]at this
structure OprI (o:Opr):Prop where
 s:∀n,n∈o.strict->-9223372036854775808<=n/\n<=9223372036854775807
 p:o.prec<=9223372036854775807
theorem aEu(s:St)(c:Int)(KV Kp)(m:KV s (.bool (rX c))):Den cx 80 [.int .u8 c] KV Kp s:=by
 unfold rX at m;(refine aM func80 [0,2] ?_;simp only[go_sem,ntmps80,f80])
 (repeat' (first|exact aF m bA|((apply aQ<;>intro h)<;>simp only[go_sem,h]<;>(try simp only[h,fX,gJ,jA,jN,nT,lU,mU,iM,fW,iE]at m))))
theorem aAg(s:St)(c:Int)(KV Kp)(m:KV s (.bool (iT c))):Den cx 81 [.int .u8 c] KV Kp s:=by
 unfold iT at m;(refine aM func81 [0,2] ?_;simp only[go_sem,ntmps81,f81])
 (repeat' (first|exact aF m bA|(refine aEu _ _ _ _ ?_;simp only[go_sem])|((apply aQ<;>intro h)<;>simp only[go_sem,h]<;>(try simp only[h,fX,gJ,jA,jN,nT,lU,mU,iM,fW,iE]at m))))
theorem oZ(s:St)(x:List UInt8)(KV Kp)(B:KV s (.bool (dU x))):Den cx 35 [.str x] KV Kp s:=by
 (refine aM func35 [0,2,3,16,18,19,20,26] ?_;simp only[go_sem,ntmps35,f35])
 (apply aQ<;>intro h)<;>simp only[go_sem,h]
 .have:x=[]:=gQ h;subst this;exact aN B
 have L:x≠[]:=gQ h;obtain⟨c,r,z⟩:=List.exists_cons_of_ne_nil L
 (apply aQ<;>intro h)<;>simp only[go_sem,h]
 .have u:¬ x.length<=40:=by simp at h;omega
  have:dU x=false:=by rw[z]at u⊢;simp only[dU,u,xC,gJ]
  exact aN (by rwa[this]at B)
 have u:x.length<=40:=by simp at h;omega
 have O:x[0]?=some c:=by rw[z];rfl
 have H:0<x.length:=by rw[z];exact Nat.zero_lt_succ _
 simp only[go_sem,O,H];refine aEu _ _ _ _ ?_;simp only[go_sem]
 (apply aQ<;>intro h)<;>simp only[go_sem,h]
 .have:dU x=false:=by
   have:rX c.toNat=false:=gQ h;rw[z];simp[dU,this]
  exact aN (by rwa[this]at B)
 have hl:rX c.toNat=true:=gQ h
 refine Ex.loop (λi=>[(0,.str x),(18,.int .i64 x.length),(19,.int .i64 (i:Nat))]) (λ_=>s)
  (λi=>i<=x.length/\∀d∈x.take i,iT d.toNat=true) (λi=>x.length-i) 0 ⟨aX _,by simp⟩ ?_ (aG s) ?_
 .simp only[go_sem];rfl
 .rintro i ⟨S,m⟩;refine bC (V:=[0,2,3,16,18,19,20,26]) _ _ _ _ ?_;simp only[go_sem]
  (apply aQ<;>intro h)<;>simp only[go_sem,h]
  .have y:i<x.length:=gQ h;obtain⟨d,G⟩:∃d,x[i]?=some d:=⟨_,aV y⟩
   simp only[go_sem,G,y];refine aAg _ _ _ _ ?_;simp only[go_sem]
   (apply aQ<;>intro h)<;>simp only[go_sem,h]
   .have M:iT d.toNat=false:=gQ h
    have:dU x=false:=by
     rw[z]at G⊢;simp only[dU,Bool.and_eq_false_iff];refine .inr (.inr (wZ.2 λm=>?_));rw[fS]at m;have:=m d (cR G);rw[M]at this;cases this
    exact aN (by rwa[this]at B)
   .have M:iT d.toNat=true:=gQ h;refine⟨i+1,⟨by omega,?_⟩,by omega,?_,aG s⟩
    .intro q F;rw[eO,G]at F;simp only[dK,Option.toList_some,cD]at F;rcases F with F|rfl
     .exact m q F
     .exact M
    .simp only[go_sem,bM i aB]
  .have y:i=x.length:=by simp at h;omega
   have:dU x=true:=by
    rw[y,List.take_length]at m;rw[z]at m u⊢;simp only[dU,hl,fS,dF,dA];exact⟨u,trivial,m⟩
   exact aN (by rwa[this]at B)
theorem aFk {C : Cx} {f : FuncId} {fn : Func} {e : Array Value → Sem Value} (H : C.P.funcs[f]? = some fn) (m : (fn.name == "runtime.NumGoroutine") = false)
  (B:fn.body.isNone=true)(L:Extern.findNext fn=none)(G:Extern.find fn=some e){args:List A}{s:St}{KV Kp:St->A->Prop}
  (h:∀g vals,Rzs g args vals->∃v a,(∀w,(e vals.toArray).run C.P w=.ok v w)/\Rz g a v/\KV s a):Den C f args KV Kp s:=by
 intro F g w vals z M;obtain⟨v,a,q,u,y⟩:=h g vals M;rw[run_callFunc_extern H m B L G,q];exact⟨g,a,s,dW g,z,u,y⟩
theorem Rzs.two{g:Gh}{a b:A}{vals:List Value}(h:Rzs g [a,b] vals):∃u v,vals=[u,v]/\Rz g a u/\Rz g b v:=by
 have hl:=h.1
 match vals,hl with
 | [u,v],_=>exact⟨u,v,rfl,h.2 0 a u rfl rfl,h.2 1 b v rfl rfl⟩
theorem aID(s:St)(x:aC)(c:UInt8)(KV Kp)(h:KV s (.int .i64 (Lib.indexByte x c))):Den cx 215 [.str x,.int .u8 c.toNat] KV Kp s:=by
 refine aFk (C:=cx) func215 rfl rfl rfl (e:=Extern.BytealgIndexByte.indexByte) (by kernel_rfl) λg vals m=>?_
 obtain⟨u,v,rfl,q,y⟩:=m.two;rw[q.str_inv,y.int_inv];refine⟨_,_,λw=>Lib.run_indexByteString _ _ w,.int _ _,?_⟩;simpa using h
theorem aJk(s:St)(x:aC)(c:UInt8)(KV Kp)(h:KV s (.int .i64 (x.count c:Nat))):Den cx 184 [.str x,.int .u8 c.toNat] KV Kp s:=by
 refine aFk (C:=cx) func184 rfl rfl rfl (e:=Extern.BytealgCount.count) (by kernel_rfl) λg vals m=>?_
 obtain⟨u,v,rfl,q,y⟩:=m.two;rw[q.str_inv,y.int_inv];refine⟨_,_,λw=>Lib.run_countString _ _ w,.int _ _,?_⟩;simpa [Lib.countByte]using h
theorem aIF(s:St)(x:aC)(c:UInt8)(KV Kp)(m:KV s (.int .i64 (Lib.indexByte x c))):Den cx 200 [.str x,.int .u8 c.toNat] KV Kp s:=by
 (refine aM func200 [0,1,4] ?_;simp only[go_sem,ntmps200,f200])
 (repeat' (first|exact aF m bA|(refine aID _ _ _ _ _ ?_;simp only[go_sem])|((apply aQ<;>intro h)<;>simp only[go_sem,h]<;>(try simp only[h,fX,gJ,jA,jN,nT,lU,mU,iM,fW,iE]at m))))
theorem zP(s:St)(x:aC)(c:UInt8)(KV Kp)(m:KV s (.int .i64 (Lib.indexByte x c))):Den cx 179 [.str x,.int .u8 c.toNat] KV Kp s:=by
 (refine aM func179 [0,1,4] ?_;simp only[go_sem,ntmps179,f179])
 (repeat' (first|exact aF m bA|(refine aIF _ _ _ _ _ ?_;simp only[go_sem])|((apply aQ<;>intro h)<;>simp only[go_sem,h]<;>(try simp only[h,fX,gJ,jA,jN,nT,lU,mU,iM,fW,iE]at m))))
theorem aIR(s:St)(x p:aC)(KV Kp)(m:KV s (.bool (mG x p))):Den cx 230 [.str x,.str p] KV Kp s:=by
 unfold mG at m;(refine aM func230 [0,1,4] ?_;simp only[go_sem,ntmps230,f230])
 (apply aQ<;>intro h)<;>simp only[go_sem,h]<;>(try simp only[h,fX,gJ,jA,jN,nT,lU,mU,iM,fW,iE]at m)
 .have hl:p.length<=x.length:=gQ h;simp only[go_sem,hl];exact aN m
 .exact aN m
theorem aEd(s:St)(x p:aC)(KV Kp)(m:KV s (.bool (mG x p))):Den cx 216 [.str x,.str p] KV Kp s:=by
 (refine aM func216 [0,1,4] ?_;simp only[go_sem,ntmps216,f216])
 (repeat' (first|exact aF m bA|(refine aIR _ _ _ _ _ ?_;simp only[go_sem])|((apply aQ<;>intro h)<;>simp only[go_sem,h]<;>(try simp only[h,fX,gJ,jA,jN,nT,lU,mU,iM,fW,iE]at m))))
theorem aIz(s:St)(x:aC)(c:UInt8)(KV Kp)(L:x.length<=4294967296)(u:KV s (.int .i64 (lB x c x.length))):Den cx 186 [.str x,.int .u8 c.toNat] KV Kp s:=by
 (refine aM func186 [0,1,4,5,10,17] ?_;simp only[go_sem,ntmps186,f186]);rw[fF _ aB aB]
 refine Ex.loop (λn=>[(0,.str x),(1,.int .u8 c.toNat),(5,.int .i64 ((n:Nat)-1:Int))]) (λ_=>s)
  (λn=>n<=x.length/\lB x c x.length=lB x c n) (λn=>n) x.length ⟨bH _,rfl⟩ ?_ (aG s) ?_
 .simp only[go_sem]
 .rintro n ⟨H,z⟩;refine bC (V:=[0,1,4,5,10,17]) _ _ _ _ ?_;simp only[go_sem]
  (apply aQ<;>intro h)<;>simp only[go_sem,h]
  .obtain⟨m,rfl⟩:∃m,n=m+1:=⟨n-1,by simp at h;omega⟩
   have F:(((m+1:Nat):Int)-1)=(m:Int):=by omega
   have B:m<x.length:=by omega
   obtain⟨d,y⟩:∃d,x[m]?=some d:=⟨_,aV B⟩
   simp only[go_sem,F,B,y]
   (apply aQ<;>intro h)<;>simp only[go_sem,h]
   .have q:d=c:=by
     have:d.toNat=c.toNat:=gQ h;exact rB.1 this
    subst q;rw[z,lB,aE y]at u;exact aN u
   .have q:¬ d=c:=by
     rintro rfl;simp at h
    rw[fF _ aB aB];refine⟨m,⟨by omega,?_⟩,by omega,?_,aG s⟩
    .rw[z,lB,aD (by rw[y];simpa using q)]
    .simp only[go_sem]
  .have G:n=0:=by simp at h;omega
   subst G;rw[z,lB]at u;exact aN u
theorem aIE(s:St)(x:aC)(c:UInt8)(KV Kp)(q:x.length<=4294967296)(m:KV s (.int .i64 (lB x c x.length))):Den cx 149 [.str x,.int .u8 c.toNat] KV Kp s:=by
 (refine aM func149 [0,1,4] ?_;simp only[go_sem,ntmps149,f149])
 (repeat' (first|exact aF m bA|(refine aIz _ _ _ _ _ q ?_;simp only[go_sem])|((apply aQ<;>intro h)<;>simp only[go_sem,h]<;>(try simp only[h,fX,gJ,jA,jN,nT,lU,mU,iM,fW,iE]at m))))
theorem aEJ(s:St)(c:Int)(KV Kp)(m:KV s (.bool (mI c))):Den cx 218 [.int .u8 c] KV Kp s:=by
 unfold mI at m;(refine aM func218 [0,2] ?_;simp only[go_sem,ntmps218,f218])
 (repeat' (first|exact aF m bA|((apply aQ<;>intro h)<;>simp only[go_sem,h]<;>(try simp only[h,fX,gJ,jA,jN,nT,lU,mU,iM,fW,iE]at m))))
theorem aG2(s:St)(x:aC)(f:FuncId)(p:UInt8->Bool)(KV Kp)(H:x.length<=4294967296)
  (F:∀(c:UInt8) KV Kp,KV s (.bool (p c))->Den cx f [.int .u8 c.toNat] KV Kp s)
  (u:KV s (.int .i64 (x.takeWhile p).length)):Den cx 217 [.str x,.fn f [] []] KV Kp s:=by
 (refine aM func217 [0,1,4,5,16] ?_;simp only[go_sem,ntmps217,f217])
 refine Ex.loop (λn=>[(0,.str x),(1,.fn f [] []),(5,.int .i64 (n:Nat))]) (λ_=>s)
  (λn=>n<=x.length/\(x.takeWhile p).length=n+((x.drop n).takeWhile p).length) (λn=>x.length-n) 0 ⟨aX _,by simp⟩ ?_ (aG s) ?_
 .simp only[go_sem];rfl
 .rintro n ⟨G,z⟩;refine bC (V:=[0,1,4,5,16]) _ _ _ _ ?_;simp only[go_sem]
  (apply aQ<;>intro h)<;>simp only[go_sem,h]
  .have m:n<x.length:=gQ h;obtain⟨d,y⟩:∃d,x[n]?=some d:=⟨_,aV m⟩
   have q:x.drop n=d::x.drop (n+1):=by
    rw[kO m];congr 1;rw[aV m]at y;simpa using y
   simp only[go_sem,y,m];refine F _ _ _ ?_;simp only[go_sem]
   (apply aQ<;>intro h)<;>simp only[go_sem,h]
   .have B:p d=true:=gQ h;refine⟨n+1,⟨by omega,?_⟩,by omega,?_,aG s⟩
    .rw[z,q,List.takeWhile_cons_of_pos B,aO];omega
    .simp only[go_sem,bM n aB]
   .have B:¬ p d=true:=by simp[h]
    rw[z,q,List.takeWhile_cons_of_neg B]at u;exact aN (gQ u)
  .have m:n=x.length:=by simp at h;omega
   subst m;rw[z,List.drop_length]at u;exact aN (gQ u)
theorem qF{s:St}{b:Nat}{o:Ob}(h:s.getO b=some o):s.ge (s.setO b o) :=
 ⟨fun c x m => by
  rw[aH]at m;split at m
  .rename_i e;subst e;rw[h];exact m
  .exact m,λ_ _ h=>h,λ_ h=>h⟩
def eL(x:aC)(m h q:Nat)(sg:List aC)(op:Bool):List A:=[.str x,.int .i64 m,.int .i64 h,.int .i64 q,.list none (sg.map .str),.bool op]
theorem aDd:∀(w v:aC) (p:Nat × Nat),dJ p (w++v)=dJ (dJ p w) v
 | [],v,p=>rfl
 | b::w,v,(l,c)=>by
  simp only[bT,dJ];split<;>exact aDd w v _
theorem rP:∀(w:aC) (p:Nat × Nat) (k:Nat),p.1<=k+1->p.2<=k+1->(dJ p w).1<=k+w.length+1/\(dJ p w).2<=k+w.length+1
 | [],p,k,h,m=>⟨h,m⟩
 | b::w,(l,c),k,h,m=>by
  simp only[dJ,aO];split
  .have:=rP w (l+1,1) (k+1) (gQ h) aW;omega
  .have:=rP w (l,c+1) (k+1) (by have:l<=k+1:=h;simp;omega) (gQ m);omega
theorem aAt(s:St)(r:Nat)(x:aC)(m l c n:Nat)(sg:List aC)(op:Bool)(KV Kp)
  (U:s.getO r=some (.cells 231 (eL x m l c sg op)))(hx:x.length<=4294967296)(hn:m+n<=x.length)(hl:l<=m+1)(O:c<=m+1)
  (S:KV (s.setO r (.cells 231 (eL x (m+n) (dJ (l,c) ((x.drop m).take n)).1 (dJ (l,c) ((x.drop m).take n)).2 sg op))) (.tuple [])) :
  Den cx 203 [.ptr r 0,.int .i64 n] KV Kp s:=by
 (refine aM func203 [0,1,4,5,6,23] ?_;simp only[go_sem,ntmps203,f203])
 refine Ex.loop (λi=>[(0,.ptr r 0),(4,.int .i64 n),(5,.int .i64 (i:Nat))])
  (λi=>s.setO r (.cells 231 (eL x (m+i) (dJ (l,c) ((x.drop m).take i)).1 (dJ (l,c) ((x.drop m).take i)).2 sg op)))
  (λi=>i<=n) (λi=>n-i) 0 (aX _) ?_ ?_ ?_
 .simp only[go_sem];rfl
 .simp only[Nat.add_zero,List.take_zero,dJ];exact qF U
 .intro i Z;refine bC (V:=[0,1,4,5,6,23]) _ _ _ _ ?_;have M:=rP ((x.drop m).take i) (l,c) m hl O;have z:((x.drop m).take i).length=i:=by rw[dQ,cS];omega
  rw[z]at M;simp only[go_sem]
  (apply aQ<;>intro h)<;>simp only[go_sem,h]
  .have u:i<n:=gQ h;have y:m+i<x.length:=by omega
   obtain⟨d,F⟩:∃d,x[m+i]?=some d:=⟨_,aV y⟩
   simp only[go_sem,eL];rw[bM _ aB];(refine bB (OT.r 0 10) [] ?_;simp only[go_sem,F,y])
   have B:dJ (l,c) ((x.drop m).take (i+1))=dJ (dJ (l,c) ((x.drop m).take i)) [d]:=by
    rw[eO,jL,F,aDd];rfl
   have L:IntKind.i64.wrap ((i:Int)+1)=((i+1:Nat):Int):=bM i aB;have G:IntKind.i64.wrap (((m+i:Nat):Int)+1)=((m+(i+1):Nat):Int):=by rw[bM _ aB];rfl
   have H:IntKind.i64.wrap (((dJ (l,c) ((x.drop m).take i)).1:Int)+1)=(((dJ (l,c) ((x.drop m).take i)).1+1:Nat):Int):=bM _ aB
   (apply aQ<;>intro h)<;>simp only[go_sem,h,G,H,L]
   .have q:d=10:=by
     have:d.toNat=10:=by simp at h;omega
     exact rB.1 this
    refine⟨i+1,by omega,by omega,rfl,?_⟩;rw[B];simp only[dJ,q,cM];exact aG _
   .have q:¬ d=10:=by rintro rfl;simp at h
    refine⟨i+1,by omega,by omega,rfl,?_⟩;rw[B];simp only[dJ,q,cI];exact aG _
  .have u:i=n:=by simp at h;omega
   subst u;exact aN S
@[go_sem] theorem aIS(x:aC)(n:Nat):(x.drop n).take (x.length-n)=x.drop n:=iZ (by rw[cS];exact bH _)
theorem aB5{b:UInt8}{r:aC}(h:mG (b::r) [47,47]=true):1<=((b::r).takeWhile (λc=>!decide (c=10))).length:=by
 have m:b=47:=by
  simp only[mG,dF,dA]at h;have:=h.2;simp at this;exact this.1
 subst m;simp[List.takeWhile]
theorem aCW:∀(f g:Nat) (w:aC),w.length<=f->w.length<=g->oQ f w=oQ g w
 | f,g,[],_,_=>by cases f<;>cases g<;>rfl
 | 0,g,b::r,h,_=>by simp at h
 | f,0,b::r,_,h=>by simp at h
 | f+1,g+1,b::r,m,q=>by
  simp only[aO]at m q;simp only[oQ];split
  .rw[aCW f g r aB aB]
  .split
   .rename_i u;have:=aB5 u;rw[aCW f g _ (by rw[cS,aO];omega) (by rw[cS,aO];omega)]
   .rfl
theorem aMY:eF []=0:=rfl
theorem aKu{b:UInt8}{r:aC}(h:rJ b=true):eF (b::r)=1+eF r:=by
 simp only[eF,aO,oQ,h,cM]
theorem aLX{b:UInt8}{r:aC}(m:rJ b=false)(h:mG (b::r) [47,47]=true) :
  eF (b::r)=((b::r).takeWhile (λc=>!decide (c=10))).length+eF ((b::r).drop ((b::r).takeWhile (λc=>!decide (c=10))).length):=by
 have:=aB5 h;simp only[eF,aO,oQ,m,cQ,cI,h,cM];rw[aCW r.length _ _ (by rw[cS,aO];omega) (bH _)]
theorem aL4{b:UInt8}{r:aC}(m:rJ b=false)(h:mG (b::r) [47,47]=false):eF (b::r)=0:=by
 simp only[eF,aO,oQ,m,cQ,cI,h]
theorem aLe(b:UInt8):decide (0<=Lib.indexByte [32,9,10,13] b)=rJ b:=by
 by_cases h:b=32
 .subst h;decide
 by_cases m:b=9
 .subst m;decide
 by_cases q:b=10
 .subst q;decide
 by_cases u:b=13
 .subst u;decide
 have y:((32:UInt8) == b)=false:=wX.2 λe=>h e.symm
 have z:((9:UInt8) == b)=false:=wX.2 λe=>m e.symm
 have B:((10:UInt8) == b)=false:=wX.2 λe=>q e.symm
 have F:((13:UInt8) == b)=false:=wX.2 λe=>u e.symm
 simp[Lib.indexByte,rJ,y,z,B,F,h,m,q,u]
theorem aMS(w:aC):(if Lib.indexByte w 10<0 then((w.length:Nat):Int) else Lib.indexByte w 10)=((w.takeWhile (λc=>!decide (c=10))).length:Nat)/\(Lib.indexByte w 10=-1\/0<=Lib.indexByte w 10):=by
 induction w with
 | nil=>simp[Lib.indexByte]
 | cons b r m =>
  obtain⟨m,z⟩:=m;unfold Lib.indexByte;by_cases q:b=10
  .subst q;simp
  .have u:(b == 10)=false:=gQ q;rw[u];simp only[cQ,cI];have y:(b::r).takeWhile (λc=>!decide (c=10))=b::r.takeWhile (λc=>!decide (c=10)):=by simp[List.takeWhile,q]
   rw[y];rcases z with h|h
   .rw[h]at m⊢;simp only[show((-1:Int)<0) from by decide,cM]at m;simp only[beq_self_eq_true,cM,show((-1:Int)<0) from by decide,aO];exact⟨by omega,.inl trivial⟩
   .have B:¬ Lib.indexByte r 10<0:=by omega
    have F:(Lib.indexByte r 10 == -1)=false:=by simpa using(by omega:¬ Lib.indexByte r 10=-1)
    rw[aD B]at m;rw[F];simp only[cQ,cI,aO];rw[aD aB];exact⟨by omega,.inr aB⟩
theorem aE6(s:St)(r:Nat)(x:aC)(q l c:Nat)(sg:List aC)(op:Bool)(KV Kp)
  (hr:s.getO r=some (.cells 231 (eL x q l c sg op)))(hx:x.length<=4294967296)(ha:q<=x.length)(hl:l<=q+1)(hc:c<=q+1)
  (M:KV (s.setO r (.cells 231 (eL x (q+eF (x.drop q)) (dJ (l,c) ((x.drop q).take (eF (x.drop q)))).1 (dJ (l,c) ((x.drop q).take (eF (x.drop q)))).2 sg op))) (.tuple [])) :
  Den cx 201 [.ptr r 0] KV Kp s:=by
 (refine aM func201 [0,2,3,13,23,30,36] ?_;simp only[go_sem,ntmps201,f201])
 refine Ex.loop (λk=>[(0,.ptr r 0)])
  (λk=>s.setO r (.cells 231 (eL x (q+k) (dJ (l,c) ((x.drop q).take k)).1 (dJ (l,c) ((x.drop q).take k)).2 sg op)))
  (λk=>q+k<=x.length/\eF (x.drop q)=k+eF (x.drop (q+k))) (λk=>x.length-(q+k)) 0 ⟨by omega,by simp⟩ ?_ ?_ ?_
 .simp only[go_sem]
 .simp only[Nat.add_zero,List.take_zero,dJ];exact qF hr
 .rintro k ⟨b2,L⟩;have G:((x.drop q).take k).length=k:=by rw[dQ,cS];omega
  have S:=rP ((x.drop q).take k) (l,c) q hl hc;rw[G]at S
  have u:∀m,dJ (l,c) ((x.drop q).take (k+m))=dJ (dJ (l,c) ((x.drop q).take k)) ((x.drop (q+k)).take m):=by
   intro m;rw[List.take_add,aDd,mT]
  refine bC (V:=[0,2,3,13,23,30,36]) _ _ _ _ ?_;simp only[go_sem];(refine bB (OT.r 0 10) [] ?_;simp only[go_sem,eL])
  (apply aQ<;>intro h)<;>simp only[go_sem,h]
  .have y:q+k<x.length:=gQ h
   have F:∃d w,x.drop (q+k)=d::w:=by
    rw[kO y];exact⟨_,_,rfl⟩
   obtain⟨d,w,z⟩:=F;have O:q+k<=x.length:=by omega
   have b1:(d::w).take (x.length-(q+k))=d::w:=by rw[<-z];exact aIS x _
   (refine bB (OT.r 0 10) [] ?_;simp only[go_sem,eL,z,b1,O,bH]);refine zP _ _ _ _ _ ?_;simp only[go_sem,aLe]
   (apply aQ<;>intro h)<;>simp only[go_sem,h]
   ·
    refine aAt _ r x (q+k) _ _ 1 sg op _ _ (by rw[aH,aE rfl];rfl) hx aB aB aB ?_;simp only[go_sem];refine⟨k+1,⟨by omega,?_⟩,by omega,?_⟩
    .rw[L,z,aKu h,show q+(k+1)=q+k+1 from rfl,<-mT,z];simp;omega
    .rw[u 1];exact aG _
   .refine aEd _ _ _ _ _ ?_;simp only[go_sem]
    (apply aQ<;>intro h)<;>simp only[go_sem,h]
    .have B:rJ d=false:=by assumption
     have hp:=h;refine zP _ _ 10 _ _ ?_;simp only[go_sem];have U:=aMS (d::w);have H:=aB5 hp;have b0:((d::w).takeWhile (λc=>!decide (c=10))).length<=(d::w).length:=(List.takeWhile_sublist _).length_le;have b3:(d::w).length=x.length-(q+k):=by rw[<-z,cS]
     have fin:∀m:Nat,m=((d::w).takeWhile (λc=>!decide (c=10))).length->q+k+m<=x.length/\eF (x.drop q)=k+m+eF (x.drop (q+(k+m))):=by
      rintro m rfl;refine⟨by omega,?_⟩;have:=aLX B hp;rw[L,z,this,<-lT q,<-mT,z];omega
     generalize hm:((d::w).takeWhile (λc=>!decide (c=10))).length=m at U H b0;obtain⟨f1,f2⟩:=fin m hm.symm
     (apply aQ<;>intro h)<;>simp only[go_sem,h]
     .have y:Lib.indexByte (d::w) 10<0:=gQ h;have e:=U.1;rw[aE y]at e;have e:w.length+1=m:=by simp at e;omega
      rw[e];refine aAt _ r x (q+k) _ _ m sg op _ _ (by rw[aH,aE rfl];rfl) hx f1 aB aB ?_;simp only[go_sem];refine⟨k+m,⟨by omega,f2⟩,by omega,?_⟩;rw[u m,lT q k m];exact aG _
     .have y:¬ Lib.indexByte (d::w) 10<0:=gQ h;have e:=U.1;rw[aD y]at e;rw[e];refine aAt _ r x (q+k) _ _ m sg op _ _ (by rw[aH,aE rfl];rfl) hx f1 aB aB ?_;simp only[go_sem];refine⟨k+m,⟨by omega,f2⟩,by omega,?_⟩;rw[u m,lT q k m];exact aG _
    .have B:rJ d=false:=by assumption
     rw[L,z,aL4 B h,Nat.add_zero]at M;exact aN M
  .have Z:q+k=x.length:=by simp at h;omega
   have e:eF (x.drop q)=k:=by rw[L,Z,List.drop_length,aMY];rfl
   rw[e]at M;exact aN M
theorem yE{x:aC}{i:Nat}{d:UInt8}(m:x[i]?=some d)(h:d.toNat<128):Utf8.decode ⟨x.toArray⟩ i=(d.toNat,1):=by
 have u:i<x.length:=(dH.1 m).1;have q:i<(ByteArray.mk x.toArray).size:=by simpa [ByteArray.size]using u
 have e:(ByteArray.mk x.toArray)[i]'q=d:=by
  exact(dH.1 m).2
 have:=decode_ascii ⟨x.toArray⟩ i q (by rw[e];exact h);rw[this,e]
theorem aMP{x:aC}{i:Nat}{d:UInt8}(m:x[i]?=some d)(h:128<=d.toNat):128<=(Utf8.decode ⟨x.toArray⟩ i).1:=by
 have u:i<x.length:=(dH.1 m).1;have q:i<(ByteArray.mk x.toArray).size:=by simpa [ByteArray.size]using u
 have e:(ByteArray.mk x.toArray)[i]'q=d:=by
  exact(dH.1 m).2
 exact(decode_high ⟨x.toArray⟩ i q (by rw[e];exact h)).1
theorem aEx(s:St)(x:aC)(KV Kp)(O:KV s (.bool (tQ x))):Den cx 172 [.str x] KV Kp s:=by
 (refine aM func172 [0,2,4,6,7,8,23] ?_;simp only[go_sem,ntmps172,f172]);intro b U;simp only[go_sem]
 refine Ex.loop (λi=>[(0,.str x),(6,.ptr b 0)]) (λi=>s.setO b (.iter x i))
  (λi=>i<=x.length/\∀d∈x.take i,qV d=true) (λi=>x.length-i) 0 ⟨aX _,by simp⟩ ?_ (aG _) ?_
 .simp only[go_sem]
 .rintro i ⟨hi,h⟩;refine bC (V:=[0,2,4,6,7,8,23]) _ _ _ _ ?_;by_cases u:i<x.length
  .obtain⟨d,z⟩:∃d,x[i]?=some d:=⟨_,aV u⟩
   have bad:qV d=false->∀o,DK KV (s.setO b o) (.bool false):=λho o=>by
    have:tQ x=false:=by
     rw[tQ,Bool.and_eq_false_iff];refine .inl (wZ.2 λh=>?_);rw[fS]at h;rw[h d (cR z)]at ho;cases ho
    rw[this]at O;exact aF O (eH U)
   by_cases m:d.toNat<128
   .by_cases ho:qV d=true
    .have y:=ho;simp only[qV,dF,dA,kD,gG]at y;obtain⟨o1,o2,S,o4⟩:=y;have Z:¬ d.toNat=34:=λe=>S (rB.1 e)
     have n4:¬ d.toNat=92:=λe=>o4 (rB.1 e)
     have B:decide ((d.toNat:Int)<32)=false:=cJ aB;have F:decide (126<(d.toNat:Int))=false:=cJ aB;have G:decide ((d.toNat:Int)=34)=false:=cJ aB;have L:decide ((d.toNat:Int)=92)=false:=cJ aB;simp only[go_sem,u,yE z m,B,F,G,L];refine⟨i+1,⟨by omega,λq H=>?_⟩,by omega,aG _⟩;rw[eO,z]at H;simp only[dK,Option.toList_some,cD]at H;rcases H with H|rfl
     .exact h q H
     .exact ho
    .have y:qV d=false:=gQ ho;have bad:=bad y;by_cases o1:32<=d.toNat
     .have B:decide ((d.toNat:Int)<32)=false:=cJ aB;by_cases o2:d.toNat<=126
      .have F:decide (126<(d.toNat:Int))=false:=cJ aB;by_cases S:d.toNat=34
       .have G:decide ((d.toNat:Int)=34)=true:=cY aB;simp only[go_sem,u,yE z m,B,F,G];exact bad _
       .have G:decide ((d.toNat:Int)=34)=false:=cJ aB
        have o4:d.toNat=92:=by
         have Z:¬ d=34:=λe=>S (by rw[e];rfl)
         simp only[qV,o1,o2,Z,xF,xC,fX,iE,aD8,dA]at y;rw[y];rfl
        have L:decide ((d.toNat:Int)=92)=true:=cY aB;simp only[go_sem,u,yE z m,B,F,G,L];exact bad _
      .have F:decide (126<(d.toNat:Int))=true:=cY aB;simp only[go_sem,u,yE z m,B,F];exact bad _
     .have B:decide ((d.toNat:Int)<32)=true:=cY aB;simp only[go_sem,u,yE z m,B];exact bad _
   .have hh:=aMP z aB;have B:decide (((Utf8.decode ⟨x.toArray⟩ i).1:Int)<32)=false:=cJ aB;have F:decide (126<((Utf8.decode ⟨x.toArray⟩ i).1:Int))=true:=cY aB;simp only[go_sem,u,B,F];exact bad (by simp only[qV,show¬ d.toNat<=126 from by omega,xC,gJ,jN]) _
  .have M:i=x.length:=by omega
   simp only[go_sem,u];refine aF (s2:=s) ?_ (eH U)
   have:tQ x=decide ((x.length:Int)<=200):=by
    rw[tQ]
    have:x.all qV=true:=by
     rw[fS];intro d z;rw[M,List.take_length]at h;exact h d z
    rw[this,fX];congr 1;simp;omega
   rwa[this]at O
theorem aI9(s:St)(x:aC)(c:UInt8)(KV Kp)(m:KV s (.str (x.dropWhile (sJ c)))):Den cx 236 [.str x,.int .u8 c.toNat] KV Kp s:=by
 (refine aM func236 [0,1,4,13] ?_;simp only[go_sem,ntmps236,f236])
 refine Ex.loop (λw=>[(0,.str w),(1,.int .u8 c.toNat)]) (λ_=>s)
  (λw=>w.dropWhile (sJ c)=x.dropWhile (sJ c)) (λw=>w.length) x rfl ?_ (aG s) ?_
 .simp only[go_sem]
 .intro w q;refine bC (V:=[0,1,4,13]) _ _ _ _ ?_;cases w with
  | nil =>
   simp only[go_sem,show decide ((0:Int)<((0:Nat):Int))=false from rfl];rw[<-q]at m;exact aN m
  | cons b r =>
   simp only[go_sem,show decide ((0:Int)<((r.length+1:Nat):Int))=true from cY aB]
   have e:decide (b.toNat=c.toNat)=sJ c b:=by
    unfold sJ;congr 1;exact propext rB
   simp only[go_sem,e]
   (apply aQ<;>intro h)<;>simp only[go_sem,h]
   .simp only[go_sem,show(1:Int)<=((r.length+1:Nat):Int) from by omega,show Int.toNat 1=1 from rfl];refine⟨by decide,r,?_,by omega,?_,aG s⟩
    .rw[<-q,List.dropWhile_cons,aE h]
    .exact iZ aB
   .rw[<-q,List.dropWhile_cons,aD (by simp[h])]at m;exact aN m
theorem aJb(s:St)(x:aC)(c:UInt8)(KV Kp)(m:c.toNat<128)(h:KV s (.str (x.dropWhile (sJ c)))):Den cx 231 [.str x,.str [c]] KV Kp s:=by
 (refine aM func231 [0,1,4,5,6,12,21,31] ?_;simp only[go_sem,ntmps231,f231]);cases x with
 | nil =>
  simp only[go_sem];exact aN h
 | cons b r =>
  simp only[go_sem,show decide (((1:Nat):Int)=1)=true from rfl,show decide ((c.toNat:Int)<128)=true from cY aB];refine aI9 _ _ _ _ _ ?_;simp only[go_sem];exact aN h
theorem aFz(x:aC)(d:UInt8):fP (x++[d])=fP x * 10+(d.toNat-48):=by
 simp[fP,List.foldl_append]
theorem aGk:∀(n:Nat) (x:aC),x.length=n->aA2 x->fP x<10 ^ n
 | 0,x,h,_=>by have:x=[]:=fD h;subst this;simp[fP]
 | n+1,x,h,q=>by
  have m:x≠[]:=by rintro rfl;simp at h
  obtain⟨y,d,rfl⟩:∃y d,x=y++[d]:=⟨x.dropLast,x.getLast m,(List.dropLast_concat_getLast m).symm⟩
  have z:=aGk n y (gQ h) (λe u=>q e (by simp[u]));have:=q d aW;rw[aFz,Nat.pow_succ];omega
theorem aMm(s:St)(x:aC)(KV Kp)(hl:1<=x.length)(u:x.length<=11)(z:aA2 x)(hk:KV s (.tuple [.int .i64 (fP x),.nili])):Den cx 240 [.str x] KV Kp s:=by
 obtain⟨b,r,rfl⟩:∃b r,x=b::r:=by
  cases x with
  | nil=>simp at hl
  | cons b r=>exact⟨b,r,rfl⟩
 have hb:=z b aW;(refine aM func240 [0,2,3,4,5,6,8,9,10,30,39,44,47,48,49,50,56,66] ?_;simp only[go_sem,ntmps240,f240]);have L:decide ((0:Int)<((r.length+1:Nat):Int))=true:=cY aB;have M:decide (((r.length+1:Nat):Int)<19)=true:=cY (by simp at u;omega);have F:decide ((b.toNat:Int)=45)=false:=cJ aB;have O:decide ((b.toNat:Int)=43)=false:=cJ aB;simp only[go_sem,L,M,F,O];refine⟨by unfold maxLen;simp at u;omega,?_⟩;have hx:(b::r).length=r.length+1:=rfl;generalize y:b::r=x at *
 refine Ex.loop (λi=>[(5,.str x),(6,.int .i64 (fP (x.take i):Nat)),(47,.list none (x.map λc=>.int .u8 c.toNat)),(48,.int .i64 ((r.length+1:Nat))),(49,.int .i64 (i:Nat)),(3,.nili)]) (λ_=>s)
  (λi=>i<=x.length) (λi=>x.length-i) 0 (aX _) ?_ (aG s) ?_
 .simp only[go_sem];subst y;exact⟨rfl,rfl,rfl⟩
 .intro i hi;refine bC (V:=[0,2,3,4,5,6,8,9,10,30,39,44,47,48,49,50,56,66]) _ _ _ _ ?_;simp only[go_sem]
  (apply aQ<;>intro h)<;>simp only[go_sem,h]
  .have m:i<x.length:=by simp at h;omega
   obtain⟨d,q⟩:∃d,x[i]?=some d:=⟨_,aV m⟩
   have G:=z d (cR q)
   have S:IntKind.u8.wrap ((d.toNat:Int)-48)=((d.toNat-48:Nat):Int):=by
    have H:((d.toNat:Int)-48) % 2 ^ 8=(d.toNat:Int)-48:=by omega
    simp only[IntKind.wrap,IntKind.signed,IntKind.bits,gJ,cQ,cI,H];omega
   have hn:fP (x.take i)<10 ^ 11:=by
    have h1:=aGk (x.take i).length (x.take i) rfl (λe he=>z e (nQ he));have h2:(x.take i).length<=11:=by rw[dQ];omega
    exact Nat.lt_of_lt_of_le h1 (Nat.pow_le_pow_right fK h2)
   have U:decide ((9:Int)<((d.toNat-48:Nat):Int))=false:=cJ aB
   have Z:IntKind.i64.wrap (((fP (x.take i):Nat):Int) * 10)=((fP (x.take i) * 10:Nat):Int):=by
    rw[fF _ aB aB];omega
   have f4:IntKind.i64.wrap ((d.toNat-48:Nat):Int)=((d.toNat-48:Nat):Int):=fF _ aB aB
   have f5:IntKind.i64.wrap (((fP (x.take i) * 10:Nat):Int)+((d.toNat-48:Nat):Int))=((fP (x.take (i+1)):Nat):Int):=by
    rw[eO,q];show _=((fP (x.take i++[d]):Nat):Int);rw[aFz,fF _ aB aB];omega
   simp only[go_sem,q,m,S,U,Z,f4,f5,bM i aB];exact⟨i+1,by omega,by omega,⟨rfl,rfl⟩,aG s⟩
  .have m:i=x.length:=by simp at h;omega
   have h0:x[0]?=some b:=by rw[<-y];rfl
   have B:0<x.length:=by omega
   simp only[go_sem,h0,B,F];rw[m,List.take_length];exact aN hk
theorem aET(s:St)(x:aC)(KV Kp)(hl:1<=x.length)(h:x.length<=11)(m:aA2 x)(q:KV s (.tuple [.int .i64 (fP x),.nili])):Den cx 232 [.str x] KV Kp s:=by
 (refine aM func232 [0,2,3,4,5,12] ?_;simp only[go_sem,ntmps232,f232]);refine aMm _ _ _ _ hl h m ?_;simp only[go_sem];exact aN q
theorem aKF(s:St)(x:aC)(KV Kp)(hx:x.length<=4294967296)(y:KV s (.tuple [(pN x).1.enc,.int .i64 (pN x).2.1,.bool (pN x).2.2])):Den cx 219 [.str x] KV Kp s:=by
 (refine aM func219 [0,2,3,4,5,6,28] ?_;simp only[go_sem,ntmps219,f219]);intro b q;simp only[go_sem,q];refine aG2 _ _ _ (λc=>mI c.toNat) _ _ hx (λc KV Kp h=>aEJ _ _ _ _ h) ?_;generalize O:(x.takeWhile λc=>mI c.toNat).length=n at y;have hnl:n<=x.length:=by rw[<-O];exact(List.takeWhile_sublist _).length_le
 simp only[go_sem,hnl];refine aJb _ _ 48 _ _ fK ?_;simp only[go_sem];generalize U:(x.take n).dropWhile (sJ 48)=g at y
 have bad:(10<g.length\/(∃c,x[n]?=some c/\iT c.toNat=true))->pN x=(⟨0,[],0,0,0⟩,0,false):=by
  intro Z;simp only[pN,O,U,aE Z]
 have z:¬ (10<g.length\/(∃c,x[n]?=some c/\iT c.toNat=true))->pN x=(⟨2,[],fP g,0,0⟩,n,decide (fP g<=2147483647)):=by
  intro Z;simp only[pN,O,U,aD Z]
 have L:aA2 g:=by
  intro d u;rw[<-U]at u;have m:=(List.dropWhile_sublist _).mem u;rw[<-O]at m
  have H:d∈x.takeWhile λc=>mI c.toNat:=by
   have:=nQ (l:=x) m
   have e:x.take (x.takeWhile λc=>mI c.toNat).length=x.takeWhile λc=>mI c.toNat:=by
    conv=>lhs;arg 2;rw[<-List.takeWhile_append_dropWhile (p:=λc=>mI c.toNat) (l:=x)]
    rw[List.take_left'];rfl
   rw[e]at m;exact m
  have h3:=fS.1 (List.all_takeWhile (p:=λc:UInt8=>mI c.toNat) (l:=x)) d H;simp only[mI,dF,dA]at h3;omega
 (apply aQ<;>intro h)<;>simp only[go_sem,h,q]
 .rw[bad (.inl (by simp at h;omega))]at y;exact aF y (eH q)
 .have B:¬ 10<g.length:=by simp at h;omega
  (apply aQ<;>intro h)<;>simp only[go_sem,h,q]
  .have M:n<x.length:=gQ h;obtain⟨c,S⟩:∃c,x[n]?=some c:=⟨_,aV M⟩
   simp only[go_sem,S,M,q];refine aAg _ _ _ _ ?_;simp only[go_sem,q]
   (apply aQ<;>intro h)<;>simp only[go_sem,h,q]
   .rw[bad (.inr ⟨c,S,h⟩)]at y;exact aF y (eH q)
   .have G:¬ (10<g.length\/(∃c,x[n]?=some c/\iT c.toNat=true)):=by
     rintro(m|⟨c',m,H⟩)
     .exact B m
     .rw[S]at m;cases m;rw[h]at H;cases H
    have F:=z G;rw[F]at y;have m1:(48::g).length<=11:=by simp;omega
    refine⟨by unfold maxLen;omega,?_⟩
    refine aET _ _ _ _ aW m1 (λd u=>by
     simp only[dD]at u;rcases u with rfl|u
     .decide
     .exact L d u) ?_
    have m2:fP (48::g)=fP g:=rfl;simp only[go_sem,q,m2];have m3:decide (((fP g:Nat):Int)<=2147483647)=decide (fP g<=2147483647):=by congr 1;simp only[eq_iff_iff];omega
    rw[m3];exact aF y (eH q)
  .have G:¬ (10<g.length\/(∃c,x[n]?=some c/\iT c.toNat=true)):=by
    rintro(m|⟨c',m,H⟩)
    .exact B m
    .have:=(dH.1 m).1;simp at h;omega
   have F:=z G;rw[F]at y;have m1:(48::g).length<=11:=by simp;omega
   refine⟨by unfold maxLen;omega,?_⟩
   refine aET _ _ _ _ aW m1 (λd u=>by
    simp only[dD]at u;rcases u with rfl|u
    .decide
    .exact L d u) ?_
   have m2:fP (48::g)=fP g:=rfl;simp only[go_sem,q,m2];have m3:decide (((fP g:Nat):Int)<=2147483647)=decide (fP g<=2147483647):=by congr 1;simp only[eq_iff_iff];omega
   rw[m3];exact aF y (eH q)
theorem aJe(s:St)(x:aC)(c:UInt8)(KV Kp)(h:KV s (.int .i64 (x.count c:Nat))):Den cx 148 [.str x,.str [c]] KV Kp s:=by
 (refine aM func148 [0,1,4,5,6,9,15,24] ?_;simp only[go_sem,ntmps148,f148]);simp only[go_sem,show decide (((1:Nat):Int)=0)=false from rfl,show decide (((1:Nat):Int)=1)=true from rfl];refine aJk _ _ _ _ _ ?_;simp only[go_sem];exact aN h
theorem aJA(s:St)(l:List aC)(x:aC)(KV Kp)(L:∀r:Int,(0<=r↔x∈l)->KV s (.int .i64 r)):Den cx 85 [.list none (l.map .str),.str x] KV Kp s:=by
 refine fT λH=>?_
 have G:=H _ (dZ ..);(refine aM func85 [0,1,4,5,7,8,9,16] ?_;simp only[go_sem,ntmps85,f85])
 refine Ex.loop (λi=>[(0,.list none (l.map .str)),(1,.str x),(7,.int .i64 l.length),(8,.int .i64 (i:Nat))]) (λ_=>s)
  (λi=>i<=l.length/\∀j,j<i->l[j]?≠some x) (λi=>l.length-i) 0 ⟨aX _,λj B=>by omega⟩ ?_ (aG s) ?_
 .simp only[go_sem];rfl
 .rintro i ⟨M,q⟩;refine bC (V:=[0,1,4,5,7,8,9,16]) _ _ _ _ ?_;simp only[go_sem]
  (apply aQ<;>intro h)<;>simp only[go_sem,h]
  .have m:i<l.length:=gQ h;obtain⟨a,z⟩:∃a,l[i]?=some a:=⟨_,aV m⟩
   simp only[go_sem,z,m]
   (apply aQ<;>intro h)<;>simp only[go_sem,h]
   .have u:x=a:=gQ h;subst u;have y:x∈l:=cR z;exact aN (L _ ⟨λ_=>y,λ_=>by omega⟩)
   .have u:¬ x=a:=gQ h;refine⟨i+1,⟨by omega,λj B=>?_⟩,by omega,?_,aG s⟩
    .by_cases F:j=i
     .subst F;rw[z];simpa [eq_comm]using u
     .exact q j aB
    .simp only[go_sem,G.wrap (i:=i) (gQ m)]
  .have m:i=l.length:=by simp at h;omega
   have y:¬ x∈l:=by
    intro y;obtain⟨j,B,e⟩:=gZ y;exact q j aB (by rw[aV B,e])
   exact aN (L _ ⟨λh=>cV h fK,λh=>cV h y⟩)
theorem kR(s:St)(l:List aC)(x:aC)(KV Kp)(h:KV s (.bool (decide (x∈l)))):Den cx 45 [.list none (l.map .str),.str x] KV Kp s:=by
 (refine aM func45 [0,1,4] ?_;simp only[go_sem,ntmps45,f45]);refine aJA _ _ _ _ _ λr m=>?_
 simp only[go_sem];have:decide (0<=r)=decide (x∈l):=by simp only[m]
 rw[this];exact aN h
end Go.AV
section
open Go.Proofs.Tryz
namespace Go.Proofs
open Go.Shelf
def Tryz.laysM171_ren:Go.Shelf.Ren:=⟨λ|171=>205|243=>223|246=>234|283=>242|284=>243|285=>244|286=>245|129=>131|317=>254|318=>255|319=>256|320=>257|337=>263|338=>264|n=>n,λ|3=>3|9=>9|2=>2|4=>4|171=>292|0=>0|53=>188|37=>294|5=>5|173=>295|212=>307|51=>186|20=>20|213=>308|46=>34|232=>323|233=>324|n=>n,λ|17=>3|18=>8|19=>9|n=>n⟩
theorem Tryz.laysM171:Go.Proofs.LaysM.n171 Tryz.prog Tryz.laysM171_ren:={
 mixed:=by kernel_rfl
 f129:=Tryz.func131.trans (congrArg some (by kernel_rfl))
 f171:=Tryz.func205.trans (congrArg some (by kernel_rfl))
 f243:=Tryz.func223.trans (congrArg some (by kernel_rfl))
 f246:=Tryz.func234.trans (congrArg some (by kernel_rfl))
 f283:=Tryz.func242.trans (congrArg some (by kernel_rfl))
 f284:=Tryz.func243.trans (congrArg some (by kernel_rfl))
 f285:=Tryz.func244.trans (congrArg some (by kernel_rfl))
 f286:=Tryz.func245.trans (congrArg some (by kernel_rfl))
 f317:=Tryz.func254.trans (congrArg some (by kernel_rfl))
 f318:=Tryz.func255.trans (congrArg some (by kernel_rfl))
 f319:=Tryz.func256.trans (congrArg some (by kernel_rfl))
 f320:=Tryz.func257.trans (congrArg some (by kernel_rfl))
 f337:=Tryz.func263.trans (congrArg some (by kernel_rfl))
 f338:=Tryz.func264.trans (congrArg some (by kernel_rfl))
 t0:=Tryz.underlying0
 a0:=Tryz.isAgg0
 z0:=Tryz.sizeOf0
 v0:=Tryz.zeroValue0
 t2:=Tryz.underlying2
 a2:=Tryz.isAgg2
 z2:=Tryz.sizeOf2
 v2:=Tryz.zeroValue2
 t3:=Tryz.underlying3
 a3:=Tryz.isAgg3
 z3:=Tryz.sizeOf3
 v3:=Tryz.zeroValue3
 t4:=Tryz.underlying4
 a4:=Tryz.isAgg4
 z4:=Tryz.sizeOf4
 v4:=Tryz.zeroValue4
 t5:=Tryz.underlying5
 a5:=Tryz.isAgg5
 z5:=Tryz.sizeOf5
 v5:=Tryz.zeroValue5
 t9:=Tryz.underlying9
 a9:=Tryz.isAgg9
 z9:=Tryz.sizeOf9
 v9:=Tryz.zeroValue9
 t20:=Tryz.underlying20
 a20:=Tryz.isAgg20
 z20:=Tryz.sizeOf20
 v20:=Tryz.zeroValue20
 t37:=Tryz.underlying294
 a37:=Tryz.isAgg294
 z37:=Tryz.sizeOf294
 v37:=Tryz.zeroValue294
 t46:=Tryz.underlying34
 a46:=Tryz.isAgg34
 z46:=Tryz.sizeOf34
 v46:=Tryz.zeroValue34
 t51:=Tryz.underlying186
 a51:=Tryz.isAgg186
 z51:=Tryz.sizeOf186
 v51:=Tryz.zeroValue186
 t53:=Tryz.underlying188
 a53:=Tryz.isAgg188
 z53:=Tryz.sizeOf188
 v53:=Tryz.zeroValue188
 t171:=Tryz.underlying292
 a171:=Tryz.isAgg292
 z171:=Tryz.sizeOf292
 v171:=Tryz.zeroValue292
 t173:=Tryz.underlying295
 a173:=Tryz.isAgg295
 z173:=Tryz.sizeOf295
 v173:=Tryz.zeroValue295
 t212:=Tryz.underlying307
 a212:=Tryz.isAgg307
 z212:=Tryz.sizeOf307
 v212:=Tryz.zeroValue307
 t213:=Tryz.underlying308
 a213:=Tryz.isAgg308
 z213:=Tryz.sizeOf308
 t232:=Tryz.underlying323
 a232:=Tryz.isAgg323
 z232:=Tryz.sizeOf323
 v232:=Tryz.zeroValue323
 t233:=Tryz.underlying324
 a233:=Tryz.isAgg324
 z233:=Tryz.sizeOf324
 v233:=Tryz.zeroValue324
 g17:=by kernel_rfl
 g18:=by kernel_rfl
 g19:=by kernel_rfl
 i0:=by kernel_rfl
 i2:=by kernel_rfl
 i3:=by kernel_rfl
 i4:=by kernel_rfl
 i5:=by kernel_rfl
 i9:=by kernel_rfl
 i20:=by kernel_rfl
 i37:=by kernel_rfl
 i46:=by kernel_rfl
 i51:=by kernel_rfl
 i53:=by kernel_rfl
 i171:=by kernel_rfl
 i173:=by kernel_rfl
 i212:=by kernel_rfl
 i232:=by kernel_rfl
 i233:=by kernel_rfl
 m17:=by kernel_rfl
 m18:=by kernel_rfl
 m19:=by kernel_rfl }
open Go.RowKit Go.Sort Go.Lib in
theorem Tryz.strconv_Itoa (n : Int) (m : -9223372036854775808 ≤ n) (q : n ≤ 9223372036854775807) (w : World) (h : Lib.TabIs Tryz.prog w "internal/strconv.uint64pow10" .u64 Lib.pow10Tab) :
  Calls Tryz.prog 205 #[.int .i64 n] w λe w'=>e=.returned (.string ⟨(Lib.itoa n).toArray⟩)/\∃k u,w'=grow (w.drewN k) u:=Any.strconv_Itoa Tryz.laysM171 n m q w h
end Go.Proofs
namespace Go.AV
open Go Go.Proofs
theorem aLc : prog.globalNamed "internal/strconv.uint64pow10" = some 3 := by kernel_rfl
theorem aAR:wH=Lib.pow10Tab.map (λz=>A.int .u64 z):=by kernel_rfl
theorem uV {P : Program} {f : FuncId} {fn : Func} {c : Code} (q : P.funcs[f]? = some fn) (m : fn.body = some c) (h : (fn.name == "runtime.NumGoroutine") = false) (vals : Array Value) (w : World) :
  (callFunc f vals).run P w=.ok (.enter f vals) w:=by
 simp only[callFunc,bE,run_program,bD,q,h,cQ,↓reduceIte,m,Option.isNone_some,bN]
theorem aMq(n:Int)(H:-9223372036854775808<=n)(y:n<=9223372036854775807)(s:St)(KV Kp:St->A->Prop)(Z:KV s (.str (Lib.itoa n))):Den cx 205 [.int .i64 n] KV Kp s:=by
 refine aJl (λvals w=>?_) λF g w vals O G=>?_
 .exact uV (P:=prog) func205 rfl rfl vals w
 .obtain⟨v,z,hr⟩:=G.get (j:=0) rfl;have hl:=G.1
  have B:vals=[.int .i64 n]:=by
   match vals,hl,z with
   | [x],_,h=>simp only[iY,bK]at h;subst h;rw[hr.int_inv]
  subst B
  have q : Lib.TabIs prog w "internal/strconv.uint64pow10" .u64 Lib.pow10Tab := by
   obtain⟨pre,ty,fr,y,h2,L,h4,M⟩:=O.gpi (b:=3) (cs:=wH) rfl;unfold Lib.TabIs World.var?;rw[aLc];simp only[Option.bind_some,y,bK];congr 1;apply List.ext_getElem?;intro i;by_cases m:i<wH.length
   .have u:i<pre.length:=by rw[L];exact m
    have U:wH[i]?=some (.int .u64 (Lib.pow10Tab[i]'(by rw[aAR]at m;simpa using m))):=by
     rw[aV m];simp[aAR]
    have:=M i _ _ U (aV u);rw[aV u,this.int_inv];rw[aAR]at m;simp only[aK]at m;simp[m]
   .rw[qY aB,qY (by rw[aAR]at m;simpa using m)]
  refine Calls.mono (strconv_Itoa n H y w q) λe w' u=>?_
  obtain⟨rfl,k,os,rfl⟩:=u;refine⟨_,_,rfl,λb S=>?_,rfl,.str _,Z⟩;show(w.heap++os)[b]?=w.heap[b]?;rw[Array.getElem?_append_left S]
end Go.AV
end
section
open Go.Proofs.Tryz
namespace Go.Proofs
open Go.Shelf
def Tryz.lays157_ren:Go.Shelf.Ren:=⟨λ|157=>135|229=>176|199=>177|261=>199|311=>213|312=>214|n=>n,λ|9=>9|31=>22|3=>3|5=>5|4=>4|119=>224|0=>0|40=>226|152=>246|21=>21|154=>248|51=>186|141=>250|196=>263|193=>260|198=>266|49=>264|194=>261|201=>269|226=>274|46=>34|227=>275|n=>n,λ|0=>0|6=>1|n=>n⟩
theorem Tryz.lays157:Go.Proofs.Lays.n157 Tryz.prog Tryz.lays157_ren:={
 mixed:=by kernel_rfl
 f157:=Tryz.func135.trans (congrArg some (by kernel_rfl))
 f199:=Tryz.func177.trans (congrArg some (by kernel_rfl))
 f229:=Tryz.func176.trans (congrArg some (by kernel_rfl))
 f261:=Tryz.func199.trans (congrArg some (by kernel_rfl))
 f311:=Tryz.func213.trans (congrArg some (by kernel_rfl))
 f312:=Tryz.func214.trans (congrArg some (by kernel_rfl))
 t0:=Tryz.underlying0
 a0:=Tryz.isAgg0
 z0:=Tryz.sizeOf0
 v0:=Tryz.zeroValue0
 t3:=Tryz.underlying3
 a3:=Tryz.isAgg3
 z3:=Tryz.sizeOf3
 v3:=Tryz.zeroValue3
 t4:=Tryz.underlying4
 a4:=Tryz.isAgg4
 z4:=Tryz.sizeOf4
 v4:=Tryz.zeroValue4
 t5:=Tryz.underlying5
 a5:=Tryz.isAgg5
 z5:=Tryz.sizeOf5
 v5:=Tryz.zeroValue5
 t9:=Tryz.underlying9
 a9:=Tryz.isAgg9
 z9:=Tryz.sizeOf9
 v9:=Tryz.zeroValue9
 t21:=Tryz.underlying21
 a21:=Tryz.isAgg21
 z21:=Tryz.sizeOf21
 v21:=Tryz.zeroValue21
 t31:=Tryz.underlying22
 a31:=Tryz.isAgg22
 z31:=Tryz.sizeOf22
 v31:=Tryz.zeroValue22
 t40:=Tryz.underlying226
 a40:=Tryz.isAgg226
 z40:=Tryz.sizeOf226
 v40:=Tryz.zeroValue226
 t46:=Tryz.underlying34
 a46:=Tryz.isAgg34
 z46:=Tryz.sizeOf34
 v46:=Tryz.zeroValue34
 t49:=Tryz.underlying264
 a49:=Tryz.isAgg264
 z49:=Tryz.sizeOf264
 v49:=Tryz.zeroValue264
 t51:=Tryz.underlying186
 a51:=Tryz.isAgg186
 z51:=Tryz.sizeOf186
 v51:=Tryz.zeroValue186
 t119:=Tryz.underlying224
 a119:=Tryz.isAgg224
 z119:=Tryz.sizeOf224
 t141:=Tryz.underlying250
 a141:=Tryz.isAgg250
 z141:=Tryz.sizeOf250
 v141:=Tryz.zeroValue250
 t152:=Tryz.underlying246
 a152:=Tryz.isAgg246
 z152:=Tryz.sizeOf246
 v152:=Tryz.zeroValue246
 t154:=Tryz.underlying248
 a154:=Tryz.isAgg248
 z154:=Tryz.sizeOf248
 v154:=Tryz.zeroValue248
 t193:=Tryz.underlying260
 a193:=Tryz.isAgg260
 z193:=Tryz.sizeOf260
 v193:=Tryz.zeroValue260
 t194:=Tryz.underlying261
 a194:=Tryz.isAgg261
 z194:=Tryz.sizeOf261
 v194:=Tryz.zeroValue261
 t196:=Tryz.underlying263
 a196:=Tryz.isAgg263
 z196:=Tryz.sizeOf263
 v196:=Tryz.zeroValue263
 t198:=Tryz.underlying266
 a198:=Tryz.isAgg266
 z198:=Tryz.sizeOf266
 v198:=Tryz.zeroValue266
 t201:=Tryz.underlying269
 a201:=Tryz.isAgg269
 z201:=Tryz.sizeOf269
 v201:=Tryz.zeroValue269
 t226:=Tryz.underlying274
 a226:=Tryz.isAgg274
 z226:=Tryz.sizeOf274
 v226:=Tryz.zeroValue274
 t227:=Tryz.underlying275
 a227:=Tryz.isAgg275
 z227:=Tryz.sizeOf275
 v227:=Tryz.zeroValue275
 g0:=by kernel_rfl
 g6:=by kernel_rfl }
open Go.RowKit Go.Lib in
theorem Tryz.strings_Fields (s : ByteArray) (w : World) (q : s.size < 4294967281) (h : ∀ (j : Nat) b,s.data.toList[j]? = some b → b.toNat < 128) (m : Lib.TabIs Tryz.prog w "strings.asciiSpace" .u8 Lib.asciiSpaceTab) :
  Calls Tryz.prog 135 #[.string s] w λe w' =>
   e=.returned (.slice (some ⟨w.heap.size,0,none⟩) (Lib.fields s.data.toList).length (Lib.fields s.data.toList).length)/\w'=w.alloc (.cells ((Lib.fields s.data.toList).map λl=>Value.string ⟨l.toArray⟩).toArray 9):=Any.strings_Fields Tryz.lays157 (by kernel_rfl) (by kernel_rfl) s w q h m
end Go.Proofs
namespace Go.AV
open Go Go.Proofs
theorem R.known{C:Ctx}{F:Fr}{g:Gh}{s:St}{w w':World}(h:R C F g s w)(y:∀b,b<w.heap.size->w'.heap[b]?=w.heap[b]?)(B:(w'.os,w'.output)=(w.os,w.output))
  {b:Nat}(L:w.heap.size<=b){vs rest:List Value}{e:TypeId}{fr:Nat × Nat}(H:w'.heap[b]?=some (.cells (vs++rest).toArray e fr)) :
  R C F (g.know b vs) s w'/\g.le (g.know b vs):=by
 have G:g.pi b=none:=by
  cases m:g.pi b with
  | none=>rfl
  | some pre=>have:=h.lt_pi m;omega
 have u:=aAf G vs
 refine⟨(h.keep y B).ghost u ?_ ?_ ?_ rfl rfl (λc o ho=>by
  have:c≠b:=by have:=h.lt_frm ho;omega
  simp only[Gh.know,this,↓reduceIte]),u⟩
 .intro c k q m;have:k≠b:=by have:=h.bet c k q;omega
  simp only[Gh.know,this,↓reduceIte];exact m
 .intro c pre m;by_cases q:c=b
  .subst q;simp only[Gh.know,↓reduceIte,bK]at m;subst m;exact⟨rest,e,fr,H⟩
  .simp only[Gh.know,q,↓reduceIte]at m;rw[y _ (h.lt_pi m)];exact h.pis c pre m
 .intro t n e v c xs _ _ q z;have:c≠b:=by have:=h.lt_pi z;omega
  simp only[Gh.know,this,↓reduceIte];exact z
theorem aN7 : prog.globalNamed "strings.asciiSpace" = some 0 := by kernel_rfl
theorem aAD:vY=Lib.asciiSpaceTab.map (λz=>A.int .u8 z):=by kernel_rfl
def nL(x:aC):Value:=.string ⟨x.toArray⟩
theorem aB2(x:aC)(l:List aC)(hl:Lib.fields x=l)(hn:l.length<=1000)(hx:x.length<4294967281)(ha:∀c,c∈x->c.toNat<128)(s:St)(KV Kp:St->A->Prop)(hk:KV s (.list none (l.map .str))):Den cx 135 [.str x] KV Kp s:=by
 intro F g w vals hR G;change OutV cx F g KV Kp ((callFunc 135 vals.toArray).run prog w);rw[uV (P:=prog) func135 rfl rfl vals.toArray w];obtain⟨v,S,hr⟩:=G.get (j:=0) rfl;have O:=G.1
 have U:vals=[.string ⟨x.toArray⟩]:=by
  match vals,O,S with
  | [y],_,h=>simp only[iY,bK]at h;subst h;rw[hr.str_inv]
 subst U
 have B : Lib.TabIs prog w "strings.asciiSpace" .u8 Lib.asciiSpaceTab := by
  obtain⟨pre,ty,fr,h1,h2,h3,h4,h5⟩:=hR.gpi (b:=0) (cs:=vY) rfl;unfold Lib.TabIs World.var?;rw[aN7];simp only[Option.bind_some,h1,bK];congr 1;apply List.ext_getElem?;intro i;by_cases m:i<vY.length
  .have u:i<pre.length:=by rw[h3];exact m
   have H:vY[i]?=some (.int .u8 (Lib.asciiSpaceTab[i]'(by rw[aAD]at m;simpa using m))):=by
    rw[aV m];simp[aAD]
   have:=h5 i _ _ H (aV u);rw[aV u,this.int_inv];rw[aAD]at m;simp only[aK]at m;simp[m]
  .rw[qY aB,qY (by rw[aAD]at m;simpa using m)]
 refine Calls.mono (strings_Fields ⟨x.toArray⟩ w (show x.toArray.size<4294967281 by simpa using hx) (λj b q=>ha b (cR (gQ q))) B) λe w' u=>?_
 obtain⟨rfl,rfl⟩:=u;have e1:Lib.fields (⟨x.toArray⟩:ByteArray).data.toList=l:=by rw[<-hl]
 rw[e1]
 have z:∀b,b<w.heap.size->(w.alloc (.cells (l.map λl=>Value.string ⟨l.toArray⟩).toArray 9)).heap[b]?=w.heap[b]?:=λb hb=>by
  simp only[World.alloc];rw[Array.getElem?_push_lt hb];exact(wV hb).symm
 obtain⟨L,M⟩:=hR.known (vs:=l.map nL) (rest:=[]) (e:=9) (fr:=(0,0)) z rfl (bH _) (by
  simp only[World.alloc,dR];rw[Array.getElem?_push_size];rfl)
 refine⟨_,_,s,M,L,?_,hk⟩
 have key:Rz (g.know w.heap.size (l.map nL)) (.list none (l.map .str)) (.slice (some ⟨w.heap.size,0,none⟩) (l.map A.str).length l.length):=by
  refine .list none _ w.heap.size 0 1 l.length (l.map nL) (by simp[Gh.know]) aW aW (by simp only[maxLen];omega) ?_ ?_ ?_ (λt h=>by cases h)
  .intro y Z;obtain⟨p,_,rfl⟩:=cC.1 Z;rfl
  .intro y Z c H;obtain⟨p,_,rfl⟩:=cC.1 Z;simp only[A.cells,cD]at H;subst H;rfl
  .intro i y j c v m q G;rw[kE]at m;obtain⟨p,u,rfl⟩:=oU.1 m;simp only[A.cells]at q
   obtain rfl:j=0:=by
    have:=(dH.1 q).1;simp at this;omega
   simp only[iY,bK]at q;subst q;simp only[fL,Nat.mul_one,Nat.add_zero,kE,u,jM,bK]at G;subst G;exact .str p
 rw[aK]at key;exact key
end Go.AV
end
