/-
  Of CheckOrder.
-/
import Derived.Test.YtliopiiflebkdaaGreatDoorOr03
import Derived.Lib.Bytealg
import Derived.Laws.Externs
import Derived.Laws.RangeAny
import Derived.Shelf.LaysM
import Derived.Shelf.Strconv.Itoa3
import Derived.Shelf.Strings.Fields
set_option linter.all false
set_option maxRecDepth 99999
set_option maxHeartbeats 0
namespace Go.AV
open Go Go.Proofs Tryz
attribute [go_sem] Nat.reduceLT Nat.reduceEqDiff Nat.reduceBEq Nat.reduceAdd Nat.reduceLeDiff Nat.reduceMul reduceIte reduceCtorEq List.map gT nW List.elem xE xB fV iG bL aO aU iZ List.getElem?_cons_succ fX Nat.add_zero bS bP sN qZ List.take_succ_cons List.take_zero List.drop_succ_cons List.take_nil Nat.succ_eq_add_one uM Int.toNat_zero Nat.sub_zero Nat.zero_lt_succ jB fW jN gG
abbrev aC:=List UInt8
structure Fault where
 code:Int
 name:aC
 line:Int
 col:Int
 deriving DecidableEq
def Fault.none:Fault:=⟨0,[],0,0⟩
def Fault.cs(f:Fault):List A:=[.int .i64 f.code,.str f.name,.int .i64 f.line,.int .i64 f.col]
def Fault.enc(f:Fault):A:=.agg f.cs
structure Tok where
 kind:Int
 text:aC
 n:Int
 line:Int
 col:Int
 deriving DecidableEq
def Tok.cs(t:Tok):List A:=[.int .i64 t.kind,.str t.text,.int .i64 t.n,.int .i64 t.line,.int .i64 t.col]
def Tok.enc(t:Tok):A:=.agg t.cs
inductive Tm where
 | mk (kind n:Int) (text sort:aC) (kids rest:List Tm)
def Tm.kind:Tm->Int|.mk k _ _ _ _ _=>k
def Tm.n:Tm->Int|.mk _ n _ _ _ _=>n
def Tm.text:Tm->aC|.mk _ _ t _ _ _=>t
def Tm.sort:Tm->aC|.mk _ _ _ s _ _=>s
def Tm.kids:Tm->List Tm|.mk _ _ _ _ ks _=>ks
def Tm.rest:Tm->List Tm|.mk _ _ _ _ _ h=>h
mutual
def Tm.enc:Tm->A
 | .mk k n t s ks rs=>.agg [.int .i64 k,.int .i64 n,.str t,.str s,.list none (yF ks),.list none (yF rs)]
def yF:List Tm->List A
 | []=>[]
 | t::r=>t.enc::yF r
end
theorem aEV:∀l:List Tm,yF l=l.map Tm.enc
 | []=>rfl
 | t::r=>by rw[yF,aEV r];rfl
def Tm.cs(t:Tm):List A:=[.int .i64 t.kind,.int .i64 t.n,.str t.text,.str t.sort,.list none (t.kids.map Tm.enc),.list none (t.rest.map Tm.enc)]
theorem aF2(t:Tm):t.enc=.agg t.cs:=by
 cases t;simp only[Tm.enc,Tm.cs,Tm.kind,Tm.n,Tm.text,Tm.sort,Tm.kids,Tm.rest,aEV]
def strs(l:List aC):A:=.list none (l.map .str)
structure Below where
 low:aC
 high:aC
 deriving DecidableEq
def Below.cs(b:Below):List A:=[.str b.low,.str b.high]
def Below.enc(b:Below):A:=.agg b.cs
structure Piece where
 text:aC
 sort:aC
 deriving DecidableEq
def Piece.cs(b:Piece):List A:=[.str b.text,.str b.sort]
def Piece.enc(b:Piece):A:=.agg b.cs
structure Opr where
 name:aC
 args:List aC
 sort:aC
 pieces:List Piece
 prec:Int
 assoc:Int
 strict:List Int
 deriving DecidableEq
def Opr.cs(o:Opr):List A:=[.str o.name,.list none (o.args.map .str),.str o.sort,.list none (o.pieces.map Piece.enc),.int .i64 o.prec,.int .i64 o.assoc,.list none (o.strict.map (.int .i64))]
def Opr.enc(o:Opr):A:=.agg o.cs
structure Sig where
 sorts:List aC
 below:List Below
 ops:List Opr
 funs:List Opr
 values:List aC
def Sig.cs(s:Sig):List A:=[.list none (s.sorts.map .str),.list none (s.below.map Below.enc),.list none (s.ops.map Opr.enc),.list none (s.funs.map Opr.enc),.list none (s.values.map .str)]
def Sig.enc(s:Sig):A:=.agg s.cs
structure Eqn where
 left:Tm
 right:Tm
 cond:List Tm
 line:Int
 col:Int
def Eqn.cs(e:Eqn):List A:=e.left.cs++(e.right.cs++[.list none (e.cond.map Tm.enc),.int .i64 e.line,.int .i64 e.col])
def Eqn.enc(e:Eqn):A:=.agg e.cs
structure Cel where
 name:aC
 sort:aC
 init:Tm
 line:Int
 col:Int
def Cel.cs(c:Cel):List A:=.str c.name::.str c.sort::(c.init.cs++[.int .i64 c.line,.int .i64 c.col])
def Cel.enc(c:Cel):A:=.agg c.cs
structure Part where
 cell:aC
 at_:aC
 left:Tm
 right:List Tm
 line:Int
 col:Int
def Part.cs(p:Part):List A:=.str p.cell::.str p.at_::(p.left.cs++[.list none (p.right.map Tm.enc),.int .i64 p.line,.int .i64 p.col])
def Part.enc(p:Part):A:=.agg p.cs
structure Fresh where
 cells:List Tm
def Fresh.cs(f:Fresh):List A:=[.list none (f.cells.map Tm.enc)]
def Fresh.enc(f:Fresh):A:=.agg f.cs
structure Rul where
 name:aC
 parts:List Part
 cond:List Tm
 new:List Fresh
 drop:List aC
 line:Int
 col:Int
def Rul.cs(r:Rul):List A:=[.str r.name,.list none (r.parts.map Part.enc),.list none (r.cond.map Tm.enc),.list none (r.new.map Fresh.enc),.list none (r.drop.map .str),.int .i64 r.line,.int .i64 r.col]
def Rul.enc(r:Rul):A:=.agg r.cs
structure Dfn where
 name:aC
 sig:Sig
 eqs:List Eqn
 once:List Cel
 kind:aC
 many:List Cel
 rules:List Rul
 start:aC
 watch:aC
def Dfn.cs(d:Dfn):List A:=.str d.name::(d.sig.cs++[.list none (d.eqs.map Eqn.enc),.list none (d.once.map Cel.enc),.str d.kind,.list none (d.many.map Cel.enc),.list none (d.rules.map Rul.enc),.str d.start,.str d.watch])
def Dfn.enc(d:Dfn):A:=.agg d.cs
attribute [go_sem] Fault.enc Fault.cs Tok.enc Tok.cs aF2 Tm.cs Below.enc Below.cs Piece.enc Piece.cs Opr.enc Opr.cs Sig.enc Sig.cs Eqn.enc Eqn.cs Cel.enc Cel.cs Part.enc Part.cs Fresh.enc Fresh.cs Rul.enc Rul.cs Dfn.enc Dfn.cs
mutual
def Tm.same:Tm->Tm->Bool
 | .mk k n t s ks rs,.mk k' n' t' s' ks' rs'=>decide (k=k')&&(decide (n=n')&&(decide (t=t')&&(decide (s=s')&&(aCG ks ks'&&aCG rs rs'))))
def aCG:List Tm->List Tm->Bool
 | [],[]=>true
 | a::l,b::r=>Tm.same a b&&aCG l r
 | _,_=>false
end
theorem zQ{t x:Tm}(h:x∈t.kids):SizeOf.sizeOf x<SizeOf.sizeOf t:=by
 cases t;have:=List.sizeOf_lt_of_mem h;simp only[Tm.kids]at this;simp only[Tm.mk.sizeOf_spec];omega
theorem aB6{t x:Tm}(h:x∈t.rest):SizeOf.sizeOf x<SizeOf.sizeOf t:=by
 cases t;have:=List.sizeOf_lt_of_mem h;simp only[Tm.rest]at this;simp only[Tm.mk.sizeOf_spec];omega
def cG:=@aF2
def rX(c:Int):Bool:=(decide (97<=c)&&decide (c<=122))||(decide (65<=c)&&decide (c<=90))
def iU(c:Int):Bool:=rX c||((decide (48<=c)&&decide (c<=57))||decide (c=95))
def dT(s:List UInt8):Bool:=match s with
 | []=>false
 | c::_=>decide (s.length<=40)&&(rX c.toNat&&s.all λc=>iU c.toNat)
def mH(x p:aC):Bool:=decide (p.length<=x.length)&&decide (x.take p.length=p)
def kZ(x:aC)(c:UInt8):Nat->Int
 | 0=>-1
 | n+1=>if x[n]?=some c then n else kZ x c n
def mI(c:Int):Bool:=decide (48<=c)&&decide (c<=57)
def dJ:Nat × Nat->aC->Nat × Nat
 | p,[]=>p
 | (l,c),b::r=>if b=10 then dJ (l+1,1) r else dJ (l,c+1) r
def rO(b:UInt8):Bool:=decide (b=32)||(decide (b=9)||(decide (b=10)||decide (b=13)))
def oP:Nat->aC->Nat
 | 0,_=>0
 | _+1,[]=>0
 | f+1,b::r=>if rO b=true then 1+oP f r
  else if mH (b::r) [47,47]=true then((b::r).takeWhile (λc=>!decide (c=10))).length+oP f ((b::r).drop ((b::r).takeWhile (λc=>!decide (c=10))).length)
  else 0
def eE(w:aC):Nat:=oP w.length w
def qX(b:UInt8):Bool:=decide (32<=b.toNat)&&(decide (b.toNat<=126)&&(!decide (b=34)&&!decide (b=92)))
def tP(x:aC):Bool:=x.all qX&&decide (x.length<=200)
def sK(c:UInt8)(b:UInt8):Bool:=decide (b=c)
def fO(x:aC):Nat:=x.foldl (λn d=>n * 10+(d.toNat-48)) 0
def aAY(x:aC):Prop:=∀d,d∈x->48<=d.toNat/\d.toNat<=57
def pM(x:aC):Tok × Nat × Bool :=
 let n:=(x.takeWhile λc=>mI c.toNat).length
 let g:=(x.take n).dropWhile (sK 48)
 if 10<g.length\/(∃c,x[n]?=some c/\iU c.toNat=true) then(⟨0,[],0,0,0⟩,0,false)
 else(⟨2,[],fO g,0,0⟩,n,decide (fO g<=2147483647))
def jC(w:aC):List aC->Nat->Nat
 | [],n=>n
 | x::r,n=>jC w r (if n<x.length/\mH w x=true then x.length else n)
def kJ(w:aC)(sg:List aC)(op:Bool):Tok × Nat × Bool :=
 match w with
 | []=>(⟨0,[],0,0,0⟩,0,false)
 | c::r =>
  if dT [c] then
   let n:=(w.takeWhile λc=>iU c.toNat).length
   (⟨1,w.take n,0,0,0⟩,n,decide (n<=40))
  else if mI c.toNat then pM w
  else if c=34 then
   let n:=(Lib.indexByte r 34+2).toNat
   (⟨3,r.take (n-2),0,0,0⟩,n,decide (1<n)&&tP (r.take (n-2)))
  else
   let n:=jC w sg 0
   let n:=if n=0/\op=true/\(c=39\/c=95) then 1 else n
   (⟨4,w.take n,0,0,0⟩,n,decide (0<n))
def aGb:List UInt8:=[97,100,100,32,115,117,98,32,109,117,108,32,100,105,118,32,109,111,100,32,110,101,103,32,108,116,32,108,101,32,103,116,32,103,101,32,101,113,32,110,101,32,97,110,100,32,111,114,32,110,111,116,32,112,105,99,107,32,99,97,116,32,108,101,110,103,116,104,32,116,101,120,116,32,106,111,105,110,32,103,101,116,32,112,117,116,32,104,97,115,32,100,101,108,32,107,101,121,115,32,115,105,122,101,32,105,115,32,105,115,118,97,108,117,101]
def jQ:List (List UInt8):=[[97,100,100],[115,117,98],[109,117,108],[100,105,118],[109,111,100],[110,101,103],[108,116],[108,101],[103,116],[103,101],[101,113],[110,101],[97,110,100],[111,114],[110,111,116],[112,105,99,107],[99,97,116],[108,101,110,103,116,104],[116,101,120,116],[106,111,105,110],[103,101,116],[112,117,116],[104,97,115],[100,101,108],[107,101,121,115],[115,105,122,101],[105,115],[105,115,118,97,108,117,101]]
def aHu:List UInt8:=[61,62,32,45,62,32,58,32,59,32,44,32,46,32,64,32,124,32,40,32,41,32,91,32,93,32,123,32,125,32,60,32,61,32,45,32,36]
def gV:List (List UInt8):=[[61,62],[45,62],[58],[59],[44],[46],[64],[124],[40],[41],[91],[93],[123],[125],[60],[61],[45],[36]]
def aFs:List UInt8:=[108,97,110,103,117,97,103,101,32,115,111,114,116,32,115,117,98,115,111,114,116,32,118,97,108,117,101,32,111,112,32,102,117,110,32,108,101,116,32,105,102,32,115,116,97,114,116,32,99,101,108,108,32,109,97,110,121,32,119,97,116,99,104,32,114,117,108,101,32,112,114,101,99,32,108,101,102,116,32,114,105,103,104,116,32,115,116,114,105,99,116,32,110,101,119,32,100,114,111,112,32,116,114,117,101,32,102,97,108,115,101]
def kF:List (List UInt8):=[[108,97,110,103,117,97,103,101],[115,111,114,116],[115,117,98,115,111,114,116],[118,97,108,117,101],[111,112],[102,117,110],[108,101,116],[105,102],[115,116,97,114,116],[99,101,108,108],[109,97,110,121],[119,97,116,99,104],[114,117,108,101],[112,114,101,99],[108,101,102,116],[114,105,103,104,116],[115,116,114,105,99,116],[110,101,119],[100,114,111,112],[116,114,117,101],[102,97,108,115,101]]
inductive Lx where
 | ok (l:List Tok)
 | bad (f:Fault)
def nJ(sg:List aC)(op:Bool):Nat->aC->Nat × Nat->List Tok->Lx
 | _,[],_,h=>.ok h
 | 0,_::_,_,h=>.ok h
 | f+1,c::r,p,h=>match kJ (c::r) sg op with
  | (t,n,true)=>nJ sg op f (((c::r).drop n).drop (eE ((c::r).drop n))) (dJ (dJ p ((c::r).take n)) (((c::r).drop n).take (eE ((c::r).drop n))))
    (h++[⟨t.kind,t.text,t.n,p.1,p.2⟩])
  | (_,_,false)=>.bad ⟨10,[c],p.1,p.2⟩
def lK(sg:List aC)(op:Bool)(w:aC):Lx:=nJ sg op w.length (w.drop (eE w)) (dJ (1,1) (w.take (eE w))) []
@[go_sem] theorem aQq:cx.det=false:=rfl
@[go_sem] theorem aPe(x:A)(l:List A):yW (x::l)=.list none (x::l):=rfl
@[go_sem] theorem aPS:yW []=.emp:=rfl
def gs(s:St)(tk:Option Nat)(n:Nat)(e:TypeId):St:=match tk with
 | none=>s
 | some t=>s.setT t (n,e)
@[go_sem] theorem bW(s:St)(tk:Option Nat)(n:Nat)(e:TypeId)(b:Nat):(gs s tk n e).getO b=s.getO b:=by cases tk<;>rfl
@[go_sem] theorem aAF(s:St)(tk:Option Nat)(n:Nat)(e:TypeId)(b:Nat)(o:Ob):(gs s tk n e).setO b o=gs (s.setO b o) tk n e:=by cases tk<;>rfl
@[go_sem] theorem aPt(s:St)(t:Nat)(v:Nat × TypeId)(b:Nat)(o:Ob):(s.setT t v).setO b o=(s.setO b o).setT t v:=rfl
attribute [go_sem] cU dR
@[go_sem] theorem aPa(s:St)(t b:Nat):(s.delT t).getO b=s.getO b:=rfl
@[go_sem] theorem aPb(s:St)(x:Option (Nat × Nat × A))(b:Nat)(o:Ob):(s.setL x).setO b o=(s.setO b o).setL x:=rfl
@[go_sem] theorem aPi(s:St)(t:Nat)(b:Nat)(o:Ob):(s.delT t).setO b o=(s.setO b o).delT t:=rfl
@[go_sem] theorem aP1(s:St)(x:Option (Nat × Nat × A)):(s.setL x).ls=x:=rfl
theorem eD{s:St}{tk:Option Nat}{n:Nat}{e:TypeId}(h:tk=none->n=0):gZ (gs s tk n e) tk n e:=by
 cases tk with
 | none=>exact h rfl
 | some t=>simp only[gZ,gs,cF,aE]
theorem eP{s:St}{tk:Option Nat}{n:Nat}{e:TypeId}{t:Nat}(h:tk=some t\/tk=none/\(gs s tk n e).getT t=none)(v:Nat × TypeId):(gs s tk n e).setT t v=s.setT t v:=by
 rcases h with rfl|⟨rfl,_⟩
 .simp only[gs,St.setT,xT]
 .rfl
theorem eX{s:St}{tk:Option Nat}{n:Nat}{e:TypeId}{t:Nat}(h:tk=some t\/tk=none/\(gs s tk n e).getT t=none)(m:∀t,tk=some t->s.getT t=none):s.getT t=none:=by
 rcases h with rfl|⟨rfl,h⟩
 .exact m t rfl
 .exact h
theorem gE{s s':St}(y:s.ge s'){tk:Option Nat}{n:Nat}{e:TypeId}(h:∀t,tk=some t->s.getT t=none):(gs s tk n e).ge s':=by
 cases tk with
 | none=>exact y
 | some t =>
  refine⟨λb o ho=>y.ob b o ho,λu m F=>?_,λx G=>y.ls x G⟩;have z:=y.tk u m F;have B:=h t rfl;simp only[gs,cF];by_cases q:t=u
  .subst q;rw[B]at z;cases z
  .simp only[q,cI];exact z
theorem eI(s:St)(tk:Option Nat)(n:Nat)(e:TypeId)(t:Nat):(gs s tk n e).getT t=if tk=some t then some (n,e) else s.getT t:=by
 cases tk with
 | none=>rfl
 | some u=>simp only[gs,cF,bI]
theorem aCU{s s':St}{tk:Option Nat}{n:Nat}{e:TypeId}(ho:∀b o,s'.getO b=some o->s.getO b=some o)(hl:∀x,s'.ls=some x->s.ls=some x)
  (q:∀t m,tk≠some t->s'.getT t=some m->s.getT t=some m):(gs s tk n e).ge (gs s' tk n e):=by
 refine⟨λb o h=>by rw[bW]at h⊢;exact ho b o h,λt m h=>?_,λx h=>by cases tk<;>exact hl x h⟩;rw[eI]at h⊢;by_cases e:tk=some t
 .rw[aE e]at h⊢;exact h
 .rw[aD e]at h⊢;exact q t m e h
theorem aDa{s:St}{tk:Option Nat}{n:Nat}{e:TypeId}{t:Nat}{v:Nat × TypeId}(h:tk≠some t):((gs s tk n e).setT t v).ge (gs (s.setT t v) tk n e):=by
 refine⟨λb o h=>by rw[bW]at h;rw[cU,bW];exact h,λu m q=>?_,λx z=>by cases tk<;>exact z⟩;rw[eI,cF]at q;rw[cF,eI];by_cases y:t=u
 .subst y;rw[aD h,aE rfl]at q;rw[aE rfl];exact q
 .rw[aD y]at q⊢;exact q
theorem aE0{Y:St}{t u n:Nat}{q e:TypeId}{v:Nat × TypeId}{x:Option (Nat × Nat × A)}:((((gs Y none u q).setT t v).setT t (n,e)).setL x).ge ((gs Y (some t) n e).setL none):=by
 refine⟨λb o h=>h,λa m h=>?_,λy h=>by cases h⟩;simp only[gs,sP,cF]at h⊢;split at h
 .rename_i e;rw[aE e];exact h
 .rename_i e;rw[aD e,aD e];exact h
theorem aCc{Y:St}{u t F n:Nat}{z e:TypeId}{v:Nat × TypeId}{x:Option (Nat × Nat × A)}(B:Y.getT u=none):(((((gs Y (some u) F z).delT u).setT t v).setT t (n,e)).setL x).ge ((gs Y (some t) n e).setL none):=by
 refine⟨λb o h=>h,λa m h=>?_,λy h=>by cases h⟩;simp only[gs,sP,cF,oV]at h⊢;split at h
 .rename_i e;rw[aE e];exact h
 .rename_i e;rw[aD e];by_cases q:a=u
  .subst q;rw[B]at h;cases h
  .simp only[e,q,Ne.symm q,cI];exact h
theorem aAq{Y s:St}{u t n:Nat}{e:TypeId}(m:((gs Y (some u) n e).delT u).getT t=none)(y:s.getT u=none)(q:∀t,Y.getT t=s.getT t):s.getT t=none:=by
 by_cases h:t=u
 .subst h;exact y
 .simp only[gs,oV,cF,aD h,aD (Ne.symm h)]at m;rw[<-q];exact m
theorem aFY{Y s:St}{u t n:Nat}{e:TypeId}{l:Option (Nat × Nat × A)}(m:(((gs Y (some u) n e).setL l).delT u).getT t=none)(q:s.getT u=none)(h:∀t,Y.getT t=s.getT t):s.getT t=none:=aAq (Y:=Y) m q h
theorem aE4{Y Z:St}{u t L n y:Nat}{z e:TypeId}{v:Nat × TypeId}{x l:Option (Nat × Nat × A)}(H:Y.getT u=none)(B:∀b o,Z.getO b=some o->Y.getO b=some o)(F:∀t,Z.getT t=Y.getT t)(G:y=n) :
  ((((((gs Y (some u) L z).setL l).delT u).setT t v).setT t (y,e)).setL x).ge ((gs Z (some t) n e).setL none):=by
 subst G;refine⟨λb o h=>B b o h,λa m h=>?_,λw h=>by cases h⟩;simp only[gs,sP,cF,oV]at h⊢;split at h
 .rename_i e;rw[aE e];exact h
 .rename_i e;rw[F]at h;by_cases q:a=u
  .subst q;rw[H]at h;cases h
  .simp only[e,q,Ne.symm q,cI];exact h
theorem aC7{Y Z:St}{t n:Nat}{e:TypeId}(q:∀b o,Z.getO b=some o->Y.getO b=some o)(u:∀t,Z.getT t=Y.getT t):((gs Y (some t) n e).setL none).ge ((gs Z (some t) n e).setL none) :=
 ⟨fun b o h => q b o h,fun a m h => by
  simp only[gs,sP,cF]at h⊢;rw[u]at h;exact h,λy h=>by cases h⟩
theorem mV{s:St}{b c:Nat}{o:Ob}(h:(s.setO c o).getO b=none):b≠c/\s.getO b=none:=by
 rw[aH]at h;by_cases e:c=b
 .rw[aE e]at h;cases h
 .rw[aD e]at h;exact⟨λx=>e x.symm,h⟩
theorem gK(tk:Option Nat)(es:List A)(h:tk=none->es=[]):A.le (gv tk es) (.list none es):=by
 cases tk with
 | none=>rw[h rfl];exact A.le.nil
 | some t=>exact A.le.forget _ _
theorem fY{s s2:St}{t:Nat}{v:Nat × TypeId}(h:s.ge s2):(s.setT t v).ge (s2.setT t v):=by
 refine⟨λb o ho=>h.ob b o ho,λu m q=>?_,λx y=>h.ls x y⟩;rw[cF]at q⊢;split
 .rename_i e;rw[aE e]at q;exact q
 .rename_i e;rw[aD e]at q;exact h.tk u m q
theorem mT{s s2:St}{b:Nat}{o:Ob}(h:s.ge s2):(s.setO b o).ge (s2.setO b o):=by
 refine⟨λc x ho=>?_,λu m q=>h.tk u m q,λx y=>h.ls x y⟩;rw[aH]at ho⊢;split
 .rename_i e;rw[aE e]at ho;exact ho
 .rename_i e;rw[aD e]at ho;exact h.ob c x ho
theorem zR(s:St)(t:Nat)(v u:Nat × TypeId):((s.setT t v).setT t u).ge (s.setT t u):=by
 refine⟨λb o h=>h,λx m q=>?_,λx h=>h⟩;rw[cF]at q⊢;split
 .rename_i e;rw[aE e]at q;exact q
 .rename_i e;rw[aD e]at q;rw[cF,aD e];exact q
theorem zU{s:St}{t:Nat}{v:Nat × TypeId}(h:s.getT t=none):(s.setT t v).ge s:=by
 refine⟨λb o h=>h,λx m q=>?_,λx h=>h⟩;rw[cF];by_cases e:t=x
 .subst e;rw[h]at q;cases q
 .rw[aD e];exact q
theorem aK8{X:St}{r q:Nat}{F G z:Ob}(L:X.getO q=none)(_:q≠r):(((X.setO r F).setO q G).setO r z).ge (X.setO r z):=by
 refine⟨λd x h=>?_,λu m H=>H,λx h=>h⟩;rw[aH]at h⊢;by_cases y:r=d
 .rw[aE y]at h⊢;exact h
 .rw[aD y]at h⊢;rw[aH];by_cases B:q=d
  .subst B;rw[L]at h;cases h
  .rw[aD B,aH,aD y];exact h
structure St.gx (s1 s:St) (r:Nat):Prop where
 ob:∀c,c≠r->∀x,s.getO c=some x->s1.getO c=some x
 tk:∀t m,s.getT t=some m->s1.getT t=some m
 ls:∀x,s.ls=some x->s1.ls=some x
theorem dX(s:St)(r:Nat):s.gx s r:=⟨λ_ _ _ h=>h,λ_ _ h=>h,λ_ h=>h⟩
theorem dM{s1 s:St}{r:Nat}{o:Ob}(h:s1.gx s r):(s1.setO r o).gx s r :=
 ⟨λc m x q=>by rw[aH,aD (Ne.symm m)];exact h.ob c m x q,h.tk,h.ls⟩
theorem cE{s1 s:St}{r b:Nat}{o:Ob}(u:s.getO b=none)(h:s1.gx s r):(s1.setO b o).gx s r :=
 ⟨fun c y x q => by
  rw[aH];by_cases m:b=c
  .subst m;rw[u]at q;cases q
  .rw[aD m];exact h.ob c y x q,h.tk,h.ls⟩
theorem aDg{s1 s:St}{r t:Nat}{v:Nat × TypeId}(z:s.getT t=none)(h:s1.gx s r):(s1.setT t v).gx s r :=
 ⟨h.ob,fun u m y => by
  rw[cF];by_cases q:t=u
  .subst q;rw[z]at y;cases y
  .rw[aD q];exact h.tk u m y,h.ls⟩
theorem St.gx.dropT{s1 s:St}{r t:Nat}{v:Nat × TypeId}(h:s1.gx (s.setT t v) r)(z:s.getT t=none):s1.gx s r :=
 ⟨h.ob,fun u m y => h.tk u m (by
  rw[cF];by_cases q:t=u
  .subst q;rw[z]at y;cases y
  .rw[aD q];exact y),h.ls⟩
theorem fD{s1 s:St}{r:Nat}{tk:Option Nat}{n:Nat}{e:TypeId}(h:s1.gx s r)(m:∀t,tk=some t->s.getT t=none):(gs s1 tk n e).gx s r:=by
 cases tk with
 | none=>exact h
 | some t=>exact aDg (m t rfl) h
theorem mU{s1 s:St}{r:Nat}{l:Option (Nat × Nat × A)}(h:s1.gx s r)(hl:l=s.ls):(s1.setL l).gx s r :=
 ⟨h.ob,h.tk,λx m=>by rw[hl];exact m⟩
theorem qC{s1 s:St}{r:Nat}{l m:Option (Nat × Nat × A)}(h:s1.gx s r)(hl:l=s.ls):((s1.setL m).setL l).gx s r:=mU (s1:=s1) h hl
theorem St.gx.trans{s2 s1 s:St}{r:Nat}(h:s2.gx s1 r)(q:s1.gx s r):s2.gx s r :=
 ⟨λc y x u=>h.ob c y x (q.ob c y x u),λt m z=>h.tk t m (q.tk t m z),λx u=>h.ls x (q.ls x u)⟩
theorem St.gx.ge{s1 s:St}{r:Nat}{o:Ob}(h:s1.gx s r)(u:s1.getO r=some o):s1.ge (s.setO r o):=by
 refine⟨λc x m=>?_,h.tk,h.ls⟩;rw[aH]at m;by_cases q:r=c
 .subst q;rw[aE rfl]at m;rw[u];exact m
 .rw[aD q]at m;exact h.ob c (Ne.symm q) x m
def vX:List A->List A->Prop
 | [],[]=>True
 | a::l,b::r=>sC a.cells b.cells/\vX l r
 | _,_=>False
theorem aCX:∀{l r:List A},vX l r->l.length=r.length
 | [],[],_=>rfl
 | _::_,_::_,h=>by simp only[aO,aCX h.2]
theorem aCS:∀{l r:List A},vX l r->∀(i:Nat) (b:A),r[i]?=some b->∃a:A,l[i]?=some a/\sC a.cells b.cells
 | a::l,b::r,h,0,x,m=>by
  simp only[iZ,bI]at m⊢;subst m;exact⟨a,rfl,h.1⟩
 | a::l,b::r,h,i+1,x,m=>by
  simp only[List.getElem?_cons_succ]at m⊢;exact aCS h.2 i x m
 | [],[],_,_,_,m=>by simp at m
theorem A.le.list{l r:List A}(h:vX l r):A.le (.list none l) (.list none r):=λg v x=>by
 have m:=aCX h;cases x with
 | list tk es b off sz cap pre S hl B G U h1 O Z =>
  rw[m]
  have key:∀e,e∈r->∃(i:Nat) (a:A),l[i]?=some a/\r[i]?=some e/\sC a.cells e.cells:=λe y=>by
   obtain⟨i,z,rfl⟩:=hU y;obtain⟨a,u,q⟩:=aCS h i _ (aV z);exact⟨i,a,u,aV z,q⟩
  refine .list none r b off sz cap pre S (by rw[<-m];exact hl) (by rw[<-m];exact B) G (λe y=>?_) (λe y c B=>?_) (λi e j c v z F hv=>?_) aW
  .obtain⟨i,a,u,_,q⟩:=key e y;rw[<-aCM q];exact U a (cR u)
  .obtain⟨i,a,u,_,q⟩:=key e y;obtain⟨j,F,rfl⟩:=hU B;exact(xO q j _ (aV F)).choose_spec.2.2
  .obtain⟨a,u,q⟩:=aCS h i e z;obtain⟨H,L,M,_⟩:=xO q j c F;exact M g v (O i a j H v u L hv)
 | list0 tk a cap G Z =>
  have:r=[]:=fC (by rw[<-m];rfl);subst this;exact .list0 none a cap G aW
theorem aFV{C:Cx}{s:St}{f:FuncId}{args:List A}{KV Kp:St->A->Prop}(h:Den C f args (λs' a=>KV (s'.setL s.ls) a) (λs' a=>Kp (s'.setL s.ls) a) s):Den C f args KV Kp s:=by
 intro F g w vals B M;have key:∀(q:Gh) (s':St) (w':World),g.le q->R C.toCtx F q s' w'->R C.toCtx F q (s'.setL s.ls) w':=λq s' w' H L=>L.setL λy O=>(B.lst y O).mono H
 have:=h F g w vals B M;revert this;generalize (callFunc f vals.toArray).run C.P w=r;intro u;cases r with
 | ok x w' =>
  cases x<;>simp only[OutV]at u⊢
  .obtain⟨q,a,s',m,a2,a3,a4⟩:=u;exact⟨q,a,_,m,key _ _ _ m a2,a3,a4⟩
  .obtain⟨q,s',m,a2,a3⟩:=u;exact⟨q,_,m,key _ _ _ m a2,a3⟩
  .refine Calls.mono u λG S z=>?_
   cases G with
   | returned v=>obtain⟨q,a,s',m,a2,a3,a4⟩:=z;exact⟨q,a,_,m,key _ _ _ m a2,a3,a4⟩
   | panicked iW=>obtain⟨q,a,v,s',a0,m,a2,a3,a4⟩:=z;exact⟨q,a,v,_,a0,m,key _ _ _ m a2,a3,a4⟩
   | outgrown=>exact z
 | halt x w' =>
  cases x<;>simp only[OutV]at u⊢
  obtain⟨q,a,s',m,a2,a3,a4⟩:=u;exact⟨q,a,_,m,key _ _ _ m a2,a3,a4⟩
@[go_sem] theorem aPu(s:St)(x y:Option (Nat × Nat × A)):(s.setL x).setL y=s.setL y:=rfl
theorem dC{f:FuncId}{l:List A}{KV Kp:St->A->Prop}{s:St}(h:Den cx f l KV Kp s):Den jZ f l KV Kp s:=by assumption
theorem rS{f:FuncId}{l:List A}{KV Kp:St->A->Prop}{s:St}(h:Den cx f l KV Kp s):Den kA f l KV Kp s:=by assumption
theorem mP{X:St}{H Q:Nat->Prop}(k:∀p,H p->Q p)(h:∀p,X.getO p=none->H p:=by(intro p h;(try simp only[bW,cN,bJ]at h);exact h)):∀p,X.getO p=none->Q p:=λp e=>k p (h p e)
theorem gHe{p F:Prop}(f:F)(h:F->p:=by(intro f;simp only[aH,dR,cU,bW,bJ,eF,reduceIte,f]<;>(first|done|rfl|assumption))):p:=h f
structure St.gel (s1 s:St) (L M:List Nat):Prop where
 ob:∀c,c ∉ L->∀x,s.getO c=some x->s1.getO c=some x
 tk:∀t,t ∉ M->∀m,s.getT t=some m->s1.getT t=some m
 ls:∀x,s.ls=some x->s1.ls=some x
theorem uY(s:St)(L M:List Nat):s.gel s L M:=⟨λ_ _ _ h=>h,λ_ _ _ h=>h,λ_ h=>h⟩
theorem nA{s1 s:St}(h:s1.gel s [] []):s1.ge s:=⟨λc x u=>h.ob c aW x u,λt m q=>h.tk t aW m q,h.ls⟩
theorem aFv{s1 s:St}{r:Nat}(h:s1.gx s r){L M:List Nat}(y:r∈L):s1.gel s L M :=
 ⟨λc q x z=>h.ob c (λe=>q (e▸y)) x z,λt _ m u=>h.tk t m u,h.ls⟩
theorem aCr{s1 s:St}(h:s1.ge s)(L M:List Nat):s1.gel s L M:=⟨λc _ x u=>h.ob c x u,λt _ m q=>h.tk t m q,h.ls⟩
theorem St.gel.trans{s2 s1 s:St}{L M:List Nat}(h:s2.gel s1 L M)(q:s1.gel s L M):s2.gel s L M :=
 ⟨λc y x u=>h.ob c y x (q.ob c y x u),λt z m B=>h.tk t z m (q.tk t z m B),λx u=>h.ls x (q.ls x u)⟩
theorem rP{s1 s:St}{L M:List Nat}{b:Nat}{o:Ob}(q:s1.getO b=some o)(h:s1.gel s (b::L) M):s1.gel (s.setO b o) L M :=
 ⟨fun c u x m => by
  rw[aH]at m;by_cases e:b=c
  .subst e;rw[aE rfl]at m;rw[q];exact m
  .rw[aD e]at m;exact h.ob c (by simp only[dD,not_or];exact⟨λh=>e h.symm,u⟩) x m,h.tk,h.ls⟩
theorem aMg{s1 s:St}{L M:List Nat}{t:Nat}{v:Nat × TypeId}(y:s1.getT t=some v)(h:s1.gel s L (t::M)):s1.gel (s.setT t v) L M :=
 ⟨h.ob,fun u z m q => by
  rw[cF]at q;by_cases e:t=u
  .subst e;rw[aE rfl]at q;rw[y];exact q
  .rw[aD e]at q;exact h.tk u (by simp only[dD,not_or];exact⟨λh=>e h.symm,z⟩) m q,h.ls⟩
theorem yI{s1 s:St}{L M:List Nat}{b:Nat}{o:Ob}(q:b∈L)(h:s1.gel s L M):(s1.setO b o).gel s L M :=
 ⟨fun c m x u => by
  rw[aH,aD (λe:b=c=>m (e▸q))];exact h.ob c m x u,h.tk,h.ls⟩
theorem sZ{s1 s:St}{L M:List Nat}{b:Nat}{o:Ob}(q:s.getO b=none)(h:s1.gel s L M):(s1.setO b o).gel s L M :=
 ⟨fun c u x m => by
  rw[aH];by_cases e:b=c
  .subst e;rw[q]at m;cases m
  .rw[aD e];exact h.ob c u x m,h.tk,h.ls⟩
theorem aNd{s1 s:St}{L M:List Nat}{t:Nat}{v:Nat × TypeId}(q:t∈M)(h:s1.gel s L M):(s1.setT t v).gel s L M :=
 ⟨h.ob,fun c m x u => by
  rw[cF,aD (λe:t=c=>m (e▸q))];exact h.tk c m x u,h.ls⟩
theorem aGl{s1 s:St}{L M:List Nat}{t:Nat}{v:Nat × TypeId}(q:s.getT t=none)(h:s1.gel s L M):(s1.setT t v).gel s L M :=
 ⟨h.ob,fun c u x m => by
  rw[cF];by_cases e:t=c
  .subst e;rw[q]at m;cases m
  .rw[aD e];exact h.tk c u x m,h.ls⟩
theorem aF5{s1 s:St}{L M:List Nat}{b:Nat}(q:s.getO b=none)(h:s1.gel s (b::L) M):s1.gel s L M :=
 ⟨fun c u x m => h.ob c (by
  simp only[dD,not_or];exact⟨λe=>(by subst e;rw[q]at m;cases m),u⟩) x m,h.tk,h.ls⟩
theorem aG9{s1 s:St}{L M:List Nat}{tk:Option Nat}{n:Nat}{e:TypeId}(h:s1.gel s L M)(m:∀t,tk=some t->s.getT t=none):(gs s1 tk n e).gel s L M:=by
 cases tk with
 | none=>exact h
 | some t=>exact aGl (m t rfl) h
theorem aAl{s1 s:St}{L M:List Nat}{tk:Option Nat}{n:Nat}{e:TypeId}(m:∀t,tk=some t->s1.getT t=some (n,e))(h:s1.gel s L (tk.toList++M)):s1.gel (gs s tk n e) L M:=by
 cases tk with
 | none=>exact h
 | some t=>exact aMg (m t rfl) h
theorem aAm{s1 s:St}{L M:List Nat}{tk:Option Nat}{n:Nat}{e:TypeId}(h:s1.gel s L M):(gs s1 tk n e).gel (gs s tk n e) L M:=by
 cases tk with
 | none=>exact h
 | some t =>
  refine⟨h.ob,λu y m q=>?_,h.ls⟩;simp only[gs,cF]at q⊢;split
  .rename_i e;rw[aE e]at q;exact q
  .rename_i e;rw[aD e]at q;exact h.tk u y m q
theorem aC3{s1:St}{tk:Option Nat}{n:Nat}{e:TypeId}:∀t,tk=some t->(gs s1 tk n e).getT t=some (n,e):=by
 rintro t rfl;rw[eI,aE rfl]
@[go_sem] theorem getT_setO(s:St)(b:Nat)(o:Ob)(t:Nat):(s.setO b o).getT t=s.getT t:=rfl
theorem gB1{s1 s:St}{L M:List Nat}{tk:Option Nat}{n:Nat}{e:TypeId}(h:s1.gel s L (tk.toList++M))(m:∀t,tk=some t->s1.getT t=some (n,e):=by(rintro _ ⟨⟩;simp only[getT_setO,sP,cF,oV,eI,reduceIte,aI,aO,aU,aK,fX,Nat.add_zero]<;>fail)):s1.gel (gs s tk n e) L M:=aAl m h
theorem gB2{s1 s:St}{L M:List Nat}{t:Nat}{v:Nat × TypeId}(h:s1.gel s L M)(m:t∈M:=by(simp only[Option.toList,bS,bP,dD,true_or,or_true]<;>fail)):(s1.setT t v).gel s L M:=aNd m h
theorem gB3{s1 s:St}{L M:List Nat}{b:Nat}{o:Ob}(h:s1.gel s L M)(m:b∈L:=by(simp only[dD,true_or,or_true]<;>fail)):(s1.setO b o).gel s L M:=yI m h
abbrev dY:=Option Nat × Nat × TypeId
def dF(s:St):List dY->St
 | []=>s
 | o::l=>gs (dF s l) o.1 o.2.1 o.2.2
structure OwnOk (s:St) (l:List dY):Prop where
 free:∀o,o∈l->∀t,o.1=some t->s.getT t=none
 nil:∀o,o∈l->o.1=none->o.2.1=0
 dst:∀(i j:Nat) (a b:dY) (t:Nat),l[i]?=some a->l[j]?=some b->a.1=some t->b.1=some t->i=j
@[go_sem] theorem aJ (s : St) (l : List dY) (b : Nat) : (dF s l).getO b = s.getO b := by
  induction l with
  | nil=>rfl
  | cons o l h=>simp only[dF,bW,h]
@[go_sem] theorem sX (s : St) (l : List dY) (b : Nat) (o : Ob) : (dF s l).setO b o = dF (s.setO b o) l := by
  induction l with
  | nil=>rfl
  | cons a l h=>simp only[dF,aAF,h]
theorem aA8(s:St)(tk:Option Nat)(n:Nat)(e:TypeId):(gs s tk n e).ls=s.ls:=by cases tk<;>rfl
@[go_sem] theorem vM (s : St) (l : List dY) : (dF s l).ls = s.ls := by
  induction l with
  | nil=>rfl
  | cons o l h=>simp only[dF,aA8,h]
theorem pB(s:St)(l:List dY)(u:Nat):(dF s l).getT u=match l.find? (λo=>decide (o.1=some u))with|some o=>some o.2|none=>s.getT u:=by
 induction l with
 | nil=>rfl
 | cons o l m =>
  simp only[dF,eI,List.find?];by_cases h:o.1=some u
  .simp only[h,cM,xE]
  .simp only[h,cI,xB,m]
theorem aIE{s:St}{l:List dY}(h:OwnOk s l){k:Nat}{o:dY}(q:l[k]?=some o){t:Nat}(y:o.1=some t):(dF s l).getT t=some o.2:=by
 rw[pB];cases u:l.find? (λo=>decide (o.1=some t))with
 | none =>
  have:=uE.1 u o (cR q);simp[y]at this
 | some a =>
  have z:=List.find?_some u;have B:=zL u;obtain⟨j,F,rfl⟩:=hU B;have m:l[j]?=some l[j]:=aV F;have:=h.dst j k _ _ t m q (gQ z) y;subst this;rw[m]at q;cases q;rfl
theorem aJR{s:St}{l:List dY}{t:Nat}(h:∀o,o∈l->o.1≠some t):(dF s l).getT t=s.getT t:=by
 rw[pB,uE.2 (λo ho=>by simpa using h o ho)]
theorem tA{s:St}{l:List dY}(h:OwnOk s l){k:Nat}{o:dY}(m:l[k]?=some o):gZ (dF s l) o.1 o.2.1 o.2.2:=by
 obtain⟨tk,n,e⟩:=o;cases tk with
 | none=>exact h.nil _ (cR m) rfl
 | some t=>exact aIE h m rfl
theorem OwnOk.to{s X:St}{l:List dY}(h:OwnOk s l)(m:∀t,X.getT t=s.getT t):OwnOk X l:=⟨λo ho t q=>by rw[m];exact h.free o ho t q,h.nil,h.dst⟩
theorem lX{s X:St}{l:List dY}(h:OwnOk s l){k:Nat}{o:dY}(q:l[k]?=some o)(m:∀t,X.getT t=s.getT t):gZ (dF X l) o.1 o.2.1 o.2.2:=tA (h.to m) q
theorem mF{s X:St}{l:List dY}(h:OwnOk s l){k:Nat}{o:dY}(L:l[k]?=some o){t:Nat}
  (ht:o.1=some t\/o.1=none/\(dF X l).getT t=none)(Z:∀t,X.getT t=s.getT t)(n:Nat):OwnOk s (l.set k (some t,n,o.2.2)):=by
 have q:s.getT t=none/\∀(j:Nat) (a:dY),l[j]?=some a->a.1=some t->j=k:=by
  rcases ht with e|⟨e,y⟩
  .exact⟨h.free o (cR L) t e,λj a m z=>h.dst j k a o t m L z e⟩
  .rw[pB]at y;cases O:l.find? (λo=>decide (o.1=some t))with
   | some a=>rw[O]at y;cases y
   | none =>
    rw[O]at y;refine⟨by rw[<-Z];exact y,λj a m z=>?_⟩;have:=uE.1 O a (cR m);simp[z]at this
 have G:k<l.length:=by
  rcases aEv k l.length with h|h
  .exact h
  .rw[qY h]at L;cases L
 refine⟨λa m u U=>?_,λa m S=>?_,λi j a b u B F m M=>?_⟩
 .rcases uD m with m|rfl
  .exact h.free a m u U
  .cases U;exact q.1
 .rcases uD m with m|rfl
  .exact h.nil a m S
  .cases S
 .rw[pY]at B F;split at B<;>split at F
  .rename_i H y;rw[<-H,<-y]
  .rename_i H y
   try rw[aE G]at B
   cases B;cases m;exact(y (q.2 j b F M).symm).elim
  .rename_i H y
   try rw[aE G]at F
   cases F;cases M;exact(H (q.2 i a B m).symm).elim
  .exact h.dst i j a b u B F m M
theorem mB{s X:St}{l:List dY}(h:OwnOk s l){k:Nat}{o:dY}(Z:l[k]?=some o){t n:Nat}(h':OwnOk s (l.set k (some t,n,o.2.2)))
  (hX:∀t,X.getT t=s.getT t):((dF X l).setT t (n,o.2.2)).ge (dF X (l.set k (some t,n,o.2.2))):=by
 have S:k<l.length:=by
  rcases aEv k l.length with h|h
  .exact h
  .rw[qY h]at Z;cases Z
 have z:(l.set k (some t,n,o.2.2))[k]?=some (some t,n,o.2.2):=by rw[pY,aE rfl,aE S]
 refine⟨λb o h=>by rw[aJ]at h;rw[cU,aJ];exact h,λu m F=>?_,λx hx=>by rw[vM]at hx;show(dF X l).ls=_;rw[vM];exact hx⟩;rw[cF];rw[pB]at F;cases L:(l.set k (some t,n,o.2.2)).find? (λo=>decide (o.1=some u))with
 | some a =>
  rw[L]at F;have G:=List.find?_some L;have h2:=zL L;simp only[dA]at G;obtain⟨j,hj,e⟩:=hU h2;have q:(l.set k (some t,n,o.2.2))[j]?=some a:=by rw[aV hj,e]
  by_cases B:t=u
  .subst B;have:=h'.dst j k a _ t q z G rfl;subst this;rw[q]at z;cases z;rw[aE rfl];exact F
  .rw[aD B]
   have O:k≠j:=λe=>by
    subst e;rw[q]at z;cases z;exact B (gQ G)
   rw[pY,aD O]at q
   have h3:(dF X l).getT u=some a.2:=by
    rw[pB];cases y:l.find? (λo=>decide (o.1=some u))with
    | none =>
     have:=uE.1 y a (cR q);simp[G]at this
    | some c =>
     have H:=List.find?_some y;simp only[dA]at H;obtain⟨i,hi,e⟩:=hU (zL y);have M:l[i]?=some c:=by rw[aV hi,e]
     have:=h.dst i j c a u M q H G;subst this;rw[M]at q;cases q;rfl
   rw[h3];exact F
 | none =>
  rw[L]at F;have U:=uE.1 L
  have B:¬ t=u:=λe=>by
   have:=U _ (cR z);simp[e]at this
  rw[aD B,pB];cases y:l.find? (λo=>decide (o.1=some u))with
  | none=>exact F
  | some c =>
   have H:=List.find?_some y;simp only[dA]at H;have:=h.free c (zL y) u H;rw[<-hX]at this;have F:X.getT u=some m:=F;rw[this]at F;cases F
theorem gW{X Y:St}{l:List dY}(h:X.ge Y):(dF X l).ge (dF Y l):=by
 induction l with
 | nil=>exact h
 | cons o l m=>exact nA (aAm (aCr m _ _))
theorem aGF{X s:St}{l:List dY}{L M:List Nat}(m:∀o,o∈l->∀t,o.1=some t->s.getT t=none)(h:X.gel s L M):(dF X l).gel s L M:=by
 induction l with
 | nil=>exact h
 | cons o l u=>exact aG9 (u λa q=>m a (by simp[q])) (m o aW)
theorem aDo{X s:St}{l:List dY}{r:Nat}(m:∀o,o∈l->∀t,o.1=some t->s.getT t=none)(h:X.gx s r):(dF X l).gx s r:=by
 induction l with
 | nil=>exact h
 | cons o l u=>exact fD (u λa q=>m a (by simp[q])) (m o aW)
theorem aGw{s:St}{l:List dY}{s2:St}(m:s.ge s2)(h:∀o,o∈l->∀t,o.1=some t->s2.getT t=none):(dF s l).ge s2:=nA (aGF h (aCr m _ _))
theorem gF{X:St}{H Q:Nat->Prop}(k:∀p,H p->Q p)(h:∀p,X.getO p=none->H p:=by(intro p h;(try simp only[aJ,bW,cN,bJ]at h);exact h)):∀p,X.getO p=none->Q p:=λp e=>k p (h p e)
theorem aGi{α:Type}(p:α->Bool)(a:α)(m:p a=false):∀(l:List α) (k:Nat),(∀x,l[k]?=some x->p x=false)->(l.set k a).find? p=l.find? p
 | [],k,h=>by simp
 | x::l,0,h=>by
  have:=h x aW;simp only[sN,List.find?,m,this]
 | x::l,k+1,h=>by
  have u:=aGi p a m l k (λy q=>h y (gQ q));simp only[qZ,List.find?,u]
theorem aF0{s X:St}{l:List dY}(h:OwnOk s l){k:Nat}{o:dY}(q:l[k]?=some o)(n:Nat)(e:TypeId)(u:Nat) :
  (gs (dF X (l.set k (none,n,e))) o.1 o.2.1 o.2.2).getT u=(dF X l).getT u:=by
 rw[eI];by_cases ho:o.1=some u
 .rw[aE ho,pB];cases y:l.find? (λo=>decide (o.1=some u))with
  | none =>
   have:=uE.1 y o (cR q);simp[ho]at this
  | some a =>
   have F:=List.find?_some y;obtain⟨j,G,B⟩:=hU (zL y);have m:l[j]?=some a:=by rw[aV G,B]
   have:=h.dst j k a o u m q (gQ F) ho;subst this;rw[m]at q;cases q;rfl
 .rw[aD ho,pB,pB,aGi _ _ aW l k (λx z=>by rw[q]at z;cases z;simpa using ho)]
theorem aFy{s X:St}{l:List dY}(h:OwnOk s l){k:Nat}{o:dY}(B:l[k]?=some o)(n:Nat)(e:TypeId) :
  (dF X l).ge (gs (dF X (l.set k (none,n,e))) o.1 o.2.1 o.2.2) :=
 ⟨λb x q=>by rw[bW,aJ]at q;rw[aJ];exact q,λu m y=>by rw[aF0 h B]at y;exact y,λx z=>by rw[aA8,vM]at z;rw[vM];exact z⟩
theorem aGc{s X:St}{l:List dY}{k:Nat}{tk:Option Nat}{m:Nat}{e:TypeId}(F:k<l.length)(h:OwnOk s (l.set k (tk,m,e)))(n:Nat)(e':TypeId) :
  (gs (dF X (l.set k (none,n,e'))) tk m e).ge (dF X (l.set k (tk,m,e))):=by
 have y:(l.set k (tk,m,e))[k]?=some (tk,m,e):=by rw[pY,aE rfl,aE F]
 have key:=aF0 (X:=X) h y n e';rw[List.set_set]at key;exact⟨λb x z=>by rw[aJ]at z;rw[bW,aJ];exact z,λu q G=>by rw[key];exact G,λx B=>by rw[vM]at B;rw[aA8,vM];exact B⟩
theorem aGX{s X:St}{l:List dY}(h:OwnOk s l){k:Nat}{o:dY}(u:l[k]?=some o)(n:Nat)(e:TypeId)(F:∀t,X.getT t=s.getT t){t:Nat}(y:o.1=some t):(dF X (l.set k (none,n,e))).getT t=none:=by
 rw[aJR,F]
 .exact h.free o (cR u) t y
 .intro a G q;obtain⟨j,H,z⟩:=hU G;have m:(l.set k (none,n,e))[j]?=some a:=by rw[aV H,z]
  rw[pY]at m;split at m
  .split at m
   .cases m;cases q
   .cases m
  .rename_i B;exact B (h.dst j k a o t m u q y).symm
theorem aGh{s X:St}{l:List dY}(h:OwnOk s l){k:Nat}(S:k<l.length)(n:Nat)(e e':TypeId)(hX:∀t,X.getT t=s.getT t){tk:Option Nat}{m:Nat}
  (hf:∀t,tk=some t->(dF X (l.set k (none,n,e'))).getT t=none)(hn:tk=none->m=0):OwnOk s (l.set k (tk,m,e)):=by
 have key:∀t,tk=some t->s.getT t=none/\∀(j:Nat) (a:dY),j≠k->l[j]?=some a->a.1≠some t:=by
  intro t ht;have G:=hf t ht;rw[pB]at G;cases O:(l.set k (none,n,e')).find? (λo=>decide (o.1=some t))with
  | some a=>rw[O]at G;cases G
  | none =>
   rw[O]at G;refine⟨by rw[<-hX];exact G,λj a y q L=>?_⟩;have Z:(l.set k (none,n,e'))[j]?=some a:=by rw[pY,aD (λe=>y e.symm)];exact q
   have:=uE.1 O a (cR Z);simp[L]at this
 refine⟨λa q u U=>?_,λa q H=>?_,λi j a b u z y q M=>?_⟩
 .rcases uD q with q|rfl
  .exact h.free a q u U
  .exact(key u U).1
 .rcases uD q with q|rfl
  .exact h.nil a q H
  .exact hn H
 .rw[pY]at z y;by_cases B:k=i<;>by_cases F:k=j
  .rw[<-B,<-F]
  .rw[aE B,aE S]at z;rw[aD F]at y;cases z;exact((key u q).2 j b (λe=>F e.symm) y M).elim
  .rw[aD B]at z;rw[aE F,aE S]at y;cases y;exact((key u M).2 i a (λe=>B e.symm) z q).elim
  .rw[aD B]at z;rw[aD F]at y;exact h.dst i j a b u z y q M
end Go.AV
section
open Go.Proofs.Tryz
namespace Go.AV
open Go Go.Proofs
end Go.AV
end
namespace Go.AV
open Go Go.Proofs Tryz
section
theorem gH{p:Prop}(h:p:=by(simp only[aH,dR,cU,bW,aJ,bJ,eF,reduceIte, *]<;>(first|done|rfl|assumption))):p:=h
theorem bA{s1 s:St}(h:s1.ge s:=by(repeat (first|exact aG _|refine bQ (by first|(simp only[*];done)|assumption) ?_))):s1.ge s:=h
theorem aR{s1 s:St}{r:Nat}(h:s1.gx s r:=by(repeat (first|refine aDo (by assumption) ?_|exact dX _ _|refine dM ?_|refine fD ?_ (by assumption)|refine aDg (by assumption) ?_|refine cE (by first|(simp only[*];done)|assumption) ?_|refine aDg (by first|(simp only[*];done)|assumption) ?_))):s1.gx s r:=h
theorem iY{s1 s:St}{L M:List Nat}(h:s1.gel s L M:=by(repeat (first|exact uY _ _ _|exact aCr (by assumption) _ _|refine aGF (by assumption) ?_|refine aAm ?_|refine aAl aC3 ?_|refine gB1 ?_|refine gB2 ?_|refine aG9 ?_ (by assumption)|refine aGl (by assumption) ?_|refine rP gH ?_|refine gB3 ?_|refine sZ (by first|(simp only[*];done)|assumption) ?_))):s1.gel s L M:=h
theorem bK{s1 s:St}(h:s1.gel s [] []:=by exact iY):s1.ge s:=nA h
theorem aL{f:FuncId}{c:Code}{args:List A}{KV Kp:St->A->Prop}{s:St}{fn:Func}(u:cx.P.funcs[f]?=some fn)(V:List Nat)
  (h:eM cx fn.ntmps V c (jF cx fn.results.toList (DK KV) (DK Kp)) (mJ 0 args) s)
  (q:fn.body=some c:=by exact rfl)
  (m : (fn.name == "runtime.NumGoroutine") = false := by exact rfl) (y : args.length ≤ fn.ntmps := by exact gN rfl) : Den cx f args KV Kp s :=
 Den.drop (aCe u q m y (bC _ _ _ _ h))
theorem sH{f:FuncId}{c:Code}{args:List A}{KV Kp:St->A->Prop}{s:St}{fn:Func}(u:jZ.P.funcs[f]?=some fn)(V:List Nat)
  (h:eM jZ fn.ntmps V c (jF jZ fn.results.toList (DK KV) (DK Kp)) (mJ 0 args) s)
  (q:fn.body=some c:=by exact rfl)
  (m : (fn.name == "runtime.NumGoroutine") = false := by exact rfl) (y : args.length ≤ fn.ntmps := by exact gN rfl) : Den cx f args KV Kp s :=
 Den.drop (aM7 (aCe (C:=jZ) u q m y (bC _ _ _ _ h)))
theorem aQ{P:Option A->Prop}{b:Bool}(h:b=true->P (some (.bool true)))(m:b=false->P (some (.bool false))):P (some (.bool b)):=by
 cases b
 .exact m rfl
 .exact h rfl
def OT.r:Nat->Nat->OT
 | _,0=>.nil
 | i,k+1=>.node i (OT.r (i+1) k)
attribute [go_sem] OT.r
section
variable {C:Cx} {n:Nat} {ops:Array Oper} {s:St} {Kp:St->A->Prop} {id:Nat} {V:List Nat} {Q0:XK->Env->St->Prop} {e:Env}
theorem bB(t:OT)(E:List (Nat × List Nat))
  (h:fK C n (ops.toList.map (·.dst)) ops.toList E (jH V Q0) (tT Q0 (ops.toList.map (·.dst)) e) t [] e s)
  (q:C.P.follows .mixedOrders=true:=by exact aL2)
  (m:(zD ops E&&mQ ops ops.size (Array.replicate ops.size false) t&&aAZ C.tt ops)=true:=by decide +kernel) :
  aBa C n id ops (jY (jH V Q0) Q0) e s:=aNr t E q m h
end
end
mutual
def A.bulk:A->Nat
 | .str x=>x.length
 | .list _ es=>cK es
 | .agg cs=>cX cs
 | _=>0
def cK:List A->Nat
 | []=>0
 | a::r=>A.bulk a+1+cK r
def cX:List A->Nat
 | []=>0
 | a::r=>A.bulk a+cX r
end
theorem aIH(a:A):cX a.cells=a.bulk:=by
 cases a<;>simp[A.cells,cX,A.bulk]
theorem qD:∀l r:List A,cX (l++r)=cX l+cX r
 | [],r=>by simp[cX]
 | a::l,r=>by simp[cX,qD l r,lP]
theorem aEB:∀l r:List A,cK (l++r)=cK l+cK r
 | [],r=>by simp[cK]
 | a::l,r=>by simp[cK,aEB l r,lP]
theorem aFG:∀l:List A,l.length<=cK l
 | []=>bL _
 | a::l=>by have:=aFG l;simp only[aO,cK];omega
theorem iA{α:Type}(h:α->A)(l:List α):l.length<=cK (l.map h):=by have:=aFG (l.map h);rwa[aK]at this
structure OprI (o:Opr):Prop where
 s:∀n,n∈o.strict->-9223372036854775808<=n/\n<=9223372036854775807
 p:o.prec<=9223372036854775807
theorem aEs(s:St)(c:Int)(KV Kp)(m:KV s (.bool (rX c))):Den cx 80 [.int .u8 c] KV Kp s:=by
 unfold rX at m;(refine aL func80 [0,2] ?_;simp only[go_sem,ntmps80,f80])
 (repeat' (first|exact aF m bA|((apply aQ<;>intro h)<;>simp only[go_sem,h]<;>(try simp only[h,fW,gG,jB,jN,nT,lS,mS,iO,fV,iG]at m))))
theorem zY(s:St)(c:Int)(KV Kp)(m:KV s (.bool (iU c))):Den cx 81 [.int .u8 c] KV Kp s:=by
 unfold iU at m;(refine aL func81 [0,2] ?_;simp only[go_sem,ntmps81,f81])
 (repeat' (first|exact aF m bA|(refine aEs _ _ _ _ ?_;simp only[go_sem])|((apply aQ<;>intro h)<;>simp only[go_sem,h]<;>(try simp only[h,fW,gG,jB,jN,nT,lS,mS,iO,fV,iG]at m))))
theorem oX(s:St)(x:List UInt8)(KV Kp)(B:KV s (.bool (dT x))):Den cx 35 [.str x] KV Kp s:=by
 (refine aL func35 [0,2,3,16,18,19,20,26] ?_;simp only[go_sem,ntmps35,f35])
 (apply aQ<;>intro h)<;>simp only[go_sem,h]
 .have:x=[]:=gQ h;subst this;exact aN B
 have L:x≠[]:=gQ h;obtain⟨c,r,z⟩:=List.exists_cons_of_ne_nil L
 (apply aQ<;>intro h)<;>simp only[go_sem,h]
 .have u:¬ x.length<=40:=by simp at h;omega
  have:dT x=false:=by rw[z]at u⊢;simp only[dT,u,xB,gG]
  exact aN (by rwa[this]at B)
 have u:x.length<=40:=by simp at h;omega
 have O:x[0]?=some c:=by rw[z];rfl
 have H:0<x.length:=by rw[z];exact Nat.zero_lt_succ _
 simp only[go_sem,O,H];refine aEs _ _ _ _ ?_;simp only[go_sem]
 (apply aQ<;>intro h)<;>simp only[go_sem,h]
 .have:dT x=false:=by
   have:rX c.toNat=false:=gQ h;rw[z];simp[dT,this]
  exact aN (by rwa[this]at B)
 have hl:rX c.toNat=true:=gQ h
 refine Ex.loop (λi=>[(0,.str x),(18,.int .i64 x.length),(19,.int .i64 (i:Nat))]) (λ_=>s)
  (λi=>i<=x.length/\∀d∈x.take i,iU d.toNat=true) (λi=>x.length-i) 0 ⟨aX _,by simp⟩ ?_ (aG s) ?_
 .simp only[go_sem];rfl
 .rintro i ⟨S,m⟩;refine bC (V:=[0,2,3,16,18,19,20,26]) _ _ _ _ ?_;simp only[go_sem]
  (apply aQ<;>intro h)<;>simp only[go_sem,h]
  .have y:i<x.length:=gQ h;obtain⟨d,G⟩:∃d,x[i]?=some d:=⟨_,aV y⟩
   simp only[go_sem,G,y];refine zY _ _ _ _ ?_;simp only[go_sem]
   (apply aQ<;>intro h)<;>simp only[go_sem,h]
   .have M:iU d.toNat=false:=gQ h
    have:dT x=false:=by
     rw[z]at G⊢;simp only[dT,Bool.and_eq_false_iff];refine .inr (.inr (wY.2 λm=>?_));rw[fR]at m;have:=m d (cR G);rw[M]at this;cases this
    exact aN (by rwa[this]at B)
   .have M:iU d.toNat=true:=gQ h;refine⟨i+1,⟨by omega,?_⟩,by omega,?_,aG s⟩
    .intro q F;rw[eO,G]at F;simp only[dK,Option.toList_some,cC]at F;rcases F with F|rfl
     .exact m q F
     .exact M
    .simp only[go_sem,bM i aB]
  .have y:i=x.length:=by simp at h;omega
   have:dT x=true:=by
    rw[y,List.take_length]at m;rw[z]at m u⊢;simp only[dT,hl,fR,dI,dA];exact⟨u,trivial,m⟩
   exact aN (by rwa[this]at B)
theorem aFm {C : Cx} {f : FuncId} {fn : Func} {e : Array Value → Sem Value} (H : C.P.funcs[f]? = some fn) (m : (fn.name == "runtime.NumGoroutine") = false)
  (B:fn.body.isNone=true)(L:Extern.findNext fn=none)(G:Extern.find fn=some e){args:List A}{s:St}{KV Kp:St->A->Prop}
  (h:∀g vals,Rzs g args vals->∃v a,(∀w,(e vals.toArray).run C.P w=.ok v w)/\Rz g a v/\KV s a):Den C f args KV Kp s:=by
 intro F g w vals z M;obtain⟨v,a,q,u,y⟩:=h g vals M;rw[run_callFunc_extern H m B L G,q];exact⟨g,a,s,dW g,z,u,y⟩
theorem Rzs.two{g:Gh}{a b:A}{vals:List Value}(h:Rzs g [a,b] vals):∃u v,vals=[u,v]/\Rz g a u/\Rz g b v:=by
 have hl:=h.1
 match vals,hl with
 | [u,v],_=>exact⟨u,v,rfl,h.2 0 a u rfl rfl,h.2 1 b v rfl rfl⟩
theorem aIy(s:St)(x:aC)(c:UInt8)(KV Kp)(h:KV s (.int .i64 (Lib.indexByte x c))):Den cx 215 [.str x,.int .u8 c.toNat] KV Kp s:=by
 refine aFm (C:=cx) func215 rfl rfl rfl (e:=Extern.BytealgIndexByte.indexByte) (by kernel_rfl) λg vals m=>?_
 obtain⟨u,v,rfl,q,y⟩:=m.two;rw[q.str_inv,y.int_inv];refine⟨_,_,λw=>Lib.run_indexByteString _ _ w,.int _ _,?_⟩;simpa using h
theorem aI6(s:St)(x:aC)(c:UInt8)(KV Kp)(h:KV s (.int .i64 (x.count c:Nat))):Den cx 184 [.str x,.int .u8 c.toNat] KV Kp s:=by
 refine aFm (C:=cx) func184 rfl rfl rfl (e:=Extern.BytealgCount.count) (by kernel_rfl) λg vals m=>?_
 obtain⟨u,v,rfl,q,y⟩:=m.two;rw[q.str_inv,y.int_inv];refine⟨_,_,λw=>Lib.run_countString _ _ w,.int _ _,?_⟩;simpa [Lib.countByte]using h
theorem aIw(s:St)(x:aC)(c:UInt8)(KV Kp)(m:KV s (.int .i64 (Lib.indexByte x c))):Den cx 200 [.str x,.int .u8 c.toNat] KV Kp s:=by
 (refine aL func200 [0,1,4] ?_;simp only[go_sem,ntmps200,f200])
 (repeat' (first|exact aF m bA|(refine aIy _ _ _ _ _ ?_;simp only[go_sem])|((apply aQ<;>intro h)<;>simp only[go_sem,h]<;>(try simp only[h,fW,gG,jB,jN,nT,lS,mS,iO,fV,iG]at m))))
theorem zO(s:St)(x:aC)(c:UInt8)(KV Kp)(m:KV s (.int .i64 (Lib.indexByte x c))):Den cx 179 [.str x,.int .u8 c.toNat] KV Kp s:=by
 (refine aL func179 [0,1,4] ?_;simp only[go_sem,ntmps179,f179])
 (repeat' (first|exact aF m bA|(refine aIw _ _ _ _ _ ?_;simp only[go_sem])|((apply aQ<;>intro h)<;>simp only[go_sem,h]<;>(try simp only[h,fW,gG,jB,jN,nT,lS,mS,iO,fV,iG]at m))))
theorem aII(s:St)(x p:aC)(KV Kp)(m:KV s (.bool (mH x p))):Den cx 230 [.str x,.str p] KV Kp s:=by
 unfold mH at m;(refine aL func230 [0,1,4] ?_;simp only[go_sem,ntmps230,f230])
 (apply aQ<;>intro h)<;>simp only[go_sem,h]<;>(try simp only[h,fW,gG,jB,jN,nT,lS,mS,iO,fV,iG]at m)
 .have hl:p.length<=x.length:=gQ h;simp only[go_sem,hl];exact aN m
 .exact aN m
theorem aEa(s:St)(x p:aC)(KV Kp)(m:KV s (.bool (mH x p))):Den cx 216 [.str x,.str p] KV Kp s:=by
 (refine aL func216 [0,1,4] ?_;simp only[go_sem,ntmps216,f216])
 (repeat' (first|exact aF m bA|(refine aII _ _ _ _ _ ?_;simp only[go_sem])|((apply aQ<;>intro h)<;>simp only[go_sem,h]<;>(try simp only[h,fW,gG,jB,jN,nT,lS,mS,iO,fV,iG]at m))))
theorem aIA(s:St)(x:aC)(c:UInt8)(KV Kp)(L:x.length<=4294967296)(u:KV s (.int .i64 (kZ x c x.length))):Den cx 186 [.str x,.int .u8 c.toNat] KV Kp s:=by
 (refine aL func186 [0,1,4,5,10,17] ?_;simp only[go_sem,ntmps186,f186]);rw[eW _ aB aB]
 refine Ex.loop (λn=>[(0,.str x),(1,.int .u8 c.toNat),(5,.int .i64 ((n:Nat)-1:Int))]) (λ_=>s)
  (λn=>n<=x.length/\kZ x c x.length=kZ x c n) (λn=>n) x.length ⟨bL _,rfl⟩ ?_ (aG s) ?_
 .simp only[go_sem]
 .rintro n ⟨H,z⟩;refine bC (V:=[0,1,4,5,10,17]) _ _ _ _ ?_;simp only[go_sem]
  (apply aQ<;>intro h)<;>simp only[go_sem,h]
  .obtain⟨m,rfl⟩:∃m,n=m+1:=⟨n-1,by simp at h;omega⟩
   have F:(((m+1:Nat):Int)-1)=(m:Int):=by omega
   have B:m<x.length:=by omega
   obtain⟨d,y⟩:∃d,x[m]?=some d:=⟨_,aV B⟩
   simp only[go_sem,F,B,y]
   (apply aQ<;>intro h)<;>simp only[go_sem,h]
   .have q:d=c:=by
     have:d.toNat=c.toNat:=gQ h;exact rB.1 this
    subst q;rw[z,kZ,aE y]at u;exact aN u
   .have q:¬ d=c:=by
     rintro rfl;simp at h
    rw[eW _ aB aB];refine⟨m,⟨by omega,?_⟩,by omega,?_,aG s⟩
    .rw[z,kZ,aD (by rw[y];simpa using q)]
    .simp only[go_sem]
  .have G:n=0:=by simp at h;omega
   subst G;rw[z,kZ]at u;exact aN u
theorem aIz(s:St)(x:aC)(c:UInt8)(KV Kp)(q:x.length<=4294967296)(m:KV s (.int .i64 (kZ x c x.length))):Den cx 149 [.str x,.int .u8 c.toNat] KV Kp s:=by
 (refine aL func149 [0,1,4] ?_;simp only[go_sem,ntmps149,f149])
 (repeat' (first|exact aF m bA|(refine aIA _ _ _ _ _ q ?_;simp only[go_sem])|((apply aQ<;>intro h)<;>simp only[go_sem,h]<;>(try simp only[h,fW,gG,jB,jN,nT,lS,mS,iO,fV,iG]at m))))
theorem aEQ(s:St)(c:Int)(KV Kp)(m:KV s (.bool (mI c))):Den cx 218 [.int .u8 c] KV Kp s:=by
 unfold mI at m;(refine aL func218 [0,2] ?_;simp only[go_sem,ntmps218,f218])
 (repeat' (first|exact aF m bA|((apply aQ<;>intro h)<;>simp only[go_sem,h]<;>(try simp only[h,fW,gG,jB,jN,nT,lS,mS,iO,fV,iG]at m))))
theorem aG5(s:St)(x:aC)(f:FuncId)(p:UInt8->Bool)(KV Kp)(H:x.length<=4294967296)
  (F:∀(c:UInt8) KV Kp,KV s (.bool (p c))->Den cx f [.int .u8 c.toNat] KV Kp s)
  (u:KV s (.int .i64 (x.takeWhile p).length)):Den cx 217 [.str x,.fn f [] []] KV Kp s:=by
 (refine aL func217 [0,1,4,5,16] ?_;simp only[go_sem,ntmps217,f217])
 refine Ex.loop (λn=>[(0,.str x),(1,.fn f [] []),(5,.int .i64 (n:Nat))]) (λ_=>s)
  (λn=>n<=x.length/\(x.takeWhile p).length=n+((x.drop n).takeWhile p).length) (λn=>x.length-n) 0 ⟨aX _,by simp⟩ ?_ (aG s) ?_
 .simp only[go_sem];rfl
 .rintro n ⟨G,z⟩;refine bC (V:=[0,1,4,5,16]) _ _ _ _ ?_;simp only[go_sem]
  (apply aQ<;>intro h)<;>simp only[go_sem,h]
  .have m:n<x.length:=gQ h;obtain⟨d,y⟩:∃d,x[n]?=some d:=⟨_,aV m⟩
   have q:x.drop n=d::x.drop (n+1):=by
    rw[kN m];congr 1;rw[aV m]at y;simpa using y
   simp only[go_sem,y,m];refine F _ _ _ ?_;simp only[go_sem]
   (apply aQ<;>intro h)<;>simp only[go_sem,h]
   .have B:p d=true:=gQ h;refine⟨n+1,⟨by omega,?_⟩,by omega,?_,aG s⟩
    .rw[z,q,List.takeWhile_cons_of_pos B,aO];omega
    .simp only[go_sem,bM n aB]
   .have B:¬ p d=true:=by simp[h]
    rw[z,q,List.takeWhile_cons_of_neg B]at u;exact aN (gQ u)
  .have m:n=x.length:=by simp at h;omega
   subst m;rw[z,List.drop_length]at u;exact aN (gQ u)
theorem qE{s:St}{b:Nat}{o:Ob}(h:s.getO b=some o):s.ge (s.setO b o) :=
 ⟨fun c x m => by
  rw[aH]at m;split at m
  .rename_i e;subst e;rw[h];exact m
  .exact m,λ_ _ h=>h,λ_ h=>h⟩
def eL(x:aC)(m h q:Nat)(sg:List aC)(op:Bool):List A:=[.str x,.int .i64 m,.int .i64 h,.int .i64 q,.list none (sg.map .str),.bool op]
theorem aC2:∀(w v:aC) (p:Nat × Nat),dJ p (w++v)=dJ (dJ p w) v
 | [],v,p=>rfl
 | b::w,v,(l,c)=>by
  simp only[bS,dJ];split<;>exact aC2 w v _
theorem rU:∀(w:aC) (p:Nat × Nat) (k:Nat),p.1<=k+1->p.2<=k+1->(dJ p w).1<=k+w.length+1/\(dJ p w).2<=k+w.length+1
 | [],p,k,h,m=>⟨h,m⟩
 | b::w,(l,c),k,h,m=>by
  simp only[dJ,aO];split
  .have:=rU w (l+1,1) (k+1) (gQ h) aW;omega
  .have:=rU w (l,c+1) (k+1) (by have:l<=k+1:=h;simp;omega) (gQ m);omega
theorem aAr(s:St)(r:Nat)(x:aC)(m l c n:Nat)(sg:List aC)(op:Bool)(KV Kp)
  (U:s.getO r=some (.cells 231 (eL x m l c sg op)))(hx:x.length<=4294967296)(hn:m+n<=x.length)(hl:l<=m+1)(O:c<=m+1)
  (S:KV (s.setO r (.cells 231 (eL x (m+n) (dJ (l,c) ((x.drop m).take n)).1 (dJ (l,c) ((x.drop m).take n)).2 sg op))) (.tuple [])) :
  Den cx 203 [.ptr r 0,.int .i64 n] KV Kp s:=by
 (refine aL func203 [0,1,4,5,6,23] ?_;simp only[go_sem,ntmps203,f203])
 refine Ex.loop (λi=>[(0,.ptr r 0),(4,.int .i64 n),(5,.int .i64 (i:Nat))])
  (λi=>s.setO r (.cells 231 (eL x (m+i) (dJ (l,c) ((x.drop m).take i)).1 (dJ (l,c) ((x.drop m).take i)).2 sg op)))
  (λi=>i<=n) (λi=>n-i) 0 (aX _) ?_ ?_ ?_
 .simp only[go_sem];rfl
 .simp only[Nat.add_zero,List.take_zero,dJ];exact qE U
 .intro i Z;refine bC (V:=[0,1,4,5,6,23]) _ _ _ _ ?_;have M:=rU ((x.drop m).take i) (l,c) m hl O;have z:((x.drop m).take i).length=i:=by rw[dV,cS];omega
  rw[z]at M;simp only[go_sem]
  (apply aQ<;>intro h)<;>simp only[go_sem,h]
  .have u:i<n:=gQ h;have y:m+i<x.length:=by omega
   obtain⟨d,F⟩:∃d,x[m+i]?=some d:=⟨_,aV y⟩
   simp only[go_sem,eL];rw[bM _ aB];(refine bB (OT.r 0 10) [] ?_;simp only[go_sem,F,y])
   have B:dJ (l,c) ((x.drop m).take (i+1))=dJ (dJ (l,c) ((x.drop m).take i)) [d]:=by
    rw[eO,jL,F,aC2];rfl
   have L:IntKind.i64.wrap ((i:Int)+1)=((i+1:Nat):Int):=bM i aB;have G:IntKind.i64.wrap (((m+i:Nat):Int)+1)=((m+(i+1):Nat):Int):=by rw[bM _ aB];rfl
   have H:IntKind.i64.wrap (((dJ (l,c) ((x.drop m).take i)).1:Int)+1)=(((dJ (l,c) ((x.drop m).take i)).1+1:Nat):Int):=bM _ aB
   (apply aQ<;>intro h)<;>simp only[go_sem,h,G,H,L]
   .have q:d=10:=by
     have:d.toNat=10:=by simp at h;omega
     exact rB.1 this
    refine⟨i+1,by omega,by omega,rfl,?_⟩;rw[B];simp only[dJ,q,cM];exact aG _
   .have q:¬ d=10:=by rintro rfl;simp at h
    refine⟨i+1,by omega,by omega,rfl,?_⟩;rw[B];simp only[dJ,q,cI];exact aG _
  .have u:i=n:=by simp at h;omega
   subst u;exact aN S
@[go_sem] theorem aIS(x:aC)(n:Nat):(x.drop n).take (x.length-n)=x.drop n:=jA (by rw[cS];exact bL _)
theorem aBW{b:UInt8}{r:aC}(h:mH (b::r) [47,47]=true):1<=((b::r).takeWhile (λc=>!decide (c=10))).length:=by
 have m:b=47:=by
  simp only[mH,dI,dA]at h;have:=h.2;simp at this;exact this.1
 subst m;simp[List.takeWhile]
theorem aCE:∀(f g:Nat) (w:aC),w.length<=f->w.length<=g->oP f w=oP g w
 | f,g,[],_,_=>by cases f<;>cases g<;>rfl
 | 0,g,b::r,h,_=>by simp at h
 | f,0,b::r,_,h=>by simp at h
 | f+1,g+1,b::r,m,q=>by
  simp only[aO]at m q;simp only[oP];split
  .rw[aCE f g r aB aB]
  .split
   .rename_i u;have:=aBW u;rw[aCE f g _ (by rw[cS,aO];omega) (by rw[cS,aO];omega)]
   .rfl
theorem aMM:eE []=0:=rfl
theorem aKh{b:UInt8}{r:aC}(h:rO b=true):eE (b::r)=1+eE r:=by
 simp only[eE,aO,oP,h,cM]
theorem aK5{b:UInt8}{r:aC}(m:rO b=false)(h:mH (b::r) [47,47]=true) :
  eE (b::r)=((b::r).takeWhile (λc=>!decide (c=10))).length+eE ((b::r).drop ((b::r).takeWhile (λc=>!decide (c=10))).length):=by
 have:=aBW h;simp only[eE,aO,oP,m,cQ,cI,h,cM];rw[aCE r.length _ _ (by rw[cS,aO];omega) (bL _)]
theorem aLY{b:UInt8}{r:aC}(m:rO b=false)(h:mH (b::r) [47,47]=false):eE (b::r)=0:=by
 simp only[eE,aO,oP,m,cQ,cI,h]
theorem aLD(b:UInt8):decide (0<=Lib.indexByte [32,9,10,13] b)=rO b:=by
 by_cases h:b=32
 .subst h;decide
 by_cases m:b=9
 .subst m;decide
 by_cases q:b=10
 .subst q;decide
 by_cases u:b=13
 .subst u;decide
 have y:((32:UInt8) == b)=false:=wW.2 λe=>h e.symm
 have z:((9:UInt8) == b)=false:=wW.2 λe=>m e.symm
 have B:((10:UInt8) == b)=false:=wW.2 λe=>q e.symm
 have F:((13:UInt8) == b)=false:=wW.2 λe=>u e.symm
 simp[Lib.indexByte,rO,y,z,B,F,h,m,q,u]
theorem aMK(w:aC):(if Lib.indexByte w 10<0 then((w.length:Nat):Int) else Lib.indexByte w 10)=((w.takeWhile (λc=>!decide (c=10))).length:Nat)/\(Lib.indexByte w 10=-1\/0<=Lib.indexByte w 10):=by
 induction w with
 | nil=>simp[Lib.indexByte]
 | cons b r m =>
  obtain⟨m,z⟩:=m;unfold Lib.indexByte;by_cases q:b=10
  .subst q;simp
  .have u:(b == 10)=false:=gQ q;rw[u];simp only[cQ,cI];have y:(b::r).takeWhile (λc=>!decide (c=10))=b::r.takeWhile (λc=>!decide (c=10)):=by simp[List.takeWhile,q]
   rw[y];rcases z with h|h
   .rw[h]at m⊢;simp only[show((-1:Int)<0) from by decide,cM]at m;simp only[beq_self_eq_true,cM,show((-1:Int)<0) from by decide,aO];exact⟨by omega,.inl trivial⟩
   .have B:¬ Lib.indexByte r 10<0:=by omega
    have F:(Lib.indexByte r 10 == -1)=false:=by simpa using(by omega:¬ Lib.indexByte r 10=-1)
    rw[aD B]at m;rw[F];simp only[cQ,cI,aO];rw[aD aB];exact⟨by omega,.inr aB⟩
theorem aFc(s:St)(r:Nat)(x:aC)(q l c:Nat)(sg:List aC)(op:Bool)(KV Kp)
  (hr:s.getO r=some (.cells 231 (eL x q l c sg op)))(hx:x.length<=4294967296)(ha:q<=x.length)(hl:l<=q+1)(hc:c<=q+1)
  (M:KV (s.setO r (.cells 231 (eL x (q+eE (x.drop q)) (dJ (l,c) ((x.drop q).take (eE (x.drop q)))).1 (dJ (l,c) ((x.drop q).take (eE (x.drop q)))).2 sg op))) (.tuple [])) :
  Den cx 201 [.ptr r 0] KV Kp s:=by
 (refine aL func201 [0,2,3,13,23,30,36] ?_;simp only[go_sem,ntmps201,f201])
 refine Ex.loop (λk=>[(0,.ptr r 0)])
  (λk=>s.setO r (.cells 231 (eL x (q+k) (dJ (l,c) ((x.drop q).take k)).1 (dJ (l,c) ((x.drop q).take k)).2 sg op)))
  (λk=>q+k<=x.length/\eE (x.drop q)=k+eE (x.drop (q+k))) (λk=>x.length-(q+k)) 0 ⟨by omega,by simp⟩ ?_ ?_ ?_
 .simp only[go_sem]
 .simp only[Nat.add_zero,List.take_zero,dJ];exact qE hr
 .rintro k ⟨b2,L⟩;have G:((x.drop q).take k).length=k:=by rw[dV,cS];omega
  have S:=rU ((x.drop q).take k) (l,c) q hl hc;rw[G]at S
  have u:∀m,dJ (l,c) ((x.drop q).take (k+m))=dJ (dJ (l,c) ((x.drop q).take k)) ((x.drop (q+k)).take m):=by
   intro m;rw[List.take_add,aC2,pZ]
  refine bC (V:=[0,2,3,13,23,30,36]) _ _ _ _ ?_;simp only[go_sem];(refine bB (OT.r 0 10) [] ?_;simp only[go_sem,eL])
  (apply aQ<;>intro h)<;>simp only[go_sem,h]
  .have y:q+k<x.length:=gQ h
   have F:∃d w,x.drop (q+k)=d::w:=by
    rw[kN y];exact⟨_,_,rfl⟩
   obtain⟨d,w,z⟩:=F;have O:q+k<=x.length:=by omega
   have b1:(d::w).take (x.length-(q+k))=d::w:=by rw[<-z];exact aIS x _
   (refine bB (OT.r 0 10) [] ?_;simp only[go_sem,eL,z,b1,O,bL]);refine zO _ _ _ _ _ ?_;simp only[go_sem,aLD]
   (apply aQ<;>intro h)<;>simp only[go_sem,h]
   ·
    refine aAr _ r x (q+k) _ _ 1 sg op _ _ (by rw[aH,aE rfl];rfl) hx aB aB aB ?_;simp only[go_sem];refine⟨k+1,⟨by omega,?_⟩,by omega,?_⟩
    .rw[L,z,aKh h,show q+(k+1)=q+k+1 from rfl,<-pZ,z];simp;omega
    .rw[u 1];exact aG _
   .refine aEa _ _ _ _ _ ?_;simp only[go_sem]
    (apply aQ<;>intro h)<;>simp only[go_sem,h]
    .have B:rO d=false:=by assumption
     have hp:=h;refine zO _ _ 10 _ _ ?_;simp only[go_sem];have U:=aMK (d::w);have H:=aBW hp;have b0:((d::w).takeWhile (λc=>!decide (c=10))).length<=(d::w).length:=(List.takeWhile_sublist _).length_le;have b3:(d::w).length=x.length-(q+k):=by rw[<-z,cS]
     have fin:∀m:Nat,m=((d::w).takeWhile (λc=>!decide (c=10))).length->q+k+m<=x.length/\eE (x.drop q)=k+m+eE (x.drop (q+(k+m))):=by
      rintro m rfl;refine⟨by omega,?_⟩;have:=aK5 B hp;rw[L,z,this,<-lP q,<-pZ,z];omega
     generalize hm:((d::w).takeWhile (λc=>!decide (c=10))).length=m at U H b0;obtain⟨f1,f2⟩:=fin m hm.symm
     (apply aQ<;>intro h)<;>simp only[go_sem,h]
     .have y:Lib.indexByte (d::w) 10<0:=gQ h;have e:=U.1;rw[aE y]at e;have e:w.length+1=m:=by simp at e;omega
      rw[e];refine aAr _ r x (q+k) _ _ m sg op _ _ (by rw[aH,aE rfl];rfl) hx f1 aB aB ?_;simp only[go_sem];refine⟨k+m,⟨by omega,f2⟩,by omega,?_⟩;rw[u m,lP q k m];exact aG _
     .have y:¬ Lib.indexByte (d::w) 10<0:=gQ h;have e:=U.1;rw[aD y]at e;rw[e];refine aAr _ r x (q+k) _ _ m sg op _ _ (by rw[aH,aE rfl];rfl) hx f1 aB aB ?_;simp only[go_sem];refine⟨k+m,⟨by omega,f2⟩,by omega,?_⟩;rw[u m,lP q k m];exact aG _
    .have B:rO d=false:=by assumption
     rw[L,z,aLY B h,Nat.add_zero]at M;exact aN M
  .have Z:q+k=x.length:=by simp at h;omega
   have e:eE (x.drop q)=k:=by rw[L,Z,List.drop_length,aMM];rfl
   rw[e]at M;exact aN M
theorem xV{x:aC}{i:Nat}{d:UInt8}(m:x[i]?=some d)(h:d.toNat<128):Utf8.decode ⟨x.toArray⟩ i=(d.toNat,1):=by
 have u:i<x.length:=(dG.1 m).1;have q:i<(ByteArray.mk x.toArray).size:=by simpa [ByteArray.size]using u
 have e:(ByteArray.mk x.toArray)[i]'q=d:=by
  exact(dG.1 m).2
 have:=decode_ascii ⟨x.toArray⟩ i q (by rw[e];exact h);rw[this,e]
theorem aMi{x:aC}{i:Nat}{d:UInt8}(m:x[i]?=some d)(h:128<=d.toNat):128<=(Utf8.decode ⟨x.toArray⟩ i).1:=by
 have u:i<x.length:=(dG.1 m).1;have q:i<(ByteArray.mk x.toArray).size:=by simpa [ByteArray.size]using u
 have e:(ByteArray.mk x.toArray)[i]'q=d:=by
  exact(dG.1 m).2
 exact(decode_high ⟨x.toArray⟩ i q (by rw[e];exact h)).1
theorem aEn(s:St)(x:aC)(KV Kp)(O:KV s (.bool (tP x))):Den cx 172 [.str x] KV Kp s:=by
 (refine aL func172 [0,2,4,6,7,8,23] ?_;simp only[go_sem,ntmps172,f172]);intro b U;simp only[go_sem]
 refine Ex.loop (λi=>[(0,.str x),(6,.ptr b 0)]) (λi=>s.setO b (.iter x i))
  (λi=>i<=x.length/\∀d∈x.take i,qX d=true) (λi=>x.length-i) 0 ⟨aX _,by simp⟩ ?_ (aG _) ?_
 .simp only[go_sem]
 .rintro i ⟨hi,h⟩;refine bC (V:=[0,2,4,6,7,8,23]) _ _ _ _ ?_;by_cases u:i<x.length
  .obtain⟨d,z⟩:∃d,x[i]?=some d:=⟨_,aV u⟩
   have bad:qX d=false->∀o,DK KV (s.setO b o) (.bool false):=λho o=>by
    have:tP x=false:=by
     rw[tP,Bool.and_eq_false_iff];refine .inl (wY.2 λh=>?_);rw[fR]at h;rw[h d (cR z)]at ho;cases ho
    rw[this]at O;exact aF O (eG U)
   by_cases m:d.toNat<128
   .by_cases ho:qX d=true
    .have y:=ho;simp only[qX,dI,dA,kO,gP]at y;obtain⟨o1,o2,S,o4⟩:=y;have Z:¬ d.toNat=34:=λe=>S (rB.1 e)
     have n4:¬ d.toNat=92:=λe=>o4 (rB.1 e)
     have B:decide ((d.toNat:Int)<32)=false:=cH aB;have F:decide (126<(d.toNat:Int))=false:=cH aB;have G:decide ((d.toNat:Int)=34)=false:=cH aB;have L:decide ((d.toNat:Int)=92)=false:=cH aB;simp only[go_sem,u,xV z m,B,F,G,L];refine⟨i+1,⟨by omega,λq H=>?_⟩,by omega,aG _⟩;rw[eO,z]at H;simp only[dK,Option.toList_some,cC]at H;rcases H with H|rfl
     .exact h q H
     .exact ho
    .have y:qX d=false:=gQ ho;have bad:=bad y;by_cases o1:32<=d.toNat
     .have B:decide ((d.toNat:Int)<32)=false:=cH aB;by_cases o2:d.toNat<=126
      .have F:decide (126<(d.toNat:Int))=false:=cH aB;by_cases S:d.toNat=34
       .have G:decide ((d.toNat:Int)=34)=true:=cZ aB;simp only[go_sem,u,xV z m,B,F,G];exact bad _
       .have G:decide ((d.toNat:Int)=34)=false:=cH aB
        have o4:d.toNat=92:=by
         have Z:¬ d=34:=λe=>S (by rw[e];rfl)
         simp only[qX,o1,o2,Z,xE,xB,fW,iG,aD4,dA]at y;rw[y];rfl
        have L:decide ((d.toNat:Int)=92)=true:=cZ aB;simp only[go_sem,u,xV z m,B,F,G,L];exact bad _
      .have F:decide (126<(d.toNat:Int))=true:=cZ aB;simp only[go_sem,u,xV z m,B,F];exact bad _
     .have B:decide ((d.toNat:Int)<32)=true:=cZ aB;simp only[go_sem,u,xV z m,B];exact bad _
   .have hh:=aMi z aB;have B:decide (((Utf8.decode ⟨x.toArray⟩ i).1:Int)<32)=false:=cH aB;have F:decide (126<((Utf8.decode ⟨x.toArray⟩ i).1:Int))=true:=cZ aB;simp only[go_sem,u,B,F];exact bad (by simp only[qX,show¬ d.toNat<=126 from by omega,xB,gG,jN]) _
  .have M:i=x.length:=by omega
   simp only[go_sem,u];refine aF (s2:=s) ?_ (eG U)
   have:tP x=decide ((x.length:Int)<=200):=by
    rw[tP]
    have:x.all qX=true:=by
     rw[fR];intro d z;rw[M,List.take_length]at h;exact h d z
    rw[this,fW];congr 1;simp;omega
   rwa[this]at O
theorem aIW(s:St)(x:aC)(c:UInt8)(KV Kp)(m:KV s (.str (x.dropWhile (sK c)))):Den cx 236 [.str x,.int .u8 c.toNat] KV Kp s:=by
 (refine aL func236 [0,1,4,13] ?_;simp only[go_sem,ntmps236,f236])
 refine Ex.loop (λw=>[(0,.str w),(1,.int .u8 c.toNat)]) (λ_=>s)
  (λw=>w.dropWhile (sK c)=x.dropWhile (sK c)) (λw=>w.length) x rfl ?_ (aG s) ?_
 .simp only[go_sem]
 .intro w q;refine bC (V:=[0,1,4,13]) _ _ _ _ ?_;cases w with
  | nil =>
   simp only[go_sem,show decide ((0:Int)<((0:Nat):Int))=false from rfl];rw[<-q]at m;exact aN m
  | cons b r =>
   simp only[go_sem,show decide ((0:Int)<((r.length+1:Nat):Int))=true from cZ aB]
   have e:decide (b.toNat=c.toNat)=sK c b:=by
    unfold sK;congr 1;exact propext rB
   simp only[go_sem,e]
   (apply aQ<;>intro h)<;>simp only[go_sem,h]
   .simp only[go_sem,show(1:Int)<=((r.length+1:Nat):Int) from by omega,show Int.toNat 1=1 from rfl];refine⟨by decide,r,?_,by omega,?_,aG s⟩
    .rw[<-q,List.dropWhile_cons,aE h]
    .exact jA aB
   .rw[<-q,List.dropWhile_cons,aD (by simp[h])]at m;exact aN m
theorem aI5(s:St)(x:aC)(c:UInt8)(KV Kp)(m:c.toNat<128)(h:KV s (.str (x.dropWhile (sK c)))):Den cx 231 [.str x,.str [c]] KV Kp s:=by
 (refine aL func231 [0,1,4,5,6,12,21,31] ?_;simp only[go_sem,ntmps231,f231]);cases x with
 | nil =>
  simp only[go_sem];exact aN h
 | cons b r =>
  simp only[go_sem,show decide (((1:Nat):Int)=1)=true from rfl,show decide ((c.toNat:Int)<128)=true from cZ aB];refine aIW _ _ _ _ _ ?_;simp only[go_sem];exact aN h
theorem aFB(x:aC)(d:UInt8):fO (x++[d])=fO x * 10+(d.toNat-48):=by
 simp[fO,List.foldl_append]
theorem aGD:∀(n:Nat) (x:aC),x.length=n->aAY x->fO x<10 ^ n
 | 0,x,h,_=>by have:x=[]:=fC h;subst this;simp[fO]
 | n+1,x,h,q=>by
  have m:x≠[]:=by rintro rfl;simp at h
  obtain⟨y,d,rfl⟩:∃y d,x=y++[d]:=⟨x.dropLast,x.getLast m,(List.dropLast_concat_getLast m).symm⟩
  have z:=aGD n y (gQ h) (λe u=>q e (by simp[u]));have:=q d aW;rw[aFB,Nat.pow_succ];omega
theorem aMl(s:St)(x:aC)(KV Kp)(hl:1<=x.length)(u:x.length<=11)(z:aAY x)(hk:KV s (.tuple [.int .i64 (fO x),.nili])):Den cx 240 [.str x] KV Kp s:=by
 obtain⟨b,r,rfl⟩:∃b r,x=b::r:=by
  cases x with
  | nil=>simp at hl
  | cons b r=>exact⟨b,r,rfl⟩
 have hb:=z b aW;(refine aL func240 [0,2,3,4,5,6,8,9,10,30,39,44,47,48,49,50,56,66] ?_;simp only[go_sem,ntmps240,f240]);have L:decide ((0:Int)<((r.length+1:Nat):Int))=true:=cZ aB;have M:decide (((r.length+1:Nat):Int)<19)=true:=cZ (by simp at u;omega);have F:decide ((b.toNat:Int)=45)=false:=cH aB;have O:decide ((b.toNat:Int)=43)=false:=cH aB;simp only[go_sem,L,M,F,O];refine⟨by unfold maxLen;simp at u;omega,?_⟩;have hx:(b::r).length=r.length+1:=rfl;generalize y:b::r=x at *
 refine Ex.loop (λi=>[(5,.str x),(6,.int .i64 (fO (x.take i):Nat)),(47,.list none (x.map λc=>.int .u8 c.toNat)),(48,.int .i64 ((r.length+1:Nat))),(49,.int .i64 (i:Nat)),(3,.nili)]) (λ_=>s)
  (λi=>i<=x.length) (λi=>x.length-i) 0 (aX _) ?_ (aG s) ?_
 .simp only[go_sem];subst y;exact⟨rfl,rfl,rfl⟩
 .intro i hi;refine bC (V:=[0,2,3,4,5,6,8,9,10,30,39,44,47,48,49,50,56,66]) _ _ _ _ ?_;simp only[go_sem]
  (apply aQ<;>intro h)<;>simp only[go_sem,h]
  .have m:i<x.length:=by simp at h;omega
   obtain⟨d,q⟩:∃d,x[i]?=some d:=⟨_,aV m⟩
   have G:=z d (cR q)
   have S:IntKind.u8.wrap ((d.toNat:Int)-48)=((d.toNat-48:Nat):Int):=by
    have H:((d.toNat:Int)-48) % 2 ^ 8=(d.toNat:Int)-48:=by omega
    simp only[IntKind.wrap,IntKind.signed,IntKind.bits,gG,cQ,cI,H];omega
   have hn:fO (x.take i)<10 ^ 11:=by
    have h1:=aGD (x.take i).length (x.take i) rfl (λe he=>z e (nQ he));have h2:(x.take i).length<=11:=by rw[dV];omega
    exact Nat.lt_of_lt_of_le h1 (Nat.pow_le_pow_right fJ h2)
   have U:decide ((9:Int)<((d.toNat-48:Nat):Int))=false:=cH aB
   have Z:IntKind.i64.wrap (((fO (x.take i):Nat):Int) * 10)=((fO (x.take i) * 10:Nat):Int):=by
    rw[eW _ aB aB];omega
   have f4:IntKind.i64.wrap ((d.toNat-48:Nat):Int)=((d.toNat-48:Nat):Int):=eW _ aB aB
   have f5:IntKind.i64.wrap (((fO (x.take i) * 10:Nat):Int)+((d.toNat-48:Nat):Int))=((fO (x.take (i+1)):Nat):Int):=by
    rw[eO,q];show _=((fO (x.take i++[d]):Nat):Int);rw[aFB,eW _ aB aB];omega
   simp only[go_sem,q,m,S,U,Z,f4,f5,bM i aB];exact⟨i+1,by omega,by omega,⟨rfl,rfl⟩,aG s⟩
  .have m:i=x.length:=by simp at h;omega
   have h0:x[0]?=some b:=by rw[<-y];rfl
   have B:0<x.length:=by omega
   simp only[go_sem,h0,B,F];rw[m,List.take_length];exact aN hk
theorem aEx(s:St)(x:aC)(KV Kp)(hl:1<=x.length)(h:x.length<=11)(m:aAY x)(q:KV s (.tuple [.int .i64 (fO x),.nili])):Den cx 232 [.str x] KV Kp s:=by
 (refine aL func232 [0,2,3,4,5,12] ?_;simp only[go_sem,ntmps232,f232]);refine aMl _ _ _ _ hl h m ?_;simp only[go_sem];exact aN q
theorem aKn(s:St)(x:aC)(KV Kp)(hx:x.length<=4294967296)(y:KV s (.tuple [(pM x).1.enc,.int .i64 (pM x).2.1,.bool (pM x).2.2])):Den cx 219 [.str x] KV Kp s:=by
 (refine aL func219 [0,2,3,4,5,6,28] ?_;simp only[go_sem,ntmps219,f219]);intro b q;simp only[go_sem,q];refine aG5 _ _ _ (λc=>mI c.toNat) _ _ hx (λc KV Kp h=>aEQ _ _ _ _ h) ?_;generalize O:(x.takeWhile λc=>mI c.toNat).length=n at y;have hnl:n<=x.length:=by rw[<-O];exact(List.takeWhile_sublist _).length_le
 simp only[go_sem,hnl];refine aI5 _ _ 48 _ _ fJ ?_;simp only[go_sem];generalize U:(x.take n).dropWhile (sK 48)=g at y
 have bad:(10<g.length\/(∃c,x[n]?=some c/\iU c.toNat=true))->pM x=(⟨0,[],0,0,0⟩,0,false):=by
  intro Z;simp only[pM,O,U,aE Z]
 have z:¬ (10<g.length\/(∃c,x[n]?=some c/\iU c.toNat=true))->pM x=(⟨2,[],fO g,0,0⟩,n,decide (fO g<=2147483647)):=by
  intro Z;simp only[pM,O,U,aD Z]
 have L:aAY g:=by
  intro d u;rw[<-U]at u;have m:=(List.dropWhile_sublist _).mem u;rw[<-O]at m
  have H:d∈x.takeWhile λc=>mI c.toNat:=by
   have:=nQ (l:=x) m
   have e:x.take (x.takeWhile λc=>mI c.toNat).length=x.takeWhile λc=>mI c.toNat:=by
    conv=>lhs;arg 2;rw[<-List.takeWhile_append_dropWhile (p:=λc=>mI c.toNat) (l:=x)]
    rw[List.take_left'];rfl
   rw[e]at m;exact m
  have h3:=fR.1 (List.all_takeWhile (p:=λc:UInt8=>mI c.toNat) (l:=x)) d H;simp only[mI,dI,dA]at h3;omega
 (apply aQ<;>intro h)<;>simp only[go_sem,h,q]
 .rw[bad (.inl (by simp at h;omega))]at y;exact aF y (eG q)
 .have B:¬ 10<g.length:=by simp at h;omega
  (apply aQ<;>intro h)<;>simp only[go_sem,h,q]
  .have M:n<x.length:=gQ h;obtain⟨c,S⟩:∃c,x[n]?=some c:=⟨_,aV M⟩
   simp only[go_sem,S,M,q];refine zY _ _ _ _ ?_;simp only[go_sem,q]
   (apply aQ<;>intro h)<;>simp only[go_sem,h,q]
   .rw[bad (.inr ⟨c,S,h⟩)]at y;exact aF y (eG q)
   .have G:¬ (10<g.length\/(∃c,x[n]?=some c/\iU c.toNat=true)):=by
     rintro(m|⟨c',m,H⟩)
     .exact B m
     .rw[S]at m;cases m;rw[h]at H;cases H
    have F:=z G;rw[F]at y;have m1:(48::g).length<=11:=by simp;omega
    refine⟨by unfold maxLen;omega,?_⟩
    refine aEx _ _ _ _ aW m1 (λd u=>by
     simp only[dD]at u;rcases u with rfl|u
     .decide
     .exact L d u) ?_
    have m2:fO (48::g)=fO g:=rfl;simp only[go_sem,q,m2];have m3:decide (((fO g:Nat):Int)<=2147483647)=decide (fO g<=2147483647):=by congr 1;simp only[eq_iff_iff];omega
    rw[m3];exact aF y (eG q)
  .have G:¬ (10<g.length\/(∃c,x[n]?=some c/\iU c.toNat=true)):=by
    rintro(m|⟨c',m,H⟩)
    .exact B m
    .have:=(dG.1 m).1;simp at h;omega
   have F:=z G;rw[F]at y;have m1:(48::g).length<=11:=by simp;omega
   refine⟨by unfold maxLen;omega,?_⟩
   refine aEx _ _ _ _ aW m1 (λd u=>by
    simp only[dD]at u;rcases u with rfl|u
    .decide
    .exact L d u) ?_
   have m2:fO (48::g)=fO g:=rfl;simp only[go_sem,q,m2];have m3:decide (((fO g:Nat):Int)<=2147483647)=decide (fO g<=2147483647):=by congr 1;simp only[eq_iff_iff];omega
   rw[m3];exact aF y (eG q)
theorem aJg(s:St)(x:aC)(c:UInt8)(KV Kp)(h:KV s (.int .i64 (x.count c:Nat))):Den cx 148 [.str x,.str [c]] KV Kp s:=by
 (refine aL func148 [0,1,4,5,6,9,15,24] ?_;simp only[go_sem,ntmps148,f148]);simp only[go_sem,show decide (((1:Nat):Int)=0)=false from rfl,show decide (((1:Nat):Int)=1)=true from rfl];refine aI6 _ _ _ _ _ ?_;simp only[go_sem];exact aN h
theorem aJW(s:St)(l:List aC)(x:aC)(KV Kp)(L:∀r:Int,(0<=r↔x∈l)->KV s (.int .i64 r)):Den cx 85 [.list none (l.map .str),.str x] KV Kp s:=by
 refine fS λH=>?_
 have G:=H _ (dZ ..);(refine aL func85 [0,1,4,5,7,8,9,16] ?_;simp only[go_sem,ntmps85,f85])
 refine Ex.loop (λi=>[(0,.list none (l.map .str)),(1,.str x),(7,.int .i64 l.length),(8,.int .i64 (i:Nat))]) (λ_=>s)
  (λi=>i<=l.length/\∀j,j<i->l[j]?≠some x) (λi=>l.length-i) 0 ⟨aX _,λj B=>by omega⟩ ?_ (aG s) ?_
 .simp only[go_sem];rfl
 .rintro i ⟨M,q⟩;refine bC (V:=[0,1,4,5,7,8,9,16]) _ _ _ _ ?_;simp only[go_sem]
  (apply aQ<;>intro h)<;>simp only[go_sem,h]
  .have m:i<l.length:=gQ h;obtain⟨a,z⟩:∃a,l[i]?=some a:=⟨_,aV m⟩
   simp only[go_sem,z,m]
   (apply aQ<;>intro h)<;>simp only[go_sem,h]
   .have u:x=a:=gQ h;subst u;have y:x∈l:=cR z;exact aN (L _ ⟨λ_=>y,λ_=>by omega⟩)
   .have u:¬ x=a:=gQ h;refine⟨i+1,⟨by omega,λj B=>?_⟩,by omega,?_,aG s⟩
    .by_cases F:j=i
     .subst F;rw[z];simpa [eq_comm]using u
     .exact q j aB
    .simp only[go_sem,G.wrap (i:=i) (gQ m)]
  .have m:i=l.length:=by simp at h;omega
   have y:¬ x∈l:=by
    intro y;obtain⟨j,B,e⟩:=hU y;exact q j aB (by rw[aV B,e])
   exact aN (L _ ⟨λh=>cV h fJ,λh=>cV h y⟩)
theorem kR(s:St)(l:List aC)(x:aC)(KV Kp)(h:KV s (.bool (decide (x∈l)))):Den cx 45 [.list none (l.map .str),.str x] KV Kp s:=by
 (refine aL func45 [0,1,4] ?_;simp only[go_sem,ntmps45,f45]);refine aJW _ _ _ _ _ λr m=>?_
 simp only[go_sem];have:decide (0<=r)=decide (x∈l):=by simp only[m]
 rw[this];exact aN h
end Go.AV
section
open Go.Proofs.Tryz
namespace Go.Proofs
open Go.Shelf
def Tryz.laysM171_ren:Go.Shelf.Ren:=⟨λ|171=>205|243=>223|246=>234|283=>242|284=>243|285=>244|286=>245|129=>131|317=>254|318=>255|319=>256|320=>257|337=>263|338=>264|n=>n,λ|3=>3|9=>9|2=>2|4=>4|171=>292|0=>0|53=>188|37=>294|5=>5|173=>295|212=>307|51=>186|20=>20|213=>308|46=>34|232=>323|233=>324|n=>n,λ|17=>3|18=>8|19=>9|n=>n⟩
theorem Tryz.laysM171:Go.Proofs.LaysM.n171 Tryz.prog Tryz.laysM171_ren:={
 mixed:=by kernel_rfl
 f129:=Tryz.func131.trans (congrArg some (by kernel_rfl))
 f171:=Tryz.func205.trans (congrArg some (by kernel_rfl))
 f243:=Tryz.func223.trans (congrArg some (by kernel_rfl))
 f246:=Tryz.func234.trans (congrArg some (by kernel_rfl))
 f283:=Tryz.func242.trans (congrArg some (by kernel_rfl))
 f284:=Tryz.func243.trans (congrArg some (by kernel_rfl))
 f285:=Tryz.func244.trans (congrArg some (by kernel_rfl))
 f286:=Tryz.func245.trans (congrArg some (by kernel_rfl))
 f317:=Tryz.func254.trans (congrArg some (by kernel_rfl))
 f318:=Tryz.func255.trans (congrArg some (by kernel_rfl))
 f319:=Tryz.func256.trans (congrArg some (by kernel_rfl))
 f320:=Tryz.func257.trans (congrArg some (by kernel_rfl))
 f337:=Tryz.func263.trans (congrArg some (by kernel_rfl))
 f338:=Tryz.func264.trans (congrArg some (by kernel_rfl))
 t0:=Tryz.underlying0
 a0:=Tryz.isAgg0
 z0:=Tryz.sizeOf0
 v0:=Tryz.zeroValue0
 t2:=Tryz.underlying2
 a2:=Tryz.isAgg2
 z2:=Tryz.sizeOf2
 v2:=Tryz.zeroValue2
 t3:=Tryz.underlying3
 a3:=Tryz.isAgg3
 z3:=Tryz.sizeOf3
 v3:=Tryz.zeroValue3
 t4:=Tryz.underlying4
 a4:=Tryz.isAgg4
 z4:=Tryz.sizeOf4
 v4:=Tryz.zeroValue4
 t5:=Tryz.underlying5
 a5:=Tryz.isAgg5
 z5:=Tryz.sizeOf5
 v5:=Tryz.zeroValue5
 t9:=Tryz.underlying9
 a9:=Tryz.isAgg9
 z9:=Tryz.sizeOf9
 v9:=Tryz.zeroValue9
 t20:=Tryz.underlying20
 a20:=Tryz.isAgg20
 z20:=Tryz.sizeOf20
 v20:=Tryz.zeroValue20
 t37:=Tryz.underlying294
 a37:=Tryz.isAgg294
 z37:=Tryz.sizeOf294
 v37:=Tryz.zeroValue294
 t46:=Tryz.underlying34
 a46:=Tryz.isAgg34
 z46:=Tryz.sizeOf34
 v46:=Tryz.zeroValue34
 t51:=Tryz.underlying186
 a51:=Tryz.isAgg186
 z51:=Tryz.sizeOf186
 v51:=Tryz.zeroValue186
 t53:=Tryz.underlying188
 a53:=Tryz.isAgg188
 z53:=Tryz.sizeOf188
 v53:=Tryz.zeroValue188
 t171:=Tryz.underlying292
 a171:=Tryz.isAgg292
 z171:=Tryz.sizeOf292
 v171:=Tryz.zeroValue292
 t173:=Tryz.underlying295
 a173:=Tryz.isAgg295
 z173:=Tryz.sizeOf295
 v173:=Tryz.zeroValue295
 t212:=Tryz.underlying307
 a212:=Tryz.isAgg307
 z212:=Tryz.sizeOf307
 v212:=Tryz.zeroValue307
 t213:=Tryz.underlying308
 a213:=Tryz.isAgg308
 z213:=Tryz.sizeOf308
 t232:=Tryz.underlying323
 a232:=Tryz.isAgg323
 z232:=Tryz.sizeOf323
 v232:=Tryz.zeroValue323
 t233:=Tryz.underlying324
 a233:=Tryz.isAgg324
 z233:=Tryz.sizeOf324
 v233:=Tryz.zeroValue324
 g17:=by kernel_rfl
 g18:=by kernel_rfl
 g19:=by kernel_rfl
 i0:=by kernel_rfl
 i2:=by kernel_rfl
 i3:=by kernel_rfl
 i4:=by kernel_rfl
 i5:=by kernel_rfl
 i9:=by kernel_rfl
 i20:=by kernel_rfl
 i37:=by kernel_rfl
 i46:=by kernel_rfl
 i51:=by kernel_rfl
 i53:=by kernel_rfl
 i171:=by kernel_rfl
 i173:=by kernel_rfl
 i212:=by kernel_rfl
 i232:=by kernel_rfl
 i233:=by kernel_rfl
 m17:=by kernel_rfl
 m18:=by kernel_rfl
 m19:=by kernel_rfl }
open Go.RowKit Go.Sort Go.Lib in
theorem Tryz.strconv_Itoa (n : Int) (m : -9223372036854775808 ≤ n) (q : n ≤ 9223372036854775807) (w : World) (h : Lib.TabIs Tryz.prog w "internal/strconv.uint64pow10" .u64 Lib.pow10Tab) :
  Calls Tryz.prog 205 #[.int .i64 n] w λe w'=>e=.returned (.string ⟨(Lib.itoa n).toArray⟩)/\∃k u,w'=grow (w.drewN k) u:=Any.strconv_Itoa Tryz.laysM171 n m q w h
end Go.Proofs
namespace Go.AV
open Go Go.Proofs
theorem aLv : prog.globalNamed "internal/strconv.uint64pow10" = some 3 := by kernel_rfl
theorem aAE:vZ=Lib.pow10Tab.map (λz=>A.int .u64 z):=by kernel_rfl
theorem uT {P : Program} {f : FuncId} {fn : Func} {c : Code} (q : P.funcs[f]? = some fn) (m : fn.body = some c) (h : (fn.name == "runtime.NumGoroutine") = false) (vals : Array Value) (w : World) :
  (callFunc f vals).run P w=.ok (.enter f vals) w:=by
 simp only[callFunc,bE,run_program,bD,q,h,cQ,↓reduceIte,m,Option.isNone_some,bO]
theorem aMf(n:Int)(H:-9223372036854775808<=n)(y:n<=9223372036854775807)(s:St)(KV Kp:St->A->Prop)(Z:KV s (.str (Lib.itoa n))):Den cx 205 [.int .i64 n] KV Kp s:=by
 refine aI3 (λvals w=>?_) λF g w vals O G=>?_
 .exact uT (P:=prog) func205 rfl rfl vals w
 .obtain⟨v,z,hr⟩:=G.get (j:=0) rfl;have hl:=G.1
  have B:vals=[.int .i64 n]:=by
   match vals,hl,z with
   | [x],_,h=>simp only[iZ,bI]at h;subst h;rw[hr.int_inv]
  subst B
  have q : Lib.TabIs prog w "internal/strconv.uint64pow10" .u64 Lib.pow10Tab := by
   obtain⟨pre,ty,fr,y,h2,L,h4,M⟩:=O.gpi (b:=3) (cs:=vZ) rfl;unfold Lib.TabIs World.var?;rw[aLv];simp only[Option.bind_some,y,bI];congr 1;apply List.ext_getElem?;intro i;by_cases m:i<vZ.length
   .have u:i<pre.length:=by rw[L];exact m
    have U:vZ[i]?=some (.int .u64 (Lib.pow10Tab[i]'(by rw[aAE]at m;simpa using m))):=by
     rw[aV m];simp[aAE]
    have:=M i _ _ U (aV u);rw[aV u,this.int_inv];rw[aAE]at m;simp only[aK]at m;simp[m]
   .rw[qY aB,qY (by rw[aAE]at m;simpa using m)]
  refine Calls.mono (strconv_Itoa n H y w q) λe w' u=>?_
  obtain⟨rfl,k,os,rfl⟩:=u;refine⟨_,_,rfl,λb S=>?_,rfl,.str _,Z⟩;show(w.heap++os)[b]?=w.heap[b]?;rw[Array.getElem?_append_left S]
end Go.AV
end
section
open Go.Proofs.Tryz
namespace Go.Proofs
open Go.Shelf
def Tryz.lays157_ren:Go.Shelf.Ren:=⟨λ|157=>135|229=>176|199=>177|261=>199|311=>213|312=>214|n=>n,λ|9=>9|31=>22|3=>3|5=>5|4=>4|119=>224|0=>0|40=>226|152=>246|21=>21|154=>248|51=>186|141=>250|196=>263|193=>260|198=>266|49=>264|194=>261|201=>269|226=>274|46=>34|227=>275|n=>n,λ|0=>0|6=>1|n=>n⟩
theorem Tryz.lays157:Go.Proofs.Lays.n157 Tryz.prog Tryz.lays157_ren:={
 mixed:=by kernel_rfl
 f157:=Tryz.func135.trans (congrArg some (by kernel_rfl))
 f199:=Tryz.func177.trans (congrArg some (by kernel_rfl))
 f229:=Tryz.func176.trans (congrArg some (by kernel_rfl))
 f261:=Tryz.func199.trans (congrArg some (by kernel_rfl))
 f311:=Tryz.func213.trans (congrArg some (by kernel_rfl))
 f312:=Tryz.func214.trans (congrArg some (by kernel_rfl))
 t0:=Tryz.underlying0
 a0:=Tryz.isAgg0
 z0:=Tryz.sizeOf0
 v0:=Tryz.zeroValue0
 t3:=Tryz.underlying3
 a3:=Tryz.isAgg3
 z3:=Tryz.sizeOf3
 v3:=Tryz.zeroValue3
 t4:=Tryz.underlying4
 a4:=Tryz.isAgg4
 z4:=Tryz.sizeOf4
 v4:=Tryz.zeroValue4
 t5:=Tryz.underlying5
 a5:=Tryz.isAgg5
 z5:=Tryz.sizeOf5
 v5:=Tryz.zeroValue5
 t9:=Tryz.underlying9
 a9:=Tryz.isAgg9
 z9:=Tryz.sizeOf9
 v9:=Tryz.zeroValue9
 t21:=Tryz.underlying21
 a21:=Tryz.isAgg21
 z21:=Tryz.sizeOf21
 v21:=Tryz.zeroValue21
 t31:=Tryz.underlying22
 a31:=Tryz.isAgg22
 z31:=Tryz.sizeOf22
 v31:=Tryz.zeroValue22
 t40:=Tryz.underlying226
 a40:=Tryz.isAgg226
 z40:=Tryz.sizeOf226
 v40:=Tryz.zeroValue226
 t46:=Tryz.underlying34
 a46:=Tryz.isAgg34
 z46:=Tryz.sizeOf34
 v46:=Tryz.zeroValue34
 t49:=Tryz.underlying264
 a49:=Tryz.isAgg264
 z49:=Tryz.sizeOf264
 v49:=Tryz.zeroValue264
 t51:=Tryz.underlying186
 a51:=Tryz.isAgg186
 z51:=Tryz.sizeOf186
 v51:=Tryz.zeroValue186
 t119:=Tryz.underlying224
 a119:=Tryz.isAgg224
 z119:=Tryz.sizeOf224
 t141:=Tryz.underlying250
 a141:=Tryz.isAgg250
 z141:=Tryz.sizeOf250
 v141:=Tryz.zeroValue250
 t152:=Tryz.underlying246
 a152:=Tryz.isAgg246
 z152:=Tryz.sizeOf246
 v152:=Tryz.zeroValue246
 t154:=Tryz.underlying248
 a154:=Tryz.isAgg248
 z154:=Tryz.sizeOf248
 v154:=Tryz.zeroValue248
 t193:=Tryz.underlying260
 a193:=Tryz.isAgg260
 z193:=Tryz.sizeOf260
 v193:=Tryz.zeroValue260
 t194:=Tryz.underlying261
 a194:=Tryz.isAgg261
 z194:=Tryz.sizeOf261
 v194:=Tryz.zeroValue261
 t196:=Tryz.underlying263
 a196:=Tryz.isAgg263
 z196:=Tryz.sizeOf263
 v196:=Tryz.zeroValue263
 t198:=Tryz.underlying266
 a198:=Tryz.isAgg266
 z198:=Tryz.sizeOf266
 v198:=Tryz.zeroValue266
 t201:=Tryz.underlying269
 a201:=Tryz.isAgg269
 z201:=Tryz.sizeOf269
 v201:=Tryz.zeroValue269
 t226:=Tryz.underlying274
 a226:=Tryz.isAgg274
 z226:=Tryz.sizeOf274
 v226:=Tryz.zeroValue274
 t227:=Tryz.underlying275
 a227:=Tryz.isAgg275
 z227:=Tryz.sizeOf275
 v227:=Tryz.zeroValue275
 g0:=by kernel_rfl
 g6:=by kernel_rfl }
open Go.RowKit Go.Lib in
theorem Tryz.strings_Fields (s : ByteArray) (w : World) (q : s.size < 4294967281) (h : ∀ (j : Nat) b,s.data.toList[j]? = some b → b.toNat < 128) (m : Lib.TabIs Tryz.prog w "strings.asciiSpace" .u8 Lib.asciiSpaceTab) :
  Calls Tryz.prog 135 #[.string s] w λe w' =>
   e=.returned (.slice (some ⟨w.heap.size,0,none⟩) (Lib.fields s.data.toList).length (Lib.fields s.data.toList).length)/\w'=w.alloc (.cells ((Lib.fields s.data.toList).map λl=>Value.string ⟨l.toArray⟩).toArray 9):=Any.strings_Fields Tryz.lays157 (by kernel_rfl) (by kernel_rfl) s w q h m
end Go.Proofs
namespace Go.AV
open Go Go.Proofs
theorem R.known{C:Ctx}{F:Fr}{g:Gh}{s:St}{w w':World}(h:R C F g s w)(y:∀b,b<w.heap.size->w'.heap[b]?=w.heap[b]?)(B:(w'.os,w'.output)=(w.os,w.output))
  {b:Nat}(L:w.heap.size<=b){vs rest:List Value}{e:TypeId}{fr:Nat × Nat}(H:w'.heap[b]?=some (.cells (vs++rest).toArray e fr)) :
  R C F (g.know b vs) s w'/\g.le (g.know b vs):=by
 have G:g.pi b=none:=by
  cases m:g.pi b with
  | none=>rfl
  | some pre=>have:=h.lt_pi m;omega
 have u:=aAc G vs
 refine⟨(h.keep y B).ghost u ?_ ?_ ?_ rfl rfl (λc o ho=>by
  have:c≠b:=by have:=h.lt_frm ho;omega
  simp only[Gh.know,this,↓reduceIte]),u⟩
 .intro c k q m;have:k≠b:=by have:=h.bet c k q;omega
  simp only[Gh.know,this,↓reduceIte];exact m
 .intro c pre m;by_cases q:c=b
  .subst q;simp only[Gh.know,↓reduceIte,bI]at m;subst m;exact⟨rest,e,fr,H⟩
  .simp only[Gh.know,q,↓reduceIte]at m;rw[y _ (h.lt_pi m)];exact h.pis c pre m
 .intro t n e v c xs _ _ q z;have:c≠b:=by have:=h.lt_pi z;omega
  simp only[Gh.know,this,↓reduceIte];exact z
theorem aNO : prog.globalNamed "strings.asciiSpace" = some 0 := by kernel_rfl
theorem aAu:vV=Lib.asciiSpaceTab.map (λz=>A.int .u8 z):=by kernel_rfl
def nM(x:aC):Value:=.string ⟨x.toArray⟩
theorem aBX(x:aC)(l:List aC)(hl:Lib.fields x=l)(hn:l.length<=1000)(hx:x.length<4294967281)(ha:∀c,c∈x->c.toNat<128)(s:St)(KV Kp:St->A->Prop)(hk:KV s (.list none (l.map .str))):Den cx 135 [.str x] KV Kp s:=by
 intro F g w vals hR G;change OutV cx F g KV Kp ((callFunc 135 vals.toArray).run prog w);rw[uT (P:=prog) func135 rfl rfl vals.toArray w];obtain⟨v,S,hr⟩:=G.get (j:=0) rfl;have O:=G.1
 have U:vals=[.string ⟨x.toArray⟩]:=by
  match vals,O,S with
  | [y],_,h=>simp only[iZ,bI]at h;subst h;rw[hr.str_inv]
 subst U
 have B : Lib.TabIs prog w "strings.asciiSpace" .u8 Lib.asciiSpaceTab := by
  obtain⟨pre,ty,fr,h1,h2,h3,h4,h5⟩:=hR.gpi (b:=0) (cs:=vV) rfl;unfold Lib.TabIs World.var?;rw[aNO];simp only[Option.bind_some,h1,bI];congr 1;apply List.ext_getElem?;intro i;by_cases m:i<vV.length
  .have u:i<pre.length:=by rw[h3];exact m
   have H:vV[i]?=some (.int .u8 (Lib.asciiSpaceTab[i]'(by rw[aAu]at m;simpa using m))):=by
    rw[aV m];simp[aAu]
   have:=h5 i _ _ H (aV u);rw[aV u,this.int_inv];rw[aAu]at m;simp only[aK]at m;simp[m]
  .rw[qY aB,qY (by rw[aAu]at m;simpa using m)]
 refine Calls.mono (strings_Fields ⟨x.toArray⟩ w (show x.toArray.size<4294967281 by simpa using hx) (λj b q=>ha b (cR (gQ q))) B) λe w' u=>?_
 obtain⟨rfl,rfl⟩:=u;have e1:Lib.fields (⟨x.toArray⟩:ByteArray).data.toList=l:=by rw[<-hl]
 rw[e1]
 have z:∀b,b<w.heap.size->(w.alloc (.cells (l.map λl=>Value.string ⟨l.toArray⟩).toArray 9)).heap[b]?=w.heap[b]?:=λb hb=>by
  simp only[World.alloc];rw[Array.getElem?_push_lt hb];exact(wU hb).symm
 obtain⟨L,M⟩:=hR.known (vs:=l.map nM) (rest:=[]) (e:=9) (fr:=(0,0)) z rfl (bL _) (by
  simp only[World.alloc,dQ];rw[Array.getElem?_push_size];rfl)
 refine⟨_,_,s,M,L,?_,hk⟩
 have key:Rz (g.know w.heap.size (l.map nM)) (.list none (l.map .str)) (.slice (some ⟨w.heap.size,0,none⟩) (l.map A.str).length l.length):=by
  refine .list none _ w.heap.size 0 1 l.length (l.map nM) (by simp[Gh.know]) aW aW (by simp only[maxLen];omega) ?_ ?_ ?_ (λt h=>by cases h)
  .intro y Z;obtain⟨p,_,rfl⟩:=cD.1 Z;rfl
  .intro y Z c H;obtain⟨p,_,rfl⟩:=cD.1 Z;simp only[A.cells,cC]at H;subst H;rfl
  .intro i y j c v m q G;rw[kD]at m;obtain⟨p,u,rfl⟩:=oT.1 m;simp only[A.cells]at q
   obtain rfl:j=0:=by
    have:=(dG.1 q).1;simp at this;omega
   simp only[iZ,bI]at q;subst q;simp only[fX,Nat.mul_one,Nat.add_zero,kD,u,jM,bI]at G;subst G;exact .str p
 rw[aK]at key;exact key
end Go.AV
end
