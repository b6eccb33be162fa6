/-
  Of CheckChecks.
-/
import Derived.Test.YthaljojbclndaaaGreatDoorCc03
import Derived.Lib.Bytealg
import Derived.Laws.Externs
import Derived.Laws.RangeAny
import Derived.Shelf.LaysM
import Derived.Shelf.Strconv.Itoa3
import Derived.Shelf.Strings.Fields
set_option linter.all false
set_option maxRecDepth 99999
set_option maxHeartbeats 0
namespace Go.AV
open Go Go.Proofs Tryz
attribute [go_sem] Nat.reduceLT Nat.reduceEqDiff Nat.reduceBEq Nat.reduceAdd Nat.reduceLeDiff Nat.reduceMul reduceIte reduceCtorEq List.map gG oI List.elem aBJ aBC fP iB bJ aV aZ mO List.getElem?_cons_succ iQ lD dY dD yK wG List.take_succ_cons kO List.drop_succ_cons List.take_nil Nat.succ_eq_add_one aAp Int.toNat_zero Nat.sub_zero Nat.zero_lt_succ eU dW iZ gB
abbrev aC:=List UInt8
structure Fault where
 code:Int
 name:aC
 line:Int
 col:Int
 deriving DecidableEq
def Fault.none:Fault:=⟨0,[],0,0⟩
def Fault.cs(f:Fault):List A:=[.int .i64 f.code,.str f.name,.int .i64 f.line,.int .i64 f.col]
def Fault.enc(f:Fault):A:=.agg f.cs
structure Tok where
 kind:Int
 text:aC
 n:Int
 line:Int
 col:Int
 deriving DecidableEq
def Tok.cs(t:Tok):List A:=[.int .i64 t.kind,.str t.text,.int .i64 t.n,.int .i64 t.line,.int .i64 t.col]
def Tok.enc(t:Tok):A:=.agg t.cs
inductive Tm where
 | mk (kind n:Int) (text sort:aC) (kids rest:List Tm)
def Tm.kind:Tm->Int|.mk k _ _ _ _ _=>k
def Tm.n:Tm->Int|.mk _ n _ _ _ _=>n
def Tm.text:Tm->aC|.mk _ _ t _ _ _=>t
def Tm.sort:Tm->aC|.mk _ _ _ s _ _=>s
def Tm.kids:Tm->List Tm|.mk _ _ _ _ ks _=>ks
def Tm.rest:Tm->List Tm|.mk _ _ _ _ _ h=>h
mutual
def Tm.enc:Tm->A
 | .mk k n t s ks rs=>.agg [.int .i64 k,.int .i64 n,.str t,.str s,.list none (aCk ks),.list none (aCk rs)]
def aCk:List Tm->List A
 | []=>[]
 | t::r=>t.enc::aCk r
end
theorem aJh:∀l:List Tm,aCk l=l.map Tm.enc
 | []=>rfl
 | t::r=>by rw[aCk,aJh r];rfl
def Tm.cs(t:Tm):List A:=[.int .i64 t.kind,.int .i64 t.n,.str t.text,.str t.sort,.list none (t.kids.map Tm.enc),.list none (t.rest.map Tm.enc)]
theorem Tm.enc_eq(t:Tm):t.enc=.agg t.cs:=by
 cases t;simp only[Tm.enc,Tm.cs,Tm.kind,Tm.n,Tm.text,Tm.sort,Tm.kids,Tm.rest,aJh]
def strs(l:List aC):A:=.list none (l.map .str)
structure Below where
 low:aC
 high:aC
 deriving DecidableEq
def Below.cs(b:Below):List A:=[.str b.low,.str b.high]
def Below.enc(b:Below):A:=.agg b.cs
structure Piece where
 text:aC
 sort:aC
 deriving DecidableEq
def Piece.cs(b:Piece):List A:=[.str b.text,.str b.sort]
def Piece.enc(b:Piece):A:=.agg b.cs
structure Opr where
 name:aC
 args:List aC
 sort:aC
 pieces:List Piece
 prec:Int
 assoc:Int
 strict:List Int
 deriving DecidableEq
def Opr.cs(o:Opr):List A:=[.str o.name,.list none (o.args.map .str),.str o.sort,.list none (o.pieces.map Piece.enc),.int .i64 o.prec,.int .i64 o.assoc,.list none (o.strict.map (.int .i64))]
def Opr.enc(o:Opr):A:=.agg o.cs
structure Sig where
 sorts:List aC
 below:List Below
 ops:List Opr
 funs:List Opr
 values:List aC
def Sig.cs(s:Sig):List A:=[.list none (s.sorts.map .str),.list none (s.below.map Below.enc),.list none (s.ops.map Opr.enc),.list none (s.funs.map Opr.enc),.list none (s.values.map .str)]
def Sig.enc(s:Sig):A:=.agg s.cs
structure Eqn where
 left:Tm
 right:Tm
 cond:List Tm
 line:Int
 col:Int
def Eqn.cs(e:Eqn):List A:=e.left.cs++(e.right.cs++[.list none (e.cond.map Tm.enc),.int .i64 e.line,.int .i64 e.col])
def Eqn.enc(e:Eqn):A:=.agg e.cs
structure Cel where
 name:aC
 sort:aC
 init:Tm
 line:Int
 col:Int
def Cel.cs(c:Cel):List A:=.str c.name::.str c.sort::(c.init.cs++[.int .i64 c.line,.int .i64 c.col])
def Cel.enc(c:Cel):A:=.agg c.cs
structure Part where
 cell:aC
 at_:aC
 left:Tm
 right:List Tm
 line:Int
 col:Int
def Part.cs(p:Part):List A:=.str p.cell::.str p.at_::(p.left.cs++[.list none (p.right.map Tm.enc),.int .i64 p.line,.int .i64 p.col])
def Part.enc(p:Part):A:=.agg p.cs
structure Fresh where
 cells:List Tm
def Fresh.cs(f:Fresh):List A:=[.list none (f.cells.map Tm.enc)]
def Fresh.enc(f:Fresh):A:=.agg f.cs
structure Rul where
 name:aC
 parts:List Part
 cond:List Tm
 new:List Fresh
 drop:List aC
 line:Int
 col:Int
def Rul.cs(r:Rul):List A:=[.str r.name,.list none (r.parts.map Part.enc),.list none (r.cond.map Tm.enc),.list none (r.new.map Fresh.enc),.list none (r.drop.map .str),.int .i64 r.line,.int .i64 r.col]
def Rul.enc(r:Rul):A:=.agg r.cs
structure Dfn where
 name:aC
 sig:Sig
 eqs:List Eqn
 once:List Cel
 kind:aC
 many:List Cel
 rules:List Rul
 start:aC
 watch:aC
def Dfn.cs(d:Dfn):List A:=.str d.name::(d.sig.cs++[.list none (d.eqs.map Eqn.enc),.list none (d.once.map Cel.enc),.str d.kind,.list none (d.many.map Cel.enc),.list none (d.rules.map Rul.enc),.str d.start,.str d.watch])
def Dfn.enc(d:Dfn):A:=.agg d.cs
attribute [go_sem] Fault.enc Fault.cs Tok.enc Tok.cs Tm.enc_eq Tm.cs Below.enc Below.cs Piece.enc Piece.cs Opr.enc Opr.cs Sig.enc Sig.cs Eqn.enc Eqn.cs Cel.enc Cel.cs Part.enc Part.cs Fresh.enc Fresh.cs Rul.enc Rul.cs Dfn.enc Dfn.cs
mutual
def Tm.same:Tm->Tm->Bool
 | .mk k n t s ks rs,.mk k' n' t' s' ks' rs'=>decide (k=k')&&(decide (n=n')&&(decide (t=t')&&(decide (s=s')&&(aAD ks ks'&&aAD rs rs'))))
def aAD:List Tm->List Tm->Bool
 | [],[]=>true
 | a::l,b::r=>Tm.same a b&&aAD l r
 | _,_=>false
end
theorem mT{t x:Tm}(h:x∈t.kids):SizeOf.sizeOf x<SizeOf.sizeOf t:=by
 cases t;have:=List.sizeOf_lt_of_mem h;simp only[Tm.kids]at this;simp only[Tm.mk.sizeOf_spec];omega
theorem vB{t x:Tm}(h:x∈t.rest):SizeOf.sizeOf x<SizeOf.sizeOf t:=by
 cases t;have:=List.sizeOf_lt_of_mem h;simp only[Tm.rest]at this;simp only[Tm.mk.sizeOf_spec];omega
def cY:=@Tm.enc_eq
def mJ(c:Int):Bool:=(decide (97<=c)&&decide (c<=122))||(decide (65<=c)&&decide (c<=90))
def jW(c:Int):Bool:=mJ c||((decide (48<=c)&&decide (c<=57))||decide (c=95))
def cP(s:List UInt8):Bool:=match s with
 | []=>false
 | c::_=>decide (s.length<=40)&&(mJ c.toNat&&s.all λc=>jW c.toNat)
def qX(x p:aC):Bool:=decide (p.length<=x.length)&&decide (x.take p.length=p)
def pR(x:aC)(c:UInt8):Nat->Int
 | 0=>-1
 | n+1=>if x[n]?=some c then n else pR x c n
def lT(c:Int):Bool:=decide (48<=c)&&decide (c<=57)
def eV:Nat × Nat->aC->Nat × Nat
 | p,[]=>p
 | (l,c),b::r=>if b=10 then eV (l+1,1) r else eV (l,c+1) r
def wZ(b:UInt8):Bool:=decide (b=32)||(decide (b=9)||(decide (b=10)||decide (b=13)))
def tF:Nat->aC->Nat
 | 0,_=>0
 | _+1,[]=>0
 | f+1,b::r=>if wZ b=true then 1+tF f r
  else if qX (b::r) [47,47]=true then((b::r).takeWhile (λc=>!decide (c=10))).length+tF f ((b::r).drop ((b::r).takeWhile (λc=>!decide (c=10))).length)
  else 0
def gD(w:aC):Nat:=tF w.length w
def qF(b:UInt8):Bool:=decide (32<=b.toNat)&&(decide (b.toNat<=126)&&(!decide (b=34)&&!decide (b=92)))
def sT(x:aC):Bool:=x.all qF&&decide (x.length<=200)
def yH(c:UInt8)(b:UInt8):Bool:=decide (b=c)
def iU(x:aC):Nat:=x.foldl (λn d=>n * 10+(d.toNat-48)) 0
def aEg(x:aC):Prop:=∀d,d∈x->48<=d.toNat/\d.toNat<=57
def uH(x:aC):Tok × Nat × Bool :=
 let n:=(x.takeWhile λc=>lT c.toNat).length
 let g:=(x.take n).dropWhile (yH 48)
 if 10<g.length\/(∃c,x[n]?=some c/\jW c.toNat=true) then(⟨0,[],0,0,0⟩,0,false)
 else(⟨2,[],iU g,0,0⟩,n,decide (iU g<=2147483647))
def mX(w:aC):List aC->Nat->Nat
 | [],n=>n
 | x::r,n=>mX w r (if n<x.length/\qX w x=true then x.length else n)
def oR(w:aC)(sg:List aC)(op:Bool):Tok × Nat × Bool :=
 match w with
 | []=>(⟨0,[],0,0,0⟩,0,false)
 | c::r =>
  if cP [c] then
   let n:=(w.takeWhile λc=>jW c.toNat).length
   (⟨1,w.take n,0,0,0⟩,n,decide (n<=40))
  else if lT c.toNat then uH w
  else if c=34 then
   let n:=(Lib.indexByte r 34+2).toNat
   (⟨3,r.take (n-2),0,0,0⟩,n,decide (1<n)&&sT (r.take (n-2)))
  else
   let n:=mX w sg 0
   let n:=if n=0/\op=true/\(c=39\/c=95) then 1 else n
   (⟨4,w.take n,0,0,0⟩,n,decide (0<n))
def aKP:List UInt8:=[97,100,100,32,115,117,98,32,109,117,108,32,100,105,118,32,109,111,100,32,110,101,103,32,108,116,32,108,101,32,103,116,32,103,101,32,101,113,32,110,101,32,97,110,100,32,111,114,32,110,111,116,32,112,105,99,107,32,99,97,116,32,108,101,110,103,116,104,32,116,101,120,116,32,106,111,105,110,32,103,101,116,32,112,117,116,32,104,97,115,32,100,101,108,32,107,101,121,115,32,115,105,122,101,32,105,115,32,105,115,118,97,108,117,101]
def gY:List (List UInt8):=[[97,100,100],[115,117,98],[109,117,108],[100,105,118],[109,111,100],[110,101,103],[108,116],[108,101],[103,116],[103,101],[101,113],[110,101],[97,110,100],[111,114],[110,111,116],[112,105,99,107],[99,97,116],[108,101,110,103,116,104],[116,101,120,116],[106,111,105,110],[103,101,116],[112,117,116],[104,97,115],[100,101,108],[107,101,121,115],[115,105,122,101],[105,115],[105,115,118,97,108,117,101]]
def aMH:List UInt8:=[61,62,32,45,62,32,58,32,59,32,44,32,46,32,64,32,124,32,40,32,41,32,91,32,93,32,123,32,125,32,60,32,61,32,45,32,36]
def kS:List (List UInt8):=[[61,62],[45,62],[58],[59],[44],[46],[64],[124],[40],[41],[91],[93],[123],[125],[60],[61],[45],[36]]
def aKm:List UInt8:=[108,97,110,103,117,97,103,101,32,115,111,114,116,32,115,117,98,115,111,114,116,32,118,97,108,117,101,32,111,112,32,102,117,110,32,108,101,116,32,105,102,32,115,116,97,114,116,32,99,101,108,108,32,109,97,110,121,32,119,97,116,99,104,32,114,117,108,101,32,112,114,101,99,32,108,101,102,116,32,114,105,103,104,116,32,115,116,114,105,99,116,32,110,101,119,32,100,114,111,112,32,116,114,117,101,32,102,97,108,115,101]
def nZ:List (List UInt8):=[[108,97,110,103,117,97,103,101],[115,111,114,116],[115,117,98,115,111,114,116],[118,97,108,117,101],[111,112],[102,117,110],[108,101,116],[105,102],[115,116,97,114,116],[99,101,108,108],[109,97,110,121],[119,97,116,99,104],[114,117,108,101],[112,114,101,99],[108,101,102,116],[114,105,103,104,116],[115,116,114,105,99,116],[110,101,119],[100,114,111,112],[116,114,117,101],[102,97,108,115,101]]
inductive Lx where
 | ok (l:List Tok)
 | bad (f:Fault)
def rV(sg:List aC)(op:Bool):Nat->aC->Nat × Nat->List Tok->Lx
 | _,[],_,h=>.ok h
 | 0,_::_,_,h=>.ok h
 | f+1,c::r,p,h=>match oR (c::r) sg op with
  | (t,n,true)=>rV sg op f (((c::r).drop n).drop (gD ((c::r).drop n))) (eV (eV p ((c::r).take n)) (((c::r).drop n).take (gD ((c::r).drop n))))
    (h++[⟨t.kind,t.text,t.n,p.1,p.2⟩])
  | (_,_,false)=>.bad ⟨10,[c],p.1,p.2⟩
def qC(sg:List aC)(op:Bool)(w:aC):Lx:=rV sg op w.length (w.drop (gD w)) (eV (1,1) (w.take (gD w))) []
@[go_sem] theorem aXo:cx.det=false:=rfl
@[go_sem] theorem aV3(x:A)(l:List A):aCG (x::l)=.list none (x::l):=rfl
@[go_sem] theorem aWK:aCG []=.emp:=rfl
def gs(s:St)(tk:Option Nat)(n:Nat)(e:TypeId):St:=match tk with
 | none=>s
 | some t=>s.setT t (n,e)
@[go_sem] theorem cS(s:St)(tk:Option Nat)(n:Nat)(e:TypeId)(b:Nat):(gs s tk n e).getO b=s.getO b:=by cases tk<;>rfl
@[go_sem] theorem aCf(s:St)(tk:Option Nat)(n:Nat)(e:TypeId)(b:Nat)(o:Ob):(gs s tk n e).setO b o=gs (s.setO b o) tk n e:=by cases tk<;>rfl
@[go_sem] theorem aVX(s:St)(t:Nat)(v:Nat × TypeId)(b:Nat)(o:Ob):(s.setT t v).setO b o=(s.setO b o).setT t v:=rfl
attribute [go_sem] nW fF
@[go_sem] theorem aWg(s:St)(t b:Nat):(s.delT t).getO b=s.getO b:=rfl
@[go_sem] theorem aV1(s:St)(x:Option (Nat × Nat × A))(b:Nat)(o:Ob):(s.setL x).setO b o=(s.setO b o).setL x:=rfl
@[go_sem] theorem aVY(s:St)(t:Nat)(b:Nat)(o:Ob):(s.delT t).setO b o=(s.setO b o).delT t:=rfl
@[go_sem] theorem aWR(s:St)(x:Option (Nat × Nat × A)):(s.setL x).ls=x:=rfl
theorem fD{s:St}{tk:Option Nat}{n:Nat}{e:TypeId}(h:tk=none->n=0):iV (gs s tk n e) tk n e:=by
 cases tk with
 | none=>exact h rfl
 | some t=>simp only[iV,gs,dC,aF]
theorem gR{s:St}{tk:Option Nat}{n:Nat}{e:TypeId}{t:Nat}(h:tk=some t\/tk=none/\(gs s tk n e).getT t=none)(v:Nat × TypeId):(gs s tk n e).setT t v=s.setT t v:=by
 rcases h with rfl|⟨rfl,_⟩
 .simp only[gs,St.setT,aCb]
 .rfl
theorem iD{s:St}{tk:Option Nat}{n:Nat}{e:TypeId}{t:Nat}(h:tk=some t\/tk=none/\(gs s tk n e).getT t=none)(m:∀t,tk=some t->s.getT t=none):s.getT t=none:=by
 rcases h with rfl|⟨rfl,h⟩
 .exact m t rfl
 .exact h
theorem fR{s s':St}(z:s.ge s'){tk:Option Nat}{n:Nat}{e:TypeId}(h:∀t,tk=some t->s.getT t=none):(gs s tk n e).ge s':=by
 cases tk with
 | none=>exact z
 | some t =>
  refine⟨λb o ho=>z.ob b o ho,λu m H=>?_,λx M=>z.ls x M⟩;have B:=z.tk u m H;have G:=h t rfl;simp only[gs,dC];by_cases y:t=u
  .subst y;rw[G]at B;cases B
  .simp only[y,cZ];exact B
theorem gK(s:St)(tk:Option Nat)(n:Nat)(e:TypeId)(t:Nat):(gs s tk n e).getT t=if tk=some t then some (n,e) else s.getT t:=by
 cases tk with
 | none=>rfl
 | some u=>simp only[gs,dC,bV]
theorem aGq{s s':St}{tk:Option Nat}{n:Nat}{e:TypeId}(ho:∀b o,s'.getO b=some o->s.getO b=some o)(hl:∀x,s'.ls=some x->s.ls=some x)
  (u:∀t m,tk≠some t->s'.getT t=some m->s.getT t=some m):(gs s tk n e).ge (gs s' tk n e):=by
 refine⟨λb o h=>by rw[cS]at h⊢;exact ho b o h,λt m h=>?_,λx h=>by cases tk<;>exact hl x h⟩;rw[gK]at h⊢;by_cases e:tk=some t
 .rw[aF e]at h⊢;exact h
 .rw[aD e]at h⊢;exact u t m e h
theorem aGS{s:St}{tk:Option Nat}{n:Nat}{e:TypeId}{t:Nat}{v:Nat × TypeId}(h:tk≠some t):((gs s tk n e).setT t v).ge (gs (s.setT t v) tk n e):=by
 refine⟨λb o h=>by rw[cS]at h;rw[nW,cS];exact h,λu m y=>?_,λx B=>by cases tk<;>exact B⟩;rw[gK,dC]at y;rw[dC,gK];by_cases z:t=u
 .subst z;rw[aD h,aF rfl]at y;rw[aF rfl];exact y
 .rw[aD z]at y⊢;exact y
theorem aI5{Y:St}{t z n:Nat}{u e:TypeId}{v:Nat × TypeId}{x:Option (Nat × Nat × A)}:((((gs Y none z u).setT t v).setT t (n,e)).setL x).ge ((gs Y (some t) n e).setL none):=by
 refine⟨λb o h=>h,λa m h=>?_,λy h=>by cases h⟩;simp only[gs,yN,dC]at h⊢;split at h
 .rename_i e;rw[aF e];exact h
 .rename_i e;rw[aD e,aD e];exact h
theorem aFO{Y:St}{u t H n:Nat}{B e:TypeId}{v:Nat × TypeId}{x:Option (Nat × Nat × A)}(G:Y.getT u=none):(((((gs Y (some u) H B).delT u).setT t v).setT t (n,e)).setL x).ge ((gs Y (some t) n e).setL none):=by
 refine⟨λb o h=>h,λa m h=>?_,λy h=>by cases h⟩;simp only[gs,yN,dC,tL]at h⊢;split at h
 .rename_i e;rw[aF e];exact h
 .rename_i e;rw[aD e];by_cases z:a=u
  .subst z;rw[G]at h;cases h
  .simp only[e,z,Ne.symm z,cZ];exact h
theorem aDF{Y s:St}{u t n:Nat}{e:TypeId}(m:((gs Y (some u) n e).delT u).getT t=none)(z:s.getT u=none)(y:∀t,Y.getT t=s.getT t):s.getT t=none:=by
 by_cases h:t=u
 .subst h;exact z
 .simp only[gs,tL,dC,aD h,aD (Ne.symm h)]at m;rw[<-y];exact m
theorem aJ4{Y s:St}{u t n:Nat}{e:TypeId}{l:Option (Nat × Nat × A)}(m:(((gs Y (some u) n e).setL l).delT u).getT t=none)(y:s.getT u=none)(h:∀t,Y.getT t=s.getT t):s.getT t=none:=aDF (Y:=Y) m y h
theorem aJM{Y Z:St}{u t S n z:Nat}{B e:TypeId}{v:Nat × TypeId}{x l:Option (Nat × Nat × A)}(O:Y.getT u=none)(G:∀b o,Z.getO b=some o->Y.getO b=some o)(H:∀t,Z.getT t=Y.getT t)(M:z=n) :
  ((((((gs Y (some u) S B).setL l).delT u).setT t v).setT t (z,e)).setL x).ge ((gs Z (some t) n e).setL none):=by
 subst M;refine⟨λb o h=>G b o h,λa m h=>?_,λw h=>by cases h⟩;simp only[gs,yN,dC,tL]at h⊢;split at h
 .rename_i e;rw[aF e];exact h
 .rename_i e;rw[H]at h;by_cases y:a=u
  .subst y;rw[O]at h;cases h
  .simp only[e,y,Ne.symm y,cZ];exact h
theorem aGW{Y Z:St}{t n:Nat}{e:TypeId}(u:∀b o,Z.getO b=some o->Y.getO b=some o)(z:∀t,Z.getT t=Y.getT t):((gs Y (some t) n e).setL none).ge ((gs Z (some t) n e).setL none) :=
 ⟨fun b o h => u b o h,fun a m h => by
  simp only[gs,yN,dC]at h⊢;rw[z]at h;exact h,λy h=>by cases h⟩
theorem rN{s:St}{b c:Nat}{o:Ob}(h:(s.setO c o).getO b=none):b≠c/\s.getO b=none:=by
 rw[aL]at h;by_cases e:c=b
 .rw[aF e]at h;cases h
 .rw[aD e]at h;exact⟨λx=>e x.symm,h⟩
theorem kJ(tk:Option Nat)(es:List A)(h:tk=none->es=[]):A.le (gv tk es) (.list none es):=by
 cases tk with
 | none=>rw[h rfl];exact A.le.nil
 | some t=>exact A.le.forget _ _
theorem fB{s s2:St}{t:Nat}{v:Nat × TypeId}(h:s.ge s2):(s.setT t v).ge (s2.setT t v):=by
 refine⟨λb o ho=>h.ob b o ho,λu m y=>?_,λx z=>h.ls x z⟩;rw[dC]at y⊢;split
 .rename_i e;rw[aF e]at y;exact y
 .rename_i e;rw[aD e]at y;exact h.tk u m y
theorem rM{s s2:St}{b:Nat}{o:Ob}(h:s.ge s2):(s.setO b o).ge (s2.setO b o):=by
 refine⟨λc x ho=>?_,λu m y=>h.tk u m y,λx z=>h.ls x z⟩;rw[aL]at ho⊢;split
 .rename_i e;rw[aF e]at ho;exact ho
 .rename_i e;rw[aD e]at ho;exact h.ob c x ho
theorem aBB(s:St)(t:Nat)(v u:Nat × TypeId):((s.setT t v).setT t u).ge (s.setT t u):=by
 refine⟨λb o h=>h,λx m y=>?_,λx h=>h⟩;rw[dC]at y⊢;split
 .rename_i e;rw[aF e]at y;exact y
 .rename_i e;rw[aD e]at y;rw[dC,aD e];exact y
theorem aAn{s:St}{t:Nat}{v:Nat × TypeId}(h:s.getT t=none):(s.setT t v).ge s:=by
 refine⟨λb o h=>h,λx m u=>?_,λx h=>h⟩;rw[dC];by_cases e:t=x
 .subst e;rw[h]at u;cases u
 .rw[aD e];exact u
theorem aR3{X:St}{r q:Nat}{G H z:Ob}(O:X.getO q=none)(_:q≠r):(((X.setO r G).setO q H).setO r z).ge (X.setO r z):=by
 refine⟨λd x h=>?_,λu m M=>M,λx h=>h⟩;rw[aL]at h⊢;by_cases y:r=d
 .rw[aF y]at h⊢;exact h
 .rw[aD y]at h⊢;rw[aL];by_cases B:q=d
  .subst B;rw[O]at h;cases h
  .rw[aD B,aL,aD y];exact h
structure St.gx (s1 s:St) (r:Nat):Prop where
 ob:∀c,c≠r->∀x,s.getO c=some x->s1.getO c=some x
 tk:∀t m,s.getT t=some m->s1.getT t=some m
 ls:∀x,s.ls=some x->s1.ls=some x
theorem fN(s:St)(r:Nat):s.gx s r:=⟨λ_ _ _ h=>h,λ_ _ h=>h,λ_ h=>h⟩
theorem eW{s1 s:St}{r:Nat}{o:Ob}(h:s1.gx s r):(s1.setO r o).gx s r :=
 ⟨λc m x u=>by rw[aL,aD (Ne.symm m)];exact h.ob c m x u,h.tk,h.ls⟩
theorem dH{s1 s:St}{r b:Nat}{o:Ob}(y:s.getO b=none)(h:s1.gx s r):(s1.setO b o).gx s r :=
 ⟨fun c z x u => by
  rw[aL];by_cases m:b=c
  .subst m;rw[y]at u;cases u
  .rw[aD m];exact h.ob c z x u,h.tk,h.ls⟩
theorem aGT{s1 s:St}{r t:Nat}{v:Nat × TypeId}(B:s.getT t=none)(h:s1.gx s r):(s1.setT t v).gx s r :=
 ⟨h.ob,fun u m z => by
  rw[dC];by_cases y:t=u
  .subst y;rw[B]at z;cases z
  .rw[aD y];exact h.tk u m z,h.ls⟩
theorem St.gx.dropT{s1 s:St}{r t:Nat}{v:Nat × TypeId}(h:s1.gx (s.setT t v) r)(B:s.getT t=none):s1.gx s r :=
 ⟨h.ob,fun u m z => h.tk u m (by
  rw[dC];by_cases y:t=u
  .subst y;rw[B]at z;cases z
  .rw[aD y];exact z),h.ls⟩
theorem iK{s1 s:St}{r:Nat}{tk:Option Nat}{n:Nat}{e:TypeId}(h:s1.gx s r)(m:∀t,tk=some t->s.getT t=none):(gs s1 tk n e).gx s r:=by
 cases tk with
 | none=>exact h
 | some t=>exact aGT (m t rfl) h
theorem rL{s1 s:St}{r:Nat}{l:Option (Nat × Nat × A)}(h:s1.gx s r)(hl:l=s.ls):(s1.setL l).gx s r :=
 ⟨h.ob,h.tk,λx m=>by rw[hl];exact m⟩
theorem vC{s1 s:St}{r:Nat}{l m:Option (Nat × Nat × A)}(h:s1.gx s r)(hl:l=s.ls):((s1.setL m).setL l).gx s r:=rL (s1:=s1) h hl
theorem St.gx.trans{s2 s1 s:St}{r:Nat}(h:s2.gx s1 r)(u:s1.gx s r):s2.gx s r :=
 ⟨λc z x y=>h.ob c z x (u.ob c z x y),λt m B=>h.tk t m (u.tk t m B),λx y=>h.ls x (u.ls x y)⟩
theorem St.gx.ge{s1 s:St}{r:Nat}{o:Ob}(h:s1.gx s r)(y:s1.getO r=some o):s1.ge (s.setO r o):=by
 refine⟨λc x m=>?_,h.tk,h.ls⟩;rw[aL]at m;by_cases u:r=c
 .subst u;rw[aF rfl]at m;rw[y];exact m
 .rw[aD u]at m;exact h.ob c (Ne.symm u) x m
def aBi:List A->List A->Prop
 | [],[]=>True
 | a::l,b::r=>xW a.cells b.cells/\aBi l r
 | _,_=>False
theorem aGv:∀{l r:List A},aBi l r->l.length=r.length
 | [],[],_=>rfl
 | _::_,_::_,h=>by simp only[aV,aGv h.2]
theorem aGt:∀{l r:List A},aBi l r->∀(i:Nat) (b:A),r[i]?=some b->∃a:A,l[i]?=some a/\xW a.cells b.cells
 | a::l,b::r,h,0,x,m=>by
  simp only[mO,bV]at m⊢;subst m;exact⟨a,rfl,h.1⟩
 | a::l,b::r,h,i+1,x,m=>by
  simp only[List.getElem?_cons_succ]at m⊢;exact aGt h.2 i x m
 | [],[],_,_,_,m=>by simp at m
theorem A.le.list{l r:List A}(h:aBi l r):A.le (.list none l) (.list none r):=λg v x=>by
 have m:=aGv h;cases x with
 | list tk es b off sz cap pre hp hl G M hs h1 Z ht =>
  rw[m]
  have key:∀e,e∈r->∃(i:Nat) (a:A),l[i]?=some a/\r[i]?=some e/\xW a.cells e.cells:=λe z=>by
   obtain⟨i,B,rfl⟩:=kM z;obtain⟨a,y,u⟩:=aGt h i _ (dI B);exact⟨i,a,y,dI B,u⟩
  refine .list none r b off sz cap pre hp (by rw[<-m];exact hl) (by rw[<-m];exact G) M (λe z=>?_) (λe z c G=>?_) (λi e j c v B H hv=>?_) bA
  .obtain⟨i,a,y,_,u⟩:=key e z;rw[<-aGB u];exact hs a (bK y)
  .obtain⟨i,a,y,_,u⟩:=key e z;obtain⟨j,H,rfl⟩:=kM G;exact(aBZ u j _ (dI H)).choose_spec.2.2
  .obtain⟨a,y,u⟩:=aGt h i e B;obtain⟨O,S,U,_⟩:=aBZ u j c H;exact U g v (Z i a j O v y S hv)
 | list0 tk a cap M ht =>
  have:r=[]:=eS (by rw[<-m];rfl);subst this;exact .list0 none a cap M bA
theorem aKa{C:Cx}{s:St}{f:FuncId}{args:List A}{KV Kp:St->A->Prop}(h:Den C f args (λs' a=>KV (s'.setL s.ls) a) (λs' a=>Kp (s'.setL s.ls) a) s):Den C f args KV Kp s:=by
 intro F g w vals G O;have key:∀(u:Gh) (s':St) (w':World),g.le u->R C.toCtx F u s' w'->R C.toCtx F u (s'.setL s.ls) w':=λu s' w' H M=>M.setL λy S=>(G.lst y S).mono H
 have:=h F g w vals G O;revert this;generalize (callFunc f vals.toArray).run C.P w=r;intro z;cases r with
 | ok x w' =>
  cases x<;>simp only[OutV]at z⊢
  .obtain⟨u,a,s',m,a2,a3,a4⟩:=z;exact⟨u,a,_,m,key _ _ _ m a2,a3,a4⟩
  .obtain⟨u,s',m,a2,a3⟩:=z;exact⟨u,_,m,key _ _ _ m a2,a3⟩
  .refine Calls.mono z λen U B=>?_
   cases en with
   | returned v=>obtain⟨u,a,s',m,a2,a3,a4⟩:=B;exact⟨u,a,_,m,key _ _ _ m a2,a3,a4⟩
   | panicked mK=>obtain⟨u,a,v,s',a0,m,a2,a3,a4⟩:=B;exact⟨u,a,v,_,a0,m,key _ _ _ m a2,a3,a4⟩
   | outgrown=>exact B
 | halt x w' =>
  cases x<;>simp only[OutV]at z⊢
  obtain⟨u,a,s',m,a2,a3,a4⟩:=z;exact⟨u,a,_,m,key _ _ _ m a2,a3,a4⟩
@[go_sem] theorem aV5(s:St)(x y:Option (Nat × Nat × A)):(s.setL x).setL y=s.setL y:=rfl
theorem cW{f:FuncId}{l:List A}{KV Kp:St->A->Prop}{s:St}(h:Den cx f l KV Kp s):Den kY f l KV Kp s:=by assumption
theorem xE{f:FuncId}{l:List A}{KV Kp:St->A->Prop}{s:St}(h:Den cx f l KV Kp s):Den nX f l KV Kp s:=by assumption
theorem rF{X:St}{H Q:Nat->Prop}(k:∀p,H p->Q p)(h:∀p,X.getO p=none->H p:=by(intro p h;(try simp only[cS,iM,dB]at h);exact h)):∀p,X.getO p=none->Q p:=λp e=>k p (h p e)
theorem gHe{p F:Prop}(f:F)(h:F->p:=by(intro f;simp only[aL,fF,nW,cS,dB,fY,reduceIte,f]<;>(first|done|rfl|assumption))):p:=h f
structure St.gel (s1 s:St) (L M:List Nat):Prop where
 ob:∀c,c ∉ L->∀x,s.getO c=some x->s1.getO c=some x
 tk:∀t,t ∉ M->∀m,s.getT t=some m->s1.getT t=some m
 ls:∀x,s.ls=some x->s1.ls=some x
theorem aAy(s:St)(L M:List Nat):s.gel s L M:=⟨λ_ _ _ h=>h,λ_ _ _ h=>h,λ_ h=>h⟩
theorem qW{s1 s:St}(h:s1.gel s [] []):s1.ge s:=⟨λc x y=>h.ob c bA x y,λt m u=>h.tk t bA m u,h.ls⟩
theorem aKy{s1 s:St}{r:Nat}(h:s1.gx s r){L M:List Nat}(z:r∈L):s1.gel s L M :=
 ⟨λc u x B=>h.ob c (λe=>u (e▸z)) x B,λt _ m y=>h.tk t m y,h.ls⟩
theorem aDz{s1 s:St}(h:s1.ge s)(L M:List Nat):s1.gel s L M:=⟨λc _ x y=>h.ob c x y,λt _ m u=>h.tk t m u,h.ls⟩
theorem St.gel.trans{s2 s1 s:St}{L M:List Nat}(h:s2.gel s1 L M)(u:s1.gel s L M):s2.gel s L M :=
 ⟨λc z x y=>h.ob c z x (u.ob c z x y),λt B m G=>h.tk t B m (u.tk t B m G),λx y=>h.ls x (u.ls x y)⟩
theorem wU{s1 s:St}{L M:List Nat}{b:Nat}{o:Ob}(u:s1.getO b=some o)(h:s1.gel s (b::L) M):s1.gel (s.setO b o) L M :=
 ⟨fun c y x m => by
  rw[aL]at m;by_cases e:b=c
  .subst e;rw[aF rfl]at m;rw[u];exact m
  .rw[aD e]at m;exact h.ob c (by simp only[dG,not_or];exact⟨λh=>e h.symm,y⟩) x m,h.tk,h.ls⟩
theorem aSD{s1 s:St}{L M:List Nat}{t:Nat}{v:Nat × TypeId}(z:s1.getT t=some v)(h:s1.gel s L (t::M)):s1.gel (s.setT t v) L M :=
 ⟨h.ob,fun u B m y => by
  rw[dC]at y;by_cases e:t=u
  .subst e;rw[aF rfl]at y;rw[z];exact y
  .rw[aD e]at y;exact h.tk u (by simp only[dG,not_or];exact⟨λh=>e h.symm,B⟩) m y,h.ls⟩
theorem aCn{s1 s:St}{L M:List Nat}{b:Nat}{o:Ob}(u:b∈L)(h:s1.gel s L M):(s1.setO b o).gel s L M :=
 ⟨fun c m x y => by
  rw[aL,aD (λe:b=c=>m (e▸u))];exact h.ob c m x y,h.tk,h.ls⟩
theorem wY{s1 s:St}{L M:List Nat}{b:Nat}{o:Ob}(u:s.getO b=none)(h:s1.gel s L M):(s1.setO b o).gel s L M :=
 ⟨fun c y x m => by
  rw[aL];by_cases e:b=c
  .subst e;rw[u]at m;cases m
  .rw[aD e];exact h.ob c y x m,h.tk,h.ls⟩
theorem aTy{s1 s:St}{L M:List Nat}{t:Nat}{v:Nat × TypeId}(u:t∈M)(h:s1.gel s L M):(s1.setT t v).gel s L M :=
 ⟨h.ob,fun c m x y => by
  rw[dC,aD (λe:t=c=>m (e▸u))];exact h.tk c m x y,h.ls⟩
theorem aKR{s1 s:St}{L M:List Nat}{t:Nat}{v:Nat × TypeId}(u:s.getT t=none)(h:s1.gel s L M):(s1.setT t v).gel s L M :=
 ⟨h.ob,fun c y x m => by
  rw[dC];by_cases e:t=c
  .subst e;rw[u]at m;cases m
  .rw[aD e];exact h.tk c y x m,h.ls⟩
theorem aLf{s1 s:St}{L M:List Nat}{b:Nat}(u:s.getO b=none)(h:s1.gel s (b::L) M):s1.gel s L M :=
 ⟨fun c y x m => h.ob c (by
  simp only[dG,not_or];exact⟨λe=>(by subst e;rw[u]at m;cases m),y⟩) x m,h.tk,h.ls⟩
theorem aMM{s1 s:St}{L M:List Nat}{tk:Option Nat}{n:Nat}{e:TypeId}(h:s1.gel s L M)(m:∀t,tk=some t->s.getT t=none):(gs s1 tk n e).gel s L M:=by
 cases tk with
 | none=>exact h
 | some t=>exact aKR (m t rfl) h
theorem aDr{s1 s:St}{L M:List Nat}{tk:Option Nat}{n:Nat}{e:TypeId}(m:∀t,tk=some t->s1.getT t=some (n,e))(h:s1.gel s L (tk.toList++M)):s1.gel (gs s tk n e) L M:=by
 cases tk with
 | none=>exact h
 | some t=>exact aSD (m t rfl) h
theorem aDs{s1 s:St}{L M:List Nat}{tk:Option Nat}{n:Nat}{e:TypeId}(h:s1.gel s L M):(gs s1 tk n e).gel (gs s tk n e) L M:=by
 cases tk with
 | none=>exact h
 | some t =>
  refine⟨h.ob,λu z m y=>?_,h.ls⟩;simp only[gs,dC]at y⊢;split
  .rename_i e;rw[aF e]at y;exact y
  .rename_i e;rw[aD e]at y;exact h.tk u z m y
theorem wX{s1:St}{tk:Option Nat}{n:Nat}{e:TypeId}:∀t,tk=some t->(gs s1 tk n e).getT t=some (n,e):=by
 rintro t rfl;rw[gK,aF rfl]
@[go_sem] theorem getT_setO(s:St)(b:Nat)(o:Ob)(t:Nat):(s.setO b o).getT t=s.getT t:=rfl
theorem gB1{s1 s:St}{L M:List Nat}{tk:Option Nat}{n:Nat}{e:TypeId}(h:s1.gel s L (tk.toList++M))(m:∀t,tk=some t->s1.getT t=some (n,e):=by(rintro _ ⟨⟩;simp only[getT_setO,yN,dC,tL,gK,reduceIte,aH,aV,aZ,aO,iQ,lD]<;>fail)):s1.gel (gs s tk n e) L M:=aDr m h
theorem gB2{s1 s:St}{L M:List Nat}{t:Nat}{v:Nat × TypeId}(h:s1.gel s L M)(m:t∈M:=by(simp only[Option.toList,dY,dD,dG,true_or,or_true]<;>fail)):(s1.setT t v).gel s L M:=aTy m h
theorem gB3{s1 s:St}{L M:List Nat}{b:Nat}{o:Ob}(h:s1.gel s L M)(m:b∈L:=by(simp only[dG,true_or,or_true]<;>fail)):(s1.setO b o).gel s L M:=aCn m h
abbrev eR:=Option Nat × Nat × TypeId
def dR(s:St):List eR->St
 | []=>s
 | o::l=>gs (dR s l) o.1 o.2.1 o.2.2
structure OwnOk (s:St) (l:List eR):Prop where
 free:∀o,o∈l->∀t,o.1=some t->s.getT t=none
 nil:∀o,o∈l->o.1=none->o.2.1=0
 dst:∀(i j:Nat) (a b:eR) (t:Nat),l[i]?=some a->l[j]?=some b->a.1=some t->b.1=some t->i=j
@[go_sem] theorem aT(s:St)(l:List eR)(b:Nat):(dR s l).getO b=s.getO b:=by
 induction l with
 | nil=>rfl
 | cons o l h=>simp only[dR,cS,h]
@[go_sem] theorem yU(s:St)(l:List eR)(b:Nat)(o:Ob):(dR s l).setO b o=dR (s.setO b o) l:=by
 induction l with
 | nil=>rfl
 | cons a l h=>simp only[dR,aCf,h]
theorem aEm(s:St)(tk:Option Nat)(n:Nat)(e:TypeId):(gs s tk n e).ls=s.ls:=by cases tk<;>rfl
@[go_sem] theorem zJ(s:St)(l:List eR):(dR s l).ls=s.ls:=by
 induction l with
 | nil=>rfl
 | cons o l h=>simp only[dR,aEm,h]
theorem tT(s:St)(l:List eR)(u:Nat):(dR s l).getT u=match l.find? (λo=>decide (o.1=some u))with|some o=>some o.2|none=>s.getT u:=by
 induction l with
 | nil=>rfl
 | cons o l m =>
  simp only[dR,gK,List.find?];by_cases h:o.1=some u
  .simp only[h,dF,aBJ]
  .simp only[h,cZ,aBC,m]
theorem aIt{s:St}{l:List eR}(h:OwnOk s l){k:Nat}{o:eR}(u:l[k]?=some o){t:Nat}(z:o.1=some t):(dR s l).getT t=some o.2:=by
 rw[tT];cases y:l.find? (λo=>decide (o.1=some t))with
 | none =>
  have:=sE.1 y o (bK u);simp[z]at this
 | some a =>
  have B:=List.find?_some y;have G:=uT y;obtain⟨j,H,rfl⟩:=kM G;have m:l[j]?=some l[j]:=dI H;have:=h.dst j k _ _ t m u (gQ B) z;subst this;rw[m]at u;cases u;rfl
theorem aJq{s:St}{l:List eR}{t:Nat}(h:∀o,o∈l->o.1≠some t):(dR s l).getT t=s.getT t:=by
 rw[tT,sE.2 (λo ho=>by simpa using h o ho)]
theorem xB{s:St}{l:List eR}(h:OwnOk s l){k:Nat}{o:eR}(m:l[k]?=some o):iV (dR s l) o.1 o.2.1 o.2.2:=by
 obtain⟨tk,n,e⟩:=o;cases tk with
 | none=>exact h.nil _ (bK m) rfl
 | some t=>exact aIt h m rfl
theorem OwnOk.to{s X:St}{l:List eR}(h:OwnOk s l)(m:∀t,X.getT t=s.getT t):OwnOk X l:=⟨λo ho t u=>by rw[m];exact h.free o ho t u,h.nil,h.dst⟩
theorem qS{s X:St}{l:List eR}(h:OwnOk s l){k:Nat}{o:eR}(u:l[k]?=some o)(m:∀t,X.getT t=s.getT t):iV (dR X l) o.1 o.2.1 o.2.2:=xB (h.to m) u
theorem pN{s X:St}{l:List eR}(h:OwnOk s l){k:Nat}{o:eR}(S:l[k]?=some o){t:Nat}
  (ht:o.1=some t\/o.1=none/\(dR X l).getT t=none)(hX:∀t,X.getT t=s.getT t)(n:Nat):OwnOk s (l.set k (some t,n,o.2.2)):=by
 have y:s.getT t=none/\∀(j:Nat) (a:eR),l[j]?=some a->a.1=some t->j=k:=by
  rcases ht with e|⟨e,z⟩
  .exact⟨h.free o (bK S) t e,λj a m B=>h.dst j k a o t m S B e⟩
  .rw[tT]at z;cases Z:l.find? (λo=>decide (o.1=some t))with
   | some a=>rw[Z]at z;cases z
   | none =>
    rw[Z]at z;refine⟨by rw[<-hX];exact z,λj a m B=>?_⟩;have:=sE.1 Z a (bK m);simp[B]at this
 have M:k<l.length:=by
  rcases aIQ k l.length with h|h
  .exact h
  .rw[uU h]at S;cases S
 refine⟨λa m u hu=>?_,λa m hn=>?_,λi j a b u G H m U=>?_⟩
 .rcases aAg m with m|rfl
  .exact h.free a m u hu
  .cases hu;exact y.1
 .rcases aAg m with m|rfl
  .exact h.nil a m hn
  .cases hn
 .rw[uX]at G H;split at G<;>split at H
  .rename_i O z;rw[<-O,<-z]
  .rename_i O z
   try rw[aF M]at G
   cases G;cases m;exact(z (y.2 j b H U).symm).elim
  .rename_i O z
   try rw[aF M]at H
   cases H;cases U;exact(O (y.2 i a G m).symm).elim
  .exact h.dst i j a b u G H m U
theorem pL{s X:St}{l:List eR}(h:OwnOk s l){k:Nat}{o:eR}(hk:l[k]?=some o){t n:Nat}(h':OwnOk s (l.set k (some t,n,o.2.2)))
  (hX:∀t,X.getT t=s.getT t):((dR X l).setT t (n,o.2.2)).ge (dR X (l.set k (some t,n,o.2.2))):=by
 have b0:k<l.length:=by
  rcases aIQ k l.length with h|h
  .exact h
  .rw[uU h]at hk;cases hk
 have B:(l.set k (some t,n,o.2.2))[k]?=some (some t,n,o.2.2):=by rw[uX,aF rfl,aF b0]
 refine⟨λb o h=>by rw[aT]at h;rw[nW,aT];exact h,λu m H=>?_,λx hx=>by rw[zJ]at hx;show(dR X l).ls=_;rw[zJ];exact hx⟩;rw[dC];rw[tT]at H;cases S:(l.set k (some t,n,o.2.2)).find? (λo=>decide (o.1=some u))with
 | some a =>
  rw[S]at H;have M:=List.find?_some S;have h2:=uT S;simp only[bW]at M;obtain⟨j,hj,e⟩:=kM h2;have y:(l.set k (some t,n,o.2.2))[j]?=some a:=by rw[dI hj,e]
  by_cases G:t=u
  .subst G;have:=h'.dst j k a _ t y B M rfl;subst this;rw[y]at B;cases B;rw[aF rfl];exact H
  .rw[aD G]
   have Z:k≠j:=λe=>by
    subst e;rw[y]at B;cases B;exact G (gQ M)
   rw[uX,aD Z]at y
   have h3:(dR X l).getT u=some a.2:=by
    rw[tT];cases z:l.find? (λo=>decide (o.1=some u))with
    | none =>
     have:=sE.1 z a (bK y);simp[M]at this
    | some c =>
     have O:=List.find?_some z;simp only[bW]at O;obtain⟨i,hi,e⟩:=kM (uT z);have U:l[i]?=some c:=by rw[dI hi,e]
     have:=h.dst i j c a u U y O M;subst this;rw[U]at y;cases y;rfl
   rw[h3];exact H
 | none =>
  rw[S]at H;have b1:=sE.1 S
  have G:¬ t=u:=λe=>by
   have:=b1 _ (bK B);simp[e]at this
  rw[aD G,tT];cases z:l.find? (λo=>decide (o.1=some u))with
  | none=>exact H
  | some c =>
   have O:=List.find?_some z;simp only[bW]at O;have:=h.free c (uT z) u O;rw[<-hX]at this;have H:X.getT u=some m:=H;rw[this]at H;cases H
theorem kT{X Y:St}{l:List eR}(h:X.ge Y):(dR X l).ge (dR Y l):=by
 induction l with
 | nil=>exact h
 | cons o l m=>exact qW (aDs (aDz m _ _))
theorem aLL{X s:St}{l:List eR}{L M:List Nat}(m:∀o,o∈l->∀t,o.1=some t->s.getT t=none)(h:X.gel s L M):(dR X l).gel s L M:=by
 induction l with
 | nil=>exact h
 | cons o l y=>exact aMM (y λa u=>m a (by simp[u])) (m o bA)
theorem aHb{X s:St}{l:List eR}{r:Nat}(m:∀o,o∈l->∀t,o.1=some t->s.getT t=none)(h:X.gx s r):(dR X l).gx s r:=by
 induction l with
 | nil=>exact h
 | cons o l y=>exact iK (y λa u=>m a (by simp[u])) (m o bA)
theorem aLC{s:St}{l:List eR}{s2:St}(m:s.ge s2)(h:∀o,o∈l->∀t,o.1=some t->s2.getT t=none):(dR s l).ge s2:=qW (aLL h (aDz m _ _))
theorem kD{X:St}{H Q:Nat->Prop}(k:∀p,H p->Q p)(h:∀p,X.getO p=none->H p:=by(intro p h;(try simp only[aT,cS,iM,dB]at h);exact h)):∀p,X.getO p=none->Q p:=λp e=>k p (h p e)
theorem aKZ{α:Type}(p:α->Bool)(a:α)(m:p a=false):∀(l:List α) (k:Nat),(∀x,l[k]?=some x->p x=false)->(l.set k a).find? p=l.find? p
 | [],k,h=>by simp
 | x::l,0,h=>by
  have:=h x bA;simp only[yK,List.find?,m,this]
 | x::l,k+1,h=>by
  have z:=aKZ p a m l k (λy u=>h y (gQ u));simp only[wG,List.find?,z]
theorem aKg{s X:St}{l:List eR}(h:OwnOk s l){k:Nat}{o:eR}(y:l[k]?=some o)(n:Nat)(e:TypeId)(u:Nat) :
  (gs (dR X (l.set k (none,n,e))) o.1 o.2.1 o.2.2).getT u=(dR X l).getT u:=by
 rw[gK];by_cases ho:o.1=some u
 .rw[aF ho,tT];cases z:l.find? (λo=>decide (o.1=some u))with
  | none =>
   have:=sE.1 z o (bK y);simp[ho]at this
  | some a =>
   have H:=List.find?_some z;obtain⟨j,M,G⟩:=kM (uT z);have m:l[j]?=some a:=by rw[dI M,G]
   have:=h.dst j k a o u m y (gQ H) ho;subst this;rw[m]at y;cases y;rfl
 .rw[aD ho,tT,tT,aKZ _ _ bA l k (λx B=>by rw[y]at B;cases B;simpa using ho)]
theorem aKG{s X:St}{l:List eR}(h:OwnOk s l){k:Nat}{o:eR}(G:l[k]?=some o)(n:Nat)(e:TypeId) :
  (dR X l).ge (gs (dR X (l.set k (none,n,e))) o.1 o.2.1 o.2.2) :=
 ⟨λb x y=>by rw[cS,aT]at y;rw[aT];exact y,λu m z=>by rw[aKg h G]at z;exact z,λx B=>by rw[aEm,zJ]at B;rw[zJ];exact B⟩
theorem aLe{s X:St}{l:List eR}{k:Nat}{tk:Option Nat}{m:Nat}{e:TypeId}(G:k<l.length)(h:OwnOk s (l.set k (tk,m,e)))(n:Nat)(e':TypeId) :
  (gs (dR X (l.set k (none,n,e'))) tk m e).ge (dR X (l.set k (tk,m,e))):=by
 have y:(l.set k (tk,m,e))[k]?=some (tk,m,e):=by rw[uX,aF rfl,aF G]
 have key:=aKg (X:=X) h y n e';rw[List.set_set]at key;exact⟨λb x z=>by rw[aT]at z;rw[cS,aT];exact z,λu q H=>by rw[key];exact H,λx B=>by rw[zJ]at B;rw[aEm,zJ];exact B⟩
theorem aMj{s X:St}{l:List eR}(h:OwnOk s l){k:Nat}{o:eR}(y:l[k]?=some o)(n:Nat)(e:TypeId)(H:∀t,X.getT t=s.getT t){t:Nat}(z:o.1=some t):(dR X (l.set k (none,n,e))).getT t=none:=by
 rw[aJq,H]
 .exact h.free o (bK y) t z
 .intro a M u;obtain⟨j,O,B⟩:=kM M;have m:(l.set k (none,n,e))[j]?=some a:=by rw[dI O,B]
  rw[uX]at m;split at m
  .split at m
   .cases m;cases u
   .cases m
  .rename_i G;exact G (h.dst j k a o t m y u z).symm
theorem aK7{s X:St}{l:List eR}(h:OwnOk s l){k:Nat}(hk:k<l.length)(n:Nat)(e e':TypeId)(hX:∀t,X.getT t=s.getT t){tk:Option Nat}{m:Nat}
  (hf:∀t,tk=some t->(dR X (l.set k (none,n,e'))).getT t=none)(hn:tk=none->m=0):OwnOk s (l.set k (tk,m,e)):=by
 have key:∀t,tk=some t->s.getT t=none/\∀(j:Nat) (a:eR),j≠k->l[j]?=some a->a.1≠some t:=by
  intro t ht;have M:=hf t ht;rw[tT]at M;cases Z:(l.set k (none,n,e')).find? (λo=>decide (o.1=some t))with
  | some a=>rw[Z]at M;cases M
  | none =>
   rw[Z]at M;refine⟨by rw[<-hX];exact M,λj a z y S=>?_⟩;have h2:(l.set k (none,n,e'))[j]?=some a:=by rw[uX,aD (λe=>z e.symm)];exact y
   have:=sE.1 Z a (bK h2);simp[S]at this
 refine⟨λa y u hu=>?_,λa y O=>?_,λi j a b u B z y U=>?_⟩
 .rcases aAg y with y|rfl
  .exact h.free a y u hu
  .exact(key u hu).1
 .rcases aAg y with y|rfl
  .exact h.nil a y O
  .exact hn O
 .rw[uX]at B z;by_cases G:k=i<;>by_cases H:k=j
  .rw[<-G,<-H]
  .rw[aF G,aF hk]at B;rw[aD H]at z;cases B;exact((key u y).2 j b (λe=>H e.symm) z U).elim
  .rw[aD G]at B;rw[aF H,aF hk]at z;cases z;exact((key u U).2 i a (λe=>G e.symm) B y).elim
  .rw[aD G]at B;rw[aD H]at z;exact h.dst i j a b u B z y U
end Go.AV
section
open Go.Proofs.Tryz
namespace Go.AV
open Go Go.Proofs
end Go.AV
end
namespace Go.AV
open Go Go.Proofs Tryz
section
theorem gH{p:Prop}(h:p:=by(simp only[aL,fF,nW,cS,aT,dB,fY,reduceIte, *]<;>(first|done|rfl|assumption))):p:=h
theorem aR{s1 s:St}(h:s1.ge s:=by(repeat (first|exact aE _|refine bG (by first|(simp only[*];done)|assumption) ?_))):s1.ge s:=h
theorem bC{s1 s:St}{r:Nat}(h:s1.gx s r:=by(repeat (first|refine aHb (by assumption) ?_|exact fN _ _|refine eW ?_|refine iK ?_ (by assumption)|refine aGT (by assumption) ?_|refine dH (by first|(simp only[*];done)|assumption) ?_|refine aGT (by first|(simp only[*];done)|assumption) ?_))):s1.gx s r:=h
theorem mN{s1 s:St}{L M:List Nat}(h:s1.gel s L M:=by(repeat (first|exact aAy _ _ _|exact aDz (by assumption) _ _|refine aLL (by assumption) ?_|refine aDs ?_|refine aDr wX ?_|refine gB1 ?_|refine gB2 ?_|refine aMM ?_ (by assumption)|refine aKR (by assumption) ?_|refine wU gH ?_|refine gB3 ?_|refine wY (by first|(simp only[*];done)|assumption) ?_))):s1.gel s L M:=h
theorem cD{s1 s:St}(h:s1.gel s [] []:=by exact mN):s1.ge s:=qW h
theorem aN{f:FuncId}{c:Code}{args:List A}{KV Kp:St->A->Prop}{s:St}{fn:Func}(y:cx.P.funcs[f]?=some fn)(V:List Nat)
  (h:fS cx fn.ntmps V c (lW cx fn.results.toList (DK KV) (DK Kp)) (oN 0 args) s)
  (u:fn.body=some c:=by exact rfl)
  (m : (fn.name == "runtime.NumGoroutine") = false := by exact rfl) (z : args.length ≤ fn.ntmps := by exact jO rfl) : Den cx f args KV Kp s :=
 Den.drop (aBG y u m z (aX _ _ _ _ h))
theorem uQ{f:FuncId}{c:Code}{args:List A}{KV Kp:St->A->Prop}{s:St}{fn:Func}(y:kY.P.funcs[f]?=some fn)(V:List Nat)
  (h:fS kY fn.ntmps V c (lW kY fn.results.toList (DK KV) (DK Kp)) (oN 0 args) s)
  (u:fn.body=some c:=by exact rfl)
  (m : (fn.name == "runtime.NumGoroutine") = false := by exact rfl) (z : args.length ≤ fn.ntmps := by exact jO rfl) : Den cx f args KV Kp s :=
 Den.drop (aMi (aBG (C:=kY) y u m z (aX _ _ _ _ h)))
theorem aJ{P:Option A->Prop}{b:Bool}(h:b=true->P (some (.bool true)))(m:b=false->P (some (.bool false))):P (some (.bool b)):=by
 cases b
 .exact m rfl
 .exact h rfl
def OT.r:Nat->Nat->OT
 | _,0=>.nil
 | i,k+1=>.node i (OT.r (i+1) k)
attribute [go_sem] OT.r
section
variable {C:Cx} {n:Nat} {ops:Array Oper} {s:St} {Kp:St->A->Prop} {id:Nat} {V:List Nat} {Q0:XK->Env->St->Prop} {e:Env}
theorem bD(t:OT)(E:List (Nat × List Nat))
  (h:iP C n (ops.toList.map (·.dst)) ops.toList E (nB V Q0) (aAc Q0 (ops.toList.map (·.dst)) e) t [] e s)
  (u:C.P.follows .mixedOrders=true:=by exact aSh)
  (m:(okE ops E&&rG ops ops.size (Array.replicate ops.size false) t&&aD8 C.tt ops)=true:=by decide +kernel) :
  aEn C n id ops (kX (nB V Q0) Q0) e s:=aTo t E u m h
end
end
theorem aIH(s:St)(c:Int)(KV Kp)(m:KV s (.bool (mJ c))):Den cx 112 [.int .u8 c] KV Kp s:=by
 unfold mJ at m;(refine aN func112 [0,2] ?_;simp only[go_sem,ntmps112,f112])
 (repeat' (first|exact aG m aR|((apply aJ<;>intro h)<;>simp only[go_sem,h]<;>(try simp only[h,dW,gB,eU,iZ,lM,jT,jA,gW,fP,iB]at m))))
theorem aDe(s:St)(c:Int)(KV Kp)(m:KV s (.bool (jW c))):Den cx 113 [.int .u8 c] KV Kp s:=by
 unfold jW at m;(refine aN func113 [0,2] ?_;simp only[go_sem,ntmps113,f113])
 (repeat' (first|exact aG m aR|(refine aIH _ _ _ _ ?_;simp only[go_sem])|((apply aJ<;>intro h)<;>simp only[go_sem,h]<;>(try simp only[h,dW,gB,eU,iZ,lM,jT,jA,gW,fP,iB]at m))))
theorem tO(s:St)(x:List UInt8)(KV Kp)(B:KV s (.bool (cP x))):Den cx 52 [.str x] KV Kp s:=by
 (refine aN func52 [0,2,3,16,18,19,20,26] ?_;simp only[go_sem,ntmps52,f52])
 (apply aJ<;>intro h)<;>simp only[go_sem,h]
 .have:x=[]:=gQ h;subst this;exact aP B
 have O:x≠[]:=gQ h;obtain⟨c,r,z⟩:=List.exists_cons_of_ne_nil O
 (apply aJ<;>intro h)<;>simp only[go_sem,h]
 .have u:¬ x.length<=40:=by simp at h;omega
  have:cP x=false:=by rw[z]at u⊢;simp only[cP,u,aBC,gB]
  exact aP (by rwa[this]at B)
 have u:x.length<=40:=by simp at h;omega
 have U:x[0]?=some c:=by rw[z];rfl
 have M:0<x.length:=by rw[z];exact Nat.zero_lt_succ _
 simp only[go_sem,U,M];refine aIH _ _ _ _ ?_;simp only[go_sem]
 (apply aJ<;>intro h)<;>simp only[go_sem,h]
 .have:cP x=false:=by
   have:mJ c.toNat=false:=gQ h;rw[z];simp[cP,this]
  exact aP (by rwa[this]at B)
 have hl:mJ c.toNat=true:=gQ h
 refine Ex.loop (λi=>[(0,.str x),(18,.int .i64 x.length),(19,.int .i64 (i:Nat))]) (λ_=>s)
  (λi=>i<=x.length/\∀d∈x.take i,jW d.toNat=true) (λi=>x.length-i) 0 ⟨aW _,by simp⟩ ?_ (aE s) ?_
 .simp only[go_sem];rfl
 .rintro i ⟨Z,m⟩;refine aX (V:=[0,2,3,16,18,19,20,26]) _ _ _ _ ?_;simp only[go_sem]
  (apply aJ<;>intro h)<;>simp only[go_sem,h]
  .have y:i<x.length:=gQ h;obtain⟨d,H⟩:=bB y;simp only[go_sem,H,y];refine aDe _ _ _ _ ?_;simp only[go_sem]
   (apply aJ<;>intro h)<;>simp only[go_sem,h]
   .have S:jW d.toNat=false:=gQ h
    have:cP x=false:=by
     rw[z]at H⊢;simp only[cP,Bool.and_eq_false_iff];refine .inr (.inr (jQ.2 λm=>?_));rw[dE]at m;have:=m d (bK H);rw[S]at this;cases this
    exact aP (by rwa[this]at B)
   .have S:jW d.toNat=true:=gQ h;refine⟨i+1,⟨by omega,?_⟩,by omega,?_,aE s⟩
    .intro q G;rw[gJ,H]at G;simp only[cK,Option.toList_some,bO]at G;rcases G with G|rfl
     .exact m q G
     .exact S
    .simp only[go_sem,aU i aB]
  .have y:i=x.length:=by simp at h;omega
   have:cP x=true:=by
    rw[y,bT]at m;rw[z]at m u⊢;simp only[cP,hl,dE,bP,bW];exact⟨u,trivial,m⟩
   exact aP (by rwa[this]at B)
theorem aJA {C : Cx} {f : FuncId} {fn : Func} {e : Array Value → Sem Value} (M : C.P.funcs[f]? = some fn) (m : (fn.name == "runtime.NumGoroutine") = false)
  (G:fn.body.isNone=true)(O:Extern.findNext fn=none)(H:Extern.find fn=some e){args:List A}{s:St}{KV Kp:St->A->Prop}
  (h:∀g vals,Rzs g args vals->∃v a,(∀w,(e vals.toArray).run C.P w=.ok v w)/\Rz g a v/\KV s a):Den C f args KV Kp s:=by
 intro F g w vals B S;obtain⟨v,a,u,y,z⟩:=h g vals S;rw[run_callFunc_extern M m G O H,u];exact⟨g,a,s,fJ g,B,y,z⟩
theorem Rzs.two{g:Gh}{a b:A}{vals:List Value}(h:Rzs g [a,b] vals):∃u v,vals=[u,v]/\Rz g a u/\Rz g b v:=by
 have hl:=h.1
 match vals,hl with
 | [u,v],_=>exact⟨u,v,rfl,h.2 0 a u rfl rfl,h.2 1 b v rfl rfl⟩
theorem aNS(s:St)(x:aC)(c:UInt8)(KV Kp)(h:KV s (.int .i64 (Lib.indexByte x c))):Den cx 284 [.str x,.int .u8 c.toNat] KV Kp s:=by
 refine aJA (C:=cx) func284 rfl rfl rfl (e:=Extern.BytealgIndexByte.indexByte) (by kernel_rfl) λg vals m=>?_
 obtain⟨u,v,rfl,y,z⟩:=m.two;rw[y.str_inv,z.int_inv];refine⟨_,_,λw=>Lib.run_indexByteString _ _ w,.int _ _,?_⟩;simpa using h
theorem aOE(s:St)(x:aC)(c:UInt8)(KV Kp)(h:KV s (.int .i64 (x.count c:Nat))):Den cx 254 [.str x,.int .u8 c.toNat] KV Kp s:=by
 refine aJA (C:=cx) func254 rfl rfl rfl (e:=Extern.BytealgCount.count) (by kernel_rfl) λg vals m=>?_
 obtain⟨u,v,rfl,y,z⟩:=m.two;rw[y.str_inv,z.int_inv];refine⟨_,_,λw=>Lib.run_countString _ _ w,.int _ _,?_⟩;simpa [Lib.countByte]using h
theorem aNU(s:St)(x:aC)(c:UInt8)(KV Kp)(m:KV s (.int .i64 (Lib.indexByte x c))):Den cx 269 [.str x,.int .u8 c.toNat] KV Kp s:=by
 (refine aN func269 [0,1,4] ?_;simp only[go_sem,ntmps269,f269])
 (repeat' (first|exact aG m aR|(refine aNS _ _ _ _ _ ?_;simp only[go_sem])|((apply aJ<;>intro h)<;>simp only[go_sem,h]<;>(try simp only[h,dW,gB,eU,iZ,lM,jT,jA,gW,fP,iB]at m))))
theorem aCZ(s:St)(x:aC)(c:UInt8)(KV Kp)(m:KV s (.int .i64 (Lib.indexByte x c))):Den cx 238 [.str x,.int .u8 c.toNat] KV Kp s:=by
 (refine aN func238 [0,1,4] ?_;simp only[go_sem,ntmps238,f238])
 (repeat' (first|exact aG m aR|(refine aNU _ _ _ _ _ ?_;simp only[go_sem])|((apply aJ<;>intro h)<;>simp only[go_sem,h]<;>(try simp only[h,dW,gB,eU,iZ,lM,jT,jA,gW,fP,iB]at m))))
theorem aOl(s:St)(x p:aC)(KV Kp)(m:KV s (.bool (qX x p))):Den cx 299 [.str x,.str p] KV Kp s:=by
 unfold qX at m;(refine aN func299 [0,1,4] ?_;simp only[go_sem,ntmps299,f299])
 (apply aJ<;>intro h)<;>simp only[go_sem,h]<;>(try simp only[h,dW,gB,eU,iZ,lM,jT,jA,gW,fP,iB]at m)
 .have hl:p.length<=x.length:=gQ h;simp only[go_sem,hl];exact aP m
 .exact aP m
theorem aIm(s:St)(x p:aC)(KV Kp)(m:KV s (.bool (qX x p))):Den cx 285 [.str x,.str p] KV Kp s:=by
 (refine aN func285 [0,1,4] ?_;simp only[go_sem,ntmps285,f285])
 (repeat' (first|exact aG m aR|(refine aOl _ _ _ _ _ ?_;simp only[go_sem])|((apply aJ<;>intro h)<;>simp only[go_sem,h]<;>(try simp only[h,dW,gB,eU,iZ,lM,jT,jA,gW,fP,iB]at m))))
theorem aNW(s:St)(x:aC)(c:UInt8)(KV Kp)(S:x.length<=4294967296)(y:KV s (.int .i64 (pR x c x.length))):Den cx 256 [.str x,.int .u8 c.toNat] KV Kp s:=by
 (refine aN func256 [0,1,4,5,10,17] ?_;simp only[go_sem,ntmps256,f256]);rw[fV _ aB aB]
 refine Ex.loop (λn=>[(0,.str x),(1,.int .u8 c.toNat),(5,.int .i64 ((n:Nat)-1:Int))]) (λ_=>s)
  (λn=>n<=x.length/\pR x c x.length=pR x c n) (λn=>n) x.length ⟨bJ _,rfl⟩ ?_ (aE s) ?_
 .simp only[go_sem]
 .rintro n ⟨O,B⟩;refine aX (V:=[0,1,4,5,10,17]) _ _ _ _ ?_;simp only[go_sem]
  (apply aJ<;>intro h)<;>simp only[go_sem,h]
  .obtain⟨m,rfl⟩:∃m,n=m+1:=⟨n-1,by simp at h;omega⟩
   have H:(((m+1:Nat):Int)-1)=(m:Int):=by omega
   have G:m<x.length:=by omega
   obtain⟨d,z⟩:=bB G;simp only[go_sem,H,G,z]
   (apply aJ<;>intro h)<;>simp only[go_sem,h]
   .have u:d=c:=by
     have:d.toNat=c.toNat:=gQ h;exact rJ.1 this
    subst u;rw[B,pR,aF z]at y;exact aP y
   .have u:¬ d=c:=by
     rintro rfl;simp at h
    rw[fV _ aB aB];refine⟨m,⟨by omega,?_⟩,by omega,?_,aE s⟩
    .rw[B,pR,aD (by rw[z];simpa using u)]
    .simp only[go_sem]
  .have M:n=0:=by simp at h;omega
   subst M;rw[B,pR]at y;exact aP y
theorem aN0(s:St)(x:aC)(c:UInt8)(KV Kp)(u:x.length<=4294967296)(m:KV s (.int .i64 (pR x c x.length))):Den cx 214 [.str x,.int .u8 c.toNat] KV Kp s:=by
 (refine aN func214 [0,1,4] ?_;simp only[go_sem,ntmps214,f214])
 (repeat' (first|exact aG m aR|(refine aNW _ _ _ _ _ u ?_;simp only[go_sem])|((apply aJ<;>intro h)<;>simp only[go_sem,h]<;>(try simp only[h,dW,gB,eU,iZ,lM,jT,jA,gW,fP,iB]at m))))
theorem aJl(s:St)(c:Int)(KV Kp)(m:KV s (.bool (lT c))):Den cx 287 [.int .u8 c] KV Kp s:=by
 unfold lT at m;(refine aN func287 [0,2] ?_;simp only[go_sem,ntmps287,f287])
 (repeat' (first|exact aG m aR|((apply aJ<;>intro h)<;>simp only[go_sem,h]<;>(try simp only[h,dW,gB,eU,iZ,lM,jT,jA,gW,fP,iB]at m))))
theorem aLN(s:St)(x:aC)(f:FuncId)(p:UInt8->Bool)(KV Kp)(O:x.length<=4294967296)
  (H:∀(c:UInt8) KV Kp,KV s (.bool (p c))->Den cx f [.int .u8 c.toNat] KV Kp s)
  (y:KV s (.int .i64 (x.takeWhile p).length)):Den cx 286 [.str x,.fn f [] []] KV Kp s:=by
 (refine aN func286 [0,1,4,5,16] ?_;simp only[go_sem,ntmps286,f286])
 refine Ex.loop (λn=>[(0,.str x),(1,.fn f [] []),(5,.int .i64 (n:Nat))]) (λ_=>s)
  (λn=>n<=x.length/\(x.takeWhile p).length=n+((x.drop n).takeWhile p).length) (λn=>x.length-n) 0 ⟨aW _,by simp⟩ ?_ (aE s) ?_
 .simp only[go_sem];rfl
 .rintro n ⟨M,B⟩;refine aX (V:=[0,1,4,5,16]) _ _ _ _ ?_;simp only[go_sem]
  (apply aJ<;>intro h)<;>simp only[go_sem,h]
  .have m:n<x.length:=gQ h;obtain⟨d,z⟩:∃d,x[n]?=some d:=⟨_,dI m⟩
   have u:x.drop n=d::x.drop (n+1):=by
    rw[oZ m];congr 1;rw[dI m]at z;simpa using z
   simp only[go_sem,z,m];refine H _ _ _ ?_;simp only[go_sem]
   (apply aJ<;>intro h)<;>simp only[go_sem,h]
   .have G:p d=true:=gQ h;refine⟨n+1,⟨by omega,?_⟩,by omega,?_,aE s⟩
    .rw[B,u,List.takeWhile_cons_of_pos G,aV];omega
    .simp only[go_sem,aU n aB]
   .have G:¬ p d=true:=by simp[h]
    rw[B,u,List.takeWhile_cons_of_neg G]at y;exact aP (gQ y)
  .have m:n=x.length:=by simp at h;omega
   subst m;rw[B,List.drop_length]at y;exact aP (gQ y)
theorem St.ge_same{s:St}{b:Nat}{o:Ob}(h:s.getO b=some o):s.ge (s.setO b o) :=
 ⟨fun c x m => by
  rw[aL]at m;split at m
  .rename_i e;subst e;rw[h];exact m
  .exact m,λ_ _ h=>h,λ_ h=>h⟩
def gM(x:aC)(m h u:Nat)(sg:List aC)(op:Bool):List A:=[.str x,.int .i64 m,.int .i64 h,.int .i64 u,.list none (sg.map .str),.bool op]
theorem aGX:∀(w v:aC) (p:Nat × Nat),eV p (w++v)=eV (eV p w) v
 | [],v,p=>rfl
 | b::w,v,(l,c)=>by
  simp only[dY,eV];split<;>exact aGX w v _
theorem xL:∀(w:aC) (p:Nat × Nat) (k:Nat),p.1<=k+1->p.2<=k+1->(eV p w).1<=k+w.length+1/\(eV p w).2<=k+w.length+1
 | [],p,k,h,m=>⟨h,m⟩
 | b::w,(l,c),k,h,m=>by
  simp only[eV,aV];split
  .have:=xL w (l+1,1) (k+1) (gQ h) bA;omega
  .have:=xL w (l,c+1) (k+1) (by have:l<=k+1:=h;simp;omega) (gQ m);omega
theorem aDP(s:St)(r:Nat)(x:aC)(m l c n:Nat)(sg:List aC)(op:Bool)(KV Kp)
  (hr:s.getO r=some (.cells 261 (gM x m l c sg op)))(hx:x.length<=4294967296)(hn:m+n<=x.length)(hl:l<=m+1)(Z:c<=m+1)
  (hk:KV (s.setO r (.cells 261 (gM x (m+n) (eV (l,c) ((x.drop m).take n)).1 (eV (l,c) ((x.drop m).take n)).2 sg op))) (.tuple [])) :
  Den cx 272 [.ptr r 0,.int .i64 n] KV Kp s:=by
 (refine aN func272 [0,1,4,5,6,23] ?_;simp only[go_sem,ntmps272,f272])
 refine Ex.loop (λi=>[(0,.ptr r 0),(4,.int .i64 n),(5,.int .i64 (i:Nat))])
  (λi=>s.setO r (.cells 261 (gM x (m+i) (eV (l,c) ((x.drop m).take i)).1 (eV (l,c) ((x.drop m).take i)).2 sg op)))
  (λi=>i<=n) (λi=>n-i) 0 (aW _) ?_ ?_ ?_
 .simp only[go_sem];rfl
 .simp only[lD,kO,eV];exact St.ge_same hr
 .intro i hi;refine aX (V:=[0,1,4,5,6,23]) _ _ _ _ ?_;have U:=xL ((x.drop m).take i) (l,c) m hl Z;have B:((x.drop m).take i).length=i:=by rw[dT,dS];omega
  rw[B]at U;simp only[go_sem]
  (apply aJ<;>intro h)<;>simp only[go_sem,h]
  .have y:i<n:=gQ h;have z:m+i<x.length:=by omega
   obtain⟨d,H⟩:=bB z;simp only[go_sem,gM];rw[aU _ aB];(refine bD (OT.r 0 10) [] ?_;simp only[go_sem,H,z])
   have G:eV (l,c) ((x.drop m).take (i+1))=eV (eV (l,c) ((x.drop m).take i)) [d]:=by
    rw[gJ,mR,H,aGX];rfl
   have S:IntKind.i64.wrap ((i:Int)+1)=((i+1:Nat):Int):=aU i aB;have M:IntKind.i64.wrap (((m+i:Nat):Int)+1)=((m+(i+1):Nat):Int):=by rw[aU _ aB];rfl
   have O:IntKind.i64.wrap (((eV (l,c) ((x.drop m).take i)).1:Int)+1)=(((eV (l,c) ((x.drop m).take i)).1+1:Nat):Int):=aU _ aB
   (apply aJ<;>intro h)<;>simp only[go_sem,h,M,O,S]
   .have u:d=10:=by
     have:d.toNat=10:=by simp at h;omega
     exact rJ.1 this
    refine⟨i+1,by omega,by omega,rfl,?_⟩;rw[G];simp only[eV,u,dF];exact aE _
   .have u:¬ d=10:=by rintro rfl;simp at h
    refine⟨i+1,by omega,by omega,rfl,?_⟩;rw[G];simp only[eV,u,cZ];exact aE _
  .have y:i=n:=by simp at h;omega
   subst y;exact aP hk
@[go_sem] theorem aN3(x:aC)(n:Nat):(x.drop n).take (x.length-n)=x.drop n:=lZ (by rw[dS];exact bJ _)
theorem aFD{b:UInt8}{r:aC}(h:qX (b::r) [47,47]=true):1<=((b::r).takeWhile (λc=>!decide (c=10))).length:=by
 have m:b=47:=by
  simp only[qX,bP,bW]at h;have:=h.2;simp at this;exact this.1
 subst m;simp[List.takeWhile]
theorem aGJ:∀(f g:Nat) (w:aC),w.length<=f->w.length<=g->tF f w=tF g w
 | f,g,[],_,_=>by cases f<;>cases g<;>rfl
 | 0,g,b::r,h,_=>by simp at h
 | f,0,b::r,_,h=>by simp at h
 | f+1,g+1,b::r,m,u=>by
  simp only[aV]at m u;simp only[tF];split
  .rw[aGJ f g r aB aB]
  .split
   .rename_i y;have:=aFD y;rw[aGJ f g _ (by rw[dS,aV];omega) (by rw[dS,aV];omega)]
   .rfl
theorem aSL:gD []=0:=rfl
theorem aQj{b:UInt8}{r:aC}(h:wZ b=true):gD (b::r)=1+gD r:=by
 simp only[gD,aV,tF,h,dF]
theorem aRD{b:UInt8}{r:aC}(m:wZ b=false)(h:qX (b::r) [47,47]=true) :
  gD (b::r)=((b::r).takeWhile (λc=>!decide (c=10))).length+gD ((b::r).drop ((b::r).takeWhile (λc=>!decide (c=10))).length):=by
 have:=aFD h;simp only[gD,aV,tF,m,dA,cZ,h,dF];rw[aGJ r.length _ _ (by rw[dS,aV];omega) (bJ _)]
theorem aRL{b:UInt8}{r:aC}(m:wZ b=false)(h:qX (b::r) [47,47]=false):gD (b::r)=0:=by
 simp only[gD,aV,tF,m,dA,cZ,h]
theorem aRu(b:UInt8):decide (0<=Lib.indexByte [32,9,10,13] b)=wZ b:=by
 by_cases h:b=32
 .subst h;decide
 by_cases m:b=9
 .subst m;decide
 by_cases u:b=10
 .subst u;decide
 by_cases y:b=13
 .subst y;decide
 have z:((32:UInt8) == b)=false:=aBy.2 λe=>h e.symm
 have B:((9:UInt8) == b)=false:=aBy.2 λe=>m e.symm
 have G:((10:UInt8) == b)=false:=aBy.2 λe=>u e.symm
 have H:((13:UInt8) == b)=false:=aBy.2 λe=>y e.symm
 simp[Lib.indexByte,wZ,z,B,G,H,h,m,u,y]
theorem aSV(w:aC):(if Lib.indexByte w 10<0 then((w.length:Nat):Int) else Lib.indexByte w 10)=((w.takeWhile (λc=>!decide (c=10))).length:Nat)/\(Lib.indexByte w 10=-1\/0<=Lib.indexByte w 10):=by
 induction w with
 | nil=>simp[Lib.indexByte]
 | cons b r m =>
  obtain⟨m,B⟩:=m;unfold Lib.indexByte;by_cases u:b=10
  .subst u;simp
  .have y:(b == 10)=false:=gQ u;rw[y];simp only[dA,cZ];have z:(b::r).takeWhile (λc=>!decide (c=10))=b::r.takeWhile (λc=>!decide (c=10)):=by simp[List.takeWhile,u]
   rw[z];rcases B with h|h
   .rw[h]at m⊢;simp only[show((-1:Int)<0) from by decide,dF]at m;simp only[beq_self_eq_true,dF,show((-1:Int)<0) from by decide,aV];exact⟨by omega,.inl trivial⟩
   .have G:¬ Lib.indexByte r 10<0:=by omega
    have H:(Lib.indexByte r 10 == -1)=false:=by simpa using(by omega:¬ Lib.indexByte r 10=-1)
    rw[aD G]at m;rw[H];simp only[dA,cZ,aV];rw[aD aB];exact⟨by omega,.inr aB⟩
theorem aJU(s:St)(r:Nat)(x:aC)(u l c:Nat)(sg:List aC)(op:Bool)(KV Kp)
  (hr:s.getO r=some (.cells 261 (gM x u l c sg op)))(hx:x.length<=4294967296)(ha:u<=x.length)(hl:l<=u+1)(hc:c<=u+1)
  (U:KV (s.setO r (.cells 261 (gM x (u+gD (x.drop u)) (eV (l,c) ((x.drop u).take (gD (x.drop u)))).1 (eV (l,c) ((x.drop u).take (gD (x.drop u)))).2 sg op))) (.tuple [])) :
  Den cx 270 [.ptr r 0] KV Kp s:=by
 (refine aN func270 [0,2,3,13,23,30,36] ?_;simp only[go_sem,ntmps270,f270])
 refine Ex.loop (λk=>[(0,.ptr r 0)])
  (λk=>s.setO r (.cells 261 (gM x (u+k) (eV (l,c) ((x.drop u).take k)).1 (eV (l,c) ((x.drop u).take k)).2 sg op)))
  (λk=>u+k<=x.length/\gD (x.drop u)=k+gD (x.drop (u+k))) (λk=>x.length-(u+k)) 0 ⟨by omega,by simp⟩ ?_ ?_ ?_
 .simp only[go_sem]
 .simp only[lD,kO,eV];exact St.ge_same hr
 .rintro k ⟨b4,S⟩;have M:((x.drop u).take k).length=k:=by rw[dT,dS];omega
  have b0:=xL ((x.drop u).take k) (l,c) u hl hc;rw[M]at b0
  have y:∀m,eV (l,c) ((x.drop u).take (k+m))=eV (eV (l,c) ((x.drop u).take k)) ((x.drop (u+k)).take m):=by
   intro m;rw[List.take_add,aGX,uZ]
  refine aX (V:=[0,2,3,13,23,30,36]) _ _ _ _ ?_;simp only[go_sem];(refine bD (OT.r 0 10) [] ?_;simp only[go_sem,gM])
  (apply aJ<;>intro h)<;>simp only[go_sem,h]
  .have z:u+k<x.length:=gQ h
   have H:∃d w,x.drop (u+k)=d::w:=by
    rw[oZ z];exact⟨_,_,rfl⟩
   obtain⟨d,w,B⟩:=H;have Z:u+k<=x.length:=by omega
   have b3:(d::w).take (x.length-(u+k))=d::w:=by rw[<-B];exact aN3 x _
   (refine bD (OT.r 0 10) [] ?_;simp only[go_sem,gM,B,b3,Z,bJ]);refine aCZ _ _ _ _ _ ?_;simp only[go_sem,aRu]
   (apply aJ<;>intro h)<;>simp only[go_sem,h]
   ·
    refine aDP _ r x (u+k) _ _ 1 sg op _ _ (by rw[aL,aF rfl];rfl) hx aB aB aB ?_;simp only[go_sem];refine⟨k+1,⟨by omega,?_⟩,by omega,?_⟩
    .rw[S,B,aQj h,show u+(k+1)=u+k+1 from rfl,<-uZ,B];simp;omega
    .rw[y 1];exact aE _
   .refine aIm _ _ _ _ _ ?_;simp only[go_sem]
    (apply aJ<;>intro h)<;>simp only[go_sem,h]
    .have G:wZ d=false:=by assumption
     have hp:=h;refine aCZ _ _ 10 _ _ ?_;simp only[go_sem];have hi:=aSV (d::w);have O:=aFD hp;have b2:((d::w).takeWhile (λc=>!decide (c=10))).length<=(d::w).length:=(List.takeWhile_sublist _).length_le;have b5:(d::w).length=x.length-(u+k):=by rw[<-B,dS]
     have fin:∀m:Nat,m=((d::w).takeWhile (λc=>!decide (c=10))).length->u+k+m<=x.length/\gD (x.drop u)=k+m+gD (x.drop (u+(k+m))):=by
      rintro m rfl;refine⟨by omega,?_⟩;have:=aRD G hp;rw[S,B,this,<-nY u,<-uZ,B];omega
     generalize hm:((d::w).takeWhile (λc=>!decide (c=10))).length=m at hi O b2;obtain⟨f1,f2⟩:=fin m hm.symm
     (apply aJ<;>intro h)<;>simp only[go_sem,h]
     .have z:Lib.indexByte (d::w) 10<0:=gQ h;have e:=hi.1;rw[aF z]at e;have e:w.length+1=m:=by simp at e;omega
      rw[e];refine aDP _ r x (u+k) _ _ m sg op _ _ (by rw[aL,aF rfl];rfl) hx f1 aB aB ?_;simp only[go_sem];refine⟨k+m,⟨by omega,f2⟩,by omega,?_⟩;rw[y m,nY u k m];exact aE _
     .have z:¬ Lib.indexByte (d::w) 10<0:=gQ h;have e:=hi.1;rw[aD z]at e;rw[e];refine aDP _ r x (u+k) _ _ m sg op _ _ (by rw[aL,aF rfl];rfl) hx f1 aB aB ?_;simp only[go_sem];refine⟨k+m,⟨by omega,f2⟩,by omega,?_⟩;rw[y m,nY u k m];exact aE _
    .have G:wZ d=false:=by assumption
     rw[S,B,aRL G h,lD]at U;exact aP U
  .have b1:u+k=x.length:=by simp at h;omega
   have e:gD (x.drop u)=k:=by rw[S,b1,List.drop_length,aSL];rfl
   rw[e]at U;exact aP U
theorem aCc{x:aC}{i:Nat}{d:UInt8}(m:x[i]?=some d)(h:d.toNat<128):Utf8.decode ⟨x.toArray⟩ i=(d.toNat,1):=by
 have y:i<x.length:=(dZ.1 m).1;have u:i<(ByteArray.mk x.toArray).size:=by simpa [ByteArray.size]using y
 have e:(ByteArray.mk x.toArray)[i]'u=d:=by
  exact(dZ.1 m).2
 have:=decode_ascii ⟨x.toArray⟩ i u (by rw[e];exact h);rw[this,e]
theorem aSj{x:aC}{i:Nat}{d:UInt8}(m:x[i]?=some d)(h:128<=d.toNat):128<=(Utf8.decode ⟨x.toArray⟩ i).1:=by
 have y:i<x.length:=(dZ.1 m).1;have u:i<(ByteArray.mk x.toArray).size:=by simpa [ByteArray.size]using y
 have e:(ByteArray.mk x.toArray)[i]'u=d:=by
  exact(dZ.1 m).2
 exact(decode_high ⟨x.toArray⟩ i u (by rw[e];exact h)).1
theorem aIN(s:St)(x:aC)(KV Kp)(U:KV s (.bool (sT x))):Den cx 231 [.str x] KV Kp s:=by
 (refine aN func231 [0,2,4,6,7,8,23] ?_;simp only[go_sem,ntmps231,f231]);intro b hb;simp only[go_sem]
 refine Ex.loop (λi=>[(0,.str x),(6,.ptr b 0)]) (λi=>s.setO b (.iter x i))
  (λi=>i<=x.length/\∀d∈x.take i,qF d=true) (λi=>x.length-i) 0 ⟨aW _,by simp⟩ ?_ (aE _) ?_
 .simp only[go_sem]
 .rintro i ⟨hi,h⟩;refine aX (V:=[0,2,4,6,7,8,23]) _ _ _ _ ?_;by_cases u:i<x.length
  .obtain⟨d,z⟩:=bB u
   have bad:qF d=false->∀o,DK KV (s.setO b o) (.bool false):=λho o=>by
    have:sT x=false:=by
     rw[sT,Bool.and_eq_false_iff];refine .inl (jQ.2 λh=>?_);rw[dE]at h;rw[h d (bK z)]at ho;cases ho
    rw[this]at U;exact aG U (gF hb)
   by_cases m:d.toNat<128
   .by_cases ho:qF d=true
    .have y:=ho;simp only[qF,bP,bW,iY,fO]at y;obtain⟨o1,o2,Z,o4⟩:=y;have n3:¬ d.toNat=34:=λe=>Z (rJ.1 e)
     have n4:¬ d.toNat=92:=λe=>o4 (rJ.1 e)
     have B:decide ((d.toNat:Int)<32)=false:=bR aB;have G:decide (126<(d.toNat:Int))=false:=bR aB;have H:decide ((d.toNat:Int)=34)=false:=bR aB;have O:decide ((d.toNat:Int)=92)=false:=bR aB;simp only[go_sem,u,aCc z m,B,G,H,O];refine⟨i+1,⟨by omega,λq M=>?_⟩,by omega,aE _⟩;rw[gJ,z]at M;simp only[cK,Option.toList_some,bO]at M;rcases M with M|rfl
     .exact h q M
     .exact ho
    .have y:qF d=false:=gQ ho;have bad:=bad y;by_cases o1:32<=d.toNat
     .have B:decide ((d.toNat:Int)<32)=false:=bR aB;by_cases o2:d.toNat<=126
      .have G:decide (126<(d.toNat:Int))=false:=bR aB;by_cases Z:d.toNat=34
       .have H:decide ((d.toNat:Int)=34)=true:=cT aB;simp only[go_sem,u,aCc z m,B,G,H];exact bad _
       .have H:decide ((d.toNat:Int)=34)=false:=bR aB
        have o4:d.toNat=92:=by
         have n3:¬ d=34:=λe=>Z (by rw[e];rfl)
         simp only[qF,o1,o2,n3,aBJ,aBC,dW,iB,aFv,bW]at y;rw[y];rfl
        have O:decide ((d.toNat:Int)=92)=true:=cT aB;simp only[go_sem,u,aCc z m,B,G,H,O];exact bad _
      .have G:decide (126<(d.toNat:Int))=true:=cT aB;simp only[go_sem,u,aCc z m,B,G];exact bad _
     .have B:decide ((d.toNat:Int)<32)=true:=cT aB;simp only[go_sem,u,aCc z m,B];exact bad _
   .have hh:=aSj z aB;have B:decide (((Utf8.decode ⟨x.toArray⟩ i).1:Int)<32)=false:=bR aB;have G:decide (126<((Utf8.decode ⟨x.toArray⟩ i).1:Int))=true:=cT aB;simp only[go_sem,u,B,G];exact bad (by simp only[qF,show¬ d.toNat<=126 from by omega,aBC,gB,iZ]) _
  .have S:i=x.length:=by omega
   simp only[go_sem,u];refine aG (s2:=s) ?_ (gF hb)
   have:sT x=decide ((x.length:Int)<=200):=by
    rw[sT]
    have:x.all qF=true:=by
     rw[dE];intro d z;rw[S,bT]at h;exact h d z
    rw[this,dW];congr 1;simp;omega
   rwa[this]at U
theorem aOz(s:St)(x:aC)(c:UInt8)(KV Kp)(m:KV s (.str (x.dropWhile (yH c)))):Den cx 305 [.str x,.int .u8 c.toNat] KV Kp s:=by
 (refine aN func305 [0,1,4,13] ?_;simp only[go_sem,ntmps305,f305])
 refine Ex.loop (λw=>[(0,.str w),(1,.int .u8 c.toNat)]) (λ_=>s)
  (λw=>w.dropWhile (yH c)=x.dropWhile (yH c)) (λw=>w.length) x rfl ?_ (aE s) ?_
 .simp only[go_sem]
 .intro w u;refine aX (V:=[0,1,4,13]) _ _ _ _ ?_;cases w with
  | nil =>
   simp only[go_sem,show decide ((0:Int)<((0:Nat):Int))=false from rfl];rw[<-u]at m;exact aP m
  | cons b r =>
   simp only[go_sem,show decide ((0:Int)<((r.length+1:Nat):Int))=true from cT aB]
   have e:decide (b.toNat=c.toNat)=yH c b:=by
    unfold yH;congr 1;exact propext rJ
   simp only[go_sem,e]
   (apply aJ<;>intro h)<;>simp only[go_sem,h]
   .simp only[go_sem,show(1:Int)<=((r.length+1:Nat):Int) from by omega,show Int.toNat 1=1 from rfl];refine⟨by decide,r,?_,by omega,?_,aE s⟩
    .rw[<-u,List.dropWhile_cons,aF h]
    .exact lZ aB
   .rw[<-u,List.dropWhile_cons,aD (by simp[h])]at m;exact aP m
theorem aOu(s:St)(x:aC)(c:UInt8)(KV Kp)(m:c.toNat<128)(h:KV s (.str (x.dropWhile (yH c)))):Den cx 300 [.str x,.str [c]] KV Kp s:=by
 (refine aN func300 [0,1,4,5,6,12,21,31] ?_;simp only[go_sem,ntmps300,f300]);cases x with
 | nil =>
  simp only[go_sem];exact aP h
 | cons b r =>
  simp only[go_sem,show decide (((1:Nat):Int)=1)=true from rfl,show decide ((c.toNat:Int)<128)=true from cT aB];refine aOz _ _ _ _ _ ?_;simp only[go_sem];exact aP h
theorem aKI(x:aC)(d:UInt8):iU (x++[d])=iU x * 10+(d.toNat-48):=by
 simp[iU,rI]
theorem aLB:∀(n:Nat) (x:aC),x.length=n->aEg x->iU x<10 ^ n
 | 0,x,h,_=>by have:x=[]:=eS h;subst this;simp[iU]
 | n+1,x,h,u=>by
  have m:x≠[]:=by rintro rfl;simp at h
  obtain⟨y,d,rfl⟩:∃y d,x=y++[d]:=⟨x.dropLast,x.getLast m,(List.dropLast_concat_getLast m).symm⟩
  have B:=aLB n y (gQ h) (λe z=>u e (by simp[z]));have:=u d bA;rw[aKI,Nat.pow_succ];omega
theorem aS0(s:St)(x:aC)(KV Kp)(hl:1<=x.length)(y:x.length<=11)(B:aEg x)(hk:KV s (.tuple [.int .i64 (iU x),.nili])):Den cx 309 [.str x] KV Kp s:=by
 obtain⟨b,r,rfl⟩:∃b r,x=b::r:=by
  cases x with
  | nil=>simp at hl
  | cons b r=>exact⟨b,r,rfl⟩
 have hb:=B b bA;(refine aN func309 aMW ?_;simp only[go_sem,ntmps309,f309]);have S:decide ((0:Int)<((r.length+1:Nat):Int))=true:=cT aB;have U:decide (((r.length+1:Nat):Int)<19)=true:=cT (by simp at y;omega);have H:decide ((b.toNat:Int)=45)=false:=bR aB;have Z:decide ((b.toNat:Int)=43)=false:=bR aB;simp only[go_sem,S,U,H,Z];refine⟨by unfold maxLen;simp at y;omega,?_⟩;have hx:(b::r).length=r.length+1:=rfl;generalize z:b::r=x at *
 refine Ex.loop (λi=>[(5,.str x),(6,.int .i64 (iU (x.take i):Nat)),(47,.list none (x.map λc=>.int .u8 c.toNat)),(48,.int .i64 ((r.length+1:Nat))),(49,.int .i64 (i:Nat)),(3,.nili)]) (λ_=>s)
  (λi=>i<=x.length) (λi=>x.length-i) 0 (aW _) ?_ (aE s) ?_
 .simp only[go_sem];subst z;exact⟨rfl,rfl,rfl⟩
 .intro i hi;refine aX (V:=aMW) _ _ _ _ ?_;simp only[go_sem]
  (apply aJ<;>intro h)<;>simp only[go_sem,h]
  .have m:i<x.length:=by simp at h;omega
   obtain⟨d,u⟩:=bB m;have M:=B d (bK u)
   have f1:IntKind.u8.wrap ((d.toNat:Int)-48)=((d.toNat-48:Nat):Int):=by
    have O:((d.toNat:Int)-48) % 2 ^ 8=(d.toNat:Int)-48:=by omega
    simp only[IntKind.wrap,IntKind.signed,IntKind.bits,gB,dA,cZ,O];omega
   have hn:iU (x.take i)<10 ^ 11:=by
    have h1:=aLB (x.take i).length (x.take i) rfl (λe he=>B e (qG he));have h2:(x.take i).length<=11:=by rw[dT];omega
    exact Nat.lt_of_lt_of_le h1 (Nat.pow_le_pow_right dM h2)
   have f2:decide ((9:Int)<((d.toNat-48:Nat):Int))=false:=bR aB
   have f3:IntKind.i64.wrap (((iU (x.take i):Nat):Int) * 10)=((iU (x.take i) * 10:Nat):Int):=by
    rw[fV _ aB aB];omega
   have f4:IntKind.i64.wrap ((d.toNat-48:Nat):Int)=((d.toNat-48:Nat):Int):=fV _ aB aB
   have f5:IntKind.i64.wrap (((iU (x.take i) * 10:Nat):Int)+((d.toNat-48:Nat):Int))=((iU (x.take (i+1)):Nat):Int):=by
    rw[gJ,u];show _=((iU (x.take i++[d]):Nat):Int);rw[aKI,fV _ aB aB];omega
   simp only[go_sem,u,m,f1,f2,f3,f4,f5,aU i aB];exact⟨i+1,by omega,by omega,⟨rfl,rfl⟩,aE s⟩
  .have m:i=x.length:=by simp at h;omega
   have h0:x[0]?=some b:=by rw[<-z];rfl
   have G:0<x.length:=by omega
   simp only[go_sem,h0,G,H];rw[m,bT];exact aP hk
theorem aJj(s:St)(x:aC)(KV Kp)(hl:1<=x.length)(h:x.length<=11)(m:aEg x)(u:KV s (.tuple [.int .i64 (iU x),.nili])):Den cx 301 [.str x] KV Kp s:=by
 (refine aN func301 [0,2,3,4,5,12] ?_;simp only[go_sem,ntmps301,f301]);refine aS0 _ _ _ _ hl h m ?_;simp only[go_sem];exact aP u
theorem aQn(s:St)(x:aC)(KV Kp)(hx:x.length<=4294967296)(z:KV s (.tuple [(uH x).1.enc,.int .i64 (uH x).2.1,.bool (uH x).2.2])):Den cx 288 [.str x] KV Kp s:=by
 (refine aN func288 [0,2,3,4,5,6,28] ?_;simp only[go_sem,ntmps288,f288]);intro b u;simp only[go_sem,u];refine aLN _ _ _ (λc=>lT c.toNat) _ _ hx (λc KV Kp h=>aJl _ _ _ _ h) ?_;generalize Z:(x.takeWhile λc=>lT c.toNat).length=n at z;have hnl:n<=x.length:=by rw[<-Z];exact(List.takeWhile_sublist _).length_le
 simp only[go_sem,hnl];refine aOu _ _ 48 _ _ dM ?_;simp only[go_sem];generalize hg:(x.take n).dropWhile (yH 48)=g at z
 have bad:(10<g.length\/(∃c,x[n]?=some c/\jW c.toNat=true))->uH x=(⟨0,[],0,0,0⟩,0,false):=by
  intro hh;simp only[uH,Z,hg,aF hh]
 have B:¬ (10<g.length\/(∃c,x[n]?=some c/\jW c.toNat=true))->uH x=(⟨2,[],iU g,0,0⟩,n,decide (iU g<=2147483647)):=by
  intro hh;simp only[uH,Z,hg,aD hh]
 have S:aEg g:=by
  intro d y;rw[<-hg]at y;have m:=(List.dropWhile_sublist _).mem y;rw[<-Z]at m
  have O:d∈x.takeWhile λc=>lT c.toNat:=by
   have:=qG (l:=x) m
   have e:x.take (x.takeWhile λc=>lT c.toNat).length=x.takeWhile λc=>lT c.toNat:=by
    conv=>lhs;arg 2;rw[<-List.takeWhile_append_dropWhile (p:=λc=>lT c.toNat) (l:=x)]
    rw[List.take_left'];rfl
   rw[e]at m;exact m
  have h3:=dE.1 (List.all_takeWhile (p:=λc:UInt8=>lT c.toNat) (l:=x)) d O;simp only[lT,bP,bW]at h3;omega
 (apply aJ<;>intro h)<;>simp only[go_sem,h,u]
 .rw[bad (.inl (by simp at h;omega))]at z;exact aG z (gF u)
 .have G:¬ 10<g.length:=by simp at h;omega
  (apply aJ<;>intro h)<;>simp only[go_sem,h,u]
  .have U:n<x.length:=gQ h;obtain⟨c,hc⟩:=bB U;simp only[go_sem,hc,U,u];refine aDe _ _ _ _ ?_;simp only[go_sem,u]
   (apply aJ<;>intro h)<;>simp only[go_sem,h,u]
   .rw[bad (.inr ⟨c,hc,h⟩)]at z;exact aG z (gF u)
   .have M:¬ (10<g.length\/(∃c,x[n]?=some c/\jW c.toNat=true)):=by
     rintro(m|⟨c',m,O⟩)
     .exact G m
     .rw[hc]at m;cases m;rw[h]at O;cases O
    have H:=B M;rw[H]at z;have m1:(48::g).length<=11:=by simp;omega
    refine⟨by unfold maxLen;omega,?_⟩
    refine aJj _ _ _ _ bA m1 (λd y=>by
     simp only[dG]at y;rcases y with rfl|y
     .decide
     .exact S d y) ?_
    have m2:iU (48::g)=iU g:=rfl;simp only[go_sem,u,m2];have m3:decide (((iU g:Nat):Int)<=2147483647)=decide (iU g<=2147483647):=by congr 1;simp only[eq_iff_iff];omega
    rw[m3];exact aG z (gF u)
  .have M:¬ (10<g.length\/(∃c,x[n]?=some c/\jW c.toNat=true)):=by
    rintro(m|⟨c',m,O⟩)
    .exact G m
    .have:=(dZ.1 m).1;simp at h;omega
   have H:=B M;rw[H]at z;have m1:(48::g).length<=11:=by simp;omega
   refine⟨by unfold maxLen;omega,?_⟩
   refine aJj _ _ _ _ bA m1 (λd y=>by
    simp only[dG]at y;rcases y with rfl|y
    .decide
    .exact S d y) ?_
   have m2:iU (48::g)=iU g:=rfl;simp only[go_sem,u,m2];have m3:decide (((iU g:Nat):Int)<=2147483647)=decide (iU g<=2147483647):=by congr 1;simp only[eq_iff_iff];omega
   rw[m3];exact aG z (gF u)
theorem aOp(s:St)(x:aC)(c:UInt8)(KV Kp)(h:KV s (.int .i64 (x.count c:Nat))):Den cx 213 [.str x,.str [c]] KV Kp s:=by
 (refine aN func213 [0,1,4,5,6,9,15,24] ?_;simp only[go_sem,ntmps213,f213]);simp only[go_sem,show decide (((1:Nat):Int)=0)=false from rfl,show decide (((1:Nat):Int)=1)=true from rfl];refine aOE _ _ _ _ _ ?_;simp only[go_sem];exact aP h
theorem aPL(s:St)(l:List aC)(x:aC)(KV Kp)(S:∀r:Int,(0<=r↔x∈l)->KV s (.int .i64 r)):Den cx 117 [.list none (l.map .str),.str x] KV Kp s:=by
 refine hH λO=>?_
 have M:=O _ (cQ ..);(refine aN func117 pX ?_;simp only[go_sem,ntmps117,f117])
 refine Ex.loop (λi=>[(0,.list none (l.map .str)),(1,.str x),(7,.int .i64 l.length),(8,.int .i64 (i:Nat))]) (λ_=>s)
  (λi=>i<=l.length/\∀j,j<i->l[j]?≠some x) (λi=>l.length-i) 0 ⟨aW _,λj G=>by omega⟩ ?_ (aE s) ?_
 .simp only[go_sem];rfl
 .rintro i ⟨U,u⟩;refine aX (V:=pX) _ _ _ _ ?_;simp only[go_sem]
  (apply aJ<;>intro h)<;>simp only[go_sem,h]
  .have m:i<l.length:=gQ h;obtain⟨a,B⟩:=bB m;simp only[go_sem,B,m]
   (apply aJ<;>intro h)<;>simp only[go_sem,h]
   .have y:x=a:=gQ h;subst y;have z:x∈l:=bK B;exact aP (S _ ⟨λ_=>z,λ_=>by omega⟩)
   .have y:¬ x=a:=gQ h;refine⟨i+1,⟨by omega,λj G=>?_⟩,by omega,?_,aE s⟩
    .by_cases H:j=i
     .subst H;rw[B];simpa [eq_comm]using y
     .exact u j aB
    .simp only[go_sem,M.wrap (i:=i) (gQ m)]
  .have m:i=l.length:=by simp at h;omega
   have z:¬ x∈l:=by
    intro z;obtain⟨j,G,e⟩:=kM z;exact u j aB (by rw[dI G,e])
   exact aP (S _ ⟨λh=>cV h dM,λh=>cV h z⟩)
theorem pG(s:St)(l:List aC)(x:aC)(KV Kp)(h:KV s (.bool (decide (x∈l)))):Den cx 62 [.list none (l.map .str),.str x] KV Kp s:=by
 (refine aN func62 [0,1,4] ?_;simp only[go_sem,ntmps62,f62]);refine aPL _ _ _ _ _ λr m=>?_
 simp only[go_sem];have:decide (0<=r)=decide (x∈l):=by simp only[m]
 rw[this];exact aP h
end Go.AV
section
open Go.Proofs.Tryz
namespace Go.Proofs
open Go.Shelf
def Tryz.laysM171_ren:Go.Shelf.Ren:=⟨λ|171=>274|243=>292|246=>303|283=>311|284=>312|285=>313|286=>314|129=>175|317=>323|318=>324|319=>325|320=>326|337=>332|338=>333|n=>n,λ|3=>3|9=>9|2=>2|4=>4|171=>318|0=>0|53=>203|37=>320|5=>5|173=>321|212=>333|51=>201|20=>20|213=>334|46=>152|232=>349|233=>350|n=>n,λ|17=>3|18=>8|19=>9|n=>n⟩
theorem Tryz.laysM171:Go.Proofs.LaysM.n171 Tryz.prog Tryz.laysM171_ren:={
 mixed:=by kernel_rfl
 f129:=Tryz.func175.trans (congrArg some (by kernel_rfl))
 f171:=Tryz.func274.trans (congrArg some (by kernel_rfl))
 f243:=Tryz.func292.trans (congrArg some (by kernel_rfl))
 f246:=Tryz.func303.trans (congrArg some (by kernel_rfl))
 f283:=Tryz.func311.trans (congrArg some (by kernel_rfl))
 f284:=Tryz.func312.trans (congrArg some (by kernel_rfl))
 f285:=Tryz.func313.trans (congrArg some (by kernel_rfl))
 f286:=Tryz.func314.trans (congrArg some (by kernel_rfl))
 f317:=Tryz.func323.trans (congrArg some (by kernel_rfl))
 f318:=Tryz.func324.trans (congrArg some (by kernel_rfl))
 f319:=Tryz.func325.trans (congrArg some (by kernel_rfl))
 f320:=Tryz.func326.trans (congrArg some (by kernel_rfl))
 f337:=Tryz.func332.trans (congrArg some (by kernel_rfl))
 f338:=Tryz.func333.trans (congrArg some (by kernel_rfl))
 t0:=Tryz.underlying0
 a0:=Tryz.isAgg0
 z0:=Tryz.sizeOf0
 v0:=Tryz.zeroValue0
 t2:=Tryz.underlying2
 a2:=Tryz.isAgg2
 z2:=Tryz.sizeOf2
 v2:=Tryz.zeroValue2
 t3:=Tryz.underlying3
 a3:=Tryz.isAgg3
 z3:=Tryz.sizeOf3
 v3:=Tryz.zeroValue3
 t4:=Tryz.underlying4
 a4:=Tryz.isAgg4
 z4:=Tryz.sizeOf4
 v4:=Tryz.zeroValue4
 t5:=Tryz.underlying5
 a5:=Tryz.isAgg5
 z5:=Tryz.sizeOf5
 v5:=Tryz.zeroValue5
 t9:=Tryz.underlying9
 a9:=Tryz.isAgg9
 z9:=Tryz.sizeOf9
 v9:=Tryz.zeroValue9
 t20:=Tryz.underlying20
 a20:=Tryz.isAgg20
 z20:=Tryz.sizeOf20
 v20:=Tryz.zeroValue20
 t37:=Tryz.underlying320
 a37:=Tryz.isAgg320
 z37:=Tryz.sizeOf320
 v37:=Tryz.zeroValue320
 t46:=Tryz.underlying152
 a46:=Tryz.isAgg152
 z46:=Tryz.sizeOf152
 v46:=Tryz.zeroValue152
 t51:=Tryz.underlying201
 a51:=Tryz.isAgg201
 z51:=Tryz.sizeOf201
 v51:=Tryz.zeroValue201
 t53:=Tryz.underlying203
 a53:=Tryz.isAgg203
 z53:=Tryz.sizeOf203
 v53:=Tryz.zeroValue203
 t171:=Tryz.underlying318
 a171:=Tryz.isAgg318
 z171:=Tryz.sizeOf318
 v171:=Tryz.zeroValue318
 t173:=Tryz.underlying321
 a173:=Tryz.isAgg321
 z173:=Tryz.sizeOf321
 v173:=Tryz.zeroValue321
 t212:=Tryz.underlying333
 a212:=Tryz.isAgg333
 z212:=Tryz.sizeOf333
 v212:=Tryz.zeroValue333
 t213:=Tryz.underlying334
 a213:=Tryz.isAgg334
 z213:=Tryz.sizeOf334
 t232:=Tryz.underlying349
 a232:=Tryz.isAgg349
 z232:=Tryz.sizeOf349
 v232:=Tryz.zeroValue349
 t233:=Tryz.underlying350
 a233:=Tryz.isAgg350
 z233:=Tryz.sizeOf350
 v233:=Tryz.zeroValue350
 g17:=by kernel_rfl
 g18:=by kernel_rfl
 g19:=by kernel_rfl
 i0:=by kernel_rfl
 i2:=by kernel_rfl
 i3:=by kernel_rfl
 i4:=by kernel_rfl
 i5:=by kernel_rfl
 i9:=by kernel_rfl
 i20:=by kernel_rfl
 i37:=by kernel_rfl
 i46:=by kernel_rfl
 i51:=by kernel_rfl
 i53:=by kernel_rfl
 i171:=by kernel_rfl
 i173:=by kernel_rfl
 i212:=by kernel_rfl
 i232:=by kernel_rfl
 i233:=by kernel_rfl
 m17:=by kernel_rfl
 m18:=by kernel_rfl
 m19:=by kernel_rfl }
open Go.RowKit Go.Sort Go.Lib in
theorem Tryz.strconv_Itoa (n : Int) (m : -9223372036854775808 ≤ n) (u : n ≤ 9223372036854775807) (w : World) (h : Lib.TabIs Tryz.prog w "internal/strconv.uint64pow10" .u64 Lib.pow10Tab) :
  Calls Tryz.prog 274 #[.int .i64 n] w λe w'=>e=.returned (.string ⟨(Lib.itoa n).toArray⟩)/\∃k y,w'=grow (w.drewN k) y:=Any.strconv_Itoa Tryz.laysM171 n m u w h
end Go.Proofs
namespace Go.AV
open Go Go.Proofs
theorem aQ5 : prog.globalNamed "internal/strconv.uint64pow10" = some 3 := by kernel_rfl
theorem aDV:aA2=Lib.pow10Tab.map (λz=>A.int .u64 z):=by kernel_rfl
theorem aAx {P : Program} {f : FuncId} {fn : Func} {c : Code} (u : P.funcs[f]? = some fn) (m : fn.body = some c) (h : (fn.name == "runtime.NumGoroutine") = false) (vals : Array Value) (w : World) :
  (callFunc f vals).run P w=.ok (.enter f vals) w:=by
 simp only[callFunc,bN,run_program,bM,u,h,dA,↓reduceIte,m,qI,cG]
theorem aSd(n:Int)(M:-9223372036854775808<=n)(z:n<=9223372036854775807)(s:St)(KV Kp:St->A->Prop)(hk:KV s (.str (Lib.itoa n))):Den cx 274 [.int .i64 n] KV Kp s:=by
 refine aOL (λvals w=>?_) λF g w vals U H=>?_
 .exact aAx (P:=prog) func274 rfl rfl vals w
 .obtain⟨v,B,hr⟩:=H.get (j:=0) rfl;have hl:=H.1
  have G:vals=[.int .i64 n]:=by
   match vals,hl,B with
   | [x],_,h=>simp only[mO,bV]at h;subst h;rw[hr.int_inv]
  subst G
  have u : Lib.TabIs prog w "internal/strconv.uint64pow10" .u64 Lib.pow10Tab := by
   obtain⟨pre,ty,fr,z,h2,O,h4,S⟩:=U.gpi (b:=3) (cs:=aA2) rfl;unfold Lib.TabIs World.var?;rw[aQ5];simp only[sG,z,bV];congr 1;apply List.ext_getElem?;intro i;by_cases m:i<aA2.length
   .have y:i<pre.length:=by rw[O];exact m
    have hc:aA2[i]?=some (.int .u64 (Lib.pow10Tab[i]'(by rw[aDV]at m;simpa using m))):=by
     rw[dI m];simp[aDV]
    have:=S i _ _ hc (dI y);rw[dI y,this.int_inv];rw[aDV]at m;simp only[aO]at m;simp[m]
   .rw[uU aB,uU (by rw[aDV]at m;simpa using m)]
  refine Calls.mono (strconv_Itoa n M z w u) λe w' y=>?_
  obtain⟨rfl,k,os,rfl⟩:=y;refine⟨_,_,rfl,λb Z=>?_,rfl,.str _,hk⟩;show(w.heap++os)[b]?=w.heap[b]?;rw[Array.getElem?_append_left Z]
end Go.AV
end
section
open Go.Proofs.Tryz
namespace Go.Proofs
open Go.Shelf
def Tryz.lays157_ren:Go.Shelf.Ren:=⟨λ|157=>184|229=>235|199=>236|261=>268|311=>282|312=>283|n=>n,λ|9=>9|31=>22|3=>3|5=>5|4=>4|119=>247|0=>0|40=>249|152=>273|21=>21|154=>275|51=>201|141=>277|196=>289|193=>286|198=>292|49=>290|194=>287|201=>295|226=>300|46=>152|227=>301|n=>n,λ|0=>0|6=>1|n=>n⟩
theorem Tryz.lays157:Go.Proofs.Lays.n157 Tryz.prog Tryz.lays157_ren:={
 mixed:=by kernel_rfl
 f157:=Tryz.func184.trans (congrArg some (by kernel_rfl))
 f199:=Tryz.func236.trans (congrArg some (by kernel_rfl))
 f229:=Tryz.func235.trans (congrArg some (by kernel_rfl))
 f261:=Tryz.func268.trans (congrArg some (by kernel_rfl))
 f311:=Tryz.func282.trans (congrArg some (by kernel_rfl))
 f312:=Tryz.func283.trans (congrArg some (by kernel_rfl))
 t0:=Tryz.underlying0
 a0:=Tryz.isAgg0
 z0:=Tryz.sizeOf0
 v0:=Tryz.zeroValue0
 t3:=Tryz.underlying3
 a3:=Tryz.isAgg3
 z3:=Tryz.sizeOf3
 v3:=Tryz.zeroValue3
 t4:=Tryz.underlying4
 a4:=Tryz.isAgg4
 z4:=Tryz.sizeOf4
 v4:=Tryz.zeroValue4
 t5:=Tryz.underlying5
 a5:=Tryz.isAgg5
 z5:=Tryz.sizeOf5
 v5:=Tryz.zeroValue5
 t9:=Tryz.underlying9
 a9:=Tryz.isAgg9
 z9:=Tryz.sizeOf9
 v9:=Tryz.zeroValue9
 t21:=Tryz.underlying21
 a21:=Tryz.isAgg21
 z21:=Tryz.sizeOf21
 v21:=Tryz.zeroValue21
 t31:=Tryz.underlying22
 a31:=Tryz.isAgg22
 z31:=Tryz.sizeOf22
 v31:=Tryz.zeroValue22
 t40:=Tryz.underlying249
 a40:=Tryz.isAgg249
 z40:=Tryz.sizeOf249
 v40:=Tryz.zeroValue249
 t46:=Tryz.underlying152
 a46:=Tryz.isAgg152
 z46:=Tryz.sizeOf152
 v46:=Tryz.zeroValue152
 t49:=Tryz.underlying290
 a49:=Tryz.isAgg290
 z49:=Tryz.sizeOf290
 v49:=Tryz.zeroValue290
 t51:=Tryz.underlying201
 a51:=Tryz.isAgg201
 z51:=Tryz.sizeOf201
 v51:=Tryz.zeroValue201
 t119:=Tryz.underlying247
 a119:=Tryz.isAgg247
 z119:=Tryz.sizeOf247
 t141:=Tryz.underlying277
 a141:=Tryz.isAgg277
 z141:=Tryz.sizeOf277
 v141:=Tryz.zeroValue277
 t152:=Tryz.underlying273
 a152:=Tryz.isAgg273
 z152:=Tryz.sizeOf273
 v152:=Tryz.zeroValue273
 t154:=Tryz.underlying275
 a154:=Tryz.isAgg275
 z154:=Tryz.sizeOf275
 v154:=Tryz.zeroValue275
 t193:=Tryz.underlying286
 a193:=Tryz.isAgg286
 z193:=Tryz.sizeOf286
 v193:=Tryz.zeroValue286
 t194:=Tryz.underlying287
 a194:=Tryz.isAgg287
 z194:=Tryz.sizeOf287
 v194:=Tryz.zeroValue287
 t196:=Tryz.underlying289
 a196:=Tryz.isAgg289
 z196:=Tryz.sizeOf289
 v196:=Tryz.zeroValue289
 t198:=Tryz.underlying292
 a198:=Tryz.isAgg292
 z198:=Tryz.sizeOf292
 v198:=Tryz.zeroValue292
 t201:=Tryz.underlying295
 a201:=Tryz.isAgg295
 z201:=Tryz.sizeOf295
 v201:=Tryz.zeroValue295
 t226:=Tryz.underlying300
 a226:=Tryz.isAgg300
 z226:=Tryz.sizeOf300
 v226:=Tryz.zeroValue300
 t227:=Tryz.underlying301
 a227:=Tryz.isAgg301
 z227:=Tryz.sizeOf301
 v227:=Tryz.zeroValue301
 g0:=by kernel_rfl
 g6:=by kernel_rfl }
open Go.RowKit Go.Lib in
theorem Tryz.strings_Fields (s : ByteArray) (w : World) (u : s.size < 4294967281) (h : ∀ (j : Nat) b,s.data.toList[j]? = some b → b.toNat < 128) (m : Lib.TabIs Tryz.prog w "strings.asciiSpace" .u8 Lib.asciiSpaceTab) :
  Calls Tryz.prog 184 #[.string s] w λe w' =>
   e=.returned (.slice (some ⟨w.heap.size,0,none⟩) (Lib.fields s.data.toList).length (Lib.fields s.data.toList).length)/\w'=w.alloc (.cells ((Lib.fields s.data.toList).map λl=>Value.string ⟨l.toArray⟩).toArray 9):=Any.strings_Fields Tryz.lays157 (by kernel_rfl) (by kernel_rfl) s w u h m
end Go.Proofs
namespace Go.AV
open Go Go.Proofs
theorem R.known{C:Ctx}{F:Fr}{g:Gh}{s:St}{w w':World}(h:R C F g s w)(z:∀b,b<w.heap.size->w'.heap[b]?=w.heap[b]?)(G:(w'.os,w'.output)=(w.os,w.output))
  {b:Nat}(O:w.heap.size<=b){vs rest:List Value}{e:TypeId}{fr:Nat × Nat}(M:w'.heap[b]?=some (.cells (vs++rest).toArray e fr)) :
  R C F (g.know b vs) s w'/\g.le (g.know b vs):=by
 have H:g.pi b=none:=by
  cases m:g.pi b with
  | none=>rfl
  | some pre=>have:=h.lt_pi m;omega
 have y:=aDf H vs
 refine⟨(h.keep z G).ghost y ?_ ?_ ?_ rfl rfl (λc o ho=>by
  have:c≠b:=by have:=h.lt_frm ho;omega
  simp only[Gh.know,this,↓reduceIte]),y⟩
 .intro c k u m;have:k≠b:=by have:=h.bet c k u;omega
  simp only[Gh.know,this,↓reduceIte];exact m
 .intro c pre m;by_cases u:c=b
  .subst u;simp only[Gh.know,↓reduceIte,bV]at m;subst m;exact⟨rest,e,fr,M⟩
  .simp only[Gh.know,u,↓reduceIte]at m;rw[z _ (h.lt_pi m)];exact h.pis c pre m
 .intro t n e v c xs _ _ u B;have:c≠b:=by have:=h.lt_pi B;omega
  simp only[Gh.know,this,↓reduceIte];exact B
theorem aUv : prog.globalNamed "strings.asciiSpace" = some 0 := by kernel_rfl
theorem aDQ:aBk=Lib.asciiSpaceTab.map (λz=>A.int .u8 z):=by kernel_rfl
def sA(x:aC):Value:=.string ⟨x.toArray⟩
theorem aFC(x:aC)(l:List aC)(hl:Lib.fields x=l)(hn:l.length<=1000)(hx:x.length<4294967281)(ha:∀c,c∈x->c.toNat<128)(s:St)(KV Kp:St->A->Prop)(hk:KV s (.list none (l.map .str))):Den cx 184 [.str x] KV Kp s:=by
 intro F g w vals hR H;change OutV cx F g KV Kp ((callFunc 184 vals.toArray).run prog w);rw[aAx (P:=prog) func184 rfl rfl vals.toArray w];obtain⟨v,Z,hr⟩:=H.get (j:=0) rfl;have U:=H.1
 have b0:vals=[.string ⟨x.toArray⟩]:=by
  match vals,U,Z with
  | [y],_,h=>simp only[mO,bV]at h;subst h;rw[hr.str_inv]
 subst b0
 have G : Lib.TabIs prog w "strings.asciiSpace" .u8 Lib.asciiSpaceTab := by
  obtain⟨pre,ty,fr,h1,h2,h3,h4,h5⟩:=hR.gpi (b:=0) (cs:=aBk) rfl;unfold Lib.TabIs World.var?;rw[aUv];simp only[sG,h1,bV];congr 1;apply List.ext_getElem?;intro i;by_cases m:i<aBk.length
  .have z:i<pre.length:=by rw[h3];exact m
   have M:aBk[i]?=some (.int .u8 (Lib.asciiSpaceTab[i]'(by rw[aDQ]at m;simpa using m))):=by
    rw[dI m];simp[aDQ]
   have:=h5 i _ _ M (dI z);rw[dI z,this.int_inv];rw[aDQ]at m;simp only[aO]at m;simp[m]
  .rw[uU aB,uU (by rw[aDQ]at m;simpa using m)]
 refine Calls.mono (strings_Fields ⟨x.toArray⟩ w (show x.toArray.size<4294967281 by simpa using hx) (λj b u=>ha b (bK (gQ u))) G) λe w' z=>?_
 obtain⟨rfl,rfl⟩:=z;have e1:Lib.fields (⟨x.toArray⟩:ByteArray).data.toList=l:=by rw[<-hl]
 rw[e1]
 have B:∀b,b<w.heap.size->(w.alloc (.cells (l.map λl=>Value.string ⟨l.toArray⟩).toArray 9)).heap[b]?=w.heap[b]?:=λb hb=>by
  simp only[World.alloc];rw[Array.getElem?_push_lt hb];exact(aBw hb).symm
 obtain⟨O,S⟩:=hR.known (vs:=l.map sA) (rest:=[]) (e:=9) (fr:=(0,0)) B rfl (bJ _) (by
  simp only[World.alloc,dK];rw[Array.getElem?_push_size];rfl)
 refine⟨_,_,s,S,O,?_,hk⟩
 have key:Rz (g.know w.heap.size (l.map sA)) (.list none (l.map .str)) (.slice (some ⟨w.heap.size,0,none⟩) (l.map A.str).length l.length):=by
  refine .list none _ w.heap.size 0 1 l.length (l.map sA) (by simp[Gh.know]) bA bA (by simp only[maxLen];omega) ?_ ?_ ?_ (λt h=>by cases h)
  .intro y hy;obtain⟨p,_,rfl⟩:=cN.1 hy;rfl
  .intro y hy c M;obtain⟨p,_,rfl⟩:=cN.1 hy;simp only[A.cells,bO]at M;subst M;rfl
  .intro i y j c v m u H;rw[nH]at m;obtain⟨p,z,rfl⟩:=tG.1 m;simp only[A.cells]at u
   obtain rfl:j=0:=by
    have:=(dZ.1 u).1;simp at this;omega
   simp only[mO,bV]at u;subst u;simp only[iQ,Nat.mul_one,lD,nH,z,lL,bV]at H;subst H;exact .str p
 rw[aO]at key;exact key
end Go.AV
end
