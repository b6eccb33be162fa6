/-
  Of DefBack.
-/
import Derived.Test.YtamikhobdffnfaaGreatDoorBa03
import Derived.Lib.Bytealg
import Derived.Laws.Externs
import Derived.Laws.RangeAny
set_option linter.all false
set_option maxRecDepth 99999
set_option maxHeartbeats 0
namespace Go.AV
open Go Go.Proofs Tryz
attribute [go_sem] Nat.reduceLT Nat.reduceEqDiff Nat.reduceBEq Nat.reduceAdd Nat.reduceLeDiff Nat.reduceMul reduceIte reduceCtorEq List.map kS sQ List.elem tR aBQ fF gB aV aG aH lM List.getElem?_cons_succ fH Nat.add_zero aZ bA yG wV List.take_succ_cons List.take_zero List.drop_succ_cons List.take_nil Nat.succ_eq_add_one yN Int.toNat_zero Nat.sub_zero Nat.zero_lt_succ fS fG fX fE
abbrev aD:=List UInt8
structure Fault where
 code:Int
 name:aD
 line:Int
 col:Int
 deriving DecidableEq
def Fault.none:Fault:=⟨0,[],0,0⟩
def Fault.cs(f:Fault):List A:=[.int .i64 f.code,.str f.name,.int .i64 f.line,.int .i64 f.col]
def Fault.enc(f:Fault):A:=.agg f.cs
structure Tok where
 kind:Int
 text:aD
 n:Int
 line:Int
 col:Int
 deriving DecidableEq
def Tok.cs(t:Tok):List A:=[.int .i64 t.kind,.str t.text,.int .i64 t.n,.int .i64 t.line,.int .i64 t.col]
def Tok.enc(t:Tok):A:=.agg t.cs
inductive Tm where
 | mk (kind n:Int) (text sort:aD) (kids rest:List Tm)
def Tm.kind:Tm->Int|.mk k _ _ _ _ _=>k
def Tm.n:Tm->Int|.mk _ n _ _ _ _=>n
def Tm.text:Tm->aD|.mk _ _ t _ _ _=>t
def Tm.sort:Tm->aD|.mk _ _ _ s _ _=>s
def Tm.kids:Tm->List Tm|.mk _ _ _ _ h _=>h
def Tm.rest:Tm->List Tm|.mk _ _ _ _ _ h=>h
mutual
def Tm.enc:Tm->A
 | .mk k n t s ks rs=>.agg [.int .i64 k,.int .i64 n,.str t,.str s,.list none (aCn ks),.list none (aCn rs)]
def aCn:List Tm->List A
 | []=>[]
 | t::r=>t.enc::aCn r
end
theorem aIQ:∀l:List Tm,aCn l=l.map Tm.enc
 | []=>rfl
 | t::r=>by rw[aCn,aIQ r];rfl
def Tm.cs(t:Tm):List A:=[.int .i64 t.kind,.int .i64 t.n,.str t.text,.str t.sort,.list none (t.kids.map Tm.enc),.list none (t.rest.map Tm.enc)]
theorem Tm.enc_eq(t:Tm):t.enc=.agg t.cs:=by
 cases t;simp only[Tm.enc,Tm.cs,Tm.kind,Tm.n,Tm.text,Tm.sort,Tm.kids,Tm.rest,aIQ]
structure Below where
 low:aD
 high:aD
 deriving DecidableEq
def Below.cs(b:Below):List A:=[.str b.low,.str b.high]
def Below.enc(b:Below):A:=.agg b.cs
structure Piece where
 text:aD
 sort:aD
 deriving DecidableEq
def Piece.cs(b:Piece):List A:=[.str b.text,.str b.sort]
def Piece.enc(b:Piece):A:=.agg b.cs
structure Opr where
 name:aD
 args:List aD
 sort:aD
 pieces:List Piece
 prec:Int
 assoc:Int
 strict:List Int
 deriving DecidableEq
def Opr.cs(o:Opr):List A:=[.str o.name,.list none (o.args.map .str),.str o.sort,.list none (o.pieces.map Piece.enc),.int .i64 o.prec,.int .i64 o.assoc,.list none (o.strict.map (.int .i64))]
def Opr.enc(o:Opr):A:=.agg o.cs
structure Sig where
 sorts:List aD
 below:List Below
 ops:List Opr
 funs:List Opr
 values:List aD
def Sig.cs(s:Sig):List A:=[.list none (s.sorts.map .str),.list none (s.below.map Below.enc),.list none (s.ops.map Opr.enc),.list none (s.funs.map Opr.enc),.list none (s.values.map .str)]
def Sig.enc(s:Sig):A:=.agg s.cs
structure Eqn where
 left:Tm
 right:Tm
 cond:List Tm
 line:Int
 col:Int
def Eqn.cs(e:Eqn):List A:=e.left.cs++(e.right.cs++[.list none (e.cond.map Tm.enc),.int .i64 e.line,.int .i64 e.col])
def Eqn.enc(e:Eqn):A:=.agg e.cs
structure Cel where
 name:aD
 sort:aD
 init:Tm
 line:Int
 col:Int
def Cel.cs(c:Cel):List A:=.str c.name::.str c.sort::(c.init.cs++[.int .i64 c.line,.int .i64 c.col])
def Cel.enc(c:Cel):A:=.agg c.cs
structure Part where
 cell:aD
 at_:aD
 left:Tm
 right:List Tm
 line:Int
 col:Int
def Part.cs(p:Part):List A:=.str p.cell::.str p.at_::(p.left.cs++[.list none (p.right.map Tm.enc),.int .i64 p.line,.int .i64 p.col])
def Part.enc(p:Part):A:=.agg p.cs
structure Fresh where
 cells:List Tm
def Fresh.cs(f:Fresh):List A:=[.list none (f.cells.map Tm.enc)]
def Fresh.enc(f:Fresh):A:=.agg f.cs
structure Rul where
 name:aD
 parts:List Part
 cond:List Tm
 new:List Fresh
 drop:List aD
 line:Int
 col:Int
def Rul.cs(r:Rul):List A:=[.str r.name,.list none (r.parts.map Part.enc),.list none (r.cond.map Tm.enc),.list none (r.new.map Fresh.enc),.list none (r.drop.map .str),.int .i64 r.line,.int .i64 r.col]
def Rul.enc(r:Rul):A:=.agg r.cs
structure Dfn where
 name:aD
 sig:Sig
 eqs:List Eqn
 once:List Cel
 kind:aD
 many:List Cel
 rules:List Rul
 start:aD
 watch:aD
def Dfn.cs(d:Dfn):List A:=.str d.name::(d.sig.cs++[.list none (d.eqs.map Eqn.enc),.list none (d.once.map Cel.enc),.str d.kind,.list none (d.many.map Cel.enc),.list none (d.rules.map Rul.enc),.str d.start,.str d.watch])
def Dfn.enc(d:Dfn):A:=.agg d.cs
attribute [go_sem] Fault.enc Fault.cs Tok.enc Tok.cs Tm.enc_eq Tm.cs Below.enc Below.cs Piece.enc Piece.cs Opr.enc Opr.cs Sig.enc Sig.cs Eqn.enc Eqn.cs Cel.enc Cel.cs Part.enc Part.cs Fresh.enc Fresh.cs Rul.enc Rul.cs Dfn.enc Dfn.cs
mutual
def Tm.same:Tm->Tm->Bool
 | .mk k n t s ks rs,.mk k' n' t' s' ks' rs'=>decide (k=k')&&(decide (n=n')&&(decide (t=t')&&(decide (s=s')&&(sO ks ks'&&sO rs rs'))))
def sO:List Tm->List Tm->Bool
 | [],[]=>true
 | a::l,b::r=>Tm.same a b&&sO l r
 | _,_=>false
end
theorem aBP{t x:Tm}(h:x∈t.kids):SizeOf.sizeOf x<SizeOf.sizeOf t:=by
 cases t;have:=List.sizeOf_lt_of_mem h;simp only[Tm.kids]at this;simp only[Tm.mk.sizeOf_spec];omega
theorem aFG{t x:Tm}(h:x∈t.rest):SizeOf.sizeOf x<SizeOf.sizeOf t:=by
 cases t;have:=List.sizeOf_lt_of_mem h;simp only[Tm.rest]at this;simp only[Tm.mk.sizeOf_spec];omega
def dJ:=@Tm.enc_eq
def uH(c:Int):Bool:=(decide (97<=c)&&decide (c<=122))||(decide (65<=c)&&decide (c<=90))
def fK(c:Int):Bool:=uH c||((decide (48<=c)&&decide (c<=57))||decide (c=95))
def dT(s:List UInt8):Bool:=match s with
 | []=>false
 | c::_=>decide (s.length<=40)&&(uH c.toNat&&s.all λc=>fK c.toNat)
def mV(x p:aD):Bool:=decide (p.length<=x.length)&&decide (x.take p.length=p)
def oP(x:aD)(c:UInt8):Nat->Int
 | 0=>-1
 | n+1=>if x[n]?=some c then n else oP x c n
def jC(c:Int):Bool:=decide (48<=c)&&decide (c<=57)
def eP:Nat × Nat->aD->Nat × Nat
 | p,[]=>p
 | (l,c),b::r=>if b=10 then eP (l+1,1) r else eP (l,c+1) r
def oM(b:UInt8):Bool:=decide (b=32)||(decide (b=9)||(decide (b=10)||decide (b=13)))
def oX:Nat->aD->Nat
 | 0,_=>0
 | _+1,[]=>0
 | f+1,b::r=>if oM b=true then 1+oX f r
  else if mV (b::r) [47,47]=true then((b::r).takeWhile (λc=>!decide (c=10))).length+oX f ((b::r).drop ((b::r).takeWhile (λc=>!decide (c=10))).length)
  else 0
def fL(w:aD):Nat:=oX w.length w
def lK(b:UInt8):Bool:=decide (32<=b.toNat)&&(decide (b.toNat<=126)&&(!decide (b=34)&&!decide (b=92)))
def oU(x:aD):Bool:=x.all lK&&decide (x.length<=200)
def nM(c:UInt8)(b:UInt8):Bool:=decide (b=c)
def gN(x:aD):Nat:=x.foldl (λn d=>n * 10+(d.toNat-48)) 0
def zX(x:aD):Prop:=∀d,d∈x->48<=d.toNat/\d.toNat<=57
def qW(x:aD):Tok × Nat × Bool :=
 let n:=(x.takeWhile λc=>jC c.toNat).length
 let g:=(x.take n).dropWhile (nM 48)
 if 10<g.length\/(∃c,x[n]?=some c/\fK c.toNat=true) then(⟨0,[],0,0,0⟩,0,false)
 else(⟨2,[],gN g,0,0⟩,n,decide (gN g<=2147483647))
def mI(w:aD):List aD->Nat->Nat
 | [],n=>n
 | x::r,n=>mI w r (if n<x.length/\mV w x=true then x.length else n)
def gO(w:aD)(h:List aD)(op:Bool):Tok × Nat × Bool :=
 match w with
 | []=>(⟨0,[],0,0,0⟩,0,false)
 | c::r =>
  if dT [c] then
   let n:=(w.takeWhile λc=>fK c.toNat).length
   (⟨1,w.take n,0,0,0⟩,n,decide (n<=40))
  else if jC c.toNat then qW w
  else if c=34 then
   let n:=(Lib.indexByte r 34+2).toNat
   (⟨3,r.take (n-2),0,0,0⟩,n,decide (1<n)&&oU (r.take (n-2)))
  else
   let n:=mI w h 0
   let n:=if n=0/\op=true/\(c=39\/c=95) then 1 else n
   (⟨4,w.take n,0,0,0⟩,n,decide (0<n))
def aKw:List UInt8:=[97,100,100,32,115,117,98,32,109,117,108,32,100,105,118,32,109,111,100,32,110,101,103,32,108,116,32,108,101,32,103,116,32,103,101,32,101,113,32,110,101,32,97,110,100,32,111,114,32,110,111,116,32,112,105,99,107,32,99,97,116,32,108,101,110,103,116,104,32,116,101,120,116,32,106,111,105,110,32,103,101,116,32,112,117,116,32,104,97,115,32,100,101,108,32,107,101,121,115,32,115,105,122,101,32,105,115,32,105,115,118,97,108,117,101]
def aB9:List (List UInt8):=[[97,100,100],[115,117,98],[109,117,108],[100,105,118],[109,111,100],[110,101,103],[108,116],[108,101],[103,116],[103,101],[101,113],[110,101],[97,110,100],[111,114],[110,111,116],[112,105,99,107],[99,97,116],[108,101,110,103,116,104],[116,101,120,116],[106,111,105,110],[103,101,116],[112,117,116],[104,97,115],[100,101,108],[107,101,121,115],[115,105,122,101],[105,115],[105,115,118,97,108,117,101]]
def aMT:List UInt8:=[61,62,32,45,62,32,58,32,59,32,44,32,46,32,64,32,124,32,40,32,41,32,91,32,93,32,123,32,125,32,60,32,61,32,45,32,36]
def dR:List (List UInt8):=[[61,62],[45,62],[58],[59],[44],[46],[64],[124],[40],[41],[91],[93],[123],[125],[60],[61],[45],[36]]
def aJD:List UInt8:=[108,97,110,103,117,97,103,101,32,115,111,114,116,32,115,117,98,115,111,114,116,32,118,97,108,117,101,32,111,112,32,102,117,110,32,108,101,116,32,105,102,32,115,116,97,114,116,32,99,101,108,108,32,109,97,110,121,32,119,97,116,99,104,32,114,117,108,101,32,112,114,101,99,32,108,101,102,116,32,114,105,103,104,116,32,115,116,114,105,99,116,32,110,101,119,32,100,114,111,112,32,116,114,117,101,32,102,97,108,115,101]
def iM:List (List UInt8):=[[108,97,110,103,117,97,103,101],[115,111,114,116],[115,117,98,115,111,114,116],[118,97,108,117,101],[111,112],[102,117,110],[108,101,116],[105,102],[115,116,97,114,116],[99,101,108,108],[109,97,110,121],[119,97,116,99,104],[114,117,108,101],[112,114,101,99],[108,101,102,116],[114,105,103,104,116],[115,116,114,105,99,116],[110,101,119],[100,114,111,112],[116,114,117,101],[102,97,108,115,101]]
inductive Lx where
 | ok (l:List Tok)
 | bad (f:Fault)
def lX(m:List aD)(op:Bool):Nat->aD->Nat × Nat->List Tok->Lx
 | _,[],_,h=>.ok h
 | 0,_::_,_,h=>.ok h
 | f+1,c::r,p,h=>match gO (c::r) m op with
  | (t,n,true)=>lX m op f (((c::r).drop n).drop (fL ((c::r).drop n))) (eP (eP p ((c::r).take n)) (((c::r).drop n).take (fL ((c::r).drop n))))
    (h++[⟨t.kind,t.text,t.n,p.1,p.2⟩])
  | (_,_,false)=>.bad ⟨10,[c],p.1,p.2⟩
def kC(h:List aD)(op:Bool)(w:aD):Lx:=lX h op w.length (w.drop (fL w)) (eP (1,1) (w.take (fL w))) []
@[go_sem] theorem aXJ:cx.det=false:=rfl
@[go_sem] theorem aWv(x:A)(l:List A):aCx (x::l)=.list none (x::l):=rfl
@[go_sem] theorem aWW:aCx []=.emp:=rfl
def gs(s:St)(tk:Option Nat)(n:Nat)(e:TypeId):St:=match tk with
 | none=>s
 | some t=>s.setT t (n,e)
@[go_sem] theorem cO(s:St)(tk:Option Nat)(n:Nat)(e:TypeId)(b:Nat):(gs s tk n e).getO b=s.getO b:=by cases tk<;>rfl
@[go_sem] theorem zU(s:St)(tk:Option Nat)(n:Nat)(e:TypeId)(b:Nat)(o:Ob):(gs s tk n e).setO b o=gs (s.setO b o) tk n e:=by cases tk<;>rfl
@[go_sem] theorem aWH(s:St)(t:Nat)(v:Nat × TypeId)(b:Nat)(o:Ob):(s.setT t v).setO b o=(s.setO b o).setT t v:=rfl
attribute [go_sem] pW fQ
@[go_sem] theorem aWx(s:St)(t b:Nat):(s.delT t).getO b=s.getO b:=rfl
@[go_sem] theorem aWt(s:St)(x:Option (Nat × Nat × A))(b:Nat)(o:Ob):(s.setL x).setO b o=(s.setO b o).setL x:=rfl
@[go_sem] theorem aWJ(s:St)(t:Nat)(b:Nat)(o:Ob):(s.delT t).setO b o=(s.setO b o).delT t:=rfl
@[go_sem] theorem aXt(s:St)(x:Option (Nat × Nat × A)):(s.setL x).ls=x:=rfl
theorem iU{s:St}{tk:Option Nat}{n:Nat}{e:TypeId}(h:tk=none->n=0):oF (gs s tk n e) tk n e:=by
 cases tk with
 | none=>exact h rfl
 | some t=>simp only[oF,gs,dM,aF]
theorem fY{s:St}{tk:Option Nat}{n:Nat}{e:TypeId}{t:Nat}(h:tk=some t\/tk=none/\(gs s tk n e).getT t=none)(v:Nat × TypeId):(gs s tk n e).setT t v=s.setT t v:=by
 rcases h with rfl|⟨rfl,_⟩
 .simp only[gs,St.setT,aEd]
 .rfl
theorem gI{s:St}{tk:Option Nat}{n:Nat}{e:TypeId}{t:Nat}(h:tk=some t\/tk=none/\(gs s tk n e).getT t=none)(m:∀t,tk=some t->s.getT t=none):s.getT t=none:=by
 rcases h with rfl|⟨rfl,h⟩
 .exact m t rfl
 .exact h
theorem lI{s s':St}(z:s.ge s'){tk:Option Nat}{n:Nat}{e:TypeId}(h:∀t,tk=some t->s.getT t=none):(gs s tk n e).ge s':=by
 cases tk with
 | none=>exact z
 | some t =>
  refine⟨λb o ho=>z.ob b o ho,λu m H=>?_,λx F=>z.ls x F⟩;have B:=z.tk u m H;have h2:=h t rfl;simp only[gs,dM];by_cases y:t=u
  .subst y;rw[h2]at B;cases B
  .simp only[y,bR];exact B
theorem iN(s:St)(tk:Option Nat)(n:Nat)(e:TypeId)(t:Nat):(gs s tk n e).getT t=if tk=some t then some (n,e) else s.getT t:=by
 cases tk with
 | none=>rfl
 | some u=>simp only[gs,dM,bQ]
theorem aLs{s s':St}{tk:Option Nat}{n:Nat}{e:TypeId}(ho:∀b o,s'.getO b=some o->s.getO b=some o)(hl:∀x,s'.ls=some x->s.ls=some x)
  (u:∀t m,tk≠some t->s'.getT t=some m->s.getT t=some m):(gs s tk n e).ge (gs s' tk n e):=by
 refine⟨λb o h=>by rw[cO]at h⊢;exact ho b o h,λt m h=>?_,λx h=>by cases tk<;>exact hl x h⟩;rw[iN]at h⊢;by_cases e:tk=some t
 .rw[aF e]at h⊢;exact h
 .rw[aB e]at h⊢;exact u t m e h
theorem aHe{s:St}{tk:Option Nat}{n:Nat}{e:TypeId}{t:Nat}{v:Nat × TypeId}(h:tk≠some t):((gs s tk n e).setT t v).ge (gs (s.setT t v) tk n e):=by
 refine⟨λb o h=>by rw[cO]at h;rw[pW,cO];exact h,λu m z=>?_,λx B=>by cases tk<;>exact B⟩;rw[iN,dM]at z;rw[dM,iN];by_cases y:t=u
 .subst y;rw[aB h,aF rfl]at z;rw[aF rfl];exact z
 .rw[aB y]at z⊢;exact z
theorem aI8{Y:St}{t z n:Nat}{u e:TypeId}{v:Nat × TypeId}{x:Option (Nat × Nat × A)}:((((gs Y none z u).setT t v).setT t (n,e)).setL x).ge ((gs Y (some t) n e).setL none):=by
 refine⟨λb o h=>h,λa m h=>?_,λy h=>by cases h⟩;simp only[gs,yK,dM]at h⊢;split at h
 .rename_i e;rw[aF e];exact h
 .rename_i e;rw[aB e,aB e];exact h
theorem aFP{Y:St}{u t H n:Nat}{B e:TypeId}{v:Nat × TypeId}{x:Option (Nat × Nat × A)}(F:Y.getT u=none):(((((gs Y (some u) H B).delT u).setT t v).setT t (n,e)).setL x).ge ((gs Y (some t) n e).setL none):=by
 refine⟨λb o h=>h,λa m h=>?_,λy h=>by cases h⟩;simp only[gs,yK,dM,sN]at h⊢;split at h
 .rename_i e;rw[aF e];exact h
 .rename_i e;rw[aB e];by_cases z:a=u
  .subst z;rw[F]at h;cases h
  .simp only[e,z,Ne.symm z,bR];exact h
theorem aDL{Y s:St}{u t n:Nat}{e:TypeId}(m:((gs Y (some u) n e).delT u).getT t=none)(y:s.getT u=none)(z:∀t,Y.getT t=s.getT t):s.getT t=none:=by
 by_cases h:t=u
 .subst h;exact y
 .simp only[gs,sN,dM,aB h,aB (Ne.symm h)]at m;rw[<-z];exact m
theorem aKj{Y s:St}{u t n:Nat}{e:TypeId}{l:Option (Nat × Nat × A)}(h:(((gs Y (some u) n e).setL l).delT u).getT t=none)(m:s.getT u=none)(y:∀t,Y.getT t=s.getT t):s.getT t=none:=aDL (Y:=Y) h m y
theorem aJk{Y Z:St}{u t S n z:Nat}{B e:TypeId}{v:Nat × TypeId}{x l:Option (Nat × Nat × A)}(F:Y.getT u=none)(M:∀b o,Z.getO b=some o->Y.getO b=some o)(H:∀t,Z.getT t=Y.getT t)(O:z=n) :
  ((((((gs Y (some u) S B).setL l).delT u).setT t v).setT t (z,e)).setL x).ge ((gs Z (some t) n e).setL none):=by
 subst O;refine⟨λb o h=>M b o h,λa m h=>?_,λw h=>by cases h⟩;simp only[gs,yK,dM,sN]at h⊢;split at h
 .rename_i e;rw[aF e];exact h
 .rename_i e;rw[H]at h;by_cases y:a=u
  .subst y;rw[F]at h;cases h
  .simp only[e,y,Ne.symm y,bR];exact h
theorem aG0{Y Z:St}{t n:Nat}{e:TypeId}(u:∀b o,Z.getO b=some o->Y.getO b=some o)(z:∀t,Z.getT t=Y.getT t):((gs Y (some t) n e).setL none).ge ((gs Z (some t) n e).setL none) :=
 ⟨fun b o h => u b o h,fun a m h => by
  simp only[gs,yK,dM]at h⊢;rw[z]at h;exact h,λy h=>by cases h⟩
theorem rO{s:St}{b c:Nat}{o:Ob}(h:(s.setO c o).getO b=none):b≠c/\s.getO b=none:=by
 rw[aL]at h;by_cases e:c=b
 .rw[aF e]at h;cases h
 .rw[aB e]at h;exact⟨λx=>e x.symm,h⟩
theorem iQ(tk:Option Nat)(es:List A)(h:tk=none->es=[]):A.le (gv tk es) (.list none es):=by
 cases tk with
 | none=>rw[h rfl];exact A.le.nil
 | some t=>exact A.le.forget _ _
theorem gR{s s2:St}{t:Nat}{v:Nat × TypeId}(h:s.ge s2):(s.setT t v).ge (s2.setT t v):=by
 refine⟨λb o ho=>h.ob b o ho,λu m y=>?_,λx z=>h.ls x z⟩;rw[dM]at y⊢;split
 .rename_i e;rw[aF e]at y;exact y
 .rename_i e;rw[aB e]at y;exact h.tk u m y
theorem rM{s s2:St}{b:Nat}{o:Ob}(h:s.ge s2):(s.setO b o).ge (s2.setO b o):=by
 refine⟨λc x ho=>?_,λu m z=>h.tk u m z,λx y=>h.ls x y⟩;rw[aL]at ho⊢;split
 .rename_i e;rw[aF e]at ho;exact ho
 .rename_i e;rw[aB e]at ho;exact h.ob c x ho
theorem aCZ(s:St)(t:Nat)(v u:Nat × TypeId):((s.setT t v).setT t u).ge (s.setT t u):=by
 refine⟨λb o h=>h,λx m y=>?_,λx h=>h⟩;rw[dM]at y⊢;split
 .rename_i e;rw[aF e]at y;exact y
 .rename_i e;rw[aB e]at y;rw[dM,aB e];exact y
theorem yL{s:St}{t:Nat}{v:Nat × TypeId}(h:s.getT t=none):(s.setT t v).ge s:=by
 refine⟨λb o h=>h,λx m u=>?_,λx h=>h⟩;rw[dM];by_cases e:t=x
 .subst e;rw[h]at u;cases u
 .rw[aB e];exact u
theorem aRE{X:St}{r q:Nat}{M F z:Ob}(H:X.getO q=none)(_:q≠r):(((X.setO r M).setO q F).setO r z).ge (X.setO r z):=by
 refine⟨λd x h=>?_,λu m B=>B,λx h=>h⟩;rw[aL]at h⊢;by_cases y:r=d
 .rw[aF y]at h⊢;exact h
 .rw[aB y]at h⊢;rw[aL];by_cases h2:q=d
  .subst h2;rw[H]at h;cases h
  .rw[aB h2,aL,aB y];exact h
structure St.gx (s1 s:St) (r:Nat):Prop where
 ob:∀c,c≠r->∀x,s.getO c=some x->s1.getO c=some x
 tk:∀t m,s.getT t=some m->s1.getT t=some m
 ls:∀x,s.ls=some x->s1.ls=some x
theorem gA(s:St)(r:Nat):s.gx s r:=⟨λ_ _ _ h=>h,λ_ _ h=>h,λ_ h=>h⟩
theorem eX{s1 s:St}{r:Nat}{o:Ob}(h:s1.gx s r):(s1.setO r o).gx s r :=
 ⟨λc m x u=>by rw[aL,aB (Ne.symm m)];exact h.ob c m x u,h.tk,h.ls⟩
theorem dH{s1 s:St}{r b:Nat}{o:Ob}(z:s.getO b=none)(h:s1.gx s r):(s1.setO b o).gx s r :=
 ⟨fun c y x u => by
  rw[aL];by_cases m:b=c
  .subst m;rw[z]at u;cases u
  .rw[aB m];exact h.ob c y x u,h.tk,h.ls⟩
theorem aHf{s1 s:St}{r t:Nat}{v:Nat × TypeId}(B:s.getT t=none)(h:s1.gx s r):(s1.setT t v).gx s r :=
 ⟨h.ob,fun u m z => by
  rw[dM];by_cases y:t=u
  .subst y;rw[B]at z;cases z
  .rw[aB y];exact h.tk u m z,h.ls⟩
theorem St.gx.dropT{s1 s:St}{r t:Nat}{v:Nat × TypeId}(h:s1.gx (s.setT t v) r)(B:s.getT t=none):s1.gx s r :=
 ⟨h.ob,fun u m z => h.tk u m (by
  rw[dM];by_cases y:t=u
  .subst y;rw[B]at z;cases z
  .rw[aB y];exact z),h.ls⟩
theorem iY{s1 s:St}{r:Nat}{tk:Option Nat}{n:Nat}{e:TypeId}(h:s1.gx s r)(m:∀t,tk=some t->s.getT t=none):(gs s1 tk n e).gx s r:=by
 cases tk with
 | none=>exact h
 | some t=>exact aHf (m t rfl) h
theorem rN{s1 s:St}{r:Nat}{l:Option (Nat × Nat × A)}(h:s1.gx s r)(hl:l=s.ls):(s1.setL l).gx s r :=
 ⟨h.ob,h.tk,λx m=>by rw[hl];exact m⟩
theorem vL{s1 s:St}{r:Nat}{l m:Option (Nat × Nat × A)}(h:s1.gx s r)(hl:l=s.ls):((s1.setL m).setL l).gx s r:=rN (s1:=s1) h hl
theorem St.gx.trans{s2 s1 s:St}{r:Nat}(h:s2.gx s1 r)(y:s1.gx s r):s2.gx s r :=
 ⟨λc z x u=>h.ob c z x (y.ob c z x u),λt m B=>h.tk t m (y.tk t m B),λx u=>h.ls x (y.ls x u)⟩
theorem St.gx.ge{s1 s:St}{r:Nat}{o:Ob}(h:s1.gx s r)(y:s1.getO r=some o):s1.ge (s.setO r o):=by
 refine⟨λc x m=>?_,h.tk,h.ls⟩;rw[aL]at m;by_cases u:r=c
 .subst u;rw[aF rfl]at m;rw[y];exact m
 .rw[aB u]at m;exact h.ob c (Ne.symm u) x m
def aBu:List A->List A->Prop
 | [],[]=>True
 | a::l,b::r=>tG a.cells b.cells/\aBu l r
 | _,_=>False
theorem aGJ:∀{l r:List A},aBu l r->l.length=r.length
 | [],[],_=>rfl
 | _::_,_::_,h=>by simp only[aG,aGJ h.2]
theorem aGx:∀{l r:List A},aBu l r->∀(i:Nat) (b:A),r[i]?=some b->∃a:A,l[i]?=some a/\tG a.cells b.cells
 | a::l,b::r,h,0,x,m=>by
  simp only[lM,bQ]at m⊢;subst m;exact⟨a,rfl,h.1⟩
 | a::l,b::r,h,i+1,x,m=>by
  simp only[List.getElem?_cons_succ]at m⊢;exact aGx h.2 i x m
 | [],[],_,_,_,m=>by simp at m
theorem A.le.list{l r:List A}(h:aBu l r):A.le (.list none l) (.list none r):=λg v x=>by
 have m:=aGJ h;cases x with
 | list tk es b off sz cap pre S hl F H hs h1 hh ht =>
  rw[m]
  have z:∀e,e∈r->∃(i:Nat) (a:A),l[i]?=some a/\r[i]?=some e/\tG a.cells e.cells:=λe y=>by
   obtain⟨i,B,rfl⟩:=lN y;obtain⟨a,h2,u⟩:=aGx h i _ (aX B);exact⟨i,a,h2,aX B,u⟩
  refine .list none r b off sz cap pre S (by rw[<-m];exact hl) (by rw[<-m];exact F) H (λe y=>?_) (λe y c F=>?_) (λi e j c v B M hv=>?_) bJ
  .obtain⟨i,a,h2,_,u⟩:=z e y;rw[<-aDQ u];exact hs a (bZ h2)
  .obtain⟨i,a,h2,_,u⟩:=z e y;obtain⟨j,M,rfl⟩:=lN F;exact(zI u j _ (aX M)).choose_spec.2.2
  .obtain⟨a,h2,u⟩:=aGx h i e B;obtain⟨Z,U,O,_⟩:=zI u j c M;exact O g v (hh i a j Z v h2 U hv)
 | list0 tk a cap H ht =>
  have:r=[]:=fW (by rw[<-m];rfl);subst this;exact .list0 none a cap H bJ
theorem aJX{C:Cx}{s:St}{f:FuncId}{args:List A}{KV Kp:St->A->Prop}(h:Den C f args (λs' a=>KV (s'.setL s.ls) a) (λs' a=>Kp (s'.setL s.ls) a) s):Den C f args KV Kp s:=by
 intro F g w vals H O;have u:∀(m:Gh) (s':St) (w':World),g.le m->R C.toCtx F m s' w'->R C.toCtx F m (s'.setL s.ls) w':=λm s' w' U h2=>h2.setL λy M=>(H.lst y M).mono U
 have:=h F g w vals H O;revert this;generalize (callFunc f vals.toArray).run C.P w=r;intro z;cases r with
 | ok x w' =>
  cases x<;>simp only[OutV]at z⊢
  .obtain⟨m,a,s',a1,a2,a3,a4⟩:=z;exact⟨m,a,_,a1,u _ _ _ a1 a2,a3,a4⟩
  .obtain⟨m,s',a1,a2,a3⟩:=z;exact⟨m,_,a1,u _ _ _ a1 a2,a3⟩
  .refine Calls.mono z λen S B=>?_
   cases en with
   | returned v=>obtain⟨m,a,s',a1,a2,a3,a4⟩:=B;exact⟨m,a,_,a1,u _ _ _ a1 a2,a3,a4⟩
   | panicked nE=>obtain⟨m,a,v,s',a0,a1,a2,a3,a4⟩:=B;exact⟨m,a,v,_,a0,a1,u _ _ _ a1 a2,a3,a4⟩
   | outgrown=>exact B
 | halt x w' =>
  cases x<;>simp only[OutV]at z⊢
  obtain⟨m,a,s',a1,a2,a3,a4⟩:=z;exact⟨m,a,_,a1,u _ _ _ a1 a2,a3,a4⟩
@[go_sem] theorem aWu(s:St)(x y:Option (Nat × Nat × A)):(s.setL x).setL y=s.setL y:=rfl
theorem jW{f:FuncId}{l:List A}{KV Kp:St->A->Prop}{s:St}(h:Den cx f l KV Kp s):Den kQ f l KV Kp s:=by assumption
theorem aBg{f:FuncId}{l:List A}{KV Kp:St->A->Prop}{s:St}(h:Den cx f l KV Kp s):Den nN f l KV Kp s:=by assumption
theorem iK{X:St}{H Q:Nat->Prop}(k:∀p,H p->Q p)(h:∀p,X.getO p=none->H p:=by(intro p h;(try simp only[cO,jE,dG]at h);exact h)):∀p,X.getO p=none->Q p:=λp e=>k p (h p e)
theorem wQ{p F:Prop}(f:F)(h:F->p:=by(intro f;simp only[aL,fQ,pW,cO,dG,gU,reduceIte,f]<;>(first|done|rfl|assumption))):p:=h f
structure St.gel (s1 s:St) (L M:List Nat):Prop where
 ob:∀c,c ∉ L->∀x,s.getO c=some x->s1.getO c=some x
 tk:∀t,t ∉ M->∀m,s.getT t=some m->s1.getT t=some m
 ls:∀x,s.ls=some x->s1.ls=some x
theorem zE(s:St)(L M:List Nat):s.gel s L M:=⟨λ_ _ _ h=>h,λ_ _ _ h=>h,λ_ h=>h⟩
theorem qV{s1 s:St}(h:s1.gel s [] []):s1.ge s:=⟨λc x u=>h.ob c bJ x u,λt m y=>h.tk t bJ m y,h.ls⟩
theorem aKm{s1 s:St}{r:Nat}(h:s1.gx s r){L M:List Nat}(B:r∈L):s1.gel s L M :=
 ⟨λc z x u=>h.ob c (λe=>z (e▸B)) x u,λt _ m y=>h.tk t m y,h.ls⟩
theorem aDp{s1 s:St}(h:s1.ge s)(L M:List Nat):s1.gel s L M:=⟨λc _ x u=>h.ob c x u,λt _ m y=>h.tk t m y,h.ls⟩
theorem St.gel.trans{s2 s1 s:St}{L M:List Nat}(h:s2.gel s1 L M)(y:s1.gel s L M):s2.gel s L M :=
 ⟨λc B x u=>h.ob c B x (y.ob c B x u),λt z m F=>h.tk t z m (y.tk t z m F),λx u=>h.ls x (y.ls x u)⟩
theorem xK{s1 s:St}{L M:List Nat}{b:Nat}{o:Ob}(y:s1.getO b=some o)(h:s1.gel s (b::L) M):s1.gel (s.setO b o) L M :=
 ⟨fun c u x m => by
  rw[aL]at m;by_cases e:b=c
  .subst e;rw[aF rfl]at m;rw[y];exact m
  .rw[aB e]at m;exact h.ob c (by simp only[eA,not_or];exact⟨λh=>e h.symm,u⟩) x m,h.tk,h.ls⟩
theorem aKE{s1 s:St}{L M:List Nat}{t:Nat}{v:Nat × TypeId}(z:s1.getT t=some v)(h:s1.gel s L (t::M)):s1.gel (s.setT t v) L M :=
 ⟨h.ob,fun u B m y => by
  rw[dM]at y;by_cases e:t=u
  .subst e;rw[aF rfl]at y;rw[z];exact y
  .rw[aB e]at y;exact h.tk u (by simp only[eA,not_or];exact⟨λh=>e h.symm,B⟩) m y,h.ls⟩
theorem aCt{s1 s:St}{L M:List Nat}{b:Nat}{o:Ob}(y:b∈L)(h:s1.gel s L M):(s1.setO b o).gel s L M :=
 ⟨fun c m x u => by
  rw[aL,aB (λe:b=c=>m (e▸y))];exact h.ob c m x u,h.tk,h.ls⟩
theorem vU{s1 s:St}{L M:List Nat}{b:Nat}{o:Ob}(y:s.getO b=none)(h:s1.gel s L M):(s1.setO b o).gel s L M :=
 ⟨fun c u x m => by
  rw[aL];by_cases e:b=c
  .subst e;rw[y]at m;cases m
  .rw[aB e];exact h.ob c u x m,h.tk,h.ls⟩
theorem aLH{s1 s:St}{L M:List Nat}{t:Nat}{v:Nat × TypeId}(y:t∈M)(h:s1.gel s L M):(s1.setT t v).gel s L M :=
 ⟨h.ob,fun c m x u => by
  rw[dM,aB (λe:t=c=>m (e▸y))];exact h.tk c m x u,h.ls⟩
theorem aLa{s1 s:St}{L M:List Nat}{t:Nat}{v:Nat × TypeId}(y:s.getT t=none)(h:s1.gel s L M):(s1.setT t v).gel s L M :=
 ⟨h.ob,fun c u x m => by
  rw[dM];by_cases e:t=c
  .subst e;rw[y]at m;cases m
  .rw[aB e];exact h.tk c u x m,h.ls⟩
theorem aK4{s1 s:St}{L M:List Nat}{b:Nat}(y:s.getO b=none)(h:s1.gel s (b::L) M):s1.gel s L M :=
 ⟨fun c u x m => h.ob c (by
  simp only[eA,not_or];exact⟨λe=>(by subst e;rw[y]at m;cases m),u⟩) x m,h.tk,h.ls⟩
theorem aMF{s1 s:St}{L M:List Nat}{tk:Option Nat}{n:Nat}{e:TypeId}(h:s1.gel s L M)(m:∀t,tk=some t->s.getT t=none):(gs s1 tk n e).gel s L M:=by
 cases tk with
 | none=>exact h
 | some t=>exact aLa (m t rfl) h
theorem aDv{s1 s:St}{L M:List Nat}{tk:Option Nat}{n:Nat}{e:TypeId}(m:∀t,tk=some t->s1.getT t=some (n,e))(h:s1.gel s L (tk.toList++M)):s1.gel (gs s tk n e) L M:=by
 cases tk with
 | none=>exact h
 | some t=>exact aKE (m t rfl) h
theorem aDj{s1 s:St}{L M:List Nat}{tk:Option Nat}{n:Nat}{e:TypeId}(h:s1.gel s L M):(gs s1 tk n e).gel (gs s tk n e) L M:=by
 cases tk with
 | none=>exact h
 | some t =>
  refine⟨h.ob,λu z m y=>?_,h.ls⟩;simp only[gs,dM]at y⊢;split
  .rename_i e;rw[aF e]at y;exact y
  .rename_i e;rw[aB e]at y;exact h.tk u z m y
theorem aG1{s1:St}{tk:Option Nat}{n:Nat}{e:TypeId}:∀t,tk=some t->(gs s1 tk n e).getT t=some (n,e):=by
 rintro t rfl;rw[iN,aF rfl]
@[go_sem] theorem getT_setO(s:St)(b:Nat)(o:Ob)(t:Nat):(s.setO b o).getT t=s.getT t:=rfl
theorem gB1{s1 s:St}{L M:List Nat}{tk:Option Nat}{n:Nat}{e:TypeId}(h:s1.gel s L (tk.toList++M))(m:∀t,tk=some t->s1.getT t=some (n,e):=by(rintro _ ⟨⟩;simp only[getT_setO,yK,dM,sN,iN,reduceIte,aI,aG,aH,aK,fH,Nat.add_zero]<;>fail)):s1.gel (gs s tk n e) L M:=aDv m h
theorem gB2{s1 s:St}{L M:List Nat}{t:Nat}{v:Nat × TypeId}(h:s1.gel s L M)(m:t∈M:=by(simp only[Option.toList,aZ,bA,eA,true_or,or_true]<;>fail)):(s1.setT t v).gel s L M:=aLH m h
theorem gB3{s1 s:St}{L M:List Nat}{b:Nat}{o:Ob}(h:s1.gel s L M)(m:b∈L:=by(simp only[eA,true_or,or_true]<;>fail)):(s1.setO b o).gel s L M:=aCt m h
abbrev fZ:=Option Nat × Nat × TypeId
def eT(s:St):List fZ->St
 | []=>s
 | o::l=>gs (eT s l) o.1 o.2.1 o.2.2
structure OwnOk (s:St) (l:List fZ):Prop where
 free:∀o,o∈l->∀t,o.1=some t->s.getT t=none
 nil:∀o,o∈l->o.1=none->o.2.1=0
 dst:∀(i j:Nat) (a b:fZ) (t:Nat),l[i]?=some a->l[j]?=some b->a.1=some t->b.1=some t->i=j
@[go_sem] theorem aN (s : St) (l : List fZ) (b : Nat) : (eT s l).getO b = s.getO b := by
  induction l with
  | nil=>rfl
  | cons o l h=>simp only[eT,cO,h]
@[go_sem] theorem zL (s : St) (l : List fZ) (b : Nat) (o : Ob) : (eT s l).setO b o = eT (s.setO b o) l := by
  induction l with
  | nil=>rfl
  | cons a l h=>simp only[eT,zU,h]
theorem aHG(s:St)(tk:Option Nat)(n:Nat)(e:TypeId):(gs s tk n e).ls=s.ls:=by cases tk<;>rfl
@[go_sem] theorem aBb (s : St) (l : List fZ) : (eT s l).ls = s.ls := by
  induction l with
  | nil=>rfl
  | cons o l h=>simp only[eT,aHG,h]
theorem tV(s:St)(l:List fZ)(u:Nat):(eT s l).getT u=match l.find? (λo=>decide (o.1=some u))with|some o=>some o.2|none=>s.getT u:=by
 induction l with
 | nil=>rfl
 | cons o l m =>
  simp only[eT,iN,List.find?];by_cases h:o.1=some u
  .simp only[h,bT,tR]
  .simp only[h,bR,aBQ,m]
theorem aOr{s:St}{l:List fZ}(h:OwnOk s l){k:Nat}{o:fZ}(u:l[k]?=some o){t:Nat}(z:o.1=some t):(eT s l).getT t=some o.2:=by
 rw[tV];cases y:l.find? (λo=>decide (o.1=some t))with
 | none =>
  have:=aAA.1 y o (bZ u);simp[z]at this
 | some a =>
  have F:=List.find?_some y;have h2:=aCR y;obtain⟨j,B,rfl⟩:=lN h2;have m:l[j]?=some l[j]:=aX B;have:=h.dst j k _ _ t m u (gQ F) z;subst this;rw[m]at u;cases u;rfl
theorem aPw{s:St}{l:List fZ}{t:Nat}(h:∀o,o∈l->o.1≠some t):(eT s l).getT t=s.getT t:=by
 rw[tV,aAA.2 (λo ho=>by simpa using h o ho)]
theorem zR{s:St}{l:List fZ}(h:OwnOk s l){k:Nat}{o:fZ}(m:l[k]?=some o):oF (eT s l) o.1 o.2.1 o.2.2:=by
 obtain⟨tk,n,e⟩:=o;cases tk with
 | none=>exact h.nil _ (bZ m) rfl
 | some t=>exact aOr h m rfl
theorem OwnOk.to{s X:St}{l:List fZ}(h:OwnOk s l)(u:∀t,X.getT t=s.getT t):OwnOk X l:=⟨λo ho t m=>by rw[u];exact h.free o ho t m,h.nil,h.dst⟩
theorem qJ{s X:St}{l:List fZ}(h:OwnOk s l){k:Nat}{o:fZ}(m:l[k]?=some o)(u:∀t,X.getT t=s.getT t):oF (eT X l) o.1 o.2.1 o.2.2:=zR (h.to u) m
theorem qN{s X:St}{l:List fZ}(h:OwnOk s l){k:Nat}{o:fZ}(S:l[k]?=some o){t:Nat}
  (ht:o.1=some t\/o.1=none/\(eT X l).getT t=none)(hX:∀t,X.getT t=s.getT t)(n:Nat):OwnOk s (l.set k (some t,n,o.2.2)):=by
 have m:s.getT t=none/\∀(j:Nat) (a:fZ),l[j]?=some a->a.1=some t->j=k:=by
  rcases ht with e|⟨e,z⟩
  .exact⟨h.free o (bZ S) t e,λj a y B=>h.dst j k a o t y S B e⟩
  .rw[tV]at z;cases Z:l.find? (λo=>decide (o.1=some t))with
   | some a=>rw[Z]at z;cases z
   | none =>
    rw[Z]at z;refine⟨by rw[<-hX];exact z,λj a y B=>?_⟩;have:=aAA.1 Z a (bZ y);simp[B]at this
 have M:k<l.length:=by
  rcases aIG k l.length with h|h
  .exact h
  .rw[sG h]at S;cases S
 refine⟨λa y u hu=>?_,λa y hn=>?_,λi j a b u F H y U=>?_⟩
 .rcases yE y with y|rfl
  .exact h.free a y u hu
  .cases hu;exact m.1
 .rcases yE y with y|rfl
  .exact h.nil a y hn
  .cases hn
 .rw[vG]at F H;split at F<;>split at H
  .rename_i O z;rw[<-O,<-z]
  .rename_i O z
   try rw[aF M]at F
   cases F;cases y;exact(z (m.2 j b H U).symm).elim
  .rename_i O z
   try rw[aF M]at H
   cases H;cases U;exact(O (m.2 i a F y).symm).elim
  .exact h.dst i j a b u F H y U
theorem qP{s X:St}{l:List fZ}(h:OwnOk s l){k:Nat}{o:fZ}(hk:l[k]?=some o){t n:Nat}(h':OwnOk s (l.set k (some t,n,o.2.2)))
  (hX:∀t,X.getT t=s.getT t):((eT X l).setT t (n,o.2.2)).ge (eT X (l.set k (some t,n,o.2.2))):=by
 have b2:k<l.length:=by
  rcases aIG k l.length with h|h
  .exact h
  .rw[sG h]at hk;cases hk
 have z:(l.set k (some t,n,o.2.2))[k]?=some (some t,n,o.2.2):=by rw[vG,aF rfl,aF b2]
 refine⟨λb o h=>by rw[aN]at h;rw[pW,aN];exact h,λu m H=>?_,λx hx=>by rw[aBb]at hx;show(eT X l).ls=_;rw[aBb];exact hx⟩;rw[dM];rw[tV]at H;cases U:(l.set k (some t,n,o.2.2)).find? (λo=>decide (o.1=some u))with
 | some a =>
  rw[U]at H;have S:=List.find?_some U;have h2:=aCR U;simp only[dE]at S;obtain⟨j,hj,e⟩:=lN h2;have y:(l.set k (some t,n,o.2.2))[j]?=some a:=by rw[aX hj,e]
  by_cases F:t=u
  .subst F;have:=h'.dst j k a _ t y z S rfl;subst this;rw[y]at z;cases z;rw[aF rfl];exact H
  .rw[aB F]
   have Z:k≠j:=λe=>by
    subst e;rw[y]at z;cases z;exact F (gQ S)
   rw[vG,aB Z]at y
   have h3:(eT X l).getT u=some a.2:=by
    rw[tV];cases B:l.find? (λo=>decide (o.1=some u))with
    | none =>
     have:=aAA.1 B a (bZ y);simp[S]at this
    | some c =>
     have M:=List.find?_some B;simp only[dE]at M;obtain⟨i,hi,e⟩:=lN (aCR B);have O:l[i]?=some c:=by rw[aX hi,e]
     have:=h.dst i j c a u O y M S;subst this;rw[O]at y;cases y;rfl
   rw[h3];exact H
 | none =>
  rw[U]at H;have b0:=aAA.1 U
  have F:¬ t=u:=λe=>by
   have:=b0 _ (bZ z);simp[e]at this
  rw[aB F,tV];cases B:l.find? (λo=>decide (o.1=some u))with
  | none=>exact H
  | some c =>
   have M:=List.find?_some B;simp only[dE]at M;have:=h.free c (aCR B) u M;rw[<-hX]at this;have H:X.getT u=some m:=H;rw[this]at H;cases H
theorem lH{X Y:St}{l:List fZ}(h:X.ge Y):(eT X l).ge (eT Y l):=by
 induction l with
 | nil=>exact h
 | cons o l m=>exact qV (aDj (aDp m _ _))
theorem aLG{X s:St}{l:List fZ}{L M:List Nat}(m:∀o,o∈l->∀t,o.1=some t->s.getT t=none)(h:X.gel s L M):(eT X l).gel s L M:=by
 induction l with
 | nil=>exact h
 | cons o l y=>exact aMF (y λa u=>m a (by simp[u])) (m o bJ)
theorem aHB{X s:St}{l:List fZ}{r:Nat}(m:∀o,o∈l->∀t,o.1=some t->s.getT t=none)(h:X.gx s r):(eT X l).gx s r:=by
 induction l with
 | nil=>exact h
 | cons o l y=>exact iY (y λa u=>m a (by simp[u])) (m o bJ)
theorem aKr{s:St}{l:List fZ}{s2:St}(m:s.ge s2)(h:∀o,o∈l->∀t,o.1=some t->s2.getT t=none):(eT s l).ge s2:=qV (aLG h (aDp m _ _))
theorem jM{X:St}{H Q:Nat->Prop}(k:∀p,H p->Q p)(h:∀p,X.getO p=none->H p:=by(intro p h;(try simp only[aN,cO,jE,dG]at h);exact h)):∀p,X.getO p=none->Q p:=λp e=>k p (h p e)
theorem aKz{α:Type}(p:α->Bool)(a:α)(m:p a=false):∀(l:List α) (k:Nat),(∀x,l[k]?=some x->p x=false)->(l.set k a).find? p=l.find? p
 | [],k,h=>by simp
 | x::l,0,h=>by
  have:=h x bJ;simp only[yG,List.find?,m,this]
 | x::l,k+1,h=>by
  have u:=aKz p a m l k (λy z=>h y (gQ z));simp only[wV,List.find?,u]
theorem aKb{s X:St}{l:List fZ}(h:OwnOk s l){k:Nat}{o:fZ}(m:l[k]?=some o)(n:Nat)(e:TypeId)(u:Nat) :
  (gs (eT X (l.set k (none,n,e))) o.1 o.2.1 o.2.2).getT u=(eT X l).getT u:=by
 rw[iN];by_cases ho:o.1=some u
 .rw[aF ho,tV];cases z:l.find? (λo=>decide (o.1=some u))with
  | none =>
   have:=aAA.1 z o (bZ m);simp[ho]at this
  | some a =>
   have H:=List.find?_some z;obtain⟨j,M,F⟩:=lN (aCR z);have y:l[j]?=some a:=by rw[aX M,F]
   have:=h.dst j k a o u y m (gQ H) ho;subst this;rw[y]at m;cases m;rfl
 .rw[aB ho,tV,tV,aKz _ _ bJ l k (λx B=>by rw[m]at B;cases B;simpa using ho)]
theorem aJ5{s X:St}{l:List fZ}(h:OwnOk s l){k:Nat}{o:fZ}(F:l[k]?=some o)(n:Nat)(e:TypeId) :
  (eT X l).ge (gs (eT X (l.set k (none,n,e))) o.1 o.2.1 o.2.2) :=
 ⟨λb x B=>by rw[cO,aN]at B;rw[aN];exact B,λu m z=>by rw[aKb h F]at z;exact z,λx y=>by rw[aHG,aBb]at y;rw[aBb];exact y⟩
theorem aLj{s X:St}{l:List fZ}{k:Nat}{tk:Option Nat}{m:Nat}{e:TypeId}(H:k<l.length)(h:OwnOk s (l.set k (tk,m,e)))(n:Nat)(e':TypeId) :
  (gs (eT X (l.set k (none,n,e'))) tk m e).ge (eT X (l.set k (tk,m,e))):=by
 have z:(l.set k (tk,m,e))[k]?=some (tk,m,e):=by rw[vG,aF rfl,aF H]
 have y:=aKb (X:=X) h z n e';rw[List.set_set]at y;exact⟨λb x F=>by rw[aN]at F;rw[cO,aN];exact F,λu q M=>by rw[y];exact M,λx B=>by rw[aBb]at B;rw[aHG,aBb];exact B⟩
theorem aL1{s X:St}{l:List fZ}(h:OwnOk s l){k:Nat}{o:fZ}(y:l[k]?=some o)(n:Nat)(e:TypeId)(F:∀t,X.getT t=s.getT t){t:Nat}(z:o.1=some t):(eT X (l.set k (none,n,e))).getT t=none:=by
 rw[aPw,F]
 .exact h.free o (bZ y) t z
 .intro a M u;obtain⟨j,H,B⟩:=lN M;have m:(l.set k (none,n,e))[j]?=some a:=by rw[aX H,B]
  rw[vG]at m;split at m
  .split at m
   .cases m;cases u
   .cases m
  .rename_i O;exact O (h.dst j k a o t m y u z).symm
theorem aKT{s X:St}{l:List fZ}(h:OwnOk s l){k:Nat}(hk:k<l.length)(n:Nat)(e e':TypeId)(hX:∀t,X.getT t=s.getT t){tk:Option Nat}{m:Nat}
  (hf:∀t,tk=some t->(eT X (l.set k (none,n,e'))).getT t=none)(hn:tk=none->m=0):OwnOk s (l.set k (tk,m,e)):=by
 have B:∀t,tk=some t->s.getT t=none/\∀(j:Nat) (a:fZ),j≠k->l[j]?=some a->a.1≠some t:=by
  intro t ht;have O:=hf t ht;rw[tV]at O;cases U:(l.set k (none,n,e')).find? (λo=>decide (o.1=some t))with
  | some a=>rw[U]at O;cases O
  | none =>
   rw[U]at O;refine⟨by rw[<-hX];exact O,λj a z y Z=>?_⟩;have h2:(l.set k (none,n,e'))[j]?=some a:=by rw[vG,aB (λe=>z e.symm)];exact y
   have:=aAA.1 U a (bZ h2);simp[Z]at this
 refine⟨λa y u hu=>?_,λa y M=>?_,λi j a b u F z y hb=>?_⟩
 .rcases yE y with y|rfl
  .exact h.free a y u hu
  .exact(B u hu).1
 .rcases yE y with y|rfl
  .exact h.nil a y M
  .exact hn M
 .rw[vG]at F z;by_cases H:k=i<;>by_cases S:k=j
  .rw[<-H,<-S]
  .rw[aF H,aF hk]at F;rw[aB S]at z;cases F;exact((B u y).2 j b (λe=>S e.symm) z hb).elim
  .rw[aB H]at F;rw[aF S,aF hk]at z;cases z;exact((B u hb).2 i a (λe=>H e.symm) F y).elim
  .rw[aB H]at F;rw[aB S]at z;exact h.dst i j a b u F z y hb
theorem R.soft{C:Ctx}{F:Fr}{g:Gh}{s:St}{w:World}(h:R C F g s w){b:Nat}{e:TypeId}{cs cs':List A}(hb:s.getO b=some (.cells e cs))(hl:tG cs cs') :
  R C F g (s.setO b (.cells e cs')) w where
 env:=h.env
 obj:=λc o ho=>by
  rw[aL]at ho;split at ho
  .rename_i u;subst u;cases ho;obtain⟨k,S,h2,M⟩:=h.obj b _ hb;refine⟨k,S,?_,M⟩;obtain⟨vs,rest,u,y,e3⟩:=h2;refine⟨vs,rest,u,⟨by rw[y.1,aDQ hl],λj a v Z O=>?_⟩,λc B=>?_⟩
   .obtain⟨a0,m,H,_⟩:=zI hl j a Z;exact H g v (y.2 j a0 v m O)
   .obtain⟨j,U,rfl⟩:=lN B;obtain⟨_,_,_,z⟩:=zI hl j cs'[j] (aX U);exact z
  .exact h.obj c o ho
 tok:=h.tok
 sep:=h.sep
 pis:=h.pis
 frm:=h.frm
 glb:=h.glb
 fsh:=h.fsh
 bet:=h.bet
 inj:=h.inj
 dtm:=h.dtm
 lst:=h.lst
 bfr:=h.bfr
theorem Den.soft{C:Cx}{s:St}{f:FuncId}{args:List A}{KV Kp:St->A->Prop}{b:Nat}{e:TypeId}{cs cs':List A}(y:s.getO b=some (.cells e cs))(hl:tG cs cs')
  (h:Den C f args KV Kp (s.setO b (.cells e cs'))):Den C f args KV Kp s:=λF g w vals m u=>h F g w vals (m.soft y hl) u
section
theorem gH{p:Prop}(h:p:=by(simp only[aL,fQ,pW,cO,aN,dG,gU,reduceIte, *]<;>(first|done|rfl|assumption))):p:=h
theorem cD{s1 s:St}(h:s1.ge s:=by(repeat (first|exact aM _|refine hH (by first|(simp only[*];done)|assumption) ?_))):s1.ge s:=h
theorem aY{s1 s:St}{r:Nat}(h:s1.gx s r:=by(repeat (first|refine aHB (by assumption) ?_|exact gA _ _|refine eX ?_|refine iY ?_ (by assumption)|refine aHf (by assumption) ?_|refine dH (by first|(simp only[*];done)|assumption) ?_|refine aHf (by first|(simp only[*];done)|assumption) ?_))):s1.gx s r:=h
theorem nA{s1 s:St}{L M:List Nat}(h:s1.gel s L M:=by(repeat (first|exact zE _ _ _|exact aDp (by assumption) _ _|refine aLG (by assumption) ?_|refine aDj ?_|refine aDv aG1 ?_|refine gB1 ?_|refine gB2 ?_|refine aMF ?_ (by assumption)|refine aLa (by assumption) ?_|refine xK gH ?_|refine gB3 ?_|refine vU (by first|(simp only[*];done)|assumption) ?_))):s1.gel s L M:=h
theorem bC{s1 s:St}(h:s1.gel s [] []:=by exact nA):s1.ge s:=qV h
theorem aR{f:FuncId}{c:Code}{args:List A}{KV Kp:St->A->Prop}{s:St}{fn:Func}(u:cx.P.funcs[f]?=some fn)(V:List Nat)
  (h:iC cx fn.ntmps V c (nK cx fn.results.toList (DK KV) (DK Kp)) (rC 0 args) s)
  (z:fn.body=some c:=by exact rfl)
  (m : (fn.name == "runtime.NumGoroutine") = false := by exact rfl) (y : args.length ≤ fn.ntmps := by exact mO rfl) : Den cx f args KV Kp s :=
 Den.drop (aFY u z m y (bE _ _ _ _ h))
theorem gBo{f:FuncId}{c:Code}{args:List A}{KV Kp:St->A->Prop}{s:St}{fn:Func}(u:kQ.P.funcs[f]?=some fn)(V:List Nat)
  (h:iC kQ fn.ntmps V c (nK kQ fn.results.toList (DK KV) (DK Kp)) (rC 0 args) s)
  (z:fn.body=some c:=by exact rfl)
  (m : (fn.name == "runtime.NumGoroutine") = false := by exact rfl) (y : args.length ≤ fn.ntmps := by exact mO rfl) : Den cx f args KV Kp s :=
 Den.drop (aTw (aFY (C:=kQ) u z m y (bE _ _ _ _ h)))
theorem aT{P:Option A->Prop}{b:Bool}(h:b=true->P (some (.bool true)))(h2:b=false->P (some (.bool false))):P (some (.bool b)):=by
 cases b
 .exact h2 rfl
 .exact h rfl
def OT.r:Nat->Nat->OT
 | _,0=>.nil
 | i,k+1=>.node i (OT.r (i+1) k)
attribute [go_sem] OT.r
section
variable {C:Cx} {n:Nat} {ops:Array Oper} {s:St} {Kp:St->A->Prop} {id:Nat} {V:List Nat} {Q0:XK->Env->St->Prop} {e:Env}
theorem bO(t:OT)(E:List (Nat × List Nat))
  (h:jG C n (ops.toList.map (·.dst)) ops.toList E (nI V Q0) (aAl Q0 (ops.toList.map (·.dst)) e) t [] e s)
  (u:C.P.follows .mixedOrders=true:=by exact aSF)
  (m:(okE ops E&&rI ops ops.size (Array.replicate ops.size false) t&&aEl C.tt ops)=true:=by decide +kernel) :
  aEt C n id ops (oD (nI V Q0) Q0) e s:=aTm t E u m h
end
end
def cV{α:Type}(r:α->α->Bool):List α->List α->Bool
 | [],[]=>true
 | a::xs,b::ys=>r a b&&cV r xs ys
 | _,_=>false
theorem qI{α:Type}{r:α->α->Bool}:∀{xs ys:List α},xs.length≠ys.length->cV r xs ys=false
 | [],[],h=>cM rfl h
 | [],_::_,_=>rfl
 | _::_,[],_=>rfl
 | a::xs,b::ys,h=>by simp only[cV,qI (r:=r) (xs:=xs) (ys:=ys) (gQ h),fX]
theorem jI{α:Type}{r:α->α->Bool}:∀{xs ys:List α},xs.length=ys.length->(cV r xs ys=true↔∀(i:Nat) (a b:α),xs[i]?=some a->ys[i]?=some b->r a b=true)
 | [],[],_=>by simp[cV]
 | [],_::_,h=>by simp at h
 | _::_,[],h=>by simp at h
 | a::xs,b::ys,h=>by
  rw[cV,cT,jI (gQ h)];constructor
  .rintro⟨z,h2⟩ i x y m u;cases i with
   | zero=>simp at m u;subst m;subst u;exact z
   | succ i=>exact h2 i x y (gQ m) (gQ u)
  .intro h;exact⟨h 0 a b bJ bJ,λi x y m u=>h (i+1) x y (gQ m) (gQ u)⟩
theorem aOS{α:Type}(enc:α->A)(r:α->α->Bool)(f:FuncId)(first m:List A)(s:St)(xs ys:List α)(KV Kp)
  (hz:∀a,∃cs,enc a=.agg cs/\cs.length=15/\gD cs=true)
  (hf:∀a b s' KV Kp,a∈xs->b∈ys->s'.ge s->KV s' (.bool (r a b))->Den cx f (first++[enc a,enc b]++m) KV Kp s')
  (hk:KV s (.bool (cV r xs ys))):Den cx 69 [.list none (xs.map enc),.list none (ys.map enc),.fn f first m] KV Kp s:=by
 refine iO λb0=>?_
 have b3:=b0 _ (bU ..);(refine aR func69 [0,1,2,6,7,8,9,14,15,16,17,18,30] ?_;simp only[go_sem,ntmps69,f69])
 (apply aT<;>intro h)<;>simp only[go_sem,h]
 .exact aO (by rwa[qI (by intro e;simp[e]at h)]at hk)
 .have z:xs.length=ys.length:=by simp at h;omega
  refine Ex.loop (λi=>[(0,.list none (xs.map enc)),(1,.list none (ys.map enc)),(2,.fn f first m),(15,.list none (xs.map enc)),(16,.int .i64 xs.length),(17,.int .i64 (i:Nat))]) (λ_=>s)
     (λi=>i<=xs.length/\∀(j:Nat) a b,j<i->xs[j]?=some a->ys[j]?=some b->r a b=true) (λi=>xs.length-i) 0 ⟨aU _,λj _ _ hj=>by omega⟩ ?_ (aM s) ?_
  .simp only[go_sem];exact rfl
  .rintro i ⟨hi,B⟩;refine bE (V:=[0,1,2,6,7,8,9,14,15,16,17,18,30]) _ _ _ _ ?_;simp only[go_sem]
   (apply aT<;>intro h)<;>simp only[go_sem,h]
   .have u:i<xs.length:=gQ h;have O:i<ys.length:=by omega
    obtain⟨a,ha⟩:∃a,xs[i]?=some a:=⟨_,aX u⟩
    obtain⟨b,U⟩:∃b,ys[i]?=some b:=⟨_,aX O⟩
    obtain⟨ca,ea,H,oa⟩:=hz a;obtain⟨cb,eb,lb,ob⟩:=hz b;simp only[go_sem,ha,ea,H,u,oa,eG (Nat.le_of_eq H)];(refine aQ λp M=>?_);simp only[go_sem,M,oa,H,U,eb,lb,ob,O,eG (Nat.le_of_eq H),eG (Nat.le_of_eq lb)];(refine aQ λq Z=>?_);simp only[go_sem,M,Z,oa,H,U,eb,lb,ob,eG (Nat.le_of_eq H),eG (Nat.le_of_eq lb)];rw[<-ea,<-eb];refine hf a b _ _ _ (bZ ha) (bZ U) (hH Z.2 (eB M)) ?_;simp only[go_sem]
    (apply aT<;>intro h)<;>simp only[go_sem,h]
    .have hr:r a b=false:=gQ h;refine aS (s2:=s) ?_ (hH Z.2 (eB M))
     have:cV r xs ys=false:=by
      rw[rK];intro he;have:=(jI z).1 he i a b ha U;rw[hr]at this;cases this
     rwa[this]at hk
    .have hr:r a b=true:=gQ h;refine⟨i+1,⟨by omega,λj x y hj F S=>?_⟩,by omega,?_,hH Z.2 (eB M)⟩
     .by_cases b2:j=i
      .subst b2;rw[ha]at F;rw[U]at S;cases F;cases S;exact hr
      .exact B j x y aC F S
     .simp only[go_sem,b3.wrap (i:=i) (gQ u)]
   .have u:i=xs.length:=by simp at h;omega
    have:cV r xs ys=true:=(jI z).2 λj x y F S=>B j x y (by rw[u];exact(eF.1 F).1) F S
    exact aO (by rwa[this]at hk)
theorem aOX{α:Type}(enc:α->A)(r:α->α->Bool)(f:FuncId)(first m:List A)(s:St)(xs ys:List α)(KV Kp)
  (hz:∀a,∃cs,enc a=.agg cs/\cs.length=10/\gD cs=true)
  (hf:∀a b s' KV Kp,a∈xs->b∈ys->s'.ge s->KV s' (.bool (r a b))->Den cx f (first++[enc a,enc b]++m) KV Kp s')
  (hk:KV s (.bool (cV r xs ys))):Den cx 71 [.list none (xs.map enc),.list none (ys.map enc),.fn f first m] KV Kp s:=by
 refine iO λb0=>?_
 have b3:=b0 _ (bU ..);(refine aR func71 [0,1,2,6,7,8,9,14,15,16,17,18,30] ?_;simp only[go_sem,ntmps71,f71])
 (apply aT<;>intro h)<;>simp only[go_sem,h]
 .exact aO (by rwa[qI (by intro e;simp[e]at h)]at hk)
 .have z:xs.length=ys.length:=by simp at h;omega
  refine Ex.loop (λi=>[(0,.list none (xs.map enc)),(1,.list none (ys.map enc)),(2,.fn f first m),(15,.list none (xs.map enc)),(16,.int .i64 xs.length),(17,.int .i64 (i:Nat))]) (λ_=>s)
     (λi=>i<=xs.length/\∀(j:Nat) a b,j<i->xs[j]?=some a->ys[j]?=some b->r a b=true) (λi=>xs.length-i) 0 ⟨aU _,λj _ _ hj=>by omega⟩ ?_ (aM s) ?_
  .simp only[go_sem];exact rfl
  .rintro i ⟨hi,B⟩;refine bE (V:=[0,1,2,6,7,8,9,14,15,16,17,18,30]) _ _ _ _ ?_;simp only[go_sem]
   (apply aT<;>intro h)<;>simp only[go_sem,h]
   .have u:i<xs.length:=gQ h;have O:i<ys.length:=by omega
    obtain⟨a,ha⟩:∃a,xs[i]?=some a:=⟨_,aX u⟩
    obtain⟨b,U⟩:∃b,ys[i]?=some b:=⟨_,aX O⟩
    obtain⟨ca,ea,H,oa⟩:=hz a;obtain⟨cb,eb,lb,ob⟩:=hz b;simp only[go_sem,ha,ea,H,u,oa,eG (Nat.le_of_eq H)];(refine aQ λp M=>?_);simp only[go_sem,M,oa,H,U,eb,lb,ob,O,eG (Nat.le_of_eq H),eG (Nat.le_of_eq lb)];(refine aQ λq Z=>?_);simp only[go_sem,M,Z,oa,H,U,eb,lb,ob,eG (Nat.le_of_eq H),eG (Nat.le_of_eq lb)];rw[<-ea,<-eb];refine hf a b _ _ _ (bZ ha) (bZ U) (hH Z.2 (eB M)) ?_;simp only[go_sem]
    (apply aT<;>intro h)<;>simp only[go_sem,h]
    .have hr:r a b=false:=gQ h;refine aS (s2:=s) ?_ (hH Z.2 (eB M))
     have:cV r xs ys=false:=by
      rw[rK];intro he;have:=(jI z).1 he i a b ha U;rw[hr]at this;cases this
     rwa[this]at hk
    .have hr:r a b=true:=gQ h;refine⟨i+1,⟨by omega,λj x y hj F S=>?_⟩,by omega,?_,hH Z.2 (eB M)⟩
     .by_cases b2:j=i
      .subst b2;rw[ha]at F;rw[U]at S;cases F;cases S;exact hr
      .exact B j x y aC F S
     .simp only[go_sem,b3.wrap (i:=i) (gQ u)]
   .have u:i=xs.length:=by simp at h;omega
    have:cV r xs ys=true:=(jI z).2 λj x y F S=>B j x y (by rw[u];exact(eF.1 F).1) F S
    exact aO (by rwa[this]at hk)
theorem aOY{α:Type}(enc:α->A)(r:α->α->Bool)(f:FuncId)(first m:List A)(s:St)(xs ys:List α)(KV Kp)
  (hz:∀a,∃cs,enc a=.agg cs/\cs.length=7/\gD cs=true)
  (hf:∀a b s' KV Kp,a∈xs->b∈ys->s'.ge s->KV s' (.bool (r a b))->Den cx f (first++[enc a,enc b]++m) KV Kp s')
  (hk:KV s (.bool (cV r xs ys))):Den cx 73 [.list none (xs.map enc),.list none (ys.map enc),.fn f first m] KV Kp s:=by
 refine iO λb0=>?_
 have b3:=b0 _ (bU ..);(refine aR func73 [0,1,2,6,7,8,9,14,15,16,17,18,30] ?_;simp only[go_sem,ntmps73,f73])
 (apply aT<;>intro h)<;>simp only[go_sem,h]
 .exact aO (by rwa[qI (by intro e;simp[e]at h)]at hk)
 .have z:xs.length=ys.length:=by simp at h;omega
  refine Ex.loop (λi=>[(0,.list none (xs.map enc)),(1,.list none (ys.map enc)),(2,.fn f first m),(15,.list none (xs.map enc)),(16,.int .i64 xs.length),(17,.int .i64 (i:Nat))]) (λ_=>s)
     (λi=>i<=xs.length/\∀(j:Nat) a b,j<i->xs[j]?=some a->ys[j]?=some b->r a b=true) (λi=>xs.length-i) 0 ⟨aU _,λj _ _ hj=>by omega⟩ ?_ (aM s) ?_
  .simp only[go_sem];exact rfl
  .rintro i ⟨hi,B⟩;refine bE (V:=[0,1,2,6,7,8,9,14,15,16,17,18,30]) _ _ _ _ ?_;simp only[go_sem]
   (apply aT<;>intro h)<;>simp only[go_sem,h]
   .have u:i<xs.length:=gQ h;have O:i<ys.length:=by omega
    obtain⟨a,ha⟩:∃a,xs[i]?=some a:=⟨_,aX u⟩
    obtain⟨b,U⟩:∃b,ys[i]?=some b:=⟨_,aX O⟩
    obtain⟨ca,ea,H,oa⟩:=hz a;obtain⟨cb,eb,lb,ob⟩:=hz b;simp only[go_sem,ha,ea,H,u,oa,eG (Nat.le_of_eq H)];(refine aQ λp M=>?_);simp only[go_sem,M,oa,H,U,eb,lb,ob,O,eG (Nat.le_of_eq H),eG (Nat.le_of_eq lb)];(refine aQ λq Z=>?_);simp only[go_sem,M,Z,oa,H,U,eb,lb,ob,eG (Nat.le_of_eq H),eG (Nat.le_of_eq lb)];rw[<-ea,<-eb];refine hf a b _ _ _ (bZ ha) (bZ U) (hH Z.2 (eB M)) ?_;simp only[go_sem]
    (apply aT<;>intro h)<;>simp only[go_sem,h]
    .have hr:r a b=false:=gQ h;refine aS (s2:=s) ?_ (hH Z.2 (eB M))
     have:cV r xs ys=false:=by
      rw[rK];intro he;have:=(jI z).1 he i a b ha U;rw[hr]at this;cases this
     rwa[this]at hk
    .have hr:r a b=true:=gQ h;refine⟨i+1,⟨by omega,λj x y hj F S=>?_⟩,by omega,?_,hH Z.2 (eB M)⟩
     .by_cases b2:j=i
      .subst b2;rw[ha]at F;rw[U]at S;cases F;cases S;exact hr
      .exact B j x y aC F S
     .simp only[go_sem,b3.wrap (i:=i) (gQ u)]
   .have u:i=xs.length:=by simp at h;omega
    have:cV r xs ys=true:=(jI z).2 λj x y F S=>B j x y (by rw[u];exact(eF.1 F).1) F S
    exact aO (by rwa[this]at hk)
theorem aFI{α:Type}(enc:α->A)(r:α->α->Bool)(f:FuncId)(first m:List A)(s:St)(xs ys:List α)(KV Kp)
  (hz:∀a,∃cs,enc a=.agg cs/\cs.length=6/\gD cs=true)
  (hf:∀a b s' KV Kp,a∈xs->b∈ys->s'.ge s->KV s' (.bool (r a b))->Den cx f (first++[enc a,enc b]++m) KV Kp s')
  (hk:KV s (.bool (cV r xs ys))):Den cx 82 [.list none (xs.map enc),.list none (ys.map enc),.fn f first m] KV Kp s:=by
 refine iO λb0=>?_
 have b3:=b0 _ (bU ..);(refine aR func82 [0,1,2,6,7,8,9,14,15,16,17,18,30] ?_;simp only[go_sem,ntmps82,f82])
 (apply aT<;>intro h)<;>simp only[go_sem,h]
 .exact aO (by rwa[qI (by intro e;simp[e]at h)]at hk)
 .have z:xs.length=ys.length:=by simp at h;omega
  refine Ex.loop (λi=>[(0,.list none (xs.map enc)),(1,.list none (ys.map enc)),(2,.fn f first m),(15,.list none (xs.map enc)),(16,.int .i64 xs.length),(17,.int .i64 (i:Nat))]) (λ_=>s)
     (λi=>i<=xs.length/\∀(j:Nat) a b,j<i->xs[j]?=some a->ys[j]?=some b->r a b=true) (λi=>xs.length-i) 0 ⟨aU _,λj _ _ hj=>by omega⟩ ?_ (aM s) ?_
  .simp only[go_sem];exact rfl
  .rintro i ⟨hi,B⟩;refine bE (V:=[0,1,2,6,7,8,9,14,15,16,17,18,30]) _ _ _ _ ?_;simp only[go_sem]
   (apply aT<;>intro h)<;>simp only[go_sem,h]
   .have u:i<xs.length:=gQ h;have O:i<ys.length:=by omega
    obtain⟨a,ha⟩:∃a,xs[i]?=some a:=⟨_,aX u⟩
    obtain⟨b,U⟩:∃b,ys[i]?=some b:=⟨_,aX O⟩
    obtain⟨ca,ea,H,oa⟩:=hz a;obtain⟨cb,eb,lb,ob⟩:=hz b;simp only[go_sem,ha,ea,H,u,oa,eG (Nat.le_of_eq H)];(refine aQ λp M=>?_);simp only[go_sem,M,oa,H,U,eb,lb,ob,O,eG (Nat.le_of_eq H),eG (Nat.le_of_eq lb)];(refine aQ λq Z=>?_);simp only[go_sem,M,Z,oa,H,U,eb,lb,ob,eG (Nat.le_of_eq H),eG (Nat.le_of_eq lb)];rw[<-ea,<-eb];refine hf a b _ _ _ (bZ ha) (bZ U) (hH Z.2 (eB M)) ?_;simp only[go_sem]
    (apply aT<;>intro h)<;>simp only[go_sem,h]
    .have hr:r a b=false:=gQ h;refine aS (s2:=s) ?_ (hH Z.2 (eB M))
     have:cV r xs ys=false:=by
      rw[rK];intro he;have:=(jI z).1 he i a b ha U;rw[hr]at this;cases this
     rwa[this]at hk
    .have hr:r a b=true:=gQ h;refine⟨i+1,⟨by omega,λj x y hj F S=>?_⟩,by omega,?_,hH Z.2 (eB M)⟩
     .by_cases b2:j=i
      .subst b2;rw[ha]at F;rw[U]at S;cases F;cases S;exact hr
      .exact B j x y aC F S
     .simp only[go_sem,b3.wrap (i:=i) (gQ u)]
   .have u:i=xs.length:=by simp at h;omega
    have:cV r xs ys=true:=(jI z).2 λj x y F S=>B j x y (by rw[u];exact(eF.1 F).1) F S
    exact aO (by rwa[this]at hk)
theorem aOn{α:Type}(enc:α->A)(r:α->α->Bool)(f:FuncId)(first m:List A)(s:St)(xs ys:List α)(KV Kp)
  (hz:∀a,∃cs,enc a=.agg cs/\cs.length=7/\gD cs=true)
  (hf:∀a b s' KV Kp,a∈xs->b∈ys->s'.ge s->KV s' (.bool (r a b))->Den cx f (first++[enc a,enc b]++m) KV Kp s')
  (hk:KV s (.bool (cV r xs ys))):Den cx 132 [.list none (xs.map enc),.list none (ys.map enc),.fn f first m] KV Kp s:=by
 refine iO λb0=>?_
 have b3:=b0 _ (bU ..);(refine aR func132 [0,1,2,6,7,8,9,14,15,16,17,18,30] ?_;simp only[go_sem,ntmps132,f132])
 (apply aT<;>intro h)<;>simp only[go_sem,h]
 .exact aO (by rwa[qI (by intro e;simp[e]at h)]at hk)
 .have z:xs.length=ys.length:=by simp at h;omega
  refine Ex.loop (λi=>[(0,.list none (xs.map enc)),(1,.list none (ys.map enc)),(2,.fn f first m),(15,.list none (xs.map enc)),(16,.int .i64 xs.length),(17,.int .i64 (i:Nat))]) (λ_=>s)
     (λi=>i<=xs.length/\∀(j:Nat) a b,j<i->xs[j]?=some a->ys[j]?=some b->r a b=true) (λi=>xs.length-i) 0 ⟨aU _,λj _ _ hj=>by omega⟩ ?_ (aM s) ?_
  .simp only[go_sem];exact rfl
  .rintro i ⟨hi,B⟩;refine bE (V:=[0,1,2,6,7,8,9,14,15,16,17,18,30]) _ _ _ _ ?_;simp only[go_sem]
   (apply aT<;>intro h)<;>simp only[go_sem,h]
   .have u:i<xs.length:=gQ h;have O:i<ys.length:=by omega
    obtain⟨a,ha⟩:∃a,xs[i]?=some a:=⟨_,aX u⟩
    obtain⟨b,U⟩:∃b,ys[i]?=some b:=⟨_,aX O⟩
    obtain⟨ca,ea,H,oa⟩:=hz a;obtain⟨cb,eb,lb,ob⟩:=hz b;simp only[go_sem,ha,ea,H,u,oa,eG (Nat.le_of_eq H)];(refine aQ λp M=>?_);simp only[go_sem,M,oa,H,U,eb,lb,ob,O,eG (Nat.le_of_eq H),eG (Nat.le_of_eq lb)];(refine aQ λq Z=>?_);simp only[go_sem,M,Z,oa,H,U,eb,lb,ob,eG (Nat.le_of_eq H),eG (Nat.le_of_eq lb)];rw[<-ea,<-eb];refine hf a b _ _ _ (bZ ha) (bZ U) (hH Z.2 (eB M)) ?_;simp only[go_sem]
    (apply aT<;>intro h)<;>simp only[go_sem,h]
    .have hr:r a b=false:=gQ h;refine aS (s2:=s) ?_ (hH Z.2 (eB M))
     have:cV r xs ys=false:=by
      rw[rK];intro he;have:=(jI z).1 he i a b ha U;rw[hr]at this;cases this
     rwa[this]at hk
    .have hr:r a b=true:=gQ h;refine⟨i+1,⟨by omega,λj x y hj F S=>?_⟩,by omega,?_,hH Z.2 (eB M)⟩
     .by_cases b2:j=i
      .subst b2;rw[ha]at F;rw[U]at S;cases F;cases S;exact hr
      .exact B j x y aC F S
     .simp only[go_sem,b3.wrap (i:=i) (gQ u)]
   .have u:i=xs.length:=by simp at h;omega
    have:cV r xs ys=true:=(jI z).2 λj x y F S=>B j x y (by rw[u];exact(eF.1 F).1) F S
    exact aO (by rwa[this]at hk)
theorem aOo{α:Type}(enc:α->A)(r:α->α->Bool)(f:FuncId)(first m:List A)(s:St)(xs ys:List α)(KV Kp)
  (hz:∀a,∃cs,enc a=.agg cs/\cs.length=11/\gD cs=true)
  (hf:∀a b s' KV Kp,a∈xs->b∈ys->s'.ge s->KV s' (.bool (r a b))->Den cx f (first++[enc a,enc b]++m) KV Kp s')
  (hk:KV s (.bool (cV r xs ys))):Den cx 136 [.list none (xs.map enc),.list none (ys.map enc),.fn f first m] KV Kp s:=by
 refine iO λb0=>?_
 have b3:=b0 _ (bU ..);(refine aR func136 [0,1,2,6,7,8,9,14,15,16,17,18,30] ?_;simp only[go_sem,ntmps136,f136])
 (apply aT<;>intro h)<;>simp only[go_sem,h]
 .exact aO (by rwa[qI (by intro e;simp[e]at h)]at hk)
 .have z:xs.length=ys.length:=by simp at h;omega
  refine Ex.loop (λi=>[(0,.list none (xs.map enc)),(1,.list none (ys.map enc)),(2,.fn f first m),(15,.list none (xs.map enc)),(16,.int .i64 xs.length),(17,.int .i64 (i:Nat))]) (λ_=>s)
     (λi=>i<=xs.length/\∀(j:Nat) a b,j<i->xs[j]?=some a->ys[j]?=some b->r a b=true) (λi=>xs.length-i) 0 ⟨aU _,λj _ _ hj=>by omega⟩ ?_ (aM s) ?_
  .simp only[go_sem];exact rfl
  .rintro i ⟨hi,B⟩;refine bE (V:=[0,1,2,6,7,8,9,14,15,16,17,18,30]) _ _ _ _ ?_;simp only[go_sem]
   (apply aT<;>intro h)<;>simp only[go_sem,h]
   .have u:i<xs.length:=gQ h;have O:i<ys.length:=by omega
    obtain⟨a,ha⟩:∃a,xs[i]?=some a:=⟨_,aX u⟩
    obtain⟨b,U⟩:∃b,ys[i]?=some b:=⟨_,aX O⟩
    obtain⟨ca,ea,H,oa⟩:=hz a;obtain⟨cb,eb,lb,ob⟩:=hz b;simp only[go_sem,ha,ea,H,u,oa,eG (Nat.le_of_eq H)];(refine aQ λp M=>?_);simp only[go_sem,M,oa,H,U,eb,lb,ob,O,eG (Nat.le_of_eq H),eG (Nat.le_of_eq lb)];(refine aQ λq Z=>?_);simp only[go_sem,M,Z,oa,H,U,eb,lb,ob,eG (Nat.le_of_eq H),eG (Nat.le_of_eq lb)];rw[<-ea,<-eb];refine hf a b _ _ _ (bZ ha) (bZ U) (hH Z.2 (eB M)) ?_;simp only[go_sem]
    (apply aT<;>intro h)<;>simp only[go_sem,h]
    .have hr:r a b=false:=gQ h;refine aS (s2:=s) ?_ (hH Z.2 (eB M))
     have:cV r xs ys=false:=by
      rw[rK];intro he;have:=(jI z).1 he i a b ha U;rw[hr]at this;cases this
     rwa[this]at hk
    .have hr:r a b=true:=gQ h;refine⟨i+1,⟨by omega,λj x y hj F S=>?_⟩,by omega,?_,hH Z.2 (eB M)⟩
     .by_cases b2:j=i
      .subst b2;rw[ha]at F;rw[U]at S;cases F;cases S;exact hr
      .exact B j x y aC F S
     .simp only[go_sem,b3.wrap (i:=i) (gQ u)]
   .have u:i=xs.length:=by simp at h;omega
    have:cV r xs ys=true:=(jI z).2 λj x y F S=>B j x y (by rw[u];exact(eF.1 F).1) F S
    exact aO (by rwa[this]at hk)
theorem aOB{α:Type}(enc:α->A)(r:α->α->Bool)(f:FuncId)(first m:List A)(s:St)(xs ys:List α)(KV Kp)
  (hz:∀a,∃cs,enc a=.agg cs/\cs.length=1/\gD cs=true)
  (hf:∀a b s' KV Kp,a∈xs->b∈ys->s'.ge s->KV s' (.bool (r a b))->Den cx f (first++[enc a,enc b]++m) KV Kp s')
  (hk:KV s (.bool (cV r xs ys))):Den cx 138 [.list none (xs.map enc),.list none (ys.map enc),.fn f first m] KV Kp s:=by
 refine iO λb0=>?_
 have b3:=b0 _ (bU ..);(refine aR func138 [0,1,2,6,7,8,9,14,15,16,17,18,30] ?_;simp only[go_sem,ntmps138,f138])
 (apply aT<;>intro h)<;>simp only[go_sem,h]
 .exact aO (by rwa[qI (by intro e;simp[e]at h)]at hk)
 .have z:xs.length=ys.length:=by simp at h;omega
  refine Ex.loop (λi=>[(0,.list none (xs.map enc)),(1,.list none (ys.map enc)),(2,.fn f first m),(15,.list none (xs.map enc)),(16,.int .i64 xs.length),(17,.int .i64 (i:Nat))]) (λ_=>s)
     (λi=>i<=xs.length/\∀(j:Nat) a b,j<i->xs[j]?=some a->ys[j]?=some b->r a b=true) (λi=>xs.length-i) 0 ⟨aU _,λj _ _ hj=>by omega⟩ ?_ (aM s) ?_
  .simp only[go_sem];exact rfl
  .rintro i ⟨hi,B⟩;refine bE (V:=[0,1,2,6,7,8,9,14,15,16,17,18,30]) _ _ _ _ ?_;simp only[go_sem]
   (apply aT<;>intro h)<;>simp only[go_sem,h]
   .have u:i<xs.length:=gQ h;have O:i<ys.length:=by omega
    obtain⟨a,ha⟩:∃a,xs[i]?=some a:=⟨_,aX u⟩
    obtain⟨b,U⟩:∃b,ys[i]?=some b:=⟨_,aX O⟩
    obtain⟨ca,ea,H,oa⟩:=hz a;obtain⟨cb,eb,lb,ob⟩:=hz b;simp only[go_sem,ha,ea,H,u,oa,eG (Nat.le_of_eq H)];(refine aQ λp M=>?_);simp only[go_sem,M,oa,H,U,eb,lb,ob,O,eG (Nat.le_of_eq H),eG (Nat.le_of_eq lb)];(refine aQ λq Z=>?_);simp only[go_sem,M,Z,oa,H,U,eb,lb,ob,eG (Nat.le_of_eq H),eG (Nat.le_of_eq lb)];rw[<-ea,<-eb];refine hf a b _ _ _ (bZ ha) (bZ U) (hH Z.2 (eB M)) ?_;simp only[go_sem]
    (apply aT<;>intro h)<;>simp only[go_sem,h]
    .have hr:r a b=false:=gQ h;refine aS (s2:=s) ?_ (hH Z.2 (eB M))
     have:cV r xs ys=false:=by
      rw[rK];intro he;have:=(jI z).1 he i a b ha U;rw[hr]at this;cases this
     rwa[this]at hk
    .have hr:r a b=true:=gQ h;refine⟨i+1,⟨by omega,λj x y hj F S=>?_⟩,by omega,?_,hH Z.2 (eB M)⟩
     .by_cases b2:j=i
      .subst b2;rw[ha]at F;rw[U]at S;cases F;cases S;exact hr
      .exact B j x y aC F S
     .simp only[go_sem,b3.wrap (i:=i) (gQ u)]
   .have u:i=xs.length:=by simp at h;omega
    have:cV r xs ys=true:=(jI z).2 λj x y F S=>B j x y (by rw[u];exact(eF.1 F).1) F S
    exact aO (by rwa[this]at hk)
theorem aIR:∀a b:List Tm,sO a b=cV Tm.same a b
 | [],[]=>rfl
 | [],_::_=>rfl
 | _::_,[]=>rfl
 | a::l,b::r=>by rw[sO,cV,aIR l r]
theorem Tm.same_eq(a b:Tm):a.same b=(decide (a.kind=b.kind)&&(decide (a.n=b.n)&&(decide (a.text=b.text)&&(decide (a.sort=b.sort)&&(cV Tm.same a.kids b.kids&&cV Tm.same a.rest b.rest))))):=by
 cases a;cases b;simp only[Tm.same,aIR,Tm.kind,Tm.n,Tm.text,Tm.sort,Tm.kids,Tm.rest];rfl
theorem Tm.hz6(a:Tm):∃cs,a.enc=.agg cs/\cs.length=6/\gD cs=true:=⟨_,a.enc_eq,rfl,rfl⟩
theorem aQl(m:Nat):∀(a b:Tm) (s:St) (KV Kp),SizeOf.sizeOf a<m->KV s (.bool (a.same b))->Den cx 36 [a.enc,b.enc] KV Kp s:=by
 induction m with
 | zero=>intro a b s KV Kp hm;omega
 | succ m ih =>
 intro a b s KV Kp hm hk;rw[Tm.same_eq]at hk;simp only[go_sem];(refine aR func36 [0,1,2,3,4] ?_;simp only[go_sem,ntmps36,f36]);(refine aQ λp hp=>?_);simp only[go_sem,hp];(refine aQ λq hq=>?_);simp only[go_sem,hp,hq]
 (apply aT<;>intro h)<;>simp only[go_sem,h,hp,hq]<;>(try simp only[h,fG,fE,fS,fX,kI,kR,kH,jH,fF,gB]at hk)
 ·(apply aT <;> intro h) <;> simp only [go_sem,h,hp,hq] <;> (try simp only [h,fG,fE,fS,fX,kI,kR,kH,jH,fF,gB] at hk)
  ·(apply aT <;> intro h) <;> simp only [go_sem,h,hp,hq] <;> (try simp only [h,fG,fE,fS,fX,kI,kR,kH,jH,fF,gB] at hk)
   ·(apply aT <;> intro h) <;> simp only [go_sem,h,hp,hq] <;> (try simp only [h,fG,fE,fS,fX,kI,kR,kH,jH,fF,gB] at hk)
    .refine aFI Tm.enc Tm.same 36 [] [] _ _ _ _ _ Tm.hz6 (λx y s' KV' Kp' hx hy hs h'=>ih x y s' KV' Kp' (by have:=aBP hx;omega) h') ?_;simp only[go_sem]
     (apply aT<;>intro h)<;>simp only[go_sem,h,hp,hq]<;>(try simp only[h,fG,fE,fS,fX,kI,kR,kH,jH,fF,gB]at hk)
     .refine aFI Tm.enc Tm.same 36 [] [] _ _ _ _ _ Tm.hz6 (λx y s' KV' Kp' hx hy hs h'=>ih x y s' KV' Kp' (by have:=aFG hx;omega) h') ?_;simp only[go_sem];exact aS hk cD
     .exact aS hk cD
    .exact aS hk cD
   .exact aS hk cD
  .exact aS hk cD
 .exact aS hk cD
theorem aJa(a b:Tm)(s:St)(KV Kp)(h:KV s (.bool (a.same b))):Den cx 36 [a.enc,b.enc] KV Kp s :=
 aQl _ a b s KV Kp (iD _) h
mutual
theorem Tm.same_self:∀a:Tm,a.same a=true
 | .mk k n t s l r=>by simp[Tm.same,aFz l,aFz r]
theorem aFz:∀l:List Tm,sO l l=true
 | []=>rfl
 | a::l=>by simp[sO,Tm.same_self a,aFz l]
end
theorem aPa(m:Nat):∀(xs:List Tm) (l d:Int) (s:St) (KV Kp:St->A->Prop),SizeOf.sizeOf xs<m->(∀n:Int,KV s (.int .i64 n))->Den cx 78 [.list none (xs.map Tm.enc),.int .i64 l,.int .i64 d] KV Kp s:=by
 induction m with
 | zero=>intro xs l d s KV Kp hm;omega
 | succ m O =>
 intro xs l d s KV Kp hm z;refine iO λH=>?_
 have M:=H _ (bU ..);(refine aR func78 [0,1,2,6,8,10,11,12,13,14,29,43] ?_;simp only[go_sem,ntmps78,f78])
 (apply aT<;>intro h)<;>simp only[go_sem,h]
 .exact aO (z _)
 refine Ex.loop (ι:=Int × Nat) (λc=>[(1,.int .i64 c.1),(2,.int .i64 d),(11,.list none (xs.map Tm.enc)),(12,.int .i64 xs.length),(13,.int .i64 (c.2:Nat))]) (λ_=>s)
  (λc=>c.2<=xs.length) (λc=>xs.length-c.2) (l,0) (aU _) ?_ (aM s) ?_
 ·(simp only[go_sem];try exact rfl)
 .clear h;rintro⟨l,i⟩ Z;simp only at Z;refine bE (V:=[0,1,2,6,8,10,11,12,13,14,29,43]) _ _ _ _ ?_;simp only[go_sem]
  (apply aT<;>intro h)<;>simp only[go_sem,h]
  .have y:i<xs.length:=gQ h;obtain⟨x,B⟩:∃a,xs[i]?=some a:=⟨_,aX y⟩
   have F:x∈xs:=bZ B;have b0:=List.sizeOf_lt_of_mem F;have U:SizeOf.sizeOf x.kids<SizeOf.sizeOf x:=by cases x;simp only[Tm.kids,Tm.mk.sizeOf_spec];omega
   have S:SizeOf.sizeOf x.rest<SizeOf.sizeOf x:=by cases x;simp only[Tm.rest,Tm.mk.sizeOf_spec];omega
   clear h;simp only[go_sem,B,y];(refine aQ λb8 u=>?_);simp only[go_sem,B,y,u,Int.reduceEq]
   (apply aT<;>intro h)<;>simp only[go_sem,h,u]
   .exact aS (z _) cD
   clear h;refine O x.kids _ _ _ _ _ aC (λn1=>?_);simp only[go_sem,u];refine O x.rest _ _ _ _ _ aC (λn2=>?_);simp only[go_sem,u]
   (apply aT<;>intro h)<;>simp only[go_sem,h,u]
   .exact aS (z _) cD
   exact⟨(n2,i+1),y,aP,by simp only[go_sem,M.wrap (i:=i) (gQ y)],(jD u)⟩
  .exact aO (z _)
theorem aPl(xs:List Tm)(l d:Int)(s:St)(KV Kp:St->A->Prop)(h:∀n:Int,KV s (.int .i64 n)):Den cx 78 [.list none (xs.map Tm.enc),.int .i64 l,.int .i64 d] KV Kp s :=
 aPa _ xs l d s KV Kp (iD _) h
theorem aRM(xs:List Tm)(l:Int)(s:St)(KV Kp:St->A->Prop)(h:∀b:Bool,KV s (.bool b)):Den cx 33 [.int .i64 l,.list none (xs.map Tm.enc)] KV Kp s:=by
 (refine aR func33 [0,1,4] ?_;simp only[go_sem,ntmps33,f33]);refine aPl xs _ _ _ _ _ (λn=>?_);simp only[go_sem];exact aO (h _)
theorem aFU(s:St)(xs ys:List aD)(KV Kp)(O:KV s (.bool (cV (λa b=>decide (a=b)) xs ys))) :
  Den cx 130 [.list none (xs.map .str),.list none (ys.map .str)] KV Kp s:=by
 refine iO λS=>?_
 have b0:=S _ (bU ..);(refine aR func130 [0,1,4,5,10,12,13,14,24] ?_;simp only[go_sem,ntmps130,f130])
 (first|refine mB (λh=>?_) (λh=>?_)|refine mA (λh=>?_) (λh=>?_)|refine mC (λh=>?_) (λh=>?_))<;>simp only[go_sem,h]
 .exact aO (by rwa[qI (by intro e;simp[e]at h)]at O)
 .have u:xs.length=ys.length:=by simp at h;omega
  refine Ex.loop (λi=>[(0,.list none (xs.map .str)),(1,.list none (ys.map .str)),(12,.int .i64 xs.length),(13,.int .i64 (i:Nat))]) (λ_=>s)
     (λi=>i<=xs.length/\∀(j:Nat) a b,j<i->xs[j]?=some a->ys[j]?=some b->(λa b=>decide (a=b)) a b=true) (λi=>xs.length-i) 0 ⟨aU _,λj _ _ hj=>by omega⟩ ?_ (aM s) ?_
  .simp only[go_sem];exact rfl
  .rintro i ⟨hi,z⟩;refine bE (V:=[0,1,4,5,10,12,13,14,24]) _ _ _ _ ?_;simp only[go_sem]
   (first|refine mB (λh=>?_) (λh=>?_)|refine mA (λh=>?_) (λh=>?_)|refine mC (λh=>?_) (λh=>?_))<;>simp only[go_sem,h]
   .have m:i<xs.length:=gQ h;have F:i<ys.length:=by omega
    obtain⟨a,U⟩:∃a,xs[i]?=some a:=⟨_,aX m⟩
    obtain⟨b,hb⟩:∃b,ys[i]?=some b:=⟨_,aX F⟩
    (refine bO (OT.r 0 9) [] ?_;simp only[go_sem]);simp only[go_sem,U,hb,m,F]
    (first|refine mB (λh=>?_) (λh=>?_)|refine mA (λh=>?_) (λh=>?_)|refine mC (λh=>?_) (λh=>?_))<;>simp only[go_sem,h]
    .have M:(λa b=>decide (a=b)) a b=false:=by simpa only[qD,fS]using h
     have:cV (λa b=>decide (a=b)) xs ys=false:=by
      rw[rK];intro he;have:=(jI u).1 he i a b U hb;exact cM (M.symm.trans this) aE
     exact aO (by rwa[this]at O)
    .have M:(λa b=>decide (a=b)) a b=true:=by simpa only[aCT,fS]using h
     refine⟨i+1,⟨by omega,λj x y hj B H=>?_⟩,by omega,?_,aM s⟩
     .by_cases Z:j=i
      .subst Z;rw[U]at B;rw[hb]at H;cases B;cases H;exact M
      .exact z j x y aC B H
     .simp only[go_sem,b0.wrap (i:=i) (gQ m)]
   .have m:i=xs.length:=by simp at h;omega
    have:cV (λa b=>decide (a=b)) xs ys=true:=(jI u).2 λj x y B H=>z j x y (by rw[m];exact(eF.1 B).1) B H
    exact aO (by rwa[this]at O)
theorem aPy(s:St)(xs ys:List Int)(KV Kp)(O:KV s (.bool (cV (λa b=>decide (a=b)) xs ys))) :
  Den cx 209 [.list none (xs.map (.int .i64)),.list none (ys.map (.int .i64))] KV Kp s:=by
 refine iO λS=>?_
 have b0:=S _ (bU ..);(refine aR func209 [0,1,4,5,10,12,13,14,24] ?_;simp only[go_sem,ntmps209,f209])
 (first|refine mB (λh=>?_) (λh=>?_)|refine mA (λh=>?_) (λh=>?_)|refine mC (λh=>?_) (λh=>?_))<;>simp only[go_sem,h]
 .exact aO (by rwa[qI (by intro e;simp[e]at h)]at O)
 .have u:xs.length=ys.length:=by simp at h;omega
  refine Ex.loop (λi=>[(0,.list none (xs.map (.int .i64))),(1,.list none (ys.map (.int .i64))),(12,.int .i64 xs.length),(13,.int .i64 (i:Nat))]) (λ_=>s)
     (λi=>i<=xs.length/\∀(j:Nat) a b,j<i->xs[j]?=some a->ys[j]?=some b->(λa b=>decide (a=b)) a b=true) (λi=>xs.length-i) 0 ⟨aU _,λj _ _ hj=>by omega⟩ ?_ (aM s) ?_
  .simp only[go_sem];exact rfl
  .rintro i ⟨hi,z⟩;refine bE (V:=[0,1,4,5,10,12,13,14,24]) _ _ _ _ ?_;simp only[go_sem]
   (first|refine mB (λh=>?_) (λh=>?_)|refine mA (λh=>?_) (λh=>?_)|refine mC (λh=>?_) (λh=>?_))<;>simp only[go_sem,h]
   .have m:i<xs.length:=gQ h;have F:i<ys.length:=by omega
    obtain⟨a,U⟩:∃a,xs[i]?=some a:=⟨_,aX m⟩
    obtain⟨b,hb⟩:∃b,ys[i]?=some b:=⟨_,aX F⟩
    (refine bO (OT.r 0 9) [] ?_;simp only[go_sem]);simp only[go_sem,U,hb,m,F]
    (first|refine mB (λh=>?_) (λh=>?_)|refine mA (λh=>?_) (λh=>?_)|refine mC (λh=>?_) (λh=>?_))<;>simp only[go_sem,h]
    .have M:(λa b=>decide (a=b)) a b=false:=by simpa only[qD,fS]using h
     have:cV (λa b=>decide (a=b)) xs ys=false:=by
      rw[rK];intro he;have:=(jI u).1 he i a b U hb;exact cM (M.symm.trans this) aE
     exact aO (by rwa[this]at O)
    .have M:(λa b=>decide (a=b)) a b=true:=by simpa only[aCT,fS]using h
     refine⟨i+1,⟨by omega,λj x y hj B H=>?_⟩,by omega,?_,aM s⟩
     .by_cases Z:j=i
      .subst Z;rw[U]at B;rw[hb]at H;cases B;cases H;exact M
      .exact z j x y aC B H
     .simp only[go_sem,b0.wrap (i:=i) (gQ m)]
   .have m:i=xs.length:=by simp at h;omega
    have:cV (λa b=>decide (a=b)) xs ys=true:=(jI u).2 λj x y B H=>z j x y (by rw[m];exact(eF.1 B).1) B H
    exact aO (by rwa[this]at O)
theorem aPu(s:St)(xs ys:List Below)(KV Kp)(O:KV s (.bool (cV (λa b=>(decide (a.low=b.low)&&decide (a.high=b.high))) xs ys))) :
  Den cx 131 [.list none (xs.map Below.enc),.list none (ys.map Below.enc)] KV Kp s:=by
 refine iO λS=>?_
 have b0:=S _ (bU ..);(refine aR func131 [0,1,4,5,10,12,13,14,24] ?_;simp only[go_sem,ntmps131,f131])
 (first|refine mB (λh=>?_) (λh=>?_)|refine mA (λh=>?_) (λh=>?_)|refine mC (λh=>?_) (λh=>?_))<;>simp only[go_sem,h]
 .exact aO (by rwa[qI (by intro e;simp[e]at h)]at O)
 .have u:xs.length=ys.length:=by simp at h;omega
  refine Ex.loop (λi=>[(0,.list none (xs.map Below.enc)),(1,.list none (ys.map Below.enc)),(12,.int .i64 xs.length),(13,.int .i64 (i:Nat))]) (λ_=>s)
     (λi=>i<=xs.length/\∀(j:Nat) a b,j<i->xs[j]?=some a->ys[j]?=some b->(λa b=>(decide (a.low=b.low)&&decide (a.high=b.high))) a b=true) (λi=>xs.length-i) 0 ⟨aU _,λj _ _ hj=>by omega⟩ ?_ (aM s) ?_
  .simp only[go_sem];exact rfl
  .rintro i ⟨hi,z⟩;refine bE (V:=[0,1,4,5,10,12,13,14,24]) _ _ _ _ ?_;simp only[go_sem]
   (first|refine mB (λh=>?_) (λh=>?_)|refine mA (λh=>?_) (λh=>?_)|refine mC (λh=>?_) (λh=>?_))<;>simp only[go_sem,h]
   .have m:i<xs.length:=gQ h;have F:i<ys.length:=by omega
    obtain⟨a,U⟩:∃a,xs[i]?=some a:=⟨_,aX m⟩
    obtain⟨b,hb⟩:∃b,ys[i]?=some b:=⟨_,aX F⟩
    (refine bO (OT.r 0 9) [] ?_;simp only[go_sem]);simp only[go_sem,U,hb,m,F]
    (first|refine mB (λh=>?_) (λh=>?_)|refine mA (λh=>?_) (λh=>?_)|refine mC (λh=>?_) (λh=>?_))<;>simp only[go_sem,h]
    .have M:(λa b=>(decide (a.low=b.low)&&decide (a.high=b.high))) a b=false:=by simpa only[qD,fS]using h
     have:cV (λa b=>(decide (a.low=b.low)&&decide (a.high=b.high))) xs ys=false:=by
      rw[rK];intro he;have:=(jI u).1 he i a b U hb;exact cM (M.symm.trans this) aE
     exact aO (by rwa[this]at O)
    .have M:(λa b=>(decide (a.low=b.low)&&decide (a.high=b.high))) a b=true:=by simpa only[aCT,fS]using h
     refine⟨i+1,⟨by omega,λj x y hj B H=>?_⟩,by omega,?_,aM s⟩
     .by_cases Z:j=i
      .subst Z;rw[U]at B;rw[hb]at H;cases B;cases H;exact M
      .exact z j x y aC B H
     .simp only[go_sem,b0.wrap (i:=i) (gQ m)]
   .have m:i=xs.length:=by simp at h;omega
    have:cV (λa b=>(decide (a.low=b.low)&&decide (a.high=b.high))) xs ys=true:=(jI u).2 λj x y B H=>z j x y (by rw[m];exact(eF.1 B).1) B H
    exact aO (by rwa[this]at O)
theorem aPg(s:St)(xs ys:List Piece)(KV Kp)(O:KV s (.bool (cV (λa b=>(decide (a.text=b.text)&&decide (a.sort=b.sort))) xs ys))) :
  Den cx 208 [.list none (xs.map Piece.enc),.list none (ys.map Piece.enc)] KV Kp s:=by
 refine iO λS=>?_
 have b0:=S _ (bU ..);(refine aR func208 [0,1,4,5,10,12,13,14,24] ?_;simp only[go_sem,ntmps208,f208])
 (first|refine mB (λh=>?_) (λh=>?_)|refine mA (λh=>?_) (λh=>?_)|refine mC (λh=>?_) (λh=>?_))<;>simp only[go_sem,h]
 .exact aO (by rwa[qI (by intro e;simp[e]at h)]at O)
 .have u:xs.length=ys.length:=by simp at h;omega
  refine Ex.loop (λi=>[(0,.list none (xs.map Piece.enc)),(1,.list none (ys.map Piece.enc)),(12,.int .i64 xs.length),(13,.int .i64 (i:Nat))]) (λ_=>s)
     (λi=>i<=xs.length/\∀(j:Nat) a b,j<i->xs[j]?=some a->ys[j]?=some b->(λa b=>(decide (a.text=b.text)&&decide (a.sort=b.sort))) a b=true) (λi=>xs.length-i) 0 ⟨aU _,λj _ _ hj=>by omega⟩ ?_ (aM s) ?_
  .simp only[go_sem];exact rfl
  .rintro i ⟨hi,z⟩;refine bE (V:=[0,1,4,5,10,12,13,14,24]) _ _ _ _ ?_;simp only[go_sem]
   (first|refine mB (λh=>?_) (λh=>?_)|refine mA (λh=>?_) (λh=>?_)|refine mC (λh=>?_) (λh=>?_))<;>simp only[go_sem,h]
   .have m:i<xs.length:=gQ h;have F:i<ys.length:=by omega
    obtain⟨a,U⟩:∃a,xs[i]?=some a:=⟨_,aX m⟩
    obtain⟨b,hb⟩:∃b,ys[i]?=some b:=⟨_,aX F⟩
    (refine bO (OT.r 0 9) [] ?_;simp only[go_sem]);simp only[go_sem,U,hb,m,F]
    (first|refine mB (λh=>?_) (λh=>?_)|refine mA (λh=>?_) (λh=>?_)|refine mC (λh=>?_) (λh=>?_))<;>simp only[go_sem,h]
    .have M:(λa b=>(decide (a.text=b.text)&&decide (a.sort=b.sort))) a b=false:=by simpa only[qD,fS]using h
     have:cV (λa b=>(decide (a.text=b.text)&&decide (a.sort=b.sort))) xs ys=false:=by
      rw[rK];intro he;have:=(jI u).1 he i a b U hb;exact cM (M.symm.trans this) aE
     exact aO (by rwa[this]at O)
    .have M:(λa b=>(decide (a.text=b.text)&&decide (a.sort=b.sort))) a b=true:=by simpa only[aCT,fS]using h
     refine⟨i+1,⟨by omega,λj x y hj B H=>?_⟩,by omega,?_,aM s⟩
     .by_cases Z:j=i
      .subst Z;rw[U]at B;rw[hb]at H;cases B;cases H;exact M
      .exact z j x y aC B H
     .simp only[go_sem,b0.wrap (i:=i) (gQ m)]
   .have m:i=xs.length:=by simp at h;omega
    have:cV (λa b=>(decide (a.text=b.text)&&decide (a.sort=b.sort))) xs ys=true:=(jI u).2 λj x y B H=>z j x y (by rw[m];exact(eF.1 B).1) B H
    exact aO (by rwa[this]at O)
theorem aFQ(a b:Tm)(s:St)(KV Kp)(h:KV s (.bool (a.same b))):Den cx 36 [.agg a.cs,.agg b.cs] KV Kp s:=by
 have:=aJa a b s KV Kp h
 rwa[dJ,dJ]at this
theorem aCX(xs ys:List Tm)(s:St)(KV Kp)(z:KV s (.bool (cV Tm.same xs ys))):Den cx 134 [.list none (xs.map Tm.enc),.list none (ys.map Tm.enc)] KV Kp s:=by
 (refine aR func134 [0,1,4] ?_;simp only[go_sem,ntmps134,f134]);refine aFI Tm.enc Tm.same 36 [] [] _ _ _ _ _ Tm.hz6 (λx y s' m h F B H u=>aJa x y s' m h u) ?_;simp only[go_sem];exact aO z
def Eqn.same(a b:Eqn):Bool:=a.left.same b.left&&(a.right.same b.right&&cV Tm.same a.cond b.cond)
theorem aPE(a b:Eqn)(s:St)(KV Kp)(y:KV s (.bool (a.same b))):Den cx 70 [a.enc,b.enc] KV Kp s:=by
 unfold Eqn.same at y;simp only[go_sem];(refine aR func70 [0,1,2,3,4] ?_;simp only[go_sem,ntmps70,f70]);(refine aQ λp m=>?_);simp only[go_sem,m];(refine aQ λq u=>?_);simp only[go_sem,m,u]
 (repeat' (first|exact aS y cD|(refine aFQ _ _ _ _ _ ?_;simp only[go_sem,m,u])|(refine aCX _ _ _ _ _ ?_;simp only[go_sem,m,u])|((first|refine mB (λh=>?_) (λh=>?_)|refine mA (λh=>?_) (λh=>?_)|refine mC (λh=>?_) (λh=>?_))<;>simp only[go_sem,h,m,u]<;>(try simp only[h,fG,fE,fS,fX,kI,kR,kH,jH,fF,gB]at y))))
def Cel.same(a b:Cel):Bool:=decide (a.name=b.name)&&(decide (a.sort=b.sort)&&a.init.same b.init)
theorem aO7(a b:Cel)(s:St)(KV Kp)(u:KV s (.bool (a.same b))):Den cx 72 [a.enc,b.enc] KV Kp s:=by
 unfold Cel.same at u;simp only[go_sem];(refine aR func72 [0,1,2,3,4] ?_;simp only[go_sem,ntmps72,f72]);(refine aQ λp m=>?_);simp only[go_sem,m];(refine aQ λq y=>?_);simp only[go_sem,m,y]
 (repeat' (first|exact aS u cD|(refine aFQ _ _ _ _ _ ?_;simp only[go_sem,m,y])|((first|refine mB (λh=>?_) (λh=>?_)|refine mA (λh=>?_) (λh=>?_)|refine mC (λh=>?_) (λh=>?_))<;>simp only[go_sem,h,m,y]<;>(try simp only[h,fG,fE,fS,fX,kI,kR,kH,jH,fF,gB]at u))))
def Part.same(a b:Part):Bool:=decide (a.cell=b.cell)&&(decide (a.at_=b.at_)&&(a.left.same b.left&&cV Tm.same a.right b.right))
theorem aOP(a b:Part)(s:St)(KV Kp)(y:KV s (.bool (a.same b))):Den cx 137 [a.enc,b.enc] KV Kp s:=by
 unfold Part.same at y;simp only[go_sem];(refine aR func137 [0,1,2,3,4] ?_;simp only[go_sem,ntmps137,f137]);(refine aQ λp m=>?_);simp only[go_sem,m];(refine aQ λq u=>?_);simp only[go_sem,m,u]
 (repeat' (first|exact aS y cD|(refine aFQ _ _ _ _ _ ?_;simp only[go_sem,m,u])|(refine aCX _ _ _ _ _ ?_;simp only[go_sem,m,u])|((first|refine mB (λh=>?_) (λh=>?_)|refine mA (λh=>?_) (λh=>?_)|refine mC (λh=>?_) (λh=>?_))<;>simp only[go_sem,h,m,u]<;>(try simp only[h,fG,fE,fS,fX,kI,kR,kH,jH,fF,gB]at y))))
def Fresh.same(a b:Fresh):Bool:=cV Tm.same a.cells b.cells
theorem aOs(a b:Fresh)(s:St)(KV Kp)(u:KV s (.bool (a.same b))):Den cx 135 [a.enc,b.enc] KV Kp s:=by
 unfold Fresh.same at u;simp only[go_sem];(refine aR func135 [0,1,2,3,4] ?_;simp only[go_sem,ntmps135,f135]);(refine aQ λp m=>?_);simp only[go_sem,m];(refine aQ λq y=>?_);simp only[go_sem,m,y]
 (repeat' (first|exact aS u cD|(refine aCX _ _ _ _ _ ?_;simp only[go_sem,m,y])|((first|refine mB (λh=>?_) (λh=>?_)|refine mA (λh=>?_) (λh=>?_)|refine mC (λh=>?_) (λh=>?_))<;>simp only[go_sem,h,m,y]<;>(try simp only[h,fG,fE,fS,fX,kI,kR,kH,jH,fF,gB]at u))))
theorem Eqn.hz(a:Eqn):∃cs,a.enc=.agg cs/\cs.length=15/\gD cs=true:=⟨_,rfl,rfl,rfl⟩
theorem Cel.hz(a:Cel):∃cs,a.enc=.agg cs/\cs.length=10/\gD cs=true:=⟨_,rfl,rfl,rfl⟩
theorem Part.hz(a:Part):∃cs,a.enc=.agg cs/\cs.length=11/\gD cs=true:=⟨_,rfl,rfl,rfl⟩
theorem Fresh.hz(a:Fresh):∃cs,a.enc=.agg cs/\cs.length=1/\gD cs=true:=⟨_,rfl,rfl,rfl⟩
theorem Rul.hz(a:Rul):∃cs,a.enc=.agg cs/\cs.length=7/\gD cs=true:=⟨_,rfl,rfl,rfl⟩
theorem Opr.hz(a:Opr):∃cs,a.enc=.agg cs/\cs.length=7/\gD cs=true:=⟨_,rfl,rfl,rfl⟩
def Rul.same(a b:Rul):Bool:=decide (a.name=b.name)&&(cV Part.same a.parts b.parts&&(cV Tm.same a.cond b.cond&&(cV Fresh.same a.new b.new&&cV (λa b=>decide (a=b)) a.drop b.drop)))
theorem aPi(a b:Rul)(s:St)(KV Kp)(F:KV s (.bool (a.same b))):Den cx 74 [a.enc,b.enc] KV Kp s:=by
 unfold Rul.same at F;simp only[go_sem];(refine aR func74 [0,1,2,3,4,5] ?_;simp only[go_sem,ntmps74,f74]);(refine aQ λp m=>?_);simp only[go_sem,m];(refine aQ λq B=>?_);simp only[go_sem,m,B]
 (repeat' (first|exact aS F cD|(refine aCX _ _ _ _ _ ?_;simp only[go_sem,m,B])|(refine aFU _ _ _ _ _ ?_;simp only[go_sem,m,B])|(refine aOo Part.enc Part.same 137 [] [] _ _ _ _ _ Part.hz (λx y s' z u M S O H=>aOP x y s' z u H) ?_;simp only[go_sem,m,B])|(refine aOB Fresh.enc Fresh.same 135 [] [] _ _ _ _ _ Fresh.hz (λx y s' z u M S O H=>aOs x y s' z u H) ?_;simp only[go_sem,m,B])|((first|refine mB (λh=>?_) (λh=>?_)|refine mA (λh=>?_) (λh=>?_)|refine mC (λh=>?_) (λh=>?_))<;>simp only[go_sem,h,m,B]<;>(try simp only[h,fG,fE,fS,fX,kI,kR,kH,jH,fF,gB]at F))))
def Opr.same(a b:Opr):Bool:=decide (a.name=b.name)&&(decide (a.sort=b.sort)&&(decide (a.prec=b.prec)&&(decide (a.assoc=b.assoc)&&(cV (λa b=>decide (a=b)) a.args b.args&&(cV (λa b=>decide (a.text=b.text)&&decide (a.sort=b.sort)) a.pieces b.pieces&&cV (λa b=>decide (a=b)) a.strict b.strict)))))
theorem aO5(a b:Opr)(s:St)(KV Kp)(y:KV s (.bool (a.same b))):Den cx 133 [a.enc,b.enc] KV Kp s:=by
 unfold Opr.same at y;simp only[go_sem];(refine aR func133 [0,1,2,3,4] ?_;simp only[go_sem,ntmps133,f133]);(refine aQ λp m=>?_);simp only[go_sem,m];(refine aQ λq u=>?_);simp only[go_sem,m,u]
 (repeat' (first|exact aS y cD|(refine aFU _ _ _ _ _ ?_;simp only[go_sem,m,u])|(refine aPg _ _ _ _ _ ?_;simp only[go_sem,m,u])|(refine aPy _ _ _ _ _ ?_;simp only[go_sem,m,u])|((first|refine mB (λh=>?_) (λh=>?_)|refine mA (λh=>?_) (λh=>?_)|refine mC (λh=>?_) (λh=>?_))<;>simp only[go_sem,h,m,u]<;>(try simp only[h,fG,fE,fS,fX,kI,kR,kH,jH,fF,gB]at y))))
def Sig.same(a b:Sig):Bool:=cV (λa b=>decide (a=b)) a.sorts b.sorts&&(cV (λa b=>decide (a.low=b.low)&&decide (a.high=b.high)) a.below b.below&&(cV (λa b=>decide (a=b)) a.values b.values&&(cV Opr.same a.ops b.ops&&cV Opr.same a.funs b.funs)))
theorem aPe(a b:Sig)(s:St)(KV Kp)(z:KV s (.bool (a.same b))):Den cx 68 [a.enc,b.enc] KV Kp s:=by
 unfold Sig.same at z;simp only[go_sem];(refine aR func68 [0,1,2,3,4] ?_;simp only[go_sem,ntmps68,f68]);(refine aQ λp m=>?_);simp only[go_sem,m];(refine aQ λq u=>?_);simp only[go_sem,m,u]
 (repeat' (first|exact aS z cD|(refine aFU _ _ _ _ _ ?_;simp only[go_sem,m,u])|(refine aPu _ _ _ _ _ ?_;simp only[go_sem,m,u])|(refine aOn Opr.enc Opr.same 133 [] [] _ _ _ _ _ Opr.hz (λx y s' F B M S O H=>aO5 x y s' F B H) ?_;simp only[go_sem,m,u])|((first|refine mB (λh=>?_) (λh=>?_)|refine mA (λh=>?_) (λh=>?_)|refine mC (λh=>?_) (λh=>?_))<;>simp only[go_sem,h,m,u]<;>(try simp only[h,fG,fE,fS,fX,kI,kR,kH,jH,fF,gB]at z))))
def Dfn.same(a b:Dfn):Bool:=decide (a.name=b.name)&&(decide (a.kind=b.kind)&&(decide (a.start=b.start)&&(decide (a.watch=b.watch)&&(a.sig.same b.sig&&(cV Eqn.same a.eqs b.eqs&&(cV Cel.same a.once b.once&&(cV Cel.same a.many b.many&&cV Rul.same a.rules b.rules)))))))
theorem aC6(a b:Dfn)(s:St)(KV Kp)(H:KV s (.bool (a.same b))):Den cx 30 [a.enc,b.enc] KV Kp s:=by
 unfold Dfn.same at H;simp only[go_sem];(refine aR func30 [0,1,2,3,4,5] ?_;simp only[go_sem,ntmps30,f30]);(refine aQ λp z=>?_);simp only[go_sem,z];(refine aQ λq B=>?_);simp only[go_sem,z,B]
 (repeat' (first|exact aS H cD|(refine aPe _ _ _ _ _ ?_;simp only[go_sem,z,B])|(refine aOS Eqn.enc Eqn.same 70 [] [] _ _ _ _ _ Eqn.hz (λx y s' u m M S O F=>aPE x y s' u m F) ?_;simp only[go_sem,z,B])|(refine aOX Cel.enc Cel.same 72 [] [] _ _ _ _ _ Cel.hz (λx y s' u m M S O F=>aO7 x y s' u m F) ?_;simp only[go_sem,z,B])|(refine aOY Rul.enc Rul.same 74 [] [] _ _ _ _ _ Rul.hz (λx y s' u m M S O F=>aPi x y s' u m F) ?_;simp only[go_sem,z,B])|((first|refine mB (λh=>?_) (λh=>?_)|refine mA (λh=>?_) (λh=>?_)|refine mC (λh=>?_) (λh=>?_))<;>simp only[go_sem,h,z,B]<;>(try simp only[h,fG,fE,fS,fX,kI,kR,kH,jH,fF,gB]at H))))
def ev(tk:Option Nat)(es:List A):A:=match tk with
 | none=>.emp
 | some t=>.list (some t) es
@[go_sem] theorem aWP(tk:Option Nat)(es:List A):(ev tk es).cells=[ev tk es]:=by cases tk<;>rfl
@[go_sem] theorem aX3(tk:Option Nat)(es:List A):(ev tk es).one=true:=by cases tk<;>rfl
@[go_sem] theorem aX0(s:St)(tk:Option Nat)(es:List A):kB s (ev tk es)=ev tk es:=by cases tk<;>rfl
theorem aL8{tk:Option Nat}{es:List A}(h:tk=none->es=[]):nJ (ev tk es)=some (.int .i64 es.length):=by
 cases tk with
 | none=>rw[h rfl];rfl
 | some t=>rfl
theorem aEg{s:St}{e:TypeId}{F:TI}{ys:List A}{KV:St->A->Prop}{tk:Option Nat}{es:List A}(S:tk=none->es=[])(M:∀t,tk=some t->s.getT t=some (es.length,e))
  (H:∀y,y∈es->y.cells.length=F.sz)(hl:es.length+ys.length<=4294967296)
  (B:∀m,(m=none->es++ys=[])->(∀t,m=some t->tk=some t\/s.getT t=none)->KV (gs s m (es.length+ys.length) e) (ev m (es++ys))):oB cx s e F ys KV (ev tk es):=by
 cases tk with
 | none =>
  have U:=S rfl;subst U;cases ys with
  | nil=>exact B none (λ_=>rfl) (λt h=>by cases h)
  | cons y r =>
   refine⟨⟨gQ hl,Nat.succ_pos _⟩,λt O=>?_⟩;have:=B (some t) (λh=>by cases h) (λu z=>by cases z;exact .inr O);simpa [gs,ev]using this
 | some t=>exact⟨M t rfl,H,hl,B (some t) (λh=>by cases h) (λu z=>.inl z)⟩
theorem aMK{S s:St}{u y:Option Nat}{O n2:Nat}{e:TypeId}(B:S.ge s)(Z:∀t,u=some t->(none:Option Nat)=some t\/S.getT t=none)(h2:∀t,y=some t->u=some t\/∃n,(gs S u n e).getT t=none) :
  (gs (gs S u O e) y n2 e).ge s:=by
 have U:∀t,u=some t->S.getT t=none:=λt h=>(Z t h).elim (λh=>by cases h) id
 refine⟨λb o ho=>by rw[cO,cO];exact B.ob b o ho,λt m hm=>?_,λx H=>by cases u<;>cases y<;>exact B.ls x H⟩;have z:=B.tk t m hm;have F:u≠some t:=λh=>by rw[U t h]at z;cases z
 have M:y≠some t:=λh=>by
  rcases h2 t h with h|⟨n,h⟩
  .exact F h
  .rw[iN,aB F,z]at h;cases h
 rw[iN,aB M,iN,aB F];exact z
theorem aG7{l:List Opr}{y:A}(h:y∈l.map Opr.enc):y.cells.length=7:=by
 obtain⟨z,_,rfl⟩:=cH.1 h;rfl
theorem aQ5(x:Sig)(hB:x.ops.length+x.funs.length<=4294967296)(s:St)(KV Kp:St->A->Prop)(H:∀b:Bool,KV s (.bool b)):Den cx 48 [.agg x.cs] KV Kp s:=by
 simp only[go_sem];(refine aR func48 [0,1,2,3,5,31,38,39,40,41,58] ?_;simp only[go_sem,ntmps48,f48]);(refine aQ λp u=>?_);simp only[go_sem,u]
 (apply aT<;>intro h)<;>simp only[go_sem,h,u]
 .exact aS (H _) cD
 clear h
 (apply aT<;>intro h)<;>simp only[go_sem,h,u]
 .exact aS (H _) cD
 clear h
 (apply aT<;>intro h)<;>simp only[go_sem,h,u]
 .exact aS (H _) cD
 clear h
 (apply aT<;>intro h)<;>simp only[go_sem,h,u]
 .exact aS (H _) cD
 clear h;(refine bO (OT.l [0,1,2,4,5,8,3,6,7] .nil) [(3,[5])] ?_;simp only[go_sem,u]);refine⟨by decide,λy F=>aG7 F,aEg (tk:=none) (es:=[]) (λ_=>rfl) (λt h=>by cases h) (λy F=>by cases F) (by simp only[aK,aH];omega) (λb2 U Z=>?_)⟩;simp only[go_sem,u];refine⟨by decide,λy F=>aG7 F,aEg (λh=>by simpa using U h) (λt S=>by rw[aG1 t S];simp) (λy F=>aG7 (gQ F)) (by simp only[aK,aH,bA];omega) (λz O b0=>?_)⟩;simp only[go_sem,u,aL8 O]
 have M:z=none->x.ops++x.funs=[]:=λh=>by
  have:=O h;simpa using this
 have hV:∀(i:Nat) (o:Opr),(x.ops++x.funs)[i]?=some o->∃t,ev z (List.map Opr.enc x.ops++List.map Opr.enc x.funs)=.list (some t) ((x.ops++x.funs).map Opr.enc):=λi o ho=>by
  cases z with
  | none =>
   rw[M rfl]at ho;cases ho
  | some t=>exact⟨t,by rw[cN];rfl⟩
 refine Ex.loop (ι:=Int × Nat) (λc=>[(3,.int .i64 c.1),(38,ev z (List.map Opr.enc x.ops++List.map Opr.enc x.funs)),(39,.int .i64 ((x.ops++x.funs).length:Nat)),(40,.int .i64 (c.2:Nat))]) (λ_=>s)
  (λc=>c.2<=(x.ops++x.funs).length) (λc=>(x.ops++x.funs).length-c.2) (0,0) (aU _) ?_ ?_ ?_
 ·(simp only[go_sem,u];try simp)
 .exact aMK cD Z (λt h=>(b0 t h).imp id (λh=>⟨_,h⟩))
 .rintro⟨n,i⟩ hi;simp only at hi;refine bE (V:=[0,1,2,3,5,31,38,39,40,41,58]) _ _ _ _ ?_;simp only[go_sem]
  (apply aT<;>intro h)<;>simp only[go_sem,h]
  .have m:i<(x.ops++x.funs).length:=gQ h;clear h;obtain⟨o,ho⟩:∃a,(x.ops++x.funs)[i]?=some a:=⟨_,aX m⟩
   obtain⟨t,S⟩:=hV i o ho;simp only[go_sem,S,ho,m];(refine aQ λb5 B=>?_);simp only[go_sem,S,ho,m,B]
   (apply aT<;>intro h)<;>simp only[go_sem,h,B]
   .exact aS (H _) cD
   clear h;exact⟨(_,i+1),m,aP,⟨rfl,cF i (by rw[aI]at m;omega)⟩,(jD B)⟩
  .exact aO (H _)
theorem aSa(x:Tm):x.enc.cells.length=6:=by rw[dJ];rfl
theorem oS{l:List Tm}{y:A}(h:y∈l.map Tm.enc):y.cells.length=6:=by
 obtain⟨z,_,rfl⟩:=cH.1 h;exact aSa z
def vB(e:Eqn):Nat:=2+e.cond.length
def aAi(p:Part):Nat:=1+p.right.length
def aAs(r:Rul):Nat:=(r.parts.map aAi).sum+(r.cond.length+(r.new.map λf=>f.cells.length).sum)
def aAt(d:Dfn):Nat:=(d.eqs.map vB).sum+(d.once.length+(d.many.length+(d.rules.map aAs).sum))
theorem aJT{α:Type}{l:List α}{i:Nat}{x:α}(h:l[i]?=some x):l.drop i=x::l.drop (i+1):=by
 obtain⟨m,rfl⟩:=eF.1 h;exact aAz m
theorem aDH{α:Type}{f:α->Nat}{l:List α}{i:Nat}{x:α}(h:l[i]?=some x):((l.drop i).map f).sum=f x+((l.drop (i+1)).map f).sum:=by
 rw[aJT h,bN,List.sum_cons]
theorem aBX(s:St)(t:Nat)(v w:Nat × TypeId):(s.setT t v).setT t w=s.setT t w:=by simp only[St.setT,aEd]
theorem zS{l:List Cel}{y:A}(h:y∈l.map Cel.enc):y.cells.length=10:=by
 obtain⟨z,_,rfl⟩:=cH.1 h;rfl
def sD(s:St)(l:List Tm)(tk:Option Nat):Prop:=(tk=none->l=[])/\∀t,tk=some t->s.getT t=none
theorem aO8(x:Dfn)(hB:aAt x<=4294967296)(s:St)(KV Kp:St->A->Prop)(hk:∀xs:List Tm,KV s (.list none (xs.map Tm.enc))):Den cx 49 [.agg x.cs] KV Kp s:=by
 refine iO λhz1=>?_
 have hza:=hz1 _ (bU ..);have hw1:Rlz (.list none (x.eqs.map Eqn.enc)):=hza.cell (by simp[Dfn.cs]);have hw2:Rlz (.list none (x.rules.map Rul.enc)):=hza.cell (by simp[Dfn.cs]);clear hz1;unfold aAt at hB;simp only[go_sem];(refine aR func49 [0,1,2,3,5,7,9,11,13,15,16,17,18,38,39,40,41,51,52,53,54,58,59,60,61,78,79,80,81] ?_;simp only[go_sem,ntmps49,f49]);(refine aQ λp hp=>?_);simp only[go_sem,hp]
 refine Ex.loop (ι:=(List Tm × Option Nat) × Nat) (λc=>[(1,.ptr p 0),(3,gv c.1.2 (c.1.1.map Tm.enc)),(15,.list none (x.eqs.map Eqn.enc)),(16,.int .i64 x.eqs.length),(17,.int .i64 (c.2:Nat))])
  (λc=>gs (s.setO p (.cells 33 x.cs)) c.1.2 c.1.1.length 43)
  (λc=>sD s c.1.1 c.1.2/\c.2<=x.eqs.length/\c.1.1.length+((x.eqs.drop c.2).map vB).sum<=(x.eqs.map vB).sum) (λc=>x.eqs.length-c.2) (([],none),0) ⟨⟨λ_=>rfl,λt e=>(by cases e)⟩,aU _,by simp⟩ ?_ (by exact aM _) ?_
 ·(simp only[go_sem,hp];try exact⟨rfl,rfl⟩)
 ·rintro ⟨⟨l,tk⟩,i⟩ ⟨⟨hnil,hfree⟩,hi,hl⟩;simp only at hnil hfree hi hl;refine bE (V := [0,1,2,3,5,7,9,11,13,15,16,17,18,38,39,40,41,51,52,53,54,58,59,60,61,78,79,80,81]) _ _ _ _ ?_;simp only [go_sem,hp]
  (apply aT<;>intro h)<;>simp only[go_sem,h,hp]
  .have hix:i<x.eqs.length:=gQ h;clear h;obtain⟨e,he⟩:∃a,x.eqs[i]?=some a:=⟨_,aX hix⟩
   have hsd:=aDH (f:=vB) he;have hew:vB e=2+e.cond.length:=rfl;simp only[go_sem,hp,he,hix];(refine iK λb5 hb5=>?_);simp only[go_sem,hp,he,hix,hb5];(refine bO (OT.l [0,1,2,3,4,5,7,8,6,9,10] .nil) [(6,[8])] ?_;simp only[go_sem,hp,he,hix,hb5]);refine⟨by decide,λy hy=>?_,eI rfl rfl (by rw[aK];exact iU λe=>by rw[hnil e];rfl) (λy hy=>oS hy) (by simp only[aK,aG,aH];omega) (λu hu=>?_)⟩
   .simp only[eA,List.mem_nil_iff,eS]at hy;rcases hy with rfl|rfl<;>rfl
   have hfu:=gI hu hfree;rw[fY hu];simp only[go_sem,hp,he,hix,hb5];refine⟨by decide,λy hy=>oS hy,by simp only[aI,aK,aG,aH],λy hy=>?_,by simp only[aI,aK,aG,aH];omega,?_⟩
   .simp only[cZ,eA,List.mem_nil_iff,eS]at hy;rcases hy with hy|rfl|rfl
    .exact oS hy
    .rfl
    .rfl
   refine⟨((l++[e.left,e.right]++e.cond,some u),i+1),⟨⟨λh=>(by cases h),λt h=>by cases h;exact hfu⟩,hix,by simp only[aI,aG,aH];omega⟩,aP,?_,?_⟩
   .simp only[go_sem,hw1.wrap (i:=i) (gQ hix),dF,cN]
   .have e1:∀a b:A,(List.map Tm.enc l++[a,b]).length+e.cond.length=(l++[e.left,e.right]++e.cond).length:=λa b=>by simp only[aI,aK,aG,aH]
    rw[aBX,e1];exact gR (jD (And.intro hp hb5))
  ·clear h;(refine bO (OT.l [0,1,2,4,5,8,3,6,7] .nil) [(3,[5])] ?_; simp only [go_sem,hp]);refine ⟨by decide,fun y hy => zS hy,aEg (tk := none) (es := []) (fun _ => rfl) (fun t h => by cases h) (fun y hy => by cases hy) (by simp only [aK,aH]; omega) (fun tk1 hn1 hf1 => ?_)⟩;simp only [go_sem,hp];refine ⟨by decide,fun y hy => zS hy,aEg (fun h => by simpa using hn1 h) (fun t ht => by rw [aG1 t ht]; simp) (fun y hy => zS (gQ hy)) (by simp only [aK,aH,bA]; omega) (fun tk2 hn2 hf2 => ?_)⟩;simp only [go_sem,hp,aL8 hn2]
   have hn2':tk2=none->x.once++x.many=[]:=λh=>by
    have:=hn2 h;simpa using this
   have hV:∀(i:Nat) (o:Cel),(x.once++x.many)[i]?=some o->∃t,ev tk2 (List.map Cel.enc x.once++List.map Cel.enc x.many)=.list (some t) ((x.once++x.many).map Cel.enc):=λi o ho=>by
    cases tk2 with
    | none =>
     rw[hn2' rfl]at ho;cases ho
    | some t=>exact⟨t,by rw[cN];rfl⟩
   have hlE:l.length<=(x.eqs.map vB).sum:=by omega
   have hVl:(x.once++x.many).length=x.once.length+x.many.length:=aI
   refine Ex.loop (ι:=(List Tm × Option Nat) × Nat) (λc=>[(1,.ptr p 0),(3,gv c.1.2 (c.1.1.map Tm.enc)),(38,ev tk2 (List.map Cel.enc x.once++List.map Cel.enc x.many)),(39,.int .i64 ((x.once++x.many).length:Nat)),(40,.int .i64 (c.2:Nat))])
    (λc=>gs (s.setO p (.cells 33 x.cs)) c.1.2 c.1.1.length 43)
    (λc=>sD s c.1.1 c.1.2/\c.2<=(x.once++x.many).length/\c.1.1.length<=(x.eqs.map vB).sum+c.2) (λc=>(x.once++x.many).length-c.2) ((l,tk),0) ⟨⟨hnil,hfree⟩,aU _,hlE⟩ ?_ (by exact aMK (aM _) hf1 (λt h=>(hf2 t h).imp id (λh=>⟨_,h⟩))) ?_
   ·(simp only[go_sem,hp];try simp)
   .clear hf2 hf1 hn1 hnil hfree hl hi hn2 hlE;rintro⟨⟨l,tk⟩,i⟩ ⟨⟨hnil,hfree⟩,hi,hl⟩;simp only at hnil hfree hi hl;refine bE (V:=[0,1,2,3,5,7,9,11,13,15,16,17,18,38,39,40,41,51,52,53,54,58,59,60,61,78,79,80,81]) _ _ _ _ ?_;simp only[go_sem,hp]
    (apply aT<;>intro h)<;>simp only[go_sem,h,hp]
    .have hix:i<(x.once++x.many).length:=gQ h;clear h;obtain⟨o,ho⟩:∃a,(x.once++x.many)[i]?=some a:=⟨_,aX hix⟩
     obtain⟨t,ht⟩:=hV i o ho;simp only[go_sem,hp,ht,ho,hix];(refine iK λb7 hb7=>?_);simp only[go_sem,hp,ht,ho,hix,hb7];refine⟨by decide,λy hy=>by simp only[cC]at hy;subst hy;rfl,eI rfl rfl (by rw[aK];exact iU λe=>by rw[hnil e];rfl) (λy hy=>oS hy) (by simp only[aK,aG,aH];omega) (λu hu=>?_)⟩;have hfu:=gI hu hfree;rw[fY hu];simp only[go_sem,hp,ht,ho,hix,hb7];refine⟨((l++[o.init],some u),i+1),⟨⟨λh=>(by cases h),λt h=>by cases h;exact hfu⟩,hix,by simp only[aI,aG,aH];omega⟩,aP,?_,?_⟩
     .simp only[go_sem,cF i aC,dF,cN]
     .rw[show l.length+1=(l++[o.init]).length by simp only[aI,aG,aH]];exact gR (jD (And.intro hp hb7))
    .clear h;have hlE:l.length<=(x.eqs.map vB).sum+(x.once.length+x.many.length):=by omega
     clear hi hl
     refine Ex.loop (ι:=(List Tm × Option Nat) × Nat) (λc=>[(3,gv c.1.2 (c.1.1.map Tm.enc)),(51,.list none (x.rules.map Rul.enc)),(52,.int .i64 x.rules.length),(53,.int .i64 (c.2:Nat))])
      (λc=>gs s c.1.2 c.1.1.length 43)
      (λc=>sD s c.1.1 c.1.2/\c.2<=x.rules.length/\c.1.1.length+((x.rules.drop c.2).map aAs).sum<=4294967296) (λc=>x.rules.length-c.2) ((l,tk),0) ⟨⟨hnil,hfree⟩,aU _,by simp only[sL];omega⟩ ?_ ?_ ?_
     ·(simp only[go_sem,hp];first|done|exact rfl|exact⟨rfl,rfl⟩)
     .exact qV (aDj (vU hp (zE _ _ _)))
     .clear hnil hfree hlE;rintro⟨⟨l,tk⟩,i⟩ ⟨⟨hnil,hfree⟩,hi,hl⟩;simp only at hnil hfree hi hl;refine bE (V:=[0,1,2,3,5,7,9,11,13,15,16,17,18,38,39,40,41,51,52,53,54,58,59,60,61,78,79,80,81]) _ _ _ _ ?_;simp only[go_sem]
      (apply aT<;>intro h)<;>simp only[go_sem,h]
      .have hix:i<x.rules.length:=gQ h;clear h;obtain⟨r,hr⟩:∃a,x.rules[i]?=some a:=⟨_,aX hix⟩
       have hsd:=aDH (f:=aAs) hr;have hrw:aAs r=(r.parts.map aAi).sum+(r.cond.length+(r.new.map λf=>f.cells.length).sum):=rfl;simp only[go_sem,hr,hix];(refine iK λb9 hb9=>?_);simp only[go_sem,hr,hix,hb9];have hzr:Rlz (.agg r.cs):=hw2.agg_elem (cH.2 ⟨r,bZ hr,rfl⟩);have hw3:Rlz (.list none (r.parts.map Part.enc)):=hzr.cell (by simp[Rul.cs]);have hw4:Rlz (.list none (r.new.map Fresh.enc)):=hzr.cell (by simp[Rul.cs]);rw[hsd,hrw]at hl;clear hsd hrw;have hiw:IntKind.i64.wrap ((i:Int)+1)=((i+1:Nat):Int):=hw2.wrap (i:=i) (gQ hix);generalize hR:((x.rules.drop (i+1)).map aAs).sum=R at hl
       refine Ex.loop (ι:=(List Tm × Option Nat) × Nat) (λc=>[(3,gv c.1.2 (c.1.1.map Tm.enc)),(9,.ptr b9 0),(51,.list none (x.rules.map Rul.enc)),(52,.int .i64 x.rules.length),(53,.int .i64 (i:Nat)),(58,.list none (r.parts.map Part.enc)),(59,.int .i64 r.parts.length),(60,.int .i64 (c.2:Nat))])
        (λc=>gs (s.setO b9 (.cells 84 r.cs)) c.1.2 c.1.1.length 43)
        (λc=>sD s c.1.1 c.1.2/\c.2<=r.parts.length/\c.1.1.length+(((r.parts.drop c.2).map aAi).sum+(r.cond.length+(r.new.map λf=>f.cells.length).sum)+R)<=4294967296) (λc=>r.parts.length-c.2) ((l,tk),0) ⟨⟨hnil,hfree⟩,aU _,by simp only[sL];omega⟩ ?_ (by exact aM _) ?_
       ·(simp only[go_sem,hb9];first|done|exact rfl|exact⟨rfl,rfl⟩)
       .clear hnil hfree hl;rintro⟨⟨l,tk⟩,j⟩ ⟨⟨hnil,hfree⟩,hj,hl⟩;simp only at hnil hfree hj hl;refine bE (V:=[0,1,2,3,5,7,9,11,13,15,16,17,18,38,39,40,41,51,52,53,54,58,59,60,61,78,79,80,81]) _ _ _ _ ?_;simp only[go_sem,hb9]
        (apply aT<;>intro h)<;>simp only[go_sem,h,hb9]
        .have hjx:j<r.parts.length:=gQ h;clear h;obtain⟨q,hq⟩:∃a,r.parts[j]?=some a:=⟨_,aX hjx⟩
         have hsd:=aDH (f:=aAi) hq;have hqw:aAi q=1+q.right.length:=rfl;simp only[go_sem,hb9,hq,hjx];(refine iK λb11 hb11=>?_);simp only[go_sem,hb9,hq,hjx,hb11];(refine bO (OT.l [0,1,2,3,5,6,4,7,8] .nil) [(4,[6])] ?_;simp only[go_sem,hb9,hq,hjx,hb11]);refine⟨by decide,λy hy=>by simp only[cC]at hy;subst hy;rfl,eI rfl rfl (by rw[aK];exact iU λe=>by rw[hnil e];rfl) (λy hy=>oS hy) (by simp only[aK,aG,aH];omega) (λu hu=>?_)⟩;have hfu:=gI hu hfree;rw[fY hu];simp only[go_sem,hb9,hq,hjx,hb11];refine⟨by decide,λy hy=>oS hy,by simp only[aI,aK,aG,aH],λy hy=>?_,by simp only[aI,aK,aG,aH];omega,?_⟩
         .simp only[cZ,cC]at hy;rcases hy with hy|rfl
          .exact oS hy
          .rfl
         refine⟨((l++[q.left]++q.right,some u),j+1),⟨⟨λh=>(by cases h),λt h=>by cases h;exact hfu⟩,hjx,by simp only[aI,aG,aH];omega⟩,aP,?_,?_⟩
         .simp only[go_sem,hw3.wrap (i:=j) (gQ hjx),dF,cN]
         .have e1:∀a:A,(List.map Tm.enc l++[a]).length+q.right.length=(l++[q.left]++q.right).length:=λa=>by simp only[aI,aK,aG,aH]
          rw[aBX,e1];exact gR (jD (And.intro hb9 hb11))
        .clear h;have hl2:l.length+(r.cond.length+(r.new.map λf=>f.cells.length).sum+R)<=4294967296:=by omega
         clear hl hj;refine⟨by decide,λy hy=>oS hy,eI rfl rfl (by rw[aK];exact iU λe=>by rw[hnil e];rfl) (λy hy=>oS hy) (by simp only[aK];omega) (λu hu=>?_)⟩;have hfu:=gI hu hfree;rw[fY hu];simp only[go_sem,hb9]
         refine Ex.loop (ι:=(List Tm × Option Nat) × Nat) (λc=>[(3,gv c.1.2 (c.1.1.map Tm.enc)),(51,.list none (x.rules.map Rul.enc)),(52,.int .i64 x.rules.length),(53,.int .i64 (i:Nat)),(78,.list none (r.new.map Fresh.enc)),(79,.int .i64 r.new.length),(80,.int .i64 (c.2:Nat))])
          (λc=>gs s c.1.2 c.1.1.length 43)
          (λc=>sD s c.1.1 c.1.2/\c.2<=r.new.length/\c.1.1.length+(((r.new.drop c.2).map λf=>f.cells.length).sum+R)<=4294967296) (λc=>r.new.length-c.2) ((l++r.cond,some u),0) ⟨⟨λh=>(by cases h),λt h=>by cases h;exact hfu⟩,aU _,by simp only[sL,aI];omega⟩ ?_ ?_ ?_
         ·(simp only[go_sem,hb9,dF,cN];first|done|exact rfl|exact⟨rfl,rfl⟩)
         .show St.ge _ ((s.setT u ((l++r.cond).length,43)));rw[aI];exact gR (jD hb9)
         .clear hnil hfree hl2 hu hfu;rintro⟨⟨l,tk⟩,j⟩ ⟨⟨hnil,hfree⟩,hj,hl⟩;simp only at hnil hfree hj hl;refine bE (V:=[0,1,2,3,5,7,9,11,13,15,16,17,18,38,39,40,41,51,52,53,54,58,59,60,61,78,79,80,81]) _ _ _ _ ?_;simp only[go_sem]
          (apply aT<;>intro h)<;>simp only[go_sem,h]
          .have hjx:j<r.new.length:=gQ h;clear h;obtain⟨q,hq⟩:∃a,r.new[j]?=some a:=⟨_,aX hjx⟩
           have hsd:((r.new.drop j).map λf=>f.cells.length).sum=q.cells.length+((r.new.drop (j+1)).map λf=>f.cells.length).sum:=aDH (f:=λf:Fresh=>f.cells.length) hq;simp only[go_sem,hq,hjx];(refine iK λb13 hb13=>?_);simp only[go_sem,hq,hjx,hb13];refine⟨by decide,λy hy=>oS hy,eI rfl rfl (by rw[aK];exact iU λe=>by rw[hnil e];rfl) (λy hy=>oS hy) (by simp only[aK];omega) (λu hu=>?_)⟩;have hfu:=gI hu hfree;rw[fY hu];simp only[go_sem,hq,hjx,hb13];refine⟨((l++q.cells,some u),j+1),⟨⟨λh=>(by cases h),λt h=>by cases h;exact hfu⟩,hjx,by simp only[aI];omega⟩,aP,?_,?_⟩
           .simp only[go_sem,hw4.wrap (i:=j) (gQ hjx),dF,cN]
           .show St.ge _ ((s.setT u ((l++q.cells).length,43)));rw[aI];exact gR (jD hb13)
          .clear h;refine⟨((l,tk),i+1),⟨⟨hnil,hfree⟩,hix,aP⟩,aP,?_,aM _⟩;simp only[go_sem,hiw]
      .clear h;exact DK.mk (hk l) (lI (aM _) hfree) (iQ _ _ (λe=>by rw[hnil e];rfl))
theorem aQ3(x:Dfn)(O:aAt x<=4294967296)(U:x.sig.ops.length+x.sig.funs.length<=4294967296)(s:St)(KV Kp:St->A->Prop)(B:∀b:Bool,KV s (.bool b)):Den cx 21 [.agg x.cs] KV Kp s:=by
 refine iO λz=>?_
 have F:=z _ (bU ..);have H:Rlz (.list none (x.rules.map Rul.enc)):=F.cell (by simp[Dfn.cs]);clear z;simp only[go_sem];(refine aR func21 [0,1,2,3,5,28,30,31,32,33,54] ?_;simp only[go_sem,ntmps21,f21]);(refine aQ λp m=>?_);simp only[go_sem,m]
 (apply aT<;>intro h)<;>simp only[go_sem,h,m]
 .exact aS (B _) cD
 clear h;refine aQ5 x.sig U _ _ _ (λb1=>?_);simp only[go_sem,m]
 (apply aT<;>intro h)<;>simp only[go_sem,h,m]
 .exact aS (B _) cD
 clear h;generalize IntKind.i64.wrap (IntKind.i64.wrap (IntKind.i64.wrap ((x.eqs.length:Int)+(x.once.length:Int))+(x.many.length:Int))+(x.rules.length:Int))=n0
 refine Ex.loop (ι:=Int × Nat) (λc=>[(1,.ptr p 0),(3,.int .i64 c.1),(30,.list none (x.rules.map Rul.enc)),(31,.int .i64 x.rules.length),(32,.int .i64 (c.2:Nat))]) (λ_=>s.setO p (.cells 33 x.cs))
  (λc=>c.2<=x.rules.length) (λc=>x.rules.length-c.2) (n0,0) (aU _) ?_ (by exact aM _) ?_
 ·(simp only[go_sem,m];first|done|exact rfl|exact⟨rfl,rfl⟩)
 .rintro⟨l,i⟩ S;simp only at S;refine bE (V:=[0,1,2,3,5,28,30,31,32,33,54]) _ _ _ _ ?_;simp only[go_sem,m]
  (apply aT<;>intro h)<;>simp only[go_sem,h,m]
  .have u:i<x.rules.length:=gQ h;obtain⟨e,M⟩:∃a,x.rules[i]?=some a:=⟨_,aX u⟩
   clear h;simp only[go_sem,m,M,u];(refine aQ λb5 y=>?_);simp only[go_sem,m,M,u,y]
   (apply aT<;>intro h)<;>simp only[go_sem,h,m,y]
   .exact aS (B _) cD
   exact⟨(_,i+1),u,aP,⟨rfl,H.wrap (i:=i) (gQ u)⟩,(jD (And.intro m y))⟩
  .clear h;refine aO8 x O _ _ _ (λxs=>?_);simp only[go_sem,m];refine aRM xs _ _ _ _ (λZ=>?_);simp only[go_sem,m];exact aS (B _) cD
theorem aIw(s:St)(c:Int)(KV Kp)(m:KV s (.bool (uH c))):Den cx 261 [.int .u8 c] KV Kp s:=by
 unfold uH at m;(refine aR func261 [0,2] ?_;simp only[go_sem,ntmps261,f261])
 (repeat' (first|exact aS m cD|((apply aT<;>intro h)<;>simp only[go_sem,h]<;>(try simp only[h,fG,fE,fS,fX,kI,kR,kH,jH,fF,gB]at m))))
theorem aBV(s:St)(c:Int)(KV Kp)(m:KV s (.bool (fK c))):Den cx 185 [.int .u8 c] KV Kp s:=by
 unfold fK at m;(refine aR func185 [0,2] ?_;simp only[go_sem,ntmps185,f185])
 (repeat' (first|exact aS m cD|(refine aIw _ _ _ _ ?_;simp only[go_sem])|((apply aT<;>intro h)<;>simp only[go_sem,h]<;>(try simp only[h,fG,fE,fS,fX,kI,kR,kH,jH,fF,gB]at m))))
theorem yP(s:St)(x:List UInt8)(KV Kp)(B:KV s (.bool (dT x))):Den cx 196 [.str x] KV Kp s:=by
 (refine aR func196 [0,2,3,16,18,19,20,26] ?_;simp only[go_sem,ntmps196,f196])
 (apply aT<;>intro h)<;>simp only[go_sem,h]
 .have:x=[]:=gQ h;subst this;exact aO B
 have M:x≠[]:=gQ h;obtain⟨c,r,z⟩:=List.exists_cons_of_ne_nil M
 (apply aT<;>intro h)<;>simp only[go_sem,h]
 .have u:¬ x.length<=40:=by simp at h;omega
  have:dT x=false:=by rw[z]at u⊢;simp only[dT,u,aBQ,fE]
  exact aO (by rwa[this]at B)
 have u:x.length<=40:=by simp at h;omega
 have S:x[0]?=some c:=by rw[z];rfl
 have O:0<x.length:=by rw[z];exact Nat.zero_lt_succ _
 simp only[go_sem,S,O];refine aIw _ _ _ _ ?_;simp only[go_sem]
 (apply aT<;>intro h)<;>simp only[go_sem,h]
 .have:dT x=false:=by
   have:uH c.toNat=false:=gQ h;rw[z];simp[dT,this]
  exact aO (by rwa[this]at B)
 have hl:uH c.toNat=true:=gQ h
 refine Ex.loop (λi=>[(0,.str x),(18,.int .i64 x.length),(19,.int .i64 (i:Nat))]) (λ_=>s)
  (λi=>i<=x.length/\∀d∈x.take i,fK d.toNat=true) (λi=>x.length-i) 0 ⟨aU _,by simp⟩ ?_ (aM s) ?_
 .simp only[go_sem];rfl
 .rintro i ⟨U,m⟩;refine bE (V:=[0,2,3,16,18,19,20,26]) _ _ _ _ ?_;simp only[go_sem]
  (apply aT<;>intro h)<;>simp only[go_sem,h]
  .have y:i<x.length:=gQ h;obtain⟨d,hd⟩:∃d,x[i]?=some d:=⟨_,aX y⟩
   simp only[go_sem,hd,y];refine aBV _ _ _ _ ?_;simp only[go_sem]
   (apply aT<;>intro h)<;>simp only[go_sem,h]
   .have H:fK d.toNat=false:=gQ h
    have:dT x=false:=by
     rw[z]at hd⊢;simp only[dT,Bool.and_eq_false_iff];refine .inr (.inr (rK.2 λm=>?_));rw[jF]at m;have:=m d (bZ hd);rw[H]at this;cases this
    exact aO (by rwa[this]at B)
   .have H:fK d.toNat=true:=gQ h;refine⟨i+1,⟨by omega,?_⟩,by omega,?_,aM s⟩
    .intro q F;rw[fD,hd]at F;simp only[cZ,Option.toList_some,cC]at F;rcases F with F|rfl
     .exact m q F
     .exact H
    .simp only[go_sem,cF i aC]
  .have y:i=x.length:=by simp at h;omega
   have:dT x=true:=by
    rw[y,List.take_length]at m;rw[z]at m u⊢;simp only[dT,hl,jF,cT,dE];exact⟨u,trivial,m⟩
   exact aO (by rwa[this]at B)
theorem aF8 {C : Cx} {f : FuncId} {fn : Func} {e : Array Value → Sem Value} (S : C.P.funcs[f]? = some fn) (m : (fn.name == "runtime.NumGoroutine") = false)
  (O:fn.body.isNone=true)(H:Extern.findNext fn=none)(u:Extern.find fn=some e){args:List A}{s:St}{KV Kp:St->A->Prop}
  (h:∀g vals,Rzs g args vals->∃v a,(∀w,(e vals.toArray).run C.P w=.ok v w)/\Rz g a v/\KV s a):Den C f args KV Kp s:=by
 intro F g w vals y B;obtain⟨v,a,M,h2,z⟩:=h g vals B;rw[run_callFunc_extern S m O H u,M];exact⟨g,a,s,iE g,y,h2,z⟩
theorem Rzs.two{g:Gh}{a b:A}{vals:List Value}(h:Rzs g [a,b] vals):∃u v,vals=[u,v]/\Rz g a u/\Rz g b v:=by
 have hl:=h.1
 match vals,hl with
 | [u,v],_=>exact⟨u,v,rfl,h.2 0 a u rfl rfl,h.2 1 b v rfl rfl⟩
theorem aOj(s:St)(x:aD)(c:UInt8)(KV Kp)(m:KV s (.int .i64 (Lib.indexByte x c))):Den cx 316 [.str x,.int .u8 c.toNat] KV Kp s:=by
 refine aF8 (C:=cx) func316 rfl rfl rfl (e:=Extern.BytealgIndexByte.indexByte) (by kernel_rfl) λg vals h=>?_
 obtain⟨u,v,rfl,z,y⟩:=h.two;rw[z.str_inv,y.int_inv];refine⟨_,_,λw=>Lib.run_indexByteString _ _ w,.int _ _,?_⟩;simpa using m
theorem aOR(s:St)(x:aD)(c:UInt8)(KV Kp)(m:KV s (.int .i64 (x.count c:Nat))):Den cx 217 [.str x,.int .u8 c.toNat] KV Kp s:=by
 refine aF8 (C:=cx) func217 rfl rfl rfl (e:=Extern.BytealgCount.count) (by kernel_rfl) λg vals h=>?_
 obtain⟨u,v,rfl,z,y⟩:=h.two;rw[z.str_inv,y.int_inv];refine⟨_,_,λw=>Lib.run_countString _ _ w,.int _ _,?_⟩;simpa [Lib.countByte]using m
theorem aOi(s:St)(x:aD)(c:UInt8)(KV Kp)(m:KV s (.int .i64 (Lib.indexByte x c))):Den cx 303 [.str x,.int .u8 c.toNat] KV Kp s:=by
 (refine aR func303 [0,1,4] ?_;simp only[go_sem,ntmps303,f303])
 (repeat' (first|exact aS m cD|(refine aOj _ _ _ _ _ ?_;simp only[go_sem])|((apply aT<;>intro h)<;>simp only[go_sem,h]<;>(try simp only[h,fG,fE,fS,fX,kI,kR,kH,jH,fF,gB]at m))))
theorem aFy(s:St)(x:aD)(c:UInt8)(KV Kp)(m:KV s (.int .i64 (Lib.indexByte x c))):Den cx 298 [.str x,.int .u8 c.toNat] KV Kp s:=by
 (refine aR func298 [0,1,4] ?_;simp only[go_sem,ntmps298,f298])
 (repeat' (first|exact aS m cD|(refine aOi _ _ _ _ _ ?_;simp only[go_sem])|((apply aT<;>intro h)<;>simp only[go_sem,h]<;>(try simp only[h,fG,fE,fS,fX,kI,kR,kH,jH,fF,gB]at m))))
theorem aIn(s:St)(x p:aD)(KV Kp)(m:KV s (.bool (mV x p))):Den cx 311 [.str x,.str p] KV Kp s:=by
 unfold mV at m;(refine aR func311 [0,1,4] ?_;simp only[go_sem,ntmps311,f311])
 (apply aT<;>intro h)<;>simp only[go_sem,h]<;>(try simp only[h,fG,fE,fS,fX,kI,kR,kH,jH,fF,gB]at m)
 .have hl:p.length<=x.length:=gQ h;simp only[go_sem,hl];exact aO m
 .exact aO m
theorem aIl(s:St)(x p:aD)(KV Kp)(m:KV s (.bool (mV x p))):Den cx 299 [.str x,.str p] KV Kp s:=by
 (refine aR func299 [0,1,4] ?_;simp only[go_sem,ntmps299,f299])
 (repeat' (first|exact aS m cD|(refine aIn _ _ _ _ _ ?_;simp only[go_sem])|((apply aT<;>intro h)<;>simp only[go_sem,h]<;>(try simp only[h,fG,fE,fS,fX,kI,kR,kH,jH,fF,gB]at m))))
theorem aOf(s:St)(x:aD)(c:UInt8)(KV Kp)(M:x.length<=4294967296)(y:KV s (.int .i64 (oP x c x.length))):Den cx 219 [.str x,.int .u8 c.toNat] KV Kp s:=by
 (refine aR func219 [0,1,4,5,10,17] ?_;simp only[go_sem,ntmps219,f219]);rw[hU _ aC aC]
 refine Ex.loop (λn=>[(0,.str x),(1,.int .u8 c.toNat),(5,.int .i64 ((n:Nat)-1:Int))]) (λ_=>s)
  (λn=>n<=x.length/\oP x c x.length=oP x c n) (λn=>n) x.length ⟨aV _,rfl⟩ ?_ (aM s) ?_
 .simp only[go_sem]
 .rintro n ⟨O,z⟩;refine bE (V:=[0,1,4,5,10,17]) _ _ _ _ ?_;simp only[go_sem]
  (apply aT<;>intro h)<;>simp only[go_sem,h]
  .obtain⟨m,rfl⟩:∃m,n=m+1:=⟨n-1,by simp at h;omega⟩
   have F:(((m+1:Nat):Int)-1)=(m:Int):=by omega
   have B:m<x.length:=by omega
   obtain⟨d,hd⟩:∃d,x[m]?=some d:=⟨_,aX B⟩
   simp only[go_sem,F,B,hd]
   (apply aT<;>intro h)<;>simp only[go_sem,h]
   .have u:d=c:=by
     have:d.toNat=c.toNat:=gQ h;exact vH.1 this
    subst u;rw[z,oP,aF hd]at y;exact aO y
   .have u:¬ d=c:=by
     rintro rfl;simp at h
    rw[hU _ aC aC];refine⟨m,⟨by omega,?_⟩,by omega,?_,aM s⟩
    .rw[z,oP,aB (by rw[hd];simpa using u)]
    .simp only[go_sem]
  .have H:n=0:=by simp at h;omega
   subst H;rw[z,oP]at y;exact aO y
theorem aOm(s:St)(x:aD)(c:UInt8)(KV Kp)(u:x.length<=4294967296)(m:KV s (.int .i64 (oP x c x.length))):Den cx 143 [.str x,.int .u8 c.toNat] KV Kp s:=by
 (refine aR func143 [0,1,4] ?_;simp only[go_sem,ntmps143,f143])
 (repeat' (first|exact aS m cD|(refine aOf _ _ _ _ _ u ?_;simp only[go_sem])|((apply aT<;>intro h)<;>simp only[go_sem,h]<;>(try simp only[h,fG,fE,fS,fX,kI,kR,kH,jH,fF,gB]at m))))
theorem aIT(s:St)(c:Int)(KV Kp)(m:KV s (.bool (jC c))):Den cx 301 [.int .u8 c] KV Kp s:=by
 unfold jC at m;(refine aR func301 [0,2] ?_;simp only[go_sem,ntmps301,f301])
 (repeat' (first|exact aS m cD|((apply aT<;>intro h)<;>simp only[go_sem,h]<;>(try simp only[h,fG,fE,fS,fX,kI,kR,kH,jH,fF,gB]at m))))
theorem aLy(s:St)(x:aD)(f:FuncId)(p:UInt8->Bool)(KV Kp)(H:x.length<=4294967296)
  (F:∀(c:UInt8) KV Kp,KV s (.bool (p c))->Den cx f [.int .u8 c.toNat] KV Kp s)
  (y:KV s (.int .i64 (x.takeWhile p).length)):Den cx 300 [.str x,.fn f [] []] KV Kp s:=by
 (refine aR func300 [0,1,4,5,16] ?_;simp only[go_sem,ntmps300,f300])
 refine Ex.loop (λn=>[(0,.str x),(1,.fn f [] []),(5,.int .i64 (n:Nat))]) (λ_=>s)
  (λn=>n<=x.length/\(x.takeWhile p).length=n+((x.drop n).takeWhile p).length) (λn=>x.length-n) 0 ⟨aU _,by simp⟩ ?_ (aM s) ?_
 .simp only[go_sem];rfl
 .rintro n ⟨M,z⟩;refine bE (V:=[0,1,4,5,16]) _ _ _ _ ?_;simp only[go_sem]
  (apply aT<;>intro h)<;>simp only[go_sem,h]
  .have m:n<x.length:=gQ h;obtain⟨d,hd⟩:∃d,x[n]?=some d:=⟨_,aX m⟩
   have u:x.drop n=d::x.drop (n+1):=by
    rw[aAz m];congr 1;rw[aX m]at hd;simpa using hd
   simp only[go_sem,hd,m];refine F _ _ _ ?_;simp only[go_sem]
   (apply aT<;>intro h)<;>simp only[go_sem,h]
   .have B:p d=true:=gQ h;refine⟨n+1,⟨by omega,?_⟩,by omega,?_,aM s⟩
    .rw[z,u,aFx B,aG];omega
    .simp only[go_sem,cF n aC]
   .have B:¬ p d=true:=by simp[h]
    rw[z,u,aCQ B]at y;exact aO (gQ y)
  .have m:n=x.length:=by simp at h;omega
   subst m;rw[z,aIh]at y;exact aO (gQ y)
theorem tS{s:St}{b:Nat}{o:Ob}(h:s.getO b=some o):s.ge (s.setO b o) :=
 ⟨fun c x m => by
  rw[aL]at m;split at m
  .rename_i e;subst e;rw[h];exact m
  .exact m,λ_ _ h=>h,λ_ h=>h⟩
def iA(x:aD)(at_ line col:Nat)(h:List aD)(op:Bool):List A:=[.str x,.int .i64 at_,.int .i64 line,.int .i64 col,.list none (h.map .str),.bool op]
theorem aGX:∀(w v:aD) (p:Nat × Nat),eP p (w++v)=eP (eP p w) v
 | [],v,p=>rfl
 | b::w,v,(l,c)=>by
  simp only[aZ,eP];split<;>exact aGX w v _
theorem xO:∀(w:aD) (p:Nat × Nat) (k:Nat),p.1<=k+1->p.2<=k+1->(eP p w).1<=k+w.length+1/\(eP p w).2<=k+w.length+1
 | [],p,k,h,h2=>⟨h,h2⟩
 | b::w,(l,c),k,h,h2=>by
  simp only[eP,aG];split
  .have:=xO w (l+1,1) (k+1) (gQ h) bJ;omega
  .have:=xO w (l,c+1) (k+1) (by have:l<=k+1:=h;simp;omega) (gQ h2);omega
theorem aDN(s:St)(r:Nat)(x:aD)(at_ l c n:Nat)(F:List aD)(op:Bool)(KV Kp)
  (O:s.getO r=some (.cells 226 (iA x at_ l c F op)))(hx:x.length<=4294967296)(hn:at_+n<=x.length)(hl:l<=at_+1)(H:c<=at_+1)
  (S:KV (s.setO r (.cells 226 (iA x (at_+n) (eP (l,c) ((x.drop at_).take n)).1 (eP (l,c) ((x.drop at_).take n)).2 F op))) (.tuple [])) :
  Den cx 279 [.ptr r 0,.int .i64 n] KV Kp s:=by
 (refine aR func279 [0,1,4,5,6,23] ?_;simp only[go_sem,ntmps279,f279])
 refine Ex.loop (λi=>[(0,.ptr r 0),(4,.int .i64 n),(5,.int .i64 (i:Nat))])
  (λi=>s.setO r (.cells 226 (iA x (at_+i) (eP (l,c) ((x.drop at_).take i)).1 (eP (l,c) ((x.drop at_).take i)).2 F op)))
  (λi=>i<=n) (λi=>n-i) 0 (aU _) ?_ ?_ ?_
 .simp only[go_sem];rfl
 .simp only[Nat.add_zero,List.take_zero,eP];exact tS O
 .intro i hi;refine bE (V:=[0,1,4,5,6,23]) _ _ _ _ ?_;have hb:=xO ((x.drop at_).take i) (l,c) at_ hl H;have y:((x.drop at_).take i).length=i:=by rw[cQ,eC];omega
  rw[y]at hb;simp only[go_sem]
  (apply aT<;>intro h)<;>simp only[go_sem,h]
  .have z:i<n:=gQ h;have B:at_+i<x.length:=by omega
   obtain⟨d,hd⟩:∃d,x[at_+i]?=some d:=⟨_,aX B⟩
   simp only[go_sem,iA];rw[cF _ aC];(refine bO (OT.r 0 10) [] ?_;simp only[go_sem,hd,B])
   have u:eP (l,c) ((x.drop at_).take (i+1))=eP (eP (l,c) ((x.drop at_).take i)) [d]:=by
    rw[fD,qC,hd,aGX];rfl
   have U:IntKind.i64.wrap ((i:Int)+1)=((i+1:Nat):Int):=cF i aC;have M:IntKind.i64.wrap (((at_+i:Nat):Int)+1)=((at_+(i+1):Nat):Int):=by rw[cF _ aC];rfl
   have Z:IntKind.i64.wrap (((eP (l,c) ((x.drop at_).take i)).1:Int)+1)=(((eP (l,c) ((x.drop at_).take i)).1+1:Nat):Int):=cF _ aC
   (apply aT<;>intro h)<;>simp only[go_sem,h,M,Z,U]
   .have m:d=10:=by
     have:d.toNat=10:=by simp at h;omega
     exact vH.1 this
    refine⟨i+1,by omega,by omega,rfl,?_⟩;rw[u];simp only[eP,m,bT];exact aM _
   .have m:¬ d=10:=by rintro rfl;simp at h
    refine⟨i+1,by omega,by omega,rfl,?_⟩;rw[u];simp only[eP,m,bR];exact aM _
  .have z:i=n:=by simp at h;omega
   subst z;exact aO S
@[go_sem] theorem aOE(x:aD)(n:Nat):(x.drop n).take (x.length-n)=x.drop n:=eG (by rw[eC];exact aV _)
theorem aFC{b:UInt8}{r:aD}(h:mV (b::r) [47,47]=true):1<=((b::r).takeWhile (λc=>!decide (c=10))).length:=by
 have m:b=47:=by
  simp only[mV,cT,dE]at h;have:=h.2;simp at this;exact this.1
 subst m;simp[List.takeWhile]
theorem aGH:∀(f g:Nat) (w:aD),w.length<=f->w.length<=g->oX f w=oX g w
 | f,g,[],_,_=>by cases f<;>cases g<;>rfl
 | 0,g,b::r,h,_=>by simp at h
 | f,0,b::r,_,h=>by simp at h
 | f+1,g+1,b::r,m,u=>by
  simp only[aG]at m u;simp only[oX];split
  .rw[aGH f g r aC aC]
  .split
   .rename_i y;have:=aFC y;rw[aGH f g _ (by rw[eC,aG];omega) (by rw[eC,aG];omega)]
   .rfl
theorem aR7:fL []=0:=rfl
theorem aQu{b:UInt8}{r:aD}(h:oM b=true):fL (b::r)=1+fL r:=by
 simp only[fL,aG,oX,h,bT]
theorem aQF{b:UInt8}{r:aD}(m:oM b=false)(h:mV (b::r) [47,47]=true) :
  fL (b::r)=((b::r).takeWhile (λc=>!decide (c=10))).length+fL ((b::r).drop ((b::r).takeWhile (λc=>!decide (c=10))).length):=by
 have:=aFC h;simp only[fL,aG,oX,m,cE,bR,h,bT];rw[aGH r.length _ _ (by rw[eC,aG];omega) (aV _)]
theorem aRt{b:UInt8}{r:aD}(m:oM b=false)(h:mV (b::r) [47,47]=false):fL (b::r)=0:=by
 simp only[fL,aG,oX,m,cE,bR,h]
theorem aRI(b:UInt8):decide (0<=Lib.indexByte [32,9,10,13] b)=oM b:=by
 by_cases h:b=32
 .subst h;decide
 by_cases h2:b=9
 .subst h2;decide
 by_cases u:b=10
 .subst u;decide
 by_cases m:b=13
 .subst m;decide
 have z:((32:UInt8) == b)=false:=aBN.2 λe=>h e.symm
 have y:((9:UInt8) == b)=false:=aBN.2 λe=>h2 e.symm
 have F:((10:UInt8) == b)=false:=aBN.2 λe=>u e.symm
 have B:((13:UInt8) == b)=false:=aBN.2 λe=>m e.symm
 simp[Lib.indexByte,oM,z,y,F,B,h,h2,u,m]
theorem aSZ(w:aD):(if Lib.indexByte w 10<0 then((w.length:Nat):Int) else Lib.indexByte w 10)=((w.takeWhile (λc=>!decide (c=10))).length:Nat)/\(Lib.indexByte w 10=-1\/0<=Lib.indexByte w 10):=by
 induction w with
 | nil=>simp[Lib.indexByte]
 | cons b r m =>
  obtain⟨m,u⟩:=m;unfold Lib.indexByte;by_cases B:b=10
  .subst B;simp
  .have z:(b == 10)=false:=gQ B;rw[z];simp only[cE,bR];have y:(b::r).takeWhile (λc=>!decide (c=10))=b::r.takeWhile (λc=>!decide (c=10)):=by simp[List.takeWhile,B]
   rw[y];rcases u with h|h
   .rw[h]at m⊢;simp only[show((-1:Int)<0) from by decide,bT]at m;simp only[beq_self_eq_true,bT,show((-1:Int)<0) from by decide,aG];exact⟨by omega,.inl trivial⟩
   .have F:¬ Lib.indexByte r 10<0:=by omega
    have h2:(Lib.indexByte r 10 == -1)=false:=by simpa using(by omega:¬ Lib.indexByte r 10=-1)
    rw[aB F]at m;rw[h2];simp only[cE,bR,aG];rw[aB aC];exact⟨by omega,.inr aC⟩
theorem aJf(s:St)(r:Nat)(x:aD)(at_ l c:Nat)(H:List aD)(op:Bool)(KV Kp)
  (hr:s.getO r=some (.cells 226 (iA x at_ l c H op)))(Z:x.length<=4294967296)(ha:at_<=x.length)(hl:l<=at_+1)(hc:c<=at_+1)
  (S:KV (s.setO r (.cells 226 (iA x (at_+fL (x.drop at_)) (eP (l,c) ((x.drop at_).take (fL (x.drop at_)))).1 (eP (l,c) ((x.drop at_).take (fL (x.drop at_)))).2 H op))) (.tuple [])) :
  Den cx 277 [.ptr r 0] KV Kp s:=by
 (refine aR func277 [0,2,3,13,23,30,36] ?_;simp only[go_sem,ntmps277,f277])
 refine Ex.loop (λk=>[(0,.ptr r 0)])
  (λk=>s.setO r (.cells 226 (iA x (at_+k) (eP (l,c) ((x.drop at_).take k)).1 (eP (l,c) ((x.drop at_).take k)).2 H op)))
  (λk=>at_+k<=x.length/\fL (x.drop at_)=k+fL (x.drop (at_+k))) (λk=>x.length-(at_+k)) 0 ⟨by omega,by simp⟩ ?_ ?_ ?_
 .simp only[go_sem]
 .simp only[Nat.add_zero,List.take_zero,eP];exact tS hr
 .rintro k ⟨b7,U⟩;have M:((x.drop at_).take k).length=k:=by rw[cQ,eC];omega
  have b4:=xO ((x.drop at_).take k) (l,c) at_ hl hc;rw[M]at b4
  have u:∀m,eP (l,c) ((x.drop at_).take (k+m))=eP (eP (l,c) ((x.drop at_).take k)) ((x.drop (at_+k)).take m):=by
   intro m;rw[List.take_add,aGX,vI]
  refine bE (V:=[0,2,3,13,23,30,36]) _ _ _ _ ?_;simp only[go_sem];(refine bO (OT.r 0 10) [] ?_;simp only[go_sem,iA])
  (apply aT<;>intro h)<;>simp only[go_sem,h]
  .have y:at_+k<x.length:=gQ h
   have F:∃d w,x.drop (at_+k)=d::w:=by
    rw[aAz y];exact⟨_,_,rfl⟩
   obtain⟨d,w,z⟩:=F;have b0:at_+k<=x.length:=by omega
   have b3:(d::w).take (x.length-(at_+k))=d::w:=by rw[<-z];exact aOE x _
   (refine bO (OT.r 0 10) [] ?_;simp only[go_sem,iA,z,b3,b0,aV]);refine aFy _ _ _ _ _ ?_;simp only[go_sem,aRI]
   (apply aT<;>intro h)<;>simp only[go_sem,h]
   ·
    refine aDN _ r x (at_+k) _ _ 1 H op _ _ (by rw[aL,aF rfl];rfl) Z aC aC aC ?_;simp only[go_sem];refine⟨k+1,⟨by omega,?_⟩,by omega,?_⟩
    .rw[U,z,aQu h,show at_+(k+1)=at_+k+1 from rfl,<-vI,z];simp;omega
    .rw[u 1];exact aM _
   .refine aIl _ _ _ _ _ ?_;simp only[go_sem]
    (apply aT<;>intro h)<;>simp only[go_sem,h]
    .have B:oM d=false:=by assumption
     have hp:=h;refine aFy _ _ 10 _ _ ?_;simp only[go_sem];have hi:=aSZ (d::w);have O:=aFC hp;have b5:((d::w).takeWhile (λc=>!decide (c=10))).length<=(d::w).length:=(List.takeWhile_sublist _).length_le;have b6:(d::w).length=x.length-(at_+k):=by rw[<-z,eC]
     have fin:∀m:Nat,m=((d::w).takeWhile (λc=>!decide (c=10))).length->at_+k+m<=x.length/\fL (x.drop at_)=k+m+fL (x.drop (at_+(k+m))):=by
      rintro m rfl;refine⟨by omega,?_⟩;have:=aQF B hp;rw[U,z,this,<-qE at_,<-vI,z];omega
     generalize hm:((d::w).takeWhile (λc=>!decide (c=10))).length=m at hi O b5;obtain⟨f1,f2⟩:=fin m hm.symm
     (apply aT<;>intro h)<;>simp only[go_sem,h]
     .have y:Lib.indexByte (d::w) 10<0:=gQ h;have e:=hi.1;rw[aF y]at e;have e:w.length+1=m:=by simp at e;omega
      rw[e];refine aDN _ r x (at_+k) _ _ m H op _ _ (by rw[aL,aF rfl];rfl) Z f1 aC aC ?_;simp only[go_sem];refine⟨k+m,⟨by omega,f2⟩,by omega,?_⟩;rw[u m,qE at_ k m];exact aM _
     .have y:¬ Lib.indexByte (d::w) 10<0:=gQ h;have e:=hi.1;rw[aB y]at e;rw[e];refine aDN _ r x (at_+k) _ _ m H op _ _ (by rw[aL,aF rfl];rfl) Z f1 aC aC ?_;simp only[go_sem];refine⟨k+m,⟨by omega,f2⟩,by omega,?_⟩;rw[u m,qE at_ k m];exact aM _
    .have B:oM d=false:=by assumption
     rw[U,z,aRt B h,Nat.add_zero]at S;exact aO S
  .have b2:at_+k=x.length:=by simp at h;omega
   have e:fL (x.drop at_)=k:=by rw[U,b2,aIh,aR7];rfl
   rw[e]at S;exact aO S
theorem aCj{x:aD}{i:Nat}{d:UInt8}(hd:x[i]?=some d)(h:d.toNat<128):Utf8.decode ⟨x.toArray⟩ i=(d.toNat,1):=by
 have u:i<x.length:=(eF.1 hd).1;have m:i<(ByteArray.mk x.toArray).size:=by simpa [ByteArray.size]using u
 have e:(ByteArray.mk x.toArray)[i]'m=d:=by
  exact(eF.1 hd).2
 have:=decode_ascii ⟨x.toArray⟩ i m (by rw[e];exact h);rw[this,e]
theorem aR6{x:aD}{i:Nat}{d:UInt8}(hd:x[i]?=some d)(h:128<=d.toNat):128<=(Utf8.decode ⟨x.toArray⟩ i).1:=by
 have u:i<x.length:=(eF.1 hd).1;have m:i<(ByteArray.mk x.toArray).size:=by simpa [ByteArray.size]using u
 have e:(ByteArray.mk x.toArray)[i]'m=d:=by
  exact(eF.1 hd).2
 exact(decode_high ⟨x.toArray⟩ i m (by rw[e];exact h)).1
theorem aIF(s:St)(x:aD)(KV Kp)(M:KV s (.bool (oU x))):Den cx 273 [.str x] KV Kp s:=by
 (refine aR func273 [0,2,4,6,7,8,23] ?_;simp only[go_sem,ntmps273,f273]);intro b hb;simp only[go_sem]
 refine Ex.loop (λi=>[(0,.str x),(6,.ptr b 0)]) (λi=>s.setO b (.iter x i))
  (λi=>i<=x.length/\∀d∈x.take i,lK d=true) (λi=>x.length-i) 0 ⟨aU _,by simp⟩ ?_ (aM _) ?_
 .simp only[go_sem]
 .rintro i ⟨hi,h⟩;refine bE (V:=[0,2,4,6,7,8,23]) _ _ _ _ ?_;by_cases m:i<x.length
  .obtain⟨d,hd⟩:∃d,x[i]?=some d:=⟨_,aX m⟩
   have bad:lK d=false->∀o,DK KV (s.setO b o) (.bool false):=λho o=>by
    have:oU x=false:=by
     rw[oU,Bool.and_eq_false_iff];refine .inl (rK.2 λh=>?_);rw[jF]at h;rw[h d (bZ hd)]at ho;cases ho
    rw[this]at M;exact aS M (eB hb)
   by_cases u:d.toNat<128
   .by_cases ho:lK d=true
    .have y:=ho;simp only[lK,cT,dE,qD,fR]at y;obtain⟨o1,o2,O,o4⟩:=y;have Z:¬ d.toNat=34:=λe=>O (vH.1 e)
     have n4:¬ d.toNat=92:=λe=>o4 (vH.1 e)
     have z:decide ((d.toNat:Int)<32)=false:=eQ aC;have B:decide (126<(d.toNat:Int))=false:=eQ aC;have H:decide ((d.toNat:Int)=34)=false:=eQ aC;have U:decide ((d.toNat:Int)=92)=false:=eQ aC;simp only[go_sem,m,aCj hd u,z,B,H,U];refine⟨i+1,⟨by omega,λq F=>?_⟩,by omega,aM _⟩;rw[fD,hd]at F;simp only[cZ,Option.toList_some,cC]at F;rcases F with F|rfl
     .exact h q F
     .exact ho
    .have y:lK d=false:=gQ ho;have bad:=bad y;by_cases o1:32<=d.toNat
     .have z:decide ((d.toNat:Int)<32)=false:=eQ aC;by_cases o2:d.toNat<=126
      .have B:decide (126<(d.toNat:Int))=false:=eQ aC;by_cases O:d.toNat=34
       .have H:decide ((d.toNat:Int)=34)=true:=fN aC;simp only[go_sem,m,aCj hd u,z,B,H];exact bad _
       .have H:decide ((d.toNat:Int)=34)=false:=eQ aC
        have o4:d.toNat=92:=by
         have Z:¬ d=34:=λe=>O (by rw[e];rfl)
         simp only[lK,o1,o2,Z,tR,aBQ,fG,gB,aCT,dE]at y;rw[y];rfl
        have U:decide ((d.toNat:Int)=92)=true:=fN aC;simp only[go_sem,m,aCj hd u,z,B,H,U];exact bad _
      .have B:decide (126<(d.toNat:Int))=true:=fN aC;simp only[go_sem,m,aCj hd u,z,B];exact bad _
     .have z:decide ((d.toNat:Int)<32)=true:=fN aC;simp only[go_sem,m,aCj hd u,z];exact bad _
   .have hh:=aR6 hd aC;have z:decide (((Utf8.decode ⟨x.toArray⟩ i).1:Int)<32)=false:=eQ aC;have B:decide (126<((Utf8.decode ⟨x.toArray⟩ i).1:Int))=true:=fN aC;simp only[go_sem,m,z,B];exact bad (by simp only[lK,show¬ d.toNat<=126 from by omega,aBQ,fE,fX]) _
  .have S:i=x.length:=by omega
   simp only[go_sem,m];refine aS (s2:=s) ?_ (eB hb)
   have:oU x=decide ((x.length:Int)<=200):=by
    rw[oU]
    have:x.all lK=true:=by
     rw[jF];intro d hd;rw[S,List.take_length]at h;exact h d hd
    rw[this,fG];congr 1;simp;omega
   rwa[this]at M
theorem aO3(s:St)(x:aD)(c:UInt8)(KV Kp)(m:KV s (.str (x.dropWhile (nM c)))):Den cx 323 [.str x,.int .u8 c.toNat] KV Kp s:=by
 (refine aR func323 [0,1,4,13] ?_;simp only[go_sem,ntmps323,f323])
 refine Ex.loop (λw=>[(0,.str w),(1,.int .u8 c.toNat)]) (λ_=>s)
  (λw=>w.dropWhile (nM c)=x.dropWhile (nM c)) (λw=>w.length) x rfl ?_ (aM s) ?_
 .simp only[go_sem]
 .intro w u;refine bE (V:=[0,1,4,13]) _ _ _ _ ?_;cases w with
  | nil =>
   simp only[go_sem,show decide ((0:Int)<((0:Nat):Int))=false from rfl];rw[<-u]at m;exact aO m
  | cons b r =>
   simp only[go_sem,show decide ((0:Int)<((r.length+1:Nat):Int))=true from fN aC]
   have e:decide (b.toNat=c.toNat)=nM c b:=by
    unfold nM;congr 1;exact propext vH
   simp only[go_sem,e]
   (apply aT<;>intro h)<;>simp only[go_sem,h]
   .simp only[go_sem,show(1:Int)<=((r.length+1:Nat):Int) from by omega,show Int.toNat 1=1 from rfl];refine⟨by decide,r,?_,by omega,?_,aM s⟩
    .rw[<-u,List.dropWhile_cons,aF h]
    .exact eG aC
   .rw[<-u,List.dropWhile_cons,aB (by simp[h])]at m;exact aO m
theorem aOZ(s:St)(x:aD)(c:UInt8)(KV Kp)(m:c.toNat<128)(h:KV s (.str (x.dropWhile (nM c)))):Den cx 314 [.str x,.str [c]] KV Kp s:=by
 (refine aR func314 [0,1,4,5,6,12,21,31] ?_;simp only[go_sem,ntmps314,f314]);cases x with
 | nil =>
  simp only[go_sem];exact aO h
 | cons b r =>
  simp only[go_sem,show decide (((1:Nat):Int)=1)=true from rfl,show decide ((c.toNat:Int)<128)=true from fN aC];refine aO3 _ _ _ _ _ ?_;simp only[go_sem];exact aO h
theorem aGo(x:aD)(d:UInt8):gN (x++[d])=gN x * 10+(d.toNat-48):=by
 simp[gN,List.foldl_append]
theorem aK2:∀(n:Nat) (x:aD),x.length=n->zX x->gN x<10 ^ n
 | 0,x,h,_=>by have:x=[]:=fW h;subst this;simp[gN]
 | n+1,x,h,hd=>by
  have m:x≠[]:=by rintro rfl;simp at h
  obtain⟨y,d,rfl⟩:∃y d,x=y++[d]:=⟨x.dropLast,x.getLast m,(List.dropLast_concat_getLast m).symm⟩
  have z:=aK2 n y (gQ h) (λe u=>hd e (by simp[u]));have:=hd d bJ;rw[aGo,Nat.pow_succ];omega
theorem aSh(s:St)(x:aD)(KV Kp)(hl:1<=x.length)(z:x.length<=11)(hd:zX x)(Z:KV s (.tuple [.int .i64 (gN x),.nili])):Den cx 327 [.str x] KV Kp s:=by
 obtain⟨b,r,rfl⟩:∃b r,x=b::r:=by
  cases x with
  | nil=>simp at hl
  | cons b r=>exact⟨b,r,rfl⟩
 have hb:=hd b bJ;(refine aR func327 [0,2,3,4,5,6,8,9,10,30,39,44,47,48,49,50,56,66] ?_;simp only[go_sem,ntmps327,f327]);have U:decide ((0:Int)<((r.length+1:Nat):Int))=true:=fN aC;have e2:decide (((r.length+1:Nat):Int)<19)=true:=fN (by simp at z;omega);have H:decide ((b.toNat:Int)=45)=false:=eQ aC;have e4:decide ((b.toNat:Int)=43)=false:=eQ aC;simp only[go_sem,U,e2,H,e4];refine⟨by unfold maxLen;simp at z;omega,?_⟩;have hx:(b::r).length=r.length+1:=rfl;generalize y:b::r=x at *
 refine Ex.loop (λi=>[(5,.str x),(6,.int .i64 (gN (x.take i):Nat)),(47,.list none (x.map λc=>.int .u8 c.toNat)),(48,.int .i64 ((r.length+1:Nat))),(49,.int .i64 (i:Nat)),(3,.nili)]) (λ_=>s)
  (λi=>i<=x.length) (λi=>x.length-i) 0 (aU _) ?_ (aM s) ?_
 .simp only[go_sem];subst y;exact⟨rfl,rfl,rfl⟩
 .intro i hi;refine bE (V:=[0,2,3,4,5,6,8,9,10,30,39,44,47,48,49,50,56,66]) _ _ _ _ ?_;simp only[go_sem]
  (apply aT<;>intro h)<;>simp only[go_sem,h]
  .have m:i<x.length:=by simp at h;omega
   obtain⟨d,u⟩:∃d,x[i]?=some d:=⟨_,aX m⟩
   have F:=hd d (bZ u)
   have f1:IntKind.u8.wrap ((d.toNat:Int)-48)=((d.toNat-48:Nat):Int):=by
    have O:((d.toNat:Int)-48) % 2 ^ 8=(d.toNat:Int)-48:=by omega
    simp only[IntKind.wrap,IntKind.signed,IntKind.bits,fE,cE,bR,O];omega
   have hn:gN (x.take i)<10 ^ 11:=by
    have h1:=aK2 (x.take i).length (x.take i) rfl (λe M=>hd e (sH M));have h2:(x.take i).length<=11:=by rw[cQ];omega
    exact Nat.lt_of_lt_of_le h1 (Nat.pow_le_pow_right aE h2)
   have f2:decide ((9:Int)<((d.toNat-48:Nat):Int))=false:=eQ aC
   have S:IntKind.i64.wrap (((gN (x.take i):Nat):Int) * 10)=((gN (x.take i) * 10:Nat):Int):=by
    rw[hU _ aC aC];omega
   have f4:IntKind.i64.wrap ((d.toNat-48:Nat):Int)=((d.toNat-48:Nat):Int):=hU _ aC aC
   have f5:IntKind.i64.wrap (((gN (x.take i) * 10:Nat):Int)+((d.toNat-48:Nat):Int))=((gN (x.take (i+1)):Nat):Int):=by
    rw[fD,u];show _=((gN (x.take i++[d]):Nat):Int);rw[aGo,hU _ aC aC];omega
   simp only[go_sem,u,m,f1,f2,S,f4,f5,cF i aC];exact⟨i+1,by omega,by omega,⟨rfl,rfl⟩,aM s⟩
  .have m:i=x.length:=by simp at h;omega
   have h0:x[0]?=some b:=by rw[<-y];rfl
   have B:0<x.length:=by omega
   simp only[go_sem,h0,B,H];rw[m,List.take_length];exact aO Z
theorem aI4(s:St)(x:aD)(KV Kp)(hl:1<=x.length)(h:x.length<=11)(hd:zX x)(m:KV s (.tuple [.int .i64 (gN x),.nili])):Den cx 315 [.str x] KV Kp s:=by
 (refine aR func315 [0,2,3,4,5,12] ?_;simp only[go_sem,ntmps315,f315]);refine aSh _ _ _ _ hl h hd ?_;simp only[go_sem];exact aO m
theorem aP1(s:St)(x:aD)(KV Kp)(hx:x.length<=4294967296)(y:KV s (.tuple [(qW x).1.enc,.int .i64 (qW x).2.1,.bool (qW x).2.2])):Den cx 302 [.str x] KV Kp s:=by
 (refine aR func302 [0,2,3,4,5,6,28] ?_;simp only[go_sem,ntmps302,f302]);intro b u;simp only[go_sem,u];refine aLy _ _ _ (λc=>jC c.toNat) _ _ hx (λc KV Kp h=>aIT _ _ _ _ h) ?_;generalize S:(x.takeWhile λc=>jC c.toNat).length=n at y;have hnl:n<=x.length:=by rw[<-S];exact(List.takeWhile_sublist _).length_le
 simp only[go_sem,hnl];refine aOZ _ _ 48 _ _ aE ?_;simp only[go_sem];generalize hg:(x.take n).dropWhile (nM 48)=g at y
 have bad:(10<g.length\/(∃c,x[n]?=some c/\fK c.toNat=true))->qW x=(⟨0,[],0,0,0⟩,0,false):=by
  intro Z;simp only[qW,S,hg,aF Z]
 have z:¬ (10<g.length\/(∃c,x[n]?=some c/\fK c.toNat=true))->qW x=(⟨2,[],gN g,0,0⟩,n,decide (gN g<=2147483647)):=by
  intro Z;simp only[qW,S,hg,aB Z]
 have O:zX g:=by
  intro d hd;rw[<-hg]at hd;have m:=(List.dropWhile_sublist _).mem hd;rw[<-S]at m
  have h2:d∈x.takeWhile λc=>jC c.toNat:=by
   have:=sH (l:=x) m
   have e:x.take (x.takeWhile λc=>jC c.toNat).length=x.takeWhile λc=>jC c.toNat:=by
    conv=>lhs;arg 2;rw[<-List.takeWhile_append_dropWhile (p:=λc=>jC c.toNat) (l:=x)]
    rw[List.take_left'];rfl
   rw[e]at m;exact m
  have h3:=jF.1 (List.all_takeWhile (p:=λc:UInt8=>jC c.toNat) (l:=x)) d h2;simp only[jC,cT,dE]at h3;omega
 (apply aT<;>intro h)<;>simp only[go_sem,h,u]
 .rw[bad (.inl (by simp at h;omega))]at y;exact aS y (eB u)
 .have B:¬ 10<g.length:=by simp at h;omega
  (apply aT<;>intro h)<;>simp only[go_sem,h,u]
  .have M:n<x.length:=gQ h;obtain⟨c,U⟩:∃c,x[n]?=some c:=⟨_,aX M⟩
   simp only[go_sem,U,M,u];refine aBV _ _ _ _ ?_;simp only[go_sem,u]
   (apply aT<;>intro h)<;>simp only[go_sem,h,u]
   .rw[bad (.inr ⟨c,U,h⟩)]at y;exact aS y (eB u)
   .have F:¬ (10<g.length\/(∃c,x[n]?=some c/\fK c.toNat=true)):=by
     rintro(m|⟨c',m,h2⟩)
     .exact B m
     .rw[U]at m;cases m;rw[h]at h2;cases h2
    have H:=z F;rw[H]at y;have m1:(48::g).length<=11:=by simp;omega
    refine⟨by unfold maxLen;omega,?_⟩
    refine aI4 _ _ _ _ bJ m1 (λd hd=>by
     simp only[eA]at hd;rcases hd with rfl|hd
     .decide
     .exact O d hd) ?_
    have m2:gN (48::g)=gN g:=rfl;simp only[go_sem,u,m2];have m3:decide (((gN g:Nat):Int)<=2147483647)=decide (gN g<=2147483647):=by congr 1;simp only[eq_iff_iff];omega
    rw[m3];exact aS y (eB u)
  .have F:¬ (10<g.length\/(∃c,x[n]?=some c/\fK c.toNat=true)):=by
    rintro(m|⟨c',m,h2⟩)
    .exact B m
    .have:=(eF.1 m).1;simp at h;omega
   have H:=z F;rw[H]at y;have m1:(48::g).length<=11:=by simp;omega
   refine⟨by unfold maxLen;omega,?_⟩
   refine aI4 _ _ _ _ bJ m1 (λd hd=>by
    simp only[eA]at hd;rcases hd with rfl|hd
    .decide
    .exact O d hd) ?_
   have m2:gN (48::g)=gN g:=rfl;simp only[go_sem,u,m2];have m3:decide (((gN g:Nat):Int)<=2147483647)=decide (gN g<=2147483647):=by congr 1;simp only[eq_iff_iff];omega
   rw[m3];exact aS y (eB u)
end Go.AV
