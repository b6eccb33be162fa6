/-
  Of DefRenamed.
-/
import Derived.Test.YtamikhobdffnfaaGreatDoorRe03
import Derived.Lib.Bytealg
import Derived.Laws.Externs
import Derived.Laws.RangeAny
set_option linter.all false
set_option maxRecDepth 99999
set_option maxHeartbeats 0
namespace Go.AV
open Go Go.Proofs Tryz
attribute [go_sem] Nat.reduceLT Nat.reduceEqDiff Nat.reduceBEq Nat.reduceAdd Nat.reduceLeDiff Nat.reduceMul reduceIte reduceCtorEq List.map jV rE List.elem uU aAL eV fM bT aE aF kM List.getElem?_cons_succ gI Nat.add_zero aV aW wI uQ List.take_succ_cons List.take_zero List.drop_succ_cons List.take_nil Nat.succ_eq_add_one wO Int.toNat_zero Nat.sub_zero Nat.zero_lt_succ fB eW fG eU
abbrev aC:=List UInt8
structure Fault where
 code:Int
 name:aC
 line:Int
 col:Int
 deriving DecidableEq
def Fault.none:Fault:=⟨0,[],0,0⟩
def Fault.cs(f:Fault):List A:=[.int .i64 f.code,.str f.name,.int .i64 f.line,.int .i64 f.col]
def Fault.enc(f:Fault):A:=.agg f.cs
structure Tok where
 kind:Int
 text:aC
 n:Int
 line:Int
 col:Int
 deriving DecidableEq
def Tok.cs(t:Tok):List A:=[.int .i64 t.kind,.str t.text,.int .i64 t.n,.int .i64 t.line,.int .i64 t.col]
def Tok.enc(t:Tok):A:=.agg t.cs
inductive Tm where
 | mk (kind n:Int) (text sort:aC) (kids rest:List Tm)
def Tm.kind:Tm->Int|.mk k _ _ _ _ _=>k
def Tm.n:Tm->Int|.mk _ n _ _ _ _=>n
def Tm.text:Tm->aC|.mk _ _ t _ _ _=>t
def Tm.sort:Tm->aC|.mk _ _ _ s _ _=>s
def Tm.kids:Tm->List Tm|.mk _ _ _ _ ks _=>ks
def Tm.rest:Tm->List Tm|.mk _ _ _ _ _ rs=>rs
mutual
def Tm.enc:Tm->A
 | .mk k n t s ks rs=>.agg [.int .i64 k,.int .i64 n,.str t,.str s,.list none (aBh ks),.list none (aBh rs)]
def aBh:List Tm->List A
 | []=>[]
 | t::r=>t.enc::aBh r
end
theorem aHr:∀l:List Tm,aBh l=l.map Tm.enc
 | []=>rfl
 | t::r=>by rw[aBh,aHr r];rfl
def Tm.cs(t:Tm):List A:=[.int .i64 t.kind,.int .i64 t.n,.str t.text,.str t.sort,.list none (t.kids.map Tm.enc),.list none (t.rest.map Tm.enc)]
theorem Tm.enc_eq(t:Tm):t.enc=.agg t.cs:=by
 cases t;simp only[Tm.enc,Tm.cs,Tm.kind,Tm.n,Tm.text,Tm.sort,Tm.kids,Tm.rest,aHr]
structure Below where
 low:aC
 high:aC
 deriving DecidableEq
def Below.cs(b:Below):List A:=[.str b.low,.str b.high]
def Below.enc(b:Below):A:=.agg b.cs
structure Piece where
 text:aC
 sort:aC
 deriving DecidableEq
def Piece.cs(b:Piece):List A:=[.str b.text,.str b.sort]
def Piece.enc(b:Piece):A:=.agg b.cs
structure Opr where
 name:aC
 args:List aC
 sort:aC
 pieces:List Piece
 prec:Int
 assoc:Int
 strict:List Int
 deriving DecidableEq
def Opr.cs(o:Opr):List A:=[.str o.name,.list none (o.args.map .str),.str o.sort,.list none (o.pieces.map Piece.enc),.int .i64 o.prec,.int .i64 o.assoc,.list none (o.strict.map (.int .i64))]
def Opr.enc(o:Opr):A:=.agg o.cs
structure Sig where
 sorts:List aC
 below:List Below
 ops:List Opr
 funs:List Opr
 values:List aC
def Sig.cs(s:Sig):List A:=[.list none (s.sorts.map .str),.list none (s.below.map Below.enc),.list none (s.ops.map Opr.enc),.list none (s.funs.map Opr.enc),.list none (s.values.map .str)]
def Sig.enc(s:Sig):A:=.agg s.cs
structure Eqn where
 left:Tm
 right:Tm
 cond:List Tm
 line:Int
 col:Int
def Eqn.cs(e:Eqn):List A:=e.left.cs++(e.right.cs++[.list none (e.cond.map Tm.enc),.int .i64 e.line,.int .i64 e.col])
def Eqn.enc(e:Eqn):A:=.agg e.cs
structure Cel where
 name:aC
 sort:aC
 init:Tm
 line:Int
 col:Int
def Cel.cs(c:Cel):List A:=.str c.name::.str c.sort::(c.init.cs++[.int .i64 c.line,.int .i64 c.col])
def Cel.enc(c:Cel):A:=.agg c.cs
structure Part where
 cell:aC
 at_:aC
 left:Tm
 right:List Tm
 line:Int
 col:Int
def Part.cs(p:Part):List A:=.str p.cell::.str p.at_::(p.left.cs++[.list none (p.right.map Tm.enc),.int .i64 p.line,.int .i64 p.col])
def Part.enc(p:Part):A:=.agg p.cs
structure Fresh where
 cells:List Tm
def Fresh.cs(f:Fresh):List A:=[.list none (f.cells.map Tm.enc)]
def Fresh.enc(f:Fresh):A:=.agg f.cs
structure Rul where
 name:aC
 parts:List Part
 cond:List Tm
 new:List Fresh
 drop:List aC
 line:Int
 col:Int
def Rul.cs(r:Rul):List A:=[.str r.name,.list none (r.parts.map Part.enc),.list none (r.cond.map Tm.enc),.list none (r.new.map Fresh.enc),.list none (r.drop.map .str),.int .i64 r.line,.int .i64 r.col]
def Rul.enc(r:Rul):A:=.agg r.cs
structure Dfn where
 name:aC
 sig:Sig
 eqs:List Eqn
 once:List Cel
 kind:aC
 many:List Cel
 rules:List Rul
 start:aC
 watch:aC
def Dfn.cs(d:Dfn):List A:=.str d.name::(d.sig.cs++[.list none (d.eqs.map Eqn.enc),.list none (d.once.map Cel.enc),.str d.kind,.list none (d.many.map Cel.enc),.list none (d.rules.map Rul.enc),.str d.start,.str d.watch])
def Dfn.enc(d:Dfn):A:=.agg d.cs
attribute [go_sem] Fault.enc Fault.cs Tok.enc Tok.cs Tm.enc_eq Tm.cs Below.enc Below.cs Piece.enc Piece.cs Opr.enc Opr.cs Sig.enc Sig.cs Eqn.enc Eqn.cs Cel.enc Cel.cs Part.enc Part.cs Fresh.enc Fresh.cs Rul.enc Rul.cs Dfn.enc Dfn.cs
mutual
def Tm.same:Tm->Tm->Bool
 | .mk k n t s ks rs,.mk k' n' t' s' ks' rs'=>decide (k=k')&&(decide (n=n')&&(decide (t=t')&&(decide (s=s')&&(rC ks ks'&&rC rs rs'))))
def rC:List Tm->List Tm->Bool
 | [],[]=>true
 | a::l,b::r=>Tm.same a b&&rC l r
 | _,_=>false
end
theorem aBS{t x:Tm}(h:x∈t.kids):SizeOf.sizeOf x<SizeOf.sizeOf t:=by
 cases t;have:=List.sizeOf_lt_of_mem h;simp only[Tm.kids]at this;simp only[Tm.mk.sizeOf_spec];omega
theorem aBT{t x:Tm}(h:x∈t.rest):SizeOf.sizeOf x<SizeOf.sizeOf t:=by
 cases t;have:=List.sizeOf_lt_of_mem h;simp only[Tm.rest]at this;simp only[Tm.mk.sizeOf_spec];omega
def dH:=@Tm.enc_eq
def sP(c:Int):Bool:=(decide (97<=c)&&decide (c<=122))||(decide (65<=c)&&decide (c<=90))
def eY(c:Int):Bool:=sP c||((decide (48<=c)&&decide (c<=57))||decide (c=95))
def dM(s:List UInt8):Bool:=match s with
 | []=>false
 | c::_=>decide (s.length<=40)&&(sP c.toNat&&s.all λc=>eY c.toNat)
def lU(x p:aC):Bool:=decide (p.length<=x.length)&&decide (x.take p.length=p)
def nO(x:aC)(c:UInt8):Nat->Int
 | 0=>-1
 | n+1=>if x[n]?=some c then n else nO x c n
def iG(c:Int):Bool:=decide (48<=c)&&decide (c<=57)
def eI:Nat × Nat->aC->Nat × Nat
 | p,[]=>p
 | (l,c),b::r=>if b=10 then eI (l+1,1) r else eI (l,c+1) r
def nN(b:UInt8):Bool:=decide (b=32)||(decide (b=9)||(decide (b=10)||decide (b=13)))
def oB:Nat->aC->Nat
 | 0,_=>0
 | _+1,[]=>0
 | f+1,b::r=>if nN b=true then 1+oB f r
  else if lU (b::r) [47,47]=true then((b::r).takeWhile (λc=>!decide (c=10))).length+oB f ((b::r).drop ((b::r).takeWhile (λc=>!decide (c=10))).length)
  else 0
def eZ(w:aC):Nat:=oB w.length w
def kL(b:UInt8):Bool:=decide (32<=b.toNat)&&(decide (b.toNat<=126)&&(!decide (b=34)&&!decide (b=92)))
def nT(x:aC):Bool:=x.all kL&&decide (x.length<=200)
def mO(c:UInt8)(b:UInt8):Bool:=decide (b=c)
def gA(x:aC):Nat:=x.foldl (λn d=>n * 10+(d.toNat-48)) 0
def xW(x:aC):Prop:=∀d,d∈x->48<=d.toNat/\d.toNat<=57
def pL(x:aC):Tok × Nat × Bool :=
 let n:=(x.takeWhile λc=>iG c.toNat).length
 let g:=(x.take n).dropWhile (mO 48)
 if 10<g.length\/(∃c,x[n]?=some c/\eY c.toNat=true) then(⟨0,[],0,0,0⟩,0,false)
 else(⟨2,[],gA g,0,0⟩,n,decide (gA g<=2147483647))
def lH(w:aC):List aC->Nat->Nat
 | [],n=>n
 | x::r,n=>lH w r (if n<x.length/\lU w x=true then x.length else n)
def gC(w:aC)(sg:List aC)(op:Bool):Tok × Nat × Bool :=
 match w with
 | []=>(⟨0,[],0,0,0⟩,0,false)
 | c::r =>
  if dM [c] then
   let n:=(w.takeWhile λc=>eY c.toNat).length
   (⟨1,w.take n,0,0,0⟩,n,decide (n<=40))
  else if iG c.toNat then pL w
  else if c=34 then
   let n:=(Lib.indexByte r 34+2).toNat
   (⟨3,r.take (n-2),0,0,0⟩,n,decide (1<n)&&nT (r.take (n-2)))
  else
   let n:=lH w sg 0
   let n:=if n=0/\op=true/\(c=39\/c=95) then 1 else n
   (⟨4,w.take n,0,0,0⟩,n,decide (0<n))
def aJq:List UInt8:=[97,100,100,32,115,117,98,32,109,117,108,32,100,105,118,32,109,111,100,32,110,101,103,32,108,116,32,108,101,32,103,116,32,103,101,32,101,113,32,110,101,32,97,110,100,32,111,114,32,110,111,116,32,112,105,99,107,32,99,97,116,32,108,101,110,103,116,104,32,116,101,120,116,32,106,111,105,110,32,103,101,116,32,112,117,116,32,104,97,115,32,100,101,108,32,107,101,121,115,32,115,105,122,101,32,105,115,32,105,115,118,97,108,117,101]
def aAY:List (List UInt8):=[[97,100,100],[115,117,98],[109,117,108],[100,105,118],[109,111,100],[110,101,103],[108,116],[108,101],[103,116],[103,101],[101,113],[110,101],[97,110,100],[111,114],[110,111,116],[112,105,99,107],[99,97,116],[108,101,110,103,116,104],[116,101,120,116],[106,111,105,110],[103,101,116],[112,117,116],[104,97,115],[100,101,108],[107,101,121,115],[115,105,122,101],[105,115],[105,115,118,97,108,117,101]]
def aLu:List UInt8:=[61,62,32,45,62,32,58,32,59,32,44,32,46,32,64,32,124,32,40,32,41,32,91,32,93,32,123,32,125,32,60,32,61,32,45,32,36]
def dG:List (List UInt8):=[[61,62],[45,62],[58],[59],[44],[46],[64],[124],[40],[41],[91],[93],[123],[125],[60],[61],[45],[36]]
def aH7:List UInt8:=[108,97,110,103,117,97,103,101,32,115,111,114,116,32,115,117,98,115,111,114,116,32,118,97,108,117,101,32,111,112,32,102,117,110,32,108,101,116,32,105,102,32,115,116,97,114,116,32,99,101,108,108,32,109,97,110,121,32,119,97,116,99,104,32,114,117,108,101,32,112,114,101,99,32,108,101,102,116,32,114,105,103,104,116,32,115,116,114,105,99,116,32,110,101,119,32,100,114,111,112,32,116,114,117,101,32,102,97,108,115,101]
def gX:List (List UInt8):=[[108,97,110,103,117,97,103,101],[115,111,114,116],[115,117,98,115,111,114,116],[118,97,108,117,101],[111,112],[102,117,110],[108,101,116],[105,102],[115,116,97,114,116],[99,101,108,108],[109,97,110,121],[119,97,116,99,104],[114,117,108,101],[112,114,101,99],[108,101,102,116],[114,105,103,104,116],[115,116,114,105,99,116],[110,101,119],[100,114,111,112],[116,114,117,101],[102,97,108,115,101]]
inductive Lx where
 | ok (l:List Tok)
 | bad (f:Fault)
def kX(sg:List aC)(op:Bool):Nat->aC->Nat × Nat->List Tok->Lx
 | _,[],_,acc=>.ok acc
 | 0,_::_,_,acc=>.ok acc
 | f+1,c::r,p,acc=>match gC (c::r) sg op with
  | (t,n,true)=>kX sg op f (((c::r).drop n).drop (eZ ((c::r).drop n))) (eI (eI p ((c::r).take n)) (((c::r).drop n).take (eZ ((c::r).drop n))))
    (acc++[⟨t.kind,t.text,t.n,p.1,p.2⟩])
  | (_,_,false)=>.bad ⟨10,[c],p.1,p.2⟩
def jS(sg:List aC)(op:Bool)(w:aC):Lx:=kX sg op w.length (w.drop (eZ w)) (eI (1,1) (w.take (eZ w))) []
@[go_sem] theorem aV5:cx.det=false:=rfl
@[go_sem] theorem aUT(x:A)(l:List A):aBs (x::l)=.list none (x::l):=rfl
@[go_sem] theorem aU5:aBs []=.emp:=rfl
def gs(s:St)(tk:Option Nat)(n:Nat)(e:TypeId):St:=match tk with
 | none=>s
 | some t=>s.setT t (n,e)
@[go_sem] theorem aZ(s:St)(tk:Option Nat)(n:Nat)(e:TypeId)(b:Nat):(gs s tk n e).getO b=s.getO b:=by cases tk<;>rfl
@[go_sem] theorem xQ(s:St)(tk:Option Nat)(n:Nat)(e:TypeId)(b:Nat)(o:Ob):(gs s tk n e).setO b o=gs (s.setO b o) tk n e:=by cases tk<;>rfl
@[go_sem] theorem aUI(s:St)(t:Nat)(v:Nat × TypeId)(b:Nat)(o:Ob):(s.setT t v).setO b o=(s.setO b o).setT t v:=rfl
attribute [go_sem] kB eD
@[go_sem] theorem aUU(s:St)(t b:Nat):(s.delT t).getO b=s.getO b:=rfl
@[go_sem] theorem aUV(s:St)(x:Option (Nat × Nat × A))(b:Nat)(o:Ob):(s.setL x).setO b o=(s.setO b o).setL x:=rfl
@[go_sem] theorem aUG(s:St)(t:Nat)(b:Nat)(o:Ob):(s.delT t).setO b o=(s.setO b o).delT t:=rfl
@[go_sem] theorem aVx(s:St)(x:Option (Nat × Nat × A)):(s.setL x).ls=x:=rfl
theorem iF{s:St}{tk:Option Nat}{n:Nat}{e:TypeId}(h:tk=none->n=0):nJ (gs s tk n e) tk n e:=by
 cases tk with
 | none=>exact h rfl
 | some t=>simp only[nJ,gs,dE,if_pos]
theorem fO{s:St}{tk:Option Nat}{n:Nat}{e:TypeId}{t:Nat}(h:tk=some t\/tk=none/\(gs s tk n e).getT t=none)(v:Nat × TypeId):(gs s tk n e).setT t v=s.setT t v:=by
 rcases h with rfl|⟨rfl,_⟩
 .simp only[gs,St.setT,aC9]
 .rfl
theorem gD{s:St}{tk:Option Nat}{n:Nat}{e:TypeId}{t:Nat}(h:tk=some t\/tk=none/\(gs s tk n e).getT t=none)(hf:∀t,tk=some t->s.getT t=none):s.getT t=none:=by
 rcases h with rfl|⟨rfl,h⟩
 .exact hf t rfl
 .exact h
theorem nB{s s':St}(hs:s.ge s'){tk:Option Nat}{n:Nat}{e:TypeId}(h:∀t,tk=some t->s.getT t=none):(gs s tk n e).ge s':=by
 cases tk with
 | none=>exact hs
 | some t =>
  refine⟨λb o ho=>hs.ob b o ho,λu m hm=>?_,λx hx=>hs.ls x hx⟩;have h1:=hs.tk u m hm;have h2:=h t rfl;simp only[gs,dE];by_cases htu:t=u
  .subst htu;rw[h2]at h1;cases h1
  .simp only[htu,if_false];exact h1
theorem iD(s:St)(tk:Option Nat)(n:Nat)(e:TypeId)(t:Nat):(gs s tk n e).getT t=if tk=some t then some (n,e) else s.getT t:=by
 cases tk with
 | none=>rfl
 | some u=>simp only[gs,dE,bJ]
theorem aJz{s s':St}{tk:Option Nat}{n:Nat}{e:TypeId}(ho:∀b o,s'.getO b=some o->s.getO b=some o)(hl:∀x,s'.ls=some x->s.ls=some x)
  (ht:∀t m,tk≠some t->s'.getT t=some m->s.getT t=some m):(gs s tk n e).ge (gs s' tk n e):=by
 refine⟨λb o h=>by rw[aZ]at h⊢;exact ho b o h,λt m h=>?_,λx h=>by cases tk<;>exact hl x h⟩;rw[iD]at h⊢;by_cases e:tk=some t
 .rw[if_pos e]at h⊢;exact h
 .rw[if_neg e]at h⊢;exact ht t m e h
theorem aF6{s:St}{tk:Option Nat}{n:Nat}{e:TypeId}{t:Nat}{v:Nat × TypeId}(h:tk≠some t):((gs s tk n e).setT t v).ge (gs (s.setT t v) tk n e):=by
 refine⟨λb o h=>by rw[aZ]at h;rw[kB,aZ];exact h,λu m hm=>?_,λx hx=>by cases tk<;>exact hx⟩;rw[iD,dE]at hm;rw[dE,iD];by_cases htu:t=u
 .subst htu;rw[if_neg h,if_pos rfl]at hm;rw[if_pos rfl];exact hm
 .rw[if_neg htu]at hm⊢;exact hm
theorem aHv{Y:St}{t n0 n:Nat}{e0 e:TypeId}{v:Nat × TypeId}{x:Option (Nat × Nat × A)}:((((gs Y none n0 e0).setT t v).setT t (n,e)).setL x).ge ((gs Y (some t) n e).setL none):=by
 refine⟨λb o h=>h,λa m h=>?_,λy h=>by cases h⟩;simp only[gs,wM,dE]at h⊢;split at h
 .rename_i e;rw[if_pos e];exact h
 .rename_i e;rw[if_neg e,if_neg e];exact h
theorem aEP{Y:St}{u t n0 n:Nat}{e0 e:TypeId}{v:Nat × TypeId}{x:Option (Nat × Nat × A)}(hu:Y.getT u=none):(((((gs Y (some u) n0 e0).delT u).setT t v).setT t (n,e)).setL x).ge ((gs Y (some t) n e).setL none):=by
 refine⟨λb o h=>h,λa m h=>?_,λy h=>by cases h⟩;simp only[gs,wM,dE,rB]at h⊢;split at h
 .rename_i e;rw[if_pos e];exact h
 .rename_i e;rw[if_neg e];by_cases hau:a=u
  .subst hau;rw[hu]at h;cases h
  .simp only[e,hau,Ne.symm hau,if_false];exact h
theorem aCO{Y s:St}{u t n:Nat}{e:TypeId}(ht:((gs Y (some u) n e).delT u).getT t=none)(hu:s.getT u=none)(hY:∀t,Y.getT t=s.getT t):s.getT t=none:=by
 by_cases htu:t=u
 .subst htu;exact hu
 .simp only[gs,rB,dE,if_neg htu,if_neg (Ne.symm htu)]at ht;rw[<-hY];exact ht
theorem aIi{Y s:St}{u t n:Nat}{e:TypeId}{l:Option (Nat × Nat × A)}(ht:(((gs Y (some u) n e).setL l).delT u).getT t=none)(hu:s.getT u=none)(hY:∀t,Y.getT t=s.getT t):s.getT t=none:=aCO (Y:=Y) ht hu hY
theorem aHR{Y Z:St}{u t n0 n n':Nat}{e0 e:TypeId}{v:Nat × TypeId}{x l:Option (Nat × Nat × A)}(hu:Y.getT u=none)(hO:∀b o,Z.getO b=some o->Y.getO b=some o)(hT:∀t,Z.getT t=Y.getT t)(hn:n'=n) :
  ((((((gs Y (some u) n0 e0).setL l).delT u).setT t v).setT t (n',e)).setL x).ge ((gs Z (some t) n e).setL none):=by
 subst hn;refine⟨λb o h=>hO b o h,λa m h=>?_,λw h=>by cases h⟩;simp only[gs,wM,dE,rB]at h⊢;split at h
 .rename_i e;rw[if_pos e];exact h
 .rename_i e;rw[hT]at h;by_cases hau:a=u
  .subst hau;rw[hu]at h;cases h
  .simp only[e,hau,Ne.symm hau,if_false];exact h
theorem aFR{Y Z:St}{t n:Nat}{e:TypeId}(hO:∀b o,Z.getO b=some o->Y.getO b=some o)(hT:∀t,Z.getT t=Y.getT t):((gs Y (some t) n e).setL none).ge ((gs Z (some t) n e).setL none) :=
 ⟨fun b o h => hO b o h,fun a m h => by
  simp only[gs,wM,dE]at h⊢;rw[hT]at h;exact h,λy h=>by cases h⟩
theorem qF{s:St}{b c:Nat}{o:Ob}(h:(s.setO c o).getO b=none):b≠c/\s.getO b=none:=by
 rw[aJ]at h;by_cases e:c=b
 .rw[if_pos e]at h;cases h
 .rw[if_neg e]at h;exact⟨λx=>e x.symm,h⟩
theorem iY(tk:Option Nat)(es:List A)(h:tk=none->es=[]):A.le (gv tk es) (.list none es):=by
 cases tk with
 | none=>rw[h rfl];exact A.le.nil
 | some t=>exact A.le.forget _ _
theorem jU{s s2:St}{t:Nat}{v:Nat × TypeId}(h:s.ge s2):(s.setT t v).ge (s2.setT t v):=by
 refine⟨λb o ho=>h.ob b o ho,λu m hm=>?_,λx hx=>h.ls x hx⟩;rw[dE]at hm⊢;split
 .rename_i e;rw[if_pos e]at hm;exact hm
 .rename_i e;rw[if_neg e]at hm;exact h.tk u m hm
theorem qD{s s2:St}{b:Nat}{o:Ob}(h:s.ge s2):(s.setO b o).ge (s2.setO b o):=by
 refine⟨λc x ho=>?_,λu m hm=>h.tk u m hm,λx hx=>h.ls x hx⟩;rw[aJ]at ho⊢;split
 .rename_i e;rw[if_pos e]at ho;exact ho
 .rename_i e;rw[if_neg e]at ho;exact h.ob c x ho
theorem aBQ(s:St)(t:Nat)(v u:Nat × TypeId):((s.setT t v).setT t u).ge (s.setT t u):=by
 refine⟨λb o h=>h,λx m hm=>?_,λx h=>h⟩;rw[dE]at hm⊢;split
 .rename_i e;rw[if_pos e]at hm;exact hm
 .rename_i e;rw[if_neg e]at hm;rw[dE,if_neg e];exact hm
theorem yX{s:St}{t:Nat}{v:Nat × TypeId}(h:s.getT t=none):(s.setT t v).ge s:=by
 refine⟨λb o h=>h,λx m hm=>?_,λx h=>h⟩;rw[dE];by_cases e:t=x
 .subst e;rw[h]at hm;cases hm
 .rw[if_neg e];exact hm
theorem aPp{X:St}{r q:Nat}{A' B' C':Ob}(hq:X.getO q=none)(_:q≠r):(((X.setO r A').setO q B').setO r C').ge (X.setO r C'):=by
 refine⟨λd x hx=>?_,λu m hm=>hm,λx hx=>hx⟩;rw[aJ]at hx⊢;by_cases h1:r=d
 .rw[if_pos h1]at hx⊢;exact hx
 .rw[if_neg h1]at hx⊢;rw[aJ];by_cases h2:q=d
  .subst h2;rw[hq]at hx;cases hx
  .rw[if_neg h2,aJ,if_neg h1];exact hx
structure St.gx (s1 s:St) (r:Nat):Prop where
 ob:∀c,c≠r->∀x,s.getO c=some x->s1.getO c=some x
 tk:∀t m,s.getT t=some m->s1.getT t=some m
 ls:∀x,s.ls=some x->s1.ls=some x
theorem fJ(s:St)(r:Nat):s.gx s r:=⟨λ_ _ _ h=>h,λ_ _ h=>h,λ_ h=>h⟩
theorem eR{s1 s:St}{r:Nat}{o:Ob}(h:s1.gx s r):(s1.setO r o).gx s r :=
 ⟨λc hc x hx=>by rw[aJ,if_neg (Ne.symm hc)];exact h.ob c hc x hx,h.tk,h.ls⟩
theorem cX{s1 s:St}{r b:Nat}{o:Ob}(hb:s.getO b=none)(h:s1.gx s r):(s1.setO b o).gx s r :=
 ⟨fun c hc x hx => by
  rw[aJ];by_cases hbc:b=c
  .subst hbc;rw[hb]at hx;cases hx
  .rw[if_neg hbc];exact h.ob c hc x hx,h.tk,h.ls⟩
theorem aFK{s1 s:St}{r t:Nat}{v:Nat × TypeId}(ht:s.getT t=none)(h:s1.gx s r):(s1.setT t v).gx s r :=
 ⟨h.ob,fun u m hm => by
  rw[dE];by_cases htu:t=u
  .subst htu;rw[ht]at hm;cases hm
  .rw[if_neg htu];exact h.tk u m hm,h.ls⟩
theorem St.gx.dropT{s1 s:St}{r t:Nat}{v:Nat × TypeId}(h:s1.gx (s.setT t v) r)(ht:s.getT t=none):s1.gx s r :=
 ⟨h.ob,fun u m hm => h.tk u m (by
  rw[dE];by_cases htu:t=u
  .subst htu;rw[ht]at hm;cases hm
  .rw[if_neg htu];exact hm),h.ls⟩
theorem iB{s1 s:St}{r:Nat}{tk:Option Nat}{n:Nat}{e:TypeId}(h:s1.gx s r)(hf:∀t,tk=some t->s.getT t=none):(gs s1 tk n e).gx s r:=by
 cases tk with
 | none=>exact h
 | some t=>exact aFK (hf t rfl) h
theorem qC{s1 s:St}{r:Nat}{l:Option (Nat × Nat × A)}(h:s1.gx s r)(hl:l=s.ls):(s1.setL l).gx s r :=
 ⟨h.ob,h.tk,λx hx=>by rw[hl];exact hx⟩
theorem tM{s1 s:St}{r:Nat}{l m:Option (Nat × Nat × A)}(h:s1.gx s r)(hl:l=s.ls):((s1.setL m).setL l).gx s r:=qC (s1:=s1) h hl
theorem St.gx.trans{s2 s1 s:St}{r:Nat}(h:s2.gx s1 r)(h':s1.gx s r):s2.gx s r :=
 ⟨λc hc x hx=>h.ob c hc x (h'.ob c hc x hx),λt m hm=>h.tk t m (h'.tk t m hm),λx hx=>h.ls x (h'.ls x hx)⟩
theorem St.gx.ge{s1 s:St}{r:Nat}{o:Ob}(h:s1.gx s r)(hr:s1.getO r=some o):s1.ge (s.setO r o):=by
 refine⟨λc x hx=>?_,h.tk,h.ls⟩;rw[aJ]at hx;by_cases hc:r=c
 .subst hc;rw[if_pos rfl]at hx;rw[hr];exact hx
 .rw[if_neg hc]at hx;exact h.ob c (Ne.symm hc) x hx
def aAq:List A->List A->Prop
 | [],[]=>True
 | a::l,b::r=>rO a.cells b.cells/\aAq l r
 | _,_=>False
theorem aFE:∀{l r:List A},aAq l r->l.length=r.length
 | [],[],_=>rfl
 | _::_,_::_,h=>by simp only[aE,aFE h.2]
theorem aFt:∀{l r:List A},aAq l r->∀(i:Nat) (b:A),r[i]?=some b->∃a:A,l[i]?=some a/\rO a.cells b.cells
 | a::l,b::r,h,0,x,hx=>by
  simp only[kM,bJ]at hx⊢;subst hx;exact⟨a,rfl,h.1⟩
 | a::l,b::r,h,i+1,x,hx=>by
  simp only[List.getElem?_cons_succ]at hx⊢;exact aFt h.2 i x hx
 | [],[],_,_,_,hx=>by simp at hx
theorem A.le.list{l r:List A}(h:aAq l r):A.le (.list none l) (.list none r):=λg v x=>by
 have hlen:=aFE h;cases x with
 | list tk es b off sz cap pre hp hl hc hm hs h1 hh ht =>
  rw[hlen]
  have key:∀e,e∈r->∃(i:Nat) (a:A),l[i]?=some a/\r[i]?=some e/\rO a.cells e.cells:=λe he=>by
   obtain⟨i,hi,rfl⟩:=kN he;obtain⟨a,h2,h3⟩:=aFt h i _ (aY hi);exact⟨i,a,h2,aY hi,h3⟩
  refine .list none r b off sz cap pre hp (by rw[<-hlen];exact hl) (by rw[<-hlen];exact hc) hm (λe he=>?_) (λe he c hc=>?_) (λi e j c v hi hj hv=>?_) bD
  .obtain⟨i,a,h2,_,h3⟩:=key e he;rw[<-aCy h3];exact hs a (cM h2)
  .obtain⟨i,a,h2,_,h3⟩:=key e he;obtain⟨j,hj,rfl⟩:=kN hc;exact(xK h3 j _ (aY hj)).choose_spec.2.2
  .obtain⟨a,h2,h3⟩:=aFt h i e hi;obtain⟨c0,h4,h5,_⟩:=xK h3 j c hj;exact h5 g v (hh i a j c0 v h2 h4 hv)
 | list0 tk a cap hm ht =>
  have:r=[]:=fK (by rw[<-hlen];rfl);subst this;exact .list0 none a cap hm bD
theorem aIa{C:Cx}{s:St}{f:FuncId}{args:List A}{KV Kp:St->A->Prop}(h:Den C f args (λs' a=>KV (s'.setL s.ls) a) (λs' a=>Kp (s'.setL s.ls) a) s):Den C f args KV Kp s:=by
 intro F g w vals hR hv;have key:∀(g':Gh) (s':St) (w':World),g.le g'->R C.toCtx F g' s' w'->R C.toCtx F g' (s'.setL s.ls) w':=λg' s' w' h1 h2=>h2.setL λy hy=>(hR.lst y hy).mono h1
 have:=h F g w vals hR hv;revert this;generalize (callFunc f vals.toArray).run C.P w=r;intro hr;cases r with
 | ok x w' =>
  cases x<;>simp only[OutV]at hr⊢
  .obtain⟨g',a,s',a1,a2,a3,a4⟩:=hr;exact⟨g',a,_,a1,key _ _ _ a1 a2,a3,a4⟩
  .obtain⟨g',s',a1,a2,a3⟩:=hr;exact⟨g',_,a1,key _ _ _ a1 a2,a3⟩
  .refine Calls.mono hr λen w'' hp=>?_
   cases en with
   | returned v=>obtain⟨g',a,s',a1,a2,a3,a4⟩:=hp;exact⟨g',a,_,a1,key _ _ _ a1 a2,a3,a4⟩
   | panicked mF=>obtain⟨g',a,v,s',a0,a1,a2,a3,a4⟩:=hp;exact⟨g',a,v,_,a0,a1,key _ _ _ a1 a2,a3,a4⟩
   | outgrown=>exact hp
 | halt x w' =>
  cases x<;>simp only[OutV]at hr⊢
  obtain⟨g',a,s',a1,a2,a3,a4⟩:=hr;exact⟨g',a,_,a1,key _ _ _ a1 a2,a3,a4⟩
@[go_sem] theorem aUR(s:St)(x y:Option (Nat × Nat × A)):(s.setL x).setL y=s.setL y:=rfl
theorem qL{f:FuncId}{l:List A}{KV Kp:St->A->Prop}{s:St}(h:Den cx f l KV Kp s):Den nG f l KV Kp s:=by assumption
theorem zZ{f:FuncId}{l:List A}{KV Kp:St->A->Prop}{s:St}(h:Den cx f l KV Kp s):Den mN f l KV Kp s:=by assumption
structure St.gel (s1 s:St) (L M:List Nat):Prop where
 ob:∀c,c ∉ L->∀x,s.getO c=some x->s1.getO c=some x
 tk:∀t,t ∉ M->∀m,s.getT t=some m->s1.getT t=some m
 ls:∀x,s.ls=some x->s1.ls=some x
theorem xI(s:St)(L M:List Nat):s.gel s L M:=⟨λ_ _ _ h=>h,λ_ _ _ h=>h,λ_ h=>h⟩
theorem pQ{s1 s:St}(h:s1.gel s [] []):s1.ge s:=⟨λc x hx=>h.ob c bD x hx,λt m hm=>h.tk t bD m hm,h.ls⟩
theorem aIf{s1 s:St}{r:Nat}(h:s1.gx s r){L M:List Nat}(hr:r∈L):s1.gel s L M :=
 ⟨λc hc x hx=>h.ob c (λe=>hc (e▸hr)) x hx,λt _ m hm=>h.tk t m hm,h.ls⟩
theorem aCa{s1 s:St}(h:s1.ge s)(L M:List Nat):s1.gel s L M:=⟨λc _ x hx=>h.ob c x hx,λt _ m hm=>h.tk t m hm,h.ls⟩
theorem St.gel.trans{s2 s1 s:St}{L M:List Nat}(h:s2.gel s1 L M)(h':s1.gel s L M):s2.gel s L M :=
 ⟨λc hc x hx=>h.ob c hc x (h'.ob c hc x hx),λt ht m hm=>h.tk t ht m (h'.tk t ht m hm),λx hx=>h.ls x (h'.ls x hx)⟩
theorem vG{s1 s:St}{L M:List Nat}{b:Nat}{o:Ob}(hb:s1.getO b=some o)(h:s1.gel s (b::L) M):s1.gel (s.setO b o) L M :=
 ⟨fun c hc x hx => by
  rw[aJ]at hx;by_cases e:b=c
  .subst e;rw[if_pos rfl]at hx;rw[hb];exact hx
  .rw[if_neg e]at hx;exact h.ob c (by simp only[eB,not_or];exact⟨λh=>e h.symm,hc⟩) x hx,h.tk,h.ls⟩
theorem aJw{s1 s:St}{L M:List Nat}{t:Nat}{v:Nat × TypeId}(ht:s1.getT t=some v)(h:s1.gel s L (t::M)):s1.gel (s.setT t v) L M :=
 ⟨h.ob,fun u hu m hm => by
  rw[dE]at hm;by_cases e:t=u
  .subst e;rw[if_pos rfl]at hm;rw[ht];exact hm
  .rw[if_neg e]at hm;exact h.tk u (by simp only[eB,not_or];exact⟨λh=>e h.symm,hu⟩) m hm,h.ls⟩
theorem aBm{s1 s:St}{L M:List Nat}{b:Nat}{o:Ob}(hb:b∈L)(h:s1.gel s L M):(s1.setO b o).gel s L M :=
 ⟨fun c hc x hx => by
  rw[aJ,if_neg (λe:b=c=>hc (e▸hb))];exact h.ob c hc x hx,h.tk,h.ls⟩
theorem tU{s1 s:St}{L M:List Nat}{b:Nat}{o:Ob}(hb:s.getO b=none)(h:s1.gel s L M):(s1.setO b o).gel s L M :=
 ⟨fun c hc x hx => by
  rw[aJ];by_cases e:b=c
  .subst e;rw[hb]at hx;cases hx
  .rw[if_neg e];exact h.ob c hc x hx,h.tk,h.ls⟩
theorem aKv{s1 s:St}{L M:List Nat}{t:Nat}{v:Nat × TypeId}(hb:t∈M)(h:s1.gel s L M):(s1.setT t v).gel s L M :=
 ⟨h.ob,fun c hc x hx => by
  rw[dE,if_neg (λe:t=c=>hc (e▸hb))];exact h.tk c hc x hx,h.ls⟩
theorem aJT{s1 s:St}{L M:List Nat}{t:Nat}{v:Nat × TypeId}(hb:s.getT t=none)(h:s1.gel s L M):(s1.setT t v).gel s L M :=
 ⟨h.ob,fun c hc x hx => by
  rw[dE];by_cases e:t=c
  .subst e;rw[hb]at hx;cases hx
  .rw[if_neg e];exact h.tk c hc x hx,h.ls⟩
theorem aJG{s1 s:St}{L M:List Nat}{b:Nat}(hb:s.getO b=none)(h:s1.gel s (b::L) M):s1.gel s L M :=
 ⟨fun c hc x hx => h.ob c (by
  simp only[eB,not_or];exact⟨λe=>(by subst e;rw[hb]at hx;cases hx),hc⟩) x hx,h.tk,h.ls⟩
theorem aLp{s1 s:St}{L M:List Nat}{tk:Option Nat}{n:Nat}{e:TypeId}(h:s1.gel s L M)(hf:∀t,tk=some t->s.getT t=none):(gs s1 tk n e).gel s L M:=by
 cases tk with
 | none=>exact h
 | some t=>exact aJT (hf t rfl) h
theorem aCm{s1 s:St}{L M:List Nat}{tk:Option Nat}{n:Nat}{e:TypeId}(hf:∀t,tk=some t->s1.getT t=some (n,e))(h:s1.gel s L (tk.toList++M)):s1.gel (gs s tk n e) L M:=by
 cases tk with
 | none=>exact h
 | some t=>exact aJw (hf t rfl) h
theorem aCi{s1 s:St}{L M:List Nat}{tk:Option Nat}{n:Nat}{e:TypeId}(h:s1.gel s L M):(gs s1 tk n e).gel (gs s tk n e) L M:=by
 cases tk with
 | none=>exact h
 | some t =>
  refine⟨h.ob,λu hu m hm=>?_,h.ls⟩;simp only[gs,dE]at hm⊢;split
  .rename_i e;rw[if_pos e]at hm;exact hm
  .rename_i e;rw[if_neg e]at hm;exact h.tk u hu m hm
theorem aFL{s1:St}{tk:Option Nat}{n:Nat}{e:TypeId}:∀t,tk=some t->(gs s1 tk n e).getT t=some (n,e):=by
 rintro t rfl;rw[iD,if_pos rfl]
@[go_sem] theorem getT_setO(s:St)(b:Nat)(o:Ob)(t:Nat):(s.setO b o).getT t=s.getT t:=rfl
theorem gB1{s1 s:St}{L M:List Nat}{tk:Option Nat}{n:Nat}{e:TypeId}(h:s1.gel s L (tk.toList++M))(hf:∀t,tk=some t->s1.getT t=some (n,e):=by(rintro _ ⟨⟩;simp only[getT_setO,wM,dE,rB,iD,reduceIte,aG,aE,aF,aH,gI,Nat.add_zero]<;>fail)):s1.gel (gs s tk n e) L M:=aCm hf h
theorem gB2{s1 s:St}{L M:List Nat}{t:Nat}{v:Nat × TypeId}(h:s1.gel s L M)(hb:t∈M:=by(simp only[Option.toList,aV,aW,eB,true_or,or_true]<;>fail)):(s1.setT t v).gel s L M:=aKv hb h
theorem gB3{s1 s:St}{L M:List Nat}{b:Nat}{o:Ob}(h:s1.gel s L M)(hb:b∈L:=by(simp only[eB,true_or,or_true]<;>fail)):(s1.setO b o).gel s L M:=aBm hb h
abbrev fE:=Option Nat × Nat × TypeId
def eL(s:St):List fE->St
 | []=>s
 | o::l=>gs (eL s l) o.1 o.2.1 o.2.2
structure OwnOk (s:St) (l:List fE):Prop where
 free:∀o,o∈l->∀t,o.1=some t->s.getT t=none
 nil:∀o,o∈l->o.1=none->o.2.1=0
 dst:∀(i j:Nat) (a b:fE) (t:Nat),l[i]?=some a->l[j]?=some b->a.1=some t->b.1=some t->i=j
@[go_sem] theorem aK (s : St) (l : List fE) (b : Nat) : (eL s l).getO b = s.getO b := by
  induction l with
  | nil=>rfl
  | cons o l ih=>simp only[eL,aZ,ih]
@[go_sem] theorem xF (s : St) (l : List fE) (b : Nat) (o : Ob) : (eL s l).setO b o = eL (s.setO b o) l := by
  induction l with
  | nil=>rfl
  | cons a l ih=>simp only[eL,xQ,ih]
theorem aGr(s:St)(tk:Option Nat)(n:Nat)(e:TypeId):(gs s tk n e).ls=s.ls:=by cases tk<;>rfl
@[go_sem] theorem aAe (s : St) (l : List fE) : (eL s l).ls = s.ls := by
  induction l with
  | nil=>rfl
  | cons o l ih=>simp only[eL,aGr,ih]
theorem sC(s:St)(l:List fE)(u:Nat):(eL s l).getT u=match l.find? (λo=>decide (o.1=some u))with|some o=>some o.2|none=>s.getT u:=by
 induction l with
 | nil=>rfl
 | cons o l ih =>
  simp only[eL,iD,List.find?];by_cases h:o.1=some u
  .simp only[h,if_true,uU]
  .simp only[h,if_false,aAL,ih]
theorem aMV{s:St}{l:List fE}(h:OwnOk s l){k:Nat}{o:fE}(hk:l[k]?=some o){t:Nat}(ht:o.1=some t):(eL s l).getT t=some o.2:=by
 rw[sC];cases hf:l.find? (λo=>decide (o.1=some t))with
 | none =>
  have:=yT.1 hf o (cM hk);simp[ht]at this
 | some a =>
  have h1:=List.find?_some hf;have h2:=aBH hf;obtain⟨j,hj,rfl⟩:=kN h2;have hj':l[j]?=some l[j]:=aY hj;have:=h.dst j k _ _ t hj' hk (by simpa using h1) ht;subst this;rw[hj']at hk;cases hk;rfl
theorem aNx{s:St}{l:List fE}{t:Nat}(h:∀o,o∈l->o.1≠some t):(eL s l).getT t=s.getT t:=by
 rw[sC,yT.2 (λo ho=>by simpa using h o ho)]
theorem xS{s:St}{l:List fE}(h:OwnOk s l){k:Nat}{o:fE}(hk:l[k]?=some o):nJ (eL s l) o.1 o.2.1 o.2.2:=by
 obtain⟨tk,n,e⟩:=o;cases tk with
 | none=>exact h.nil _ (cM hk) rfl
 | some t=>exact aMV h hk rfl
theorem OwnOk.to{s X:St}{l:List fE}(h:OwnOk s l)(hX:∀t,X.getT t=s.getT t):OwnOk X l:=⟨λo ho t ht=>by rw[hX];exact h.free o ho t ht,h.nil,h.dst⟩
theorem pE{s X:St}{l:List fE}(h:OwnOk s l){k:Nat}{o:fE}(hk:l[k]?=some o)(hX:∀t,X.getT t=s.getT t):nJ (eL X l) o.1 o.2.1 o.2.2:=xS (h.to hX) hk
theorem pK{s X:St}{l:List fE}(h:OwnOk s l){k:Nat}{o:fE}(hk:l[k]?=some o){t:Nat}
  (ht:o.1=some t\/o.1=none/\(eL X l).getT t=none)(hX:∀t,X.getT t=s.getT t)(n:Nat):OwnOk s (l.set k (some t,n,o.2.2)):=by
 have hfree:s.getT t=none/\∀(j:Nat) (a:fE),l[j]?=some a->a.1=some t->j=k:=by
  rcases ht with e|⟨e,e2⟩
  .exact⟨h.free o (cM hk) t e,λj a ha hat=>h.dst j k a o t ha hk hat e⟩
  .rw[sC]at e2;cases hf:l.find? (λo=>decide (o.1=some t))with
   | some a=>rw[hf]at e2;cases e2
   | none =>
    rw[hf]at e2;refine⟨by rw[<-hX];exact e2,λj a ha hat=>?_⟩;have:=yT.1 hf a (cM ha);simp[hat]at this
 have hlt:k<l.length:=by
  rcases aHk k l.length with h|h
  .exact h
  .rw[qW h]at hk;cases hk
 refine⟨λa ha u hu=>?_,λa ha hn=>?_,λi j a b u hi hj ha hb=>?_⟩
 .rcases wG ha with ha|rfl
  .exact h.free a ha u hu
  .cases hu;exact hfree.1
 .rcases wG ha with ha|rfl
  .exact h.nil a ha hn
  .cases hn
 .rw[tG]at hi hj;split at hi<;>split at hj
  .rename_i e1 e2;rw[<-e1,<-e2]
  .rename_i e1 e2
   try rw[if_pos hlt]at hi
   cases hi;cases ha;exact(e2 (hfree.2 j b hj hb).symm).elim
  .rename_i e1 e2
   try rw[if_pos hlt]at hj
   cases hj;cases hb;exact(e1 (hfree.2 i a hi ha).symm).elim
  .exact h.dst i j a b u hi hj ha hb
theorem pH{s X:St}{l:List fE}(h:OwnOk s l){k:Nat}{o:fE}(hk:l[k]?=some o){t n:Nat}(h':OwnOk s (l.set k (some t,n,o.2.2)))
  (hX:∀t,X.getT t=s.getT t):((eL X l).setT t (n,o.2.2)).ge (eL X (l.set k (some t,n,o.2.2))):=by
 have hlt:k<l.length:=by
  rcases aHk k l.length with h|h
  .exact h
  .rw[qW h]at hk;cases hk
 have hk':(l.set k (some t,n,o.2.2))[k]?=some (some t,n,o.2.2):=by rw[tG,if_pos rfl,if_pos hlt]
 refine⟨λb o h=>by rw[aK]at h;rw[kB,aK];exact h,λu m hm=>?_,λx hx=>by rw[aAe]at hx;show(eL X l).ls=_;rw[aAe];exact hx⟩;rw[dE];rw[sC]at hm;cases hf:(l.set k (some t,n,o.2.2)).find? (λo=>decide (o.1=some u))with
 | some a =>
  rw[hf]at hm;have h1:=List.find?_some hf;have h2:=aBH hf;simp only[cU]at h1;obtain⟨j,hj,e⟩:=kN h2;have hj':(l.set k (some t,n,o.2.2))[j]?=some a:=by rw[aY hj,e]
  by_cases htu:t=u
  .subst htu;have:=h'.dst j k a _ t hj' hk' h1 rfl;subst this;rw[hj']at hk';cases hk';rw[if_pos rfl];exact hm
  .rw[if_neg htu]
   have hjk:k≠j:=λe=>by
    subst e;rw[hj']at hk';cases hk';exact htu (by simpa using h1)
   rw[tG,if_neg hjk]at hj'
   have h3:(eL X l).getT u=some a.2:=by
    rw[sC];cases hf2:l.find? (λo=>decide (o.1=some u))with
    | none =>
     have:=yT.1 hf2 a (cM hj');simp[h1]at this
    | some c =>
     have h4:=List.find?_some hf2;simp only[cU]at h4;obtain⟨i,hi,e⟩:=kN (aBH hf2);have hi':l[i]?=some c:=by rw[aY hi,e]
     have:=h.dst i j c a u hi' hj' h4 h1;subst this;rw[hi']at hj';cases hj';rfl
   rw[h3];exact hm
 | none =>
  rw[hf]at hm;have hno:=yT.1 hf
  have htu:¬ t=u:=λe=>by
   have:=hno _ (cM hk');simp[e]at this
  rw[if_neg htu,sC];cases hf2:l.find? (λo=>decide (o.1=some u))with
  | none=>exact hm
  | some c =>
   have h4:=List.find?_some hf2;simp only[cU]at h4;have:=h.free c (aBH hf2) u h4;rw[<-hX]at this;have hm:X.getT u=some m:=hm;rw[this]at hm;cases hm
theorem kF{X Y:St}{l:List fE}(h:X.ge Y):(eL X l).ge (eL Y l):=by
 induction l with
 | nil=>exact h
 | cons o l ih=>exact pQ (aCi (aCa ih _ _))
theorem aKK{X s:St}{l:List fE}{L M:List Nat}(hf:∀o,o∈l->∀t,o.1=some t->s.getT t=none)(h:X.gel s L M):(eL X l).gel s L M:=by
 induction l with
 | nil=>exact h
 | cons o l ih=>exact aLp (ih λa ha=>hf a (by simp[ha])) (hf o bD)
theorem aGd{X s:St}{l:List fE}{r:Nat}(hf:∀o,o∈l->∀t,o.1=some t->s.getT t=none)(h:X.gx s r):(eL X l).gx s r:=by
 induction l with
 | nil=>exact h
 | cons o l ih=>exact iB (ih λa ha=>hf a (by simp[ha])) (hf o bD)
theorem aJL{s:St}{l:List fE}{s2:St}(hs:s.ge s2)(h:∀o,o∈l->∀t,o.1=some t->s2.getT t=none):(eL s l).ge s2:=pQ (aKK h (aCa hs _ _))
theorem aJE{α:Type}(p:α->Bool)(a:α)(ha:p a=false):∀(l:List α) (k:Nat),(∀x,l[k]?=some x->p x=false)->(l.set k a).find? p=l.find? p
 | [],k,h=>by simp
 | x::l,0,h=>by
  have:=h x bD;simp only[wI,List.find?,ha,this]
 | x::l,k+1,h=>by
  have ih:=aJE p a ha l k (λy hy=>h y (by simpa using hy));simp only[uQ,List.find?,ih]
theorem aIm{s X:St}{l:List fE}(h:OwnOk s l){k:Nat}{o:fE}(hk:l[k]?=some o)(n:Nat)(e:TypeId)(u:Nat) :
  (gs (eL X (l.set k (none,n,e))) o.1 o.2.1 o.2.2).getT u=(eL X l).getT u:=by
 rw[iD];by_cases ho:o.1=some u
 .rw[if_pos ho,sC];cases hf:l.find? (λo=>decide (o.1=some u))with
  | none =>
   have:=yT.1 hf o (cM hk);simp[ho]at this
  | some a =>
   have h1:=List.find?_some hf;obtain⟨j,hj,e1⟩:=kN (aBH hf);have hj':l[j]?=some a:=by rw[aY hj,e1]
   have:=h.dst j k a o u hj' hk (by simpa using h1) ho;subst this;rw[hj']at hk;cases hk;rfl
 .rw[if_neg ho,sC,sC,aJE _ _ bD l k (λx hx=>by rw[hk]at hx;cases hx;simpa using ho)]
theorem aIv{s X:St}{l:List fE}(h:OwnOk s l){k:Nat}{o:fE}(hk:l[k]?=some o)(n:Nat)(e:TypeId) :
  (eL X l).ge (gs (eL X (l.set k (none,n,e))) o.1 o.2.1 o.2.2) :=
 ⟨λb x hb=>by rw[aZ,aK]at hb;rw[aK];exact hb,λu m hm=>by rw[aIm h hk]at hm;exact hm,λx hx=>by rw[aGr,aAe]at hx;rw[aAe];exact hx⟩
theorem aJf{s X:St}{l:List fE}{k:Nat}{tk:Option Nat}{m:Nat}{e:TypeId}(hk:k<l.length)(h:OwnOk s (l.set k (tk,m,e)))(n:Nat)(e':TypeId) :
  (gs (eL X (l.set k (none,n,e'))) tk m e).ge (eL X (l.set k (tk,m,e))):=by
 have hk':(l.set k (tk,m,e))[k]?=some (tk,m,e):=by rw[tG,if_pos rfl,if_pos hk]
 have key:=aIm (X:=X) h hk' n e';rw[List.set_set]at key;exact⟨λb x hb=>by rw[aK]at hb;rw[aZ,aK];exact hb,λu q hq=>by rw[key];exact hq,λx hx=>by rw[aAe]at hx;rw[aGr,aAe];exact hx⟩
theorem aKF{s X:St}{l:List fE}(h:OwnOk s l){k:Nat}{o:fE}(hk:l[k]?=some o)(n:Nat)(e:TypeId)(hX:∀t,X.getT t=s.getT t){t:Nat}(ht:o.1=some t):(eL X (l.set k (none,n,e))).getT t=none:=by
 rw[aNx,hX]
 .exact h.free o (cM hk) t ht
 .intro a ha hat;obtain⟨j,hj,e1⟩:=kN ha;have hj':(l.set k (none,n,e))[j]?=some a:=by rw[aY hj,e1]
  rw[tG]at hj';split at hj'
  .split at hj'
   .cases hj';cases hat
   .cases hj'
  .rename_i e2;exact e2 (h.dst j k a o t hj' hk hat ht).symm
theorem aJH{s X:St}{l:List fE}(h:OwnOk s l){k:Nat}(hk:k<l.length)(n:Nat)(e e':TypeId)(hX:∀t,X.getT t=s.getT t){tk:Option Nat}{m:Nat}
  (hf:∀t,tk=some t->(eL X (l.set k (none,n,e'))).getT t=none)(hn:tk=none->m=0):OwnOk s (l.set k (tk,m,e)):=by
 have key:∀t,tk=some t->s.getT t=none/\∀(j:Nat) (a:fE),j≠k->l[j]?=some a->a.1≠some t:=by
  intro t ht;have h1:=hf t ht;rw[sC]at h1;cases hq:(l.set k (none,n,e')).find? (λo=>decide (o.1=some t))with
  | some a=>rw[hq]at h1;cases h1
  | none =>
   rw[hq]at h1;refine⟨by rw[<-hX];exact h1,λj a hj ha hat=>?_⟩;have h2:(l.set k (none,n,e'))[j]?=some a:=by rw[tG,if_neg (λe=>hj e.symm)];exact ha
   have:=yT.1 hq a (cM h2);simp[hat]at this
 refine⟨λa ha u hu=>?_,λa ha hn'=>?_,λi j a b u hi hj ha hb=>?_⟩
 .rcases wG ha with ha|rfl
  .exact h.free a ha u hu
  .exact(key u hu).1
 .rcases wG ha with ha|rfl
  .exact h.nil a ha hn'
  .exact hn hn'
 .rw[tG]at hi hj;by_cases e1:k=i<;>by_cases e2:k=j
  .rw[<-e1,<-e2]
  .rw[if_pos e1,if_pos hk]at hi;rw[if_neg e2]at hj;cases hi;exact((key u ha).2 j b (λe=>e2 e.symm) hj hb).elim
  .rw[if_neg e1]at hi;rw[if_pos e2,if_pos hk]at hj;cases hj;exact((key u hb).2 i a (λe=>e1 e.symm) hi ha).elim
  .rw[if_neg e1]at hi;rw[if_neg e2]at hj;exact h.dst i j a b u hi hj ha hb
theorem R.soft{C:Ctx}{F:Fr}{g:Gh}{s:St}{w:World}(h:R C F g s w){b:Nat}{e:TypeId}{cs cs':List A}(hb:s.getO b=some (.cells e cs))(hl:rO cs cs') :
  R C F g (s.setO b (.cells e cs')) w where
 env:=h.env
 obj:=λc o ho=>by
  rw[aJ]at ho;split at ho
  .rename_i e1;subst e1;cases ho;obtain⟨k,h1,h2,h3⟩:=h.obj b _ hb;refine⟨k,h1,?_,h3⟩;obtain⟨vs,rest,e1,e2,e3⟩:=h2;refine⟨vs,rest,e1,⟨by rw[e2.1,aCy hl],λj a v ha hv=>?_⟩,λc hc=>?_⟩
   .obtain⟨a0,ha0,h4,_⟩:=xK hl j a ha;exact h4 g v (e2.2 j a0 v ha0 hv)
   .obtain⟨j,hj,rfl⟩:=kN hc;obtain⟨_,_,_,h5⟩:=xK hl j cs'[j] (aY hj);exact h5
  .exact h.obj c o ho
 tok:=h.tok
 sep:=h.sep
 pis:=h.pis
 frm:=h.frm
 glb:=h.glb
 fsh:=h.fsh
 bet:=h.bet
 inj:=h.inj
 dtm:=h.dtm
 lst:=h.lst
 bfr:=h.bfr
theorem Den.soft{C:Cx}{s:St}{f:FuncId}{args:List A}{KV Kp:St->A->Prop}{b:Nat}{e:TypeId}{cs cs':List A}(hb:s.getO b=some (.cells e cs))(hl:rO cs cs')
  (h:Den C f args KV Kp (s.setO b (.cells e cs'))):Den C f args KV Kp s:=λF g w vals hR hv=>h F g w vals (hR.soft hb hl) hv
section
theorem gH{p:Prop}(h:p:=by(simp only[aJ,eD,kB,aZ,aK,ne_eq,dK,reduceIte, *]<;>(first|done|rfl|assumption))):p:=h
theorem cS{s1 s:St}(h:s1.ge s:=by(repeat (first|exact aM _|refine eC (by first|(simp only[*];done)|assumption) ?_))):s1.ge s:=h
theorem aS{s1 s:St}{r:Nat}(h:s1.gx s r:=by(repeat (first|refine aGd (by assumption) ?_|exact fJ _ _|refine eR ?_|refine iB ?_ (by assumption)|refine aFK (by assumption) ?_|refine cX (by first|(simp only[*];done)|assumption) ?_|refine aFK (by first|(simp only[*];done)|assumption) ?_))):s1.gx s r:=h
theorem mA{s1 s:St}{L M:List Nat}(h:s1.gel s L M:=by(repeat (first|exact xI _ _ _|exact aCa (by assumption) _ _|refine aKK (by assumption) ?_|refine aCi ?_|refine aCm aFL ?_|refine gB1 ?_|refine gB2 ?_|refine aLp ?_ (by assumption)|refine aJT (by assumption) ?_|refine vG gH ?_|refine gB3 ?_|refine tU (by first|(simp only[*];done)|assumption) ?_))):s1.gel s L M:=h
theorem aX{s1 s:St}(h:s1.gel s [] []:=by exact mA):s1.ge s:=pQ h
theorem aO{f:FuncId}{c:Code}{args:List A}{KV Kp:St->A->Prop}{s:St}{fn:Func}(hf:cx.P.funcs[f]?=some fn)(V:List Nat)
  (h:gQ cx fn.ntmps V c (mJ cx fn.results.toList (DK KV) (DK Kp)) (pS 0 args) s)
  (hb:fn.body=some c:=by exact rfl)
  (hname : (fn.name == "runtime.NumGoroutine") = false := by exact rfl) (hn : args.length ≤ fn.ntmps := by exact lM rfl) : Den cx f args KV Kp s :=
 Den.drop (aES hf hb hname hn (bG _ _ _ _ h))
theorem gBo{f:FuncId}{c:Code}{args:List A}{KV Kp:St->A->Prop}{s:St}{fn:Func}(hf:nG.P.funcs[f]?=some fn)(V:List Nat)
  (h:gQ nG fn.ntmps V c (mJ nG fn.results.toList (DK KV) (DK Kp)) (pS 0 args) s)
  (hb:fn.body=some c:=by exact rfl)
  (hname : (fn.name == "runtime.NumGoroutine") = false := by exact rfl) (hn : args.length ≤ fn.ntmps := by exact lM rfl) : Den cx f args KV Kp s :=
 Den.drop (aRM (aES (C:=nG) hf hb hname hn (bG _ _ _ _ h)))
theorem aQ{P:Option A->Prop}{b:Bool}(h1:b=true->P (some (.bool true)))(h2:b=false->P (some (.bool false))):P (some (.bool b)):=by
 cases b
 .exact h2 rfl
 .exact h1 rfl
def OT.r:Nat->Nat->OT
 | _,0=>.nil
 | i,k+1=>.node i (OT.r (i+1) k)
attribute [go_sem] OT.r
section
variable {C:Cx} {n:Nat} {ops:Array Oper} {s:St} {Kp:St->A->Prop} {id:Nat} {V:List Nat} {Q0:XK->Env->St->Prop} {e:Env}
theorem bL(t:OT)(E:List (Nat × List Nat))
  (h:iI C n (ops.toList.map (·.dst)) ops.toList E (mL V Q0) (yF Q0 (ops.toList.map (·.dst)) e) t [] e s)
  (hm:C.P.follows .mixedOrders=true:=by exact aQ3)
  (hck:(okE ops E&&pX ops ops.size (Array.replicate ops.size false) t&&aDc C.tt ops)=true:=by decide +kernel) :
  aDq C n id ops (nE (mL V Q0) Q0) e s:=aRF t E hm hck h
end
end
def cO{α:Type}(r:α->α->Bool):List α->List α->Bool
 | [],[]=>true
 | a::xs,b::ys=>r a b&&cO r xs ys
 | _,_=>false
theorem pC{α:Type}{r:α->α->Bool}:∀{xs ys:List α},xs.length≠ys.length->cO r xs ys=false
 | [],[],h=>absurd rfl h
 | [],_::_,_=>rfl
 | _::_,[],_=>rfl
 | a::xs,b::ys,h=>by simp only[cO,pC (r:=r) (xs:=xs) (ys:=ys) (by simpa using h),fG]
theorem iK{α:Type}{r:α->α->Bool}:∀{xs ys:List α},xs.length=ys.length->(cO r xs ys=true↔∀(i:Nat) (a b:α),xs[i]?=some a->ys[i]?=some b->r a b=true)
 | [],[],_=>by simp[cO]
 | [],_::_,h=>by simp at h
 | _::_,[],h=>by simp at h
 | a::xs,b::ys,h=>by
  rw[cO,cL,iK (by simpa using h)];constructor
  .rintro⟨h1,h2⟩ i x y hx hy;cases i with
   | zero=>simp at hx hy;subst hx;subst hy;exact h1
   | succ i=>exact h2 i x y (by simpa using hx) (by simpa using hy)
  .intro h;exact⟨h 0 a b bD bD,λi x y hx hy=>h (i+1) x y (by simpa using hx) (by simpa using hy)⟩
theorem aM8{α:Type}(enc:α->A)(r:α->α->Bool)(f:FuncId)(first caps:List A)(s:St)(xs ys:List α)(KV Kp)
  (hz:∀a,∃cs,enc a=.agg cs/\cs.length=15/\fP cs=true)
  (hf:∀a b s' KV Kp,a∈xs->b∈ys->s'.ge s->KV s' (.bool (r a b))->Den cx f (first++[enc a,enc b]++caps) KV Kp s')
  (hk:KV s (.bool (cO r xs ys))):Den cx 69 [.list none (xs.map enc),.list none (ys.map enc),.fn f first caps] KV Kp s:=by
 refine jD λhz1=>?_
 have hlw:=hz1 _ (bY ..);(refine aO func69 [0,1,2,6,7,8,9,14,15,16,17,18,30] ?_;simp only[go_sem,ntmps69,f69]);(refine aQ (λh=>?_) (λh=>?_))<;>simp only[go_sem,h]
 .exact aN (by rwa[pC (by intro e;simp[e]at h)]at hk)
 .have hlen:xs.length=ys.length:=by simp at h;omega
  refine Ex.loop (λi=>[(0,.list none (xs.map enc)),(1,.list none (ys.map enc)),(2,.fn f first caps),(15,.list none (xs.map enc)),(16,.int .i64 xs.length),(17,.int .i64 (i:Nat))]) (λ_=>s)
     (λi=>i<=xs.length/\∀(j:Nat) a b,j<i->xs[j]?=some a->ys[j]?=some b->r a b=true) (λi=>xs.length-i) 0 ⟨aU _,λj _ _ hj=>by omega⟩ ?_ (aM s) ?_
  .simp only[go_sem];exact rfl
  .rintro i ⟨hi,hall⟩;refine bG (V:=[0,1,2,6,7,8,9,14,15,16,17,18,30]) _ _ _ _ ?_;simp only[go_sem];(refine aQ (λh=>?_) (λh=>?_))<;>simp only[go_sem,h]
   .have hix:i<xs.length:=by simpa using h
    have hiy:i<ys.length:=by omega
    obtain⟨a,ha⟩:∃a,xs[i]?=some a:=⟨_,aY hix⟩
    obtain⟨b,hb⟩:∃b,ys[i]?=some b:=⟨_,aY hiy⟩
    obtain⟨ca,ea,la,oa⟩:=hz a;obtain⟨cb,eb,lb,ob⟩:=hz b;simp only[go_sem,ha,ea,la,hix,oa,dW (Nat.le_of_eq la)];(intro p hp;try simp only[aI,ne_eq]at hp);simp only[go_sem,hp,oa,la,hb,eb,lb,ob,hiy,dW (Nat.le_of_eq la),dW (Nat.le_of_eq lb)];(intro q hq;try simp only[aI,ne_eq]at hq);simp only[go_sem,hp,hq,oa,la,hb,eb,lb,ob,dW (Nat.le_of_eq la),dW (Nat.le_of_eq lb)];rw[<-ea,<-eb];refine hf a b _ _ _ (cM ha) (cM hb) (eC hq.2 (dS hp)) ?_;simp only[go_sem];(refine aQ (λh=>?_) (λh=>?_))<;>simp only[go_sem,h]
    .have hr:r a b=false:=by simpa using h
     refine aP (s2:=s) ?_ (eC hq.2 (dS hp))
     have:cO r xs ys=false:=by
      rw[pZ];intro he;have:=(iK hlen).1 he i a b ha hb;rw[hr]at this;cases this
     rwa[this]at hk
    .have hr:r a b=true:=by simpa using h
     refine⟨i+1,⟨by omega,λj x y hj hx hy=>?_⟩,by omega,?_,eC hq.2 (dS hp)⟩
     .by_cases hji:j=i
      .subst hji;rw[ha]at hx;rw[hb]at hy;cases hx;cases hy;exact hr
      .exact hall j x y aB hx hy
     .simp only[go_sem,hlw.wrap (i:=i) (by simpa using hix)]
   .have hix:i=xs.length:=by simp at h;omega
    have:cO r xs ys=true:=(iK hlen).2 λj x y hx hy=>hall j x y (by rw[hix];exact(dV.1 hx).1) hx hy
    exact aN (by rwa[this]at hk)
theorem aM7{α:Type}(enc:α->A)(r:α->α->Bool)(f:FuncId)(first caps:List A)(s:St)(xs ys:List α)(KV Kp)
  (hz:∀a,∃cs,enc a=.agg cs/\cs.length=10/\fP cs=true)
  (hf:∀a b s' KV Kp,a∈xs->b∈ys->s'.ge s->KV s' (.bool (r a b))->Den cx f (first++[enc a,enc b]++caps) KV Kp s')
  (hk:KV s (.bool (cO r xs ys))):Den cx 71 [.list none (xs.map enc),.list none (ys.map enc),.fn f first caps] KV Kp s:=by
 refine jD λhz1=>?_
 have hlw:=hz1 _ (bY ..);(refine aO func71 [0,1,2,6,7,8,9,14,15,16,17,18,30] ?_;simp only[go_sem,ntmps71,f71]);(refine aQ (λh=>?_) (λh=>?_))<;>simp only[go_sem,h]
 .exact aN (by rwa[pC (by intro e;simp[e]at h)]at hk)
 .have hlen:xs.length=ys.length:=by simp at h;omega
  refine Ex.loop (λi=>[(0,.list none (xs.map enc)),(1,.list none (ys.map enc)),(2,.fn f first caps),(15,.list none (xs.map enc)),(16,.int .i64 xs.length),(17,.int .i64 (i:Nat))]) (λ_=>s)
     (λi=>i<=xs.length/\∀(j:Nat) a b,j<i->xs[j]?=some a->ys[j]?=some b->r a b=true) (λi=>xs.length-i) 0 ⟨aU _,λj _ _ hj=>by omega⟩ ?_ (aM s) ?_
  .simp only[go_sem];exact rfl
  .rintro i ⟨hi,hall⟩;refine bG (V:=[0,1,2,6,7,8,9,14,15,16,17,18,30]) _ _ _ _ ?_;simp only[go_sem];(refine aQ (λh=>?_) (λh=>?_))<;>simp only[go_sem,h]
   .have hix:i<xs.length:=by simpa using h
    have hiy:i<ys.length:=by omega
    obtain⟨a,ha⟩:∃a,xs[i]?=some a:=⟨_,aY hix⟩
    obtain⟨b,hb⟩:∃b,ys[i]?=some b:=⟨_,aY hiy⟩
    obtain⟨ca,ea,la,oa⟩:=hz a;obtain⟨cb,eb,lb,ob⟩:=hz b;simp only[go_sem,ha,ea,la,hix,oa,dW (Nat.le_of_eq la)];(intro p hp;try simp only[aI,ne_eq]at hp);simp only[go_sem,hp,oa,la,hb,eb,lb,ob,hiy,dW (Nat.le_of_eq la),dW (Nat.le_of_eq lb)];(intro q hq;try simp only[aI,ne_eq]at hq);simp only[go_sem,hp,hq,oa,la,hb,eb,lb,ob,dW (Nat.le_of_eq la),dW (Nat.le_of_eq lb)];rw[<-ea,<-eb];refine hf a b _ _ _ (cM ha) (cM hb) (eC hq.2 (dS hp)) ?_;simp only[go_sem];(refine aQ (λh=>?_) (λh=>?_))<;>simp only[go_sem,h]
    .have hr:r a b=false:=by simpa using h
     refine aP (s2:=s) ?_ (eC hq.2 (dS hp))
     have:cO r xs ys=false:=by
      rw[pZ];intro he;have:=(iK hlen).1 he i a b ha hb;rw[hr]at this;cases this
     rwa[this]at hk
    .have hr:r a b=true:=by simpa using h
     refine⟨i+1,⟨by omega,λj x y hj hx hy=>?_⟩,by omega,?_,eC hq.2 (dS hp)⟩
     .by_cases hji:j=i
      .subst hji;rw[ha]at hx;rw[hb]at hy;cases hx;cases hy;exact hr
      .exact hall j x y aB hx hy
     .simp only[go_sem,hlw.wrap (i:=i) (by simpa using hix)]
   .have hix:i=xs.length:=by simp at h;omega
    have:cO r xs ys=true:=(iK hlen).2 λj x y hx hy=>hall j x y (by rw[hix];exact(dV.1 hx).1) hx hy
    exact aN (by rwa[this]at hk)
theorem aNg{α:Type}(enc:α->A)(r:α->α->Bool)(f:FuncId)(first caps:List A)(s:St)(xs ys:List α)(KV Kp)
  (hz:∀a,∃cs,enc a=.agg cs/\cs.length=7/\fP cs=true)
  (hf:∀a b s' KV Kp,a∈xs->b∈ys->s'.ge s->KV s' (.bool (r a b))->Den cx f (first++[enc a,enc b]++caps) KV Kp s')
  (hk:KV s (.bool (cO r xs ys))):Den cx 73 [.list none (xs.map enc),.list none (ys.map enc),.fn f first caps] KV Kp s:=by
 refine jD λhz1=>?_
 have hlw:=hz1 _ (bY ..);(refine aO func73 [0,1,2,6,7,8,9,14,15,16,17,18,30] ?_;simp only[go_sem,ntmps73,f73]);(refine aQ (λh=>?_) (λh=>?_))<;>simp only[go_sem,h]
 .exact aN (by rwa[pC (by intro e;simp[e]at h)]at hk)
 .have hlen:xs.length=ys.length:=by simp at h;omega
  refine Ex.loop (λi=>[(0,.list none (xs.map enc)),(1,.list none (ys.map enc)),(2,.fn f first caps),(15,.list none (xs.map enc)),(16,.int .i64 xs.length),(17,.int .i64 (i:Nat))]) (λ_=>s)
     (λi=>i<=xs.length/\∀(j:Nat) a b,j<i->xs[j]?=some a->ys[j]?=some b->r a b=true) (λi=>xs.length-i) 0 ⟨aU _,λj _ _ hj=>by omega⟩ ?_ (aM s) ?_
  .simp only[go_sem];exact rfl
  .rintro i ⟨hi,hall⟩;refine bG (V:=[0,1,2,6,7,8,9,14,15,16,17,18,30]) _ _ _ _ ?_;simp only[go_sem];(refine aQ (λh=>?_) (λh=>?_))<;>simp only[go_sem,h]
   .have hix:i<xs.length:=by simpa using h
    have hiy:i<ys.length:=by omega
    obtain⟨a,ha⟩:∃a,xs[i]?=some a:=⟨_,aY hix⟩
    obtain⟨b,hb⟩:∃b,ys[i]?=some b:=⟨_,aY hiy⟩
    obtain⟨ca,ea,la,oa⟩:=hz a;obtain⟨cb,eb,lb,ob⟩:=hz b;simp only[go_sem,ha,ea,la,hix,oa,dW (Nat.le_of_eq la)];(intro p hp;try simp only[aI,ne_eq]at hp);simp only[go_sem,hp,oa,la,hb,eb,lb,ob,hiy,dW (Nat.le_of_eq la),dW (Nat.le_of_eq lb)];(intro q hq;try simp only[aI,ne_eq]at hq);simp only[go_sem,hp,hq,oa,la,hb,eb,lb,ob,dW (Nat.le_of_eq la),dW (Nat.le_of_eq lb)];rw[<-ea,<-eb];refine hf a b _ _ _ (cM ha) (cM hb) (eC hq.2 (dS hp)) ?_;simp only[go_sem];(refine aQ (λh=>?_) (λh=>?_))<;>simp only[go_sem,h]
    .have hr:r a b=false:=by simpa using h
     refine aP (s2:=s) ?_ (eC hq.2 (dS hp))
     have:cO r xs ys=false:=by
      rw[pZ];intro he;have:=(iK hlen).1 he i a b ha hb;rw[hr]at this;cases this
     rwa[this]at hk
    .have hr:r a b=true:=by simpa using h
     refine⟨i+1,⟨by omega,λj x y hj hx hy=>?_⟩,by omega,?_,eC hq.2 (dS hp)⟩
     .by_cases hji:j=i
      .subst hji;rw[ha]at hx;rw[hb]at hy;cases hx;cases hy;exact hr
      .exact hall j x y aB hx hy
     .simp only[go_sem,hlw.wrap (i:=i) (by simpa using hix)]
   .have hix:i=xs.length:=by simp at h;omega
    have:cO r xs ys=true:=(iK hlen).2 λj x y hx hy=>hall j x y (by rw[hix];exact(dV.1 hx).1) hx hy
    exact aN (by rwa[this]at hk)
theorem aEB{α:Type}(enc:α->A)(r:α->α->Bool)(f:FuncId)(first caps:List A)(s:St)(xs ys:List α)(KV Kp)
  (hz:∀a,∃cs,enc a=.agg cs/\cs.length=6/\fP cs=true)
  (hf:∀a b s' KV Kp,a∈xs->b∈ys->s'.ge s->KV s' (.bool (r a b))->Den cx f (first++[enc a,enc b]++caps) KV Kp s')
  (hk:KV s (.bool (cO r xs ys))):Den cx 82 [.list none (xs.map enc),.list none (ys.map enc),.fn f first caps] KV Kp s:=by
 refine jD λhz1=>?_
 have hlw:=hz1 _ (bY ..);(refine aO func82 [0,1,2,6,7,8,9,14,15,16,17,18,30] ?_;simp only[go_sem,ntmps82,f82]);(refine aQ (λh=>?_) (λh=>?_))<;>simp only[go_sem,h]
 .exact aN (by rwa[pC (by intro e;simp[e]at h)]at hk)
 .have hlen:xs.length=ys.length:=by simp at h;omega
  refine Ex.loop (λi=>[(0,.list none (xs.map enc)),(1,.list none (ys.map enc)),(2,.fn f first caps),(15,.list none (xs.map enc)),(16,.int .i64 xs.length),(17,.int .i64 (i:Nat))]) (λ_=>s)
     (λi=>i<=xs.length/\∀(j:Nat) a b,j<i->xs[j]?=some a->ys[j]?=some b->r a b=true) (λi=>xs.length-i) 0 ⟨aU _,λj _ _ hj=>by omega⟩ ?_ (aM s) ?_
  .simp only[go_sem];exact rfl
  .rintro i ⟨hi,hall⟩;refine bG (V:=[0,1,2,6,7,8,9,14,15,16,17,18,30]) _ _ _ _ ?_;simp only[go_sem];(refine aQ (λh=>?_) (λh=>?_))<;>simp only[go_sem,h]
   .have hix:i<xs.length:=by simpa using h
    have hiy:i<ys.length:=by omega
    obtain⟨a,ha⟩:∃a,xs[i]?=some a:=⟨_,aY hix⟩
    obtain⟨b,hb⟩:∃b,ys[i]?=some b:=⟨_,aY hiy⟩
    obtain⟨ca,ea,la,oa⟩:=hz a;obtain⟨cb,eb,lb,ob⟩:=hz b;simp only[go_sem,ha,ea,la,hix,oa,dW (Nat.le_of_eq la)];(intro p hp;try simp only[aI,ne_eq]at hp);simp only[go_sem,hp,oa,la,hb,eb,lb,ob,hiy,dW (Nat.le_of_eq la),dW (Nat.le_of_eq lb)];(intro q hq;try simp only[aI,ne_eq]at hq);simp only[go_sem,hp,hq,oa,la,hb,eb,lb,ob,dW (Nat.le_of_eq la),dW (Nat.le_of_eq lb)];rw[<-ea,<-eb];refine hf a b _ _ _ (cM ha) (cM hb) (eC hq.2 (dS hp)) ?_;simp only[go_sem];(refine aQ (λh=>?_) (λh=>?_))<;>simp only[go_sem,h]
    .have hr:r a b=false:=by simpa using h
     refine aP (s2:=s) ?_ (eC hq.2 (dS hp))
     have:cO r xs ys=false:=by
      rw[pZ];intro he;have:=(iK hlen).1 he i a b ha hb;rw[hr]at this;cases this
     rwa[this]at hk
    .have hr:r a b=true:=by simpa using h
     refine⟨i+1,⟨by omega,λj x y hj hx hy=>?_⟩,by omega,?_,eC hq.2 (dS hp)⟩
     .by_cases hji:j=i
      .subst hji;rw[ha]at hx;rw[hb]at hy;cases hx;cases hy;exact hr
      .exact hall j x y aB hx hy
     .simp only[go_sem,hlw.wrap (i:=i) (by simpa using hix)]
   .have hix:i=xs.length:=by simp at h;omega
    have:cO r xs ys=true:=(iK hlen).2 λj x y hx hy=>hall j x y (by rw[hix];exact(dV.1 hx).1) hx hy
    exact aN (by rwa[this]at hk)
theorem aMO{α:Type}(enc:α->A)(r:α->α->Bool)(f:FuncId)(first caps:List A)(s:St)(xs ys:List α)(KV Kp)
  (hz:∀a,∃cs,enc a=.agg cs/\cs.length=7/\fP cs=true)
  (hf:∀a b s' KV Kp,a∈xs->b∈ys->s'.ge s->KV s' (.bool (r a b))->Den cx f (first++[enc a,enc b]++caps) KV Kp s')
  (hk:KV s (.bool (cO r xs ys))):Den cx 132 [.list none (xs.map enc),.list none (ys.map enc),.fn f first caps] KV Kp s:=by
 refine jD λhz1=>?_
 have hlw:=hz1 _ (bY ..);(refine aO func132 [0,1,2,6,7,8,9,14,15,16,17,18,30] ?_;simp only[go_sem,ntmps132,f132]);(refine aQ (λh=>?_) (λh=>?_))<;>simp only[go_sem,h]
 .exact aN (by rwa[pC (by intro e;simp[e]at h)]at hk)
 .have hlen:xs.length=ys.length:=by simp at h;omega
  refine Ex.loop (λi=>[(0,.list none (xs.map enc)),(1,.list none (ys.map enc)),(2,.fn f first caps),(15,.list none (xs.map enc)),(16,.int .i64 xs.length),(17,.int .i64 (i:Nat))]) (λ_=>s)
     (λi=>i<=xs.length/\∀(j:Nat) a b,j<i->xs[j]?=some a->ys[j]?=some b->r a b=true) (λi=>xs.length-i) 0 ⟨aU _,λj _ _ hj=>by omega⟩ ?_ (aM s) ?_
  .simp only[go_sem];exact rfl
  .rintro i ⟨hi,hall⟩;refine bG (V:=[0,1,2,6,7,8,9,14,15,16,17,18,30]) _ _ _ _ ?_;simp only[go_sem];(refine aQ (λh=>?_) (λh=>?_))<;>simp only[go_sem,h]
   .have hix:i<xs.length:=by simpa using h
    have hiy:i<ys.length:=by omega
    obtain⟨a,ha⟩:∃a,xs[i]?=some a:=⟨_,aY hix⟩
    obtain⟨b,hb⟩:∃b,ys[i]?=some b:=⟨_,aY hiy⟩
    obtain⟨ca,ea,la,oa⟩:=hz a;obtain⟨cb,eb,lb,ob⟩:=hz b;simp only[go_sem,ha,ea,la,hix,oa,dW (Nat.le_of_eq la)];(intro p hp;try simp only[aI,ne_eq]at hp);simp only[go_sem,hp,oa,la,hb,eb,lb,ob,hiy,dW (Nat.le_of_eq la),dW (Nat.le_of_eq lb)];(intro q hq;try simp only[aI,ne_eq]at hq);simp only[go_sem,hp,hq,oa,la,hb,eb,lb,ob,dW (Nat.le_of_eq la),dW (Nat.le_of_eq lb)];rw[<-ea,<-eb];refine hf a b _ _ _ (cM ha) (cM hb) (eC hq.2 (dS hp)) ?_;simp only[go_sem];(refine aQ (λh=>?_) (λh=>?_))<;>simp only[go_sem,h]
    .have hr:r a b=false:=by simpa using h
     refine aP (s2:=s) ?_ (eC hq.2 (dS hp))
     have:cO r xs ys=false:=by
      rw[pZ];intro he;have:=(iK hlen).1 he i a b ha hb;rw[hr]at this;cases this
     rwa[this]at hk
    .have hr:r a b=true:=by simpa using h
     refine⟨i+1,⟨by omega,λj x y hj hx hy=>?_⟩,by omega,?_,eC hq.2 (dS hp)⟩
     .by_cases hji:j=i
      .subst hji;rw[ha]at hx;rw[hb]at hy;cases hx;cases hy;exact hr
      .exact hall j x y aB hx hy
     .simp only[go_sem,hlw.wrap (i:=i) (by simpa using hix)]
   .have hix:i=xs.length:=by simp at h;omega
    have:cO r xs ys=true:=(iK hlen).2 λj x y hx hy=>hall j x y (by rw[hix];exact(dV.1 hx).1) hx hy
    exact aN (by rwa[this]at hk)
theorem aMX{α:Type}(enc:α->A)(r:α->α->Bool)(f:FuncId)(first caps:List A)(s:St)(xs ys:List α)(KV Kp)
  (hz:∀a,∃cs,enc a=.agg cs/\cs.length=11/\fP cs=true)
  (hf:∀a b s' KV Kp,a∈xs->b∈ys->s'.ge s->KV s' (.bool (r a b))->Den cx f (first++[enc a,enc b]++caps) KV Kp s')
  (hk:KV s (.bool (cO r xs ys))):Den cx 136 [.list none (xs.map enc),.list none (ys.map enc),.fn f first caps] KV Kp s:=by
 refine jD λhz1=>?_
 have hlw:=hz1 _ (bY ..);(refine aO func136 [0,1,2,6,7,8,9,14,15,16,17,18,30] ?_;simp only[go_sem,ntmps136,f136]);(refine aQ (λh=>?_) (λh=>?_))<;>simp only[go_sem,h]
 .exact aN (by rwa[pC (by intro e;simp[e]at h)]at hk)
 .have hlen:xs.length=ys.length:=by simp at h;omega
  refine Ex.loop (λi=>[(0,.list none (xs.map enc)),(1,.list none (ys.map enc)),(2,.fn f first caps),(15,.list none (xs.map enc)),(16,.int .i64 xs.length),(17,.int .i64 (i:Nat))]) (λ_=>s)
     (λi=>i<=xs.length/\∀(j:Nat) a b,j<i->xs[j]?=some a->ys[j]?=some b->r a b=true) (λi=>xs.length-i) 0 ⟨aU _,λj _ _ hj=>by omega⟩ ?_ (aM s) ?_
  .simp only[go_sem];exact rfl
  .rintro i ⟨hi,hall⟩;refine bG (V:=[0,1,2,6,7,8,9,14,15,16,17,18,30]) _ _ _ _ ?_;simp only[go_sem];(refine aQ (λh=>?_) (λh=>?_))<;>simp only[go_sem,h]
   .have hix:i<xs.length:=by simpa using h
    have hiy:i<ys.length:=by omega
    obtain⟨a,ha⟩:∃a,xs[i]?=some a:=⟨_,aY hix⟩
    obtain⟨b,hb⟩:∃b,ys[i]?=some b:=⟨_,aY hiy⟩
    obtain⟨ca,ea,la,oa⟩:=hz a;obtain⟨cb,eb,lb,ob⟩:=hz b;simp only[go_sem,ha,ea,la,hix,oa,dW (Nat.le_of_eq la)];(intro p hp;try simp only[aI,ne_eq]at hp);simp only[go_sem,hp,oa,la,hb,eb,lb,ob,hiy,dW (Nat.le_of_eq la),dW (Nat.le_of_eq lb)];(intro q hq;try simp only[aI,ne_eq]at hq);simp only[go_sem,hp,hq,oa,la,hb,eb,lb,ob,dW (Nat.le_of_eq la),dW (Nat.le_of_eq lb)];rw[<-ea,<-eb];refine hf a b _ _ _ (cM ha) (cM hb) (eC hq.2 (dS hp)) ?_;simp only[go_sem];(refine aQ (λh=>?_) (λh=>?_))<;>simp only[go_sem,h]
    .have hr:r a b=false:=by simpa using h
     refine aP (s2:=s) ?_ (eC hq.2 (dS hp))
     have:cO r xs ys=false:=by
      rw[pZ];intro he;have:=(iK hlen).1 he i a b ha hb;rw[hr]at this;cases this
     rwa[this]at hk
    .have hr:r a b=true:=by simpa using h
     refine⟨i+1,⟨by omega,λj x y hj hx hy=>?_⟩,by omega,?_,eC hq.2 (dS hp)⟩
     .by_cases hji:j=i
      .subst hji;rw[ha]at hx;rw[hb]at hy;cases hx;cases hy;exact hr
      .exact hall j x y aB hx hy
     .simp only[go_sem,hlw.wrap (i:=i) (by simpa using hix)]
   .have hix:i=xs.length:=by simp at h;omega
    have:cO r xs ys=true:=(iK hlen).2 λj x y hx hy=>hall j x y (by rw[hix];exact(dV.1 hx).1) hx hy
    exact aN (by rwa[this]at hk)
theorem aMK{α:Type}(enc:α->A)(r:α->α->Bool)(f:FuncId)(first caps:List A)(s:St)(xs ys:List α)(KV Kp)
  (hz:∀a,∃cs,enc a=.agg cs/\cs.length=1/\fP cs=true)
  (hf:∀a b s' KV Kp,a∈xs->b∈ys->s'.ge s->KV s' (.bool (r a b))->Den cx f (first++[enc a,enc b]++caps) KV Kp s')
  (hk:KV s (.bool (cO r xs ys))):Den cx 138 [.list none (xs.map enc),.list none (ys.map enc),.fn f first caps] KV Kp s:=by
 refine jD λhz1=>?_
 have hlw:=hz1 _ (bY ..);(refine aO func138 [0,1,2,6,7,8,9,14,15,16,17,18,30] ?_;simp only[go_sem,ntmps138,f138]);(refine aQ (λh=>?_) (λh=>?_))<;>simp only[go_sem,h]
 .exact aN (by rwa[pC (by intro e;simp[e]at h)]at hk)
 .have hlen:xs.length=ys.length:=by simp at h;omega
  refine Ex.loop (λi=>[(0,.list none (xs.map enc)),(1,.list none (ys.map enc)),(2,.fn f first caps),(15,.list none (xs.map enc)),(16,.int .i64 xs.length),(17,.int .i64 (i:Nat))]) (λ_=>s)
     (λi=>i<=xs.length/\∀(j:Nat) a b,j<i->xs[j]?=some a->ys[j]?=some b->r a b=true) (λi=>xs.length-i) 0 ⟨aU _,λj _ _ hj=>by omega⟩ ?_ (aM s) ?_
  .simp only[go_sem];exact rfl
  .rintro i ⟨hi,hall⟩;refine bG (V:=[0,1,2,6,7,8,9,14,15,16,17,18,30]) _ _ _ _ ?_;simp only[go_sem];(refine aQ (λh=>?_) (λh=>?_))<;>simp only[go_sem,h]
   .have hix:i<xs.length:=by simpa using h
    have hiy:i<ys.length:=by omega
    obtain⟨a,ha⟩:∃a,xs[i]?=some a:=⟨_,aY hix⟩
    obtain⟨b,hb⟩:∃b,ys[i]?=some b:=⟨_,aY hiy⟩
    obtain⟨ca,ea,la,oa⟩:=hz a;obtain⟨cb,eb,lb,ob⟩:=hz b;simp only[go_sem,ha,ea,la,hix,oa,dW (Nat.le_of_eq la)];(intro p hp;try simp only[aI,ne_eq]at hp);simp only[go_sem,hp,oa,la,hb,eb,lb,ob,hiy,dW (Nat.le_of_eq la),dW (Nat.le_of_eq lb)];(intro q hq;try simp only[aI,ne_eq]at hq);simp only[go_sem,hp,hq,oa,la,hb,eb,lb,ob,dW (Nat.le_of_eq la),dW (Nat.le_of_eq lb)];rw[<-ea,<-eb];refine hf a b _ _ _ (cM ha) (cM hb) (eC hq.2 (dS hp)) ?_;simp only[go_sem];(refine aQ (λh=>?_) (λh=>?_))<;>simp only[go_sem,h]
    .have hr:r a b=false:=by simpa using h
     refine aP (s2:=s) ?_ (eC hq.2 (dS hp))
     have:cO r xs ys=false:=by
      rw[pZ];intro he;have:=(iK hlen).1 he i a b ha hb;rw[hr]at this;cases this
     rwa[this]at hk
    .have hr:r a b=true:=by simpa using h
     refine⟨i+1,⟨by omega,λj x y hj hx hy=>?_⟩,by omega,?_,eC hq.2 (dS hp)⟩
     .by_cases hji:j=i
      .subst hji;rw[ha]at hx;rw[hb]at hy;cases hx;cases hy;exact hr
      .exact hall j x y aB hx hy
     .simp only[go_sem,hlw.wrap (i:=i) (by simpa using hix)]
   .have hix:i=xs.length:=by simp at h;omega
    have:cO r xs ys=true:=(iK hlen).2 λj x y hx hy=>hall j x y (by rw[hix];exact(dV.1 hx).1) hx hy
    exact aN (by rwa[this]at hk)
theorem aHC:∀a b:List Tm,rC a b=cO Tm.same a b
 | [],[]=>rfl
 | [],_::_=>rfl
 | _::_,[]=>rfl
 | a::l,b::r=>by rw[rC,cO,aHC l r]
theorem Tm.same_eq(a b:Tm):a.same b=(decide (a.kind=b.kind)&&(decide (a.n=b.n)&&(decide (a.text=b.text)&&(decide (a.sort=b.sort)&&(cO Tm.same a.kids b.kids&&cO Tm.same a.rest b.rest))))):=by
 cases a;cases b;simp only[Tm.same,aHC,Tm.kind,Tm.n,Tm.text,Tm.sort,Tm.kids,Tm.rest];rfl
theorem Tm.hz6(a:Tm):∃cs,a.enc=.agg cs/\cs.length=6/\fP cs=true:=⟨_,a.enc_eq,rfl,rfl⟩
theorem aOr(m:Nat):∀(a b:Tm) (s:St) (KV Kp),SizeOf.sizeOf a<m->KV s (.bool (a.same b))->Den cx 36 [a.enc,b.enc] KV Kp s:=by
 induction m with
 | zero=>intro a b s KV Kp hm;omega
 | succ m ih =>
 intro a b s KV Kp hm hk;rw[Tm.same_eq]at hk;simp only[go_sem];(refine aO func36 [0,1,2,3,4] ?_;simp only[go_sem,ntmps36,f36]);(intro p hp;try simp only[aI,ne_eq]at hp);simp only[go_sem,hp];(intro q hq;try simp only[aI,ne_eq]at hq);simp only[go_sem,hp,hq];(refine aQ (λh=>?_) (λh=>?_))<;>simp only[go_sem,h,hp,hq]<;>(try simp only[h,eW,eU,fB,fG,jN,jT,jM,iJ,eV,fM]at hk)
 ·(refine aQ (fun h => ?_) (fun h => ?_)) <;> simp only [go_sem,h,hp,hq] <;> (try simp only [h,eW,eU,fB,fG,jN,jT,jM,iJ,eV,fM] at hk)
  ·(refine aQ (fun h => ?_) (fun h => ?_)) <;> simp only [go_sem,h,hp,hq] <;> (try simp only [h,eW,eU,fB,fG,jN,jT,jM,iJ,eV,fM] at hk)
   ·(refine aQ (fun h => ?_) (fun h => ?_)) <;> simp only [go_sem,h,hp,hq] <;> (try simp only [h,eW,eU,fB,fG,jN,jT,jM,iJ,eV,fM] at hk)
    .refine aEB Tm.enc Tm.same 36 [] [] _ _ _ _ _ Tm.hz6 (λx y s' KV' Kp' hx hy hs h'=>ih x y s' KV' Kp' (by have:=aBS hx;omega) h') ?_;simp only[go_sem];(refine aQ (λh=>?_) (λh=>?_))<;>simp only[go_sem,h,hp,hq]<;>(try simp only[h,eW,eU,fB,fG,jN,jT,jM,iJ,eV,fM]at hk)
     .refine aEB Tm.enc Tm.same 36 [] [] _ _ _ _ _ Tm.hz6 (λx y s' KV' Kp' hx hy hs h'=>ih x y s' KV' Kp' (by have:=aBT hx;omega) h') ?_;simp only[go_sem];exact aP hk cS
     .exact aP hk cS
    .exact aP hk cS
   .exact aP hk cS
  .exact aP hk cS
 .exact aP hk cS
theorem aHO(a b:Tm)(s:St)(KV Kp)(hk:KV s (.bool (a.same b))):Den cx 36 [a.enc,b.enc] KV Kp s :=
 aOr _ a b s KV Kp (jB _) hk
mutual
theorem Tm.same_self:∀a:Tm,a.same a=true
 | .mk k n t s l r=>by simp[Tm.same,aEv l,aEv r]
theorem aEv:∀l:List Tm,rC l l=true
 | []=>rfl
 | a::l=>by simp[rC,Tm.same_self a,aEv l]
end
theorem aNp(m:Nat):∀(xs:List Tm) (l d:Int) (s:St) (KV Kp:St->A->Prop),SizeOf.sizeOf xs<m->(∀n:Int,KV s (.int .i64 n))->Den cx 78 [.list none (xs.map Tm.enc),.int .i64 l,.int .i64 d] KV Kp s:=by
 induction m with
 | zero=>intro xs l d s KV Kp hm;omega
 | succ m ih =>
 intro xs l d s KV Kp hm hk;refine jD λhz1=>?_
 have hlw:=hz1 _ (bY ..);(refine aO func78 [0,1,2,6,8,10,11,12,13,14,29,43] ?_;simp only[go_sem,ntmps78,f78]);(refine aQ (λh=>?_) (λh=>?_))<;>simp only[go_sem,h]
 .exact aN (hk _)
 refine Ex.loop (ι:=Int × Nat) (λc=>[(1,.int .i64 c.1),(2,.int .i64 d),(11,.list none (xs.map Tm.enc)),(12,.int .i64 xs.length),(13,.int .i64 (c.2:Nat))]) (λ_=>s)
  (λc=>c.2<=xs.length) (λc=>xs.length-c.2) (l,0) (aU _) ?_ (aM s) ?_
 ·(simp only[go_sem];try exact rfl)
 .clear h;rintro⟨l,i⟩ hi;simp only at hi;refine bG (V:=[0,1,2,6,8,10,11,12,13,14,29,43]) _ _ _ _ ?_;simp only[go_sem];(refine aQ (λh=>?_) (λh=>?_))<;>simp only[go_sem,h]
  .have hix:i<xs.length:=by simpa using h
   obtain⟨x,hx⟩:∃a,xs[i]?=some a:=⟨_,aY hix⟩
   have hxm:x∈xs:=cM hx;have hsx:=List.sizeOf_lt_of_mem hxm;have hkid:SizeOf.sizeOf x.kids<SizeOf.sizeOf x:=by cases x;simp only[Tm.kids,Tm.mk.sizeOf_spec];omega
   have hres:SizeOf.sizeOf x.rest<SizeOf.sizeOf x:=by cases x;simp only[Tm.rest,Tm.mk.sizeOf_spec];omega
   clear h;simp only[go_sem,hx,hix];(intro b8 hb8;try simp only[aI,ne_eq]at hb8);simp only[go_sem,hx,hix,hb8,Int.reduceEq];(refine aQ (λh=>?_) (λh=>?_))<;>simp only[go_sem,h,hb8]
   .exact aP (hk _) cS
   clear h;refine ih x.kids _ _ _ _ _ aB (λn1=>?_);simp only[go_sem,hb8];refine ih x.rest _ _ _ _ _ aB (λn2=>?_);simp only[go_sem,hb8];(refine aQ (λh=>?_) (λh=>?_))<;>simp only[go_sem,h,hb8]
   .exact aP (hk _) cS
   exact⟨(n2,i+1),hix,by simp only;omega,by simp only[go_sem,hlw.wrap (i:=i) (by simpa using hix)],(by(repeat (first|(refine eC ?_ ?_;focus (simp only[aI,ne_eq,dK,iT,hb8]<;>done))|exact aM _)))⟩
  .exact aN (hk _)
theorem aN1(xs:List Tm)(l d:Int)(s:St)(KV Kp:St->A->Prop)(hk:∀n:Int,KV s (.int .i64 n)):Den cx 78 [.list none (xs.map Tm.enc),.int .i64 l,.int .i64 d] KV Kp s :=
 aNp _ xs l d s KV Kp (jB _) hk
theorem aPl(xs:List Tm)(l:Int)(s:St)(KV Kp:St->A->Prop)(hk:∀b:Bool,KV s (.bool b)):Den cx 33 [.int .i64 l,.list none (xs.map Tm.enc)] KV Kp s:=by
 (refine aO func33 [0,1,4] ?_;simp only[go_sem,ntmps33,f33]);refine aN1 xs _ _ _ _ _ (λn=>?_);simp only[go_sem];exact aN (hk _)
theorem aET(s:St)(xs ys:List aC)(KV Kp)(hk:KV s (.bool (cO (λa b=>decide (a=b)) xs ys))) :
  Den cx 130 [.list none (xs.map .str),.list none (ys.map .str)] KV Kp s:=by
 refine jD λhz1=>?_
 have hlw:=hz1 _ (bY ..);(refine aO func130 [0,1,4,5,10,12,13,14,24] ?_;simp only[go_sem,ntmps130,f130])
 (first|refine kZ (λh=>?_) (λh=>?_)|refine kY (λh=>?_) (λh=>?_)|refine lA (λh=>?_) (λh=>?_))<;>simp only[go_sem,h]
 .exact aN (by rwa[pC (by intro e;simp[e]at h)]at hk)
 .have hlen:xs.length=ys.length:=by simp at h;omega
  refine Ex.loop (λi=>[(0,.list none (xs.map .str)),(1,.list none (ys.map .str)),(12,.int .i64 xs.length),(13,.int .i64 (i:Nat))]) (λ_=>s)
     (λi=>i<=xs.length/\∀(j:Nat) a b,j<i->xs[j]?=some a->ys[j]?=some b->(λa b=>decide (a=b)) a b=true) (λi=>xs.length-i) 0 ⟨aU _,λj _ _ hj=>by omega⟩ ?_ (aM s) ?_
  .simp only[go_sem];exact rfl
  .rintro i ⟨hi,hall⟩;refine bG (V:=[0,1,4,5,10,12,13,14,24]) _ _ _ _ ?_;simp only[go_sem]
   (first|refine kZ (λh=>?_) (λh=>?_)|refine kY (λh=>?_) (λh=>?_)|refine lA (λh=>?_) (λh=>?_))<;>simp only[go_sem,h]
   .have hix:i<xs.length:=by simpa using h
    have hiy:i<ys.length:=by omega
    obtain⟨a,ha⟩:∃a,xs[i]?=some a:=⟨_,aY hix⟩
    obtain⟨b,hb⟩:∃b,ys[i]?=some b:=⟨_,aY hiy⟩
    (refine bL (OT.r 0 9) [] ?_;simp only[go_sem]);simp only[go_sem,ha,hb,hix,hiy]
    (first|refine kZ (λh=>?_) (λh=>?_)|refine kY (λh=>?_) (λh=>?_)|refine lA (λh=>?_) (λh=>?_))<;>simp only[go_sem,h]
    .have hr:(λa b=>decide (a=b)) a b=false:=by simpa only[oG,fB]using h
     have:cO (λa b=>decide (a=b)) xs ys=false:=by
      rw[pZ];intro he;have:=(iK hlen).1 he i a b ha hb;exact absurd (hr.symm.trans this) aD
     exact aN (by rwa[this]at hk)
    .have hr:(λa b=>decide (a=b)) a b=true:=by simpa only[aBJ,fB]using h
     refine⟨i+1,⟨by omega,λj x y hj hx hy=>?_⟩,by omega,?_,aM s⟩
     .by_cases hji:j=i
      .subst hji;rw[ha]at hx;rw[hb]at hy;cases hx;cases hy;exact hr
      .exact hall j x y aB hx hy
     .simp only[go_sem,hlw.wrap (i:=i) (by simpa using hix)]
   .have hix:i=xs.length:=by simp at h;omega
    have:cO (λa b=>decide (a=b)) xs ys=true:=(iK hlen).2 λj x y hx hy=>hall j x y (by rw[hix];exact(dV.1 hx).1) hx hy
    exact aN (by rwa[this]at hk)
theorem aNv(s:St)(xs ys:List Int)(KV Kp)(hk:KV s (.bool (cO (λa b=>decide (a=b)) xs ys))) :
  Den cx 209 [.list none (xs.map (.int .i64)),.list none (ys.map (.int .i64))] KV Kp s:=by
 refine jD λhz1=>?_
 have hlw:=hz1 _ (bY ..);(refine aO func209 [0,1,4,5,10,12,13,14,24] ?_;simp only[go_sem,ntmps209,f209])
 (first|refine kZ (λh=>?_) (λh=>?_)|refine kY (λh=>?_) (λh=>?_)|refine lA (λh=>?_) (λh=>?_))<;>simp only[go_sem,h]
 .exact aN (by rwa[pC (by intro e;simp[e]at h)]at hk)
 .have hlen:xs.length=ys.length:=by simp at h;omega
  refine Ex.loop (λi=>[(0,.list none (xs.map (.int .i64))),(1,.list none (ys.map (.int .i64))),(12,.int .i64 xs.length),(13,.int .i64 (i:Nat))]) (λ_=>s)
     (λi=>i<=xs.length/\∀(j:Nat) a b,j<i->xs[j]?=some a->ys[j]?=some b->(λa b=>decide (a=b)) a b=true) (λi=>xs.length-i) 0 ⟨aU _,λj _ _ hj=>by omega⟩ ?_ (aM s) ?_
  .simp only[go_sem];exact rfl
  .rintro i ⟨hi,hall⟩;refine bG (V:=[0,1,4,5,10,12,13,14,24]) _ _ _ _ ?_;simp only[go_sem]
   (first|refine kZ (λh=>?_) (λh=>?_)|refine kY (λh=>?_) (λh=>?_)|refine lA (λh=>?_) (λh=>?_))<;>simp only[go_sem,h]
   .have hix:i<xs.length:=by simpa using h
    have hiy:i<ys.length:=by omega
    obtain⟨a,ha⟩:∃a,xs[i]?=some a:=⟨_,aY hix⟩
    obtain⟨b,hb⟩:∃b,ys[i]?=some b:=⟨_,aY hiy⟩
    (refine bL (OT.r 0 9) [] ?_;simp only[go_sem]);simp only[go_sem,ha,hb,hix,hiy]
    (first|refine kZ (λh=>?_) (λh=>?_)|refine kY (λh=>?_) (λh=>?_)|refine lA (λh=>?_) (λh=>?_))<;>simp only[go_sem,h]
    .have hr:(λa b=>decide (a=b)) a b=false:=by simpa only[oG,fB]using h
     have:cO (λa b=>decide (a=b)) xs ys=false:=by
      rw[pZ];intro he;have:=(iK hlen).1 he i a b ha hb;exact absurd (hr.symm.trans this) aD
     exact aN (by rwa[this]at hk)
    .have hr:(λa b=>decide (a=b)) a b=true:=by simpa only[aBJ,fB]using h
     refine⟨i+1,⟨by omega,λj x y hj hx hy=>?_⟩,by omega,?_,aM s⟩
     .by_cases hji:j=i
      .subst hji;rw[ha]at hx;rw[hb]at hy;cases hx;cases hy;exact hr
      .exact hall j x y aB hx hy
     .simp only[go_sem,hlw.wrap (i:=i) (by simpa using hix)]
   .have hix:i=xs.length:=by simp at h;omega
    have:cO (λa b=>decide (a=b)) xs ys=true:=(iK hlen).2 λj x y hx hy=>hall j x y (by rw[hix];exact(dV.1 hx).1) hx hy
    exact aN (by rwa[this]at hk)
theorem aNK(s:St)(xs ys:List Below)(KV Kp)(hk:KV s (.bool (cO (λa b=>(decide (a.low=b.low)&&decide (a.high=b.high))) xs ys))) :
  Den cx 131 [.list none (xs.map Below.enc),.list none (ys.map Below.enc)] KV Kp s:=by
 refine jD λhz1=>?_
 have hlw:=hz1 _ (bY ..);(refine aO func131 [0,1,4,5,10,12,13,14,24] ?_;simp only[go_sem,ntmps131,f131])
 (first|refine kZ (λh=>?_) (λh=>?_)|refine kY (λh=>?_) (λh=>?_)|refine lA (λh=>?_) (λh=>?_))<;>simp only[go_sem,h]
 .exact aN (by rwa[pC (by intro e;simp[e]at h)]at hk)
 .have hlen:xs.length=ys.length:=by simp at h;omega
  refine Ex.loop (λi=>[(0,.list none (xs.map Below.enc)),(1,.list none (ys.map Below.enc)),(12,.int .i64 xs.length),(13,.int .i64 (i:Nat))]) (λ_=>s)
     (λi=>i<=xs.length/\∀(j:Nat) a b,j<i->xs[j]?=some a->ys[j]?=some b->(λa b=>(decide (a.low=b.low)&&decide (a.high=b.high))) a b=true) (λi=>xs.length-i) 0 ⟨aU _,λj _ _ hj=>by omega⟩ ?_ (aM s) ?_
  .simp only[go_sem];exact rfl
  .rintro i ⟨hi,hall⟩;refine bG (V:=[0,1,4,5,10,12,13,14,24]) _ _ _ _ ?_;simp only[go_sem]
   (first|refine kZ (λh=>?_) (λh=>?_)|refine kY (λh=>?_) (λh=>?_)|refine lA (λh=>?_) (λh=>?_))<;>simp only[go_sem,h]
   .have hix:i<xs.length:=by simpa using h
    have hiy:i<ys.length:=by omega
    obtain⟨a,ha⟩:∃a,xs[i]?=some a:=⟨_,aY hix⟩
    obtain⟨b,hb⟩:∃b,ys[i]?=some b:=⟨_,aY hiy⟩
    (refine bL (OT.r 0 9) [] ?_;simp only[go_sem]);simp only[go_sem,ha,hb,hix,hiy]
    (first|refine kZ (λh=>?_) (λh=>?_)|refine kY (λh=>?_) (λh=>?_)|refine lA (λh=>?_) (λh=>?_))<;>simp only[go_sem,h]
    .have hr:(λa b=>(decide (a.low=b.low)&&decide (a.high=b.high))) a b=false:=by simpa only[oG,fB]using h
     have:cO (λa b=>(decide (a.low=b.low)&&decide (a.high=b.high))) xs ys=false:=by
      rw[pZ];intro he;have:=(iK hlen).1 he i a b ha hb;exact absurd (hr.symm.trans this) aD
     exact aN (by rwa[this]at hk)
    .have hr:(λa b=>(decide (a.low=b.low)&&decide (a.high=b.high))) a b=true:=by simpa only[aBJ,fB]using h
     refine⟨i+1,⟨by omega,λj x y hj hx hy=>?_⟩,by omega,?_,aM s⟩
     .by_cases hji:j=i
      .subst hji;rw[ha]at hx;rw[hb]at hy;cases hx;cases hy;exact hr
      .exact hall j x y aB hx hy
     .simp only[go_sem,hlw.wrap (i:=i) (by simpa using hix)]
   .have hix:i=xs.length:=by simp at h;omega
    have:cO (λa b=>(decide (a.low=b.low)&&decide (a.high=b.high))) xs ys=true:=(iK hlen).2 λj x y hx hy=>hall j x y (by rw[hix];exact(dV.1 hx).1) hx hy
    exact aN (by rwa[this]at hk)
theorem aNq(s:St)(xs ys:List Piece)(KV Kp)(hk:KV s (.bool (cO (λa b=>(decide (a.text=b.text)&&decide (a.sort=b.sort))) xs ys))) :
  Den cx 208 [.list none (xs.map Piece.enc),.list none (ys.map Piece.enc)] KV Kp s:=by
 refine jD λhz1=>?_
 have hlw:=hz1 _ (bY ..);(refine aO func208 [0,1,4,5,10,12,13,14,24] ?_;simp only[go_sem,ntmps208,f208])
 (first|refine kZ (λh=>?_) (λh=>?_)|refine kY (λh=>?_) (λh=>?_)|refine lA (λh=>?_) (λh=>?_))<;>simp only[go_sem,h]
 .exact aN (by rwa[pC (by intro e;simp[e]at h)]at hk)
 .have hlen:xs.length=ys.length:=by simp at h;omega
  refine Ex.loop (λi=>[(0,.list none (xs.map Piece.enc)),(1,.list none (ys.map Piece.enc)),(12,.int .i64 xs.length),(13,.int .i64 (i:Nat))]) (λ_=>s)
     (λi=>i<=xs.length/\∀(j:Nat) a b,j<i->xs[j]?=some a->ys[j]?=some b->(λa b=>(decide (a.text=b.text)&&decide (a.sort=b.sort))) a b=true) (λi=>xs.length-i) 0 ⟨aU _,λj _ _ hj=>by omega⟩ ?_ (aM s) ?_
  .simp only[go_sem];exact rfl
  .rintro i ⟨hi,hall⟩;refine bG (V:=[0,1,4,5,10,12,13,14,24]) _ _ _ _ ?_;simp only[go_sem]
   (first|refine kZ (λh=>?_) (λh=>?_)|refine kY (λh=>?_) (λh=>?_)|refine lA (λh=>?_) (λh=>?_))<;>simp only[go_sem,h]
   .have hix:i<xs.length:=by simpa using h
    have hiy:i<ys.length:=by omega
    obtain⟨a,ha⟩:∃a,xs[i]?=some a:=⟨_,aY hix⟩
    obtain⟨b,hb⟩:∃b,ys[i]?=some b:=⟨_,aY hiy⟩
    (refine bL (OT.r 0 9) [] ?_;simp only[go_sem]);simp only[go_sem,ha,hb,hix,hiy]
    (first|refine kZ (λh=>?_) (λh=>?_)|refine kY (λh=>?_) (λh=>?_)|refine lA (λh=>?_) (λh=>?_))<;>simp only[go_sem,h]
    .have hr:(λa b=>(decide (a.text=b.text)&&decide (a.sort=b.sort))) a b=false:=by simpa only[oG,fB]using h
     have:cO (λa b=>(decide (a.text=b.text)&&decide (a.sort=b.sort))) xs ys=false:=by
      rw[pZ];intro he;have:=(iK hlen).1 he i a b ha hb;exact absurd (hr.symm.trans this) aD
     exact aN (by rwa[this]at hk)
    .have hr:(λa b=>(decide (a.text=b.text)&&decide (a.sort=b.sort))) a b=true:=by simpa only[aBJ,fB]using h
     refine⟨i+1,⟨by omega,λj x y hj hx hy=>?_⟩,by omega,?_,aM s⟩
     .by_cases hji:j=i
      .subst hji;rw[ha]at hx;rw[hb]at hy;cases hx;cases hy;exact hr
      .exact hall j x y aB hx hy
     .simp only[go_sem,hlw.wrap (i:=i) (by simpa using hix)]
   .have hix:i=xs.length:=by simp at h;omega
    have:cO (λa b=>(decide (a.text=b.text)&&decide (a.sort=b.sort))) xs ys=true:=(iK hlen).2 λj x y hx hy=>hall j x y (by rw[hix];exact(dV.1 hx).1) hx hy
    exact aN (by rwa[this]at hk)
theorem aEH(a b:Tm)(s:St)(KV Kp)(hk:KV s (.bool (a.same b))):Den cx 36 [.agg a.cs,.agg b.cs] KV Kp s:=by
 have:=aHO a b s KV Kp hk
 rwa[dH,dH]at this
theorem aBM(xs ys:List Tm)(s:St)(KV Kp)(hk:KV s (.bool (cO Tm.same xs ys))):Den cx 134 [.list none (xs.map Tm.enc),.list none (ys.map Tm.enc)] KV Kp s:=by
 (refine aO func134 [0,1,4] ?_;simp only[go_sem,ntmps134,f134]);refine aEB Tm.enc Tm.same 36 [] [] _ _ _ _ _ Tm.hz6 (λx y s' KV' Kp' hx hy hs h'=>aHO x y s' KV' Kp' h') ?_;simp only[go_sem];exact aN hk
def Eqn.same(a b:Eqn):Bool:=a.left.same b.left&&(a.right.same b.right&&cO Tm.same a.cond b.cond)
theorem aNP(a b:Eqn)(s:St)(KV Kp)(hk:KV s (.bool (a.same b))):Den cx 70 [a.enc,b.enc] KV Kp s:=by
 unfold Eqn.same at hk;simp only[go_sem];(refine aO func70 [0,1,2,3,4] ?_;simp only[go_sem,ntmps70,f70]);(intro p hp;try simp only[aI,ne_eq]at hp);simp only[go_sem,hp];(intro q hq;try simp only[aI,ne_eq]at hq);simp only[go_sem,hp,hq]
 (repeat' (first|exact aP hk cS|(refine aEH _ _ _ _ _ ?_;simp only[go_sem,hp,hq])|(refine aBM _ _ _ _ _ ?_;simp only[go_sem,hp,hq])|((first|refine kZ (λh=>?_) (λh=>?_)|refine kY (λh=>?_) (λh=>?_)|refine lA (λh=>?_) (λh=>?_))<;>simp only[go_sem,h,hp,hq]<;>(try simp only[h,eW,eU,fB,fG,jN,jT,jM,iJ,eV,fM]at hk))))
def Cel.same(a b:Cel):Bool:=decide (a.name=b.name)&&(decide (a.sort=b.sort)&&a.init.same b.init)
theorem aNL(a b:Cel)(s:St)(KV Kp)(hk:KV s (.bool (a.same b))):Den cx 72 [a.enc,b.enc] KV Kp s:=by
 unfold Cel.same at hk;simp only[go_sem];(refine aO func72 [0,1,2,3,4] ?_;simp only[go_sem,ntmps72,f72]);(intro p hp;try simp only[aI,ne_eq]at hp);simp only[go_sem,hp];(intro q hq;try simp only[aI,ne_eq]at hq);simp only[go_sem,hp,hq]
 (repeat' (first|exact aP hk cS|(refine aEH _ _ _ _ _ ?_;simp only[go_sem,hp,hq])|((first|refine kZ (λh=>?_) (λh=>?_)|refine kY (λh=>?_) (λh=>?_)|refine lA (λh=>?_) (λh=>?_))<;>simp only[go_sem,h,hp,hq]<;>(try simp only[h,eW,eU,fB,fG,jN,jT,jM,iJ,eV,fM]at hk))))
def Part.same(a b:Part):Bool:=decide (a.cell=b.cell)&&(decide (a.at_=b.at_)&&(a.left.same b.left&&cO Tm.same a.right b.right))
theorem aM5(a b:Part)(s:St)(KV Kp)(hk:KV s (.bool (a.same b))):Den cx 137 [a.enc,b.enc] KV Kp s:=by
 unfold Part.same at hk;simp only[go_sem];(refine aO func137 [0,1,2,3,4] ?_;simp only[go_sem,ntmps137,f137]);(intro p hp;try simp only[aI,ne_eq]at hp);simp only[go_sem,hp];(intro q hq;try simp only[aI,ne_eq]at hq);simp only[go_sem,hp,hq]
 (repeat' (first|exact aP hk cS|(refine aEH _ _ _ _ _ ?_;simp only[go_sem,hp,hq])|(refine aBM _ _ _ _ _ ?_;simp only[go_sem,hp,hq])|((first|refine kZ (λh=>?_) (λh=>?_)|refine kY (λh=>?_) (λh=>?_)|refine lA (λh=>?_) (λh=>?_))<;>simp only[go_sem,h,hp,hq]<;>(try simp only[h,eW,eU,fB,fG,jN,jT,jM,iJ,eV,fM]at hk))))
def Fresh.same(a b:Fresh):Bool:=cO Tm.same a.cells b.cells
theorem aMR(a b:Fresh)(s:St)(KV Kp)(hk:KV s (.bool (a.same b))):Den cx 135 [a.enc,b.enc] KV Kp s:=by
 unfold Fresh.same at hk;simp only[go_sem];(refine aO func135 [0,1,2,3,4] ?_;simp only[go_sem,ntmps135,f135]);(intro p hp;try simp only[aI,ne_eq]at hp);simp only[go_sem,hp];(intro q hq;try simp only[aI,ne_eq]at hq);simp only[go_sem,hp,hq]
 (repeat' (first|exact aP hk cS|(refine aBM _ _ _ _ _ ?_;simp only[go_sem,hp,hq])|((first|refine kZ (λh=>?_) (λh=>?_)|refine kY (λh=>?_) (λh=>?_)|refine lA (λh=>?_) (λh=>?_))<;>simp only[go_sem,h,hp,hq]<;>(try simp only[h,eW,eU,fB,fG,jN,jT,jM,iJ,eV,fM]at hk))))
theorem Eqn.hz(a:Eqn):∃cs,a.enc=.agg cs/\cs.length=15/\fP cs=true:=⟨_,rfl,rfl,rfl⟩
theorem Cel.hz(a:Cel):∃cs,a.enc=.agg cs/\cs.length=10/\fP cs=true:=⟨_,rfl,rfl,rfl⟩
theorem Part.hz(a:Part):∃cs,a.enc=.agg cs/\cs.length=11/\fP cs=true:=⟨_,rfl,rfl,rfl⟩
theorem Fresh.hz(a:Fresh):∃cs,a.enc=.agg cs/\cs.length=1/\fP cs=true:=⟨_,rfl,rfl,rfl⟩
theorem Rul.hz(a:Rul):∃cs,a.enc=.agg cs/\cs.length=7/\fP cs=true:=⟨_,rfl,rfl,rfl⟩
theorem Opr.hz(a:Opr):∃cs,a.enc=.agg cs/\cs.length=7/\fP cs=true:=⟨_,rfl,rfl,rfl⟩
def Rul.same(a b:Rul):Bool:=decide (a.name=b.name)&&(cO Part.same a.parts b.parts&&(cO Tm.same a.cond b.cond&&(cO Fresh.same a.new b.new&&cO (λa b=>decide (a=b)) a.drop b.drop)))
theorem aNN(a b:Rul)(s:St)(KV Kp)(hk:KV s (.bool (a.same b))):Den cx 74 [a.enc,b.enc] KV Kp s:=by
 unfold Rul.same at hk;simp only[go_sem];(refine aO func74 [0,1,2,3,4,5] ?_;simp only[go_sem,ntmps74,f74]);(intro p hp;try simp only[aI,ne_eq]at hp);simp only[go_sem,hp];(intro q hq;try simp only[aI,ne_eq]at hq);simp only[go_sem,hp,hq]
 (repeat' (first|exact aP hk cS|(refine aBM _ _ _ _ _ ?_;simp only[go_sem,hp,hq])|(refine aET _ _ _ _ _ ?_;simp only[go_sem,hp,hq])|(refine aMX Part.enc Part.same 137 [] [] _ _ _ _ _ Part.hz (λx y s' KV' Kp' hx hy hs h'=>aM5 x y s' KV' Kp' h') ?_;simp only[go_sem,hp,hq])|(refine aMK Fresh.enc Fresh.same 135 [] [] _ _ _ _ _ Fresh.hz (λx y s' KV' Kp' hx hy hs h'=>aMR x y s' KV' Kp' h') ?_;simp only[go_sem,hp,hq])|((first|refine kZ (λh=>?_) (λh=>?_)|refine kY (λh=>?_) (λh=>?_)|refine lA (λh=>?_) (λh=>?_))<;>simp only[go_sem,h,hp,hq]<;>(try simp only[h,eW,eU,fB,fG,jN,jT,jM,iJ,eV,fM]at hk))))
def Opr.same(a b:Opr):Bool:=decide (a.name=b.name)&&(decide (a.sort=b.sort)&&(decide (a.prec=b.prec)&&(decide (a.assoc=b.assoc)&&(cO (λa b=>decide (a=b)) a.args b.args&&(cO (λa b=>decide (a.text=b.text)&&decide (a.sort=b.sort)) a.pieces b.pieces&&cO (λa b=>decide (a=b)) a.strict b.strict)))))
theorem aNs(a b:Opr)(s:St)(KV Kp)(hk:KV s (.bool (a.same b))):Den cx 133 [a.enc,b.enc] KV Kp s:=by
 unfold Opr.same at hk;simp only[go_sem];(refine aO func133 [0,1,2,3,4] ?_;simp only[go_sem,ntmps133,f133]);(intro p hp;try simp only[aI,ne_eq]at hp);simp only[go_sem,hp];(intro q hq;try simp only[aI,ne_eq]at hq);simp only[go_sem,hp,hq]
 (repeat' (first|exact aP hk cS|(refine aET _ _ _ _ _ ?_;simp only[go_sem,hp,hq])|(refine aNq _ _ _ _ _ ?_;simp only[go_sem,hp,hq])|(refine aNv _ _ _ _ _ ?_;simp only[go_sem,hp,hq])|((first|refine kZ (λh=>?_) (λh=>?_)|refine kY (λh=>?_) (λh=>?_)|refine lA (λh=>?_) (λh=>?_))<;>simp only[go_sem,h,hp,hq]<;>(try simp only[h,eW,eU,fB,fG,jN,jT,jM,iJ,eV,fM]at hk))))
def Sig.same(a b:Sig):Bool:=cO (λa b=>decide (a=b)) a.sorts b.sorts&&(cO (λa b=>decide (a.low=b.low)&&decide (a.high=b.high)) a.below b.below&&(cO (λa b=>decide (a=b)) a.values b.values&&(cO Opr.same a.ops b.ops&&cO Opr.same a.funs b.funs)))
theorem aNG(a b:Sig)(s:St)(KV Kp)(hk:KV s (.bool (a.same b))):Den cx 68 [a.enc,b.enc] KV Kp s:=by
 unfold Sig.same at hk;simp only[go_sem];(refine aO func68 [0,1,2,3,4] ?_;simp only[go_sem,ntmps68,f68]);(intro p hp;try simp only[aI,ne_eq]at hp);simp only[go_sem,hp];(intro q hq;try simp only[aI,ne_eq]at hq);simp only[go_sem,hp,hq]
 (repeat' (first|exact aP hk cS|(refine aET _ _ _ _ _ ?_;simp only[go_sem,hp,hq])|(refine aNK _ _ _ _ _ ?_;simp only[go_sem,hp,hq])|(refine aMO Opr.enc Opr.same 133 [] [] _ _ _ _ _ Opr.hz (λx y s' KV' Kp' hx hy hs h'=>aNs x y s' KV' Kp' h') ?_;simp only[go_sem,hp,hq])|((first|refine kZ (λh=>?_) (λh=>?_)|refine kY (λh=>?_) (λh=>?_)|refine lA (λh=>?_) (λh=>?_))<;>simp only[go_sem,h,hp,hq]<;>(try simp only[h,eW,eU,fB,fG,jN,jT,jM,iJ,eV,fM]at hk))))
def Dfn.same(a b:Dfn):Bool:=decide (a.name=b.name)&&(decide (a.kind=b.kind)&&(decide (a.start=b.start)&&(decide (a.watch=b.watch)&&(a.sig.same b.sig&&(cO Eqn.same a.eqs b.eqs&&(cO Cel.same a.once b.once&&(cO Cel.same a.many b.many&&cO Rul.same a.rules b.rules)))))))
theorem aBY(a b:Dfn)(s:St)(KV Kp)(hk:KV s (.bool (a.same b))):Den cx 30 [a.enc,b.enc] KV Kp s:=by
 unfold Dfn.same at hk;simp only[go_sem];(refine aO func30 [0,1,2,3,4,5] ?_;simp only[go_sem,ntmps30,f30]);(intro p hp;try simp only[aI,ne_eq]at hp);simp only[go_sem,hp];(intro q hq;try simp only[aI,ne_eq]at hq);simp only[go_sem,hp,hq]
 (repeat' (first|exact aP hk cS|(refine aNG _ _ _ _ _ ?_;simp only[go_sem,hp,hq])|(refine aM8 Eqn.enc Eqn.same 70 [] [] _ _ _ _ _ Eqn.hz (λx y s' KV' Kp' hx hy hs h'=>aNP x y s' KV' Kp' h') ?_;simp only[go_sem,hp,hq])|(refine aM7 Cel.enc Cel.same 72 [] [] _ _ _ _ _ Cel.hz (λx y s' KV' Kp' hx hy hs h'=>aNL x y s' KV' Kp' h') ?_;simp only[go_sem,hp,hq])|(refine aNg Rul.enc Rul.same 74 [] [] _ _ _ _ _ Rul.hz (λx y s' KV' Kp' hx hy hs h'=>aNN x y s' KV' Kp' h') ?_;simp only[go_sem,hp,hq])|((first|refine kZ (λh=>?_) (λh=>?_)|refine kY (λh=>?_) (λh=>?_)|refine lA (λh=>?_) (λh=>?_))<;>simp only[go_sem,h,hp,hq]<;>(try simp only[h,eW,eU,fB,fG,jN,jT,jM,iJ,eV,fM]at hk))))
def ev(tk:Option Nat)(es:List A):A:=match tk with
 | none=>.emp
 | some t=>.list (some t) es
@[go_sem] theorem aU6(tk:Option Nat)(es:List A):(ev tk es).cells=[ev tk es]:=by cases tk<;>rfl
@[go_sem] theorem aVW(tk:Option Nat)(es:List A):(ev tk es).one=true:=by cases tk<;>rfl
@[go_sem] theorem aWd(s:St)(tk:Option Nat)(es:List A):jI s (ev tk es)=ev tk es:=by cases tk<;>rfl
theorem aKu{tk:Option Nat}{es:List A}(h:tk=none->es=[]):mK (ev tk es)=some (.int .i64 es.length):=by
 cases tk with
 | none=>rw[h rfl];rfl
 | some t=>rfl
theorem aCT{s:St}{e:TypeId}{te:TI}{ys:List A}{KV:St->A->Prop}{tk:Option Nat}{es:List A}(hn:tk=none->es=[])(hg:∀t,tk=some t->s.getT t=some (es.length,e))
  (he:∀y,y∈es->y.cells.length=te.sz)(hl:es.length+ys.length<=4294967296)
  (hK:∀tk',(tk'=none->es++ys=[])->(∀t,tk'=some t->tk=some t\/s.getT t=none)->KV (gs s tk' (es.length+ys.length) e) (ev tk' (es++ys))):qP cx s e te ys KV (ev tk es):=by
 cases tk with
 | none =>
  have h0:=hn rfl;subst h0;cases ys with
  | nil=>exact hK none (λ_=>rfl) (λt h=>by cases h)
  | cons y r =>
   refine⟨⟨by simpa using hl,Nat.succ_pos _⟩,λt ht=>?_⟩;have:=hK (some t) (λh=>by cases h) (λu hu=>by cases hu;exact .inr ht);simpa [gs,ev]using this
 | some t=>exact⟨hg t rfl,he,hl,hK (some t) (λh=>by cases h) (λu hu=>.inl hu)⟩
theorem aK0{S s:St}{tk1 tk2:Option Nat}{n1 n2:Nat}{e:TypeId}(hs:S.ge s)(h1:∀t,tk1=some t->(none:Option Nat)=some t\/S.getT t=none)(h2:∀t,tk2=some t->tk1=some t\/∃n,(gs S tk1 n e).getT t=none) :
  (gs (gs S tk1 n1 e) tk2 n2 e).ge s:=by
 have f1:∀t,tk1=some t->S.getT t=none:=λt h=>(h1 t h).elim (λh=>by cases h) id
 refine⟨λb o ho=>by rw[aZ,aZ];exact hs.ob b o ho,λt m hm=>?_,λx hx=>by cases tk1<;>cases tk2<;>exact hs.ls x hx⟩;have h3:=hs.tk t m hm;have g1:tk1≠some t:=λh=>by rw[f1 t h]at h3;cases h3
 have g2:tk2≠some t:=λh=>by
  rcases h2 t h with h|⟨n,h⟩
  .exact g1 h
  .rw[iD,if_neg g1,h3]at h;cases h
 rw[iD,if_neg g2,iD,if_neg g1];exact h3
theorem aF2{l:List Opr}{y:A}(hy:y∈l.map Opr.enc):y.cells.length=7:=by
 obtain⟨z,_,rfl⟩:=cC.1 hy;rfl
theorem aPH(x:Sig)(hB:x.ops.length+x.funs.length<=4294967296)(s:St)(KV Kp:St->A->Prop)(hk:∀b:Bool,KV s (.bool b)):Den cx 48 [.agg x.cs] KV Kp s:=by
 simp only[go_sem];(refine aO func48 [0,1,2,3,5,31,38,39,40,41,58] ?_;simp only[go_sem,ntmps48,f48]);(intro p hp;try simp only[aI,ne_eq]at hp);simp only[go_sem,hp];(refine aQ (λh=>?_) (λh=>?_))<;>simp only[go_sem,h,hp]
 .exact aP (hk _) cS
 clear h;(refine aQ (λh=>?_) (λh=>?_))<;>simp only[go_sem,h,hp]
 .exact aP (hk _) cS
 clear h;(refine aQ (λh=>?_) (λh=>?_))<;>simp only[go_sem,h,hp]
 .exact aP (hk _) cS
 clear h;(refine aQ (λh=>?_) (λh=>?_))<;>simp only[go_sem,h,hp]
 .exact aP (hk _) cS
 clear h;(refine bL (OT.l [0,1,2,4,5,8,3,6,7] .nil) [(3,[5])] ?_;simp only[go_sem,hp]);refine⟨by decide,λy hy=>aF2 hy,aCT (tk:=none) (es:=[]) (λ_=>rfl) (λt h=>by cases h) (λy hy=>by cases hy) (by simp only[aH,aF];omega) (λtk1 hn1 hf1=>?_)⟩;simp only[go_sem,hp];refine⟨by decide,λy hy=>aF2 hy,aCT (λh=>by simpa using hn1 h) (λt ht=>by rw[aFL t ht];simp) (λy hy=>aF2 (by simpa using hy)) (by simp only[aH,aF,aW];omega) (λtk2 hn2 hf2=>?_)⟩;simp only[go_sem,hp,aKu hn2]
 have hn2':tk2=none->x.ops++x.funs=[]:=λh=>by
  have:=hn2 h;simpa using this
 have hV:∀(i:Nat) (o:Opr),(x.ops++x.funs)[i]?=some o->∃t,ev tk2 (List.map Opr.enc x.ops++List.map Opr.enc x.funs)=.list (some t) ((x.ops++x.funs).map Opr.enc):=λi o ho=>by
  cases tk2 with
  | none =>
   rw[hn2' rfl]at ho;cases ho
  | some t=>exact⟨t,by rw[cV];rfl⟩
 refine Ex.loop (ι:=Int × Nat) (λc=>[(3,.int .i64 c.1),(38,ev tk2 (List.map Opr.enc x.ops++List.map Opr.enc x.funs)),(39,.int .i64 ((x.ops++x.funs).length:Nat)),(40,.int .i64 (c.2:Nat))]) (λ_=>s)
  (λc=>c.2<=(x.ops++x.funs).length) (λc=>(x.ops++x.funs).length-c.2) (0,0) (aU _) ?_ ?_ ?_
 ·(simp only[go_sem,hp];try simp)
 .exact aK0 cS hf1 (λt h=>(hf2 t h).imp id (λh=>⟨_,h⟩))
 .rintro⟨n,i⟩ hi;simp only at hi;refine bG (V:=[0,1,2,3,5,31,38,39,40,41,58]) _ _ _ _ ?_;simp only[go_sem];(refine aQ (λh=>?_) (λh=>?_))<;>simp only[go_sem,h]
  .have hix:i<(x.ops++x.funs).length:=by simpa using h
   clear h;obtain⟨o,ho⟩:∃a,(x.ops++x.funs)[i]?=some a:=⟨_,aY hix⟩
   obtain⟨t,ht⟩:=hV i o ho;simp only[go_sem,ht,ho,hix];(intro b5 hb5;try simp only[aI,ne_eq]at hb5);simp only[go_sem,ht,ho,hix,hb5];(refine aQ (λh=>?_) (λh=>?_))<;>simp only[go_sem,h,hb5]
   .exact aP (hk _) cS
   clear h;exact⟨(_,i+1),hix,by simp only;omega,⟨rfl,cF i (by rw[aG]at hix;omega)⟩,(by(repeat (first|(refine eC ?_ ?_;focus (simp only[aI,ne_eq,dK,iT,hb5]<;>done))|exact aM _)))⟩
  .exact aN (hk _)
theorem aQA(x:Tm):x.enc.cells.length=6:=by rw[dH];rfl
theorem nS{l:List Tm}{y:A}(hy:y∈l.map Tm.enc):y.cells.length=6:=by
 obtain⟨z,_,rfl⟩:=cC.1 hy;exact aQA z
def tD(e:Eqn):Nat:=2+e.cond.length
def yC(p:Part):Nat:=1+p.right.length
def yO(r:Rul):Nat:=(r.parts.map yC).sum+(r.cond.length+(r.new.map λf=>f.cells.length).sum)
def yH(d:Dfn):Nat:=(d.eqs.map tD).sum+(d.once.length+(d.many.length+(d.rules.map yO).sum))
theorem aIK{α:Type}{l:List α}{i:Nat}{x:α}(h:l[i]?=some x):l.drop i=x::l.drop (i+1):=by
 obtain⟨hi,rfl⟩:=dV.1 h;exact yS hi
theorem aCD{α:Type}{f:α->Nat}{l:List α}{i:Nat}{x:α}(h:l[i]?=some x):((l.drop i).map f).sum=f x+((l.drop (i+1)).map f).sum:=by
 rw[aIK h,bS,List.sum_cons]
theorem aCf(s:St)(t:Nat)(v w:Nat × TypeId):(s.setT t v).setT t w=s.setT t w:=by simp only[St.setT,aC9]
theorem xT{l:List Cel}{y:A}(hy:y∈l.map Cel.enc):y.cells.length=10:=by
 obtain⟨z,_,rfl⟩:=cC.1 hy;rfl
def qR(s:St)(l:List Tm)(tk:Option Nat):Prop:=(tk=none->l=[])/\∀t,tk=some t->s.getT t=none
theorem aNV(x:Dfn)(hB:yH x<=4294967296)(s:St)(KV Kp:St->A->Prop)(hk:∀xs:List Tm,KV s (.list none (xs.map Tm.enc))):Den cx 49 [.agg x.cs] KV Kp s:=by
 refine jD λhz1=>?_
 have hza:=hz1 _ (bY ..);have hw1:Rlz (.list none (x.eqs.map Eqn.enc)):=hza.cell (by simp[Dfn.cs]);have hw2:Rlz (.list none (x.rules.map Rul.enc)):=hza.cell (by simp[Dfn.cs]);clear hz1;unfold yH at hB;simp only[go_sem];(refine aO func49 [0,1,2,3,5,7,9,11,13,15,16,17,18,38,39,40,41,51,52,53,54,58,59,60,61,78,79,80,81] ?_;simp only[go_sem,ntmps49,f49]);(intro p hp;try simp only[aI,ne_eq]at hp);simp only[go_sem,hp]
 refine Ex.loop (ι:=(List Tm × Option Nat) × Nat) (λc=>[(1,.ptr p 0),(3,gv c.1.2 (c.1.1.map Tm.enc)),(15,.list none (x.eqs.map Eqn.enc)),(16,.int .i64 x.eqs.length),(17,.int .i64 (c.2:Nat))])
  (λc=>gs (s.setO p (.cells 33 x.cs)) c.1.2 c.1.1.length 43)
  (λc=>qR s c.1.1 c.1.2/\c.2<=x.eqs.length/\c.1.1.length+((x.eqs.drop c.2).map tD).sum<=(x.eqs.map tD).sum) (λc=>x.eqs.length-c.2) (([],none),0) ⟨⟨λ_=>rfl,λt e=>(by cases e)⟩,aU _,by simp⟩ ?_ (by exact aM _) ?_
 ·(simp only[go_sem,hp];try exact⟨rfl,rfl⟩)
 ·rintro ⟨⟨l,tk⟩,i⟩ ⟨⟨hnil,hfree⟩,hi,hl⟩;simp only at hnil hfree hi hl;refine bG (V := [0,1,2,3,5,7,9,11,13,15,16,17,18,38,39,40,41,51,52,53,54,58,59,60,61,78,79,80,81]) _ _ _ _ ?_;simp only [go_sem,hp];(refine aQ (fun h => ?_) (fun h => ?_)) <;> simp only [go_sem,h,hp]
  .have hix:i<x.eqs.length:=by simpa using h
   clear h;obtain⟨e,he⟩:∃a,x.eqs[i]?=some a:=⟨_,aY hix⟩
   have hsd:=aCD (f:=tD) he;have hew:tD e=2+e.cond.length:=rfl;simp only[go_sem,hp,he,hix];(intro b5 hb5;try simp only[aZ,aI,ne_eq]at hb5);simp only[go_sem,hp,he,hix,hb5];(refine bL (OT.l [0,1,2,3,4,5,7,8,6,9,10] .nil) [(6,[8])] ?_;simp only[go_sem,hp,he,hix,hb5]);refine⟨by decide,λy hy=>?_,dY rfl rfl (by rw[aH];exact iF λe=>by rw[hnil e];rfl) (λy hy=>nS hy) (by simp only[aH,aE,aF];omega) (λu hu=>?_)⟩
   .simp only[eB,List.mem_nil_iff,fH]at hy;rcases hy with rfl|rfl<;>rfl
   have hfu:=gD hu hfree;rw[fO hu];simp only[go_sem,hp,he,hix,hb5];refine⟨by decide,λy hy=>nS hy,by simp only[aG,aH,aE,aF],λy hy=>?_,by simp only[aG,aH,aE,aF];omega,?_⟩
   .simp only[cW,eB,List.mem_nil_iff,fH]at hy;rcases hy with hy|rfl|rfl
    .exact nS hy
    .rfl
    .rfl
   refine⟨((l++[e.left,e.right]++e.cond,some u),i+1),⟨⟨λh=>(by cases h),λt h=>by cases h;exact hfu⟩,hix,by simp only[aG,aE,aF];omega⟩,by simp only;omega,?_,?_⟩
   .simp only[go_sem,hw1.wrap (i:=i) (by simpa using hix),dO,cV]
   .have e1:∀a b:A,(List.map Tm.enc l++[a,b]).length+e.cond.length=(l++[e.left,e.right]++e.cond).length:=λa b=>by simp only[aG,aH,aE,aF]
    rw[aCf,e1];exact jU (by(repeat (first|(refine eC ?_ ?_;focus (simp only[aI,ne_eq,dK,iT,hp,hb5]<;>done))|exact aM _)))
  ·clear h;(refine bL (OT.l [0,1,2,4,5,8,3,6,7] .nil) [(3,[5])] ?_; simp only [go_sem,hp]);refine ⟨by decide,fun y hy => xT hy,aCT (tk := none) (es := []) (fun _ => rfl) (fun t h => by cases h) (fun y hy => by cases hy) (by simp only [aH,aF]; omega) (fun tk1 hn1 hf1 => ?_)⟩;simp only [go_sem,hp];refine ⟨by decide,fun y hy => xT hy,aCT (fun h => by simpa using hn1 h) (fun t ht => by rw [aFL t ht]; simp) (fun y hy => xT (by simpa using hy)) (by simp only [aH,aF,aW]; omega) (fun tk2 hn2 hf2 => ?_)⟩;simp only [go_sem,hp,aKu hn2]
   have hn2':tk2=none->x.once++x.many=[]:=λh=>by
    have:=hn2 h;simpa using this
   have hV:∀(i:Nat) (o:Cel),(x.once++x.many)[i]?=some o->∃t,ev tk2 (List.map Cel.enc x.once++List.map Cel.enc x.many)=.list (some t) ((x.once++x.many).map Cel.enc):=λi o ho=>by
    cases tk2 with
    | none =>
     rw[hn2' rfl]at ho;cases ho
    | some t=>exact⟨t,by rw[cV];rfl⟩
   have hlE:l.length<=(x.eqs.map tD).sum:=by omega
   have hVl:(x.once++x.many).length=x.once.length+x.many.length:=aG
   refine Ex.loop (ι:=(List Tm × Option Nat) × Nat) (λc=>[(1,.ptr p 0),(3,gv c.1.2 (c.1.1.map Tm.enc)),(38,ev tk2 (List.map Cel.enc x.once++List.map Cel.enc x.many)),(39,.int .i64 ((x.once++x.many).length:Nat)),(40,.int .i64 (c.2:Nat))])
    (λc=>gs (s.setO p (.cells 33 x.cs)) c.1.2 c.1.1.length 43)
    (λc=>qR s c.1.1 c.1.2/\c.2<=(x.once++x.many).length/\c.1.1.length<=(x.eqs.map tD).sum+c.2) (λc=>(x.once++x.many).length-c.2) ((l,tk),0) ⟨⟨hnil,hfree⟩,aU _,hlE⟩ ?_ (by exact aK0 (aM _) hf1 (λt h=>(hf2 t h).imp id (λh=>⟨_,h⟩))) ?_
   ·(simp only[go_sem,hp];try simp)
   .clear hf2 hf1 hn1 hnil hfree hl hi hn2 hlE;rintro⟨⟨l,tk⟩,i⟩ ⟨⟨hnil,hfree⟩,hi,hl⟩;simp only at hnil hfree hi hl;refine bG (V:=[0,1,2,3,5,7,9,11,13,15,16,17,18,38,39,40,41,51,52,53,54,58,59,60,61,78,79,80,81]) _ _ _ _ ?_;simp only[go_sem,hp];(refine aQ (λh=>?_) (λh=>?_))<;>simp only[go_sem,h,hp]
    .have hix:i<(x.once++x.many).length:=by simpa using h
     clear h;obtain⟨o,ho⟩:∃a,(x.once++x.many)[i]?=some a:=⟨_,aY hix⟩
     obtain⟨t,ht⟩:=hV i o ho;simp only[go_sem,hp,ht,ho,hix];(intro b7 hb7;try simp only[aZ,aI,ne_eq]at hb7);simp only[go_sem,hp,ht,ho,hix,hb7];refine⟨by decide,λy hy=>by simp only[bW]at hy;subst hy;rfl,dY rfl rfl (by rw[aH];exact iF λe=>by rw[hnil e];rfl) (λy hy=>nS hy) (by simp only[aH,aE,aF];omega) (λu hu=>?_)⟩;have hfu:=gD hu hfree;rw[fO hu];simp only[go_sem,hp,ht,ho,hix,hb7];refine⟨((l++[o.init],some u),i+1),⟨⟨λh=>(by cases h),λt h=>by cases h;exact hfu⟩,hix,by simp only[aG,aE,aF];omega⟩,by simp only;omega,?_,?_⟩
     .simp only[go_sem,cF i aB,dO,cV]
     .rw[show l.length+1=(l++[o.init]).length by simp only[aG,aE,aF]];exact jU (by(repeat (first|(refine eC ?_ ?_;focus (simp only[aI,ne_eq,dK,iT,hp,hb7]<;>done))|exact aM _)))
    .clear h;have hlE:l.length<=(x.eqs.map tD).sum+(x.once.length+x.many.length):=by omega
     clear hi hl
     refine Ex.loop (ι:=(List Tm × Option Nat) × Nat) (λc=>[(3,gv c.1.2 (c.1.1.map Tm.enc)),(51,.list none (x.rules.map Rul.enc)),(52,.int .i64 x.rules.length),(53,.int .i64 (c.2:Nat))])
      (λc=>gs s c.1.2 c.1.1.length 43)
      (λc=>qR s c.1.1 c.1.2/\c.2<=x.rules.length/\c.1.1.length+((x.rules.drop c.2).map yO).sum<=4294967296) (λc=>x.rules.length-c.2) ((l,tk),0) ⟨⟨hnil,hfree⟩,aU _,by simp only[rY];omega⟩ ?_ ?_ ?_
     ·(simp only[go_sem,hp];first|done|exact rfl|exact⟨rfl,rfl⟩)
     .exact pQ (aCi (tU hp (xI _ _ _)))
     .clear hnil hfree hlE;rintro⟨⟨l,tk⟩,i⟩ ⟨⟨hnil,hfree⟩,hi,hl⟩;simp only at hnil hfree hi hl;refine bG (V:=[0,1,2,3,5,7,9,11,13,15,16,17,18,38,39,40,41,51,52,53,54,58,59,60,61,78,79,80,81]) _ _ _ _ ?_;simp only[go_sem];(refine aQ (λh=>?_) (λh=>?_))<;>simp only[go_sem,h]
      .have hix:i<x.rules.length:=by simpa using h
       clear h;obtain⟨r,hr⟩:∃a,x.rules[i]?=some a:=⟨_,aY hix⟩
       have hsd:=aCD (f:=yO) hr;have hrw:yO r=(r.parts.map yC).sum+(r.cond.length+(r.new.map λf=>f.cells.length).sum):=rfl;simp only[go_sem,hr,hix];(intro b9 hb9;try simp only[aZ,aI,ne_eq]at hb9);simp only[go_sem,hr,hix,hb9];have hzr:Rlz (.agg r.cs):=hw2.agg_elem (cC.2 ⟨r,cM hr,rfl⟩);have hw3:Rlz (.list none (r.parts.map Part.enc)):=hzr.cell (by simp[Rul.cs]);have hw4:Rlz (.list none (r.new.map Fresh.enc)):=hzr.cell (by simp[Rul.cs]);rw[hsd,hrw]at hl;clear hsd hrw;have hiw:IntKind.i64.wrap ((i:Int)+1)=((i+1:Nat):Int):=hw2.wrap (i:=i) (by simpa using hix);generalize hR:((x.rules.drop (i+1)).map yO).sum=R at hl
       refine Ex.loop (ι:=(List Tm × Option Nat) × Nat) (λc=>[(3,gv c.1.2 (c.1.1.map Tm.enc)),(9,.ptr b9 0),(51,.list none (x.rules.map Rul.enc)),(52,.int .i64 x.rules.length),(53,.int .i64 (i:Nat)),(58,.list none (r.parts.map Part.enc)),(59,.int .i64 r.parts.length),(60,.int .i64 (c.2:Nat))])
        (λc=>gs (s.setO b9 (.cells 84 r.cs)) c.1.2 c.1.1.length 43)
        (λc=>qR s c.1.1 c.1.2/\c.2<=r.parts.length/\c.1.1.length+(((r.parts.drop c.2).map yC).sum+(r.cond.length+(r.new.map λf=>f.cells.length).sum)+R)<=4294967296) (λc=>r.parts.length-c.2) ((l,tk),0) ⟨⟨hnil,hfree⟩,aU _,by simp only[rY];omega⟩ ?_ (by exact aM _) ?_
       ·(simp only[go_sem,hb9];first|done|exact rfl|exact⟨rfl,rfl⟩)
       .clear hnil hfree hl;rintro⟨⟨l,tk⟩,j⟩ ⟨⟨hnil,hfree⟩,hj,hl⟩;simp only at hnil hfree hj hl;refine bG (V:=[0,1,2,3,5,7,9,11,13,15,16,17,18,38,39,40,41,51,52,53,54,58,59,60,61,78,79,80,81]) _ _ _ _ ?_;simp only[go_sem,hb9];(refine aQ (λh=>?_) (λh=>?_))<;>simp only[go_sem,h,hb9]
        .have hjx:j<r.parts.length:=by simpa using h
         clear h;obtain⟨q,hq⟩:∃a,r.parts[j]?=some a:=⟨_,aY hjx⟩
         have hsd:=aCD (f:=yC) hq;have hqw:yC q=1+q.right.length:=rfl;simp only[go_sem,hb9,hq,hjx];(intro b11 hb11;try simp only[aZ,aI,ne_eq]at hb11);simp only[go_sem,hb9,hq,hjx,hb11];(refine bL (OT.l [0,1,2,3,5,6,4,7,8] .nil) [(4,[6])] ?_;simp only[go_sem,hb9,hq,hjx,hb11]);refine⟨by decide,λy hy=>by simp only[bW]at hy;subst hy;rfl,dY rfl rfl (by rw[aH];exact iF λe=>by rw[hnil e];rfl) (λy hy=>nS hy) (by simp only[aH,aE,aF];omega) (λu hu=>?_)⟩;have hfu:=gD hu hfree;rw[fO hu];simp only[go_sem,hb9,hq,hjx,hb11];refine⟨by decide,λy hy=>nS hy,by simp only[aG,aH,aE,aF],λy hy=>?_,by simp only[aG,aH,aE,aF];omega,?_⟩
         .simp only[cW,bW]at hy;rcases hy with hy|rfl
          .exact nS hy
          .rfl
         refine⟨((l++[q.left]++q.right,some u),j+1),⟨⟨λh=>(by cases h),λt h=>by cases h;exact hfu⟩,hjx,by simp only[aG,aE,aF];omega⟩,by simp only;omega,?_,?_⟩
         .simp only[go_sem,hw3.wrap (i:=j) (by simpa using hjx),dO,cV]
         .have e1:∀a:A,(List.map Tm.enc l++[a]).length+q.right.length=(l++[q.left]++q.right).length:=λa=>by simp only[aG,aH,aE,aF]
          rw[aCf,e1];exact jU (by(repeat (first|(refine eC ?_ ?_;focus (simp only[aI,ne_eq,dK,iT,hb9,hb11]<;>done))|exact aM _)))
        .clear h;have hl2:l.length+(r.cond.length+(r.new.map λf=>f.cells.length).sum+R)<=4294967296:=by omega
         clear hl hj;refine⟨by decide,λy hy=>nS hy,dY rfl rfl (by rw[aH];exact iF λe=>by rw[hnil e];rfl) (λy hy=>nS hy) (by simp only[aH];omega) (λu hu=>?_)⟩;have hfu:=gD hu hfree;rw[fO hu];simp only[go_sem,hb9]
         refine Ex.loop (ι:=(List Tm × Option Nat) × Nat) (λc=>[(3,gv c.1.2 (c.1.1.map Tm.enc)),(51,.list none (x.rules.map Rul.enc)),(52,.int .i64 x.rules.length),(53,.int .i64 (i:Nat)),(78,.list none (r.new.map Fresh.enc)),(79,.int .i64 r.new.length),(80,.int .i64 (c.2:Nat))])
          (λc=>gs s c.1.2 c.1.1.length 43)
          (λc=>qR s c.1.1 c.1.2/\c.2<=r.new.length/\c.1.1.length+(((r.new.drop c.2).map λf=>f.cells.length).sum+R)<=4294967296) (λc=>r.new.length-c.2) ((l++r.cond,some u),0) ⟨⟨λh=>(by cases h),λt h=>by cases h;exact hfu⟩,aU _,by simp only[rY,aG];omega⟩ ?_ ?_ ?_
         ·(simp only[go_sem,hb9,dO,cV];first|done|exact rfl|exact⟨rfl,rfl⟩)
         .show St.ge _ ((s.setT u ((l++r.cond).length,43)));rw[aG];exact jU (by(repeat (first|(refine eC ?_ ?_;focus (simp only[aI,ne_eq,dK,iT,hb9]<;>done))|exact aM _)))
         .clear hnil hfree hl2 hu hfu;rintro⟨⟨l,tk⟩,j⟩ ⟨⟨hnil,hfree⟩,hj,hl⟩;simp only at hnil hfree hj hl;refine bG (V:=[0,1,2,3,5,7,9,11,13,15,16,17,18,38,39,40,41,51,52,53,54,58,59,60,61,78,79,80,81]) _ _ _ _ ?_;simp only[go_sem];(refine aQ (λh=>?_) (λh=>?_))<;>simp only[go_sem,h]
          .have hjx:j<r.new.length:=by simpa using h
           clear h;obtain⟨q,hq⟩:∃a,r.new[j]?=some a:=⟨_,aY hjx⟩
           have hsd:((r.new.drop j).map λf=>f.cells.length).sum=q.cells.length+((r.new.drop (j+1)).map λf=>f.cells.length).sum:=aCD (f:=λf:Fresh=>f.cells.length) hq;simp only[go_sem,hq,hjx];(intro b13 hb13;try simp only[aZ,aI,ne_eq]at hb13);simp only[go_sem,hq,hjx,hb13];refine⟨by decide,λy hy=>nS hy,dY rfl rfl (by rw[aH];exact iF λe=>by rw[hnil e];rfl) (λy hy=>nS hy) (by simp only[aH];omega) (λu hu=>?_)⟩;have hfu:=gD hu hfree;rw[fO hu];simp only[go_sem,hq,hjx,hb13];refine⟨((l++q.cells,some u),j+1),⟨⟨λh=>(by cases h),λt h=>by cases h;exact hfu⟩,hjx,by simp only[aG];omega⟩,by simp only;omega,?_,?_⟩
           .simp only[go_sem,hw4.wrap (i:=j) (by simpa using hjx),dO,cV]
           .show St.ge _ ((s.setT u ((l++q.cells).length,43)));rw[aG];exact jU (by(repeat (first|(refine eC ?_ ?_;focus (simp only[aI,ne_eq,dK,iT,hb13]<;>done))|exact aM _)))
          .clear h;refine⟨((l,tk),i+1),⟨⟨hnil,hfree⟩,hix,by simp only;omega⟩,by simp only;omega,?_,aM _⟩;simp only[go_sem,hiw]
      .clear h;exact DK.mk (hk l) (nB (aM _) hfree) (iY _ _ (λe=>by rw[hnil e];rfl))
theorem aPL(x:Dfn)(hB:yH x<=4294967296)(hS:x.sig.ops.length+x.sig.funs.length<=4294967296)(s:St)(KV Kp:St->A->Prop)(hk:∀b:Bool,KV s (.bool b)):Den cx 21 [.agg x.cs] KV Kp s:=by
 refine jD λhz1=>?_
 have hza:=hz1 _ (bY ..);have hw2:Rlz (.list none (x.rules.map Rul.enc)):=hza.cell (by simp[Dfn.cs]);clear hz1;simp only[go_sem];(refine aO func21 [0,1,2,3,5,28,30,31,32,33,54] ?_;simp only[go_sem,ntmps21,f21]);(intro p hp;try simp only[aI,ne_eq]at hp);simp only[go_sem,hp];(refine aQ (λh=>?_) (λh=>?_))<;>simp only[go_sem,h,hp]
 .exact aP (hk _) cS
 clear h;refine aPH x.sig hS _ _ _ (λb1=>?_);simp only[go_sem,hp];(refine aQ (λh=>?_) (λh=>?_))<;>simp only[go_sem,h,hp]
 .exact aP (hk _) cS
 clear h;generalize IntKind.i64.wrap (IntKind.i64.wrap (IntKind.i64.wrap ((x.eqs.length:Int)+(x.once.length:Int))+(x.many.length:Int))+(x.rules.length:Int))=n0
 refine Ex.loop (ι:=Int × Nat) (λc=>[(1,.ptr p 0),(3,.int .i64 c.1),(30,.list none (x.rules.map Rul.enc)),(31,.int .i64 x.rules.length),(32,.int .i64 (c.2:Nat))]) (λ_=>s.setO p (.cells 33 x.cs))
  (λc=>c.2<=x.rules.length) (λc=>x.rules.length-c.2) (n0,0) (aU _) ?_ (by exact aM _) ?_
 ·(simp only[go_sem,hp];first|done|exact rfl|exact⟨rfl,rfl⟩)
 .rintro⟨l,i⟩ hi;simp only at hi;refine bG (V:=[0,1,2,3,5,28,30,31,32,33,54]) _ _ _ _ ?_;simp only[go_sem,hp];(refine aQ (λh=>?_) (λh=>?_))<;>simp only[go_sem,h,hp]
  .have hix:i<x.rules.length:=by simpa using h
   obtain⟨e,he⟩:∃a,x.rules[i]?=some a:=⟨_,aY hix⟩
   clear h;simp only[go_sem,hp,he,hix];(intro b5 hb5;try simp only[aI,ne_eq]at hb5);simp only[go_sem,hp,he,hix,hb5];(refine aQ (λh=>?_) (λh=>?_))<;>simp only[go_sem,h,hp,hb5]
   .exact aP (hk _) cS
   exact⟨(_,i+1),hix,by simp only;omega,⟨rfl,hw2.wrap (i:=i) (by simpa using hix)⟩,(by(repeat (first|(refine eC ?_ ?_;focus (simp only[aI,ne_eq,dK,iT,hp,hb5]<;>done))|exact aM _)))⟩
  .clear h;refine aNV x hB _ _ _ (λxs=>?_);simp only[go_sem,hp];refine aPl xs _ _ _ _ (λb2=>?_);simp only[go_sem,hp];exact aP (hk _) cS
theorem aG5(s:St)(c:Int)(KV Kp)(hk:KV s (.bool (sP c))):Den cx 261 [.int .u8 c] KV Kp s:=by
 unfold sP at hk;(refine aO func261 [0,2] ?_;simp only[go_sem,ntmps261,Tryz.f261])
 (repeat' (first|exact aP hk cS|((refine aQ (λh=>?_) (λh=>?_))<;>simp only[go_sem,h]<;>(try simp only[h,eW,eU,fB,fG,jN,jT,jM,iJ,eV,fM]at hk))))
theorem aAP(s:St)(c:Int)(KV Kp)(hk:KV s (.bool (eY c))):Den cx 185 [.int .u8 c] KV Kp s:=by
 unfold eY at hk;(refine aO func185 [0,2] ?_;simp only[go_sem,ntmps185,f185])
 (repeat' (first|exact aP hk cS|(refine aG5 _ _ _ _ ?_;simp only[go_sem])|((refine aQ (λh=>?_) (λh=>?_))<;>simp only[go_sem,h]<;>(try simp only[h,eW,eU,fB,fG,jN,jT,jM,iJ,eV,fM]at hk))))
theorem wP(s:St)(x:List UInt8)(KV Kp)(hk:KV s (.bool (dM x))):Den cx 196 [.str x] KV Kp s:=by
 (refine aO func196 [0,2,3,16,18,19,20,26] ?_;simp only[go_sem,ntmps196,f196]);(refine aQ (λh=>?_) (λh=>?_))<;>simp only[go_sem,h]
 .have:x=[]:=by simpa using h
  subst this;exact aN hk
 have hne:x≠[]:=by simpa using h
 obtain⟨c,r,hx⟩:=List.exists_cons_of_ne_nil hne;(refine aQ (λh=>?_) (λh=>?_))<;>simp only[go_sem,h]
 .have h40:¬ x.length<=40:=by simp at h;omega
  have:dM x=false:=by rw[hx]at h40⊢;simp only[dM,h40,aAL,eU]
  exact aN (by rwa[this]at hk)
 have h40:x.length<=40:=by simp at h;omega
 have h0:x[0]?=some c:=by rw[hx];rfl
 have hl0:0<x.length:=by rw[hx];exact Nat.zero_lt_succ _
 simp only[go_sem,h0,hl0];refine aG5 _ _ _ _ ?_;simp only[go_sem];(refine aQ (λh=>?_) (λh=>?_))<;>simp only[go_sem,h]
 .have:dM x=false:=by
   have:sP c.toNat=false:=by simpa using h
   rw[hx];simp[dM,this]
  exact aN (by rwa[this]at hk)
 have hl:sP c.toNat=true:=by simpa using h
 refine Ex.loop (λi=>[(0,.str x),(18,.int .i64 x.length),(19,.int .i64 (i:Nat))]) (λ_=>s)
  (λi=>i<=x.length/\∀d∈x.take i,eY d.toNat=true) (λi=>x.length-i) 0 ⟨aU _,by simp⟩ ?_ (aM s) ?_
 .simp only[go_sem];rfl
 .rintro i ⟨hi,hall⟩;refine bG (V:=[0,2,3,16,18,19,20,26]) _ _ _ _ ?_;simp only[go_sem];(refine aQ (λh=>?_) (λh=>?_))<;>simp only[go_sem,h]
  .have hix:i<x.length:=by simpa using h
   obtain⟨d,hd⟩:∃d,x[i]?=some d:=⟨_,aY hix⟩
   simp only[go_sem,hd,hix];refine aAP _ _ _ _ ?_;simp only[go_sem];(refine aQ (λh=>?_) (λh=>?_))<;>simp only[go_sem,h]
   .have hp:eY d.toNat=false:=by simpa using h
    have:dM x=false:=by
     rw[hx]at hd⊢;simp only[dM,Bool.and_eq_false_iff];refine .inr (.inr (pZ.2 λhall=>?_));rw[iH]at hall;have:=hall d (cM hd);rw[hp]at this;cases this
    exact aN (by rwa[this]at hk)
   .have hp:eY d.toNat=true:=by simpa using h
    refine⟨i+1,⟨by omega,?_⟩,by omega,?_,aM s⟩
    .intro q hq;rw[iS,hd]at hq;simp only[cW,Option.toList_some,bW]at hq;rcases hq with hq|rfl
     .exact hall q hq
     .exact hp
    .simp only[go_sem,cF i aB]
  .have hix:i=x.length:=by simp at h;omega
   have:dM x=true:=by
    rw[hix,List.take_length]at hall;rw[hx]at hall h40⊢;simp only[dM,hl,iH,cL,cU];exact⟨h40,trivial,hall⟩
   exact aN (by rwa[this]at hk)
theorem aE2 {C : Cx} {f : FuncId} {fn : Func} {e : Array Value → Sem Value} (hf : C.P.funcs[f]? = some fn) (hname : (fn.name == "runtime.NumGoroutine") = false)
  (hb:fn.body.isNone=true)(hn:Extern.findNext fn=none)(he:Extern.find fn=some e){args:List A}{s:St}{KV Kp:St->A->Prop}
  (h:∀g vals,Rzs g args vals->∃v a,(∀w,(e vals.toArray).run C.P w=.ok v w)/\Rz g a v/\KV s a):Den C f args KV Kp s:=by
 intro F g w vals hR hv;obtain⟨v,a,h1,h2,h3⟩:=h g vals hv;rw[run_callFunc_extern hf hname hb hn he,h1];exact⟨g,a,s,gR g,hR,h2,h3⟩
theorem Rzs.two{g:Gh}{a b:A}{vals:List Value}(h:Rzs g [a,b] vals):∃u v,vals=[u,v]/\Rz g a u/\Rz g b v:=by
 have hl:=h.1
 match vals,hl with
 | [u,v],_=>exact⟨u,v,rfl,h.2 0 a u rfl rfl,h.2 1 b v rfl rfl⟩
theorem aMF(s:St)(x:aC)(c:UInt8)(KV Kp)(hk:KV s (.int .i64 (Lib.indexByte x c))):Den cx 316 [.str x,.int .u8 c.toNat] KV Kp s:=by
 refine aE2 (C:=cx) func316 rfl rfl rfl (e:=Extern.BytealgIndexByte.indexByte) (by kernel_rfl) λg vals hv=>?_
 obtain⟨u,v,rfl,r1,r2⟩:=hv.two;rw[r1.str_inv,r2.int_inv];refine⟨_,_,λw=>Lib.run_indexByteString _ _ w,.int _ _,?_⟩;simpa using hk
theorem aM4(s:St)(x:aC)(c:UInt8)(KV Kp)(hk:KV s (.int .i64 (x.count c:Nat))):Den cx 217 [.str x,.int .u8 c.toNat] KV Kp s:=by
 refine aE2 (C:=cx) func217 rfl rfl rfl (e:=Extern.BytealgCount.count) (by kernel_rfl) λg vals hv=>?_
 obtain⟨u,v,rfl,r1,r2⟩:=hv.two;rw[r1.str_inv,r2.int_inv];refine⟨_,_,λw=>Lib.run_countString _ _ w,.int _ _,?_⟩;simpa [Lib.countByte]using hk
theorem aMz(s:St)(x:aC)(c:UInt8)(KV Kp)(hk:KV s (.int .i64 (Lib.indexByte x c))):Den cx 303 [.str x,.int .u8 c.toNat] KV Kp s:=by
 (refine aO func303 [0,1,4] ?_;simp only[go_sem,ntmps303,f303])
 (repeat' (first|exact aP hk cS|(refine aMF _ _ _ _ _ ?_;simp only[go_sem])|((refine aQ (λh=>?_) (λh=>?_))<;>simp only[go_sem,h]<;>(try simp only[h,eW,eU,fB,fG,jN,jT,jM,iJ,eV,fM]at hk))))
theorem aEu(s:St)(x:aC)(c:UInt8)(KV Kp)(hk:KV s (.int .i64 (Lib.indexByte x c))):Den cx 298 [.str x,.int .u8 c.toNat] KV Kp s:=by
 (refine aO func298 [0,1,4] ?_;simp only[go_sem,ntmps298,f298])
 (repeat' (first|exact aP hk cS|(refine aMz _ _ _ _ _ ?_;simp only[go_sem])|((refine aQ (λh=>?_) (λh=>?_))<;>simp only[go_sem,h]<;>(try simp only[h,eW,eU,fB,fG,jN,jT,jM,iJ,eV,fM]at hk))))
theorem aG2(s:St)(x p:aC)(KV Kp)(hk:KV s (.bool (lU x p))):Den cx 311 [.str x,.str p] KV Kp s:=by
 unfold lU at hk;(refine aO func311 [0,1,4] ?_;simp only[go_sem,ntmps311,Tryz.f311]);(refine aQ (λh=>?_) (λh=>?_))<;>simp only[go_sem,h]<;>(try simp only[h,eW,eU,fB,fG,jN,jT,jM,iJ,eV,fM]at hk)
 .have hl:p.length<=x.length:=by simpa using h
  simp only[go_sem,hl];exact aN hk
 .exact aN hk
theorem aG0(s:St)(x p:aC)(KV Kp)(hk:KV s (.bool (lU x p))):Den cx 299 [.str x,.str p] KV Kp s:=by
 (refine aO func299 [0,1,4] ?_;simp only[go_sem,ntmps299,f299])
 (repeat' (first|exact aP hk cS|(refine aG2 _ _ _ _ _ ?_;simp only[go_sem])|((refine aQ (λh=>?_) (λh=>?_))<;>simp only[go_sem,h]<;>(try simp only[h,eW,eU,fB,fG,jN,jT,jM,iJ,eV,fM]at hk))))
theorem aMH(s:St)(x:aC)(c:UInt8)(KV Kp)(hx:x.length<=4294967296)(hk:KV s (.int .i64 (nO x c x.length))):Den cx 219 [.str x,.int .u8 c.toNat] KV Kp s:=by
 (refine aO func219 [0,1,4,5,10,17] ?_;simp only[go_sem,ntmps219,f219]);rw[iU _ aB aB]
 refine Ex.loop (λn=>[(0,.str x),(1,.int .u8 c.toNat),(5,.int .i64 ((n:Nat)-1:Int))]) (λ_=>s)
  (λn=>n<=x.length/\nO x c x.length=nO x c n) (λn=>n) x.length ⟨bT _,rfl⟩ ?_ (aM s) ?_
 .simp only[go_sem]
 .rintro n ⟨hn,he⟩;refine bG (V:=[0,1,4,5,10,17]) _ _ _ _ ?_;simp only[go_sem];(refine aQ (λh=>?_) (λh=>?_))<;>simp only[go_sem,h]
  .obtain⟨m,rfl⟩:∃m,n=m+1:=⟨n-1,by simp at h;omega⟩
   have e1:(((m+1:Nat):Int)-1)=(m:Int):=by omega
   have hm:m<x.length:=by omega
   obtain⟨d,hd⟩:∃d,x[m]?=some d:=⟨_,aY hm⟩
   simp only[go_sem,e1,hm,hd];(refine aQ (λh=>?_) (λh=>?_))<;>simp only[go_sem,h]
   .have hdc:d=c:=by
     have:d.toNat=c.toNat:=by simpa using h
     exact tH.1 this
    subst hdc;rw[he,nO,if_pos hd]at hk;exact aN hk
   .have hdc:¬ d=c:=by
     rintro rfl;simp at h
    rw[iU _ aB aB];refine⟨m,⟨by omega,?_⟩,by omega,?_,aM s⟩
    .rw[he,nO,if_neg (by rw[hd];simpa using hdc)]
    .simp only[go_sem]
  .have h0:n=0:=by simp at h;omega
   subst h0;rw[he,nO]at hk;exact aN hk
theorem aMy(s:St)(x:aC)(c:UInt8)(KV Kp)(hx:x.length<=4294967296)(hk:KV s (.int .i64 (nO x c x.length))):Den cx 143 [.str x,.int .u8 c.toNat] KV Kp s:=by
 (refine aO func143 [0,1,4] ?_;simp only[go_sem,ntmps143,f143])
 (repeat' (first|exact aP hk cS|(refine aMH _ _ _ _ _ hx ?_;simp only[go_sem])|((refine aQ (λh=>?_) (λh=>?_))<;>simp only[go_sem,h]<;>(try simp only[h,eW,eU,fB,fG,jN,jT,jM,iJ,eV,fM]at hk))))
theorem aHp(s:St)(c:Int)(KV Kp)(hk:KV s (.bool (iG c))):Den cx 301 [.int .u8 c] KV Kp s:=by
 unfold iG at hk;(refine aO func301 [0,2] ?_;simp only[go_sem,ntmps301,f301])
 (repeat' (first|exact aP hk cS|((refine aQ (λh=>?_) (λh=>?_))<;>simp only[go_sem,h]<;>(try simp only[h,eW,eU,fB,fG,jN,jT,jM,iJ,eV,fM]at hk))))
theorem aKr(s:St)(x:aC)(f:FuncId)(p:UInt8->Bool)(KV Kp)(hx:x.length<=4294967296)
  (hf:∀(c:UInt8) KV Kp,KV s (.bool (p c))->Den cx f [.int .u8 c.toNat] KV Kp s)
  (hk:KV s (.int .i64 (x.takeWhile p).length)):Den cx 300 [.str x,.fn f [] []] KV Kp s:=by
 (refine aO func300 [0,1,4,5,16] ?_;simp only[go_sem,ntmps300,f300])
 refine Ex.loop (λn=>[(0,.str x),(1,.fn f [] []),(5,.int .i64 (n:Nat))]) (λ_=>s)
  (λn=>n<=x.length/\(x.takeWhile p).length=n+((x.drop n).takeWhile p).length) (λn=>x.length-n) 0 ⟨aU _,by simp⟩ ?_ (aM s) ?_
 .simp only[go_sem];rfl
 .rintro n ⟨hn,he⟩;refine bG (V:=[0,1,4,5,16]) _ _ _ _ ?_;simp only[go_sem];(refine aQ (λh=>?_) (λh=>?_))<;>simp only[go_sem,h]
  .have hn':n<x.length:=by simpa using h
   obtain⟨d,hd⟩:∃d,x[n]?=some d:=⟨_,aY hn'⟩
   have hdr:x.drop n=d::x.drop (n+1):=by
    rw[yS hn'];congr 1;rw[aY hn']at hd;simpa using hd
   simp only[go_sem,hd,hn'];refine hf _ _ _ ?_;simp only[go_sem];(refine aQ (λh=>?_) (λh=>?_))<;>simp only[go_sem,h]
   .have hp:p d=true:=by simpa using h
    refine⟨n+1,⟨by omega,?_⟩,by omega,?_,aM s⟩
    .rw[he,hdr,aEt hp,aE];omega
    .simp only[go_sem,cF n aB]
   .have hp:¬ p d=true:=by simp[h]
    rw[he,hdr,aBG hp]at hk;exact aN (by simpa using hk)
  .have hn':n=x.length:=by simp at h;omega
   subst hn';rw[he,aGY]at hk;exact aN (by simpa using hk)
theorem sA{s:St}{b:Nat}{o:Ob}(h:s.getO b=some o):s.ge (s.setO b o) :=
 ⟨fun c x hc => by
  rw[aJ]at hc;split at hc
  .rename_i e;subst e;rw[h];exact hc
  .exact hc,λ_ _ h=>h,λ_ h=>h⟩
def gO(x:aC)(at_ line col:Nat)(sg:List aC)(op:Bool):List A:=[.str x,.int .i64 at_,.int .i64 line,.int .i64 col,.list none (sg.map .str),.bool op]
theorem aFY:∀(w v:aC) (p:Nat × Nat),eI p (w++v)=eI (eI p w) v
 | [],v,p=>rfl
 | b::w,v,(l,c)=>by
  simp only[aV,eI];split<;>exact aFY w v _
theorem vM:∀(w:aC) (p:Nat × Nat) (k:Nat),p.1<=k+1->p.2<=k+1->(eI p w).1<=k+w.length+1/\(eI p w).2<=k+w.length+1
 | [],p,k,h1,h2=>⟨h1,h2⟩
 | b::w,(l,c),k,h1,h2=>by
  simp only[eI,aE];split
  .have:=vM w (l+1,1) (k+1) (by simpa using h1) bD;omega
  .have:=vM w (l,c+1) (k+1) (by have:l<=k+1:=h1;simp;omega) (by simpa using h2);omega
theorem aCA(s:St)(r:Nat)(x:aC)(at_ l c n:Nat)(sg:List aC)(op:Bool)(KV Kp)
  (hr:s.getO r=some (.cells 226 (gO x at_ l c sg op)))(hx:x.length<=4294967296)(hn:at_+n<=x.length)(hl:l<=at_+1)(hc:c<=at_+1)
  (hk:KV (s.setO r (.cells 226 (gO x (at_+n) (eI (l,c) ((x.drop at_).take n)).1 (eI (l,c) ((x.drop at_).take n)).2 sg op))) (.tuple [])) :
  Den cx 279 [.ptr r 0,.int .i64 n] KV Kp s:=by
 (refine aO func279 [0,1,4,5,6,23] ?_;simp only[go_sem,ntmps279,f279])
 refine Ex.loop (λi=>[(0,.ptr r 0),(4,.int .i64 n),(5,.int .i64 (i:Nat))])
  (λi=>s.setO r (.cells 226 (gO x (at_+i) (eI (l,c) ((x.drop at_).take i)).1 (eI (l,c) ((x.drop at_).take i)).2 sg op)))
  (λi=>i<=n) (λi=>n-i) 0 (aU _) ?_ ?_ ?_
 .simp only[go_sem];rfl
 .simp only[Nat.add_zero,List.take_zero,eI];exact sA hr
 .intro i hi;refine bG (V:=[0,1,4,5,6,23]) _ _ _ _ ?_;have hb:=vM ((x.drop at_).take i) (l,c) at_ hl hc;have hlen:((x.drop at_).take i).length=i:=by rw[bK,dR];omega
  rw[hlen]at hb;simp only[go_sem];(refine aQ (λh=>?_) (λh=>?_))<;>simp only[go_sem,h]
  .have hin:i<n:=by simpa using h
   have hix:at_+i<x.length:=by omega
   obtain⟨d,hd⟩:∃d,x[at_+i]?=some d:=⟨_,aY hix⟩
   simp only[go_sem,gO];rw[cF _ aB];(refine bL (OT.r 0 10) [] ?_;simp only[go_sem,hd,hix])
   have hst:eI (l,c) ((x.drop at_).take (i+1))=eI (eI (l,c) ((x.drop at_).take i)) [d]:=by
    rw[iS,oW,hd,aFY];rfl
   have e5:IntKind.i64.wrap ((i:Int)+1)=((i+1:Nat):Int):=cF i aB;have e1:IntKind.i64.wrap (((at_+i:Nat):Int)+1)=((at_+(i+1):Nat):Int):=by rw[cF _ aB];rfl
   have e2:IntKind.i64.wrap (((eI (l,c) ((x.drop at_).take i)).1:Int)+1)=(((eI (l,c) ((x.drop at_).take i)).1+1:Nat):Int):=cF _ aB;(refine aQ (λh=>?_) (λh=>?_))<;>simp only[go_sem,h,e1,e2,e5]
   .have hd10:d=10:=by
     have:d.toNat=10:=by simp at h;omega
     exact tH.1 this
    refine⟨i+1,by omega,by omega,rfl,?_⟩;rw[hst];simp only[eI,hd10,if_true];exact aM _
   .have hd10:¬ d=10:=by rintro rfl;simp at h
    refine⟨i+1,by omega,by omega,rfl,?_⟩;rw[hst];simp only[eI,hd10,if_false];exact aM _
  .have hin:i=n:=by simp at h;omega
   subst hin;exact aN hk
@[go_sem] theorem aMS(x:aC)(n:Nat):(x.drop n).take (x.length-n)=x.drop n:=dW (by rw[dR];exact bT _)
theorem aEw{b:UInt8}{r:aC}(h:lU (b::r) [47,47]=true):1<=((b::r).takeWhile (λc=>!decide (c=10))).length:=by
 have hb:b=47:=by
  simp only[lU,cL,cU]at h;have:=h.2;simp at this;exact this.1
 subst hb;simp[List.takeWhile]
theorem aFF:∀(f g:Nat) (w:aC),w.length<=f->w.length<=g->oB f w=oB g w
 | f,g,[],_,_=>by cases f<;>cases g<;>rfl
 | 0,g,b::r,h,_=>by simp at h
 | f,0,b::r,_,h=>by simp at h
 | f+1,g+1,b::r,hf,hg=>by
  simp only[aE]at hf hg;simp only[oB];split
  .rw[aFF f g r aB aB]
  .split
   .rename_i hp;have:=aEw hp;rw[aFF f g _ (by rw[dR,aE];omega) (by rw[dR,aE];omega)]
   .rfl
theorem aQq:eZ []=0:=rfl
theorem aN4{b:UInt8}{r:aC}(h:nN b=true):eZ (b::r)=1+eZ r:=by
 simp only[eZ,aE,oB,h,if_true]
theorem aPP{b:UInt8}{r:aC}(hb:nN b=false)(h:lU (b::r) [47,47]=true) :
  eZ (b::r)=((b::r).takeWhile (λc=>!decide (c=10))).length+eZ ((b::r).drop ((b::r).takeWhile (λc=>!decide (c=10))).length):=by
 have:=aEw h;simp only[eZ,aE,oB,hb,cJ,if_false,h,if_true];rw[aFF r.length _ _ (by rw[dR,aE];omega) (bT _)]
theorem aPQ{b:UInt8}{r:aC}(hb:nN b=false)(h:lU (b::r) [47,47]=false):eZ (b::r)=0:=by
 simp only[eZ,aE,oB,hb,cJ,if_false,h]
theorem aO4(b:UInt8):decide (0<=Lib.indexByte [32,9,10,13] b)=nN b:=by
 by_cases h1:b=32
 .subst h1;decide
 by_cases h2:b=9
 .subst h2;decide
 by_cases h3:b=10
 .subst h3;decide
 by_cases h4:b=13
 .subst h4;decide
 have e1:((32:UInt8) == b)=false:=aAJ.2 λe=>h1 e.symm
 have e2:((9:UInt8) == b)=false:=aAJ.2 λe=>h2 e.symm
 have e3:((10:UInt8) == b)=false:=aAJ.2 λe=>h3 e.symm
 have e4:((13:UInt8) == b)=false:=aAJ.2 λe=>h4 e.symm
 simp[Lib.indexByte,nN,e1,e2,e3,e4,h1,h2,h3,h4]
theorem aQz(w:aC):(if Lib.indexByte w 10<0 then((w.length:Nat):Int) else Lib.indexByte w 10)=((w.takeWhile (λc=>!decide (c=10))).length:Nat)/\(Lib.indexByte w 10=-1\/0<=Lib.indexByte w 10):=by
 induction w with
 | nil=>simp[Lib.indexByte]
 | cons b r ih =>
  obtain⟨ih,ih2⟩:=ih;unfold Lib.indexByte;by_cases hb:b=10
  .subst hb;simp
  .have hb':(b == 10)=false:=by simpa using hb
   rw[hb'];simp only[cJ,if_false];have htw:(b::r).takeWhile (λc=>!decide (c=10))=b::r.takeWhile (λc=>!decide (c=10)):=by simp[List.takeWhile,hb]
   rw[htw];rcases ih2 with h|h
   .rw[h]at ih⊢;simp only[show((-1:Int)<0) from by decide,if_true]at ih;simp only[beq_self_eq_true,if_true,show((-1:Int)<0) from by decide,aE];exact⟨by omega,.inl trivial⟩
   .have h1:¬ Lib.indexByte r 10<0:=by omega
    have h2:(Lib.indexByte r 10 == -1)=false:=by simpa using(by omega:¬ Lib.indexByte r 10=-1)
    rw[if_neg h1]at ih;rw[h2];simp only[cJ,if_false,aE];rw[if_neg aB];exact⟨by omega,.inr aB⟩
theorem aHX(s:St)(r:Nat)(x:aC)(at_ l c:Nat)(sg:List aC)(op:Bool)(KV Kp)
  (hr:s.getO r=some (.cells 226 (gO x at_ l c sg op)))(hx:x.length<=4294967296)(ha:at_<=x.length)(hl:l<=at_+1)(hc:c<=at_+1)
  (hk:KV (s.setO r (.cells 226 (gO x (at_+eZ (x.drop at_)) (eI (l,c) ((x.drop at_).take (eZ (x.drop at_)))).1 (eI (l,c) ((x.drop at_).take (eZ (x.drop at_)))).2 sg op))) (.tuple [])) :
  Den cx 277 [.ptr r 0] KV Kp s:=by
 (refine aO func277 [0,2,3,13,23,30,36] ?_;simp only[go_sem,ntmps277,f277])
 refine Ex.loop (λk=>[(0,.ptr r 0)])
  (λk=>s.setO r (.cells 226 (gO x (at_+k) (eI (l,c) ((x.drop at_).take k)).1 (eI (l,c) ((x.drop at_).take k)).2 sg op)))
  (λk=>at_+k<=x.length/\eZ (x.drop at_)=k+eZ (x.drop (at_+k))) (λk=>x.length-(at_+k)) 0 ⟨by omega,by simp⟩ ?_ ?_ ?_
 .simp only[go_sem]
 .simp only[Nat.add_zero,List.take_zero,eI];exact sA hr
 .rintro k ⟨hkx,hb⟩;have hlen:((x.drop at_).take k).length=k:=by rw[bK,dR];omega
  have hal:=vM ((x.drop at_).take k) (l,c) at_ hl hc;rw[hlen]at hal
  have hstep:∀m,eI (l,c) ((x.drop at_).take (k+m))=eI (eI (l,c) ((x.drop at_).take k)) ((x.drop (at_+k)).take m):=by
   intro m;rw[List.take_add,aFY,tI]
  refine bG (V:=[0,2,3,13,23,30,36]) _ _ _ _ ?_;simp only[go_sem];(refine bL (OT.r 0 10) [] ?_;simp only[go_sem,gO]);(refine aQ (λh=>?_) (λh=>?_))<;>simp only[go_sem,h]
  .have hlt:at_+k<x.length:=by simpa using h
   have hcons:∃d w,x.drop (at_+k)=d::w:=by
    rw[yS hlt];exact⟨_,_,rfl⟩
   obtain⟨d,w,hw⟩:=hcons;have ha':at_+k<=x.length:=by omega
   have htk:(d::w).take (x.length-(at_+k))=d::w:=by rw[<-hw];exact aMS x _
   (refine bL (OT.r 0 10) [] ?_;simp only[go_sem,gO,hw,htk,ha',bT]);refine aEu _ _ _ _ _ ?_;simp only[go_sem,aO4];(refine aQ (λh=>?_) (λh=>?_))<;>simp only[go_sem,h]
   ·
    refine aCA _ r x (at_+k) _ _ 1 sg op _ _ (by rw[aJ,if_pos rfl];rfl) hx aB aB aB ?_;simp only[go_sem];refine⟨k+1,⟨by omega,?_⟩,by omega,?_⟩
    .rw[hb,hw,aN4 h,show at_+(k+1)=at_+k+1 from rfl,<-tI,hw];simp;omega
    .rw[hstep 1];exact aM _
   .refine aG0 _ _ _ _ _ ?_;simp only[go_sem];(refine aQ (λh=>?_) (λh=>?_))<;>simp only[go_sem,h]
    .have hbl:nN d=false:=by assumption
     have hp:=h;refine aEu _ _ 10 _ _ ?_;simp only[go_sem];have hi:=aQz (d::w);have hpos:=aEw hp;have hle:((d::w).takeWhile (λc=>!decide (c=10))).length<=(d::w).length:=(List.takeWhile_sublist _).length_le;have hwl:(d::w).length=x.length-(at_+k):=by rw[<-hw,dR]
     have fin:∀m:Nat,m=((d::w).takeWhile (λc=>!decide (c=10))).length->at_+k+m<=x.length/\eZ (x.drop at_)=k+m+eZ (x.drop (at_+(k+m))):=by
      rintro m rfl;refine⟨by omega,?_⟩;have:=aPP hbl hp;rw[hb,hw,this,<-oX at_,<-tI,hw];omega
     generalize hm:((d::w).takeWhile (λc=>!decide (c=10))).length=m at hi hpos hle;obtain⟨f1,f2⟩:=fin m hm.symm;(refine aQ (λh=>?_) (λh=>?_))<;>simp only[go_sem,h]
     .have hlt:Lib.indexByte (d::w) 10<0:=by simpa using h
      have e:=hi.1;rw[if_pos hlt]at e;have e:w.length+1=m:=by simp at e;omega
      rw[e];refine aCA _ r x (at_+k) _ _ m sg op _ _ (by rw[aJ,if_pos rfl];rfl) hx f1 aB aB ?_;simp only[go_sem];refine⟨k+m,⟨by omega,f2⟩,by omega,?_⟩;rw[hstep m,oX at_ k m];exact aM _
     .have hlt:¬ Lib.indexByte (d::w) 10<0:=by simpa using h
      have e:=hi.1;rw[if_neg hlt]at e;rw[e];refine aCA _ r x (at_+k) _ _ m sg op _ _ (by rw[aJ,if_pos rfl];rfl) hx f1 aB aB ?_;simp only[go_sem];refine⟨k+m,⟨by omega,f2⟩,by omega,?_⟩;rw[hstep m,oX at_ k m];exact aM _
    .have hbl:nN d=false:=by assumption
     rw[hb,hw,aPQ hbl h,Nat.add_zero]at hk;exact aN hk
  .have hkl:at_+k=x.length:=by simp at h;omega
   have e:eZ (x.drop at_)=k:=by rw[hb,hkl,aGY,aQq];rfl
   rw[e]at hk;exact aN hk
theorem aBg{x:aC}{i:Nat}{d:UInt8}(hd:x[i]?=some d)(h:d.toNat<128):Utf8.decode ⟨x.toArray⟩ i=(d.toNat,1):=by
 have hi:i<x.length:=(dV.1 hd).1;have hs:i<(ByteArray.mk x.toArray).size:=by simpa [ByteArray.size]using hi
 have e:(ByteArray.mk x.toArray)[i]'hs=d:=by
  exact(dV.1 hd).2
 have:=decode_ascii ⟨x.toArray⟩ i hs (by rw[e];exact h);rw[this,e]
theorem aQM{x:aC}{i:Nat}{d:UInt8}(hd:x[i]?=some d)(h:128<=d.toNat):128<=(Utf8.decode ⟨x.toArray⟩ i).1:=by
 have hi:i<x.length:=(dV.1 hd).1;have hs:i<(ByteArray.mk x.toArray).size:=by simpa [ByteArray.size]using hi
 have e:(ByteArray.mk x.toArray)[i]'hs=d:=by
  exact(dV.1 hd).2
 exact(decode_high ⟨x.toArray⟩ i hs (by rw[e];exact h)).1
theorem aHa(s:St)(x:aC)(KV Kp)(hk:KV s (.bool (nT x))):Den cx 273 [.str x] KV Kp s:=by
 (refine aO func273 [0,2,4,6,7,8,23] ?_;simp only[go_sem,ntmps273,f273]);intro b hb;simp only[go_sem]
 refine Ex.loop (λi=>[(0,.str x),(6,.ptr b 0)]) (λi=>s.setO b (.iter x i))
  (λi=>i<=x.length/\∀d∈x.take i,kL d=true) (λi=>x.length-i) 0 ⟨aU _,by simp⟩ ?_ (aM _) ?_
 .simp only[go_sem]
 .rintro i ⟨hi,hall⟩;refine bG (V:=[0,2,4,6,7,8,23]) _ _ _ _ ?_;by_cases hlt:i<x.length
  .obtain⟨d,hd⟩:∃d,x[i]?=some d:=⟨_,aY hlt⟩
   have bad:kL d=false->∀o,DK KV (s.setO b o) (.bool false):=λho o=>by
    have:nT x=false:=by
     rw[nT,Bool.and_eq_false_iff];refine .inl (pZ.2 λhall=>?_);rw[iH]at hall;rw[hall d (cM hd)]at ho;cases ho
    rw[this]at hk;exact aP hk (dS hb)
   by_cases hlow:d.toNat<128
   .by_cases ho:kL d=true
    .have ho':=ho;simp only[kL,cL,cU,oG,fL]at ho';obtain⟨o1,o2,o3,o4⟩:=ho';have n3:¬ d.toNat=34:=λe=>o3 (tH.1 e)
     have n4:¬ d.toNat=92:=λe=>o4 (tH.1 e)
     have e1:decide ((d.toNat:Int)<32)=false:=lD aB;have e2:decide (126<(d.toNat:Int))=false:=lD aB;have e3:decide ((d.toNat:Int)=34)=false:=lD aB;have e4:decide ((d.toNat:Int)=92)=false:=lD aB;simp only[go_sem,hlt,aBg hd hlow,e1,e2,e3,e4];refine⟨i+1,⟨by omega,λq hq=>?_⟩,by omega,aM _⟩;rw[iS,hd]at hq;simp only[cW,Option.toList_some,bW]at hq;rcases hq with hq|rfl
     .exact hall q hq
     .exact ho
    .have ho':kL d=false:=by simpa using ho
     have bad:=bad ho';by_cases o1:32<=d.toNat
     .have e1:decide ((d.toNat:Int)<32)=false:=lD aB;by_cases o2:d.toNat<=126
      .have e2:decide (126<(d.toNat:Int))=false:=lD aB;by_cases o3:d.toNat=34
       .have e3:decide ((d.toNat:Int)=34)=true:=kD aB;simp only[go_sem,hlt,aBg hd hlow,e1,e2,e3];exact bad _
       .have e3:decide ((d.toNat:Int)=34)=false:=lD aB
        have o4:d.toNat=92:=by
         have n3:¬ d=34:=λe=>o3 (by rw[e];rfl)
         simp only[kL,o1,o2,n3,uU,aAL,eW,fM,aBJ,cU]at ho';rw[ho'];rfl
        have e4:decide ((d.toNat:Int)=92)=true:=kD aB;simp only[go_sem,hlt,aBg hd hlow,e1,e2,e3,e4];exact bad _
      .have e2:decide (126<(d.toNat:Int))=true:=kD aB;simp only[go_sem,hlt,aBg hd hlow,e1,e2];exact bad _
     .have e1:decide ((d.toNat:Int)<32)=true:=kD aB;simp only[go_sem,hlt,aBg hd hlow,e1];exact bad _
   .have hh:=aQM hd aB;have e1:decide (((Utf8.decode ⟨x.toArray⟩ i).1:Int)<32)=false:=lD aB;have e2:decide (126<((Utf8.decode ⟨x.toArray⟩ i).1:Int))=true:=kD aB;simp only[go_sem,hlt,e1,e2];exact bad (by simp only[kL,show¬ d.toNat<=126 from by omega,aAL,eU,fG]) _
  .have hix:i=x.length:=by omega
   simp only[go_sem,hlt];refine aP (s2:=s) ?_ (dS hb)
   have:nT x=decide ((x.length:Int)<=200):=by
    rw[nT]
    have:x.all kL=true:=by
     rw[iH];intro d hd;rw[hix,List.take_length]at hall;exact hall d hd
    rw[this,eW];congr 1;simp;omega
   rwa[this]at hk
theorem aNn(s:St)(x:aC)(c:UInt8)(KV Kp)(hk:KV s (.str (x.dropWhile (mO c)))):Den cx 323 [.str x,.int .u8 c.toNat] KV Kp s:=by
 (refine aO func323 [0,1,4,13] ?_;simp only[go_sem,ntmps323,f323])
 refine Ex.loop (λw=>[(0,.str w),(1,.int .u8 c.toNat)]) (λ_=>s)
  (λw=>w.dropWhile (mO c)=x.dropWhile (mO c)) (λw=>w.length) x rfl ?_ (aM s) ?_
 .simp only[go_sem]
 .intro w hw;refine bG (V:=[0,1,4,13]) _ _ _ _ ?_;cases w with
  | nil =>
   simp only[go_sem,show decide ((0:Int)<((0:Nat):Int))=false from rfl];rw[<-hw]at hk;exact aN hk
  | cons b r =>
   simp only[go_sem,show decide ((0:Int)<((r.length+1:Nat):Int))=true from kD aB]
   have e:decide (b.toNat=c.toNat)=mO c b:=by
    unfold mO;congr 1;exact propext tH
   simp only[go_sem,e];(refine aQ (λh=>?_) (λh=>?_))<;>simp only[go_sem,h]
   .simp only[go_sem,show(1:Int)<=((r.length+1:Nat):Int) from by omega,show Int.toNat 1=1 from rfl];refine⟨by decide,r,?_,by omega,?_,aM s⟩
    .rw[<-hw,List.dropWhile_cons,if_pos h]
    .exact dW aB
   .rw[<-hw,List.dropWhile_cons,if_neg (by simp[h])]at hk;exact aN hk
theorem aM9(s:St)(x:aC)(c:UInt8)(KV Kp)(hc:c.toNat<128)(hk:KV s (.str (x.dropWhile (mO c)))):Den cx 314 [.str x,.str [c]] KV Kp s:=by
 (refine aO func314 [0,1,4,5,6,12,21,31] ?_;simp only[go_sem,ntmps314,f314]);cases x with
 | nil =>
  simp only[go_sem];exact aN hk
 | cons b r =>
  simp only[go_sem,show decide (((1:Nat):Int)=1)=true from rfl,show decide ((c.toNat:Int)<128)=true from kD aB];refine aNn _ _ _ _ _ ?_;simp only[go_sem];exact aN hk
theorem aFo(x:aC)(d:UInt8):gA (x++[d])=gA x * 10+(d.toNat-48):=by
 simp[gA,List.foldl_append]
theorem aJk:∀(n:Nat) (x:aC),x.length=n->xW x->gA x<10 ^ n
 | 0,x,h,_=>by have:x=[]:=fK h;subst this;simp[gA]
 | n+1,x,h,hd=>by
  have hne:x≠[]:=by rintro rfl;simp at h
  obtain⟨y,d,rfl⟩:∃y d,x=y++[d]:=⟨x.dropLast,x.getLast hne,(List.dropLast_concat_getLast hne).symm⟩
  have ih:=aJk n y (by simpa using h) (λe he=>hd e (by simp[he]));have:=hd d bD;rw[aFo,Nat.pow_succ];omega
theorem aQm(s:St)(x:aC)(KV Kp)(hl:1<=x.length)(hl2:x.length<=11)(hd:xW x)(hk:KV s (.tuple [.int .i64 (gA x),.nili])):Den cx 327 [.str x] KV Kp s:=by
 obtain⟨b,r,rfl⟩:∃b r,x=b::r:=by
  cases x with
  | nil=>simp at hl
  | cons b r=>exact⟨b,r,rfl⟩
 have hb:=hd b bD;(refine aO func327 [0,2,3,4,5,6,8,9,10,30,39,44,47,48,49,50,56,66] ?_;simp only[go_sem,ntmps327,f327]);have e1:decide ((0:Int)<((r.length+1:Nat):Int))=true:=kD aB;have e2:decide (((r.length+1:Nat):Int)<19)=true:=kD (by simp at hl2;omega);have e3:decide ((b.toNat:Int)=45)=false:=lD aB;have e4:decide ((b.toNat:Int)=43)=false:=lD aB;simp only[go_sem,e1,e2,e3,e4];refine⟨by unfold maxLen;simp at hl2;omega,?_⟩;have hx:(b::r).length=r.length+1:=rfl;generalize hxx:b::r=x at *
 refine Ex.loop (λi=>[(5,.str x),(6,.int .i64 (gA (x.take i):Nat)),(47,.list none (x.map λc=>.int .u8 c.toNat)),(48,.int .i64 ((r.length+1:Nat))),(49,.int .i64 (i:Nat)),(3,.nili)]) (λ_=>s)
  (λi=>i<=x.length) (λi=>x.length-i) 0 (aU _) ?_ (aM s) ?_
 .simp only[go_sem];subst hxx;exact⟨rfl,rfl,rfl⟩
 .intro i hi;refine bG (V:=[0,2,3,4,5,6,8,9,10,30,39,44,47,48,49,50,56,66]) _ _ _ _ ?_;simp only[go_sem];(refine aQ (λh=>?_) (λh=>?_))<;>simp only[go_sem,h]
  .have hix:i<x.length:=by simp at h;omega
   obtain⟨d,hdd⟩:∃d,x[i]?=some d:=⟨_,aY hix⟩
   have hdig:=hd d (cM hdd)
   have f1:IntKind.u8.wrap ((d.toNat:Int)-48)=((d.toNat-48:Nat):Int):=by
    have e0:((d.toNat:Int)-48) % 2 ^ 8=(d.toNat:Int)-48:=by omega
    simp only[IntKind.wrap,IntKind.signed,IntKind.bits,eU,cJ,if_false,e0];omega
   have hn:gA (x.take i)<10 ^ 11:=by
    have h1:=aJk (x.take i).length (x.take i) rfl (λe he=>hd e (qX he));have h2:(x.take i).length<=11:=by rw[bK];omega
    exact Nat.lt_of_lt_of_le h1 (Nat.pow_le_pow_right aD h2)
   have f2:decide ((9:Int)<((d.toNat-48:Nat):Int))=false:=lD aB
   have f3:IntKind.i64.wrap (((gA (x.take i):Nat):Int) * 10)=((gA (x.take i) * 10:Nat):Int):=by
    rw[iU _ aB aB];omega
   have f4:IntKind.i64.wrap ((d.toNat-48:Nat):Int)=((d.toNat-48:Nat):Int):=iU _ aB aB
   have f5:IntKind.i64.wrap (((gA (x.take i) * 10:Nat):Int)+((d.toNat-48:Nat):Int))=((gA (x.take (i+1)):Nat):Int):=by
    rw[iS,hdd];show _=((gA (x.take i++[d]):Nat):Int);rw[aFo,iU _ aB aB];omega
   simp only[go_sem,hdd,hix,f1,f2,f3,f4,f5,cF i aB];exact⟨i+1,by omega,by omega,⟨rfl,rfl⟩,aM s⟩
  .have hix:i=x.length:=by simp at h;omega
   have h0:x[0]?=some b:=by rw[<-hxx];rfl
   have hl0:0<x.length:=by omega
   simp only[go_sem,h0,hl0,e3];rw[hix,List.take_length];exact aN hk
theorem aHF(s:St)(x:aC)(KV Kp)(hl:1<=x.length)(hl2:x.length<=11)(hd:xW x)(hk:KV s (.tuple [.int .i64 (gA x),.nili])):Den cx 315 [.str x] KV Kp s:=by
 (refine aO func315 [0,2,3,4,5,12] ?_;simp only[go_sem,ntmps315,f315]);refine aQm _ _ _ _ hl hl2 hd ?_;simp only[go_sem];exact aN hk
end Go.AV
