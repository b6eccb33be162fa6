/-
  Part of the proof of DefBlanks.
-/
import Derived.Test.YtamikhobdffnfaaGreatDoorBl07
import Derived.Lib.Bytealg
import Derived.Lib.ItoaNum
import Derived.Test.YtamikhobdffnfaaGreatDoorBl10
set_option linter.all false
set_option maxRecDepth 1000000
set_option maxHeartbeats 40000000
section
namespace Go.AV
open Go
attribute [go_sem] Nat.reduceLT Nat.reduceEqDiff Nat.reduceBEq Nat.reduceAdd Nat.reduceLeDiff Nat.reduceMul reduceIte reduceCtorEq List.map true_and and_true List.elem decide_true decide_false Bool.not_true Bool.not_false Nat.le_refl gC1 gC3 List.getElem?_cons_zero List.getElem?_cons_succ Nat.zero_add Nat.add_zero gD2 gD3 List.set_cons_zero List.set_cons_succ List.take_succ_cons List.take_zero List.drop_succ_cons List.take_nil Nat.succ_eq_add_one Int.le_refl Int.toNat_zero Nat.sub_zero Nat.zero_lt_succ Bool.and_true Bool.true_and Bool.and_false Bool.false_and
abbrev Str:=List UInt8
structure Fault where
 code:Int
 name:Str
 line:Int
 col:Int
 deriving DecidableEq
def Fault.none:Fault:=⟨0,[],0,0⟩
def Fault.cs (f:Fault):List A:=[.int .i64 f.code,.str f.name,.int .i64 f.line,.int .i64 f.col]
def Fault.enc (f:Fault):A:=.agg f.cs
structure Tok where
 kind:Int
 text:Str
 n:Int
 line:Int
 col:Int
 deriving DecidableEq
def Tok.cs (t:Tok):List A:=[.int .i64 t.kind,.str t.text,.int .i64 t.n,.int .i64 t.line,.int .i64 t.col]
def Tok.enc (t:Tok):A:=.agg t.cs
inductive Tm where
 | mk (kind n:Int) (text sort:Str) (kids rest:List Tm)
def Tm.kind:Tm→Int|.mk k _ _ _ _ _=>k
def Tm.n:Tm→Int|.mk _ n _ _ _ _=>n
def Tm.text:Tm→Str|.mk _ _ t _ _ _=>t
def Tm.sort:Tm→Str|.mk _ _ _ s _ _=>s
def Tm.kids:Tm→List Tm|.mk _ _ _ _ ks _=>ks
def Tm.rest:Tm→List Tm|.mk _ _ _ _ _ rs=>rs
mutual
def Tm.enc:Tm→A
 | .mk k n t s ks rs=>.agg [.int .i64 k,.int .i64 n,.str t,.str s,.list none (Tm.encs ks),.list none (Tm.encs rs)]
def Tm.encs:List Tm→List A
 | []=>[]
 | t::r=>t.enc::Tm.encs r
end
theorem Tm.encs_map:∀ l:List Tm,Tm.encs l=l.map Tm.enc
 | []=>rfl
 | t::r=>by rw[Tm.encs,Tm.encs_map r];rfl
def Tm.cs (t:Tm):List A:=[.int .i64 t.kind,.int .i64 t.n,.str t.text,.str t.sort,.list none (t.kids.map Tm.enc),.list none (t.rest.map Tm.enc)]
theorem Tm.enc_eq (t:Tm):t.enc=.agg t.cs:=by
 cases t;simp only[Tm.enc,Tm.cs,Tm.kind,Tm.n,Tm.text,Tm.sort,Tm.kids,Tm.rest,Tm.encs_map]
structure Below where
 low:Str
 high:Str
 deriving DecidableEq
def Below.cs (b:Below):List A:=[.str b.low,.str b.high]
def Below.enc (b:Below):A:=.agg b.cs
structure Piece where
 text:Str
 sort:Str
 deriving DecidableEq
def Piece.cs (b:Piece):List A:=[.str b.text,.str b.sort]
def Piece.enc (b:Piece):A:=.agg b.cs
structure Opr where
 name:Str
 args:List Str
 sort:Str
 pieces:List Piece
 prec:Int
 assoc:Int
 strict:List Int
 deriving DecidableEq
def Opr.cs (o:Opr):List A:=[.str o.name,.list none (o.args.map .str),.str o.sort,.list none (o.pieces.map Piece.enc),.int .i64 o.prec,.int .i64 o.assoc,.list none (o.strict.map (.int .i64))]
def Opr.enc (o:Opr):A:=.agg o.cs
structure Sig where
 sorts:List Str
 below:List Below
 ops:List Opr
 funs:List Opr
 values:List Str
def Sig.cs (s:Sig):List A:=[.list none (s.sorts.map .str),.list none (s.below.map Below.enc),.list none (s.ops.map Opr.enc),.list none (s.funs.map Opr.enc),.list none (s.values.map .str)]
def Sig.enc (s:Sig):A:=.agg s.cs
structure Eqn where
 left:Tm
 right:Tm
 cond:List Tm
 line:Int
 col:Int
def Eqn.cs (e:Eqn):List A:=e.left.cs++(e.right.cs++[.list none (e.cond.map Tm.enc),.int .i64 e.line,.int .i64 e.col])
def Eqn.enc (e:Eqn):A:=.agg e.cs
structure Cel where
 name:Str
 sort:Str
 init:Tm
 line:Int
 col:Int
def Cel.cs (c:Cel):List A:=.str c.name::.str c.sort::(c.init.cs++[.int .i64 c.line,.int .i64 c.col])
def Cel.enc (c:Cel):A:=.agg c.cs
structure Part where
 cell:Str
 at_:Str
 left:Tm
 right:List Tm
 line:Int
 col:Int
def Part.cs (p:Part):List A:=.str p.cell::.str p.at_::(p.left.cs++[.list none (p.right.map Tm.enc),.int .i64 p.line,.int .i64 p.col])
def Part.enc (p:Part):A:=.agg p.cs
structure Fresh where
 cells:List Tm
def Fresh.cs (f:Fresh):List A:=[.list none (f.cells.map Tm.enc)]
def Fresh.enc (f:Fresh):A:=.agg f.cs
structure Rul where
 name:Str
 parts:List Part
 cond:List Tm
 new:List Fresh
 drop:List Str
 line:Int
 col:Int
def Rul.cs (r:Rul):List A:=[.str r.name,.list none (r.parts.map Part.enc),.list none (r.cond.map Tm.enc),.list none (r.new.map Fresh.enc),.list none (r.drop.map .str),.int .i64 r.line,.int .i64 r.col]
def Rul.enc (r:Rul):A:=.agg r.cs
structure Dfn where
 name:Str
 sig:Sig
 eqs:List Eqn
 once:List Cel
 kind:Str
 many:List Cel
 rules:List Rul
 start:Str
 watch:Str
def Dfn.cs (d:Dfn):List A:=.str d.name::(d.sig.cs++[.list none (d.eqs.map Eqn.enc),.list none (d.once.map Cel.enc),.str d.kind,.list none (d.many.map Cel.enc),.list none (d.rules.map Rul.enc),.str d.start,.str d.watch])
def Dfn.enc (d:Dfn):A:=.agg d.cs
attribute [go_sem] Fault.enc Fault.cs Tok.enc Tok.cs Tm.enc_eq Tm.cs Below.enc Below.cs Piece.enc Piece.cs Opr.enc Opr.cs Sig.enc Sig.cs Eqn.enc Eqn.cs Cel.enc Cel.cs Part.enc Part.cs Fresh.enc Fresh.cs Rul.enc Rul.cs Dfn.enc Dfn.cs
mutual
def Tm.same:Tm→Tm→Bool
 | .mk k n t s ks rs,.mk k' n' t' s' ks' rs'=>decide (k=k')&&(decide (n=n')&&(decide (t=t')&&(decide (s=s')&&(Tm.sames ks ks'&&Tm.sames rs rs'))))
def Tm.sames:List Tm→List Tm→Bool
 | [],[]=>true
 | a::l,b::r=>Tm.same a b&&Tm.sames l r
 | _,_=>false
end
theorem Tm.size_kids {t x:Tm} (h:x∈t.kids):SizeOf.sizeOf x<SizeOf.sizeOf t:=by
 cases t;have:=List.sizeOf_lt_of_mem h;simp only[Tm.kids] at this;simp only[Tm.mk.sizeOf_spec];omega
theorem Tm.size_rest {t x:Tm} (h:x∈t.rest):SizeOf.sizeOf x<SizeOf.sizeOf t:=by
 cases t;have:=List.sizeOf_lt_of_mem h;simp only[Tm.rest] at this;simp only[Tm.mk.sizeOf_spec];omega
end Go.AV
end
section
namespace Go.AV
open Go
def isLet (c:Int):Bool:=(decide (97≤c)&&decide (c≤122))||(decide (65≤c)&&decide (c≤90))
def isPart (c:Int):Bool:=isLet c||((decide (48≤c)&&decide (c≤57))||decide (c=95))
def isName (s:List UInt8):Bool:=match s with
 | []=>false
 | c::_=>decide (s.length≤40)&&(isLet c.toNat&&s.all fun c=>isPart c.toNat)
def hasPre (x p:Str):Bool:=decide (p.length≤x.length)&&decide (x.take p.length=p)
def lastTo (x:Str) (c:UInt8):Nat→Int
 | 0=>-1
 | n+1=>if x[n]?=some c then n else lastTo x c n
def isDig (c:Int):Bool:=decide (48≤c)&&decide (c≤57)
def adv:Nat × Nat→Str→Nat × Nat
 | p,[]=>p
 | (l,c),b::r=>if b=10 then adv (l+1,1) r else adv (l,c+1) r
def isBlank (b:UInt8):Bool:=decide (b=32)||(decide (b=9)||(decide (b=10)||decide (b=13)))
def blk:Nat→Str→Nat
 | 0,_=>0
 | _+1,[]=>0
 | f+1,b::r=>if isBlank b=true then 1+blk f r
  else if hasPre (b::r) [47,47]=true then ((b::r).takeWhile (fun c=>!decide (c=10))).length+blk f ((b::r).drop ((b::r).takeWhile (fun c=>!decide (c=10))).length)
  else 0
def blks (w:Str):Nat:=blk w.length w
def okB (b:UInt8):Bool:=decide (32≤b.toNat)&&(decide (b.toNat≤126)&&(!decide (b=34)&&!decide (b=92)))
def isStr (x:Str):Bool:=x.all okB&&decide (x.length≤200)
def eqB (c:UInt8) (b:UInt8):Bool:=decide (b=c)
def numOf (x:Str):Nat:=x.foldl (fun n d=>n * 10+(d.toNat-48)) 0
def digits (x:Str):Prop:=∀ d,d∈x→48≤d.toNat∧d.toNat≤57
def numTok (x:Str):Tok × Nat × Bool :=
 let n:=(x.takeWhile fun c=>isDig c.toNat).length
 let g:=(x.take n).dropWhile (eqB 48)
 if 10<g.length∨(∃ c,x[n]?=some c∧isPart c.toNat=true) then (⟨0,[],0,0,0⟩,0,false)
 else (⟨2,[],numOf g,0,0⟩,n,decide (numOf g≤2147483647))
def signTo (w:Str):List Str→Nat→Nat
 | [],n=>n
 | x::r,n=>signTo w r (if n<x.length∧hasPre w x=true then x.length else n)
def tokOf (w:Str) (sg:List Str) (op:Bool):Tok × Nat × Bool :=
 match w with
 | []=>(⟨0,[],0,0,0⟩,0,false)
 | c::r =>
  if isName [c] then
   let n:=(w.takeWhile fun c=>isPart c.toNat).length
   (⟨1,w.take n,0,0,0⟩,n,decide (n≤40))
  else if isDig c.toNat then numTok w
  else if c=34 then
   let n:=(Lib.indexByte r 34+2).toNat
   (⟨3,r.take (n-2),0,0,0⟩,n,decide (1<n)&&isStr (r.take (n-2)))
  else
   let n:=signTo w sg 0
   let n:=if n=0∧op=true∧(c=39∨c=95) then 1 else n
   (⟨4,w.take n,0,0,0⟩,n,decide (0<n))
def builtInS:List UInt8:=[97,100,100,32,115,117,98,32,109,117,108,32,100,105,118,32,109,111,100,32,110,101,103,32,108,116,32,108,101,32,103,116,32,103,101,32,101,113,32,110,101,32,97,110,100,32,111,114,32,110,111,116,32,112,105,99,107,32,99,97,116,32,108,101,110,103,116,104,32,116,101,120,116,32,106,111,105,110,32,103,101,116,32,112,117,116,32,104,97,115,32,100,101,108,32,107,101,121,115,32,115,105,122,101,32,105,115,32,105,115,118,97,108,117,101]
def builtInW:List (List UInt8):=[[97,100,100],[115,117,98],[109,117,108],[100,105,118],[109,111,100],[110,101,103],[108,116],[108,101],[103,116],[103,101],[101,113],[110,101],[97,110,100],[111,114],[110,111,116],[112,105,99,107],[99,97,116],[108,101,110,103,116,104],[116,101,120,116],[106,111,105,110],[103,101,116],[112,117,116],[104,97,115],[100,101,108],[107,101,121,115],[115,105,122,101],[105,115],[105,115,118,97,108,117,101]]
def signsS:List UInt8:=[61,62,32,45,62,32,58,32,59,32,44,32,46,32,64,32,124,32,40,32,41,32,91,32,93,32,123,32,125,32,60,32,61,32,45,32,36]
def signsW:List (List UInt8):=[[61,62],[45,62],[58],[59],[44],[46],[64],[124],[40],[41],[91],[93],[123],[125],[60],[61],[45],[36]]
def reservedS:List UInt8:=[108,97,110,103,117,97,103,101,32,115,111,114,116,32,115,117,98,115,111,114,116,32,118,97,108,117,101,32,111,112,32,102,117,110,32,108,101,116,32,105,102,32,115,116,97,114,116,32,99,101,108,108,32,109,97,110,121,32,119,97,116,99,104,32,114,117,108,101,32,112,114,101,99,32,108,101,102,116,32,114,105,103,104,116,32,115,116,114,105,99,116,32,110,101,119,32,100,114,111,112,32,116,114,117,101,32,102,97,108,115,101]
def reservedW:List (List UInt8):=[[108,97,110,103,117,97,103,101],[115,111,114,116],[115,117,98,115,111,114,116],[118,97,108,117,101],[111,112],[102,117,110],[108,101,116],[105,102],[115,116,97,114,116],[99,101,108,108],[109,97,110,121],[119,97,116,99,104],[114,117,108,101],[112,114,101,99],[108,101,102,116],[114,105,103,104,116],[115,116,114,105,99,116],[110,101,119],[100,114,111,112],[116,114,117,101],[102,97,108,115,101]]
inductive Lx where
 | ok (l:List Tok)
 | bad (f:Fault)
def lexA (sg:List Str) (op:Bool):Nat→Str→Nat × Nat→List Tok→Lx
 | _,[],_,acc=>.ok acc
 | 0,_::_,_,acc=>.ok acc
 | f+1,c::r,p,acc=>match tokOf (c::r) sg op with
  | (t,n,true)=>lexA sg op f (((c::r).drop n).drop (blks ((c::r).drop n))) (adv (adv p ((c::r).take n)) (((c::r).drop n).take (blks ((c::r).drop n))))
    (acc++[⟨t.kind,t.text,t.n,p.1,p.2⟩])
  | (_,_,false)=>.bad ⟨10,[c],p.1,p.2⟩
def lexS (sg:List Str) (op:Bool) (w:Str):Lx:=lexA sg op w.length (w.drop (blks w)) (adv (1,1) (w.take (blks w))) []
end Go.AV
end
section
namespace Go.AV
open Go
def Tok.name (t:Tok):Str:=if t.kind=2 then Lib.itoa t.n else t.text
def isTok (t:Tok) (x:Str):Bool:=(decide (t.kind=4)||decide (t.kind=1))&&decide (t.text=x)
def isT (x:Str):List Tok→Bool
 | []=>false
 | t::_=>isTok t x
def Tok.free (t:Tok):Bool:=decide (t.kind=1)&&!decide (t.text∈reservedW)
def failAt (fin:Fault) (code:Int):List Tok→Fault
 | []=>fin
 | t::_=>⟨code,t.name,t.line,t.col⟩
def limAt (fin:Fault):List Tok→Fault
 | []=>fin
 | t::_=>⟨3,[],t.line,t.col⟩
inductive Rd (α:Type) where
 | ok (a:α) (w:List Tok) (n:Nat)
 | bad (f:Fault)
def Rd.bind {α β:Type} (r:Rd α) (k:α→List Tok→Nat→Rd β):Rd β:=match r with
 | .ok a w n=>k a w n
 | .bad f=>.bad f
def Rd.to {α:Type} (r:Rd α) (k:α→List Tok→Nat→Prop) (b:Fault→Prop):Prop:=match r with
 | .ok a w n=>k a w n
 | .bad f=>b f
theorem Rd.bind_to {α β:Type} (r:Rd α) (k:α→List Tok→Nat→Rd β) (p:β→List Tok→Nat→Prop) (b:Fault→Prop) :
  (r.bind k).to p b=r.to (fun a w n=>(k a w n).to p b) b:=by cases r<;>rfl
theorem Rd.to_mono {α:Type} {r:Rd α} {p p':α→List Tok→Nat→Prop} {b b':Fault→Prop} (h:r.to p b) (hp:∀ a w n,p a w n→p' a w n) (hb:∀ f,b f→b' f):r.to p' b':=by
 cases r with
 | ok a w n=>exact hp a w n h
 | bad f=>exact hb f h
theorem Rd.ok_to {α:Type} (a:α) (w:List Tok) (n:Nat) (p:α→List Tok→Nat→Prop) (b:Fault→Prop):(Rd.ok a w n).to p b=p a w n:=rfl
theorem Rd.bad_to {α:Type} (f:Fault) (p:α→List Tok→Nat→Prop) (b:Fault→Prop):(Rd.bad f:Rd α).to p b=b f:=rfl
theorem Rd.ite_to {α:Type} (c:Prop) [Decidable c] (x y:Rd α) (p:α→List Tok→Nat→Prop) (b:Fault→Prop):(if c then x else y).to p b=if c then x.to p b else y.to p b:=by
 split<;>rfl
section
variable (lk:Bool) (fin:Fault)
def wantR (x:Str) (w:List Tok) (n:Nat):Rd Unit:=if isT x w=true then .ok () w.tail n else .bad (failAt fin 11 w)
def nameR:List Tok→Nat→Rd Str
 | [],_=>.bad fin
 | t::w,n=>if t.free=true then .ok t.text w n else .bad (failAt fin 11 (t::w))
def numberR (most:Int):List Tok→Nat→Rd Int
 | [],_=>.bad fin
 | t::w,n=>if t.kind=2 then (if t.n<1∨most<t.n then .bad (failAt fin 20 (t::w)) else .ok t.n w n) else .bad (failAt fin 11 (t::w))
def roomR (have_ most:Nat) (w:List Tok) (n:Nat):Rd Unit:=if most≤have_ then .bad (limAt fin w) else .ok () w n
def loopR {σ:Type} (sep:Str) (one:σ→List Tok→Nat→Rd σ):Nat→σ→List Tok→Nat→Rd σ
 | 0,_,_,_=>.bad fin
 | f+1,a,w,n=>(one a w n).bind fun a w n=>if isT sep w=true then loopR sep one f a w.tail n else .ok a w n
def listR {α:Type} (one:List α→List Tok→Nat→Rd α) (acc:List α) (w:List Tok) (n:Nat):Rd (List α) :=
 loopR fin [44] (fun acc w n=>(one acc w n).bind fun a w n=>.ok (acc++[a]) w n) (w.length+1) acc w n
def Tok.begins (t:Tok):Bool :=
 if t.kind=2∨t.kind=3 then true
 else if t.kind=1 then !decide (t.text∈reservedW)||(decide (t.text=[116,114,117,101])||decide (t.text=[102,97,108,115,101]))
 else decide (t.text∈[[45],[39],[95],[91],[123],[36]])
def isId (x:Str):Bool:=isName x&&(match x with|c::_=>decide (97≤c.toNat)&&decide (c.toNat≤122)|[]=>false)&&!decide (x=[116,114,117,101])&&!decide (x=[102,97,108,115,101])
def nodeR (first:Tok) (w:List Tok) (n:Nat):Rd Unit:=if 2000<n+1 then .bad ⟨3,[],first.line,first.col⟩ else .ok () w (n+1)
def restR (first:Tok) (last:Bool) (sort:Str) (w:List Tok) (n:Nat):Rd (List Tm) :=
 if isT [124] w=true then
  match w.tail with
  | []=>.bad fin
  | t::w=>if t.free=true then (if last=true then .bad ⟨19,t.text,t.line,t.col⟩ else (nodeR first w n).bind fun _ w n=>.ok [.mk 6 0 t.text sort [] []] w n) else .bad (failAt fin 11 (t::w))
 else .ok [] w n
def kidR (first:Tok) (tm:List Tok→Nat→Rd Tm) (acc:List Tm) (w:List Tok) (n:Nat):Rd Tm :=
 if acc.length=8 then
  match w with
  | []=>.bad fin
  | t::w=>if t.begins=true then .bad (if lk=true∧2000≤n then ⟨3,[],first.line,first.col⟩ else ⟨3,[],t.line,t.col⟩) else tm (t::w) n
 else tm w n
def namedR (first:Tok) (tm:List Tok→Nat→Rd Tm) (t:Tok) (w:List Tok) (n:Nat):Rd Tm :=
 if t.text=[116,114,117,101] then .ok (.mk 2 1 [] [] [] []) w n
 else if t.text=[102,97,108,115,101] then .ok (.mk 2 0 [] [] [] []) w n
 else if isT [58] w=true then (nameR fin w.tail n).bind fun x w n=>.ok (.mk 6 0 t.text x [] []) w n
 else (wantR fin [40] w n).bind fun _ w n =>
  if isT [41] w=true then .ok (.mk 5 0 t.text [] [] []) w.tail n
  else (listR fin (kidR lk fin first tm) [] w n).bind fun l w n=>(wantR fin [41] w n).bind fun _ w n=>.ok (.mk 5 0 t.text [] l []) w n
def entR (tm:List Tok→Nat→Rd Tm) (acc:List Tm) (w:List Tok) (n:Nat):Rd (List Tm) :=
 (tm w n).bind fun k w n=>(wantR fin [45,62] w n).bind fun _ w n=>(tm w n).bind fun v w n=>.ok (acc++[k,v]) w n
def signedR (first:Tok) (tm:List Tok→Nat→Rd Tm) (last:Bool) (t:Tok) (w:List Tok) (n:Nat):Rd Tm :=
 if t.text=[45] then
  match w with
  | []=>.bad fin
  | u::w=>if u.kind=2∧u.line=t.line∧u.col=t.col+1 then .ok (.mk 1 (-u.n) [] [] [] []) w n else .bad (failAt fin 11 (u::w))
 else if t.text=[39] then
  match w with
  | []=>.bad fin
  | u::w=>if u.free=true∧isId u.text=true then .ok (.mk 4 0 u.text [] [] []) w n else .bad (failAt fin 11 (u::w))
 else if t.text=[91] then
  (if isT [124] w = true ∨ isT [93] w = true then Rd.ok [] w n else listR fin (fun _ => tm) [] w n).bind fun l w n =>
   (restR fin first last [76,105,115,116] w n).bind fun r w n=>(wantR fin [93] w n).bind fun _ w n=>.ok (.mk 7 0 [] [] l r) w n
 else if t.text=[123] then
  (if isT [124] w = true ∨ isT [125] w = true then Rd.ok [] w n else loopR fin [44] (entR fin tm) (w.length + 1) [] w n).bind fun l w n =>
   (restR fin first last [77,97,112] w n).bind fun r w n=>(wantR fin [125] w n).bind fun _ w n=>.ok (.mk 8 0 [] [] l r) w n
 else .ok (.mk 6 0 t.text [65,110,121] [] []) w n
def termR (first:Tok):Nat→List Tok→Nat→Rd Tm
 | _,[],_=>.bad fin
 | 0,t::w,_=>if t.begins=true then .bad (failAt fin 19 (t::w)) else .bad (failAt fin 11 (t::w))
 | k+1,t::w,n =>
  if t.begins=true then
   (nodeR first w n).bind fun _ w n =>
    if t.kind=2 then .ok (.mk 1 t.n [] [] [] []) w n
    else if t.kind=3 then .ok (.mk 3 0 t.text [] [] []) w n
    else if t.kind=1 then namedR lk fin first (termR first k) t w n
    else signedR fin first (termR first k) (decide (k=0)) t w n
  else .bad (failAt fin 11 (t::w))
def wholeR (w:List Tok) (n:Nat):Rd Tm:=match w with
 | []=>.bad fin
 | t::_=>match termR lk fin t 60 w 0 with
  | .ok a w _=>.ok a w n
  | .bad f=>.bad f
def condsR (w:List Tok) (n:Nat):Rd (List Tm) :=
 if isT [105,102] w=true then
  listR fin (fun acc w n=>match w with
   | []=>.bad fin
   | t::r=>if t.begins=true then (roomR fin acc.length 20 (t::r) n).bind fun _ w n=>wholeR lk fin w n else wholeR lk fin (t::r) n) [] w.tail n
 else .ok [] w n
def someR {α:Type} (most have_:Nat) (w:List Tok) (n:Nat) (k:List Tok→Nat→Rd α):Rd α:=match w with
 | []=>.bad fin
 | t::r=>if t.free=true∧most≤have_ then .bad (limAt fin (t::r)) else k (t::r) n
def cellR (w:List Tok) (n:Nat):Rd Cel:=match w with
 | []=>.bad fin
 | t::r=>(nameR fin (t::r) n).bind fun x w n=>(wantR fin [58] w n).bind fun _ w n=>(nameR fin w n).bind fun y w n=>(wantR fin [61] w n).bind fun _ w n =>
   (wholeR lk fin w n).bind fun i w n=>.ok ⟨x,y,i,t.line,t.col⟩ w n
def piecesR:Nat→List Piece→List Str→Bool→List Tok→Nat→Rd (List Piece × List Str × Bool)
 | 0,_,_,_,_,_=>.bad fin
 | f+1,ps,az,tx,w,n =>
  if isT [45,62] w=true then .ok (ps,az,tx) w.tail n
  else match w with
   | []=>.bad fin
   | t::w=>if t.kind=3∨t.free=true then
     (if 20≤ps.length then .bad (limAt fin (t::w))
     else if t.kind=3 then piecesR f (ps++[⟨t.text,[]⟩]) az true w n
     else if 8≤az.length then .bad (limAt fin (t::w))
     else piecesR f (ps++[⟨[],t.text⟩]) (az++[t.text]) tx w n)
    else .bad (failAt fin 11 (t::w))
def attrsR:Nat→Opr→List Tok→Nat→Rd Opr
 | 0,_,_,_=>.bad fin
 | f+1,o,w,n =>
  if isT [46] w=true then .ok o w n
  else match w with
   | []=>.bad fin
   | t::w =>
    if ¬ t.kind=1 then .bad (failAt fin 11 (t::w))
    else if t.text=[112,114,101,99] then
     (if 0<o.prec then .bad (failAt fin 14 (t::w)) else (numberR fin 20 w n).bind fun m w n=>attrsR f { o with prec:=m } w n)
    else if t.text=[108,101,102,116] then
     (if o.assoc=0 then attrsR f { o with assoc:=1 } w n else .bad (failAt fin 14 (t::w)))
    else if t.text=[114,105,103,104,116] then
     (if o.assoc=0 then attrsR f { o with assoc:=2 } w n else .bad (failAt fin 14 (t::w)))
    else if t.text=[115,116,114,105,99,116] then
     (if 0 < o.strict.length then .bad (failAt fin 14 (t :: w)) else
      (wantR fin [40] w n).bind fun _ w n=>(listR fin (fun _=>numberR fin 8) [] w n).bind fun l w n=>(wantR fin [41] w n).bind fun _ w n=>attrsR f { o with strict:=l } w n)
    else .bad (failAt fin 11 (t::w))
def opR (w:List Tok) (n:Nat):Rd Opr :=
 (nameR fin w n).bind fun x w n => (wantR fin [58] w n).bind fun _ w n => (piecesR fin (w.length + 1) [] [] false w n).bind fun p w n =>
  (nameR fin w n).bind fun y w n=>attrsR fin (w.length+1) ⟨x,p.2.1,y,if p.2.2=true then p.1 else [],0,0,[]⟩ w n
def argsR:Nat→List Str→List Tok→Nat→Rd (List Str)
 | 0,_,_,_=>.bad fin
 | f+1,az,w,n =>
  if isT [45,62] w=true then .ok az w.tail n
  else (someR fin 8 az.length w n fun w n=>nameR fin w n).bind fun x w n=>argsR f (az++[x]) w n
def funR (w:List Tok) (n:Nat):Rd Opr :=
 (nameR fin w n).bind fun x w n => (wantR fin [58] w n).bind fun _ w n => (argsR fin (w.length + 1) [] w n).bind fun az w n =>
  (nameR fin w n).bind fun y w n=>.ok ⟨x,az,y,[],0,0,[]⟩ w n
def partR (r:Rul) (w:List Tok) (n:Nat):Rd Rul:=match w with
 | []=>.bad fin
 | t::w =>
  if isTok t [110,101,119]=true then
   (wantR fin [40] w n).bind fun _ w n=>(listR fin (fun _=>wholeR lk fin) [] w n).bind fun l w n=>(wantR fin [41] w n).bind fun _ w n=>.ok { r with new:=r.new++[⟨l⟩] } w n
  else if isTok t [100,114,111,112]=true then
   (wantR fin [64] w n).bind fun _ w n=>(nameR fin w n).bind fun x w n=>.ok { r with drop:=r.drop++[x] } w n
  else
   (nameR fin (t :: w) n).bind fun x w n =>
    (if isT [64] w = true then nameR fin w.tail n else Rd.ok [] w n).bind fun y w n => (wantR fin [58] w n).bind fun _ w n => (wholeR lk fin w n).bind fun l w n =>
     (if isT [61,62] w = true then (wholeR lk fin w.tail n).bind fun u w n => Rd.ok [u] w n else Rd.ok [] w n).bind fun rs w n =>
      .ok { r with parts:=r.parts++[⟨x,y,l,rs,t.line,t.col⟩] } w n
def partsR (c:Rul × Nat) (w:List Tok) (n:Nat):Rd (Rul × Nat):=match w with
 | []=>.bad fin
 | t::r=>if (t.kind=1∧(¬ t.text∈reservedW∨t.text=[110,101,119]∨t.text=[100,114,111,112]))∧20≤c.2 then .bad (limAt fin (t::r))
  else (partR lk fin c.1 (t::r) n).bind fun x w n=>.ok (x,c.2+1) w n
def ruleR (line col:Int) (w:List Tok) (n:Nat):Rd Rul :=
 (nameR fin w n).bind fun x w n => (wantR fin [58] w n).bind fun _ w n =>
  (loopR fin [59] (partsR lk fin) (w.length+1) (⟨x,[],[],[],[],line,col⟩,0) w n).bind fun c w n=>(condsR lk fin w n).bind fun l w n=>.ok { c.1 with cond:=l } w n
def placeR (d:Dfn) (t:Tok) (w:List Tok) (n:Nat):Rd Dfn :=
 if isTok t [115,116,97,114,116]=true then
  (if d.start=[] then (nameR fin w n).bind fun x w n=>.ok { d with start:=x } w n else .bad (failAt fin 14 (t::w)))
 else if isTok t [119,97,116,99,104]=true then
  (if d.watch=[] then (nameR fin w n).bind fun x w n=>.ok { d with watch:=x } w n else .bad (failAt fin 14 (t::w)))
 else if isTok t [99,101,108,108]=true then
  (if 12≤d.once.length then .bad (limAt fin (t::w)) else (cellR lk fin w n).bind fun c w n=>.ok { d with once:=d.once++[c] } w n)
 else if isTok t [109,97,110,121]=true then
  (if d.kind = [] then
   (nameR fin w n).bind fun x w n => (wantR fin [40] w n).bind fun _ w n =>
    (listR fin (fun acc w n=>someR fin 12 acc.length w n fun w n=>cellR lk fin w n) d.many w n).bind fun l w n=>(wantR fin [41] w n).bind fun _ w n=>.ok { d with kind:=x,many:=l } w n
  else .bad (failAt fin 14 (t::w)))
 else .bad (failAt fin 11 (t::w))
def itemR (d:Dfn) (w:List Tok) (n:Nat):Rd Dfn:=match w with
 | []=>.bad fin
 | t::w =>
  (if isTok t [115,111,114,116] = true then
   (listR fin (fun acc w n=>someR fin 40 acc.length w n fun w n=>nameR fin w n) d.sig.sorts w n).bind fun l w n=>Rd.ok { d with sig:={ d.sig with sorts:=l } } w n
  else if isTok t [115,117,98,115,111,114,116]=true then
   (if 200 ≤ d.sig.below.length then Rd.bad (limAt fin (t :: w)) else
    (nameR fin w n).bind fun x w n=>(wantR fin [60] w n).bind fun _ w n=>(nameR fin w n).bind fun y w n=>Rd.ok { d with sig:={ d.sig with below:=d.sig.below++[⟨x,y⟩] } } w n)
  else if isTok t [118,97,108,117,101]=true then
   (listR fin (fun _=>nameR fin) [] w n).bind fun l w n=>Rd.ok { d with sig:={ d.sig with values:=d.sig.values++l } } w n
  else if isTok t [111,112]=true∨isTok t [102,117,110]=true then
   (if 200≤d.sig.ops.length+d.sig.funs.length then Rd.bad (limAt fin (t::w))
   else if t.text=[111,112] then (opR fin w n).bind fun o w n=>Rd.ok { d with sig:={ d.sig with ops:=d.sig.ops++[o] } } w n
   else (funR fin w n).bind fun o w n=>Rd.ok { d with sig:={ d.sig with funs:=d.sig.funs++[o] } } w n)
  else if isTok t [108,101,116]=true then
   (if 300 ≤ d.eqs.length then Rd.bad (limAt fin (t :: w)) else
    (wholeR lk fin w n).bind fun l w n => (wantR fin [61] w n).bind fun _ w n => (wholeR lk fin w n).bind fun r w n => (condsR lk fin w n).bind fun c w n =>
     Rd.ok { d with eqs:=d.eqs++[⟨l,r,c,t.line,t.col⟩] } w n)
  else if isTok t [114,117,108,101]=true then
   (if 300≤d.rules.length then Rd.bad (limAt fin (t::w)) else (ruleR lk fin t.line t.col w n).bind fun r w n=>Rd.ok { d with rules:=d.rules++[r] } w n)
  else placeR lk fin d t w n).bind fun d w n=>(wantR fin [46] w n).bind fun _ w n=>.ok d w n
def itemsR:Nat→Dfn→List Tok→Nat→Rd Dfn
 | 0,_,_,_=>.bad fin
 | f+1,d,w,n=>match w with
  | []=>.ok d [] n
  | _::_=>(itemR lk fin d w n).bind fun d w n=>itemsR f d w n
def noDfn:Dfn:=⟨[],⟨[],[],[],[],[]⟩,[],[],[],[],[],[],[]⟩
def defR (w:List Tok):Rd Dfn :=
 (wantR fin [108,97,110,103,117,97,103,101] w 0).bind fun _ w n=>(nameR fin w n).bind fun x w n=>(wantR fin [46] w n).bind fun _ w n=>itemsR lk fin (w.length+1) { noDfn with name:=x } w n
end
end Go.AV
end
section
namespace Go.AV
open Go Go.Proofs
def listEq {α:Type} (r:α→α→Bool):List α→List α→Bool
 | [],[]=>true
 | a::xs,b::ys=>r a b&&listEq r xs ys
 | _,_=>false
theorem listEq_len {α:Type} {r:α→α→Bool}:∀ {xs ys:List α},xs.length≠ys.length→listEq r xs ys=false
 | [],[],h=>absurd rfl h
 | [],_::_,_=>rfl
 | _::_,[],_=>rfl
 | a::xs,b::ys,h=>by simp only[listEq,listEq_len (r:=r) (xs:=xs) (ys:=ys) (by simpa using h),Bool.and_false]
theorem listEq_iff {α:Type} {r:α→α→Bool}:∀ {xs ys:List α},xs.length=ys.length→(listEq r xs ys=true↔∀ (i:Nat) (a b:α),xs[i]?=some a→ys[i]?=some b→r a b=true)
 | [],[],_=>by simp[listEq]
 | [],_::_,h=>by simp at h
 | _::_,[],h=>by simp at h
 | a::xs,b::ys,h=>by
  rw[listEq,gD5,listEq_iff (by simpa using h)];constructor
  ·rintro ⟨h1,h2⟩ i x y hx hy;cases i with
   | zero=>simp at hx hy;subst hx;subst hy;exact h1
   | succ i=>exact h2 i x y (by simpa using hx) (by simpa using hy)
  ·intro h;exact ⟨h 0 a b (by simp) (by simp),fun i x y hx hy=>h (i+1) x y (by simpa using hx) (by simpa using hy)⟩
theorem eqFunc_den69 {α:Type} (enc:α→A) (r:α→α→Bool) (f:FuncId) (first caps:List A) (s:St) (xs ys:List α) (KV Kp)
  (hz:∀ a,∃ cs,enc a=.agg cs∧cs.length=15∧allOne cs=true)
  (hf:∀ a b s' KV Kp,a∈xs→b∈ys→s'.ge s→KV s' (.bool (r a b))→Den cx f (first++[enc a,enc b]++caps) KV Kp s')
  (hk:KV s (.bool (listEq r xs ys))):Den cx 69 [.list none (xs.map enc),.list none (ys.map enc),.fn f first caps] KV Kp s:=by
 refine Den.rlz fun hz1=>?_
 have hlw:=hz1 _ (List.mem_cons_self ..);refine Den.drop ?_;(refine Den.of_body (C:=cx) Tryz.func69 rfl rfl (gC6 rfl) ?_;refine wpC_ok (V:=[0,1,2,6,7,8,9,14,15,16,17,18,30]) _ _ _ _ ?_;simp only[go_sem,Tryz.ntmps69,Tryz.f69])
 (first|refine gC8 (fun h=>?_) (fun h=>?_)|refine gC9 (fun h=>?_) (fun h=>?_)|refine gD1 (fun h=>?_) (fun h=>?_))<;>simp only[go_sem,h]
 ·exact DK.here (by rwa[listEq_len (by intro e;simp[e] at h)] at hk)
 ·have hlen:xs.length=ys.length:=by simp at h;omega
  refine Ex.loop (fun i=>[(0,.list none (xs.map enc)),(1,.list none (ys.map enc)),(2,.fn f first caps),(15,.list none (xs.map enc)),(16,.int .i64 xs.length),(17,.int .i64 (i:Nat))]) (fun _=>s)
     (fun i=>i≤xs.length∧∀ (j:Nat) a b,j<i→xs[j]?=some a→ys[j]?=some b→r a b=true) (fun i=>xs.length-i) 0 ⟨Nat.zero_le _,fun j _ _ hj=>by omega⟩ ?_ (St.ge.refl s) ?_
  ·simp only[go_sem];exact rfl
  ·rintro i ⟨hi,hall⟩;refine wpC_ok (V:=[0,1,2,6,7,8,9,14,15,16,17,18,30]) _ _ _ _ ?_;simp only[go_sem]
   (first|refine gC8 (fun h=>?_) (fun h=>?_)|refine gC9 (fun h=>?_) (fun h=>?_)|refine gD1 (fun h=>?_) (fun h=>?_))<;>simp only[go_sem,h]
   ·have hix:i<xs.length:=by simpa using h
    have hiy:i<ys.length:=by omega
    obtain ⟨a,ha⟩:∃ a,xs[i]?=some a:=⟨_,List.getElem?_eq_getElem hix⟩
    obtain ⟨b,hb⟩:∃ b,ys[i]?=some b:=⟨_,List.getElem?_eq_getElem hiy⟩
    obtain ⟨ca,ea,la,oa⟩:=hz a;obtain ⟨cb,eb,lb,ob⟩:=hz b;simp only[go_sem,ha,ea,la,hix,oa,List.take_of_length_le (Nat.le_of_eq la)];(intro p hp;try simp only[gD6,ne_eq] at hp);simp only[go_sem,hp,oa,la,hb,eb,lb,ob,hiy,List.take_of_length_le (Nat.le_of_eq la),List.take_of_length_le (Nat.le_of_eq lb)];(intro q hq;try simp only[gD6,ne_eq] at hq);simp only[go_sem,hp,hq,oa,la,hb,eb,lb,ob,List.take_of_length_le (Nat.le_of_eq la),List.take_of_length_le (Nat.le_of_eq lb)];rw[← ea,← eb];refine hf a b _ _ _ (List.mem_of_getElem? ha) (List.mem_of_getElem? hb) (St.ge_set hq.2 (St.ge_new hp)) ?_;simp only[go_sem]
    (first|refine gC8 (fun h=>?_) (fun h=>?_)|refine gC9 (fun h=>?_) (fun h=>?_)|refine gD1 (fun h=>?_) (fun h=>?_))<;>simp only[go_sem,h]
    ·have hr:r a b=false:=by simpa using h
     refine DK.st (s2:=s) ?_ (St.ge_set hq.2 (St.ge_new hp))
     have:listEq r xs ys=false:=by
      rw[Bool.eq_false_iff];intro he;have:=(listEq_iff hlen).1 he i a b ha hb;rw[hr] at this;cases this
     rwa[this] at hk
    ·have hr:r a b=true:=by simpa using h
     refine ⟨i+1,⟨by omega,fun j x y hj hx hy=>?_⟩,by omega,?_,St.ge_set hq.2 (St.ge_new hp)⟩
     ·by_cases hji:j=i
      ·subst hji;rw[ha] at hx;rw[hb] at hy;cases hx;cases hy;exact hr
      ·exact hall j x y (by omega) hx hy
     ·simp only[go_sem,hlw.wrap (i:=i) (by simpa using hix)]
   ·have hix:i=xs.length:=by simp at h;omega
    have:listEq r xs ys=true:=(listEq_iff hlen).2 fun j x y hx hy=>hall j x y (by rw[hix];exact (List.getElem?_eq_some_iff.1 hx).1) hx hy
    exact DK.here (by rwa[this] at hk)
theorem eqFunc_den71 {α:Type} (enc:α→A) (r:α→α→Bool) (f:FuncId) (first caps:List A) (s:St) (xs ys:List α) (KV Kp)
  (hz:∀ a,∃ cs,enc a=.agg cs∧cs.length=10∧allOne cs=true)
  (hf:∀ a b s' KV Kp,a∈xs→b∈ys→s'.ge s→KV s' (.bool (r a b))→Den cx f (first++[enc a,enc b]++caps) KV Kp s')
  (hk:KV s (.bool (listEq r xs ys))):Den cx 71 [.list none (xs.map enc),.list none (ys.map enc),.fn f first caps] KV Kp s:=by
 refine Den.rlz fun hz1=>?_
 have hlw:=hz1 _ (List.mem_cons_self ..);refine Den.drop ?_;(refine Den.of_body (C:=cx) Tryz.func71 rfl rfl (gC6 rfl) ?_;refine wpC_ok (V:=[0,1,2,6,7,8,9,14,15,16,17,18,30]) _ _ _ _ ?_;simp only[go_sem,Tryz.ntmps71,Tryz.f71])
 (first|refine gC8 (fun h=>?_) (fun h=>?_)|refine gC9 (fun h=>?_) (fun h=>?_)|refine gD1 (fun h=>?_) (fun h=>?_))<;>simp only[go_sem,h]
 ·exact DK.here (by rwa[listEq_len (by intro e;simp[e] at h)] at hk)
 ·have hlen:xs.length=ys.length:=by simp at h;omega
  refine Ex.loop (fun i=>[(0,.list none (xs.map enc)),(1,.list none (ys.map enc)),(2,.fn f first caps),(15,.list none (xs.map enc)),(16,.int .i64 xs.length),(17,.int .i64 (i:Nat))]) (fun _=>s)
     (fun i=>i≤xs.length∧∀ (j:Nat) a b,j<i→xs[j]?=some a→ys[j]?=some b→r a b=true) (fun i=>xs.length-i) 0 ⟨Nat.zero_le _,fun j _ _ hj=>by omega⟩ ?_ (St.ge.refl s) ?_
  ·simp only[go_sem];exact rfl
  ·rintro i ⟨hi,hall⟩;refine wpC_ok (V:=[0,1,2,6,7,8,9,14,15,16,17,18,30]) _ _ _ _ ?_;simp only[go_sem]
   (first|refine gC8 (fun h=>?_) (fun h=>?_)|refine gC9 (fun h=>?_) (fun h=>?_)|refine gD1 (fun h=>?_) (fun h=>?_))<;>simp only[go_sem,h]
   ·have hix:i<xs.length:=by simpa using h
    have hiy:i<ys.length:=by omega
    obtain ⟨a,ha⟩:∃ a,xs[i]?=some a:=⟨_,List.getElem?_eq_getElem hix⟩
    obtain ⟨b,hb⟩:∃ b,ys[i]?=some b:=⟨_,List.getElem?_eq_getElem hiy⟩
    obtain ⟨ca,ea,la,oa⟩:=hz a;obtain ⟨cb,eb,lb,ob⟩:=hz b;simp only[go_sem,ha,ea,la,hix,oa,List.take_of_length_le (Nat.le_of_eq la)];(intro p hp;try simp only[gD6,ne_eq] at hp);simp only[go_sem,hp,oa,la,hb,eb,lb,ob,hiy,List.take_of_length_le (Nat.le_of_eq la),List.take_of_length_le (Nat.le_of_eq lb)];(intro q hq;try simp only[gD6,ne_eq] at hq);simp only[go_sem,hp,hq,oa,la,hb,eb,lb,ob,List.take_of_length_le (Nat.le_of_eq la),List.take_of_length_le (Nat.le_of_eq lb)];rw[← ea,← eb];refine hf a b _ _ _ (List.mem_of_getElem? ha) (List.mem_of_getElem? hb) (St.ge_set hq.2 (St.ge_new hp)) ?_;simp only[go_sem]
    (first|refine gC8 (fun h=>?_) (fun h=>?_)|refine gC9 (fun h=>?_) (fun h=>?_)|refine gD1 (fun h=>?_) (fun h=>?_))<;>simp only[go_sem,h]
    ·have hr:r a b=false:=by simpa using h
     refine DK.st (s2:=s) ?_ (St.ge_set hq.2 (St.ge_new hp))
     have:listEq r xs ys=false:=by
      rw[Bool.eq_false_iff];intro he;have:=(listEq_iff hlen).1 he i a b ha hb;rw[hr] at this;cases this
     rwa[this] at hk
    ·have hr:r a b=true:=by simpa using h
     refine ⟨i+1,⟨by omega,fun j x y hj hx hy=>?_⟩,by omega,?_,St.ge_set hq.2 (St.ge_new hp)⟩
     ·by_cases hji:j=i
      ·subst hji;rw[ha] at hx;rw[hb] at hy;cases hx;cases hy;exact hr
      ·exact hall j x y (by omega) hx hy
     ·simp only[go_sem,hlw.wrap (i:=i) (by simpa using hix)]
   ·have hix:i=xs.length:=by simp at h;omega
    have:listEq r xs ys=true:=(listEq_iff hlen).2 fun j x y hx hy=>hall j x y (by rw[hix];exact (List.getElem?_eq_some_iff.1 hx).1) hx hy
    exact DK.here (by rwa[this] at hk)
theorem eqFunc_den73 {α:Type} (enc:α→A) (r:α→α→Bool) (f:FuncId) (first caps:List A) (s:St) (xs ys:List α) (KV Kp)
  (hz:∀ a,∃ cs,enc a=.agg cs∧cs.length=7∧allOne cs=true)
  (hf:∀ a b s' KV Kp,a∈xs→b∈ys→s'.ge s→KV s' (.bool (r a b))→Den cx f (first++[enc a,enc b]++caps) KV Kp s')
  (hk:KV s (.bool (listEq r xs ys))):Den cx 73 [.list none (xs.map enc),.list none (ys.map enc),.fn f first caps] KV Kp s:=by
 refine Den.rlz fun hz1=>?_
 have hlw:=hz1 _ (List.mem_cons_self ..);refine Den.drop ?_;(refine Den.of_body (C:=cx) Tryz.func73 rfl rfl (gC6 rfl) ?_;refine wpC_ok (V:=[0,1,2,6,7,8,9,14,15,16,17,18,30]) _ _ _ _ ?_;simp only[go_sem,Tryz.ntmps73,Tryz.f73])
 (first|refine gC8 (fun h=>?_) (fun h=>?_)|refine gC9 (fun h=>?_) (fun h=>?_)|refine gD1 (fun h=>?_) (fun h=>?_))<;>simp only[go_sem,h]
 ·exact DK.here (by rwa[listEq_len (by intro e;simp[e] at h)] at hk)
 ·have hlen:xs.length=ys.length:=by simp at h;omega
  refine Ex.loop (fun i=>[(0,.list none (xs.map enc)),(1,.list none (ys.map enc)),(2,.fn f first caps),(15,.list none (xs.map enc)),(16,.int .i64 xs.length),(17,.int .i64 (i:Nat))]) (fun _=>s)
     (fun i=>i≤xs.length∧∀ (j:Nat) a b,j<i→xs[j]?=some a→ys[j]?=some b→r a b=true) (fun i=>xs.length-i) 0 ⟨Nat.zero_le _,fun j _ _ hj=>by omega⟩ ?_ (St.ge.refl s) ?_
  ·simp only[go_sem];exact rfl
  ·rintro i ⟨hi,hall⟩;refine wpC_ok (V:=[0,1,2,6,7,8,9,14,15,16,17,18,30]) _ _ _ _ ?_;simp only[go_sem]
   (first|refine gC8 (fun h=>?_) (fun h=>?_)|refine gC9 (fun h=>?_) (fun h=>?_)|refine gD1 (fun h=>?_) (fun h=>?_))<;>simp only[go_sem,h]
   ·have hix:i<xs.length:=by simpa using h
    have hiy:i<ys.length:=by omega
    obtain ⟨a,ha⟩:∃ a,xs[i]?=some a:=⟨_,List.getElem?_eq_getElem hix⟩
    obtain ⟨b,hb⟩:∃ b,ys[i]?=some b:=⟨_,List.getElem?_eq_getElem hiy⟩
    obtain ⟨ca,ea,la,oa⟩:=hz a;obtain ⟨cb,eb,lb,ob⟩:=hz b;simp only[go_sem,ha,ea,la,hix,oa,List.take_of_length_le (Nat.le_of_eq la)];(intro p hp;try simp only[gD6,ne_eq] at hp);simp only[go_sem,hp,oa,la,hb,eb,lb,ob,hiy,List.take_of_length_le (Nat.le_of_eq la),List.take_of_length_le (Nat.le_of_eq lb)];(intro q hq;try simp only[gD6,ne_eq] at hq);simp only[go_sem,hp,hq,oa,la,hb,eb,lb,ob,List.take_of_length_le (Nat.le_of_eq la),List.take_of_length_le (Nat.le_of_eq lb)];rw[← ea,← eb];refine hf a b _ _ _ (List.mem_of_getElem? ha) (List.mem_of_getElem? hb) (St.ge_set hq.2 (St.ge_new hp)) ?_;simp only[go_sem]
    (first|refine gC8 (fun h=>?_) (fun h=>?_)|refine gC9 (fun h=>?_) (fun h=>?_)|refine gD1 (fun h=>?_) (fun h=>?_))<;>simp only[go_sem,h]
    ·have hr:r a b=false:=by simpa using h
     refine DK.st (s2:=s) ?_ (St.ge_set hq.2 (St.ge_new hp))
     have:listEq r xs ys=false:=by
      rw[Bool.eq_false_iff];intro he;have:=(listEq_iff hlen).1 he i a b ha hb;rw[hr] at this;cases this
     rwa[this] at hk
    ·have hr:r a b=true:=by simpa using h
     refine ⟨i+1,⟨by omega,fun j x y hj hx hy=>?_⟩,by omega,?_,St.ge_set hq.2 (St.ge_new hp)⟩
     ·by_cases hji:j=i
      ·subst hji;rw[ha] at hx;rw[hb] at hy;cases hx;cases hy;exact hr
      ·exact hall j x y (by omega) hx hy
     ·simp only[go_sem,hlw.wrap (i:=i) (by simpa using hix)]
   ·have hix:i=xs.length:=by simp at h;omega
    have:listEq r xs ys=true:=(listEq_iff hlen).2 fun j x y hx hy=>hall j x y (by rw[hix];exact (List.getElem?_eq_some_iff.1 hx).1) hx hy
    exact DK.here (by rwa[this] at hk)
theorem eqFunc_den82 {α:Type} (enc:α→A) (r:α→α→Bool) (f:FuncId) (first caps:List A) (s:St) (xs ys:List α) (KV Kp)
  (hz:∀ a,∃ cs,enc a=.agg cs∧cs.length=6∧allOne cs=true)
  (hf:∀ a b s' KV Kp,a∈xs→b∈ys→s'.ge s→KV s' (.bool (r a b))→Den cx f (first++[enc a,enc b]++caps) KV Kp s')
  (hk:KV s (.bool (listEq r xs ys))):Den cx 82 [.list none (xs.map enc),.list none (ys.map enc),.fn f first caps] KV Kp s:=by
 refine Den.rlz fun hz1=>?_
 have hlw:=hz1 _ (List.mem_cons_self ..);refine Den.drop ?_;(refine Den.of_body (C:=cx) Tryz.func82 rfl rfl (gC6 rfl) ?_;refine wpC_ok (V:=[0,1,2,6,7,8,9,14,15,16,17,18,30]) _ _ _ _ ?_;simp only[go_sem,Tryz.ntmps82,Tryz.f82])
 (first|refine gC8 (fun h=>?_) (fun h=>?_)|refine gC9 (fun h=>?_) (fun h=>?_)|refine gD1 (fun h=>?_) (fun h=>?_))<;>simp only[go_sem,h]
 ·exact DK.here (by rwa[listEq_len (by intro e;simp[e] at h)] at hk)
 ·have hlen:xs.length=ys.length:=by simp at h;omega
  refine Ex.loop (fun i=>[(0,.list none (xs.map enc)),(1,.list none (ys.map enc)),(2,.fn f first caps),(15,.list none (xs.map enc)),(16,.int .i64 xs.length),(17,.int .i64 (i:Nat))]) (fun _=>s)
     (fun i=>i≤xs.length∧∀ (j:Nat) a b,j<i→xs[j]?=some a→ys[j]?=some b→r a b=true) (fun i=>xs.length-i) 0 ⟨Nat.zero_le _,fun j _ _ hj=>by omega⟩ ?_ (St.ge.refl s) ?_
  ·simp only[go_sem];exact rfl
  ·rintro i ⟨hi,hall⟩;refine wpC_ok (V:=[0,1,2,6,7,8,9,14,15,16,17,18,30]) _ _ _ _ ?_;simp only[go_sem]
   (first|refine gC8 (fun h=>?_) (fun h=>?_)|refine gC9 (fun h=>?_) (fun h=>?_)|refine gD1 (fun h=>?_) (fun h=>?_))<;>simp only[go_sem,h]
   ·have hix:i<xs.length:=by simpa using h
    have hiy:i<ys.length:=by omega
    obtain ⟨a,ha⟩:∃ a,xs[i]?=some a:=⟨_,List.getElem?_eq_getElem hix⟩
    obtain ⟨b,hb⟩:∃ b,ys[i]?=some b:=⟨_,List.getElem?_eq_getElem hiy⟩
    obtain ⟨ca,ea,la,oa⟩:=hz a;obtain ⟨cb,eb,lb,ob⟩:=hz b;simp only[go_sem,ha,ea,la,hix,oa,List.take_of_length_le (Nat.le_of_eq la)];(intro p hp;try simp only[gD6,ne_eq] at hp);simp only[go_sem,hp,oa,la,hb,eb,lb,ob,hiy,List.take_of_length_le (Nat.le_of_eq la),List.take_of_length_le (Nat.le_of_eq lb)];(intro q hq;try simp only[gD6,ne_eq] at hq);simp only[go_sem,hp,hq,oa,la,hb,eb,lb,ob,List.take_of_length_le (Nat.le_of_eq la),List.take_of_length_le (Nat.le_of_eq lb)];rw[← ea,← eb];refine hf a b _ _ _ (List.mem_of_getElem? ha) (List.mem_of_getElem? hb) (St.ge_set hq.2 (St.ge_new hp)) ?_;simp only[go_sem]
    (first|refine gC8 (fun h=>?_) (fun h=>?_)|refine gC9 (fun h=>?_) (fun h=>?_)|refine gD1 (fun h=>?_) (fun h=>?_))<;>simp only[go_sem,h]
    ·have hr:r a b=false:=by simpa using h
     refine DK.st (s2:=s) ?_ (St.ge_set hq.2 (St.ge_new hp))
     have:listEq r xs ys=false:=by
      rw[Bool.eq_false_iff];intro he;have:=(listEq_iff hlen).1 he i a b ha hb;rw[hr] at this;cases this
     rwa[this] at hk
    ·have hr:r a b=true:=by simpa using h
     refine ⟨i+1,⟨by omega,fun j x y hj hx hy=>?_⟩,by omega,?_,St.ge_set hq.2 (St.ge_new hp)⟩
     ·by_cases hji:j=i
      ·subst hji;rw[ha] at hx;rw[hb] at hy;cases hx;cases hy;exact hr
      ·exact hall j x y (by omega) hx hy
     ·simp only[go_sem,hlw.wrap (i:=i) (by simpa using hix)]
   ·have hix:i=xs.length:=by simp at h;omega
    have:listEq r xs ys=true:=(listEq_iff hlen).2 fun j x y hx hy=>hall j x y (by rw[hix];exact (List.getElem?_eq_some_iff.1 hx).1) hx hy
    exact DK.here (by rwa[this] at hk)
theorem eqFunc_den132 {α:Type} (enc:α→A) (r:α→α→Bool) (f:FuncId) (first caps:List A) (s:St) (xs ys:List α) (KV Kp)
  (hz:∀ a,∃ cs,enc a=.agg cs∧cs.length=7∧allOne cs=true)
  (hf:∀ a b s' KV Kp,a∈xs→b∈ys→s'.ge s→KV s' (.bool (r a b))→Den cx f (first++[enc a,enc b]++caps) KV Kp s')
  (hk:KV s (.bool (listEq r xs ys))):Den cx 132 [.list none (xs.map enc),.list none (ys.map enc),.fn f first caps] KV Kp s:=by
 refine Den.rlz fun hz1=>?_
 have hlw:=hz1 _ (List.mem_cons_self ..);refine Den.drop ?_;(refine Den.of_body (C:=cx) Tryz.func132 rfl rfl (gC6 rfl) ?_;refine wpC_ok (V:=[0,1,2,6,7,8,9,14,15,16,17,18,30]) _ _ _ _ ?_;simp only[go_sem,Tryz.ntmps132,Tryz.f132])
 (first|refine gC8 (fun h=>?_) (fun h=>?_)|refine gC9 (fun h=>?_) (fun h=>?_)|refine gD1 (fun h=>?_) (fun h=>?_))<;>simp only[go_sem,h]
 ·exact DK.here (by rwa[listEq_len (by intro e;simp[e] at h)] at hk)
 ·have hlen:xs.length=ys.length:=by simp at h;omega
  refine Ex.loop (fun i=>[(0,.list none (xs.map enc)),(1,.list none (ys.map enc)),(2,.fn f first caps),(15,.list none (xs.map enc)),(16,.int .i64 xs.length),(17,.int .i64 (i:Nat))]) (fun _=>s)
     (fun i=>i≤xs.length∧∀ (j:Nat) a b,j<i→xs[j]?=some a→ys[j]?=some b→r a b=true) (fun i=>xs.length-i) 0 ⟨Nat.zero_le _,fun j _ _ hj=>by omega⟩ ?_ (St.ge.refl s) ?_
  ·simp only[go_sem];exact rfl
  ·rintro i ⟨hi,hall⟩;refine wpC_ok (V:=[0,1,2,6,7,8,9,14,15,16,17,18,30]) _ _ _ _ ?_;simp only[go_sem]
   (first|refine gC8 (fun h=>?_) (fun h=>?_)|refine gC9 (fun h=>?_) (fun h=>?_)|refine gD1 (fun h=>?_) (fun h=>?_))<;>simp only[go_sem,h]
   ·have hix:i<xs.length:=by simpa using h
    have hiy:i<ys.length:=by omega
    obtain ⟨a,ha⟩:∃ a,xs[i]?=some a:=⟨_,List.getElem?_eq_getElem hix⟩
    obtain ⟨b,hb⟩:∃ b,ys[i]?=some b:=⟨_,List.getElem?_eq_getElem hiy⟩
    obtain ⟨ca,ea,la,oa⟩:=hz a;obtain ⟨cb,eb,lb,ob⟩:=hz b;simp only[go_sem,ha,ea,la,hix,oa,List.take_of_length_le (Nat.le_of_eq la)];(intro p hp;try simp only[gD6,ne_eq] at hp);simp only[go_sem,hp,oa,la,hb,eb,lb,ob,hiy,List.take_of_length_le (Nat.le_of_eq la),List.take_of_length_le (Nat.le_of_eq lb)];(intro q hq;try simp only[gD6,ne_eq] at hq);simp only[go_sem,hp,hq,oa,la,hb,eb,lb,ob,List.take_of_length_le (Nat.le_of_eq la),List.take_of_length_le (Nat.le_of_eq lb)];rw[← ea,← eb];refine hf a b _ _ _ (List.mem_of_getElem? ha) (List.mem_of_getElem? hb) (St.ge_set hq.2 (St.ge_new hp)) ?_;simp only[go_sem]
    (first|refine gC8 (fun h=>?_) (fun h=>?_)|refine gC9 (fun h=>?_) (fun h=>?_)|refine gD1 (fun h=>?_) (fun h=>?_))<;>simp only[go_sem,h]
    ·have hr:r a b=false:=by simpa using h
     refine DK.st (s2:=s) ?_ (St.ge_set hq.2 (St.ge_new hp))
     have:listEq r xs ys=false:=by
      rw[Bool.eq_false_iff];intro he;have:=(listEq_iff hlen).1 he i a b ha hb;rw[hr] at this;cases this
     rwa[this] at hk
    ·have hr:r a b=true:=by simpa using h
     refine ⟨i+1,⟨by omega,fun j x y hj hx hy=>?_⟩,by omega,?_,St.ge_set hq.2 (St.ge_new hp)⟩
     ·by_cases hji:j=i
      ·subst hji;rw[ha] at hx;rw[hb] at hy;cases hx;cases hy;exact hr
      ·exact hall j x y (by omega) hx hy
     ·simp only[go_sem,hlw.wrap (i:=i) (by simpa using hix)]
   ·have hix:i=xs.length:=by simp at h;omega
    have:listEq r xs ys=true:=(listEq_iff hlen).2 fun j x y hx hy=>hall j x y (by rw[hix];exact (List.getElem?_eq_some_iff.1 hx).1) hx hy
    exact DK.here (by rwa[this] at hk)
theorem eqFunc_den136 {α:Type} (enc:α→A) (r:α→α→Bool) (f:FuncId) (first caps:List A) (s:St) (xs ys:List α) (KV Kp)
  (hz:∀ a,∃ cs,enc a=.agg cs∧cs.length=11∧allOne cs=true)
  (hf:∀ a b s' KV Kp,a∈xs→b∈ys→s'.ge s→KV s' (.bool (r a b))→Den cx f (first++[enc a,enc b]++caps) KV Kp s')
  (hk:KV s (.bool (listEq r xs ys))):Den cx 136 [.list none (xs.map enc),.list none (ys.map enc),.fn f first caps] KV Kp s:=by
 refine Den.rlz fun hz1=>?_
 have hlw:=hz1 _ (List.mem_cons_self ..);refine Den.drop ?_;(refine Den.of_body (C:=cx) Tryz.func136 rfl rfl (gC6 rfl) ?_;refine wpC_ok (V:=[0,1,2,6,7,8,9,14,15,16,17,18,30]) _ _ _ _ ?_;simp only[go_sem,Tryz.ntmps136,Tryz.f136])
 (first|refine gC8 (fun h=>?_) (fun h=>?_)|refine gC9 (fun h=>?_) (fun h=>?_)|refine gD1 (fun h=>?_) (fun h=>?_))<;>simp only[go_sem,h]
 ·exact DK.here (by rwa[listEq_len (by intro e;simp[e] at h)] at hk)
 ·have hlen:xs.length=ys.length:=by simp at h;omega
  refine Ex.loop (fun i=>[(0,.list none (xs.map enc)),(1,.list none (ys.map enc)),(2,.fn f first caps),(15,.list none (xs.map enc)),(16,.int .i64 xs.length),(17,.int .i64 (i:Nat))]) (fun _=>s)
     (fun i=>i≤xs.length∧∀ (j:Nat) a b,j<i→xs[j]?=some a→ys[j]?=some b→r a b=true) (fun i=>xs.length-i) 0 ⟨Nat.zero_le _,fun j _ _ hj=>by omega⟩ ?_ (St.ge.refl s) ?_
  ·simp only[go_sem];exact rfl
  ·rintro i ⟨hi,hall⟩;refine wpC_ok (V:=[0,1,2,6,7,8,9,14,15,16,17,18,30]) _ _ _ _ ?_;simp only[go_sem]
   (first|refine gC8 (fun h=>?_) (fun h=>?_)|refine gC9 (fun h=>?_) (fun h=>?_)|refine gD1 (fun h=>?_) (fun h=>?_))<;>simp only[go_sem,h]
   ·have hix:i<xs.length:=by simpa using h
    have hiy:i<ys.length:=by omega
    obtain ⟨a,ha⟩:∃ a,xs[i]?=some a:=⟨_,List.getElem?_eq_getElem hix⟩
    obtain ⟨b,hb⟩:∃ b,ys[i]?=some b:=⟨_,List.getElem?_eq_getElem hiy⟩
    obtain ⟨ca,ea,la,oa⟩:=hz a;obtain ⟨cb,eb,lb,ob⟩:=hz b;simp only[go_sem,ha,ea,la,hix,oa,List.take_of_length_le (Nat.le_of_eq la)];(intro p hp;try simp only[gD6,ne_eq] at hp);simp only[go_sem,hp,oa,la,hb,eb,lb,ob,hiy,List.take_of_length_le (Nat.le_of_eq la),List.take_of_length_le (Nat.le_of_eq lb)];(intro q hq;try simp only[gD6,ne_eq] at hq);simp only[go_sem,hp,hq,oa,la,hb,eb,lb,ob,List.take_of_length_le (Nat.le_of_eq la),List.take_of_length_le (Nat.le_of_eq lb)];rw[← ea,← eb];refine hf a b _ _ _ (List.mem_of_getElem? ha) (List.mem_of_getElem? hb) (St.ge_set hq.2 (St.ge_new hp)) ?_;simp only[go_sem]
    (first|refine gC8 (fun h=>?_) (fun h=>?_)|refine gC9 (fun h=>?_) (fun h=>?_)|refine gD1 (fun h=>?_) (fun h=>?_))<;>simp only[go_sem,h]
    ·have hr:r a b=false:=by simpa using h
     refine DK.st (s2:=s) ?_ (St.ge_set hq.2 (St.ge_new hp))
     have:listEq r xs ys=false:=by
      rw[Bool.eq_false_iff];intro he;have:=(listEq_iff hlen).1 he i a b ha hb;rw[hr] at this;cases this
     rwa[this] at hk
    ·have hr:r a b=true:=by simpa using h
     refine ⟨i+1,⟨by omega,fun j x y hj hx hy=>?_⟩,by omega,?_,St.ge_set hq.2 (St.ge_new hp)⟩
     ·by_cases hji:j=i
      ·subst hji;rw[ha] at hx;rw[hb] at hy;cases hx;cases hy;exact hr
      ·exact hall j x y (by omega) hx hy
     ·simp only[go_sem,hlw.wrap (i:=i) (by simpa using hix)]
   ·have hix:i=xs.length:=by simp at h;omega
    have:listEq r xs ys=true:=(listEq_iff hlen).2 fun j x y hx hy=>hall j x y (by rw[hix];exact (List.getElem?_eq_some_iff.1 hx).1) hx hy
    exact DK.here (by rwa[this] at hk)
theorem eqFunc_den138 {α:Type} (enc:α→A) (r:α→α→Bool) (f:FuncId) (first caps:List A) (s:St) (xs ys:List α) (KV Kp)
  (hz:∀ a,∃ cs,enc a=.agg cs∧cs.length=1∧allOne cs=true)
  (hf:∀ a b s' KV Kp,a∈xs→b∈ys→s'.ge s→KV s' (.bool (r a b))→Den cx f (first++[enc a,enc b]++caps) KV Kp s')
  (hk:KV s (.bool (listEq r xs ys))):Den cx 138 [.list none (xs.map enc),.list none (ys.map enc),.fn f first caps] KV Kp s:=by
 refine Den.rlz fun hz1=>?_
 have hlw:=hz1 _ (List.mem_cons_self ..);refine Den.drop ?_;(refine Den.of_body (C:=cx) Tryz.func138 rfl rfl (gC6 rfl) ?_;refine wpC_ok (V:=[0,1,2,6,7,8,9,14,15,16,17,18,30]) _ _ _ _ ?_;simp only[go_sem,Tryz.ntmps138,Tryz.f138])
 (first|refine gC8 (fun h=>?_) (fun h=>?_)|refine gC9 (fun h=>?_) (fun h=>?_)|refine gD1 (fun h=>?_) (fun h=>?_))<;>simp only[go_sem,h]
 ·exact DK.here (by rwa[listEq_len (by intro e;simp[e] at h)] at hk)
 ·have hlen:xs.length=ys.length:=by simp at h;omega
  refine Ex.loop (fun i=>[(0,.list none (xs.map enc)),(1,.list none (ys.map enc)),(2,.fn f first caps),(15,.list none (xs.map enc)),(16,.int .i64 xs.length),(17,.int .i64 (i:Nat))]) (fun _=>s)
     (fun i=>i≤xs.length∧∀ (j:Nat) a b,j<i→xs[j]?=some a→ys[j]?=some b→r a b=true) (fun i=>xs.length-i) 0 ⟨Nat.zero_le _,fun j _ _ hj=>by omega⟩ ?_ (St.ge.refl s) ?_
  ·simp only[go_sem];exact rfl
  ·rintro i ⟨hi,hall⟩;refine wpC_ok (V:=[0,1,2,6,7,8,9,14,15,16,17,18,30]) _ _ _ _ ?_;simp only[go_sem]
   (first|refine gC8 (fun h=>?_) (fun h=>?_)|refine gC9 (fun h=>?_) (fun h=>?_)|refine gD1 (fun h=>?_) (fun h=>?_))<;>simp only[go_sem,h]
   ·have hix:i<xs.length:=by simpa using h
    have hiy:i<ys.length:=by omega
    obtain ⟨a,ha⟩:∃ a,xs[i]?=some a:=⟨_,List.getElem?_eq_getElem hix⟩
    obtain ⟨b,hb⟩:∃ b,ys[i]?=some b:=⟨_,List.getElem?_eq_getElem hiy⟩
    obtain ⟨ca,ea,la,oa⟩:=hz a;obtain ⟨cb,eb,lb,ob⟩:=hz b;simp only[go_sem,ha,ea,la,hix,oa,List.take_of_length_le (Nat.le_of_eq la)];(intro p hp;try simp only[gD6,ne_eq] at hp);simp only[go_sem,hp,oa,la,hb,eb,lb,ob,hiy,List.take_of_length_le (Nat.le_of_eq la),List.take_of_length_le (Nat.le_of_eq lb)];(intro q hq;try simp only[gD6,ne_eq] at hq);simp only[go_sem,hp,hq,oa,la,hb,eb,lb,ob,List.take_of_length_le (Nat.le_of_eq la),List.take_of_length_le (Nat.le_of_eq lb)];rw[← ea,← eb];refine hf a b _ _ _ (List.mem_of_getElem? ha) (List.mem_of_getElem? hb) (St.ge_set hq.2 (St.ge_new hp)) ?_;simp only[go_sem]
    (first|refine gC8 (fun h=>?_) (fun h=>?_)|refine gC9 (fun h=>?_) (fun h=>?_)|refine gD1 (fun h=>?_) (fun h=>?_))<;>simp only[go_sem,h]
    ·have hr:r a b=false:=by simpa using h
     refine DK.st (s2:=s) ?_ (St.ge_set hq.2 (St.ge_new hp))
     have:listEq r xs ys=false:=by
      rw[Bool.eq_false_iff];intro he;have:=(listEq_iff hlen).1 he i a b ha hb;rw[hr] at this;cases this
     rwa[this] at hk
    ·have hr:r a b=true:=by simpa using h
     refine ⟨i+1,⟨by omega,fun j x y hj hx hy=>?_⟩,by omega,?_,St.ge_set hq.2 (St.ge_new hp)⟩
     ·by_cases hji:j=i
      ·subst hji;rw[ha] at hx;rw[hb] at hy;cases hx;cases hy;exact hr
      ·exact hall j x y (by omega) hx hy
     ·simp only[go_sem,hlw.wrap (i:=i) (by simpa using hix)]
   ·have hix:i=xs.length:=by simp at h;omega
    have:listEq r xs ys=true:=(listEq_iff hlen).2 fun j x y hx hy=>hall j x y (by rw[hix];exact (List.getElem?_eq_some_iff.1 hx).1) hx hy
    exact DK.here (by rwa[this] at hk)
theorem Tm.sames_eq:∀ a b:List Tm,Tm.sames a b=listEq Tm.same a b
 | [],[]=>rfl
 | [],_::_=>rfl
 | _::_,[]=>rfl
 | a::l,b::r=>by rw[Tm.sames,listEq,Tm.sames_eq l r]
theorem Tm.same_eq (a b:Tm):a.same b=(decide (a.kind=b.kind)&&(decide (a.n=b.n)&&(decide (a.text=b.text)&&(decide (a.sort=b.sort)&&(listEq Tm.same a.kids b.kids&&listEq Tm.same a.rest b.rest))))):=by
 cases a;cases b;simp only[Tm.same,Tm.sames_eq,Tm.kind,Tm.n,Tm.text,Tm.sort,Tm.kids,Tm.rest];rfl
theorem Tm.hz6 (a:Tm):∃ cs,a.enc=.agg cs∧cs.length=6∧allOne cs=true:=⟨_,a.enc_eq,rfl,rfl⟩
theorem tmSame_aux (m:Nat):∀ (a b:Tm) (s:St) (KV Kp),SizeOf.sizeOf a<m→KV s (.bool (a.same b))→Den cx 36 [a.enc,b.enc] KV Kp s:=by
 induction m with
 | zero=>intro a b s KV Kp hm;omega
 | succ m ih =>
 intro a b s KV Kp hm hk;rw[Tm.same_eq] at hk;simp only[go_sem];refine Den.drop ?_;(refine Den.of_body (C:=cx) Tryz.func36 rfl rfl (gC6 rfl) ?_;refine wpC_ok (V:=[0,1,2,3,4]) _ _ _ _ ?_;simp only[go_sem,Tryz.ntmps36,Tryz.f36]);(intro p hp;try simp only[gD6,ne_eq] at hp);simp only[go_sem,hp];(intro q hq;try simp only[gD6,ne_eq] at hq);simp only[go_sem,hp,hq]
 (first|refine gC8 (fun h=>?_) (fun h=>?_)|refine gC9 (fun h=>?_) (fun h=>?_)|refine gD1 (fun h=>?_) (fun h=>?_))<;>simp only[go_sem,h,hp,hq]<;>(try simp only[h,Bool.true_and,Bool.false_and,Bool.and_true,Bool.and_false,Bool.or_true,Bool.true_or,Bool.or_false,Bool.false_or,Bool.not_true,Bool.not_false] at hk)
 ·(first | refine gC8 (fun h => ?_) (fun h => ?_) | refine gC9 (fun h => ?_) (fun h => ?_) | refine gD1 (fun h => ?_) (fun h => ?_)) <;> simp only [go_sem,h,hp,hq] <;> (try simp only [h,Bool.true_and,Bool.false_and,Bool.and_true,Bool.and_false,Bool.or_true,Bool.true_or,Bool.or_false,Bool.false_or,Bool.not_true,Bool.not_false] at hk)
  ·(first | refine gC8 (fun h => ?_) (fun h => ?_) | refine gC9 (fun h => ?_) (fun h => ?_) | refine gD1 (fun h => ?_) (fun h => ?_)) <;> simp only [go_sem,h,hp,hq] <;> (try simp only [h,Bool.true_and,Bool.false_and,Bool.and_true,Bool.and_false,Bool.or_true,Bool.true_or,Bool.or_false,Bool.false_or,Bool.not_true,Bool.not_false] at hk)
   ·(first | refine gC8 (fun h => ?_) (fun h => ?_) | refine gC9 (fun h => ?_) (fun h => ?_) | refine gD1 (fun h => ?_) (fun h => ?_)) <;> simp only [go_sem,h,hp,hq] <;> (try simp only [h,Bool.true_and,Bool.false_and,Bool.and_true,Bool.and_false,Bool.or_true,Bool.true_or,Bool.or_false,Bool.false_or,Bool.not_true,Bool.not_false] at hk)
    ·refine eqFunc_den82 Tm.enc Tm.same 36 [] [] _ _ _ _ _ Tm.hz6 (fun x y s' KV' Kp' hx hy hs h'=>ih x y s' KV' Kp' (by have:=Tm.size_kids hx;omega) h') ?_;simp only[go_sem]
     (first|refine gC8 (fun h=>?_) (fun h=>?_)|refine gC9 (fun h=>?_) (fun h=>?_)|refine gD1 (fun h=>?_) (fun h=>?_))<;>simp only[go_sem,h,hp,hq]<;>(try simp only[h,Bool.true_and,Bool.false_and,Bool.and_true,Bool.and_false,Bool.or_true,Bool.true_or,Bool.or_false,Bool.false_or,Bool.not_true,Bool.not_false] at hk)
     ·refine eqFunc_den82 Tm.enc Tm.same 36 [] [] _ _ _ _ _ Tm.hz6 (fun x y s' KV' Kp' hx hy hs h'=>ih x y s' KV' Kp' (by have:=Tm.size_rest hx;omega) h') ?_;simp only[go_sem];exact DK.st hk (by (repeat (first|exact St.ge.refl _|refine St.ge_set (by simp only[hp,hq]) ?_)))
     ·exact DK.st hk (by (repeat (first|exact St.ge.refl _|refine St.ge_set (by simp only[hp,hq]) ?_)))
    ·exact DK.st hk (by (repeat (first|exact St.ge.refl _|refine St.ge_set (by simp only[hp,hq]) ?_)))
   ·exact DK.st hk (by (repeat (first|exact St.ge.refl _|refine St.ge_set (by simp only[hp,hq]) ?_)))
  ·exact DK.st hk (by (repeat (first|exact St.ge.refl _|refine St.ge_set (by simp only[hp,hq]) ?_)))
 ·exact DK.st hk (by (repeat (first|exact St.ge.refl _|refine St.ge_set (by simp only[hp,hq]) ?_)))
theorem tmSame_den (a b:Tm) (s:St) (KV Kp) (hk:KV s (.bool (a.same b))):Den cx 36 [a.enc,b.enc] KV Kp s :=
 tmSame_aux _ a b s KV Kp (Nat.lt_succ_self _) hk
end Go.AV
end
