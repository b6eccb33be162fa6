/-
  Part of the proof of DefTerms.
-/
import Derived.Test.YtamikhobdffnfaaGreatDoorTe07
import Derived.Lib.Bytealg
import Derived.Test.YtamikhobdffnfaaGreatDoorTe10
import Derived.Laws.Externs
import Derived.Laws.RangeAny
set_option linter.all false
set_option maxRecDepth 1000000
set_option maxHeartbeats 40000000
section
namespace Go.AV
open Go
attribute [go_sem] Nat.reduceLT Nat.reduceEqDiff Nat.reduceBEq Nat.reduceAdd Nat.reduceLeDiff Nat.reduceMul reduceIte reduceCtorEq List.map true_and and_true List.elem decide_true decide_false Bool.not_true Bool.not_false Nat.le_refl gC1 gC3 List.getElem?_cons_zero List.getElem?_cons_succ Nat.zero_add Nat.add_zero gD2 gD3 List.set_cons_zero List.set_cons_succ List.take_succ_cons List.take_zero List.drop_succ_cons List.take_nil Nat.succ_eq_add_one Int.le_refl Int.toNat_zero Nat.sub_zero Nat.zero_lt_succ Bool.and_true Bool.true_and Bool.and_false Bool.false_and
abbrev Str:=List UInt8
structure Fault where
 code:Int
 name:Str
 line:Int
 col:Int
 deriving DecidableEq
def Fault.none:Fault:=⟨0,[],0,0⟩
def Fault.cs (f:Fault):List A:=[.int .i64 f.code,.str f.name,.int .i64 f.line,.int .i64 f.col]
def Fault.enc (f:Fault):A:=.agg f.cs
structure Tok where
 kind:Int
 text:Str
 n:Int
 line:Int
 col:Int
 deriving DecidableEq
def Tok.cs (t:Tok):List A:=[.int .i64 t.kind,.str t.text,.int .i64 t.n,.int .i64 t.line,.int .i64 t.col]
def Tok.enc (t:Tok):A:=.agg t.cs
inductive Tm where
 | mk (kind n:Int) (text sort:Str) (kids rest:List Tm)
def Tm.kind:Tm→Int|.mk k _ _ _ _ _=>k
def Tm.n:Tm→Int|.mk _ n _ _ _ _=>n
def Tm.text:Tm→Str|.mk _ _ t _ _ _=>t
def Tm.sort:Tm→Str|.mk _ _ _ s _ _=>s
def Tm.kids:Tm→List Tm|.mk _ _ _ _ ks _=>ks
def Tm.rest:Tm→List Tm|.mk _ _ _ _ _ rs=>rs
mutual
def Tm.enc:Tm→A
 | .mk k n t s ks rs=>.agg [.int .i64 k,.int .i64 n,.str t,.str s,.list none (Tm.encs ks),.list none (Tm.encs rs)]
def Tm.encs:List Tm→List A
 | []=>[]
 | t::r=>t.enc::Tm.encs r
end
theorem Tm.encs_map:∀ l:List Tm,Tm.encs l=l.map Tm.enc
 | []=>rfl
 | t::r=>by rw[Tm.encs,Tm.encs_map r];rfl
def Tm.cs (t:Tm):List A:=[.int .i64 t.kind,.int .i64 t.n,.str t.text,.str t.sort,.list none (t.kids.map Tm.enc),.list none (t.rest.map Tm.enc)]
theorem Tm.enc_eq (t:Tm):t.enc=.agg t.cs:=by
 cases t;simp only[Tm.enc,Tm.cs,Tm.kind,Tm.n,Tm.text,Tm.sort,Tm.kids,Tm.rest,Tm.encs_map]
structure Below where
 low:Str
 high:Str
 deriving DecidableEq
def Below.cs (b:Below):List A:=[.str b.low,.str b.high]
def Below.enc (b:Below):A:=.agg b.cs
structure Piece where
 text:Str
 sort:Str
 deriving DecidableEq
def Piece.cs (b:Piece):List A:=[.str b.text,.str b.sort]
def Piece.enc (b:Piece):A:=.agg b.cs
structure Opr where
 name:Str
 args:List Str
 sort:Str
 pieces:List Piece
 prec:Int
 assoc:Int
 strict:List Int
 deriving DecidableEq
def Opr.cs (o:Opr):List A:=[.str o.name,.list none (o.args.map .str),.str o.sort,.list none (o.pieces.map Piece.enc),.int .i64 o.prec,.int .i64 o.assoc,.list none (o.strict.map (.int .i64))]
def Opr.enc (o:Opr):A:=.agg o.cs
structure Sig where
 sorts:List Str
 below:List Below
 ops:List Opr
 funs:List Opr
 values:List Str
def Sig.cs (s:Sig):List A:=[.list none (s.sorts.map .str),.list none (s.below.map Below.enc),.list none (s.ops.map Opr.enc),.list none (s.funs.map Opr.enc),.list none (s.values.map .str)]
def Sig.enc (s:Sig):A:=.agg s.cs
structure Eqn where
 left:Tm
 right:Tm
 cond:List Tm
 line:Int
 col:Int
def Eqn.cs (e:Eqn):List A:=e.left.cs++(e.right.cs++[.list none (e.cond.map Tm.enc),.int .i64 e.line,.int .i64 e.col])
def Eqn.enc (e:Eqn):A:=.agg e.cs
structure Cel where
 name:Str
 sort:Str
 init:Tm
 line:Int
 col:Int
def Cel.cs (c:Cel):List A:=.str c.name::.str c.sort::(c.init.cs++[.int .i64 c.line,.int .i64 c.col])
def Cel.enc (c:Cel):A:=.agg c.cs
structure Part where
 cell:Str
 at_:Str
 left:Tm
 right:List Tm
 line:Int
 col:Int
def Part.cs (p:Part):List A:=.str p.cell::.str p.at_::(p.left.cs++[.list none (p.right.map Tm.enc),.int .i64 p.line,.int .i64 p.col])
def Part.enc (p:Part):A:=.agg p.cs
structure Fresh where
 cells:List Tm
def Fresh.cs (f:Fresh):List A:=[.list none (f.cells.map Tm.enc)]
def Fresh.enc (f:Fresh):A:=.agg f.cs
structure Rul where
 name:Str
 parts:List Part
 cond:List Tm
 new:List Fresh
 drop:List Str
 line:Int
 col:Int
def Rul.cs (r:Rul):List A:=[.str r.name,.list none (r.parts.map Part.enc),.list none (r.cond.map Tm.enc),.list none (r.new.map Fresh.enc),.list none (r.drop.map .str),.int .i64 r.line,.int .i64 r.col]
def Rul.enc (r:Rul):A:=.agg r.cs
structure Dfn where
 name:Str
 sig:Sig
 eqs:List Eqn
 once:List Cel
 kind:Str
 many:List Cel
 rules:List Rul
 start:Str
 watch:Str
def Dfn.cs (d:Dfn):List A:=.str d.name::(d.sig.cs++[.list none (d.eqs.map Eqn.enc),.list none (d.once.map Cel.enc),.str d.kind,.list none (d.many.map Cel.enc),.list none (d.rules.map Rul.enc),.str d.start,.str d.watch])
def Dfn.enc (d:Dfn):A:=.agg d.cs
attribute [go_sem] Fault.enc Fault.cs Tok.enc Tok.cs Tm.enc_eq Tm.cs Below.enc Below.cs Piece.enc Piece.cs Opr.enc Opr.cs Sig.enc Sig.cs Eqn.enc Eqn.cs Cel.enc Cel.cs Part.enc Part.cs Fresh.enc Fresh.cs Rul.enc Rul.cs Dfn.enc Dfn.cs
mutual
def Tm.same:Tm→Tm→Bool
 | .mk k n t s ks rs,.mk k' n' t' s' ks' rs'=>decide (k=k')&&(decide (n=n')&&(decide (t=t')&&(decide (s=s')&&(Tm.sames ks ks'&&Tm.sames rs rs'))))
def Tm.sames:List Tm→List Tm→Bool
 | [],[]=>true
 | a::l,b::r=>Tm.same a b&&Tm.sames l r
 | _,_=>false
end
theorem Tm.size_kids {t x:Tm} (h:x∈t.kids):SizeOf.sizeOf x<SizeOf.sizeOf t:=by
 cases t;have:=List.sizeOf_lt_of_mem h;simp only[Tm.kids] at this;simp only[Tm.mk.sizeOf_spec];omega
theorem Tm.size_rest {t x:Tm} (h:x∈t.rest):SizeOf.sizeOf x<SizeOf.sizeOf t:=by
 cases t;have:=List.sizeOf_lt_of_mem h;simp only[Tm.rest] at this;simp only[Tm.mk.sizeOf_spec];omega
end Go.AV
end
section
namespace Go.AV
open Go
def isLet (c:Int):Bool:=(decide (97≤c)&&decide (c≤122))||(decide (65≤c)&&decide (c≤90))
def isPart (c:Int):Bool:=isLet c||((decide (48≤c)&&decide (c≤57))||decide (c=95))
def isName (s:List UInt8):Bool:=match s with
 | []=>false
 | c::_=>decide (s.length≤40)&&(isLet c.toNat&&s.all fun c=>isPart c.toNat)
def hasPre (x p:Str):Bool:=decide (p.length≤x.length)&&decide (x.take p.length=p)
def lastTo (x:Str) (c:UInt8):Nat→Int
 | 0=>-1
 | n+1=>if x[n]?=some c then n else lastTo x c n
def isDig (c:Int):Bool:=decide (48≤c)&&decide (c≤57)
def adv:Nat × Nat→Str→Nat × Nat
 | p,[]=>p
 | (l,c),b::r=>if b=10 then adv (l+1,1) r else adv (l,c+1) r
def isBlank (b:UInt8):Bool:=decide (b=32)||(decide (b=9)||(decide (b=10)||decide (b=13)))
def blk:Nat→Str→Nat
 | 0,_=>0
 | _+1,[]=>0
 | f+1,b::r=>if isBlank b=true then 1+blk f r
  else if hasPre (b::r) [47,47]=true then ((b::r).takeWhile (fun c=>!decide (c=10))).length+blk f ((b::r).drop ((b::r).takeWhile (fun c=>!decide (c=10))).length)
  else 0
def blks (w:Str):Nat:=blk w.length w
def okB (b:UInt8):Bool:=decide (32≤b.toNat)&&(decide (b.toNat≤126)&&(!decide (b=34)&&!decide (b=92)))
def isStr (x:Str):Bool:=x.all okB&&decide (x.length≤200)
def eqB (c:UInt8) (b:UInt8):Bool:=decide (b=c)
def numOf (x:Str):Nat:=x.foldl (fun n d=>n * 10+(d.toNat-48)) 0
def digits (x:Str):Prop:=∀ d,d∈x→48≤d.toNat∧d.toNat≤57
def numTok (x:Str):Tok × Nat × Bool :=
 let n:=(x.takeWhile fun c=>isDig c.toNat).length
 let g:=(x.take n).dropWhile (eqB 48)
 if 10<g.length∨(∃ c,x[n]?=some c∧isPart c.toNat=true) then (⟨0,[],0,0,0⟩,0,false)
 else (⟨2,[],numOf g,0,0⟩,n,decide (numOf g≤2147483647))
def signTo (w:Str):List Str→Nat→Nat
 | [],n=>n
 | x::r,n=>signTo w r (if n<x.length∧hasPre w x=true then x.length else n)
def tokOf (w:Str) (sg:List Str) (op:Bool):Tok × Nat × Bool :=
 match w with
 | []=>(⟨0,[],0,0,0⟩,0,false)
 | c::r =>
  if isName [c] then
   let n:=(w.takeWhile fun c=>isPart c.toNat).length
   (⟨1,w.take n,0,0,0⟩,n,decide (n≤40))
  else if isDig c.toNat then numTok w
  else if c=34 then
   let n:=(Lib.indexByte r 34+2).toNat
   (⟨3,r.take (n-2),0,0,0⟩,n,decide (1<n)&&isStr (r.take (n-2)))
  else
   let n:=signTo w sg 0
   let n:=if n=0∧op=true∧(c=39∨c=95) then 1 else n
   (⟨4,w.take n,0,0,0⟩,n,decide (0<n))
def builtInS:List UInt8:=[97,100,100,32,115,117,98,32,109,117,108,32,100,105,118,32,109,111,100,32,110,101,103,32,108,116,32,108,101,32,103,116,32,103,101,32,101,113,32,110,101,32,97,110,100,32,111,114,32,110,111,116,32,112,105,99,107,32,99,97,116,32,108,101,110,103,116,104,32,116,101,120,116,32,106,111,105,110,32,103,101,116,32,112,117,116,32,104,97,115,32,100,101,108,32,107,101,121,115,32,115,105,122,101,32,105,115,32,105,115,118,97,108,117,101]
def builtInW:List (List UInt8):=[[97,100,100],[115,117,98],[109,117,108],[100,105,118],[109,111,100],[110,101,103],[108,116],[108,101],[103,116],[103,101],[101,113],[110,101],[97,110,100],[111,114],[110,111,116],[112,105,99,107],[99,97,116],[108,101,110,103,116,104],[116,101,120,116],[106,111,105,110],[103,101,116],[112,117,116],[104,97,115],[100,101,108],[107,101,121,115],[115,105,122,101],[105,115],[105,115,118,97,108,117,101]]
def signsS:List UInt8:=[61,62,32,45,62,32,58,32,59,32,44,32,46,32,64,32,124,32,40,32,41,32,91,32,93,32,123,32,125,32,60,32,61,32,45,32,36]
def signsW:List (List UInt8):=[[61,62],[45,62],[58],[59],[44],[46],[64],[124],[40],[41],[91],[93],[123],[125],[60],[61],[45],[36]]
def reservedS:List UInt8:=[108,97,110,103,117,97,103,101,32,115,111,114,116,32,115,117,98,115,111,114,116,32,118,97,108,117,101,32,111,112,32,102,117,110,32,108,101,116,32,105,102,32,115,116,97,114,116,32,99,101,108,108,32,109,97,110,121,32,119,97,116,99,104,32,114,117,108,101,32,112,114,101,99,32,108,101,102,116,32,114,105,103,104,116,32,115,116,114,105,99,116,32,110,101,119,32,100,114,111,112,32,116,114,117,101,32,102,97,108,115,101]
def reservedW:List (List UInt8):=[[108,97,110,103,117,97,103,101],[115,111,114,116],[115,117,98,115,111,114,116],[118,97,108,117,101],[111,112],[102,117,110],[108,101,116],[105,102],[115,116,97,114,116],[99,101,108,108],[109,97,110,121],[119,97,116,99,104],[114,117,108,101],[112,114,101,99],[108,101,102,116],[114,105,103,104,116],[115,116,114,105,99,116],[110,101,119],[100,114,111,112],[116,114,117,101],[102,97,108,115,101]]
inductive Lx where
 | ok (l:List Tok)
 | bad (f:Fault)
def lexA (sg:List Str) (op:Bool):Nat→Str→Nat × Nat→List Tok→Lx
 | _,[],_,acc=>.ok acc
 | 0,_::_,_,acc=>.ok acc
 | f+1,c::r,p,acc=>match tokOf (c::r) sg op with
  | (t,n,true)=>lexA sg op f (((c::r).drop n).drop (blks ((c::r).drop n))) (adv (adv p ((c::r).take n)) (((c::r).drop n).take (blks ((c::r).drop n))))
    (acc++[⟨t.kind,t.text,t.n,p.1,p.2⟩])
  | (_,_,false)=>.bad ⟨10,[c],p.1,p.2⟩
def lexS (sg:List Str) (op:Bool) (w:Str):Lx:=lexA sg op w.length (w.drop (blks w)) (adv (1,1) (w.take (blks w))) []
end Go.AV
end
section
namespace Go.AV
open Go Go.Proofs
theorem isLetter_den (s:St) (c:Int) (KV Kp) (hk:KV s (.bool (isLet c))):Den cx 261 [.int .u8 c] KV Kp s:=by
 unfold isLet at hk;refine Den.drop ?_;(refine Den.of_body (C:=cx) Tryz.func261 rfl rfl (gC6 rfl) ?_;refine wpC_ok (V:=[0,2]) _ _ _ _ ?_;simp only[go_sem,Tryz.ntmps261,Tryz.f261])
 (repeat' (first|exact DK.st hk (by (repeat (first|exact St.ge.refl _|refine St.ge_set (by simp only[]) ?_)))|((first|refine gC8 (fun h=>?_) (fun h=>?_)|refine gC9 (fun h=>?_) (fun h=>?_)|refine gD1 (fun h=>?_) (fun h=>?_))<;>simp only[go_sem,h]<;>(try simp only[h,Bool.true_and,Bool.false_and,Bool.and_true,Bool.and_false,Bool.or_true,Bool.true_or,Bool.or_false,Bool.false_or,Bool.not_true,Bool.not_false] at hk))))
theorem isPart_den (s:St) (c:Int) (KV Kp) (hk:KV s (.bool (isPart c))):Den cx 185 [.int .u8 c] KV Kp s:=by
 unfold isPart at hk;refine Den.drop ?_;(refine Den.of_body (C:=cx) Tryz.func185 rfl rfl (gC6 rfl) ?_;refine wpC_ok (V:=[0,2]) _ _ _ _ ?_;simp only[go_sem,Tryz.ntmps185,Tryz.f185])
 (repeat' (first|exact DK.st hk (by (repeat (first|exact St.ge.refl _|refine St.ge_set (by simp only[]) ?_)))|(refine isLetter_den _ _ _ _ ?_;simp only[go_sem])|((first|refine gC8 (fun h=>?_) (fun h=>?_)|refine gC9 (fun h=>?_) (fun h=>?_)|refine gD1 (fun h=>?_) (fun h=>?_))<;>simp only[go_sem,h]<;>(try simp only[h,Bool.true_and,Bool.false_and,Bool.and_true,Bool.and_false,Bool.or_true,Bool.true_or,Bool.or_false,Bool.false_or,Bool.not_true,Bool.not_false] at hk))))
theorem isName_den (s:St) (x:List UInt8) (KV Kp) (hk:KV s (.bool (isName x))):Den cx 196 [.str x] KV Kp s:=by
 refine Den.drop ?_;(refine Den.of_body (C:=cx) Tryz.func196 rfl rfl (gC6 rfl) ?_;refine wpC_ok (V:=[0,2,3,16,18,19,20,26]) _ _ _ _ ?_;simp only[go_sem,Tryz.ntmps196,Tryz.f196])
 (first|refine gC8 (fun h=>?_) (fun h=>?_)|refine gC9 (fun h=>?_) (fun h=>?_)|refine gD1 (fun h=>?_) (fun h=>?_))<;>simp only[go_sem,h]
 ·have:x=[]:=by simpa using h
  subst this;exact DK.here hk
 have hne:x≠[]:=by simpa using h
 obtain ⟨c,r,hx⟩:=List.exists_cons_of_ne_nil hne
 (first|refine gC8 (fun h=>?_) (fun h=>?_)|refine gC9 (fun h=>?_) (fun h=>?_)|refine gD1 (fun h=>?_) (fun h=>?_))<;>simp only[go_sem,h]
 ·have h40:¬ x.length≤40:=by simp at h;omega
  have:isName x=false:=by rw[hx] at h40 ⊢;simp only[isName,h40,decide_false,Bool.false_and]
  exact DK.here (by rwa[this] at hk)
 have h40:x.length≤40:=by simp at h;omega
 have h0:x[0]?=some c:=by rw[hx];rfl
 have hl0:0<x.length:=by rw[hx];exact Nat.zero_lt_succ _
 simp only[go_sem,h0,hl0];refine isLetter_den _ _ _ _ ?_;simp only[go_sem]
 (first|refine gC8 (fun h=>?_) (fun h=>?_)|refine gC9 (fun h=>?_) (fun h=>?_)|refine gD1 (fun h=>?_) (fun h=>?_))<;>simp only[go_sem,h]
 ·have:isName x=false:=by
   have:isLet c.toNat=false:=by simpa using h
   rw[hx];simp[isName,this]
  exact DK.here (by rwa[this] at hk)
 have hl:isLet c.toNat=true:=by simpa using h
 refine Ex.loop (fun i=>[(0,.str x),(18,.int .i64 x.length),(19,.int .i64 (i:Nat))]) (fun _=>s)
  (fun i=>i≤x.length∧∀ d∈x.take i,isPart d.toNat=true) (fun i=>x.length-i) 0 ⟨Nat.zero_le _,by simp⟩ ?_ (St.ge.refl s) ?_
 ·simp only[go_sem];rfl
 ·rintro i ⟨hi,hall⟩;refine wpC_ok (V:=[0,2,3,16,18,19,20,26]) _ _ _ _ ?_;simp only[go_sem]
  (first|refine gC8 (fun h=>?_) (fun h=>?_)|refine gC9 (fun h=>?_) (fun h=>?_)|refine gD1 (fun h=>?_) (fun h=>?_))<;>simp only[go_sem,h]
  ·have hix:i<x.length:=by simpa using h
   obtain ⟨d,hd⟩:∃ d,x[i]?=some d:=⟨_,List.getElem?_eq_getElem hix⟩
   simp only[go_sem,hd,hix];refine isPart_den _ _ _ _ ?_;simp only[go_sem]
   (first|refine gC8 (fun h=>?_) (fun h=>?_)|refine gC9 (fun h=>?_) (fun h=>?_)|refine gD1 (fun h=>?_) (fun h=>?_))<;>simp only[go_sem,h]
   ·have hp:isPart d.toNat=false:=by simpa using h
    have:isName x=false:=by
     rw[hx] at hd ⊢;simp only[isName,Bool.and_eq_false_iff];refine .inr (.inr (Bool.eq_false_iff.2 fun hall=>?_));rw[List.all_eq_true] at hall;have:=hall d (List.mem_of_getElem? hd);rw[hp] at this;cases this
    exact DK.here (by rwa[this] at hk)
   ·have hp:isPart d.toNat=true:=by simpa using h
    refine ⟨i+1,⟨by omega,?_⟩,by omega,?_,St.ge.refl s⟩
    ·intro q hq;rw[List.take_add_one,hd] at hq;simp only[List.mem_append,Option.toList_some,List.mem_singleton] at hq;rcases hq with hq|rfl
     ·exact hall q hq
     ·exact hp
    ·simp only[go_sem,wrap1 i (by omega)]
  ·have hix:i=x.length:=by simp at h;omega
   have:isName x=true:=by
    rw[hix,List.take_length] at hall;rw[hx] at hall h40 ⊢;simp only[isName,hl,List.all_eq_true,gD5,decide_eq_true_eq];exact ⟨h40,trivial,hall⟩
   exact DK.here (by rwa[this] at hk)
end Go.AV
end
section
namespace Go.AV
open Go Go.Proofs
theorem Den.extern {C : Cx} {f : FuncId} {fn : Func} {e : Array Value → Sem Value} (hf : C.P.funcs[f]? = some fn) (hname : (fn.name == "runtime.NumGoroutine") = false)
  (hb:fn.body.isNone=true) (hn:Extern.findNext fn=none) (he:Extern.find fn=some e) {args:List A} {s:St} {KV Kp:St→A→Prop}
  (h:∀ g vals,Rzs g args vals→∃ v a,(∀ w,(e vals.toArray).run C.P w=.ok v w)∧Rz g a v∧KV s a):Den C f args KV Kp s:=by
 intro F g w vals hR hv;obtain ⟨v,a,h1,h2,h3⟩:=h g vals hv;rw[run_callFunc_extern hf hname hb hn he,h1];exact ⟨g,a,s,Gh.le.refl g,hR,h2,h3⟩
theorem Rzs.two {g:Gh} {a b:A} {vals:List Value} (h:Rzs g [a,b] vals):∃ u v,vals=[u,v]∧Rz g a u∧Rz g b v:=by
 have hl:=h.1
 match vals,hl with
 | [u,v],_=>exact ⟨u,v,rfl,h.2 0 a u rfl rfl,h.2 1 b v rfl rfl⟩
theorem idxByte316_den (s:St) (x:Str) (c:UInt8) (KV Kp) (hk:KV s (.int .i64 (Lib.indexByte x c))):Den cx 316 [.str x,.int .u8 c.toNat] KV Kp s:=by
 refine Den.extern (C:=cx) Tryz.func316 rfl rfl rfl (e:=Extern.BytealgIndexByte.indexByte) (by kernel_rfl) fun g vals hv=>?_
 obtain ⟨u,v,rfl,r1,r2⟩:=hv.two;rw[r1.str_inv,r2.int_inv];refine ⟨_,_,fun w=>Lib.run_indexByteString _ _ w,.int _ _,?_⟩;simpa using hk
theorem count217_den (s:St) (x:Str) (c:UInt8) (KV Kp) (hk:KV s (.int .i64 (x.count c:Nat))):Den cx 217 [.str x,.int .u8 c.toNat] KV Kp s:=by
 refine Den.extern (C:=cx) Tryz.func217 rfl rfl rfl (e:=Extern.BytealgCount.count) (by kernel_rfl) fun g vals hv=>?_
 obtain ⟨u,v,rfl,r1,r2⟩:=hv.two;rw[r1.str_inv,r2.int_inv];refine ⟨_,_,fun w=>Lib.run_countString _ _ w,.int _ _,?_⟩;simpa [Lib.countByte] using hk
theorem idxByte303_den (s:St) (x:Str) (c:UInt8) (KV Kp) (hk:KV s (.int .i64 (Lib.indexByte x c))):Den cx 303 [.str x,.int .u8 c.toNat] KV Kp s:=by
 refine Den.drop ?_;(refine Den.of_body (C:=cx) Tryz.func303 rfl rfl (gC6 rfl) ?_;refine wpC_ok (V:=[0,1,4]) _ _ _ _ ?_;simp only[go_sem,Tryz.ntmps303,Tryz.f303])
 (repeat' (first|exact DK.st hk (by (repeat (first|exact St.ge.refl _|refine St.ge_set (by simp only[]) ?_)))|(refine idxByte316_den _ _ _ _ _ ?_;simp only[go_sem])|((first|refine gC8 (fun h=>?_) (fun h=>?_)|refine gC9 (fun h=>?_) (fun h=>?_)|refine gD1 (fun h=>?_) (fun h=>?_))<;>simp only[go_sem,h]<;>(try simp only[h,Bool.true_and,Bool.false_and,Bool.and_true,Bool.and_false,Bool.or_true,Bool.true_or,Bool.or_false,Bool.false_or,Bool.not_true,Bool.not_false] at hk))))
theorem idxByte298_den (s:St) (x:Str) (c:UInt8) (KV Kp) (hk:KV s (.int .i64 (Lib.indexByte x c))):Den cx 298 [.str x,.int .u8 c.toNat] KV Kp s:=by
 refine Den.drop ?_;(refine Den.of_body (C:=cx) Tryz.func298 rfl rfl (gC6 rfl) ?_;refine wpC_ok (V:=[0,1,4]) _ _ _ _ ?_;simp only[go_sem,Tryz.ntmps298,Tryz.f298])
 (repeat' (first|exact DK.st hk (by (repeat (first|exact St.ge.refl _|refine St.ge_set (by simp only[]) ?_)))|(refine idxByte303_den _ _ _ _ _ ?_;simp only[go_sem])|((first|refine gC8 (fun h=>?_) (fun h=>?_)|refine gC9 (fun h=>?_) (fun h=>?_)|refine gD1 (fun h=>?_) (fun h=>?_))<;>simp only[go_sem,h]<;>(try simp only[h,Bool.true_and,Bool.false_and,Bool.and_true,Bool.and_false,Bool.or_true,Bool.true_or,Bool.or_false,Bool.false_or,Bool.not_true,Bool.not_false] at hk))))
theorem hasPre311_den (s:St) (x p:Str) (KV Kp) (hk:KV s (.bool (hasPre x p))):Den cx 311 [.str x,.str p] KV Kp s:=by
 unfold hasPre at hk;refine Den.drop ?_;(refine Den.of_body (C:=cx) Tryz.func311 rfl rfl (gC6 rfl) ?_;refine wpC_ok (V:=[0,1,4]) _ _ _ _ ?_;simp only[go_sem,Tryz.ntmps311,Tryz.f311])
 (first|refine gC8 (fun h=>?_) (fun h=>?_)|refine gC9 (fun h=>?_) (fun h=>?_)|refine gD1 (fun h=>?_) (fun h=>?_))<;>simp only[go_sem,h]<;>(try simp only[h,Bool.true_and,Bool.false_and,Bool.and_true,Bool.and_false,Bool.or_true,Bool.true_or,Bool.or_false,Bool.false_or,Bool.not_true,Bool.not_false] at hk)
 ·have hl:p.length≤x.length:=by simpa using h
  simp only[go_sem,hl];exact DK.here hk
 ·exact DK.here hk
theorem hasPre299_den (s:St) (x p:Str) (KV Kp) (hk:KV s (.bool (hasPre x p))):Den cx 299 [.str x,.str p] KV Kp s:=by
 refine Den.drop ?_;(refine Den.of_body (C:=cx) Tryz.func299 rfl rfl (gC6 rfl) ?_;refine wpC_ok (V:=[0,1,4]) _ _ _ _ ?_;simp only[go_sem,Tryz.ntmps299,Tryz.f299])
 (repeat' (first|exact DK.st hk (by (repeat (first|exact St.ge.refl _|refine St.ge_set (by simp only[]) ?_)))|(refine hasPre311_den _ _ _ _ _ ?_;simp only[go_sem])|((first|refine gC8 (fun h=>?_) (fun h=>?_)|refine gC9 (fun h=>?_) (fun h=>?_)|refine gD1 (fun h=>?_) (fun h=>?_))<;>simp only[go_sem,h]<;>(try simp only[h,Bool.true_and,Bool.false_and,Bool.and_true,Bool.and_false,Bool.or_true,Bool.true_or,Bool.or_false,Bool.false_or,Bool.not_true,Bool.not_false] at hk))))
theorem lastIdx219_den (s:St) (x:Str) (c:UInt8) (KV Kp) (hx:x.length≤4294967296) (hk:KV s (.int .i64 (lastTo x c x.length))):Den cx 219 [.str x,.int .u8 c.toNat] KV Kp s:=by
 refine Den.drop ?_;(refine Den.of_body (C:=cx) Tryz.func219 rfl rfl (gC6 rfl) ?_;refine wpC_ok (V:=[0,1,4,5,10,17]) _ _ _ _ ?_;simp only[go_sem,Tryz.ntmps219,Tryz.f219]);rw[wrap_in _ (by omega) (by omega)]
 refine Ex.loop (fun n=>[(0,.str x),(1,.int .u8 c.toNat),(5,.int .i64 ((n:Nat)-1:Int))]) (fun _=>s)
  (fun n=>n≤x.length∧lastTo x c x.length=lastTo x c n) (fun n=>n) x.length ⟨Nat.le_refl _,rfl⟩ ?_ (St.ge.refl s) ?_
 ·simp only[go_sem]
 ·rintro n ⟨hn,he⟩;refine wpC_ok (V:=[0,1,4,5,10,17]) _ _ _ _ ?_;simp only[go_sem]
  (first|refine gC8 (fun h=>?_) (fun h=>?_)|refine gC9 (fun h=>?_) (fun h=>?_)|refine gD1 (fun h=>?_) (fun h=>?_))<;>simp only[go_sem,h]
  ·obtain ⟨m,rfl⟩:∃ m,n=m+1:=⟨n-1,by simp at h;omega⟩
   have e1:(((m+1:Nat):Int)-1)=(m:Int):=by omega
   have hm:m<x.length:=by omega
   obtain ⟨d,hd⟩:∃ d,x[m]?=some d:=⟨_,List.getElem?_eq_getElem hm⟩
   simp only[go_sem,e1,hm,hd]
   (first|refine gC8 (fun h=>?_) (fun h=>?_)|refine gC9 (fun h=>?_) (fun h=>?_)|refine gD1 (fun h=>?_) (fun h=>?_))<;>simp only[go_sem,h]
   ·have hdc:d=c:=by
     have:d.toNat=c.toNat:=by simpa using h
     exact UInt8.toNat_inj.1 this
    subst hdc;rw[he,lastTo,if_pos hd] at hk;exact DK.here hk
   ·have hdc:¬ d=c:=by
     rintro rfl;simp at h
    rw[wrap_in _ (by omega) (by omega)];refine ⟨m,⟨by omega,?_⟩,by omega,?_,St.ge.refl s⟩
    ·rw[he,lastTo,if_neg (by rw[hd];simpa using hdc)]
    ·simp only[go_sem]
  ·have h0:n=0:=by simp at h;omega
   subst h0;rw[he,lastTo] at hk;exact DK.here hk
theorem lastIdx143_den (s:St) (x:Str) (c:UInt8) (KV Kp) (hx:x.length≤4294967296) (hk:KV s (.int .i64 (lastTo x c x.length))):Den cx 143 [.str x,.int .u8 c.toNat] KV Kp s:=by
 refine Den.drop ?_;(refine Den.of_body (C:=cx) Tryz.func143 rfl rfl (gC6 rfl) ?_;refine wpC_ok (V:=[0,1,4]) _ _ _ _ ?_;simp only[go_sem,Tryz.ntmps143,Tryz.f143])
 (repeat' (first|exact DK.st hk (by (repeat (first|exact St.ge.refl _|refine St.ge_set (by simp only[]) ?_)))|(refine lastIdx219_den _ _ _ _ _ hx ?_;simp only[go_sem])|((first|refine gC8 (fun h=>?_) (fun h=>?_)|refine gC9 (fun h=>?_) (fun h=>?_)|refine gD1 (fun h=>?_) (fun h=>?_))<;>simp only[go_sem,h]<;>(try simp only[h,Bool.true_and,Bool.false_and,Bool.and_true,Bool.and_false,Bool.or_true,Bool.true_or,Bool.or_false,Bool.false_or,Bool.not_true,Bool.not_false] at hk))))
theorem isDigit_den (s:St) (c:Int) (KV Kp) (hk:KV s (.bool (isDig c))):Den cx 301 [.int .u8 c] KV Kp s:=by
 unfold isDig at hk;refine Den.drop ?_;(refine Den.of_body (C:=cx) Tryz.func301 rfl rfl (gC6 rfl) ?_;refine wpC_ok (V:=[0,2]) _ _ _ _ ?_;simp only[go_sem,Tryz.ntmps301,Tryz.f301])
 (repeat' (first|exact DK.st hk (by (repeat (first|exact St.ge.refl _|refine St.ge_set (by simp only[]) ?_)))|((first|refine gC8 (fun h=>?_) (fun h=>?_)|refine gC9 (fun h=>?_) (fun h=>?_)|refine gD1 (fun h=>?_) (fun h=>?_))<;>simp only[go_sem,h]<;>(try simp only[h,Bool.true_and,Bool.false_and,Bool.and_true,Bool.and_false,Bool.or_true,Bool.true_or,Bool.or_false,Bool.false_or,Bool.not_true,Bool.not_false] at hk))))
theorem run_den (s:St) (x:Str) (f:FuncId) (p:UInt8→Bool) (KV Kp) (hx:x.length≤4294967296)
  (hf:∀ (c:UInt8) KV Kp,KV s (.bool (p c))→Den cx f [.int .u8 c.toNat] KV Kp s)
  (hk:KV s (.int .i64 (x.takeWhile p).length)):Den cx 300 [.str x,.fn f [] []] KV Kp s:=by
 refine Den.drop ?_;(refine Den.of_body (C:=cx) Tryz.func300 rfl rfl (gC6 rfl) ?_;refine wpC_ok (V:=[0,1,4,5,16]) _ _ _ _ ?_;simp only[go_sem,Tryz.ntmps300,Tryz.f300])
 refine Ex.loop (fun n=>[(0,.str x),(1,.fn f [] []),(5,.int .i64 (n:Nat))]) (fun _=>s)
  (fun n=>n≤x.length∧(x.takeWhile p).length=n+((x.drop n).takeWhile p).length) (fun n=>x.length-n) 0 ⟨Nat.zero_le _,by simp⟩ ?_ (St.ge.refl s) ?_
 ·simp only[go_sem];rfl
 ·rintro n ⟨hn,he⟩;refine wpC_ok (V:=[0,1,4,5,16]) _ _ _ _ ?_;simp only[go_sem]
  (first|refine gC8 (fun h=>?_) (fun h=>?_)|refine gC9 (fun h=>?_) (fun h=>?_)|refine gD1 (fun h=>?_) (fun h=>?_))<;>simp only[go_sem,h]
  ·have hn':n<x.length:=by simpa using h
   obtain ⟨d,hd⟩:∃ d,x[n]?=some d:=⟨_,List.getElem?_eq_getElem hn'⟩
   have hdr:x.drop n=d::x.drop (n+1):=by
    rw[List.drop_eq_getElem_cons hn'];congr 1;rw[List.getElem?_eq_getElem hn'] at hd;simpa using hd
   simp only[go_sem,hd,hn'];refine hf _ _ _ ?_;simp only[go_sem]
   (first|refine gC8 (fun h=>?_) (fun h=>?_)|refine gC9 (fun h=>?_) (fun h=>?_)|refine gD1 (fun h=>?_) (fun h=>?_))<;>simp only[go_sem,h]
   ·have hp:p d=true:=by simpa using h
    refine ⟨n+1,⟨by omega,?_⟩,by omega,?_,St.ge.refl s⟩
    ·rw[he,hdr,List.takeWhile_cons_of_pos hp,gC1];omega
    ·simp only[go_sem,wrap1 n (by omega)]
   ·have hp:¬ p d=true:=by simp[h]
    rw[he,hdr,List.takeWhile_cons_of_neg hp] at hk;exact DK.here (by simpa using hk)
  ·have hn':n=x.length:=by simp at h;omega
   subst hn';rw[he,List.drop_length] at hk;exact DK.here (by simpa using hk)
end Go.AV
end
section
namespace Go.AV
open Go Go.Proofs
theorem St.ge_same {s:St} {b:Nat} {o:Ob} (h:s.getO b=some o):s.ge (s.setO b o) :=
 ⟨fun c x hc => by
  rw[gA1] at hc;split at hc
  ·rename_i e;subst e;rw[h];exact hc
  ·exact hc,fun _ _ h=>h,fun _ h=>h⟩
def rdCs (x:Str) (at_ line col:Nat) (sg:List Str) (op:Bool):List A:=[.str x,.int .i64 at_,.int .i64 line,.int .i64 col,.list none (sg.map .str),.bool op]
theorem adv_app:∀ (w v:Str) (p:Nat × Nat),adv p (w++v)=adv (adv p w) v
 | [],v,p=>rfl
 | b::w,v,(l,c)=>by
  simp only[gD2,adv];split<;>exact adv_app w v _
theorem adv_le:∀ (w:Str) (p:Nat × Nat) (k:Nat),p.1≤k+1→p.2≤k+1→(adv p w).1≤k+w.length+1∧(adv p w).2≤k+w.length+1
 | [],p,k,h1,h2=>⟨h1,h2⟩
 | b::w,(l,c),k,h1,h2=>by
  simp only[adv,gC1];split
  ·have:=adv_le w (l+1,1) (k+1) (by simpa using h1) (by simp);omega
  ·have:=adv_le w (l,c+1) (k+1) (by have:l≤k+1:=h1;simp;omega) (by simpa using h2);omega
theorem skip_den (s:St) (r:Nat) (x:Str) (at_ l c n:Nat) (sg:List Str) (op:Bool) (KV Kp)
  (hr:s.getO r=some (.cells 226 (rdCs x at_ l c sg op))) (hx:x.length≤4294967296) (hn:at_+n≤x.length) (hl:l≤at_+1) (hc:c≤at_+1)
  (hk:KV (s.setO r (.cells 226 (rdCs x (at_+n) (adv (l,c) ((x.drop at_).take n)).1 (adv (l,c) ((x.drop at_).take n)).2 sg op))) (.tuple [])) :
  Den cx 279 [.ptr r 0,.int .i64 n] KV Kp s:=by
 refine Den.drop ?_;(refine Den.of_body (C:=cx) Tryz.func279 rfl rfl (gC6 rfl) ?_;refine wpC_ok (V:=[0,1,4,5,6,23]) _ _ _ _ ?_;simp only[go_sem,Tryz.ntmps279,Tryz.f279])
 refine Ex.loop (fun i=>[(0,.ptr r 0),(4,.int .i64 n),(5,.int .i64 (i:Nat))])
  (fun i=>s.setO r (.cells 226 (rdCs x (at_+i) (adv (l,c) ((x.drop at_).take i)).1 (adv (l,c) ((x.drop at_).take i)).2 sg op)))
  (fun i=>i≤n) (fun i=>n-i) 0 (Nat.zero_le _) ?_ ?_ ?_
 ·simp only[go_sem];rfl
 ·simp only[Nat.add_zero,List.take_zero,adv];exact St.ge_same hr
 ·intro i hi;refine wpC_ok (V:=[0,1,4,5,6,23]) _ _ _ _ ?_;have hb:=adv_le ((x.drop at_).take i) (l,c) at_ hl hc;have hlen:((x.drop at_).take i).length=i:=by rw[List.length_take,gD4];omega
  rw[hlen] at hb;simp only[go_sem]
  (first|refine gC8 (fun h=>?_) (fun h=>?_)|refine gC9 (fun h=>?_) (fun h=>?_)|refine gD1 (fun h=>?_) (fun h=>?_))<;>simp only[go_sem,h]
  ·have hin:i<n:=by simpa using h
   have hix:at_+i<x.length:=by omega
   obtain ⟨d,hd⟩:∃ d,x[at_+i]?=some d:=⟨_,List.getElem?_eq_getElem hix⟩
   simp only[go_sem,rdCs];rw[wrap1 _ (by omega)];(refine draw_ok (V:=[0,1,4,5,6,23]) (OT.l [0,1,2,3,4,5,6,7,8,9] .nil) [] mixed_cx (by decide +kernel) ?_;simp only[go_sem,hd,hix])
   have hst:adv (l,c) ((x.drop at_).take (i+1))=adv (adv (l,c) ((x.drop at_).take i)) [d]:=by
    rw[List.take_add_one,List.getElem?_drop,hd,adv_app];rfl
   have e5:IntKind.i64.wrap ((i:Int)+1)=((i+1:Nat):Int):=wrap1 i (by omega);have e1:IntKind.i64.wrap (((at_+i:Nat):Int)+1)=((at_+(i+1):Nat):Int):=by rw[wrap1 _ (by omega)];rfl
   have e2:IntKind.i64.wrap (((adv (l,c) ((x.drop at_).take i)).1:Int)+1)=(((adv (l,c) ((x.drop at_).take i)).1+1:Nat):Int):=wrap1 _ (by omega)
   (first|refine gC8 (fun h=>?_) (fun h=>?_)|refine gC9 (fun h=>?_) (fun h=>?_)|refine gD1 (fun h=>?_) (fun h=>?_))<;>simp only[go_sem,h,e1,e2,e5]
   ·have hd10:d=10:=by
     have:d.toNat=10:=by simp at h;omega
     exact UInt8.toNat_inj.1 this
    refine ⟨i+1,by omega,by omega,rfl,?_⟩;rw[hst];simp only[adv,hd10,if_true];exact St.ge.refl _
   ·have hd10:¬ d=10:=by rintro rfl;simp at h
    refine ⟨i+1,by omega,by omega,rfl,?_⟩;rw[hst];simp only[adv,hd10,if_false];exact St.ge.refl _
  ·have hin:i=n:=by simp at h;omega
   subst hin;exact DK.here hk
end Go.AV
end
section
namespace Go.AV
open Go Go.Proofs
@[go_sem] theorem take_drop_all (x:Str) (n:Nat):(x.drop n).take (x.length-n)=x.drop n:=List.take_of_length_le (by rw[gD4];exact Nat.le_refl _)
theorem takeWhile_pre {b:UInt8} {r:Str} (h:hasPre (b::r) [47,47]=true):1≤((b::r).takeWhile (fun c=>!decide (c=10))).length:=by
 have hb:b=47:=by
  simp only[hasPre,gD5,decide_eq_true_eq] at h;have:=h.2;simp at this;exact this.1
 subst hb;simp[List.takeWhile]
theorem blk_fuel:∀ (f g:Nat) (w:Str),w.length≤f→w.length≤g→blk f w=blk g w
 | f,g,[],_,_=>by cases f<;>cases g<;>rfl
 | 0,g,b::r,h,_=>by simp at h
 | f,0,b::r,_,h=>by simp at h
 | f+1,g+1,b::r,hf,hg=>by
  simp only[gC1] at hf hg;simp only[blk];split
  ·rw[blk_fuel f g r (by omega) (by omega)]
  ·split
   ·rename_i hp;have:=takeWhile_pre hp;rw[blk_fuel f g _ (by rw[gD4,gC1];omega) (by rw[gD4,gC1];omega)]
   ·rfl
theorem blks_nil:blks []=0:=rfl
theorem blks_blank {b:UInt8} {r:Str} (h:isBlank b=true):blks (b::r)=1+blks r:=by
 simp only[blks,gC1,blk,h,if_true]
theorem blks_note {b:UInt8} {r:Str} (hb:isBlank b=false) (h:hasPre (b::r) [47,47]=true) :
  blks (b::r)=((b::r).takeWhile (fun c=>!decide (c=10))).length+blks ((b::r).drop ((b::r).takeWhile (fun c=>!decide (c=10))).length):=by
 have:=takeWhile_pre h;simp only[blks,gC1,blk,hb,gD7,if_false,h,if_true];rw[blk_fuel r.length _ _ (by rw[gD4,gC1];omega) (Nat.le_refl _)]
theorem blks_none {b:UInt8} {r:Str} (hb:isBlank b=false) (h:hasPre (b::r) [47,47]=false):blks (b::r)=0:=by
 simp only[blks,gC1,blk,hb,gD7,if_false,h]
theorem idx_blank (b:UInt8):decide (0≤Lib.indexByte [32,9,10,13] b)=isBlank b:=by
 by_cases h1:b=32
 ·subst h1;decide
 by_cases h2:b=9
 ·subst h2;decide
 by_cases h3:b=10
 ·subst h3;decide
 by_cases h4:b=13
 ·subst h4;decide
 have e1:((32:UInt8) == b)=false:=beq_eq_false_iff_ne.2 fun e=>h1 e.symm
 have e2:((9:UInt8) == b)=false:=beq_eq_false_iff_ne.2 fun e=>h2 e.symm
 have e3:((10:UInt8) == b)=false:=beq_eq_false_iff_ne.2 fun e=>h3 e.symm
 have e4:((13:UInt8) == b)=false:=beq_eq_false_iff_ne.2 fun e=>h4 e.symm
 simp[Lib.indexByte,isBlank,e1,e2,e3,e4,h1,h2,h3,h4]
theorem idx_line (w:Str):(if Lib.indexByte w 10<0 then ((w.length:Nat):Int) else Lib.indexByte w 10)=((w.takeWhile (fun c=>!decide (c=10))).length:Nat)∧(Lib.indexByte w 10=-1∨0≤Lib.indexByte w 10):=by
 induction w with
 | nil=>simp[Lib.indexByte]
 | cons b r ih =>
  obtain ⟨ih,ih2⟩:=ih;unfold Lib.indexByte;by_cases hb:b=10
  ·subst hb;simp
  ·have hb':(b == 10)=false:=by simpa using hb
   rw[hb'];simp only[gD7,if_false];have htw:(b::r).takeWhile (fun c=>!decide (c=10))=b::r.takeWhile (fun c=>!decide (c=10)):=by simp[List.takeWhile,hb]
   rw[htw];rcases ih2 with h|h
   ·rw[h] at ih ⊢;simp only[show ((-1:Int)<0) from by decide,if_true] at ih;simp only[beq_self_eq_true,if_true,show ((-1:Int)<0) from by decide,gC1];exact ⟨by omega,.inl trivial⟩
   ·have h1:¬ Lib.indexByte r 10<0:=by omega
    have h2:(Lib.indexByte r 10 == -1)=false:=by simpa using (by omega:¬ Lib.indexByte r 10=-1)
    rw[if_neg h1] at ih;rw[h2];simp only[gD7,if_false,gC1];rw[if_neg (by omega)];exact ⟨by omega,.inr (by omega)⟩
theorem blanks_den (s:St) (r:Nat) (x:Str) (at_ l c:Nat) (sg:List Str) (op:Bool) (KV Kp)
  (hr:s.getO r=some (.cells 226 (rdCs x at_ l c sg op))) (hx:x.length≤4294967296) (ha:at_≤x.length) (hl:l≤at_+1) (hc:c≤at_+1)
  (hk:KV (s.setO r (.cells 226 (rdCs x (at_+blks (x.drop at_)) (adv (l,c) ((x.drop at_).take (blks (x.drop at_)))).1 (adv (l,c) ((x.drop at_).take (blks (x.drop at_)))).2 sg op))) (.tuple [])) :
  Den cx 277 [.ptr r 0] KV Kp s:=by
 refine Den.drop ?_;(refine Den.of_body (C:=cx) Tryz.func277 rfl rfl (gC6 rfl) ?_;refine wpC_ok (V:=[0,2,3,13,23,30,36]) _ _ _ _ ?_;simp only[go_sem,Tryz.ntmps277,Tryz.f277])
 refine Ex.loop (fun k=>[(0,.ptr r 0)])
  (fun k=>s.setO r (.cells 226 (rdCs x (at_+k) (adv (l,c) ((x.drop at_).take k)).1 (adv (l,c) ((x.drop at_).take k)).2 sg op)))
  (fun k=>at_+k≤x.length∧blks (x.drop at_)=k+blks (x.drop (at_+k))) (fun k=>x.length-(at_+k)) 0 ⟨by omega,by simp⟩ ?_ ?_ ?_
 ·simp only[go_sem]
 ·simp only[Nat.add_zero,List.take_zero,adv];exact St.ge_same hr
 ·rintro k ⟨hkx,hb⟩;have hlen:((x.drop at_).take k).length=k:=by rw[List.length_take,gD4];omega
  have hal:=adv_le ((x.drop at_).take k) (l,c) at_ hl hc;rw[hlen] at hal
  have hstep:∀ m,adv (l,c) ((x.drop at_).take (k+m))=adv (adv (l,c) ((x.drop at_).take k)) ((x.drop (at_+k)).take m):=by
   intro m;rw[List.take_add,adv_app,List.drop_drop]
  refine wpC_ok (V:=[0,2,3,13,23,30,36]) _ _ _ _ ?_;simp only[go_sem];(refine draw_ok (V:=[0,2,3,13,23,30,36]) (OT.l [0,1,2,3,4,5,6,7,8,9] .nil) [] mixed_cx (by decide +kernel) ?_;simp only[go_sem,rdCs])
  (first|refine gC8 (fun h=>?_) (fun h=>?_)|refine gC9 (fun h=>?_) (fun h=>?_)|refine gD1 (fun h=>?_) (fun h=>?_))<;>simp only[go_sem,h]
  ·have hlt:at_+k<x.length:=by simpa using h
   have hcons:∃ d w,x.drop (at_+k)=d::w:=by
    rw[List.drop_eq_getElem_cons hlt];exact ⟨_,_,rfl⟩
   obtain ⟨d,w,hw⟩:=hcons;have ha':at_+k≤x.length:=by omega
   have htk:(d::w).take (x.length-(at_+k))=d::w:=by rw[← hw];exact take_drop_all x _
   (refine draw_ok (V:=[0,2,3,13,23,30,36]) (OT.l [0,1,2,3,4,5,6,7,8,9] .nil) [] mixed_cx (by decide +kernel) ?_;simp only[go_sem,rdCs,hw,htk,ha',Nat.le_refl]);refine idxByte298_den _ _ _ _ _ ?_;simp only[go_sem,idx_blank]
   (first|refine gC8 (fun h=>?_) (fun h=>?_)|refine gC9 (fun h=>?_) (fun h=>?_)|refine gD1 (fun h=>?_) (fun h=>?_))<;>simp only[go_sem,h]
   ·
    refine skip_den _ r x (at_+k) _ _ 1 sg op _ _ (by rw[gA1,if_pos rfl];rfl) hx (by omega) (by omega) (by omega) ?_;simp only[go_sem];refine ⟨k+1,⟨by omega,?_⟩,by omega,?_⟩
    ·rw[hb,hw,blks_blank h,show at_+(k+1)=at_+k+1 from rfl,← List.drop_drop,hw];simp;omega
    ·rw[hstep 1];exact St.ge.refl _
   ·refine hasPre299_den _ _ _ _ _ ?_;simp only[go_sem]
    (first|refine gC8 (fun h=>?_) (fun h=>?_)|refine gC9 (fun h=>?_) (fun h=>?_)|refine gD1 (fun h=>?_) (fun h=>?_))<;>simp only[go_sem,h]
    ·have hbl:isBlank d=false:=by assumption
     have hp:=h;refine idxByte298_den _ _ 10 _ _ ?_;simp only[go_sem];have hi:=idx_line (d::w);have hpos:=takeWhile_pre hp;have hle:((d::w).takeWhile (fun c=>!decide (c=10))).length≤(d::w).length:=(List.takeWhile_sublist _).length_le;have hwl:(d::w).length=x.length-(at_+k):=by rw[← hw,gD4]
     have fin:∀ m:Nat,m=((d::w).takeWhile (fun c=>!decide (c=10))).length→at_+k+m≤x.length∧blks (x.drop at_)=k+m+blks (x.drop (at_+(k+m))):=by
      rintro m rfl;refine ⟨by omega,?_⟩;have:=blks_note hbl hp;rw[hb,hw,this,← Nat.add_assoc at_,← List.drop_drop,hw];omega
     generalize hm:((d::w).takeWhile (fun c=>!decide (c=10))).length=m at hi hpos hle;obtain ⟨f1,f2⟩:=fin m hm.symm
     (first|refine gC8 (fun h=>?_) (fun h=>?_)|refine gC9 (fun h=>?_) (fun h=>?_)|refine gD1 (fun h=>?_) (fun h=>?_))<;>simp only[go_sem,h]
     ·have hlt:Lib.indexByte (d::w) 10<0:=by simpa using h
      have e:=hi.1;rw[if_pos hlt] at e;have e:w.length+1=m:=by simp at e;omega
      rw[e];refine skip_den _ r x (at_+k) _ _ m sg op _ _ (by rw[gA1,if_pos rfl];rfl) hx f1 (by omega) (by omega) ?_;simp only[go_sem];refine ⟨k+m,⟨by omega,f2⟩,by omega,?_⟩;rw[hstep m,Nat.add_assoc at_ k m];exact St.ge.refl _
     ·have hlt:¬ Lib.indexByte (d::w) 10<0:=by simpa using h
      have e:=hi.1;rw[if_neg hlt] at e;rw[e];refine skip_den _ r x (at_+k) _ _ m sg op _ _ (by rw[gA1,if_pos rfl];rfl) hx f1 (by omega) (by omega) ?_;simp only[go_sem];refine ⟨k+m,⟨by omega,f2⟩,by omega,?_⟩;rw[hstep m,Nat.add_assoc at_ k m];exact St.ge.refl _
    ·have hbl:isBlank d=false:=by assumption
     rw[hb,hw,blks_none hbl h,Nat.add_zero] at hk;exact DK.here hk
  ·have hkl:at_+k=x.length:=by simp at h;omega
   have e:blks (x.drop at_)=k:=by rw[hb,hkl,List.drop_length,blks_nil];rfl
   rw[e] at hk;exact DK.here hk
end Go.AV
end
section
namespace Go.AV
open Go Go.Proofs
theorem dec_low {x:Str} {i:Nat} {d:UInt8} (hd:x[i]?=some d) (h:d.toNat<128):Utf8.decode ⟨x.toArray⟩ i=(d.toNat,1):=by
 have hi:i<x.length:=(List.getElem?_eq_some_iff.1 hd).1;have hs:i<(ByteArray.mk x.toArray).size:=by simpa [ByteArray.size] using hi
 have e:(ByteArray.mk x.toArray)[i]'hs=d:=by
  exact (List.getElem?_eq_some_iff.1 hd).2
 have:=decode_ascii ⟨x.toArray⟩ i hs (by rw[e];exact h);rw[this,e]
theorem dec_high {x:Str} {i:Nat} {d:UInt8} (hd:x[i]?=some d) (h:128≤d.toNat):128≤(Utf8.decode ⟨x.toArray⟩ i).1:=by
 have hi:i<x.length:=(List.getElem?_eq_some_iff.1 hd).1;have hs:i<(ByteArray.mk x.toArray).size:=by simpa [ByteArray.size] using hi
 have e:(ByteArray.mk x.toArray)[i]'hs=d:=by
  exact (List.getElem?_eq_some_iff.1 hd).2
 exact (decode_high ⟨x.toArray⟩ i hs (by rw[e];exact h)).1
theorem isString_den (s:St) (x:Str) (KV Kp) (hk:KV s (.bool (isStr x))):Den cx 273 [.str x] KV Kp s:=by
 refine Den.drop ?_;(refine Den.of_body (C:=cx) Tryz.func273 rfl rfl (gC6 rfl) ?_;refine wpC_ok (V:=[0,2,4,6,7,8,23]) _ _ _ _ ?_;simp only[go_sem,Tryz.ntmps273,Tryz.f273]);intro b hb;simp only[go_sem]
 refine Ex.loop (fun i=>[(0,.str x),(6,.ptr b 0)]) (fun i=>s.setO b (.iter x i))
  (fun i=>i≤x.length∧∀ d∈x.take i,okB d=true) (fun i=>x.length-i) 0 ⟨Nat.zero_le _,by simp⟩ ?_ (St.ge.refl _) ?_
 ·simp only[go_sem]
 ·rintro i ⟨hi,hall⟩;refine wpC_ok (V:=[0,2,4,6,7,8,23]) _ _ _ _ ?_;by_cases hlt:i<x.length
  ·obtain ⟨d,hd⟩:∃ d,x[i]?=some d:=⟨_,List.getElem?_eq_getElem hlt⟩
   have bad:okB d=false→∀ o,DK KV (s.setO b o) (.bool false):=fun ho o=>by
    have:isStr x=false:=by
     rw[isStr,Bool.and_eq_false_iff];refine .inl (Bool.eq_false_iff.2 fun hall=>?_);rw[List.all_eq_true] at hall;rw[hall d (List.mem_of_getElem? hd)] at ho;cases ho
    rw[this] at hk;exact DK.st hk (St.ge_new hb)
   by_cases hlow:d.toNat<128
   ·by_cases ho:okB d=true
    ·have ho':=ho;simp only[okB,gD5,decide_eq_true_eq,Bool.not_eq_true',decide_eq_false_iff_not] at ho';obtain ⟨o1,o2,o3,o4⟩:=ho';have n3:¬ d.toNat=34:=fun e=>o3 (UInt8.toNat_inj.1 e)
     have n4:¬ d.toNat=92:=fun e=>o4 (UInt8.toNat_inj.1 e)
     have e1:decide ((d.toNat:Int)<32)=false:=decide_eq_false (by omega);have e2:decide (126<(d.toNat:Int))=false:=decide_eq_false (by omega);have e3:decide ((d.toNat:Int)=34)=false:=decide_eq_false (by omega);have e4:decide ((d.toNat:Int)=92)=false:=decide_eq_false (by omega);simp only[go_sem,hlt,dec_low hd hlow,e1,e2,e3,e4];refine ⟨i+1,⟨by omega,fun q hq=>?_⟩,by omega,St.ge.refl _⟩;rw[List.take_add_one,hd] at hq;simp only[List.mem_append,Option.toList_some,List.mem_singleton] at hq;rcases hq with hq|rfl
     ·exact hall q hq
     ·exact ho
    ·have ho':okB d=false:=by simpa using ho
     have bad:=bad ho';by_cases o1:32≤d.toNat
     ·have e1:decide ((d.toNat:Int)<32)=false:=decide_eq_false (by omega);by_cases o2:d.toNat≤126
      ·have e2:decide (126<(d.toNat:Int))=false:=decide_eq_false (by omega);by_cases o3:d.toNat=34
       ·have e3:decide ((d.toNat:Int)=34)=true:=decide_eq_true (by omega);simp only[go_sem,hlt,dec_low hd hlow,e1,e2,e3];exact bad _
       ·have e3:decide ((d.toNat:Int)=34)=false:=decide_eq_false (by omega)
        have o4:d.toNat=92:=by
         have n3:¬ d=34:=fun e=>o3 (by rw[e];rfl)
         simp only[okB,o1,o2,n3,decide_true,decide_false,Bool.true_and,Bool.not_false,Bool.not_eq_false',decide_eq_true_eq] at ho';rw[ho'];rfl
        have e4:decide ((d.toNat:Int)=92)=true:=decide_eq_true (by omega);simp only[go_sem,hlt,dec_low hd hlow,e1,e2,e3,e4];exact bad _
      ·have e2:decide (126<(d.toNat:Int))=true:=decide_eq_true (by omega);simp only[go_sem,hlt,dec_low hd hlow,e1,e2];exact bad _
     ·have e1:decide ((d.toNat:Int)<32)=true:=decide_eq_true (by omega);simp only[go_sem,hlt,dec_low hd hlow,e1];exact bad _
   ·have hh:=dec_high hd (by omega);have e1:decide (((Utf8.decode ⟨x.toArray⟩ i).1:Int)<32)=false:=decide_eq_false (by omega);have e2:decide (126<((Utf8.decode ⟨x.toArray⟩ i).1:Int))=true:=decide_eq_true (by omega);simp only[go_sem,hlt,e1,e2];exact bad (by simp only[okB,show ¬ d.toNat≤126 from by omega,decide_false,Bool.false_and,Bool.and_false]) _
  ·have hix:i=x.length:=by omega
   simp only[go_sem,hlt];refine DK.st (s2:=s) ?_ (St.ge_new hb)
   have:isStr x=decide ((x.length:Int)≤200):=by
    rw[isStr]
    have:x.all okB=true:=by
     rw[List.all_eq_true];intro d hd;rw[hix,List.take_length] at hall;exact hall d hd
    rw[this,Bool.true_and];congr 1;simp;omega
   rwa[this] at hk
end Go.AV
end
section
namespace Go.AV
open Go Go.Proofs
theorem trimByte_den (s:St) (x:Str) (c:UInt8) (KV Kp) (hk:KV s (.str (x.dropWhile (eqB c)))):Den cx 323 [.str x,.int .u8 c.toNat] KV Kp s:=by
 refine Den.drop ?_;(refine Den.of_body (C:=cx) Tryz.func323 rfl rfl (gC6 rfl) ?_;refine wpC_ok (V:=[0,1,4,13]) _ _ _ _ ?_;simp only[go_sem,Tryz.ntmps323,Tryz.f323])
 refine Ex.loop (fun w=>[(0,.str w),(1,.int .u8 c.toNat)]) (fun _=>s)
  (fun w=>w.dropWhile (eqB c)=x.dropWhile (eqB c)) (fun w=>w.length) x rfl ?_ (St.ge.refl s) ?_
 ·simp only[go_sem]
 ·intro w hw;refine wpC_ok (V:=[0,1,4,13]) _ _ _ _ ?_;cases w with
  | nil =>
   simp only[go_sem,show decide ((0:Int)<((0:Nat):Int))=false from rfl];rw[← hw] at hk;exact DK.here hk
  | cons b r =>
   simp only[go_sem,show decide ((0:Int)<((r.length+1:Nat):Int))=true from decide_eq_true (by omega)]
   have e:decide (b.toNat=c.toNat)=eqB c b:=by
    unfold eqB;congr 1;exact propext UInt8.toNat_inj
   simp only[go_sem,e]
   (first|refine gC8 (fun h=>?_) (fun h=>?_)|refine gC9 (fun h=>?_) (fun h=>?_)|refine gD1 (fun h=>?_) (fun h=>?_))<;>simp only[go_sem,h]
   ·simp only[go_sem,show (1:Int)≤((r.length+1:Nat):Int) from by omega,show Int.toNat 1=1 from rfl];refine ⟨by decide,r,?_,by omega,?_,St.ge.refl s⟩
    ·rw[← hw,List.dropWhile_cons,if_pos h]
    ·exact List.take_of_length_le (by omega)
   ·rw[← hw,List.dropWhile_cons,if_neg (by simp[h])] at hk;exact DK.here hk
theorem trimLeft_den (s:St) (x:Str) (c:UInt8) (KV Kp) (hc:c.toNat<128) (hk:KV s (.str (x.dropWhile (eqB c)))):Den cx 314 [.str x,.str [c]] KV Kp s:=by
 refine Den.drop ?_;(refine Den.of_body (C:=cx) Tryz.func314 rfl rfl (gC6 rfl) ?_;refine wpC_ok (V:=[0,1,4,5,6,12,21,31]) _ _ _ _ ?_;simp only[go_sem,Tryz.ntmps314,Tryz.f314]);cases x with
 | nil =>
  simp only[go_sem];exact DK.here hk
 | cons b r =>
  simp only[go_sem,show decide (((1:Nat):Int)=1)=true from rfl,show decide ((c.toNat:Int)<128)=true from decide_eq_true (by omega)];refine trimByte_den _ _ _ _ _ ?_;simp only[go_sem];exact DK.here hk
end Go.AV
end
section
namespace Go.AV
open Go Go.Proofs
theorem numOf_app (x:Str) (d:UInt8):numOf (x++[d])=numOf x * 10+(d.toNat-48):=by
 simp[numOf,List.foldl_append]
theorem numOf_lt:∀ (n:Nat) (x:Str),x.length=n→digits x→numOf x<10 ^ n
 | 0,x,h,_=>by have:x=[]:=List.eq_nil_of_length_eq_zero h;subst this;simp[numOf]
 | n+1,x,h,hd=>by
  have hne:x≠[]:=by rintro rfl;simp at h
  obtain ⟨y,d,rfl⟩:∃ y d,x=y++[d]:=⟨x.dropLast,x.getLast hne,(List.dropLast_concat_getLast hne).symm⟩
  have ih:=numOf_lt n y (by simpa using h) (fun e he=>hd e (by simp[he]));have:=hd d (by simp);rw[numOf_app,Nat.pow_succ];omega
theorem atoi_den (s:St) (x:Str) (KV Kp) (hl:1≤x.length) (hl2:x.length≤11) (hd:digits x) (hk:KV s (.tuple [.int .i64 (numOf x),.nili])):Den cx 327 [.str x] KV Kp s:=by
 obtain ⟨b,r,rfl⟩:∃ b r,x=b::r:=by
  cases x with
  | nil=>simp at hl
  | cons b r=>exact ⟨b,r,rfl⟩
 have hb:=hd b (by simp);refine Den.drop ?_;(refine Den.of_body (C:=cx) Tryz.func327 rfl rfl (gC6 rfl) ?_;refine wpC_ok (V:=[0,2,3,4,5,6,8,9,10,30,39,44,47,48,49,50,56,66]) _ _ _ _ ?_;simp only[go_sem,Tryz.ntmps327,Tryz.f327]);have e1:decide ((0:Int)<((r.length+1:Nat):Int))=true:=decide_eq_true (by omega);have e2:decide (((r.length+1:Nat):Int)<19)=true:=decide_eq_true (by simp at hl2;omega);have e3:decide ((b.toNat:Int)=45)=false:=decide_eq_false (by omega);have e4:decide ((b.toNat:Int)=43)=false:=decide_eq_false (by omega);simp only[go_sem,e1,e2,e3,e4];refine ⟨by unfold maxLen;simp at hl2;omega,?_⟩;have hx:(b::r).length=r.length+1:=rfl;generalize hxx:b::r=x at *
 refine Ex.loop (fun i=>[(5,.str x),(6,.int .i64 (numOf (x.take i):Nat)),(47,.list none (x.map fun c=>.int .u8 c.toNat)),(48,.int .i64 ((r.length+1:Nat))),(49,.int .i64 (i:Nat)),(3,.nili)]) (fun _=>s)
  (fun i=>i≤x.length) (fun i=>x.length-i) 0 (Nat.zero_le _) ?_ (St.ge.refl s) ?_
 ·simp only[go_sem];subst hxx;exact ⟨rfl,rfl,rfl⟩
 ·intro i hi;refine wpC_ok (V:=[0,2,3,4,5,6,8,9,10,30,39,44,47,48,49,50,56,66]) _ _ _ _ ?_;simp only[go_sem]
  (first|refine gC8 (fun h=>?_) (fun h=>?_)|refine gC9 (fun h=>?_) (fun h=>?_)|refine gD1 (fun h=>?_) (fun h=>?_))<;>simp only[go_sem,h]
  ·have hix:i<x.length:=by simp at h;omega
   obtain ⟨d,hdd⟩:∃ d,x[i]?=some d:=⟨_,List.getElem?_eq_getElem hix⟩
   have hdig:=hd d (List.mem_of_getElem? hdd)
   have f1:IntKind.u8.wrap ((d.toNat:Int)-48)=((d.toNat-48:Nat):Int):=by
    have e0:((d.toNat:Int)-48) % 2 ^ 8=(d.toNat:Int)-48:=by omega
    simp only[IntKind.wrap,IntKind.signed,IntKind.bits,Bool.false_and,gD7,if_false,e0];omega
   have hn:numOf (x.take i)<10 ^ 11:=by
    have h1:=numOf_lt (x.take i).length (x.take i) rfl (fun e he=>hd e (List.mem_of_mem_take he));have h2:(x.take i).length≤11:=by rw[List.length_take];omega
    exact Nat.lt_of_lt_of_le h1 (Nat.pow_le_pow_right (by decide) h2)
   have f2:decide ((9:Int)<((d.toNat-48:Nat):Int))=false:=decide_eq_false (by omega)
   have f3:IntKind.i64.wrap (((numOf (x.take i):Nat):Int) * 10)=((numOf (x.take i) * 10:Nat):Int):=by
    rw[wrap_in _ (by omega) (by omega)];omega
   have f4:IntKind.i64.wrap ((d.toNat-48:Nat):Int)=((d.toNat-48:Nat):Int):=wrap_in _ (by omega) (by omega)
   have f5:IntKind.i64.wrap (((numOf (x.take i) * 10:Nat):Int)+((d.toNat-48:Nat):Int))=((numOf (x.take (i+1)):Nat):Int):=by
    rw[List.take_add_one,hdd];show _=((numOf (x.take i++[d]):Nat):Int);rw[numOf_app,wrap_in _ (by omega) (by omega)];omega
   simp only[go_sem,hdd,hix,f1,f2,f3,f4,f5,wrap1 i (by omega)];exact ⟨i+1,by omega,by omega,⟨rfl,rfl⟩,St.ge.refl s⟩
  ·have hix:i=x.length:=by simp at h;omega
   have h0:x[0]?=some b:=by rw[← hxx];rfl
   have hl0:0<x.length:=by omega
   simp only[go_sem,h0,hl0,e3];rw[hix,List.take_length];exact DK.here hk
theorem atoi315_den (s:St) (x:Str) (KV Kp) (hl:1≤x.length) (hl2:x.length≤11) (hd:digits x) (hk:KV s (.tuple [.int .i64 (numOf x),.nili])):Den cx 315 [.str x] KV Kp s:=by
 refine Den.drop ?_;(refine Den.of_body (C:=cx) Tryz.func315 rfl rfl (gC6 rfl) ?_;refine wpC_ok (V:=[0,2,3,4,5,12]) _ _ _ _ ?_;simp only[go_sem,Tryz.ntmps315,Tryz.f315]);refine atoi_den _ _ _ _ hl hl2 hd ?_;simp only[go_sem];exact DK.here hk
end Go.AV
end
section
namespace Go.AV
open Go Go.Proofs
theorem number_den (s:St) (x:Str) (KV Kp) (hx:x.length≤4294967296) (hk:KV s (.tuple [(numTok x).1.enc,.int .i64 (numTok x).2.1,.bool (numTok x).2.2])):Den cx 302 [.str x] KV Kp s:=by
 refine Den.drop ?_;(refine Den.of_body (C:=cx) Tryz.func302 rfl rfl (gC6 rfl) ?_;refine wpC_ok (V:=[0,2,3,4,5,6,28]) _ _ _ _ ?_;simp only[go_sem,Tryz.ntmps302,Tryz.f302]);intro b hb;simp only[go_sem,hb];refine run_den _ _ _ (fun c=>isDig c.toNat) _ _ hx (fun c KV Kp h=>isDigit_den _ _ _ _ h) ?_;generalize hn:(x.takeWhile fun c=>isDig c.toNat).length=n at hk;have hnl:n≤x.length:=by rw[← hn];exact (List.takeWhile_sublist _).length_le
 simp only[go_sem,hnl];refine trimLeft_den _ _ 48 _ _ (by decide) ?_;simp only[go_sem];generalize hg:(x.take n).dropWhile (eqB 48)=g at hk
 have bad:(10<g.length∨(∃ c,x[n]?=some c∧isPart c.toNat=true))→numTok x=(⟨0,[],0,0,0⟩,0,false):=by
  intro hh;simp only[numTok,hn,hg,if_pos hh]
 have good:¬ (10<g.length∨(∃ c,x[n]?=some c∧isPart c.toNat=true))→numTok x=(⟨2,[],numOf g,0,0⟩,n,decide (numOf g≤2147483647)):=by
  intro hh;simp only[numTok,hn,hg,if_neg hh]
 have hdg:digits g:=by
  intro d hd;rw[← hg] at hd;have h1:=(List.dropWhile_sublist _).mem hd;rw[← hn] at h1
  have h2:d∈x.takeWhile fun c=>isDig c.toNat:=by
   have:=List.mem_of_mem_take (l:=x) h1
   have e:x.take (x.takeWhile fun c=>isDig c.toNat).length=x.takeWhile fun c=>isDig c.toNat:=by
    conv=>lhs;arg 2;rw[← List.takeWhile_append_dropWhile (p:=fun c=>isDig c.toNat) (l:=x)]
    rw[List.take_left'];rfl
   rw[e] at h1;exact h1
  have h3:=List.all_eq_true.1 (List.all_takeWhile (p:=fun c:UInt8=>isDig c.toNat) (l:=x)) d h2;simp only[isDig,gD5,decide_eq_true_eq] at h3;omega
 (first|refine gC8 (fun h=>?_) (fun h=>?_)|refine gC9 (fun h=>?_) (fun h=>?_)|refine gD1 (fun h=>?_) (fun h=>?_))<;>simp only[go_sem,h,hb]
 ·rw[bad (.inl (by simp at h;omega))] at hk;exact DK.st hk (St.ge_new hb)
 ·have hg10:¬ 10<g.length:=by simp at h;omega
  (first|refine gC8 (fun h=>?_) (fun h=>?_)|refine gC9 (fun h=>?_) (fun h=>?_)|refine gD1 (fun h=>?_) (fun h=>?_))<;>simp only[go_sem,h,hb]
  ·have hlt:n<x.length:=by simpa using h
   obtain ⟨c,hc⟩:∃ c,x[n]?=some c:=⟨_,List.getElem?_eq_getElem hlt⟩
   simp only[go_sem,hc,hlt,hb];refine isPart_den _ _ _ _ ?_;simp only[go_sem,hb]
   (first|refine gC8 (fun h=>?_) (fun h=>?_)|refine gC9 (fun h=>?_) (fun h=>?_)|refine gD1 (fun h=>?_) (fun h=>?_))<;>simp only[go_sem,h,hb]
   ·rw[bad (.inr ⟨c,hc,h⟩)] at hk;exact DK.st hk (St.ge_new hb)
   ·have hno:¬ (10<g.length∨(∃ c,x[n]?=some c∧isPart c.toNat=true)):=by
     rintro (h1|⟨c',h1,h2⟩)
     ·exact hg10 h1
     ·rw[hc] at h1;cases h1;rw[h] at h2;cases h2
    have hgd:=good hno;rw[hgd] at hk;have m1:(48::g).length≤11:=by simp;omega
    refine ⟨by unfold maxLen;omega,?_⟩
    refine atoi315_den _ _ _ _ (by simp) m1 (fun d hd=>by
     simp only[gC5] at hd;rcases hd with rfl|hd
     ·decide
     ·exact hdg d hd) ?_
    have m2:numOf (48::g)=numOf g:=rfl;simp only[go_sem,hb,m2];have m3:decide (((numOf g:Nat):Int)≤2147483647)=decide (numOf g≤2147483647):=by congr 1;simp only[eq_iff_iff];omega
    rw[m3];exact DK.st hk (St.ge_new hb)
  ·have hno:¬ (10<g.length∨(∃ c,x[n]?=some c∧isPart c.toNat=true)):=by
    rintro (h1|⟨c',h1,h2⟩)
    ·exact hg10 h1
    ·have:=(List.getElem?_eq_some_iff.1 h1).1;simp at h;omega
   have hgd:=good hno;rw[hgd] at hk;have m1:(48::g).length≤11:=by simp;omega
   refine ⟨by unfold maxLen;omega,?_⟩
   refine atoi315_den _ _ _ _ (by simp) m1 (fun d hd=>by
    simp only[gC5] at hd;rcases hd with rfl|hd
    ·decide
    ·exact hdg d hd) ?_
   have m2:numOf (48::g)=numOf g:=rfl;simp only[go_sem,hb,m2];have m3:decide (((numOf g:Nat):Int)≤2147483647)=decide (numOf g≤2147483647):=by congr 1;simp only[eq_iff_iff];omega
   rw[m3];exact DK.st hk (St.ge_new hb)
end Go.AV
end
section
namespace Go.AV
open Go Go.Proofs
theorem count142_den (s:St) (x:Str) (c:UInt8) (KV Kp) (hk:KV s (.int .i64 (x.count c:Nat))):Den cx 142 [.str x,.str [c]] KV Kp s:=by
 refine Den.drop ?_;(refine Den.of_body (C:=cx) Tryz.func142 rfl rfl (gC6 rfl) ?_;refine wpC_ok (V:=[0,1,4,5,6,9,15,24]) _ _ _ _ ?_;simp only[go_sem,Tryz.ntmps142,Tryz.f142]);simp only[go_sem,show decide (((1:Nat):Int)=0)=false from rfl,show decide (((1:Nat):Int)=1)=true from rfl];refine count217_den _ _ _ _ _ ?_;simp only[go_sem];exact DK.here hk
theorem slIndex_den (s:St) (l:List Str) (x:Str) (KV Kp) (hk:∀ r:Int,(0≤r↔x∈l)→KV s (.int .i64 r)):Den cx 198 [.list none (l.map .str),.str x] KV Kp s:=by
 refine Den.rlz fun hz1=>?_
 have hlw:=hz1 _ (List.mem_cons_self ..);refine Den.drop ?_;(refine Den.of_body (C:=cx) Tryz.func198 rfl rfl (gC6 rfl) ?_;refine wpC_ok (V:=[0,1,4,5,7,8,9,16]) _ _ _ _ ?_;simp only[go_sem,Tryz.ntmps198,Tryz.f198])
 refine Ex.loop (fun i=>[(0,.list none (l.map .str)),(1,.str x),(7,.int .i64 l.length),(8,.int .i64 (i:Nat))]) (fun _=>s)
  (fun i=>i≤l.length∧∀ j,j<i→l[j]?≠some x) (fun i=>l.length-i) 0 ⟨Nat.zero_le _,fun j hj=>by omega⟩ ?_ (St.ge.refl s) ?_
 ·simp only[go_sem];rfl
 ·rintro i ⟨hi,hall⟩;refine wpC_ok (V:=[0,1,4,5,7,8,9,16]) _ _ _ _ ?_;simp only[go_sem]
  (first|refine gC8 (fun h=>?_) (fun h=>?_)|refine gC9 (fun h=>?_) (fun h=>?_)|refine gD1 (fun h=>?_) (fun h=>?_))<;>simp only[go_sem,h]
  ·have hix:i<l.length:=by simpa using h
   obtain ⟨a,ha⟩:∃ a,l[i]?=some a:=⟨_,List.getElem?_eq_getElem hix⟩
   simp only[go_sem,ha,hix]
   (first|refine gC8 (fun h=>?_) (fun h=>?_)|refine gC9 (fun h=>?_) (fun h=>?_)|refine gD1 (fun h=>?_) (fun h=>?_))<;>simp only[go_sem,h]
   ·have hxa:x=a:=by simpa using h
    subst hxa;have hm:x∈l:=List.mem_of_getElem? ha;exact DK.here (hk _ ⟨fun _=>hm,fun _=>by omega⟩)
   ·have hxa:¬ x=a:=by simpa using h
    refine ⟨i+1,⟨by omega,fun j hj=>?_⟩,by omega,?_,St.ge.refl s⟩
    ·by_cases hji:j=i
     ·subst hji;rw[ha];simpa [eq_comm] using hxa
     ·exact hall j (by omega)
    ·simp only[go_sem,hlw.wrap (i:=i) (by simpa using hix)]
  ·have hix:i=l.length:=by simp at h;omega
   have hm:¬ x∈l:=by
    intro hm;obtain ⟨j,hj,e⟩:=List.getElem_of_mem hm;exact hall j (by omega) (by rw[List.getElem?_eq_getElem hj,e])
   exact DK.here (hk _ ⟨fun h=>absurd h (by decide),fun h=>absurd h hm⟩)
theorem contains_den (s:St) (l:List Str) (x:Str) (KV Kp) (hk:KV s (.bool (decide (x∈l)))):Den cx 108 [.list none (l.map .str),.str x] KV Kp s:=by
 refine Den.drop ?_;(refine Den.of_body (C:=cx) Tryz.func108 rfl rfl (gC6 rfl) ?_;refine wpC_ok (V:=[0,1,4]) _ _ _ _ ?_;simp only[go_sem,Tryz.ntmps108,Tryz.f108]);refine slIndex_den _ _ _ _ _ fun r hr=>?_
 simp only[go_sem];have:decide (0≤r)=decide (x∈l):=by simp only[hr]
 rw[this];exact DK.here hk
end Go.AV
end
