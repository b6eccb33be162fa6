/-
  Part of the proof of DefSames.
-/
import Derived.Test.YtamikhobdffnfaaGreatDoorSa07
import Derived.Test.YtamikhobdffnfaaGreatDoorSa10
set_option linter.all false
set_option maxRecDepth 1000000
set_option maxHeartbeats 40000000
section
namespace Go.AV
open Go
attribute [go_sem] Nat.reduceLT Nat.reduceEqDiff Nat.reduceBEq Nat.reduceAdd Nat.reduceLeDiff Nat.reduceMul reduceIte reduceCtorEq List.map true_and and_true List.elem decide_true decide_false Bool.not_true Bool.not_false Nat.le_refl gC1 gC3 List.getElem?_cons_zero List.getElem?_cons_succ Nat.zero_add Nat.add_zero gD2 gD3 List.set_cons_zero List.set_cons_succ List.take_succ_cons List.take_zero List.drop_succ_cons List.take_nil Nat.succ_eq_add_one Int.le_refl Int.toNat_zero Nat.sub_zero Nat.zero_lt_succ Bool.and_true Bool.true_and Bool.and_false Bool.false_and
abbrev Str:=List UInt8
structure Fault where
 code:Int
 name:Str
 line:Int
 col:Int
 deriving DecidableEq
def Fault.none:Fault:=⟨0,[],0,0⟩
def Fault.cs (f:Fault):List A:=[.int .i64 f.code,.str f.name,.int .i64 f.line,.int .i64 f.col]
def Fault.enc (f:Fault):A:=.agg f.cs
structure Tok where
 kind:Int
 text:Str
 n:Int
 line:Int
 col:Int
 deriving DecidableEq
def Tok.cs (t:Tok):List A:=[.int .i64 t.kind,.str t.text,.int .i64 t.n,.int .i64 t.line,.int .i64 t.col]
def Tok.enc (t:Tok):A:=.agg t.cs
inductive Tm where
 | mk (kind n:Int) (text sort:Str) (kids rest:List Tm)
def Tm.kind:Tm→Int|.mk k _ _ _ _ _=>k
def Tm.n:Tm→Int|.mk _ n _ _ _ _=>n
def Tm.text:Tm→Str|.mk _ _ t _ _ _=>t
def Tm.sort:Tm→Str|.mk _ _ _ s _ _=>s
def Tm.kids:Tm→List Tm|.mk _ _ _ _ ks _=>ks
def Tm.rest:Tm→List Tm|.mk _ _ _ _ _ rs=>rs
mutual
def Tm.enc:Tm→A
 | .mk k n t s ks rs=>.agg [.int .i64 k,.int .i64 n,.str t,.str s,.list none (Tm.encs ks),.list none (Tm.encs rs)]
def Tm.encs:List Tm→List A
 | []=>[]
 | t::r=>t.enc::Tm.encs r
end
theorem Tm.encs_map:∀ l:List Tm,Tm.encs l=l.map Tm.enc
 | []=>rfl
 | t::r=>by rw[Tm.encs,Tm.encs_map r];rfl
def Tm.cs (t:Tm):List A:=[.int .i64 t.kind,.int .i64 t.n,.str t.text,.str t.sort,.list none (t.kids.map Tm.enc),.list none (t.rest.map Tm.enc)]
theorem Tm.enc_eq (t:Tm):t.enc=.agg t.cs:=by
 cases t;simp only[Tm.enc,Tm.cs,Tm.kind,Tm.n,Tm.text,Tm.sort,Tm.kids,Tm.rest,Tm.encs_map]
structure Below where
 low:Str
 high:Str
 deriving DecidableEq
def Below.cs (b:Below):List A:=[.str b.low,.str b.high]
def Below.enc (b:Below):A:=.agg b.cs
structure Piece where
 text:Str
 sort:Str
 deriving DecidableEq
def Piece.cs (b:Piece):List A:=[.str b.text,.str b.sort]
def Piece.enc (b:Piece):A:=.agg b.cs
structure Opr where
 name:Str
 args:List Str
 sort:Str
 pieces:List Piece
 prec:Int
 assoc:Int
 strict:List Int
 deriving DecidableEq
def Opr.cs (o:Opr):List A:=[.str o.name,.list none (o.args.map .str),.str o.sort,.list none (o.pieces.map Piece.enc),.int .i64 o.prec,.int .i64 o.assoc,.list none (o.strict.map (.int .i64))]
def Opr.enc (o:Opr):A:=.agg o.cs
structure Sig where
 sorts:List Str
 below:List Below
 ops:List Opr
 funs:List Opr
 values:List Str
def Sig.cs (s:Sig):List A:=[.list none (s.sorts.map .str),.list none (s.below.map Below.enc),.list none (s.ops.map Opr.enc),.list none (s.funs.map Opr.enc),.list none (s.values.map .str)]
def Sig.enc (s:Sig):A:=.agg s.cs
structure Eqn where
 left:Tm
 right:Tm
 cond:List Tm
 line:Int
 col:Int
def Eqn.cs (e:Eqn):List A:=e.left.cs++(e.right.cs++[.list none (e.cond.map Tm.enc),.int .i64 e.line,.int .i64 e.col])
def Eqn.enc (e:Eqn):A:=.agg e.cs
structure Cel where
 name:Str
 sort:Str
 init:Tm
 line:Int
 col:Int
def Cel.cs (c:Cel):List A:=.str c.name::.str c.sort::(c.init.cs++[.int .i64 c.line,.int .i64 c.col])
def Cel.enc (c:Cel):A:=.agg c.cs
structure Part where
 cell:Str
 at_:Str
 left:Tm
 right:List Tm
 line:Int
 col:Int
def Part.cs (p:Part):List A:=.str p.cell::.str p.at_::(p.left.cs++[.list none (p.right.map Tm.enc),.int .i64 p.line,.int .i64 p.col])
def Part.enc (p:Part):A:=.agg p.cs
structure Fresh where
 cells:List Tm
def Fresh.cs (f:Fresh):List A:=[.list none (f.cells.map Tm.enc)]
def Fresh.enc (f:Fresh):A:=.agg f.cs
structure Rul where
 name:Str
 parts:List Part
 cond:List Tm
 new:List Fresh
 drop:List Str
 line:Int
 col:Int
def Rul.cs (r:Rul):List A:=[.str r.name,.list none (r.parts.map Part.enc),.list none (r.cond.map Tm.enc),.list none (r.new.map Fresh.enc),.list none (r.drop.map .str),.int .i64 r.line,.int .i64 r.col]
def Rul.enc (r:Rul):A:=.agg r.cs
structure Dfn where
 name:Str
 sig:Sig
 eqs:List Eqn
 once:List Cel
 kind:Str
 many:List Cel
 rules:List Rul
 start:Str
 watch:Str
def Dfn.cs (d:Dfn):List A:=.str d.name::(d.sig.cs++[.list none (d.eqs.map Eqn.enc),.list none (d.once.map Cel.enc),.str d.kind,.list none (d.many.map Cel.enc),.list none (d.rules.map Rul.enc),.str d.start,.str d.watch])
def Dfn.enc (d:Dfn):A:=.agg d.cs
attribute [go_sem] Fault.enc Fault.cs Tok.enc Tok.cs Tm.enc_eq Tm.cs Below.enc Below.cs Piece.enc Piece.cs Opr.enc Opr.cs Sig.enc Sig.cs Eqn.enc Eqn.cs Cel.enc Cel.cs Part.enc Part.cs Fresh.enc Fresh.cs Rul.enc Rul.cs Dfn.enc Dfn.cs
mutual
def Tm.same:Tm→Tm→Bool
 | .mk k n t s ks rs,.mk k' n' t' s' ks' rs'=>decide (k=k')&&(decide (n=n')&&(decide (t=t')&&(decide (s=s')&&(Tm.sames ks ks'&&Tm.sames rs rs'))))
def Tm.sames:List Tm→List Tm→Bool
 | [],[]=>true
 | a::l,b::r=>Tm.same a b&&Tm.sames l r
 | _,_=>false
end
theorem Tm.size_kids {t x:Tm} (h:x∈t.kids):SizeOf.sizeOf x<SizeOf.sizeOf t:=by
 cases t;have:=List.sizeOf_lt_of_mem h;simp only[Tm.kids] at this;simp only[Tm.mk.sizeOf_spec];omega
theorem Tm.size_rest {t x:Tm} (h:x∈t.rest):SizeOf.sizeOf x<SizeOf.sizeOf t:=by
 cases t;have:=List.sizeOf_lt_of_mem h;simp only[Tm.rest] at this;simp only[Tm.mk.sizeOf_spec];omega
end Go.AV
end
section
namespace Go.AV
open Go Go.Proofs
def listEq {α:Type} (r:α→α→Bool):List α→List α→Bool
 | [],[]=>true
 | a::xs,b::ys=>r a b&&listEq r xs ys
 | _,_=>false
theorem listEq_len {α:Type} {r:α→α→Bool}:∀ {xs ys:List α},xs.length≠ys.length→listEq r xs ys=false
 | [],[],h=>absurd rfl h
 | [],_::_,_=>rfl
 | _::_,[],_=>rfl
 | a::xs,b::ys,h=>by simp only[listEq,listEq_len (r:=r) (xs:=xs) (ys:=ys) (by simpa using h),Bool.and_false]
theorem listEq_iff {α:Type} {r:α→α→Bool}:∀ {xs ys:List α},xs.length=ys.length→(listEq r xs ys=true↔∀ (i:Nat) (a b:α),xs[i]?=some a→ys[i]?=some b→r a b=true)
 | [],[],_=>by simp[listEq]
 | [],_::_,h=>by simp at h
 | _::_,[],h=>by simp at h
 | a::xs,b::ys,h=>by
  rw[listEq,gD5,listEq_iff (by simpa using h)];constructor
  ·rintro ⟨h1,h2⟩ i x y hx hy;cases i with
   | zero=>simp at hx hy;subst hx;subst hy;exact h1
   | succ i=>exact h2 i x y (by simpa using hx) (by simpa using hy)
  ·intro h;exact ⟨h 0 a b (by simp) (by simp),fun i x y hx hy=>h (i+1) x y (by simpa using hx) (by simpa using hy)⟩
theorem eqFunc_den69 {α:Type} (enc:α→A) (r:α→α→Bool) (f:FuncId) (first caps:List A) (s:St) (xs ys:List α) (KV Kp)
  (hz:∀ a,∃ cs,enc a=.agg cs∧cs.length=15∧allOne cs=true)
  (hf:∀ a b s' KV Kp,a∈xs→b∈ys→s'.ge s→KV s' (.bool (r a b))→Den cx f (first++[enc a,enc b]++caps) KV Kp s')
  (hk:KV s (.bool (listEq r xs ys))):Den cx 69 [.list none (xs.map enc),.list none (ys.map enc),.fn f first caps] KV Kp s:=by
 refine Den.rlz fun hz1=>?_
 have hlw:=hz1 _ (List.mem_cons_self ..);refine Den.drop ?_;(refine Den.of_body (C:=cx) Tryz.func69 rfl rfl (gC6 rfl) ?_;refine wpC_ok (V:=[0,1,2,6,7,8,9,14,15,16,17,18,30]) _ _ _ _ ?_;simp only[go_sem,Tryz.ntmps69,Tryz.f69])
 (first|refine gC8 (fun h=>?_) (fun h=>?_)|refine gC9 (fun h=>?_) (fun h=>?_)|refine gD1 (fun h=>?_) (fun h=>?_))<;>simp only[go_sem,h]
 ·exact DK.here (by rwa[listEq_len (by intro e;simp[e] at h)] at hk)
 ·have hlen:xs.length=ys.length:=by simp at h;omega
  refine Ex.loop (fun i=>[(0,.list none (xs.map enc)),(1,.list none (ys.map enc)),(2,.fn f first caps),(15,.list none (xs.map enc)),(16,.int .i64 xs.length),(17,.int .i64 (i:Nat))]) (fun _=>s)
     (fun i=>i≤xs.length∧∀ (j:Nat) a b,j<i→xs[j]?=some a→ys[j]?=some b→r a b=true) (fun i=>xs.length-i) 0 ⟨Nat.zero_le _,fun j _ _ hj=>by omega⟩ ?_ (St.ge.refl s) ?_
  ·simp only[go_sem];exact rfl
  ·rintro i ⟨hi,hall⟩;refine wpC_ok (V:=[0,1,2,6,7,8,9,14,15,16,17,18,30]) _ _ _ _ ?_;simp only[go_sem]
   (first|refine gC8 (fun h=>?_) (fun h=>?_)|refine gC9 (fun h=>?_) (fun h=>?_)|refine gD1 (fun h=>?_) (fun h=>?_))<;>simp only[go_sem,h]
   ·have hix:i<xs.length:=by simpa using h
    have hiy:i<ys.length:=by omega
    obtain ⟨a,ha⟩:∃ a,xs[i]?=some a:=⟨_,List.getElem?_eq_getElem hix⟩
    obtain ⟨b,hb⟩:∃ b,ys[i]?=some b:=⟨_,List.getElem?_eq_getElem hiy⟩
    obtain ⟨ca,ea,la,oa⟩:=hz a;obtain ⟨cb,eb,lb,ob⟩:=hz b;simp only[go_sem,ha,ea,la,hix,oa,List.take_of_length_le (Nat.le_of_eq la)];(intro p hp;try simp only[gD6,ne_eq] at hp);simp only[go_sem,hp,oa,la,hb,eb,lb,ob,hiy,List.take_of_length_le (Nat.le_of_eq la),List.take_of_length_le (Nat.le_of_eq lb)];(intro q hq;try simp only[gD6,ne_eq] at hq);simp only[go_sem,hp,hq,oa,la,hb,eb,lb,ob,List.take_of_length_le (Nat.le_of_eq la),List.take_of_length_le (Nat.le_of_eq lb)];rw[← ea,← eb];refine hf a b _ _ _ (List.mem_of_getElem? ha) (List.mem_of_getElem? hb) (St.ge_set hq.2 (St.ge_new hp)) ?_;simp only[go_sem]
    (first|refine gC8 (fun h=>?_) (fun h=>?_)|refine gC9 (fun h=>?_) (fun h=>?_)|refine gD1 (fun h=>?_) (fun h=>?_))<;>simp only[go_sem,h]
    ·have hr:r a b=false:=by simpa using h
     refine DK.st (s2:=s) ?_ (St.ge_set hq.2 (St.ge_new hp))
     have:listEq r xs ys=false:=by
      rw[Bool.eq_false_iff];intro he;have:=(listEq_iff hlen).1 he i a b ha hb;rw[hr] at this;cases this
     rwa[this] at hk
    ·have hr:r a b=true:=by simpa using h
     refine ⟨i+1,⟨by omega,fun j x y hj hx hy=>?_⟩,by omega,?_,St.ge_set hq.2 (St.ge_new hp)⟩
     ·by_cases hji:j=i
      ·subst hji;rw[ha] at hx;rw[hb] at hy;cases hx;cases hy;exact hr
      ·exact hall j x y (by omega) hx hy
     ·simp only[go_sem,hlw.wrap (i:=i) (by simpa using hix)]
   ·have hix:i=xs.length:=by simp at h;omega
    have:listEq r xs ys=true:=(listEq_iff hlen).2 fun j x y hx hy=>hall j x y (by rw[hix];exact (List.getElem?_eq_some_iff.1 hx).1) hx hy
    exact DK.here (by rwa[this] at hk)
theorem eqFunc_den71 {α:Type} (enc:α→A) (r:α→α→Bool) (f:FuncId) (first caps:List A) (s:St) (xs ys:List α) (KV Kp)
  (hz:∀ a,∃ cs,enc a=.agg cs∧cs.length=10∧allOne cs=true)
  (hf:∀ a b s' KV Kp,a∈xs→b∈ys→s'.ge s→KV s' (.bool (r a b))→Den cx f (first++[enc a,enc b]++caps) KV Kp s')
  (hk:KV s (.bool (listEq r xs ys))):Den cx 71 [.list none (xs.map enc),.list none (ys.map enc),.fn f first caps] KV Kp s:=by
 refine Den.rlz fun hz1=>?_
 have hlw:=hz1 _ (List.mem_cons_self ..);refine Den.drop ?_;(refine Den.of_body (C:=cx) Tryz.func71 rfl rfl (gC6 rfl) ?_;refine wpC_ok (V:=[0,1,2,6,7,8,9,14,15,16,17,18,30]) _ _ _ _ ?_;simp only[go_sem,Tryz.ntmps71,Tryz.f71])
 (first|refine gC8 (fun h=>?_) (fun h=>?_)|refine gC9 (fun h=>?_) (fun h=>?_)|refine gD1 (fun h=>?_) (fun h=>?_))<;>simp only[go_sem,h]
 ·exact DK.here (by rwa[listEq_len (by intro e;simp[e] at h)] at hk)
 ·have hlen:xs.length=ys.length:=by simp at h;omega
  refine Ex.loop (fun i=>[(0,.list none (xs.map enc)),(1,.list none (ys.map enc)),(2,.fn f first caps),(15,.list none (xs.map enc)),(16,.int .i64 xs.length),(17,.int .i64 (i:Nat))]) (fun _=>s)
     (fun i=>i≤xs.length∧∀ (j:Nat) a b,j<i→xs[j]?=some a→ys[j]?=some b→r a b=true) (fun i=>xs.length-i) 0 ⟨Nat.zero_le _,fun j _ _ hj=>by omega⟩ ?_ (St.ge.refl s) ?_
  ·simp only[go_sem];exact rfl
  ·rintro i ⟨hi,hall⟩;refine wpC_ok (V:=[0,1,2,6,7,8,9,14,15,16,17,18,30]) _ _ _ _ ?_;simp only[go_sem]
   (first|refine gC8 (fun h=>?_) (fun h=>?_)|refine gC9 (fun h=>?_) (fun h=>?_)|refine gD1 (fun h=>?_) (fun h=>?_))<;>simp only[go_sem,h]
   ·have hix:i<xs.length:=by simpa using h
    have hiy:i<ys.length:=by omega
    obtain ⟨a,ha⟩:∃ a,xs[i]?=some a:=⟨_,List.getElem?_eq_getElem hix⟩
    obtain ⟨b,hb⟩:∃ b,ys[i]?=some b:=⟨_,List.getElem?_eq_getElem hiy⟩
    obtain ⟨ca,ea,la,oa⟩:=hz a;obtain ⟨cb,eb,lb,ob⟩:=hz b;simp only[go_sem,ha,ea,la,hix,oa,List.take_of_length_le (Nat.le_of_eq la)];(intro p hp;try simp only[gD6,ne_eq] at hp);simp only[go_sem,hp,oa,la,hb,eb,lb,ob,hiy,List.take_of_length_le (Nat.le_of_eq la),List.take_of_length_le (Nat.le_of_eq lb)];(intro q hq;try simp only[gD6,ne_eq] at hq);simp only[go_sem,hp,hq,oa,la,hb,eb,lb,ob,List.take_of_length_le (Nat.le_of_eq la),List.take_of_length_le (Nat.le_of_eq lb)];rw[← ea,← eb];refine hf a b _ _ _ (List.mem_of_getElem? ha) (List.mem_of_getElem? hb) (St.ge_set hq.2 (St.ge_new hp)) ?_;simp only[go_sem]
    (first|refine gC8 (fun h=>?_) (fun h=>?_)|refine gC9 (fun h=>?_) (fun h=>?_)|refine gD1 (fun h=>?_) (fun h=>?_))<;>simp only[go_sem,h]
    ·have hr:r a b=false:=by simpa using h
     refine DK.st (s2:=s) ?_ (St.ge_set hq.2 (St.ge_new hp))
     have:listEq r xs ys=false:=by
      rw[Bool.eq_false_iff];intro he;have:=(listEq_iff hlen).1 he i a b ha hb;rw[hr] at this;cases this
     rwa[this] at hk
    ·have hr:r a b=true:=by simpa using h
     refine ⟨i+1,⟨by omega,fun j x y hj hx hy=>?_⟩,by omega,?_,St.ge_set hq.2 (St.ge_new hp)⟩
     ·by_cases hji:j=i
      ·subst hji;rw[ha] at hx;rw[hb] at hy;cases hx;cases hy;exact hr
      ·exact hall j x y (by omega) hx hy
     ·simp only[go_sem,hlw.wrap (i:=i) (by simpa using hix)]
   ·have hix:i=xs.length:=by simp at h;omega
    have:listEq r xs ys=true:=(listEq_iff hlen).2 fun j x y hx hy=>hall j x y (by rw[hix];exact (List.getElem?_eq_some_iff.1 hx).1) hx hy
    exact DK.here (by rwa[this] at hk)
theorem eqFunc_den73 {α:Type} (enc:α→A) (r:α→α→Bool) (f:FuncId) (first caps:List A) (s:St) (xs ys:List α) (KV Kp)
  (hz:∀ a,∃ cs,enc a=.agg cs∧cs.length=7∧allOne cs=true)
  (hf:∀ a b s' KV Kp,a∈xs→b∈ys→s'.ge s→KV s' (.bool (r a b))→Den cx f (first++[enc a,enc b]++caps) KV Kp s')
  (hk:KV s (.bool (listEq r xs ys))):Den cx 73 [.list none (xs.map enc),.list none (ys.map enc),.fn f first caps] KV Kp s:=by
 refine Den.rlz fun hz1=>?_
 have hlw:=hz1 _ (List.mem_cons_self ..);refine Den.drop ?_;(refine Den.of_body (C:=cx) Tryz.func73 rfl rfl (gC6 rfl) ?_;refine wpC_ok (V:=[0,1,2,6,7,8,9,14,15,16,17,18,30]) _ _ _ _ ?_;simp only[go_sem,Tryz.ntmps73,Tryz.f73])
 (first|refine gC8 (fun h=>?_) (fun h=>?_)|refine gC9 (fun h=>?_) (fun h=>?_)|refine gD1 (fun h=>?_) (fun h=>?_))<;>simp only[go_sem,h]
 ·exact DK.here (by rwa[listEq_len (by intro e;simp[e] at h)] at hk)
 ·have hlen:xs.length=ys.length:=by simp at h;omega
  refine Ex.loop (fun i=>[(0,.list none (xs.map enc)),(1,.list none (ys.map enc)),(2,.fn f first caps),(15,.list none (xs.map enc)),(16,.int .i64 xs.length),(17,.int .i64 (i:Nat))]) (fun _=>s)
     (fun i=>i≤xs.length∧∀ (j:Nat) a b,j<i→xs[j]?=some a→ys[j]?=some b→r a b=true) (fun i=>xs.length-i) 0 ⟨Nat.zero_le _,fun j _ _ hj=>by omega⟩ ?_ (St.ge.refl s) ?_
  ·simp only[go_sem];exact rfl
  ·rintro i ⟨hi,hall⟩;refine wpC_ok (V:=[0,1,2,6,7,8,9,14,15,16,17,18,30]) _ _ _ _ ?_;simp only[go_sem]
   (first|refine gC8 (fun h=>?_) (fun h=>?_)|refine gC9 (fun h=>?_) (fun h=>?_)|refine gD1 (fun h=>?_) (fun h=>?_))<;>simp only[go_sem,h]
   ·have hix:i<xs.length:=by simpa using h
    have hiy:i<ys.length:=by omega
    obtain ⟨a,ha⟩:∃ a,xs[i]?=some a:=⟨_,List.getElem?_eq_getElem hix⟩
    obtain ⟨b,hb⟩:∃ b,ys[i]?=some b:=⟨_,List.getElem?_eq_getElem hiy⟩
    obtain ⟨ca,ea,la,oa⟩:=hz a;obtain ⟨cb,eb,lb,ob⟩:=hz b;simp only[go_sem,ha,ea,la,hix,oa,List.take_of_length_le (Nat.le_of_eq la)];(intro p hp;try simp only[gD6,ne_eq] at hp);simp only[go_sem,hp,oa,la,hb,eb,lb,ob,hiy,List.take_of_length_le (Nat.le_of_eq la),List.take_of_length_le (Nat.le_of_eq lb)];(intro q hq;try simp only[gD6,ne_eq] at hq);simp only[go_sem,hp,hq,oa,la,hb,eb,lb,ob,List.take_of_length_le (Nat.le_of_eq la),List.take_of_length_le (Nat.le_of_eq lb)];rw[← ea,← eb];refine hf a b _ _ _ (List.mem_of_getElem? ha) (List.mem_of_getElem? hb) (St.ge_set hq.2 (St.ge_new hp)) ?_;simp only[go_sem]
    (first|refine gC8 (fun h=>?_) (fun h=>?_)|refine gC9 (fun h=>?_) (fun h=>?_)|refine gD1 (fun h=>?_) (fun h=>?_))<;>simp only[go_sem,h]
    ·have hr:r a b=false:=by simpa using h
     refine DK.st (s2:=s) ?_ (St.ge_set hq.2 (St.ge_new hp))
     have:listEq r xs ys=false:=by
      rw[Bool.eq_false_iff];intro he;have:=(listEq_iff hlen).1 he i a b ha hb;rw[hr] at this;cases this
     rwa[this] at hk
    ·have hr:r a b=true:=by simpa using h
     refine ⟨i+1,⟨by omega,fun j x y hj hx hy=>?_⟩,by omega,?_,St.ge_set hq.2 (St.ge_new hp)⟩
     ·by_cases hji:j=i
      ·subst hji;rw[ha] at hx;rw[hb] at hy;cases hx;cases hy;exact hr
      ·exact hall j x y (by omega) hx hy
     ·simp only[go_sem,hlw.wrap (i:=i) (by simpa using hix)]
   ·have hix:i=xs.length:=by simp at h;omega
    have:listEq r xs ys=true:=(listEq_iff hlen).2 fun j x y hx hy=>hall j x y (by rw[hix];exact (List.getElem?_eq_some_iff.1 hx).1) hx hy
    exact DK.here (by rwa[this] at hk)
theorem eqFunc_den82 {α:Type} (enc:α→A) (r:α→α→Bool) (f:FuncId) (first caps:List A) (s:St) (xs ys:List α) (KV Kp)
  (hz:∀ a,∃ cs,enc a=.agg cs∧cs.length=6∧allOne cs=true)
  (hf:∀ a b s' KV Kp,a∈xs→b∈ys→s'.ge s→KV s' (.bool (r a b))→Den cx f (first++[enc a,enc b]++caps) KV Kp s')
  (hk:KV s (.bool (listEq r xs ys))):Den cx 82 [.list none (xs.map enc),.list none (ys.map enc),.fn f first caps] KV Kp s:=by
 refine Den.rlz fun hz1=>?_
 have hlw:=hz1 _ (List.mem_cons_self ..);refine Den.drop ?_;(refine Den.of_body (C:=cx) Tryz.func82 rfl rfl (gC6 rfl) ?_;refine wpC_ok (V:=[0,1,2,6,7,8,9,14,15,16,17,18,30]) _ _ _ _ ?_;simp only[go_sem,Tryz.ntmps82,Tryz.f82])
 (first|refine gC8 (fun h=>?_) (fun h=>?_)|refine gC9 (fun h=>?_) (fun h=>?_)|refine gD1 (fun h=>?_) (fun h=>?_))<;>simp only[go_sem,h]
 ·exact DK.here (by rwa[listEq_len (by intro e;simp[e] at h)] at hk)
 ·have hlen:xs.length=ys.length:=by simp at h;omega
  refine Ex.loop (fun i=>[(0,.list none (xs.map enc)),(1,.list none (ys.map enc)),(2,.fn f first caps),(15,.list none (xs.map enc)),(16,.int .i64 xs.length),(17,.int .i64 (i:Nat))]) (fun _=>s)
     (fun i=>i≤xs.length∧∀ (j:Nat) a b,j<i→xs[j]?=some a→ys[j]?=some b→r a b=true) (fun i=>xs.length-i) 0 ⟨Nat.zero_le _,fun j _ _ hj=>by omega⟩ ?_ (St.ge.refl s) ?_
  ·simp only[go_sem];exact rfl
  ·rintro i ⟨hi,hall⟩;refine wpC_ok (V:=[0,1,2,6,7,8,9,14,15,16,17,18,30]) _ _ _ _ ?_;simp only[go_sem]
   (first|refine gC8 (fun h=>?_) (fun h=>?_)|refine gC9 (fun h=>?_) (fun h=>?_)|refine gD1 (fun h=>?_) (fun h=>?_))<;>simp only[go_sem,h]
   ·have hix:i<xs.length:=by simpa using h
    have hiy:i<ys.length:=by omega
    obtain ⟨a,ha⟩:∃ a,xs[i]?=some a:=⟨_,List.getElem?_eq_getElem hix⟩
    obtain ⟨b,hb⟩:∃ b,ys[i]?=some b:=⟨_,List.getElem?_eq_getElem hiy⟩
    obtain ⟨ca,ea,la,oa⟩:=hz a;obtain ⟨cb,eb,lb,ob⟩:=hz b;simp only[go_sem,ha,ea,la,hix,oa,List.take_of_length_le (Nat.le_of_eq la)];(intro p hp;try simp only[gD6,ne_eq] at hp);simp only[go_sem,hp,oa,la,hb,eb,lb,ob,hiy,List.take_of_length_le (Nat.le_of_eq la),List.take_of_length_le (Nat.le_of_eq lb)];(intro q hq;try simp only[gD6,ne_eq] at hq);simp only[go_sem,hp,hq,oa,la,hb,eb,lb,ob,List.take_of_length_le (Nat.le_of_eq la),List.take_of_length_le (Nat.le_of_eq lb)];rw[← ea,← eb];refine hf a b _ _ _ (List.mem_of_getElem? ha) (List.mem_of_getElem? hb) (St.ge_set hq.2 (St.ge_new hp)) ?_;simp only[go_sem]
    (first|refine gC8 (fun h=>?_) (fun h=>?_)|refine gC9 (fun h=>?_) (fun h=>?_)|refine gD1 (fun h=>?_) (fun h=>?_))<;>simp only[go_sem,h]
    ·have hr:r a b=false:=by simpa using h
     refine DK.st (s2:=s) ?_ (St.ge_set hq.2 (St.ge_new hp))
     have:listEq r xs ys=false:=by
      rw[Bool.eq_false_iff];intro he;have:=(listEq_iff hlen).1 he i a b ha hb;rw[hr] at this;cases this
     rwa[this] at hk
    ·have hr:r a b=true:=by simpa using h
     refine ⟨i+1,⟨by omega,fun j x y hj hx hy=>?_⟩,by omega,?_,St.ge_set hq.2 (St.ge_new hp)⟩
     ·by_cases hji:j=i
      ·subst hji;rw[ha] at hx;rw[hb] at hy;cases hx;cases hy;exact hr
      ·exact hall j x y (by omega) hx hy
     ·simp only[go_sem,hlw.wrap (i:=i) (by simpa using hix)]
   ·have hix:i=xs.length:=by simp at h;omega
    have:listEq r xs ys=true:=(listEq_iff hlen).2 fun j x y hx hy=>hall j x y (by rw[hix];exact (List.getElem?_eq_some_iff.1 hx).1) hx hy
    exact DK.here (by rwa[this] at hk)
theorem eqFunc_den132 {α:Type} (enc:α→A) (r:α→α→Bool) (f:FuncId) (first caps:List A) (s:St) (xs ys:List α) (KV Kp)
  (hz:∀ a,∃ cs,enc a=.agg cs∧cs.length=7∧allOne cs=true)
  (hf:∀ a b s' KV Kp,a∈xs→b∈ys→s'.ge s→KV s' (.bool (r a b))→Den cx f (first++[enc a,enc b]++caps) KV Kp s')
  (hk:KV s (.bool (listEq r xs ys))):Den cx 132 [.list none (xs.map enc),.list none (ys.map enc),.fn f first caps] KV Kp s:=by
 refine Den.rlz fun hz1=>?_
 have hlw:=hz1 _ (List.mem_cons_self ..);refine Den.drop ?_;(refine Den.of_body (C:=cx) Tryz.func132 rfl rfl (gC6 rfl) ?_;refine wpC_ok (V:=[0,1,2,6,7,8,9,14,15,16,17,18,30]) _ _ _ _ ?_;simp only[go_sem,Tryz.ntmps132,Tryz.f132])
 (first|refine gC8 (fun h=>?_) (fun h=>?_)|refine gC9 (fun h=>?_) (fun h=>?_)|refine gD1 (fun h=>?_) (fun h=>?_))<;>simp only[go_sem,h]
 ·exact DK.here (by rwa[listEq_len (by intro e;simp[e] at h)] at hk)
 ·have hlen:xs.length=ys.length:=by simp at h;omega
  refine Ex.loop (fun i=>[(0,.list none (xs.map enc)),(1,.list none (ys.map enc)),(2,.fn f first caps),(15,.list none (xs.map enc)),(16,.int .i64 xs.length),(17,.int .i64 (i:Nat))]) (fun _=>s)
     (fun i=>i≤xs.length∧∀ (j:Nat) a b,j<i→xs[j]?=some a→ys[j]?=some b→r a b=true) (fun i=>xs.length-i) 0 ⟨Nat.zero_le _,fun j _ _ hj=>by omega⟩ ?_ (St.ge.refl s) ?_
  ·simp only[go_sem];exact rfl
  ·rintro i ⟨hi,hall⟩;refine wpC_ok (V:=[0,1,2,6,7,8,9,14,15,16,17,18,30]) _ _ _ _ ?_;simp only[go_sem]
   (first|refine gC8 (fun h=>?_) (fun h=>?_)|refine gC9 (fun h=>?_) (fun h=>?_)|refine gD1 (fun h=>?_) (fun h=>?_))<;>simp only[go_sem,h]
   ·have hix:i<xs.length:=by simpa using h
    have hiy:i<ys.length:=by omega
    obtain ⟨a,ha⟩:∃ a,xs[i]?=some a:=⟨_,List.getElem?_eq_getElem hix⟩
    obtain ⟨b,hb⟩:∃ b,ys[i]?=some b:=⟨_,List.getElem?_eq_getElem hiy⟩
    obtain ⟨ca,ea,la,oa⟩:=hz a;obtain ⟨cb,eb,lb,ob⟩:=hz b;simp only[go_sem,ha,ea,la,hix,oa,List.take_of_length_le (Nat.le_of_eq la)];(intro p hp;try simp only[gD6,ne_eq] at hp);simp only[go_sem,hp,oa,la,hb,eb,lb,ob,hiy,List.take_of_length_le (Nat.le_of_eq la),List.take_of_length_le (Nat.le_of_eq lb)];(intro q hq;try simp only[gD6,ne_eq] at hq);simp only[go_sem,hp,hq,oa,la,hb,eb,lb,ob,List.take_of_length_le (Nat.le_of_eq la),List.take_of_length_le (Nat.le_of_eq lb)];rw[← ea,← eb];refine hf a b _ _ _ (List.mem_of_getElem? ha) (List.mem_of_getElem? hb) (St.ge_set hq.2 (St.ge_new hp)) ?_;simp only[go_sem]
    (first|refine gC8 (fun h=>?_) (fun h=>?_)|refine gC9 (fun h=>?_) (fun h=>?_)|refine gD1 (fun h=>?_) (fun h=>?_))<;>simp only[go_sem,h]
    ·have hr:r a b=false:=by simpa using h
     refine DK.st (s2:=s) ?_ (St.ge_set hq.2 (St.ge_new hp))
     have:listEq r xs ys=false:=by
      rw[Bool.eq_false_iff];intro he;have:=(listEq_iff hlen).1 he i a b ha hb;rw[hr] at this;cases this
     rwa[this] at hk
    ·have hr:r a b=true:=by simpa using h
     refine ⟨i+1,⟨by omega,fun j x y hj hx hy=>?_⟩,by omega,?_,St.ge_set hq.2 (St.ge_new hp)⟩
     ·by_cases hji:j=i
      ·subst hji;rw[ha] at hx;rw[hb] at hy;cases hx;cases hy;exact hr
      ·exact hall j x y (by omega) hx hy
     ·simp only[go_sem,hlw.wrap (i:=i) (by simpa using hix)]
   ·have hix:i=xs.length:=by simp at h;omega
    have:listEq r xs ys=true:=(listEq_iff hlen).2 fun j x y hx hy=>hall j x y (by rw[hix];exact (List.getElem?_eq_some_iff.1 hx).1) hx hy
    exact DK.here (by rwa[this] at hk)
theorem eqFunc_den136 {α:Type} (enc:α→A) (r:α→α→Bool) (f:FuncId) (first caps:List A) (s:St) (xs ys:List α) (KV Kp)
  (hz:∀ a,∃ cs,enc a=.agg cs∧cs.length=11∧allOne cs=true)
  (hf:∀ a b s' KV Kp,a∈xs→b∈ys→s'.ge s→KV s' (.bool (r a b))→Den cx f (first++[enc a,enc b]++caps) KV Kp s')
  (hk:KV s (.bool (listEq r xs ys))):Den cx 136 [.list none (xs.map enc),.list none (ys.map enc),.fn f first caps] KV Kp s:=by
 refine Den.rlz fun hz1=>?_
 have hlw:=hz1 _ (List.mem_cons_self ..);refine Den.drop ?_;(refine Den.of_body (C:=cx) Tryz.func136 rfl rfl (gC6 rfl) ?_;refine wpC_ok (V:=[0,1,2,6,7,8,9,14,15,16,17,18,30]) _ _ _ _ ?_;simp only[go_sem,Tryz.ntmps136,Tryz.f136])
 (first|refine gC8 (fun h=>?_) (fun h=>?_)|refine gC9 (fun h=>?_) (fun h=>?_)|refine gD1 (fun h=>?_) (fun h=>?_))<;>simp only[go_sem,h]
 ·exact DK.here (by rwa[listEq_len (by intro e;simp[e] at h)] at hk)
 ·have hlen:xs.length=ys.length:=by simp at h;omega
  refine Ex.loop (fun i=>[(0,.list none (xs.map enc)),(1,.list none (ys.map enc)),(2,.fn f first caps),(15,.list none (xs.map enc)),(16,.int .i64 xs.length),(17,.int .i64 (i:Nat))]) (fun _=>s)
     (fun i=>i≤xs.length∧∀ (j:Nat) a b,j<i→xs[j]?=some a→ys[j]?=some b→r a b=true) (fun i=>xs.length-i) 0 ⟨Nat.zero_le _,fun j _ _ hj=>by omega⟩ ?_ (St.ge.refl s) ?_
  ·simp only[go_sem];exact rfl
  ·rintro i ⟨hi,hall⟩;refine wpC_ok (V:=[0,1,2,6,7,8,9,14,15,16,17,18,30]) _ _ _ _ ?_;simp only[go_sem]
   (first|refine gC8 (fun h=>?_) (fun h=>?_)|refine gC9 (fun h=>?_) (fun h=>?_)|refine gD1 (fun h=>?_) (fun h=>?_))<;>simp only[go_sem,h]
   ·have hix:i<xs.length:=by simpa using h
    have hiy:i<ys.length:=by omega
    obtain ⟨a,ha⟩:∃ a,xs[i]?=some a:=⟨_,List.getElem?_eq_getElem hix⟩
    obtain ⟨b,hb⟩:∃ b,ys[i]?=some b:=⟨_,List.getElem?_eq_getElem hiy⟩
    obtain ⟨ca,ea,la,oa⟩:=hz a;obtain ⟨cb,eb,lb,ob⟩:=hz b;simp only[go_sem,ha,ea,la,hix,oa,List.take_of_length_le (Nat.le_of_eq la)];(intro p hp;try simp only[gD6,ne_eq] at hp);simp only[go_sem,hp,oa,la,hb,eb,lb,ob,hiy,List.take_of_length_le (Nat.le_of_eq la),List.take_of_length_le (Nat.le_of_eq lb)];(intro q hq;try simp only[gD6,ne_eq] at hq);simp only[go_sem,hp,hq,oa,la,hb,eb,lb,ob,List.take_of_length_le (Nat.le_of_eq la),List.take_of_length_le (Nat.le_of_eq lb)];rw[← ea,← eb];refine hf a b _ _ _ (List.mem_of_getElem? ha) (List.mem_of_getElem? hb) (St.ge_set hq.2 (St.ge_new hp)) ?_;simp only[go_sem]
    (first|refine gC8 (fun h=>?_) (fun h=>?_)|refine gC9 (fun h=>?_) (fun h=>?_)|refine gD1 (fun h=>?_) (fun h=>?_))<;>simp only[go_sem,h]
    ·have hr:r a b=false:=by simpa using h
     refine DK.st (s2:=s) ?_ (St.ge_set hq.2 (St.ge_new hp))
     have:listEq r xs ys=false:=by
      rw[Bool.eq_false_iff];intro he;have:=(listEq_iff hlen).1 he i a b ha hb;rw[hr] at this;cases this
     rwa[this] at hk
    ·have hr:r a b=true:=by simpa using h
     refine ⟨i+1,⟨by omega,fun j x y hj hx hy=>?_⟩,by omega,?_,St.ge_set hq.2 (St.ge_new hp)⟩
     ·by_cases hji:j=i
      ·subst hji;rw[ha] at hx;rw[hb] at hy;cases hx;cases hy;exact hr
      ·exact hall j x y (by omega) hx hy
     ·simp only[go_sem,hlw.wrap (i:=i) (by simpa using hix)]
   ·have hix:i=xs.length:=by simp at h;omega
    have:listEq r xs ys=true:=(listEq_iff hlen).2 fun j x y hx hy=>hall j x y (by rw[hix];exact (List.getElem?_eq_some_iff.1 hx).1) hx hy
    exact DK.here (by rwa[this] at hk)
theorem eqFunc_den138 {α:Type} (enc:α→A) (r:α→α→Bool) (f:FuncId) (first caps:List A) (s:St) (xs ys:List α) (KV Kp)
  (hz:∀ a,∃ cs,enc a=.agg cs∧cs.length=1∧allOne cs=true)
  (hf:∀ a b s' KV Kp,a∈xs→b∈ys→s'.ge s→KV s' (.bool (r a b))→Den cx f (first++[enc a,enc b]++caps) KV Kp s')
  (hk:KV s (.bool (listEq r xs ys))):Den cx 138 [.list none (xs.map enc),.list none (ys.map enc),.fn f first caps] KV Kp s:=by
 refine Den.rlz fun hz1=>?_
 have hlw:=hz1 _ (List.mem_cons_self ..);refine Den.drop ?_;(refine Den.of_body (C:=cx) Tryz.func138 rfl rfl (gC6 rfl) ?_;refine wpC_ok (V:=[0,1,2,6,7,8,9,14,15,16,17,18,30]) _ _ _ _ ?_;simp only[go_sem,Tryz.ntmps138,Tryz.f138])
 (first|refine gC8 (fun h=>?_) (fun h=>?_)|refine gC9 (fun h=>?_) (fun h=>?_)|refine gD1 (fun h=>?_) (fun h=>?_))<;>simp only[go_sem,h]
 ·exact DK.here (by rwa[listEq_len (by intro e;simp[e] at h)] at hk)
 ·have hlen:xs.length=ys.length:=by simp at h;omega
  refine Ex.loop (fun i=>[(0,.list none (xs.map enc)),(1,.list none (ys.map enc)),(2,.fn f first caps),(15,.list none (xs.map enc)),(16,.int .i64 xs.length),(17,.int .i64 (i:Nat))]) (fun _=>s)
     (fun i=>i≤xs.length∧∀ (j:Nat) a b,j<i→xs[j]?=some a→ys[j]?=some b→r a b=true) (fun i=>xs.length-i) 0 ⟨Nat.zero_le _,fun j _ _ hj=>by omega⟩ ?_ (St.ge.refl s) ?_
  ·simp only[go_sem];exact rfl
  ·rintro i ⟨hi,hall⟩;refine wpC_ok (V:=[0,1,2,6,7,8,9,14,15,16,17,18,30]) _ _ _ _ ?_;simp only[go_sem]
   (first|refine gC8 (fun h=>?_) (fun h=>?_)|refine gC9 (fun h=>?_) (fun h=>?_)|refine gD1 (fun h=>?_) (fun h=>?_))<;>simp only[go_sem,h]
   ·have hix:i<xs.length:=by simpa using h
    have hiy:i<ys.length:=by omega
    obtain ⟨a,ha⟩:∃ a,xs[i]?=some a:=⟨_,List.getElem?_eq_getElem hix⟩
    obtain ⟨b,hb⟩:∃ b,ys[i]?=some b:=⟨_,List.getElem?_eq_getElem hiy⟩
    obtain ⟨ca,ea,la,oa⟩:=hz a;obtain ⟨cb,eb,lb,ob⟩:=hz b;simp only[go_sem,ha,ea,la,hix,oa,List.take_of_length_le (Nat.le_of_eq la)];(intro p hp;try simp only[gD6,ne_eq] at hp);simp only[go_sem,hp,oa,la,hb,eb,lb,ob,hiy,List.take_of_length_le (Nat.le_of_eq la),List.take_of_length_le (Nat.le_of_eq lb)];(intro q hq;try simp only[gD6,ne_eq] at hq);simp only[go_sem,hp,hq,oa,la,hb,eb,lb,ob,List.take_of_length_le (Nat.le_of_eq la),List.take_of_length_le (Nat.le_of_eq lb)];rw[← ea,← eb];refine hf a b _ _ _ (List.mem_of_getElem? ha) (List.mem_of_getElem? hb) (St.ge_set hq.2 (St.ge_new hp)) ?_;simp only[go_sem]
    (first|refine gC8 (fun h=>?_) (fun h=>?_)|refine gC9 (fun h=>?_) (fun h=>?_)|refine gD1 (fun h=>?_) (fun h=>?_))<;>simp only[go_sem,h]
    ·have hr:r a b=false:=by simpa using h
     refine DK.st (s2:=s) ?_ (St.ge_set hq.2 (St.ge_new hp))
     have:listEq r xs ys=false:=by
      rw[Bool.eq_false_iff];intro he;have:=(listEq_iff hlen).1 he i a b ha hb;rw[hr] at this;cases this
     rwa[this] at hk
    ·have hr:r a b=true:=by simpa using h
     refine ⟨i+1,⟨by omega,fun j x y hj hx hy=>?_⟩,by omega,?_,St.ge_set hq.2 (St.ge_new hp)⟩
     ·by_cases hji:j=i
      ·subst hji;rw[ha] at hx;rw[hb] at hy;cases hx;cases hy;exact hr
      ·exact hall j x y (by omega) hx hy
     ·simp only[go_sem,hlw.wrap (i:=i) (by simpa using hix)]
   ·have hix:i=xs.length:=by simp at h;omega
    have:listEq r xs ys=true:=(listEq_iff hlen).2 fun j x y hx hy=>hall j x y (by rw[hix];exact (List.getElem?_eq_some_iff.1 hx).1) hx hy
    exact DK.here (by rwa[this] at hk)
theorem Tm.sames_eq:∀ a b:List Tm,Tm.sames a b=listEq Tm.same a b
 | [],[]=>rfl
 | [],_::_=>rfl
 | _::_,[]=>rfl
 | a::l,b::r=>by rw[Tm.sames,listEq,Tm.sames_eq l r]
theorem Tm.same_eq (a b:Tm):a.same b=(decide (a.kind=b.kind)&&(decide (a.n=b.n)&&(decide (a.text=b.text)&&(decide (a.sort=b.sort)&&(listEq Tm.same a.kids b.kids&&listEq Tm.same a.rest b.rest))))):=by
 cases a;cases b;simp only[Tm.same,Tm.sames_eq,Tm.kind,Tm.n,Tm.text,Tm.sort,Tm.kids,Tm.rest];rfl
theorem Tm.hz6 (a:Tm):∃ cs,a.enc=.agg cs∧cs.length=6∧allOne cs=true:=⟨_,a.enc_eq,rfl,rfl⟩
theorem tmSame_aux (m:Nat):∀ (a b:Tm) (s:St) (KV Kp),SizeOf.sizeOf a<m→KV s (.bool (a.same b))→Den cx 36 [a.enc,b.enc] KV Kp s:=by
 induction m with
 | zero=>intro a b s KV Kp hm;omega
 | succ m ih =>
 intro a b s KV Kp hm hk;rw[Tm.same_eq] at hk;simp only[go_sem];refine Den.drop ?_;(refine Den.of_body (C:=cx) Tryz.func36 rfl rfl (gC6 rfl) ?_;refine wpC_ok (V:=[0,1,2,3,4]) _ _ _ _ ?_;simp only[go_sem,Tryz.ntmps36,Tryz.f36]);(intro p hp;try simp only[gD6,ne_eq] at hp);simp only[go_sem,hp];(intro q hq;try simp only[gD6,ne_eq] at hq);simp only[go_sem,hp,hq]
 (first|refine gC8 (fun h=>?_) (fun h=>?_)|refine gC9 (fun h=>?_) (fun h=>?_)|refine gD1 (fun h=>?_) (fun h=>?_))<;>simp only[go_sem,h,hp,hq]<;>(try simp only[h,Bool.true_and,Bool.false_and,Bool.and_true,Bool.and_false,Bool.or_true,Bool.true_or,Bool.or_false,Bool.false_or,Bool.not_true,Bool.not_false] at hk)
 ·(first | refine gC8 (fun h => ?_) (fun h => ?_) | refine gC9 (fun h => ?_) (fun h => ?_) | refine gD1 (fun h => ?_) (fun h => ?_)) <;> simp only [go_sem,h,hp,hq] <;> (try simp only [h,Bool.true_and,Bool.false_and,Bool.and_true,Bool.and_false,Bool.or_true,Bool.true_or,Bool.or_false,Bool.false_or,Bool.not_true,Bool.not_false] at hk)
  ·(first | refine gC8 (fun h => ?_) (fun h => ?_) | refine gC9 (fun h => ?_) (fun h => ?_) | refine gD1 (fun h => ?_) (fun h => ?_)) <;> simp only [go_sem,h,hp,hq] <;> (try simp only [h,Bool.true_and,Bool.false_and,Bool.and_true,Bool.and_false,Bool.or_true,Bool.true_or,Bool.or_false,Bool.false_or,Bool.not_true,Bool.not_false] at hk)
   ·(first | refine gC8 (fun h => ?_) (fun h => ?_) | refine gC9 (fun h => ?_) (fun h => ?_) | refine gD1 (fun h => ?_) (fun h => ?_)) <;> simp only [go_sem,h,hp,hq] <;> (try simp only [h,Bool.true_and,Bool.false_and,Bool.and_true,Bool.and_false,Bool.or_true,Bool.true_or,Bool.or_false,Bool.false_or,Bool.not_true,Bool.not_false] at hk)
    ·refine eqFunc_den82 Tm.enc Tm.same 36 [] [] _ _ _ _ _ Tm.hz6 (fun x y s' KV' Kp' hx hy hs h'=>ih x y s' KV' Kp' (by have:=Tm.size_kids hx;omega) h') ?_;simp only[go_sem]
     (first|refine gC8 (fun h=>?_) (fun h=>?_)|refine gC9 (fun h=>?_) (fun h=>?_)|refine gD1 (fun h=>?_) (fun h=>?_))<;>simp only[go_sem,h,hp,hq]<;>(try simp only[h,Bool.true_and,Bool.false_and,Bool.and_true,Bool.and_false,Bool.or_true,Bool.true_or,Bool.or_false,Bool.false_or,Bool.not_true,Bool.not_false] at hk)
     ·refine eqFunc_den82 Tm.enc Tm.same 36 [] [] _ _ _ _ _ Tm.hz6 (fun x y s' KV' Kp' hx hy hs h'=>ih x y s' KV' Kp' (by have:=Tm.size_rest hx;omega) h') ?_;simp only[go_sem];exact DK.st hk (by (repeat (first|exact St.ge.refl _|refine St.ge_set (by simp only[hp,hq]) ?_)))
     ·exact DK.st hk (by (repeat (first|exact St.ge.refl _|refine St.ge_set (by simp only[hp,hq]) ?_)))
    ·exact DK.st hk (by (repeat (first|exact St.ge.refl _|refine St.ge_set (by simp only[hp,hq]) ?_)))
   ·exact DK.st hk (by (repeat (first|exact St.ge.refl _|refine St.ge_set (by simp only[hp,hq]) ?_)))
  ·exact DK.st hk (by (repeat (first|exact St.ge.refl _|refine St.ge_set (by simp only[hp,hq]) ?_)))
 ·exact DK.st hk (by (repeat (first|exact St.ge.refl _|refine St.ge_set (by simp only[hp,hq]) ?_)))
theorem tmSame_den (a b:Tm) (s:St) (KV Kp) (hk:KV s (.bool (a.same b))):Den cx 36 [a.enc,b.enc] KV Kp s :=
 tmSame_aux _ a b s KV Kp (Nat.lt_succ_self _) hk
end Go.AV
end
section
namespace Go.AV
open Go Go.Proofs
theorem slEq_den130 (s:St) (xs ys:List Str) (KV Kp) (hk:KV s (.bool (listEq (fun a b=>decide (a=b)) xs ys))) :
  Den cx 130 [.list none (xs.map .str),.list none (ys.map .str)] KV Kp s:=by
 refine Den.rlz fun hz1=>?_
 have hlw:=hz1 _ (List.mem_cons_self ..);refine Den.drop ?_;(refine Den.of_body (C:=cx) Tryz.func130 rfl rfl (gC6 rfl) ?_;refine wpC_ok (V:=[0,1,4,5,10,12,13,14,24]) _ _ _ _ ?_;simp only[go_sem,Tryz.ntmps130,Tryz.f130])
 (first|refine gC8 (fun h=>?_) (fun h=>?_)|refine gC9 (fun h=>?_) (fun h=>?_)|refine gD1 (fun h=>?_) (fun h=>?_))<;>simp only[go_sem,h]
 ·exact DK.here (by rwa[listEq_len (by intro e;simp[e] at h)] at hk)
 ·have hlen:xs.length=ys.length:=by simp at h;omega
  refine Ex.loop (fun i=>[(0,.list none (xs.map .str)),(1,.list none (ys.map .str)),(12,.int .i64 xs.length),(13,.int .i64 (i:Nat))]) (fun _=>s)
     (fun i=>i≤xs.length∧∀ (j:Nat) a b,j<i→xs[j]?=some a→ys[j]?=some b→(fun a b=>decide (a=b)) a b=true) (fun i=>xs.length-i) 0 ⟨Nat.zero_le _,fun j _ _ hj=>by omega⟩ ?_ (St.ge.refl s) ?_
  ·simp only[go_sem];exact rfl
  ·rintro i ⟨hi,hall⟩;refine wpC_ok (V:=[0,1,4,5,10,12,13,14,24]) _ _ _ _ ?_;simp only[go_sem]
   (first|refine gC8 (fun h=>?_) (fun h=>?_)|refine gC9 (fun h=>?_) (fun h=>?_)|refine gD1 (fun h=>?_) (fun h=>?_))<;>simp only[go_sem,h]
   ·have hix:i<xs.length:=by simpa using h
    have hiy:i<ys.length:=by omega
    obtain ⟨a,ha⟩:∃ a,xs[i]?=some a:=⟨_,List.getElem?_eq_getElem hix⟩
    obtain ⟨b,hb⟩:∃ b,ys[i]?=some b:=⟨_,List.getElem?_eq_getElem hiy⟩
    (refine draw_ok (V:=[0,1,4,5,10,12,13,14,24]) (OT.l [0,1,2,3,4,5,6,7,8] .nil) [] mixed_cx (by decide +kernel) ?_;simp only[go_sem]);simp only[go_sem,ha,hb,hix,hiy]
    (first|refine gC8 (fun h=>?_) (fun h=>?_)|refine gC9 (fun h=>?_) (fun h=>?_)|refine gD1 (fun h=>?_) (fun h=>?_))<;>simp only[go_sem,h]
    ·have hr:(fun a b=>decide (a=b)) a b=false:=by simpa only[Bool.not_eq_true',Bool.and_true] using h
     have:listEq (fun a b=>decide (a=b)) xs ys=false:=by
      rw[Bool.eq_false_iff];intro he;have:=(listEq_iff hlen).1 he i a b ha hb;exact absurd (hr.symm.trans this) (by decide)
     exact DK.here (by rwa[this] at hk)
    ·have hr:(fun a b=>decide (a=b)) a b=true:=by simpa only[Bool.not_eq_false',Bool.and_true] using h
     refine ⟨i+1,⟨by omega,fun j x y hj hx hy=>?_⟩,by omega,?_,St.ge.refl s⟩
     ·by_cases hji:j=i
      ·subst hji;rw[ha] at hx;rw[hb] at hy;cases hx;cases hy;exact hr
      ·exact hall j x y (by omega) hx hy
     ·simp only[go_sem,hlw.wrap (i:=i) (by simpa using hix)]
   ·have hix:i=xs.length:=by simp at h;omega
    have:listEq (fun a b=>decide (a=b)) xs ys=true:=(listEq_iff hlen).2 fun j x y hx hy=>hall j x y (by rw[hix];exact (List.getElem?_eq_some_iff.1 hx).1) hx hy
    exact DK.here (by rwa[this] at hk)
theorem slEq_den209 (s:St) (xs ys:List Int) (KV Kp) (hk:KV s (.bool (listEq (fun a b=>decide (a=b)) xs ys))) :
  Den cx 209 [.list none (xs.map (.int .i64)),.list none (ys.map (.int .i64))] KV Kp s:=by
 refine Den.rlz fun hz1=>?_
 have hlw:=hz1 _ (List.mem_cons_self ..);refine Den.drop ?_;(refine Den.of_body (C:=cx) Tryz.func209 rfl rfl (gC6 rfl) ?_;refine wpC_ok (V:=[0,1,4,5,10,12,13,14,24]) _ _ _ _ ?_;simp only[go_sem,Tryz.ntmps209,Tryz.f209])
 (first|refine gC8 (fun h=>?_) (fun h=>?_)|refine gC9 (fun h=>?_) (fun h=>?_)|refine gD1 (fun h=>?_) (fun h=>?_))<;>simp only[go_sem,h]
 ·exact DK.here (by rwa[listEq_len (by intro e;simp[e] at h)] at hk)
 ·have hlen:xs.length=ys.length:=by simp at h;omega
  refine Ex.loop (fun i=>[(0,.list none (xs.map (.int .i64))),(1,.list none (ys.map (.int .i64))),(12,.int .i64 xs.length),(13,.int .i64 (i:Nat))]) (fun _=>s)
     (fun i=>i≤xs.length∧∀ (j:Nat) a b,j<i→xs[j]?=some a→ys[j]?=some b→(fun a b=>decide (a=b)) a b=true) (fun i=>xs.length-i) 0 ⟨Nat.zero_le _,fun j _ _ hj=>by omega⟩ ?_ (St.ge.refl s) ?_
  ·simp only[go_sem];exact rfl
  ·rintro i ⟨hi,hall⟩;refine wpC_ok (V:=[0,1,4,5,10,12,13,14,24]) _ _ _ _ ?_;simp only[go_sem]
   (first|refine gC8 (fun h=>?_) (fun h=>?_)|refine gC9 (fun h=>?_) (fun h=>?_)|refine gD1 (fun h=>?_) (fun h=>?_))<;>simp only[go_sem,h]
   ·have hix:i<xs.length:=by simpa using h
    have hiy:i<ys.length:=by omega
    obtain ⟨a,ha⟩:∃ a,xs[i]?=some a:=⟨_,List.getElem?_eq_getElem hix⟩
    obtain ⟨b,hb⟩:∃ b,ys[i]?=some b:=⟨_,List.getElem?_eq_getElem hiy⟩
    (refine draw_ok (V:=[0,1,4,5,10,12,13,14,24]) (OT.l [0,1,2,3,4,5,6,7,8] .nil) [] mixed_cx (by decide +kernel) ?_;simp only[go_sem]);simp only[go_sem,ha,hb,hix,hiy]
    (first|refine gC8 (fun h=>?_) (fun h=>?_)|refine gC9 (fun h=>?_) (fun h=>?_)|refine gD1 (fun h=>?_) (fun h=>?_))<;>simp only[go_sem,h]
    ·have hr:(fun a b=>decide (a=b)) a b=false:=by simpa only[Bool.not_eq_true',Bool.and_true] using h
     have:listEq (fun a b=>decide (a=b)) xs ys=false:=by
      rw[Bool.eq_false_iff];intro he;have:=(listEq_iff hlen).1 he i a b ha hb;exact absurd (hr.symm.trans this) (by decide)
     exact DK.here (by rwa[this] at hk)
    ·have hr:(fun a b=>decide (a=b)) a b=true:=by simpa only[Bool.not_eq_false',Bool.and_true] using h
     refine ⟨i+1,⟨by omega,fun j x y hj hx hy=>?_⟩,by omega,?_,St.ge.refl s⟩
     ·by_cases hji:j=i
      ·subst hji;rw[ha] at hx;rw[hb] at hy;cases hx;cases hy;exact hr
      ·exact hall j x y (by omega) hx hy
     ·simp only[go_sem,hlw.wrap (i:=i) (by simpa using hix)]
   ·have hix:i=xs.length:=by simp at h;omega
    have:listEq (fun a b=>decide (a=b)) xs ys=true:=(listEq_iff hlen).2 fun j x y hx hy=>hall j x y (by rw[hix];exact (List.getElem?_eq_some_iff.1 hx).1) hx hy
    exact DK.here (by rwa[this] at hk)
theorem slEq_den131 (s:St) (xs ys:List Below) (KV Kp) (hk:KV s (.bool (listEq (fun a b=>(decide (a.low=b.low)&&decide (a.high=b.high))) xs ys))) :
  Den cx 131 [.list none (xs.map Below.enc),.list none (ys.map Below.enc)] KV Kp s:=by
 refine Den.rlz fun hz1=>?_
 have hlw:=hz1 _ (List.mem_cons_self ..);refine Den.drop ?_;(refine Den.of_body (C:=cx) Tryz.func131 rfl rfl (gC6 rfl) ?_;refine wpC_ok (V:=[0,1,4,5,10,12,13,14,24]) _ _ _ _ ?_;simp only[go_sem,Tryz.ntmps131,Tryz.f131])
 (first|refine gC8 (fun h=>?_) (fun h=>?_)|refine gC9 (fun h=>?_) (fun h=>?_)|refine gD1 (fun h=>?_) (fun h=>?_))<;>simp only[go_sem,h]
 ·exact DK.here (by rwa[listEq_len (by intro e;simp[e] at h)] at hk)
 ·have hlen:xs.length=ys.length:=by simp at h;omega
  refine Ex.loop (fun i=>[(0,.list none (xs.map Below.enc)),(1,.list none (ys.map Below.enc)),(12,.int .i64 xs.length),(13,.int .i64 (i:Nat))]) (fun _=>s)
     (fun i=>i≤xs.length∧∀ (j:Nat) a b,j<i→xs[j]?=some a→ys[j]?=some b→(fun a b=>(decide (a.low=b.low)&&decide (a.high=b.high))) a b=true) (fun i=>xs.length-i) 0 ⟨Nat.zero_le _,fun j _ _ hj=>by omega⟩ ?_ (St.ge.refl s) ?_
  ·simp only[go_sem];exact rfl
  ·rintro i ⟨hi,hall⟩;refine wpC_ok (V:=[0,1,4,5,10,12,13,14,24]) _ _ _ _ ?_;simp only[go_sem]
   (first|refine gC8 (fun h=>?_) (fun h=>?_)|refine gC9 (fun h=>?_) (fun h=>?_)|refine gD1 (fun h=>?_) (fun h=>?_))<;>simp only[go_sem,h]
   ·have hix:i<xs.length:=by simpa using h
    have hiy:i<ys.length:=by omega
    obtain ⟨a,ha⟩:∃ a,xs[i]?=some a:=⟨_,List.getElem?_eq_getElem hix⟩
    obtain ⟨b,hb⟩:∃ b,ys[i]?=some b:=⟨_,List.getElem?_eq_getElem hiy⟩
    (refine draw_ok (V:=[0,1,4,5,10,12,13,14,24]) (OT.l [0,1,2,3,4,5,6,7,8] .nil) [] mixed_cx (by decide +kernel) ?_;simp only[go_sem]);simp only[go_sem,ha,hb,hix,hiy]
    (first|refine gC8 (fun h=>?_) (fun h=>?_)|refine gC9 (fun h=>?_) (fun h=>?_)|refine gD1 (fun h=>?_) (fun h=>?_))<;>simp only[go_sem,h]
    ·have hr:(fun a b=>(decide (a.low=b.low)&&decide (a.high=b.high))) a b=false:=by simpa only[Bool.not_eq_true',Bool.and_true] using h
     have:listEq (fun a b=>(decide (a.low=b.low)&&decide (a.high=b.high))) xs ys=false:=by
      rw[Bool.eq_false_iff];intro he;have:=(listEq_iff hlen).1 he i a b ha hb;exact absurd (hr.symm.trans this) (by decide)
     exact DK.here (by rwa[this] at hk)
    ·have hr:(fun a b=>(decide (a.low=b.low)&&decide (a.high=b.high))) a b=true:=by simpa only[Bool.not_eq_false',Bool.and_true] using h
     refine ⟨i+1,⟨by omega,fun j x y hj hx hy=>?_⟩,by omega,?_,St.ge.refl s⟩
     ·by_cases hji:j=i
      ·subst hji;rw[ha] at hx;rw[hb] at hy;cases hx;cases hy;exact hr
      ·exact hall j x y (by omega) hx hy
     ·simp only[go_sem,hlw.wrap (i:=i) (by simpa using hix)]
   ·have hix:i=xs.length:=by simp at h;omega
    have:listEq (fun a b=>(decide (a.low=b.low)&&decide (a.high=b.high))) xs ys=true:=(listEq_iff hlen).2 fun j x y hx hy=>hall j x y (by rw[hix];exact (List.getElem?_eq_some_iff.1 hx).1) hx hy
    exact DK.here (by rwa[this] at hk)
theorem slEq_den208 (s:St) (xs ys:List Piece) (KV Kp) (hk:KV s (.bool (listEq (fun a b=>(decide (a.text=b.text)&&decide (a.sort=b.sort))) xs ys))) :
  Den cx 208 [.list none (xs.map Piece.enc),.list none (ys.map Piece.enc)] KV Kp s:=by
 refine Den.rlz fun hz1=>?_
 have hlw:=hz1 _ (List.mem_cons_self ..);refine Den.drop ?_;(refine Den.of_body (C:=cx) Tryz.func208 rfl rfl (gC6 rfl) ?_;refine wpC_ok (V:=[0,1,4,5,10,12,13,14,24]) _ _ _ _ ?_;simp only[go_sem,Tryz.ntmps208,Tryz.f208])
 (first|refine gC8 (fun h=>?_) (fun h=>?_)|refine gC9 (fun h=>?_) (fun h=>?_)|refine gD1 (fun h=>?_) (fun h=>?_))<;>simp only[go_sem,h]
 ·exact DK.here (by rwa[listEq_len (by intro e;simp[e] at h)] at hk)
 ·have hlen:xs.length=ys.length:=by simp at h;omega
  refine Ex.loop (fun i=>[(0,.list none (xs.map Piece.enc)),(1,.list none (ys.map Piece.enc)),(12,.int .i64 xs.length),(13,.int .i64 (i:Nat))]) (fun _=>s)
     (fun i=>i≤xs.length∧∀ (j:Nat) a b,j<i→xs[j]?=some a→ys[j]?=some b→(fun a b=>(decide (a.text=b.text)&&decide (a.sort=b.sort))) a b=true) (fun i=>xs.length-i) 0 ⟨Nat.zero_le _,fun j _ _ hj=>by omega⟩ ?_ (St.ge.refl s) ?_
  ·simp only[go_sem];exact rfl
  ·rintro i ⟨hi,hall⟩;refine wpC_ok (V:=[0,1,4,5,10,12,13,14,24]) _ _ _ _ ?_;simp only[go_sem]
   (first|refine gC8 (fun h=>?_) (fun h=>?_)|refine gC9 (fun h=>?_) (fun h=>?_)|refine gD1 (fun h=>?_) (fun h=>?_))<;>simp only[go_sem,h]
   ·have hix:i<xs.length:=by simpa using h
    have hiy:i<ys.length:=by omega
    obtain ⟨a,ha⟩:∃ a,xs[i]?=some a:=⟨_,List.getElem?_eq_getElem hix⟩
    obtain ⟨b,hb⟩:∃ b,ys[i]?=some b:=⟨_,List.getElem?_eq_getElem hiy⟩
    (refine draw_ok (V:=[0,1,4,5,10,12,13,14,24]) (OT.l [0,1,2,3,4,5,6,7,8] .nil) [] mixed_cx (by decide +kernel) ?_;simp only[go_sem]);simp only[go_sem,ha,hb,hix,hiy]
    (first|refine gC8 (fun h=>?_) (fun h=>?_)|refine gC9 (fun h=>?_) (fun h=>?_)|refine gD1 (fun h=>?_) (fun h=>?_))<;>simp only[go_sem,h]
    ·have hr:(fun a b=>(decide (a.text=b.text)&&decide (a.sort=b.sort))) a b=false:=by simpa only[Bool.not_eq_true',Bool.and_true] using h
     have:listEq (fun a b=>(decide (a.text=b.text)&&decide (a.sort=b.sort))) xs ys=false:=by
      rw[Bool.eq_false_iff];intro he;have:=(listEq_iff hlen).1 he i a b ha hb;exact absurd (hr.symm.trans this) (by decide)
     exact DK.here (by rwa[this] at hk)
    ·have hr:(fun a b=>(decide (a.text=b.text)&&decide (a.sort=b.sort))) a b=true:=by simpa only[Bool.not_eq_false',Bool.and_true] using h
     refine ⟨i+1,⟨by omega,fun j x y hj hx hy=>?_⟩,by omega,?_,St.ge.refl s⟩
     ·by_cases hji:j=i
      ·subst hji;rw[ha] at hx;rw[hb] at hy;cases hx;cases hy;exact hr
      ·exact hall j x y (by omega) hx hy
     ·simp only[go_sem,hlw.wrap (i:=i) (by simpa using hix)]
   ·have hix:i=xs.length:=by simp at h;omega
    have:listEq (fun a b=>(decide (a.text=b.text)&&decide (a.sort=b.sort))) xs ys=true:=(listEq_iff hlen).2 fun j x y hx hy=>hall j x y (by rw[hix];exact (List.getElem?_eq_some_iff.1 hx).1) hx hy
    exact DK.here (by rwa[this] at hk)
theorem tmSame_den' (a b:Tm) (s:St) (KV Kp) (hk:KV s (.bool (a.same b))):Den cx 36 [.agg a.cs,.agg b.cs] KV Kp s:=by
 have:=tmSame_den a b s KV Kp hk
 rwa[Tm.enc_eq,Tm.enc_eq] at this
theorem sameTerms_den (xs ys:List Tm) (s:St) (KV Kp) (hk:KV s (.bool (listEq Tm.same xs ys))):Den cx 134 [.list none (xs.map Tm.enc),.list none (ys.map Tm.enc)] KV Kp s:=by
 refine Den.drop ?_;(refine Den.of_body (C:=cx) Tryz.func134 rfl rfl (gC6 rfl) ?_;refine wpC_ok (V:=[0,1,4]) _ _ _ _ ?_;simp only[go_sem,Tryz.ntmps134,Tryz.f134]);refine eqFunc_den82 Tm.enc Tm.same 36 [] [] _ _ _ _ _ Tm.hz6 (fun x y s' KV' Kp' hx hy hs h'=>tmSame_den x y s' KV' Kp' h') ?_;simp only[go_sem];exact DK.here hk
def Eqn.same (a b:Eqn):Bool:=a.left.same b.left&&(a.right.same b.right&&listEq Tm.same a.cond b.cond)
theorem eqnSame_den (a b:Eqn) (s:St) (KV Kp) (hk:KV s (.bool (a.same b))):Den cx 70 [a.enc,b.enc] KV Kp s:=by
 unfold Eqn.same at hk;simp only[go_sem];refine Den.drop ?_;(refine Den.of_body (C:=cx) Tryz.func70 rfl rfl (gC6 rfl) ?_;refine wpC_ok (V:=[0,1,2,3,4]) _ _ _ _ ?_;simp only[go_sem,Tryz.ntmps70,Tryz.f70]);(intro p hp;try simp only[gD6,ne_eq] at hp);simp only[go_sem,hp];(intro q hq;try simp only[gD6,ne_eq] at hq);simp only[go_sem,hp,hq]
 (repeat' (first|exact DK.st hk (by (repeat (first|exact St.ge.refl _|refine St.ge_set (by simp only[hp,hq]) ?_)))|(refine tmSame_den' _ _ _ _ _ ?_;simp only[go_sem,hp,hq])|(refine sameTerms_den _ _ _ _ _ ?_;simp only[go_sem,hp,hq])|((first|refine gC8 (fun h=>?_) (fun h=>?_)|refine gC9 (fun h=>?_) (fun h=>?_)|refine gD1 (fun h=>?_) (fun h=>?_))<;>simp only[go_sem,h,hp,hq]<;>(try simp only[h,Bool.true_and,Bool.false_and,Bool.and_true,Bool.and_false,Bool.or_true,Bool.true_or,Bool.or_false,Bool.false_or,Bool.not_true,Bool.not_false] at hk))))
def Cel.same (a b:Cel):Bool:=decide (a.name=b.name)&&(decide (a.sort=b.sort)&&a.init.same b.init)
theorem celSame_den (a b:Cel) (s:St) (KV Kp) (hk:KV s (.bool (a.same b))):Den cx 72 [a.enc,b.enc] KV Kp s:=by
 unfold Cel.same at hk;simp only[go_sem];refine Den.drop ?_;(refine Den.of_body (C:=cx) Tryz.func72 rfl rfl (gC6 rfl) ?_;refine wpC_ok (V:=[0,1,2,3,4]) _ _ _ _ ?_;simp only[go_sem,Tryz.ntmps72,Tryz.f72]);(intro p hp;try simp only[gD6,ne_eq] at hp);simp only[go_sem,hp];(intro q hq;try simp only[gD6,ne_eq] at hq);simp only[go_sem,hp,hq]
 (repeat' (first|exact DK.st hk (by (repeat (first|exact St.ge.refl _|refine St.ge_set (by simp only[hp,hq]) ?_)))|(refine tmSame_den' _ _ _ _ _ ?_;simp only[go_sem,hp,hq])|((first|refine gC8 (fun h=>?_) (fun h=>?_)|refine gC9 (fun h=>?_) (fun h=>?_)|refine gD1 (fun h=>?_) (fun h=>?_))<;>simp only[go_sem,h,hp,hq]<;>(try simp only[h,Bool.true_and,Bool.false_and,Bool.and_true,Bool.and_false,Bool.or_true,Bool.true_or,Bool.or_false,Bool.false_or,Bool.not_true,Bool.not_false] at hk))))
def Part.same (a b:Part):Bool:=decide (a.cell=b.cell)&&(decide (a.at_=b.at_)&&(a.left.same b.left&&listEq Tm.same a.right b.right))
theorem partSame_den (a b:Part) (s:St) (KV Kp) (hk:KV s (.bool (a.same b))):Den cx 137 [a.enc,b.enc] KV Kp s:=by
 unfold Part.same at hk;simp only[go_sem];refine Den.drop ?_;(refine Den.of_body (C:=cx) Tryz.func137 rfl rfl (gC6 rfl) ?_;refine wpC_ok (V:=[0,1,2,3,4]) _ _ _ _ ?_;simp only[go_sem,Tryz.ntmps137,Tryz.f137]);(intro p hp;try simp only[gD6,ne_eq] at hp);simp only[go_sem,hp];(intro q hq;try simp only[gD6,ne_eq] at hq);simp only[go_sem,hp,hq]
 (repeat' (first|exact DK.st hk (by (repeat (first|exact St.ge.refl _|refine St.ge_set (by simp only[hp,hq]) ?_)))|(refine tmSame_den' _ _ _ _ _ ?_;simp only[go_sem,hp,hq])|(refine sameTerms_den _ _ _ _ _ ?_;simp only[go_sem,hp,hq])|((first|refine gC8 (fun h=>?_) (fun h=>?_)|refine gC9 (fun h=>?_) (fun h=>?_)|refine gD1 (fun h=>?_) (fun h=>?_))<;>simp only[go_sem,h,hp,hq]<;>(try simp only[h,Bool.true_and,Bool.false_and,Bool.and_true,Bool.and_false,Bool.or_true,Bool.true_or,Bool.or_false,Bool.false_or,Bool.not_true,Bool.not_false] at hk))))
def Fresh.same (a b:Fresh):Bool:=listEq Tm.same a.cells b.cells
theorem freshSame_den (a b:Fresh) (s:St) (KV Kp) (hk:KV s (.bool (a.same b))):Den cx 135 [a.enc,b.enc] KV Kp s:=by
 unfold Fresh.same at hk;simp only[go_sem];refine Den.drop ?_;(refine Den.of_body (C:=cx) Tryz.func135 rfl rfl (gC6 rfl) ?_;refine wpC_ok (V:=[0,1,2,3,4]) _ _ _ _ ?_;simp only[go_sem,Tryz.ntmps135,Tryz.f135]);(intro p hp;try simp only[gD6,ne_eq] at hp);simp only[go_sem,hp];(intro q hq;try simp only[gD6,ne_eq] at hq);simp only[go_sem,hp,hq]
 (repeat' (first|exact DK.st hk (by (repeat (first|exact St.ge.refl _|refine St.ge_set (by simp only[hp,hq]) ?_)))|(refine sameTerms_den _ _ _ _ _ ?_;simp only[go_sem,hp,hq])|((first|refine gC8 (fun h=>?_) (fun h=>?_)|refine gC9 (fun h=>?_) (fun h=>?_)|refine gD1 (fun h=>?_) (fun h=>?_))<;>simp only[go_sem,h,hp,hq]<;>(try simp only[h,Bool.true_and,Bool.false_and,Bool.and_true,Bool.and_false,Bool.or_true,Bool.true_or,Bool.or_false,Bool.false_or,Bool.not_true,Bool.not_false] at hk))))
theorem Eqn.hz (a:Eqn):∃ cs,a.enc=.agg cs∧cs.length=15∧allOne cs=true:=⟨_,rfl,rfl,rfl⟩
theorem Cel.hz (a:Cel):∃ cs,a.enc=.agg cs∧cs.length=10∧allOne cs=true:=⟨_,rfl,rfl,rfl⟩
theorem Part.hz (a:Part):∃ cs,a.enc=.agg cs∧cs.length=11∧allOne cs=true:=⟨_,rfl,rfl,rfl⟩
theorem Fresh.hz (a:Fresh):∃ cs,a.enc=.agg cs∧cs.length=1∧allOne cs=true:=⟨_,rfl,rfl,rfl⟩
theorem Rul.hz (a:Rul):∃ cs,a.enc=.agg cs∧cs.length=7∧allOne cs=true:=⟨_,rfl,rfl,rfl⟩
theorem Opr.hz (a:Opr):∃ cs,a.enc=.agg cs∧cs.length=7∧allOne cs=true:=⟨_,rfl,rfl,rfl⟩
def Rul.same (a b:Rul):Bool:=decide (a.name=b.name)&&(listEq Part.same a.parts b.parts&&(listEq Tm.same a.cond b.cond&&(listEq Fresh.same a.new b.new&&listEq (fun a b=>decide (a=b)) a.drop b.drop)))
theorem rulSame_den (a b:Rul) (s:St) (KV Kp) (hk:KV s (.bool (a.same b))):Den cx 74 [a.enc,b.enc] KV Kp s:=by
 unfold Rul.same at hk;simp only[go_sem];refine Den.drop ?_;(refine Den.of_body (C:=cx) Tryz.func74 rfl rfl (gC6 rfl) ?_;refine wpC_ok (V:=[0,1,2,3,4,5]) _ _ _ _ ?_;simp only[go_sem,Tryz.ntmps74,Tryz.f74]);(intro p hp;try simp only[gD6,ne_eq] at hp);simp only[go_sem,hp];(intro q hq;try simp only[gD6,ne_eq] at hq);simp only[go_sem,hp,hq]
 (repeat' (first|exact DK.st hk (by (repeat (first|exact St.ge.refl _|refine St.ge_set (by simp only[hp,hq]) ?_)))|(refine sameTerms_den _ _ _ _ _ ?_;simp only[go_sem,hp,hq])|(refine slEq_den130 _ _ _ _ _ ?_;simp only[go_sem,hp,hq])|(refine eqFunc_den136 Part.enc Part.same 137 [] [] _ _ _ _ _ Part.hz (fun x y s' KV' Kp' hx hy hs h'=>partSame_den x y s' KV' Kp' h') ?_;simp only[go_sem,hp,hq])|(refine eqFunc_den138 Fresh.enc Fresh.same 135 [] [] _ _ _ _ _ Fresh.hz (fun x y s' KV' Kp' hx hy hs h'=>freshSame_den x y s' KV' Kp' h') ?_;simp only[go_sem,hp,hq])|((first|refine gC8 (fun h=>?_) (fun h=>?_)|refine gC9 (fun h=>?_) (fun h=>?_)|refine gD1 (fun h=>?_) (fun h=>?_))<;>simp only[go_sem,h,hp,hq]<;>(try simp only[h,Bool.true_and,Bool.false_and,Bool.and_true,Bool.and_false,Bool.or_true,Bool.true_or,Bool.or_false,Bool.false_or,Bool.not_true,Bool.not_false] at hk))))
def Opr.same (a b:Opr):Bool:=decide (a.name=b.name)&&(decide (a.sort=b.sort)&&(decide (a.prec=b.prec)&&(decide (a.assoc=b.assoc)&&(listEq (fun a b=>decide (a=b)) a.args b.args&&(listEq (fun a b=>decide (a.text=b.text)&&decide (a.sort=b.sort)) a.pieces b.pieces&&listEq (fun a b=>decide (a=b)) a.strict b.strict)))))
theorem oprSame_den (a b:Opr) (s:St) (KV Kp) (hk:KV s (.bool (a.same b))):Den cx 133 [a.enc,b.enc] KV Kp s:=by
 unfold Opr.same at hk;simp only[go_sem];refine Den.drop ?_;(refine Den.of_body (C:=cx) Tryz.func133 rfl rfl (gC6 rfl) ?_;refine wpC_ok (V:=[0,1,2,3,4]) _ _ _ _ ?_;simp only[go_sem,Tryz.ntmps133,Tryz.f133]);(intro p hp;try simp only[gD6,ne_eq] at hp);simp only[go_sem,hp];(intro q hq;try simp only[gD6,ne_eq] at hq);simp only[go_sem,hp,hq]
 (repeat' (first|exact DK.st hk (by (repeat (first|exact St.ge.refl _|refine St.ge_set (by simp only[hp,hq]) ?_)))|(refine slEq_den130 _ _ _ _ _ ?_;simp only[go_sem,hp,hq])|(refine slEq_den208 _ _ _ _ _ ?_;simp only[go_sem,hp,hq])|(refine slEq_den209 _ _ _ _ _ ?_;simp only[go_sem,hp,hq])|((first|refine gC8 (fun h=>?_) (fun h=>?_)|refine gC9 (fun h=>?_) (fun h=>?_)|refine gD1 (fun h=>?_) (fun h=>?_))<;>simp only[go_sem,h,hp,hq]<;>(try simp only[h,Bool.true_and,Bool.false_and,Bool.and_true,Bool.and_false,Bool.or_true,Bool.true_or,Bool.or_false,Bool.false_or,Bool.not_true,Bool.not_false] at hk))))
def Sig.same (a b:Sig):Bool:=listEq (fun a b=>decide (a=b)) a.sorts b.sorts&&(listEq (fun a b=>decide (a.low=b.low)&&decide (a.high=b.high)) a.below b.below&&(listEq (fun a b=>decide (a=b)) a.values b.values&&(listEq Opr.same a.ops b.ops&&listEq Opr.same a.funs b.funs)))
theorem sigSame_den (a b:Sig) (s:St) (KV Kp) (hk:KV s (.bool (a.same b))):Den cx 68 [a.enc,b.enc] KV Kp s:=by
 unfold Sig.same at hk;simp only[go_sem];refine Den.drop ?_;(refine Den.of_body (C:=cx) Tryz.func68 rfl rfl (gC6 rfl) ?_;refine wpC_ok (V:=[0,1,2,3,4]) _ _ _ _ ?_;simp only[go_sem,Tryz.ntmps68,Tryz.f68]);(intro p hp;try simp only[gD6,ne_eq] at hp);simp only[go_sem,hp];(intro q hq;try simp only[gD6,ne_eq] at hq);simp only[go_sem,hp,hq]
 (repeat' (first|exact DK.st hk (by (repeat (first|exact St.ge.refl _|refine St.ge_set (by simp only[hp,hq]) ?_)))|(refine slEq_den130 _ _ _ _ _ ?_;simp only[go_sem,hp,hq])|(refine slEq_den131 _ _ _ _ _ ?_;simp only[go_sem,hp,hq])|(refine eqFunc_den132 Opr.enc Opr.same 133 [] [] _ _ _ _ _ Opr.hz (fun x y s' KV' Kp' hx hy hs h'=>oprSame_den x y s' KV' Kp' h') ?_;simp only[go_sem,hp,hq])|((first|refine gC8 (fun h=>?_) (fun h=>?_)|refine gC9 (fun h=>?_) (fun h=>?_)|refine gD1 (fun h=>?_) (fun h=>?_))<;>simp only[go_sem,h,hp,hq]<;>(try simp only[h,Bool.true_and,Bool.false_and,Bool.and_true,Bool.and_false,Bool.or_true,Bool.true_or,Bool.or_false,Bool.false_or,Bool.not_true,Bool.not_false] at hk))))
def Dfn.same (a b:Dfn):Bool:=decide (a.name=b.name)&&(decide (a.kind=b.kind)&&(decide (a.start=b.start)&&(decide (a.watch=b.watch)&&(a.sig.same b.sig&&(listEq Eqn.same a.eqs b.eqs&&(listEq Cel.same a.once b.once&&(listEq Cel.same a.many b.many&&listEq Rul.same a.rules b.rules)))))))
theorem dfnSame_den (a b:Dfn) (s:St) (KV Kp) (hk:KV s (.bool (a.same b))):Den cx 30 [a.enc,b.enc] KV Kp s:=by
 unfold Dfn.same at hk;simp only[go_sem];refine Den.drop ?_;(refine Den.of_body (C:=cx) Tryz.func30 rfl rfl (gC6 rfl) ?_;refine wpC_ok (V:=[0,1,2,3,4,5]) _ _ _ _ ?_;simp only[go_sem,Tryz.ntmps30,Tryz.f30]);(intro p hp;try simp only[gD6,ne_eq] at hp);simp only[go_sem,hp];(intro q hq;try simp only[gD6,ne_eq] at hq);simp only[go_sem,hp,hq]
 (repeat' (first|exact DK.st hk (by (repeat (first|exact St.ge.refl _|refine St.ge_set (by simp only[hp,hq]) ?_)))|(refine sigSame_den _ _ _ _ _ ?_;simp only[go_sem,hp,hq])|(refine eqFunc_den69 Eqn.enc Eqn.same 70 [] [] _ _ _ _ _ Eqn.hz (fun x y s' KV' Kp' hx hy hs h'=>eqnSame_den x y s' KV' Kp' h') ?_;simp only[go_sem,hp,hq])|(refine eqFunc_den71 Cel.enc Cel.same 72 [] [] _ _ _ _ _ Cel.hz (fun x y s' KV' Kp' hx hy hs h'=>celSame_den x y s' KV' Kp' h') ?_;simp only[go_sem,hp,hq])|(refine eqFunc_den73 Rul.enc Rul.same 74 [] [] _ _ _ _ _ Rul.hz (fun x y s' KV' Kp' hx hy hs h'=>rulSame_den x y s' KV' Kp' h') ?_;simp only[go_sem,hp,hq])|((first|refine gC8 (fun h=>?_) (fun h=>?_)|refine gC9 (fun h=>?_) (fun h=>?_)|refine gD1 (fun h=>?_) (fun h=>?_))<;>simp only[go_sem,h,hp,hq]<;>(try simp only[h,Bool.true_and,Bool.false_and,Bool.and_true,Bool.and_false,Bool.or_true,Bool.true_or,Bool.or_false,Bool.false_or,Bool.not_true,Bool.not_false] at hk))))
end Go.AV
end
section
namespace Go.AV
open Go Go.Proofs
theorem sameList47_den (xs ys:List Tm) (s:St) (KV Kp:St→A→Prop) (hf:∀ (a b:Tm) (s':St) (KV Kp:St→A→Prop),a∈xs→KV s' (.bool (a.same b))→Den cx 20 [a.enc,b.enc] KV Kp s')
  (hk:KV s (.bool (listEq Tm.same xs ys))):Den cx 47 [.list none (xs.map Tm.enc),.list none (ys.map Tm.enc)] KV Kp s:=by
 refine Den.rlz fun hz1=>?_
 have hlw:=hz1 _ (List.mem_cons_self ..);refine Den.drop ?_;(refine Den.of_body (C:=cx) Tryz.func47 rfl rfl (gC6 rfl) ?_;refine wpC_ok (V:=[0,1,4,5,10,12,13,14,25]) _ _ _ _ ?_;simp only[go_sem,Tryz.ntmps47,Tryz.f47])
 (first|refine gC8 (fun h=>?_) (fun h=>?_)|refine gC9 (fun h=>?_) (fun h=>?_)|refine gD1 (fun h=>?_) (fun h=>?_))<;>simp only[go_sem,h]
 ·exact DK.here (by rwa[listEq_len (by intro e;simp[e] at h)] at hk)
 ·have hlen:xs.length=ys.length:=by simp at h;omega
  refine Ex.loop (fun i=>[(0,.list none (xs.map Tm.enc)),(1,.list none (ys.map Tm.enc)),(12,.int .i64 xs.length),(13,.int .i64 (i:Nat))]) (fun _=>s)
     (fun i=>i≤xs.length∧∀ (j:Nat) a b,j<i→xs[j]?=some a→ys[j]?=some b→a.same b=true) (fun i=>xs.length-i) 0 ⟨Nat.zero_le _,fun j _ _ hj=>by omega⟩ ?_ (St.ge.refl s) ?_
  ·simp only[go_sem];exact rfl
  ·rintro i ⟨hi,hall⟩;refine wpC_ok (V:=[0,1,4,5,10,12,13,14,25]) _ _ _ _ ?_;simp only[go_sem]
   (first|refine gC8 (fun h=>?_) (fun h=>?_)|refine gC9 (fun h=>?_) (fun h=>?_)|refine gD1 (fun h=>?_) (fun h=>?_))<;>simp only[go_sem,h]
   ·have hix:i<xs.length:=by simpa using h
    have hiy:i<ys.length:=by omega
    obtain ⟨a,ha⟩:∃ a,xs[i]?=some a:=⟨_,List.getElem?_eq_getElem hix⟩
    obtain ⟨b,hb⟩:∃ b,ys[i]?=some b:=⟨_,List.getElem?_eq_getElem hiy⟩
    obtain ⟨ca,ea,la,oa⟩:=Tm.hz6 a;obtain ⟨cb,eb,lb,ob⟩:=Tm.hz6 b;(refine draw_ok (V:=[0,1,4,5,10,12,13,14,25]) (OT.l [0,1,2,3,4,5,6,7,8,9] .nil) [] mixed_cx (by decide +kernel) ?_;simp only[go_sem,ha,hix,hb,hiy])
    have hfa:∀ (KV Kp:St→A→Prop),KV s (.bool (a.same b))→Den cx 20 [.agg a.cs,.agg b.cs] KV Kp s:=fun KV Kp h=>by
     have:=hf a b s KV Kp (List.mem_of_getElem? ha) h
     rwa[Tm.enc_eq,Tm.enc_eq] at this
    refine hfa _ _ ?_;simp only[go_sem]
    (first|refine gC8 (fun h=>?_) (fun h=>?_)|refine gC9 (fun h=>?_) (fun h=>?_)|refine gD1 (fun h=>?_) (fun h=>?_))<;>simp only[go_sem,h]
    ·have hr:a.same b=false:=by simpa using h
     refine DK.here ?_
     have:listEq Tm.same xs ys=false:=by
      rw[Bool.eq_false_iff];intro he;have:=(listEq_iff hlen).1 he i a b ha hb;rw[hr] at this;cases this
     rwa[this] at hk
    ·have hr:a.same b=true:=by simpa using h
     refine ⟨i+1,⟨by omega,fun j x y hj hx hy=>?_⟩,by omega,?_,St.ge.refl _⟩
     ·by_cases hji:j=i
      ·subst hji;rw[ha] at hx;rw[hb] at hy;cases hx;cases hy;exact hr
      ·exact hall j x y (by omega) hx hy
     ·simp only[go_sem,hlw.wrap (i:=i) (by simpa using hix)]
   ·have hix:i=xs.length:=by simp at h;omega
    have:listEq Tm.same xs ys=true:=(listEq_iff hlen).2 fun j x y hx hy=>hall j x y (by rw[hix];exact (List.getElem?_eq_some_iff.1 hx).1) hx hy
    exact DK.here (by rwa[this] at hk)
theorem same20_aux (m:Nat):∀ (a b:Tm) (s:St) (KV Kp),SizeOf.sizeOf a<m→KV s (.bool (a.same b))→Den cx 20 [a.enc,b.enc] KV Kp s:=by
 induction m with
 | zero=>intro a b s KV Kp hm;omega
 | succ m ih =>
 intro a b s KV Kp hm hk;rw[Tm.same_eq] at hk;simp only[go_sem];refine Den.drop ?_;(refine Den.of_body (C:=cx) Tryz.func20 rfl rfl (gC6 rfl) ?_;refine wpC_ok (V:=[0,1,2,3,4]) _ _ _ _ ?_;simp only[go_sem,Tryz.ntmps20,Tryz.f20]);(intro p hp;try simp only[gD6,ne_eq] at hp);simp only[go_sem,hp];(intro q hq;try simp only[gD6,ne_eq] at hq);simp only[go_sem,hp,hq]
 (first|refine gC8 (fun h=>?_) (fun h=>?_)|refine gC9 (fun h=>?_) (fun h=>?_)|refine gD1 (fun h=>?_) (fun h=>?_))<;>simp only[go_sem,h,hp,hq]<;>(try simp only[h,Bool.true_and,Bool.false_and,Bool.and_true,Bool.and_false,Bool.or_true,Bool.true_or,Bool.or_false,Bool.false_or,Bool.not_true,Bool.not_false] at hk)
 ·(first | refine gC8 (fun h => ?_) (fun h => ?_) | refine gC9 (fun h => ?_) (fun h => ?_) | refine gD1 (fun h => ?_) (fun h => ?_)) <;> simp only [go_sem,h,hp,hq] <;> (try simp only [h,Bool.true_and,Bool.false_and,Bool.and_true,Bool.and_false,Bool.or_true,Bool.true_or,Bool.or_false,Bool.false_or,Bool.not_true,Bool.not_false] at hk)
  ·(first | refine gC8 (fun h => ?_) (fun h => ?_) | refine gC9 (fun h => ?_) (fun h => ?_) | refine gD1 (fun h => ?_) (fun h => ?_)) <;> simp only [go_sem,h,hp,hq] <;> (try simp only [h,Bool.true_and,Bool.false_and,Bool.and_true,Bool.and_false,Bool.or_true,Bool.true_or,Bool.or_false,Bool.false_or,Bool.not_true,Bool.not_false] at hk)
   ·(first | refine gC8 (fun h => ?_) (fun h => ?_) | refine gC9 (fun h => ?_) (fun h => ?_) | refine gD1 (fun h => ?_) (fun h => ?_)) <;> simp only [go_sem,h,hp,hq] <;> (try simp only [h,Bool.true_and,Bool.false_and,Bool.and_true,Bool.and_false,Bool.or_true,Bool.true_or,Bool.or_false,Bool.false_or,Bool.not_true,Bool.not_false] at hk)
    ·refine sameList47_den _ _ _ _ _ (fun x y s' KV' Kp' hx h'=>ih x y s' KV' Kp' (by have:=Tm.size_kids hx;omega) h') ?_;simp only[go_sem]
     (first|refine gC8 (fun h=>?_) (fun h=>?_)|refine gC9 (fun h=>?_) (fun h=>?_)|refine gD1 (fun h=>?_) (fun h=>?_))<;>simp only[go_sem,h,hp,hq]<;>(try simp only[h,Bool.true_and,Bool.false_and,Bool.and_true,Bool.and_false,Bool.or_true,Bool.true_or,Bool.or_false,Bool.false_or,Bool.not_true,Bool.not_false] at hk)
     ·refine sameList47_den _ _ _ _ _ (fun x y s' KV' Kp' hx h'=>ih x y s' KV' Kp' (by have:=Tm.size_rest hx;omega) h') ?_;simp only[go_sem];exact DK.st hk (by (repeat (first|exact St.ge.refl _|refine St.ge_set (by simp only[hp,hq]) ?_)))
     ·exact DK.st hk (by (repeat (first|exact St.ge.refl _|refine St.ge_set (by simp only[hp,hq]) ?_)))
    ·exact DK.st hk (by (repeat (first|exact St.ge.refl _|refine St.ge_set (by simp only[hp,hq]) ?_)))
   ·exact DK.st hk (by (repeat (first|exact St.ge.refl _|refine St.ge_set (by simp only[hp,hq]) ?_)))
  ·exact DK.st hk (by (repeat (first|exact St.ge.refl _|refine St.ge_set (by simp only[hp,hq]) ?_)))
 ·exact DK.st hk (by (repeat (first|exact St.ge.refl _|refine St.ge_set (by simp only[hp,hq]) ?_)))
theorem same20_den (a b:Tm) (s:St) (KV Kp) (hk:KV s (.bool (a.same b))):Den cx 20 [a.enc,b.enc] KV Kp s :=
 same20_aux _ a b s KV Kp (Nat.lt_succ_self _) hk
theorem same20_den' (a b:Tm) (s:St) (KV Kp) (hk:KV s (.bool (a.same b))):Den cx 20 [.agg a.cs,.agg b.cs] KV Kp s:=by
 have:=same20_den a b s KV Kp hk
 rwa[Tm.enc_eq,Tm.enc_eq] at this
mutual
theorem Tm.same_self:∀ a:Tm,a.same a=true
 | .mk k n t s l r=>by simp[Tm.same,Tm.sames_self l,Tm.sames_self r]
theorem Tm.sames_self:∀ l:List Tm,Tm.sames l l=true
 | []=>rfl
 | a::l=>by simp[Tm.sames,Tm.same_self a,Tm.sames_self l]
end
end Go.AV
end
section
namespace Go.AV
open Go Go.Proofs
theorem same128_den (xs ys:List Str) (s:St) (KV Kp:St→A→Prop) (hk:KV s (.bool (listEq (fun a b=>decide (a=b)) xs ys))):Den cx 128 [.list none (xs.map .str),.list none (ys.map .str)] KV Kp s:=by
 refine Den.rlz fun hz1=>?_
 have hlw:=hz1 _ (List.mem_cons_self ..);refine Den.drop ?_;(refine Den.of_body (C:=cx) Tryz.func128 rfl rfl (gC6 rfl) ?_;refine wpC_ok (V:=[0,1,4,5,10,12,13,14,24]) _ _ _ _ ?_;simp only[go_sem,Tryz.ntmps128,Tryz.f128])
 (first|refine gC8 (fun h=>?_) (fun h=>?_)|refine gC9 (fun h=>?_) (fun h=>?_)|refine gD1 (fun h=>?_) (fun h=>?_))<;>simp only[go_sem,h]
 ·exact DK.here (by rwa[listEq_len (by intro e;simp[e] at h)] at hk)
 ·have hlen:xs.length=ys.length:=by simp at h;omega
  refine Ex.loop (fun i=>[(0,.list none (xs.map .str)),(1,.list none (ys.map .str)),(12,.int .i64 xs.length),(13,.int .i64 (i:Nat))]) (fun _=>s)
     (fun i=>i≤xs.length∧∀ (j:Nat) a b,j<i→xs[j]?=some a→ys[j]?=some b→decide (a=b)=true) (fun i=>xs.length-i) 0 ⟨Nat.zero_le _,fun j _ _ hj=>by omega⟩ ?_ (St.ge.refl s) ?_
  ·simp only[go_sem];exact rfl
  ·rintro i ⟨hi,hall⟩;refine wpC_ok (V:=[0,1,4,5,10,12,13,14,24]) _ _ _ _ ?_;simp only[go_sem]
   (first|refine gC8 (fun h=>?_) (fun h=>?_)|refine gC9 (fun h=>?_) (fun h=>?_)|refine gD1 (fun h=>?_) (fun h=>?_))<;>simp only[go_sem,h]
   ·have hix:i<xs.length:=by simpa using h
    have hiy:i<ys.length:=by omega
    obtain ⟨a,ha⟩:∃ a,xs[i]?=some a:=⟨_,List.getElem?_eq_getElem hix⟩
    obtain ⟨b,hb⟩:∃ b,ys[i]?=some b:=⟨_,List.getElem?_eq_getElem hiy⟩
    (refine draw_ok (V:=[0,1,4,5,10,12,13,14,24]) (OT.l [0,1,2,3,4,5,6,7,8] .nil) [] mixed_cx (by decide +kernel) ?_;simp only[go_sem,ha,hix,hb,hiy])
    (first|refine gC8 (fun h=>?_) (fun h=>?_)|refine gC9 (fun h=>?_) (fun h=>?_)|refine gD1 (fun h=>?_) (fun h=>?_))<;>simp only[go_sem,h]
    ·have hr:decide (a=b)=false:=by simpa using h
     refine DK.here ?_
     have:listEq (fun a b=>decide (a=b)) xs ys=false:=by
      rw[Bool.eq_false_iff];intro he;have:=(listEq_iff hlen).1 he i a b ha hb;rw[hr] at this;cases this
     rwa[this] at hk
    ·have hr:decide (a=b)=true:=by simpa using h
     refine ⟨i+1,⟨by omega,fun j x y hj hx hy=>?_⟩,by omega,?_,St.ge.refl _⟩
     ·by_cases hji:j=i
      ·subst hji;rw[ha] at hx;rw[hb] at hy;cases hx;cases hy;exact hr
      ·exact hall j x y (by omega) hx hy
     ·simp only[go_sem,hlw.wrap (i:=i) (by simpa using hix)]
   ·have hix:i=xs.length:=by simp at h;omega
    have:listEq (fun a b=>decide (a=b)) xs ys=true:=(listEq_iff hlen).2 fun j x y hx hy=>hall j x y (by rw[hix];exact (List.getElem?_eq_some_iff.1 hx).1) hx hy
    exact DK.here (by rwa[this] at hk)
end Go.AV
end
