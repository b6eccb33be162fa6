/-
  Part of the proof of DefSames.
-/
import Derived.Test.YtamikhobdffnfaaGreatDoorSa15
import Derived.Lib.Bytealg
import Derived.Test.YtamikhobdffnfaaGreatDoorSa10
set_option linter.all false
set_option maxRecDepth 1000000
set_option maxHeartbeats 40000000
section
namespace Go.AV
open Go Go.Proofs
def EqI {α:Type} (r:α→α→Bool) (xs ys:List α) (i:Nat):Prop:=i≤xs.length∧∀ (j:Nat) a b,j<i→xs[j]?=some a→ys[j]?=some b→r a b=true
section
variable {α:Type} {r:α→α→Bool} {xs ys:List α} {i:Nat} {a b:α}
theorem EqI.zero:EqI r xs ys 0:=⟨Nat.zero_le _,fun j _ _ h=>by omega⟩
theorem EqI.step (h:EqI r xs ys i) (ha:xs[i]?=some a) (hb:ys[i]?=some b) (hr:r a b=true):EqI r xs ys (i+1) :=
  ⟨(List.getElem?_eq_some_iff.1 ha).1,fun j x y hj hx hy => by
    by_cases hji:j=i
    · subst hji;rw[ha] at hx;rw[hb] at hy;cases hx;cases hy;exact hr
    · exact h.2 j x y (by omega) hx hy⟩
theorem EqI.no (hlen:xs.length=ys.length) (ha:xs[i]?=some a) (hb:ys[i]?=some b) (hr:r a b=false):listEq r xs ys=false:=by
 rw[Bool.eq_false_iff];intro he;have:=(listEq_iff hlen).1 he i a b ha hb;rw[hr] at this;cases this
theorem EqI.yes (hlen:xs.length=ys.length) (h:EqI r xs ys i) (hi:¬ i<xs.length):listEq r xs ys=true :=
 (listEq_iff hlen).2 fun j x y hx hy=>h.2 j x y (by have:=(List.getElem?_eq_some_iff.1 hx).1;omega) hx hy
theorem EqI.get (hlen:xs.length=ys.length) (hi:i<xs.length):∃ a b,xs[i]?=some a∧ys[i]?=some b∧i<ys.length :=
 ⟨_,_,List.getElem?_eq_getElem hi,List.getElem?_eq_getElem (by omega),by omega⟩
theorem wrapL {en:α→A} (h:Rlz (.list none (xs.map en))) (hi:i<xs.length):IntKind.i64.wrap ((i:Int)+1)=((i+1:Nat):Int):=h.wrap (i:=i) (by simpa using hi)
end
theorem sameOp207_den (a b:Opr) (s:St) (KV Kp:St→A→Prop) (hk:KV s (.bool (a.same b))):Den cx 207 [.agg a.cs,.agg b.cs] KV Kp s:=by
 unfold Opr.same at hk;refine Den.rlz fun hz1=>?_
 have hza:=hz1 _ (List.mem_cons_self ..);have hw1:Rlz (.list none (a.pieces.map Piece.enc)):=hza.cell (by simp[Opr.cs]);have hw2:Rlz (.list none (a.strict.map (.int .i64))):=hza.cell (by simp[Opr.cs]);simp only[go_sem];refine Den.drop ?_;(refine Den.of_body (C:=cx) Tryz.func207 rfl rfl (gC6 rfl) ?_;refine wpC_ok (V:=[0,1,2,3,4,5,6,58,61,62,63,75,79,80,81,93]) _ _ _ _ ?_;simp only[go_sem,Tryz.ntmps207,Tryz.f207]);(intro p hp;try simp only[gD6,ne_eq] at hp);simp only[go_sem,hp];(intro q hq;try simp only[gD6,ne_eq] at hq);simp only[go_sem,hp,hq]
 (first|refine gC8 (fun h=>?_) (fun h=>?_)|refine gC9 (fun h=>?_) (fun h=>?_)|refine gD1 (fun h=>?_) (fun h=>?_))<;>simp only[go_sem,h,hp,hq]<;>(try simp only[h,Bool.true_and,Bool.false_and,Bool.and_true,Bool.and_false,Bool.or_true,Bool.true_or,Bool.or_false,Bool.false_or,Bool.not_true,Bool.not_false] at hk)
 ·have h1:decide (a.name=b.name)=false:=by simpa using h
  rw[h1] at hk;exact DK.st hk (by (repeat (first|exact St.ge.refl _|refine St.ge_set (by simp only[hp,hq]) ?_)))
 have h1:decide (a.name=b.name)=true:=by simpa using h
 (first|refine gC8 (fun h=>?_) (fun h=>?_)|refine gC9 (fun h=>?_) (fun h=>?_)|refine gD1 (fun h=>?_) (fun h=>?_))<;>simp only[go_sem,h,hp,hq]<;>(try simp only[h,Bool.true_and,Bool.false_and,Bool.and_true,Bool.and_false,Bool.or_true,Bool.true_or,Bool.or_false,Bool.false_or,Bool.not_true,Bool.not_false] at hk)
 ·have h2:decide (a.sort=b.sort)=false:=by simpa using h
  rw[h1,h2] at hk;exact DK.st hk (by (repeat (first|exact St.ge.refl _|refine St.ge_set (by simp only[hp,hq]) ?_)))
 have h2:decide (a.sort=b.sort)=true:=by simpa using h
 (first|refine gC8 (fun h=>?_) (fun h=>?_)|refine gC9 (fun h=>?_) (fun h=>?_)|refine gD1 (fun h=>?_) (fun h=>?_))<;>simp only[go_sem,h,hp,hq]<;>(try simp only[h,Bool.true_and,Bool.false_and,Bool.and_true,Bool.and_false,Bool.or_true,Bool.true_or,Bool.or_false,Bool.false_or,Bool.not_true,Bool.not_false] at hk)
 ·have h3:decide (a.prec=b.prec)=false:=by simpa using h
  rw[h1,h2,h3] at hk;exact DK.st hk (by (repeat (first|exact St.ge.refl _|refine St.ge_set (by simp only[hp,hq]) ?_)))
 have h3:decide (a.prec=b.prec)=true:=by simpa using h
 (first|refine gC8 (fun h=>?_) (fun h=>?_)|refine gC9 (fun h=>?_) (fun h=>?_)|refine gD1 (fun h=>?_) (fun h=>?_))<;>simp only[go_sem,h,hp,hq]<;>(try simp only[h,Bool.true_and,Bool.false_and,Bool.and_true,Bool.and_false,Bool.or_true,Bool.true_or,Bool.or_false,Bool.false_or,Bool.not_true,Bool.not_false] at hk)
 ·have h4:decide (a.assoc=b.assoc)=false:=by simpa using h
  rw[h1,h2,h3,h4] at hk;exact DK.st hk (by (repeat (first|exact St.ge.refl _|refine St.ge_set (by simp only[hp,hq]) ?_)))
 have h4:decide (a.assoc=b.assoc)=true:=by simpa using h
 rw[h1,h2,h3,h4] at hk;simp only[Bool.true_and] at hk;refine same128_den a.args b.args _ _ _ ?_;simp only[go_sem,hp,hq]
 (first|refine gC8 (fun h=>?_) (fun h=>?_)|refine gC9 (fun h=>?_) (fun h=>?_)|refine gD1 (fun h=>?_) (fun h=>?_))<;>simp only[go_sem,h,hp,hq]<;>(try simp only[h,Bool.true_and,Bool.false_and,Bool.and_true,Bool.and_false,Bool.or_true,Bool.true_or,Bool.or_false,Bool.false_or,Bool.not_true,Bool.not_false] at hk)
 ·have h5:listEq (fun a b:Str=>decide (a=b)) a.args b.args=false:=by simpa using h
  rw[h5] at hk;exact DK.st hk (by (repeat (first|exact St.ge.refl _|refine St.ge_set (by simp only[hp,hq]) ?_)))
 have h5:listEq (fun a b:Str=>decide (a=b)) a.args b.args=true:=by simpa using h
 rw[h5] at hk;simp only[Bool.true_and] at hk
 (first|refine gC8 (fun h=>?_) (fun h=>?_)|refine gC9 (fun h=>?_) (fun h=>?_)|refine gD1 (fun h=>?_) (fun h=>?_))<;>simp only[go_sem,h,hp,hq]<;>(try simp only[h,Bool.true_and,Bool.false_and,Bool.and_true,Bool.and_false,Bool.or_true,Bool.true_or,Bool.or_false,Bool.false_or,Bool.not_true,Bool.not_false] at hk)
 ·rw[listEq_len (by intro e;simp[e] at h)] at hk;exact DK.st hk (by (repeat (first|exact St.ge.refl _|refine St.ge_set (by simp only[hp,hq]) ?_)))
 have h6:a.pieces.length=b.pieces.length:=by simp at h;omega
 (first|refine gC8 (fun h=>?_) (fun h=>?_)|refine gC9 (fun h=>?_) (fun h=>?_)|refine gD1 (fun h=>?_) (fun h=>?_))<;>simp only[go_sem,h,hp,hq]<;>(try simp only[h,Bool.true_and,Bool.false_and,Bool.and_true,Bool.and_false,Bool.or_true,Bool.true_or,Bool.or_false,Bool.false_or,Bool.not_true,Bool.not_false] at hk)
 ·rw[listEq_len (xs:=a.strict) (by intro e;simp[e] at h),Bool.and_false] at hk;exact DK.st hk (by (repeat (first|exact St.ge.refl _|refine St.ge_set (by simp only[hp,hq]) ?_)))
 have h7:a.strict.length=b.strict.length:=by simp at h;omega
 refine Ex.loop (ι:=Nat) (fun i=>[(2,.ptr p 0),(3,.ptr q 0),(61,.int .i64 a.pieces.length),(62,.int .i64 (i:Nat))]) (fun _=>(s.setO p (.cells 73 a.cs)).setO q (.cells 73 b.cs))
  (EqI (fun a b:Piece=>decide (a.text=b.text)&&decide (a.sort=b.sort)) a.pieces b.pieces) (fun i=>a.pieces.length-i) 0 EqI.zero ?_ (by exact St.ge.refl _) ?_
 ·(simp only[go_sem,hp,hq];try exact rfl)
 ·rintro i hI;have hile:=hI.1;refine wpC_ok (V:=[0,1,2,3,4,5,6,58,61,62,63,75,79,80,81,93]) _ _ _ _ ?_;simp only[go_sem,hp,hq]
  (first|refine gC8 (fun h=>?_) (fun h=>?_)|refine gC9 (fun h=>?_) (fun h=>?_)|refine gD1 (fun h=>?_) (fun h=>?_))<;>simp only[go_sem,h,hp,hq]
  ·have hix:i<a.pieces.length:=by simpa using h
   obtain ⟨x,y,hx,hy,hiy⟩:=EqI.get h6 hix;(refine draw_ok (V:=[0,1,2,3,4,5,6,58,61,62,63,75,79,80,81,93]) (OT.l [0,1,2,3,4,5,6,7,8,9,10] .nil) [] mixed_cx (by decide +kernel) ?_;simp only[go_sem,hp,hq,hx,hix,hy,hiy])
   (first|refine gC8 (fun h=>?_) (fun h=>?_)|refine gC9 (fun h=>?_) (fun h=>?_)|refine gD1 (fun h=>?_) (fun h=>?_))<;>simp only[go_sem,h,hp,hq]
   ·have hr:(decide (x.text=y.text)&&decide (x.sort=y.sort))=false:=by simpa only[Bool.not_eq_true',Bool.and_true] using h
    rw[EqI.no h6 hx hy hr,Bool.false_and] at hk;exact DK.st hk (by (repeat (first|exact St.ge.refl _|refine St.ge_set (by simp only[hp,hq]) ?_)))
   ·have hr:(decide (x.text=y.text)&&decide (x.sort=y.sort))=true:=by simpa only[Bool.not_eq_false',Bool.and_true] using h
    exact ⟨i+1,hI.step hx hy hr,by omega,by simp only[go_sem,wrapL hw1 hix],by exact St.ge.refl _⟩
  ·rw[EqI.yes h6 hI (by simpa using h),Bool.true_and] at hk
   refine Ex.loop (ι:=Nat) (fun i=>[(2,.ptr p 0),(3,.ptr q 0),(79,.int .i64 a.strict.length),(80,.int .i64 (i:Nat))]) (fun _=>(s.setO p (.cells 73 a.cs)).setO q (.cells 73 b.cs))
    (EqI (fun a b:Int=>decide (a=b)) a.strict b.strict) (fun i=>a.strict.length-i) 0 EqI.zero ?_ (by exact St.ge.refl _) ?_
   ·(simp only[go_sem,hp,hq];try exact rfl)
   ·clear h hI hile;rintro i hI;have hile:=hI.1;refine wpC_ok (V:=[0,1,2,3,4,5,6,58,61,62,63,75,79,80,81,93]) _ _ _ _ ?_;simp only[go_sem,hp,hq]
    (first|refine gC8 (fun h=>?_) (fun h=>?_)|refine gC9 (fun h=>?_) (fun h=>?_)|refine gD1 (fun h=>?_) (fun h=>?_))<;>simp only[go_sem,h,hp,hq]
    ·have hix:i<a.strict.length:=by simpa using h
     obtain ⟨x,y,hx,hy,hiy⟩:=EqI.get h7 hix;(refine draw_ok (V:=[0,1,2,3,4,5,6,58,61,62,63,75,79,80,81,93]) (OT.l [0,1,2,3,4,5,6,7,8,9,10] .nil) [] mixed_cx (by decide +kernel) ?_;simp only[go_sem,hp,hq,hx,hix,hy,hiy])
     (first|refine gC8 (fun h=>?_) (fun h=>?_)|refine gC9 (fun h=>?_) (fun h=>?_)|refine gD1 (fun h=>?_) (fun h=>?_))<;>simp only[go_sem,h,hp,hq]
     ·have hr:decide (x=y)=false:=by simpa using h
      rw[EqI.no h7 hx hy hr] at hk;exact DK.st hk (by (repeat (first|exact St.ge.refl _|refine St.ge_set (by simp only[hp,hq]) ?_)))
     ·have hr:decide (x=y)=true:=by simpa using h
      exact ⟨i+1,hI.step hx hy hr,by omega,by simp only[go_sem,wrapL hw2 hix],by exact St.ge.refl _⟩
    ·rw[EqI.yes h7 hI (by simpa using h)] at hk;exact DK.st hk (by (repeat (first|exact St.ge.refl _|refine St.ge_set (by simp only[hp,hq]) ?_)))
end Go.AV
end
section
namespace Go.AV
open Go Go.Proofs
theorem sl47_den (xs ys:List Tm) (s:St) (KV Kp:St→A→Prop) (hk:KV s (.bool (listEq Tm.same xs ys))):Den cx 47 [.list none (xs.map Tm.enc),.list none (ys.map Tm.enc)] KV Kp s :=
 sameList47_den xs ys s KV Kp (fun a b s' KV Kp _ h=>same20_den a b s' KV Kp h) hk
theorem sameOps129_den (xs ys:List Opr) (s:St) (KV Kp:St→A→Prop) (hk:KV s (.bool (listEq Opr.same xs ys))):Den cx 129 [.list none (xs.map Opr.enc),.list none (ys.map Opr.enc)] KV Kp s:=by
 refine Den.rlz fun hz1=>?_
 have hw1:=hz1 _ (List.mem_cons_self ..);refine Den.drop ?_;(refine Den.of_body (C:=cx) Tryz.func129 rfl rfl (gC6 rfl) ?_;refine wpC_ok (V:=[0,1,4,5,10,12,13,14,25]) _ _ _ _ ?_;simp only[go_sem,Tryz.ntmps129,Tryz.f129])
 (first|refine gC8 (fun h=>?_) (fun h=>?_)|refine gC9 (fun h=>?_) (fun h=>?_)|refine gD1 (fun h=>?_) (fun h=>?_))<;>simp only[go_sem,h]
 ·exact DK.here (by rwa[listEq_len (by intro e;simp[e] at h)] at hk)
 have hlen:xs.length=ys.length:=by simp at h;omega
 refine Ex.loop (ι:=Nat) (fun i=>[(0,.list none (xs.map Opr.enc)),(1,.list none (ys.map Opr.enc)),(12,.int .i64 xs.length),(13,.int .i64 (i:Nat))]) (fun _=>s)
  (EqI Opr.same xs ys) (fun i=>xs.length-i) 0 EqI.zero ?_ (St.ge.refl s) ?_
 ·(simp only[go_sem];try exact rfl)
 ·rintro i hI;have hile:=hI.1;refine wpC_ok (V:=[0,1,4,5,10,12,13,14,25]) _ _ _ _ ?_;simp only[go_sem]
  (first|refine gC8 (fun h=>?_) (fun h=>?_)|refine gC9 (fun h=>?_) (fun h=>?_)|refine gD1 (fun h=>?_) (fun h=>?_))<;>simp only[go_sem,h]
  ·have hix:i<xs.length:=by simpa using h
   obtain ⟨x,y,hx,hy,hiy⟩:=EqI.get hlen hix;(refine draw_ok (V:=[0,1,4,5,10,12,13,14,25]) (OT.l [0,1,2,3,4,5,6,7,8,9] .nil) [] mixed_cx (by decide +kernel) ?_;simp only[go_sem,hx,hix,hy,hiy]);refine sameOp207_den x y _ _ _ ?_;simp only[go_sem]
   (first|refine gC8 (fun h=>?_) (fun h=>?_)|refine gC9 (fun h=>?_) (fun h=>?_)|refine gD1 (fun h=>?_) (fun h=>?_))<;>simp only[go_sem,h]
   ·exact DK.here (by rwa[EqI.no hlen hx hy (by simpa using h)] at hk)
   ·exact ⟨i+1,hI.step hx hy (by simpa using h),by omega,by simp only[go_sem,wrapL hw1 hix],St.ge.refl _⟩
  ·exact DK.here (by rwa[EqI.yes hlen hI (by simpa using h)] at hk)
theorem same65_den (a b:Sig) (s:St) (KV Kp:St→A→Prop) (hk:KV s (.bool (a.same b))):Den cx 65 [.agg a.cs,.agg b.cs] KV Kp s:=by
 refine Den.rlz fun hz1=>?_
 have hza:=hz1 _ (List.mem_cons_self ..);have hw1:Rlz (.list none (a.below.map Below.enc)):=hza.cell (by simp[Sig.cs]);simp only[go_sem];refine Den.drop ?_;(refine Den.of_body (C:=cx) Tryz.func65 rfl rfl (gC6 rfl) ?_;refine wpC_ok (V:=[0,1,2,3,4,5,44,47,48,49,61]) _ _ _ _ ?_;simp only[go_sem,Tryz.ntmps65,Tryz.f65]);(intro p hp;try simp only[gD6,ne_eq] at hp);simp only[go_sem,hp];(intro q hq;try simp only[gD6,ne_eq] at hq);simp only[go_sem,hp,hq];refine same128_den a.sorts b.sorts _ _ _ ?_;simp only[go_sem,hp,hq]
 (first|refine gC8 (fun h=>?_) (fun h=>?_)|refine gC9 (fun h=>?_) (fun h=>?_)|refine gD1 (fun h=>?_) (fun h=>?_))<;>simp only[go_sem,h,hp,hq]
 ·rw[show a.same b=false by simp only[Bool.not_eq_true',Bool.not_eq_false'] at h;simp only[Sig.same,h,Bool.false_and]] at hk;exact DK.st hk (by (repeat (first|exact St.ge.refl _|refine St.ge_set (by simp only[hp,hq]) ?_)))
 have h1:listEq (fun a b:Str=>decide (a=b)) a.sorts b.sorts=true:=by simpa using h
 refine same128_den a.values b.values _ _ _ ?_;simp only[go_sem,hp,hq]
 (first|refine gC8 (fun h=>?_) (fun h=>?_)|refine gC9 (fun h=>?_) (fun h=>?_)|refine gD1 (fun h=>?_) (fun h=>?_))<;>simp only[go_sem,h,hp,hq]
 ·rw[show a.same b=false by simp only[Bool.not_eq_true',Bool.not_eq_false'] at h;simp only[Sig.same,h,Bool.false_and,Bool.and_false]] at hk;exact DK.st hk (by (repeat (first|exact St.ge.refl _|refine St.ge_set (by simp only[hp,hq]) ?_)))
 have h2:listEq (fun a b:Str=>decide (a=b)) a.values b.values=true:=by simpa using h
 (first|refine gC8 (fun h=>?_) (fun h=>?_)|refine gC9 (fun h=>?_) (fun h=>?_)|refine gD1 (fun h=>?_) (fun h=>?_))<;>simp only[go_sem,h,hp,hq]
 ·rw[show a.same b=false by simp only[Sig.same,listEq_len (xs:=a.below) (ys:=b.below) (by intro e;simp[e] at h),Bool.false_and,Bool.and_false]] at hk;exact DK.st hk (by (repeat (first|exact St.ge.refl _|refine St.ge_set (by simp only[hp,hq]) ?_)))
 have h3:a.below.length=b.below.length:=by simp at h;omega
 refine sameOps129_den a.ops b.ops _ _ _ ?_;simp only[go_sem,hp,hq]
 (first|refine gC8 (fun h=>?_) (fun h=>?_)|refine gC9 (fun h=>?_) (fun h=>?_)|refine gD1 (fun h=>?_) (fun h=>?_))<;>simp only[go_sem,h,hp,hq]
 ·rw[show a.same b=false by simp only[Bool.not_eq_true',Bool.not_eq_false'] at h;simp only[Sig.same,h,Bool.false_and,Bool.and_false]] at hk;exact DK.st hk (by (repeat (first|exact St.ge.refl _|refine St.ge_set (by simp only[hp,hq]) ?_)))
 have h4:listEq Opr.same a.ops b.ops=true:=by simpa using h
 refine sameOps129_den a.funs b.funs _ _ _ ?_;simp only[go_sem,hp,hq]
 (first|refine gC8 (fun h=>?_) (fun h=>?_)|refine gC9 (fun h=>?_) (fun h=>?_)|refine gD1 (fun h=>?_) (fun h=>?_))<;>simp only[go_sem,h,hp,hq]
 ·rw[show a.same b=false by simp only[Bool.not_eq_true',Bool.not_eq_false'] at h;simp only[Sig.same,h,Bool.false_and,Bool.and_false]] at hk;exact DK.st hk (by (repeat (first|exact St.ge.refl _|refine St.ge_set (by simp only[hp,hq]) ?_)))
 have h5:listEq Opr.same a.funs b.funs=true:=by simpa using h
 simp only[Sig.same,h1,h2,h4,h5,Bool.true_and,Bool.and_true] at hk
 refine Ex.loop (ι:=Nat) (fun i=>[(2,.ptr p 0),(3,.ptr q 0),(47,.int .i64 a.below.length),(48,.int .i64 (i:Nat))]) (fun _=>(s.setO p (.cells 28 a.cs)).setO q (.cells 28 b.cs))
  (EqI (fun a b:Below=>decide (a.low=b.low)&&decide (a.high=b.high)) a.below b.below) (fun i=>a.below.length-i) 0 EqI.zero ?_ (by exact St.ge.refl _) ?_
 ·(simp only[go_sem,hp,hq];try exact rfl)
 ·clear h;rintro i hI;have hile:=hI.1;refine wpC_ok (V:=[0,1,2,3,4,5,44,47,48,49,61]) _ _ _ _ ?_;simp only[go_sem,hp,hq]
  (first|refine gC8 (fun h=>?_) (fun h=>?_)|refine gC9 (fun h=>?_) (fun h=>?_)|refine gD1 (fun h=>?_) (fun h=>?_))<;>simp only[go_sem,h,hp,hq]
  ·have hix:i<a.below.length:=by simpa using h
   obtain ⟨x,y,hx,hy,hiy⟩:=EqI.get h3 hix;(refine draw_ok (V:=[0,1,2,3,4,5,44,47,48,49,61]) (OT.l [0,1,2,3,4,5,6,7,8,9,10] .nil) [] mixed_cx (by decide +kernel) ?_;simp only[go_sem,hp,hq,hx,hix,hy,hiy])
   (first|refine gC8 (fun h=>?_) (fun h=>?_)|refine gC9 (fun h=>?_) (fun h=>?_)|refine gD1 (fun h=>?_) (fun h=>?_))<;>simp only[go_sem,h,hp,hq]
   ·have hr:(decide (x.low=y.low)&&decide (x.high=y.high))=false:=by simpa only[Bool.not_eq_true',Bool.and_true] using h
    rw[EqI.no h3 hx hy hr] at hk;exact DK.st hk (by (repeat (first|exact St.ge.refl _|refine St.ge_set (by simp only[hp,hq]) ?_)))
   ·have hr:(decide (x.low=y.low)&&decide (x.high=y.high))=true:=by simpa only[Bool.not_eq_false',Bool.and_true] using h
    exact ⟨i+1,hI.step hx hy hr,by omega,by simp only[go_sem,wrapL hw1 hix],by exact St.ge.refl _⟩
  ·rw[EqI.yes h3 hI (by simpa using h)] at hk;exact DK.st hk (by (repeat (first|exact St.ge.refl _|refine St.ge_set (by simp only[hp,hq]) ?_)))
theorem sameCells66_den (xs ys:List Cel) (s:St) (KV Kp:St→A→Prop) (hk:KV s (.bool (listEq Cel.same xs ys))):Den cx 66 [.list none (xs.map Cel.enc),.list none (ys.map Cel.enc)] KV Kp s:=by
  refine Den.rlz fun hz1=>?_
  have hw1:=hz1 _ (List.mem_cons_self ..);refine Den.drop ?_;(refine Den.of_body (C:=cx) Tryz.func66 rfl rfl (gC6 rfl) ?_;refine wpC_ok (V:=[0,1,4,5,10,12,13,14,53]) _ _ _ _ ?_;simp only[go_sem,Tryz.ntmps66,Tryz.f66])
  (first|refine gC8 (fun h=>?_) (fun h=>?_)|refine gC9 (fun h=>?_) (fun h=>?_)|refine gD1 (fun h=>?_) (fun h=>?_))<;>simp only[go_sem,h]
  · exact DK.here (by rwa[listEq_len (by intro e;simp[e] at h)] at hk)
  have hlen:xs.length=ys.length:=by simp at h;omega
  refine Ex.loop (ι:=Nat) (fun i=>[(0,.list none (xs.map Cel.enc)),(1,.list none (ys.map Cel.enc)),(12,.int .i64 xs.length),(13,.int .i64 (i:Nat))]) (fun _=>s)
    (EqI Cel.same xs ys) (fun i=>xs.length-i) 0 EqI.zero ?_ (St.ge.refl s) ?_
  · (simp only[go_sem];try exact rfl)
  · clear h
    rintro i hI;have hile:=hI.1;refine wpC_ok (V:=[0,1,4,5,10,12,13,14,53]) _ _ _ _ ?_;simp only[go_sem]
    (first|refine gC8 (fun h=>?_) (fun h=>?_)|refine gC9 (fun h=>?_) (fun h=>?_)|refine gD1 (fun h=>?_) (fun h=>?_))<;>simp only[go_sem,h]
    · have hix:i<xs.length:=by simpa using h
      obtain ⟨x,y,hx,hy,hiy⟩:=EqI.get hlen hix;have hno:x.same y=false→KV s (.bool false):=fun hr=>by rwa[EqI.no hlen hx hy hr] at hk
      (refine draw_ok (V:=[0,1,4,5,10,12,13,14,53]) (OT.l [0,1,2,3,4,5,6,7,8,9,10,11,12,13,14,15,16,17,18,19,20,21,22,23,24,25,26,27,28,29,30,31,32,33,34,35,36,37] .nil) [] mixed_cx (by decide +kernel) ?_;simp only[go_sem,hx,hix,hy,hiy])
      (first|refine gC8 (fun h=>?_) (fun h=>?_)|refine gC9 (fun h=>?_) (fun h=>?_)|refine gD1 (fun h=>?_) (fun h=>?_))<;>simp only[go_sem,h,hx,hix,hy,hiy]
      · exact DK.here (hno (by have h1 : decide (x.name = y.name) = false := by simpa using h
                               simp only[Cel.same,h1,Bool.false_and]))
      have h1:decide (x.name=y.name)=true:=by simpa using h
      (first|refine gC8 (fun h=>?_) (fun h=>?_)|refine gC9 (fun h=>?_) (fun h=>?_)|refine gD1 (fun h=>?_) (fun h=>?_))<;>simp only[go_sem,h,hx,hix,hy,hiy]
      · exact DK.here (hno (by have h2 : decide (x.sort = y.sort) = false := by simpa using h
                               simp only[Cel.same,h2,Bool.false_and,Bool.and_false]))
      have h2:decide (x.sort=y.sort)=true:=by simpa using h
      refine same20_den' x.init y.init _ _ _ ?_;simp only[go_sem]
      (first|refine gC8 (fun h=>?_) (fun h=>?_)|refine gC9 (fun h=>?_) (fun h=>?_)|refine gD1 (fun h=>?_) (fun h=>?_))<;>simp only[go_sem,h]
      · exact DK.here (hno (by have h3 : x.init.same y.init = false := by simpa using h
                               simp only[Cel.same,h3,Bool.and_false]))
      have h3:x.init.same y.init=true:=by simpa using h
      exact ⟨i+1,hI.step hx hy (by simp only[Cel.same,h1,h2,h3,Bool.and_self]),by omega,by simp only[go_sem,wrapL hw1 hix],St.ge.refl _⟩
    · exact DK.here (by rwa[EqI.yes hlen hI (by simpa using h)] at hk)
end Go.AV
end
section
namespace Go.AV
open Go Go.Proofs
theorem sameRule67_den (a b:Rul) (s:St) (KV Kp:St→A→Prop) (hk:KV s (.bool (a.same b))):Den cx 67 [.agg a.cs,.agg b.cs] KV Kp s:=by
  refine Den.rlz fun hz1=>?_
  have hza:=hz1 _ (List.mem_cons_self ..);have hw1:Rlz (.list none (a.parts.map Part.enc)):=hza.cell (by simp[Rul.cs]);have hw2:Rlz (.list none (a.new.map Fresh.enc)):=hza.cell (by simp[Rul.cs]);have hw3:Rlz (.list none (a.drop.map .str)):=hza.cell (by simp[Rul.cs]);clear hz1 hza;simp only[go_sem];refine Den.drop ?_;(refine Den.of_body (C:=cx) Tryz.func67 rfl rfl (gC6 rfl) ?_;refine wpC_ok (V:=[0,1,2,3,4,5,6,7,8,9,49,51,52,53,54,90,94,95,96,111,115,116,117,129]) _ _ _ _ ?_;simp only[go_sem,Tryz.ntmps67,Tryz.f67]);(intro p hp;try simp only[gD6,ne_eq] at hp);simp only[go_sem,hp];(intro q hq;try simp only[gD6,ne_eq] at hq);simp only[go_sem,hp,hq]
  (first|refine gC8 (fun h=>?_) (fun h=>?_)|refine gC9 (fun h=>?_) (fun h=>?_)|refine gD1 (fun h=>?_) (fun h=>?_))<;>simp only[go_sem,h,hp,hq]
  · have h1:decide (a.name=b.name)=false:=by simpa using h
    rw[show a.same b=false by simp only[Rul.same,h1,Bool.false_and]] at hk;exact DK.st hk (by (repeat (first|exact St.ge.refl _|refine St.ge_set (by simp only[hp,hq]) ?_)))
  have h1:decide (a.name=b.name)=true:=by simpa using h
  (first|refine gC8 (fun h=>?_) (fun h=>?_)|refine gC9 (fun h=>?_) (fun h=>?_)|refine gD1 (fun h=>?_) (fun h=>?_))<;>simp only[go_sem,h,hp,hq]
  · rw[show a.same b=false by simp only[Rul.same,listEq_len (xs:=a.parts) (ys:=b.parts) (by intro e;simp[e] at h),Bool.false_and,Bool.and_false]] at hk
    exact DK.st hk (by (repeat (first|exact St.ge.refl _|refine St.ge_set (by simp only[hp,hq]) ?_)))
  have h2:a.parts.length=b.parts.length:=by simp at h;omega
  refine sl47_den a.cond b.cond _ _ _ ?_;simp only[go_sem,hp,hq]
  (first|refine gC8 (fun h=>?_) (fun h=>?_)|refine gC9 (fun h=>?_) (fun h=>?_)|refine gD1 (fun h=>?_) (fun h=>?_))<;>simp only[go_sem,h,hp,hq]
  · have h3:listEq Tm.same a.cond b.cond=false:=by simpa using h
    rw[show a.same b=false by simp only[Rul.same,h3,Bool.false_and,Bool.and_false]] at hk;exact DK.st hk (by (repeat (first|exact St.ge.refl _|refine St.ge_set (by simp only[hp,hq]) ?_)))
  have h3:listEq Tm.same a.cond b.cond=true:=by simpa using h
  (first|refine gC8 (fun h=>?_) (fun h=>?_)|refine gC9 (fun h=>?_) (fun h=>?_)|refine gD1 (fun h=>?_) (fun h=>?_))<;>simp only[go_sem,h,hp,hq]
  · rw[show a.same b=false by simp only[Rul.same,listEq_len (xs:=a.new) (ys:=b.new) (by intro e;simp[e] at h),Bool.false_and,Bool.and_false]] at hk
    exact DK.st hk (by (repeat (first|exact St.ge.refl _|refine St.ge_set (by simp only[hp,hq]) ?_)))
  have h4:a.new.length=b.new.length:=by simp at h;omega
  (first|refine gC8 (fun h=>?_) (fun h=>?_)|refine gC9 (fun h=>?_) (fun h=>?_)|refine gD1 (fun h=>?_) (fun h=>?_))<;>simp only[go_sem,h,hp,hq]
  · rw[show a.same b=false by simp only[Rul.same,listEq_len (xs:=a.drop) (ys:=b.drop) (by intro e;simp[e] at h),Bool.and_false]] at hk
    exact DK.st hk (by (repeat (first|exact St.ge.refl _|refine St.ge_set (by simp only[hp,hq]) ?_)))
  have h5:a.drop.length=b.drop.length:=by simp at h;omega
  simp only[Rul.same,h1,h3,Bool.true_and] at hk
  refine Ex.loop (ι:=Nat) (fun i=>[(2,.ptr p 0),(3,.ptr q 0),(51,.list none (a.parts.map Part.enc)),(52,.int .i64 a.parts.length),(53,.int .i64 (i:Nat))]) (fun _=>(s.setO p (.cells 84 a.cs)).setO q (.cells 84 b.cs))
    (EqI Part.same a.parts b.parts) (fun i=>a.parts.length-i) 0 EqI.zero ?_ (by exact St.ge.refl _) ?_
  · (simp only[go_sem,hp,hq];try exact rfl)
  · clear h
    rintro i hI;have hile:=hI.1;refine wpC_ok (V:=[0,1,2,3,4,5,6,7,8,9,49,51,52,53,54,90,94,95,96,111,115,116,117,129]) _ _ _ _ ?_;simp only[go_sem,hp,hq]
    (first|refine gC8 (fun h=>?_) (fun h=>?_)|refine gC9 (fun h=>?_) (fun h=>?_)|refine gD1 (fun h=>?_) (fun h=>?_))<;>simp only[go_sem,h,hp,hq]
    · have hix:i<a.parts.length:=by simpa using h
      obtain ⟨x,y,hx,hy,hiy⟩:=EqI.get h2 hix;have hno:x.same y=false→KV s (.bool false):=fun hr=>by rwa[EqI.no h2 hx hy hr,Bool.false_and] at hk
      simp only[go_sem,hp,hq,hx,hix];(intro b6 hb6;try simp only[gD6,ne_eq] at hb6);simp only[go_sem,hp,hq,hx,hix,hy,hiy,hb6];(intro b7 hb7;try simp only[gD6,ne_eq] at hb7);simp only[go_sem,hp,hq,hx,hix,hy,hiy,hb6,hb7];clear h
      (first|refine gC8 (fun h=>?_) (fun h=>?_)|refine gC9 (fun h=>?_) (fun h=>?_)|refine gD1 (fun h=>?_) (fun h=>?_))<;>simp only[go_sem,h,hp,hq,hb6,hb7]
      · exact DK.st (hno (by have h6 : decide (x.cell = y.cell) = false := by simpa using h
                             simp only[Part.same,h6,Bool.false_and])) (by (repeat (first|exact St.ge.refl _|refine St.ge_set (by simp only[hp,hq,hb6,hb7]) ?_)))
      have h6:decide (x.cell=y.cell)=true:=by simpa using h
      (first|refine gC8 (fun h=>?_) (fun h=>?_)|refine gC9 (fun h=>?_) (fun h=>?_)|refine gD1 (fun h=>?_) (fun h=>?_))<;>simp only[go_sem,h,hp,hq,hb6,hb7]
      · exact DK.st (hno (by have h7 : decide (x.at_ = y.at_) = false := by simpa using h
                             simp only[Part.same,h7,Bool.false_and,Bool.and_false])) (by (repeat (first|exact St.ge.refl _|refine St.ge_set (by simp only[hp,hq,hb6,hb7]) ?_)))
      have h7:decide (x.at_=y.at_)=true:=by simpa using h
      refine same20_den' x.left y.left _ _ _ ?_;simp only[go_sem,hp,hq,hb6,hb7]
      (first|refine gC8 (fun h=>?_) (fun h=>?_)|refine gC9 (fun h=>?_) (fun h=>?_)|refine gD1 (fun h=>?_) (fun h=>?_))<;>simp only[go_sem,h,hp,hq,hb6,hb7]
      · exact DK.st (hno (by have h8 : x.left.same y.left = false := by simpa using h
                             simp only[Part.same,h8,Bool.false_and,Bool.and_false])) (by (repeat (first|exact St.ge.refl _|refine St.ge_set (by simp only[hp,hq,hb6,hb7]) ?_)))
      have h8:x.left.same y.left=true:=by simpa using h
      refine sl47_den x.right y.right _ _ _ ?_;simp only[go_sem,hp,hq,hb6,hb7]
      (first|refine gC8 (fun h=>?_) (fun h=>?_)|refine gC9 (fun h=>?_) (fun h=>?_)|refine gD1 (fun h=>?_) (fun h=>?_))<;>simp only[go_sem,h,hp,hq,hb6,hb7]
      · exact DK.st (hno (by have h9 : listEq Tm.same x.right y.right = false := by simpa using h
                             simp only[Part.same,h9,Bool.false_and,Bool.and_false])) (by (repeat (first|exact St.ge.refl _|refine St.ge_set (by simp only[hp,hq,hb6,hb7]) ?_)))
      have h9:listEq Tm.same x.right y.right=true:=by simpa using h
      exact ⟨i+1,hI.step hx hy (by simp only[Part.same,h6,h7,h8,h9,Bool.and_self]),by omega,by simp only[go_sem,wrapL hw1 hix],(by (repeat (first|(refine St.ge_set ?_ ?_;focus (simp only[gD6,ne_eq,gA9,and_self,hp,hq,hb6,hb7]<;>done))|exact St.ge.refl _)))⟩
    · rw [EqI.yes h2 hI (by simpa using h),Bool.true_and] at hk
      clear hI hile h
      refine Ex.loop (ι:=Nat) (fun i=>[(2,.ptr p 0),(3,.ptr q 0),(94,.int .i64 a.new.length),(95,.int .i64 (i:Nat))]) (fun _=>(s.setO p (.cells 84 a.cs)).setO q (.cells 84 b.cs))
        (EqI Fresh.same a.new b.new) (fun i=>a.new.length-i) 0 EqI.zero ?_ (by exact St.ge.refl _) ?_
      · (simp only[go_sem,hp,hq];try exact rfl)
      · rintro i hI
        have hile:=hI.1;refine wpC_ok (V:=[0,1,2,3,4,5,6,7,8,9,49,51,52,53,54,90,94,95,96,111,115,116,117,129]) _ _ _ _ ?_;simp only[go_sem,hp,hq]
        (first|refine gC8 (fun h=>?_) (fun h=>?_)|refine gC9 (fun h=>?_) (fun h=>?_)|refine gD1 (fun h=>?_) (fun h=>?_))<;>simp only[go_sem,h,hp,hq]
        · have hix:i<a.new.length:=by simpa using h
          obtain ⟨x,y,hx,hy,hiy⟩:=EqI.get h4 hix;(refine draw_ok (V:=[0,1,2,3,4,5,6,7,8,9,49,51,52,53,54,90,94,95,96,111,115,116,117,129]) (OT.l [0,1,2,3,4,5,6,7,8,9,10,11,12,13] .nil) [] mixed_cx (by decide +kernel) ?_;simp only[go_sem,hp,hq,hx,hix,hy,hiy]);refine sl47_den x.cells y.cells _ _ _ ?_;simp only[go_sem,hp,hq]
          (first|refine gC8 (fun h=>?_) (fun h=>?_)|refine gC9 (fun h=>?_) (fun h=>?_)|refine gD1 (fun h=>?_) (fun h=>?_))<;>simp only[go_sem,h,hp,hq]
          · have hr:x.same y=false:=by simpa [Fresh.same] using h
            rw[EqI.no h4 hx hy hr,Bool.false_and] at hk;exact DK.st hk (by (repeat (first|exact St.ge.refl _|refine St.ge_set (by simp only[hp,hq]) ?_)))
          · have hr:x.same y=true:=by simpa [Fresh.same] using h
            exact ⟨i+1,hI.step hx hy hr,by omega,by simp only[go_sem,wrapL hw2 hix],by exact St.ge.refl _⟩
        · rw [EqI.yes h4 hI (by simpa using h),Bool.true_and] at hk
          clear hI hile h
          refine Ex.loop (ι:=Nat) (fun i=>[(2,.ptr p 0),(3,.ptr q 0),(115,.int .i64 a.drop.length),(116,.int .i64 (i:Nat))]) (fun _=>(s.setO p (.cells 84 a.cs)).setO q (.cells 84 b.cs))
            (EqI (fun a b:Str=>decide (a=b)) a.drop b.drop) (fun i=>a.drop.length-i) 0 EqI.zero ?_ (by exact St.ge.refl _) ?_
          · (simp only[go_sem,hp,hq];try exact rfl)
          · rintro i hI
            have hile:=hI.1;refine wpC_ok (V:=[0,1,2,3,4,5,6,7,8,9,49,51,52,53,54,90,94,95,96,111,115,116,117,129]) _ _ _ _ ?_;simp only[go_sem,hp,hq]
            (first|refine gC8 (fun h=>?_) (fun h=>?_)|refine gC9 (fun h=>?_) (fun h=>?_)|refine gD1 (fun h=>?_) (fun h=>?_))<;>simp only[go_sem,h,hp,hq]
            · have hix:i<a.drop.length:=by simpa using h
              obtain ⟨x,y,hx,hy,hiy⟩:=EqI.get h5 hix;(refine draw_ok (V:=[0,1,2,3,4,5,6,7,8,9,49,51,52,53,54,90,94,95,96,111,115,116,117,129]) (OT.l [0,1,2,3,4,5,6,7,8,9,10] .nil) [] mixed_cx (by decide +kernel) ?_;simp only[go_sem,hp,hq,hx,hix,hy,hiy])
              (first|refine gC8 (fun h=>?_) (fun h=>?_)|refine gC9 (fun h=>?_) (fun h=>?_)|refine gD1 (fun h=>?_) (fun h=>?_))<;>simp only[go_sem,h,hp,hq]
              · have hr:decide (x=y)=false:=by simpa using h
                rw[EqI.no h5 hx hy hr] at hk;exact DK.st hk (by (repeat (first|exact St.ge.refl _|refine St.ge_set (by simp only[hp,hq]) ?_)))
              · have hr:decide (x=y)=true:=by simpa using h
                exact ⟨i+1,hI.step hx hy hr,by omega,by simp only[go_sem,wrapL hw3 hix],by exact St.ge.refl _⟩
            · rw[EqI.yes h5 hI (by simpa using h)] at hk
              exact DK.st hk (by (repeat (first|exact St.ge.refl _|refine St.ge_set (by simp only[hp,hq]) ?_)))
end Go.AV
end
section
namespace Go.AV
open Go Go.Proofs
theorem same29_den (a b:Dfn) (s:St) (KV Kp:St→A→Prop) (hk:KV s (.bool (a.same b))):Den cx 29 [.agg a.cs,.agg b.cs] KV Kp s:=by
  refine Den.rlz fun hz1=>?_
  have hza:=hz1 _ (List.mem_cons_self ..);have hw1:Rlz (.list none (a.eqs.map Eqn.enc)):=hza.cell (by simp[Dfn.cs]);have hw2:Rlz (.list none (a.rules.map Rul.enc)):=hza.cell (by simp[Dfn.cs]);clear hz1 hza;simp only[go_sem];refine Den.drop ?_;(refine Den.of_body (C:=cx) Tryz.func29 rfl rfl (gC6 rfl) ?_;refine wpC_ok (V:=[0,1,2,3,4,5,6,7,75,77,78,79,80,117,121,122,123,136]) _ _ _ _ ?_;simp only[go_sem,Tryz.ntmps29,Tryz.f29]);(intro p hp;try simp only[gD6,ne_eq] at hp);simp only[go_sem,hp];(intro q hq;try simp only[gD6,ne_eq] at hq);simp only[go_sem,hp,hq];simp only[List.append_eq,gD2,gD3];simp only[go_sem,hp,hq]
  (first|refine gC8 (fun h=>?_) (fun h=>?_)|refine gC9 (fun h=>?_) (fun h=>?_)|refine gD1 (fun h=>?_) (fun h=>?_))<;>simp only[go_sem,h,hp,hq]
  · have h1:decide (a.name=b.name)=false:=by simpa using h
    rw[show a.same b=false by simp only[Dfn.same,h1,Bool.false_and]] at hk;exact DK.st hk (by (repeat (first|exact St.ge.refl _|refine St.ge_set (by simp only[hp,hq]) ?_)))
  have h1:decide (a.name=b.name)=true:=by simpa using h
  (first|refine gC8 (fun h=>?_) (fun h=>?_)|refine gC9 (fun h=>?_) (fun h=>?_)|refine gD1 (fun h=>?_) (fun h=>?_))<;>simp only[go_sem,h,hp,hq]
  · have h2:decide (a.kind=b.kind)=false:=by simpa using h
    rw[show a.same b=false by simp only[Dfn.same,h2,Bool.false_and,Bool.and_false]] at hk;exact DK.st hk (by (repeat (first|exact St.ge.refl _|refine St.ge_set (by simp only[hp,hq]) ?_)))
  have h2:decide (a.kind=b.kind)=true:=by simpa using h
  (first|refine gC8 (fun h=>?_) (fun h=>?_)|refine gC9 (fun h=>?_) (fun h=>?_)|refine gD1 (fun h=>?_) (fun h=>?_))<;>simp only[go_sem,h,hp,hq]
  · have h3:decide (a.start=b.start)=false:=by simpa using h
    rw[show a.same b=false by simp only[Dfn.same,h3,Bool.false_and,Bool.and_false]] at hk;exact DK.st hk (by (repeat (first|exact St.ge.refl _|refine St.ge_set (by simp only[hp,hq]) ?_)))
  have h3:decide (a.start=b.start)=true:=by simpa using h
  (first|refine gC8 (fun h=>?_) (fun h=>?_)|refine gC9 (fun h=>?_) (fun h=>?_)|refine gD1 (fun h=>?_) (fun h=>?_))<;>simp only[go_sem,h,hp,hq]
  · have h4:decide (a.watch=b.watch)=false:=by simpa using h
    rw[show a.same b=false by simp only[Dfn.same,h4,Bool.false_and,Bool.and_false]] at hk;exact DK.st hk (by (repeat (first|exact St.ge.refl _|refine St.ge_set (by simp only[hp,hq]) ?_)))
  have h4:decide (a.watch=b.watch)=true:=by simpa using h
  refine same65_den a.sig b.sig _ _ _ ?_;simp only[go_sem,hp,hq]
  (first|refine gC8 (fun h=>?_) (fun h=>?_)|refine gC9 (fun h=>?_) (fun h=>?_)|refine gD1 (fun h=>?_) (fun h=>?_))<;>simp only[go_sem,h,hp,hq]
  · have h5:a.sig.same b.sig=false:=by simpa using h
    rw[show a.same b=false by simp only[Dfn.same,h5,Bool.false_and,Bool.and_false]] at hk;exact DK.st hk (by (repeat (first|exact St.ge.refl _|refine St.ge_set (by simp only[hp,hq]) ?_)))
  have h5:a.sig.same b.sig=true:=by simpa using h
  (first|refine gC8 (fun h=>?_) (fun h=>?_)|refine gC9 (fun h=>?_) (fun h=>?_)|refine gD1 (fun h=>?_) (fun h=>?_))<;>simp only[go_sem,h,hp,hq]
  · rw[show a.same b=false by simp only[Dfn.same,listEq_len (xs:=a.eqs) (ys:=b.eqs) (by intro e;simp[e] at h),Bool.false_and,Bool.and_false]] at hk
    exact DK.st hk (by (repeat (first|exact St.ge.refl _|refine St.ge_set (by simp only[hp,hq]) ?_)))
  have h6:a.eqs.length=b.eqs.length:=by simp at h;omega
  (first|refine gC8 (fun h=>?_) (fun h=>?_)|refine gC9 (fun h=>?_) (fun h=>?_)|refine gD1 (fun h=>?_) (fun h=>?_))<;>simp only[go_sem,h,hp,hq]
  · rw[show a.same b=false by simp only[Dfn.same,listEq_len (xs:=a.rules) (ys:=b.rules) (by intro e;simp[e] at h),Bool.and_false]] at hk
    exact DK.st hk (by (repeat (first|exact St.ge.refl _|refine St.ge_set (by simp only[hp,hq]) ?_)))
  have h7:a.rules.length=b.rules.length:=by simp at h;omega
  refine sameCells66_den a.once b.once _ _ _ ?_;simp only[go_sem,hp,hq]
  (first|refine gC8 (fun h=>?_) (fun h=>?_)|refine gC9 (fun h=>?_) (fun h=>?_)|refine gD1 (fun h=>?_) (fun h=>?_))<;>simp only[go_sem,h,hp,hq]
  · have h8:listEq Cel.same a.once b.once=false:=by simpa using h
    rw[show a.same b=false by simp only[Dfn.same,h8,Bool.false_and,Bool.and_false]] at hk;exact DK.st hk (by (repeat (first|exact St.ge.refl _|refine St.ge_set (by simp only[hp,hq]) ?_)))
  have h8:listEq Cel.same a.once b.once=true:=by simpa using h
  refine sameCells66_den a.many b.many _ _ _ ?_;simp only[go_sem,hp,hq]
  (first|refine gC8 (fun h=>?_) (fun h=>?_)|refine gC9 (fun h=>?_) (fun h=>?_)|refine gD1 (fun h=>?_) (fun h=>?_))<;>simp only[go_sem,h,hp,hq]
  · have h9:listEq Cel.same a.many b.many=false:=by simpa using h
    rw[show a.same b=false by simp only[Dfn.same,h9,Bool.false_and,Bool.and_false]] at hk;exact DK.st hk (by (repeat (first|exact St.ge.refl _|refine St.ge_set (by simp only[hp,hq]) ?_)))
  have h9:listEq Cel.same a.many b.many=true:=by simpa using h
  simp only[Dfn.same,h1,h2,h3,h4,h5,h8,h9,Bool.true_and] at hk
  refine Ex.loop (ι:=Nat) (fun i=>[(2,.ptr p 0),(3,.ptr q 0),(77,.list none (a.eqs.map Eqn.enc)),(78,.int .i64 a.eqs.length),(79,.int .i64 (i:Nat))]) (fun _=>(s.setO p (.cells 33 a.cs)).setO q (.cells 33 b.cs))
    (EqI Eqn.same a.eqs b.eqs) (fun i=>a.eqs.length-i) 0 EqI.zero ?_ (by exact St.ge.refl _) ?_
  · (simp only[go_sem,hp,hq];try exact rfl)
  · clear h
    rintro i hI;have hile:=hI.1;refine wpC_ok (V:=[0,1,2,3,4,5,6,7,75,77,78,79,80,117,121,122,123,136]) _ _ _ _ ?_;simp only[go_sem,hp,hq]
    (first|refine gC8 (fun h=>?_) (fun h=>?_)|refine gC9 (fun h=>?_) (fun h=>?_)|refine gD1 (fun h=>?_) (fun h=>?_))<;>simp only[go_sem,h,hp,hq]
    · have hix:i<a.eqs.length:=by simpa using h
      obtain ⟨x,y,hx,hy,hiy⟩:=EqI.get h6 hix;have hno:x.same y=false→KV s (.bool false):=fun hr=>by rwa[EqI.no h6 hx hy hr,Bool.false_and] at hk
      simp only[go_sem,hp,hq,hx,hix];(intro b6 hb6;try simp only[gD6,ne_eq] at hb6);simp only[go_sem,hp,hq,hx,hix,hb6];clear h;(refine draw_ok (V:=[0,1,2,3,4,5,6,7,75,77,78,79,80,117,121,122,123,136]) (OT.l [0,1,2,3,4,5,6,7,8,9,10,11,12,13,14,15,16,17,18,19,20,21,22,23,24,25,26,27,28,29,30,31,32,33] .nil) [(8,[12,14,18,24,26,30]),(19,[24,26,30])] mixed_cx (by decide +kernel) ?_;simp only[go_sem,hp,hq,hx,hix,hy,hiy,hb6]);refine same20_den' x.left y.left _ _ _ ?_;simp only[go_sem,hp,hq,hx,hix,hy,hiy,hb6]
      (first|refine gC8 (fun h=>?_) (fun h=>?_)|refine gC9 (fun h=>?_) (fun h=>?_)|refine gD1 (fun h=>?_) (fun h=>?_))<;>simp only[go_sem,h,hp,hq,hx,hix,hy,hiy,hb6]
      · exact DK.st (hno (by have h8 : x.left.same y.left = false := by simpa using h
                             simp only[Eqn.same,h8,Bool.false_and])) (by (repeat (first|exact St.ge.refl _|refine St.ge_set (by simp only[hp,hq,hb6]) ?_)))
      have h10:x.left.same y.left=true:=by simpa using h
      refine same20_den' x.right y.right _ _ _ ?_;simp only[go_sem,hp,hq,hx,hix,hy,hiy,hb6]
      (first|refine gC8 (fun h=>?_) (fun h=>?_)|refine gC9 (fun h=>?_) (fun h=>?_)|refine gD1 (fun h=>?_) (fun h=>?_))<;>simp only[go_sem,h,hp,hq,hx,hix,hy,hiy,hb6]
      · exact DK.st (hno (by have h8 : x.right.same y.right = false := by simpa using h
                             simp only[Eqn.same,h8,Bool.false_and,Bool.and_false])) (by (repeat (first|exact St.ge.refl _|refine St.ge_set (by simp only[hp,hq,hb6]) ?_)))
      have h11:x.right.same y.right=true:=by simpa using h
      refine sl47_den x.cond y.cond _ _ _ ?_;simp only[go_sem,hp,hq,hx,hix,hy,hiy,hb6]
      (first|refine gC8 (fun h=>?_) (fun h=>?_)|refine gC9 (fun h=>?_) (fun h=>?_)|refine gD1 (fun h=>?_) (fun h=>?_))<;>simp only[go_sem,h,hp,hq,hx,hix,hy,hiy,hb6]
      · exact DK.st (hno (by have h8 : listEq Tm.same x.cond y.cond = false := by simpa using h
                             simp only[Eqn.same,h8,Bool.false_and,Bool.and_false])) (by (repeat (first|exact St.ge.refl _|refine St.ge_set (by simp only[hp,hq,hb6]) ?_)))
      have h12:listEq Tm.same x.cond y.cond=true:=by simpa using h
      exact ⟨i+1,hI.step hx hy (by simp only[Eqn.same,h10,h11,h12,Bool.and_self]),by omega,by simp only[go_sem,wrapL hw1 hix],(by (repeat (first|(refine St.ge_set ?_ ?_;focus (simp only[gD6,ne_eq,gA9,and_self,hp,hq,hb6]<;>done))|exact St.ge.refl _)))⟩
    · rw [EqI.yes h6 hI (by simpa using h),Bool.true_and] at hk
      clear hI hile h
      refine Ex.loop (ι:=Nat) (fun i=>[(2,.ptr p 0),(3,.ptr q 0),(121,.int .i64 a.rules.length),(122,.int .i64 (i:Nat))]) (fun _=>(s.setO p (.cells 33 a.cs)).setO q (.cells 33 b.cs))
        (EqI Rul.same a.rules b.rules) (fun i=>a.rules.length-i) 0 EqI.zero ?_ (by exact St.ge.refl _) ?_
      · (simp only[go_sem,hp,hq];try exact rfl)
      · rintro i hI
        have hile:=hI.1;refine wpC_ok (V:=[0,1,2,3,4,5,6,7,75,77,78,79,80,117,121,122,123,136]) _ _ _ _ ?_;simp only[go_sem,hp,hq]
        (first|refine gC8 (fun h=>?_) (fun h=>?_)|refine gC9 (fun h=>?_) (fun h=>?_)|refine gD1 (fun h=>?_) (fun h=>?_))<;>simp only[go_sem,h,hp,hq]
        · have hix:i<a.rules.length:=by simpa using h
          obtain ⟨x,y,hx,hy,hiy⟩:=EqI.get h7 hix;(refine draw_ok (V:=[0,1,2,3,4,5,6,7,75,77,78,79,80,117,121,122,123,136]) (OT.l [0,1,2,3,4,5,6,7,8,9,10,11] .nil) [] mixed_cx (by decide +kernel) ?_;simp only[go_sem,hp,hq,hx,hix,hy,hiy]);refine sameRule67_den x y _ _ _ ?_;simp only[go_sem,hp,hq]
          (first|refine gC8 (fun h=>?_) (fun h=>?_)|refine gC9 (fun h=>?_) (fun h=>?_)|refine gD1 (fun h=>?_) (fun h=>?_))<;>simp only[go_sem,h,hp,hq]
          · have hr:x.same y=false:=by simpa using h
            rw[EqI.no h7 hx hy hr] at hk;exact DK.st hk (by (repeat (first|exact St.ge.refl _|refine St.ge_set (by simp only[hp,hq]) ?_)))
          · have hr:x.same y=true:=by simpa using h
            exact ⟨i+1,hI.step hx hy hr,by omega,by simp only[go_sem,wrapL hw2 hix],by exact St.ge.refl _⟩
        · rw[EqI.yes h7 hI (by simpa using h)] at hk
          exact DK.st hk (by (repeat (first|exact St.ge.refl _|refine St.ge_set (by simp only[hp,hq]) ?_)))
end Go.AV
end
section
namespace Go.AV
open Go
theorem dcm {α:Type} [DecidableEq α] (a b:α):decide (a=b)=decide (b=a):=by
 by_cases h:a=b
 ·subst h;rfl
 ·rw[decide_eq_false h,decide_eq_false (fun e=>h e.symm)]
theorem listEq_comm {α:Type} {r:α→α→Bool} (h:∀ a b,r a b=r b a) (xs ys:List α):listEq r xs ys=listEq r ys xs:=by
 by_cases hl:xs.length=ys.length
 ·rw[Bool.eq_iff_iff,listEq_iff hl,listEq_iff hl.symm];exact ⟨fun g i a b ha hb=>by rw[h];exact g i b a hb ha,fun g i a b ha hb=>by rw[h];exact g i b a hb ha⟩
 ·rw[listEq_len hl,listEq_len (fun e=>hl e.symm)]
theorem listEq_self {α:Type} {r:α→α→Bool} (h:∀ a,r a a=true) (xs:List α):listEq r xs xs=true :=
 (listEq_iff rfl).2 fun i a b ha hb=>by rw[ha] at hb;cases hb;exact h a
mutual
theorem Tm.same_comm:∀ a b:Tm,a.same b=b.same a
 | .mk k n t s l r,.mk k' n' t' s' l' r'=>by simp only[Tm.same];rw[dcm k,dcm n,dcm t,dcm s,Tm.sames_comm l l',Tm.sames_comm r r']
theorem Tm.sames_comm:∀ a b:List Tm,Tm.sames a b=Tm.sames b a
 | [],[]=>rfl
 | [],_::_=>rfl
 | _::_,[]=>rfl
 | a::l,b::r=>by simp only[Tm.sames];rw[Tm.same_comm a b,Tm.sames_comm l r]
end
theorem Eqn.same_comm (a b:Eqn):a.same b=b.same a:=by unfold Eqn.same;rw[Tm.same_comm a.left,Tm.same_comm a.right,listEq_comm Tm.same_comm a.cond]
theorem Cel.same_comm (a b:Cel):a.same b=b.same a:=by unfold Cel.same;rw[dcm a.name,dcm a.sort,Tm.same_comm a.init]
theorem Part.same_comm (a b:Part):a.same b=b.same a:=by unfold Part.same;rw[dcm a.cell,dcm a.at_,Tm.same_comm a.left,listEq_comm Tm.same_comm a.right]
theorem Fresh.same_comm (a b:Fresh):a.same b=b.same a:=listEq_comm Tm.same_comm _ _
theorem Rul.same_comm (a b:Rul):a.same b=b.same a:=by
 unfold Rul.same;rw[dcm a.name,listEq_comm Part.same_comm a.parts,listEq_comm Tm.same_comm a.cond,listEq_comm Fresh.same_comm a.new,listEq_comm (fun a b=>dcm a b) a.drop]
theorem Opr.same_comm (a b:Opr):a.same b=b.same a:=by
 unfold Opr.same;rw[dcm a.name,dcm a.sort,dcm a.prec,dcm a.assoc,listEq_comm (fun a b=>dcm a b) a.args,listEq_comm (fun a b=>by rw[dcm a.text,dcm a.sort]) a.pieces,listEq_comm (fun a b=>dcm a b) a.strict]
theorem Sig.same_comm (a b:Sig):a.same b=b.same a:=by
 unfold Sig.same;rw[listEq_comm (fun a b=>dcm a b) a.sorts,listEq_comm (fun a b=>by rw[dcm a.low,dcm a.high]) a.below,listEq_comm (fun a b=>dcm a b) a.values,listEq_comm Opr.same_comm a.ops,listEq_comm Opr.same_comm a.funs]
theorem Dfn.same_comm (a b:Dfn):a.same b=b.same a:=by
 unfold Dfn.same;rw[dcm a.name,dcm a.kind,dcm a.start,dcm a.watch,Sig.same_comm a.sig,listEq_comm Eqn.same_comm a.eqs,listEq_comm Cel.same_comm a.once,listEq_comm Cel.same_comm a.many,listEq_comm Rul.same_comm a.rules]
theorem strs_self (l:List Str):listEq (fun a b=>decide (a=b)) l l=true:=listEq_self (r:=fun a b:Str=>decide (a=b)) (fun a=>decide_eq_true rfl) l
theorem tms_self (l:List Tm):listEq Tm.same l l=true:=listEq_self Tm.same_self l
theorem Opr.same_self (a:Opr):a.same a=true:=by
 unfold Opr.same;rw[strs_self,listEq_self (fun a=>by simp),listEq_self (fun a=>by simp)];simp
theorem Sig.same_self (a:Sig):a.same a=true:=by
 unfold Sig.same;rw[strs_self,strs_self,listEq_self Opr.same_self,listEq_self Opr.same_self,listEq_self (fun a=>by simp)];rfl
theorem Eqn.same_self (a:Eqn):a.same a=true:=by simp[Eqn.same,Tm.same_self,tms_self]
theorem Cel.same_self (a:Cel):a.same a=true:=by simp[Cel.same,Tm.same_self]
theorem Part.same_self (a:Part):a.same a=true:=by simp[Part.same,Tm.same_self,tms_self]
theorem Fresh.same_self (a:Fresh):a.same a=true:=tms_self _
theorem Rul.same_self (a:Rul):a.same a=true:=by simp[Rul.same,tms_self,strs_self,listEq_self Part.same_self,listEq_self Fresh.same_self]
theorem Dfn.same_self (a:Dfn):a.same a=true:=by
 simp[Dfn.same,Sig.same_self,listEq_self Eqn.same_self,listEq_self Cel.same_self,listEq_self Rul.same_self]
end Go.AV
end
section
namespace Go.AV
open Go
def isLet (c:Int):Bool:=(decide (97≤c)&&decide (c≤122))||(decide (65≤c)&&decide (c≤90))
def isPart (c:Int):Bool:=isLet c||((decide (48≤c)&&decide (c≤57))||decide (c=95))
def isName (s:List UInt8):Bool:=match s with
 | []=>false
 | c::_=>decide (s.length≤40)&&(isLet c.toNat&&s.all fun c=>isPart c.toNat)
def hasPre (x p:Str):Bool:=decide (p.length≤x.length)&&decide (x.take p.length=p)
def lastTo (x:Str) (c:UInt8):Nat→Int
 | 0=>-1
 | n+1=>if x[n]?=some c then n else lastTo x c n
def isDig (c:Int):Bool:=decide (48≤c)&&decide (c≤57)
def adv:Nat × Nat→Str→Nat × Nat
 | p,[]=>p
 | (l,c),b::r=>if b=10 then adv (l+1,1) r else adv (l,c+1) r
def isBlank (b:UInt8):Bool:=decide (b=32)||(decide (b=9)||(decide (b=10)||decide (b=13)))
def blk:Nat→Str→Nat
 | 0,_=>0
 | _+1,[]=>0
 | f+1,b::r=>if isBlank b=true then 1+blk f r
  else if hasPre (b::r) [47,47]=true then ((b::r).takeWhile (fun c=>!decide (c=10))).length+blk f ((b::r).drop ((b::r).takeWhile (fun c=>!decide (c=10))).length)
  else 0
def blks (w:Str):Nat:=blk w.length w
def okB (b:UInt8):Bool:=decide (32≤b.toNat)&&(decide (b.toNat≤126)&&(!decide (b=34)&&!decide (b=92)))
def isStr (x:Str):Bool:=x.all okB&&decide (x.length≤200)
def eqB (c:UInt8) (b:UInt8):Bool:=decide (b=c)
def numOf (x:Str):Nat:=x.foldl (fun n d=>n * 10+(d.toNat-48)) 0
def digits (x:Str):Prop:=∀ d,d∈x→48≤d.toNat∧d.toNat≤57
def numTok (x:Str):Tok × Nat × Bool :=
 let n:=(x.takeWhile fun c=>isDig c.toNat).length
 let g:=(x.take n).dropWhile (eqB 48)
 if 10<g.length∨(∃ c,x[n]?=some c∧isPart c.toNat=true) then (⟨0,[],0,0,0⟩,0,false)
 else (⟨2,[],numOf g,0,0⟩,n,decide (numOf g≤2147483647))
def signTo (w:Str):List Str→Nat→Nat
 | [],n=>n
 | x::r,n=>signTo w r (if n<x.length∧hasPre w x=true then x.length else n)
def tokOf (w:Str) (sg:List Str) (op:Bool):Tok × Nat × Bool :=
 match w with
 | []=>(⟨0,[],0,0,0⟩,0,false)
 | c::r =>
  if isName [c] then
   let n:=(w.takeWhile fun c=>isPart c.toNat).length
   (⟨1,w.take n,0,0,0⟩,n,decide (n≤40))
  else if isDig c.toNat then numTok w
  else if c=34 then
   let n:=(Lib.indexByte r 34+2).toNat
   (⟨3,r.take (n-2),0,0,0⟩,n,decide (1<n)&&isStr (r.take (n-2)))
  else
   let n:=signTo w sg 0
   let n:=if n=0∧op=true∧(c=39∨c=95) then 1 else n
   (⟨4,w.take n,0,0,0⟩,n,decide (0<n))
def builtInS:List UInt8:=[97,100,100,32,115,117,98,32,109,117,108,32,100,105,118,32,109,111,100,32,110,101,103,32,108,116,32,108,101,32,103,116,32,103,101,32,101,113,32,110,101,32,97,110,100,32,111,114,32,110,111,116,32,112,105,99,107,32,99,97,116,32,108,101,110,103,116,104,32,116,101,120,116,32,106,111,105,110,32,103,101,116,32,112,117,116,32,104,97,115,32,100,101,108,32,107,101,121,115,32,115,105,122,101,32,105,115,32,105,115,118,97,108,117,101]
def builtInW:List (List UInt8):=[[97,100,100],[115,117,98],[109,117,108],[100,105,118],[109,111,100],[110,101,103],[108,116],[108,101],[103,116],[103,101],[101,113],[110,101],[97,110,100],[111,114],[110,111,116],[112,105,99,107],[99,97,116],[108,101,110,103,116,104],[116,101,120,116],[106,111,105,110],[103,101,116],[112,117,116],[104,97,115],[100,101,108],[107,101,121,115],[115,105,122,101],[105,115],[105,115,118,97,108,117,101]]
def signsS:List UInt8:=[61,62,32,45,62,32,58,32,59,32,44,32,46,32,64,32,124,32,40,32,41,32,91,32,93,32,123,32,125,32,60,32,61,32,45,32,36]
def signsW:List (List UInt8):=[[61,62],[45,62],[58],[59],[44],[46],[64],[124],[40],[41],[91],[93],[123],[125],[60],[61],[45],[36]]
def reservedS:List UInt8:=[108,97,110,103,117,97,103,101,32,115,111,114,116,32,115,117,98,115,111,114,116,32,118,97,108,117,101,32,111,112,32,102,117,110,32,108,101,116,32,105,102,32,115,116,97,114,116,32,99,101,108,108,32,109,97,110,121,32,119,97,116,99,104,32,114,117,108,101,32,112,114,101,99,32,108,101,102,116,32,114,105,103,104,116,32,115,116,114,105,99,116,32,110,101,119,32,100,114,111,112,32,116,114,117,101,32,102,97,108,115,101]
def reservedW:List (List UInt8):=[[108,97,110,103,117,97,103,101],[115,111,114,116],[115,117,98,115,111,114,116],[118,97,108,117,101],[111,112],[102,117,110],[108,101,116],[105,102],[115,116,97,114,116],[99,101,108,108],[109,97,110,121],[119,97,116,99,104],[114,117,108,101],[112,114,101,99],[108,101,102,116],[114,105,103,104,116],[115,116,114,105,99,116],[110,101,119],[100,114,111,112],[116,114,117,101],[102,97,108,115,101]]
inductive Lx where
 | ok (l:List Tok)
 | bad (f:Fault)
def lexA (sg:List Str) (op:Bool):Nat→Str→Nat × Nat→List Tok→Lx
 | _,[],_,acc=>.ok acc
 | 0,_::_,_,acc=>.ok acc
 | f+1,c::r,p,acc=>match tokOf (c::r) sg op with
  | (t,n,true)=>lexA sg op f (((c::r).drop n).drop (blks ((c::r).drop n))) (adv (adv p ((c::r).take n)) (((c::r).drop n).take (blks ((c::r).drop n))))
    (acc++[⟨t.kind,t.text,t.n,p.1,p.2⟩])
  | (_,_,false)=>.bad ⟨10,[c],p.1,p.2⟩
def lexS (sg:List Str) (op:Bool) (w:Str):Lx:=lexA sg op w.length (w.drop (blks w)) (adv (1,1) (w.take (blks w))) []
end Go.AV
end
section
namespace Go.AV
open Go Go.Proofs
@[go_sem] theorem cx_det:cx.det=false:=rfl
@[go_sem] theorem litA_cons (x:A) (l:List A):litA (x::l)=.list none (x::l):=rfl
@[go_sem] theorem litA_nil:litA []=.emp:=rfl
def gs (s:St) (tk:Option Nat) (n:Nat) (e:TypeId):St:=match tk with
 | none=>s
 | some t=>s.setT t (n,e)
@[go_sem] theorem gA6 (s:St) (tk:Option Nat) (n:Nat) (e:TypeId) (b:Nat):(gs s tk n e).getO b=s.getO b:=by cases tk<;>rfl
@[go_sem] theorem gs_setO (s:St) (tk:Option Nat) (n:Nat) (e:TypeId) (b:Nat) (o:Ob):(gs s tk n e).setO b o=gs (s.setO b o) tk n e:=by cases tk<;>rfl
@[go_sem] theorem setT_setO (s:St) (t:Nat) (v:Nat × TypeId) (b:Nat) (o:Ob):(s.setT t v).setO b o=(s.setO b o).setT t v:=rfl
attribute [go_sem] gA3 gA2
@[go_sem] theorem getO_delT (s:St) (t b:Nat):(s.delT t).getO b=s.getO b:=rfl
@[go_sem] theorem setL_setO (s:St) (x:Option (Nat × Nat × A)) (b:Nat) (o:Ob):(s.setL x).setO b o=(s.setO b o).setL x:=rfl
@[go_sem] theorem delT_setO (s:St) (t:Nat) (b:Nat) (o:Ob):(s.delT t).setO b o=(s.setO b o).delT t:=rfl
@[go_sem] theorem ls_setL (s:St) (x:Option (Nat × Nat × A)):(s.setL x).ls=x:=rfl
theorem gs_ok {s:St} {tk:Option Nat} {n:Nat} {e:TypeId} (h:tk=none→n=0):gok (gs s tk n e) tk n e:=by
 cases tk with
 | none=>exact h rfl
 | some t=>simp only[gok,gs,gA4,if_pos]
theorem gs_set {s:St} {tk:Option Nat} {n:Nat} {e:TypeId} {t:Nat} (h:tk=some t∨tk=none∧(gs s tk n e).getT t=none) (v:Nat × TypeId):(gs s tk n e).setT t v=s.setT t v:=by
 rcases h with rfl|⟨rfl,_⟩
 ·simp only[gs,St.setT,ins_ins]
 ·rfl
theorem gs_free {s:St} {tk:Option Nat} {n:Nat} {e:TypeId} {t:Nat} (h:tk=some t∨tk=none∧(gs s tk n e).getT t=none) (hf:∀ t,tk=some t→s.getT t=none):s.getT t=none:=by
 rcases h with rfl|⟨rfl,h⟩
 ·exact hf t rfl
 ·exact h
theorem gs_ge {s s':St} (hs:s.ge s') {tk:Option Nat} {n:Nat} {e:TypeId} (h:∀ t,tk=some t→s.getT t=none):(gs s tk n e).ge s':=by
 cases tk with
 | none=>exact hs
 | some t =>
  refine ⟨fun b o ho=>hs.ob b o ho,fun u m hm=>?_,fun x hx=>hs.ls x hx⟩;have h1:=hs.tk u m hm;have h2:=h t rfl;simp only[gs,gA4];by_cases htu:t=u
  ·subst htu;rw[h2] at h1;cases h1
  ·simp only[htu,if_false];exact h1
theorem gs_getT (s:St) (tk:Option Nat) (n:Nat) (e:TypeId) (t:Nat):(gs s tk n e).getT t=if tk=some t then some (n,e) else s.getT t:=by
 cases tk with
 | none=>rfl
 | some u=>simp only[gs,gA4,Option.some.injEq]
theorem gs_ge_of {s s':St} {tk:Option Nat} {n:Nat} {e:TypeId} (ho:∀ b o,s'.getO b=some o→s.getO b=some o) (hl:∀ x,s'.ls=some x→s.ls=some x)
  (ht:∀ t m,tk≠some t→s'.getT t=some m→s.getT t=some m):(gs s tk n e).ge (gs s' tk n e):=by
 refine ⟨fun b o h=>by rw[gA6] at h ⊢;exact ho b o h,fun t m h=>?_,fun x h=>by cases tk<;>exact hl x h⟩;rw[gs_getT] at h ⊢;by_cases e:tk=some t
 ·rw[if_pos e] at h ⊢;exact h
 ·rw[if_neg e] at h ⊢;exact ht t m e h
theorem gs_swap {s:St} {tk:Option Nat} {n:Nat} {e:TypeId} {t:Nat} {v:Nat × TypeId} (h:tk≠some t):((gs s tk n e).setT t v).ge (gs (s.setT t v) tk n e):=by
 refine ⟨fun b o h=>by rw[gA6] at h;rw[gA3,gA6];exact h,fun u m hm=>?_,fun x hx=>by cases tk<;>exact hx⟩;rw[gs_getT,gA4] at hm;rw[gA4,gs_getT];by_cases htu:t=u
 ·subst htu;rw[if_neg h,if_pos rfl] at hm;rw[if_pos rfl];exact hm
 ·rw[if_neg htu] at hm ⊢;exact hm
theorem pen_ge_none {Y:St} {t n0 n:Nat} {e0 e:TypeId} {v:Nat × TypeId} {x:Option (Nat × Nat × A)}:((((gs Y none n0 e0).setT t v).setT t (n,e)).setL x).ge ((gs Y (some t) n e).setL none):=by
 refine ⟨fun b o h=>h,fun a m h=>?_,fun y h=>by cases h⟩;simp only[gs,St.getT_setL,gA4] at h ⊢;split at h
 ·rename_i e;rw[if_pos e];exact h
 ·rename_i e;rw[if_neg e,if_neg e];exact h
theorem pen_ge_some {Y:St} {u t n0 n:Nat} {e0 e:TypeId} {v:Nat × TypeId} {x:Option (Nat × Nat × A)} (hu:Y.getT u=none):(((((gs Y (some u) n0 e0).delT u).setT t v).setT t (n,e)).setL x).ge ((gs Y (some t) n e).setL none):=by
 refine ⟨fun b o h=>h,fun a m h=>?_,fun y h=>by cases h⟩;simp only[gs,St.getT_setL,gA4,St.getT_delT] at h ⊢;split at h
 ·rename_i e;rw[if_pos e];exact h
 ·rename_i e;rw[if_neg e];by_cases hau:a=u
  ·subst hau;rw[hu] at h;cases h
  ·simp only[e,hau,Ne.symm hau,if_false];exact h
theorem del_free {Y s:St} {u t n:Nat} {e:TypeId} (ht:((gs Y (some u) n e).delT u).getT t=none) (hu:s.getT u=none) (hY:∀ t,Y.getT t=s.getT t):s.getT t=none:=by
 by_cases htu:t=u
 ·subst htu;exact hu
 ·simp only[gs,St.getT_delT,gA4,if_neg htu,if_neg (Ne.symm htu)] at ht;rw[← hY];exact ht
theorem del_freeL {Y s:St} {u t n:Nat} {e:TypeId} {l:Option (Nat × Nat × A)} (ht:(((gs Y (some u) n e).setL l).delT u).getT t=none) (hu:s.getT u=none) (hY:∀ t,Y.getT t=s.getT t):s.getT t=none:=del_free (Y:=Y) ht hu hY
theorem pen_ge_fin {Y Z:St} {u t n0 n n':Nat} {e0 e:TypeId} {v:Nat × TypeId} {x l:Option (Nat × Nat × A)} (hu:Y.getT u=none) (hO:∀ b o,Z.getO b=some o→Y.getO b=some o) (hT:∀ t,Z.getT t=Y.getT t) (hn:n'=n) :
  ((((((gs Y (some u) n0 e0).setL l).delT u).setT t v).setT t (n',e)).setL x).ge ((gs Z (some t) n e).setL none):=by
 subst hn;refine ⟨fun b o h=>hO b o h,fun a m h=>?_,fun w h=>by cases h⟩;simp only[gs,St.getT_setL,gA4,St.getT_delT] at h ⊢;split at h
 ·rename_i e;rw[if_pos e];exact h
 ·rename_i e;rw[hT] at h;by_cases hau:a=u
  ·subst hau;rw[hu] at h;cases h
  ·simp only[e,hau,Ne.symm hau,if_false];exact h
theorem gs_ge_O {Y Z:St} {t n:Nat} {e:TypeId} (hO:∀ b o,Z.getO b=some o→Y.getO b=some o) (hT:∀ t,Z.getT t=Y.getT t):((gs Y (some t) n e).setL none).ge ((gs Z (some t) n e).setL none) :=
 ⟨fun b o h => hO b o h,fun a m h => by
  simp only[gs,St.getT_setL,gA4] at h ⊢;rw[hT] at h;exact h,fun y h=>by cases h⟩
theorem free_setO {s:St} {b c:Nat} {o:Ob} (h:(s.setO c o).getO b=none):b≠c∧s.getO b=none:=by
 rw[gA1] at h;by_cases e:c=b
 ·rw[if_pos e] at h;cases h
 ·rw[if_neg e] at h;exact ⟨fun x=>e x.symm,h⟩
theorem gv_le (tk:Option Nat) (es:List A) (h:tk=none→es=[]):A.le (gv tk es) (.list none es):=by
 cases tk with
 | none=>rw[h rfl];exact A.le.nil
 | some t=>exact A.le.forget _ _
theorem St.ge_setT {s s2:St} {t:Nat} {v:Nat × TypeId} (h:s.ge s2):(s.setT t v).ge (s2.setT t v):=by
 refine ⟨fun b o ho=>h.ob b o ho,fun u m hm=>?_,fun x hx=>h.ls x hx⟩;rw[gA4] at hm ⊢;split
 ·rename_i e;rw[if_pos e] at hm;exact hm
 ·rename_i e;rw[if_neg e] at hm;exact h.tk u m hm
theorem St.ge_setO {s s2:St} {b:Nat} {o:Ob} (h:s.ge s2):(s.setO b o).ge (s2.setO b o):=by
 refine ⟨fun c x ho=>?_,fun u m hm=>h.tk u m hm,fun x hx=>h.ls x hx⟩;rw[gA1] at ho ⊢;split
 ·rename_i e;rw[if_pos e] at ho;exact ho
 ·rename_i e;rw[if_neg e] at ho;exact h.ob c x ho
theorem St.setT_over (s:St) (t:Nat) (v u:Nat × TypeId):((s.setT t v).setT t u).ge (s.setT t u):=by
 refine ⟨fun b o h=>h,fun x m hm=>?_,fun x h=>h⟩;rw[gA4] at hm ⊢;split
 ·rename_i e;rw[if_pos e] at hm;exact hm
 ·rename_i e;rw[if_neg e] at hm;rw[gA4,if_neg e];exact hm
theorem St.ge_freeT {s:St} {t:Nat} {v:Nat × TypeId} (h:s.getT t=none):(s.setT t v).ge s:=by
 refine ⟨fun b o h=>h,fun x m hm=>?_,fun x h=>h⟩;rw[gA4];by_cases e:t=x
 ·subst e;rw[h] at hm;cases hm
 ·rw[if_neg e];exact hm
theorem St.ge_mid {X:St} {r q:Nat} {A' B' C':Ob} (hq:X.getO q=none) (_:q≠r):(((X.setO r A').setO q B').setO r C').ge (X.setO r C'):=by
 refine ⟨fun d x hx=>?_,fun u m hm=>hm,fun x hx=>hx⟩;rw[gA1] at hx ⊢;by_cases h1:r=d
 ·rw[if_pos h1] at hx ⊢;exact hx
 ·rw[if_neg h1] at hx ⊢;rw[gA1];by_cases h2:q=d
  ·subst h2;rw[hq] at hx;cases hx
  ·rw[if_neg h2,gA1,if_neg h1];exact hx
structure St.gx (s1 s:St) (r:Nat):Prop where
 ob:∀ c,c≠r→∀ x,s.getO c=some x→s1.getO c=some x
 tk:∀ t m,s.getT t=some m→s1.getT t=some m
 ls:∀ x,s.ls=some x→s1.ls=some x
theorem gA8 (s:St) (r:Nat):s.gx s r:=⟨fun _ _ _ h=>h,fun _ _ h=>h,fun _ h=>h⟩
theorem St.gx_r {s1 s:St} {r:Nat} {o:Ob} (h:s1.gx s r):(s1.setO r o).gx s r :=
 ⟨fun c hc x hx=>by rw[gA1,if_neg (Ne.symm hc)];exact h.ob c hc x hx,h.tk,h.ls⟩
theorem gA7 {s1 s:St} {r b:Nat} {o:Ob} (hb:s.getO b=none) (h:s1.gx s r):(s1.setO b o).gx s r :=
 ⟨fun c hc x hx => by
  rw[gA1];by_cases hbc:b=c
  ·subst hbc;rw[hb] at hx;cases hx
  ·rw[if_neg hbc];exact h.ob c hc x hx,h.tk,h.ls⟩
theorem St.gx_T {s1 s:St} {r t:Nat} {v:Nat × TypeId} (ht:s.getT t=none) (h:s1.gx s r):(s1.setT t v).gx s r :=
 ⟨h.ob,fun u m hm => by
  rw[gA4];by_cases htu:t=u
  ·subst htu;rw[ht] at hm;cases hm
  ·rw[if_neg htu];exact h.tk u m hm,h.ls⟩
theorem St.gx.dropT {s1 s:St} {r t:Nat} {v:Nat × TypeId} (h:s1.gx (s.setT t v) r) (ht:s.getT t=none):s1.gx s r :=
 ⟨h.ob,fun u m hm => h.tk u m (by
  rw[gA4];by_cases htu:t=u
  ·subst htu;rw[ht] at hm;cases hm
  ·rw[if_neg htu];exact hm),h.ls⟩
theorem St.gx_gs {s1 s:St} {r:Nat} {tk:Option Nat} {n:Nat} {e:TypeId} (h:s1.gx s r) (hf:∀ t,tk=some t→s.getT t=none):(gs s1 tk n e).gx s r:=by
 cases tk with
 | none=>exact h
 | some t=>exact St.gx_T (hf t rfl) h
theorem St.gx_setL {s1 s:St} {r:Nat} {l:Option (Nat × Nat × A)} (h:s1.gx s r) (hl:l=s.ls):(s1.setL l).gx s r :=
 ⟨h.ob,h.tk,fun x hx=>by rw[hl];exact hx⟩
theorem St.gx_setL2 {s1 s:St} {r:Nat} {l m:Option (Nat × Nat × A)} (h:s1.gx s r) (hl:l=s.ls):((s1.setL m).setL l).gx s r:=St.gx_setL (s1:=s1) h hl
theorem St.gx.trans {s2 s1 s:St} {r:Nat} (h:s2.gx s1 r) (h':s1.gx s r):s2.gx s r :=
 ⟨fun c hc x hx=>h.ob c hc x (h'.ob c hc x hx),fun t m hm=>h.tk t m (h'.tk t m hm),fun x hx=>h.ls x (h'.ls x hx)⟩
theorem St.gx.ge {s1 s:St} {r:Nat} {o:Ob} (h:s1.gx s r) (hr:s1.getO r=some o):s1.ge (s.setO r o):=by
 refine ⟨fun c x hx=>?_,h.tk,h.ls⟩;rw[gA1] at hx;by_cases hc:r=c
 ·subst hc;rw[if_pos rfl] at hx;rw[hr];exact hx
 ·rw[if_neg hc] at hx;exact h.ob c (Ne.symm hc) x hx
def lesL:List A→List A→Prop
 | [],[]=>True
 | a::l,b::r=>lesC a.cells b.cells∧lesL l r
 | _,_=>False
theorem lesL_len:∀ {l r:List A},lesL l r→l.length=r.length
 | [],[],_=>rfl
 | _::_,_::_,h=>by simp only[gC1,lesL_len h.2]
theorem lesL_get:∀ {l r:List A},lesL l r→∀ (i:Nat) (b:A),r[i]?=some b→∃ a:A,l[i]?=some a∧lesC a.cells b.cells
 | a::l,b::r,h,0,x,hx=>by
  simp only[List.getElem?_cons_zero,Option.some.injEq] at hx ⊢;subst hx;exact ⟨a,rfl,h.1⟩
 | a::l,b::r,h,i+1,x,hx=>by
  simp only[List.getElem?_cons_succ] at hx ⊢;exact lesL_get h.2 i x hx
 | [],[],_,_,_,hx=>by simp at hx
theorem A.le.list {l r:List A} (h:lesL l r):A.le (.list none l) (.list none r):=fun g v x=>by
 have hlen:=lesL_len h;cases x with
 | list tk es b off sz cap pre hp hl hc hm hs h1 hh ht =>
  rw[hlen]
  have key:∀ e,e∈r→∃ (i:Nat) (a:A),l[i]?=some a∧r[i]?=some e∧lesC a.cells e.cells:=fun e he=>by
   obtain ⟨i,hi,rfl⟩:=List.getElem_of_mem he;obtain ⟨a,h2,h3⟩:=lesL_get h i _ (List.getElem?_eq_getElem hi);exact ⟨i,a,h2,List.getElem?_eq_getElem hi,h3⟩
  refine .list none r b off sz cap pre hp (by rw[← hlen];exact hl) (by rw[← hlen];exact hc) hm (fun e he=>?_) (fun e he c hc=>?_) (fun i e j c v hi hj hv=>?_) (by simp)
  ·obtain ⟨i,a,h2,_,h3⟩:=key e he;rw[← lesC_len h3];exact hs a (List.mem_of_getElem? h2)
  ·obtain ⟨i,a,h2,_,h3⟩:=key e he;obtain ⟨j,hj,rfl⟩:=List.getElem_of_mem hc;exact (lesC_get h3 j _ (List.getElem?_eq_getElem hj)).choose_spec.2.2
  ·obtain ⟨a,h2,h3⟩:=lesL_get h i e hi;obtain ⟨c0,h4,h5,_⟩:=lesC_get h3 j c hj;exact h5 g v (hh i a j c0 v h2 h4 hv)
 | list0 tk a cap hm ht =>
  have:r=[]:=List.eq_nil_of_length_eq_zero (by rw[← hlen];rfl);subst this;exact .list0 none a cap hm (by simp)
theorem Den.keepL {C:Cx} {s:St} {f:FuncId} {args:List A} {KV Kp:St→A→Prop} (h:Den C f args (fun s' a=>KV (s'.setL s.ls) a) (fun s' a=>Kp (s'.setL s.ls) a) s):Den C f args KV Kp s:=by
 intro F g w vals hR hv;have key:∀ (g':Gh) (s':St) (w':World),g.le g'→R C.toCtx F g' s' w'→R C.toCtx F g' (s'.setL s.ls) w':=fun g' s' w' h1 h2=>h2.setL fun y hy=>(hR.lst y hy).mono h1
 have:=h F g w vals hR hv;revert this;generalize (callFunc f vals.toArray).run C.P w=r;intro hr;cases r with
 | ok x w' =>
  cases x<;>simp only[OutV] at hr ⊢
  ·obtain ⟨g',a,s',a1,a2,a3,a4⟩:=hr;exact ⟨g',a,_,a1,key _ _ _ a1 a2,a3,a4⟩
  ·obtain ⟨g',s',a1,a2,a3⟩:=hr;exact ⟨g',_,a1,key _ _ _ a1 a2,a3⟩
  ·refine Calls.mono hr fun en w'' hp=>?_
   cases en with
   | returned v=>obtain ⟨g',a,s',a1,a2,a3,a4⟩:=hp;exact ⟨g',a,_,a1,key _ _ _ a1 a2,a3,a4⟩
   | panicked chain=>obtain ⟨g',a,v,s',a0,a1,a2,a3,a4⟩:=hp;exact ⟨g',a,v,_,a0,a1,key _ _ _ a1 a2,a3,a4⟩
   | outgrown=>exact hp
 | halt x w' =>
  cases x<;>simp only[OutV] at hr ⊢
  obtain ⟨g',a,s',a1,a2,a3,a4⟩:=hr;exact ⟨g',a,_,a1,key _ _ _ a1 a2,a3,a4⟩
@[go_sem] theorem setL_setL (s:St) (x y:Option (Nat × Nat × A)):(s.setL x).setL y=s.setL y:=rfl
theorem to_cxo {f:FuncId} {l:List A} {KV Kp:St→A→Prop} {s:St} (h:Den cx f l KV Kp s):Den cxo f l KV Kp s:=by assumption
end Go.AV
end
section
namespace Go.AV
open Go Go.Proofs
structure St.gel (s1 s:St) (L M:List Nat):Prop where
 ob:∀ c,c ∉ L→∀ x,s.getO c=some x→s1.getO c=some x
 tk:∀ t,t ∉ M→∀ m,s.getT t=some m→s1.getT t=some m
 ls:∀ x,s.ls=some x→s1.ls=some x
theorem gel_refl (s:St) (L M:List Nat):s.gel s L M:=⟨fun _ _ _ h=>h,fun _ _ _ h=>h,fun _ h=>h⟩
theorem gel_ge {s1 s:St} (h:s1.gel s [] []):s1.ge s:=⟨fun c x hx=>h.ob c (by simp) x hx,fun t m hm=>h.tk t (by simp) m hm,h.ls⟩
theorem gel_of_gx {s1 s:St} {r:Nat} (h:s1.gx s r) {L M:List Nat} (hr:r∈L):s1.gel s L M :=
 ⟨fun c hc x hx=>h.ob c (fun e=>hc (e▸hr)) x hx,fun t _ m hm=>h.tk t m hm,h.ls⟩
theorem gel_of_ge {s1 s:St} (h:s1.ge s) (L M:List Nat):s1.gel s L M:=⟨fun c _ x hx=>h.ob c x hx,fun t _ m hm=>h.tk t m hm,h.ls⟩
theorem St.gel.trans {s2 s1 s:St} {L M:List Nat} (h:s2.gel s1 L M) (h':s1.gel s L M):s2.gel s L M :=
 ⟨fun c hc x hx=>h.ob c hc x (h'.ob c hc x hx),fun t ht m hm=>h.tk t ht m (h'.tk t ht m hm),fun x hx=>h.ls x (h'.ls x hx)⟩
theorem gel_set {s1 s:St} {L M:List Nat} {b:Nat} {o:Ob} (hb:s1.getO b=some o) (h:s1.gel s (b::L) M):s1.gel (s.setO b o) L M :=
 ⟨fun c hc x hx => by
  rw[gA1] at hx;by_cases e:b=c
  ·subst e;rw[if_pos rfl] at hx;rw[hb];exact hx
  ·rw[if_neg e] at hx;exact h.ob c (by simp only[gC5,not_or];exact ⟨fun h=>e h.symm,hc⟩) x hx,h.tk,h.ls⟩
theorem gel_setT {s1 s:St} {L M:List Nat} {t:Nat} {v:Nat × TypeId} (ht:s1.getT t=some v) (h:s1.gel s L (t::M)):s1.gel (s.setT t v) L M :=
 ⟨h.ob,fun u hu m hm => by
  rw[gA4] at hm;by_cases e:t=u
  ·subst e;rw[if_pos rfl] at hm;rw[ht];exact hm
  ·rw[if_neg e] at hm;exact h.tk u (by simp only[gC5,not_or];exact ⟨fun h=>e h.symm,hu⟩) m hm,h.ls⟩
theorem gel_in {s1 s:St} {L M:List Nat} {b:Nat} {o:Ob} (hb:b∈L) (h:s1.gel s L M):(s1.setO b o).gel s L M :=
 ⟨fun c hc x hx => by
  rw[gA1,if_neg (fun e:b=c=>hc (e▸hb))];exact h.ob c hc x hx,h.tk,h.ls⟩
theorem gel_new {s1 s:St} {L M:List Nat} {b:Nat} {o:Ob} (hb:s.getO b=none) (h:s1.gel s L M):(s1.setO b o).gel s L M :=
 ⟨fun c hc x hx => by
  rw[gA1];by_cases e:b=c
  ·subst e;rw[hb] at hx;cases hx
  ·rw[if_neg e];exact h.ob c hc x hx,h.tk,h.ls⟩
theorem gel_inT {s1 s:St} {L M:List Nat} {t:Nat} {v:Nat × TypeId} (hb:t∈M) (h:s1.gel s L M):(s1.setT t v).gel s L M :=
 ⟨h.ob,fun c hc x hx => by
  rw[gA4,if_neg (fun e:t=c=>hc (e▸hb))];exact h.tk c hc x hx,h.ls⟩
theorem gel_newT {s1 s:St} {L M:List Nat} {t:Nat} {v:Nat × TypeId} (hb:s.getT t=none) (h:s1.gel s L M):(s1.setT t v).gel s L M :=
 ⟨h.ob,fun c hc x hx => by
  rw[gA4];by_cases e:t=c
  ·subst e;rw[hb] at hx;cases hx
  ·rw[if_neg e];exact h.tk c hc x hx,h.ls⟩
theorem gel_free {s1 s:St} {L M:List Nat} {b:Nat} (hb:s.getO b=none) (h:s1.gel s (b::L) M):s1.gel s L M :=
 ⟨fun c hc x hx => h.ob c (by
  simp only[gC5,not_or];exact ⟨fun e=>(by subst e;rw[hb] at hx;cases hx),hc⟩) x hx,h.tk,h.ls⟩
theorem gel_gs {s1 s:St} {L M:List Nat} {tk:Option Nat} {n:Nat} {e:TypeId} (h:s1.gel s L M) (hf:∀ t,tk=some t→s.getT t=none):(gs s1 tk n e).gel s L M:=by
 cases tk with
 | none=>exact h
 | some t=>exact gel_newT (hf t rfl) h
theorem gel_gs_in {s1 s:St} {L M:List Nat} {tk:Option Nat} {n:Nat} {e:TypeId} (h:s1.gel s L M) (hf:∀ t,tk=some t→t∈M):(gs s1 tk n e).gel s L M:=by
 cases tk with
 | none=>exact h
 | some t=>exact gel_inT (hf t rfl) h
theorem gel_to_gs {s1 s:St} {L M:List Nat} {tk:Option Nat} {n:Nat} {e:TypeId} (hf:∀ t,tk=some t→s1.getT t=some (n,e)) (h:s1.gel s L (tk.toList++M)):s1.gel (gs s tk n e) L M:=by
 cases tk with
 | none=>exact h
 | some t=>exact gel_setT (hf t rfl) h
theorem gel_gs_gs {s1 s:St} {L M:List Nat} {tk:Option Nat} {n:Nat} {e:TypeId} (h:s1.gel s L M):(gs s1 tk n e).gel (gs s tk n e) L M:=by
 cases tk with
 | none=>exact h
 | some t =>
  refine ⟨h.ob,fun u hu m hm=>?_,h.ls⟩;simp only[gs,gA4] at hm ⊢;split
  ·rename_i e;rw[if_pos e] at hm;exact hm
  ·rename_i e;rw[if_neg e] at hm;exact h.tk u hu m hm
theorem gs_self {s1:St} {tk:Option Nat} {n:Nat} {e:TypeId}:∀ t,tk=some t→(gs s1 tk n e).getT t=some (n,e):=by
 rintro t rfl;rw[gs_getT,if_pos rfl]
@[go_sem] theorem getT_setO (s:St) (b:Nat) (o:Ob) (t:Nat):(s.setO b o).getT t=s.getT t:=rfl
theorem gB1 {s1 s:St} {L M:List Nat} {tk:Option Nat} {n:Nat} {e:TypeId} (h:s1.gel s L (tk.toList++M)) (hf:∀ t,tk=some t→s1.getT t=some (n,e):=by (rintro _ ⟨⟩;simp only[getT_setO,St.getT_setL,gA4,St.getT_delT,gs_getT,reduceIte,gC2,gC1,gC3,gC4,Nat.zero_add,Nat.add_zero]<;>fail)):s1.gel (gs s tk n e) L M:=gel_to_gs hf h
theorem gB2 {s1 s:St} {L M:List Nat} {t:Nat} {v:Nat × TypeId} (h:s1.gel s L M) (hb:t∈M:=by (simp only[Option.toList,gD2,gD3,gC5,true_or,or_true]<;>fail)):(s1.setT t v).gel s L M:=gel_inT hb h
theorem gB3 {s1 s:St} {L M:List Nat} {b:Nat} {o:Ob} (h:s1.gel s L M) (hb:b∈L:=by (simp only[gC5,true_or,or_true]<;>fail)):(s1.setO b o).gel s L M:=gel_in hb h
end Go.AV
end
section
namespace Go.AV
open Go Go.Proofs
theorem parts78_aux (m:Nat):∀ (xs:List Tm) (l d:Int) (s:St) (KV Kp:St→A→Prop),SizeOf.sizeOf xs<m→(∀ n:Int,KV s (.int .i64 n))→Den cx 78 [.list none (xs.map Tm.enc),.int .i64 l,.int .i64 d] KV Kp s:=by
 induction m with
 | zero=>intro xs l d s KV Kp hm;omega
 | succ m ih =>
 intro xs l d s KV Kp hm hk;refine Den.rlz fun hz1=>?_
 have hlw:=hz1 _ (List.mem_cons_self ..);refine Den.drop ?_;(refine Den.of_body (C:=cx) Tryz.func78 rfl rfl (gC6 rfl) ?_;refine wpC_ok (V:=[0,1,2,6,8,10,11,12,13,14,29,43]) _ _ _ _ ?_;simp only[go_sem,Tryz.ntmps78,Tryz.f78])
 (first|refine gC8 (fun h=>?_) (fun h=>?_)|refine gC9 (fun h=>?_) (fun h=>?_)|refine gD1 (fun h=>?_) (fun h=>?_))<;>simp only[go_sem,h]
 ·exact DK.here (hk _)
 refine Ex.loop (ι:=Int × Nat) (fun c=>[(1,.int .i64 c.1),(2,.int .i64 d),(11,.list none (xs.map Tm.enc)),(12,.int .i64 xs.length),(13,.int .i64 (c.2:Nat))]) (fun _=>s)
  (fun c=>c.2≤xs.length) (fun c=>xs.length-c.2) (l,0) (Nat.zero_le _) ?_ (St.ge.refl s) ?_
 ·(simp only[go_sem];try exact rfl)
 ·clear h;rintro ⟨l,i⟩ hi;simp only at hi;refine wpC_ok (V:=[0,1,2,6,8,10,11,12,13,14,29,43]) _ _ _ _ ?_;simp only[go_sem]
  (first|refine gC8 (fun h=>?_) (fun h=>?_)|refine gC9 (fun h=>?_) (fun h=>?_)|refine gD1 (fun h=>?_) (fun h=>?_))<;>simp only[go_sem,h]
  ·have hix:i<xs.length:=by simpa using h
   obtain ⟨x,hx⟩:∃ a,xs[i]?=some a:=⟨_,List.getElem?_eq_getElem hix⟩
   have hxm:x∈xs:=List.mem_of_getElem? hx;have hsx:=List.sizeOf_lt_of_mem hxm;have hkid:SizeOf.sizeOf x.kids<SizeOf.sizeOf x:=by cases x;simp only[Tm.kids,Tm.mk.sizeOf_spec];omega
   have hres:SizeOf.sizeOf x.rest<SizeOf.sizeOf x:=by cases x;simp only[Tm.rest,Tm.mk.sizeOf_spec];omega
   clear h;simp only[go_sem,hx,hix];(intro b8 hb8;try simp only[gD6,ne_eq] at hb8);simp only[go_sem,hx,hix,hb8]
   (first|refine gC8 (fun h=>?_) (fun h=>?_)|refine gC9 (fun h=>?_) (fun h=>?_)|refine gD1 (fun h=>?_) (fun h=>?_))<;>simp only[go_sem,h,hb8]
   ·exact DK.st (hk _) (by (repeat (first|exact St.ge.refl _|refine St.ge_set (by simp only[hb8]) ?_)))
   clear h;refine ih x.kids _ _ _ _ _ (by omega) (fun n1=>?_);simp only[go_sem,hb8];refine ih x.rest _ _ _ _ _ (by omega) (fun n2=>?_);simp only[go_sem,hb8]
   (first|refine gC8 (fun h=>?_) (fun h=>?_)|refine gC9 (fun h=>?_) (fun h=>?_)|refine gD1 (fun h=>?_) (fun h=>?_))<;>simp only[go_sem,h,hb8]
   ·exact DK.st (hk _) (by (repeat (first|exact St.ge.refl _|refine St.ge_set (by simp only[hb8]) ?_)))
   exact ⟨(n2,i+1),hix,by simp only;omega,by simp only[go_sem,hlw.wrap (i:=i) (by simpa using hix)],(by (repeat (first|(refine St.ge_set ?_ ?_;focus (simp only[gD6,ne_eq,gA9,and_self,hb8]<;>done))|exact St.ge.refl _)))⟩
  ·exact DK.here (hk _)
theorem parts78_den (xs:List Tm) (l d:Int) (s:St) (KV Kp:St→A→Prop) (hk:∀ n:Int,KV s (.int .i64 n)):Den cx 78 [.list none (xs.map Tm.enc),.int .i64 l,.int .i64 d] KV Kp s :=
 parts78_aux _ xs l d s KV Kp (Nat.lt_succ_self _) hk
theorem few33_den (xs:List Tm) (l:Int) (s:St) (KV Kp:St→A→Prop) (hk:∀ b:Bool,KV s (.bool b)):Den cx 33 [.int .i64 l,.list none (xs.map Tm.enc)] KV Kp s:=by
 refine Den.drop ?_;(refine Den.of_body (C:=cx) Tryz.func33 rfl rfl (gC6 rfl) ?_;refine wpC_ok (V:=[0,1,4]) _ _ _ _ ?_;simp only[go_sem,Tryz.ntmps33,Tryz.f33]);refine parts78_den xs _ _ _ _ _ (fun n=>?_);simp only[go_sem];exact DK.here (hk _)
end Go.AV
end
