/-
  Part of the proof of DefBlanks.
-/
import Derived.Test.YtamikhobdffnfaaGreatDoorBl15
import Derived.Test.YtamikhobdffnfaaGreatDoorBl10
import Derived.Laws.Externs
import Derived.Lib.Bytealg
set_option linter.all false
set_option maxRecDepth 1000000
set_option maxHeartbeats 40000000
section
namespace Go.AV
open Go Go.Proofs
theorem slEq_den130 (s:St) (xs ys:List Str) (KV Kp) (hk:KV s (.bool (listEq (fun a b=>decide (a=b)) xs ys))) :
  Den cx 130 [.list none (xs.map .str),.list none (ys.map .str)] KV Kp s:=by
 refine Den.rlz fun hz1=>?_
 have hlw:=hz1 _ (List.mem_cons_self ..);refine Den.drop ?_;(refine Den.of_body (C:=cx) Tryz.func130 rfl rfl (gC6 rfl) ?_;refine wpC_ok (V:=[0,1,4,5,10,12,13,14,24]) _ _ _ _ ?_;simp only[go_sem,Tryz.ntmps130,Tryz.f130])
 (first|refine gC8 (fun h=>?_) (fun h=>?_)|refine gC9 (fun h=>?_) (fun h=>?_)|refine gD1 (fun h=>?_) (fun h=>?_))<;>simp only[go_sem,h]
 ·exact DK.here (by rwa[listEq_len (by intro e;simp[e] at h)] at hk)
 ·have hlen:xs.length=ys.length:=by simp at h;omega
  refine Ex.loop (fun i=>[(0,.list none (xs.map .str)),(1,.list none (ys.map .str)),(12,.int .i64 xs.length),(13,.int .i64 (i:Nat))]) (fun _=>s)
     (fun i=>i≤xs.length∧∀ (j:Nat) a b,j<i→xs[j]?=some a→ys[j]?=some b→(fun a b=>decide (a=b)) a b=true) (fun i=>xs.length-i) 0 ⟨Nat.zero_le _,fun j _ _ hj=>by omega⟩ ?_ (St.ge.refl s) ?_
  ·simp only[go_sem];exact rfl
  ·rintro i ⟨hi,hall⟩;refine wpC_ok (V:=[0,1,4,5,10,12,13,14,24]) _ _ _ _ ?_;simp only[go_sem]
   (first|refine gC8 (fun h=>?_) (fun h=>?_)|refine gC9 (fun h=>?_) (fun h=>?_)|refine gD1 (fun h=>?_) (fun h=>?_))<;>simp only[go_sem,h]
   ·have hix:i<xs.length:=by simpa using h
    have hiy:i<ys.length:=by omega
    obtain ⟨a,ha⟩:∃ a,xs[i]?=some a:=⟨_,List.getElem?_eq_getElem hix⟩
    obtain ⟨b,hb⟩:∃ b,ys[i]?=some b:=⟨_,List.getElem?_eq_getElem hiy⟩
    (refine draw_ok (V:=[0,1,4,5,10,12,13,14,24]) (OT.l [0,1,2,3,4,5,6,7,8] .nil) [] mixed_cx (by decide +kernel) ?_;simp only[go_sem]);simp only[go_sem,ha,hb,hix,hiy]
    (first|refine gC8 (fun h=>?_) (fun h=>?_)|refine gC9 (fun h=>?_) (fun h=>?_)|refine gD1 (fun h=>?_) (fun h=>?_))<;>simp only[go_sem,h]
    ·have hr:(fun a b=>decide (a=b)) a b=false:=by simpa only[Bool.not_eq_true',Bool.and_true] using h
     have:listEq (fun a b=>decide (a=b)) xs ys=false:=by
      rw[Bool.eq_false_iff];intro he;have:=(listEq_iff hlen).1 he i a b ha hb;exact absurd (hr.symm.trans this) (by decide)
     exact DK.here (by rwa[this] at hk)
    ·have hr:(fun a b=>decide (a=b)) a b=true:=by simpa only[Bool.not_eq_false',Bool.and_true] using h
     refine ⟨i+1,⟨by omega,fun j x y hj hx hy=>?_⟩,by omega,?_,St.ge.refl s⟩
     ·by_cases hji:j=i
      ·subst hji;rw[ha] at hx;rw[hb] at hy;cases hx;cases hy;exact hr
      ·exact hall j x y (by omega) hx hy
     ·simp only[go_sem,hlw.wrap (i:=i) (by simpa using hix)]
   ·have hix:i=xs.length:=by simp at h;omega
    have:listEq (fun a b=>decide (a=b)) xs ys=true:=(listEq_iff hlen).2 fun j x y hx hy=>hall j x y (by rw[hix];exact (List.getElem?_eq_some_iff.1 hx).1) hx hy
    exact DK.here (by rwa[this] at hk)
theorem slEq_den209 (s:St) (xs ys:List Int) (KV Kp) (hk:KV s (.bool (listEq (fun a b=>decide (a=b)) xs ys))) :
  Den cx 209 [.list none (xs.map (.int .i64)),.list none (ys.map (.int .i64))] KV Kp s:=by
 refine Den.rlz fun hz1=>?_
 have hlw:=hz1 _ (List.mem_cons_self ..);refine Den.drop ?_;(refine Den.of_body (C:=cx) Tryz.func209 rfl rfl (gC6 rfl) ?_;refine wpC_ok (V:=[0,1,4,5,10,12,13,14,24]) _ _ _ _ ?_;simp only[go_sem,Tryz.ntmps209,Tryz.f209])
 (first|refine gC8 (fun h=>?_) (fun h=>?_)|refine gC9 (fun h=>?_) (fun h=>?_)|refine gD1 (fun h=>?_) (fun h=>?_))<;>simp only[go_sem,h]
 ·exact DK.here (by rwa[listEq_len (by intro e;simp[e] at h)] at hk)
 ·have hlen:xs.length=ys.length:=by simp at h;omega
  refine Ex.loop (fun i=>[(0,.list none (xs.map (.int .i64))),(1,.list none (ys.map (.int .i64))),(12,.int .i64 xs.length),(13,.int .i64 (i:Nat))]) (fun _=>s)
     (fun i=>i≤xs.length∧∀ (j:Nat) a b,j<i→xs[j]?=some a→ys[j]?=some b→(fun a b=>decide (a=b)) a b=true) (fun i=>xs.length-i) 0 ⟨Nat.zero_le _,fun j _ _ hj=>by omega⟩ ?_ (St.ge.refl s) ?_
  ·simp only[go_sem];exact rfl
  ·rintro i ⟨hi,hall⟩;refine wpC_ok (V:=[0,1,4,5,10,12,13,14,24]) _ _ _ _ ?_;simp only[go_sem]
   (first|refine gC8 (fun h=>?_) (fun h=>?_)|refine gC9 (fun h=>?_) (fun h=>?_)|refine gD1 (fun h=>?_) (fun h=>?_))<;>simp only[go_sem,h]
   ·have hix:i<xs.length:=by simpa using h
    have hiy:i<ys.length:=by omega
    obtain ⟨a,ha⟩:∃ a,xs[i]?=some a:=⟨_,List.getElem?_eq_getElem hix⟩
    obtain ⟨b,hb⟩:∃ b,ys[i]?=some b:=⟨_,List.getElem?_eq_getElem hiy⟩
    (refine draw_ok (V:=[0,1,4,5,10,12,13,14,24]) (OT.l [0,1,2,3,4,5,6,7,8] .nil) [] mixed_cx (by decide +kernel) ?_;simp only[go_sem]);simp only[go_sem,ha,hb,hix,hiy]
    (first|refine gC8 (fun h=>?_) (fun h=>?_)|refine gC9 (fun h=>?_) (fun h=>?_)|refine gD1 (fun h=>?_) (fun h=>?_))<;>simp only[go_sem,h]
    ·have hr:(fun a b=>decide (a=b)) a b=false:=by simpa only[Bool.not_eq_true',Bool.and_true] using h
     have:listEq (fun a b=>decide (a=b)) xs ys=false:=by
      rw[Bool.eq_false_iff];intro he;have:=(listEq_iff hlen).1 he i a b ha hb;exact absurd (hr.symm.trans this) (by decide)
     exact DK.here (by rwa[this] at hk)
    ·have hr:(fun a b=>decide (a=b)) a b=true:=by simpa only[Bool.not_eq_false',Bool.and_true] using h
     refine ⟨i+1,⟨by omega,fun j x y hj hx hy=>?_⟩,by omega,?_,St.ge.refl s⟩
     ·by_cases hji:j=i
      ·subst hji;rw[ha] at hx;rw[hb] at hy;cases hx;cases hy;exact hr
      ·exact hall j x y (by omega) hx hy
     ·simp only[go_sem,hlw.wrap (i:=i) (by simpa using hix)]
   ·have hix:i=xs.length:=by simp at h;omega
    have:listEq (fun a b=>decide (a=b)) xs ys=true:=(listEq_iff hlen).2 fun j x y hx hy=>hall j x y (by rw[hix];exact (List.getElem?_eq_some_iff.1 hx).1) hx hy
    exact DK.here (by rwa[this] at hk)
theorem slEq_den131 (s:St) (xs ys:List Below) (KV Kp) (hk:KV s (.bool (listEq (fun a b=>(decide (a.low=b.low)&&decide (a.high=b.high))) xs ys))) :
  Den cx 131 [.list none (xs.map Below.enc),.list none (ys.map Below.enc)] KV Kp s:=by
 refine Den.rlz fun hz1=>?_
 have hlw:=hz1 _ (List.mem_cons_self ..);refine Den.drop ?_;(refine Den.of_body (C:=cx) Tryz.func131 rfl rfl (gC6 rfl) ?_;refine wpC_ok (V:=[0,1,4,5,10,12,13,14,24]) _ _ _ _ ?_;simp only[go_sem,Tryz.ntmps131,Tryz.f131])
 (first|refine gC8 (fun h=>?_) (fun h=>?_)|refine gC9 (fun h=>?_) (fun h=>?_)|refine gD1 (fun h=>?_) (fun h=>?_))<;>simp only[go_sem,h]
 ·exact DK.here (by rwa[listEq_len (by intro e;simp[e] at h)] at hk)
 ·have hlen:xs.length=ys.length:=by simp at h;omega
  refine Ex.loop (fun i=>[(0,.list none (xs.map Below.enc)),(1,.list none (ys.map Below.enc)),(12,.int .i64 xs.length),(13,.int .i64 (i:Nat))]) (fun _=>s)
     (fun i=>i≤xs.length∧∀ (j:Nat) a b,j<i→xs[j]?=some a→ys[j]?=some b→(fun a b=>(decide (a.low=b.low)&&decide (a.high=b.high))) a b=true) (fun i=>xs.length-i) 0 ⟨Nat.zero_le _,fun j _ _ hj=>by omega⟩ ?_ (St.ge.refl s) ?_
  ·simp only[go_sem];exact rfl
  ·rintro i ⟨hi,hall⟩;refine wpC_ok (V:=[0,1,4,5,10,12,13,14,24]) _ _ _ _ ?_;simp only[go_sem]
   (first|refine gC8 (fun h=>?_) (fun h=>?_)|refine gC9 (fun h=>?_) (fun h=>?_)|refine gD1 (fun h=>?_) (fun h=>?_))<;>simp only[go_sem,h]
   ·have hix:i<xs.length:=by simpa using h
    have hiy:i<ys.length:=by omega
    obtain ⟨a,ha⟩:∃ a,xs[i]?=some a:=⟨_,List.getElem?_eq_getElem hix⟩
    obtain ⟨b,hb⟩:∃ b,ys[i]?=some b:=⟨_,List.getElem?_eq_getElem hiy⟩
    (refine draw_ok (V:=[0,1,4,5,10,12,13,14,24]) (OT.l [0,1,2,3,4,5,6,7,8] .nil) [] mixed_cx (by decide +kernel) ?_;simp only[go_sem]);simp only[go_sem,ha,hb,hix,hiy]
    (first|refine gC8 (fun h=>?_) (fun h=>?_)|refine gC9 (fun h=>?_) (fun h=>?_)|refine gD1 (fun h=>?_) (fun h=>?_))<;>simp only[go_sem,h]
    ·have hr:(fun a b=>(decide (a.low=b.low)&&decide (a.high=b.high))) a b=false:=by simpa only[Bool.not_eq_true',Bool.and_true] using h
     have:listEq (fun a b=>(decide (a.low=b.low)&&decide (a.high=b.high))) xs ys=false:=by
      rw[Bool.eq_false_iff];intro he;have:=(listEq_iff hlen).1 he i a b ha hb;exact absurd (hr.symm.trans this) (by decide)
     exact DK.here (by rwa[this] at hk)
    ·have hr:(fun a b=>(decide (a.low=b.low)&&decide (a.high=b.high))) a b=true:=by simpa only[Bool.not_eq_false',Bool.and_true] using h
     refine ⟨i+1,⟨by omega,fun j x y hj hx hy=>?_⟩,by omega,?_,St.ge.refl s⟩
     ·by_cases hji:j=i
      ·subst hji;rw[ha] at hx;rw[hb] at hy;cases hx;cases hy;exact hr
      ·exact hall j x y (by omega) hx hy
     ·simp only[go_sem,hlw.wrap (i:=i) (by simpa using hix)]
   ·have hix:i=xs.length:=by simp at h;omega
    have:listEq (fun a b=>(decide (a.low=b.low)&&decide (a.high=b.high))) xs ys=true:=(listEq_iff hlen).2 fun j x y hx hy=>hall j x y (by rw[hix];exact (List.getElem?_eq_some_iff.1 hx).1) hx hy
    exact DK.here (by rwa[this] at hk)
theorem slEq_den208 (s:St) (xs ys:List Piece) (KV Kp) (hk:KV s (.bool (listEq (fun a b=>(decide (a.text=b.text)&&decide (a.sort=b.sort))) xs ys))) :
  Den cx 208 [.list none (xs.map Piece.enc),.list none (ys.map Piece.enc)] KV Kp s:=by
 refine Den.rlz fun hz1=>?_
 have hlw:=hz1 _ (List.mem_cons_self ..);refine Den.drop ?_;(refine Den.of_body (C:=cx) Tryz.func208 rfl rfl (gC6 rfl) ?_;refine wpC_ok (V:=[0,1,4,5,10,12,13,14,24]) _ _ _ _ ?_;simp only[go_sem,Tryz.ntmps208,Tryz.f208])
 (first|refine gC8 (fun h=>?_) (fun h=>?_)|refine gC9 (fun h=>?_) (fun h=>?_)|refine gD1 (fun h=>?_) (fun h=>?_))<;>simp only[go_sem,h]
 ·exact DK.here (by rwa[listEq_len (by intro e;simp[e] at h)] at hk)
 ·have hlen:xs.length=ys.length:=by simp at h;omega
  refine Ex.loop (fun i=>[(0,.list none (xs.map Piece.enc)),(1,.list none (ys.map Piece.enc)),(12,.int .i64 xs.length),(13,.int .i64 (i:Nat))]) (fun _=>s)
     (fun i=>i≤xs.length∧∀ (j:Nat) a b,j<i→xs[j]?=some a→ys[j]?=some b→(fun a b=>(decide (a.text=b.text)&&decide (a.sort=b.sort))) a b=true) (fun i=>xs.length-i) 0 ⟨Nat.zero_le _,fun j _ _ hj=>by omega⟩ ?_ (St.ge.refl s) ?_
  ·simp only[go_sem];exact rfl
  ·rintro i ⟨hi,hall⟩;refine wpC_ok (V:=[0,1,4,5,10,12,13,14,24]) _ _ _ _ ?_;simp only[go_sem]
   (first|refine gC8 (fun h=>?_) (fun h=>?_)|refine gC9 (fun h=>?_) (fun h=>?_)|refine gD1 (fun h=>?_) (fun h=>?_))<;>simp only[go_sem,h]
   ·have hix:i<xs.length:=by simpa using h
    have hiy:i<ys.length:=by omega
    obtain ⟨a,ha⟩:∃ a,xs[i]?=some a:=⟨_,List.getElem?_eq_getElem hix⟩
    obtain ⟨b,hb⟩:∃ b,ys[i]?=some b:=⟨_,List.getElem?_eq_getElem hiy⟩
    (refine draw_ok (V:=[0,1,4,5,10,12,13,14,24]) (OT.l [0,1,2,3,4,5,6,7,8] .nil) [] mixed_cx (by decide +kernel) ?_;simp only[go_sem]);simp only[go_sem,ha,hb,hix,hiy]
    (first|refine gC8 (fun h=>?_) (fun h=>?_)|refine gC9 (fun h=>?_) (fun h=>?_)|refine gD1 (fun h=>?_) (fun h=>?_))<;>simp only[go_sem,h]
    ·have hr:(fun a b=>(decide (a.text=b.text)&&decide (a.sort=b.sort))) a b=false:=by simpa only[Bool.not_eq_true',Bool.and_true] using h
     have:listEq (fun a b=>(decide (a.text=b.text)&&decide (a.sort=b.sort))) xs ys=false:=by
      rw[Bool.eq_false_iff];intro he;have:=(listEq_iff hlen).1 he i a b ha hb;exact absurd (hr.symm.trans this) (by decide)
     exact DK.here (by rwa[this] at hk)
    ·have hr:(fun a b=>(decide (a.text=b.text)&&decide (a.sort=b.sort))) a b=true:=by simpa only[Bool.not_eq_false',Bool.and_true] using h
     refine ⟨i+1,⟨by omega,fun j x y hj hx hy=>?_⟩,by omega,?_,St.ge.refl s⟩
     ·by_cases hji:j=i
      ·subst hji;rw[ha] at hx;rw[hb] at hy;cases hx;cases hy;exact hr
      ·exact hall j x y (by omega) hx hy
     ·simp only[go_sem,hlw.wrap (i:=i) (by simpa using hix)]
   ·have hix:i=xs.length:=by simp at h;omega
    have:listEq (fun a b=>(decide (a.text=b.text)&&decide (a.sort=b.sort))) xs ys=true:=(listEq_iff hlen).2 fun j x y hx hy=>hall j x y (by rw[hix];exact (List.getElem?_eq_some_iff.1 hx).1) hx hy
    exact DK.here (by rwa[this] at hk)
theorem tmSame_den' (a b:Tm) (s:St) (KV Kp) (hk:KV s (.bool (a.same b))):Den cx 36 [.agg a.cs,.agg b.cs] KV Kp s:=by
 have:=tmSame_den a b s KV Kp hk
 rwa[Tm.enc_eq,Tm.enc_eq] at this
theorem sameTerms_den (xs ys:List Tm) (s:St) (KV Kp) (hk:KV s (.bool (listEq Tm.same xs ys))):Den cx 134 [.list none (xs.map Tm.enc),.list none (ys.map Tm.enc)] KV Kp s:=by
 refine Den.drop ?_;(refine Den.of_body (C:=cx) Tryz.func134 rfl rfl (gC6 rfl) ?_;refine wpC_ok (V:=[0,1,4]) _ _ _ _ ?_;simp only[go_sem,Tryz.ntmps134,Tryz.f134]);refine eqFunc_den82 Tm.enc Tm.same 36 [] [] _ _ _ _ _ Tm.hz6 (fun x y s' KV' Kp' hx hy hs h'=>tmSame_den x y s' KV' Kp' h') ?_;simp only[go_sem];exact DK.here hk
def Eqn.same (a b:Eqn):Bool:=a.left.same b.left&&(a.right.same b.right&&listEq Tm.same a.cond b.cond)
theorem eqnSame_den (a b:Eqn) (s:St) (KV Kp) (hk:KV s (.bool (a.same b))):Den cx 70 [a.enc,b.enc] KV Kp s:=by
 unfold Eqn.same at hk;simp only[go_sem];refine Den.drop ?_;(refine Den.of_body (C:=cx) Tryz.func70 rfl rfl (gC6 rfl) ?_;refine wpC_ok (V:=[0,1,2,3,4]) _ _ _ _ ?_;simp only[go_sem,Tryz.ntmps70,Tryz.f70]);(intro p hp;try simp only[gD6,ne_eq] at hp);simp only[go_sem,hp];(intro q hq;try simp only[gD6,ne_eq] at hq);simp only[go_sem,hp,hq]
 (repeat' (first|exact DK.st hk (by (repeat (first|exact St.ge.refl _|refine St.ge_set (by simp only[hp,hq]) ?_)))|(refine tmSame_den' _ _ _ _ _ ?_;simp only[go_sem,hp,hq])|(refine sameTerms_den _ _ _ _ _ ?_;simp only[go_sem,hp,hq])|((first|refine gC8 (fun h=>?_) (fun h=>?_)|refine gC9 (fun h=>?_) (fun h=>?_)|refine gD1 (fun h=>?_) (fun h=>?_))<;>simp only[go_sem,h,hp,hq]<;>(try simp only[h,Bool.true_and,Bool.false_and,Bool.and_true,Bool.and_false,Bool.or_true,Bool.true_or,Bool.or_false,Bool.false_or,Bool.not_true,Bool.not_false] at hk))))
def Cel.same (a b:Cel):Bool:=decide (a.name=b.name)&&(decide (a.sort=b.sort)&&a.init.same b.init)
theorem celSame_den (a b:Cel) (s:St) (KV Kp) (hk:KV s (.bool (a.same b))):Den cx 72 [a.enc,b.enc] KV Kp s:=by
 unfold Cel.same at hk;simp only[go_sem];refine Den.drop ?_;(refine Den.of_body (C:=cx) Tryz.func72 rfl rfl (gC6 rfl) ?_;refine wpC_ok (V:=[0,1,2,3,4]) _ _ _ _ ?_;simp only[go_sem,Tryz.ntmps72,Tryz.f72]);(intro p hp;try simp only[gD6,ne_eq] at hp);simp only[go_sem,hp];(intro q hq;try simp only[gD6,ne_eq] at hq);simp only[go_sem,hp,hq]
 (repeat' (first|exact DK.st hk (by (repeat (first|exact St.ge.refl _|refine St.ge_set (by simp only[hp,hq]) ?_)))|(refine tmSame_den' _ _ _ _ _ ?_;simp only[go_sem,hp,hq])|((first|refine gC8 (fun h=>?_) (fun h=>?_)|refine gC9 (fun h=>?_) (fun h=>?_)|refine gD1 (fun h=>?_) (fun h=>?_))<;>simp only[go_sem,h,hp,hq]<;>(try simp only[h,Bool.true_and,Bool.false_and,Bool.and_true,Bool.and_false,Bool.or_true,Bool.true_or,Bool.or_false,Bool.false_or,Bool.not_true,Bool.not_false] at hk))))
def Part.same (a b:Part):Bool:=decide (a.cell=b.cell)&&(decide (a.at_=b.at_)&&(a.left.same b.left&&listEq Tm.same a.right b.right))
theorem partSame_den (a b:Part) (s:St) (KV Kp) (hk:KV s (.bool (a.same b))):Den cx 137 [a.enc,b.enc] KV Kp s:=by
 unfold Part.same at hk;simp only[go_sem];refine Den.drop ?_;(refine Den.of_body (C:=cx) Tryz.func137 rfl rfl (gC6 rfl) ?_;refine wpC_ok (V:=[0,1,2,3,4]) _ _ _ _ ?_;simp only[go_sem,Tryz.ntmps137,Tryz.f137]);(intro p hp;try simp only[gD6,ne_eq] at hp);simp only[go_sem,hp];(intro q hq;try simp only[gD6,ne_eq] at hq);simp only[go_sem,hp,hq]
 (repeat' (first|exact DK.st hk (by (repeat (first|exact St.ge.refl _|refine St.ge_set (by simp only[hp,hq]) ?_)))|(refine tmSame_den' _ _ _ _ _ ?_;simp only[go_sem,hp,hq])|(refine sameTerms_den _ _ _ _ _ ?_;simp only[go_sem,hp,hq])|((first|refine gC8 (fun h=>?_) (fun h=>?_)|refine gC9 (fun h=>?_) (fun h=>?_)|refine gD1 (fun h=>?_) (fun h=>?_))<;>simp only[go_sem,h,hp,hq]<;>(try simp only[h,Bool.true_and,Bool.false_and,Bool.and_true,Bool.and_false,Bool.or_true,Bool.true_or,Bool.or_false,Bool.false_or,Bool.not_true,Bool.not_false] at hk))))
def Fresh.same (a b:Fresh):Bool:=listEq Tm.same a.cells b.cells
theorem freshSame_den (a b:Fresh) (s:St) (KV Kp) (hk:KV s (.bool (a.same b))):Den cx 135 [a.enc,b.enc] KV Kp s:=by
 unfold Fresh.same at hk;simp only[go_sem];refine Den.drop ?_;(refine Den.of_body (C:=cx) Tryz.func135 rfl rfl (gC6 rfl) ?_;refine wpC_ok (V:=[0,1,2,3,4]) _ _ _ _ ?_;simp only[go_sem,Tryz.ntmps135,Tryz.f135]);(intro p hp;try simp only[gD6,ne_eq] at hp);simp only[go_sem,hp];(intro q hq;try simp only[gD6,ne_eq] at hq);simp only[go_sem,hp,hq]
 (repeat' (first|exact DK.st hk (by (repeat (first|exact St.ge.refl _|refine St.ge_set (by simp only[hp,hq]) ?_)))|(refine sameTerms_den _ _ _ _ _ ?_;simp only[go_sem,hp,hq])|((first|refine gC8 (fun h=>?_) (fun h=>?_)|refine gC9 (fun h=>?_) (fun h=>?_)|refine gD1 (fun h=>?_) (fun h=>?_))<;>simp only[go_sem,h,hp,hq]<;>(try simp only[h,Bool.true_and,Bool.false_and,Bool.and_true,Bool.and_false,Bool.or_true,Bool.true_or,Bool.or_false,Bool.false_or,Bool.not_true,Bool.not_false] at hk))))
theorem Eqn.hz (a:Eqn):∃ cs,a.enc=.agg cs∧cs.length=15∧allOne cs=true:=⟨_,rfl,rfl,rfl⟩
theorem Cel.hz (a:Cel):∃ cs,a.enc=.agg cs∧cs.length=10∧allOne cs=true:=⟨_,rfl,rfl,rfl⟩
theorem Part.hz (a:Part):∃ cs,a.enc=.agg cs∧cs.length=11∧allOne cs=true:=⟨_,rfl,rfl,rfl⟩
theorem Fresh.hz (a:Fresh):∃ cs,a.enc=.agg cs∧cs.length=1∧allOne cs=true:=⟨_,rfl,rfl,rfl⟩
theorem Rul.hz (a:Rul):∃ cs,a.enc=.agg cs∧cs.length=7∧allOne cs=true:=⟨_,rfl,rfl,rfl⟩
theorem Opr.hz (a:Opr):∃ cs,a.enc=.agg cs∧cs.length=7∧allOne cs=true:=⟨_,rfl,rfl,rfl⟩
def Rul.same (a b:Rul):Bool:=decide (a.name=b.name)&&(listEq Part.same a.parts b.parts&&(listEq Tm.same a.cond b.cond&&(listEq Fresh.same a.new b.new&&listEq (fun a b=>decide (a=b)) a.drop b.drop)))
theorem rulSame_den (a b:Rul) (s:St) (KV Kp) (hk:KV s (.bool (a.same b))):Den cx 74 [a.enc,b.enc] KV Kp s:=by
 unfold Rul.same at hk;simp only[go_sem];refine Den.drop ?_;(refine Den.of_body (C:=cx) Tryz.func74 rfl rfl (gC6 rfl) ?_;refine wpC_ok (V:=[0,1,2,3,4,5]) _ _ _ _ ?_;simp only[go_sem,Tryz.ntmps74,Tryz.f74]);(intro p hp;try simp only[gD6,ne_eq] at hp);simp only[go_sem,hp];(intro q hq;try simp only[gD6,ne_eq] at hq);simp only[go_sem,hp,hq]
 (repeat' (first|exact DK.st hk (by (repeat (first|exact St.ge.refl _|refine St.ge_set (by simp only[hp,hq]) ?_)))|(refine sameTerms_den _ _ _ _ _ ?_;simp only[go_sem,hp,hq])|(refine slEq_den130 _ _ _ _ _ ?_;simp only[go_sem,hp,hq])|(refine eqFunc_den136 Part.enc Part.same 137 [] [] _ _ _ _ _ Part.hz (fun x y s' KV' Kp' hx hy hs h'=>partSame_den x y s' KV' Kp' h') ?_;simp only[go_sem,hp,hq])|(refine eqFunc_den138 Fresh.enc Fresh.same 135 [] [] _ _ _ _ _ Fresh.hz (fun x y s' KV' Kp' hx hy hs h'=>freshSame_den x y s' KV' Kp' h') ?_;simp only[go_sem,hp,hq])|((first|refine gC8 (fun h=>?_) (fun h=>?_)|refine gC9 (fun h=>?_) (fun h=>?_)|refine gD1 (fun h=>?_) (fun h=>?_))<;>simp only[go_sem,h,hp,hq]<;>(try simp only[h,Bool.true_and,Bool.false_and,Bool.and_true,Bool.and_false,Bool.or_true,Bool.true_or,Bool.or_false,Bool.false_or,Bool.not_true,Bool.not_false] at hk))))
def Opr.same (a b:Opr):Bool:=decide (a.name=b.name)&&(decide (a.sort=b.sort)&&(decide (a.prec=b.prec)&&(decide (a.assoc=b.assoc)&&(listEq (fun a b=>decide (a=b)) a.args b.args&&(listEq (fun a b=>decide (a.text=b.text)&&decide (a.sort=b.sort)) a.pieces b.pieces&&listEq (fun a b=>decide (a=b)) a.strict b.strict)))))
theorem oprSame_den (a b:Opr) (s:St) (KV Kp) (hk:KV s (.bool (a.same b))):Den cx 133 [a.enc,b.enc] KV Kp s:=by
 unfold Opr.same at hk;simp only[go_sem];refine Den.drop ?_;(refine Den.of_body (C:=cx) Tryz.func133 rfl rfl (gC6 rfl) ?_;refine wpC_ok (V:=[0,1,2,3,4]) _ _ _ _ ?_;simp only[go_sem,Tryz.ntmps133,Tryz.f133]);(intro p hp;try simp only[gD6,ne_eq] at hp);simp only[go_sem,hp];(intro q hq;try simp only[gD6,ne_eq] at hq);simp only[go_sem,hp,hq]
 (repeat' (first|exact DK.st hk (by (repeat (first|exact St.ge.refl _|refine St.ge_set (by simp only[hp,hq]) ?_)))|(refine slEq_den130 _ _ _ _ _ ?_;simp only[go_sem,hp,hq])|(refine slEq_den208 _ _ _ _ _ ?_;simp only[go_sem,hp,hq])|(refine slEq_den209 _ _ _ _ _ ?_;simp only[go_sem,hp,hq])|((first|refine gC8 (fun h=>?_) (fun h=>?_)|refine gC9 (fun h=>?_) (fun h=>?_)|refine gD1 (fun h=>?_) (fun h=>?_))<;>simp only[go_sem,h,hp,hq]<;>(try simp only[h,Bool.true_and,Bool.false_and,Bool.and_true,Bool.and_false,Bool.or_true,Bool.true_or,Bool.or_false,Bool.false_or,Bool.not_true,Bool.not_false] at hk))))
def Sig.same (a b:Sig):Bool:=listEq (fun a b=>decide (a=b)) a.sorts b.sorts&&(listEq (fun a b=>decide (a.low=b.low)&&decide (a.high=b.high)) a.below b.below&&(listEq (fun a b=>decide (a=b)) a.values b.values&&(listEq Opr.same a.ops b.ops&&listEq Opr.same a.funs b.funs)))
theorem sigSame_den (a b:Sig) (s:St) (KV Kp) (hk:KV s (.bool (a.same b))):Den cx 68 [a.enc,b.enc] KV Kp s:=by
 unfold Sig.same at hk;simp only[go_sem];refine Den.drop ?_;(refine Den.of_body (C:=cx) Tryz.func68 rfl rfl (gC6 rfl) ?_;refine wpC_ok (V:=[0,1,2,3,4]) _ _ _ _ ?_;simp only[go_sem,Tryz.ntmps68,Tryz.f68]);(intro p hp;try simp only[gD6,ne_eq] at hp);simp only[go_sem,hp];(intro q hq;try simp only[gD6,ne_eq] at hq);simp only[go_sem,hp,hq]
 (repeat' (first|exact DK.st hk (by (repeat (first|exact St.ge.refl _|refine St.ge_set (by simp only[hp,hq]) ?_)))|(refine slEq_den130 _ _ _ _ _ ?_;simp only[go_sem,hp,hq])|(refine slEq_den131 _ _ _ _ _ ?_;simp only[go_sem,hp,hq])|(refine eqFunc_den132 Opr.enc Opr.same 133 [] [] _ _ _ _ _ Opr.hz (fun x y s' KV' Kp' hx hy hs h'=>oprSame_den x y s' KV' Kp' h') ?_;simp only[go_sem,hp,hq])|((first|refine gC8 (fun h=>?_) (fun h=>?_)|refine gC9 (fun h=>?_) (fun h=>?_)|refine gD1 (fun h=>?_) (fun h=>?_))<;>simp only[go_sem,h,hp,hq]<;>(try simp only[h,Bool.true_and,Bool.false_and,Bool.and_true,Bool.and_false,Bool.or_true,Bool.true_or,Bool.or_false,Bool.false_or,Bool.not_true,Bool.not_false] at hk))))
def Dfn.same (a b:Dfn):Bool:=decide (a.name=b.name)&&(decide (a.kind=b.kind)&&(decide (a.start=b.start)&&(decide (a.watch=b.watch)&&(a.sig.same b.sig&&(listEq Eqn.same a.eqs b.eqs&&(listEq Cel.same a.once b.once&&(listEq Cel.same a.many b.many&&listEq Rul.same a.rules b.rules)))))))
theorem dfnSame_den (a b:Dfn) (s:St) (KV Kp) (hk:KV s (.bool (a.same b))):Den cx 30 [a.enc,b.enc] KV Kp s:=by
 unfold Dfn.same at hk;simp only[go_sem];refine Den.drop ?_;(refine Den.of_body (C:=cx) Tryz.func30 rfl rfl (gC6 rfl) ?_;refine wpC_ok (V:=[0,1,2,3,4,5]) _ _ _ _ ?_;simp only[go_sem,Tryz.ntmps30,Tryz.f30]);(intro p hp;try simp only[gD6,ne_eq] at hp);simp only[go_sem,hp];(intro q hq;try simp only[gD6,ne_eq] at hq);simp only[go_sem,hp,hq]
 (repeat' (first|exact DK.st hk (by (repeat (first|exact St.ge.refl _|refine St.ge_set (by simp only[hp,hq]) ?_)))|(refine sigSame_den _ _ _ _ _ ?_;simp only[go_sem,hp,hq])|(refine eqFunc_den69 Eqn.enc Eqn.same 70 [] [] _ _ _ _ _ Eqn.hz (fun x y s' KV' Kp' hx hy hs h'=>eqnSame_den x y s' KV' Kp' h') ?_;simp only[go_sem,hp,hq])|(refine eqFunc_den71 Cel.enc Cel.same 72 [] [] _ _ _ _ _ Cel.hz (fun x y s' KV' Kp' hx hy hs h'=>celSame_den x y s' KV' Kp' h') ?_;simp only[go_sem,hp,hq])|(refine eqFunc_den73 Rul.enc Rul.same 74 [] [] _ _ _ _ _ Rul.hz (fun x y s' KV' Kp' hx hy hs h'=>rulSame_den x y s' KV' Kp' h') ?_;simp only[go_sem,hp,hq])|((first|refine gC8 (fun h=>?_) (fun h=>?_)|refine gC9 (fun h=>?_) (fun h=>?_)|refine gD1 (fun h=>?_) (fun h=>?_))<;>simp only[go_sem,h,hp,hq]<;>(try simp only[h,Bool.true_and,Bool.false_and,Bool.and_true,Bool.and_false,Bool.or_true,Bool.true_or,Bool.or_false,Bool.false_or,Bool.not_true,Bool.not_false] at hk))))
end Go.AV
end
section
namespace Go.AV
open Go Go.Proofs
mutual
theorem Tm.same_self:∀ a:Tm,a.same a=true
 | .mk k n t s l r=>by simp[Tm.same,Tm.sames_self l,Tm.sames_self r]
theorem Tm.sames_self:∀ l:List Tm,Tm.sames l l=true
 | []=>rfl
 | a::l=>by simp[Tm.sames,Tm.same_self a,Tm.sames_self l]
end
end Go.AV
end
section
namespace Go.AV
open Go
theorem listEq_self {α:Type} {r:α→α→Bool} (h:∀ a,r a a=true) (xs:List α):listEq r xs xs=true :=
 (listEq_iff rfl).2 fun i a b ha hb=>by rw[ha] at hb;cases hb;exact h a
theorem strs_self (l:List Str):listEq (fun a b=>decide (a=b)) l l=true:=listEq_self (r:=fun a b:Str=>decide (a=b)) (fun a=>decide_eq_true rfl) l
theorem tms_self (l:List Tm):listEq Tm.same l l=true:=listEq_self Tm.same_self l
theorem Opr.same_self (a:Opr):a.same a=true:=by
 unfold Opr.same;rw[strs_self,listEq_self (fun a=>by simp),listEq_self (fun a=>by simp)];simp
theorem Sig.same_self (a:Sig):a.same a=true:=by
 unfold Sig.same;rw[strs_self,strs_self,listEq_self Opr.same_self,listEq_self Opr.same_self,listEq_self (fun a=>by simp)];rfl
theorem Eqn.same_self (a:Eqn):a.same a=true:=by simp[Eqn.same,Tm.same_self,tms_self]
theorem Cel.same_self (a:Cel):a.same a=true:=by simp[Cel.same,Tm.same_self]
theorem Part.same_self (a:Part):a.same a=true:=by simp[Part.same,Tm.same_self,tms_self]
theorem Fresh.same_self (a:Fresh):a.same a=true:=tms_self _
theorem Rul.same_self (a:Rul):a.same a=true:=by simp[Rul.same,tms_self,strs_self,listEq_self Part.same_self,listEq_self Fresh.same_self]
theorem Dfn.same_self (a:Dfn):a.same a=true:=by
 simp[Dfn.same,Sig.same_self,listEq_self Eqn.same_self,listEq_self Cel.same_self,listEq_self Rul.same_self]
end Go.AV
end
section
namespace Go.AV
open Go
@[reducible] def Tok.to (t:Tok) (l c:Int):Tok:=⟨t.kind,t.text,t.n,l,c⟩
def Adj (t:Tok) (w:List Tok):Prop:=∀ v z,w=v::z→t.kind≠1→t.kind≠2→t.kind≠3→t.text=[45]→v.kind=2→v.line=t.line∧v.col=t.col+1
inductive Mv:List Tok→List Tok→Prop
 | nil:Mv [] []
 | cons {t:Tok} {l c:Int} {w w':List Tok} (ha:Adj (t.to l c) w') (hw:Mv w w'):Mv (t::w) (t.to l c::w')
theorem Mv.len {w w':List Tok} (h:Mv w w'):w.length=w'.length:=by
 induction h with
 | nil=>rfl
 | cons _ _ ih=>simp only[gC1,ih]
theorem Mv.tail {w w':List Tok} (h:Mv w w'):Mv w.tail w'.tail:=by
 cases h with
 | nil=>exact .nil
 | cons _ h=>exact h
theorem Mv.isT {w w':List Tok} (h:Mv w w') (x:Str):isT x w'=isT x w:=by
 cases h<;>rfl
section
variable {α β σ:Type} {P:α→α→Prop} {Q:β→β→Prop}
@[reducible] def fz (a b:Int):Fault:=⟨12,[],a,b⟩
def Rd.pl (P:α→α→Prop):Rd α→Rd α→Prop
 | .bad f,_=>f.code≠0
 | .ok a w n,r=>∃ b w',r=.ok b w' n∧P a b∧Mv w w'
def Pl (P:α→α→Prop) (F1 F2:List Tok→Nat→Rd α):Prop:=∀ w w' n,Mv w w'→(F1 w n).pl P (F2 w' n)
theorem pl_bad {f:Fault} {r:Rd α} (h:f.code≠0:=by first|decide|simp[failAt,limAt,fz]):(Rd.bad f:Rd α).pl P r:=h
theorem pl_ok {a b:α} (h:P a b) {w w':List Tok} (hw:Mv w w') (n:Nat):(Rd.ok a w n).pl P (.ok b w' n):=⟨b,w',rfl,h,hw⟩
theorem Pl.ok {a b:α} (h:P a b):Pl P (fun w n=>.ok a w n) (fun w n=>.ok b w n):=fun w w' n hw=>pl_ok h hw n
theorem pl_bind {r1 r2:Rd α} {k1 k2:α→List Tok→Nat→Rd β} (h:r1.pl P r2) (hk:∀ a b,P a b→Pl Q (k1 a) (k2 b)):(r1.bind k1).pl Q (r2.bind k2):=by
 cases r1 with
 | bad f=>exact h
 | ok a w n =>
  obtain ⟨b,w',rfl,hp,hw⟩:=h;exact hk a b hp w w' n hw
theorem Pl.bind {F1 F2:List Tok→Nat→Rd α} {k1 k2:α→List Tok→Nat→Rd β} (h:Pl P F1 F2) (hk:∀ a b,P a b→Pl Q (k1 a) (k2 b)) :
  Pl Q (fun w n=>(F1 w n).bind (k1 ·)) (fun w n=>(F2 w n).bind (k2 ·)):=fun w w' n hw=>pl_bind (h w w' n hw) hk
theorem pl_ite (c:Prop) [Decidable c] {r1 r2 s1 s2:Rd α} (h:r1.pl P r2) (g:s1.pl P s2):(if c then r1 else s1).pl P (if c then r2 else s2):=by
 by_cases hc:c
 ·simp only[hc,if_true];exact h
 ·simp only[hc,if_false];exact g
theorem pl_iteH (c:Prop) [Decidable c] {r1 r2 s1 s2:Rd α} (h:c→r1.pl P r2) (g:¬ c→s1.pl P s2):(if c then r1 else s1).pl P (if c then r2 else s2):=by
 by_cases hc:c
 ·simp only[hc,if_true];exact h hc
 ·simp only[hc,if_false];exact g hc
theorem Pl.ite (c:Prop) [Decidable c] {F1 F2 G1 G2:List Tok→Nat→Rd α} (h:Pl P F1 F2) (g:Pl P G1 G2) :
  Pl P (fun w n=>if c then F1 w n else G1 w n) (fun w n=>if c then F2 w n else G2 w n):=fun w w' n hw=>pl_ite c (h w w' n hw) (g w w' n hw)
theorem Pl.isT (x:Str) {F1 F2 G1 G2:List Tok→Nat→Rd α} (h:Pl P F1 F2) (g:Pl P G1 G2) :
  Pl P (fun w n=>if Go.AV.isT x w=true then F1 w.tail n else G1 w n) (fun w n=>if Go.AV.isT x w=true then F2 w.tail n else G2 w n):=fun w w' n hw=>by
 simp only[hw.isT x];exact pl_ite _ (h _ _ n hw.tail) (g _ _ n hw)
theorem Pl.isT2 (x y:Str) {F1 F2 G1 G2:List Tok→Nat→Rd α} (h:Pl P F1 F2) (g:Pl P G1 G2) :
  Pl P (fun w n=>if Go.AV.isT x w=true∨Go.AV.isT y w=true then F1 w n else G1 w n) (fun w n=>if Go.AV.isT x w=true∨Go.AV.isT y w=true then F2 w n else G2 w n):=fun w w' n hw=>by
 simp only[hw.isT x,hw.isT y];exact pl_ite _ (h _ _ n hw) (g _ _ n hw)
theorem Pl.bad {f:List Tok→Nat→Fault} {F2:List Tok→Nat→Rd α} (h:∀ w n,(f w n).code≠0):Pl P (fun w n=>.bad (f w n)) F2:=fun w w' n hw=>h w n
theorem Pl.of {F1 F2:List Tok→Nat→Rd α} (h0:∀ n,(F1 [] n).pl P (F2 [] n)) (h1:∀ t l c w w' n,Adj (t.to l c) w'→Mv w w'→(F1 (t::w) n).pl P (F2 (t.to l c::w') n)):Pl P F1 F2:=by
 intro w w' n hw;cases hw with
 | nil=>exact h0 n
 | cons ha hw=>exact h1 _ _ _ _ _ n ha hw
theorem Pl.len {F1 F2:Nat→List Tok→Nat→Rd α} (h:∀ f,Pl P (F1 f) (F2 f)):Pl P (fun w n=>F1 (w.length+1) w n) (fun w n=>F2 (w.length+1) w n):=fun w w' n hw=>by
 show (F1 (w.length+1) w n).pl P (F2 (w'.length+1) w' n);rw[← hw.len];exact h _ w w' n hw
end
section
variable {α σ:Type} {a1 b1:Int} {f2:Fault} {P:α→α→Prop}
theorem want_pl (x:Str):Pl Eq (wantR (fz a1 b1) x) (wantR f2 x):=by
 have h:=Pl.isT x (Pl.ok (P:=Eq) (rfl:()=())) (Pl.bad (P:=Eq) (f:=fun w _=>failAt (fz a1 b1) 11 w) (F2:=fun w _=>.bad (failAt f2 11 w)) (fun w n=>by cases w<;>simp[failAt,fz]));exact h
theorem name_pl:Pl Eq (nameR (fz a1 b1)) (nameR f2):=Pl.of (fun n=>pl_bad) (fun t l c w w' n ha hw=>pl_ite _ (pl_ok rfl hw n) pl_bad)
theorem number_pl (most:Int):Pl Eq (numberR (fz a1 b1) most) (numberR f2 most):=Pl.of (fun n=>pl_bad) (fun t l c w w' n ha hw=>pl_ite _ (pl_ite _ pl_bad (pl_ok rfl hw n)) pl_bad)
theorem room_pl (a b:Nat):Pl Eq (roomR (fz a1 b1) a b) (roomR f2 a b):=fun w w' n hw=>pl_ite _ (pl_bad (by cases w<;>simp[limAt,fz])) (pl_ok rfl hw n)
theorem loop_pl (sep:Str) {S:σ→σ→Prop} {one1 one2:σ→List Tok→Nat→Rd σ} (h:∀ a b,S a b→Pl S (one1 a) (one2 b)):∀ (f:Nat) (a b:σ),S a b→Pl S (loopR (fz a1 b1) sep one1 f a) (loopR f2 sep one2 f b)
 | 0,a,b,_=>fun w w' n hw=>pl_bad
 | f+1,a,b,hab=>by
  have ih:=loop_pl sep h f
  have e:=Pl.bind (h a b hab) (Q:=S) (k1:=fun a w n=>if isT sep w=true then loopR (fz a1 b1) sep one1 f a w.tail n else .ok a w n) (k2:=fun a w n=>if isT sep w=true then loopR f2 sep one2 f a w.tail n else .ok a w n)
   (fun a b hab=>Pl.isT sep (ih a b hab) (Pl.ok hab))
  exact e
theorem list_pl {L:List α→List α→Prop} (happ:∀ {l l':List α} {a b:α},L l l'→P a b→L (l++[a]) (l'++[b])) {one1 one2:List α→List Tok→Nat→Rd α} (h:∀ l l',L l l'→Pl P (one1 l) (one2 l')) {acc acc':List α} (hacc:L acc acc') :
  Pl L (listR (fz a1 b1) one1 acc) (listR f2 one2 acc') :=
 Pl.len (F1:=fun f w n=>loopR (fz a1 b1) [44] (fun acc w n=>(one1 acc w n).bind fun a w n=>.ok (acc++[a]) w n) f acc w n) (F2:=fun f w n=>loopR f2 [44] (fun acc w n=>(one2 acc w n).bind fun a w n=>.ok (acc++[a]) w n) f acc' w n)
  (fun f=>loop_pl [44] (fun a b hab=>Pl.bind (h a b hab) (fun x y hxy=>Pl.ok (happ hab hxy))) f acc acc' hacc)
theorem list_eq {one1 one2:List α→List Tok→Nat→Rd α} (h:∀ l,Pl Eq (one1 l) (one2 l)) (acc:List α):Pl Eq (listR (fz a1 b1) one1 acc) (listR f2 one2 acc) :=
 list_pl (L:=Eq) (P:=Eq) (fun h1 h2=>by rw[h1,h2]) (fun l l' e=>by subst e;exact h l) rfl
theorem node_pl (t u:Tok):Pl Eq (nodeR t) (nodeR u):=fun w w' n hw=>pl_ite _ pl_bad (pl_ok rfl hw _)
theorem rest_pl (t u:Tok) (last:Bool) (sort:Str):Pl Eq (restR (fz a1 b1) t last sort) (restR f2 u last sort):=by
 refine Pl.of (fun n=>pl_ok rfl .nil n) (fun x l c w w' n ha hw=>?_);refine pl_ite _ ?_ (pl_ok rfl (.cons ha hw) n);cases hw with
 | nil=>exact pl_bad
 | cons ha hw=>exact pl_ite _ (pl_ite _ pl_bad (pl_bind (node_pl t u _ _ n hw) (fun _ _ _=>Pl.ok rfl))) pl_bad
theorem kid_pl (t u:Tok) {tm1 tm2:List Tok→Nat→Rd Tm} (h:Pl Eq tm1 tm2) (acc:List Tm):Pl Eq (kidR false (fz a1 b1) t tm1 acc) (kidR false f2 u tm2 acc):=by
 by_cases h8:acc.length=8
 ·refine Pl.of (fun n=>by simp only[kidR,h8,if_true];exact pl_bad) (fun x l c w w' n ha hw=>?_);simp only[kidR,h8,if_true];exact pl_ite _ pl_bad (h _ _ n (.cons ha hw))
 ·have e:∀ f t tm,kidR false f t tm acc=tm:=fun f t tm=>by funext w n;simp only[kidR,h8,if_false]
  rw[e,e];exact h
theorem named_pl (t u:Tok) {tm1 tm2:List Tok→Nat→Rd Tm} (h:Pl Eq tm1 tm2) (x:Tok) (l c:Int):Pl Eq (namedR false (fz a1 b1) t tm1 x) (namedR false f2 u tm2 (x.to l c)):=by
 have e:=Pl.ite (P:=Eq) (x.text=[116,114,117,101]) (Pl.ok (rfl:Tm.mk 2 1 [] [] [] []=_)) (Pl.ite (x.text=[102,97,108,115,101]) (Pl.ok (rfl:Tm.mk 2 0 [] [] [] []=_))
  (Pl.isT [58] (Pl.bind (name_pl (a1 := a1) (b1 := b1) (f2 := f2)) (fun y z hyz => Pl.ok (congrArg (fun y => Tm.mk 6 0 x.text y [] []) hyz)))
   (Pl.bind (want_pl (a1 := a1) (b1 := b1) (f2 := f2) [40]) (fun _ _ _ => Pl.isT [41] (Pl.ok (rfl : Tm.mk 5 0 x.text [] [] [] = _))
    (Pl.bind (list_eq (a1:=a1) (b1:=b1) (f2:=f2) (kid_pl (a1:=a1) (b1:=b1) (f2:=f2) t u h) []) (fun y z hyz=>Pl.bind (want_pl (a1:=a1) (b1:=b1) (f2:=f2) [41]) (fun _ _ _=>Pl.ok (congrArg (fun y=>Tm.mk 5 0 x.text [] y []) hyz))))))))
 exact e
theorem ent_pl {tm1 tm2:List Tok→Nat→Rd Tm} (h:Pl Eq tm1 tm2) (acc acc':List Tm) (hacc:acc=acc'):Pl Eq (entR (fz a1 b1) tm1 acc) (entR f2 tm2 acc'):=by
 subst hacc;have e:=Pl.bind (Q:=Eq) h (fun k k' hk=>Pl.bind (want_pl (a1:=a1) (b1:=b1) (f2:=f2) [45,62]) (fun _ _ _=>Pl.bind h (fun v v' hv=>Pl.ok (by rw[hk,hv]:acc++[k,v]=acc++[k',v']))));exact e
theorem signed_pl (t u:Tok) {tm1 tm2:List Tok→Nat→Rd Tm} (h:Pl Eq tm1 tm2) (last:Bool) (x:Tok) (l c:Int) (hx:x.kind≠1∧x.kind≠2∧x.kind≠3) (w w':List Tok) (n:Nat) (ha:Adj (x.to l c) w') (hw:Mv w w') :
  (signedR (fz a1 b1) t tm1 last x w n).pl Eq (signedR f2 u tm2 last (x.to l c) w' n):=by
 have el:Pl Eq (fun w n=>loopR (fz a1 b1) [44] (entR (fz a1 b1) tm1) (w.length+1) [] w n) (fun w n=>loopR f2 [44] (entR f2 tm2) (w.length+1) [] w n) :=
  Pl.len (F1:=fun f w n=>loopR (fz a1 b1) [44] (entR (fz a1 b1) tm1) f [] w n) (F2:=fun f w n=>loopR f2 [44] (entR f2 tm2) f [] w n) (fun f=>loop_pl [44] (ent_pl h) f [] [] rfl)
 refine pl_iteH _ (fun hm=>?_) (fun _=>pl_ite _ ?_ (pl_ite _ ?_ (pl_ite _ ?_ (pl_ok rfl hw n))))
 ·cases hw with
  | nil=>exact pl_bad
  | @cons v l2 c2 z z' ha2 hw =>
   by_cases hc:v.kind=2∧v.line=x.line∧v.col=x.col+1
   ·have h2:=ha _ _ rfl hx.1 hx.2.1 hx.2.2 hm hc.1;show (if _ then _ else _:Rd Tm).pl Eq (if _ then _ else _);rw[if_pos hc,if_pos ⟨hc.1,h2⟩];exact pl_ok rfl hw n
   ·show (if _ then _ else _:Rd Tm).pl Eq (if _ then _ else _);rw[if_neg hc];exact pl_bad
 ·cases hw with
  | nil=>exact pl_bad
  | cons ha2 hw=>exact pl_ite _ (pl_ok rfl hw n) pl_bad
 ·exact (Pl.bind (P:=Eq) (Q:=Eq) (Pl.isT2 [124] [93] (Pl.ok (rfl:([]:List Tm)=_)) (list_eq (a1:=a1) (b1:=b1) (f2:=f2) (fun _=>h) [])) (fun a a' e1=>Pl.bind (rest_pl (a1:=a1) (b1:=b1) (f2:=f2) t u last [76,105,115,116]) (fun r r' e2=>Pl.bind (want_pl (a1:=a1) (b1:=b1) (f2:=f2) [93]) (fun _ _ _=>Pl.ok (by rw[e1,e2]:Tm.mk 7 0 [] [] a r=Tm.mk 7 0 [] [] a' r'))))) w w' n hw
 ·exact (Pl.bind (P:=Eq) (Q:=Eq) (Pl.isT2 [124] [125] (Pl.ok (rfl:([]:List Tm)=_)) el) (fun a a' e1=>Pl.bind (rest_pl (a1:=a1) (b1:=b1) (f2:=f2) t u last [77,97,112]) (fun r r' e2=>Pl.bind (want_pl (a1:=a1) (b1:=b1) (f2:=f2) [125]) (fun _ _ _=>Pl.ok (by rw[e1,e2]:Tm.mk 8 0 [] [] a r=Tm.mk 8 0 [] [] a' r'))))) w w' n hw
theorem term_pl (t u:Tok):∀ (k:Nat),Pl Eq (termR false (fz a1 b1) t k) (termR false f2 u k)
 | 0=>Pl.of (fun n=>pl_bad) (fun x l c w w' n ha hw=>pl_ite _ pl_bad pl_bad)
 | k+1=>by
  have ih:=term_pl t u k;refine Pl.of (fun n=>pl_bad) (fun x l c w w' n ha hw=>?_);refine pl_ite _ ?_ pl_bad;unfold nodeR;by_cases hn:2000<n+1
  ·simp only[hn,if_true];exact pl_bad
  ·simp only[hn,if_false,Rd.bind];refine pl_iteH _ (fun _=>pl_ok rfl hw _) (fun h2=>pl_iteH _ (fun _=>pl_ok rfl hw _) (fun h3=>pl_iteH _ (fun _=>named_pl t u ih x l c _ _ _ hw) (fun h1=>?_)));exact signed_pl t u ih _ x l c ⟨h1,h2,h3⟩ w w' _ ha hw
theorem whole_pl:Pl Eq (wholeR false (fz a1 b1)) (wholeR false f2):=by
 refine Pl.of (fun n=>pl_bad) (fun x l c w w' n ha hw=>?_);have h:=term_pl (a1:=a1) (b1:=b1) (f2:=f2) x (x.to l c) 60 _ _ 0 (Mv.cons ha hw);simp only[wholeR];cases hr:termR false (fz a1 b1) x 60 (x::w) 0 with
 | bad f=>rw[hr] at h;exact h
 | ok a w2 m =>
  rw[hr] at h;obtain ⟨b,w3,h1,h2,h3⟩:=h;rw[h1];exact pl_ok h2 h3 n
theorem some_pl {k1 k2:List Tok→Nat→Rd α} (h:Pl P k1 k2) (a b:Nat):Pl P (fun w n=>someR (fz a1 b1) a b w n k1) (fun w n=>someR f2 a b w n k2) :=
 Pl.of (fun n=>pl_bad) (fun t l c w w' n ha hw=>pl_ite _ pl_bad (h _ _ n (.cons ha hw)))
theorem conds_pl:Pl Eq (condsR false (fz a1 b1)) (condsR false f2):=by
 have one:∀ acc:List Tm,Pl Eq (fun w n=>match w with|[]=>.bad (fz a1 b1)|t::r=>if t.begins=true then (roomR (fz a1 b1) acc.length 20 (t::r) n).bind fun _ w n=>wholeR false (fz a1 b1) w n else wholeR false (fz a1 b1) (t::r) n)
   (fun w n=>match w with|[]=>.bad f2|t::r=>if t.begins=true then (roomR f2 acc.length 20 (t::r) n).bind fun _ w n=>wholeR false f2 w n else wholeR false f2 (t::r) n):=fun acc =>
  Pl.of (fun n=>pl_bad) (fun t l c w w' n ha hw=>pl_ite _ (pl_bind (room_pl (a1:=a1) (b1:=b1) (f2:=f2) _ _ _ _ n (Mv.cons ha hw)) (fun _ _ _=>whole_pl)) (whole_pl _ _ n (.cons ha hw)))
 have e:=Pl.isT [105,102] (list_eq (a1:=a1) (b1:=b1) (f2:=f2) one []) (Pl.ok (rfl:([]:List Tm)=_));exact e
def Eqn.st (a:Eqn):Eqn:={ a with line:=0,col:=0 }
def Cel.st (a:Cel):Cel:={ a with line:=0,col:=0 }
def Part.st (a:Part):Part:={ a with line:=0,col:=0 }
def Rul.st (a:Rul):Rul:={ a with parts:=a.parts.map Part.st,line:=0,col:=0 }
def Dfn.st (a:Dfn):Dfn:={ a with eqs:=a.eqs.map Eqn.st,once:=a.once.map Cel.st,many:=a.many.map Cel.st,rules:=a.rules.map Rul.st }
theorem cell_pl:Pl (fun a b=>a.st=b.st) (cellR false (fz a1 b1)) (cellR false f2):=by
 refine Pl.of (fun n=>pl_bad) (fun t l c w w' n ha hw=>?_)
 exact (Pl.bind (P:=Eq) (name_pl (a1:=a1) (b1:=b1) (f2:=f2)) (fun x x' e1=>Pl.bind (want_pl (a1:=a1) (b1:=b1) (f2:=f2) [58]) (fun _ _ _=>Pl.bind (name_pl (a1:=a1) (b1:=b1) (f2:=f2)) (fun y y' e2=>Pl.bind (want_pl (a1:=a1) (b1:=b1) (f2:=f2) [61]) (fun _ _ _=>Pl.bind (whole_pl (a1:=a1) (b1:=b1) (f2:=f2))
  (fun i i' e3=>Pl.ok (P:=fun a b:Cel=>a.st=b.st) (by subst e1;subst e2;subst e3;rfl:(⟨x,y,i,t.line,t.col⟩:Cel).st=(⟨x',y',i',l,c⟩:Cel).st))))))) _ _ n (Mv.cons ha hw)
theorem pieces_pl:∀ (f:Nat) (ps:List Piece) (az:List Str) (tx:Bool),Pl Eq (piecesR (fz a1 b1) f ps az tx) (piecesR f2 f ps az tx)
 | 0,ps,az,tx=>fun w w' n hw=>pl_bad
 | f+1,ps,az,tx=>by
  refine Pl.of (fun n=>pl_bad) (fun t l c w w' n ha hw=>?_);refine pl_ite _ (pl_ok rfl hw n) (pl_ite _ (pl_ite _ pl_bad (pl_ite _ ?_ (pl_ite _ pl_bad ?_))) pl_bad)
  ·exact pieces_pl f _ _ _ _ _ n hw
  ·exact pieces_pl f _ _ _ _ _ n hw
theorem attrs_pl:∀ (f:Nat) (o:Opr),Pl Eq (attrsR (fz a1 b1) f o) (attrsR f2 f o)
 | 0,o=>fun w w' n hw=>pl_bad
 | f+1,o=>by
  have ih:=attrs_pl f;refine Pl.of (fun n=>pl_bad) (fun t l c w w' n ha hw=>?_);refine pl_ite _ (pl_ok rfl (.cons ha hw) n) (pl_ite _ pl_bad (pl_ite _ (pl_ite _ pl_bad ?_) (pl_ite _ (pl_ite _ ?_ pl_bad) (pl_ite _ (pl_ite _ ?_ pl_bad) (pl_ite _ (pl_ite _ pl_bad ?_) pl_bad)))))
  ·exact pl_bind (number_pl (a1:=a1) (b1:=b1) (f2:=f2) 20 _ _ n hw) (fun m m' e=>by subst e;exact ih _)
  ·exact ih _ _ _ n hw
  ·exact ih _ _ _ n hw
  ·exact pl_bind (want_pl (a1:=a1) (b1:=b1) (f2:=f2) [40] _ _ n hw) (fun _ _ _=>Pl.bind (list_eq (a1:=a1) (b1:=b1) (f2:=f2) (fun _=>number_pl (a1:=a1) (b1:=b1) (f2:=f2) 8) []) (fun a a' e=>Pl.bind (want_pl (a1:=a1) (b1:=b1) (f2:=f2) [41]) (fun _ _ _=>by subst e;exact ih _)))
theorem op_pl:Pl Eq (opR (fz a1 b1)) (opR f2):=by
 have e:=Pl.bind (Q:=Eq) (name_pl (a1:=a1) (b1:=b1) (f2:=f2)) (fun x x' e1=>Pl.bind (want_pl (a1:=a1) (b1:=b1) (f2:=f2) [58]) (fun _ _ _=>Pl.bind (Pl.len (P:=Eq) (F1:=fun f=>piecesR (fz a1 b1) f [] [] false) (F2:=fun f=>piecesR f2 f [] [] false) (fun f=>pieces_pl f [] [] false))
  (fun p p' e2 => Pl.bind (name_pl (a1 := a1) (b1 := b1) (f2 := f2)) (fun y y' e3 => (show Pl Eq (fun w n => attrsR (fz a1 b1) (w.length + 1) ⟨x,p.2.1,y,if p.2.2 = true then p.1 else [],0,0,[]⟩ w n) (fun w n => attrsR f2 (w.length + 1) ⟨x',p'.2.1,y',if p'.2.2 = true then p'.1 else [],0,0,[]⟩ w n) from by
   subst e1;subst e2;subst e3;exact Pl.len (F1:=fun f=>attrsR (fz a1 b1) f ⟨x,p.2.1,y,if p.2.2=true then p.1 else [],0,0,[]⟩) (F2:=fun f=>attrsR f2 f ⟨x,p.2.1,y,if p.2.2=true then p.1 else [],0,0,[]⟩) (fun f=>attrs_pl f _))))))
 exact e
theorem args_pl:∀ (f:Nat) (az:List Str),Pl Eq (argsR (fz a1 b1) f az) (argsR f2 f az)
 | 0,az=>fun w w' n hw=>pl_bad
 | f+1,az=>by
  have e:=Pl.isT [45,62] (Pl.ok (rfl:az=_)) (Pl.bind (some_pl (a1:=a1) (b1:=b1) (f2:=f2) (name_pl (a1:=a1) (b1:=b1) (f2:=f2)) 8 az.length) (fun x x' e=>(show Pl Eq (argsR (fz a1 b1) f (az++[x])) (argsR f2 f (az++[x'])) from by subst e;exact args_pl f (az++[x]))));exact e
theorem fun_pl:Pl Eq (funR (fz a1 b1)) (funR f2):=by
 have e:=Pl.bind (Q:=Eq) (name_pl (a1:=a1) (b1:=b1) (f2:=f2)) (fun x x' e1=>Pl.bind (want_pl (a1:=a1) (b1:=b1) (f2:=f2) [58]) (fun _ _ _=>Pl.bind (Pl.len (P:=Eq) (F1:=fun f=>argsR (fz a1 b1) f []) (F2:=fun f=>argsR f2 f []) (fun f=>args_pl f []))
  (fun az az' e2=>Pl.bind (name_pl (a1:=a1) (b1:=b1) (f2:=f2)) (fun y y' e3=>Pl.ok (by subst e1;subst e2;subst e3;rfl:(⟨x,az,y,[],0,0,[]⟩:Opr)=⟨x',az',y',[],0,0,[]⟩)))))
 exact e
theorem part_pl (r r':Rul) (hr:r.st=r'.st):Pl (fun a b=>a.st=b.st) (partR false (fz a1 b1) r) (partR false f2 r'):=by
 have h1:r.name=r'.name:=(congrArg Rul.name hr :);have h2:r.parts.map Part.st=r'.parts.map Part.st:=(congrArg Rul.parts hr :);have h3:r.cond=r'.cond:=(congrArg Rul.cond hr :);have h4:r.new=r'.new:=(congrArg Rul.new hr :);have h5:r.drop=r'.drop:=(congrArg Rul.drop hr :);refine Pl.of (fun n=>pl_bad) (fun t l c w w' n ha hw=>?_);refine pl_ite _ ?_ (pl_ite _ ?_ ?_)
 ·exact pl_bind (want_pl (a1:=a1) (b1:=b1) (f2:=f2) [40] _ _ n hw) (fun _ _ _=>Pl.bind (list_eq (a1:=a1) (b1:=b1) (f2:=f2) (fun _=>whole_pl (a1:=a1) (b1:=b1) (f2:=f2)) []) (fun a a' e=>Pl.bind (want_pl (a1:=a1) (b1:=b1) (f2:=f2) [41]) (fun _ _ _=>Pl.ok (by subst e;simp only[Rul.st,h1,h2,h3,h4,h5]))))
 ·exact pl_bind (want_pl (a1:=a1) (b1:=b1) (f2:=f2) [64] _ _ n hw) (fun _ _ _=>Pl.bind (name_pl (a1:=a1) (b1:=b1) (f2:=f2)) (fun x x' e=>Pl.ok (by subst e;simp only[Rul.st,h1,h2,h3,h4,h5])))
 ·exact pl_bind (name_pl (a1:=a1) (b1:=b1) (f2:=f2) _ _ n (.cons ha hw)) (fun x x' e1=>Pl.bind (Pl.isT [64] (name_pl (a1:=a1) (b1:=b1) (f2:=f2)) (Pl.ok (rfl:([]:Str)=_))) (fun y y' e2=>Pl.bind (want_pl (a1:=a1) (b1:=b1) (f2:=f2) [58]) (fun _ _ _=>Pl.bind whole_pl (fun a a' e3 =>
   Pl.bind (P:=Eq) (Pl.isT [61,62] (Pl.bind (P:=Eq) (Q:=Eq) whole_pl (fun u u' e=>Pl.ok (congrArg (fun u=>[u]) e))) (Pl.ok (rfl:([]:List Tm)=_))) (fun rs rs' e4=>Pl.ok (by subst e1;subst e2;subst e3;subst e4;simp only[Rul.st,List.map_append,List.map_cons,List.map_nil,Part.st,h1,h2,h3,h4,h5]))))))
theorem parts_pl (a b:Rul × Nat) (h:a.1.st=b.1.st∧a.2=b.2):Pl (fun a b=>a.1.st=b.1.st∧a.2=b.2) (partsR false (fz a1 b1) a) (partsR false f2 b):=by
 obtain ⟨a,i⟩:=a;obtain ⟨b,j⟩:=b;obtain ⟨h1,rfl⟩:=h;exact Pl.of (fun n=>pl_bad) (fun t l c w w' n ha hw=>pl_ite _ pl_bad (pl_bind (part_pl a b h1 _ _ n (.cons ha hw)) (fun x y e=>Pl.ok ⟨e,rfl⟩)))
theorem rule_pl (li co li' co':Int):Pl (fun a b=>a.st=b.st) (ruleR false (fz a1 b1) li co) (ruleR false f2 li' co'):=by
 have e:=Pl.bind (Q:=fun a b:Rul=>a.st=b.st) (name_pl (a1:=a1) (b1:=b1) (f2:=f2)) (fun x x' e1=>Pl.bind (want_pl (a1:=a1) (b1:=b1) (f2:=f2) [58]) (fun _ _ _ =>
  Pl.bind (Pl.len (F1:=fun f=>loopR (fz a1 b1) [59] (partsR false (fz a1 b1)) f (⟨x,[],[],[],[],li,co⟩,0)) (F2:=fun f=>loopR f2 [59] (partsR false f2) f (⟨x',[],[],[],[],li',co'⟩,0))
   (fun f => loop_pl [59] parts_pl f _ _ ⟨by rw [e1]; rfl,rfl⟩)) (fun a b hab => Pl.bind (conds_pl (a1 := a1) (b1 := b1) (f2 := f2)) (fun k k' e2 => Pl.ok (by
    have h1:a.1.name=b.1.name:=(congrArg Rul.name hab.1 :);have h2:a.1.parts.map Part.st=b.1.parts.map Part.st:=(congrArg Rul.parts hab.1 :);have h4:a.1.new=b.1.new:=(congrArg Rul.new hab.1 :);have h5:a.1.drop=b.1.drop:=(congrArg Rul.drop hab.1 :);subst e2;simp only[Rul.st,h1,h2,h4,h5]:({ a.1 with cond:=k }:Rul).st=({ b.1 with cond:=k' }:Rul).st)))))
 exact e
structure DSt (d d':Dfn):Prop where
 name:d.name=d'.name
 sig:d.sig=d'.sig
 eqs:d.eqs.map Eqn.st=d'.eqs.map Eqn.st
 once:d.once.map Cel.st=d'.once.map Cel.st
 kind:d.kind=d'.kind
 many:d.many.map Cel.st=d'.many.map Cel.st
 rules:d.rules.map Rul.st=d'.rules.map Rul.st
 start:d.start=d'.start
 watch:d.watch=d'.watch
theorem map_len {α β:Type} {f:α→β} {l l':List α} (h:l.map f=l'.map f):l.length=l'.length:=by
 have:=congrArg List.length h;simpa using this
theorem map_app {α β:Type} {f:α→β} {l l':List α} {a b:α} (h:l.map f=l'.map f) (e:f a=f b):(l++[a]).map f=(l'++[b]).map f:=by
 simp only[List.map_append,h,List.map_cons,e,List.map_nil]
theorem place_pl (d d':Dfn) (h:DSt d d') (t:Tok) (l c:Int) (w w':List Tok) (n:Nat) (ha:Adj (t.to l c) w') (hw:Mv w w'):(placeR false (fz a1 b1) d t w n).pl DSt (placeR false f2 d' (t.to l c) w' n):=by
 obtain ⟨nm,sg,es,on,ki,ma,ru,sa,wa⟩:=d;obtain ⟨nm',sg',es',on',ki',ma',ru',sa',wa'⟩:=d';obtain ⟨g1,g2,g3,g4,g5,g6,g7,g8,g9⟩:=h;simp only at g1 g2 g3 g4 g5 g6 g7 g8 g9;subst g1;subst g2;subst g5;subst g8;subst g9;simp only[placeR,← map_len g4];refine pl_ite _ (pl_ite _ ?_ pl_bad) (pl_ite _ (pl_ite _ ?_ pl_bad) (pl_ite _ (pl_ite _ pl_bad ?_) (pl_ite _ (pl_ite _ ?_ pl_bad) pl_bad)))
 ·exact pl_bind (name_pl (a1:=a1) (b1:=b1) (f2:=f2) _ _ n hw) (fun x x' e=>Pl.ok ⟨rfl,rfl,g3,g4,rfl,g6,g7,e,rfl⟩)
 ·exact pl_bind (name_pl (a1:=a1) (b1:=b1) (f2:=f2) _ _ n hw) (fun x x' e=>Pl.ok ⟨rfl,rfl,g3,g4,rfl,g6,g7,rfl,e⟩)
 ·exact pl_bind (cell_pl (a1:=a1) (b1:=b1) (f2:=f2) _ _ n hw) (fun x x' e=>Pl.ok ⟨rfl,rfl,g3,map_app g4 e,rfl,g6,g7,rfl,rfl⟩)
 ·exact pl_bind (name_pl (a1:=a1) (b1:=b1) (f2:=f2) _ _ n hw) (fun x x' e=>Pl.bind (want_pl (a1:=a1) (b1:=b1) (f2:=f2) [40]) (fun _ _ _ =>
   Pl.bind (list_pl (a1:=a1) (b1:=b1) (f2:=f2) (P:=fun a b:Cel=>a.st=b.st) (L:=fun l l'=>l.map Cel.st=l'.map Cel.st) map_app (fun l l' hl=>by rw[map_len hl];exact some_pl cell_pl 12 l'.length) g6)
    (fun a a' e2=>Pl.bind (want_pl (a1:=a1) (b1:=b1) (f2:=f2) [41]) (fun _ _ _=>Pl.ok ⟨rfl,rfl,g3,g4,e,e2,g7,rfl,rfl⟩))))
theorem item_pl (d d':Dfn) (h:DSt d d'):Pl DSt (itemR false (fz a1 b1) d) (itemR false f2 d'):=by
 have h0:=h;obtain ⟨nm,sg,es,on,ki,ma,ru,sa,wa⟩:=d;obtain ⟨nm',sg',es',on',ki',ma',ru',sa',wa'⟩:=d';obtain ⟨g1,g2,g3,g4,g5,g6,g7,g8,g9⟩:=h;simp only at g1 g2 g3 g4 g5 g6 g7 g8 g9;subst g1;subst g2;subst g5;subst g8;subst g9;refine Pl.of (fun n=>pl_bad) (fun t l c w w' n ha hw=>?_);simp only[itemR,← map_len g3,← map_len g7];refine pl_bind (P:=DSt) ?_ (fun d d' hd=>Pl.bind (want_pl (a1:=a1) (b1:=b1) (f2:=f2) [46]) (fun _ _ _=>Pl.ok hd));refine pl_ite _ ?_ (pl_ite _ (pl_ite _ pl_bad ?_) (pl_ite _ ?_ (pl_ite _ (pl_ite _ pl_bad (pl_ite _ ?_ ?_)) (pl_ite _ (pl_ite _ pl_bad ?_) (pl_ite _ (pl_ite _ pl_bad ?_) (place_pl _ _ h0 t l c w w' n ha hw))))))
 ·exact pl_bind (list_eq (a1:=a1) (b1:=b1) (f2:=f2) (fun acc=>some_pl (a1:=a1) (b1:=b1) (f2:=f2) (name_pl (a1:=a1) (b1:=b1) (f2:=f2)) 40 acc.length) sg.sorts _ _ n hw) (fun a a' e=>Pl.ok ⟨rfl,by rw[e],g3,g4,rfl,g6,g7,rfl,rfl⟩)
 ·exact pl_bind (name_pl (a1:=a1) (b1:=b1) (f2:=f2) _ _ n hw) (fun x x' e=>Pl.bind (want_pl (a1:=a1) (b1:=b1) (f2:=f2) [60]) (fun _ _ _=>Pl.bind (name_pl (a1:=a1) (b1:=b1) (f2:=f2)) (fun y y' e2=>Pl.ok ⟨rfl,by rw[e,e2],g3,g4,rfl,g6,g7,rfl,rfl⟩)))
 ·exact pl_bind (list_eq (a1:=a1) (b1:=b1) (f2:=f2) (fun _=>name_pl (a1:=a1) (b1:=b1) (f2:=f2)) [] _ _ n hw) (fun a a' e=>Pl.ok ⟨rfl,by rw[e],g3,g4,rfl,g6,g7,rfl,rfl⟩)
 ·exact pl_bind (op_pl (a1:=a1) (b1:=b1) (f2:=f2) _ _ n hw) (fun a a' e=>Pl.ok ⟨rfl,by rw[e],g3,g4,rfl,g6,g7,rfl,rfl⟩)
 ·exact pl_bind (fun_pl (a1:=a1) (b1:=b1) (f2:=f2) _ _ n hw) (fun a a' e=>Pl.ok ⟨rfl,by rw[e],g3,g4,rfl,g6,g7,rfl,rfl⟩)
 ·exact pl_bind (whole_pl (a1:=a1) (b1:=b1) (f2:=f2) _ _ n hw) (fun x x' e=>Pl.bind (want_pl (a1:=a1) (b1:=b1) (f2:=f2) [61]) (fun _ _ _=>Pl.bind (whole_pl (a1:=a1) (b1:=b1) (f2:=f2)) (fun y y' e2=>Pl.bind (conds_pl (a1:=a1) (b1:=b1) (f2:=f2)) (fun k k' e3 =>
   Pl.ok ⟨rfl,rfl,map_app g3 (by subst e;subst e2;subst e3;rfl),g4,rfl,g6,g7,rfl,rfl⟩))))
 ·exact pl_bind (rule_pl (a1:=a1) (b1:=b1) (f2:=f2) _ _ _ _ _ _ n hw) (fun x x' e=>Pl.ok ⟨rfl,rfl,g3,g4,rfl,g6,map_app g7 e,rfl,rfl⟩)
theorem items_pl:∀ (f:Nat) (d d':Dfn),DSt d d'→Pl DSt (itemsR false (fz a1 b1) f d) (itemsR false f2 f d')
 | 0,d,d',_=>fun w w' n hw=>pl_bad
 | f+1,d,d',h=>Pl.of (fun n=>pl_ok h .nil n) (fun t l c w w' n ha hw=>pl_bind (item_pl d d' h _ _ n (.cons ha hw)) (fun a b hab=>items_pl f a b hab))
theorem listEq_st {α β:Type} {f:α→β} {r:α→α→Bool} (h:∀ a b,f a=f b→r a b=true) {l l':List α} (e:l.map f=l'.map f):listEq r l l'=true :=
 (listEq_iff (map_len e)).2 fun i a b ha hb => h a b (by
  have:=congrArg (fun l=>l[i]?) e;simp only[List.getElem?_map,ha,hb,Option.map_some,Option.some.injEq] at this;exact this)
theorem Part.st_same (a b:Part) (h:a.st=b.st):a.same b=true:=by
 have e:a.same b=a.st.same b.st:=rfl;rw[e,h];exact Part.same_self _
theorem DSt.same {d d':Dfn} (h:DSt d d'):d.same d'=true:=by
 have e1:listEq Eqn.same d.eqs d'.eqs=true:=listEq_st (fun a b h=>by rw[show a.same b=a.st.same b.st from rfl,h];exact Eqn.same_self _) h.eqs;have ec:∀ {l l':List Cel},l.map Cel.st=l'.map Cel.st→listEq Cel.same l l'=true:=listEq_st (fun a b h=>by rw[show a.same b=a.st.same b.st from rfl,h];exact Cel.same_self _)
 have er:listEq Rul.same d.rules d'.rules=true:=listEq_st (fun a b h=>by
  have h1:a.name=b.name:=(congrArg Rul.name h :);have h2:a.parts.map Part.st=b.parts.map Part.st:=(congrArg Rul.parts h :);have h3:a.cond=b.cond:=(congrArg Rul.cond h :);have h4:a.new=b.new:=(congrArg Rul.new h :);have h5:a.drop=b.drop:=(congrArg Rul.drop h :);simp[Rul.same,h1,h3,h4,h5,listEq_st Part.st_same h2,tms_self,strs_self,listEq_self Fresh.same_self]) h.rules
 simp only[Dfn.same,h.name,h.kind,h.start,h.watch,h.sig,e1,ec h.once,ec h.many,er,Sig.same_self,decide_true,Bool.and_self]
theorem def_moved {T T':List Tok} (hw:Mv T T'):(∃ f,f.code≠0∧defR false (fz a1 b1) T=.bad f)∨∃ d w n d' w',defR false (fz a1 b1) T=.ok d w n∧defR false f2 T'=.ok d' w' n∧d.same d'=true:=by
 have e:Rd.pl DSt (defR false (fz a1 b1) T) (defR false f2 T') :=
  (Pl.bind (want_pl (a1 := a1) (b1 := b1) (f2 := f2) [108,97,110,103,117,97,103,101]) (fun _ _ _ => Pl.bind (name_pl (a1 := a1) (b1 := b1) (f2 := f2)) (fun x x' e => Pl.bind (want_pl (a1 := a1) (b1 := b1) (f2 := f2) [46]) (fun _ _ _ =>
   Pl.len (F1:=fun f=>itemsR false (fz a1 b1) f { noDfn with name:=x }) (F2:=fun f=>itemsR false f2 f { noDfn with name:=x' }) (fun f=>items_pl f _ _ ⟨e,rfl,rfl,rfl,rfl,rfl,rfl,rfl,rfl⟩))))) T T' 0 hw
 cases h:defR false (fz a1 b1) T with
 | bad f=>rw[h] at e;exact .inl ⟨f,e,rfl⟩
 | ok d w n =>
  rw[h] at e;obtain ⟨d',w',h1,h2,_⟩:=e;exact .inr ⟨d,w,n,d',w',rfl,h1,h2.same⟩
end
end Go.AV
end
section
namespace Go.AV
open Go Go.Proofs
theorem isLetter_den (s:St) (c:Int) (KV Kp) (hk:KV s (.bool (isLet c))):Den cx 261 [.int .u8 c] KV Kp s:=by
 unfold isLet at hk;refine Den.drop ?_;(refine Den.of_body (C:=cx) Tryz.func261 rfl rfl (gC6 rfl) ?_;refine wpC_ok (V:=[0,2]) _ _ _ _ ?_;simp only[go_sem,Tryz.ntmps261,Tryz.f261])
 (repeat' (first|exact DK.st hk (by (repeat (first|exact St.ge.refl _|refine St.ge_set (by simp only[]) ?_)))|((first|refine gC8 (fun h=>?_) (fun h=>?_)|refine gC9 (fun h=>?_) (fun h=>?_)|refine gD1 (fun h=>?_) (fun h=>?_))<;>simp only[go_sem,h]<;>(try simp only[h,Bool.true_and,Bool.false_and,Bool.and_true,Bool.and_false,Bool.or_true,Bool.true_or,Bool.or_false,Bool.false_or,Bool.not_true,Bool.not_false] at hk))))
theorem isPart_den (s:St) (c:Int) (KV Kp) (hk:KV s (.bool (isPart c))):Den cx 185 [.int .u8 c] KV Kp s:=by
 unfold isPart at hk;refine Den.drop ?_;(refine Den.of_body (C:=cx) Tryz.func185 rfl rfl (gC6 rfl) ?_;refine wpC_ok (V:=[0,2]) _ _ _ _ ?_;simp only[go_sem,Tryz.ntmps185,Tryz.f185])
 (repeat' (first|exact DK.st hk (by (repeat (first|exact St.ge.refl _|refine St.ge_set (by simp only[]) ?_)))|(refine isLetter_den _ _ _ _ ?_;simp only[go_sem])|((first|refine gC8 (fun h=>?_) (fun h=>?_)|refine gC9 (fun h=>?_) (fun h=>?_)|refine gD1 (fun h=>?_) (fun h=>?_))<;>simp only[go_sem,h]<;>(try simp only[h,Bool.true_and,Bool.false_and,Bool.and_true,Bool.and_false,Bool.or_true,Bool.true_or,Bool.or_false,Bool.false_or,Bool.not_true,Bool.not_false] at hk))))
theorem isName_den (s:St) (x:List UInt8) (KV Kp) (hk:KV s (.bool (isName x))):Den cx 196 [.str x] KV Kp s:=by
 refine Den.drop ?_;(refine Den.of_body (C:=cx) Tryz.func196 rfl rfl (gC6 rfl) ?_;refine wpC_ok (V:=[0,2,3,16,18,19,20,26]) _ _ _ _ ?_;simp only[go_sem,Tryz.ntmps196,Tryz.f196])
 (first|refine gC8 (fun h=>?_) (fun h=>?_)|refine gC9 (fun h=>?_) (fun h=>?_)|refine gD1 (fun h=>?_) (fun h=>?_))<;>simp only[go_sem,h]
 ·have:x=[]:=by simpa using h
  subst this;exact DK.here hk
 have hne:x≠[]:=by simpa using h
 obtain ⟨c,r,hx⟩:=List.exists_cons_of_ne_nil hne
 (first|refine gC8 (fun h=>?_) (fun h=>?_)|refine gC9 (fun h=>?_) (fun h=>?_)|refine gD1 (fun h=>?_) (fun h=>?_))<;>simp only[go_sem,h]
 ·have h40:¬ x.length≤40:=by simp at h;omega
  have:isName x=false:=by rw[hx] at h40 ⊢;simp only[isName,h40,decide_false,Bool.false_and]
  exact DK.here (by rwa[this] at hk)
 have h40:x.length≤40:=by simp at h;omega
 have h0:x[0]?=some c:=by rw[hx];rfl
 have hl0:0<x.length:=by rw[hx];exact Nat.zero_lt_succ _
 simp only[go_sem,h0,hl0];refine isLetter_den _ _ _ _ ?_;simp only[go_sem]
 (first|refine gC8 (fun h=>?_) (fun h=>?_)|refine gC9 (fun h=>?_) (fun h=>?_)|refine gD1 (fun h=>?_) (fun h=>?_))<;>simp only[go_sem,h]
 ·have:isName x=false:=by
   have:isLet c.toNat=false:=by simpa using h
   rw[hx];simp[isName,this]
  exact DK.here (by rwa[this] at hk)
 have hl:isLet c.toNat=true:=by simpa using h
 refine Ex.loop (fun i=>[(0,.str x),(18,.int .i64 x.length),(19,.int .i64 (i:Nat))]) (fun _=>s)
  (fun i=>i≤x.length∧∀ d∈x.take i,isPart d.toNat=true) (fun i=>x.length-i) 0 ⟨Nat.zero_le _,by simp⟩ ?_ (St.ge.refl s) ?_
 ·simp only[go_sem];rfl
 ·rintro i ⟨hi,hall⟩;refine wpC_ok (V:=[0,2,3,16,18,19,20,26]) _ _ _ _ ?_;simp only[go_sem]
  (first|refine gC8 (fun h=>?_) (fun h=>?_)|refine gC9 (fun h=>?_) (fun h=>?_)|refine gD1 (fun h=>?_) (fun h=>?_))<;>simp only[go_sem,h]
  ·have hix:i<x.length:=by simpa using h
   obtain ⟨d,hd⟩:∃ d,x[i]?=some d:=⟨_,List.getElem?_eq_getElem hix⟩
   simp only[go_sem,hd,hix];refine isPart_den _ _ _ _ ?_;simp only[go_sem]
   (first|refine gC8 (fun h=>?_) (fun h=>?_)|refine gC9 (fun h=>?_) (fun h=>?_)|refine gD1 (fun h=>?_) (fun h=>?_))<;>simp only[go_sem,h]
   ·have hp:isPart d.toNat=false:=by simpa using h
    have:isName x=false:=by
     rw[hx] at hd ⊢;simp only[isName,Bool.and_eq_false_iff];refine .inr (.inr (Bool.eq_false_iff.2 fun hall=>?_));rw[List.all_eq_true] at hall;have:=hall d (List.mem_of_getElem? hd);rw[hp] at this;cases this
    exact DK.here (by rwa[this] at hk)
   ·have hp:isPart d.toNat=true:=by simpa using h
    refine ⟨i+1,⟨by omega,?_⟩,by omega,?_,St.ge.refl s⟩
    ·intro q hq;rw[List.take_add_one,hd] at hq;simp only[List.mem_append,Option.toList_some,List.mem_singleton] at hq;rcases hq with hq|rfl
     ·exact hall q hq
     ·exact hp
    ·simp only[go_sem,wrap1 i (by omega)]
  ·have hix:i=x.length:=by simp at h;omega
   have:isName x=true:=by
    rw[hix,List.take_length] at hall;rw[hx] at hall h40 ⊢;simp only[isName,hl,List.all_eq_true,gD5,decide_eq_true_eq];exact ⟨h40,trivial,hall⟩
   exact DK.here (by rwa[this] at hk)
end Go.AV
end
section
namespace Go.AV
open Go Go.Proofs
theorem Den.extern {C : Cx} {f : FuncId} {fn : Func} {e : Array Value → Sem Value} (hf : C.P.funcs[f]? = some fn) (hname : (fn.name == "runtime.NumGoroutine") = false)
  (hb:fn.body.isNone=true) (hn:Extern.findNext fn=none) (he:Extern.find fn=some e) {args:List A} {s:St} {KV Kp:St→A→Prop}
  (h:∀ g vals,Rzs g args vals→∃ v a,(∀ w,(e vals.toArray).run C.P w=.ok v w)∧Rz g a v∧KV s a):Den C f args KV Kp s:=by
 intro F g w vals hR hv;obtain ⟨v,a,h1,h2,h3⟩:=h g vals hv;rw[run_callFunc_extern hf hname hb hn he,h1];exact ⟨g,a,s,Gh.le.refl g,hR,h2,h3⟩
theorem Rzs.two {g:Gh} {a b:A} {vals:List Value} (h:Rzs g [a,b] vals):∃ u v,vals=[u,v]∧Rz g a u∧Rz g b v:=by
 have hl:=h.1
 match vals,hl with
 | [u,v],_=>exact ⟨u,v,rfl,h.2 0 a u rfl rfl,h.2 1 b v rfl rfl⟩
theorem idxByte316_den (s:St) (x:Str) (c:UInt8) (KV Kp) (hk:KV s (.int .i64 (Lib.indexByte x c))):Den cx 316 [.str x,.int .u8 c.toNat] KV Kp s:=by
 refine Den.extern (C:=cx) Tryz.func316 rfl rfl rfl (e:=Extern.BytealgIndexByte.indexByte) (by kernel_rfl) fun g vals hv=>?_
 obtain ⟨u,v,rfl,r1,r2⟩:=hv.two;rw[r1.str_inv,r2.int_inv];refine ⟨_,_,fun w=>Lib.run_indexByteString _ _ w,.int _ _,?_⟩;simpa using hk
theorem count217_den (s:St) (x:Str) (c:UInt8) (KV Kp) (hk:KV s (.int .i64 (x.count c:Nat))):Den cx 217 [.str x,.int .u8 c.toNat] KV Kp s:=by
 refine Den.extern (C:=cx) Tryz.func217 rfl rfl rfl (e:=Extern.BytealgCount.count) (by kernel_rfl) fun g vals hv=>?_
 obtain ⟨u,v,rfl,r1,r2⟩:=hv.two;rw[r1.str_inv,r2.int_inv];refine ⟨_,_,fun w=>Lib.run_countString _ _ w,.int _ _,?_⟩;simpa [Lib.countByte] using hk
theorem idxByte303_den (s:St) (x:Str) (c:UInt8) (KV Kp) (hk:KV s (.int .i64 (Lib.indexByte x c))):Den cx 303 [.str x,.int .u8 c.toNat] KV Kp s:=by
 refine Den.drop ?_;(refine Den.of_body (C:=cx) Tryz.func303 rfl rfl (gC6 rfl) ?_;refine wpC_ok (V:=[0,1,4]) _ _ _ _ ?_;simp only[go_sem,Tryz.ntmps303,Tryz.f303])
 (repeat' (first|exact DK.st hk (by (repeat (first|exact St.ge.refl _|refine St.ge_set (by simp only[]) ?_)))|(refine idxByte316_den _ _ _ _ _ ?_;simp only[go_sem])|((first|refine gC8 (fun h=>?_) (fun h=>?_)|refine gC9 (fun h=>?_) (fun h=>?_)|refine gD1 (fun h=>?_) (fun h=>?_))<;>simp only[go_sem,h]<;>(try simp only[h,Bool.true_and,Bool.false_and,Bool.and_true,Bool.and_false,Bool.or_true,Bool.true_or,Bool.or_false,Bool.false_or,Bool.not_true,Bool.not_false] at hk))))
theorem idxByte298_den (s:St) (x:Str) (c:UInt8) (KV Kp) (hk:KV s (.int .i64 (Lib.indexByte x c))):Den cx 298 [.str x,.int .u8 c.toNat] KV Kp s:=by
 refine Den.drop ?_;(refine Den.of_body (C:=cx) Tryz.func298 rfl rfl (gC6 rfl) ?_;refine wpC_ok (V:=[0,1,4]) _ _ _ _ ?_;simp only[go_sem,Tryz.ntmps298,Tryz.f298])
 (repeat' (first|exact DK.st hk (by (repeat (first|exact St.ge.refl _|refine St.ge_set (by simp only[]) ?_)))|(refine idxByte303_den _ _ _ _ _ ?_;simp only[go_sem])|((first|refine gC8 (fun h=>?_) (fun h=>?_)|refine gC9 (fun h=>?_) (fun h=>?_)|refine gD1 (fun h=>?_) (fun h=>?_))<;>simp only[go_sem,h]<;>(try simp only[h,Bool.true_and,Bool.false_and,Bool.and_true,Bool.and_false,Bool.or_true,Bool.true_or,Bool.or_false,Bool.false_or,Bool.not_true,Bool.not_false] at hk))))
theorem hasPre311_den (s:St) (x p:Str) (KV Kp) (hk:KV s (.bool (hasPre x p))):Den cx 311 [.str x,.str p] KV Kp s:=by
 unfold hasPre at hk;refine Den.drop ?_;(refine Den.of_body (C:=cx) Tryz.func311 rfl rfl (gC6 rfl) ?_;refine wpC_ok (V:=[0,1,4]) _ _ _ _ ?_;simp only[go_sem,Tryz.ntmps311,Tryz.f311])
 (first|refine gC8 (fun h=>?_) (fun h=>?_)|refine gC9 (fun h=>?_) (fun h=>?_)|refine gD1 (fun h=>?_) (fun h=>?_))<;>simp only[go_sem,h]<;>(try simp only[h,Bool.true_and,Bool.false_and,Bool.and_true,Bool.and_false,Bool.or_true,Bool.true_or,Bool.or_false,Bool.false_or,Bool.not_true,Bool.not_false] at hk)
 ·have hl:p.length≤x.length:=by simpa using h
  simp only[go_sem,hl];exact DK.here hk
 ·exact DK.here hk
theorem hasPre299_den (s:St) (x p:Str) (KV Kp) (hk:KV s (.bool (hasPre x p))):Den cx 299 [.str x,.str p] KV Kp s:=by
 refine Den.drop ?_;(refine Den.of_body (C:=cx) Tryz.func299 rfl rfl (gC6 rfl) ?_;refine wpC_ok (V:=[0,1,4]) _ _ _ _ ?_;simp only[go_sem,Tryz.ntmps299,Tryz.f299])
 (repeat' (first|exact DK.st hk (by (repeat (first|exact St.ge.refl _|refine St.ge_set (by simp only[]) ?_)))|(refine hasPre311_den _ _ _ _ _ ?_;simp only[go_sem])|((first|refine gC8 (fun h=>?_) (fun h=>?_)|refine gC9 (fun h=>?_) (fun h=>?_)|refine gD1 (fun h=>?_) (fun h=>?_))<;>simp only[go_sem,h]<;>(try simp only[h,Bool.true_and,Bool.false_and,Bool.and_true,Bool.and_false,Bool.or_true,Bool.true_or,Bool.or_false,Bool.false_or,Bool.not_true,Bool.not_false] at hk))))
theorem lastIdx219_den (s:St) (x:Str) (c:UInt8) (KV Kp) (hx:x.length≤4294967296) (hk:KV s (.int .i64 (lastTo x c x.length))):Den cx 219 [.str x,.int .u8 c.toNat] KV Kp s:=by
 refine Den.drop ?_;(refine Den.of_body (C:=cx) Tryz.func219 rfl rfl (gC6 rfl) ?_;refine wpC_ok (V:=[0,1,4,5,10,17]) _ _ _ _ ?_;simp only[go_sem,Tryz.ntmps219,Tryz.f219]);rw[wrap_in _ (by omega) (by omega)]
 refine Ex.loop (fun n=>[(0,.str x),(1,.int .u8 c.toNat),(5,.int .i64 ((n:Nat)-1:Int))]) (fun _=>s)
  (fun n=>n≤x.length∧lastTo x c x.length=lastTo x c n) (fun n=>n) x.length ⟨Nat.le_refl _,rfl⟩ ?_ (St.ge.refl s) ?_
 ·simp only[go_sem]
 ·rintro n ⟨hn,he⟩;refine wpC_ok (V:=[0,1,4,5,10,17]) _ _ _ _ ?_;simp only[go_sem]
  (first|refine gC8 (fun h=>?_) (fun h=>?_)|refine gC9 (fun h=>?_) (fun h=>?_)|refine gD1 (fun h=>?_) (fun h=>?_))<;>simp only[go_sem,h]
  ·obtain ⟨m,rfl⟩:∃ m,n=m+1:=⟨n-1,by simp at h;omega⟩
   have e1:(((m+1:Nat):Int)-1)=(m:Int):=by omega
   have hm:m<x.length:=by omega
   obtain ⟨d,hd⟩:∃ d,x[m]?=some d:=⟨_,List.getElem?_eq_getElem hm⟩
   simp only[go_sem,e1,hm,hd]
   (first|refine gC8 (fun h=>?_) (fun h=>?_)|refine gC9 (fun h=>?_) (fun h=>?_)|refine gD1 (fun h=>?_) (fun h=>?_))<;>simp only[go_sem,h]
   ·have hdc:d=c:=by
     have:d.toNat=c.toNat:=by simpa using h
     exact UInt8.toNat_inj.1 this
    subst hdc;rw[he,lastTo,if_pos hd] at hk;exact DK.here hk
   ·have hdc:¬ d=c:=by
     rintro rfl;simp at h
    rw[wrap_in _ (by omega) (by omega)];refine ⟨m,⟨by omega,?_⟩,by omega,?_,St.ge.refl s⟩
    ·rw[he,lastTo,if_neg (by rw[hd];simpa using hdc)]
    ·simp only[go_sem]
  ·have h0:n=0:=by simp at h;omega
   subst h0;rw[he,lastTo] at hk;exact DK.here hk
theorem lastIdx143_den (s:St) (x:Str) (c:UInt8) (KV Kp) (hx:x.length≤4294967296) (hk:KV s (.int .i64 (lastTo x c x.length))):Den cx 143 [.str x,.int .u8 c.toNat] KV Kp s:=by
 refine Den.drop ?_;(refine Den.of_body (C:=cx) Tryz.func143 rfl rfl (gC6 rfl) ?_;refine wpC_ok (V:=[0,1,4]) _ _ _ _ ?_;simp only[go_sem,Tryz.ntmps143,Tryz.f143])
 (repeat' (first|exact DK.st hk (by (repeat (first|exact St.ge.refl _|refine St.ge_set (by simp only[]) ?_)))|(refine lastIdx219_den _ _ _ _ _ hx ?_;simp only[go_sem])|((first|refine gC8 (fun h=>?_) (fun h=>?_)|refine gC9 (fun h=>?_) (fun h=>?_)|refine gD1 (fun h=>?_) (fun h=>?_))<;>simp only[go_sem,h]<;>(try simp only[h,Bool.true_and,Bool.false_and,Bool.and_true,Bool.and_false,Bool.or_true,Bool.true_or,Bool.or_false,Bool.false_or,Bool.not_true,Bool.not_false] at hk))))
theorem isDigit_den (s:St) (c:Int) (KV Kp) (hk:KV s (.bool (isDig c))):Den cx 301 [.int .u8 c] KV Kp s:=by
 unfold isDig at hk;refine Den.drop ?_;(refine Den.of_body (C:=cx) Tryz.func301 rfl rfl (gC6 rfl) ?_;refine wpC_ok (V:=[0,2]) _ _ _ _ ?_;simp only[go_sem,Tryz.ntmps301,Tryz.f301])
 (repeat' (first|exact DK.st hk (by (repeat (first|exact St.ge.refl _|refine St.ge_set (by simp only[]) ?_)))|((first|refine gC8 (fun h=>?_) (fun h=>?_)|refine gC9 (fun h=>?_) (fun h=>?_)|refine gD1 (fun h=>?_) (fun h=>?_))<;>simp only[go_sem,h]<;>(try simp only[h,Bool.true_and,Bool.false_and,Bool.and_true,Bool.and_false,Bool.or_true,Bool.true_or,Bool.or_false,Bool.false_or,Bool.not_true,Bool.not_false] at hk))))
theorem run_den (s:St) (x:Str) (f:FuncId) (p:UInt8→Bool) (KV Kp) (hx:x.length≤4294967296)
  (hf:∀ (c:UInt8) KV Kp,KV s (.bool (p c))→Den cx f [.int .u8 c.toNat] KV Kp s)
  (hk:KV s (.int .i64 (x.takeWhile p).length)):Den cx 300 [.str x,.fn f [] []] KV Kp s:=by
 refine Den.drop ?_;(refine Den.of_body (C:=cx) Tryz.func300 rfl rfl (gC6 rfl) ?_;refine wpC_ok (V:=[0,1,4,5,16]) _ _ _ _ ?_;simp only[go_sem,Tryz.ntmps300,Tryz.f300])
 refine Ex.loop (fun n=>[(0,.str x),(1,.fn f [] []),(5,.int .i64 (n:Nat))]) (fun _=>s)
  (fun n=>n≤x.length∧(x.takeWhile p).length=n+((x.drop n).takeWhile p).length) (fun n=>x.length-n) 0 ⟨Nat.zero_le _,by simp⟩ ?_ (St.ge.refl s) ?_
 ·simp only[go_sem];rfl
 ·rintro n ⟨hn,he⟩;refine wpC_ok (V:=[0,1,4,5,16]) _ _ _ _ ?_;simp only[go_sem]
  (first|refine gC8 (fun h=>?_) (fun h=>?_)|refine gC9 (fun h=>?_) (fun h=>?_)|refine gD1 (fun h=>?_) (fun h=>?_))<;>simp only[go_sem,h]
  ·have hn':n<x.length:=by simpa using h
   obtain ⟨d,hd⟩:∃ d,x[n]?=some d:=⟨_,List.getElem?_eq_getElem hn'⟩
   have hdr:x.drop n=d::x.drop (n+1):=by
    rw[List.drop_eq_getElem_cons hn'];congr 1;rw[List.getElem?_eq_getElem hn'] at hd;simpa using hd
   simp only[go_sem,hd,hn'];refine hf _ _ _ ?_;simp only[go_sem]
   (first|refine gC8 (fun h=>?_) (fun h=>?_)|refine gC9 (fun h=>?_) (fun h=>?_)|refine gD1 (fun h=>?_) (fun h=>?_))<;>simp only[go_sem,h]
   ·have hp:p d=true:=by simpa using h
    refine ⟨n+1,⟨by omega,?_⟩,by omega,?_,St.ge.refl s⟩
    ·rw[he,hdr,List.takeWhile_cons_of_pos hp,gC1];omega
    ·simp only[go_sem,wrap1 n (by omega)]
   ·have hp:¬ p d=true:=by simp[h]
    rw[he,hdr,List.takeWhile_cons_of_neg hp] at hk;exact DK.here (by simpa using hk)
  ·have hn':n=x.length:=by simp at h;omega
   subst hn';rw[he,List.drop_length] at hk;exact DK.here (by simpa using hk)
end Go.AV
end
section
namespace Go.AV
open Go Go.Proofs
theorem St.ge_same {s:St} {b:Nat} {o:Ob} (h:s.getO b=some o):s.ge (s.setO b o) :=
 ⟨fun c x hc => by
  rw[gA1] at hc;split at hc
  ·rename_i e;subst e;rw[h];exact hc
  ·exact hc,fun _ _ h=>h,fun _ h=>h⟩
def rdCs (x:Str) (at_ line col:Nat) (sg:List Str) (op:Bool):List A:=[.str x,.int .i64 at_,.int .i64 line,.int .i64 col,.list none (sg.map .str),.bool op]
theorem adv_app:∀ (w v:Str) (p:Nat × Nat),adv p (w++v)=adv (adv p w) v
 | [],v,p=>rfl
 | b::w,v,(l,c)=>by
  simp only[gD2,adv];split<;>exact adv_app w v _
theorem adv_le:∀ (w:Str) (p:Nat × Nat) (k:Nat),p.1≤k+1→p.2≤k+1→(adv p w).1≤k+w.length+1∧(adv p w).2≤k+w.length+1
 | [],p,k,h1,h2=>⟨h1,h2⟩
 | b::w,(l,c),k,h1,h2=>by
  simp only[adv,gC1];split
  ·have:=adv_le w (l+1,1) (k+1) (by simpa using h1) (by simp);omega
  ·have:=adv_le w (l,c+1) (k+1) (by have:l≤k+1:=h1;simp;omega) (by simpa using h2);omega
theorem skip_den (s:St) (r:Nat) (x:Str) (at_ l c n:Nat) (sg:List Str) (op:Bool) (KV Kp)
  (hr:s.getO r=some (.cells 226 (rdCs x at_ l c sg op))) (hx:x.length≤4294967296) (hn:at_+n≤x.length) (hl:l≤at_+1) (hc:c≤at_+1)
  (hk:KV (s.setO r (.cells 226 (rdCs x (at_+n) (adv (l,c) ((x.drop at_).take n)).1 (adv (l,c) ((x.drop at_).take n)).2 sg op))) (.tuple [])) :
  Den cx 279 [.ptr r 0,.int .i64 n] KV Kp s:=by
 refine Den.drop ?_;(refine Den.of_body (C:=cx) Tryz.func279 rfl rfl (gC6 rfl) ?_;refine wpC_ok (V:=[0,1,4,5,6,23]) _ _ _ _ ?_;simp only[go_sem,Tryz.ntmps279,Tryz.f279])
 refine Ex.loop (fun i=>[(0,.ptr r 0),(4,.int .i64 n),(5,.int .i64 (i:Nat))])
  (fun i=>s.setO r (.cells 226 (rdCs x (at_+i) (adv (l,c) ((x.drop at_).take i)).1 (adv (l,c) ((x.drop at_).take i)).2 sg op)))
  (fun i=>i≤n) (fun i=>n-i) 0 (Nat.zero_le _) ?_ ?_ ?_
 ·simp only[go_sem];rfl
 ·simp only[Nat.add_zero,List.take_zero,adv];exact St.ge_same hr
 ·intro i hi;refine wpC_ok (V:=[0,1,4,5,6,23]) _ _ _ _ ?_;have hb:=adv_le ((x.drop at_).take i) (l,c) at_ hl hc;have hlen:((x.drop at_).take i).length=i:=by rw[List.length_take,gD4];omega
  rw[hlen] at hb;simp only[go_sem]
  (first|refine gC8 (fun h=>?_) (fun h=>?_)|refine gC9 (fun h=>?_) (fun h=>?_)|refine gD1 (fun h=>?_) (fun h=>?_))<;>simp only[go_sem,h]
  ·have hin:i<n:=by simpa using h
   have hix:at_+i<x.length:=by omega
   obtain ⟨d,hd⟩:∃ d,x[at_+i]?=some d:=⟨_,List.getElem?_eq_getElem hix⟩
   simp only[go_sem,rdCs];rw[wrap1 _ (by omega)];(refine draw_ok (V:=[0,1,4,5,6,23]) (OT.l [0,1,2,3,4,5,6,7,8,9] .nil) [] mixed_cx (by decide +kernel) ?_;simp only[go_sem,hd,hix])
   have hst:adv (l,c) ((x.drop at_).take (i+1))=adv (adv (l,c) ((x.drop at_).take i)) [d]:=by
    rw[List.take_add_one,List.getElem?_drop,hd,adv_app];rfl
   have e5:IntKind.i64.wrap ((i:Int)+1)=((i+1:Nat):Int):=wrap1 i (by omega);have e1:IntKind.i64.wrap (((at_+i:Nat):Int)+1)=((at_+(i+1):Nat):Int):=by rw[wrap1 _ (by omega)];rfl
   have e2:IntKind.i64.wrap (((adv (l,c) ((x.drop at_).take i)).1:Int)+1)=(((adv (l,c) ((x.drop at_).take i)).1+1:Nat):Int):=wrap1 _ (by omega)
   (first|refine gC8 (fun h=>?_) (fun h=>?_)|refine gC9 (fun h=>?_) (fun h=>?_)|refine gD1 (fun h=>?_) (fun h=>?_))<;>simp only[go_sem,h,e1,e2,e5]
   ·have hd10:d=10:=by
     have:d.toNat=10:=by simp at h;omega
     exact UInt8.toNat_inj.1 this
    refine ⟨i+1,by omega,by omega,rfl,?_⟩;rw[hst];simp only[adv,hd10,if_true];exact St.ge.refl _
   ·have hd10:¬ d=10:=by rintro rfl;simp at h
    refine ⟨i+1,by omega,by omega,rfl,?_⟩;rw[hst];simp only[adv,hd10,if_false];exact St.ge.refl _
  ·have hin:i=n:=by simp at h;omega
   subst hin;exact DK.here hk
end Go.AV
end
