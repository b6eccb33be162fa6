/-
  Part of the proof of DefBlanks.
-/
import Derived.Test.YtamikhobdffnfaaGreatDoorBl21
import Derived.Test.YtamikhobdffnfaaGreatDoorBl15
set_option linter.all false
set_option maxRecDepth 1000000
set_option maxHeartbeats 40000000
section
namespace Go.AV
open Go Go.Proofs
structure Dc where
 name:Str
 sorts:A
 below:A
 ops:A
 funs:A
 values:A
 eqs:A
 once:A
 kind:Str
 many:A
 rules:A
 start:Str
 watch:Str
def Dc.cs (d:Dc):List A:=[.str d.name,d.sorts,d.below,d.ops,d.funs,d.values,d.eqs,d.once,.str d.kind,d.many,d.rules,.str d.start,.str d.watch]
def psC (T:List Tok) (fin:Fault) (d:Dc) (first:Tok) (i n:Nat):List A :=
 .list none (T.map Tok.enc)::.int .i64 i::(fin.cs++(d.cs++(first.cs++[.int .i64 n,.bool false])))
def psO (T:List Tok) (fin:Fault) (d:Dc) (first:Tok) (i n:Nat):Ob:=.cells 91 (psC T fin d first i n)
attribute [go_sem] Dc.cs psC psO
structure TOk (T:List Tok):Prop where
 len:T.length≤4294967290
 num:∀ t,t∈T→0≤t.n∧t.n≤2147483647
 col:∀ t,t∈T→0≤t.col∧t.col≤4294967296
 txt:∀ t,t∈T→t.text.length≤4294967296
def PK {α:Type} (T:List Tok) (i:Nat) (S:Nat→Nat→St) (enc:α→A) (KV:St→A→Prop) (a:α) (w:List Tok) (n:Nat):Prop:=∀ j,i≤j→j≤T.length→T.drop j=w→n≤2000→KV (S j n) (enc a)
def PB (s:St) (r:Nat) (Kp:St→A→Prop) (f:Fault):Prop:=∀ o,Kp (s.setO r o) (.iface 36 f.enc)
theorem drop_get {T:List Tok} {i:Nat} {t:Tok} {w:List Tok} (h:T.drop i=t::w):T[i]?=some t∧i<T.length∧T.drop (i+1)=w∧t∈T:=by
 have hl:=congrArg List.length h;rw[gD4,gC1] at hl;have h0:(T.drop i)[0]?=some t:=by rw[h];rfl
 rw[List.getElem?_drop,Nat.add_zero] at h0;refine ⟨h0,by omega,?_,List.mem_of_getElem? h0⟩;rw[← List.drop_drop,h];rfl
section
variable {T:List Tok} {fin:Fault} {d:Dc} {first:Tok} {i n:Nat} {s:St} {r:Nat} {KV Kp:St→A→Prop}
theorem peek_den (hr:s.getO r=some (psO T fin d first i n)) (hi:i≤T.length)
  (hk:match T.drop i with|t::_=>KV s t.enc|[]=>Kp s (.iface 36 fin.enc)):Den cx 91 [.ptr r 0] KV Kp s:=by
 simp only[go_sem] at hr;refine Den.drop ?_;(refine Den.of_body (C:=cx) Tryz.func91 rfl rfl (gC6 rfl) ?_;refine wpC_ok (V:=[0,2,12]) _ _ _ _ ?_;simp only[go_sem,Tryz.ntmps91,Tryz.f91]);intro b hb;have hne:=St.ne_of hr hb;simp only[go_sem,hb,hne,hr];(refine draw_ok (V:=[0,2,12]) (OT.l [0,1,2,3,4,5,6,7,8,9] .nil) [] mixed_cx (by decide +kernel) ?_;simp only[go_sem,hr,hne])
 (first|refine gC8 (fun h=>?_) (fun h=>?_)|refine gC9 (fun h=>?_) (fun h=>?_)|refine gD1 (fun h=>?_) (fun h=>?_))<;>simp only[go_sem,h,hr,hne]
 ·have he:i=T.length:=by simpa using h
  rw[List.drop_eq_nil_of_le (by omega)] at hk;exact DK.st hk (St.ge_new hb)
 ·have hlt:i<T.length:=by
   have:¬ i=T.length:=by simpa using h
   omega
  rw[List.drop_eq_getElem_cons hlt] at hk;have ht:T[i]?=some T[i]:=List.getElem?_eq_getElem hlt;(refine draw_ok (V:=[0,2,12]) (OT.l [0,1,2,3,4,5,6,7,8,9,10] .nil) [] mixed_cx (by decide +kernel) ?_;simp only[go_sem,hr,hne,ht,hlt]);exact DK.st hk (St.ge_new hb)
theorem is_den (x:Str) (hr:s.getO r=some (psO T fin d first i n)) (hi:i≤T.length)
  (hk:KV s (.bool (isT x (T.drop i)))):Den cx 149 [.ptr r 0,.str x] KV Kp s:=by
 simp only[go_sem] at hr;refine Den.drop ?_;(refine Den.of_body (C:=cx) Tryz.func149 rfl rfl (gC6 rfl) ?_;refine wpC_ok (V:=[0,1,4,5,15]) _ _ _ _ ?_;simp only[go_sem,Tryz.ntmps149,Tryz.f149]);(refine draw_ok (V:=[0,1,4,5,15]) (OT.l [0,1,2,3,4,5,6,7,8,9] .nil) [] mixed_cx (by decide +kernel) ?_;simp only[go_sem,hr])
 (first|refine gC8 (fun h=>?_) (fun h=>?_)|refine gC9 (fun h=>?_) (fun h=>?_)|refine gD1 (fun h=>?_) (fun h=>?_))<;>simp only[go_sem,h,hr]
 ·have he:i=T.length:=by simpa using h
  rw[List.drop_eq_nil_of_le (by omega)] at hk;exact DK.here hk
 ·have hlt:i<T.length:=by
   have:¬ i=T.length:=by simpa using h
   omega
  rw[List.drop_eq_getElem_cons hlt] at hk;have ht:T[i]?=some T[i]:=List.getElem?_eq_getElem hlt;simp only[isT,isTok] at hk;(refine draw_ok (V:=[0,1,4,5,15]) (OT.l [0,1,2,3,4,5,6,7,8,9,10,11] .nil) [(10,[3,7,9])] mixed_cx (by decide +kernel) ?_;simp only[go_sem,hr,ht,hlt]);intro b hb;have hne:=St.ne_of hr hb;simp only[go_sem,hb,hne,hr,ht,hlt]
  (repeat' (first|exact DK.st hk (by (repeat (first|exact St.ge.refl _|refine St.ge_set (by simp only[hb]) ?_)))|((first|refine gC8 (fun h=>?_) (fun h=>?_)|refine gC9 (fun h=>?_) (fun h=>?_)|refine gD1 (fun h=>?_) (fun h=>?_))<;>simp only[go_sem,h,hb]<;>(try simp only[h,Bool.true_and,Bool.false_and,Bool.and_true,Bool.and_false,Bool.or_true,Bool.true_or,Bool.or_false,Bool.false_or,Bool.not_true,Bool.not_false] at hk))))
theorem take_den (x:Str) (hr:s.getO r=some (psO T fin d first i n)) (hi:i≤T.length) (hT:TOk T)
  (hk:match isT x (T.drop i) with|true=>KV (s.setO r (psO T fin d first (i+1) n)) (.bool true)|false=>KV s (.bool false)):Den cx 144 [.ptr r 0,.str x] KV Kp s:=by
 refine Den.drop ?_;(refine Den.of_body (C:=cx) Tryz.func144 rfl rfl (gC6 rfl) ?_;refine wpC_ok (V:=[0,1,4,8]) _ _ _ _ ?_;simp only[go_sem,Tryz.ntmps144,Tryz.f144]);refine is_den x hr hi ?_;simp only[go_sem] at hr;have:=hT.len;simp only[go_sem]
 (first|refine gC8 (fun h=>?_) (fun h=>?_)|refine gC9 (fun h=>?_) (fun h=>?_)|refine gD1 (fun h=>?_) (fun h=>?_))<;>simp only[go_sem,h]
 ·rw[show isT x (T.drop i)=false from by simpa using h] at hk;exact DK.here hk
 ·rw[show isT x (T.drop i)=true from by simpa using h] at hk;simp only[go_sem,hr,wrap1 i (by omega)];exact DK.here hk
theorem isT_lt {x:Str} (h:isT x (T.drop i)=true):i+1≤T.length:=by
 cases hw:T.drop i with
 | nil=>rw[hw] at h;cases h
 | cons t w=>exact (drop_get hw).2.1
theorem tokName_den (t:Tok) (h0:0≤t.n) (h1:t.n≤2147483647) (hk:KV s (.str t.name)):Den cx 93 [t.enc] KV Kp s:=by
 unfold Tok.name at hk;simp only[go_sem];refine Den.drop ?_;(refine Den.of_body (C:=cx) Tryz.func93 rfl rfl (gC6 rfl) ?_;refine wpC_ok (V:=[0,1,2,5]) _ _ _ _ ?_;simp only[go_sem,Tryz.ntmps93,Tryz.f93]);(intro b hb;try simp only[gD6,ne_eq] at hb);simp only[go_sem,hb]
 (first|refine gC8 (fun h=>?_) (fun h=>?_)|refine gC9 (fun h=>?_) (fun h=>?_)|refine gD1 (fun h=>?_) (fun h=>?_))<;>simp only[go_sem,h,hb]
 ·have hk2:t.kind=2:=by simpa using h
  rw[if_pos hk2] at hk;refine itoa_den t.n (by omega) (by omega) _ _ _ ?_;simp only[go_sem];exact DK.st hk (St.ge_new hb)
 ·have hk2:¬ t.kind=2:=by simpa using h
  rw[if_neg hk2] at hk;exact DK.st hk (St.ge_new hb)
theorem limit_den (t:Tok) (hk:Kp s (.iface 36 (Fault.enc ⟨3,[],t.line,t.col⟩))):Den cx 220 [t.enc] KV Kp s:=by
 simp only[go_sem] at hk;simp only[go_sem];refine Den.drop ?_;(refine Den.of_body (C:=cx) Tryz.func220 rfl rfl (gC6 rfl) ?_;refine wpC_ok (V:=[0,1]) _ _ _ _ ?_;simp only[go_sem,Tryz.ntmps220,Tryz.f220]);(intro b hb;try simp only[gD6,ne_eq] at hb);simp only[go_sem,hb];exact DK.st hk (St.ge_new hb)
theorem fail_den (code:Int) (hr:s.getO r=some (psO T fin d first i n)) (hi:i≤T.length) (hT:TOk T)
  (hk:Kp s (.iface 36 (failAt fin code (T.drop i)).enc)):Den cx 42 [.ptr r 0,.int .i64 code] KV Kp s:=by
 refine Den.drop ?_;(refine Den.of_body (C:=cx) Tryz.func42 rfl rfl (gC6 rfl) ?_;refine wpC_ok (V:=[0,1,4]) _ _ _ _ ?_;simp only[go_sem,Tryz.ntmps42,Tryz.f42]);refine peek_den hr hi ?_;cases hw:T.drop i with
 | nil=>rw[hw] at hk;exact DK.here hk
 | cons t w =>
  rw[hw] at hk;obtain ⟨h1,h2,h3,h4⟩:=drop_get hw;obtain ⟨h5,h6⟩:=hT.num t h4;simp only[failAt] at hk;simp only[go_sem] at hk;simp only[go_sem];(intro b hb;try simp only[gD6,ne_eq] at hb);simp only[go_sem,hb];(refine draw_ok (V:=[0,1,4]) (OT.l [0,1,3,4,5,6,2,7,8,9] .nil) [(2,[4,6])] mixed_cx (by decide +kernel) ?_;simp only[go_sem,hb]);refine tokName_den t h5 h6 ?_;simp only[go_sem,hb];exact DK.st hk (St.ge_new hb)
end
end Go.AV
end
section
namespace Go.AV
open Go Go.Proofs
section
variable {T:List Tok} {fin:Fault} {d:Dc} {first:Tok} {i n:Nat} {s:St} {r:Nat} {KV Kp:St→A→Prop}
theorem PB.here {f:Fault} {o:Ob} (h:PB s r Kp f) (hr:s.getO r=some o):DK Kp s (.iface 36 f.enc):=DK.st (h o) (St.ge_same hr)
theorem PB.at {f:Fault} {o:Ob} {s1:St} (h:PB s r Kp f) (hg:s1.gx s r) (hr:s1.getO r=some o):DK Kp s1 (.iface 36 f.enc):=DK.st (h o) (hg.ge hr)
theorem want_den (x:Str) (hr:s.getO r=some (psO T fin d first i n)) (hi:i≤T.length) (hT:TOk T)
  (hk:(wantR fin x (T.drop i) n).to (fun _ w n'=>i+1≤T.length→T.drop (i+1)=w→n'=n→KV (s.setO r (psO T fin d first (i+1) n)) (.tuple [])) (PB s r Kp)):Den cx 84 [.ptr r 0,.list none [.str x]] KV Kp s:=by
 refine Den.drop ?_;(refine Den.of_body (C:=cx) Tryz.func84 rfl rfl (gC6 rfl) ?_;refine wpC_ok (V:=[0,1,5,6,7,8,9,15]) _ _ _ _ ?_;simp only[go_sem,Tryz.ntmps84,Tryz.f84])
 refine Ex.loop (fun k:Nat=>[(0,.ptr r 0),(6,.list none [.str x]),(7,.int .i64 1),(8,.int .i64 k)]) (fun k=>match k with|0=>s|_+1=>s.setO r (psO T fin d first (i+1) n))
  (fun k=>k=0∨k=1∧isT x (T.drop i)=true) (fun k=>1-k) 0 (.inl rfl) ?_ (St.ge.refl _) ?_
 ·simp only[go_sem];exact ⟨rfl,rfl⟩
 ·rintro k (rfl|⟨rfl,hx⟩)
  ·refine wpC_ok (V:=[0,1,5,6,7,8,9,15]) _ _ _ _ ?_;simp only[go_sem];refine ⟨by simp,?_⟩;simp only[go_sem];refine ⟨rfl,?_⟩;refine take_den x hr hi hT ?_;cases hx:isT x (T.drop i) with
   | true =>
    simp only[go_sem];exact ⟨1,.inr rfl,by omega,rfl,St.ge.refl _⟩
   | false =>
    simp only[go_sem];refine fail_den 11 hr hi hT ?_;simp only[wantR,hx,gD7,if_false,Rd.bad_to] at hk;exact hk.here hr
  ·refine wpC_ok (V:=[0,1,5,6,7,8,9,15]) _ _ _ _ ?_;simp only[wantR,hx,if_true,Rd.ok_to] at hk;simp only[go_sem];exact DK.here (hk (isT_lt hx) (by simp) trivial)
theorem name_den (hr:s.getO r=some (psO T fin d first i n)) (hi:i≤T.length) (hT:TOk T)
  (hk:(nameR fin (T.drop i) n).to (fun x w n'=>i+1≤T.length→T.drop (i+1)=w→n'=n→KV (s.setO r (psO T fin d first (i+1) n)) (.str x)) (PB s r Kp)):Den cx 85 [.ptr r 0] KV Kp s:=by
 refine Den.drop ?_;(refine Den.of_body (C:=cx) Tryz.func85 rfl rfl (gC6 rfl) ?_;refine wpC_ok (V:=[0,2,3,13]) _ _ _ _ ?_;simp only[go_sem,Tryz.ntmps85,Tryz.f85]);refine peek_den hr hi ?_;cases hw:T.drop i with
 | nil=>rw[hw] at hk;exact PB.here hk hr
 | cons t w =>
  rw[hw] at hk;obtain ⟨h1,h2,h3,h4⟩:=drop_get hw;have:=hT.len;simp only[nameR] at hk;simp only[go_sem];(intro b hb;try simp only[gD6,ne_eq] at hb);have hne:=St.ne_of hr hb;have hr':(s.setO b (.cells 60 t.cs)).getO r=some (psO T fin d first i n):=by rw[gA1,if_neg hne.2];exact hr
  have hr2:=hr;simp only[go_sem] at hr2
  have bad:∀ KV',t.free=false→Den cx 42 [.ptr r 0,.int .i64 11] KV' (DK Kp) (s.setO b (.cells 60 t.cs)):=by
   intro KV' hf;refine fail_den 11 hr' hi hT ?_;rw[hf] at hk;simp only[gD7,if_false,Rd.bad_to] at hk;rw[hw];exact hk.at (by (repeat (first|exact gA8 _ _|refine St.gx_r ?_|refine gA7 (by first|simp only[hb]|assumption) ?_|refine St.gx_T (by first|simp only[hb]|assumption) ?_))) hr'
  have good:t.free=true→KV (s.setO r (psO T fin d first (i+1) n)) (.str t.text):=by
   intro hf;rw[hf] at hk;simp only[if_true,Rd.ok_to] at hk;exact hk h2 h3 trivial
  simp only[go_sem,hb,hne,hr2]
  (first|refine gC8 (fun h=>?_) (fun h=>?_)|refine gC9 (fun h=>?_) (fun h=>?_)|refine gD1 (fun h=>?_) (fun h=>?_))<;>simp only[go_sem,h,hb,hne,hr2]
  ·refine bad _ ?_;rw[Tok.free,show decide (t.kind=1)=false from by simpa using h];rfl
  ·refine isReserved145_den _ _ _ _ ?_;simp only[go_sem,hb,hne,hr2];have hk1:decide (t.kind=1)=true:=by simpa using h
   (first|refine gC8 (fun h=>?_) (fun h=>?_)|refine gC9 (fun h=>?_) (fun h=>?_)|refine gD1 (fun h=>?_) (fun h=>?_))<;>simp only[go_sem,h,hb,hne,hr2]
   ·refine bad _ ?_;rw[Tok.free,hk1,h];rfl
   ·have hg:=good (by rw[Tok.free,hk1,h];rfl);simp only[go_sem,wrap1 i (by omega)];exact DK.st hg (St.gx.ge (by (repeat (first|exact gA8 _ _|refine St.gx_r ?_|refine gA7 (by first|simp only[hb]|assumption) ?_|refine St.gx_T (by first|simp only[hb]|assumption) ?_))) (by rw[gA1,if_pos rfl];rfl))
theorem node_den (hr:s.getO r=some (psO T fin d first i n)) (hn:n≤2000)
  (hk:(nodeR first (T.drop i) n).to (fun _ w n=>w=T.drop i→n≤2000→KV (s.setO r (psO T fin d first i n)) (.tuple [])) (PB s r Kp)):Den cx 166 [.ptr r 0] KV Kp s:=by
 have hr2:=hr;simp only[go_sem] at hr2;refine Den.drop ?_;(refine Den.of_body (C:=cx) Tryz.func166 rfl rfl (gC6 rfl) ?_;refine wpC_ok (V:=[0,13]) _ _ _ _ ?_;simp only[go_sem,Tryz.ntmps166,Tryz.f166]);simp only[go_sem,hr2,wrap1 n (by omega)]
 (first|refine gC8 (fun h=>?_) (fun h=>?_)|refine gC9 (fun h=>?_) (fun h=>?_)|refine gD1 (fun h=>?_) (fun h=>?_))<;>simp only[go_sem,h,hr2]
 ·refine limit_den first ?_
  have hc:2000<n+1:=by have:=h;simp at this;omega
  simp only[nodeR,hc,if_true,Rd.bad_to] at hk;exact hk.at (by (repeat (first|exact gA8 _ _|refine St.gx_r ?_))) (by rw[gA1,if_pos rfl])
 ·have hc:¬ 2000<n+1:=by have:=h;simp at this;omega
  simp only[nodeR,hc,if_false,Rd.ok_to] at hk;exact DK.here (hk trivial (by omega))
end
end Go.AV
end
section
namespace Go.AV
open Go Go.Proofs
section
variable {T:List Tok} {fin:Fault} {d:Dc} {first:Tok} {i n:Nat} {s:St} {r:Nat} {KV Kp:St→A→Prop}
theorem begins_den (t:Tok) (hk:KV s (.bool t.begins)):Den cx 236 [t.enc] KV Kp s:=by
 simp only[go_sem];refine Den.drop ?_;(refine Den.of_body (C:=cx) Tryz.func236 rfl rfl (gC6 rfl) ?_;refine wpC_ok (V:=[0,1,2,4,5,8]) _ _ _ _ ?_;simp only[go_sem,Tryz.ntmps236,Tryz.f236]);(intro b hb;try simp only[gD6,ne_eq] at hb);simp only[go_sem,hb]
 (first|refine gC8 (fun h=>?_) (fun h=>?_)|refine gC9 (fun h=>?_) (fun h=>?_)|refine gD1 (fun h=>?_) (fun h=>?_))<;>simp only[go_sem,h,hb]
 ·have h2:t.kind=2:=by simpa using h
  rw[show t.begins=true by simp[Tok.begins,h2]] at hk
  (try simp only[go_sem,hb])
  exact DK.st hk (St.ge_new hb)
 ·have h2:¬ t.kind=2:=by simpa using h
  (try simp only[go_sem,hb])
  (first|refine gC8 (fun h=>?_) (fun h=>?_)|refine gC9 (fun h=>?_) (fun h=>?_)|refine gD1 (fun h=>?_) (fun h=>?_))<;>simp only[go_sem,h,hb]
  ·have h3:t.kind=3:=by simpa using h
   rw[show t.begins=true by simp[Tok.begins,h3]] at hk
   (try simp only[go_sem,hb])
   exact DK.st hk (St.ge_new hb)
  ·have h3:¬ t.kind=3:=by simpa using h
   (try simp only[go_sem,hb])
   (first|refine gC8 (fun h=>?_) (fun h=>?_)|refine gC9 (fun h=>?_) (fun h=>?_)|refine gD1 (fun h=>?_) (fun h=>?_))<;>simp only[go_sem,h,hb]
   ·have h1:t.kind=1:=by simpa using h
    rw[show t.begins=(!decide (t.text∈reservedW)||(decide (t.text=[116,114,117,101])||decide (t.text=[102,97,108,115,101]))) by simp[Tok.begins,h1]] at hk
    (try simp only[go_sem,hb])
    refine isReserved145_den _ _ _ _ ?_;simp only[go_sem,hb];cases hr:decide (t.text∈reservedW)<;>simp only[go_sem,hb]
    ·rw[hr] at hk;exact DK.st hk (St.ge_new hb)
    ·rw[hr] at hk;cases ht:decide (t.text=[116,114,117,101])<;>simp only[go_sem,hb]
     ·rw[ht] at hk;exact DK.st hk (St.ge_new hb)
     ·rw[ht] at hk;exact DK.st hk (St.ge_new hb)
   ·have h1:¬ t.kind=1:=by simpa using h
    rw[show t.begins=decide (t.text∈[[45],[39],[95],[91],[123],[36]]) by simp[Tok.begins,h1,h2,h3]] at hk
    (try simp only[go_sem,hb])
    refine contains_den _ [[45],[39],[95],[91],[123],[36]] _ _ _ ?_;simp only[go_sem,hb];exact DK.st hk (St.ge_new hb)
theorem room_den (a b:Int) (hr:s.getO r=some (psO T fin d first i n)) (hi:i≤T.length)
  (hk:if b≤a then PB s r Kp (limAt fin (T.drop i)) else KV s (.tuple [])):Den cx 148 [.ptr r 0,.int .i64 a,.int .i64 b] KV Kp s:=by
 refine Den.drop ?_;(refine Den.of_body (C:=cx) Tryz.func148 rfl rfl (gC6 rfl) ?_;refine wpC_ok (V:=[0,1,2,8]) _ _ _ _ ?_;simp only[go_sem,Tryz.ntmps148,Tryz.f148])
 (first|refine gC8 (fun h=>?_) (fun h=>?_)|refine gC9 (fun h=>?_) (fun h=>?_)|refine gD1 (fun h=>?_) (fun h=>?_))<;>simp only[go_sem,h]
 ·have hc:b≤a:=by simpa using h
  rw[if_pos hc] at hk;refine peek_den hr hi ?_;cases hw:T.drop i with
  | nil=>rw[hw] at hk;exact hk.here hr
  | cons t w =>
   rw[hw] at hk;simp only[go_sem];refine limit_den t ?_;exact hk.here hr
 ·have hc:¬ b≤a:=by simpa using h
  rw[if_neg hc] at hk;exact DK.here hk
theorem starts_den (hr:s.getO r=some (psO T fin d first i n)) (hi:i≤T.length)
  (hk:match T.drop i with|t::_=>KV s (.bool t.begins)|[]=>PB s r Kp fin):Den cx 165 [.ptr r 0] KV Kp s:=by
 have hr2:=hr;simp only[go_sem] at hr2;refine Den.drop ?_;(refine Den.of_body (C:=cx) Tryz.func165 rfl rfl (gC6 rfl) ?_;refine wpC_ok (V:=[0,2]) _ _ _ _ ?_;simp only[go_sem,Tryz.ntmps165,Tryz.f165]);refine peek_den hr hi ?_;cases hw:T.drop i with
 | nil=>rw[hw] at hk;exact hk.here hr
 | cons t w =>
  rw[hw] at hk;simp only at hk;simp only[go_sem];refine begins_den t ?_;simp only[go_sem];cases hb:t.begins<;>simp only[go_sem,hr2]
  ·rw[hb] at hk;exact DK.here hk
  ·rw[hb] at hk;exact DK.here hk
theorem pnumber_den (most:Int) (hr:s.getO r=some (psO T fin d first i n)) (hi:i≤T.length) (hT:TOk T)
  (hk:(numberR fin most (T.drop i) n).to (fun x w n'=>i+1≤T.length→T.drop (i+1)=w→n'=n→KV (s.setO r (psO T fin d first (i+1) n)) (.int .i64 x)) (PB s r Kp)):Den cx 281 [.ptr r 0,.int .i64 most] KV Kp s:=by
 refine Den.drop ?_;(refine Den.of_body (C:=cx) Tryz.func281 rfl rfl (gC6 rfl) ?_;refine wpC_ok (V:=[0,1,4,5,10,21]) _ _ _ _ ?_;simp only[go_sem,Tryz.ntmps281,Tryz.f281]);refine peek_den hr hi ?_;cases hw:T.drop i with
 | nil=>rw[hw] at hk;exact PB.here hk hr
 | cons t w =>
  rw[hw] at hk;obtain ⟨h1,h2,h3,h4⟩:=drop_get hw;have:=hT.len;simp only[numberR] at hk;simp only[go_sem];(intro b hb;try simp only[gD6,ne_eq] at hb);have hne:=St.ne_of hr hb;have hr':(s.setO b (.cells 60 t.cs)).getO r=some (psO T fin d first i n):=by rw[gA1,if_neg hne.2];exact hr
  have hr2:=hr;simp only[go_sem] at hr2
  have bad:∀ KV' code,PB s r Kp (failAt fin code (t::w))→Den cx 42 [.ptr r 0,.int .i64 code] KV' (DK Kp) (s.setO b (.cells 60 t.cs)):=by
   intro KV' code hf;refine fail_den code hr' hi hT ?_;rw[hw];exact hf.at (by (repeat (first|exact gA8 _ _|refine St.gx_r ?_|refine gA7 (by first|simp only[hb]|assumption) ?_|refine St.gx_T (by first|simp only[hb]|assumption) ?_))) hr'
  simp only[go_sem,hb,hne,hr2]
  (first|refine gC8 (fun h=>?_) (fun h=>?_)|refine gC9 (fun h=>?_) (fun h=>?_)|refine gD1 (fun h=>?_) (fun h=>?_))<;>simp only[go_sem,h,hb,hne,hr2]
  ·have h2:¬ t.kind=2:=by simpa using h
   rw[if_neg h2,Rd.bad_to] at hk;exact bad _ _ hk
  ·have h2:t.kind=2:=by simpa using h
   rw[if_pos h2] at hk;have range:(t.n<1∨most<t.n)→PB s r Kp (failAt fin 20 (t::w)):=fun hc=>by rw[if_pos hc] at hk;exact hk
   have good:¬ (t.n<1∨most<t.n)→KV (s.setO r (psO T fin d first (i+1) n)) (.int .i64 t.n):=fun hc=>by
    rw[if_neg hc] at hk;exact hk (by omega) h3 rfl
   cases c1:decide (t.n<1)
   ·cases c2:decide (most<t.n)
    ·(try simp only[go_sem,hb,hne,hr2,c1,c2,wrap1 i (by omega)])
     exact DK.st (good (by simp at c1 c2;omega)) (St.gx.ge (by (repeat (first|exact gA8 _ _|refine St.gx_r ?_|refine gA7 (by first|simp only[hb]|assumption) ?_|refine St.gx_T (by first|simp only[hb]|assumption) ?_))) (by rw[gA1,if_pos rfl];rfl))
    ·(try simp only[go_sem,hb,hne,hr2,c1,c2])
     exact bad _ _ (range (by simp at c1 c2;omega))
   ·(try simp only[go_sem,hb,hne,hr2,c1])
    exact bad _ _ (range (by simp at c1;omega))
end
end Go.AV
end
section
namespace Go.AV
open Go Go.Proofs
theorem loopR_unit {α:Type} (fin:Fault) (sep:Str) (one:List Tok→Nat→Rd α):∀ (f:Nat) (l0 l:List α) (w:List Tok) (n:Nat) (p:List α→List Tok→Nat→Prop) (b:Fault→Prop),
  (loopR fin sep (fun acc w n=>(one w n).bind fun a w n=>.ok (acc++[a]) w n) f (l0++l) w n).to p b →
  (loopR fin sep (fun (c:Unit × List α) w n=>((one w n).bind fun a w n=>Rd.ok ((),a) w n).bind fun q w n=>.ok (q.1,c.2++[q.2]) w n) f ((),l) w n).to (fun c w n=>p (l0++c.2) w n) b
 | 0,l0,l,w,n,p,b,h=>h
 | f+1,l0,l,w,n,p,b,h=>by
  simp only[loopR,Rd.bind_to] at h ⊢;refine Rd.to_mono h (fun a w n h=>?_) (fun _ h=>h);simp only[Rd.ok_to] at h ⊢;split
  ·rename_i e;rw[if_pos e] at h;refine loopR_unit fin sep one f l0 (l++[a]) w.tail n p b ?_;rw[← List.append_assoc];exact h
  ·rename_i e;rw[if_neg e] at h;rw[Rd.ok_to] at h ⊢;rw[← List.append_assoc];exact h
theorem loopR_fst {σ:Type} (fin:Fault) (sep:Str) (one:σ→List Tok→Nat→Rd σ):∀ (f:Nat) (a:σ) (l:List Unit) (w:List Tok) (n:Nat) (p:σ→List Tok→Nat→Prop) (b:Fault→Prop),
  (loopR fin sep one f a w n).to p b →
  (loopR fin sep (fun (c:σ × List Unit) w n=>((one c.1 w n).bind fun a w n=>Rd.ok (a,()) w n).bind fun q w n=>.ok (q.1,c.2++[q.2]) w n) f (a,l) w n).to (fun c w n=>p c.1 w n) b
 | 0,a,l,w,n,p,b,h=>h
 | f+1,a,l,w,n,p,b,h=>by
  simp only[loopR,Rd.bind_to] at h ⊢;refine Rd.to_mono h (fun a w n h=>?_) (fun _ h=>h);simp only[Rd.ok_to] at h ⊢;split
  ·rename_i e;rw[if_pos e] at h;exact loopR_fst fin sep one f a (l++[()]) w.tail n p b h
  ·rename_i e;rw[if_neg e] at h;exact h
theorem plist222_den {σ α X:Type} (enc:α→A) (hz:∀ a,(enc a).cells.length=6) (ho:∀ a,allOne (enc a).cells=true)
  {T:List Tok} {fin:Fault} {s0:St} {r:Nat} {KV Kp:St→A→Prop} (hT:TOk T)
  (S:St→σ→X→Nat→Nat→St) (Q:St→σ→X→Nat→Prop) (one:σ→List Tok→Nat→Rd (σ × α)) (f:FuncId) (first caps:List A)
  (hr:∀ (s:St) (a:σ) (x:X) (i n:Nat),∃ d fi,(S s a x i n).getO r=some (psO T fin d fi i n)∧((S s a x i n).setO r (psO T fin d fi (i+1) n)).ge (S s a x (i+1) n))
  (h1:∀ (s:St) (a:σ) (x:X) (i n:Nat) (t:Nat) (v:Nat × TypeId),Q s a x i→(S s a x i n).getT t=none→s.getT t=none∧Q (s.setT t v) a x i∧((S s a x i n).setT t v).ge (S (s.setT t v) a x i n))
  (h2:∀ (s:St) (a:σ) (x:X) (i n:Nat) (t:Nat) (v u:Nat × TypeId),s.getT t=none→Q (s.setT t v) a x i→(S (s.setT t v) a x i n).getT t=some v∧Q (s.setT t u) a x i∧((S (s.setT t v) a x i n).setT t u).ge (S (s.setT t u) a x i n))
  (h3:∀ (s:St) (a:σ) (x:X) (i n:Nat) (t:Nat) (v:Nat × TypeId),s.getT t=none→Q (s.setT t v) a x i→Q s a x i∧(S (s.setT t v) a x i n).ge (S s a x i n))
  (hi:∀ (s:St) (a:σ) (x:X) (i:Nat),Q s a x i→Q s a x (i+1))
  (hg:∀ (s:St) (a:σ) (x:X) (i n:Nat),Q s a x i→(S s a x i n).gx s r)
  (hf : ∀ (s : St) (a : σ) (x : X) (i n : Nat) (KV Kp : St → A → Prop),Q s a x i → i ≤ T.length → n ≤ 2000 → (one a (T.drop i) n).to (fun p w n' => ∀ j y,i ≤ j → j ≤ T.length → T.drop j = w → n' ≤ 2000 → Q s p.1 y j → KV (S s p.1 y j n') (enc p.2))
   (fun f=>∀ s1 o,s1.gx s r→s1.getO r=some o→Kp s1 (.iface 36 f.enc))→Den cx f (first++[]++caps) KV Kp (S s a x i n))
  (a0:σ) (x0:X) (i0 n0:Nat) (hQ:Q s0 a0 x0 i0) (hi0:i0≤T.length) (hn0:n0≤2000)
  (hk : (loopR fin [44] (fun (c : σ × List α) w n => (one c.1 w n).bind fun p w n => .ok (p.1,c.2 ++ [p.2]) w n) ((T.drop i0).length + 1) (a0,[]) (T.drop i0) n0).to
   (fun c w n=>∀ j y,i0≤j→j≤T.length→T.drop j=w→n≤2000→Q s0 c.1 y j→KV (S s0 c.1 y j n) (.list none (c.2.map enc)))
   (fun f=>∀ s1 o,s1.gx s0 r→s1.getO r=some o→Kp s1 (.iface 36 f.enc))):Den cx 222 [.ptr r 0,.fn f first caps] KV Kp (S s0 a0 x0 i0 n0):=by
 (refine Den.drop ?_;refine den_cxo ?_;refine Den.of_body (C:=cxo) Tryz.func222 rfl rfl (gC6 rfl) ?_;refine wpC_ok (V:=[0,1,4,5,10]) _ _ _ _ ?_;simp only[go_sem,Tryz.ntmps222,Tryz.f222]);have hlenT:=hT.len;rw[show (T.drop i0).length=T.length-i0 by rw[gD4]] at hk;simp only[loopR,Rd.bind_to] at hk;refine to_cxo (hf s0 a0 x0 i0 n0 _ _ hQ hi0 hn0 (Rd.to_mono hk (fun p w n' h=>?_) (fun g h=>?_)))
 ·intro j y hj hjT hw hn' hQy;simp only[Rd.ok_to,gD3] at h;simp only[go_sem];refine .inr ⟨⟨hz _,ho _⟩,fun t ht=>?_⟩;obtain ⟨g1,g2,g3⟩:=h1 s0 p.1 y j n' t (1,43) hQy ht
  refine Ex.loop (ι:=(σ × X × Nat × Nat) × List α) (fun c=>[(0,.ptr r 0),(1,.fn f first caps),(5,.list (some t) (c.2.map enc))])
   (fun c=>S (s0.setT t (c.2.length,43)) c.1.1 c.1.2.1 c.1.2.2.1 c.1.2.2.2)
   (fun c => Q (s0.setT t (c.2.length,43)) c.1.1 c.1.2.1 c.1.2.2.1 ∧ i0 ≤ c.1.2.2.1 ∧ c.1.2.2.1 ≤ T.length ∧ c.1.2.2.2 ≤ 2000 ∧ c.2.length ≤ c.1.2.2.1 + 1 ∧ ∃ k,T.length - c.1.2.2.1 ≤ k ∧
    (if isT [44] (T.drop c.1.2.2.1) = true then loopR fin [44] (fun (c : σ × List α) w n => (one c.1 w n).bind fun p w n => .ok (p.1,c.2 ++ [p.2]) w n) k (c.1.1,c.2) (T.drop c.1.2.2.1).tail c.1.2.2.2
     else Rd.ok (c.1.1,c.2) (T.drop c.1.2.2.1) c.1.2.2.2).to
      (fun c w n=>∀ j y,i0≤j→j≤T.length→T.drop j=w→n≤2000→Q s0 c.1 y j→KV (S s0 c.1 y j n) (.list none (c.2.map enc)))
      (fun f=>∀ s1 o,s1.gx s0 r→s1.getO r=some o→Kp s1 (.iface 36 f.enc)))
   (fun c=>T.length-c.1.2.2.1) ((p.1,y,j,n'),[p.2]) ?_ ?_ ?_ ?_
  ·refine ⟨g2,hj,hjT,hn',by simp only[gC1,gC3];omega,T.length-i0,by simp only;omega,?_⟩;simp only[hw];exact h
  ·simp only[go_sem]
  ·exact g3
  ·rintro ⟨⟨a,x,i,n⟩,l⟩ ⟨q1,q2,q3,qn,q4,k,q5,q6⟩;simp only at q1 q2 q3 qn q4 q5 q6;obtain ⟨d,fi,hri,hst⟩:=hr (s0.setT t (l.length,43)) a x i n;refine wpC_ok (V:=[0,1,4,5,10]) _ _ _ _ ?_;simp only[go_sem];refine to_cxo (take_den _ hri q3 hT ?_);cases hx:isT [44] (T.drop i) with
   | false =>
    rw[hx] at q6;simp only[gD7,if_false,Rd.ok_to] at q6;obtain ⟨e1,e2⟩:=h3 s0 a x i n t (l.length,43) g1 q1;simp only[go_sem];exact DK.mk (q6 i x q2 q3 rfl qn e1) e2 (A.le.forget _ _)
   | true =>
    rw[hx] at q6;have hlt:=isT_lt hx;obtain ⟨k,rfl⟩:∃ k',k=k'+1:=⟨k-1,by omega⟩
    simp only[if_true,loopR,Rd.bind_to,Rd.ok_to,List.tail_drop] at q6;simp only[go_sem];refine to_cxo (Den.weaken hst (hf (s0.setT t (l.length,43)) a x (i+1) n _ _ (hi _ _ _ _ q1) hlt qn (Rd.to_mono q6 (fun p w n' h=>?_) (fun g h=>?_))))
    ·intro j y hj hjT hw hn' hQy;obtain ⟨e1,e2,e3⟩:=h2 s0 p.1 y j n' t (l.length,43) (l.length+1,43) g1 hQy;simp only[go_sem];refine .inl ⟨⟨hz _,ho _⟩,by decide,fun q hq=>?_,e1,fun q hq=>?_,by omega,((p.1,y,j,n'),l++[p.2]),⟨?_,by simp only;omega,hjT,hn',?_,k,by simp only;omega,?_⟩,by simp only;omega,?_,?_⟩
     ·simp only[List.mem_singleton] at hq;subst hq;exact hz _
     ·simp only[List.mem_map] at hq;obtain ⟨q',_,rfl⟩:=hq;exact hz _
     ·simp only[gC2,gC1,gC3];exact e2
     ·simp only[gC2,gC1,gC3];omega
     ·simp only[hw];exact h
     ·simp only[List.map_append,List.map_cons,List.map_nil]
     ·simp only[gC2,gC1,gC3];exact e3
    ·intro s1 o hg1 hr1;simp only[go_sem];exact DK.here (h s1 o (hg1.dropT g1) hr1)
 ·intro s1 o hg1 hr1;exact DK.here (h s1 o hg1 hr1)
theorem plists222_den {α:Type} (enc:α→A) (hz:∀ a,(enc a).cells.length=6) (ho:∀ a,allOne (enc a).cells=true)
  {T:List Tok} {fin:Fault} {d:Dc} {fi:Tok} {s0:St} {r:Nat} {KV Kp:St→A→Prop} (hT:TOk T)
  (Q:St→Prop) (hq:∀ (s:St) (t:Nat) (v:Nat × TypeId),Q (s.setT t v)↔Q s) (one:List Tok→Nat→Rd α) (f:FuncId) (first caps:List A)
  (hf : ∀ (s : St) (i n : Nat) (KV Kp : St → A → Prop),Q s → i ≤ T.length → n ≤ 2000 → (one (T.drop i) n).to (fun a w n' => ∀ j,i ≤ j → j ≤ T.length → T.drop j = w → n' ≤ 2000 → KV (s.setO r (psO T fin d fi j n')) (enc a))
   (fun f=>∀ s1 o,s1.gx s r→s1.getO r=some o→Kp s1 (.iface 36 f.enc))→Den cx f (first++[]++caps) KV Kp (s.setO r (psO T fin d fi i n)))
  (i0 n0:Nat) (hQ:Q s0) (hi0:i0≤T.length) (hn0:n0≤2000)
  (hk : (listR fin (fun _ => one) [] (T.drop i0) n0).to
   (fun l w n=>∀ j,i0≤j→j≤T.length→T.drop j=w→n≤2000→KV (s0.setO r (psO T fin d fi j n)) (.list none (l.map enc)))
   (fun f=>∀ s1 o,s1.gx s0 r→s1.getO r=some o→Kp s1 (.iface 36 f.enc))):Den cx 222 [.ptr r 0,.fn f first caps] KV Kp (s0.setO r (psO T fin d fi i0 n0)):=by
 refine plist222_den (σ:=Unit) (X:=Unit) enc hz ho hT (fun s _ _ i n=>s.setO r (psO T fin d fi i n)) (fun s _ _ _=>Q s) (fun _ w n=>(one w n).bind fun a w n=>.ok ((),a) w n) f first caps
  (fun s _ _ i n=>⟨d,fi,by rw[gA1,if_pos rfl],by rw[setO_setO];exact St.ge.refl _⟩) (fun s _ _ i n t v h ht=>⟨ht,(hq s t v).2 h,St.ge.refl _⟩)
  (fun s _ _ i n t v u ht h=>⟨?_,(hq s t u).2 ((hq s t v).1 h),?_⟩) (fun s _ _ i n t v ht h=>⟨(hq s t v).1 h,?_⟩) (fun s _ _ i h=>h) (fun s _ _ i n h=>St.gx_r (gA8 s r)) (fun s _ _ i n KV Kp h hi hn hk=>?_) () () i0 n0 hQ hi0 hn0 ?_
 ·show (s.setT t v).getT t=some v;rw[gA4,if_pos rfl]
 ·show (((s.setT t v).setT t u).setO r _).ge ((s.setT t u).setO r _);exact St.ge_setO (St.setT_over s t v u)
 ·exact St.ge_setO (St.ge_freeT ht)
 ·refine hf s i n KV Kp h hi hn ?_;rw[Rd.bind_to] at hk;refine Rd.to_mono hk (fun a w n' h2 j hj hjT hw hn'=>?_) (fun _ h2=>h2);exact h2 j () hj hjT hw hn' h
 ·have:=loopR_unit fin [44] one ((T.drop i0).length+1) [] [] (T.drop i0) n0 _ _ hk;refine Rd.to_mono this (fun c w n h j y hj hjT hw hn' hQ'=>?_) (fun _ h2=>h2);have h':=h j hj hjT hw hn';simpa only[gD3] using h'
theorem plist150_den {σ α X:Type} (enc:α→A) (hz:∀ a,(enc a).cells.length=1) (ho:∀ a,allOne (enc a).cells=true)
  {T:List Tok} {fin:Fault} {s0:St} {r:Nat} {KV Kp:St→A→Prop} (hT:TOk T)
  (S:St→σ→X→Nat→Nat→St) (Q:St→σ→X→Nat→Prop) (one:σ→List Tok→Nat→Rd (σ × α)) (f:FuncId) (first caps:List A)
  (hr:∀ (s:St) (a:σ) (x:X) (i n:Nat),∃ d fi,(S s a x i n).getO r=some (psO T fin d fi i n)∧((S s a x i n).setO r (psO T fin d fi (i+1) n)).ge (S s a x (i+1) n))
  (h1:∀ (s:St) (a:σ) (x:X) (i n:Nat) (t:Nat) (v:Nat × TypeId),Q s a x i→(S s a x i n).getT t=none→s.getT t=none∧Q (s.setT t v) a x i∧((S s a x i n).setT t v).ge (S (s.setT t v) a x i n))
  (h2:∀ (s:St) (a:σ) (x:X) (i n:Nat) (t:Nat) (v u:Nat × TypeId),s.getT t=none→Q (s.setT t v) a x i→(S (s.setT t v) a x i n).getT t=some v∧Q (s.setT t u) a x i∧((S (s.setT t v) a x i n).setT t u).ge (S (s.setT t u) a x i n))
  (h3:∀ (s:St) (a:σ) (x:X) (i n:Nat) (t:Nat) (v:Nat × TypeId),s.getT t=none→Q (s.setT t v) a x i→Q s a x i∧(S (s.setT t v) a x i n).ge (S s a x i n))
  (hi:∀ (s:St) (a:σ) (x:X) (i:Nat),Q s a x i→Q s a x (i+1))
  (hg:∀ (s:St) (a:σ) (x:X) (i n:Nat),Q s a x i→(S s a x i n).gx s r)
  (hf : ∀ (s : St) (a : σ) (x : X) (i n : Nat) (KV Kp : St → A → Prop),Q s a x i → i ≤ T.length → n ≤ 2000 → (one a (T.drop i) n).to (fun p w n' => ∀ j y,i ≤ j → j ≤ T.length → T.drop j = w → n' ≤ 2000 → Q s p.1 y j → KV (S s p.1 y j n') (enc p.2))
   (fun f=>∀ s1 o,s1.gx s r→s1.getO r=some o→Kp s1 (.iface 36 f.enc))→Den cx f (first++[]++caps) KV Kp (S s a x i n))
  (a0:σ) (x0:X) (i0 n0:Nat) (hQ:Q s0 a0 x0 i0) (hi0:i0≤T.length) (hn0:n0≤2000)
  (hk : (loopR fin [44] (fun (c : σ × List α) w n => (one c.1 w n).bind fun p w n => .ok (p.1,c.2 ++ [p.2]) w n) ((T.drop i0).length + 1) (a0,[]) (T.drop i0) n0).to
   (fun c w n=>∀ j y,i0≤j→j≤T.length→T.drop j=w→n≤2000→Q s0 c.1 y j→KV (S s0 c.1 y j n) (.list none (c.2.map enc)))
   (fun f=>∀ s1 o,s1.gx s0 r→s1.getO r=some o→Kp s1 (.iface 36 f.enc))):Den cx 150 [.ptr r 0,.fn f first caps] KV Kp (S s0 a0 x0 i0 n0):=by
 (refine Den.drop ?_;refine den_cxo ?_;refine Den.of_body (C:=cxo) Tryz.func150 rfl rfl (gC6 rfl) ?_;refine wpC_ok (V:=[0,1,4,5,10]) _ _ _ _ ?_;simp only[go_sem,Tryz.ntmps150,Tryz.f150]);have hlenT:=hT.len;rw[show (T.drop i0).length=T.length-i0 by rw[gD4]] at hk;simp only[loopR,Rd.bind_to] at hk;refine to_cxo (hf s0 a0 x0 i0 n0 _ _ hQ hi0 hn0 (Rd.to_mono hk (fun p w n' h=>?_) (fun g h=>?_)))
 ·intro j y hj hjT hw hn' hQy;simp only[Rd.ok_to,gD3] at h;simp only[go_sem];refine .inr ⟨⟨hz _,ho _⟩,fun t ht=>?_⟩;obtain ⟨g1,g2,g3⟩:=h1 s0 p.1 y j n' t (1,9) hQy ht
  refine Ex.loop (ι:=(σ × X × Nat × Nat) × List α) (fun c=>[(0,.ptr r 0),(1,.fn f first caps),(5,.list (some t) (c.2.map enc))])
   (fun c=>S (s0.setT t (c.2.length,9)) c.1.1 c.1.2.1 c.1.2.2.1 c.1.2.2.2)
   (fun c => Q (s0.setT t (c.2.length,9)) c.1.1 c.1.2.1 c.1.2.2.1 ∧ i0 ≤ c.1.2.2.1 ∧ c.1.2.2.1 ≤ T.length ∧ c.1.2.2.2 ≤ 2000 ∧ c.2.length ≤ c.1.2.2.1 + 1 ∧ ∃ k,T.length - c.1.2.2.1 ≤ k ∧
    (if isT [44] (T.drop c.1.2.2.1) = true then loopR fin [44] (fun (c : σ × List α) w n => (one c.1 w n).bind fun p w n => .ok (p.1,c.2 ++ [p.2]) w n) k (c.1.1,c.2) (T.drop c.1.2.2.1).tail c.1.2.2.2
     else Rd.ok (c.1.1,c.2) (T.drop c.1.2.2.1) c.1.2.2.2).to
      (fun c w n=>∀ j y,i0≤j→j≤T.length→T.drop j=w→n≤2000→Q s0 c.1 y j→KV (S s0 c.1 y j n) (.list none (c.2.map enc)))
      (fun f=>∀ s1 o,s1.gx s0 r→s1.getO r=some o→Kp s1 (.iface 36 f.enc)))
   (fun c=>T.length-c.1.2.2.1) ((p.1,y,j,n'),[p.2]) ?_ ?_ ?_ ?_
  ·refine ⟨g2,hj,hjT,hn',by simp only[gC1,gC3];omega,T.length-i0,by simp only;omega,?_⟩;simp only[hw];exact h
  ·simp only[go_sem]
  ·exact g3
  ·rintro ⟨⟨a,x,i,n⟩,l⟩ ⟨q1,q2,q3,qn,q4,k,q5,q6⟩;simp only at q1 q2 q3 qn q4 q5 q6;obtain ⟨d,fi,hri,hst⟩:=hr (s0.setT t (l.length,9)) a x i n;refine wpC_ok (V:=[0,1,4,5,10]) _ _ _ _ ?_;simp only[go_sem];refine to_cxo (take_den _ hri q3 hT ?_);cases hx:isT [44] (T.drop i) with
   | false =>
    rw[hx] at q6;simp only[gD7,if_false,Rd.ok_to] at q6;obtain ⟨e1,e2⟩:=h3 s0 a x i n t (l.length,9) g1 q1;simp only[go_sem];exact DK.mk (q6 i x q2 q3 rfl qn e1) e2 (A.le.forget _ _)
   | true =>
    rw[hx] at q6;have hlt:=isT_lt hx;obtain ⟨k,rfl⟩:∃ k',k=k'+1:=⟨k-1,by omega⟩
    simp only[if_true,loopR,Rd.bind_to,Rd.ok_to,List.tail_drop] at q6;simp only[go_sem];refine to_cxo (Den.weaken hst (hf (s0.setT t (l.length,9)) a x (i+1) n _ _ (hi _ _ _ _ q1) hlt qn (Rd.to_mono q6 (fun p w n' h=>?_) (fun g h=>?_))))
    ·intro j y hj hjT hw hn' hQy;obtain ⟨e1,e2,e3⟩:=h2 s0 p.1 y j n' t (l.length,9) (l.length+1,9) g1 hQy;simp only[go_sem];refine .inl ⟨⟨hz _,ho _⟩,by decide,fun q hq=>?_,e1,fun q hq=>?_,by omega,((p.1,y,j,n'),l++[p.2]),⟨?_,by simp only;omega,hjT,hn',?_,k,by simp only;omega,?_⟩,by simp only;omega,?_,?_⟩
     ·simp only[List.mem_singleton] at hq;subst hq;exact hz _
     ·simp only[List.mem_map] at hq;obtain ⟨q',_,rfl⟩:=hq;exact hz _
     ·simp only[gC2,gC1,gC3];exact e2
     ·simp only[gC2,gC1,gC3];omega
     ·simp only[hw];exact h
     ·simp only[List.map_append,List.map_cons,List.map_nil]
     ·simp only[gC2,gC1,gC3];exact e3
    ·intro s1 o hg1 hr1;simp only[go_sem];exact DK.here (h s1 o (hg1.dropT g1) hr1)
 ·intro s1 o hg1 hr1;exact DK.here (h s1 o hg1 hr1)
theorem plists150_den {α:Type} (enc:α→A) (hz:∀ a,(enc a).cells.length=1) (ho:∀ a,allOne (enc a).cells=true)
  {T:List Tok} {fin:Fault} {d:Dc} {fi:Tok} {s0:St} {r:Nat} {KV Kp:St→A→Prop} (hT:TOk T)
  (Q:St→Prop) (hq:∀ (s:St) (t:Nat) (v:Nat × TypeId),Q (s.setT t v)↔Q s) (one:List Tok→Nat→Rd α) (f:FuncId) (first caps:List A)
  (hf : ∀ (s : St) (i n : Nat) (KV Kp : St → A → Prop),Q s → i ≤ T.length → n ≤ 2000 → (one (T.drop i) n).to (fun a w n' => ∀ j,i ≤ j → j ≤ T.length → T.drop j = w → n' ≤ 2000 → KV (s.setO r (psO T fin d fi j n')) (enc a))
   (fun f=>∀ s1 o,s1.gx s r→s1.getO r=some o→Kp s1 (.iface 36 f.enc))→Den cx f (first++[]++caps) KV Kp (s.setO r (psO T fin d fi i n)))
  (i0 n0:Nat) (hQ:Q s0) (hi0:i0≤T.length) (hn0:n0≤2000)
  (hk : (listR fin (fun _ => one) [] (T.drop i0) n0).to
   (fun l w n=>∀ j,i0≤j→j≤T.length→T.drop j=w→n≤2000→KV (s0.setO r (psO T fin d fi j n)) (.list none (l.map enc)))
   (fun f=>∀ s1 o,s1.gx s0 r→s1.getO r=some o→Kp s1 (.iface 36 f.enc))):Den cx 150 [.ptr r 0,.fn f first caps] KV Kp (s0.setO r (psO T fin d fi i0 n0)):=by
 refine plist150_den (σ:=Unit) (X:=Unit) enc hz ho hT (fun s _ _ i n=>s.setO r (psO T fin d fi i n)) (fun s _ _ _=>Q s) (fun _ w n=>(one w n).bind fun a w n=>.ok ((),a) w n) f first caps
  (fun s _ _ i n=>⟨d,fi,by rw[gA1,if_pos rfl],by rw[setO_setO];exact St.ge.refl _⟩) (fun s _ _ i n t v h ht=>⟨ht,(hq s t v).2 h,St.ge.refl _⟩)
  (fun s _ _ i n t v u ht h=>⟨?_,(hq s t u).2 ((hq s t v).1 h),?_⟩) (fun s _ _ i n t v ht h=>⟨(hq s t v).1 h,?_⟩) (fun s _ _ i h=>h) (fun s _ _ i n h=>St.gx_r (gA8 s r)) (fun s _ _ i n KV Kp h hi hn hk=>?_) () () i0 n0 hQ hi0 hn0 ?_
 ·show (s.setT t v).getT t=some v;rw[gA4,if_pos rfl]
 ·show (((s.setT t v).setT t u).setO r _).ge ((s.setT t u).setO r _);exact St.ge_setO (St.setT_over s t v u)
 ·exact St.ge_setO (St.ge_freeT ht)
 ·refine hf s i n KV Kp h hi hn ?_;rw[Rd.bind_to] at hk;refine Rd.to_mono hk (fun a w n' h2 j hj hjT hw hn'=>?_) (fun _ h2=>h2);exact h2 j () hj hjT hw hn' h
 ·have:=loopR_unit fin [44] one ((T.drop i0).length+1) [] [] (T.drop i0) n0 _ _ hk;refine Rd.to_mono this (fun c w n h j y hj hjT hw hn' hQ'=>?_) (fun _ h2=>h2);have h':=h j hj hjT hw hn';simpa only[gD3] using h'
theorem plist146_den {σ α X:Type} (enc:α→A) (hz:∀ a,(enc a).cells.length=1) (ho:∀ a,allOne (enc a).cells=true)
  {T:List Tok} {fin:Fault} {s0:St} {r:Nat} {KV Kp:St→A→Prop} (hT:TOk T)
  (S:St→σ→X→Nat→Nat→St) (Q:St→σ→X→Nat→Prop) (one:σ→List Tok→Nat→Rd (σ × α)) (f:FuncId) (first caps:List A)
  (hr:∀ (s:St) (a:σ) (x:X) (i n:Nat),∃ d fi,(S s a x i n).getO r=some (psO T fin d fi i n)∧((S s a x i n).setO r (psO T fin d fi (i+1) n)).ge (S s a x (i+1) n))
  (h1:∀ (s:St) (a:σ) (x:X) (i n:Nat) (t:Nat) (v:Nat × TypeId),Q s a x i→(S s a x i n).getT t=none→s.getT t=none∧Q (s.setT t v) a x i∧((S s a x i n).setT t v).ge (S (s.setT t v) a x i n))
  (h2:∀ (s:St) (a:σ) (x:X) (i n:Nat) (t:Nat) (v u:Nat × TypeId),s.getT t=none→Q (s.setT t v) a x i→(S (s.setT t v) a x i n).getT t=some v∧Q (s.setT t u) a x i∧((S (s.setT t v) a x i n).setT t u).ge (S (s.setT t u) a x i n))
  (h3:∀ (s:St) (a:σ) (x:X) (i n:Nat) (t:Nat) (v:Nat × TypeId),s.getT t=none→Q (s.setT t v) a x i→Q s a x i∧(S (s.setT t v) a x i n).ge (S s a x i n))
  (hi:∀ (s:St) (a:σ) (x:X) (i:Nat),Q s a x i→Q s a x (i+1))
  (hg:∀ (s:St) (a:σ) (x:X) (i n:Nat),Q s a x i→(S s a x i n).gx s r)
  (hf : ∀ (s : St) (a : σ) (x : X) (i n : Nat) (KV Kp : St → A → Prop),Q s a x i → i ≤ T.length → n ≤ 2000 → (one a (T.drop i) n).to (fun p w n' => ∀ j y,i ≤ j → j ≤ T.length → T.drop j = w → n' ≤ 2000 → Q s p.1 y j → KV (S s p.1 y j n') (enc p.2))
   (fun f=>∀ s1 o,s1.gx s r→s1.getO r=some o→Kp s1 (.iface 36 f.enc))→Den cx f (first++[]++caps) KV Kp (S s a x i n))
  (a0:σ) (x0:X) (i0 n0:Nat) (hQ:Q s0 a0 x0 i0) (hi0:i0≤T.length) (hn0:n0≤2000)
  (hk : (loopR fin [44] (fun (c : σ × List α) w n => (one c.1 w n).bind fun p w n => .ok (p.1,c.2 ++ [p.2]) w n) ((T.drop i0).length + 1) (a0,[]) (T.drop i0) n0).to
   (fun c w n=>∀ j y,i0≤j→j≤T.length→T.drop j=w→n≤2000→Q s0 c.1 y j→KV (S s0 c.1 y j n) (.list none (c.2.map enc)))
   (fun f=>∀ s1 o,s1.gx s0 r→s1.getO r=some o→Kp s1 (.iface 36 f.enc))):Den cx 146 [.ptr r 0,.fn f first caps] KV Kp (S s0 a0 x0 i0 n0):=by
 (refine Den.drop ?_;refine den_cxo ?_;refine Den.of_body (C:=cxo) Tryz.func146 rfl rfl (gC6 rfl) ?_;refine wpC_ok (V:=[0,1,4,5,10]) _ _ _ _ ?_;simp only[go_sem,Tryz.ntmps146,Tryz.f146]);have hlenT:=hT.len;rw[show (T.drop i0).length=T.length-i0 by rw[gD4]] at hk;simp only[loopR,Rd.bind_to] at hk;refine to_cxo (hf s0 a0 x0 i0 n0 _ _ hQ hi0 hn0 (Rd.to_mono hk (fun p w n' h=>?_) (fun g h=>?_)))
 ·intro j y hj hjT hw hn' hQy;simp only[Rd.ok_to,gD3] at h;simp only[go_sem];refine .inr ⟨⟨hz _,ho _⟩,fun t ht=>?_⟩;obtain ⟨g1,g2,g3⟩:=h1 s0 p.1 y j n' t (1,4) hQy ht
  refine Ex.loop (ι:=(σ × X × Nat × Nat) × List α) (fun c=>[(0,.ptr r 0),(1,.fn f first caps),(5,.list (some t) (c.2.map enc))])
   (fun c=>S (s0.setT t (c.2.length,4)) c.1.1 c.1.2.1 c.1.2.2.1 c.1.2.2.2)
   (fun c => Q (s0.setT t (c.2.length,4)) c.1.1 c.1.2.1 c.1.2.2.1 ∧ i0 ≤ c.1.2.2.1 ∧ c.1.2.2.1 ≤ T.length ∧ c.1.2.2.2 ≤ 2000 ∧ c.2.length ≤ c.1.2.2.1 + 1 ∧ ∃ k,T.length - c.1.2.2.1 ≤ k ∧
    (if isT [44] (T.drop c.1.2.2.1) = true then loopR fin [44] (fun (c : σ × List α) w n => (one c.1 w n).bind fun p w n => .ok (p.1,c.2 ++ [p.2]) w n) k (c.1.1,c.2) (T.drop c.1.2.2.1).tail c.1.2.2.2
     else Rd.ok (c.1.1,c.2) (T.drop c.1.2.2.1) c.1.2.2.2).to
      (fun c w n=>∀ j y,i0≤j→j≤T.length→T.drop j=w→n≤2000→Q s0 c.1 y j→KV (S s0 c.1 y j n) (.list none (c.2.map enc)))
      (fun f=>∀ s1 o,s1.gx s0 r→s1.getO r=some o→Kp s1 (.iface 36 f.enc)))
   (fun c=>T.length-c.1.2.2.1) ((p.1,y,j,n'),[p.2]) ?_ ?_ ?_ ?_
  ·refine ⟨g2,hj,hjT,hn',by simp only[gC1,gC3];omega,T.length-i0,by simp only;omega,?_⟩;simp only[hw];exact h
  ·simp only[go_sem]
  ·exact g3
  ·rintro ⟨⟨a,x,i,n⟩,l⟩ ⟨q1,q2,q3,qn,q4,k,q5,q6⟩;simp only at q1 q2 q3 qn q4 q5 q6;obtain ⟨d,fi,hri,hst⟩:=hr (s0.setT t (l.length,4)) a x i n;refine wpC_ok (V:=[0,1,4,5,10]) _ _ _ _ ?_;simp only[go_sem];refine to_cxo (take_den _ hri q3 hT ?_);cases hx:isT [44] (T.drop i) with
   | false =>
    rw[hx] at q6;simp only[gD7,if_false,Rd.ok_to] at q6;obtain ⟨e1,e2⟩:=h3 s0 a x i n t (l.length,4) g1 q1;simp only[go_sem];exact DK.mk (q6 i x q2 q3 rfl qn e1) e2 (A.le.forget _ _)
   | true =>
    rw[hx] at q6;have hlt:=isT_lt hx;obtain ⟨k,rfl⟩:∃ k',k=k'+1:=⟨k-1,by omega⟩
    simp only[if_true,loopR,Rd.bind_to,Rd.ok_to,List.tail_drop] at q6;simp only[go_sem];refine to_cxo (Den.weaken hst (hf (s0.setT t (l.length,4)) a x (i+1) n _ _ (hi _ _ _ _ q1) hlt qn (Rd.to_mono q6 (fun p w n' h=>?_) (fun g h=>?_))))
    ·intro j y hj hjT hw hn' hQy;obtain ⟨e1,e2,e3⟩:=h2 s0 p.1 y j n' t (l.length,4) (l.length+1,4) g1 hQy;simp only[go_sem];refine .inl ⟨⟨hz _,ho _⟩,by decide,fun q hq=>?_,e1,fun q hq=>?_,by omega,((p.1,y,j,n'),l++[p.2]),⟨?_,by simp only;omega,hjT,hn',?_,k,by simp only;omega,?_⟩,by simp only;omega,?_,?_⟩
     ·simp only[List.mem_singleton] at hq;subst hq;exact hz _
     ·simp only[List.mem_map] at hq;obtain ⟨q',_,rfl⟩:=hq;exact hz _
     ·simp only[gC2,gC1,gC3];exact e2
     ·simp only[gC2,gC1,gC3];omega
     ·simp only[hw];exact h
     ·simp only[List.map_append,List.map_cons,List.map_nil]
     ·simp only[gC2,gC1,gC3];exact e3
    ·intro s1 o hg1 hr1;simp only[go_sem];exact DK.here (h s1 o (hg1.dropT g1) hr1)
 ·intro s1 o hg1 hr1;exact DK.here (h s1 o hg1 hr1)
theorem plist282_den {σ α X:Type} (enc:α→A) (hz:∀ a,(enc a).cells.length=1) (ho:∀ a,allOne (enc a).cells=true)
  {T:List Tok} {fin:Fault} {s0:St} {r:Nat} {KV Kp:St→A→Prop} (hT:TOk T)
  (S:St→σ→X→Nat→Nat→St) (Q:St→σ→X→Nat→Prop) (one:σ→List Tok→Nat→Rd (σ × α)) (f:FuncId) (first caps:List A)
  (hr:∀ (s:St) (a:σ) (x:X) (i n:Nat),∃ d fi,(S s a x i n).getO r=some (psO T fin d fi i n)∧((S s a x i n).setO r (psO T fin d fi (i+1) n)).ge (S s a x (i+1) n))
  (h1:∀ (s:St) (a:σ) (x:X) (i n:Nat) (t:Nat) (v:Nat × TypeId),Q s a x i→(S s a x i n).getT t=none→s.getT t=none∧Q (s.setT t v) a x i∧((S s a x i n).setT t v).ge (S (s.setT t v) a x i n))
  (h2:∀ (s:St) (a:σ) (x:X) (i n:Nat) (t:Nat) (v u:Nat × TypeId),s.getT t=none→Q (s.setT t v) a x i→(S (s.setT t v) a x i n).getT t=some v∧Q (s.setT t u) a x i∧((S (s.setT t v) a x i n).setT t u).ge (S (s.setT t u) a x i n))
  (h3:∀ (s:St) (a:σ) (x:X) (i n:Nat) (t:Nat) (v:Nat × TypeId),s.getT t=none→Q (s.setT t v) a x i→Q s a x i∧(S (s.setT t v) a x i n).ge (S s a x i n))
  (hi:∀ (s:St) (a:σ) (x:X) (i:Nat),Q s a x i→Q s a x (i+1))
  (hg:∀ (s:St) (a:σ) (x:X) (i n:Nat),Q s a x i→(S s a x i n).gx s r)
  (hf : ∀ (s : St) (a : σ) (x : X) (i n : Nat) (KV Kp : St → A → Prop),Q s a x i → i ≤ T.length → n ≤ 2000 → (one a (T.drop i) n).to (fun p w n' => ∀ j y,i ≤ j → j ≤ T.length → T.drop j = w → n' ≤ 2000 → Q s p.1 y j → KV (S s p.1 y j n') (enc p.2))
   (fun f=>∀ s1 o,s1.gx s r→s1.getO r=some o→Kp s1 (.iface 36 f.enc))→Den cx f (first++[]++caps) KV Kp (S s a x i n))
  (a0:σ) (x0:X) (i0 n0:Nat) (hQ:Q s0 a0 x0 i0) (hi0:i0≤T.length) (hn0:n0≤2000)
  (hk : (loopR fin [44] (fun (c : σ × List α) w n => (one c.1 w n).bind fun p w n => .ok (p.1,c.2 ++ [p.2]) w n) ((T.drop i0).length + 1) (a0,[]) (T.drop i0) n0).to
   (fun c w n=>∀ j y,i0≤j→j≤T.length→T.drop j=w→n≤2000→Q s0 c.1 y j→KV (S s0 c.1 y j n) (.list none (c.2.map enc)))
   (fun f=>∀ s1 o,s1.gx s0 r→s1.getO r=some o→Kp s1 (.iface 36 f.enc))):Den cx 282 [.ptr r 0,.fn f first caps] KV Kp (S s0 a0 x0 i0 n0):=by
 (refine Den.drop ?_;refine den_cxo ?_;refine Den.of_body (C:=cxo) Tryz.func282 rfl rfl (gC6 rfl) ?_;refine wpC_ok (V:=[0,1,4,5,10]) _ _ _ _ ?_;simp only[go_sem,Tryz.ntmps282,Tryz.f282]);have hlenT:=hT.len;rw[show (T.drop i0).length=T.length-i0 by rw[gD4]] at hk;simp only[loopR,Rd.bind_to] at hk;refine to_cxo (hf s0 a0 x0 i0 n0 _ _ hQ hi0 hn0 (Rd.to_mono hk (fun p w n' h=>?_) (fun g h=>?_)))
 ·intro j y hj hjT hw hn' hQy;simp only[Rd.ok_to,gD3] at h;simp only[go_sem];refine .inr ⟨⟨hz _,ho _⟩,fun t ht=>?_⟩;obtain ⟨g1,g2,g3⟩:=h1 s0 p.1 y j n' t (1,3) hQy ht
  refine Ex.loop (ι:=(σ × X × Nat × Nat) × List α) (fun c=>[(0,.ptr r 0),(1,.fn f first caps),(5,.list (some t) (c.2.map enc))])
   (fun c=>S (s0.setT t (c.2.length,3)) c.1.1 c.1.2.1 c.1.2.2.1 c.1.2.2.2)
   (fun c => Q (s0.setT t (c.2.length,3)) c.1.1 c.1.2.1 c.1.2.2.1 ∧ i0 ≤ c.1.2.2.1 ∧ c.1.2.2.1 ≤ T.length ∧ c.1.2.2.2 ≤ 2000 ∧ c.2.length ≤ c.1.2.2.1 + 1 ∧ ∃ k,T.length - c.1.2.2.1 ≤ k ∧
    (if isT [44] (T.drop c.1.2.2.1) = true then loopR fin [44] (fun (c : σ × List α) w n => (one c.1 w n).bind fun p w n => .ok (p.1,c.2 ++ [p.2]) w n) k (c.1.1,c.2) (T.drop c.1.2.2.1).tail c.1.2.2.2
     else Rd.ok (c.1.1,c.2) (T.drop c.1.2.2.1) c.1.2.2.2).to
      (fun c w n=>∀ j y,i0≤j→j≤T.length→T.drop j=w→n≤2000→Q s0 c.1 y j→KV (S s0 c.1 y j n) (.list none (c.2.map enc)))
      (fun f=>∀ s1 o,s1.gx s0 r→s1.getO r=some o→Kp s1 (.iface 36 f.enc)))
   (fun c=>T.length-c.1.2.2.1) ((p.1,y,j,n'),[p.2]) ?_ ?_ ?_ ?_
  ·refine ⟨g2,hj,hjT,hn',by simp only[gC1,gC3];omega,T.length-i0,by simp only;omega,?_⟩;simp only[hw];exact h
  ·simp only[go_sem]
  ·exact g3
  ·rintro ⟨⟨a,x,i,n⟩,l⟩ ⟨q1,q2,q3,qn,q4,k,q5,q6⟩;simp only at q1 q2 q3 qn q4 q5 q6;obtain ⟨d,fi,hri,hst⟩:=hr (s0.setT t (l.length,3)) a x i n;refine wpC_ok (V:=[0,1,4,5,10]) _ _ _ _ ?_;simp only[go_sem];refine to_cxo (take_den _ hri q3 hT ?_);cases hx:isT [44] (T.drop i) with
   | false =>
    rw[hx] at q6;simp only[gD7,if_false,Rd.ok_to] at q6;obtain ⟨e1,e2⟩:=h3 s0 a x i n t (l.length,3) g1 q1;simp only[go_sem];exact DK.mk (q6 i x q2 q3 rfl qn e1) e2 (A.le.forget _ _)
   | true =>
    rw[hx] at q6;have hlt:=isT_lt hx;obtain ⟨k,rfl⟩:∃ k',k=k'+1:=⟨k-1,by omega⟩
    simp only[if_true,loopR,Rd.bind_to,Rd.ok_to,List.tail_drop] at q6;simp only[go_sem];refine to_cxo (Den.weaken hst (hf (s0.setT t (l.length,3)) a x (i+1) n _ _ (hi _ _ _ _ q1) hlt qn (Rd.to_mono q6 (fun p w n' h=>?_) (fun g h=>?_))))
    ·intro j y hj hjT hw hn' hQy;obtain ⟨e1,e2,e3⟩:=h2 s0 p.1 y j n' t (l.length,3) (l.length+1,3) g1 hQy;simp only[go_sem];refine .inl ⟨⟨hz _,ho _⟩,by decide,fun q hq=>?_,e1,fun q hq=>?_,by omega,((p.1,y,j,n'),l++[p.2]),⟨?_,by simp only;omega,hjT,hn',?_,k,by simp only;omega,?_⟩,by simp only;omega,?_,?_⟩
     ·simp only[List.mem_singleton] at hq;subst hq;exact hz _
     ·simp only[List.mem_map] at hq;obtain ⟨q',_,rfl⟩:=hq;exact hz _
     ·simp only[gC2,gC1,gC3];exact e2
     ·simp only[gC2,gC1,gC3];omega
     ·simp only[hw];exact h
     ·simp only[List.map_append,List.map_cons,List.map_nil]
     ·simp only[gC2,gC1,gC3];exact e3
    ·intro s1 o hg1 hr1;simp only[go_sem];exact DK.here (h s1 o (hg1.dropT g1) hr1)
 ·intro s1 o hg1 hr1;exact DK.here (h s1 o hg1 hr1)
theorem plists282_den {α:Type} (enc:α→A) (hz:∀ a,(enc a).cells.length=1) (ho:∀ a,allOne (enc a).cells=true)
  {T:List Tok} {fin:Fault} {d:Dc} {fi:Tok} {s0:St} {r:Nat} {KV Kp:St→A→Prop} (hT:TOk T)
  (Q:St→Prop) (hq:∀ (s:St) (t:Nat) (v:Nat × TypeId),Q (s.setT t v)↔Q s) (one:List Tok→Nat→Rd α) (f:FuncId) (first caps:List A)
  (hf : ∀ (s : St) (i n : Nat) (KV Kp : St → A → Prop),Q s → i ≤ T.length → n ≤ 2000 → (one (T.drop i) n).to (fun a w n' => ∀ j,i ≤ j → j ≤ T.length → T.drop j = w → n' ≤ 2000 → KV (s.setO r (psO T fin d fi j n')) (enc a))
   (fun f=>∀ s1 o,s1.gx s r→s1.getO r=some o→Kp s1 (.iface 36 f.enc))→Den cx f (first++[]++caps) KV Kp (s.setO r (psO T fin d fi i n)))
  (i0 n0:Nat) (hQ:Q s0) (hi0:i0≤T.length) (hn0:n0≤2000)
  (hk : (listR fin (fun _ => one) [] (T.drop i0) n0).to
   (fun l w n=>∀ j,i0≤j→j≤T.length→T.drop j=w→n≤2000→KV (s0.setO r (psO T fin d fi j n)) (.list none (l.map enc)))
   (fun f=>∀ s1 o,s1.gx s0 r→s1.getO r=some o→Kp s1 (.iface 36 f.enc))):Den cx 282 [.ptr r 0,.fn f first caps] KV Kp (s0.setO r (psO T fin d fi i0 n0)):=by
 refine plist282_den (σ:=Unit) (X:=Unit) enc hz ho hT (fun s _ _ i n=>s.setO r (psO T fin d fi i n)) (fun s _ _ _=>Q s) (fun _ w n=>(one w n).bind fun a w n=>.ok ((),a) w n) f first caps
  (fun s _ _ i n=>⟨d,fi,by rw[gA1,if_pos rfl],by rw[setO_setO];exact St.ge.refl _⟩) (fun s _ _ i n t v h ht=>⟨ht,(hq s t v).2 h,St.ge.refl _⟩)
  (fun s _ _ i n t v u ht h=>⟨?_,(hq s t u).2 ((hq s t v).1 h),?_⟩) (fun s _ _ i n t v ht h=>⟨(hq s t v).1 h,?_⟩) (fun s _ _ i h=>h) (fun s _ _ i n h=>St.gx_r (gA8 s r)) (fun s _ _ i n KV Kp h hi hn hk=>?_) () () i0 n0 hQ hi0 hn0 ?_
 ·show (s.setT t v).getT t=some v;rw[gA4,if_pos rfl]
 ·show (((s.setT t v).setT t u).setO r _).ge ((s.setT t u).setO r _);exact St.ge_setO (St.setT_over s t v u)
 ·exact St.ge_setO (St.ge_freeT ht)
 ·refine hf s i n KV Kp h hi hn ?_;rw[Rd.bind_to] at hk;refine Rd.to_mono hk (fun a w n' h2 j hj hjT hw hn'=>?_) (fun _ h2=>h2);exact h2 j () hj hjT hw hn' h
 ·have:=loopR_unit fin [44] one ((T.drop i0).length+1) [] [] (T.drop i0) n0 _ _ hk;refine Rd.to_mono this (fun c w n h j y hj hjT hw hn' hQ'=>?_) (fun _ h2=>h2);have h':=h j hj hjT hw hn';simpa only[gD3] using h'
theorem hf_of {α:Type} {enc:α→A} {T:List Tok} {fin:Fault} {d:Dc} {fi:Tok} {r:Nat} {Q:St→Prop} {one:List Tok→Nat→Rd α} {f:FuncId} {args:List A} (hQr:∀ (s:St) (o:Ob),Q s→Q (s.setO r o))
  (h:∀ (s:St) (i n:Nat) (KV Kp:St→A→Prop),s.getO r=some (psO T fin d fi i n)→Q s→i≤T.length→n≤2000→(one (T.drop i) n).to (PK T i (fun j m=>s.setO r (psO T fin d fi j m)) enc KV) (PB s r Kp)→Den cx f args KV Kp s) :
  ∀ (s:St) (i n:Nat) (KV Kp:St→A→Prop),Q s→i≤T.length→n≤2000→(one (T.drop i) n).to (fun a w n'=>∀ j,i≤j→j≤T.length→T.drop j=w→n'≤2000→KV (s.setO r (psO T fin d fi j n')) (enc a))
   (fun f=>∀ s1 o,s1.gx s r→s1.getO r=some o→Kp s1 (.iface 36 f.enc))→Den cx f args KV Kp (s.setO r (psO T fin d fi i n)):=by
 intro s i n KV Kp hQ hi hn hk;refine h (s.setO r _) i n KV Kp (by rw[gA1,if_pos rfl]) (hQr s _ hQ) hi hn (Rd.to_mono hk (fun a w m h j hj hjT hw hm=>?_) (fun f h o=>?_))
 ·simp only[setO_setO];exact h j hj hjT hw hm
 ·exact h _ o (St.gx_r (St.gx_r (gA8 s r))) (by rw[gA1,if_pos rfl])
end Go.AV
end
section
namespace Go.AV
open Go Go.Proofs
theorem isId_den (s:St) (x:Str) (KV Kp) (hk:KV s (.bool (isId x))):Den cx 240 [.str x] KV Kp s:=by
 refine Den.drop ?_;(refine Den.of_body (C:=cx) Tryz.func240 rfl rfl (gC6 rfl) ?_;refine wpC_ok (V:=[0,2]) _ _ _ _ ?_;simp only[go_sem,Tryz.ntmps240,Tryz.f240]);refine isName_den _ _ _ _ ?_;simp only[go_sem];cases hn:isName x with
 | false =>
  simp only[go_sem];rw[show isId x=false by simp[isId,hn]] at hk;exact DK.here hk
 | true =>
  cases x with
  | nil=>simp[isName] at hn
  | cons c r =>
   have e97:decide ((97:Int)≤(c.toNat:Int))=decide (97≤c.toNat):=by rw[decide_eq_decide];omega
   have e122:decide ((c.toNat:Int)≤122)=decide (c.toNat≤122):=by rw[decide_eq_decide];omega
   rw[show isId (c::r)=((decide (97≤c.toNat)&&decide (c.toNat≤122))&&!decide (c::r=[116,114,117,101])&&!decide (c::r=[102,97,108,115,101])) by simp[isId,hn]] at hk;cases h1:decide (97≤c.toNat)<;>cases h2:decide (c.toNat≤122)<;>cases h3:decide (c::r=[116,114,117,101])<;>cases h4:decide (c::r=[102,97,108,115,101])<;>simp only[go_sem,e97,e122,h1,h2,h3,h4]
   all_goals (rw[h1,h2,h3,h4] at hk;exact DK.here hk)
section
variable {T:List Tok} {fin:Fault} {d:Dc} {first:Tok} {i n:Nat} {s:St} {r:Nat} {KV Kp:St→A→Prop}
theorem PB.mk {s1:St} {f:Fault} (hg:s1.gx s r) (h:PB s r Kp f):PB s1 r (DK Kp) f:=fun o=>h.at (St.gx_r hg) (by rw[gA1,if_pos rfl])
theorem rest_den (deep:Nat) (sort:Str) (hr:s.getO r=some (psO T fin d first i n)) (hi:i≤T.length) (hT:TOk T) (hn:n≤2000)
  (hk:(restR fin first (decide (deep=60)) sort (T.drop i) n).to (PK T i (fun j m=>s.setO r (psO T fin d first j m)) (fun l=>.list none (l.map Tm.enc)) KV) (PB s r Kp)) :
  Den cx 242 [.ptr r 0,.int .i64 deep,.str sort] KV Kp s:=by
 refine Den.drop ?_;(refine Den.of_body (C:=cx) Tryz.func242 rfl rfl (gC6 rfl) ?_;refine wpC_ok (V:=[0,1,2,6,7,8,11,17]) _ _ _ _ ?_;simp only[go_sem,Tryz.ntmps242,Tryz.f242]);refine take_den _ hr hi hT ?_;cases hx:isT [124] (T.drop i) with
 | false =>
  simp only[restR,hx,gD7,if_false,Rd.ok_to] at hk;simp only[go_sem];exact DK.mk (hk i (Nat.le_refl _) hi rfl hn) (St.ge_same hr) A.le.nil
 | true =>
  have hlt:=isT_lt hx;simp only[restR,hx,if_true,List.tail_drop] at hk;simp only[go_sem];have hr1:(s.setO r (psO T fin d first (i+1) n)).getO r=some (psO T fin d first (i+1) n):=by rw[gA1,if_pos rfl]
  refine peek_den hr1 hlt ?_;cases hw:T.drop (i+1) with
  | nil=>rw[hw] at hk;exact PB.at hk (by (repeat (first|exact gA8 _ _|refine St.gx_r ?_))) hr1
  | cons t w =>
   rw[hw] at hk;obtain ⟨h1,h2,h3,h4⟩:=drop_get hw;simp only at hk;simp only[go_sem];(intro b hb;try simp only[gD6,ne_eq] at hb);have hr2:((s.setO r (psO T fin d first (i+1) n)).setO b (.cells 60 t.cs)).getO r=some (psO T fin d first (i+1) n):=by rw[gA1,if_neg (Ne.symm hb.1.1),hr1]
   simp only[go_sem,hb];refine name_den hr2 (Nat.le_of_lt h2) hT ?_;rw[hw];simp only[nameR];cases hf:t.free with
   | false =>
    rw[hf] at hk;simp only[gD7,if_false,Rd.bad_to] at hk ⊢;exact PB.mk (by (repeat (first|exact gA8 _ _|refine St.gx_r ?_|refine gA7 (by first|simp only[hb]|assumption) ?_|refine St.gx_T (by first|simp only[hb]|assumption) ?_))) hk
   | true =>
    rw[hf] at hk;simp only[if_true,Rd.ok_to] at hk ⊢;intro hle hw2 _;simp only[go_sem];have ed:decide ((deep:Int)=60)=decide (deep=60):=by rw[decide_eq_decide];omega
    simp only[go_sem,ed];cases hd:decide (deep=60) with
    | true =>
     rw[hd] at hk;simp only[if_true,Rd.bad_to] at hk;simp only[go_sem,hb];exact PB.at (f:=⟨19,t.text,t.line,t.col⟩) hk (by (repeat (first|exact gA8 _ _|refine St.gx_r ?_|refine gA7 (by first|simp only[hb]|assumption) ?_|refine St.gx_T (by first|simp only[hb]|assumption) ?_))) (by rw[gA1,if_pos rfl]<;>rfl)
    | false =>
     rw[hd] at hk;simp only[gD7,if_false,Rd.bind_to] at hk;simp only[go_sem,hb];refine node_den (T:=T) (fin:=fin) (d:=d) (first:=first) (i:=i+1+1) (n:=n) (by rw[gA1,if_pos rfl]<;>rfl) hn ?_;rw[hw2];refine Rd.to_mono hk (fun _ w2 n2 h=>?_) (fun f h=>PB.mk (by (repeat (first|exact gA8 _ _|refine St.gx_r ?_|refine gA7 (by first|simp only[hb]|assumption) ?_|refine St.gx_T (by first|simp only[hb]|assumption) ?_))) h);intro e1 e2;subst e1;simp only[Rd.ok_to] at h;simp only[go_sem];refine DK.mk (h (i+1+1) (by omega) hle hw2 e2) (St.gx.ge (by (repeat (first|exact gA8 _ _|refine St.gx_r ?_|refine gA7 (by first|simp only[hb]|assumption) ?_|refine St.gx_T (by first|simp only[hb]|assumption) ?_))) (by rw[gA1,if_pos rfl]<;>rfl)) ?_;exact A.le.list ⟨by simp only[List.map,Tm.enc_eq,A.cells,lesC,Tm.cs];exact ⟨⟨A.le.refl _,rfl⟩,⟨A.le.refl _,rfl⟩,⟨A.le.refl _,rfl⟩,⟨A.le.refl _,rfl⟩,⟨A.le.nil,rfl⟩,⟨A.le.nil,rfl⟩,trivial⟩,trivial⟩
end
end Go.AV
end
section
namespace Go.AV
open Go Go.Proofs
def TermOk (T:List Tok) (fin:Fault) (r k:Nat):Prop:=∀ (s:St) (d:Dc) (first:Tok) (i n:Nat) (KV Kp:St→A→Prop),s.getO r=some (psO T fin d first i n)→i≤T.length→n≤2000 →
 (termR false fin first k (T.drop i) n).to (PK T (i+1) (fun j m=>s.setO r (psO T fin d first j m)) Tm.enc KV) (PB s r Kp)→Den cx 92 [.ptr r 0,.int .i64 ((61-k:Nat):Int)] KV Kp s
theorem Tm.hz (a:Tm):a.enc.cells.length=6:=by rw[Tm.enc_eq];rfl
theorem Tm.ho (a:Tm):allOne a.enc.cells=true:=by rw[Tm.enc_eq];rfl
theorem Tm.le_leaf (k n:Int) (x y:Str):A.le (.agg [.int .i64 k,.int .i64 n,.str x,.str y,.nils,.nils]) (Tm.enc (.mk k n x y [] [])):=by
 rw[Tm.enc_eq];exact A.le.agg ⟨⟨A.le.refl _,rfl⟩,⟨A.le.refl _,rfl⟩,⟨A.le.refl _,rfl⟩,⟨A.le.refl _,rfl⟩,⟨A.le.nil,rfl⟩,⟨A.le.nil,rfl⟩,trivial⟩
section
variable {T:List Tok} {fin:Fault} {d:Dc} {first:Tok} {i n:Nat} {s:St} {r:Nat} {KV Kp:St→A→Prop}
theorem signed1_den (k:Nat) (hk60:k≤60) (IH:TermOk T fin r k) (b3 b5:Nat) (h3:s.getO b3=some (.cells 74 [.ptr r 0])) (h5:s.getO b5=some (.cells 3 [.int .i64 ((60-k:Nat):Int)]))
  (hr:s.getO r=some (psO T fin d first i n)) (hi:i≤T.length) (hn:n≤2000)
  (hk:(termR false fin first k (T.drop i) n).to (PK T (i+1) (fun j m=>s.setO r (psO T fin d first j m)) Tm.enc KV) (PB s r Kp)):Den cx 241 [.ptr b3 0,.ptr b5 0] KV Kp s:=by
 refine Den.drop ?_;(refine Den.of_body (C:=cx) Tryz.func241 rfl rfl (gC6 rfl) ?_;refine wpC_ok (V:=[0,1,2]) _ _ _ _ ?_;simp only[go_sem,Tryz.ntmps241,Tryz.f241]);(intro b hb;try simp only[gD6,ne_eq] at hb);have e3:=St.ne_of h3 hb;have e5:=St.ne_of h5 hb;have er:=St.ne_of hr hb;have ed:IntKind.i64.wrap (((60-k:Nat):Int)+1)=((61-k:Nat):Int):=by rw[wrap1 _ (by omega)];congr 1;omega
 simp only[go_sem,hb,e3,e5,h3,h5,ed];refine IH _ d first i n _ _ (by rw[gA1,if_neg er.2];exact hr) hi hn (Rd.to_mono hk (fun a w m h j hj hjT hw hm=>?_) (fun f h=>PB.mk (by (repeat (first|exact gA8 _ _|refine St.gx_r ?_|refine gA7 (by first|simp only[hb]|assumption) ?_|refine St.gx_T (by first|simp only[hb]|assumption) ?_))) h))
 have h':=h j hj hjT hw hm;simp only at h';rw[Tm.enc_eq] at h';simp only[go_sem,hb,er];exact DK.st h' (St.gx.ge (by (repeat (first|exact gA8 _ _|refine St.gx_r ?_|refine gA7 (by first|simp only[hb]|assumption) ?_|refine St.gx_T (by first|simp only[hb]|assumption) ?_))) (by rw[gA1,if_neg er.2,gA1,if_pos rfl]<;>rfl))
end
end Go.AV
end
section
namespace Go.AV
open Go Go.Proofs
section
variable {T:List Tok} {fin:Fault} {d:Dc} {first:Tok} {i n:Nat} {s:St} {r:Nat} {KV Kp:St→A→Prop}
structure EntQ (b2 b3 q r k:Nat) (s:St) (acc:List Tm) (tk:Option Nat) (i:Nat):Prop where
 len:acc.length≤i
 h2:s.getO b2=some (.cells 74 [.ptr r 0])
 h3:s.getO b3=some (.cells 3 [.int .i64 ((60-k:Nat):Int)])
 hq:s.getO q=none
 ne:q≠r∧q≠b2∧q≠b3∧r≠b2∧r≠b3
 nil:tk=none→acc=[]
 free:∀ t,tk=some t→s.getT t=none
def entS (T:List Tok) (fin:Fault) (d:Dc) (first:Tok) (kind:Int) (x:Str) (q r:Nat) (s:St) (acc:List Tm) (tk:Option Nat) (i n:Nat):St :=
 gs ((s.setO q (.cells 43 [.int .i64 kind,.int .i64 0,.str x,.str [],gv tk (acc.map Tm.enc),.nils])).setO r (psO T fin d first i n)) tk acc.length 43
theorem ent1_den (k b2 b3 q:Nat) (hk60:k≤60) (IH:TermOk T fin r k) (hT:TOk T) (acc:List Tm) (tk:Option Nat) (hQ:EntQ b2 b3 q r k s acc tk i) (hi:i≤T.length) (hn:n≤2000)
  (hk : (entR fin (termR false fin first k) acc (T.drop i) n).to (fun a w n' => ∀ j y,i ≤ j → j ≤ T.length → T.drop j = w → n' ≤ 2000 → EntQ b2 b3 q r k s a y j → KV (entS T fin d first 8 [] q r s a y j n') (.bool true))
   (fun f=>∀ s1 o,s1.gx s r→s1.getO r=some o→Kp s1 (.iface 36 f.enc))):Den cx 286 [.ptr q 0,.ptr b2 0,.ptr b3 0] KV Kp (entS T fin d first 8 [] q r s acc tk i n):=by
 obtain ⟨hac,h2,h3,hq,⟨n1,n2,n3,n4,n5⟩,hnil,hfree⟩:=hQ;have hlen:=hT.len;have ed:IntKind.i64.wrap (((60-k:Nat):Int)+1)=((61-k:Nat):Int):=by rw[wrap1 _ (by omega)];congr 1;omega
 have hg:gok (entS T fin d first 8 [] q r s acc tk i n) tk (acc.map Tm.enc).length 43:=by rw[gC4];exact gs_ok fun e=>by rw[hnil e];rfl
 refine Den.keepL ?_;refine Den.drop ?_;(refine Den.of_body (C:=cx) Tryz.func286 rfl rfl (gC6 rfl) ?_;refine wpC_ok (V:=[0,1,2,3]) _ _ _ _ ?_;simp only[go_sem,Tryz.ntmps286,Tryz.f286]);unfold entS;simp only[entR,Rd.bind_to] at hk;cases tk with
 | none =>
  obtain rfl:=hnil rfl;simp only[gv_none];(refine draw_ok (V:=[0,1,2,3]) (OT.l [0,1,2,3,4,6,7,5,8,9,11] (.pair 10 12)) [(5,[1])] mixed_cx (by decide +kernel) ?_;simp only[go_sem,n1,n2,n3,n4,n5,n1.symm,n2.symm,n3.symm,n4.symm,n5.symm,h2,h3,ed]);refine IH _ d first i n _ _ (by rw[gA6,gA1,if_pos rfl]<;>rfl) hi hn (Rd.to_mono hk (fun kk w m hk2 j hj hjT hw hm=>?_) (fun f h o=>?_))
  rotate_left
  ·simp only[go_sem];exact DK.here (h _ _ (St.gx_setL (St.gx_gs (St.gx_r (gA7 hq (gA8 s r))) hfree) rfl) (by rw[gA2,gA6,gA1,if_pos rfl]<;>rfl))
  simp only[go_sem,n1,n2,n3,n4,n5,n1.symm,n2.symm,n3.symm,n4.symm,n5.symm,h2,h3,ed,Tm.hz];refine ⟨by decide,?_⟩;intro t ht;refine ⟨rfl,?_⟩;have hft:s.getT t=none:=ht;subst hw;refine Den.weaken pen_ge_none ?_;refine want_den (T:=T) (fin:=fin) (d:=d) (first:=first) (i:=j) (n:=m) _ (by simp only[gA2,gA6,gA1,ne_eq,reduceIte,n1,gA9]<;>(first|done|rfl)) hjT hT (Rd.to_mono hk2 (fun _ w2 m2 hk3 hlt hw2 hm2=>?_) (fun f h o=>?_));rotate_left
  ·simp only[go_sem];exact DK.here (h _ o (by repeat (first|exact gA8 _ _|refine St.gx_setL2 ?_ rfl|refine St.gx_setL ?_ rfl|refine St.gx_gs ?_ (fun _ e=>by cases e;assumption)|refine St.gx_r ?_|refine gA7 hq ?_)) (by simp only[gA2,gA6,gA1,ne_eq,reduceIte,n1,gA9]<;>(first|done|rfl)))
  subst hw2 hm2;simp only[go_sem,n1,n2,n3,n4,n5,n1.symm,n2.symm,n3.symm,n4.symm,n5.symm,h2,h3,ed];(refine draw_ok (V:=[0,1,2,3]) (OT.l [0,1,2,3,4,6,7,5,8,9,11] (.pair 10 12)) [(5,[1])] mixed_cx (by decide +kernel) ?_;simp only[go_sem,n1,n2,n3,n4,n5,n1.symm,n2.symm,n3.symm,n4.symm,n5.symm,h2,h3,ed]);refine IH _ d first (j+1) _ _ _ (by simp only[gA2,gA6,gA1,ne_eq,reduceIte,n1,gA9]<;>(first|done|rfl)) hlt hm (Rd.to_mono hk3 (fun vv w3 m3 hk4 j3 hj3 hjT3 hw3 hm3=>?_) (fun f h o=>?_))
  rotate_left
  ·simp only[go_sem];exact DK.here (h _ o (by repeat (first|exact gA8 _ _|refine St.gx_setL2 ?_ rfl|refine St.gx_setL ?_ rfl|refine St.gx_gs ?_ (fun _ e=>by cases e;assumption)|refine St.gx_r ?_|refine gA7 hq ?_)) (by simp only[gA2,gA6,gA1,ne_eq,reduceIte,n1,gA9]<;>(first|done|rfl)))
  simp only[go_sem,n1,n2,n3,n4,n5,n1.symm,n2.symm,n3.symm,n4.symm,n5.symm,h2,h3,ed,Tm.hz];refine ⟨by decide,⟨by rw[St.getT_setL,gs_getT,if_pos rfl],fun y hy=>?_⟩,fun t2 ht2=>?_⟩
  ·simp only[List.mem_singleton] at hy;subst hy;rfl
  have hft2:s.getT t2=none:=del_freeL ht2 hft (fun _=>rfl);have hk5:=hk4 j3 (some t2) (by omega) hjT3 hw3 hm3 ⟨by simp only[gC2,gC1,gC3] at hac ⊢;omega,h2,h3,hq,⟨n1,n2,n3,n4,n5⟩,fun e=>(by cases e),fun t' e=>by cases e;exact hft2⟩;simp only[entS,gv_some] at hk5;rw[show (([]:List Tm)++[kk,vv]).length=2 by simp] at hk5;refine DK.st (s2:=(gs ((s.setO q (.cells 43 [.int .i64 8,.int .i64 0,.str [],.str [],.list (some t2) ((([]:List Tm)++[kk,vv]).map Tm.enc),.nils])).setO r (psO T fin d first j3 m3)) (some t2) (2) 43).setL none) hk5 ?_;refine pen_ge_fin hft (fun b o hb=>?_) (fun _=>rfl) (by simp);simp only[gA1] at hb ⊢;by_cases hb1:q=b
  ·subst hb1;simp only[n1,n1.symm,if_true,if_false] at hb ⊢;simpa [Tm.enc_eq,Tm.cs] using hb
  ·by_cases hb2:r=b
   ·simp only[hb1,hb2,if_true,if_false] at hb ⊢;exact hb
   ·simp only[hb1,hb2,if_false] at hb ⊢;exact hb
 | some u =>
  simp only[gv_some];(refine draw_ok (V:=[0,1,2,3]) (OT.l [0,1,2,3,4,6,7,5,8,9,11] (.pair 10 12)) [(5,[1])] mixed_cx (by decide +kernel) ?_;simp only[go_sem,n1,n2,n3,n4,n5,n1.symm,n2.symm,n3.symm,n4.symm,n5.symm,h2,h3,ed]);refine IH _ d first i n _ _ (by rw[gA6,gA1,if_pos rfl]<;>rfl) hi hn (Rd.to_mono hk (fun kk w m hk2 j hj hjT hw hm=>?_) (fun f h o=>?_))
  rotate_left
  ·simp only[go_sem];exact DK.here (h _ _ (St.gx_setL (St.gx_gs (St.gx_r (gA7 hq (gA8 s r))) hfree) rfl) (by rw[gA2,gA6,gA1,if_pos rfl]<;>rfl))
  simp only[go_sem,n1,n2,n3,n4,n5,n1.symm,n2.symm,n3.symm,n4.symm,n5.symm,h2,h3,ed,Tm.hz];refine ⟨by decide,?_⟩;refine ⟨⟨by rw[gs_getT,if_pos rfl],fun y hy=>?_,by omega⟩,fun t ht=>?_⟩
  ·simp only[List.mem_map] at hy;obtain ⟨z,_,rfl⟩:=hy;exact Tm.hz z
  have hft:s.getT t=none:=del_free ht (hfree u rfl) (fun _=>rfl);subst hw;refine Den.weaken (pen_ge_some (hfree u rfl)) ?_;refine want_den (T:=T) (fin:=fin) (d:=d) (first:=first) (i:=j) (n:=m) _ (by simp only[gA2,gA6,gA1,ne_eq,reduceIte,n1,gA9]<;>(first|done|rfl)) hjT hT (Rd.to_mono hk2 (fun _ w2 m2 hk3 hlt hw2 hm2=>?_) (fun f h o=>?_));rotate_left
  ·simp only[go_sem];exact DK.here (h _ o (by repeat (first|exact gA8 _ _|refine St.gx_setL2 ?_ rfl|refine St.gx_setL ?_ rfl|refine St.gx_gs ?_ (fun _ e=>by cases e;assumption)|refine St.gx_r ?_|refine gA7 hq ?_)) (by simp only[gA2,gA6,gA1,ne_eq,reduceIte,n1,gA9]<;>(first|done|rfl)))
  subst hw2 hm2;simp only[go_sem,n1,n2,n3,n4,n5,n1.symm,n2.symm,n3.symm,n4.symm,n5.symm,h2,h3,ed];(refine draw_ok (V:=[0,1,2,3]) (OT.l [0,1,2,3,4,6,7,5,8,9,11] (.pair 10 12)) [(5,[1])] mixed_cx (by decide +kernel) ?_;simp only[go_sem,n1,n2,n3,n4,n5,n1.symm,n2.symm,n3.symm,n4.symm,n5.symm,h2,h3,ed]);refine IH _ d first (j+1) _ _ _ (by simp only[gA2,gA6,gA1,ne_eq,reduceIte,n1,gA9]<;>(first|done|rfl)) hlt hm (Rd.to_mono hk3 (fun vv w3 m3 hk4 j3 hj3 hjT3 hw3 hm3=>?_) (fun f h o=>?_))
  rotate_left
  ·simp only[go_sem];exact DK.here (h _ o (by repeat (first|exact gA8 _ _|refine St.gx_setL2 ?_ rfl|refine St.gx_setL ?_ rfl|refine St.gx_gs ?_ (fun _ e=>by cases e;assumption)|refine St.gx_r ?_|refine gA7 hq ?_)) (by simp only[gA2,gA6,gA1,ne_eq,reduceIte,n1,gA9]<;>(first|done|rfl)))
  simp only[go_sem,n1,n2,n3,n4,n5,n1.symm,n2.symm,n3.symm,n4.symm,n5.symm,h2,h3,ed,Tm.hz];refine ⟨by decide,⟨by rw[St.getT_setL,gs_getT,if_pos rfl];simp,fun y hy=>?_,by simp;omega⟩,fun t2 ht2=>?_⟩
  ·rcases List.mem_append.1 hy with hy|hy
   ·simp only[List.mem_map] at hy;obtain ⟨z,_,rfl⟩:=hy;exact Tm.hz z
   ·simp only[List.mem_singleton] at hy;subst hy;rfl
  have hft2:s.getT t2=none:=del_freeL ht2 hft (fun _=>rfl);have hk5:=hk4 j3 (some t2) (by omega) hjT3 hw3 hm3 ⟨by simp only[gC2,gC1,gC3] at hac ⊢;omega,h2,h3,hq,⟨n1,n2,n3,n4,n5⟩,fun e=>(by cases e),fun t' e=>by cases e;exact hft2⟩;simp only[entS,gv_some] at hk5;rw[show (acc++[kk,vv]).length=acc.length+2 by simp] at hk5;refine DK.st (s2:=(gs ((s.setO q (.cells 43 [.int .i64 8,.int .i64 0,.str [],.str [],.list (some t2) ((acc++[kk,vv]).map Tm.enc),.nils])).setO r (psO T fin d first j3 m3)) (some t2) (acc.length+2) 43).setL none) hk5 ?_;refine pen_ge_fin hft (fun b o hb=>?_) (fun _=>rfl) (by simp);simp only[gA1] at hb ⊢;by_cases hb1:q=b
  ·subst hb1;simp only[n1,n1.symm,if_true,if_false] at hb ⊢;simpa [Tm.enc_eq,Tm.cs] using hb
  ·by_cases hb2:r=b
   ·simp only[hb1,hb2,if_true,if_false] at hb ⊢;exact hb
   ·simp only[hb1,hb2,if_false] at hb ⊢;exact hb
end
end Go.AV
end
