/-
  Part of the proof of DefBlanks.
-/
import Derived.Test.YtamikhobdffnfaaGreatDoorBl27
import Derived.Test.YtamikhobdffnfaaGreatDoorBl21
import Derived.Test.YtamikhobdffnfaaGreatDoorBl16
import Derived.Test.YtamikhobdffnfaaGreatDoorBl15
import Derived.Test.YtamikhobdffnfaaGreatDoorBl17
import Derived.Test.YtamikhobdffnfaaGreatDoorBl26
set_option linter.all false
set_option maxRecDepth 1000000
set_option maxHeartbeats 40000000
section
namespace Go.AV
open Go Go.Proofs
def finS (x:Str):Fault:=⟨12,[],1+(x.count 10:Nat),x.length-lastTo x 10 x.length⟩
def parseL (x:Str):Dfn × Fault:=match lexS signsW true x with
 | .bad f=>(noDfn,f)
 | .ok T=>match defR false (finS x) T with
  | .ok d _ _=>(d,Fault.none)
  | .bad f=>(noDfn,f)
def parseS (x:Str):Dfn × Fault:=if 20000<x.length then (noDfn,⟨3,[],0,0⟩) else parseL x
def termS (x:Str):Tm × Fault:=if 20000<x.length then (noTm,⟨3,[],0,0⟩) else match lexS signsW true x with
 | .bad f=>(noTm,f)
 | .ok T=>match wholeR false (finS x) T 0 with
  | .ok t [] _=>(t,Fault.none)
  | .ok _ (t::w) _=>(noTm,failAt (finS x) 11 (t::w))
  | .bad f=>(noTm,f)
theorem TOk_of {x:Str} {l:List Tok} (hx:x.length≤4294967280) (h:lexS signsW true x=.ok l):TOk l:=by
 obtain ⟨h1,h2⟩:=lexS_w h;refine ⟨by omega,fun t ht=>(h2 t ht).num,fun t ht=>?_,fun t ht=>?_⟩
 ·have:=(h2 t ht).col;omega
 ·have:=(h2 t ht).txt;omega
theorem lastTo_le (x:Str) (c:UInt8):∀ n,lastTo x c n<n∧-1≤lastTo x c n
 | 0=>by simp[lastTo]
 | n+1=>by
  have:=lastTo_le x c n;simp only[lastTo];split<;>omega
section
variable {s:St} {KV Kp:St→A→Prop}
theorem long83_den (x:Str) (hx:x.length≤4294967280) (hk:match lexS signsW true x with
  | .ok l=>∀ r,s.getO r=none→KV (s.setO r (psO l (finS x) (dcN noDfn noOwn) noTok 0 0)) (.tuple [.ptr r 0,Fault.none.enc])
  | .bad f=>KV s (.tuple [.nilp,f.enc])):Den cx 83 [.str x] KV Kp s:=by
 have hcnt:x.count 10≤x.length:=List.count_le_length;have hlast:=lastTo_le x 10 x.length;refine Den.drop ?_;(refine Den.of_body (C:=cx) Tryz.func83 rfl rfl (gC6 rfl) ?_;refine wpC_ok (V:=[0,2,3,4,5,6,14]) _ _ _ _ ?_;simp only[go_sem,Tryz.ntmps83,Tryz.f83]);(intro b3 hb3;try simp only[gA5,gA6,gD6,ne_eq] at hb3);simp only[go_sem,hb3];refine long_den _ x _ _ (by omega) ?_;cases hl:lexS signsW true x with
 | bad f =>
  rw[hl] at hk;have hc:=lexS_bad hl;have hc0:decide (f.code=0)=false:=by rw[hc];rfl
  simp only[Lx.out];simp only[go_sem,hb3];(intro b5 hb5;try simp only[gA5,gA6,gD6,ne_eq] at hb5);simp only[go_sem,hb3,hb5,hc0];(refine draw_ok (V:=[0,2,3,4,5,6,14]) (OT.l [0,1,2] .nil) [] mixed_cx (by decide +kernel) ?_;simp only[go_sem,hb3,hb5]);simp only[go_sem] at hk;exact DK.st hk (by (refine gel_ge ?_;repeat (first|exact gel_refl _ _ _|refine gel_gs_gs ?_|refine gel_to_gs gs_self ?_|refine gB1 ?_|refine gB2 ?_|refine gel_set (by simp only[gA1,gA2,gA3,gA6,ne_eq,gA9,reduceIte,hb3,hb5]<;>(first|done|rfl|assumption)) ?_|refine gB3 ?_|refine gel_new (by first|simp only[hb3,hb5]|assumption) ?_)))
 | ok l =>
  rw[hl] at hk;simp only[Lx.out];have h00:Fault.none.code=0:=rfl;simp only[go_sem,hb3,Fault.none];(intro b5 hb5;try simp only[gA5,gA6,gD6,ne_eq] at hb5);simp only[go_sem,hb3,hb5];refine count142_den _ _ _ _ _ ?_;simp only[go_sem,hb3,hb5,wrap_in (1+((x.count 10:Nat):Int)) (by omega) (by omega)];refine lastIdx143_den _ x 10 _ _ (by omega) ?_;simp only[go_sem,hb3,hb5,wrap_in ((x.length:Int)-lastTo x 10 x.length) (by omega) (by omega)];(intro b6 hb6;try simp only[gA5,gA6,gD6,ne_eq] at hb6);simp only[go_sem,hb3,hb5,hb6];(refine draw_ok (V:=[0,2,3,4,5,6,14]) (OT.l [0,1,2,4,3,5,6] .nil) [(3,[4])] mixed_cx (by decide +kernel) ?_;simp only[go_sem,hb3,hb5,hb6]);(intro b7 hb7;try simp only[gA5,gA6,gD6,ne_eq] at hb7);simp only[go_sem,hb3,hb5,hb6,hb7];have hk2:=hk b7 (by first|exact hb7.2.2.2|exact hb7.2.2);simp only[Fault.enc,Fault.cs,Fault.none] at hk2;exact DK.st hk2 (by (refine gel_ge ?_;repeat (first|exact gel_refl _ _ _|refine gel_gs_gs ?_|refine gel_to_gs gs_self ?_|refine gB1 ?_|refine gB2 ?_|refine gel_set (by simp only[gA1,gA2,gA3,gA6,ne_eq,gA9,reduceIte,hb3,hb5,hb6,hb7]<;>(first|done|rfl|assumption)) ?_|refine gB3 ?_|refine gel_new (by first|simp only[hb3,hb5,hb6,hb7]|assumption) ?_)))
theorem begin_den (x:Str) (hx:x.length≤4294967280) (hk:if 20000<x.length then KV s (.tuple [.nilp,Fault.enc ⟨3,[],0,0⟩]) else match lexS signsW true x with
  | .ok l=>∀ r,s.getO r=none→KV (s.setO r (psO l (finS x) (dcN noDfn noOwn) noTok 0 0)) (.tuple [.ptr r 0,Fault.none.enc])
  | .bad f=>KV s (.tuple [.nilp,f.enc])):Den cx 37 [.str x] KV Kp s:=by
 refine Den.drop ?_;(refine Den.of_body (C:=cx) Tryz.func37 rfl rfl (gC6 rfl) ?_;refine wpC_ok (V:=[0,2,3,6]) _ _ _ _ ?_;simp only[go_sem,Tryz.ntmps37,Tryz.f37]);(intro b3 hb3;try simp only[gA5,gA6,gD6,ne_eq] at hb3);simp only[go_sem,hb3];cases c:decide ((20000:Int)<(x.length:Int)) with
 | true =>
  rw[if_pos (by simp at c;omega)] at hk;simp only[go_sem,hb3,c];simp only[go_sem] at hk;exact DK.st hk (by (refine gel_ge ?_;repeat (first|exact gel_refl _ _ _|refine gel_gs_gs ?_|refine gel_to_gs gs_self ?_|refine gB1 ?_|refine gB2 ?_|refine gel_set (by simp only[gA1,gA2,gA3,gA6,ne_eq,gA9,reduceIte,hb3]<;>(first|done|rfl|assumption)) ?_|refine gB3 ?_|refine gel_new (by first|simp only[hb3]|assumption) ?_)))
 | false =>
  rw[if_neg (by simp at c;omega)] at hk;simp only[go_sem,hb3,c];refine long83_den x hx ?_;cases hl:lexS signsW true x with
  | bad f =>
   rw[hl] at hk;simp only at hk ⊢;simp only[go_sem,hb3];simp only[go_sem] at hk;exact DK.st hk (by (refine gel_ge ?_;repeat (first|exact gel_refl _ _ _|refine gel_gs_gs ?_|refine gel_to_gs gs_self ?_|refine gB1 ?_|refine gB2 ?_|refine gel_set (by simp only[gA1,gA2,gA3,gA6,ne_eq,gA9,reduceIte,hb3]<;>(first|done|rfl|assumption)) ?_|refine gB3 ?_|refine gel_new (by first|simp only[hb3]|assumption) ?_)))
  | ok l =>
   rw[hl] at hk;simp only at hk ⊢;intro r hr;have hk2:=hk r (by have:=hr;rw[gA1] at this;split at this;cases this;exact this);have e3:b3≠r:=fun e=>by subst e;rw[gA1,if_pos rfl] at hr;cases hr
   simp only[Fault.enc,Fault.cs,Fault.none] at hk2 ⊢;simp only[go_sem,hb3,e3,e3.symm];exact DK.st hk2 (by (refine gel_ge ?_;repeat (first|exact gel_refl _ _ _|refine gel_gs_gs ?_|refine gel_to_gs gs_self ?_|refine gB1 ?_|refine gB2 ?_|refine gel_set (by simp only[gA1,gA2,gA3,gA6,ne_eq,gA9,reduceIte,hb3,e3,e3.symm]<;>(first|done|rfl|assumption)) ?_|refine gB3 ?_|refine gel_new (by first|simp only[hb3]|assumption) ?_)))
theorem parse_den (x:Str) (hx:x.length≤4294967280) (hk:KV s (.tuple [(parseS x).1.enc,(parseS x).2.enc])):Den cx 15 [.str x] KV Kp s:=by
 have zd:A.le (.agg [.str [],.nils,.nils,.nils,.nils,.nils,.nils,.nils,.str [],.nils,.nils,.str [],.str []]) noDfn.enc:=dcN_le noDfn noOwn (s:=s) noDfn_own;refine Den.drop ?_;(refine Den.of_body (C:=cx) Tryz.func15 rfl rfl (gC6 rfl) ?_;refine wpC_ok (V:=[0,2,3,4,5,13]) _ _ _ _ ?_;simp only[go_sem,Tryz.ntmps15,Tryz.f15]);(intro b2 hb2;try simp only[gA5,gA6,gD6,ne_eq] at hb2);simp only[go_sem,hb2];(intro b3 hb3;try simp only[gA5,gA6,gD6,ne_eq] at hb3);simp only[go_sem,hb2,hb3];refine begin_den x hx ?_;unfold parseS at hk;split
 ·rename_i c;rw[if_pos c] at hk;simp only[go_sem,hb2,hb3];(intro b5 hb5;try simp only[gA5,gA6,gD6,ne_eq] at hb5);simp only[go_sem,hb2,hb3,hb5];(refine draw_ok (V:=[0,2,3,4,5,13]) (OT.l [0,1,2,3] .nil) [(2,[1])] mixed_cx (by decide +kernel) ?_;simp only[go_sem,hb2,hb3,hb5]);exact DK.mk hk (by (refine gel_ge ?_;repeat (first|exact gel_refl _ _ _|refine gel_gs_gs ?_|refine gel_to_gs gs_self ?_|refine gB1 ?_|refine gB2 ?_|refine gel_set (by simp only[gA1,gA2,gA3,gA6,ne_eq,gA9,reduceIte,hb2,hb3,hb5]<;>(first|done|rfl|assumption)) ?_|refine gB3 ?_|refine gel_new (by first|simp only[hb2,hb3,hb5]|assumption) ?_))) (A.le.tuple ⟨zd,A.le.refl _,trivial⟩)
 ·rename_i c;rw[if_neg c] at hk;unfold parseL at hk;cases hl:lexS signsW true x with
  | bad f =>
   rw[hl] at hk;have hc0:decide (f.code=0)=false:=by rw[lexS_bad hl];rfl
   simp only at hk ⊢;simp only[go_sem,hb2,hb3];(intro b5 hb5;try simp only[gA5,gA6,gD6,ne_eq] at hb5);simp only[go_sem,hb2,hb3,hb5,hc0];(refine draw_ok (V:=[0,2,3,4,5,13]) (OT.l [0,1,2,3] .nil) [(2,[1])] mixed_cx (by decide +kernel) ?_;simp only[go_sem,hb2,hb3,hb5]);simp only[go_sem] at hk;exact DK.mk hk (by (refine gel_ge ?_;repeat (first|exact gel_refl _ _ _|refine gel_gs_gs ?_|refine gel_to_gs gs_self ?_|refine gB1 ?_|refine gB2 ?_|refine gel_set (by simp only[gA1,gA2,gA3,gA6,ne_eq,gA9,reduceIte,hb2,hb3,hb5]<;>(first|done|rfl|assumption)) ?_|refine gB3 ?_|refine gel_new (by first|simp only[hb2,hb3,hb5]|assumption) ?_))) (A.le.tuple ⟨zd,A.le.refl _,trivial⟩)
  | ok T =>
   rw[hl] at hk;simp only at hk ⊢;intro r hr;simp only[gD6,ne_eq] at hr;simp only[go_sem,hb2,hb3,hr,Fault.none];(intro b5 hb5;try simp only[gA5,gA6,gD6,ne_eq] at hb5);simp only[go_sem,hb2,hb3,hr,hb5];refine def_den (T:=T) (fin:=finS x) (TOk_of hx hl) (by simp only[gA1,gA2,gA3,gA6,ne_eq,gA9,reduceIte,hb2,hb3,hr,hb5]<;>(first|done|rfl|assumption)) ?_;unfold DfnK;cases hd:defR false (finS x) T with
   | bad f =>
    rw[hd] at hk;simp only at hk ⊢;intro o;simp only[go_sem,hb2,hb3,hr,hb5];simp only[go_sem] at hk;exact DK.st hk (by (refine gel_ge ?_;repeat (first|exact gel_refl _ _ _|refine gel_gs_gs ?_|refine gel_to_gs gs_self ?_|refine gB1 ?_|refine gB2 ?_|refine gel_set (by simp only[gA1,gA2,gA3,gA6,ne_eq,gA9,reduceIte,hb2,hb3,hr,hb5]<;>(first|done|rfl|assumption)) ?_|refine gB3 ?_|refine gel_new (by first|simp only[hb2,hb3,hr,hb5]|assumption) ?_)))
   | ok d w n =>
    rw[hd] at hk;simp only at hk ⊢;intro o;simp only[go_sem,hb2,hb3,hr,hb5];simp only[go_sem] at hk;exact DK.st hk (by (refine gel_ge ?_;repeat (first|exact gel_refl _ _ _|refine gel_gs_gs ?_|refine gel_to_gs gs_self ?_|refine gB1 ?_|refine gB2 ?_|refine gel_set (by simp only[gA1,gA2,gA3,gA6,ne_eq,gA9,reduceIte,hb2,hb3,hr,hb5]<;>(first|done|rfl|assumption)) ?_|refine gB3 ?_|refine gel_new (by first|simp only[hb2,hb3,hr,hb5]|assumption) ?_)))
theorem tterm_den (x:Str) (hx:x.length≤4294967280) (hk:KV s (.tuple [(termS x).1.enc,(termS x).2.enc])):Den cx 18 [.str x] KV Kp s:=by
 have zt:A.le (.agg [.int .i64 0,.int .i64 0,.str [],.str [],.nils,.nils]) noTm.enc:=Tm.le_leaf 0 0 [] [];refine Den.drop ?_;refine Den.of_defer catchC_ok ent40C Tryz.func18 rfl rfl (gC6 rfl) ?_;refine ExD.seq ?_;refine wpC_ok (V:=[0,2,3,4,5,13,27]) _ _ _ _ ?_;simp only[go_sem,Tryz.ntmps18,Tryz.f18];(intro b2 hb2;try simp only[gA5,gA6,gD6,ne_eq] at hb2);simp only[go_sem,Tryz.ntmps18,Tryz.f18,hb2];(intro b3 hb3;try simp only[gA5,gA6,gD6,ne_eq] at hb3);simp only[go_sem,Tryz.ntmps18,Tryz.f18,hb2,hb3];refine ExD.seq ?_;refine wpC_ok (V:=[0,2,3,4,5,13,27]) _ _ _ _ ?_;simp only[go_sem,Tryz.ntmps18,Tryz.f18,hb2,hb3];refine begin_den x hx ?_;unfold termS at hk;split
 ·rename_i c;rw[if_pos c] at hk;simp only[go_sem,Tryz.ntmps18,Tryz.f18,hb2,hb3];refine ExD.seq ?_;refine wpC_ok (V:=[0,2,3,4,5,13,27]) _ _ _ _ ?_;simp only[go_sem,Tryz.ntmps18,Tryz.f18,hb2,hb3];(refine draw_ok (V:=[0,2,3,4,5,13,27]) (OT.l [0,1,2,3] .nil) [(2,[1])] mixed_cx (by decide +kernel) ?_;simp only[go_sem,Tryz.ntmps18,Tryz.f18,hb2,hb3]);exact DK.mk hk (by (refine gel_ge ?_;repeat (first|exact gel_refl _ _ _|refine gel_gs_gs ?_|refine gel_to_gs gs_self ?_|refine gB1 ?_|refine gB2 ?_|refine gel_set (by simp only[gA1,gA2,gA3,gA6,ne_eq,gA9,reduceIte,Tryz.ntmps18,Tryz.f18,hb2,hb3]<;>(first|done|rfl|assumption)) ?_|refine gB3 ?_|refine gel_new (by first|simp only[hb2,hb3]|assumption) ?_))) (A.le.tuple ⟨zt,A.le.refl _,trivial⟩)
 ·rename_i c;rw[if_neg c] at hk;cases hl:lexS signsW true x with
  | bad f =>
   rw[hl] at hk;have hc0:decide (f.code=0)=false:=by rw[lexS_bad hl];rfl
   simp only at hk ⊢;simp only[go_sem,Tryz.ntmps18,Tryz.f18,hb2,hb3];refine ExD.seq ?_;refine wpC_ok (V:=[0,2,3,4,5,13,27]) _ _ _ _ ?_;simp only[go_sem,Tryz.ntmps18,Tryz.f18,hb2,hb3,hc0];(refine draw_ok (V:=[0,2,3,4,5,13,27]) (OT.l [0,1,2,3] .nil) [(2,[1])] mixed_cx (by decide +kernel) ?_;simp only[go_sem,Tryz.ntmps18,Tryz.f18,hb2,hb3]);simp only[go_sem] at hk;exact DK.mk hk (by (refine gel_ge ?_;repeat (first|exact gel_refl _ _ _|refine gel_gs_gs ?_|refine gel_to_gs gs_self ?_|refine gB1 ?_|refine gB2 ?_|refine gel_set (by simp only[gA1,gA2,gA3,gA6,ne_eq,gA9,reduceIte,Tryz.ntmps18,Tryz.f18,hb2,hb3]<;>(first|done|rfl|assumption)) ?_|refine gB3 ?_|refine gel_new (by first|simp only[hb2,hb3]|assumption) ?_))) (A.le.tuple ⟨zt,A.le.refl _,trivial⟩)
  | ok T =>
   rw[hl] at hk;have hT:=TOk_of hx hl;have hlenT:=hT.len;simp only at hk ⊢;intro r hr;simp only[gD6,ne_eq] at hr;simp only[go_sem,hb2,hb3,Tryz.ntmps18,Tryz.f18,hr,Fault.none];refine ExD.seq ?_;refine wpC_ok (V:=[0,2,3,4,5,13,27]) _ _ _ _ ?_;simp only[go_sem,hb2,hb3,Tryz.ntmps18,Tryz.f18,hr];refine ExD.defer (by rfl) (b:=b3) (by simp only[go_sem,hb2,hb3,Tryz.ntmps18,Tryz.f18,hr]) ?_;refine wpC_ok (V:=[0,2,3,4,5,13,27]) _ _ _ _ ?_;simp only[go_sem,hb2,hb3,Tryz.ntmps18,Tryz.f18,hr];have n23:b2≠b3:=by first|exact hb3.1.1|exact hb3.1
   have hrb2:r≠b2:=fun e=>hr.2.1.2 e
   have hrb3:r≠b3:=fun e=>hr.1.2 e
   have hs:s.getO r=none:=hr.2.2
   have bad:∀ (f:Fault) (s1:St) (e:Env),e.get 2=some (.ptr b2 0)→e.get 3=some (.ptr b3 0)→KV s (.tuple [noTm.enc,f.enc]) →
     s1.getO b2=some (.cells 43 [.int .i64 0,.int .i64 0,.str [],.str [],.nils,.nils])→s1.getO b3=some (.cells 36 [.int .i64 0,.str [],.int .i64 0,.int .i64 0])→s1.ge s →
     retD cx [ResultVar.cell 2 43,ResultVar.cell 3 36] (DK KV) (DK Kp) (some b3) (.panic (.iface 36 f.enc)) e s1:=by
    intro f s1 e g2 g3 hb q2 q3 hg;simp only[go_sem,q2,q3,n23,n23.symm,g2,g3];refine ⟨f.cs,_,rfl,rfl,rfl,rfl,?_⟩;simp only[go_sem,q2,q3,n23,n23.symm,g2,g3];simp only[go_sem] at hb;exact DK.mk hb (gel_ge (gel_new (by first|exact hb3.2|exact hb3.2.2) (gel_of_ge hg _ _))) (A.le.tuple ⟨zt,A.le.refl _,trivial⟩)
   have hk2:(wholeR false (finS x) T 0).to (fun t w _=>match w with|[]=>KV s (.tuple [t.enc,Fault.none.enc])|t::w=>KV s (.tuple [noTm.enc,(failAt (finS x) 11 (t::w)).enc])) (fun f=>KV s (.tuple [noTm.enc,f.enc])):=by
    revert hk;cases wholeR false (finS x) T 0 with
    | bad f=>exact id
    | ok t w n=>cases w<;>exact id
   refine whole_den (d:=dcN noDfn noOwn) (T:=T) (fin:=finS x) (first:=noTok) (i:=0) (n:=0) hT (by simp only[gA1,gA2,gA3,gA6,ne_eq,gA9,reduceIte,hb2,hb3,Tryz.ntmps18,Tryz.f18,hr]<;>(first|done|rfl|assumption)) (Nat.zero_le _) (Nat.zero_le _) (Rd.to_mono (show (wholeR false (finS x) (T.drop 0) 0).to _ _ from hk2) (fun t w m hk3 j hj hjT hw hm=>?_) (fun f h o=>?_));rotate_left
   ·refine bad f _ _ rfl rfl h ?_ ?_ ?_
    ·exact (by simp only[gA1,gA2,gA3,gA6,ne_eq,gA9,reduceIte,hb2,hb3,Tryz.ntmps18,Tryz.f18,hr,hrb2,hrb3,hrb2.symm,hrb3.symm,n23,n23.symm]<;>(first|done|rfl|assumption))
    ·exact (by simp only[gA1,gA2,gA3,gA6,ne_eq,gA9,reduceIte,hb2,hb3,Tryz.ntmps18,Tryz.f18,hr,hrb2,hrb3,hrb2.symm,hrb3.symm,n23,n23.symm]<;>(first|done|rfl|assumption))
    ·exact (by (refine gel_ge ?_;repeat (first|exact gel_refl _ _ _|refine gel_gs_gs ?_|refine gel_to_gs gs_self ?_|refine gB1 ?_|refine gB2 ?_|refine gel_set (by simp only[gA1,gA2,gA3,gA6,ne_eq,gA9,reduceIte,hb2,hb3,Tryz.ntmps18,Tryz.f18,hr]<;>(first|done|rfl|assumption)) ?_|refine gB3 ?_|refine gel_new (by first|simp only[hb2,hb3,hr]|assumption) ?_)))
   simp only[go_sem,hb2,hb3,Tryz.ntmps18,Tryz.f18,hr,Tm.enc_eq];(intro b5 hb5;try simp only[gA5,gA6,gD6,ne_eq] at hb5);simp only[go_sem,hb2,hb3,Tryz.ntmps18,Tryz.f18,hr,hb5];(refine draw_ok (V:=[0,2,3,4,5,13,27]) (OT.l [0,1,2,3,4,5,6,7,8,9] .nil) [] mixed_cx (by decide +kernel) ?_;simp only[go_sem,hb2,hb3,Tryz.ntmps18,Tryz.f18,hr,hb5]);cases hc:decide (j<T.length) with
   | true =>
    have hlt:j<T.length:=by simpa using hc
    cases w with
    | nil=>exfalso;have:=congrArg List.length hw;rw[gD4,gC3] at this;omega
    | cons t2 w2 =>
     simp only[go_sem,hb2,hb3,Tryz.ntmps18,Tryz.f18,hr,hb5];refine fail_den (d:=dcN noDfn noOwn) (T:=T) (fin:=finS x) (first:=noTok) (i:=j) (n:=m) 11 (by simp only[gA1,gA2,gA3,gA6,ne_eq,gA9,reduceIte,hb2,hb3,Tryz.ntmps18,Tryz.f18,hr,hb5]<;>(first|done|rfl|assumption)) hjT hT ?_;rw[hw];refine bad _ _ _ rfl rfl hk3 ?_ ?_ ?_
     ·exact (by simp only[gA1,gA2,gA3,gA6,ne_eq,gA9,reduceIte,hb2,hb3,Tryz.ntmps18,Tryz.f18,hr,hb5,hrb2,hrb3,hrb2.symm,hrb3.symm,n23,n23.symm]<;>(first|done|rfl|assumption))
     ·exact (by simp only[gA1,gA2,gA3,gA6,ne_eq,gA9,reduceIte,hb2,hb3,Tryz.ntmps18,Tryz.f18,hr,hb5,hrb2,hrb3,hrb2.symm,hrb3.symm,n23,n23.symm]<;>(first|done|rfl|assumption))
     ·exact (by (refine gel_ge ?_;repeat (first|exact gel_refl _ _ _|refine gel_gs_gs ?_|refine gel_to_gs gs_self ?_|refine gB1 ?_|refine gB2 ?_|refine gel_set (by simp only[gA1,gA2,gA3,gA6,ne_eq,gA9,reduceIte,hb2,hb3,Tryz.ntmps18,Tryz.f18,hr,hb5]<;>(first|done|rfl|assumption)) ?_|refine gB3 ?_|refine gel_new (by first|simp only[hb2,hb3,hr,hb5]|assumption) ?_)))
   | false =>
    have hge:¬ j<T.length:=by simpa using hc
    cases w with
    | cons t2 w2=>exfalso;have:=congrArg List.length hw;rw[gD4,gC1] at this;omega
    | nil =>
     simp only[Tm.enc_eq] at hk3;simp only[go_sem,hb2,hb3,Tryz.ntmps18,Tryz.f18,hr,hb5];(refine draw_ok (V:=[0,2,3,4,5,13,27]) (OT.l [0,1,2,3] .nil) [(2,[1])] mixed_cx (by decide +kernel) ?_;simp only[go_sem,hb2,hb3,Tryz.ntmps18,Tryz.f18,hr,hb5]);simp only[go_sem] at hk3;exact DK.st hk3 (by (refine gel_ge ?_;repeat (first|exact gel_refl _ _ _|refine gel_gs_gs ?_|refine gel_to_gs gs_self ?_|refine gB1 ?_|refine gB2 ?_|refine gel_set (by simp only[gA1,gA2,gA3,gA6,ne_eq,gA9,reduceIte,hb2,hb3,Tryz.ntmps18,Tryz.f18,hr,hb5]<;>(first|done|rfl|assumption)) ?_|refine gB3 ?_|refine gel_new (by first|simp only[hb2,hb3,hr,hb5]|assumption) ?_)))
end
end Go.AV
end
section
namespace Go.AV
open Go
theorem fin_fz (x:Str):finS x=fz (1+(x.count 10:Nat)) (x.length-lastTo x 10 x.length):=rfl
theorem blanks_law {x m:Str} {T:List Tok} (hx:x.length≤3000) (hT:lexS signsW true x=.ok T) (h0:(parseS x).2.code=0) (hm:m∈mores) :
  ((parseS (m++respell m T)).2=Fault.none∧(parseS x).1.same (parseS (m++respell m T)).1=true)∨(20000<(m++respell m T).length∧(parseS (m++respell m T)).2=⟨3,[],0,0⟩):=by
 by_cases hl:20000<(m++respell m T).length
 ·exact .inr ⟨hl,by unfold parseS;rw[if_pos hl]⟩
 ·refine .inl ?_;obtain ⟨T',h1,h2⟩:=lexS_respell hm (lexS_g hT);unfold parseS at h0 ⊢;rw[if_neg (show ¬ 20000<x.length by omega)] at h0;rw[if_neg hl,if_neg (show ¬ 20000<x.length by omega)];unfold parseL at h0 ⊢;rw[hT] at h0 ⊢;rw[h1];simp only[fin_fz] at h0 ⊢;rcases def_moved (a1:=1+(x.count 10:Nat)) (b1:=x.length-lastTo x 10 x.length) (f2:=fz (1+((m++respell m T).count 10:Nat)) ((m++respell m T).length-lastTo (m++respell m T) 10 (m++respell m T).length)) h2 with ⟨f,hf,hb⟩|⟨d,w,n,d',w',e1,e2,e3⟩
  ·rw[hb] at h0;exact absurd h0 hf
  ·rw[e1,e2];exact ⟨rfl,e3⟩
theorem word_len {t:Tok} (h:TokG t) (N:Nat) (hN:t.text.length≤N):t.word.length≤N+12:=by
  rcases h.is with ⟨hk,_⟩|⟨hk,_,h0,h1⟩|⟨hk,_⟩|⟨hk,_⟩
  · unfold Tok.word;rw[hk,if_neg (by decide),if_neg (by decide)];omega
  · unfold Tok.word Lib.itoa;rw[hk,if_pos rfl,if_neg (by omega)]
    have:∀ (k u:Nat),u<10 ^ (k+1)→(Lib.decDigits u).length≤k+1:=by
      intro k
      induction k with
      | zero=>intro u hu;rw[Lib.decDigits,dif_pos (by simpa using hu)];simp
      | succ k ih =>
        intro u hu;rw[Lib.decDigits];by_cases h:u<10
        · rw[dif_pos h];simp
        · rw[dif_neg h,gC2]
          have:=ih (u / 10) (by rw[Nat.pow_succ] at hu;omega);simp only[gC1,gC3];omega
    have := this 9 t.n.toNat (by have : (10 : Nat) ^ (9 + 1) = 10000000000 := by decide
                                 omega)
    omega
  · unfold Tok.word;rw[hk,if_neg (by decide),if_pos rfl]
    simp only[gC1,gC2,gC3];omega
  · unfold Tok.word;rw[hk,if_neg (by decide),if_neg (by decide)];omega
theorem respell_len {m:Str} (hm:m.length≤6) (N:Nat):∀ (T:List Tok),(∀ t,t∈T→TokG t∧t.text.length≤N)→(respell m T).length≤T.length * (N+19)
 | [],_=>by simp[respell]
 | t::w,h=>by
  have h1:=respell_len hm N w (fun u hu=>h u (List.mem_cons_of_mem _ hu));obtain ⟨g1,g2⟩:=h t (List.mem_cons_self ..);have h2:=word_len g1 N g2
  have h3:(if glue t w=true then ([]:Str) else 32::m).length≤7:=by
   split<;>simp only[gC3,gC1]<;>omega
  simp only[respell,gC2,gC1,Nat.add_mul,Nat.one_mul];omega
theorem text_len {x m:Str} {T:List Tok} (hx:x.length≤3000) (hT:lexS signsW true x=.ok T) (hm:m.length≤6):(m++respell m T).length≤10000000:=by
 obtain ⟨h1,h2⟩:=lexS_w hT;have h3:=respell_len hm 3001 T (fun t ht=>⟨lexS_g hT t ht,by have:=(h2 t ht).txt;omega⟩);have h4:T.length * (3001+19)≤3001 * (3001+19):=Nat.mul_le_mul_right _ (by omega);rw[gC2];omega
end Go.AV
end
section
namespace Go.AV
open Go Go.Proofs
theorem letter189_den (s:St) (c:Int) (KV Kp) (hk:KV s (.bool (isLet c))):Den cx 189 [.int .u8 c] KV Kp s:=by
 unfold isLet at hk;refine Den.drop ?_;(refine Den.of_body (C:=cx) Tryz.func189 rfl rfl (gC6 rfl) ?_;refine wpC_ok (V:=[0,2]) _ _ _ _ ?_;simp only[go_sem,Tryz.ntmps189,Tryz.f189])
 (repeat' (first|exact DK.st hk (by (repeat (first|exact St.ge.refl _|refine St.ge_set (by simp only[]) ?_)))|((first|refine gC8 (fun h=>?_) (fun h=>?_)|refine gC9 (fun h=>?_) (fun h=>?_)|refine gD1 (fun h=>?_) (fun h=>?_))<;>simp only[go_sem,h]<;>(try simp only[h,Bool.true_and,Bool.false_and,Bool.and_true,Bool.and_false,Bool.or_true,Bool.true_or,Bool.or_false,Bool.false_or,Bool.not_true,Bool.not_false] at hk))))
theorem digit193_den (s:St) (c:Int) (KV Kp) (hk:KV s (.bool (isDig c))):Den cx 193 [.int .u8 c] KV Kp s:=by
 unfold isDig at hk;refine Den.drop ?_;(refine Den.of_body (C:=cx) Tryz.func193 rfl rfl (gC6 rfl) ?_;refine wpC_ok (V:=[0,2]) _ _ _ _ ?_;simp only[go_sem,Tryz.ntmps193,Tryz.f193])
 (repeat' (first|exact DK.st hk (by (repeat (first|exact St.ge.refl _|refine St.ge_set (by simp only[]) ?_)))|((first|refine gC8 (fun h=>?_) (fun h=>?_)|refine gC9 (fun h=>?_) (fun h=>?_)|refine gD1 (fun h=>?_) (fun h=>?_))<;>simp only[go_sem,h]<;>(try simp only[h,Bool.true_and,Bool.false_and,Bool.and_true,Bool.and_false,Bool.or_true,Bool.true_or,Bool.or_false,Bool.false_or,Bool.not_true,Bool.not_false] at hk))))
theorem isPart_eq (c:Int):isPart c=(isLet c||(isDig c||decide (c=95))):=rfl
end Go.AV
end
section
namespace Go.AV
open Go Go.Proofs
def ctC (w:Str) (i l c:Nat) (sg out:A) (f:Fault):List A:=[.str w,.int .i64 i,.int .i64 l,.int .i64 c,sg,out,.int .i64 f.code,.str f.name,.int .i64 f.line,.int .i64 f.col]
def ctO (w:Str) (i l c:Nat) (sg out:A) (f:Fault):Ob:=.cells 138 (ctC w i l c sg out f)
attribute [go_sem] ctO ctC
section
variable {s:St} {KV Kp:St→A→Prop} {r:Nat} {w:Str} {i l c:Nat} {sg out:A} {f:Fault}
theorem take94_den (n:Nat) (hr:s.getO r=some (ctO w i l c sg out f)) (hx:w.length≤4294967280) (hn:i+n≤w.length) (hl:l≤i+1) (hc:c≤i+1)
  (hk:KV (s.setO r (ctO w (i+n) (adv (l,c) ((w.drop i).take n)).1 (adv (l,c) ((w.drop i).take n)).2 sg out f)) (.tuple [])) :
  Den cx 94 [.ptr r 0,.int .i64 n] KV Kp s:=by
 refine Den.drop ?_;(refine Den.of_body (C:=cx) Tryz.func94 rfl rfl (gC6 rfl) ?_;refine wpC_ok (V:=[0,1,4,5,6,16]) _ _ _ _ ?_;simp only[go_sem,Tryz.ntmps94,Tryz.f94])
 refine Ex.loop (ι:=Nat) (fun j=>[(0,.ptr r 0),(4,.int .i64 n),(5,.int .i64 (j:Nat))])
  (fun j=>s.setO r (ctO w (i+j) (adv (l,c) ((w.drop i).take j)).1 (adv (l,c) ((w.drop i).take j)).2 sg out f))
  (fun j=>j≤n) (fun j=>n-j) 0 (Nat.zero_le _) ?_ ?_ ?_
 ·simp only[go_sem];rfl
 ·simp only[Nat.add_zero,List.take_zero,adv];exact St.ge_same hr
 ·intro j hj;refine wpC_ok (V:=[0,1,4,5,6,16]) _ _ _ _ ?_;have hb:=adv_le ((w.drop i).take j) (l,c) i hl hc;have hlen:((w.drop i).take j).length=j:=by rw[List.length_take,gD4];omega
  rw[hlen] at hb;simp only[go_sem]
  (first|refine gC8 (fun h=>?_) (fun h=>?_)|refine gC9 (fun h=>?_) (fun h=>?_)|refine gD1 (fun h=>?_) (fun h=>?_))<;>simp only[go_sem,h]
  ·have hin:j<n:=by simpa using h
   have hix:i+j<w.length:=by omega
   obtain ⟨d,hd⟩:∃ d,w[i+j]?=some d:=⟨_,List.getElem?_eq_getElem hix⟩
   (refine draw_ok (V:=[0,1,4,5,6,16]) (OT.l [0,1,2,3,4,5,6,7,8,9] .nil) [] mixed_cx (by decide +kernel) ?_;simp only[go_sem,hd,hix])
   have hst:adv (l,c) ((w.drop i).take (j+1))=adv (adv (l,c) ((w.drop i).take j)) [d]:=by
    rw[List.take_add_one,List.getElem?_drop,hd,adv_app];rfl
   have e5:IntKind.i64.wrap ((j:Int)+1)=((j+1:Nat):Int):=wrap1 j (by omega);have e1:IntKind.i64.wrap (((i+j:Nat):Int)+1)=((i+(j+1):Nat):Int):=by rw[wrap1 _ (by omega)];rfl
   have e2:IntKind.i64.wrap (((adv (l,c) ((w.drop i).take j)).1:Int)+1)=(((adv (l,c) ((w.drop i).take j)).1+1:Nat):Int):=wrap1 _ (by omega);have e3:IntKind.i64.wrap (((adv (l,c) ((w.drop i).take j)).2:Int)+1)=(((adv (l,c) ((w.drop i).take j)).2+1:Nat):Int):=wrap1 _ (by omega);have e4:IntKind.i64.wrap ((0:Int)+1)=1:=by decide
   (first|refine gC8 (fun h=>?_) (fun h=>?_)|refine gC9 (fun h=>?_) (fun h=>?_)|refine gD1 (fun h=>?_) (fun h=>?_))<;>simp only[go_sem,h,e1,e2,e3,e4,e5]
   ·have hd10:d=10:=by
     have:d.toNat=10:=by simp at h;omega
     exact UInt8.toNat_inj.1 this
    refine ⟨j+1,by omega,by omega,rfl,?_⟩;rw[hst];simp only[adv,hd10,if_true];exact St.ge.refl _
   ·have hd10:¬ d=10:=by rintro rfl;simp at h
    refine ⟨j+1,by omega,by omega,rfl,?_⟩;rw[hst];simp only[adv,hd10,if_false];exact St.ge.refl _
  ·have hin:j=n:=by simp at h;omega
   subst hin;exact DK.here hk
theorem blank187_den (b:UInt8) (hk:KV s (.bool (isBlank b))):Den cx 187 [.int .u8 b.toNat] KV Kp s:=by
 have e:∀ k:UInt8,decide (b=k)=decide ((b.toNat:Int)=(k.toNat:Int)):=fun k=>by
  rw[decide_eq_decide];constructor
  ·rintro rfl;rfl
  ·intro h;exact UInt8.toNat_inj.1 (by omega)
 unfold isBlank at hk;rw[show decide (b=32)=decide ((b.toNat:Int)=32) from e 32,show decide (b=9)=decide ((b.toNat:Int)=9) from e 9,show decide (b=10)=decide ((b.toNat:Int)=10) from e 10,show decide (b=13)=decide ((b.toNat:Int)=13) from e 13] at hk;refine Den.drop ?_;(refine Den.of_body (C:=cx) Tryz.func187 rfl rfl (gC6 rfl) ?_;refine wpC_ok (V:=[0,2]) _ _ _ _ ?_;simp only[go_sem,Tryz.ntmps187,Tryz.f187])
 (repeat' (first|exact DK.st hk (by (repeat (first|exact St.ge.refl _|refine St.ge_set (by simp only[]) ?_)))|((first|refine gC8 (fun h=>?_) (fun h=>?_)|refine gC9 (fun h=>?_) (fun h=>?_)|refine gD1 (fun h=>?_) (fun h=>?_))<;>simp only[go_sem,h]<;>(try simp only[h,Bool.true_and,Bool.false_and,Bool.and_true,Bool.and_false,Bool.or_true,Bool.true_or,Bool.or_false,Bool.false_or,Bool.not_true,Bool.not_false] at hk))))
theorem begins188_den (x:Str) (hr:s.getO r=some (ctO w i l c sg out f)) (hx:w.length≤4294967280) (hi:i≤w.length) (hp:x.length≤4294967280) (hk:KV s (.bool (hasPre (w.drop i) x))):Den cx 188 [.ptr r 0,.str x] KV Kp s:=by
 have e1:IntKind.i64.wrap ((w.length:Int)-(i:Int))=((w.length-i:Nat):Int):=by rw[wrap_in _ (by omega) (by omega)];omega
 have e2:IntKind.i64.wrap ((i:Int)+(x.length:Int))=((i+x.length:Nat):Int):=by rw[wrap_in _ (by omega) (by omega)];omega
 unfold hasPre at hk;rw[gD4] at hk;refine Den.drop ?_;(refine Den.of_body (C:=cx) Tryz.func188 rfl rfl (gC6 rfl) ?_;refine wpC_ok (V:=[0,1,4]) _ _ _ _ ?_;simp only[go_sem,Tryz.ntmps188,Tryz.f188]);by_cases h:x.length≤w.length-i
 ·have d1:decide (x.length≤w.length-i)=true:=decide_eq_true h;have b1:i≤i+x.length:=by omega
  have b2:i+x.length≤w.length:=by omega
  rw[d1] at hk;(refine draw_ok (V:=[0,1,4]) (OT.l [0,1,2,3,4,5,6,7,8,9,10,11,12,13,14,15,16,17,18,19,20,21,22,23,24,25,26,27,28,29,30,31,32,33] .nil) [] mixed_cx (by decide +kernel) ?_;simp only[go_sem,hr,e1,e2,d1,b1,b2]);rw[show i+x.length-i=x.length by omega];rw[Bool.true_and] at hk;exact DK.here hk
 ·have d1:decide (x.length≤w.length-i)=false:=decide_eq_false h;rw[d1] at hk;(refine draw_ok (V:=[0,1,4]) (OT.l [0,1,2,3,4,5,6,7,8,9,10,11,12,13,14,15,16,17,18,19,20,21,22,23,24,25,26,27,28,29,30,31,32,33] .nil) [] mixed_cx (by decide +kernel) ?_;simp only[go_sem,hr,e1,e2,d1]);exact DK.here hk
theorem name190_den (j:Nat) (hr:s.getO r=some (ctO w i l c sg out f)) (hx:w.length≤4294967280) (hj:j≤w.length) (hk:KV s (.int .i64 ((w.drop j).takeWhile fun c=>isPart c.toNat).length)):Den cx 190 [.ptr r 0,.int .i64 j] KV Kp s:=by
 refine Den.drop ?_;(refine Den.of_body (C:=cx) Tryz.func190 rfl rfl (gC6 rfl) ?_;refine wpC_ok (V:=[0,1,4,5,47]) _ _ _ _ ?_;simp only[go_sem,Tryz.ntmps190,Tryz.f190])
 refine Ex.loop (ι:=Nat) (fun n=>[(0,.ptr r 0),(1,.int .i64 j),(5,.int .i64 (n:Nat))]) (fun _=>s)
  (fun n=>j+n≤w.length∧((w.drop j).takeWhile fun c=>isPart c.toNat).length=n+((w.drop (j+n)).takeWhile fun c=>isPart c.toNat).length) (fun n=>w.length-(j+n)) 0 ⟨hj,by simp⟩ ?_ (St.ge.refl s) ?_
 ·simp only[go_sem,hr]
  try rfl
 rintro n ⟨hn,he⟩;refine wpC_ok (V:=[0,1,4,5,47]) _ _ _ _ ?_;have e2:IntKind.i64.wrap ((j:Int)+(n:Int))=((j+n:Nat):Int):=by rw[wrap_in _ (by omega) (by omega)];omega
 have e3:IntKind.i64.wrap ((n:Int)+1)=((n+1:Nat):Int):=wrap1 n (by omega);by_cases hlt:j+n<w.length
 ·have d1:decide (j+n<w.length)=true:=decide_eq_true hlt;obtain ⟨d,v,hdr⟩:∃ d v,w.drop (j+n)=d::v:=⟨_,_,List.drop_eq_getElem_cons hlt⟩
  have hd:w[j+n]?=some d:=by
   have:=congrArg (·[0]?) hdr;simpa using this
  have hdr2:w.drop (j+(n+1))=v:=by
   rw[show j+(n+1)=j+n+1 from rfl,← List.drop_drop,hdr];rfl
  have fin:isPart d.toNat=true→j+(n+1)≤w.length∧((w.drop j).takeWhile fun c=>isPart c.toNat).length=n+1+((w.drop (j+(n+1))).takeWhile fun c=>isPart c.toNat).length:=fun hp=>by
   refine ⟨by omega,?_⟩;rw[he,hdr,List.takeWhile_cons_of_pos (p:=fun c:UInt8=>isPart c.toNat) hp,gC1,hdr2];omega
  have stop:isPart d.toNat=false→((w.drop j).takeWhile fun c=>isPart c.toNat).length=n:=fun hp=>by
   rw[he,hdr,List.takeWhile_cons_of_neg (p:=fun c:UInt8=>isPart c.toNat) (by simp only[hp];decide)];rfl
  have ep:=isPart_eq (d.toNat:Int);simp only[go_sem,hr,e2,d1,hd,hlt];refine letter189_den _ _ _ _ ?_;simp only[go_sem,hr];cases hL:isLet (d.toNat:Int) with
  | true =>
   rw[hL,Bool.true_or] at ep;simp only[go_sem,hr,e3];exact ⟨n+1,fin ep,by omega,rfl,St.ge.refl _⟩
  | false =>
   rw[hL,Bool.false_or] at ep;simp only[go_sem,hr,e2,hd,hlt];refine digit193_den _ _ _ _ ?_;simp only[go_sem,hr];cases hD:isDig (d.toNat:Int) with
   | true =>
    rw[hD,Bool.true_or] at ep;simp only[go_sem,hr,e3];exact ⟨n+1,fin ep,by omega,rfl,St.ge.refl _⟩
   | false =>
    rw[hD,Bool.false_or] at ep;simp only[go_sem,hr,e2,hd,hlt];cases hU:decide ((d.toNat:Int)=95) with
    | true =>
     rw[hU] at ep;simp only[go_sem,hr,hU,e3];exact ⟨n+1,fin ep,by omega,rfl,St.ge.refl _⟩
    | false =>
     rw[hU] at ep;rw[stop ep] at hk;simp only[go_sem,hr,hU];exact DK.here hk
 ·have d1:decide (j+n<w.length)=false:=decide_eq_false hlt;simp only[go_sem,hr,e2,d1];have:j+n=w.length:=by omega
  rw[he,this,List.drop_length] at hk;exact DK.here hk
end
end Go.AV
end
section
namespace Go.AV
open Go Go.Proofs
section
variable {s:St} {KV Kp:St→A→Prop} {r:Nat} {w:Str} {i l c:Nat} {sg out:A} {f:Fault}
theorem skip104_den (hr:s.getO r=some (ctO w i l c sg out f)) (hx:w.length≤4294967280) (hi:i≤w.length) (hl:l≤i+1) (hc:c≤i+1)
  (hk:KV (s.setO r (ctO w (i+blks (w.drop i)) (adv (l,c) ((w.drop i).take (blks (w.drop i)))).1 (adv (l,c) ((w.drop i).take (blks (w.drop i)))).2 sg out f)) (.tuple [])) :
  Den cx 104 [.ptr r 0] KV Kp s:=by
 refine Den.drop ?_;(refine Den.of_body (C:=cx) Tryz.func104 rfl rfl (gC6 rfl) ?_;refine wpC_ok (V:=[0,27,37,61]) _ _ _ _ ?_;simp only[go_sem,Tryz.ntmps104,Tryz.f104])
 refine Ex.loop (ι:=Nat) (fun _=>[(0,.ptr r 0)])
  (fun k=>s.setO r (ctO w (i+k) (adv (l,c) ((w.drop i).take k)).1 (adv (l,c) ((w.drop i).take k)).2 sg out f))
  (fun k=>i+k≤w.length∧blks (w.drop i)=k+blks (w.drop (i+k))) (fun k=>w.length-(i+k)) 0 ⟨by omega,by simp⟩ ?_ ?_ ?_
 ·simp only[go_sem]
  try rfl
 ·simp only[Nat.add_zero,List.take_zero,adv];exact St.ge_same hr
 rintro k ⟨hkx,hb⟩;have hlen:((w.drop i).take k).length=k:=by rw[List.length_take,gD4];omega
 have hal:=adv_le ((w.drop i).take k) (l,c) i hl hc;rw[hlen] at hal
 have hstep:∀ m,adv (l,c) ((w.drop i).take (k+m))=adv (adv (l,c) ((w.drop i).take k)) ((w.drop (i+k)).take m):=by
  intro m;rw[List.take_add,adv_app,List.drop_drop]
 refine wpC_ok (V:=[0,27,37,61]) _ _ _ _ ?_;by_cases hlt:i+k<w.length;rotate_left
 ·have d1:decide (i+k<w.length)=false:=decide_eq_false hlt;have e0:i+k=w.length:=by omega
  rw[e0,List.drop_length,blks_nil,Nat.add_zero] at hb;rw[hb] at hk;(refine draw_ok (V:=[0,27,37,61]) (OT.l [0,1,2,3,4,5,6,7,8,9,10,11,12,13,14,15,16,17,18,19,20,21,22,23,24,25] .nil) [] mixed_cx (by decide +kernel) ?_;simp only[go_sem,d1]);exact DK.here hk
 have d1:decide (i+k<w.length)=true:=decide_eq_true hlt;obtain ⟨d,v,hdr⟩:∃ d v,w.drop (i+k)=d::v:=⟨_,_,List.drop_eq_getElem_cons hlt⟩
 have hd:w[i+k]?=some d:=by
  have:=congrArg (·[0]?) hdr;simpa using this
 have one:isBlank d=true→i+(k+1)≤w.length∧blks (w.drop i)=k+1+blks (w.drop (i+(k+1))):=fun h=>by
  refine ⟨by omega,?_⟩;rw[hb,hdr,blks_blank h,show i+(k+1)=i+k+1 from rfl,← List.drop_drop,hdr];simp;omega
 (refine draw_ok (V:=[0,27,37,61]) (OT.l [0,1,2,3,4,5,6,7,8,9,10,11,12,13,14,15,16,17,18,19,20,21,22,23,24,25] .nil) [] mixed_cx (by decide +kernel) ?_;simp only[go_sem,d1,hd,hlt]);refine blank187_den d ?_;simp only[go_sem];cases hB:isBlank d with
 | true =>
  simp only[go_sem];(refine draw_ok (V:=[0,27,37,61]) (OT.l [0,1,2,3,4,5,6,7,8,9] .nil) [] mixed_cx (by decide +kernel) ?_;simp only[go_sem,hd,hlt]);refine blank187_den d ?_;simp only[go_sem,hB];refine take94_den (i:=i+k) 1 (by simp only[gA1,gA2,gA3,gA6,ne_eq,gA9,reduceIte,]<;>(first|done|rfl|assumption)) hx (by omega) (by omega) (by omega) ?_;simp only[go_sem];refine ⟨k+1,one hB,by omega,?_⟩;rw[hstep 1];exact St.ge.refl _
 | false =>
  simp only[go_sem];refine begins188_den (i:=i+k) [47,47] (by simp only[gA1,gA2,gA3,gA6,ne_eq,gA9,reduceIte,]<;>(first|done|rfl|assumption)) hx (by omega) (by decide) ?_;rw[hdr];cases hP:hasPre (d::v) [47,47] with
  | false =>
   rw[hdr,blks_none hB hP,Nat.add_zero] at hb;rw[hb] at hk;simp only[go_sem];exact DK.here hk
  | true =>
   simp only[go_sem];(refine draw_ok (V:=[0,27,37,61]) (OT.l [0,1,2,3,4,5,6,7,8,9] .nil) [] mixed_cx (by decide +kernel) ?_;simp only[go_sem,hd,hlt]);refine blank187_den d ?_;simp only[go_sem,hB];have ht:=takeWhile_pre hP;have hbt:=blks_note hB hP;rw[← hdr] at ht hbt;generalize hT:((w.drop (i+k)).takeWhile fun c=>!decide (c=10)).length=t at ht hbt
   refine Ex.loop (ι:=Nat) (fun _=>[(0,.ptr r 0)])
    (fun m=>s.setO r (ctO w (i+(k+m)) (adv (l,c) ((w.drop i).take (k+m))).1 (adv (l,c) ((w.drop i).take (k+m))).2 sg out f))
    (fun m=>i+(k+m)≤w.length∧t=m+((w.drop (i+(k+m))).takeWhile fun c=>!decide (c=10)).length) (fun m=>w.length-(i+(k+m))) 0 ⟨by omega,by simp[hT]⟩ ?_ ?_ ?_
   ·simp only[go_sem]
    try rfl
   ·exact St.ge.refl _
   rintro m ⟨hmx,hm⟩;have hlen2:((w.drop i).take (k+m)).length=k+m:=by rw[List.length_take,gD4];omega
   have hal2:=adv_le ((w.drop i).take (k+m)) (l,c) i hl hc;rw[hlen2] at hal2;refine wpC_ok (V:=[0,27,37,61]) _ _ _ _ ?_
   have done:t=m→i+(k+t)≤w.length∧blks (w.drop i)=k+t+blks (w.drop (i+(k+t))):=fun e=>by
    subst e;refine ⟨hmx,?_⟩;rw[hb,hbt,List.drop_drop,Nat.add_assoc,Nat.add_assoc]
   by_cases hlt2:i+(k+m)<w.length;rotate_left
   ·have d2:decide (i+(k+m)<w.length)=false:=decide_eq_false hlt2;have e0:i+(k+m)=w.length:=by omega
    rw[e0,List.drop_length] at hm;have hm:t=m:=hm;(refine draw_ok (V:=[0,27,37,61]) (OT.l [0,1,2,3,4,5,6,7,8,9,10,11,12,13,14,15,16,17,18,19,20,21] .nil) [] mixed_cx (by decide +kernel) ?_;simp only[go_sem,d2]);subst hm;exact ⟨k+t,done rfl,by omega,St.ge.refl _⟩
   have d2:decide (i+(k+m)<w.length)=true:=decide_eq_true hlt2;obtain ⟨d',v',hdr'⟩:∃ d v,w.drop (i+(k+m))=d::v:=⟨_,_,List.drop_eq_getElem_cons hlt2⟩
   have hd':w[i+(k+m)]?=some d':=by
    have:=congrArg (·[0]?) hdr';simpa using this
   rw[hdr'] at hm
   have e10:decide ((d'.toNat:Int)=10)=decide (d'=10):=by
    rw[decide_eq_decide];constructor
    ·intro h;exact UInt8.toNat_inj.1 (by show d'.toNat=10;omega)
    ·rintro rfl;rfl
   cases hN:decide (d'=10) with
   | true =>
    rw[List.takeWhile_cons_of_neg (by simp only[hN];decide)] at hm;have hm:t=m:=hm;(refine draw_ok (V:=[0,27,37,61]) (OT.l [0,1,2,3,4,5,6,7,8,9,10,11,12,13,14,15,16,17,18,19,20,21] .nil) [] mixed_cx (by decide +kernel) ?_;simp only[go_sem,d2,hd',hlt2,e10,hN]);subst hm;exact ⟨k+t,done rfl,by omega,St.ge.refl _⟩
   | false =>
    rw[List.takeWhile_cons_of_pos (by simp only[hN];decide),gC1] at hm;(refine draw_ok (V:=[0,27,37,61]) (OT.l [0,1,2,3,4,5,6,7,8,9,10,11,12,13,14,15,16,17,18,19,20,21] .nil) [] mixed_cx (by decide +kernel) ?_;simp only[go_sem,d2,hd',hlt2,e10,hN]);refine take94_den (i:=i+(k+m)) 1 (by simp only[gA1,gA2,gA3,gA6,ne_eq,gA9,reduceIte,]<;>(first|done|rfl|assumption)) hx (by omega) (by omega) (by omega) ?_;simp only[go_sem];refine ⟨m+1,⟨by omega,?_⟩,by omega,?_⟩
    ·rw[show i+(k+(m+1))=i+(k+m)+1 by omega,← List.drop_drop,hdr'];simp only[List.drop_succ_cons,List.drop_zero];omega
    ·have hst:adv (l,c) ((w.drop i).take (k+(m+1)))=adv (adv (l,c) ((w.drop i).take (k+m))) ((w.drop (i+(k+m))).take 1):=by
      rw[← Nat.add_assoc,List.take_add,adv_app,List.drop_drop]
     rw[hst];exact St.ge.refl _
end
end Go.AV
end
section
namespace Go.AV
open Go Go.Proofs
def ctS (s:St) (r:Nat) (w:Str) (i l c:Nat) (sg:A) (tk:Option Nat) (acc:List Tok) (f:Fault):St:=gs (s.setO r (ctO w i l c sg (gv tk (acc.map Tok.enc)) f)) tk acc.length 60
section
variable {s:St} {KV Kp:St→A→Prop} {r:Nat} {w:Str} {i l c:Nat} {sg out:A} {f:Fault}
theorem fail191_den (b:UInt8) (hr:s.getO r=some (ctO w i l c sg out f)) (hx:w.length≤4294967280) (hb:w[i]?=some b)
  (hk:KV (s.setO r (ctO w i l c sg out ⟨10,[b],l,c⟩)) (.tuple [])):Den cx 191 [.ptr r 0] KV Kp s:=by
 have hi:i<w.length:=(List.getElem?_eq_some_iff.1 hb).1;have e1:IntKind.i64.wrap ((i:Int)+1)=((i+1:Nat):Int):=wrap1 i (by omega);refine Den.drop ?_;(refine Den.of_body (C:=cx) Tryz.func191 rfl rfl (gC6 rfl) ?_;refine wpC_ok (V:=[0]) _ _ _ _ ?_;simp only[go_sem,Tryz.ntmps191,Tryz.f191]);(refine draw_ok (V:=[0]) (OT.l [0,1,2,3,4,5,6,7,8,9,10,11,12,13,14,15,16,17,18,19,20,21,22,23,24,25,26] .nil) [] mixed_cx (by decide +kernel) ?_;simp only[go_sem,hr,e1,hi,Nat.le_of_lt hi]);have et:List.take 1 (List.drop i w)=[b]:=by rw[List.drop_eq_getElem_cons hi];have:=(List.getElem?_eq_some_iff.1 hb).2;simp[this]
 refine ⟨⟨by omega,by omega⟩,?_⟩;rw[show i+1-i=1 by omega,et];exact DK.here hk
theorem add192_den (t:Tok) (n:Nat) (tk:Option Nat) (acc:List Tok) (hn:tk=none→acc=[]) (hf:∀ u,tk=some u→s.getT u=none) (hacc:acc.length≤4294967280) (hx:w.length≤4294967280) (hi:i+n≤w.length)
  (hl:l≤i+1) (hc:c≤i+1)
  (hk:∀ u,s.getT u=none→KV (ctS s r w (i+n) (adv (l,c) ((w.drop i).take n)).1 (adv (l,c) ((w.drop i).take n)).2 sg (some u) (acc++[⟨t.kind,t.text,t.n,l,c⟩]) f) (.tuple [])) :
  Den cx 192 [.ptr r 0,t.enc,.int .i64 n] KV Kp (ctS s r w i l c sg tk acc f):=by
 unfold ctS;refine Den.drop ?_;(refine Den.of_body (C:=cx) Tryz.func192 rfl rfl (gC6 rfl) ?_;refine wpC_ok (V:=[0,1,2,4]) _ _ _ _ ?_;simp only[go_sem,Tryz.ntmps192,Tryz.f192]);(intro b2 hb2;try simp only[gA5,gA6,gD6,ne_eq] at hb2);simp only[go_sem,hb2]
 have hne:¬ b2=r∧¬ r=b2:=by
  constructor<;>rintro rfl<;>simp at hb2
 (refine draw_ok (V:=[0,1,2,4]) (OT.l [0,1,2,3,4,5,6,7,8,9,10,11] .nil) [(9,[7])] mixed_cx (by decide +kernel) ?_;simp only[go_sem,hb2,hne]);(refine draw_ok (V:=[0,1,2,4]) (OT.l [0,1,2,3,4,5,6,7,8,9,10] .nil) [] mixed_cx (by decide +kernel) ?_;simp only[go_sem,hb2,hne]);refine ⟨by decide,by simp[A.cells],appL_gv rfl rfl (by rw[gC4];exact gs_ok fun e=>by rw[hn e];rfl) (fun y hy=>by simp only[List.mem_map] at hy;obtain ⟨z,_,rfl⟩:=hy;rfl) (by simp;omega) fun u hu=>?_⟩;have hft:s.getT u=none:=by have:=gs_free hu (fun v hv=>hf v hv);exact this
 rw[gs_set hu];simp only[go_sem,hb2,hne];refine take94_den (r:=r) (i:=i) n (by simp only[gA1,gA2,gA3,gA6,ne_eq,gA9,reduceIte,hb2,hne]<;>(first|done|rfl|assumption)) hx hi hl hc ?_;simp only[go_sem,hb2];have hk':=hk u hft;unfold ctS at hk';rw[List.map_append] at hk';refine DK.st hk' ?_;simp only[gs,gC2,gC1,gC3,Nat.zero_add];refine St.ge_setT (St.ge_mid ?_ hne.1);simp only[gA6,gA1,hne,if_false,reduceIte] at hb2;exact hb2.2
theorem isText1_den (b:UInt8) (hk:KV s (.bool (okB b))):Den cx 263 [.str [b]] KV Kp s:=by
 refine Den.drop ?_;(refine Den.of_body (C:=cx) Tryz.func263 rfl rfl (gC6 rfl) ?_;refine wpC_ok (V:=[0,2,3,5,6,7,30]) _ _ _ _ ?_;simp only[go_sem,Tryz.ntmps263,Tryz.f263]);have ok:okB b=(decide (32≤b.toNat)&&(decide (b.toNat≤126)&&(!decide (b=34)&&!decide (b=92)))):=rfl;have f1:decide ((b.toNat:Int)<32)=!decide (32≤b.toNat):=by rw[← decide_not];congr 1;apply propext;omega
 have f2:decide ((126:Int)<b.toNat)=!decide (b.toNat≤126):=by rw[← decide_not];congr 1;apply propext;omega
 have f3:decide ((b.toNat:Int)=34)=decide (b=34):=by
  congr 1;apply propext;exact ⟨fun h=>UInt8.toNat_inj.1 (by show b.toNat=34;omega),fun h=>by rw[h];rfl⟩
 have f4:decide ((b.toNat:Int)=92)=decide (b=92):=by
  congr 1;apply propext;exact ⟨fun h=>UInt8.toNat_inj.1 (by show b.toNat=92;omega),fun h=>by rw[h];rfl⟩
 refine Ex.loop (ι:=Nat) (fun i=>[(0,.str [b]),(2,.bool false),(5,.int .i64 1),(6,.int .i64 i)]) (fun _=>s) (fun i=>i≤1∧(i=1→okB b=true)) (fun i=>1-i) 0 ⟨by omega,fun h=>by omega⟩ ?_ (St.ge.refl s) ?_
 ·simp only[go_sem];exact ⟨rfl,rfl⟩
 rintro i ⟨hi,hok⟩;refine wpC_ok (V:=[0,2,3,5,6,7,30]) _ _ _ _ ?_;have d01:decide (((0:Nat):Int)<1)=true:=rfl;have d11:decide (((1:Nat):Int)<1)=false:=rfl;have w1:IntKind.i64.wrap (((0:Nat):Int)+1)=((1:Nat):Int):=by decide
 rcases Nat.eq_zero_or_pos i with rfl|hp
 ·simp only[go_sem,d01,f1,f2,f3,f4,w1];cases o1:decide (32≤b.toNat)<;>cases o2:decide (b.toNat≤126)<;>cases o3:decide (b=34)<;>cases o4:decide (b=92)
  all_goals (rw[o1,o2,o3,o4] at ok;simp only[go_sem,f1,f2,f3,f4,o1,o2,o3,o4,w1,Int.natCast_zero])
  all_goals first
   | (rw[ok] at hk;exact DK.here hk)
   | exact ⟨1,⟨by omega,fun _=>ok⟩,by omega,by decide,St.ge.refl _⟩
 ·obtain rfl:i=1:=by omega
  rw[hok rfl] at hk;simp only[go_sem,d11];exact DK.here hk
end
section
variable {s:St} {KV Kp:St→A→Prop} {r:Nat} {w:Str} {i l c:Nat} {sg:A} {tk:Option Nat} {acc:List Tok}
def Cut1 (KV:St→A→Prop) (s:St) (r:Nat) (w:Str) (i l c:Nat) (sg:A) (tk:Option Nat) (acc:List Tok):Tok × Nat × Bool→Prop
 | (t,n,true)=>∀ u,s.getT u=none→KV (ctS s r w (i+n) (adv (l,c) ((w.drop i).take n)).1 (adv (l,c) ((w.drop i).take n)).2 sg (some u) (acc++[⟨t.kind,t.text,t.n,l,c⟩]) Fault.none) (.tuple [])
 | (_,_,false)=>KV (ctS s r w i l c sg tk acc ⟨10,(w.drop i).take 1,l,c⟩) (.tuple [])
theorem Cut1.bad {x:Tok × Nat × Bool} (h:x.2.2=false) (hk:Cut1 KV s r w i l c sg tk acc x):KV (ctS s r w i l c sg tk acc ⟨10,(w.drop i).take 1,l,c⟩) (.tuple []):=by
 obtain ⟨t,n,b⟩:=x;cases b with
 | false=>exact hk
 | true=>cases h
theorem ctS_getO:(ctS s r w i l c sg tk acc Fault.none).getO r=some (ctO w i l c sg (gv tk (acc.map Tok.enc)) Fault.none):=by
 unfold ctS;rw[gA6,gA1,if_pos rfl]
theorem ctS_fail (hf:∀ u,tk=some u→s.getT u=none) (f:Fault):((ctS s r w i l c sg tk acc Fault.none).setO r (ctO w i l c sg (gv tk (acc.map Tok.enc)) f)).ge (ctS s r w i l c sg tk acc f):=by
 unfold ctS;cases tk with
 | none =>
  refine ⟨fun d x hx=>?_,fun u m hm=>hm,fun x hx=>hx⟩;simp only[gs] at hx ⊢;rw[gA1] at hx ⊢;split
  ·rename_i e;rw[if_pos e] at hx;exact hx
  ·rename_i e;rw[if_neg e] at hx;rw[gA1,if_neg e];exact hx
 | some u =>
  refine ⟨fun d x hx=>?_,fun u m hm=>hm,fun x hx=>hx⟩;simp only[gs] at hx ⊢;rw[gA3,gA1] at hx;rw[gA1,gA3,gA1];split
  ·rename_i e;rw[if_pos e] at hx;exact hx
  ·rename_i e;rw[if_neg e] at hx;exact hx
theorem fail_cut (hf:∀ u,tk=some u→s.getT u=none) (hx:w.length≤4294967280) (hi:i<w.length) (hk:KV (ctS s r w i l c sg tk acc ⟨10,(w.drop i).take 1,l,c⟩) (.tuple [])) :
  Den cx 191 [.ptr r 0] KV Kp (ctS s r w i l c sg tk acc Fault.none):=by
 have hb:w[i]?=some w[i]:=List.getElem?_eq_getElem hi;have et:List.take 1 (List.drop i w)=[w[i]]:=by rw[List.drop_eq_getElem_cons hi];rfl
 rw[et] at hk;refine Den.drop ?_;refine fail191_den w[i] ctS_getO hx hb ?_;exact DK.st hk (ctS_fail hf _)
theorem text195_den (b:Str) (hw:w.drop i=34::b) (hn:tk=none→acc=[]) (hf:∀ u,tk=some u→s.getT u=none) (hacc:acc.length≤4294967280) (hx:w.length≤4294967280)
  (hl:l≤i+1) (hc:c≤i+1) (sgs:List Str) (op:Bool) (hk:Cut1 KV s r w i l c sg tk acc (tokOf (w.drop i) sgs op)):Den cx 195 [.ptr r 0] KV Kp (ctS s r w i l c sg tk acc Fault.none):=by
 have hlen:i+1+b.length=w.length:=by have:=congrArg List.length hw;rw[gD4,gC1] at this;omega
 have hwb:∀ k,w[i+1+k]?=b[k]?:=fun k=>by
  have:=congrArg (·[k+1]?) hw;rw[List.getElem?_drop] at this;simpa [Nat.add_assoc,Nat.add_comm 1 k] using this
 have hwd:w.drop (i+1)=b:=by rw[← List.drop_drop,hw];rfl
 have htl:=tw_le okB b;have e0:IntKind.i64.wrap ((i:Int)+1)=((i+1:Nat):Int):=wrap1 i (by omega);have hr:=ctS_getO (s:=s) (r:=r) (w:=w) (i:=i) (l:=l) (c:=c) (sg:=sg) (tk:=tk) (acc:=acc);rw[hw] at hk;generalize hY:ctS s r w i l c sg tk acc Fault.none=Y at hr ⊢;refine Den.drop ?_;(refine Den.of_body (C:=cx) Tryz.func195 rfl rfl (gC6 rfl) ?_;refine wpC_ok (V:=[0,2,25,53]) _ _ _ _ ?_;simp only[go_sem,Tryz.ntmps195,Tryz.f195]);simp only[go_sem,hr,e0]
 refine Ex.loop (ι:=Nat) (fun k=>[(0,.ptr r 0),(2,.int .i64 ((i+1+k:Nat):Int))]) (fun _=>Y)
  (fun k=>k≤b.length∧(b.takeWhile okB).length=k+((b.drop k).takeWhile okB).length) (fun k=>b.length-k) 0 ⟨Nat.zero_le _,by simp⟩ ?_ (St.ge.refl _) ?_
 ·simp only[go_sem,hr]
 rintro k ⟨hk1,hk2⟩;refine wpC_ok (V:=[0,2,25,53]) _ _ _ _ ?_;have ek:IntKind.i64.wrap (((i+1+k:Nat):Int)+1)=((i+1+k+1:Nat):Int):=wrap1 _ (by omega);have ek2:IntKind.i64.wrap (((i+1+k:Nat):Int)-(i:Int))=((k+1:Nat):Int):=by rw[wrap_in _ (by omega) (by omega)];omega
 have ek3:IntKind.i64.wrap (((k+1:Nat):Int)-1)=((k:Nat):Int):=by rw[wrap_in _ (by omega) (by omega)];omega
 have ek4:IntKind.i64.wrap (((i+1+k+1:Nat):Int)-(i:Int))=((k+2:Nat):Int):=by rw[wrap_in _ (by omega) (by omega)];omega
 have e200:decide ((200:Int)<((k:Nat):Int))=decide (200<k):=by congr 1;apply propext;omega
 have hwk:=hwb k;simp only[go_sem,hr,ek];by_cases hlt:k<b.length
 ·obtain ⟨d,hd⟩:∃ d,b[k]?=some d:=⟨_,List.getElem?_eq_getElem hlt⟩
  have hwd2:w[i+1+k]?=some d:=by rw[hwk,hd]
  have hltw:i+1+k<w.length:=by omega
  have d1:decide (i+1+k<w.length)=true:=decide_eq_true hltw
  have hdk:b.drop k=d::b.drop (k+1):=by
   rw[List.drop_eq_getElem_cons hlt];have:=(List.getElem?_eq_some_iff.1 hd).2;rw[this]
  simp only[go_sem,hr,d1,ek];refine ⟨⟨by omega,by omega⟩,?_⟩
  have et:List.take (i+1+k+1-(i+1+k)) (List.drop (i+1+k) w)=[d]:=by
   rw[show i+1+k+1-(i+1+k)=1 by omega,List.drop_eq_getElem_cons hltw];have:=(List.getElem?_eq_some_iff.1 hwd2).2;simp[this]
  rw[et];refine isText1_den d ?_;simp only[go_sem,hr];cases ho:okB d with
  | true =>
   simp only[go_sem,hr,ek];refine ⟨k+1,⟨by omega,?_⟩,by omega,?_,St.ge.refl _⟩
   ·rw[hk2,hdk,List.takeWhile_cons_of_pos ho,gC1];omega
   ·omega
  | false =>
   rw[hdk,List.takeWhile_cons_of_neg (by rw[ho];decide),gC3,Nat.add_zero] at hk2;have d2:decide (i+1+k=w.length)=false:=decide_eq_false (by omega);have n34:((d.toNat:Int)=34)=(d=34):=propext ⟨fun h=>UInt8.toNat_inj.1 (by show d.toNat=34;omega),fun h=>by rw[h];rfl⟩;simp only[go_sem,hr,d2,hwd2,hltw,ek2,ek3,e200,n34];by_cases h34:d=34
   ·have d34:decide (d=34)=true:=decide_eq_true h34;simp only[go_sem,hr,d34,ek2,ek3,e200];by_cases h200:200<k
    ·have d3:decide (200<k)=true:=decide_eq_true h200;simp only[go_sem,hr,d3];rw[← hY];refine fail_cut hf hx (by omega) ?_;simp only[go_sem,hr];exact DK.here (Cut1.bad (text_bad b sgs op (by rw[hk2];omega)) hk)
    ·have d3:decide (200<k)=false:=decide_eq_false h200;simp only[go_sem,hr,d3];(refine draw_ok (V:=[0,2,25,53]) (OT.l [0,1,2,3,4,5,6,7,8,9,10,11,12,13,14,15,16,17,18,19,20] .nil) [] mixed_cx (by decide +kernel) ?_;simp only[go_sem,hr,e0,ek,ek4]);refine ⟨⟨by omega,by omega⟩,?_⟩;rw[hwd,show i+1+k-(i+1)=k by omega,← hY];have ht:=text_tok b sgs op (by rw[hk2,hd,h34];exact ⟨rfl,by omega⟩);rw[ht,hk2] at hk;refine add192_den ⟨3,b.take k,0,0,0⟩ (k+2) tk acc hn hf hacc hx (by omega) hl hc ?_;intro u hu;simp only[go_sem,hr];exact DK.here (hk u hu)
   ·have d34:decide (d=34)=false:=decide_eq_false h34;simp only[go_sem,hr,d34];rw[← hY];refine fail_cut hf hx (by omega) ?_;simp only[go_sem,hr];refine DK.here (Cut1.bad (text_bad b sgs op (by rw[hk2,hd];rintro ⟨h,_⟩;exact h34 (Option.some.inj h))) hk)
 ·have d1:decide (i+1+k<w.length)=false:=decide_eq_false (by omega);have d2:decide (i+1+k=w.length)=true:=decide_eq_true (by omega);simp only[go_sem,hr,d1,d2];have hkb:k=b.length:=by omega
  rw[hkb,List.drop_length,List.takeWhile_nil,gC3,Nat.add_zero] at hk2;rw[← hY];refine fail_cut hf hx (by omega) ?_;simp only[go_sem,hr];exact DK.here (Cut1.bad (text_bad b sgs op (by rw[hk2];simp)) hk)
end
end Go.AV
end
section
namespace Go.AV
open Go Go.Proofs
section
variable {s:St} {KV Kp:St→A→Prop} {r:Nat} {w:Str} {i l c:Nat} {sg:A} {tk:Option Nat} {acc:List Tok}
theorem cap_le (x:Str):x.foldl capS 0≤2147483648:=by rw[cap_num];omega
theorem number194_den (hi:i<w.length) (hn:tk=none→acc=[]) (hf:∀ u,tk=some u→s.getT u=none) (hacc:acc.length≤4294967280) (hx:w.length≤4294967280)
  (hl:l≤i+1) (hc:c≤i+1) (hk:Cut1 KV s r w i l c sg tk acc (numTok (w.drop i))):Den cx 194 [.ptr r 0] KV Kp (ctS s r w i l c sg tk acc Fault.none):=by
 have hr:=ctS_getO (s:=s) (r:=r) (w:=w) (i:=i) (l:=l) (c:=c) (sg:=sg) (tk:=tk) (acc:=acc);generalize hY:ctS s r w i l c sg tk acc Fault.none=Y at hr ⊢;refine Den.drop ?_;(refine Den.of_body (C:=cx) Tryz.func194 rfl rfl (gC6 rfl) ?_;refine wpC_ok (V:=[0,2,3,29,61]) _ _ _ _ ?_;simp only[go_sem,Tryz.ntmps194,Tryz.f194])
 refine Ex.loop (ι:=Nat) (fun k=>[(0,.ptr r 0),(2,.int .i64 ((((w.drop i).take k).foldl capS 0:Nat):Int)),(3,.int .i64 k)]) (fun _=>Y)
  (fun k=>i+k≤w.length∧((w.drop i).takeWhile fun c=>isDig c.toNat).length=k+((w.drop (i+k)).takeWhile fun c=>isDig c.toNat).length) (fun k=>w.length-(i+k)) 0 ⟨by omega,by simp⟩ ?_ (St.ge.refl _) ?_
 ·simp only[go_sem,hr];exact ⟨rfl,rfl⟩
 rintro k ⟨hk1,hk2⟩;refine wpC_ok (V:=[0,2,3,29,61]) _ _ _ _ ?_;have ek:IntKind.i64.wrap ((i:Int)+(k:Int))=((i+k:Nat):Int):=by rw[wrap_in _ (by omega) (by omega)];omega
 have ek1:IntKind.i64.wrap ((k:Int)+1)=((k+1:Nat):Int):=wrap1 k (by omega)
 have part_at:0<((w.drop (i+k)).takeWhile fun c=>isPart c.toNat).length→∃ c,(w.drop i)[k]?=some c∧isPart c.toNat=true:=by
  intro h;rw[List.getElem?_drop];cases hdr:w.drop (i+k) with
  | nil=>rw[hdr] at h;simp at h
  | cons d v =>
   rw[hdr] at h
   have hd:w[i+k]?=some d:=by
    have:=congrArg (·[0]?) hdr;simpa using this
   refine ⟨d,hd,?_⟩;cases hp:isPart (d.toNat:Int) with
   | true=>rfl
   | false=>rw[List.takeWhile_cons_of_neg (p:=fun c:UInt8=>isPart c.toNat) (by simp only[hp];decide)] at h;simp at h
 have part_pos:∀ {c:UInt8},(w.drop i)[k]?=some c→isPart c.toNat=true→0<((w.drop (i+k)).takeWhile fun c=>isPart c.toNat).length:=by
  intro c h1 h2;rw[List.getElem?_drop] at h1;have hlt:=(List.getElem?_eq_some_iff.1 h1).1;rw[List.drop_eq_getElem_cons hlt,(List.getElem?_eq_some_iff.1 h1).2,List.takeWhile_cons_of_pos (p:=fun c:UInt8=>isPart c.toNat) h2];simp
 by_cases hlt:i+k<w.length
 ·have d1:decide (i+k<w.length)=true:=decide_eq_true hlt;obtain ⟨d,v,hdr⟩:∃ d v,w.drop (i+k)=d::v:=⟨_,_,List.drop_eq_getElem_cons hlt⟩
  have hd:w[i+k]?=some d:=by
   have:=congrArg (·[0]?) hdr;simpa using this
  have hdr2:w.drop (i+(k+1))=v:=by
   rw[show i+(k+1)=i+k+1 from rfl,← List.drop_drop,hdr];rfl
  (refine draw_ok (V:=[0,2,3,29,61]) (OT.l [0,1,2,3,4,5,6,7,8,9,10,11,12,13,14,15,16,17,18,19,20,21,22,23,24,25] .nil) [] mixed_cx (by decide +kernel) ?_;simp only[go_sem,hr,ek,d1,hd,hlt]);refine digit193_den _ _ _ _ ?_;simp only[go_sem,hr];cases ho:isDig (d.toNat:Int) with
  | true =>
   have hdg:48≤d.toNat∧d.toNat≤57:=by
    simp only[isDig,gD5,decide_eq_true_eq] at ho;omega
   have hcl:=cap_le ((w.drop i).take k)
   have u1:IntKind.u8.wrap ((d.toNat:Int)-48)=((d.toNat-48:Nat):Int):=by
    have:((d.toNat:Int)-48)=((d.toNat-48:Nat):Int):=by omega
    rw[this];generalize d.toNat-48=z at *;simp[IntKind.wrap,IntKind.signed,IntKind.bits];omega
   have u2:IntKind.i64.wrap ((d.toNat-48:Nat):Int)=((d.toNat-48:Nat):Int):=wrap_in _ (by omega) (by omega);have u3:IntKind.i64.wrap (10 * ((((w.drop i).take k).foldl capS 0:Nat):Int))=((10 * ((w.drop i).take k).foldl capS 0:Nat):Int):=by rw[wrap_in _ (by omega) (by omega)];omega
   have u4:IntKind.i64.wrap (((10 * ((w.drop i).take k).foldl capS 0:Nat):Int)+((d.toNat-48:Nat):Int))=((10 * ((w.drop i).take k).foldl capS 0+(d.toNat-48):Nat):Int):=by rw[wrap_in _ (by omega) (by omega)];omega
   simp only[go_sem,hr,ek,ek1];(refine draw_ok (V:=[0,2,3,29,61]) (OT.l [0,1,2,3,4,5,6,7,8,9,10,11,12,13,14,15,16,17] .nil) [] mixed_cx (by decide +kernel) ?_;simp only[go_sem,hr,ek,hd,hlt,u1,u2,u3,u4]);simp only[go_sem,hr,ek1];refine ⟨k+1,⟨by omega,?_⟩,by omega,⟨?_,rfl⟩,St.ge.refl _⟩
   ·rw[hk2,hdr,List.takeWhile_cons_of_pos (p:=fun c:UInt8=>isDig c.toNat) ho,gC1,hdr2];omega
   ·have et:List.take (k+1) (w.drop i)=(w.drop i).take k++[d]:=by rw[List.take_add_one,List.getElem?_drop,hd];rfl
    rw[et,List.foldl_append];simp only[List.foldl_cons,List.foldl_nil,capS];split<;>omega
  | false =>
   have hm:((w.drop i).takeWhile fun c=>isDig c.toNat).length=k:=by
    rw[hk2,hdr,List.takeWhile_cons_of_neg (p:=fun c:UInt8=>isDig c.toNat) (by simp only[ho];decide)];rfl
   simp only[go_sem,hr,ho]
   have eN:decide ((2147483647:Int)<(((((w.drop i).take k).foldl capS 0:Nat):Int)))=decide (2147483647<numOf ((w.drop i).take k)):=by
    rw[cap_num];congr 1;apply propext;omega
   cases hb:decide (2147483647<numOf ((w.drop i).take k)) with
   | true =>
    simp only[go_sem,hr,eN,hb];rw[← hY];refine fail_cut hf hx hi ?_;simp only[go_sem,hr];exact DK.here (Cut1.bad (num_bad _ (.inl (by rw[hm];exact of_decide_eq_true hb))) hk)
   | false =>
    simp only[go_sem,hr,eN,hb,ek];refine name190_den (i+k) (by simp only[gA1,gA2,gA3,gA6,ne_eq,gA9,reduceIte,hr]<;>(first|done|rfl|assumption)) hx hk1 ?_;simp only[go_sem,hr];by_cases hp:0<((w.drop (i+k)).takeWhile fun c=>isPart c.toNat).length
    ·have d5:decide ((0:Int)<(((w.drop (i+k)).takeWhile fun c=>isPart c.toNat).length:Int))=true:=decide_eq_true (by omega);simp only[go_sem,hr,d5];rw[← hY];refine fail_cut hf hx hi ?_;simp only[go_sem,hr];refine DK.here (Cut1.bad (num_bad _ (.inr ?_)) hk);rw[hm];exact part_at hp
    ·have d5:decide ((0:Int)<(((w.drop (i+k)).takeWhile fun c=>isPart c.toNat).length:Int))=false:=decide_eq_false (by omega);simp only[go_sem,hr,d5];rw[← hY];have hnum:=num_tok (w.drop i) (by rw[hm];rintro (h|⟨c,h1,h2⟩);exact absurd h (of_decide_eq_false hb);exact hp (part_pos h1 h2)) (digits_tw _);rw[hnum,hm] at hk
     have eM:((w.drop i).take k).foldl capS 0=numOf ((w.drop i).take k):=by
      have:=of_decide_eq_false hb;rw[cap_num];omega
     rw[eM];refine add192_den ⟨2,[],numOf ((w.drop i).take k),0,0⟩ k tk acc hn hf hacc hx hk1 hl hc ?_;intro u hu;simp only[go_sem,hr];exact DK.here (hk u hu)
 ·have d1:decide (i+k<w.length)=false:=decide_eq_false hlt
  have hm:((w.drop i).takeWhile fun c=>isDig c.toNat).length=k:=by
   have:i+k=w.length:=by omega
   rw[hk2,this,List.drop_length];rfl
  (refine draw_ok (V:=[0,2,3,29,61]) (OT.l [0,1,2,3,4,5,6,7,8,9,10,11,12,13,14,15,16,17,18,19,20,21,22,23,24,25] .nil) [] mixed_cx (by decide +kernel) ?_;simp only[go_sem,hr,ek,d1])
  have eN:decide ((2147483647:Int)<(((((w.drop i).take k).foldl capS 0:Nat):Int)))=decide (2147483647<numOf ((w.drop i).take k)):=by
   rw[cap_num];congr 1;apply propext;omega
  cases hb:decide (2147483647<numOf ((w.drop i).take k)) with
  | true =>
   simp only[go_sem,hr,eN,hb];rw[← hY];refine fail_cut hf hx hi ?_;simp only[go_sem,hr];exact DK.here (Cut1.bad (num_bad _ (.inl (by rw[hm];exact of_decide_eq_true hb))) hk)
  | false =>
   simp only[go_sem,hr,eN,hb,ek];refine name190_den (i+k) (by simp only[gA1,gA2,gA3,gA6,ne_eq,gA9,reduceIte,hr]<;>(first|done|rfl|assumption)) hx hk1 ?_;simp only[go_sem,hr];by_cases hp:0<((w.drop (i+k)).takeWhile fun c=>isPart c.toNat).length
   ·have d5:decide ((0:Int)<(((w.drop (i+k)).takeWhile fun c=>isPart c.toNat).length:Int))=true:=decide_eq_true (by omega);simp only[go_sem,hr,d5];rw[← hY];refine fail_cut hf hx hi ?_;simp only[go_sem,hr];refine DK.here (Cut1.bad (num_bad _ (.inr ?_)) hk);rw[hm];exact part_at hp
   ·have d5:decide ((0:Int)<(((w.drop (i+k)).takeWhile fun c=>isPart c.toNat).length:Int))=false:=decide_eq_false (by omega);simp only[go_sem,hr,d5];rw[← hY];have hnum:=num_tok (w.drop i) (by rw[hm];rintro (h|⟨c,h1,h2⟩);exact absurd h (of_decide_eq_false hb);exact hp (part_pos h1 h2)) (digits_tw _);rw[hnum,hm] at hk
    have eM:((w.drop i).take k).foldl capS 0=numOf ((w.drop i).take k):=by
     have:=of_decide_eq_false hb;rw[cap_num];omega
    rw[eM];refine add192_den ⟨2,[],numOf ((w.drop i).take k),0,0⟩ k tk acc hn hf hacc hx hk1 hl hc ?_;intro u hu;simp only[go_sem,hr];exact DK.here (hk u hu)
theorem Cut1.mono {KV':St→A→Prop} (h:∀ s,KV s (.tuple [])→KV' s (.tuple [])):∀ {x:Tok × Nat × Bool},Cut1 KV s r w i l c sg tk acc x→Cut1 KV' s r w i l c sg tk acc x
 | (_,_,true),hk=>fun u hu=>h _ (hk u hu)
 | (_,_,false),hk=>h _ hk
def signsR:List Str:=signsW++[[39],[95]]
theorem sign_app (b:UInt8) (v:Str):signTo (b::v) signsR 0=if signTo (b::v) signsW 0=0∧(b=39∨b=95) then 1 else signTo (b::v) signsW 0:=by
 have h1:∀ x:UInt8,hasPre (b::v) [x]=decide (b=x):=fun x=>by simp[hasPre]
 unfold signsR;rw[show signsW++[[39],[95]]=(signsW++[[39]])++[[95]] by simp,signTo_app,signTo_app];simp only[h1,gC1,gC3,decide_eq_true_eq,Nat.zero_add];generalize signTo (b::v) signsW 0=n;rcases Nat.eq_zero_or_pos n with rfl|hp
 ·by_cases h39:b=39
  ·simp[h39]
  ·by_cases h95:b=95
   ·simp[h95]
   ·simp[h39,h95]
 ·simp[show ¬ n<1 by omega,show ¬ n=0 by omega]
theorem isName1 (b:UInt8):isName [b]=isLet b.toNat:=by
 simp only[isName,List.all_cons,List.all_nil,Bool.and_true,gC1,gC3];cases h:isLet (b.toNat:Int) with
 | false=>simp
 | true=>simp[isPart,h]
theorem token105_den (tk2:Option Nat) (hi:i<w.length) (hn:tk=none→acc=[]) (hf:∀ u,tk=some u→s.getT u=none) (hacc:acc.length≤4294967280) (hx:w.length≤4294967280)
  (hl:l≤i+1) (hc:c≤i+1) (hk:Cut1 KV s r w i l c (.list tk2 (signsR.map .str)) tk acc (tokOf (w.drop i) signsW true)):Den cx 105 [.ptr r 0] KV Kp (ctS s r w i l c (.list tk2 (signsR.map .str)) tk acc Fault.none):=by
 have hr:=ctS_getO (s:=s) (r:=r) (w:=w) (i:=i) (l:=l) (c:=c) (sg:=.list tk2 (signsR.map .str)) (tk:=tk) (acc:=acc);obtain ⟨b,v,hw⟩:∃ b v,w.drop i=b::v:=⟨_,_,List.drop_eq_getElem_cons hi⟩
 have hb:w[i]?=some b:=by
  have:=congrArg (·[0]?) hw;simpa using this
 have hwl:(b::v).length=w.length-i:=by rw[← hw,gD4]
 generalize hY:ctS s r w i l c (.list tk2 (signsR.map .str)) tk acc Fault.none=Y at hr ⊢;refine Den.drop ?_;(refine Den.of_body (C:=cx) Tryz.func105 rfl rfl (gC6 rfl) ?_;refine wpC_ok (V:=[0,2,3,4,6,19,20,21,22,34,38,47,57,79,84]) _ _ _ _ ?_;simp only[go_sem,Tryz.ntmps105,Tryz.f105]);(refine draw_ok (V:=[0,2,3,4,6,19,20,21,22,34,38,47,57,79,84]) (OT.l [0,1,2,3,4,5,6,7,8,9] .nil) [] mixed_cx (by decide +kernel) ?_;simp only[go_sem,hr,hb,hi]);refine letter189_den _ _ _ _ ?_;simp only[go_sem,hr];cases hL:isLet (b.toNat:Int) with
 | true =>
  simp only[go_sem,hr];refine name190_den i (by simp only[gA1,gA2,gA3,gA6,ne_eq,gA9,reduceIte,hr]<;>(first|done|rfl|assumption)) hx (Nat.le_of_lt hi) ?_;simp only[go_sem,hr]
  have htok:tokOf (w.drop i) signsW true=(⟨1,(w.drop i).take ((w.drop i).takeWhile fun c=>isPart c.toNat).length,0,0,0⟩,((w.drop i).takeWhile fun c=>isPart c.toNat).length,decide (((w.drop i).takeWhile fun c=>isPart c.toNat).length≤40)):=by
   rw[hw];simp only[tokOf];rw[if_pos (by rw[isName1,hL])]
  rw[htok] at hk;have hle:=tw_le (fun c=>isPart c.toNat) (w.drop i);rw[gD4] at hle;generalize hm:((w.drop i).takeWhile fun c=>isPart c.toNat).length=m at hk hle ⊢;have d40:decide ((40:Int)<(m:Int))=!decide (m≤40):=by rw[← decide_not];congr 1;apply propext;omega
  have em:IntKind.i64.wrap ((i:Int)+(m:Int))=((i+m:Nat):Int):=by rw[wrap_in _ (by omega) (by omega)];omega
  cases h40:decide (m≤40) with
  | false =>
   rw[h40] at hk;simp only[go_sem,hr,d40,h40];rw[← hY];refine fail_cut hf hx hi ?_;simp only[go_sem,hr];exact DK.here hk
  | true =>
   rw[h40] at hk;simp only[go_sem,hr,d40,h40];(refine draw_ok (V:=[0,2,3,4,6,19,20,21,22,34,38,47,57,79,84]) (OT.l [0,1,2,3,4,5,6,7,8,9,10,11,12,13,14,15,16,17,18] .nil) [] mixed_cx (by decide +kernel) ?_;simp only[go_sem,hr,em]);refine ⟨⟨by omega,by omega⟩,?_⟩;rw[show i+m-i=m by omega,← hY];refine add192_den ⟨1,(w.drop i).take m,0,0,0⟩ m tk acc hn hf hacc hx (by omega) hl hc ?_;intro u hu;simp only[go_sem,hr];exact DK.here (hk u hu)
 | false =>
  have hNm:¬ isName [b]=true:=by rw[isName1,hL];decide
  simp only[go_sem,hr];refine digit193_den _ _ _ _ ?_;simp only[go_sem,hr];cases hD:isDig (b.toNat:Int) with
  | true =>
   have htok:tokOf (w.drop i) signsW true=numTok (w.drop i):=by
    rw[hw];simp only[tokOf];rw[if_neg hNm,if_pos hD]
   rw[htok] at hk;simp only[go_sem,hr];rw[← hY];refine number194_den hi hn hf hacc hx hl hc (Cut1.mono (fun s' h=>?_) hk);simp only[go_sem,hr];exact DK.here h
  | false =>
   have n34:decide ((b.toNat:Int)=34)=decide (b=34):=by
    congr 1;apply propext;exact ⟨fun h=>UInt8.toNat_inj.1 (by show b.toNat=34;omega),fun h=>by rw[h];rfl⟩
   by_cases h34:b=34
   ·have d34:decide (b=34)=true:=decide_eq_true h34;simp only[go_sem,hr,n34,d34];rw[← hY];refine text195_den v (by rw[hw,h34]) hn hf hacc hx hl hc signsW true (Cut1.mono (fun s' h=>?_) hk);simp only[go_sem,hr];exact DK.here h
   have d34:decide (b=34)=false:=decide_eq_false h34;simp only[go_sem,hr,n34,d34]
   have htok:tokOf (w.drop i) signsW true=(⟨4,(w.drop i).take (signTo (w.drop i) signsR 0),0,0,0⟩,signTo (w.drop i) signsR 0,decide (0<signTo (w.drop i) signsR 0)):=by
    rw[hw];simp only[tokOf];rw[if_neg hNm,if_neg (by rw[hD];decide),if_neg h34,sign_app];simp only[true_and]
   rw[htok] at hk
   have hsl:∀ j,signTo (w.drop i) (signsR.take j) 0≤w.length-i:=fun j=>by
    have:=signTo_le (w.drop i) (signsR.take j) 0 (Nat.zero_le _);rw[gD4] at this;exact this
   refine Ex.loop (ι:=Nat) (fun j=>[(0,.ptr r 0),(4,.str ((w.drop i).take (signTo (w.drop i) (signsR.take j) 0))),(19,.list tk2 (signsR.map .str)),(20,.int .i64 20),(21,.int .i64 j)]) (fun _=>Y)
    (fun j=>j≤20) (fun j=>20-j) 0 (Nat.zero_le _) ?_ (St.ge.refl _) ?_
   ·simp only[go_sem,hr];exact ⟨rfl,rfl,rfl⟩
   rintro j hj;refine wpC_ok (V:=[0,2,3,4,6,19,20,21,22,34,38,47,57,79,84]) _ _ _ _ ?_
   have hbl:((w.drop i).take (signTo (w.drop i) (signsR.take j) 0)).length=signTo (w.drop i) (signsR.take j) 0:=by
    have:=hsl j;rw[List.length_take,gD4];omega
   have ej:IntKind.i64.wrap ((j:Int)+1)=((j+1:Nat):Int):=wrap1 j (by omega);simp only[go_sem,hr];by_cases hlt:j<20
   ·have d1:decide ((j:Int)<20)=true:=decide_eq_true (by omega);have hj2:j<signsR.length:=hlt;obtain ⟨x,hxj⟩:∃ x,signsR[j]?=some x:=⟨_,List.getElem?_eq_getElem hj2⟩
    have hx40:x.length≤2:=by
     have hm:=List.mem_of_getElem? hxj;have:∀ y∈signsR,y.length≤2:=by decide
     exact this x hm
    have hst:signTo (w.drop i) (signsR.take (j+1)) 0=if signTo (w.drop i) (signsR.take j) 0<x.length∧hasPre (w.drop i) x=true then x.length else signTo (w.drop i) (signsR.take j) 0:=by
     rw[List.take_add_one,hxj];exact signTo_app _ _ _ _
    generalize hn0:signTo (w.drop i) (signsR.take j) 0=n at hbl hst ⊢;simp only[go_sem,hr,d1,hxj,hj2,hbl];by_cases hnx:n<x.length
    ·have d2:decide (n<x.length)=true:=decide_eq_true hnx;simp only[go_sem,hr,d2];refine begins188_den x (by simp only[gA1,gA2,gA3,gA6,ne_eq,gA9,reduceIte,hr]<;>(first|done|rfl|assumption)) hx (Nat.le_of_lt hi) (by omega) ?_;simp only[go_sem,hr];cases hP:hasPre (w.drop i) x with
     | true =>
      rw[if_pos ⟨hnx,hP⟩] at hst;simp only[go_sem,hr,ej];refine ⟨j+1,by omega,by omega,⟨?_,rfl⟩,St.ge.refl _⟩;rw[hst];simp only[hasPre,gD5,decide_eq_true_eq] at hP;exact hP.2.symm
     | false =>
      rw[if_neg (by rw[hP];simp)] at hst;simp only[go_sem,hr,ej];exact ⟨j+1,by omega,by omega,⟨by rw[hst],rfl⟩,St.ge.refl _⟩
    ·have d2:decide (n<x.length)=false:=decide_eq_false hnx;rw[if_neg (fun h=>hnx h.1)] at hst;simp only[go_sem,hr,d2,ej];exact ⟨j+1,by omega,by omega,⟨by rw[hst],rfl⟩,St.ge.refl _⟩
   ·have d1:decide ((j:Int)<20)=false:=decide_eq_false (by omega);obtain rfl:j=20:=by omega
    rw[show signsR.take 20=signsR from rfl] at hbl ⊢;have hsl2:=hsl 20;rw[show signsR.take 20=signsR from rfl] at hsl2;generalize signTo (w.drop i) signsR 0=n at hbl hk hsl2 ⊢;simp only[go_sem,hr,d1];by_cases hz:n=0
    ·have d3:decide (List.take n (w.drop i)=[])=true:=decide_eq_true (by rw[hz];rfl);simp only[go_sem,hr,d3];rw[← hY];refine fail_cut hf hx hi ?_;simp only[go_sem,hr];rw[show decide (0<n)=false from decide_eq_false (by omega)] at hk;exact DK.here hk
    ·have d3:decide (List.take n (w.drop i)=[])=false:=decide_eq_false (fun e=>by rw[e] at hbl;exact hz hbl.symm);simp only[go_sem,hr,d3,hbl];rw[← hY];rw[show decide (0<n)=true from decide_eq_true (by omega)] at hk;refine add192_den ⟨4,(w.drop i).take n,0,0,0⟩ n tk acc hn hf hacc hx (by omega) hl hc ?_;intro u hu;simp only[go_sem,hr];exact DK.here (hk u hu)
end
end Go.AV
end
