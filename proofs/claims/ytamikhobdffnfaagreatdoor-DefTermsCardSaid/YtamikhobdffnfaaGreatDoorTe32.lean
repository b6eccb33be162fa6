/-
  Part of the proof of DefTerms.
-/
import Derived.Test.YtamikhobdffnfaaGreatDoorTe26
import Derived.Test.YtamikhobdffnfaaGreatDoorTe27
import Derived.Test.YtamikhobdffnfaaGreatDoorTe28
import Derived.Test.YtamikhobdffnfaaGreatDoorTe29
import Derived.Test.YtamikhobdffnfaaGreatDoorTe30
import Derived.Test.YtamikhobdffnfaaGreatDoorTe31
import Derived.Test.YtamikhobdffnfaaGreatDoorTe10
import Derived.Test.YtamikhobdffnfaaGreatDoorTe15
import Derived.Test.YtamikhobdffnfaaGreatDoorTe05
import Derived.Test.YtamikhobdffnfaaGreatDoorTe24
import Derived.Test.YtamikhobdffnfaaGreatDoorTe20
set_option linter.all false
set_option maxRecDepth 1000000
set_option maxHeartbeats 40000000
section
namespace Go.AV
open Go Go.Proofs
def eqZL (f:A→A→Bool):List A→List A→Bool
 | [],[]=>true
 | a::l,b::r=>match f a b with
  | true=>eqZL f l r
  | false=>false
 | _,_=>false
def eqZ:Nat→A→A→Bool
 | 0,_,_=>false
 | n+1,a,b=>match a with
  | .int k x=>match b with
   | .int j y=>decide (k=j)&&decide (x=y)
   | _=>false
  | .str x=>match b with
   | .str y=>decide (x=y)
   | _=>false
  | .nils=>match b with
   | .nils=>true
   | _=>false
  | .agg l=>match b with
   | .agg r=>eqZL (eqZ n) l r
   | _=>false
  | .list none l=>match b with
   | .list none r=>eqZL (eqZ n) l r
   | _=>false
  | _=>false
theorem eqZL_ok {f:A→A→Bool} (hf:∀ a b,f a b=true→a=b):∀ {l r:List A},eqZL f l r=true→l=r
 | [],[],_=>rfl
 | a::l,b::r,h=>by
  simp only[eqZL] at h;split at h
  ·rename_i e;rw[hf a b e,eqZL_ok hf h]
  ·cases h
 | [],_::_,h=>by cases h
 | _::_,[],h=>by cases h
theorem eqZ_ok:∀ (n:Nat) (a b:A),eqZ n a b=true→a=b
 | 0,_,_,h=>by cases h
 | n+1,a,b,h=>by
  have ih:=eqZ_ok n;unfold eqZ at h;split at h<;>(try (cases h;done))<;>split at h<;>(try (cases h;done))
  ·simp only[gD5,decide_eq_true_eq] at h;rw[h.1,h.2]
  ·rw[of_decide_eq_true h]
  ·rfl
  ·rw[eqZL_ok ih h]
  ·rw[eqZL_ok ih h]
theorem frzL_lq {xs:List A} (hx:frzL (frz 60) xs=some xs):∀ x,x∈xs→x.lp x:=fun x hx'=>by
 obtain ⟨j,hj,rfl⟩:=List.getElem_of_mem hx';obtain ⟨y,h1,h2⟩:=(frzL_get hx).2 j xs[j] (List.getElem?_eq_getElem hj);rw[List.getElem?_eq_getElem hj] at h1;cases h1;exact frz_ok 60 _ _ h2
def extK (xs:List A) (r:A) (k:CR) (l:List A) (σ:XS):CR:=match eqZL (eqZ 60) l xs with
 | true=>.val r σ
 | false=>k
theorem extK_ok {f:FuncId} {xs:List A} {r:A} {k:CR} (hx:frzL (frz 60) xs=some xs) (hr:frz 60 r=some r) (h:∀ (s:St) (KV Kp:St→A→Prop),KV s r→Den cx f xs KV Kp s)
  {l:List A} {σ:XS} {s:St} {KV Kp:St→A→Prop} (hs:Sim s σ) (hk:k.to KV Kp→Den cxd f l KV Kp s) (hh:(extK xs r k l σ).to KV Kp):Den cxd f l KV Kp s:=by
 unfold extK at hh;split at hh
 ·rename_i e;have e':=eqZL_ok (eqZ_ok 60) e;subst e';exact to_cxd (frzL_lq hx) (frz_ok 60 _ _ hr) (fun KV Kp s hk=>h s KV Kp hk) (hh s hs)
 ·exact hk hh
def awS2:Str:=[108,97,110,103,117,97,103,101,32,101,46,32,115,111,114,116]
def awS3:Str:=[108,97,110,103,117,97,103,101,32,101,46,10,115,111,114,116,32,65,32,66,46]
def awS4:Str:=[102,40,88,58,73,110,116,44,32,91,45,49,32,124,32,76,93,41]
def awS5:Str:=[45,32,53]
def awS6:Str:=[108,97,110,103,117,97,103,101,32,101,46,32,115,116,97,114,116,32,65,46,32,115,116,97,114,116,32,66,46]
def ans15 (l:List A) (σ:XS):CR:=extK [.str awS] (.tuple [awD.enc,Fault.enc ⟨0,[],0,0⟩]) (extK [.str awS2] (.tuple [noDfn.enc,Fault.enc ⟨12,[],1,17⟩]) (extK [.str awS3] (.tuple [noDfn.enc,Fault.enc ⟨11,[66],2,8⟩])
 (extK [.str awS6] (.tuple [noDfn.enc,Fault.enc ⟨14,[115,116,97,114,116],1,22⟩]) .bad l σ) l σ) l σ) l σ
def ans18 (l:List A) (σ:XS):CR:=extK [.str awS4] (.tuple [awT.enc,Fault.enc ⟨0,[],0,0⟩]) (extK [.str awS5] (.tuple [noTm.enc,Fault.enc ⟨11,[53],1,3⟩]) .bad l σ) l σ
def ans23 (l:List A) (σ:XS):CR:=extK [awD.enc] (.tuple [.str awOut,.int .i64 0]) .bad l σ
def ans25 (l:List A) (σ:XS):CR:=extK [awD.enc] (.bool true) .bad l σ
def ans27 (l:List A) (σ:XS):CR:=extK [awD.enc,.str [97],.str [98]] (.tuple [.agg awR,.int .i64 0]) (extK [awD.enc,.str [73,110,116],.str [98]] (.tuple [.agg awZ,.int .i64 2]) .bad l σ) l σ
def ans30 (l:List A) (σ:XS):CR:=extK [awD.enc,awD.enc] (.bool true) (extK [awD.enc,.agg awR] (.bool false) .bad l σ) l σ
def extA (f:FuncId):Option (List A→XS→CR):=match Nat.beq f 15 with
 | true=>some ans15
 | false=>match Nat.beq f 18 with
  | true=>some ans18
  | false=>match Nat.beq f 23 with
   | true=>some ans23
   | false=>match Nat.beq f 25 with
    | true=>some ans25
    | false=>match Nat.beq f 27 with
     | true=>some ans27
     | false=>match Nat.beq f 30 with
      | true=>some ans30
      | false=>extC f
theorem parseK {x:Str} {d:Dfn} {g:Fault} (h:parseS x=(d,g)) (hx:x.length≤4294967280) (s:St) (KV Kp:St→A→Prop) (hk:KV s (.tuple [d.enc,g.enc])):Den cx 15 [.str x] KV Kp s :=
 parse_den x hx (by rw[h];exact hk)
theorem termK {x:Str} {d:Tm} {g:Fault} (h:termS x=(d,g)) (hx:x.length≤4294967280) (s:St) (KV Kp:St→A→Prop) (hk:KV s (.tuple [d.enc,g.enc])):Den cx 18 [.str x] KV Kp s :=
 tterm_den x hx (by rw[h];exact hk)
theorem extA_ok:extOk cxd extA:=by
 intro f h hf l σ s KV Kp hs hh;have bad:(CR.bad).to KV Kp→Den cxd f l KV Kp s:=fun h=>h.elim
 unfold extA at hf;split at hf
 ·rename_i e;obtain rfl:=gC7 e;cases hf
  exact extK_ok (by kernel_rfl) (by kernel_rfl) (parseK aw_1 (by decide)) hs (extK_ok (by kernel_rfl) (by kernel_rfl) (parseK aw_2 (by decide)) hs (extK_ok (by kernel_rfl) (by kernel_rfl) (parseK aw_3 (by decide)) hs
   (extK_ok (by kernel_rfl) (by kernel_rfl) (parseK aw_6 (by decide)) hs bad))) hh
 split at hf
 ·rename_i e;obtain rfl:=gC7 e;cases hf;exact extK_ok (by kernel_rfl) (by kernel_rfl) (termK aw_4 (by decide)) hs (extK_ok (by kernel_rfl) (by kernel_rfl) (termK aw_5 (by decide)) hs bad) hh
 split at hf
 ·rename_i e;obtain rfl:=gC7 e;cases hf;exact extK_ok (by kernel_rfl) (by kernel_rfl) aw23 hs bad hh
 split at hf
 ·rename_i e;obtain rfl:=gC7 e;cases hf;exact extK_ok (by kernel_rfl) (by kernel_rfl) aw25 hs bad hh
 split at hf
 ·rename_i e;obtain rfl:=gC7 e;cases hf;exact extK_ok (by kernel_rfl) (by kernel_rfl) aw27 hs (extK_ok (by kernel_rfl) (by kernel_rfl) aw27z hs bad) hh
 split at hf
 ·rename_i e;obtain rfl:=gC7 e;cases hf;exact extK_ok (by kernel_rfl) (by kernel_rfl) aw30 hs (extK_ok (by kernel_rfl) (by kernel_rfl) aw30r hs bad) hh
 exact extC_ok f h hf l σ s KV Kp hs hh
theorem awake_den (s:St) (KV Kp:St→A→Prop) (hk:KV s (.bool true)):Den cx 14 [] KV Kp s:=by
 have hX:(xpS extA).ok { cx with det:=true }:=xpS_ok extA_ok;exact Den.run (X:=xpS extA) (fuel:=1000000) true hX glS_lp rfl (by kernel_rfl) hk
end Go.AV
end
section
namespace Go.AV
open Go Go.Proofs
def listEq {α:Type} (r:α→α→Bool):List α→List α→Bool
 | [],[]=>true
 | a::xs,b::ys=>r a b&&listEq r xs ys
 | _,_=>false
theorem listEq_len {α:Type} {r:α→α→Bool}:∀ {xs ys:List α},xs.length≠ys.length→listEq r xs ys=false
 | [],[],h=>absurd rfl h
 | [],_::_,_=>rfl
 | _::_,[],_=>rfl
 | a::xs,b::ys,h=>by simp only[listEq,listEq_len (r:=r) (xs:=xs) (ys:=ys) (by simpa using h),Bool.and_false]
theorem listEq_iff {α:Type} {r:α→α→Bool}:∀ {xs ys:List α},xs.length=ys.length→(listEq r xs ys=true↔∀ (i:Nat) (a b:α),xs[i]?=some a→ys[i]?=some b→r a b=true)
 | [],[],_=>by simp[listEq]
 | [],_::_,h=>by simp at h
 | _::_,[],h=>by simp at h
 | a::xs,b::ys,h=>by
  rw[listEq,gD5,listEq_iff (by simpa using h)];constructor
  ·rintro ⟨h1,h2⟩ i x y hx hy;cases i with
   | zero=>simp at hx hy;subst hx;subst hy;exact h1
   | succ i=>exact h2 i x y (by simpa using hx) (by simpa using hy)
  ·intro h;exact ⟨h 0 a b (by simp) (by simp),fun i x y hx hy=>h (i+1) x y (by simpa using hx) (by simpa using hy)⟩
theorem Tm.sames_eq:∀ a b:List Tm,Tm.sames a b=listEq Tm.same a b
 | [],[]=>rfl
 | [],_::_=>rfl
 | _::_,[]=>rfl
 | a::l,b::r=>by rw[Tm.sames,listEq,Tm.sames_eq l r]
theorem Tm.same_eq (a b:Tm):a.same b=(decide (a.kind=b.kind)&&(decide (a.n=b.n)&&(decide (a.text=b.text)&&(decide (a.sort=b.sort)&&(listEq Tm.same a.kids b.kids&&listEq Tm.same a.rest b.rest))))):=by
 cases a;cases b;simp only[Tm.same,Tm.sames_eq,Tm.kind,Tm.n,Tm.text,Tm.sort,Tm.kids,Tm.rest];rfl
theorem Tm.hz6 (a:Tm):∃ cs,a.enc=.agg cs∧cs.length=6∧allOne cs=true:=⟨_,a.enc_eq,rfl,rfl⟩
end Go.AV
end
section
namespace Go.AV
open Go Go.Proofs
theorem sameList47_den (xs ys:List Tm) (s:St) (KV Kp:St→A→Prop) (hf:∀ (a b:Tm) (s':St) (KV Kp:St→A→Prop),a∈xs→KV s' (.bool (a.same b))→Den cx 20 [a.enc,b.enc] KV Kp s')
  (hk:KV s (.bool (listEq Tm.same xs ys))):Den cx 47 [.list none (xs.map Tm.enc),.list none (ys.map Tm.enc)] KV Kp s:=by
 refine Den.rlz fun hz1=>?_
 have hlw:=hz1 _ (List.mem_cons_self ..);refine Den.drop ?_;(refine Den.of_body (C:=cx) Tryz.func47 rfl rfl (gC6 rfl) ?_;refine wpC_ok (V:=[0,1,4,5,10,12,13,14,25]) _ _ _ _ ?_;simp only[go_sem,Tryz.ntmps47,Tryz.f47])
 (first|refine gC8 (fun h=>?_) (fun h=>?_)|refine gC9 (fun h=>?_) (fun h=>?_)|refine gD1 (fun h=>?_) (fun h=>?_))<;>simp only[go_sem,h]
 ·exact DK.here (by rwa[listEq_len (by intro e;simp[e] at h)] at hk)
 ·have hlen:xs.length=ys.length:=by simp at h;omega
  refine Ex.loop (fun i=>[(0,.list none (xs.map Tm.enc)),(1,.list none (ys.map Tm.enc)),(12,.int .i64 xs.length),(13,.int .i64 (i:Nat))]) (fun _=>s)
     (fun i=>i≤xs.length∧∀ (j:Nat) a b,j<i→xs[j]?=some a→ys[j]?=some b→a.same b=true) (fun i=>xs.length-i) 0 ⟨Nat.zero_le _,fun j _ _ hj=>by omega⟩ ?_ (St.ge.refl s) ?_
  ·simp only[go_sem];exact rfl
  ·rintro i ⟨hi,hall⟩;refine wpC_ok (V:=[0,1,4,5,10,12,13,14,25]) _ _ _ _ ?_;simp only[go_sem]
   (first|refine gC8 (fun h=>?_) (fun h=>?_)|refine gC9 (fun h=>?_) (fun h=>?_)|refine gD1 (fun h=>?_) (fun h=>?_))<;>simp only[go_sem,h]
   ·have hix:i<xs.length:=by simpa using h
    have hiy:i<ys.length:=by omega
    obtain ⟨a,ha⟩:∃ a,xs[i]?=some a:=⟨_,List.getElem?_eq_getElem hix⟩
    obtain ⟨b,hb⟩:∃ b,ys[i]?=some b:=⟨_,List.getElem?_eq_getElem hiy⟩
    obtain ⟨ca,ea,la,oa⟩:=Tm.hz6 a;obtain ⟨cb,eb,lb,ob⟩:=Tm.hz6 b;(refine draw_ok (V:=[0,1,4,5,10,12,13,14,25]) (OT.l [0,1,2,3,4,5,6,7,8,9] .nil) [] mixed_cx (by decide +kernel) ?_;simp only[go_sem,ha,hix,hb,hiy])
    have hfa:∀ (KV Kp:St→A→Prop),KV s (.bool (a.same b))→Den cx 20 [.agg a.cs,.agg b.cs] KV Kp s:=fun KV Kp h=>by
     have:=hf a b s KV Kp (List.mem_of_getElem? ha) h
     rwa[Tm.enc_eq,Tm.enc_eq] at this
    refine hfa _ _ ?_;simp only[go_sem]
    (first|refine gC8 (fun h=>?_) (fun h=>?_)|refine gC9 (fun h=>?_) (fun h=>?_)|refine gD1 (fun h=>?_) (fun h=>?_))<;>simp only[go_sem,h]
    ·have hr:a.same b=false:=by simpa using h
     refine DK.here ?_
     have:listEq Tm.same xs ys=false:=by
      rw[Bool.eq_false_iff];intro he;have:=(listEq_iff hlen).1 he i a b ha hb;rw[hr] at this;cases this
     rwa[this] at hk
    ·have hr:a.same b=true:=by simpa using h
     refine ⟨i+1,⟨by omega,fun j x y hj hx hy=>?_⟩,by omega,?_,St.ge.refl _⟩
     ·by_cases hji:j=i
      ·subst hji;rw[ha] at hx;rw[hb] at hy;cases hx;cases hy;exact hr
      ·exact hall j x y (by omega) hx hy
     ·simp only[go_sem,hlw.wrap (i:=i) (by simpa using hix)]
   ·have hix:i=xs.length:=by simp at h;omega
    have:listEq Tm.same xs ys=true:=(listEq_iff hlen).2 fun j x y hx hy=>hall j x y (by rw[hix];exact (List.getElem?_eq_some_iff.1 hx).1) hx hy
    exact DK.here (by rwa[this] at hk)
theorem same20_aux (m:Nat):∀ (a b:Tm) (s:St) (KV Kp),SizeOf.sizeOf a<m→KV s (.bool (a.same b))→Den cx 20 [a.enc,b.enc] KV Kp s:=by
 induction m with
 | zero=>intro a b s KV Kp hm;omega
 | succ m ih =>
 intro a b s KV Kp hm hk;rw[Tm.same_eq] at hk;simp only[go_sem];refine Den.drop ?_;(refine Den.of_body (C:=cx) Tryz.func20 rfl rfl (gC6 rfl) ?_;refine wpC_ok (V:=[0,1,2,3,4]) _ _ _ _ ?_;simp only[go_sem,Tryz.ntmps20,Tryz.f20]);(intro p hp;try simp only[gD6,ne_eq] at hp);simp only[go_sem,hp];(intro q hq;try simp only[gD6,ne_eq] at hq);simp only[go_sem,hp,hq]
 (first|refine gC8 (fun h=>?_) (fun h=>?_)|refine gC9 (fun h=>?_) (fun h=>?_)|refine gD1 (fun h=>?_) (fun h=>?_))<;>simp only[go_sem,h,hp,hq]<;>(try simp only[h,Bool.true_and,Bool.false_and,Bool.and_true,Bool.and_false,Bool.or_true,Bool.true_or,Bool.or_false,Bool.false_or,Bool.not_true,Bool.not_false] at hk)
 ·(first | refine gC8 (fun h => ?_) (fun h => ?_) | refine gC9 (fun h => ?_) (fun h => ?_) | refine gD1 (fun h => ?_) (fun h => ?_)) <;> simp only [go_sem,h,hp,hq] <;> (try simp only [h,Bool.true_and,Bool.false_and,Bool.and_true,Bool.and_false,Bool.or_true,Bool.true_or,Bool.or_false,Bool.false_or,Bool.not_true,Bool.not_false] at hk)
  ·(first | refine gC8 (fun h => ?_) (fun h => ?_) | refine gC9 (fun h => ?_) (fun h => ?_) | refine gD1 (fun h => ?_) (fun h => ?_)) <;> simp only [go_sem,h,hp,hq] <;> (try simp only [h,Bool.true_and,Bool.false_and,Bool.and_true,Bool.and_false,Bool.or_true,Bool.true_or,Bool.or_false,Bool.false_or,Bool.not_true,Bool.not_false] at hk)
   ·(first | refine gC8 (fun h => ?_) (fun h => ?_) | refine gC9 (fun h => ?_) (fun h => ?_) | refine gD1 (fun h => ?_) (fun h => ?_)) <;> simp only [go_sem,h,hp,hq] <;> (try simp only [h,Bool.true_and,Bool.false_and,Bool.and_true,Bool.and_false,Bool.or_true,Bool.true_or,Bool.or_false,Bool.false_or,Bool.not_true,Bool.not_false] at hk)
    ·refine sameList47_den _ _ _ _ _ (fun x y s' KV' Kp' hx h'=>ih x y s' KV' Kp' (by have:=Tm.size_kids hx;omega) h') ?_;simp only[go_sem]
     (first|refine gC8 (fun h=>?_) (fun h=>?_)|refine gC9 (fun h=>?_) (fun h=>?_)|refine gD1 (fun h=>?_) (fun h=>?_))<;>simp only[go_sem,h,hp,hq]<;>(try simp only[h,Bool.true_and,Bool.false_and,Bool.and_true,Bool.and_false,Bool.or_true,Bool.true_or,Bool.or_false,Bool.false_or,Bool.not_true,Bool.not_false] at hk)
     ·refine sameList47_den _ _ _ _ _ (fun x y s' KV' Kp' hx h'=>ih x y s' KV' Kp' (by have:=Tm.size_rest hx;omega) h') ?_;simp only[go_sem];exact DK.st hk (by (repeat (first|exact St.ge.refl _|refine St.ge_set (by simp only[hp,hq]) ?_)))
     ·exact DK.st hk (by (repeat (first|exact St.ge.refl _|refine St.ge_set (by simp only[hp,hq]) ?_)))
    ·exact DK.st hk (by (repeat (first|exact St.ge.refl _|refine St.ge_set (by simp only[hp,hq]) ?_)))
   ·exact DK.st hk (by (repeat (first|exact St.ge.refl _|refine St.ge_set (by simp only[hp,hq]) ?_)))
  ·exact DK.st hk (by (repeat (first|exact St.ge.refl _|refine St.ge_set (by simp only[hp,hq]) ?_)))
 ·exact DK.st hk (by (repeat (first|exact St.ge.refl _|refine St.ge_set (by simp only[hp,hq]) ?_)))
theorem same20_den (a b:Tm) (s:St) (KV Kp) (hk:KV s (.bool (a.same b))):Den cx 20 [a.enc,b.enc] KV Kp s :=
 same20_aux _ a b s KV Kp (Nat.lt_succ_self _) hk
theorem same20_den' (a b:Tm) (s:St) (KV Kp) (hk:KV s (.bool (a.same b))):Den cx 20 [.agg a.cs,.agg b.cs] KV Kp s:=by
 have:=same20_den a b s KV Kp hk
 rwa[Tm.enc_eq,Tm.enc_eq] at this
mutual
theorem Tm.same_self:∀ a:Tm,a.same a=true
 | .mk k n t s l r=>by simp[Tm.same,Tm.sames_self l,Tm.sames_self r]
theorem Tm.sames_self:∀ l:List Tm,Tm.sames l l=true
 | []=>rfl
 | a::l=>by simp[Tm.sames,Tm.same_self a,Tm.sames_self l]
end
end Go.AV
end
section
namespace Go.AV
open Go
section
variable {T:List Tok} {fin:Fault}
theorem inc_mono (q:RQ T):q.at_≤q.inc.at_:=by unfold RQ.inc;split<;>simp
theorem failF_at' (fin:Fault) (code:Int) (p:Nat) (b:Bool) (q:RQ T):(failF fin code p b q).at_=q.at_:=by unfold failF;split<;>rfl
theorem needF_mono (kind:Int) (x:Str) (q:RQ T):q.at_≤(needF fin kind x q).at_:=by
 unfold needF;split
 ·exact inc_mono q
 ·rw[failF_at'];exact Nat.le_refl _
theorem nameF_mono (q:RQ T):q.at_≤(nameF fin q).2.at_:=by
 unfold nameF;split
 ·exact inc_mono q
 ·rw[failF_at'];exact Nat.le_refl _
theorem nodeF_at (deep p:Nat) (q:RQ T):(nodeF fin deep p q).at_=q.at_:=by
 unfold nodeF;simp only;split
 ·split
  ·exact failF_at' _ _ _ _ _
  ·split
   ·exact failF_at' _ _ _ _ _
   ·rfl
 ·rfl
theorem commaF_mono (x:Str) (q:RQ T):q.at_≤(commaF x q).2.at_:=by
 unfold commaF;split
 ·exact inc_mono q
 ·exact Nat.le_refl _
theorem rloop_mono {σ:Type} (x:Str) (body:σ→RQ T→σ × RQ T) (hb:∀ a q,q.at_≤(body a q).2.at_):∀ (f:Nat) (more:Bool) (a:σ) (q:RQ T),q.at_≤(rloop x body f more a q).2.at_
 | 0,more,a,q=>Nat.le_refl _
 | f+1,more,a,q=>by
  unfold rloop;split
  ·exact Nat.le_trans (hb a q) (Nat.le_trans (commaF_mono x _) (rloop_mono x body hb f _ _ _))
  ·exact Nat.le_refl _
theorem restF_mono (sort:Str) (deep:Nat) (q:RQ T):q.at_≤(restF fin sort deep q).2.at_:=by
 unfold restF;split
 ·simp only;rw[nodeF_at];exact Nat.le_trans (inc_mono q) (nameF_mono _)
 ·exact Nat.le_refl _
theorem appF_mono (tm:RQ T→Tm × RQ T) (ht:∀ q,q.at_≤(tm q).2.at_) (name:Str) (q:RQ T):q.at_≤(appF fin tm name q).2.at_:=by
 unfold appF;split
 ·exact Nat.le_trans (inc_mono q) (nameF_mono _)
 ·simp only;refine Nat.le_trans (needF_mono 4 _ q) (Nat.le_trans (rloop_mono _ _ (fun a q=>?_) _ _ _ _) (needF_mono _ _ _));exact ht { q with over:=decide (8≤a.length) }
theorem otherF_mono (tm:RQ T→Tm × RQ T) (ht:∀ q,q.at_≤(tm q).2.at_) (t:Tok) (deep:Nat) (q:RQ T):q.at_≤(otherF fin tm t deep q).2.at_:=by
 unfold otherF;split
 ·split
  ·exact inc_mono q
  ·simp only[failF_at'];exact Nat.le_refl _
 ·split
  ·split
   ·exact nameF_mono q
   ·simp only[failF_at'];exact Nat.le_refl _
  ·split
   ·exact Nat.le_refl _
   ·split
    ·simp only;refine Nat.le_trans ?_ (needF_mono _ _ _);refine Nat.le_trans ?_ (restF_mono _ _ _);refine rloop_mono _ _ (fun a q=>?_) _ _ _ _;exact ht q
    ·simp only;refine Nat.le_trans ?_ (needF_mono _ _ _);refine Nat.le_trans ?_ (restF_mono _ _ _);refine rloop_mono _ _ (fun a q=>?_) _ _ _ _;simp only;refine Nat.le_trans ?_ (ht _);refine Nat.le_trans ?_ (needF_mono _ _ _);exact ht q
theorem termF_mono:∀ (k:Nat) (q:RQ T),q.at_≤(termF fin k q).2.at_
  | 0,q=>by
    unfold termF;split
    · simp only;split
      · rw[failF_at',nodeF_at];exact Nat.le_refl _
      · rw[nodeF_at];exact Nat.le_refl _
    · simp only[failF_at'];exact Nat.le_refl _
  | k+1,q=>by
    have ih:=termF_mono k
    have key:∀ q':RQ T,q.at_=q'.at_→q.at_≤(if q'.ok=true then
         (if q'.tok.kind = 2 then (Tm.mk 1 q'.tok.n [] [] [] [],q'.inc)
          else if q'.tok.kind=3 then (.mk 3 0 q'.tok.text [] [] [],q'.inc)
          else if q'.tok.kind=1 then
            (if q'.tok.text = [116,114,117,101] then (.mk 2 1 [] [] [] [],q'.inc)
             else if q'.tok.text=[102,97,108,115,101] then (.mk 2 0 [] [] [] [],q'.inc)
             else appF fin (termF fin k) q'.tok.text q'.inc)
          else otherF fin (termF fin k) q'.tok (60-k) q'.inc)
       else (noTm,q')).2.at_:=by
      intro q' h;rw[h];split
      · split
        · exact inc_mono q'
        · split
          · exact inc_mono q'
          · split
            · split
              · exact inc_mono q'
              · split
                · exact inc_mono q'
                · exact Nat.le_trans (inc_mono q') (appF_mono _ ih _ _)
            · exact Nat.le_trans (inc_mono q') (otherF_mono _ ih _ _ _)
      · exact Nat.le_refl _
    unfold termF;split
    · simp only
      refine key _ ?_;split
      · rw[failF_at',nodeF_at]
      · rw[nodeF_at]
    · simp only[failF_at'];exact Nat.le_refl _
attribute [local irreducible] RQ.inc failF needF nameF commaF rloop rwhile wholeF limitF onceF integerF
attribute [local irreducible] condsF
attribute [local irreducible] cellF
attribute [local irreducible] piecesF
attribute [local irreducible] attrsF
attribute [local irreducible] opF
attribute [local irreducible] funF
attribute [local irreducible] eqF
attribute [local irreducible] partF
attribute [local irreducible] ruleF
attribute [local irreducible] moreF
attribute [local irreducible] itemF
end
end Go.AV
end
section
namespace Go.AV
open Go
section
variable {T:List Tok} {fin:Fault} {α β σ:Type}
structure At (q:RQ T) (fi:Nat) (w:List Tok) (n:Nat):Prop where
 ok:q.ok=true
 dr:T.drop q.at_=w
 nodes:q.nodes=n
 fst:q.first=fi
 ov:q.over=false
 le:n≤2000
def SimR (fi:Nat):Rd α→α × RQ T→Prop
 | .ok a w n,p=>p.1=a∧At p.2 fi w n
 | .bad f,p=>p.2.f=f∧p.2.ok=false
def Stick (F:RQ T→α × RQ T):Prop:=∀ q,q.ok=false→(F q).2.f=q.f
theorem ok_of_f {q q':RQ T} (h:q.f=q'.f):q.ok=q'.ok:=by unfold RQ.ok;rw[h]
theorem SimR.bind {fi:Nat} {r:Rd α} {p:α × RQ T} {k:α→List Tok→Nat→Rd β} {K:α→RQ T→β × RQ T} (h:SimR fi r p) (hs:Stick (K p.1))
  (hk:∀ w n,r=.ok p.1 w n→At p.2 fi w n→SimR fi (k p.1 w n) (K p.1 p.2)):SimR fi (r.bind k) (K p.1 p.2):=by
 cases r with
 | bad f =>
  have e:=hs p.2 h.2;exact ⟨e.trans h.1,by rw[ok_of_f e];exact h.2⟩
 | ok a w n =>
  obtain ⟨rfl,h2⟩:=h;exact hk w n rfl h2
theorem failF_f {q:RQ T} (code:Int) (p:Nat) (b:Bool) (h:q.ok=false):failF fin code p b q=q:=by unfold failF;rw[h];rfl
theorem isF_off {q:RQ T} (k:Int) (x:Str) (h:q.ok=false):isF k x q=false:=by unfold isF;rw[h];rfl
theorem kindF_off {q:RQ T} (k:Int) (h:q.ok=false):kindF k q=false:=by unfold kindF;rw[h];rfl
theorem namedF_off {q:RQ T} (h:q.ok=false):namedF q=false:=by unfold namedF;rw[h];rfl
theorem beginsF_off {q:RQ T} (h:q.ok=false):beginsF q=false:=by unfold beginsF;simp only[kindF_off _ h,namedF_off h,isF_off _ _ h,Bool.or_self]
theorem needF_off {q:RQ T} (k:Int) (x:Str) (h:q.ok=false):needF fin k x q=q:=by unfold needF;rw[isF_off _ _ h];exact failF_f _ _ _ h
theorem nodeF_off {q:RQ T} (d p:Nat) (h:q.ok=false):(nodeF fin d p q).f=q.f:=by
 unfold nodeF;simp only;have:({ q with nodes:=IntKind.i64.wrap (q.nodes+1) }:RQ T).ok=false:=h;rw[this];rfl
theorem rloop_off {x:Str} {body:σ→RQ T→σ × RQ T} (f:Nat) (more:Bool) (a:σ) {q:RQ T} (h:q.ok=false):rloop x body f more a q=(a,q):=by
 cases f with
 | zero=>rfl
 | succ f=>unfold rloop;rw[h,Bool.and_false];rfl
theorem restF_off {q:RQ T} (sort:Str) (d:Nat) (h:q.ok=false):restF fin sort d q=([],q):=by unfold restF;rw[isF_off _ _ h];rfl
theorem termF_off {q:RQ T} (k:Nat) (h:q.ok=false):(termF fin k q).2=q:=by
 cases k with
 | zero=>unfold termF;rw[beginsF_off h,if_neg (by decide)];exact failF_f _ _ _ h
 | succ k=>unfold termF;rw[beginsF_off h,if_neg (by decide)];exact failF_f _ _ _ h
theorem at_tok {q:RQ T} {fi n:Nat} {t:Tok} {w:List Tok} (h:At q fi (t::w) n):q.at_<T.length∧q.tok=t∧T[q.at_]?=some t∧T.drop (q.at_+1)=w:=by
 have hd:=h.dr
 have hlt:q.at_<T.length:=by
  have:=congrArg List.length hd;rw[gD4,gC1] at this;omega
 have hg:T[q.at_]?=some t:=by
  have:=congrArg (·[0]?) hd;simpa using this
 refine ⟨hlt,by unfold RQ.tok;rw[hg];rfl,hg,?_⟩;rw[← List.drop_drop,hd];rfl
theorem at_nil {q:RQ T} {fi n:Nat} (h:At q fi [] n):¬ q.at_<T.length:=by
 have:=congrArg List.length h.dr;rw[gD4,gC3] at this;omega
theorem at_none {q:RQ T} {fi n:Nat} (h:At q fi [] n):T[q.at_]?=none:=List.getElem?_eq_none (by have:=at_nil h;omega)
theorem inc_at {q:RQ T} {fi n:Nat} {t:Tok} {w:List Tok} (h:At q fi (t::w) n):At q.inc fi w n∧q.inc.at_=q.at_+1:=by
 obtain ⟨h1,h2,h3,h4⟩:=at_tok h;have e:q.inc={ q with at_:=q.at_+1,le:=h1 }:=by unfold RQ.inc;rw[dif_pos h1]
 rw[e];exact ⟨⟨h.ok,h4,h.nodes,h.fst,h.ov,h.le⟩,rfl⟩
theorem fail_at {q:RQ T} {fi n:Nat} {w:List Tok} (h:At q fi w n) (code:Int) (hc:code≠0) (hfin:fin.code≠0):(failF fin code q.at_ true q).f=failAt fin code w∧(failF fin code q.at_ true q).ok=false:=by
 have e:(failF fin code q.at_ true q).f=failAt fin code w:=by
  unfold failF;rw[if_pos h.ok];cases w with
  | nil=>simp only[at_none h];rfl
  | cons t w=>simp only[(at_tok h).2.2.1];rfl
 refine ⟨e,?_⟩;unfold RQ.ok;rw[e];refine decide_eq_false ?_;cases w with
 | nil=>exact hfin
 | cons t w=>exact hc
theorem isF_nil {q:RQ T} {fi n:Nat} (h:At q fi [] n) (k:Int) (x:Str):isF k x q=false:=by unfold isF;rw[show decide (q.at_<T.length)=false from decide_eq_false (at_nil h)];simp
theorem isF_cons {q:RQ T} {fi n:Nat} {t:Tok} {w:List Tok} (h:At q fi (t::w) n) (k:Int) (x:Str):isF k x q=(decide (t.kind=k)&&decide (t.text=x)):=by
 obtain ⟨h1,h2,_⟩:=at_tok h;unfold isF;rw[h.ok,h2,show decide (q.at_<T.length)=true from decide_eq_true h1];simp
theorem kindF_nil {q:RQ T} {fi n:Nat} (h:At q fi [] n) (k:Int):kindF k q=false:=by unfold kindF;rw[show decide (q.at_<T.length)=false from decide_eq_false (at_nil h)];simp
theorem kindF_cons {q:RQ T} {fi n:Nat} {t:Tok} {w:List Tok} (h:At q fi (t::w) n) (k:Int):kindF k q=decide (t.kind=k):=by
 obtain ⟨h1,h2,_⟩:=at_tok h;unfold kindF;rw[h.ok,h2,show decide (q.at_<T.length)=true from decide_eq_true h1];simp
theorem namedF_nil {q:RQ T} {fi n:Nat} (h:At q fi [] n):namedF q=false:=by unfold namedF;rw[show decide (q.at_<T.length)=false from decide_eq_false (at_nil h)];simp
theorem namedF_cons {q:RQ T} {fi n:Nat} {t:Tok} {w:List Tok} (h:At q fi (t::w) n):namedF q=t.free:=by
 obtain ⟨h1,h2,_⟩:=at_tok h;unfold namedF Tok.free;rw[h.ok,h2,show decide (q.at_<T.length)=true from decide_eq_true h1];simp
def signX (x:Str):Prop:=∀ c r,x=c::r→isLet c.toNat=false
theorem isTok_sign {N:Nat} {t:Tok} (ht:TokW N t) {x:Str} (hx:signX x) (hne:x≠[]):isTok t x=(decide (t.kind=4)&&decide (t.text=x)):=by
 unfold isTok;by_cases h1:t.kind=1
 ·rcases ht.kind with ⟨_,c,r,e,hl⟩|⟨h,_⟩|h|⟨h,_⟩
  ·have:¬ t.text=x:=by
    rintro rfl;have:=hx c r e;rw[hl] at this;cases this
   simp[this]
  ·omega
  ·omega
  ·omega
 ·simp[h1]
variable {N fi:Nat} {first:Tok} {q:RQ T} {w:List Tok} {n:Nat}
theorem at_mem {t:Tok} (h:At q fi (t::w) n):t∈T:=List.mem_of_getElem? (at_tok h).2.2.1
theorem need_sim (hW:∀ t,t∈T→TokW N t) (hfin:fin.code≠0) (x:Str) (hx:signX x) (hne:x≠[]) (h:At q fi w n):SimR fi (wantR fin x w n) ((),needF fin 4 x q):=by
 cases w with
 | nil =>
  simp only[wantR,isT,gD7,if_false,needF,isF_nil h];exact fail_at h 11 (by decide) hfin
 | cons t w =>
  simp only[wantR,isT,needF,isF_cons h,isTok_sign (hW t (at_mem h)) hx hne];by_cases hc:(decide (t.kind=4)&&decide (t.text=x))=true
  ·simp only[hc,if_true];exact ⟨rfl,(inc_at h).1⟩
  ·simp only[hc,if_false];exact fail_at h 11 (by decide) hfin
theorem name_sim (hfin:fin.code≠0) (h:At q fi w n):SimR fi (nameR fin w n) (nameF fin q):=by
 cases w with
 | nil =>
  simp only[nameR,nameF,namedF_nil h,gD7,if_false];exact fail_at h 11 (by decide) hfin
 | cons t w =>
  simp only[nameR,nameF,namedF_cons h];by_cases hc:t.free=true
  ·simp only[hc,if_true,(at_tok h).2.1];exact ⟨rfl,(inc_at h).1⟩
  ·simp only[hc,if_false];exact fail_at h 11 (by decide) hfin
theorem SimR.ok {a:α} (h:At q fi w n):SimR fi (.ok a w n) (a,q):=⟨rfl,h⟩
theorem loop_sim (hW:∀ t,t∈T→TokW N t) (x:Str) (hx:signX x) (hne:x≠[]) {one:σ→List Tok→Nat→Rd σ} {body:σ→RQ T→σ × RQ T} (I:σ→Prop)
  (hb:∀ a q w n,I a→At q fi w n→SimR fi (one a w n) (body a q)∧∀ a' w' n',one a w n=.ok a' w' n'→w'.length<w.length∧I a') :
  ∀ (f g:Nat) (a:σ) (q:RQ T) (w:List Tok) (n:Nat),w.length<f→w.length<g→I a→At q fi w n→SimR fi (loopR fin x one f a w n) (rloop x body g true a q)
 | 0,g,a,q,w,n,hf,_,_,_=>by omega
 | f+1,0,a,q,w,n,_,hg,_,_=>by omega
 | f+1,g+1,a,q,w,n,hf,hg,hI,h=>by
  obtain ⟨h1,h2⟩:=hb a q w n hI h
  have e:rloop x body (g+1) true a q=rloop x body g (commaF x (body a q).2).1 (body a q).1 (commaF x (body a q).2).2:=by
   conv=>lhs;unfold rloop
   rw[h.ok];rfl
  rw[e];simp only[loopR];cases ho:one a w n with
  | bad fl =>
   rw[ho] at h1;simp only[Rd.bind];have ec:commaF x (body a q).2=(false,(body a q).2):=by unfold commaF;rw[isF_off _ _ h1.2];rfl
   rw[ec,rloop_off _ _ _ h1.2];exact h1
  | ok a' w' n' =>
   rw[ho] at h1;obtain ⟨e1,h3⟩:=h1;obtain ⟨h4,h5⟩:=h2 a' w' n' ho;simp only[Rd.bind]
   have stop:∀ q',rloop x body g false a' q'=(a',q'):=fun q'=>by cases g with
    | zero=>rfl
    | succ g=>unfold rloop;rfl
   cases w' with
   | nil =>
    have ec:commaF x (body a q).2=(false,(body a q).2):=by unfold commaF;rw[isF_nil h3];rfl
    rw[ec,e1];simp only[isT,gD7,if_false,stop];exact ⟨rfl,h3⟩
   | cons t w' =>
    simp only[isT];have et:=isTok_sign (hW t (at_mem h3)) hx hne;by_cases hc:(decide (t.kind=4)&&decide (t.text=x))=true
    ·have ec:commaF x (body a q).2=(true,(body a q).2.inc):=by unfold commaF;rw[isF_cons h3,if_pos hc]
     rw[ec,e1];simp only[et,hc,if_true,List.tail_cons];simp only[gC1] at h4;exact loop_sim hW x hx hne I hb f g a' _ w' n' (by omega) (by omega) h5 (inc_at h3).1
    ·have ec:commaF x (body a q).2=(false,(body a q).2):=by unfold commaF;rw[isF_cons h3,if_neg hc]
     rw[ec,e1];simp only[et,hc,if_false,stop];exact ⟨rfl,h3⟩
theorem node_sim (hF:T[fi]?=some first) (d p:Nat) (hd:d≤60) (h:At q fi w n):SimR fi (nodeR first w n) ((),nodeF fin d p q):=by
 have hw:IntKind.i64.wrap (q.nodes+1)=((n+1:Nat):Int):=by rw[h.nodes];have:=h.le;rw[wrap_in _ (by omega) (by omega)];omega
 have hok:({ q with nodes:=((n+1:Nat):Int) }:RQ T).ok=true:=h.ok;unfold nodeF nodeR;simp only[hw,hok,if_true];rw[if_neg (show ¬ 60<d by omega)];by_cases hc:2000<n+1
 ·rw[if_pos hc,if_pos (show (2000:Int)<((n+1:Nat):Int) by omega)]
  have e:(failF fin 3 q.first false ({ q with nodes:=((n+1:Nat):Int) }:RQ T)).f=⟨3,[],first.line,first.col⟩:=by
   unfold failF;rw[if_pos hok,h.fst];simp only[hF];rfl
  exact ⟨e,by unfold RQ.ok;rw[e];rfl⟩
 ·rw[if_neg hc,if_neg (show ¬ (2000:Int)<((n+1:Nat):Int) by omega)];exact ⟨rfl,⟨h.ok,h.dr,rfl,h.fst,h.ov,by omega⟩⟩
theorem begins_sim (hW:∀ t,t∈T→TokW N t) {t:Tok} (h:At q fi (t::w) n):beginsF q=t.begins:=by
 unfold beginsF;simp only[kindF_cons h,namedF_cons h,isF_cons h];unfold Tok.begins Tok.free;rcases (hW t (at_mem h)).kind with ⟨hk,c,r,e,hl⟩|⟨hk,_⟩|hk|⟨hk,_⟩
 ·simp[hk]
 ·simp[hk]
 ·simp[hk]
 ·simp only[hk];simp;cases decide (t.text=[36])<;>cases decide (t.text=[91])<;>cases decide (t.text=[123])<;>rfl
theorem begins_nil (h:At q fi [] n):beginsF q=false:=by
 unfold beginsF;simp only[kindF_nil h,namedF_nil h,isF_nil h,Bool.or_self]
theorem rest_sim (hW:∀ t,t∈T→TokW N t) (hfin:fin.code≠0) (hF:T[fi]?=some first) (sort:Str) (k:Nat) (hk:k<60) (h:At q fi w n):SimR fi (restR fin first (decide (k=0)) sort w n) (restF fin sort (60-k) q):=by
 cases w with
 | nil =>
  simp only[restR,isT,gD7,if_false,restF,isF_nil h];exact SimR.ok h
 | cons t w =>
  simp only[restR,isT,restF,isF_cons h,isTok_sign (hW t (at_mem h)) (x:=[124]) (by rintro c r e;cases e;decide) (by decide),List.tail_cons];by_cases hc:(decide (t.kind=4)&&decide (t.text=[124]))=true
  ·simp only[hc,if_true];obtain ⟨h1,_⟩:=inc_at h;have hn:=name_sim (fin:=fin) hfin h1;cases w with
   | nil =>
    simp only[nameR] at hn;have e:=nodeF_off (fin:=fin) (60-k+1) q.inc.at_ hn.2;exact ⟨e.trans hn.1,by rw[ok_of_f e];exact hn.2⟩
   | cons u w =>
    simp only[nameR] at hn ⊢;by_cases hu:u.free=true
    ·simp only[hu,if_true] at hn ⊢;obtain ⟨e1,h2⟩:=hn;by_cases hk0:k=0
     ·simp only[hk0,decide_true,if_true]
      have hku:u.kind=1:=by
       unfold Tok.free at hu;simp only[gD5,decide_eq_true_eq] at hu;exact hu.1
      have e:(nodeF fin (60-k+1) q.inc.at_ (nameF fin q.inc).2).f=⟨19,u.text,u.line,u.col⟩:=by
       unfold nodeF;have hok:({ (nameF fin q.inc).2 with nodes:=IntKind.i64.wrap ((nameF fin q.inc).2.nodes+1) }:RQ T).ok=true:=h2.ok;simp only[hok,if_true];rw[if_pos (by omega)];unfold failF;rw[if_pos hok];simp only[(at_tok h1).2.2.1,Tok.name,hku,if_true];rfl
      rw[hk0] at e;exact ⟨e,by unfold RQ.ok;rw[e];rfl⟩
     ·simp only[hk0,decide_false,gD7,if_false];have hnd:=node_sim (fin:=fin) hF (60-k+1) q.inc.at_ (by omega) h2;rw[← e1];cases hr:nodeR first w n with
      | bad f=>rw[hr] at hnd;exact hnd
      | ok a w' n'=>rw[hr] at hnd;exact ⟨rfl,hnd.2⟩
    ·simp only[hu,if_false] at hn ⊢;have e:=nodeF_off (fin:=fin) (60-k+1) q.inc.at_ hn.2;exact ⟨e.trans hn.1,by rw[ok_of_f e];exact hn.2⟩
  ·simp only[hc,if_false];exact SimR.ok h
theorem term0_bad (lk:Bool) (w:List Tok) (n:Nat):∃ f,termR lk fin first 0 w n=.bad f:=by
 cases w with
 | nil=>exact ⟨_,rfl⟩
 | cons t w =>
  simp only[termR];split
  ·exact ⟨_,rfl⟩
  ·exact ⟨_,rfl⟩
def TmSim (fin:Fault) (fi:Nat) (tm1:List Tok→Nat→Rd Tm) (tm:RQ T→Tm × RQ T):Prop :=
 ∀ q w n,At q fi w n→SimR fi (tm1 w n) (tm q)∧∀ a' w' n',tm1 w n=.ok a' w' n'→w'.length<w.length
theorem one_sim {tm1:List Tok→Nat→Rd Tm} {tm:RQ T→Tm × RQ T} (h:SimR fi (tm1 w n) (tm q)) (acc:List Tm) :
  SimR fi ((tm1 w n).bind fun a w n=>.ok (acc++[a]) w n) (acc++[(tm q).1],(tm q).2):=by
 cases hr:tm1 w n with
 | bad f=>rw[hr] at h;exact h
 | ok a w' n'=>rw[hr] at h;exact ⟨by rw[h.1],h.2⟩
theorem fail_over (c:Int) (p:Nat) (b o:Bool):(failF fin c p b ({ q with over:=o }:RQ T)).f=(failF fin c p b q).f:=by
 unfold failF;have e:({ q with over:=o }:RQ T).ok=q.ok:=rfl;rw[e];split<;>rfl
theorem kid_sim (hW:∀ t,t∈T→TokW N t) (hfin:fin.code≠0) (hF:T[fi]?=some first) (k:Nat) (hk:k<60) (htm:TmSim (T:=T) fin fi (termR true fin first k) (termF fin k)) (acc:List Tm) (hacc:acc.length≤8∧(k=0→acc=[])) (h:At q fi w n) :
  SimR fi ((kidR true fin first (termR true fin first k) acc w n).bind fun a w n=>.ok (acc++[a]) w n)
   (acc++[(termF fin k { q with over:=decide (8≤acc.length) }).1],(termF fin k { q with over:=decide (8≤acc.length) }).2) ∧
  ∀ a' w' n',((kidR true fin first (termR true fin first k) acc w n).bind fun a w n=>.ok (acc++[a]) w n)=.ok a' w' n'→w'.length<w.length∧(a'.length≤8∧(k=0→a'=[])):=by
 by_cases h8:acc.length=8
 ·have hk0:k≠0:=fun e=>by have:=hacc.2 e;rw[this] at h8;cases h8
  obtain ⟨k',rfl⟩:∃ k',k=k'+1:=⟨k-1,by omega⟩
  have d8:decide (8≤acc.length)=true:=decide_eq_true (by omega);rw[d8]
  have bad:∀ f,kidR true fin first (termR true fin first (k'+1)) acc w n=.bad f→(termF fin (k'+1) ({ q with over:=true }:RQ T)).2.f=f→f.code≠0→SimR fi ((kidR true fin first (termR true fin first (k'+1)) acc w n).bind fun a w n=>.ok (acc++[a]) w n)
   (acc++[(termF fin (k'+1) ({ q with over:=true }:RQ T)).1],(termF fin (k'+1) ({ q with over:=true }:RQ T)).2) ∧
   ∀ a' w' n',((kidR true fin first (termR true fin first (k'+1)) acc w n).bind fun a w n=>.ok (acc++[a]) w n)=.ok a' w' n'→w'.length<w.length∧(a'.length≤8∧(k'+1=0→a'=[])):=by
   intro f h1 h2 h3;rw[h1];refine ⟨⟨h2,?_⟩,fun a' w' n' e=>by cases e⟩;unfold RQ.ok;rw[h2];exact decide_eq_false h3
  cases w with
  | nil =>
   refine bad fin (by simp only[kidR,h8,if_true]) ?_ hfin;have hb:beginsF ({ q with over:=true }:RQ T)=false:=begins_nil (q:=q) h;unfold termF;rw[hb,if_neg (by decide)];exact (fail_over _ _ _ _).trans (fail_at (fin:=fin) h 11 (by decide) hfin).1
  | cons t w =>
   have hb:beginsF ({ q with over:=true }:RQ T)=t.begins:=begins_sim (q:=q) hW h;have hle:=h.le;cases hbt:t.begins with
   | false =>
    rw[hbt] at hb;refine bad (failAt fin 11 (t::w)) (by simp only[kidR,h8,if_true,hbt,gD7,if_false,termR]) ?_ (show (11:Int)≠0 by decide);unfold termF;rw[hb,if_neg (by decide)];exact (fail_over _ _ _ _).trans (fail_at (fin:=fin) h 11 (by decide) hfin).1
   | true =>
    rw[hbt] at hb;have hw:IntKind.i64.wrap (q.nodes+1)=((n+1:Nat):Int):=by rw[h.nodes,wrap_in _ (by omega) (by omega)];omega
    have hok:({ q with over:=true,nodes:=((n+1:Nat):Int) }:RQ T).ok=true:=h.ok;by_cases h2:2000≤n
    ·refine bad ⟨3,[],first.line,first.col⟩ (by simp only[kidR,h8,if_true,hbt,true_and,h2]) ?_ (show (3:Int)≠0 by decide)
     have e:(nodeF fin (60-k') q.at_ ({ q with over:=true }:RQ T)).f=⟨3,[],first.line,first.col⟩:=by
      unfold nodeF;simp only[hw,hok,if_true];rw[if_neg (by omega),if_pos (by omega)];unfold failF;rw[if_pos hok];simp only[h.fst,hF];rfl
     have e2:(nodeF fin (60-k') q.at_ ({ q with over:=true }:RQ T)).ok=false:=by unfold RQ.ok;rw[e];rfl
     unfold termF;rw[hb,if_pos rfl];simp only
     have e3:∀ q':RQ T,q'.ok=false→(if q'.over=true then failF fin 3 q'.at_ false q' else q')=q':=fun q' hq=>by
      split
      ·exact failF_f _ _ _ hq
      ·rfl
     rw[e3 _ e2,e2];exact e
    ·refine bad ⟨3,[],t.line,t.col⟩ (by simp only[kidR,h8,if_true,hbt,h2,and_false,if_false]) ?_ (show (3:Int)≠0 by decide)
     have e:nodeF fin (60-k') q.at_ ({ q with over:=true }:RQ T)={ q with over:=true,nodes:=((n+1:Nat):Int) }:=by
      unfold nodeF;simp only[hw,hok,if_true];rw[if_neg (by omega),if_neg (by omega)]
     unfold termF;rw[hb,if_pos rfl];simp only[e,if_true]
     have e4:(failF fin 3 q.at_ false ({ q with over:=true,nodes:=((n+1:Nat):Int) }:RQ T)).f=⟨3,[],t.line,t.col⟩:=by
      unfold failF;rw[if_pos hok];simp only[(at_tok h).2.2.1];rfl
     have e5:(failF fin 3 q.at_ false ({ q with over:=true,nodes:=((n+1:Nat):Int) }:RQ T)).ok=false:=by unfold RQ.ok;rw[e4];rfl
     rw[e5];exact e4
 ·have d8:decide (8≤acc.length)=false:=decide_eq_false (by omega);rw[d8];have hq:({ q with over:=false }:RQ T)=q:=by have:=h.ov;cases q;simp only at this;subst this;rfl
  rw[hq];have ek:kidR true fin first (termR true fin first k) acc w n=termR true fin first k w n:=by simp only[kidR,h8,if_false]
  rw[ek];obtain ⟨h1,h2⟩:=htm q w n h;refine ⟨one_sim h1 acc,fun a' w' n' e=>?_⟩;cases hr:termR true fin first k w n with
  | bad f=>rw[hr] at e;cases e
  | ok a w2 n2 =>
   rw[hr] at e;cases e;refine ⟨h2 a _ _ hr,by rw[gC2];simp only[gC1,gC3];omega,fun e0=>?_⟩;subst e0;obtain ⟨f,hf⟩:=term0_bad (fin:=fin) (first:=first) true w n;rw[hf] at hr;cases hr
theorem isT_sim (hW:∀ t,t∈T→TokW N t) (x:Str) (hx:signX x) (hne:x≠[]) (h:At q fi w n):isF 4 x q=isT x w:=by
 cases w with
 | nil=>rw[isF_nil h];rfl
 | cons t w=>rw[isF_cons h];simp only[isT,isTok_sign (hW t (at_mem h)) hx hne]
theorem tail_at {x:Str} (h:At q fi w n) (hx:isT x w=true):At q.inc fi w.tail n∧q.inc.at_=q.at_+1:=by
 cases w with
 | nil=>cases hx
 | cons t w=>exact inc_at h
theorem close_sim (hW:∀ t,t∈T→TokW N t) (hfin:fin.code≠0) (x:Str) (hx:signX x) (hne:x≠[]) (a:α) (h:At q fi w n):SimR fi ((wantR fin x w n).bind fun _ w n=>.ok a w n) (a,needF fin 4 x q):=by
 have h1:=need_sim (fin:=fin) hW hfin x hx hne h;cases hr:wantR fin x w n with
 | bad f=>rw[hr] at h1;exact h1
 | ok u w' n'=>rw[hr] at h1;exact ⟨rfl,h1.2⟩
theorem loop_all (hW:∀ t,t∈T→TokW N t) {one:σ→List Tok→Nat→Rd σ} {body:σ→RQ T→σ × RQ T} (I:σ→Prop) (a:σ) (hI:I a)
  (hb:∀ a q w n,I a→At q fi w n→SimR fi (one a w n) (body a q)∧∀ a' w' n',one a w n=.ok a' w' n'→w'.length<w.length∧I a') (h:At q fi w n) :
  SimR fi (loopR fin [44] one (w.length+1) a w n) (rloop [44] body (T.length+2) true a q):=by
 refine loop_sim hW [44] (by rintro c r e;cases e;decide) (by decide) I hb _ _ a q w n (by omega) ?_ hI h;have:=congrArg List.length h.dr;rw[gD4] at this;omega
theorem app_sim (hW:∀ t,t∈T→TokW N t) (hfin:fin.code≠0) (hF:T[fi]?=some first) (k:Nat) (hk:k<60) (htm:TmSim (T:=T) fin fi (termR true fin first k) (termF fin k)) (t:Tok)
    (ht:¬ t.text=[116,114,117,101]) (hf:¬ t.text=[102,97,108,115,101]) (h:At q fi w n):SimR fi (namedR true fin first (termR true fin first k) t w n) (appF fin (termF fin k) t.text q):=by
  have s1:∀ c:UInt8,isLet c.toNat=false→signX [c]:=fun c hc d r e=>by cases e;exact hc
  unfold appF namedR;rw[if_neg ht,if_neg hf,isT_sim hW [58] (s1 58 (by decide)) (by decide) h];by_cases hc:isT [58] w=true
  · rw[if_pos hc,if_pos hc]
    obtain ⟨h1,_⟩:=tail_at h hc;exact SimR.bind (p:=nameF fin q.inc) (K:=fun x q=>(Tm.mk 6 0 t.text x [] [],q)) (name_sim hfin h1) (fun q _=>rfl) (fun w n _ h2=>SimR.ok h2)
  · rw [if_neg hc,if_neg hc]
    refine SimR.bind (p:=((),needF fin 4 [40] q)) (K:=fun (_:Unit) (q:RQ T) =>
      ((Tm.mk 5 0 t.text [] (rloop [44] (fun (l : List Tm) q => (l ++ [(termF fin k { q with over := decide (8 ≤ l.length) }).1],(termF fin k { q with over := decide (8 ≤ l.length) }).2)) (T.length + 2) (!isF 4 [41] q) [] q).1 []),
        needF fin 4 [41] (rloop [44] (fun (l:List Tm) q=>(l++[(termF fin k { q with over:=decide (8≤l.length) }).1],(termF fin k { q with over:=decide (8≤l.length) }).2)) (T.length+2) (!isF 4 [41] q) [] q).2))
      (need_sim hW hfin [40] (s1 40 (by decide)) (by decide) h) (fun q hq=>by simp only[rloop_off _ _ _ hq,needF_off _ _ hq]) (fun w n _ h2=>?_)
    simp only;rw[isT_sim hW [41] (s1 41 (by decide)) (by decide) h2];by_cases hc2:isT [41] w=true
    · rw[if_pos hc2,hc2]
      have e:∀ body:List Tm→RQ T→List Tm × RQ T,rloop [44] body (T.length+2) (!true) [] (needF fin 4 [40] q)=([],needF fin 4 [40] q):=fun body=>by unfold rloop;rfl
      rw[e];have h3:=close_sim (fin:=fin) hW hfin [41] (s1 41 (by decide)) (by decide) (Tm.mk 5 0 t.text [] [] []) h2;have e2:wantR fin [41] w n=.ok () w.tail n:=by unfold wantR;rw[if_pos hc2]
      rw[e2] at h3;exact h3
    · rw[if_neg hc2,show isT [41] w=false by simpa using hc2]
      have h3:=loop_all (fin:=fin) hW (fun l:List Tm=>l.length≤8∧(k=0→l=[])) [] ⟨by simp,fun _=>rfl⟩ (fun a q w n hI hq=>kid_sim hW hfin hF k hk htm a hI hq) h2;exact SimR.bind (K:=fun l q=>(Tm.mk 5 0 t.text [] l [],needF fin 4 [41] q)) h3 (fun q hq=>by show (needF fin 4 [41] q).f=q.f;rw[needF_off _ _ hq]) (fun w n _ h4=>close_sim hW hfin [41] (s1 41 (by decide)) (by decide) _ h4)
theorem list_sim {tm1:List Tok→Nat→Rd Tm} {tm:RQ T→Tm × RQ T} (htm:TmSim fin fi tm1 tm) (a:List Tm) (q:RQ T) (w:List Tok) (n:Nat) (h:At q fi w n) :
  SimR fi ((tm1 w n).bind fun b w n=>.ok (a++[b]) w n) (a++[(tm q).1],(tm q).2)∧∀ a' w' n',((tm1 w n).bind fun b w n=>.ok (a++[b]) w n)=.ok a' w' n'→w'.length<w.length∧True:=by
 obtain ⟨h1,h2⟩:=htm q w n h;refine ⟨one_sim h1 a,fun a' w' n' e=>⟨?_,trivial⟩⟩;cases hr:tm1 w n with
 | bad f=>rw[hr] at e;cases e
 | ok b w2 n2=>rw[hr] at e;cases e;exact h2 b _ _ hr
theorem entry_sim (hW:∀ t,t∈T→TokW N t) (hfin:fin.code≠0) {tm1:List Tok→Nat→Rd Tm} {tm:RQ T→Tm × RQ T} (htm:TmSim fin fi tm1 tm) (hs:∀ q,q.ok=false→(tm q).2.f=q.f) (a:List Tm) (q:RQ T) (w:List Tok) (n:Nat) (h:At q fi w n) :
  SimR fi (entR fin tm1 a w n) (a++[(tm q).1]++[(tm (needF fin 4 [45,62] (tm q).2)).1],(tm (needF fin 4 [45,62] (tm q).2)).2)∧∀ a' w' n',entR fin tm1 a w n=.ok a' w' n'→w'.length<w.length∧True:=by
 obtain ⟨h1,h2⟩:=htm q w n h;have sg:signX [45,62]:=by rintro c r e;cases e;decide
 unfold entR;constructor
 ·refine SimR.bind (p:=tm q) (K:=fun x q=>(a++[x]++[(tm (needF fin 4 [45,62] q)).1],(tm (needF fin 4 [45,62] q)).2)) h1 (fun q hq=>by
   show (tm (needF fin 4 [45,62] q)).2.f=q.f;rw[needF_off _ _ hq,hs _ hq]) (fun w1 n1 e1 h3=>?_)
  refine SimR.bind (p:=((),needF fin 4 [45,62] (tm q).2)) (K:=fun (_:Unit) q'=>(a++[(tm q).1]++[(tm q').1],(tm q').2)) (need_sim hW hfin [45,62] sg (by decide) h3) (fun q hq=>hs _ hq) (fun w2 n2 e2 h4=>?_);obtain ⟨h5,_⟩:=htm _ w2 n2 h4;cases hr:tm1 w2 n2 with
  | bad f=>rw[hr] at h5;exact h5
  | ok b w3 n3=>rw[hr] at h5;exact ⟨by rw[h5.1];simp,h5.2⟩
 ·intro a' w' n' e;refine ⟨?_,trivial⟩;cases hr:tm1 w n with
  | bad f=>rw[hr] at e;cases e
  | ok b w1 n1 =>
   have l1:=h2 b w1 n1 hr;rw[hr] at h1 e;simp only[Rd.bind] at e;have h3:=need_sim (fin:=fin) hW hfin [45,62] sg (by decide) h1.2;unfold wantR at e h3;by_cases hc:isT [45,62] w1=true
   ·rw[if_pos hc] at e h3;simp only[Rd.bind] at e;have h4:=h3.2;obtain ⟨h5,h6⟩:=htm _ _ _ h4;cases hr2:tm1 w1.tail n1 with
    | bad f=>rw[hr2] at e;cases e
    | ok v w3 n3 =>
     rw[hr2] at e;cases e;have:=h6 _ _ _ hr2;rw[List.length_tail] at this;omega
   ·rw[if_neg hc] at e;cases e
theorem rest_stick (sort:Str) (d:Nat) {c:Str} {a:List Tm} {q:RQ T} (hq:q.ok=false):(needF fin 4 c (restF fin sort d q).2).f=q.f:=by rw[restF_off _ _ hq,needF_off _ _ hq]
theorem ends_sim (hW:∀ t,t∈T→TokW N t) (hfin:fin.code≠0) (hF:T[fi]?=some first) (k:Nat) (hk:k<60) (c:UInt8) (hc:isLet c.toNat=false) (kind:Int) (sort:Str) {r:Rd (List Tm)} {p:List Tm × RQ T} (h:SimR fi r p) :
  SimR fi (r.bind fun l w n=>(restR fin first (decide (k=0)) sort w n).bind fun rs w n=>(wantR fin [c] w n).bind fun _ w n=>.ok (.mk kind 0 [] [] l rs) w n)
   (Tm.mk kind 0 [] [] p.1 (restF fin sort (60-k) p.2).1,needF fin 4 [c] (restF fin sort (60-k) p.2).2):=by
 refine SimR.bind (K:=fun l q=>(Tm.mk kind 0 [] [] l (restF fin sort (60-k) q).1,needF fin 4 [c] (restF fin sort (60-k) q).2)) h (fun q hq=>rest_stick (a:=[]) _ _ hq) (fun w n _ h2=>?_);refine SimR.bind (p:=restF fin sort (60-k) p.2) (K:=fun rs q=>(Tm.mk kind 0 [] [] p.1 rs,needF fin 4 [c] q)) (rest_sim hW hfin hF sort k hk h2) (fun q hq=>by show (needF fin 4 [c] q).f=q.f;rw[needF_off _ _ hq]) (fun w n _ h3=>?_);exact close_sim hW hfin [c] (by rintro d r e;cases e;exact hc) (by simp) _ h3
theorem loopOr_sim (hW:∀ t,t∈T→TokW N t) (c:UInt8) (hc:isLet c.toNat=false) {one:List Tm→List Tok→Nat→Rd (List Tm)} {body:List Tm→RQ T→List Tm × RQ T}
  (hb:∀ a q w n,True→At q fi w n→SimR fi (one a w n) (body a q)∧∀ a' w' n',one a w n=.ok a' w' n'→w'.length<w.length∧True) (h:At q fi w n) :
  SimR fi (if isT [124] w=true∨isT [c] w=true then Rd.ok [] w n else loopR fin [44] one (w.length+1) [] w n) (rloop [44] body (T.length+2) (!isF 4 [c] q&&!isF 4 [124] q) [] q):=by
 rw[isT_sim hW [c] (by rintro d r e;cases e;exact hc) (by simp) h,isT_sim hW [124] (by rintro d r e;cases e;decide) (by decide) h];by_cases h1:isT [124] w=true∨isT [c] w=true
 ·rw[if_pos h1];have e:(!isT [c] w&&!isT [124] w)=false:=by rcases h1 with h1|h1<;>simp[h1]
  rw[e];have e2:rloop [44] body (T.length+2) false [] q=([],q):=by unfold rloop;rfl
  rw[e2];exact SimR.ok h
 ·rw[if_neg h1];have e:(!isT [c] w&&!isT [124] w)=true:=by simp only[not_or] at h1;simp[h1.1,h1.2]
  rw[e];exact loop_all hW (fun _=>True) [] trivial hb h
theorem other_sim (hW:∀ t,t∈T→TokW N t) (hN:N≤4294967296) (hfin:fin.code≠0) (hF:T[fi]?=some first) (k:Nat) (hk:k<60) (htm:TmSim (T:=T) fin fi (termR true fin first k) (termF fin k)) (t:Tok) (ht:TokW N t)
  (h4:t.text=[45]∨t.text=[39]∨t.text=[95]∨t.text=[36]∨t.text=[91]∨t.text=[123]) (h:At q fi w n):SimR fi (signedR fin first (termR true fin first k) (decide (k=0)) t w n) (otherF fin (termF fin k) t (60-k) q):=by
 unfold otherF signedR;have hcol:=ht.col;by_cases h45:t.text=[45]
 ·rw[if_pos h45,if_pos h45];cases w with
  | nil =>
   rw[kindF_nil h];exact fail_at h 11 (by decide) hfin
  | cons u w =>
   have hu:=hW u (at_mem h);have ew:IntKind.i64.wrap (t.col+1)=t.col+1:=wrap_in _ (by omega) (by omega);have en:IntKind.i64.wrap (0-u.n)=-u.n:=by have:=hu.num;rw[wrap_in _ (by omega) (by omega)];omega
   rw[kindF_cons h,(at_tok h).2.1,ew,en];by_cases hc:u.kind=2∧u.line=t.line∧u.col=t.col+1
   ·simp only[hc,and_self,if_true,decide_true,Bool.and_self];exact SimR.ok (inc_at h).1
   ·have:(decide (u.kind=2)&&(decide (u.line=t.line)&&decide (u.col=t.col+1)))=false:=by
     rw[Bool.eq_false_iff];intro e;simp only[gD5,decide_eq_true_eq] at e;exact hc e
    simp only[hc,if_false,this,gD7];exact fail_at h 11 (by decide) hfin
 rw[if_neg h45,if_neg h45];by_cases h39:t.text=[39]
 ·rw[if_pos h39,if_pos h39];cases w with
  | nil =>
   rw[namedF_nil h];exact fail_at h 11 (by decide) hfin
  | cons u w =>
   rw[namedF_cons h,(at_tok h).2.1];by_cases hc:u.free=true∧isId u.text=true
   ·have hn:=name_sim (fin:=fin) hfin h;simp only[hc,and_self,if_true,Bool.and_self];simp only[nameR,hc.1,if_true] at hn;exact ⟨by rw[hn.1],hn.2⟩
   ·have:(u.free&&isId u.text)=false:=by
     rw[Bool.eq_false_iff];intro e;simp only[gD5] at e;exact hc e
    simp only[hc,if_false,this,gD7];exact fail_at h 11 (by decide) hfin
 rw[if_neg h39,if_neg h39];by_cases h95:t.text=[95]∨t.text=[36]
 ·rw[if_pos h95,if_neg (by rcases h95 with e|e<;>rw[e]<;>decide),if_neg (by rcases h95 with e|e<;>rw[e]<;>decide)];exact SimR.ok h
 rw[if_neg h95];by_cases h91:t.text=[91]
 ·rw[if_pos h91,if_pos h91];exact ends_sim hW hfin hF k hk 93 (by decide) 7 _ (loopOr_sim hW 93 (by decide) (fun a q w n _ h=>list_sim htm a q w n h) h)
 ·have h123:t.text=[123]:=by
   rcases h4 with e|e|e|e|e|e
   ·exact absurd e h45
   ·exact absurd e h39
   ·exact absurd (.inl e) h95
   ·exact absurd (.inr e) h95
   ·exact absurd e h91
   ·exact e
  rw[if_neg h91,if_neg h91,if_pos h123];exact ends_sim hW hfin hF k hk 125 (by decide) 8 _ (loopOr_sim hW 125 (by decide) (fun a q w n _ h=>entry_sim hW hfin htm (fun q hq=>by rw[termF_off _ hq]) a q w n h) h)
theorem at_len (h:At q fi w n):w.length=T.length-q.at_:=by have:=congrArg List.length h.dr;rw[gD4] at this;exact this.symm
theorem short_of {r:Rd Tm} {p:Tm × RQ T} {t:Tok} (h:At q fi (t::w) n) (hs:SimR fi r p) (hm:q.at_+1≤p.2.at_):∀ a' w' n',r=.ok a' w' n'→w'.length<(t::w).length:=by
 intro a' w' n' e;rw[e] at hs;have h1:=at_len hs.2;have h2:=at_len h;have h3:=(at_tok h).1;omega
theorem term_sim (hW:∀ t,t∈T→TokW N t) (hN:N≤4294967296) (hfin:fin.code≠0) (hF:T[fi]?=some first):∀ k,k≤60→TmSim (T:=T) fin fi (termR true fin first k) (termF fin k)
 | 0,_=>by
  intro q w n h;refine ⟨?_,fun a' w' n' e=>by obtain ⟨f,hf⟩:=term0_bad (fin:=fin) (first:=first) true w n;rw[hf] at e;cases e⟩;cases w with
  | nil=>unfold termF;rw[begins_nil h,if_neg (by decide)];exact fail_at h 11 (by decide) hfin
  | cons t w =>
   unfold termF;rw[begins_sim hW h];simp only[termR];by_cases hb:t.begins=true
   ·rw[if_pos hb,if_pos hb];have hok:({ q with nodes:=IntKind.i64.wrap (q.nodes+1) }:RQ T).ok=true:=h.ok
    have e:(nodeF fin 61 q.at_ q).f=failAt fin 19 (t::w):=by
     unfold nodeF;simp only[hok,if_true];rw[if_pos (by omega)];unfold failF;rw[if_pos hok];simp only[(at_tok h).2.2.1];rfl
    have e2:(nodeF fin 61 q.at_ q).ok=false:=by unfold RQ.ok;rw[e];rfl
    rw[failF_f _ _ _ e2,ite_self];exact ⟨e,e2⟩
   ·rw[if_neg hb,if_neg hb];exact fail_at h 11 (by decide) hfin
 | k+1,hk=>by
  intro q w n h;have ih:=term_sim hW hN hfin hF k (by omega);cases w with
  | nil =>
   refine ⟨?_,fun a' w' n' e=>by simp only[termR] at e;cases e⟩;unfold termF;rw[begins_nil h,if_neg (by decide)];exact fail_at h 11 (by decide) hfin
  | cons t w =>
   unfold termF;rw[begins_sim hW h];by_cases hb:t.begins=true
   ·simp only[termR];rw[if_pos hb,if_pos hb];have hnd:=node_sim (fin:=fin) hF (60-k) q.at_ (by omega) h;unfold nodeR at hnd ⊢;by_cases hc:2000<n+1
    ·rw[if_pos hc] at hnd ⊢;obtain ⟨e1,e2⟩:=hnd;simp only at e1 e2;simp only[Rd.bind];rw[failF_f _ _ _ e2,ite_self,e2,if_neg (by decide)];exact ⟨⟨e1,e2⟩,fun a' w' n' e=>by cases e⟩
    ·rw[if_neg hc] at hnd ⊢;obtain ⟨_,h1⟩:=hnd;simp only at h1;simp only[Rd.bind];generalize nodeF fin (60-k) q.at_ q=q1 at h1 ⊢;simp only[h1.ov,gD7,if_false,h1.ok,if_true,(at_tok h1).2.1];obtain ⟨h2,hi⟩:=inc_at h1
     have hq:q1.at_=q.at_:=by
      have a1:=at_len h1;have a2:=at_len h;have a3:=(at_tok h).1;have a4:=(at_tok h1).1;omega
     have ht:=hW t (at_mem h)
     have fin1:∀ (r:Rd Tm) (p:Tm × RQ T),SimR fi r p→q1.inc.at_≤p.2.at_→SimR fi r p∧∀ a' w' n',r=.ok a' w' n'→w'.length<(t::w).length :=
      fun r p hs hm=>⟨hs,short_of h hs (by omega)⟩
     by_cases k2:t.kind=2
     ·rw[if_pos k2,if_pos k2];exact fin1 _ (_,q1.inc) (SimR.ok h2) (Nat.le_refl _)
     rw[if_neg k2,if_neg k2];by_cases k3:t.kind=3
     ·rw[if_pos k3,if_pos k3];exact fin1 _ (_,q1.inc) (SimR.ok h2) (Nat.le_refl _)
     rw[if_neg k3,if_neg k3];by_cases k1:t.kind=1
     ·rw[if_pos k1,if_pos k1];by_cases ht1:t.text=[116,114,117,101]
      ·rw[if_pos ht1];unfold namedR;rw[if_pos ht1];exact fin1 _ (_,q1.inc) (SimR.ok h2) (Nat.le_refl _)
      rw[if_neg ht1];by_cases hf1:t.text=[102,97,108,115,101]
      ·rw[if_pos hf1];unfold namedR;rw[if_neg ht1,if_pos hf1];exact fin1 _ (_,q1.inc) (SimR.ok h2) (Nat.le_refl _)
      rw[if_neg hf1];exact fin1 _ _ (app_sim hW hfin hF k (by omega) ih t ht1 hf1 h2) (appF_mono _ (termF_mono k) _ _)
     ·rw[if_neg k1,if_neg k1];refine fin1 _ _ (other_sim hW hN hfin hF k (by omega) ih t ht ?_ h2) (otherF_mono _ (termF_mono k) _ _ _);have hbb:=hb;unfold Tok.begins at hbb;simp only[k1,k2,k3] at hbb;simp at hbb;rcases hbb with e|e|e|e|e|e<;>simp[e]
   ·have e:termR true fin first (k+1) (t::w) n=.bad (failAt fin 11 (t::w)):=by simp only[termR];rw[if_neg hb]
    rw[if_neg hb,e];exact ⟨fail_at h 11 (by decide) hfin,fun a' w' n' e=>by cases e⟩
end
end Go.AV
end
section
namespace Go.AV
open Go Go.Proofs
def finL (ln cl:Int):Fault:=⟨12,[],ln,cl⟩
def rqC {T:List Tok} (ln cl:Int) (q:RQ T) (d:Dc):List A:=.list none (T.map Tok.enc)::.int .i64 q.at_::.int .i64 ln::.int .i64 cl::(q.f.cs++(.int .i64 q.first::.int .i64 q.nodes::.bool q.over::d.cs))
def rqO {T:List Tok} (ln cl:Int) (q:RQ T) (d:Dc):Ob:=.cells 95 (rqC ln cl q d)
attribute [go_sem] rqC rqO
theorem RQ.get {T:List Tok} {q:RQ T} (h:q.at_<T.length):T[q.at_]?=some q.tok:=by
 unfold RQ.tok;rw[List.getElem?_eq_getElem h];rfl
theorem RQ.inc_lt {T:List Tok} {q:RQ T} (h:q.at_<T.length):q.inc=⟨q.at_+1,h,q.f,q.first,q.nodes,q.over⟩:=by
 unfold RQ.inc;rw[dif_pos h]
theorem RQ.mem {T:List Tok} {q:RQ T} (h:q.at_<T.length):q.tok∈T:=List.mem_of_getElem? (RQ.get h)
theorem decDigits_big {u:Nat} (h:¬ u<10):Lib.decDigits u=Lib.decDigits (u / 10)++Lib.decDigits (u % 10):=by
 rw[Lib.decDigits,dif_neg h];congr 1;rw[Lib.decDigits,dif_pos (Nat.mod_lt _ (by omega))]
theorem digit_take (n:Nat) (h:n<10):List.take 1 (List.drop n ([48,49,50,51,52,53,54,55,56,57]:List UInt8))=[UInt8.ofNat (48+n)]:=by
 match n,h with
 | 0,_|1,_|2,_|3,_|4,_|5,_|6,_|7,_|8,_|9,_=>rfl
theorem decDigits_len:∀ (k u:Nat),u<10 ^ (k+1)→(Lib.decDigits u).length≤k+1
 | 0,u,h=>by rw[Lib.decDigits,dif_pos (by simpa using h)];simp
 | k+1,u,h=>by
  by_cases h1:u<10
  ·rw[Lib.decDigits,dif_pos h1];simp
  ·rw[Lib.decDigits,dif_neg h1,gC2,List.length_singleton];have:=decDigits_len k (u / 10) (by rw[Nat.pow_succ] at h;omega);omega
theorem p19:(10:Nat) ^ (18+1)=10000000000000000000:=by decide
theorem number77_pos (m:Nat):∀ (n:Nat) (s:St) (KV Kp:St→A→Prop),n≤m→(n:Int)≤9223372036854775807→KV s (.str (Lib.decDigits n))→Den cx 77 [.int .i64 (n:Int)] KV Kp s:=by
 induction m using Nat.strongRecOn with
 | _ m ih =>
  intro n s KV Kp hm hn hk;have d1:decide ((n:Int)≤-10)=false:=by rw[decide_eq_false_iff_not];omega
  have d2:decide ((n:Int)<0)=false:=by rw[decide_eq_false_iff_not];omega
  refine Den.drop ?_;(refine Den.of_body (C:=cx) Tryz.func77 rfl rfl (gC6 rfl) ?_;refine wpC_ok (V:=[0,2,4,14,20]) _ _ _ _ ?_;simp only[go_sem,Tryz.ntmps77,Tryz.f77]);simp only[go_sem,d1,d2];cases c:decide ((n:Int)<10) with
  | true =>
   have hlt:n<10:=by simp at c;omega
   simp only[go_sem,d1,d2,c];rw[wrap1 n (by omega)];refine ⟨by omega,?_⟩;rw[show (((n+1:Nat):Int).toNat-n)=1 by omega]
   have e:List.take 1 (List.drop n ([48,49,50,51,52,53,54,55,56,57]:List UInt8))=Lib.decDigits n:=by
    rw[Lib.decDigits,dif_pos hlt];exact digit_take n hlt
   rw[e];exact DK.here hk
  | false =>
   have hge:¬ n<10:=by simp at c;omega
   have e1:IntKind.i64.wrap ((n:Int).tdiv 10)=((n / 10:Nat):Int):=by
    rw[show (n:Int).tdiv 10=((n / 10:Nat):Int) from rfl,wrap_in _ (by omega) (by omega)]
   have e2:IntKind.i64.wrap ((n:Int).tmod 10)=((n % 10:Nat):Int):=by
    rw[show (n:Int).tmod 10=((n % 10:Nat):Int) from rfl,wrap_in _ (by omega) (by omega)]
   have d10:((10:Int)=0)=False:=by simp
   simp only[go_sem,d1,d2,c,d10,e1,e2];refine ih (n / 10) (by omega) (n / 10) _ _ _ (Nat.le_refl _) (by omega) ?_;simp only[go_sem,d1,d2,c,d10,e1,e2];refine ih (n % 10) (by omega) (n % 10) _ _ _ (Nat.le_refl _) (by omega) ?_;simp only[go_sem,d1,d2,c,d10,e1,e2];have l1:=decDigits_len 18 (n / 10) (by rw[p19];omega);have l2:=decDigits_len 18 (n % 10) (by rw[p19];omega);refine ⟨by unfold maxLen;omega,?_⟩;rw[← decDigits_big hge];exact DK.here hk
theorem number77_den (n:Int) (s:St) (KV Kp:St→A→Prop) (h1:-9223372036854775808≤n) (h2:n≤9223372036854775807) (hk:KV s (.str (Lib.itoa n))):Den cx 77 [.int .i64 n] KV Kp s:=by
 by_cases hn:0≤n
 ·obtain ⟨m,rfl⟩:=Int.eq_ofNat_of_zero_le hn;refine number77_pos m m _ _ _ (Nat.le_refl _) h2 ?_;unfold Lib.itoa at hk;rw[if_neg (by omega)] at hk;exact hk
 ·have neg:∀ (m:Nat) (j:Int) (s:St) (KV Kp:St→A→Prop),j.natAbs≤m→-9223372036854775808≤j→j<0→KV s (.str (45::Lib.decDigits j.natAbs))→Den cx 77 [.int .i64 j] KV Kp s:=by
   intro m
   induction m with
   | zero=>intro j s KV Kp h _ h2;omega
   | succ m ih =>
    intro j s KV Kp hm hj1 hj2 hk;by_cases hb:j≤-10
    ·have d1:decide (j≤-10)=true:=by rw[decide_eq_true_iff];exact hb
     have d10:((10:Int)=0)=False:=by simp
     have q1:j.tdiv 10=-((j.natAbs / 10:Nat):Int):=by
      have:j=-((j.natAbs:Nat):Int):=by omega
      rw[this,Int.neg_tdiv];simp only[Int.natAbs_neg,Int.natAbs_natCast];rfl
     have q2:j.tmod 10=-((j.natAbs % 10:Nat):Int):=by
      have:j=-((j.natAbs:Nat):Int):=by omega
      rw[this,Int.neg_tmod];simp only[Int.natAbs_neg,Int.natAbs_natCast];rfl
     have e1:IntKind.i64.wrap (j.tdiv 10)=-((j.natAbs / 10:Nat):Int):=by rw[q1,wrap_in _ (by omega) (by omega)]
     have e2:IntKind.i64.wrap (j.tmod 10)=-((j.natAbs % 10:Nat):Int):=by rw[q2,wrap_in _ (by omega) (by omega)]
     have e3:IntKind.i64.wrap (0 - -((j.natAbs % 10:Nat):Int))=((j.natAbs % 10:Nat):Int):=by rw[wrap_in _ (by omega) (by omega)];omega
     refine Den.drop ?_;(refine Den.of_body (C:=cx) Tryz.func77 rfl rfl (gC6 rfl) ?_;refine wpC_ok (V:=[0,2,4,14,20]) _ _ _ _ ?_;simp only[go_sem,Tryz.ntmps77,Tryz.f77]);simp only[go_sem,d1,d10,e1];refine ih _ _ _ _ (by omega) (by omega) (by omega) ?_;simp only[go_sem,d1,d10,e1,e2,e3,q2];refine number77_pos _ (j.natAbs % 10) _ _ _ (Nat.le_refl _) (by omega) ?_;simp only[go_sem,d1,d10,e1,e2,e3,q2];have l1:=decDigits_len 18 (j.natAbs / 10) (by rw[p19];omega);have l2:=decDigits_len 18 (j.natAbs % 10) (by rw[p19];omega);have e4:(-((j.natAbs / 10:Nat):Int)).natAbs=j.natAbs / 10:=by omega
     rw[e4];refine ⟨by unfold maxLen;omega,?_⟩;rw[← decDigits_big (by omega)];exact DK.here hk
    ·have d1:decide (j≤-10)=false:=by rw[decide_eq_false_iff_not];omega
     have d2:decide (j<0)=true:=by rw[decide_eq_true_iff];omega
     have e1:IntKind.i64.wrap (0-j)=((j.natAbs:Nat):Int):=by rw[wrap_in _ (by omega) (by omega)];omega
     refine Den.drop ?_;(refine Den.of_body (C:=cx) Tryz.func77 rfl rfl (gC6 rfl) ?_;refine wpC_ok (V:=[0,2,4,14,20]) _ _ _ _ ?_;simp only[go_sem,Tryz.ntmps77,Tryz.f77]);simp only[go_sem,d1,d2,e1];refine number77_pos _ j.natAbs _ _ _ (Nat.le_refl _) (by omega) ?_;simp only[go_sem,d1,d2,e1];have l1:=decDigits_len 18 j.natAbs (by rw[p19];omega);refine ⟨by unfold maxLen;omega,?_⟩;exact DK.here hk
  refine neg _ n _ _ _ (Nat.le_refl _) h1 (by omega) ?_;unfold Lib.itoa at hk;rw[if_pos (by omega)] at hk;exact hk
end Go.AV
end
section
namespace Go.AV
open Go Go.Proofs
theorem reserved79_den (x:Str) (s:St) (KV Kp:St→A→Prop) (hk:KV s (.bool (decide (x∈reservedW)))):Den cx 79 [.str x] KV Kp s:=by
 have e:decide (x∈reservedW)=(decide (x=[108,97,110,103,117,97,103,101])||(decide (x=[115,111,114,116])||(decide (x=[115,117,98,115,111,114,116])||(decide (x=[118,97,108,117,101])||(decide (x=[111,112])||(decide (x=[102,117,110])||(decide (x=[108,101,116])||(decide (x=[105,102])||(decide (x=[115,116,97,114,116])||(decide (x=[99,101,108,108])||(decide (x=[109,97,110,121])||(decide (x=[119,97,116,99,104])||(decide (x=[114,117,108,101])||(decide (x=[112,114,101,99])||(decide (x=[108,101,102,116])||(decide (x=[114,105,103,104,116])||(decide (x=[115,116,114,105,99,116])||(decide (x=[110,101,119])||(decide (x=[100,114,111,112])||(decide (x=[116,114,117,101])||decide (x=[102,97,108,115,101]))))))))))))))))))))):=by
  simp only[reservedW,gC5,List.not_mem_nil,or_false,Bool.decide_or]
 refine Den.drop ?_;(refine Den.of_body (C:=cx) Tryz.func79 rfl rfl (gC6 rfl) ?_;refine wpC_ok (V:=[0,2,3,4]) _ _ _ _ ?_;simp only[go_sem,Tryz.ntmps79,Tryz.f79]);rw[e] at hk
 repeat' (first|exact DK.here hk|((first|refine gC8 (fun h=>?_) (fun h=>?_)|refine gC9 (fun h=>?_) (fun h=>?_)|refine gD1 (fun h=>?_) (fun h=>?_))<;>simp only[go_sem,h]<;>(try simp only[h,Bool.true_or,Bool.false_or] at hk)))
section
variable {T:List Tok} {ln cl:Int} {q:RQ T} {d:Dc} {s:St} {r:Nat} {KV Kp:St→A→Prop}
theorem ok45_den (hr:s.getO r=some (rqO ln cl q d)) (hk:KV s (.bool q.ok)):Den cx 45 [.ptr r 0] KV Kp s:=by
 simp only[go_sem] at hr;refine Den.drop ?_;(refine Den.of_body (C:=cx) Tryz.func45 rfl rfl (gC6 rfl) ?_;refine wpC_ok (V:=[0,2]) _ _ _ _ ?_;simp only[go_sem,Tryz.ntmps45,Tryz.f45]);simp only[go_sem,hr];exact DK.here hk
theorem fail46_den (hT:TOk T) (code:Int) (p:Nat) (named:Bool) (hr:s.getO r=some (rqO ln cl q d)) (hk:KV (s.setO r (rqO ln cl (failF (finL ln cl) code p named q) d)) (.tuple [])) :
  Den cx 46 [.ptr r 0,.int .i64 code,.int .i64 p,.bool named] KV Kp s:=by
 have hr2:=hr;simp only[go_sem] at hr2;refine Den.drop ?_;(refine Den.of_body (C:=cx) Tryz.func46 rfl rfl (gC6 rfl) ?_;refine wpC_ok (V:=[0,1,2,3,8,11,18,47,56]) _ _ _ _ ?_;simp only[go_sem,Tryz.ntmps46,Tryz.f46]);refine ok45_den hr ?_;unfold failF at hk;cases h:q.ok with
 | false =>
  rw[h] at hk;simp only[gD7,if_false] at hk;simp only[go_sem];exact DK.st hk (St.ge_same hr)
 | true =>
  rw[h] at hk;simp only[if_true] at hk;simp only[go_sem,hr2];cases hp:decide (T.length≤p) with
  | true =>
   have:T[p]?=none:=List.getElem?_eq_none (by simpa using hp);rw[this] at hk;simp only[go_sem,hr2];(refine draw_ok (V:=[0,1,2,3,8,11,18,47,56]) (OT.l [0,1,2,3,4,5,6,7,8,9,10,11,12] .nil) [] mixed_cx (by decide +kernel) ?_;simp only[go_sem,hr2]);simp only[go_sem] at hk;exact DK.here hk
  | false =>
   have hlt:p<T.length:=by simp at hp;omega
   have ht:T[p]?=some T[p]:=List.getElem?_eq_getElem hlt;have hmem:=List.mem_of_getElem? ht;rw[ht] at hk;generalize T[p]=t at ht hk hmem;simp only at hk;simp only[go_sem,hr2,ht,hlt];(intro b hb;try simp only[gD6,ne_eq] at hb);have hne:=St.ne_of hr hb;simp only[go_sem,hr2,hne,hb];cases named with
   | false =>
    simp only[gD7,if_false] at hk;simp only[go_sem,hr2,hne,hb];simp only[go_sem] at hk;exact DK.st hk (gel_ge (gel_set (by simp only[gA1,reduceIte]<;>rfl) (gel_in (by simp) (gel_new hb (gel_refl _ _ _)))))
   | true =>
    simp only[if_true,Tok.name] at hk;simp only[go_sem,hr2,hne,hb];cases h2:decide (t.kind=2) with
    | true =>
     rw[if_pos (by simpa using h2)] at hk;simp only[go_sem,hr2,hne,hb,h2];have hnum:=hT.num t hmem;refine number77_den t.n _ _ _ (by omega) (by omega) ?_;simp only[go_sem,hr2,hne,hb,h2];simp only[go_sem] at hk;exact DK.st hk (gel_ge (gel_set (by simp only[gA1,reduceIte]<;>rfl) (gel_in (by simp) (gel_new hb (gel_refl _ _ _)))))
    | false =>
     rw[if_neg (by simpa using h2)] at hk;simp only[go_sem,hr2,hne,hb,h2];simp only[go_sem] at hk;exact DK.st hk (gel_ge (gel_set (by simp only[gA1,reduceIte]<;>rfl) (gel_in (by simp) (gel_new hb (gel_refl _ _ _)))))
theorem is156_den (kind:Int) (x:Str) (hr:s.getO r=some (rqO ln cl q d)) (hk:KV s (.bool (isF kind x q))):Den cx 156 [.ptr r 0,.int .i64 kind,.str x] KV Kp s:=by
 have hr2:=hr;simp only[go_sem] at hr2;have ho:∀ K1 K2 s1,s1.getO r=some (rqO ln cl q d)→K1 s1 (.bool q.ok)→Den cx 45 [.ptr r 0] K1 K2 s1:=fun K1 K2 s1 h1 h2=>ok45_den h1 h2
 unfold isF at hk;refine Den.drop ?_;(refine Den.of_body (C:=cx) Tryz.func156 rfl rfl (gC6 rfl) ?_;refine wpC_ok (V:=[0,1,2,6]) _ _ _ _ ?_;simp only[go_sem,Tryz.ntmps156,Tryz.f156]);(refine draw_ok (V:=[0,1,2,6]) (OT.l [0,1,2,3,4,5,6,7,8,9,10,11,12,13,14,15,16,17,18,19,20,21,22,23,24,25,26,27,28,29,30,31,32,33,34,35,36,37,38,39,40,41,42,43,44] .nil) [(1,[6,10,18,22,25,33,37,40])] mixed_cx (by decide +kernel) ?_;simp only[go_sem,hr2]);refine ho _ _ _ hr ?_;cases h1:q.ok with
 | false =>
  rw[h1] at hk;simp only[go_sem,hr2];exact DK.here hk
 | true =>
  rw[h1] at hk;simp only[go_sem,hr2];cases h2:decide (q.at_<T.length) with
  | false =>
   rw[h2] at hk;simp only[go_sem,hr2,h2];exact DK.here hk
  | true =>
   rw[h2] at hk;have hlt:q.at_<T.length:=by simpa using h2
   have ht:=RQ.get hlt;simp only[go_sem,hr2,h2,ht,hlt];cases h3:decide (q.tok.kind=kind) with
   | false =>
    rw[h3] at hk;simp only[go_sem,hr2,h2,ht,hlt];exact DK.here hk
   | true =>
    rw[h3] at hk;simp only[go_sem,hr2,h2,ht,hlt];exact DK.here hk
end
end Go.AV
end
section
namespace Go.AV
open Go Go.Proofs
section
variable {T:List Tok} {ln cl:Int} {q:RQ T} {d:Dc} {s:St} {r:Nat} {KV Kp:St→A→Prop}
theorem kind229_den (kind:Int) (hr:s.getO r=some (rqO ln cl q d)) (hk:KV s (.bool (kindF kind q))):Den cx 229 [.ptr r 0,.int .i64 kind] KV Kp s:=by
 have hr2:=hr;simp only[go_sem] at hr2;unfold kindF at hk;refine Den.drop ?_;(refine Den.of_body (C:=cx) Tryz.func229 rfl rfl (gC6 rfl) ?_;refine wpC_ok (V:=[0,1,4]) _ _ _ _ ?_;simp only[go_sem,Tryz.ntmps229,Tryz.f229]);(refine draw_ok (V:=[0,1,4]) (OT.l [0,1,2,3,4,5,6,7,8,9,10,11,12,13,14,15,16,17,18,19,20,21,22,23,24,25,26,27,28,29] .nil) [(1,[6,10,18,22,25])] mixed_cx (by decide +kernel) ?_;simp only[go_sem,hr2]);refine ok45_den hr ?_;cases h1:q.ok with
 | false =>
  rw[h1] at hk;simp only[go_sem,hr2];exact DK.here hk
 | true =>
  rw[h1] at hk;simp only[go_sem,hr2];cases h2:decide (q.at_<T.length) with
  | false =>
   rw[h2] at hk;simp only[go_sem,hr2,h2];exact DK.here hk
  | true =>
   rw[h2] at hk;have hlt:q.at_<T.length:=by simpa using h2
   have ht:=RQ.get hlt;simp only[go_sem,hr2,h2,ht,hlt];exact DK.here hk
theorem named157_den (hr:s.getO r=some (rqO ln cl q d)) (hk:KV s (.bool (namedF q))):Den cx 157 [.ptr r 0] KV Kp s:=by
 have hr2:=hr;simp only[go_sem] at hr2;unfold namedF at hk;refine Den.drop ?_;(refine Den.of_body (C:=cx) Tryz.func157 rfl rfl (gC6 rfl) ?_;refine wpC_ok (V:=[0,2]) _ _ _ _ ?_;simp only[go_sem,Tryz.ntmps157,Tryz.f157]);(refine draw_ok (V:=[0,2]) (OT.l [0,1,2,3,4,5,6,7,8,9,10,11,12,13,14,15,16,17,18,19,20,21,22,23,24,25,26,27,28,29,30,31,32,33,34,35,36,37,38,39,40,41,42,43] .nil) [(1,[6,10,18,22,25,32,36,39])] mixed_cx (by decide +kernel) ?_;simp only[go_sem,hr2]);refine ok45_den hr ?_;cases h1:q.ok with
 | false =>
  rw[h1] at hk;simp only[go_sem,hr2];exact DK.here hk
 | true =>
  rw[h1] at hk;simp only[go_sem,hr2];cases h2:decide (q.at_<T.length) with
  | false =>
   rw[h2] at hk;simp only[go_sem,hr2,h2];exact DK.here hk
  | true =>
   rw[h2] at hk;have hlt:q.at_<T.length:=by simpa using h2
   have ht:=RQ.get hlt;simp only[go_sem,hr2,h2,ht,hlt];cases h3:decide (q.tok.kind=1) with
   | false =>
    rw[h3] at hk;simp only[go_sem,hr2,h2,ht,hlt];exact DK.here hk
   | true =>
    rw[h3] at hk;simp only[go_sem,hr2,h2,ht,hlt];refine reserved79_den _ _ _ _ ?_;simp only[go_sem,hr2,h2,ht,hlt];exact DK.here hk
theorem word158_den (x:Str) (hr:s.getO r=some (rqO ln cl q d)) (hk:KV s (.bool (isF 1 x q))):Den cx 158 [.ptr r 0,.str x] KV Kp s:=by
 refine Den.drop ?_;(refine Den.of_body (C:=cx) Tryz.func158 rfl rfl (gC6 rfl) ?_;refine wpC_ok (V:=[0,1,4]) _ _ _ _ ?_;simp only[go_sem,Tryz.ntmps158,Tryz.f158]);refine is156_den 1 x hr ?_;simp only[go_sem];exact DK.here hk
theorem sign228_den (x:Str) (hr:s.getO r=some (rqO ln cl q d)) (hk:KV s (.bool (isF 4 x q))):Den cx 228 [.ptr r 0,.str x] KV Kp s:=by
 refine Den.drop ?_;(refine Den.of_body (C:=cx) Tryz.func228 rfl rfl (gC6 rfl) ?_;refine wpC_ok (V:=[0,1,4]) _ _ _ _ ?_;simp only[go_sem,Tryz.ntmps228,Tryz.f228]);refine is156_den 4 x hr ?_;simp only[go_sem];exact DK.here hk
theorem isF_lt {kind:Int} {x:Str} (h:isF kind x q=true):q.at_<T.length:=by
 simp only[isF,gD5,decide_eq_true_eq] at h;exact h.2.1
theorem kindF_lt {kind:Int} (h:kindF kind q=true):q.at_<T.length:=by
 simp only[kindF,gD5,decide_eq_true_eq] at h;exact h.2.1
theorem namedF_lt (h:namedF q=true):q.at_<T.length:=by
 simp only[namedF,gD5,decide_eq_true_eq] at h;exact h.2.1
theorem need87_den (hT:TOk T) (kind:Int) (x:Str) (hr:s.getO r=some (rqO ln cl q d)) (hk:KV (s.setO r (rqO ln cl (needF (finL ln cl) kind x q) d)) (.tuple [])):Den cx 87 [.ptr r 0,.int .i64 kind,.str x] KV Kp s:=by
 have hr2:=hr;simp only[go_sem] at hr2;have hlen:=hT.len;unfold needF at hk;refine Den.drop ?_;(refine Den.of_body (C:=cx) Tryz.func87 rfl rfl (gC6 rfl) ?_;refine wpC_ok (V:=[0,1,2,10]) _ _ _ _ ?_;simp only[go_sem,Tryz.ntmps87,Tryz.f87]);refine is156_den kind x hr ?_;cases h:isF kind x q with
 | false =>
  rw[h] at hk;simp only[gD7,if_false] at hk;simp only[go_sem,hr2];refine fail46_den hT 11 q.at_ true hr ?_;simp only[go_sem];exact DK.here hk
 | true =>
  have hlt:=isF_lt h;rw[h,if_pos rfl,RQ.inc_lt hlt] at hk;simp only[go_sem,hr2,wrap1 q.at_ (by omega)];simp only[go_sem] at hk;exact DK.here hk
theorem sure89_den (hT:TOk T) (x:Str) (hr:s.getO r=some (rqO ln cl q d)) (hk:KV (s.setO r (rqO ln cl (needF (finL ln cl) 4 x q) d)) (.tuple [])):Den cx 89 [.ptr r 0,.str x] KV Kp s:=by
 refine Den.drop ?_;(refine Den.of_body (C:=cx) Tryz.func89 rfl rfl (gC6 rfl) ?_;refine wpC_ok (V:=[0,1]) _ _ _ _ ?_;simp only[go_sem,Tryz.ntmps89,Tryz.f89]);refine need87_den hT 4 x hr ?_;simp only[go_sem];exact DK.here hk
theorem name88_den (hT:TOk T) (hr:s.getO r=some (rqO ln cl q d)) (hk:KV (s.setO r (rqO ln cl (nameF (finL ln cl) q).2 d)) (.str (nameF (finL ln cl) q).1)):Den cx 88 [.ptr r 0] KV Kp s:=by
 have hr2:=hr;simp only[go_sem] at hr2;have hlen:=hT.len;unfold nameF at hk;refine Den.drop ?_;(refine Den.of_body (C:=cx) Tryz.func88 rfl rfl (gC6 rfl) ?_;refine wpC_ok (V:=[0,2,5]) _ _ _ _ ?_;simp only[go_sem,Tryz.ntmps88,Tryz.f88]);refine named157_den hr ?_;cases h:namedF q with
 | false =>
  rw[h] at hk;simp only[gD7,if_false] at hk;simp only[go_sem,hr2];refine fail46_den hT 11 q.at_ true hr ?_;simp only[go_sem];exact DK.here hk
 | true =>
  have hlt:=namedF_lt h;have ht:=RQ.get hlt;rw[h,if_pos rfl,RQ.inc_lt hlt] at hk;have em:IntKind.i64.wrap (((q.at_+1:Nat):Int)-1)=(q.at_:Int):=by rw[wrap_in _ (by omega) (by omega)];omega
  have h0:(0:Int)≤(q.at_:Int):=by omega
  simp only[go_sem,hr2,wrap1 q.at_ (by omega)];(refine draw_ok (V:=[0,2,5]) (OT.l [0,1,2,3,4,5,6,7,8,9,10,11,12] .nil) [] mixed_cx (by decide +kernel) ?_;simp only[go_sem,hr2,em,h0,ht,hlt,Int.toNat_natCast,Option.map]);simp only[go_sem] at hk;exact DK.here hk
theorem comma159_den (hT:TOk T) (hr:s.getO r=some (rqO ln cl q d)) (hk:KV (s.setO r (rqO ln cl (commaF [44] q).2 d)) (.bool (commaF [44] q).1)):Den cx 159 [.ptr r 0] KV Kp s:=by
 have hr2:=hr;simp only[go_sem] at hr2;have hlen:=hT.len;unfold commaF at hk;refine Den.drop ?_;(refine Den.of_body (C:=cx) Tryz.func159 rfl rfl (gC6 rfl) ?_;refine wpC_ok (V:=[0,2,5]) _ _ _ _ ?_;simp only[go_sem,Tryz.ntmps159,Tryz.f159]);refine sign228_den [44] hr ?_;cases h:isF 4 [44] q with
 | false =>
  rw[h] at hk;simp only[gD7,if_false] at hk;simp only[go_sem,hr2];exact DK.st hk (St.ge_same hr)
 | true =>
  have hlt:=isF_lt h;rw[h,if_pos rfl,RQ.inc_lt hlt] at hk;simp only[go_sem,hr2,wrap1 q.at_ (by omega)];simp only[go_sem] at hk;exact DK.here hk
end
end Go.AV
end
