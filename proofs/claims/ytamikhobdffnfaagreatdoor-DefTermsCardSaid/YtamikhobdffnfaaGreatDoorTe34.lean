/-
  Part of the proof of DefTerms.
-/
import Derived.Test.YtamikhobdffnfaaGreatDoorTe33
import Derived.Test.YtamikhobdffnfaaGreatDoorTe15
import Derived.Test.YtamikhobdffnfaaGreatDoorTe24
import Derived.Test.YtamikhobdffnfaaGreatDoorTe20
set_option linter.all false
set_option maxRecDepth 1000000
set_option maxHeartbeats 40000000
section
namespace Go.AV
open Go Go.Proofs
section
variable {T:List Tok}
theorem failF_bad {fin:Fault} {code:Int} (hf:¬ fin.code=0) (hc:¬ code=0) (p:Nat) (b:Bool) (q:RQ T):(failF fin code p b q).ok=false:=by
 unfold failF;split
 ·unfold RQ.ok;simp only;split
  ·simpa using hf
  ·simpa using hc
 ·rename_i h;simpa using h
theorem beginsF_ok {q:RQ T} (h:beginsF q=true):q.ok=true∧q.at_<T.length:=by
 cases ho:q.ok with
 | false=>simp[beginsF,kindF,namedF,isF,ho] at h
 | true =>
  refine ⟨rfl,?_⟩;cases hl:decide (q.at_<T.length) with
  | false=>simp only[beginsF,kindF,namedF,isF,hl,Bool.false_and,Bool.and_false,Bool.or_false] at h;cases h
  | true=>simpa using hl
end
section
variable {T:List Tok} {ln cl:Int} {r:Nat}
theorem rterm_ok (hT:TOk T) (hlen2:T.length≤2147483640):∀ k,k≤60→RTermOk T ln cl r k:=by
 have hf12:¬ (finL ln cl).code=0:=by show ¬ (12:Int)=0;decide
 intro k
 induction k with
 | zero =>
  intro _ s q d KV Kp hr hk;have hr2:=hr;simp only[go_sem] at hr2;unfold termF at hk;refine Den.drop ?_;(refine Den.of_body (C:=cx) Tryz.func95 rfl rfl (gC6 rfl) ?_;refine wpC_ok (V:=[0,1,4,5,8,26,35,54,61,68,78,88]) _ _ _ _ ?_;simp only[go_sem,Tryz.ntmps95,Tryz.f95]);(intro b4 hb4;try simp only[gD6,gA6,ne_eq] at hb4);have e4:=St.ne_of hr (by first|exact hb4|exact hb4.2|exact hb4.2.2|exact hb4.2.2.2|exact hb4.2.2.2.2|exact hb4.2.2.2.2.2|exact hb4.2.2.2.2.2.2);simp only[go_sem,hr2,hb4,e4];refine begins170_den (ln:=ln) (cl:=cl) (q:=q) (d:=d) (by simp only[gA1,gA2,gA3,gA6,ne_eq,gA9,reduceIte,hr2,hb4,e4,hr]<;>(first|done|rfl|assumption)) ?_;cases hb:beginsF q with
  | false =>
   rw[hb] at hk;simp only[gD7,if_false] at hk;simp only[go_sem,hr2,hb4,e4];refine fail46_den (ln:=ln) (cl:=cl) (q:=q) (d:=d) hT 11 q.at_ true (by simp only[gA1,gA2,gA3,gA6,ne_eq,gA9,reduceIte,hr2,hb4,e4,hr]<;>(first|done|rfl|assumption)) ?_;simp only[go_sem,hr2,hb4,e4];simp only[go_sem] at hk;exact DK.mk hk (by (refine gel_ge ?_;repeat (first|exact gel_refl _ _ _|refine gel_gs_gs ?_|refine gel_to_gs gs_self ?_|refine gB1 ?_|refine gB2 ?_|refine gel_set (by simp only[gA1,gA2,gA3,gA6,ne_eq,gA9,reduceIte,hr2,hb4,e4]<;>(first|done|rfl|assumption)) ?_|refine gB3 ?_|refine gel_new (by first|simp only[hb4]|assumption) ?_))) (Tm.le_leaf _ _ _ _)
  | true =>
   rw[hb,if_pos rfl] at hk;simp only at hk;simp only[go_sem,hr2,hb4,e4];refine node171_den (ln:=ln) (cl:=cl) (q:=q) (d:=d) hT 61 q.at_ (by simp only[gA1,gA2,gA3,gA6,ne_eq,gA9,reduceIte,hr2,hb4,e4,hr]<;>(first|done|rfl|assumption)) ?_
   have hbad:(nodeF (finL ln cl) 61 q.at_ q).ok=false:=by
    have ho:=(beginsF_ok hb).1;unfold nodeF;simp only;rw[if_pos (show ({ q with nodes:=IntKind.i64.wrap (q.nodes+1) }:RQ T).ok=true from ho),if_pos (by decide)];exact failF_bad hf12 (by decide) _ _ _
   generalize nodeF (finL ln cl) 61 q.at_ q=q2 at hk hbad ⊢;simp only[go_sem,hr2,hb4,e4]
   have hq3:∀ q3:RQ T,q3=(if q2.over=true then failF (finL ln cl) 3 q2.at_ false q2 else q2)→q3.ok=false:=by
    intro q3 e;subst e;split
    ·exact failF_bad hf12 (by decide) _ _ _
    ·exact hbad
   have h3:=hq3 _ rfl;cases ho:q2.over with
   | true =>
    rw[ho,if_pos rfl] at hk h3;simp only[go_sem,hr2,hb4,e4,ho,rqO,rqC];refine fail46_den (ln:=ln) (cl:=cl) (q:=q2) (d:=d) hT 3 q2.at_ false (by simp only[gA1,gA2,gA3,gA6,ne_eq,gA9,reduceIte,hr2,hb4,e4,ho,rqO,rqC]<;>(first|done|rfl|assumption)) ?_;simp only[go_sem,hr2,hb4,e4,ho,rqO,rqC];refine ok45_den (ln:=ln) (cl:=cl) (q:=failF (finL ln cl) 3 q2.at_ false q2) (d:=d) (by simp only[go_sem,hr2,hb4,e4,ho,rqO,rqC,gA1]) ?_;rw[h3];simp only[go_sem,hr2,hb4,e4,ho,rqO,rqC];simp only[go_sem,ho] at hk;exact DK.mk hk (by (refine gel_ge ?_;repeat (first|exact gel_refl _ _ _|refine gel_gs_gs ?_|refine gel_to_gs gs_self ?_|refine gB1 ?_|refine gB2 ?_|refine gel_set (by simp only[gA1,gA2,gA3,gA6,ne_eq,gA9,reduceIte,hr2,hb4,e4,ho,rqO,rqC]<;>(first|done|rfl|assumption)) ?_|refine gB3 ?_|refine gel_new (by first|simp only[hb4]|assumption) ?_))) (Tm.le_leaf _ _ _ _)
   | false =>
    rw[ho,if_neg (by simp)] at hk h3;simp only[go_sem,hr2,hb4,e4,ho,rqO,rqC];refine ok45_den (ln:=ln) (cl:=cl) (q:=q2) (d:=d) (by simp only[gA1,gA2,gA3,gA6,ne_eq,gA9,reduceIte,hr2,hb4,e4,ho,rqO,rqC]<;>(first|done|rfl|assumption)) ?_;rw[h3];simp only[go_sem,hr2,hb4,e4,ho,rqO,rqC];simp only[go_sem,ho] at hk;exact DK.mk hk (by (refine gel_ge ?_;repeat (first|exact gel_refl _ _ _|refine gel_gs_gs ?_|refine gel_to_gs gs_self ?_|refine gB1 ?_|refine gB2 ?_|refine gel_set (by simp only[gA1,gA2,gA3,gA6,ne_eq,gA9,reduceIte,hr2,hb4,e4,ho,rqO,rqC]<;>(first|done|rfl|assumption)) ?_|refine gB3 ?_|refine gel_new (by first|simp only[hb4]|assumption) ?_))) (Tm.le_leaf _ _ _ _)
 | succ k ih =>
  intro hk60 s q d KV Kp hr hk;have IH:=ih (by omega);rw[show (61-(k+1):Nat)=60-k by omega];have hr2:=hr;simp only[go_sem] at hr2;have hlen:=hT.len;unfold termF at hk;refine Den.drop ?_;(refine Den.of_body (C:=cx) Tryz.func95 rfl rfl (gC6 rfl) ?_;refine wpC_ok (V:=[0,1,4,5,8,26,35,54,61,68,78,88]) _ _ _ _ ?_;simp only[go_sem,Tryz.ntmps95,Tryz.f95]);(intro b4 hb4;try simp only[gD6,gA6,ne_eq] at hb4);have e4:=St.ne_of hr (by first|exact hb4|exact hb4.2|exact hb4.2.2|exact hb4.2.2.2|exact hb4.2.2.2.2|exact hb4.2.2.2.2.2|exact hb4.2.2.2.2.2.2);simp only[go_sem,hr2,hb4,e4];refine begins170_den (ln:=ln) (cl:=cl) (q:=q) (d:=d) (by simp only[gA1,gA2,gA3,gA6,ne_eq,gA9,reduceIte,hr2,hb4,e4,hr]<;>(first|done|rfl|assumption)) ?_;cases hb:beginsF q with
  | false =>
   rw[hb] at hk;simp only[gD7,if_false] at hk;simp only[go_sem,hr2,hb4,e4];refine fail46_den (ln:=ln) (cl:=cl) (q:=q) (d:=d) hT 11 q.at_ true (by simp only[gA1,gA2,gA3,gA6,ne_eq,gA9,reduceIte,hr2,hb4,e4,hr]<;>(first|done|rfl|assumption)) ?_;simp only[go_sem,hr2,hb4,e4];simp only[go_sem] at hk;exact DK.mk hk (by (refine gel_ge ?_;repeat (first|exact gel_refl _ _ _|refine gel_gs_gs ?_|refine gel_to_gs gs_self ?_|refine gB1 ?_|refine gB2 ?_|refine gel_set (by simp only[gA1,gA2,gA3,gA6,ne_eq,gA9,reduceIte,hr2,hb4,e4]<;>(first|done|rfl|assumption)) ?_|refine gB3 ?_|refine gel_new (by first|simp only[hb4]|assumption) ?_))) (Tm.le_leaf _ _ _ _)
  | true =>
   have hlt0:=(beginsF_ok hb).2;rw[hb,if_pos rfl] at hk;simp only at hk;simp only[go_sem,hr2,hb4,e4];refine node171_den (ln:=ln) (cl:=cl) (q:=q) (d:=d) hT (60-k) q.at_ (by simp only[gA1,gA2,gA3,gA6,ne_eq,gA9,reduceIte,hr2,hb4,e4,hr]<;>(first|done|rfl|assumption)) ?_;have hat2:(nodeF (finL ln cl) (60-k) q.at_ q).at_=q.at_:=nodeF_at _ _ _;generalize nodeF (finL ln cl) (60-k) q.at_ q=q2 at hk hat2 ⊢;simp only[go_sem,hr2,hb4,e4];have rest:∀ (q3:RQ T) (K1 K2:St→A→Prop) (s1:St),True:=fun _ _ _ _=>trivial
   cases ho:q2.over with
   | true =>
    rw[ho,if_pos rfl] at hk;have h3:(failF (finL ln cl) 3 q2.at_ false q2).ok=false:=failF_bad hf12 (by decide) _ _ _;rw[h3] at hk;simp only[gD7,if_false] at hk;simp only[go_sem,hr2,hb4,e4,ho,rqO,rqC];refine fail46_den (ln:=ln) (cl:=cl) (q:=q2) (d:=d) hT 3 q2.at_ false (by simp only[gA1,gA2,gA3,gA6,ne_eq,gA9,reduceIte,hr2,hb4,e4,ho,rqO,rqC]<;>(first|done|rfl|assumption)) ?_;simp only[go_sem,hr2,hb4,e4,ho,rqO,rqC];refine ok45_den (ln:=ln) (cl:=cl) (q:=failF (finL ln cl) 3 q2.at_ false q2) (d:=d) (by simp only[go_sem,hr2,hb4,e4,ho,rqO,rqC,gA1]) ?_;rw[h3];simp only[go_sem,hr2,hb4,e4,ho,rqO,rqC];simp only[go_sem,ho] at hk;exact DK.mk hk (by (refine gel_ge ?_;repeat (first|exact gel_refl _ _ _|refine gel_gs_gs ?_|refine gel_to_gs gs_self ?_|refine gB1 ?_|refine gB2 ?_|refine gel_set (by simp only[gA1,gA2,gA3,gA6,ne_eq,gA9,reduceIte,hr2,hb4,e4,ho,rqO,rqC]<;>(first|done|rfl|assumption)) ?_|refine gB3 ?_|refine gel_new (by first|simp only[hb4]|assumption) ?_))) (Tm.le_leaf _ _ _ _)
   | false =>
    rw[ho,if_neg (show ¬ (false=true) by simp)] at hk;simp only[go_sem,hr2,hb4,e4,ho,rqO,rqC];refine ok45_den (ln:=ln) (cl:=cl) (q:=q2) (d:=d) (by simp only[gA1,gA2,gA3,gA6,ne_eq,gA9,reduceIte,hr2,hb4,e4,ho,rqO,rqC]<;>(first|done|rfl|assumption)) ?_;cases h3:q2.ok with
    | false =>
     rw[h3] at hk;simp only[gD7,if_false] at hk;simp only[go_sem,hr2,hb4,e4,ho,rqO,rqC];simp only[go_sem,ho] at hk;exact DK.mk hk (by (refine gel_ge ?_;repeat (first|exact gel_refl _ _ _|refine gel_gs_gs ?_|refine gel_to_gs gs_self ?_|refine gB1 ?_|refine gB2 ?_|refine gel_set (by simp only[gA1,gA2,gA3,gA6,ne_eq,gA9,reduceIte,hr2,hb4,e4,ho,rqO,rqC]<;>(first|done|rfl|assumption)) ?_|refine gB3 ?_|refine gel_new (by first|simp only[hb4]|assumption) ?_))) (Tm.le_leaf _ _ _ _)
    | true =>
     rw[h3,if_pos rfl] at hk;have hlt:q2.at_<T.length:=by rw[hat2];exact hlt0
     have hg:=RQ.get hlt;have h0:(0:Int)≤(q2.at_:Int):=by omega
     have hmem:=RQ.mem hlt;have eq5:q2.inc.over=false:=by rw[RQ.inc_over,ho]
     simp only[go_sem,hr2,hb4,e4,ho,rqO,rqC];(refine draw_ok (V:=[0,1,4,5,8,26,35,54,61,68,78,88]) (OT.l [0,1,2,3,4,5,6,7,8,9,10,11] .nil) [(10,[3,7,9])] mixed_cx (by decide +kernel) ?_;simp only[go_sem,hr2,hb4,e4,ho,rqO,rqC,hg,hlt,h0,Int.toNat_natCast,Option.map]);(intro b5 hb5;try simp only[gD6,gA6,ne_eq] at hb5);have e5:=St.ne_of hr (by first|exact hb5|exact hb5.2|exact hb5.2.2|exact hb5.2.2.2|exact hb5.2.2.2.2|exact hb5.2.2.2.2.2|exact hb5.2.2.2.2.2.2);generalize q2.tok=t at hk hmem hg;simp only[go_sem,hr2,hb4,e4,ho,rqO,rqC,hb5,e5,wrap1 q2.at_ (by omega)];have hia:=RQ.inc_at hlt;cases c2:decide (t.kind=2) with
     | true =>
      rw[if_pos (by simpa using c2)] at hk;simp only[go_sem,hr2,hb4,e4,ho,rqO,rqC,hb5,e5,hia,c2];simp only[go_sem,ho,hia] at hk;exact DK.mk hk (by (refine gel_ge ?_;repeat (first|exact gel_refl _ _ _|refine gel_gs_gs ?_|refine gel_to_gs gs_self ?_|refine gB1 ?_|refine gB2 ?_|refine gel_set (by simp only[gA1,gA2,gA3,gA6,ne_eq,gA9,reduceIte,hr2,hb4,e4,ho,rqO,rqC,hb5,e5,hia]<;>(first|done|rfl|assumption)) ?_|refine gB3 ?_|refine gel_new (by first|simp only[hb4,hb5]|assumption) ?_))) (Tm.le_leaf _ _ _ _)
     | false =>
     rw[if_neg (by simpa using c2)] at hk;simp only[go_sem,hr2,hb4,e4,ho,rqO,rqC,hb5,e5,hia,c2];cases c3:decide (t.kind=3) with
     | true =>
      rw[if_pos (by simpa using c3)] at hk;simp only[go_sem,hr2,hb4,e4,ho,rqO,rqC,hb5,e5,hia,c3];simp only[go_sem,ho,hia] at hk;exact DK.mk hk (by (refine gel_ge ?_;repeat (first|exact gel_refl _ _ _|refine gel_gs_gs ?_|refine gel_to_gs gs_self ?_|refine gB1 ?_|refine gB2 ?_|refine gel_set (by simp only[gA1,gA2,gA3,gA6,ne_eq,gA9,reduceIte,hr2,hb4,e4,ho,rqO,rqC,hb5,e5,hia]<;>(first|done|rfl|assumption)) ?_|refine gB3 ?_|refine gel_new (by first|simp only[hb4,hb5]|assumption) ?_))) (Tm.le_leaf _ _ _ _)
     | false =>
     rw[if_neg (by simpa using c3)] at hk;simp only[go_sem,hr2,hb4,e4,ho,rqO,rqC,hb5,e5,hia,c3];cases c1:decide (t.kind=1) with
     | false =>
      rw[if_neg (by simpa using c1)] at hk;simp only[go_sem,hr2,hb4,e4,ho,rqO,rqC,hb5,e5,hia,c1];refine other173_den (ln:=ln) (cl:=cl) (q:=q2.inc) (d:=d) hT k (by omega) hlen2 IH t hmem (by simp only[gA1,gA2,gA3,gA6,ne_eq,gA9,reduceIte,hr2,hb4,e4,ho,rqO,rqC,hb5,e5,hia,RQ.inc_f,RQ.inc_first,RQ.inc_nodes,RQ.inc_over]<;>(first|done|rfl|assumption)) ?_;simp only[Tm.enc_eq] at hk;simp only[go_sem,hr2,hb4,e4,ho,rqO,rqC,hb5,e5,hia,Tm.enc_eq];simp only[go_sem,ho,hia] at hk;exact DK.st hk (by (refine gel_ge ?_;repeat (first|exact gel_refl _ _ _|refine gel_gs_gs ?_|refine gel_to_gs gs_self ?_|refine gB1 ?_|refine gB2 ?_|refine gel_set (by simp only[gA1,gA2,gA3,gA6,ne_eq,gA9,reduceIte,hr2,hb4,e4,ho,rqO,rqC,hb5,e5,hia]<;>(first|done|rfl|assumption)) ?_|refine gB3 ?_|refine gel_new (by first|simp only[hb4,hb5]|assumption) ?_)))
     | true =>
     rw[if_pos (by simpa using c1)] at hk;simp only[go_sem,hr2,hb4,e4,ho,rqO,rqC,hb5,e5,hia,c1];cases c4:decide (t.text=[116,114,117,101]) with
     | true =>
      rw[if_pos (by simpa using c4)] at hk;simp only[go_sem,hr2,hb4,e4,ho,rqO,rqC,hb5,e5,hia,c4];simp only[go_sem,ho,hia] at hk;exact DK.mk hk (by (refine gel_ge ?_;repeat (first|exact gel_refl _ _ _|refine gel_gs_gs ?_|refine gel_to_gs gs_self ?_|refine gB1 ?_|refine gB2 ?_|refine gel_set (by simp only[gA1,gA2,gA3,gA6,ne_eq,gA9,reduceIte,hr2,hb4,e4,ho,rqO,rqC,hb5,e5,hia]<;>(first|done|rfl|assumption)) ?_|refine gB3 ?_|refine gel_new (by first|simp only[hb4,hb5]|assumption) ?_))) (Tm.le_leaf _ _ _ _)
     | false =>
     rw[if_neg (by simpa using c4)] at hk;simp only[go_sem,hr2,hb4,e4,ho,rqO,rqC,hb5,e5,hia,c4,c1];cases c5:decide (t.text=[102,97,108,115,101]) with
     | true =>
      rw[if_pos (by simpa using c5)] at hk;simp only[go_sem,hr2,hb4,e4,ho,rqO,rqC,hb5,e5,hia,c5];simp only[go_sem,ho,hia] at hk;exact DK.mk hk (by (refine gel_ge ?_;repeat (first|exact gel_refl _ _ _|refine gel_gs_gs ?_|refine gel_to_gs gs_self ?_|refine gB1 ?_|refine gB2 ?_|refine gel_set (by simp only[gA1,gA2,gA3,gA6,ne_eq,gA9,reduceIte,hr2,hb4,e4,ho,rqO,rqC,hb5,e5,hia]<;>(first|done|rfl|assumption)) ?_|refine gB3 ?_|refine gel_new (by first|simp only[hb4,hb5]|assumption) ?_))) (Tm.le_leaf _ _ _ _)
     | false =>
     rw[if_neg (by simpa using c5)] at hk;simp only[go_sem,hr2,hb4,e4,ho,rqO,rqC,hb5,e5,hia,c5,c1];refine app172_den (ln:=ln) (cl:=cl) (q:=q2.inc) (d:=d) hT k (by omega) IH t.text (by simp only[gA1,gA2,gA3,gA6,ne_eq,gA9,reduceIte,hr2,hb4,e4,ho,rqO,rqC,hb5,e5,hia,RQ.inc_f,RQ.inc_first,RQ.inc_nodes,RQ.inc_over]<;>(first|done|rfl|assumption)) ?_;simp only[Tm.enc_eq] at hk;simp only[go_sem,hr2,hb4,e4,ho,rqO,rqC,hb5,e5,hia,Tm.enc_eq];simp only[go_sem,ho,hia] at hk;exact DK.st hk (by (refine gel_ge ?_;repeat (first|exact gel_refl _ _ _|refine gel_gs_gs ?_|refine gel_to_gs gs_self ?_|refine gB1 ?_|refine gB2 ?_|refine gel_set (by simp only[gA1,gA2,gA3,gA6,ne_eq,gA9,reduceIte,hr2,hb4,e4,ho,rqO,rqC,hb5,e5,hia]<;>(first|done|rfl|assumption)) ?_|refine gB3 ?_|refine gel_new (by first|simp only[hb4,hb5]|assumption) ?_)))
theorem whole44_den {q:RQ T} {d:Dc} {s:St} {KV Kp:St→A→Prop} (hT:TOk T) (hlen2:T.length≤2147483640) (hr:s.getO r=some (rqO ln cl q d)) (hk:KV (s.setO r (rqO ln cl (wholeF (finL ln cl) q).2 d)) (wholeF (finL ln cl) q).1.enc):Den cx 44 [.ptr r 0] KV Kp s:=by
 have hr2:=hr;simp only[go_sem] at hr2;unfold wholeF at hk;refine Den.drop ?_;(refine Den.of_body (C:=cx) Tryz.func44 rfl rfl (gC6 rfl) ?_;refine wpC_ok (V:=[0,2]) _ _ _ _ ?_;simp only[go_sem,Tryz.ntmps44,Tryz.f44]);(intro b2 hb2;try simp only[gD6,gA6,ne_eq] at hb2);have e2:=St.ne_of hr (by first|exact hb2|exact hb2.2|exact hb2.2.2|exact hb2.2.2.2|exact hb2.2.2.2.2|exact hb2.2.2.2.2.2|exact hb2.2.2.2.2.2.2);simp only[go_sem,hr2,hb2,e2];refine rterm_ok hT hlen2 60 (Nat.le_refl _) _ { q with first:=q.at_,nodes:=0 } d _ _ (by simp only[gA1,gA2,gA3,gA6,ne_eq,gA9,reduceIte,hr2,hb2,e2]<;>(first|done|rfl|assumption)) ?_;simp only[Tm.enc_eq] at hk;simp only[go_sem,hr2,hb2,e2,Tm.enc_eq];simp only[go_sem] at hk;exact DK.st hk (by (refine gel_ge ?_;repeat (first|exact gel_refl _ _ _|refine gel_gs_gs ?_|refine gel_to_gs gs_self ?_|refine gB1 ?_|refine gB2 ?_|refine gel_set (by simp only[gA1,gA2,gA3,gA6,ne_eq,gA9,reduceIte,hr2,hb2,e2]<;>(first|done|rfl|assumption)) ?_|refine gB3 ?_|refine gel_new (by first|simp only[hb2]|assumption) ?_)))
end
end Go.AV
end
section
namespace Go.AV
open Go Go.Proofs
def ctC (w:Str) (i l c:Nat) (sg out:A) (f:Fault):List A:=[.str w,.int .i64 i,.int .i64 l,.int .i64 c,sg,out,.int .i64 f.code,.str f.name,.int .i64 f.line,.int .i64 f.col]
def ctO (w:Str) (i l c:Nat) (sg out:A) (f:Fault):Ob:=.cells 138 (ctC w i l c sg out f)
attribute [go_sem] ctO ctC
section
variable {s:St} {KV Kp:St→A→Prop} {r:Nat} {w:Str} {i l c:Nat} {sg out:A} {f:Fault}
theorem take94_den (n:Nat) (hr:s.getO r=some (ctO w i l c sg out f)) (hx:w.length≤4294967280) (hn:i+n≤w.length) (hl:l≤i+1) (hc:c≤i+1)
  (hk:KV (s.setO r (ctO w (i+n) (adv (l,c) ((w.drop i).take n)).1 (adv (l,c) ((w.drop i).take n)).2 sg out f)) (.tuple [])) :
  Den cx 94 [.ptr r 0,.int .i64 n] KV Kp s:=by
 refine Den.drop ?_;(refine Den.of_body (C:=cx) Tryz.func94 rfl rfl (gC6 rfl) ?_;refine wpC_ok (V:=[0,1,4,5,6,16]) _ _ _ _ ?_;simp only[go_sem,Tryz.ntmps94,Tryz.f94])
 refine Ex.loop (ι:=Nat) (fun j=>[(0,.ptr r 0),(4,.int .i64 n),(5,.int .i64 (j:Nat))])
  (fun j=>s.setO r (ctO w (i+j) (adv (l,c) ((w.drop i).take j)).1 (adv (l,c) ((w.drop i).take j)).2 sg out f))
  (fun j=>j≤n) (fun j=>n-j) 0 (Nat.zero_le _) ?_ ?_ ?_
 ·simp only[go_sem];rfl
 ·simp only[Nat.add_zero,List.take_zero,adv];exact St.ge_same hr
 ·intro j hj;refine wpC_ok (V:=[0,1,4,5,6,16]) _ _ _ _ ?_;have hb:=adv_le ((w.drop i).take j) (l,c) i hl hc;have hlen:((w.drop i).take j).length=j:=by rw[List.length_take,gD4];omega
  rw[hlen] at hb;simp only[go_sem]
  (first|refine gC8 (fun h=>?_) (fun h=>?_)|refine gC9 (fun h=>?_) (fun h=>?_)|refine gD1 (fun h=>?_) (fun h=>?_))<;>simp only[go_sem,h]
  ·have hin:j<n:=by simpa using h
   have hix:i+j<w.length:=by omega
   obtain ⟨d,hd⟩:∃ d,w[i+j]?=some d:=⟨_,List.getElem?_eq_getElem hix⟩
   (refine draw_ok (V:=[0,1,4,5,6,16]) (OT.l [0,1,2,3,4,5,6,7,8,9] .nil) [] mixed_cx (by decide +kernel) ?_;simp only[go_sem,hd,hix])
   have hst:adv (l,c) ((w.drop i).take (j+1))=adv (adv (l,c) ((w.drop i).take j)) [d]:=by
    rw[List.take_add_one,List.getElem?_drop,hd,adv_app];rfl
   have e5:IntKind.i64.wrap ((j:Int)+1)=((j+1:Nat):Int):=wrap1 j (by omega);have e1:IntKind.i64.wrap (((i+j:Nat):Int)+1)=((i+(j+1):Nat):Int):=by rw[wrap1 _ (by omega)];rfl
   have e2:IntKind.i64.wrap (((adv (l,c) ((w.drop i).take j)).1:Int)+1)=(((adv (l,c) ((w.drop i).take j)).1+1:Nat):Int):=wrap1 _ (by omega);have e3:IntKind.i64.wrap (((adv (l,c) ((w.drop i).take j)).2:Int)+1)=(((adv (l,c) ((w.drop i).take j)).2+1:Nat):Int):=wrap1 _ (by omega);have e4:IntKind.i64.wrap ((0:Int)+1)=1:=by decide
   (first|refine gC8 (fun h=>?_) (fun h=>?_)|refine gC9 (fun h=>?_) (fun h=>?_)|refine gD1 (fun h=>?_) (fun h=>?_))<;>simp only[go_sem,h,e1,e2,e3,e4,e5]
   ·have hd10:d=10:=by
     have:d.toNat=10:=by simp at h;omega
     exact UInt8.toNat_inj.1 this
    refine ⟨j+1,by omega,by omega,rfl,?_⟩;rw[hst];simp only[adv,hd10,if_true];exact St.ge.refl _
   ·have hd10:¬ d=10:=by rintro rfl;simp at h
    refine ⟨j+1,by omega,by omega,rfl,?_⟩;rw[hst];simp only[adv,hd10,if_false];exact St.ge.refl _
  ·have hin:j=n:=by simp at h;omega
   subst hin;exact DK.here hk
theorem blank187_den (b:UInt8) (hk:KV s (.bool (isBlank b))):Den cx 187 [.int .u8 b.toNat] KV Kp s:=by
 have e:∀ k:UInt8,decide (b=k)=decide ((b.toNat:Int)=(k.toNat:Int)):=fun k=>by
  rw[decide_eq_decide];constructor
  ·rintro rfl;rfl
  ·intro h;exact UInt8.toNat_inj.1 (by omega)
 unfold isBlank at hk;rw[show decide (b=32)=decide ((b.toNat:Int)=32) from e 32,show decide (b=9)=decide ((b.toNat:Int)=9) from e 9,show decide (b=10)=decide ((b.toNat:Int)=10) from e 10,show decide (b=13)=decide ((b.toNat:Int)=13) from e 13] at hk;refine Den.drop ?_;(refine Den.of_body (C:=cx) Tryz.func187 rfl rfl (gC6 rfl) ?_;refine wpC_ok (V:=[0,2]) _ _ _ _ ?_;simp only[go_sem,Tryz.ntmps187,Tryz.f187])
 (repeat' (first|exact DK.st hk (by (repeat (first|exact St.ge.refl _|refine St.ge_set (by simp only[]) ?_)))|((first|refine gC8 (fun h=>?_) (fun h=>?_)|refine gC9 (fun h=>?_) (fun h=>?_)|refine gD1 (fun h=>?_) (fun h=>?_))<;>simp only[go_sem,h]<;>(try simp only[h,Bool.true_and,Bool.false_and,Bool.and_true,Bool.and_false,Bool.or_true,Bool.true_or,Bool.or_false,Bool.false_or,Bool.not_true,Bool.not_false] at hk))))
theorem begins188_den (x:Str) (hr:s.getO r=some (ctO w i l c sg out f)) (hx:w.length≤4294967280) (hi:i≤w.length) (hp:x.length≤4294967280) (hk:KV s (.bool (hasPre (w.drop i) x))):Den cx 188 [.ptr r 0,.str x] KV Kp s:=by
 have e1:IntKind.i64.wrap ((w.length:Int)-(i:Int))=((w.length-i:Nat):Int):=by rw[wrap_in _ (by omega) (by omega)];omega
 have e2:IntKind.i64.wrap ((i:Int)+(x.length:Int))=((i+x.length:Nat):Int):=by rw[wrap_in _ (by omega) (by omega)];omega
 unfold hasPre at hk;rw[gD4] at hk;refine Den.drop ?_;(refine Den.of_body (C:=cx) Tryz.func188 rfl rfl (gC6 rfl) ?_;refine wpC_ok (V:=[0,1,4]) _ _ _ _ ?_;simp only[go_sem,Tryz.ntmps188,Tryz.f188]);by_cases h:x.length≤w.length-i
 ·have d1:decide (x.length≤w.length-i)=true:=decide_eq_true h;have b1:i≤i+x.length:=by omega
  have b2:i+x.length≤w.length:=by omega
  rw[d1] at hk;(refine draw_ok (V:=[0,1,4]) (OT.l [0,1,2,3,4,5,6,7,8,9,10,11,12,13,14,15,16,17,18,19,20,21,22,23,24,25,26,27,28,29,30,31,32,33] .nil) [] mixed_cx (by decide +kernel) ?_;simp only[go_sem,hr,e1,e2,d1,b1,b2]);rw[show i+x.length-i=x.length by omega];rw[Bool.true_and] at hk;exact DK.here hk
 ·have d1:decide (x.length≤w.length-i)=false:=decide_eq_false h;rw[d1] at hk;(refine draw_ok (V:=[0,1,4]) (OT.l [0,1,2,3,4,5,6,7,8,9,10,11,12,13,14,15,16,17,18,19,20,21,22,23,24,25,26,27,28,29,30,31,32,33] .nil) [] mixed_cx (by decide +kernel) ?_;simp only[go_sem,hr,e1,e2,d1]);exact DK.here hk
theorem name190_den (j:Nat) (hr:s.getO r=some (ctO w i l c sg out f)) (hx:w.length≤4294967280) (hj:j≤w.length) (hk:KV s (.int .i64 ((w.drop j).takeWhile fun c=>isPart c.toNat).length)):Den cx 190 [.ptr r 0,.int .i64 j] KV Kp s:=by
 refine Den.drop ?_;(refine Den.of_body (C:=cx) Tryz.func190 rfl rfl (gC6 rfl) ?_;refine wpC_ok (V:=[0,1,4,5,47]) _ _ _ _ ?_;simp only[go_sem,Tryz.ntmps190,Tryz.f190])
 refine Ex.loop (ι:=Nat) (fun n=>[(0,.ptr r 0),(1,.int .i64 j),(5,.int .i64 (n:Nat))]) (fun _=>s)
  (fun n=>j+n≤w.length∧((w.drop j).takeWhile fun c=>isPart c.toNat).length=n+((w.drop (j+n)).takeWhile fun c=>isPart c.toNat).length) (fun n=>w.length-(j+n)) 0 ⟨hj,by simp⟩ ?_ (St.ge.refl s) ?_
 ·simp only[go_sem,hr]
  try rfl
 rintro n ⟨hn,he⟩;refine wpC_ok (V:=[0,1,4,5,47]) _ _ _ _ ?_;have e2:IntKind.i64.wrap ((j:Int)+(n:Int))=((j+n:Nat):Int):=by rw[wrap_in _ (by omega) (by omega)];omega
 have e3:IntKind.i64.wrap ((n:Int)+1)=((n+1:Nat):Int):=wrap1 n (by omega);by_cases hlt:j+n<w.length
 ·have d1:decide (j+n<w.length)=true:=decide_eq_true hlt;obtain ⟨d,v,hdr⟩:∃ d v,w.drop (j+n)=d::v:=⟨_,_,List.drop_eq_getElem_cons hlt⟩
  have hd:w[j+n]?=some d:=by
   have:=congrArg (·[0]?) hdr;simpa using this
  have hdr2:w.drop (j+(n+1))=v:=by
   rw[show j+(n+1)=j+n+1 from rfl,← List.drop_drop,hdr];rfl
  have fin:isPart d.toNat=true→j+(n+1)≤w.length∧((w.drop j).takeWhile fun c=>isPart c.toNat).length=n+1+((w.drop (j+(n+1))).takeWhile fun c=>isPart c.toNat).length:=fun hp=>by
   refine ⟨by omega,?_⟩;rw[he,hdr,List.takeWhile_cons_of_pos (p:=fun c:UInt8=>isPart c.toNat) hp,gC1,hdr2];omega
  have stop:isPart d.toNat=false→((w.drop j).takeWhile fun c=>isPart c.toNat).length=n:=fun hp=>by
   rw[he,hdr,List.takeWhile_cons_of_neg (p:=fun c:UInt8=>isPart c.toNat) (by simp only[hp];decide)];rfl
  have ep:=isPart_eq (d.toNat:Int);simp only[go_sem,hr,e2,d1,hd,hlt];refine letter189_den _ _ _ _ ?_;simp only[go_sem,hr];cases hL:isLet (d.toNat:Int) with
  | true =>
   rw[hL,Bool.true_or] at ep;simp only[go_sem,hr,e3];exact ⟨n+1,fin ep,by omega,rfl,St.ge.refl _⟩
  | false =>
   rw[hL,Bool.false_or] at ep;simp only[go_sem,hr,e2,hd,hlt];refine digit193_den _ _ _ _ ?_;simp only[go_sem,hr];cases hD:isDig (d.toNat:Int) with
   | true =>
    rw[hD,Bool.true_or] at ep;simp only[go_sem,hr,e3];exact ⟨n+1,fin ep,by omega,rfl,St.ge.refl _⟩
   | false =>
    rw[hD,Bool.false_or] at ep;simp only[go_sem,hr,e2,hd,hlt];cases hU:decide ((d.toNat:Int)=95) with
    | true =>
     rw[hU] at ep;simp only[go_sem,hr,hU,e3];exact ⟨n+1,fin ep,by omega,rfl,St.ge.refl _⟩
    | false =>
     rw[hU] at ep;rw[stop ep] at hk;simp only[go_sem,hr,hU];exact DK.here hk
 ·have d1:decide (j+n<w.length)=false:=decide_eq_false hlt;simp only[go_sem,hr,e2,d1];have:j+n=w.length:=by omega
  rw[he,this,List.drop_length] at hk;exact DK.here hk
end
end Go.AV
end
section
namespace Go.AV
open Go Go.Proofs
section
variable {s:St} {KV Kp:St→A→Prop} {r:Nat} {w:Str} {i l c:Nat} {sg out:A} {f:Fault}
theorem skip104_den (hr:s.getO r=some (ctO w i l c sg out f)) (hx:w.length≤4294967280) (hi:i≤w.length) (hl:l≤i+1) (hc:c≤i+1)
  (hk:KV (s.setO r (ctO w (i+blks (w.drop i)) (adv (l,c) ((w.drop i).take (blks (w.drop i)))).1 (adv (l,c) ((w.drop i).take (blks (w.drop i)))).2 sg out f)) (.tuple [])) :
  Den cx 104 [.ptr r 0] KV Kp s:=by
 refine Den.drop ?_;(refine Den.of_body (C:=cx) Tryz.func104 rfl rfl (gC6 rfl) ?_;refine wpC_ok (V:=[0,27,37,61]) _ _ _ _ ?_;simp only[go_sem,Tryz.ntmps104,Tryz.f104])
 refine Ex.loop (ι:=Nat) (fun _=>[(0,.ptr r 0)])
  (fun k=>s.setO r (ctO w (i+k) (adv (l,c) ((w.drop i).take k)).1 (adv (l,c) ((w.drop i).take k)).2 sg out f))
  (fun k=>i+k≤w.length∧blks (w.drop i)=k+blks (w.drop (i+k))) (fun k=>w.length-(i+k)) 0 ⟨by omega,by simp⟩ ?_ ?_ ?_
 ·simp only[go_sem]
  try rfl
 ·simp only[Nat.add_zero,List.take_zero,adv];exact St.ge_same hr
 rintro k ⟨hkx,hb⟩;have hlen:((w.drop i).take k).length=k:=by rw[List.length_take,gD4];omega
 have hal:=adv_le ((w.drop i).take k) (l,c) i hl hc;rw[hlen] at hal
 have hstep:∀ m,adv (l,c) ((w.drop i).take (k+m))=adv (adv (l,c) ((w.drop i).take k)) ((w.drop (i+k)).take m):=by
  intro m;rw[List.take_add,adv_app,List.drop_drop]
 refine wpC_ok (V:=[0,27,37,61]) _ _ _ _ ?_;by_cases hlt:i+k<w.length;rotate_left
 ·have d1:decide (i+k<w.length)=false:=decide_eq_false hlt;have e0:i+k=w.length:=by omega
  rw[e0,List.drop_length,blks_nil,Nat.add_zero] at hb;rw[hb] at hk;(refine draw_ok (V:=[0,27,37,61]) (OT.l [0,1,2,3,4,5,6,7,8,9,10,11,12,13,14,15,16,17,18,19,20,21,22,23,24,25] .nil) [] mixed_cx (by decide +kernel) ?_;simp only[go_sem,d1]);exact DK.here hk
 have d1:decide (i+k<w.length)=true:=decide_eq_true hlt;obtain ⟨d,v,hdr⟩:∃ d v,w.drop (i+k)=d::v:=⟨_,_,List.drop_eq_getElem_cons hlt⟩
 have hd:w[i+k]?=some d:=by
  have:=congrArg (·[0]?) hdr;simpa using this
 have one:isBlank d=true→i+(k+1)≤w.length∧blks (w.drop i)=k+1+blks (w.drop (i+(k+1))):=fun h=>by
  refine ⟨by omega,?_⟩;rw[hb,hdr,blks_blank h,show i+(k+1)=i+k+1 from rfl,← List.drop_drop,hdr];simp;omega
 (refine draw_ok (V:=[0,27,37,61]) (OT.l [0,1,2,3,4,5,6,7,8,9,10,11,12,13,14,15,16,17,18,19,20,21,22,23,24,25] .nil) [] mixed_cx (by decide +kernel) ?_;simp only[go_sem,d1,hd,hlt]);refine blank187_den d ?_;simp only[go_sem];cases hB:isBlank d with
 | true =>
  simp only[go_sem];(refine draw_ok (V:=[0,27,37,61]) (OT.l [0,1,2,3,4,5,6,7,8,9] .nil) [] mixed_cx (by decide +kernel) ?_;simp only[go_sem,hd,hlt]);refine blank187_den d ?_;simp only[go_sem,hB];refine take94_den (i:=i+k) 1 (by simp only[gA1,gA2,gA3,gA6,ne_eq,gA9,reduceIte,]<;>(first|done|rfl|assumption)) hx (by omega) (by omega) (by omega) ?_;simp only[go_sem];refine ⟨k+1,one hB,by omega,?_⟩;rw[hstep 1];exact St.ge.refl _
 | false =>
  simp only[go_sem];refine begins188_den (i:=i+k) [47,47] (by simp only[gA1,gA2,gA3,gA6,ne_eq,gA9,reduceIte,]<;>(first|done|rfl|assumption)) hx (by omega) (by decide) ?_;rw[hdr];cases hP:hasPre (d::v) [47,47] with
  | false =>
   rw[hdr,blks_none hB hP,Nat.add_zero] at hb;rw[hb] at hk;simp only[go_sem];exact DK.here hk
  | true =>
   simp only[go_sem];(refine draw_ok (V:=[0,27,37,61]) (OT.l [0,1,2,3,4,5,6,7,8,9] .nil) [] mixed_cx (by decide +kernel) ?_;simp only[go_sem,hd,hlt]);refine blank187_den d ?_;simp only[go_sem,hB];have ht:=takeWhile_pre hP;have hbt:=blks_note hB hP;rw[← hdr] at ht hbt;generalize hT:((w.drop (i+k)).takeWhile fun c=>!decide (c=10)).length=t at ht hbt
   refine Ex.loop (ι:=Nat) (fun _=>[(0,.ptr r 0)])
    (fun m=>s.setO r (ctO w (i+(k+m)) (adv (l,c) ((w.drop i).take (k+m))).1 (adv (l,c) ((w.drop i).take (k+m))).2 sg out f))
    (fun m=>i+(k+m)≤w.length∧t=m+((w.drop (i+(k+m))).takeWhile fun c=>!decide (c=10)).length) (fun m=>w.length-(i+(k+m))) 0 ⟨by omega,by simp[hT]⟩ ?_ ?_ ?_
   ·simp only[go_sem]
    try rfl
   ·exact St.ge.refl _
   rintro m ⟨hmx,hm⟩;have hlen2:((w.drop i).take (k+m)).length=k+m:=by rw[List.length_take,gD4];omega
   have hal2:=adv_le ((w.drop i).take (k+m)) (l,c) i hl hc;rw[hlen2] at hal2;refine wpC_ok (V:=[0,27,37,61]) _ _ _ _ ?_
   have done:t=m→i+(k+t)≤w.length∧blks (w.drop i)=k+t+blks (w.drop (i+(k+t))):=fun e=>by
    subst e;refine ⟨hmx,?_⟩;rw[hb,hbt,List.drop_drop,Nat.add_assoc,Nat.add_assoc]
   by_cases hlt2:i+(k+m)<w.length;rotate_left
   ·have d2:decide (i+(k+m)<w.length)=false:=decide_eq_false hlt2;have e0:i+(k+m)=w.length:=by omega
    rw[e0,List.drop_length] at hm;have hm:t=m:=hm;(refine draw_ok (V:=[0,27,37,61]) (OT.l [0,1,2,3,4,5,6,7,8,9,10,11,12,13,14,15,16,17,18,19,20,21] .nil) [] mixed_cx (by decide +kernel) ?_;simp only[go_sem,d2]);subst hm;exact ⟨k+t,done rfl,by omega,St.ge.refl _⟩
   have d2:decide (i+(k+m)<w.length)=true:=decide_eq_true hlt2;obtain ⟨d',v',hdr'⟩:∃ d v,w.drop (i+(k+m))=d::v:=⟨_,_,List.drop_eq_getElem_cons hlt2⟩
   have hd':w[i+(k+m)]?=some d':=by
    have:=congrArg (·[0]?) hdr';simpa using this
   rw[hdr'] at hm
   have e10:decide ((d'.toNat:Int)=10)=decide (d'=10):=by
    rw[decide_eq_decide];constructor
    ·intro h;exact UInt8.toNat_inj.1 (by show d'.toNat=10;omega)
    ·rintro rfl;rfl
   cases hN:decide (d'=10) with
   | true =>
    rw[List.takeWhile_cons_of_neg (by simp only[hN];decide)] at hm;have hm:t=m:=hm;(refine draw_ok (V:=[0,27,37,61]) (OT.l [0,1,2,3,4,5,6,7,8,9,10,11,12,13,14,15,16,17,18,19,20,21] .nil) [] mixed_cx (by decide +kernel) ?_;simp only[go_sem,d2,hd',hlt2,e10,hN]);subst hm;exact ⟨k+t,done rfl,by omega,St.ge.refl _⟩
   | false =>
    rw[List.takeWhile_cons_of_pos (by simp only[hN];decide),gC1] at hm;(refine draw_ok (V:=[0,27,37,61]) (OT.l [0,1,2,3,4,5,6,7,8,9,10,11,12,13,14,15,16,17,18,19,20,21] .nil) [] mixed_cx (by decide +kernel) ?_;simp only[go_sem,d2,hd',hlt2,e10,hN]);refine take94_den (i:=i+(k+m)) 1 (by simp only[gA1,gA2,gA3,gA6,ne_eq,gA9,reduceIte,]<;>(first|done|rfl|assumption)) hx (by omega) (by omega) (by omega) ?_;simp only[go_sem];refine ⟨m+1,⟨by omega,?_⟩,by omega,?_⟩
    ·rw[show i+(k+(m+1))=i+(k+m)+1 by omega,← List.drop_drop,hdr'];simp only[List.drop_succ_cons,List.drop_zero];omega
    ·have hst:adv (l,c) ((w.drop i).take (k+(m+1)))=adv (adv (l,c) ((w.drop i).take (k+m))) ((w.drop (i+(k+m))).take 1):=by
      rw[← Nat.add_assoc,List.take_add,adv_app,List.drop_drop]
     rw[hst];exact St.ge.refl _
end
end Go.AV
end
section
namespace Go.AV
open Go
theorem idx_hd (c:UInt8) (w:Str):Lib.indexByte (c::w) c=0:=by
 unfold Lib.indexByte;rw[if_pos (by simp)]
theorem idx_tl {d c:UInt8} (w:Str) (h:¬ d=c):Lib.indexByte (d::w) c=if Lib.indexByte w c=-1 then -1 else Lib.indexByte w c+1:=by
 conv=>lhs;unfold Lib.indexByte
 rw[if_neg (by simpa using h)];simp only[beq_iff_eq]
theorem text_yes:∀ (r:Str),r[(r.takeWhile okB).length]?=some 34→Lib.indexByte r 34=((r.takeWhile okB).length:Int)
 | [],h=>by simp at h
 | d::w,h=>by
  by_cases hd:okB d=true
  ·rw[List.takeWhile_cons_of_pos hd,gC1,List.getElem?_cons_succ] at h;have ih:=text_yes w h;have hne:¬ d=34:=by rintro rfl;revert hd;decide
   rw[List.takeWhile_cons_of_pos hd,gC1];rw[idx_tl w hne];have:0≤Lib.indexByte w 34:=by rw[ih];omega
   split
   ·omega
   ·rw[ih];omega
  ·rw[List.takeWhile_cons_of_neg hd,gC3,List.getElem?_cons_zero] at h;cases h;rw[List.takeWhile_cons_of_neg hd];rw[idx_hd];rfl
theorem text_no:∀ (r:Str),¬ r[(r.takeWhile okB).length]?=some 34→Lib.indexByte r 34<0∨(r.take (Lib.indexByte r 34).toNat).all okB=false
 | [],_=>.inl (by decide)
 | d::w,h=>by
  have hge:=Lib.indexByte_ge w 34;by_cases hd:okB d=true
  ·rw[List.takeWhile_cons_of_pos hd,gC1,List.getElem?_cons_succ] at h;have hne:¬ d=34:=by rintro rfl;revert hd;decide
   rcases text_no w h with ih|ih
   ·left;rw[idx_tl w hne];split<;>omega
   ·rw[idx_tl w hne];split
    ·left;omega
    ·right;rename_i h0;rw[show (Lib.indexByte w 34+1).toNat=(Lib.indexByte w 34).toNat+1 by omega,List.take_succ_cons,List.all_cons,ih,Bool.and_false]
  ·rw[List.takeWhile_cons_of_neg hd,gC3,List.getElem?_cons_zero] at h;have hne:¬ d=34:=by rintro rfl;exact h rfl
   rw[idx_tl w hne];split
   ·left;omega
   ·right;rename_i h0;rw[show (Lib.indexByte w 34+1).toNat=(Lib.indexByte w 34).toNat+1 by omega,List.take_succ_cons,List.all_cons,show okB d=false by simpa using hd,Bool.false_and]
theorem all_take_tw (p:UInt8→Bool):∀ (r:Str),(r.take (r.takeWhile p).length).all p=true
 | []=>rfl
 | d::w=>by
  by_cases hd:p d=true
  ·rw[List.takeWhile_cons_of_pos hd,gC1,List.take_succ_cons,List.all_cons,hd,all_take_tw p w];rfl
  ·rw[List.takeWhile_cons_of_neg hd];rfl
theorem text_tok (r:Str) (sg:List Str) (op:Bool) (h:r[(r.takeWhile okB).length]?=some 34∧(r.takeWhile okB).length≤200) :
  tokOf (34::r) sg op=(⟨3,r.take (r.takeWhile okB).length,0,0,0⟩,(r.takeWhile okB).length+2,true):=by
 have e:=text_yes r h.1;simp only[tokOf];rw[if_neg (by decide),if_neg (by decide),if_pos trivial,e];rw[show (((r.takeWhile okB).length:Int)+2).toNat=(r.takeWhile okB).length+2 by omega,Nat.add_sub_cancel]
 have:isStr (r.take (r.takeWhile okB).length)=true:=by
  unfold isStr;rw[all_take_tw,Bool.true_and,List.length_take];exact decide_eq_true (by omega)
 rw[this,show decide (1<(r.takeWhile okB).length+2)=true from decide_eq_true (by omega)];rfl
theorem text_bad (r:Str) (sg:List Str) (op:Bool) (h:¬ (r[(r.takeWhile okB).length]?=some 34∧(r.takeWhile okB).length≤200)):(tokOf (34::r) sg op).2.2=false:=by
 have hge:=Lib.indexByte_ge r 34;simp only[tokOf];rw[if_neg (by decide),if_neg (by decide),if_pos trivial];simp only;by_cases h1:r[(r.takeWhile okB).length]?=some 34
 ·have e:=text_yes r h1
  have h2:200<(r.takeWhile okB).length:=by
   by_cases h3:(r.takeWhile okB).length≤200
   ·exact absurd ⟨h1,h3⟩ h
   ·omega
  rw[e,show (((r.takeWhile okB).length:Int)+2).toNat=(r.takeWhile okB).length+2 by omega,Nat.add_sub_cancel];have hl:=tw_le okB r
  have:isStr (r.take (r.takeWhile okB).length)=false:=by
   unfold isStr;rw[List.length_take,Nat.min_eq_left hl,show decide ((r.takeWhile okB).length≤200)=false from decide_eq_false (by omega),Bool.and_false]
  rw[this,Bool.and_false]
 ·rcases text_no r h1 with h2|h2
  ·rw[show (Lib.indexByte r 34+2).toNat=1 by omega];rfl
  ·have:isStr (r.take ((Lib.indexByte r 34+2).toNat-2))=false:=by
    unfold isStr;rw[show (Lib.indexByte r 34+2).toNat-2=(Lib.indexByte r 34).toNat by omega,h2,Bool.false_and]
   rw[this,Bool.and_false]
def capS (n:Nat) (d:UInt8):Nat:=min (10 * n+(d.toNat-48)) 2147483648
theorem cap_foldl:∀ (x:Str) (a:Nat),x.foldl capS (min a 2147483648)=min (x.foldl (fun n d=>n * 10+(d.toNat-48)) a) 2147483648
 | [],a=>rfl
 | d::x,a=>by
  simp only[List.foldl_cons];rw[← cap_foldl x];congr 1;unfold capS;omega
theorem cap_num (x:Str):x.foldl capS 0=min (numOf x) 2147483648:=cap_foldl x 0
theorem foldl_ge:∀ (x:Str) (a:Nat),a * 10 ^ x.length≤x.foldl (fun n d=>n * 10+(d.toNat-48)) a
 | [],a=>by simp
 | d::x,a=>by
  simp only[List.foldl_cons,gC1];refine Nat.le_trans ?_ (foldl_ge x _);rw[Nat.pow_succ,Nat.mul_comm (10 ^ x.length) 10,← Nat.mul_assoc];exact Nat.mul_le_mul_right _ (by omega)
theorem num_drop:∀ (x:Str),numOf (x.dropWhile (eqB 48))=numOf x
 | []=>rfl
 | d::x=>by
  by_cases h:eqB 48 d=true
  ·rw[List.dropWhile_cons_of_pos h,num_drop x];have:d=48:=by simpa [eqB] using h
   subst this;rfl
  ·rw[List.dropWhile_cons_of_neg h]
theorem num_big (x:Str) (hd:digits x) (hl:10<(x.dropWhile (eqB 48)).length):2147483647<numOf x:=by
 rw[← num_drop];have hsub:∀ c,c∈x.dropWhile (eqB 48)→c∈x:=fun c hc=>(List.dropWhile_sublist _).subset hc
 have hh:∀ c r,x.dropWhile (eqB 48)=c::r→eqB 48 c=false:=by
  intro c r h;have:=List.head?_dropWhile_not (eqB 48) x;rw[h] at this;simpa using this
 generalize x.dropWhile (eqB 48)=g at hl hsub hh;cases g with
 | nil=>simp at hl
 | cons c r =>
  have h1:=hh c r rfl;have h2:=hd c (hsub c (by simp))
  have h3:¬ c.toNat=48:=fun e=>by
   have:c=48:=UInt8.toNat_inj.1 e;subst this;cases h1
  simp only[numOf,List.foldl_cons,Nat.zero_mul,Nat.zero_add];refine Nat.lt_of_lt_of_le ?_ (foldl_ge r _);have h4:10≤r.length:=by simp only[gC1] at hl;omega
  have h5:10 ^ 10≤10 ^ r.length:=Nat.pow_le_pow_right (by omega) h4;have h6:1 * 10 ^ r.length≤(c.toNat-48) * 10 ^ r.length:=Nat.mul_le_mul_right _ (by omega);have h7:(10:Nat) ^ 10=10000000000:=by decide
  omega
theorem num_tok (x:Str) (h:¬ (2147483647<numOf (x.take (x.takeWhile fun c=>isDig c.toNat).length)∨∃ c,x[(x.takeWhile fun c=>isDig c.toNat).length]?=some c∧isPart c.toNat=true)) (hd:digits (x.take (x.takeWhile fun c=>isDig c.toNat).length)) :
  numTok x=(⟨2,[],numOf (x.take (x.takeWhile fun c=>isDig c.toNat).length),0,0⟩,(x.takeWhile fun c=>isDig c.toNat).length,true):=by
 unfold numTok;simp only;rw[if_neg (fun h1=>h (h1.elim (fun h2=>.inl (num_big _ hd h2)) .inr)),num_drop];rw[show decide (numOf (x.take (x.takeWhile fun c=>isDig c.toNat).length)≤2147483647)=true from decide_eq_true (by omega)]
theorem num_bad (x:Str) (h:2147483647<numOf (x.take (x.takeWhile fun c=>isDig c.toNat).length)∨∃ c,x[(x.takeWhile fun c=>isDig c.toNat).length]?=some c∧isPart c.toNat=true):(numTok x).2.2=false:=by
 unfold numTok;simp only;split
 ·rfl
 ·rename_i h1;rcases h with h|h
  ·rw[num_drop];exact decide_eq_false (by omega)
  ·exact absurd (.inr h) h1
theorem digits_tw (x:Str):digits (x.take (x.takeWhile fun c=>isDig c.toNat).length):=by
 intro d hd;have:=List.all_eq_true.1 (all_take_tw (fun c=>isDig c.toNat) x) d hd;simp only[isDig,gD5,decide_eq_true_eq] at this;omega
end Go.AV
end
section
namespace Go.AV
open Go Go.Proofs
def ctS (s:St) (r:Nat) (w:Str) (i l c:Nat) (sg:A) (tk:Option Nat) (acc:List Tok) (f:Fault):St:=gs (s.setO r (ctO w i l c sg (gv tk (acc.map Tok.enc)) f)) tk acc.length 60
section
variable {s:St} {KV Kp:St→A→Prop} {r:Nat} {w:Str} {i l c:Nat} {sg out:A} {f:Fault}
theorem fail191_den (b:UInt8) (hr:s.getO r=some (ctO w i l c sg out f)) (hx:w.length≤4294967280) (hb:w[i]?=some b)
  (hk:KV (s.setO r (ctO w i l c sg out ⟨10,[b],l,c⟩)) (.tuple [])):Den cx 191 [.ptr r 0] KV Kp s:=by
 have hi:i<w.length:=(List.getElem?_eq_some_iff.1 hb).1;have e1:IntKind.i64.wrap ((i:Int)+1)=((i+1:Nat):Int):=wrap1 i (by omega);refine Den.drop ?_;(refine Den.of_body (C:=cx) Tryz.func191 rfl rfl (gC6 rfl) ?_;refine wpC_ok (V:=[0]) _ _ _ _ ?_;simp only[go_sem,Tryz.ntmps191,Tryz.f191]);(refine draw_ok (V:=[0]) (OT.l [0,1,2,3,4,5,6,7,8,9,10,11,12,13,14,15,16,17,18,19,20,21,22,23,24,25,26] .nil) [] mixed_cx (by decide +kernel) ?_;simp only[go_sem,hr,e1,hi,Nat.le_of_lt hi]);have et:List.take 1 (List.drop i w)=[b]:=by rw[List.drop_eq_getElem_cons hi];have:=(List.getElem?_eq_some_iff.1 hb).2;simp[this]
 refine ⟨⟨by omega,by omega⟩,?_⟩;rw[show i+1-i=1 by omega,et];exact DK.here hk
theorem add192_den (t:Tok) (n:Nat) (tk:Option Nat) (acc:List Tok) (hn:tk=none→acc=[]) (hf:∀ u,tk=some u→s.getT u=none) (hacc:acc.length≤4294967280) (hx:w.length≤4294967280) (hi:i+n≤w.length)
  (hl:l≤i+1) (hc:c≤i+1)
  (hk:∀ u,s.getT u=none→KV (ctS s r w (i+n) (adv (l,c) ((w.drop i).take n)).1 (adv (l,c) ((w.drop i).take n)).2 sg (some u) (acc++[⟨t.kind,t.text,t.n,l,c⟩]) f) (.tuple [])) :
  Den cx 192 [.ptr r 0,t.enc,.int .i64 n] KV Kp (ctS s r w i l c sg tk acc f):=by
 unfold ctS;refine Den.drop ?_;(refine Den.of_body (C:=cx) Tryz.func192 rfl rfl (gC6 rfl) ?_;refine wpC_ok (V:=[0,1,2,4]) _ _ _ _ ?_;simp only[go_sem,Tryz.ntmps192,Tryz.f192]);(intro b2 hb2;try simp only[gA5,gA6,gD6,ne_eq] at hb2);simp only[go_sem,hb2]
 have hne:¬ b2=r∧¬ r=b2:=by
  constructor<;>rintro rfl<;>simp at hb2
 (refine draw_ok (V:=[0,1,2,4]) (OT.l [0,1,2,3,4,5,6,7,8,9,10,11] .nil) [(9,[7])] mixed_cx (by decide +kernel) ?_;simp only[go_sem,hb2,hne]);(refine draw_ok (V:=[0,1,2,4]) (OT.l [0,1,2,3,4,5,6,7,8,9,10] .nil) [] mixed_cx (by decide +kernel) ?_;simp only[go_sem,hb2,hne]);refine ⟨by decide,by simp[A.cells],appL_gv rfl rfl (by rw[gC4];exact gs_ok fun e=>by rw[hn e];rfl) (fun y hy=>by simp only[List.mem_map] at hy;obtain ⟨z,_,rfl⟩:=hy;rfl) (by simp;omega) fun u hu=>?_⟩;have hft:s.getT u=none:=by have:=gs_free hu (fun v hv=>hf v hv);exact this
 rw[gs_set hu];simp only[go_sem,hb2,hne];refine take94_den (r:=r) (i:=i) n (by simp only[gA1,gA2,gA3,gA6,ne_eq,gA9,reduceIte,hb2,hne]<;>(first|done|rfl|assumption)) hx hi hl hc ?_;simp only[go_sem,hb2];have hk':=hk u hft;unfold ctS at hk';rw[List.map_append] at hk';refine DK.st hk' ?_;simp only[gs,gC2,gC1,gC3,Nat.zero_add];refine St.ge_setT (St.ge_mid ?_ hne.1);simp only[gA6,gA1,hne,if_false,reduceIte] at hb2;exact hb2.2
theorem isText1_den (b:UInt8) (hk:KV s (.bool (okB b))):Den cx 263 [.str [b]] KV Kp s:=by
 refine Den.drop ?_;(refine Den.of_body (C:=cx) Tryz.func263 rfl rfl (gC6 rfl) ?_;refine wpC_ok (V:=[0,2,3,5,6,7,30]) _ _ _ _ ?_;simp only[go_sem,Tryz.ntmps263,Tryz.f263]);have ok:okB b=(decide (32≤b.toNat)&&(decide (b.toNat≤126)&&(!decide (b=34)&&!decide (b=92)))):=rfl;have f1:decide ((b.toNat:Int)<32)=!decide (32≤b.toNat):=by rw[← decide_not];congr 1;apply propext;omega
 have f2:decide ((126:Int)<b.toNat)=!decide (b.toNat≤126):=by rw[← decide_not];congr 1;apply propext;omega
 have f3:decide ((b.toNat:Int)=34)=decide (b=34):=by
  congr 1;apply propext;exact ⟨fun h=>UInt8.toNat_inj.1 (by show b.toNat=34;omega),fun h=>by rw[h];rfl⟩
 have f4:decide ((b.toNat:Int)=92)=decide (b=92):=by
  congr 1;apply propext;exact ⟨fun h=>UInt8.toNat_inj.1 (by show b.toNat=92;omega),fun h=>by rw[h];rfl⟩
 refine Ex.loop (ι:=Nat) (fun i=>[(0,.str [b]),(2,.bool false),(5,.int .i64 1),(6,.int .i64 i)]) (fun _=>s) (fun i=>i≤1∧(i=1→okB b=true)) (fun i=>1-i) 0 ⟨by omega,fun h=>by omega⟩ ?_ (St.ge.refl s) ?_
 ·simp only[go_sem];exact ⟨rfl,rfl⟩
 rintro i ⟨hi,hok⟩;refine wpC_ok (V:=[0,2,3,5,6,7,30]) _ _ _ _ ?_;have d01:decide (((0:Nat):Int)<1)=true:=rfl;have d11:decide (((1:Nat):Int)<1)=false:=rfl;have w1:IntKind.i64.wrap (((0:Nat):Int)+1)=((1:Nat):Int):=by decide
 rcases Nat.eq_zero_or_pos i with rfl|hp
 ·simp only[go_sem,d01,f1,f2,f3,f4,w1];cases o1:decide (32≤b.toNat)<;>cases o2:decide (b.toNat≤126)<;>cases o3:decide (b=34)<;>cases o4:decide (b=92)
  all_goals (rw[o1,o2,o3,o4] at ok;simp only[go_sem,f1,f2,f3,f4,o1,o2,o3,o4,w1,Int.natCast_zero])
  all_goals first
   | (rw[ok] at hk;exact DK.here hk)
   | exact ⟨1,⟨by omega,fun _=>ok⟩,by omega,by decide,St.ge.refl _⟩
 ·obtain rfl:i=1:=by omega
  rw[hok rfl] at hk;simp only[go_sem,d11];exact DK.here hk
end
section
variable {s:St} {KV Kp:St→A→Prop} {r:Nat} {w:Str} {i l c:Nat} {sg:A} {tk:Option Nat} {acc:List Tok}
def Cut1 (KV:St→A→Prop) (s:St) (r:Nat) (w:Str) (i l c:Nat) (sg:A) (tk:Option Nat) (acc:List Tok):Tok × Nat × Bool→Prop
 | (t,n,true)=>∀ u,s.getT u=none→KV (ctS s r w (i+n) (adv (l,c) ((w.drop i).take n)).1 (adv (l,c) ((w.drop i).take n)).2 sg (some u) (acc++[⟨t.kind,t.text,t.n,l,c⟩]) Fault.none) (.tuple [])
 | (_,_,false)=>KV (ctS s r w i l c sg tk acc ⟨10,(w.drop i).take 1,l,c⟩) (.tuple [])
theorem Cut1.bad {x:Tok × Nat × Bool} (h:x.2.2=false) (hk:Cut1 KV s r w i l c sg tk acc x):KV (ctS s r w i l c sg tk acc ⟨10,(w.drop i).take 1,l,c⟩) (.tuple []):=by
 obtain ⟨t,n,b⟩:=x;cases b with
 | false=>exact hk
 | true=>cases h
theorem ctS_getO:(ctS s r w i l c sg tk acc Fault.none).getO r=some (ctO w i l c sg (gv tk (acc.map Tok.enc)) Fault.none):=by
 unfold ctS;rw[gA6,gA1,if_pos rfl]
theorem ctS_fail (hf:∀ u,tk=some u→s.getT u=none) (f:Fault):((ctS s r w i l c sg tk acc Fault.none).setO r (ctO w i l c sg (gv tk (acc.map Tok.enc)) f)).ge (ctS s r w i l c sg tk acc f):=by
 unfold ctS;cases tk with
 | none =>
  refine ⟨fun d x hx=>?_,fun u m hm=>hm,fun x hx=>hx⟩;simp only[gs] at hx ⊢;rw[gA1] at hx ⊢;split
  ·rename_i e;rw[if_pos e] at hx;exact hx
  ·rename_i e;rw[if_neg e] at hx;rw[gA1,if_neg e];exact hx
 | some u =>
  refine ⟨fun d x hx=>?_,fun u m hm=>hm,fun x hx=>hx⟩;simp only[gs] at hx ⊢;rw[gA3,gA1] at hx;rw[gA1,gA3,gA1];split
  ·rename_i e;rw[if_pos e] at hx;exact hx
  ·rename_i e;rw[if_neg e] at hx;exact hx
theorem fail_cut (hf:∀ u,tk=some u→s.getT u=none) (hx:w.length≤4294967280) (hi:i<w.length) (hk:KV (ctS s r w i l c sg tk acc ⟨10,(w.drop i).take 1,l,c⟩) (.tuple [])) :
  Den cx 191 [.ptr r 0] KV Kp (ctS s r w i l c sg tk acc Fault.none):=by
 have hb:w[i]?=some w[i]:=List.getElem?_eq_getElem hi;have et:List.take 1 (List.drop i w)=[w[i]]:=by rw[List.drop_eq_getElem_cons hi];rfl
 rw[et] at hk;refine Den.drop ?_;refine fail191_den w[i] ctS_getO hx hb ?_;exact DK.st hk (ctS_fail hf _)
theorem text195_den (b:Str) (hw:w.drop i=34::b) (hn:tk=none→acc=[]) (hf:∀ u,tk=some u→s.getT u=none) (hacc:acc.length≤4294967280) (hx:w.length≤4294967280)
  (hl:l≤i+1) (hc:c≤i+1) (sgs:List Str) (op:Bool) (hk:Cut1 KV s r w i l c sg tk acc (tokOf (w.drop i) sgs op)):Den cx 195 [.ptr r 0] KV Kp (ctS s r w i l c sg tk acc Fault.none):=by
 have hlen:i+1+b.length=w.length:=by have:=congrArg List.length hw;rw[gD4,gC1] at this;omega
 have hwb:∀ k,w[i+1+k]?=b[k]?:=fun k=>by
  have:=congrArg (·[k+1]?) hw;rw[List.getElem?_drop] at this;simpa [Nat.add_assoc,Nat.add_comm 1 k] using this
 have hwd:w.drop (i+1)=b:=by rw[← List.drop_drop,hw];rfl
 have htl:=tw_le okB b;have e0:IntKind.i64.wrap ((i:Int)+1)=((i+1:Nat):Int):=wrap1 i (by omega);have hr:=ctS_getO (s:=s) (r:=r) (w:=w) (i:=i) (l:=l) (c:=c) (sg:=sg) (tk:=tk) (acc:=acc);rw[hw] at hk;generalize hY:ctS s r w i l c sg tk acc Fault.none=Y at hr ⊢;refine Den.drop ?_;(refine Den.of_body (C:=cx) Tryz.func195 rfl rfl (gC6 rfl) ?_;refine wpC_ok (V:=[0,2,25,53]) _ _ _ _ ?_;simp only[go_sem,Tryz.ntmps195,Tryz.f195]);simp only[go_sem,hr,e0]
 refine Ex.loop (ι:=Nat) (fun k=>[(0,.ptr r 0),(2,.int .i64 ((i+1+k:Nat):Int))]) (fun _=>Y)
  (fun k=>k≤b.length∧(b.takeWhile okB).length=k+((b.drop k).takeWhile okB).length) (fun k=>b.length-k) 0 ⟨Nat.zero_le _,by simp⟩ ?_ (St.ge.refl _) ?_
 ·simp only[go_sem,hr]
 rintro k ⟨hk1,hk2⟩;refine wpC_ok (V:=[0,2,25,53]) _ _ _ _ ?_;have ek:IntKind.i64.wrap (((i+1+k:Nat):Int)+1)=((i+1+k+1:Nat):Int):=wrap1 _ (by omega);have ek2:IntKind.i64.wrap (((i+1+k:Nat):Int)-(i:Int))=((k+1:Nat):Int):=by rw[wrap_in _ (by omega) (by omega)];omega
 have ek3:IntKind.i64.wrap (((k+1:Nat):Int)-1)=((k:Nat):Int):=by rw[wrap_in _ (by omega) (by omega)];omega
 have ek4:IntKind.i64.wrap (((i+1+k+1:Nat):Int)-(i:Int))=((k+2:Nat):Int):=by rw[wrap_in _ (by omega) (by omega)];omega
 have e200:decide ((200:Int)<((k:Nat):Int))=decide (200<k):=by congr 1;apply propext;omega
 have hwk:=hwb k;simp only[go_sem,hr,ek];by_cases hlt:k<b.length
 ·obtain ⟨d,hd⟩:∃ d,b[k]?=some d:=⟨_,List.getElem?_eq_getElem hlt⟩
  have hwd2:w[i+1+k]?=some d:=by rw[hwk,hd]
  have hltw:i+1+k<w.length:=by omega
  have d1:decide (i+1+k<w.length)=true:=decide_eq_true hltw
  have hdk:b.drop k=d::b.drop (k+1):=by
   rw[List.drop_eq_getElem_cons hlt];have:=(List.getElem?_eq_some_iff.1 hd).2;rw[this]
  simp only[go_sem,hr,d1,ek];refine ⟨⟨by omega,by omega⟩,?_⟩
  have et:List.take (i+1+k+1-(i+1+k)) (List.drop (i+1+k) w)=[d]:=by
   rw[show i+1+k+1-(i+1+k)=1 by omega,List.drop_eq_getElem_cons hltw];have:=(List.getElem?_eq_some_iff.1 hwd2).2;simp[this]
  rw[et];refine isText1_den d ?_;simp only[go_sem,hr];cases ho:okB d with
  | true =>
   simp only[go_sem,hr,ek];refine ⟨k+1,⟨by omega,?_⟩,by omega,?_,St.ge.refl _⟩
   ·rw[hk2,hdk,List.takeWhile_cons_of_pos ho,gC1];omega
   ·omega
  | false =>
   rw[hdk,List.takeWhile_cons_of_neg (by rw[ho];decide),gC3,Nat.add_zero] at hk2;have d2:decide (i+1+k=w.length)=false:=decide_eq_false (by omega);have n34:((d.toNat:Int)=34)=(d=34):=propext ⟨fun h=>UInt8.toNat_inj.1 (by show d.toNat=34;omega),fun h=>by rw[h];rfl⟩;simp only[go_sem,hr,d2,hwd2,hltw,ek2,ek3,e200,n34];by_cases h34:d=34
   ·have d34:decide (d=34)=true:=decide_eq_true h34;simp only[go_sem,hr,d34,ek2,ek3,e200];by_cases h200:200<k
    ·have d3:decide (200<k)=true:=decide_eq_true h200;simp only[go_sem,hr,d3];rw[← hY];refine fail_cut hf hx (by omega) ?_;simp only[go_sem,hr];exact DK.here (Cut1.bad (text_bad b sgs op (by rw[hk2];omega)) hk)
    ·have d3:decide (200<k)=false:=decide_eq_false h200;simp only[go_sem,hr,d3];(refine draw_ok (V:=[0,2,25,53]) (OT.l [0,1,2,3,4,5,6,7,8,9,10,11,12,13,14,15,16,17,18,19,20] .nil) [] mixed_cx (by decide +kernel) ?_;simp only[go_sem,hr,e0,ek,ek4]);refine ⟨⟨by omega,by omega⟩,?_⟩;rw[hwd,show i+1+k-(i+1)=k by omega,← hY];have ht:=text_tok b sgs op (by rw[hk2,hd,h34];exact ⟨rfl,by omega⟩);rw[ht,hk2] at hk;refine add192_den ⟨3,b.take k,0,0,0⟩ (k+2) tk acc hn hf hacc hx (by omega) hl hc ?_;intro u hu;simp only[go_sem,hr];exact DK.here (hk u hu)
   ·have d34:decide (d=34)=false:=decide_eq_false h34;simp only[go_sem,hr,d34];rw[← hY];refine fail_cut hf hx (by omega) ?_;simp only[go_sem,hr];refine DK.here (Cut1.bad (text_bad b sgs op (by rw[hk2,hd];rintro ⟨h,_⟩;exact h34 (Option.some.inj h))) hk)
 ·have d1:decide (i+1+k<w.length)=false:=decide_eq_false (by omega);have d2:decide (i+1+k=w.length)=true:=decide_eq_true (by omega);simp only[go_sem,hr,d1,d2];have hkb:k=b.length:=by omega
  rw[hkb,List.drop_length,List.takeWhile_nil,gC3,Nat.add_zero] at hk2;rw[← hY];refine fail_cut hf hx (by omega) ?_;simp only[go_sem,hr];exact DK.here (Cut1.bad (text_bad b sgs op (by rw[hk2];simp)) hk)
end
end Go.AV
end
section
namespace Go.AV
open Go Go.Proofs
section
variable {s:St} {KV Kp:St→A→Prop} {r:Nat} {w:Str} {i l c:Nat} {sg:A} {tk:Option Nat} {acc:List Tok}
theorem cap_le (x:Str):x.foldl capS 0≤2147483648:=by rw[cap_num];omega
theorem number194_den (hi:i<w.length) (hn:tk=none→acc=[]) (hf:∀ u,tk=some u→s.getT u=none) (hacc:acc.length≤4294967280) (hx:w.length≤4294967280)
  (hl:l≤i+1) (hc:c≤i+1) (hk:Cut1 KV s r w i l c sg tk acc (numTok (w.drop i))):Den cx 194 [.ptr r 0] KV Kp (ctS s r w i l c sg tk acc Fault.none):=by
 have hr:=ctS_getO (s:=s) (r:=r) (w:=w) (i:=i) (l:=l) (c:=c) (sg:=sg) (tk:=tk) (acc:=acc);generalize hY:ctS s r w i l c sg tk acc Fault.none=Y at hr ⊢;refine Den.drop ?_;(refine Den.of_body (C:=cx) Tryz.func194 rfl rfl (gC6 rfl) ?_;refine wpC_ok (V:=[0,2,3,29,61]) _ _ _ _ ?_;simp only[go_sem,Tryz.ntmps194,Tryz.f194])
 refine Ex.loop (ι:=Nat) (fun k=>[(0,.ptr r 0),(2,.int .i64 ((((w.drop i).take k).foldl capS 0:Nat):Int)),(3,.int .i64 k)]) (fun _=>Y)
  (fun k=>i+k≤w.length∧((w.drop i).takeWhile fun c=>isDig c.toNat).length=k+((w.drop (i+k)).takeWhile fun c=>isDig c.toNat).length) (fun k=>w.length-(i+k)) 0 ⟨by omega,by simp⟩ ?_ (St.ge.refl _) ?_
 ·simp only[go_sem,hr];exact ⟨rfl,rfl⟩
 rintro k ⟨hk1,hk2⟩;refine wpC_ok (V:=[0,2,3,29,61]) _ _ _ _ ?_;have ek:IntKind.i64.wrap ((i:Int)+(k:Int))=((i+k:Nat):Int):=by rw[wrap_in _ (by omega) (by omega)];omega
 have ek1:IntKind.i64.wrap ((k:Int)+1)=((k+1:Nat):Int):=wrap1 k (by omega)
 have part_at:0<((w.drop (i+k)).takeWhile fun c=>isPart c.toNat).length→∃ c,(w.drop i)[k]?=some c∧isPart c.toNat=true:=by
  intro h;rw[List.getElem?_drop];cases hdr:w.drop (i+k) with
  | nil=>rw[hdr] at h;simp at h
  | cons d v =>
   rw[hdr] at h
   have hd:w[i+k]?=some d:=by
    have:=congrArg (·[0]?) hdr;simpa using this
   refine ⟨d,hd,?_⟩;cases hp:isPart (d.toNat:Int) with
   | true=>rfl
   | false=>rw[List.takeWhile_cons_of_neg (p:=fun c:UInt8=>isPart c.toNat) (by simp only[hp];decide)] at h;simp at h
 have part_pos:∀ {c:UInt8},(w.drop i)[k]?=some c→isPart c.toNat=true→0<((w.drop (i+k)).takeWhile fun c=>isPart c.toNat).length:=by
  intro c h1 h2;rw[List.getElem?_drop] at h1;have hlt:=(List.getElem?_eq_some_iff.1 h1).1;rw[List.drop_eq_getElem_cons hlt,(List.getElem?_eq_some_iff.1 h1).2,List.takeWhile_cons_of_pos (p:=fun c:UInt8=>isPart c.toNat) h2];simp
 by_cases hlt:i+k<w.length
 ·have d1:decide (i+k<w.length)=true:=decide_eq_true hlt;obtain ⟨d,v,hdr⟩:∃ d v,w.drop (i+k)=d::v:=⟨_,_,List.drop_eq_getElem_cons hlt⟩
  have hd:w[i+k]?=some d:=by
   have:=congrArg (·[0]?) hdr;simpa using this
  have hdr2:w.drop (i+(k+1))=v:=by
   rw[show i+(k+1)=i+k+1 from rfl,← List.drop_drop,hdr];rfl
  (refine draw_ok (V:=[0,2,3,29,61]) (OT.l [0,1,2,3,4,5,6,7,8,9,10,11,12,13,14,15,16,17,18,19,20,21,22,23,24,25] .nil) [] mixed_cx (by decide +kernel) ?_;simp only[go_sem,hr,ek,d1,hd,hlt]);refine digit193_den _ _ _ _ ?_;simp only[go_sem,hr];cases ho:isDig (d.toNat:Int) with
  | true =>
   have hdg:48≤d.toNat∧d.toNat≤57:=by
    simp only[isDig,gD5,decide_eq_true_eq] at ho;omega
   have hcl:=cap_le ((w.drop i).take k)
   have u1:IntKind.u8.wrap ((d.toNat:Int)-48)=((d.toNat-48:Nat):Int):=by
    have:((d.toNat:Int)-48)=((d.toNat-48:Nat):Int):=by omega
    rw[this];generalize d.toNat-48=z at *;simp[IntKind.wrap,IntKind.signed,IntKind.bits];omega
   have u2:IntKind.i64.wrap ((d.toNat-48:Nat):Int)=((d.toNat-48:Nat):Int):=wrap_in _ (by omega) (by omega);have u3:IntKind.i64.wrap (10 * ((((w.drop i).take k).foldl capS 0:Nat):Int))=((10 * ((w.drop i).take k).foldl capS 0:Nat):Int):=by rw[wrap_in _ (by omega) (by omega)];omega
   have u4:IntKind.i64.wrap (((10 * ((w.drop i).take k).foldl capS 0:Nat):Int)+((d.toNat-48:Nat):Int))=((10 * ((w.drop i).take k).foldl capS 0+(d.toNat-48):Nat):Int):=by rw[wrap_in _ (by omega) (by omega)];omega
   simp only[go_sem,hr,ek,ek1];(refine draw_ok (V:=[0,2,3,29,61]) (OT.l [0,1,2,3,4,5,6,7,8,9,10,11,12,13,14,15,16,17] .nil) [] mixed_cx (by decide +kernel) ?_;simp only[go_sem,hr,ek,hd,hlt,u1,u2,u3,u4]);simp only[go_sem,hr,ek1];refine ⟨k+1,⟨by omega,?_⟩,by omega,⟨?_,rfl⟩,St.ge.refl _⟩
   ·rw[hk2,hdr,List.takeWhile_cons_of_pos (p:=fun c:UInt8=>isDig c.toNat) ho,gC1,hdr2];omega
   ·have et:List.take (k+1) (w.drop i)=(w.drop i).take k++[d]:=by rw[List.take_add_one,List.getElem?_drop,hd];rfl
    rw[et,List.foldl_append];simp only[List.foldl_cons,List.foldl_nil,capS];split<;>omega
  | false =>
   have hm:((w.drop i).takeWhile fun c=>isDig c.toNat).length=k:=by
    rw[hk2,hdr,List.takeWhile_cons_of_neg (p:=fun c:UInt8=>isDig c.toNat) (by simp only[ho];decide)];rfl
   simp only[go_sem,hr,ho]
   have eN:decide ((2147483647:Int)<(((((w.drop i).take k).foldl capS 0:Nat):Int)))=decide (2147483647<numOf ((w.drop i).take k)):=by
    rw[cap_num];congr 1;apply propext;omega
   cases hb:decide (2147483647<numOf ((w.drop i).take k)) with
   | true =>
    simp only[go_sem,hr,eN,hb];rw[← hY];refine fail_cut hf hx hi ?_;simp only[go_sem,hr];exact DK.here (Cut1.bad (num_bad _ (.inl (by rw[hm];exact of_decide_eq_true hb))) hk)
   | false =>
    simp only[go_sem,hr,eN,hb,ek];refine name190_den (i+k) (by simp only[gA1,gA2,gA3,gA6,ne_eq,gA9,reduceIte,hr]<;>(first|done|rfl|assumption)) hx hk1 ?_;simp only[go_sem,hr];by_cases hp:0<((w.drop (i+k)).takeWhile fun c=>isPart c.toNat).length
    ·have d5:decide ((0:Int)<(((w.drop (i+k)).takeWhile fun c=>isPart c.toNat).length:Int))=true:=decide_eq_true (by omega);simp only[go_sem,hr,d5];rw[← hY];refine fail_cut hf hx hi ?_;simp only[go_sem,hr];refine DK.here (Cut1.bad (num_bad _ (.inr ?_)) hk);rw[hm];exact part_at hp
    ·have d5:decide ((0:Int)<(((w.drop (i+k)).takeWhile fun c=>isPart c.toNat).length:Int))=false:=decide_eq_false (by omega);simp only[go_sem,hr,d5];rw[← hY];have hnum:=num_tok (w.drop i) (by rw[hm];rintro (h|⟨c,h1,h2⟩);exact absurd h (of_decide_eq_false hb);exact hp (part_pos h1 h2)) (digits_tw _);rw[hnum,hm] at hk
     have eM:((w.drop i).take k).foldl capS 0=numOf ((w.drop i).take k):=by
      have:=of_decide_eq_false hb;rw[cap_num];omega
     rw[eM];refine add192_den ⟨2,[],numOf ((w.drop i).take k),0,0⟩ k tk acc hn hf hacc hx hk1 hl hc ?_;intro u hu;simp only[go_sem,hr];exact DK.here (hk u hu)
 ·have d1:decide (i+k<w.length)=false:=decide_eq_false hlt
  have hm:((w.drop i).takeWhile fun c=>isDig c.toNat).length=k:=by
   have:i+k=w.length:=by omega
   rw[hk2,this,List.drop_length];rfl
  (refine draw_ok (V:=[0,2,3,29,61]) (OT.l [0,1,2,3,4,5,6,7,8,9,10,11,12,13,14,15,16,17,18,19,20,21,22,23,24,25] .nil) [] mixed_cx (by decide +kernel) ?_;simp only[go_sem,hr,ek,d1])
  have eN:decide ((2147483647:Int)<(((((w.drop i).take k).foldl capS 0:Nat):Int)))=decide (2147483647<numOf ((w.drop i).take k)):=by
   rw[cap_num];congr 1;apply propext;omega
  cases hb:decide (2147483647<numOf ((w.drop i).take k)) with
  | true =>
   simp only[go_sem,hr,eN,hb];rw[← hY];refine fail_cut hf hx hi ?_;simp only[go_sem,hr];exact DK.here (Cut1.bad (num_bad _ (.inl (by rw[hm];exact of_decide_eq_true hb))) hk)
  | false =>
   simp only[go_sem,hr,eN,hb,ek];refine name190_den (i+k) (by simp only[gA1,gA2,gA3,gA6,ne_eq,gA9,reduceIte,hr]<;>(first|done|rfl|assumption)) hx hk1 ?_;simp only[go_sem,hr];by_cases hp:0<((w.drop (i+k)).takeWhile fun c=>isPart c.toNat).length
   ·have d5:decide ((0:Int)<(((w.drop (i+k)).takeWhile fun c=>isPart c.toNat).length:Int))=true:=decide_eq_true (by omega);simp only[go_sem,hr,d5];rw[← hY];refine fail_cut hf hx hi ?_;simp only[go_sem,hr];refine DK.here (Cut1.bad (num_bad _ (.inr ?_)) hk);rw[hm];exact part_at hp
   ·have d5:decide ((0:Int)<(((w.drop (i+k)).takeWhile fun c=>isPart c.toNat).length:Int))=false:=decide_eq_false (by omega);simp only[go_sem,hr,d5];rw[← hY];have hnum:=num_tok (w.drop i) (by rw[hm];rintro (h|⟨c,h1,h2⟩);exact absurd h (of_decide_eq_false hb);exact hp (part_pos h1 h2)) (digits_tw _);rw[hnum,hm] at hk
    have eM:((w.drop i).take k).foldl capS 0=numOf ((w.drop i).take k):=by
     have:=of_decide_eq_false hb;rw[cap_num];omega
    rw[eM];refine add192_den ⟨2,[],numOf ((w.drop i).take k),0,0⟩ k tk acc hn hf hacc hx hk1 hl hc ?_;intro u hu;simp only[go_sem,hr];exact DK.here (hk u hu)
theorem Cut1.mono {KV':St→A→Prop} (h:∀ s,KV s (.tuple [])→KV' s (.tuple [])):∀ {x:Tok × Nat × Bool},Cut1 KV s r w i l c sg tk acc x→Cut1 KV' s r w i l c sg tk acc x
 | (_,_,true),hk=>fun u hu=>h _ (hk u hu)
 | (_,_,false),hk=>h _ hk
def signsR:List Str:=signsW++[[39],[95]]
theorem sign_app (b:UInt8) (v:Str):signTo (b::v) signsR 0=if signTo (b::v) signsW 0=0∧(b=39∨b=95) then 1 else signTo (b::v) signsW 0:=by
 have h1:∀ x:UInt8,hasPre (b::v) [x]=decide (b=x):=fun x=>by simp[hasPre]
 unfold signsR;rw[show signsW++[[39],[95]]=(signsW++[[39]])++[[95]] by simp,signTo_app,signTo_app];simp only[h1,gC1,gC3,decide_eq_true_eq,Nat.zero_add];generalize signTo (b::v) signsW 0=n;rcases Nat.eq_zero_or_pos n with rfl|hp
 ·by_cases h39:b=39
  ·simp[h39]
  ·by_cases h95:b=95
   ·simp[h95]
   ·simp[h39,h95]
 ·simp[show ¬ n<1 by omega,show ¬ n=0 by omega]
theorem isName1 (b:UInt8):isName [b]=isLet b.toNat:=by
 simp only[isName,List.all_cons,List.all_nil,Bool.and_true,gC1,gC3];cases h:isLet (b.toNat:Int) with
 | false=>simp
 | true=>simp[isPart,h]
theorem token105_den (tk2:Option Nat) (hi:i<w.length) (hn:tk=none→acc=[]) (hf:∀ u,tk=some u→s.getT u=none) (hacc:acc.length≤4294967280) (hx:w.length≤4294967280)
  (hl:l≤i+1) (hc:c≤i+1) (hk:Cut1 KV s r w i l c (.list tk2 (signsR.map .str)) tk acc (tokOf (w.drop i) signsW true)):Den cx 105 [.ptr r 0] KV Kp (ctS s r w i l c (.list tk2 (signsR.map .str)) tk acc Fault.none):=by
 have hr:=ctS_getO (s:=s) (r:=r) (w:=w) (i:=i) (l:=l) (c:=c) (sg:=.list tk2 (signsR.map .str)) (tk:=tk) (acc:=acc);obtain ⟨b,v,hw⟩:∃ b v,w.drop i=b::v:=⟨_,_,List.drop_eq_getElem_cons hi⟩
 have hb:w[i]?=some b:=by
  have:=congrArg (·[0]?) hw;simpa using this
 have hwl:(b::v).length=w.length-i:=by rw[← hw,gD4]
 generalize hY:ctS s r w i l c (.list tk2 (signsR.map .str)) tk acc Fault.none=Y at hr ⊢;refine Den.drop ?_;(refine Den.of_body (C:=cx) Tryz.func105 rfl rfl (gC6 rfl) ?_;refine wpC_ok (V:=[0,2,3,4,6,19,20,21,22,34,38,47,57,79,84]) _ _ _ _ ?_;simp only[go_sem,Tryz.ntmps105,Tryz.f105]);(refine draw_ok (V:=[0,2,3,4,6,19,20,21,22,34,38,47,57,79,84]) (OT.l [0,1,2,3,4,5,6,7,8,9] .nil) [] mixed_cx (by decide +kernel) ?_;simp only[go_sem,hr,hb,hi]);refine letter189_den _ _ _ _ ?_;simp only[go_sem,hr];cases hL:isLet (b.toNat:Int) with
 | true =>
  simp only[go_sem,hr];refine name190_den i (by simp only[gA1,gA2,gA3,gA6,ne_eq,gA9,reduceIte,hr]<;>(first|done|rfl|assumption)) hx (Nat.le_of_lt hi) ?_;simp only[go_sem,hr]
  have htok:tokOf (w.drop i) signsW true=(⟨1,(w.drop i).take ((w.drop i).takeWhile fun c=>isPart c.toNat).length,0,0,0⟩,((w.drop i).takeWhile fun c=>isPart c.toNat).length,decide (((w.drop i).takeWhile fun c=>isPart c.toNat).length≤40)):=by
   rw[hw];simp only[tokOf];rw[if_pos (by rw[isName1,hL])]
  rw[htok] at hk;have hle:=tw_le (fun c=>isPart c.toNat) (w.drop i);rw[gD4] at hle;generalize hm:((w.drop i).takeWhile fun c=>isPart c.toNat).length=m at hk hle ⊢;have d40:decide ((40:Int)<(m:Int))=!decide (m≤40):=by rw[← decide_not];congr 1;apply propext;omega
  have em:IntKind.i64.wrap ((i:Int)+(m:Int))=((i+m:Nat):Int):=by rw[wrap_in _ (by omega) (by omega)];omega
  cases h40:decide (m≤40) with
  | false =>
   rw[h40] at hk;simp only[go_sem,hr,d40,h40];rw[← hY];refine fail_cut hf hx hi ?_;simp only[go_sem,hr];exact DK.here hk
  | true =>
   rw[h40] at hk;simp only[go_sem,hr,d40,h40];(refine draw_ok (V:=[0,2,3,4,6,19,20,21,22,34,38,47,57,79,84]) (OT.l [0,1,2,3,4,5,6,7,8,9,10,11,12,13,14,15,16,17,18] .nil) [] mixed_cx (by decide +kernel) ?_;simp only[go_sem,hr,em]);refine ⟨⟨by omega,by omega⟩,?_⟩;rw[show i+m-i=m by omega,← hY];refine add192_den ⟨1,(w.drop i).take m,0,0,0⟩ m tk acc hn hf hacc hx (by omega) hl hc ?_;intro u hu;simp only[go_sem,hr];exact DK.here (hk u hu)
 | false =>
  have hNm:¬ isName [b]=true:=by rw[isName1,hL];decide
  simp only[go_sem,hr];refine digit193_den _ _ _ _ ?_;simp only[go_sem,hr];cases hD:isDig (b.toNat:Int) with
  | true =>
   have htok:tokOf (w.drop i) signsW true=numTok (w.drop i):=by
    rw[hw];simp only[tokOf];rw[if_neg hNm,if_pos hD]
   rw[htok] at hk;simp only[go_sem,hr];rw[← hY];refine number194_den hi hn hf hacc hx hl hc (Cut1.mono (fun s' h=>?_) hk);simp only[go_sem,hr];exact DK.here h
  | false =>
   have n34:decide ((b.toNat:Int)=34)=decide (b=34):=by
    congr 1;apply propext;exact ⟨fun h=>UInt8.toNat_inj.1 (by show b.toNat=34;omega),fun h=>by rw[h];rfl⟩
   by_cases h34:b=34
   ·have d34:decide (b=34)=true:=decide_eq_true h34;simp only[go_sem,hr,n34,d34];rw[← hY];refine text195_den v (by rw[hw,h34]) hn hf hacc hx hl hc signsW true (Cut1.mono (fun s' h=>?_) hk);simp only[go_sem,hr];exact DK.here h
   have d34:decide (b=34)=false:=decide_eq_false h34;simp only[go_sem,hr,n34,d34]
   have htok:tokOf (w.drop i) signsW true=(⟨4,(w.drop i).take (signTo (w.drop i) signsR 0),0,0,0⟩,signTo (w.drop i) signsR 0,decide (0<signTo (w.drop i) signsR 0)):=by
    rw[hw];simp only[tokOf];rw[if_neg hNm,if_neg (by rw[hD];decide),if_neg h34,sign_app];simp only[true_and]
   rw[htok] at hk
   have hsl:∀ j,signTo (w.drop i) (signsR.take j) 0≤w.length-i:=fun j=>by
    have:=signTo_le (w.drop i) (signsR.take j) 0 (Nat.zero_le _);rw[gD4] at this;exact this
   refine Ex.loop (ι:=Nat) (fun j=>[(0,.ptr r 0),(4,.str ((w.drop i).take (signTo (w.drop i) (signsR.take j) 0))),(19,.list tk2 (signsR.map .str)),(20,.int .i64 20),(21,.int .i64 j)]) (fun _=>Y)
    (fun j=>j≤20) (fun j=>20-j) 0 (Nat.zero_le _) ?_ (St.ge.refl _) ?_
   ·simp only[go_sem,hr];exact ⟨rfl,rfl,rfl⟩
   rintro j hj;refine wpC_ok (V:=[0,2,3,4,6,19,20,21,22,34,38,47,57,79,84]) _ _ _ _ ?_
   have hbl:((w.drop i).take (signTo (w.drop i) (signsR.take j) 0)).length=signTo (w.drop i) (signsR.take j) 0:=by
    have:=hsl j;rw[List.length_take,gD4];omega
   have ej:IntKind.i64.wrap ((j:Int)+1)=((j+1:Nat):Int):=wrap1 j (by omega);simp only[go_sem,hr];by_cases hlt:j<20
   ·have d1:decide ((j:Int)<20)=true:=decide_eq_true (by omega);have hj2:j<signsR.length:=hlt;obtain ⟨x,hxj⟩:∃ x,signsR[j]?=some x:=⟨_,List.getElem?_eq_getElem hj2⟩
    have hx40:x.length≤2:=by
     have hm:=List.mem_of_getElem? hxj;have:∀ y∈signsR,y.length≤2:=by decide
     exact this x hm
    have hst:signTo (w.drop i) (signsR.take (j+1)) 0=if signTo (w.drop i) (signsR.take j) 0<x.length∧hasPre (w.drop i) x=true then x.length else signTo (w.drop i) (signsR.take j) 0:=by
     rw[List.take_add_one,hxj];exact signTo_app _ _ _ _
    generalize hn0:signTo (w.drop i) (signsR.take j) 0=n at hbl hst ⊢;simp only[go_sem,hr,d1,hxj,hj2,hbl];by_cases hnx:n<x.length
    ·have d2:decide (n<x.length)=true:=decide_eq_true hnx;simp only[go_sem,hr,d2];refine begins188_den x (by simp only[gA1,gA2,gA3,gA6,ne_eq,gA9,reduceIte,hr]<;>(first|done|rfl|assumption)) hx (Nat.le_of_lt hi) (by omega) ?_;simp only[go_sem,hr];cases hP:hasPre (w.drop i) x with
     | true =>
      rw[if_pos ⟨hnx,hP⟩] at hst;simp only[go_sem,hr,ej];refine ⟨j+1,by omega,by omega,⟨?_,rfl⟩,St.ge.refl _⟩;rw[hst];simp only[hasPre,gD5,decide_eq_true_eq] at hP;exact hP.2.symm
     | false =>
      rw[if_neg (by rw[hP];simp)] at hst;simp only[go_sem,hr,ej];exact ⟨j+1,by omega,by omega,⟨by rw[hst],rfl⟩,St.ge.refl _⟩
    ·have d2:decide (n<x.length)=false:=decide_eq_false hnx;rw[if_neg (fun h=>hnx h.1)] at hst;simp only[go_sem,hr,d2,ej];exact ⟨j+1,by omega,by omega,⟨by rw[hst],rfl⟩,St.ge.refl _⟩
   ·have d1:decide ((j:Int)<20)=false:=decide_eq_false (by omega);obtain rfl:j=20:=by omega
    rw[show signsR.take 20=signsR from rfl] at hbl ⊢;have hsl2:=hsl 20;rw[show signsR.take 20=signsR from rfl] at hsl2;generalize signTo (w.drop i) signsR 0=n at hbl hk hsl2 ⊢;simp only[go_sem,hr,d1];by_cases hz:n=0
    ·have d3:decide (List.take n (w.drop i)=[])=true:=decide_eq_true (by rw[hz];rfl);simp only[go_sem,hr,d3];rw[← hY];refine fail_cut hf hx hi ?_;simp only[go_sem,hr];rw[show decide (0<n)=false from decide_eq_false (by omega)] at hk;exact DK.here hk
    ·have d3:decide (List.take n (w.drop i)=[])=false:=decide_eq_false (fun e=>by rw[e] at hbl;exact hz hbl.symm);simp only[go_sem,hr,d3,hbl];rw[← hY];rw[show decide (0<n)=true from decide_eq_true (by omega)] at hk;refine add192_den ⟨4,(w.drop i).take n,0,0,0⟩ n tk acc hn hf hacc hx (by omega) hl hc ?_;intro u hu;simp only[go_sem,hr];exact DK.here (hk u hu)
end
end Go.AV
end
