/-
  Part of the proof of DefTerms.
-/
import Derived.Test.YtamikhobdffnfaaGreatDoorTe32
import Derived.Test.YtamikhobdffnfaaGreatDoorTe21
import Derived.Test.YtamikhobdffnfaaGreatDoorTe15
import Derived.Test.YtamikhobdffnfaaGreatDoorTe20
set_option linter.all false
set_option maxRecDepth 1000000
set_option maxHeartbeats 40000000
section
namespace Go.AV
open Go Go.Proofs
section
variable {T:List Tok}
@[go_sem] theorem RQ.inc_f (q:RQ T):q.inc.f=q.f:=by unfold RQ.inc;split<;>rfl
@[go_sem] theorem RQ.inc_first (q:RQ T):q.inc.first=q.first:=by unfold RQ.inc;split<;>rfl
@[go_sem] theorem RQ.inc_nodes (q:RQ T):q.inc.nodes=q.nodes:=by unfold RQ.inc;split<;>rfl
@[go_sem] theorem RQ.inc_over (q:RQ T):q.inc.over=q.over:=by unfold RQ.inc;split<;>rfl
theorem RQ.inc_at {q:RQ T} (h:q.at_<T.length):q.inc.at_=q.at_+1:=by rw[RQ.inc_lt h]
variable (fin:Fault) (code:Int) (p:Nat) (b:Bool) (q:RQ T)
@[go_sem] theorem failF_at:(failF fin code p b q).at_=q.at_:=by unfold failF;split<;>rfl
@[go_sem] theorem failF_first:(failF fin code p b q).first=q.first:=by unfold failF;split<;>rfl
@[go_sem] theorem failF_nodes:(failF fin code p b q).nodes=q.nodes:=by unfold failF;split<;>rfl
@[go_sem] theorem failF_over:(failF fin code p b q).over=q.over:=by unfold failF;split<;>rfl
end
section
variable {T:List Tok} {ln cl:Int} {q:RQ T} {d:Dc} {s:St} {r:Nat} {KV Kp:St→A→Prop}
theorem node171_den (hT:TOk T) (deep p:Nat) (hr:s.getO r=some (rqO ln cl q d)) (hk:KV (s.setO r (rqO ln cl (nodeF (finL ln cl) deep p q) d)) (.tuple [])):Den cx 171 [.ptr r 0,.int .i64 (deep:Int),.int .i64 (p:Int)] KV Kp s:=by
 have hr2:=hr;simp only[go_sem] at hr2;have hk:∀ q1:RQ T,q1={ q with nodes:=IntKind.i64.wrap (q.nodes+1) }→KV (s.setO r (rqO ln cl (if q1.ok=true then (if 60<deep then failF (finL ln cl) 19 p true q1 else if 2000<q1.nodes then failF (finL ln cl) 3 q1.first false q1 else q1) else q1) d)) (.tuple []):=fun q1 e=>by subst e;exact hk
 refine Den.drop ?_;(refine Den.of_body (C:=cx) Tryz.func171 rfl rfl (gC6 rfl) ?_;refine wpC_ok (V:=[0,1,2,13,17,23]) _ _ _ _ ?_;simp only[go_sem,Tryz.ntmps171,Tryz.f171]);simp only[go_sem,hr2];generalize hq1:({ q with nodes:=IntKind.i64.wrap (q.nodes+1) }:RQ T)=q1 at hk;have hk:=hk q1 rfl;have hr3:(s.setO r (rqO ln cl q1 d)).getO r=some (rqO ln cl q1 d):=by rw[gA1,if_pos rfl]
 have hr4:=hr3;simp only[go_sem] at hr4;refine Den.weaken (s':=s.setO r (rqO ln cl q1 d)) (by subst hq1;exact St.ge.refl _) ?_;refine ok45_den hr3 ?_;cases h:q1.ok with
 | false =>
  rw[h] at hk;simp only[gD7,if_false] at hk;simp only[go_sem];simp only[go_sem] at hk;exact DK.here hk
 | true =>
  rw[h] at hk;simp only[if_true] at hk;cases h2:decide ((60:Int)<(deep:Int)) with
  | true =>
   rw[if_pos (by simp at h2;omega)] at hk;simp only[go_sem,h2];refine fail46_den hT 19 p true hr3 ?_;simp only[go_sem];simp only[go_sem] at hk;exact DK.here hk
  | false =>
   rw[if_neg (by simp at h2;omega)] at hk;simp only[go_sem,h2,hr4];cases h3:decide ((2000:Int)<q1.nodes) with
   | true =>
    rw[if_pos (by simpa using h3)] at hk;simp only[go_sem,h3,hr4];refine fail46_den hT 3 q1.first false hr3 ?_
    simp only[go_sem];simp only[go_sem] at hk;exact DK.here hk
   | false =>
    rw[if_neg (by simpa using h3)] at hk;simp only[go_sem,h3];simp only[go_sem] at hk;exact DK.here hk
end
end Go.AV
end
section
namespace Go.AV
open Go Go.Proofs
def sg6:List Str:=[[45],[39],[95],[36],[91],[123]]
section
variable {T:List Tok} {ln cl:Int} {q:RQ T} {d:Dc} {s:St} {r:Nat} {KV Kp:St→A→Prop}
theorem begins170_den (hr:s.getO r=some (rqO ln cl q d)) (hk:KV s (.bool (beginsF q))):Den cx 170 [.ptr r 0] KV Kp s:=by
 unfold beginsF at hk;refine Den.drop ?_;(refine Den.of_body (C:=cx) Tryz.func170 rfl rfl (gC6 rfl) ?_;refine wpC_ok (V:=[0,2,4,22,23,24,25,26,31]) _ _ _ _ ?_;simp only[go_sem,Tryz.ntmps170,Tryz.f170]);refine kind229_den 2 hr ?_;cases h1:kindF 2 q with
 | true =>
  rw[h1,Bool.true_or] at hk;simp only[go_sem];exact DK.here hk
 | false =>
 rw[h1,Bool.false_or] at hk;simp only[go_sem];refine kind229_den 3 hr ?_;cases h2:kindF 3 q with
 | true =>
  rw[h2,Bool.true_or] at hk;simp only[go_sem];exact DK.here hk
 | false =>
 rw[h2,Bool.false_or] at hk;simp only[go_sem];refine named157_den hr ?_;cases h3:namedF q with
 | true =>
  rw[h3,Bool.true_or] at hk;simp only[go_sem];exact DK.here hk
 | false =>
 rw[h3,Bool.false_or] at hk;simp only[go_sem];refine word158_den _ hr ?_;cases h4:isF 1 [116,114,117,101] q with
 | true =>
  rw[h4,Bool.true_or] at hk;simp only[go_sem];exact DK.here hk
 | false =>
 rw[h4,Bool.false_or] at hk;simp only[go_sem];refine word158_den _ hr ?_;cases h5:isF 1 [102,97,108,115,101] q with
 | true =>
  rw[h5,Bool.true_or] at hk;simp only[go_sem];exact DK.here hk
 | false =>
 rw[h5,Bool.false_or] at hk;simp only[go_sem]
 refine Ex.loop (ι:=Nat) (fun j=>[(0,.ptr r 0),(23,.list none (sg6.map .str)),(24,.int .i64 6),(25,.int .i64 (j:Int))]) (fun _=>s)
  (fun j=>j≤6∧KV s (.bool ((sg6.drop j).any fun x=>isF 4 x q))) (fun j=>6-j) 0 ⟨Nat.zero_le _,?_⟩ ?_ (St.ge.refl _) ?_
 ·simpa only[sg6,List.drop_zero,List.any_cons,List.any_nil,Bool.or_false] using hk
 ·simp only[go_sem];exact ⟨rfl,rfl,rfl⟩
 ·rintro j ⟨hj,hk⟩;refine wpC_ok (V:=[0,2,4,22,23,24,25,26,31]) _ _ _ _ ?_;by_cases hlt:j<6
  ·have dl:decide ((j:Int)<6)=true:=by rw[decide_eq_true_iff];omega
   have hl6:j<sg6.length:=hlt;have hx:sg6[j]?=some sg6[j]:=List.getElem?_eq_getElem hl6;rw[List.drop_eq_getElem_cons hl6,List.any_cons] at hk;generalize sg6[j]=x at hx hk;have h0:(0:Int)≤(j:Int):=by omega
   simp only[go_sem,dl,hx,h0,hlt,hl6,Int.toNat_natCast];refine sign228_den x hr ?_;cases h:isF 4 x q with
   | true =>
    rw[h,Bool.true_or] at hk;simp only[go_sem];exact DK.here hk
   | false =>
    rw[h,Bool.false_or] at hk;simp only[go_sem,wrap1 j (by omega)];exact ⟨j+1,⟨hlt,hk⟩,by omega,rfl,St.ge.refl _⟩
  ·have dl:decide ((j:Int)<6)=false:=by rw[decide_eq_false_iff_not];omega
   rw[show j=6 by omega] at hk;simp only[go_sem,dl];exact DK.here hk
theorem restF_den (hT:TOk T) (sort:Str) (deep:Nat) (hd:deep≤4294967296) (hr:s.getO r=some (rqO ln cl q d)) (hk:KV (s.setO r (rqO ln cl (restF (finL ln cl) sort deep q).2 d)) (.list none ((restF (finL ln cl) sort deep q).1.map Tm.enc))) :
  Den cx 246 [.ptr r 0,.str sort,.int .i64 (deep:Int)] KV Kp s:=by
 have hr2:=hr;simp only[go_sem] at hr2;have hlen:=hT.len;unfold restF at hk;refine Den.drop ?_;(refine Den.of_body (C:=cx) Tryz.func246 rfl rfl (gC6 rfl) ?_;refine wpC_ok (V:=[0,1,2,6,7,8,11]) _ _ _ _ ?_;simp only[go_sem,Tryz.ntmps246,Tryz.f246]);refine sign228_den _ hr ?_;cases h:isF 4 [124] q with
 | false =>
  rw[h] at hk;simp only[gD7,if_false] at hk;simp only[go_sem];exact DK.mk hk (St.ge_same hr) A.le.nil
 | true =>
  have hlt:=isF_lt h;rw[h,if_pos rfl] at hk;simp only at hk;simp only[go_sem,hr2,wrap1 q.at_ (by omega)];refine Den.weaken (s':=s.setO r (rqO ln cl q.inc d)) (by simp only[go_sem,RQ.inc_at hlt];exact St.ge.refl _) ?_;refine name88_den (q:=q.inc) (d:=d) hT (by rw[gA1,if_pos rfl]) ?_;simp only[go_sem,RQ.inc_at hlt,wrap1 deep (by omega)];refine node171_den (q:=(nameF (finL ln cl) q.inc).2) (d:=d) hT (deep+1) (q.at_+1) (by rw[gA1,if_pos rfl]<;>rfl) ?_;simp only[go_sem];rw[RQ.inc_at hlt] at hk;refine DK.mk hk (St.ge.refl _) ?_;exact A.le.list ⟨by simp only[List.map,Tm.enc_eq,A.cells,lesC,Tm.cs];exact ⟨⟨A.le.refl _,rfl⟩,⟨A.le.refl _,rfl⟩,⟨A.le.refl _,rfl⟩,⟨A.le.refl _,rfl⟩,⟨A.le.nil,rfl⟩,⟨A.le.nil,rfl⟩,trivial⟩,trivial⟩
end
end Go.AV
end
section
namespace Go.AV
open Go Go.Proofs
def RTermOk (T:List Tok) (ln cl:Int) (r k:Nat):Prop:=∀ (s:St) (q:RQ T) (d:Dc) (KV Kp:St→A→Prop),s.getO r=some (rqO ln cl q d) →
 KV (s.setO r (rqO ln cl (termF (finL ln cl) k q).2 d)) (termF (finL ln cl) k q).1.enc→Den cx 95 [.ptr r 0,.int .i64 ((61-k:Nat):Int)] KV Kp s
section
variable {T:List Tok}
theorem rloop_no {σ:Type} (x:Str) (body:σ→RQ T→σ × RQ T) (f:Nat) (a:σ) (q:RQ T):rloop x body f false a q=(a,q):=by
 cases f<;>simp[rloop]
theorem rloop_bad {σ:Type} (x:Str) (body:σ→RQ T→σ × RQ T) (f:Nat) (more:Bool) (a:σ) (q:RQ T) (h:q.ok=false):rloop x body f more a q=(a,q):=by
 cases f<;>simp[rloop,h]
theorem rloop_go {σ:Type} (x:Str) (body:σ→RQ T→σ × RQ T) (f:Nat) (a:σ) (q:RQ T) (h:q.ok=true):rloop x body (f+1) true a q=rloop x body f (commaF x (body a q).2).1 (body a q).1 (commaF x (body a q).2).2:=by
 rw[rloop,if_pos (by rw[h];rfl)]
theorem commaF_lt {x:Str} {q:RQ T} (h:(commaF x q).1=true):q.at_+1≤(commaF x q).2.at_:=by
 unfold commaF at h ⊢;split
 ·rename_i hc;have hlt:q.at_<T.length:=by simp only[isF,gD5,decide_eq_true_eq] at hc;exact hc.2.1
  unfold RQ.inc;rw[dif_pos hlt];exact Nat.le_refl _
 ·rename_i hc;rw[if_neg hc] at h;cases h
end
def kidS {T:List Tok} (ln cl:Int) (d:Dc) (b r:Nat) (kind:Int) (x:Str) (s:St) (tk:Option Nat) (l:List Tm) (q:RQ T):St :=
 gs ((s.setO b (.cells 43 [.int .i64 kind,.int .i64 0,.str x,.str [],gv tk (l.map Tm.enc),.nils])).setO r (rqO ln cl q d)) tk l.length 43
section
variable {T:List Tok} {ln cl:Int} {q:RQ T} {d:Dc} {s:St} {r:Nat} {KV Kp:St→A→Prop}
theorem app172_den (hT:TOk T) (k:Nat) (hk60:k≤60) (IH:RTermOk T ln cl r k) (x:Str) (hr:s.getO r=some (rqO ln cl q d))
  (hk:KV (s.setO r (rqO ln cl (appF (finL ln cl) (termF (finL ln cl) k) x q).2 d)) (appF (finL ln cl) (termF (finL ln cl) k) x q).1.enc):Den cx 172 [.ptr r 0,.str x,.int .i64 ((60-k:Nat):Int)] KV Kp s:=by
 have hr2:=hr;simp only[go_sem] at hr2;have hlen:=hT.len;have ed:IntKind.i64.wrap (((60-k:Nat):Int)+1)=((61-k:Nat):Int):=by rw[wrap1 _ (by omega)];congr 1;omega
 unfold appF at hk;refine Den.drop ?_;(refine Den.of_body (C:=cx) Tryz.func172 rfl rfl (gC6 rfl) ?_;refine wpC_ok (V:=[0,1,2,6,7,8,10,33]) _ _ _ _ ?_;simp only[go_sem,Tryz.ntmps172,Tryz.f172]);(intro b6 hb6;try simp only[gD6,gA6,ne_eq] at hb6);have e6:=St.ne_of hr (by first|exact hb6|exact hb6.2|exact hb6.2.2|exact hb6.2.2.2|exact hb6.2.2.2.2|exact hb6.2.2.2.2.2|exact hb6.2.2.2.2.2.2);simp only[go_sem,hr2,hb6,e6];refine sign228_den _ (by simp only[gA1,gA2,gA3,gA6,ne_eq,gA9,reduceIte,hr2,hb6,e6,hr]<;>(first|done|rfl|assumption)) ?_;cases h:isF 4 [58] q with
 | true =>
  have hlt:=isF_lt h;rw[h,if_pos rfl] at hk;simp only at hk;simp only[go_sem,hr2,hb6,e6,wrap1 q.at_ (by omega)];refine name88_den (ln:=ln) (cl:=cl) (q:=q.inc) (d:=d) hT (by simp only[gA1,e6,reduceIte];simp only[go_sem,RQ.inc_at hlt]) ?_;simp only[go_sem,hr2,hb6,e6];exact DK.mk hk (by (refine gel_ge ?_;repeat (first|exact gel_refl _ _ _|refine gel_gs_gs ?_|refine gel_to_gs gs_self ?_|refine gB1 ?_|refine gB2 ?_|refine gel_set (by simp only[gA1,gA2,gA3,gA6,ne_eq,gA9,reduceIte,hr2,hb6,e6]<;>(first|done|rfl|assumption)) ?_|refine gB3 ?_|refine gel_new (by first|simp only[hb6]|assumption) ?_))) (Tm.le_leaf _ _ _ _)
 | false =>
  rw[h] at hk;simp only[gD7,if_false] at hk;simp only[go_sem,hr2,hb6,e6];refine sure89_den hT _ (by simp only[gA1,gA2,gA3,gA6,ne_eq,gA9,reduceIte,hr2,hb6,e6,hr]<;>(first|done|rfl|assumption)) ?_;generalize needF (finL ln cl) 4 [40] q=q1 at hk ⊢;simp only[go_sem,hr2,hb6,e6];(intro b7 hb7;try simp only[gD6,gA6,ne_eq] at hb7);have e7:=St.ne_of hr (by first|exact hb7|exact hb7.2|exact hb7.2.2|exact hb7.2.2.2|exact hb7.2.2.2.2|exact hb7.2.2.2.2.2|exact hb7.2.2.2.2.2.2);simp only[go_sem,hr2,hb6,e6,hb7,e7];refine sign228_den (q:=q1) (d:=d) _ (by simp only[gA1,gA2,gA3,gA6,ne_eq,gA9,reduceIte,hr2,hb6,e6,hb7,e7]<;>(first|done|rfl|assumption)) ?_;simp only[go_sem,hr2,hb6,e6,hb7,e7]
  refine Ex.loop (ι:=(List Tm × Option Nat) × Bool × RQ T × Nat) (fun c=>[(0,.ptr r 0),(1,.str x),(2,.int .i64 ((60-k:Nat):Int)),(6,.ptr b6 0),(7,.ptr b7 0),(8,.bool c.2.1)])
   (fun c=>kidS ln cl d b7 r 5 x (s.setO b6 (.cells 43 [.int .i64 0,.int .i64 0,.str [],.str [],.nils,.nils])) c.1.2 c.1.1 c.2.2.1)
   (fun c => (c.1.2 = none → c.1.1 = []) ∧ (∀ t,c.1.2 = some t → s.getT t = none) ∧ c.1.1.length ≤ c.2.2.1.at_ + 1 ∧ (c.2.1 = true → c.1.1.length ≤ c.2.2.1.at_ ∧ T.length - c.2.2.1.at_ < c.2.2.2) ∧
    (∀ p,p = rloop [44] (fun (l : List Tm) q => (l ++ [(termF (finL ln cl) k { q with over := decide (8 ≤ l.length) }).1],(termF (finL ln cl) k { q with over := decide (8 ≤ l.length) }).2)) c.2.2.2 c.2.1 c.1.1 c.2.2.1 →
     KV (s.setO r (rqO ln cl (needF (finL ln cl) 4 [41] p.2) d)) (Tm.enc (.mk 5 0 x [] p.1 []))))
   (fun c=>(T.length-c.2.2.1.at_) * 2+(if c.2.1=true then 1 else 0)) (([],none),!isF 4 [41] q1,q1,T.length+2) ?_ ?_ ?_ ?_
  ·exact ⟨fun _=>rfl,fun t e=>(by cases e),Nat.zero_le _,fun _=>⟨Nat.zero_le _,by simp only;omega⟩,fun p e=>by subst e;exact hk⟩
  ·simp only[go_sem,hr2,hb6,e6,hb7,e7]
  ·exact (by (refine gel_ge ?_;repeat (first|exact gel_refl _ _ _|refine gel_gs_gs ?_|refine gel_to_gs gs_self ?_|refine gB1 ?_|refine gB2 ?_|refine gel_set (by simp only[gA1,gA2,gA3,gA6,ne_eq,gA9,reduceIte,hr2,hb6,e6,hb7,e7]<;>(first|done|rfl|assumption)) ?_|refine gB3 ?_|refine gel_new (by first|simp only[hb6,hb7]|assumption) ?_)))
  ·rintro ⟨⟨l,tk⟩,more,q,f⟩ ⟨hnil,hfree,hl,hm,hk⟩;simp only at hnil hfree hl hm hk;have hqle:=q.le;have hg:gok (kidS ln cl d b7 r 5 x (s.setO b6 (.cells 43 [.int .i64 0,.int .i64 0,.str [],.str [],.nils,.nils])) tk l q) tk (l.map Tm.enc).length 43:=by rw[gC4];exact gs_ok fun e=>by rw[hnil e];rfl
   refine wpC_ok (V:=[0,1,2,6,7,8,10,33]) _ _ _ _ ?_;unfold kidS;cases more with
   | false =>
    have hk:=hk _ rfl;rw[rloop_no] at hk;simp only[go_sem,e6,hb6,hb7];refine sure89_den (ln:=ln) (cl:=cl) (q:=q) (d:=d) hT _ (by simp only[gA1,gA2,gA3,gA6,ne_eq,gA9,reduceIte,e6,hb6,hb7]<;>(first|done|rfl|assumption)) ?_;simp only[go_sem,e6,hb6,hb7];refine ⟨gv_one _ _,?_⟩;refine DK.mk hk (by (refine gel_ge ?_;repeat (first|exact gel_refl _ _ _|refine gel_gs_gs ?_|refine gel_to_gs gs_self ?_|refine gB1 ?_|refine gB2 ?_|refine gel_gs ?_ hfree|refine gel_newT hfree ?_|refine gel_set (by simp only[gA1,gA2,gA3,gA6,ne_eq,gA9,reduceIte,e6,hb6,hb7]<;>(first|done|rfl|assumption)) ?_|refine gB3 ?_|refine gel_new (by first|simp only[hb6,hb7]|assumption) ?_))) ?_;rw[Tm.enc_eq];exact A.le.agg ⟨⟨A.le.refl _,rfl⟩,⟨A.le.refl _,rfl⟩,⟨A.le.refl _,rfl⟩,⟨A.le.refl _,rfl⟩,⟨gv_le tk _ (fun e=>by rw[hnil e];rfl),rfl⟩,⟨A.le.nil,rfl⟩,trivial⟩
   | true =>
    simp only[go_sem,e6,hb6,hb7];refine ok45_den (ln:=ln) (cl:=cl) (q:=q) (d:=d) (by simp only[gA1,gA2,gA3,gA6,ne_eq,gA9,reduceIte,e6,hb6,hb7]<;>(first|done|rfl|assumption)) ?_;cases ho:q.ok with
    | false =>
     have hk:=hk _ rfl;rw[rloop_bad _ _ _ _ _ _ ho] at hk;simp only[go_sem,e6,hb6,hb7];refine sure89_den (ln:=ln) (cl:=cl) (q:=q) (d:=d) hT _ (by simp only[gA1,gA2,gA3,gA6,ne_eq,gA9,reduceIte,e6,hb6,hb7]<;>(first|done|rfl|assumption)) ?_;simp only[go_sem,e6,hb6,hb7];refine ⟨gv_one _ _,?_⟩;refine DK.mk hk (by (refine gel_ge ?_;repeat (first|exact gel_refl _ _ _|refine gel_gs_gs ?_|refine gel_to_gs gs_self ?_|refine gB1 ?_|refine gB2 ?_|refine gel_gs ?_ hfree|refine gel_newT hfree ?_|refine gel_set (by simp only[gA1,gA2,gA3,gA6,ne_eq,gA9,reduceIte,e6,hb6,hb7]<;>(first|done|rfl|assumption)) ?_|refine gB3 ?_|refine gel_new (by first|simp only[hb6,hb7]|assumption) ?_))) ?_;rw[Tm.enc_eq];exact A.le.agg ⟨⟨A.le.refl _,rfl⟩,⟨A.le.refl _,rfl⟩,⟨A.le.refl _,rfl⟩,⟨A.le.refl _,rfl⟩,⟨gv_le tk _ (fun e=>by rw[hnil e];rfl),rfl⟩,⟨A.le.nil,rfl⟩,trivial⟩
    | true =>
     obtain ⟨hl2,hf⟩:=hm rfl;obtain ⟨f,rfl⟩:∃ f',f=f'+1:=⟨f-1,by omega⟩
     have e8:decide ((8:Int)≤(l.length:Int))=decide (8≤l.length):=by rw[decide_eq_decide];omega
     simp only[go_sem,e6,hb6,hb7,lenS_gv hg,e8];(refine draw_ok (V:=[0,1,2,6,7,8,10,33]) (OT.l [0,1,2,3,4,5,6,7,8,9] .nil) [(5,[1])] mixed_cx (by decide +kernel) ?_;simp only[go_sem,e6,hb6,hb7,ed]);refine IH _ { q with over:=decide (8≤l.length) } d _ _ (by simp only[gA1,gA2,gA3,gA6,ne_eq,gA9,reduceIte,e6,hb6,hb7]<;>(first|done|rfl|assumption)) ?_;have hmono:=termF_mono (fin:=finL ln cl) k { q with over:=decide (8≤l.length) };have hk:=hk _ rfl;rw[rloop_go _ _ _ _ _ ho] at hk;generalize termF (finL ln cl) k { q with over:=decide (8≤l.length) }=p at hk hmono ⊢;simp only at hk hmono;have hple:=p.2.le;simp only[go_sem,e6,hb6,hb7,Tm.enc_eq];refine ⟨by decide,fun y hy=>by simp only[List.mem_singleton] at hy;subst hy;rfl,appL_gv rfl rfl (by rw[gC4];exact gs_ok fun e=>by rw[hnil e];rfl) (fun y hy=>?_) (by simp only[gC4,gC1,gC3];omega) (fun u hu=>?_)⟩
     ·simp only[List.mem_map] at hy;obtain ⟨z,_,rfl⟩:=hy;exact Tm.hz z
     have hfu:=gs_free hu hfree;rw[gs_set hu];simp only[go_sem,e6,hb6,hb7];refine comma159_den (ln:=ln) (cl:=cl) (q:=p.2) (d:=d) hT (by simp only[gA1,gA2,gA3,gA6,ne_eq,gA9,reduceIte,e6,hb6,hb7]<;>(first|done|rfl|assumption)) ?_;have hc:=commaF_mono [44] p.2;have hc2:=commaF_lt (x:=[44]) (q:=p.2);generalize commaF [44] p.2=c at hk hc hc2 ⊢;have hcle:=c.2.le;simp only[go_sem,e6,hb6,hb7];refine ⟨((l++[p.1],some u),c.1,c.2,f),⟨fun e=>(by cases e),fun t e=>by cases e;exact hfu,by simp only[gC2,gC1,gC3];omega,fun e=>⟨by have:=hc2 e;simp only[gC2,gC1,gC3];omega,by have:=hc2 e;simp only;omega⟩,fun p' e=>by subst e;(first|exact hk|(simp only[go_sem] at hk;exact hk)|(simp only[go_sem] at hk;simp only[go_sem];exact hk))⟩,?_,rfl,?_⟩
     ·simp only;split
      ·rename_i e;have:=hc2 e;omega
      ·omega
     ·simp only[gv_some,List.map_append,List.map_cons,List.map_nil,gC2,gC1,gC3,Tm.enc_eq,Tm.cs];exact (by (refine gel_ge ?_;repeat (first|exact gel_refl _ _ _|refine gel_gs_gs ?_|refine gel_to_gs gs_self ?_|refine gB1 ?_|refine gB2 ?_|refine gel_gs ?_ hfree|refine gel_newT hfree ?_|refine gel_set (by simp only[gA1,gA2,gA3,gA6,ne_eq,gA9,reduceIte,e6,hb6,hb7]<;>(first|done|rfl|assumption)) ?_|refine gB3 ?_|refine gel_new (by first|simp only[hb6,hb7]|assumption) ?_)))
end
end Go.AV
end
section
namespace Go.AV
open Go Go.Proofs
theorem letter189_den (s:St) (c:Int) (KV Kp) (hk:KV s (.bool (isLet c))):Den cx 189 [.int .u8 c] KV Kp s:=by
 unfold isLet at hk;refine Den.drop ?_;(refine Den.of_body (C:=cx) Tryz.func189 rfl rfl (gC6 rfl) ?_;refine wpC_ok (V:=[0,2]) _ _ _ _ ?_;simp only[go_sem,Tryz.ntmps189,Tryz.f189])
 (repeat' (first|exact DK.st hk (by (repeat (first|exact St.ge.refl _|refine St.ge_set (by simp only[]) ?_)))|((first|refine gC8 (fun h=>?_) (fun h=>?_)|refine gC9 (fun h=>?_) (fun h=>?_)|refine gD1 (fun h=>?_) (fun h=>?_))<;>simp only[go_sem,h]<;>(try simp only[h,Bool.true_and,Bool.false_and,Bool.and_true,Bool.and_false,Bool.or_true,Bool.true_or,Bool.or_false,Bool.false_or,Bool.not_true,Bool.not_false] at hk))))
theorem digit193_den (s:St) (c:Int) (KV Kp) (hk:KV s (.bool (isDig c))):Den cx 193 [.int .u8 c] KV Kp s:=by
 unfold isDig at hk;refine Den.drop ?_;(refine Den.of_body (C:=cx) Tryz.func193 rfl rfl (gC6 rfl) ?_;refine wpC_ok (V:=[0,2]) _ _ _ _ ?_;simp only[go_sem,Tryz.ntmps193,Tryz.f193])
 (repeat' (first|exact DK.st hk (by (repeat (first|exact St.ge.refl _|refine St.ge_set (by simp only[]) ?_)))|((first|refine gC8 (fun h=>?_) (fun h=>?_)|refine gC9 (fun h=>?_) (fun h=>?_)|refine gD1 (fun h=>?_) (fun h=>?_))<;>simp only[go_sem,h]<;>(try simp only[h,Bool.true_and,Bool.false_and,Bool.and_true,Bool.and_false,Bool.or_true,Bool.true_or,Bool.or_false,Bool.false_or,Bool.not_true,Bool.not_false] at hk))))
theorem isPart_eq (c:Int):isPart c=(isLet c||(isDig c||decide (c=95))):=rfl
theorem isName117_den (s:St) (x:List UInt8) (KV Kp) (hx:x.length≤4294967296) (hk:KV s (.bool (isName x))):Den cx 117 [.str x] KV Kp s:=by
 refine Den.drop ?_;(refine Den.of_body (C:=cx) Tryz.func117 rfl rfl (gC6 rfl) ?_;refine wpC_ok (V:=[0,2,3,5,6,7,30]) _ _ _ _ ?_;simp only[go_sem,Tryz.ntmps117,Tryz.f117])
 refine Ex.loop (fun i=>[(0,.str x),(5,.int .i64 x.length),(6,.int .i64 (i:Nat))]) (fun _=>s)
  (fun i=>i≤x.length∧(∀ d∈x.take i,isPart d.toNat=true)∧(∀ c,0<i→x[0]?=some c→isLet c.toNat=true)) (fun i=>x.length-i) 0 ⟨Nat.zero_le _,by simp,fun _ h=>by omega⟩ ?_ (St.ge.refl s) ?_
 ·simp only[go_sem];rfl
 ·rintro i ⟨hi,hall,hfst⟩;refine wpC_ok (V:=[0,2,3,5,6,7,30]) _ _ _ _ ?_;simp only[go_sem];by_cases hix:i<x.length
  ·have dl:decide (i<x.length)=true:=by simpa using hix
   obtain ⟨d,hd⟩:∃ d,x[i]?=some d:=⟨_,List.getElem?_eq_getElem hix⟩
   have h0:(0:Int)≤(i:Int):=by omega
   simp only[go_sem,dl,hd,hix,h0];refine letter189_den _ _ _ _ ?_;simp only[go_sem,dl,hd,hix,h0]
   have next:isPart d.toNat=true→(i=0→isLet d.toNat=true)→∃ j,((j≤x.length∧(∀ d∈x.take j,isPart d.toNat=true)∧(∀ c,0<j→x[0]?=some c→isLet c.toNat=true))∧x.length-j<x.length-i)∧j=i+1:=by
    intro hp hz;refine ⟨i+1,⟨⟨by omega,?_,?_⟩,by omega⟩,rfl⟩
    ·intro z hz;rw[List.take_add_one,hd] at hz;simp only[List.mem_append,Option.toList_some,List.mem_singleton] at hz;rcases hz with hz|rfl
     ·exact hall z hz
     ·exact hp
    ·intro c _ hc;by_cases hi0:i=0
     ·subst hi0;rw[hd] at hc;cases hc;exact hz rfl
     ·exact hfst c (by omega) hc
   have bad:(isPart d.toNat=false∨i=0∧isLet d.toNat=false)→isName x=false:=by
    intro hb;cases x with
    | nil=>rfl
    | cons c r =>
     simp only[isName,Bool.and_eq_false_iff];rcases hb with hp|⟨rfl,hl⟩
     ·refine .inr (.inr (Bool.eq_false_iff.2 fun hall=>?_));rw[List.all_eq_true] at hall;have:=hall d (List.mem_of_getElem? hd);rw[hp] at this;cases this
     ·have:d=c:=by simpa using hd.symm
      subst this;exact .inr (.inl hl)
   have ew:=wrap1 i (by omega);have di:decide ((i:Int)=0)=decide (i=0):=by rw[decide_eq_decide];omega
   cases c1:isLet d.toNat with
   | true =>
    simp only[go_sem,c1,ew];obtain ⟨j,⟨h1,h2⟩,rfl⟩:=next (by rw[isPart_eq,c1];rfl) (fun _=>c1);exact ⟨i+1,h1,h2,rfl,St.ge.refl s⟩
   | false =>
    simp only[go_sem,c1,di];cases c2:decide (i=0) with
    | true =>
     simp only[go_sem,c1,c2];rw[bad (.inr ⟨by simpa using c2,c1⟩)] at hk;exact DK.here hk
    | false =>
     simp only[go_sem,c1,c2,hd,hix,h0];refine digit193_den _ _ _ _ ?_;simp only[go_sem,c1,c2,hd,hix,h0];cases c3:isDig d.toNat with
     | true =>
      simp only[go_sem,c3,ew];obtain ⟨j,⟨h1,h2⟩,rfl⟩:=next (by rw[isPart_eq,c1,c3];rfl) (fun e=>by simp[e] at c2);exact ⟨i+1,h1,h2,rfl,St.ge.refl s⟩
     | false =>
      simp only[go_sem,c3,hd,hix,h0];cases c4:decide ((d.toNat:Int)=95) with
      | true =>
       simp only[go_sem,c4,ew];obtain ⟨j,⟨h1,h2⟩,rfl⟩:=next (by rw[isPart_eq,c1,c3,c4];rfl) (fun e=>by simp[e] at c2);exact ⟨i+1,h1,h2,rfl,St.ge.refl s⟩
      | false =>
       simp only[go_sem,c4];rw[bad (.inl (by rw[isPart_eq,c1,c3,c4];rfl))] at hk;exact DK.here hk
  ·have dl:decide (i<x.length)=false:=by simpa using hix
   have hix:i=x.length:=by omega
   rw[hix,List.take_length] at hall;rw[hix] at hfst;simp only[go_sem,dl];cases hz:decide ((1:Int)≤(x.length:Int)) with
   | false =>
    have:x=[]:=List.eq_nil_of_length_eq_zero (by simp at hz;omega);simp only[go_sem,hz];rw[show isName x=false by rw[this];rfl] at hk;exact DK.here hk
   | true =>
    obtain ⟨c,r,hcr⟩:∃ c r,x=c::r:=by
     cases x with
     | nil=>simp at hz
     | cons c r=>exact ⟨c,r,rfl⟩
    have hl:=hfst c (by simp at hz;omega) (by rw[hcr];rfl)
    have he:isName x=decide ((x.length:Int)≤40):=by
     have e1:isName x=decide (x.length≤40):=by
      rw[hcr] at hall ⊢;simp only[isName,hl,Bool.true_and];rw[List.all_eq_true.2 hall,Bool.and_true]
     rw[e1,decide_eq_decide];omega
    rw[he] at hk;simp only[go_sem,hz];exact DK.here hk
theorem isId245_den (s:St) (x:Str) (KV Kp) (hx:x.length≤4294967296) (hk:KV s (.bool (isId x))):Den cx 245 [.str x] KV Kp s:=by
 refine Den.drop ?_;(refine Den.of_body (C:=cx) Tryz.func245 rfl rfl (gC6 rfl) ?_;refine wpC_ok (V:=[0,2]) _ _ _ _ ?_;simp only[go_sem,Tryz.ntmps245,Tryz.f245]);refine isName117_den _ _ _ _ hx ?_;simp only[go_sem];cases hn:isName x with
 | false =>
  simp only[go_sem];rw[show isId x=false by simp[isId,hn]] at hk;exact DK.here hk
 | true =>
  cases x with
  | nil=>simp[isName] at hn
  | cons c r =>
   have e97:decide ((97:Int)≤(c.toNat:Int))=decide (97≤c.toNat):=by rw[decide_eq_decide];omega
   have e122:decide ((c.toNat:Int)≤122)=decide (c.toNat≤122):=by rw[decide_eq_decide];omega
   rw[show isId (c::r)=((decide (97≤c.toNat)&&decide (c.toNat≤122))&&!decide (c::r=[116,114,117,101])&&!decide (c::r=[102,97,108,115,101])) by simp[isId,hn]] at hk;cases h1:decide (97≤c.toNat)<;>cases h2:decide (c.toNat≤122)<;>cases h3:decide (c::r=[116,114,117,101])<;>cases h4:decide (c::r=[102,97,108,115,101])<;>simp only[go_sem,e97,e122,h1,h2,h3,h4]
   all_goals (rw[h1,h2,h3,h4] at hk;exact DK.here hk)
end Go.AV
end
section
namespace Go.AV
open Go Go.Proofs
section
variable {T:List Tok} {ln cl:Int} {q:RQ T} {d:Dc} {s:St} {r:Nat} {KV Kp:St→A→Prop}
theorem other173_den (hT:TOk T) (k:Nat) (hk60:k≤60) (hlen2:T.length≤2147483640) (IH:RTermOk T ln cl r k) (t:Tok) (ht:t∈T) (hr:s.getO r=some (rqO ln cl q d))
  (hk:KV (s.setO r (rqO ln cl (otherF (finL ln cl) (termF (finL ln cl) k) t (60-k) q).2 d)) (otherF (finL ln cl) (termF (finL ln cl) k) t (60-k) q).1.enc):Den cx 173 [.ptr r 0,t.enc,.int .i64 ((60-k:Nat):Int)] KV Kp s:=by
 have hr2:=hr;simp only[go_sem] at hr2;have hlen:=hT.len;have ed:IntKind.i64.wrap (((60-k:Nat):Int)+1)=((61-k:Nat):Int):=by rw[wrap1 _ (by omega)];congr 1;omega
 unfold otherF at hk;simp only[go_sem];refine Den.drop ?_;(refine Den.of_body (C:=cx) Tryz.func173 rfl rfl (gC6 rfl) ?_;refine wpC_ok (V:=[0,1,2,4,6,7,8,9,10,12,13,50,79,98,109,115,130,162]) _ _ _ _ ?_;simp only[go_sem,Tryz.ntmps173,Tryz.f173]);(intro b4 hb4;try simp only[gD6,gA6,ne_eq] at hb4);have e4:=St.ne_of hr (by first|exact hb4|exact hb4.2|exact hb4.2.2|exact hb4.2.2.2|exact hb4.2.2.2.2|exact hb4.2.2.2.2.2|exact hb4.2.2.2.2.2.2);simp only[go_sem,hr2,hb4,e4];(intro b6 hb6;try simp only[gD6,gA6,ne_eq] at hb6);have e6:=St.ne_of hr (by first|exact hb6|exact hb6.2|exact hb6.2.2|exact hb6.2.2.2|exact hb6.2.2.2.2|exact hb6.2.2.2.2.2|exact hb6.2.2.2.2.2.2);simp only[go_sem,hr2,hb4,e4,hb6,e6];cases c1:decide (t.text=[45]);rotate_left
 ·
  rw[if_pos (by simpa using c1)] at hk;simp only[go_sem,hr2,hb4,e4,hb6,e6,c1];(refine draw_ok (V:=[0,1,2,4,6,7,8,9,10,12,13,50,79,98,109,115,130,162]) (OT.l [0,1,2,3,4,5,6,7,8,9,10,11,12,13,14,15,16,17,18,19,20,21,22,23,24,25,26,27,28,29,30,31,32,33,34,35] .nil) [(1,[7,11,14,16,23,27,30,32])] mixed_cx (by decide +kernel) ?_;simp only[go_sem,hr2,hb4,e4,hb6,e6]);refine kind229_den (ln:=ln) (cl:=cl) (q:=q) (d:=d) 2 (by simp only[gA1,gA2,gA3,gA6,ne_eq,gA9,reduceIte,hr2,hb4,e4,hb6,e6,hr]<;>(first|done|rfl|assumption)) ?_;cases h1:kindF 2 q with
  | false =>
   rw[h1] at hk;simp only[Bool.false_and,gD7,if_false] at hk;simp only[go_sem,hr2,hb4,e4,hb6,e6];refine fail46_den (ln:=ln) (cl:=cl) (q:=q) (d:=d) hT 11 q.at_ true (by simp only[gA1,gA2,gA3,gA6,ne_eq,gA9,reduceIte,hr2,hb4,e4,hb6,e6,hr]<;>(first|done|rfl|assumption)) ?_;simp only[go_sem,hr2,hb4,e4,hb6,e6];simp only[go_sem] at hk;exact DK.mk hk (by (refine gel_ge ?_;repeat (first|exact gel_refl _ _ _|refine gel_gs_gs ?_|refine gel_to_gs gs_self ?_|refine gB1 ?_|refine gB2 ?_|refine gel_set (by simp only[gA1,gA2,gA3,gA6,ne_eq,gA9,reduceIte,hr2,hb4,e4,hb6,e6]<;>(first|done|rfl|assumption)) ?_|refine gB3 ?_|refine gel_new (by first|simp only[hb4,hb6]|assumption) ?_))) (Tm.le_leaf _ _ _ _)
  | true =>
   have hlt:=kindF_lt h1;have hg:=RQ.get hlt;rw[h1,Bool.true_and] at hk;have h0:(0:Int)≤(q.at_:Int):=by omega
   simp only[go_sem,hr2,hb4,e4,hb6,e6,hg,hlt,h0];cases h2:decide (q.tok.line=t.line) with
   | false =>
    rw[h2] at hk;simp only[Bool.false_and,gD7,if_false] at hk;simp only[go_sem,hr2,hb4,e4,hb6,e6,h2];refine fail46_den (ln:=ln) (cl:=cl) (q:=q) (d:=d) hT 11 q.at_ true (by simp only[gA1,gA2,gA3,gA6,ne_eq,gA9,reduceIte,hr2,hb4,e4,hb6,e6,hr]<;>(first|done|rfl|assumption)) ?_;simp only[go_sem,hr2,hb4,e4,hb6,e6];simp only[go_sem] at hk;exact DK.mk hk (by (refine gel_ge ?_;repeat (first|exact gel_refl _ _ _|refine gel_gs_gs ?_|refine gel_to_gs gs_self ?_|refine gB1 ?_|refine gB2 ?_|refine gel_set (by simp only[gA1,gA2,gA3,gA6,ne_eq,gA9,reduceIte,hr2,hb4,e4,hb6,e6]<;>(first|done|rfl|assumption)) ?_|refine gB3 ?_|refine gel_new (by first|simp only[hb4,hb6]|assumption) ?_))) (Tm.le_leaf _ _ _ _)
   | true =>
    rw[h2,Bool.true_and] at hk;simp only[go_sem,hr2,hb4,e4,hb6,e6,h2,hg,hlt,h0];cases h3:decide (q.tok.col=IntKind.i64.wrap (t.col+1)) with
    | false =>
     rw[h3] at hk;simp only[gD7,if_false] at hk;simp only[go_sem,hr2,hb4,e4,hb6,e6,h3];refine fail46_den (ln:=ln) (cl:=cl) (q:=q) (d:=d) hT 11 q.at_ true (by simp only[gA1,gA2,gA3,gA6,ne_eq,gA9,reduceIte,hr2,hb4,e4,hb6,e6,hr]<;>(first|done|rfl|assumption)) ?_;simp only[go_sem,hr2,hb4,e4,hb6,e6];simp only[go_sem] at hk;exact DK.mk hk (by (refine gel_ge ?_;repeat (first|exact gel_refl _ _ _|refine gel_gs_gs ?_|refine gel_to_gs gs_self ?_|refine gB1 ?_|refine gB2 ?_|refine gel_set (by simp only[gA1,gA2,gA3,gA6,ne_eq,gA9,reduceIte,hr2,hb4,e4,hb6,e6]<;>(first|done|rfl|assumption)) ?_|refine gB3 ?_|refine gel_new (by first|simp only[hb4,hb6]|assumption) ?_))) (Tm.le_leaf _ _ _ _)
    | true =>
     rw[h3,if_pos rfl,RQ.inc_lt hlt] at hk;have em:IntKind.i64.wrap (((q.at_+1:Nat):Int)-1)=(q.at_:Int):=by rw[wrap_in _ (by omega) (by omega)];omega
     simp only[go_sem,hr2,hb4,e4,hb6,e6,h3,wrap1 q.at_ (by omega)];(refine draw_ok (V:=[0,1,2,4,6,7,8,9,10,12,13,50,79,98,109,115,130,162]) (OT.l [0,1,2,3,4,5,6,7,8,9,10,11,12,13,14] .nil) [] mixed_cx (by decide +kernel) ?_;simp only[go_sem,hr2,hb4,e4,hb6,e6,em,hg,hlt,h0,Int.toNat_natCast,Option.map]);exact DK.mk hk (by (refine gel_ge ?_;repeat (first|exact gel_refl _ _ _|refine gel_gs_gs ?_|refine gel_to_gs gs_self ?_|refine gB1 ?_|refine gB2 ?_|refine gel_set (by simp only[gA1,gA2,gA3,gA6,ne_eq,gA9,reduceIte,hr2,hb4,e4,hb6,e6]<;>(first|done|rfl|assumption)) ?_|refine gB3 ?_|refine gel_new (by first|simp only[hb4,hb6]|assumption) ?_))) (Tm.le_leaf _ _ _ _)
 rw[if_neg (by simpa using c1)] at hk;simp only[go_sem,hr2,hb4,e4,hb6,e6,c1];cases c2:decide (t.text=[39]);rotate_left
 ·
  rw[if_pos (by simpa using c2)] at hk;simp only[go_sem,hr2,hb4,e4,hb6,e6,c2];(refine draw_ok (V:=[0,1,2,4,6,7,8,9,10,12,13,50,79,98,109,115,130,162]) (OT.l [0,1,2,3,4,5,6,7,8,9,10,11,12,13,14,15,16,17] .nil) [(1,[7,11,14])] mixed_cx (by decide +kernel) ?_;simp only[go_sem,hr2,hb4,e4,hb6,e6]);refine named157_den (ln:=ln) (cl:=cl) (q:=q) (d:=d) (by simp only[gA1,gA2,gA3,gA6,ne_eq,gA9,reduceIte,hr2,hb4,e4,hb6,e6,hr]<;>(first|done|rfl|assumption)) ?_;cases h1:namedF q with
  | false =>
   rw[h1] at hk;simp only[Bool.false_and,gD7,if_false] at hk;simp only[go_sem,hr2,hb4,e4,hb6,e6];refine fail46_den (ln:=ln) (cl:=cl) (q:=q) (d:=d) hT 11 q.at_ true (by simp only[gA1,gA2,gA3,gA6,ne_eq,gA9,reduceIte,hr2,hb4,e4,hb6,e6,hr]<;>(first|done|rfl|assumption)) ?_;simp only[go_sem,hr2,hb4,e4,hb6,e6];simp only[go_sem] at hk;exact DK.mk hk (by (refine gel_ge ?_;repeat (first|exact gel_refl _ _ _|refine gel_gs_gs ?_|refine gel_to_gs gs_self ?_|refine gB1 ?_|refine gB2 ?_|refine gel_set (by simp only[gA1,gA2,gA3,gA6,ne_eq,gA9,reduceIte,hr2,hb4,e4,hb6,e6]<;>(first|done|rfl|assumption)) ?_|refine gB3 ?_|refine gel_new (by first|simp only[hb4,hb6]|assumption) ?_))) (Tm.le_leaf _ _ _ _)
  | true =>
   have hlt:=namedF_lt h1;have hg:=RQ.get hlt;have h0:(0:Int)≤(q.at_:Int):=by omega
   rw[h1,Bool.true_and] at hk;simp only[go_sem,hr2,hb4,e4,hb6,e6,hg,hlt,h0];refine isId245_den _ q.tok.text _ _ (hT.txt _ (RQ.mem hlt)) ?_;simp only[go_sem,hr2,hb4,e4,hb6,e6];cases h2:isId q.tok.text with
   | false =>
    rw[h2] at hk;simp only[gD7,if_false] at hk;simp only[go_sem,hr2,hb4,e4,hb6,e6];refine fail46_den (ln:=ln) (cl:=cl) (q:=q) (d:=d) hT 11 q.at_ true (by simp only[gA1,gA2,gA3,gA6,ne_eq,gA9,reduceIte,hr2,hb4,e4,hb6,e6,hr]<;>(first|done|rfl|assumption)) ?_;simp only[go_sem,hr2,hb4,e4,hb6,e6];simp only[go_sem] at hk;exact DK.mk hk (by (refine gel_ge ?_;repeat (first|exact gel_refl _ _ _|refine gel_gs_gs ?_|refine gel_to_gs gs_self ?_|refine gB1 ?_|refine gB2 ?_|refine gel_set (by simp only[gA1,gA2,gA3,gA6,ne_eq,gA9,reduceIte,hr2,hb4,e4,hb6,e6]<;>(first|done|rfl|assumption)) ?_|refine gB3 ?_|refine gel_new (by first|simp only[hb4,hb6]|assumption) ?_))) (Tm.le_leaf _ _ _ _)
   | true =>
    rw[h2,if_pos rfl] at hk;simp only at hk;simp only[go_sem,hr2,hb4,e4,hb6,e6];refine name88_den (ln:=ln) (cl:=cl) (q:=q) (d:=d) hT (by simp only[gA1,gA2,gA3,gA6,ne_eq,gA9,reduceIte,hr2,hb4,e4,hb6,e6,hr]<;>(first|done|rfl|assumption)) ?_;simp only[go_sem,hr2,hb4,e4,hb6,e6];simp only[go_sem] at hk;exact DK.mk hk (by (refine gel_ge ?_;repeat (first|exact gel_refl _ _ _|refine gel_gs_gs ?_|refine gel_to_gs gs_self ?_|refine gB1 ?_|refine gB2 ?_|refine gel_set (by simp only[gA1,gA2,gA3,gA6,ne_eq,gA9,reduceIte,hr2,hb4,e4,hb6,e6]<;>(first|done|rfl|assumption)) ?_|refine gB3 ?_|refine gel_new (by first|simp only[hb4,hb6]|assumption) ?_))) (Tm.le_leaf _ _ _ _)
 rw[if_neg (by simpa using c2)] at hk;simp only[go_sem,hr2,hb4,e4,hb6,e6,c2];cases c3:decide (t.text=[95]);rotate_left
 ·rw[if_pos (.inl (by simpa using c3))] at hk;simp only[go_sem,hr2,hb4,e4,hb6,e6,c3];exact DK.mk hk (by (refine gel_ge ?_;repeat (first|exact gel_refl _ _ _|refine gel_gs_gs ?_|refine gel_to_gs gs_self ?_|refine gB1 ?_|refine gB2 ?_|refine gel_set (by simp only[gA1,gA2,gA3,gA6,ne_eq,gA9,reduceIte,hr2,hb4,e4,hb6,e6]<;>(first|done|rfl|assumption)) ?_|refine gB3 ?_|refine gel_new (by first|simp only[hb4,hb6]|assumption) ?_))) (Tm.le_leaf _ _ _ _)
 simp only[go_sem,hr2,hb4,e4,hb6,e6,c3];cases c4:decide (t.text=[36]);rotate_left
 ·rw[if_pos (.inr (by simpa using c4))] at hk;simp only[go_sem,hr2,hb4,e4,hb6,e6,c4];exact DK.mk hk (by (refine gel_ge ?_;repeat (first|exact gel_refl _ _ _|refine gel_gs_gs ?_|refine gel_to_gs gs_self ?_|refine gB1 ?_|refine gB2 ?_|refine gel_set (by simp only[gA1,gA2,gA3,gA6,ne_eq,gA9,reduceIte,hr2,hb4,e4,hb6,e6]<;>(first|done|rfl|assumption)) ?_|refine gB3 ?_|refine gel_new (by first|simp only[hb4,hb6]|assumption) ?_))) (Tm.le_leaf _ _ _ _)
 rw[if_neg (by simp at c3 c4;rintro (h|h);exact c3 h;exact c4 h)] at hk;simp only[go_sem,hr2,hb4,e4,hb6,e6,c4];cases c5:decide (t.text=[91]);rotate_left
 ·
  rw[if_pos (by simpa using c5)] at hk;simp only at hk;simp only[go_sem,hr2,hb4,e4,hb6,e6,c5];(intro b7 hb7;try simp only[gD6,gA6,ne_eq] at hb7);have e7:=St.ne_of hr (by first|exact hb7|exact hb7.2|exact hb7.2.2|exact hb7.2.2.2|exact hb7.2.2.2.2|exact hb7.2.2.2.2.2|exact hb7.2.2.2.2.2.2);simp only[go_sem,hr2,hb4,e4,hb6,e6,hb7,e7];refine sign228_den (ln:=ln) (cl:=cl) (q:=q) (d:=d) _ (by simp only[gA1,gA2,gA3,gA6,ne_eq,gA9,reduceIte,hr2,hb4,e4,hb6,e6,hb7,e7,hr]<;>(first|done|rfl|assumption)) ?_;cases hA:isF 4 [93] q
  ·rw [hA,Bool.not_false,Bool.true_and] at hk;simp only [go_sem,hr2,hb4,e4,hb6,e6,hb7,e7];refine sign228_den (ln := ln) (cl := cl) (q := q) (d := d) _ (by simp only [gA1,gA2,gA3,gA6,ne_eq,gA9,reduceIte,hr2,hb4,e4,hb6,e6,hb7,e7,hr] <;> (first | done | rfl | assumption)) ?_;simp only [go_sem,hr2,hb4,e4,hb6,e6,hb7,e7];generalize (!isF 4 [124] q) = m at hk ⊢
   refine Ex.loop (ι:=(List Tm × Option Nat) × Bool × RQ T × Nat) (fun c=>[(0,.ptr r 0),(2,.int .i64 ((60-k:Nat):Int)),(6,.ptr b6 0),(7,.ptr b7 0),(8,.bool c.2.1)])
    (fun c=>kidS ln cl d b7 r 7 [] ((s.setO b4 (.cells 60 t.cs)).setO b6 (.cells 43 [.int .i64 0,.int .i64 0,.str [],.str [],.nils,.nils])) c.1.2 c.1.1 c.2.2.1)
    (fun c => (c.1.2 = none → c.1.1 = []) ∧ (∀ t,c.1.2 = some t → s.getT t = none) ∧ c.1.1.length ≤ c.2.2.1.at_ + 1 ∧ (c.2.1 = true → c.1.1.length ≤ c.2.2.1.at_ ∧ T.length - c.2.2.1.at_ < c.2.2.2) ∧
     (∀ p,p = rloop [44] (fun (l : List Tm) q => (l ++ [(termF (finL ln cl) k q).1],(termF (finL ln cl) k q).2)) c.2.2.2 c.2.1 c.1.1 c.2.2.1 →
      KV (s.setO r (rqO ln cl (needF (finL ln cl) 4 [93] (restF (finL ln cl) [76,105,115,116] (60-k) p.2).2) d)) (Tm.enc (.mk 7 0 [] [] p.1 (restF (finL ln cl) [76,105,115,116] (60-k) p.2).1))))
    (fun c=>(T.length-c.2.2.1.at_) * 2+(if c.2.1=true then 1 else 0)) (([],none),m,q,T.length+2) ?_ ?_ ?_ ?_
   ·exact ⟨fun _=>rfl,fun t e=>(by cases e),Nat.zero_le _,fun _=>⟨Nat.zero_le _,by simp only;omega⟩,fun p e=>by subst e;exact hk⟩
   ·simp only[go_sem,hr2,hb4,e4,hb6,e6,hb7,e7]
   ·exact (by (refine gel_ge ?_;repeat (first|exact gel_refl _ _ _|refine gel_gs_gs ?_|refine gel_to_gs gs_self ?_|refine gB1 ?_|refine gB2 ?_|refine gel_set (by simp only[gA1,gA2,gA3,gA6,ne_eq,gA9,reduceIte,hr2,hb4,e4,hb6,e6,hb7,e7]<;>(first|done|rfl|assumption)) ?_|refine gB3 ?_|refine gel_new (by first|simp only[hb4,hb6,hb7]|assumption) ?_)))
   ·rintro ⟨⟨l,tk⟩,more,q,f⟩ ⟨hnil,hfree,hl,hm,hk⟩;simp only at hnil hfree hl hm hk;have hqle:=q.le;refine wpC_ok (V:=[0,1,2,4,6,7,8,9,10,12,13,50,79,98,109,115,130,162]) _ _ _ _ ?_;unfold kidS;cases more with
    | false =>
     have hk:=hk _ rfl;rw[rloop_no] at hk;simp only at hk;simp only[go_sem,e4,e6,e7,hb4,hb6,hb7];refine restF_den (ln:=ln) (cl:=cl) (q:=q) (d:=d) hT [76,105,115,116] (60-k) (by omega) (by simp only[gA1,gA2,gA3,gA6,ne_eq,gA9,reduceIte,e4,e6,e7,hb4,hb6,hb7]<;>(first|done|rfl|assumption)) ?_;generalize restF (finL ln cl) [76,105,115,116] (60-k) q=u at hk ⊢;simp only[go_sem,e4,e6,e7,hb4,hb6,hb7];refine sure89_den (ln:=ln) (cl:=cl) (q:=u.2) (d:=d) hT _ (by simp only[gA1,gA2,gA3,gA6,ne_eq,gA9,reduceIte,e4,e6,e7,hb4,hb6,hb7]<;>(first|done|rfl|assumption)) ?_;simp only[go_sem,e4,e6,e7,hb4,hb6,hb7];refine ⟨gv_one _ _,?_⟩;simp only[go_sem] at hk;refine DK.mk hk (by (refine gel_ge ?_;repeat (first|exact gel_refl _ _ _|refine gel_gs_gs ?_|refine gel_to_gs gs_self ?_|refine gB1 ?_|refine gB2 ?_|refine gel_gs ?_ hfree|refine gel_newT hfree ?_|refine gel_set (by simp only[gA1,gA2,gA3,gA6,ne_eq,gA9,reduceIte,e4,e6,e7,hb4,hb6,hb7]<;>(first|done|rfl|assumption)) ?_|refine gB3 ?_|refine gel_new (by first|simp only[hb4,hb6,hb7]|assumption) ?_))) ?_;exact A.le.agg ⟨⟨A.le.refl _,rfl⟩,⟨A.le.refl _,rfl⟩,⟨A.le.refl _,rfl⟩,⟨A.le.refl _,rfl⟩,⟨gv_le tk _ (fun e=>by rw[hnil e];rfl),rfl⟩,⟨A.le.refl _,rfl⟩,trivial⟩
    | true =>
     simp only[go_sem,e4,e6,e7,hb4,hb6,hb7];refine ok45_den (ln:=ln) (cl:=cl) (q:=q) (d:=d) (by simp only[gA1,gA2,gA3,gA6,ne_eq,gA9,reduceIte,e4,e6,e7,hb4,hb6,hb7]<;>(first|done|rfl|assumption)) ?_;cases ho:q.ok with
     | false =>
      have hk:=hk _ rfl;rw[rloop_bad _ _ _ _ _ _ ho] at hk;simp only at hk;simp only[go_sem,e4,e6,e7,hb4,hb6,hb7];refine restF_den (ln:=ln) (cl:=cl) (q:=q) (d:=d) hT [76,105,115,116] (60-k) (by omega) (by simp only[gA1,gA2,gA3,gA6,ne_eq,gA9,reduceIte,e4,e6,e7,hb4,hb6,hb7]<;>(first|done|rfl|assumption)) ?_;generalize restF (finL ln cl) [76,105,115,116] (60-k) q=u at hk ⊢;simp only[go_sem,e4,e6,e7,hb4,hb6,hb7];refine sure89_den (ln:=ln) (cl:=cl) (q:=u.2) (d:=d) hT _ (by simp only[gA1,gA2,gA3,gA6,ne_eq,gA9,reduceIte,e4,e6,e7,hb4,hb6,hb7]<;>(first|done|rfl|assumption)) ?_;simp only[go_sem,e4,e6,e7,hb4,hb6,hb7];refine ⟨gv_one _ _,?_⟩;simp only[go_sem] at hk;refine DK.mk hk (by (refine gel_ge ?_;repeat (first|exact gel_refl _ _ _|refine gel_gs_gs ?_|refine gel_to_gs gs_self ?_|refine gB1 ?_|refine gB2 ?_|refine gel_gs ?_ hfree|refine gel_newT hfree ?_|refine gel_set (by simp only[gA1,gA2,gA3,gA6,ne_eq,gA9,reduceIte,e4,e6,e7,hb4,hb6,hb7]<;>(first|done|rfl|assumption)) ?_|refine gB3 ?_|refine gel_new (by first|simp only[hb4,hb6,hb7]|assumption) ?_))) ?_;exact A.le.agg ⟨⟨A.le.refl _,rfl⟩,⟨A.le.refl _,rfl⟩,⟨A.le.refl _,rfl⟩,⟨A.le.refl _,rfl⟩,⟨gv_le tk _ (fun e=>by rw[hnil e];rfl),rfl⟩,⟨A.le.refl _,rfl⟩,trivial⟩
     | true =>
      obtain ⟨hl2,hf⟩:=hm rfl;obtain ⟨f,rfl⟩:∃ f',f=f'+1:=⟨f-1,by omega⟩
      simp only[go_sem,e4,e6,e7,hb4,hb6,hb7];(refine draw_ok (V:=[0,1,2,4,6,7,8,9,10,12,13,50,79,98,109,115,130,162]) (OT.l [0,1,2,3,4,5,6,7,8,9] .nil) [(5,[1])] mixed_cx (by decide +kernel) ?_;simp only[go_sem,e4,e6,e7,hb4,hb6,hb7,ed]);refine IH _ q d _ _ (by simp only[gA1,gA2,gA3,gA6,ne_eq,gA9,reduceIte,e4,e6,e7,hb4,hb6,hb7]<;>(first|done|rfl|assumption)) ?_;have hmono:=termF_mono (fin:=finL ln cl) k q;have hk:=hk _ rfl;rw[rloop_go _ _ _ _ _ ho] at hk;simp only at hk;generalize termF (finL ln cl) k q=p at hk hmono ⊢;have hple:=p.2.le;simp only[go_sem,e4,e6,e7,hb4,hb6,hb7,Tm.enc_eq];refine ⟨by decide,fun y hy=>by simp only[List.mem_singleton] at hy;subst hy;rfl,appL_gv rfl rfl (by rw[gC4];exact gs_ok fun e=>by rw[hnil e];rfl) (fun y hy=>?_) (by simp only[gC4,gC1,gC3];omega) (fun u hu=>?_)⟩
      ·simp only[List.mem_map] at hy;obtain ⟨z,_,rfl⟩:=hy;exact Tm.hz z
      have hfu:=gs_free hu hfree;rw[gs_set hu];simp only[go_sem,e4,e6,e7,hb4,hb6,hb7];refine comma159_den (ln:=ln) (cl:=cl) (q:=p.2) (d:=d) hT (by simp only[gA1,gA2,gA3,gA6,ne_eq,gA9,reduceIte,e4,e6,e7,hb4,hb6,hb7]<;>(first|done|rfl|assumption)) ?_;have hc:=commaF_mono [44] p.2;have hc2:=commaF_lt (x:=[44]) (q:=p.2);generalize commaF [44] p.2=c at hk hc hc2 ⊢;have hcle:=c.2.le;simp only[go_sem,e4,e6,e7,hb4,hb6,hb7];refine ⟨((l++[p.1],some u),c.1,c.2,f),⟨fun e=>(by cases e),fun t e=>by cases e;exact hfu,by simp only[gC2,gC1,gC3];omega,fun e=>⟨by have:=hc2 e;simp only[gC2,gC1,gC3];omega,by have:=hc2 e;simp only;omega⟩,fun p' e=>by subst e;(first|exact hk|(simp only[go_sem] at hk;exact hk)|(simp only[go_sem] at hk;simp only[go_sem];exact hk))⟩,?_,rfl,?_⟩
      ·simp only;split
       ·rename_i e;have:=hc2 e;omega
       ·omega
      ·simp only[gv_some,List.map_append,List.map_cons,List.map_nil,gC2,gC1,gC3,Tm.enc_eq,Tm.cs];exact (by (refine gel_ge ?_;repeat (first|exact gel_refl _ _ _|refine gel_gs_gs ?_|refine gel_to_gs gs_self ?_|refine gB1 ?_|refine gB2 ?_|refine gel_gs ?_ hfree|refine gel_newT hfree ?_|refine gel_set (by simp only[gA1,gA2,gA3,gA6,ne_eq,gA9,reduceIte,e4,e6,e7,hb4,hb6,hb7]<;>(first|done|rfl|assumption)) ?_|refine gB3 ?_|refine gel_new (by first|simp only[hb4,hb6,hb7]|assumption) ?_)))
  ·rw [hA,Bool.not_true,Bool.false_and] at hk;simp only [go_sem,hr2,e4,e6,hb4,hb6,hb7,e7]
   refine Ex.loop (ι:=(List Tm × Option Nat) × Bool × RQ T × Nat) (fun c=>[(0,.ptr r 0),(2,.int .i64 ((60-k:Nat):Int)),(6,.ptr b6 0),(7,.ptr b7 0),(8,.bool c.2.1)])
    (fun c=>kidS ln cl d b7 r 7 [] ((s.setO b4 (.cells 60 t.cs)).setO b6 (.cells 43 [.int .i64 0,.int .i64 0,.str [],.str [],.nils,.nils])) c.1.2 c.1.1 c.2.2.1)
    (fun c => (c.1.2 = none → c.1.1 = []) ∧ (∀ t,c.1.2 = some t → s.getT t = none) ∧ c.1.1.length ≤ c.2.2.1.at_ + 1 ∧ (c.2.1 = true → c.1.1.length ≤ c.2.2.1.at_ ∧ T.length - c.2.2.1.at_ < c.2.2.2) ∧
     (∀ p,p = rloop [44] (fun (l : List Tm) q => (l ++ [(termF (finL ln cl) k q).1],(termF (finL ln cl) k q).2)) c.2.2.2 c.2.1 c.1.1 c.2.2.1 →
      KV (s.setO r (rqO ln cl (needF (finL ln cl) 4 [93] (restF (finL ln cl) [76,105,115,116] (60-k) p.2).2) d)) (Tm.enc (.mk 7 0 [] [] p.1 (restF (finL ln cl) [76,105,115,116] (60-k) p.2).1))))
    (fun c=>(T.length-c.2.2.1.at_) * 2+(if c.2.1=true then 1 else 0)) (([],none),false,q,T.length+2) ?_ ?_ ?_ ?_
   ·exact ⟨fun _=>rfl,fun t e=>(by cases e),Nat.zero_le _,fun _=>⟨Nat.zero_le _,by simp only;omega⟩,fun p e=>by subst e;exact hk⟩
   ·simp only[go_sem,hr2,e4,e6,hb4,hb6,hb7,e7]
   ·exact (by (refine gel_ge ?_;repeat (first|exact gel_refl _ _ _|refine gel_gs_gs ?_|refine gel_to_gs gs_self ?_|refine gB1 ?_|refine gB2 ?_|refine gel_set (by simp only[gA1,gA2,gA3,gA6,ne_eq,gA9,reduceIte,hr2,e4,e6,hb4,hb6,hb7,e7]<;>(first|done|rfl|assumption)) ?_|refine gB3 ?_|refine gel_new (by first|simp only[hb4,hb6,hb7]|assumption) ?_)))
   ·rintro ⟨⟨l,tk⟩,more,q,f⟩ ⟨hnil,hfree,hl,hm,hk⟩;simp only at hnil hfree hl hm hk;have hqle:=q.le;refine wpC_ok (V:=[0,1,2,4,6,7,8,9,10,12,13,50,79,98,109,115,130,162]) _ _ _ _ ?_;unfold kidS;cases more with
    | false =>
     have hk:=hk _ rfl;rw[rloop_no] at hk;simp only at hk;simp only[go_sem,e4,e6,e7,hb4,hb6,hb7];refine restF_den (ln:=ln) (cl:=cl) (q:=q) (d:=d) hT [76,105,115,116] (60-k) (by omega) (by simp only[gA1,gA2,gA3,gA6,ne_eq,gA9,reduceIte,e4,e6,e7,hb4,hb6,hb7]<;>(first|done|rfl|assumption)) ?_;generalize restF (finL ln cl) [76,105,115,116] (60-k) q=u at hk ⊢;simp only[go_sem,e4,e6,e7,hb4,hb6,hb7];refine sure89_den (ln:=ln) (cl:=cl) (q:=u.2) (d:=d) hT _ (by simp only[gA1,gA2,gA3,gA6,ne_eq,gA9,reduceIte,e4,e6,e7,hb4,hb6,hb7]<;>(first|done|rfl|assumption)) ?_;simp only[go_sem,e4,e6,e7,hb4,hb6,hb7];refine ⟨gv_one _ _,?_⟩;simp only[go_sem] at hk;refine DK.mk hk (by (refine gel_ge ?_;repeat (first|exact gel_refl _ _ _|refine gel_gs_gs ?_|refine gel_to_gs gs_self ?_|refine gB1 ?_|refine gB2 ?_|refine gel_gs ?_ hfree|refine gel_newT hfree ?_|refine gel_set (by simp only[gA1,gA2,gA3,gA6,ne_eq,gA9,reduceIte,e4,e6,e7,hb4,hb6,hb7]<;>(first|done|rfl|assumption)) ?_|refine gB3 ?_|refine gel_new (by first|simp only[hb4,hb6,hb7]|assumption) ?_))) ?_;exact A.le.agg ⟨⟨A.le.refl _,rfl⟩,⟨A.le.refl _,rfl⟩,⟨A.le.refl _,rfl⟩,⟨A.le.refl _,rfl⟩,⟨gv_le tk _ (fun e=>by rw[hnil e];rfl),rfl⟩,⟨A.le.refl _,rfl⟩,trivial⟩
    | true =>
     simp only[go_sem,e4,e6,e7,hb4,hb6,hb7];refine ok45_den (ln:=ln) (cl:=cl) (q:=q) (d:=d) (by simp only[gA1,gA2,gA3,gA6,ne_eq,gA9,reduceIte,e4,e6,e7,hb4,hb6,hb7]<;>(first|done|rfl|assumption)) ?_;cases ho:q.ok with
     | false =>
      have hk:=hk _ rfl;rw[rloop_bad _ _ _ _ _ _ ho] at hk;simp only at hk;simp only[go_sem,e4,e6,e7,hb4,hb6,hb7];refine restF_den (ln:=ln) (cl:=cl) (q:=q) (d:=d) hT [76,105,115,116] (60-k) (by omega) (by simp only[gA1,gA2,gA3,gA6,ne_eq,gA9,reduceIte,e4,e6,e7,hb4,hb6,hb7]<;>(first|done|rfl|assumption)) ?_;generalize restF (finL ln cl) [76,105,115,116] (60-k) q=u at hk ⊢;simp only[go_sem,e4,e6,e7,hb4,hb6,hb7];refine sure89_den (ln:=ln) (cl:=cl) (q:=u.2) (d:=d) hT _ (by simp only[gA1,gA2,gA3,gA6,ne_eq,gA9,reduceIte,e4,e6,e7,hb4,hb6,hb7]<;>(first|done|rfl|assumption)) ?_;simp only[go_sem,e4,e6,e7,hb4,hb6,hb7];refine ⟨gv_one _ _,?_⟩;simp only[go_sem] at hk;refine DK.mk hk (by (refine gel_ge ?_;repeat (first|exact gel_refl _ _ _|refine gel_gs_gs ?_|refine gel_to_gs gs_self ?_|refine gB1 ?_|refine gB2 ?_|refine gel_gs ?_ hfree|refine gel_newT hfree ?_|refine gel_set (by simp only[gA1,gA2,gA3,gA6,ne_eq,gA9,reduceIte,e4,e6,e7,hb4,hb6,hb7]<;>(first|done|rfl|assumption)) ?_|refine gB3 ?_|refine gel_new (by first|simp only[hb4,hb6,hb7]|assumption) ?_))) ?_;exact A.le.agg ⟨⟨A.le.refl _,rfl⟩,⟨A.le.refl _,rfl⟩,⟨A.le.refl _,rfl⟩,⟨A.le.refl _,rfl⟩,⟨gv_le tk _ (fun e=>by rw[hnil e];rfl),rfl⟩,⟨A.le.refl _,rfl⟩,trivial⟩
     | true =>
      obtain ⟨hl2,hf⟩:=hm rfl;obtain ⟨f,rfl⟩:∃ f',f=f'+1:=⟨f-1,by omega⟩
      simp only[go_sem,e4,e6,e7,hb4,hb6,hb7];(refine draw_ok (V:=[0,1,2,4,6,7,8,9,10,12,13,50,79,98,109,115,130,162]) (OT.l [0,1,2,3,4,5,6,7,8,9] .nil) [(5,[1])] mixed_cx (by decide +kernel) ?_;simp only[go_sem,e4,e6,e7,hb4,hb6,hb7,ed]);refine IH _ q d _ _ (by simp only[gA1,gA2,gA3,gA6,ne_eq,gA9,reduceIte,e4,e6,e7,hb4,hb6,hb7]<;>(first|done|rfl|assumption)) ?_;have hmono:=termF_mono (fin:=finL ln cl) k q;have hk:=hk _ rfl;rw[rloop_go _ _ _ _ _ ho] at hk;simp only at hk;generalize termF (finL ln cl) k q=p at hk hmono ⊢;have hple:=p.2.le;simp only[go_sem,e4,e6,e7,hb4,hb6,hb7,Tm.enc_eq];refine ⟨by decide,fun y hy=>by simp only[List.mem_singleton] at hy;subst hy;rfl,appL_gv rfl rfl (by rw[gC4];exact gs_ok fun e=>by rw[hnil e];rfl) (fun y hy=>?_) (by simp only[gC4,gC1,gC3];omega) (fun u hu=>?_)⟩
      ·simp only[List.mem_map] at hy;obtain ⟨z,_,rfl⟩:=hy;exact Tm.hz z
      have hfu:=gs_free hu hfree;rw[gs_set hu];simp only[go_sem,e4,e6,e7,hb4,hb6,hb7];refine comma159_den (ln:=ln) (cl:=cl) (q:=p.2) (d:=d) hT (by simp only[gA1,gA2,gA3,gA6,ne_eq,gA9,reduceIte,e4,e6,e7,hb4,hb6,hb7]<;>(first|done|rfl|assumption)) ?_;have hc:=commaF_mono [44] p.2;have hc2:=commaF_lt (x:=[44]) (q:=p.2);generalize commaF [44] p.2=c at hk hc hc2 ⊢;have hcle:=c.2.le;simp only[go_sem,e4,e6,e7,hb4,hb6,hb7];refine ⟨((l++[p.1],some u),c.1,c.2,f),⟨fun e=>(by cases e),fun t e=>by cases e;exact hfu,by simp only[gC2,gC1,gC3];omega,fun e=>⟨by have:=hc2 e;simp only[gC2,gC1,gC3];omega,by have:=hc2 e;simp only;omega⟩,fun p' e=>by subst e;(first|exact hk|(simp only[go_sem] at hk;exact hk)|(simp only[go_sem] at hk;simp only[go_sem];exact hk))⟩,?_,rfl,?_⟩
      ·simp only;split
       ·rename_i e;have:=hc2 e;omega
       ·omega
      ·simp only[gv_some,List.map_append,List.map_cons,List.map_nil,gC2,gC1,gC3,Tm.enc_eq,Tm.cs];exact (by (refine gel_ge ?_;repeat (first|exact gel_refl _ _ _|refine gel_gs_gs ?_|refine gel_to_gs gs_self ?_|refine gB1 ?_|refine gB2 ?_|refine gel_gs ?_ hfree|refine gel_newT hfree ?_|refine gel_set (by simp only[gA1,gA2,gA3,gA6,ne_eq,gA9,reduceIte,e4,e6,e7,hb4,hb6,hb7]<;>(first|done|rfl|assumption)) ?_|refine gB3 ?_|refine gel_new (by first|simp only[hb4,hb6,hb7]|assumption) ?_)))
 rw[if_neg (by simpa using c5)] at hk;simp only at hk;simp only[go_sem,hr2,hb4,e4,hb6,e6,c5];(intro b9 hb9;try simp only[gD6,gA6,ne_eq] at hb9);have e9:=St.ne_of hr (by first|exact hb9|exact hb9.2|exact hb9.2.2|exact hb9.2.2.2|exact hb9.2.2.2.2|exact hb9.2.2.2.2.2|exact hb9.2.2.2.2.2.2);simp only[go_sem,hr2,hb4,e4,hb6,e6,hb9,e9];refine sign228_den (ln:=ln) (cl:=cl) (q:=q) (d:=d) _ (by simp only[gA1,gA2,gA3,gA6,ne_eq,gA9,reduceIte,hr2,hb4,e4,hb6,e6,hb9,e9,hr]<;>(first|done|rfl|assumption)) ?_;cases hA:isF 4 [125] q
 ·rw [hA,Bool.not_false,Bool.true_and] at hk;simp only [go_sem,hr2,hb4,e4,hb6,e6,hb9,e9];refine sign228_den (ln := ln) (cl := cl) (q := q) (d := d) _ (by simp only [gA1,gA2,gA3,gA6,ne_eq,gA9,reduceIte,hr2,hb4,e4,hb6,e6,hb9,e9,hr] <;> (first | done | rfl | assumption)) ?_;simp only [go_sem,hr2,hb4,e4,hb6,e6,hb9,e9];generalize (!isF 4 [124] q) = m at hk ⊢
  refine Ex.loop (ι:=(List Tm × Option Nat) × Bool × RQ T × Nat) (fun c=>[(0,.ptr r 0),(2,.int .i64 ((60-k:Nat):Int)),(6,.ptr b6 0),(9,.ptr b9 0),(10,.bool c.2.1)])
   (fun c=>kidS ln cl d b9 r 8 [] ((s.setO b4 (.cells 60 t.cs)).setO b6 (.cells 43 [.int .i64 0,.int .i64 0,.str [],.str [],.nils,.nils])) c.1.2 c.1.1 c.2.2.1)
   (fun c => (c.1.2 = none → c.1.1 = []) ∧ (∀ t,c.1.2 = some t → s.getT t = none) ∧ c.1.1.length ≤ 2 * c.2.2.1.at_ + 2 ∧ (c.2.1 = true → c.1.1.length ≤ 2 * c.2.2.1.at_ ∧ T.length - c.2.2.1.at_ < c.2.2.2) ∧
    (∀ p,p = rloop [44] (fun (l : List Tm) q => (l ++ [(termF (finL ln cl) k q).1] ++ [(termF (finL ln cl) k (needF (finL ln cl) 4 [45,62] (termF (finL ln cl) k q).2)).1],(termF (finL ln cl) k (needF (finL ln cl) 4 [45,62] (termF (finL ln cl) k q).2)).2)) c.2.2.2 c.2.1 c.1.1 c.2.2.1 →
     KV (s.setO r (rqO ln cl (needF (finL ln cl) 4 [125] (restF (finL ln cl) [77,97,112] (60-k) p.2).2) d)) (Tm.enc (.mk 8 0 [] [] p.1 (restF (finL ln cl) [77,97,112] (60-k) p.2).1))))
   (fun c=>(T.length-c.2.2.1.at_) * 2+(if c.2.1=true then 1 else 0)) (([],none),m,q,T.length+2) ?_ ?_ ?_ ?_
  ·exact ⟨fun _=>rfl,fun t e=>(by cases e),Nat.zero_le _,fun _=>⟨Nat.zero_le _,by simp only;omega⟩,fun p e=>by subst e;exact hk⟩
  ·simp only[go_sem,hr2,hb4,e4,hb6,e6,hb9,e9]
  ·exact (by (refine gel_ge ?_;repeat (first|exact gel_refl _ _ _|refine gel_gs_gs ?_|refine gel_to_gs gs_self ?_|refine gB1 ?_|refine gB2 ?_|refine gel_set (by simp only[gA1,gA2,gA3,gA6,ne_eq,gA9,reduceIte,hr2,hb4,e4,hb6,e6,hb9,e9]<;>(first|done|rfl|assumption)) ?_|refine gB3 ?_|refine gel_new (by first|simp only[hb4,hb6,hb9]|assumption) ?_)))
  ·rintro ⟨⟨l,tk⟩,more,q,f⟩ ⟨hnil,hfree,hl,hm,hk⟩;simp only at hnil hfree hl hm hk;have hqle:=q.le;refine wpC_ok (V:=[0,1,2,4,6,7,8,9,10,12,13,50,79,98,109,115,130,162]) _ _ _ _ ?_;unfold kidS;cases more with
   | false =>
    have hk:=hk _ rfl;rw[rloop_no] at hk;simp only at hk;simp only[go_sem,e4,e6,e9,hb4,hb6,hb9];refine restF_den (ln:=ln) (cl:=cl) (q:=q) (d:=d) hT [77,97,112] (60-k) (by omega) (by simp only[gA1,gA2,gA3,gA6,ne_eq,gA9,reduceIte,e4,e6,e9,hb4,hb6,hb9]<;>(first|done|rfl|assumption)) ?_;generalize restF (finL ln cl) [77,97,112] (60-k) q=u at hk ⊢;simp only[go_sem,e4,e6,e9,hb4,hb6,hb9];refine sure89_den (ln:=ln) (cl:=cl) (q:=u.2) (d:=d) hT _ (by simp only[gA1,gA2,gA3,gA6,ne_eq,gA9,reduceIte,e4,e6,e9,hb4,hb6,hb9]<;>(first|done|rfl|assumption)) ?_;simp only[go_sem,e4,e6,e9,hb4,hb6,hb9];refine ⟨gv_one _ _,?_⟩;simp only[go_sem] at hk;refine DK.mk hk (by (refine gel_ge ?_;repeat (first|exact gel_refl _ _ _|refine gel_gs_gs ?_|refine gel_to_gs gs_self ?_|refine gB1 ?_|refine gB2 ?_|refine gel_gs ?_ hfree|refine gel_newT hfree ?_|refine gel_set (by simp only[gA1,gA2,gA3,gA6,ne_eq,gA9,reduceIte,e4,e6,e9,hb4,hb6,hb9]<;>(first|done|rfl|assumption)) ?_|refine gB3 ?_|refine gel_new (by first|simp only[hb4,hb6,hb9]|assumption) ?_))) ?_;exact A.le.agg ⟨⟨A.le.refl _,rfl⟩,⟨A.le.refl _,rfl⟩,⟨A.le.refl _,rfl⟩,⟨A.le.refl _,rfl⟩,⟨gv_le tk _ (fun e=>by rw[hnil e];rfl),rfl⟩,⟨A.le.refl _,rfl⟩,trivial⟩
   | true =>
    simp only[go_sem,e4,e6,e9,hb4,hb6,hb9];refine ok45_den (ln:=ln) (cl:=cl) (q:=q) (d:=d) (by simp only[gA1,gA2,gA3,gA6,ne_eq,gA9,reduceIte,e4,e6,e9,hb4,hb6,hb9]<;>(first|done|rfl|assumption)) ?_;cases ho:q.ok with
    | false =>
     have hk:=hk _ rfl;rw[rloop_bad _ _ _ _ _ _ ho] at hk;simp only at hk;simp only[go_sem,e4,e6,e9,hb4,hb6,hb9];refine restF_den (ln:=ln) (cl:=cl) (q:=q) (d:=d) hT [77,97,112] (60-k) (by omega) (by simp only[gA1,gA2,gA3,gA6,ne_eq,gA9,reduceIte,e4,e6,e9,hb4,hb6,hb9]<;>(first|done|rfl|assumption)) ?_;generalize restF (finL ln cl) [77,97,112] (60-k) q=u at hk ⊢;simp only[go_sem,e4,e6,e9,hb4,hb6,hb9];refine sure89_den (ln:=ln) (cl:=cl) (q:=u.2) (d:=d) hT _ (by simp only[gA1,gA2,gA3,gA6,ne_eq,gA9,reduceIte,e4,e6,e9,hb4,hb6,hb9]<;>(first|done|rfl|assumption)) ?_;simp only[go_sem,e4,e6,e9,hb4,hb6,hb9];refine ⟨gv_one _ _,?_⟩;simp only[go_sem] at hk;refine DK.mk hk (by (refine gel_ge ?_;repeat (first|exact gel_refl _ _ _|refine gel_gs_gs ?_|refine gel_to_gs gs_self ?_|refine gB1 ?_|refine gB2 ?_|refine gel_gs ?_ hfree|refine gel_newT hfree ?_|refine gel_set (by simp only[gA1,gA2,gA3,gA6,ne_eq,gA9,reduceIte,e4,e6,e9,hb4,hb6,hb9]<;>(first|done|rfl|assumption)) ?_|refine gB3 ?_|refine gel_new (by first|simp only[hb4,hb6,hb9]|assumption) ?_))) ?_;exact A.le.agg ⟨⟨A.le.refl _,rfl⟩,⟨A.le.refl _,rfl⟩,⟨A.le.refl _,rfl⟩,⟨A.le.refl _,rfl⟩,⟨gv_le tk _ (fun e=>by rw[hnil e];rfl),rfl⟩,⟨A.le.refl _,rfl⟩,trivial⟩
    | true =>
     obtain ⟨hl2,hf⟩:=hm rfl;obtain ⟨f,rfl⟩:∃ f',f=f'+1:=⟨f-1,by omega⟩
     simp only[go_sem,e4,e6,e9,hb4,hb6,hb9];(refine draw_ok (V:=[0,1,2,4,6,7,8,9,10,12,13,50,79,98,109,115,130,162]) (OT.l [0,1,2,3,4,5,6,7,8,9] .nil) [(5,[1])] mixed_cx (by decide +kernel) ?_;simp only[go_sem,e4,e6,e9,hb4,hb6,hb9,ed]);refine IH _ q d _ _ (by simp only[gA1,gA2,gA3,gA6,ne_eq,gA9,reduceIte,e4,e6,e9,hb4,hb6,hb9]<;>(first|done|rfl|assumption)) ?_;have hmono:=termF_mono (fin:=finL ln cl) k q;have hk:=hk _ rfl;rw[rloop_go _ _ _ _ _ ho] at hk;simp only at hk;generalize termF (finL ln cl) k q=p at hk hmono ⊢;have hple:=p.2.le;simp only[go_sem,e4,e6,e9,hb4,hb6,hb9,Tm.enc_eq];refine ⟨by decide,fun y hy=>by simp only[List.mem_singleton] at hy;subst hy;rfl,appL_gv rfl rfl (by rw[gC4];exact gs_ok fun e=>by rw[hnil e];rfl) (fun y hy=>?_) (by simp only[gC4,gC1,gC3];omega) (fun u hu=>?_)⟩
     ·simp only[List.mem_map] at hy;obtain ⟨z,_,rfl⟩:=hy;exact Tm.hz z
     have hfu:=gs_free hu hfree;rw[gs_set hu];simp only[go_sem,e4,e6,e9,hb4,hb6,hb9];refine sure89_den (ln:=ln) (cl:=cl) (q:=p.2) (d:=d) hT _ (by simp only[gA1,gA2,gA3,gA6,ne_eq,gA9,reduceIte,e4,e6,e9,hb4,hb6,hb9]<;>(first|done|rfl|assumption)) ?_;have hmono2:=needF_mono (fin:=finL ln cl) 4 [45,62] p.2;generalize needF (finL ln cl) 4 [45,62] p.2=q5 at hk hmono2 ⊢;have hq5:=q5.le;simp only[go_sem,e4,e6,e9,hb4,hb6,hb9];(refine draw_ok (V:=[0,1,2,4,6,7,8,9,10,12,13,50,79,98,109,115,130,162]) (OT.l [0,1,2,3,4,5,6,7,8,9] .nil) [(5,[1])] mixed_cx (by decide +kernel) ?_;simp only[go_sem,e4,e6,e9,hb4,hb6,hb9,ed]);refine IH _ q5 d _ _ (by simp only[gA1,gA2,gA3,gA6,ne_eq,gA9,reduceIte,e4,e6,e9,hb4,hb6,hb9]<;>(first|done|rfl|assumption)) ?_;have hmono3:=termF_mono (fin:=finL ln cl) k q5;generalize termF (finL ln cl) k q5=p5 at hk hmono3 ⊢;have hp5:=p5.2.le;simp only[go_sem,e4,e6,e9,hb4,hb6,hb9,Tm.enc_eq];refine ⟨by decide,fun y hy=>by simp only[List.mem_singleton] at hy;subst hy;rfl,by simp only[gC2,gC4,gC1,gC3],fun y hy=>?_,by simp only[gC2,gC4,gC1,gC3];omega,?_⟩
     ·rcases List.mem_append.1 hy with hy|hy
      ·simp only[List.mem_map] at hy;obtain ⟨z,_,rfl⟩:=hy;exact Tm.hz z
      ·simp only[List.mem_singleton] at hy;subst hy;rfl
     refine comma159_den (ln:=ln) (cl:=cl) (q:=p5.2) (d:=d) hT (by simp only[gA1,gA2,gA3,gA6,ne_eq,gA9,reduceIte,e4,e6,e9,hb4,hb6,hb9]<;>(first|done|rfl|assumption)) ?_;have hc:=commaF_mono [44] p5.2;have hc2:=commaF_lt (x:=[44]) (q:=p5.2);generalize commaF [44] p5.2=c at hk hc hc2 ⊢;have hcle:=c.2.le;simp only[go_sem,e4,e6,e9,hb4,hb6,hb9];refine ⟨((l++[p.1]++[p5.1],some u),c.1,c.2,f),⟨fun e=>(by cases e),fun t e=>by cases e;exact hfu,by simp only[gC2,gC1,gC3];omega,fun e=>⟨by have:=hc2 e;simp only[gC2,gC1,gC3];omega,by have:=hc2 e;simp only;omega⟩,fun p' e=>by subst e;(first|exact hk|(simp only[go_sem] at hk;exact hk)|(simp only[go_sem] at hk;simp only[go_sem];exact hk))⟩,?_,rfl,?_⟩
     ·simp only;split
      ·rename_i e;have:=hc2 e;omega
      ·omega
     ·simp only[gv_some,List.map_append,List.map_cons,List.map_nil,gC2,gC1,gC3,gC4,Tm.enc_eq,Tm.cs];exact (by (refine gel_ge ?_;repeat (first|exact gel_refl _ _ _|refine gel_gs_gs ?_|refine gel_to_gs gs_self ?_|refine gB1 ?_|refine gB2 ?_|refine gel_gs ?_ hfree|refine gel_newT hfree ?_|refine gel_set (by simp only[gA1,gA2,gA3,gA6,ne_eq,gA9,reduceIte,e4,e6,e9,hb4,hb6,hb9]<;>(first|done|rfl|assumption)) ?_|refine gB3 ?_|refine gel_new (by first|simp only[hb4,hb6,hb9]|assumption) ?_)))
 ·rw [hA,Bool.not_true,Bool.false_and] at hk;simp only [go_sem,hr2,e4,e6,hb4,hb6,hb9,e9]
  refine Ex.loop (ι:=(List Tm × Option Nat) × Bool × RQ T × Nat) (fun c=>[(0,.ptr r 0),(2,.int .i64 ((60-k:Nat):Int)),(6,.ptr b6 0),(9,.ptr b9 0),(10,.bool c.2.1)])
   (fun c=>kidS ln cl d b9 r 8 [] ((s.setO b4 (.cells 60 t.cs)).setO b6 (.cells 43 [.int .i64 0,.int .i64 0,.str [],.str [],.nils,.nils])) c.1.2 c.1.1 c.2.2.1)
   (fun c => (c.1.2 = none → c.1.1 = []) ∧ (∀ t,c.1.2 = some t → s.getT t = none) ∧ c.1.1.length ≤ 2 * c.2.2.1.at_ + 2 ∧ (c.2.1 = true → c.1.1.length ≤ 2 * c.2.2.1.at_ ∧ T.length - c.2.2.1.at_ < c.2.2.2) ∧
    (∀ p,p = rloop [44] (fun (l : List Tm) q => (l ++ [(termF (finL ln cl) k q).1] ++ [(termF (finL ln cl) k (needF (finL ln cl) 4 [45,62] (termF (finL ln cl) k q).2)).1],(termF (finL ln cl) k (needF (finL ln cl) 4 [45,62] (termF (finL ln cl) k q).2)).2)) c.2.2.2 c.2.1 c.1.1 c.2.2.1 →
     KV (s.setO r (rqO ln cl (needF (finL ln cl) 4 [125] (restF (finL ln cl) [77,97,112] (60-k) p.2).2) d)) (Tm.enc (.mk 8 0 [] [] p.1 (restF (finL ln cl) [77,97,112] (60-k) p.2).1))))
   (fun c=>(T.length-c.2.2.1.at_) * 2+(if c.2.1=true then 1 else 0)) (([],none),false,q,T.length+2) ?_ ?_ ?_ ?_
  ·exact ⟨fun _=>rfl,fun t e=>(by cases e),Nat.zero_le _,fun _=>⟨Nat.zero_le _,by simp only;omega⟩,fun p e=>by subst e;exact hk⟩
  ·simp only[go_sem,hr2,e4,e6,hb4,hb6,hb9,e9]
  ·exact (by (refine gel_ge ?_;repeat (first|exact gel_refl _ _ _|refine gel_gs_gs ?_|refine gel_to_gs gs_self ?_|refine gB1 ?_|refine gB2 ?_|refine gel_set (by simp only[gA1,gA2,gA3,gA6,ne_eq,gA9,reduceIte,hr2,e4,e6,hb4,hb6,hb9,e9]<;>(first|done|rfl|assumption)) ?_|refine gB3 ?_|refine gel_new (by first|simp only[hb4,hb6,hb9]|assumption) ?_)))
  ·rintro ⟨⟨l,tk⟩,more,q,f⟩ ⟨hnil,hfree,hl,hm,hk⟩;simp only at hnil hfree hl hm hk;have hqle:=q.le;refine wpC_ok (V:=[0,1,2,4,6,7,8,9,10,12,13,50,79,98,109,115,130,162]) _ _ _ _ ?_;unfold kidS;cases more with
   | false =>
    have hk:=hk _ rfl;rw[rloop_no] at hk;simp only at hk;simp only[go_sem,e4,e6,e9,hb4,hb6,hb9];refine restF_den (ln:=ln) (cl:=cl) (q:=q) (d:=d) hT [77,97,112] (60-k) (by omega) (by simp only[gA1,gA2,gA3,gA6,ne_eq,gA9,reduceIte,e4,e6,e9,hb4,hb6,hb9]<;>(first|done|rfl|assumption)) ?_;generalize restF (finL ln cl) [77,97,112] (60-k) q=u at hk ⊢;simp only[go_sem,e4,e6,e9,hb4,hb6,hb9];refine sure89_den (ln:=ln) (cl:=cl) (q:=u.2) (d:=d) hT _ (by simp only[gA1,gA2,gA3,gA6,ne_eq,gA9,reduceIte,e4,e6,e9,hb4,hb6,hb9]<;>(first|done|rfl|assumption)) ?_;simp only[go_sem,e4,e6,e9,hb4,hb6,hb9];refine ⟨gv_one _ _,?_⟩;simp only[go_sem] at hk;refine DK.mk hk (by (refine gel_ge ?_;repeat (first|exact gel_refl _ _ _|refine gel_gs_gs ?_|refine gel_to_gs gs_self ?_|refine gB1 ?_|refine gB2 ?_|refine gel_gs ?_ hfree|refine gel_newT hfree ?_|refine gel_set (by simp only[gA1,gA2,gA3,gA6,ne_eq,gA9,reduceIte,e4,e6,e9,hb4,hb6,hb9]<;>(first|done|rfl|assumption)) ?_|refine gB3 ?_|refine gel_new (by first|simp only[hb4,hb6,hb9]|assumption) ?_))) ?_;exact A.le.agg ⟨⟨A.le.refl _,rfl⟩,⟨A.le.refl _,rfl⟩,⟨A.le.refl _,rfl⟩,⟨A.le.refl _,rfl⟩,⟨gv_le tk _ (fun e=>by rw[hnil e];rfl),rfl⟩,⟨A.le.refl _,rfl⟩,trivial⟩
   | true =>
    simp only[go_sem,e4,e6,e9,hb4,hb6,hb9];refine ok45_den (ln:=ln) (cl:=cl) (q:=q) (d:=d) (by simp only[gA1,gA2,gA3,gA6,ne_eq,gA9,reduceIte,e4,e6,e9,hb4,hb6,hb9]<;>(first|done|rfl|assumption)) ?_;cases ho:q.ok with
    | false =>
     have hk:=hk _ rfl;rw[rloop_bad _ _ _ _ _ _ ho] at hk;simp only at hk;simp only[go_sem,e4,e6,e9,hb4,hb6,hb9];refine restF_den (ln:=ln) (cl:=cl) (q:=q) (d:=d) hT [77,97,112] (60-k) (by omega) (by simp only[gA1,gA2,gA3,gA6,ne_eq,gA9,reduceIte,e4,e6,e9,hb4,hb6,hb9]<;>(first|done|rfl|assumption)) ?_;generalize restF (finL ln cl) [77,97,112] (60-k) q=u at hk ⊢;simp only[go_sem,e4,e6,e9,hb4,hb6,hb9];refine sure89_den (ln:=ln) (cl:=cl) (q:=u.2) (d:=d) hT _ (by simp only[gA1,gA2,gA3,gA6,ne_eq,gA9,reduceIte,e4,e6,e9,hb4,hb6,hb9]<;>(first|done|rfl|assumption)) ?_;simp only[go_sem,e4,e6,e9,hb4,hb6,hb9];refine ⟨gv_one _ _,?_⟩;simp only[go_sem] at hk;refine DK.mk hk (by (refine gel_ge ?_;repeat (first|exact gel_refl _ _ _|refine gel_gs_gs ?_|refine gel_to_gs gs_self ?_|refine gB1 ?_|refine gB2 ?_|refine gel_gs ?_ hfree|refine gel_newT hfree ?_|refine gel_set (by simp only[gA1,gA2,gA3,gA6,ne_eq,gA9,reduceIte,e4,e6,e9,hb4,hb6,hb9]<;>(first|done|rfl|assumption)) ?_|refine gB3 ?_|refine gel_new (by first|simp only[hb4,hb6,hb9]|assumption) ?_))) ?_;exact A.le.agg ⟨⟨A.le.refl _,rfl⟩,⟨A.le.refl _,rfl⟩,⟨A.le.refl _,rfl⟩,⟨A.le.refl _,rfl⟩,⟨gv_le tk _ (fun e=>by rw[hnil e];rfl),rfl⟩,⟨A.le.refl _,rfl⟩,trivial⟩
    | true =>
     obtain ⟨hl2,hf⟩:=hm rfl;obtain ⟨f,rfl⟩:∃ f',f=f'+1:=⟨f-1,by omega⟩
     simp only[go_sem,e4,e6,e9,hb4,hb6,hb9];(refine draw_ok (V:=[0,1,2,4,6,7,8,9,10,12,13,50,79,98,109,115,130,162]) (OT.l [0,1,2,3,4,5,6,7,8,9] .nil) [(5,[1])] mixed_cx (by decide +kernel) ?_;simp only[go_sem,e4,e6,e9,hb4,hb6,hb9,ed]);refine IH _ q d _ _ (by simp only[gA1,gA2,gA3,gA6,ne_eq,gA9,reduceIte,e4,e6,e9,hb4,hb6,hb9]<;>(first|done|rfl|assumption)) ?_;have hmono:=termF_mono (fin:=finL ln cl) k q;have hk:=hk _ rfl;rw[rloop_go _ _ _ _ _ ho] at hk;simp only at hk;generalize termF (finL ln cl) k q=p at hk hmono ⊢;have hple:=p.2.le;simp only[go_sem,e4,e6,e9,hb4,hb6,hb9,Tm.enc_eq];refine ⟨by decide,fun y hy=>by simp only[List.mem_singleton] at hy;subst hy;rfl,appL_gv rfl rfl (by rw[gC4];exact gs_ok fun e=>by rw[hnil e];rfl) (fun y hy=>?_) (by simp only[gC4,gC1,gC3];omega) (fun u hu=>?_)⟩
     ·simp only[List.mem_map] at hy;obtain ⟨z,_,rfl⟩:=hy;exact Tm.hz z
     have hfu:=gs_free hu hfree;rw[gs_set hu];simp only[go_sem,e4,e6,e9,hb4,hb6,hb9];refine sure89_den (ln:=ln) (cl:=cl) (q:=p.2) (d:=d) hT _ (by simp only[gA1,gA2,gA3,gA6,ne_eq,gA9,reduceIte,e4,e6,e9,hb4,hb6,hb9]<;>(first|done|rfl|assumption)) ?_;have hmono2:=needF_mono (fin:=finL ln cl) 4 [45,62] p.2;generalize needF (finL ln cl) 4 [45,62] p.2=q5 at hk hmono2 ⊢;have hq5:=q5.le;simp only[go_sem,e4,e6,e9,hb4,hb6,hb9];(refine draw_ok (V:=[0,1,2,4,6,7,8,9,10,12,13,50,79,98,109,115,130,162]) (OT.l [0,1,2,3,4,5,6,7,8,9] .nil) [(5,[1])] mixed_cx (by decide +kernel) ?_;simp only[go_sem,e4,e6,e9,hb4,hb6,hb9,ed]);refine IH _ q5 d _ _ (by simp only[gA1,gA2,gA3,gA6,ne_eq,gA9,reduceIte,e4,e6,e9,hb4,hb6,hb9]<;>(first|done|rfl|assumption)) ?_;have hmono3:=termF_mono (fin:=finL ln cl) k q5;generalize termF (finL ln cl) k q5=p5 at hk hmono3 ⊢;have hp5:=p5.2.le;simp only[go_sem,e4,e6,e9,hb4,hb6,hb9,Tm.enc_eq];refine ⟨by decide,fun y hy=>by simp only[List.mem_singleton] at hy;subst hy;rfl,by simp only[gC2,gC4,gC1,gC3],fun y hy=>?_,by simp only[gC2,gC4,gC1,gC3];omega,?_⟩
     ·rcases List.mem_append.1 hy with hy|hy
      ·simp only[List.mem_map] at hy;obtain ⟨z,_,rfl⟩:=hy;exact Tm.hz z
      ·simp only[List.mem_singleton] at hy;subst hy;rfl
     refine comma159_den (ln:=ln) (cl:=cl) (q:=p5.2) (d:=d) hT (by simp only[gA1,gA2,gA3,gA6,ne_eq,gA9,reduceIte,e4,e6,e9,hb4,hb6,hb9]<;>(first|done|rfl|assumption)) ?_;have hc:=commaF_mono [44] p5.2;have hc2:=commaF_lt (x:=[44]) (q:=p5.2);generalize commaF [44] p5.2=c at hk hc hc2 ⊢;have hcle:=c.2.le;simp only[go_sem,e4,e6,e9,hb4,hb6,hb9];refine ⟨((l++[p.1]++[p5.1],some u),c.1,c.2,f),⟨fun e=>(by cases e),fun t e=>by cases e;exact hfu,by simp only[gC2,gC1,gC3];omega,fun e=>⟨by have:=hc2 e;simp only[gC2,gC1,gC3];omega,by have:=hc2 e;simp only;omega⟩,fun p' e=>by subst e;(first|exact hk|(simp only[go_sem] at hk;exact hk)|(simp only[go_sem] at hk;simp only[go_sem];exact hk))⟩,?_,rfl,?_⟩
     ·simp only;split
      ·rename_i e;have:=hc2 e;omega
      ·omega
     ·simp only[gv_some,List.map_append,List.map_cons,List.map_nil,gC2,gC1,gC3,gC4,Tm.enc_eq,Tm.cs];exact (by (refine gel_ge ?_;repeat (first|exact gel_refl _ _ _|refine gel_gs_gs ?_|refine gel_to_gs gs_self ?_|refine gB1 ?_|refine gB2 ?_|refine gel_gs ?_ hfree|refine gel_newT hfree ?_|refine gel_set (by simp only[gA1,gA2,gA3,gA6,ne_eq,gA9,reduceIte,e4,e6,e9,hb4,hb6,hb9]<;>(first|done|rfl|assumption)) ?_|refine gB3 ?_|refine gel_new (by first|simp only[hb4,hb6,hb9]|assumption) ?_)))
end
end Go.AV
end
