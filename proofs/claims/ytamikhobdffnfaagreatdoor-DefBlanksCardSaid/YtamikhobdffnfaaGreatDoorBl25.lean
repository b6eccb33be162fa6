/-
  Part of the proof of DefBlanks.
-/
import Derived.Test.YtamikhobdffnfaaGreatDoorBl24
import Derived.Test.YtamikhobdffnfaaGreatDoorBl23
set_option linter.all false
set_option maxRecDepth 1000000
set_option maxHeartbeats 40000000
section
namespace Go.AV
open Go Go.Proofs
section
variable {T:List Tok} {fin:Fault} {d:Dc} {first:Tok} {i n:Nat} {s:St} {r:Nat} {KV Kp:St→A→Prop}
theorem Rd.to_all {α:Type} {r:Rd α} {p:α→List Tok→Nat→Prop} {b:Fault→Prop} (h:∀ a w n,p a w n) (hb:∀ f,b f):r.to p b:=by
 cases r with
 | ok a w n=>exact h a w n
 | bad f=>exact hb f
theorem Rd.to_and {α:Type} {r:Rd α} {p q:α→List Tok→Nat→Prop} {b:Fault→Prop} (h:r.to p b) (hq:r.to q (fun _=>True)):r.to (fun a w n=>q a w n∧p a w n) b:=by
 cases r with
 | ok a w n=>exact ⟨hq,h⟩
 | bad f=>exact h
theorem attrsR_keep (fin:Fault):∀ (k:Nat) (o:Opr) (w:List Tok) (n:Nat),(attrsR fin k o w n).to (fun o' _ _=>o'.name=o.name∧o'.args=o.args∧o'.sort=o.sort∧o'.pieces=o.pieces) (fun _=>True)
 | 0,o,w,n=>trivial
 | k+1,o,w,n=>by
  have ih:=fun (o':Opr) w n=>attrsR_keep fin k o' w n
  rw[attrsR.eq_def];simp only;split
  ·exact ⟨rfl,rfl,rfl,rfl⟩
  ·cases w with
   | nil=>trivial
   | cons t w =>
    simp only[Rd.ite_to,Rd.bind_to,Rd.bad_to]
    repeat' split
    all_goals first|trivial|exact ih _ _ _|exact Rd.to_all (fun a w n=>ih { o with prec:=a } w n) (fun _=>trivial)|exact Rd.to_all (fun _ w n=>Rd.to_all (fun l w n=>Rd.to_all (fun _ w n=>ih { o with strict:=l } w n) (fun _=>trivial)) (fun _=>trivial)) (fun _=>trivial)
def opS (T:List Tok) (fin:Fault) (d:Dc) (first:Tok) (b r:Nat) (x:Str) (s:St) (ta tp:Option Nat) (ar:List Str) (ps:List Piece) (i n:Nat):St :=
 gs (gs ((s.setO b (.cells 73 [.str x,gv ta (ar.map .str),.str [],gv tp (ps.map Piece.enc),.int .i64 0,.int .i64 0,.nils])).setO r (psO T fin d first i n)) ta ar.length 9) tp ps.length 143
theorem op_den (hT:TOk T) (hr:s.getO r=some (psO T fin d first i n)) (hi:i≤T.length) (hn:n≤2000)
  (hk:(opR fin (T.drop i) n).to (PK T i (fun j m=>s.setO r (psO T fin d first j m)) Opr.enc KV) (PB s r Kp)):Den cx 151 [.ptr r 0] KV Kp s:=by
 have hlenT:=hT.len;simp only[opR,Rd.bind_to] at hk;refine Den.drop ?_;(refine Den.of_body (C:=cx) Tryz.func151 rfl rfl (gC6 rfl) ?_;refine wpC_ok (V:=[0,2,3,4,5,14,29,39,76]) _ _ _ _ ?_;simp only[go_sem,Tryz.ntmps151,Tryz.f151]);(intro b2 hb2;try simp only[gD6,gA6,ne_eq] at hb2);have e2:=St.ne_of hr (by first|exact hb2|exact hb2.2|exact hb2.2.2|exact hb2.2.2.2|exact hb2.2.2.2.2|exact hb2.2.2.2.2.2|exact hb2.2.2.2.2.2.2);simp only[go_sem,hb2,e2];(refine name_den (T:=T) (fin:=fin) (d:=d) (first:=first) (i:=i) (n:=n) (by simp only[gA1,gA2,gA3,gA6,ne_eq,gA9,reduceIte,hb2,e2]<;>(first|done|rfl|assumption)) hi hT (Rd.to_mono hk (fun x1 w1 m1 hk1 hlt1 hw1 hm1=>?_) (fun f h=>PB.mk (by (repeat (first|exact gA8 _ _|refine St.gx_r ?_|refine gA7 (by first|simp only[hb2]|assumption) ?_|refine St.gx_T (by first|simp only[hb2]|assumption) ?_))) h));subst m1;rw[← hw1] at hk1);simp only[go_sem,hb2,e2];(intro b3 hb3;try simp only[gD6,gA6,ne_eq] at hb3);have e3:=St.ne_of hr (by first|exact hb3|exact hb3.2|exact hb3.2.2|exact hb3.2.2.2|exact hb3.2.2.2.2|exact hb3.2.2.2.2.2|exact hb3.2.2.2.2.2.2);simp only[go_sem,hb2,e2,hb3,e3];(refine want_den (T:=T) (fin:=fin) (d:=d) (first:=first) (i:=i+1) (n:=n) _ (by simp only[gA1,gA2,gA3,gA6,ne_eq,gA9,reduceIte,hb2,e2,hb3,e3]<;>(first|done|rfl|assumption)) hlt1 hT (Rd.to_mono hk1 (fun _ w2 m2 hk2 hlt2 hw2 hm2=>?_) (fun f h=>PB.mk (by (repeat (first|exact gA8 _ _|refine St.gx_r ?_|refine gA7 (by first|simp only[hb2,hb3]|assumption) ?_|refine St.gx_T (by first|simp only[hb2,hb3]|assumption) ?_))) h));subst m2;rw[← hw2] at hk2);simp only[go_sem,hb2,e2,hb3,e3];rw[show (T.drop (i+1+1)).length=T.length-(i+1+1) by rw[gD4]] at hk2
 refine Ex.loop (ι:=(Option Nat × Option Nat) × (List Str × List Piece × Bool) × Nat) (fun c=>[(0,.ptr r 0),(2,.ptr b2 0),(3,.ptr b3 0),(4,.bool c.2.1.2.2)])
  (fun c=>opS T fin d first b3 r x1 (s.setO b2 (.cells 73 [.str [],.nils,.str [],.nils,.int .i64 0,.int .i64 0,.nils])) c.1.1 c.1.2 c.2.1.1 c.2.1.2.1 c.2.2 n)
  (fun c => (c.1.1 = none → c.2.1.1 = []) ∧ (c.1.2 = none → c.2.1.2.1 = []) ∧ (∀ t,c.1.1 = some t → s.getT t = none) ∧ (∀ t,c.1.2 = some t → s.getT t = none ∧ c.1.1 ≠ some t) ∧ i + 1 + 1 ≤ c.2.2 ∧ c.2.2 ≤ T.length ∧ c.2.1.1.length ≤ c.2.2 ∧ c.2.1.2.1.length ≤ c.2.2 ∧ ∃ k,T.length - c.2.2 < k ∧
   (piecesR fin k c.2.1.2.1 c.2.1.1 c.2.1.2.2 (T.drop c.2.2) n).to (fun p w n=>(nameR fin w n).to (fun y w n=>(attrsR fin (w.length+1) ⟨x1,p.2.1,y,if p.2.2=true then p.1 else [],0,0,[]⟩ w n).to (PK T i (fun j m=>s.setO r (psO T fin d first j m)) Opr.enc KV) (PB s r Kp)) (PB s r Kp)) (PB s r Kp))
  (fun c=>T.length-c.2.2) ((none,none),([],[],false),i+1+1) ?_ ?_ ?_ ?_
 ·exact ⟨fun _=>rfl,fun _=>rfl,fun t e=>(by cases e),fun t e=>(by cases e),Nat.le_refl _,hlt2,Nat.zero_le _,Nat.zero_le _,_,Nat.lt_succ_self _,hk2⟩
 ·simp only[go_sem,hb2,e2,hb3,e3]
 ·exact (by (refine gel_ge ?_;repeat (first|exact gel_refl _ _ _|refine gel_gs_gs ?_|refine gel_to_gs gs_self ?_|refine gB1 ?_|refine gB2 ?_|refine gel_set (by simp only[gA1,gA2,gA3,gA6,ne_eq,gA9,reduceIte,hb2,e2,hb3,e3]<;>(first|done|rfl|assumption)) ?_|refine gB3 ?_|refine gel_new (by first|simp only[hb2,hb3]|assumption) ?_)))
 ·rintro ⟨⟨ta,tp⟩,⟨ar,ps,tx⟩,i2⟩ ⟨hnila,hnilp,hfa,hfp,hi1,hi2,has,hps,k,hk3,hk4⟩;simp only at hnila hnilp hfa hfp hi1 hi2 has hps hk3 hk4;obtain ⟨k,rfl⟩:∃ k',k=k'+1:=⟨k-1,by omega⟩
  have hfp1:∀ t,tp=some t→s.getT t=none:=fun t e=>(hfp t e).1
  have hgp:gok (opS T fin d first b3 r x1 (s.setO b2 (.cells 73 [.str [],.nils,.str [],.nils,.int .i64 0,.int .i64 0,.nils])) ta tp ar ps i2 n) tp (ps.map Piece.enc).length 143:=by rw[gC4];exact gs_ok fun e=>by rw[hnilp e];rfl
  have hga:gok (opS T fin d first b3 r x1 (s.setO b2 (.cells 73 [.str [],.nils,.str [],.nils,.int .i64 0,.int .i64 0,.nils])) ta tp ar ps i2 n) ta (ar.map A.str).length 9:=by
   rw[gC4];cases ta with
   | none=>rw[hnila rfl];rfl
   | some t =>
    show (gs _ _ _ _).getT t=_;rw[gs_getT,if_neg (fun e=>(hfp t e).2 rfl),gs_getT,if_pos rfl]
  refine wpC_ok (V:=[0,2,3,4,5,14,29,39,76]) _ _ _ _ ?_;unfold opS;simp only[go_sem,hb2,e2,hb3,e3];refine take_den (T:=T) (fin:=fin) (d:=d) (first:=first) (i:=i2) (n:=n) _ (by simp only[gA1,gA2,gA3,gA6,ne_eq,gA9,reduceIte,hb2,e2,hb3,e3]<;>(first|done|rfl|assumption)) hi2 hT ?_;rw[piecesR.eq_def] at hk4;simp only at hk4;cases hx:isT [45,62] (T.drop i2) with
  | true =>
   rw[if_pos hx,Rd.ok_to,List.tail_drop] at hk4;have hlt:=isT_lt hx
   have hle:∀ (o:Opr),o.name=x1→o.args=ar→o.pieces=(if tx=true then ps else [])→A.le (.agg (opC o (gv ta (ar.map A.str)) (if tx=true then gv tp (ps.map Piece.enc) else .nils))) o.enc:=fun o e1 e2 e3=>by
    subst e1 e2;refine A.le.agg ⟨⟨A.le.refl _,rfl⟩,⟨gv_le _ _ (fun e=>by rw[hnila e];rfl),rfl⟩,⟨A.le.refl _,rfl⟩,⟨?_,rfl⟩,⟨A.le.refl _,rfl⟩,⟨A.le.refl _,rfl⟩,⟨nv_le _,rfl⟩,trivial⟩;rw[e3];cases tx
    ·exact A.le.nil
    ·exact gv_le _ _ (fun e=>by rw[hnilp e];rfl)
   simp only[go_sem,hb2,e2,hb3,e3];cases tx
   ·simp only[go_sem,hb2,e2,hb3,e3];(refine name_den (T:=T) (fin:=fin) (d:=d) (first:=first) (i:=i2+1) (n:=n) (by simp only[gA1,gA2,gA3,gA6,ne_eq,gA9,reduceIte,hb2,e2,hb3,e3]<;>(first|done|rfl|assumption)) hlt hT (Rd.to_mono hk4 (fun x5 w5 m5 hk5 hlt5 hw5 hm5=>?_) (fun f h=>PB.mk (by (repeat (first|refine St.gx_gs ?_ hfa|refine St.gx_gs ?_ hfp1|refine St.gx_T hfa ?_|refine St.gx_T hfp1 ?_|exact gA8 _ _|refine St.gx_r ?_|refine gA7 (by first|simp only[hb2,hb3]|assumption) ?_|refine St.gx_T (by first|simp only[hb2,hb3]|assumption) ?_))) h));subst m5;rw[← hw5] at hk5);simp only[go_sem,hb2,e2,hb3,e3];refine attrs_den hT b3 (gv ta (ar.map A.str)) .nils (gv_one _ _) rfl ⟨x1,ar,x5,[],0,0,[]⟩ ((List.drop (i2+1+1) T).length+1) (T:=T) (fin:=fin) (d:=d) (first:=first) (i:=i2+1+1) (n:=n) (by simp only[gA1,gA2,gA3,gA6,ne_eq,gA9,reduceIte,hb2,e2,hb3,e3]<;>(first|done|rfl|assumption)) (by simp only[gA1,gA2,gA3,gA6,ne_eq,gA9,reduceIte,hb2,e2,hb3,e3]<;>(first|done|rfl|assumption)) hb3.1.2 hlt5 hn (by rw[gD4];omega) (Rd.to_mono (Rd.to_and hk5 (attrsR_keep _ _ _ _ _)) (fun o' w m h j hj hjT hw hm=>?_) (fun f h s1 x hg hr1=>?_))
    ·obtain ⟨⟨q1,q2,q3,q4⟩,h⟩:=h;have hk:=h j (by omega) hjT hw hm;simp only[go_sem,hb2,e2,hb3,e3];refine ⟨by cases ta<;>cases o'.strict<;>rfl,?_⟩;refine DK.mk hk (by (refine gel_ge ?_;repeat (first|exact gel_refl _ _ _|refine gel_gs_gs ?_|refine gel_to_gs gs_self ?_|refine gB1 ?_|refine gB2 ?_|refine gel_gs ?_ hfa|refine gel_gs ?_ hfp1|refine gel_newT hfa ?_|refine gel_newT hfp1 ?_|refine gel_set (by simp only[gA1,gA2,gA3,gA6,ne_eq,gA9,reduceIte,hb2,e2,hb3,e3]<;>(first|done|rfl|assumption)) ?_|refine gB3 ?_|refine gel_new (by first|simp only[hb2,hb3]|assumption) ?_))) ?_;have:=hle o' q1 q2 q4;simp only[go_sem] at this;exact this
    ·exact DK.st (h x) (gel_ge (gel_set hr1 (gel_free hb3.2.2 (hg.trans (by (repeat (first|exact gel_refl _ _ _|refine gel_gs_gs ?_|refine gel_to_gs gs_self ?_|refine gB1 ?_|refine gB2 ?_|refine gel_gs ?_ hfa|refine gel_gs ?_ hfp1|refine gel_newT hfa ?_|refine gel_newT hfp1 ?_|refine gel_set (by simp only[gA1,gA2,gA3,gA6,ne_eq,gA9,reduceIte,hb2,e2,hb3,e3]<;>(first|done|rfl|assumption)) ?_|refine gB3 ?_|refine gel_new (by first|simp only[hb2,hb3]|assumption) ?_)))))))
   ·simp only[go_sem,hb2,e2,hb3,e3];(refine name_den (T:=T) (fin:=fin) (d:=d) (first:=first) (i:=i2+1) (n:=n) (by simp only[gA1,gA2,gA3,gA6,ne_eq,gA9,reduceIte,hb2,e2,hb3,e3]<;>(first|done|rfl|assumption)) hlt hT (Rd.to_mono hk4 (fun x5 w5 m5 hk5 hlt5 hw5 hm5=>?_) (fun f h=>PB.mk (by (repeat (first|refine St.gx_gs ?_ hfa|refine St.gx_gs ?_ hfp1|refine St.gx_T hfa ?_|refine St.gx_T hfp1 ?_|exact gA8 _ _|refine St.gx_r ?_|refine gA7 (by first|simp only[hb2,hb3]|assumption) ?_|refine St.gx_T (by first|simp only[hb2,hb3]|assumption) ?_))) h));subst m5;rw[← hw5] at hk5);simp only[go_sem,hb2,e2,hb3,e3];refine attrs_den hT b3 (gv ta (ar.map A.str)) (gv tp (ps.map Piece.enc)) (gv_one _ _) (gv_one _ _) ⟨x1,ar,x5,ps,0,0,[]⟩ ((List.drop (i2+1+1) T).length+1) (T:=T) (fin:=fin) (d:=d) (first:=first) (i:=i2+1+1) (n:=n) (by simp only[gA1,gA2,gA3,gA6,ne_eq,gA9,reduceIte,hb2,e2,hb3,e3]<;>(first|done|rfl|assumption)) (by simp only[gA1,gA2,gA3,gA6,ne_eq,gA9,reduceIte,hb2,e2,hb3,e3]<;>(first|done|rfl|assumption)) hb3.1.2 hlt5 hn (by rw[gD4];omega) (Rd.to_mono (Rd.to_and hk5 (attrsR_keep _ _ _ _ _)) (fun o' w m h j hj hjT hw hm=>?_) (fun f h s1 x hg hr1=>?_))
    ·obtain ⟨⟨q1,q2,q3,q4⟩,h⟩:=h;have hk:=h j (by omega) hjT hw hm;simp only[go_sem,hb2,e2,hb3,e3];refine ⟨by cases ta<;>cases tp<;>cases o'.strict<;>rfl,?_⟩;refine DK.mk hk (by (refine gel_ge ?_;repeat (first|exact gel_refl _ _ _|refine gel_gs_gs ?_|refine gel_to_gs gs_self ?_|refine gB1 ?_|refine gB2 ?_|refine gel_gs ?_ hfa|refine gel_gs ?_ hfp1|refine gel_newT hfa ?_|refine gel_newT hfp1 ?_|refine gel_set (by simp only[gA1,gA2,gA3,gA6,ne_eq,gA9,reduceIte,hb2,e2,hb3,e3]<;>(first|done|rfl|assumption)) ?_|refine gB3 ?_|refine gel_new (by first|simp only[hb2,hb3]|assumption) ?_))) ?_;have:=hle o' q1 q2 q4;simp only[go_sem] at this;exact this
    ·exact DK.st (h x) (gel_ge (gel_set hr1 (gel_free hb3.2.2 (hg.trans (by (repeat (first|exact gel_refl _ _ _|refine gel_gs_gs ?_|refine gel_to_gs gs_self ?_|refine gB1 ?_|refine gB2 ?_|refine gel_gs ?_ hfa|refine gel_gs ?_ hfp1|refine gel_newT hfa ?_|refine gel_newT hfp1 ?_|refine gel_set (by simp only[gA1,gA2,gA3,gA6,ne_eq,gA9,reduceIte,hb2,e2,hb3,e3]<;>(first|done|rfl|assumption)) ?_|refine gB3 ?_|refine gel_new (by first|simp only[hb2,hb3]|assumption) ?_)))))))
  | false =>
   rw[if_neg (by rw[hx];simp)] at hk4;simp only[go_sem,hb2,e2,hb3,e3];refine peek_den (T:=T) (fin:=fin) (d:=d) (first:=first) (i:=i2) (n:=n) (by simp only[gA1,gA2,gA3,gA6,ne_eq,gA9,reduceIte,hb2,e2,hb3,e3]<;>(first|done|rfl|assumption)) hi2 ?_;cases hw:T.drop i2 with
   | nil=>rw[hw] at hk4;exact hk4.at (by (repeat (first|refine St.gx_gs ?_ hfa|refine St.gx_gs ?_ hfp1|refine St.gx_T hfa ?_|refine St.gx_T hfp1 ?_|exact gA8 _ _|refine St.gx_r ?_|refine gA7 (by first|simp only[hb2,hb3]|assumption) ?_|refine St.gx_T (by first|simp only[hb2,hb3]|assumption) ?_))) (by simp only[gA1,gA2,gA3,gA6,ne_eq,gA9,reduceIte,hb2,e2,hb3,e3]<;>(first|done|rfl|assumption))
   | cons t w =>
    obtain ⟨g1,g2,g3,g4⟩:=drop_get hw;rw[hw] at hk4;simp only at hk4;simp only[go_sem,hb2,e2,hb3,e3];(intro b4 hb4;try simp only[gD6,gA6,ne_eq] at hb4);have e4:=St.ne_of hr (by first|exact hb4|exact hb4.2|exact hb4.2.2|exact hb4.2.2.2|exact hb4.2.2.2.2|exact hb4.2.2.2.2.2|exact hb4.2.2.2.2.2.2);simp only[go_sem,hb2,e2,hb3,e3,hb4,e4];cases c3:decide (t.kind=3);rotate_left
    ·
     have k3:t.kind=3:=by simpa using c3
     rw[if_pos (.inl k3),if_pos k3] at hk4;simp only[go_sem,hb2,e2,hb3,e3,hb4,e4,c3,lenS_gv hgp];refine room_den (T:=T) (fin:=fin) (d:=d) (first:=first) (i:=i2) (n:=n) _ _ (by simp only[gA1,gA2,gA3,gA6,ne_eq,gA9,reduceIte,hb2,e2,hb3,e3,hb4,e4]<;>(first|done|rfl|assumption)) hi2 ?_;by_cases h20:20≤ps.length
     ·rw[if_pos h20,Rd.bad_to] at hk4;rw[if_pos (by omega),hw];exact PB.mk (by (repeat (first|refine St.gx_gs ?_ hfa|refine St.gx_gs ?_ hfp1|refine St.gx_T hfa ?_|refine St.gx_T hfp1 ?_|exact gA8 _ _|refine St.gx_r ?_|refine gA7 (by first|simp only[hb2,hb3,hb4]|assumption) ?_|refine St.gx_T (by first|simp only[hb2,hb3,hb4]|assumption) ?_))) hk4
     rw[if_neg h20,← g3] at hk4;rw[if_neg (by omega)];simp only[go_sem,hb2,e2,hb3,e3,hb4,e4,c3];refine ⟨by decide,fun y hy=>by simp only[List.mem_singleton] at hy;subst hy;rfl,appL_gv rfl rfl (by rw[gC4];exact gs_ok fun e=>by rw[hnilp e];rfl) (fun y hy=>?_) (by simp only[gC4,gC1,gC3];omega) (fun u hu=>?_)⟩
     ·simp only[List.mem_map] at hy;obtain ⟨q,_,rfl⟩:=hy;rfl
     have hfu:s.getT u=none∧ta≠some u:=by
      rcases hu with e|⟨e,hu⟩
      ·exact hfp u e
      ·rw[e] at hu;have hu:(gs (gs _ ta _ _) none _ _).getT u=none:=hu;rw[gs_getT,if_neg (by simp),gs_getT] at hu;split at hu
       ·cases hu
       ·rename_i e2;exact ⟨hu,e2⟩
     have hnu:=hfu.2;rw[gs_set hu];simp only[go_sem,hb2,e2,hb3,e3,hb4,e4,wrap1 i2 (by omega)];refine ⟨((ta,some u),(ar,ps++[⟨t.text,[]⟩],true),i2+1),⟨hnila,fun e=>(by cases e),hfa,fun t' e=>by cases e;exact hfu,by simp only;omega,by simp only;omega,by simp only;omega,by simp only[gC2,gC1,gC3];omega,k,by simp only;omega,hk4⟩,by simp only;omega,?_⟩;simp only[opS,gv_some,List.map_append,List.map_cons,List.map_nil,gC2,gC1,gC3,gC4];exact ⟨trivial,(by (refine gel_ge ?_;repeat (first|exact gel_refl _ _ _|refine gel_gs_gs ?_|refine gel_to_gs gs_self ?_|refine gB1 ?_|refine gB2 ?_|refine gel_gs ?_ hfa|refine gel_gs ?_ hfp1|refine gel_newT hfa ?_|refine gel_newT hfp1 ?_|refine gel_set (by simp only[gA1,gA2,gA3,gA6,ne_eq,gA9,reduceIte,hb2,e2,hb3,e3,hb4,e4]<;>(first|done|rfl|assumption)) ?_|refine gB3 ?_|refine gel_new (by first|simp only[hb2,hb3,hb4]|assumption) ?_)))⟩
    have k3:¬ t.kind=3:=by simpa using c3
    cases c1:decide (t.kind=1)
    ·rw[if_neg (by simp[k3,Tok.free,c1]),Rd.bad_to] at hk4;simp only[go_sem,hb2,e2,hb3,e3,hb4,e4,c3,c1];refine fail_den (T:=T) (fin:=fin) (d:=d) (first:=first) (i:=i2) (n:=n) 11 (by simp only[gA1,gA2,gA3,gA6,ne_eq,gA9,reduceIte,hb2,e2,hb3,e3,hb4,e4]<;>(first|done|rfl|assumption)) hi2 hT ?_;rw[hw];exact PB.at hk4 (by (repeat (first|refine St.gx_gs ?_ hfa|refine St.gx_gs ?_ hfp1|refine St.gx_T hfa ?_|refine St.gx_T hfp1 ?_|exact gA8 _ _|refine St.gx_r ?_|refine gA7 (by first|simp only[hb2,hb3,hb4]|assumption) ?_|refine St.gx_T (by first|simp only[hb2,hb3,hb4]|assumption) ?_))) (by simp only[gA1,gA2,gA3,gA6,ne_eq,gA9,reduceIte,hb2,e2,hb3,e3,hb4,e4]<;>(first|done|rfl|assumption))
    simp only[go_sem,hb2,e2,hb3,e3,hb4,e4,c3,c1];refine isReserved145_den _ _ _ _ ?_;simp only[go_sem,hb2,e2,hb3,e3,hb4,e4];cases c2:decide (t.text∈reservedW);rotate_left
    ·rw[if_neg (by simp[k3,Tok.free,c2]),Rd.bad_to] at hk4;simp only[go_sem,hb2,e2,hb3,e3,hb4,e4,c2];refine fail_den (T:=T) (fin:=fin) (d:=d) (first:=first) (i:=i2) (n:=n) 11 (by simp only[gA1,gA2,gA3,gA6,ne_eq,gA9,reduceIte,hb2,e2,hb3,e3,hb4,e4]<;>(first|done|rfl|assumption)) hi2 hT ?_;rw[hw];exact PB.at hk4 (by (repeat (first|refine St.gx_gs ?_ hfa|refine St.gx_gs ?_ hfp1|refine St.gx_T hfa ?_|refine St.gx_T hfp1 ?_|exact gA8 _ _|refine St.gx_r ?_|refine gA7 (by first|simp only[hb2,hb3,hb4]|assumption) ?_|refine St.gx_T (by first|simp only[hb2,hb3,hb4]|assumption) ?_))) (by simp only[gA1,gA2,gA3,gA6,ne_eq,gA9,reduceIte,hb2,e2,hb3,e3,hb4,e4]<;>(first|done|rfl|assumption))
    rw[if_pos (.inr (by simp[Tok.free,c1,c2])),if_neg k3] at hk4;simp only[go_sem,hb2,e2,hb3,e3,hb4,e4,c2,lenS_gv hgp];refine room_den (T:=T) (fin:=fin) (d:=d) (first:=first) (i:=i2) (n:=n) _ _ (by simp only[gA1,gA2,gA3,gA6,ne_eq,gA9,reduceIte,hb2,e2,hb3,e3,hb4,e4]<;>(first|done|rfl|assumption)) hi2 ?_;by_cases h20:20≤ps.length
    ·rw[if_pos h20,Rd.bad_to] at hk4;rw[if_pos (by omega),hw];exact PB.mk (by (repeat (first|refine St.gx_gs ?_ hfa|refine St.gx_gs ?_ hfp1|refine St.gx_T hfa ?_|refine St.gx_T hfp1 ?_|exact gA8 _ _|refine St.gx_r ?_|refine gA7 (by first|simp only[hb2,hb3,hb4]|assumption) ?_|refine St.gx_T (by first|simp only[hb2,hb3,hb4]|assumption) ?_))) hk4
    rw[if_neg h20] at hk4;rw[if_neg (by omega)];simp only[go_sem,hb2,e2,hb3,e3,hb4,e4,c3,lenS_gv hga];refine room_den (T:=T) (fin:=fin) (d:=d) (first:=first) (i:=i2) (n:=n) _ _ (by simp only[gA1,gA2,gA3,gA6,ne_eq,gA9,reduceIte,hb2,e2,hb3,e3,hb4,e4]<;>(first|done|rfl|assumption)) hi2 ?_;by_cases h8:8≤ar.length
    ·rw[if_pos h8,Rd.bad_to] at hk4;rw[if_pos (by omega),hw];exact PB.mk (by (repeat (first|refine St.gx_gs ?_ hfa|refine St.gx_gs ?_ hfp1|refine St.gx_T hfa ?_|refine St.gx_T hfp1 ?_|exact gA8 _ _|refine St.gx_r ?_|refine gA7 (by first|simp only[hb2,hb3,hb4]|assumption) ?_|refine St.gx_T (by first|simp only[hb2,hb3,hb4]|assumption) ?_))) hk4
    rw[if_neg h8,← g3] at hk4;rw[if_neg (by omega)];simp only[go_sem,hb2,e2,hb3,e3,hb4,e4,c3];refine ⟨by decide,fun y hy=>by simp only[List.mem_singleton] at hy;subst hy;rfl,appL_gv rfl rfl (by rw[gC4];exact gs_ok fun e=>by rw[hnilp e];rfl) (fun y hy=>?_) (by simp only[gC4,gC1,gC3];omega) (fun u hu=>?_)⟩
    ·simp only[List.mem_map] at hy;obtain ⟨q,_,rfl⟩:=hy;rfl
    have hfu:s.getT u=none∧ta≠some u:=by
     rcases hu with e|⟨e,hu⟩
     ·exact hfp u e
     ·rw[e] at hu;have hu:(gs (gs _ ta _ _) none _ _).getT u=none:=hu;rw[gs_getT,if_neg (by simp),gs_getT] at hu;split at hu
      ·cases hu
      ·rename_i e2;exact ⟨hu,e2⟩
    have hnu:=hfu.2;rw[gs_set hu];simp only[go_sem,hb2,e2,hb3,e3,hb4,e4];refine ⟨by decide,fun y hy=>by simp only[List.mem_singleton] at hy;subst hy;rfl,appL_gv rfl rfl ?_ (fun y hy=>?_) (by simp only[gC4,gC1,gC3];omega) (fun v hv=>?_)⟩
    ·rw[gC4];cases ta with
     | none=>rw[hnila rfl];rfl
     | some t =>
      show St.getT _ t=_;rw[gA4,if_neg (fun e=>hnu (by rw[e])),gs_getT,if_pos rfl]
    ·simp only[List.mem_map] at hy;obtain ⟨q,_,rfl⟩:=hy;rfl
    have hfv:s.getT v=none∧¬ v=u:=by
     rcases hv with e|⟨e,hv⟩
     ·exact ⟨hfa v e,fun e2=>hnu (by rw[e,e2])⟩
     ·subst e;rw[gA4] at hv;split at hv
      ·cases hv
      ·rename_i e2;exact ⟨hv,fun e3=>e2 e3.symm⟩
    simp only[go_sem,hb2,e2,hb3,e3,hb4,e4,wrap1 i2 (by omega)];refine ⟨((some v,some u),(ar++[t.text],ps++[⟨[],t.text⟩],tx),i2+1),⟨fun e=>(by cases e),fun e=>(by cases e),fun t' e=>by cases e;exact hfv.1,fun t' e=>by cases e;exact ⟨hfu.1,fun e=>hfv.2 (by cases e;rfl)⟩,by simp only;omega,by simp only;omega,by simp only[gC2,gC1,gC3];omega,by simp only[gC2,gC1,gC3];omega,k,by simp only;omega,hk4⟩,by simp only;omega,?_⟩;simp only[opS,gv_some,List.map_append,List.map_cons,List.map_nil,gC2,gC1,gC3,gC4];have hvu:=hfv.2;refine ⟨trivial,gel_ge (gel_to_gs ?_ (gel_to_gs ?_ (by (repeat (first|exact gel_refl _ _ _|refine gel_gs_gs ?_|refine gel_to_gs gs_self ?_|refine gB1 ?_|refine gB2 ?_|refine gel_gs ?_ hfa|refine gel_gs ?_ hfp1|refine gel_newT hfa ?_|refine gel_newT hfp1 ?_|refine gel_set (by simp only[gA1,gA2,gA3,gA6,ne_eq,gA9,reduceIte,hb2,e2,hb3,e3,hb4,e4]<;>(first|done|rfl|assumption)) ?_|refine gB3 ?_|refine gel_new (by first|simp only[hb2,hb3,hb4]|assumption) ?_)))))⟩
    ·rintro _ ⟨⟩;simp only[gA4,hvu,if_false,reduceIte,Nat.zero_add]
    ·rintro _ ⟨⟩;simp only[gA4,reduceIte,Nat.zero_add]
end
end Go.AV
end
section
namespace Go.AV
open Go Go.Proofs
abbrev Own:=Option Nat × Nat × TypeId
def gsl (s:St):List Own→St
 | []=>s
 | o::l=>gs (gsl s l) o.1 o.2.1 o.2.2
structure OwnOk (s:St) (l:List Own):Prop where
 free:∀ o,o∈l→∀ t,o.1=some t→s.getT t=none
 nil:∀ o,o∈l→o.1=none→o.2.1=0
 dst:∀ (i j:Nat) (a b:Own) (t:Nat),l[i]?=some a→l[j]?=some b→a.1=some t→b.1=some t→i=j
@[go_sem] theorem gA5 (s : St) (l : List Own) (b : Nat) : (gsl s l).getO b = s.getO b := by
  induction l with
  | nil=>rfl
  | cons o l ih=>simp only[gsl,gA6,ih]
@[go_sem] theorem gsl_setO (s : St) (l : List Own) (b : Nat) (o : Ob) : (gsl s l).setO b o = gsl (s.setO b o) l := by
  induction l with
  | nil=>rfl
  | cons a l ih=>simp only[gsl,gs_setO,ih]
theorem gs_ls (s:St) (tk:Option Nat) (n:Nat) (e:TypeId):(gs s tk n e).ls=s.ls:=by cases tk<;>rfl
@[go_sem] theorem gsl_ls (s : St) (l : List Own) : (gsl s l).ls = s.ls := by
  induction l with
  | nil=>rfl
  | cons o l ih=>simp only[gsl,gs_ls,ih]
theorem gsl_getT (s:St) (l:List Own) (u:Nat):(gsl s l).getT u=match l.find? (fun o=>decide (o.1=some u)) with|some o=>some o.2|none=>s.getT u:=by
 induction l with
 | nil=>rfl
 | cons o l ih =>
  simp only[gsl,gs_getT,List.find?];by_cases h:o.1=some u
  ·simp only[h,if_true,decide_true]
  ·simp only[h,if_false,decide_false,ih]
theorem gsl_getT_some {s:St} {l:List Own} (h:OwnOk s l) {k:Nat} {o:Own} (hk:l[k]?=some o) {t:Nat} (ht:o.1=some t):(gsl s l).getT t=some o.2:=by
 rw[gsl_getT];cases hf:l.find? (fun o=>decide (o.1=some t)) with
 | none =>
  have:=List.find?_eq_none.1 hf o (List.mem_of_getElem? hk);simp[ht] at this
 | some a =>
  have h1:=List.find?_some hf;have h2:=List.mem_of_find?_eq_some hf;obtain ⟨j,hj,rfl⟩:=List.getElem_of_mem h2;have hj':l[j]?=some l[j]:=List.getElem?_eq_getElem hj;have:=h.dst j k _ _ t hj' hk (by simpa using h1) ht;subst this;rw[hj'] at hk;cases hk;rfl
theorem gsl_getT_no {s:St} {l:List Own} {t:Nat} (h:∀ o,o∈l→o.1≠some t):(gsl s l).getT t=s.getT t:=by
 rw[gsl_getT,List.find?_eq_none.2 (fun o ho=>by simpa using h o ho)]
theorem gsl_gok {s:St} {l:List Own} (h:OwnOk s l) {k:Nat} {o:Own} (hk:l[k]?=some o):gok (gsl s l) o.1 o.2.1 o.2.2:=by
 obtain ⟨tk,n,e⟩:=o;cases tk with
 | none=>exact h.nil _ (List.mem_of_getElem? hk) rfl
 | some t=>exact gsl_getT_some h hk rfl
theorem OwnOk.to {s X:St} {l:List Own} (h:OwnOk s l) (hX:∀ t,X.getT t=s.getT t):OwnOk X l:=⟨fun o ho t ht=>by rw[hX];exact h.free o ho t ht,h.nil,h.dst⟩
theorem gsl_gokX {s X:St} {l:List Own} (h:OwnOk s l) {k:Nat} {o:Own} (hk:l[k]?=some o) (hX:∀ t,X.getT t=s.getT t):gok (gsl X l) o.1 o.2.1 o.2.2:=gsl_gok (h.to hX) hk
theorem gsl_own {s X:St} {l:List Own} (h:OwnOk s l) {k:Nat} {o:Own} (hk:l[k]?=some o) {t:Nat}
  (ht:o.1=some t∨o.1=none∧(gsl X l).getT t=none) (hX:∀ t,X.getT t=s.getT t) (n:Nat):OwnOk s (l.set k (some t,n,o.2.2)):=by
 have hfree:s.getT t=none∧∀ (j:Nat) (a:Own),l[j]?=some a→a.1=some t→j=k:=by
  rcases ht with e|⟨e,e2⟩
  ·exact ⟨h.free o (List.mem_of_getElem? hk) t e,fun j a ha hat=>h.dst j k a o t ha hk hat e⟩
  ·rw[gsl_getT] at e2;cases hf:l.find? (fun o=>decide (o.1=some t)) with
   | some a=>rw[hf] at e2;cases e2
   | none =>
    rw[hf] at e2;refine ⟨by rw[← hX];exact e2,fun j a ha hat=>?_⟩;have:=List.find?_eq_none.1 hf a (List.mem_of_getElem? ha);simp[hat] at this
 have hlt:k<l.length:=by
  rcases Nat.lt_or_ge k l.length with h|h
  ·exact h
  ·rw[List.getElem?_eq_none h] at hk;cases hk
 refine ⟨fun a ha u hu=>?_,fun a ha hn=>?_,fun i j a b u hi hj ha hb=>?_⟩
 ·rcases List.mem_or_eq_of_mem_set ha with ha|rfl
  ·exact h.free a ha u hu
  ·cases hu;exact hfree.1
 ·rcases List.mem_or_eq_of_mem_set ha with ha|rfl
  ·exact h.nil a ha hn
  ·cases hn
 ·rw[List.getElem?_set] at hi hj;split at hi<;>split at hj
  ·rename_i e1 e2;rw[← e1,← e2]
  ·rename_i e1 e2
   try rw[if_pos hlt] at hi
   cases hi;cases ha;exact (e2 (hfree.2 j b hj hb).symm).elim
  ·rename_i e1 e2
   try rw[if_pos hlt] at hj
   cases hj;cases hb;exact (e1 (hfree.2 i a hi ha).symm).elim
  ·exact h.dst i j a b u hi hj ha hb
theorem gsl_app {s X:St} {l:List Own} (h:OwnOk s l) {k:Nat} {o:Own} (hk:l[k]?=some o) {t n:Nat} (h':OwnOk s (l.set k (some t,n,o.2.2)))
  (hX:∀ t,X.getT t=s.getT t):((gsl X l).setT t (n,o.2.2)).ge (gsl X (l.set k (some t,n,o.2.2))):=by
 have hlt:k<l.length:=by
  rcases Nat.lt_or_ge k l.length with h|h
  ·exact h
  ·rw[List.getElem?_eq_none h] at hk;cases hk
 have hk':(l.set k (some t,n,o.2.2))[k]?=some (some t,n,o.2.2):=by rw[List.getElem?_set,if_pos rfl,if_pos hlt]
 refine ⟨fun b o h=>by rw[gA5] at h;rw[gA3,gA5];exact h,fun u m hm=>?_,fun x hx=>by rw[gsl_ls] at hx;show (gsl X l).ls=_;rw[gsl_ls];exact hx⟩;rw[gA4];rw[gsl_getT] at hm;cases hf:(l.set k (some t,n,o.2.2)).find? (fun o=>decide (o.1=some u)) with
 | some a =>
  rw[hf] at hm;have h1:=List.find?_some hf;have h2:=List.mem_of_find?_eq_some hf;simp only[decide_eq_true_eq] at h1;obtain ⟨j,hj,e⟩:=List.getElem_of_mem h2;have hj':(l.set k (some t,n,o.2.2))[j]?=some a:=by rw[List.getElem?_eq_getElem hj,e]
  by_cases htu:t=u
  ·subst htu;have:=h'.dst j k a _ t hj' hk' h1 rfl;subst this;rw[hj'] at hk';cases hk';rw[if_pos rfl];exact hm
  ·rw[if_neg htu]
   have hjk:k≠j:=fun e=>by
    subst e;rw[hj'] at hk';cases hk';exact htu (by simpa using h1)
   rw[List.getElem?_set,if_neg hjk] at hj'
   have h3:(gsl X l).getT u=some a.2:=by
    rw[gsl_getT];cases hf2:l.find? (fun o=>decide (o.1=some u)) with
    | none =>
     have:=List.find?_eq_none.1 hf2 a (List.mem_of_getElem? hj');simp[h1] at this
    | some c =>
     have h4:=List.find?_some hf2;simp only[decide_eq_true_eq] at h4;obtain ⟨i,hi,e⟩:=List.getElem_of_mem (List.mem_of_find?_eq_some hf2);have hi':l[i]?=some c:=by rw[List.getElem?_eq_getElem hi,e]
     have:=h.dst i j c a u hi' hj' h4 h1;subst this;rw[hi'] at hj';cases hj';rfl
   rw[h3];exact hm
 | none =>
  rw[hf] at hm;have hno:=List.find?_eq_none.1 hf
  have htu:¬ t=u:=fun e=>by
   have:=hno _ (List.mem_of_getElem? hk');simp[e] at this
  rw[if_neg htu,gsl_getT];cases hf2:l.find? (fun o=>decide (o.1=some u)) with
  | none=>exact hm
  | some c =>
   have h4:=List.find?_some hf2;simp only[decide_eq_true_eq] at h4;have:=h.free c (List.mem_of_find?_eq_some hf2) u h4;rw[← hX] at this;have hm:X.getT u=some m:=hm;rw[this] at hm;cases hm
theorem gsl_ge {X Y:St} {l:List Own} (h:X.ge Y):(gsl X l).ge (gsl Y l):=by
 induction l with
 | nil=>exact h
 | cons o l ih=>exact gel_ge (gel_gs_gs (gel_of_ge ih _ _))
theorem gsl_gel {X s:St} {l:List Own} {L M:List Nat} (hf:∀ o,o∈l→∀ t,o.1=some t→s.getT t=none) (h:X.gel s L M):(gsl X l).gel s L M:=by
 induction l with
 | nil=>exact h
 | cons o l ih=>exact gel_gs (ih fun a ha=>hf a (by simp[ha])) (hf o (by simp))
theorem gsl_gx {X s:St} {l:List Own} {r:Nat} (hf:∀ o,o∈l→∀ t,o.1=some t→s.getT t=none) (h:X.gx s r):(gsl X l).gx s r:=by
 induction l with
 | nil=>exact h
 | cons o l ih=>exact St.gx_gs (ih fun a ha=>hf a (by simp[ha])) (hf o (by simp))
theorem gsl_weak {s:St} {l:List Own} {s2:St} (hs:s.ge s2) (h:∀ o,o∈l→∀ t,o.1=some t→s2.getT t=none):(gsl s l).ge s2:=gel_ge (gsl_gel h (gel_of_ge hs _ _))
end Go.AV
end
section
namespace Go.AV
open Go Go.Proofs
def Part.encN (p:Part):A:=.agg (.str p.cell::.str p.at_::(p.left.cs++[nv (p.right.map Tm.enc),.int .i64 p.line,.int .i64 p.col]))
def rulO (x:Rul) (tp tn td:Option Nat):Ob:=.cells 84 [.str x.name,gv tp (x.parts.map Part.encN),.nils,gv tn (x.new.map Fresh.enc),gv td (x.drop.map .str),.int .i64 x.line,.int .i64 x.col]
def rulL (x:Rul) (tp tn td:Option Nat):List Own:=[(tp,x.parts.length,86),(tn,x.new.length,141),(td,x.drop.length,9)]
def rulS (T:List Tok) (fin:Fault) (d:Dc) (first:Tok) (b r:Nat) (s:St) (x:Rul) (tp tn td:Option Nat) (i n:Nat):St:=gsl ((s.setO b (rulO x tp tn td)).setO r (psO T fin d first i n)) (rulL x tp tn td)
structure RulQ (b r:Nat) (s:St) (x:Rul) (tp tn td:Option Nat) (i:Nat):Prop where
 own:OwnOk s (rulL x tp tn td)
 hb:s.getO b=none
 ne:b≠r
 l1:x.parts.length≤i
 l2:x.new.length≤i
 l3:x.drop.length≤i
section
variable {T:List Tok} {fin:Fault} {d:Dc} {first:Tok} {i n:Nat} {s:St} {r:Nat} {KV Kp:St→A→Prop}
theorem part_den (hT:TOk T) (b:Nat) (x:Rul) (tp tn td:Option Nat) (hQ:RulQ b r s x tp tn td i) (hi:i≤T.length) (hn:n≤2000)
  (hk : (partR false fin x (T.drop i) n).to (fun x' w n' => ∀ j tp' tn' td',i + 1 ≤ j → j ≤ T.length → T.drop j = w → n' ≤ 2000 → RulQ b r s x' tp' tn' td' j → KV (rulS T fin d first b r s x' tp' tn' td' j n') (.tuple []))
   (fun f=>∀ s1 o,s1.gx s r→s1.getO r=some o→Kp s1 (.iface 36 f.enc))):Den cx 224 [.ptr r 0,.ptr b 0] KV Kp (rulS T fin d first b r s x tp tn td i n):=by
 obtain ⟨hown,hb,hne,l1,l2,l3⟩:=hQ;have hlenT:=hT.len;have hfr:=hown.free;refine Den.drop ?_;(refine Den.of_body (C:=cx) Tryz.func224 rfl rfl (gC6 rfl) ?_;refine wpC_ok (V:=[0,1,4,5,16,27,42,65]) _ _ _ _ ?_;simp only[go_sem,Tryz.ntmps224,Tryz.f224]);unfold rulS rulO;simp only[go_sem,gA5,hne,hne.symm];refine peek_den (T:=T) (fin:=fin) (d:=d) (first:=first) (i:=i) (n:=n) (by simp only[gA1,gA2,gA3,gA6,ne_eq,gA9,reduceIte,gA5,hne,hne.symm]<;>(first|done|rfl|assumption)) hi ?_;cases hw:T.drop i with
 | nil=>rw[hw] at hk;exact DK.here (hk _ (psO T fin d first i n) (by (repeat (first|refine gsl_gx hfr ?_|exact gA8 _ _|refine St.gx_r ?_|refine gA7 (by first|simp only[hb]|assumption) ?_|refine St.gx_T (by first|simp only[hb]|assumption) ?_))) (by simp only[gA1,gA2,gA3,gA6,ne_eq,gA9,reduceIte,gA5,hne,hne.symm]<;>(first|done|rfl|assumption)))
 | cons t w =>
  obtain ⟨g1,g2,g3,g4⟩:=drop_get hw;rw[hw] at hk;simp only[partR] at hk;simp only[go_sem,gA5,hne,hne.symm];(intro b4 hb4;try simp only[gA5,gA6,gD6,ne_eq] at hb4);simp only[go_sem,gA5,hne,hne.symm,hb4];refine take_den (T:=T) (fin:=fin) (d:=d) (first:=first) (i:=i) (n:=n) _ (by simp only[gA1,gA2,gA3,gA6,ne_eq,gA9,reduceIte,gA5,hne,hne.symm,hb4]<;>(first|done|rfl|assumption)) hi hT ?_;rw[hw];cases c1:isTok t [110,101,119] with
  | true =>
   rw[if_pos c1,Rd.bind_to,← g3] at hk;simp only[isT,c1];simp only[go_sem,gA5,hne,hne.symm,hb4];refine want_den (T:=T) (fin:=fin) (d:=d) (first:=first) (i:=i+1) (n:=n) _ (by simp only[gA1,gA2,gA3,gA6,ne_eq,gA9,reduceIte,gA5,hne,hne.symm,hb4]<;>(first|done|rfl|assumption)) g2 hT (Rd.to_mono hk (fun _ w2 m2 hk2 hlt2 hw2 hm2=>?_) (fun f h=>PB.of (by (repeat (first|refine gsl_gx hfr ?_|exact gA8 _ _|refine St.gx_r ?_|refine gA7 (by first|simp only[hb,hb4]|assumption) ?_|refine St.gx_T (by first|simp only[hb,hb4]|assumption) ?_))) h));subst m2;rw[← hw2,Rd.bind_to] at hk2;simp only[go_sem,gA5,hne,hne.symm,hb4];(refine draw_ok (V:=[0,1,4,5,16,27,42,65]) (OT.l [0,1,2,3,4,5,6,7,8,9,10,11,12,13,14] .nil) [(8,[4])] mixed_cx (by decide +kernel) ?_;simp only[go_sem,gA5,hne,hne.symm,hb4])
   refine Den.weaken (St.ge_same (by simp only[gA1,gA2,gA3,gA6,ne_eq,gA9,reduceIte,gA5,hne,hne.symm,hb4]<;>(first|done|rfl|assumption))) (plists222_den (fin:=fin) (d:=d) (fi:=first) Tm.enc Tm.hz Tm.ho hT (fun _=>True) (fun _ _ _=>Iff.rfl) (wholeR false fin) 41 [.ptr r 0] []
    (hf_of (fun _ _ h=>h) (fun s' i' n' KV' Kp' hr' _ hi' hn' hk'=>whole_den hT hr' hi' hn' (Rd.to_mono hk' (fun _ _ _ h j hj=>h j (by omega)) (fun _ h=>h)))) (i+1+1) n trivial hlt2 hn ?_)
   refine Rd.to_mono hk2 (fun l w3 m3 hk3 j3 hj3 hjT3 hw3 hm3=>?_) (fun f h s1 o hg hr1=>DK.here (h _ o (hg.trans (by (repeat (first|refine gsl_gx hfr ?_|exact gA8 _ _|refine St.gx_r ?_|refine gA7 (by first|simp only[hb,hb4]|assumption) ?_|refine St.gx_T (by first|simp only[hb,hb4]|assumption) ?_)))) hr1));subst hw3;rw[Rd.bind_to] at hk3;simp only[go_sem,gA5,hne,hne.symm,hb4];refine ⟨by decide,fun y hy=>by simp only[List.mem_singleton] at hy;subst hy;rfl,appL_gv rfl rfl (by rw[gC4];refine gsl_gokX hown (k:=1) (o:=(tn,x.new.length,141)) rfl ?_;exact fun _=>rfl) (fun y hy=>?_) (by simp only[gC4,gC1,gC3];omega) (fun u hu=>?_)⟩
   ·simp only[List.mem_map] at hy;obtain ⟨q,_,rfl⟩:=hy;rfl
   have hown2:=gsl_own hown (k:=1) (o:=(tn,x.new.length,141)) rfl hu (fun _=>rfl) (x.new.length+1);simp only[go_sem,gA5,hne,hne.symm,hb4];refine Den.weaken (gsl_app hown (k:=1) (o:=(tn,x.new.length,141)) rfl hown2 (fun _=>rfl)) ?_;have hown3:OwnOk s (rulL { x with new:=x.new++[⟨l⟩] } tp (some u) td):=by simpa only[rulL,gC2,gC1,gC3,List.set_cons_succ,List.set_cons_zero] using hown2
   rw[show (rulL x tp tn td).set 1 (some u,x.new.length+1,(tn,x.new.length,141).snd.snd)=rulL { x with new:=x.new++[⟨l⟩] } tp (some u) td by simp[rulL]];have hfr3:=hown3.free;refine want_den (T:=T) (fin:=fin) (d:=d) (first:=first) (i:=j3) (n:=m3) _ (by simp only[gA1,gA2,gA3,gA6,ne_eq,gA9,reduceIte,gA5,hne,hne.symm,hb4]<;>(first|done|rfl|assumption)) hjT3 hT (Rd.to_mono hk3 (fun _ w4 m4 hk4 hlt4 hw4 hm4=>?_) (fun f h=>PB.of (by (repeat (first|refine gsl_gx hfr3 ?_|exact gA8 _ _|refine St.gx_r ?_|refine gA7 (by first|simp only[hb,hb4]|assumption) ?_|refine St.gx_T (by first|simp only[hb,hb4]|assumption) ?_))) h));subst m4;rw[Rd.ok_to] at hk4;simp only[go_sem,gA5,hne,hne.symm,hb4];have hk5:=hk4 (j3+1) tp (some u) td (by omega) hlt4 hw4 hm3 ⟨hown3,hb,hne,by simp only;omega,by simp only[gC2,gC1,gC3];omega,by simp only;omega⟩;refine DK.st hk5 ?_;unfold rulS;refine gsl_ge ?_;simp only[rulO,gv_some,List.map_append,List.map_cons,List.map_nil,Part.encN,nv,Tm.cs,gD2,gD3,Tm.enc_eq];exact (by (refine gel_ge ?_;repeat (first|exact gel_refl _ _ _|refine gsl_gel hfr3 ?_|refine gel_gs_gs ?_|refine gel_to_gs gs_self ?_|refine gB1 ?_|refine gB2 ?_|refine gel_set (by simp only[gA1,gA2,gA3,gA6,ne_eq,gA9,reduceIte,gA5,hne,hne.symm,hb4]<;>(first|done|rfl|assumption)) ?_|refine gB3 ?_|refine gel_new (by first|simp only[hb,hb4]|assumption) ?_)))
  | false =>
   rw[if_neg (by simp[c1])] at hk;simp only[isT,c1];simp only[go_sem,gA5,hne,hne.symm,hb4];refine take_den (T:=T) (fin:=fin) (d:=d) (first:=first) (i:=i) (n:=n) _ (by simp only[gA1,gA2,gA3,gA6,ne_eq,gA9,reduceIte,gA5,hne,hne.symm,hb4]<;>(first|done|rfl|assumption)) hi hT ?_;rw[hw];cases c2:isTok t [100,114,111,112] with
   | true =>
    rw[if_pos c2,Rd.bind_to,← g3] at hk;simp only[isT,c2];simp only[go_sem,gA5,hne,hne.symm,hb4];refine want_den (T:=T) (fin:=fin) (d:=d) (first:=first) (i:=i+1) (n:=n) _ (by simp only[gA1,gA2,gA3,gA6,ne_eq,gA9,reduceIte,gA5,hne,hne.symm,hb4]<;>(first|done|rfl|assumption)) g2 hT (Rd.to_mono hk (fun _ w2 m2 hk2 hlt2 hw2 hm2=>?_) (fun f h=>PB.of (by (repeat (first|refine gsl_gx hfr ?_|exact gA8 _ _|refine St.gx_r ?_|refine gA7 (by first|simp only[hb,hb4]|assumption) ?_|refine St.gx_T (by first|simp only[hb,hb4]|assumption) ?_))) h));subst m2;rw[← hw2,Rd.bind_to] at hk2;simp only[go_sem,gA5,hne,hne.symm,hb4];(refine draw_ok (V:=[0,1,4,5,16,27,42,65]) (OT.l [0,1,2,3,4,5,6,7,8,9,10,11] .nil) [(6,[4])] mixed_cx (by decide +kernel) ?_;simp only[go_sem,gA5,hne,hne.symm,hb4]);refine name_den (T:=T) (fin:=fin) (d:=d) (first:=first) (i:=i+1+1) (n:=n) (by simp only[gA1,gA2,gA3,gA6,ne_eq,gA9,reduceIte,gA5,hne,hne.symm,hb4]<;>(first|done|rfl|assumption)) hlt2 hT (Rd.to_mono hk2 (fun y w3 m3 hk3 hlt3 hw3 hm3=>?_) (fun f h=>PB.of (by (repeat (first|refine gsl_gx hfr ?_|exact gA8 _ _|refine St.gx_r ?_|refine gA7 (by first|simp only[hb,hb4]|assumption) ?_|refine St.gx_T (by first|simp only[hb,hb4]|assumption) ?_))) h));subst m3;rw[Rd.ok_to] at hk3;simp only[go_sem,gA5,hne,hne.symm,hb4];refine ⟨by decide,fun y hy=>by simp only[List.mem_singleton] at hy;subst hy;rfl,appL_gv rfl rfl (by rw[gC4];refine gsl_gokX hown (k:=2) (o:=(td,x.drop.length,9)) rfl ?_;exact fun _=>rfl) (fun y hy=>?_) (by simp only[gC4,gC1,gC3];omega) (fun u hu=>?_)⟩
    ·simp only[List.mem_map] at hy;obtain ⟨q,_,rfl⟩:=hy;rfl
    have hown2:=gsl_own hown (k:=2) (o:=(td,x.drop.length,9)) rfl hu (fun _=>rfl) (x.drop.length+1);have hown3:OwnOk s (rulL { x with drop:=x.drop++[y] } tp tn (some u)):=by simpa only[rulL,gC2,gC1,gC3,List.set_cons_succ,List.set_cons_zero] using hown2
    simp only[go_sem,gA5,hne,hne.symm,hb4];have hk5:=hk3 (i+1+1+1) tp tn (some u) (by omega) hlt3 hw3 hn ⟨hown3,hb,hne,by simp only;omega,by simp only;omega,by simp only[gC2,gC1,gC3];omega⟩;refine DK.st hk5 (St.ge.trans (gsl_app hown (k:=2) (o:=(td,x.drop.length,9)) rfl hown2 (fun _=>rfl)) ?_);unfold rulS;rw[show (rulL x tp tn td).set 2 (some u,x.drop.length+1,(td,x.drop.length,9).snd.snd)=rulL { x with drop:=x.drop++[y] } tp tn (some u) by simp[rulL]];refine gsl_ge ?_;simp only[rulO,gv_some,List.map_append,List.map_cons,List.map_nil,Part.encN,nv,Tm.cs,gD2,gD3,Tm.enc_eq];exact (by (refine gel_ge ?_;repeat (first|exact gel_refl _ _ _|refine gsl_gel hfr ?_|refine gel_gs_gs ?_|refine gel_to_gs gs_self ?_|refine gB1 ?_|refine gB2 ?_|refine gel_set (by simp only[gA1,gA2,gA3,gA6,ne_eq,gA9,reduceIte,gA5,hne,hne.symm,hb4]<;>(first|done|rfl|assumption)) ?_|refine gB3 ?_|refine gel_new (by first|simp only[hb,hb4]|assumption) ?_)))
   | false =>
    rw[if_neg (by simp[c2]),Rd.bind_to,← hw] at hk;simp only[isT,c2];simp only[go_sem,gA5,hne,hne.symm,hb4];(refine draw_ok (V:=[0,1,4,5,16,27,42,65]) (OT.l [0,2,3,4,5,1,6,7,8] .nil) [(1,[3,5]),(7,[3,5])] mixed_cx (by decide +kernel) ?_;simp only[go_sem,gA5,hne,hne.symm,hb4]);refine name_den (T:=T) (fin:=fin) (d:=d) (first:=first) (i:=i) (n:=n) (by simp only[gA1,gA2,gA3,gA6,ne_eq,gA9,reduceIte,gA5,hne,hne.symm,hb4]<;>(first|done|rfl|assumption)) hi hT (Rd.to_mono hk (fun y w3 m3 hk3 hlt3 hw3 hm3=>?_) (fun f h=>PB.of (by (repeat (first|refine gsl_gx hfr ?_|exact gA8 _ _|refine St.gx_r ?_|refine gA7 (by first|simp only[hb,hb4]|assumption) ?_|refine St.gx_T (by first|simp only[hb,hb4]|assumption) ?_))) h));subst m3;rw[← hw3] at hk3;simp only[go_sem,gA5,hne,hne.symm,hb4];(intro b5 hb5;try simp only[gA5,gA6,gD6,ne_eq] at hb5);simp only[go_sem,gA5,hne,hne.symm,hb4,hb5];refine take_den (T:=T) (fin:=fin) (d:=d) (first:=first) (i:=i+1) (n:=n) _ (by simp only[gA1,gA2,gA3,gA6,ne_eq,gA9,reduceIte,gA5,hne,hne.symm,hb4,hb5]<;>(first|done|rfl|assumption)) hlt3 hT ?_;rw[Rd.bind_to] at hk3;cases c3:isT [64] (T.drop (i+1)) with
    | true =>
     rw[if_pos c3,List.tail_drop] at hk3;have hlt4:=isT_lt c3;simp only[go_sem,gA5,hne,hne.symm,hb4,hb5];refine name_den (T:=T) (fin:=fin) (d:=d) (first:=first) (i:=i+1+1) (n:=n) (by simp only[gA1,gA2,gA3,gA6,ne_eq,gA9,reduceIte,gA5,hne,hne.symm,hb4,hb5]<;>(first|done|rfl|assumption)) hlt4 hT (Rd.to_mono hk3 (fun y2 w4 m4 hk4 hlt4 hw4 hm4=>?_) (fun f h=>PB.of (by (repeat (first|refine gsl_gx hfr ?_|exact gA8 _ _|refine St.gx_r ?_|refine gA7 (by first|simp only[hb,hb4,hb5]|assumption) ?_|refine St.gx_T (by first|simp only[hb,hb4,hb5]|assumption) ?_))) h));subst m4;rw[← hw4] at hk4;simp only[go_sem,gA5,hne,hne.symm,hb4,hb5];rw[Rd.bind_to] at hk4;refine want_den (T:=T) (fin:=fin) (d:=d) (first:=first) (i:=i+1+1+1) (n:=n) _ (by simp only[gA1,gA2,gA3,gA6,ne_eq,gA9,reduceIte,gA5,hne,hne.symm,hb4,hb5]<;>(first|done|rfl|assumption)) hlt4 hT (Rd.to_mono hk4 (fun _ w5 m5 hk5 hlt5 hw5 hm5=>?_) (fun f h=>PB.of (by (repeat (first|refine gsl_gx hfr ?_|exact gA8 _ _|refine St.gx_r ?_|refine gA7 (by first|simp only[hb,hb4,hb5]|assumption) ?_|refine St.gx_T (by first|simp only[hb,hb4,hb5]|assumption) ?_))) h));subst m5;rw[← hw5,Rd.bind_to] at hk5;simp only[go_sem,gA5,hne,hne.symm,hb4,hb5];refine whole_den (T:=T) (fin:=fin) (d:=d) (first:=first) (i:=i+1+1+1+1) (n:=n) hT (by simp only[gA1,gA2,gA3,gA6,ne_eq,gA9,reduceIte,gA5,hne,hne.symm,hb4,hb5]<;>(first|done|rfl|assumption)) hlt5 hn (Rd.to_mono hk5 (fun l6 w6 m6 hk6 j6 hj6 hjT6 hw6 hm6=>?_) (fun f h=>PB.of (by (repeat (first|refine gsl_gx hfr ?_|exact gA8 _ _|refine St.gx_r ?_|refine gA7 (by first|simp only[hb,hb4,hb5]|assumption) ?_|refine St.gx_T (by first|simp only[hb,hb4,hb5]|assumption) ?_))) h));rw[← hw6,Rd.bind_to] at hk6;simp only[go_sem,gA5,hne,hne.symm,hb4,hb5,Tm.enc_eq];refine take_den (T:=T) (fin:=fin) (d:=d) (first:=first) (i:=j6) (n:=m6) _ (by simp only[gA1,gA2,gA3,gA6,ne_eq,gA9,reduceIte,gA5,hne,hne.symm,hb4,hb5]<;>(first|done|rfl|assumption)) hjT6 hT ?_;cases c4:isT [61,62] (T.drop j6) with
     | true =>
      rw[if_pos c4,List.tail_drop,Rd.bind_to] at hk6;have hlt7:=isT_lt c4;simp only[go_sem,gA5,hne,hne.symm,hb4,hb5];refine whole_den (T:=T) (fin:=fin) (d:=d) (first:=first) (i:=j6+1) (n:=m6) hT (by simp only[gA1,gA2,gA3,gA6,ne_eq,gA9,reduceIte,gA5,hne,hne.symm,hb4,hb5]<;>(first|done|rfl|assumption)) hlt7 hm6 (Rd.to_mono hk6 (fun l8 w8 m8 hk8 j8 hj8 hjT8 hw8 hm8=>?_) (fun f h=>PB.of (by (repeat (first|refine gsl_gx hfr ?_|exact gA8 _ _|refine St.gx_r ?_|refine gA7 (by first|simp only[hb,hb4,hb5]|assumption) ?_|refine St.gx_T (by first|simp only[hb,hb4,hb5]|assumption) ?_))) h));rw[Rd.ok_to,← hw8,Rd.ok_to] at hk8;simp only[go_sem,gA5,hne,hne.symm,hb4,hb5,Tm.enc_eq];(refine draw_ok (V:=[0,1,4,5,16,27,42,65]) (OT.l [0,1,2,3,4,5,6,7,8,9,10] .nil) [] mixed_cx (by decide +kernel) ?_;simp only[go_sem,gA5,hne,hne.symm,hb4,hb5])
      (try simp only[go_sem,gA5,hne,hne.symm,hb4,hb5])
      refine ⟨by decide,fun y hy=>by simp only[List.mem_singleton] at hy;subst hy;rfl,appL_gv rfl rfl (by rw[gC4];refine gsl_gokX hown (k:=0) (o:=(tp,x.parts.length,86)) rfl ?_;exact fun _=>rfl) (fun y hy=>?_) (by simp only[gC4,gC1,gC3];omega) (fun u hu=>?_)⟩
      ·simp only[List.mem_map] at hy;obtain ⟨q,_,rfl⟩:=hy;rfl
      have hown2:=gsl_own hown (k:=0) (o:=(tp,x.parts.length,86)) rfl hu (fun _=>rfl) (x.parts.length+1);have hown3:OwnOk s (rulL { x with parts:=x.parts++[⟨y,y2,l6,[l8],t.line,t.col⟩] } (some u) tn td):=by simpa only[rulL,gC2,gC1,gC3,List.set_cons_succ,List.set_cons_zero] using hown2
      simp only[go_sem,gA5,hne,hne.symm,hb4,hb5];have hk5:=hk8 (j8) (some u) tn td (by omega) hjT8 rfl hm8 ⟨hown3,hb,hne,by simp only[gC2,gC1,gC3];omega,by simp only;omega,by simp only;omega⟩;refine DK.st hk5 (St.ge.trans (gsl_app hown (k:=0) (o:=(tp,x.parts.length,86)) rfl hown2 (fun _=>rfl)) ?_);unfold rulS;rw[show (rulL x tp tn td).set 0 (some u,x.parts.length+1,(tp,x.parts.length,86).snd.snd)=rulL { x with parts:=x.parts++[⟨y,y2,l6,[l8],t.line,t.col⟩] } (some u) tn td by simp[rulL]];refine gsl_ge ?_;simp only[rulO,gv_some,List.map_append,List.map_cons,List.map_nil,Part.encN,nv,Tm.cs,gD2,gD3,Tm.enc_eq];exact (by (refine gel_ge ?_;repeat (first|exact gel_refl _ _ _|refine gsl_gel hfr ?_|refine gel_gs_gs ?_|refine gel_to_gs gs_self ?_|refine gB1 ?_|refine gB2 ?_|refine gel_set (by simp only[gA1,gA2,gA3,gA6,ne_eq,gA9,reduceIte,gA5,hne,hne.symm,hb4,hb5]<;>(first|done|rfl|assumption)) ?_|refine gB3 ?_|refine gel_new (by first|simp only[hb,hb4,hb5]|assumption) ?_)))
     | false =>
      rw[if_neg (by simp[c4]),Rd.ok_to,Rd.ok_to] at hk6;simp only[go_sem,gA5,hne,hne.symm,hb4,hb5];(refine draw_ok (V:=[0,1,4,5,16,27,42,65]) (OT.l [0,1,2,3,4,5,6,7,8,9,10] .nil) [] mixed_cx (by decide +kernel) ?_;simp only[go_sem,gA5,hne,hne.symm,hb4,hb5])
      (try simp only[go_sem,gA5,hne,hne.symm,hb4,hb5])
      refine ⟨by decide,fun y hy=>by simp only[List.mem_singleton] at hy;subst hy;rfl,appL_gv rfl rfl (by rw[gC4];refine gsl_gokX hown (k:=0) (o:=(tp,x.parts.length,86)) rfl ?_;exact fun _=>rfl) (fun y hy=>?_) (by simp only[gC4,gC1,gC3];omega) (fun u hu=>?_)⟩
      ·simp only[List.mem_map] at hy;obtain ⟨q,_,rfl⟩:=hy;rfl
      have hown2:=gsl_own hown (k:=0) (o:=(tp,x.parts.length,86)) rfl hu (fun _=>rfl) (x.parts.length+1);have hown3:OwnOk s (rulL { x with parts:=x.parts++[⟨y,y2,l6,[],t.line,t.col⟩] } (some u) tn td):=by simpa only[rulL,gC2,gC1,gC3,List.set_cons_succ,List.set_cons_zero] using hown2
      simp only[go_sem,gA5,hne,hne.symm,hb4,hb5];have hk5:=hk6 (j6) (some u) tn td (by omega) hjT6 rfl hm6 ⟨hown3,hb,hne,by simp only[gC2,gC1,gC3];omega,by simp only;omega,by simp only;omega⟩;refine DK.st hk5 (St.ge.trans (gsl_app hown (k:=0) (o:=(tp,x.parts.length,86)) rfl hown2 (fun _=>rfl)) ?_);unfold rulS;rw[show (rulL x tp tn td).set 0 (some u,x.parts.length+1,(tp,x.parts.length,86).snd.snd)=rulL { x with parts:=x.parts++[⟨y,y2,l6,[],t.line,t.col⟩] } (some u) tn td by simp[rulL]];refine gsl_ge ?_;simp only[rulO,gv_some,List.map_append,List.map_cons,List.map_nil,Part.encN,nv,Tm.cs,gD2,gD3,Tm.enc_eq];exact (by (refine gel_ge ?_;repeat (first|exact gel_refl _ _ _|refine gsl_gel hfr ?_|refine gel_gs_gs ?_|refine gel_to_gs gs_self ?_|refine gB1 ?_|refine gB2 ?_|refine gel_set (by simp only[gA1,gA2,gA3,gA6,ne_eq,gA9,reduceIte,gA5,hne,hne.symm,hb4,hb5]<;>(first|done|rfl|assumption)) ?_|refine gB3 ?_|refine gel_new (by first|simp only[hb,hb4,hb5]|assumption) ?_)))
    | false =>
     rw[if_neg (by simp[c3]),Rd.ok_to] at hk3;simp only[go_sem,gA5,hne,hne.symm,hb4,hb5];rw[Rd.bind_to] at hk3;refine want_den (T:=T) (fin:=fin) (d:=d) (first:=first) (i:=i+1) (n:=n) _ (by simp only[gA1,gA2,gA3,gA6,ne_eq,gA9,reduceIte,gA5,hne,hne.symm,hb4,hb5]<;>(first|done|rfl|assumption)) hlt3 hT (Rd.to_mono hk3 (fun _ w5 m5 hk5 hlt5 hw5 hm5=>?_) (fun f h=>PB.of (by (repeat (first|refine gsl_gx hfr ?_|exact gA8 _ _|refine St.gx_r ?_|refine gA7 (by first|simp only[hb,hb4,hb5]|assumption) ?_|refine St.gx_T (by first|simp only[hb,hb4,hb5]|assumption) ?_))) h));subst m5;rw[← hw5,Rd.bind_to] at hk5;simp only[go_sem,gA5,hne,hne.symm,hb4,hb5];refine whole_den (T:=T) (fin:=fin) (d:=d) (first:=first) (i:=i+1+1) (n:=n) hT (by simp only[gA1,gA2,gA3,gA6,ne_eq,gA9,reduceIte,gA5,hne,hne.symm,hb4,hb5]<;>(first|done|rfl|assumption)) hlt5 hn (Rd.to_mono hk5 (fun l6 w6 m6 hk6 j6 hj6 hjT6 hw6 hm6=>?_) (fun f h=>PB.of (by (repeat (first|refine gsl_gx hfr ?_|exact gA8 _ _|refine St.gx_r ?_|refine gA7 (by first|simp only[hb,hb4,hb5]|assumption) ?_|refine St.gx_T (by first|simp only[hb,hb4,hb5]|assumption) ?_))) h));rw[← hw6,Rd.bind_to] at hk6;simp only[go_sem,gA5,hne,hne.symm,hb4,hb5,Tm.enc_eq];refine take_den (T:=T) (fin:=fin) (d:=d) (first:=first) (i:=j6) (n:=m6) _ (by simp only[gA1,gA2,gA3,gA6,ne_eq,gA9,reduceIte,gA5,hne,hne.symm,hb4,hb5]<;>(first|done|rfl|assumption)) hjT6 hT ?_;cases c4:isT [61,62] (T.drop j6) with
     | true =>
      rw[if_pos c4,List.tail_drop,Rd.bind_to] at hk6;have hlt7:=isT_lt c4;simp only[go_sem,gA5,hne,hne.symm,hb4,hb5];refine whole_den (T:=T) (fin:=fin) (d:=d) (first:=first) (i:=j6+1) (n:=m6) hT (by simp only[gA1,gA2,gA3,gA6,ne_eq,gA9,reduceIte,gA5,hne,hne.symm,hb4,hb5]<;>(first|done|rfl|assumption)) hlt7 hm6 (Rd.to_mono hk6 (fun l8 w8 m8 hk8 j8 hj8 hjT8 hw8 hm8=>?_) (fun f h=>PB.of (by (repeat (first|refine gsl_gx hfr ?_|exact gA8 _ _|refine St.gx_r ?_|refine gA7 (by first|simp only[hb,hb4,hb5]|assumption) ?_|refine St.gx_T (by first|simp only[hb,hb4,hb5]|assumption) ?_))) h));rw[Rd.ok_to,← hw8,Rd.ok_to] at hk8;simp only[go_sem,gA5,hne,hne.symm,hb4,hb5,Tm.enc_eq];(refine draw_ok (V:=[0,1,4,5,16,27,42,65]) (OT.l [0,1,2,3,4,5,6,7,8,9,10] .nil) [] mixed_cx (by decide +kernel) ?_;simp only[go_sem,gA5,hne,hne.symm,hb4,hb5])
      (try simp only[go_sem,gA5,hne,hne.symm,hb4,hb5])
      refine ⟨by decide,fun y hy=>by simp only[List.mem_singleton] at hy;subst hy;rfl,appL_gv rfl rfl (by rw[gC4];refine gsl_gokX hown (k:=0) (o:=(tp,x.parts.length,86)) rfl ?_;exact fun _=>rfl) (fun y hy=>?_) (by simp only[gC4,gC1,gC3];omega) (fun u hu=>?_)⟩
      ·simp only[List.mem_map] at hy;obtain ⟨q,_,rfl⟩:=hy;rfl
      have hown2:=gsl_own hown (k:=0) (o:=(tp,x.parts.length,86)) rfl hu (fun _=>rfl) (x.parts.length+1);have hown3:OwnOk s (rulL { x with parts:=x.parts++[⟨y,[],l6,[l8],t.line,t.col⟩] } (some u) tn td):=by simpa only[rulL,gC2,gC1,gC3,List.set_cons_succ,List.set_cons_zero] using hown2
      simp only[go_sem,gA5,hne,hne.symm,hb4,hb5];have hk5:=hk8 (j8) (some u) tn td (by omega) hjT8 rfl hm8 ⟨hown3,hb,hne,by simp only[gC2,gC1,gC3];omega,by simp only;omega,by simp only;omega⟩;refine DK.st hk5 (St.ge.trans (gsl_app hown (k:=0) (o:=(tp,x.parts.length,86)) rfl hown2 (fun _=>rfl)) ?_);unfold rulS;rw[show (rulL x tp tn td).set 0 (some u,x.parts.length+1,(tp,x.parts.length,86).snd.snd)=rulL { x with parts:=x.parts++[⟨y,[],l6,[l8],t.line,t.col⟩] } (some u) tn td by simp[rulL]];refine gsl_ge ?_;simp only[rulO,gv_some,List.map_append,List.map_cons,List.map_nil,Part.encN,nv,Tm.cs,gD2,gD3,Tm.enc_eq];exact (by (refine gel_ge ?_;repeat (first|exact gel_refl _ _ _|refine gsl_gel hfr ?_|refine gel_gs_gs ?_|refine gel_to_gs gs_self ?_|refine gB1 ?_|refine gB2 ?_|refine gel_set (by simp only[gA1,gA2,gA3,gA6,ne_eq,gA9,reduceIte,gA5,hne,hne.symm,hb4,hb5]<;>(first|done|rfl|assumption)) ?_|refine gB3 ?_|refine gel_new (by first|simp only[hb,hb4,hb5]|assumption) ?_)))
     | false =>
      rw[if_neg (by simp[c4]),Rd.ok_to,Rd.ok_to] at hk6;simp only[go_sem,gA5,hne,hne.symm,hb4,hb5];(refine draw_ok (V:=[0,1,4,5,16,27,42,65]) (OT.l [0,1,2,3,4,5,6,7,8,9,10] .nil) [] mixed_cx (by decide +kernel) ?_;simp only[go_sem,gA5,hne,hne.symm,hb4,hb5])
      (try simp only[go_sem,gA5,hne,hne.symm,hb4,hb5])
      refine ⟨by decide,fun y hy=>by simp only[List.mem_singleton] at hy;subst hy;rfl,appL_gv rfl rfl (by rw[gC4];refine gsl_gokX hown (k:=0) (o:=(tp,x.parts.length,86)) rfl ?_;exact fun _=>rfl) (fun y hy=>?_) (by simp only[gC4,gC1,gC3];omega) (fun u hu=>?_)⟩
      ·simp only[List.mem_map] at hy;obtain ⟨q,_,rfl⟩:=hy;rfl
      have hown2:=gsl_own hown (k:=0) (o:=(tp,x.parts.length,86)) rfl hu (fun _=>rfl) (x.parts.length+1);have hown3:OwnOk s (rulL { x with parts:=x.parts++[⟨y,[],l6,[],t.line,t.col⟩] } (some u) tn td):=by simpa only[rulL,gC2,gC1,gC3,List.set_cons_succ,List.set_cons_zero] using hown2
      simp only[go_sem,gA5,hne,hne.symm,hb4,hb5];have hk5:=hk6 (j6) (some u) tn td (by omega) hjT6 rfl hm6 ⟨hown3,hb,hne,by simp only[gC2,gC1,gC3];omega,by simp only;omega,by simp only;omega⟩;refine DK.st hk5 (St.ge.trans (gsl_app hown (k:=0) (o:=(tp,x.parts.length,86)) rfl hown2 (fun _=>rfl)) ?_);unfold rulS;rw[show (rulL x tp tn td).set 0 (some u,x.parts.length+1,(tp,x.parts.length,86).snd.snd)=rulL { x with parts:=x.parts++[⟨y,[],l6,[],t.line,t.col⟩] } (some u) tn td by simp[rulL]];refine gsl_ge ?_;simp only[rulO,gv_some,List.map_append,List.map_cons,List.map_nil,Part.encN,nv,Tm.cs,gD2,gD3,Tm.enc_eq];exact (by (refine gel_ge ?_;repeat (first|exact gel_refl _ _ _|refine gsl_gel hfr ?_|refine gel_gs_gs ?_|refine gel_to_gs gs_self ?_|refine gB1 ?_|refine gB2 ?_|refine gel_set (by simp only[gA1,gA2,gA3,gA6,ne_eq,gA9,reduceIte,gA5,hne,hne.symm,hb4,hb5]<;>(first|done|rfl|assumption)) ?_|refine gB3 ?_|refine gel_new (by first|simp only[hb,hb4,hb5]|assumption) ?_)))
end
end Go.AV
end
section
namespace Go.AV
open Go Go.Proofs
section
variable {T:List Tok} {fin:Fault} {d:Dc} {first:Tok} {i n:Nat} {s:St} {r:Nat} {KV Kp:St→A→Prop}
theorem gv_leL (tk:Option Nat) {es fs:List A} (h:tk=none→es=[]) (hl:lesL es fs):A.le (gv tk es) (.list none fs):=by
 cases tk with
 | none =>
  rw[h rfl] at hl;have:fs=[]:=List.eq_nil_of_length_eq_zero (by rw[← lesL_len hl];rfl);rw[this];exact A.le.nil
 | some t=>exact fun g v hv=>(A.le.list hl) g v ((A.le.forget t es) g v hv)
theorem Part.encN_le (ps:List Part):lesL (ps.map Part.encN) (ps.map Part.enc):=by
 induction ps with
 | nil=>trivial
 | cons p ps ih =>
  refine ⟨?_,ih⟩;simp only[Part.encN,Part.enc,Part.cs,A.cells,Tm.cs,gD2,gD3];exact ⟨⟨A.le.refl _,rfl⟩,⟨A.le.refl _,rfl⟩,⟨A.le.refl _,rfl⟩,⟨A.le.refl _,rfl⟩,⟨A.le.refl _,rfl⟩,⟨A.le.refl _,rfl⟩,⟨A.le.refl _,rfl⟩,⟨A.le.refl _,rfl⟩,⟨nv_le _,rfl⟩,⟨A.le.refl _,rfl⟩,⟨A.le.refl _,rfl⟩,trivial⟩
theorem rule_den (hT:TOk T) (t:Tok) (hr:s.getO r=some (psO T fin d first i n)) (hi:i≤T.length) (hn:n≤2000)
  (hk:(ruleR false fin t.line t.col (T.drop i) n).to (PK T i (fun j m=>s.setO r (psO T fin d first j m)) Rul.enc KV) (PB s r Kp)):Den cx 154 [.ptr r 0,t.enc] KV Kp s:=by
 have hlenT:=hT.len;simp only[ruleR,Rd.bind_to] at hk;simp only[go_sem];refine Den.drop ?_;(refine Den.of_body (C:=cx) Tryz.func154 rfl rfl (gC6 rfl) ?_;refine wpC_ok (V:=[0,1,3,4,5,6,7,8,19,42]) _ _ _ _ ?_;simp only[go_sem,Tryz.ntmps154,Tryz.f154]);(intro b3 hb3;try simp only[gD6,gA6,ne_eq] at hb3);have e3:=St.ne_of hr (by first|exact hb3|exact hb3.2|exact hb3.2.2|exact hb3.2.2.2|exact hb3.2.2.2.2|exact hb3.2.2.2.2.2|exact hb3.2.2.2.2.2.2);simp only[go_sem,hb3,e3];(intro b4 hb4;try simp only[gD6,gA6,ne_eq] at hb4);have e4:=St.ne_of hr (by first|exact hb4|exact hb4.2|exact hb4.2.2|exact hb4.2.2.2|exact hb4.2.2.2.2|exact hb4.2.2.2.2.2|exact hb4.2.2.2.2.2.2);simp only[go_sem,hb3,e3,hb4,e4];(refine draw_ok (V:=[0,1,3,4,5,6,7,8,19,42]) (OT.l [0,2,3,4,5,1,6,7,8] .nil) [(1,[3,5]),(7,[3,5])] mixed_cx (by decide +kernel) ?_;simp only[go_sem,hb3,e3,hb4,e4]);(refine name_den (T:=T) (fin:=fin) (d:=d) (first:=first) (i:=i) (n:=n) (by simp only[gA1,gA2,gA3,gA6,ne_eq,gA9,reduceIte,hb3,e3,hb4,e4]<;>(first|done|rfl|assumption)) hi hT (Rd.to_mono hk (fun x1 w1 m1 hk1 hlt1 hw1 hm1=>?_) (fun f h=>PB.mk (by (repeat (first|exact gA8 _ _|refine St.gx_r ?_|refine gA7 (by first|simp only[hb3,hb4]|assumption) ?_|refine St.gx_T (by first|simp only[hb3,hb4]|assumption) ?_))) h));subst m1;rw[← hw1] at hk1);simp only[go_sem,hb3,e3,hb4,e4];(intro b5 hb5;try simp only[gD6,gA6,ne_eq] at hb5);have e5:=St.ne_of hr (by first|exact hb5|exact hb5.2|exact hb5.2.2|exact hb5.2.2.2|exact hb5.2.2.2.2|exact hb5.2.2.2.2.2|exact hb5.2.2.2.2.2.2);simp only[go_sem,hb3,e3,hb4,e4,hb5,e5];(refine want_den (T:=T) (fin:=fin) (d:=d) (first:=first) (i:=i+1) (n:=n) _ (by simp only[gA1,gA2,gA3,gA6,ne_eq,gA9,reduceIte,hb3,e3,hb4,e4,hb5,e5]<;>(first|done|rfl|assumption)) hlt1 hT (Rd.to_mono hk1 (fun _ w2 m2 hk2 hlt2 hw2 hm2=>?_) (fun f h=>PB.mk (by (repeat (first|exact gA8 _ _|refine St.gx_r ?_|refine gA7 (by first|simp only[hb3,hb4,hb5]|assumption) ?_|refine St.gx_T (by first|simp only[hb3,hb4,hb5]|assumption) ?_))) h));subst m2;rw[← hw2] at hk2);simp only[go_sem,hb3,e3,hb4,e4,hb5,e5];rw[show (T.drop (i+1+1)).length=T.length-(i+1+1) by rw[gD4]] at hk2
 have h5:((s.setO b3 (.cells 60 t.cs)).setO b4 (.cells 84 [.str [],.nils,.nils,.nils,.nils,.int .i64 0,.int .i64 0])).getO b5=none:=by
  rw[gA1,if_neg hb5.2.1.1,gA1,if_neg hb5.2.2.1.1];exact hb5.2.2.2
 generalize hs2:(s.setO b3 (.cells 60 t.cs)).setO b4 (.cells 84 [.str [],.nils,.nils,.nils,.nils,.int .i64 0,.int .i64 0])=s2 at h5
 have hs2O:∀ b o,s.getO b=some o→s2.getO b=some o:=fun b o h=>by
  subst hs2;rw[gA1,if_neg (fun e=>by subst e;rw[hb4.2] at h;cases h),gA1,if_neg (fun e=>by subst e;rw[hb3] at h;cases h)];exact h
 have hs2g:s2.ge s:=⟨hs2O,fun u m hm=>by subst hs2;exact hm,fun x hx=>by subst hs2;exact hx⟩;have hg2:∀ s1:St,s1.gx s2 r→s1.gx s r:=fun s1 h=>⟨fun c hc x hx=>h.ob c hc x (hs2O c x hx),fun u m hm=>h.tk u m (by subst hs2;exact hm),fun x hx=>h.ls x (by subst hs2;exact hx)⟩
 have h24:s2.getO b4=some (.cells 84 [.str [],.nils,.nils,.nils,.nils,.int .i64 0,.int .i64 0]):=by subst hs2;rw[gA1,if_pos rfl]
 have PBk:∀ (s1:St) (f:Fault),s1.gx s2 r→PB s r Kp f→PB s1 r (DK Kp) f:=fun s1 f hg h o=>h.at (St.gx_r (hg2 _ hg)) (by rw[gA1,if_pos rfl])
 refine Ex.loop (ι:=(Rul × Option Nat × Option Nat × Option Nat) × Nat × Bool × Nat × Nat) (fun c=>[(0,.ptr r 0),(3,.ptr b3 0),(4,.ptr b4 0),(5,.ptr b5 0),(6,.int .i64 c.2.1),(7,.bool c.2.2.1)])
  (fun c=>rulS T fin d first b5 r s2 c.1.1 c.1.2.1 c.1.2.2.1 c.1.2.2.2 c.2.2.2.1 c.2.2.2.2)
  (fun c => RulQ b5 r s2 c.1.1 c.1.2.1 c.1.2.2.1 c.1.2.2.2 c.2.2.2.1 ∧ c.2.1 ≤ c.2.2.2.1 ∧ i + 1 + 1 ≤ c.2.2.2.1 ∧ c.2.2.2.1 ≤ T.length ∧ c.2.2.2.2 ≤ 2000 ∧
   (match c.2.2.1 with
    | true=>∃ k,T.length-c.2.2.2.1<k∧(loopR fin [59] (partsR false fin) k (c.1.1,c.2.1) (T.drop c.2.2.2.1) c.2.2.2.2).to (fun a w n=>(condsR false fin w n).to (fun l w n=>PK T i (fun j m=>s.setO r (psO T fin d first j m)) Rul.enc KV { a.1 with cond:=l } w n) (PB s r Kp)) (PB s r Kp)
    | false=>(condsR false fin (T.drop c.2.2.2.1) c.2.2.2.2).to (fun l w n=>PK T i (fun j m=>s.setO r (psO T fin d first j m)) Rul.enc KV { c.1.1 with cond:=l } w n) (PB s r Kp)))
  (fun c=>T.length-c.2.2.2.1) ((⟨x1,[],[],[],[],t.line,t.col⟩,none,none,none),0,true,i+1+1,n) ?_ ?_ ?_ ?_
 ·refine ⟨⟨⟨?_,?_,?_⟩,h5,hb5.1.2,Nat.zero_le _,Nat.zero_le _,Nat.zero_le _⟩,Nat.zero_le _,Nat.le_refl _,hlt2,hn,_,Nat.lt_succ_self _,hk2⟩
  ·intro o ho u hu;simp only[rulL,gC5,List.not_mem_nil,or_false] at ho;rcases ho with rfl|rfl|rfl<;>cases hu
  ·intro o ho _;simp only[rulL,gC5,List.not_mem_nil,or_false] at ho;rcases ho with rfl|rfl|rfl<;>rfl
  ·intro i j a b u hi hj ha hb;have:=List.mem_of_getElem? hi;simp only[rulL,gC5,List.not_mem_nil,or_false] at this;rcases this with rfl|rfl|rfl<;>cases ha
 ·simp only[go_sem,hb3,e3,hb4,e4,hb5,e5];rfl
 ·show St.ge _ ((s2.setO b5 _).setO r _);subst hs2;exact (by (refine gel_ge ?_;repeat (first|exact gel_refl _ _ _|refine gel_gs_gs ?_|refine gel_to_gs gs_self ?_|refine gB1 ?_|refine gB2 ?_|refine gel_set (by simp only[gA1,gA2,gA3,gA6,ne_eq,gA9,reduceIte,hb3,e3,hb4,e4,hb5,e5]<;>(first|done|rfl|assumption)) ?_|refine gB3 ?_|refine gel_new (by first|simp only[hb3,hb4,hb5]|assumption) ?_)))
 ·rintro ⟨⟨x,tp,tn,td⟩,cnt,more,i2,n2⟩ ⟨hQ,hcnt,hi1,hi2,hn2,hk3⟩;simp only at hQ hcnt hi1 hi2 hn2 hk3;have hQ0:=hQ;obtain ⟨hown,hb,hne,l1,l2,l3⟩:=hQ;have hfr:=hown.free;have n45:=hb5.2.1.1;have n54:=hb5.2.1.2;refine wpC_ok (V:=[0,1,3,4,5,6,7,8,19,42]) _ _ _ _ ?_;cases more with
  | false =>
   simp only at hk3;unfold rulS rulO;simp only[go_sem,gA5,hne,hne.symm,h24,e4,n45,n54];refine conds_den (T:=T) (fin:=fin) (d:=d) (first:=first) (i:=i2) (n:=n2) hT (by simp only[gA1,gA2,gA3,gA6,ne_eq,gA9,reduceIte,gA5,hne,hne.symm,h24,e4,n45,n54]<;>(first|done|rfl|assumption)) hi2 hn2 (Rd.to_mono hk3 (fun l w m hk4 j hj hjT hw hm=>?_) (fun f h=>PBk _ _ (by (repeat (first|refine gsl_gx hfr ?_|exact gA8 _ _|refine St.gx_r ?_|refine gA7 (by first|simp only[hb,hb3,hb4,hb5]|assumption) ?_|refine St.gx_T (by first|simp only[hb,hb3,hb4,hb5]|assumption) ?_))) h));simp only[go_sem,gA5,hne,hne.symm,h24,e4,n45,n54];refine ⟨by cases tp<;>cases tn<;>cases td<;>rfl,?_⟩;refine DK.mk (hk4 j (by omega) hjT hw hm) (gsl_weak (by (refine gel_ge ?_;repeat (first|exact gel_refl _ _ _|exact gel_of_ge hs2g _ _|refine gsl_gel hfr ?_|refine gel_gs_gs ?_|refine gel_to_gs gs_self ?_|refine gB1 ?_|refine gB2 ?_|refine gel_set (by simp only[gA1,gA2,gA3,gA6,ne_eq,gA9,reduceIte,gA5,hne,hne.symm,h24,e4,n45,n54]<;>(first|done|rfl|assumption)) ?_|refine gB3 ?_|refine gel_new (by first|simp only[hb,hb3,hb4,hb5]|assumption) ?_))) (fun o ho u hu=>by have:=hfr o ho u hu;subst hs2;exact this)) ?_;simp only[Rul.enc,Rul.cs];have z1:tp=none→x.parts=[]:=fun e=>List.eq_nil_of_length_eq_zero (hown.nil (tp,x.parts.length,86) (by simp[rulL]) e)
   have z2:tn=none→x.new=[]:=fun e=>List.eq_nil_of_length_eq_zero (hown.nil (tn,x.new.length,141) (by simp[rulL]) e)
   have z3:td=none→x.drop=[]:=fun e=>List.eq_nil_of_length_eq_zero (hown.nil (td,x.drop.length,9) (by simp[rulL]) e)
   exact A.le.agg ⟨⟨A.le.refl _,rfl⟩,⟨gv_leL tp (fun e=>by rw[z1 e];rfl) (Part.encN_le _),rfl⟩,⟨A.le.refl _,rfl⟩,⟨gv_le tn _ (fun e=>by rw[z2 e];rfl),rfl⟩,⟨gv_le td _ (fun e=>by rw[z3 e];rfl),rfl⟩,⟨A.le.refl _,rfl⟩,⟨A.le.refl _,rfl⟩,trivial⟩
  | true =>
   obtain ⟨k,hk3,hk4⟩:=hk3;obtain ⟨k,rfl⟩:∃ k',k=k'+1:=⟨k-1,by omega⟩
   rw[loopR,Rd.bind_to] at hk4;simp only[go_sem,gA5,hne,hne.symm,h24,e4,n45,n54];refine peek_den (T:=T) (fin:=fin) (d:=d) (first:=first) (i:=i2) (n:=n2) (by unfold rulS;rw[gA5,gA1,if_pos rfl]) hi2 ?_;cases hw:T.drop i2 with
   | nil =>
    rw[hw] at hk4;exact hk4.at (hg2 (rulS T fin d first b5 r s2 x tp tn td i2 n2) (by unfold rulS;exact (by (repeat (first|refine gsl_gx hfr ?_|exact gA8 _ _|refine St.gx_r ?_|refine gA7 (by first|simp only[hb,hb3,hb4,hb5]|assumption) ?_|refine St.gx_T (by first|simp only[hb,hb3,hb4,hb5]|assumption) ?_))))) (o:=psO T fin d first i2 n2) (by unfold rulS;rw[gA5,gA1,if_pos rfl])
   | cons t2 w =>
    obtain ⟨g1,g2,g3,g4⟩:=drop_get hw;rw[hw] at hk4;simp only[partsR] at hk4;simp only[go_sem,gA5,hne,hne.symm,h24,e4,n45,n54];intro b8 hb8
    have hpart:((t2.kind=1∧(¬ t2.text∈reservedW∨t2.text=[110,101,119]∨t2.text=[100,114,111,112]))→¬ 20≤cnt)→(partR false fin x (T.drop i2) n2).to (fun x' w n=>(if isT [59] w=true then loopR fin [59] (partsR false fin) k (x',cnt+1) w.tail n else Rd.ok (x',cnt+1) w n).to
      (fun a w n=>(condsR false fin w n).to (fun l w n=>PK T i (fun j m=>s.setO r (psO T fin d first j m)) Rul.enc KV { a.1 with cond:=l } w n) (PB s r Kp)) (PB s r Kp)) (PB s r Kp):=fun h=>by
     rw[hw];rw[if_neg (fun hc=>h hc.1 hc.2),Rd.bind_to] at hk4;exact hk4
    simp only[go_sem,gA5,hne,hne.symm,h24,e4,n45,n54];cases c1:decide (t2.kind=1)
    ·have hk5:=hpart (fun hc=>by have:=hc.1;simp[this] at c1);simp only[go_sem,gA5,hne,hne.symm,h24,e4,n45,n54,c1];refine Den.weaken (St.ge_new hb8) ?_;refine part_den hT b5 x tp tn td hQ0 hi2 hn2 (Rd.to_mono hk5 (fun x' w1 m1 hk6 j tp' tn' td' hj hjT hw1 hm1 hQ'=>?_) (fun f h s1 o hg hr1=>h.at (hg2 _ hg) hr1));subst hw1;simp only[go_sem,gA5,hne,hne.symm,h24,e4,n45,n54,wrap1 cnt (by omega)];refine take_den (T:=T) (fin:=fin) (d:=d) (first:=first) (i:=j) (n:=m1) _ (by unfold rulS;rw[gA5,gA1,if_pos rfl]) hjT hT ?_;cases c9:isT [59] (T.drop j) with
     | true =>
      rw[if_pos c9,List.tail_drop] at hk6;have hlt9:=isT_lt c9;simp only[go_sem,gA5,hne,hne.symm,h24,e4,n45,n54];refine ⟨((x',tp',tn',td'),cnt+1,true,j+1,m1),⟨⟨hQ'.own,hQ'.hb,hQ'.ne,by have:=hQ'.l1;simp only;omega,by have:=hQ'.l2;simp only;omega,by have:=hQ'.l3;simp only;omega⟩,by simp only;omega,by simp only;omega,hlt9,hm1,k,by simp only;omega,hk6⟩,by simp only;omega,?_⟩;refine ⟨⟨rfl,rfl⟩,?_⟩;unfold rulS;rw[gsl_setO,setO_setO];exact St.ge.refl _
     | false =>
      rw[if_neg (by simp[c9]),Rd.ok_to] at hk6;simp only[go_sem,gA5,hne,hne.symm,h24,e4,n45,n54];refine ⟨((x',tp',tn',td'),cnt+1,false,j,m1),⟨hQ',by simp only;omega,by simp only;omega,hjT,hm1,hk6⟩,by simp only;omega,?_⟩;exact ⟨⟨rfl,rfl⟩,St.ge.refl _⟩
    simp only[go_sem,gA5,hne,hne.symm,h24,e4,n45,n54,c1];refine isReserved145_den _ _ _ _ ?_;simp only[go_sem,gA5,hne,hne.symm,h24,e4,n45,n54];cases c2:decide (t2.text∈reservedW)
    ·simp only[go_sem,gA5,hne,hne.symm,h24,e4,n45,n54,c2];refine Den.weaken (St.ge_new hb8) ?_;refine room_den (T:=T) (fin:=fin) (d:=d) (first:=first) (i:=i2) (n:=n2) _ _ (by unfold rulS;rw[gA5,gA1,if_pos rfl]) hi2 ?_;by_cases h20:20≤cnt
     ·rw[if_pos ⟨⟨by simpa using c1,.inl (by simpa using c2)⟩,h20⟩,Rd.bad_to] at hk4;rw[if_pos (by omega),hw];exact PBk _ _ (by unfold rulS;exact (by (repeat (first|refine gsl_gx hfr ?_|exact gA8 _ _|refine St.gx_r ?_|refine gA7 (by first|simp only[hb,hb3,hb4,hb5]|assumption) ?_|refine St.gx_T (by first|simp only[hb,hb3,hb4,hb5]|assumption) ?_)))) hk4
     rw[if_neg (by omega)];have hk5:=hpart (fun _=>h20);simp only[go_sem,gA5,hne,hne.symm,h24,e4,n45,n54];refine part_den hT b5 x tp tn td hQ0 hi2 hn2 (Rd.to_mono hk5 (fun x' w1 m1 hk6 j tp' tn' td' hj hjT hw1 hm1 hQ'=>?_) (fun f h s1 o hg hr1=>h.at (hg2 _ hg) hr1));subst hw1;simp only[go_sem,gA5,hne,hne.symm,h24,e4,n45,n54,wrap1 cnt (by omega)];refine take_den (T:=T) (fin:=fin) (d:=d) (first:=first) (i:=j) (n:=m1) _ (by unfold rulS;rw[gA5,gA1,if_pos rfl]) hjT hT ?_;cases c9:isT [59] (T.drop j) with
     | true =>
      rw[if_pos c9,List.tail_drop] at hk6;have hlt9:=isT_lt c9;simp only[go_sem,gA5,hne,hne.symm,h24,e4,n45,n54];refine ⟨((x',tp',tn',td'),cnt+1,true,j+1,m1),⟨⟨hQ'.own,hQ'.hb,hQ'.ne,by have:=hQ'.l1;simp only;omega,by have:=hQ'.l2;simp only;omega,by have:=hQ'.l3;simp only;omega⟩,by simp only;omega,by simp only;omega,hlt9,hm1,k,by simp only;omega,hk6⟩,by simp only;omega,?_⟩;refine ⟨⟨rfl,rfl⟩,?_⟩;unfold rulS;rw[gsl_setO,setO_setO];exact St.ge.refl _
     | false =>
      rw[if_neg (by simp[c9]),Rd.ok_to] at hk6;simp only[go_sem,gA5,hne,hne.symm,h24,e4,n45,n54];refine ⟨((x',tp',tn',td'),cnt+1,false,j,m1),⟨hQ',by simp only;omega,by simp only;omega,hjT,hm1,hk6⟩,by simp only;omega,?_⟩;exact ⟨⟨rfl,rfl⟩,St.ge.refl _⟩
    simp only[go_sem,gA5,hne,hne.symm,h24,e4,n45,n54,c2];cases c3:decide (t2.text=[110,101,119]);rotate_left
    ·simp only[go_sem,gA5,hne,hne.symm,h24,e4,n45,n54,c3];refine Den.weaken (St.ge_new hb8) ?_;refine room_den (T:=T) (fin:=fin) (d:=d) (first:=first) (i:=i2) (n:=n2) _ _ (by unfold rulS;rw[gA5,gA1,if_pos rfl]) hi2 ?_;by_cases h20:20≤cnt
     ·rw[if_pos ⟨⟨by simpa using c1,.inr (.inl (by simpa using c3))⟩,h20⟩,Rd.bad_to] at hk4;rw[if_pos (by omega),hw];exact PBk _ _ (by unfold rulS;exact (by (repeat (first|refine gsl_gx hfr ?_|exact gA8 _ _|refine St.gx_r ?_|refine gA7 (by first|simp only[hb,hb3,hb4,hb5]|assumption) ?_|refine St.gx_T (by first|simp only[hb,hb3,hb4,hb5]|assumption) ?_)))) hk4
     rw[if_neg (by omega)];have hk5:=hpart (fun _=>h20);simp only[go_sem,gA5,hne,hne.symm,h24,e4,n45,n54];refine part_den hT b5 x tp tn td hQ0 hi2 hn2 (Rd.to_mono hk5 (fun x' w1 m1 hk6 j tp' tn' td' hj hjT hw1 hm1 hQ'=>?_) (fun f h s1 o hg hr1=>h.at (hg2 _ hg) hr1));subst hw1;simp only[go_sem,gA5,hne,hne.symm,h24,e4,n45,n54,wrap1 cnt (by omega)];refine take_den (T:=T) (fin:=fin) (d:=d) (first:=first) (i:=j) (n:=m1) _ (by unfold rulS;rw[gA5,gA1,if_pos rfl]) hjT hT ?_;cases c9:isT [59] (T.drop j) with
     | true =>
      rw[if_pos c9,List.tail_drop] at hk6;have hlt9:=isT_lt c9;simp only[go_sem,gA5,hne,hne.symm,h24,e4,n45,n54];refine ⟨((x',tp',tn',td'),cnt+1,true,j+1,m1),⟨⟨hQ'.own,hQ'.hb,hQ'.ne,by have:=hQ'.l1;simp only;omega,by have:=hQ'.l2;simp only;omega,by have:=hQ'.l3;simp only;omega⟩,by simp only;omega,by simp only;omega,hlt9,hm1,k,by simp only;omega,hk6⟩,by simp only;omega,?_⟩;refine ⟨⟨rfl,rfl⟩,?_⟩;unfold rulS;rw[gsl_setO,setO_setO];exact St.ge.refl _
     | false =>
      rw[if_neg (by simp[c9]),Rd.ok_to] at hk6;simp only[go_sem,gA5,hne,hne.symm,h24,e4,n45,n54];refine ⟨((x',tp',tn',td'),cnt+1,false,j,m1),⟨hQ',by simp only;omega,by simp only;omega,hjT,hm1,hk6⟩,by simp only;omega,?_⟩;exact ⟨⟨rfl,rfl⟩,St.ge.refl _⟩
    simp only[go_sem,gA5,hne,hne.symm,h24,e4,n45,n54,c3];cases c4:decide (t2.text=[100,114,111,112]);rotate_left
    ·simp only[go_sem,gA5,hne,hne.symm,h24,e4,n45,n54,c4];refine Den.weaken (St.ge_new hb8) ?_;refine room_den (T:=T) (fin:=fin) (d:=d) (first:=first) (i:=i2) (n:=n2) _ _ (by unfold rulS;rw[gA5,gA1,if_pos rfl]) hi2 ?_;by_cases h20:20≤cnt
     ·rw[if_pos ⟨⟨by simpa using c1,.inr (.inr (by simpa using c4))⟩,h20⟩,Rd.bad_to] at hk4;rw[if_pos (by omega),hw];exact PBk _ _ (by unfold rulS;exact (by (repeat (first|refine gsl_gx hfr ?_|exact gA8 _ _|refine St.gx_r ?_|refine gA7 (by first|simp only[hb,hb3,hb4,hb5]|assumption) ?_|refine St.gx_T (by first|simp only[hb,hb3,hb4,hb5]|assumption) ?_)))) hk4
     rw[if_neg (by omega)];have hk5:=hpart (fun _=>h20);simp only[go_sem,gA5,hne,hne.symm,h24,e4,n45,n54];refine part_den hT b5 x tp tn td hQ0 hi2 hn2 (Rd.to_mono hk5 (fun x' w1 m1 hk6 j tp' tn' td' hj hjT hw1 hm1 hQ'=>?_) (fun f h s1 o hg hr1=>h.at (hg2 _ hg) hr1));subst hw1;simp only[go_sem,gA5,hne,hne.symm,h24,e4,n45,n54,wrap1 cnt (by omega)];refine take_den (T:=T) (fin:=fin) (d:=d) (first:=first) (i:=j) (n:=m1) _ (by unfold rulS;rw[gA5,gA1,if_pos rfl]) hjT hT ?_;cases c9:isT [59] (T.drop j) with
     | true =>
      rw[if_pos c9,List.tail_drop] at hk6;have hlt9:=isT_lt c9;simp only[go_sem,gA5,hne,hne.symm,h24,e4,n45,n54];refine ⟨((x',tp',tn',td'),cnt+1,true,j+1,m1),⟨⟨hQ'.own,hQ'.hb,hQ'.ne,by have:=hQ'.l1;simp only;omega,by have:=hQ'.l2;simp only;omega,by have:=hQ'.l3;simp only;omega⟩,by simp only;omega,by simp only;omega,hlt9,hm1,k,by simp only;omega,hk6⟩,by simp only;omega,?_⟩;refine ⟨⟨rfl,rfl⟩,?_⟩;unfold rulS;rw[gsl_setO,setO_setO];exact St.ge.refl _
     | false =>
      rw[if_neg (by simp[c9]),Rd.ok_to] at hk6;simp only[go_sem,gA5,hne,hne.symm,h24,e4,n45,n54];refine ⟨((x',tp',tn',td'),cnt+1,false,j,m1),⟨hQ',by simp only;omega,by simp only;omega,hjT,hm1,hk6⟩,by simp only;omega,?_⟩;exact ⟨⟨rfl,rfl⟩,St.ge.refl _⟩
    simp only[go_sem,gA5,hne,hne.symm,h24,e4,n45,n54,c4];have hk5:=hpart (fun hc=>by have h1:=hc.2;simp at c2 c3 c4;rcases h1 with h1|h1|h1;exact (h1 c2).elim;exact (c3 h1).elim;exact (c4 h1).elim);refine Den.weaken (St.ge_new hb8) ?_;refine part_den hT b5 x tp tn td hQ0 hi2 hn2 (Rd.to_mono hk5 (fun x' w1 m1 hk6 j tp' tn' td' hj hjT hw1 hm1 hQ'=>?_) (fun f h s1 o hg hr1=>h.at (hg2 _ hg) hr1));subst hw1;simp only[go_sem,gA5,hne,hne.symm,h24,e4,n45,n54,wrap1 cnt (by omega)];refine take_den (T:=T) (fin:=fin) (d:=d) (first:=first) (i:=j) (n:=m1) _ (by unfold rulS;rw[gA5,gA1,if_pos rfl]) hjT hT ?_;cases c9:isT [59] (T.drop j) with
    | true =>
     rw[if_pos c9,List.tail_drop] at hk6;have hlt9:=isT_lt c9;simp only[go_sem,gA5,hne,hne.symm,h24,e4,n45,n54];refine ⟨((x',tp',tn',td'),cnt+1,true,j+1,m1),⟨⟨hQ'.own,hQ'.hb,hQ'.ne,by have:=hQ'.l1;simp only;omega,by have:=hQ'.l2;simp only;omega,by have:=hQ'.l3;simp only;omega⟩,by simp only;omega,by simp only;omega,hlt9,hm1,k,by simp only;omega,hk6⟩,by simp only;omega,?_⟩;refine ⟨⟨rfl,rfl⟩,?_⟩;unfold rulS;rw[gsl_setO,setO_setO];exact St.ge.refl _
    | false =>
     rw[if_neg (by simp[c9]),Rd.ok_to] at hk6;simp only[go_sem,gA5,hne,hne.symm,h24,e4,n45,n54];refine ⟨((x',tp',tn',td'),cnt+1,false,j,m1),⟨hQ',by simp only;omega,by simp only;omega,hjT,hm1,hk6⟩,by simp only;omega,?_⟩;exact ⟨⟨rfl,rfl⟩,St.ge.refl _⟩
end
end Go.AV
end
