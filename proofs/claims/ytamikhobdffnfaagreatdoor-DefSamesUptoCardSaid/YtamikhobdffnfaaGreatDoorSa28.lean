/-
  Part of the proof of DefSames.
-/
import Derived.Test.YtamikhobdffnfaaGreatDoorSa27
import Derived.Test.YtamikhobdffnfaaGreatDoorSa22
import Derived.Test.YtamikhobdffnfaaGreatDoorSa17
import Derived.Test.YtamikhobdffnfaaGreatDoorSa16
import Derived.KernelRfl
set_option linter.all false
set_option maxRecDepth 1000000
set_option maxHeartbeats 40000000
section
namespace Go.AV
open Go Go.Proofs
section
variable {C:Cx} {n:Nat} {h b:Nat} {R:Env→St→Prop} {Q:Option Nat→XK→Env→St→Prop} {e:Env} {s:St} {rs:List ResultVar} {KV Kp:St→A→Prop} {x:XK} {v:A}
@[go_sem] theorem seqD_normal:seqD R Q .normal e s=R e s:=rfl
@[go_sem] theorem seqD_ret:seqD R Q .ret e s=Q none .ret e s:=rfl
@[go_sem] theorem seqD_panic:seqD R Q (.panic v) e s=Q none (.panic v) e s:=rfl
@[go_sem] theorem retD_none:retD C rs KV Kp none x e s=retK C rs KV Kp x e s:=rfl
@[go_sem] theorem retD_normal:retD C rs KV Kp (some b) .normal e s=retK C rs KV Kp .normal e s:=rfl
@[go_sem] theorem retD_ret:retD C rs KV Kp (some b) .ret e s=retK C rs KV Kp .ret e s:=rfl
@[go_sem] theorem retD_panic:retD C rs KV Kp (some b) (.panic v) e s=∃ fs cs,v=.iface 36 (.agg fs)∧s.getO b=some (.cells 36 cs)∧fs.length=cs.length∧fs.length=4∧retK C rs KV Kp .ret e (s.setO b (.cells 36 fs)):=rfl
end
theorem ent40C (k:Nat) (w:World):(invoke (.fn (.func 40) #[]) #[.pointer (some ⟨k,0,none⟩)]).run cx.P w=.ok (.enter 40 #[.pointer (some ⟨k,0,none⟩)]) w:=ent40 k w
def noOwn:DOwn:=⟨none,none,none,none,none,none,none,none,none⟩
def noTok:Tok:=⟨0,[],0,0,0⟩
theorem dcN_le (d:Dfn) (o:DOwn) {s:St} (h:OwnOk s (dOwn d o)):A.le (.agg (dcN d o).cs) d.enc:=by
 have z:∀ k (a:Own),(dOwn d o)[k]?=some a→a.1=none→a.2.1=0:=fun k a hk=>h.nil a (List.mem_of_getElem? hk)
 have g:∀ {α:Type} (tk:Option Nat) (f:α→A) (l:List α) (k:Nat) (e:TypeId),(dOwn d o)[k]?=some (tk,l.length,e)→A.le (gv tk (l.map f)) (.list none (l.map f)):=fun tk f l k e hk =>
  gv_le tk _ (fun hn=>by rw[List.eq_nil_of_length_eq_zero (z k _ hk hn)];rfl)
 exact A.le.agg ⟨⟨A.le.refl _,rfl⟩,⟨g o.so _ _ 0 9 rfl,rfl⟩,⟨g o.be _ _ 1 104 rfl,rfl⟩,⟨g o.op _ _ 2 73 rfl,rfl⟩,⟨g o.fu _ _ 3 73 rfl,rfl⟩,⟨g o.va _ _ 4 9 rfl,rfl⟩,⟨g o.eq _ _ 5 80 rfl,rfl⟩,⟨g o.on _ _ 6 68 rfl,rfl⟩,⟨A.le.refl _,rfl⟩,⟨g o.ma _ _ 7 68 rfl,rfl⟩,⟨g o.ru _ _ 8 84 rfl,rfl⟩,⟨A.le.refl _,rfl⟩,⟨A.le.refl _,rfl⟩,trivial⟩
theorem noDfn_own {s:St}:OwnOk s (dOwn noDfn noOwn):=by
 refine ⟨fun o ho u hu=>?_,fun o ho _=>?_,fun i j a b u hi hj ha hb=>?_⟩
 ·simp only[dOwn,gC5,List.not_mem_nil,or_false] at ho;rcases ho with rfl|rfl|rfl|rfl|rfl|rfl|rfl|rfl|rfl<;>cases hu
 ·simp only[dOwn,gC5,List.not_mem_nil,or_false] at ho;rcases ho with rfl|rfl|rfl|rfl|rfl|rfl|rfl|rfl|rfl<;>rfl
 ·have:=List.mem_of_getElem? hi;simp only[dOwn,gC5,List.not_mem_nil,or_false] at this;rcases this with rfl|rfl|rfl|rfl|rfl|rfl|rfl|rfl|rfl<;>cases ha
section
variable {T:List Tok} {fin:Fault} {s:St} {r:Nat} {KV Kp:St→A→Prop}
def DfnK (KV:St→A→Prop) (s:St) (r:Nat):Rd Dfn→Prop
 | .ok d _ _=>∀ o,KV (s.setO r o) (.tuple [d.enc,Fault.none.enc])
 | .bad f=>∀ o,KV (s.setO r o) (.tuple [noDfn.enc,f.enc])
theorem def_den (hT:TOk T) (hr:s.getO r=some (psO T fin (dcN noDfn noOwn) noTok 0 0)) (hk:DfnK KV s r (defR false fin T)):Den cx 38 [.ptr r 0] KV Kp s:=by
 have hlenT:=hT.len;refine Den.drop ?_;refine Den.of_defer catchC_ok ent40C Tryz.func38 rfl rfl (gC6 rfl) ?_;refine ExD.seq ?_;refine wpC_ok (V:=[0,2,3,25]) _ _ _ _ ?_;simp only[go_sem,Tryz.ntmps38,Tryz.f38];(intro b2 hb2;try simp only[gD6,gA6,ne_eq] at hb2);have e2:=St.ne_of hr (by first|exact hb2|exact hb2.2|exact hb2.2.2|exact hb2.2.2.2|exact hb2.2.2.2.2|exact hb2.2.2.2.2.2|exact hb2.2.2.2.2.2.2);simp only[go_sem,Tryz.ntmps38,Tryz.f38,hb2,e2];(intro b3 hb3;try simp only[gD6,gA6,ne_eq] at hb3);have e3:=St.ne_of hr (by first|exact hb3|exact hb3.2|exact hb3.2.2|exact hb3.2.2.2|exact hb3.2.2.2.2|exact hb3.2.2.2.2.2|exact hb3.2.2.2.2.2.2);simp only[go_sem,Tryz.ntmps38,Tryz.f38,hb2,e2,hb3,e3];refine ExD.defer (by rfl) (b:=b3) (by simp only[go_sem,Tryz.ntmps38,Tryz.f38,hb2,e2,hb3,e3]) ?_;refine wpC_ok (V:=[0,2,3,25]) _ _ _ _ ?_;simp only[go_sem,Tryz.ntmps38,Tryz.f38,hb2,e2,hb3,e3];generalize hs2:(s.setO b2 (Ob.cells 33 [.str [],.nils,.nils,.nils,.nils,.nils,.nils,.nils,.str [],.nils,.nils,.str [],.str []])).setO b3 (Ob.cells 36 [.int .i64 0,.str [],.int .i64 0,.int .i64 0])=s2;have hr2:s2.getO r=some (psO T fin (dcN noDfn noOwn) noTok 0 0):=by subst hs2;exact (by simp only[gA1,gA2,gA3,gA6,ne_eq,gA9,reduceIte,Tryz.ntmps38,Tryz.f38,hb2,e2,hb3,e3,hr]<;>(first|done|rfl|assumption))
 have h22:s2.getO b2=some (Ob.cells 33 [.str [],.nils,.nils,.nils,.nils,.nils,.nils,.nils,.str [],.nils,.nils,.str [],.str []]):=by subst hs2;exact (by simp only[gA1,gA2,gA3,gA6,ne_eq,gA9,reduceIte,Tryz.ntmps38,Tryz.f38,hb2,e2,hb3,e3]<;>(first|done|rfl|assumption))
 have h23:s2.getO b3=some (Ob.cells 36 [.int .i64 0,.str [],.int .i64 0,.int .i64 0]):=by subst hs2;exact (by simp only[gA1,gA2,gA3,gA6,ne_eq,gA9,reduceIte,Tryz.ntmps38,Tryz.f38,hb2,e2,hb3,e3]<;>(first|done|rfl|assumption))
 have hs2g:∀ s1:St,s1.gx s2 r→s1.gx s r:=fun s1 h=>h.trans (by subst hs2;exact (by (repeat (first|exact gA8 _ _|refine St.gx_r ?_|refine gA7 (by first|simp only[hb2,hb3]|assumption) ?_|refine St.gx_T (by first|simp only[hb2,hb3]|assumption) ?_))))
 have bad:∀ (f:Fault) (s1:St) (o:Ob) (e:Env),e.get 2=some (.ptr b2 0)→e.get 3=some (.ptr b3 0)→(∀ o,KV (s.setO r o) (.tuple [noDfn.enc,f.enc]))→s1.gx s2 r→s1.getO r=some o →
   retD cx [ResultVar.cell 2 33,ResultVar.cell 3 36] (DK KV) (DK Kp) (some b3) (.panic (.iface 36 f.enc)) e s1:=by
  intro f s1 o e g2 g3 hb hg ho;have q2:=hg.ob b2 e2.2 _ h22;have q3:=hg.ob b3 e3.2 _ h23;simp only[go_sem,Tryz.ntmps38,Tryz.f38,hb2,e2,hb3,e3,q2,q3];refine ⟨f.cs,_,rfl,rfl,rfl,rfl,?_⟩;simp only[go_sem,Tryz.ntmps38,Tryz.f38,hb2,e2,hb3,e3,q2,q3,g2,g3];have hbo:=hb o;simp only[go_sem] at hbo;exact DK.mk hbo (St.gx.ge (gA7 hb3.2 (hs2g _ hg)) (by rw[gA1,if_neg e3.2];exact ho)) (A.le.tuple ⟨dcN_le noDfn noOwn (s:=s) noDfn_own,A.le.refl _,trivial⟩)
 have hk2:(defR false fin T).to (fun d _ _=>∀ o,KV (s.setO r o) (.tuple [d.enc,Fault.none.enc])) (fun f=>∀ o,KV (s.setO r o) (.tuple [noDfn.enc,f.enc])):=by
  revert hk;unfold DfnK;cases defR false fin T<;>exact id
 simp only[defR,Rd.bind_to] at hk2;have hT0:T=T.drop 0:=rfl;rw[hT0] at hk2;refine want_den (d:=dcN noDfn noOwn) (T:=T) (fin:=fin) (first:=noTok) (i:=0) (n:=0) _ hr2 (Nat.zero_le _) hT (Rd.to_mono hk2 (fun _ w1 m1 hk3 hlt1 hw1 hm1=>?_) (fun f h o=>?_));rotate_left
 ·exact bad f _ o _ rfl rfl h (St.gx_r (gA8 _ _)) (by rw[gA1,if_pos rfl])
 subst m1;rw[← hw1] at hk3;simp only[go_sem];refine name_den (d:=dcN noDfn noOwn) (T:=T) (fin:=fin) (first:=noTok) (i:=0+1) (n:=0) (by rw[gA1,if_pos rfl];rfl) hlt1 hT (Rd.to_mono hk3 (fun x w2 m2 hk4 hlt2 hw2 hm2=>?_) (fun f h o=>?_));rotate_left
 ·exact bad f _ o _ rfl rfl h (St.gx_r (St.gx_r (gA8 _ _))) (by rw[gA1,if_pos rfl])
 subst m2;rw[← hw2] at hk4;simp only[go_sem,e2,e3,h22,h23];refine want_den (d:={ dcN noDfn noOwn with name:=x }) (T:=T) (fin:=fin) (first:=noTok) (i:=0+1+1) (n:=0) _ (by rw[gA1,if_pos rfl];rfl) hlt2 hT (Rd.to_mono hk4 (fun _ w3 m3 hk5 hlt3 hw3 hm3=>?_) (fun f h o=>?_));rotate_left
 ·exact bad f _ o _ rfl rfl h (St.gx_r (St.gx_r (gA8 _ _))) (by rw[gA1,if_pos rfl])
 subst m3;rw[← hw3] at hk5;simp only[go_sem,e2,e3,h22,h23];rw[show (T.drop (0+1+1+1)).length=T.length-(0+1+1+1) by rw[gD4]] at hk5
 refine Ex.loop (ι:=(Dfn × DOwn) × Nat × Nat × Nat) (fun c=>[(0,.ptr r 0),(2,.ptr b2 0),(3,.ptr b3 0)]) (fun c=>itS T fin noTok r s2 c.1.1 c.1.2 c.2.1 c.2.2.1)
  (fun c=>ItQ s2 c.1.1 c.1.2 c.2.1∧c.2.1≤T.length∧c.2.2.1≤2000∧T.length-c.2.1<c.2.2.2∧(itemsR false fin c.2.2.2 c.1.1 (T.drop c.2.1) c.2.2.1).to (fun d _ _=>∀ o,KV (s.setO r o) (.tuple [d.enc,Fault.none.enc])) (fun f=>∀ o,KV (s.setO r o) (.tuple [noDfn.enc,f.enc])))
  (fun c=>T.length-c.2.1) (({ noDfn with name:=x },noOwn),0+1+1+1,0,T.length-(0+1+1+1)+1) ?_ ?_ ?_ ?_
 ·refine ⟨⟨noDfn_own,fun a ha=>?_⟩,hlt3,Nat.zero_le _,Nat.lt_succ_self _,hk5⟩;simp only[dOwn,gC5,List.not_mem_nil,or_false] at ha;rcases ha with rfl|rfl|rfl|rfl|rfl|rfl|rfl|rfl|rfl<;>exact Nat.zero_le _
 ·simp only[go_sem,e2,e3,h22,h23]
 ·show St.ge _ (s2.setO r _);exact (by (refine gel_ge ?_;repeat (first|exact gel_refl _ _ _|refine gel_gs_gs ?_|refine gel_to_gs gs_self ?_|refine gB1 ?_|refine gB2 ?_|refine gel_set (by simp only[gA1,gA2,gA3,gA6,ne_eq,gA9,reduceIte,e2,e3,h22,h23]<;>(first|done|rfl|assumption)) ?_|refine gB3 ?_|refine gel_new (by first|simp only[hb2,hb3]|assumption) ?_)))
 ·rintro ⟨⟨d,o⟩,i,n,k⟩ ⟨hQ,hi,hn,hik,hk6⟩;simp only at hQ hi hn hik hk6;obtain ⟨k,rfl⟩:∃ k',k=k'+1:=⟨k-1,by omega⟩
  have hown:=hQ.own;have hfr:=hown.free;refine wpC_ok (V:=[0,2,3,25]) _ _ _ _ ?_;unfold itS;have n23:=hb3.1;simp only[go_sem,e2,e3,h22,h23,gA5,n23];(refine draw_ok (V:=[0,2,3,25]) (OT.l [0,1,2,3,4,5,6,7,8,9] .nil) [] mixed_cx (by decide +kernel) ?_;simp only[go_sem,e2,e3,h22,h23,gA5,n23]);cases hc:decide (i<T.length) with
  | true =>
   have hlt:i<T.length:=by simpa using hc
   have hne:T.drop i≠[]:=by intro e;have:=congrArg List.length e;rw[gD4,gC3] at this;omega
   obtain ⟨t,w,hw⟩:∃ t w,T.drop i=t::w:=by
    cases hq:T.drop i with
    | nil=>exact absurd hq hne
    | cons t w=>exact ⟨t,w,rfl⟩
   rw[hw,itemsR,Rd.bind_to,← hw] at hk6;simp only[go_sem,e2,e3,h22,h23,gA5,n23];refine item_den hT hi hQ hn (Rd.to_mono hk6 (fun d' w' n' hk7 j o' hj hjT hw' hn' hQ'=>?_) (fun f h s1 x hg hr1=>?_))
   ·subst hw';simp only[go_sem,e2,e3,h22,h23,gA5,n23];exact ⟨((d',o'),j,n',k),⟨hQ',hjT,hn',by simp only;omega,hk7⟩,by simp only;omega,St.ge.refl _⟩
   ·exact bad f _ _ _ rfl rfl h hg hr1
  | false =>
   have hge:¬ i<T.length:=by simpa using hc
   rw[List.drop_eq_nil_of_le (by omega),itemsR,Rd.ok_to] at hk6;simp only[go_sem,e2,e3,h22,h23,gA5,n23];(refine draw_ok (V:=[0,2,3,25]) (OT.l [0,1,2,3,4,5,6] .nil) [(5,[4])] mixed_cx (by decide +kernel) ?_;simp only[go_sem,e2,e3,h22,h23,gA5,n23]);have hone:(A.one (gv o.so (d.sig.sorts.map .str))&&(A.one (gv o.be (d.sig.below.map Below.enc))&&(A.one (gv o.op (d.sig.ops.map Opr.enc))&&(A.one (gv o.fu (d.sig.funs.map Opr.enc))&&(A.one (gv o.va (d.sig.values.map .str))&&(A.one (gv o.eq (d.eqs.map Eqn.enc))&&(A.one (gv o.on (d.once.map Cel.enc))&&(A.one (gv o.ma (d.many.map Cel.enc))&&A.one (gv o.ru (d.rules.map Rul.enc))))))))))=true:=by simp only[gv_one,Bool.and_true]
   refine ⟨hone,?_⟩;have hk7:=hk6 (psO T fin (dcN d o) noTok i n);have hle:=dcN_le d o hown;simp only[go_sem] at hk7;simp only[go_sem] at hle;refine DK.mk hk7 (gsl_weak (gel_ge (gel_set (by simp only[gA1,e2,e3,if_false,if_true]<;>rfl) (gel_new hb3.2 (gel_new hb2 (gel_in (by simp) (gel_of_gx (hs2g s2 (gA8 _ _)) (by simp))))))) (fun a ha u hu=>by have:=hfr a ha u hu;subst hs2;exact this)) (A.le.tuple ⟨hle,A.le.refl _,trivial⟩)
end
end Go.AV
end
section
namespace Go.AV
open Go
structure TokW (N:Nat) (t:Tok):Prop where
 kind:t.kind=1∧(∃ c r,t.text=c::r∧isLet c.toNat=true)∨t.kind=2∧t.text=[]∨t.kind=3∨t.kind=4∧(t.text∈signsW∨t.text=[39]∨t.text=[95])
 num:0≤t.n∧t.n≤2147483647
 col:0≤t.col∧t.col≤N
 line:0≤t.line∧t.line≤N
 txt:t.text.length≤N
theorem adv_le2:∀ (w:Str) (p:Nat × Nat),(adv p w).1≤p.1+w.length∧(adv p w).2≤p.2+w.length∧(1≤p.2→1≤(adv p w).2)
 | [],p=>⟨Nat.le_refl _,Nat.le_refl _,fun h=>h⟩
 | b::r,(l,c)=>by
  simp only[adv];split
  ·have:=adv_le2 r (l+1,1);simp only[gC1] at this ⊢;refine ⟨?_,?_,fun h=>this.2.2 (Nat.le_refl _)⟩<;>omega
  ·have:=adv_le2 r (l,c+1);simp only[gC1] at this ⊢;refine ⟨?_,?_,fun h=>this.2.2 (by omega)⟩<;>omega
theorem signTo_mem (w:Str):∀ (sg:List Str) (n:Nat),signTo w sg n=n∨w.take (signTo w sg n)∈sg
 | [],n=>.inl rfl
 | x::r,n=>by
  simp only[signTo];split
  ·rename_i h;rcases signTo_mem w r x.length with h1|h1
   ·rw[h1];refine .inr (List.mem_cons.2 (.inl ?_));have h2:=h.2;simp only[hasPre,gD5,decide_eq_true_eq] at h2;exact h2.2
   ·exact .inr (List.mem_cons.2 (.inr h1))
  ·rcases signTo_mem w r n with h1|h1
   ·exact .inl h1
   ·exact .inr (List.mem_cons.2 (.inr h1))
theorem tokOf_w {c:UInt8} {r:Str} {t:Tok} {n N:Nat} (h:tokOf (c::r) signsW true=(t,n,true)) (hN:(c::r).length≤N) (l k:Nat) (hl:l≤N) (hk:k≤N):TokW N ⟨t.kind,t.text,t.n,l,k⟩:=by
 have htake:∀ m,((c::r).take m).length≤N:=fun m=>by rw[List.length_take];omega
 have hlen:=tokOf_len h;have hc:(0:Int)≤(k:Int)∧(k:Int)≤N:=⟨by omega,by omega⟩;have hl':(0:Int)≤(l:Int)∧(l:Int)≤N:=⟨by omega,by omega⟩;have h0:(0:Int)≤0∧(0:Int)≤2147483647:=by decide
 simp only[tokOf] at h;split at h
 ·rename_i hn;simp only[Prod.mk.injEq,decide_eq_true_eq] at h;obtain ⟨rfl,h2,_⟩:=h;refine ⟨.inl ⟨rfl,?_⟩,h0,hc,hl',htake _⟩;have hlet:isLet c.toNat=true:=by simp only[isName,gD5] at hn;exact hn.2.1
  obtain ⟨m,hm⟩:∃ m,n=m+1:=⟨n-1,by omega⟩
  rw[hm] at h2;rw[h2];exact ⟨c,r.take m,rfl,hlet⟩
 ·split at h
  ·simp only[numTok] at h;split at h
   ·simp only[Prod.mk.injEq,gD7,and_false] at h
   ·simp only[Prod.mk.injEq,decide_eq_true_eq] at h;obtain ⟨rfl,_,h3⟩:=h;exact ⟨.inr (.inl ⟨rfl,rfl⟩),⟨Int.natCast_nonneg _,by simp only;omega⟩,hc,hl',Nat.zero_le _⟩
  ·split at h
   ·simp only[Prod.mk.injEq] at h;obtain ⟨h1,h2,_⟩:=h;generalize (Lib.indexByte r 34+2).toNat-2=m at h1;subst h1;refine ⟨.inr (.inr (.inl rfl)),h0,hc,hl',?_⟩;show (r.take m).length≤N;rw[List.length_take];rw[gC1] at hN;omega
   ·simp only[Prod.mk.injEq,decide_eq_true_eq] at h;obtain ⟨h1,h2,h3⟩:=h;rw[h2] at h1 h3;subst h1;refine ⟨.inr (.inr (.inr ⟨rfl,?_⟩)),h0,hc,hl',htake n⟩;show (c::r).take n∈signsW∨(c::r).take n=[39]∨(c::r).take n=[95];by_cases h4:signTo (c::r) signsW 0=0∧True∧(c=39∨c=95)
    ·rw[if_pos (by simpa using h4)] at h2;subst h2;rcases h4.2.2 with rfl|rfl
     ·exact .inr (.inl rfl)
     ·exact .inr (.inr rfl)
    ·rw[if_neg (by simpa using h4)] at h2;subst h2;rcases signTo_mem (c::r) signsW 0 with h5|h5
     ·omega
     ·exact .inl h5
theorem lexA_w (N:Nat):∀ (f:Nat) (w:Str) (p:Nat × Nat) (acc:List Tok) (l:List Tok),p.1+w.length≤N→p.2+w.length≤N→acc.length+w.length≤N→(∀ t,t∈acc→TokW N t)→lexA signsW true f w p acc=.ok l →
  l.length≤N∧∀ t,t∈l→TokW N t
 | _,[],p,acc,l,h1,h2,h3,ha,h=>by
  simp only[lexA] at h;cases h;exact ⟨by simpa using h3,ha⟩
 | 0,_::_,p,acc,l,h1,h2,h3,ha,h=>by
  simp only[lexA] at h;cases h;exact ⟨by omega,ha⟩
 | f+1,c::r,p,acc,l,h1,h2,h3,ha,h=>by
  simp only[lexA] at h;rcases htok:tokOf (c::r) signsW true with ⟨t,n,ok⟩
  rw[htok] at h;cases ok with
  | false=>cases h
  | true =>
   simp only at h;obtain ⟨hn1,hn2⟩:=tokOf_len htok;have hb:blks ((c::r).drop n)≤((c::r).drop n).length:=blks_le _ _;have a1:=adv_le2 ((c::r).take n) p;have a2:=adv_le2 (((c::r).drop n).take (blks ((c::r).drop n))) (adv p ((c::r).take n));simp only[List.length_take,gD4,gC1] at a1 a2 hb h1 h2 h3 hn2;refine lexA_w N f _ _ _ l ?_ ?_ ?_ ?_ h
   ·simp only[gD4,gC1];omega
   ·simp only[gD4,gC1];omega
   ·simp only[gC2,gC1,gC3,gD4] at h3 ⊢;omega
   ·intro t' ht';rcases List.mem_append.1 ht' with h5|h5
    ·exact ha t' h5
    ·simp only[List.mem_singleton] at h5;subst h5;exact tokOf_w htok (by simp only[gC1];omega) p.1 p.2 (by omega) (by omega)
theorem lexS_w {x:Str} {l:List Tok} (h:lexS signsW true x=.ok l):l.length≤x.length+1∧∀ t,t∈l→TokW (x.length+1) t:=by
 have hb:blks x≤x.length:=blks_le _ _;have a1:=adv_le2 (x.take (blks x)) (1,1);simp only[List.length_take] at a1;refine lexA_w (x.length+1) _ _ _ _ l ?_ ?_ ?_ (fun t ht=>by cases ht) h
 ·simp only[gD4];omega
 ·simp only[gD4];omega
 ·simp only[gD4,gC3];omega
theorem lexA_bad (sg:List Str) (op:Bool):∀ (f:Nat) (w:Str) (p:Nat × Nat) (acc:List Tok) (g:Fault),lexA sg op f w p acc=.bad g→g.code=10
 | _,[],p,acc,g,h=>by simp only[lexA] at h;cases h
 | 0,_::_,p,acc,g,h=>by simp only[lexA] at h;cases h
 | f+1,c::r,p,acc,g,h=>by
  simp only[lexA] at h;rcases htok:tokOf (c::r) sg op with ⟨t,n,ok⟩
  rw[htok] at h;cases ok with
  | false=>cases h;rfl
  | true=>exact lexA_bad sg op f _ _ _ g h
theorem lexS_bad {x:Str} {g:Fault} (h:lexS signsW true x=.bad g):g.code=10:=lexA_bad _ _ _ _ _ _ _ h
end Go.AV
end
section
namespace Go.AV
open Go
structure RQ (T:List Tok) where
 at_:Nat
 le:at_≤T.length
 f:Fault
 first:Nat
 nodes:Int
 over:Bool
section
variable {T:List Tok} (fin:Fault)
def RQ.ok (q:RQ T):Bool:=decide (q.f.code=0)
def RQ.tok (q:RQ T):Tok:=(T[q.at_]?).getD ⟨0,[],0,0,0⟩
def noTm:Tm:=.mk 0 0 [] [] [] []
end
end Go.AV
end
section
namespace Go.AV
open Go Go.Proofs
def finS (x:Str):Fault:=⟨12,[],1+(x.count 10:Nat),x.length-lastTo x 10 x.length⟩
def parseL (x:Str):Dfn × Fault:=match lexS signsW true x with
 | .bad f=>(noDfn,f)
 | .ok T=>match defR false (finS x) T with
  | .ok d _ _=>(d,Fault.none)
  | .bad f=>(noDfn,f)
def parseS (x:Str):Dfn × Fault:=if 20000<x.length then (noDfn,⟨3,[],0,0⟩) else parseL x
def termS (x:Str):Tm × Fault:=if 20000<x.length then (noTm,⟨3,[],0,0⟩) else match lexS signsW true x with
 | .bad f=>(noTm,f)
 | .ok T=>match wholeR false (finS x) T 0 with
  | .ok t [] _=>(t,Fault.none)
  | .ok _ (t::w) _=>(noTm,failAt (finS x) 11 (t::w))
  | .bad f=>(noTm,f)
theorem TOk_of {x:Str} {l:List Tok} (hx:x.length≤4294967280) (h:lexS signsW true x=.ok l):TOk l:=by
 obtain ⟨h1,h2⟩:=lexS_w h;refine ⟨by omega,fun t ht=>(h2 t ht).num,fun t ht=>?_,fun t ht=>?_⟩
 ·have:=(h2 t ht).col;omega
 ·have:=(h2 t ht).txt;omega
theorem lastTo_le (x:Str) (c:UInt8):∀ n,lastTo x c n<n∧-1≤lastTo x c n
 | 0=>by simp[lastTo]
 | n+1=>by
  have:=lastTo_le x c n;simp only[lastTo];split<;>omega
section
variable {s:St} {KV Kp:St→A→Prop}
theorem long83_den (x:Str) (hx:x.length≤4294967280) (hk:match lexS signsW true x with
  | .ok l=>∀ r,s.getO r=none→KV (s.setO r (psO l (finS x) (dcN noDfn noOwn) noTok 0 0)) (.tuple [.ptr r 0,Fault.none.enc])
  | .bad f=>KV s (.tuple [.nilp,f.enc])):Den cx 83 [.str x] KV Kp s:=by
 have hcnt:x.count 10≤x.length:=List.count_le_length;have hlast:=lastTo_le x 10 x.length;refine Den.drop ?_;(refine Den.of_body (C:=cx) Tryz.func83 rfl rfl (gC6 rfl) ?_;refine wpC_ok (V:=[0,2,3,4,5,6,14]) _ _ _ _ ?_;simp only[go_sem,Tryz.ntmps83,Tryz.f83]);(intro b3 hb3;try simp only[gA5,gA6,gD6,ne_eq] at hb3);simp only[go_sem,hb3];refine long_den _ x _ _ (by omega) ?_;cases hl:lexS signsW true x with
 | bad f =>
  rw[hl] at hk;have hc:=lexS_bad hl;have hc0:decide (f.code=0)=false:=by rw[hc];rfl
  simp only[Lx.out];simp only[go_sem,hb3];(intro b5 hb5;try simp only[gA5,gA6,gD6,ne_eq] at hb5);simp only[go_sem,hb3,hb5,hc0];(refine draw_ok (V:=[0,2,3,4,5,6,14]) (OT.l [0,1,2] .nil) [] mixed_cx (by decide +kernel) ?_;simp only[go_sem,hb3,hb5]);simp only[go_sem] at hk;exact DK.st hk (by (refine gel_ge ?_;repeat (first|exact gel_refl _ _ _|refine gel_gs_gs ?_|refine gel_to_gs gs_self ?_|refine gB1 ?_|refine gB2 ?_|refine gel_set (by simp only[gA1,gA2,gA3,gA6,ne_eq,gA9,reduceIte,hb3,hb5]<;>(first|done|rfl|assumption)) ?_|refine gB3 ?_|refine gel_new (by first|simp only[hb3,hb5]|assumption) ?_)))
 | ok l =>
  rw[hl] at hk;simp only[Lx.out];have h00:Fault.none.code=0:=rfl;simp only[go_sem,hb3,Fault.none];(intro b5 hb5;try simp only[gA5,gA6,gD6,ne_eq] at hb5);simp only[go_sem,hb3,hb5];refine count142_den _ _ _ _ _ ?_;simp only[go_sem,hb3,hb5,wrap_in (1+((x.count 10:Nat):Int)) (by omega) (by omega)];refine lastIdx143_den _ x 10 _ _ (by omega) ?_;simp only[go_sem,hb3,hb5,wrap_in ((x.length:Int)-lastTo x 10 x.length) (by omega) (by omega)];(intro b6 hb6;try simp only[gA5,gA6,gD6,ne_eq] at hb6);simp only[go_sem,hb3,hb5,hb6];(refine draw_ok (V:=[0,2,3,4,5,6,14]) (OT.l [0,1,2,4,3,5,6] .nil) [(3,[4])] mixed_cx (by decide +kernel) ?_;simp only[go_sem,hb3,hb5,hb6]);(intro b7 hb7;try simp only[gA5,gA6,gD6,ne_eq] at hb7);simp only[go_sem,hb3,hb5,hb6,hb7];have hk2:=hk b7 (by first|exact hb7.2.2.2|exact hb7.2.2);simp only[Fault.enc,Fault.cs,Fault.none] at hk2;exact DK.st hk2 (by (refine gel_ge ?_;repeat (first|exact gel_refl _ _ _|refine gel_gs_gs ?_|refine gel_to_gs gs_self ?_|refine gB1 ?_|refine gB2 ?_|refine gel_set (by simp only[gA1,gA2,gA3,gA6,ne_eq,gA9,reduceIte,hb3,hb5,hb6,hb7]<;>(first|done|rfl|assumption)) ?_|refine gB3 ?_|refine gel_new (by first|simp only[hb3,hb5,hb6,hb7]|assumption) ?_)))
theorem begin_den (x:Str) (hx:x.length≤4294967280) (hk:if 20000<x.length then KV s (.tuple [.nilp,Fault.enc ⟨3,[],0,0⟩]) else match lexS signsW true x with
  | .ok l=>∀ r,s.getO r=none→KV (s.setO r (psO l (finS x) (dcN noDfn noOwn) noTok 0 0)) (.tuple [.ptr r 0,Fault.none.enc])
  | .bad f=>KV s (.tuple [.nilp,f.enc])):Den cx 37 [.str x] KV Kp s:=by
 refine Den.drop ?_;(refine Den.of_body (C:=cx) Tryz.func37 rfl rfl (gC6 rfl) ?_;refine wpC_ok (V:=[0,2,3,6]) _ _ _ _ ?_;simp only[go_sem,Tryz.ntmps37,Tryz.f37]);(intro b3 hb3;try simp only[gA5,gA6,gD6,ne_eq] at hb3);simp only[go_sem,hb3];cases c:decide ((20000:Int)<(x.length:Int)) with
 | true =>
  rw[if_pos (by simp at c;omega)] at hk;simp only[go_sem,hb3,c];simp only[go_sem] at hk;exact DK.st hk (by (refine gel_ge ?_;repeat (first|exact gel_refl _ _ _|refine gel_gs_gs ?_|refine gel_to_gs gs_self ?_|refine gB1 ?_|refine gB2 ?_|refine gel_set (by simp only[gA1,gA2,gA3,gA6,ne_eq,gA9,reduceIte,hb3]<;>(first|done|rfl|assumption)) ?_|refine gB3 ?_|refine gel_new (by first|simp only[hb3]|assumption) ?_)))
 | false =>
  rw[if_neg (by simp at c;omega)] at hk;simp only[go_sem,hb3,c];refine long83_den x hx ?_;cases hl:lexS signsW true x with
  | bad f =>
   rw[hl] at hk;simp only at hk ⊢;simp only[go_sem,hb3];simp only[go_sem] at hk;exact DK.st hk (by (refine gel_ge ?_;repeat (first|exact gel_refl _ _ _|refine gel_gs_gs ?_|refine gel_to_gs gs_self ?_|refine gB1 ?_|refine gB2 ?_|refine gel_set (by simp only[gA1,gA2,gA3,gA6,ne_eq,gA9,reduceIte,hb3]<;>(first|done|rfl|assumption)) ?_|refine gB3 ?_|refine gel_new (by first|simp only[hb3]|assumption) ?_)))
  | ok l =>
   rw[hl] at hk;simp only at hk ⊢;intro r hr;have hk2:=hk r (by have:=hr;rw[gA1] at this;split at this;cases this;exact this);have e3:b3≠r:=fun e=>by subst e;rw[gA1,if_pos rfl] at hr;cases hr
   simp only[Fault.enc,Fault.cs,Fault.none] at hk2 ⊢;simp only[go_sem,hb3,e3,e3.symm];exact DK.st hk2 (by (refine gel_ge ?_;repeat (first|exact gel_refl _ _ _|refine gel_gs_gs ?_|refine gel_to_gs gs_self ?_|refine gB1 ?_|refine gB2 ?_|refine gel_set (by simp only[gA1,gA2,gA3,gA6,ne_eq,gA9,reduceIte,hb3,e3,e3.symm]<;>(first|done|rfl|assumption)) ?_|refine gB3 ?_|refine gel_new (by first|simp only[hb3]|assumption) ?_)))
theorem parse_den (x:Str) (hx:x.length≤4294967280) (hk:KV s (.tuple [(parseS x).1.enc,(parseS x).2.enc])):Den cx 15 [.str x] KV Kp s:=by
 have zd:A.le (.agg [.str [],.nils,.nils,.nils,.nils,.nils,.nils,.nils,.str [],.nils,.nils,.str [],.str []]) noDfn.enc:=dcN_le noDfn noOwn (s:=s) noDfn_own;refine Den.drop ?_;(refine Den.of_body (C:=cx) Tryz.func15 rfl rfl (gC6 rfl) ?_;refine wpC_ok (V:=[0,2,3,4,5,13]) _ _ _ _ ?_;simp only[go_sem,Tryz.ntmps15,Tryz.f15]);(intro b2 hb2;try simp only[gA5,gA6,gD6,ne_eq] at hb2);simp only[go_sem,hb2];(intro b3 hb3;try simp only[gA5,gA6,gD6,ne_eq] at hb3);simp only[go_sem,hb2,hb3];refine begin_den x hx ?_;unfold parseS at hk;split
 ·rename_i c;rw[if_pos c] at hk;simp only[go_sem,hb2,hb3];(intro b5 hb5;try simp only[gA5,gA6,gD6,ne_eq] at hb5);simp only[go_sem,hb2,hb3,hb5];(refine draw_ok (V:=[0,2,3,4,5,13]) (OT.l [0,1,2,3] .nil) [(2,[1])] mixed_cx (by decide +kernel) ?_;simp only[go_sem,hb2,hb3,hb5]);exact DK.mk hk (by (refine gel_ge ?_;repeat (first|exact gel_refl _ _ _|refine gel_gs_gs ?_|refine gel_to_gs gs_self ?_|refine gB1 ?_|refine gB2 ?_|refine gel_set (by simp only[gA1,gA2,gA3,gA6,ne_eq,gA9,reduceIte,hb2,hb3,hb5]<;>(first|done|rfl|assumption)) ?_|refine gB3 ?_|refine gel_new (by first|simp only[hb2,hb3,hb5]|assumption) ?_))) (A.le.tuple ⟨zd,A.le.refl _,trivial⟩)
 ·rename_i c;rw[if_neg c] at hk;unfold parseL at hk;cases hl:lexS signsW true x with
  | bad f =>
   rw[hl] at hk;have hc0:decide (f.code=0)=false:=by rw[lexS_bad hl];rfl
   simp only at hk ⊢;simp only[go_sem,hb2,hb3];(intro b5 hb5;try simp only[gA5,gA6,gD6,ne_eq] at hb5);simp only[go_sem,hb2,hb3,hb5,hc0];(refine draw_ok (V:=[0,2,3,4,5,13]) (OT.l [0,1,2,3] .nil) [(2,[1])] mixed_cx (by decide +kernel) ?_;simp only[go_sem,hb2,hb3,hb5]);simp only[go_sem] at hk;exact DK.mk hk (by (refine gel_ge ?_;repeat (first|exact gel_refl _ _ _|refine gel_gs_gs ?_|refine gel_to_gs gs_self ?_|refine gB1 ?_|refine gB2 ?_|refine gel_set (by simp only[gA1,gA2,gA3,gA6,ne_eq,gA9,reduceIte,hb2,hb3,hb5]<;>(first|done|rfl|assumption)) ?_|refine gB3 ?_|refine gel_new (by first|simp only[hb2,hb3,hb5]|assumption) ?_))) (A.le.tuple ⟨zd,A.le.refl _,trivial⟩)
  | ok T =>
   rw[hl] at hk;simp only at hk ⊢;intro r hr;simp only[gD6,ne_eq] at hr;simp only[go_sem,hb2,hb3,hr,Fault.none];(intro b5 hb5;try simp only[gA5,gA6,gD6,ne_eq] at hb5);simp only[go_sem,hb2,hb3,hr,hb5];refine def_den (T:=T) (fin:=finS x) (TOk_of hx hl) (by simp only[gA1,gA2,gA3,gA6,ne_eq,gA9,reduceIte,hb2,hb3,hr,hb5]<;>(first|done|rfl|assumption)) ?_;unfold DfnK;cases hd:defR false (finS x) T with
   | bad f =>
    rw[hd] at hk;simp only at hk ⊢;intro o;simp only[go_sem,hb2,hb3,hr,hb5];simp only[go_sem] at hk;exact DK.st hk (by (refine gel_ge ?_;repeat (first|exact gel_refl _ _ _|refine gel_gs_gs ?_|refine gel_to_gs gs_self ?_|refine gB1 ?_|refine gB2 ?_|refine gel_set (by simp only[gA1,gA2,gA3,gA6,ne_eq,gA9,reduceIte,hb2,hb3,hr,hb5]<;>(first|done|rfl|assumption)) ?_|refine gB3 ?_|refine gel_new (by first|simp only[hb2,hb3,hr,hb5]|assumption) ?_)))
   | ok d w n =>
    rw[hd] at hk;simp only at hk ⊢;intro o;simp only[go_sem,hb2,hb3,hr,hb5];simp only[go_sem] at hk;exact DK.st hk (by (refine gel_ge ?_;repeat (first|exact gel_refl _ _ _|refine gel_gs_gs ?_|refine gel_to_gs gs_self ?_|refine gB1 ?_|refine gB2 ?_|refine gel_set (by simp only[gA1,gA2,gA3,gA6,ne_eq,gA9,reduceIte,hb2,hb3,hr,hb5]<;>(first|done|rfl|assumption)) ?_|refine gB3 ?_|refine gel_new (by first|simp only[hb2,hb3,hr,hb5]|assumption) ?_)))
theorem tterm_den (x:Str) (hx:x.length≤4294967280) (hk:KV s (.tuple [(termS x).1.enc,(termS x).2.enc])):Den cx 18 [.str x] KV Kp s:=by
 have zt:A.le (.agg [.int .i64 0,.int .i64 0,.str [],.str [],.nils,.nils]) noTm.enc:=Tm.le_leaf 0 0 [] [];refine Den.drop ?_;refine Den.of_defer catchC_ok ent40C Tryz.func18 rfl rfl (gC6 rfl) ?_;refine ExD.seq ?_;refine wpC_ok (V:=[0,2,3,4,5,13,27]) _ _ _ _ ?_;simp only[go_sem,Tryz.ntmps18,Tryz.f18];(intro b2 hb2;try simp only[gA5,gA6,gD6,ne_eq] at hb2);simp only[go_sem,Tryz.ntmps18,Tryz.f18,hb2];(intro b3 hb3;try simp only[gA5,gA6,gD6,ne_eq] at hb3);simp only[go_sem,Tryz.ntmps18,Tryz.f18,hb2,hb3];refine ExD.seq ?_;refine wpC_ok (V:=[0,2,3,4,5,13,27]) _ _ _ _ ?_;simp only[go_sem,Tryz.ntmps18,Tryz.f18,hb2,hb3];refine begin_den x hx ?_;unfold termS at hk;split
 ·rename_i c;rw[if_pos c] at hk;simp only[go_sem,Tryz.ntmps18,Tryz.f18,hb2,hb3];refine ExD.seq ?_;refine wpC_ok (V:=[0,2,3,4,5,13,27]) _ _ _ _ ?_;simp only[go_sem,Tryz.ntmps18,Tryz.f18,hb2,hb3];(refine draw_ok (V:=[0,2,3,4,5,13,27]) (OT.l [0,1,2,3] .nil) [(2,[1])] mixed_cx (by decide +kernel) ?_;simp only[go_sem,Tryz.ntmps18,Tryz.f18,hb2,hb3]);exact DK.mk hk (by (refine gel_ge ?_;repeat (first|exact gel_refl _ _ _|refine gel_gs_gs ?_|refine gel_to_gs gs_self ?_|refine gB1 ?_|refine gB2 ?_|refine gel_set (by simp only[gA1,gA2,gA3,gA6,ne_eq,gA9,reduceIte,Tryz.ntmps18,Tryz.f18,hb2,hb3]<;>(first|done|rfl|assumption)) ?_|refine gB3 ?_|refine gel_new (by first|simp only[hb2,hb3]|assumption) ?_))) (A.le.tuple ⟨zt,A.le.refl _,trivial⟩)
 ·rename_i c;rw[if_neg c] at hk;cases hl:lexS signsW true x with
  | bad f =>
   rw[hl] at hk;have hc0:decide (f.code=0)=false:=by rw[lexS_bad hl];rfl
   simp only at hk ⊢;simp only[go_sem,Tryz.ntmps18,Tryz.f18,hb2,hb3];refine ExD.seq ?_;refine wpC_ok (V:=[0,2,3,4,5,13,27]) _ _ _ _ ?_;simp only[go_sem,Tryz.ntmps18,Tryz.f18,hb2,hb3,hc0];(refine draw_ok (V:=[0,2,3,4,5,13,27]) (OT.l [0,1,2,3] .nil) [(2,[1])] mixed_cx (by decide +kernel) ?_;simp only[go_sem,Tryz.ntmps18,Tryz.f18,hb2,hb3]);simp only[go_sem] at hk;exact DK.mk hk (by (refine gel_ge ?_;repeat (first|exact gel_refl _ _ _|refine gel_gs_gs ?_|refine gel_to_gs gs_self ?_|refine gB1 ?_|refine gB2 ?_|refine gel_set (by simp only[gA1,gA2,gA3,gA6,ne_eq,gA9,reduceIte,Tryz.ntmps18,Tryz.f18,hb2,hb3]<;>(first|done|rfl|assumption)) ?_|refine gB3 ?_|refine gel_new (by first|simp only[hb2,hb3]|assumption) ?_))) (A.le.tuple ⟨zt,A.le.refl _,trivial⟩)
  | ok T =>
   rw[hl] at hk;have hT:=TOk_of hx hl;have hlenT:=hT.len;simp only at hk ⊢;intro r hr;simp only[gD6,ne_eq] at hr;simp only[go_sem,hb2,hb3,Tryz.ntmps18,Tryz.f18,hr,Fault.none];refine ExD.seq ?_;refine wpC_ok (V:=[0,2,3,4,5,13,27]) _ _ _ _ ?_;simp only[go_sem,hb2,hb3,Tryz.ntmps18,Tryz.f18,hr];refine ExD.defer (by rfl) (b:=b3) (by simp only[go_sem,hb2,hb3,Tryz.ntmps18,Tryz.f18,hr]) ?_;refine wpC_ok (V:=[0,2,3,4,5,13,27]) _ _ _ _ ?_;simp only[go_sem,hb2,hb3,Tryz.ntmps18,Tryz.f18,hr];have n23:b2≠b3:=by first|exact hb3.1.1|exact hb3.1
   have hrb2:r≠b2:=fun e=>hr.2.1.2 e
   have hrb3:r≠b3:=fun e=>hr.1.2 e
   have hs:s.getO r=none:=hr.2.2
   have bad:∀ (f:Fault) (s1:St) (e:Env),e.get 2=some (.ptr b2 0)→e.get 3=some (.ptr b3 0)→KV s (.tuple [noTm.enc,f.enc]) →
     s1.getO b2=some (.cells 43 [.int .i64 0,.int .i64 0,.str [],.str [],.nils,.nils])→s1.getO b3=some (.cells 36 [.int .i64 0,.str [],.int .i64 0,.int .i64 0])→s1.ge s →
     retD cx [ResultVar.cell 2 43,ResultVar.cell 3 36] (DK KV) (DK Kp) (some b3) (.panic (.iface 36 f.enc)) e s1:=by
    intro f s1 e g2 g3 hb q2 q3 hg;simp only[go_sem,q2,q3,n23,n23.symm,g2,g3];refine ⟨f.cs,_,rfl,rfl,rfl,rfl,?_⟩;simp only[go_sem,q2,q3,n23,n23.symm,g2,g3];simp only[go_sem] at hb;exact DK.mk hb (gel_ge (gel_new (by first|exact hb3.2|exact hb3.2.2) (gel_of_ge hg _ _))) (A.le.tuple ⟨zt,A.le.refl _,trivial⟩)
   have hk2:(wholeR false (finS x) T 0).to (fun t w _=>match w with|[]=>KV s (.tuple [t.enc,Fault.none.enc])|t::w=>KV s (.tuple [noTm.enc,(failAt (finS x) 11 (t::w)).enc])) (fun f=>KV s (.tuple [noTm.enc,f.enc])):=by
    revert hk;cases wholeR false (finS x) T 0 with
    | bad f=>exact id
    | ok t w n=>cases w<;>exact id
   refine whole_den (d:=dcN noDfn noOwn) (T:=T) (fin:=finS x) (first:=noTok) (i:=0) (n:=0) hT (by simp only[gA1,gA2,gA3,gA6,ne_eq,gA9,reduceIte,hb2,hb3,Tryz.ntmps18,Tryz.f18,hr]<;>(first|done|rfl|assumption)) (Nat.zero_le _) (Nat.zero_le _) (Rd.to_mono (show (wholeR false (finS x) (T.drop 0) 0).to _ _ from hk2) (fun t w m hk3 j hj hjT hw hm=>?_) (fun f h o=>?_));rotate_left
   ·refine bad f _ _ rfl rfl h ?_ ?_ ?_
    ·exact (by simp only[gA1,gA2,gA3,gA6,ne_eq,gA9,reduceIte,hb2,hb3,Tryz.ntmps18,Tryz.f18,hr,hrb2,hrb3,hrb2.symm,hrb3.symm,n23,n23.symm]<;>(first|done|rfl|assumption))
    ·exact (by simp only[gA1,gA2,gA3,gA6,ne_eq,gA9,reduceIte,hb2,hb3,Tryz.ntmps18,Tryz.f18,hr,hrb2,hrb3,hrb2.symm,hrb3.symm,n23,n23.symm]<;>(first|done|rfl|assumption))
    ·exact (by (refine gel_ge ?_;repeat (first|exact gel_refl _ _ _|refine gel_gs_gs ?_|refine gel_to_gs gs_self ?_|refine gB1 ?_|refine gB2 ?_|refine gel_set (by simp only[gA1,gA2,gA3,gA6,ne_eq,gA9,reduceIte,hb2,hb3,Tryz.ntmps18,Tryz.f18,hr]<;>(first|done|rfl|assumption)) ?_|refine gB3 ?_|refine gel_new (by first|simp only[hb2,hb3,hr]|assumption) ?_)))
   simp only[go_sem,hb2,hb3,Tryz.ntmps18,Tryz.f18,hr,Tm.enc_eq];(intro b5 hb5;try simp only[gA5,gA6,gD6,ne_eq] at hb5);simp only[go_sem,hb2,hb3,Tryz.ntmps18,Tryz.f18,hr,hb5];(refine draw_ok (V:=[0,2,3,4,5,13,27]) (OT.l [0,1,2,3,4,5,6,7,8,9] .nil) [] mixed_cx (by decide +kernel) ?_;simp only[go_sem,hb2,hb3,Tryz.ntmps18,Tryz.f18,hr,hb5]);cases hc:decide (j<T.length) with
   | true =>
    have hlt:j<T.length:=by simpa using hc
    cases w with
    | nil=>exfalso;have:=congrArg List.length hw;rw[gD4,gC3] at this;omega
    | cons t2 w2 =>
     simp only[go_sem,hb2,hb3,Tryz.ntmps18,Tryz.f18,hr,hb5];refine fail_den (d:=dcN noDfn noOwn) (T:=T) (fin:=finS x) (first:=noTok) (i:=j) (n:=m) 11 (by simp only[gA1,gA2,gA3,gA6,ne_eq,gA9,reduceIte,hb2,hb3,Tryz.ntmps18,Tryz.f18,hr,hb5]<;>(first|done|rfl|assumption)) hjT hT ?_;rw[hw];refine bad _ _ _ rfl rfl hk3 ?_ ?_ ?_
     ·exact (by simp only[gA1,gA2,gA3,gA6,ne_eq,gA9,reduceIte,hb2,hb3,Tryz.ntmps18,Tryz.f18,hr,hb5,hrb2,hrb3,hrb2.symm,hrb3.symm,n23,n23.symm]<;>(first|done|rfl|assumption))
     ·exact (by simp only[gA1,gA2,gA3,gA6,ne_eq,gA9,reduceIte,hb2,hb3,Tryz.ntmps18,Tryz.f18,hr,hb5,hrb2,hrb3,hrb2.symm,hrb3.symm,n23,n23.symm]<;>(first|done|rfl|assumption))
     ·exact (by (refine gel_ge ?_;repeat (first|exact gel_refl _ _ _|refine gel_gs_gs ?_|refine gel_to_gs gs_self ?_|refine gB1 ?_|refine gB2 ?_|refine gel_set (by simp only[gA1,gA2,gA3,gA6,ne_eq,gA9,reduceIte,hb2,hb3,Tryz.ntmps18,Tryz.f18,hr,hb5]<;>(first|done|rfl|assumption)) ?_|refine gB3 ?_|refine gel_new (by first|simp only[hb2,hb3,hr,hb5]|assumption) ?_)))
   | false =>
    have hge:¬ j<T.length:=by simpa using hc
    cases w with
    | cons t2 w2=>exfalso;have:=congrArg List.length hw;rw[gD4,gC1] at this;omega
    | nil =>
     simp only[Tm.enc_eq] at hk3;simp only[go_sem,hb2,hb3,Tryz.ntmps18,Tryz.f18,hr,hb5];(refine draw_ok (V:=[0,2,3,4,5,13,27]) (OT.l [0,1,2,3] .nil) [(2,[1])] mixed_cx (by decide +kernel) ?_;simp only[go_sem,hb2,hb3,Tryz.ntmps18,Tryz.f18,hr,hb5]);simp only[go_sem] at hk3;exact DK.st hk3 (by (refine gel_ge ?_;repeat (first|exact gel_refl _ _ _|refine gel_gs_gs ?_|refine gel_to_gs gs_self ?_|refine gB1 ?_|refine gB2 ?_|refine gel_set (by simp only[gA1,gA2,gA3,gA6,ne_eq,gA9,reduceIte,hb2,hb3,Tryz.ntmps18,Tryz.f18,hr,hb5]<;>(first|done|rfl|assumption)) ?_|refine gB3 ?_|refine gel_new (by first|simp only[hb2,hb3,hr,hb5]|assumption) ?_)))
end
end Go.AV
end
section
namespace Go.AV
open Go Go.Proofs
theorem cxd_cx:({ cxd with det:=false }:Cx)=cx:=rfl
theorem to_cxd {f:FuncId} {args:List A} {a:A} (hargs:∀ x,x∈args→x.lp x) (ha:a.lp a) (h:∀ KV Kp s,KV s a→Den cx f args KV Kp s) {KV Kp:St→A→Prop} {s:St} (hk:KV s a):Den cxd f args KV Kp s:=by
 refine Den.restart (C:=cxd) false (Q:=fun _ r=>r=a) glS_lp hargs (fun F1 g2 s2 w2 r v hR hv hq=>?_) ?_ hk
 ·subst hq;exact ⟨g2.pi,hR.pis,fun b _=>rfl,fun g' hg=>ha g2 g' v hg hv⟩
 ·rw[cxd_cx];exact h _ _ _ rfl
theorem str_lp (x:List UInt8):(A.str x).lp (.str x):=frz_ok 1 _ _ rfl
theorem bool_lp (x:Bool):(A.bool x).lp (.bool x):=frz_ok 1 _ _ rfl
def extW (W:List (List UInt8)) (l:List A) (σ:XS):CR:=match l with
 | [.str x]=>.val (.bool (decide (x∈W))) σ
 | _=>.bad
def extB (f:FuncId):Option (List A→XS→CR):=match Nat.beq f 145 with
 | true=>some (extW reservedW)
 | false=>match Nat.beq f 107 with
  | true=>some (extW builtInW)
  | false=>extS f
theorem extW_ok {f:FuncId} {W:List (List UInt8)} (h:∀ (s:St) (x:List UInt8) (KV Kp:St→A→Prop),KV s (.bool (decide (x∈W)))→Den cx f [.str x] KV Kp s)
  (l:List A) (σ:XS) (s:St) (KV Kp:St→A→Prop) (hs:Sim s σ) (hh:(extW W l σ).to KV Kp):Den cxd f l KV Kp s:=by
 unfold extW at hh;split at hh
 ·rename_i x;refine to_cxd (a:=.bool (decide (x∈W))) (fun y hy=>?_) (bool_lp _) (fun KV Kp s hk=>h s x KV Kp hk) (hh s hs);simp only[List.mem_singleton] at hy;subst hy;exact str_lp x
 ·exact hh.elim
theorem extB_ok:extOk cxd extB:=by
 intro f h hf l σ s KV Kp hs hh;unfold extB at hf;split at hf
 ·rename_i e;have hf':=gC7 e;cases hf;refine extW_ok (W:=reservedW) (fun s x KV Kp hk=>?_) l σ s KV Kp hs hh;rw[hf'];exact isReserved145_den s x KV Kp hk
 ·split at hf
  ·rename_i e;have hf':=gC7 e;cases hf;refine extW_ok (W:=builtInW) (fun s x KV Kp hk=>?_) l σ s KV Kp hs hh;rw[hf'];exact builtIn107_den s x KV Kp hk
  ·exact ext_ok f h hf l σ s KV Kp hs hh
end Go.AV
end
section
namespace Go.AV
open Go Go.Proofs
section
variable {s:St} {KV Kp:St→A→Prop}
theorem A.le.emp0:A.le .emp (.list none []):=fun g v h=>by
 obtain ⟨a,rfl⟩:=h.emp_inv;exact .list0 none (some a) 0 (Nat.zero_le _) (fun t e=>by cases e)
theorem clone266_den (l:List A) (h1:∀ y,y∈l→y.cells.length=1) (hl:l.length≤4294967296) (hk:KV s (.list none l)):Den cx 266 [.list none l] KV Kp s:=by
 refine Den.drop ?_;(refine Den.of_body (C:=cx) Tryz.func266 rfl rfl (gC6 rfl) ?_;refine wpC_ok (V:=[0,2,4]) _ _ _ _ ?_;simp only[go_sem,Tryz.ntmps266,Tryz.f266]);cases l with
 | nil =>
  simp only[go_sem,false_or];exact ⟨DK.mk hk (St.ge.refl _) A.le.nil,by decide,fun y hy=>(by cases hy),DK.mk hk (St.ge.refl _) A.le.emp0⟩
 | cons x r =>
  have hl2:r.length≤4294967295:=Nat.le_of_succ_le_succ hl;simp only[go_sem];refine ⟨by decide,h1,hl2,?_⟩;intro t ht;simp only[go_sem];exact DK.mk hk (St.ge_freeT ht) (gv_le (some t) (x::r) (fun e=>by cases e))
theorem clone267_den (l:List A) (h1:∀ y,y∈l→y.cells.length=2) (hl:l.length≤4294967296) (hk:KV s (.list none l)):Den cx 267 [.list none l] KV Kp s:=by
 refine Den.drop ?_;(refine Den.of_body (C:=cx) Tryz.func267 rfl rfl (gC6 rfl) ?_;refine wpC_ok (V:=[0,2,4]) _ _ _ _ ?_;simp only[go_sem,Tryz.ntmps267,Tryz.f267]);cases l with
 | nil =>
  simp only[go_sem,false_or];exact ⟨DK.mk hk (St.ge.refl _) A.le.nil,by decide,fun y hy=>(by cases hy),DK.mk hk (St.ge.refl _) A.le.emp0⟩
 | cons x r =>
  have hl2:r.length≤4294967295:=Nat.le_of_succ_le_succ hl;simp only[go_sem];refine ⟨by decide,h1,hl2,?_⟩;intro t ht;simp only[go_sem];exact DK.mk hk (St.ge_freeT ht) (gv_le (some t) (x::r) (fun e=>by cases e))
theorem clone268_den (l:List A) (h1:∀ y,y∈l→y.cells.length=1) (hl:l.length≤4294967296) (hk:KV s (.list none l)):Den cx 268 [.list none l] KV Kp s:=by
 refine Den.drop ?_;(refine Den.of_body (C:=cx) Tryz.func268 rfl rfl (gC6 rfl) ?_;refine wpC_ok (V:=[0,2,4]) _ _ _ _ ?_;simp only[go_sem,Tryz.ntmps268,Tryz.f268]);cases l with
 | nil =>
  simp only[go_sem,false_or];exact ⟨DK.mk hk (St.ge.refl _) A.le.nil,by decide,fun y hy=>(by cases hy),DK.mk hk (St.ge.refl _) A.le.emp0⟩
 | cons x r =>
  have hl2:r.length≤4294967295:=Nat.le_of_succ_le_succ hl;simp only[go_sem];refine ⟨by decide,h1,hl2,?_⟩;intro t ht;simp only[go_sem];exact DK.mk hk (St.ge_freeT ht) (gv_le (some t) (x::r) (fun e=>by cases e))
end
end Go.AV
end
section
namespace Go.AV
open Go Go.Proofs
def lensA (z:Nat):List A→Bool
 | []=>true
 | y::r=>match Nat.beq y.cells.length z with
  | true=>lensA z r
  | false=>false
theorem lensA_ok {z:Nat}:∀ {l:List A},lensA z l=true→∀ y,y∈l→y.cells.length=z
 | [],_,y,h=>by cases h
 | a::r,h,y,hy=>by
  simp only[lensA] at h;split at h
  ·rename_i e;rcases List.mem_cons.1 hy with rfl|hy
   ·exact gC7 e
   ·exact lensA_ok h y hy
  ·cases h
def extCl (z:Nat) (l:List A) (σ:XS):CR:=match l with
 | [a] => match frz 60 a with
  | some b=>match frz 60 b with
   | some (.list none es)=>match b with
    | .list none fs=>match lensA z fs,Nat.ble fs.length 4294967296 with
     | true,true=>.val (.list none es) σ
     | _,_=>.bad
    | _=>.bad
   | _=>.bad
  | none=>.bad
 | _=>.bad
def extC (f:FuncId):Option (List A→XS→CR):=match Nat.beq f 266 with
 | true=>some (extCl 1)
 | false=>match Nat.beq f 267 with
  | true=>some (extCl 2)
  | false=>match Nat.beq f 268 with
   | true=>some (extCl 1)
   | false=>extB f
theorem extCl_ok {f:FuncId} {z:Nat} (h:∀ (s:St) (l:List A) (KV Kp:St→A→Prop),(∀ y,y∈l→y.cells.length=z)→l.length≤4294967296→KV s (.list none l)→Den cx f [.list none l] KV Kp s)
  (l:List A) (σ:XS) (s:St) (KV Kp:St→A→Prop) (hs:Sim s σ) (hh:(extCl z l σ).to KV Kp):Den cxd f l KV Kp s:=by
 unfold extCl at hh;split at hh
 ·rename_i a;split at hh
  ·rename_i b hb;split at hh
   ·rename_i es hes;split at hh
    ·rename_i fs;split at hh
     ·rename_i h1 h2;refine Den.restart2 (C:=cxd) (args2:=[.list none fs]) (a':=.list none es) false (Q:=fun _ r=>r=.list none fs) glS_lp rfl (fun j x y hx hy=>?_) (fun F1 g2 s2 w2 r v hR hv hq=>?_) ?_ (hh s hs)
      ·cases j with
       | zero=>simp at hx hy;subst hx;subst hy;exact frz_ok 60 _ _ hb
       | succ j=>simp at hx
      ·subst hq;exact ⟨g2.pi,hR.pis,fun b _=>rfl,fun g' hg=>frz_ok 60 _ _ hes g2 g' v hg hv⟩
      ·rw[cxd_cx];exact h _ _ _ _ (lensA_ok h1) (gC6 h2) rfl
     ·exact hh.elim
    ·exact hh.elim
   ·exact hh.elim
  ·exact hh.elim
 ·exact hh.elim
theorem extC_ok:extOk cxd extC:=by
 intro f h hf l σ s KV Kp hs hh;unfold extC at hf;split at hf
 ·rename_i e;have hf':=gC7 e;cases hf;exact extCl_ok (z:=1) (fun s x KV Kp h1 h2 hk=>by rw[hf'];exact clone266_den x h1 h2 hk) l σ s KV Kp hs hh
 ·split at hf
  ·rename_i e;have hf':=gC7 e;cases hf;exact extCl_ok (z:=2) (fun s x KV Kp h1 h2 hk=>by rw[hf'];exact clone267_den x h1 h2 hk) l σ s KV Kp hs hh
  ·split at hf
   ·rename_i e;have hf':=gC7 e;cases hf;exact extCl_ok (z:=1) (fun s x KV Kp h1 h2 hk=>by rw[hf'];exact clone268_den x h1 h2 hk) l σ s KV Kp hs hh
   ·exact extB_ok f h hf l σ s KV Kp hs hh
theorem seat_runC {fuel:Nat} {f:FuncId} {args:List A} {KV Kp:St→A→Prop} {s:St} {a:A}
  (hargs:frzL (frz 60) args=some args) (h:outX (runX (xpS extC) fuel f args)=some a) (hk:KV s a):Den cx f args KV Kp s:=by
 have hX:(xpS extC).ok { cx with det:=true }:=xpS_ok extC_ok;exact Den.run true hX glS_lp hargs h hk
end Go.AV
end
section
namespace Go.AV
open Go Go.Proofs
def awD:Dfn:=⟨[101],⟨[[65]],[],[⟨[97],[],[65],[⟨[97],[]⟩],0,0,[]⟩],[],[]⟩,[],[⟨[99],[65],.mk 6 0 [36] [65,110,121] [] [],1,52⟩],[],[],[],[65],[99]⟩
def awT:Tm:=.mk 5 0 [102] [] [.mk 6 0 [88] [73,110,116] [] [],.mk 7 0 [] [] [.mk 1 (-1) [] [] [] []] [.mk 6 0 [76] [76,105,115,116] [] []]] []
def awOut:Str:=[108,97,110,103,117,97,103,101,32,101,46,10,115,111,114,116,32,65,46,10,111,112,32,97,32,58,32,34,97,34,32,45,62,32,65]++[46,10,99,101,108,108,32,99,32,58,32,65,32,61,32,36,46,10,115,116,97,114,116,32,65,46,10,119,97,116,99,104,32,99,46,10]
def awR:List A:=[.str [101],.list none [.str [65]],.nils,.list none [.agg [.str [98],.nils,.str [65],.list none [.agg [.str [97],.str []]],.int .i64 0,.int .i64 0,.list none []]],.nils,.nils,.nils,
 .list none [.agg [.str [99],.str [65],.int .i64 6,.int .i64 0,.str [36],.str [65,110,121],.nils,.nils,.int .i64 1,.int .i64 52]],.str [],.nils,.nils,.str [65],.str [99]]
def awZ:List A:=[.str [],.nils,.nils,.nils,.nils,.nils,.nils,.nils,.str [],.nils,.nils,.str [],.str []]
end Go.AV
end
section
namespace Go.AV
open Go
def awS:Str:=[108,97,110,103,117,97,103,101,32,101,46,32,115,111,114,116,32,65,46,32,111,112,32,97,32,58,32,34,97,34,32,45,62,32,65]++[46,32,115,116,97,114,116,32,65,46,32,99,101,108,108,32,99,32,58,32,65,32,61,32,36,46,32,119,97,116,99,104,32,99,46]
theorem aw_1:parseS awS=(awD,⟨0,[],0,0⟩):=by kernel_rfl
theorem aw_2:parseS [108,97,110,103,117,97,103,101,32,101,46,32,115,111,114,116]=(noDfn,⟨12,[],1,17⟩):=by kernel_rfl
theorem aw_3:parseS [108,97,110,103,117,97,103,101,32,101,46,10,115,111,114,116,32,65,32,66,46]=(noDfn,⟨11,[66],2,8⟩):=by kernel_rfl
theorem aw_4:termS [102,40,88,58,73,110,116,44,32,91,45,49,32,124,32,76,93,41]=(awT,⟨0,[],0,0⟩):=by kernel_rfl
theorem aw_5:termS [45,32,53]=(noTm,⟨11,[53],1,3⟩):=by kernel_rfl
theorem aw_6:parseS [108,97,110,103,117,97,103,101,32,101,46,32,115,116,97,114,116,32,65,46,32,115,116,97,114,116,32,66,46]=(noDfn,⟨14,[115,116,97,114,116],1,22⟩):=by kernel_rfl
end Go.AV
end
