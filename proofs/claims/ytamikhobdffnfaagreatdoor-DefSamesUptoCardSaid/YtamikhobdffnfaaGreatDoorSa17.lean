/-
  Part of the proof of DefSames.
-/
import Derived.Test.YtamikhobdffnfaaGreatDoorSa16
import Derived.Test.YtamikhobdffnfaaGreatDoorSa15
import Derived.Test.YtamikhobdffnfaaGreatDoorSa10
import Derived.Laws.Externs
import Derived.Lib.Bytealg
import Derived.Laws.RangeAny
set_option linter.all false
set_option maxRecDepth 1000000
set_option maxHeartbeats 40000000
section
namespace Go.AV
open Go Go.Proofs
def ev (tk:Option Nat) (es:List A):A:=match tk with
 | none=>.emp
 | some t=>.list (some t) es
@[go_sem] theorem ev_cells (tk:Option Nat) (es:List A):(ev tk es).cells=[ev tk es]:=by cases tk<;>rfl
@[go_sem] theorem ev_one (tk:Option Nat) (es:List A):(ev tk es).one=true:=by cases tk<;>rfl
@[go_sem] theorem ev_pen (s:St) (tk:Option Nat) (es:List A):penV s (ev tk es)=ev tk es:=by cases tk<;>rfl
theorem lenS_ev {tk:Option Nat} {es:List A} (h:tk=none→es=[]):lenS (ev tk es)=some (.int .i64 es.length):=by
 cases tk with
 | none=>rw[h rfl];rfl
 | some t=>rfl
theorem appL_ev {s:St} {e:TypeId} {te:TI} {ys:List A} {KV:St→A→Prop} {tk:Option Nat} {es:List A} (hn:tk=none→es=[]) (hg:∀ t,tk=some t→s.getT t=some (es.length,e))
  (he:∀ y,y∈es→y.cells.length=te.sz) (hl:es.length+ys.length≤4294967296)
  (hK:∀ tk',(tk'=none→es++ys=[])→(∀ t,tk'=some t→tk=some t∨s.getT t=none)→KV (gs s tk' (es.length+ys.length) e) (ev tk' (es++ys))):appL cx s e te ys KV (ev tk es):=by
 cases tk with
 | none =>
  have h0:=hn rfl;subst h0;cases ys with
  | nil=>exact hK none (fun _=>rfl) (fun t h=>by cases h)
  | cons y r =>
   refine ⟨⟨by simpa using hl,Nat.succ_pos _⟩,fun t ht=>?_⟩;have:=hK (some t) (fun h=>by cases h) (fun u hu=>by cases hu;exact .inr ht);simpa [gs,ev] using this
 | some t=>exact ⟨hg t rfl,he,hl,hK (some t) (fun h=>by cases h) (fun u hu=>.inl hu)⟩
theorem ev2_ge {S s:St} {tk1 tk2:Option Nat} {n1 n2:Nat} {e:TypeId} (hs:S.ge s) (h1:∀ t,tk1=some t→(none:Option Nat)=some t∨S.getT t=none) (h2:∀ t,tk2=some t→tk1=some t∨∃ n,(gs S tk1 n e).getT t=none) :
  (gs (gs S tk1 n1 e) tk2 n2 e).ge s:=by
 have f1:∀ t,tk1=some t→S.getT t=none:=fun t h=>(h1 t h).elim (fun h=>by cases h) id
 refine ⟨fun b o ho=>by rw[gA6,gA6];exact hs.ob b o ho,fun t m hm=>?_,fun x hx=>by cases tk1<;>cases tk2<;>exact hs.ls x hx⟩;have h3:=hs.tk t m hm;have g1:tk1≠some t:=fun h=>by rw[f1 t h] at h3;cases h3
 have g2:tk2≠some t:=fun h=>by
  rcases h2 t h with h|⟨n,h⟩
  ·exact g1 h
  ·rw[gs_getT,if_neg g1,h3] at h;cases h
 rw[gs_getT,if_neg g2,gs_getT,if_neg g1];exact h3
theorem oprs_hz {l:List Opr} {y:A} (hy:y∈l.map Opr.enc):y.cells.length=7:=by
 obtain ⟨z,_,rfl⟩:=List.mem_map.1 hy;rfl
theorem few48_den (x:Sig) (hB:x.ops.length+x.funs.length≤4294967296) (s:St) (KV Kp:St→A→Prop) (hk:∀ b:Bool,KV s (.bool b)):Den cx 48 [.agg x.cs] KV Kp s:=by
 simp only[go_sem];refine Den.drop ?_;(refine Den.of_body (C:=cx) Tryz.func48 rfl rfl (gC6 rfl) ?_;refine wpC_ok (V:=[0,1,2,3,5,31,38,39,40,41,58]) _ _ _ _ ?_;simp only[go_sem,Tryz.ntmps48,Tryz.f48]);(intro p hp;try simp only[gD6,ne_eq] at hp);simp only[go_sem,hp]
 (first|refine gC8 (fun h=>?_) (fun h=>?_)|refine gC9 (fun h=>?_) (fun h=>?_)|refine gD1 (fun h=>?_) (fun h=>?_))<;>simp only[go_sem,h,hp]
 ·exact DK.st (hk _) (by (repeat (first|exact St.ge.refl _|refine St.ge_set (by simp only[hp]) ?_)))
 clear h
 (first|refine gC8 (fun h=>?_) (fun h=>?_)|refine gC9 (fun h=>?_) (fun h=>?_)|refine gD1 (fun h=>?_) (fun h=>?_))<;>simp only[go_sem,h,hp]
 ·exact DK.st (hk _) (by (repeat (first|exact St.ge.refl _|refine St.ge_set (by simp only[hp]) ?_)))
 clear h
 (first|refine gC8 (fun h=>?_) (fun h=>?_)|refine gC9 (fun h=>?_) (fun h=>?_)|refine gD1 (fun h=>?_) (fun h=>?_))<;>simp only[go_sem,h,hp]
 ·exact DK.st (hk _) (by (repeat (first|exact St.ge.refl _|refine St.ge_set (by simp only[hp]) ?_)))
 clear h
 (first|refine gC8 (fun h=>?_) (fun h=>?_)|refine gC9 (fun h=>?_) (fun h=>?_)|refine gD1 (fun h=>?_) (fun h=>?_))<;>simp only[go_sem,h,hp]
 ·exact DK.st (hk _) (by (repeat (first|exact St.ge.refl _|refine St.ge_set (by simp only[hp]) ?_)))
 clear h;(refine draw_ok (V:=[0,1,2,3,5,31,38,39,40,41,58]) (OT.l [0,1,2,4,5,8,3,6,7] .nil) [(3,[5])] mixed_cx (by decide +kernel) ?_;simp only[go_sem,hp]);refine ⟨by decide,fun y hy=>oprs_hz hy,appL_ev (tk:=none) (es:=[]) (fun _=>rfl) (fun t h=>by cases h) (fun y hy=>by cases hy) (by simp only[gC4,gC3];omega) (fun tk1 hn1 hf1=>?_)⟩;simp only[go_sem,hp];refine ⟨by decide,fun y hy=>oprs_hz hy,appL_ev (fun h=>by simpa using hn1 h) (fun t ht=>by rw[gs_self t ht];simp) (fun y hy=>oprs_hz (by simpa using hy)) (by simp only[gC4,gC3,gD3];omega) (fun tk2 hn2 hf2=>?_)⟩;simp only[go_sem,hp,lenS_ev hn2]
 have hn2':tk2=none→x.ops++x.funs=[]:=fun h=>by
  have:=hn2 h;simpa using this
 have hV:∀ (i:Nat) (o:Opr),(x.ops++x.funs)[i]?=some o→∃ t,ev tk2 (List.map Opr.enc x.ops++List.map Opr.enc x.funs)=.list (some t) ((x.ops++x.funs).map Opr.enc):=fun i o ho=>by
  cases tk2 with
  | none =>
   rw[hn2' rfl] at ho;cases ho
  | some t=>exact ⟨t,by rw[List.map_append];rfl⟩
 refine Ex.loop (ι:=Int × Nat) (fun c=>[(3,.int .i64 c.1),(38,ev tk2 (List.map Opr.enc x.ops++List.map Opr.enc x.funs)),(39,.int .i64 ((x.ops++x.funs).length:Nat)),(40,.int .i64 (c.2:Nat))]) (fun _=>s)
  (fun c=>c.2≤(x.ops++x.funs).length) (fun c=>(x.ops++x.funs).length-c.2) (0,0) (Nat.zero_le _) ?_ ?_ ?_
 ·(simp only[go_sem,hp];try simp)
 ·exact ev2_ge (by (repeat (first|exact St.ge.refl _|refine St.ge_set (by simp only[hp]) ?_))) hf1 (fun t h=>(hf2 t h).imp id (fun h=>⟨_,h⟩))
 ·rintro ⟨n,i⟩ hi;simp only at hi;refine wpC_ok (V:=[0,1,2,3,5,31,38,39,40,41,58]) _ _ _ _ ?_;simp only[go_sem]
  (first|refine gC8 (fun h=>?_) (fun h=>?_)|refine gC9 (fun h=>?_) (fun h=>?_)|refine gD1 (fun h=>?_) (fun h=>?_))<;>simp only[go_sem,h]
  ·have hix:i<(x.ops++x.funs).length:=by simpa using h
   clear h;obtain ⟨o,ho⟩:∃ a,(x.ops++x.funs)[i]?=some a:=⟨_,List.getElem?_eq_getElem hix⟩
   obtain ⟨t,ht⟩:=hV i o ho;simp only[go_sem,ht,ho,hix];(intro b5 hb5;try simp only[gD6,ne_eq] at hb5);simp only[go_sem,ht,ho,hix,hb5]
   (first|refine gC8 (fun h=>?_) (fun h=>?_)|refine gC9 (fun h=>?_) (fun h=>?_)|refine gD1 (fun h=>?_) (fun h=>?_))<;>simp only[go_sem,h,hb5]
   ·exact DK.st (hk _) (by (repeat (first|exact St.ge.refl _|refine St.ge_set (by simp only[hb5]) ?_)))
   clear h;exact ⟨(_,i+1),hix,by simp only;omega,⟨rfl,wrap1 i (by rw[gC2] at hix;omega)⟩,(by (repeat (first|(refine St.ge_set ?_ ?_;focus (simp only[gD6,ne_eq,gA9,and_self,hb5]<;>done))|exact St.ge.refl _)))⟩
  ·exact DK.here (hk _)
end Go.AV
end
section
namespace Go.AV
open Go Go.Proofs
def eqW (e:Eqn):Nat:=2+e.cond.length
def partW (p:Part):Nat:=1+p.right.length
def rulW (r:Rul):Nat:=(r.parts.map partW).sum+(r.cond.length+(r.new.map fun f=>f.cells.length).sum)
def dfnW (d:Dfn):Nat:=(d.eqs.map eqW).sum+(d.once.length+(d.many.length+(d.rules.map rulW).sum))
theorem drop_getX {α:Type} {l:List α} {i:Nat} {x:α} (h:l[i]?=some x):l.drop i=x::l.drop (i+1):=by
 obtain ⟨hi,rfl⟩:=List.getElem?_eq_some_iff.1 h;exact List.drop_eq_getElem_cons hi
theorem sum_drop {α:Type} {f:α→Nat} {l:List α} {i:Nat} {x:α} (h:l[i]?=some x):((l.drop i).map f).sum=f x+((l.drop (i+1)).map f).sum:=by
 rw[drop_getX h,List.map_cons,List.sum_cons]
theorem tm_size6 (x:Tm):x.enc.cells.length=6:=by rw[Tm.enc_eq];rfl
theorem tms_hz {l:List Tm} {y:A} (hy:y∈l.map Tm.enc):y.cells.length=6:=by
 obtain ⟨z,_,rfl⟩:=List.mem_map.1 hy;exact tm_size6 z
theorem setT_setT (s:St) (t:Nat) (v w:Nat × TypeId):(s.setT t v).setT t w=s.setT t w:=by simp only[St.setT,ins_ins]
theorem cels_hz {l:List Cel} {y:A} (hy:y∈l.map Cel.enc):y.cells.length=10:=by
 obtain ⟨z,_,rfl⟩:=List.mem_map.1 hy;rfl
def TgI (s:St) (l:List Tm) (tk:Option Nat):Prop:=(tk=none→l=[])∧∀ t,tk=some t→s.getT t=none
theorem terms49_den (x:Dfn) (hB:dfnW x≤4294967296) (s:St) (KV Kp:St→A→Prop) (hk:∀ xs:List Tm,KV s (.list none (xs.map Tm.enc))):Den cx 49 [.agg x.cs] KV Kp s:=by
 refine Den.rlz fun hz1=>?_
 have hza:=hz1 _ (List.mem_cons_self ..);have hw1:Rlz (.list none (x.eqs.map Eqn.enc)):=hza.cell (by simp[Dfn.cs]);have hw2:Rlz (.list none (x.rules.map Rul.enc)):=hza.cell (by simp[Dfn.cs]);clear hz1;unfold dfnW at hB;simp only[go_sem];refine Den.drop ?_;(refine Den.of_body (C:=cx) Tryz.func49 rfl rfl (gC6 rfl) ?_;refine wpC_ok (V:=[0,1,2,3,5,7,9,11,13,15,16,17,18,38,39,40,41,51,52,53,54,58,59,60,61,78,79,80,81]) _ _ _ _ ?_;simp only[go_sem,Tryz.ntmps49,Tryz.f49]);(intro p hp;try simp only[gD6,ne_eq] at hp);simp only[go_sem,hp]
 refine Ex.loop (ι:=(List Tm × Option Nat) × Nat) (fun c=>[(1,.ptr p 0),(3,gv c.1.2 (c.1.1.map Tm.enc)),(15,.list none (x.eqs.map Eqn.enc)),(16,.int .i64 x.eqs.length),(17,.int .i64 (c.2:Nat))])
  (fun c=>gs (s.setO p (.cells 33 x.cs)) c.1.2 c.1.1.length 43)
  (fun c=>TgI s c.1.1 c.1.2∧c.2≤x.eqs.length∧c.1.1.length+((x.eqs.drop c.2).map eqW).sum≤(x.eqs.map eqW).sum) (fun c=>x.eqs.length-c.2) (([],none),0) ⟨⟨fun _=>rfl,fun t e=>(by cases e)⟩,Nat.zero_le _,by simp⟩ ?_ (by exact St.ge.refl _) ?_
 ·(simp only[go_sem,hp];try exact ⟨rfl,rfl⟩)
 ·rintro ⟨⟨l,tk⟩,i⟩ ⟨⟨hnil,hfree⟩,hi,hl⟩;simp only at hnil hfree hi hl;refine wpC_ok (V := [0,1,2,3,5,7,9,11,13,15,16,17,18,38,39,40,41,51,52,53,54,58,59,60,61,78,79,80,81]) _ _ _ _ ?_;simp only [go_sem,hp]
  (first|refine gC8 (fun h=>?_) (fun h=>?_)|refine gC9 (fun h=>?_) (fun h=>?_)|refine gD1 (fun h=>?_) (fun h=>?_))<;>simp only[go_sem,h,hp]
  ·have hix:i<x.eqs.length:=by simpa using h
   clear h;obtain ⟨e,he⟩:∃ a,x.eqs[i]?=some a:=⟨_,List.getElem?_eq_getElem hix⟩
   have hsd:=sum_drop (f:=eqW) he;have hew:eqW e=2+e.cond.length:=rfl;simp only[go_sem,hp,he,hix];(intro b5 hb5;try simp only[gA6,gD6,ne_eq] at hb5);simp only[go_sem,hp,he,hix,hb5];(refine draw_ok (V:=[0,1,2,3,5,7,9,11,13,15,16,17,18,38,39,40,41,51,52,53,54,58,59,60,61,78,79,80,81]) (OT.l [0,1,2,3,4,5,7,8,6,9,10] .nil) [(6,[8])] mixed_cx (by decide +kernel) ?_;simp only[go_sem,hp,he,hix,hb5]);refine ⟨by decide,fun y hy=>?_,appL_gv rfl rfl (by rw[gC4];exact gs_ok fun e=>by rw[hnil e];rfl) (fun y hy=>tms_hz hy) (by simp only[gC4,gC1,gC3];omega) (fun u hu=>?_)⟩
   ·simp only[gC5,List.mem_nil_iff,or_false] at hy;rcases hy with rfl|rfl<;>rfl
   have hfu:=gs_free hu hfree;rw[gs_set hu];simp only[go_sem,hp,he,hix,hb5];refine ⟨by decide,fun y hy=>tms_hz hy,by simp only[gC2,gC4,gC1,gC3],fun y hy=>?_,by simp only[gC2,gC4,gC1,gC3];omega,?_⟩
   ·simp only[List.mem_append,gC5,List.mem_nil_iff,or_false] at hy;rcases hy with hy|rfl|rfl
    ·exact tms_hz hy
    ·rfl
    ·rfl
   refine ⟨((l++[e.left,e.right]++e.cond,some u),i+1),⟨⟨fun h=>(by cases h),fun t h=>by cases h;exact hfu⟩,hix,by simp only[gC2,gC1,gC3];omega⟩,by simp only;omega,?_,?_⟩
   ·simp only[go_sem,hw1.wrap (i:=i) (by simpa using hix),gv_some,List.map_append]
   ·have e1:∀ a b:A,(List.map Tm.enc l++[a,b]).length+e.cond.length=(l++[e.left,e.right]++e.cond).length:=fun a b=>by simp only[gC2,gC4,gC1,gC3]
    rw[setT_setT,e1];exact St.ge_setT (by (repeat (first|(refine St.ge_set ?_ ?_;focus (simp only[gD6,ne_eq,gA9,and_self,hp,hb5]<;>done))|exact St.ge.refl _)))
  ·clear h;(refine draw_ok (V := [0,1,2,3,5,7,9,11,13,15,16,17,18,38,39,40,41,51,52,53,54,58,59,60,61,78,79,80,81]) (OT.l [0,1,2,4,5,8,3,6,7] .nil) [(3,[5])] mixed_cx (by decide +kernel) ?_; simp only [go_sem,hp]);refine ⟨by decide,fun y hy => cels_hz hy,appL_ev (tk := none) (es := []) (fun _ => rfl) (fun t h => by cases h) (fun y hy => by cases hy) (by simp only [gC4,gC3]; omega) (fun tk1 hn1 hf1 => ?_)⟩;simp only [go_sem,hp];refine ⟨by decide,fun y hy => cels_hz hy,appL_ev (fun h => by simpa using hn1 h) (fun t ht => by rw [gs_self t ht]; simp) (fun y hy => cels_hz (by simpa using hy)) (by simp only [gC4,gC3,gD3]; omega) (fun tk2 hn2 hf2 => ?_)⟩;simp only [go_sem,hp,lenS_ev hn2]
   have hn2':tk2=none→x.once++x.many=[]:=fun h=>by
    have:=hn2 h;simpa using this
   have hV:∀ (i:Nat) (o:Cel),(x.once++x.many)[i]?=some o→∃ t,ev tk2 (List.map Cel.enc x.once++List.map Cel.enc x.many)=.list (some t) ((x.once++x.many).map Cel.enc):=fun i o ho=>by
    cases tk2 with
    | none =>
     rw[hn2' rfl] at ho;cases ho
    | some t=>exact ⟨t,by rw[List.map_append];rfl⟩
   have hlE:l.length≤(x.eqs.map eqW).sum:=by omega
   have hVl:(x.once++x.many).length=x.once.length+x.many.length:=gC2
   refine Ex.loop (ι:=(List Tm × Option Nat) × Nat) (fun c=>[(1,.ptr p 0),(3,gv c.1.2 (c.1.1.map Tm.enc)),(38,ev tk2 (List.map Cel.enc x.once++List.map Cel.enc x.many)),(39,.int .i64 ((x.once++x.many).length:Nat)),(40,.int .i64 (c.2:Nat))])
    (fun c=>gs (s.setO p (.cells 33 x.cs)) c.1.2 c.1.1.length 43)
    (fun c=>TgI s c.1.1 c.1.2∧c.2≤(x.once++x.many).length∧c.1.1.length≤(x.eqs.map eqW).sum+c.2) (fun c=>(x.once++x.many).length-c.2) ((l,tk),0) ⟨⟨hnil,hfree⟩,Nat.zero_le _,hlE⟩ ?_ (by exact ev2_ge (St.ge.refl _) hf1 (fun t h=>(hf2 t h).imp id (fun h=>⟨_,h⟩))) ?_
   ·(simp only[go_sem,hp];try simp)
   ·clear hf2 hf1 hn1 hnil hfree hl hi hn2 hlE;rintro ⟨⟨l,tk⟩,i⟩ ⟨⟨hnil,hfree⟩,hi,hl⟩;simp only at hnil hfree hi hl;refine wpC_ok (V:=[0,1,2,3,5,7,9,11,13,15,16,17,18,38,39,40,41,51,52,53,54,58,59,60,61,78,79,80,81]) _ _ _ _ ?_;simp only[go_sem,hp]
    (first|refine gC8 (fun h=>?_) (fun h=>?_)|refine gC9 (fun h=>?_) (fun h=>?_)|refine gD1 (fun h=>?_) (fun h=>?_))<;>simp only[go_sem,h,hp]
    ·have hix:i<(x.once++x.many).length:=by simpa using h
     clear h;obtain ⟨o,ho⟩:∃ a,(x.once++x.many)[i]?=some a:=⟨_,List.getElem?_eq_getElem hix⟩
     obtain ⟨t,ht⟩:=hV i o ho;simp only[go_sem,hp,ht,ho,hix];(intro b7 hb7;try simp only[gA6,gD6,ne_eq] at hb7);simp only[go_sem,hp,ht,ho,hix,hb7];refine ⟨by decide,fun y hy=>by simp only[List.mem_singleton] at hy;subst hy;rfl,appL_gv rfl rfl (by rw[gC4];exact gs_ok fun e=>by rw[hnil e];rfl) (fun y hy=>tms_hz hy) (by simp only[gC4,gC1,gC3];omega) (fun u hu=>?_)⟩;have hfu:=gs_free hu hfree;rw[gs_set hu];simp only[go_sem,hp,ht,ho,hix,hb7];refine ⟨((l++[o.init],some u),i+1),⟨⟨fun h=>(by cases h),fun t h=>by cases h;exact hfu⟩,hix,by simp only[gC2,gC1,gC3];omega⟩,by simp only;omega,?_,?_⟩
     ·simp only[go_sem,wrap1 i (by omega),gv_some,List.map_append]
     ·rw[show l.length+1=(l++[o.init]).length by simp only[gC2,gC1,gC3]];exact St.ge_setT (by (repeat (first|(refine St.ge_set ?_ ?_;focus (simp only[gD6,ne_eq,gA9,and_self,hp,hb7]<;>done))|exact St.ge.refl _)))
    ·clear h;have hlE:l.length≤(x.eqs.map eqW).sum+(x.once.length+x.many.length):=by omega
     clear hi hl
     refine Ex.loop (ι:=(List Tm × Option Nat) × Nat) (fun c=>[(3,gv c.1.2 (c.1.1.map Tm.enc)),(51,.list none (x.rules.map Rul.enc)),(52,.int .i64 x.rules.length),(53,.int .i64 (c.2:Nat))])
      (fun c=>gs s c.1.2 c.1.1.length 43)
      (fun c=>TgI s c.1.1 c.1.2∧c.2≤x.rules.length∧c.1.1.length+((x.rules.drop c.2).map rulW).sum≤4294967296) (fun c=>x.rules.length-c.2) ((l,tk),0) ⟨⟨hnil,hfree⟩,Nat.zero_le _,by simp only[List.drop_zero];omega⟩ ?_ ?_ ?_
     ·(simp only[go_sem,hp];first|done|exact rfl|exact ⟨rfl,rfl⟩)
     ·exact gel_ge (gel_gs_gs (gel_new hp (gel_refl _ _ _)))
     ·clear hnil hfree hlE;rintro ⟨⟨l,tk⟩,i⟩ ⟨⟨hnil,hfree⟩,hi,hl⟩;simp only at hnil hfree hi hl;refine wpC_ok (V:=[0,1,2,3,5,7,9,11,13,15,16,17,18,38,39,40,41,51,52,53,54,58,59,60,61,78,79,80,81]) _ _ _ _ ?_;simp only[go_sem]
      (first|refine gC8 (fun h=>?_) (fun h=>?_)|refine gC9 (fun h=>?_) (fun h=>?_)|refine gD1 (fun h=>?_) (fun h=>?_))<;>simp only[go_sem,h]
      ·have hix:i<x.rules.length:=by simpa using h
       clear h;obtain ⟨r,hr⟩:∃ a,x.rules[i]?=some a:=⟨_,List.getElem?_eq_getElem hix⟩
       have hsd:=sum_drop (f:=rulW) hr;have hrw:rulW r=(r.parts.map partW).sum+(r.cond.length+(r.new.map fun f=>f.cells.length).sum):=rfl;simp only[go_sem,hr,hix];(intro b9 hb9;try simp only[gA6,gD6,ne_eq] at hb9);simp only[go_sem,hr,hix,hb9];have hzr:Rlz (.agg r.cs):=hw2.agg_elem (List.mem_map.2 ⟨r,List.mem_of_getElem? hr,rfl⟩);have hw3:Rlz (.list none (r.parts.map Part.enc)):=hzr.cell (by simp[Rul.cs]);have hw4:Rlz (.list none (r.new.map Fresh.enc)):=hzr.cell (by simp[Rul.cs]);rw[hsd,hrw] at hl;clear hsd hrw;have hiw:IntKind.i64.wrap ((i:Int)+1)=((i+1:Nat):Int):=hw2.wrap (i:=i) (by simpa using hix);generalize hR:((x.rules.drop (i+1)).map rulW).sum=R at hl
       refine Ex.loop (ι:=(List Tm × Option Nat) × Nat) (fun c=>[(3,gv c.1.2 (c.1.1.map Tm.enc)),(9,.ptr b9 0),(51,.list none (x.rules.map Rul.enc)),(52,.int .i64 x.rules.length),(53,.int .i64 (i:Nat)),(58,.list none (r.parts.map Part.enc)),(59,.int .i64 r.parts.length),(60,.int .i64 (c.2:Nat))])
        (fun c=>gs (s.setO b9 (.cells 84 r.cs)) c.1.2 c.1.1.length 43)
        (fun c=>TgI s c.1.1 c.1.2∧c.2≤r.parts.length∧c.1.1.length+(((r.parts.drop c.2).map partW).sum+(r.cond.length+(r.new.map fun f=>f.cells.length).sum)+R)≤4294967296) (fun c=>r.parts.length-c.2) ((l,tk),0) ⟨⟨hnil,hfree⟩,Nat.zero_le _,by simp only[List.drop_zero];omega⟩ ?_ (by exact St.ge.refl _) ?_
       ·(simp only[go_sem,hb9];first|done|exact rfl|exact ⟨rfl,rfl⟩)
       ·clear hnil hfree hl;rintro ⟨⟨l,tk⟩,j⟩ ⟨⟨hnil,hfree⟩,hj,hl⟩;simp only at hnil hfree hj hl;refine wpC_ok (V:=[0,1,2,3,5,7,9,11,13,15,16,17,18,38,39,40,41,51,52,53,54,58,59,60,61,78,79,80,81]) _ _ _ _ ?_;simp only[go_sem,hb9]
        (first|refine gC8 (fun h=>?_) (fun h=>?_)|refine gC9 (fun h=>?_) (fun h=>?_)|refine gD1 (fun h=>?_) (fun h=>?_))<;>simp only[go_sem,h,hb9]
        ·have hjx:j<r.parts.length:=by simpa using h
         clear h;obtain ⟨q,hq⟩:∃ a,r.parts[j]?=some a:=⟨_,List.getElem?_eq_getElem hjx⟩
         have hsd:=sum_drop (f:=partW) hq;have hqw:partW q=1+q.right.length:=rfl;simp only[go_sem,hb9,hq,hjx];(intro b11 hb11;try simp only[gA6,gD6,ne_eq] at hb11);simp only[go_sem,hb9,hq,hjx,hb11];(refine draw_ok (V:=[0,1,2,3,5,7,9,11,13,15,16,17,18,38,39,40,41,51,52,53,54,58,59,60,61,78,79,80,81]) (OT.l [0,1,2,3,5,6,4,7,8] .nil) [(4,[6])] mixed_cx (by decide +kernel) ?_;simp only[go_sem,hb9,hq,hjx,hb11]);refine ⟨by decide,fun y hy=>by simp only[List.mem_singleton] at hy;subst hy;rfl,appL_gv rfl rfl (by rw[gC4];exact gs_ok fun e=>by rw[hnil e];rfl) (fun y hy=>tms_hz hy) (by simp only[gC4,gC1,gC3];omega) (fun u hu=>?_)⟩;have hfu:=gs_free hu hfree;rw[gs_set hu];simp only[go_sem,hb9,hq,hjx,hb11];refine ⟨by decide,fun y hy=>tms_hz hy,by simp only[gC2,gC4,gC1,gC3],fun y hy=>?_,by simp only[gC2,gC4,gC1,gC3];omega,?_⟩
         ·simp only[List.mem_append,List.mem_singleton] at hy;rcases hy with hy|rfl
          ·exact tms_hz hy
          ·rfl
         refine ⟨((l++[q.left]++q.right,some u),j+1),⟨⟨fun h=>(by cases h),fun t h=>by cases h;exact hfu⟩,hjx,by simp only[gC2,gC1,gC3];omega⟩,by simp only;omega,?_,?_⟩
         ·simp only[go_sem,hw3.wrap (i:=j) (by simpa using hjx),gv_some,List.map_append]
         ·have e1:∀ a:A,(List.map Tm.enc l++[a]).length+q.right.length=(l++[q.left]++q.right).length:=fun a=>by simp only[gC2,gC4,gC1,gC3]
          rw[setT_setT,e1];exact St.ge_setT (by (repeat (first|(refine St.ge_set ?_ ?_;focus (simp only[gD6,ne_eq,gA9,and_self,hb9,hb11]<;>done))|exact St.ge.refl _)))
        ·clear h;have hl2:l.length+(r.cond.length+(r.new.map fun f=>f.cells.length).sum+R)≤4294967296:=by omega
         clear hl hj;refine ⟨by decide,fun y hy=>tms_hz hy,appL_gv rfl rfl (by rw[gC4];exact gs_ok fun e=>by rw[hnil e];rfl) (fun y hy=>tms_hz hy) (by simp only[gC4];omega) (fun u hu=>?_)⟩;have hfu:=gs_free hu hfree;rw[gs_set hu];simp only[go_sem,hb9]
         refine Ex.loop (ι:=(List Tm × Option Nat) × Nat) (fun c=>[(3,gv c.1.2 (c.1.1.map Tm.enc)),(51,.list none (x.rules.map Rul.enc)),(52,.int .i64 x.rules.length),(53,.int .i64 (i:Nat)),(78,.list none (r.new.map Fresh.enc)),(79,.int .i64 r.new.length),(80,.int .i64 (c.2:Nat))])
          (fun c=>gs s c.1.2 c.1.1.length 43)
          (fun c=>TgI s c.1.1 c.1.2∧c.2≤r.new.length∧c.1.1.length+(((r.new.drop c.2).map fun f=>f.cells.length).sum+R)≤4294967296) (fun c=>r.new.length-c.2) ((l++r.cond,some u),0) ⟨⟨fun h=>(by cases h),fun t h=>by cases h;exact hfu⟩,Nat.zero_le _,by simp only[List.drop_zero,gC2];omega⟩ ?_ ?_ ?_
         ·(simp only[go_sem,hb9,gv_some,List.map_append];first|done|exact rfl|exact ⟨rfl,rfl⟩)
         ·show St.ge _ ((s.setT u ((l++r.cond).length,43)));rw[gC2];exact St.ge_setT (by (repeat (first|(refine St.ge_set ?_ ?_;focus (simp only[gD6,ne_eq,gA9,and_self,hb9]<;>done))|exact St.ge.refl _)))
         ·clear hnil hfree hl2 hu hfu;rintro ⟨⟨l,tk⟩,j⟩ ⟨⟨hnil,hfree⟩,hj,hl⟩;simp only at hnil hfree hj hl;refine wpC_ok (V:=[0,1,2,3,5,7,9,11,13,15,16,17,18,38,39,40,41,51,52,53,54,58,59,60,61,78,79,80,81]) _ _ _ _ ?_;simp only[go_sem]
          (first|refine gC8 (fun h=>?_) (fun h=>?_)|refine gC9 (fun h=>?_) (fun h=>?_)|refine gD1 (fun h=>?_) (fun h=>?_))<;>simp only[go_sem,h]
          ·have hjx:j<r.new.length:=by simpa using h
           clear h;obtain ⟨q,hq⟩:∃ a,r.new[j]?=some a:=⟨_,List.getElem?_eq_getElem hjx⟩
           have hsd:((r.new.drop j).map fun f=>f.cells.length).sum=q.cells.length+((r.new.drop (j+1)).map fun f=>f.cells.length).sum:=sum_drop (f:=fun f:Fresh=>f.cells.length) hq;simp only[go_sem,hq,hjx];(intro b13 hb13;try simp only[gA6,gD6,ne_eq] at hb13);simp only[go_sem,hq,hjx,hb13];refine ⟨by decide,fun y hy=>tms_hz hy,appL_gv rfl rfl (by rw[gC4];exact gs_ok fun e=>by rw[hnil e];rfl) (fun y hy=>tms_hz hy) (by simp only[gC4];omega) (fun u hu=>?_)⟩;have hfu:=gs_free hu hfree;rw[gs_set hu];simp only[go_sem,hq,hjx,hb13];refine ⟨((l++q.cells,some u),j+1),⟨⟨fun h=>(by cases h),fun t h=>by cases h;exact hfu⟩,hjx,by simp only[gC2];omega⟩,by simp only;omega,?_,?_⟩
           ·simp only[go_sem,hw4.wrap (i:=j) (by simpa using hjx),gv_some,List.map_append]
           ·show St.ge _ ((s.setT u ((l++q.cells).length,43)));rw[gC2];exact St.ge_setT (by (repeat (first|(refine St.ge_set ?_ ?_;focus (simp only[gD6,ne_eq,gA9,and_self,hb13]<;>done))|exact St.ge.refl _)))
          ·clear h;refine ⟨((l,tk),i+1),⟨⟨hnil,hfree⟩,hix,by simp only;omega⟩,by simp only;omega,?_,St.ge.refl _⟩;simp only[go_sem,hiw]
      ·clear h;exact DK.mk (hk l) (gs_ge (St.ge.refl _) hfree) (gv_le _ _ (fun e=>by rw[hnil e];rfl))
end Go.AV
end
section
namespace Go.AV
open Go Go.Proofs
theorem few21_den (x:Dfn) (hB:dfnW x≤4294967296) (hS:x.sig.ops.length+x.sig.funs.length≤4294967296) (s:St) (KV Kp:St→A→Prop) (hk:∀ b:Bool,KV s (.bool b)):Den cx 21 [.agg x.cs] KV Kp s:=by
 refine Den.rlz fun hz1=>?_
 have hza:=hz1 _ (List.mem_cons_self ..);have hw2:Rlz (.list none (x.rules.map Rul.enc)):=hza.cell (by simp[Dfn.cs]);clear hz1;simp only[go_sem];refine Den.drop ?_;(refine Den.of_body (C:=cx) Tryz.func21 rfl rfl (gC6 rfl) ?_;refine wpC_ok (V:=[0,1,2,3,5,28,30,31,32,33,54]) _ _ _ _ ?_;simp only[go_sem,Tryz.ntmps21,Tryz.f21]);(intro p hp;try simp only[gD6,ne_eq] at hp);simp only[go_sem,hp]
 (first|refine gC8 (fun h=>?_) (fun h=>?_)|refine gC9 (fun h=>?_) (fun h=>?_)|refine gD1 (fun h=>?_) (fun h=>?_))<;>simp only[go_sem,h,hp]
 ·exact DK.st (hk _) (by (repeat (first|exact St.ge.refl _|refine St.ge_set (by simp only[hp]) ?_)))
 clear h;refine few48_den x.sig hS _ _ _ (fun b1=>?_);simp only[go_sem,hp]
 (first|refine gC8 (fun h=>?_) (fun h=>?_)|refine gC9 (fun h=>?_) (fun h=>?_)|refine gD1 (fun h=>?_) (fun h=>?_))<;>simp only[go_sem,h,hp]
 ·exact DK.st (hk _) (by (repeat (first|exact St.ge.refl _|refine St.ge_set (by simp only[hp]) ?_)))
 clear h;generalize IntKind.i64.wrap (IntKind.i64.wrap (IntKind.i64.wrap ((x.eqs.length:Int)+(x.once.length:Int))+(x.many.length:Int))+(x.rules.length:Int))=n0
 refine Ex.loop (ι:=Int × Nat) (fun c=>[(1,.ptr p 0),(3,.int .i64 c.1),(30,.list none (x.rules.map Rul.enc)),(31,.int .i64 x.rules.length),(32,.int .i64 (c.2:Nat))]) (fun _=>s.setO p (.cells 33 x.cs))
  (fun c=>c.2≤x.rules.length) (fun c=>x.rules.length-c.2) (n0,0) (Nat.zero_le _) ?_ (by exact St.ge.refl _) ?_
 ·(simp only[go_sem,hp];first|done|exact rfl|exact ⟨rfl,rfl⟩)
 ·rintro ⟨l,i⟩ hi;simp only at hi;refine wpC_ok (V:=[0,1,2,3,5,28,30,31,32,33,54]) _ _ _ _ ?_;simp only[go_sem,hp]
  (first|refine gC8 (fun h=>?_) (fun h=>?_)|refine gC9 (fun h=>?_) (fun h=>?_)|refine gD1 (fun h=>?_) (fun h=>?_))<;>simp only[go_sem,h,hp]
  ·have hix:i<x.rules.length:=by simpa using h
   obtain ⟨e,he⟩:∃ a,x.rules[i]?=some a:=⟨_,List.getElem?_eq_getElem hix⟩
   clear h;simp only[go_sem,hp,he,hix];(intro b5 hb5;try simp only[gD6,ne_eq] at hb5);simp only[go_sem,hp,he,hix,hb5]
   (first|refine gC8 (fun h=>?_) (fun h=>?_)|refine gC9 (fun h=>?_) (fun h=>?_)|refine gD1 (fun h=>?_) (fun h=>?_))<;>simp only[go_sem,h,hp,hb5]
   ·exact DK.st (hk _) (by (repeat (first|exact St.ge.refl _|refine St.ge_set (by simp only[hp,hb5]) ?_)))
   exact ⟨(_,i+1),hix,by simp only;omega,⟨rfl,hw2.wrap (i:=i) (by simpa using hix)⟩,(by (repeat (first|(refine St.ge_set ?_ ?_;focus (simp only[gD6,ne_eq,gA9,and_self,hp,hb5]<;>done))|exact St.ge.refl _)))⟩
  ·clear h;refine terms49_den x hB _ _ _ (fun xs=>?_);simp only[go_sem,hp];refine few33_den xs _ _ _ _ (fun b2=>?_);simp only[go_sem,hp];exact DK.st (hk _) (by (repeat (first|exact St.ge.refl _|refine St.ge_set (by simp only[hp]) ?_)))
end Go.AV
end
section
namespace Go.AV
open Go Go.Proofs
theorem isLetter_den (s:St) (c:Int) (KV Kp) (hk:KV s (.bool (isLet c))):Den cx 261 [.int .u8 c] KV Kp s:=by
 unfold isLet at hk;refine Den.drop ?_;(refine Den.of_body (C:=cx) Tryz.func261 rfl rfl (gC6 rfl) ?_;refine wpC_ok (V:=[0,2]) _ _ _ _ ?_;simp only[go_sem,Tryz.ntmps261,Tryz.f261])
 (repeat' (first|exact DK.st hk (by (repeat (first|exact St.ge.refl _|refine St.ge_set (by simp only[]) ?_)))|((first|refine gC8 (fun h=>?_) (fun h=>?_)|refine gC9 (fun h=>?_) (fun h=>?_)|refine gD1 (fun h=>?_) (fun h=>?_))<;>simp only[go_sem,h]<;>(try simp only[h,Bool.true_and,Bool.false_and,Bool.and_true,Bool.and_false,Bool.or_true,Bool.true_or,Bool.or_false,Bool.false_or,Bool.not_true,Bool.not_false] at hk))))
theorem isPart_den (s:St) (c:Int) (KV Kp) (hk:KV s (.bool (isPart c))):Den cx 185 [.int .u8 c] KV Kp s:=by
 unfold isPart at hk;refine Den.drop ?_;(refine Den.of_body (C:=cx) Tryz.func185 rfl rfl (gC6 rfl) ?_;refine wpC_ok (V:=[0,2]) _ _ _ _ ?_;simp only[go_sem,Tryz.ntmps185,Tryz.f185])
 (repeat' (first|exact DK.st hk (by (repeat (first|exact St.ge.refl _|refine St.ge_set (by simp only[]) ?_)))|(refine isLetter_den _ _ _ _ ?_;simp only[go_sem])|((first|refine gC8 (fun h=>?_) (fun h=>?_)|refine gC9 (fun h=>?_) (fun h=>?_)|refine gD1 (fun h=>?_) (fun h=>?_))<;>simp only[go_sem,h]<;>(try simp only[h,Bool.true_and,Bool.false_and,Bool.and_true,Bool.and_false,Bool.or_true,Bool.true_or,Bool.or_false,Bool.false_or,Bool.not_true,Bool.not_false] at hk))))
theorem isName_den (s:St) (x:List UInt8) (KV Kp) (hk:KV s (.bool (isName x))):Den cx 196 [.str x] KV Kp s:=by
 refine Den.drop ?_;(refine Den.of_body (C:=cx) Tryz.func196 rfl rfl (gC6 rfl) ?_;refine wpC_ok (V:=[0,2,3,16,18,19,20,26]) _ _ _ _ ?_;simp only[go_sem,Tryz.ntmps196,Tryz.f196])
 (first|refine gC8 (fun h=>?_) (fun h=>?_)|refine gC9 (fun h=>?_) (fun h=>?_)|refine gD1 (fun h=>?_) (fun h=>?_))<;>simp only[go_sem,h]
 ·have:x=[]:=by simpa using h
  subst this;exact DK.here hk
 have hne:x≠[]:=by simpa using h
 obtain ⟨c,r,hx⟩:=List.exists_cons_of_ne_nil hne
 (first|refine gC8 (fun h=>?_) (fun h=>?_)|refine gC9 (fun h=>?_) (fun h=>?_)|refine gD1 (fun h=>?_) (fun h=>?_))<;>simp only[go_sem,h]
 ·have h40:¬ x.length≤40:=by simp at h;omega
  have:isName x=false:=by rw[hx] at h40 ⊢;simp only[isName,h40,decide_false,Bool.false_and]
  exact DK.here (by rwa[this] at hk)
 have h40:x.length≤40:=by simp at h;omega
 have h0:x[0]?=some c:=by rw[hx];rfl
 have hl0:0<x.length:=by rw[hx];exact Nat.zero_lt_succ _
 simp only[go_sem,h0,hl0];refine isLetter_den _ _ _ _ ?_;simp only[go_sem]
 (first|refine gC8 (fun h=>?_) (fun h=>?_)|refine gC9 (fun h=>?_) (fun h=>?_)|refine gD1 (fun h=>?_) (fun h=>?_))<;>simp only[go_sem,h]
 ·have:isName x=false:=by
   have:isLet c.toNat=false:=by simpa using h
   rw[hx];simp[isName,this]
  exact DK.here (by rwa[this] at hk)
 have hl:isLet c.toNat=true:=by simpa using h
 refine Ex.loop (fun i=>[(0,.str x),(18,.int .i64 x.length),(19,.int .i64 (i:Nat))]) (fun _=>s)
  (fun i=>i≤x.length∧∀ d∈x.take i,isPart d.toNat=true) (fun i=>x.length-i) 0 ⟨Nat.zero_le _,by simp⟩ ?_ (St.ge.refl s) ?_
 ·simp only[go_sem];rfl
 ·rintro i ⟨hi,hall⟩;refine wpC_ok (V:=[0,2,3,16,18,19,20,26]) _ _ _ _ ?_;simp only[go_sem]
  (first|refine gC8 (fun h=>?_) (fun h=>?_)|refine gC9 (fun h=>?_) (fun h=>?_)|refine gD1 (fun h=>?_) (fun h=>?_))<;>simp only[go_sem,h]
  ·have hix:i<x.length:=by simpa using h
   obtain ⟨d,hd⟩:∃ d,x[i]?=some d:=⟨_,List.getElem?_eq_getElem hix⟩
   simp only[go_sem,hd,hix];refine isPart_den _ _ _ _ ?_;simp only[go_sem]
   (first|refine gC8 (fun h=>?_) (fun h=>?_)|refine gC9 (fun h=>?_) (fun h=>?_)|refine gD1 (fun h=>?_) (fun h=>?_))<;>simp only[go_sem,h]
   ·have hp:isPart d.toNat=false:=by simpa using h
    have:isName x=false:=by
     rw[hx] at hd ⊢;simp only[isName,Bool.and_eq_false_iff];refine .inr (.inr (Bool.eq_false_iff.2 fun hall=>?_));rw[List.all_eq_true] at hall;have:=hall d (List.mem_of_getElem? hd);rw[hp] at this;cases this
    exact DK.here (by rwa[this] at hk)
   ·have hp:isPart d.toNat=true:=by simpa using h
    refine ⟨i+1,⟨by omega,?_⟩,by omega,?_,St.ge.refl s⟩
    ·intro q hq;rw[List.take_add_one,hd] at hq;simp only[List.mem_append,Option.toList_some,List.mem_singleton] at hq;rcases hq with hq|rfl
     ·exact hall q hq
     ·exact hp
    ·simp only[go_sem,wrap1 i (by omega)]
  ·have hix:i=x.length:=by simp at h;omega
   have:isName x=true:=by
    rw[hix,List.take_length] at hall;rw[hx] at hall h40 ⊢;simp only[isName,hl,List.all_eq_true,gD5,decide_eq_true_eq];exact ⟨h40,trivial,hall⟩
   exact DK.here (by rwa[this] at hk)
end Go.AV
end
section
namespace Go.AV
open Go Go.Proofs
theorem Den.extern {C : Cx} {f : FuncId} {fn : Func} {e : Array Value → Sem Value} (hf : C.P.funcs[f]? = some fn) (hname : (fn.name == "runtime.NumGoroutine") = false)
  (hb:fn.body.isNone=true) (hn:Extern.findNext fn=none) (he:Extern.find fn=some e) {args:List A} {s:St} {KV Kp:St→A→Prop}
  (h:∀ g vals,Rzs g args vals→∃ v a,(∀ w,(e vals.toArray).run C.P w=.ok v w)∧Rz g a v∧KV s a):Den C f args KV Kp s:=by
 intro F g w vals hR hv;obtain ⟨v,a,h1,h2,h3⟩:=h g vals hv;rw[run_callFunc_extern hf hname hb hn he,h1];exact ⟨g,a,s,Gh.le.refl g,hR,h2,h3⟩
theorem Rzs.two {g:Gh} {a b:A} {vals:List Value} (h:Rzs g [a,b] vals):∃ u v,vals=[u,v]∧Rz g a u∧Rz g b v:=by
 have hl:=h.1
 match vals,hl with
 | [u,v],_=>exact ⟨u,v,rfl,h.2 0 a u rfl rfl,h.2 1 b v rfl rfl⟩
theorem idxByte316_den (s:St) (x:Str) (c:UInt8) (KV Kp) (hk:KV s (.int .i64 (Lib.indexByte x c))):Den cx 316 [.str x,.int .u8 c.toNat] KV Kp s:=by
 refine Den.extern (C:=cx) Tryz.func316 rfl rfl rfl (e:=Extern.BytealgIndexByte.indexByte) (by kernel_rfl) fun g vals hv=>?_
 obtain ⟨u,v,rfl,r1,r2⟩:=hv.two;rw[r1.str_inv,r2.int_inv];refine ⟨_,_,fun w=>Lib.run_indexByteString _ _ w,.int _ _,?_⟩;simpa using hk
theorem count217_den (s:St) (x:Str) (c:UInt8) (KV Kp) (hk:KV s (.int .i64 (x.count c:Nat))):Den cx 217 [.str x,.int .u8 c.toNat] KV Kp s:=by
 refine Den.extern (C:=cx) Tryz.func217 rfl rfl rfl (e:=Extern.BytealgCount.count) (by kernel_rfl) fun g vals hv=>?_
 obtain ⟨u,v,rfl,r1,r2⟩:=hv.two;rw[r1.str_inv,r2.int_inv];refine ⟨_,_,fun w=>Lib.run_countString _ _ w,.int _ _,?_⟩;simpa [Lib.countByte] using hk
theorem idxByte303_den (s:St) (x:Str) (c:UInt8) (KV Kp) (hk:KV s (.int .i64 (Lib.indexByte x c))):Den cx 303 [.str x,.int .u8 c.toNat] KV Kp s:=by
 refine Den.drop ?_;(refine Den.of_body (C:=cx) Tryz.func303 rfl rfl (gC6 rfl) ?_;refine wpC_ok (V:=[0,1,4]) _ _ _ _ ?_;simp only[go_sem,Tryz.ntmps303,Tryz.f303])
 (repeat' (first|exact DK.st hk (by (repeat (first|exact St.ge.refl _|refine St.ge_set (by simp only[]) ?_)))|(refine idxByte316_den _ _ _ _ _ ?_;simp only[go_sem])|((first|refine gC8 (fun h=>?_) (fun h=>?_)|refine gC9 (fun h=>?_) (fun h=>?_)|refine gD1 (fun h=>?_) (fun h=>?_))<;>simp only[go_sem,h]<;>(try simp only[h,Bool.true_and,Bool.false_and,Bool.and_true,Bool.and_false,Bool.or_true,Bool.true_or,Bool.or_false,Bool.false_or,Bool.not_true,Bool.not_false] at hk))))
theorem idxByte298_den (s:St) (x:Str) (c:UInt8) (KV Kp) (hk:KV s (.int .i64 (Lib.indexByte x c))):Den cx 298 [.str x,.int .u8 c.toNat] KV Kp s:=by
 refine Den.drop ?_;(refine Den.of_body (C:=cx) Tryz.func298 rfl rfl (gC6 rfl) ?_;refine wpC_ok (V:=[0,1,4]) _ _ _ _ ?_;simp only[go_sem,Tryz.ntmps298,Tryz.f298])
 (repeat' (first|exact DK.st hk (by (repeat (first|exact St.ge.refl _|refine St.ge_set (by simp only[]) ?_)))|(refine idxByte303_den _ _ _ _ _ ?_;simp only[go_sem])|((first|refine gC8 (fun h=>?_) (fun h=>?_)|refine gC9 (fun h=>?_) (fun h=>?_)|refine gD1 (fun h=>?_) (fun h=>?_))<;>simp only[go_sem,h]<;>(try simp only[h,Bool.true_and,Bool.false_and,Bool.and_true,Bool.and_false,Bool.or_true,Bool.true_or,Bool.or_false,Bool.false_or,Bool.not_true,Bool.not_false] at hk))))
theorem hasPre311_den (s:St) (x p:Str) (KV Kp) (hk:KV s (.bool (hasPre x p))):Den cx 311 [.str x,.str p] KV Kp s:=by
 unfold hasPre at hk;refine Den.drop ?_;(refine Den.of_body (C:=cx) Tryz.func311 rfl rfl (gC6 rfl) ?_;refine wpC_ok (V:=[0,1,4]) _ _ _ _ ?_;simp only[go_sem,Tryz.ntmps311,Tryz.f311])
 (first|refine gC8 (fun h=>?_) (fun h=>?_)|refine gC9 (fun h=>?_) (fun h=>?_)|refine gD1 (fun h=>?_) (fun h=>?_))<;>simp only[go_sem,h]<;>(try simp only[h,Bool.true_and,Bool.false_and,Bool.and_true,Bool.and_false,Bool.or_true,Bool.true_or,Bool.or_false,Bool.false_or,Bool.not_true,Bool.not_false] at hk)
 ·have hl:p.length≤x.length:=by simpa using h
  simp only[go_sem,hl];exact DK.here hk
 ·exact DK.here hk
theorem hasPre299_den (s:St) (x p:Str) (KV Kp) (hk:KV s (.bool (hasPre x p))):Den cx 299 [.str x,.str p] KV Kp s:=by
 refine Den.drop ?_;(refine Den.of_body (C:=cx) Tryz.func299 rfl rfl (gC6 rfl) ?_;refine wpC_ok (V:=[0,1,4]) _ _ _ _ ?_;simp only[go_sem,Tryz.ntmps299,Tryz.f299])
 (repeat' (first|exact DK.st hk (by (repeat (first|exact St.ge.refl _|refine St.ge_set (by simp only[]) ?_)))|(refine hasPre311_den _ _ _ _ _ ?_;simp only[go_sem])|((first|refine gC8 (fun h=>?_) (fun h=>?_)|refine gC9 (fun h=>?_) (fun h=>?_)|refine gD1 (fun h=>?_) (fun h=>?_))<;>simp only[go_sem,h]<;>(try simp only[h,Bool.true_and,Bool.false_and,Bool.and_true,Bool.and_false,Bool.or_true,Bool.true_or,Bool.or_false,Bool.false_or,Bool.not_true,Bool.not_false] at hk))))
theorem lastIdx219_den (s:St) (x:Str) (c:UInt8) (KV Kp) (hx:x.length≤4294967296) (hk:KV s (.int .i64 (lastTo x c x.length))):Den cx 219 [.str x,.int .u8 c.toNat] KV Kp s:=by
 refine Den.drop ?_;(refine Den.of_body (C:=cx) Tryz.func219 rfl rfl (gC6 rfl) ?_;refine wpC_ok (V:=[0,1,4,5,10,17]) _ _ _ _ ?_;simp only[go_sem,Tryz.ntmps219,Tryz.f219]);rw[wrap_in _ (by omega) (by omega)]
 refine Ex.loop (fun n=>[(0,.str x),(1,.int .u8 c.toNat),(5,.int .i64 ((n:Nat)-1:Int))]) (fun _=>s)
  (fun n=>n≤x.length∧lastTo x c x.length=lastTo x c n) (fun n=>n) x.length ⟨Nat.le_refl _,rfl⟩ ?_ (St.ge.refl s) ?_
 ·simp only[go_sem]
 ·rintro n ⟨hn,he⟩;refine wpC_ok (V:=[0,1,4,5,10,17]) _ _ _ _ ?_;simp only[go_sem]
  (first|refine gC8 (fun h=>?_) (fun h=>?_)|refine gC9 (fun h=>?_) (fun h=>?_)|refine gD1 (fun h=>?_) (fun h=>?_))<;>simp only[go_sem,h]
  ·obtain ⟨m,rfl⟩:∃ m,n=m+1:=⟨n-1,by simp at h;omega⟩
   have e1:(((m+1:Nat):Int)-1)=(m:Int):=by omega
   have hm:m<x.length:=by omega
   obtain ⟨d,hd⟩:∃ d,x[m]?=some d:=⟨_,List.getElem?_eq_getElem hm⟩
   simp only[go_sem,e1,hm,hd]
   (first|refine gC8 (fun h=>?_) (fun h=>?_)|refine gC9 (fun h=>?_) (fun h=>?_)|refine gD1 (fun h=>?_) (fun h=>?_))<;>simp only[go_sem,h]
   ·have hdc:d=c:=by
     have:d.toNat=c.toNat:=by simpa using h
     exact UInt8.toNat_inj.1 this
    subst hdc;rw[he,lastTo,if_pos hd] at hk;exact DK.here hk
   ·have hdc:¬ d=c:=by
     rintro rfl;simp at h
    rw[wrap_in _ (by omega) (by omega)];refine ⟨m,⟨by omega,?_⟩,by omega,?_,St.ge.refl s⟩
    ·rw[he,lastTo,if_neg (by rw[hd];simpa using hdc)]
    ·simp only[go_sem]
  ·have h0:n=0:=by simp at h;omega
   subst h0;rw[he,lastTo] at hk;exact DK.here hk
theorem lastIdx143_den (s:St) (x:Str) (c:UInt8) (KV Kp) (hx:x.length≤4294967296) (hk:KV s (.int .i64 (lastTo x c x.length))):Den cx 143 [.str x,.int .u8 c.toNat] KV Kp s:=by
 refine Den.drop ?_;(refine Den.of_body (C:=cx) Tryz.func143 rfl rfl (gC6 rfl) ?_;refine wpC_ok (V:=[0,1,4]) _ _ _ _ ?_;simp only[go_sem,Tryz.ntmps143,Tryz.f143])
 (repeat' (first|exact DK.st hk (by (repeat (first|exact St.ge.refl _|refine St.ge_set (by simp only[]) ?_)))|(refine lastIdx219_den _ _ _ _ _ hx ?_;simp only[go_sem])|((first|refine gC8 (fun h=>?_) (fun h=>?_)|refine gC9 (fun h=>?_) (fun h=>?_)|refine gD1 (fun h=>?_) (fun h=>?_))<;>simp only[go_sem,h]<;>(try simp only[h,Bool.true_and,Bool.false_and,Bool.and_true,Bool.and_false,Bool.or_true,Bool.true_or,Bool.or_false,Bool.false_or,Bool.not_true,Bool.not_false] at hk))))
theorem isDigit_den (s:St) (c:Int) (KV Kp) (hk:KV s (.bool (isDig c))):Den cx 301 [.int .u8 c] KV Kp s:=by
 unfold isDig at hk;refine Den.drop ?_;(refine Den.of_body (C:=cx) Tryz.func301 rfl rfl (gC6 rfl) ?_;refine wpC_ok (V:=[0,2]) _ _ _ _ ?_;simp only[go_sem,Tryz.ntmps301,Tryz.f301])
 (repeat' (first|exact DK.st hk (by (repeat (first|exact St.ge.refl _|refine St.ge_set (by simp only[]) ?_)))|((first|refine gC8 (fun h=>?_) (fun h=>?_)|refine gC9 (fun h=>?_) (fun h=>?_)|refine gD1 (fun h=>?_) (fun h=>?_))<;>simp only[go_sem,h]<;>(try simp only[h,Bool.true_and,Bool.false_and,Bool.and_true,Bool.and_false,Bool.or_true,Bool.true_or,Bool.or_false,Bool.false_or,Bool.not_true,Bool.not_false] at hk))))
theorem run_den (s:St) (x:Str) (f:FuncId) (p:UInt8→Bool) (KV Kp) (hx:x.length≤4294967296)
  (hf:∀ (c:UInt8) KV Kp,KV s (.bool (p c))→Den cx f [.int .u8 c.toNat] KV Kp s)
  (hk:KV s (.int .i64 (x.takeWhile p).length)):Den cx 300 [.str x,.fn f [] []] KV Kp s:=by
 refine Den.drop ?_;(refine Den.of_body (C:=cx) Tryz.func300 rfl rfl (gC6 rfl) ?_;refine wpC_ok (V:=[0,1,4,5,16]) _ _ _ _ ?_;simp only[go_sem,Tryz.ntmps300,Tryz.f300])
 refine Ex.loop (fun n=>[(0,.str x),(1,.fn f [] []),(5,.int .i64 (n:Nat))]) (fun _=>s)
  (fun n=>n≤x.length∧(x.takeWhile p).length=n+((x.drop n).takeWhile p).length) (fun n=>x.length-n) 0 ⟨Nat.zero_le _,by simp⟩ ?_ (St.ge.refl s) ?_
 ·simp only[go_sem];rfl
 ·rintro n ⟨hn,he⟩;refine wpC_ok (V:=[0,1,4,5,16]) _ _ _ _ ?_;simp only[go_sem]
  (first|refine gC8 (fun h=>?_) (fun h=>?_)|refine gC9 (fun h=>?_) (fun h=>?_)|refine gD1 (fun h=>?_) (fun h=>?_))<;>simp only[go_sem,h]
  ·have hn':n<x.length:=by simpa using h
   obtain ⟨d,hd⟩:∃ d,x[n]?=some d:=⟨_,List.getElem?_eq_getElem hn'⟩
   have hdr:x.drop n=d::x.drop (n+1):=by
    rw[List.drop_eq_getElem_cons hn'];congr 1;rw[List.getElem?_eq_getElem hn'] at hd;simpa using hd
   simp only[go_sem,hd,hn'];refine hf _ _ _ ?_;simp only[go_sem]
   (first|refine gC8 (fun h=>?_) (fun h=>?_)|refine gC9 (fun h=>?_) (fun h=>?_)|refine gD1 (fun h=>?_) (fun h=>?_))<;>simp only[go_sem,h]
   ·have hp:p d=true:=by simpa using h
    refine ⟨n+1,⟨by omega,?_⟩,by omega,?_,St.ge.refl s⟩
    ·rw[he,hdr,List.takeWhile_cons_of_pos hp,gC1];omega
    ·simp only[go_sem,wrap1 n (by omega)]
   ·have hp:¬ p d=true:=by simp[h]
    rw[he,hdr,List.takeWhile_cons_of_neg hp] at hk;exact DK.here (by simpa using hk)
  ·have hn':n=x.length:=by simp at h;omega
   subst hn';rw[he,List.drop_length] at hk;exact DK.here (by simpa using hk)
end Go.AV
end
section
namespace Go.AV
open Go Go.Proofs
theorem St.ge_same {s:St} {b:Nat} {o:Ob} (h:s.getO b=some o):s.ge (s.setO b o) :=
 ⟨fun c x hc => by
  rw[gA1] at hc;split at hc
  ·rename_i e;subst e;rw[h];exact hc
  ·exact hc,fun _ _ h=>h,fun _ h=>h⟩
def rdCs (x:Str) (at_ line col:Nat) (sg:List Str) (op:Bool):List A:=[.str x,.int .i64 at_,.int .i64 line,.int .i64 col,.list none (sg.map .str),.bool op]
theorem adv_app:∀ (w v:Str) (p:Nat × Nat),adv p (w++v)=adv (adv p w) v
 | [],v,p=>rfl
 | b::w,v,(l,c)=>by
  simp only[gD2,adv];split<;>exact adv_app w v _
theorem adv_le:∀ (w:Str) (p:Nat × Nat) (k:Nat),p.1≤k+1→p.2≤k+1→(adv p w).1≤k+w.length+1∧(adv p w).2≤k+w.length+1
 | [],p,k,h1,h2=>⟨h1,h2⟩
 | b::w,(l,c),k,h1,h2=>by
  simp only[adv,gC1];split
  ·have:=adv_le w (l+1,1) (k+1) (by simpa using h1) (by simp);omega
  ·have:=adv_le w (l,c+1) (k+1) (by have:l≤k+1:=h1;simp;omega) (by simpa using h2);omega
theorem skip_den (s:St) (r:Nat) (x:Str) (at_ l c n:Nat) (sg:List Str) (op:Bool) (KV Kp)
  (hr:s.getO r=some (.cells 226 (rdCs x at_ l c sg op))) (hx:x.length≤4294967296) (hn:at_+n≤x.length) (hl:l≤at_+1) (hc:c≤at_+1)
  (hk:KV (s.setO r (.cells 226 (rdCs x (at_+n) (adv (l,c) ((x.drop at_).take n)).1 (adv (l,c) ((x.drop at_).take n)).2 sg op))) (.tuple [])) :
  Den cx 279 [.ptr r 0,.int .i64 n] KV Kp s:=by
 refine Den.drop ?_;(refine Den.of_body (C:=cx) Tryz.func279 rfl rfl (gC6 rfl) ?_;refine wpC_ok (V:=[0,1,4,5,6,23]) _ _ _ _ ?_;simp only[go_sem,Tryz.ntmps279,Tryz.f279])
 refine Ex.loop (fun i=>[(0,.ptr r 0),(4,.int .i64 n),(5,.int .i64 (i:Nat))])
  (fun i=>s.setO r (.cells 226 (rdCs x (at_+i) (adv (l,c) ((x.drop at_).take i)).1 (adv (l,c) ((x.drop at_).take i)).2 sg op)))
  (fun i=>i≤n) (fun i=>n-i) 0 (Nat.zero_le _) ?_ ?_ ?_
 ·simp only[go_sem];rfl
 ·simp only[Nat.add_zero,List.take_zero,adv];exact St.ge_same hr
 ·intro i hi;refine wpC_ok (V:=[0,1,4,5,6,23]) _ _ _ _ ?_;have hb:=adv_le ((x.drop at_).take i) (l,c) at_ hl hc;have hlen:((x.drop at_).take i).length=i:=by rw[List.length_take,gD4];omega
  rw[hlen] at hb;simp only[go_sem]
  (first|refine gC8 (fun h=>?_) (fun h=>?_)|refine gC9 (fun h=>?_) (fun h=>?_)|refine gD1 (fun h=>?_) (fun h=>?_))<;>simp only[go_sem,h]
  ·have hin:i<n:=by simpa using h
   have hix:at_+i<x.length:=by omega
   obtain ⟨d,hd⟩:∃ d,x[at_+i]?=some d:=⟨_,List.getElem?_eq_getElem hix⟩
   simp only[go_sem,rdCs];rw[wrap1 _ (by omega)];(refine draw_ok (V:=[0,1,4,5,6,23]) (OT.l [0,1,2,3,4,5,6,7,8,9] .nil) [] mixed_cx (by decide +kernel) ?_;simp only[go_sem,hd,hix])
   have hst:adv (l,c) ((x.drop at_).take (i+1))=adv (adv (l,c) ((x.drop at_).take i)) [d]:=by
    rw[List.take_add_one,List.getElem?_drop,hd,adv_app];rfl
   have e5:IntKind.i64.wrap ((i:Int)+1)=((i+1:Nat):Int):=wrap1 i (by omega);have e1:IntKind.i64.wrap (((at_+i:Nat):Int)+1)=((at_+(i+1):Nat):Int):=by rw[wrap1 _ (by omega)];rfl
   have e2:IntKind.i64.wrap (((adv (l,c) ((x.drop at_).take i)).1:Int)+1)=(((adv (l,c) ((x.drop at_).take i)).1+1:Nat):Int):=wrap1 _ (by omega)
   (first|refine gC8 (fun h=>?_) (fun h=>?_)|refine gC9 (fun h=>?_) (fun h=>?_)|refine gD1 (fun h=>?_) (fun h=>?_))<;>simp only[go_sem,h,e1,e2,e5]
   ·have hd10:d=10:=by
     have:d.toNat=10:=by simp at h;omega
     exact UInt8.toNat_inj.1 this
    refine ⟨i+1,by omega,by omega,rfl,?_⟩;rw[hst];simp only[adv,hd10,if_true];exact St.ge.refl _
   ·have hd10:¬ d=10:=by rintro rfl;simp at h
    refine ⟨i+1,by omega,by omega,rfl,?_⟩;rw[hst];simp only[adv,hd10,if_false];exact St.ge.refl _
  ·have hin:i=n:=by simp at h;omega
   subst hin;exact DK.here hk
end Go.AV
end
section
namespace Go.AV
open Go Go.Proofs
@[go_sem] theorem take_drop_all (x:Str) (n:Nat):(x.drop n).take (x.length-n)=x.drop n:=List.take_of_length_le (by rw[gD4];exact Nat.le_refl _)
theorem takeWhile_pre {b:UInt8} {r:Str} (h:hasPre (b::r) [47,47]=true):1≤((b::r).takeWhile (fun c=>!decide (c=10))).length:=by
 have hb:b=47:=by
  simp only[hasPre,gD5,decide_eq_true_eq] at h;have:=h.2;simp at this;exact this.1
 subst hb;simp[List.takeWhile]
theorem blk_fuel:∀ (f g:Nat) (w:Str),w.length≤f→w.length≤g→blk f w=blk g w
 | f,g,[],_,_=>by cases f<;>cases g<;>rfl
 | 0,g,b::r,h,_=>by simp at h
 | f,0,b::r,_,h=>by simp at h
 | f+1,g+1,b::r,hf,hg=>by
  simp only[gC1] at hf hg;simp only[blk];split
  ·rw[blk_fuel f g r (by omega) (by omega)]
  ·split
   ·rename_i hp;have:=takeWhile_pre hp;rw[blk_fuel f g _ (by rw[gD4,gC1];omega) (by rw[gD4,gC1];omega)]
   ·rfl
theorem blks_nil:blks []=0:=rfl
theorem blks_blank {b:UInt8} {r:Str} (h:isBlank b=true):blks (b::r)=1+blks r:=by
 simp only[blks,gC1,blk,h,if_true]
theorem blks_note {b:UInt8} {r:Str} (hb:isBlank b=false) (h:hasPre (b::r) [47,47]=true) :
  blks (b::r)=((b::r).takeWhile (fun c=>!decide (c=10))).length+blks ((b::r).drop ((b::r).takeWhile (fun c=>!decide (c=10))).length):=by
 have:=takeWhile_pre h;simp only[blks,gC1,blk,hb,gD7,if_false,h,if_true];rw[blk_fuel r.length _ _ (by rw[gD4,gC1];omega) (Nat.le_refl _)]
theorem blks_none {b:UInt8} {r:Str} (hb:isBlank b=false) (h:hasPre (b::r) [47,47]=false):blks (b::r)=0:=by
 simp only[blks,gC1,blk,hb,gD7,if_false,h]
theorem idx_blank (b:UInt8):decide (0≤Lib.indexByte [32,9,10,13] b)=isBlank b:=by
 by_cases h1:b=32
 ·subst h1;decide
 by_cases h2:b=9
 ·subst h2;decide
 by_cases h3:b=10
 ·subst h3;decide
 by_cases h4:b=13
 ·subst h4;decide
 have e1:((32:UInt8) == b)=false:=beq_eq_false_iff_ne.2 fun e=>h1 e.symm
 have e2:((9:UInt8) == b)=false:=beq_eq_false_iff_ne.2 fun e=>h2 e.symm
 have e3:((10:UInt8) == b)=false:=beq_eq_false_iff_ne.2 fun e=>h3 e.symm
 have e4:((13:UInt8) == b)=false:=beq_eq_false_iff_ne.2 fun e=>h4 e.symm
 simp[Lib.indexByte,isBlank,e1,e2,e3,e4,h1,h2,h3,h4]
theorem idx_line (w:Str):(if Lib.indexByte w 10<0 then ((w.length:Nat):Int) else Lib.indexByte w 10)=((w.takeWhile (fun c=>!decide (c=10))).length:Nat)∧(Lib.indexByte w 10=-1∨0≤Lib.indexByte w 10):=by
 induction w with
 | nil=>simp[Lib.indexByte]
 | cons b r ih =>
  obtain ⟨ih,ih2⟩:=ih;unfold Lib.indexByte;by_cases hb:b=10
  ·subst hb;simp
  ·have hb':(b == 10)=false:=by simpa using hb
   rw[hb'];simp only[gD7,if_false];have htw:(b::r).takeWhile (fun c=>!decide (c=10))=b::r.takeWhile (fun c=>!decide (c=10)):=by simp[List.takeWhile,hb]
   rw[htw];rcases ih2 with h|h
   ·rw[h] at ih ⊢;simp only[show ((-1:Int)<0) from by decide,if_true] at ih;simp only[beq_self_eq_true,if_true,show ((-1:Int)<0) from by decide,gC1];exact ⟨by omega,.inl trivial⟩
   ·have h1:¬ Lib.indexByte r 10<0:=by omega
    have h2:(Lib.indexByte r 10 == -1)=false:=by simpa using (by omega:¬ Lib.indexByte r 10=-1)
    rw[if_neg h1] at ih;rw[h2];simp only[gD7,if_false,gC1];rw[if_neg (by omega)];exact ⟨by omega,.inr (by omega)⟩
theorem blanks_den (s:St) (r:Nat) (x:Str) (at_ l c:Nat) (sg:List Str) (op:Bool) (KV Kp)
  (hr:s.getO r=some (.cells 226 (rdCs x at_ l c sg op))) (hx:x.length≤4294967296) (ha:at_≤x.length) (hl:l≤at_+1) (hc:c≤at_+1)
  (hk:KV (s.setO r (.cells 226 (rdCs x (at_+blks (x.drop at_)) (adv (l,c) ((x.drop at_).take (blks (x.drop at_)))).1 (adv (l,c) ((x.drop at_).take (blks (x.drop at_)))).2 sg op))) (.tuple [])) :
  Den cx 277 [.ptr r 0] KV Kp s:=by
 refine Den.drop ?_;(refine Den.of_body (C:=cx) Tryz.func277 rfl rfl (gC6 rfl) ?_;refine wpC_ok (V:=[0,2,3,13,23,30,36]) _ _ _ _ ?_;simp only[go_sem,Tryz.ntmps277,Tryz.f277])
 refine Ex.loop (fun k=>[(0,.ptr r 0)])
  (fun k=>s.setO r (.cells 226 (rdCs x (at_+k) (adv (l,c) ((x.drop at_).take k)).1 (adv (l,c) ((x.drop at_).take k)).2 sg op)))
  (fun k=>at_+k≤x.length∧blks (x.drop at_)=k+blks (x.drop (at_+k))) (fun k=>x.length-(at_+k)) 0 ⟨by omega,by simp⟩ ?_ ?_ ?_
 ·simp only[go_sem]
 ·simp only[Nat.add_zero,List.take_zero,adv];exact St.ge_same hr
 ·rintro k ⟨hkx,hb⟩;have hlen:((x.drop at_).take k).length=k:=by rw[List.length_take,gD4];omega
  have hal:=adv_le ((x.drop at_).take k) (l,c) at_ hl hc;rw[hlen] at hal
  have hstep:∀ m,adv (l,c) ((x.drop at_).take (k+m))=adv (adv (l,c) ((x.drop at_).take k)) ((x.drop (at_+k)).take m):=by
   intro m;rw[List.take_add,adv_app,List.drop_drop]
  refine wpC_ok (V:=[0,2,3,13,23,30,36]) _ _ _ _ ?_;simp only[go_sem];(refine draw_ok (V:=[0,2,3,13,23,30,36]) (OT.l [0,1,2,3,4,5,6,7,8,9] .nil) [] mixed_cx (by decide +kernel) ?_;simp only[go_sem,rdCs])
  (first|refine gC8 (fun h=>?_) (fun h=>?_)|refine gC9 (fun h=>?_) (fun h=>?_)|refine gD1 (fun h=>?_) (fun h=>?_))<;>simp only[go_sem,h]
  ·have hlt:at_+k<x.length:=by simpa using h
   have hcons:∃ d w,x.drop (at_+k)=d::w:=by
    rw[List.drop_eq_getElem_cons hlt];exact ⟨_,_,rfl⟩
   obtain ⟨d,w,hw⟩:=hcons;have ha':at_+k≤x.length:=by omega
   have htk:(d::w).take (x.length-(at_+k))=d::w:=by rw[← hw];exact take_drop_all x _
   (refine draw_ok (V:=[0,2,3,13,23,30,36]) (OT.l [0,1,2,3,4,5,6,7,8,9] .nil) [] mixed_cx (by decide +kernel) ?_;simp only[go_sem,rdCs,hw,htk,ha',Nat.le_refl]);refine idxByte298_den _ _ _ _ _ ?_;simp only[go_sem,idx_blank]
   (first|refine gC8 (fun h=>?_) (fun h=>?_)|refine gC9 (fun h=>?_) (fun h=>?_)|refine gD1 (fun h=>?_) (fun h=>?_))<;>simp only[go_sem,h]
   ·
    refine skip_den _ r x (at_+k) _ _ 1 sg op _ _ (by rw[gA1,if_pos rfl];rfl) hx (by omega) (by omega) (by omega) ?_;simp only[go_sem];refine ⟨k+1,⟨by omega,?_⟩,by omega,?_⟩
    ·rw[hb,hw,blks_blank h,show at_+(k+1)=at_+k+1 from rfl,← List.drop_drop,hw];simp;omega
    ·rw[hstep 1];exact St.ge.refl _
   ·refine hasPre299_den _ _ _ _ _ ?_;simp only[go_sem]
    (first|refine gC8 (fun h=>?_) (fun h=>?_)|refine gC9 (fun h=>?_) (fun h=>?_)|refine gD1 (fun h=>?_) (fun h=>?_))<;>simp only[go_sem,h]
    ·have hbl:isBlank d=false:=by assumption
     have hp:=h;refine idxByte298_den _ _ 10 _ _ ?_;simp only[go_sem];have hi:=idx_line (d::w);have hpos:=takeWhile_pre hp;have hle:((d::w).takeWhile (fun c=>!decide (c=10))).length≤(d::w).length:=(List.takeWhile_sublist _).length_le;have hwl:(d::w).length=x.length-(at_+k):=by rw[← hw,gD4]
     have fin:∀ m:Nat,m=((d::w).takeWhile (fun c=>!decide (c=10))).length→at_+k+m≤x.length∧blks (x.drop at_)=k+m+blks (x.drop (at_+(k+m))):=by
      rintro m rfl;refine ⟨by omega,?_⟩;have:=blks_note hbl hp;rw[hb,hw,this,← Nat.add_assoc at_,← List.drop_drop,hw];omega
     generalize hm:((d::w).takeWhile (fun c=>!decide (c=10))).length=m at hi hpos hle;obtain ⟨f1,f2⟩:=fin m hm.symm
     (first|refine gC8 (fun h=>?_) (fun h=>?_)|refine gC9 (fun h=>?_) (fun h=>?_)|refine gD1 (fun h=>?_) (fun h=>?_))<;>simp only[go_sem,h]
     ·have hlt:Lib.indexByte (d::w) 10<0:=by simpa using h
      have e:=hi.1;rw[if_pos hlt] at e;have e:w.length+1=m:=by simp at e;omega
      rw[e];refine skip_den _ r x (at_+k) _ _ m sg op _ _ (by rw[gA1,if_pos rfl];rfl) hx f1 (by omega) (by omega) ?_;simp only[go_sem];refine ⟨k+m,⟨by omega,f2⟩,by omega,?_⟩;rw[hstep m,Nat.add_assoc at_ k m];exact St.ge.refl _
     ·have hlt:¬ Lib.indexByte (d::w) 10<0:=by simpa using h
      have e:=hi.1;rw[if_neg hlt] at e;rw[e];refine skip_den _ r x (at_+k) _ _ m sg op _ _ (by rw[gA1,if_pos rfl];rfl) hx f1 (by omega) (by omega) ?_;simp only[go_sem];refine ⟨k+m,⟨by omega,f2⟩,by omega,?_⟩;rw[hstep m,Nat.add_assoc at_ k m];exact St.ge.refl _
    ·have hbl:isBlank d=false:=by assumption
     rw[hb,hw,blks_none hbl h,Nat.add_zero] at hk;exact DK.here hk
  ·have hkl:at_+k=x.length:=by simp at h;omega
   have e:blks (x.drop at_)=k:=by rw[hb,hkl,List.drop_length,blks_nil];rfl
   rw[e] at hk;exact DK.here hk
end Go.AV
end
section
namespace Go.AV
open Go Go.Proofs
theorem dec_low {x:Str} {i:Nat} {d:UInt8} (hd:x[i]?=some d) (h:d.toNat<128):Utf8.decode ⟨x.toArray⟩ i=(d.toNat,1):=by
 have hi:i<x.length:=(List.getElem?_eq_some_iff.1 hd).1;have hs:i<(ByteArray.mk x.toArray).size:=by simpa [ByteArray.size] using hi
 have e:(ByteArray.mk x.toArray)[i]'hs=d:=by
  exact (List.getElem?_eq_some_iff.1 hd).2
 have:=decode_ascii ⟨x.toArray⟩ i hs (by rw[e];exact h);rw[this,e]
theorem dec_high {x:Str} {i:Nat} {d:UInt8} (hd:x[i]?=some d) (h:128≤d.toNat):128≤(Utf8.decode ⟨x.toArray⟩ i).1:=by
 have hi:i<x.length:=(List.getElem?_eq_some_iff.1 hd).1;have hs:i<(ByteArray.mk x.toArray).size:=by simpa [ByteArray.size] using hi
 have e:(ByteArray.mk x.toArray)[i]'hs=d:=by
  exact (List.getElem?_eq_some_iff.1 hd).2
 exact (decode_high ⟨x.toArray⟩ i hs (by rw[e];exact h)).1
theorem isString_den (s:St) (x:Str) (KV Kp) (hk:KV s (.bool (isStr x))):Den cx 273 [.str x] KV Kp s:=by
 refine Den.drop ?_;(refine Den.of_body (C:=cx) Tryz.func273 rfl rfl (gC6 rfl) ?_;refine wpC_ok (V:=[0,2,4,6,7,8,23]) _ _ _ _ ?_;simp only[go_sem,Tryz.ntmps273,Tryz.f273]);intro b hb;simp only[go_sem]
 refine Ex.loop (fun i=>[(0,.str x),(6,.ptr b 0)]) (fun i=>s.setO b (.iter x i))
  (fun i=>i≤x.length∧∀ d∈x.take i,okB d=true) (fun i=>x.length-i) 0 ⟨Nat.zero_le _,by simp⟩ ?_ (St.ge.refl _) ?_
 ·simp only[go_sem]
 ·rintro i ⟨hi,hall⟩;refine wpC_ok (V:=[0,2,4,6,7,8,23]) _ _ _ _ ?_;by_cases hlt:i<x.length
  ·obtain ⟨d,hd⟩:∃ d,x[i]?=some d:=⟨_,List.getElem?_eq_getElem hlt⟩
   have bad:okB d=false→∀ o,DK KV (s.setO b o) (.bool false):=fun ho o=>by
    have:isStr x=false:=by
     rw[isStr,Bool.and_eq_false_iff];refine .inl (Bool.eq_false_iff.2 fun hall=>?_);rw[List.all_eq_true] at hall;rw[hall d (List.mem_of_getElem? hd)] at ho;cases ho
    rw[this] at hk;exact DK.st hk (St.ge_new hb)
   by_cases hlow:d.toNat<128
   ·by_cases ho:okB d=true
    ·have ho':=ho;simp only[okB,gD5,decide_eq_true_eq,Bool.not_eq_true',decide_eq_false_iff_not] at ho';obtain ⟨o1,o2,o3,o4⟩:=ho';have n3:¬ d.toNat=34:=fun e=>o3 (UInt8.toNat_inj.1 e)
     have n4:¬ d.toNat=92:=fun e=>o4 (UInt8.toNat_inj.1 e)
     have e1:decide ((d.toNat:Int)<32)=false:=decide_eq_false (by omega);have e2:decide (126<(d.toNat:Int))=false:=decide_eq_false (by omega);have e3:decide ((d.toNat:Int)=34)=false:=decide_eq_false (by omega);have e4:decide ((d.toNat:Int)=92)=false:=decide_eq_false (by omega);simp only[go_sem,hlt,dec_low hd hlow,e1,e2,e3,e4];refine ⟨i+1,⟨by omega,fun q hq=>?_⟩,by omega,St.ge.refl _⟩;rw[List.take_add_one,hd] at hq;simp only[List.mem_append,Option.toList_some,List.mem_singleton] at hq;rcases hq with hq|rfl
     ·exact hall q hq
     ·exact ho
    ·have ho':okB d=false:=by simpa using ho
     have bad:=bad ho';by_cases o1:32≤d.toNat
     ·have e1:decide ((d.toNat:Int)<32)=false:=decide_eq_false (by omega);by_cases o2:d.toNat≤126
      ·have e2:decide (126<(d.toNat:Int))=false:=decide_eq_false (by omega);by_cases o3:d.toNat=34
       ·have e3:decide ((d.toNat:Int)=34)=true:=decide_eq_true (by omega);simp only[go_sem,hlt,dec_low hd hlow,e1,e2,e3];exact bad _
       ·have e3:decide ((d.toNat:Int)=34)=false:=decide_eq_false (by omega)
        have o4:d.toNat=92:=by
         have n3:¬ d=34:=fun e=>o3 (by rw[e];rfl)
         simp only[okB,o1,o2,n3,decide_true,decide_false,Bool.true_and,Bool.not_false,Bool.not_eq_false',decide_eq_true_eq] at ho';rw[ho'];rfl
        have e4:decide ((d.toNat:Int)=92)=true:=decide_eq_true (by omega);simp only[go_sem,hlt,dec_low hd hlow,e1,e2,e3,e4];exact bad _
      ·have e2:decide (126<(d.toNat:Int))=true:=decide_eq_true (by omega);simp only[go_sem,hlt,dec_low hd hlow,e1,e2];exact bad _
     ·have e1:decide ((d.toNat:Int)<32)=true:=decide_eq_true (by omega);simp only[go_sem,hlt,dec_low hd hlow,e1];exact bad _
   ·have hh:=dec_high hd (by omega);have e1:decide (((Utf8.decode ⟨x.toArray⟩ i).1:Int)<32)=false:=decide_eq_false (by omega);have e2:decide (126<((Utf8.decode ⟨x.toArray⟩ i).1:Int))=true:=decide_eq_true (by omega);simp only[go_sem,hlt,e1,e2];exact bad (by simp only[okB,show ¬ d.toNat≤126 from by omega,decide_false,Bool.false_and,Bool.and_false]) _
  ·have hix:i=x.length:=by omega
   simp only[go_sem,hlt];refine DK.st (s2:=s) ?_ (St.ge_new hb)
   have:isStr x=decide ((x.length:Int)≤200):=by
    rw[isStr]
    have:x.all okB=true:=by
     rw[List.all_eq_true];intro d hd;rw[hix,List.take_length] at hall;exact hall d hd
    rw[this,Bool.true_and];congr 1;simp;omega
   rwa[this] at hk
end Go.AV
end
section
namespace Go.AV
open Go Go.Proofs
theorem trimByte_den (s:St) (x:Str) (c:UInt8) (KV Kp) (hk:KV s (.str (x.dropWhile (eqB c)))):Den cx 323 [.str x,.int .u8 c.toNat] KV Kp s:=by
 refine Den.drop ?_;(refine Den.of_body (C:=cx) Tryz.func323 rfl rfl (gC6 rfl) ?_;refine wpC_ok (V:=[0,1,4,13]) _ _ _ _ ?_;simp only[go_sem,Tryz.ntmps323,Tryz.f323])
 refine Ex.loop (fun w=>[(0,.str w),(1,.int .u8 c.toNat)]) (fun _=>s)
  (fun w=>w.dropWhile (eqB c)=x.dropWhile (eqB c)) (fun w=>w.length) x rfl ?_ (St.ge.refl s) ?_
 ·simp only[go_sem]
 ·intro w hw;refine wpC_ok (V:=[0,1,4,13]) _ _ _ _ ?_;cases w with
  | nil =>
   simp only[go_sem,show decide ((0:Int)<((0:Nat):Int))=false from rfl];rw[← hw] at hk;exact DK.here hk
  | cons b r =>
   simp only[go_sem,show decide ((0:Int)<((r.length+1:Nat):Int))=true from decide_eq_true (by omega)]
   have e:decide (b.toNat=c.toNat)=eqB c b:=by
    unfold eqB;congr 1;exact propext UInt8.toNat_inj
   simp only[go_sem,e]
   (first|refine gC8 (fun h=>?_) (fun h=>?_)|refine gC9 (fun h=>?_) (fun h=>?_)|refine gD1 (fun h=>?_) (fun h=>?_))<;>simp only[go_sem,h]
   ·simp only[go_sem,show (1:Int)≤((r.length+1:Nat):Int) from by omega,show Int.toNat 1=1 from rfl];refine ⟨by decide,r,?_,by omega,?_,St.ge.refl s⟩
    ·rw[← hw,List.dropWhile_cons,if_pos h]
    ·exact List.take_of_length_le (by omega)
   ·rw[← hw,List.dropWhile_cons,if_neg (by simp[h])] at hk;exact DK.here hk
theorem trimLeft_den (s:St) (x:Str) (c:UInt8) (KV Kp) (hc:c.toNat<128) (hk:KV s (.str (x.dropWhile (eqB c)))):Den cx 314 [.str x,.str [c]] KV Kp s:=by
 refine Den.drop ?_;(refine Den.of_body (C:=cx) Tryz.func314 rfl rfl (gC6 rfl) ?_;refine wpC_ok (V:=[0,1,4,5,6,12,21,31]) _ _ _ _ ?_;simp only[go_sem,Tryz.ntmps314,Tryz.f314]);cases x with
 | nil =>
  simp only[go_sem];exact DK.here hk
 | cons b r =>
  simp only[go_sem,show decide (((1:Nat):Int)=1)=true from rfl,show decide ((c.toNat:Int)<128)=true from decide_eq_true (by omega)];refine trimByte_den _ _ _ _ _ ?_;simp only[go_sem];exact DK.here hk
end Go.AV
end
section
namespace Go.AV
open Go Go.Proofs
theorem numOf_app (x:Str) (d:UInt8):numOf (x++[d])=numOf x * 10+(d.toNat-48):=by
 simp[numOf,List.foldl_append]
theorem numOf_lt:∀ (n:Nat) (x:Str),x.length=n→digits x→numOf x<10 ^ n
 | 0,x,h,_=>by have:x=[]:=List.eq_nil_of_length_eq_zero h;subst this;simp[numOf]
 | n+1,x,h,hd=>by
  have hne:x≠[]:=by rintro rfl;simp at h
  obtain ⟨y,d,rfl⟩:∃ y d,x=y++[d]:=⟨x.dropLast,x.getLast hne,(List.dropLast_concat_getLast hne).symm⟩
  have ih:=numOf_lt n y (by simpa using h) (fun e he=>hd e (by simp[he]));have:=hd d (by simp);rw[numOf_app,Nat.pow_succ];omega
theorem atoi_den (s:St) (x:Str) (KV Kp) (hl:1≤x.length) (hl2:x.length≤11) (hd:digits x) (hk:KV s (.tuple [.int .i64 (numOf x),.nili])):Den cx 327 [.str x] KV Kp s:=by
 obtain ⟨b,r,rfl⟩:∃ b r,x=b::r:=by
  cases x with
  | nil=>simp at hl
  | cons b r=>exact ⟨b,r,rfl⟩
 have hb:=hd b (by simp);refine Den.drop ?_;(refine Den.of_body (C:=cx) Tryz.func327 rfl rfl (gC6 rfl) ?_;refine wpC_ok (V:=[0,2,3,4,5,6,8,9,10,30,39,44,47,48,49,50,56,66]) _ _ _ _ ?_;simp only[go_sem,Tryz.ntmps327,Tryz.f327]);have e1:decide ((0:Int)<((r.length+1:Nat):Int))=true:=decide_eq_true (by omega);have e2:decide (((r.length+1:Nat):Int)<19)=true:=decide_eq_true (by simp at hl2;omega);have e3:decide ((b.toNat:Int)=45)=false:=decide_eq_false (by omega);have e4:decide ((b.toNat:Int)=43)=false:=decide_eq_false (by omega);simp only[go_sem,e1,e2,e3,e4];refine ⟨by unfold maxLen;simp at hl2;omega,?_⟩;have hx:(b::r).length=r.length+1:=rfl;generalize hxx:b::r=x at *
 refine Ex.loop (fun i=>[(5,.str x),(6,.int .i64 (numOf (x.take i):Nat)),(47,.list none (x.map fun c=>.int .u8 c.toNat)),(48,.int .i64 ((r.length+1:Nat))),(49,.int .i64 (i:Nat)),(3,.nili)]) (fun _=>s)
  (fun i=>i≤x.length) (fun i=>x.length-i) 0 (Nat.zero_le _) ?_ (St.ge.refl s) ?_
 ·simp only[go_sem];subst hxx;exact ⟨rfl,rfl,rfl⟩
 ·intro i hi;refine wpC_ok (V:=[0,2,3,4,5,6,8,9,10,30,39,44,47,48,49,50,56,66]) _ _ _ _ ?_;simp only[go_sem]
  (first|refine gC8 (fun h=>?_) (fun h=>?_)|refine gC9 (fun h=>?_) (fun h=>?_)|refine gD1 (fun h=>?_) (fun h=>?_))<;>simp only[go_sem,h]
  ·have hix:i<x.length:=by simp at h;omega
   obtain ⟨d,hdd⟩:∃ d,x[i]?=some d:=⟨_,List.getElem?_eq_getElem hix⟩
   have hdig:=hd d (List.mem_of_getElem? hdd)
   have f1:IntKind.u8.wrap ((d.toNat:Int)-48)=((d.toNat-48:Nat):Int):=by
    have e0:((d.toNat:Int)-48) % 2 ^ 8=(d.toNat:Int)-48:=by omega
    simp only[IntKind.wrap,IntKind.signed,IntKind.bits,Bool.false_and,gD7,if_false,e0];omega
   have hn:numOf (x.take i)<10 ^ 11:=by
    have h1:=numOf_lt (x.take i).length (x.take i) rfl (fun e he=>hd e (List.mem_of_mem_take he));have h2:(x.take i).length≤11:=by rw[List.length_take];omega
    exact Nat.lt_of_lt_of_le h1 (Nat.pow_le_pow_right (by decide) h2)
   have f2:decide ((9:Int)<((d.toNat-48:Nat):Int))=false:=decide_eq_false (by omega)
   have f3:IntKind.i64.wrap (((numOf (x.take i):Nat):Int) * 10)=((numOf (x.take i) * 10:Nat):Int):=by
    rw[wrap_in _ (by omega) (by omega)];omega
   have f4:IntKind.i64.wrap ((d.toNat-48:Nat):Int)=((d.toNat-48:Nat):Int):=wrap_in _ (by omega) (by omega)
   have f5:IntKind.i64.wrap (((numOf (x.take i) * 10:Nat):Int)+((d.toNat-48:Nat):Int))=((numOf (x.take (i+1)):Nat):Int):=by
    rw[List.take_add_one,hdd];show _=((numOf (x.take i++[d]):Nat):Int);rw[numOf_app,wrap_in _ (by omega) (by omega)];omega
   simp only[go_sem,hdd,hix,f1,f2,f3,f4,f5,wrap1 i (by omega)];exact ⟨i+1,by omega,by omega,⟨rfl,rfl⟩,St.ge.refl s⟩
  ·have hix:i=x.length:=by simp at h;omega
   have h0:x[0]?=some b:=by rw[← hxx];rfl
   have hl0:0<x.length:=by omega
   simp only[go_sem,h0,hl0,e3];rw[hix,List.take_length];exact DK.here hk
theorem atoi315_den (s:St) (x:Str) (KV Kp) (hl:1≤x.length) (hl2:x.length≤11) (hd:digits x) (hk:KV s (.tuple [.int .i64 (numOf x),.nili])):Den cx 315 [.str x] KV Kp s:=by
 refine Den.drop ?_;(refine Den.of_body (C:=cx) Tryz.func315 rfl rfl (gC6 rfl) ?_;refine wpC_ok (V:=[0,2,3,4,5,12]) _ _ _ _ ?_;simp only[go_sem,Tryz.ntmps315,Tryz.f315]);refine atoi_den _ _ _ _ hl hl2 hd ?_;simp only[go_sem];exact DK.here hk
end Go.AV
end
section
namespace Go.AV
open Go Go.Proofs
theorem number_den (s:St) (x:Str) (KV Kp) (hx:x.length≤4294967296) (hk:KV s (.tuple [(numTok x).1.enc,.int .i64 (numTok x).2.1,.bool (numTok x).2.2])):Den cx 302 [.str x] KV Kp s:=by
 refine Den.drop ?_;(refine Den.of_body (C:=cx) Tryz.func302 rfl rfl (gC6 rfl) ?_;refine wpC_ok (V:=[0,2,3,4,5,6,28]) _ _ _ _ ?_;simp only[go_sem,Tryz.ntmps302,Tryz.f302]);intro b hb;simp only[go_sem,hb];refine run_den _ _ _ (fun c=>isDig c.toNat) _ _ hx (fun c KV Kp h=>isDigit_den _ _ _ _ h) ?_;generalize hn:(x.takeWhile fun c=>isDig c.toNat).length=n at hk;have hnl:n≤x.length:=by rw[← hn];exact (List.takeWhile_sublist _).length_le
 simp only[go_sem,hnl];refine trimLeft_den _ _ 48 _ _ (by decide) ?_;simp only[go_sem];generalize hg:(x.take n).dropWhile (eqB 48)=g at hk
 have bad:(10<g.length∨(∃ c,x[n]?=some c∧isPart c.toNat=true))→numTok x=(⟨0,[],0,0,0⟩,0,false):=by
  intro hh;simp only[numTok,hn,hg,if_pos hh]
 have good:¬ (10<g.length∨(∃ c,x[n]?=some c∧isPart c.toNat=true))→numTok x=(⟨2,[],numOf g,0,0⟩,n,decide (numOf g≤2147483647)):=by
  intro hh;simp only[numTok,hn,hg,if_neg hh]
 have hdg:digits g:=by
  intro d hd;rw[← hg] at hd;have h1:=(List.dropWhile_sublist _).mem hd;rw[← hn] at h1
  have h2:d∈x.takeWhile fun c=>isDig c.toNat:=by
   have:=List.mem_of_mem_take (l:=x) h1
   have e:x.take (x.takeWhile fun c=>isDig c.toNat).length=x.takeWhile fun c=>isDig c.toNat:=by
    conv=>lhs;arg 2;rw[← List.takeWhile_append_dropWhile (p:=fun c=>isDig c.toNat) (l:=x)]
    rw[List.take_left'];rfl
   rw[e] at h1;exact h1
  have h3:=List.all_eq_true.1 (List.all_takeWhile (p:=fun c:UInt8=>isDig c.toNat) (l:=x)) d h2;simp only[isDig,gD5,decide_eq_true_eq] at h3;omega
 (first|refine gC8 (fun h=>?_) (fun h=>?_)|refine gC9 (fun h=>?_) (fun h=>?_)|refine gD1 (fun h=>?_) (fun h=>?_))<;>simp only[go_sem,h,hb]
 ·rw[bad (.inl (by simp at h;omega))] at hk;exact DK.st hk (St.ge_new hb)
 ·have hg10:¬ 10<g.length:=by simp at h;omega
  (first|refine gC8 (fun h=>?_) (fun h=>?_)|refine gC9 (fun h=>?_) (fun h=>?_)|refine gD1 (fun h=>?_) (fun h=>?_))<;>simp only[go_sem,h,hb]
  ·have hlt:n<x.length:=by simpa using h
   obtain ⟨c,hc⟩:∃ c,x[n]?=some c:=⟨_,List.getElem?_eq_getElem hlt⟩
   simp only[go_sem,hc,hlt,hb];refine isPart_den _ _ _ _ ?_;simp only[go_sem,hb]
   (first|refine gC8 (fun h=>?_) (fun h=>?_)|refine gC9 (fun h=>?_) (fun h=>?_)|refine gD1 (fun h=>?_) (fun h=>?_))<;>simp only[go_sem,h,hb]
   ·rw[bad (.inr ⟨c,hc,h⟩)] at hk;exact DK.st hk (St.ge_new hb)
   ·have hno:¬ (10<g.length∨(∃ c,x[n]?=some c∧isPart c.toNat=true)):=by
     rintro (h1|⟨c',h1,h2⟩)
     ·exact hg10 h1
     ·rw[hc] at h1;cases h1;rw[h] at h2;cases h2
    have hgd:=good hno;rw[hgd] at hk;have m1:(48::g).length≤11:=by simp;omega
    refine ⟨by unfold maxLen;omega,?_⟩
    refine atoi315_den _ _ _ _ (by simp) m1 (fun d hd=>by
     simp only[gC5] at hd;rcases hd with rfl|hd
     ·decide
     ·exact hdg d hd) ?_
    have m2:numOf (48::g)=numOf g:=rfl;simp only[go_sem,hb,m2];have m3:decide (((numOf g:Nat):Int)≤2147483647)=decide (numOf g≤2147483647):=by congr 1;simp only[eq_iff_iff];omega
    rw[m3];exact DK.st hk (St.ge_new hb)
  ·have hno:¬ (10<g.length∨(∃ c,x[n]?=some c∧isPart c.toNat=true)):=by
    rintro (h1|⟨c',h1,h2⟩)
    ·exact hg10 h1
    ·have:=(List.getElem?_eq_some_iff.1 h1).1;simp at h;omega
   have hgd:=good hno;rw[hgd] at hk;have m1:(48::g).length≤11:=by simp;omega
   refine ⟨by unfold maxLen;omega,?_⟩
   refine atoi315_den _ _ _ _ (by simp) m1 (fun d hd=>by
    simp only[gC5] at hd;rcases hd with rfl|hd
    ·decide
    ·exact hdg d hd) ?_
   have m2:numOf (48::g)=numOf g:=rfl;simp only[go_sem,hb,m2];have m3:decide (((numOf g:Nat):Int)≤2147483647)=decide (numOf g≤2147483647):=by congr 1;simp only[eq_iff_iff];omega
   rw[m3];exact DK.st hk (St.ge_new hb)
end Go.AV
end
section
namespace Go.AV
open Go Go.Proofs
theorem count142_den (s:St) (x:Str) (c:UInt8) (KV Kp) (hk:KV s (.int .i64 (x.count c:Nat))):Den cx 142 [.str x,.str [c]] KV Kp s:=by
 refine Den.drop ?_;(refine Den.of_body (C:=cx) Tryz.func142 rfl rfl (gC6 rfl) ?_;refine wpC_ok (V:=[0,1,4,5,6,9,15,24]) _ _ _ _ ?_;simp only[go_sem,Tryz.ntmps142,Tryz.f142]);simp only[go_sem,show decide (((1:Nat):Int)=0)=false from rfl,show decide (((1:Nat):Int)=1)=true from rfl];refine count217_den _ _ _ _ _ ?_;simp only[go_sem];exact DK.here hk
theorem slIndex_den (s:St) (l:List Str) (x:Str) (KV Kp) (hk:∀ r:Int,(0≤r↔x∈l)→KV s (.int .i64 r)):Den cx 198 [.list none (l.map .str),.str x] KV Kp s:=by
 refine Den.rlz fun hz1=>?_
 have hlw:=hz1 _ (List.mem_cons_self ..);refine Den.drop ?_;(refine Den.of_body (C:=cx) Tryz.func198 rfl rfl (gC6 rfl) ?_;refine wpC_ok (V:=[0,1,4,5,7,8,9,16]) _ _ _ _ ?_;simp only[go_sem,Tryz.ntmps198,Tryz.f198])
 refine Ex.loop (fun i=>[(0,.list none (l.map .str)),(1,.str x),(7,.int .i64 l.length),(8,.int .i64 (i:Nat))]) (fun _=>s)
  (fun i=>i≤l.length∧∀ j,j<i→l[j]?≠some x) (fun i=>l.length-i) 0 ⟨Nat.zero_le _,fun j hj=>by omega⟩ ?_ (St.ge.refl s) ?_
 ·simp only[go_sem];rfl
 ·rintro i ⟨hi,hall⟩;refine wpC_ok (V:=[0,1,4,5,7,8,9,16]) _ _ _ _ ?_;simp only[go_sem]
  (first|refine gC8 (fun h=>?_) (fun h=>?_)|refine gC9 (fun h=>?_) (fun h=>?_)|refine gD1 (fun h=>?_) (fun h=>?_))<;>simp only[go_sem,h]
  ·have hix:i<l.length:=by simpa using h
   obtain ⟨a,ha⟩:∃ a,l[i]?=some a:=⟨_,List.getElem?_eq_getElem hix⟩
   simp only[go_sem,ha,hix]
   (first|refine gC8 (fun h=>?_) (fun h=>?_)|refine gC9 (fun h=>?_) (fun h=>?_)|refine gD1 (fun h=>?_) (fun h=>?_))<;>simp only[go_sem,h]
   ·have hxa:x=a:=by simpa using h
    subst hxa;have hm:x∈l:=List.mem_of_getElem? ha;exact DK.here (hk _ ⟨fun _=>hm,fun _=>by omega⟩)
   ·have hxa:¬ x=a:=by simpa using h
    refine ⟨i+1,⟨by omega,fun j hj=>?_⟩,by omega,?_,St.ge.refl s⟩
    ·by_cases hji:j=i
     ·subst hji;rw[ha];simpa [eq_comm] using hxa
     ·exact hall j (by omega)
    ·simp only[go_sem,hlw.wrap (i:=i) (by simpa using hix)]
  ·have hix:i=l.length:=by simp at h;omega
   have hm:¬ x∈l:=by
    intro hm;obtain ⟨j,hj,e⟩:=List.getElem_of_mem hm;exact hall j (by omega) (by rw[List.getElem?_eq_getElem hj,e])
   exact DK.here (hk _ ⟨fun h=>absurd h (by decide),fun h=>absurd h hm⟩)
theorem contains_den (s:St) (l:List Str) (x:Str) (KV Kp) (hk:KV s (.bool (decide (x∈l)))):Den cx 108 [.list none (l.map .str),.str x] KV Kp s:=by
 refine Den.drop ?_;(refine Den.of_body (C:=cx) Tryz.func108 rfl rfl (gC6 rfl) ?_;refine wpC_ok (V:=[0,1,4]) _ _ _ _ ?_;simp only[go_sem,Tryz.ntmps108,Tryz.f108]);refine slIndex_den _ _ _ _ _ fun r hr=>?_
 simp only[go_sem];have:decide (0≤r)=decide (x∈l):=by simp only[hr]
 rw[this];exact DK.here hk
end Go.AV
end
