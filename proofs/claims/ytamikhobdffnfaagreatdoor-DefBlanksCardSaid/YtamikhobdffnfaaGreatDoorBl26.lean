/-
  Part of the proof of DefBlanks.
-/
import Derived.Test.YtamikhobdffnfaaGreatDoorBl25
set_option linter.all false
set_option maxRecDepth 1000000
set_option maxHeartbeats 40000000
section
namespace Go.AV
open Go Go.Proofs
structure GrQ {α:Type} (b1 b3 r:Nat) (s:St) (acc:List α) (tk:Option Nat) (i:Nat):Prop where
 len:acc.length≤i
 h1:s.getO b1=some (.cells 74 [.ptr r 0])
 h3:s.getO b3=some (.cells 191 [.ptr r 6])
 ne:b1≠r∧b3≠r
 nil:tk=none→acc=[]
 free:∀ t,tk=some t→s.getT t=none
def sorS (T:List Tok) (fin:Fault) (d:Dc) (first:Tok) (r:Nat) (s:St) (acc:List Str) (tk:Option Nat) (i n:Nat):St :=
 gs (s.setO r (psO T fin { d with sorts:=gv tk (acc.map .str) } first i n)) tk acc.length 9
def manS (T:List Tok) (fin:Fault) (d:Dc) (first:Tok) (r:Nat) (s:St) (acc:List Cel) (tk:Option Nat) (i n:Nat):St :=
 gs (s.setO r (psO T fin { d with many:=gv tk (acc.map Cel.enc) } first i n)) tk acc.length 68
section
variable {T:List Tok} {fin:Fault} {d:Dc} {first:Tok} {i n:Nat} {s:St} {r:Nat} {KV Kp:St→A→Prop}
theorem once_den (hT:TOk T) (b1:Nat) (old:Bool) (h1:s.getO b1=some (.cells 74 [.ptr r 0])) (hr:s.getO r=some (psO T fin d first i n)) (hi:i+1≤T.length)
  (hk:match old with|true=>PB s r Kp (failAt fin 14 (T.drop i))|false=>KV (s.setO r (psO T fin d first (i+1) n)) (.tuple [])):Den cx 225 [.bool old,.ptr b1 0] KV Kp s:=by
 have hlen:=hT.len;have hr2:=hr;simp only[go_sem] at hr2;refine Den.drop ?_;(refine Den.of_body (C:=cx) Tryz.func225 rfl rfl (gC6 rfl) ?_;refine wpC_ok (V:=[0,1,3]) _ _ _ _ ?_;simp only[go_sem,Tryz.ntmps225,Tryz.f225]);cases old with
 | true =>
  simp only[go_sem,h1];refine fail_den 14 hr (by omega) hT ?_;exact hk.here hr
 | false =>
  simp only[go_sem,h1,hr2,wrap1 i (by omega)];exact DK.here hk
theorem sort1_den (hT:TOk T) (b1 b3:Nat) (acc:List Str) (tk:Option Nat) (hQ:GrQ b1 b3 r s acc tk i) (hi:i≤T.length) (hn:n≤2000)
  (hk : (someR fin 40 acc.length (T.drop i) n fun w n => nameR fin w n).to (fun a w n' => ∀ j y,i + 1 ≤ j → j ≤ T.length → T.drop j = w → n' ≤ 2000 → GrQ b1 b3 r s (acc ++ [a]) y j → KV (sorS T fin d first r s (acc ++ [a]) y j n') (.bool true))
   (fun f=>∀ s1 o,s1.gx s r→s1.getO r=some o→Kp s1 (.iface 36 f.enc))):Den cx 147 [.ptr b1 0,.ptr b3 0] KV Kp (sorS T fin d first r s acc tk i n):=by
 obtain ⟨hac,h1,h3,⟨n1,n3⟩,hnil,hfree⟩:=hQ;have hlenT:=hT.len;have hg:gok (sorS T fin d first r s acc tk i n) tk (acc.map A.str).length 9:=by rw[gC4];exact gs_ok fun e=>by rw[hnil e];rfl
 refine Den.drop ?_;(refine Den.of_body (C:=cx) Tryz.func147 rfl rfl (gC6 rfl) ?_;refine wpC_ok (V:=[0,1,2,3,14]) _ _ _ _ ?_;simp only[go_sem,Tryz.ntmps147,Tryz.f147]);unfold sorS;simp only[go_sem,h1,h3,n1,n1.symm,n3,n3.symm];refine peek_den (d:={ d with sorts:=gv tk (acc.map A.str) }) (T:=T) (fin:=fin) (first:=first) (i:=i) (n:=n) (by simp only[gA1,gA2,gA3,gA6,ne_eq,gA9,reduceIte,h1,h3,n1,n1.symm,n3,n3.symm]<;>(first|done|rfl|assumption)) hi ?_;cases hw:T.drop i with
 | nil=>rw[hw] at hk;exact DK.here (hk _ (psO T fin { d with sorts:=gv tk (acc.map A.str) } first i n) (by (repeat (first|refine St.gx_gs ?_ hfree|refine St.gx_T hfree ?_|exact gA8 _ _|refine St.gx_r ?_))) (by simp only[gA1,gA2,gA3,gA6,ne_eq,gA9,reduceIte,h1,h3,n1,n1.symm,n3,n3.symm]<;>(first|done|rfl|assumption)))
 | cons t w =>
  obtain ⟨g1,g2,g3,g4⟩:=drop_get hw;rw[hw] at hk
  have hsome:(t.free=true→¬ 40≤acc.length)→(nameR fin (T.drop i) n).to (fun a w n'=>∀ j y,i+1≤j→j≤T.length→T.drop j=w→n'≤2000→GrQ b1 b3 r s (acc++[a]) y j→KV (sorS T fin d first r s (acc++[a]) y j n') (.bool true))
    (fun f=>∀ s1 o,s1.gx s r→s1.getO r=some o→Kp s1 (.iface 36 f.enc)):=fun h=>by
   rw[hw];simp only[someR] at hk;rw[if_neg (fun hc=>h hc.1 hc.2)] at hk;exact hk
  simp only[go_sem,h1,h3,n1,n1.symm,n3,n3.symm];(intro b5 hb5;try simp only[gA5,gA6,gD6,ne_eq] at hb5);have e53:=St.ne_of h3 hb5.2;have e51:=St.ne_of h1 hb5.2;simp only[go_sem,h1,h3,n1,n1.symm,n3,n3.symm,hb5,e53,e51];cases c1:decide (t.kind=1)
  ·have hk5:=hsome (fun hf=>by simp[Tok.free,c1] at hf);simp only[go_sem,h1,h3,n1,n1.symm,n3,n3.symm,hb5,e53,e51,c1];(refine draw_ok (V:=[0,1,2,3,14]) (OT.l [0,1,2,3,4,5,6,7,8,9,10,11,12,13] .nil) [(7,[0,1,5]),(9,[0])] mixed_cx (by decide +kernel) ?_;simp only[go_sem,h1,h3,n1,n1.symm,n3,n3.symm,hb5,e53,e51]);refine name_den (d:={ d with sorts:=gv tk (acc.map A.str) }) (T:=T) (fin:=fin) (first:=first) (i:=i) (n:=n) (by simp only[gA1,gA2,gA3,gA6,ne_eq,gA9,reduceIte,h1,h3,n1,n1.symm,n3,n3.symm,hb5,e53,e51]<;>(first|done|rfl|assumption)) hi hT (Rd.to_mono hk5 (fun x w2 m2 hk6 hlt hw2 hm2=>?_) (fun f h=>PB.of (by (repeat (first|refine St.gx_gs ?_ hfree|refine St.gx_T hfree ?_|exact gA8 _ _|refine St.gx_r ?_|refine gA7 (by first|simp only[hb5]|assumption) ?_|refine St.gx_T (by first|simp only[hb5]|assumption) ?_))) h));subst m2;have hj:i+1≤i+1:=Nat.le_refl _;simp only[go_sem,h1,h3,n1,n1.symm,n3,n3.symm,hb5,e53,e51];refine ⟨by decide,fun y hy=>by simp only[List.mem_singleton] at hy;subst hy;rfl,appL_gv rfl rfl (by rw[gC4];exact gs_ok fun e=>by rw[hnil e];rfl) (fun y hy=>?_) (by simp only[gC4,gC1,gC3];omega) (fun u hu=>?_)⟩
   ·simp only[List.mem_map] at hy;obtain ⟨q,_,rfl⟩:=hy;rfl
   have hfu:=gs_free hu hfree;rw[gs_set hu];simp only[go_sem,h1,h3,n1,n1.symm,n3,n3.symm,hb5,e53,e51];have hk7:=hk6 (i+1) (some u) hj hlt hw2 hn ⟨by simp only[gC2,gC1,gC3];omega,h1,h3,⟨n1,n3⟩,fun e=>(by cases e),fun t' e=>by cases e;exact hfu⟩;refine DK.st hk7 ?_;simp only[sorS,gv_some,List.map_append,List.map_cons,List.map_nil,gC2,gC1,gC3,gC4];exact (by (refine gel_ge ?_;repeat (first|exact gel_refl _ _ _|refine gel_gs_gs ?_|refine gel_to_gs gs_self ?_|refine gB1 ?_|refine gB2 ?_|refine gel_gs ?_ hfree|refine gel_newT hfree ?_|refine gel_set (by simp only[gA1,gA2,gA3,gA6,ne_eq,gA9,reduceIte,h1,h3,n1,n1.symm,n3,n3.symm,hb5,e53,e51]<;>(first|done|rfl|assumption)) ?_|refine gB3 ?_|refine gel_new (by first|simp only[hb5]|assumption) ?_)))
  simp only[go_sem,h1,h3,n1,n1.symm,n3,n3.symm,hb5,e53,e51,c1];refine isReserved145_den _ _ _ _ ?_;simp only[go_sem,h1,h3,n1,n1.symm,n3,n3.symm,hb5,e53,e51];cases c2:decide (t.text∈reservedW);rotate_left
  ·have hk5:=hsome (fun hf=>by simp[Tok.free,c2] at hf);simp only[go_sem,h1,h3,n1,n1.symm,n3,n3.symm,hb5,e53,e51,c2];(refine draw_ok (V:=[0,1,2,3,14]) (OT.l [0,1,2,3,4,5,6,7,8,9,10,11,12,13] .nil) [(7,[0,1,5]),(9,[0])] mixed_cx (by decide +kernel) ?_;simp only[go_sem,h1,h3,n1,n1.symm,n3,n3.symm,hb5,e53,e51]);refine name_den (d:={ d with sorts:=gv tk (acc.map A.str) }) (T:=T) (fin:=fin) (first:=first) (i:=i) (n:=n) (by simp only[gA1,gA2,gA3,gA6,ne_eq,gA9,reduceIte,h1,h3,n1,n1.symm,n3,n3.symm,hb5,e53,e51]<;>(first|done|rfl|assumption)) hi hT (Rd.to_mono hk5 (fun x w2 m2 hk6 hlt hw2 hm2=>?_) (fun f h=>PB.of (by (repeat (first|refine St.gx_gs ?_ hfree|refine St.gx_T hfree ?_|exact gA8 _ _|refine St.gx_r ?_|refine gA7 (by first|simp only[hb5]|assumption) ?_|refine St.gx_T (by first|simp only[hb5]|assumption) ?_))) h));subst m2;have hj:i+1≤i+1:=Nat.le_refl _;simp only[go_sem,h1,h3,n1,n1.symm,n3,n3.symm,hb5,e53,e51];refine ⟨by decide,fun y hy=>by simp only[List.mem_singleton] at hy;subst hy;rfl,appL_gv rfl rfl (by rw[gC4];exact gs_ok fun e=>by rw[hnil e];rfl) (fun y hy=>?_) (by simp only[gC4,gC1,gC3];omega) (fun u hu=>?_)⟩
   ·simp only[List.mem_map] at hy;obtain ⟨q,_,rfl⟩:=hy;rfl
   have hfu:=gs_free hu hfree;rw[gs_set hu];simp only[go_sem,h1,h3,n1,n1.symm,n3,n3.symm,hb5,e53,e51];have hk7:=hk6 (i+1) (some u) hj hlt hw2 hn ⟨by simp only[gC2,gC1,gC3];omega,h1,h3,⟨n1,n3⟩,fun e=>(by cases e),fun t' e=>by cases e;exact hfu⟩;refine DK.st hk7 ?_;simp only[sorS,gv_some,List.map_append,List.map_cons,List.map_nil,gC2,gC1,gC3,gC4];exact (by (refine gel_ge ?_;repeat (first|exact gel_refl _ _ _|refine gel_gs_gs ?_|refine gel_to_gs gs_self ?_|refine gB1 ?_|refine gB2 ?_|refine gel_gs ?_ hfree|refine gel_newT hfree ?_|refine gel_set (by simp only[gA1,gA2,gA3,gA6,ne_eq,gA9,reduceIte,h1,h3,n1,n1.symm,n3,n3.symm,hb5,e53,e51]<;>(first|done|rfl|assumption)) ?_|refine gB3 ?_|refine gel_new (by first|simp only[hb5]|assumption) ?_)))
  simp only[go_sem,h1,h3,n1,n1.symm,n3,n3.symm,hb5,e53,e51,c2];(refine draw_ok (V:=[0,1,2,3,14]) (OT.l [0,1,2,3,4,5,6,7] .nil) [] mixed_cx (by decide +kernel) ?_;simp only[go_sem,h1,h3,n1,n1.symm,n3,n3.symm,hb5,e53,e51,lenS_gv hg]);refine room_den (d:={ d with sorts:=gv tk (acc.map A.str) }) (T:=T) (fin:=fin) (first:=first) (i:=i) (n:=n) _ _ (by simp only[gA1,gA2,gA3,gA6,ne_eq,gA9,reduceIte,h1,h3,n1,n1.symm,n3,n3.symm,hb5,e53,e51]<;>(first|done|rfl|assumption)) hi ?_;by_cases h8:40≤acc.length
  ·rw[if_pos (by omega),hw];simp only[someR] at hk;rw[if_pos ⟨by simp[Tok.free,c1,c2],h8⟩] at hk;exact PB.of (by (repeat (first|refine St.gx_gs ?_ hfree|refine St.gx_T hfree ?_|exact gA8 _ _|refine St.gx_r ?_|refine gA7 (by first|simp only[hb5]|assumption) ?_|refine St.gx_T (by first|simp only[hb5]|assumption) ?_))) hk
  rw[if_neg (by omega)];have hk5:=hsome (fun _=>h8);simp only[go_sem,h1,h3,n1,n1.symm,n3,n3.symm,hb5,e53,e51];(refine draw_ok (V:=[0,1,2,3,14]) (OT.l [0,1,2,3,4,5,6,7,8,9,10,11,12,13] .nil) [(7,[0,1,5]),(9,[0])] mixed_cx (by decide +kernel) ?_;simp only[go_sem,h1,h3,n1,n1.symm,n3,n3.symm,hb5,e53,e51]);refine name_den (d:={ d with sorts:=gv tk (acc.map A.str) }) (T:=T) (fin:=fin) (first:=first) (i:=i) (n:=n) (by simp only[gA1,gA2,gA3,gA6,ne_eq,gA9,reduceIte,h1,h3,n1,n1.symm,n3,n3.symm,hb5,e53,e51]<;>(first|done|rfl|assumption)) hi hT (Rd.to_mono hk5 (fun x w2 m2 hk6 hlt hw2 hm2=>?_) (fun f h=>PB.of (by (repeat (first|refine St.gx_gs ?_ hfree|refine St.gx_T hfree ?_|exact gA8 _ _|refine St.gx_r ?_|refine gA7 (by first|simp only[hb5]|assumption) ?_|refine St.gx_T (by first|simp only[hb5]|assumption) ?_))) h));subst m2;have hj:i+1≤i+1:=Nat.le_refl _;simp only[go_sem,h1,h3,n1,n1.symm,n3,n3.symm,hb5,e53,e51];refine ⟨by decide,fun y hy=>by simp only[List.mem_singleton] at hy;subst hy;rfl,appL_gv rfl rfl (by rw[gC4];exact gs_ok fun e=>by rw[hnil e];rfl) (fun y hy=>?_) (by simp only[gC4,gC1,gC3];omega) (fun u hu=>?_)⟩
  ·simp only[List.mem_map] at hy;obtain ⟨q,_,rfl⟩:=hy;rfl
  have hfu:=gs_free hu hfree;rw[gs_set hu];simp only[go_sem,h1,h3,n1,n1.symm,n3,n3.symm,hb5,e53,e51];have hk7:=hk6 (i+1) (some u) hj hlt hw2 hn ⟨by simp only[gC2,gC1,gC3];omega,h1,h3,⟨n1,n3⟩,fun e=>(by cases e),fun t' e=>by cases e;exact hfu⟩;refine DK.st hk7 ?_;simp only[sorS,gv_some,List.map_append,List.map_cons,List.map_nil,gC2,gC1,gC3,gC4];exact (by (refine gel_ge ?_;repeat (first|exact gel_refl _ _ _|refine gel_gs_gs ?_|refine gel_to_gs gs_self ?_|refine gB1 ?_|refine gB2 ?_|refine gel_gs ?_ hfree|refine gel_newT hfree ?_|refine gel_set (by simp only[gA1,gA2,gA3,gA6,ne_eq,gA9,reduceIte,h1,h3,n1,n1.symm,n3,n3.symm,hb5,e53,e51]<;>(first|done|rfl|assumption)) ?_|refine gB3 ?_|refine gel_new (by first|simp only[hb5]|assumption) ?_)))
theorem many1_den (hT:TOk T) (b1 b3:Nat) (acc:List Cel) (tk:Option Nat) (hQ:GrQ b1 b3 r s acc tk i) (hi:i≤T.length) (hn:n≤2000)
  (hk : (someR fin 12 acc.length (T.drop i) n fun w n => cellR false fin w n).to (fun a w n' => ∀ j y,i + 1 ≤ j → j ≤ T.length → T.drop j = w → n' ≤ 2000 → GrQ b1 b3 r s (acc ++ [a]) y j → KV (manS T fin d first r s (acc ++ [a]) y j n') (.bool true))
   (fun f=>∀ s1 o,s1.gx s r→s1.getO r=some o→Kp s1 (.iface 36 f.enc))):Den cx 227 [.ptr b1 0,.ptr b3 0] KV Kp (manS T fin d first r s acc tk i n):=by
 obtain ⟨hac,h1,h3,⟨n1,n3⟩,hnil,hfree⟩:=hQ;have hlenT:=hT.len;have hg:gok (manS T fin d first r s acc tk i n) tk (acc.map Cel.enc).length 68:=by rw[gC4];exact gs_ok fun e=>by rw[hnil e];rfl
 refine Den.drop ?_;(refine Den.of_body (C:=cx) Tryz.func227 rfl rfl (gC6 rfl) ?_;refine wpC_ok (V:=[0,1,2,3,14]) _ _ _ _ ?_;simp only[go_sem,Tryz.ntmps227,Tryz.f227]);unfold manS;simp only[go_sem,h1,h3,n1,n1.symm,n3,n3.symm];refine peek_den (d:={ d with many:=gv tk (acc.map Cel.enc) }) (T:=T) (fin:=fin) (first:=first) (i:=i) (n:=n) (by simp only[gA1,gA2,gA3,gA6,ne_eq,gA9,reduceIte,h1,h3,n1,n1.symm,n3,n3.symm]<;>(first|done|rfl|assumption)) hi ?_;cases hw:T.drop i with
 | nil=>rw[hw] at hk;exact DK.here (hk _ (psO T fin { d with many:=gv tk (acc.map Cel.enc) } first i n) (by (repeat (first|refine St.gx_gs ?_ hfree|refine St.gx_T hfree ?_|exact gA8 _ _|refine St.gx_r ?_))) (by simp only[gA1,gA2,gA3,gA6,ne_eq,gA9,reduceIte,h1,h3,n1,n1.symm,n3,n3.symm]<;>(first|done|rfl|assumption)))
 | cons t w =>
  obtain ⟨g1,g2,g3,g4⟩:=drop_get hw;rw[hw] at hk
  have hsome:(t.free=true→¬ 12≤acc.length)→(cellR false fin (T.drop i) n).to (fun a w n'=>∀ j y,i+1≤j→j≤T.length→T.drop j=w→n'≤2000→GrQ b1 b3 r s (acc++[a]) y j→KV (manS T fin d first r s (acc++[a]) y j n') (.bool true))
    (fun f=>∀ s1 o,s1.gx s r→s1.getO r=some o→Kp s1 (.iface 36 f.enc)):=fun h=>by
   rw[hw];simp only[someR] at hk;rw[if_neg (fun hc=>h hc.1 hc.2)] at hk;exact hk
  simp only[go_sem,h1,h3,n1,n1.symm,n3,n3.symm];(intro b5 hb5;try simp only[gA5,gA6,gD6,ne_eq] at hb5);have e53:=St.ne_of h3 hb5.2;have e51:=St.ne_of h1 hb5.2;simp only[go_sem,h1,h3,n1,n1.symm,n3,n3.symm,hb5,e53,e51];cases c1:decide (t.kind=1)
  ·have hk5:=hsome (fun hf=>by simp[Tok.free,c1] at hf);simp only[go_sem,h1,h3,n1,n1.symm,n3,n3.symm,hb5,e53,e51,c1];(refine draw_ok (V:=[0,1,2,3,14]) (OT.l [0,1,2,3,4,5,6,7,8,9,10,11] .nil) [(6,[0,1,4]),(8,[0])] mixed_cx (by decide +kernel) ?_;simp only[go_sem,h1,h3,n1,n1.symm,n3,n3.symm,hb5,e53,e51]);refine cell_den (d:={ d with many:=gv tk (acc.map Cel.enc) }) (T:=T) (fin:=fin) (first:=first) (i:=i) (n:=n) hT (by simp only[gA1,gA2,gA3,gA6,ne_eq,gA9,reduceIte,h1,h3,n1,n1.symm,n3,n3.symm,hb5,e53,e51]<;>(first|done|rfl|assumption)) hi hn (Rd.to_mono hk5 (fun x w2 m2 hk6 j hj hlt hw2 hm2=>?_) (fun f h=>PB.of (by (repeat (first|refine St.gx_gs ?_ hfree|refine St.gx_T hfree ?_|exact gA8 _ _|refine St.gx_r ?_|refine gA7 (by first|simp only[hb5]|assumption) ?_|refine St.gx_T (by first|simp only[hb5]|assumption) ?_))) h));simp only[go_sem,h1,h3,n1,n1.symm,n3,n3.symm,hb5,e53,e51];refine ⟨by decide,fun y hy=>by simp only[List.mem_singleton] at hy;subst hy;rfl,appL_gv rfl rfl (by rw[gC4];exact gs_ok fun e=>by rw[hnil e];rfl) (fun y hy=>?_) (by simp only[gC4,gC1,gC3];omega) (fun u hu=>?_)⟩
   ·simp only[List.mem_map] at hy;obtain ⟨q,_,rfl⟩:=hy;rfl
   have hfu:=gs_free hu hfree;rw[gs_set hu];simp only[go_sem,h1,h3,n1,n1.symm,n3,n3.symm,hb5,e53,e51];have hk7:=hk6 j (some u) hj hlt hw2 hm2 ⟨by simp only[gC2,gC1,gC3];omega,h1,h3,⟨n1,n3⟩,fun e=>(by cases e),fun t' e=>by cases e;exact hfu⟩;refine DK.st hk7 ?_;simp only[manS,gv_some,List.map_append,List.map_cons,List.map_nil,gC2,gC1,gC3,gC4];exact (by (refine gel_ge ?_;repeat (first|exact gel_refl _ _ _|refine gel_gs_gs ?_|refine gel_to_gs gs_self ?_|refine gB1 ?_|refine gB2 ?_|refine gel_gs ?_ hfree|refine gel_newT hfree ?_|refine gel_set (by simp only[gA1,gA2,gA3,gA6,ne_eq,gA9,reduceIte,h1,h3,n1,n1.symm,n3,n3.symm,hb5,e53,e51]<;>(first|done|rfl|assumption)) ?_|refine gB3 ?_|refine gel_new (by first|simp only[hb5]|assumption) ?_)))
  simp only[go_sem,h1,h3,n1,n1.symm,n3,n3.symm,hb5,e53,e51,c1];refine isReserved145_den _ _ _ _ ?_;simp only[go_sem,h1,h3,n1,n1.symm,n3,n3.symm,hb5,e53,e51];cases c2:decide (t.text∈reservedW);rotate_left
  ·have hk5:=hsome (fun hf=>by simp[Tok.free,c2] at hf);simp only[go_sem,h1,h3,n1,n1.symm,n3,n3.symm,hb5,e53,e51,c2];(refine draw_ok (V:=[0,1,2,3,14]) (OT.l [0,1,2,3,4,5,6,7,8,9,10,11] .nil) [(6,[0,1,4]),(8,[0])] mixed_cx (by decide +kernel) ?_;simp only[go_sem,h1,h3,n1,n1.symm,n3,n3.symm,hb5,e53,e51]);refine cell_den (d:={ d with many:=gv tk (acc.map Cel.enc) }) (T:=T) (fin:=fin) (first:=first) (i:=i) (n:=n) hT (by simp only[gA1,gA2,gA3,gA6,ne_eq,gA9,reduceIte,h1,h3,n1,n1.symm,n3,n3.symm,hb5,e53,e51]<;>(first|done|rfl|assumption)) hi hn (Rd.to_mono hk5 (fun x w2 m2 hk6 j hj hlt hw2 hm2=>?_) (fun f h=>PB.of (by (repeat (first|refine St.gx_gs ?_ hfree|refine St.gx_T hfree ?_|exact gA8 _ _|refine St.gx_r ?_|refine gA7 (by first|simp only[hb5]|assumption) ?_|refine St.gx_T (by first|simp only[hb5]|assumption) ?_))) h));simp only[go_sem,h1,h3,n1,n1.symm,n3,n3.symm,hb5,e53,e51];refine ⟨by decide,fun y hy=>by simp only[List.mem_singleton] at hy;subst hy;rfl,appL_gv rfl rfl (by rw[gC4];exact gs_ok fun e=>by rw[hnil e];rfl) (fun y hy=>?_) (by simp only[gC4,gC1,gC3];omega) (fun u hu=>?_)⟩
   ·simp only[List.mem_map] at hy;obtain ⟨q,_,rfl⟩:=hy;rfl
   have hfu:=gs_free hu hfree;rw[gs_set hu];simp only[go_sem,h1,h3,n1,n1.symm,n3,n3.symm,hb5,e53,e51];have hk7:=hk6 j (some u) hj hlt hw2 hm2 ⟨by simp only[gC2,gC1,gC3];omega,h1,h3,⟨n1,n3⟩,fun e=>(by cases e),fun t' e=>by cases e;exact hfu⟩;refine DK.st hk7 ?_;simp only[manS,gv_some,List.map_append,List.map_cons,List.map_nil,gC2,gC1,gC3,gC4];exact (by (refine gel_ge ?_;repeat (first|exact gel_refl _ _ _|refine gel_gs_gs ?_|refine gel_to_gs gs_self ?_|refine gB1 ?_|refine gB2 ?_|refine gel_gs ?_ hfree|refine gel_newT hfree ?_|refine gel_set (by simp only[gA1,gA2,gA3,gA6,ne_eq,gA9,reduceIte,h1,h3,n1,n1.symm,n3,n3.symm,hb5,e53,e51]<;>(first|done|rfl|assumption)) ?_|refine gB3 ?_|refine gel_new (by first|simp only[hb5]|assumption) ?_)))
  simp only[go_sem,h1,h3,n1,n1.symm,n3,n3.symm,hb5,e53,e51,c2];(refine draw_ok (V:=[0,1,2,3,14]) (OT.l [0,1,2,3,4,5,6] .nil) [] mixed_cx (by decide +kernel) ?_;simp only[go_sem,h1,h3,n1,n1.symm,n3,n3.symm,hb5,e53,e51,lenS_gv hg]);refine room_den (d:={ d with many:=gv tk (acc.map Cel.enc) }) (T:=T) (fin:=fin) (first:=first) (i:=i) (n:=n) _ _ (by simp only[gA1,gA2,gA3,gA6,ne_eq,gA9,reduceIte,h1,h3,n1,n1.symm,n3,n3.symm,hb5,e53,e51]<;>(first|done|rfl|assumption)) hi ?_;by_cases h8:12≤acc.length
  ·rw[if_pos (by omega),hw];simp only[someR] at hk;rw[if_pos ⟨by simp[Tok.free,c1,c2],h8⟩] at hk;exact PB.of (by (repeat (first|refine St.gx_gs ?_ hfree|refine St.gx_T hfree ?_|exact gA8 _ _|refine St.gx_r ?_|refine gA7 (by first|simp only[hb5]|assumption) ?_|refine St.gx_T (by first|simp only[hb5]|assumption) ?_))) hk
  rw[if_neg (by omega)];have hk5:=hsome (fun _=>h8);simp only[go_sem,h1,h3,n1,n1.symm,n3,n3.symm,hb5,e53,e51];(refine draw_ok (V:=[0,1,2,3,14]) (OT.l [0,1,2,3,4,5,6,7,8,9,10,11] .nil) [(6,[0,1,4]),(8,[0])] mixed_cx (by decide +kernel) ?_;simp only[go_sem,h1,h3,n1,n1.symm,n3,n3.symm,hb5,e53,e51]);refine cell_den (d:={ d with many:=gv tk (acc.map Cel.enc) }) (T:=T) (fin:=fin) (first:=first) (i:=i) (n:=n) hT (by simp only[gA1,gA2,gA3,gA6,ne_eq,gA9,reduceIte,h1,h3,n1,n1.symm,n3,n3.symm,hb5,e53,e51]<;>(first|done|rfl|assumption)) hi hn (Rd.to_mono hk5 (fun x w2 m2 hk6 j hj hlt hw2 hm2=>?_) (fun f h=>PB.of (by (repeat (first|refine St.gx_gs ?_ hfree|refine St.gx_T hfree ?_|exact gA8 _ _|refine St.gx_r ?_|refine gA7 (by first|simp only[hb5]|assumption) ?_|refine St.gx_T (by first|simp only[hb5]|assumption) ?_))) h));simp only[go_sem,h1,h3,n1,n1.symm,n3,n3.symm,hb5,e53,e51];refine ⟨by decide,fun y hy=>by simp only[List.mem_singleton] at hy;subst hy;rfl,appL_gv rfl rfl (by rw[gC4];exact gs_ok fun e=>by rw[hnil e];rfl) (fun y hy=>?_) (by simp only[gC4,gC1,gC3];omega) (fun u hu=>?_)⟩
  ·simp only[List.mem_map] at hy;obtain ⟨q,_,rfl⟩:=hy;rfl
  have hfu:=gs_free hu hfree;rw[gs_set hu];simp only[go_sem,h1,h3,n1,n1.symm,n3,n3.symm,hb5,e53,e51];have hk7:=hk6 j (some u) hj hlt hw2 hm2 ⟨by simp only[gC2,gC1,gC3];omega,h1,h3,⟨n1,n3⟩,fun e=>(by cases e),fun t' e=>by cases e;exact hfu⟩;refine DK.st hk7 ?_;simp only[manS,gv_some,List.map_append,List.map_cons,List.map_nil,gC2,gC1,gC3,gC4];exact (by (refine gel_ge ?_;repeat (first|exact gel_refl _ _ _|refine gel_gs_gs ?_|refine gel_to_gs gs_self ?_|refine gB1 ?_|refine gB2 ?_|refine gel_gs ?_ hfree|refine gel_newT hfree ?_|refine gel_set (by simp only[gA1,gA2,gA3,gA6,ne_eq,gA9,reduceIte,h1,h3,n1,n1.symm,n3,n3.symm,hb5,e53,e51]<;>(first|done|rfl|assumption)) ?_|refine gB3 ?_|refine gel_new (by first|simp only[hb5]|assumption) ?_)))
end
end Go.AV
end
section
namespace Go.AV
open Go Go.Proofs
theorem find_set {α:Type} (p:α→Bool) (a:α) (ha:p a=false):∀ (l:List α) (k:Nat),(∀ x,l[k]?=some x→p x=false)→(l.set k a).find? p=l.find? p
 | [],k,h=>by simp
 | x::l,0,h=>by
  have:=h x (by simp);simp only[List.set_cons_zero,List.find?,ha,this]
 | x::l,k+1,h=>by
  have ih:=find_set p a ha l k (fun y hy=>h y (by simpa using hy));simp only[List.set_cons_succ,List.find?,ih]
theorem gsl_apart {s X:St} {l:List Own} (h:OwnOk s l) {k:Nat} {o:Own} (hk:l[k]?=some o) (n:Nat) (e:TypeId) (u:Nat) :
  (gs (gsl X (l.set k (none,n,e))) o.1 o.2.1 o.2.2).getT u=(gsl X l).getT u:=by
 rw[gs_getT];by_cases ho:o.1=some u
 ·rw[if_pos ho,gsl_getT];cases hf:l.find? (fun o=>decide (o.1=some u)) with
  | none =>
   have:=List.find?_eq_none.1 hf o (List.mem_of_getElem? hk);simp[ho] at this
  | some a =>
   have h1:=List.find?_some hf;obtain ⟨j,hj,e1⟩:=List.getElem_of_mem (List.mem_of_find?_eq_some hf);have hj':l[j]?=some a:=by rw[List.getElem?_eq_getElem hj,e1]
   have:=h.dst j k a o u hj' hk (by simpa using h1) ho;subst this;rw[hj'] at hk;cases hk;rfl
 ·rw[if_neg ho,gsl_getT,gsl_getT,find_set _ _ (by simp) l k (fun x hx=>by rw[hk] at hx;cases hx;simpa using ho)]
theorem gsl_split {s X:St} {l:List Own} (h:OwnOk s l) {k:Nat} {o:Own} (hk:l[k]?=some o) (n:Nat) (e:TypeId) :
  (gsl X l).ge (gs (gsl X (l.set k (none,n,e))) o.1 o.2.1 o.2.2) :=
 ⟨fun b x hb=>by rw[gA6,gA5] at hb;rw[gA5];exact hb,fun u m hm=>by rw[gsl_apart h hk] at hm;exact hm,fun x hx=>by rw[gs_ls,gsl_ls] at hx;rw[gsl_ls];exact hx⟩
theorem gsl_join {s X:St} {l:List Own} {k:Nat} {tk:Option Nat} {m:Nat} {e:TypeId} (hk:k<l.length) (h:OwnOk s (l.set k (tk,m,e))) (n:Nat) (e':TypeId) :
  (gs (gsl X (l.set k (none,n,e'))) tk m e).ge (gsl X (l.set k (tk,m,e))):=by
 have hk':(l.set k (tk,m,e))[k]?=some (tk,m,e):=by rw[List.getElem?_set,if_pos rfl,if_pos hk]
 have key:=gsl_apart (X:=X) h hk' n e';rw[List.set_set] at key;exact ⟨fun b x hb=>by rw[gA5] at hb;rw[gA6,gA5];exact hb,fun u q hq=>by rw[key];exact hq,fun x hx=>by rw[gsl_ls] at hx;rw[gs_ls,gsl_ls];exact hx⟩
theorem gsl_out {s X:St} {l:List Own} (h:OwnOk s l) {k:Nat} {o:Own} (hk:l[k]?=some o) (n:Nat) (e:TypeId) (hX:∀ t,X.getT t=s.getT t) {t:Nat} (ht:o.1=some t):(gsl X (l.set k (none,n,e))).getT t=none:=by
 rw[gsl_getT_no,hX]
 ·exact h.free o (List.mem_of_getElem? hk) t ht
 ·intro a ha hat;obtain ⟨j,hj,e1⟩:=List.getElem_of_mem ha;have hj':(l.set k (none,n,e))[j]?=some a:=by rw[List.getElem?_eq_getElem hj,e1]
  rw[List.getElem?_set] at hj';split at hj'
  ·split at hj'
   ·cases hj';cases hat
   ·cases hj'
  ·rename_i e2;exact e2 (h.dst j k a o t hj' hk hat ht).symm
theorem gsl_back {s X:St} {l:List Own} (h:OwnOk s l) {k:Nat} (hk:k<l.length) (n:Nat) (e e':TypeId) (hX:∀ t,X.getT t=s.getT t) {tk:Option Nat} {m:Nat}
  (hf:∀ t,tk=some t→(gsl X (l.set k (none,n,e'))).getT t=none) (hn:tk=none→m=0):OwnOk s (l.set k (tk,m,e)):=by
 have key:∀ t,tk=some t→s.getT t=none∧∀ (j:Nat) (a:Own),j≠k→l[j]?=some a→a.1≠some t:=by
  intro t ht;have h1:=hf t ht;rw[gsl_getT] at h1;cases hq:(l.set k (none,n,e')).find? (fun o=>decide (o.1=some t)) with
  | some a=>rw[hq] at h1;cases h1
  | none =>
   rw[hq] at h1;refine ⟨by rw[← hX];exact h1,fun j a hj ha hat=>?_⟩;have h2:(l.set k (none,n,e'))[j]?=some a:=by rw[List.getElem?_set,if_neg (fun e=>hj e.symm)];exact ha
   have:=List.find?_eq_none.1 hq a (List.mem_of_getElem? h2);simp[hat] at this
 refine ⟨fun a ha u hu=>?_,fun a ha hn'=>?_,fun i j a b u hi hj ha hb=>?_⟩
 ·rcases List.mem_or_eq_of_mem_set ha with ha|rfl
  ·exact h.free a ha u hu
  ·exact (key u hu).1
 ·rcases List.mem_or_eq_of_mem_set ha with ha|rfl
  ·exact h.nil a ha hn'
  ·exact hn hn'
 ·rw[List.getElem?_set] at hi hj;by_cases e1:k=i<;>by_cases e2:k=j
  ·rw[← e1,← e2]
  ·rw[if_pos e1,if_pos hk] at hi;rw[if_neg e2] at hj;cases hi;exact ((key u ha).2 j b (fun e=>e2 e.symm) hj hb).elim
  ·rw[if_neg e1] at hi;rw[if_pos e2,if_pos hk] at hj;cases hj;exact ((key u hb).2 i a (fun e=>e1 e.symm) hi ha).elim
  ·rw[if_neg e1] at hi;rw[if_neg e2] at hj;exact h.dst i j a b u hi hj ha hb
end Go.AV
end
section
namespace Go.AV
open Go Go.Proofs
structure DOwn where
 so:Option Nat
 be:Option Nat
 op:Option Nat
 fu:Option Nat
 va:Option Nat
 eq:Option Nat
 on:Option Nat
 ma:Option Nat
 ru:Option Nat
def dcN (d:Dfn) (o:DOwn):Dc:=⟨d.name,gv o.so (d.sig.sorts.map .str),gv o.be (d.sig.below.map Below.enc),gv o.op (d.sig.ops.map Opr.enc),gv o.fu (d.sig.funs.map Opr.enc),gv o.va (d.sig.values.map .str),
 gv o.eq (d.eqs.map Eqn.enc),gv o.on (d.once.map Cel.enc),d.kind,gv o.ma (d.many.map Cel.enc),gv o.ru (d.rules.map Rul.enc),d.start,d.watch⟩
def dOwn (d:Dfn) (o:DOwn):List Own:=[(o.so,d.sig.sorts.length,9),(o.be,d.sig.below.length,104),(o.op,d.sig.ops.length,73),(o.fu,d.sig.funs.length,73),(o.va,d.sig.values.length,9),
 (o.eq,d.eqs.length,80),(o.on,d.once.length,68),(o.ma,d.many.length,68),(o.ru,d.rules.length,84)]
def itS (T:List Tok) (fin:Fault) (first:Tok) (r:Nat) (s:St) (d:Dfn) (o:DOwn) (i n:Nat):St:=gsl (s.setO r (psO T fin (dcN d o) first i n)) (dOwn d o)
structure ItQ (s:St) (d:Dfn) (o:DOwn) (i:Nat):Prop where
 own:OwnOk s (dOwn d o)
 len:∀ a,a∈dOwn d o→a.2.1≤i
theorem ItQ.le {s:St} {d:Dfn} {o:DOwn} {i j:Nat} (h:ItQ s d o i) (hj:i≤j):ItQ s d o j:=⟨h.own,fun a ha=>Nat.le_trans (h.len a ha) hj⟩
theorem ItQ.set {s:St} {d d':Dfn} {o o':DOwn} {i j k:Nat} {a:Own} (h:ItQ s d o i) (he:dOwn d' o'=(dOwn d o).set k a) (hown:OwnOk s ((dOwn d o).set k a)) (hj:i≤j) (ha:a.2.1≤j):ItQ s d' o' j :=
 ⟨by rw [he]; exact hown,fun b hb => by
  rw[he] at hb;rcases List.mem_or_eq_of_mem_set hb with hb|rfl
  ·exact Nat.le_trans (h.len b hb) hj
  ·exact ha⟩
attribute [go_sem] dcN
section
variable {T:List Tok} {fin:Fault} {d:Dfn} {o:DOwn} {first:Tok} {i n:Nat} {s:St} {r:Nat} {KV Kp:St→A→Prop}
theorem GrQ.setT {α:Type} {b1 b3 r:Nat} {s:St} {acc:List α} {tk:Option Nat} {i t:Nat} {v:Nat × TypeId} (h:GrQ b1 b3 r s acc tk i) (ht:tk≠some t):GrQ b1 b3 r (s.setT t v) acc tk i :=
 ⟨h.len,h.h1,h.h3,h.ne,h.nil,fun u hu=>by rw[gA4,if_neg (fun e=>ht (by rw[hu,e]))];exact h.free u hu⟩
theorem GrQ.unT {α:Type} {b1 b3 r:Nat} {s:St} {acc:List α} {tk:Option Nat} {i t:Nat} {v:Nat × TypeId} (h:GrQ b1 b3 r (s.setT t v) acc tk i):tk≠some t∧∀ u,tk=some u→s.getT u=none:=by
 have h1:tk≠some t:=fun e=>by
  have:=h.free t e;rw[gA4,if_pos rfl] at this;cases this
 refine ⟨h1,fun u hu=>?_⟩;have:=h.free u hu;rw[gA4] at this;split at this
 ·cases this
 ·exact this
theorem GrQ.dropT {α:Type} {b1 b3 r:Nat} {s:St} {acc:List α} {tk:Option Nat} {i t:Nat} {v:Nat × TypeId} (h:GrQ b1 b3 r (s.setT t v) acc tk i):GrQ b1 b3 r s acc tk i :=
 ⟨h.len,h.h1,h.h3,h.ne,h.nil,h.unT.2⟩
theorem GrQ.notk {α:Type} {b1 b3 r:Nat} {s X:St} {acc:List α} {tk:Option Nat} {i n t:Nat} {e:TypeId} (h:GrQ b1 b3 r s acc tk i) (ht:(gs X tk n e).getT t=none) (hX:X.getT t=s.getT t:=by rfl):tk≠some t∧s.getT t=none:=by
 rw[gs_getT] at ht;split at ht
 ·cases ht
 ·rename_i e;exact ⟨e,by rw[← hX];exact ht⟩
theorem gs_overT {X:St} {r:Nat} {x:Ob} {tk:Option Nat} {n t:Nat} {e:TypeId} {v u:Nat × TypeId} (h:tk≠some t):((gs ((X.setT t v).setO r x) tk n e).setT t u).ge (gs ((X.setT t u).setO r x) tk n e):=by
 refine ⟨fun b o ho=>by rw[gA3];rw[gA6] at *;exact ho,fun c m hm=>?_,fun y hy=>by cases tk<;>exact hy⟩;rw[gs_getT,getT_setO,gA4] at hm;rw[gA4,gs_getT,getT_setO,gA4];by_cases htc:t=c
 ·subst htc;rw[if_neg h,if_pos rfl] at hm;rw[if_pos rfl];exact hm
 ·rw[if_neg htc] at hm ⊢;rw[if_neg htc];exact hm
theorem gs_ge_free {X:St} {r:Nat} {x:Ob} {tk:Option Nat} {n t:Nat} {e:TypeId} {v:Nat × TypeId} (h:X.getT t=none):(gs ((X.setT t v).setO r x) tk n e).ge (gs (X.setO r x) tk n e) :=
 gs_ge_of (fun b o ho=>ho) (fun y hy=>hy) (fun c m _ hm=>by
  show (X.setT t v).getT c=some m;have hm':X.getT c=some m:=hm;rw[gA4];by_cases htc:t=c
  ·subst htc;rw[h] at hm';cases hm'
  ·rw[if_neg htc];exact hm')
theorem place_den (hT:TOk T) (t:Tok) (w:List Tok) (hw:T.drop i=t::w) (hQ:ItQ s d o i) (hn:n≤2000)
  (hk : (placeR false fin d t w n).to (fun d' w n' => ∀ j o',i + 1 ≤ j → j ≤ T.length → T.drop j = w → n' ≤ 2000 → ItQ s d' o' j → KV (itS T fin first r s d' o' j n') (.tuple []))
   (fun f=>∀ s1 x,s1.gx s r→s1.getO r=some x→Kp s1 (.iface 36 f.enc))):Den cx 155 [.ptr r 0,t.enc] KV Kp (itS T fin first r s d o i n):=by
 obtain ⟨g1,g2,g3,g4⟩:=drop_get hw;have hi:i≤T.length:=by omega
 have hlenT:=hT.len;have hown:=hQ.own;have hfr:=hown.free;have hgon:lenS (gv o.on (d.once.map Cel.enc))=some (.int .i64 (d.once.map Cel.enc).length):=lenS_gv (by rw[gC4];exact gsl_gok hown (k:=6) rfl);have wAT:∀ x:Str,isT x (T.drop i)=isTok t x:=fun x=>by rw[hw];rfl
 simp only[go_sem];refine Den.drop ?_;(refine Den.of_body (C:=cx) Tryz.func155 rfl rfl (gC6 rfl) ?_;refine wpC_ok (V:=[0,1,2,4,5,12,27,42,70]) _ _ _ _ ?_;simp only[go_sem,Tryz.ntmps155,Tryz.f155]);unfold itS;(intro b2 hb2;try simp only[gA5,gA6,gD6,ne_eq] at hb2);simp only[go_sem,gA5,hb2];(intro b3 hb3;try simp only[gA5,gA6,gD6,ne_eq] at hb3);simp only[go_sem,gA5,hb2,hb3];(intro b4 hb4;try simp only[gA5,gA6,gD6,ne_eq] at hb4);simp only[go_sem,gA5,hb2,hb3,hb4];refine is_den (d:=dcN d o) (T:=T) (fin:=fin) (first:=first) (i:=i) (n:=n) _ (by simp only[gA1,gA2,gA3,gA6,ne_eq,gA9,reduceIte,gA5,hb2,hb3,hb4]<;>(first|done|rfl|assumption)) hi ?_;rw[wAT];cases c1:isTok t [115,116,97,114,116];rotate_left
 ·
  rw[placeR,if_pos c1] at hk;simp only[go_sem,gA5,hb2,hb3,hb4];refine once_den hT b2 _ (d:=dcN d o) (T:=T) (fin:=fin) (first:=first) (i:=i) (n:=n) (by simp only[gA1,gA2,gA3,gA6,ne_eq,gA9,reduceIte,gA5,hb2,hb3,hb4]<;>(first|done|rfl|assumption)) (by simp only[gA1,gA2,gA3,gA6,ne_eq,gA9,reduceIte,gA5,hb2,hb3,hb4]<;>(first|done|rfl|assumption)) g2 ?_;cases cs:decide (d.start=[])
  ·rw[if_neg (by simpa using cs),Rd.bad_to] at hk;rw[hw];exact PB.of (by (repeat (first|refine gsl_gx hfr ?_|exact gA8 _ _|refine St.gx_r ?_|refine gA7 (by first|simp only[hb2,hb3,hb4]|assumption) ?_|refine St.gx_T (by first|simp only[hb2,hb3,hb4]|assumption) ?_))) hk
  rw[if_pos (by simpa using cs),Rd.bind_to,← g3] at hk;simp only[Bool.not_true];simp only[go_sem,gA5,hb2,hb3,hb4];(refine draw_ok (V:=[0,1,2,4,5,12,27,42,70]) (OT.l [0,1,2,3,4,5] .nil) [(2,[0])] mixed_cx (by decide +kernel) ?_;simp only[go_sem,gA5,hb2,hb3,hb4]);refine name_den (d:=dcN d o) (T:=T) (fin:=fin) (first:=first) (i:=i+1) (n:=n) (by simp only[gA1,gA2,gA3,gA6,ne_eq,gA9,reduceIte,gA5,hb2,hb3,hb4]<;>(first|done|rfl|assumption)) g2 hT (Rd.to_mono hk (fun x w2 m2 hk2 hlt2 hw2 hm2=>?_) (fun f h=>PB.of (by (repeat (first|refine gsl_gx hfr ?_|exact gA8 _ _|refine St.gx_r ?_|refine gA7 (by first|simp only[hb2,hb3,hb4]|assumption) ?_|refine St.gx_T (by first|simp only[hb2,hb3,hb4]|assumption) ?_))) h));rw[Rd.ok_to] at hk2;subst m2;simp only[go_sem,gA5,hb2,hb3,hb4];have hk3:=hk2 (i+1+1) o (by omega) hlt2 hw2 hn ⟨hQ.own,fun a ha=>Nat.le_trans (hQ.len a ha) (by omega)⟩;refine DK.st hk3 ?_;refine gsl_ge (l:=dOwn d o) ?_;simp only[dcN];exact (by (refine gel_ge ?_;repeat (first|exact gel_refl _ _ _|refine gsl_gel hfr ?_|refine gel_gs_gs ?_|refine gel_to_gs gs_self ?_|refine gB1 ?_|refine gB2 ?_|refine gel_set (by simp only[gA1,gA2,gA3,gA6,ne_eq,gA9,reduceIte,gA5,hb2,hb3,hb4]<;>(first|done|rfl|assumption)) ?_|refine gB3 ?_|refine gel_new (by first|simp only[hb2,hb3,hb4]|assumption) ?_)))
 simp only[go_sem,gA5,hb2,hb3,hb4];refine is_den (d:=dcN d o) (T:=T) (fin:=fin) (first:=first) (i:=i) (n:=n) _ (by simp only[gA1,gA2,gA3,gA6,ne_eq,gA9,reduceIte,gA5,hb2,hb3,hb4]<;>(first|done|rfl|assumption)) hi ?_;rw[wAT];cases c2:isTok t [119,97,116,99,104];rotate_left
 ·
  rw[placeR,if_neg (by simp[c1]),if_pos c2] at hk;simp only[go_sem,gA5,hb2,hb3,hb4];refine once_den hT b2 _ (d:=dcN d o) (T:=T) (fin:=fin) (first:=first) (i:=i) (n:=n) (by simp only[gA1,gA2,gA3,gA6,ne_eq,gA9,reduceIte,gA5,hb2,hb3,hb4]<;>(first|done|rfl|assumption)) (by simp only[gA1,gA2,gA3,gA6,ne_eq,gA9,reduceIte,gA5,hb2,hb3,hb4]<;>(first|done|rfl|assumption)) g2 ?_;cases cs:decide (d.watch=[])
  ·rw[if_neg (by simpa using cs),Rd.bad_to] at hk;rw[hw];exact PB.of (by (repeat (first|refine gsl_gx hfr ?_|exact gA8 _ _|refine St.gx_r ?_|refine gA7 (by first|simp only[hb2,hb3,hb4]|assumption) ?_|refine St.gx_T (by first|simp only[hb2,hb3,hb4]|assumption) ?_))) hk
  rw[if_pos (by simpa using cs),Rd.bind_to,← g3] at hk;simp only[Bool.not_true];simp only[go_sem,gA5,hb2,hb3,hb4];(refine draw_ok (V:=[0,1,2,4,5,12,27,42,70]) (OT.l [0,1,2,3,4,5] .nil) [(2,[0])] mixed_cx (by decide +kernel) ?_;simp only[go_sem,gA5,hb2,hb3,hb4]);refine name_den (d:=dcN d o) (T:=T) (fin:=fin) (first:=first) (i:=i+1) (n:=n) (by simp only[gA1,gA2,gA3,gA6,ne_eq,gA9,reduceIte,gA5,hb2,hb3,hb4]<;>(first|done|rfl|assumption)) g2 hT (Rd.to_mono hk (fun x w2 m2 hk2 hlt2 hw2 hm2=>?_) (fun f h=>PB.of (by (repeat (first|refine gsl_gx hfr ?_|exact gA8 _ _|refine St.gx_r ?_|refine gA7 (by first|simp only[hb2,hb3,hb4]|assumption) ?_|refine St.gx_T (by first|simp only[hb2,hb3,hb4]|assumption) ?_))) h));rw[Rd.ok_to] at hk2;subst m2;simp only[go_sem,gA5,hb2,hb3,hb4];have hk3:=hk2 (i+1+1) o (by omega) hlt2 hw2 hn ⟨hQ.own,fun a ha=>Nat.le_trans (hQ.len a ha) (by omega)⟩;refine DK.st hk3 ?_;refine gsl_ge (l:=dOwn d o) ?_;simp only[dcN];exact (by (refine gel_ge ?_;repeat (first|exact gel_refl _ _ _|refine gsl_gel hfr ?_|refine gel_gs_gs ?_|refine gel_to_gs gs_self ?_|refine gB1 ?_|refine gB2 ?_|refine gel_set (by simp only[gA1,gA2,gA3,gA6,ne_eq,gA9,reduceIte,gA5,hb2,hb3,hb4]<;>(first|done|rfl|assumption)) ?_|refine gB3 ?_|refine gel_new (by first|simp only[hb2,hb3,hb4]|assumption) ?_)))
 simp only[go_sem,gA5,hb2,hb3,hb4];refine is_den (d:=dcN d o) (T:=T) (fin:=fin) (first:=first) (i:=i) (n:=n) _ (by simp only[gA1,gA2,gA3,gA6,ne_eq,gA9,reduceIte,gA5,hb2,hb3,hb4]<;>(first|done|rfl|assumption)) hi ?_;rw[wAT];cases c3:isTok t [99,101,108,108];rotate_left
 ·
  rw[placeR,if_neg (by simp[c1]),if_neg (by simp[c2]),if_pos c3] at hk;simp only[go_sem,gA5,hb2,hb3,hb4];(refine draw_ok (V:=[0,1,2,4,5,12,27,42,70]) (OT.l [0,1,2,3,4,5,6] .nil) [] mixed_cx (by decide +kernel) ?_;simp only[go_sem,gA5,hb2,hb3,hb4,hgon]);refine room_den (d:=dcN d o) (T:=T) (fin:=fin) (first:=first) (i:=i) (n:=n) _ _ (by simp only[gA1,gA2,gA3,gA6,ne_eq,gA9,reduceIte,gA5,hb2,hb3,hb4]<;>(first|done|rfl|assumption)) hi ?_;by_cases h12:12≤d.once.length
  ·rw[if_pos h12,Rd.bad_to] at hk;rw[if_pos (by (try simp only[gC4]);omega),hw];exact PB.of (by (repeat (first|refine gsl_gx hfr ?_|exact gA8 _ _|refine St.gx_r ?_|refine gA7 (by first|simp only[hb2,hb3,hb4]|assumption) ?_|refine St.gx_T (by first|simp only[hb2,hb3,hb4]|assumption) ?_))) hk
  rw[if_neg h12,Rd.bind_to,← g3] at hk;rw[if_neg (by (try simp only[gC4]);omega)];simp only[go_sem,gA5,hb2,hb3,hb4,wrap1 i (by omega)];(refine draw_ok (V:=[0,1,2,4,5,12,27,42,70]) (OT.l [0,1,2,3,4,5,6,7,8,9,10,11] .nil) [(6,[0,1,4]),(8,[0])] mixed_cx (by decide +kernel) ?_;simp only[go_sem,gA5,hb2,hb3,hb4]);refine cell_den (d:=dcN d o) (T:=T) (fin:=fin) (first:=first) (i:=i+1) (n:=n) hT (by simp only[gA1,gA2,gA3,gA6,ne_eq,gA9,reduceIte,gA5,hb2,hb3,hb4]<;>(first|done|rfl|assumption)) g2 hn (Rd.to_mono hk (fun x w2 m2 hk2 j hj hjT hw2 hm2=>?_) (fun f h=>PB.of (by (repeat (first|refine gsl_gx hfr ?_|exact gA8 _ _|refine St.gx_r ?_|refine gA7 (by first|simp only[hb2,hb3,hb4]|assumption) ?_|refine St.gx_T (by first|simp only[hb2,hb3,hb4]|assumption) ?_))) h));rw[Rd.ok_to] at hk2;simp only[go_sem,gA5,hb2,hb3,hb4];refine ⟨by decide,fun y hy=>by simp only[List.mem_singleton] at hy;subst hy;rfl,appL_gv rfl rfl (by rw[gC4];refine gsl_gokX hown (k:=6) (o:=(o.on,d.once.length,68)) rfl ?_;exact fun _=>rfl) (fun y hy=>?_) (by have:=hQ.len (o.on,d.once.length,68) (by simp[dOwn]);simp only[gC4,gC1,gC3];simp only at this;omega) (fun u hu=>?_)⟩
  ·simp only[List.mem_map] at hy;obtain ⟨q,_,rfl⟩:=hy;rfl
  have hown2:=gsl_own hown (k:=6) (o:=(o.on,d.once.length,68)) rfl hu (fun _=>rfl) (d.once.length+1);simp only[go_sem,gA5,hb2,hb3,hb4];have hk3:=hk2 j { o with on:=some u } (by omega) hjT hw2 hm2 (ItQ.set (k:=6) hQ (by simp[dOwn]) hown2 (by omega) (by have:=hQ.len (o.on,d.once.length,68) (by simp[dOwn]);simp only at this ⊢;omega));refine DK.st hk3 (St.ge.trans (gsl_app hown (k:=6) (o:=(o.on,d.once.length,68)) rfl hown2 (fun _=>rfl)) ?_);unfold itS;rw[show dOwn { d with once:=d.once++[x] } { o with on:=some u }=(dOwn d o).set 6 (some u,d.once.length+1,68) by simp[dOwn]];refine gsl_ge ?_;simp only[dcN,gv_some,List.map_append,List.map_cons,List.map_nil];exact (by (refine gel_ge ?_;repeat (first|exact gel_refl _ _ _|refine gsl_gel hfr ?_|refine gel_gs_gs ?_|refine gel_to_gs gs_self ?_|refine gB1 ?_|refine gB2 ?_|refine gel_set (by simp only[gA1,gA2,gA3,gA6,ne_eq,gA9,reduceIte,gA5,hb2,hb3,hb4]<;>(first|done|rfl|assumption)) ?_|refine gB3 ?_|refine gel_new (by first|simp only[hb2,hb3,hb4]|assumption) ?_)))
 simp only[go_sem,gA5,hb2,hb3,hb4];refine is_den (d:=dcN d o) (T:=T) (fin:=fin) (first:=first) (i:=i) (n:=n) _ (by simp only[gA1,gA2,gA3,gA6,ne_eq,gA9,reduceIte,gA5,hb2,hb3,hb4]<;>(first|done|rfl|assumption)) hi ?_;rw[wAT];cases c4:isTok t [109,97,110,121];rotate_left
 ·
  rw[placeR,if_neg (by simp[c1]),if_neg (by simp[c2]),if_neg (by simp[c3]),if_pos c4] at hk;simp only[go_sem,gA5,hb2,hb3,hb4];refine once_den hT b2 _ (d:=dcN d o) (T:=T) (fin:=fin) (first:=first) (i:=i) (n:=n) (by simp only[gA1,gA2,gA3,gA6,ne_eq,gA9,reduceIte,gA5,hb2,hb3,hb4]<;>(first|done|rfl|assumption)) (by simp only[gA1,gA2,gA3,gA6,ne_eq,gA9,reduceIte,gA5,hb2,hb3,hb4]<;>(first|done|rfl|assumption)) g2 ?_;cases cs:decide (d.kind=[])
  ·rw[if_neg (by simpa using cs),Rd.bad_to] at hk;rw[hw];exact PB.of (by (repeat (first|refine gsl_gx hfr ?_|exact gA8 _ _|refine St.gx_r ?_|refine gA7 (by first|simp only[hb2,hb3,hb4]|assumption) ?_|refine St.gx_T (by first|simp only[hb2,hb3,hb4]|assumption) ?_))) hk
  rw[if_pos (by simpa using cs),Rd.bind_to,← g3] at hk;simp only[Bool.not_true];simp only[go_sem,gA5,hb2,hb3,hb4];(refine draw_ok (V:=[0,1,2,4,5,12,27,42,70]) (OT.l [0,1,2,3,4,5] .nil) [(2,[0])] mixed_cx (by decide +kernel) ?_;simp only[go_sem,gA5,hb2,hb3,hb4]);refine name_den (d:=dcN d o) (T:=T) (fin:=fin) (first:=first) (i:=i+1) (n:=n) (by simp only[gA1,gA2,gA3,gA6,ne_eq,gA9,reduceIte,gA5,hb2,hb3,hb4]<;>(first|done|rfl|assumption)) g2 hT (Rd.to_mono hk (fun x w2 m2 hk2 hlt2 hw2 hm2=>?_) (fun f h=>PB.of (by (repeat (first|refine gsl_gx hfr ?_|exact gA8 _ _|refine St.gx_r ?_|refine gA7 (by first|simp only[hb2,hb3,hb4]|assumption) ?_|refine St.gx_T (by first|simp only[hb2,hb3,hb4]|assumption) ?_))) h));subst m2;rw[← hw2,Rd.bind_to] at hk2;simp only[go_sem,gA5,hb2,hb3,hb4];refine want_den (d:=dcN { d with kind:=x } o) (T:=T) (fin:=fin) (first:=first) (i:=i+1+1) (n:=n) _ (by simp only[gA1,gA2,gA3,gA6,ne_eq,gA9,reduceIte,gA5,hb2,hb3,hb4]<;>(first|done|rfl|assumption)) hlt2 hT (Rd.to_mono hk2 (fun _ w3 m3 hk3 hlt3 hw3 hm3=>?_) (fun f h=>PB.of (by (repeat (first|refine gsl_gx hfr ?_|exact gA8 _ _|refine St.gx_r ?_|refine gA7 (by first|simp only[hb2,hb3,hb4]|assumption) ?_|refine St.gx_T (by first|simp only[hb2,hb3,hb4]|assumption) ?_))) h));subst m3;rw[← hw3,Rd.bind_to] at hk3;simp only[go_sem,gA5,hb2,hb3,hb4];have hs0b2:(gsl (((s.setO b2 (.cells 74 [.ptr r 0])).setO b3 (.cells 60 t.cs)).setO b4 (.cells 191 [.ptr r 6])) ((dOwn d o).set 7 (none,0,68))).getO b2=some (.cells 74 [.ptr r 0]):=by simp only[gA5,gA1,hb4,hb3,if_false,if_true]
  have hs0b4:(gsl (((s.setO b2 (.cells 74 [.ptr r 0])).setO b3 (.cells 60 t.cs)).setO b4 (.cells 191 [.ptr r 6])) ((dOwn d o).set 7 (none,0,68))).getO b4=some (.cells 191 [.ptr r 6]):=by simp only[gA5,gA1,if_true]
  have hfr0:∀ a,a∈(dOwn d o).set 7 (none,0,68)→∀ u,a.1=some u→s.getT u=none:=fun a ha u hu=>by
   rcases List.mem_or_eq_of_mem_set ha with ha|rfl
   ·exact hfr a ha u hu
   ·cases hu
  have hg0:(gsl (((s.setO b2 (.cells 74 [.ptr r 0])).setO b3 (.cells 60 t.cs)).setO b4 (.cells 191 [.ptr r 6])) ((dOwn d o).set 7 (none,0,68))).gx s r:=by
   refine gsl_gx hfr0 ?_;exact (by (repeat (first|refine gsl_gx hfr ?_|exact gA8 _ _|refine St.gx_r ?_|refine gA7 (by first|simp only[hb2,hb3,hb4]|assumption) ?_|refine St.gx_T (by first|simp only[hb2,hb3,hb4]|assumption) ?_)))
  have hlm:d.many.length≤i:=by have:=hQ.len (o.ma,d.many.length,68) (by simp[dOwn]);exact this
  refine Den.weaken (s':=manS T fin (dcN { d with kind:=x } o) first r (gsl (((s.setO b2 (.cells 74 [.ptr r 0])).setO b3 (.cells 60 t.cs)).setO b4 (.cells 191 [.ptr r 6])) ((dOwn d o).set 7 (none,0,68))) d.many o.ma (i+1+1+1) n) ?_ (plist146_den (fin:=fin) (σ:=List Cel) (α:=Unit) (X:=Option Nat) (r:=r) (fun _=>.bool true) (fun _=>rfl) (fun _=>rfl) hT
   (fun s' acc tk i n=>manS T fin (dcN { d with kind:=x } o) first r s' acc tk i n) (fun s' acc tk i=>GrQ b2 b4 r s' acc tk i) (fun acc w n=>((someR fin 12 acc.length w n fun w n=>cellR false fin w n).bind fun a w n=>.ok (acc++[a]) w n).bind fun a w n=>.ok (a,()) w n) 227 [] [.ptr b2 0,.ptr b4 0]
   (fun s' a x i n=>⟨_,first,by unfold manS;rw[gA6,gA1,if_pos rfl],by unfold manS;rw[gs_setO,setO_setO];exact St.ge.refl _⟩) (fun s' a x i n t v h ht=>?_) (fun s' a x i n t v u ht h=>?_) (fun s' a x i n t v ht h=>⟨h.dropT,gs_ge_free ht⟩)
   (fun s' a x i h=>⟨by have:=h.len;omega,h.h1,h.h3,h.ne,h.nil,h.free⟩) (fun s' a x i n h=>St.gx_gs (St.gx_r (gA8 _ _)) h.free)
   (fun s' a x i n KV' Kp' h hi' hn' hk'=>many1_den hT b2 b4 a x h hi' hn' ?_)
   d.many o.ma (i+1+1+1) n ?_ hlt3 hn ?_)
  ·refine St.ge.trans (b:=gsl ((((s.setO b2 (.cells 74 [.ptr r 0])).setO b3 (.cells 60 t.cs)).setO b4 (.cells 191 [.ptr r 6])).setO r (psO T fin (dcN { d with kind:=x } o) first (i+1+1+1) n)) (dOwn d o)) (gsl_ge (by (refine gel_ge ?_;repeat (first|exact gel_refl _ _ _|refine gsl_gel hfr ?_|refine gel_gs_gs ?_|refine gel_to_gs gs_self ?_|refine gB1 ?_|refine gB2 ?_|refine gel_set (by simp only[gA1,gA2,gA3,gA6,ne_eq,gA9,reduceIte,gA5,hb2,hb3,hb4]<;>(first|done|rfl|assumption)) ?_|refine gB3 ?_|refine gel_new (by first|simp only[hb2,hb3,hb4]|assumption) ?_)))) ?_;unfold manS;rw[gsl_setO];exact gsl_split hown (k:=7) (o:=(o.ma,d.many.length,68)) rfl 0 68
  ·have hx:=GrQ.notk h ht;exact ⟨hx.2,h.setT hx.1,gs_swap hx.1⟩
  ·have hx:=h.unT;exact ⟨by show (gs _ _ _ _).getT t=_;rw[gs_getT,if_neg hx.1];show (s'.setT t v).getT t=_;rw[gA4,if_pos rfl],h.dropT.setT hx.1,gs_overT hx.1⟩
  ·rw[Rd.bind_to,Rd.bind_to] at hk';exact Rd.to_mono hk' (fun a w n h2 j y hj hjT hw hn hy=>h2 j y (by omega) hjT hw hn hy) (fun _ h=>h)
  ·refine ⟨by omega,hs0b2,hs0b4,⟨hb2.1.2,hb4.2.2.1.2⟩,fun e=>List.eq_nil_of_length_eq_zero (hown.nil (o.ma,d.many.length,68) (by simp[dOwn]) e),fun u hu=>(by refine gsl_out hown (k:=7) (o:=(o.ma,d.many.length,68)) rfl 0 68 ?_ hu;exact fun _=>rfl)⟩
  refine Rd.to_mono (loopR_fst _ _ _ _ _ [] _ _ _ _ hk3) (fun c w4 m4 hk4 j y hj hjT hw4 hm4 hy=>?_) (fun f h s1 x hg hr1=>DK.here (h _ _ (hg.trans hg0) hr1));obtain ⟨l,ul⟩:=c;simp only at hk4 hy ⊢;subst hw4;rw[Rd.bind_to] at hk4;have hown2:OwnOk s ((dOwn d o).set 7 (y,l.length,68)):=by refine gsl_back hown (k:=7) (by simp[dOwn]) 0 68 68 ?_ hy.free (fun e=>by rw[hy.nil e];rfl);exact fun _=>rfl
  unfold manS;simp only[go_sem,gA5,hb2,hb3,hb4];refine Den.weaken (gsl_join (l:=dOwn d o) (k:=7) (by simp[dOwn]) hown2 0 68) ?_;refine want_den (d:=dcN { d with kind:=x,many:=l } { o with ma:=y }) (T:=T) (fin:=fin) (first:=first) (i:=j) (n:=m4) _ (by simp only[gA1,gA2,gA3,gA6,ne_eq,gA9,reduceIte,gA5,hb2,hb3,hb4]<;>(first|done|rfl|assumption)) hjT hT (Rd.to_mono hk4 (fun _ w5 m5 hk5 hlt5 hw5 hm5=>?_) (fun f h=>PB.of (by (repeat (first|refine gsl_gx hown2.free ?_|exact gA8 _ _|refine St.gx_r ?_|refine gA7 (by first|simp only[hb2,hb3,hb4]|assumption) ?_|refine St.gx_T (by first|simp only[hb2,hb3,hb4]|assumption) ?_))) h));subst m5;rw[Rd.ok_to] at hk5;simp only[go_sem,gA5,hb2,hb3,hb4];have hk6:=hk5 (j+1) { o with ma:=y } (by omega) hlt5 hw5 hm4 (ItQ.set (k:=7) (a:=(y,l.length,68)) hQ (by simp[dOwn]) hown2 (by omega) (by have:=hy.len;simp only;omega));refine DK.st hk6 ?_;unfold itS;rw[show dOwn { d with kind:=x,many:=l } { o with ma:=y }=(dOwn d o).set 7 (y,l.length,68) by simp[dOwn]];refine gsl_ge ?_;simp only[dcN];exact (by (refine gel_ge ?_;repeat (first|exact gel_refl _ _ _|refine gsl_gel hown2.free ?_|refine gel_gs_gs ?_|refine gel_to_gs gs_self ?_|refine gB1 ?_|refine gB2 ?_|refine gel_set (by simp only[gA1,gA2,gA3,gA6,ne_eq,gA9,reduceIte,gA5,hb2,hb3,hb4]<;>(first|done|rfl|assumption)) ?_|refine gB3 ?_|refine gel_new (by first|simp only[hb2,hb3,hb4]|assumption) ?_)))
 rw[placeR,if_neg (by simp[c1]),if_neg (by simp[c2]),if_neg (by simp[c3]),if_neg (by simp[c4]),Rd.bad_to] at hk;simp only[go_sem,gA5,hb2,hb3,hb4];refine fail_den (d:=dcN d o) (T:=T) (fin:=fin) (first:=first) (i:=i) (n:=n) 11 (by simp only[gA1,gA2,gA3,gA6,ne_eq,gA9,reduceIte,gA5,hb2,hb3,hb4]<;>(first|done|rfl|assumption)) hi hT ?_;rw[hw];exact DK.here (hk _ (psO T fin (dcN d o) first i n) (by (repeat (first|refine gsl_gx hfr ?_|exact gA8 _ _|refine St.gx_r ?_|refine gA7 (by first|simp only[hb2,hb3,hb4]|assumption) ?_|refine St.gx_T (by first|simp only[hb2,hb3,hb4]|assumption) ?_))) (by simp only[gA1,gA2,gA3,gA6,ne_eq,gA9,reduceIte,gA5,hb2,hb3,hb4]<;>(first|done|rfl|assumption)))
end
end Go.AV
end
