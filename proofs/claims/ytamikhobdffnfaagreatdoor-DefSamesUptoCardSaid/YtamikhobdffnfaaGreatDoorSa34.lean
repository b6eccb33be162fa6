/-
  DefSames: for all two definitions that are together of bulk at most 1048576 the call returns true; the arguments read as before, memory that was there is as it was (where the listed package-level variables hold what the text of the program lays).
-/
import Derived.Test.YtamikhobdffnfaaGreatDoorSa28
import Derived.Test.YtamikhobdffnfaaGreatDoorSa29
import Derived.Test.YtamikhobdffnfaaGreatDoorSa30
import Derived.Test.YtamikhobdffnfaaGreatDoorSa31
import Derived.Test.YtamikhobdffnfaaGreatDoorSa32
import Derived.Test.YtamikhobdffnfaaGreatDoorSa33
import Derived.Test.YtamikhobdffnfaaGreatDoorSa16
import Derived.Test.YtamikhobdffnfaaGreatDoorSa17
import Derived.Test.YtamikhobdffnfaaGreatDoorSa12
import Derived.WideShapes
import Derived.Test.YtamikhobdffnfaaGreatDoorSa15
import Derived.Test.YtamikhobdffnfaaGreatDoorSa13
import Derived.Test.YtamikhobdffnfaaGreatDoorSa14
import Derived.ChangeMaps5
import Derived.ReadAgain
set_option linter.all false
set_option maxRecDepth 1000000
set_option maxHeartbeats 40000000
section
namespace Go.AV
open Go Go.Proofs
def eqZL (f:A→A→Bool):List A→List A→Bool
 | [],[]=>true
 | a::l,b::r=>match f a b with
  | true=>eqZL f l r
  | false=>false
 | _,_=>false
def eqZ:Nat→A→A→Bool
 | 0,_,_=>false
 | n+1,a,b=>match a with
  | .int k x=>match b with
   | .int j y=>decide (k=j)&&decide (x=y)
   | _=>false
  | .str x=>match b with
   | .str y=>decide (x=y)
   | _=>false
  | .nils=>match b with
   | .nils=>true
   | _=>false
  | .agg l=>match b with
   | .agg r=>eqZL (eqZ n) l r
   | _=>false
  | .list none l=>match b with
   | .list none r=>eqZL (eqZ n) l r
   | _=>false
  | _=>false
theorem eqZL_ok {f:A→A→Bool} (hf:∀ a b,f a b=true→a=b):∀ {l r:List A},eqZL f l r=true→l=r
 | [],[],_=>rfl
 | a::l,b::r,h=>by
  simp only[eqZL] at h;split at h
  ·rename_i e;rw[hf a b e,eqZL_ok hf h]
  ·cases h
 | [],_::_,h=>by cases h
 | _::_,[],h=>by cases h
theorem eqZ_ok:∀ (n:Nat) (a b:A),eqZ n a b=true→a=b
 | 0,_,_,h=>by cases h
 | n+1,a,b,h=>by
  have ih:=eqZ_ok n;unfold eqZ at h;split at h<;>(try (cases h;done))<;>split at h<;>(try (cases h;done))
  ·simp only[gD5,decide_eq_true_eq] at h;rw[h.1,h.2]
  ·rw[of_decide_eq_true h]
  ·rfl
  ·rw[eqZL_ok ih h]
  ·rw[eqZL_ok ih h]
theorem frzL_lq {xs:List A} (hx:frzL (frz 60) xs=some xs):∀ x,x∈xs→x.lp x:=fun x hx'=>by
 obtain ⟨j,hj,rfl⟩:=List.getElem_of_mem hx';obtain ⟨y,h1,h2⟩:=(frzL_get hx).2 j xs[j] (List.getElem?_eq_getElem hj);rw[List.getElem?_eq_getElem hj] at h1;cases h1;exact frz_ok 60 _ _ h2
def extK (xs:List A) (r:A) (k:CR) (l:List A) (σ:XS):CR:=match eqZL (eqZ 60) l xs with
 | true=>.val r σ
 | false=>k
theorem extK_ok {f:FuncId} {xs:List A} {r:A} {k:CR} (hx:frzL (frz 60) xs=some xs) (hr:frz 60 r=some r) (h:∀ (s:St) (KV Kp:St→A→Prop),KV s r→Den cx f xs KV Kp s)
  {l:List A} {σ:XS} {s:St} {KV Kp:St→A→Prop} (hs:Sim s σ) (hk:k.to KV Kp→Den cxd f l KV Kp s) (hh:(extK xs r k l σ).to KV Kp):Den cxd f l KV Kp s:=by
 unfold extK at hh;split at hh
 ·rename_i e;have e':=eqZL_ok (eqZ_ok 60) e;subst e';exact to_cxd (frzL_lq hx) (frz_ok 60 _ _ hr) (fun KV Kp s hk=>h s KV Kp hk) (hh s hs)
 ·exact hk hh
def awS2:Str:=[108,97,110,103,117,97,103,101,32,101,46,32,115,111,114,116]
def awS3:Str:=[108,97,110,103,117,97,103,101,32,101,46,10,115,111,114,116,32,65,32,66,46]
def awS4:Str:=[102,40,88,58,73,110,116,44,32,91,45,49,32,124,32,76,93,41]
def awS5:Str:=[45,32,53]
def awS6:Str:=[108,97,110,103,117,97,103,101,32,101,46,32,115,116,97,114,116,32,65,46,32,115,116,97,114,116,32,66,46]
def ans15 (l:List A) (σ:XS):CR:=extK [.str awS] (.tuple [awD.enc,Fault.enc ⟨0,[],0,0⟩]) (extK [.str awS2] (.tuple [noDfn.enc,Fault.enc ⟨12,[],1,17⟩]) (extK [.str awS3] (.tuple [noDfn.enc,Fault.enc ⟨11,[66],2,8⟩])
 (extK [.str awS6] (.tuple [noDfn.enc,Fault.enc ⟨14,[115,116,97,114,116],1,22⟩]) .bad l σ) l σ) l σ) l σ
def ans18 (l:List A) (σ:XS):CR:=extK [.str awS4] (.tuple [awT.enc,Fault.enc ⟨0,[],0,0⟩]) (extK [.str awS5] (.tuple [noTm.enc,Fault.enc ⟨11,[53],1,3⟩]) .bad l σ) l σ
def ans23 (l:List A) (σ:XS):CR:=extK [awD.enc] (.tuple [.str awOut,.int .i64 0]) .bad l σ
def ans25 (l:List A) (σ:XS):CR:=extK [awD.enc] (.bool true) .bad l σ
def ans27 (l:List A) (σ:XS):CR:=extK [awD.enc,.str [97],.str [98]] (.tuple [.agg awR,.int .i64 0]) (extK [awD.enc,.str [73,110,116],.str [98]] (.tuple [.agg awZ,.int .i64 2]) .bad l σ) l σ
def ans30 (l:List A) (σ:XS):CR:=extK [awD.enc,awD.enc] (.bool true) (extK [awD.enc,.agg awR] (.bool false) .bad l σ) l σ
def extA (f:FuncId):Option (List A→XS→CR):=match Nat.beq f 15 with
 | true=>some ans15
 | false=>match Nat.beq f 18 with
  | true=>some ans18
  | false=>match Nat.beq f 23 with
   | true=>some ans23
   | false=>match Nat.beq f 25 with
    | true=>some ans25
    | false=>match Nat.beq f 27 with
     | true=>some ans27
     | false=>match Nat.beq f 30 with
      | true=>some ans30
      | false=>extC f
theorem parseK {x:Str} {d:Dfn} {g:Fault} (h:parseS x=(d,g)) (hx:x.length≤4294967280) (s:St) (KV Kp:St→A→Prop) (hk:KV s (.tuple [d.enc,g.enc])):Den cx 15 [.str x] KV Kp s :=
 parse_den x hx (by rw[h];exact hk)
theorem termK {x:Str} {d:Tm} {g:Fault} (h:termS x=(d,g)) (hx:x.length≤4294967280) (s:St) (KV Kp:St→A→Prop) (hk:KV s (.tuple [d.enc,g.enc])):Den cx 18 [.str x] KV Kp s :=
 tterm_den x hx (by rw[h];exact hk)
theorem extA_ok:extOk cxd extA:=by
 intro f h hf l σ s KV Kp hs hh;have bad:(CR.bad).to KV Kp→Den cxd f l KV Kp s:=fun h=>h.elim
 unfold extA at hf;split at hf
 ·rename_i e;obtain rfl:=gC7 e;cases hf
  exact extK_ok (by kernel_rfl) (by kernel_rfl) (parseK aw_1 (by decide)) hs (extK_ok (by kernel_rfl) (by kernel_rfl) (parseK aw_2 (by decide)) hs (extK_ok (by kernel_rfl) (by kernel_rfl) (parseK aw_3 (by decide)) hs
   (extK_ok (by kernel_rfl) (by kernel_rfl) (parseK aw_6 (by decide)) hs bad))) hh
 split at hf
 ·rename_i e;obtain rfl:=gC7 e;cases hf;exact extK_ok (by kernel_rfl) (by kernel_rfl) (termK aw_4 (by decide)) hs (extK_ok (by kernel_rfl) (by kernel_rfl) (termK aw_5 (by decide)) hs bad) hh
 split at hf
 ·rename_i e;obtain rfl:=gC7 e;cases hf;exact extK_ok (by kernel_rfl) (by kernel_rfl) aw23 hs bad hh
 split at hf
 ·rename_i e;obtain rfl:=gC7 e;cases hf;exact extK_ok (by kernel_rfl) (by kernel_rfl) aw25 hs bad hh
 split at hf
 ·rename_i e;obtain rfl:=gC7 e;cases hf;exact extK_ok (by kernel_rfl) (by kernel_rfl) aw27 hs (extK_ok (by kernel_rfl) (by kernel_rfl) aw27z hs bad) hh
 split at hf
 ·rename_i e;obtain rfl:=gC7 e;cases hf;exact extK_ok (by kernel_rfl) (by kernel_rfl) aw30 hs (extK_ok (by kernel_rfl) (by kernel_rfl) aw30r hs bad) hh
 exact extC_ok f h hf l σ s KV Kp hs hh
theorem awake_den (s:St) (KV Kp:St→A→Prop) (hk:KV s (.bool true)):Den cx 14 [] KV Kp s:=by
 have hX:(xpS extA).ok { cx with det:=true }:=xpS_ok extA_ok;exact Den.run (X:=xpS extA) (fuel:=1000000) true hX glS_lp rfl (by kernel_rfl) hk
end Go.AV
end
section
namespace Go.AV
open Go Go.Proofs
theorem sames_den (a b:Dfn) (s:St) (KV Kp:St→A→Prop) (hA:dfnW a≤4294967296) (hA2:a.sig.ops.length+a.sig.funs.length≤4294967296) (hB:dfnW b≤4294967296) (hB2:b.sig.ops.length+b.sig.funs.length≤4294967296)
  (hk:KV s (.bool true)):Den cx 6 [a.enc,b.enc] KV Kp s:=by
 simp only[go_sem];refine Den.drop ?_;(refine Den.of_body (C:=cx) Tryz.func6 rfl rfl (gC6 rfl) ?_;refine wpC_ok (V:=[0,1,2,3,4,12]) _ _ _ _ ?_;simp only[go_sem,Tryz.ntmps6,Tryz.f6]);(intro p hp;try simp only[gD6,ne_eq] at hp);simp only[go_sem,hp];(intro q hq;try simp only[gD6,ne_eq] at hq);simp only[go_sem,hp,hq];refine few21_den a hA hA2 _ _ _ (fun b1=>?_);simp only[go_sem,hp,hq]
 (first|refine gC8 (fun h=>?_) (fun h=>?_)|refine gC9 (fun h=>?_) (fun h=>?_)|refine gD1 (fun h=>?_) (fun h=>?_))<;>simp only[go_sem,h,hp,hq]
 ·refine awake_den _ _ _ ?_;simp only[go_sem,hp,hq];exact DK.st hk (by (repeat (first|exact St.ge.refl _|refine St.ge_set (by simp only[hp,hq]) ?_)))
 clear h;refine few21_den b hB hB2 _ _ _ (fun b2=>?_);simp only[go_sem,hp,hq]
 (first|refine gC8 (fun h=>?_) (fun h=>?_)|refine gC9 (fun h=>?_) (fun h=>?_)|refine gD1 (fun h=>?_) (fun h=>?_))<;>simp only[go_sem,h,hp,hq]
 ·refine awake_den _ _ _ ?_;simp only[go_sem,hp,hq];exact DK.st hk (by (repeat (first|exact St.ge.refl _|refine St.ge_set (by simp only[hp,hq]) ?_)))
 clear h;(refine draw_ok (V:=[0,1,2,3,4,12]) (OT.l [0,1,3,4,2,5,6,7,8,9,11,12,10,13,14,15,16,17,18,19,20,21,22,23,24] .nil) [(2,[3,4,8,9,11,12,17,18]),(5,[8,9,11,12,17,18]),(10,[11,12,17,18]),(13,[17,18])] mixed_cx (by decide +kernel) ?_;simp only[go_sem,hp,hq]);refine dfnSame_den a b _ _ _ ?_;simp only[go_sem,hp,hq];refine same29_den a b _ _ _ ?_;simp only[go_sem,hp,hq,beq_self_eq_true];refine dfnSame_den b a _ _ _ ?_;rw[Dfn.same_comm b a];simp only[go_sem,hp,hq];refine same29_den a b _ _ _ ?_;simp only[go_sem,hp,hq,beq_self_eq_true];refine dfnSame_den a a _ _ _ ?_;rw[Dfn.same_self];simp only[go_sem,hp,hq];refine awake_den _ _ _ ?_;simp only[go_sem,hp,hq];exact DK.st hk (by (repeat (first|exact St.ge.refl _|refine St.ge_set (by simp only[hp,hq]) ?_)))
end Go.AV
end
section
namespace Go.AV
open Go Go.Proofs
mutual
def A.bulk:A→Nat
 | .list _ es=>A.bulkE es
 | .agg cs=>A.bulks cs
 | _=>0
def A.bulkE:List A→Nat
 | []=>0
 | a::r=>A.bulk a+1+A.bulkE r
def A.bulks:List A→Nat
 | []=>0
 | a::r=>A.bulk a+A.bulks r
end
theorem A.bulks_cells (a:A):A.bulks a.cells=a.bulk:=by
 cases a<;>simp[A.cells,A.bulks,A.bulk]
theorem A.bulks_app:∀ l r:List A,A.bulks (l++r)=A.bulks l+A.bulks r
 | [],r=>by simp[A.bulks]
 | a::l,r=>by simp[A.bulks,A.bulks_app l r,Nat.add_assoc]
theorem A.bulkE_app:∀ l r:List A,A.bulkE (l++r)=A.bulkE l+A.bulkE r
 | [],r=>by simp[A.bulkE]
 | a::l,r=>by simp[A.bulkE,A.bulkE_app l r,Nat.add_assoc]
theorem bulkAll_app {H:Type}:∀ l r:List (DataW H),YtamikhobdffnfaaGreatDoor.Rows.uptoBulkAll (l++r)=YtamikhobdffnfaaGreatDoor.Rows.uptoBulkAll l+YtamikhobdffnfaaGreatDoor.Rows.uptoBulkAll r
 | [],r=>by simp[YtamikhobdffnfaaGreatDoor.Rows.uptoBulkAll]
 | a::l,r=>by simp[YtamikhobdffnfaaGreatDoor.Rows.uptoBulkAll,bulkAll_app l r,Nat.add_assoc]
section
variable {H:Type} {enc:TypeId × Value→H} {P:Program} {W:World} {base:Nat} {spare:Nat→Bool} {held:Bool} {g:Gh}
def Knows (g:Gh) (W:World):Prop:=∀ b cs e fr,W.heap[b]?=some (.cells cs e fr)→g.pi b=some cs.toList
def Cl (g:Gh) (l:List A) (cs:List Value):Prop:=l.length=cs.length∧∀ (j:Nat) (c:A) (v:Value),l[j]?=some c→cs[j]?=some v→Rz g c v
theorem Cl.nil:Cl g [] []:=⟨rfl,fun j c v h=>by cases h⟩
theorem Cl.app {l r:List A} {cs ds:List Value} (h1:Cl g l cs) (h2:Cl g r ds):Cl g (l++r) (cs++ds):=by
 refine ⟨by rw[gC2,gC2,h1.1,h2.1],fun j c v hc hv=>?_⟩;by_cases hj:j<l.length
 ·rw[List.getElem?_append_left hj] at hc;rw[List.getElem?_append_left (by rw[← h1.1];exact hj)] at hv;exact h1.2 j c v hc hv
 ·rw[List.getElem?_append_right (by omega)] at hc;rw[List.getElem?_append_right (by rw[← h1.1];omega),← h1.1] at hv;exact h2.2 _ c v hc hv
theorem Cl.one {a:A} {v:Value} (h:Rz g a v):Cl g [a] [v]:=⟨rfl,fun j c w hc hw=>by
 cases j with
 | zero=>cases hc;cases hw;exact h
 | succ j=>cases hc⟩
theorem rz_str (S:ByteArray):Rz g (.str S.data.toList) (.string S):=by
 have h:=Rz.str (g:=g) S.data.toList;have e:(⟨S.data.toList.toArray⟩:ByteArray)=S:=by cases S;simp
 rw[e] at h;exact h
def OpQ (enc:TypeId × Value→H) (P:Program) (W:World) (base:Nat) (spare:Nat→Bool) (held:Bool) (g:Gh) (n:Nat) (t:TypeId) (Q:List A→Prop):Prop :=
 ∀ fuel,fuel≤n→∀ cs y,DataW.trod enc P W base spare held fuel t cs=some y→∃ l,Q l∧cs.length=P.cellsOf t∧Cl g l cs∧A.bulks l+1≤YtamikhobdffnfaaGreatDoor.Rows.uptoBulk y.1
def chained (P:Program):Nat→List Field→Bool
 | _,[]=>true
 | o,f::r=>Nat.beq f.offset o&&chained P (o+P.cellsOf f.type) r
def sizes (P:Program):List Field→Nat
 | []=>0
 | f::r=>P.cellsOf f.type+sizes P r
inductive Each:List (List A→Prop)→List (List A)→Prop
 | nil:Each [] []
 | cons {Q:List A→Prop} {l:List A} {Qs:List (List A→Prop)} {ls:List (List A)} (h:Q l) (t:Each Qs ls):Each (Q::Qs) (l::ls)
inductive OpQs (enc:TypeId × Value→H) (P:Program) (W:World) (base:Nat) (spare:Nat→Bool) (held:Bool) (g:Gh) (n:Nat):List Field→List (List A→Prop)→Prop
 | nil:OpQs enc P W base spare held g n [] []
 | cons {f:Field} {Q:List A→Prop} {fs:List Field} {Qs:List (List A→Prop)} (h:OpQ enc P W base spare held g n f.type Q) (t:OpQs enc P W base spare held g n fs Qs):OpQs enc P W base spare held g n (f::fs) (Q::Qs)
theorem open_fields {n fuel:Nat} (hf:fuel≤n):∀ {fs:List Field} {Qs:List (List A→Prop)} {o:Nat} {cs:List Value} {xs:List (DataW H × List MemPlace)},OpQs enc P W base spare held g n fs Qs→chained P o fs=true→cs.length=o+sizes P fs →
  fs.mapM (fun f=>DataW.trod enc P W base spare held fuel f.type ((cs.drop f.offset).take (P.cellsOf f.type)))=some xs→∃ ls,Each Qs ls∧Cl g ls.flatten (cs.drop o)∧A.bulks ls.flatten≤YtamikhobdffnfaaGreatDoor.Rows.uptoBulkAll (xs.map (·.1))
 | [],_,o,cs,xs,.nil,_,hl,_=>⟨[],.nil,by
   have:cs.drop o=[]:=List.drop_eq_nil_of_le (by simp only[sizes] at hl;omega);rw[this];exact Cl.nil,by simp[A.bulks]⟩
 | f::fs,_,o,cs,xs,.cons h t,hch,hl,hm=>by
  simp only[chained,gD5] at hch;obtain ⟨ho,hch⟩:=hch
  replace ho:=gC7 ho
  rw[List.mapM_cons] at hm;cases h1:DataW.trod enc P W base spare held fuel f.type ((cs.drop f.offset).take (P.cellsOf f.type)) with
  | none=>rw[h1] at hm;cases hm
  | some y =>
   rw[h1] at hm;cases h2:fs.mapM (fun f=>DataW.trod enc P W base spare held fuel f.type ((cs.drop f.offset).take (P.cellsOf f.type))) with
   | none=>rw[h2] at hm;cases hm
   | some ys =>
    rw[h2] at hm;cases hm;obtain ⟨l,hQ,hlen,hc,hb1⟩:=h fuel hf _ _ h1;simp only[sizes] at hl;obtain ⟨ls,hE,hcs,hb2⟩:=open_fields hf t hch (by omega) h2;refine ⟨l::ls,.cons hQ hE,?_,by rw[List.flatten_cons,A.bulks_app,List.map_cons];simp only[YtamikhobdffnfaaGreatDoor.Rows.uptoBulkAll];omega⟩
    have e:cs.drop o=(cs.drop f.offset).take (P.cellsOf f.type)++cs.drop (o+P.cellsOf f.type):=by
     rw[ho,← List.drop_drop,List.take_append_drop]
    rw[e,List.flatten_cons];exact hc.app hcs
theorem opq_struct {n:Nat} {t:TypeId} {fs:Array Field} {Qs:List (List A→Prop)} {Q:List A→Prop} (ht:P.underlying t=some (.struct fs)) (hch:chained P 0 fs.toList=true) (hsz:P.cellsOf t=sizes P fs.toList)
  (h:OpQs enc P W base spare held g n fs.toList Qs) (hQ:∀ ls,Each Qs ls→Q ls.flatten):OpQ enc P W base spare held g (n+1) t Q:=by
 intro fuel hf cs y hy;cases fuel with
 | zero=>cases hy
 | succ fuel =>
  unfold DataW.trod at hy;rw[ht] at hy;simp only at hy;split at hy
  ·rename_i hl;cases hm:fs.toList.mapM (fun f=>DataW.trod enc P W base spare held fuel f.type ((cs.drop f.offset).take (P.cellsOf f.type))) with
   | none=>rw[hm] at hy;cases hy
   | some xs =>
    rw[hm] at hy;cases hy;obtain ⟨ls,hE,hc,hb⟩:=open_fields (by omega) h hch (by omega) hm;rw[List.drop_zero] at hc;exact ⟨_,hQ ls hE,hl,hc,by simp only[YtamikhobdffnfaaGreatDoor.Rows.uptoBulk];omega⟩
  ·cases hy
theorem opq_int {n:Nat} {t:TypeId} {k:IntKind} (ht:P.underlying t=some (.int k)) (hc:P.cellsOf t=1):OpQ enc P W base spare held g n t (fun l=>∃ i:Int,(Lit.int k i).wf=true∧l=[.int k i]):=by
 intro fuel hf cs y hy;cases fuel with
 | zero=>cases hy
 | succ fuel =>
  unfold DataW.trod at hy;rw[ht] at hy;simp only at hy;split at hy<;>try (cases hy;done)
  all_goals (rename_i heq;try (cases heq;done))
  all_goals (cases heq;split at hy<;>try (cases hy;done))
  rename_i hh;obtain ⟨rfl,hw⟩:=hh;cases hy;exact ⟨_,⟨_,hw,rfl⟩,hc.symm,Cl.one (.int _ _),by simp[A.bulks,A.bulk,YtamikhobdffnfaaGreatDoor.Rows.uptoBulk]⟩
theorem opq_str {n:Nat} {t:TypeId} (ht:P.underlying t=some .string) (hc:P.cellsOf t=1):OpQ enc P W base spare held g n t (fun l=>∃ x:List UInt8,x.length≤maxLen∧l=[.str x]):=by
 intro fuel hf cs y hy;cases fuel with
 | zero=>cases hy
 | succ fuel =>
  unfold DataW.trod at hy;rw[ht] at hy;simp only at hy;split at hy<;>try (cases hy;done)
  all_goals (rename_i heq;try (cases heq;done))
  all_goals (split at hy<;>try (cases hy;done))
  rename_i hh;cases hy;exact ⟨_,⟨_,by simpa using hh,rfl⟩,hc.symm,Cl.one (rz_str _),by simp[A.bulks,A.bulk,YtamikhobdffnfaaGreatDoor.Rows.uptoBulk]⟩
theorem mapM_get {α β:Type} {f:α→Option β}:∀ {l:List α} {r:List β},l.mapM f=some r→r.length=l.length∧∀ (j:Nat) (x:α),l[j]?=some x→∃ y,r[j]?=some y∧f x=some y
 | [],r,h=>by
  rw[List.mapM_nil] at h;cases h;exact ⟨rfl,fun j x h=>by cases h⟩
 | a::l,r,h=>by
  rw[List.mapM_cons] at h;cases h1:f a with
  | none=>rw[h1] at h;cases h
  | some b =>
   rw[h1] at h;cases h2:l.mapM f with
   | none=>rw[h2] at h;cases h
   | some bs =>
    rw[h2] at h;cases h;obtain ⟨hl,hg⟩:=mapM_get h2;refine ⟨by simp[hl],fun j x hx=>?_⟩;cases j with
    | zero=>cases hx;exact ⟨b,rfl,h1⟩
    | succ j=>exact hg j x hx
theorem cells_get {a:Addr} {n:Nat} {cs:List Value} (h:W.cells? base a n=some cs):cs.length=n∧∀ (j:Nat) (v:Value),cs[j]?=some v→W.cell? (a.add j)=some v:=by
 unfold World.cells? at h;split at h
 ·obtain ⟨hl,hg⟩:=mapM_get h;rw[List.length_range] at hl;refine ⟨hl,fun j v hv=>?_⟩;have hj:j<n:=by rw[← hl];exact (List.getElem?_eq_some_iff.1 hv).1
  obtain ⟨y,h1,h2⟩:=hg j j (by rw[List.getElem?_range hj]);rw[hv] at h1;cases h1;exact h2
 ·cases h
theorem cell_get {a:Addr} {v:Value} (h:W.cell? a=some v):∃ c e fr,W.heap[a.block]?=some (.cells c e fr)∧a.spot=none∧c.toList[a.off]?=some v:=by
 unfold World.cell? at h;split at h
 ·rename_i c e fr hb;split at h
  ·cases h
  ·rename_i hs;refine ⟨c,e,fr,hb,by simpa using hs,by simpa using h⟩
 ·cases h
theorem opq_slice {α:Type} {n:Nat} {t e:TypeId} {en:α→A} {R:α→Prop} (ht:P.underlying t=some (.slice e)) (hc:P.cellsOf t=1) (hk:Knows g W) (h:OpQ enc P W base spare held g n e (fun l=>∃ x,R x∧l=(en x).cells))
  (hsz:∀ x,(en x).cells.length=P.cellsOf e) (h1:∀ x c,c∈(en x).cells→c.one=true) (hpos:0<P.cellsOf e):OpQ enc P W base spare held g (n+1) t (fun l=>∃ xs:List α,(∀ x,x∈xs→R x)∧xs.length≤maxLen∧l=[.list none (xs.map en)]):=by
 intro fuel hf cs y hy
 have one:∀ {v:Value} {xs:List α},Rz g (.list none (xs.map en)) v→Cl g [.list none (xs.map en)] [v]:=fun hr=>⟨rfl,fun j c v hc hv=>by
  cases j with
  | zero=>cases hc;cases hv;exact hr
  | succ j=>cases hc⟩
 cases fuel with
 | zero=>cases hy
 | succ fuel =>
  unfold DataW.trod at hy;rw[ht] at hy;simp only at hy;split at hy<;>try (cases hy;done)
  all_goals (rename_i heq;try (cases heq;done))
  ·cases hy;exact ⟨_,⟨[],fun x h=>(by cases h),Nat.zero_le _,rfl⟩,hc.symm,Cl.one (.list0 none none 0 (Nat.zero_le _) (fun t h=>by cases h)),by simp[A.bulks,A.bulk,A.bulkE,YtamikhobdffnfaaGreatDoor.Rows.uptoBulk]⟩
  ·rename_i a len cap;cases heq;split at hy<;>try (cases hy;done)
   rename_i hh;obtain ⟨hb,hlc,hcm⟩:=hh;cases hm:(List.range len).mapM (fun i=>(W.cells? base (a.add (i * P.cellsOf e)) (P.cellsOf e)).bind (DataW.trod enc P W base spare held fuel e)) with
   | none=>rw[hm] at hy;cases hy
   | some ys =>
    obtain ⟨hl,hg⟩:=mapM_get hm;rw[List.length_range] at hl;rw[hm] at hy;obtain ⟨rest,_,rfl⟩:=Option.map_eq_some_iff.1 (show Option.map _ _=some y from hy)
    have hel:∀ i,i<len→∃ (x:α) (cs:List Value) (y:DataW H × List MemPlace),ys[i]?=some y∧(en x).bulk+1≤YtamikhobdffnfaaGreatDoor.Rows.uptoBulk y.1∧R x∧W.cells? base (a.add (i * P.cellsOf e)) (P.cellsOf e)=some cs∧Cl g (en x).cells cs:=by
     intro i hi;obtain ⟨y,hyi,h2⟩:=hg i i (by rw[List.getElem?_range hi]);cases hcs:W.cells? base (a.add (i * P.cellsOf e)) (P.cellsOf e) with
     | none=>rw[hcs] at h2;cases h2
     | some cs =>
      rw[hcs] at h2;obtain ⟨_,⟨x,hx,rfl⟩,_,hcl,hb⟩:=h fuel (by omega) cs y h2;rw[A.bulks_cells] at hb;exact ⟨x,cs,y,hyi,hb,hx,rfl,hcl⟩
    have hxs:∀ k,k≤len→∃ xs:List α,(xs.length=k∧A.bulkE (xs.map en)≤YtamikhobdffnfaaGreatDoor.Rows.uptoBulkAll ((ys.take k).map (·.1)))∧∀ (i:Nat) (x:α),xs[i]?=some x→R x∧∃ cs,W.cells? base (a.add (i * P.cellsOf e)) (P.cellsOf e)=some cs∧Cl g (en x).cells cs:=by
     intro k
     induction k with
     | zero=>exact fun _=>⟨[],⟨rfl,by simp[A.bulkE]⟩,fun i x h=>by cases h⟩
     | succ k ih =>
      intro hk2;obtain ⟨xs,⟨h3,hb3⟩,h4⟩:=ih (by omega);obtain ⟨x,cs,y2,hy2,hb2,h5,h6,h7⟩:=hel k (by omega)
      have hbb:A.bulkE ((xs++[x]).map en)≤YtamikhobdffnfaaGreatDoor.Rows.uptoBulkAll ((ys.take (k+1)).map (·.1)):=by
       rw[List.take_succ,hy2,List.map_append,List.map_append,A.bulkE_app,bulkAll_app];simp only[List.map_cons,List.map_nil,A.bulkE,Option.toList,YtamikhobdffnfaaGreatDoor.Rows.uptoBulkAll];omega
      refine ⟨xs++[x],⟨by simp[h3],hbb⟩,fun i z hz=>?_⟩;by_cases hi:i<xs.length
      ·rw[List.getElem?_append_left hi] at hz;exact h4 i z hz
      ·rw[List.getElem?_append_right (by omega)] at hz
       have:i-xs.length=0:=by
        have:=(List.getElem?_eq_some_iff.1 hz).1;simp at this;omega
       rw[this] at hz;cases hz;have:i=k:=by omega
       subst this;exact ⟨h5,cs,h6,h7⟩
    obtain ⟨xs,⟨hxl,hxb⟩,hx⟩:=hxs len (Nat.le_refl _)
    have hbb:A.bulks [.list none (xs.map en)]+1≤YtamikhobdffnfaaGreatDoor.Rows.uptoBulk (DataW.slice (ys.map (·.1)) (rest.map (·.1))):=by
     rw[List.take_of_length_le (by omega)] at hxb;simp only[A.bulks,A.bulk,YtamikhobdffnfaaGreatDoor.Rows.uptoBulk];omega
    refine ⟨_,⟨xs,fun x hm=>?_,by omega,rfl⟩,hc.symm,Cl.one ?_,hbb⟩
    ·obtain ⟨i,hi,rfl⟩:=List.getElem_of_mem hm;exact (hx i _ (List.getElem?_eq_getElem hi)).1
    ·by_cases h0:len=0
     ·subst h0;have:xs=[]:=List.eq_nil_of_length_eq_zero hxl;subst this;exact .list0 none (some a) cap hcm (fun t h=>by cases h)
     ·have cellAt:∀ (i:Nat) (x:α) (j:Nat) (c:A),xs[i]?=some x→(en x).cells[j]?=some c→∃ v,W.cell? ((a.add (i * P.cellsOf e)).add j)=some v∧Rz g c v:=by
       intro i x j c hi hj;obtain ⟨_,cs,h6,h7⟩:=hx i x hi;obtain ⟨_,h8⟩:=cells_get h6;have hjl:j<cs.length:=by rw[← h7.1];exact (List.getElem?_eq_some_iff.1 hj).1
       exact ⟨_,h8 j _ (List.getElem?_eq_getElem hjl),h7.2 j c _ hj (List.getElem?_eq_getElem hjl)⟩
      obtain ⟨x0,hx0⟩:∃ x,xs[0]?=some x:=⟨_,List.getElem?_eq_getElem (by omega)⟩
      obtain ⟨c0,hc0⟩:∃ c,(en x0).cells[0]?=some c:=⟨_,List.getElem?_eq_getElem (by rw[hsz];exact hpos)⟩
      obtain ⟨v0,hv0,_⟩:=cellAt 0 x0 0 c0 hx0 hc0;have ea:(a.add (0 * P.cellsOf e)).add 0=a:=by simp[Addr.add]
      rw[ea] at hv0;obtain ⟨cc,ee,fr,hheap,hspot,_⟩:=cell_get hv0;obtain ⟨b,off,spot⟩:=a;simp only at hspot hheap;subst hspot
      have eadd:∀ i j,((⟨b,off,none⟩:Addr).add (i * P.cellsOf e)).add j=⟨b,off+i * P.cellsOf e+j,none⟩:=by
       intro i j;unfold Addr.add;by_cases h1:i * P.cellsOf e=0<;>by_cases h2:j=0<;>simp[h1,h2]
      have pre:∀ (i:Nat) (x:α) (j:Nat) (c:A),xs[i]?=some x→(en x).cells[j]?=some c→∃ v,cc.toList[off+i * P.cellsOf e+j]?=some v∧Rz g c v:=by
       intro i x j c hi hj;obtain ⟨v,h8,h9⟩:=cellAt i x j c hi hj;rw[eadd] at h8;obtain ⟨c2,e2,f2,h10,_,h11⟩:=cell_get h8;simp only at h10 h11;rw[hheap] at h10;cases h10;exact ⟨v,h11,h9⟩
      have hlen2:(xs.map en).length=len:=by rw[gC4,hxl]
      have hgoal:=Rz.list (g:=g) none (xs.map en) b off (P.cellsOf e) cap cc.toList (hk b cc ee fr hheap) (by
       rw[hlen2];obtain ⟨xl,hxl2⟩:∃ x,xs[len-1]?=some x:=⟨_,List.getElem?_eq_getElem (by omega)⟩
       obtain ⟨cl,hcl⟩:∃ c,(en xl).cells[P.cellsOf e-1]?=some c:=⟨_,List.getElem?_eq_getElem (by rw[hsz];omega)⟩
       obtain ⟨v,hv,_⟩:=pre (len-1) xl (P.cellsOf e-1) cl hxl2 hcl;have:=(List.getElem?_eq_some_iff.1 hv).1
       have e3:(len-1) * P.cellsOf e+P.cellsOf e=len * P.cellsOf e:=by
        rw[← Nat.succ_mul];congr 1;omega
       omega) (by omega) hcm
       (fun y hy => by
        obtain ⟨x,_,rfl⟩:=List.mem_map.1 hy;exact hsz x)
       (fun y hy => by
        obtain ⟨x,_,rfl⟩:=List.mem_map.1 hy;exact h1 x)
       (fun i y j c v hi hj hv => by
        rw[List.getElem?_map] at hi;cases hxi:xs[i]? with
        | none=>rw[hxi] at hi;cases hi
        | some x =>
         rw[hxi] at hi;cases hi;obtain ⟨w,hw,hr⟩:=pre i x j c hxi hj;rw[hv] at hw;cases hw;exact hr)
       (fun t h=>by cases h)
      rw[hlen2] at hgoal;exact hgoal
end
end Go.AV
end
section
namespace Go.AV
open Go Go.Proofs
section
variable {H:Type} {enc:TypeId × Value→H} {P:Program} {W W':World} {base:Nat} {spare:Nat→Bool} {held:Bool}
def Old (W W':World):Prop:=∀ k,k<W.heap.size→W'.heap[k]?=W.heap[k]?
theorem Old.get (h:Old W W') {b:Nat} {o:Obj} (hb:W.heap[b]?=some o):W'.heap[b]?=some o:=by
 rw[h b (Array.getElem?_eq_some_iff.1 hb).1];exact hb
theorem Old.cell (h:Old W W') {a:Addr} {v:Value} (hc:W.cell? a=some v):W'.cell? a=some v:=by
 unfold World.cell? at hc ⊢;split at hc
 ·rename_i c e fr hb;rw[h.get hb];exact hc
 ·cases hc
theorem mapM_imp {α β:Type} {f f':α→Option β} (h:∀ x y,f x=some y→f' x=some y):∀ {l:List α} {r:List β},l.mapM f=some r→l.mapM f'=some r
 | [],r,hm=>hm
 | a::l,r,hm=>by
  rw[List.mapM_cons] at hm ⊢;cases h1:f a with
  | none=>rw[h1] at hm;cases hm
  | some b =>
   rw[h1] at hm;cases h2:l.mapM f with
   | none=>rw[h2] at hm;cases hm
   | some bs =>
    rw[h2] at hm;rw[h a b h1,mapM_imp h h2];exact hm
theorem bind_imp {α β:Type} {x x':Option α} {k k':α→Option β} {y:β} (hx:∀ a,x=some a→x'=some a) (hk:∀ a y,k a=some y→k' a=some y) (h:x.bind k=some y):x'.bind k'=some y:=by
 cases h1:x with
 | none=>rw[h1] at h;cases h
 | some a=>rw[h1] at h;rw[hx a h1];exact hk a y h
theorem map_imp {α β:Type} {x x':Option α} {k:α→β} {y:β} (hx:∀ a,x=some a→x'=some a) (h:x.map k=some y):x'.map k=some y:=by
 cases h1:x with
 | none=>rw[h1] at h;cases h
 | some a=>rw[h1] at h;rw[hx a h1];exact h
theorem Old.cells (h:Old W W') {a:Addr} {n:Nat} {cs:List Value} (hc:W.cells? base a n=some cs):W'.cells? base a n=some cs:=by
 unfold World.cells? at hc ⊢;split at hc
 ·rename_i hb;rw[if_pos hb];exact mapM_imp (fun x y=>h.cell) hc
 ·cases hc
theorem trod_keep (h:Old W W'):∀ (fuel:Nat) (t:TypeId) (cs:List Value) (x:DataW H × List MemPlace),DataW.trod enc P W base spare held fuel t cs=some x→DataW.trod enc P W' base spare held fuel t cs=some x
 | 0,t,cs,x,hx=>by cases hx
 | fuel+1,t,cs,x,hx=>by
  have ih:=trod_keep h fuel
  have el:∀ (e:TypeId) (a:Addr) (n:Nat) (y:DataW H × List MemPlace),(W.cells? base a n).bind (DataW.trod enc P W base spare held fuel e)=some y→(W'.cells? base a n).bind (DataW.trod enc P W' base spare held fuel e)=some y :=
   fun e a n y=>bind_imp (fun cs=>h.cells) (fun cs y=>ih e cs y)
  unfold DataW.trod at hx ⊢;split at hx<;>(try simp only at hx ⊢)<;>(try exact hx)
  case h_6=>exact map_imp (fun y=>el _ _ _ y) hx
  case h_8 =>
   split at hx
   ·rename_i hh;rw[if_pos hh];refine bind_imp (fun y=>mapM_imp (fun i y=>el _ _ _ y)) (fun elems y=>map_imp (fun r hr=>?_)) hx;split at hr
    ·rename_i hs;rw[if_pos hs];exact mapM_imp (fun i y=>el _ _ _ y) hr
    ·rename_i hs;rw[if_neg hs];exact hr
   ·cases hx
  case h_9 =>
   split at hx
   ·rename_i hh;rw[if_pos hh];exact map_imp (fun y=>mapM_imp (fun f y=>ih _ _ y)) hx
   ·cases hx
  case h_10 =>
   split at hx
   ·rename_i hh;rw[if_pos hh];exact map_imp (fun y=>mapM_imp (fun f y=>ih _ _ y)) hx
   ·cases hx
  case h_12 =>
   split at hx<;>(try simp only at hx ⊢)<;>(try exact hx)
   exact map_imp (fun y=>ih _ _ y) hx
  case h_14 =>
   split at hx
   ·rename_i es clock hb;rw[h.get hb];simp only;split at hx
    ·rename_i hh;rw[if_pos hh];refine bind_imp (fun y=>mapM_imp (fun f y=>bind_imp (fun k hk=>hk) (fun k z hz=>?_))) (fun a y hy=>hy) hx;split at hz
     ·rename_i hf;simp only[hf,if_true];exact map_imp (fun y=>ih _ _ y) hz
     ·cases hz
    ·cases hx
   ·cases hx
theorem trodAll_keep (h:Old W W'):∀ {ts:List TypeId} {vs:List Value} {ds:List (DataW H)} {ps:List MemPlace},DataW.TrodAll enc P W base spare held ts vs ds ps→DataW.TrodAll enc P W' base spare held ts vs ds ps
 | [],[],[],ps,hh=>hh
 | t::ts,v::vs,d::ds,ps,⟨p,q,⟨fuel,hf⟩,h2,e⟩=>⟨p,q,⟨fuel,trod_keep h _ _ _ _ hf⟩,trodAll_keep h h2,e⟩
end
end Go.AV
end
section
namespace Go.AV
open Go Go.Proofs
section
variable {H:Type} {enc:TypeId × Value→H} {W:World} {base:Nat} {spare:Nat→Bool} {held:Bool} {g:Gh}
theorem opq_zero {P:Program} {t:TypeId} {Q:List A→Prop}:OpQ enc P W base spare held g 0 t Q:=fun fuel hf cs y hy=>by
 obtain rfl:fuel=0:=by omega
 cases hy
theorem opq_imp {P:Program} {n:Nat} {t:TypeId} {Q R:List A→Prop} (h:OpQ enc P W base spare held g n t Q) (hr:∀ l,Q l→R l):OpQ enc P W base spare held g n t R:=fun fuel hf cs y hy=>by
 obtain ⟨l,h1,h2⟩:=h fuel hf cs y hy;exact ⟨l,hr l h1,h2⟩
theorem tm_size (x:Tm):x.enc.cells.length=6:=by rw[Tm.enc_eq];rfl
theorem tm_one (x:Tm):∀ c,c∈x.enc.cells→c.one=true:=by
 rw[Tm.enc_eq];intro c hc;simp only[A.cells,Tm.cs,gC5,List.mem_nil_iff,or_false] at hc;rcases hc with rfl|rfl|rfl|rfl|rfl|rfl<;>rfl
theorem opq_tm (hk:Knows g W):∀ n,OpQ enc Tryz.prog W base spare held g n 43 (fun l=>∃ x:Tm,True∧l=x.enc.cells) ∧
  OpQ enc Tryz.prog W base spare held g n 41 (fun l=>∃ xs:List Tm,(∀ x,x∈xs→True)∧xs.length≤maxLen∧l=[.list none (xs.map Tm.enc)])
 | 0=>⟨opq_zero,opq_zero⟩
 | n+1=>by
  obtain ⟨h1,h2⟩:=opq_tm hk n;refine ⟨?_,opq_slice Tryz.underlying41 (by kernel_rfl) hk h1 (fun x=>(tm_size x).trans (by kernel_rfl)) tm_one (by rw[show Tryz.prog.cellsOf 43=6 by kernel_rfl];omega)⟩;refine opq_struct Tryz.underlying43 (by kernel_rfl) (by kernel_rfl) (.cons (opq_int Tryz.underlying40 (by kernel_rfl)) (.cons (opq_int Tryz.underlying3 (by kernel_rfl)) (.cons (opq_str Tryz.underlying9 (by kernel_rfl)) (.cons (opq_str Tryz.underlying9 (by kernel_rfl)) (.cons h2 (.cons h2 .nil)))))) ?_
  ·intro ls hE;cases hE with|cons q1 hE =>
   cases hE with|cons q2 hE =>
   cases hE with|cons q3 hE =>
   cases hE with|cons q4 hE =>
   cases hE with|cons q5 hE =>
   cases hE with|cons q6 hE =>
   cases hE;obtain ⟨k,_,rfl⟩:=q1;obtain ⟨m,_,rfl⟩:=q2;obtain ⟨x,_,rfl⟩:=q3;obtain ⟨y,_,rfl⟩:=q4;obtain ⟨a,_,_,rfl⟩:=q5;obtain ⟨b,_,_,rfl⟩:=q6;exact ⟨.mk k m x y a b,trivial,by rw[Tm.enc_eq];rfl⟩
end
end Go.AV
end
section
namespace Go.AV
open Go Go.Proofs
section
variable {H:Type} {enc:TypeId × Value→H} {W:World} {base:Nat} {spare:Nat→Bool} {held:Bool} {g:Gh}
theorem opq_slice' {P:Program} {α:Type} {t e:TypeId} {en:α→A} (ht:P.underlying t=some (.slice e)) (hc:P.cellsOf t=1) (hk:Knows g W) (h:∀ n,OpQ enc P W base spare held g n e (fun l=>∃ x,l=(en x).cells))
  (hsz:∀ x,(en x).cells.length=P.cellsOf e) (h1:∀ x c,c∈(en x).cells→c.one=true) (hpos:0<P.cellsOf e):∀ n,OpQ enc P W base spare held g n t (fun l=>∃ xs:List α,l=[.list none (xs.map en)])
 | 0=>opq_zero
 | n+1=>opq_imp (opq_slice (R:=fun _=>True) ht hc hk (opq_imp (h n) (fun l ⟨x,e⟩=>⟨x,trivial,e⟩)) hsz h1 hpos) (fun l ⟨xs,_,_,e⟩=>⟨xs,e⟩)
theorem opq_struct' {P:Program} {t:TypeId} {fs:Array Field} {Qs:List (List A→Prop)} {Q:List A→Prop} (ht:P.underlying t=some (.struct fs)) (hch:chained P 0 fs.toList=true) (hsz:P.cellsOf t=sizes P fs.toList)
  (h:∀ n,OpQs enc P W base spare held g n fs.toList Qs) (hQ:∀ ls,Each Qs ls→Q ls.flatten):∀ n,OpQ enc P W base spare held g n t Q
 | 0=>opq_zero
 | n+1=>opq_struct ht hch hsz (h n) hQ
theorem oq_int3 (n:Nat):OpQ enc Tryz.prog W base spare held g n 3 (fun l=>∃ i:Int,l=[.int .i64 i]):=opq_imp (opq_int Tryz.underlying3 (by kernel_rfl)) (fun l ⟨i,_,e⟩=>⟨i,e⟩)
theorem oq_int70 (n:Nat):OpQ enc Tryz.prog W base spare held g n 70 (fun l=>∃ i:Int,l=[.int .i64 i]):=opq_imp (opq_int Tryz.underlying70 (by kernel_rfl)) (fun l ⟨i,_,e⟩=>⟨i,e⟩)
theorem oq_str (n:Nat):OpQ enc Tryz.prog W base spare held g n 9 (fun l=>∃ x:List UInt8,l=[.str x]):=opq_imp (opq_str Tryz.underlying9 (by kernel_rfl)) (fun l ⟨i,_,e⟩=>⟨i,e⟩)
theorem oq_tm (hk:Knows g W) (n:Nat):OpQ enc Tryz.prog W base spare held g n 43 (fun l=>∃ x:Tm,l=x.cs):=opq_imp (opq_tm hk n).1 (fun l ⟨x,_,e⟩=>⟨x,by rw[e,Tm.enc_eq];rfl⟩)
theorem oq_tms (hk:Knows g W) (n:Nat):OpQ enc Tryz.prog W base spare held g n 41 (fun l=>∃ xs:List Tm,l=[.list none (xs.map Tm.enc)]):=opq_imp (opq_tm hk n).2 (fun l ⟨x,_,_,e⟩=>⟨x,e⟩)
theorem oq_strs (hk:Knows g W):∀ n,OpQ enc Tryz.prog W base spare held g n 24 (fun l=>∃ xs:List (List UInt8),l=[.list none (xs.map .str)]) :=
 opq_slice' Tryz.underlying24 (by kernel_rfl) hk oq_str (fun x=>(by kernel_rfl:1=Tryz.prog.cellsOf 9)) (fun x c hc=>by simp only[A.cells,List.mem_singleton] at hc;subst hc;rfl) (by rw[show Tryz.prog.cellsOf 9=1 by kernel_rfl];omega)
theorem oq_ints (hk:Knows g W):∀ n,OpQ enc Tryz.prog W base spare held g n 71 (fun l=>∃ xs:List Int,l=[.list none (xs.map (.int .i64))]) :=
 opq_slice' Tryz.underlying71 (by kernel_rfl) hk oq_int3 (fun x=>(by kernel_rfl:1=Tryz.prog.cellsOf 3)) (fun x c hc=>by simp only[A.cells,List.mem_singleton] at hc;subst hc;rfl) (by rw[show Tryz.prog.cellsOf 3=1 by kernel_rfl];omega)
theorem oq_below (n:Nat):OpQ enc Tryz.prog W base spare held g n 104 (fun l=>∃ x:Below,l=x.cs) :=
 opq_struct' Tryz.underlying104 (by kernel_rfl) (by kernel_rfl) (fun n=>.cons (oq_str n) (.cons (oq_str n) .nil)) (fun ls hE=>by
  cases hE with|cons q1 hE =>
  cases hE with|cons q2 hE =>
  cases hE;obtain ⟨a,rfl⟩:=q1;obtain ⟨b,rfl⟩:=q2;exact ⟨⟨a,b⟩,rfl⟩) n
theorem oq_piece (n:Nat):OpQ enc Tryz.prog W base spare held g n 143 (fun l=>∃ x:Piece,l=x.cs) :=
 opq_struct' Tryz.underlying143 (by kernel_rfl) (by kernel_rfl) (fun n=>.cons (oq_str n) (.cons (oq_str n) .nil)) (fun ls hE=>by
  cases hE with|cons q1 hE =>
  cases hE with|cons q2 hE =>
  cases hE;obtain ⟨a,rfl⟩:=q1;obtain ⟨b,rfl⟩:=q2;exact ⟨⟨a,b⟩,rfl⟩) n
end
end Go.AV
end
section
namespace Go.AV
open Go Go.Proofs
section
variable {H:Type} {enc:TypeId × Value→H} {W:World} {base:Nat} {spare:Nat→Bool} {held:Bool} {g:Gh}
theorem tm_one' (x:Tm):∀ c,c∈x.cs→c.one=true:=by
 intro c hc;simp only[Tm.cs,gC5,List.mem_nil_iff,or_false] at hc;rcases hc with rfl|rfl|rfl|rfl|rfl|rfl<;>rfl
theorem below_one (x:Below):∀ c,c∈x.enc.cells→c.one=true:=by
  intro c hc;simp only[Below.enc,A.cells,Below.cs,gC5,List.mem_nil_iff,or_false] at hc
  repeat' (first|(subst hc;rfl)|(rcases hc with hc|hc))
theorem oq_belows (hk:Knows g W):∀ n,OpQ enc Tryz.prog W base spare held g n 25 (fun l=>∃ xs:List Below,l=[.list none (xs.map Below.enc)]) :=
 opq_slice' Tryz.underlying25 (by kernel_rfl) hk (fun n=>opq_imp (oq_below n) (fun l ⟨x,e⟩=>⟨x,e⟩)) (fun x=>(show x.enc.cells.length=2 from rfl).trans (by kernel_rfl)) below_one (by rw[show Tryz.prog.cellsOf 104=2 by kernel_rfl];omega)
theorem piece_one (x:Piece):∀ c,c∈x.enc.cells→c.one=true:=by
  intro c hc;simp only[Piece.enc,A.cells,Piece.cs,gC5,List.mem_nil_iff,or_false] at hc
  repeat' (first|(subst hc;rfl)|(rcases hc with hc|hc))
theorem oq_pieces (hk:Knows g W):∀ n,OpQ enc Tryz.prog W base spare held g n 69 (fun l=>∃ xs:List Piece,l=[.list none (xs.map Piece.enc)]) :=
 opq_slice' Tryz.underlying69 (by kernel_rfl) hk (fun n=>opq_imp (oq_piece n) (fun l ⟨x,e⟩=>⟨x,e⟩)) (fun x=>(show x.enc.cells.length=2 from rfl).trans (by kernel_rfl)) piece_one (by rw[show Tryz.prog.cellsOf 143=2 by kernel_rfl];omega)
theorem oq_opr (hk:Knows g W) (n:Nat):OpQ enc Tryz.prog W base spare held g n 73 (fun l=>∃ x:Opr,l=x.cs) :=
 opq_struct' Tryz.underlying73 (by kernel_rfl) (by kernel_rfl) (fun n=>.cons (oq_str n) (.cons (oq_strs hk n) (.cons (oq_str n) (.cons (oq_pieces hk n) (.cons (oq_int3 n) (.cons (oq_int70 n) (.cons (oq_ints hk n) .nil))))))) (fun ls hE=>by
  cases hE with|cons q0 hE =>
  cases hE with|cons q1 hE =>
  cases hE with|cons q2 hE =>
  cases hE with|cons q3 hE =>
  cases hE with|cons q4 hE =>
  cases hE with|cons q5 hE =>
  cases hE with|cons q6 hE =>
  cases hE;obtain ⟨a0,rfl⟩:=q0;obtain ⟨a1,rfl⟩:=q1;obtain ⟨a2,rfl⟩:=q2;obtain ⟨a3,rfl⟩:=q3;obtain ⟨a4,rfl⟩:=q4;obtain ⟨a5,rfl⟩:=q5;obtain ⟨a6,rfl⟩:=q6;exact ⟨⟨a0,a1,a2,a3,a4,a5,a6⟩,by simp only[Opr.cs,List.flatten_cons,List.flatten_nil,List.append_nil,gD2,gD3]⟩) n
theorem opr_one (x:Opr):∀ c,c∈x.enc.cells→c.one=true:=by
  intro c hc;simp only[Opr.enc,A.cells,Opr.cs,gC5,List.mem_nil_iff,or_false] at hc
  repeat' (first|(subst hc;rfl)|(rcases hc with hc|hc))
theorem oq_oprs (hk:Knows g W):∀ n,OpQ enc Tryz.prog W base spare held g n 26 (fun l=>∃ xs:List Opr,l=[.list none (xs.map Opr.enc)]) :=
 opq_slice' Tryz.underlying26 (by kernel_rfl) hk (fun n=>opq_imp (oq_opr hk n) (fun l ⟨x,e⟩=>⟨x,e⟩)) (fun x=>(show x.enc.cells.length=7 from rfl).trans (by kernel_rfl)) opr_one (by rw[show Tryz.prog.cellsOf 73=7 by kernel_rfl];omega)
theorem oq_sig (hk:Knows g W) (n:Nat):OpQ enc Tryz.prog W base spare held g n 28 (fun l=>∃ x:Sig,l=x.cs) :=
 opq_struct' Tryz.underlying28 (by kernel_rfl) (by kernel_rfl) (fun n=>.cons (oq_strs hk n) (.cons (oq_belows hk n) (.cons (oq_oprs hk n) (.cons (oq_oprs hk n) (.cons (oq_strs hk n) .nil))))) (fun ls hE=>by
  cases hE with|cons q0 hE =>
  cases hE with|cons q1 hE =>
  cases hE with|cons q2 hE =>
  cases hE with|cons q3 hE =>
  cases hE with|cons q4 hE =>
  cases hE;obtain ⟨a0,rfl⟩:=q0;obtain ⟨a1,rfl⟩:=q1;obtain ⟨a2,rfl⟩:=q2;obtain ⟨a3,rfl⟩:=q3;obtain ⟨a4,rfl⟩:=q4;exact ⟨⟨a0,a1,a2,a3,a4⟩,by simp only[Sig.cs,List.flatten_cons,List.flatten_nil,List.append_nil,gD2,gD3]⟩) n
theorem oq_eqn (hk:Knows g W) (n:Nat):OpQ enc Tryz.prog W base spare held g n 80 (fun l=>∃ x:Eqn,l=x.cs) :=
 opq_struct' Tryz.underlying80 (by kernel_rfl) (by kernel_rfl) (fun n=>.cons (oq_tm hk n) (.cons (oq_tm hk n) (.cons (oq_tms hk n) (.cons (oq_int3 n) (.cons (oq_int3 n) .nil))))) (fun ls hE=>by
  cases hE with|cons q0 hE =>
  cases hE with|cons q1 hE =>
  cases hE with|cons q2 hE =>
  cases hE with|cons q3 hE =>
  cases hE with|cons q4 hE =>
  cases hE;obtain ⟨a0,rfl⟩:=q0;obtain ⟨a1,rfl⟩:=q1;obtain ⟨a2,rfl⟩:=q2;obtain ⟨a3,rfl⟩:=q3;obtain ⟨a4,rfl⟩:=q4;exact ⟨⟨a0,a1,a2,a3,a4⟩,by simp only[Eqn.cs,List.flatten_cons,List.flatten_nil,List.append_nil,gD2,gD3]⟩) n
theorem eqn_one (x:Eqn):∀ c,c∈x.enc.cells→c.one=true:=by
  intro c hc;simp only[Eqn.enc,A.cells,Eqn.cs,List.mem_append,gC5,List.mem_nil_iff,or_false] at hc
  repeat' (first|(subst hc;rfl)|exact tm_one' _ c hc|(rcases hc with hc|hc))
theorem oq_eqns (hk:Knows g W):∀ n,OpQ enc Tryz.prog W base spare held g n 29 (fun l=>∃ xs:List Eqn,l=[.list none (xs.map Eqn.enc)]) :=
 opq_slice' Tryz.underlying29 (by kernel_rfl) hk (fun n=>opq_imp (oq_eqn hk n) (fun l ⟨x,e⟩=>⟨x,e⟩)) (fun x=>(show x.enc.cells.length=15 from rfl).trans (by kernel_rfl)) eqn_one (by rw[show Tryz.prog.cellsOf 80=15 by kernel_rfl];omega)
theorem oq_cel (hk:Knows g W) (n:Nat):OpQ enc Tryz.prog W base spare held g n 68 (fun l=>∃ x:Cel,l=x.cs) :=
 opq_struct' Tryz.underlying68 (by kernel_rfl) (by kernel_rfl) (fun n=>.cons (oq_str n) (.cons (oq_str n) (.cons (oq_tm hk n) (.cons (oq_int3 n) (.cons (oq_int3 n) .nil))))) (fun ls hE=>by
  cases hE with|cons q0 hE =>
  cases hE with|cons q1 hE =>
  cases hE with|cons q2 hE =>
  cases hE with|cons q3 hE =>
  cases hE with|cons q4 hE =>
  cases hE;obtain ⟨a0,rfl⟩:=q0;obtain ⟨a1,rfl⟩:=q1;obtain ⟨a2,rfl⟩:=q2;obtain ⟨a3,rfl⟩:=q3;obtain ⟨a4,rfl⟩:=q4;exact ⟨⟨a0,a1,a2,a3,a4⟩,by simp only[Cel.cs,List.flatten_cons,List.flatten_nil,List.append_nil,gD2,gD3]⟩) n
theorem cel_one (x:Cel):∀ c,c∈x.enc.cells→c.one=true:=by
  intro c hc;simp only[Cel.enc,A.cells,Cel.cs,List.mem_append,gC5,List.mem_nil_iff,or_false] at hc
  repeat' (first|(subst hc;rfl)|exact tm_one' _ c hc|(rcases hc with hc|hc))
theorem oq_cels (hk:Knows g W):∀ n,OpQ enc Tryz.prog W base spare held g n 30 (fun l=>∃ xs:List Cel,l=[.list none (xs.map Cel.enc)]) :=
 opq_slice' Tryz.underlying30 (by kernel_rfl) hk (fun n=>opq_imp (oq_cel hk n) (fun l ⟨x,e⟩=>⟨x,e⟩)) (fun x=>(show x.enc.cells.length=10 from rfl).trans (by kernel_rfl)) cel_one (by rw[show Tryz.prog.cellsOf 68=10 by kernel_rfl];omega)
theorem oq_part (hk:Knows g W) (n:Nat):OpQ enc Tryz.prog W base spare held g n 86 (fun l=>∃ x:Part,l=x.cs) :=
 opq_struct' Tryz.underlying86 (by kernel_rfl) (by kernel_rfl) (fun n=>.cons (oq_str n) (.cons (oq_str n) (.cons (oq_tm hk n) (.cons (oq_tms hk n) (.cons (oq_int3 n) (.cons (oq_int3 n) .nil)))))) (fun ls hE=>by
  cases hE with|cons q0 hE =>
  cases hE with|cons q1 hE =>
  cases hE with|cons q2 hE =>
  cases hE with|cons q3 hE =>
  cases hE with|cons q4 hE =>
  cases hE with|cons q5 hE =>
  cases hE;obtain ⟨a0,rfl⟩:=q0;obtain ⟨a1,rfl⟩:=q1;obtain ⟨a2,rfl⟩:=q2;obtain ⟨a3,rfl⟩:=q3;obtain ⟨a4,rfl⟩:=q4;obtain ⟨a5,rfl⟩:=q5;exact ⟨⟨a0,a1,a2,a3,a4,a5⟩,by simp only[Part.cs,List.flatten_cons,List.flatten_nil,List.append_nil,gD2,gD3]⟩) n
theorem part_one (x:Part):∀ c,c∈x.enc.cells→c.one=true:=by
  intro c hc;simp only[Part.enc,A.cells,Part.cs,List.mem_append,gC5,List.mem_nil_iff,or_false] at hc
  repeat' (first|(subst hc;rfl)|exact tm_one' _ c hc|(rcases hc with hc|hc))
theorem oq_parts (hk:Knows g W):∀ n,OpQ enc Tryz.prog W base spare held g n 81 (fun l=>∃ xs:List Part,l=[.list none (xs.map Part.enc)]) :=
 opq_slice' Tryz.underlying81 (by kernel_rfl) hk (fun n=>opq_imp (oq_part hk n) (fun l ⟨x,e⟩=>⟨x,e⟩)) (fun x=>(show x.enc.cells.length=11 from rfl).trans (by kernel_rfl)) part_one (by rw[show Tryz.prog.cellsOf 86=11 by kernel_rfl];omega)
theorem oq_fresh (hk:Knows g W) (n:Nat):OpQ enc Tryz.prog W base spare held g n 141 (fun l=>∃ x:Fresh,l=x.cs) :=
 opq_struct' Tryz.underlying141 (by kernel_rfl) (by kernel_rfl) (fun n=>.cons (oq_tms hk n) .nil) (fun ls hE=>by
  cases hE with|cons q0 hE =>
  cases hE;obtain ⟨a0,rfl⟩:=q0;exact ⟨⟨a0⟩,by simp only[Fresh.cs,List.flatten_cons,List.flatten_nil,List.append_nil,gD2,gD3]⟩) n
theorem fresh_one (x:Fresh):∀ c,c∈x.enc.cells→c.one=true:=by
  intro c hc;simp only[Fresh.enc,A.cells,Fresh.cs,gC5,List.mem_nil_iff,or_false] at hc
  repeat' (first|(subst hc;rfl)|(rcases hc with hc|hc))
theorem oq_freshs (hk:Knows g W):∀ n,OpQ enc Tryz.prog W base spare held g n 82 (fun l=>∃ xs:List Fresh,l=[.list none (xs.map Fresh.enc)]) :=
 opq_slice' Tryz.underlying82 (by kernel_rfl) hk (fun n=>opq_imp (oq_fresh hk n) (fun l ⟨x,e⟩=>⟨x,e⟩)) (fun x=>(show x.enc.cells.length=1 from rfl).trans (by kernel_rfl)) fresh_one (by rw[show Tryz.prog.cellsOf 141=1 by kernel_rfl];omega)
theorem oq_rul (hk:Knows g W) (n:Nat):OpQ enc Tryz.prog W base spare held g n 84 (fun l=>∃ x:Rul,l=x.cs) :=
 opq_struct' Tryz.underlying84 (by kernel_rfl) (by kernel_rfl) (fun n=>.cons (oq_str n) (.cons (oq_parts hk n) (.cons (oq_tms hk n) (.cons (oq_freshs hk n) (.cons (oq_strs hk n) (.cons (oq_int3 n) (.cons (oq_int3 n) .nil))))))) (fun ls hE=>by
  cases hE with|cons q0 hE =>
  cases hE with|cons q1 hE =>
  cases hE with|cons q2 hE =>
  cases hE with|cons q3 hE =>
  cases hE with|cons q4 hE =>
  cases hE with|cons q5 hE =>
  cases hE with|cons q6 hE =>
  cases hE;obtain ⟨a0,rfl⟩:=q0;obtain ⟨a1,rfl⟩:=q1;obtain ⟨a2,rfl⟩:=q2;obtain ⟨a3,rfl⟩:=q3;obtain ⟨a4,rfl⟩:=q4;obtain ⟨a5,rfl⟩:=q5;obtain ⟨a6,rfl⟩:=q6;exact ⟨⟨a0,a1,a2,a3,a4,a5,a6⟩,by simp only[Rul.cs,List.flatten_cons,List.flatten_nil,List.append_nil,gD2,gD3]⟩) n
theorem rul_one (x:Rul):∀ c,c∈x.enc.cells→c.one=true:=by
  intro c hc;simp only[Rul.enc,A.cells,Rul.cs,gC5,List.mem_nil_iff,or_false] at hc
  repeat' (first|(subst hc;rfl)|(rcases hc with hc|hc))
theorem oq_ruls (hk:Knows g W):∀ n,OpQ enc Tryz.prog W base spare held g n 31 (fun l=>∃ xs:List Rul,l=[.list none (xs.map Rul.enc)]) :=
 opq_slice' Tryz.underlying31 (by kernel_rfl) hk (fun n=>opq_imp (oq_rul hk n) (fun l ⟨x,e⟩=>⟨x,e⟩)) (fun x=>(show x.enc.cells.length=7 from rfl).trans (by kernel_rfl)) rul_one (by rw[show Tryz.prog.cellsOf 84=7 by kernel_rfl];omega)
theorem oq_dfn (hk:Knows g W) (n:Nat):OpQ enc Tryz.prog W base spare held g n 33 (fun l=>∃ x:Dfn,l=x.cs) :=
 opq_struct' Tryz.underlying33 (by kernel_rfl) (by kernel_rfl) (fun n=>.cons (oq_str n) (.cons (oq_sig hk n) (.cons (oq_eqns hk n) (.cons (oq_cels hk n) (.cons (oq_str n) (.cons (oq_cels hk n) (.cons (oq_ruls hk n) (.cons (oq_str n) (.cons (oq_str n) .nil))))))))) (fun ls hE=>by
  cases hE with|cons q0 hE =>
  cases hE with|cons q1 hE =>
  cases hE with|cons q2 hE =>
  cases hE with|cons q3 hE =>
  cases hE with|cons q4 hE =>
  cases hE with|cons q5 hE =>
  cases hE with|cons q6 hE =>
  cases hE with|cons q7 hE =>
  cases hE with|cons q8 hE =>
  cases hE;obtain ⟨a0,rfl⟩:=q0;obtain ⟨a1,rfl⟩:=q1;obtain ⟨a2,rfl⟩:=q2;obtain ⟨a3,rfl⟩:=q3;obtain ⟨a4,rfl⟩:=q4;obtain ⟨a5,rfl⟩:=q5;obtain ⟨a6,rfl⟩:=q6;obtain ⟨a7,rfl⟩:=q7;obtain ⟨a8,rfl⟩:=q8;exact ⟨⟨a0,a1,a2,a3,a4,a5,a6,a7,a8⟩,by simp only[Dfn.cs,List.flatten_cons,List.flatten_nil,List.append_nil,gD2,gD3]⟩) n
theorem open_dfn {v:Value} {d:DataW H} {ps:List MemPlace} {r:Reach} {b0:Nat} (hk:Knows g W) (hval:Value.okWide Tryz.prog W r b0 33 v) (h:DataW.Trod enc Tryz.prog W base spare held 33 v d ps):∃ x:Dfn,Rz g x.enc v∧A.bulks x.cs+1≤YtamikhobdffnfaaGreatDoor.Rows.uptoBulk d:=by
 obtain ⟨cs,rfl,_⟩:=WideShapes.okWide_struct Tryz.underlying33 hval;obtain ⟨fuel,hf⟩:=h;obtain ⟨l,⟨x,rfl⟩,hl,hc,hb⟩:=oq_dfn hk fuel fuel (Nat.le_refl _) _ _ hf;refine ⟨x,?_,hb⟩;have:=Rz.agg (g:=g) x.cs cs.toList hc.1.symm ?_ hc.2
 ·unfold Dfn.enc;simpa using this
 ·intro c hc;simp only[Dfn.cs,Sig.cs,List.mem_append,gC5,List.mem_nil_iff,or_false] at hc
  repeat' (first|(subst hc;rfl)|(rcases hc with hc|hc))
end
end Go.AV
end
section
namespace Go.AV
open Go Go.Proofs
theorem len_bulkE:∀ l:List A,l.length≤A.bulkE l
 | []=>Nat.le_refl _
 | a::l=>by have:=len_bulkE l;simp only[gC1,A.bulkE];omega
theorem len_bulkM {α:Type} (en:α→A) (l:List α):l.length≤A.bulkE (l.map en):=by have:=len_bulkE (l.map en);rwa[gC4] at this
theorem sum_bulkE {α:Type} {f:α→Nat} {en:α→A} (k:Nat) (h:∀ x,f x≤k * ((en x).bulk+1)):∀ l:List α,(l.map f).sum≤k * A.bulkE (l.map en)
 | []=>by simp
 | x::l=>by
  have h1:=h x;have h2:=sum_bulkE k h l;simp only[List.map_cons,List.sum_cons,A.bulkE,Nat.mul_add] at h1 h2 ⊢;omega
theorem eqW_le (x:Eqn):eqW x≤2 * (x.enc.bulk+1):=by
 have:=len_bulkM Tm.enc x.cond;simp only[eqW,Eqn.enc,Eqn.cs,A.bulk,A.bulks,A.bulks_app];omega
theorem partW_le (x:Part):partW x≤1 * (x.enc.bulk+1):=by
 have:=len_bulkM Tm.enc x.right;simp only[partW,Part.enc,Part.cs,A.bulk,A.bulks,A.bulks_app];omega
theorem freshW_le (x:Fresh):x.cells.length≤1 * (x.enc.bulk+1):=by
 have:=len_bulkM Tm.enc x.cells;simp only[Fresh.enc,Fresh.cs,A.bulk,A.bulks];omega
theorem rulW_le (x:Rul):rulW x≤1 * (x.enc.bulk+1):=by
 have h1:=sum_bulkE 1 partW_le x.parts;have h2:=len_bulkM Tm.enc x.cond;have h3:=sum_bulkE 1 freshW_le x.new;simp only[rulW,Rul.enc,Rul.cs,A.bulk,A.bulks] at h1 h2 h3 ⊢;omega
theorem dfnW_le (x:Dfn):dfnW x≤2 * A.bulks x.cs∧x.sig.ops.length+x.sig.funs.length≤A.bulks x.cs:=by
 have h1:=sum_bulkE 2 eqW_le x.eqs;have h2:=sum_bulkE 1 rulW_le x.rules;have h3:=len_bulkM Cel.enc x.once;have h4:=len_bulkM Cel.enc x.many;have h5:=len_bulkM Opr.enc x.sig.ops;have h6:=len_bulkM Opr.enc x.sig.funs;simp only[dfnW,Dfn.cs,Sig.cs,A.bulk,A.bulks,A.bulks_app];omega
end Go.AV
end
section
namespace Go.Proofs.YtamikhobdffnfaaGreatDoor
open Go Go.AV Go.ChangeShapes Go.WideShapes Go.ChangeAt Go.RowKit
theorem own:ownKnob Tryz.prog.godebug=none:=by kernel_rfl
def allP (W:World):Nat→Option (List Value):=fun b=>match W.heap[b]? with
 | some (.cells cs _ _)=>some cs.toList
 | _=>none
theorem knows_all {W : World} {l : List (String × DataW Unit)} (hL : laidMet Tryz.prog l W) (h1 : ("strings.asciiSpace",Rows.laid_strings_asciiSpace) ∈ l)
  (h2 : ("internal/strconv.uint64pow10",Rows.laid_internal_strconv_uint64pow10) ∈ l) : Knows (gh0 (pi0 (allP W)) W) W := by
 obtain ⟨t0,f0,e0⟩:=tab_of_var asc_named (asc_tab hL h1);obtain ⟨t3,f3,e3⟩:=tab_of_var pow_named' (pow_tab hL h2);intro b cs e fr hb;show pi0 (allP W) b=some cs.toList;unfold pi0;split
 ·rw[e0] at hb;cases hb;rfl
 ·rw[e3] at hb;cases hb;rfl
 ·unfold allP;rw[hb]
theorem sames_contract (H:Type) (enc:TypeId × Value→H) (W:World) (base:Nat) (args:Array Value) (ds gs:List (DataW H)) (before:List MemPlace)
  (hval:∀ (j:Nat) t v,Tryz.f6.params[j]?=some t→args[j]?=some v→Value.okWide Tryz.prog W .any base t v)
  (hW:DataW.Whole enc Tryz.prog Tryz.f6.params.toList Rows.defSamesSpec.vars false W args.toList ds gs before) (hsm:Rows.uptoSmall H (ds++gs)=true) (hL:laidMetH Tryz.prog Rows.defSamesUptoRow.laid W) :
  Calls Tryz.prog 6 args W fun e W'=>∃ v,e=.returned v∧Rows.defSamesSpec.post enc Tryz.prog Tryz.f6 false true false false W args v W':=by
 have hW' := hW;have hlt := hW.lt;obtain ⟨p,q,hA0,hV,rfl,hfz,hnd⟩ := hW;have hA : DataW.TrodAll enc Tryz.prog W 0 (fun _ => true) true Tryz.f6.params.toList args.toList ds p := hA0;have hA1 := hA;rw [Tryz.params6] at hA hval;obtain ⟨v0,v1,d0,d1,p0,p1,rfl,rfl,rfl,h0,h1⟩ := trodAll_two hA;obtain ⟨rfl,rfl⟩ := trodVars_none hV;clear hA0;simp only [List.append_nil] at hW' hlt;have m1 : ("strings.asciiSpace",Rows.laid_strings_asciiSpace) ∈ Rows.defSamesUptoRow.laid := (.tail _ (.tail _ (.tail _ (.tail _ (.tail _ (.tail _ (.tail _ (.head _))))))));have m2 : ("internal/strconv.uint64pow10",Rows.laid_internal_strconv_uint64pow10) ∈ Rows.defSamesUptoRow.laid := (.tail _ (.tail _ (.head _)));have hK := knows_all hL m1 m2;obtain ⟨a,ha,hba⟩ := open_dfn hK (hval 0 33 v0 rfl rfl) h0;obtain ⟨b,hb,hbb⟩ := open_dfn hK (hval 1 33 v1 rfl rfl) h1;have hsum : Rows.uptoBulkAll [d0,d1] ≤ 1048576 := of_decide_eq_true hsm;simp only [Rows.uptoBulkAll] at hsum;obtain ⟨ha1,ha2⟩ := dfnW_le a;obtain ⟨hb1,hb2⟩ := dfnW_le b
 have hc:=seat_calls (f:=6) (args:=[a.enc,b.enc]) (vals:=[v0,v1]) (W:=W) (p:=allP W) (l:=Rows.defSamesUptoRow.laid) Tryz.func6 rfl rfl hL m1 m2
  (fun b pre h => by
   unfold allP at h;split at h
   ·rename_i cs t fr hh;cases h;exact ⟨[],t,fr,by rw[hh,List.append_nil]⟩
   ·cases h)
  (.cons ha (.cons hb (.nil _))) (sames_den a b _ _ _ (by omega) (by omega) (by omega) (by omega) rfl)
 refine hc.mono fun e W' ⟨he,hos,hout,hbk⟩=>?_
 subst he;have e1:Rows.defSamesSpec.fn H ([d0,d1]++[])={ results:=[.lit (.bool true)],args:=[d0,d1] }:=rfl;refine ⟨_,rfl,_,_,_,[],p0++p1,[],hW',?_,?_,?_,kept_of hos hout hbk,fun h=>by cases h⟩
 ·rw[e1];exact trodAll_mk1 (shut_bool Tryz.underlying4 true)
 ·rw[e1]
  exact DataW.TrodAll.respare (kids_rows sames_k1 sames_k2) (slices_full_of Tryz.prog (by kernel_rfl)) (fun t ht=>by
   rw[Tryz.params6] at ht;obtain rfl:t=33:=by simpa using ht
   exact of_decide_eq_true (by kernel_rfl)) (trodAll_keep hbk hA1) (fun p hp=>decide_eq_true (hlt p hp))
 ·rw[e1];rfl
def zeroV:Value:=.agg #[.string ⟨#[]⟩,.slice none 0 0,.slice none 0 0,.slice none 0 0,.slice none 0 0,.slice none 0 0,.slice none 0 0,.slice none 0 0,.string ⟨#[]⟩,.slice none 0 0,.slice none 0 0,.string ⟨#[]⟩,.string ⟨#[]⟩]
def zeroR {H:Type}:DataW H:=.agg [.lit (.string []),.agg [.nil,.nil,.nil,.nil,.nil],.nil,.nil,.lit (.string []),.nil,.nil,.lit (.string []),.lit (.string [])]
theorem sames_reads (os:Os) {H:Type} (enc:TypeId × Value→H) :
  ∃ places,DataW.whole enc Tryz.prog ((laidWorld os).forCall (fun _ _=>0) ⟨#[],#[zeroV,zeroV],[]⟩).memory Tryz.f6.params.toList (Rows.OpenSpec.upto Rows.defSamesSpec).vars false #[zeroV,zeroV].toList 8 =
   some ([zeroR,zeroR],[],places) :=
 ⟨[],by kernel_rfl⟩
theorem sames_lifted (os:Os) (started:os.Started) (H:Type) (enc:TypeId × Value→H) (F:Stop.Interp) :
  ReturnsInHanded {} Tryz.checked os 6 .any ((Rows.OpenSpec.upto Rows.defSamesSpec).preRow enc Tryz.prog Tryz.f6 Rows.defSamesUptoRow.domain false Rows.defSamesUptoRow.laid) (((Rows.OpenSpec.upto Rows.defSamesSpec).at F).post enc Tryz.prog Tryz.f6 false true false false):=by
 obtain ⟨places,hx⟩:=sames_reads os enc
 refine returnsInHanded_of_row (C:=Tryz.checked) (s:=Rows.OpenSpec.upto Rows.defSamesSpec) own started (by kernel_rfl) Tryz.func6
  (witness_row_atRef (enc := enc) (C := Tryz.checked) false (laidWorld os) #[zeroV,zeroV] rfl (by kernel_rfl) (by kernel_rfl) (by kernel_rfl)
   (OpenSpec.preRow_of_cond 8 hx (by kernel_rfl) (fun k hk=>by cases hk;rfl) (by kernel_rfl) (laid_met os _))) ?_
 intro W base args ds gs before hval hW _ hk _ hL _ _;exact sames_contract H enc W base args ds gs before hval hW (hk _ rfl) hL
theorem sames_said:Rows.DefSamesUptoSaid :=
 OpenClaim.holds_of_cond 6 Tryz.f6 rfl rfl rfl rfl rfl rfl rfl ⟨rfl,rfl,rfl,rfl,rfl⟩ rfl rfl rfl rfl rfl sames_named Tryz.func6 sames_closed
  (of_decide_eq_true (by kernel_rfl)) (by unfold Func.isWrapper;rw[if_neg (of_decide_eq_false (by kernel_rfl))];exact ⟨rfl,rfl⟩)
  (fun os started H enc _ F=>by rw[OpenClaim.pre_eq_preRow];exact sames_lifted os started H enc F)
theorem sames_plain (f:FuncId) (fn:Func) (hf:Tryz.pinned.checked.prog.funcNamed Rows.defSamesUptoRow.func=some f) (hfn:Tryz.pinned.checked.prog.funcs[f]?=some fn) :
  true=Tryz.pinned.checked.prog.looks []∧∀ (j:Nat) t,fn.params[j]?=some t→Tryz.pinned.checked.prog.wantsStandIn t=false:=by
 obtain rfl:f=6:=Option.some.inj (sames_named.symm.trans hf) |>.symm
 obtain rfl:fn=Tryz.f6:=(Option.some.inj (Tryz.func6.symm.trans hfn)).symm;refine ⟨sames_looks,fun j t ht=>?_⟩;rw[Tryz.params6] at ht;obtain rfl:t=33:=by simpa using Array.mem_of_getElem? ht
 exact (show Tryz.prog.wantsStandIn 33=false by kernel_rfl)
theorem defSamesUpto_holds:Rows.DefSamesUptoCardSaid :=
 Claim7.holds_tied_plain_at .later [] _ _ _ _ sames_said (fun _ h=>by cases h) sames_wf (fun _ h=>by cases h) defSamesUpto_row_tie rfl ⟨rfl,rfl⟩ sames_main rfl sames_plain sames_goes
#print axioms defSamesUpto_holds
end Go.Proofs.YtamikhobdffnfaaGreatDoor
end
