/-
  Of DefStrings.
-/
import Derived.Test.YtamikhobdffnfaaGreatDoorSt01
import Derived.Lib.Strings
set_option linter.all false
set_option maxRecDepth 99999
set_option maxHeartbeats 0
namespace Go.AV
open Go Go.Proofs Tryz
section
section
variable {C:Cx} {F:Fr} {g:Gh} {s:St} {w:World} {K:A→Prop} {ρ:Operand→Option A} {ev:Operand→Value}
theorem tL (x:Sem Value) (P:Program) (w:World):((do let v ← x;pure (Next.value v)):Sem Next).run P w=(x.run P w).andThen fun v w'=>.ok (.value v) w':=by
 simp
theorem dB {x:Sem Value} {v:Value} {a:A} (hR:R C.toCtx F g s w) (hx:x.run C.P w=.ok v w) (hv:Rz g a v) (hK:K a) :
  OutS C F g s K (((do let v ← x;pure (Next.value v)):Sem Next).run C.P w):=by
 rw[tL,hx];exact OutS.val hR hv hK
theorem aKy {op:BinOp} {k:IntKind} {x y:Int} {a:A} (h:uM op k x y=some a) (t:TypeId) :
  ∃ v,(binOp op t (.int k x) (.int k y))=pure v∧∀ g,Rz g a v:=by
 cases op
 case quo =>
  simp only[uM] at h;split at h
  ·cases h
  ·rename_i h0;simp only[aP] at h;subst h;simp only[binOp,Op.intDiv,ne_eq,not_true_eq_false,↓reduceIte,h0];exact ⟨_,rfl,fun g=>.int _ _⟩
 case rem =>
  simp only[uM] at h;split at h
  ·cases h
  ·rename_i h0;simp only[aP] at h;subst h;simp only[binOp,Op.intDiv,ne_eq,not_true_eq_false,↓reduceIte,h0];exact ⟨_,rfl,fun g=>.int _ _⟩
 all_goals
  simp only[uM,aP,reduceCtorEq] at h
 all_goals
  subst h;simp only[binOp,Op.intArith,Op.intCmp,Op.intBits,ne_eq,not_true_eq_false,↓reduceIte]
  first
   | exact ⟨_,rfl,fun g=>.int _ _⟩
   | exact ⟨_,rfl,fun g=>.bool _⟩
   | (refine ⟨_,rfl,fun g=>?_⟩;simp only[bne,beq_eq_decide];exact .bool _)
theorem aJQ {op:BinOp} {k j:IntKind} {x y:Int} {a:A} (h:zZ op k x y=some a) (t:TypeId) :
  ∃ v,(binOp op t (.int k x) (.int j y))=pure v∧∀ g,Rz g a v:=by
 unfold zZ at h;split at h
 ·cases h
 ·rename_i h0;cases op<;>simp only[aP,reduceCtorEq] at h
  all_goals
   subst h;simp only[binOp,Op.shift,h0,if_false];exact ⟨_,rfl,fun g=>.int _ _⟩
theorem aDV (op:BinOp) (t:TypeId) (x y:Operand) (k j:IntKind) (a b:Int):eqGuard op t x y (.int k a) (.int j b)=pure ():=by
 unfold eqGuard;cases op<;>rfl
theorem aBx (op:BinOp) (t:TypeId) (x y:Operand) (a b:ByteArray):eqGuard op t x y (.string a) (.string b)=pure ():=by
 unfold eqGuard;cases op<;>rfl
section
variable {P:Program} {t:TypeId} {ms:_} (hd:P.underlying t=some (.interface ms)) (x:Operand) (w:World)
include hd
theorem aIW (d:Nat):(Op.equalIn (d+1) t .nilIface .nilIface).run P w=.ok true w:=by
 simp only[Op.equalIn,aV,cI hd,aW,bC]
theorem aI5 (d:Nat) (u:TypeId) (v:Value):(Op.equalIn (d+1) t (.iface u v) .nilIface).run P w=.ok false w:=by
 simp only[Op.equalIn,aV,cI hd,aW,bC]
theorem aGQ (op:BinOp) (hop:op=.eql∨op=.neq) :
  ((do eqGuard op t x (.const .nilIface) .nilIface .nilIface;binOp op t .nilIface .nilIface:Sem Value)).run P w=.ok (.bool (op == .eql)) w:=by
 have h:=aIW hd w 9999;rcases hop with rfl|rfl
 ·have hg:(eqGuard .eql t x (.const .nilIface) .nilIface .nilIface).run P w=.ok () w:=by cases x<;>rfl
  have hb:(binOp .eql t .nilIface .nilIface).run P w=.ok (.bool true) w:=by
   simp only[binOp,Op.equal,Op.maxDepth,aV,h,aW,bC]
  rw[aV,hg,aW,hb];rfl
 ·have hg:(eqGuard .neq t x (.const .nilIface) .nilIface .nilIface).run P w=.ok () w:=by cases x<;>rfl
  have hb:(binOp .neq t .nilIface .nilIface).run P w=.ok (.bool false) w:=by
   simp only[binOp,Op.equal,Op.maxDepth,aV,h,aW,bC,dW]
  rw[aV,hg,aW,hb];rfl
theorem gE1 (op:BinOp) (hop:op=.eql∨op=.neq) (u:TypeId) (v:Value) :
  ((do eqGuard op t x (.const .nilIface) (.iface u v) .nilIface;binOp op t (.iface u v) .nilIface:Sem Value)).run P w=.ok (.bool (op == .neq)) w:=by
 have h:=aI5 hd w 9999 u v;rcases hop with rfl|rfl
 ·have hg:(eqGuard .eql t x (.const .nilIface) (.iface u v) .nilIface).run P w=.ok () w:=rfl
  have hb:(binOp .eql t (.iface u v) .nilIface).run P w=.ok (.bool false) w:=by
   simp only[binOp,Op.equal,Op.maxDepth,aV,h,aW,bC]
  rw[aV,hg,aW,hb];rfl
 ·have hg:(eqGuard .neq t x (.const .nilIface) (.iface u v) .nilIface).run P w=.ok () w:=rfl
  have hb:(binOp .neq t (.iface u v) .nilIface).run P w=.ok (.bool true) w:=by
   simp only[binOp,Op.equal,Op.maxDepth,aV,h,aW,bC,eX]
  rw[aV,hg,aW,hb];rfl
end
theorem aLD {op:BinOp} {t yt ty:TypeId} {x y:Operand} {dst:Option Tmp} {pos:String} {after:Array Edge} {gd:Option (Nat × Bool)}
  (hR:R C.toCtx F g s w) (he:∀ x a,ρ x=some a→Rz g a (ev x)) (h:aQ C (.binOp op t x y yt) ρ K) :
  OutS C F g s K ((execOp ev ⟨dst,.binOp op t x y yt,ty,pos,after,gd⟩).run C.P w):=by
 simp only[aQ] at h;split at h
 ·rename_i a b ha hb;have ra:=he x a ha;have rb:=he y b hb;simp only[execOp];split at h
  ·rename_i hn;split at h
   ·rename_i ti hti;split at h
    ·rename_i hk;obtain ⟨d,hd,hok⟩:=fH hti;rw[hk] at hok;obtain ⟨ms,rfl⟩:=hok
     have hy:y=.const .nilIface:=by
      cases y with
      | const v=>cases v<;>first|rfl|cases hn
      | _=>cases hn
     subst hy;cases a<;>cases op<;>simp only[aAo] at h
     ·obtain ⟨u,hv,_⟩:=ra.iface_inv;rw[hv,rb.nili_inv];refine dB (v:=.bool false) hR ?_ (.bool _) h;exact gE1 hd _ w .eql (.inl rfl) _ _
     ·obtain ⟨u,hv,_⟩:=ra.iface_inv;rw[hv,rb.nili_inv];refine dB (v:=.bool true) hR ?_ (.bool _) h;exact gE1 hd _ w .neq (.inr rfl) _ _
     ·rw[ra.nili_inv,rb.nili_inv];refine dB (v:=.bool true) hR ?_ (.bool _) h;exact aGQ hd _ w .eql (.inl rfl)
     ·rw[ra.nili_inv,rb.nili_inv];refine dB (v:=.bool false) hR ?_ (.bool _) h;exact aGQ hd _ w .neq (.inr rfl)
    ·exact h.elim
   ·exact h.elim
  split at h
  ·rename_i hd;split at h
   ·rename_i r hr
    have hop:op=.eql∨op=.neq:=by
     cases op<;>simp_all [uK]
    obtain ⟨h1,h2⟩:=C.heq t a b r hr g _ _ w op x y hop ra rb;refine dB (v:=.bool (if op=.eql then r else !r)) hR ?_ (.bool _) h;simp only[aV,h1,aW,h2]
   ·exact h.elim
  ·split at h
   ·obtain ⟨hl,hk⟩:=h;rw[ra.str_inv,rb.str_inv];refine dB hR ?_ (.str _) hk;simp only[aBx,pure_bind];have e1:∀ l:List UInt8,(ByteArray.mk l.toArray).size=l.length:=fun l=>by simp[ByteArray.size]
    simp only[binOp,Op.stringOp,e1];rw[if_neg (by unfold maxLen at hl;simp[IntKind.max,IntKind.signed,IntKind.bits];omega)];simp only[bC];congr 2
   ·split at h
    ·rename_i v hv;simp only[aAx] at hv;split at hv
     ·split at hv
      ·rename_i j1 a1 k1 b1 _ _ _ _;rw[ra.int_inv,rb.int_inv];obtain ⟨u,hu,hr⟩:=aJQ (j:=k1) hv t;refine dB hR ?_ (hr g) h;simp only[aDV,pure_bind,hu,bC]
      ·split at hv
       ·rename_i hjk;subst hjk;rw[ra.int_inv,rb.int_inv];obtain ⟨u,hu,hr⟩:=aKy hv t;refine dB hR ?_ (hr g) h;simp only[aDV,pure_bind,hu,bC]
       ·simp at hv
     ·rw[ra.str_inv,rb.str_inv];split at hv
      ·simp only[aP] at hv;subst hv;refine dB hR ?_ (.bool _) h;simp only[aBx,pure_bind,binOp,Op.stringOp,ByteArray.toList_mk,bC];congr 2;rw[Bool.eq_iff_iff];simp
      ·simp only[aP] at hv;subst hv;refine dB hR ?_ (.bool _) h;simp only[aBx,pure_bind,binOp,Op.stringOp,ByteArray.toList_mk,bC];congr 2;rw[Bool.eq_iff_iff];simp
      ·simp at hv
     ·simp at hv
    ·exact h.elim
 ·exact h.elim
theorem aJj {t:TypeId} {cs:List A} {o:Nat} {a:A} {v:Value} (hR:R C.toCtx F g s w) (hl:nA C t cs o=some a) (hv:Rz g (.eptr cs o) v) :
  ∃ u,(Instr.loadAt t v).run C.P w=.ok u w∧Rz g a u:=by
 obtain ⟨b,off,pre,rfl,hp,hlen,h1,hr⟩:=hv.eptr_inv;obtain ⟨rest,e,fr,hh⟩:=hR.pis b pre hp
 have cell:∀ k,k<pre.length→w.cell? ⟨b,k,none⟩=pre[k]?:=by
  intro k hk;simp only[World.cell?,hh,Option.isSome_none,bR,↓reduceIte,kX];rw[jR hk]
 simp only[nA] at hl;split at hl
 ·rename_i ti hti;split at hl
  ·rename_i hag;split at hl
   ·rename_i hsz;simp only[aP] at hl;subst hl
    have hc:∀ j v,((pre.drop (off+o)).take ti.sz)[j]?=some v→w.cell? ((⟨b,off+o,none⟩:Addr).add j)=some v:=by
     intro j v hj;rw[kY] at hj;split at hj
     ·rename_i hlt;rw[mM] at hj;have:(⟨b,off+o,none⟩:Addr).add j=⟨b,off+o+j,none⟩:=by unfold Addr.add;split<;>simp_all
      rw[this,cell _ (dH.1 hj).1];exact hj
     ·simp at hj
    have hlen':((pre.drop (off+o)).take ti.sz).length=ti.sz:=by rw[eL,cH];omega
    have hrun:=run_loadCells_list (P:=C.P) w ⟨b,off+o,none⟩ _ hc;rw[hlen'] at hrun;refine ⟨_,by simp only[Instr.loadAt,Instr.sureAddr,loadVar,aV,bC,aW,uJ hti,hag,↓reduceIte,iX hti,hrun];rfl,?_⟩;refine .agg _ _ ?_ ?_ ?_
    ·rw[hlen',eL,cH];omega
    ·intro c hc;exact h1 c (oX (nJ hc))
    ·intro j c v hc hv;rw[kY] at hc hv;split at hc
     ·rename_i hlt;rw[if_pos hlt] at hv;rw[mM] at hc hv;exact hr (o+j) c v hc (by rw[← lS];exact hv)
     ·simp at hc
   ·simp at hl
  ·rename_i hag;have ho:o<cs.length:=(dH.1 hl).1;have hk:off+o<pre.length:=by omega
   refine ⟨pre[off+o],?_,hr o a _ hl (bK hk)⟩;have hag':ti.k.agg=false:=by simpa using hag
   simp only[Instr.loadAt,Instr.sureAddr,loadVar,aV,bC,aW,uJ hti,hag',bR,↓reduceIte,run_load,cell _ hk,bK hk]
 ·simp at hl
theorem vQ {lo hi:Option A} {l h:Int} {n cap:Nat} {b:Bool} {vlo vhi:Option Value}
  (hl:lN lo=some l) (hh:kE n hi=some h) (h0:0≤l) (h1:l≤h) (h2:h≤n) (hn:n≤cap)
  (r1:∀ a,lo=some a→∃ v,vlo=some v∧Rz g a v) (r1':lo=none→vlo=none)
  (r2:∀ a,hi=some a→∃ v,vhi=some v∧Rz g a v) (r2':hi=none→vhi=none) :
  (Instr.sliceBounds b n cap vlo vhi none).run C.P w=.ok (l.toNat,h.toNat,cap) w:=by
 have hb:∀ (k:IntKind) (i:Int) (y:Nat) (code:BoundsCode),0≤i→i≤y→(Instr.sliceBound (.int k i) y code).run C.P w=.ok i.toNat w :=
  fun k i y code h0 h1=>by simp[Instr.sliceBound,asIntOf,h0,h1]
 have key:∀ (y:Nat),y=h.toNat→(y:Int)=h:=by intro y hy;have:=Int.le_trans h0 h1;omega
 cases lo with
 | none =>
  simp only[lN,aP] at hl;subst hl;rw[r1' rfl];cases hi with
  | none =>
   simp only[kE,aP] at hh;subst hh;rw[r2' rfl];simp[Instr.sliceBounds]
  | some a =>
   obtain ⟨v,hv,hr⟩:=r2 a rfl;cases a<;>simp only[kE,aP,reduceCtorEq] at hh
   subst hh;rw[hv,hr.int_inv];have g2:(_:Int)≤(cap:Int):=Int.le_trans h2 (by omega);cases b<;>simp[Instr.sliceBounds,hb,h1,g2]
 | some a =>
  obtain ⟨v,hv,hr⟩:=r1 a rfl;cases a<;>simp only[lN,aP,reduceCtorEq] at hl
  subst hl;rw[hv,hr.int_inv];cases hi with
  | none =>
   simp only[kE,aP] at hh;subst hh;rw[r2' rfl];simp[Instr.sliceBounds,hb,h0,h1]
  | some a =>
   obtain ⟨v,hv,hr⟩:=r2 a rfl;cases a<;>simp only[kE,aP,reduceCtorEq] at hh
   subst hh;rw[hv,hr.int_inv];have g2:(_:Int)≤(cap:Int):=Int.le_trans h2 (by omega);have g1:=Int.le_trans h0 h1;have e:=key _ rfl;have g3:=h1;rw[← e] at g3;cases b<;>simp only[Instr.sliceBounds,hb _ _ _ _ g1 g2,hb _ _ _ _ h0 g3,aV,bC,aW,bR,↓reduceIte]
theorem aGe (he:∀ x a,ρ x=some a→Rz g a (ev x)) {o:Option Operand} {r:Option A} (h:kQ ρ o=some r) :
  (∀ a,r=some a→∃ v,o.map ev=some v∧Rz g a v)∧(r=none→o.map ev=none):=by
 cases o with
 | none=>simp only[kQ,aP] at h;subst h;simp
 | some x =>
  simp only[kQ] at h;split at h
  ·rename_i a ha;simp only[aP] at h;subst h;exact ⟨fun a' e=>by cases e;exact ⟨_,rfl,he x a ha⟩,by simp⟩
  ·simp at h
end
end
section
section
variable {C:Cx} {F:Fr} {g:Gh} {s:St} {w:World} {K:A→Prop} {ρ:Operand→Option A} {ev:Operand→Value}
theorem yG {t:TypeId} {ti:TI} {fs:List (Nat × Nat × Bool)} (h:C.tt t=some ti) (hk:ti.k=.struct fs) :
  ∃ fields,C.P.underlying t=some (.struct fields)∧fields.size=fs.length∧∀ (i o s:Nat) (a:Bool),fs[i]?=some (o,s,a) →
   ∃ f,fields[i]?=some f∧f.offset=o∧(C.P.info? f.type).map (·.size)=some s∧s≠0∧(C.P.underlying f.type).isSome=true∧sO (C.P.underlying f.type)=a:=by
 obtain ⟨d,hd,hok⟩:=fH h;rw[hk] at hok;obtain ⟨fields,rfl,hn,hf⟩:=hok;exact ⟨fields,hd,hn,hf⟩
theorem aBE {t:TypeId} {n:Nat} (h:(C.P.info? t).map (·.size)=some n) (w:World):(sizeOf t).run C.P w=.ok n w:=by
 simp only[jJ] at h;obtain ⟨i,hi,hs⟩:=h;simp[sizeOf,typeInfo,hi,hs]
theorem aEz {t:TypeId} (h:(C.P.underlying t).isSome=true) (w:World):(isAgg t).run C.P w=.ok (sO (C.P.underlying t)) w:=by
 obtain ⟨d,hd⟩:=Option.isSome_iff_exists.1 h;simp only[isAgg,aV,cI hd,aW,hd];cases d<;>rfl
theorem iL (b o n:Nat):(⟨b,o,none⟩:Addr).add n=⟨b,o+n,none⟩:=by unfold Addr.add;split<;>simp_all
theorem aDF {a:Addr} {f:Field} {n:Nat} (h:(C.P.info? f.type).map (·.size)=some n) (hn:n≠0) (w:World) :
  (fieldPlace a f).run C.P w=.ok (a.add f.offset) w:=by
 simp[fieldPlace,aBE h,hn]
theorem aIK {t ty:TypeId} {x:Operand} {f:Nat} {dst:Option Tmp} {pos:String} {after:Array Edge} {gd:Option (Nat × Bool)}
  (hR:R C.toCtx F g s w) (he:∀ x a,ρ x=some a→Rz g a (ev x)) (h:aQ C (.fieldAddr t x f) ρ K) :
  OutS C F g s K ((execOp ev ⟨dst,.fieldAddr t x f,ty,pos,after,gd⟩).run C.P w):=by
 simp only[aQ] at h;split at h
 ·rename_i a ti ha hti;split at h
  ·rename_i fs hk;split at h
   ·rename_i off sz ag hf;obtain ⟨fields,hu,_,hfs⟩:=yG hti hk;obtain ⟨fl,h1,h2,h3,h4,_,_⟩:=hfs f off sz ag hf;simp only[execOp];split at h
    ·rename_i b o;obtain ⟨k,this,hb⟩:=(he x _ ha).ptr_inv;refine dB (v:=.pointer (some ⟨k,o+off,none⟩)) hR ?_ (.ptr b (o+off) k hb) h;simp[Instr.fieldAt,cI hu,h1,Instr.sureAddr,this,aDF h3 h4,h2,iL]
    ·rename_i cs o;obtain ⟨b,of2,pre,hv,hp,hl,hone,hr⟩:=(he x _ ha).eptr_inv;refine dB (v:=.pointer (some ⟨b,of2+(o+off),none⟩)) hR ?_ (.eptr cs (o+off) b of2 pre hp hl hone hr) h;simp[Instr.fieldAt,cI hu,h1,Instr.sureAddr,hv,aDF h3 h4,h2,iL,lS]
    ·exact h.elim
   ·exact h.elim
  ·exact h.elim
 ·exact h.elim
theorem aLX {t ty:TypeId} {x:Operand} {f:Nat} {dst:Option Tmp} {pos:String} {after:Array Edge} {gd:Option (Nat × Bool)}
  (hR:R C.toCtx F g s w) (he:∀ x a,ρ x=some a→Rz g a (ev x)) (h:aQ C (.field t x f) ρ K) :
  OutS C F g s K ((execOp ev ⟨dst,.field t x f,ty,pos,after,gd⟩).run C.P w):=by
 simp only[aQ] at h;split at h
 ·rename_i cs ti ha hti;split at h
  ·rename_i fs hk;split at h
   ·rename_i off sz ag hf;obtain ⟨fields,hu,_,hfs⟩:=yG hti hk;obtain ⟨fl,h1,h2,h3,h4,h5,h6⟩:=hfs f off sz ag hf;obtain ⟨vs,hv,hrs,hone⟩:=(he x _ ha).agg_inv;simp only[execOp];split at h
    ·rename_i hag;obtain ⟨hl,hK⟩:=h;refine dB (v:=.agg ((vs.drop off).take sz).toArray) hR ?_ ?_ hK
     ·simp only[Instr.field,aV,cI hu,aW,h1,hv,asAgg,bC,part,aEz h5,h6,hag,↓reduceIte,aBE h3,h2];congr 2;simp[List.extract_toArray,List.take_drop,Nat.add_comm]
     ·have:=(hrs.drop off).take sz;exact .agg _ _ this.1 (fun c hc=>hone c (oX (nJ hc))) this.2
    ·rename_i hag;split at h
     ·rename_i a hc;obtain ⟨v,hv',hr⟩:=hrs.get hc;refine dB (v:=v) hR ?_ hr h;have hag':ag=false:=by simpa using hag
      simp only[Instr.field,aV,cI hu,aW,h1,hv,asAgg,bC,part,aEz h5,h6,hag',bR,↓reduceIte,h2];rw[kX,hv'];rfl
     ·exact h.elim
   ·exact h.elim
  ·exact h.elim
 ·exact h.elim
theorem aMp {t ty:TypeId} {x:Operand} {lo hi mx:Option Operand} {dst:Option Tmp} {pos:String} {after:Array Edge} {gd:Option (Nat × Bool)}
  (hR:R C.toCtx F g s w) (he:∀ x a,ρ x=some a→Rz g a (ev x)) (h:aQ C (.slice t x lo hi mx) ρ K) :
  OutS C F g s K ((execOp ev ⟨dst,.slice t x lo hi mx,ty,pos,after,gd⟩).run C.P w):=by
 cases mx with
 | some _=>simp only[aQ] at h
 | none =>
 simp only[aQ] at h;split at h
 ·rename_i a l h' ti ha hlo hhi hti;obtain ⟨d,hd,hok⟩:=fH hti;obtain ⟨l1,l2⟩:=aGe he hlo;obtain ⟨h1,h2⟩:=aGe he hhi;split at h
  ·rename_i hk;rw[hk] at hok;simp only[TK.ok] at hok;subst hok;split at h
   ·rename_i str;simp only[nZ] at h;split at h
    ·rename_i lo' hi' hl' hh';obtain ⟨⟨c0,c1,c2⟩,hK⟩:=h;have hv:=(he x _ ha).str_inv;have e1:(ByteArray.mk str.toArray).size=str.length:=by simp[ByteArray.size]
     refine dB (v:=.string ((ByteArray.mk str.toArray).extract lo'.toNat hi'.toNat)) hR ?_ ?_ hK
     ·simp only[execOp,Instr.sliceAt,aV,cI hd,aW,Instr.slice,hv,Option.map_none,Option.isSome_none,bR,↓reduceIte,e1];rw[vQ (C:=C) (w:=w) (g:=g) hl' hh' c0 c1 c2 (bG _) l1 l2 h1 h2];rfl
     ·have:(ByteArray.mk str.toArray).extract lo'.toNat hi'.toNat=⟨((str.drop lo'.toNat).take (hi'.toNat-lo'.toNat)).toArray⟩:=by
       apply ByteArray.ext;apply Array.ext';rw[Lib.extract_data]
      rw[this];exact .str _
    ·exact h.elim
   ·exact h.elim
  ·rename_i el hk;rw[hk] at hok;simp only[TK.ok] at hok;subst hok;split at h
   ·rename_i tk es te hte;obtain ⟨hsz,h⟩:=h;simp only[nZ] at h;split at h
    ·rename_i lo' hi' hl' hh';obtain ⟨⟨c0,c1,c2⟩,hK⟩:=h;obtain ⟨ad,cap,hv,hm,hcap,_,hflat⟩:=(he x _ ha).list_inv;refine dB (v:=.slice (if cap=lo'.toNat then ad else ad.map (·.add (lo'.toNat * te.sz))) (hi'.toNat-lo'.toNat) (cap-lo'.toNat)) hR ?_ ?_ hK
     ·simp only[execOp,Instr.sliceAt,aV,cI hd,aW,Instr.slice,hv,Option.map_none];rw[vQ (C:=C) (w:=w) (g:=g) hl' hh' c0 c1 c2 hcap l1 l2 h1 h2];simp only[aW,iX hte,bC]
     ·have hlen:((es.drop lo'.toNat).take (hi'.toNat-lo'.toNat)).length=hi'.toNat-lo'.toNat:=by
       rw[eL,cH];omega
      by_cases hz:hi'.toNat-lo'.toNat=0
      ·rw[hz,List.take_zero];exact .list0 none _ _ (by omega) (by simp)
      ·rcases hflat with rfl|⟨b,off,sz,pre,rfl,hp,hle,hs,h1',hr⟩
       ·simp at c2;omega
       ·have hne:¬ cap=lo'.toNat:=by omega
        have hpos:0<es.length:=by omega
        have hszz:te.sz=sz:=by
         have hx:=iT hpos;rw[← hsz _ hx,hs _ hx]
        rw[if_neg hne,hszz];simp only[kG,iL]
        have hmul:lo'.toNat * sz+(hi'.toNat-lo'.toNat) * sz≤es.length * sz:=by
         rw[← eH];exact lO _ (by omega)
        have:=Rz.list (g:=g) none ((es.drop lo'.toNat).take (hi'.toNat-lo'.toNat)) b (off+lo'.toNat * sz) sz (cap-lo'.toNat) pre hp (by rw[hlen];omega) (by rw[hlen];omega) (by omega)
         (fun e hx=>hs e (oX (nJ hx))) (fun e hx=>h1' e (oX (nJ hx)))
         (fun i e j c v hi hj hv => by
          rw[kY] at hi;split at hi
          ·rw[mM] at hi;refine hr _ e j c v hi hj ?_;rw[eH,← lS];exact hv
          ·simp at hi) (by simp)
        rw[hlen] at this;exact this
    ·exact h.elim
   ·rename_i te hte;split at h
    ·rename_i lo' hi' hl' hh';obtain ⟨⟨rfl,rfl⟩,hK⟩:=h;have hv:=(he x _ ha).nils_inv;refine dB (v:=.slice none 0 0) hR ?_ .nils hK;simp only[execOp,Instr.sliceAt,aV,cI hd,aW,Instr.slice,hv,Option.map_none];rw[vQ (C:=C) (w:=w) (g:=g) (n:=0) hl' hh' (oI _) (oI _) (oI _) (bG _) l1 l2 h1 h2];simp only[aW,iX hte,bC];rfl
    ·exact h.elim
   ·rename_i t0 n0 te hte;split at h
    ·rename_i lo' hi' hl' hh';obtain ⟨⟨rfl,rfl⟩,hK⟩:=h;obtain ⟨k,cap,hv,hg,hn,hm⟩:=(he x _ ha).gr_inv;refine dB (v:=.slice (if cap=(0:Int).toNat then some ⟨k,0,none⟩ else (some (⟨k,0,none⟩:Addr)).map (·.add ((0:Int).toNat * te.sz))) 0 cap) hR ?_ ?_ hK
     ·simp only[execOp,Instr.sliceAt,aV,cI hd,aW,Instr.slice,hv,Option.map_none];rw[vQ (C:=C) (w:=w) (g:=g) (n:=n0) hl' hh' (oI _) (oI _) (by omega) hn l1 l2 h1 h2];simp only[aW,iX hte,bC];rfl
     ·have e1:(if cap=(0:Int).toNat then some (⟨k,0,none⟩:Addr) else (some (⟨k,0,none⟩:Addr)).map (·.add ((0:Int).toNat * te.sz)))=some ⟨k,0,none⟩:=by
       split
       ·rfl
       ·simp[iL]
      rw[e1];exact .list0 (some t0) _ cap hm (fun t ht=>by cases ht;exact hg)
    ·exact h.elim
   ·rename_i b off n te hte;split at h
    ·rename_i lo' hi' hl' hh';obtain ⟨⟨c0,c1,c2⟩,hK⟩:=h;obtain ⟨k,cap,hv,hb,hc,hm⟩:=(he x _ ha).ml_inv;refine dB (v:=.slice (if cap=lo'.toNat then some ⟨k,off,none⟩ else (some (⟨k,off,none⟩:Addr)).map (·.add (lo'.toNat * te.sz))) (hi'.toNat-lo'.toNat) (cap-lo'.toNat)) hR ?_ ?_ hK
     ·simp only[execOp,Instr.sliceAt,aV,cI hd,aW,Instr.slice,hv,Option.map_none];rw[vQ (C:=C) (w:=w) (g:=g) hl' hh' c0 c1 c2 hc l1 l2 h1 h2];simp only[aW,iX hte,bC]
     ·by_cases hz:hi'.toNat-lo'.toNat=0
      ·rw[if_pos hz,hz];exact .list0 none _ _ (by omega) (by simp)
      ·rw[if_neg hz,if_neg (by omega)];simp only[kG,iL];exact .ml b _ _ _ k hb (by omega) (by omega)
    ·exact h.elim
   ·exact h.elim
  ·exact h.elim
 ·exact h.elim
end
end
section
theorem aFn {α:Type} (l:List α) (k:Nat) (v:α) (rest:List α) (h:k<l.length) :
  (l.set k v).take (k+1)++rest++(l.set k v).drop (k+1+rest.length)=l.take k++(v::rest)++l.drop (k+(rest.length+1)):=by
 have h1:(l.set k v).take (k+1)=l.take k++[v]:=by
  rw[List.take_succ_eq_append_getElem (by simpa using h)];simp only[List.take_set,List.getElem_set_self];rw[List.set_eq_of_length_le (by simp;omega)]
 have h2:(l.set k v).drop (k+1+rest.length)=l.drop (k+(rest.length+1)):=by
  rw[List.drop_set_of_lt (by omega)];congr 1;omega
 rw[h1,h2];simp
theorem vR:∀ (vs cs:List A) (o:Nat),o+vs.length≤cs.length→iW cs o vs=cs.take o++vs++cs.drop (o+vs.length)
 | [],cs,o,_=>by simp[iW]
 | v::vs,cs,o,h=>by
  simp only[aD] at h;rw[iW,vR vs _ _ (by simp;omega)];exact aFn cs o v vs (by omega)
def uT (cells:Array Value) (off:Nat) (vs:Array Value):Array Value:=vs.zipIdx.foldl (fun cs (c,j)=>cs.setIfInBounds (off+j) c) cells
theorem aHq (off:Nat):∀ (l:List Value) (k:Nat) (cells:Array Value),off+k+l.length≤cells.size →
  ((l.zipIdx k).foldl (fun cs (x:Value × Nat)=>cs.setIfInBounds (off+x.2) x.1) cells).toList=cells.toList.take (off+k)++l++cells.toList.drop (off+k+l.length)
 | [],k,cells,_=>by simp
 | v::l,k,cells,h=>by
  simp only[aD] at h;simp only[List.zipIdx_cons,List.foldl_cons];rw[aHq off l (k+1) _ (by simp;omega)];simp only[Array.toList_setIfInBounds,aD];have:=aFn cells.toList (off+k) v l (by simp;omega);rw[show off+(k+1)=off+k+1 by omega];exact this
theorem aD4 (cells:Array Value) (off:Nat) (vs:Array Value) (h:off+vs.size≤cells.size) :
  (uT cells off vs).toList=cells.toList.take off++vs.toList++cells.toList.drop (off+vs.size):=by
 obtain ⟨l⟩:=vs;have:=aHq off l 0 cells (by simpa using h);simpa [uT] using this
theorem aEx {place:Nat→Option (Nat × Nat)} {cells:Array Value} {i:Nat} {v:Value} {rest:List (Nat × Value)} {off size:Nat}
  (hp:place i=some (off,size)) (hs:v.cells.size=size) (hl:off+size≤cells.size) :
  Instr.fill place cells ((i,v)::rest)=Instr.fill place (uT cells off v.cells) rest:=by
 simp only[Instr.fill,hp];rw[if_neg (by simp[hs];omega)];rfl
section
variable {C:Cx} {F:Fr} {g:Gh} {s:St} {w:World} {K:A→Prop} {ρ:Operand→Option A} {ev:Operand→Value}
theorem Rzs.put {cs:List A} {cells:Array Value} {off:Nat} {a:A} {v:Value} (h:Rzs g cs cells.toList) (hv:Rz g a v) (hl:off+a.cells.length≤cs.length) :
  Rzs g (iW cs off a.cells) (uT cells off v.cells).toList:=by
 have hc:=hv.cells;have e:v.cells.size=a.cells.length:=by simpa using hc.1
 have hlen:cells.size=cs.length:=by simpa using h.1
 rw[vR _ _ _ hl,aD4 _ _ _ (by omega),e];exact ((h.take off).append hc).append (h.drop _)
theorem aGr {place:Nat→Option (Nat × Nat)} {place':Nat→Option (Nat × Nat)} (hpl:∀ i x,place' i=some x→place i=some x) :
  ∀ {az:List (Nat × A)} {vs:List (Nat × Value)} {cs r:List A} {cells:Array Value},
   (vs.map fun x=>x.1)=(az.map fun x=>x.1)→Rzs g (az.map fun x=>x.2) (vs.map fun x=>x.2)→Rzs g cs cells.toList →
   oS place' cs az=some r→∃ out,Instr.fill place cells vs=some out∧Rzs g r out.toList
 | [],vs,cs,r,cells,h1,h2,h3,hf=>by
  simp only[oS,aP] at hf;subst hf;have:vs=[]:=by simpa using h1
  subst this;exact ⟨cells,rfl,h3⟩
 | (i,a)::az,[],cs,r,cells,h1,h2,h3,hf=>by simp at h1
 | (i,a) :: az,(j,v) :: vs,cs,r,cells,h1,h2,h3,hf => by
  simp only[bU,List.cons.injEq] at h1;obtain ⟨rfl,h1⟩:=h1;simp only[oS] at hf;split at hf
  ·simp at hf
  ·rename_i off size hp;split at hf
   ·rename_i hc;obtain ⟨e1,e2,e3⟩:=hc;have hv:Rz g a v:=h2.2 0 a v (by simp) (by simp);have hs:v.cells.size=size:=by have:=hv.cells.1;simp only[lP] at this;omega
    have hsz:cells.size=cs.length:=by simpa using h3.1
    rw[aEx (hpl _ _ hp) hs (by omega)];refine aGr hpl h1 ⟨by simpa using h2.1,fun k c u hc hu=>h2.2 (k+1) c u (by simpa using hc) (by simpa using hu)⟩ (h3.put hv (by omega)) hf
   ·simp at hf
theorem aFu {α β:Type} (P:Program) (w:World) (f:α→Sem β) (k:α→β):∀ (l:List α),(∀ x,x∈l→(f x).run P w=.ok (k x) w) →
  (l.mapM f).run P w=.ok (l.map k) w
 | [],_=>by simp
 | x::l,h=>by
  simp only[List.mapM_cons,aV,h x (by simp),aW,aFu P w f k l (fun y hy=>h y (by simp[hy])),bC,bU]
theorem aMe {t ty:TypeId} {parts:Array (Nat × Operand)} {dst:Option Tmp} {pos:String} {after:Array Edge} {gd:Option (Nat × Bool)}
  (hR:R C.toCtx F g s w) (he:∀ x a,ρ x=some a→Rz g a (ev x)) (h:aQ C (.build t parts) ρ K) :
  OutS C F g s K ((execOp ev ⟨dst,.build t parts,ty,pos,after,gd⟩).run C.P w):=by
 simp only[aQ] at h;split at h
 ·rename_i ps ti hps hti;split at h
  ·rename_i fs hk;split at h
   ·rename_i r hr;simp only[jJ] at hr;obtain ⟨r',hr',rfl⟩:=hr;obtain ⟨fields,hu,hn,hfs⟩:=yG hti hk;obtain ⟨z,hz,hzr⟩:=wN hti w;obtain ⟨p1,p2⟩:=yJ he hps
    have hmap:∀ f,f∈fields.toList→((do let x ← sizeOf f.type;pure (f.offset,x)):Sem (Nat × Nat)).run C.P w=.ok (f.offset,C.toCtx.sz f.type) w:=by
     intro f hf;obtain ⟨i,hi,rfl⟩:=fQ hf;have hi':i<fs.length:=by rw[← hn];simpa using hi
     obtain ⟨f',h1,h2,h3,h4,_⟩:=hfs i fs[i].1 fs[i].2.1 fs[i].2.2 (by simp[hi']);have hfi:fields[i]?=some fields.toList[i]:=by rw[← xS];exact bK hi
     rw[hfi] at h1;cases h1;simp only[aV,aBE h3,aW,bC,Ctx.sz,h3,Option.getD_some]
    have hplaces:=aFu C.P w _ (fun f:Field=>(f.offset,C.toCtx.sz f.type)) fields.toList hmap
    have hpl:∀ (i:Nat) (x:Nat × Nat),((fs[i]?).map fun (x:Nat × Nat × Bool)=>(x.1,x.2.1))=some x→((fields.toList.map fun f:Field=>(f.offset,C.toCtx.sz f.type)).toArray)[i]?=some x:=by
     intro i x hx;simp only[jJ] at hx;obtain ⟨y,hy,rfl⟩:=hx;obtain ⟨f',h1,h2,h3,h4,_⟩:=hfs i y.1 y.2.1 y.2.2 hy;rw[kX,nM,xS,h1];simp[h2,Ctx.sz,h3]
    obtain ⟨out,ho,hro⟩:=aGr (g:=g) hpl (az:=ps) (vs:=parts.toList.map fun x=>(x.1,ev x.2)) (cs:=ti.zero) (cells:=z.cells) (r:=r')
     (by rw[← p1];simp[Function.comp_def]) (by simpa [Function.comp_def] using p2) (hzr g) hr'
    have hone:∀ c,c∈r'→c.one=true:=by
     have key:∀ (az:List (Nat × A)) (cs r:List A),(∀ c,c∈cs→c.one=true)→oS (fun i=>(fs[i]?).map fun x=>(x.1,x.2.1)) cs az=some r→∀ c,c∈r→c.one=true:=by
      intro az
      induction az with
      | nil=>intro cs r h1 h2;simp only[oS,aP] at h2;subst h2;exact h1
      | cons x az ih =>
       intro cs r h1 h2;obtain ⟨i,a⟩:=x;simp only[oS] at h2;split at h2
       ·simp at h2
       ·split at h2
        ·rename_i hc;refine ih _ _ ?_ h2;intro c hcm;rw[vR _ _ _ (by omega)] at hcm;simp only[gX] at hcm;rcases hcm with (hcm|hcm)|hcm
         ·exact h1 c (nJ hcm)
         ·have:=hc.2.2;simp only[dU,fD] at this;exact this c hcm
         ·exact h1 c (oX hcm)
        ·simp at h2
     exact key ps ti.zero r' (C.htt t ti hti).one hr'
    refine dB (v:=.agg out) hR ?_ ?_ h
    ·simp only[Instr.build,aV,hz,aW,cI hu];rw[Array.mapM_eq_mapM_toList];rw[Sem.run_map,hplaces];simp only[aW];have:(parts.map fun x=>(x.1,ev x.2)).toList=parts.toList.map fun x=>(x.1,ev x.2):=by simp
     rw[this,ho];rfl
    ·have:=hro;exact .agg r' out.toList this.1 hone this.2
   ·exact h.elim
  ·exact h.elim
 ·exact h.elim
end
end
section
section
variable {C:Cx} {F:Fr} {g:Gh} {s:St} {w:World} {K:A→Prop} {ρ:Operand→Option A} {ev:Operand→Value}
theorem aBH:∀ {az:List (Nat × A)} {k:Nat} {es:List A},sF k az=some es→az.map (fun x=>x.2)=es∧az.map (fun x=>x.1)=List.range' k es.length
 | [],k,es,h=>by simp[sF] at h;subst h;simp
 | (i,a)::r,k,es,h=>by
  simp only[sF] at h;split at h
  ·rename_i hi;subst hi;simp only[jJ] at h;obtain ⟨es',he,rfl⟩:=h;have:=aBH he;simp[this.1,this.2,List.range'_succ]
  ·simp at h
theorem aCg (size:Nat):∀ (vs:List (Nat × Value)) (k:Nat) (cells:Array Value),vs.map (fun x=>x.1)=List.range' k vs.length →
  (∀ x,x∈vs→x.2.cells.size=size)→(k+vs.length) * size≤cells.size →
  ∃ out,Instr.fill (fun i=>some (i * size,size)) cells vs=some out ∧
   out.toList=cells.toList.take (k * size)++(vs.flatMap fun x=>x.2.cells.toList)++cells.toList.drop ((k+vs.length) * size)
 | [],k,cells,_,_,_=>⟨cells,rfl,by simp⟩
 | (i,v) :: vs,k,cells,h1,h2,h3 => by
  simp only[bU,aD,List.range'_succ,List.cons.injEq] at h1;obtain ⟨rfl,h1⟩:=h1;have hv:=h2 (i,v) (by simp);simp only[aD] at h3
  have hm:i * size+size≤(i+(vs.length+1)) * size:=by
   rw[show i * size+size=(i+1) * size by rw[eH];omega];exact lO _ (by omega)
  have hput:=aD4 cells (i * size) v.cells (by simp only at hv;omega)
  have hsz:(uT cells (i * size) v.cells).size=cells.size:=by
   have:=congrArg List.length hput;simp only[lP,aK,eL,cH] at this;simp only at hv;omega
  rw[aEx rfl hv (by omega)];have e0:(i+1+vs.length) * size=(i+(vs.length+1)) * size:=by rw[show i+1+vs.length=i+(vs.length+1) by omega]
  obtain ⟨out,ho,hout⟩:=aCg size vs (i+1) (uT cells (i * size) v.cells) h1 (fun x hx=>h2 x (by simp[hx])) (by rw[hsz,e0];exact h3);refine ⟨out,ho,?_⟩;rw[hout,hput];simp only at hv;have e1:(i+1) * size=i * size+size:=by rw[eH];omega
  have e2:=e0;rw[e1,e2,aD,sW]
  have t1:(cells.toList.take (i * size)++v.cells.toList++cells.toList.drop (i * size+v.cells.size)).take (i * size+size)=cells.toList.take (i * size)++v.cells.toList:=by
   apply List.take_left';simp only[aK,eL,lP];omega
  have t2:(cells.toList.take (i * size)++v.cells.toList++cells.toList.drop (i * size+v.cells.size)).drop ((i+(vs.length+1)) * size)=cells.toList.drop ((i+(vs.length+1)) * size):=by
   have hl:(cells.toList.take (i * size)++v.cells.toList).length=i * size+size:=by
    simp only[aK,eL,lP];omega
   rw[List.drop_append,rI (by omega),bO,hl,pC];congr 1;omega
  rw[t1,t2];simp
theorem aH9 {t ty:TypeId} {n:Nat} {parts:Array (Nat × Operand)} {dst:Option Tmp} {pos:String} {after:Array Edge} {gd:Option (Nat × Bool)}
  (hR:R C.toCtx F g s w) (he:∀ x a,ρ x=some a→Rz g a (ev x)) (h:aQ C (.buildSlice t n parts) ρ K) :
  ∃ ti te e es out a,C.tt t=some ti∧ti.k=.slice e∧C.tt e=some te∧(∀ x,x∈es→x.cells.length=te.sz∧∀ c,c∈x.cells→c.one=true)∧(es.length * te.sz≤16777216∧es.length≤16777216) ∧
   (execOp ev ⟨dst,.buildSlice t n parts,ty,pos,after,gd⟩).run C.P w=.ok (.value (.slice (some ⟨w.heap.size,0,none⟩) es.length es.length)) (w.alloc (.cells out e)) ∧
   Rzs g (cW es) out.toList∧(∀ tk es',a=.list tk es'→es'=es)∧K a:=by
 simp only[aQ] at h;split at h
 ·rename_i ps ti hps hti;split at h
  ·rename_i e hk;split at h
   ·rename_i te hte;split at h
    ·rename_i es hes;obtain ⟨⟨rfl,⟨hlim,hlim2⟩,hok⟩,hK⟩:=h;obtain ⟨d,hd,hok'⟩:=fH hti;rw[hk] at hok';simp only[TK.ok] at hok';subst hok';obtain ⟨p1,p2⟩:=yJ he hps;obtain ⟨q1,q2⟩:=aBH hes;have hel:=aBR hok
     have hlen:parts.toList.length=es.length:=by
      have:=congrArg List.length p1;have:=congrArg List.length q1;simp at *;omega
     have hvs:∀ x,x∈(parts.toList.map fun x=>(x.1,ev x.2))→x.2.cells.size=te.sz:=by
      intro x hx;obtain ⟨k,hk,rfl⟩:=fQ hx;simp only[aS] at hk;have hk':k<es.length:=by omega
      have hc:(ps.map fun x=>x.2)[k]?=some es[k]:=by rw[q1];exact bK hk'
      obtain ⟨v,hv,hr⟩:=p2.get hc;have hcl:=hr.cells.1;rw[(hel _ (iT hk')).1] at hcl;simp only[List.getElem_map];rw[nM,bK hk] at hv;simp only[kG,aP] at hv;rw[hv];simpa using hcl
     have hidx:(parts.toList.map fun x=>(x.1,ev x.2)).map (fun x=>x.1)=List.range' 0 (parts.toList.map fun x=>(x.1,ev x.2)).length:=by
      simp only[List.map_map,Function.comp_def,aS];rw[p1,q2,hlen]
     obtain ⟨z,hz,hzr⟩:=wN hte w;have hzl:∀ (zero:Array Value),((Array.range (es.length * te.sz)).map (fun k=>zero[k % zero.size]!)).size=es.length * te.sz:=by intro zero;simp
     have hfill:∀ zero:Array Value,∃ out,Instr.fill (fun i=>some (i * te.sz,te.sz)) ((Array.range (es.length * te.sz)).map (fun k=>zero[k % zero.size]!)) (parts.toList.map fun x=>(x.1,ev x.2))=some out ∧
       out.toList=(parts.toList.map fun x=>(x.1,ev x.2)).flatMap fun x=>x.2.cells.toList:=by
      intro zero;obtain ⟨out,ho,hout⟩:=aCg te.sz (parts.toList.map fun x=>(x.1,ev x.2)) 0 ((Array.range (es.length * te.sz)).map (fun k=>zero[k % zero.size]!)) hidx hvs (by simp[hlen]);refine ⟨out,ho,?_⟩;rw[hout]
      have:(((Array.range (es.length * te.sz)).map (fun k=>zero[k % zero.size]!)).toList).drop ((0+(parts.toList.map fun x=>(x.1,ev x.2)).length) * te.sz)=[] :=
       rI (by simp[hlen])
      rw[this];simp
     have hflat:Rzs g (cW es) ((parts.toList.map fun x=>(x.1,ev x.2)).flatMap fun x=>x.2.cells.toList):=by
      have key:∀ (az:List A) (vs:List Value),Rzs g az vs→Rzs g (cW az) (vs.flatMap fun v=>v.cells.toList):=by
       intro az
       induction az with
       | nil=>intro vs h;have:vs=[]:=eJ h.1;subst this;exact .nil g
       | cons a az ih =>
        intro vs h;cases vs with
        | nil=>have:=h.1;simp at this
        | cons v vs =>
         simp only[cW,sW];exact (h.2 0 a v (by simp) (by simp)).cells.append (ih vs ⟨by simpa using h.1,fun j c u hc hu=>h.2 (j+1) c u (by simpa using hc) (by simpa using hu)⟩)
      have:=key _ _ p2;rw[q1] at this;simpa [List.flatMap_map] using this
     simp only[execOp]
     have hrun:∃ out:Array Value,(Instr.buildSlice t es.length (parts.map fun x=>(x.1,ev x.2))).run C.P w =
       .ok (.slice (some ⟨w.heap.size,0,none⟩) es.length es.length) (w.alloc (.cells out e))∧Rzs g (cW es) out.toList:=by
      have hpl:(parts.map fun x=>(x.1,ev x.2)).toList=parts.toList.map fun x=>(x.1,ev x.2):=by simp
      by_cases h0:es.length * te.sz=0
      ·obtain ⟨out,ho,hout⟩:=hfill #[];refine ⟨out,?_,by rw[hout];exact hflat⟩;simp only[Instr.buildSlice,aV,cI hd,aW,iX hte];rw[if_neg (by omega),if_pos h0];simp only[bC,pure_bind,aV,aW,hpl,ho,newRow,run_newObj];rfl
      ·obtain ⟨out,ho,hout⟩:=hfill z.cells;refine ⟨out,?_,by rw[hout];exact hflat⟩;simp only[Instr.buildSlice,aV,cI hd,aW,iX hte];rw[if_neg (by omega),if_neg h0];simp only[bC,pure_bind,aV,aW,hz,hpl,ho,newRow,run_newObj];rfl
     obtain ⟨out,hrun,hro⟩:=hrun;rw[tL,hrun]
     have key:∃ a,(∀ tk es',a=.list tk es'→es'=es)∧K a:=by
      cases hzp:uN parts.toList with
      | true =>
       rw[hzp] at hK;refine ⟨_,fun tk es' he'=>?_,hK⟩
       match es,he' with
       | [],he'=>cases he'
       | [x],he'=>cases he'
       | x::y::r,he'=>cases he';rfl
      | false =>
       rw[hzp] at hK;refine ⟨_,fun tk es' he'=>?_,hK⟩;cases es with
       | nil=>cases he'
       | cons x r=>cases he';rfl
     obtain ⟨a,ha1,ha2⟩:=key;exact ⟨ti,te,e,es,out,a,hti,hk,hte,hel,⟨hlim,hlim2⟩,rfl,hro,ha1,ha2⟩
    ·exact h.elim
   ·exact h.elim
  ·exact h.elim
 ·exact h.elim
theorem aIw {t ty:TypeId} {n:Nat} {parts:Array (Nat × Operand)} {dst:Option Tmp} {pos:String} {after:Array Edge} {gd:Option (Nat × Bool)}
  (hR:R C.toCtx F g s w) (he:∀ x a,ρ x=some a→Rz g a (ev x)) (h:aQ C (.buildSlice t n parts) ρ K) :
  OutS C F g s K ((execOp ev ⟨dst,.buildSlice t n parts,ty,pos,after,gd⟩).run C.P w):=by
 simp only[aQ] at h;split at h
 ·rename_i ps ti hps hti;split at h
  ·rename_i e hk;split at h
   ·rename_i te hte;split at h
    ·rename_i es hes;obtain ⟨⟨rfl,⟨hlim,hlim2⟩,hok⟩,hK⟩:=h;obtain ⟨d,hd,hok'⟩:=fH hti;rw[hk] at hok';simp only[TK.ok] at hok';subst hok';obtain ⟨p1,p2⟩:=yJ he hps;obtain ⟨q1,q2⟩:=aBH hes;have hel:=aBR hok
     have hlen:parts.toList.length=es.length:=by
      have:=congrArg List.length p1;have:=congrArg List.length q1;simp at *;omega
     have hvs:∀ x,x∈(parts.toList.map fun x=>(x.1,ev x.2))→x.2.cells.size=te.sz:=by
      intro x hx;obtain ⟨k,hk,rfl⟩:=fQ hx;simp only[aS] at hk;have hk':k<es.length:=by omega
      have hc:(ps.map fun x=>x.2)[k]?=some es[k]:=by rw[q1];exact bK hk'
      obtain ⟨v,hv,hr⟩:=p2.get hc;have hcl:=hr.cells.1;rw[(hel _ (iT hk')).1] at hcl;simp only[List.getElem_map];rw[nM,bK hk] at hv;simp only[kG,aP] at hv;rw[hv];simpa using hcl
     have hidx:(parts.toList.map fun x=>(x.1,ev x.2)).map (fun x=>x.1)=List.range' 0 (parts.toList.map fun x=>(x.1,ev x.2)).length:=by
      simp only[List.map_map,Function.comp_def,aS];rw[p1,q2,hlen]
     obtain ⟨z,hz,hzr⟩:=wN hte w;have hzl:∀ (zero:Array Value),((Array.range (es.length * te.sz)).map (fun k=>zero[k % zero.size]!)).size=es.length * te.sz:=by intro zero;simp
     have hfill:∀ zero:Array Value,∃ out,Instr.fill (fun i=>some (i * te.sz,te.sz)) ((Array.range (es.length * te.sz)).map (fun k=>zero[k % zero.size]!)) (parts.toList.map fun x=>(x.1,ev x.2))=some out ∧
       out.toList=(parts.toList.map fun x=>(x.1,ev x.2)).flatMap fun x=>x.2.cells.toList:=by
      intro zero;obtain ⟨out,ho,hout⟩:=aCg te.sz (parts.toList.map fun x=>(x.1,ev x.2)) 0 ((Array.range (es.length * te.sz)).map (fun k=>zero[k % zero.size]!)) hidx hvs (by simp[hlen]);refine ⟨out,ho,?_⟩;rw[hout]
      have:(((Array.range (es.length * te.sz)).map (fun k=>zero[k % zero.size]!)).toList).drop ((0+(parts.toList.map fun x=>(x.1,ev x.2)).length) * te.sz)=[] :=
       rI (by simp[hlen])
      rw[this];simp
     have hflat:Rzs g (cW es) ((parts.toList.map fun x=>(x.1,ev x.2)).flatMap fun x=>x.2.cells.toList):=by
      have key:∀ (az:List A) (vs:List Value),Rzs g az vs→Rzs g (cW az) (vs.flatMap fun v=>v.cells.toList):=by
       intro az
       induction az with
       | nil=>intro vs h;have:vs=[]:=eJ h.1;subst this;exact .nil g
       | cons a az ih =>
        intro vs h;cases vs with
        | nil=>have:=h.1;simp at this
        | cons v vs =>
         simp only[cW,sW];exact (h.2 0 a v (by simp) (by simp)).cells.append (ih vs ⟨by simpa using h.1,fun j c u hc hu=>h.2 (j+1) c u (by simpa using hc) (by simpa using hu)⟩)
      have:=key _ _ p2;rw[q1] at this;simpa [List.flatMap_map] using this
     simp only[execOp]
     have hrun:∃ out:Array Value,(Instr.buildSlice t es.length (parts.map fun x=>(x.1,ev x.2))).run C.P w =
       .ok (.slice (some ⟨w.heap.size,0,none⟩) es.length es.length) (w.alloc (.cells out e))∧Rzs g (cW es) out.toList:=by
      have hpl:(parts.map fun x=>(x.1,ev x.2)).toList=parts.toList.map fun x=>(x.1,ev x.2):=by simp
      by_cases h0:es.length * te.sz=0
      ·obtain ⟨out,ho,hout⟩:=hfill #[];refine ⟨out,?_,by rw[hout];exact hflat⟩;simp only[Instr.buildSlice,aV,cI hd,aW,iX hte];rw[if_neg (by omega),if_pos h0];simp only[bC,pure_bind,aV,aW,hpl,ho,newRow,run_newObj];rfl
      ·obtain ⟨out,ho,hout⟩:=hfill z.cells;refine ⟨out,?_,by rw[hout];exact hflat⟩;simp only[Instr.buildSlice,aV,cI hd,aW,iX hte];rw[if_neg (by omega),if_neg h0];simp only[bC,pure_bind,aV,aW,hz,hpl,ho,newRow,run_newObj];rfl
     obtain ⟨out,hrun,hro⟩:=hrun;rw[tL,hrun];obtain ⟨hR',hle⟩:=hR.newRow out.toList e []
     have main:es≠[]→Rz (g.know w.heap.size out.toList) (.list none es) (.slice (some ⟨w.heap.size,0,none⟩) es.length es.length):=by
      intro hes0;have hro':=hro.mono hle.le;have hl:=tB (fun x hx=>(hel x hx).1);refine rR (pre:=out.toList) (vs:=out.toList) (off:=0) (sz:=te.sz) (by simp[Gh.know]) (by simp) ?_ (fun x hx=>(hel x hx).1) (fun x hx=>(hel x hx).2) (bG _) ?_ (bS _) (by simp)
      ·rw[gW (by rw[hro.1,hl];exact bG _)];exact hro'
      ·unfold maxLen;omega
     have hz:Rz (g.know w.heap.size out.toList) (hlA es) (.slice (some ⟨w.heap.size,0,none⟩) es.length es.length):=by
      match es,main with
      | [],_=>exact .emp _
      | [x],main=>exact .hl x _ _ (main (by simp))
      | x::y::r,main=>exact main (by simp)
     cases hzp:uN parts.toList with
     | true=>rw[hzp] at hK;exact ⟨_,_,hle,by simpa using hR',hz,hK⟩
     | false =>
     rw[hzp] at hK;refine ⟨_,_,hle,by simpa using hR',?_,hK⟩;cases hes0:es with
     | nil=>exact .emp _
     | cons e0 r0 =>
     rw[← hes0];show Rz _ (uV es) _;rw[show uV es=.list none es by rw[hes0];rfl];exact main (by rw[hes0];simp)
    ·exact h.elim
   ·exact h.elim
  ·exact h.elim
 ·exact h.elim
theorem aIT {t ty:TypeId} {x i:Operand} {dst:Option Tmp} {pos:String} {after:Array Edge} {gd:Option (Nat × Bool)}
  (hR:R C.toCtx F g s w) (he:∀ x a,ρ x=some a→Rz g a (ev x)) (h:aQ C (.indexAddr t x i) ρ K) :
  OutS C F g s K ((execOp ev ⟨dst,.indexAddr t x i,ty,pos,after,gd⟩).run C.P w):=by
 simp only[aQ] at h;split at h
 ·rename_i a k n ti ha hi hti;have hiv:=(he i _ hi).int_inv;obtain ⟨d,hd,hok⟩:=fH hti;simp only[execOp];split at h
  ·rename_i e hk;rw[hk] at hok;simp only[TK.ok] at hok;subst hok;split at h
   ·rename_i tk es;split at h
    ·rename_i te hte;obtain ⟨⟨h0,h1⟩,h⟩:=h;have hel:es[n.toNat]?=some es[n.toNat]:=bK h1;rw[hel] at h;obtain ⟨hsz,hK⟩:=h;obtain ⟨ad,cap,hv,hm,hc,_,hr⟩:=(he x _ ha).list_inv;rcases hr with rfl|⟨b,off,sz,pre,rfl,hp,hl,hs,hone,hr⟩
     ·simp at h1
     ·have hsz':te.sz=sz:=by rw[← hsz,hs _ (iT h1)]
      refine dB (v:=.pointer (some ⟨b,off+n.toNat * sz,none⟩)) hR ?_ ?_ hK
      ·have hn:n<(es.length:Int):=by omega
       simp only[Instr.indexAt,hiv,asIntOf,aV,bC,aW,cI hd,hv,h0,hn,qK,↓reduceIte,iX hte,iL,hsz']
      ·have hb:n.toNat * sz+sz≤es.length * sz:=by
        have:(n.toNat+1) * sz≤es.length * sz:=lO _ h1
        rwa[eH,Nat.one_mul] at this
       have:=Rz.eptr (g:=g) es[n.toNat].cells 0 b (off+n.toNat * sz) pre hp (by rw[hsz,hsz'];omega) (fun c hc=>hone _ (iT h1) c hc)
        (fun j c v hc hv=>hr n.toNat _ j c v hel hc hv)
       simpa using this
    ·exact h.elim
   ·rename_i b off m;split at h
    ·rename_i te hte;obtain ⟨⟨h0,h1⟩,hK⟩:=h;obtain ⟨k,cap,hv,hb,hc,hm⟩:=(he x _ ha).ml_inv;refine dB (v:=.pointer (some ⟨k,off+n.toNat * te.sz,none⟩)) hR ?_ (.ptr b _ k hb) hK;have hn:n<(m:Int):=by omega
     simp only[Instr.indexAt,hiv,asIntOf,aV,bC,aW,cI hd,hv,h0,hn,qK,↓reduceIte,iX hte,iL]
    ·exact h.elim
   ·rename_i b m _;split at h
    ·rename_i te hte;obtain ⟨⟨h0,h1⟩,hK⟩:=h;obtain ⟨k,hv,hb,hc,hm⟩:=(he x _ ha).mg_inv;refine dB (v:=.pointer (some ⟨k,0+n.toNat * te.sz,none⟩)) hR ?_ (by rw[fF];exact .ptr b _ k hb) hK;have hn:n<(m:Int):=by omega
     simp only[Instr.indexAt,hiv,asIntOf,aV,bC,aW,cI hd,hv,h0,hn,qK,↓reduceIte,iX hte,iL]
    ·exact h.elim
   ·rename_i t' es sz;split at h
    ·rename_i te hte;obtain ⟨⟨h0,_⟩,hK⟩:=h;obtain ⟨b,cap,hv,hl,hc,_⟩:=(he x _ ha).pen_inv
     have hta:g.eta t' es.length=some (.slice (some ⟨b,0,none⟩) es.length cap):=by
      obtain ⟨_,_,_,_,_,h5,_⟩:=hl.list_inv;exact h5 _ rfl
     refine dB (v:=.pointer (some ⟨b,es.length * te.sz,none⟩)) hR ?_ (.rm t' es.length te.sz b cap hta hc) hK;have hn:n<((es.length+1:Nat):Int):=by omega
     have hn0:0≤n:=by omega
     have hnn:n.toNat=es.length:=by omega
     simp only[Instr.indexAt,hiv,asIntOf,aV,bC,aW,cI hd,hv,hn0,hn,qK,↓reduceIte,iX hte,iL,hnn,fF]
    ·exact h.elim
   ·exact h.elim
  ·rename_i m e hk;rw[hk] at hok;simp only[TK.ok] at hok;subst hok;split at h
   ·rename_i cs o;split at h
    ·rename_i te hte;obtain ⟨⟨h0,h1⟩,hK⟩:=h;obtain ⟨b,off,pre,hv,hp,hl,hone,hr⟩:=(he x _ ha).eptr_inv;refine dB (v:=.pointer (some ⟨b,off+(o+n.toNat * te.sz),none⟩)) hR ?_ (.eptr cs _ b off pre hp hl hone hr) hK;simp only[Instr.indexAt,hiv,asIntOf,aV,bC,aW,cI hd,hv,h0,h1,qK,↓reduceIte,iX hte,iL,Instr.sureAddr,pure_bind,lS]
    ·exact h.elim
   ·exact h.elim
  ·exact h.elim
 ·exact h.elim
theorem aMu {t ty:TypeId} {x i:Operand} {dst:Option Tmp} {pos:String} {after:Array Edge} {gd:Option (Nat × Bool)}
  (hR:R C.toCtx F g s w) (he:∀ x a,ρ x=some a→Rz g a (ev x)) (h:aQ C (.index t x i) ρ K) :
  OutS C F g s K ((execOp ev ⟨dst,.index t x i,ty,pos,after,gd⟩).run C.P w):=by
 simp only[aQ] at h;split at h
 ·rename_i str k n ti ha hi hti;have hiv:=(he i _ hi).int_inv;have hv:=(he x _ ha).str_inv;obtain ⟨d,hd,hok⟩:=fH hti;simp only[execOp];split at h
  ·rename_i hk;obtain ⟨⟨h0,h1⟩,h⟩:=h;rw[hk] at hok;simp only[TK.ok] at hok;subst hok;have hel:str[n.toNat]?=some str[n.toNat]:=bK h1;rw[hel] at h;refine dB (v:=.int .u8 str[n.toNat].toNat) hR ?_ (.int _ _) h
   have e1:(ByteArray.mk str.toArray)[n.toNat]?=some str[n.toNat]:=by
    have hs:n.toNat<(ByteArray.mk str.toArray).size:=by simpa [ByteArray.size] using h1
    rw[getElem?_pos (ByteArray.mk str.toArray) n.toNat hs];rfl
   simp only[Instr.index,hiv,asIntOf,aV,bC,aW,cI hd,hv,h0,↓reduceIte,e1]
  ·exact h.elim
 ·exact h.elim
theorem aM4 {c:Call} {ty:TypeId} {dst:Option Tmp} {pos:String} {after:Array Edge} {gd:Option (Nat × Bool)}
  (hR:R C.toCtx F g s w) (he:∀ x a,ρ x=some a→Rz g a (ev x)) (h:aQ C (.call c) ρ K) :
  OutS C F g s K ((execOp ev ⟨dst,.call c,ty,pos,after,gd⟩).run C.P w):=by
 obtain ⟨cal,args,ats⟩:=c;obtain ⟨args⟩:=args;obtain ⟨ats⟩:=ats;simp only[aQ] at h;split at h
 ·rename_i x t;split at h
  ·rename_i a ti hx hti;obtain ⟨d,hd,hok⟩:=fH hti;split at h
   ·rename_i hk;rw[hk] at hok;simp only[TK.ok] at hok;subst hok;cases a<;>simp only at h
    rename_i str;have hv:=(he x _ hx).str_inv;have e1:(ByteArray.mk str.toArray).size=str.length:=by simp[ByteArray.size]
    simp only[execOp,resolve,invoke,builtin,aV,bC,aW,iD,bU,bD,hv];simp only[Builtin.len_,kX,iJ,aV,cI hd,aW,bC,goInt,e1];exact OutS.val hR (.int _ _) h
   ·rename_i e hk;rw[hk] at hok;simp only[TK.ok] at hok;subst hok;cases a<;>simp only[jN] at h
    ·have hv:=(he x _ hx).nils_inv;simp only[execOp,resolve,invoke,builtin,aV,bC,aW,iD,bU,bD,hv];simp only[Builtin.len_,kX,iJ,aV,cI hd,aW,bC,goInt];exact OutS.val hR (.int _ _) h
    ·obtain ⟨ad,cap,hv,_⟩:=(he x _ hx).list_inv;simp only[execOp,resolve,invoke,builtin,aV,bC,aW,iD,bU,bD,hv];simp only[Builtin.len_,kX,iJ,aV,cI hd,aW,bC,goInt];exact OutS.val hR (.int _ _) h
    rotate_left
    ·obtain ⟨a,hv⟩:=(he x _ hx).emp_inv;simp only[execOp,resolve,invoke,builtin,aV,bC,aW,iD,bU,bD,hv];simp only[Builtin.len_,kX,iJ,aV,cI hd,aW,bC,goInt];exact OutS.val hR (.int _ _) h
    ·obtain ⟨k,hv,_⟩:=(he x _ hx).mg_inv;simp only[execOp,resolve,invoke,builtin,aV,bC,aW,iD,bU,bD,hv];simp only[Builtin.len_,kX,iJ,aV,cI hd,aW,bC,goInt];exact OutS.val hR (.int _ _) h
    ·obtain ⟨k,cap,hv,_⟩:=(he x _ hx).ml_inv;simp only[execOp,resolve,invoke,builtin,aV,bC,aW,iD,bU,bD,hv];simp only[Builtin.len_,kX,iJ,aV,cI hd,aW,bC,goInt];exact OutS.val hR (.int _ _) h
   ·exact h.elim
  ·exact h.elim
 ·rename_i x;split at h
  ·rename_i tk y ys hx;obtain ⟨ad,cap,hv,hm,hc,_,hh⟩:=(he x _ hx).list_inv;have hr:=he x _ hx;rw[hv] at hr;rcases hh with hh|⟨bk,off,sz,pre,rfl,_⟩
   ·cases hh
   have hc0:cap≠0:=by simp at hc;omega
   simp only[execOp,resolve,invoke,builtin,aV,bC,aW,iD,bU,bD,hv]
   have e0:(Builtin.unsafeSliceData_ ⟨ats⟩ ty #[.slice (some ⟨bk,off,none⟩) (y::ys).length cap]).run C.P w=.ok (.pointer (some ⟨bk,off,none⟩)) w:=by
    have e1:Builtin.unsafeSliceData_ ⟨ats⟩ ty #[.slice (some ⟨bk,off,none⟩) (y::ys).length cap]=(if cap≠0 then pure (.pointer (some ⟨bk,off,none⟩))
     else do if (← viewAt bk).isSome then pure (.pointer (some ⟨bk,off,none⟩)) else pure (.pointer (some ⟨← newObj (.view ⟨bk,off,none⟩ (← elemOf ty)),0,none⟩))):=rfl
    rw[e1,if_pos hc0];rfl
   rw[e0];exact OutS.val hR (.sd tk _ _ cap hc0 hr) h
  ·rename_i hx;have hv:=(he x _ hx).nils_inv;simp only[execOp,resolve,invoke,builtin,aV,bC,aW,iD,bU,bD,hv];have e0:(Builtin.unsafeSliceData_ ⟨ats⟩ ty #[.slice none 0 0]).run C.P w=.ok (.pointer none) w:=rfl;rw[e0];exact OutS.val hR .nilp h
  ·exact h.elim
 ·rename_i x t;split at h
  ·rename_i ti hx hti;split at h
   ·rename_i e hk;obtain ⟨d,hd,hok⟩:=fH hti;rw[hk] at hok;simp only[TK.ok] at hok;subst hok;have hv:=(he x _ hx).nils_inv;simp only[execOp,resolve,invoke,builtin,aV,bC,aW,iD,bU,bD,hv];have e0:(Builtin.cap_ ⟨[t]⟩ ty #[.slice none 0 0]).run C.P w=.ok (.int .i64 0) w:=by simp[Builtin.cap_,goInt,cI hd]
    rw[e0];exact OutS.val hR (.int _ _) h
   ·exact h.elim
  ·exact h.elim
 ·rename_i x y;split at h
  ·rename_i j a k b hx hy;have hv:=(he x _ hx).int_inv;have hu:=(he y _ hy).int_inv;simp only[execOp,resolve,invoke,builtin,aV,bC,aW,iD,bU,bD,hv,hu];simp only[Builtin.max_,List.foldlM_cons,List.foldlM_nil,Builtin.max2,aV,bC,aW,pure_bind];exact OutS.val hR (.int _ _) h
  ·exact h.elim
 ·rename_i x y;split at h
  ·rename_i j a k b hx hy;have hv:=(he x _ hx).int_inv;have hu:=(he y _ hy).int_inv;simp only[execOp,resolve,invoke,builtin,aV,bC,aW,iD,bU,bD,hv,hu];simp only[Builtin.min_,List.foldlM_cons,List.foldlM_nil,Builtin.min2,aV,bC,aW,pure_bind];exact OutS.val hR (.int _ _) h
  ·exact h.elim
 ·exact h.elim
end
end
end Go.AV
