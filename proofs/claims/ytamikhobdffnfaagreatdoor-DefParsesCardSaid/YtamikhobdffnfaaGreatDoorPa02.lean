/-
  Of DefParses.
-/
import Derived.Test.YtamikhobdffnfaaGreatDoorPa01
import Derived.Lib.Strings
set_option linter.all false
set_option maxRecDepth 99999
set_option maxHeartbeats 0
namespace Go.AV
open Go Go.Proofs Tryz
section
section
variable {C:Cx} {F:Fr} {g:Gh} {s:St} {w:World} {K:A→Prop} {ρ:Operand→Option A} {ev:Operand→Value}
theorem xJ (x:Sem Value) (P:Program) (w:World):((do let v ← x;pure (Next.value v)):Sem Next).run P w=(x.run P w).andThen fun v w'=>.ok (.value v) w':=by
 simp
theorem eW {x:Sem Value} {v:Value} {a:A} (hR:R C.toCtx F g s w) (hx:x.run C.P w=.ok v w) (hv:Rz g a v) (hK:K a) :
  OutS C F g s K (((do let v ← x;pure (Next.value v)):Sem Next).run C.P w):=by
 rw[xJ,hx];exact OutS.val hR hv hK
theorem aND {op:BinOp} {k:IntKind} {x y:Int} {a:A} (h:yV op k x y=some a) (t:TypeId) :
  ∃ v,(binOp op t (.int k x) (.int k y))=pure v∧∀ g,Rz g a v:=by
 cases op
 case quo =>
  simp only[yV] at h;split at h
  ·cases h
  ·rename_i h0;simp only[bM] at h;subst h;simp only[binOp,Op.intDiv,ne_eq,not_true_eq_false,↓reduceIte,h0];exact ⟨_,rfl,fun g=>.int _ _⟩
 case rem =>
  simp only[yV] at h;split at h
  ·cases h
  ·rename_i h0;simp only[bM] at h;subst h;simp only[binOp,Op.intDiv,ne_eq,not_true_eq_false,↓reduceIte,h0];exact ⟨_,rfl,fun g=>.int _ _⟩
 all_goals
  simp only[yV,bM,reduceCtorEq] at h
 all_goals
  subst h;simp only[binOp,Op.intArith,Op.intCmp,Op.intBits,ne_eq,not_true_eq_false,↓reduceIte]
  first
   | exact ⟨_,rfl,fun g=>.int _ _⟩
   | exact ⟨_,rfl,fun g=>.bool _⟩
   | (refine ⟨_,rfl,fun g=>?_⟩;simp only[bne,beq_eq_decide];exact .bool _)
theorem aMK {op:BinOp} {k j:IntKind} {x y:Int} {a:A} (h:aCf op k x y=some a) (t:TypeId) :
  ∃ v,(binOp op t (.int k x) (.int j y))=pure v∧∀ g,Rz g a v:=by
 unfold aCf at h;split at h
 ·cases h
 ·rename_i h0;cases op<;>simp only[bM,reduceCtorEq] at h
  all_goals
   subst h;simp only[binOp,Op.shift,h0,if_false];exact ⟨_,rfl,fun g=>.int _ _⟩
theorem aGe (op:BinOp) (t:TypeId) (x y:Operand) (k j:IntKind) (a b:Int):eqGuard op t x y (.int k a) (.int j b)=pure ():=by
 unfold eqGuard;cases op<;>rfl
theorem aDX (op:BinOp) (t:TypeId) (x y:Operand) (a b:ByteArray):eqGuard op t x y (.string a) (.string b)=pure ():=by
 unfold eqGuard;cases op<;>rfl
section
variable {P:Program} {t:TypeId} {ms:_} (hd:P.underlying t=some (.interface ms)) (x:Operand) (w:World)
include hd
theorem aLq (d:Nat):(Op.equalIn (d+1) t .nilIface .nilIface).run P w=.ok true w:=by
 simp only[Op.equalIn,bH,dV hd,bJ,bX]
theorem aLA (d:Nat) (u:TypeId) (v:Value):(Op.equalIn (d+1) t (.iface u v) .nilIface).run P w=.ok false w:=by
 simp only[Op.equalIn,bH,dV hd,bJ,bX]
theorem aJv (op:BinOp) (hop:op=.eql∨op=.neq) :
  ((do eqGuard op t x (.const .nilIface) .nilIface .nilIface;binOp op t .nilIface .nilIface:Sem Value)).run P w=.ok (.bool (op == .eql)) w:=by
 have h:=aLq hd w 9999;rcases hop with rfl|rfl
 ·have hg:(eqGuard .eql t x (.const .nilIface) .nilIface .nilIface).run P w=.ok () w:=by cases x<;>rfl
  have hb:(binOp .eql t .nilIface .nilIface).run P w=.ok (.bool true) w:=by
   simp only[binOp,Op.equal,Op.maxDepth,bH,h,bJ,bX]
  rw[bH,hg,bJ,hb];rfl
 ·have hg:(eqGuard .neq t x (.const .nilIface) .nilIface .nilIface).run P w=.ok () w:=by cases x<;>rfl
  have hb:(binOp .neq t .nilIface .nilIface).run P w=.ok (.bool false) w:=by
   simp only[binOp,Op.equal,Op.maxDepth,bH,h,bJ,bX,dT]
  rw[bH,hg,bJ,hb];rfl
theorem gE1 (op:BinOp) (hop:op=.eql∨op=.neq) (u:TypeId) (v:Value) :
  ((do eqGuard op t x (.const .nilIface) (.iface u v) .nilIface;binOp op t (.iface u v) .nilIface:Sem Value)).run P w=.ok (.bool (op == .neq)) w:=by
 have h:=aLA hd w 9999 u v;rcases hop with rfl|rfl
 ·have hg:(eqGuard .eql t x (.const .nilIface) (.iface u v) .nilIface).run P w=.ok () w:=rfl
  have hb:(binOp .eql t (.iface u v) .nilIface).run P w=.ok (.bool false) w:=by
   simp only[binOp,Op.equal,Op.maxDepth,bH,h,bJ,bX]
  rw[bH,hg,bJ,hb];rfl
 ·have hg:(eqGuard .neq t x (.const .nilIface) (.iface u v) .nilIface).run P w=.ok () w:=rfl
  have hb:(binOp .neq t (.iface u v) .nilIface).run P w=.ok (.bool true) w:=by
   simp only[binOp,Op.equal,Op.maxDepth,bH,h,bJ,bX,fD]
  rw[bH,hg,bJ,hb];rfl
end
theorem aOs {op:BinOp} {t yt ty:TypeId} {x y:Operand} {dst:Option Tmp} {pos:String} {after:Array Edge} {gd:Option (Nat × Bool)}
  (hR:R C.toCtx F g s w) (he:∀ x a,ρ x=some a→Rz g a (ev x)) (h:bF C (.binOp op t x y yt) ρ K) :
  OutS C F g s K ((execOp ev ⟨dst,.binOp op t x y yt,ty,pos,after,gd⟩).run C.P w):=by
 simp only[bF] at h;split at h
 ·rename_i a b ha hb;have ra:=he x a ha;have rb:=he y b hb;simp only[execOp];split at h
  ·rename_i hn;split at h
   ·rename_i ti hti;split at h
    ·rename_i hk;obtain ⟨d,hd,hok⟩:=iM hti;rw[hk] at hok;obtain ⟨ms,rfl⟩:=hok
     have hy:y=.const .nilIface:=by
      cases y with
      | const v=>cases v<;>first|rfl|cases hn
      | _=>cases hn
     subst hy;cases a<;>cases op<;>simp only[aCo] at h
     ·obtain ⟨u,hv,_⟩:=ra.iface_inv;rw[hv,rb.nili_inv];refine eW (v:=.bool false) hR ?_ (.bool _) h;exact gE1 hd _ w .eql (.inl rfl) _ _
     ·obtain ⟨u,hv,_⟩:=ra.iface_inv;rw[hv,rb.nili_inv];refine eW (v:=.bool true) hR ?_ (.bool _) h;exact gE1 hd _ w .neq (.inr rfl) _ _
     ·rw[ra.nili_inv,rb.nili_inv];refine eW (v:=.bool true) hR ?_ (.bool _) h;exact aJv hd _ w .eql (.inl rfl)
     ·rw[ra.nili_inv,rb.nili_inv];refine eW (v:=.bool false) hR ?_ (.bool _) h;exact aJv hd _ w .neq (.inr rfl)
    ·exact h.elim
   ·exact h.elim
  split at h
  ·rename_i hd;split at h
   ·rename_i r hr
    have hop:op=.eql∨op=.neq:=by
     cases op<;>simp_all [yL]
    obtain ⟨h1,h2⟩:=C.heq t a b r hr g _ _ w op x y hop ra rb;refine eW (v:=.bool (if op=.eql then r else !r)) hR ?_ (.bool _) h;simp only[bH,h1,bJ,h2]
   ·exact h.elim
  ·split at h
   ·obtain ⟨hl,hk⟩:=h;rw[ra.str_inv,rb.str_inv];refine eW hR ?_ (.str _) hk;simp only[aDX,pure_bind];have e1:∀ l:List UInt8,(ByteArray.mk l.toArray).size=l.length:=fun l=>by simp[ByteArray.size]
    simp only[binOp,Op.stringOp,e1];rw[if_neg (by unfold maxLen at hl;simp[IntKind.max,IntKind.signed,IntKind.bits];omega)];simp only[bX];congr 2
   ·split at h
    ·rename_i v hv;simp only[aCI] at hv;split at hv
     ·split at hv
      ·rename_i j1 a1 k1 b1 _ _ _ _;rw[ra.int_inv,rb.int_inv];obtain ⟨u,hu,hr⟩:=aMK (j:=k1) hv t;refine eW hR ?_ (hr g) h;simp only[aGe,pure_bind,hu,bX]
      ·split at hv
       ·rename_i hjk;subst hjk;rw[ra.int_inv,rb.int_inv];obtain ⟨u,hu,hr⟩:=aND hv t;refine eW hR ?_ (hr g) h;simp only[aGe,pure_bind,hu,bX]
       ·simp at hv
     ·rw[ra.str_inv,rb.str_inv];split at hv
      ·simp only[bM] at hv;subst hv;refine eW hR ?_ (.bool _) h;simp only[aDX,pure_bind,binOp,Op.stringOp,ByteArray.toList_mk,bX];congr 2;rw[Bool.eq_iff_iff];simp
      ·simp only[bM] at hv;subst hv;refine eW hR ?_ (.bool _) h;simp only[aDX,pure_bind,binOp,Op.stringOp,ByteArray.toList_mk,bX];congr 2;rw[Bool.eq_iff_iff];simp
      ·simp at hv
     ·simp at hv
    ·exact h.elim
 ·exact h.elim
theorem aMd {t:TypeId} {cs:List A} {o:Nat} {a:A} {v:Value} (hR:R C.toCtx F g s w) (hl:pY C t cs o=some a) (hv:Rz g (.eptr cs o) v) :
  ∃ u,(Instr.loadAt t v).run C.P w=.ok u w∧Rz g a u:=by
 obtain ⟨b,off,pre,rfl,hp,hlen,h1,hr⟩:=hv.eptr_inv;obtain ⟨rest,e,fr,hh⟩:=hR.pis b pre hp
 have cell:∀ k,k<pre.length→w.cell? ⟨b,k,none⟩=pre[k]?:=by
  intro k hk;simp only[World.cell?,hh,Option.isSome_none,bN,↓reduceIte,nU];rw[oT hk]
 simp only[pY] at hl;split at hl
 ·rename_i ti hti;split at hl
  ·rename_i hag;split at hl
   ·rename_i hsz;simp only[bM] at hl;subst hl
    have hc:∀ j v,((pre.drop (off+o)).take ti.sz)[j]?=some v→w.cell? ((⟨b,off+o,none⟩:Addr).add j)=some v:=by
     intro j v hj;rw[nD] at hj;split at hj
     ·rename_i hlt;rw[lE] at hj;have:(⟨b,off+o,none⟩:Addr).add j=⟨b,off+o+j,none⟩:=by unfold Addr.add;split<;>simp_all
      rw[this,cell _ (eT.1 hj).1];exact hj
     ·simp at hj
    have hlen':((pre.drop (off+o)).take ti.sz).length=ti.sz:=by rw[eY,cP];omega
    have hrun:=run_loadCells_list (P:=C.P) w ⟨b,off+o,none⟩ _ hc;rw[hlen'] at hrun;refine ⟨_,by simp only[Instr.loadAt,Instr.sureAddr,loadVar,bH,bX,bJ,yQ hti,hag,↓reduceIte,lJ hti,hrun];rfl,?_⟩;refine .agg _ _ ?_ ?_ ?_
    ·rw[hlen',eY,cP];omega
    ·intro c hc;exact h1 c (sH (qF hc))
    ·intro j c v hc hv;rw[nD] at hc hv;split at hc
     ·rename_i hlt;rw[if_pos hlt] at hv;rw[lE] at hc hv;exact hr (o+j) c v hc (by rw[← pM];exact hv)
     ·simp at hc
   ·simp at hl
  ·rename_i hag;have ho:o<cs.length:=(eT.1 hl).1;have hk:off+o<pre.length:=by omega
   refine ⟨pre[off+o],?_,hr o a _ hl (cH hk)⟩;have hag':ti.k.agg=false:=by simpa using hag
   simp only[Instr.loadAt,Instr.sureAddr,loadVar,bH,bX,bJ,yQ hti,hag',bN,↓reduceIte,run_load,cell _ hk,cH hk]
 ·simp at hl
theorem zT {lo hi:Option A} {l h:Int} {n cap:Nat} {b:Bool} {vlo vhi:Option Value}
  (hl:oR lo=some l) (hh:nB n hi=some h) (h0:0≤l) (h1:l≤h) (h2:h≤n) (hn:n≤cap)
  (r1:∀ a,lo=some a→∃ v,vlo=some v∧Rz g a v) (r1':lo=none→vlo=none)
  (r2:∀ a,hi=some a→∃ v,vhi=some v∧Rz g a v) (r2':hi=none→vhi=none) :
  (Instr.sliceBounds b n cap vlo vhi none).run C.P w=.ok (l.toNat,h.toNat,cap) w:=by
 have hb:∀ (k:IntKind) (i:Int) (y:Nat) (code:BoundsCode),0≤i→i≤y→(Instr.sliceBound (.int k i) y code).run C.P w=.ok i.toNat w :=
  fun k i y code h0 h1=>by simp[Instr.sliceBound,asIntOf,h0,h1]
 have key:∀ (y:Nat),y=h.toNat→(y:Int)=h:=by intro y hy;have:=Int.le_trans h0 h1;omega
 cases lo with
 | none =>
  simp only[oR,bM] at hl;subst hl;rw[r1' rfl];cases hi with
  | none =>
   simp only[nB,bM] at hh;subst hh;rw[r2' rfl];simp[Instr.sliceBounds]
  | some a =>
   obtain ⟨v,hv,hr⟩:=r2 a rfl;cases a<;>simp only[nB,bM,reduceCtorEq] at hh
   subst hh;rw[hv,hr.int_inv];have g2:(_:Int)≤(cap:Int):=Int.le_trans h2 (by omega);cases b<;>simp[Instr.sliceBounds,hb,h1,g2]
 | some a =>
  obtain ⟨v,hv,hr⟩:=r1 a rfl;cases a<;>simp only[oR,bM,reduceCtorEq] at hl
  subst hl;rw[hv,hr.int_inv];cases hi with
  | none =>
   simp only[nB,bM] at hh;subst hh;rw[r2' rfl];simp[Instr.sliceBounds,hb,h0,h1]
  | some a =>
   obtain ⟨v,hv,hr⟩:=r2 a rfl;cases a<;>simp only[nB,bM,reduceCtorEq] at hh
   subst hh;rw[hv,hr.int_inv];have g2:(_:Int)≤(cap:Int):=Int.le_trans h2 (by omega);have g1:=Int.le_trans h0 h1;have e:=key _ rfl;have g3:=h1;rw[← e] at g3;cases b<;>simp only[Instr.sliceBounds,hb _ _ _ _ g1 g2,hb _ _ _ _ h0 g3,bH,bX,bJ,bN,↓reduceIte]
theorem aID (he:∀ x a,ρ x=some a→Rz g a (ev x)) {o:Option Operand} {r:Option A} (h:nQ ρ o=some r) :
  (∀ a,r=some a→∃ v,o.map ev=some v∧Rz g a v)∧(r=none→o.map ev=none):=by
 cases o with
 | none=>simp only[nQ,bM] at h;subst h;simp
 | some x =>
  simp only[nQ] at h;split at h
  ·rename_i a ha;simp only[bM] at h;subst h;exact ⟨fun a' e=>by cases e;exact ⟨_,rfl,he x a ha⟩,by simp⟩
  ·simp at h
end
end
section
section
variable {C:Cx} {F:Fr} {g:Gh} {s:St} {w:World} {K:A→Prop} {ρ:Operand→Option A} {ev:Operand→Value}
theorem aBD {t:TypeId} {ti:TI} {fs:List (Nat × Nat × Bool)} (h:C.tt t=some ti) (hk:ti.k=.struct fs) :
  ∃ fields,C.P.underlying t=some (.struct fields)∧fields.size=fs.length∧∀ (i o s:Nat) (a:Bool),fs[i]?=some (o,s,a) →
   ∃ f,fields[i]?=some f∧f.offset=o∧(C.P.info? f.type).map (·.size)=some s∧s≠0∧(C.P.underlying f.type).isSome=true∧wJ (C.P.underlying f.type)=a:=by
 obtain ⟨d,hd,hok⟩:=iM h;rw[hk] at hok;obtain ⟨fields,rfl,hn,hf⟩:=hok;exact ⟨fields,hd,hn,hf⟩
theorem aD0 {t:TypeId} {n:Nat} (h:(C.P.info? t).map (·.size)=some n) (w:World):(sizeOf t).run C.P w=.ok n w:=by
 simp only[mL] at h;obtain ⟨i,hi,hs⟩:=h;simp[sizeOf,typeInfo,hi,hs]
theorem aG8 {t:TypeId} (h:(C.P.underlying t).isSome=true) (w:World):(isAgg t).run C.P w=.ok (wJ (C.P.underlying t)) w:=by
 obtain ⟨d,hd⟩:=Option.isSome_iff_exists.1 h;simp only[isAgg,bH,dV hd,bJ,hd];cases d<;>rfl
theorem kX (b o n:Nat):(⟨b,o,none⟩:Addr).add n=⟨b,o+n,none⟩:=by unfold Addr.add;split<;>simp_all
theorem aFS {a:Addr} {f:Field} {n:Nat} (h:(C.P.info? f.type).map (·.size)=some n) (hn:n≠0) (w:World) :
  (fieldPlace a f).run C.P w=.ok (a.add f.offset) w:=by
 simp[fieldPlace,aD0 h,hn]
theorem aLk {t ty:TypeId} {x:Operand} {f:Nat} {dst:Option Tmp} {pos:String} {after:Array Edge} {gd:Option (Nat × Bool)}
  (hR:R C.toCtx F g s w) (he:∀ x a,ρ x=some a→Rz g a (ev x)) (h:bF C (.fieldAddr t x f) ρ K) :
  OutS C F g s K ((execOp ev ⟨dst,.fieldAddr t x f,ty,pos,after,gd⟩).run C.P w):=by
 simp only[bF] at h;split at h
 ·rename_i a ti ha hti;split at h
  ·rename_i fs hk;split at h
   ·rename_i off sz ag hf;obtain ⟨fields,hu,_,hfs⟩:=aBD hti hk;obtain ⟨fl,h1,h2,h3,h4,_,_⟩:=hfs f off sz ag hf;simp only[execOp];split at h
    ·rename_i b o;obtain ⟨k,this,hb⟩:=(he x _ ha).ptr_inv;refine eW (v:=.pointer (some ⟨k,o+off,none⟩)) hR ?_ (.ptr b (o+off) k hb) h;simp[Instr.fieldAt,dV hu,h1,Instr.sureAddr,this,aFS h3 h4,h2,kX]
    ·rename_i cs o;obtain ⟨b,of2,pre,hv,hp,hl,hone,hr⟩:=(he x _ ha).eptr_inv;refine eW (v:=.pointer (some ⟨b,of2+(o+off),none⟩)) hR ?_ (.eptr cs (o+off) b of2 pre hp hl hone hr) h;simp[Instr.fieldAt,dV hu,h1,Instr.sureAddr,hv,aFS h3 h4,h2,kX,pM]
    ·exact h.elim
   ·exact h.elim
  ·exact h.elim
 ·exact h.elim
theorem aOz {t ty:TypeId} {x:Operand} {f:Nat} {dst:Option Tmp} {pos:String} {after:Array Edge} {gd:Option (Nat × Bool)}
  (hR:R C.toCtx F g s w) (he:∀ x a,ρ x=some a→Rz g a (ev x)) (h:bF C (.field t x f) ρ K) :
  OutS C F g s K ((execOp ev ⟨dst,.field t x f,ty,pos,after,gd⟩).run C.P w):=by
 simp only[bF] at h;split at h
 ·rename_i cs ti ha hti;split at h
  ·rename_i fs hk;split at h
   ·rename_i off sz ag hf;obtain ⟨fields,hu,_,hfs⟩:=aBD hti hk;obtain ⟨fl,h1,h2,h3,h4,h5,h6⟩:=hfs f off sz ag hf;obtain ⟨vs,hv,hrs,hone⟩:=(he x _ ha).agg_inv;simp only[execOp];split at h
    ·rename_i hag;obtain ⟨hl,hK⟩:=h;refine eW (v:=.agg ((vs.drop off).take sz).toArray) hR ?_ ?_ hK
     ·simp only[Instr.field,bH,dV hu,bJ,h1,hv,asAgg,bX,part,aG8 h5,h6,hag,↓reduceIte,aD0 h3,h2];congr 2;simp[List.extract_toArray,List.take_drop,Nat.add_comm]
     ·have:=(hrs.drop off).take sz;exact .agg _ _ this.1 (fun c hc=>hone c (sH (qF hc))) this.2
    ·rename_i hag;split at h
     ·rename_i a hc;obtain ⟨v,hv',hr⟩:=hrs.get hc;refine eW (v:=v) hR ?_ hr h;have hag':ag=false:=by simpa using hag
      simp only[Instr.field,bH,dV hu,bJ,h1,hv,asAgg,bX,part,aG8 h5,h6,hag',bN,↓reduceIte,h2];rw[nU,hv'];rfl
     ·exact h.elim
   ·exact h.elim
  ·exact h.elim
 ·exact h.elim
theorem aOC {t ty:TypeId} {x:Operand} {lo hi mx:Option Operand} {dst:Option Tmp} {pos:String} {after:Array Edge} {gd:Option (Nat × Bool)}
  (hR:R C.toCtx F g s w) (he:∀ x a,ρ x=some a→Rz g a (ev x)) (h:bF C (.slice t x lo hi mx) ρ K) :
  OutS C F g s K ((execOp ev ⟨dst,.slice t x lo hi mx,ty,pos,after,gd⟩).run C.P w):=by
 cases mx with
 | some _=>simp only[bF] at h
 | none =>
 simp only[bF] at h;split at h
 ·rename_i a l h' ti ha hlo hhi hti;obtain ⟨d,hd,hok⟩:=iM hti;obtain ⟨l1,l2⟩:=aID he hlo;obtain ⟨h1,h2⟩:=aID he hhi;split at h
  ·rename_i hk;rw[hk] at hok;simp only[TK.ok] at hok;subst hok;split at h
   ·rename_i str;simp only[rB] at h;split at h
    ·rename_i lo' hi' hl' hh';obtain ⟨⟨c0,c1,c2⟩,hK⟩:=h;have hv:=(he x _ ha).str_inv;have e1:(ByteArray.mk str.toArray).size=str.length:=by simp[ByteArray.size]
     refine eW (v:=.string ((ByteArray.mk str.toArray).extract lo'.toNat hi'.toNat)) hR ?_ ?_ hK
     ·simp only[execOp,Instr.sliceAt,bH,dV hd,bJ,Instr.slice,hv,Option.map_none,Option.isSome_none,bN,↓reduceIte,e1];rw[zT (C:=C) (w:=w) (g:=g) hl' hh' c0 c1 c2 (bE _) l1 l2 h1 h2];rfl
     ·have:(ByteArray.mk str.toArray).extract lo'.toNat hi'.toNat=⟨((str.drop lo'.toNat).take (hi'.toNat-lo'.toNat)).toArray⟩:=by
       apply ByteArray.ext;apply Array.ext';rw[Lib.extract_data]
      rw[this];exact .str _
    ·exact h.elim
   ·exact h.elim
  ·rename_i el hk;rw[hk] at hok;simp only[TK.ok] at hok;subst hok;split at h
   ·rename_i tk es te hte;obtain ⟨hsz,h⟩:=h;simp only[rB] at h;split at h
    ·rename_i lo' hi' hl' hh';obtain ⟨⟨c0,c1,c2⟩,hK⟩:=h;obtain ⟨ad,cap,hv,hm,hcap,_,hflat⟩:=(he x _ ha).list_inv;refine eW (v:=.slice (if cap=lo'.toNat then ad else ad.map (·.add (lo'.toNat * te.sz))) (hi'.toNat-lo'.toNat) (cap-lo'.toNat)) hR ?_ ?_ hK
     ·simp only[execOp,Instr.sliceAt,bH,dV hd,bJ,Instr.slice,hv,Option.map_none];rw[zT (C:=C) (w:=w) (g:=g) hl' hh' c0 c1 c2 hcap l1 l2 h1 h2];simp only[bJ,lJ hte,bX]
     ·have hlen:((es.drop lo'.toNat).take (hi'.toNat-lo'.toNat)).length=hi'.toNat-lo'.toNat:=by
       rw[eY,cP];omega
      by_cases hz:hi'.toNat-lo'.toNat=0
      ·rw[hz,List.take_zero];exact .list0 none _ _ (by omega) (by simp)
      ·rcases hflat with rfl|⟨b,off,sz,pre,rfl,hp,hle,hs,h1',hr⟩
       ·simp at c2;omega
       ·have hne:¬ cap=lo'.toNat:=by omega
        have hpos:0<es.length:=by omega
        have hszz:te.sz=sz:=by
         have hx:=lG hpos;rw[← hsz _ hx,hs _ hx]
        rw[if_neg hne,hszz];simp only[nW,kX]
        have hmul:lo'.toNat * sz+(hi'.toNat-lo'.toNat) * sz≤es.length * sz:=by
         rw[← gG];exact nV _ (by omega)
        have:=Rz.list (g:=g) none ((es.drop lo'.toNat).take (hi'.toNat-lo'.toNat)) b (off+lo'.toNat * sz) sz (cap-lo'.toNat) pre hp (by rw[hlen];omega) (by rw[hlen];omega) (by omega)
         (fun e hx=>hs e (sH (qF hx))) (fun e hx=>h1' e (sH (qF hx)))
         (fun i e j c v hi hj hv => by
          rw[nD] at hi;split at hi
          ·rw[lE] at hi;refine hr _ e j c v hi hj ?_;rw[gG,← pM];exact hv
          ·simp at hi) (by simp)
        rw[hlen] at this;exact this
    ·exact h.elim
   ·rename_i te hte;split at h
    ·rename_i lo' hi' hl' hh';obtain ⟨⟨rfl,rfl⟩,hK⟩:=h;have hv:=(he x _ ha).nils_inv;refine eW (v:=.slice none 0 0) hR ?_ .nils hK;simp only[execOp,Instr.sliceAt,bH,dV hd,bJ,Instr.slice,hv,Option.map_none];rw[zT (C:=C) (w:=w) (g:=g) (n:=0) hl' hh' (rO _) (rO _) (rO _) (bE _) l1 l2 h1 h2];simp only[bJ,lJ hte,bX];rfl
    ·exact h.elim
   ·rename_i t0 n0 te hte;split at h
    ·rename_i lo' hi' hl' hh';obtain ⟨⟨rfl,rfl⟩,hK⟩:=h;obtain ⟨k,cap,hv,hg,hn,hm⟩:=(he x _ ha).gr_inv;refine eW (v:=.slice (if cap=(0:Int).toNat then some ⟨k,0,none⟩ else (some (⟨k,0,none⟩:Addr)).map (·.add ((0:Int).toNat * te.sz))) 0 cap) hR ?_ ?_ hK
     ·simp only[execOp,Instr.sliceAt,bH,dV hd,bJ,Instr.slice,hv,Option.map_none];rw[zT (C:=C) (w:=w) (g:=g) (n:=n0) hl' hh' (rO _) (rO _) (by omega) hn l1 l2 h1 h2];simp only[bJ,lJ hte,bX];rfl
     ·have e1:(if cap=(0:Int).toNat then some (⟨k,0,none⟩:Addr) else (some (⟨k,0,none⟩:Addr)).map (·.add ((0:Int).toNat * te.sz)))=some ⟨k,0,none⟩:=by
       split
       ·rfl
       ·simp[kX]
      rw[e1];exact .list0 (some t0) _ cap hm (fun t ht=>by cases ht;exact hg)
    ·exact h.elim
   ·rename_i b off n te hte;split at h
    ·rename_i lo' hi' hl' hh';obtain ⟨⟨c0,c1,c2⟩,hK⟩:=h;obtain ⟨k,cap,hv,hb,hc,hm⟩:=(he x _ ha).ml_inv;refine eW (v:=.slice (if cap=lo'.toNat then some ⟨k,off,none⟩ else (some (⟨k,off,none⟩:Addr)).map (·.add (lo'.toNat * te.sz))) (hi'.toNat-lo'.toNat) (cap-lo'.toNat)) hR ?_ ?_ hK
     ·simp only[execOp,Instr.sliceAt,bH,dV hd,bJ,Instr.slice,hv,Option.map_none];rw[zT (C:=C) (w:=w) (g:=g) hl' hh' c0 c1 c2 hc l1 l2 h1 h2];simp only[bJ,lJ hte,bX]
     ·by_cases hz:hi'.toNat-lo'.toNat=0
      ·rw[if_pos hz,hz];exact .list0 none _ _ (by omega) (by simp)
      ·rw[if_neg hz,if_neg (by omega)];simp only[nW,kX];exact .ml b _ _ _ k hb (by omega) (by omega)
    ·exact h.elim
   ·exact h.elim
  ·exact h.elim
 ·exact h.elim
end
end
section
theorem aHR {α:Type} (l:List α) (k:Nat) (v:α) (rest:List α) (h:k<l.length) :
  (l.set k v).take (k+1)++rest++(l.set k v).drop (k+1+rest.length)=l.take k++(v::rest)++l.drop (k+(rest.length+1)):=by
 have h1:(l.set k v).take (k+1)=l.take k++[v]:=by
  rw[List.take_succ_eq_append_getElem (by simpa using h)];simp only[List.take_set,List.getElem_set_self];rw[List.set_eq_of_length_le (by simp;omega)]
 have h2:(l.set k v).drop (k+1+rest.length)=l.drop (k+(rest.length+1)):=by
  rw[List.drop_set_of_lt (by omega)];congr 1;omega
 rw[h1,h2];simp
theorem zV:∀ (vs cs:List A) (o:Nat),o+vs.length≤cs.length→nJ cs o vs=cs.take o++vs++cs.drop (o+vs.length)
 | [],cs,o,_=>by simp[nJ]
 | v::vs,cs,o,h=>by
  simp only[aF] at h;rw[nJ,zV vs _ _ (by simp;omega)];exact aHR cs o v vs (by omega)
def zC (cells:Array Value) (off:Nat) (vs:Array Value):Array Value:=vs.zipIdx.foldl (fun cs (c,j)=>cs.setIfInBounds (off+j) c) cells
theorem aJV (off:Nat):∀ (l:List Value) (k:Nat) (cells:Array Value),off+k+l.length≤cells.size →
  ((l.zipIdx k).foldl (fun cs (x:Value × Nat)=>cs.setIfInBounds (off+x.2) x.1) cells).toList=cells.toList.take (off+k)++l++cells.toList.drop (off+k+l.length)
 | [],k,cells,_=>by simp
 | v::l,k,cells,h=>by
  simp only[aF] at h;simp only[List.zipIdx_cons,List.foldl_cons];rw[aJV off l (k+1) _ (by simp;omega)];simp only[Array.toList_setIfInBounds,aF];have:=aHR cells.toList (off+k) v l (by simp;omega);rw[show off+(k+1)=off+k+1 by omega];exact this
theorem aGd (cells:Array Value) (off:Nat) (vs:Array Value) (h:off+vs.size≤cells.size) :
  (zC cells off vs).toList=cells.toList.take off++vs.toList++cells.toList.drop (off+vs.size):=by
 obtain ⟨l⟩:=vs;have:=aJV off l 0 cells (by simpa using h);simpa [zC] using this
theorem aGS {place:Nat→Option (Nat × Nat)} {cells:Array Value} {i:Nat} {v:Value} {rest:List (Nat × Value)} {off size:Nat}
  (hp:place i=some (off,size)) (hs:v.cells.size=size) (hl:off+size≤cells.size) :
  Instr.fill place cells ((i,v)::rest)=Instr.fill place (zC cells off v.cells) rest:=by
 simp only[Instr.fill,hp];rw[if_neg (by simp[hs];omega)];rfl
section
variable {C:Cx} {F:Fr} {g:Gh} {s:St} {w:World} {K:A→Prop} {ρ:Operand→Option A} {ev:Operand→Value}
theorem Rzs.put {cs:List A} {cells:Array Value} {off:Nat} {a:A} {v:Value} (h:Rzs g cs cells.toList) (hv:Rz g a v) (hl:off+a.cells.length≤cs.length) :
  Rzs g (nJ cs off a.cells) (zC cells off v.cells).toList:=by
 have hc:=hv.cells;have e:v.cells.size=a.cells.length:=by simpa using hc.1
 have hlen:cells.size=cs.length:=by simpa using h.1
 rw[zV _ _ _ hl,aGd _ _ _ (by omega),e];exact ((h.take off).append hc).append (h.drop _)
theorem aIw {place:Nat→Option (Nat × Nat)} {place':Nat→Option (Nat × Nat)} (hpl:∀ i x,place' i=some x→place i=some x) :
  ∀ {az:List (Nat × A)} {vs:List (Nat × Value)} {cs r:List A} {cells:Array Value},
   (vs.map fun x=>x.1)=(az.map fun x=>x.1)→Rzs g (az.map fun x=>x.2) (vs.map fun x=>x.2)→Rzs g cs cells.toList →
   sA place' cs az=some r→∃ out,Instr.fill place cells vs=some out∧Rzs g r out.toList
 | [],vs,cs,r,cells,h1,h2,h3,hf=>by
  simp only[sA,bM] at hf;subst hf;have:vs=[]:=by simpa using h1
  subst this;exact ⟨cells,rfl,h3⟩
 | (i,a)::az,[],cs,r,cells,h1,h2,h3,hf=>by simp at h1
 | (i,a) :: az,(j,v) :: vs,cs,r,cells,h1,h2,h3,hf => by
  simp only[bK,List.cons.injEq] at h1;obtain ⟨rfl,h1⟩:=h1;simp only[sA] at hf;split at hf
  ·simp at hf
  ·rename_i off size hp;split at hf
   ·rename_i hc;obtain ⟨e1,e2,e3⟩:=hc;have hv:Rz g a v:=h2.2 0 a v (by simp) (by simp);have hs:v.cells.size=size:=by have:=hv.cells.1;simp only[oV] at this;omega
    have hsz:cells.size=cs.length:=by simpa using h3.1
    rw[aGS (hpl _ _ hp) hs (by omega)];refine aIw hpl h1 ⟨by simpa using h2.1,fun k c u hc hu=>h2.2 (k+1) c u (by simpa using hc) (by simpa using hu)⟩ (h3.put hv (by omega)) hf
   ·simp at hf
theorem aIb {α β:Type} (P:Program) (w:World) (f:α→Sem β) (k:α→β):∀ (l:List α),(∀ x,x∈l→(f x).run P w=.ok (k x) w) →
  (l.mapM f).run P w=.ok (l.map k) w
 | [],_=>by simp
 | x::l,h=>by
  simp only[List.mapM_cons,bH,h x (by simp),bJ,aIb P w f k l (fun y hy=>h y (by simp[hy])),bX,bK]
theorem aOe {t ty:TypeId} {parts:Array (Nat × Operand)} {dst:Option Tmp} {pos:String} {after:Array Edge} {gd:Option (Nat × Bool)}
  (hR:R C.toCtx F g s w) (he:∀ x a,ρ x=some a→Rz g a (ev x)) (h:bF C (.build t parts) ρ K) :
  OutS C F g s K ((execOp ev ⟨dst,.build t parts,ty,pos,after,gd⟩).run C.P w):=by
 simp only[bF] at h;split at h
 ·rename_i ps ti hps hti;split at h
  ·rename_i fs hk;split at h
   ·rename_i r hr;simp only[mL] at hr;obtain ⟨r',hr',rfl⟩:=hr;obtain ⟨fields,hu,hn,hfs⟩:=aBD hti hk;obtain ⟨z,hz,hzr⟩:=aAt hti w;obtain ⟨p1,p2⟩:=aBz he hps
    have hmap:∀ f,f∈fields.toList→((do let x ← sizeOf f.type;pure (f.offset,x)):Sem (Nat × Nat)).run C.P w=.ok (f.offset,C.toCtx.sz f.type) w:=by
     intro f hf;obtain ⟨i,hi,rfl⟩:=iT hf;have hi':i<fs.length:=by rw[← hn];simpa using hi
     obtain ⟨f',h1,h2,h3,h4,_⟩:=hfs i fs[i].1 fs[i].2.1 fs[i].2.2 (by simp[hi']);have hfi:fields[i]?=some fields.toList[i]:=by rw[← aA4];exact cH hi
     rw[hfi] at h1;cases h1;simp only[bH,aD0 h3,bJ,bX,Ctx.sz,h3,Option.getD_some]
    have hplaces:=aIb C.P w _ (fun f:Field=>(f.offset,C.toCtx.sz f.type)) fields.toList hmap
    have hpl:∀ (i:Nat) (x:Nat × Nat),((fs[i]?).map fun (x:Nat × Nat × Bool)=>(x.1,x.2.1))=some x→((fields.toList.map fun f:Field=>(f.offset,C.toCtx.sz f.type)).toArray)[i]?=some x:=by
     intro i x hx;simp only[mL] at hx;obtain ⟨y,hy,rfl⟩:=hx;obtain ⟨f',h1,h2,h3,h4,_⟩:=hfs i y.1 y.2.1 y.2.2 hy;rw[nU,sL,aA4,h1];simp[h2,Ctx.sz,h3]
    obtain ⟨out,ho,hro⟩:=aIw (g:=g) hpl (az:=ps) (vs:=parts.toList.map fun x=>(x.1,ev x.2)) (cs:=ti.zero) (cells:=z.cells) (r:=r')
     (by rw[← p1];simp[Function.comp_def]) (by simpa [Function.comp_def] using p2) (hzr g) hr'
    have hone:∀ c,c∈r'→c.one=true:=by
     have key:∀ (az:List (Nat × A)) (cs r:List A),(∀ c,c∈cs→c.one=true)→sA (fun i=>(fs[i]?).map fun x=>(x.1,x.2.1)) cs az=some r→∀ c,c∈r→c.one=true:=by
      intro az
      induction az with
      | nil=>intro cs r h1 h2;simp only[sA,bM] at h2;subst h2;exact h1
      | cons x az ih =>
       intro cs r h1 h2;obtain ⟨i,a⟩:=x;simp only[sA] at h2;split at h2
       ·simp at h2
       ·split at h2
        ·rename_i hc;refine ih _ _ ?_ h2;intro c hcm;rw[zV _ _ _ (by omega)] at hcm;simp only[kR] at hcm;rcases hcm with (hcm|hcm)|hcm
         ·exact h1 c (qF hcm)
         ·have:=hc.2.2;simp only[fZ,iV] at this;exact this c hcm
         ·exact h1 c (sH hcm)
        ·simp at h2
     exact key ps ti.zero r' (C.htt t ti hti).one hr'
    refine eW (v:=.agg out) hR ?_ ?_ h
    ·simp only[Instr.build,bH,hz,bJ,dV hu];rw[Array.mapM_eq_mapM_toList];rw[Sem.run_map,hplaces];simp only[bJ];have:(parts.map fun x=>(x.1,ev x.2)).toList=parts.toList.map fun x=>(x.1,ev x.2):=by simp
     rw[this,ho];rfl
    ·have:=hro;exact .agg r' out.toList this.1 hone this.2
   ·exact h.elim
  ·exact h.elim
 ·exact h.elim
end
end
section
section
variable {C:Cx} {F:Fr} {g:Gh} {s:St} {w:World} {K:A→Prop} {ρ:Operand→Option A} {ev:Operand→Value}
theorem aD8:∀ {az:List (Nat × A)} {k:Nat} {es:List A},wA k az=some es→az.map (fun x=>x.2)=es∧az.map (fun x=>x.1)=List.range' k es.length
 | [],k,es,h=>by simp[wA] at h;subst h;simp
 | (i,a)::r,k,es,h=>by
  simp only[wA] at h;split at h
  ·rename_i hi;subst hi;simp only[mL] at h;obtain ⟨es',he,rfl⟩:=h;have:=aD8 he;simp[this.1,this.2,List.range'_succ]
  ·simp at h
theorem aEs (size:Nat):∀ (vs:List (Nat × Value)) (k:Nat) (cells:Array Value),vs.map (fun x=>x.1)=List.range' k vs.length →
  (∀ x,x∈vs→x.2.cells.size=size)→(k+vs.length) * size≤cells.size →
  ∃ out,Instr.fill (fun i=>some (i * size,size)) cells vs=some out ∧
   out.toList=cells.toList.take (k * size)++(vs.flatMap fun x=>x.2.cells.toList)++cells.toList.drop ((k+vs.length) * size)
 | [],k,cells,_,_,_=>⟨cells,rfl,by simp⟩
 | (i,v) :: vs,k,cells,h1,h2,h3 => by
  simp only[bK,aF,List.range'_succ,List.cons.injEq] at h1;obtain ⟨rfl,h1⟩:=h1;have hv:=h2 (i,v) (by simp);simp only[aF] at h3
  have hm:i * size+size≤(i+(vs.length+1)) * size:=by
   rw[show i * size+size=(i+1) * size by rw[gG];omega];exact nV _ (by omega)
  have hput:=aGd cells (i * size) v.cells (by simp only at hv;omega)
  have hsz:(zC cells (i * size) v.cells).size=cells.size:=by
   have:=congrArg List.length hput;simp only[oV,aR,eY,cP] at this;simp only at hv;omega
  rw[aGS rfl hv (by omega)];have e0:(i+1+vs.length) * size=(i+(vs.length+1)) * size:=by rw[show i+1+vs.length=i+(vs.length+1) by omega]
  obtain ⟨out,ho,hout⟩:=aEs size vs (i+1) (zC cells (i * size) v.cells) h1 (fun x hx=>h2 x (by simp[hx])) (by rw[hsz,e0];exact h3);refine ⟨out,ho,?_⟩;rw[hout,hput];simp only at hv;have e1:(i+1) * size=i * size+size:=by rw[gG];omega
  have e2:=e0;rw[e1,e2,aF,wV]
  have t1:(cells.toList.take (i * size)++v.cells.toList++cells.toList.drop (i * size+v.cells.size)).take (i * size+size)=cells.toList.take (i * size)++v.cells.toList:=by
   apply List.take_left';simp only[aR,eY,oV];omega
  have t2:(cells.toList.take (i * size)++v.cells.toList++cells.toList.drop (i * size+v.cells.size)).drop ((i+(vs.length+1)) * size)=cells.toList.drop ((i+(vs.length+1)) * size):=by
   have hl:(cells.toList.take (i * size)++v.cells.toList).length=i * size+size:=by
    simp only[aR,eY,oV];omega
   rw[List.drop_append,vE (by omega),gQ,hl,kS];congr 1;omega
  rw[t1,t2];simp
theorem aKF {t ty:TypeId} {n:Nat} {parts:Array (Nat × Operand)} {dst:Option Tmp} {pos:String} {after:Array Edge} {gd:Option (Nat × Bool)}
  (hR:R C.toCtx F g s w) (he:∀ x a,ρ x=some a→Rz g a (ev x)) (h:bF C (.buildSlice t n parts) ρ K) :
  ∃ ti te e es out a,C.tt t=some ti∧ti.k=.slice e∧C.tt e=some te∧(∀ x,x∈es→x.cells.length=te.sz∧∀ c,c∈x.cells→c.one=true)∧(es.length * te.sz≤16777216∧es.length≤16777216) ∧
   (execOp ev ⟨dst,.buildSlice t n parts,ty,pos,after,gd⟩).run C.P w=.ok (.value (.slice (some ⟨w.heap.size,0,none⟩) es.length es.length)) (w.alloc (.cells out e)) ∧
   Rzs g (eI es) out.toList∧(∀ tk es',a=.list tk es'→es'=es)∧K a:=by
 simp only[bF] at h;split at h
 ·rename_i ps ti hps hti;split at h
  ·rename_i e hk;split at h
   ·rename_i te hte;split at h
    ·rename_i es hes;obtain ⟨⟨rfl,⟨hlim,hlim2⟩,hok⟩,hK⟩:=h;obtain ⟨d,hd,hok'⟩:=iM hti;rw[hk] at hok';simp only[TK.ok] at hok';subst hok';obtain ⟨p1,p2⟩:=aBz he hps;obtain ⟨q1,q2⟩:=aD8 hes;have hel:=aEg hok
     have hlen:parts.toList.length=es.length:=by
      have:=congrArg List.length p1;have:=congrArg List.length q1;simp at *;omega
     have hvs:∀ x,x∈(parts.toList.map fun x=>(x.1,ev x.2))→x.2.cells.size=te.sz:=by
      intro x hx;obtain ⟨k,hk,rfl⟩:=iT hx;simp only[aI] at hk;have hk':k<es.length:=by omega
      have hc:(ps.map fun x=>x.2)[k]?=some es[k]:=by rw[q1];exact cH hk'
      obtain ⟨v,hv,hr⟩:=p2.get hc;have hcl:=hr.cells.1;rw[(hel _ (lG hk')).1] at hcl;simp only[List.getElem_map];rw[sL,cH hk] at hv;simp only[nW,bM] at hv;rw[hv];simpa using hcl
     have hidx:(parts.toList.map fun x=>(x.1,ev x.2)).map (fun x=>x.1)=List.range' 0 (parts.toList.map fun x=>(x.1,ev x.2)).length:=by
      simp only[List.map_map,Function.comp_def,aI];rw[p1,q2,hlen]
     obtain ⟨z,hz,hzr⟩:=aAt hte w;have hzl:∀ (zero:Array Value),((Array.range (es.length * te.sz)).map (fun k=>zero[k % zero.size]!)).size=es.length * te.sz:=by intro zero;simp
     have hfill:∀ zero:Array Value,∃ out,Instr.fill (fun i=>some (i * te.sz,te.sz)) ((Array.range (es.length * te.sz)).map (fun k=>zero[k % zero.size]!)) (parts.toList.map fun x=>(x.1,ev x.2))=some out ∧
       out.toList=(parts.toList.map fun x=>(x.1,ev x.2)).flatMap fun x=>x.2.cells.toList:=by
      intro zero;obtain ⟨out,ho,hout⟩:=aEs te.sz (parts.toList.map fun x=>(x.1,ev x.2)) 0 ((Array.range (es.length * te.sz)).map (fun k=>zero[k % zero.size]!)) hidx hvs (by simp[hlen]);refine ⟨out,ho,?_⟩;rw[hout]
      have:(((Array.range (es.length * te.sz)).map (fun k=>zero[k % zero.size]!)).toList).drop ((0+(parts.toList.map fun x=>(x.1,ev x.2)).length) * te.sz)=[] :=
       vE (by simp[hlen])
      rw[this];simp
     have hflat:Rzs g (eI es) ((parts.toList.map fun x=>(x.1,ev x.2)).flatMap fun x=>x.2.cells.toList):=by
      have key:∀ (az:List A) (vs:List Value),Rzs g az vs→Rzs g (eI az) (vs.flatMap fun v=>v.cells.toList):=by
       intro az
       induction az with
       | nil=>intro vs h;have:vs=[]:=gR h.1;subst this;exact .nil g
       | cons a az ih =>
        intro vs h;cases vs with
        | nil=>have:=h.1;simp at this
        | cons v vs =>
         simp only[eI,wV];exact (h.2 0 a v (by simp) (by simp)).cells.append (ih vs ⟨by simpa using h.1,fun j c u hc hu=>h.2 (j+1) c u (by simpa using hc) (by simpa using hu)⟩)
      have:=key _ _ p2;rw[q1] at this;simpa [List.flatMap_map] using this
     simp only[execOp]
     have hrun:∃ out:Array Value,(Instr.buildSlice t es.length (parts.map fun x=>(x.1,ev x.2))).run C.P w =
       .ok (.slice (some ⟨w.heap.size,0,none⟩) es.length es.length) (w.alloc (.cells out e))∧Rzs g (eI es) out.toList:=by
      have hpl:(parts.map fun x=>(x.1,ev x.2)).toList=parts.toList.map fun x=>(x.1,ev x.2):=by simp
      by_cases h0:es.length * te.sz=0
      ·obtain ⟨out,ho,hout⟩:=hfill #[];refine ⟨out,?_,by rw[hout];exact hflat⟩;simp only[Instr.buildSlice,bH,dV hd,bJ,lJ hte];rw[if_neg (by omega),if_pos h0];simp only[bX,pure_bind,bH,bJ,hpl,ho,newRow,run_newObj];rfl
      ·obtain ⟨out,ho,hout⟩:=hfill z.cells;refine ⟨out,?_,by rw[hout];exact hflat⟩;simp only[Instr.buildSlice,bH,dV hd,bJ,lJ hte];rw[if_neg (by omega),if_neg h0];simp only[bX,pure_bind,bH,bJ,hz,hpl,ho,newRow,run_newObj];rfl
     obtain ⟨out,hrun,hro⟩:=hrun;rw[xJ,hrun]
     have key:∃ a,(∀ tk es',a=.list tk es'→es'=es)∧K a:=by
      cases hzp:yS parts.toList with
      | true =>
       rw[hzp] at hK;refine ⟨_,fun tk es' he'=>?_,hK⟩
       match es,he' with
       | [],he'=>cases he'
       | [x],he'=>cases he'
       | x::y::r,he'=>cases he';rfl
      | false =>
       rw[hzp] at hK;refine ⟨_,fun tk es' he'=>?_,hK⟩;cases es with
       | nil=>cases he'
       | cons x r=>cases he';rfl
     obtain ⟨a,ha1,ha2⟩:=key;exact ⟨ti,te,e,es,out,a,hti,hk,hte,hel,⟨hlim,hlim2⟩,rfl,hro,ha1,ha2⟩
    ·exact h.elim
   ·exact h.elim
  ·exact h.elim
 ·exact h.elim
theorem aKZ {t ty:TypeId} {n:Nat} {parts:Array (Nat × Operand)} {dst:Option Tmp} {pos:String} {after:Array Edge} {gd:Option (Nat × Bool)}
  (hR:R C.toCtx F g s w) (he:∀ x a,ρ x=some a→Rz g a (ev x)) (h:bF C (.buildSlice t n parts) ρ K) :
  OutS C F g s K ((execOp ev ⟨dst,.buildSlice t n parts,ty,pos,after,gd⟩).run C.P w):=by
 simp only[bF] at h;split at h
 ·rename_i ps ti hps hti;split at h
  ·rename_i e hk;split at h
   ·rename_i te hte;split at h
    ·rename_i es hes;obtain ⟨⟨rfl,⟨hlim,hlim2⟩,hok⟩,hK⟩:=h;obtain ⟨d,hd,hok'⟩:=iM hti;rw[hk] at hok';simp only[TK.ok] at hok';subst hok';obtain ⟨p1,p2⟩:=aBz he hps;obtain ⟨q1,q2⟩:=aD8 hes;have hel:=aEg hok
     have hlen:parts.toList.length=es.length:=by
      have:=congrArg List.length p1;have:=congrArg List.length q1;simp at *;omega
     have hvs:∀ x,x∈(parts.toList.map fun x=>(x.1,ev x.2))→x.2.cells.size=te.sz:=by
      intro x hx;obtain ⟨k,hk,rfl⟩:=iT hx;simp only[aI] at hk;have hk':k<es.length:=by omega
      have hc:(ps.map fun x=>x.2)[k]?=some es[k]:=by rw[q1];exact cH hk'
      obtain ⟨v,hv,hr⟩:=p2.get hc;have hcl:=hr.cells.1;rw[(hel _ (lG hk')).1] at hcl;simp only[List.getElem_map];rw[sL,cH hk] at hv;simp only[nW,bM] at hv;rw[hv];simpa using hcl
     have hidx:(parts.toList.map fun x=>(x.1,ev x.2)).map (fun x=>x.1)=List.range' 0 (parts.toList.map fun x=>(x.1,ev x.2)).length:=by
      simp only[List.map_map,Function.comp_def,aI];rw[p1,q2,hlen]
     obtain ⟨z,hz,hzr⟩:=aAt hte w;have hzl:∀ (zero:Array Value),((Array.range (es.length * te.sz)).map (fun k=>zero[k % zero.size]!)).size=es.length * te.sz:=by intro zero;simp
     have hfill:∀ zero:Array Value,∃ out,Instr.fill (fun i=>some (i * te.sz,te.sz)) ((Array.range (es.length * te.sz)).map (fun k=>zero[k % zero.size]!)) (parts.toList.map fun x=>(x.1,ev x.2))=some out ∧
       out.toList=(parts.toList.map fun x=>(x.1,ev x.2)).flatMap fun x=>x.2.cells.toList:=by
      intro zero;obtain ⟨out,ho,hout⟩:=aEs te.sz (parts.toList.map fun x=>(x.1,ev x.2)) 0 ((Array.range (es.length * te.sz)).map (fun k=>zero[k % zero.size]!)) hidx hvs (by simp[hlen]);refine ⟨out,ho,?_⟩;rw[hout]
      have:(((Array.range (es.length * te.sz)).map (fun k=>zero[k % zero.size]!)).toList).drop ((0+(parts.toList.map fun x=>(x.1,ev x.2)).length) * te.sz)=[] :=
       vE (by simp[hlen])
      rw[this];simp
     have hflat:Rzs g (eI es) ((parts.toList.map fun x=>(x.1,ev x.2)).flatMap fun x=>x.2.cells.toList):=by
      have key:∀ (az:List A) (vs:List Value),Rzs g az vs→Rzs g (eI az) (vs.flatMap fun v=>v.cells.toList):=by
       intro az
       induction az with
       | nil=>intro vs h;have:vs=[]:=gR h.1;subst this;exact .nil g
       | cons a az ih =>
        intro vs h;cases vs with
        | nil=>have:=h.1;simp at this
        | cons v vs =>
         simp only[eI,wV];exact (h.2 0 a v (by simp) (by simp)).cells.append (ih vs ⟨by simpa using h.1,fun j c u hc hu=>h.2 (j+1) c u (by simpa using hc) (by simpa using hu)⟩)
      have:=key _ _ p2;rw[q1] at this;simpa [List.flatMap_map] using this
     simp only[execOp]
     have hrun:∃ out:Array Value,(Instr.buildSlice t es.length (parts.map fun x=>(x.1,ev x.2))).run C.P w =
       .ok (.slice (some ⟨w.heap.size,0,none⟩) es.length es.length) (w.alloc (.cells out e))∧Rzs g (eI es) out.toList:=by
      have hpl:(parts.map fun x=>(x.1,ev x.2)).toList=parts.toList.map fun x=>(x.1,ev x.2):=by simp
      by_cases h0:es.length * te.sz=0
      ·obtain ⟨out,ho,hout⟩:=hfill #[];refine ⟨out,?_,by rw[hout];exact hflat⟩;simp only[Instr.buildSlice,bH,dV hd,bJ,lJ hte];rw[if_neg (by omega),if_pos h0];simp only[bX,pure_bind,bH,bJ,hpl,ho,newRow,run_newObj];rfl
      ·obtain ⟨out,ho,hout⟩:=hfill z.cells;refine ⟨out,?_,by rw[hout];exact hflat⟩;simp only[Instr.buildSlice,bH,dV hd,bJ,lJ hte];rw[if_neg (by omega),if_neg h0];simp only[bX,pure_bind,bH,bJ,hz,hpl,ho,newRow,run_newObj];rfl
     obtain ⟨out,hrun,hro⟩:=hrun;rw[xJ,hrun];obtain ⟨hR',hle⟩:=hR.newRow out.toList e []
     have main:es≠[]→Rz (g.know w.heap.size out.toList) (.list none es) (.slice (some ⟨w.heap.size,0,none⟩) es.length es.length):=by
      intro hes0;have hro':=hro.mono hle.le;have hl:=xE (fun x hx=>(hel x hx).1);refine vL (pre:=out.toList) (vs:=out.toList) (off:=0) (sz:=te.sz) (by simp[Gh.know]) (by simp) ?_ (fun x hx=>(hel x hx).1) (fun x hx=>(hel x hx).2) (bE _) ?_ (bS _) (by simp)
      ·rw[oU (by rw[hro.1,hl];exact bE _)];exact hro'
      ·unfold maxLen;omega
     have hz:Rz (g.know w.heap.size out.toList) (hlA es) (.slice (some ⟨w.heap.size,0,none⟩) es.length es.length):=by
      match es,main with
      | [],_=>exact .emp _
      | [x],main=>exact .hl x _ _ (main (by simp))
      | x::y::r,main=>exact main (by simp)
     cases hzp:yS parts.toList with
     | true=>rw[hzp] at hK;exact ⟨_,_,hle,by simpa using hR',hz,hK⟩
     | false =>
     rw[hzp] at hK;refine ⟨_,_,hle,by simpa using hR',?_,hK⟩;cases hes0:es with
     | nil=>exact .emp _
     | cons e0 r0 =>
     rw[← hes0];show Rz _ (zH es) _;rw[show zH es=.list none es by rw[hes0];rfl];exact main (by rw[hes0];simp)
    ·exact h.elim
   ·exact h.elim
  ·exact h.elim
 ·exact h.elim
theorem aLH {t ty:TypeId} {x i:Operand} {dst:Option Tmp} {pos:String} {after:Array Edge} {gd:Option (Nat × Bool)}
  (hR:R C.toCtx F g s w) (he:∀ x a,ρ x=some a→Rz g a (ev x)) (h:bF C (.indexAddr t x i) ρ K) :
  OutS C F g s K ((execOp ev ⟨dst,.indexAddr t x i,ty,pos,after,gd⟩).run C.P w):=by
 simp only[bF] at h;split at h
 ·rename_i a k n ti ha hi hti;have hiv:=(he i _ hi).int_inv;obtain ⟨d,hd,hok⟩:=iM hti;simp only[execOp];split at h
  ·rename_i e hk;rw[hk] at hok;simp only[TK.ok] at hok;subst hok;split at h
   ·rename_i tk es;split at h
    ·rename_i te hte;obtain ⟨⟨h0,h1⟩,h⟩:=h;have hel:es[n.toNat]?=some es[n.toNat]:=cH h1;rw[hel] at h;obtain ⟨hsz,hK⟩:=h;obtain ⟨ad,cap,hv,hm,hc,_,hr⟩:=(he x _ ha).list_inv;rcases hr with rfl|⟨b,off,sz,pre,rfl,hp,hl,hs,hone,hr⟩
     ·simp at h1
     ·have hsz':te.sz=sz:=by rw[← hsz,hs _ (lG h1)]
      refine eW (v:=.pointer (some ⟨b,off+n.toNat * sz,none⟩)) hR ?_ ?_ hK
      ·have hn:n<(es.length:Int):=by omega
       simp only[Instr.indexAt,hiv,asIntOf,bH,bX,bJ,dV hd,hv,h0,hn,mQ,↓reduceIte,lJ hte,kX,hsz']
      ·have hb:n.toNat * sz+sz≤es.length * sz:=by
        have:(n.toNat+1) * sz≤es.length * sz:=nV _ h1
        rwa[gG,Nat.one_mul] at this
       have:=Rz.eptr (g:=g) es[n.toNat].cells 0 b (off+n.toNat * sz) pre hp (by rw[hsz,hsz'];omega) (fun c hc=>hone _ (lG h1) c hc)
        (fun j c v hc hv=>hr n.toNat _ j c v hel hc hv)
       simpa using this
    ·exact h.elim
   ·rename_i b off m;split at h
    ·rename_i te hte;obtain ⟨⟨h0,h1⟩,hK⟩:=h;obtain ⟨k,cap,hv,hb,hc,hm⟩:=(he x _ ha).ml_inv;refine eW (v:=.pointer (some ⟨k,off+n.toNat * te.sz,none⟩)) hR ?_ (.ptr b _ k hb) hK;have hn:n<(m:Int):=by omega
     simp only[Instr.indexAt,hiv,asIntOf,bH,bX,bJ,dV hd,hv,h0,hn,mQ,↓reduceIte,lJ hte,kX]
    ·exact h.elim
   ·rename_i b m _;split at h
    ·rename_i te hte;obtain ⟨⟨h0,h1⟩,hK⟩:=h;obtain ⟨k,hv,hb,hc,hm⟩:=(he x _ ha).mg_inv;refine eW (v:=.pointer (some ⟨k,0+n.toNat * te.sz,none⟩)) hR ?_ (by rw[gU];exact .ptr b _ k hb) hK;have hn:n<(m:Int):=by omega
     simp only[Instr.indexAt,hiv,asIntOf,bH,bX,bJ,dV hd,hv,h0,hn,mQ,↓reduceIte,lJ hte,kX]
    ·exact h.elim
   ·rename_i t' es sz;split at h
    ·rename_i te hte;obtain ⟨⟨h0,_⟩,hK⟩:=h;obtain ⟨b,cap,hv,hl,hc,_⟩:=(he x _ ha).pen_inv
     have hta:g.eta t' es.length=some (.slice (some ⟨b,0,none⟩) es.length cap):=by
      obtain ⟨_,_,_,_,_,h5,_⟩:=hl.list_inv;exact h5 _ rfl
     refine eW (v:=.pointer (some ⟨b,es.length * te.sz,none⟩)) hR ?_ (.rm t' es.length te.sz b cap hta hc) hK;have hn:n<((es.length+1:Nat):Int):=by omega
     have hn0:0≤n:=by omega
     have hnn:n.toNat=es.length:=by omega
     simp only[Instr.indexAt,hiv,asIntOf,bH,bX,bJ,dV hd,hv,hn0,hn,mQ,↓reduceIte,lJ hte,kX,hnn,gU]
    ·exact h.elim
   ·exact h.elim
  ·rename_i m e hk;rw[hk] at hok;simp only[TK.ok] at hok;subst hok;split at h
   ·rename_i cs o;split at h
    ·rename_i te hte;obtain ⟨⟨h0,h1⟩,hK⟩:=h;obtain ⟨b,off,pre,hv,hp,hl,hone,hr⟩:=(he x _ ha).eptr_inv;refine eW (v:=.pointer (some ⟨b,off+(o+n.toNat * te.sz),none⟩)) hR ?_ (.eptr cs _ b off pre hp hl hone hr) hK;simp only[Instr.indexAt,hiv,asIntOf,bH,bX,bJ,dV hd,hv,h0,h1,mQ,↓reduceIte,lJ hte,kX,Instr.sureAddr,pure_bind,pM]
    ·exact h.elim
   ·exact h.elim
  ·exact h.elim
 ·exact h.elim
theorem aOD {t ty:TypeId} {x i:Operand} {dst:Option Tmp} {pos:String} {after:Array Edge} {gd:Option (Nat × Bool)}
  (hR:R C.toCtx F g s w) (he:∀ x a,ρ x=some a→Rz g a (ev x)) (h:bF C (.index t x i) ρ K) :
  OutS C F g s K ((execOp ev ⟨dst,.index t x i,ty,pos,after,gd⟩).run C.P w):=by
 simp only[bF] at h;split at h
 ·rename_i str k n ti ha hi hti;have hiv:=(he i _ hi).int_inv;have hv:=(he x _ ha).str_inv;obtain ⟨d,hd,hok⟩:=iM hti;simp only[execOp];split at h
  ·rename_i hk;obtain ⟨⟨h0,h1⟩,h⟩:=h;rw[hk] at hok;simp only[TK.ok] at hok;subst hok;have hel:str[n.toNat]?=some str[n.toNat]:=cH h1;rw[hel] at h;refine eW (v:=.int .u8 str[n.toNat].toNat) hR ?_ (.int _ _) h
   have e1:(ByteArray.mk str.toArray)[n.toNat]?=some str[n.toNat]:=by
    have hs:n.toNat<(ByteArray.mk str.toArray).size:=by simpa [ByteArray.size] using h1
    rw[getElem?_pos (ByteArray.mk str.toArray) n.toNat hs];rfl
   simp only[Instr.index,hiv,asIntOf,bH,bX,bJ,dV hd,hv,h0,↓reduceIte,e1]
  ·exact h.elim
 ·exact h.elim
theorem aPc {c:Call} {ty:TypeId} {dst:Option Tmp} {pos:String} {after:Array Edge} {gd:Option (Nat × Bool)}
  (hR:R C.toCtx F g s w) (he:∀ x a,ρ x=some a→Rz g a (ev x)) (h:bF C (.call c) ρ K) :
  OutS C F g s K ((execOp ev ⟨dst,.call c,ty,pos,after,gd⟩).run C.P w):=by
 obtain ⟨cal,args,ats⟩:=c;obtain ⟨args⟩:=args;obtain ⟨ats⟩:=ats;simp only[bF] at h;split at h
 ·rename_i x t;split at h
  ·rename_i a ti hx hti;obtain ⟨d,hd,hok⟩:=iM hti;split at h
   ·rename_i hk;rw[hk] at hok;simp only[TK.ok] at hok;subst hok;cases a<;>simp only at h
    rename_i str;have hv:=(he x _ hx).str_inv;have e1:(ByteArray.mk str.toArray).size=str.length:=by simp[ByteArray.size]
    simp only[execOp,resolve,invoke,builtin,bH,bX,bJ,kJ,bK,bQ,hv];simp only[Builtin.len_,nU,kI,bH,dV hd,bJ,bX,goInt,e1];exact OutS.val hR (.int _ _) h
   ·rename_i e hk;rw[hk] at hok;simp only[TK.ok] at hok;subst hok;cases a<;>simp only[iP] at h
    ·have hv:=(he x _ hx).nils_inv;simp only[execOp,resolve,invoke,builtin,bH,bX,bJ,kJ,bK,bQ,hv];simp only[Builtin.len_,nU,kI,bH,dV hd,bJ,bX,goInt];exact OutS.val hR (.int _ _) h
    ·obtain ⟨ad,cap,hv,_⟩:=(he x _ hx).list_inv;simp only[execOp,resolve,invoke,builtin,bH,bX,bJ,kJ,bK,bQ,hv];simp only[Builtin.len_,nU,kI,bH,dV hd,bJ,bX,goInt];exact OutS.val hR (.int _ _) h
    rotate_left
    ·obtain ⟨a,hv⟩:=(he x _ hx).emp_inv;simp only[execOp,resolve,invoke,builtin,bH,bX,bJ,kJ,bK,bQ,hv];simp only[Builtin.len_,nU,kI,bH,dV hd,bJ,bX,goInt];exact OutS.val hR (.int _ _) h
    ·obtain ⟨k,hv,_⟩:=(he x _ hx).mg_inv;simp only[execOp,resolve,invoke,builtin,bH,bX,bJ,kJ,bK,bQ,hv];simp only[Builtin.len_,nU,kI,bH,dV hd,bJ,bX,goInt];exact OutS.val hR (.int _ _) h
    ·obtain ⟨k,cap,hv,_⟩:=(he x _ hx).ml_inv;simp only[execOp,resolve,invoke,builtin,bH,bX,bJ,kJ,bK,bQ,hv];simp only[Builtin.len_,nU,kI,bH,dV hd,bJ,bX,goInt];exact OutS.val hR (.int _ _) h
   ·exact h.elim
  ·exact h.elim
 ·rename_i x;split at h
  ·rename_i tk y ys hx;obtain ⟨ad,cap,hv,hm,hc,_,hh⟩:=(he x _ hx).list_inv;have hr:=he x _ hx;rw[hv] at hr;rcases hh with hh|⟨bk,off,sz,pre,rfl,_⟩
   ·cases hh
   have hc0:cap≠0:=by simp at hc;omega
   simp only[execOp,resolve,invoke,builtin,bH,bX,bJ,kJ,bK,bQ,hv]
   have e0:(Builtin.unsafeSliceData_ ⟨ats⟩ ty #[.slice (some ⟨bk,off,none⟩) (y::ys).length cap]).run C.P w=.ok (.pointer (some ⟨bk,off,none⟩)) w:=by
    have e1:Builtin.unsafeSliceData_ ⟨ats⟩ ty #[.slice (some ⟨bk,off,none⟩) (y::ys).length cap]=(if cap≠0 then pure (.pointer (some ⟨bk,off,none⟩))
     else do if (← viewAt bk).isSome then pure (.pointer (some ⟨bk,off,none⟩)) else pure (.pointer (some ⟨← newObj (.view ⟨bk,off,none⟩ (← elemOf ty)),0,none⟩))):=rfl
    rw[e1,if_pos hc0];rfl
   rw[e0];exact OutS.val hR (.sd tk _ _ cap hc0 hr) h
  ·rename_i hx;have hv:=(he x _ hx).nils_inv;simp only[execOp,resolve,invoke,builtin,bH,bX,bJ,kJ,bK,bQ,hv];have e0:(Builtin.unsafeSliceData_ ⟨ats⟩ ty #[.slice none 0 0]).run C.P w=.ok (.pointer none) w:=rfl;rw[e0];exact OutS.val hR .nilp h
  ·exact h.elim
 ·rename_i x t;split at h
  ·rename_i ti hx hti;split at h
   ·rename_i e hk;obtain ⟨d,hd,hok⟩:=iM hti;rw[hk] at hok;simp only[TK.ok] at hok;subst hok;have hv:=(he x _ hx).nils_inv;simp only[execOp,resolve,invoke,builtin,bH,bX,bJ,kJ,bK,bQ,hv];have e0:(Builtin.cap_ ⟨[t]⟩ ty #[.slice none 0 0]).run C.P w=.ok (.int .i64 0) w:=by simp[Builtin.cap_,goInt,dV hd]
    rw[e0];exact OutS.val hR (.int _ _) h
   ·exact h.elim
  ·exact h.elim
 ·rename_i x y;split at h
  ·rename_i j a k b hx hy;have hv:=(he x _ hx).int_inv;have hu:=(he y _ hy).int_inv;simp only[execOp,resolve,invoke,builtin,bH,bX,bJ,kJ,bK,bQ,hv,hu];simp only[Builtin.max_,List.foldlM_cons,List.foldlM_nil,Builtin.max2,bH,bX,bJ,pure_bind];exact OutS.val hR (.int _ _) h
  ·exact h.elim
 ·rename_i x y;split at h
  ·rename_i j a k b hx hy;have hv:=(he x _ hx).int_inv;have hu:=(he y _ hy).int_inv;simp only[execOp,resolve,invoke,builtin,bH,bX,bJ,kJ,bK,bQ,hv,hu];simp only[Builtin.min_,List.foldlM_cons,List.foldlM_nil,Builtin.min2,bH,bX,bJ,pure_bind];exact OutS.val hR (.int _ _) h
  ·exact h.elim
 ·exact h.elim
end
end
end Go.AV
