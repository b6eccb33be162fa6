/-
  Of DefParses.
-/
import Derived.Test.YtamikhobdffnfaaGreatDoorPa15
import Derived.Test.YtamikhobdffnfaaGreatDoorPa10
set_option linter.all false
set_option maxRecDepth 99999
set_option maxHeartbeats 0
namespace Go.AV
open Go Go.Proofs Tryz
theorem aRN:cx.tt 36=some ⟨.struct [(0,1,false),(1,1,false),(2,1,false),(3,1,false)],4,40,[.int .i64 0,.str [],.int .i64 0,.int .i64 0]⟩:=rfl
noncomputable def fG:Cx:={ cx with det:=true }
theorem aCd (t:TypeId):fG.tt t=cx.tt t:=rfl
theorem aCA:fG.P=prog:=rfl
noncomputable def tR:Code:=match f40.body with
 | some (.seq _ c)=>c
 | _=>.skip
theorem aQY (s:St):Ex fG 14 tR (fun x _ s'=>x=.normal∧s'=s) [(5,.nili)] s:=by
 refine bV (V:=[0,2,3,4,5,6,7,8,9,10,11,12,13]) _ _ _ _ ?_;simp only[tR,f40];simp only[go_sem,List.map,Nat.reduceLT,Nat.reduceEqDiff,Nat.reduceBEq,Nat.reduceAdd,Nat.reduceLeDiff,Nat.reduceMul,reduceIte,hH,oB,List.elem,kA,pN,dT,fD,reduceCtorEq,bE,aF,aH,kI,List.getElem?_cons_succ,gU,Nat.add_zero,jZ,gQ,lV,lF,List.take_succ_cons,List.take_zero,List.drop_succ_cons,List.take_nil,Nat.succ_eq_add_one,rO,Int.toNat_zero,Nat.sub_zero,Nat.zero_lt_succ,fK,dY,cZ,cQ,aCd]
theorem aM9 (s:St) (t:TypeId) (cs:List A) (KV:St→A→Prop):wD fG s t cs KV=KV (s.newO (.cells t cs)) (.ptr s.lim 0):=rfl
theorem aQw (s:St) (b:Nat) (x0 x1 x2 x3 y0 y1 y2 y3:A) (hb:s.getO b=some (.cells 36 [y0,y1,y2,y3])) (hl:s.getO s.lim=none) (h0:x0.one=true) (h1:x1.one=true) (h2:x2.one=true) (h3:x3.one=true) :
  Ex fG 14 tR (fun x _ s'=>x=.normal∧s'.ge ((s.newO (.cells 36 [x0,x1,x2,x3])).setO b (.cells 36 [x0,x1,x2,x3]))∧s'.lim=s.lim+1) [(0,.ptr b 0),(5,.iface 36 (.agg [x0,x1,x2,x3]))] s:=by
 have hne:¬ s.lim=b:=by rintro rfl;rw[hb] at hl;cases hl
 refine bV (V:=[0,2,3,4,5,6,7,8,9,10,11,12,13]) _ _ _ _ ?_;simp only[tR,f40];simp only[go_sem,List.map,Nat.reduceLT,Nat.reduceEqDiff,Nat.reduceBEq,Nat.reduceAdd,Nat.reduceLeDiff,Nat.reduceMul,reduceIte,hH,oB,List.elem,kA,pN,dT,fD,reduceCtorEq,bE,aF,aH,kI,List.getElem?_cons_succ,gU,Nat.add_zero,jZ,gQ,lV,lF,List.take_succ_cons,List.take_zero,List.drop_succ_cons,List.take_nil,Nat.succ_eq_add_one,rO,Int.toNat_zero,Nat.sub_zero,Nat.zero_lt_succ,fK,dY,cZ,cQ,aCd,h0,h1,h2,h3];rw[aM9];simp only[go_sem,List.map,Nat.reduceLT,Nat.reduceEqDiff,Nat.reduceBEq,Nat.reduceAdd,Nat.reduceLeDiff,Nat.reduceMul,reduceIte,hH,oB,List.elem,kA,pN,dT,fD,reduceCtorEq,bE,aF,aH,kI,List.getElem?_cons_succ,gU,Nat.add_zero,jZ,gQ,lV,lF,List.take_succ_cons,List.take_zero,List.drop_succ_cons,List.take_nil,Nat.succ_eq_add_one,rO,Int.toNat_zero,Nat.sub_zero,Nat.zero_lt_succ,fK,dY,cZ,cQ,aCd,h0,h1,h2,h3,xC,hne,hb,↓reduceIte];have ho:(x0.one&&(x1.one&&(x2.one&&x3.one)))=true:=by rw[h0,h1,h2,h3];rfl
 refine ⟨ho,ho,?_⟩;refine ⟨⟨fun c o hc=>?_,fun u n hu=>hu,fun _ hx=>hx⟩,rfl⟩;rw[aJ,xC] at hc;rw[aJ,aJ,xC];by_cases e1:b=c
 ·simpa only[e1,↓reduceIte] using hc
 ·simp only[e1,↓reduceIte] at hc ⊢;by_cases e2:s.lim=c
  ·simpa only[e2,↓reduceIte] using hc
  ·simpa only[e2,↓reduceIte] using hc
theorem aAF : f40.body = some (.seq (.region 0 #[⟨some 5,.call ⟨.builtin .recover,#[],#[]⟩,20,"parse.go:505",#[],none⟩] false) tR) := rfl
theorem aCD (a:Act) (w:World):(results f40 a.tmps).run fG.P w=.ok (.tuple #[]) w:=by
 have e0:results f40 a.tmps=(do let vs ← (#[]:Array ResultVar).mapM (tI a.tmps);pure (if h:vs.size=1 then vs[0] else .tuple vs)):=rfl;rw[e0];simp
theorem aCj {P:Program} {Q:Exit→Act→List Frame→World→Prop} {a:Act} {cs:List Frame} {w:World}
  (h : match recoverD cs with
   | some (v,cs')=>Q .normal (a.put (some 5) v) cs' w
   | none=>Q .normal (a.put (some 5) .nilIface) cs w) :
  (Code.region 0 #[⟨some 5,.call ⟨.builtin .recover,#[],#[]⟩,20,"parse.go:505",#[],none⟩] false).wpS P Q a cs w := by
 refine wpS_region ?_;have hr : List.range (#[(⟨some 5,.call ⟨.builtin .recover,#[],#[]⟩,20,"parse.go:505",#[],none⟩ : Oper)]).size = [0] := rfl;rw [hr];unfold wpOpsS;have ho : (#[(⟨some 5,.call ⟨.builtin .recover,#[],#[]⟩,20,"parse.go:505",#[],none⟩ : Oper)])[0]? = some ⟨some 5,.call ⟨.builtin .recover,#[],#[]⟩,20,"parse.go:505",#[],none⟩ := rfl;rw [ho];simp only;rw [if_pos (by simp [Region.wanted])];have hx : (execOp a.eval ⟨some 5,.call ⟨.builtin .recover,#[],#[]⟩,20,"parse.go:505",#[],none⟩).run P w = .ok .recover w := rfl;rw [hx];simp only;cases hrec : recoverD cs with
 | none=>rw[hrec] at h;simp only;unfold wpOpsS;exact h
 | some x=>obtain ⟨v,cs'⟩:=x;rw[hrec] at h;simp only;unfold wpOpsS;exact h
theorem aJG {g:Gh} (vals:Array Value) (hv:vals.size=1):EnvOk g 14 [] (vals++Array.replicate (f40.ntmps-vals.size) undef) :=
 .nil (by rw[hv];simp[hv,f40])
theorem aNR:Catch fG 40 36 where
 quiet:=by
  intro F g s w p hR;refine callsD_of_wpS (fn:=f40) func40 aAF fun c₀ cs hu=>?_
  refine wpS_seq (aCj ?_);have hrec:recoverD (c₀::cs)=none:=by simp[recoverD,hu]
  rw[hrec];refine wpS_of_wp ?_;have hE:=(aJG (g:=g) #[p] rfl).put (a:=⟨_,[]⟩) (d:=5) (x:=.nili) (v:=.nilIface) (by decide) .nili;refine kT (fun ex a' w' hp=>?_) (aQY s F g w _ hR hE);obtain ⟨g',e',s',x,h1,h2,h3,h4,h5,rfl,rfl⟩:=hp;cases ex<;>try exact h5.elim
  refine ⟨h4,.returning,by rw[← hu],_,aCD a' w',⟨_,rfl⟩,rfl,g',h1,h2⟩
 loud:=by
  intro F g s w b k cs fs v hR hbk hb hv hl hti;obtain ⟨ti,hti,hsz⟩:=hti
  have h4:fs.length=4:=by
   rw[aCd,aRN] at hti;cases hti;exact hsz.symm
  obtain ⟨x0,x1,x2,x3,rfl⟩:∃ x0 x1 x2 x3,fs=[x0,x1,x2,x3]:=by
   match fs,h4 with
   | [x0,x1,x2,x3],_=>exact ⟨x0,x1,x2,x3,rfl⟩
  obtain ⟨y0,y1,y2,y3,rfl⟩:∃ x0 x1 x2 x3,cs=[x0,x1,x2,x3]:=by
   match cs,hl with
   | [x0,x1,x2,x3],_=>exact ⟨x0,x1,x2,x3,rfl⟩
  obtain ⟨vs,hv1,hv2,hone⟩:=hv.agg_inv;refine callsD_of_wpS (fn:=f40) func40 aAF fun c₀ cs hu=>?_
  refine wpS_seq (aCj ?_);have hrec:recoverD (c₀::cs)=some (.iface 36 v,{ c₀ with mode:=.panicking [{ v:=.iface 36 v,recovered:=true }] }::cs):=by simp[recoverD,hu]
  rw[hrec];refine wpS_of_wp ?_
  have hE0:EnvOk g 14 [(0,.ptr b 0)] (#[Value.pointer (some ⟨k,0,none⟩)]++Array.replicate (f40.ntmps-(#[Value.pointer (some ⟨k,0,none⟩)]).size) undef):=by
   refine ⟨by simp[f40],fun t a ha=>?_⟩;simp only[Env.get] at ha;split at ha
   ·rename_i ht;subst ht;cases ha;exact ⟨_,rfl,.ptr b 0 k hbk⟩
   ·cases ha
  have hE:=hE0.put (a:=⟨_,[]⟩) (d:=5) (x:=.iface 36 (.agg [x0,x1,x2,x3])) (v:=.iface 36 v) (by decide) (.iface 36 _ v hv);have hlim:s.getO s.lim=none:=hR.free (hR.dtm rfl s.lim (bE _)).1;refine kT (fun ex a' w' hp=>?_) (aQw s b x0 x1 x2 x3 y0 y1 y2 y3 hb hlim (hone x0 (by simp)) (hone x1 (by simp)) (hone x2 (by simp)) (hone x3 (by simp)) F g w _ hR hE);obtain ⟨g',e',s',x,h1,h2,h3,h4,h5,rfl,h6,h7⟩:=hp;cases ex<;>try exact h5.elim
  refine ⟨h4,.panicking [{ v:=.iface 36 v,recovered:=true }],rfl,_,aCD a' w',⟨_,rfl⟩,rfl,g',h1,h2.weaken h6 (fun _=>by rw[h7];exact bE _)⟩
end Go.AV
