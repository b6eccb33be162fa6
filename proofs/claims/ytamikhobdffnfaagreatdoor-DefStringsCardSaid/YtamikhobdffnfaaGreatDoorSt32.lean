/-
  DefStrings: for any term and any string the call returns true; nothing that was there is changed (where the listed package-level variables hold what the text of the program lays).
-/
import Derived.Test.YtamikhobdffnfaaGreatDoorSt27
import Derived.Test.YtamikhobdffnfaaGreatDoorSt28
import Derived.Test.YtamikhobdffnfaaGreatDoorSt29
import Derived.Test.YtamikhobdffnfaaGreatDoorSt30
import Derived.Test.YtamikhobdffnfaaGreatDoorSt31
import Derived.WideShapes
import Derived.Test.YtamikhobdffnfaaGreatDoorSt12
import Derived.Test.YtamikhobdffnfaaGreatDoorSt13
import Derived.ChangeMaps5
import Derived.ReadAgain
import Derived.SizedLaws
set_option linter.all false
set_option maxRecDepth 99999
set_option maxHeartbeats 0
namespace Go.AV
open Go Go.Proofs Tryz
def uZ (f:A→A→Bool):List A→List A→Bool
 | [],[]=>true
 | a::l,b::r=>match f a b with
  | true=>uZ f l r
  | false=>false
 | _,_=>false
def xN:Nat→A→A→Bool
 | 0,_,_=>false
 | n+1,a,b=>match a with
  | .int k x=>match b with
   | .int j y=>decide (k=j)&&decide (x=y)
   | _=>false
  | .str x=>match b with
   | .str y=>decide (x=y)
   | _=>false
  | .nils=>match b with
   | .nils=>true
   | _=>false
  | .agg l=>match b with
   | .agg r=>uZ (xN n) l r
   | _=>false
  | .list none l=>match b with
   | .list none r=>uZ (xN n) l r
   | _=>false
  | _=>false
theorem zQ {f:A→A→Bool} (hf:∀ a b,f a b=true→a=b):∀ {l r:List A},uZ f l r=true→l=r
 | [],[],_=>rfl
 | a::l,b::r,h=>by
  simp only[uZ] at h;split at h
  ·rename_i e;rw[hf a b e,zQ hf h]
  ·cases h
 | [],_::_,h=>by cases h
 | _::_,[],h=>by cases h
theorem aGP:∀ (n:Nat) (a b:A),xN n a b=true→a=b
 | 0,_,_,h=>by cases h
 | n+1,a,b,h=>by
  have ih:=aGP n;unfold xN at h;split at h<;>(try (cases h;done))<;>split at h<;>(try (cases h;done))
  ·simp only[aZ,cG] at h;rw[h.1,h.2]
  ·rw[qE h]
  ·rfl
  ·rw[zQ ih h]
  ·rw[zQ ih h]
theorem aMs {xs:List A} (hx:fW (dK 60) xs=some xs):∀ x,x∈xs→x.lp x:=fun x hx'=>by
 obtain ⟨j,hj,rfl⟩:=fQ hx';obtain ⟨y,h1,h2⟩:=(oL hx).2 j xs[j] (bK hj);rw[bK hj] at h1;cases h1;exact oQ 60 _ _ h2
def lF (xs:List A) (r:A) (k:CR) (l:List A) (σ:XS):CR:=match uZ (xN 60) l xs with
 | true=>.val r σ
 | false=>k
theorem mU {f:FuncId} {xs:List A} {r:A} {k:CR} (hx:fW (dK 60) xs=some xs) (hr:dK 60 r=some r) (h:∀ (s:St) (KV Kp:St→A→Prop),KV s r→Den cx f xs KV Kp s)
  {l:List A} {σ:XS} {s:St} {KV Kp:St→A→Prop} (hs:Sim s σ) (hk:k.to KV Kp→Den dL f l KV Kp s) (hh:(lF xs r k l σ).to KV Kp):Den dL f l KV Kp s:=by
 unfold lF at hh;split at hh
 ·rename_i e;have e':=zQ (aGP 60) e;subst e';exact aGR (aMs hx) (oQ 60 _ _ hr) (fun KV Kp s hk=>h s KV Kp hk) (hh s hs)
 ·exact hk hh
def aPW:aB:=[108,97,110,103,117,97,103,101,32,101,46,32,115,111,114,116]
def aPp:aB:=[108,97,110,103,117,97,103,101,32,101,46,10,115,111,114,116,32,65,32,66,46]
def aPo:aB:=[102,40,88,58,73,110,116,44,32,91,45,49,32,124,32,76,93,41]
def aPV:aB:=[45,32,53]
def aPi:aB:=[108,97,110,103,117,97,103,101,32,101,46,32,115,116,97,114,116,32,65,46,32,115,116,97,114,116,32,66,46]
def aNE (l:List A) (σ:XS):CR:=lF [.str awS] (.tuple [kC.enc,Fault.enc ⟨0,[],0,0⟩]) (lF [.str aPW] (.tuple [eV.enc,Fault.enc ⟨12,[],1,17⟩]) (lF [.str aPp] (.tuple [eV.enc,Fault.enc ⟨11,[66],2,8⟩])
 (lF [.str aPi] (.tuple [eV.enc,Fault.enc ⟨14,[115,116,97,114,116],1,22⟩]) .bad l σ) l σ) l σ) l σ
def aOq (l:List A) (σ:XS):CR:=lF [.str aPo] (.tuple [awT.enc,Fault.enc ⟨0,[],0,0⟩]) (lF [.str aPV] (.tuple [oT.enc,Fault.enc ⟨11,[53],1,3⟩]) .bad l σ) l σ
def aOD (l:List A) (σ:XS):CR:=lF [kC.enc] (.tuple [.str aG5,.int .i64 0]) .bad l σ
def aOC (l:List A) (σ:XS):CR:=lF [kC.enc] (.bool true) .bad l σ
def aNt (l:List A) (σ:XS):CR:=lF [kC.enc,.str [97],.str [98]] (.tuple [.agg awR,.int .i64 0]) (lF [kC.enc,.str [73,110,116],.str [98]] (.tuple [.agg awZ,.int .i64 2]) .bad l σ) l σ
def aNy (l:List A) (σ:XS):CR:=lF [kC.enc,kC.enc] (.bool true) (lF [kC.enc,.agg awR] (.bool false) .bad l σ) l σ
def aAA (f:FuncId):Option (List A→XS→CR):=match Nat.beq f 15 with
 | true=>some aNE
 | false=>match Nat.beq f 18 with
  | true=>some aOq
  | false=>match Nat.beq f 23 with
   | true=>some aOD
   | false=>match Nat.beq f 25 with
    | true=>some aOC
    | false=>match Nat.beq f 27 with
     | true=>some aNt
     | false=>match Nat.beq f 30 with
      | true=>some aNy
      | false=>xC f
theorem zT {x:aB} {d:Dfn} {g:Fault} (h:qQ x=(d,g)) (hx:x.length≤4294967280) (s:St) (KV Kp:St→A→Prop) (hk:KV s (.tuple [d.enc,g.enc])):Den cx 15 [.str x] KV Kp s :=
 aJR x hx (by rw[h];exact hk)
theorem aHh {x:aB} {d:Tm} {g:Fault} (h:qV x=(d,g)) (hx:x.length≤4294967280) (s:St) (KV Kp:St→A→Prop) (hk:KV s (.tuple [d.enc,g.enc])):Den cx 18 [.str x] KV Kp s :=
 aE5 x hx (by rw[h];exact hk)
theorem aMt:uO dL aAA:=by
 intro f h hf l σ s KV Kp hs hh;have bad:(CR.bad).to KV Kp→Den dL f l KV Kp s:=fun h=>h.elim
 unfold aAA at hf;split at hf
 ·rename_i e;obtain rfl:=bH e;cases hf
  exact mU (by kernel_rfl) (by kernel_rfl) (zT aPc (by decide)) hs (mU (by kernel_rfl) (by kernel_rfl) (zT aPu (by decide)) hs (mU (by kernel_rfl) (by kernel_rfl) (zT aPI (by decide)) hs
   (mU (by kernel_rfl) (by kernel_rfl) (zT aPy (by decide)) hs bad))) hh
 split at hf
 ·rename_i e;obtain rfl:=bH e;cases hf;exact mU (by kernel_rfl) (by kernel_rfl) (aHh aPP (by decide)) hs (mU (by kernel_rfl) (by kernel_rfl) (aHh aPO (by decide)) hs bad) hh
 split at hf
 ·rename_i e;obtain rfl:=bH e;cases hf;exact mU (by kernel_rfl) (by kernel_rfl) aPh hs bad hh
 split at hf
 ·rename_i e;obtain rfl:=bH e;cases hf;exact mU (by kernel_rfl) (by kernel_rfl) aO6 hs bad hh
 split at hf
 ·rename_i e;obtain rfl:=bH e;cases hf;exact mU (by kernel_rfl) (by kernel_rfl) aPJ hs (mU (by kernel_rfl) (by kernel_rfl) aOh hs bad) hh
 split at hf
 ·rename_i e;obtain rfl:=bH e;cases hf;exact mU (by kernel_rfl) (by kernel_rfl) aO3 hs (mU (by kernel_rfl) (by kernel_rfl) aN5 hs bad) hh
 exact aGi f h hf l σ s KV Kp hs hh
theorem vV (s:St) (KV Kp:St→A→Prop) (hk:KV s (.bool true)):Den cx 14 [] KV Kp s:=by
 have hX:(iS aAA).ok { cx with det:=true }:=aCS aMt;exact Den.run (X:=iS aAA) (fuel:=1000000) true hX wS rfl (by kernel_rfl) hk
theorem aNe (t:Tm) (hw:TmW t) (s:St) (KV Kp:St→A→Prop) (hk:∀ b:Bool,(b=true→t.cnt≤2500)→KV s (.bool b)):Den cx 33 [.int .i64 2500,.list none [.agg t.cs]] KV Kp s:=by
 have h:=aMv [t] (fun x hx=>by rw[cY.1 hx];exact hw) s KV Kp (fun b hb=>hk b (fun e=>by have:=hb e;simpa [fG] using this));rw[bU,bD,bY] at h;exact h
theorem aI4 (t:Tm) (hw:TmW t) (s:St) (KV Kp:St→A→Prop) (hk:KV s (.bool true)):Den cx 12 [t.enc] KV Kp s:=by
 simp only[go_sem];(refine aO func12 [0,1,2,3,4,5,6,14,22] ?_;simp only[go_sem,ntmps12,f12]);(intro p hp;try simp only[aL,ne_eq] at hp);simp only[go_sem,hp];refine aNe t hw _ _ _ (fun b hb=>?_);simp only[go_sem,hp];cases b with
 | false =>
  simp only[go_sem,hp];refine vV _ _ _ ?_;simp only[go_sem,hp];exact aH hk cN
 | true =>
  have hc:t.cnt≤2500:=hb rfl;simp only[go_sem,hp];refine aId _ t _ _ _ (fK _) (by omega) hw ?_;cases hr:t.rsv with
  | true =>
   simp only[go_sem,hp];refine vV _ _ _ ?_;simp only[go_sem,hp];exact aH hk cN
  | false =>
   simp only[go_sem,hp];refine aJh t hw _ _ _ (fun h=>?_) ?_
   ·obtain ⟨m,hm⟩:=Option.isSome_iff_exists.1 h;obtain ⟨g1,g2⟩:=aCI 60 t 0 m hm hr;have h1:=aME 60 t 0 m g1 g2;have h2:=aCK 60 t 0 m hm;exact ⟨g1,by omega,aNT g1⟩
   cases hv:Tm.val 60 t 0 with
   | none =>
    simp only[go_sem,hp,Option.isSome];refine vV _ _ _ ?_;simp only[go_sem,hp];exact aH hk cN
   | some m =>
    obtain ⟨g1,g2⟩:=aCI 60 t 0 m hv hr;by_cases hl:t.wr.length≤20000
    ·simp only[go_sem,hp,Option.isSome,hl];refine aE5 t.wr (by omega) ?_;rw[aIR g1 g2 hl];simp only[go_sem,hp];(intro q hq;try simp only[aL,ne_eq] at hq);simp only[go_sem,hp,hq];(intro q2 hq2;try simp only[aL,ne_eq] at hq2);simp only[go_sem,hp,hq,hq2];simp only[go_sem,hp,hq,hq2,List.lookup,Fault.none,eq_self,oH,Bool.and_self];refine aIP t t _ _ _ ?_;rw[Tm.same_self];simp only[go_sem,hp,hq,hq2];refine vV _ _ _ ?_;simp only[go_sem,hp,hq,hq2];exact aH hk cN
    ·simp only[go_sem,hp,Option.isSome,hl];refine vV _ _ _ ?_;simp only[go_sem,hp];exact aH hk cN
section
mutual
def A.bulk:A→Nat
 | .str x=>x.length
 | .list _ es=>mV es
 | .agg cs=>jL cs
 | _=>0
def mV:List A→Nat
 | []=>0
 | a::r=>A.bulk a+1+mV r
def jL:List A→Nat
 | []=>0
 | a::r=>A.bulk a+jL r
end
theorem aIo (a:A):jL a.cells=a.bulk:=by
 cases a<;>simp[A.cells,jL,A.bulk]
theorem aD2:∀ l r:List A,jL (l++r)=jL l+jL r
 | [],r=>by simp[jL]
 | a::l,r=>by simp[jL,aD2 l r,lS]
theorem aDZ:∀ l r:List A,mV (l++r)=mV l+mV r
 | [],r=>by simp[mV]
 | a::l,r=>by simp[mV,aDZ l r,lS]
theorem aD9 {H:Type}:∀ l r:List (DataW H),YtamikhobdffnfaaGreatDoor.Rows.uptoBulkAll (l++r)=YtamikhobdffnfaaGreatDoor.Rows.uptoBulkAll l+YtamikhobdffnfaaGreatDoor.Rows.uptoBulkAll r
 | [],r=>by simp[YtamikhobdffnfaaGreatDoor.Rows.uptoBulkAll]
 | a::l,r=>by simp[YtamikhobdffnfaaGreatDoor.Rows.uptoBulkAll,aD9 l r,lS]
mutual
def A.wm:A→Nat
 | .str x=>x.length
 | .list _ es=>max es.length (fO es)
 | .agg cs=>fO cs
 | _=>0
def fO:List A→Nat
 | []=>0
 | a::r=>max (A.wm a) (fO r)
end
theorem aEa (a:A):fO a.cells=a.wm:=by
 cases a<;>simp[A.cells,fO,A.wm]
theorem aBN:∀ l r:List A,fO (l++r)=max (fO l) (fO r)
 | [],r=>by simp[fO]
 | a::l,r=>by simp[fO,aBN l r,Nat.max_assoc]
theorem aFb {H:Type} {P:Program} {e:TypeId}:∀ l r:List (DataW H),DataW.weightsAll P e (l++r)=DataW.weightsAll P e l++DataW.weightsAll P e r
 | [],r=>by simp[DataW.weightsAll]
 | a::l,r=>by simp[DataW.weightsAll,aFb l r]
section
variable {H:Type} {enc:TypeId × Value→H} {P:Program} {W:World} {base:Nat} {spare:Nat→Bool} {held:Bool} {g:Gh}
def aAc (g:Gh) (W:World):Prop:=∀ b cs e fr,W.heap[b]?=some (.cells cs e fr)→g.pi b=some cs.toList
def Cl (g:Gh) (l:List A) (cs:List Value):Prop:=l.length=cs.length∧∀ (j:Nat) (c:A) (v:Value),l[j]?=some c→cs[j]?=some v→Rz g c v
theorem Cl.nil:Cl g [] []:=⟨rfl,fun j c v h=>by cases h⟩
theorem Cl.app {l r:List A} {cs ds:List Value} (h1:Cl g l cs) (h2:Cl g r ds):Cl g (l++r) (cs++ds):=by
 refine ⟨by rw[aK,aK,h1.1,h2.1],fun j c v hc hv=>?_⟩;by_cases hj:j<l.length
 ·rw[jR hj] at hc;rw[jR (by rw[← h1.1];exact hj)] at hv;exact h1.2 j c v hc hv
 ·rw[nI (by omega)] at hc;rw[nI (by rw[← h1.1];omega),← h1.1] at hv;exact h2.2 _ c v hc hv
theorem Cl.one {a:A} {v:Value} (h:Rz g a v):Cl g [a] [v]:=⟨rfl,fun j c w hc hw=>by
 cases j with
 | zero=>cases hc;cases hw;exact h
 | succ j=>cases hc⟩
theorem aMP (S:ByteArray):Rz g (.str S.data.toList) (.string S):=by
 have h:=Rz.str (g:=g) S.data.toList;have e:(⟨S.data.toList.toArray⟩:ByteArray)=S:=by cases S;simp
 rw[e] at h;exact h
def pU (enc:TypeId × Value→H) (P:Program) (W:World) (base:Nat) (spare:Nat→Bool) (held:Bool) (g:Gh) (n:Nat) (t:TypeId) (Q:List A→Prop):Prop :=
 ∀ fuel,fuel≤n→∀ cs y,DataW.trod enc P W base spare held fuel t cs=some y→∃ l,Q l∧cs.length=P.cellsOf t∧Cl g l cs∧jL l+1≤YtamikhobdffnfaaGreatDoor.Rows.uptoBulk y.1∧∀ N,(∀ n,n∈DataW.weights P t y.1→n≤N)→fO l≤N
def zP (P:Program):Nat→List Field→Bool
 | _,[]=>true
 | o,f::r=>Nat.beq f.offset o&&zP P (o+P.cellsOf f.type) r
def xB (P:Program):List Field→Nat
 | []=>0
 | f::r=>P.cellsOf f.type+xB P r
inductive Each:List (List A→Prop)→List (List A)→Prop
 | nil:Each [] []
 | cons {Q:List A→Prop} {l:List A} {Qs:List (List A→Prop)} {ls:List (List A)} (h:Q l) (t:Each Qs ls):Each (Q::Qs) (l::ls)
inductive OpQs (enc:TypeId × Value→H) (P:Program) (W:World) (base:Nat) (spare:Nat→Bool) (held:Bool) (g:Gh) (n:Nat):List Field→List (List A→Prop)→Prop
 | nil:OpQs enc P W base spare held g n [] []
 | cons {f:Field} {Q:List A→Prop} {fs:List Field} {Qs:List (List A→Prop)} (h:pU enc P W base spare held g n f.type Q) (t:OpQs enc P W base spare held g n fs Qs):OpQs enc P W base spare held g n (f::fs) (Q::Qs)
theorem aEe {n fuel:Nat} (hf:fuel≤n):∀ {fs:List Field} {Qs:List (List A→Prop)} {o:Nat} {cs:List Value} {xs:List (DataW H × List MemPlace)},OpQs enc P W base spare held g n fs Qs→zP P o fs=true→cs.length=o+xB P fs →
  fs.mapM (fun f=>DataW.trod enc P W base spare held fuel f.type ((cs.drop f.offset).take (P.cellsOf f.type)))=some xs→∃ ls,Each Qs ls∧Cl g ls.flatten (cs.drop o)∧jL ls.flatten≤YtamikhobdffnfaaGreatDoor.Rows.uptoBulkAll (xs.map (·.1))∧∀ N,(∀ n,n∈DataW.weightsEach P (fs.map (·.type)) (xs.map (·.1))→n≤N)→fO ls.flatten≤N
 | [],_,o,cs,xs,.nil,_,hl,_=>⟨[],.nil,by
   have:cs.drop o=[]:=rI (by simp only[xB] at hl;omega);rw[this];exact Cl.nil,by simp[jL],fun N _=>by simp[fO]⟩
 | f::fs,_,o,cs,xs,.cons h t,hch,hl,hm=>by
  simp only[zP,aZ] at hch;obtain ⟨ho,hch⟩:=hch
  replace ho:=bH ho
  rw[List.mapM_cons] at hm;cases h1:DataW.trod enc P W base spare held fuel f.type ((cs.drop f.offset).take (P.cellsOf f.type)) with
  | none=>rw[h1] at hm;cases hm
  | some y =>
   rw[h1] at hm;cases h2:fs.mapM (fun f=>DataW.trod enc P W base spare held fuel f.type ((cs.drop f.offset).take (P.cellsOf f.type))) with
   | none=>rw[h2] at hm;cases hm
   | some ys =>
    rw[h2] at hm;cases hm;obtain ⟨l,hQ,hlen,hc,hb1,hw1⟩:=h fuel hf _ _ h1;simp only[xB] at hl;obtain ⟨ls,hE,hcs,hb2,hw2⟩:=aEe hf t hch (by omega) h2
    refine ⟨l::ls,.cons hQ hE,?_,by rw[List.flatten_cons,aD2,bU];simp only[YtamikhobdffnfaaGreatDoor.Rows.uptoBulkAll];omega,fun N hN=>by
     rw[List.flatten_cons,aBN];simp only[bU,DataW.weightsEach,gX] at hN;exact Nat.max_le.2 ⟨hw1 N (fun n hn=>hN n (.inl hn)),hw2 N (fun n hn=>hN n (.inr hn))⟩⟩
    have e:cs.drop o=(cs.drop f.offset).take (P.cellsOf f.type)++cs.drop (o+P.cellsOf f.type):=by
     rw[ho,← pC,List.take_append_drop]
    rw[e,List.flatten_cons];exact hc.app hcs
theorem aJf {n:Nat} {t:TypeId} {fs:Array Field} {Qs:List (List A→Prop)} {Q:List A→Prop} (ht:P.underlying t=some (.struct fs)) (hch:zP P 0 fs.toList=true) (hsz:P.cellsOf t=xB P fs.toList)
  (h:OpQs enc P W base spare held g n fs.toList Qs) (hQ:∀ ls,Each Qs ls→Q ls.flatten):pU enc P W base spare held g (n+1) t Q:=by
 intro fuel hf cs y hy;cases fuel with
 | zero=>cases hy
 | succ fuel =>
  unfold DataW.trod at hy;rw[ht] at hy;simp only at hy;split at hy
  ·rename_i hl;cases hm:fs.toList.mapM (fun f=>DataW.trod enc P W base spare held fuel f.type ((cs.drop f.offset).take (P.cellsOf f.type))) with
   | none=>rw[hm] at hy;cases hy
   | some xs =>
    rw[hm] at hy;cases hy;obtain ⟨ls,hE,hc,hb,hw⟩:=aEe (by omega) h hch (by omega) hm;rw[sX] at hc;exact ⟨_,hQ ls hE,hl,hc,by simp only[YtamikhobdffnfaaGreatDoor.Rows.uptoBulk];omega,fun N hN=>hw N (fun n hn=>hN n (by simp only[DataW.weights,ht];exact hn))⟩
  ·cases hy
theorem aF8 {n:Nat} {t:TypeId} {k:IntKind} (ht:P.underlying t=some (.int k)) (hc:P.cellsOf t=1):pU enc P W base spare held g n t (fun l=>∃ i:Int,(Lit.int k i).wf=true∧l=[.int k i]):=by
 intro fuel hf cs y hy;cases fuel with
 | zero=>cases hy
 | succ fuel =>
  unfold DataW.trod at hy;rw[ht] at hy;simp only at hy;split at hy<;>try (cases hy;done)
  all_goals (rename_i heq;try (cases heq;done))
  all_goals (cases heq;split at hy<;>try (cases hy;done))
  rename_i hh;obtain ⟨rfl,hw⟩:=hh;cases hy;exact ⟨_,⟨_,hw,rfl⟩,hc.symm,Cl.one (.int _ _),by simp[jL,A.bulk,YtamikhobdffnfaaGreatDoor.Rows.uptoBulk],fun N _=>by simp[fO,A.wm]⟩
theorem aGc {n:Nat} {t:TypeId} (ht:P.underlying t=some .string) (hc:P.cellsOf t=1):pU enc P W base spare held g n t (fun l=>∃ x:List UInt8,x.length≤maxLen∧l=[.str x]):=by
 intro fuel hf cs y hy;cases fuel with
 | zero=>cases hy
 | succ fuel =>
  unfold DataW.trod at hy;rw[ht] at hy;simp only at hy;split at hy<;>try (cases hy;done)
  all_goals (rename_i heq;try (cases heq;done))
  all_goals (split at hy<;>try (cases hy;done))
  rename_i hh;cases hy
  exact ⟨_,⟨_,by simpa using hh,rfl⟩,hc.symm,Cl.one (aMP _),by simp[jL,A.bulk,YtamikhobdffnfaaGreatDoor.Rows.uptoBulk],fun N hN=>by
   simp only[DataW.weights,cY] at hN;have:=hN _ rfl;simpa [fO,A.wm] using this⟩
theorem aB1 {α β:Type} {f:α→Option β}:∀ {l:List α} {r:List β},l.mapM f=some r→r.length=l.length∧∀ (j:Nat) (x:α),l[j]?=some x→∃ y,r[j]?=some y∧f x=some y
 | [],r,h=>by
  rw[List.mapM_nil] at h;cases h;exact ⟨rfl,fun j x h=>by cases h⟩
 | a::l,r,h=>by
  rw[List.mapM_cons] at h;cases h1:f a with
  | none=>rw[h1] at h;cases h
  | some b =>
   rw[h1] at h;cases h2:l.mapM f with
   | none=>rw[h2] at h;cases h
   | some bs =>
    rw[h2] at h;cases h;obtain ⟨hl,hg⟩:=aB1 h2;refine ⟨by simp[hl],fun j x hx=>?_⟩;cases j with
    | zero=>cases hx;exact ⟨b,rfl,h1⟩
    | succ j=>exact hg j x hx
theorem aJH {a:Addr} {n:Nat} {cs:List Value} (h:W.cells? base a n=some cs):cs.length=n∧∀ (j:Nat) (v:Value),cs[j]?=some v→W.cell? (a.add j)=some v:=by
 unfold World.cells? at h;split at h
 ·obtain ⟨hl,hg⟩:=aB1 h;rw[List.length_range] at hl;refine ⟨hl,fun j v hv=>?_⟩;have hj:j<n:=by rw[← hl];exact (dH.1 hv).1
  obtain ⟨y,h1,h2⟩:=hg j j (by rw[List.getElem?_range hj]);rw[hv] at h1;cases h1;exact h2
 ·cases h
theorem aFg {a:Addr} {v:Value} (h:W.cell? a=some v):∃ c e fr,W.heap[a.block]?=some (.cells c e fr)∧a.spot=none∧c.toList[a.off]?=some v:=by
 unfold World.cell? at h;split at h
 ·rename_i c e fr hb;split at h
  ·cases h
  ·rename_i hs;refine ⟨c,e,fr,hb,by simpa using hs,by simpa using h⟩
 ·cases h
theorem aJ7 {α:Type} {n:Nat} {t e:TypeId} {en:α→A} {R:α→Prop} (ht:P.underlying t=some (.slice e)) (hc:P.cellsOf t=1) (hk:aAc g W) (h:pU enc P W base spare held g n e (fun l=>∃ x,R x∧l=(en x).cells))
  (hsz:∀ x,(en x).cells.length=P.cellsOf e) (h1:∀ x c,c∈(en x).cells→c.one=true) (hpos:0<P.cellsOf e) (hby:0<P.bytesOf e):pU enc P W base spare held g (n+1) t (fun l=>∃ xs:List α,(∀ x,x∈xs→R x)∧xs.length≤maxLen∧l=[.list none (xs.map en)]):=by
 intro fuel hf cs y hy
 have one:∀ {v:Value} {xs:List α},Rz g (.list none (xs.map en)) v→Cl g [.list none (xs.map en)] [v]:=fun hr=>⟨rfl,fun j c v hc hv=>by
  cases j with
  | zero=>cases hc;cases hv;exact hr
  | succ j=>cases hc⟩
 cases fuel with
 | zero=>cases hy
 | succ fuel =>
  unfold DataW.trod at hy;rw[ht] at hy;simp only at hy;split at hy<;>try (cases hy;done)
  all_goals (rename_i heq;try (cases heq;done))
  ·cases hy;exact ⟨_,⟨[],fun x h=>(by cases h),bS _,rfl⟩,hc.symm,Cl.one (.list0 none none 0 (bS _) (fun t h=>by cases h)),by simp[jL,A.bulk,mV,YtamikhobdffnfaaGreatDoor.Rows.uptoBulk],fun N _=>by simp[fO,A.wm]⟩
  ·rename_i a len cap;cases heq;split at hy<;>try (cases hy;done)
   rename_i hh;obtain ⟨hb,hlc,hcm⟩:=hh;cases hm:(List.range len).mapM (fun i=>(W.cells? base (a.add (i * P.cellsOf e)) (P.cellsOf e)).bind (DataW.trod enc P W base spare held fuel e)) with
   | none=>rw[hm] at hy;cases hy
   | some ys =>
    obtain ⟨hl,hg⟩:=aB1 hm;rw[List.length_range] at hl;rw[hm] at hy;obtain ⟨rest,_,rfl⟩:=jJ.1 (show Option.map _ _=some y from hy)
    have hel:∀ i,i<len→∃ (x:α) (cs:List Value) (y:DataW H × List MemPlace),ys[i]?=some y∧((en x).bulk+1≤YtamikhobdffnfaaGreatDoor.Rows.uptoBulk y.1∧∀ N,(∀ n,n∈DataW.weights P e y.1→n≤N)→(en x).wm≤N)∧R x∧W.cells? base (a.add (i * P.cellsOf e)) (P.cellsOf e)=some cs∧Cl g (en x).cells cs:=by
     intro i hi;obtain ⟨y,hyi,h2⟩:=hg i i (by rw[List.getElem?_range hi]);cases hcs:W.cells? base (a.add (i * P.cellsOf e)) (P.cellsOf e) with
     | none=>rw[hcs] at h2;cases h2
     | some cs =>
      rw[hcs] at h2;obtain ⟨_,⟨x,hx,rfl⟩,_,hcl,hb,hw⟩:=h fuel (by omega) cs y h2;rw[aIo] at hb;rw[aEa] at hw;exact ⟨x,cs,y,hyi,⟨hb,hw⟩,hx,rfl,hcl⟩
    have hxs:∀ k,k≤len→∃ xs:List α,(xs.length=k∧mV (xs.map en)≤YtamikhobdffnfaaGreatDoor.Rows.uptoBulkAll ((ys.take k).map (·.1))∧∀ N,(∀ n,n∈DataW.weightsAll P e ((ys.take k).map (·.1))→n≤N)→fO (xs.map en)≤N)∧∀ (i:Nat) (x:α),xs[i]?=some x→R x∧∃ cs,W.cells? base (a.add (i * P.cellsOf e)) (P.cellsOf e)=some cs∧Cl g (en x).cells cs:=by
     intro k
     induction k with
     | zero=>exact fun _=>⟨[],⟨rfl,by simp[mV],fun N _=>by simp[fO]⟩,fun i x h=>by cases h⟩
     | succ k ih =>
      intro hk2;obtain ⟨xs,⟨h3,hb3,hw3⟩,h4⟩:=ih (by omega);obtain ⟨x,cs,y2,hy2,⟨hb2,hw2⟩,h5,h6,h7⟩:=hel k (by omega)
      have hbb:mV ((xs++[x]).map en)≤YtamikhobdffnfaaGreatDoor.Rows.uptoBulkAll ((ys.take (k+1)).map (·.1)):=by
       rw[lQ,hy2,dQ,dQ,aDZ,aD9];simp only[bU,bD,mV,Option.toList,YtamikhobdffnfaaGreatDoor.Rows.uptoBulkAll];omega
      refine ⟨xs++[x],⟨by simp[h3],hbb,fun N hN=>?_⟩,fun i z hz=>?_⟩
      ·rw[lQ,hy2,dQ,aFb] at hN;simp only[gX,Option.toList,bU,bD,DataW.weightsAll,iE] at hN;rw[dQ,aBN];refine Nat.max_le.2 ⟨hw3 N (fun n hn=>hN n (.inl hn)),?_⟩;have:=hw2 N (fun n hn=>hN n (.inr hn));simpa [fO] using this
      by_cases hi:i<xs.length
      ·rw[jR hi] at hz;exact h4 i z hz
      ·rw[nI (by omega)] at hz
       have:i-xs.length=0:=by
        have:=(dH.1 hz).1;simp at this;omega
       rw[this] at hz;cases hz;have:i=k:=by omega
       subst this;exact ⟨h5,cs,h6,h7⟩
    obtain ⟨xs,⟨hxl,hxb,hxw⟩,hx⟩:=hxs len (bG _)
    have hbb:jL [.list none (xs.map en)]+1≤YtamikhobdffnfaaGreatDoor.Rows.uptoBulk (DataW.slice (ys.map (·.1)) (rest.map (·.1))):=by
     rw[gW (by omega)] at hxb;simp only[jL,A.bulk,YtamikhobdffnfaaGreatDoor.Rows.uptoBulk];omega
    have hww:∀ N,(∀ n,n∈DataW.weights P t (DataW.slice (ys.map (·.1)) (rest.map (·.1)))→n≤N)→fO [.list none (xs.map en)]≤N:=fun N hN=>by
     simp only[DataW.weights,ht,eW,gX] at hN;rw[gW (by omega)] at hxw;have h1:=hxw N (fun n hn=>hN n (.inr (.inl hn)));have h2:=hN _ (.inl rfl)
     have h3:xs.length≤((ys.map (·.1)).length+(rest.map (·.1)).length) * P.bytesOf e:=by
      rw[aS,aS];exact qG (by omega) (Nat.le_mul_of_pos_right _ hby)
     simp only[fO,A.wm,aS];exact Nat.max_le.2 ⟨Nat.max_le.2 ⟨qG h3 h2,h1⟩,bS _⟩
    refine ⟨_,⟨xs,fun x hm=>?_,by omega,rfl⟩,hc.symm,Cl.one ?_,hbb,hww⟩
    ·obtain ⟨i,hi,rfl⟩:=fQ hm;exact (hx i _ (bK hi)).1
    ·by_cases h0:len=0
     ·subst h0;have:xs=[]:=eJ hxl;subst this;exact .list0 none (some a) cap hcm (fun t h=>by cases h)
     ·have cellAt:∀ (i:Nat) (x:α) (j:Nat) (c:A),xs[i]?=some x→(en x).cells[j]?=some c→∃ v,W.cell? ((a.add (i * P.cellsOf e)).add j)=some v∧Rz g c v:=by
       intro i x j c hi hj;obtain ⟨_,cs,h6,h7⟩:=hx i x hi;obtain ⟨_,h8⟩:=aJH h6;have hjl:j<cs.length:=by rw[← h7.1];exact (dH.1 hj).1
       exact ⟨_,h8 j _ (bK hjl),h7.2 j c _ hj (bK hjl)⟩
      obtain ⟨x0,hx0⟩:∃ x,xs[0]?=some x:=⟨_,bK (by omega)⟩
      obtain ⟨c0,hc0⟩:∃ c,(en x0).cells[0]?=some c:=⟨_,bK (by rw[hsz];exact hpos)⟩
      obtain ⟨v0,hv0,_⟩:=cellAt 0 x0 0 c0 hx0 hc0;have ea:(a.add (0 * P.cellsOf e)).add 0=a:=by simp[Addr.add]
      rw[ea] at hv0;obtain ⟨cc,ee,fr,hheap,hspot,_⟩:=aFg hv0;obtain ⟨b,off,spot⟩:=a;simp only at hspot hheap;subst hspot
      have eadd:∀ i j,((⟨b,off,none⟩:Addr).add (i * P.cellsOf e)).add j=⟨b,off+i * P.cellsOf e+j,none⟩:=by
       intro i j;unfold Addr.add;by_cases h1:i * P.cellsOf e=0<;>by_cases h2:j=0<;>simp[h1,h2]
      have pre:∀ (i:Nat) (x:α) (j:Nat) (c:A),xs[i]?=some x→(en x).cells[j]?=some c→∃ v,cc.toList[off+i * P.cellsOf e+j]?=some v∧Rz g c v:=by
       intro i x j c hi hj;obtain ⟨v,h8,h9⟩:=cellAt i x j c hi hj;rw[eadd] at h8;obtain ⟨c2,e2,f2,h10,_,h11⟩:=aFg h8;simp only at h10 h11;rw[hheap] at h10;cases h10;exact ⟨v,h11,h9⟩
      have hlen2:(xs.map en).length=len:=by rw[aS,hxl]
      have hgoal:=Rz.list (g:=g) none (xs.map en) b off (P.cellsOf e) cap cc.toList (hk b cc ee fr hheap) (by
       rw[hlen2];obtain ⟨xl,hxl2⟩:∃ x,xs[len-1]?=some x:=⟨_,bK (by omega)⟩
       obtain ⟨cl,hcl⟩:∃ c,(en xl).cells[P.cellsOf e-1]?=some c:=⟨_,bK (by rw[hsz];omega)⟩
       obtain ⟨v,hv,_⟩:=pre (len-1) xl (P.cellsOf e-1) cl hxl2 hcl;have:=(dH.1 hv).1
       have e3:(len-1) * P.cellsOf e+P.cellsOf e=len * P.cellsOf e:=by
        rw[← Nat.succ_mul];congr 1;omega
       omega) (by omega) hcm
       (fun y hy => by
        obtain ⟨x,_,rfl⟩:=cO.1 hy;exact hsz x)
       (fun y hy => by
        obtain ⟨x,_,rfl⟩:=cO.1 hy;exact h1 x)
       (fun i y j c v hi hj hv => by
        rw[nM] at hi;cases hxi:xs[i]? with
        | none=>rw[hxi] at hi;cases hi
        | some x =>
         rw[hxi] at hi;cases hi;obtain ⟨w,hw,hr⟩:=pre i x j c hxi hj;rw[hv] at hw;cases hw;exact hr)
       (fun t h=>by cases h)
      rw[hlen2] at hgoal;exact hgoal
end
end
section
section
variable {H:Type} {enc:TypeId × Value→H} {W:World} {base:Nat} {spare:Nat→Bool} {held:Bool} {g:Gh}
theorem aFC {P:Program} {t:TypeId} {Q:List A→Prop}:pU enc P W base spare held g 0 t Q:=fun fuel hf cs y hy=>by
 obtain rfl:fuel=0:=by omega
 cases hy
theorem aMa (x:Tm):x.enc.cells.length=6:=by rw[bY];rfl
theorem aMW (x:Tm):∀ c,c∈x.enc.cells→c.one=true:=by
 rw[bY];intro c hc;simp only[A.cells,Tm.cs,eW,List.mem_nil_iff,jU] at hc;rcases hc with rfl|rfl|rfl|rfl|rfl|rfl<;>rfl
theorem aGS (hk:aAc g W):∀ n,pU enc prog W base spare held g n 43 (fun l=>∃ x:Tm,True∧l=x.enc.cells) ∧
  pU enc prog W base spare held g n 41 (fun l=>∃ xs:List Tm,(∀ x,x∈xs→True)∧xs.length≤maxLen∧l=[.list none (xs.map Tm.enc)])
 | 0=>⟨aFC,aFC⟩
 | n+1=>by
  obtain ⟨h1,h2⟩:=aGS hk n;refine ⟨?_,aJ7 underlying41 (by kernel_rfl) hk h1 (fun x=>(aMa x).trans (by kernel_rfl)) aMW (by rw[show prog.cellsOf 43=6 by kernel_rfl];omega) (iB (by kernel_rfl))⟩;refine aJf underlying43 (by kernel_rfl) (by kernel_rfl) (.cons (aF8 underlying40 (by kernel_rfl)) (.cons (aF8 underlying3 (by kernel_rfl)) (.cons (aGc underlying9 (by kernel_rfl)) (.cons (aGc underlying9 (by kernel_rfl)) (.cons h2 (.cons h2 .nil)))))) ?_
  ·intro ls hE;cases hE with|cons q1 hE =>
   cases hE with|cons q2 hE =>
   cases hE with|cons q3 hE =>
   cases hE with|cons q4 hE =>
   cases hE with|cons q5 hE =>
   cases hE with|cons q6 hE =>
   cases hE;obtain ⟨k,_,rfl⟩:=q1;obtain ⟨m,_,rfl⟩:=q2;obtain ⟨x,_,rfl⟩:=q3;obtain ⟨y,_,rfl⟩:=q4;obtain ⟨a,_,_,rfl⟩:=q5;obtain ⟨b,_,_,rfl⟩:=q6;exact ⟨.mk k m x y a b,trivial,by rw[bY];rfl⟩
end
end
section
section
variable {H:Type} {enc:TypeId × Value→H} {W:World} {base:Nat} {spare:Nat→Bool} {held:Bool} {g:Gh}
end
end
section
section
variable {H:Type} {enc:TypeId × Value→H} {P:Program} {W W':World} {base:Nat} {spare:Nat→Bool} {held:Bool}
def Old (W W':World):Prop:=∀ k,k<W.heap.size→W'.heap[k]?=W.heap[k]?
theorem Old.get (h:Old W W') {b:Nat} {o:Obj} (hb:W.heap[b]?=some o):W'.heap[b]?=some o:=by
 rw[h b (fP.1 hb).1];exact hb
theorem Old.cell (h:Old W W') {a:Addr} {v:Value} (hc:W.cell? a=some v):W'.cell? a=some v:=by
 unfold World.cell? at hc ⊢;split at hc
 ·rename_i c e fr hb;rw[h.get hb];exact hc
 ·cases hc
theorem rW {α β:Type} {f f':α→Option β} (h:∀ x y,f x=some y→f' x=some y):∀ {l:List α} {r:List β},l.mapM f=some r→l.mapM f'=some r
 | [],r,hm=>hm
 | a::l,r,hm=>by
  rw[List.mapM_cons] at hm ⊢;cases h1:f a with
  | none=>rw[h1] at hm;cases hm
  | some b =>
   rw[h1] at hm;cases h2:l.mapM f with
   | none=>rw[h2] at hm;cases hm
   | some bs =>
    rw[h2] at hm;rw[h a b h1,rW h h2];exact hm
theorem yY {α β:Type} {x x':Option α} {k k':α→Option β} {y:β} (hx:∀ a,x=some a→x'=some a) (hk:∀ a y,k a=some y→k' a=some y) (h:x.bind k=some y):x'.bind k'=some y:=by
 cases h1:x with
 | none=>rw[h1] at h;cases h
 | some a=>rw[h1] at h;rw[hx a h1];exact hk a y h
theorem tS {α β:Type} {x x':Option α} {k:α→β} {y:β} (hx:∀ a,x=some a→x'=some a) (h:x.map k=some y):x'.map k=some y:=by
 cases h1:x with
 | none=>rw[h1] at h;cases h
 | some a=>rw[h1] at h;rw[hx a h1];exact h
theorem Old.cells (h:Old W W') {a:Addr} {n:Nat} {cs:List Value} (hc:W.cells? base a n=some cs):W'.cells? base a n=some cs:=by
 unfold World.cells? at hc ⊢;split at hc
 ·rename_i hb;rw[if_pos hb];exact rW (fun x y=>h.cell) hc
 ·cases hc
theorem aEY (h:Old W W'):∀ (fuel:Nat) (t:TypeId) (cs:List Value) (x:DataW H × List MemPlace),DataW.trod enc P W base spare held fuel t cs=some x→DataW.trod enc P W' base spare held fuel t cs=some x
 | 0,t,cs,x,hx=>by cases hx
 | fuel+1,t,cs,x,hx=>by
  have ih:=aEY h fuel
  have el:∀ (e:TypeId) (a:Addr) (n:Nat) (y:DataW H × List MemPlace),(W.cells? base a n).bind (DataW.trod enc P W base spare held fuel e)=some y→(W'.cells? base a n).bind (DataW.trod enc P W' base spare held fuel e)=some y :=
   fun e a n y=>yY (fun cs=>h.cells) (fun cs y=>ih e cs y)
  unfold DataW.trod at hx ⊢;split at hx<;>(try simp only at hx ⊢)<;>(try exact hx)
  case h_6=>exact tS (fun y=>el _ _ _ y) hx
  case h_8 =>
   split at hx
   ·rename_i hh;rw[if_pos hh];refine yY (fun y=>rW (fun i y=>el _ _ _ y)) (fun elems y=>tS (fun r hr=>?_)) hx;split at hr
    ·rename_i hs;rw[if_pos hs];exact rW (fun i y=>el _ _ _ y) hr
    ·rename_i hs;rw[if_neg hs];exact hr
   ·cases hx
  case h_9 =>
   split at hx
   ·rename_i hh;rw[if_pos hh];exact tS (fun y=>rW (fun f y=>ih _ _ y)) hx
   ·cases hx
  case h_10 =>
   split at hx
   ·rename_i hh;rw[if_pos hh];exact tS (fun y=>rW (fun f y=>ih _ _ y)) hx
   ·cases hx
  case h_12 =>
   split at hx<;>(try simp only at hx ⊢)<;>(try exact hx)
   exact tS (fun y=>ih _ _ y) hx
  case h_14 =>
   split at hx
   ·rename_i es clock hb;rw[h.get hb];simp only;split at hx
    ·rename_i hh;rw[if_pos hh];refine yY (fun y=>rW (fun f y=>yY (fun k hk=>hk) (fun k z hz=>?_))) (fun a y hy=>hy) hx;split at hz
     ·rename_i hf;simp only[hf,if_true];exact tS (fun y=>ih _ _ y) hz
     ·cases hz
    ·cases hx
   ·cases hx
theorem aDT (h:Old W W'):∀ {ts:List TypeId} {vs:List Value} {ds:List (DataW H)} {ps:List MemPlace},DataW.TrodAll enc P W base spare held ts vs ds ps→DataW.TrodAll enc P W' base spare held ts vs ds ps
 | [],[],[],ps,hh=>hh
 | t::ts,v::vs,d::ds,ps,⟨p,q,⟨fuel,hf⟩,h2,e⟩=>⟨p,q,⟨fuel,aEY h _ _ _ _ hf⟩,aDT h h2,e⟩
end
end
section
theorem aGM {l:List A} {N:Nat} (h:fO l≤N):∀ a,a∈l→a.wm≤N:=by
 induction l with
 | nil=>intro a ha;cases ha
 | cons x r ih =>
  simp only[fO] at h;intro a ha;rcases List.mem_cons.1 ha with rfl|ha
  ·omega
  ·exact ih (by omega) a ha
theorem aNa (m:Nat):∀ t:Tm,SizeOf.sizeOf t<m→t.enc.wm≤140737488355328→TmW t:=by
 induction m with
 | zero=>intro t h;omega
 | succ m ih =>
  intro t hm h;obtain ⟨k,n,x,y,a,b⟩:=t;rw[bY] at h;simp only[Tm.cs,Tm.kind,Tm.n,Tm.text,Tm.sort,Tm.kids,Tm.rest,A.wm,fO,aS] at h;simp only[Tm.mk.sizeOf_spec] at hm;refine .mk k n x y a b (by omega) (by omega) (fun t ht=>?_) (fun t ht=>?_) (by omega) (by omega)
  ·have:=List.sizeOf_lt_of_mem ht;exact ih t (by omega) (aGM (l:=a.map Tm.enc) (N:=140737488355328) (by omega) _ (List.mem_map_of_mem ht))
  ·have:=List.sizeOf_lt_of_mem ht;exact ih t (by omega) (aGM (l:=b.map Tm.enc) (N:=140737488355328) (by omega) _ (List.mem_map_of_mem ht))
section
variable {H:Type} {enc:TypeId × Value→H} {W:World} {base:Nat} {spare:Nat→Bool} {held:Bool} {g:Gh}
theorem aMf {v:Value} {d:DataW H} {ps:List MemPlace} {r:Reach} {b0:Nat} (hk:aAc g W) (hval:Value.okWide prog W r b0 43 v) (h:DataW.Trod enc prog W base spare held 43 v d ps)
  (hw:∀ n,n∈DataW.weights prog 43 d→n≤140737488355328):∃ x:Tm,Rz g x.enc v∧TmW x:=by
 obtain ⟨cs,rfl,_⟩:=WideShapes.okWide_struct underlying43 hval;obtain ⟨fuel,hf⟩:=h;obtain ⟨l,⟨x,_,rfl⟩,hl,hc,hb,hm⟩:=(aGS hk fuel).1 fuel (bG _) _ _ hf;rw[aEa] at hm;refine ⟨x,?_,aNa _ x (fK _) (hm _ hw)⟩;have h2:=hc;rw[show x.enc.cells=x.cs by rw[bY];rfl] at h2;have:=Rz.agg (g:=g) x.cs cs.toList h2.1.symm ?_ h2.2
 ·rw[bY];simpa using this
 ·intro c hc;simp only[Tm.cs,eW,List.mem_nil_iff,jU] at hc;rcases hc with rfl|rfl|rfl|rfl|rfl|rfl<;>rfl
end
end
end Go.AV
section
open Go.Proofs.Tryz
namespace Go.Proofs.YtamikhobdffnfaaGreatDoor
open Go Go.AV Go.Proofs.Tryz Go.ChangeShapes Go.WideShapes Go.ChangeAt Go.RowKit
theorem own:ownKnob prog.godebug=none:=by kernel_rfl
def allP (W:World):Nat→Option (List Value):=fun b=>match W.heap[b]? with
 | some (.cells cs _ _)=>some cs.toList
 | _=>none
theorem knows_all {W : World} {l : List (String × DataW Unit)} (hL : laidMet prog l W) (h1 : ("strings.asciiSpace",Rows.laid_strings_asciiSpace) ∈ l)
  (h2 : ("internal/strconv.uint64pow10",Rows.laid_internal_strconv_uint64pow10) ∈ l) : aAc (rF (vM (allP W)) W) W := by
 obtain ⟨t0,f0,e0⟩:=yB aBV (aFY hL h1);obtain ⟨t3,f3,e3⟩:=yB aBB (aF3 hL h2);intro b cs e fr hb;show vM (allP W) b=some cs.toList;unfold vM;split
 ·rw[e0] at hb;cases hb;rfl
 ·rw[e3] at hb;cases hb;rfl
 ·unfold allP;rw[hb]
theorem strs_contract (H:Type) (enc:TypeId × Value→H) (W:World) (base:Nat) (args:Array Value) (ds gs:List (DataW H)) (before:List MemPlace)
  (hval:∀ (j:Nat) t v,f12.params[j]?=some t→args[j]?=some v→Value.okWide prog W .any base t v)
  (hW:DataW.Whole enc prog f12.params.toList Rows.defStringsSpec.vars false W args.toList ds gs before)
  (hz:(DataW.weightsEach prog (f12.params.toList++(OpenSpec.ofChange Rows.defStringsSpec).bare.plain.varTypes prog) (ds++gs)).all (·≤reachBytes)=true) (hL:laidMetH prog Rows.defStringsRow.laid W) :
  Calls prog 12 args W fun e W'=>∃ v,e=.returned v∧Rows.defStringsSpec.post enc prog f12 false true false false W args v W':=by
 have hW' := hW;have hlt := hW.lt;obtain ⟨p,q,hA0,hV,rfl,hfz,hnd⟩ := hW;have hA : DataW.TrodAll enc prog W 0 (fun _ => true) true f12.params.toList args.toList ds p := hA0;have hA1 := hA;rw [params12] at hA hval hz;obtain ⟨v0,d0,rfl,rfl,h0⟩ := trodAll_one hA;obtain ⟨rfl,rfl⟩ := trodVars_none hV;clear hA0;simp only [iE] at hW' hlt;have m1 : ("strings.asciiSpace",Rows.laid_strings_asciiSpace) ∈ Rows.defStringsRow.laid := (.tail _ (.tail _ (.tail _ (.tail _ (.tail _ (.tail _ (.tail _ (.head _))))))));have m2 : ("internal/strconv.uint64pow10",Rows.laid_internal_strconv_uint64pow10) ∈ Rows.defStringsRow.laid := (.tail _ (.tail _ (.head _)));have hK := knows_all hL m1 m2
 have hwt:∀ n,n∈DataW.weights prog 43 d0→n≤140737488355328:=fun n hn=>by
  have h1:=fD.1 hz n (DataW.weights_mem_each (j:=0) (t:=43) (d:=d0) rfl rfl n hn);have h2:n≤reachBytes:=qE h1;have h3:=reachBytes_lt;omega
 obtain ⟨a,ha,hwa⟩:=aMf hK (hval 0 43 v0 rfl rfl) h0 hwt
 have hc:=aJa (f:=12) (args:=[a.enc]) (vals:=[v0]) (W:=W) (p:=allP W) (l:=Rows.defStringsRow.laid) func12 rfl rfl hL m1 m2
  (fun b pre h => by
   unfold allP at h;split at h
   ·rename_i cs t fr hh;cases h;exact ⟨[],t,fr,by rw[hh,iE]⟩
   ·cases h)
  (.cons ha (.nil _)) (aI4 a hwa _ _ _ rfl)
 refine hc.mono fun e W' ⟨he,hos,hout,hbk⟩=>?_
 subst he;have e1:Rows.defStringsSpec.fn H ([d0]++[])={ results:=[.lit (.bool true)],args:=[d0] }:=rfl;refine ⟨_,rfl,_,_,_,[],p,[],hW',?_,?_,?_,aMo hos hout hbk,fun h=>by cases h⟩
 ·rw[e1];exact trodAll_mk1 (shut_bool underlying4 true)
 ·rw[e1]
  exact DataW.TrodAll.respare (kids_rows strs_k1 strs_k2) (slices_full_of prog (by kernel_rfl)) (fun t ht=>by
   rw[params12] at ht;obtain rfl:t=43:=by simpa using ht
   exact qE (by kernel_rfl)) (aDT hbk hA1) (fun p hp=>eR (hlt p hp))
 ·rw[e1];rfl
def zeroT:Value:=.agg #[.int .i64 0,.int .i64 0,.string ⟨#[]⟩,.string ⟨#[]⟩,.slice none 0 0,.slice none 0 0]
def zeroTR {H:Type}:DataW H:=.agg [.lit (.int .i64 0),.lit (.int .i64 0),.lit (.string []),.lit (.string []),.nil,.nil]
theorem strs_reads (os:Os) {H:Type} (enc:TypeId × Value→H) :
  ∃ places,DataW.whole enc prog ((qI os).forCall (fun _ _=>0) ⟨#[],#[zeroT],[]⟩).memory f12.params.toList (OpenSpec.ofChange Rows.defStringsSpec).vars false #[zeroT].toList 8 =
   some ([zeroTR],[],places) :=
 ⟨[],by kernel_rfl⟩
theorem strs_lifted (os:Os) (started:os.Started) (H:Type) (enc:TypeId × Value→H) (F:Stop.Interp) :
  ReturnsInHanded {} checked os 12 .any ((OpenSpec.ofChange Rows.defStringsSpec).preRow enc prog f12 Rows.defStringsRow.domain false Rows.defStringsRow.laid) (((OpenSpec.ofChange Rows.defStringsSpec).at F).post enc prog f12 false true false false):=by
 obtain ⟨places,hx⟩:=strs_reads os enc
 refine returnsInHanded_of_row (C:=checked) (s:=OpenSpec.ofChange Rows.defStringsSpec) own started (by kernel_rfl) func12
  (witness_row_atRef (enc := enc) (C := checked) false (qI os) #[zeroT] rfl (by kernel_rfl) (by kernel_rfl) (by kernel_rfl)
   (OpenSpec.preRow_of_cond 8 hx (by kernel_rfl) (fun k hk=>by cases hk) (by kernel_rfl) (aLk os _))) ?_
 intro W base args ds gs before hval hW _ _ hz hL _ _;exact strs_contract H enc W base args ds gs before hval hW hz hL
theorem strs_said:Rows.DefStringsSaid :=
 OpenClaim.holds_of_cond 12 f12 rfl rfl rfl rfl rfl rfl rfl ⟨rfl,rfl,rfl,rfl,rfl⟩ rfl rfl rfl rfl rfl strs_named func12 strs_closed
  (qE (by kernel_rfl)) (by unfold Func.isWrapper;rw[if_neg (of_decide_eq_false (by kernel_rfl))];exact ⟨rfl,rfl⟩)
  (fun os started H enc _ F=>by rw[OpenClaim.pre_eq_preRow];exact strs_lifted os started H enc F)
theorem strs_plain (f:FuncId) (fn:Func) (hf:Tryz.pinned.checked.prog.funcNamed Rows.defStringsRow.func=some f) (hfn:Tryz.pinned.checked.prog.funcs[f]?=some fn) :
  true=Tryz.pinned.checked.prog.looks []∧∀ (j:Nat) t,fn.params[j]?=some t→Tryz.pinned.checked.prog.wantsStandIn t=false:=by
 obtain rfl:f=12:=rL (strs_named.symm.trans hf) |>.symm
 obtain rfl:fn=f12:=(rL (func12.symm.trans hfn)).symm;refine ⟨strs_looks,fun j t ht=>?_⟩;rw[params12] at ht;obtain rfl:t=43:=by simpa using Array.mem_of_getElem? ht
 exact (show prog.wantsStandIn 43=false by kernel_rfl)
theorem defStrings_holds:Rows.DefStringsCardSaid :=
 Claim7.holds_tied_plain_at .later [] _ _ _ _ strs_said (fun _ h=>by cases h) strs_wf (fun _ h=>by cases h) defStrings_row_tie rfl ⟨rfl,rfl⟩ strs_main rfl strs_plain strs_goes
#print axioms defStrings_holds
end Go.Proofs.YtamikhobdffnfaaGreatDoor
end
