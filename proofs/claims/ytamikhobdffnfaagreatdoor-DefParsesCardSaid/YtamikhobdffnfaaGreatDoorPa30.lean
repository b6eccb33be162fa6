/-
  Of DefParses.
-/
import Derived.Test.YtamikhobdffnfaaGreatDoorPa29
set_option linter.all false
set_option maxRecDepth 99999
set_option maxHeartbeats 0
namespace Go.AV
open Go Go.Proofs Tryz
section
section
variable {C:Cx} {n:Nat} {h b:Nat} {R:Env→St→Prop} {Q:Option Nat→XK→Env→St→Prop} {e:Env} {s:St} {rs:List ResultVar} {KV Kp:St→A→Prop} {x:XK} {v:A}
@[go_sem] theorem aSJ:aCJ R Q .normal e s=R e s:=rfl
@[go_sem] theorem aTs:aCJ R Q .ret e s=Q none .ret e s:=rfl
@[go_sem] theorem aSS:aCJ R Q (.panic v) e s=Q none (.panic v) e s:=rfl
@[go_sem] theorem aSU:vB C rs KV Kp none x e s=lB C rs KV Kp x e s:=rfl
@[go_sem] theorem aSL:vB C rs KV Kp (some b) .normal e s=lB C rs KV Kp .normal e s:=rfl
@[go_sem] theorem aTB:vB C rs KV Kp (some b) .ret e s=lB C rs KV Kp .ret e s:=rfl
@[go_sem] theorem aSQ:vB C rs KV Kp (some b) (.panic v) e s=∃ fs cs,v=.iface 36 (.agg fs)∧s.getO b=some (.cells 36 cs)∧fs.length=cs.length∧fs.length=4∧lB C rs KV Kp .ret e (s.setO b (.cells 36 fs)):=rfl
end
theorem aJo (k:Nat) (w:World):(invoke (.fn (.func 40) #[]) #[.pointer (some ⟨k,0,none⟩)]).run cx.P w=.ok (.enter 40 #[.pointer (some ⟨k,0,none⟩)]) w:=aJJ k w
def mC:DOwn:=⟨none,none,none,none,none,none,none,none,none⟩
def qV:Tok:=⟨0,[],0,0,0⟩
theorem yN (d:Dfn) (o:DOwn) {s:St} (h:OwnOk s (aN d o)):A.le (.agg (aE d o).cs) d.enc:=by
 have z:∀ k (a:eR),(aN d o)[k]?=some a→a.1=none→a.2.1=0:=fun k a hk=>h.nil a (fJ hk)
 have g:∀ {α:Type} (tk:Option Nat) (f:α→A) (l:List α) (k:Nat) (e:TypeId),(aN d o)[k]?=some (tk,l.length,e)→A.le (gv tk (l.map f)) (.list none (l.map f)):=fun tk f l k e hk =>
  fN tk _ (fun hn=>by rw[gR (z k _ hk hn)];rfl)
 exact A.le.agg ⟨⟨aK _,rfl⟩,⟨g o.so _ _ 0 9 rfl,rfl⟩,⟨g o.be _ _ 1 104 rfl,rfl⟩,⟨g o.op _ _ 2 73 rfl,rfl⟩,⟨g o.fu _ _ 3 73 rfl,rfl⟩,⟨g o.va _ _ 4 9 rfl,rfl⟩,⟨g o.eq _ _ 5 80 rfl,rfl⟩,⟨g o.on _ _ 6 68 rfl,rfl⟩,⟨aK _,rfl⟩,⟨g o.ma _ _ 7 68 rfl,rfl⟩,⟨g o.ru _ _ 8 84 rfl,rfl⟩,⟨aK _,rfl⟩,⟨aK _,rfl⟩,trivial⟩
theorem xM {s:St}:OwnOk s (aN eB mC):=by
 refine ⟨fun o ho u hu=>?_,fun o ho _=>?_,fun i j a b u hi hj ha hb=>?_⟩
 ·simp only[aN,iR,qH,oA] at ho;rcases ho with rfl|rfl|rfl|rfl|rfl|rfl|rfl|rfl|rfl<;>cases hu
 ·simp only[aN,iR,qH,oA] at ho;rcases ho with rfl|rfl|rfl|rfl|rfl|rfl|rfl|rfl|rfl<;>rfl
 ·have:=fJ hi;simp only[aN,iR,qH,oA] at this;rcases this with rfl|rfl|rfl|rfl|rfl|rfl|rfl|rfl|rfl<;>cases ha
section
variable {T:List Tok} {fin:Fault} {s:St} {r:Nat} {KV Kp:St→A→Prop}
def aFG (KV:St→A→Prop) (s:St) (r:Nat):Rd Dfn→Prop
 | .ok d _ _=>∀ o,KV (s.setO r o) (.tuple [d.enc,Fault.none.enc])
 | .bad f=>∀ o,KV (s.setO r o) (.tuple [eB.enc,f.enc])
theorem aOc (hT:TOk T) (hr:s.getO r=some (bC T fin (aE eB mC) qV 0 0)) (hk:aFG KV s r (tN false fin T)):Den cx 38 [.ptr r 0] KV Kp s:=by
 have hlenT:=hT.len;refine Den.drop ?_;refine aF2 aG5 aJo func38 rfl rfl (kP rfl) ?_;refine ExD.seq ?_;refine bV (V:=[0,2,3,25]) _ _ _ _ ?_;simp only[go_sem,ntmps38,f38];(intro b2 hb2;try simp only[aV,aT,ne_eq] at hb2);have e2:=cF hr (by first|exact hb2|exact hb2.2|exact hb2.2.2|exact hb2.2.2.2|exact hb2.2.2.2.2|exact hb2.2.2.2.2.2|exact hb2.2.2.2.2.2.2);simp only[go_sem,ntmps38,f38,hb2,e2];(intro b3 hb3;try simp only[aV,aT,ne_eq] at hb3);have e3:=cF hr (by first|exact hb3|exact hb3.2|exact hb3.2.2|exact hb3.2.2.2|exact hb3.2.2.2.2|exact hb3.2.2.2.2.2|exact hb3.2.2.2.2.2.2);simp only[go_sem,ntmps38,f38,hb2,e2,hb3,e3];refine ExD.defer (by rfl) (b:=b3) (by simp only[go_sem,ntmps38,f38,hb2,e2,hb3,e3]) ?_;refine bV (V:=[0,2,3,25]) _ _ _ _ ?_;simp only[go_sem,ntmps38,f38,hb2,e2,hb3,e3];generalize hs2:(s.setO b2 (Ob.cells 33 [.str [],.nils,.nils,.nils,.nils,.nils,.nils,.nils,.str [],.nils,.nils,.str [],.str []])).setO b3 (Ob.cells 36 [.int .i64 0,.str [],.int .i64 0,.int .i64 0])=s2;have hr2:s2.getO r=some (bC T fin (aE eB mC) qV 0 0):=by subst hs2;exact (by simp only[aJ,dN,gE,aT,ne_eq,dK,reduceIte,ntmps38,f38,hb2,e2,hb3,e3,hr]<;>(first|done|rfl|assumption))
 have h22:s2.getO b2=some (Ob.cells 33 [.str [],.nils,.nils,.nils,.nils,.nils,.nils,.nils,.str [],.nils,.nils,.str [],.str []]):=by subst hs2;exact (by simp only[aJ,dN,gE,aT,ne_eq,dK,reduceIte,ntmps38,f38,hb2,e2,hb3,e3]<;>(first|done|rfl|assumption))
 have h23:s2.getO b3=some (Ob.cells 36 [.int .i64 0,.str [],.int .i64 0,.int .i64 0]):=by subst hs2;exact (by simp only[aJ,dN,gE,aT,ne_eq,dK,reduceIte,ntmps38,f38,hb2,e2,hb3,e3]<;>(first|done|rfl|assumption))
 have hs2g:∀ s1:St,s1.gx s2 r→s1.gx s r:=fun s1 h=>h.trans (by subst hs2;exact aQ)
 have bad:∀ (f:Fault) (s1:St) (o:Ob) (e:Env),e.get 2=some (.ptr b2 0)→e.get 3=some (.ptr b3 0)→(∀ o,KV (s.setO r o) (.tuple [eB.enc,f.enc]))→s1.gx s2 r→s1.getO r=some o →
   vB cx [ResultVar.cell 2 33,ResultVar.cell 3 36] (DK KV) (DK Kp) (some b3) (.panic (.iface 36 f.enc)) e s1:=by
  intro f s1 o e g2 g3 hb hg ho;have q2:=hg.ob b2 e2.2 _ h22;have q3:=hg.ob b3 e3.2 _ h23;simp only[go_sem,ntmps38,f38,hb2,e2,hb3,e3,q2,q3];refine ⟨f.cs,_,rfl,rfl,rfl,rfl,?_⟩;simp only[go_sem,ntmps38,f38,hb2,e2,hb3,e3,q2,q3,g2,g3];have hbo:=hb o;simp only[go_sem] at hbo;exact DK.mk hbo (St.gx.ge (cT hb3.2 (hs2g _ hg)) (by rw[aJ,if_neg e3.2];exact ho)) (A.le.tuple ⟨yN eB mC (s:=s) xM,aK _,trivial⟩)
 have hk2:(tN false fin T).to (fun d _ _=>∀ o,KV (s.setO r o) (.tuple [d.enc,Fault.none.enc])) (fun f=>∀ o,KV (s.setO r o) (.tuple [eB.enc,f.enc])):=by
  revert hk;unfold aFG;cases tN false fin T<;>exact id
 simp only[tN,bL] at hk2;have hT0:T=T.drop 0:=rfl;rw[hT0] at hk2;refine fH (d:=aE eB mC) (T:=T) (fin:=fin) (first:=qV) (i:=0) (n:=0) _ hr2 (bS _) hT (aW hk2 (fun _ w1 m1 hk3 hlt1 hw1 hm1=>?_) (fun f h o=>?_));rotate_left
 ·exact bad f _ o _ rfl rfl h (eQ (fF _ _)) (by rw[aJ,if_pos rfl])
 subst m1;rw[← hw1] at hk3;simp only[go_sem];refine iC (d:=aE eB mC) (T:=T) (fin:=fin) (first:=qV) (i:=0+1) (n:=0) (by rw[aJ,if_pos rfl];rfl) hlt1 hT (aW hk3 (fun x w2 m2 hk4 hlt2 hw2 hm2=>?_) (fun f h o=>?_));rotate_left
 ·exact bad f _ o _ rfl rfl h (eQ (eQ (fF _ _))) (by rw[aJ,if_pos rfl])
 subst m2;rw[← hw2] at hk4;simp only[go_sem,e2,e3,h22,h23];refine fH (d:={ aE eB mC with name:=x }) (T:=T) (fin:=fin) (first:=qV) (i:=0+1+1) (n:=0) _ (by rw[aJ,if_pos rfl];rfl) hlt2 hT (aW hk4 (fun _ w3 m3 hk5 hlt3 hw3 hm3=>?_) (fun f h o=>?_));rotate_left
 ·exact bad f _ o _ rfl rfl h (eQ (eQ (fF _ _))) (by rw[aJ,if_pos rfl])
 subst m3;rw[← hw3] at hk5;simp only[go_sem,e2,e3,h22,h23];rw[show (T.drop (0+1+1+1)).length=T.length-(0+1+1+1) by rw[cP]] at hk5
 refine Ex.loop (ι:=(Dfn × DOwn) × Nat × Nat × Nat) (fun c=>[(0,.ptr r 0),(2,.ptr b2 0),(3,.ptr b3 0)]) (fun c=>lD T fin qV r s2 c.1.1 c.1.2 c.2.1 c.2.2.1)
  (fun c=>ItQ s2 c.1.1 c.1.2 c.2.1∧c.2.1≤T.length∧c.2.2.1≤2000∧T.length-c.2.1<c.2.2.2∧(uO false fin c.2.2.2 c.1.1 (T.drop c.2.1) c.2.2.1).to (fun d _ _=>∀ o,KV (s.setO r o) (.tuple [d.enc,Fault.none.enc])) (fun f=>∀ o,KV (s.setO r o) (.tuple [eB.enc,f.enc])))
  (fun c=>T.length-c.2.1) (({ eB with name:=x },mC),0+1+1+1,0,T.length-(0+1+1+1)+1) ?_ ?_ ?_ ?_
 ·refine ⟨⟨xM,fun a ha=>?_⟩,hlt3,bS _,iU _,hk5⟩;simp only[aN,iR,qH,oA] at ha;rcases ha with rfl|rfl|rfl|rfl|rfl|rfl|rfl|rfl|rfl<;>exact bS _
 ·simp only[go_sem,e2,e3,h22,h23]
 ·show St.ge _ (s2.setO r _);exact aL
 ·rintro ⟨⟨d,o⟩,i,n,k⟩ ⟨hQ,hi,hn,hik,hk6⟩;simp only at hQ hi hn hik hk6;obtain ⟨k,rfl⟩:∃ k',k=k'+1:=⟨k-1,by omega⟩
  have hown:=hQ.own;have hfr:=hown.free;refine bV (V:=[0,2,3,25]) _ _ _ _ ?_;unfold lD;have n23:=hb3.1;simp only[go_sem,e2,e3,h22,h23,aB,n23];(refine aP (OT.r 0 10) [] ?_;simp only[go_sem,e2,e3,h22,h23,aB,n23]);cases hc:decide (i<T.length) with
  | true =>
   have hlt:i<T.length:=by simpa using hc
   have hne:T.drop i≠[]:=by intro e;have:=congrArg List.length e;rw[cP,aH] at this;omega
   obtain ⟨t,w,hw⟩:∃ t w,T.drop i=t::w:=by
    cases hq:T.drop i with
    | nil=>exact absurd hq hne
    | cons t w=>exact ⟨t,w,rfl⟩
   rw[hw,uO,bL,← hw] at hk6;simp only[go_sem,e2,e3,h22,h23,aB,n23];refine aNB hT hi hQ hn (aW hk6 (fun d' w' n' hk7 j o' hj hjT hw' hn' hQ'=>?_) (fun f h s1 x hg hr1=>?_))
   ·subst hw';simp only[go_sem,e2,e3,h22,h23,aB,n23];exact ⟨((d',o'),j,n',k),⟨hQ',hjT,hn',by simp only;omega,hk7⟩,by simp only;omega,bA _⟩
   ·exact bad f _ _ _ rfl rfl h hg hr1
  | false =>
   have hge:¬ i<T.length:=by simpa using hc
   rw[vE (by omega),uO,bU] at hk6;simp only[go_sem,e2,e3,h22,h23,aB,n23];(refine aP (OT.r 0 7) [(5,[4])] ?_;simp only[go_sem,e2,e3,h22,h23,aB,n23]);have hone:(A.one (gv o.so (d.sig.sorts.map .str))&&(A.one (gv o.be (d.sig.below.map Below.enc))&&(A.one (gv o.op (d.sig.ops.map Opr.enc))&&(A.one (gv o.fu (d.sig.funs.map Opr.enc))&&(A.one (gv o.va (d.sig.values.map .str))&&(A.one (gv o.eq (d.eqs.map Eqn.enc))&&(A.one (gv o.on (d.once.map Cel.enc))&&(A.one (gv o.ma (d.many.map Cel.enc))&&A.one (gv o.ru (d.rules.map Rul.enc))))))))))=true:=by simp only[lM,fK]
   refine ⟨hone,?_⟩;have hk7:=hk6 (bC T fin (aE d o) qV i n);have hle:=yN d o hown;simp only[go_sem] at hk7;simp only[go_sem] at hle;refine DK.mk hk7 (aBQ (mT (rT (by simp only[aJ,e2,e3,if_false,if_true]<;>rfl) (sX hb3.2 (sX hb2 (vW (by simp) (aHx (hs2g s2 (fF _ _)) (by simp))))))) (fun a ha u hu=>by have:=hfr a ha u hu;subst hs2;exact this)) (A.le.tuple ⟨hle,aK _,trivial⟩)
end
end
section
def cX (x:aD):Fault:=⟨12,[],1+(x.count 10:Nat),x.length-mA x 10 x.length⟩
def aE3 (x:aD):Dfn × Fault:=match iH dX true x with
 | .bad f=>(eB,f)
 | .ok T=>match tN false (cX x) T with
  | .ok d _ _=>(d,Fault.none)
  | .bad f=>(eB,f)
def pW (x:aD):Dfn × Fault:=if 20000<x.length then (eB,⟨3,[],0,0⟩) else aE3 x
def yW (x:aD):Tm × Fault:=if 20000<x.length then (mF,⟨3,[],0,0⟩) else match iH dX true x with
 | .bad f=>(mF,f)
 | .ok T=>match gI false (cX x) T 0 with
  | .ok t [] _=>(t,Fault.none)
  | .ok _ (t::w) _=>(mF,eG (cX x) 11 (t::w))
  | .bad f=>(mF,f)
theorem aFc {x:aD} {l:List Tok} (hx:x.length≤4294967280) (h:iH dX true x=.ok l):TOk l:=by
 obtain ⟨h1,h2⟩:=aE0 h;refine ⟨by omega,fun t ht=>(h2 t ht).num,fun t ht=>?_,fun t ht=>?_⟩
 ·have:=(h2 t ht).col;omega
 ·have:=(h2 t ht).txt;omega
theorem aHC (x:aD) (c:UInt8):∀ n,mA x c n<n∧-1≤mA x c n
 | 0=>by simp[mA]
 | n+1=>by
  have:=aHC x c n;simp only[mA];split<;>omega
section
variable {s:St} {KV Kp:St→A→Prop}
theorem aLX (x:aD) (hx:x.length≤4294967280) (hk:match iH dX true x with
  | .ok l=>∀ r,s.getO r=none→KV (s.setO r (bC l (cX x) (aE eB mC) qV 0 0)) (.tuple [.ptr r 0,Fault.none.enc])
  | .bad f=>KV s (.tuple [.nilp,f.enc])):Den cx 83 [.str x] KV Kp s:=by
 have hcnt:x.count 10≤x.length:=List.count_le_length;have hlast:=aHC x 10 x.length;(refine aZ func83 [0,2,3,4,5,6,14] ?_;simp only[go_sem,ntmps83,f83]);(intro b3 hb3;try simp only[aB,aT,aV,ne_eq] at hb3);simp only[go_sem,hb3];refine aNn _ x _ _ (by omega) ?_;cases hl:iH dX true x with
 | bad f =>
  rw[hl] at hk;have hc:=aBU hl;have hc0:decide (f.code=0)=false:=by rw[hc];rfl
  simp only[Lx.out];simp only[go_sem,hb3];(intro b5 hb5;try simp only[aB,aT,aV,ne_eq] at hb5);simp only[go_sem,hb3,hb5,hc0];(refine aP (OT.r 0 3) [] ?_;simp only[go_sem,hb3,hb5]);simp only[go_sem] at hk;exact aM hk aL
 | ok l =>
  rw[hl] at hk;simp only[Lx.out];have h00:Fault.none.code=0:=rfl;simp only[go_sem,hb3,Fault.none];(intro b5 hb5;try simp only[aB,aT,aV,ne_eq] at hb5);simp only[go_sem,hb3,hb5];refine aKU _ _ _ _ _ ?_;simp only[go_sem,hb3,hb5,eX (1+((x.count 10:Nat):Int)) (by omega) (by omega)];refine aKD _ x 10 _ _ (by omega) ?_;simp only[go_sem,hb3,hb5,eX ((x.length:Int)-mA x 10 x.length) (by omega) (by omega)];(intro b6 hb6;try simp only[aB,aT,aV,ne_eq] at hb6);simp only[go_sem,hb3,hb5,hb6];(refine aP (OT.l [0,1,2,4,3,5,6] .nil) [(3,[4])] ?_;simp only[go_sem,hb3,hb5,hb6]);(intro b7 hb7;try simp only[aB,aT,aV,ne_eq] at hb7);simp only[go_sem,hb3,hb5,hb6,hb7];have hk2:=hk b7 (by first|exact hb7.2.2.2|exact hb7.2.2);simp only[Fault.enc,Fault.cs,Fault.none] at hk2;exact aM hk2 aL
theorem aGV (x:aD) (hx:x.length≤4294967280) (hk:if 20000<x.length then KV s (.tuple [.nilp,Fault.enc ⟨3,[],0,0⟩]) else match iH dX true x with
  | .ok l=>∀ r,s.getO r=none→KV (s.setO r (bC l (cX x) (aE eB mC) qV 0 0)) (.tuple [.ptr r 0,Fault.none.enc])
  | .bad f=>KV s (.tuple [.nilp,f.enc])):Den cx 37 [.str x] KV Kp s:=by
 (refine aZ func37 [0,2,3,6] ?_;simp only[go_sem,ntmps37,f37]);(intro b3 hb3;try simp only[aB,aT,aV,ne_eq] at hb3);simp only[go_sem,hb3];cases c:decide ((20000:Int)<(x.length:Int)) with
 | true =>
  rw[if_pos (by simp at c;omega)] at hk;simp only[go_sem,hb3,c];simp only[go_sem] at hk;exact aM hk aL
 | false =>
  rw[if_neg (by simp at c;omega)] at hk;simp only[go_sem,hb3,c];refine aLX x hx ?_;cases hl:iH dX true x with
  | bad f =>
   rw[hl] at hk;simp only at hk ⊢;simp only[go_sem,hb3];simp only[go_sem] at hk;exact aM hk aL
  | ok l =>
   rw[hl] at hk;simp only at hk ⊢;intro r hr;have hk2:=hk r (by have:=hr;rw[aJ] at this;split at this;cases this;exact this);have e3:b3≠r:=fun e=>by subst e;rw[aJ,if_pos rfl] at hr;cases hr
   simp only[Fault.enc,Fault.cs,Fault.none] at hk2 ⊢;have e3S:=e3.symm;simp only[go_sem,hb3,e3,e3.symm];exact aM hk2 aL
theorem aHo (x:aD) (hx:x.length≤4294967280) (hk:KV s (.tuple [(pW x).1.enc,(pW x).2.enc])):Den cx 15 [.str x] KV Kp s:=by
 have zd:A.le (.agg [.str [],.nils,.nils,.nils,.nils,.nils,.nils,.nils,.str [],.nils,.nils,.str [],.str []]) eB.enc:=yN eB mC (s:=s) xM;(refine aZ func15 [0,2,3,4,5,13] ?_;simp only[go_sem,ntmps15,f15]);(intro b2 hb2;try simp only[aB,aT,aV,ne_eq] at hb2);simp only[go_sem,hb2];(intro b3 hb3;try simp only[aB,aT,aV,ne_eq] at hb3);simp only[go_sem,hb2,hb3];refine aGV x hx ?_;unfold pW at hk;split
 ·rename_i c;rw[if_pos c] at hk;simp only[go_sem,hb2,hb3];(intro b5 hb5;try simp only[aB,aT,aV,ne_eq] at hb5);simp only[go_sem,hb2,hb3,hb5];(refine aP (OT.r 0 4) [(2,[1])] ?_;simp only[go_sem,hb2,hb3,hb5]);exact DK.mk hk aL (A.le.tuple ⟨zd,aK _,trivial⟩)
 ·rename_i c;rw[if_neg c] at hk;unfold aE3 at hk;cases hl:iH dX true x with
  | bad f =>
   rw[hl] at hk;have hc0:decide (f.code=0)=false:=by rw[aBU hl];rfl
   simp only at hk ⊢;simp only[go_sem,hb2,hb3];(intro b5 hb5;try simp only[aB,aT,aV,ne_eq] at hb5);simp only[go_sem,hb2,hb3,hb5,hc0];(refine aP (OT.r 0 4) [(2,[1])] ?_;simp only[go_sem,hb2,hb3,hb5]);simp only[go_sem] at hk;exact DK.mk hk aL (A.le.tuple ⟨zd,aK _,trivial⟩)
  | ok T =>
   rw[hl] at hk;simp only at hk ⊢;intro r hr;simp only[aV,ne_eq] at hr;simp only[go_sem,hb2,hb3,hr,Fault.none];(intro b5 hb5;try simp only[aB,aT,aV,ne_eq] at hb5);simp only[go_sem,hb2,hb3,hr,hb5];refine aOc (T:=T) (fin:=cX x) (aFc hx hl) gH ?_;unfold aFG;cases hd:tN false (cX x) T with
   | bad f =>
    rw[hd] at hk;simp only at hk ⊢;intro o;simp only[go_sem,hb2,hb3,hr,hb5];simp only[go_sem] at hk;exact aM hk aL
   | ok d w n =>
    rw[hd] at hk;simp only at hk ⊢;intro o;simp only[go_sem,hb2,hb3,hr,hb5];simp only[go_sem] at hk;exact aM hk aL
theorem aMM (x:aD) (hx:x.length≤4294967280) (hk:KV s (.tuple [(yW x).1.enc,(yW x).2.enc])):Den cx 18 [.str x] KV Kp s:=by
 have zt:A.le (.agg [.int .i64 0,.int .i64 0,.str [],.str [],.nils,.nils]) mF.enc:=Tm.le_leaf 0 0 [] [];refine Den.drop ?_;refine aF2 aG5 aJo func18 rfl rfl (kP rfl) ?_;refine ExD.seq ?_;refine bV (V:=[0,2,3,4,5,13,27]) _ _ _ _ ?_;simp only[go_sem,ntmps18,f18];(intro b2 hb2;try simp only[aB,aT,aV,ne_eq] at hb2);simp only[go_sem,ntmps18,f18,hb2];(intro b3 hb3;try simp only[aB,aT,aV,ne_eq] at hb3);simp only[go_sem,ntmps18,f18,hb2,hb3];refine ExD.seq ?_;refine bV (V:=[0,2,3,4,5,13,27]) _ _ _ _ ?_;simp only[go_sem,ntmps18,f18,hb2,hb3];refine aGV x hx ?_;unfold yW at hk;split
 ·rename_i c;rw[if_pos c] at hk;simp only[go_sem,ntmps18,f18,hb2,hb3];refine ExD.seq ?_;refine bV (V:=[0,2,3,4,5,13,27]) _ _ _ _ ?_;simp only[go_sem,ntmps18,f18,hb2,hb3];(refine aP (OT.r 0 4) [(2,[1])] ?_;simp only[go_sem,ntmps18,f18,hb2,hb3]);exact DK.mk hk aL (A.le.tuple ⟨zt,aK _,trivial⟩)
 ·rename_i c;rw[if_neg c] at hk;cases hl:iH dX true x with
  | bad f =>
   rw[hl] at hk;have hc0:decide (f.code=0)=false:=by rw[aBU hl];rfl
   simp only at hk ⊢;simp only[go_sem,ntmps18,f18,hb2,hb3];refine ExD.seq ?_;refine bV (V:=[0,2,3,4,5,13,27]) _ _ _ _ ?_;simp only[go_sem,ntmps18,f18,hb2,hb3,hc0];(refine aP (OT.r 0 4) [(2,[1])] ?_;simp only[go_sem,ntmps18,f18,hb2,hb3]);simp only[go_sem] at hk;exact DK.mk hk aL (A.le.tuple ⟨zt,aK _,trivial⟩)
  | ok T =>
   rw[hl] at hk;have hT:=aFc hx hl;have hlenT:=hT.len;simp only at hk ⊢;intro r hr;simp only[aV,ne_eq] at hr;simp only[go_sem,hb2,hb3,ntmps18,f18,hr,Fault.none];refine ExD.seq ?_;refine bV (V:=[0,2,3,4,5,13,27]) _ _ _ _ ?_;simp only[go_sem,hb2,hb3,ntmps18,f18,hr];refine ExD.defer (by rfl) (b:=b3) (by simp only[go_sem,hb2,hb3,ntmps18,f18,hr]) ?_;refine bV (V:=[0,2,3,4,5,13,27]) _ _ _ _ ?_;simp only[go_sem,hb2,hb3,ntmps18,f18,hr];have n23:b2≠b3:=by first|exact hb3.1.1|exact hb3.1
   have hrb2:r≠b2:=fun e=>hr.2.1.2 e
   have hrb3:r≠b3:=fun e=>hr.1.2 e
   have hs:s.getO r=none:=hr.2.2
   have bad:∀ (f:Fault) (s1:St) (e:Env),e.get 2=some (.ptr b2 0)→e.get 3=some (.ptr b3 0)→KV s (.tuple [mF.enc,f.enc]) →
     s1.getO b2=some (.cells 43 [.int .i64 0,.int .i64 0,.str [],.str [],.nils,.nils])→s1.getO b3=some (.cells 36 [.int .i64 0,.str [],.int .i64 0,.int .i64 0])→s1.ge s →
     vB cx [ResultVar.cell 2 43,ResultVar.cell 3 36] (DK KV) (DK Kp) (some b3) (.panic (.iface 36 f.enc)) e s1:=by
    intro f s1 e g2 g3 hb q2 q3 hg;simp only[go_sem,q2,q3,n23,n23.symm,g2,g3];refine ⟨f.cs,_,rfl,rfl,rfl,rfl,?_⟩;simp only[go_sem,q2,q3,n23,n23.symm,g2,g3];simp only[go_sem] at hb;exact DK.mk hb (mT (sX (by first|exact hb3.2|exact hb3.2.2) (aBx hg _ _))) (A.le.tuple ⟨zt,aK _,trivial⟩)
   have hk2:(gI false (cX x) T 0).to (fun t w _=>match w with|[]=>KV s (.tuple [t.enc,Fault.none.enc])|t::w=>KV s (.tuple [mF.enc,(eG (cX x) 11 (t::w)).enc])) (fun f=>KV s (.tuple [mF.enc,f.enc])):=by
    revert hk;cases gI false (cX x) T 0 with
    | bad f=>exact id
    | ok t w n=>cases w<;>exact id
   refine rP (d:=aE eB mC) (T:=T) (fin:=cX x) (first:=qV) (i:=0) (n:=0) hT (by simp only[aJ,dN,gE,aT,ne_eq,dK,reduceIte,hb2,hb3,ntmps18,f18,hr]<;>(first|done|rfl|assumption)) (bS _) (bS _) (aW (show (gI false (cX x) (T.drop 0) 0).to _ _ from hk2) (fun t w m hk3 j hj hjT hw hm=>?_) (fun f h o=>?_));rotate_left
   ·refine bad f _ _ rfl rfl h ?_ ?_ ?_
    ·exact (by simp only[aJ,dN,gE,aT,ne_eq,dK,reduceIte,hb2,hb3,ntmps18,f18,hr,hrb2,hrb3,hrb2.symm,hrb3.symm,n23,n23.symm]<;>(first|done|rfl|assumption))
    ·exact (by simp only[aJ,dN,gE,aT,ne_eq,dK,reduceIte,hb2,hb3,ntmps18,f18,hr,hrb2,hrb3,hrb2.symm,hrb3.symm,n23,n23.symm]<;>(first|done|rfl|assumption))
    ·exact aL
   simp only[go_sem,hb2,hb3,ntmps18,f18,hr,bO];(intro b5 hb5;try simp only[aB,aT,aV,ne_eq] at hb5);simp only[go_sem,hb2,hb3,ntmps18,f18,hr,hb5];(refine aP (OT.r 0 10) [] ?_;simp only[go_sem,hb2,hb3,ntmps18,f18,hr,hb5]);cases hc:decide (j<T.length) with
   | true =>
    have hlt:j<T.length:=by simpa using hc
    cases w with
    | nil=>exfalso;have:=congrArg List.length hw;rw[cP,aH] at this;omega
    | cons t2 w2 =>
     simp only[go_sem,hb2,hb3,ntmps18,f18,hr,hb5];refine nZ (d:=aE eB mC) (T:=T) (fin:=cX x) (first:=qV) (i:=j) (n:=m) 11 (by simp only[aJ,dN,gE,aT,ne_eq,dK,reduceIte,hb2,hb3,ntmps18,f18,hr,hb5]<;>(first|done|rfl|assumption)) hjT hT ?_;rw[hw];refine bad _ _ _ rfl rfl hk3 ?_ ?_ ?_
     ·exact (by simp only[aJ,dN,gE,aT,ne_eq,dK,reduceIte,hb2,hb3,ntmps18,f18,hr,hb5,hrb2,hrb3,hrb2.symm,hrb3.symm,n23,n23.symm]<;>(first|done|rfl|assumption))
     ·exact (by simp only[aJ,dN,gE,aT,ne_eq,dK,reduceIte,hb2,hb3,ntmps18,f18,hr,hb5,hrb2,hrb3,hrb2.symm,hrb3.symm,n23,n23.symm]<;>(first|done|rfl|assumption))
     ·exact aL
   | false =>
    have hge:¬ j<T.length:=by simpa using hc
    cases w with
    | cons t2 w2=>exfalso;have:=congrArg List.length hw;rw[cP,aF] at this;omega
    | nil =>
     simp only[bO] at hk3;simp only[go_sem,hb2,hb3,ntmps18,f18,hr,hb5];(refine aP (OT.r 0 4) [(2,[1])] ?_;simp only[go_sem,hb2,hb3,ntmps18,f18,hr,hb5]);simp only[go_sem] at hk3;exact aM hk3 aL
end
end
section
section
variable {s:St} {KV Kp:St→A→Prop}
theorem aIg (x:aD):∀ n,n≤x.length→((bY (1,1) (x.take n)).1:Int)=1+((x.take n).count 10:Nat)∧((bY (1,1) (x.take n)).2:Int)=n-mA x 10 n
 | 0,_=>by simp[bY,mA]
 | n+1,h=>by
  obtain ⟨h1,h2⟩:=aIg x n (by omega);obtain ⟨c,hc⟩:∃ c,x[n]?=some c:=⟨_,cH (by omega)⟩
  rw[sJ,hc,vT];simp only[Option.toList,bY,mA,hc,List.count_append,List.count_singleton];by_cases h10:c=10
  ·subst h10;simp;omega
  ·have e:¬ (some c=some (10:UInt8)):=fun e=>h10 (sM e)
   have e2:(c == 10)=false:=by simpa using h10
   rw[if_neg h10,if_neg e];simp[e2];omega
theorem aMI (x:aD) (hx:x.length≤4294967280) (hk:KV s (.tuple [.int .i64 (cX x).line,.int .i64 (cX x).col])):Den cx 43 [.str x] KV Kp s:=by
 (refine aZ func43 [0,2,3,4] ?_;simp only[go_sem,ntmps43,f43]);(intro b1 hb1;try simp only[aB,aT,aV,ne_eq] at hb1);simp only[go_sem,hb1];refine aBq (i:=0) (l:=1) (c:=1) (sg:=.nils) (out:=.nils) (f:=Fault.none) (w:=x) x.length (by first|exact gH|rfl) hx (by omega) (by omega) (by omega) ?_;obtain ⟨h1,h2⟩:=aIg x x.length (bE _);have e1:(((bY (1,1) (List.take x.length (List.drop 0 x))).1:Nat):Int)=(cX x).line:=by rw[rL,h1,List.take_length];rfl
 have e2:(((bY (1,1) (List.take x.length (List.drop 0 x))).2:Nat):Int)=(cX x).col:=by rw[rL,h2];rfl
 simp only[go_sem,hb1];(refine aP (OT.r 0 10) [] ?_;simp only[go_sem,hb1]);rw[rL] at e1 e2;rw[e1,e2];exact aM hk aL
def aFm:Dc:=⟨[],.nils,.nils,.nils,.nils,.nils,.nils,.nils,[],.nils,.nils,[],[]⟩
attribute [go_sem] aFm
end
end
section
section
variable {α β σ:Type} {fin:Fault} {first:Tok} {v v' n k:Nat} {w:List Tok}
def Lk (v:Nat) (r1 r2:Rd α):Prop:=r1=r2∧∀ a w n,r2=.ok a w n→2 * n+w.length≤v
theorem Lk.bad (f:Fault):Lk v (.bad f:Rd α) (.bad f):=⟨rfl,fun _ _ _ e=>by cases e⟩
theorem Lk.ok {a:α} (h:2 * n+w.length≤v):Lk v (.ok a w n) (.ok a w n):=⟨rfl,fun _ _ _ e=>by cases e;exact h⟩
theorem Lk.bind {r1 r2:Rd α} {k1 k2:α→List Tok→Nat→Rd β} (h:Lk v r1 r2) (hk:∀ a w n,2 * n+w.length≤v→Lk v' (k1 a w n) (k2 a w n)):Lk v' (r1.bind k1) (r2.bind k2):=by
 obtain ⟨rfl,h2⟩:=h;cases r1 with
 | bad f=>exact Lk.bad _
 | ok a w n=>exact hk a w n (h2 a w n rfl)
theorem Lk.ite {c:Prop} [Decidable c] {a1 a2 b1 b2:Rd α} (h1:c→Lk v a1 a2) (h2:¬ c→Lk v b1 b2):Lk v (if c then a1 else b1) (if c then a2 else b2):=by
 by_cases h:c
 ·rw[if_pos h,if_pos h];exact h1 h
 ·rw[if_neg h,if_neg h];exact h2 h
theorem Lk.mono {r1 r2:Rd α} (h:Lk v r1 r2) (hv:v≤v'):Lk v' r1 r2:=⟨h.1,fun a w n e=>aU (h.2 a w n e) hv⟩
theorem qN {x:aD} (h:bI x w=true):w.tail.length+1=w.length:=by
 cases w with
 | nil=>cases h
 | cons t w=>rfl
theorem aB7 {x:aD} (h:2 * n+w.length≤v+1):Lk v (cV fin x w n) (cV fin x w n):=by
 unfold cV;exact Lk.ite (fun c=>Lk.ok (by have:=qN c;omega)) (fun _=>Lk.bad _)
theorem aOV (h:2 * n+w.length≤v+1):Lk v (dS fin w n) (dS fin w n):=by
 cases w with
 | nil=>exact Lk.bad _
 | cons t w =>
  simp only[dS,aF] at h ⊢;exact Lk.ite (fun _=>Lk.ok (by omega)) (fun _=>Lk.bad _)
theorem aIv (h:2 * n+2+w.length≤v):Lk v (oG first w n) (oG first w n):=by
 unfold oG;exact Lk.ite (fun _=>Lk.bad _) (fun _=>Lk.ok (by omega))
theorem aOI {last:Bool} {sort:aD} (h:2 * n+w.length≤v):Lk v (nP fin first last sort w n) (nP fin first last sort w n):=by
 unfold nP;refine Lk.ite (fun c=>?_) (fun _=>Lk.ok h);have hl:=qN c;cases hw:w.tail with
 | nil=>exact Lk.bad _
 | cons t w1 =>
  rw[hw] at hl;simp only[aF] at hl;simp only;exact Lk.ite (fun _=>Lk.ite (fun _=>Lk.bad _) (fun _=>Lk.bind (aIv (v:=v) (by omega)) (fun _ w n h=>Lk.ok h))) (fun _=>Lk.bad _)
theorem aB0 {x:aD} {B:Nat} {one1 one2:σ→List Tok→Nat→Rd σ} (hb:∀ a w n,2 * n+w.length≤B→Lk (2 * n+w.length+1) (one1 a w n) (one2 a w n)) :
  ∀ (f:Nat) (a:σ) (w:List Tok) (n v:Nat),2 * n+w.length≤B→2 * n+w.length≤v→Lk (v+1) (dH fin x one1 f a w n) (dH fin x one2 f a w n)
 | 0,a,w,n,v,_,_=>Lk.bad _
 | f+1,a,w,n,v,h1,h2=>by
  simp only[dH];refine Lk.bind (hb a w n h1) (fun a' w' n' h=>?_);exact Lk.ite (fun c=>aB0 hb f a' _ n' v (by have:=qN c;omega) (by have:=qN c;omega)) (fun _=>Lk.ok (by omega))
theorem aPZ {tm1 tm2:List Tok→Nat→Rd Tm} (htm:∀ w n,2 * n+w.length+k≤3900→Lk (2 * n+w.length+1) (tm1 w n) (tm2 w n)) (acc:List Tm) (h:2 * n+w.length+k≤3900) :
  Lk (2 * n+w.length+1) (kO true fin first tm1 acc w n) (kO false fin first tm2 acc w n):=by
 unfold kO;refine Lk.ite (fun _=>?_) (fun _=>htm w n h);cases w with
 | nil=>exact Lk.bad _
 | cons t w =>
  simp only;refine Lk.ite (fun _=>?_) (fun _=>htm _ n h);rw[if_neg (by omega),if_neg (by simp)];exact Lk.bad _
theorem aOa {tm1 tm2:List Tok→Nat→Rd Tm} (htm:∀ w n,2 * n+w.length+k≤3900→Lk (2 * n+w.length+1) (tm1 w n) (tm2 w n)) (t:Tok) (hv:v+k≤3900) (h:2 * n+w.length≤v) :
  Lk v (qQ true fin first tm1 t w n) (qQ false fin first tm2 t w n):=by
 unfold qQ;refine Lk.ite (fun _=>Lk.ok h) (fun _=>Lk.ite (fun _=>Lk.ok h) (fun _=>Lk.ite (fun c=>?_) (fun _=>?_)))
 ·exact Lk.bind (aOV (v:=v) (by have:=qN c;omega)) (fun _ w n h=>Lk.ok h)
 ·refine Lk.bind (aB7 (v:=v-1) (by omega)) (fun _ w n h2=>Lk.ite (fun c=>Lk.ok (by have:=qN c;omega)) (fun _=>?_));unfold jX;refine Lk.bind (aB0 (B:=3900-k) (fun a w n h3=>Lk.bind (aPZ htm a (by omega)) (fun _ w n h=>Lk.ok h)) _ _ w n (v-1) (by omega) (by omega)) (fun l w n h4=>?_);exact Lk.bind (aB7 (v:=v) (by omega)) (fun _ w n h=>Lk.ok h)
theorem aPo {tm1 tm2:List Tok→Nat→Rd Tm} (htm:∀ w n,2 * n+w.length+k≤3900→Lk (2 * n+w.length+1) (tm1 w n) (tm2 w n)) (acc:List Tm) (h:2 * n+w.length+k≤3900) :
  Lk (2 * n+w.length+1) (rD fin tm1 acc w n) (rD fin tm2 acc w n):=by
 unfold rD;refine Lk.bind (htm w n h) (fun a w1 n1 h1=>Lk.bind (aB7 (v:=2 * n+w.length) (by omega)) (fun _ w2 n2 h2=>Lk.bind ((htm w2 n2 (by omega)).mono (v':=2 * n+w.length+1) (by omega)) (fun b w3 n3 h3=>Lk.ok (by omega))))
theorem aIZ {r1 r2:Rd (List Tm)} {last:Bool} {sort:aD} {x:aD} {kind:Int} (h:Lk (v+1) r1 r2) :
  Lk v (r1.bind fun l w n=>(nP fin first last sort w n).bind fun r w n=>(cV fin x w n).bind fun _ w n=>.ok (Tm.mk kind 0 [] [] l r) w n)
   (r2.bind fun l w n=>(nP fin first last sort w n).bind fun r w n=>(cV fin x w n).bind fun _ w n=>.ok (Tm.mk kind 0 [] [] l r) w n) :=
 Lk.bind h (fun l w n h1=>Lk.bind (aOI h1) (fun r w n h2=>Lk.bind (aB7 (v:=v) h2) (fun _ w n h=>Lk.ok h)))
theorem aMB {tm1 tm2:List Tok→Nat→Rd Tm} (htm:∀ w n,2 * n+w.length+k≤3900→Lk (2 * n+w.length+1) (tm1 w n) (tm2 w n)) (last:Bool) (t:Tok) (hv:v+k≤3900) (h:2 * n+w.length≤v) :
  Lk v (pG fin first tm1 last t w n) (pG fin first tm2 last t w n):=by
 unfold pG;refine Lk.ite (fun _=>?_) (fun _=>Lk.ite (fun _=>?_) (fun _=>Lk.ite (fun _=>aIZ (Lk.ite (fun _=>Lk.ok (by omega)) (fun _=>?_))) (fun _=>Lk.ite (fun _=>aIZ (Lk.ite (fun _=>Lk.ok (by omega)) (fun _=>?_))) (fun _=>Lk.ok h))))
 ·cases w with
  | nil=>exact Lk.bad _
  | cons u w=>simp only[aF] at h ⊢;exact Lk.ite (fun _=>Lk.ok (by omega)) (fun _=>Lk.bad _)
 ·cases w with
  | nil=>exact Lk.bad _
  | cons u w=>simp only[aF] at h ⊢;exact Lk.ite (fun _=>Lk.ok (by omega)) (fun _=>Lk.bad _)
 ·unfold jX;exact aB0 (B:=3900-k) (fun a w n h3=>Lk.bind (htm w n (by omega)) (fun _ w n h=>Lk.ok h)) _ _ w n v (by omega) h
 ·exact aB0 (B:=3900-k) (fun a w n h3=>aPo htm a (by omega)) _ _ w n v (by omega) h
theorem aIm:∀ (k:Nat) (w:List Tok) (n:Nat),2 * n+w.length+k≤3900→Lk (2 * n+w.length+1) (eE true fin first k w n) (eE false fin first k w n)
 | k,[],n,_=>by cases k<;>exact Lk.bad _
 | 0,t::w,n,_=>by simp only[eE];exact Lk.ite (fun _=>Lk.bad _) (fun _=>Lk.bad _)
 | k+1,t::w,n,h=>by
  have ih:=aIm k;simp only[aF] at h;simp only[eE,aF];refine Lk.ite (fun _=>Lk.bind (aIv (v:=2 * n+(w.length+1)+1) (by omega)) (fun _ w1 n1 h1=>?_)) (fun _=>Lk.bad _);refine Lk.ite (fun _=>Lk.ok h1) (fun _=>Lk.ite (fun _=>Lk.ok h1) (fun _=>Lk.ite (fun _=>?_) (fun _=>?_)))
  ·exact aOa ih t (by omega) h1
  ·exact aMB ih _ t (by omega) h1
theorem aNc (h:w.length≤3001):gI true fin w n=gI false fin w n:=by
 cases w with
 | nil=>rfl
 | cons t w =>
  simp only[gI];rw[(aIm (fin:=fin) (first:=t) 60 (t::w) 0 (by omega)).1]
end
end
section
section
variable {T:List Tok} {fin:Fault} {α β σ:Type} {N:Nat} {q:RQ T} {w:List Tok} {n:Nat}
structure AtI (q:RQ T) (w:List Tok):Prop where
 ok:q.ok=true
 dr:T.drop q.at_=w
 ov:q.over=false
theorem AtI.at (h:AtI q w):At ({ q with first:=0,nodes:=0 }:RQ T) 0 w 0:=⟨h.ok,h.dr,rfl,rfl,h.ov,by omega⟩
theorem At.i {fi n:Nat} (h:At q fi w n):AtI q w:=⟨h.ok,h.dr,h.ov⟩
def SimI:Rd α→α × RQ T→Prop
 | .ok a w n,p=>p.1=a∧AtI p.2 w
 | .bad f,p=>p.2.f=f∧p.2.ok=false
theorem SimI.bad {f:Fault} {p:α × RQ T} (h:p.2.f=f) (hf:f.code≠0):SimI (.bad f) p:=⟨h,by unfold RQ.ok;rw[h];exact eL hf⟩
theorem SimI.done {a:α} (h:AtI q w):SimI (.ok a w n) (a,q):=⟨rfl,h⟩
theorem SimI.bind {r:Rd α} {p:α × RQ T} {k:α→List Tok→Nat→Rd β} {K:α→RQ T→β × RQ T} (h:SimI r p) (hs:Stick (K p.1))
  (hk:∀ w n,r=.ok p.1 w n→AtI p.2 w→SimI (k p.1 w n) (K p.1 p.2)):SimI (r.bind k) (K p.1 p.2):=by
 cases r with
 | bad f =>
  have e:=hs p.2 h.2;exact ⟨e.trans h.1,by rw[nK e];exact h.2⟩
 | ok a w n =>
  obtain ⟨rfl,h2⟩:=h;exact hk w n rfl h2
theorem Stick.id {a:α}:Stick (fun q:RQ T=>(a,q)):=fun q h=>rfl
theorem aL8 {F:RQ T→α × RQ T} {G:α→RQ T→β × RQ T} (h:Stick F) (g:∀ a,Stick (G a)):Stick (fun q=>G (F q).1 (F q).2):=fun q hq=>by
 have h1:=h q hq;exact (g _ _ (by rw[nK h1];exact hq)).trans h1
theorem Stick.pre {F:RQ T→RQ T} {G:RQ T→β × RQ T} (h:∀ q:RQ T,q.ok=false→(F q).f=q.f) (g:Stick G):Stick (fun q=>G (F q)):=fun q hq =>
 (g _ (by rw[nK (h q hq)];exact hq)).trans (h q hq)
theorem dO:Stick (bB (T:=T) fin):=fun q h=>by rw[aHD h]
theorem aL5 (k:Int) (x:aD) (q:RQ T) (h:q.ok=false):(aY fin k x q).f=q.f:=by rw[xN _ _ h]
theorem inc_f (q:RQ T):q.inc.f=q.f:=by unfold RQ.inc;split<;>rfl
theorem yG (q:RQ T):q.inc.ok=q.ok:=nK (inc_f q)
theorem eJ:Stick (eA (T:=T) fin):=fun q h=>by
 unfold eA;have h2:({ q with first:=q.at_,nodes:=0 }:RQ T).ok=false:=h;rw[aHy _ h2]
theorem eO {x:aD} {body:σ→RQ T→σ × RQ T} (f:Nat) (more:Bool) (a:σ):Stick (cK x body f more a):=fun q h=>by rw[aBy _ _ _ h]
theorem aD3 {c:RQ T→Bool} {body:σ→RQ T→σ × RQ T} (hc:∀ q:RQ T,q.ok=false→c q=false) (f:Nat) (a:σ) (q:RQ T) (h:q.ok=false):bR c body f a q=(a,q):=by
 cases f with
 | zero=>rfl
 | succ f=>unfold bR;rw[hc q h];rfl
theorem rM {c:RQ T→Bool} {body:σ→RQ T→σ × RQ T} (hc:∀ q:RQ T,q.ok=false→c q=false) (f:Nat) (a:σ):Stick (bR c body f a):=fun q h=>by rw[aD3 hc _ _ _ h]
theorem eP (m:Int):Stick (gS (T:=T) fin m):=fun q h=>by
 unfold gS;rw[aBG _ h,if_neg (by decide)];exact congrArg RQ.f (sV _ _ _ h)
theorem eU:Stick (iA (T:=T) fin):=fun q h=>by
 unfold iA;rw[oC _ _ h];rfl
theorem rY {t:Tok} (h:AtI q (t::w)):q.at_<T.length∧q.tok=t∧T[q.at_]?=some t∧T.drop (q.at_+1)=w:=(lN h.at :)
theorem uU (h:AtI q w):w.length=T.length-q.at_:=(aAG h.at :)
theorem kM {t:Tok} (h:AtI q (t::w)):AtI q.inc w:=by
 obtain ⟨h1,_,_,h4⟩:=rY h;have e:q.inc={ q with at_:=q.at_+1,le:=h1 }:=by unfold RQ.inc;rw[dif_pos h1]
 rw[e];exact ⟨h.ok,h4,h.ov⟩
theorem qT (h:AtI q w) (code:Int) (hc:code≠0) (hfin:fin.code≠0):(cJ fin code q.at_ true q).f=eG fin code w∧(cJ fin code q.at_ true q).ok=false:=by
 have h2:=mS h.at code hc hfin
 have e:(cJ fin code q.at_ true q).f=(cJ fin code q.at_ true ({ q with first:=0,nodes:=0 }:RQ T)).f:=by
  unfold cJ;rw[if_pos h.ok,if_pos (show ({ q with first:=0,nodes:=0 }:RQ T).ok=true from h.ok)]
 exact ⟨e.trans h2.1,(nK e).trans h2.2⟩
theorem aCG (h:AtI q w) (hfin:fin.code≠0):(cJ fin 3 q.at_ false q).f=kG fin w∧(cJ fin 3 q.at_ false q).ok=false:=by
 have h2:=aPD h.at hfin
 have e:(cJ fin 3 q.at_ false q).f=(cJ fin 3 q.at_ false ({ q with first:=0,nodes:=0 }:RQ T)).f:=by
  unfold cJ;rw[if_pos h.ok,if_pos (show ({ q with first:=0,nodes:=0 }:RQ T).ok=true from h.ok)]
 exact ⟨e.trans h2.1,(nK e).trans h2.2⟩
theorem qP (h:AtI q []) (k:Int) (x:aD):aS k x q=false:=(yC h.at k x :)
theorem qC {t:Tok} (h:AtI q (t::w)) (k:Int) (x:aD):aS k x q=(decide (t.kind=k)&&decide (t.text=x)):=(vP h.at k x :)
theorem aHw (h:AtI q []) (k:Int):fS k q=false:=(aEb h.at k :)
theorem vY {t:Tok} (h:AtI q (t::w)) (k:Int):fS k q=decide (t.kind=k):=(aD6 h.at k :)
theorem zX (h:AtI q []):cN q=false:=(aBp h.at :)
theorem sU {t:Tok} (h:AtI q (t::w)):cN q=t.free:=(aBf h.at :)
theorem aCn {t:Tok} (h:AtI q (t::w)):t∈T:=(uN h.at :)
theorem aNk (hW:∀ t,t∈T→TokW N t) {t:Tok} (h:AtI q (t::w)):iL q=t.begins:=(aBo hW h.at :)
theorem aLj (h:AtI q []):iL q=false:=(zZ h.at :)
theorem aDY {t:Tok} (ht:TokW N t) {x:aD} (hx:∃ c r,x=c::r∧gJ c.toNat=true):dC t x=(decide (t.kind=1)&&decide (t.text=x)):=by
 obtain ⟨c,r,rfl,hc⟩:=hx;unfold dC;by_cases h4:t.kind=4
 ·have:¬ t.text=c::r:=by
   intro e;rcases ht.kind with ⟨h,_⟩|⟨h,_⟩|h|⟨_,h⟩
   ·omega
   ·omega
   ·omega
   ·rw[e] at h
    have k:∀ y:aD,y∈dX∨y=[39]∨y=[95]→∀ d z,y=d::z→gJ d.toNat=false:=by
     intro y hy d z e;simp only[dX,iR,List.mem_nil_iff,oA] at hy;rcases hy with (rfl|rfl|rfl|rfl|rfl|rfl|rfl|rfl|rfl|rfl|rfl|rfl|rfl|rfl|rfl|rfl|rfl|rfl)|rfl|rfl
     all_goals (cases e;decide)
    rw[k _ h c r rfl] at hc;cases hc
  simp[this]
 ·simp[h4]
theorem aFd (hfin:fin.code≠0) (h:AtI q w):SimI (dS fin w n) (bB fin q):=by
 cases w with
 | nil =>
  simp only[dS,bB,zX h,bN,if_false];exact qT h 11 (by decide) hfin
 | cons t w =>
  simp only[dS,bB,sU h];by_cases hc:t.free=true
  ·simp only[hc,if_true,(rY h).2.1];exact ⟨rfl,kM h⟩
  ·simp only[hc,if_false];exact qT h 11 (by decide) hfin
theorem aI4 (hW:∀ t,t∈T→TokW N t) (hfin:fin.code≠0) (x:aD) (hx:pZ x) (hne:x≠[]) (h:AtI q w):SimI (cV fin x w n) ((),aY fin 4 x q):=by
 cases w with
 | nil =>
  simp only[cV,bI,bN,if_false,aY,qP h];exact qT h 11 (by decide) hfin
 | cons t w =>
  simp only[cV,bI,aY,qC h,xF (hW t (aCn h)) hx hne];by_cases hc:(decide (t.kind=4)&&decide (t.text=x))=true
  ·simp only[hc,if_true];exact ⟨rfl,kM h⟩
  ·simp only[hc,if_false];exact qT h 11 (by decide) hfin
theorem aCF (hW:∀ t,t∈T→TokW N t) (x:aD) (hx:pZ x) (hne:x≠[]) (h:AtI q w):aS 4 x q=bI x w:=by
 cases w with
 | nil=>rw[qP h];rfl
 | cons t w=>rw[qC h,bI,xF (hW t (aCn h)) hx hne]
theorem aAA (hW:∀ t,t∈T→TokW N t) (x:aD) (hx:∃ c r,x=c::r∧gJ c.toNat=true) (h:AtI q w):aS 1 x q=bI x w:=by
 cases w with
 | nil=>rw[qP h];rfl
 | cons t w=>rw[qC h,bI,aDY (hW t (aCn h)) hx]
theorem aAB {x:aD} (h:AtI q w) (hx:bI x w=true):AtI q.inc w.tail:=by
 cases w with
 | nil=>cases hx
 | cons t w=>exact kM h
theorem aIV (hW:∀ t,t∈T→TokW N t) (hN:N≤4294967296) (hT:T.length≤3001) (hfin:fin.code≠0) (h:AtI q w) :
  SimI (gI false fin w n) (eA fin q)∧∀ a' w' n',gI false fin w n=.ok a' w' n'→w'.length<w.length:=by
 have hl:w.length≤3001:=by rw[uU h];omega
 rw[← aNc (fin:=fin) (w:=w) (n:=n) hl];have h0:At ({ q with first:=q.at_,nodes:=0 }:RQ T) q.at_ w 0:=⟨h.ok,h.dr,rfl,rfl,h.ov,by omega⟩;cases w with
 | nil =>
  refine ⟨?_,fun a' w' n' e=>by simp only[gI] at e;cases e⟩;simp only[gI];unfold eA cU;rw[zZ h0,if_neg (by decide)];have:=mS (fin:=fin) h0 11 (by decide) hfin;exact this
 | cons t w =>
  have hs:=aHK (fin:=fin) hW hN hfin (fi:=q.at_) (first:=t) (rY h).2.2.1 60 (by omega) _ (t::w) 0 h0;simp only[gI];unfold eA;cases hr:eE true fin t 60 (t::w) 0 with
  | bad f=>rw[hr] at hs;exact ⟨hs.1,fun a' w' n' e=>by cases e⟩
  | ok a w2 m =>
   rw[hr] at hs;exact ⟨⟨hs.1.1,hs.1.2.i⟩,fun a' w' n' e=>by cases e;exact hs.2 a w2 m rfl⟩
end
end
section
section
variable {T:List Tok} {fin:Fault} {α β σ:Type} {N:Nat} {q:RQ T} {w:List Tok} {n:Nat}
def Sh (r:Rd α) (m:Nat):Prop:=∀ a w n,r=.ok a w n→w.length<m
theorem Sh.bad (f:Fault) (m:Nat):Sh (.bad f:Rd α) m:=fun a w n e=>by cases e
theorem Sh.ok {a:α} {w:List Tok} {n m:Nat} (h:w.length<m):Sh (.ok a w n) m:=fun _ _ _ e=>by cases e;exact h
theorem Sh.ite {c:Prop} [Decidable c] {r s:Rd α} {m:Nat} (h:c→Sh r m) (g:¬ c→Sh s m):Sh (if c then r else s) m:=by
 by_cases hc:c
 ·rw[if_pos hc];exact h hc
 ·rw[if_neg hc];exact g hc
theorem Sh.bind {r:Rd α} {k:α→List Tok→Nat→Rd β} {m m':Nat} (h:Sh r m) (hk:∀ a w n,w.length<m→Sh (k a w n) m'):Sh (r.bind k) m':=by
 cases r with
 | bad f=>exact .bad f m'
 | ok a w n=>exact hk a w n (h a w n rfl)
theorem Sh.mono {r:Rd α} {m m':Nat} (h:Sh r m) (hm:m≤m'):Sh r m':=fun a w n e=>Nat.lt_of_lt_of_le (h a w n e) hm
theorem aOJ:Sh (dS fin w n) w.length:=by
 cases w with
 | nil=>exact .bad _ _
 | cons t w=>exact .ite (fun _=>.ok (by simp)) (fun _=>.bad _ _)
theorem aIW (x:aD):Sh (cV fin x w n) w.length:=by
 unfold cV;refine .ite (fun h=>.ok ?_) (fun _=>.bad _ _);cases w with
 | nil=>cases h
 | cons t w=>simp
theorem aM4 (m:Int):Sh (nL fin m w n) w.length:=by
 cases w with
 | nil=>exact .bad _ _
 | cons t w=>exact .ite (fun _=>.ite (fun _=>.bad _ _) (fun _=>.ok (by simp))) (fun _=>.bad _ _)
theorem aFb (hW:∀ t,t∈T→TokW N t) (x:aD) (hx:pZ x) (hne:x≠[]) {one:σ→List Tok→Nat→Rd σ} {body:σ→RQ T→σ × RQ T} (I:σ→Prop)
  (hb:∀ a q w n,I a→AtI q w→SimI (one a w n) (body a q)∧∀ a' w' n',one a w n=.ok a' w' n'→w'.length<w.length∧I a') :
  ∀ (f g:Nat) (a:σ) (q:RQ T) (w:List Tok) (n:Nat),w.length<f→w.length<g→I a→AtI q w→SimI (dH fin x one f a w n) (cK x body g true a q)∧Sh (dH fin x one f a w n) w.length
 | 0,g,a,q,w,n,hf,_,_,_=>by omega
 | f+1,0,a,q,w,n,_,hg,_,_=>by omega
 | f+1,g+1,a,q,w,n,hf,hg,hI,h=>by
  obtain ⟨h1,h2⟩:=hb a q w n hI h
  have e:cK x body (g+1) true a q=cK x body g (dQ x (body a q).2).1 (body a q).1 (dQ x (body a q).2).2:=by
   conv=>lhs;unfold cK
   rw[h.ok];rfl
  rw[e];simp only[dH];cases ho:one a w n with
  | bad fl =>
   rw[ho] at h1;simp only[Rd.bind];have ec:dQ x (body a q).2=(false,(body a q).2):=by unfold dQ;rw[oC _ _ h1.2];rfl
   rw[ec,aBy _ _ _ h1.2];exact ⟨h1,.bad _ _⟩
  | ok a' w' n' =>
   rw[ho] at h1;obtain ⟨e1,h3⟩:=h1;obtain ⟨h4,h5⟩:=h2 a' w' n' ho;simp only[Rd.bind]
   have stop:∀ q',cK x body g false a' q'=(a',q'):=fun q'=>by cases g with
    | zero=>rfl
    | succ g=>unfold cK;rfl
   have hT:=aCF hW x hx hne h3;by_cases hc:bI x w'=true
   ·have ec:dQ x (body a q).2=(true,(body a q).2.inc):=by unfold dQ;rw[hT,if_pos hc]
    rw[ec,e1];simp only[hc,if_true];have hl:w'.tail.length+1=w'.length:=qN hc;have ih:=aFb hW x hx hne I hb f g a' _ w'.tail n' (by omega) (by omega) h5 (aAB h3 hc);exact ⟨ih.1,ih.2.mono (by omega)⟩
   ·have ec:dQ x (body a q).2=(false,(body a q).2):=by unfold dQ;rw[hT,if_neg hc]
    rw[ec,e1];simp only[hc,if_false,stop];exact ⟨⟨rfl,h3⟩,.ok h4⟩
theorem aPt (hW:∀ t,t∈T→TokW N t) {one:List α→List Tok→Nat→Rd α} {el:List α→RQ T→α × RQ T}
  (hb:∀ l q w n,AtI q w→SimI (one l w n) (el l q)∧Sh (one l w n) w.length) (acc:List α) (h:AtI q w) :
  SimI (jX fin one acc w n) (cK [44] (fun (l:List α) q=>let p:=el l q;(l++[p.1],p.2)) (T.length+2) true acc q)∧Sh (jX fin one acc w n) w.length:=by
 refine aFb hW [44] (fun c r e=>by cases e;decide) (by decide) (fun _=>True) (fun a q w n _ h=>⟨?_,fun a' w' n' e=>⟨?_,trivial⟩⟩) _ _ acc q w n (iU _) (by rw[uU h];omega) trivial h
 ·have h1:=(hb a q w n h).1;cases hr:one a w n with
  | bad f=>rw[hr] at h1;exact h1
  | ok b w' n'=>rw[hr] at h1;exact ⟨(show a++[(el a q).1]=a++[b] by rw[h1.1]),h1.2⟩
 ·have h2:=(hb a q w n h).2;cases hr:one a w n with
  | bad f=>rw[hr] at e;cases e
  | ok b w2 n2=>rw[hr] at e;simp only[Rd.bind,Rd.ok.injEq] at e;obtain ⟨_,rfl,_⟩:=e;exact h2 b _ n2 hr
theorem aJD {have_ most:Nat} {r:Rd α} {K:RQ T→α × RQ T} (hfin:fin.code≠0) (hs:Stick K) (h:AtI q w) (hr:¬ most≤have_→SimI r (K q)) :
  SimI (if most≤have_ then .bad (kG fin w) else r) (K (bG fin have_ most q)):=by
 unfold bG;by_cases hc:most≤have_
 ·rw[if_pos hc,if_pos hc];obtain ⟨h1,h2⟩:=aCG h hfin;have e:=hs _ h2;exact ⟨e.trans h1,(nK e).trans h2⟩
 ·rw[if_neg hc,if_neg hc];exact hr hc
theorem aPC {have_ most:Nat} {k:List Tok→Nat→Rd α} {K:RQ T→α × RQ T} (hfin:fin.code≠0) (hs:Stick K) (h:AtI q w) (hnil:w=[]→SimI (.bad fin:Rd α) (K q)) (hr:SimI (k w n) (K q)) :
  SimI (mB fin most have_ w n k) (K (if cN q=true then bG fin have_ most q else q)):=by
 cases w with
 | nil=>rw[zX h];exact hnil rfl
 | cons t w =>
  simp only[mB,sU h];by_cases hf:t.free=true
  ·simp only[hf,hH,if_true];exact aJD hfin hs h (fun _=>hr)
  ·simp only[hf,pC,if_false];exact hr
theorem aPX {c:Bool} {t:Tok} {r:Rd α} {K:RQ T→α × RQ T} (hfin:fin.code≠0) (hs:Stick K) (h:AtI q (t::w)) (hr:SimI r (K q.inc)) :
  SimI (if c=true then .bad (eG fin 14 (t::w)) else r) (K (dI fin c q)):=by
 unfold dI;cases c with
 | true =>
  obtain ⟨h1,h2⟩:=qT h 14 (by decide) hfin;rw[if_pos rfl,if_pos rfl];have e:=hs (cJ fin 14 q.at_ true q).inc (by rw[yG];exact h2);rw[inc_f] at e;exact ⟨e.trans h1,(nK e).trans h2⟩
 | false=>rw[if_neg (by decide),if_neg (by decide)];exact hr
theorem aCh {t:Tok} (h:AtI q (t::w)):dR fin q=(t.line,t.col):=by
 obtain ⟨h1,h2,_⟩:=rY h;unfold dR;rw[if_neg (by omega),h2]
theorem aQD (hfin:fin.code≠0) (m:Int) (h:AtI q w):SimI (nL fin m w n) (gS fin m q):=by
 cases w with
 | nil =>
  simp only[nL,gS,aHw h,bN,if_false];exact qT h 11 (by decide) hfin
 | cons t w =>
  simp only[nL,gS,vY h,(rY h).2.1];by_cases hk:t.kind=2
  ·simp only[hk,kA,if_true];by_cases hc:t.n<1∨m<t.n
   ·obtain ⟨h1,h2⟩:=qT h 20 (by decide) hfin;rw[if_pos hc,if_pos hc];exact ⟨(inc_f _).trans h1,(yG _).trans h2⟩
   ·rw[if_neg hc,if_neg hc];exact ⟨rfl,kM h⟩
  ·simp only[hk,pN,bN,if_false];exact qT h 11 (by decide) hfin
end
end
section
section
variable {T:List Tok} {fin:Fault} {α β σ:Type} {N:Nat} {q:RQ T} {w:List Tok} {n m m':Nat}
def fb (F:RQ T→α × RQ T) (G:α→RQ T→β × RQ T):RQ T→β × RQ T:=fun q=>G (F q).1 (F q).2
def fr (a:α):RQ T→α × RQ T:=fun q=>(a,q)
def wF (fin:Fault) (k:Int) (x:aD):RQ T→Unit × RQ T:=fun q=>((),aY fin k x q)
def iF:RQ T→Unit × RQ T:=fun q=>((),q.inc)
theorem Stick.fb {F:RQ T→α × RQ T} {G:α→RQ T→β × RQ T} (h:Stick F) (g:∀ a,Stick (G a)):Stick (fb F G):=aL8 h g
theorem dP {k:Int} {x:aD}:Stick (wF (T:=T) fin k x):=fun q h=>aL5 k x q h
theorem eV:Stick (iF (T:=T)):=fun q h=>inc_f q
theorem cS {a:α}:Stick (fr (T:=T) a):=fun q h=>rfl
def SimL (m:Nat) (r:Rd α) (p:α × RQ T):Prop:=SimI r p∧Sh r m
theorem SimL.mono {r:Rd α} {p:α × RQ T} (h:SimL m r p) (hm:m≤m'):SimL m' r p:=⟨h.1,h.2.mono hm⟩
theorem SimL.ok {a:α} (h:AtI q w) (hm:w.length<m):SimL m (.ok a w n) (fr a q):=⟨⟨rfl,h⟩,.ok hm⟩
theorem SimL.fb {r:Rd α} {F:RQ T→α × RQ T} {G:α→RQ T→β × RQ T} {k:α→List Tok→Nat→Rd β} (h:SimL m r (F q)) (hs:∀ a,Stick (G a))
  (hk:∀ a w n,AtI (F q).2 w→w.length<m→SimL m' (k a w n) (G a (F q).2)):SimL m' (r.bind k) (fb F G q):=by
 cases r with
 | bad f =>
  have e:=hs (F q).1 (F q).2 h.1.2;exact ⟨⟨e.trans h.1.1,(nK e).trans h.1.2⟩,.bad _ _⟩
 | ok a w n =>
  obtain ⟨⟨h1,h2⟩,h3⟩:=h;have:=hk a w n h2 (h3 a w n rfl);show SimL m' (k a w n) (G (F q).1 (F q).2);rw[h1];exact this
theorem lK (hfin:fin.code≠0) (h:AtI q w):SimL w.length (dS fin w n) (bB fin q):=⟨aFd hfin h,aOJ⟩
theorem lO (hW:∀ t,t∈T→TokW N t) (hfin:fin.code≠0) (x:aD) (hx:pZ x) (hne:x≠[]) (h:AtI q w):SimL w.length (cV fin x w n) (wF fin 4 x q):=⟨aI4 hW hfin x hx hne h,aIW x⟩
theorem aJH (hfin:fin.code≠0) (k:Int) (h:AtI q w):SimL w.length (nL fin k w n) (gS fin k q):=⟨aQD hfin k h,aM4 k⟩
theorem sY (hW:∀ t,t∈T→TokW N t) (hN:N≤4294967296) (hT:T.length≤3001) (hfin:fin.code≠0) (h:AtI q w):SimL w.length (gI false fin w n) (eA fin q) :=
 ⟨(aIV hW hN hT hfin h).1,fun a w' n' e=>(aIV hW hN hT hfin h).2 a w' n' e⟩
theorem yK (hW:∀ t,t∈T→TokW N t) {one:List α→List Tok→Nat→Rd α} {el:List α→RQ T→α × RQ T}
  (hb:∀ l q w n,AtI q w→SimL w.length (one l w n) (el l q)) (acc:List α) (h:AtI q w) :
  SimL w.length (jX fin one acc w n) (cK [44] (fun (l:List α) q=>let p:=el l q;(l++[p.1],p.2)) (T.length+2) true acc q):=aPt hW hb acc h
theorem aJw {have_ most:Nat} {k:List Tok→Nat→Rd α} {K:RQ T→α × RQ T} (hfin:fin.code≠0) (hs:Stick K) (h:AtI q w) (hnil:w=[]→k w n=.bad fin) (hr:SimL m (k w n) (K q)) :
  SimL m (mB fin most have_ w n k) (K (if cN q=true then bG fin have_ most q else q)):=by
 refine ⟨aPC hfin hs h (fun e=>by have:=hr.1;rw[hnil e] at this;exact this) hr.1,?_⟩;cases w with
 | nil=>exact .bad _ _
 | cons t w=>exact .ite (fun _=>.bad _ _) (fun _=>hr.2)
theorem uT {have_ most:Nat} {r:Rd α} {K:RQ T→α × RQ T} (hfin:fin.code≠0) (hs:Stick K) (h:AtI q w) (hr:SimL m r (K q)) :
  SimL m (if most≤have_ then .bad (kG fin w) else r) (K (bG fin have_ most q)):=⟨aJD hfin hs h (fun _=>hr.1),.ite (fun _=>.bad _ _) (fun _=>hr.2)⟩
theorem vX {c:Bool} {t:Tok} {r:Rd α} {K:RQ T→α × RQ T} (hfin:fin.code≠0) (hs:Stick K) (h:AtI q (t::w)) (hr:SimL m r (K q.inc)) :
  SimL m (if c=true then .bad (eG fin 14 (t::w)) else r) (K (dI fin c q)):=⟨aPX hfin hs h hr.1,.ite (fun _=>.bad _ _) (fun _=>hr.2)⟩
theorem sx {x:aD} {c:UInt8} {r:aD} (e:x=c::r) (h:gJ c.toNat=false):pZ x:=fun d s e2=>by rw[e] at e2;cases e2;exact h
theorem aIj (hW:∀ t,t∈T→TokW N t) (hN:N≤4294967296) (hT:T.length≤3001) (hfin:fin.code≠0) (h:AtI q w):SimL (w.length+1) (qR false fin w n) (iA fin q):=by
 unfold qR iA;rw[aAA hW [105,102] ⟨_,_,rfl,by decide⟩ h];by_cases hc:bI [105,102] w=true
 ·rw[if_pos hc,if_pos hc];have hl:w.tail.length+1=w.length:=qN hc;refine (yK (el:=fun l q=>eA fin (if iL q=true then bG fin l.length 20 q else q)) hW (fun l q w n h=>?_) [] (aAB h hc)).mono (by omega);cases w with
  | nil =>
   rw[aLj h];have:=sY (n:=n) hW hN hT hfin h;exact this
  | cons t w =>
   simp only[aNk hW h];by_cases hb:t.begins=true
   ·rw[if_pos hb,if_pos hb];have:=uT (m:=(t::w).length) (have_:=l.length) (most:=20) hfin eJ h (sY (n:=n) hW hN hT hfin h);unfold aCs;by_cases h20:20≤l.length
    ·rw[if_pos h20] at this ⊢;exact this
    ·rw[if_neg h20] at this ⊢;exact this
   ·rw[if_neg hb,if_neg hb];exact sY hW hN hT hfin h
 ·rw[if_neg hc,if_neg hc];exact SimL.ok h (iU _)
theorem aJf (hW:∀ t,t∈T→TokW N t) (hN:N≤4294967296) (hT:T.length≤3001) (hfin:fin.code≠0) (h:AtI q w):SimL w.length (uQ false fin w n) (kF fin q):=by
 have e:kF fin q=fb (bB fin) (fun x=>fb (wF fin 4 [58]) fun _=>fb (bB fin) fun y=>fb (wF fin 4 [61]) fun _=>fb (eA fin) fun i=>fr (⟨x,y,i,(dR fin q).1,(dR fin q).2⟩:Cel)) q:=rfl;rw[e];cases w with
 | nil =>
  have h0:=SimL.fb (m':=([]:List Tok).length) (k:=fun _ _ _=>(Rd.bad fin:Rd Cel)) (G:=fun x=>fb (wF fin 4 [58]) fun _=>fb (bB fin) fun y=>fb (wF fin 4 [61]) fun _=>fb (eA fin) fun i=>fr (⟨x,y,i,(dR fin q).1,(dR fin q).2⟩:Cel)) (lK (n:=n) hfin h) (fun _=>(by repeat' (first|exact dO|exact eJ|exact dP|exact cS|exact eU|exact eP _|exact eO _ _ _|exact eV|assumption|refine Stick.fb ?_ (fun _=>?_)))) (fun a w n _ hl=>absurd hl (by simp));exact h0
 | cons t w =>
  rw[aCh h]
  refine .fb (lK hfin h) (fun _=>(by repeat' (first|exact dO|exact eJ|exact dP|exact cS|exact eU|exact eP _|exact eO _ _ _|exact eV|assumption|refine Stick.fb ?_ (fun _=>?_)))) (fun x w1 n1 h1 l1=>.fb (lO hW hfin [58] (sx rfl (by decide)) (by decide) h1) (fun _=>(by repeat' (first|exact dO|exact eJ|exact dP|exact cS|exact eU|exact eP _|exact eO _ _ _|exact eV|assumption|refine Stick.fb ?_ (fun _=>?_)))) (fun _ w2 n2 h2 l2=>.fb (lK hfin h2) (fun _=>(by repeat' (first|exact dO|exact eJ|exact dP|exact cS|exact eU|exact eP _|exact eO _ _ _|exact eV|assumption|refine Stick.fb ?_ (fun _=>?_)))) (fun y w3 n3 h3 l3 =>
   .fb (lO hW hfin [61] (sx rfl (by decide)) (by decide) h3) (fun _=>(by repeat' (first|exact dO|exact eJ|exact dP|exact cS|exact eU|exact eP _|exact eO _ _ _|exact eV|assumption|refine Stick.fb ?_ (fun _=>?_)))) (fun _ w4 n4 h4 l4=>.fb (sY hW hN hT hfin h4) (fun _=>(by repeat' (first|exact dO|exact eJ|exact dP|exact cS|exact eU|exact eP _|exact eO _ _ _|exact eV|assumption|refine Stick.fb ?_ (fun _=>?_)))) (fun i w5 n5 h5 l5=>.ok h5 (by omega))))))
end
def cI:=@Stick.fb
end
section
section
variable {T:List Tok} {fin:Fault} {α β σ:Type} {N:Nat} {q:RQ T} {w:List Tok} {n m m':Nat}
theorem SimL.first {r:Rd α} {F:RQ T→β × RQ T} {G:β→RQ T→α × RQ T} {f:Fault} (h:(F q).2.f=f∧(F q).2.ok=false) (hs:∀ a,Stick (G a)) (hr:r=.bad f):SimL m r (Go.AV.fb F G q):=by
 subst hr;have e:=hs (F q).1 (F q).2 h.2;exact ⟨⟨e.trans h.1,(nK e).trans h.2⟩,.bad _ _⟩
theorem aNp (hfin:fin.code≠0) (h:AtI q []):(bB fin q).2.f=fin∧(bB fin q).2.ok=false:=by
 have:=aFd (n:=0) hfin h;exact this
def atF (fin:Fault):RQ T→aD × RQ T:=fun q=>if aS 4 [64] q=true then bB fin q.inc else ([],q)
def toF (fin:Fault):RQ T→List Tm × RQ T:=fun q=>if aS 4 [61,62] q=true then (let u:=eA fin q.inc;([u.1],u.2)) else ([],q)
theorem aEu:Stick (atF (T:=T) fin):=fun q h=>by unfold atF;rw[oC _ _ h];rfl
theorem aEx:Stick (toF (T:=T) fin):=fun q h=>by unfold toF;rw[oC _ _ h];rfl
theorem aSp (hW:∀ t,t∈T→TokW N t) (hfin:fin.code≠0) (h:AtI q w):SimL (w.length+1) (if bI [64] w=true then dS fin w.tail n else Rd.ok [] w n) (atF fin q):=by
 unfold atF;rw[aCF hW [64] (sx rfl (by decide)) (by decide) h];by_cases hc:bI [64] w=true
 ·rw[if_pos hc,if_pos hc];have hl:w.tail.length+1=w.length:=qN hc;exact (lK hfin (aAB h hc)).mono (by omega)
 ·rw[if_neg hc,if_neg hc];exact SimL.ok h (iU _)
theorem aSe (hW:∀ t,t∈T→TokW N t) (hN:N≤4294967296) (hT:T.length≤3001) (hfin:fin.code≠0) (h:AtI q w) :
  SimL (w.length+1) (if bI [61,62] w=true then (gI false fin w.tail n).bind fun u w n=>Rd.ok [u] w n else Rd.ok [] w n) (toF fin q):=by
 unfold toF;rw[aCF hW [61,62] (sx rfl (by decide)) (by decide) h];by_cases hc:bI [61,62] w=true
 ·rw[if_pos hc,if_pos hc];have hl:w.tail.length+1=w.length:=qN hc;have:=SimL.fb (m':=w.length+1) (G:=fun u=>fr [u]) (k:=fun u w n=>Rd.ok [u] w n) (sY (n:=n) hW hN hT hfin (aAB h hc)) (fun _=>cS) (fun u w2 n2 h2 l2=>.ok h2 (by omega));exact this
 ·rw[if_neg hc,if_neg hc];exact SimL.ok h (iU _)
theorem aOP (hW:∀ t,t∈T→TokW N t) (hN:N≤4294967296) (hT:T.length≤3001) (hfin:fin.code≠0) (acc:List Tm) (h:AtI q w) :
  SimL w.length (jX fin (fun _=>gI false fin) acc w n) (cK [44] (fun (l:List Tm) q=>let p:=eA fin q;(l++[p.1],p.2)) (T.length+2) true acc q) :=
 yK (el:=fun _=>eA fin) hW (fun l q w n h=>sY hW hN hT hfin h) acc h
def aCu (fin:Fault) (x:Rul) (l c:Int):RQ T→Rul × RQ T :=
 fb (bB fin) fun a=>fb (atF fin) fun b=>fb (wF fin 4 [58]) fun _=>fb (eA fin) fun u=>fb (toF fin) fun r=>fr { x with parts:=x.parts++[⟨a,b,u,r,l,c⟩] }
theorem aIp (x:Rul) (q:RQ T):iD fin x q=if aS 1 [110,101,119] q=true then
   fb (wF fin 4 [40]) (fun _=>fb (cK [44] (fun (l:List Tm) q=>let p:=eA fin q;(l++[p.1],p.2)) (T.length+2) true []) fun l=>fb (wF fin 4 [41]) fun _=>fr { x with new:=x.new++[⟨l⟩] }) q.inc
  else if aS 1 [100,114,111,112] q=true then fb (wF fin 4 [64]) (fun _=>fb (bB fin) fun y=>fr { x with drop:=x.drop++[y] }) q.inc
  else aCu fin x (dR fin q).1 (dR fin q).2 q:=rfl
theorem aLC (x:Rul) (l c:Int):Stick (aCu (T:=T) fin x l c):=by
 unfold aCu
 repeat' (first|exact dO|exact eJ|exact dP|exact cS|exact aEu|exact aEx|refine cI ?_ (fun _=>?_))
theorem aLO (x:Rul):Stick (iD (T:=T) fin x):=fun q h=>by
 rw[aIp,oC _ _ h,if_neg (by decide),oC _ _ h,if_neg (by decide)];exact aLC _ _ _ q h
theorem aJg (hW:∀ t,t∈T→TokW N t) (hN:N≤4294967296) (hT:T.length≤3001) (hfin:fin.code≠0) (x:Rul) (h:AtI q w):SimL w.length (tH false fin x w n) (iD fin x q):=by
 rw[aIp];cases w with
 | nil =>
  rw[qP h,if_neg (by decide),qP h,if_neg (by decide)];refine SimL.first (aNp hfin h) (fun _=>?_) rfl
  repeat' (first|exact dO|exact eJ|exact dP|exact cS|exact aEu|exact aEx|refine cI ?_ (fun _=>?_))
 | cons t w =>
  have ht:=hW t (aCn h);simp only[tH,aCh h];rw[qC h,qC h,aDY ht (x:=[110,101,119]) ⟨_,_,rfl,by decide⟩,aDY ht (x:=[100,114,111,112]) ⟨_,_,rfl,by decide⟩];by_cases c1:(decide (t.kind=1)&&decide (t.text=[110,101,119]))=true
  ·rw[if_pos c1,if_pos c1]
   refine .fb (lO hW hfin [40] (sx rfl (by decide)) (by decide) (kM h)) (fun _=>(by repeat' (first|exact dO|exact eJ|exact dP|exact cS|exact eU|exact eP _|exact eO _ _ _|exact eV|assumption|refine cI ?_ (fun _=>?_)))) (fun _ w1 n1 h1 l1=>.fb (aOP hW hN hT hfin [] h1) (fun _=>(by repeat' (first|exact dO|exact eJ|exact dP|exact cS|exact eU|exact eP _|exact eO _ _ _|exact eV|assumption|refine cI ?_ (fun _=>?_)))) (fun l w2 n2 h2 l2 =>
    .fb (lO hW hfin [41] (sx rfl (by decide)) (by decide) h2) (fun _=>(by repeat' (first|exact dO|exact eJ|exact dP|exact cS|exact eU|exact eP _|exact eO _ _ _|exact eV|assumption|refine cI ?_ (fun _=>?_)))) (fun _ w3 n3 h3 l3=>.ok h3 (by simp only[aF];omega))))
  rw[if_neg c1,if_neg c1];by_cases c2:(decide (t.kind=1)&&decide (t.text=[100,114,111,112]))=true
  ·rw[if_pos c2,if_pos c2];refine .fb (lO hW hfin [64] (sx rfl (by decide)) (by decide) (kM h)) (fun _=>(by repeat' (first|exact dO|exact eJ|exact dP|exact cS|exact eU|exact eP _|exact eO _ _ _|exact eV|assumption|refine cI ?_ (fun _=>?_)))) (fun _ w1 n1 h1 l1=>.fb (lK hfin h1) (fun _=>(by repeat' (first|exact dO|exact eJ|exact dP|exact cS|exact eU|exact eP _|exact eO _ _ _|exact eV|assumption|refine cI ?_ (fun _=>?_)))) (fun l w2 n2 h2 l2=>.ok h2 (by simp only[aF];omega)))
  rw[if_neg c2,if_neg c2];unfold aCu;have st:∀ {a:Rul},Stick (fr (T:=T) a):=cS
  have s1:=aEu (T:=T) (fin:=fin);have s2:=aEx (T:=T) (fin:=fin)
  refine .fb (lK hfin h) (fun _=>(by repeat' (first|exact dO|exact eJ|exact dP|exact cS|exact eU|exact eP _|exact eO _ _ _|exact eV|assumption|refine cI ?_ (fun _=>?_)))) (fun a w1 n1 h1 l1=>.fb (aSp hW hfin h1) (fun _=>(by repeat' (first|exact dO|exact eJ|exact dP|exact cS|exact eU|exact eP _|exact eO _ _ _|exact eV|assumption|refine cI ?_ (fun _=>?_)))) (fun b w2 n2 h2 l2=>.fb (lO hW hfin [58] (sx rfl (by decide)) (by decide) h2) (fun _=>(by repeat' (first|exact dO|exact eJ|exact dP|exact cS|exact eU|exact eP _|exact eO _ _ _|exact eV|assumption|refine cI ?_ (fun _=>?_)))) (fun _ w3 n3 h3 l3 =>
   .fb (sY hW hN hT hfin h3) (fun _=>(by repeat' (first|exact dO|exact eJ|exact dP|exact cS|exact eU|exact eP _|exact eO _ _ _|exact eV|assumption|refine cI ?_ (fun _=>?_)))) (fun u w4 n4 h4 l4=>.fb (aSe hW hN hT hfin h4) (fun _=>(by repeat' (first|exact dO|exact eJ|exact dP|exact cS|exact eU|exact eP _|exact eO _ _ _|exact eV|assumption|refine cI ?_ (fun _=>?_)))) (fun r w5 n5 h5 l5=>.ok h5 (by omega))))))
def aAE (fin:Fault) (c:Rul × Nat) (q:RQ T):(Rul × Nat) × RQ T :=
 let p:=iD fin c.1 (if (cN q||(aS 1 [110,101,119] q||aS 1 [100,114,111,112] q))=true then bG fin c.2 20 q else q)
 ((p.1,c.2+1),p.2)
theorem aIO (hW:∀ t,t∈T→TokW N t) (hN:N≤4294967296) (hT:T.length≤3001) (hfin:fin.code≠0) (c:Rul × Nat) (h:AtI q w):SimL w.length (yM false fin c w n) (aAE fin c q):=by
 have key:∀ q':RQ T,SimL w.length (tH false fin c.1 w n) (iD fin c.1 q')→SimL w.length ((tH false fin c.1 w n).bind fun x w n=>.ok (x,c.2+1) w n) ((((iD fin c.1 q').1,c.2+1):Rul × Nat),(iD fin c.1 q').2):=fun q' hq=>by
  obtain ⟨h1,h2⟩:=hq;cases hr:tH false fin c.1 w n with
  | bad f=>rw[hr] at h1;exact ⟨h1,.bad _ _⟩
  | ok x w' n'=>rw[hr] at h1 h2;exact ⟨⟨by rw[h1.1],h1.2⟩,.ok (h2 x w' n' rfl)⟩
 have st:Stick (fun q:RQ T=>((((iD fin c.1 q).1,c.2+1):Rul × Nat),(iD fin c.1 q).2)):=fun q h=>aLO c.1 q h
 unfold aAE;cases w with
 | nil =>
  rw[zX h,qP h,qP h];have:=key q (aJg hW hN hT hfin c.1 h);exact this
 | cons t w =>
  have e:((t.kind=1∧(¬ t.text∈jL∨t.text=[110,101,119]∨t.text=[100,114,111,112]))↔(cN q||(aS 1 [110,101,119] q||aS 1 [100,114,111,112] q))=true):=by
   rw[sU h,qC h,qC h];simp only[Tok.free,mN,bT,eC,mM,tY];constructor
   ·rintro ⟨h1,h2|h2|h2⟩
    ·exact .inl ⟨h1,h2⟩
    ·exact .inr (.inl ⟨h1,h2⟩)
    ·exact .inr (.inr ⟨h1,h2⟩)
   ·rintro (⟨h1,h2⟩|⟨h1,h2⟩|⟨h1,h2⟩)
    ·exact ⟨h1,.inl h2⟩
    ·exact ⟨h1,.inr (.inl h2)⟩
    ·exact ⟨h1,.inr (.inr h2)⟩
  have hk:=key q (aJg (n:=n) hW hN hT hfin c.1 h);simp only[yM];by_cases hc:t.kind=1∧(¬ t.text∈jL∨t.text=[110,101,119]∨t.text=[100,114,111,112])
  ·rw[if_pos (e.1 hc)];have:=uT (have_:=c.2) (most:=20) (K:=fun q:RQ T=>((((iD fin c.1 q).1,c.2+1):Rul × Nat),(iD fin c.1 q).2)) hfin st h hk;by_cases h20:20≤c.2
   ·rw[if_pos h20] at this;rw[if_pos ⟨hc,h20⟩];exact this
   ·rw[if_neg h20] at this;rw[if_neg (fun g=>h20 g.2)];exact this
  ·rw[if_neg (fun g=>hc (e.2 g)),if_neg (fun g=>hc g.1)];exact hk
theorem aPw (hW:∀ t,t∈T→TokW N t) (hN:N≤4294967296) (hT:T.length≤3001) (hfin:fin.code≠0) {t:Tok} (h:AtI q (t::w)):SimL w.length (aCm false fin t.line t.col w n) (mV fin q):=by
 have e:mV fin q=fb (bB fin) (fun x=>fb (wF fin 4 [58]) fun _=>fb (cK [59] (aAE fin) (T.length+2) true (⟨x,[],[],[],[],(dR fin q).1,(dR fin q).2⟩,0)) fun c=>fb (iA fin) fun l=>fr { c.1 with cond:=l }) q.inc:=rfl;rw[e,aCh h]
 refine .fb (lK hfin (kM h)) (fun _=>(by repeat' (first|exact dO|exact eJ|exact dP|exact cS|exact eU|exact eP _|exact eO _ _ _|exact eV|assumption|refine cI ?_ (fun _=>?_)))) (fun x w1 n1 h1 l1=>.fb (lO hW hfin [58] (sx rfl (by decide)) (by decide) h1) (fun _=>(by repeat' (first|exact dO|exact eJ|exact dP|exact cS|exact eU|exact eP _|exact eO _ _ _|exact eV|assumption|refine cI ?_ (fun _=>?_)))) (fun _ w2 n2 h2 l2 =>
  .fb (m:=w2.length) ?_ (fun _=>(by repeat' (first|exact dO|exact eJ|exact dP|exact cS|exact eU|exact eP _|exact eO _ _ _|exact eV|assumption|refine cI ?_ (fun _=>?_)))) (fun c w3 n3 h3 l3=>.fb (aIj hW hN hT hfin h3) (fun _=>(by repeat' (first|exact dO|exact eJ|exact dP|exact cS|exact eU|exact eP _|exact eO _ _ _|exact eV|assumption|refine cI ?_ (fun _=>?_)))) (fun l w4 n4 h4 l4=>.ok h4 (by omega)))))
 exact aFb hW [59] (sx rfl (by decide)) (by decide) (fun _=>True) (fun a q w n _ h=>⟨(aIO hW hN hT hfin a h).1,fun a' w' n' e=>⟨(aIO hW hN hT hfin a h).2 a' w' n' e,trivial⟩⟩) _ _ _ _ w2 n2 (iU _) (by rw[uU h2];omega) trivial h2
theorem aSq (hW:∀ t,t∈T→TokW N t) (hN:N≤4294967296) (hT:T.length≤3001) (hfin:fin.code≠0) {t:Tok} (h:AtI q (t::w)) :
  SimL w.length ((gI false fin w n).bind fun l w n=>(cV fin [61] w n).bind fun _ w n=>(gI false fin w n).bind fun r w n=>(qR false fin w n).bind fun c w n=>Rd.ok (⟨l,r,c,t.line,t.col⟩:Eqn) w n) (mJ fin q):=by
 have e:mJ fin q=fb (eA fin) (fun l=>fb (wF fin 4 [61]) fun _=>fb (eA fin) fun r=>fb (iA fin) fun c=>fr (⟨l,r,c,(dR fin q).1,(dR fin q).2⟩:Eqn)) q.inc:=rfl;rw[e,aCh h]
 exact .fb (sY hW hN hT hfin (kM h)) (fun _=>(by repeat' (first|exact dO|exact eJ|exact dP|exact cS|exact eU|exact eP _|exact eO _ _ _|exact eV|assumption|refine cI ?_ (fun _=>?_)))) (fun l w1 n1 h1 l1=>.fb (lO hW hfin [61] (sx rfl (by decide)) (by decide) h1) (fun _=>(by repeat' (first|exact dO|exact eJ|exact dP|exact cS|exact eU|exact eP _|exact eO _ _ _|exact eV|assumption|refine cI ?_ (fun _=>?_)))) (fun _ w2 n2 h2 l2=>.fb (sY hW hN hT hfin h2) (fun _=>(by repeat' (first|exact dO|exact eJ|exact dP|exact cS|exact eU|exact eP _|exact eO _ _ _|exact eV|assumption|refine cI ?_ (fun _=>?_)))) (fun r w3 n3 h3 l3 =>
  .fb (aIj hW hN hT hfin h3) (fun _=>(by repeat' (first|exact dO|exact eJ|exact dP|exact cS|exact eU|exact eP _|exact eO _ _ _|exact eV|assumption|refine cI ?_ (fun _=>?_)))) (fun c w4 n4 h4 l4=>.ok h4 (by omega)))))
end
end
end Go.AV
