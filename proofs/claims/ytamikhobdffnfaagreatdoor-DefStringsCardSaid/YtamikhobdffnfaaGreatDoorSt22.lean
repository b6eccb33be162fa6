/-
  Of DefStrings.
-/
import Derived.Test.YtamikhobdffnfaaGreatDoorSt21
set_option linter.all false
set_option maxRecDepth 99999
set_option maxHeartbeats 0
namespace Go.AV
open Go Go.Proofs Tryz
inductive TmW:Tm→Prop
 | mk (k n:Int) (x y:aB) (a b:List Tm) (hx:x.length≤140737488355328) (hy:y.length≤140737488355328) (ha:∀ t,t∈a→TmW t) (hb:∀ t,t∈b→TmW t) (la:a.length≤140737488355328) (lb:b.length≤140737488355328):TmW (.mk k n x y a b)
theorem TmW.text {t:Tm} (h:TmW t):t.text.length≤140737488355328:=by cases h;assumption
theorem TmW.sort {t:Tm} (h:TmW t):t.sort.length≤140737488355328:=by cases h;assumption
theorem TmW.kids {t:Tm} (h:TmW t):∀ x,x∈t.kids→TmW x:=by cases h;assumption
theorem TmW.rest {t:Tm} (h:TmW t):∀ x,x∈t.rest→TmW x:=by cases h;assumption
theorem TmW.lk {t:Tm} (h:TmW t):t.kids.length≤140737488355328:=by cases h;assumption
theorem TmW.lr {t:Tm} (h:TmW t):t.rest.length≤140737488355328:=by cases h;assumption
def Tm.leaf (t:Tm):Bool:=decide (t.kids.length=0)&&decide (t.rest.length=0)
def Tm.opn (t:Tm):Bool:=decide (t.text=[95])||decide (t.text=[36])
def Tm.shV (t:Tm):Bool:=t.leaf&&((cK t.text&&cK t.sort)||(t.opn&&decide (t.sort=[65,110,121])))&&decide (t.n=0)
def Tm.shR (t:Tm) (S:aB):Bool:=match t.rest with
 | []=>true
 | r::l=>decide (l.length=0)&&(decide (r.kind=6)&&(r.shV&&(cK r.text&&decide (r.sort=S))))
def Tm.shape (t:Tm):Bool :=
 if t.kind=1 then t.leaf&&(aAh t.n||(decide (t.n=0)||decide (t.n=1)))&&(decide (t.text=[])&&decide (t.sort=[]))
 else if t.kind=2 then t.leaf&&(decide (t.n=0)||decide (t.n=1))&&(decide (t.text=[])&&decide (t.sort=[]))
 else if t.kind=3 then t.leaf&&kP t.text&&(decide (t.n=0)&&decide (t.sort=[]))
 else if t.kind=4 then t.leaf&&nC t.text&&(decide (t.n=0)&&decide (t.sort=[]))
 else if t.kind=5 then (xI t.text&&(decide (t.kids.length≤8)&&decide (t.rest.length=0)))&&(decide (t.n=0)&&decide (t.sort=[]))
 else if t.kind=6 then t.shV
 else if t.kind=7 then t.shR [76,105,115,116]&&(decide (t.n=0)&&(decide (t.text=[])&&decide (t.sort=[])))
 else if t.kind=8 then (t.shR [77,97,112]&&decide (t.kids.length % 2=0))&&(decide (t.n=0)&&(decide (t.text=[])&&decide (t.sort=[])))
 else false
theorem mK {s:St} {KV:St→A→Prop} {a b:Bool} (h:KV s (.bool a)) (e:b=a):KV s (.bool b):=e▸h
theorem aEs (t:Tm) (h6:t.kind=6) (hw:TmW t) (s:St) (KV Kp) (hk:KV s (.bool t.shV)):Den cx 210 [.agg t.cs] KV Kp s:=by
 (refine aO func210 [0,1,2,3,4,5,6,25,26,53,64,75,95,130,134] ?_;simp only[go_sem,ntmps210,f210]);(intro p hp;try simp only[aL,ne_eq] at hp);simp only[go_sem,hp,h6];(intro q hq;try simp only[aL,ne_eq] at hq);simp only[go_sem,hp,hq,h6,Int.reduceEq]
 repeat' (first|(refine vT _ _ _ _ ?_;simp only[go_sem,hp,hq,h6,Int.reduceEq])|((refine bF (OT.r 0 8) [(5,[3])] ?_;simp only[go_sem,hp,hq,h6,Int.reduceEq]))|refine aH (mK hk ?_) cN|(refine bA (fun h=>?_) (fun h=>?_))<;>simp only[go_sem,h,hp,hq,h6,Int.reduceEq])
 all_goals simp_all [Tm.shV,Tm.leaf,Tm.opn]
theorem aEf (t:Tm) (S:aB) (hw:TmW t) (s:St) (KV Kp) {cs:List A} (hc:cs=t.cs) (hk:KV s (.bool (t.shR S))):Den cx 275 [.agg cs,.str S] KV Kp s:=by
 subst hc;(refine aO func275 [0,1,2,4,5,9] ?_;simp only[go_sem,ntmps275,f275]);(intro p hp;try simp only[aL,ne_eq] at hp);simp only[go_sem,hp];cases hr:t.rest with
 | nil =>
  have e:t.shR S=true:=by unfold Tm.shR;rw[hr]
  rw[e] at hk;have d0:decide (((0:Nat):Int)=0)=true:=rfl;simp only[go_sem,hp,hr,d0];exact aH hk cN
 | cons r l =>
  have d1:decide (((l.length+1:Nat):Int)=0)=false:=by rw[kW];omega
  have d2:decide (((l.length+1:Nat):Int)=1)=decide (l.length=0):=by rw[fY];omega
  simp only[go_sem,hp,hr,d1];(intro q hq;try simp only[aL,ne_eq] at hq);simp only[go_sem,hp,hr,hq,d1,d2];have e:t.shR S=(decide (l.length=0)&&(decide (r.kind=6)&&(r.shV&&(cK r.text&&decide (r.sort=S))))):=by unfold Tm.shR;rw[hr]
  have hwr:TmW r:=hw.rest r (by rw[hr];exact eK ..);rw[e] at hk;clear e;cases h1:decide (l.length=0)<;>rw[h1] at hk<;>simp only[go_sem,hp,hr,hq,h1]
  ·exact aH hk cN
  cases h2:decide (r.kind=6)<;>rw[h2] at hk<;>simp only[go_sem,hp,hr,hq,h1,h2]
  ·exact aH hk cN
  refine aEs r (qE h2) hwr _ _ _ ?_;cases h3:r.shV<;>rw[h3] at hk<;>simp only[go_sem,hp,hr,hq,h1,h2]
  ·exact aH hk cN
  refine vT _ _ _ _ ?_;cases h4:cK r.text<;>rw[h4] at hk<;>simp only[go_sem,hp,hr,hq,h1,h2]
  ·exact aH hk cN
  exact aH hk cN
theorem kinds (k:Int):k=1∨k=2∨k=3∨k=4∨k=5∨k=6∨k=7∨k=8∨(k≠1∧k≠2∧k≠3∧k≠4∧k≠5∧k≠6∧k≠7∧k≠8):=by omega
theorem aJ8 (t:Tm) (hw:TmW t) (s:St) (KV Kp) (hk:KV s (.bool t.shape)):Den cx 210 [.agg t.cs] KV Kp s:=by
 have hx:=hw.text;have e8:decide ((t.kids.length:Int)≤8)=decide (t.kids.length≤8):=by rw[fY];omega
 have e2:decide ((t.kids.length:Int).tmod 2=0)=decide (t.kids.length % 2=0):=by
  rw[fY,Int.tmod_eq_emod_of_nonneg (by omega)];omega
 rcases kinds t.kind with h6|h6|h6|h6|h6|h6|h6|h6|h6
 ·(refine aO func210 [0,1,2,3,4,5,6,25,26,53,64,75,95,130,134] ?_;simp only[go_sem,ntmps210,f210]);(intro p hp;try simp only[aL,ne_eq] at hp);simp only[go_sem,hp,h6];(intro q hq;try simp only[aL,ne_eq] at hq);simp only[go_sem,hp,hq,h6,Int.reduceEq]
  repeat' (first|(refine aER _ _ _ _ ?_;simp only[go_sem,hp,hq,h6,Int.reduceEq])|refine aH (mK hk ?_) cN|(refine bA (fun h=>?_) (fun h=>?_))<;>simp only[go_sem,h,hp,hq,h6,Int.reduceEq])
  all_goals first|(simp_all [Tm.shape,Tm.leaf];done)|(simp_all [Tm.shape,Tm.leaf];intros;omega)
 ·(refine aO func210 [0,1,2,3,4,5,6,25,26,53,64,75,95,130,134] ?_;simp only[go_sem,ntmps210,f210]);(intro p hp;try simp only[aL,ne_eq] at hp);simp only[go_sem,hp,h6];(intro q hq;try simp only[aL,ne_eq] at hq);simp only[go_sem,hp,hq,h6,Int.reduceEq]
  repeat' (first|(refine aER _ _ _ _ ?_;simp only[go_sem,hp,hq,h6,Int.reduceEq])|refine aH (mK hk ?_) cN|(refine bA (fun h=>?_) (fun h=>?_))<;>simp only[go_sem,h,hp,hq,h6,Int.reduceEq])
  all_goals first|(simp_all [Tm.shape,Tm.leaf];done)|(simp_all [Tm.shape,Tm.leaf];intros;omega)
 ·(refine aO func210 [0,1,2,3,4,5,6,25,26,53,64,75,95,130,134] ?_;simp only[go_sem,ntmps210,f210]);(intro p hp;try simp only[aL,ne_eq] at hp);simp only[go_sem,hp,h6];(intro q hq;try simp only[aL,ne_eq] at hq);simp only[go_sem,hp,hq,h6,Int.reduceEq]
  repeat' (first|(refine aDI _ _ _ _ ?_;simp only[go_sem,hp,hq,h6,Int.reduceEq])|refine aH (mK hk ?_) cN|(refine bA (fun h=>?_) (fun h=>?_))<;>simp only[go_sem,h,hp,hq,h6,Int.reduceEq])
  all_goals first|(simp_all [Tm.shape,Tm.leaf];done)|(simp_all [Tm.shape,Tm.leaf];intros;omega)
 ·(refine aO func210 [0,1,2,3,4,5,6,25,26,53,64,75,95,130,134] ?_;simp only[go_sem,ntmps210,f210]);(intro p hp;try simp only[aL,ne_eq] at hp);simp only[go_sem,hp,h6];(intro q hq;try simp only[aL,ne_eq] at hq);simp only[go_sem,hp,hq,h6,Int.reduceEq]
  repeat' (first|(refine aFM _ _ _ _ ?_;simp only[go_sem,hp,hq,h6,Int.reduceEq])|refine aH (mK hk ?_) cN|(refine bA (fun h=>?_) (fun h=>?_))<;>simp only[go_sem,h,hp,hq,h6,Int.reduceEq])
  all_goals first|(simp_all [Tm.shape,Tm.leaf];done)|(simp_all [Tm.shape,Tm.leaf];intros;omega)
 ·(refine aO func210 [0,1,2,3,4,5,6,25,26,53,64,75,95,130,134] ?_;simp only[go_sem,ntmps210,f210]);(intro p hp;try simp only[aL,ne_eq] at hp);simp only[go_sem,hp,h6];(intro q hq;try simp only[aL,ne_eq] at hq);simp only[go_sem,hp,hq,h6,Int.reduceEq]
  repeat' (first|(refine aLl _ _ _ _ (by omega) ?_;simp only[go_sem,hp,hq,h6,Int.reduceEq,e8])|refine aH (mK hk ?_) cN|(refine bA (fun h=>?_) (fun h=>?_))<;>simp only[go_sem,h,hp,hq,h6,Int.reduceEq,e8,e2])
  all_goals first|(simp_all [Tm.shape,Tm.leaf];done)|(simp_all [Tm.shape,Tm.leaf];intros;omega)
 ·exact aEs t h6 hw s KV Kp (mK hk (by simp[Tm.shape,h6]))
 ·(refine aO func210 [0,1,2,3,4,5,6,25,26,53,64,75,95,130,134] ?_;simp only[go_sem,ntmps210,f210]);(intro p hp;try simp only[aL,ne_eq] at hp);simp only[go_sem,hp,h6];(intro q hq;try simp only[aL,ne_eq] at hq);simp only[go_sem,hp,hq,h6,Int.reduceEq]
  repeat' (first|(refine aEf t _ hw _ _ _ (by simp only[Tm.cs,h6]) ?_;simp only[go_sem,hp,hq,h6,Int.reduceEq,e2])|refine aH (mK hk ?_) cN|(refine bA (fun h=>?_) (fun h=>?_))<;>simp only[go_sem,h,hp,hq,h6,Int.reduceEq,e8,e2])
  all_goals first|(simp_all [Tm.shape,Tm.leaf];done)|(simp_all [Tm.shape,Tm.leaf];intros;omega)
 ·(refine aO func210 [0,1,2,3,4,5,6,25,26,53,64,75,95,130,134] ?_;simp only[go_sem,ntmps210,f210]);(intro p hp;try simp only[aL,ne_eq] at hp);simp only[go_sem,hp,h6];(intro q hq;try simp only[aL,ne_eq] at hq);simp only[go_sem,hp,hq,h6,Int.reduceEq]
  repeat' (first|(refine aEf t _ hw _ _ _ (by simp only[Tm.cs,h6]) ?_;simp only[go_sem,hp,hq,h6,Int.reduceEq,e2])|refine aH (mK hk ?_) cN|(refine bA (fun h=>?_) (fun h=>?_))<;>simp only[go_sem,h,hp,hq,h6,Int.reduceEq,e8,e2])
  all_goals first|(simp_all [Tm.shape,Tm.leaf];done)|(simp_all [Tm.shape,Tm.leaf];intros;omega)
 ·obtain ⟨n1,n2,n3,n4,n5,n6,n7,n8⟩:=h6;have d1:=fE n1;have d2:=fE n2;have d3:=fE n3;have d4:=fE n4;have d5:=fE n5;have d6:=fE n6;have d7:=fE n7;have d8:=fE n8;(refine aO func210 [0,1,2,3,4,5,6,25,26,53,64,75,95,130,134] ?_;simp only[go_sem,ntmps210,f210]);(intro p hp;try simp only[aL,ne_eq] at hp);simp only[go_sem,hp];(intro q hq;try simp only[aL,ne_eq] at hq);simp only[go_sem,hp,hq,d1,d2,d3,d4,d5,d6,d7,d8]
  repeat' (first|refine aH (mK hk ?_) cN|(refine bA (fun h=>?_) (fun h=>?_))<;>simp only[go_sem,h,hp,hq,d1,d2,d3,d4,d5,d6,d7,d8])
  all_goals simp_all [Tm.shape]
def cM (f:Tm→Nat→Option Nat):List Tm→Nat→Option Nat
 | [],m=>some m
 | t::r,m=>(f t m).bind (cM f r)
def hZ (k r m:Nat):Option Nat:=if r=0 then some m else if 0<k∧m+r≤2000 then some (m+r) else none
def eN:Nat→Tm→Nat→Option Nat
 | 0,_,_=>none
 | k+1,.mk _ _ _ _ ks rs,m=>if m+1≤2000 then (cM (eN k) ks (m+1)).bind (hZ k rs.length) else none
def Tm.val:Nat→Tm→Nat→Option Nat
 | 0,_,_=>none
 | k+1,t,m=>if m+1≤2000 then (if t.shape=true then (cM (Tm.val k) t.kids (m+1)).bind (hZ k t.rest.length) else none) else none
def kT (n:Int) (b:Bool):Ob:=.cells 184 [.int .i64 n,.bool b]
theorem aEP (f:Tm→Nat→Option Nat) (x:Tm):∀ (l:List Tm) (m:Nat),cM f (l++[x]) m=(cM f l m).bind (f x)
 | [],m=>by
  simp only[bO,cM,Option.bind_some];cases f x m<;>rfl
 | t::r,m=>by
  simp only[bP,cM];cases f t m with
  | none=>rfl
  | some n=>exact aEP f x r n
theorem aKb {f:Tm→Nat→Option Nat} {l:List Tm} {i:Nat} {x:Tm} (h:l[i]?=some x) (m:Nat):cM f (l.take (i+1)) m=(cM f (l.take i) m).bind (f x):=by
 rw[lQ,h];exact aEP f x _ m
theorem aKk {f:Tm→Nat→Option Nat} {l:List Tm} {i:Nat} {m:Nat} (h:cM f (l.take i) m=none):cM f l m=none:=by
 have:∀ (a b:List Tm) m,cM f a m=none→cM f (a++b) m=none:=by
  intro a
  induction a with
  | nil=>intro b m h;cases h
  | cons t r ih =>
   intro b m h;simp only[bP,cM] at h ⊢;cases hf:f t m with
   | none=>rfl
   | some n=>rw[hf] at h;exact ih b n h
 have:=this _ (l.drop i) m h
 rwa[List.take_append_drop] at this
theorem aCE {f:Tm→Nat→Option Nat} (hf:∀ t m n,f t m=some n→n≤2000):∀ (l:List Tm) (a b:Nat),a≤2000→cM f l a=some b→b≤2000
 | [],a,b,ha,h=>by cases h;exact ha
 | x::r,a,b,ha,h=>by
  simp only[cM] at h;cases hx:f x a with
  | none=>rw[hx] at h;cases h
  | some c=>rw[hx] at h;exact aCE hf r c b (hf x a c hx) h
theorem aCK:∀ (k:Nat) (t:Tm) (m n:Nat),Tm.val k t m=some n→n≤2000
 | 0,_,_,_,h=>by cases h
 | k+1,t,m,n,h=>by
  unfold Tm.val at h;split at h
  ·split at h
   ·cases hl:cM (Tm.val k) t.kids (m+1) with
    | none=>rw[hl] at h;cases h
    | some q =>
     rw[hl] at h;simp only[Option.bind_some,hZ] at h;split at h
     ·cases h;exact aCE (fun t m n h=>aCK k t m n h) _ _ _ (by assumption) hl
     ·split at h
      ·cases h;omega
      ·cases h
   ·cases h
  ·cases h
def qA (k c j:Nat):Bool:=decide (j=0)||(decide (0<k)&&decide (c+j≤2000))
def vI (m:Nat):Bool:=decide (m≤2000)
theorem aDc (k c j:Nat):qA k c (j+1)=(decide (0<k)&&vI (c+j+1)):=by simp[qA,vI,lS]
theorem aIM:∀ (k:Nat) (t:Tm) (n:Nat) (r:Nat) (s:St) (KV Kp:St→A→Prop),k≤60→n≤2000→TmW t→s.getO r=some (kT n true) →
    (match Tm.val k t n with
      | some m=>KV (s.setO r (kT m true)) (.tuple [])
      | none=>∀ z,KV (s.setO r (kT z false)) (.tuple []))→Den cx 139 [.ptr r 0,.agg t.cs,.int .i64 (61-(k:Int))] KV Kp s:=by
  intro k
  induction k with
  | zero =>
    intro t n r s KV Kp hk60 hn hw hr hk;simp only[kT] at hr hk ⊢;have w1:=cJ n (by omega);have d1:decide ((61-((0:Nat):Int))≤60)=false:=by decide
    simp only[Tm.val] at hk;(refine aO func139 [0,1,2,4,7,41,43,44,45,46,58,62,63,64] ?_;simp only[go_sem,ntmps139,f139]);(intro p hp;try simp only[aL,ne_eq] at hp);have ep:=bN hr hp;simp only[go_sem,hr,hp,ep,w1,d1];refine aH (hk ((n+1:Nat):Int)) ?_;exact bL
  | succ k ih =>
    intro t n r s KV Kp hk60 hn hw hr hk;simp only[kT] at hr hk;have w1:=cJ n (by omega);have d1:decide ((61-((k+1:Nat):Int))≤60)=true:=by rw[cG];omega
    (refine aO func139 [0,1,2,4,7,41,43,44,45,46,58,62,63,64] ?_;simp only[go_sem,ntmps139,f139]);(intro p hp;try simp only[aL,ne_eq] at hp);have ep:=bN hr hp;simp only[go_sem,hr,hp,ep,w1,d1];by_cases h2:n+1≤2000
    · have d2:decide (((n+1:Nat):Int)≤2000)=true:=by rw[cG];omega
      simp only[go_sem,hr,hp,ep,w1,d1,d2];refine aJ8 t hw _ _ _ ?_;cases hs:t.shape
      · simp only[go_sem,hr,hp,ep,w1,d1,d2]
        have hv:Tm.val (k+1) t n=none:=by rw[Tm.val,if_pos h2,hs,if_neg (by decide)]
        rw[hv] at hk;exact aH (hk ((n+1:Nat):Int)) bL
      have hv:Tm.val (k+1) t n=(cM (Tm.val k) t.kids (n+1)).bind (hZ k t.rest.length):=by rw[Tm.val,if_pos h2,hs,if_pos rfl]
      rw[hv] at hk;simp only[go_sem,hr,hp,ep,w1,d1,d2]
      have w5:IntKind.i64.wrap (61-((k+1:Nat):Int)+1)=61-(k:Int):=by
        rw[fU _ (by omega) (by omega)];omega
      refine Ex.loop (ι:=Nat × Nat) (fun c=>[(0,.ptr r 0),(2,.int .i64 (61-((k+1:Nat):Int))),(4,.ptr p 0),(43,.list none (t.kids.map Tm.enc)),(44,.int .i64 (t.kids.length:Nat)),(45,.int .i64 (c.1:Nat))])
        (fun c=>(s.setO p (.cells 43 t.cs)).setO r (kT c.2 true)) (fun c=>c.1≤t.kids.length∧cM (Tm.val k) (t.kids.take c.1) (n+1)=some c.2) (fun c=>t.kids.length-c.1) (0,n+1) ⟨bS _,rfl⟩ ?_ ?_ ?_
      · (simp only[go_sem];try exact rfl)
      · exact bL
      · rintro ⟨i,c⟩ ⟨hi,hc⟩
        simp only at hi hc;have hcl:=aCE (fun t m n h=>aCK k t m n h) _ _ _ h2 hc;simp only[kT];refine cL (V:=[0,1,2,4,7,41,43,44,45,46,58,62,63,64]) _ _ _ _ ?_;simp only[go_sem,hr,hp,ep];(refine bA (fun h=>?_) (fun h=>?_))<;>simp only[go_sem,h,hr,hp,ep]
        · have hix:i<t.kids.length:=by simpa using h
          clear h;obtain ⟨x,hx⟩:∃ a,t.kids[i]?=some a:=⟨_,bK hix⟩
          have hxm:x∈t.kids:=dP hx;simp only[go_sem,hr,hp,ep,hx,hix];(intro b5 hb5;try simp only[aL,ne_eq] at hb5);simp only[go_sem,hr,hp,ep,hx,hix,hb5,w5];refine ih x c r _ _ _ (by omega) hcl (hw.kids x hxm) (by simp only[kT];exact gH) ?_;have htk:=aKb (f:=Tm.val k) hx (n+1);rw[hc] at htk;simp only[Option.bind_some] at htk;cases hv2:Tm.val k x c with
          | none =>
            rw[hv2] at htk;rw[aKk htk] at hk;intro z;simp only[kT];simp only[go_sem,hr,hp,ep,hb5];exact aH (hk z) bL
          | some c2 =>
            rw[hv2] at htk;simp only[kT];simp only[go_sem,hr,hp,ep,hb5];refine ⟨(i+1,c2),⟨hix,htk⟩,by simp only;omega,(by simp only[go_sem,cJ i (by have:=hw.lk;omega)];try rfl),?_⟩;exact bL
        · have hii : i = t.kids.length := by have : ¬ i < t.kids.length := by simpa using h
                                             omega
          subst hii;rw[List.take_length] at hc;rw[hc] at hk;simp only[Option.bind_some] at hk;clear h;have hwr:=hw.lr;have d6:decide ((61-((k+1:Nat):Int))<60)=decide (0<k):=by rw[fY];omega
          refine Ex.loop (ι:=Nat) (fun j=>[(0,.ptr r 0),(2,.int .i64 (61-((k+1:Nat):Int))),(4,.ptr p 0),(62,.int .i64 (t.rest.length:Nat)),(63,.int .i64 (j:Nat))])
            (fun j=>(s.setO p (.cells 43 t.cs)).setO r (kT ((c+j:Nat):Int) (qA k c j))) (fun j=>j≤t.rest.length) (fun j=>t.rest.length-j) 0 (bS _) ?_ ?_ ?_
          · (simp only[go_sem];try exact rfl)
          · exact bL
          · intro j hj
            have w6:=cJ (c+j) (by omega);simp only[kT];refine cL (V:=[0,1,2,4,7,41,43,44,45,46,58,62,63,64]) _ _ _ _ ?_;simp only[go_sem,hr,hp,ep];(refine bA (fun h=>?_) (fun h=>?_))<;>simp only[go_sem,h,hr,hp,ep]
            · have hjx:j<t.rest.length:=by simpa using h
              clear h;have d7:decide (((c+j+1:Nat):Int)≤2000)=vI (c+j+1):=by unfold vI;rw[fY];omega
              have w7:=cJ j (by omega);cases hb0:qA k c j with
              | false =>
                have e0:(decide (0<k)&&vI (c+j+1))=false:=by
                  simp only[vI,qA,Bool.or_eq_false_iff,Bool.and_eq_false_iff,kW] at hb0 ⊢;omega
                simp only[go_sem,hr,hp,ep,hb0,w6,d6,d7];refine ⟨j+1,hjx,by omega,(by simp only[go_sem,w7];try rfl),?_⟩;rw[aDc,e0];exact bL
              | true =>
                cases hk0:decide (0<k) with
                | false =>
                  simp only[go_sem,hr,hp,ep,hb0,w6,d6,d7,hk0];refine ⟨j+1,hjx,by omega,(by simp only[go_sem,w7];try rfl),?_⟩;rw[aDc,hk0,fL];exact bL
                | true =>
                  simp only[go_sem,hr,hp,ep,hb0,w6,d6,d7,hk0];refine ⟨j+1,hjx,by omega,(by simp only[go_sem,w7];try rfl),?_⟩;rw[aDc,hk0,eZ];exact bL
            · have hjj : j = t.rest.length := by have : ¬ j < t.rest.length := by simpa using h
                                                 omega
              subst hjj;clear h;cases hm:hZ k t.rest.length c with
              | none =>
                rw[hm] at hk
                have e0:qA k c t.rest.length=false:=by
                  unfold hZ at hm;unfold qA;split at hm
                  · cases hm
                  · split at hm
                    · cases hm
                    · simp only[Bool.or_eq_false_iff,Bool.and_eq_false_iff,kW]
                      omega
                rw[e0];exact aH (hk _) bL
              | some m =>
                rw[hm] at hk
                have e0:qA k c t.rest.length=true∧m=c+t.rest.length:=by
                  unfold hZ at hm;unfold qA;split at hm
                  · cases hm;rename_i h0;exact ⟨by rw[h0];rfl,by omega⟩
                  · split at hm
                    · rename_i h0 h1;cases hm
                      exact ⟨by rw[eR h1.1,eR h1.2];simp,rfl⟩
                    · cases hm
                rw[e0.1];rw[e0.2] at hk;exact aH hk bL
    · have d2:decide (((n+1:Nat):Int)≤2000)=false:=by rw[kW];omega
      have hv:Tm.val (k+1) t n=none:=by rw[Tm.val,if_neg h2]
      rw[hv] at hk;simp only[go_sem,hr,hp,ep,w1,d1,d2];exact aH (hk ((n+1:Nat):Int)) bL
theorem aIN (t:Tm) (hw:TmW t) (s:St) (KV Kp:St→A→Prop) (hk:KV s (.bool (Tm.val 60 t 0).isSome)):Den cx 80 [.agg t.cs] KV Kp s:=by
 (refine aO func80 [0,1,2,3] ?_;simp only[go_sem,ntmps80,f80]);(intro p hp;try simp only[aL,ne_eq] at hp);simp only[go_sem,hp];(intro q hq;try simp only[aL,ne_eq] at hq);simp only[go_sem,hp,hq];refine aIM 60 t 0 q _ _ _ (bG _) (by omega) hw (by simp only[kT];exact gH) ?_;cases hv:Tm.val 60 t 0 with
 | none =>
  rw[hv] at hk;intro z;simp only[kT];simp only[go_sem,hp,hq];exact aH hk bL
 | some m =>
  rw[hv] at hk;simp only[kT];simp only[go_sem,hp,hq];exact aH hk bL
end Go.AV
section
open Go.Proofs.Tryz
namespace Go.AV
open Go Go.Proofs
end Go.AV
end
namespace Go.AV
open Go Go.Proofs Tryz
def ev (tk:Option Nat) (es:List A):A:=match tk with
 | none=>.emp
 | some t=>.list (some t) es
@[go_sem] theorem aQP (tk:Option Nat) (es:List A):(ev tk es).cells=[ev tk es]:=by cases tk<;>rfl
@[go_sem] theorem aRs (tk:Option Nat) (es:List A):(ev tk es).one=true:=by cases tk<;>rfl
@[go_sem] theorem aRM (s:St) (tk:Option Nat) (es:List A):fC s (ev tk es)=ev tk es:=by cases tk<;>rfl
theorem aMd {tk:Option Nat} {es:List A} (h:tk=none→es=[]):jN (ev tk es)=some (.int .i64 es.length):=by
 cases tk with
 | none=>rw[h rfl];rfl
 | some t=>rfl
theorem aF7 {s:St} {e:TypeId} {te:TI} {ys:List A} {KV:St→A→Prop} {tk:Option Nat} {es:List A} (hn:tk=none→es=[]) (hg:∀ t,tk=some t→s.getT t=some (es.length,e))
  (he:∀ y,y∈es→y.cells.length=te.sz) (hl:es.length+ys.length≤4294967296)
  (hK:∀ tk',(tk'=none→es++ys=[])→(∀ t,tk'=some t→tk=some t∨s.getT t=none)→KV (gs s tk' (es.length+ys.length) e) (ev tk' (es++ys))):nX cx s e te ys KV (ev tk es):=by
 cases tk with
 | none =>
  have h0:=hn rfl;subst h0;cases ys with
  | nil=>exact hK none (fun _=>rfl) (fun t h=>by cases h)
  | cons y r =>
   refine ⟨⟨by simpa using hl,Nat.succ_pos _⟩,fun t ht=>?_⟩;have:=hK (some t) (fun h=>by cases h) (fun u hu=>by cases hu;exact .inr ht);simpa [gs,ev] using this
 | some t=>exact ⟨hg t rfl,he,hl,hK (some t) (fun h=>by cases h) (fun u hu=>.inl hu)⟩
theorem aM2 {S s:St} {tk1 tk2:Option Nat} {n1 n2:Nat} {e:TypeId} (hs:S.ge s) (h1:∀ t,tk1=some t→(none:Option Nat)=some t∨S.getT t=none) (h2:∀ t,tk2=some t→tk1=some t∨∃ n,(gs S tk1 n e).getT t=none) :
  (gs (gs S tk1 n1 e) tk2 n2 e).ge s:=by
 have f1:∀ t,tk1=some t→S.getT t=none:=fun t h=>(h1 t h).elim (fun h=>by cases h) id
 refine ⟨fun b o ho=>by rw[aR,aR];exact hs.ob b o ho,fun t m hm=>?_,fun x hx=>by cases tk1<;>cases tk2<;>exact hs.ls x hx⟩;have h3:=hs.tk t m hm;have g1:tk1≠some t:=fun h=>by rw[f1 t h] at h3;cases h3
 have g2:tk2≠some t:=fun h=>by
  rcases h2 t h with h|⟨n,h⟩
  ·exact g1 h
  ·rw[eT,if_neg g1,h3] at h;cases h
 rw[eT,if_neg g2,eT,if_neg g1];exact h3
section
def sE (T:List Tok) (fin:Fault) (r k:Nat):Prop:=∀ (s:St) (d:Dc) (first:Tok) (i n:Nat) (KV Kp:St→A→Prop),s.getO r=some (aN T fin d first i n)→i≤T.length→n≤2000 →
 (dY false fin first k (T.drop i) n).to (PK T (i+1) (fun j m=>s.setO r (aN T fin d first j m)) Tm.enc KV) (PB s r Kp)→Den cx 92 [.ptr r 0,.int .i64 ((61-k:Nat):Int)] KV Kp s
theorem Tm.hz (a:Tm):a.enc.cells.length=6:=by rw[bY];rfl
theorem Tm.ho (a:Tm):dU a.enc.cells=true:=by rw[bY];rfl
theorem Tm.le_leaf (k n:Int) (x y:aB):A.le (.agg [.int .i64 k,.int .i64 n,.str x,.str y,.nils,.nils]) (Tm.enc (.mk k n x y [] [])):=by
 rw[bY];exact A.le.agg ⟨⟨bM _,rfl⟩,⟨bM _,rfl⟩,⟨bM _,rfl⟩,⟨bM _,rfl⟩,⟨A.le.nil,rfl⟩,⟨A.le.nil,rfl⟩,trivial⟩
section
variable {T:List Tok} {fin:Fault} {d:Dc} {first:Tok} {i n:Nat} {s:St} {r:Nat} {KV Kp:St→A→Prop}
theorem aIS (k:Nat) (hk60:k≤60) (IH:sE T fin r k) (b3 b5:Nat) (h3:s.getO b3=some (.cells 74 [.ptr r 0])) (h5:s.getO b5=some (.cells 3 [.int .i64 ((60-k:Nat):Int)]))
  (hr:s.getO r=some (aN T fin d first i n)) (hi:i≤T.length) (hn:n≤2000)
  (hk:(dY false fin first k (T.drop i) n).to (PK T (i+1) (fun j m=>s.setO r (aN T fin d first j m)) Tm.enc KV) (PB s r Kp)):Den cx 241 [.ptr b3 0,.ptr b5 0] KV Kp s:=by
 (refine aO func241 [0,1,2] ?_;simp only[go_sem,ntmps241,f241]);(intro b hb;try simp only[aL,ne_eq] at hb);have e3:=bN h3 hb;have e5:=bN h5 hb;have er:=bN hr hb;have ed:IntKind.i64.wrap (((60-k:Nat):Int)+1)=((61-k:Nat):Int):=by rw[cJ _ (by omega)];congr 1;omega
 simp only[go_sem,hb,e3,e5,h3,h5,ed];refine IH _ d first i n _ _ (by rw[aE,if_neg er.2];exact hr) hi hn (aI hk (fun a w m h j hj hjT hw hm=>?_) (fun f h=>PB.mk aF h))
 have h':=h j hj hjT hw hm;simp only at h';rw[bY] at h';simp only[go_sem,hb,er];exact aH h' (St.gx.ge aF (by rw[aE,if_neg er.2,aE,if_pos rfl]<;>rfl))
end
end
section
section
variable {T:List Tok} {fin:Fault} {d:Dc} {first:Tok} {i n:Nat} {s:St} {r:Nat} {KV Kp:St→A→Prop}
structure EntQ (b2 b3 q r k:Nat) (s:St) (acc:List Tm) (tk:Option Nat) (i:Nat):Prop where
 len:acc.length≤i
 h2:s.getO b2=some (.cells 74 [.ptr r 0])
 h3:s.getO b3=some (.cells 3 [.int .i64 ((60-k:Nat):Int)])
 hq:s.getO q=none
 ne:q≠r∧q≠b2∧q≠b3∧r≠b2∧r≠b3
 nil:tk=none→acc=[]
 free:∀ t,tk=some t→s.getT t=none
def eI (T:List Tok) (fin:Fault) (d:Dc) (first:Tok) (kind:Int) (x:aB) (q r:Nat) (s:St) (acc:List Tm) (tk:Option Nat) (i n:Nat):St :=
 gs ((s.setO q (.cells 43 [.int .i64 kind,.int .i64 0,.str x,.str [],gv tk (acc.map Tm.enc),.nils])).setO r (aN T fin d first i n)) tk acc.length 43
theorem aLo (k b2 b3 q:Nat) (hk60:k≤60) (IH:sE T fin r k) (hT:TOk T) (acc:List Tm) (tk:Option Nat) (hQ:EntQ b2 b3 q r k s acc tk i) (hi:i≤T.length) (hn:n≤2000)
  (hk : (lG fin (dY false fin first k) acc (T.drop i) n).to (fun a w n' => ∀ j y,i ≤ j → j ≤ T.length → T.drop j = w → n' ≤ 2000 → EntQ b2 b3 q r k s a y j → KV (eI T fin d first 8 [] q r s a y j n') (.bool true))
   (fun f=>∀ s1 o,s1.gx s r→s1.getO r=some o→Kp s1 (.iface 36 f.enc))):Den cx 286 [.ptr q 0,.ptr b2 0,.ptr b3 0] KV Kp (eI T fin d first 8 [] q r s acc tk i n):=by
 obtain ⟨hac,h2,h3,hq,⟨n1,n2,n3,n4,n5⟩,hnil,hfree⟩:=hQ;have hlen:=hT.len;have ed:IntKind.i64.wrap (((60-k:Nat):Int)+1)=((61-k:Nat):Int):=by rw[cJ _ (by omega)];congr 1;omega
 have hg:mL (eI T fin d first 8 [] q r s acc tk i n) tk (acc.map Tm.enc).length 43:=by rw[aS];exact jD fun e=>by rw[hnil e];rfl
 refine aE8 ?_;(refine aO func286 [0,1,2,3] ?_;simp only[go_sem,ntmps286,Tryz.f286]);unfold eI;simp only[lG,aX] at hk;cases tk with
 | none =>
  obtain rfl:=hnil rfl;simp only[aGb];(refine bF (OT.l [0,1,2,3,4,6,7,5,8,9,11] (.pair 10 12)) [(5,[1])] ?_;simp only[go_sem,n1,n2,n3,n4,n5,n1.symm,n2.symm,n3.symm,n4.symm,n5.symm,h2,h3,ed]);refine IH _ d first i n _ _ (by rw[aR,aE,if_pos rfl]<;>rfl) hi hn (aI hk (fun kk w m hk2 j hj hjT hw hm=>?_) (fun f h o=>?_))
  rotate_left
  ·simp only[go_sem];exact aY (h _ _ (mO (eS (dA (bQ hq (dJ s r))) hfree) rfl) (by rw[cP,aR,aE,if_pos rfl]<;>rfl))
  simp only[go_sem,n1,n2,n3,n4,n5,n1.symm,n2.symm,n3.symm,n4.symm,n5.symm,h2,h3,ed,Tm.hz];refine ⟨by decide,?_⟩;intro t ht;refine ⟨rfl,?_⟩;have hft:s.getT t=none:=ht;subst hw;refine eP aEb ?_;refine dN (T:=T) (fin:=fin) (d:=d) (first:=first) (i:=j) (n:=m) _ (by simp only[cP,aR,aE,ne_eq,reduceIte,n1,cZ]<;>(first|done|rfl)) hjT hT (aI hk2 (fun _ w2 m2 hk3 hlt hw2 hm2=>?_) (fun f h o=>?_));rotate_left
  ·simp only[go_sem];exact aY (h _ o (by repeat (first|exact dJ _ _|refine pG ?_ rfl|refine mO ?_ rfl|refine eS ?_ (fun _ e=>by cases e;assumption)|refine dA ?_|refine bQ hq ?_)) (by simp only[cP,aR,aE,ne_eq,reduceIte,n1,cZ]<;>(first|done|rfl)))
  subst hw2 hm2;simp only[go_sem,n1,n2,n3,n4,n5,n1.symm,n2.symm,n3.symm,n4.symm,n5.symm,h2,h3,ed];(refine bF (OT.l [0,1,2,3,4,6,7,5,8,9,11] (.pair 10 12)) [(5,[1])] ?_;simp only[go_sem,n1,n2,n3,n4,n5,n1.symm,n2.symm,n3.symm,n4.symm,n5.symm,h2,h3,ed]);refine IH _ d first (j+1) _ _ _ (by simp only[cP,aR,aE,ne_eq,reduceIte,n1,cZ]<;>(first|done|rfl)) hlt hm (aI hk3 (fun vv w3 m3 hk4 j3 hj3 hjT3 hw3 hm3=>?_) (fun f h o=>?_))
  rotate_left
  ·simp only[go_sem];exact aY (h _ o (by repeat (first|exact dJ _ _|refine pG ?_ rfl|refine mO ?_ rfl|refine eS ?_ (fun _ e=>by cases e;assumption)|refine dA ?_|refine bQ hq ?_)) (by simp only[cP,aR,aE,ne_eq,reduceIte,n1,cZ]<;>(first|done|rfl)))
  simp only[go_sem,n1,n2,n3,n4,n5,n1.symm,n2.symm,n3.symm,n4.symm,n5.symm,h2,h3,ed,Tm.hz];refine ⟨by decide,⟨by rw[rN,eT,if_pos rfl],fun y hy=>?_⟩,fun t2 ht2=>?_⟩
  ·simp only[cY] at hy;subst hy;rfl
  have hft2:s.getT t2=none:=aE7 ht2 hft (fun _=>rfl);have hk5:=hk4 j3 (some t2) (by omega) hjT3 hw3 hm3 ⟨by simp only[aK,aD,aG] at hac ⊢;omega,h2,h3,hq,⟨n1,n2,n3,n4,n5⟩,fun e=>(by cases e),fun t' e=>by cases e;exact hft2⟩;simp only[eI,dT] at hk5;rw[show (([]:List Tm)++[kk,vv]).length=2 by simp] at hk5;refine aH (s2:=(gs ((s.setO q (.cells 43 [.int .i64 8,.int .i64 0,.str [],.str [],.list (some t2) ((([]:List Tm)++[kk,vv]).map Tm.enc),.nils])).setO r (aN T fin d first j3 m3)) (some t2) (2) 43).setL none) hk5 ?_;refine aEv hft (fun b o hb=>?_) (fun _=>rfl) (by simp);simp only[aE] at hb ⊢;by_cases hb1:q=b
  ·subst hb1;simp only[n1,n1.symm,if_true,if_false] at hb ⊢;simpa [bY,Tm.cs] using hb
  ·by_cases hb2:r=b
   ·simp only[hb1,hb2,if_true,if_false] at hb ⊢;exact hb
   ·simp only[hb1,hb2,if_false] at hb ⊢;exact hb
 | some u =>
  simp only[dT];(refine bF (OT.l [0,1,2,3,4,6,7,5,8,9,11] (.pair 10 12)) [(5,[1])] ?_;simp only[go_sem,n1,n2,n3,n4,n5,n1.symm,n2.symm,n3.symm,n4.symm,n5.symm,h2,h3,ed]);refine IH _ d first i n _ _ (by rw[aR,aE,if_pos rfl]<;>rfl) hi hn (aI hk (fun kk w m hk2 j hj hjT hw hm=>?_) (fun f h o=>?_))
  rotate_left
  ·simp only[go_sem];exact aY (h _ _ (mO (eS (dA (bQ hq (dJ s r))) hfree) rfl) (by rw[cP,aR,aE,if_pos rfl]<;>rfl))
  simp only[go_sem,n1,n2,n3,n4,n5,n1.symm,n2.symm,n3.symm,n4.symm,n5.symm,h2,h3,ed,Tm.hz];refine ⟨by decide,?_⟩;refine ⟨⟨by rw[eT,if_pos rfl],fun y hy=>?_,by omega⟩,fun t ht=>?_⟩
  ·simp only[cO] at hy;obtain ⟨z,_,rfl⟩:=hy;exact Tm.hz z
  have hft:s.getT t=none:=yZ ht (hfree u rfl) (fun _=>rfl);subst hw;refine eP (aBs (hfree u rfl)) ?_;refine dN (T:=T) (fin:=fin) (d:=d) (first:=first) (i:=j) (n:=m) _ (by simp only[cP,aR,aE,ne_eq,reduceIte,n1,cZ]<;>(first|done|rfl)) hjT hT (aI hk2 (fun _ w2 m2 hk3 hlt hw2 hm2=>?_) (fun f h o=>?_));rotate_left
  ·simp only[go_sem];exact aY (h _ o (by repeat (first|exact dJ _ _|refine pG ?_ rfl|refine mO ?_ rfl|refine eS ?_ (fun _ e=>by cases e;assumption)|refine dA ?_|refine bQ hq ?_)) (by simp only[cP,aR,aE,ne_eq,reduceIte,n1,cZ]<;>(first|done|rfl)))
  subst hw2 hm2;simp only[go_sem,n1,n2,n3,n4,n5,n1.symm,n2.symm,n3.symm,n4.symm,n5.symm,h2,h3,ed];(refine bF (OT.l [0,1,2,3,4,6,7,5,8,9,11] (.pair 10 12)) [(5,[1])] ?_;simp only[go_sem,n1,n2,n3,n4,n5,n1.symm,n2.symm,n3.symm,n4.symm,n5.symm,h2,h3,ed]);refine IH _ d first (j+1) _ _ _ (by simp only[cP,aR,aE,ne_eq,reduceIte,n1,cZ]<;>(first|done|rfl)) hlt hm (aI hk3 (fun vv w3 m3 hk4 j3 hj3 hjT3 hw3 hm3=>?_) (fun f h o=>?_))
  rotate_left
  ·simp only[go_sem];exact aY (h _ o (by repeat (first|exact dJ _ _|refine pG ?_ rfl|refine mO ?_ rfl|refine eS ?_ (fun _ e=>by cases e;assumption)|refine dA ?_|refine bQ hq ?_)) (by simp only[cP,aR,aE,ne_eq,reduceIte,n1,cZ]<;>(first|done|rfl)))
  simp only[go_sem,n1,n2,n3,n4,n5,n1.symm,n2.symm,n3.symm,n4.symm,n5.symm,h2,h3,ed,Tm.hz];refine ⟨by decide,⟨by rw[rN,eT,if_pos rfl];simp,fun y hy=>?_,by simp;omega⟩,fun t2 ht2=>?_⟩
  ·rcases gX.1 hy with hy|hy
   ·simp only[cO] at hy;obtain ⟨z,_,rfl⟩:=hy;exact Tm.hz z
   ·simp only[cY] at hy;subst hy;rfl
  have hft2:s.getT t2=none:=aE7 ht2 hft (fun _=>rfl);have hk5:=hk4 j3 (some t2) (by omega) hjT3 hw3 hm3 ⟨by simp only[aK,aD,aG] at hac ⊢;omega,h2,h3,hq,⟨n1,n2,n3,n4,n5⟩,fun e=>(by cases e),fun t' e=>by cases e;exact hft2⟩;simp only[eI,dT] at hk5;rw[show (acc++[kk,vv]).length=acc.length+2 by simp] at hk5;refine aH (s2:=(gs ((s.setO q (.cells 43 [.int .i64 8,.int .i64 0,.str [],.str [],.list (some t2) ((acc++[kk,vv]).map Tm.enc),.nils])).setO r (aN T fin d first j3 m3)) (some t2) (acc.length+2) 43).setL none) hk5 ?_;refine aEv hft (fun b o hb=>?_) (fun _=>rfl) (by simp);simp only[aE] at hb ⊢;by_cases hb1:q=b
  ·subst hb1;simp only[n1,n1.symm,if_true,if_false] at hb ⊢;simpa [bY,Tm.cs] using hb
  ·by_cases hb2:r=b
   ·simp only[hb1,hb2,if_true,if_false] at hb ⊢;exact hb
   ·simp only[hb1,hb2,if_false] at hb ⊢;exact hb
end
end
section
section
variable {T:List Tok} {fin:Fault} {d:Dc} {first:Tok} {i n:Nat} {s:St} {r:Nat} {KV Kp:St→A→Prop}
theorem EntQ.setT {b2 b3 q r k:Nat} {s:St} {acc:List Tm} {tk:Option Nat} {i t:Nat} {v:Nat × TypeId} (h:EntQ b2 b3 q r k s acc tk i) (ht:tk≠some t):EntQ b2 b3 q r k (s.setT t v) acc tk i :=
 ⟨h.len,h.h2,h.h3,h.hq,h.ne,h.nil,fun u hu => by
  rw[bT,if_neg (fun e=>ht (by rw[hu,e]))];exact h.free u hu⟩
theorem EntQ.unT {b2 b3 q r k:Nat} {s:St} {acc:List Tm} {tk:Option Nat} {i t:Nat} {v:Nat × TypeId} (h:EntQ b2 b3 q r k (s.setT t v) acc tk i):tk≠some t∧∀ u,tk=some u→s.getT u=none:=by
 have h1:tk≠some t:=fun e=>by
  have:=h.free t e;rw[bT,if_pos rfl] at this;cases this
 refine ⟨h1,fun u hu=>?_⟩;have:=h.free u hu;rw[bT] at this;split at this
 ·cases this
 ·exact this
theorem EntQ.dropT {b2 b3 q r k:Nat} {s:St} {acc:List Tm} {tk:Option Nat} {i t:Nat} {v:Nat × TypeId} (h:EntQ b2 b3 q r k (s.setT t v) acc tk i):EntQ b2 b3 q r k s acc tk i :=
 ⟨h.len,h.h2,h.h3,h.hq,h.ne,h.nil,h.unT.2⟩
section
variable {kind:Int} {x:aB} {q:Nat} {acc:List Tm} {tk:Option Nat} {t:Nat} {v u:Nat × TypeId}
theorem tH:(eI T fin d first kind x q r s acc tk i n).getT t=if tk=some t then some (acc.length,43) else s.getT t:=eT _ _ _ _ _
theorem aEO (h:tk≠some t):((eI T fin d first kind x q r s acc tk i n).setT t v).ge (eI T fin d first kind x q r (s.setT t v) acc tk i n):=aCB h
theorem aE1 (h:tk≠some t):((eI T fin d first kind x q r (s.setT t v) acc tk i n).setT t u).ge (eI T fin d first kind x q r (s.setT t u) acc tk i n):=by
 refine ⟨fun b o ho=>by rw[gV];unfold eI at *;rw[aR] at *;exact ho,fun c m hm=>?_,fun y hy=>by cases tk<;>exact hy⟩;rw[tH,bT] at hm;rw[bT,tH,bT];by_cases htc:t=c
 ·subst htc;rw[if_neg h,if_pos rfl] at hm;rw[if_pos rfl];exact hm
 ·rw[if_neg htc] at hm ⊢;rw[if_neg htc];exact hm
theorem aEQ (h:s.getT t=none):(eI T fin d first kind x q r (s.setT t v) acc tk i n).ge (eI T fin d first kind x q r s acc tk i n) :=
 aFE (fun b o ho=>ho) (fun y hy=>hy) (fun c m _ hm=>by
  show (s.setT t v).getT c=some m;have hm':s.getT c=some m:=hm;rw[bT];by_cases htc:t=c
  ·subst htc;rw[h] at hm';cases hm'
  ·rw[if_neg htc];exact hm')
theorem aG2 (hq:q≠r):(eI T fin d first kind x q r s acc tk i n).getO r=some (aN T fin d first i n):=by
 unfold eI;rw[aR,aE,if_pos rfl]
theorem aET:((eI T fin d first kind x q r s acc tk i n).setO r (aN T fin d first (i+1) n)).ge (eI T fin d first kind x q r s acc tk (i+1) n):=by
 unfold eI;rw[zN,lU];exact bW _
end
theorem aI0 (k:Nat) (hk60:k≤60) (IH:sE T fin r k) (hr:s.getO r=some (aN T fin d first i n)) (hi:i≤T.length) (hT:TOk T) (hn:n≤2000)
  (hk : ((if isT [124] (T.drop i) = true ∨ isT [125] (T.drop i) = true then Rd.ok [] (T.drop i) n else bZ fin [44] (lG fin (dY false fin first k)) ((T.drop i).length + 1) [] (T.drop i) n).bind fun l w n =>
   (nV fin first (decide (k=0)) [77,97,112] w n).bind fun r w n=>(eA fin [125] w n).bind fun _ w n=>.ok (.mk 8 0 [] [] l r) w n).to (PK T i (fun j m=>s.setO r (aN T fin d first j m)) Tm.enc KV) (PB s r Kp)) :
  Den cx 243 [.ptr r 0,.int .i64 ((60-k:Nat):Int)] KV Kp s:=by
 (refine aO func243 [0,1,2,3,4,5,6,16] ?_;simp only[go_sem,ntmps243,Tryz.f243]);(intro b2 hb2;try simp only[aL,ne_eq] at hb2);simp only[go_sem,hb2];(intro b3 hb3;try simp only[aL,ne_eq] at hb3);simp only[go_sem,hb2,hb3];(intro b4 hb4;try simp only[aL,ne_eq] at hb4);simp only[go_sem,hb2,hb3,hb4];(intro b5 hb5;try simp only[aL,ne_eq] at hb5);have e2:=bN hr hb2;have e3:=bN hr hb3.2;have e4:=bN hr hb4.2.2;have e5:=bN hr hb5.2.2.2;have ek:decide (60-k=60)=decide (k=0):=by rw[fY];omega
 simp only[go_sem,hb2,hb3,hb4,hb5,e2,e3,e4,e5];refine kM (T:=T) (fin:=fin) (d:=d) (first:=first) (i:=i) (n:=n) _ gH hi ?_;simp only[go_sem,hb2,hb3,hb4,hb5,e2,e3,e4,e5];cases cA:isT [124] (T.drop i)
 ·simp only[go_sem,hb2,hb3,hb4,hb5,e2,e3,e4,e5,cA];refine kM (T:=T) (fin:=fin) (d:=d) (first:=first) (i:=i) (n:=n) _ gH hi ?_;simp only[go_sem,hb2,hb3,hb4,hb5,e2,e3,e4,e5,cA];cases cB:isT [125] (T.drop i)
  ·simp only[go_sem,hb2,hb3,hb4,hb5,e2,e3,e4,e5,cA,cB];rw[if_neg (by rw[cA,cB];simp),aX] at hk
   refine eP (oJ gH) (aBr (fin:=fin) (σ:=List Tm) (α:=Unit) (X:=Option Nat) (r:=r) (fun _=>.bool true) (fun _=>rfl) (fun _=>rfl) hT
    (fun s' acc tk i n=>eI T fin d first 8 [] b5 r s' acc tk i n) (fun s' acc tk i=>EntQ b2 b3 b5 r k s' acc tk i) (fun acc w n=>(lG fin (dY false fin first k) acc w n).bind fun a w n=>.ok (a,()) w n) 286 [] [.ptr b5 0,.ptr b2 0,.ptr b3 0]
    (fun s' a x i n=>⟨d,first,aG2 e5.2,aET⟩) (fun s' a x i n t v h ht=>?_) (fun s' a x i n t v u ht h=>?_) (fun s' a x i n t v ht h=>⟨h.dropT,aEQ ht⟩)
    (fun s' a x i h=>⟨by have:=h.len;omega,h.h2,h.h3,h.hq,h.ne,h.nil,h.free⟩) (fun s' a x i n h=>eS (dA (bQ h.hq (dJ _ _))) h.free)
    (fun s' a x i n KV' Kp' h hi' hn' hk'=>aLo k b2 b3 b5 hk60 IH hT a x h hi' hn' (by rw[aX] at hk';exact aI hk' (fun _ _ _ h=>h) (fun _ h=>h)))
    [] none i n ?_ hi hn ?_)
   ·have ht':=ht;rw[tH] at ht';have hx:x≠some t:=fun e=>by rw[if_pos e] at ht';cases ht'
    rw[if_neg hx] at ht';exact ⟨ht',h.setT hx,aEO hx⟩
   ·have hx:=h.unT.1;refine ⟨by rw[tH,if_neg hx,bT,if_pos rfl],h.dropT.setT hx,aE1 hx⟩
   ·refine ⟨bS _,gH,gH,?_,⟨e5.2,hb5.2.2.1.2,hb5.2.1.2,e2.1,e3.1⟩,fun _=>rfl,fun t e=>(by cases e)⟩;simp only[aE,ne_eq,reduceIte,hb5]
   refine aI (yE _ _ _ _ _ [] _ _ _ _ hk) (fun c w m hk2 j y hj hjT hw hm hy=>?_) (fun f h s1 o hg hr1=>h.at (hg.trans aF) hr1);obtain ⟨l,ul⟩:=c;simp only at hk2 hy;subst hw;rw[aX,← ek] at hk2;have hfy:∀ t,y=some t→s.getT t=none:=hy.free
   have hny:=hy.nil;simp only[eI];simp only[go_sem,hb2,hb3,hb4,hb5,e2,e3,e4,e5];refine tO (T:=T) (fin:=fin) (d:=d) (first:=first) (i:=j) (n:=m) (60-k) _ (by simp only[cP,aR,aE,ne_eq,reduceIte,cZ,hb2,hb3,hb4,hb5,e2,e3,e4,e5]<;>(first|done|rfl|assumption)) hjT hT hm (aI hk2 (fun rs w2 m2 hk3 j2 hj2 hjT2 hw2 hm2=>?_) (fun f h=>PB.mk (by repeat (first|exact dJ _ _|refine eS ?_ hfy|refine dA ?_|refine bQ hb2 ?_|refine bQ hb3.2 ?_|refine bQ hb4.2.2 ?_|refine bQ hb5.2.2.2 ?_)) h));subst hw2;simp only[go_sem,hb2,hb3,hb4,hb5,e2,e3,e4,e5];refine dN (T:=T) (fin:=fin) (d:=d) (first:=first) (i:=j2) (n:=m2) _ (by simp only[cP,aR,aE,ne_eq,reduceIte,cZ,hb2,hb3,hb4,hb5,e2,e3,e4,e5]<;>(first|done|rfl|assumption)) hjT2 hT ?_;rw[aX] at hk3;refine aI hk3 (fun _ w3 m3 hk4 hlt3 hw3 hm3=>?_) (fun f h=>PB.mk (by repeat (first|exact dJ _ _|refine eS ?_ hfy|refine dA ?_|refine bQ hb2 ?_|refine bQ hb3.2 ?_|refine bQ hb4.2.2 ?_|refine bQ hb5.2.2.2 ?_)) h);rw[bB] at hk4;subst hm3;simp only[go_sem,hb2,hb3,hb4,hb5,e2,e3,e4,e5];refine ⟨qO y _,?_⟩;refine DK.mk (hk4 (j2+1) (by omega) hlt3 hw3 hm2) (St.gx.ge (by repeat (first|exact dJ _ _|refine eS ?_ hfy|refine dA ?_|refine bQ hb2 ?_|refine bQ hb3.2 ?_|refine bQ hb4.2.2 ?_|refine bQ hb5.2.2.2 ?_)) (by simp only[cP,aR,aE,ne_eq,reduceIte,cZ,hb2,hb3,hb4,hb5,e2,e3,e4,e5]<;>(first|done|rfl|assumption))) ?_;rw[bY];exact A.le.agg ⟨⟨bM _,rfl⟩,⟨bM _,rfl⟩,⟨bM _,rfl⟩,⟨bM _,rfl⟩,⟨mZ y _ (fun e=>by rw[hny e];rfl),rfl⟩,⟨bM _,rfl⟩,trivial⟩
  ·(try simp only[go_sem,hb2,hb3,hb4,hb5,e2,e3,e4,e5,cA,cB])
   rw[if_pos (by simp[cA,cB]),aX,bB,aX,← ek] at hk;have hfy:∀ t:Nat,(none:Option Nat)=some t→s.getT t=none:=fun t e=>by cases e
   refine tO (T:=T) (fin:=fin) (d:=d) (first:=first) (i:=i) (n:=n) (60-k) _ (by simp only[cP,aR,aE,ne_eq,reduceIte,cZ,hb2,hb3,hb4,hb5,e2,e3,e4,e5]<;>(first|done|rfl|assumption)) hi hT hn (aI hk (fun rs w2 m2 hk3 j2 hj2 hjT2 hw2 hm2=>?_) (fun f h=>PB.mk (by repeat (first|exact dJ _ _|refine eS ?_ hfy|refine dA ?_|refine bQ hb2 ?_|refine bQ hb3.2 ?_|refine bQ hb4.2.2 ?_|refine bQ hb5.2.2.2 ?_)) h));subst hw2;simp only[go_sem,hb2,hb3,hb4,hb5,e2,e3,e4,e5];refine dN (T:=T) (fin:=fin) (d:=d) (first:=first) (i:=j2) (n:=m2) _ (by simp only[cP,aR,aE,ne_eq,reduceIte,cZ,hb2,hb3,hb4,hb5,e2,e3,e4,e5]<;>(first|done|rfl|assumption)) hjT2 hT ?_;rw[aX] at hk3;refine aI hk3 (fun _ w3 m3 hk4 hlt3 hw3 hm3=>?_) (fun f h=>PB.mk (by repeat (first|exact dJ _ _|refine eS ?_ hfy|refine dA ?_|refine bQ hb2 ?_|refine bQ hb3.2 ?_|refine bQ hb4.2.2 ?_|refine bQ hb5.2.2.2 ?_)) h);rw[bB] at hk4;subst hm3;simp only[go_sem,hb2,hb3,hb4,hb5,e2,e3,e4,e5];refine DK.mk (hk4 (j2+1) (by omega) hlt3 hw3 hm2) (St.gx.ge (by repeat (first|exact dJ _ _|refine eS ?_ hfy|refine dA ?_|refine bQ hb2 ?_|refine bQ hb3.2 ?_|refine bQ hb4.2.2 ?_|refine bQ hb5.2.2.2 ?_)) (by simp only[cP,aR,aE,ne_eq,reduceIte,cZ,hb2,hb3,hb4,hb5,e2,e3,e4,e5]<;>(first|done|rfl|assumption))) ?_;rw[bY];exact A.le.agg ⟨⟨bM _,rfl⟩,⟨bM _,rfl⟩,⟨bM _,rfl⟩,⟨bM _,rfl⟩,⟨A.le.nil,rfl⟩,⟨bM _,rfl⟩,trivial⟩
 ·(try simp only[go_sem,hb2,hb3,hb4,hb5,e2,e3,e4,e5,cA])
  rw[if_pos (by simp[cA]),aX,bB,aX,← ek] at hk;have hfy:∀ t:Nat,(none:Option Nat)=some t→s.getT t=none:=fun t e=>by cases e
  refine tO (T:=T) (fin:=fin) (d:=d) (first:=first) (i:=i) (n:=n) (60-k) _ (by simp only[cP,aR,aE,ne_eq,reduceIte,cZ,hb2,hb3,hb4,hb5,e2,e3,e4,e5]<;>(first|done|rfl|assumption)) hi hT hn (aI hk (fun rs w2 m2 hk3 j2 hj2 hjT2 hw2 hm2=>?_) (fun f h=>PB.mk (by repeat (first|exact dJ _ _|refine eS ?_ hfy|refine dA ?_|refine bQ hb2 ?_|refine bQ hb3.2 ?_|refine bQ hb4.2.2 ?_|refine bQ hb5.2.2.2 ?_)) h));subst hw2;simp only[go_sem,hb2,hb3,hb4,hb5,e2,e3,e4,e5];refine dN (T:=T) (fin:=fin) (d:=d) (first:=first) (i:=j2) (n:=m2) _ (by simp only[cP,aR,aE,ne_eq,reduceIte,cZ,hb2,hb3,hb4,hb5,e2,e3,e4,e5]<;>(first|done|rfl|assumption)) hjT2 hT ?_;rw[aX] at hk3;refine aI hk3 (fun _ w3 m3 hk4 hlt3 hw3 hm3=>?_) (fun f h=>PB.mk (by repeat (first|exact dJ _ _|refine eS ?_ hfy|refine dA ?_|refine bQ hb2 ?_|refine bQ hb3.2 ?_|refine bQ hb4.2.2 ?_|refine bQ hb5.2.2.2 ?_)) h);rw[bB] at hk4;subst hm3;simp only[go_sem,hb2,hb3,hb4,hb5,e2,e3,e4,e5];refine DK.mk (hk4 (j2+1) (by omega) hlt3 hw3 hm2) (St.gx.ge (by repeat (first|exact dJ _ _|refine eS ?_ hfy|refine dA ?_|refine bQ hb2 ?_|refine bQ hb3.2 ?_|refine bQ hb4.2.2 ?_|refine bQ hb5.2.2.2 ?_)) (by simp only[cP,aR,aE,ne_eq,reduceIte,cZ,hb2,hb3,hb4,hb5,e2,e3,e4,e5]<;>(first|done|rfl|assumption))) ?_;rw[bY];exact A.le.agg ⟨⟨bM _,rfl⟩,⟨bM _,rfl⟩,⟨bM _,rfl⟩,⟨bM _,rfl⟩,⟨A.le.nil,rfl⟩,⟨bM _,rfl⟩,trivial⟩
end
end
section
section
variable {T:List Tok} {fin:Fault} {d:Dc} {first:Tok} {i n:Nat} {s:St} {r:Nat} {KV Kp:St→A→Prop}
theorem aJE (k:Nat) (hk60:k≤60) (IH:sE T fin r k) (t:Tok) (hr:s.getO r=some (aN T fin d first i n)) (hi:i≤T.length) (hT:TOk T) (hn:n≤2000) (ht:t∈T)
  (hk:(kK fin first (dY false fin first k) (decide (k=0)) t (T.drop i) n).to (PK T i (fun j m=>s.setO r (aN T fin d first j m)) Tm.enc KV) (PB s r Kp)) :
  Den cx 168 [.ptr r 0,t.enc,.int .i64 ((60-k:Nat):Int)] KV Kp s:=by
 simp only[go_sem];(refine aO func168 [0,1,2,3,4,5,6,7,8,9,11,12,33,47,71,84,94,107] ?_;simp only[go_sem,ntmps168,f168]);(intro b3 hb3;try simp only[aL,ne_eq] at hb3);simp only[go_sem,hb3];(intro b4 hb4;try simp only[aL,ne_eq] at hb4);simp only[go_sem,hb3,hb4];(intro b5 hb5;try simp only[aL,ne_eq] at hb5);simp only[go_sem,hb3,hb4,hb5];(intro b6 hb6;try simp only[aL,ne_eq] at hb6);have e3:=bN hr hb3;have e4:=bN hr hb4.2;have e5:=bN hr hb5.2.2;have e6:=bN hr hb6.2.2.2;have hr2:=hr;simp only[go_sem] at hr2;have hlen:=hT.len;simp only[go_sem,hb3,hb4,hb5,hb6,e3,e4,e5,e6];(refine bA (fun h=>?_) (fun h=>?_))<;>simp only[go_sem,h,hb3,hb4,hb5,hb6,e3,e4,e5,e6]
 ·
  have hx:t.text=[45]:=by simpa using h
  simp only[kK,hx,if_true] at hk
  (try simp only[go_sem,hb3,hb4,hb5,hb6,e3,e4,e5,e6])
  refine hH (T:=T) (fin:=fin) (d:=d) (first:=first) (i:=i) (n:=n) gH hi ?_;cases hw:T.drop i with
  | nil=>rw[hw] at hk;exact hk.at aF gH
  | cons u w =>
   rw[hw] at hk;obtain ⟨h1,h2,h3,h4⟩:=iV hw;simp only[go_sem];(intro b7 hb7;try simp only[aL,ne_eq] at hb7);have e7:=bN hr hb7.2.2.2.2
   have bad:∀ (KV':St→A→Prop) (s1:St),s1.gx s r→s1.getO r=some (aN T fin d first i n)→PB s r Kp (dR fin 11 (u::w))→Den cx 42 [.ptr r 0,.int .i64 11] KV' (DK Kp) s1:=by
    intro KV' s1 hg1 hr1 hf;refine lA 11 hr1 hi hT ?_;rw[hw];exact hf.at hg1 hr1
   simp only at hk;have ecol:IntKind.i64.wrap (t.col+1)=t.col+1:=by have:=hT.col t ht;exact fU _ (by omega) (by omega)
   have eneg:IntKind.i64.wrap (0-u.n)=-u.n:=by have:=hT.num u h4;rw[fU _ (by omega) (by omega)];omega
   cases c1:decide (u.kind=2)
   ·have h2:¬ u.kind=2:=by simpa using c1
    rw[if_neg (fun hc=>h2 hc.1),cV] at hk;simp only[go_sem,hb3,hb4,hb5,hb6,e3,e4,e5,e6,hb7,e7,hr2,c1];exact bad _ _ aF gH hk
   cases c2:decide (u.line=t.line)
   ·have h2:¬ u.line=t.line:=by simpa using c2
    rw[if_neg (fun hc=>h2 hc.2.1),cV] at hk;simp only[go_sem,hb3,hb4,hb5,hb6,e3,e4,e5,e6,hb7,e7,hr2,c1,c2];exact bad _ _ aF gH hk
   cases c3:decide (u.col=t.col+1)
   ·have h2:¬ u.col=t.col+1:=by simpa using c3
    rw[if_neg (fun hc=>h2 hc.2.2),cV] at hk;simp only[go_sem,hb3,hb4,hb5,hb6,e3,e4,e5,e6,hb7,e7,hr2,c1,c2,ecol,c3];exact bad _ _ aF gH hk
   ·rw[if_pos ⟨by simpa using c1,by simpa using c2,by simpa using c3⟩,bB] at hk;simp only[go_sem,hb3,hb4,hb5,hb6,e3,e4,e5,e6,hb7,e7,hr2,c1,c2,ecol,c3,cJ i (by omega),eneg];refine DK.mk (hk (i+1) (by omega) h2 h3 hn) (St.gx.ge aF gH) (Tm.le_leaf _ _ _ _)
 have x1:¬ t.text=[45]:=by simpa using h
 (try simp only[go_sem,hb3,hb4,hb5,hb6,e3,e4,e5,e6])
 (refine bA (fun h=>?_) (fun h=>?_))<;>simp only[go_sem,h,hb3,hb4,hb5,hb6,e3,e4,e5,e6]
 ·
  have hx:t.text=[39]:=by simpa using h
  rw[kK.eq_def,if_neg x1,if_pos hx] at hk
  (try simp only[go_sem,hb3,hb4,hb5,hb6,e3,e4,e5,e6])
  refine hH (T:=T) (fin:=fin) (d:=d) (first:=first) (i:=i) (n:=n) gH hi ?_;cases hw:T.drop i with
  | nil=>rw[hw] at hk;exact hk.at aF gH
  | cons u w =>
   rw[hw] at hk;obtain ⟨h1,h2,h3,h4⟩:=iV hw;simp only[go_sem];(intro b7 hb7;try simp only[aL,ne_eq] at hb7);have e7:=bN hr hb7.2.2.2.2
   have bad:∀ (KV':St→A→Prop) (s1:St),s1.gx s r→s1.getO r=some (aN T fin d first i n)→PB s r Kp (dR fin 11 (u::w))→Den cx 42 [.ptr r 0,.int .i64 11] KV' (DK Kp) s1:=by
    intro KV' s1 hg1 hr1 hf;refine lA 11 hr1 hi hT ?_;rw[hw];exact hf.at hg1 hr1
   simp only at hk;cases c1:decide (u.kind=1)
   ·have h2:¬ u.free=true:=by simp[Tok.free,c1]
    rw[if_neg (fun hc=>h2 hc.1),cV] at hk;simp only[go_sem,hb3,hb4,hb5,hb6,e3,e4,e5,e6,hb7,e7,hr2,c1];exact bad _ _ aF gH hk
   simp only[go_sem,hb3,hb4,hb5,hb6,e3,e4,e5,e6,hb7,e7,hr2,c1];refine oY _ _ _ _ ?_;simp only[go_sem,hb3,hb4,hb5,hb6,e3,e4,e5,e6,hb7,e7,hr2,c1];cases c2:decide (u.text∈dE);rotate_left
   ·have h2:¬ u.free=true:=by simp[Tok.free,c2]
    rw[if_neg (fun hc=>h2 hc.1),cV] at hk;simp only[go_sem,hb3,hb4,hb5,hb6,e3,e4,e5,e6,hb7,e7,hr2,c1,c2];exact bad _ _ aF gH hk
   simp only[go_sem,hb3,hb4,hb5,hb6,e3,e4,e5,e6,hb7,e7,hr2,c1,c2];refine aFM _ _ _ _ ?_;simp only[go_sem,hb3,hb4,hb5,hb6,e3,e4,e5,e6,hb7,e7,hr2,c1,c2];cases c3:nC u.text
   ·rw[if_neg (fun hc=>by rw[c3] at hc;exact absurd hc.2 (by simp)),cV] at hk;simp only[go_sem,hb3,hb4,hb5,hb6,e3,e4,e5,e6,hb7,e7,hr2,c1,c2,c3];exact bad _ _ aF gH hk
   ·rw[if_pos ⟨by simp[Tok.free,c1,c2],c3⟩,bB] at hk;simp only[go_sem,hb3,hb4,hb5,hb6,e3,e4,e5,e6,hb7,e7,hr2,c1,c2,c3,cJ i (by omega)];refine DK.mk (hk (i+1) (by omega) h2 h3 hn) (St.gx.ge aF gH) (Tm.le_leaf _ _ _ _)
 have x2:¬ t.text=[39]:=by simpa using h
 (try simp only[go_sem,hb3,hb4,hb5,hb6,e3,e4,e5,e6])
 (refine bA (fun h=>?_) (fun h=>?_))<;>simp only[go_sem,h,hb3,hb4,hb5,hb6,e3,e4,e5,e6]
 ·
  have hx:t.text=[91]:=by simpa using h
  rw[kK.eq_def,if_neg x1,if_neg x2,if_pos hx] at hk
  (try simp only[go_sem,hb3,hb4,hb5,hb6,e3,e4,e5,e6])
  (intro b9 hb9;try simp only[aL,ne_eq] at hb9);have e9:=bN hr hb9.2.2.2.2;simp only[go_sem,hb3,hb4,hb5,hb6,e3,e4,e5,e6,hb9,e9];refine kM (T:=T) (fin:=fin) (d:=d) (first:=first) (i:=i) (n:=n) _ gH hi ?_;simp only[go_sem,hb3,hb4,hb5,hb6,e3,e4,e5,e6,hb9,e9];have ek:decide (60-k=60)=decide (k=0):=by rw[fY];omega
  cases cA:isT [124] (T.drop i)
  ·simp only[go_sem,hb3,hb4,hb5,hb6,e3,e4,e5,e6,hb9,e9,cA];refine kM (T:=T) (fin:=fin) (d:=d) (first:=first) (i:=i) (n:=n) _ gH hi ?_;simp only[go_sem,hb3,hb4,hb5,hb6,e3,e4,e5,e6,hb9,e9,cA];cases cB:isT [93] (T.drop i)
   ·simp only[go_sem,hb3,hb4,hb5,hb6,e3,e4,e5,e6,hb9,e9,cA,cB];rw[if_neg (by rw[cA,cB];simp),aX] at hk
    refine eP (oJ gH) (aDH (fin:=fin) (d:=d) (fi:=first) Tm.enc Tm.hz Tm.ho hT (fun s'=>s'.getO b3=some (.cells 74 [.ptr r 0])∧s'.getO b5=some (.cells 3 [.int .i64 ((60-k:Nat):Int)])) (fun _ _ _=>Iff.rfl)
     (dY false fin first k) 241 [] [.ptr b3 0,.ptr b5 0] (aAn (fun s' o hq => ⟨by rw [aE,if_neg e3.1]; exact hq.1,by rw [aE,if_neg e5.1]; exact hq.2⟩)
      (fun s' i' n' KV' Kp' hr' hq' hi' hn' hk'=>aIS k hk60 IH b3 b5 hq'.1 hq'.2 hr' hi' hn' (aI hk' (fun _ _ _ h j hj=>h j (by omega)) (fun _ h=>h)))) i n ?_ hi hn ?_)
    ·exact ⟨gH,gH⟩
    refine aI hk (fun l w m hk2 j hj hjT hw hm=>?_) (fun f h s1 o hg hr1=>h.at (hg.trans aF) hr1);subst hw;rw[aX,← ek] at hk2;simp only[go_sem,hb3,hb4,hb5,hb6,e3,e4,e5,e6,hb9,e9];refine tO (T:=T) (fin:=fin) (d:=d) (first:=first) (i:=j) (n:=m) (60-k) _ gH hjT hT hm (aI hk2 (fun rs w2 m2 hk3 j2 hj2 hjT2 hw2 hm2=>?_) (fun f h=>PB.mk aF h));subst hw2;simp only[go_sem,hb3,hb4,hb5,hb6,e3,e4,e5,e6,hb9,e9];refine dN (T:=T) (fin:=fin) (d:=d) (first:=first) (i:=j2) (n:=m2) _ gH hjT2 hT ?_;rw[aX] at hk3;refine aI hk3 (fun _ w3 m3 hk4 hlt3 hw3 hm3=>?_) (fun f h=>PB.mk aF h);rw[bB] at hk4;simp only[go_sem,hb3,hb4,hb5,hb6,e3,e4,e5,e6,hb9,e9];exact DK.mk (hk4 (j2+1) (by omega) hlt3 hw3 (by omega)) (St.gx.ge aF (by subst hm3;rw[aE,if_neg e6.2,aE,if_pos rfl]<;>rfl)) (by rw[bY];exact bM _)
   ·simp only[go_sem,hb3,hb4,hb5,hb6,e3,e4,e5,e6,hb9,e9,cA,cB];rw[if_pos (by simp[cA,cB]),aX,bB,aX,← ek] at hk;refine tO (T:=T) (fin:=fin) (d:=d) (first:=first) (i:=i) (n:=n) (60-k) _ gH hi hT hn (aI hk (fun rs w2 m2 hk3 j2 hj2 hjT2 hw2 hm2=>?_) (fun f h=>PB.mk aF h));subst hw2;simp only[go_sem,hb3,hb4,hb5,hb6,e3,e4,e5,e6,hb9,e9];refine dN (T:=T) (fin:=fin) (d:=d) (first:=first) (i:=j2) (n:=m2) _ gH hjT2 hT ?_;rw[aX] at hk3;refine aI hk3 (fun _ w3 m3 hk4 hlt3 hw3 hm3=>?_) (fun f h=>PB.mk aF h);rw[bB] at hk4;simp only[go_sem,hb3,hb4,hb5,hb6,e3,e4,e5,e6,hb9,e9];exact DK.mk (hk4 (j2+1) (by omega) hlt3 hw3 (by omega)) (St.gx.ge aF (by subst hm3;rw[aE,if_neg e6.2,aE,if_pos rfl]<;>rfl)) (by rw[bY];exact A.le.agg ⟨⟨bM _,rfl⟩,⟨bM _,rfl⟩,⟨bM _,rfl⟩,⟨bM _,rfl⟩,⟨A.le.nil,rfl⟩,⟨bM _,rfl⟩,trivial⟩)
  ·simp only[go_sem,hb3,hb4,hb5,hb6,e3,e4,e5,e6,hb9,e9,cA];rw[if_pos (by simp[cA]),aX,bB,aX,← ek] at hk;refine tO (T:=T) (fin:=fin) (d:=d) (first:=first) (i:=i) (n:=n) (60-k) _ gH hi hT hn (aI hk (fun rs w2 m2 hk3 j2 hj2 hjT2 hw2 hm2=>?_) (fun f h=>PB.mk aF h));subst hw2;simp only[go_sem,hb3,hb4,hb5,hb6,e3,e4,e5,e6,hb9,e9];refine dN (T:=T) (fin:=fin) (d:=d) (first:=first) (i:=j2) (n:=m2) _ gH hjT2 hT ?_;rw[aX] at hk3;refine aI hk3 (fun _ w3 m3 hk4 hlt3 hw3 hm3=>?_) (fun f h=>PB.mk aF h);rw[bB] at hk4;simp only[go_sem,hb3,hb4,hb5,hb6,e3,e4,e5,e6,hb9,e9];exact DK.mk (hk4 (j2+1) (by omega) hlt3 hw3 (by omega)) (St.gx.ge aF (by subst hm3;rw[aE,if_neg e6.2,aE,if_pos rfl]<;>rfl)) (by rw[bY];exact A.le.agg ⟨⟨bM _,rfl⟩,⟨bM _,rfl⟩,⟨bM _,rfl⟩,⟨bM _,rfl⟩,⟨A.le.nil,rfl⟩,⟨bM _,rfl⟩,trivial⟩)
 have x3:¬ t.text=[91]:=by simpa using h
 (try simp only[go_sem,hb3,hb4,hb5,hb6,e3,e4,e5,e6])
 (refine bA (fun h=>?_) (fun h=>?_))<;>simp only[go_sem,h,hb3,hb4,hb5,hb6,e3,e4,e5,e6]
 ·
  have hx:t.text=[123]:=by simpa using h
  rw[kK.eq_def,if_neg x1,if_neg x2,if_neg x3,if_pos hx] at hk
  (try simp only[go_sem,hb3,hb4,hb5,hb6,e3,e4,e5,e6])
  refine aI0 (T:=T) (fin:=fin) (d:=d) (first:=first) (i:=i) (n:=n) k hk60 IH gH hi hT hn (aI hk (fun a w m h j hj hjT hw hm=>?_) (fun f h=>PB.mk aF h));have h':=h j hj hjT hw hm;simp only at h';rw[bY] at h';simp only[go_sem,hb3,hb4,hb5,hb6,e3,e4,e5,e6];exact aH h' (St.gx.ge aF gH)
 have x4:¬ t.text=[123]:=by simpa using h
 rw[kK.eq_def,if_neg x1,if_neg x2,if_neg x3,if_neg x4,bB] at hk
 (try simp only[go_sem,hb3,hb4,hb5,hb6,e3,e4,e5,e6])
 exact DK.mk (hk i (bG _) hi rfl hn) (St.gx.ge aF gH) (Tm.le_leaf _ _ _ _)
end
end
section
section
variable {T:List Tok} {fin:Fault} {d:Dc} {first:Tok} {i n:Nat} {s:St} {r:Nat} {KV Kp:St→A→Prop}
theorem aLv (k b2 b3 q:Nat) (x:aB) (hk60:k≤60) (IH:sE T fin r k) (hT:TOk T) (acc:List Tm) (tk:Option Nat) (hQ:EntQ b2 b3 q r k s acc tk i) (hi:i≤T.length) (hn:n≤2000)
  (hk : (mI false fin first (dY false fin first k) acc (T.drop i) n).to (fun a w n' => ∀ j y,i ≤ j → j ≤ T.length → T.drop j = w → n' ≤ 2000 → EntQ b2 b3 q r k s (acc ++ [a]) y j → KV (eI T fin d first 5 x q r s (acc ++ [a]) y j n') a.enc)
   (fun f=>∀ s1 o,s1.gx s r→s1.getO r=some o→Kp s1 (.iface 36 f.enc))):Den cx 239 [.ptr q 0,.ptr b2 0,.ptr b3 0] KV Kp (eI T fin d first 5 x q r s acc tk i n):=by
 obtain ⟨hac,h2,h3,hq,⟨n1,n2,n3,n4,n5⟩,hnil,hfree⟩:=hQ;have hlen:=hT.len;have ed:IntKind.i64.wrap (((60-k:Nat):Int)+1)=((61-k:Nat):Int):=by rw[cJ _ (by omega)];congr 1;omega
 have hg:mL (eI T fin d first 5 x q r s acc tk i n) tk (acc.map Tm.enc).length 43:=by rw[aS];exact jD fun e=>by rw[hnil e];rfl
 refine aE8 ?_;(refine aO func239 [0,1,2,3,4,12] ?_;simp only[go_sem,ntmps239,f239]);unfold eI;(intro b6 hb6;try simp only[aL,ne_eq] at hb6)
 have f6:s.getO b6=none∧b6≠r∧b6≠q:=by
  have h0:=hb6;rw[aR,aE] at h0;split at h0
  ·cases h0
  ·rename_i hrb;rw[aE] at h0;split at h0
   ·cases h0
   ·rename_i hqb;exact ⟨h0,fun e=>hrb e.symm,fun e=>hqb e.symm⟩
 obtain ⟨hf6,e6,e6q⟩:=f6;clear hb6;have e62:=(bN h2 hf6);have e63:=(bN h3 hf6);simp only[go_sem,n1,n2,n3,n4,n5,n1.symm,n2.symm,n3.symm,n4.symm,n5.symm,h2,h3,ed,hf6,e6,e6.symm,e6q,e6q.symm,e62,e63,lZ hg];cases tk with
 | none =>
  obtain rfl:=hnil rfl;simp only[aGb];cases c8:decide ((([]:List Tm).length:Int)=8)
  ·(try simp only [go_sem,n1,n2,n3,n4,n5,n1.symm,n2.symm,n3.symm,n4.symm,n5.symm,h2,h3,ed,hf6,e6,e6.symm,e6q,e6q.symm,e62,e63,c8])
   have hk3:=hk;rw[mI.eq_def,if_neg (by intro e;simp[e] at c8)] at hk3;refine IH _ d first i n _ _ (by simp only[cP,aR,aE,ne_eq,reduceIte,cZ,n1,n2,n3,n4,n5,n1.symm,n2.symm,n3.symm,n4.symm,n5.symm,h2,h3,ed,hf6,e6,e6.symm,e6q,e6q.symm,e62,e63]<;>(first|done|rfl|assumption)) hi hn (aI hk3 (fun a w m hk2 j hj hjT hw hm=>?_) (fun f h o=>?_))
   rotate_left
   ·simp only[go_sem];exact aY (h _ o (by repeat (first|exact dJ _ _|refine pG ?_ rfl|refine mO ?_ rfl|refine eS ?_ hfree|refine dA ?_|refine bQ hq ?_|refine bQ hf6 ?_)) (by simp only[cP,aR,aE,ne_eq,reduceIte,cZ,n1,n2,n3,n4,n5,n1.symm,n2.symm,n3.symm,n4.symm,n5.symm,h2,h3,ed,hf6,e6,e6.symm,e6q,e6q.symm,e62,e63]<;>(first|done|rfl|assumption)))
   simp only[go_sem,n1,n2,n3,n4,n5,n1.symm,n2.symm,n3.symm,n4.symm,n5.symm,h2,h3,ed,hf6,e6,e6.symm,e6q,e6q.symm,e62,e63,bY,Tm.cs];intro b7 hb7;rw[aR] at hb7;obtain ⟨e7,hb7⟩:=mQ hb7;obtain ⟨e76,hb7⟩:=mQ hb7;obtain ⟨_,hb7⟩:=mQ hb7;obtain ⟨e7q,hf7⟩:=mQ hb7;have e72:=(bN h2 hf7);have e73:=(bN h3 hf7);simp only[go_sem,n1,n2,n3,n4,n5,n1.symm,n2.symm,n3.symm,n4.symm,n5.symm,h2,h3,ed,hf6,e6,e6.symm,e6q,e6q.symm,e62,e63,hf7,e7,e7.symm,e7q,e7q.symm,e76,e76.symm,e72,e73];(refine bF (OT.l [0,1,2,3,4,5,6,8] (.pair 7 9)) [] ?_;simp only[go_sem,n1,n2,n3,n4,n5,n1.symm,n2.symm,n3.symm,n4.symm,n5.symm,h2,h3,ed,hf6,e6,e6.symm,e6q,e6q.symm,e62,e63,hf7,e7,e7.symm,e7q,e7q.symm,e76,e76.symm,e72,e73]);refine ⟨by decide,?_⟩;intro t ht;have hft:s.getT t=none:=ht;refine ⟨rfl,?_⟩;have hk5:=hk2 j (some t) (by omega) hjT hw hm ⟨by simp only[aK,aD,aG] at hac ⊢;omega,h2,h3,hq,⟨n1,n2,n3,n4,n5⟩,fun e=>(by cases e),fun t' e=>by cases e;exact hft⟩;simp only[eI,dT] at hk5;rw[show (([]:List Tm)++[a]).length=1 by simp,bY a] at hk5;refine aH (s2:=(gs ((s.setO q (.cells 43 [.int .i64 5,.int .i64 0,.str x,.str [],.list (some t) ((([]:List Tm)++[a]).map Tm.enc),.nils])).setO r (aN T fin d first j m)) (some t) (1) 43).setL none) hk5 (St.ge.trans aEb (aCq (fun b o hb=>?_) (fun _=>rfl)));simp only[aE] at hb ⊢;by_cases hb1:q=b
   ·subst hb1;simp only[n1,n1.symm,e6q,e6q.symm,e7q,e7q.symm,if_true,if_false] at hb ⊢;simpa [bY,Tm.cs] using hb
   ·by_cases hb2:r=b
    ·subst hb2;simp only[hb1,e6,e6.symm,e7,e7.symm,if_true,if_false] at hb ⊢;exact hb
    ·simp only[hb1,hb2,if_false] at hb ⊢;by_cases hb3:b6=b
     ·subst hb3;rw[hf6] at hb;cases hb
     ·by_cases hb4:b7=b
      ·subst hb4;rw[hf7] at hb;cases hb
      ·simp only[hb3,hb4,if_false];exact hb
  ·simp at c8
 | some u =>
  simp only[dT];cases c8:decide ((acc.length:Int)=8)
  ·(try simp only [go_sem,n1,n2,n3,n4,n5,n1.symm,n2.symm,n3.symm,n4.symm,n5.symm,h2,h3,ed,hf6,e6,e6.symm,e6q,e6q.symm,e62,e63,c8])
   have hk3:=hk;rw[mI.eq_def,if_neg (by intro e;simp[e] at c8)] at hk3;refine IH _ d first i n _ _ (by simp only[cP,aR,aE,ne_eq,reduceIte,cZ,n1,n2,n3,n4,n5,n1.symm,n2.symm,n3.symm,n4.symm,n5.symm,h2,h3,ed,hf6,e6,e6.symm,e6q,e6q.symm,e62,e63]<;>(first|done|rfl|assumption)) hi hn (aI hk3 (fun a w m hk2 j hj hjT hw hm=>?_) (fun f h o=>?_))
   rotate_left
   ·simp only[go_sem];exact aY (h _ o (by repeat (first|exact dJ _ _|refine pG ?_ rfl|refine mO ?_ rfl|refine eS ?_ hfree|refine dA ?_|refine bQ hq ?_|refine bQ hf6 ?_)) (by simp only[cP,aR,aE,ne_eq,reduceIte,cZ,n1,n2,n3,n4,n5,n1.symm,n2.symm,n3.symm,n4.symm,n5.symm,h2,h3,ed,hf6,e6,e6.symm,e6q,e6q.symm,e62,e63]<;>(first|done|rfl|assumption)))
   simp only[go_sem,n1,n2,n3,n4,n5,n1.symm,n2.symm,n3.symm,n4.symm,n5.symm,h2,h3,ed,hf6,e6,e6.symm,e6q,e6q.symm,e62,e63,bY,Tm.cs];intro b7 hb7;rw[aR] at hb7;obtain ⟨e7,hb7⟩:=mQ hb7;obtain ⟨e76,hb7⟩:=mQ hb7;obtain ⟨_,hb7⟩:=mQ hb7;obtain ⟨e7q,hf7⟩:=mQ hb7;have e72:=(bN h2 hf7);have e73:=(bN h3 hf7);simp only[go_sem,n1,n2,n3,n4,n5,n1.symm,n2.symm,n3.symm,n4.symm,n5.symm,h2,h3,ed,hf6,e6,e6.symm,e6q,e6q.symm,e62,e63,hf7,e7,e7.symm,e7q,e7q.symm,e76,e76.symm,e72,e73];(refine bF (OT.l [0,1,2,3,4,5,6,8] (.pair 7 9)) [] ?_;simp only[go_sem,n1,n2,n3,n4,n5,n1.symm,n2.symm,n3.symm,n4.symm,n5.symm,h2,h3,ed,hf6,e6,e6.symm,e6q,e6q.symm,e62,e63,hf7,e7,e7.symm,e7q,e7q.symm,e76,e76.symm,e72,e73]);refine ⟨by decide,?_⟩;refine ⟨⟨by rw[eT,if_pos rfl],fun y hy=>?_,by omega⟩,fun t ht=>?_⟩
   ·simp only[cO] at hy;obtain ⟨z,_,rfl⟩:=hy;exact Tm.hz z
   have hft:s.getT t=none:=yZ ht (hfree u rfl) (fun _=>rfl);have hk5:=hk2 j (some t) (by omega) hjT hw hm ⟨by simp only[aK,aD,aG] at hac ⊢;omega,h2,h3,hq,⟨n1,n2,n3,n4,n5⟩,fun e=>(by cases e),fun t' e=>by cases e;exact hft⟩;simp only[eI,dT] at hk5;rw[show (acc++[a]).length=acc.length+1 by simp,bY a] at hk5;refine aH (s2:=(gs ((s.setO q (.cells 43 [.int .i64 5,.int .i64 0,.str x,.str [],.list (some t) ((acc++[a]).map Tm.enc),.nils])).setO r (aN T fin d first j m)) (some t) (acc.length+1) 43).setL none) hk5 (St.ge.trans (aBs (hfree u rfl)) (aCq (fun b o hb=>?_) (fun _=>rfl)));simp only[aE] at hb ⊢;by_cases hb1:q=b
   ·subst hb1;simp only[n1,n1.symm,e6q,e6q.symm,e7q,e7q.symm,if_true,if_false] at hb ⊢;simpa [bY,Tm.cs] using hb
   ·by_cases hb2:r=b
    ·subst hb2;simp only[hb1,e6,e6.symm,e7,e7.symm,if_true,if_false] at hb ⊢;exact hb
    ·simp only[hb1,hb2,if_false] at hb ⊢;by_cases hb3:b6=b
     ·subst hb3;rw[hf6] at hb;cases hb
     ·by_cases hb4:b7=b
      ·subst hb4;rw[hf7] at hb;cases hb
      ·simp only[hb3,hb4,if_false];exact hb
  ·(try simp only [go_sem,n1,n2,n3,n4,n5,n1.symm,n2.symm,n3.symm,n4.symm,n5.symm,h2,h3,ed,hf6,e6,e6.symm,e6q,e6q.symm,e62,e63,c8])
   rw[mI.eq_def,if_pos (by simp at c8;omega)] at hk;refine yC (T:=T) (fin:=fin) (d:=d) (first:=first) (i:=i) (n:=n) (by simp only[cP,aR,aE,ne_eq,reduceIte,cZ,n1,n2,n3,n4,n5,n1.symm,n2.symm,n3.symm,n4.symm,n5.symm,h2,h3,ed,hf6,e6,e6.symm,e6q,e6q.symm,e62,e63]<;>(first|done|rfl|assumption)) hi ?_;cases hw0:T.drop i with
   | nil =>
    rw[hw0] at hk;intro o;simp only[go_sem];exact aY (hk _ o (by repeat (first|exact dJ _ _|refine pG ?_ rfl|refine mO ?_ rfl|refine eS ?_ hfree|refine dA ?_|refine bQ hq ?_|refine bQ hf6 ?_)) (by simp only[cP,aR,aE,ne_eq,reduceIte,cZ,n1,n2,n3,n4,n5,n1.symm,n2.symm,n3.symm,n4.symm,n5.symm,h2,h3,ed,hf6,e6,e6.symm,e6q,e6q.symm,e62,e63]<;>(first|done|rfl|assumption)))
   | cons t0 w0 =>
    rw[hw0] at hk;simp only at hk ⊢;cases hb0:t0.begins with
    | true =>
     rw[hb0] at hk;simp only[if_true,bR,mS,if_false,cV] at hk;simp only[go_sem,n1,n2,n3,n4,n5,n1.symm,n2.symm,n3.symm,n4.symm,n5.symm,h2,h3,ed,hf6,e6,e6.symm,e6q,e6q.symm,e62,e63];refine hH (T:=T) (fin:=fin) (d:=d) (first:=first) (i:=i) (n:=n) (by simp only[cP,aR,aE,ne_eq,reduceIte,cZ,n1,n2,n3,n4,n5,n1.symm,n2.symm,n3.symm,n4.symm,n5.symm,h2,h3,ed,hf6,e6,e6.symm,e6q,e6q.symm,e62,e63]<;>(first|done|rfl|assumption)) hi ?_;rw[hw0];simp only[go_sem];refine aBU t0 ?_;simp only[go_sem];exact aY (hk _ _ (by repeat (first|exact dJ _ _|refine pG ?_ rfl|refine mO ?_ rfl|refine eS ?_ hfree|refine dA ?_|refine bQ hq ?_|refine bQ hf6 ?_)) (by simp only[cP,aR,aE,ne_eq,reduceIte,cZ,n1,n2,n3,n4,n5,n1.symm,n2.symm,n3.symm,n4.symm,n5.symm,h2,h3,ed,hf6,e6,e6.symm,e6q,e6q.symm,e62,e63]<;>(first|done|rfl|assumption)))
    | false =>
     rw[hb0] at hk;simp only[bR,if_false] at hk;have hk3:=hk;rw[← hw0] at hk3;simp only[go_sem,n1,n2,n3,n4,n5,n1.symm,n2.symm,n3.symm,n4.symm,n5.symm,h2,h3,ed,hf6,e6,e6.symm,e6q,e6q.symm,e62,e63];refine IH _ d first i n _ _ (by simp only[cP,aR,aE,ne_eq,reduceIte,cZ,n1,n2,n3,n4,n5,n1.symm,n2.symm,n3.symm,n4.symm,n5.symm,h2,h3,ed,hf6,e6,e6.symm,e6q,e6q.symm,e62,e63]<;>(first|done|rfl|assumption)) hi hn (aI hk3 (fun a w m hk2 j hj hjT hw hm=>?_) (fun f h o=>?_))
     rotate_left
     ·simp only[go_sem];exact aY (h _ o (by repeat (first|exact dJ _ _|refine pG ?_ rfl|refine mO ?_ rfl|refine eS ?_ hfree|refine dA ?_|refine bQ hq ?_|refine bQ hf6 ?_)) (by simp only[cP,aR,aE,ne_eq,reduceIte,cZ,n1,n2,n3,n4,n5,n1.symm,n2.symm,n3.symm,n4.symm,n5.symm,h2,h3,ed,hf6,e6,e6.symm,e6q,e6q.symm,e62,e63]<;>(first|done|rfl|assumption)))
     simp only[go_sem,n1,n2,n3,n4,n5,n1.symm,n2.symm,n3.symm,n4.symm,n5.symm,h2,h3,ed,hf6,e6,e6.symm,e6q,e6q.symm,e62,e63,bY,Tm.cs];intro b7 hb7;rw[aR] at hb7;obtain ⟨e7,hb7⟩:=mQ hb7;obtain ⟨e76,hb7⟩:=mQ hb7;obtain ⟨_,hb7⟩:=mQ hb7;obtain ⟨e7q,hf7⟩:=mQ hb7;have e72:=(bN h2 hf7);have e73:=(bN h3 hf7);simp only[go_sem,n1,n2,n3,n4,n5,n1.symm,n2.symm,n3.symm,n4.symm,n5.symm,h2,h3,ed,hf6,e6,e6.symm,e6q,e6q.symm,e62,e63,hf7,e7,e7.symm,e7q,e7q.symm,e76,e76.symm,e72,e73];(refine bF (OT.l [0,1,2,3,4,5,6,8] (.pair 7 9)) [] ?_;simp only[go_sem,n1,n2,n3,n4,n5,n1.symm,n2.symm,n3.symm,n4.symm,n5.symm,h2,h3,ed,hf6,e6,e6.symm,e6q,e6q.symm,e62,e63,hf7,e7,e7.symm,e7q,e7q.symm,e76,e76.symm,e72,e73]);refine ⟨by decide,?_⟩;refine ⟨⟨by rw[eT,if_pos rfl],fun y hy=>?_,by omega⟩,fun t ht=>?_⟩
     ·simp only[cO] at hy;obtain ⟨z,_,rfl⟩:=hy;exact Tm.hz z
     have hft:s.getT t=none:=yZ ht (hfree u rfl) (fun _=>rfl);have hk5:=hk2 j (some t) (by omega) hjT hw hm ⟨by simp only[aK,aD,aG] at hac ⊢;omega,h2,h3,hq,⟨n1,n2,n3,n4,n5⟩,fun e=>(by cases e),fun t' e=>by cases e;exact hft⟩;simp only[eI,dT] at hk5;rw[show (acc++[a]).length=acc.length+1 by simp,bY a] at hk5;refine aH (s2:=(gs ((s.setO q (.cells 43 [.int .i64 5,.int .i64 0,.str x,.str [],.list (some t) ((acc++[a]).map Tm.enc),.nils])).setO r (aN T fin d first j m)) (some t) (acc.length+1) 43).setL none) hk5 (St.ge.trans (aBs (hfree u rfl)) (aCq (fun b o hb=>?_) (fun _=>rfl)));simp only[aE] at hb ⊢;by_cases hb1:q=b
     ·subst hb1;simp only[n1,n1.symm,e6q,e6q.symm,e7q,e7q.symm,if_true,if_false] at hb ⊢;simpa [bY,Tm.cs] using hb
     ·by_cases hb2:r=b
      ·subst hb2;simp only[hb1,e6,e6.symm,e7,e7.symm,if_true,if_false] at hb ⊢;exact hb
      ·simp only[hb1,hb2,if_false] at hb ⊢;by_cases hb3:b6=b
       ·subst hb3;rw[hf6] at hb;cases hb
       ·by_cases hb4:b7=b
        ·subst hb4;rw[hf7] at hb;cases hb
        ·simp only[hb3,hb4,if_false];exact hb
end
end
end Go.AV
