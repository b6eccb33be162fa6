/-
  Of CheckTells.
-/
import Derived.Test.YthaljojbclndaaaGreatDoorCt10
import Derived.Shelf.Sort.Plain
import Derived.Shelf.Slices.CompactS
import Derived.Shelf.Slices.In.SortNone
set_option linter.all false
set_option maxRecDepth 99999
set_option maxHeartbeats 0
namespace Go.AV
open Go Go.Proofs Tryz
section
structure Dc where
 name:aA
 sorts:A
 below:A
 ops:A
 funs:A
 values:A
 eqs:A
 once:A
 kind:aA
 many:A
 rules:A
 start:aA
 watch:aA
def Dc.cs(d:Dc):List A:=[.str d.name,d.sorts,d.below,d.ops,d.funs,d.values,d.eqs,d.once,.str d.kind,d.many,d.rules,.str d.start,.str d.watch]
def psC(T:List Tok)(fin:Fault)(d:Dc)(first:Tok)(i n:Nat):List A :=
 .list none (T.map Tok.enc)::.int .i64 i::(fin.cs++(d.cs++(first.cs++[.int .i64 n,.bool false])))
def psO(T:List Tok)(fin:Fault)(d:Dc)(first:Tok)(i n:Nat):Ob:=.cells 211 (psC T fin d first i n)
attribute [go_sem] Dc.cs psC psO
structure TOk (T:List Tok):Prop where
 len:T.length<=4294967290
 num:∀t,t∈T->0<=t.n/\t.n<=2147483647
 col:∀t,t∈T->0<=t.col/\t.col<=4294967296
 txt:∀t,t∈T->t.text.length<=4294967296
def PB(s:St)(r:Nat)(Kp:St->A->Prop)(f:Fault):Prop:=∀o,Kp (s.setO r o) (.iface 36 f.enc)
section
variable {T:List Tok} {fin:Fault} {d:Dc} {first:Tok} {i n:Nat} {s:St} {r:Nat} {KV Kp:St->A->Prop}
end
end
section
section
variable {T:List Tok} {fin:Fault} {d:Dc} {first:Tok} {i n:Nat} {s:St} {r:Nat} {KV Kp:St->A->Prop}
theorem PB.here{f:Fault}{o:Ob}(h:PB s r Kp f)(u:s.getO r=some o):DK Kp s (.iface 36 f.enc):=aD (h o) (St.ge_same u)
theorem PB.at{f:Fault}{o:Ob}{u:St}(h:PB s r Kp f)(y:u.gx s r)(z:u.getO r=some o):DK Kp u (.iface 36 f.enc):=aD (h o) (y.ge z)
end
end
section
section
variable {T:List Tok} {fin:Fault} {d:Dc} {first:Tok} {i n:Nat} {s:St} {r:Nat} {KV Kp:St->A->Prop}
end
end
end Go.AV
section
open Go.Proofs.Tryz
namespace Go.AV
open Go Go.Proofs
end Go.AV
end
namespace Go.AV
open Go Go.Proofs Tryz
section
theorem aTT(s:St)(x:aA)(KV Kp)(u:KV s (.bool (qU x))):Den cx 232 [.str x] KV Kp s:=by
 (refine aO func232 [0,2] ?_;simp only[go_sem,ntmps232,f232]);refine tC _ _ _ _ ?_;simp only[go_sem];cases z:cA x with
 | false =>
  simp only[go_sem];rw[show qU x=false by simp[qU,z]]at u;exact aS u
 | true =>
  cases x with
  | nil=>simp[cA]at z
  | cons c r =>
   have y:decide ((97:Int)<=(c.toNat:Int))=decide (97<=c.toNat):=by rw[bW];omega
   have h:decide ((c.toNat:Int)<=122)=decide (c.toNat<=122):=by rw[bW];omega
   rw[show qU (c::r)=((decide (97<=c.toNat)&&decide (c.toNat<=122))&&!decide (c::r=[116,114,117,101])&&!decide (c::r=[102,97,108,115,101]))by simp[qU,z]]at u;cases B:decide (97<=c.toNat)<;>cases G:decide (c.toNat<=122)<;>cases H:decide (c::r=[116,114,117,101])<;>cases M:decide (c::r=[102,97,108,115,101])<;>simp only[go_sem,y,h,B,G,H,M]
   all_goals (rw[B,G,H,M]at u;exact aS u)
section
variable {T:List Tok} {fin:Fault} {d:Dc} {first:Tok} {i n:Nat} {s:St} {r:Nat} {KV Kp:St->A->Prop}
theorem PB.mk{u:St}{f:Fault}(y:u.gx s r)(h:PB s r Kp f):PB u r (DK Kp) f:=λo=>h.at (aUG y) (by rw[aX,aF rfl])
end
end
inductive TmW:Tm->Prop
 | mk (k n:Int) (x y:aA) (a b:List Tm) (hx:x.length<=140737488355328) (hy:y.length<=140737488355328) (ha:∀t,t∈a->TmW t) (hb:∀t,t∈b->TmW t) (la:a.length<=140737488355328) (lb:b.length<=140737488355328):TmW (.mk k n x y a b)
theorem TmW.text{t:Tm}(h:TmW t):t.text.length<=140737488355328:=by cases h;assumption
theorem TmW.sort{t:Tm}(h:TmW t):t.sort.length<=140737488355328:=by cases h;assumption
theorem TmW.kids{t:Tm}(h:TmW t):∀x,x∈t.kids->TmW x:=by cases h;assumption
theorem TmW.rest{t:Tm}(h:TmW t):∀x,x∈t.rest->TmW x:=by cases h;assumption
theorem TmW.lk{t:Tm}(h:TmW t):t.kids.length<=140737488355328:=by cases h;assumption
theorem TmW.lr{t:Tm}(h:TmW t):t.rest.length<=140737488355328:=by cases h;assumption
def Tm.leaf(t:Tm):Bool:=decide (t.kids.length=0)&&decide (t.rest.length=0)
def Tm.opn(t:Tm):Bool:=decide (t.text=[95])||decide (t.text=[36])
def Tm.shV(t:Tm):Bool:=t.leaf&&((cA t.text&&cA t.sort)||(t.opn&&decide (t.sort=[65,110,121])))&&decide (t.n=0)
def Tm.shR(t:Tm)(S:aA):Bool:=match t.rest with
 | []=>true
 | r::l=>decide (l.length=0)&&(decide (r.kind=6)&&(r.shV&&(cA r.text&&decide (r.sort=S))))
def Tm.shape(t:Tm):Bool :=
 if t.kind=1 then t.leaf&&(aEI t.n||(decide (t.n=0)||decide (t.n=1)))&&(decide (t.text=[])&&decide (t.sort=[]))
 else if t.kind=2 then t.leaf&&(decide (t.n=0)||decide (t.n=1))&&(decide (t.text=[])&&decide (t.sort=[]))
 else if t.kind=3 then t.leaf&&sK t.text&&(decide (t.n=0)&&decide (t.sort=[]))
 else if t.kind=4 then t.leaf&&qU t.text&&(decide (t.n=0)&&decide (t.sort=[]))
 else if t.kind=5 then(rQ t.text&&(decide (t.kids.length<=8)&&decide (t.rest.length=0)))&&(decide (t.n=0)&&decide (t.sort=[]))
 else if t.kind=6 then t.shV
 else if t.kind=7 then t.shR [76,105,115,116]&&(decide (t.n=0)&&(decide (t.text=[])&&decide (t.sort=[])))
 else if t.kind=8 then(t.shR [77,97,112]&&decide (t.kids.length % 2=0))&&(decide (t.n=0)&&(decide (t.text=[])&&decide (t.sort=[])))
 else false
theorem uE{s:St}{KV:St->A->Prop}{a b:Bool}(h:KV s (.bool a))(e:b=a):KV s (.bool b):=e▸h
theorem aKD(t:Tm)(u:t.kind=6)(G:TmW t)(s:St)(KV Kp)(B:KV s (.bool t.shV)):Den cx 181 [.agg t.cs] KV Kp s:=by
 (refine aO func181 vN ?_;simp only[go_sem,ntmps181,f181]);(refine aL λp y=>?_);simp only[go_sem,y,u];(refine aL λq z=>?_);simp only[go_sem,y,z,u,Int.reduceEq]
 repeat' (first|(refine tC _ _ _ _ ?_;simp only[go_sem,y,z,u,Int.reduceEq])|((refine bX (OT.r 0 8) [(5,[3])] ?_;simp only[go_sem,y,z,u,Int.reduceEq]))|refine aD (uE B ?_) aK|(apply aI<;>intro h)<;>simp only[go_sem,h,y,z,u,Int.reduceEq])
 all_goals simp_all [Tm.shV,Tm.leaf,Tm.opn]
theorem aJ5(t:Tm)(S:aA)(hw:TmW t)(s:St)(KV Kp){cs:List A}(hc:cs=t.cs)(h:KV s (.bool (t.shR S))):Den cx 234 [.agg cs,.str S] KV Kp s:=by
 subst hc;(refine aO func234 [0,1,2,4,5,9] ?_;simp only[go_sem,ntmps234,f234]);(refine aL λp y=>?_);simp only[go_sem,y];cases u:t.rest with
 | nil =>
  have e:t.shR S=true:=by unfold Tm.shR;rw[u]
  rw[e]at h;have O:decide (((0:Nat):Int)=0)=true:=rfl;simp only[go_sem,y,u,O];exact aD h aK
 | cons r l =>
  have M:decide (((l.length+1:Nat):Int)=0)=false:=by rw[eF];omega
  have U:decide (((l.length+1:Nat):Int)=1)=decide (l.length=0):=by rw[bW];omega
  simp only[go_sem,y,u,M];(refine aL λq G=>?_);simp only[go_sem,y,u,G,M,U];have e:t.shR S=(decide (l.length=0)&&(decide (r.kind=6)&&(r.shV&&(cA r.text&&decide (r.sort=S))))):=by unfold Tm.shR;rw[u]
  have H:TmW r:=hw.rest r (by rw[u];exact bY ..);rw[e]at h;clear e;cases z:decide (l.length=0)<;>rw[z]at h<;>simp only[go_sem,y,u,G,z]
  .exact aD h aK
  cases B:decide (r.kind=6)<;>rw[B]at h<;>simp only[go_sem,y,u,G,z,B]
  .exact aD h aK
  refine aKD r (eN B) H _ _ _ ?_;cases Y:r.shV<;>rw[Y]at h<;>simp only[go_sem,y,u,G,z,B]
  .exact aD h aK
  refine tC _ _ _ _ ?_;cases Z:cA r.text<;>rw[Z]at h<;>simp only[go_sem,y,u,G,z,B]
  .exact aD h aK
  exact aD h aK
theorem kinds(k:Int):k=1\/k=2\/k=3\/k=4\/k=5\/k=6\/k=7\/k=8\/(k≠1/\k≠2/\k≠3/\k≠4/\k≠5/\k≠6/\k≠7/\k≠8):=by omega
theorem aS5(t:Tm)(M:TmW t)(s:St)(KV Kp)(B:KV s (.bool t.shape)):Den cx 181 [.agg t.cs] KV Kp s:=by
 have hx:=M.text;have H:decide ((t.kids.length:Int)<=8)=decide (t.kids.length<=8):=by rw[bW];omega
 have G:decide ((t.kids.length:Int).tmod 2=0)=decide (t.kids.length % 2=0):=by
  rw[bW,Int.tmod_eq_emod_of_nonneg aB];omega
 rcases kinds t.kind with u|u|u|u|u|u|u|u|u
 ·(refine aO func181 vN ?_;simp only[go_sem,ntmps181,f181]);(refine aL λp y=>?_);simp only[go_sem,y,u];(refine aL λq z=>?_);simp only[go_sem,y,z,u,Int.reduceEq]
  repeat' (first|(refine aK0 _ _ _ _ ?_;simp only[go_sem,y,z,u,Int.reduceEq])|refine aD (uE B ?_) aK|(apply aI<;>intro h)<;>simp only[go_sem,h,y,z,u,Int.reduceEq])
  all_goals first|(simp_all [Tm.shape,Tm.leaf];done)|(simp_all [Tm.shape,Tm.leaf];intros;omega)
 ·(refine aO func181 vN ?_;simp only[go_sem,ntmps181,f181]);(refine aL λp y=>?_);simp only[go_sem,y,u];(refine aL λq z=>?_);simp only[go_sem,y,z,u,Int.reduceEq]
  repeat' (first|(refine aK0 _ _ _ _ ?_;simp only[go_sem,y,z,u,Int.reduceEq])|refine aD (uE B ?_) aK|(apply aI<;>intro h)<;>simp only[go_sem,h,y,z,u,Int.reduceEq])
  all_goals first|(simp_all [Tm.shape,Tm.leaf];done)|(simp_all [Tm.shape,Tm.leaf];intros;omega)
 ·(refine aO func181 vN ?_;simp only[go_sem,ntmps181,f181]);(refine aL λp y=>?_);simp only[go_sem,y,u];(refine aL λq z=>?_);simp only[go_sem,y,z,u,Int.reduceEq]
  repeat' (first|(refine aJp _ _ _ _ ?_;simp only[go_sem,y,z,u,Int.reduceEq])|refine aD (uE B ?_) aK|(apply aI<;>intro h)<;>simp only[go_sem,h,y,z,u,Int.reduceEq])
  all_goals first|(simp_all [Tm.shape,Tm.leaf];done)|(simp_all [Tm.shape,Tm.leaf];intros;omega)
 ·(refine aO func181 vN ?_;simp only[go_sem,ntmps181,f181]);(refine aL λp y=>?_);simp only[go_sem,y,u];(refine aL λq z=>?_);simp only[go_sem,y,z,u,Int.reduceEq]
  repeat' (first|(refine aTT _ _ _ _ ?_;simp only[go_sem,y,z,u,Int.reduceEq])|refine aD (uE B ?_) aK|(apply aI<;>intro h)<;>simp only[go_sem,h,y,z,u,Int.reduceEq])
  all_goals first|(simp_all [Tm.shape,Tm.leaf];done)|(simp_all [Tm.shape,Tm.leaf];intros;omega)
 ·(refine aO func181 vN ?_;simp only[go_sem,ntmps181,f181]);(refine aL λp y=>?_);simp only[go_sem,y,u];(refine aL λq z=>?_);simp only[go_sem,y,z,u,Int.reduceEq]
  repeat' (first|(refine aTU _ _ _ _ aB ?_;simp only[go_sem,y,z,u,Int.reduceEq,H])|refine aD (uE B ?_) aK|(apply aI<;>intro h)<;>simp only[go_sem,h,y,z,u,Int.reduceEq,H,G])
  all_goals first|(simp_all [Tm.shape,Tm.leaf];done)|(simp_all [Tm.shape,Tm.leaf];intros;omega)
 .exact aKD t u M s KV Kp (uE B (by simp[Tm.shape,u]))
 ·(refine aO func181 vN ?_;simp only[go_sem,ntmps181,f181]);(refine aL λp y=>?_);simp only[go_sem,y,u];(refine aL λq z=>?_);simp only[go_sem,y,z,u,Int.reduceEq]
  repeat' (first|(refine aJ5 t _ M _ _ _ (by simp only[Tm.cs,u]) ?_;simp only[go_sem,y,z,u,Int.reduceEq,G])|refine aD (uE B ?_) aK|(apply aI<;>intro h)<;>simp only[go_sem,h,y,z,u,Int.reduceEq,H,G])
  all_goals first|(simp_all [Tm.shape,Tm.leaf];done)|(simp_all [Tm.shape,Tm.leaf];intros;omega)
 ·(refine aO func181 vN ?_;simp only[go_sem,ntmps181,f181]);(refine aL λp y=>?_);simp only[go_sem,y,u];(refine aL λq z=>?_);simp only[go_sem,y,z,u,Int.reduceEq]
  repeat' (first|(refine aJ5 t _ M _ _ _ (by simp only[Tm.cs,u]) ?_;simp only[go_sem,y,z,u,Int.reduceEq,G])|refine aD (uE B ?_) aK|(apply aI<;>intro h)<;>simp only[go_sem,h,y,z,u,Int.reduceEq,H,G])
  all_goals first|(simp_all [Tm.shape,Tm.leaf];done)|(simp_all [Tm.shape,Tm.leaf];intros;omega)
 .obtain⟨n1,n2,n3,n4,n5,n6,n7,n8⟩:=u;have O:=bN n1;have S:=bN n2;have U:=bN n3;have Y:=bN n4;have Z:=bN n5;have d6:=bN n6;have d7:=bN n7;have d8:=bN n8;(refine aO func181 vN ?_;simp only[go_sem,ntmps181,f181]);(refine aL λp y=>?_);simp only[go_sem,y];(refine aL λq z=>?_);simp only[go_sem,y,z,O,S,U,Y,Z,d6,d7,d8]
  repeat' (first|refine aD (uE B ?_) aK|(apply aI<;>intro h)<;>simp only[go_sem,h,y,z,O,S,U,Y,Z,d6,d7,d8])
  all_goals simp_all [Tm.shape]
def iT(f:Tm->Nat->Option Nat):List Tm->Nat->Option Nat
 | [],m=>some m
 | t::r,m=>(f t m).bind (iT f r)
def zX(k r m:Nat):Option Nat:=if r=0 then some m else if 0<k/\m+r<=2000 then some (m+r) else none
def Tm.val:Nat->Tm->Nat->Option Nat
 | 0,_,_=>none
 | k+1,t,m=>if m+1<=2000 then(if t.shape=true then(iT (Tm.val k) t.kids (m+1)).bind (zX k t.rest.length) else none) else none
def oU(n:Int)(b:Bool):Ob:=.cells 161 [.int .i64 n,.bool b]
theorem aK6(f:Tm->Nat->Option Nat)(x:Tm):∀(l:List Tm) (m:Nat),iT f (l++[x]) m=(iT f l m).bind (f x)
 | [],m=>by
  simp only[bE,iT,rC];cases f x m<;>rfl
 | t::r,m=>by
  simp only[bL,iT];cases f t m with
  | none=>rfl
  | some n=>exact aK6 f x r n
theorem aSN{f:Tm->Nat->Option Nat}{l:List Tm}{i:Nat}{x:Tm}(h:l[i]?=some x)(m:Nat):iT f (l.take (i+1)) m=(iT f (l.take i) m).bind (f x):=by
 rw[fL,h];exact aK6 f x _ m
theorem aSM{f:Tm->Nat->Option Nat}{l:List Tm}{i:Nat}{m:Nat}(h:iT f (l.take i) m=none):iT f l m=none:=by
 have:∀(a b:List Tm) m,iT f a m=none->iT f (a++b) m=none:=by
  intro a
  induction a with
  | nil=>intro b m h;cases h
  | cons t r y =>
   intro b m h;simp only[bL,iT]at h⊢;cases u:f t m with
   | none=>rfl
   | some n=>rw[u]at h;exact y b n h
 have:=this _ (l.drop i) m h
 rwa[lA]at this
theorem aHC{f:Tm->Nat->Option Nat}(z:∀t m n,f t m=some n->n<=2000):∀(l:List Tm) (a b:Nat),a<=2000->iT f l a=some b->b<=2000
 | [],a,b,y,h=>by cases h;exact y
 | x::r,a,b,y,h=>by
  simp only[iT]at h;cases u:f x a with
  | none=>rw[u]at h;cases h
  | some c=>rw[u]at h;exact aHC z r c b (z x a c u) h
theorem aND:∀(k:Nat) (t:Tm) (m n:Nat),Tm.val k t m=some n->n<=2000
 | 0,_,_,_,h=>by cases h
 | k+1,t,m,n,h=>by
  unfold Tm.val at h;split at h
  .split at h
   .cases hl:iT (Tm.val k) t.kids (m+1)with
    | none=>rw[hl]at h;cases h
    | some q =>
     rw[hl]at h;simp only[rC,zX]at h;split at h
     .cases h;exact aHC (λt m n h=>aND k t m n h) _ _ _ (by assumption) hl
     .split at h
      .cases h;omega
      .cases h
   .cases h
  .cases h
def wA(k c j:Nat):Bool:=decide (j=0)||(decide (0<k)&&decide (c+j<=2000))
def leM(m:Nat):Bool:=decide (m<=2000)
theorem aIb(k c j:Nat):wA k c (j+1)=(decide (0<k)&&leM (c+j+1)):=by simp[wA,leM,nS]
theorem aQH:∀(k:Nat) (t:Tm) (n:Nat) (r:Nat) (s:St) (KV Kp:St->A->Prop),k<=60->n<=2000->TmW t->s.getO r=some (oU n true) ->
  (match Tm.val k t n with
   | some m=>KV (s.setO r (oU m true)) (.tuple [])
   | none=>∀z,KV (s.setO r (oU z false)) (.tuple []))->Den cx 116 [.ptr r 0,.agg t.cs,.int .i64 (61-(k:Int))] KV Kp s:=by
 intro k
 induction k with
 | zero =>
  intro t n r s KV Kp hk60 hn hw hr hk;simp only[oU]at hr hk⊢;have w1:=aR n aB;have d1:decide ((61-((0:Nat):Int))<=60)=false:=by decide
  simp only[Tm.val]at hk;(refine aO func116 aET ?_;simp only[go_sem,ntmps116,f116]);(refine aL λp hp=>?_);have ep:=aM hr hp;simp only[go_sem,hr,hp,ep,w1,d1];refine aD (hk ((n+1:Nat):Int)) ?_;exact eE
 | succ k ih =>
  intro t n r s KV Kp hk60 hn hw hr hk;simp only[oU]at hr hk;have w1:=aR n aB;have d1:decide ((61-((k+1:Nat):Int))<=60)=true:=by rw[bR];omega
  (refine aO func116 aET ?_;simp only[go_sem,ntmps116,f116]);(refine aL λp hp=>?_);have ep:=aM hr hp;simp only[go_sem,hr,hp,ep,w1,d1];by_cases h2:n+1<=2000
  .have d2:decide (((n+1:Nat):Int)<=2000)=true:=by rw[bR];omega
   simp only[go_sem,hr,hp,ep,w1,d1,d2];refine aS5 t hw _ _ _ ?_;cases hs:t.shape
   .simp only[go_sem,hr,hp,ep,w1,d1,d2];have hv:Tm.val (k+1) t n=none:=by rw[Tm.val,aF h2,hs,aE cT]
    rw[hv]at hk;exact aD (hk ((n+1:Nat):Int)) eE
   have hv:Tm.val (k+1) t n=(iT (Tm.val k) t.kids (n+1)).bind (zX k t.rest.length):=by rw[Tm.val,aF h2,hs,aF rfl]
   rw[hv]at hk;simp only[go_sem,hr,hp,ep,w1,d1,d2]
   have w5:IntKind.i64.wrap (61-((k+1:Nat):Int)+1)=61-(k:Int):=by
    rw[gT _ aB aB];omega
   refine Ex.loop (ι:=Nat × Nat) (λc=>[(0,.ptr r 0),(2,.int .i64 (61-((k+1:Nat):Int))),(4,.ptr p 0),(43,.list none (t.kids.map Tm.enc)),(44,.int .i64 (t.kids.length:Nat)),(45,.int .i64 (c.1:Nat))])
    (λc=>(s.setO p (.cells 67 t.cs)).setO r (oU c.2 true)) (λc=>c.1<=t.kids.length/\iT (Tm.val k) (t.kids.take c.1) (n+1)=some c.2) (λc=>t.kids.length-c.1) (0,n+1) ⟨aN _,rfl⟩ ?_ ?_ ?_
   ·(simp only[go_sem];try exact rfl)
   .exact eE
   .rintro⟨i,c⟩ ⟨hi,hc⟩;simp only at hi hc;have hcl:=aHC (λt m n h=>aND k t m n h) _ _ _ h2 hc;simp only[oU];refine aQ (V:=aET) _ _ _ _ ?_;simp only[go_sem,hr,hp,ep]
    (apply aI<;>intro h)<;>simp only[go_sem,h,hr,hp,ep]
    .have hix:i<t.kids.length:=gQ h;clear h;obtain⟨x,hx⟩:=aU hix;have hxm:x∈t.kids:=bA hx;simp only[go_sem,hr,hp,ep,hx,hix];(refine aL λb5 hb5=>?_);simp only[go_sem,hr,hp,ep,hx,hix,hb5,w5];refine ih x c r _ _ _ aB hcl (hw.kids x hxm) (by simp only[oU];exact gH) ?_;have htk:=aSN (f:=Tm.val k) hx (n+1);rw[hc]at htk;simp only[rC]at htk;cases hv2:Tm.val k x c with
     | none =>
      rw[hv2]at htk;rw[aSM htk]at hk;intro z;simp only[oU];simp only[go_sem,hr,hp,ep,hb5];exact aD (hk z) eE
     | some c2 =>
      rw[hv2]at htk;simp only[oU];simp only[go_sem,hr,hp,ep,hb5];refine⟨(i+1,c2),⟨hix,htk⟩,bD,(by simp only[go_sem,aR i (by have:=hw.lk;omega)];try rfl),?_⟩;exact eE
    .have hii:i=t.kids.length:=by have:¬ i<t.kids.length:=gQ h;omega
     subst hii;rw[bK]at hc;rw[hc]at hk;simp only[rC]at hk;clear h;have hwr:=hw.lr;have d6:decide ((61-((k+1:Nat):Int))<60)=decide (0<k):=by rw[bW];omega
     refine Ex.loop (ι:=Nat) (λj=>[(0,.ptr r 0),(2,.int .i64 (61-((k+1:Nat):Int))),(4,.ptr p 0),(62,.int .i64 (t.rest.length:Nat)),(63,.int .i64 (j:Nat))])
      (λj=>(s.setO p (.cells 67 t.cs)).setO r (oU ((c+j:Nat):Int) (wA k c j))) (λj=>j<=t.rest.length) (λj=>t.rest.length-j) 0 (aN _) ?_ ?_ ?_
     ·(simp only[go_sem];try exact rfl)
     .exact eE
     .intro j hj;have w6:=aR (c+j) aB;simp only[oU];refine aQ (V:=aET) _ _ _ _ ?_;simp only[go_sem,hr,hp,ep]
      (apply aI<;>intro h)<;>simp only[go_sem,h,hr,hp,ep]
      .have hjx:j<t.rest.length:=gQ h;clear h;have d7:decide (((c+j+1:Nat):Int)<=2000)=leM (c+j+1):=by unfold leM;rw[bW];omega
       have w7:=aR j aB;cases hb0:wA k c j with
       | false =>
        have e0:(decide (0<k)&&leM (c+j+1))=false:=by
         simp only[leM,wA,Bool.or_eq_false_iff,Bool.and_eq_false_iff,eF]at hb0⊢;omega
        simp only[go_sem,hr,hp,ep,hb0,w6,d6,d7];refine⟨j+1,hjx,by omega,(by simp only[go_sem,w7];try rfl),?_⟩;rw[aIb,e0];exact eE
       | true =>
        cases hk0:decide (0<k)with
        | false =>
         simp only[go_sem,hr,hp,ep,hb0,w6,d6,d7,hk0];refine⟨j+1,hjx,by omega,(by simp only[go_sem,w7];try rfl),?_⟩;rw[aIb,hk0,eY];exact eE
        | true =>
         simp only[go_sem,hr,hp,ep,hb0,w6,d6,d7,hk0];refine⟨j+1,hjx,by omega,(by simp only[go_sem,w7];try rfl),?_⟩;rw[aIb,hk0,dD];exact eE
      .have hjj:j=t.rest.length:=by have:¬ j<t.rest.length:=gQ h;omega
       subst hjj;clear h;cases hm:zX k t.rest.length c with
       | none =>
        rw[hm]at hk
        have e0:wA k c t.rest.length=false:=by
         unfold zX at hm;unfold wA;split at hm
         .cases hm
         .split at hm
          .cases hm
          .simp only[Bool.or_eq_false_iff,Bool.and_eq_false_iff,eF];omega
        rw[e0];exact aD (hk _) eE
       | some m =>
        rw[hm]at hk
        have e0:wA k c t.rest.length=true/\m=c+t.rest.length:=by
         unfold zX at hm;unfold wA;split at hm
         .cases hm;rename_i h0;exact⟨by rw[h0];rfl,by omega⟩
         .split at hm
          .rename_i h0 h1;cases hm;exact⟨by rw[cF h1.1,cF h1.2];simp,rfl⟩
          .cases hm
        rw[e0.1];rw[e0.2]at hk;exact aD hk eE
  .have d2:decide (((n+1:Nat):Int)<=2000)=false:=by rw[eF];omega
   have hv:Tm.val (k+1) t n=none:=by rw[Tm.val,aE h2]
   rw[hv]at hk;simp only[go_sem,hr,hp,ep,w1,d1,d2];exact aD (hk ((n+1:Nat):Int)) eE
theorem aJ9(t:Tm)(G:TmW t)(s:St)(KV Kp:St->A->Prop)(h:KV s (.bool (Tm.val 60 t 0).isSome)):Den cx 57 [.agg t.cs] KV Kp s:=by
 (refine aO func57 [0,1,2,3] ?_;simp only[go_sem,ntmps57,f57]);(refine aL λp u=>?_);simp only[go_sem,u];(refine aL λq y=>?_);simp only[go_sem,u,y];refine aQH 60 t 0 q _ _ _ (bF _) aB G (by simp only[oU];exact gH) ?_;cases B:Tm.val 60 t 0 with
 | none =>
  rw[B]at h;intro z;simp only[oU];simp only[go_sem,u,y];exact aD h eE
 | some m =>
  rw[B]at h;simp only[oU];simp only[go_sem,u,y];exact aD h eE
def eC{α:Type}(key:α->MK)(l:List α):List (MK × A):=l.map λx=>(key x,.bool true)
theorem aCv{α:Type} [DecidableEq α] (key:α->MK) (z:∀x y,key x=key y->x=y) (x:α) (l:List α):iU (key x) (eC key l)=if x∈l then some (.bool true) else none:=by
 induction l with
 | nil=>rfl
 | cons y l u =>
  simp only[eC,cC,iU]at u⊢;by_cases h:key x=key y
  .have:=z _ _ h;subst this;simp
  .have:x≠y:=λe=>h (by rw[e])
   simp only[aE h,u,cR,this,false_or]
theorem aEp{α:Type} [DecidableEq α] (key:α->MK) (z:∀x y,key x=key y->x=y) (x:α) (l:List α) (h:x ∉ l):lJ (key x) (.bool true) (eC key l)=eC key (l++[x]):=by
 induction l with
 | nil=>rfl
 | cons y l u =>
  simp only[cR,not_or]at h;have B:¬ key x=key y:=λe=>h.1 (z _ _ e)
  have u:=u h.2;simp only[eC,cC,lJ,aE B,bL]at u⊢;rw[u]
theorem aBT(s:St)(l:List aA)(KV Kp)(Y:∀s',s'.ge s->KV s' (.bool (decide l.Nodup))):Den cx 60 [.list none (l.map .str)] KV Kp s:=by
 refine gC λU=>?_
 have O:=U _ (bY ..);(refine aO func60 aBz ?_;simp only[go_sem,ntmps60,f60]);(refine aL λb hb=>?_);simp only[go_sem]
 refine Ex.loop (λi=>[(3,.mp b),(7,.list none (l.map .str)),(8,.int .i64 l.length),(9,.int .i64 (i:Nat))]) (λi=>s.setO b (.map 0 (eC .str (l.take i))))
     (λi=>i<=l.length/\(l.take i).Nodup) (λi=>l.length-i) 0 ⟨aN _,by simp⟩ ?_ (aC _) ?_
 .simp only[go_sem];exact rfl
 .rintro i ⟨hi,z⟩;refine aQ (V:=aBz) _ _ _ _ ?_;simp only[go_sem]
  (apply aI<;>intro h)<;>simp only[go_sem,h]
  .have u:i<l.length:=gQ h;obtain⟨a,H⟩:=aU u;have B:=aCv MK.str (λx y e=>by cases e;rfl) a (l.take i);have S:=aEp MK.str (λx y e=>by cases e;rfl) a (l.take i);by_cases G:a∈l.take i
   .rw[aF G]at B;simp only[go_sem,H,u,B]
    have M:¬ l.Nodup:=by
     intro M;rw[<-lA i l,List.nodup_append]at M;refine M.2.2 a G a ?_ rfl;have:(l.drop i)[0]?=some a:=by rw[nD];simpa using H
     exact bA this
    exact aS (by have:=Y (s.setO b (.map 0 (eC .str (l.take i)))) (aZ (by assumption) (aC s));simpa [M]using this)
   .rw[aE G]at B;simp only[go_sem,H,u,B,S G,iY];have Z:l.take (i+1)=l.take i++[a]:=by rw[fL,H];rfl
    refine⟨i+1,⟨by omega,?_⟩,by omega,?_,?_⟩
    .rw[Z,List.nodup_append];exact⟨z,by simp,λx hx y hy=>by simp at hy;subst hy;intro e;subst e;exact G hx⟩
    .exact O.wrap (i:=i) (gQ u)
    .rw[Z];exact aC _
  .have u:i=l.length:=by simp at h;omega
   subst u;rw[bK]at z;exact aS (by have:=Y (s.setO b (.map 0 (eC .str l))) (aZ (by assumption) (aC s));simpa [z]using this)
theorem aPF(s:St)(l:List Int)(KV Kp)(Y:∀s',s'.ge s->KV s' (.bool (decide l.Nodup))):Den cx 127 [.list none (l.map (.int .i64))] KV Kp s:=by
 refine gC λU=>?_
 have O:=U _ (bY ..);(refine aO func127 aBz ?_;simp only[go_sem,ntmps127,f127]);(refine aL λb hb=>?_);simp only[go_sem]
 refine Ex.loop (λi=>[(3,.mp b),(7,.list none (l.map (.int .i64))),(8,.int .i64 l.length),(9,.int .i64 (i:Nat))]) (λi=>s.setO b (.map 1 (eC .int (l.take i))))
     (λi=>i<=l.length/\(l.take i).Nodup) (λi=>l.length-i) 0 ⟨aN _,by simp⟩ ?_ (aC _) ?_
 .simp only[go_sem];exact rfl
 .rintro i ⟨hi,z⟩;refine aQ (V:=aBz) _ _ _ _ ?_;simp only[go_sem]
  (apply aI<;>intro h)<;>simp only[go_sem,h]
  .have u:i<l.length:=gQ h;obtain⟨a,H⟩:=aU u;have B:=aCv MK.int (λx y e=>by cases e;rfl) a (l.take i);have S:=aEp MK.int (λx y e=>by cases e;rfl) a (l.take i);by_cases G:a∈l.take i
   .rw[aF G]at B;simp only[go_sem,H,u,B]
    have M:¬ l.Nodup:=by
     intro M;rw[<-lA i l,List.nodup_append]at M;refine M.2.2 a G a ?_ rfl;have:(l.drop i)[0]?=some a:=by rw[nD];simpa using H
     exact bA this
    exact aS (by have:=Y (s.setO b (.map 1 (eC .int (l.take i)))) (aZ (by assumption) (aC s));simpa [M]using this)
   .rw[aE G]at B;simp only[go_sem,H,u,B,S G,iY];have Z:l.take (i+1)=l.take i++[a]:=by rw[fL,H];rfl
    refine⟨i+1,⟨by omega,?_⟩,by omega,?_,?_⟩
    .rw[Z,List.nodup_append];exact⟨z,by simp,λx hx y hy=>by simp at hy;subst hy;intro e;subst e;exact G hx⟩
    .exact O.wrap (i:=i) (gQ u)
    .rw[Z];exact aC _
  .have u:i=l.length:=by simp at h;omega
   subst u;rw[bK]at z;exact aS (by have:=Y (s.setO b (.map 1 (eC .int l))) (aZ (by assumption) (aC s));simpa [z]using this)
def kU:List aA:=[[65,110,121],[73,110,116],[66,111,111,108],[84,101,120,116],[73,100],[76,105,115,116],[77,97,112]]
theorem aJf(s:St)(KV Kp)(h:KV s (.list none (kU.map .str))):Den cx 63 [] KV Kp s:=by
 (refine aO func63 [0] ?_;simp only[go_sem,ntmps63,f63]);exact aS h
def dX{α:Type}(r:α->α->Bool):List α->List α->Bool
 | [],[]=>true
 | a::xs,b::ys=>r a b&&dX r xs ys
 | _,_=>false
theorem aDC{α:Type}{r:α->α->Bool}:∀{xs ys:List α},xs.length≠ys.length->dX r xs ys=false
 | [],[],h=>cG rfl h
 | [],_::_,_=>rfl
 | _::_,[],_=>rfl
 | a::xs,b::ys,h=>by simp only[dX,aDC (r:=r) (xs:=xs) (ys:=ys) (gQ h),gY]
theorem yP{α:Type}{r:α->α->Bool}:∀{xs ys:List α},xs.length=ys.length->(dX r xs ys=true↔∀(i:Nat) (a b:α),xs[i]?=some a->ys[i]?=some b->r a b=true)
 | [],[],_=>by simp[dX]
 | [],_::_,h=>by simp at h
 | _::_,[],h=>by simp at h
 | a::xs,b::ys,h=>by
  rw[dX,aY,yP (gQ h)];constructor
  .rintro⟨B,G⟩ i x y u z;cases i with
   | zero=>simp at u z;subst u;subst z;exact B
   | succ i=>exact G i x y (gQ u) (gQ z)
  .intro h;exact⟨h 0 a b aV aV,λi x y u z=>h (i+1) x y (gQ u) (gQ z)⟩
theorem aJH:∀a b:List Tm,aAL a b=dX Tm.same a b
 | [],[]=>rfl
 | [],_::_=>rfl
 | _::_,[]=>rfl
 | a::l,b::r=>by rw[aAL,dX,aJH l r]
theorem aRo(a b:Tm):a.same b=(decide (a.kind=b.kind)&&(decide (a.n=b.n)&&(decide (a.text=b.text)&&(decide (a.sort=b.sort)&&(dX Tm.same a.kids b.kids&&dX Tm.same a.rest b.rest))))):=by
 cases a;cases b;simp only[Tm.same,aJH,Tm.kind,Tm.n,Tm.text,Tm.sort,Tm.kids,Tm.rest];rfl
theorem Tm.hz6(a:Tm):∃cs,a.enc=.agg cs/\cs.length=6/\iF cs=true:=⟨_,a.enc_eq,rfl,rfl⟩
theorem aQ9(s:St)(xs ys:List aA)(KV Kp)(Y:KV s (.bool (dX (λa b=>decide (a=b)) xs ys))) :
  Den cx 188 [.list none (xs.map .str),.list none (ys.map .str)] KV Kp s:=by
 refine gC λb0=>?_
 have Z:=b0 _ (bY ..);(refine aO func188 aBv ?_;simp only[go_sem,ntmps188,f188])
 (first|refine gC8 (λh=>?_) (λh=>?_)|refine gC9 (λh=>?_) (λh=>?_)|refine gD1 (λh=>?_) (λh=>?_))<;>simp only[go_sem,h]
 .exact aS (by rwa[aDC (by intro e;simp[e]at h)]at Y)
 .have B:xs.length=ys.length:=by simp at h;omega
  refine Ex.loop (λi=>[(0,.list none (xs.map .str)),(1,.list none (ys.map .str)),(12,.int .i64 xs.length),(13,.int .i64 (i:Nat))]) (λ_=>s)
     (λi=>i<=xs.length/\∀(j:Nat) a b,j<i->xs[j]?=some a->ys[j]?=some b->(λa b=>decide (a=b)) a b=true) (λi=>xs.length-i) 0 ⟨aN _,λj _ _ hj=>by omega⟩ ?_ (aC s) ?_
  .simp only[go_sem];exact rfl
  .rintro i ⟨hi,z⟩;refine aQ (V:=aBv) _ _ _ _ ?_;simp only[go_sem]
   (first|refine gC8 (λh=>?_) (λh=>?_)|refine gC9 (λh=>?_) (λh=>?_)|refine gD1 (λh=>?_) (λh=>?_))<;>simp only[go_sem,h]
   .have u:i<xs.length:=gQ h;have H:i<ys.length:=by omega
    obtain⟨a,O⟩:=aU u;obtain⟨b,S⟩:=aU H;(refine bX (OT.r 0 9) [] ?_;simp only[go_sem]);simp only[go_sem,O,S,u,H]
    (first|refine gC8 (λh=>?_) (λh=>?_)|refine gC9 (λh=>?_) (λh=>?_)|refine gD1 (λh=>?_) (λh=>?_))<;>simp only[go_sem,h]
    .have hr:(λa b=>decide (a=b)) a b=false:=by simpa only[fV,dT]using h
     have:dX (λa b=>decide (a=b)) xs ys=false:=by
      rw[iV];intro he;have:=(yP B).1 he i a b O S;exact cG (hr.symm.trans this) cT
     exact aS (by rwa[this]at Y)
    .have hr:(λa b=>decide (a=b)) a b=true:=by simpa only[aF2,dT]using h
     refine⟨i+1,⟨by omega,λj x y hj G M=>?_⟩,by omega,?_,aC s⟩
     .by_cases U:j=i
      .subst U;rw[O]at G;rw[S]at M;cases G;cases M;exact hr
      .exact z j x y aB G M
     .simp only[go_sem,Z.wrap (i:=i) (gQ u)]
   .have u:i=xs.length:=by simp at h;omega
    have:dX (λa b=>decide (a=b)) xs ys=true:=(yP B).2 λj x y G M=>z j x y (by rw[u];exact(cX.1 G).1) G M
    exact aS (by rwa[this]at Y)
def Eqn.same(a b:Eqn):Bool:=a.left.same b.left&&(a.right.same b.right&&dX Tm.same a.cond b.cond)
def Cel.same(a b:Cel):Bool:=decide (a.name=b.name)&&(decide (a.sort=b.sort)&&a.init.same b.init)
def Part.same(a b:Part):Bool:=decide (a.cell=b.cell)&&(decide (a.at_=b.at_)&&(a.left.same b.left&&dX Tm.same a.right b.right))
def Fresh.same(a b:Fresh):Bool:=dX Tm.same a.cells b.cells
theorem Eqn.hz(a:Eqn):∃cs,a.enc=.agg cs/\cs.length=15/\iF cs=true:=⟨_,rfl,rfl,rfl⟩
theorem Cel.hz(a:Cel):∃cs,a.enc=.agg cs/\cs.length=10/\iF cs=true:=⟨_,rfl,rfl,rfl⟩
theorem Part.hz(a:Part):∃cs,a.enc=.agg cs/\cs.length=11/\iF cs=true:=⟨_,rfl,rfl,rfl⟩
theorem Fresh.hz(a:Fresh):∃cs,a.enc=.agg cs/\cs.length=1/\iF cs=true:=⟨_,rfl,rfl,rfl⟩
theorem Rul.hz(a:Rul):∃cs,a.enc=.agg cs/\cs.length=7/\iF cs=true:=⟨_,rfl,rfl,rfl⟩
theorem Opr.hz(a:Opr):∃cs,a.enc=.agg cs/\cs.length=7/\iF cs=true:=⟨_,rfl,rfl,rfl⟩
def Rul.same(a b:Rul):Bool:=decide (a.name=b.name)&&(dX Part.same a.parts b.parts&&(dX Tm.same a.cond b.cond&&(dX Fresh.same a.new b.new&&dX (λa b=>decide (a=b)) a.drop b.drop)))
def Opr.same(a b:Opr):Bool:=decide (a.name=b.name)&&(decide (a.sort=b.sort)&&(decide (a.prec=b.prec)&&(decide (a.assoc=b.assoc)&&(dX (λa b=>decide (a=b)) a.args b.args&&(dX (λa b=>decide (a.text=b.text)&&decide (a.sort=b.sort)) a.pieces b.pieces&&dX (λa b=>decide (a=b)) a.strict b.strict)))))
def Sig.same(a b:Sig):Bool:=dX (λa b=>decide (a=b)) a.sorts b.sorts&&(dX (λa b=>decide (a.low=b.low)&&decide (a.high=b.high)) a.below b.below&&(dX (λa b=>decide (a=b)) a.values b.values&&(dX Opr.same a.ops b.ops&&dX Opr.same a.funs b.funs)))
def Dfn.same(a b:Dfn):Bool:=decide (a.name=b.name)&&(decide (a.kind=b.kind)&&(decide (a.start=b.start)&&(decide (a.watch=b.watch)&&(a.sig.same b.sig&&(dX Eqn.same a.eqs b.eqs&&(dX Cel.same a.once b.once&&(dX Cel.same a.many b.many&&dX Rul.same a.rules b.rules)))))))
end Go.AV
section
open Go.Proofs.Tryz
namespace Go.Proofs
open Go.Shelf
def Tryz.lays190_ren:Go.Shelf.Ren:=⟨λ|125=>109|128=>174|129=>175|190=>45|258=>108|302=>165|303=>166|304=>167|305=>168|306=>169|307=>170|308=>171|309=>172|310=>173|329=>207|330=>208|333=>206|334=>209|335=>210|336=>211|344=>251|n=>n,λ|0=>0|3=>3|4=>4|5=>5|9=>9|31=>22|46=>152|51=>201|53=>203|131=>198|182=>193|183=>194|218=>226|222=>186|228=>256|229=>257|n=>n,λn=>n⟩
theorem Tryz.lays190:Go.Proofs.Lays.n190 Tryz.prog Tryz.lays190_ren:={
 mixed:=by kernel_rfl
 f125:=Tryz.func109.trans (congrArg some (by kernel_rfl))
 f128:=Tryz.func174.trans (congrArg some (by kernel_rfl))
 f129:=Tryz.func175.trans (congrArg some (by kernel_rfl))
 f190:=Tryz.func45.trans (congrArg some (by kernel_rfl))
 f258:=Tryz.func108.trans (congrArg some (by kernel_rfl))
 f302:=Tryz.func165.trans (congrArg some (by kernel_rfl))
 f303:=Tryz.func166.trans (congrArg some (by kernel_rfl))
 f304:=Tryz.func167.trans (congrArg some (by kernel_rfl))
 f305:=Tryz.func168.trans (congrArg some (by kernel_rfl))
 f306:=Tryz.func169.trans (congrArg some (by kernel_rfl))
 f307:=Tryz.func170.trans (congrArg some (by kernel_rfl))
 f308:=Tryz.func171.trans (congrArg some (by kernel_rfl))
 f309:=Tryz.func172.trans (congrArg some (by kernel_rfl))
 f310:=Tryz.func173.trans (congrArg some (by kernel_rfl))
 f329:=Tryz.func207.trans (congrArg some (by kernel_rfl))
 f330:=Tryz.func208.trans (congrArg some (by kernel_rfl))
 f333:=Tryz.func206.trans (congrArg some (by kernel_rfl))
 f334:=Tryz.func209.trans (congrArg some (by kernel_rfl))
 f335:=Tryz.func210.trans (congrArg some (by kernel_rfl))
 f336:=Tryz.func211.trans (congrArg some (by kernel_rfl))
 f344:=Tryz.func251.trans (congrArg some (by kernel_rfl))
 t0:=Tryz.underlying0
 a0:=Tryz.isAgg0
 z0:=Tryz.sizeOf0
 v0:=Tryz.zeroValue0
 t3:=Tryz.underlying3
 a3:=Tryz.isAgg3
 z3:=Tryz.sizeOf3
 v3:=Tryz.zeroValue3
 t4:=Tryz.underlying4
 a4:=Tryz.isAgg4
 z4:=Tryz.sizeOf4
 v4:=Tryz.zeroValue4
 t5:=Tryz.underlying5
 a5:=Tryz.isAgg5
 z5:=Tryz.sizeOf5
 v5:=Tryz.zeroValue5
 t9:=Tryz.underlying9
 a9:=Tryz.isAgg9
 z9:=Tryz.sizeOf9
 v9:=Tryz.zeroValue9
 t31:=Tryz.underlying22
 a31:=Tryz.isAgg22
 z31:=Tryz.sizeOf22
 v31:=Tryz.zeroValue22
 t46:=Tryz.underlying152
 a46:=Tryz.isAgg152
 z46:=Tryz.sizeOf152
 v46:=Tryz.zeroValue152
 t51:=Tryz.underlying201
 a51:=Tryz.isAgg201
 z51:=Tryz.sizeOf201
 v51:=Tryz.zeroValue201
 t53:=Tryz.underlying203
 a53:=Tryz.isAgg203
 z53:=Tryz.sizeOf203
 v53:=Tryz.zeroValue203
 t131:=Tryz.underlying198
 a131:=Tryz.isAgg198
 z131:=Tryz.sizeOf198
 v131:=Tryz.zeroValue198
 t182:=Tryz.underlying193
 a182:=Tryz.isAgg193
 z182:=Tryz.sizeOf193
 v182:=Tryz.zeroValue193
 t183:=Tryz.underlying194
 a183:=Tryz.isAgg194
 z183:=Tryz.sizeOf194
 v183:=Tryz.zeroValue194
 t218:=Tryz.underlying226
 a218:=Tryz.isAgg226
 z218:=Tryz.sizeOf226
 v218:=Tryz.zeroValue226
 t222:=Tryz.underlying186
 a222:=Tryz.isAgg186
 z222:=Tryz.sizeOf186
 v222:=Tryz.zeroValue186
 t228:=Tryz.underlying256
 a228:=Tryz.isAgg256
 z228:=Tryz.sizeOf256
 v228:=Tryz.zeroValue256
 t229:=Tryz.underlying257
 a229:=Tryz.isAgg257
 z229:=Tryz.sizeOf257
 v229:=Tryz.zeroValue257 }
def Tryz.lays194_ren:Go.Shelf.Ren:=⟨λ|194=>194|n=>n,λ|0=>0|3=>3|4=>4|9=>9|31=>22|n=>n,λn=>n⟩
theorem Tryz.lays194:Go.Proofs.Lays.n194 Tryz.prog Tryz.lays194_ren:={
 mixed:=by kernel_rfl
 f194:=Tryz.func194.trans (congrArg some (by kernel_rfl))
 t0:=Tryz.underlying0
 a0:=Tryz.isAgg0
 z0:=Tryz.sizeOf0
 v0:=Tryz.zeroValue0
 t3:=Tryz.underlying3
 a3:=Tryz.isAgg3
 z3:=Tryz.sizeOf3
 v3:=Tryz.zeroValue3
 t4:=Tryz.underlying4
 a4:=Tryz.isAgg4
 z4:=Tryz.sizeOf4
 v4:=Tryz.zeroValue4
 t9:=Tryz.underlying9
 a9:=Tryz.isAgg9
 z9:=Tryz.sizeOf9
 v9:=Tryz.zeroValue9
 t31:=Tryz.underlying22
 a31:=Tryz.isAgg22
 z31:=Tryz.sizeOf22
 v31:=Tryz.zeroValue22 }
open Go.RowKit Go.Sort
theorem Tryz.sort_str(h off cap:Nat)(ss:List (List UInt8))(w:World)(hH:Holds encStr w h off ss.toArray)(u:h<w.heap.size)(z:ss.length<4611686018427387904) :
  Calls Tryz.prog 45 #[.slice (some ⟨h,off,none⟩) ss.length cap] w λe w' =>
   e=.returned (.tuple #[])/\∃n B,w'=grow (putRow encStr (Sort.ahead w n) h off (ss.mergeSort λx y=>decide (x<=y)).toArray) B:=Any.slices_Sort_string Tryz.lays190 h off cap ss w hH u z
theorem Tryz.sort_none(p:Option Addr)(cap:Nat)(w:World) :
  Calls Tryz.prog 45 #[.slice p 0 cap] w λe w'=>e=.returned (.tuple #[])/\w'=w:=Any.slices_Sort_string_none Tryz.lays190 p cap w
theorem Tryz.compact_str(h off cap:Nat)(u:List (List UInt8))(w:World)(hH:Holds encStr w h off u.toArray)(z:u.length<=9223372036854775807)(y:u.length<=cap) :
  Calls Tryz.prog 194 #[.slice (some ⟨h,off,none⟩) u.length cap] w λe w'=>e=.returned (.slice (some ⟨h,off,none⟩) (Lib.compact u).length cap)/\∃q,w'=putRow encStr (Sort.ahead w q) h off (Lib.compact u++List.replicate (u.length-(Lib.compact u).length) []).toArray:=Any.slices_Compact_string Tryz.lays194 h off cap u w hH z y
end Go.Proofs
end
section
open Go.Proofs.Tryz
namespace Go.AV
open Go Go.Proofs Go.Sort
def rP(x:aA):List aA->List aA
 | []=>[x]
 | y::r=>if x<=y then x::y::r else y::rP x r
def kY:List aA->List aA
 | []=>[]
 | x::r=>rP x (kY r)
theorem aAE(x:aA):∀l:List aA,(rP x l).Perm (x::l)
 | []=>.refl _
 | y::r=>by
  simp only[rP];split
  .exact .refl _
  .exact((aAE x r).cons y).trans (.swap x y r)
theorem lY:∀l:List aA,(kY l).Perm l
 | []=>.refl _
 | x::r=>(aAE x _).trans ((lY r).cons x)
theorem aGt(x:aA):∀l:List aA,l.Pairwise (λa b=>a<=b)->(rP x l).Pairwise (λa b=>a<=b)
 | [],_=>by simp[rP]
 | y::r,h=>by
  simp only[rP];rw[List.pairwise_cons]at h;split
  .rename_i u;rw[List.pairwise_cons,List.pairwise_cons]
   exact⟨λz hz=>by
    rcases List.mem_cons.1 hz with rfl|hz
    .exact u
    .exact List.le_trans u (h.1 z hz),h⟩
  .rename_i u;rw[List.pairwise_cons];refine⟨λz hz=>?_,aGt x r h.2⟩;rcases List.mem_cons.1 ((aAE x r).mem_iff.1 hz)with rfl|hz
   .exact(List.le_total y z).resolve_right u
   .exact h.1 z hz
theorem aAp:∀l:List aA,(kY l).Pairwise (λa b=>a<=b)
 | []=>.nil
 | x::r=>aGt x _ (aAp r)
theorem aD7(l:List aA):(l.mergeSort λx y=>decide (x<=y))=kY l:=by
 have z:(l.mergeSort λx y=>decide (x<=y)).Perm (kY l):=(List.mergeSort_perm l _).trans (lY l).symm
 have B:(l.mergeSort λx y=>decide (x<=y)).Pairwise (λa b:aA=>a<=b):=by
  have:=List.pairwise_mergeSort (le:=λx y:aA=>decide (x<=y)) (λa b c h u=>by simp only[bR]at *;exact List.le_trans h u) (λa b=>by simp only[gB,bR];exact List.le_total a b) l;simpa using this
 exact List.Perm.eq_of_pairwise (λa b _ _ h u=>List.le_antisymm h u) B (aAp l) z
theorem Rzs.strs{g:Gh}:∀{ss:List aA} {J:List A} {vs:List Value},Rzs g (ss.map .str++J) vs->∃us,vs=ss.map gW++us/\Rzs g J us
 | [],J,vs,h=>⟨vs,rfl,h⟩
 | x::r,J,[],h=>by have:=h.1;simp at this
 | x::r,J,v::vs,h=>by
  have z:=(h.2 0 (.str x) v rfl rfl).str_inv;obtain⟨us,rfl,y⟩:=Rzs.strs (g:=g) (ss:=r) (J:=J) (vs:=vs) ⟨gQ h.1,λj c u B y=>h.2 (j+1) c u (gQ B) (gQ y)⟩;exact⟨us,by rw[z];rfl,y⟩
theorem aKc{g:Gh}:∀(ss:List aA) {J:List A} {us:List Value},Rzs g J us->Rzs g (ss.map .str++J) (ss.map gW++us)
 | [],J,us,h=>h
 | x::r,J,us,h=>.cons (.str x) (aKc r h)
theorem aLi{w:World}{k:Nat}{ss:List aA}{rest:List Value}{e:TypeId}(u:w.heap[k]?=some (.cells (ss.map gW++rest).toArray e)):Holds encStr w k 0 ss.toArray:=by
 intro j h;have h:j<ss.length:=gQ h;constructor
 .simp only[World.cell?,u,gK,lK];rw[jT (gQ h),jU,cO h];simp[h,encStr,gW]
 .simp[World.frozen?,u]
theorem aVE{w:World}{k:Nat}{ss:List aA}{rest:List Value}{e:TypeId}(z:w.heap[k]?=some (.cells (ss.map gW++rest).toArray e)){d:List aA}(u:d.length=ss.length)(n:Nat) :
  (putRow encStr (Sort.ahead w n) k 0 d.toArray).heap[k]?=some (.cells (d.map gW++rest).toArray e)/\∀j,j≠k->(putRow encStr (Sort.ahead w n) k 0 d.toArray).heap[j]?=w.heap[j]?:=by
 constructor
 .simp only[putRow,mapBlock,Sort.ahead,Array.getElem?_modify,z,onCells,dJ,gS];congr 2;apply Array.ext_getElem?;intro i;simp only[putCells,Array.getElem?_mapIdx,lK];by_cases h:i<d.length
  .rw[jT (by simpa [u]using h),jT (gQ h),jU,jU,cO (by omega:i<ss.length),cO h];simp[h,encStr,gW]
  .rw[rU (by simpa [u]using h),rU (gQ h),aW,aW,u];cases rest[i-ss.length]? with
   | none=>rfl
   | some x=>simp[h]
 .intro j y;simp only[putRow,mapBlock,Sort.ahead,Array.getElem?_modify,aE (Ne.symm y)]
theorem aNW{F:Fr}{g:Gh}{s:St}{w:World}(B:R cx.toCtx F g s w){b k:Nat}{ss:List aA}{J:List A}(G:s.getO b=some (.cells 9 (ss.map .str++J)))(H:g.beta b=some k) :
  ∃us rest,w.heap[k]?=some (.cells (ss.map gW++rest).toArray 9)/\k<w.heap.size/\∀(d:List aA) (n:Nat),d.length=ss.length->R cx.toCtx F g (s.setO b (.cells 9 (d.map .str++J))) (putRow encStr (Sort.ahead w n) k 0 d.toArray)/\us=ss:=by
 obtain⟨Z,y,⟨vs,rest,u,hz,M⟩,_,_⟩:=B.obj b _ G;rw[H]at y;cases y;obtain⟨us,rfl,S⟩:=hz.strs;rw[dO]at u;refine⟨ss,us++rest,u,(fU.1 u).1,λd n O=>⟨?_,rfl⟩⟩;obtain⟨U,Y⟩:=aVE u O n;refine B.setObj G H Y ?_;refine⟨d.map gW++us,rest,by rw[U,dO],aKc d S,λc h=>?_⟩;rcases bT.1 h with h|h
 .obtain⟨z,_,rfl⟩:=cW.1 h;rfl
 .exact M c (lL _ h)
section
variable {b cap:Nat} {ss:List aA} {J:List A} {s:St} {KV Kp:St->A->Prop}
theorem aGG(M:s.getO b=some (.cells 9 (ss.map .str++J)))(hl:ss.length<4611686018427387904)(S:KV (s.setO b (.cells 9 ((kY ss).map .str++J))) (.tuple [])):Den cx 45 [.mg b ss.length cap] KV Kp s:=by
 intro F g w vals H u;change OutV cx F g KV Kp ((callFunc 45 vals.toArray).run prog w);rw[aAD (P:=prog) func45 rfl rfl vals.toArray w]
 match vals,u.1,u with
 | [x],_,u =>
 have U:=u.2 0 _ x rfl rfl;cases U with
 | mg b n cap k z G Y =>
 obtain⟨_,rest,O,B,h⟩:=aNW H M z;refine Calls.mono (sort_str k 0 cap ss w (aLi O) B hl) ?_;rintro e w' ⟨rfl,n,Z,rfl⟩;rw[aD7];have y:=(h (kY ss) n (lY ss).length_eq).1;exact⟨g,_,_,dQ g,y.keep (λc G=>heap_grow_old _ _ G),.tuple [] [] rfl aV,S⟩
theorem aDE(y:KV s (.tuple [])):Den cx 45 [.nils] KV Kp s:=by
 intro F g w vals u h;change OutV cx F g KV Kp ((callFunc 45 vals.toArray).run prog w);rw[aAD (P:=prog) func45 rfl rfl vals.toArray w]
 match vals,h.1,h with
 | [x],_,h =>
 have z:=(h.2 0 _ x rfl rfl).nils_inv;subst z;refine Calls.mono (sort_none none 0 w) ?_;rintro e w' ⟨rfl,rfl⟩;exact⟨g,_,s,dQ g,u,.tuple [] [] rfl aV,y⟩
theorem aPf(B:s.getO b=some (.cells 9 (ss.map .str++J)))(hl:ss.length<=4294967296)(O:KV (s.setO b (.cells 9 ((Lib.compact ss++List.replicate (ss.length-(Lib.compact ss).length) []).map .str++J))) (.mg b (Lib.compact ss).length cap)) :
  Den cx 194 [.mg b ss.length cap] KV Kp s:=by
 intro F g w vals z y;change OutV cx F g KV Kp ((callFunc 194 vals.toArray).run prog w);rw[aAD (P:=prog) func194 rfl rfl vals.toArray w]
 match vals,y.1,y with
 | [x],_,y =>
 have Y:=y.2 0 _ x rfl rfl;cases Y with
 | mg b n cap k h G U =>
 obtain⟨_,rest,M,S,u⟩:=aNW z B h
 have H:(Lib.compact ss).length<=ss.length:=by
  unfold Lib.compact Lib.compactUpTo;rw[aW];exact rE (List.length_filter_le _ _) (by rw[List.length_range];exact bF _)
 refine Calls.mono (compact_str k 0 cap ss w (aLi M) aB G) ?_;rintro e w' ⟨rfl,n,rfl⟩;exact⟨g,_,_,dQ g,(u _ n (by rw[aG,List.length_replicate];omega)).1,.mg b _ cap k h aB U,O⟩
theorem aPg(y:KV s .nils):Den cx 194 [.nils] KV Kp s:=by
 intro F g w vals u h;change OutV cx F g KV Kp ((callFunc 194 vals.toArray).run prog w);rw[aAD (P:=prog) func194 rfl rfl vals.toArray w]
 match vals,h.1,h with
 | [x],_,h =>
 have z:=(h.2 0 _ x rfl rfl).nils_inv;subst z;refine Calls.mono (Any.slices_Compact_string_empty lays194 none 0 w) ?_;rintro e w' ⟨rfl,rfl⟩;exact⟨g,_,_,dQ g,u,.nils,y⟩
end
theorem aQM(ss:List aA)(x:aA):x∈Lib.compact ss↔x∈ss:=by
 unfold Lib.compact Lib.compactUpTo;simp only[cW,List.mem_filter,rW];constructor
 .rintro⟨j,⟨u,_⟩,rfl⟩;simp[u]
 .intro h;obtain⟨j,u,rfl⟩:=iC h
  induction j with
  | zero=>exact⟨0,⟨u,by simp[Lib.keeps]⟩,by simp[u]⟩
  | succ j G =>
   by_cases y:Lib.keeps ss.toArray (j+1)=true
   .exact⟨j+1,⟨u,y⟩,by simp[u]⟩
   .obtain⟨i,B,z⟩:=G aB (iX _);refine⟨i,B,z.trans ?_⟩;simp[Lib.keeps]at y;simpa [u,(by omega:j<ss.length)]using y.symm
def St.delO(s:St)(b:Nat):St:={ s with ob:=λu=>if u=b then none else s.ob u,ov:=zS b s.ov }
theorem aBS(s:St)(b q:Nat):(s.delO b).getO q=if q=b then none else s.getO q:=aHf b s.ob q s.ov
theorem aNt{F:Fr}{S:Gh}{s':St}{w':World}{v:Value}{b cap:Nat}{e:TypeId}{es J:List A}(hR:R cx.toCtx F S s' w')(O:Rz S (.mg b es.length cap) v)(hb:s'.getO b=some (.cells e (es++J)))(hy:∀y,y∈es->y.cells=[y]) :
  ∃H,S.le H/\R cx.toCtx F H (s'.delO b) w'/\Rz H (.list none es) v:=by
 cases O with
 | mg b n cap k U M hm =>
 obtain⟨k',e1,⟨vs,rest,hh,hz,h1⟩,Z,hF⟩:=hR.obj b _ hb;rw[U]at e1;cases e1;have b3:vs.length=es.length+J.length:=by rw[hz.1,aG]
 have B:=aDy Z vs
 have u:R cx.toCtx F S (s'.delO b) w':=hR.weaken ⟨λq o z=>by
  rw[aBS]at z;split at z
  .cases z
  .exact z,λ_ _ h=>h,λ_ h=>h⟩ (λhd=>by cases hd)
 refine⟨S.know k vs,B,⟨λq o z=>?_,λt n e ht=>?_,u.sep,λq pre hp=>?_,λq o z=>?_,λq cs hq=>?_,u.fsh,u.bet,u.inj,u.dtm,λx hx=>(u.lst x hx).mono B,u.bfr,u.env⟩,?_⟩
 .obtain⟨j,q1,q2,q3,q4⟩:=u.obj q o z
  have b1:j≠k:=by
   rintro rfl;have:=u.inj q b j q1 U;subst this;rw[aBS,aF rfl]at z;cases z
  exact⟨j,q1,q2.mono B,by simp[Gh.know,b1,q3],q4⟩
 .obtain⟨v,xs,t1,t2,t3,t4⟩:=u.tok t n e ht;refine⟨v,xs,t1,t2,t3,λc M=>?_⟩;have b0:c≠k:=by rintro rfl;have:=(t4 c M).1;rw[Z]at this;cases this
  exact⟨by simp[Gh.know,b0,(t4 c M).1],(t4 c M).2⟩
 .simp only[Gh.know]at hp;split at hp
  .cases hp;rename_i hq;subst hq;exact⟨rest,e,(0,0),hh⟩
  .exact u.pis q pre hp
 .obtain⟨o1,o2⟩:=u.frm q o z;have b2:q≠k:=by rintro rfl;rw[hF]at z;cases z
  exact⟨o1,by simp[Gh.know,b2,o2]⟩
 .obtain⟨pre,ty,fr,p1,p2,p3,p4⟩:=u.glb q cs hq;exact⟨pre,ty,fr,p1,p2,p3,λj c v M O=>(p4 j c v M O).mono B⟩
 .refine .list none es k 0 1 cap vs (by simp[Gh.know]) aB M hm (λy G=>by rw[hy y G];rfl) (λy G c Y=>?_) (λi y j c v hi hj O=>?_) (λt ht=>by cases ht)
  .rw[hy y G]at Y;rw[bS.1 Y];exact h1 y (gN _ G)
  .rw[hy y (bA hi)]at hj
   obtain rfl:j=0:=by
    have:=(cX.1 hj).1;simp at this;omega
   simp only[iO,bM]at hj;subst hj;simp only[gK,Nat.mul_one,jA]at O;exact(hz.2 i y v (by rw[jT (cX.1 hi).1];exact hi) O).mono B
def FZ(KV:St->A->Prop)(s:St)(v:A):Prop:=KV s v\/∃b cap e es J f,(f=id\/∃a,f=λx=>A.tuple [x,a])/\v=f (.mg b es.length cap)/\s.getO b=some (.cells e (es++J))/\(∀y,y∈es->y.cells=[y])/\KV (s.delO b) (f (.list none es))
theorem Den.frz{f:FuncId}{args:List A}{s:St}{KV Kp:St->A->Prop}(h:Den cx f args (FZ KV) Kp s):Den cx f args KV Kp s:=by
 have key:∀(F:Fr) (g B:Gh) (s':St) (w':World) (a:A) (v:Value),g.le B->R cx.toCtx F B s' w'->Rz B a v->FZ KV s' a->∃H a' Y,g.le H/\R cx.toCtx F H Y w'/\Rz H a' v/\KV Y a':=by
  intro F g B s' w' a v hg U G h;rcases h with h|⟨b,cap,e,es,J,_,rfl|⟨c,rfl⟩,rfl,hb,hy,h⟩
  .exact⟨B,a,s',hg,U,G,h⟩
  .obtain⟨g2,Z,h2,h3⟩:=aNt U G hb hy;exact⟨g2,_,_,hg.trans Z,h2,h3,h⟩
  .cases G with
   | tuple _ vs hl G =>
   match vs,hl with
   | [x,y],_ =>
   obtain⟨g2,Z,h2,h3⟩:=aNt U (G 0 _ x rfl rfl) hb hy;refine⟨g2,_,_,hg.trans Z,h2,.tuple [.list none es,c] [x,y] rfl λj z u hz hu=>?_,h⟩
   match j with
   | 0=>cases hz;cases hu;exact h3
   | 1=>cases hz;cases hu;exact(G 1 _ _ rfl rfl).mono Z
   | _+2=>simp at hz
 intro F g w vals U G;have:=h F g w vals U G;revert this;generalize (callFunc f vals.toArray).run cx.P w=r;intro M;cases r with
 | ok x w' =>
  cases x<;>simp only[OutV]at M⊢
  .obtain⟨B,a,s',O,S,a3,a4⟩:=M;exact key F g B s' w' a _ O S a3 a4
  .obtain⟨B,s',O,S,a3⟩:=M;rcases a3 with h|⟨b,cap,e,es,J,_,rfl|⟨c,rfl⟩,h,_⟩
   .exact⟨B,s',O,S,h⟩
   .cases h
   .cases h
  .refine Calls.mono M λen b0 hp=>?_
   cases en with
   | returned v=>obtain⟨B,a,s',O,S,a3,a4⟩:=hp;exact key F g B s' b0 a _ O S a3 a4
   | panicked mE=>exact hp
   | outgrown=>exact hp
 | halt x w'=>(cases x<;>simp only[OutV]at M⊢)<;>exact M
end Go.AV
end
namespace Go.AV
open Go Go.Proofs Tryz
def iE(x:aA)(out:List aA)(b:Below):List aA:=if b.low=x/\b.high ∉ out then out++[b.high] else out
def wX(h:List Below):Nat->Nat->List aA->List aA
 | 0,_,out=>out
 | f+1,i,out=>match out[i]? with
  | none=>out
  | some x=>wX h f (i+1) (h.foldl (iE x) out)
def pH(h:List Below)(a:aA):List aA:=wX h (h.length+2) 0 [a]
def nH(sg:Sig):List aA:=kU++sg.sorts
def zC(sg:Sig)(a:aA):List aA:=if a∈nH sg then pH sg.below a else []
def cD(sg:Sig)(a:aA):Bool:=decide (a∈nH sg)
def uV(sg:Sig)(x y:aA):Bool:=decide (y=[65,110,121])||decide (y∈zC sg x)
def mS(sg:Sig)(x y:aA):Bool:=uV sg x y||uV sg y x
def uT(sg:Sig)(a:aA):Bool:=sg.values.any λv=>uV sg a v
def dA:List Opr->aA->Option Opr
 | [],_=>none
 | o::r,n=>match dA r n with
  | some p=>some p
  | none=>if o.name=n then some o else none
def kX:Opr:=⟨[],[],[],[],0,0,[]⟩
def oJ(c:UInt8):Bool:=!decide ((c.toNat:Int)<33)&&(!decide (126<(c.toNat:Int))&&(!jK c.toNat&&!decide (c∈[34,39,92])))
def uX(x:aA):Bool:=!decide (x=[])&&(!decide (20<x.length)&&x.all oJ)
def zG(a:aA):Bool:=cA a&&!decide (a∈kU)
def yU(sg:Sig)(b:Below):Bool:=!decide (b.low=[65,110,121])&&(cD sg b.low&&(decide (b.high∈sg.sorts)&&!decide (b.low∈zC sg b.high)))
def uY(p:Piece):Bool:=decide (p.sort=[]) == (uX p.text||(cA p.text&&!decide (20<p.text.length)))&&!(!decide (p.sort=[])&&!decide (p.text=[]))
def aDK(o:Opr):Bool:=decide (o.pieces.length=0)||(o.pieces.all uY&&(!decide (20<o.pieces.length)&&dX (λa b=>decide (a=b)) ((o.pieces.map Piece.sort).filter (λx=>!decide (x=[]))) o.args))
def vJ(sg:Sig)(o:Opr):Bool :=
 rQ o.name&&(!decide (o.name∈fX)&&(!decide (8<o.args.length)&&(o.args.all (cD sg)&&(decide (o.sort∈sg.sorts) &&
 (((decide (0<=o.prec)&&decide (o.prec<=20))&&(decide (0<o.pieces.length)||decide (o.prec=0)))&&(((decide (0<=o.assoc)&&decide (o.assoc<=2))&&(decide (0<o.prec)||decide (o.assoc=0))) &&
 ((o.strict.all λi=>decide (1<=i)&&decide (i<=o.args.length))&&(decide o.strict.Nodup&&aDK o))))))))
def wY(sg:Sig)(o:Opr):Bool :=
 cA o.name&&(!decide (o.name∈fX)&&(!decide (8<o.args.length)&&(o.args.all (cD sg)&&(cD sg o.sort&&(decide (o.pieces.length=0)&&(decide (o.prec=0)&&(decide (o.assoc=0)&&decide (o.strict.length=0))))))))
def qN(sg:Sig):Bool :=
 !decide (40<sg.sorts.length)&&(!decide (200<sg.below.length)&&(!decide (200<sg.ops.length+sg.funs.length)&&(decide sg.below.Nodup&&(decide sg.values.Nodup &&
 (decide sg.sorts.Nodup&&(sg.sorts.all zG&&(decide (sg.ops.map Opr.name++sg.funs.map Opr.name).Nodup &&
 (sg.below.all (yU sg)&&(sg.values.all (cD sg)&&(sg.ops.all (vJ sg)&&sg.funs.all (wY sg)))))))))))
def zK(n:aA):List aA :=
 if n∈[[97,100,100],[115,117,98],[109,117,108],[100,105,118],[109,111,100],[108,116],[108,101],[103,116],[103,101]] then [[73,110,116],[73,110,116]]
 else if n∈[[110,101,103],[116,101,120,116]] then [[73,110,116]]
 else if n∈[[101,113],[110,101]] then [[65,110,121],[65,110,121]]
 else if n∈[[97,110,100],[111,114]] then [[66,111,111,108],[66,111,111,108]]
 else if n=[110,111,116] then [[66,111,111,108]]
 else if n=[112,105,99,107] then [[66,111,111,108],[65,110,121],[65,110,121]]
 else if n=[99,97,116] then [[84,101,120,116],[84,101,120,116]]
 else if n=[108,101,110,103,116,104] then [[76,105,115,116]]
 else if n=[106,111,105,110] then [[76,105,115,116],[76,105,115,116]]
 else if n∈[[103,101,116],[104,97,115],[100,101,108]] then [[77,97,112],[65,110,121]]
 else if n=[112,117,116] then [[77,97,112],[65,110,121],[65,110,121]]
 else if n∈[[107,101,121,115],[115,105,122,101]] then [[77,97,112]]
 else if n=[105,115] then [[65,110,121],[84,101,120,116]]
 else [[65,110,121]]
def aBe(n:aA):aA :=
 if n∈[[97,100,100],[115,117,98],[109,117,108],[100,105,118],[109,111,100],[110,101,103],[108,101,110,103,116,104],[115,105,122,101]] then [73,110,116]
 else if n∈[[99,97,116],[116,101,120,116]] then [84,101,120,116]
 else if n∈[[106,111,105,110],[107,101,121,115]] then [76,105,115,116]
 else if n∈[[112,117,116],[100,101,108]] then [77,97,112]
 else if n∈[[112,105,99,107],[103,101,116]] then [65,110,121]
 else [66,111,111,108]
def bOp(n:aA):Opr:=⟨n,zK n,aBe n,[],0,0,[]⟩
def gD(sg:Sig)(n:aA):Opr × Bool × Bool:=match dA sg.ops n with
 | some o=>(o,false,true)
 | none=>match dA sg.funs n with
  | some o=>(o,true,true)
  | none=>if n∈fX then(bOp n,true,true) else(kX,true,false)
def lT(sg:Sig)(t:Tm):aA :=
 if t.kind=1 then [73,110,116] else if t.kind=2 then [66,111,111,108] else if t.kind=3 then [84,101,120,116] else if t.kind=4 then [73,100] else if t.kind=7 then [76,105,115,116] else if t.kind=8 then [77,97,112]
 else if t.kind=5 then(gD sg t.text).1.sort else if cD sg t.sort=true then t.sort else []
def nK(sg:Sig):List Tm->List aA->Bool
 | t::r,a::l=>mS sg (lT sg t) a&&nK sg r l
 | _,_=>true
def aEG(sg:Sig)(t:Tm):Bool:=if t.kind=6 then cD sg t.sort else if t.kind=5 then
  (gD sg t.text).2.2&&(decide ((gD sg t.text).1.args.length=t.kids.length)&&nK sg t.kids (gD sg t.text).1.args) else true
mutual
def eB(sg:Sig):Tm->Bool
 | .mk k n x y ks rs=>aEH sg ks&&aEG sg (.mk k n x y ks rs)
def aEH(sg:Sig):List Tm->Bool
 | []=>true
 | t::r=>eB sg t&&aEH sg r
end
mutual
def Tm.pre:Tm->List Tm
 | .mk k n x y ks rs=>.mk k n x y ks rs::(aP ks++aP rs)
def aP:List Tm->List Tm
 | []=>[]
 | t::r=>t.pre++aP r
end
theorem fP(t:Tm):t.pre=t::aP (t.kids++t.rest):=by
 have h:∀a b:List Tm,aP (a++b)=aP a++aP b:=by
  intro a b
  induction a with
  | nil=>rfl
  | cons x r u=>simp only[bL,aP,u,dO]
 cases t;simp only[Tm.pre,Tm.kids,Tm.rest,h]
theorem aLD(sg:Sig)(t:Tm):eB sg t=(t.kids.all (eB sg)&&aEG sg t):=by
 have h:∀l:List Tm,aEH sg l=l.all (eB sg):=by
  intro l
  induction l with
  | nil=>rfl
  | cons x r u=>simp only[aEH,u,eG]
 cases t;simp only[eB,h,Tm.kids]
def hZ(l:List Tm):List aA:=((aP l).filter λt=>decide (t.kind=6)).map Tm.text
def lH(l:List Tm):List aA:=kY (hZ l)
def nI:List (aA × aA)->aA->Option aA
 | [],_=>none
 | (a,b)::r,x=>if a=x then some b else nI r x
def tV(st:List (aA × aA) × aA)(x:Tm):List (aA × aA) × aA :=
 if x.kind=6/\x.text≠[95] then
  match nI st.1 x.text with
  | some h=>if h≠x.sort/\(st.2=[]\/Go.Op.bytesLess x.text st.2=true) then(st.1,x.text) else st
  | none=>(st.1++[(x.text,x.sort)],st.2)
 else st
def pM(l:List Tm):aA:=((aP l).foldl tV ([],[])).2
def yY(sg:Sig)(x:Tm):Bool:=decide (x.kind=5)&&(gD sg x.text).2.1
def pD(sg:Sig)(t:Tm):Bool:=t.pre.any (yY sg)
def wZ(t:Tm):Bool:=decide (t.kind=1)||(decide (t.kind=3)||decide (t.kind=4))
def vL(k:Tm):Bool:=wZ k||(decide (k.kind=6)&&!decide (k.text=[95]))
def mG:List Tm->List Tm
 | []=>[]
 | [x]=>[x]
 | x::_::r=>x::mG r
def zO(x:Tm):Bool:=!(decide (x.kind=6)&&decide (x.text=[36]))&&(!decide (x.kind=8)||(mG x.kids).all vL)
def mC(sg:Sig)(p:Tm):Bool:=(Tm.val 60 p 0).isSome&&(eB sg p&&(!pD sg p&&(decide (pM [p]=[])&&p.pre.all zO)))
def aH(a b:Option Fault):Option Fault:=match a with
 | none=>b
 | some f=>some f
def bO{α:Type}(f:α->Option Fault):List α->Option Fault
 | []=>none
 | x::r=>aH (f x) (bO f r)
def bC(b:Bool)(f:Fault):Option Fault:=if b=true then some f else none
def lG(sg:Sig)(n:aA)(l c:Int)(ts:List Tm):Option Fault:=bC (!ts.all (eB sg)) ⟨16,n,l,c⟩
def jL(sg:Sig)(n:aA)(l c:Int)(t:Tm)(S:aA):Option Fault:=bC (!mS sg (lT sg t) S) ⟨16,n,l,c⟩
def vM(l c:Int)(ts:List Tm):Option Fault:=bC (!decide (pM ts=[])) ⟨16,pM ts,l,c⟩
def tO(l c:Int)(lefts ts:List Tm):Option Fault:=bO (λs=>bC (decide (s=[95])||(decide (s=[36])||!decide (s∈hZ lefts))) ⟨17,s,l,c⟩) (lH ts)
def lE(x:Eqn):aA:=if x.left.kind=5\/x.left.kind=6 then x.left.text else []
def xR(sg:Sig)(x:Eqn):Option Fault :=
 if x.left.kind=5 then match dA sg.funs x.left.text with
  | none=>some ⟨15,lE x,x.line,x.col⟩
  | some f =>
   aH (lG sg (lE x) x.line x.col (x.left::x.right::x.cond))
   (aH (bC (x.left.kids.any (pD sg)) ⟨16,lE x,x.line,x.col⟩)
   (aH (bC (!x.left.kids.all (mC sg)) ⟨16,lE x,x.line,x.col⟩)
   (aH (vM x.line x.col (x.right::x.cond++[x.left]))
   (aH (tO x.line x.col [x.left] (x.right::x.cond))
   (aH (bO (λt=>jL sg (lE x) x.line x.col t [66,111,111,108]) x.cond)
   (jL sg (lE x) x.line x.col x.right f.sort))))))
 else some ⟨15,lE x,x.line,x.col⟩
def xQ(sg:Sig)(h:List aA)(x:Cel):Option Fault :=
 aH (if x.name∈h then some ⟨14,x.name,x.line,x.col⟩ else bC (!cD sg x.sort) ⟨13,x.name,x.line,x.col⟩)
 (aH (lG sg x.name x.line x.col [x.init]) (aH (jL sg x.name x.line x.col x.init x.sort)
 (bO (λs=>bC (!decide (s=[36])) ⟨17,s,x.line,x.col⟩) (lH [x.init]))))
def mR(sg:Sig):List aA->List Cel->Option Fault
 | _,[]=>none
 | h,x::r=>aH (xQ sg h x) (mR sg (h++[x.name]) r)
def cP(d:Dfn)(n:aA):aA × Bool × Bool:=match d.once.find? λx=>decide (x.name=n)with
 | some x=>(x.sort,false,true)
 | none=>match d.many.find? λx=>decide (x.name=n)with
  | some x=>(x.sort,true,true)
  | none=>([],false,false)
def xD(d:Dfn):Option Fault :=
 aH (bC (!cD d.sig d.start) ⟨13,d.start,0,0⟩)
 (aH (bC (!(cP d d.watch).2.2||(cP d d.watch).2.1) ⟨13,d.watch,0,0⟩)
 (aH (bC (!(decide (d.kind=[]) == decide (d.many.length=0))) ⟨15,d.kind,0,0⟩)
 (aH (bO (λo:Opr=>bC (decide (0<o.strict.length)&&(!(cP d [107]).2.2||!decide ((cP d [107]).1=[76,105,115,116]))) ⟨13,[107],0,0⟩) d.sig.ops)
 (bO (λo:Opr=>bC (decide (0<o.strict.length)&&uT d.sig o.sort) ⟨16,o.name,0,0⟩) d.sig.ops))))
def zN(d:Dfn)(h:List Part)(x:Part):Option Fault :=
 if(cP d x.cell).2.2=false then some ⟨13,x.cell,x.line,x.col⟩
 else if(cP d x.cell).2.1≠!decide (x.at_=[]) then some ⟨15,x.cell,x.line,x.col⟩
 else if(h.any λy=>decide (y.cell=x.cell)&&decide (y.at_=x.at_))=true then some ⟨14,x.cell,x.line,x.col⟩
 else if mC d.sig x.left=false\/1<x.right.length then some ⟨16,x.cell,x.line,x.col⟩
 else aH (lG d.sig x.cell x.line x.col x.right) (bO (λt=>jL d.sig x.cell x.line x.col t (cP d x.cell).1) (x.left::x.right))
def xC(d:Dfn):List Part->List Part->Option Fault
 | _,[]=>none
 | h,x::r=>aH (zN d h x) (xC d (h++[x]) r)
def rH(d:Dfn)(n:aA)(l c:Int):List Tm->List Cel->Option Fault
 | t::r,x::m=>aH (lG d.sig n l c [t]) (aH (jL d.sig n l c t x.sort) (rH d n l c r m))
 | _,_=>none
def mF(l c:Int):List aA->List aA->Option Fault
 | _,[]=>none
 | h,s::r=>aH (bC (decide (s∈h)) ⟨14,s,l,c⟩) (mF l c (h++[s]) r)
def tY(d:Dfn)(r:Rul):Option Fault :=
 aH (bO (λx:Fresh=>bC (decide (d.kind=[])||!decide (x.cells.length=d.many.length)) ⟨15,r.name,r.line,r.col⟩) r.new)
 (aH (bO (λx:Fresh=>rH d r.name r.line r.col x.cells d.many) r.new)
 (aH (bO (λs=>bC (!r.parts.any λx=>decide (x.at_=s)) ⟨13,s,r.line,r.col⟩) r.drop)
 (mF r.line r.col [] r.drop)))
def fH(r:Rul):List Tm:=r.parts.map Part.left
def dL(r:Rul):List Tm:=r.parts.flatMap Part.right++r.cond++r.new.flatMap Fresh.cells
def zP(d:Dfn)(h:List aA)(r:Rul):Option Fault :=
 if r.name∈h then some ⟨14,r.name,r.line,r.col⟩
 else if r.parts=[] then some ⟨15,r.name,r.line,r.col⟩
 else aH (xC d [] r.parts) (aH (vM r.line r.col (fH r++dL r)) (aH (tO r.line r.col (fH r) (dL r))
  (aH (bO (λt=>aH (lG d.sig r.name r.line r.col [t]) (jL d.sig r.name r.line r.col t [66,111,111,108])) r.cond) (tY d r))))
def tU(d:Dfn):List aA->List Rul->Option Fault
 | _,[]=>none
 | h,r::l=>aH (zP d h r) (tU d (h++[r.name]) l)
def dH(x:Eqn):List Tm:=x.left::x.right::x.cond
def fD(r:Rul):List Tm:=r.parts.flatMap (λp=>p.left::p.right)++(r.cond++r.new.flatMap Fresh.cells)
def bZ(d:Dfn):List Tm:=d.eqs.flatMap dH++((d.once++d.many).map Cel.init++d.rules.flatMap fD)
def mK(r:Rul):List aA:=r.name::r.drop++(r.parts.map Part.at_).filter λx=>!decide (x=[])
def gE(d:Dfn):List aA:=[d.name,d.start,d.watch]++((if d.kind=[] then [] else [d.kind])++((d.once++d.many).map Cel.name++d.rules.flatMap mK))
def pE(d:Dfn):Bool :=
 !decide (12<d.once.length)&&(!decide (12<d.many.length)&&(!decide (300<d.rules.length)&&(!decide (300<d.eqs.length) &&
 ((d.eqs.all λx=>!decide (20<x.cond.length))&&((d.rules.all λr=>decide (r.parts.length<=20)&&(decide (r.cond.length<=20)&&(decide (r.new.length<=20)&&decide (r.drop.length<=20)))) &&
 ((gE d).all cA&&(bZ d).all λt=>(Tm.val 60 t 0).isSome))))))
def tP(d:Dfn):Option Fault :=
 if pE d=false then some ⟨2,[],0,0⟩
 else if qN d.sig=false then some ⟨16,[],0,0⟩
 else aH (bO (xR d.sig) d.eqs) (aH (mR d.sig [] (d.once++d.many)) (aH (xD d) (tU d [] d.rules)))
def vA(d:Dfn):Fault:=(tP d).getD Fault.none
def gU(d:Dfn):Bool:=decide ((vA d).code=0)
theorem wH{α:Type}{u:List (List α)}{i:Nat}{a:List α}(h:u[i]?=some a):(u.take (i+1)).flatten=(u.take i).flatten++a/\(u.take (i+1)).flatten.length<=u.flatten.length:=by
 refine⟨by rw[fL,h];simp,?_⟩;have:u.flatten.length=((u.take (i+1)).flatten++(u.drop (i+1)).flatten).length:=by rw[<-List.flatten_append,lA]
 rw[this,aG];omega
instance : Inhabited Tm := ⟨.mk 0 0 [] [] [] []⟩
instance : Inhabited Opr := ⟨kX⟩
instance : Inhabited Cel := ⟨⟨[],[],default,0,0⟩⟩
theorem aQv(n:Nat)(M:n<=4294967296)(s:St)(KV Kp:St->A->Prop)(z:∀tk,(∀t,tk=some t->s.getT t=none)->KV (gs s tk 0 9) (gv tk [])):Den cx 129 [.nils,.int .i64 (n:Nat)] KV Kp s:=by
 have B:decide ((n:Int)<0)=false:=by rw[eF];omega
 have H:IntKind.i64.wrap ((n:Int)-IntKind.i64.wrap (0-0))=(n:Int):=by rw[show IntKind.i64.wrap (0-0)=0 by decide,gT _ aB aB];omega
 (refine aO func129 [0,1,4,6,16] ?_;simp only[go_sem,ntmps129,f129]);simp only[go_sem,B];rw[H];cases n with
 | zero =>
  have y:decide ((0:Int)<((0:Nat):Int))=false:=by decide
  simp only[go_sem,y];exact aS (z none (λt h=>by cases h))
 | succ n =>
  have y:decide ((0:Int)<((n+1:Nat):Int))=true:=by rw[bR];omega
  simp only[go_sem,y,rN];refine⟨⟨by omega,by omega,by decide⟩,λt G=>?_⟩;simp only[go_sem];exact aS (z (some t) (λu h=>by cases h;exact G))
theorem aPr(G:List (List aA))(hn:G.flatten.length<=4294967296)(s:St)(KV Kp:St->A->Prop)(hk:KV s (.list none (G.flatten.map A.str))):Den cx 72 [.list none (G.map λl=>.list none (l.map A.str))] KV Kp s:=by
 refine gC λb0=>?_
 have Y:=b0 _ (bY ..);clear b0;(refine aO func72 rR ?_;simp only[go_sem,ntmps72,f72])
 refine Ex.loop (ι:=Nat) (λi=>[(0,.list none (G.map λl=>.list none (l.map A.str))),(3,.int .i64 ((G.take i).flatten.length:Nat)),(9,.list none (G.map λl=>.list none (l.map A.str))),(10,.int .i64 (G.length:Nat)),(11,.int .i64 (i:Nat))])
  (λ_=>s) (λi=>i<=G.length) (λi=>G.length-i) 0 (aN _) ?_ (aC _) ?_
 .simp only[go_sem];exact⟨rfl,rfl⟩
 .intro i hi;refine aQ (V:=rR) _ _ _ _ ?_;simp only[go_sem]
  (apply aI<;>intro h)<;>simp only[go_sem,h]
  .have B:i<G.length:=gQ h;clear h;obtain⟨a,S⟩:=aU B;obtain⟨O,M⟩:=wH S
   have w2:IntKind.i64.wrap (((G.take i).flatten.length:Int)+(a.length:Int))=(((G.take (i+1)).flatten.length:Nat):Int):=by
    rw[O,aG,gT _ aB (by rw[O,aG]at M;omega)];omega
   have d0:decide ((((G.take (i+1)).flatten.length:Nat):Int)<0)=false:=by rw[eF];omega
   simp only[go_sem,S,B,w2,d0];exact⟨i+1,B,by omega,⟨rfl,Y.wrap (i:=i) (gQ B)⟩,aC _⟩
  .have B:i=G.length:=by have:¬ i<G.length:=gQ h;omega
   subst B;clear h;rw[bK];refine aQv _ hn _ _ _ (λtk U=>?_);simp only[go_sem];clear hi
   refine Ex.loop (ι:=Nat × Option Nat) (λk=>[(6,gv k.2 ((G.take k.1).flatten.map A.str)),(25,.list none (G.map λl=>.list none (l.map A.str))),(26,.int .i64 (G.length:Nat)),(27,.int .i64 (k.1:Nat))])
    (λk=>gs s k.2 (G.take k.1).flatten.length 9) (λk=>k.1<=G.length/\(k.2=none->(G.take k.1).flatten=[])/\∀t,k.2=some t->s.getT t=none) (λk=>G.length-k.1) (0,tk) ⟨aN _,λ_=>rfl,U⟩ ?_ (aC _) ?_
   .simp only[go_sem];exact⟨by cases tk<;>rfl,rfl⟩
   .rintro⟨i,tk⟩ ⟨hi,H,U⟩;simp only at hi H U;refine aQ (V:=rR) _ _ _ _ ?_;simp only[go_sem]
    (apply aI<;>intro h)<;>simp only[go_sem,h]
    .have B:i<G.length:=gQ h;clear h;obtain⟨a,S⟩:=aU B;obtain⟨O,M⟩:=wH S
     have hz:∀(l:List aA) (y:A),y∈l.map A.str->y.cells.length=(A.cells (A.str default)).length:=λl y Z=>by
      obtain⟨z,_,rfl⟩:=cW.1 Z
      first|rfl|(simp only[fZ];rfl)
     simp only[go_sem,S,B];refine⟨by decide,λy Z=>hz a y Z,fJ rfl rfl (by rw[aW];exact iS λe=>by rw[H e];rfl) (λy Z=>hz _ y Z) (by rw[O,aG]at M;simp only[aW];omega) (λu hu=>?_)⟩;have b1:=kB hu U;rw[kF hu];simp only[go_sem];refine⟨(i+1,some u),⟨B,λh=>(by cases h),λt h=>by cases h;exact b1⟩,bD,⟨?_,Y.wrap (i:=i) (gQ B)⟩,?_⟩
     .rw[O,cB];rfl
     .rw[O];simp only[gs,aW,aG];exact aC _
    .have B:i=G.length:=by have:¬ i<G.length:=gQ h;omega
     subst B;rw[bK]at H⊢;exact DK.mk hk (eJ (aC _) U) (nM _ _ (λe=>by rw[H e];rfl))
theorem aQx(n:Nat)(M:n<=4294967296)(s:St)(KV Kp:St->A->Prop)(z:∀tk,(∀t,tk=some t->s.getT t=none)->KV (gs s tk 0 67) (gv tk [])):Den cx 145 [.nils,.int .i64 (n:Nat)] KV Kp s:=by
 have B:decide ((n:Int)<0)=false:=by rw[eF];omega
 have H:IntKind.i64.wrap ((n:Int)-IntKind.i64.wrap (0-0))=(n:Int):=by rw[show IntKind.i64.wrap (0-0)=0 by decide,gT _ aB aB];omega
 (refine aO func145 [0,1,4,6,16] ?_;simp only[go_sem,ntmps145,f145]);simp only[go_sem,B];rw[H];cases n with
 | zero =>
  have y:decide ((0:Int)<((0:Nat):Int))=false:=by decide
  simp only[go_sem,y];exact aS (z none (λt h=>by cases h))
 | succ n =>
  have y:decide ((0:Int)<((n+1:Nat):Int))=true:=by rw[bR];omega
  simp only[go_sem,y,rN];refine⟨⟨by omega,by omega,by decide⟩,λt G=>?_⟩;simp only[go_sem];exact aS (z (some t) (λu h=>by cases h;exact G))
theorem aI3(G:List (List Tm))(hn:G.flatten.length<=4294967296)(s:St)(KV Kp:St->A->Prop)(hk:KV s (.list none (G.flatten.map Tm.enc))):Den cx 85 [.list none (G.map λl=>.list none (l.map Tm.enc))] KV Kp s:=by
 refine gC λb0=>?_
 have Y:=b0 _ (bY ..);clear b0;(refine aO func85 rR ?_;simp only[go_sem,ntmps85,f85])
 refine Ex.loop (ι:=Nat) (λi=>[(0,.list none (G.map λl=>.list none (l.map Tm.enc))),(3,.int .i64 ((G.take i).flatten.length:Nat)),(9,.list none (G.map λl=>.list none (l.map Tm.enc))),(10,.int .i64 (G.length:Nat)),(11,.int .i64 (i:Nat))])
  (λ_=>s) (λi=>i<=G.length) (λi=>G.length-i) 0 (aN _) ?_ (aC _) ?_
 .simp only[go_sem];exact⟨rfl,rfl⟩
 .intro i hi;refine aQ (V:=rR) _ _ _ _ ?_;simp only[go_sem]
  (apply aI<;>intro h)<;>simp only[go_sem,h]
  .have B:i<G.length:=gQ h;clear h;obtain⟨a,S⟩:=aU B;obtain⟨O,M⟩:=wH S
   have w2:IntKind.i64.wrap (((G.take i).flatten.length:Int)+(a.length:Int))=(((G.take (i+1)).flatten.length:Nat):Int):=by
    rw[O,aG,gT _ aB (by rw[O,aG]at M;omega)];omega
   have d0:decide ((((G.take (i+1)).flatten.length:Nat):Int)<0)=false:=by rw[eF];omega
   simp only[go_sem,S,B,w2,d0];exact⟨i+1,B,by omega,⟨rfl,Y.wrap (i:=i) (gQ B)⟩,aC _⟩
  .have B:i=G.length:=by have:¬ i<G.length:=gQ h;omega
   subst B;clear h;rw[bK];refine aQx _ hn _ _ _ (λtk U=>?_);simp only[go_sem];clear hi
   refine Ex.loop (ι:=Nat × Option Nat) (λk=>[(6,gv k.2 ((G.take k.1).flatten.map Tm.enc)),(25,.list none (G.map λl=>.list none (l.map Tm.enc))),(26,.int .i64 (G.length:Nat)),(27,.int .i64 (k.1:Nat))])
    (λk=>gs s k.2 (G.take k.1).flatten.length 67) (λk=>k.1<=G.length/\(k.2=none->(G.take k.1).flatten=[])/\∀t,k.2=some t->s.getT t=none) (λk=>G.length-k.1) (0,tk) ⟨aN _,λ_=>rfl,U⟩ ?_ (aC _) ?_
   .simp only[go_sem];exact⟨by cases tk<;>rfl,rfl⟩
   .rintro⟨i,tk⟩ ⟨hi,H,U⟩;simp only at hi H U;refine aQ (V:=rR) _ _ _ _ ?_;simp only[go_sem]
    (apply aI<;>intro h)<;>simp only[go_sem,h]
    .have B:i<G.length:=gQ h;clear h;obtain⟨a,S⟩:=aU B;obtain⟨O,M⟩:=wH S
     have hz:∀(l:List Tm) (y:A),y∈l.map Tm.enc->y.cells.length=(A.cells (Tm.enc default)).length:=λl y Z=>by
      obtain⟨z,_,rfl⟩:=cW.1 Z
      first|rfl|(simp only[fZ];rfl)
     simp only[go_sem,S,B];refine⟨by decide,λy Z=>hz a y Z,fJ rfl rfl (by rw[aW];exact iS λe=>by rw[H e];rfl) (λy Z=>hz _ y Z) (by rw[O,aG]at M;simp only[aW];omega) (λu hu=>?_)⟩;have b1:=kB hu U;rw[kF hu];simp only[go_sem];refine⟨(i+1,some u),⟨B,λh=>(by cases h),λt h=>by cases h;exact b1⟩,bD,⟨?_,Y.wrap (i:=i) (gQ B)⟩,?_⟩
     .rw[O,cB];rfl
     .rw[O];simp only[gs,aW,aG];exact aC _
    .have B:i=G.length:=by have:¬ i<G.length:=gQ h;omega
     subst B;rw[bK]at H⊢;exact DK.mk hk (eJ (aC _) U) (nM _ _ (λe=>by rw[H e];rfl))
theorem aQw(n:Nat)(M:n<=4294967296)(s:St)(KV Kp:St->A->Prop)(z:∀tk,(∀t,tk=some t->s.getT t=none)->KV (gs s tk 0 96) (gv tk [])):Den cx 139 [.nils,.int .i64 (n:Nat)] KV Kp s:=by
 have B:decide ((n:Int)<0)=false:=by rw[eF];omega
 have H:IntKind.i64.wrap ((n:Int)-IntKind.i64.wrap (0-0))=(n:Int):=by rw[show IntKind.i64.wrap (0-0)=0 by decide,gT _ aB aB];omega
 (refine aO func139 [0,1,4,6,16] ?_;simp only[go_sem,ntmps139,f139]);simp only[go_sem,B];rw[H];cases n with
 | zero =>
  have y:decide ((0:Int)<((0:Nat):Int))=false:=by decide
  simp only[go_sem,y];exact aS (z none (λt h=>by cases h))
 | succ n =>
  have y:decide ((0:Int)<((n+1:Nat):Int))=true:=by rw[bR];omega
  simp only[go_sem,y,rN];refine⟨⟨by omega,by omega,by decide⟩,λt G=>?_⟩;simp only[go_sem];exact aS (z (some t) (λu h=>by cases h;exact G))
theorem aGb(G:List (List Cel))(hn:G.flatten.length<=4294967296)(s:St)(KV Kp:St->A->Prop)(hk:KV s (.list none (G.flatten.map Cel.enc))):Den cx 80 [.list none (G.map λl=>.list none (l.map Cel.enc))] KV Kp s:=by
 refine gC λb0=>?_
 have Y:=b0 _ (bY ..);clear b0;(refine aO func80 rR ?_;simp only[go_sem,ntmps80,f80])
 refine Ex.loop (ι:=Nat) (λi=>[(0,.list none (G.map λl=>.list none (l.map Cel.enc))),(3,.int .i64 ((G.take i).flatten.length:Nat)),(9,.list none (G.map λl=>.list none (l.map Cel.enc))),(10,.int .i64 (G.length:Nat)),(11,.int .i64 (i:Nat))])
  (λ_=>s) (λi=>i<=G.length) (λi=>G.length-i) 0 (aN _) ?_ (aC _) ?_
 .simp only[go_sem];exact⟨rfl,rfl⟩
 .intro i hi;refine aQ (V:=rR) _ _ _ _ ?_;simp only[go_sem]
  (apply aI<;>intro h)<;>simp only[go_sem,h]
  .have B:i<G.length:=gQ h;clear h;obtain⟨a,S⟩:=aU B;obtain⟨O,M⟩:=wH S
   have w2:IntKind.i64.wrap (((G.take i).flatten.length:Int)+(a.length:Int))=(((G.take (i+1)).flatten.length:Nat):Int):=by
    rw[O,aG,gT _ aB (by rw[O,aG]at M;omega)];omega
   have d0:decide ((((G.take (i+1)).flatten.length:Nat):Int)<0)=false:=by rw[eF];omega
   simp only[go_sem,S,B,w2,d0];exact⟨i+1,B,by omega,⟨rfl,Y.wrap (i:=i) (gQ B)⟩,aC _⟩
  .have B:i=G.length:=by have:¬ i<G.length:=gQ h;omega
   subst B;clear h;rw[bK];refine aQw _ hn _ _ _ (λtk U=>?_);simp only[go_sem];clear hi
   refine Ex.loop (ι:=Nat × Option Nat) (λk=>[(6,gv k.2 ((G.take k.1).flatten.map Cel.enc)),(25,.list none (G.map λl=>.list none (l.map Cel.enc))),(26,.int .i64 (G.length:Nat)),(27,.int .i64 (k.1:Nat))])
    (λk=>gs s k.2 (G.take k.1).flatten.length 96) (λk=>k.1<=G.length/\(k.2=none->(G.take k.1).flatten=[])/\∀t,k.2=some t->s.getT t=none) (λk=>G.length-k.1) (0,tk) ⟨aN _,λ_=>rfl,U⟩ ?_ (aC _) ?_
   .simp only[go_sem];exact⟨by cases tk<;>rfl,rfl⟩
   .rintro⟨i,tk⟩ ⟨hi,H,U⟩;simp only at hi H U;refine aQ (V:=rR) _ _ _ _ ?_;simp only[go_sem]
    (apply aI<;>intro h)<;>simp only[go_sem,h]
    .have B:i<G.length:=gQ h;clear h;obtain⟨a,S⟩:=aU B;obtain⟨O,M⟩:=wH S
     have hz:∀(l:List Cel) (y:A),y∈l.map Cel.enc->y.cells.length=(A.cells (Cel.enc default)).length:=λl y Z=>by
      obtain⟨z,_,rfl⟩:=cW.1 Z
      first|rfl|(simp only[fZ];rfl)
     simp only[go_sem,S,B];refine⟨by decide,λy Z=>hz a y Z,fJ rfl rfl (by rw[aW];exact iS λe=>by rw[H e];rfl) (λy Z=>hz _ y Z) (by rw[O,aG]at M;simp only[aW];omega) (λu hu=>?_)⟩;have b1:=kB hu U;rw[kF hu];simp only[go_sem];refine⟨(i+1,some u),⟨B,λh=>(by cases h),λt h=>by cases h;exact b1⟩,bD,⟨?_,Y.wrap (i:=i) (gQ B)⟩,?_⟩
     .rw[O,cB];rfl
     .rw[O];simp only[gs,aW,aG];exact aC _
    .have B:i=G.length:=by have:¬ i<G.length:=gQ h;omega
     subst B;rw[bK]at H⊢;exact DK.mk hk (eJ (aC _) U) (nM _ _ (λe=>by rw[H e];rfl))
theorem aI2{x:aA}{out:List aA}{b:Below}{i:Nat}{y:aA}(h:out[i]?=some y):(iE x out b)[i]?=some y:=by
 unfold iE;split
 .rw[jT (cX.1 h).1];exact h
 .exact h
def oM(h:List Below)(out:List aA):Nat:=h.countP λb=>decide (b.high∈out)
theorem aD9(h:List Below)(out:List aA):oM h out<=h.length:=List.countP_le_length
theorem aKN(out:List aA)(h:aA):∀u:List Below,oM u out<=oM u (out++[h])
 | []=>bF _
 | c::r=>by
  have B:=aKN out h r;simp only[oM,List.countP_cons,bT,bS,bR]at B⊢;split<;>split<;>first|omega|(rename_i y z;exact cG (Or.inl y) z)
theorem aLA(out:List aA)(h:aA)(B:h ∉ out):∀(y:List Below) (b:Below),b∈y->b.high=h->oM y out+1<=oM y (out++[h])
 | [],b,u,_=>by cases u
 | c::r,b,u,z=>by
  have O:=aKN out h r;have G:=λu=>aLA out h B r b u z
  simp only[oM,List.countP_cons,bT,bS,bR]at G O⊢;rcases List.mem_cons.1 u with rfl|u
  .rw[aE (by rw[z];exact B),aF (.inr z)];omega
  .have:=G u;split<;>split<;>first|omega|(rename_i H M;exact cG (Or.inl H) M)
theorem aGa{u:List Below}{x:aA}{out:List aA}{b:Below}(y:b∈u)(h:out.length<=1+oM u out):(iE x out b).length<=1+oM u (iE x out b):=by
 unfold iE;split
 .rename_i z;have:=aLA out b.high z.2 u b y rfl;rw[aG,rB];omega
 .exact h
theorem aIX{u:List Below}{x:aA}{out:List aA}{j:Nat}{b:Below}(h:u[j]?=some b):(u.take (j+1)).foldl (iE x) out=iE x ((u.take j).foldl (iE x) out) b:=by
 rw[fL,h];simp[lW]
theorem aKn{u:List Below}{x:aA}{out:List aA}(h:out.length<=1+oM u out):∀l:List Below,(∀b,b∈l->b∈u)->(l.foldl (iE x) out).length<=1+oM u (l.foldl (iE x) out)
 | l,hl=>by
  induction l generalizing out with
  | nil=>exact h
  | cons b r z=>exact z (aGa (hl b (bY ..)) h) (λc y=>hl c (cZ _ y))
theorem aKm(h:List Below)(f:Nat)(out:List aA):wX h f out.length out=out:=by
 cases f with
 | zero=>rfl
 | succ f=>simp only[wX,List.getElem?_eq_none_iff.2 (bF _)]
theorem eI{l:List aA}{y:A}(h:y∈l.map A.str):y.cells.length=1:=by
 obtain⟨z,_,rfl⟩:=cW.1 h;rfl
theorem oI(s:St)(t:Nat)(v w:Nat × TypeId):(s.setT t v).setT t w=s.setT t w:=by simp only[St.setT,aAW]
theorem aQp(tk:Option Nat)(s:St)(l:List aA)(x:aA)(KV Kp:St->A->Prop)(h:KV s (.bool (decide (x∈l)))):Den cx 62 [.list tk (l.map .str),.str x] KV Kp s :=
 gL (show gO [.list tk (l.map .str),.str x] [.list none (l.map .str),.str x] from⟨A.le.forget _ _,cN _,trivial⟩) (qK s l x KV Kp h)
theorem aPU(sg:Sig)(a:aA)(hw:sg.below.length<=4294967000)(s:St)(KV Kp:St->A->Prop)(hk:KV s (strs (pH sg.below a))):Den cx 73 [.agg sg.cs,.str a] KV Kp s:=by
 (refine gBo func73 aBB ?_;simp only[go_sem,ntmps73,f73]);(refine aL λp M=>?_);simp only[go_sem];refine .inr λt b7=>?_
 refine Ex.loop (ι:=Nat × List aA) (λc=>[(2,.ptr p 0),(5,.list (some t) (c.2.map .str)),(6,.int .i64 (c.1:Nat))])
  (λc=>(s.setO p (.cells 26 sg.cs)).setT t (c.2.length,9))
  (λc=>c.1<=c.2.length/\c.2.length<=1+oM sg.below c.2/\∃f,f+c.1=sg.below.length+2/\wX sg.below f c.1 c.2=pH sg.below a) (λc=>sg.below.length+2-c.1) (0,[a]) ⟨aN _,by simp,_,rfl,rfl⟩ ?_ (by exact aC _) ?_
 .simp only[go_sem];exact rfl
 .rintro⟨i,out⟩ ⟨hi,b0,f,hf,O⟩;simp only at hi b0 hf O;have b8:=aD9 sg.below out;refine aQ (V:=aBB) _ _ _ _ ?_;simp only[go_sem,M]
  (apply aI<;>intro h)<;>simp only[go_sem,h,M]
  .have b5:i<out.length:=gQ h;clear h;obtain⟨x,hx⟩:=aU b5;obtain⟨f,rfl⟩:∃f',f=f'+1:=⟨f-1,by omega⟩
   simp only[wX,hx]at O
   refine Ex.loop (ι:=Nat × List aA) (λc=>[(2,.ptr p 0),(5,.list (some t) (c.2.map .str)),(6,.int .i64 (i:Nat)),(18,.list none (sg.below.map Below.enc)),(19,.int .i64 (sg.below.length:Nat)),(20,.int .i64 (c.1:Nat))])
    (λc=>(s.setO p (.cells 26 sg.cs)).setT t (c.2.length,9))
    (λc=>c.1<=sg.below.length/\c.2=(sg.below.take c.1).foldl (iE x) out/\c.2[i]?=some x/\c.2.length<=1+oM sg.below c.2) (λc=>sg.below.length-c.1) (0,out) ⟨aN _,rfl,hx,b0⟩ ?_ (by exact aC _) ?_
   .simp only[go_sem]
    try exact rfl
   .rintro⟨j,G⟩ ⟨hj,U,B,Y⟩;simp only at hj U B Y;have b9:=aD9 sg.below G;have b4:i<G.length:=(cX.1 B).1;refine aQ (V:=aBB) _ _ _ _ ?_;simp only[go_sem,M]
    (apply aI<;>intro h)<;>simp only[go_sem,h,M]
    .have z:j<sg.below.length:=gQ h;clear h;obtain⟨b,hb⟩:=aU z;have H:=aIX (x:=x) (out:=out) hb;rw[<-U]at H;have b2:b∈sg.below:=bA hb;have h4:=aGa (x:=x) b2 Y;have h3:=aI2 (x:=x) (b:=b) B;have w1:=aR j aB;simp only[go_sem,M,hb,z];(refine aL λq Z=>?_);simp only[qY,gD6,mT]at Z;simp only[go_sem,M,Z,hb,z,B];(refine bX (OT.r 0 14) [] ?_;simp only[go_sem,M,Z,hb,z,B]);refine⟨b4,?_⟩
     (apply aI<;>intro h)<;>simp only[go_sem,h,M,Z,hb,z,B]
     .have S:b.low=x:=gQ h;clear h;refine cU (aQp _ _ G b.high _ _ ?_);by_cases hm:b.high∈G
      .have d1:decide (b.high∈G)=true:=cF hm;simp only[go_sem,d1,M,Z,hb];have e1:iE x G b=G:=by unfold iE;rw[aE (λh=>h.2 hm)]
       rw[e1]at H;exact⟨(j+1,G),⟨z,H.symm,B,Y⟩,bD,⟨rfl,w1⟩,dV (eW (And.intro M Z))⟩
      .have d1:decide (b.high∈G)=false:=bN hm;have e1:iE x G b=G++[b.high]:=by unfold iE;rw[aF ⟨S,hm⟩]
       rw[e1]at H h3 h4;simp only[go_sem,d1,M,Z,hb];refine .inl ⟨by decide,λy hy=>by rw[bS.1 hy];rfl,λy hy=>eI hy,by omega,(j+1,G++[b.high]),⟨z,H.symm,h3,h4⟩,bD,⟨by rw[cB];rfl,w1⟩,?_⟩;rw[oI,show G.length+1=(G++[b.high]).length by simp];exact dV (eW (And.intro M Z))
     .have S:¬ b.low=x:=gQ h;clear h;have e1:iE x G b=G:=by unfold iE;rw[aE (λh=>S h.1)]
      rw[e1]at H;exact⟨(j+1,G),⟨z,H.symm,B,Y⟩,bD,⟨rfl,w1⟩,dV (eW (And.intro M Z))⟩
    .have b6:j=sg.below.length:=by have:¬ j<sg.below.length:=gQ h;omega
     subst b6;clear h;rw[bK]at U;subst U;have b1:=aKn (x:=x) b0 sg.below (λb h=>h);exact⟨(i+1,_),⟨bD,b1,f,bD,O⟩,bD,⟨rfl,aR i aB⟩,aC _⟩
  .have b3:i=out.length:=by have:¬ i<out.length:=gQ h;omega
   subst b3;rw[aKm]at O;subst O;exact DK.mk hk (eJ (tk:=some t) (aZ M (aC s)) (λu hu=>by cases hu;exact b7)) (A.le.forget _ _)
theorem aEe(k y:MK)(v:A):∀m:List (MK × A),iU k (lJ y v m)=if y=k then some v else iU k m
 | []=>by
  simp only[lJ,iU];by_cases h:k=y
  .rw[aF h,aF h.symm]
  .rw[aE h,aE (Ne.symm h)]
 | (q,w)::r=>by
  have z:=aEe k y v r;simp only[lJ];by_cases h:y=q
  .subst h;rw[aF rfl];simp only[iU];by_cases u:k=y
   .rw[aF u,aF u.symm]
   .rw[aE u,aE u,aE (Ne.symm u)]
  .rw[aE h];simp only[iU,z];by_cases u:k=q
   .subst u;rw[aF rfl,aE h,aF rfl]
   .rw[aE u,aE u]
theorem aJX(o:Opr)(x:aA):∀l:List Opr,dA (l++[o]) x=if o.name=x then some o else dA l x
 | []=>by simp only[bE,dA]
 | p::r=>by
  simp only[bL,dA,aJX o x r];by_cases h:o.name=x
  .simp only[aF h]
  .simp only[aE h]
theorem aJY{l:List Opr}{i:Nat}{o:Opr}(h:l[i]?=some o)(x:aA):dA (l.take (i+1)) x=if o.name=x then some o else dA (l.take i) x:=by
 rw[fL,h];exact aJX o x _
def BookAt(s:St)(r:Nat)(sg:Sig):Prop:=∃a o f h y u,s.getO r=some (.cells 123 (sg.cs++[.mp a,.mp o,.mp f]))/\s.getO a=some (.map 0 h)/\s.getO o=some (.map 0 y)/\s.getO f=some (.map 0 u) /\
 (∀x,iU (.str x) h=if x∈nH sg then some (strs (pH sg.below x)) else none)/\(∀x,iU (.str x) y=(dA sg.ops x).map Opr.enc)/\(∀x,iU (.str x) u=(dA sg.funs x).map Opr.enc)
theorem BookAt.ge{s s':St}{r:Nat}{sg:Sig}(h:BookAt s r sg)(u:s'.ge s):BookAt s' r sg:=by
 obtain⟨a,o,f,M,S,O,y,z,B,G,H⟩:=h;exact⟨a,o,f,M,S,O,u.ob _ _ y,u.ob _ _ z,u.ob _ _ B,u.ob _ _ G,H⟩
theorem aDL(sg:Sig)(hw:sg.below.length<=4294967000)(b6:sg.sorts.length<=4294967000)(s:St)(KV Kp:St->A->Prop)(hk:∀s' r,s'.ge s->BookAt s' r sg->KV s' (.ptr r 0)):Den cx 26 [.agg sg.cs] KV Kp s:=by
 refine gC λb2=>?_
 have b1:=b2 _ (bY ..);have b5:Rlz (.list none (sg.ops.map Opr.enc)):=b1.cell (by simp[Sig.cs]);have b4:Rlz (.list none (sg.funs.map Opr.enc)):=b1.cell (by simp[Sig.cs]);clear b2 b1;(refine aO func26 aFh ?_;simp only[go_sem,ntmps26,f26]);(refine aL λp z=>?_);simp only[go_sem,z];(refine aL λa B=>?_);simp only[go_sem,z,B];(refine aL λo G=>?_);simp only[go_sem,z,B,G];(refine aL λf H=>?_);simp only[go_sem,z,B,G,H];(refine aL λr M=>?_);simp only[go_sem,z,B,G,H,M];(refine bX (OT.l [1,2,6,0,3,4,5] .nil) [(0,[2])] ?_;simp only[go_sem,z,B,G,H,M]);refine aJf _ _ _ ?_;simp only[go_sem,z,B,G,H,M];refine aPr [kU,sg.sorts] (by simp only[lV,oW,cK,aG,kU,bB,bQ];omega) _ _ _ ?_;rw[show [kU,sg.sorts].flatten=nH sg by simp[nH]];simp only[go_sem,z,B,G,H,M];have b3:(nH sg).length<=4294967200:=by simp only[nH,kU,aG,bB,bQ];omega
 generalize hL:nH sg=L at b3⊢;have en:¬ a=r:=λe=>by subst e;simp at M
 refine Ex.loop (ι:=Nat × List (MK × A)) (λc=>[(1,.ptr p 0),(3,.ptr r 0),(20,.list none (L.map .str)),(21,.int .i64 (L.length:Nat)),(22,.int .i64 (c.1:Nat))])
  (λc=>((((s.setO p (.cells 26 sg.cs)).setO a (.map 0 c.2)).setO o (.map 0 [])).setO f (.map 0 [])).setO r (.cells 123 (sg.cs++[.mp a,.mp o,.mp f])))
  (λc=>c.1<=L.length/\∀x,iU (.str x) c.2=if x∈L.take c.1 then some (strs (pH sg.below x)) else none) (λc=>L.length-c.1) (0,[]) ⟨aN _,λx=>by simp[iU]⟩ ?_ (by simp only[Sig.cs,bL,bE];exact aC _) ?_
 .simp only[go_sem]
  try exact rfl
 .rintro⟨i,ma⟩ ⟨U,Y⟩;simp only at U Y;refine aQ (V:=aFh) _ _ _ _ ?_;simp only[go_sem,z,B,G,H,M]
  (apply aI<;>intro h)<;>simp only[go_sem,h,z,B,G,H,M]
  .have u:i<L.length:=gQ h;clear h;obtain⟨x,O⟩:=aU u;simp only[go_sem,z,B,G,H,M,O,u];(refine bX (OT.r 0 9) [(7,[3])] ?_;simp only[go_sem,z,B,G,H,M,O,u]);refine aPU sg x hw _ _ _ ?_;simp only[go_sem,z,B,G,H,M,O,u,strs];refine⟨(i+1,lJ (.str x) (strs (pH sg.below x)) ma),⟨u,λy=>?_⟩,bD,aR i aB,?_⟩;rotate_left
   .simp only[Sig.cs,bL,bE,strs];exact eE
   .rw[aEe,Y,fL,O];simp only[Option.toList,bT,bS];by_cases e:x=y
    .subst e;rw[aF rfl,aF (.inr rfl)];rfl
    .rw[aE (λh=>e (by injection h))];by_cases e2:y∈L.take i
     .rw[aF e2,aF (.inl e2)];rfl
     .rw[aE e2,aE (λh=>h.elim e2 (λh=>e h.symm))]
  .have S:i=L.length:=by have:¬ i<L.length:=gQ h;omega
   subst S;rw[bK]at Y
   refine Ex.loop (ι:=Nat × List (MK × A)) (λc=>[(1,.ptr p 0),(3,.ptr r 0),(36,.list none (sg.ops.map Opr.enc)),(37,.int .i64 (sg.ops.length:Nat)),(38,.int .i64 (c.1:Nat))])
    (λc=>((((s.setO p (.cells 26 sg.cs)).setO a (.map 0 ma)).setO o (.map 0 c.2)).setO f (.map 0 [])).setO r (.cells 123 (sg.cs++[.mp a,.mp o,.mp f])))
    (λc=>c.1<=sg.ops.length/\∀x,iU (.str x) c.2=(dA (sg.ops.take c.1) x).map Opr.enc) (λc=>sg.ops.length-c.1) (0,[]) ⟨aN _,λx=>by simp[iU,dA]⟩ ?_ (by simp only[Sig.cs,bL,bE];exact aC _) ?_
   .simp only[go_sem]
    try exact rfl
   .clear U h;rintro⟨i,mo⟩ ⟨U,b0⟩;simp only at U b0;refine aQ (V:=aFh) _ _ _ _ ?_;simp only[go_sem,z,B,G,H,M]
    (apply aI<;>intro h)<;>simp only[go_sem,h,z,B,G,H,M]
    .have u:i<sg.ops.length:=gQ h;clear h;obtain⟨x,O⟩:=aU u;simp only[go_sem,z,B,G,H,M,O,u];(refine aL λq hq=>?_);simp only[go_sem,z,B,G,H,M,O,u,hq];(refine bX (OT.r 0 8) [] ?_;simp only[go_sem,z,B,G,H,M,O,u,hq]);refine⟨(i+1,lJ (.str x.name) x.enc mo),⟨u,λy=>?_⟩,bD,b5.wrap (i:=i) (gQ u),?_⟩;rotate_left
     .simp only[Sig.cs,Opr.enc,Opr.cs,bL,bE];exact eE
     .rw[aEe,aJY O,b0];by_cases e:x.name=y
      .rw[aF e,aF (by rw[e])];rfl
      .rw[aE e,aE (λh=>e (by injection h))]
    .have S:=bI U h;subst S;rw[bK]at b0
     refine Ex.loop (ι:=Nat × List (MK × A)) (λc=>[(1,.ptr p 0),(3,.ptr r 0),(51,.list none (sg.funs.map Opr.enc)),(52,.int .i64 (sg.funs.length:Nat)),(53,.int .i64 (c.1:Nat))])
      (λc=>((((s.setO p (.cells 26 sg.cs)).setO a (.map 0 ma)).setO o (.map 0 mo)).setO f (.map 0 c.2)).setO r (.cells 123 (sg.cs++[.mp a,.mp o,.mp f])))
      (λc=>c.1<=sg.funs.length/\∀x,iU (.str x) c.2=(dA (sg.funs.take c.1) x).map Opr.enc) (λc=>sg.funs.length-c.1) (0,[]) ⟨aN _,λx=>by simp[iU,dA]⟩ ?_ (by simp only[Sig.cs,bL,bE];exact aC _) ?_
     .simp only[go_sem]
      try exact rfl
     .clear U h;rintro⟨i,mf⟩ ⟨U,Z⟩;simp only at U Z;refine aQ (V:=aFh) _ _ _ _ ?_;simp only[go_sem,z,B,G,H,M]
      (apply aI<;>intro h)<;>simp only[go_sem,h,z,B,G,H,M]
      .have u:i<sg.funs.length:=gQ h;clear h;obtain⟨x,O⟩:=aU u;simp only[go_sem,z,B,G,H,M,O,u];(refine aL λq hq=>?_);simp only[go_sem,z,B,G,H,M,O,u,hq];(refine bX (OT.r 0 8) [] ?_;simp only[go_sem,z,B,G,H,M,O,u,hq]);refine⟨(i+1,lJ (.str x.name) x.enc mf),⟨u,λy=>?_⟩,bD,b4.wrap (i:=i) (gQ u),?_⟩;rotate_left
       .simp only[Sig.cs,Opr.enc,Opr.cs,bL,bE];exact eE
       .rw[aEe,aJY O,Z];by_cases e:x.name=y
        .rw[aF e,aF (by rw[e])];rfl
        .rw[aE e,aE (λh=>e (by injection h))]
      .have S:=bI U h;subst S;rw[bK]at Z;refine aS (hk _ r ?_ ⟨a,o,f,ma,mo,mf,?_,?_,?_,?_,by rw[hL];exact Y,b0,Z⟩)
       .exact aK
       .simp only[Sig.cs,bL,bE];exact gH
       .exact gH
       .exact gH
       .exact gH
theorem aP1(l:List aA)(q:aA->Bool)(f:FuncId)(first y:List A)(s:St)(KV Kp:St->A->Prop)
  (Y:∀x,x∈l->∀KV Kp:St->A->Prop,KV s (.bool (q x))->Den cx f (first++[A.str x]++y) KV Kp s)
  (S:∀r:Int,decide (0<=r)=l.any q->KV s (.int .i64 r)):Den cx 114 [.list none (l.map A.str),.fn f first y] KV Kp s:=by
 refine gC λG=>?_
 have M:=G _ (bY ..);clear G;(refine aO func114 pP ?_;simp only[go_sem,ntmps114,f114])
 refine Ex.loop (ι:=Nat) (λi=>[(0,.list none (l.map A.str)),(1,.fn f first y),(7,.int .i64 (l.length:Nat)),(8,.int .i64 (i:Nat))])
  (λ_=>s) (λi=>i<=l.length/\(l.take i).any q=false) (λi=>l.length-i) 0 ⟨aN _,rfl⟩ ?_ (aC _) ?_
 .simp only[go_sem]
  try exact rfl
 .rintro i ⟨hi,O⟩;refine aQ (V:=pP) _ _ _ _ ?_;simp only[go_sem]
  (apply aI<;>intro h)<;>simp only[go_sem,h]
  .have u:i<l.length:=gQ h;clear h;obtain⟨x,z⟩:=aU u;have B:x∈l:=bA z;have Z:(l.take (i+1)).any q=q x:=by rw[fL,z,oY,O];simp
   simp only[go_sem,z,u];refine Y x B _ _ ?_;cases U:q x
   .simp only[go_sem,z,u];exact⟨i+1,⟨u,by rw[Z,U]⟩,by omega,M.wrap (i:=i) (gQ u),aC _⟩
   .simp only[go_sem,z,u];exact aS (S _ (by rw[iW.2 ⟨x,B,U⟩,bR];omega))
  .have H:i=l.length:=by have:¬ i<l.length:=gQ h;omega
   subst H;rw[bK]at O;exact aS (S _ (by rw[O];rfl))
theorem aGo(l:List aA)(q:aA->Bool)(f:FuncId)(first h:List A)(s:St)(KV Kp:St->A->Prop)
  (u:∀x,x∈l->∀KV Kp:St->A->Prop,KV s (.bool (q x))->Den cx f (first++[A.str x]++h) KV Kp s)
  (y:KV s (.bool (l.any q))):Den cx 53 [.list none (l.map A.str),.fn f first h] KV Kp s:=by
 (refine aO func53 [0,1,4] ?_;simp only[go_sem,ntmps53,f53]);refine aP1 l q f first h _ _ _ u (λr z=>?_)
 simp only[go_sem,z];exact aS y
theorem aPw(l:List Below)(q:Below->Bool)(f:FuncId)(first y:List A)(s:St)(KV Kp:St->A->Prop)
  (Y:∀x,x∈l->∀KV Kp:St->A->Prop,KV s (.bool (q x))->Den cx f (first++[Below.enc x]++y) KV Kp s)
  (S:∀r:Int,decide (0<=r)=l.any q->KV s (.int .i64 r)):Den cx 182 [.list none (l.map Below.enc),.fn f first y] KV Kp s:=by
 refine gC λG=>?_
 have M:=G _ (bY ..);clear G;(refine aO func182 pP ?_;simp only[go_sem,ntmps182,f182])
 refine Ex.loop (ι:=Nat) (λi=>[(0,.list none (l.map Below.enc)),(1,.fn f first y),(7,.int .i64 (l.length:Nat)),(8,.int .i64 (i:Nat))])
  (λ_=>s) (λi=>i<=l.length/\(l.take i).any q=false) (λi=>l.length-i) 0 ⟨aN _,rfl⟩ ?_ (aC _) ?_
 .simp only[go_sem]
  try exact rfl
 .rintro i ⟨hi,O⟩;refine aQ (V:=pP) _ _ _ _ ?_;simp only[go_sem]
  (apply aI<;>intro h)<;>simp only[go_sem,h]
  .have u:i<l.length:=gQ h;clear h;obtain⟨x,z⟩:=aU u;have B:x∈l:=bA z;have Z:(l.take (i+1)).any q=q x:=by rw[fL,z,oY,O];simp
   simp only[go_sem,z,u];refine Y x B _ _ ?_;cases U:q x
   .simp only[go_sem,z,u];exact⟨i+1,⟨u,by rw[Z,U]⟩,by omega,M.wrap (i:=i) (gQ u),aC _⟩
   .simp only[go_sem,z,u];exact aS (S _ (by rw[iW.2 ⟨x,B,U⟩,bR];omega))
  .have H:i=l.length:=by have:¬ i<l.length:=gQ h;omega
   subst H;rw[bK]at O;exact aS (S _ (by rw[O];rfl))
theorem aPR(l:List Below)(q:Below->Bool)(f:FuncId)(first h:List A)(s:St)(KV Kp:St->A->Prop)
  (u:∀x,x∈l->∀KV Kp:St->A->Prop,KV s (.bool (q x))->Den cx f (first++[Below.enc x]++h) KV Kp s)
  (y:KV s (.bool (l.any q))):Den cx 119 [.list none (l.map Below.enc),.fn f first h] KV Kp s:=by
 (refine aO func119 [0,1,4] ?_;simp only[go_sem,ntmps119,f119]);refine aPw l q f first h _ _ _ u (λr z=>?_)
 simp only[go_sem,z];exact aS y
theorem aPx(l:List Opr)(q:Opr->Bool)(f:FuncId)(first y:List A)(s:St)(KV Kp:St->A->Prop)
  (Y:∀x,x∈l->∀KV Kp:St->A->Prop,KV s (.bool (q x))->Den cx f (first++[Opr.enc x]++y) KV Kp s)
  (S:∀r:Int,decide (0<=r)=l.any q->KV s (.int .i64 r)):Den cx 183 [.list none (l.map Opr.enc),.fn f first y] KV Kp s:=by
 refine gC λG=>?_
 have M:=G _ (bY ..);clear G;(refine aO func183 pP ?_;simp only[go_sem,ntmps183,f183])
 refine Ex.loop (ι:=Nat) (λi=>[(0,.list none (l.map Opr.enc)),(1,.fn f first y),(7,.int .i64 (l.length:Nat)),(8,.int .i64 (i:Nat))])
  (λ_=>s) (λi=>i<=l.length/\(l.take i).any q=false) (λi=>l.length-i) 0 ⟨aN _,rfl⟩ ?_ (aC _) ?_
 .simp only[go_sem]
  try exact rfl
 .rintro i ⟨hi,O⟩;refine aQ (V:=pP) _ _ _ _ ?_;simp only[go_sem]
  (apply aI<;>intro h)<;>simp only[go_sem,h]
  .have u:i<l.length:=gQ h;clear h;obtain⟨x,z⟩:=aU u;have B:x∈l:=bA z;have Z:(l.take (i+1)).any q=q x:=by rw[fL,z,oY,O];simp
   simp only[go_sem,z,u];refine Y x B _ _ ?_;cases U:q x
   .simp only[go_sem,z,u];exact⟨i+1,⟨u,by rw[Z,U]⟩,by omega,M.wrap (i:=i) (gQ u),aC _⟩
   .simp only[go_sem,z,u];exact aS (S _ (by rw[iW.2 ⟨x,B,U⟩,bR];omega))
  .have H:i=l.length:=by have:¬ i<l.length:=gQ h;omega
   subst H;rw[bK]at O;exact aS (S _ (by rw[O];rfl))
theorem aPS(l:List Opr)(q:Opr->Bool)(f:FuncId)(first h:List A)(s:St)(KV Kp:St->A->Prop)
  (u:∀x,x∈l->∀KV Kp:St->A->Prop,KV s (.bool (q x))->Den cx f (first++[Opr.enc x]++h) KV Kp s)
  (y:KV s (.bool (l.any q))):Den cx 121 [.list none (l.map Opr.enc),.fn f first h] KV Kp s:=by
 (refine aO func121 [0,1,4] ?_;simp only[go_sem,ntmps121,f121]);refine aPx l q f first h _ _ _ u (λr z=>?_)
 simp only[go_sem,z];exact aS y
theorem aPz(l:List Int)(q:Int->Bool)(f:FuncId)(first y:List A)(s:St)(KV Kp:St->A->Prop)
  (Y:∀x,x∈l->∀KV Kp:St->A->Prop,KV s (.bool (q x))->Den cx f (first++[A.int .i64 x]++y) KV Kp s)
  (S:∀r:Int,decide (0<=r)=l.any q->KV s (.int .i64 r)):Den cx 237 [.list none (l.map (A.int .i64)),.fn f first y] KV Kp s:=by
 refine gC λG=>?_
 have M:=G _ (bY ..);clear G;(refine aO func237 pP ?_;simp only[go_sem,ntmps237,f237])
 refine Ex.loop (ι:=Nat) (λi=>[(0,.list none (l.map (A.int .i64))),(1,.fn f first y),(7,.int .i64 (l.length:Nat)),(8,.int .i64 (i:Nat))])
  (λ_=>s) (λi=>i<=l.length/\(l.take i).any q=false) (λi=>l.length-i) 0 ⟨aN _,rfl⟩ ?_ (aC _) ?_
 .simp only[go_sem]
  try exact rfl
 .rintro i ⟨hi,O⟩;refine aQ (V:=pP) _ _ _ _ ?_;simp only[go_sem]
  (apply aI<;>intro h)<;>simp only[go_sem,h]
  .have u:i<l.length:=gQ h;clear h;obtain⟨x,z⟩:=aU u;have B:x∈l:=bA z;have Z:(l.take (i+1)).any q=q x:=by rw[fL,z,oY,O];simp
   simp only[go_sem,z,u];refine Y x B _ _ ?_;cases U:q x
   .simp only[go_sem,z,u];exact⟨i+1,⟨u,by rw[Z,U]⟩,by omega,M.wrap (i:=i) (gQ u),aC _⟩
   .simp only[go_sem,z,u];exact aS (S _ (by rw[iW.2 ⟨x,B,U⟩,bR];omega))
  .have H:i=l.length:=by have:¬ i<l.length:=gQ h;omega
   subst H;rw[bK]at O;exact aS (S _ (by rw[O];rfl))
theorem aPT(l:List Int)(q:Int->Bool)(f:FuncId)(first h:List A)(s:St)(KV Kp:St->A->Prop)
  (u:∀x,x∈l->∀KV Kp:St->A->Prop,KV s (.bool (q x))->Den cx f (first++[A.int .i64 x]++h) KV Kp s)
  (y:KV s (.bool (l.any q))):Den cx 185 [.list none (l.map (A.int .i64)),.fn f first h] KV Kp s:=by
 (refine aO func185 [0,1,4] ?_;simp only[go_sem,ntmps185,f185]);refine aPz l q f first h _ _ _ u (λr z=>?_)
 simp only[go_sem,z];exact aS y
theorem aP2(l:List Tm)(q:Tm->Bool)(f:FuncId)(first y:List A)(s:St)(KV Kp:St->A->Prop)
  (Y:∀x,x∈l->∀KV Kp:St->A->Prop,KV s (.bool (q x))->Den cx f (first++[.agg x.cs]++y) KV Kp s)
  (S:∀r:Int,decide (0<=r)=l.any q->KV s (.int .i64 r)):Den cx 115 [.list none (l.map Tm.enc),.fn f first y] KV Kp s:=by
 refine gC λG=>?_
 have M:=G _ (bY ..);clear G;(refine aO func115 pP ?_;simp only[go_sem,ntmps115,f115])
 refine Ex.loop (ι:=Nat) (λi=>[(0,.list none (l.map Tm.enc)),(1,.fn f first y),(7,.int .i64 (l.length:Nat)),(8,.int .i64 (i:Nat))])
  (λ_=>s) (λi=>i<=l.length/\(l.take i).any q=false) (λi=>l.length-i) 0 ⟨aN _,rfl⟩ ?_ (aC _) ?_
 .simp only[go_sem]
  try exact rfl
 .rintro i ⟨hi,O⟩;refine aQ (V:=pP) _ _ _ _ ?_;simp only[go_sem]
  (apply aI<;>intro h)<;>simp only[go_sem,h]
  .have u:i<l.length:=gQ h;clear h;obtain⟨x,z⟩:=aU u;have B:x∈l:=bA z;have Z:(l.take (i+1)).any q=q x:=by rw[fL,z,oY,O];simp
   simp only[go_sem,z,u];refine Y x B _ _ ?_;cases U:q x
   .simp only[go_sem,z,u];exact⟨i+1,⟨u,by rw[Z,U]⟩,by omega,M.wrap (i:=i) (gQ u),aC _⟩
   .simp only[go_sem,z,u];exact aS (S _ (by rw[iW.2 ⟨x,B,U⟩,bR];omega))
  .have H:i=l.length:=by have:¬ i<l.length:=gQ h;omega
   subst H;rw[bK]at O;exact aS (S _ (by rw[O];rfl))
theorem aQh(l:List Tm)(q:Tm->Bool)(f:FuncId)(first h:List A)(s:St)(KV Kp:St->A->Prop)
  (u:∀x,x∈l->∀KV Kp:St->A->Prop,KV s (.bool (q x))->Den cx f (first++[.agg x.cs]++h) KV Kp s)
  (y:KV s (.bool (l.any q))):Den cx 55 [.list none (l.map Tm.enc),.fn f first h] KV Kp s:=by
 (refine aO func55 [0,1,4] ?_;simp only[go_sem,ntmps55,f55]);refine aP2 l q f first h _ _ _ u (λr z=>?_)
 simp only[go_sem,z];exact aS y
theorem aPy(l:List Part)(q:Part->Bool)(f:FuncId)(first y:List A)(s:St)(KV Kp:St->A->Prop)
  (Y:∀x,x∈l->∀KV Kp:St->A->Prop,KV s (.bool (q x))->Den cx f (first++[Part.enc x]++y) KV Kp s)
  (S:∀r:Int,decide (0<=r)=l.any q->KV s (.int .i64 r)):Den cx 195 [.list none (l.map Part.enc),.fn f first y] KV Kp s:=by
 refine gC λG=>?_
 have M:=G _ (bY ..);clear G;(refine aO func195 pP ?_;simp only[go_sem,ntmps195,f195])
 refine Ex.loop (ι:=Nat) (λi=>[(0,.list none (l.map Part.enc)),(1,.fn f first y),(7,.int .i64 (l.length:Nat)),(8,.int .i64 (i:Nat))])
  (λ_=>s) (λi=>i<=l.length/\(l.take i).any q=false) (λi=>l.length-i) 0 ⟨aN _,rfl⟩ ?_ (aC _) ?_
 .simp only[go_sem]
  try exact rfl
 .rintro i ⟨hi,O⟩;refine aQ (V:=pP) _ _ _ _ ?_;simp only[go_sem]
  (apply aI<;>intro h)<;>simp only[go_sem,h]
  .have u:i<l.length:=gQ h;clear h;obtain⟨x,z⟩:=aU u;have B:x∈l:=bA z;have Z:(l.take (i+1)).any q=q x:=by rw[fL,z,oY,O];simp
   simp only[go_sem,z,u];refine Y x B _ _ ?_;cases U:q x
   .simp only[go_sem,z,u];exact⟨i+1,⟨u,by rw[Z,U]⟩,by omega,M.wrap (i:=i) (gQ u),aC _⟩
   .simp only[go_sem,z,u];exact aS (S _ (by rw[iW.2 ⟨x,B,U⟩,bR];omega))
  .have H:i=l.length:=by have:¬ i<l.length:=gQ h;omega
   subst H;rw[bK]at O;exact aS (S _ (by rw[O];rfl))
theorem aJg(l:List Part)(q:Part->Bool)(f:FuncId)(first h:List A)(s:St)(KV Kp:St->A->Prop)
  (u:∀x,x∈l->∀KV Kp:St->A->Prop,KV s (.bool (q x))->Den cx f (first++[Part.enc x]++h) KV Kp s)
  (y:KV s (.bool (l.any q))):Den cx 143 [.list none (l.map Part.enc),.fn f first h] KV Kp s:=by
 (refine aO func143 [0,1,4] ?_;simp only[go_sem,ntmps143,f143]);refine aPy l q f first h _ _ _ u (λr z=>?_)
 simp only[go_sem,z];exact aS y
theorem aDI(l:List aA)(q:aA->Bool)(f:FuncId)(first h:List A)(s:St)(KV Kp:St->A->Prop)
  (z:∀x,x∈l->∀(s':St) (KV Kp:St->A->Prop),s'.ge s->KV s' (.bool (q x))->Den cx f (first++[A.str x]++h) KV Kp s')
  (u:KV s (.bool (l.all q))):Den cx 64 [.list none (l.map A.str),.fn f first h] KV Kp s:=by
 (refine aO func64 [0,1,3,4] ?_;simp only[go_sem,ntmps64,f64]);(refine aL λp y=>?_);simp only[go_sem,y];refine aGo l (λx=>!q x) 118 [] [.ptr p 0] _ _ _ (λx B KV Kp u=>?_) ?_
 ·(refine aO func118 [0,1,3] ?_;simp only[go_sem,ntmps118,f118])
  (try simp only[go_sem])
  first|(refine z x B _ _ _ (aZ y (aC s)) ?_;simp only[go_sem];exact aS u)|((refine aL λq G=>?_);simp only[go_sem,y,G];refine z x B _ _ _ aK ?_;simp only[go_sem];exact aD u eE)
 .have e:(!l.any λx=>!q x)=l.all q:=by simp[List.any_eq_not_all_not]
  simp only[go_sem,e];exact aD u aK
theorem aRp(l:List Below)(q:Below->Bool)(f:FuncId)(first h:List A)(s:St)(KV Kp:St->A->Prop)
  (z:∀x,x∈l->∀(s':St) (KV Kp:St->A->Prop),s'.ge s->KV s' (.bool (q x))->Den cx f (first++[Below.enc x]++h) KV Kp s')
  (u:KV s (.bool (l.all q))):Den cx 66 [.list none (l.map Below.enc),.fn f first h] KV Kp s:=by
 (refine aO func66 [0,1,3,4] ?_;simp only[go_sem,ntmps66,f66]);(refine aL λp y=>?_);simp only[go_sem,y];refine aPR l (λx=>!q x) 120 [] [.ptr p 0] _ _ _ (λx B KV Kp u=>?_) ?_
 ·(refine aO func120 [0,1,2,3] ?_;simp only[go_sem,ntmps120,f120])
  (try simp only[go_sem])
  first|(refine z x B _ _ _ (aZ y (aC s)) ?_;simp only[go_sem];exact aS u)|((refine aL λq G=>?_);simp only[go_sem,y,G];refine z x B _ _ _ aK ?_;simp only[go_sem];exact aD u eE)
 .have e:(!l.any λx=>!q x)=l.all q:=by simp[List.any_eq_not_all_not]
  simp only[go_sem,e];exact aD u aK
theorem aKg(l:List Opr)(q:Opr->Bool)(f:FuncId)(first h:List A)(s:St)(KV Kp:St->A->Prop)
  (z:∀x,x∈l->∀(s':St) (KV Kp:St->A->Prop),s'.ge s->KV s' (.bool (q x))->Den cx f (first++[Opr.enc x]++h) KV Kp s')
  (u:KV s (.bool (l.all q))):Den cx 69 [.list none (l.map Opr.enc),.fn f first h] KV Kp s:=by
 (refine aO func69 [0,1,3,4] ?_;simp only[go_sem,ntmps69,f69]);(refine aL λp y=>?_);simp only[go_sem,y];refine aPS l (λx=>!q x) 122 [] [.ptr p 0] _ _ _ (λx B KV Kp u=>?_) ?_
 ·(refine aO func122 [0,1,2,3] ?_;simp only[go_sem,ntmps122,f122])
  (try simp only[go_sem])
  first|(refine z x B _ _ _ (aZ y (aC s)) ?_;simp only[go_sem];exact aS u)|((refine aL λq G=>?_);simp only[go_sem,y,G];refine z x B _ _ _ aK ?_;simp only[go_sem];exact aD u eE)
 .have e:(!l.any λx=>!q x)=l.all q:=by simp[List.any_eq_not_all_not]
  simp only[go_sem,e];exact aD u aK
theorem aRq(l:List Int)(q:Int->Bool)(f:FuncId)(first h:List A)(s:St)(KV Kp:St->A->Prop)
  (z:∀x,x∈l->∀(s':St) (KV Kp:St->A->Prop),s'.ge s->KV s' (.bool (q x))->Den cx f (first++[(A.int .i64) x]++h) KV Kp s')
  (u:KV s (.bool (l.all q))):Den cx 126 [.list none (l.map (A.int .i64)),.fn f first h] KV Kp s:=by
 (refine aO func126 [0,1,3,4] ?_;simp only[go_sem,ntmps126,f126]);(refine aL λp y=>?_);simp only[go_sem,y];refine aPT l (λx=>!q x) 186 [] [.ptr p 0] _ _ _ (λx B KV Kp u=>?_) ?_
 ·(refine aO func186 [0,1,3] ?_;simp only[go_sem,ntmps186,f186])
  (try simp only[go_sem])
  first|(refine z x B _ _ _ (aZ y (aC s)) ?_;simp only[go_sem];exact aS u)|((refine aL λq G=>?_);simp only[go_sem,y,G];refine z x B _ _ _ aK ?_;simp only[go_sem];exact aD u eE)
 .have e:(!l.any λx=>!q x)=l.all q:=by simp[List.any_eq_not_all_not]
  simp only[go_sem,e];exact aD u aK
section
section
variable {r:Nat} {sg:Sig} {s:St} {KV Kp:St->A->Prop}
theorem sY(h:BookAt s r sg)(x:aA)(u:KV s (.bool (cD sg x))):Den cx 68 [.ptr r 0,.str x] KV Kp s:=by
 obtain⟨a,o,f,U,Z,Y,G,B,O,M,H,S,lf⟩:=h;have z:=H x;unfold cD at u;(refine aO func68 [0,1,4,6] ?_;simp only[go_sem,ntmps68,f68]);by_cases y:x∈nH sg
 .rw[aF y]at z;rw[cF y]at u;simp only[go_sem,G,B,z,strs];exact aS u
 .rw[aE y]at z;rw[bN y]at u;simp only[go_sem,G,B,z,iY];exact aS u
theorem aI4(x:aA)(h:KV s (.bool false)):Den cx 62 [.nils,.str x] KV Kp s :=
 gL (show gO [.nils,.str x] [.list none (([]:List aA).map .str),.str x] from⟨A.le.nil,cN _,trivial⟩) (qK s [] x KV Kp h)
theorem aF8(h:BookAt s r sg)(x y:aA)(u:KV s (.bool (uV sg x y))):Den cx 142 [.ptr r 0,.str x,.str y] KV Kp s:=by
 obtain⟨a,o,f,ma,mo,mf,O,H,Y,U,S,Z,lf⟩:=h;have B:=S x;unfold uV zC at u;(refine aO func142 [0,1,2,6] ?_;simp only[go_sem,ntmps142,f142]);by_cases G:y=[65,110,121]
 .rw[cF G]at u;have z:decide (y=[65,110,121])=true:=cF G;simp only[go_sem,z];exact aS u
 .rw[bN G]at u;have z:decide (y=[65,110,121])=false:=bN G;by_cases M:x∈nH sg
  .rw[aF M]at B u;simp only[go_sem,O,H,B,strs,z];refine qK _ _ _ _ _ ?_;simp only[go_sem];exact aS u
  .rw[aE M]at B u;simp only[go_sem,O,H,B,iY,z];refine aI4 _ ?_;simp only[go_sem];exact aS u
theorem aJZ(h:BookAt s r sg)(x y:aA)(u:KV s (.bool (mS sg x y))):Den cx 137 [.ptr r 0,.str x,.str y] KV Kp s:=by
 unfold mS at u;(refine aO func137 [0,1,2,6] ?_;simp only[go_sem,ntmps137,f137]);refine aF8 h x y ?_;cases z:uV sg x y<;>rw[z]at u<;>simp only[go_sem]
 .refine aF8 h y x ?_;simp only[go_sem];exact aS u
 .exact aS u
theorem aD0:A.le (.agg [.str [],.nils,.str [],.nils,.int .i64 0,.int .i64 0,.nils]) kX.enc :=
 A.le.agg ⟨⟨cN _,rfl⟩,⟨A.le.nil,rfl⟩,⟨cN _,rfl⟩,⟨A.le.nil,rfl⟩,⟨cN _,rfl⟩,⟨cN _,rfl⟩,⟨A.le.nil,rfl⟩,trivial⟩
theorem aSR(h:BookAt s r sg)(x:aA)(O:KV s (.tuple [((dA sg.ops x).getD kX).enc,.bool (dA sg.ops x).isSome])):Den cx 190 [.ptr r 0,.str x] KV Kp s:=by
 obtain⟨a,o,f,ma,mo,mf,G,Y,B,Z,la,U,lf⟩:=h;have u:=U x;(refine aO func190 [0,1,4,5,6,7] ?_;simp only[go_sem,ntmps190,f190]);(refine aL λp z=>?_);have H:=aM G z;have M:=aM B z;cases hl:dA sg.ops x with
 | none =>
  rw[hl]at u O;simp only[Option.map_none]at u;simp only[go_sem,z,G,B,u,iY,H,M];(refine aL λq S=>?_);simp only[go_sem,z,G,B,u,iY,S,H,M];exact DK.mk O aK (A.le.tuple ⟨aD0,cN _,trivial⟩)
 | some y =>
  rw[hl]at u O;simp only[gS]at u;simp only[go_sem,z,G,B,u,iY,H,M];(refine aL λq S=>?_);simp only[go_sem,z,G,B,u,iY,S,H,M];exact aD O aK
theorem rG(h:BookAt s r sg)(x:aA)(O:KV s (.tuple [((dA sg.funs x).getD kX).enc,.bool (dA sg.funs x).isSome])):Den cx 37 [.ptr r 0,.str x] KV Kp s:=by
 obtain⟨a,o,f,ma,mo,mf,G,U,Y,B,Z,lo,lf⟩:=h;have u:=lf x;(refine aO func37 [0,1,4,5,6,7] ?_;simp only[go_sem,ntmps37,f37]);(refine aL λp z=>?_);have H:=aM G z;have M:=aM B z;cases hl:dA sg.funs x with
 | none =>
  rw[hl]at u O;simp only[Option.map_none]at u;simp only[go_sem,z,G,B,u,iY,H,M];(refine aL λq S=>?_);simp only[go_sem,z,G,B,u,iY,S,H,M];exact DK.mk O aK (A.le.tuple ⟨aD0,cN _,trivial⟩)
 | some y =>
  rw[hl]at u O;simp only[gS]at u;simp only[go_sem,z,G,B,u,iY,H,M];(refine aL λq S=>?_);simp only[go_sem,z,G,B,u,iY,S,H,M];exact aD O aK
theorem aPm(h:BookAt s r sg)(x:aA)(B:KV s (.bool (uT sg x))):Den cx 83 [.ptr r 0,.str x] KV Kp s:=by
 have M:=h;obtain⟨a,o,f,ma,mo,mf,z,O,U,S,Z,lo,lf⟩:=h;(refine aO func83 [0,1,2,3,4] ?_;simp only[go_sem,ntmps83,f83]);(refine aL λp u=>?_);have G:=aM z u;simp only[go_sem,u,z,G];(refine aL λq y=>?_);have H:=aM z y.2;simp only[go_sem,u,z,y,G,H];refine aGo sg.values (λv=>uV sg x v) 141 [] [.ptr p 0,.ptr q 0] _ _ _ (λv Y KV Kp B=>?_) ?_
 ·(refine aO func141 [0,1,2,4] ?_;simp only[go_sem,ntmps141,f141]);simp only[go_sem,u,y];refine aF8 (M.ge (aZ (by first|exact y.2|exact y|assumption) (aZ u (aC s)))) x v ?_;simp only[go_sem];exact aS B
 .simp only[go_sem];exact aD B aK
theorem aPL{n:aA}(h:n∈fX)(u:KV s (strs (zK n))):Den cx 239 [.str n] KV Kp s:=by
 simp only[fX,cR,gX,dW]at h;rcases h with rfl|rfl|rfl|rfl|rfl|rfl|rfl|rfl|rfl|rfl|rfl|rfl|rfl|rfl|rfl|rfl|rfl|rfl|rfl|rfl|rfl|rfl|rfl|rfl|rfl|rfl|rfl|rfl
 all_goals ((refine aO func239 [0,2,3,4,15,19,23,27,30,33,36,39,42,47,50,54] ?_;simp only[go_sem,ntmps239,f239]);(try simp (decide:=true) only[go_sem]);exact aS u)
theorem aPM{n:aA}(h:n∈fX)(u:KV s (.str (aBe n))):Den cx 240 [.str n] KV Kp s:=by
 simp only[fX,cR,gX,dW]at h;rcases h with rfl|rfl|rfl|rfl|rfl|rfl|rfl|rfl|rfl|rfl|rfl|rfl|rfl|rfl|rfl|rfl|rfl|rfl|rfl|rfl|rfl|rfl|rfl|rfl|rfl|rfl|rfl|rfl
 all_goals ((refine aO func240 [0,2,3,4,13,16,19,22] ?_;simp only[go_sem,ntmps240,f240]);(try simp (decide:=true) only[go_sem]);exact aS u)
end
end
section
section
variable {r:Nat} {sg:Sig} {s:St} {KV Kp:St->A->Prop}
theorem aPe(n:aA)(y:KV s (.tuple [(if n∈fX then bOp n else kX).enc,.bool (decide (n∈fX))])):Den cx 191 [.str n] KV Kp s:=by
 (refine aO func191 [0,2,3,6] ?_;simp only[go_sem,ntmps191,f191]);(refine aL λp u=>?_);simp only[go_sem,u];refine aDl _ _ _ _ ?_;by_cases h:n∈fX
 .rw[aF h,cF h]at y;have z:decide (n∈fX)=true:=cF h;simp only[go_sem,z,u];refine aPL h ?_;simp only[go_sem,u,strs];refine aPM h ?_;simp only[go_sem,u];exact DK.mk y aK (A.le.tuple ⟨A.le.agg ⟨⟨cN _,rfl⟩,⟨cN _,rfl⟩,⟨cN _,rfl⟩,⟨A.le.nil,rfl⟩,⟨cN _,rfl⟩,⟨cN _,rfl⟩,⟨A.le.nil,rfl⟩,trivial⟩,cN _,trivial⟩)
 .rw[aE h,bN h]at y;have z:decide (n∈fX)=false:=bN h;simp only[go_sem,z,u];exact DK.mk y aK (A.le.tuple ⟨aD0,cN _,trivial⟩)
theorem aF9(h:BookAt s r sg)(n:aA)(u:KV s (.tuple [(gD sg n).1.enc,.bool (gD sg n).2.1,.bool (gD sg n).2.2])):Den cx 132 [.ptr r 0,.str n] KV Kp s:=by
 unfold gD at u;(refine aO func132 [0,1,4,5,6,13,21] ?_;simp only[go_sem,ntmps132,f132]);(refine aL λp y=>?_);simp only[go_sem,y];refine aSR (h.ge (aZ y (aC s))) n ?_;cases B:dA sg.ops n with
 | some o =>
  rw[B]at u;simp only[go_sem,y,oX,Option.isSome_some];exact aD u aK
 | none =>
  rw[B]at u;simp only[go_sem,y,uK,lB,kX];refine rG (h.ge (by exact aK)) n ?_;cases G:dA sg.funs n with
  | some o =>
   rw[G]at u;simp only[go_sem,y,oX,Option.isSome_some];exact aD u aK
  | none =>
   rw[G]at u;simp only[go_sem,y,uK,lB,kX];refine aPe n ?_;by_cases z:n∈fX
   .rw[aF z]at u⊢;simp only[go_sem,y,cF z,bOp];exact aD u aK
   .rw[aE z]at u⊢;simp only[go_sem,y,bN z,kX];exact aD u aK
theorem aJb(h:BookAt s r sg)(t:Tm)(y:KV s (.str (lT sg t))):Den cx 189 [.ptr r 0,.agg t.cs] KV Kp s:=by
 unfold lT at y;(refine aO func189 [0,1,3,4,5,9,10,12,14,16,18,20,22,38] ?_;simp only[go_sem,ntmps189,f189]);(refine aL λp z=>?_);simp only[go_sem,z];rcases kinds t.kind with u|u|u|u|u|u|u|u|u
 case' inr.inr.inr.inr.inl =>
  simp only[go_sem,z,u,Int.reduceEq];refine aF9 (h.ge (aZ z (aC s))) t.text ?_;simp only[go_sem,z];(refine aL λq Z=>?_);simp only[go_sem,z,Z];simp only[u,Int.reduceEq,dY,dJ]at y;exact aD y aK
 case' inr.inr.inr.inr.inr.inl =>
  simp only[go_sem,z,u,Int.reduceEq];refine sY (h.ge (aZ z (aC s))) t.sort ?_;simp only[u,Int.reduceEq,dY,dJ]at y;cases B:cD sg t.sort<;>rw[B]at y<;>simp only[go_sem,z]
  .exact aD y aK
  .exact aD y aK
 case' inr.inr.inr.inr.inr.inr.inr.inr =>
  obtain⟨G,H,M,O,S,k6,U,Y⟩:=u;simp only[go_sem,z,bN G,bN H,bN M,bN O,bN S,bN U,bN Y];refine sY (h.ge (aZ z (aC s))) t.sort ?_;rw[aE G,aE H,aE M,aE O,aE U,aE Y,aE S]at y;cases B:cD sg t.sort<;>rw[B]at y<;>simp only[go_sem,z]
  .exact aD y aK
  .exact aD y aK
 all_goals
  simp only[go_sem,z,u,Int.reduceEq];simp only[u,Int.reduceEq,dY,dJ]at y;exact aD y aK
theorem aJW:∀{ks:List Tm} {l:List aA} {i:Nat} {x:Tm} {y:aA},ks[i]?=some x->l[i]?=some y->nK sg (ks.take (i+1)) (l.take (i+1))=(nK sg (ks.take i) (l.take i)&&mS sg (lT sg x) y)
 | k::ks,a::l,0,x,y,h,u=>by cases h;cases u;simp[nK]
 | k::ks,a::l,i+1,x,y,h,u=>by
  have:=aJW (ks:=ks) (l:=l) (i:=i) h u;simp only[List.take_succ_cons,nK,this,Bool.and_assoc]
 | [],_,_,_,_,h,_=>by cases h
 | _::_,[],_,_,_,_,u=>by cases u
theorem aJq:∀{ks:List Tm} {l:List aA} {i:Nat},nK sg (ks.take i) (l.take i)=false->nK sg ks l=false
 | [],_,_,h=>by simp[nK]at h
 | _::_,[],_,h=>by cases u:(List.take _ (_::_):List Tm)<;>rw[u]at h<;>simp[nK]at h
 | k::ks,a::l,0,h=>by simp[nK]at h
 | k::ks,a::l,i+1,h=>by
  simp only[List.take_succ_cons,nK,Bool.and_eq_false_iff]at h⊢;exact h.imp id aJq
theorem aQs(m:Nat):∀(t:Tm) (s:St) (KV Kp:St->A->Prop),SizeOf.sizeOf t<m->BookAt s r sg->KV s (.bool (eB sg t))->Den cx 130 [.ptr r 0,.agg t.cs] KV Kp s:=by
 induction m with
 | zero=>intro t s KV Kp hm;omega
 | succ m ih =>
 intro t s KV Kp hm hB G;refine gC λb3=>?_
 have b4:=b3 _ (cZ _ (bY ..));have b1:Rlz (.list none (t.kids.map Tm.enc)):=b4.cell (by simp[Tm.cs]);clear b3 b4;rw[aLD]at G;(refine aO func130 aIf ?_;simp only[go_sem,ntmps130,f130]);(refine aL λp z=>?_);simp only[go_sem,z];have S:BookAt (s.setO p (.cells 67 t.cs)) r sg:=hB.ge (aZ z (aC s))
 refine Ex.loop (ι:=Nat) (λi=>[(0,.ptr r 0),(3,.ptr p 0),(13,.list none (t.kids.map Tm.enc)),(14,.int .i64 (t.kids.length:Nat)),(15,.int .i64 (i:Nat))])
  (λ_=>s.setO p (.cells 67 t.cs)) (λi=>i<=t.kids.length/\(t.kids.take i).all (eB sg)=true) (λi=>t.kids.length-i) 0 ⟨aN _,rfl⟩ ?_ (aC _) ?_
 .simp only[go_sem]
  try exact rfl
 .rintro i ⟨hi,B⟩;refine aQ (V:=aIf) _ _ _ _ ?_;simp only[go_sem,z]
  (apply aI<;>intro h)<;>simp only[go_sem,h,z]
  .have u:i<t.kids.length:=gQ h;clear h;obtain⟨x,O⟩:=aU u;have b2:x∈t.kids:=bA O;have b6:=kR b2;simp only[go_sem,z,O,u];(refine aL λq H=>?_);simp only[go_sem,z,O,u,H];refine ih x _ _ _ aB (S.ge (by simp only[Tm.cs];exact eE)) ?_;have ht:(t.kids.take (i+1)).all (eB sg)=eB sg x:=by rw[fL,O,kP,B];simp
   cases hf:eB sg x
   .simp only[go_sem,z,H]
    have e:t.kids.all (eB sg)=false:=by
     rw[iV];intro e;rw[cL]at e;rw[e x b2]at hf;cases hf
    rw[e,eY]at G;exact aD G aK
   .simp only[go_sem,z,H];exact⟨i+1,⟨u,by rw[ht,hf]⟩,by omega,b1.wrap (i:=i) (gQ u),eE⟩
  .have Y:i=t.kids.length:=by have:¬ i<t.kids.length:=gQ h;omega
   subst Y;rw[bK]at B;rw[B,dD]at G;clear h hi;unfold aEG at G;by_cases k6:t.kind=6
   .rw[aF k6]at G;simp only[go_sem,z,cF k6];refine sY S t.sort ?_;simp only[go_sem,z];exact aD G aK
   rw[aE k6]at G;by_cases k5:t.kind=5
   ·rw[aF k5] at G;simp only[go_sem,z,bN k6,cF k5];refine aF9 S t.text ?_;generalize hC:gD sg t.text=C at G;obtain ⟨o,fu,ok⟩:=C;simp only[go_sem,z];(refine aL fun q H=>?_);simp only[go_sem,z,H];cases ok with
    | false =>
     simp only[go_sem,z,H];exact aD G aK
    | true =>
     have d1:decide ((o.args.length:Int)=(t.kids.length:Int))=decide (o.args.length=t.kids.length):=by rw[bW];omega
     by_cases hl:o.args.length=t.kids.length
     .have d2:decide (o.args.length=t.kids.length)=true:=cF hl;rw[d2]at G d1;simp only[go_sem,z,H,d1,d2];have b5:BookAt ((s.setO p (.cells 67 t.cs)).setO q (.cells 80 o.cs)) r sg:=S.ge (by simp only[Tm.cs,Opr.cs];exact eE)
      refine Ex.loop (ι:=Nat) (λi=>[(0,.ptr r 0),(3,.ptr p 0),(7,.ptr q 0),(54,.list none (t.kids.map Tm.enc)),(55,.int .i64 (t.kids.length:Nat)),(56,.int .i64 (i:Nat))])
       (λ_=>(s.setO p (.cells 67 t.cs)).setO q (.cells 80 o.cs)) (λi=>i<=t.kids.length/\nK sg (t.kids.take i) (o.args.take i)=true) (λi=>t.kids.length-i) 0 ⟨aN _,by simp[nK]⟩ ?_ (aC _) ?_
      .simp only[go_sem]
       try exact rfl
      .rintro i ⟨hi,B⟩;refine aQ (V:=aIf) _ _ _ _ ?_;simp only[go_sem,z,H]
       (apply aI<;>intro h)<;>simp only[go_sem,h,z,H]
       .have u:i<t.kids.length:=gQ h;clear h;obtain⟨x,O⟩:=aU u;have b0:i<o.args.length:=by omega
        obtain⟨y,hy⟩:=aU b0;have Z:=aJW (sg:=sg) O hy;rw[B,dD]at Z;simp only[go_sem,z,H,O,u];(refine aL λq2 M=>?_);simp only[go_sem,z,H,O,u,M];(refine bX (OT.l [0,1,2,4,5,6,7,8,3,9,10] .nil) [(3,[5,8])] ?_;simp only[go_sem,z,H,O,u,M,hy]);refine⟨b0,?_⟩;have U:BookAt (((s.setO p (.cells 67 t.cs)).setO q (.cells 80 o.cs)).setO q2 (.cells 67 x.cs)) r sg:=b5.ge (by simp only[Tm.cs,Opr.cs];exact eE);simp only[Tm.cs,Opr.cs]at U;refine aJb U x ?_;simp only[go_sem,z,H,O,u,M,hy];refine aJZ U (lT sg x) y ?_;cases hf:mS sg (lT sg x) y
        .simp only[go_sem,z,H,M];rw[aJq (by rw[Z,hf]),gY]at G;exact aD G aK
        .simp only[go_sem,z,H,M];exact⟨i+1,⟨u,by rw[Z,hf]⟩,by omega,b1.wrap (i:=i) (gQ u),eE⟩
       .have Y:=bI hi h;subst Y;rw[bK,<-hl,bK]at B;rw[B]at G;exact aD G aK
     .have d2:decide (o.args.length=t.kids.length)=false:=bN hl;rw[d2]at G d1;simp only[go_sem,z,H,d1,d2];exact aD G aK
   .rw[aE k5]at G;simp only[go_sem,z,bN k6,bN k5];exact aD G aK
theorem aJS(t:Tm)(h:BookAt s r sg)(u:KV s (.bool (eB sg t))):Den cx 130 [.ptr r 0,.agg t.cs] KV Kp s:=aQs _ t s KV Kp (dZ _) h u
theorem aP0(t:Tm)(h:KV s (.bool (wZ t))):Den cx 135 [.agg t.cs] KV Kp s:=by
 unfold wZ at h;(refine aO func135 [0,1,2] ?_;simp only[go_sem,ntmps135,f135]);(refine aL λp y=>?_);simp only[go_sem,y];cases u:decide (t.kind=1)<;>rw[u]at h<;>simp only[go_sem,y,u]
 .cases z:decide (t.kind=3)<;>rw[z]at h<;>simp only[go_sem,y,u,z]
  .cases B:decide (t.kind=4)<;>rw[B]at h<;>(try simp only[go_sem,y,u,z,B])
   .exact aD h aK
   .exact aD h aK
  .exact aD h aK
 .exact aD h aK
end
end
section
section
variable {r:Nat} {sg:Sig} {s:St} {KV Kp:St->A->Prop}
theorem aQt(a:aA)(h:KV s (.bool (zG a))):Den cx 61 [.str a] KV Kp s:=by
 unfold zG at h;(refine aO func61 [0,2] ?_;simp only[go_sem,ntmps61,f61]);refine tC _ _ _ _ ?_;cases u:cA a<;>rw[u]at h<;>simp only[go_sem]
 .exact aS h
 refine aJf _ _ _ ?_;simp only[go_sem];refine qK _ _ _ _ _ ?_;simp only[go_sem];exact aS h
theorem aPk(h:BookAt s r sg)(b:Below)(y:KV s (.bool (yU sg b))):Den cx 67 [.ptr r 0,.agg b.cs] KV Kp s:=by
 have h0:=h;obtain⟨a,o,f,ma,mo,mf,B,z,ho,hf,la,lo,lf⟩:=h;have O:=la b.high;unfold yU zC at y;(refine aO func67 [0,1,3,4] ?_;simp only[go_sem,ntmps67,f67]);(refine aL λp u=>?_);have G:=aM B u;have H:=aM z u;have M:(s.setO p (.cells 112 b.cs)).ge s:=aZ u (aC s);simp only[Below.cs]at M;simp only[go_sem,u];(refine bX (OT.r 0 33) [(7,[14,16,23,25,26,28]),(17,[23,25,26,28])] ?_;simp only[go_sem,u,G,H,B,z]);cases S:decide (b.low=[65,110,121])<;>rw[S]at y<;>simp only[go_sem,u,G,H,B,z,S]
 rotate_left
 .exact aD y aK
 refine sY (h0.ge M) b.low ?_;cases Y:cD sg b.low<;>rw[Y]at y<;>simp only[go_sem,u,G,H,B,z]
 .exact aD y aK
 refine qK _ _ _ _ _ ?_;cases Z:decide (b.high∈sg.sorts)<;>rw[Z]at y<;>simp only[go_sem,u,G,H,B,z]
 .exact aD y aK
 by_cases U:b.high∈nH sg
 .rw[aF U]at O y;simp only[go_sem,u,G,H,B,z,O,strs];refine qK _ _ _ _ _ ?_;simp only[go_sem,u,G,H,B,z];exact aD y aK
 .rw[aE U]at O y;simp only[go_sem,u,G,H,B,z,O,iY];refine aI4 _ ?_;simp only[go_sem,u,G,H,B,z];exact aD y aK
theorem aPZ(h:BookAt s r sg)(o:Opr)(G:KV s (.bool (wY sg o))):Den cx 71 [.ptr r 0,.agg o.cs] KV Kp s:=by
 unfold wY at G;have f8:decide ((8:Int)<((o.args.length:Nat):Int))=decide (8<o.args.length):=by rw[bW];omega
 have B:decide (((o.args.length:Nat):Int)<=8)=!decide (8<o.args.length):=by rw[<-decide_not,bW];omega
 have y:decide (((o.pieces.length:Nat):Int)=0)=decide (o.pieces.length=0):=by rw[bW];omega
 have z:decide (((o.strict.length:Nat):Int)=0)=decide (o.strict.length=0):=by rw[bW];omega
 (refine aO func71 [0,1,3,4,5] ?_;simp only[go_sem,ntmps71,f71]);(refine aL λp u=>?_);have M:(s.setO p (.cells 80 o.cs)).ge s:=aZ u (aC s);have H:=h.ge M;simp only[Opr.cs]at H;simp only[go_sem,u,y,z]
 (repeat' (first|exact aD G aK|(refine tC _ _ _ _ ?_;simp only[go_sem,u,f8,B,y,z])|(refine aDl _ _ _ _ ?_;simp only[go_sem,u,f8,B,y,z])|(refine aDI o.args (cD sg) 68 [.ptr r 0] [] _ _ _ (λx S s' KV Kp O G=>sY (H.ge O) x G) ?_;simp only[go_sem,u,f8,B,y,z])|(refine sY H o.sort ?_;simp only[go_sem,u,f8,B,y,z])|((apply aI<;>intro h)<;>simp only[go_sem,h,u,f8,B,y,z]<;>(try simp only[h,dD,eY,dT,gY,mP,kQ,iZ,gJ,eO,fN]at G))))
theorem aVb(c:UInt8):decide (0<=Lib.indexByte [34,39,92] c)=decide (c∈([34,39,92]:aA)):=by
 have h:∀c:UInt8,(0<=Lib.indexByte [34,39,92] c)↔c∈([34,39,92]:aA):=by
  intro c;simp only[Lib.indexByte,cR,gX,dW,beq_iff_eq];by_cases u:(34:UInt8)=c
  .simp[u]
  .by_cases y:(39:UInt8)=c
   .simp[u,y]
   .by_cases z:(92:UInt8)=c
    .simp[u,y,z]
    .simp[u,y,z,Ne.symm u,Ne.symm y,Ne.symm z]
 rw[bW];exact h c
theorem aG1{α:Type}{f:α->Bool}{l:List α}{i:Nat}{x:α}(h:l[i]?=some x)(u:(l.take i).all f=true):(l.take (i+1)).all f=f x:=by
 rw[fL,h,kP,u];simp
theorem aGK{α:Type}{f:α->Bool}{l:List α}{x:α}(h:x∈l)(u:f x=false):l.all f=false:=by
 rw[iV];intro e;rw[cL]at e;rw[e x h]at u;cases u
theorem aPu(x:aA)(y:KV s (.bool (uX x))):Den cx 187 [.str x] KV Kp s:=by
 unfold uX at y;have G:decide ((20:Int)<((x.length:Nat):Int))=decide (20<x.length):=by rw[bW];omega
 (refine aO func187 [0,2,3,4,11,13,14,15,34] ?_;simp only[go_sem,ntmps187,f187]);cases M:decide (x=[])<;>rw[M]at y<;>simp only[go_sem,M,G]
 rotate_left
 .exact aS y
 cases O:decide (20<x.length)<;>rw[O]at y<;>simp only[go_sem,M,O,G]
 rotate_left
 .exact aS y
 have b0:x.length<=20:=by have:=of_decide_eq_false O;omega
 refine Ex.loop (ι:=Nat) (λi=>[(0,.str x),(13,.int .i64 (x.length:Nat)),(14,.int .i64 (i:Nat))]) (λ_=>s) (λi=>i<=x.length/\(x.take i).all oJ=true) (λi=>x.length-i) 0 ⟨aN _,rfl⟩ ?_ (aC _) ?_
 .simp only[go_sem]
  try exact rfl
 .rintro i ⟨hi,u⟩;refine aQ (V:=[0,2,3,4,11,13,14,15,34]) _ _ _ _ ?_;simp only[go_sem]
  (apply aI<;>intro h)<;>simp only[go_sem,h]
  .have z:i<x.length:=gQ h;clear h;obtain⟨c,S⟩:=aU z;have U:c∈x:=bA S;have B:=aG1 (f:=oJ) S u;unfold oJ at B;simp only[go_sem,S,z]
   have bad:(!decide ((c.toNat:Int)<33)&&(!decide (126<(c.toNat:Int))&&(!jK c.toNat&&!decide (c∈[34,39,92]))))=false->KV s (.bool false):=λe=>by
    have h0:x.all oJ=false:=aGK U (show oJ c=false from e);rw[h0]at y;exact y
   cases H:decide ((c.toNat:Int)<33)<;>rw[H]at B bad<;>simp only[go_sem,H]
   rotate_left
   .exact aS (bad rfl)
   cases s2:decide (126<(c.toNat:Int))<;>rw[s2]at B bad<;>simp only[go_sem,H,s2]
   rotate_left
   .exact aS (bad rfl)
   refine aDB _ _ _ _ ?_;cases s3:jK c.toNat<;>rw[s3]at B bad<;>simp only[go_sem,H,s2]
   rotate_left
   .exact aS (bad rfl)
   refine aDm _ _ c _ _ ?_;cases Z:decide (c∈([34,39,92]:aA))<;>rw[Z]at B bad<;>simp only[go_sem,H,s2,aVb,Z]
   .exact⟨i+1,⟨z,B⟩,by omega,aR i aB,aC _⟩
   .exact aS (bad rfl)
  .have Y:=bI hi h;subst Y;rw[bK]at u;rw[u]at y;exact aS y
end
end
section
theorem aP9(s:St)(l:List Below)(KV Kp:St->A->Prop)(hk:∀s',s'.ge s->KV s' (.bool (decide l.Nodup))):Den cx 59 [.list none (l.map Below.enc)] KV Kp s:=by
 refine gC λY=>?_
 have S:=Y _ (bY ..);(refine aO func59 aBz ?_;simp only[go_sem,ntmps59,f59]);(refine aL λb hb=>?_);simp only[go_sem]
 refine Ex.loop (λi=>[(3,.mp b),(7,.list none (l.map Below.enc)),(8,.int .i64 l.length),(9,.int .i64 (i:Nat))]) (λi=>s.setO b (.map 2 (eC (λx:Below=>MK.two x.low x.high) (l.take i))))
     (λi=>i<=l.length/\(l.take i).Nodup) (λi=>l.length-i) 0 ⟨aN _,by simp⟩ ?_ (aC _) ?_
 .simp only[go_sem];exact rfl
 .rintro i ⟨hi,z⟩;refine aQ (V:=aBz) _ _ _ _ ?_;simp only[go_sem]
  (apply aI<;>intro h)<;>simp only[go_sem,h]
  .have u:i<l.length:=gQ h;obtain⟨a,H⟩:=aU u;have G:∀x y:Below,MK.two x.low x.high=MK.two y.low y.high->x=y:=λx y e=>by cases x;cases y;cases e;rfl
   have B:=aCv (λx:Below=>MK.two x.low x.high) G a (l.take i);have U:=aEp (λx:Below=>MK.two x.low x.high) G a (l.take i);simp only[go_sem,H,u];(refine aL λc Z=>?_);by_cases M:a∈l.take i
   .rw[aF M]at B;simp only[go_sem,H,u,Z,B]
    have O:¬ l.Nodup:=by
     intro O;rw[<-lA i l,List.nodup_append]at O;refine O.2.2 a M a ?_ rfl;have:(l.drop i)[0]?=some a:=by rw[nD];simpa using H
     exact bA this
    refine aD (by have:=hk (s.setO b (.map 2 (eC (λx:Below=>MK.two x.low x.high) (l.take i)))) (aZ (by assumption) (aC s));simpa [O]using this) eE
   .rw[aE M]at B;simp only[go_sem,H,u,Z,B,U M,iY];have ht:l.take (i+1)=l.take i++[a]:=by rw[fL,H];rfl
    refine⟨i+1,⟨by omega,?_⟩,by omega,?_,?_⟩
    .rw[ht,List.nodup_append];exact⟨z,by simp,λx hx y hy=>by simp at hy;subst hy;intro e;subst e;exact M hx⟩
    .exact S.wrap (i:=i) (gQ u)
    .rw[ht];exact eE
  .have u:i=l.length:=by simp at h;omega
   subst u;rw[bK]at z;exact aS (by have:=hk (s.setO b (.map 2 (eC (λx:Below=>MK.two x.low x.high) l))) (aZ (by assumption) (aC s));simpa [z,bK]using this)
section
variable {r:Nat} {sg:Sig} {s:St} {KV Kp:St->A->Prop}
theorem aJ0(l:List Opr)(hl:l.length<=4294967000)(hk:∀tk,(tk=none->l=[])->(∀t,tk=some t->s.getT t=none)->KV (gs s tk l.length 9) (gv tk ((l.map Opr.name).map .str))):Den cx 65 [.list none (l.map Opr.enc)] KV Kp s:=by
 (refine aO func65 aBA ?_;simp only[go_sem,ntmps65,f65])
 refine Ex.loop (ι:=Nat × Option Nat) (λc=>[(3,gv c.2 (((l.take c.1).map Opr.name).map .str)),(6,.list none (l.map Opr.enc)),(7,.int .i64 l.length),(8,.int .i64 (c.1:Nat))]) (λc=>gs s c.2 ((l.take c.1).map Opr.name).length 9)
  (λc=>c.1<=l.length/\(c.2=none->(l.take c.1).map Opr.name=[])/\∀t,c.2=some t->s.getT t=none) (λc=>l.length-c.1) (0,none) ⟨aN _,λ_=>rfl,λt h=>(by cases h)⟩ ?_ (aC _) ?_
 .simp only[go_sem]
  try exact⟨rfl,rfl⟩
 .rintro⟨i,tk⟩ ⟨Y,B,M⟩;simp only at Y B M;refine aQ (V:=aBA) _ _ _ _ ?_;simp only[go_sem]
  (apply aI<;>intro h)<;>simp only[go_sem,h]
  .have z:i<l.length:=gQ h;clear h;obtain⟨x,G⟩:=aU z;have ht:(l.take (i+1)).map Opr.name=(l.take i).map Opr.name++[x.name]:=by rw[fL,G,cB];rfl
   simp only[go_sem,G,z];(refine oS λc H=>?_);simp only[go_sem,G,z,H];refine⟨by decide,λy U=>(by rw[bS.1 U];rfl),fJ rfl rfl (by simp only[aW];exact iS λe=>by have:=B e;rw[List.map_eq_nil_iff]at this;rw[this];rfl) (λy U=>eI U) (by simp only[aW,dG,bB,bQ];omega) (λu Z=>?_)⟩;have O:=kB Z M;rw[kF Z];simp only[go_sem,G,z,H];refine⟨(i+1,some u),⟨z,λh=>(by cases h),λt h=>by cases h;exact O⟩,bD,⟨?_,aR i aB⟩,?_⟩
   .rw[ht,cB];rfl
   .have q:(l.take (i+1)).length=(l.take i).length+1:=by rw[dG,dG];omega
    show St.ge _ (s.setT u ((l.take (i+1)).length,9));rw[q];exact dV (eW H)
  .have S:=bI Y h;subst S;rw[bK]at B⊢;exact aS (hk tk (λe=>List.map_eq_nil_iff.1 (B e)) M)
def nZ(l:List Piece):List aA:=(l.map Piece.sort).filter λx=>!decide (x=[])
theorem aRd{l:List Piece}{j:Nat}{x:Piece}(h:l[j]?=some x):nZ (l.take (j+1))=nZ (l.take j)++(if x.sort=[] then [] else [x.sort]):=by
 unfold nZ;rw[fL,h,cB,List.filter_append];congr 1;by_cases e:x.sort=[]<;>simp[e]
theorem aR8(l:List Piece):(nZ l).length<=l.length:=by
 unfold nZ;exact rE (List.length_filter_le _ _) (Nat.le_of_eq (aW ..))
theorem aPa(o:Opr)(bb:o.pieces.length<=4294967000)(b9:o.args.length<=4294967000)(hk:KV s (.bool (aDK o))):Den cx 128 [.agg o.cs] KV Kp s:=by
 refine gC λb3=>?_
 have b4:=b3 _ (bY ..);have hw:Rlz (.list none (o.pieces.map Piece.enc)):=b4.cell (by simp[Opr.cs]);clear b3 b4;unfold aDK at hk;have z1:decide (((o.pieces.length:Nat):Int)=0)=decide (o.pieces.length=0):=by rw[bW];omega
 (refine aO func128 [0,1,2,3,5,6,10,12,13,14,15,46,49] ?_;simp only[go_sem,ntmps128,f128]);(refine aL λp hp=>?_);simp only[go_sem,hp,z1];cases c0:decide (o.pieces.length=0)<;>rw[c0]at hk<;>simp only[go_sem,hp,z1,c0]
 rotate_left
 .exact aD hk aK
 have b0:(s.setO p (.cells 80 o.cs)).ge s:=aZ hp (aC s);have O:(s.setO p (.cells 80 o.cs)).getO p=some (.cells 80 o.cs):=by rw[aX,aF rfl]
 generalize hS:s.setO p (.cells 80 o.cs)=S at b0 O;simp only[Opr.cs]at hS O;rw[hS];clear hS
 refine Ex.loop (ι:=Nat × Option Nat) (λc=>[(1,.ptr p 0),(3,gv c.2 ((nZ (o.pieces.take c.1)).map .str)),(12,.list none (o.pieces.map Piece.enc)),(13,.int .i64 (o.pieces.length:Nat)),(14,.int .i64 (c.1:Nat))]) (λc=>gs S c.2 (nZ (o.pieces.take c.1)).length 9)
  (λc=>c.1<=o.pieces.length/\(o.pieces.take c.1).all uY=true/\(c.2=none->(nZ (o.pieces.take c.1)).length=0)/\∀t,c.2=some t->S.getT t=none) (λc=>o.pieces.length-c.1) (0,none) ⟨aN _,rfl,λ_=>rfl,λt h=>(by cases h)⟩ ?_ (aC _) ?_
 .simp only[go_sem]
  try exact⟨rfl,rfl⟩
 .rintro⟨i,tk⟩ ⟨hi,U,hn,hf⟩;simp only at hi hn hf U;refine aQ (V:=[0,1,2,3,5,6,10,12,13,14,15,46,49]) _ _ _ _ ?_;simp only[go_sem]
  (apply aI<;>intro h)<;>simp only[go_sem,h]
  .have z:i<o.pieces.length:=gQ h;clear h;obtain⟨x,Y⟩:=aU z;have b8:x∈o.pieces:=bA Y;have M:=aG1 (f:=uY) Y U;have B:=aRd Y;have b7:=aR8 (o.pieces.take i);rw[dG]at b7;unfold uY at M
   have bad:(decide (x.sort=[]) == (uX x.text||(cA x.text&&!decide (20<x.text.length)))&&!(!decide (x.sort=[])&&!decide (x.text=[])))=false->KV s (.bool false):=λe=>by
    have h0:o.pieces.all uY=false:=aGK b8 (show uY x=false from e);rw[h0]at hk;exact hk
   have b2:decide (((x.text.length:Nat):Int)<=20)=!decide (20<x.text.length):=by rw[<-decide_not,bW];omega
   simp only[go_sem,Y,z];(refine oS λb5 G=>?_);have f1:=aM O G;have H:(S.setO b5 (.cells 218 x.cs)).ge S:=aZ G (aC S);have Z:(gs (S.setO b5 (.cells 218 x.cs)) tk (nZ (o.pieces.take i)).length 9).ge s:=eJ (H.trans b0) hf;simp only[Piece.cs]at Z H
   have q0:x.sort=[]->(gs (S.setO b5 (.cells 218 [.str x.text,.str x.sort])) tk (nZ (o.pieces.take i)).length 9).ge (gs S tk (nZ (o.pieces.take (i+1))).length 9):=λe=>by
    rw[B,aF e,cK];exact aTR (λb o h=>H.ob b o h) (λy h=>H.ls y h) (λt v _ h=>H.tk t v h)
   simp only[go_sem,Y,z,G,f1,O];refine aPu x.text ?_;cases a1:uX x.text<;>rw[a1]at M bad<;>simp only[go_sem,Y,z,G,f1,O,beq_true,beq_false]
   rotate_left
   .cases a4:decide (x.sort=[])<;>cases a5:decide (x.text=[])<;>rw[a4]at M bad<;>rw[a5]at M bad<;>simp only[go_sem,Y,z,G,f1,O,a4,a5]
    all_goals first|exact aD (bad rfl) Z|exact⟨(i+1,tk),⟨z,M,λe=>(by rw[B,aF (eN a4),cK];exact hn e),hf⟩,bD,⟨by rw[B,aF (eN a4),cK],aR i aB⟩,q0 (eN a4)⟩|skip
   refine tC _ _ _ _ ?_;cases a2:cA x.text<;>rw[a2]at M bad<;>simp only[go_sem,Y,z,G,f1,O,beq_true,beq_false]
   .cases a4:decide (x.sort=[])<;>cases a5:decide (x.text=[])<;>rw[a4]at M bad<;>rw[a5]at M bad<;>simp only[go_sem,Y,z,G,f1,O,a4,a5]
    all_goals first|exact aD (bad rfl) Z|exact⟨(i+1,tk),⟨z,M,λe=>(by rw[B,aF (eN a4),cK];exact hn e),hf⟩,bD,⟨by rw[B,aF (eN a4),cK],aR i aB⟩,q0 (eN a4)⟩|skip
    refine⟨by decide,λy hy=>(by rw[bS.1 hy];rfl),fJ rfl rfl (by rw[aW];exact iS hn) (λy hy=>eI hy) (by simp only[aW,bB,bQ];omega) (λu hu=>?_)⟩;have b1:=kB hu (λt e=>hf t e);rw[kF hu];simp only[go_sem,Y,z,G,f1,O];refine⟨(i+1,some u),⟨z,M,λh=>(by cases h),λt h=>by cases h;exact b1⟩,bD,⟨?_,aR i aB⟩,?_⟩
    .rw[B,aE (of_decide_eq_false a4),cB];rfl
    .show St.ge _ (S.setT u ((nZ (o.pieces.take (i+1))).length,9));rw[B,aE (of_decide_eq_false a4),aG];exact dV H
   cases a3:decide (20<x.text.length)<;>rw[a3]at M bad<;>simp only[go_sem,Y,z,G,f1,O,b2,a3,beq_true,beq_false]
   .cases a4:decide (x.sort=[])<;>cases a5:decide (x.text=[])<;>rw[a4]at M bad<;>rw[a5]at M bad<;>simp only[go_sem,Y,z,G,f1,O,a4,a5]
    all_goals first|exact aD (bad rfl) Z|exact⟨(i+1,tk),⟨z,M,λe=>(by rw[B,aF (eN a4),cK];exact hn e),hf⟩,bD,⟨by rw[B,aF (eN a4),cK],aR i aB⟩,q0 (eN a4)⟩|skip
   .cases a4:decide (x.sort=[])<;>cases a5:decide (x.text=[])<;>rw[a4]at M bad<;>rw[a5]at M bad<;>simp only[go_sem,Y,z,G,f1,O,a4,a5]
    all_goals first|exact aD (bad rfl) Z|exact⟨(i+1,tk),⟨z,M,λe=>(by rw[B,aF (eN a4),cK];exact hn e),hf⟩,bD,⟨by rw[B,aF (eN a4),cK],aR i aB⟩,q0 (eN a4)⟩|skip
    refine⟨by decide,λy hy=>(by rw[bS.1 hy];rfl),fJ rfl rfl (by rw[aW];exact iS hn) (λy hy=>eI hy) (by simp only[aW,bB,bQ];omega) (λu hu=>?_)⟩;have b1:=kB hu (λt e=>hf t e);rw[kF hu];simp only[go_sem,Y,z,G,f1,O];refine⟨(i+1,some u),⟨z,M,λh=>(by cases h),λt h=>by cases h;exact b1⟩,bD,⟨?_,aR i aB⟩,?_⟩
    .rw[B,aE (of_decide_eq_false a4),cB];rfl
    .show St.ge _ (S.setT u ((nZ (o.pieces.take (i+1))).length,9));rw[B,aE (of_decide_eq_false a4),aG];exact dV H
  .have b6:=bI hi h;subst b6;rw[bK]at U hn;rw[bK];have b2:decide (((o.pieces.length:Nat):Int)<=20)=!decide (20<o.pieces.length):=by rw[<-decide_not,bW];omega
   rw[U]at hk;cases c1:decide (20<o.pieces.length)<;>rw[c1]at hk<;>simp only[go_sem,O,b2,c1]
   .refine gL (show gO [gv tk ((nZ o.pieces).map .str),.list none (o.args.map .str)] [.list none ((nZ o.pieces).map .str),.list none (o.args.map .str)] from⟨nM _ _ λe=>by rw[eK (hn e)];rfl,cN _,trivial⟩) (aQ9 _ _ _ _ _ ?_);simp only[go_sem];exact aD hk (eJ b0 hf)
   .exact aD hk (eJ b0 hf)
theorem aPB(o:Opr)(q:Nat)(y:s.getO q=some (.cells 80 o.cs))(i:Int)(u:KV s (.bool (decide (1<=i)&&decide (i<=o.args.length)))):Den cx 125 [.int .i64 i,.ptr q 0] KV Kp s:=by
 simp only[Opr.cs]at y;(refine aO func125 [0,1,3] ?_;simp only[go_sem,ntmps125,f125])
 (repeat' (first|exact aD u aK|((apply aI<;>intro h)<;>simp only[go_sem,h,y]<;>(try simp only[h,dD,eY,dT,gY,mP,kQ,iZ,gJ,eO,fN]at u))))
theorem aQB(h:BookAt s r sg)(o:Opr)(U:o.name.length<=4611686018427387904)(Z:o.pieces.length<=4294967000)(O:o.args.length<=4294967000)(B:KV s (.bool (vJ sg o))):Den cx 70 [.ptr r 0,.agg o.cs] KV Kp s:=by
 have h0:=h;obtain⟨a,oo,f,ma,mo,mf,hr,ha,ho,hf,la,lo,lf⟩:=h;unfold vJ at B;(refine aO func70 [0,1,3,4,5,7,8,9,10,49] ?_;simp only[go_sem,ntmps70,f70]);(refine aL λp Y=>?_);have f1:=aM hr Y;have z:(s.setO p (.cells 80 o.cs)).ge s:=aZ Y (aC s);have H:(s.setO p (.cells 80 o.cs)).getO p=some (.cells 80 o.cs):=by rw[aX,aF rfl]
 simp only[go_sem,Y];generalize M:s.setO p (.cells 80 o.cs)=S at z H;simp only[Opr.cs]at M;rw[M];clear M;have hB:=h0.ge z;have gr:=z.ob _ _ hr;have u:=H;simp only[Opr.cs]at u;refine aLm _ _ _ _ U ?_
 have b0:(if mB o.name=true then A.tuple [.str (o.name.take (o.name.length-2)),.str (o.name.drop (o.name.length-2))] else A.tuple [.str o.name,.str []])=A.tuple [.str (if mB o.name=true then o.name.take (o.name.length-2) else o.name),.str (if mB o.name=true then o.name.drop (o.name.length-2) else [])]:=by
  cases mB o.name<;>rfl
 rw[b0];simp only[go_sem,u,gr];(refine bX (OT.r 0 33) [(1,[5,10,16,27,29]),(6,[10,16,27,29]),(19,[27,29])] ?_;simp only[go_sem,u,gr]);rw[show rQ o.name=cA (if mB o.name=true then o.name.take (o.name.length-2) else o.name) from rfl]at B;generalize (if mB o.name=true then o.name.take (o.name.length-2) else o.name)=nm at B⊢;generalize (if mB o.name=true then o.name.drop (o.name.length-2) else [])=rs;have f8:decide ((8:Int)<((o.args.length:Nat):Int))=decide (8<o.args.length):=by rw[bW];omega
 have G:decide ((0:Int)<((o.pieces.length:Nat):Int))=decide (0<o.pieces.length):=by rw[bW];omega
 repeat' (first|exact aD B z|(refine tC _ _ _ _ ?_;simp only[go_sem,u,gr,f8,G])|(refine aDl _ _ _ _ ?_;simp only[go_sem,u,gr,f8,G])|(refine qK _ _ _ _ _ ?_;simp only[go_sem,u,gr,f8,G])|(refine aDI o.args (cD sg) 68 [.ptr r 0] [] _ _ _ (λx hx s' KV Kp y B=>sY (hB.ge y) x B) ?_;simp only[go_sem,u,gr,f8,G])|(refine aRq o.strict (λi=>decide (1<=i)&&decide (i<=(o.args.length:Int))) 125 [] [.ptr p 0] _ _ _ (λx hx s' KV Kp y B=>aPB o p (y.ob _ _ H) x B) ?_;simp only[go_sem,u,gr,f8,G])|((apply aI<;>intro h)<;>simp only[go_sem,h,u,gr,f8,G]<;>(try simp only[fV,aF2]at h)<;>(try simp only[h,dD,eY,eO,fN,kQ,gJ,dT,gY]at B)))
 all_goals
  refine aPF _ _ _ _ (λs' y=>?_);have g2:=y.ob _ _ u;cases c7:decide o.strict.Nodup<;>rw[c7]at B<;>simp only[go_sem,g2,c7]
  .exact aD B (y.trans z)
  .refine aPa o Z O ?_;simp only[go_sem];exact aD B (y.trans z)
theorem aRh(sg:Sig)(hb:sg.ops.length+sg.funs.length<=4294967000)(ho:∀o,o∈sg.ops->o.name.length<=4611686018427387904/\o.pieces.length<=4294967000/\o.args.length<=4294967000)(z:KV s (.bool (qN sg))):Den cx 25 [.agg sg.cs] KV Kp s:=by
 unfold qN at z;have z1:decide ((40:Int)<((sg.sorts.length:Nat):Int))=decide (40<sg.sorts.length):=by rw[bW];omega
 have z2:decide ((200:Int)<((sg.below.length:Nat):Int))=decide (200<sg.below.length):=by rw[bW];omega
 have z3:decide ((200:Int)<((sg.ops.length:Nat):Int)+((sg.funs.length:Nat):Int))=decide (200<sg.ops.length+sg.funs.length):=by rw[bW];omega
 (refine aO func25 [0,1,2,3,4,36,58] ?_;simp only[go_sem,ntmps25,f25]);(refine aL λp hp=>?_);have G:(s.setO p (.cells 26 sg.cs)).ge s:=aZ hp (aC s);have gp:(s.setO p (.cells 26 sg.cs)).getO p=some (.cells 26 sg.cs):=by rw[aX,aF rfl]
 have w3:IntKind.i64.wrap (((sg.ops.length:Nat):Int)+((sg.funs.length:Nat):Int))=((sg.ops.length:Nat):Int)+((sg.funs.length:Nat):Int):=gT _ aB aB;simp only[go_sem,hp,z1];generalize hS:s.setO p (.cells 26 sg.cs)=S at G gp;simp only[Sig.cs]at hS gp;rw[hS];clear hS;cases c1:decide (40<sg.sorts.length)<;>rw[c1]at z<;>simp only[go_sem,gp,z1,c1,z2]
 rotate_left
 .exact aD z G
 cases c2:decide (200<sg.below.length)<;>rw[c2]at z<;>simp only[go_sem,gp,z1,c1,z2,c2,z3,w3]
 rotate_left
 .exact aD z G
 cases c3:decide (200<sg.ops.length+sg.funs.length)<;>rw[c3]at z<;>simp only[go_sem,gp,z1,c1,z2,c2,z3,c3]
 rotate_left
 .exact aD z G
 refine aP9 _ _ _ _ (λS1 b4=>?_);have b7:=b4.ob _ _ gp;cases c4:decide sg.below.Nodup<;>rw[c4]at z<;>simp only[go_sem,b7,c4]
 .exact aD z (b4.trans G)
 refine aBT _ _ _ _ (λS2 b8=>?_);have b0:=b8.trans (b4.trans G);have b2:=b8.ob _ _ b7;clear gp G b7 b4 b8;cases c5:decide sg.values.Nodup<;>rw[c5]at z<;>simp only[go_sem,b2,c5]
 .exact aD z b0
 (refine bX (OT.l [0,1,2,3,4,5,6,7,8,9,10,11,12,13,15,16,14,17,18,19,20,21] .nil) [(2,[6,13,16]),(8,[13,16]),(14,[16])] ?_;simp only[go_sem,b2]);refine aBT _ _ _ _ (λB b9=>?_);have O:=b9.ob _ _ b2;have b1:=b9.trans b0;clear b2 b0 b9;cases c6:decide sg.sorts.Nodup<;>rw[c6]at z<;>simp only[go_sem,O,c6]
 .exact aD z b1
 refine aDI sg.sorts zG 61 [] [] _ _ _ (λx _ s' KV Kp _ z=>aQt x z) ?_;cases c7:sg.sorts.all zG<;>rw[c7]at z<;>simp only[go_sem,O,c6]
 .exact aD z b1
 refine aJ0 sg.ops aB (λta bh bf=>?_);simp only[go_sem,O];refine aJ0 sg.funs aB (λtb bp bg=>?_);simp only[go_sem,O];have ga:(gs B ta sg.ops.length 9).ge B:=eJ (aC B) bf;have bj:ta=none->sg.ops.length=0:=λe=>by rw[bh e];rfl
 have Y:∀Z:A,Z.le (.list none ((sg.ops.map Opr.name++sg.funs.map Opr.name).map .str))->gO [Z] [.list none ((sg.ops.map Opr.name++sg.funs.map Opr.name).map .str)]:=λZ h=>⟨h,trivial⟩
 have bm:∀t,tb=some t->mN (gs (gs B ta sg.ops.length 9) (some t) sg.funs.length 9) ta sg.ops.length 9:=λt ht=>by
  cases ta with
  | none=>exact bj rfl
  | some a =>
   show(gs (gs B (some a) sg.ops.length 9) (some t) sg.funs.length 9).getT a=_;rw[sA,aE (λe=>by cases e;have:=bg t ht;rw[sA,aF rfl]at this;cases this),sA,aF rfl]
 have bn:∀t u v,tb=some t->(ta=some u\/ta=none/\(gs (gs B ta sg.ops.length 9) (some t) sg.funs.length 9).getT u=none)->((gs (gs B ta sg.ops.length 9) (some t) sg.funs.length 9).setT u v).ge B:=λt u v ht hu=>by
  have g1:(gs (gs B ta sg.ops.length 9) (some t) sg.funs.length 9).ge B:=eJ ga (λx e=>by cases e;exact bg t ht)
  have g2:B.getT u=none:=by
   rcases hu with e|⟨_,e⟩
   .exact bf u e
   .cases h0:B.getT u with
    | none=>rfl
    | some v=>rw[g1.tk _ _ h0]at e;cases e
  refine⟨λq o hq=>g1.ob q o hq,λx y hx=>?_,λy hy=>g1.ls y hy⟩;rw[fE,aE (λe=>by rw[<-e,g2]at hx;cases hx)];exact g1.tk x y hx
 cases tb
 case' some t =>
  simp only[go_sem,nW];refine⟨by decide,λy hy=>eI hy,fJ rfl rfl (by simp only[aW];exact bm t rfl) (λy hy=>eI hy) (by simp only[aW];omega) (λu hu=>?_)⟩;simp only[go_sem];refine gL (Y _ (by rw[cB];exact A.le.forget _ _)) (aBT _ _ _ _ (λS4 U=>?_));have b5:S4.ge B:=U.trans (bn t u _ rfl hu)
 case' none =>
  have bd:sg.funs=[]:=bp rfl;simp only[go_sem,aMD];refine⟨rfl,?_⟩;cases ta
  case' none =>
   have bq:sg.ops=[]:=bh rfl;simp only[go_sem,aMD];refine gL (Y _ (by rw[bq,bd];exact A.le.nil)) (aBT _ _ _ _ (λS4 U=>?_));have b5:S4.ge B:=U
  case' some t =>
   simp only[go_sem,nW];refine gL (Y _ (by rw[bd,eZ,cK];exact A.le.forget _ _)) (aBT _ _ _ _ (λS4 U=>?_));have b5:S4.ge B:=U.trans ga
 all_goals
  have bb:=b5.ob _ _ O;have b6:=b5.trans b1;cases c8:decide (sg.ops.map Opr.name++sg.funs.map Opr.name).Nodup<;>rw[c8]at z<;>simp only[go_sem,bb,c8]
  .exact aD z b6
  .refine aDL sg (by have:=of_decide_eq_false c2;omega) (by have:=of_decide_eq_false c1;omega) _ _ _ (λS5 r bc hB=>?_);have b3:=bc.ob _ _ bb;have M:=bc.trans b6;simp only[go_sem,b3];refine aRp sg.below (yU sg) 67 [.ptr r 0] [] _ _ _ (λx hx s' KV Kp H z=>aPk (hB.ge H) x z) ?_;cases c9:sg.below.all (yU sg)<;>rw[c9]at z<;>simp only[go_sem,b3]
   .exact aD z M
   refine aDI sg.values (cD sg) 68 [.ptr r 0] [] _ _ _ (λx hx s' KV Kp H z=>sY (hB.ge H) x z) ?_;cases bk:sg.values.all (cD sg)<;>rw[bk]at z<;>simp only[go_sem,b3]
   .exact aD z M
   refine aKg sg.ops (vJ sg) 70 [.ptr r 0] [] _ _ _ (λx hx s' KV Kp H z=>aQB (hB.ge H) x (ho x hx).1 (ho x hx).2.1 (ho x hx).2.2 z) ?_;cases bl:sg.ops.all (vJ sg)<;>rw[bl]at z<;>simp only[go_sem,b3]
   .exact aD z M
   refine aKg sg.funs (wY sg) 71 [.ptr r 0] [] _ _ _ (λx hx s' KV Kp H z=>aPZ (hB.ge H) x z) ?_;simp only[go_sem];exact aD z M
end
end
end Go.AV
section
open Go.Proofs.Tryz
namespace Go.AV
open Go Go.Proofs
end Go.AV
end
namespace Go.AV
open Go Go.Proofs Tryz
theorem aQX(m:Nat):∀(xs:List Tm) (l d:Int) (s:St) (KV Kp:St->A->Prop),SizeOf.sizeOf xs<m->(∀n:Int,KV s (.int .i64 n))->Den cx 49 [.list none (xs.map Tm.enc),.int .i64 l,.int .i64 d] KV Kp s:=by
 induction m with
 | zero=>intro xs l d s KV Kp Z;omega
 | succ m U =>
 intro xs l d s KV Kp Z z;refine gC λM=>?_
 have B:=M _ (bY ..);(refine aO func49 [0,1,2,6,8,10,11,12,13,14,29,43] ?_;simp only[go_sem,ntmps49,f49])
 (apply aI<;>intro h)<;>simp only[go_sem,h]
 .exact aS (z _)
 refine Ex.loop (ι:=Int × Nat) (λc=>[(1,.int .i64 c.1),(2,.int .i64 d),(11,.list none (xs.map Tm.enc)),(12,.int .i64 xs.length),(13,.int .i64 (c.2:Nat))]) (λ_=>s)
  (λc=>c.2<=xs.length) (λc=>xs.length-c.2) (l,0) (aN _) ?_ (aC s) ?_
 ·(simp only[go_sem];try exact rfl)
 .clear h;rintro⟨l,i⟩ Y;simp only at Y;refine aQ (V:=[0,1,2,6,8,10,11,12,13,14,29,43]) _ _ _ _ ?_;simp only[go_sem]
  (apply aI<;>intro h)<;>simp only[go_sem,h]
  .have y:i<xs.length:=gQ h;obtain⟨x,G⟩:=aU y;have H:x∈xs:=bA G;have b0:=List.sizeOf_lt_of_mem H;have O:SizeOf.sizeOf x.kids<SizeOf.sizeOf x:=by cases x;simp only[Tm.kids,Tm.mk.sizeOf_spec];omega
   have S:SizeOf.sizeOf x.rest<SizeOf.sizeOf x:=by cases x;simp only[Tm.rest,Tm.mk.sizeOf_spec];omega
   clear h;simp only[go_sem,G,y];(refine aL λb8 u=>?_);simp only[go_sem,G,y,u,Int.reduceEq]
   (apply aI<;>intro h)<;>simp only[go_sem,h,u]
   .exact aD (z _) aK
   clear h;refine U x.kids _ _ _ _ _ aB (λn1=>?_);simp only[go_sem,u];refine U x.rest _ _ _ _ _ aB (λn2=>?_);simp only[go_sem,u]
   (apply aI<;>intro h)<;>simp only[go_sem,h,u]
   .exact aD (z _) aK
   exact⟨(n2,i+1),y,bD,by simp only[go_sem,B.wrap (i:=i) (gQ y)],(eW u)⟩
  .exact aS (z _)
theorem aQY(xs:List Tm)(l d:Int)(s:St)(KV Kp:St->A->Prop)(h:∀n:Int,KV s (.int .i64 n)):Den cx 49 [.list none (xs.map Tm.enc),.int .i64 l,.int .i64 d] KV Kp s :=
 aQX _ xs l d s KV Kp (dZ _) h
theorem aSv(xs:List Tm)(l:Int)(s:St)(KV Kp:St->A->Prop)(h:∀b:Bool,KV s (.bool b)):Den cx 19 [.int .i64 l,.list none (xs.map Tm.enc)] KV Kp s:=by
 (refine aO func19 [0,1,4] ?_;simp only[go_sem,ntmps19,f19]);refine aQY xs _ _ _ _ _ (λn=>?_);simp only[go_sem];exact aS (h _)
def ev(tk:Option Nat)(es:List A):A:=match tk with
 | none=>.emp
 | some t=>.list (some t) es
@[go_sem] theorem aYD(tk:Option Nat)(es:List A):(ev tk es).cells=[ev tk es]:=by cases tk<;>rfl
@[go_sem] theorem aZB(tk:Option Nat)(es:List A):(ev tk es).one=true:=by cases tk<;>rfl
@[go_sem] theorem aZC(s:St)(tk:Option Nat)(es:List A):iM s (ev tk es)=ev tk es:=by cases tk<;>rfl
theorem aAX{tk:Option Nat}{es:List A}(h:tk=none->es=[]):lenS (ev tk es)=some (.int .i64 es.length):=by
 cases tk with
 | none=>rw[h rfl];rfl
 | some t=>rfl
theorem mA{s:St}{e:TypeId}{H:TI}{ys:List A}{KV:St->A->Prop}{tk:Option Nat}{es:List A}(U:tk=none->es=[])(S:∀t,tk=some t->s.getT t=some (es.length,e))
  (O:∀y,y∈es->y.cells.length=H.sz)(hl:es.length+ys.length<=4294967296)
  (B:∀z,(z=none->es++ys=[])->(∀t,z=some t->tk=some t\/s.getT t=none)->KV (gs s z (es.length+ys.length) e) (ev z (es++ys))):oL cx s e H ys KV (ev tk es):=by
 cases tk with
 | none =>
  have M:=U rfl;subst M;cases ys with
  | nil=>exact B none (λ_=>rfl) (λt h=>by cases h)
  | cons y r =>
   refine⟨⟨gQ hl,Nat.succ_pos _⟩,λt Y=>?_⟩;have:=B (some t) (λh=>by cases h) (λu G=>by cases G;exact .inr Y);simpa [gs,ev]using this
 | some t=>exact⟨S t rfl,O,hl,B (some t) (λh=>by cases h) (λu G=>.inl G)⟩
theorem vC{S s:St}{u y:Option Nat}{Z n2:Nat}{e:TypeId}(B:S.ge s)(H:∀t,u=some t->(none:Option Nat)=some t\/S.getT t=none)(M:∀t,y=some t->u=some t\/∃n,(gs S u n e).getT t=none) :
  (gs (gs S u Z e) y n2 e).ge s:=by
 have G:∀t,u=some t->S.getT t=none:=λt h=>(H t h).elim (λh=>by cases h) id
 refine⟨λb o U=>by rw[mM,mM];exact B.ob b o U,λt m O=>?_,λx Y=>by cases u<;>cases y<;>exact B.ls x Y⟩;have z:=B.tk t m O;have g1:u≠some t:=λh=>by rw[G t h]at z;cases z
 have g2:y≠some t:=λh=>by
  rcases M t h with h|⟨n,h⟩
  .exact g1 h
  .rw[sA,aE g1,z]at h;cases h
 rw[sA,aE g2,sA,aE g1];exact z
theorem aA0{l:List Opr}{y:A}(h:y∈l.map Opr.enc):y.cells.length=7:=by
 obtain⟨z,_,rfl⟩:=cW.1 h;rfl
theorem aSw(x:Sig)(hB:x.ops.length+x.funs.length<=4294967296)(s:St)(KV Kp:St->A->Prop)(M:∀b:Bool,KV s (.bool b)):Den cx 18 [.agg x.cs] KV Kp s:=by
 simp only[go_sem];(refine aO func18 [0,1,2,3,5,31,38,39,40,41,58] ?_;simp only[go_sem,ntmps18,f18]);(refine aL λp z=>?_);simp only[go_sem,z]
 (apply aI<;>intro h)<;>simp only[go_sem,h,z]
 .exact aD (M _) aK
 clear h
 (apply aI<;>intro h)<;>simp only[go_sem,h,z]
 .exact aD (M _) aK
 clear h
 (apply aI<;>intro h)<;>simp only[go_sem,h,z]
 .exact aD (M _) aK
 clear h
 (apply aI<;>intro h)<;>simp only[go_sem,h,z]
 .exact aD (M _) aK
 clear h;(refine bX (OT.l [0,1,2,4,5,8,3,6,7] .nil) [(3,[5])] ?_;simp only[go_sem,z]);refine⟨by decide,λy H=>aA0 H,mA (tk:=none) (es:=[]) (λ_=>rfl) (λt h=>by cases h) (λy H=>by cases H) (by simp only[aW,bQ];omega) (λb2 b1 Z=>?_)⟩;simp only[go_sem,z];refine⟨by decide,λy H=>aA0 H,mA (λh=>by simpa using b1 h) (λt Y=>by rw[tK t Y];simp) (λy H=>aA0 (gQ H)) (by simp only[aW,bQ,bE];omega) (λB S b0=>?_)⟩;simp only[go_sem,z,aAX S]
 have U:B=none->x.ops++x.funs=[]:=λh=>by
  have:=S h;simpa using this
 have hV:∀(i:Nat) (o:Opr),(x.ops++x.funs)[i]?=some o->∃t,ev B (List.map Opr.enc x.ops++List.map Opr.enc x.funs)=.list (some t) ((x.ops++x.funs).map Opr.enc):=λi o O=>by
  cases B with
  | none =>
   rw[U rfl]at O;cases O
  | some t=>exact⟨t,by rw[cB];rfl⟩
 refine Ex.loop (ι:=Int × Nat) (λc=>[(3,.int .i64 c.1),(38,ev B (List.map Opr.enc x.ops++List.map Opr.enc x.funs)),(39,.int .i64 ((x.ops++x.funs).length:Nat)),(40,.int .i64 (c.2:Nat))]) (λ_=>s)
  (λc=>c.2<=(x.ops++x.funs).length) (λc=>(x.ops++x.funs).length-c.2) (0,0) (aN _) ?_ ?_ ?_
 ·(simp only[go_sem,z];try simp)
 .exact vC aK Z (λt h=>(b0 t h).imp id (λh=>⟨_,h⟩))
 .rintro⟨n,i⟩ hi;simp only at hi;refine aQ (V:=[0,1,2,3,5,31,38,39,40,41,58]) _ _ _ _ ?_;simp only[go_sem]
  (apply aI<;>intro h)<;>simp only[go_sem,h]
  .have u:i<(x.ops++x.funs).length:=gQ h;clear h;obtain⟨o,O⟩:=aU u;obtain⟨t,Y⟩:=hV i o O;simp only[go_sem,Y,O,u];(refine aL λb5 G=>?_);simp only[go_sem,Y,O,u,G]
   (apply aI<;>intro h)<;>simp only[go_sem,h,G]
   .exact aD (M _) aK
   clear h;exact⟨(_,i+1),u,bD,⟨rfl,aR i (by rw[aG]at u;omega)⟩,(eW G)⟩
  .exact aS (M _)
theorem aUy(x:Tm):x.enc.cells.length=6:=by rw[fZ];rfl
theorem hU{l:List Tm}{y:A}(h:y∈l.map Tm.enc):y.cells.length=6:=by
 obtain⟨z,_,rfl⟩:=cW.1 h;exact aUy z
def eqW(e:Eqn):Nat:=2+e.cond.length
def aCS(p:Part):Nat:=1+p.right.length
def aC5(r:Rul):Nat:=(r.parts.map aCS).sum+(r.cond.length+(r.new.map λf=>f.cells.length).sum)
def zT(d:Dfn):Nat:=(d.eqs.map eqW).sum+(d.once.length+(d.many.length+(d.rules.map aC5).sum))
theorem aB3{α:Type}{l:List α}{i:Nat}{x:α}(h:l[i]?=some x):l.drop i=x::l.drop (i+1):=by
 obtain⟨u,rfl⟩:=cX.1 h;exact rA u
theorem tF(s:St)(t:Nat)(v w:Nat × TypeId):(s.setT t v).setT t w=s.setT t w:=by simp only[St.setT,aAW]
theorem tI{l:List Cel}{y:A}(h:y∈l.map Cel.enc):y.cells.length=10:=by
 obtain⟨z,_,rfl⟩:=cW.1 h;rfl
def uF(s:St)(l:List Tm)(tk:Option Nat):Prop:=(tk=none->l=[])/\∀t,tk=some t->s.getT t=none
theorem aGv(x:Dfn)(hB:(bZ x).length<=4294967296)(s:St)(KV Kp:St->A->Prop)(hk:KV s (.list none ((bZ x).map Tm.enc))):Den cx 20 [.agg x.cs] KV Kp s:=by
 generalize hD:bZ x=D at hB hk;have bc:x.eqs.flatMap dH++((x.once++x.many).map Cel.init++x.rules.flatMap fD)=D:=hD
 have c0:x.once.length+x.many.length<=4294967296:=by
  have:=jF List.length bc;simp only[aG,aW]at this;omega
 clear hD;refine gC λbl=>?_
 have bm:=bl _ (bY ..);have bq:Rlz (.list none (x.eqs.map Eqn.enc)):=bm.cell (by simp[Dfn.cs]);have bk:Rlz (.list none (x.rules.map Rul.enc)):=bm.cell (by simp[Dfn.cs]);clear bl;simp only[go_sem];(refine aO func20 aBw ?_;simp only[go_sem,ntmps20,Tryz.f20]);(refine aL λp U=>?_);simp only[go_sem,U]
 refine Ex.loop (ι:=(List Tm × Option Nat) × Nat) (λc=>[(1,.ptr p 0),(3,gv c.1.2 (c.1.1.map Tm.enc)),(15,.list none (x.eqs.map Eqn.enc)),(16,.int .i64 x.eqs.length),(17,.int .i64 (c.2:Nat))])
  (λc=>gs (s.setO p (.cells 31 x.cs)) c.1.2 c.1.1.length 67)
  (λc=>uF s c.1.1 c.1.2/\c.2<=x.eqs.length/\c.1.1++((x.eqs.drop c.2).flatMap dH++((x.once++x.many).map Cel.init++x.rules.flatMap fD))=D) (λc=>x.eqs.length-c.2) (([],none),0) ⟨⟨λ_=>rfl,λt e=>(by cases e)⟩,aN _,bc⟩ ?_ (by exact aC _) ?_
 ·(simp only[go_sem,U];try exact⟨rfl,rfl⟩)
 ·rintro ⟨⟨l,tk⟩,i⟩ ⟨⟨B,z⟩,hi,hl⟩;simp only at B z hi hl;refine aQ (V:=aBw) _ _ _ _ ?_;simp only[go_sem,U]
  (apply aI<;>intro h)<;>simp only[go_sem,h,U]
  .have H:i<x.eqs.length:=gQ h;clear h;obtain⟨e,he⟩:=aU H;rw[aB3 he,gR]at hl;have hL:=jF List.length hl;simp only[aG,dH,bB]at hL;simp only[go_sem,U,he,H];(refine oS λb5 b3=>?_);simp only[go_sem,U,he,H,b3];(refine bX (OT.l [0,1,2,3,4,7,8,5,6,9,10] .nil) [(5,[8]),(6,[8])] ?_;simp only[go_sem,U,he,H,b3]);refine⟨by decide,λy G=>?_,fJ rfl rfl (by rw[aW];exact iS λe=>by rw[B e];rfl) (λy G=>hU G) (by simp only[aW,bB,bQ];omega) (λu Y=>?_)⟩
   .simp only[cR,nE,dW]at G;rcases G with rfl|rfl<;>rfl
   have S:=kB Y z;rw[kF Y];simp only[go_sem,U,he,H,b3];refine⟨by decide,λy G=>hU G,by simp only[aG,aW,bB,bQ],λy G=>?_,by simp only[aG,aW,bB,bQ];omega,?_⟩
   .simp only[bT,cR,nE,dW]at G;rcases G with G|rfl|rfl
    .exact hU G
    .rfl
    .rfl
   refine⟨((l++[e.left,e.right]++e.cond,some u),i+1),⟨⟨λh=>(by cases h),λt h=>by cases h;exact S⟩,H,by rw[<-hl];simp only[dH,dO,bL,bE]⟩,bD,?_,?_⟩
   .simp only[go_sem,bq.wrap (i:=i) (gQ H),nW,cB]
   .have e1:∀a b:A,(List.map Tm.enc l++[a,b]).length+e.cond.length=(l++[e.left,e.right]++e.cond).length:=λa b=>by simp only[aG,aW,bB,bQ]
    rw[tF,e1];exact dV (eW (And.intro U b3))
  .have b1:=bI hi h;clear h;rw[b1,dB (bF _),rV,bE]at hl;(refine bX (OT.l [0,1,2,4,5,8,3,6,7] .nil) [(3,[5])] ?_;simp only[go_sem,U]);refine⟨by decide,λy G=>tI G,mA (tk:=none) (es:=[]) (λ_=>rfl) (λt h=>by cases h) (λy G=>by cases G) (by simp only[aW,bQ];omega) (λc1 bh bd=>?_)⟩;simp only[go_sem,U];refine⟨by decide,λy G=>tI G,mA (λh=>by simpa using bh h) (λt ht=>by rw[tK t ht];simp) (λy G=>tI (gQ G)) (by simp only[aW,bQ,bE];omega) (λb6 bb bf=>?_)⟩;simp only[go_sem,U,aAX bb]
   have bj:b6=none->x.once++x.many=[]:=λh=>by
    have:=bb h;simpa using this
   have hV:∀(i:Nat) (o:Cel),(x.once++x.many)[i]?=some o->∃t,ev b6 (List.map Cel.enc x.once++List.map Cel.enc x.many)=.list (some t) ((x.once++x.many).map Cel.enc):=λi o ho=>by
    cases b6 with
    | none =>
     rw[bj rfl]at ho;cases ho
    | some t=>exact⟨t,by rw[cB];rfl⟩
   have b2:=hl;have bz:(x.once++x.many).length=x.once.length+x.many.length:=aG
   refine Ex.loop (ι:=(List Tm × Option Nat) × Nat) (λc=>[(1,.ptr p 0),(3,gv c.1.2 (c.1.1.map Tm.enc)),(38,ev b6 (List.map Cel.enc x.once++List.map Cel.enc x.many)),(39,.int .i64 ((x.once++x.many).length:Nat)),(40,.int .i64 (c.2:Nat))])
    (λc=>gs (s.setO p (.cells 31 x.cs)) c.1.2 c.1.1.length 67)
    (λc=>uF s c.1.1 c.1.2/\c.2<=(x.once++x.many).length/\c.1.1++(((x.once++x.many).drop c.2).map Cel.init++x.rules.flatMap fD)=D) (λc=>(x.once++x.many).length-c.2) ((l,tk),0) ⟨⟨B,z⟩,aN _,b2⟩ ?_ (by exact vC (aC _) bd (λt h=>(bf t h).imp id (λh=>⟨_,h⟩))) ?_
   ·(simp only[go_sem,U];try simp)
   .clear bf bd bh B z hl hi bb b2;rintro⟨⟨l,tk⟩,i⟩ ⟨⟨B,z⟩,hi,hl⟩;simp only at B z hi hl;refine aQ (V:=aBw) _ _ _ _ ?_;simp only[go_sem,U]
    (apply aI<;>intro h)<;>simp only[go_sem,h,U]
    .have H:i<(x.once++x.many).length:=gQ h;clear h;obtain⟨o,ho⟩:=aU H;obtain⟨t,ht⟩:=hV i o ho;rw[aB3 ho,cC]at hl;have hL:=jF List.length hl;simp only[aG,bB]at hL;simp only[go_sem,U,ht,ho,H];(refine oS λb7 b8=>?_);simp only[go_sem,U,ht,ho,H,b8];refine⟨by decide,λy G=>by simp only[bS]at G;subst G;rfl,fJ rfl rfl (by rw[aW];exact iS λe=>by rw[B e];rfl) (λy G=>hU G) (by simp only[aW,bB,bQ];omega) (λu Y=>?_)⟩;have S:=kB Y z;rw[kF Y];simp only[go_sem,U,ht,ho,H,b8];refine⟨((l++[o.init],some u),i+1),⟨⟨λh=>(by cases h),λt h=>by cases h;exact S⟩,H,by rw[<-hl];simp only[dO,bL,bE]⟩,bD,?_,?_⟩
     .simp only[go_sem,aR i aB,nW,cB]
     .rw[show l.length+1=(l++[o.init]).length by simp only[aG,bB,bQ]];exact dV (eW (And.intro U b8))
    .have b1:=bI hi h;clear h;rw[b1,dB (bF _),eZ,bE]at hl;have b2:=hl;clear hi hl
     refine Ex.loop (ι:=(List Tm × Option Nat) × Nat) (λc=>[(3,gv c.1.2 (c.1.1.map Tm.enc)),(51,.list none (x.rules.map Rul.enc)),(52,.int .i64 x.rules.length),(53,.int .i64 (c.2:Nat))])
      (λc=>gs s c.1.2 c.1.1.length 67)
      (λc=>uF s c.1.1 c.1.2/\c.2<=x.rules.length/\c.1.1++(x.rules.drop c.2).flatMap fD=D) (λc=>x.rules.length-c.2) ((l,tk),0) ⟨⟨B,z⟩,aN _,b2⟩ ?_ ?_ ?_
     ·(simp only[go_sem,U];first|done|exact rfl|exact⟨rfl,rfl⟩)
     .exact aCD (aGS (aCt U (aDY _ _ _)))
     .clear B z b2;rintro⟨⟨l,tk⟩,i⟩ ⟨⟨B,z⟩,hi,hl⟩;simp only at B z hi hl;refine aQ (V:=aBw) _ _ _ _ ?_;simp only[go_sem]
      (apply aI<;>intro h)<;>simp only[go_sem,h]
      .have H:i<x.rules.length:=gQ h;clear h;obtain⟨r,hr⟩:=aU H;rw[aB3 hr,gR,fD]at hl;simp only[go_sem,hr,H];(refine oS λb9 O=>?_);simp only[go_sem,hr,H,O];have bn:Rlz (.agg r.cs):=bk.agg_elem (cW.2 ⟨r,bA hr,rfl⟩);have br:Rlz (.list none (r.parts.map Part.enc)):=bn.cell (by simp[Rul.cs]);have bt:Rlz (.list none (r.new.map Fresh.enc)):=bn.cell (by simp[Rul.cs]);have bp:IntKind.i64.wrap ((i:Int)+1)=((i+1:Nat):Int):=bk.wrap (i:=i) (gQ H);generalize hR:(x.rules.drop (i+1)).flatMap fD=R at hl
       refine Ex.loop (ι:=(List Tm × Option Nat) × Nat) (λc=>[(3,gv c.1.2 (c.1.1.map Tm.enc)),(9,.ptr b9 0),(51,.list none (x.rules.map Rul.enc)),(52,.int .i64 x.rules.length),(53,.int .i64 (i:Nat)),(58,.list none (r.parts.map Part.enc)),(59,.int .i64 r.parts.length),(60,.int .i64 (c.2:Nat))])
        (λc=>gs (s.setO b9 (.cells 50 r.cs)) c.1.2 c.1.1.length 67)
        (λc=>uF s c.1.1 c.1.2/\c.2<=r.parts.length/\c.1.1++((r.parts.drop c.2).flatMap (λp=>p.left::p.right)++(r.cond++r.new.flatMap Fresh.cells)++R)=D) (λc=>r.parts.length-c.2) ((l,tk),0) ⟨⟨B,z⟩,aN _,hl⟩ ?_ (by exact aC _) ?_
       ·(simp only[go_sem,O];first|done|exact rfl|exact⟨rfl,rfl⟩)
       .clear B z hl;rintro⟨⟨l,tk⟩,j⟩ ⟨⟨B,z⟩,hj,hl⟩;simp only at B z hj hl;refine aQ (V:=aBw) _ _ _ _ ?_;simp only[go_sem,O]
        (apply aI<;>intro h)<;>simp only[go_sem,h,O]
        .have M:j<r.parts.length:=gQ h;clear h;obtain⟨q,hq⟩:=aU M;rw[aB3 hq,gR]at hl;have hL:=jF List.length hl;simp only[aG,bB]at hL;simp only[go_sem,O,hq,M];(refine oS λbv Z=>?_);simp only[go_sem,O,hq,M,Z];(refine bX (OT.l [0,1,2,3,5,6,4,7,8] .nil) [(4,[6])] ?_;simp only[go_sem,O,hq,M,Z]);refine⟨by decide,λy G=>by simp only[bS]at G;subst G;rfl,fJ rfl rfl (by rw[aW];exact iS λe=>by rw[B e];rfl) (λy G=>hU G) (by simp only[aW,bB,bQ];omega) (λu Y=>?_)⟩;have S:=kB Y z;rw[kF Y];simp only[go_sem,O,hq,M,Z];refine⟨by decide,λy G=>hU G,by simp only[aG,aW,bB,bQ],λy G=>?_,by simp only[aG,aW,bB,bQ];omega,?_⟩
         .simp only[bT,bS]at G;rcases G with G|rfl
          .exact hU G
          .rfl
         refine⟨((l++[q.left]++q.right,some u),j+1),⟨⟨λh=>(by cases h),λt h=>by cases h;exact S⟩,M,by rw[<-hl];simp only[dO,bL,bE]⟩,bD,?_,?_⟩
         .simp only[go_sem,br.wrap (i:=j) (gQ M),nW,cB]
         .have e1:∀a:A,(List.map Tm.enc l++[a]).length+q.right.length=(l++[q.left]++q.right).length:=λa=>by simp only[aG,aW,bB,bQ]
          rw[tF,e1];exact dV (eW (And.intro O Z))
        .have b4:=bI hj h;clear h;rw[b4,dB (bF _),rV,bE]at hl;have bg:=hl;have hL:=jF List.length hl;simp only[aG]at hL;clear hl hj b4;refine⟨by decide,λy G=>hU G,fJ rfl rfl (by rw[aW];exact iS λe=>by rw[B e];rfl) (λy G=>hU G) (by simp only[aW];omega) (λu Y=>?_)⟩;have S:=kB Y z;rw[kF Y];simp only[go_sem,O]
         refine Ex.loop (ι:=(List Tm × Option Nat) × Nat) (λc=>[(3,gv c.1.2 (c.1.1.map Tm.enc)),(51,.list none (x.rules.map Rul.enc)),(52,.int .i64 x.rules.length),(53,.int .i64 (i:Nat)),(78,.list none (r.new.map Fresh.enc)),(79,.int .i64 r.new.length),(80,.int .i64 (c.2:Nat))])
          (λc=>gs s c.1.2 c.1.1.length 67)
          (λc=>uF s c.1.1 c.1.2/\c.2<=r.new.length/\c.1.1++((r.new.drop c.2).flatMap Fresh.cells++R)=D) (λc=>r.new.length-c.2) ((l++r.cond,some u),0) ⟨⟨λh=>(by cases h),λt h=>by cases h;exact S⟩,aN _,by rw[<-bg];simp only[aAl,dO]⟩ ?_ ?_ ?_
         ·(simp only[go_sem,O,nW,cB];first|done|exact rfl|exact⟨rfl,rfl⟩)
         .show St.ge _ ((s.setT u ((l++r.cond).length,67)));rw[aG];exact dV (eW O)
         .clear B z bg Y S;rintro⟨⟨l,tk⟩,j⟩ ⟨⟨B,z⟩,hj,hl⟩;simp only at B z hj hl;refine aQ (V:=aBw) _ _ _ _ ?_;simp only[go_sem]
          (apply aI<;>intro h)<;>simp only[go_sem,h]
          .have M:j<r.new.length:=gQ h;clear h;obtain⟨q,hq⟩:=aU M;rw[aB3 hq,gR]at hl;have hL:=jF List.length hl;simp only[aG]at hL;simp only[go_sem,hq,M];(refine oS λbw b0=>?_);simp only[go_sem,hq,M,b0];refine⟨by decide,λy G=>hU G,fJ rfl rfl (by rw[aW];exact iS λe=>by rw[B e];rfl) (λy G=>hU G) (by simp only[aW];omega) (λu Y=>?_)⟩;have S:=kB Y z;rw[kF Y];simp only[go_sem,hq,M,b0];refine⟨((l++q.cells,some u),j+1),⟨⟨λh=>(by cases h),λt h=>by cases h;exact S⟩,M,by rw[<-hl];simp only[dO]⟩,bD,?_,?_⟩
           .simp only[go_sem,bt.wrap (i:=j) (gQ M),nW,cB]
           .show St.ge _ ((s.setT u ((l++q.cells).length,67)));rw[aG];exact dV (eW b0)
          .have b4:=bI hj h;clear h;rw[b4,dB (bF _),rV,bE,<-hR]at hl;refine⟨((l,tk),i+1),⟨⟨B,z⟩,H,hl⟩,bD,?_,aC _⟩;simp only[go_sem,bp]
      .have b1:=bI hi h;clear h;rw[b1,dB (bF _),rV,cK]at hl;subst hl;exact DK.mk hk (eJ (aC _) z) (nM _ _ (λe=>by rw[B e];rfl))
theorem aTi(x:Dfn):(bZ x).length=zT x:=by
 have h:∀{α:Type} (f:α->List Tm) (l:List α),(l.flatMap f).length=(l.map λa=>(f a).length).sum:=λf l=>by
  induction l with
  | nil=>rfl
  | cons a r z=>rw[gR,aG,z];rfl
 unfold bZ zT;simp only[aG,aW,h];have u:(x.eqs.map λa=>(dH a).length)=x.eqs.map eqW:=List.map_congr_left λa _=>by simp only[dH,eqW,bB];omega
 have y:(x.rules.map λa=>(fD a).length)=x.rules.map aC5:=List.map_congr_left λa _=>by
  simp only[fD,aC5,aG,h];rw[show(a.parts.map λp=>(p.left::p.right).length)=a.parts.map aCS from List.map_congr_left λp _=>by simp only[aCS,bB];omega]
 rw[u,y];omega
theorem aRe(x:Dfn)(h:zT x<=4294967296)(s:St)(KV Kp:St->A->Prop)(u:∀xs:List Tm,KV s (.list none (xs.map Tm.enc))):Den cx 20 [.agg x.cs] KV Kp s :=
 aGv x (by rw[aTi];exact h) s KV Kp (u _)
theorem dP(a b:List Tm):aP (a++b)=aP a++aP b:=by
 induction a with
 | nil=>rfl
 | cons x r h=>simp only[bL,aP,h,dO]
theorem aVB(t:Tm):1<=t.pre.length:=by rw[fP];simp
theorem iP(l:List Tm):l.length<=(aP l).length:=by
 induction l with
 | nil=>exact aN _
 | cons x r h=>have:=aVB x;simp only[aP,aG,bB];omega
theorem aB8{l:List Tm}{i:Nat}{x:Tm}(h:l[i]?=some x):aP (l.take (i+1))=aP (l.take i)++x.pre:=by
 rw[fL,h,dP];simp only[Option.toList,aP,cK]
theorem aB6{l:List Tm}{i:Nat}{x:Tm}(h:l[i]?=some x):(aP (l.drop i)).length=x.pre.length+(aP (l.drop (i+1))).length:=by
 obtain⟨u,rfl⟩:=cX.1 h;rw[rA u];simp only[aP,aG]
def Keep{h:Type}(Ow:h->Nat->Prop)(s:St)(v:h)(s':St)(u:h):Prop:=∀q o,s.getO q=some o->¬ Ow v q->s'.getO q=some o/\¬ Ow u q
theorem Keep.refl{u:Type}{Ow:u->Nat->Prop}(s:St)(v:u):Keep Ow s v s v:=λq o h n=>⟨h,n⟩
theorem Keep.trans{B:Type}{Ow:B->Nat->Prop}{s s' u:St}{v z y:B}(h:Keep Ow s v s' z)(G:Keep Ow s' z u y):Keep Ow s v u y:=λq o x n=>by
 obtain⟨a,b⟩:=h q o x n;exact G q o a b
theorem Keep.ge{u:Type}{Ow:u->Nat->Prop}{s s':St}(h:s'.ge s)(v:u):Keep Ow s v s' v:=λq o x n=>⟨h.ob q o x,n⟩
structure WalkOk {σ τ:Type} (step:σ->Tm->σ) (I:Nat->σ->τ->St->Prop) (Ow:τ->Nat->Prop) (f:FuncId) (caps:List A):Prop where
 st:∀{n a v s s'},I n a v s->s'.ge s->I n a v s'
 fr:∀{n a v s q},I n a v s->s.getO q=none->¬ Ow v q
 go:∀(n:Nat) (a:σ) (v:τ) (x:Tm) (deep:Int) (s:St) (KV Kp:St->A->Prop),x.kids.length+x.rest.length<=4294967296->I (n+1) a v s->(∀s' v',I n (step a x) v' s'->Keep Ow s v s' v'->KV s' (.tuple []))->Den cx f ([]++[.agg x.cs,.int .i64 deep]++caps) KV Kp s
theorem aRk{Z τ:Type}{step:Z->Tm->Z}{I:Nat->Z->τ->St->Prop}{Ow:τ->Nat->Prop}{f:FuncId}{z:List A}(W:WalkOk step I Ow f z)(m:Nat) :
  ∀(t:Tm) (u:Int) (n:Nat) (a:Z) (v:τ) (s:St) (KV Kp:St->A->Prop),SizeOf.sizeOf t<m->t.pre.length<=4294967296->I (t.pre.length+n) a v s ->
   (∀s' v',I n (t.pre.foldl step a) v' s'->Keep Ow s v s' v'->KV s' (.tuple []))->Den cx 103 [.agg t.cs,.int .i64 u,.fn f [] z] KV Kp s:=by
 induction m with
 | zero=>intro t u n a v s KV Kp hm;omega
 | succ m ih =>
 intro t u n a v s KV Kp hm hb hI hk;have S:=fP t;generalize hL:t.kids++t.rest=L at S;have b8:t.pre.length=1+(aP L).length:=by rw[S,bB];omega
 have b7:=iP L
 have b5:∀x,x∈L->SizeOf.sizeOf x<SizeOf.sizeOf t:=λx y=>by
  rw[<-hL]at y;rcases bT.1 y with y|y
  .exact kR y
  .exact uM y
 (refine aO func103 [0,1,2,3,7,17,18,19,20] ?_;simp only[go_sem,ntmps103,f103]);(refine aL λp hp=>?_);simp only[go_sem,hp]
 have b0:I (((aP L).length+n)+1) a v (s.setO p (.cells 67 t.cs)):=by
  rw[show(aP L).length+n+1=t.pre.length+n by omega];exact W.st hI (aZ hp (aC s))
 refine W.go _ a v t u _ _ _ (by rw[<-aG,hL];omega) b0 (λs2 v2 b1 G=>?_);obtain⟨g2,o2⟩:=G p (.cells 67 t.cs) (by simp only[aX,dJ];rfl) (W.fr hI hp);have G:Keep Ow s v s2 v2:=(Keep.ge (aZ hp (aC s)) v).trans G;simp only[Tm.cs]at g2;simp only[go_sem,g2];refine aI3 [t.kids,t.rest] (by simp only[lV,oW,cK,hL];omega) _ _ _ ?_;simp only[lV,oW,cK,hL];simp only[go_sem,g2]
 refine Ex.loop (ι:=Nat × Z × τ × St) (λc=>[(1,.int .i64 u),(2,.fn f [] z),(3,.ptr p 0),(17,.list none (L.map Tm.enc)),(18,.int .i64 (L.length:Nat)),(19,.int .i64 (c.1:Nat))])
  (λc=>c.2.2.2) (λc=>c.1<=L.length/\c.2.1=(aP (L.take c.1)).foldl step (step a t)/\I ((aP (L.drop c.1)).length+n) c.2.1 c.2.2.1 c.2.2.2/\Keep Ow s v c.2.2.2 c.2.2.1) (λc=>L.length-c.1)
  (0,step a t,v2,s2) ⟨aN _,rfl,gQ b1,G⟩ ?_ (aC _) ?_
 .simp only[go_sem]
  try exact rfl
 .rintro⟨i,a3,v3,s3⟩ ⟨hi,H,B,O⟩;simp only at hi H B O;refine aQ (V:=[0,1,2,3,7,17,18,19,20]) _ _ _ _ ?_;simp only[go_sem]
  (apply aI<;>intro h)<;>simp only[go_sem,h]
  .have M:i<L.length:=gQ h;clear h;obtain⟨x,y⟩:=aU M;have b6:x∈L:=bA y;have bb:=b5 x b6;have U:=aB6 y;have Y:=aB8 y
   have b9:x.pre.length<=(aP L).length:=by
    have e:aP L=aP (L.take i)++aP (L.drop i):=by rw[<-dP,lA]
    have:=jF List.length e;rw[aG,U]at this;omega
   simp only[go_sem,y,M];(refine aL λq hq=>?_);simp only[go_sem,y,M,hq];refine ih x _ ((aP (L.drop (i+1))).length+n) a3 v3 _ _ _ aB aB ?_ (λs4 v4 b2 b3=>?_)
   .rw[<-nS,<-U];exact W.st B (aZ hq (aC _))
   .simp only[go_sem];refine⟨(i+1,_,v4,s4),⟨M,by rw[Y,lW,<-H],b2,O.trans ((Keep.ge (aZ hq (aC _)) v3).trans b3)⟩,bD,aR i aB,aC _⟩
  .have b4:i=L.length:=by have:¬ i<L.length:=gQ h;omega
   subst b4;rw[bK]at H;rw[dB (bF _)]at B;refine aS (hk s3 v3 ?_ O);rw[S,lM,<-H];simpa [aP]using B
theorem aAv{y z:Type}{step:y->Tm->y}{I:Nat->y->z->St->Prop}{Ow:z->Nat->Prop}{f:FuncId}{h:List A}(W:WalkOk step I Ow f h)
  (t:Tm)(u:Int)(n:Nat)(a:y)(v:z)(s:St)(KV Kp:St->A->Prop)(G:t.pre.length<=4294967296)(hI:I (t.pre.length+n) a v s)
  (H:∀s' B,I n (t.pre.foldl step a) B s'->Keep Ow s v s' B->KV s' (.tuple [])):Den cx 103 [.agg t.cs,.int .i64 u,.fn f [] h] KV Kp s :=
 aRk W _ t u n a v s KV Kp (dZ _) G hI H
theorem gBm{f:FuncId}{c:Code}{args:List A}{KV Kp:St->A->Prop}{s:St}{fn:Func}(z:mZ.P.funcs[f]?=some fn)(V:List Nat)
  (h:eX mZ fn.ntmps V c (kK mZ fn.results.toList (DK KV) (DK Kp)) (kW 0 args) s)
  (y:fn.body=some c:=by exact rfl)
  (u : (fn.name == "runtime.NumGoroutine") = false := by exact rfl) (B : args.length ≤ fn.ntmps := by exact eQ rfl) : Den cx f args KV Kp s :=
 Den.drop (aUT (aAq (C:=mZ) z y u B (aQ _ _ _ _ h)))
inductive SL (s:St):A->List aA->Prop
 | nil:SL s .nils []
 | mg (b cap:Nat) (ws:List aA) (J:List A) (hb:s.getO b=some (.cells 9 (ws.map .str++J))) (hc:ws.length<=cap) (hJ:J.length=cap-ws.length) (h1:∀c,c∈J->c.one=true) (hn:ws≠[]):SL s (.mg b ws.length cap) ws
def zL:A->Option Nat
 | .mg b _ _=>some b
 | _=>none
theorem SL.ge{s s':St}{v:A}{u:List aA}(h:SL s v u)(M:s'.ge s):SL s' v u:=by
 cases h with
 | nil=>exact .nil
 | mg b cap u J B G z y H=>exact .mg b cap u J (M.ob _ _ B) G z y H
theorem SL.one{s:St}{v:A}{u:List aA}(h:SL s v u):v.one=true:=by cases h<;>rfl
structure UsI (s0:St) (p:Nat) (n:Nat) (ws:List aA) (v:A) (s:St):Prop where
 ge:s.ge s0
 ob:s.getO p=some (.cells 22 [v])
 sl:SL s v ws
 nb:∀b,zL v=some b->s0.getO b=none
 ln:ws.length+n<=4294967296
def UsO(p:Nat)(v:A)(q:Nat):Prop:=q=p\/zL v=some q
theorem UsI.st{s0:St}{p n:Nat}{y:List aA}{v:A}{s s':St}(h:UsI s0 p n y v s)(u:s'.ge s):UsI s0 p n y v s' :=
 ⟨u.trans h.ge,u.ob _ _ h.ob,h.sl.ge u,h.nb,h.ln⟩
theorem UsI.fr{s0:St}{p n:Nat}{z:List aA}{v:A}{s:St}{q:Nat}(h:UsI s0 p n z v s)(u:s.getO q=none):¬ UsO p v q:=by
 rintro(rfl|y)
 .rw[h.ob]at u;cases u
 .have:=h.sl;cases this with
  | nil=>cases y
  | mg b cap z J B=>cases y;rw[B]at u;cases u
theorem UsI.less{s0:St}{p n m:Nat}{u:List aA}{v:A}{s:St}(h:UsI s0 p n u v s)(y:m<=n):UsI s0 p m u v s:=⟨h.ge,h.ob,h.sl,h.nb,by have:=h.ln;omega⟩
theorem UsI.app{s0:St}{p n:Nat}{M:List aA}{v:A}{s:St}{KV:St->A->Prop}{te:TI}(h:UsI s0 p (n+1) M v s)(b4:s0.getO p=none)(x:aA)(hs:te.sz=1)
  (hk:∀s' b m c,s'.getO p=some (.cells 22 [v])->UsI s0 p n (M++[x]) (.mg b m c) (s'.setO p (.cells 22 [.mg b m c]))->Keep (UsO p) s v (s'.setO p (.cells 22 [.mg b m c])) (.mg b m c)->KV s' (.mg b m c)):oL mZ s 9 te [.str x] KV v:=by
 obtain⟨H,hr,b5,b3,b6⟩:=h
 have key:∀(b n' u:Nat) (G:List A),(s.getO b=none\/zL v=some b)->s0.getO b=none->b≠p->n'=(M++[x]).length->n'<=u->G.length=u-n'->(∀c,c∈G->c.one=true) ->
   KV (s.setO b (.cells 9 ((M++[x]).map .str++G))) (.mg b n' u):=by
  intro b n' u G z b0 U b2 Y S O;subst b2;have g:∀v q,((s.setO b (.cells 9 ((M++[x]).map .str++G))).setO p (.cells 22 [v])).getO q=if p=q then some (.cells 22 [v]) else if b=q then some (.cells 9 ((M++[x]).map .str++G)) else s.getO q:=λv q=>by rw[aX,aX]
  refine hk _ _ _ _ (by rw[aX,aE U];exact hr) ⟨⟨λq o Z=>?_,λt m hm=>H.tk t m hm,λy hy=>H.ls y hy⟩,by rw[g,aF rfl],.mg b u _ G (by rw[g,aE (Ne.symm U),aF rfl]) Y S O aV,λc hc=>by cases hc;exact b0,by rw[aG,rB];omega⟩ (λq o Z hO=>?_)
  .rw[g,aE (λe=>by rw[<-e,b4]at Z;cases Z),aE (λe=>by rw[<-e,b0]at Z;cases Z)];exact H.ob q o Z
  .have n1:¬ p=q:=λe=>hO (.inl e.symm)
   have n2:¬ b=q:=λe=>by
    rcases z with z|z
    .rw[<-e,z]at Z;cases Z
    .exact hO (.inr (e▸z))
   refine⟨by rw[g,aE n1,aE n2];exact Z,?_⟩;rintro(h|h)
   .exact n1 h.symm
   .cases h;exact n2 rfl
 cases b5 with
 | nil =>
  refine⟨by simp,?_⟩;rw[aLB,hs];refine⟨by simp,λb cap J z hc hJ h1=>?_⟩;have e1:dF [A.str x]++J=(([]:List aA)++[x]).map .str++J:=by simp[dF,A.cells]
  rw[e1];refine key b 1 cap J (.inl z) ?_ (λe=>by rw[e,hr]at z;cases z) rfl (gQ hc) (gQ hJ) h1;cases h0:s0.getO b with
  | none=>rfl
  | some o=>rw[H.ob b o h0]at z;cases z
 | mg b cap _ J z hc hJ h1 hn =>
  show tX _ _ _ _ _ _ _ _ _ _ _;rw[z];have b1:(M.map A.str++J).length=cap * 1:=by rw[aG,aW,hJ];omega
  rw[hs];refine⟨⟨rfl,rfl,b1,hc,by simp only[rB];omega,by simp⟩,λb' u G B Y S O=>?_⟩
  have e1:(M.map A.str++J).take (M.length * 1)++(dF [A.str x]++G)=(M++[x]).map .str++G:=by
   rw[Nat.mul_one,List.take_left' aV];simp[dF,A.cells]
  rw[e1];have U:b≠p:=λe=>by rw[e,hr]at z;cases z
  rcases B with⟨rfl,_⟩|B
  .exact key _ _ u G (.inr rfl) (b3 _ rfl) U aV (gQ Y) (gQ S) O
  .refine key b' _ u G (.inl B) ?_ (λe=>by rw[e,hr]at B;cases B) aV (gQ Y) (gQ S) O;cases h0:s0.getO b' with
   | none=>rfl
   | some o=>rw[H.ob b' o h0]at B;cases B
def aCL(h:List aA)(x:Tm):List aA:=if x.kind=6 then h++[x.text] else h
def zI(h:List aA)(x:Tm):List aA:=if x.kind=6/\x.text≠[95] then h++[x.text] else h
theorem UsI.keep{s0:St}{p n:Nat}{y:List aA}{v:A}{s s':St}(h:UsI s0 p (n+1) y v s)(u:s'.ge s):UsI s0 p n y v s'/\Keep (UsO p) s v s' v:=⟨(h.st u).less (Nat.le_succ n),Keep.ge u v⟩
theorem aVR(s0:St)(p:Nat)(S:s0.getO p=none):WalkOk aCL (UsI s0 p) (UsO p) 140 [.ptr p 0] where
 st:=UsI.st
 fr:=UsI.fr
 go:=by
  intro n ws v x Y s KV Kp b0 hI z;simp only[bE,bL];have g0:=hI.ob;unfold aCL at z;(refine gBm func140 [0,2,3,7] ?_;simp only[go_sem,ntmps140,f140]);(refine aL λq B=>?_);have h:(s.setO q (.cells 67 x.cs)).ge s:=aZ B (aC s);have H:=aM g0 B;simp only[go_sem,B,g0,H];by_cases G:x.kind=6
  .rw[aF G]at z;simp only[go_sem,B,cF G,g0,H];refine⟨by decide,λy hy=>by rw[bS.1 hy];rfl,?_⟩;have u:=hI.st h;simp only[Tm.cs]at u;refine u.app S x.text rfl (λs2 b2 n2 c2 U M O=>?_);simp only[go_sem,U];exact aS (z _ _ M ((Keep.ge h v).trans (by simp only[Tm.cs];exact O)))
  .rw[aE G]at z;simp only[go_sem,B,bN G,g0,H];obtain⟨Z,k2⟩:=hI.keep h;simp only[Tm.cs]at Z k2;exact aS (z _ _ Z k2)
theorem aVT(s0:St)(p:Nat)(Y:s0.getO p=none):WalkOk zI (UsI s0 p) (UsO p) 193 [.ptr p 0] where
 st:=UsI.st
 fr:=UsI.fr
 go:=by
  intro n ws v x b0 s KV Kp b1 hI z;simp only[bE,bL];have g0:=hI.ob;unfold zI at z;(refine gBm func193 [0,2,3,12] ?_;simp only[go_sem,ntmps193,f193]);(refine aL λq H=>?_);have u:(s.setO q (.cells 67 x.cs)).ge s:=aZ H (aC s);have O:=aM g0 H;obtain⟨k1,k2⟩:=hI.keep u;simp only[Tm.cs]at k1 k2;by_cases B:x.kind=6
  .by_cases M:x.text=[95]
   .rw[aE (λh=>h.2 M)]at z;simp only[go_sem,H,cF B,cF M,g0,O];exact aS (z _ _ k1 k2)
   .rw[aF ⟨B,M⟩]at z;simp only[go_sem,H,cF B,bN M,g0,O];refine⟨by decide,λy hy=>by rw[bS.1 hy];rfl,?_⟩;have G:=hI.st u;simp only[Tm.cs]at G;refine G.app Y x.text rfl (λs2 b2 n2 c2 Z S U=>?_);simp only[go_sem,Z];exact aS (z _ _ S ((Keep.ge u v).trans (by simp only[Tm.cs];exact U)))
  .rw[aE (λh=>B h.1)]at z;simp only[go_sem,H,bN B,g0,O];exact aS (z _ _ k1 k2)
theorem aRg(l:List Tm):∀u,l.foldl aCL u=u++(l.filter λt=>decide (t.kind=6)).map Tm.text:=by
 induction l with
 | nil=>intro u;simp
 | cons x r y =>
  intro u;rw[lM,y];unfold aCL;by_cases h:x.kind=6<;>simp[h]
theorem aSa(l:List Tm)(y:aA):∀z,y∈l.foldl zI z↔y∈z\/(y∈(l.filter λt=>decide (t.kind=6)).map Tm.text/\y≠[95]):=by
 induction l with
 | nil=>intro z;simp
 | cons x r G =>
  intro z;rw[lM,G];unfold zI;by_cases h:x.kind=6
  .by_cases u:x.text=[95]
   .rw[aE (λh=>h.2 u)];simp only[h,u,List.filter_cons,wG,dJ,cC,cR];constructor
    .rintro(a|⟨a,b⟩)
     .exact .inl a
     .exact .inr ⟨.inr a,b⟩
    .rintro(a|⟨a|a,b⟩)
     .exact .inl a
     .exact cG a b
     .exact .inr ⟨a,b⟩
   .rw[aF ⟨h,u⟩];simp only[h,List.filter_cons,wG,dJ,cC,cR,bT,gX,dW];constructor
    .rintro((a|a)|⟨a,b⟩)
     .exact .inl a
     .exact .inr ⟨.inl a,a▸u⟩
     .exact .inr ⟨.inr a,b⟩
    .rintro(a|⟨a|a,b⟩)
     .exact .inl (.inl a)
     .exact .inl (.inr a)
     .exact .inr ⟨a,b⟩
  .rw[aE (λB=>h B.1)];simp[h]
theorem aJ8(l:List Tm)(U:(aP l).length<=4294967200)(s:St)(KV Kp:St->A->Prop)(Y:KV s (strs (lH l))):Den cx 81 [.list none (l.map Tm.enc)] KV Kp s:=by
 refine Den.drop (Den.frz ?_);(refine gBm func81 aBA ?_;simp only[go_sem,ntmps81,f81]);(refine aL λp hp=>?_);simp only[go_sem,hp];have b7:=iP l;have h0:UsI s p ((aP l).length) [] .nils (s.setO p (.cells 22 [.nils])):=⟨aZ hp (aC s),by rw[aX,aF rfl],.nil,λb h=>(by cases h),(by simp only[bQ];omega)⟩
 refine Ex.loop (ι:=Nat × A × St) (λc=>[(3,.ptr p 0),(6,.list none (l.map Tm.enc)),(7,.int .i64 (l.length:Nat)),(8,.int .i64 (c.1:Nat))])
  (λc=>c.2.2) (λc=>c.1<=l.length/\UsI s p ((aP (l.drop c.1)).length) ((aP (l.take c.1)).foldl aCL []) c.2.1 c.2.2) (λc=>l.length-c.1) (0,.nils,_) ⟨aN _,h0⟩ ?_ (aC _) ?_
 .simp only[go_sem]
  try exact rfl
 .rintro⟨i,v,s1⟩ ⟨hi,hI⟩;simp only at hi hI;refine aQ (V:=aBA) _ _ _ _ ?_;simp only[go_sem]
  (apply aI<;>intro h)<;>simp only[go_sem,h]
  .have B:i<l.length:=gQ h;clear h;obtain⟨x,Z⟩:=aU B;have M:=aB6 Z;have O:=aB8 Z
   have b8:x.pre.length<=(aP l).length:=by
    have e:aP l=aP (l.take i)++aP (l.drop i):=by rw[<-dP,lA]
    have:=jF List.length e;rw[aG,M]at this;omega
   simp only[go_sem,Z,B];(refine aL λq H=>?_);simp only[go_sem,Z,B,H];refine pK (aAv (aVR s p hp) x 1 _ _ v _ _ _ aB (by rw[<-M];exact hI.st (aZ H (aC _))) (λs4 v4 b0 b6=>?_));simp only[go_sem];exact⟨(i+1,v4,s4),⟨B,by rw[O,lW];exact b0⟩,bD,aR i aB,aC _⟩
  .have b3:=bI hi h;subst b3;rw[bK,dB (bF _),aRg,bE]at hI;clear h hi;have hu:(List.filter (λt=>decide (t.kind=6)) (aP l)).map Tm.text=hZ l:=rfl;rw[hu]at hI;obtain⟨u,g0,G,b5,b4⟩:=hI;unfold lH at Y;generalize hZ l=ws at G Y b4;simp only[go_sem,g0];cases G with
   | nil =>
    refine pK (aDE ?_);simp only[go_sem,g0];exact aS (.inl (DK.mk Y u A.le.nil))
   | mg b cap ws J U hc hJ h1 hn =>
    have b2:¬ b=p:=λe=>by rw[e,g0]at U;cases U
    have b1:=b5 b rfl;refine pK (aGG U aB ?_);simp only[go_sem,g0,b2];have G:=(lY ws).length_eq;refine aS (.inr ⟨b,cap,9,(kY ws).map .str,J,id,.inl rfl,by rw[aW,G];rfl,by rw[aX,aF rfl],λy hy=>?_,aD Y ⟨λq o H=>?_,λt m hm=>u.tk t m hm,λy hy=>u.ls y hy⟩⟩)
    .obtain⟨z,_,rfl⟩:=cW.1 hy;rfl
    .have S:q≠b:=λe=>by rw[e,b1]at H;cases H
     rw[aBS,aE S,aX,aE (Ne.symm S)];exact u.ob q o H
theorem aRj(l:List Tm)(Y:(aP l).length<=4294967200)(s:St)(KV Kp:St->A->Prop)(hk:∀vs:List aA,(∀x,x∈vs↔x∈hZ l/\x≠[95])->KV s (strs vs)):Den cx 136 [.list none (l.map Tm.enc)] KV Kp s:=by
 refine Den.drop (Den.frz ?_);(refine gBm func136 aBA ?_;simp only[go_sem,ntmps136,f136]);(refine aL λp hp=>?_);simp only[go_sem,hp];have b6:=iP l;have h0:UsI s p ((aP l).length) [] .nils (s.setO p (.cells 22 [.nils])):=⟨aZ hp (aC s),by rw[aX,aF rfl],.nil,λb h=>(by cases h),(by simp only[bQ];omega)⟩
 refine Ex.loop (ι:=Nat × A × St) (λc=>[(3,.ptr p 0),(6,.list none (l.map Tm.enc)),(7,.int .i64 (l.length:Nat)),(8,.int .i64 (c.1:Nat))])
  (λc=>c.2.2) (λc=>c.1<=l.length/\UsI s p ((aP (l.drop c.1)).length) ((aP (l.take c.1)).foldl zI []) c.2.1 c.2.2) (λc=>l.length-c.1) (0,.nils,_) ⟨aN _,h0⟩ ?_ (aC _) ?_
 .simp only[go_sem]
  try exact rfl
 .rintro⟨i,v,s1⟩ ⟨hi,hI⟩;simp only at hi hI;refine aQ (V:=aBA) _ _ _ _ ?_;simp only[go_sem]
  (apply aI<;>intro h)<;>simp only[go_sem,h]
  .have G:i<l.length:=gQ h;clear h;obtain⟨x,Z⟩:=aU G;have O:=aB6 Z;have S:=aB8 Z
   have b7:x.pre.length<=(aP l).length:=by
    have e:aP l=aP (l.take i)++aP (l.drop i):=by rw[<-dP,lA]
    have:=jF List.length e;rw[aG,O]at this;omega
   simp only[go_sem,Z,G];(refine aL λq H=>?_);simp only[go_sem,Z,G,H];refine pK (aAv (aVT s p hp) x 1 _ _ v _ _ _ aB (by rw[<-O];exact hI.st (aZ H (aC _))) (λs4 v4 b0 b5=>?_));simp only[go_sem];exact⟨(i+1,v4,s4),⟨G,by rw[S,lW];exact b0⟩,bD,aR i aB,aC _⟩
  .have b2:=bI hi h;subst b2;rw[bK,dB (bF _)]at hI;clear h hi
   have hu:∀x,x∈(aP l).foldl zI []↔x∈hZ l/\x≠[95]:=λx=>by
    rw[aSa];simp only[gX,false_or];rfl
   obtain⟨B,g0,u,b4,b3⟩:=hI;generalize (aP l).foldl zI []=ws at u hu b3;simp only[go_sem,g0];cases u with
   | nil =>
    refine pK (aDE ?_);simp only[go_sem,g0];refine pK (aPg ?_);simp only[go_sem,g0];exact aS (.inl (DK.mk (hk [] hu) B A.le.nil))
   | mg b cap ws J Y hc hJ h1 hn =>
    have M:¬ b=p:=λe=>by rw[e,g0]at Y;cases Y
    have b1:=b4 b rfl;refine pK (aGG Y aB ?_);simp only[go_sem,g0,M];have u:=(lY ws).length_eq;rw[<-u];refine pK (aPf (by rw[aX,aF rfl]) (by rw[u];omega) ?_);simp only[go_sem,g0,M];refine aS (.inr ⟨b,cap,9,(Lib.compact (kY ws)).map .str,_,id,.inl rfl,by rw[aW];rfl,by rw[aX,aF rfl,cB,dO],λy hy=>?_,aD (hk _ (λx=>by rw[aQM,(lY ws).mem_iff];exact hu x)) ⟨λq o H=>?_,λt m hm=>B.tk t m hm,λy hy=>B.ls y hy⟩⟩)
    .obtain⟨z,_,rfl⟩:=cW.1 hy;rfl
    .have U:q≠b:=λe=>by rw[e,b1]at H;cases H
     simp only[aBS,aE U,aX,aE (Ne.symm U)];exact B.ob q o H
section
def asM(l:List (aA × aA)):List (MK × A):=l.map λe=>(MK.str e.1,A.str e.2)
theorem aNr(x:aA):∀l:List (aA × aA),iU (.str x) (asM l)=(nI l x).map .str
 | []=>rfl
 | (a,b)::r=>by
  have u:=aNr x r;simp only[asM,cC,iU,nI]at u⊢;by_cases h:a=x
  .subst h;simp
  .rw[aE h,aE (λe=>h (by injection e with e;exact e.symm)),u]
theorem aNC(x y:aA):∀l:List (aA × aA),nI l x=none->lJ (.str x) (.str y) (asM l)=asM (l++[(x,y)])
 | [],_=>rfl
 | (a,b)::r,h=>by
  simp only[nI]at h;by_cases e:a=x
  .rw[aF e]at h;cases h
  .rw[aE e]at h;have u:=aNC x y r h;simp only[asM,cC,bL,lJ]at u⊢;rw[aE (λe'=>e (by injection e' with e';exact e'.symm)),u]
structure SoI (s0:St) (p m q:Nat) (n:Nat) (a:List (aA × aA) × aA) (v:Unit) (s:St):Prop where
 ge:s.ge s0
 op:s.getO p=some (.cells 174 [.mp m])
 om:s.getO m=some (.map 0 (asM a.1))
 oq:s.getO q=some (.cells 9 [.str a.2])
def SoO(p m q:Nat)(v:Unit)(x:Nat):Prop:=x=p\/x=m\/x=q
theorem SoI.st{s0:St}{p m q n:Nat}{a:List (aA × aA) × aA}{v:Unit}{s s':St}(h:SoI s0 p m q n a v s)(u:s'.ge s):SoI s0 p m q n a v s' :=
 ⟨u.trans h.ge,u.ob _ _ h.op,u.ob _ _ h.om,u.ob _ _ h.oq⟩
theorem SoI.fr{s0:St}{p m q n:Nat}{a:List (aA × aA) × aA}{v:Unit}{s:St}{x:Nat}(h:SoI s0 p m q n a v s)(u:s.getO x=none):¬ SoO p m q v x:=by
 rintro(rfl|rfl|rfl)
 .rw[h.op]at u;cases u
 .rw[h.om]at u;cases u
 .rw[h.oq]at u;cases u
theorem Keep.set{u:Type}{Ow:u->Nat->Prop}{s:St}{v:u}{b:Nat}(h:Ow v b)(o:Ob):Keep Ow s v (s.setO b o) v:=λq x y n=>⟨by rw[aX,aE (λe:b=q=>n (e▸h))];exact y,n⟩
theorem tJ{s s0:St}{b:Nat}(h:s.ge s0)(z:s0.getO b=none)(o:Ob):(s.setO b o).ge s0:=⟨λq x u=>by rw[aX,aE (λe=>by rw[<-e,z]at u;cases u)];exact h.ob q x u,λt m B=>h.tk t m B,λy G=>h.ls y G⟩
theorem SoI.setM{s0:St}{p m q n:Nat}{a:List (aA × aA) × aA}{v:Unit}{s:St}(h:SoI s0 p m q n a v s)(u:s0.getO m=none)(z:p≠m)(y:m≠q)(B:List (aA × aA)):SoI s0 p m q n (B,a.2) v (s.setO m (.map 0 (asM B))) :=
 ⟨tJ h.ge u _,by rw[aX,aE (Ne.symm z)];exact h.op,by rw[aX,aF rfl],by rw[aX,aE y];exact h.oq⟩
theorem SoI.setQ{s0:St}{p m q n:Nat}{a:List (aA × aA) × aA}{v:Unit}{s:St}(h:SoI s0 p m q n a v s)(z:s0.getO q=none)(y:p≠q)(u:m≠q)(B:aA):SoI s0 p m q n (a.1,B) v (s.setO q (.cells 9 [.str B])) :=
 ⟨tJ h.ge z _,by rw[aX,aE (Ne.symm y)];exact h.op,by rw[aX,aE (Ne.symm u)];exact h.om,by rw[aX,aF rfl]⟩
theorem aS7(s0:St)(p m q:Nat)(bb:s0.getO p=none)(b3:s0.getO m=none)(b2:s0.getO q=none)(b1:p≠q)(b4:p≠m)(Z:m≠q):WalkOk tV (SoI s0 p m q) (SoO p m q) 192 [.ptr p 0,.ptr q 0] where
 st:=SoI.st
 fr:=SoI.fr
 go := by
  intro n a v x b7 s KV Kp bc hI u;obtain⟨ws,tw⟩:=a;simp only[bE,bL];have gp:=hI.op;have S:=hI.om;have U:=hI.oq;simp only at S U;have B:=aNr x.text ws;unfold tV at u;simp only at u;(refine aO func192 [0,2,3,4,6,7,15,39,43] ?_;simp only[go_sem,ntmps192,f192]);(refine aL λc G=>?_);have b0:(s.setO c (.cells 67 x.cs)).ge s:=aZ G (aC s);have e1:=aM gp G;have e2:=aM S G;have e3:=aM U G;have y:SoI s0 p m q n (ws,tw) v (s.setO c (.cells 67 x.cs)):=(⟨hI.ge,hI.op,hI.om,hI.oq⟩:SoI s0 p m q n (ws,tw) v s).st b0;have z:Keep (SoO p m q) s v (s.setO c (.cells 67 x.cs)) v:=Keep.ge b0 v;have b8:=y;have b9:=z;simp only[Tm.cs]at y z;by_cases M:x.kind=6
  .by_cases O:x.text=[95]
   .rw[aE (λh=>h.2 O)]at u;simp only[go_sem,G,cF M,cF O];exact aS (u _ _ y z)
   ·rw[aF ⟨M,O⟩] at u;cases has:nI ws x.text with
    | none =>
     rw[has]at u B;simp only at u;simp only[Option.map_none]at B;have b5:=aNC x.text x.sort ws has;simp only[go_sem,G,cF M,bN O,e1,e2,e3,gp,S,U,B,iY,b5];exact aS (u _ _ (y.setM b3 b4 Z _) (z.trans (Keep.set (.inr (.inl rfl)) _)))
    | some b6 =>
     rw[has]at u B;simp only at u;simp only[gS]at B;by_cases Y:b6=x.sort
     .rw[aE (λh=>h.1 Y)]at u;simp only[go_sem,G,cF M,bN O,e1,e2,e3,gp,S,U,B,iY,cF Y];exact aS (u _ _ y z)
     .by_cases h9:tw=[]
      .rw[aF ⟨Y,.inl h9⟩]at u;simp only[go_sem,G,cF M,bN O,e1,e2,e3,gp,S,U,B,iY,bN Y,cF h9];exact aS (u _ _ (y.setQ b2 b1 Z _) (z.trans (Keep.set (.inr (.inr rfl)) _)))
      .cases H:Go.Op.bytesLess x.text tw with
       | true =>
        rw[aF ⟨Y,.inr H⟩]at u;simp only[go_sem,G,cF M,bN O,e1,e2,e3,gp,S,U,B,iY,bN Y,bN h9,H];exact aS (u _ _ (y.setQ b2 b1 Z _) (z.trans (Keep.set (.inr (.inr rfl)) _)))
       | false =>
        rw[aE (λh=>h.2.elim h9 (λh=>by rw[H]at h;cases h))]at u;simp only[go_sem,G,cF M,bN O,e1,e2,e3,gp,S,U,B,iY,bN Y,bN h9,H];exact aS (u _ _ y z)
  .rw[aE (λh=>M h.1)]at u;simp only[go_sem,G,bN M];exact aS (u _ _ y z)
theorem aJc(l:List Tm)(hb:(aP l).length<=4294967200)(s:St)(KV Kp:St->A->Prop)(hk:∀s' m,s'.ge s->KV s' (.tuple [.mp m,.str (pM l)])):Den cx 133 [.list none (l.map Tm.enc)] KV Kp s:=by
 (refine aO func133 aFl ?_;simp only[go_sem,ntmps133,f133]);(refine aL λp Z=>?_);simp only[go_sem,Z];(refine aL λq hq=>?_);simp only[go_sem,Z,hq];(refine aL λm Y=>?_);simp only[go_sem,Z,hq,Y];have b5:=iP l;have z:p≠q:=λe=>by subst e;simp at hq
 have M:p≠m:=λe=>by subst e;simp at Y
 have S:q≠m:=λe=>by subst e;simp at Y
 have y:s.getO p=none:=Z;have B:s.getO q=none:=by simp only[hq]
 have G:s.getO m=none:=by simp only[Y]
 have h0:SoI s p m q ((aP l).length) ([],[]) () ((((s.setO p (.cells 174 [.nilm])).setO q (.cells 9 [.str []])).setO m (.map 0 [])).setO p (.cells 174 [.mp m])) :=
  ⟨tJ (tJ (tJ (tJ (aC s) y _) B _) G _) y _,by simp only[aX,dJ],by simp only[aX,dJ,aE M];rfl,by simp only[aX,dJ,aE z,aE (Ne.symm S)]⟩
 refine Ex.loop (ι:=Nat × (List (aA × aA) × aA) × St) (λc=>[(2,.ptr p 0),(3,.ptr q 0),(7,.list none (l.map Tm.enc)),(8,.int .i64 (l.length:Nat)),(9,.int .i64 (c.1:Nat))])
  (λc=>c.2.2) (λc=>c.1<=l.length/\c.2.1=(aP (l.take c.1)).foldl tV ([],[])/\SoI s p m q ((aP (l.drop c.1)).length) c.2.1 () c.2.2) (λc=>l.length-c.1) (0,([],[]),_) ⟨aN _,rfl,h0⟩ ?_ (aC _) ?_
 .simp only[go_sem]
  try exact rfl
 .rintro⟨i,a,s1⟩ ⟨hi,U,hI⟩;simp only at hi hI U;refine aQ (V:=aFl) _ _ _ _ ?_;simp only[go_sem]
  (apply aI<;>intro h)<;>simp only[go_sem,h]
  .have u:i<l.length:=gQ h;clear h;obtain⟨x,hx⟩:=aU u;have H:=aB6 hx;have O:=aB8 hx
   have b6:x.pre.length<=(aP l).length:=by
    have e:aP l=aP (l.take i)++aP (l.drop i):=by rw[<-dP,lA]
    have:=jF List.length e;rw[aG,H]at this;omega
   simp only[go_sem,hx,u];(refine aL λc hc=>?_);simp only[go_sem,hx,u,hc];refine aAv (aS7 s p m q y G B z M (Ne.symm S)) x 1 _ _ () _ _ _ aB (by rw[<-H];exact hI.st (aZ hc (aC _))) (λs4 v4 b1 b4=>?_);simp only[go_sem];exact⟨(i+1,_,s4),⟨u,by rw[O,lW,<-U],b1⟩,bD,aR i aB,aC _⟩
  .have b3:=bI hi h;subst b3;rw[bK]at U;rw[dB (bF _)]at hI;clear h hi;subst U;obtain⟨b2,gp,gm,gq⟩:=hI;have b0:s1.getO q=some (.cells 9 [.str (pM l)]):=gq;(refine bX (OT.r 0 4) [(2,[1])] ?_;simp only[go_sem,gp,b0,z,Ne.symm z]);exact aS (hk _ m (tJ (tJ b2 y _) B _))
structure BxI (s0:St) (p:Nat) (ty:TypeId) {α:Type} (f:α->A) (n:Nat) (a:α) (v:Unit) (s:St):Prop where
 ge:s.ge s0
 ob:s.getO p=some (.cells ty [f a])
def mY(p:Nat)(v:Unit)(x:Nat):Prop:=x=p
section
variable {s0:St} {p n:Nat} {ty:TypeId} {α:Type} {f:α->A} {a:α} {v:Unit} {s s':St}
theorem BxI.st(h:BxI s0 p ty f n a v s)(u:s'.ge s):BxI s0 p ty f n a v s':=⟨u.trans h.ge,u.ob _ _ h.ob⟩
theorem BxI.fr{x:Nat}(h:BxI s0 p ty f n a v s)(u:s.getO x=none):¬ mY p v x:=by
 rintro rfl;rw[h.ob]at u;cases u
theorem BxI.set{m:Nat}(h:BxI s0 p ty f m a v s)(u:s0.getO p=none)(b:α):BxI s0 p ty f n b v (s.setO p (.cells ty [f b]))/\Keep (mY p) s v (s.setO p (.cells ty [f b])) v :=
 ⟨⟨tJ h.ge u _,by rw[aX,aF rfl]⟩,Keep.set (show mY p v p from rfl) _⟩
theorem BxI.keep{m:Nat}(h:BxI s0 p ty f m a v s)(u:s'.ge s):BxI s0 p ty f n a v s'/\Keep (mY p) s v s' v:=⟨⟨(h.st u).ge,(h.st u).ob⟩,Keep.ge u v⟩
end
theorem aSz(s0:St)(p q r:Nat)(sg:Sig)(M:s0.getO p=none)(Z:s0.getO q=some (.cells 61 [.ptr r 0]))(hB:BookAt s0 r sg) :
  WalkOk (λa x=>a||yY sg x) (BxI s0 p 4 A.bool) (mY p) 131 [.ptr q 0,.ptr p 0] where
 st:=BxI.st
 fr:=BxI.fr
 go:=by
  intro n a v x b2 s KV Kp b4 hI h;simp only[bE,bL];have G:=hI.ob;have O:=hI.ge.ob _ _ Z;have b3:¬ p=q:=λe=>by rw[e,Z]at M;cases M
  have b0:=hB.ge hI.ge;unfold yY at h;(refine aO func131 [0,2,3,4,7,11] ?_;simp only[go_sem,ntmps131,f131]);(refine aL λc y=>?_);have H:(s.setO c (.cells 67 x.cs)).ge s:=aZ y (aC s);have U:=aM G y;have Y:=aM O y;obtain⟨k1,k2⟩:=hI.keep H;by_cases h5:x.kind=5
  .have S:decide (x.kind=5)=true:=cF h5;rw[S,dD]at h;simp only[go_sem,y,S,U,Y,G,O];refine aF9 (b0.ge (by simp only[Tm.cs]at H;exact H)) x.text ?_;simp only[go_sem,y,U,Y,G,O];(refine aL λd hd=>?_);have B:((s.setO c (.cells 67 x.cs)).setO d (.cells 80 (gD sg x.text).1.cs)).ge s:=by simp only[Tm.cs,Opr.cs];exact aK
   have b1:BxI s0 p 4 A.bool (n+1) a v ((s.setO c (.cells 67 x.cs)).setO d (.cells 80 (gD sg x.text).1.cs)):=hI.st B;obtain⟨z,u⟩:=b1.set M (a||(gD sg x.text).2.1);have u:=(Keep.ge (Ow:=mY p) B v).trans u;simp only[Tm.cs,Opr.cs]at z u;have e3:=aM G hd.2;simp only[go_sem,y,hd,U,Y,e3,G,O];cases ha:a
   .rw[ha]at h z u;simp only[gJ]at h z u;cases hf:(gD sg x.text).2.1<;>rw[hf]at h z u<;>simp only[go_sem,y,hd,U,Y,e3,G,O,ha]
    .exact aS (h _ _ z u)
    .exact aS (h _ _ z u)
   .rw[ha]at h z u;simp only[kQ]at h z u;simp only[go_sem,y,hd,U,Y,e3,G,O,ha];exact aS (h _ _ z u)
  .have S:decide (x.kind=5)=false:=bN h5;rw[S,eY,iZ]at h;simp only[go_sem,y,S];simp only[Tm.cs]at k1 k2;exact aS (h _ _ k1 k2)
theorem aVv{α:Type}(f:α->Bool)(l:List α):∀a:Bool,l.foldl (λa x=>a||f x) a=(a||l.any f):=by
 induction l with
 | nil=>intro a;simp
 | cons x r h=>intro a;rw[lM,h,oZ,Bool.or_assoc]
theorem aTj{α:Type}(f:α->Bool)(l:List α):∀a:Bool,l.foldl (λa x=>a&&f x) a=(a&&l.all f):=by
 induction l with
 | nil=>intro a;simp
 | cons x r h=>intro a;rw[lM,h,eG,Bool.and_assoc]
theorem aI6{r:Nat}{sg:Sig}{s:St}{KV Kp:St->A->Prop}(h:BookAt s r sg)(t:Tm)(U:t.pre.length<=4294967296)(Y:KV s (.bool (pD sg t))):Den cx 75 [.ptr r 0,.agg t.cs] KV Kp s:=by
 (refine aO func75 [0,1,2,3,4,5] ?_;simp only[go_sem,ntmps75,f75]);(refine aL λq H=>?_);simp only[go_sem,H];(refine aL λc B=>?_);simp only[go_sem,H,B];(refine aL λp O=>?_);simp only[go_sem,H,B,O];have z:((s.setO q (.cells 61 [.ptr r 0])).setO c (.cells 67 t.cs)).ge s:=by simp only[Tm.cs];exact aK
 have u:((s.setO q (.cells 61 [.ptr r 0])).setO c (.cells 67 t.cs)).getO p=none:=by simp only[aX,O,dY]
 have G:¬ c=q:=λe=>by subst e;simp at B
 refine aAv (aSz ((s.setO q (.cells 61 [.ptr r 0])).setO c (.cells 67 t.cs)) p q r sg u (by simp only[aX,dJ,aE G]) (h.ge z)) t 1 0 false () _ _ _ U
  ⟨by simp only[Tm.cs];exact aZ (by simp only[Tm.cs]at u;exact u) (aC _),by rw[aX,aF rfl]⟩ (λZ v4 y S=>?_)
 have M:=y.ob;rw[aVv,gJ]at M;simp only[go_sem,M];exact aD Y (y.ge.trans z)
end
theorem aRC{l:List Tm}{i:Nat}{x:Tm}(h:l[i]?=some x):mG (l.drop i)=x::mG (l.drop (i+2)):=by
 obtain⟨y,rfl⟩:=cX.1 h;rw[rA y];by_cases u:i+1<l.length
 .rw[rA u];rfl
 .rw[dB aB,dB aB];rfl
theorem aWt(s0:St)(p:Nat)(b2:s0.getO p=none):WalkOk (λa x=>a&&zO x) (BxI s0 p 4 A.bool) (mY p) 134 [.ptr p 0] where
 st:=BxI.st
 fr:=BxI.fr
 go := by
  intro n a v x b8 s KV Kp bb hI M;simp only[bE,bL];have gp:=hI.ob;(refine aO func134 [0,2,3,5,6,21,26] ?_;simp only[go_sem,ntmps134,f134]);(refine aL λc Z=>?_);have S:(s.setO c (.cells 67 x.cs)).ge s:=aZ Z (aC s);have e1:=aM gp Z;have b4:BxI s0 p 4 A.bool n a v (s.setO c (.cells 67 x.cs)):=(hI.keep S).1;by_cases h8:x.kind=8
  .have d6:decide (x.kind=6)=false:=by rw[h8];rfl
   have d8:decide (x.kind=8)=true:=cF h8;have b3:zO x=(mG x.kids).all vL:=by unfold zO;rw[d6,d8];rfl
   rw[b3]at M;obtain⟨O,z⟩:=b4.set (n:=n) b2 a;have z:=(Keep.ge (Ow:=mY p) S v).trans z
   have b9:s0.getO c=none:=by
    cases h0:s0.getO c with
    | none=>rfl
    | some o=>rw[hI.ge.ob c o h0]at Z;cases Z
   have b5:((s.setO c (.cells 67 x.cs)).setO p (.cells 4 [.bool a])).getO c=some (.cells 67 x.cs):=by rw[aX,aE (λe=>e1.1 e),aX,aF rfl]
   generalize hT:(a&&(mG x.kids).all vL)=tgt at M;simp only[Tm.cs]at O z b5;cases a<;>simp only[go_sem,Z,gp,e1,d6,d8]
   all_goals
    refine Ex.loop (ι:=Nat × Bool × St) (λd=>[(2,.ptr p 0),(3,.ptr c 0),(5,.int .i64 (d.1:Nat))]) (λd=>d.2.2)
     (λd=>d.1<=x.kids.length+1/\(d.2.1&&(mG (x.kids.drop d.1)).all vL)=tgt/\BxI s0 p 4 A.bool n d.2.1 v d.2.2/\Keep (mY p) s v d.2.2 v/\d.2.2.getO c=some (.cells 67 x.cs)) (λd=>x.kids.length+1-d.1) (0,_,_)
     ⟨aN _,hT,O,z,b5⟩ ?_ (aC _) ?_
    .simp only[go_sem]
     try rfl
    .rintro⟨i,b,s1⟩ ⟨hi,B,Y,b1,H⟩;simp only at hi B Y b1 H;have g1:=Y.ob;simp only[Tm.cs]at H;refine aQ (V:=[0,2,3,5,6,21,26]) _ _ _ _ ?_;simp only[go_sem,H]
     (apply aI<;>intro h)<;>simp only[go_sem,h,H]
     .have b6:i<x.kids.length:=gQ h;clear h;obtain⟨y,hy⟩:=aU b6;have b7:=aRC hy;rw[b7,eG,<-Bool.and_assoc]at B;simp only[go_sem,H,hy,b6];(refine aL λd hd=>?_);have f1:=aM g1 hd;have f2:=aM H hd
      have w2:IntKind.i64.wrap ((i:Int)+2)=((i+2:Nat):Int):=by
       rw[gT _ aB aB];omega
      have b0:(s1.setO d (.cells 67 y.cs)).ge s1:=aZ hd (aC _);obtain⟨U,G⟩:=((Y.keep b0).1:BxI s0 p 4 A.bool n b v _).set (n:=n) b2 (b&&vL y);have G:=(b1.trans (Keep.ge (Ow:=mY p) b0 v)).trans G
      have u:((s1.setO d (.cells 67 y.cs)).setO p (.cells 4 [.bool (b&&vL y)])).getO c=some (.cells 67 x.cs):=by
       rw[aX,aE (λe=>e1.1 e),aX,aE (λe=>f2.1 e.symm)];simp only[Tm.cs];exact H
      simp only[Tm.cs]at U G u;cases b
      .simp only[go_sem,hd,f1,f2,g1,H];simp only[eY]at B U G u;exact⟨(i+2,false,_),⟨bD,by rw[<-B];rfl,U,G,u⟩,bD,w2,aC _⟩
      .simp only[go_sem,hd,f1,f2,g1,H];refine aP0 y ?_;simp only[dD,vL]at B U G u;cases c1:wZ y<;>rw[c1]at B U G u<;>simp only[go_sem,hd,f1,f2,g1,H]
       .cases c2:decide (y.kind=6)<;>rw[c2]at B U G u<;>simp only[go_sem,hd,f1,f2,g1,H,c2]
        .exact⟨(i+2,_,_),⟨bD,B,U,G,u⟩,bD,w2,aC _⟩
        .cases c3:decide (y.text=[95])<;>rw[c3]at B U G u<;>(try simp only[go_sem,hd,f1,f2,g1,H,c2,c3])
         .exact⟨(i+2,_,_),⟨bD,B,U,G,u⟩,bD,w2,aC _⟩
         .exact⟨(i+2,_,_),⟨bD,B,U,G,u⟩,bD,w2,aC _⟩
       .exact⟨(i+2,_,_),⟨bD,B,U,G,u⟩,bD,w2,aC _⟩
     .have S:x.kids.length<=i:=Nat.le_of_not_lt (gQ h);rw[dB S]at B;simp only[mG,nF,dT]at B;subst B;exact aS (M _ _ Y b1)
  .have d8:decide (x.kind=8)=false:=bN h8;have b3:zO x=!(decide (x.kind=6)&&decide (x.text=[36])):=by unfold zO;rw[d8];simp
   rw[b3]at M;obtain⟨O,z⟩:=b4.set (n:=n) b2 (a&&!(decide (x.kind=6)&&decide (x.text=[36])));have z:=(Keep.ge (Ow:=mY p) S v).trans z;simp only[Tm.cs]at O z;cases a
   .simp only[eY]at M O z;simp only[go_sem,Z,gp,e1,d8];exact aS (M _ _ O z)
   .simp only[dD]at M O z;cases c1:decide (x.kind=6)<;>rw[c1]at M O z<;>simp only[go_sem,Z,gp,e1,d8,c1]
    .exact aS (M _ _ O z)
    .cases c2:decide (x.text=[36])<;>rw[c2]at M O z<;>simp only[go_sem,Z,gp,e1,d8,c1,c2]
     .exact aS (M _ _ O z)
     .exact aS (M _ _ O z)
section
theorem dU{C:Cx}{f:FuncId}{l u:List A}{KV Kp:St->A->Prop}{s:St}(h:Den C f l KV Kp s)(e:u=l):Den C f u KV Kp s:=by rw[e];exact h
theorem aBu(t:Tm):[t].map Tm.enc=[.agg t.cs]:=by simp only[List.map,fZ]
theorem aJo{r:Nat}{sg:Sig}{s:St}{KV Kp:St->A->Prop}(h:BookAt s r sg)(t:Tm)(hw:TmW t)(hb:t.pre.length<=4294967200)(u:KV s (.bool (mC sg t))):Den cx 76 [.ptr r 0,.agg t.cs] KV Kp s:=by
 unfold mC at u;(refine aO func76 [0,1,3,4,6,7,21] ?_;simp only[go_sem,ntmps76,f76]);(refine aL λc z=>?_);have O:BookAt (s.setO c (.cells 67 t.cs)) r sg:=h.ge (aZ z (aC s));simp only[Tm.cs]at O;simp only[go_sem,z];refine aJ9 t hw _ _ _ ?_;cases Y:(Tm.val 60 t 0).isSome<;>rw[Y]at u<;>simp only[go_sem,z]
 .exact aD u aK
 refine aJS t O ?_;cases Z:eB sg t<;>rw[Z]at u<;>simp only[go_sem,z]
 .exact aD u aK
 refine aI6 O t aB ?_;cases c3:pD sg t<;>rw[c3]at u<;>simp only[go_sem,z]
 rotate_left
 .exact aD u aK
 refine dU (aJc [t] (by simp only[aP,cK];omega) _ _ _ (λG m B=>?_)) (by rw[aBu];rfl);have H:G.getO c=some (.cells 67 t.cs):=B.ob _ _ (by simp only[aX,dJ];rfl);simp only[Tm.cs]at H;simp only[go_sem,H];(refine aL λp M=>?_);have e1:=aM H M;simp only[go_sem,H,M,e1];have S:G.ge s:=B.trans aK;have h0:BxI G p 4 A.bool (t.pre.length+0) (decide (pM [t]=[])) () (G.setO p (.cells 4 [.bool (decide (pM [t]=[]))])):=⟨aZ M (aC _),by rw[aX,aF rfl]⟩;refine aAv (aWt G p M) t 1 0 _ () _ _ _ aB h0 (λs4 v4 y b0=>?_);have U:=y.ob;rw[aTj]at U;simp only[go_sem,U];exact aD u (y.ge.trans S)
def CK(KV Kp:St->A->Prop)(s:St):Option Fault->Prop
 | none=>KV s (.tuple [])
 | some f=>Kp s (.iface 36 f.enc)
section
variable {s:St} {KV Kp:St->A->Prop}
theorem lR{a b:Option Fault}(h:CK KV Kp s (aH a b)){u y:St->A->Prop}{s':St}(z:CK KV Kp s b->u s' (.tuple []))(B:∀f:Fault,Kp s (.iface 36 f.enc)->y s' (.iface 36 f.enc)):CK u y s' a:=by
 cases a with
 | none=>exact z h
 | some f=>exact B f h
theorem aRD(h:Int)(n:aA)(l c:Int)(u:Kp s (.iface 36 (⟨h,n,l,c⟩:Fault).enc)):Den cx 58 [.int .i64 h,.str n,.int .i64 l,.int .i64 c] KV Kp s:=by
 (refine aO func58 [0,1,2,3] ?_;simp only[go_sem,ntmps58,f58]);exact aS u
theorem fA(h:Int)(n:aA)(l c:Int)(u:Kp s (.iface 36 (⟨h,n,l,c⟩:Fault).enc)):Den cx 24 [.agg [.int .i64 l,.int .i64 c],.int .i64 h,.str n] KV Kp s:=by
 (refine aO func24 [0,1,2,3] ?_;simp only[go_sem,ntmps24,f24]);(refine aL λp y=>?_);simp only[go_sem,y];refine aRD h n l c ?_;simp only[go_sem];exact aD u aK
def CkAt(s:St)(c:Nat)(d:Dfn):Prop:=∃r,s.getO c=some (.cells 64 (d.cs++[.ptr r 0]))/\BookAt s r d.sig
theorem CkAt.ge{s s':St}{c:Nat}{d:Dfn}(h:CkAt s c d)(u:s'.ge s):CkAt s' c d:=by
 obtain⟨r,y,z⟩:=h;exact⟨r,u.ob _ _ y,z.ge u⟩
variable {c:Nat} {d:Dfn}
theorem aRc(h:CkAt s c d)(t:Tm)(G:KV s (.str (lT d.sig t))):Den cx 138 [.ptr c 0,.agg t.cs] KV Kp s:=by
 obtain⟨r,u,B⟩:=h;(refine aO func138 [0,1,3,4] ?_;simp only[go_sem,ntmps138,f138]);(refine aL λp y=>?_);have z:=aM u y;simp only[go_sem,y,z,u];(refine bX (OT.r 0 7) [] ?_;simp only[go_sem,y,z,u]);refine aJb (B.ge (by exact aK)) t ?_;simp only[go_sem];exact aD G aK
theorem aAn(h:CkAt s c d)(n:aA)(l k:Int)(t:Tm)(S:aA)(B:CK KV Kp s (jL d.sig n l k t S)):Den cx 79 [.ptr c 0,.agg [.int .i64 l,.int .i64 k],.str n,.agg t.cs,.str S] KV Kp s:=by
 have M:=h;obtain⟨r,y,O⟩:=h;unfold jL bC at B;(refine aO func79 [0,1,2,3,4,6,8,19] ?_;simp only[go_sem,ntmps79,f79]);(refine aL λp u=>?_);simp only[go_sem,u];(refine aL λq z=>?_);have G:=aM y u;have H:=aM y z.2;simp only[go_sem,u,z,y,G,H];(refine bX (OT.l [0,1,2,3,4,5,7,6,8,9] .nil) [(6,[3])] ?_;simp only[go_sem,u,z,G,H,y]);refine aRc (M.ge (by exact aK)) t ?_;simp only[go_sem,u,z,G,H,y];refine aJZ (O.ge (by exact aK)) _ S ?_;cases U:mS d.sig (lT d.sig t) S<;>rw[U]at B<;>simp only[go_sem,u,z]
 .refine fA 16 n l k ?_;simp only[go_sem];exact aD B aK
 .exact aD B aK
theorem aBV(h:CkAt s c d)(n:aA)(l k:Int)(ts:List Tm)(G:CK KV Kp s (lG d.sig n l k ts)):Den cx 74 [.ptr c 0,.agg [.int .i64 l,.int .i64 k],.str n,.list none (ts.map Tm.enc)] KV Kp s:=by
 refine gC λM=>?_
 have Z:Rlz (.list none (ts.map Tm.enc)):=M _ aV;clear M;obtain⟨r,B,hB⟩:=h;unfold lG bC at G;(refine aO func74 [0,1,2,3,5,9,10,11,12,13,22] ?_;simp only[go_sem,ntmps74,f74]);(refine aL λp z=>?_);have S:=aM B z;simp only[go_sem,z,B,S]
 refine Ex.loop (ι:=Nat) (λi=>[(0,.ptr c 0),(2,.str n),(5,.ptr p 0),(10,.list none (ts.map Tm.enc)),(11,.int .i64 (ts.length:Nat)),(12,.int .i64 (i:Nat))])
  (λ_=>s.setO p (.cells 58 [.int .i64 l,.int .i64 k])) (λi=>i<=ts.length/\(ts.take i).all (eB d.sig)=true) (λi=>ts.length-i) 0 ⟨aN _,rfl⟩ ?_ (aC _) ?_
 .simp only[go_sem]
  try exact rfl
 .rintro i ⟨hi,u⟩;refine aQ (V:=[0,1,2,3,5,9,10,11,12,13,22]) _ _ _ _ ?_;simp only[go_sem,z]
  (apply aI<;>intro h)<;>simp only[go_sem,h,z]
  .have y:i<ts.length:=gQ h;clear h;obtain⟨x,O⟩:=aU y;have b0:x∈ts:=bA O;have ht:(ts.take (i+1)).all (eB d.sig)=eB d.sig x:=by rw[fL,O,kP,u];simp
   simp only[go_sem,z,O,y];(refine aL λq H=>?_);have e2:=aM B H.2;simp only[go_sem,z,O,y,H,S,e2,B];(refine bX (OT.r 0 7) [] ?_;simp only[go_sem,z,H,S,e2,B]);refine aJS x (hB.ge (by exact aK)) ?_;cases U:eB d.sig x
   .simp only[go_sem,z,H]
    have e:ts.all (eB d.sig)=false:=by
     rw[iV];intro e;rw[cL]at e;rw[e x b0]at U;cases U
    rw[e]at G;refine fA 16 n l k ?_;simp only[go_sem];exact aD G aK
   .simp only[go_sem,z,H];exact⟨i+1,⟨y,by rw[ht,U]⟩,by omega,Z.wrap (i:=i) (gQ y),eE⟩
  .have Y:=bI hi h;subst Y;rw[bK]at u;rw[u]at G;exact aD G aK
theorem aQP(l k:Int)(ts:List Tm)(H:(aP ts).length<=4294967200)(y:CK KV Kp s (vM l k ts)):Den cx 77 [.agg [.int .i64 l,.int .i64 k],.list none (ts.map Tm.enc)] KV Kp s:=by
 unfold vM bC at y;(refine aO func77 [0,1,2,5,12] ?_;simp only[go_sem,ntmps77,f77]);(refine aL λp M=>?_);simp only[go_sem,M];refine aJc ts H _ _ _ (λB m u=>?_);have G:B.getO p=some (.cells 58 [.int .i64 l,.int .i64 k]):=u.ob _ _ gH;have h:B.ge s:=u.trans aK;cases z:decide (pM ts=[])<;>rw[z]at y<;>simp only[go_sem,G,z]
 .refine fA 16 _ l k ?_;simp only[go_sem];exact aD y h
 .exact aD y h
end
theorem cJ{C:Cx}{f:FuncId}{l u:List A}{KV Kp:St->A->Prop}{s:St}(h:Den C f l KV Kp s)(e:u=l:=by simp only[go_sem]):Den C f u KV Kp s:=dU h e
end
end Go.AV
